/- InheritOrigin: its walk. -/
import Derived.Test.YtgocgjfaiddejaaKB
import Derived.Test.YtgocgjfaiddejaaSQ
import Derived.Test.YtgocgjfaiddejaaF20
namespace Go.Proofs.Ytgocgjfaiddejaa.M
open Go.RowKit Go.Proofs.YtgocgjfaiddejaaW.PrintWords Go.Proofs.YtgocgjfaiddejaaW.PrintLast Go.Proofs.YtgocgjfaiddejaaW.PrintMore
set_option linter.unusedVariables false
set_option linter.unusedSimpArgs false
set_option linter.unnecessarySimpa false

theorem has_bits (k : Nat) (n : Nat) (hn : n < 32) (hk : k = 1 ∨ k = 2 ∨ k = 4 ∨ k = 8 ∨ k = 16) : ((Int.tmod (wrap64 (Int.tdiv (n : Int) (k : Int))) 2) == 1) = hasB (n : Int) (k : Int) := by
  have : ∀ n : Fin 32, ∀ k : Fin 17, (k = 1 ∨ k = 2 ∨ k = 4 ∨ k = 8 ∨ k = 16) → ((Int.tmod (wrap64 (Int.tdiv ((n : Nat) : Int) ((k : Nat) : Int))) 2) == 1) = hasB ((n : Nat) : Int) ((k : Nat) : Int) := by decide +kernel
  exact this ⟨n, hn⟩ ⟨k, by omega⟩ (by rcases hk with rfl | rfl | rfl | rfl | rfl <;> simp)
theorem has16 {x : S37} (h : vAce x = true) : archivoltref23_Has.f x.f0 x.f1 x.f2 x.f3 16 = some (hadB x) := by
  unfold vAce at h
  simp only [Bool.and_eq_true, decide_eq_true_eq] at h
  unfold archivoltref23_Has.f
  rw [if_neg (by decide)]
  congr 1
  exact flag_cases h.1.2 h.2 (fun f => ((Int.tmod (wrap64 (Int.tdiv f 16)) 2) == 1) = hasB f 16) (fun n hn => has_bits 16 n hn (by simp))
set_option maxRecDepth 100000 in
set_option maxHeartbeats 2000000 in
theorem origin_small (A : Option Addr) (c : Nat) (l : List S35) (k i : Int) (w : World) (hr : k35.C w A l.length l) (hs : smallB l = false) :
    Calls Try.prog 4 #[.slice A l.length c, .int .i64 k, .int .i64 i] w fun e w' => e = .returned (.bool true) ∧ Below w.heap.size w w' := by
  have HR := Aside0.mk hr
  have HSM := Aside0.mk hs
  clear hr hs
  go_enter Try.func4, Try.ntmps4
  go_wp2_with (first | ((with_reducible refine gate_dst (N := 16) rfl ?_); refine goesL_ (some 16) rfl rfl Try.func14 (by kernel_rfl) rfl #[.slice A l.length c] rfl (by (try simp only [List.map_toArray, List.map_cons, List.map_nil]); first | done | rfl) ?_; refine (small_calls A c l _ HR.out).mono ?_; rintro e w0 ⟨rfl, hb⟩; refine ⟨_, rfl, ?_⟩; rw [HSM.out]; have HB0 := Aside0.mk hb; clear hb) | ((with_reducible refine gate_dst (N := 18) rfl ?_); refine goesL_ (some 18) rfl rfl Try.func15 (by kernel_rfl) rfl #[] rfl (by (try simp only [List.map_toArray, List.map_cons, List.map_nil]); first | done | rfl) ?_; refine (sane_calls _).mono ?_; rintro e w9 ⟨rfl, hb⟩; refine ⟨_, rfl, ?_⟩; have HB9 := Aside0.mk (below_step HB0.out hb);  clear hb))
  go_ret
  exact ⟨rfl, HB9.out⟩
set_option maxRecDepth 100000 in
set_option maxHeartbeats 2000000 in
theorem origin_err (A : Option Addr) (c : Nat) (l : List S35) (k i : Int) (w : World) (hr : k35.C w A l.length l) (hs : smallB l = true) (s : List S35) (er : Int) (hsp : sSpread l = (s, er)) (he : ¬ er = 0) :
    Calls Try.prog 4 #[.slice A l.length c, .int .i64 k, .int .i64 i] w fun e w' => e = .returned (.bool true) ∧ Below w.heap.size w w' := by
  have HR := Aside0.mk hr
  have HSM := Aside0.mk hs
  have HSP := Aside0.mk hsp
  have he2 : decide (er = 0) = false := by simpa using he
  clear hr hs hsp
  go_enter Try.func4, Try.ntmps4
  go_wp2_with (first | ((with_reducible refine gate_dst (N := 16) rfl ?_); refine goesL_ (some 16) rfl rfl Try.func14 (by kernel_rfl) rfl #[.slice A l.length c] rfl (by (try simp only [List.map_toArray, List.map_cons, List.map_nil]); first | done | rfl) ?_; refine (small_calls A c l _ HR.out).mono ?_; rintro e w0 ⟨rfl, hb⟩; refine ⟨_, rfl, ?_⟩; rw [HSM.out]; have HB0 := Aside0.mk hb; clear hb) | ((with_reducible refine gate_dst (N := 21) rfl ?_); refine goesL_ (some 21) rfl rfl Try.func19 (by kernel_rfl) rfl #[.slice A l.length c] rfl (by (try simp only [List.map_toArray, List.map_cons, List.map_nil]); first | done | rfl) ?_; refine (Spread_calls A c l _ (Kd.C_below HR.out HB0.out)).mono ?_; rw [HSP.out]; rintro e w1 ⟨v, rfl, hra, hb⟩; refine ⟨_, rfl, ?_⟩; replace hra : RT w1 _ v s := hra; obtain ⟨A1, c1, rfl⟩ := Kd.R_slice hra; have HB1 := Aside0.mk (below_step HB0.out hb); have HR1 := Aside0.mk (Kd.R_reads' hra).2.2; clear hra hb) | ((with_reducible refine gate_dst (N := 26) rfl ?_); refine goesL_ (some 26) rfl rfl Try.func15 (by kernel_rfl) rfl #[] rfl (by (try simp only [List.map_toArray, List.map_cons, List.map_nil]); first | done | rfl) ?_; refine (sane_calls _).mono ?_; rintro e w9 ⟨rfl, hb⟩; refine ⟨_, rfl, ?_⟩; have HB9 := Aside0.mk (below_step HB1.out hb);  clear hb))
  go_ret
  exact ⟨rfl, HB9.out⟩
set_option maxRecDepth 100000 in
set_option maxHeartbeats 2000000 in
theorem origin_a (A : Option Addr) (c : Nat) (l : List S35) (k i : Int) (w : World) (hr : k35.C w A l.length l) (hs : smallB l = true) (s : List S35) (hsp : sSpread l = (s, 0)) (hso : sSource s k i = (0, 0, 3)) (h1 : k < 0) :
    Calls Try.prog 4 #[.slice A l.length c, .int .i64 k, .int .i64 i] w fun e w' => e = .returned (.bool true) ∧ Below w.heap.size w w' := by
  have HR := Aside0.mk hr
  have HSM := Aside0.mk hs
  have HSP := Aside0.mk hsp
  have HSO := Aside0.mk hso
  have d1 : decide (k < 0) = true := by simpa using h1
  clear hr hs hsp hso h1
  go_enter Try.func4, Try.ntmps4
  go_wp2_with (first | ((with_reducible refine gate_dst (N := 16) rfl ?_); refine goesL_ (some 16) rfl rfl Try.func14 (by kernel_rfl) rfl #[.slice A l.length c] rfl (by (try simp only [List.map_toArray, List.map_cons, List.map_nil]); first | done | rfl) ?_; refine (small_calls A c l _ HR.out).mono ?_; rintro e w0 ⟨rfl, hb⟩; refine ⟨_, rfl, ?_⟩; rw [HSM.out]; have HB0 := Aside0.mk hb; clear hb) | ((with_reducible refine gate_dst (N := 21) rfl ?_); refine goesL_ (some 21) rfl rfl Try.func19 (by kernel_rfl) rfl #[.slice A l.length c] rfl (by (try simp only [List.map_toArray, List.map_cons, List.map_nil]); first | done | rfl) ?_; refine (Spread_calls A c l _ (Kd.C_below HR.out HB0.out)).mono ?_; rw [HSP.out]; rintro e w1 ⟨v, rfl, hra, hb⟩; refine ⟨_, rfl, ?_⟩; replace hra : RT w1 _ v s := hra; obtain ⟨A1, c1, rfl⟩ := Kd.R_slice hra; have HB1 := Aside0.mk (below_step HB0.out hb); have HR1 := Aside0.mk (Kd.R_reads' hra).2.2; clear hra hb) | ((with_reducible refine gate_dst (N := 31) rfl ?_); refine goesL_ (some 31) rfl rfl Try.func16 (by kernel_rfl) rfl #[.slice A1 s.length c1, .int .i64 k, .int .i64 i] rfl (by (try simp only [List.map_toArray, List.map_cons, List.map_nil]); first | done | rfl) ?_; refine (Source_calls A1 c1 s k i _ HR1.out).mono ?_; rw [HSO.out]; rintro e w2 ⟨rfl, hb⟩; refine ⟨_, rfl, ?_⟩; have HB2 := Aside0.mk (below_step HB1.out hb); have HR2 := Aside0.mk (Kd.C_below HR1.out hb); clear hb) | ((with_reducible refine gate_dst (N := 37) rfl ?_); refine goesL_ (some 37) rfl rfl Try.func15 (by kernel_rfl) rfl #[] rfl (by (try simp only [List.map_toArray, List.map_cons, List.map_nil]); first | done | rfl) ?_; refine (sane_calls _).mono ?_; rintro e w9 ⟨rfl, hb⟩; refine ⟨_, rfl, ?_⟩; have HB9 := Aside0.mk (below_step HB2.out hb);  clear hb))
  go_ret
  exact ⟨rfl, HB9.out⟩
set_option maxRecDepth 100000 in
set_option maxHeartbeats 2000000 in
theorem origin_b (A : Option Addr) (c : Nat) (l : List S35) (kk : Nat) (i : Int) (w : World) (hr : k35.C w A l.length l) (hs : smallB l = true) (s : List S35) (hsp : sSpread l = (s, 0)) (hso : sSource s (kk : Int) i = (0, 0, 3)) (h1 : s.length ≤ kk) :
    Calls Try.prog 4 #[.slice A l.length c, .int .i64 (kk : Int), .int .i64 i] w fun e w' => e = .returned (.bool true) ∧ Below w.heap.size w w' := by
  have HR := Aside0.mk hr
  have HSM := Aside0.mk hs
  have HSP := Aside0.mk hsp
  have HSO := Aside0.mk hso
  have d0 : decide ((kk : Int) < 0) = false := decide_eq_false (by omega)
  have d1 : decide (s.length ≤ kk) = true := by simpa using h1
  clear hr hs hsp hso h1
  go_enter Try.func4, Try.ntmps4
  go_wp2_with (first | ((with_reducible refine gate_dst (N := 16) rfl ?_); refine goesL_ (some 16) rfl rfl Try.func14 (by kernel_rfl) rfl #[.slice A l.length c] rfl (by (try simp only [List.map_toArray, List.map_cons, List.map_nil]); first | done | rfl) ?_; refine (small_calls A c l _ HR.out).mono ?_; rintro e w0 ⟨rfl, hb⟩; refine ⟨_, rfl, ?_⟩; rw [HSM.out]; have HB0 := Aside0.mk hb; clear hb) | ((with_reducible refine gate_dst (N := 21) rfl ?_); refine goesL_ (some 21) rfl rfl Try.func19 (by kernel_rfl) rfl #[.slice A l.length c] rfl (by (try simp only [List.map_toArray, List.map_cons, List.map_nil]); first | done | rfl) ?_; refine (Spread_calls A c l _ (Kd.C_below HR.out HB0.out)).mono ?_; rw [HSP.out]; rintro e w1 ⟨v, rfl, hra, hb⟩; refine ⟨_, rfl, ?_⟩; replace hra : RT w1 _ v s := hra; obtain ⟨A1, c1, rfl⟩ := Kd.R_slice hra; have HB1 := Aside0.mk (below_step HB0.out hb); have HR1 := Aside0.mk (Kd.R_reads' hra).2.2; clear hra hb) | ((with_reducible refine gate_dst (N := 31) rfl ?_); refine goesL_ (some 31) rfl rfl Try.func16 (by kernel_rfl) rfl #[.slice A1 s.length c1, .int .i64 (kk : Int), .int .i64 i] rfl (by (try simp only [List.map_toArray, List.map_cons, List.map_nil]); first | done | rfl) ?_; refine (Source_calls A1 c1 s (kk : Int) i _ HR1.out).mono ?_; rw [HSO.out]; rintro e w2 ⟨rfl, hb⟩; refine ⟨_, rfl, ?_⟩; have HB2 := Aside0.mk (below_step HB1.out hb); have HR2 := Aside0.mk (Kd.C_below HR1.out hb); clear hb) | ((with_reducible refine gate_dst (N := 37) rfl ?_); refine goesL_ (some 37) rfl rfl Try.func15 (by kernel_rfl) rfl #[] rfl (by (try simp only [List.map_toArray, List.map_cons, List.map_nil]); first | done | rfl) ?_; refine (sane_calls _).mono ?_; rintro e w9 ⟨rfl, hb⟩; refine ⟨_, rfl, ?_⟩; have HB9 := Aside0.mk (below_step HB2.out hb);  clear hb))
  go_ret
  exact ⟨rfl, HB9.out⟩
set_option maxRecDepth 100000 in
set_option maxHeartbeats 2000000 in
theorem origin_c (A : Option Addr) (c : Nat) (l : List S35) (kk : Nat) (i : Int) (w : World) (hr : k35.C w A l.length l) (hs : smallB l = true) (s : List S35) (hsp : sSpread l = (s, 0)) (hso : sSource s (kk : Int) i = (0, 0, 3)) (h1 : kk < s.length) (h2 : i < 0) :
    Calls Try.prog 4 #[.slice A l.length c, .int .i64 (kk : Int), .int .i64 i] w fun e w' => e = .returned (.bool true) ∧ Below w.heap.size w w' := by
  have HR := Aside0.mk hr
  have HSM := Aside0.mk hs
  have HSP := Aside0.mk hsp
  have HSO := Aside0.mk hso
  have d0 : decide ((kk : Int) < 0) = false := decide_eq_false (by omega)
  have d1 : decide (s.length ≤ kk) = false := decide_eq_false (by omega)
  have d2 : decide (i < 0) = true := by simpa using h2
  clear hr hs hsp hso h1 h2
  go_enter Try.func4, Try.ntmps4
  go_wp2_with (first | ((with_reducible refine gate_dst (N := 16) rfl ?_); refine goesL_ (some 16) rfl rfl Try.func14 (by kernel_rfl) rfl #[.slice A l.length c] rfl (by (try simp only [List.map_toArray, List.map_cons, List.map_nil]); first | done | rfl) ?_; refine (small_calls A c l _ HR.out).mono ?_; rintro e w0 ⟨rfl, hb⟩; refine ⟨_, rfl, ?_⟩; rw [HSM.out]; have HB0 := Aside0.mk hb; clear hb) | ((with_reducible refine gate_dst (N := 21) rfl ?_); refine goesL_ (some 21) rfl rfl Try.func19 (by kernel_rfl) rfl #[.slice A l.length c] rfl (by (try simp only [List.map_toArray, List.map_cons, List.map_nil]); first | done | rfl) ?_; refine (Spread_calls A c l _ (Kd.C_below HR.out HB0.out)).mono ?_; rw [HSP.out]; rintro e w1 ⟨v, rfl, hra, hb⟩; refine ⟨_, rfl, ?_⟩; replace hra : RT w1 _ v s := hra; obtain ⟨A1, c1, rfl⟩ := Kd.R_slice hra; have HB1 := Aside0.mk (below_step HB0.out hb); have HR1 := Aside0.mk (Kd.R_reads' hra).2.2; clear hra hb) | ((with_reducible refine gate_dst (N := 31) rfl ?_); refine goesL_ (some 31) rfl rfl Try.func16 (by kernel_rfl) rfl #[.slice A1 s.length c1, .int .i64 (kk : Int), .int .i64 i] rfl (by (try simp only [List.map_toArray, List.map_cons, List.map_nil]); first | done | rfl) ?_; refine (Source_calls A1 c1 s (kk : Int) i _ HR1.out).mono ?_; rw [HSO.out]; rintro e w2 ⟨rfl, hb⟩; refine ⟨_, rfl, ?_⟩; have HB2 := Aside0.mk (below_step HB1.out hb); have HR2 := Aside0.mk (Kd.C_below HR1.out hb); clear hb) | ((with_reducible refine gate_dst (N := 37) rfl ?_); refine goesL_ (some 37) rfl rfl Try.func15 (by kernel_rfl) rfl #[] rfl (by (try simp only [List.map_toArray, List.map_cons, List.map_nil]); first | done | rfl) ?_; refine (sane_calls _).mono ?_; rintro e w9 ⟨rfl, hb⟩; refine ⟨_, rfl, ?_⟩; have HB9 := Aside0.mk (below_step HB2.out hb);  clear hb))
  go_ret
  exact ⟨rfl, HB9.out⟩
set_option maxRecDepth 100000 in
set_option maxHeartbeats 2000000 in
theorem origin_d (A : Option Addr) (c : Nat) (l : List S35) (kk ii : Nat) (w : World) (hr : k35.C w A l.length l) (hs : smallB l = true) (s : List S35) (hsp : sSpread l = (s, 0)) (hso : sSource s (kk : Int) (ii : Int) = (0, 0, 3)) (h1 : kk < s.length) (h2 : (rd_T35 s kk).f2.f2.length ≤ ii) :
    Calls Try.prog 4 #[.slice A l.length c, .int .i64 (kk : Int), .int .i64 (ii : Int)] w fun e w' => e = .returned (.bool true) ∧ Below w.heap.size w w' := by
  have HR := Aside0.mk hr
  have HSM := Aside0.mk hs
  have HSP := Aside0.mk hsp
  have HSO := Aside0.mk hso
  have d0 : decide ((kk : Int) < 0) = false := decide_eq_false (by omega)
  have d1 : decide (s.length ≤ kk) = false := decide_eq_false (by omega)
  have d2 : decide ((ii : Int) < 0) = false := decide_eq_false (by omega)
  have d3 : decide ((rd_T35 s kk).f2.f2.length ≤ ii) = true := by simpa using h2
  clear hr hs hsp hso h2
  go_enter Try.func4, Try.ntmps4
  go_wp2_with (first | ((with_reducible refine gate_dst (N := 16) rfl ?_); refine goesL_ (some 16) rfl rfl Try.func14 (by kernel_rfl) rfl #[.slice A l.length c] rfl (by (try simp only [List.map_toArray, List.map_cons, List.map_nil]); first | done | rfl) ?_; refine (small_calls A c l _ HR.out).mono ?_; rintro e w0 ⟨rfl, hb⟩; refine ⟨_, rfl, ?_⟩; rw [HSM.out]; have HB0 := Aside0.mk hb; clear hb) | ((with_reducible refine gate_dst (N := 21) rfl ?_); refine goesL_ (some 21) rfl rfl Try.func19 (by kernel_rfl) rfl #[.slice A l.length c] rfl (by (try simp only [List.map_toArray, List.map_cons, List.map_nil]); first | done | rfl) ?_; refine (Spread_calls A c l _ (Kd.C_below HR.out HB0.out)).mono ?_; rw [HSP.out]; rintro e w1 ⟨v, rfl, hra, hb⟩; refine ⟨_, rfl, ?_⟩; replace hra : RT w1 _ v s := hra; obtain ⟨A1, c1, rfl⟩ := Kd.R_slice hra; have HB1 := Aside0.mk (below_step HB0.out hb); have HR1 := Aside0.mk (Kd.R_reads' hra).2.2; clear hra hb) | ((with_reducible refine gate_dst (N := 31) rfl ?_); refine goesL_ (some 31) rfl rfl Try.func16 (by kernel_rfl) rfl #[.slice A1 s.length c1, .int .i64 (kk : Int), .int .i64 (ii : Int)] rfl (by (try simp only [List.map_toArray, List.map_cons, List.map_nil]); first | done | rfl) ?_; refine (Source_calls A1 c1 s (kk : Int) (ii : Int) _ HR1.out).mono ?_; rw [HSO.out]; rintro e w2 ⟨rfl, hb⟩; refine ⟨_, rfl, ?_⟩; have HB2 := Aside0.mk (below_step HB1.out hb); have HR2 := Aside0.mk (Kd.C_below HR1.out hb); clear hb) | ((with_reducible refine gate_dst (N := 37) rfl ?_); refine goesL_ (some 37) rfl rfl Try.func15 (by kernel_rfl) rfl #[] rfl (by (try simp only [List.map_toArray, List.map_cons, List.map_nil]); first | done | rfl) ?_; refine (sane_calls _).mono ?_; rintro e w9 ⟨rfl, hb⟩; refine ⟨_, rfl, ?_⟩; have HB9 := Aside0.mk (below_step HB2.out hb); obtain ⟨ad, Ak, ck, rfl, _, _, _, _, x4, _, _⟩ := at_T35 (Kd.C_below HR2.out hb) (kk : Int) (by omega) (by omega); simp only [Int.toNat_natCast] at x4; clear hb))
  go_ret
  exact ⟨rfl, HB9.out⟩
theorem way_le {s : List S35} {k r : Nat} (h : Way s k r) : r ≤ k := by
  induction h with
  | here k => exact Nat.le_refl _
  | up k u r h0 hp hu hlt h ih => omega
set_option maxRecDepth 100000 in
set_option maxHeartbeats 2000000 in
theorem origin_in (A : Option Addr) (c : Nat) (l : List S35) (kk ii : Nat) (w : World) (hr : k35.C w A l.length l) (hs : smallB l = true) (s : List S35) (hsp : sSpread l = (s, 0)) (f e : Nat) (hso : sSource s (kk : Int) (ii : Int) = ((f : Int), (e : Int), 0))
    (hvs : vTree s = true) (h1 : kk < s.length) (h2 : ii < (rd_T35 s kk).f2.f2.length) (h3 : f < s.length) (h4 : e < (rd_T35 s f).f2.f2.length) (hw : Way s kk f)
    (e0 : (entry s kk ii).f0 = (entry s f e).f0) (e1 : (entry s kk ii).f1 = (entry s f e).f1) (e2 : (entry s kk ii).f2 = (entry s f e).f2) (hf : hadB (entry s f e) = false ∨ f = 0 ∨ (rd_T35 s f).f2.f1 = true) :
    Calls Try.prog 4 #[.slice A l.length c, .int .i64 (kk : Int), .int .i64 (ii : Int)] w fun e w' => e = .returned (.bool true) ∧ Below w.heap.size w w' := by
  have HR := Aside0.mk hr
  have HSM := Aside0.mk hs
  have HSP := Aside0.mk hsp
  have HSO := Aside0.mk hso
  have HW := Aside0.mk hw
  have HF := Aside0.mk hf
  have H1 := Aside0.mk h1
  have H3 := Aside0.mk h3
  have HA := Aside0.mk (And.intro e0 (And.intro e1 e2))
  have HBV := Aside0.mk (show vAce (entry s f e) = true by
    unfold entry
    rw [rd_at h4]
    exact List.all_eq_true.1 (vDesc_all (vTw_desc (vTree_at hvs h3))) _ (List.getElem_mem h4))
  have d0 : decide ((kk : Int) < 0) = false := decide_eq_false (by omega)
  have d1 : decide (s.length ≤ kk) = false := decide_eq_false (by omega)
  have d2 : decide ((ii : Int) < 0) = false := decide_eq_false (by omega)
  have d3 : decide ((rd_T35 s kk).f2.f2.length ≤ ii) = false := decide_eq_false (by omega)
  have d4 : decide ((f : Int) < 0) = false := decide_eq_false (by omega)
  have d5 : decide (s.length ≤ f) = false := decide_eq_false (by omega)
  have d6 : decide ((e : Int) < 0) = false := decide_eq_false (by omega)
  have d7 : decide ((rd_T35 s f).f2.f2.length ≤ e) = false := decide_eq_false (by omega)
  clear hr hs hsp hso hw hf e0 e1 e2 hvs
  go_enter Try.func4, Try.ntmps4
  go_upto_region 9 with (first | ((with_reducible refine gate_dst (N := 16) rfl ?_); refine goesL_ (some 16) rfl rfl Try.func14 (by kernel_rfl) rfl #[.slice A l.length c] rfl (by (try simp only [List.map_toArray, List.map_cons, List.map_nil]); first | done | rfl) ?_; refine (small_calls A c l _ HR.out).mono ?_; rintro e w0 ⟨rfl, hb⟩; refine ⟨_, rfl, ?_⟩; rw [HSM.out]; have HB0 := Aside0.mk hb; clear hb) | ((with_reducible refine gate_dst (N := 21) rfl ?_); refine goesL_ (some 21) rfl rfl Try.func19 (by kernel_rfl) rfl #[.slice A l.length c] rfl (by (try simp only [List.map_toArray, List.map_cons, List.map_nil]); first | done | rfl) ?_; refine (Spread_calls A c l _ (Kd.C_below HR.out HB0.out)).mono ?_; rw [HSP.out]; rintro e w1 ⟨v, rfl, hra, hb⟩; refine ⟨_, rfl, ?_⟩; replace hra : RT w1 _ v s := hra; obtain ⟨A1, c1, rfl⟩ := Kd.R_slice hra; have HB1 := Aside0.mk (below_step HB0.out hb); have HR1 := Aside0.mk (Kd.R_reads' hra).2.2; clear hra hb) | ((with_reducible refine gate_dst (N := 31) rfl ?_); refine goesL_ (some 31) rfl rfl Try.func16 (by kernel_rfl) rfl #[.slice A1 s.length c1, .int .i64 (kk : Int), .int .i64 (ii : Int)] rfl (by (try simp only [List.map_toArray, List.map_cons, List.map_nil]); first | done | rfl) ?_; refine (Source_calls A1 c1 s (kk : Int) (ii : Int) _ HR1.out).mono ?_; rw [HSO.out]; rintro e w2 ⟨rfl, hb⟩; refine ⟨_, rfl, ?_⟩; have HB2 := Aside0.mk (below_step HB1.out hb); have HR2 := Aside0.mk (Kd.C_below HR1.out hb); clear hb))
  obtain ⟨ad, Ak, ck, rfl, _, _, _, _, x4, hlk, hrk⟩ := at_T35 HR2.out (kk : Int) (by omega) (by omega)
  obtain ⟨ad', Af, cf, hA, _, _, _, _, y4, hlf, hrf⟩ := at_T35 HR2.out (f : Int) (by omega) (by omega)
  cases hA
  simp only [Int.toNat_natCast] at x4 y4
  obtain ⟨ae, rfl, a0, a1, a2, a3⟩ := at_T37 hrk (ii : Int) (by omega) (by omega)
  obtain ⟨be, rfl, b0, b1, b2, b3⟩ := at_T37 hrf (e : Int) (by omega) (by omega)
  simp only [Int.toNat_natCast] at a0 a1 a2 a3 b0 b1 b2 b3
  obtain ⟨u3, hu3⟩ : ∃ u, u = (entry s kk ii).f3 := ⟨_, rfl⟩
  rw [show (rd_T37 (rd_T35 s kk).f2.f2 ii).f0 = (entry s f e).f0 from HA.out.1] at a0
  rw [show (rd_T37 (rd_T35 s kk).f2.f2 ii).f1 = (entry s f e).f1 from HA.out.2.1] at a1
  rw [show (rd_T37 (rd_T35 s kk).f2.f2 ii).f2 = (entry s f e).f2 from HA.out.2.2] at a2
  rw [show (rd_T37 (rd_T35 s kk).f2.f2 ii).f3 = u3 from hu3.symm] at a3
  change _ = some (Value.bool (entry s f e).f0) at b0
  change _ = some (Value.int .i64 (entry s f e).f1) at b1
  change _ = some (Value.int .i64 (entry s f e).f2) at b2
  change _ = some (Value.int .i64 (entry s f e).f3) at b3
  clear hlk hrk hlf hrf hu3
  obtain ⟨b, hb_⟩ : ∃ b, b = entry s f e := ⟨_, rfl⟩
  rw [← hb_] at a0 a1 a2 b0 b1 b2 b3 HBV HF
  clear hb_ HA
  go_upto_region 12 with (fail)
  have hb_ := below_alloc (Below.refl _ w2) (.cells #[.bool b.f0, .int .i64 b.f1, .int .i64 b.f2, .int .i64 u3] 37)
  have hG0_ := blk_lit0 w2 (.cells #[.bool b.f0, .int .i64 b.f1, .int .i64 b.f2, .int .i64 u3] 37)
  generalize (w2.alloc (.cells #[.bool b.f0, .int .i64 b.f1, .int .i64 b.f2, .int .i64 u3] 37)) = V at hb_ hG0_ ⊢
  have HB_V := Aside0.mk hb_
  have V0 := Aside0.mk hG0_
  clear hb_ hG0_
  replace y4 := (HB_V.out.cell (World.block_lt_of_cell? w2 _ y4)).trans y4
  replace b0 := (HB_V.out.cell (World.block_lt_of_cell? w2 _ b0)).trans b0
  replace b1 := (HB_V.out.cell (World.block_lt_of_cell? w2 _ b1)).trans b1
  replace b2 := (HB_V.out.cell (World.block_lt_of_cell? w2 _ b2)).trans b2
  replace b3 := (HB_V.out.cell (World.block_lt_of_cell? w2 _ b3)).trans b3
  clear x4 a0 a1 a2 a3
  go_upto_region 13 with (fail)
  have hb_ := below_alloc (Below.refl _ V) (.cells #[.bool b.f0, .int .i64 b.f1, .int .i64 b.f2, .int .i64 b.f3] 37)
  have hG0_ := blk_lit0 V (.cells #[.bool b.f0, .int .i64 b.f1, .int .i64 b.f2, .int .i64 b.f3] 37)
  generalize (V.alloc (.cells #[.bool b.f0, .int .i64 b.f1, .int .i64 b.f2, .int .i64 b.f3] 37)) = U at hb_ hG0_ ⊢
  have HB_U := Aside0.mk hb_
  have U0 := Aside0.mk hG0_
  clear hb_ hG0_
  have HB3 := Aside0.mk (below_step (below_step HB2.out HB_V.out) HB_U.out)
  have X0 := Aside0.mk (blk_below V0.out HB_U.out)
  have HR3 := Aside0.mk (Kd.C_below (Kd.C_below HR2.out HB_V.out) HB_U.out)
  have SZ := Aside0.mk HB_V.out.size
  clear y4 b0 b1 b2 b3 HB_V HB_U HR2 HB2 HR1 HB1 V0 d0 d1 d2 d3 d4 d5 d6 d7
  go_wp2
  go_loopg [14] (s.length) (fun kq v14 w' => ∃ j : Nat, v14 = .int .i64 (j : Int) ∧ w' = U ∧ Aside0 (j < kq) ∧ Aside0 (Way s j f) ∧ Aside0 (j < s.length))
  case atStart => exact ⟨kk, rfl, rfl, ⟨H1.out⟩, HW, H1⟩
  case round =>
    obtain ⟨j, rfl, rfl, HK, HWJ, HJ⟩ := hrel
    by_cases hjf : j = f
    · obtain rfl : j = f := hjf
      by_cases hh : hadB b = true
      · have HHB := Aside0.mk hh
        by_cases j0 : j = 0
        · have n0 : decide (j = 0) = true := decide_eq_true j0
          have n1 : decide ((j : Int) = 0) = true := decide_eq_true (by omega)
          clear hh
          go_wp2_with (first | ((with_reducible refine gate_dst (N := 148) rfl ?_); refine goesL_ (some 148) rfl rfl Try.func15 (by kernel_rfl) rfl #[] rfl (by (try simp only [List.map_toArray, List.map_cons, List.map_nil]); first | done | rfl) ?_; refine (sane_calls _).mono ?_; rintro e w9 ⟨rfl, hb⟩; refine ⟨_, rfl, ?_⟩; have HB9 := Aside0.mk (below_step HB3.out hb); have X9 := Aside0.mk (blk_below X0.out hb); have U9 := Aside0.mk (blk_below U0.out hb); have p0 := (blk_cell X9.out 0).trans rfl; have p1 := (blk_cell X9.out 1).trans rfl; have p2 := (blk_cell X9.out 2).trans rfl; have p3 := (blk_cell X9.out 3).trans rfl; have q0 := (blk_cell U9.out 0).trans rfl; have q1 := (blk_cell U9.out 1).trans rfl; have q2 := (blk_cell U9.out 2).trans rfl; have q3 := (blk_cell U9.out 3).trans rfl;  clear hb) | (go_at_call 20; refine (archivoltref23_Has.calls b.f0 b.f1 b.f2 b.f3 16 _ _ (has16 HBV.out)).mono ?_; rintro e w10 ⟨rfl, hb⟩; rw [HHB.out]; have HB10 := Aside0.mk (below_step HB9.out hb);  clear hb p0 p1 p2 p3 q0 q1 q2 q3))
          go_ret
          exact ⟨rfl, HB10.out⟩
        · have hp : (rd_T35 s j).f2.f1 = true := by
            rcases HF.out with h | h | h
            · rw [hh] at h; cases h
            · exact absurd h j0
            · exact h
          have n0 : decide (j = 0) = false := decide_eq_false j0
          have n1 : decide ((j : Int) = 0) = false := decide_eq_false (by omega)
          have n2 := HJ.out
          have HP := Aside0.mk hp
          clear hh hp
          go_wp2_with (first | ((with_reducible refine gate_dst (N := 148) rfl ?_); refine goesL_ (some 148) rfl rfl Try.func15 (by kernel_rfl) rfl #[] rfl (by (try simp only [List.map_toArray, List.map_cons, List.map_nil]); first | done | rfl) ?_; refine (sane_calls _).mono ?_; rintro e w9 ⟨rfl, hb⟩; refine ⟨_, rfl, ?_⟩; have HB9 := Aside0.mk (below_step HB3.out hb); have X9 := Aside0.mk (blk_below X0.out hb); have U9 := Aside0.mk (blk_below U0.out hb); have p0 := (blk_cell X9.out 0).trans rfl; have p1 := (blk_cell X9.out 1).trans rfl; have p2 := (blk_cell X9.out 2).trans rfl; have p3 := (blk_cell X9.out 3).trans rfl; have q0 := (blk_cell U9.out 0).trans rfl; have q1 := (blk_cell U9.out 1).trans rfl; have q2 := (blk_cell U9.out 2).trans rfl; have q3 := (blk_cell U9.out 3).trans rfl; have HR9 := Aside0.mk (Kd.C_below HR3.out hb); clear hb) | (go_at_call 20; refine (archivoltref23_Has.calls b.f0 b.f1 b.f2 b.f3 16 _ _ (has16 HBV.out)).mono ?_; rintro e w10 ⟨rfl, hb⟩; rw [HHB.out]; have HB10 := Aside0.mk (below_step HB9.out hb); obtain ⟨ad', Aj, cj, hA, _, _, _, z3, _, _, _⟩ := at_T35 (Kd.C_below HR9.out hb) (j : Int) (by omega) (by omega); cases hA; simp only [Int.toNat_natCast] at z3; rw [HP.out] at z3; clear hb p0 p1 p2 p3 q0 q1 q2 q3))
          go_ret
          exact ⟨rfl, HB10.out⟩
      · have HHB := Aside0.mk (show hadB b = false by simpa using hh)
        clear hh
        go_wp2_with (first | ((with_reducible refine gate_dst (N := 148) rfl ?_); refine goesL_ (some 148) rfl rfl Try.func15 (by kernel_rfl) rfl #[] rfl (by (try simp only [List.map_toArray, List.map_cons, List.map_nil]); first | done | rfl) ?_; refine (sane_calls _).mono ?_; rintro e w9 ⟨rfl, hb⟩; refine ⟨_, rfl, ?_⟩; have HB9 := Aside0.mk (below_step HB3.out hb); have X9 := Aside0.mk (blk_below X0.out hb); have U9 := Aside0.mk (blk_below U0.out hb); have p0 := (blk_cell X9.out 0).trans rfl; have p1 := (blk_cell X9.out 1).trans rfl; have p2 := (blk_cell X9.out 2).trans rfl; have p3 := (blk_cell X9.out 3).trans rfl; have q0 := (blk_cell U9.out 0).trans rfl; have q1 := (blk_cell U9.out 1).trans rfl; have q2 := (blk_cell U9.out 2).trans rfl; have q3 := (blk_cell U9.out 3).trans rfl;  clear hb) | (go_at_call 20; refine (archivoltref23_Has.calls b.f0 b.f1 b.f2 b.f3 16 _ _ (has16 HBV.out)).mono ?_; rintro e w10 ⟨rfl, hb⟩; rw [HHB.out]; have HB10 := Aside0.mk (below_step HB9.out hb);  clear hb p0 p1 p2 p3 q0 q1 q2 q3))
        go_ret
        exact ⟨rfl, HB10.out⟩
    · obtain ⟨u, g0, hp, hu, hlt, hwu⟩ : ∃ u : Nat, 0 < j ∧ (rd_T35 s j).f2.f1 = false ∧ (rd_T35 s j).f0 = u ∧ u < j ∧ Way s u f := by
        cases HWJ.out with
        | here => exact absurd rfl hjf
        | up _ u _ h0 hp hu hlt h => exact ⟨u, h0, hp, hu, hlt, h⟩
      have HWU := Aside0.mk hwu
      have HUL := Aside0.mk hlt
      have n1 : decide (j = f) = false := decide_eq_false hjf
      have n2 : decide ((j : Int) ≤ 0) = false := decide_eq_false (by omega)
      have n3 : ¬ j = 0 := by omega
      have n4 := HJ.out
      obtain ⟨ad', Aj, cj, hA, z0, _, _, z3, _, _, _⟩ := at_T35 HR3.out (j : Int) (by omega) (by omega)
      cases hA
      simp only [Int.toNat_natCast] at z0 z3
      rw [hu] at z0
      rw [hp] at z3
      clear hwu hp hu
      go_wp2
      go_roundg (u + 1)
      case measure => have := HK.out; omega
      case rel => exact ⟨u, rfl, rfl, ⟨by omega⟩, HWU, ⟨by omega⟩⟩
theorem origin_walk (A : Option Addr) (c : Nat) (l : List S35) (k i : Int) (w : World) (_ : l.length ≤ c) (hr : k35.C w A l.length l) (_ : -9223372036854775808 ≤ k ∧ k ≤ 9223372036854775807) (_ : -9223372036854775808 ≤ i ∧ i ≤ 9223372036854775807) :
    Calls Try.prog 4 #[.slice A l.length c, .int .i64 k, .int .i64 i] w fun e w' => e = .returned (.bool true) ∧ Below w.heap.size w w' := by
  cases hs : smallB l with
  | false => exact origin_small A c l k i w hr hs
  | true =>
    cases hsp : sSpread l with
    | mk s er =>
      by_cases he : er = 0
      · subst he
        have hv : vTree l = true := by
          cases hv : vTree l with
          | true => rfl
          | false => unfold sSpread at hsp; rw [hv] at hsp; simp at hsp
        have hF : spreadF l 0 (rd_T35 l 0).f2 = some s := by
          unfold sSpread at hsp
          rw [if_pos hv] at hsp
          cases hF : spreadF l 0 (rd_T35 l 0).f2 with
          | none => rw [hF] at hsp; simp [treeOf] at hsp
          | some o => rw [hF] at hsp; simp [treeOf] at hsp; rw [hsp]
        obtain ⟨_, hvs, has⟩ := spread_agrees hv hF
        have hfb : firstBad s < 0 := by rw [firstBad_none has]; decide
        by_cases ht : inTree s k i
        · have ht' := ht
          obtain ⟨t0, t1, t2, t3⟩ := ht
          obtain ⟨k, rfl⟩ : ∃ m : Nat, k = m := ⟨k.toNat, by omega⟩
          obtain ⟨i, rfl⟩ : ∃ m : Nat, i = m := ⟨i.toNat, by omega⟩
          have hso : sSource s (k : Int) (i : Int) = ((((srcF k s k i).1 : Nat) : Int), (((srcF k s k i).2 : Nat) : Int), 0) := by
            unfold sSource
            rw [if_pos ⟨hvs, hfb⟩, if_pos ht', Int.toNat_natCast, Int.toNat_natCast]
          obtain ⟨g1, g2, g3, g4, g5, g6, g7, g8⟩ := origin hvs has k k i (Nat.le_refl _) (by omega) (by omega)
          exact origin_in A c l k i w hr hs s hsp _ _ hso hvs (by omega) (by omega) g1 g2 g3 g5 g6 g7 g8
        · have hso : sSource s k i = (0, 0, 3) := by
            unfold sSource
            rw [if_pos ⟨hvs, hfb⟩, if_neg ht]
          by_cases c1 : k < 0
          · exact origin_a A c l k i w hr hs s hsp hso c1
          obtain ⟨k, rfl⟩ : ∃ m : Nat, k = m := ⟨k.toNat, by omega⟩
          by_cases c2 : s.length ≤ k
          · exact origin_b A c l k i w hr hs s hsp hso c2
          by_cases c3 : i < 0
          · exact origin_c A c l k i w hr hs s hsp hso (by omega) c3
          obtain ⟨i, rfl⟩ : ∃ m : Nat, i = m := ⟨i.toNat, by omega⟩
          exact origin_d A c l k i w hr hs s hsp hso (by omega) (by unfold inTree at ht; omega)
      · exact origin_err A c l k i w hr hs s er hsp he
end Go.Proofs.Ytgocgjfaiddejaa.M
