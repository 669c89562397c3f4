/- InheritSources: its walk. -/
import Derived.Test.YtgocgjfaiddejaaHY
import Derived.Test.YtgocgjfaiddejaaHZ
import Derived.Test.YtgocgjfaiddejaaKB
namespace Go.Proofs.Ytgocgjfaiddejaa.M
open Go.RowKit Go.Proofs.YtgocgjfaiddejaaW.PrintWords Go.Proofs.YtgocgjfaiddejaaW.PrintLast Go.Proofs.YtgocgjfaiddejaaW.PrintMore
set_option linter.unusedVariables false
set_option linter.unusedSimpArgs false
set_option linter.unnecessarySimpa false

set_option maxRecDepth 100000 in
set_option maxHeartbeats 2000000 in
theorem sources_small (A : Option Addr) (c : Nat) (l : List S35) (k i : Int) (w : World) (hc : l.length ≤ c) (hr : k35.C w A l.length l) (hs : smallB l = false) :
    Calls Try.prog 3 #[.slice A l.length c, .int .i64 k, .int .i64 i] w fun e w' => e = .returned (.bool true) ∧ Below w.heap.size w w' := by
  have HR := Aside0.mk hr
  have HC := Aside0.mk hc
  have HSM := Aside0.mk hs
  clear hr hc hs
  go_enter Try.func3, Try.ntmps3
  go_wp2_with (first | ((with_reducible refine gate_dst (N := 16) rfl ?_); refine goesL_ (some 16) rfl rfl Try.func14 (by kernel_rfl) rfl #[.slice A l.length c] rfl (by (try simp only [List.map_toArray, List.map_cons, List.map_nil]); first | done | rfl) ?_; refine (small_calls A c l _ HR.out).mono ?_; rintro e w0 ⟨rfl, hb⟩; refine ⟨_, rfl, ?_⟩; rw [HSM.out]; have HB0 := Aside0.mk hb; clear hb) | ((with_reducible refine gate_dst (N := 18) rfl ?_); refine goesL_ (some 18) rfl rfl Try.func15 (by kernel_rfl) rfl #[] rfl (by (try simp only [List.map_toArray, List.map_cons, List.map_nil]); first | done | rfl) ?_; refine (sane_calls _).mono ?_; rintro e w9 ⟨rfl, hb⟩; refine ⟨_, rfl, ?_⟩; have HB9 := Aside0.mk (below_step HB0.out hb); clear hb))
  go_ret
  exact ⟨rfl, HB9.out⟩
set_option maxRecDepth 100000 in
set_option maxHeartbeats 2000000 in
theorem sources_err (A : Option Addr) (c : Nat) (l : List S35) (k i : Int) (w : World) (hc : l.length ≤ c) (hr : k35.C w A l.length l) (hs : smallB l = true) (x1 x2 x3 : Int) (hso : sSource l k i = (x1, x2, x3)) (s : List S35) (er : Int) (hsp : sSpread l = (s, er)) (he : ¬ er = 0) :
    Calls Try.prog 3 #[.slice A l.length c, .int .i64 k, .int .i64 i] w fun e w' => e = .returned (.bool true) ∧ Below w.heap.size w w' := by
  have HR := Aside0.mk hr
  have HC := Aside0.mk hc
  have HSM := Aside0.mk hs
  have HS1 := Aside0.mk hso
  have HSP := Aside0.mk hsp
  have n1 : decide (er = 0) = false := decide_eq_false he
  have n2 : (er != 0) = true := bne_iff_ne.2 he
  clear hr hc hs hso hsp he
  go_enter Try.func3, Try.ntmps3
  go_wp2_with (first | ((with_reducible refine gate_dst (N := 16) rfl ?_); refine goesL_ (some 16) rfl rfl Try.func14 (by kernel_rfl) rfl #[.slice A l.length c] rfl (by (try simp only [List.map_toArray, List.map_cons, List.map_nil]); first | done | rfl) ?_; refine (small_calls A c l _ HR.out).mono ?_; rintro e w0 ⟨rfl, hb⟩; refine ⟨_, rfl, ?_⟩; rw [HSM.out]; have HB0 := Aside0.mk hb; clear hb) | ((with_reducible refine gate_dst (N := 23) rfl ?_); refine goesL_ (some 23) rfl rfl Try.func16 (by kernel_rfl) rfl #[.slice A l.length c, .int .i64 k, .int .i64 i] rfl (by (try simp only [List.map_toArray, List.map_cons, List.map_nil]); first | done | rfl) ?_; refine (Source_calls A c l k i _ (Kd.C_below HR.out HB0.out)).mono ?_; rw [HS1.out]; rintro e w1 ⟨rfl, hb⟩; refine ⟨_, rfl, ?_⟩; have HB1 := Aside0.mk (below_step HB0.out hb); clear hb) | ((with_reducible refine gate_dst (N := 31) rfl ?_); refine goesL_ (some 31) rfl rfl Try.func17 (by kernel_rfl) rfl #[.slice A l.length c, .int .i64 k, .int .i64 i] rfl (by (try simp only [List.map_toArray, List.map_cons, List.map_nil]); first | done | rfl) ?_; refine (rSource_calls A c l k i _ (Kd.C_below HR.out HB1.out) HC.out).mono ?_; rw [HS1.out]; rintro e w2 ⟨rfl, hb⟩; refine ⟨_, rfl, ?_⟩; have HB2 := Aside0.mk (below_step HB1.out hb); clear hb) | ((with_reducible refine gate_dst (N := 50) rfl ?_); refine goesL_ (some 50) rfl rfl Try.func18 (by kernel_rfl) rfl #[.slice A l.length c] rfl (by (try simp only [List.map_toArray, List.map_cons, List.map_nil]); first | done | rfl) ?_; refine (rSpread_calls A c l _ (Kd.C_below HR.out HB2.out) HC.out).mono ?_; rw [HSP.out]; rintro e w3 ⟨v, rfl, hra, hb⟩; refine ⟨_, rfl, ?_⟩; replace hra : RT w3 _ v s := hra; obtain ⟨As, cs, rfl⟩ := Kd.R_slice hra; have HB3 := Aside0.mk (below_step HB2.out hb); have S3 := Aside0.mk (Kd.R_reads' hra).2.2; have SC := Aside0.mk (Kd.R_reads' hra).2.1; clear hra hb) | ((with_reducible refine gate_dst (N := 55) rfl ?_); refine goesL_ (some 55) rfl rfl Try.func15 (by kernel_rfl) rfl #[] rfl (by (try simp only [List.map_toArray, List.map_cons, List.map_nil]); first | done | rfl) ?_; refine (sane_calls _).mono ?_; rintro e w9 ⟨rfl, hb⟩; refine ⟨_, rfl, ?_⟩; have HB9 := Aside0.mk (below_step HB3.out hb); clear hb))
  go_ret
  exact ⟨rfl, HB9.out⟩
set_option maxRecDepth 100000 in
set_option maxHeartbeats 2000000 in
theorem sources_ok (A : Option Addr) (c : Nat) (l : List S35) (k i : Int) (w : World) (hc : l.length ≤ c) (hr : k35.C w A l.length l) (hs : smallB l = true) (x1 x2 x3 : Int) (hso : sSource l k i = (x1, x2, x3)) (s : List S35) (hsp : sSpread l = (s, 0)) (y1 y2 y3 : Int) (hso2 : sSource s k i = (y1, y2, y3)) :
    Calls Try.prog 3 #[.slice A l.length c, .int .i64 k, .int .i64 i] w fun e w' => e = .returned (.bool true) ∧ Below w.heap.size w w' := by
  have HR := Aside0.mk hr
  have HC := Aside0.mk hc
  have HSM := Aside0.mk hs
  have HS1 := Aside0.mk hso
  have HSP := Aside0.mk hsp
  have HS2 := Aside0.mk hso2
  clear hr hc hs hso hsp hso2
  go_enter Try.func3, Try.ntmps3
  go_upto_region 10 with (first | ((with_reducible refine gate_dst (N := 16) rfl ?_); refine goesL_ (some 16) rfl rfl Try.func14 (by kernel_rfl) rfl #[.slice A l.length c] rfl (by (try simp only [List.map_toArray, List.map_cons, List.map_nil]); first | done | rfl) ?_; refine (small_calls A c l _ HR.out).mono ?_; rintro e w0 ⟨rfl, hb⟩; refine ⟨_, rfl, ?_⟩; rw [HSM.out]; have HB0 := Aside0.mk hb; clear hb) | ((with_reducible refine gate_dst (N := 23) rfl ?_); refine goesL_ (some 23) rfl rfl Try.func16 (by kernel_rfl) rfl #[.slice A l.length c, .int .i64 k, .int .i64 i] rfl (by (try simp only [List.map_toArray, List.map_cons, List.map_nil]); first | done | rfl) ?_; refine (Source_calls A c l k i _ (Kd.C_below HR.out HB0.out)).mono ?_; rw [HS1.out]; rintro e w1 ⟨rfl, hb⟩; refine ⟨_, rfl, ?_⟩; have HB1 := Aside0.mk (below_step HB0.out hb); clear hb) | ((with_reducible refine gate_dst (N := 31) rfl ?_); refine goesL_ (some 31) rfl rfl Try.func17 (by kernel_rfl) rfl #[.slice A l.length c, .int .i64 k, .int .i64 i] rfl (by (try simp only [List.map_toArray, List.map_cons, List.map_nil]); first | done | rfl) ?_; refine (rSource_calls A c l k i _ (Kd.C_below HR.out HB1.out) HC.out).mono ?_; rw [HS1.out]; rintro e w2 ⟨rfl, hb⟩; refine ⟨_, rfl, ?_⟩; have HB2 := Aside0.mk (below_step HB1.out hb); clear hb) | ((with_reducible refine gate_dst (N := 50) rfl ?_); refine goesL_ (some 50) rfl rfl Try.func18 (by kernel_rfl) rfl #[.slice A l.length c] rfl (by (try simp only [List.map_toArray, List.map_cons, List.map_nil]); first | done | rfl) ?_; refine (rSpread_calls A c l _ (Kd.C_below HR.out HB2.out) HC.out).mono ?_; rw [HSP.out]; rintro e w3 ⟨v, rfl, hra, hb⟩; refine ⟨_, rfl, ?_⟩; replace hra : RT w3 _ v s := hra; obtain ⟨As, cs, rfl⟩ := Kd.R_slice hra; have HB3 := Aside0.mk (below_step HB2.out hb); have S3 := Aside0.mk (Kd.R_reads' hra).2.2; have SC := Aside0.mk (Kd.R_reads' hra).2.1; clear hra hb))
  go_wp2_with (first | ((with_reducible refine gate_dst (N := 60) rfl ?_); refine goesL_ (some 60) rfl rfl Try.func16 (by kernel_rfl) rfl #[.slice As s.length cs, .int .i64 k, .int .i64 i] rfl (by (try simp only [List.map_toArray, List.map_cons, List.map_nil]); first | done | rfl) ?_; refine (Source_calls As cs s k i _ S3.out).mono ?_; rw [HS2.out]; rintro e w4 ⟨rfl, hb⟩; refine ⟨_, rfl, ?_⟩; have HB4 := Aside0.mk (below_step HB3.out hb); have S4 := Aside0.mk (Kd.C_below S3.out hb); clear hb) | ((with_reducible refine gate_dst (N := 68) rfl ?_); refine goesL_ (some 68) rfl rfl Try.func17 (by kernel_rfl) rfl #[.slice As s.length cs, .int .i64 k, .int .i64 i] rfl (by (try simp only [List.map_toArray, List.map_cons, List.map_nil]); first | done | rfl) ?_; refine (rSource_calls As cs s k i _ S4.out SC.out).mono ?_; rw [HS2.out]; rintro e w5 ⟨rfl, hb⟩; refine ⟨_, rfl, ?_⟩; have HB5 := Aside0.mk (below_step HB4.out hb); clear hb) | ((with_reducible refine gate_dst (N := 72) rfl ?_); refine goesL_ (some 72) rfl rfl Try.func15 (by kernel_rfl) rfl #[] rfl (by (try simp only [List.map_toArray, List.map_cons, List.map_nil]); first | done | rfl) ?_; refine (sane_calls _).mono ?_; rintro e w9 ⟨rfl, hb⟩; refine ⟨_, rfl, ?_⟩; have HB9 := Aside0.mk (below_step HB5.out hb); clear hb))
  go_ret
  exact ⟨rfl, HB9.out⟩
theorem sources_walk (A : Option Addr) (c : Nat) (l : List S35) (k i : Int) (w : World) (hc : l.length ≤ c) (hr : k35.C w A l.length l) (_ : -9223372036854775808 ≤ k ∧ k ≤ 9223372036854775807) (_ : -9223372036854775808 ≤ i ∧ i ≤ 9223372036854775807) :
    Calls Try.prog 3 #[.slice A l.length c, .int .i64 k, .int .i64 i] w fun e w' => e = .returned (.bool true) ∧ Below w.heap.size w w' := by
  cases hs : smallB l with
  | false => exact sources_small A c l k i w hc hr hs
  | true =>
    cases hso : sSource l k i with
    | mk x1 x23 =>
      obtain ⟨x2, x3⟩ := x23
      cases hsp : sSpread l with
      | mk s er =>
        by_cases he : er = 0
        · subst he
          cases hso2 : sSource s k i with
          | mk y1 y23 =>
            obtain ⟨y2, y3⟩ := y23
            exact sources_ok A c l k i w hc hr hs x1 x2 x3 hso s hsp y1 y2 y3 hso2
        · exact sources_err A c l k i w hc hr hs x1 x2 x3 hso s er hsp he
end Go.Proofs.Ytgocgjfaiddejaa.M
