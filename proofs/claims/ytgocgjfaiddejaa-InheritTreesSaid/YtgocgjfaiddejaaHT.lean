/- The reference's Change answers what the program's does. -/
import Derived.Test.YtgocgjfaiddejaaHZ
import Derived.Test.YtgocgjfaiddejaaSR
namespace Go.Proofs.Ytgocgjfaiddejaa.M
open Go.RowKit Go.Proofs.YtgocgjfaiddejaaW.PrintWords Go.Proofs.YtgocgjfaiddejaaW.PrintLast Go.Proofs.YtgocgjfaiddejaaW.PrintMore
set_option linter.unusedVariables false
set_option linter.unusedSimpArgs false
set_option linter.unnecessarySimpa false

theorem dn_congr {a b : List S35} (k : Nat) (n0 : Nat) (h : ∀ j : Nat, j < n0 → (rd_T35 a j).f0 = (rd_T35 b j).f0) (hU : ∀ j : Nat, 0 < j → j < n0 → ∃ u : Nat, (rd_T35 b j).f0 = u ∧ u < j) : ∀ n j : Nat, j < n0 → dn a k n j = dn b k n j := by
  intro n
  induction n with
  | zero => intro j _; rfl
  | succ n ih =>
    intro j hj
    unfold dn
    by_cases h0 : 0 < j
    · obtain ⟨u, hu, hlt⟩ := hU j h0 hj
      rw [h j hj, hu, Int.toNat_natCast, ih u (by omega)]
    · simp [h0]
theorem dnB_withD {l : List S35} (hU : Ups l) {k : Nat} (hk : k < l.length) (d : S33) {j : Nat} (hj : j < l.length) : dnB (withD l k d) k j = dnB l k j :=
  dn_congr k l.length (fun i hi => (withD_up hk d hi).1) hU (j + 1) j hj
theorem pre_at {l : List S35} (hU : Ups l) {k : Nat} (hk : k < l.length) {d : S33} {j : Nat} {o : List S35} (h : Pre (withD l k d) k j o) (hj : j ≤ l.length) {dd : S33} {out : List S35} (ho : IsOut l k dd out) (hkk : k < j → rd_T35 o k = { rd_T35 l k with f2 := dd }) : ∀ i : Nat, i < j → rd_T35 o i = rd_T35 out i := by
  intro i
  induction i using Nat.strongRecOn with
  | _ i ih =>
    intro hi
    by_cases hik : i = k
    · subst hik; rw [hkk hi, ho.here]
    · have hrd := rd_withD hk d (show i < l.length by omega)
      rw [if_neg (fun e => hik e.symm)] at hrd
      have hup := (withD_up hk d (show i < l.length by omega)).1
      cases hd : dnB l k i with
      | false =>
        rw [h.sam i hi (fun e => by rw [dnB_withD hU hk d (by omega), hd] at e; exact absurd e.2 (by decide)), hrd, ho.same i (by omega) hik hd]
      | true =>
        by_cases h0 : 0 < i
        · obtain ⟨u, hu, hlt⟩ := hU i h0 (by omega)
          obtain ⟨d1, a1, a2⟩ := h.dnp i u hi h0 (by rw [hup]; exact hu) (by rw [dnB_withD hU hk d (by omega)]; exact hd)
          obtain ⟨d2, b1, b2⟩ := ho.down i u (by omega) hik hu hd
          rw [hrd, ih u hlt (by omega), b1] at a1
          cases a1
          rw [a2, b2, hrd]
        · exfalso
          have e : i = 0 := by omega
          subst e
          rw [dnB_lt hU k 0 (by omega) (by omega)] at hd; cases hd
/-- The object k itself, once it is behind. -/
theorem pre_here {l : List S35} (hU : Ups l) {k : Nat} (hk : k < l.length) {d : S33} {j : Nat} {o : List S35} (h : Pre (withD l k d) k j o) (hj : j ≤ l.length) (hkj : k < j) :
    (k = 0 ∧ rd_T35 o k = { rd_T35 l k with f2 := d }) ∨ (0 < k ∧ ∃ d', renewD (rd_T35 l (rd_T35 l k).f0).f2 d (rd_T35 l k).f1 = some d' ∧ rd_T35 o k = { rd_T35 l k with f2 := d' }) := by
  have hrd := rd_withD hk d hk
  rw [if_pos rfl] at hrd
  by_cases h0 : 0 < k
  · refine .inr ⟨h0, ?_⟩
    obtain ⟨u, hu, hlt⟩ := hU k h0 hk
    obtain ⟨d', a1, a2⟩ := h.dnp k u hkj h0 (by rw [hrd]; exact hu) (dnB_self _ _)
    have hou : rd_T35 o u = rd_T35 l u := by
      rw [h.sam u (by omega) (fun e => by rw [dnB_withD hU hk d (by omega), dnB_lt hU k u (by omega) hlt] at e; exact absurd e.2 (by decide)), rd_withD hk d (by omega), if_neg (by omega)]
    rw [hou, hrd] at a1
    rw [hrd] at a2
    exact ⟨d', by rw [hu]; exact a1, a2⟩
  · refine .inl ⟨by omega, ?_⟩
    rw [h.sam k hkj (fun e => h0 e.1), hrd]
theorem change_of_pre {l : List S35} (hU : Ups l) {k : Nat} (hk : k < l.length) {d : S33} {o : List S35} (h : Pre (withD l k d) k l.length o) : chF l k d = some o := by
  have mk : ∀ dd, rd_T35 o k = { rd_T35 l k with f2 := dd } → IsOut l k dd o := by
    intro dd hd
    refine ⟨h.len, hd, fun j u hj hjk hu hdn => ?_, fun j hj hjk hdn => ?_⟩
    · have hrd := rd_withD hk d hj
      rw [if_neg (fun e => hjk e.symm)] at hrd
      by_cases h0 : 0 < j
      · have := h.dnp j u hj h0 (by rw [hrd]; exact hu) (by rw [dnB_withD hU hk d hj]; exact hdn)
        rw [hrd] at this
        exact this
      · exfalso
        have e : j = 0 := by omega
        subst e
        rw [dnB_lt hU k 0 hj (by omega)] at hdn; cases hdn
    · rw [h.sam j hj (fun e => by rw [dnB_withD hU hk d hj, hdn] at e; exact absurd e.2 (by decide)), rd_withD hk d hj, if_neg (fun e => hjk e.symm)]
  unfold chF
  rcases pre_here hU hk h (Nat.le_refl _) hk with ⟨h0, he⟩ | ⟨h0, d', hr, he⟩
  · rw [if_neg (by omega), spread_of_out hU hk (mk d he)]
  · rw [if_pos h0, hr, Option.bind_some, spread_of_out hU hk (mk d' he)]
theorem change_none {l : List S35} (hU : Ups l) {k : Nat} (hk : k < l.length) {d : S33} {j u : Nat} {o : List S35} (h : Pre (withD l k d) k j o) (h0 : 0 < j) (hj : j < l.length) (hu : (rd_T35 (withD l k d) j).f0 = (u : Nat)) (hdn : dnB (withD l k d) k j = true) (hn : renewD (rd_T35 o u).f2 (rd_T35 (withD l k d) j).f2 (rd_T35 (withD l k d) j).f1 = none) : chF l k d = none := by
  rw [dnB_withD hU hk d hj] at hdn
  rw [(withD_up hk d hj).1] at hu
  obtain ⟨u', hu', hlt⟩ := hU j h0 hj
  have eu : u' = u := by omega
  subst eu
  have hrd := rd_withD hk d hj
  unfold chF
  by_cases hjk : j = k
  · subst hjk
    rw [if_pos rfl] at hrd
    have hou : rd_T35 o u' = rd_T35 l u' := by
      rw [h.sam u' hlt (fun e => by rw [dnB_withD hU hk d (by omega), dnB_lt hU j u' (by omega) hlt] at e; exact absurd e.2 (by decide)), rd_withD hk d (by omega), if_neg (by omega)]
    rw [hou, hrd] at hn
    rw [if_pos h0, hu, show renewD (rd_T35 l (u' : Int)).f2 d (rd_T35 l j).f1 = none from hn]
    rfl
  · rw [if_neg (fun e => hjk e.symm)] at hrd
    have hkj : k < j := by
      rcases Nat.lt_or_ge j k with h2 | h2
      · rw [dnB_lt hU k j hj h2] at hdn; cases hdn
      · omega
    rw [hrd] at hn
    have no : ∀ dd, rd_T35 o k = { rd_T35 l k with f2 := dd } → spreadF l k dd = none := by
      intro dd he
      cases hs : spreadF l k dd with
      | none => rfl
      | some out =>
        exfalso
        have ho := out_of_spread hU hk hs
        obtain ⟨d2, b1, _⟩ := ho.down j u' hj hjk hu hdn
        rw [← pre_at hU hk h (by omega) ho (fun _ => he) u' (by omega), hn] at b1
        cases b1
    rcases pre_here hU hk h (by omega) hkj with ⟨hz, he⟩ | ⟨hz, d', hr, he⟩
    · rw [if_neg (by omega), no d he]
    · rw [if_pos hz, hr, Option.bind_some, no d' he]
theorem change_end {ts : Array Value} {a : Value} {b : Int} {W : World} (h1 : ts.getD 6 undef = a) (h2 : ts.getD 7 undef = .int .i64 b) : (results Try.f35 ts).run Try.prog W = .ok (.tuple #[a, .int .i64 b]) W := by
  have := results_list (P := Try.prog) (w := W) (tmps := ts) (fn := Try.f35) (rs := [.tmp 6, .tmp 7]) rfl (by simp) (.tmp (.tmp .nil))
  rw [h1, h2] at this
  exact this
set_option maxRecDepth 100000 in
set_option maxHeartbeats 2000000 in
theorem rChange_bad (A : Option Addr) (c : Nat) (l : List S35) (k : Int) (A2 : Option Addr) (c2 : Nat) (d : S33) (w : World) (hr : Kd.C k35 w A l.length l) (hc : l.length ≤ c) (hr2 : k37.C w A2 d.f2.length d.f2) (hc2 : d.f2.length ≤ c2) (hv : vTree l = false) :
    Calls Try.prog 35 #[.slice A l.length c, .int .i64 k, .agg #[.int .i64 d.f0, .bool d.f1, .slice A2 d.f2.length c2]] w (TreePost (sChange l k d) w) := by
  have HR := Aside0.mk hr
  have HC := Aside0.mk hc
  have HR2 := Aside0.mk hr2
  have HC2 := Aside0.mk hc2
  have HV := Aside0.mk hv
  have HS := Aside0.mk (show sChange l k d = ([], 1) by unfold sChange; rw [if_neg (fun h => by rw [hv] at h; exact absurd h.1 (by decide))])
  clear hr hc hr2 hc2 hv
  go_enter Try.func35, Try.ntmps35
  go_upto_region 1 with (fail)
  have hb_ := below_alloc (Below.refl _ w) (.cells #[.int .i64 d.f0, .bool d.f1, .slice A2 d.f2.length c2] 33)
  have hG0_ := blk_lit0 w (.cells #[.int .i64 d.f0, .bool d.f1, .slice A2 d.f2.length c2] 33)
  generalize (w.alloc (.cells #[.int .i64 d.f0, .bool d.f1, .slice A2 d.f2.length c2] 33)) = W at hb_ hG0_ ⊢
  have HB_W := Aside0.mk hb_
  have W0 := Aside0.mk hG0_
  clear hb_ hG0_
  go_wp2_with ((with_reducible refine gate_dst (N := 10) rfl ?_); refine goesL_ (some 10) rfl rfl Try.func33 (by kernel_rfl) rfl #[.slice A l.length c] rfl (by (try simp only [List.map_toArray, List.map_cons, List.map_nil]); first | done | rfl) ?_; refine (rCheck_calls A c l _ (Kd.C_below HR.out HB_W.out)).mono ?_; rintro e w1 ⟨rfl, hb⟩; refine ⟨_, rfl, ?_⟩; rw [HV.out]; simp only [errOf]; have HB1 := Aside0.mk (below_step HB_W.out hb); have X1 := Aside0.mk (blk_below W0.out hb); clear hb; have y0 := (blk_cell X1.out 0).trans rfl; have y1 := (blk_cell X1.out 1).trans rfl; have y2 := (blk_cell X1.out 2).trans rfl)
  rw [HS.out]
  refine bodyPost_ret (change_end (by rfl) (by rfl)) rfl ⟨_, rfl, Kd.R_nil _ _ _ _ _, HB1.out⟩
set_option maxRecDepth 100000 in
set_option maxHeartbeats 2000000 in
theorem rChange_desc (A : Option Addr) (c : Nat) (l : List S35) (k : Int) (A2 : Option Addr) (c2 : Nat) (d : S33) (w : World) (hr : Kd.C k35 w A l.length l) (hc : l.length ≤ c) (hr2 : k37.C w A2 d.f2.length d.f2) (hc2 : d.f2.length ≤ c2) (hv : vTree l = true) (hd : vDesc d.f0 d.f2 = false) :
    Calls Try.prog 35 #[.slice A l.length c, .int .i64 k, .agg #[.int .i64 d.f0, .bool d.f1, .slice A2 d.f2.length c2]] w (TreePost (sChange l k d) w) := by
  have HR := Aside0.mk hr
  have HC := Aside0.mk hc
  have HR2 := Aside0.mk hr2
  have HC2 := Aside0.mk hc2
  have HV := Aside0.mk hv
  have HD := Aside0.mk hd
  have HS := Aside0.mk (show sChange l k d = ([], 1) by unfold sChange; rw [if_neg (fun h => by have := h.2; unfold vD at this; rw [hd] at this; cases this)])
  clear hr hc hr2 hc2 hv hd
  go_enter Try.func35, Try.ntmps35
  go_upto_region 1 with (fail)
  have hb_ := below_alloc (Below.refl _ w) (.cells #[.int .i64 d.f0, .bool d.f1, .slice A2 d.f2.length c2] 33)
  have hG0_ := blk_lit0 w (.cells #[.int .i64 d.f0, .bool d.f1, .slice A2 d.f2.length c2] 33)
  generalize (w.alloc (.cells #[.int .i64 d.f0, .bool d.f1, .slice A2 d.f2.length c2] 33)) = W at hb_ hG0_ ⊢
  have HB_W := Aside0.mk hb_
  have W0 := Aside0.mk hG0_
  clear hb_ hG0_
  go_wp2_with (first | ((with_reducible refine gate_dst (N := 10) rfl ?_); refine goesL_ (some 10) rfl rfl Try.func33 (by kernel_rfl) rfl #[.slice A l.length c] rfl (by (try simp only [List.map_toArray, List.map_cons, List.map_nil]); first | done | rfl) ?_; refine (rCheck_calls A c l _ (Kd.C_below HR.out HB_W.out)).mono ?_; rintro e w1 ⟨rfl, hb⟩; refine ⟨_, rfl, ?_⟩; rw [HV.out]; simp only [errOf]; have HB1 := Aside0.mk (below_step HB_W.out hb); have X1 := Aside0.mk (blk_below W0.out hb); clear hb; have y0 := (blk_cell X1.out 0).trans rfl; have y1 := (blk_cell X1.out 1).trans rfl; have y2 := (blk_cell X1.out 2).trans rfl) | (go_at_call 60; refine (rValid_calls d.f0 d.f1 A2 c2 d.f2 _ (Kd.C_below HR2.out HB1.out) HC2.out).mono ?_; rintro e w2 ⟨rfl, hb⟩; rw [HD.out]; have HB2 := Aside0.mk (below_step HB1.out hb); have X2 := Aside0.mk (blk_below X1.out hb); clear hb y0 y1 y2; have y0 := (blk_cell X2.out 0).trans rfl; have y1 := (blk_cell X2.out 1).trans rfl; have y2 := (blk_cell X2.out 2).trans rfl))
  rw [HS.out]
  refine bodyPost_ret (change_end (by rfl) (by rfl)) rfl ⟨_, rfl, Kd.R_nil _ _ _ _ _, HB2.out⟩
set_option maxRecDepth 100000 in
set_option maxHeartbeats 2000000 in
theorem rChange_neg (A : Option Addr) (c : Nat) (l : List S35) (k : Int) (A2 : Option Addr) (c2 : Nat) (d : S33) (w : World) (hr : Kd.C k35 w A l.length l) (hc : l.length ≤ c) (hr2 : k37.C w A2 d.f2.length d.f2) (hc2 : d.f2.length ≤ c2) (hv : vTree l = true) (hd : vDesc d.f0 d.f2 = true) (hk : k < 0) :
    Calls Try.prog 35 #[.slice A l.length c, .int .i64 k, .agg #[.int .i64 d.f0, .bool d.f1, .slice A2 d.f2.length c2]] w (TreePost (sChange l k d) w) := by
  have HR := Aside0.mk hr
  have HC := Aside0.mk hc
  have HR2 := Aside0.mk hr2
  have HC2 := Aside0.mk hc2
  have HV := Aside0.mk hv
  have HD := Aside0.mk hd
  have HS := Aside0.mk (show sChange l k d = ([], 3) by unfold sChange; rw [if_pos ⟨hv, hd⟩, if_neg (by omega)])
  have d1 : decide (k < 0) = true := decide_eq_true hk
  clear hr hc hr2 hc2 hv hd hk
  go_enter Try.func35, Try.ntmps35
  go_upto_region 1 with (fail)
  have hb_ := below_alloc (Below.refl _ w) (.cells #[.int .i64 d.f0, .bool d.f1, .slice A2 d.f2.length c2] 33)
  have hG0_ := blk_lit0 w (.cells #[.int .i64 d.f0, .bool d.f1, .slice A2 d.f2.length c2] 33)
  generalize (w.alloc (.cells #[.int .i64 d.f0, .bool d.f1, .slice A2 d.f2.length c2] 33)) = W at hb_ hG0_ ⊢
  have HB_W := Aside0.mk hb_
  have W0 := Aside0.mk hG0_
  clear hb_ hG0_
  go_wp2_with (first | ((with_reducible refine gate_dst (N := 10) rfl ?_); refine goesL_ (some 10) rfl rfl Try.func33 (by kernel_rfl) rfl #[.slice A l.length c] rfl (by (try simp only [List.map_toArray, List.map_cons, List.map_nil]); first | done | rfl) ?_; refine (rCheck_calls A c l _ (Kd.C_below HR.out HB_W.out)).mono ?_; rintro e w1 ⟨rfl, hb⟩; refine ⟨_, rfl, ?_⟩; rw [HV.out]; simp only [errOf]; have HB1 := Aside0.mk (below_step HB_W.out hb); have X1 := Aside0.mk (blk_below W0.out hb); clear hb; have y0 := (blk_cell X1.out 0).trans rfl; have y1 := (blk_cell X1.out 1).trans rfl; have y2 := (blk_cell X1.out 2).trans rfl) | (go_at_call 60; refine (rValid_calls d.f0 d.f1 A2 c2 d.f2 _ (Kd.C_below HR2.out HB1.out) HC2.out).mono ?_; rintro e w2 ⟨rfl, hb⟩; rw [HD.out]; have HB2 := Aside0.mk (below_step HB1.out hb); have X2 := Aside0.mk (blk_below X1.out hb); clear hb y0 y1 y2; have y0 := (blk_cell X2.out 0).trans rfl; have y1 := (blk_cell X2.out 1).trans rfl; have y2 := (blk_cell X2.out 2).trans rfl))
  rw [HS.out]
  refine bodyPost_ret (change_end (by rfl) (by rfl)) rfl ⟨_, rfl, Kd.R_nil _ _ _ _ _, HB2.out⟩
set_option maxRecDepth 100000 in
set_option maxHeartbeats 2000000 in
theorem rChange_far (A : Option Addr) (c : Nat) (l : List S35) (kk : Nat) (A2 : Option Addr) (c2 : Nat) (d : S33) (w : World) (hr : Kd.C k35 w A l.length l) (hc : l.length ≤ c) (hr2 : k37.C w A2 d.f2.length d.f2) (hc2 : d.f2.length ≤ c2) (hv : vTree l = true) (hd : vDesc d.f0 d.f2 = true) (hk : l.length ≤ kk) :
    Calls Try.prog 35 #[.slice A l.length c, .int .i64 (kk : Int), .agg #[.int .i64 d.f0, .bool d.f1, .slice A2 d.f2.length c2]] w (TreePost (sChange l (kk : Int) d) w) := by
  have HR := Aside0.mk hr
  have HC := Aside0.mk hc
  have HR2 := Aside0.mk hr2
  have HC2 := Aside0.mk hc2
  have HV := Aside0.mk hv
  have HD := Aside0.mk hd
  have HS := Aside0.mk (show sChange l (kk : Int) d = ([], 3) by unfold sChange; rw [if_pos ⟨hv, hd⟩, if_neg (by omega)])
  have d0 : decide ((kk : Int) < 0) = false := decide_eq_false (by omega)
  have d1 : decide (l.length ≤ kk) = true := decide_eq_true hk
  have d2 : decide ((l.length : Int) ≤ (kk : Int)) = true := decide_eq_true (by omega)
  clear hr hc hr2 hc2 hv hd hk
  go_enter Try.func35, Try.ntmps35
  go_upto_region 1 with (fail)
  have hb_ := below_alloc (Below.refl _ w) (.cells #[.int .i64 d.f0, .bool d.f1, .slice A2 d.f2.length c2] 33)
  have hG0_ := blk_lit0 w (.cells #[.int .i64 d.f0, .bool d.f1, .slice A2 d.f2.length c2] 33)
  generalize (w.alloc (.cells #[.int .i64 d.f0, .bool d.f1, .slice A2 d.f2.length c2] 33)) = W at hb_ hG0_ ⊢
  have HB_W := Aside0.mk hb_
  have W0 := Aside0.mk hG0_
  clear hb_ hG0_
  go_wp2_with (first | ((with_reducible refine gate_dst (N := 10) rfl ?_); refine goesL_ (some 10) rfl rfl Try.func33 (by kernel_rfl) rfl #[.slice A l.length c] rfl (by (try simp only [List.map_toArray, List.map_cons, List.map_nil]); first | done | rfl) ?_; refine (rCheck_calls A c l _ (Kd.C_below HR.out HB_W.out)).mono ?_; rintro e w1 ⟨rfl, hb⟩; refine ⟨_, rfl, ?_⟩; rw [HV.out]; simp only [errOf]; have HB1 := Aside0.mk (below_step HB_W.out hb); have X1 := Aside0.mk (blk_below W0.out hb); clear hb; have y0 := (blk_cell X1.out 0).trans rfl; have y1 := (blk_cell X1.out 1).trans rfl; have y2 := (blk_cell X1.out 2).trans rfl) | (go_at_call 60; refine (rValid_calls d.f0 d.f1 A2 c2 d.f2 _ (Kd.C_below HR2.out HB1.out) HC2.out).mono ?_; rintro e w2 ⟨rfl, hb⟩; rw [HD.out]; have HB2 := Aside0.mk (below_step HB1.out hb); have X2 := Aside0.mk (blk_below X1.out hb); clear hb y0 y1 y2; have y0 := (blk_cell X2.out 0).trans rfl; have y1 := (blk_cell X2.out 1).trans rfl; have y2 := (blk_cell X2.out 2).trans rfl))
  rw [HS.out]
  refine bodyPost_ret (change_end (by rfl) (by rfl)) rfl ⟨_, rfl, Kd.R_nil _ _ _ _ _, HB2.out⟩
set_option maxRecDepth 100000 in
set_option maxHeartbeats 2000000 in
theorem rChange_in (A : Option Addr) (c : Nat) (l : List S35) (kk : Nat) (A2 : Option Addr) (c2 : Nat) (d : S33) (w : World) (hr : Kd.C k35 w A l.length l) (hc : l.length ≤ c) (hr2 : k37.C w A2 d.f2.length d.f2) (hc2 : d.f2.length ≤ c2) (hv : vTree l = true) (hd : vDesc d.f0 d.f2 = true) (hk : kk < l.length) :
    Calls Try.prog 35 #[.slice A l.length c, .int .i64 (kk : Int), .agg #[.int .i64 d.f0, .bool d.f1, .slice A2 d.f2.length c2]] w (TreePost (sChange l (kk : Int) d) w) := by
  have HR := Aside0.mk hr
  have HC := Aside0.mk hc
  have HR2 := Aside0.mk hr2
  have HC2 := Aside0.mk hc2
  have HV := Aside0.mk hv
  have HD := Aside0.mk hd
  have HK := Aside0.mk hk
  have HM := Aside0.mk (vTree_pos hv).2.1
  have HVW := Aside0.mk (vTree_withD hv hk (show vD d = true from hd))
  have HS := Aside0.mk (show sChange l (kk : Int) d = treeOf (chF l kk d) by unfold sChange; rw [if_pos ⟨hv, hd⟩, if_pos (by omega), Int.toNat_natCast])
  have d0 : decide ((kk : Int) < 0) = false := decide_eq_false (by omega)
  have d1 : decide (l.length ≤ kk) = false := decide_eq_false (by omega)
  have d2 : decide ((l.length : Int) ≤ (kk : Int)) = false := decide_eq_false (by omega)
  have hl : (withD l kk d).length = l.length := by simp [withD]
  have HL := Aside0.mk hl
  clear hr hc hr2 hc2 hv hd hk hl
  go_enter Try.func35, Try.ntmps35
  go_upto_region 1 with (fail)
  have hb_ := below_alloc (Below.refl _ w) (.cells #[.int .i64 d.f0, .bool d.f1, .slice A2 d.f2.length c2] 33)
  have hG0_ := blk_lit0 w (.cells #[.int .i64 d.f0, .bool d.f1, .slice A2 d.f2.length c2] 33)
  generalize (w.alloc (.cells #[.int .i64 d.f0, .bool d.f1, .slice A2 d.f2.length c2] 33)) = W at hb_ hG0_ ⊢
  have HB_W := Aside0.mk hb_
  have W0 := Aside0.mk hG0_
  clear hb_ hG0_
  go_upto_region 6 with (first | ((with_reducible refine gate_dst (N := 10) rfl ?_); refine goesL_ (some 10) rfl rfl Try.func33 (by kernel_rfl) rfl #[.slice A l.length c] rfl (by (try simp only [List.map_toArray, List.map_cons, List.map_nil]); first | done | rfl) ?_; refine (rCheck_calls A c l _ (Kd.C_below HR.out HB_W.out)).mono ?_; rintro e w1 ⟨rfl, hb⟩; refine ⟨_, rfl, ?_⟩; rw [HV.out]; simp only [errOf]; have HB1 := Aside0.mk (below_step HB_W.out hb); have X1 := Aside0.mk (blk_below W0.out hb); clear hb; have y0 := (blk_cell X1.out 0).trans rfl; have y1 := (blk_cell X1.out 1).trans rfl; have y2 := (blk_cell X1.out 2).trans rfl) | (go_at_call 60; refine (rValid_calls d.f0 d.f1 A2 c2 d.f2 _ (Kd.C_below HR2.out HB1.out) HC2.out).mono ?_; rintro e w2 ⟨rfl, hb⟩; rw [HD.out]; have HB2 := Aside0.mk (below_step HB1.out hb); have X2 := Aside0.mk (blk_below X1.out hb); clear hb y0 y1 y2; have y0 := (blk_cell X2.out 0).trans rfl; have y1 := (blk_cell X2.out 1).trans rfl; have y2 := (blk_cell X2.out 2).trans rfl))
  go_wp2_with (first | ((with_reducible refine gate_dst (N := 29) rfl ?_); refine goesL_ (some 29) rfl rfl Try.func37 (by kernel_rfl) rfl #[.slice A l.length c, .int .i64 (kk : Int), .agg #[.int .i64 d.f0, .bool d.f1, .slice A2 d.f2.length c2]] rfl (by (try simp only [List.map_toArray, List.map_cons, List.map_nil]); first | done | rfl) ?_; refine (With_calls A A2 c c2 l kk d _ (Kd.C_below HR.out HB2.out) (Kd.C_below HR2.out HB2.out) HC2.out HK.out HM.out).mono ?_; rintro e w3 ⟨Aw, cw, rfl, hcw, hC, hb⟩; refine ⟨_, rfl, ?_⟩; have HB3 := Aside0.mk (below_step HB2.out hb); have W3 := Aside0.mk hC; have CW := Aside0.mk hcw; clear hb hC hcw) | ((with_reducible refine gate_dst (N := 31) rfl ?_); refine goesL_ (some 31) rfl rfl Try.func55 (by kernel_rfl) rfl #[.slice Aw l.length cw, .int .i64 (kk : Int)] rfl (by (try simp only [List.map_toArray, List.map_cons, List.map_nil]); first | done | rfl) ?_; have hq := renewed_calls_r Aw cw (withD l kk d) kk _ (by rw [HL.out]; exact W3.out) (by rw [HL.out]; exact CW.out) HVW.out; rw [HL.out] at hq; refine hq.mono ?_; rintro e w4 ⟨hb, hp⟩; (rcases hp with ⟨o, v, rfl, hpre, hra⟩ | ⟨j, u, o, rfl, hpre, h0, hj, hu, hdn, hn⟩); all_goals refine ⟨_, rfl, ?_⟩))
  · refine bodyPost_ret (change_end (by rfl) (by rfl)) rfl ?_
    rw [HL.out] at hpre
    rw [HS.out, change_of_pre (vTree_ups HV.out) HK.out hpre]
    exact ⟨_, rfl, Kd.R_lower hra HB3.out.size, below_step HB3.out hb⟩
  · refine bodyPost_ret (change_end (by rfl) (by rfl)) rfl ?_
    rw [HL.out] at hj
    rw [HS.out, change_none (vTree_ups HV.out) HK.out hpre h0 hj hu hdn hn]
    exact ⟨_, rfl, Kd.R_nil _ _ _ _ _, below_step HB3.out hb⟩
theorem rChange_calls (A : Option Addr) (c : Nat) (l : List S35) (k : Int) (A2 : Option Addr) (c2 : Nat) (d : S33) (w : World) (hr : Kd.C k35 w A l.length l) (hc : l.length ≤ c) (hr2 : k37.C w A2 d.f2.length d.f2) (hc2 : d.f2.length ≤ c2) :
    Calls Try.prog 35 #[.slice A l.length c, .int .i64 k, .agg #[.int .i64 d.f0, .bool d.f1, .slice A2 d.f2.length c2]] w (TreePost (sChange l k d) w) := by
  cases hv : vTree l with
  | false => exact rChange_bad A c l k A2 c2 d w hr hc hr2 hc2 hv
  | true =>
    cases hd : vDesc d.f0 d.f2 with
    | false => exact rChange_desc A c l k A2 c2 d w hr hc hr2 hc2 hv hd
    | true =>
      by_cases h0 : k < 0
      · exact rChange_neg A c l k A2 c2 d w hr hc hr2 hc2 hv hd h0
      · obtain ⟨kk, rfl⟩ : ∃ m : Nat, k = m := ⟨k.toNat, by omega⟩
        by_cases h1 : l.length ≤ kk
        · exact rChange_far A c l kk A2 c2 d w hr hc hr2 hc2 hv hd h1
        · exact rChange_in A c l kk A2 c2 d w hr hc hr2 hc2 hv hd (by omega)
end Go.Proofs.Ytgocgjfaiddejaa.M
