/- inherit.Change. -/
import Derived.Test.YtgocgjfaiddejaaH23
namespace Go.Proofs.Ytgocgjfaiddejaa.M
open Go.RowKit Go.Proofs.YtgocgjfaiddejaaW.PrintWords Go.Proofs.YtgocgjfaiddejaaW.PrintLast Go.Proofs.YtgocgjfaiddejaaW.PrintMore
set_option linter.unusedVariables false
set_option linter.unusedSimpArgs false
set_option linter.unnecessarySimpa false

def chF (l : List S35) (k : Nat) (d : S33) : Option (List S35) := if 0 < k then (renewD (rd_T35 l (rd_T35 l k).f0).f2 d (rd_T35 l k).f1).bind (fun d' => spreadF l k d') else spreadF l k d
def sChange (l : List S35) (k : Int) (d : S33) : List S35 × Int :=
  if vTree l = true ∧ vD d = true then (if 0 ≤ k ∧ k < l.length then treeOf (chF l k.toNat d) else ([], 3)) else ([], 1)
set_option maxRecDepth 100000 in
set_option maxHeartbeats 2000000 in
theorem Change_bad (A A2 : Option Addr) (c c2 : Nat) (l : List S35) (k : Int) (d : S33) (w : World) (hr : Kd.C k35 w A l.length l) (hr2 : k37.C w A2 d.f2.length d.f2) (hc2 : d.f2.length ≤ c2) (hb : ¬ (vTree l = true ∧ vD d = true ∧ 0 ≤ k ∧ k < l.length)) :
    Calls Try.prog 34 #[.slice A l.length c, .int .i64 k, .agg #[.int .i64 d.f0, .bool d.f1, .slice A2 d.f2.length c2]] w (TreePost (sChange l k d) w) := by
  have HR := Aside0.mk hr
  have HR2 := Aside0.mk hr2
  have HC2 := Aside0.mk hc2
  clear hr hr2 hc2
  by_cases hv : vTree l = true
  · have HV := Aside0.mk hv
    by_cases hd : vD d = true
    · have HD := Aside0.mk (show vDesc d.f0 d.f2 = true from hd)
      have HS := Aside0.mk (show sChange l k d = ([], 3) by unfold sChange; rw [if_pos ⟨hv, hd⟩, if_neg (fun h => hb ⟨hv, hd, h⟩)])
      have hk : k < 0 ∨ (0 ≤ k ∧ (l.length : Int) ≤ k) := by
        rcases Int.lt_or_le k 0 with h | h
        · exact .inl h
        · refine .inr ⟨h, ?_⟩
          rcases Int.lt_or_le k l.length with h2 | h2
          · exact absurd ⟨hv, hd, h, h2⟩ hb
          · exact h2
      clear hv hd hb
      rcases hk with hk | ⟨hk, hk2⟩
      · have k0 : decide (k < 0) = true := by simpa using hk
        clear hk
        go_enter_defers Try.func34, Try.ntmps34
        go_upto_region 1 with (fail)
        have hb_ := below_alloc (below_alloc (Below.refl _ w) (.cells #[.int .i64 d.f0, .bool d.f1, .slice A2 d.f2.length c2] 33)) (.cells #[.int .i64 0] 25)
        have hG0_ := blk_alloc (blk_lit0 w (.cells #[.int .i64 d.f0, .bool d.f1, .slice A2 d.f2.length c2] 33)) (.cells #[.int .i64 0] 25)
        have hG1_ := blk_lit w (.cells #[.int .i64 d.f0, .bool d.f1, .slice A2 d.f2.length c2] 33) (.cells #[.int .i64 0] 25)
        generalize ((w.alloc (.cells #[.int .i64 d.f0, .bool d.f1, .slice A2 d.f2.length c2] 33)).alloc (.cells #[.int .i64 0] 25)) = W at hb_ hG0_ hG1_ ⊢
        have HB_W := Aside0.mk hb_
        have W0 := Aside0.mk hG0_
        have W1 := Aside0.mk hG1_
        clear hb_ hG0_ hG1_
        go_wp2_with (first | ((with_reducible refine gate_dst (N := 10) rfl ?_); refine goesL_ (some 10) rfl rfl Try.func32 (by kernel_rfl) rfl #[.slice A l.length c] rfl (by (try simp only [List.map_toArray, List.map_cons, List.map_nil]); first | done | rfl) ?_; refine (Check_calls A c l _ (Kd.C_below HR.out HB_W.out)).mono ?_; rintro e w1 ⟨rfl, hb⟩; refine ⟨_, rfl, ?_⟩; rw [HV.out]; simp only [errOf]; have HB1 := Aside0.mk (below_step HB_W.out hb); have V0 := Aside0.mk (blk_below W0.out hb); have V1 := Aside0.mk (blk_below W1.out hb); clear hb; have y0 := (blk_cell V0.out 0).trans rfl; have y1 := (blk_cell V0.out 1).trans rfl; have y2 := (blk_cell V0.out 2).trans rfl; have z0 := (blk_cell V1.out 0).trans rfl; have fz0 := blk_frozen V1.out 0) | ((with_reducible refine gate_dst (N := 16) rfl ?_); refine goesL_ (some 16) rfl rfl Try.func58 (by kernel_rfl) rfl #[.slice (some ⟨w1.heap.size, 0, none⟩) 1 1] rfl (by (try simp only [List.map_toArray, List.map_cons, List.map_nil]); first | done | rfl) ?_; refine (valid_one _ d.f0 d.f1 A2 c2 d.f2 _ (blk_new _ _) (Kd.C_alloc (Kd.C_below HR2.out HB1.out) _) HC2.out).mono ?_; rintro e w2 ⟨rfl, hb⟩; refine ⟨_, rfl, ?_⟩; rw [HD.out]; have HB2 := Aside0.mk (below_step (below_alloc HB1.out _) hb); have X1 := Aside0.mk (blk_below (blk_alloc V1.out _) hb); clear hb y0 y1 y2 z0 fz0; have z0 := (blk_cell X1.out 0).trans rfl; have fz0 := blk_frozen X1.out 0))
        rw [HS.out]
        exact tree_bad rfl (Nat.le_succ _) X1.out HB2.out rfl rfl
      · have k0 : decide (k < 0) = false := by simp; omega
        have k1 : decide ((l.length : Int) ≤ k) = true := by simpa using hk2
        clear hk hk2
        go_enter_defers Try.func34, Try.ntmps34
        go_upto_region 1 with (fail)
        have hb_ := below_alloc (below_alloc (Below.refl _ w) (.cells #[.int .i64 d.f0, .bool d.f1, .slice A2 d.f2.length c2] 33)) (.cells #[.int .i64 0] 25)
        have hG0_ := blk_alloc (blk_lit0 w (.cells #[.int .i64 d.f0, .bool d.f1, .slice A2 d.f2.length c2] 33)) (.cells #[.int .i64 0] 25)
        have hG1_ := blk_lit w (.cells #[.int .i64 d.f0, .bool d.f1, .slice A2 d.f2.length c2] 33) (.cells #[.int .i64 0] 25)
        generalize ((w.alloc (.cells #[.int .i64 d.f0, .bool d.f1, .slice A2 d.f2.length c2] 33)).alloc (.cells #[.int .i64 0] 25)) = W at hb_ hG0_ hG1_ ⊢
        have HB_W := Aside0.mk hb_
        have W0 := Aside0.mk hG0_
        have W1 := Aside0.mk hG1_
        clear hb_ hG0_ hG1_
        go_wp2_with (first | ((with_reducible refine gate_dst (N := 10) rfl ?_); refine goesL_ (some 10) rfl rfl Try.func32 (by kernel_rfl) rfl #[.slice A l.length c] rfl (by (try simp only [List.map_toArray, List.map_cons, List.map_nil]); first | done | rfl) ?_; refine (Check_calls A c l _ (Kd.C_below HR.out HB_W.out)).mono ?_; rintro e w1 ⟨rfl, hb⟩; refine ⟨_, rfl, ?_⟩; rw [HV.out]; simp only [errOf]; have HB1 := Aside0.mk (below_step HB_W.out hb); have V0 := Aside0.mk (blk_below W0.out hb); have V1 := Aside0.mk (blk_below W1.out hb); clear hb; have y0 := (blk_cell V0.out 0).trans rfl; have y1 := (blk_cell V0.out 1).trans rfl; have y2 := (blk_cell V0.out 2).trans rfl; have z0 := (blk_cell V1.out 0).trans rfl; have fz0 := blk_frozen V1.out 0) | ((with_reducible refine gate_dst (N := 16) rfl ?_); refine goesL_ (some 16) rfl rfl Try.func58 (by kernel_rfl) rfl #[.slice (some ⟨w1.heap.size, 0, none⟩) 1 1] rfl (by (try simp only [List.map_toArray, List.map_cons, List.map_nil]); first | done | rfl) ?_; refine (valid_one _ d.f0 d.f1 A2 c2 d.f2 _ (blk_new _ _) (Kd.C_alloc (Kd.C_below HR2.out HB1.out) _) HC2.out).mono ?_; rintro e w2 ⟨rfl, hb⟩; refine ⟨_, rfl, ?_⟩; rw [HD.out]; have HB2 := Aside0.mk (below_step (below_alloc HB1.out _) hb); have X1 := Aside0.mk (blk_below (blk_alloc V1.out _) hb); clear hb y0 y1 y2 z0 fz0; have z0 := (blk_cell X1.out 0).trans rfl; have fz0 := blk_frozen X1.out 0))
        rw [HS.out]
        exact tree_bad rfl (Nat.le_succ _) X1.out HB2.out rfl rfl
    · replace hd : vDesc d.f0 d.f2 = false := by simpa [vD] using hd
      have HD := Aside0.mk hd
      have HS := Aside0.mk (show sChange l k d = ([], 1) by unfold sChange; rw [if_neg (fun h => by have := h.2; unfold vD at this; rw [hd] at this; cases this)])
      clear hv hd hb
      go_enter_defers Try.func34, Try.ntmps34
      go_upto_region 1 with (fail)
      have hb_ := below_alloc (below_alloc (Below.refl _ w) (.cells #[.int .i64 d.f0, .bool d.f1, .slice A2 d.f2.length c2] 33)) (.cells #[.int .i64 0] 25)
      have hG0_ := blk_alloc (blk_lit0 w (.cells #[.int .i64 d.f0, .bool d.f1, .slice A2 d.f2.length c2] 33)) (.cells #[.int .i64 0] 25)
      have hG1_ := blk_lit w (.cells #[.int .i64 d.f0, .bool d.f1, .slice A2 d.f2.length c2] 33) (.cells #[.int .i64 0] 25)
      generalize ((w.alloc (.cells #[.int .i64 d.f0, .bool d.f1, .slice A2 d.f2.length c2] 33)).alloc (.cells #[.int .i64 0] 25)) = W at hb_ hG0_ hG1_ ⊢
      have HB_W := Aside0.mk hb_
      have W0 := Aside0.mk hG0_
      have W1 := Aside0.mk hG1_
      clear hb_ hG0_ hG1_
      go_wp2_with (first | ((with_reducible refine gate_dst (N := 10) rfl ?_); refine goesL_ (some 10) rfl rfl Try.func32 (by kernel_rfl) rfl #[.slice A l.length c] rfl (by (try simp only [List.map_toArray, List.map_cons, List.map_nil]); first | done | rfl) ?_; refine (Check_calls A c l _ (Kd.C_below HR.out HB_W.out)).mono ?_; rintro e w1 ⟨rfl, hb⟩; refine ⟨_, rfl, ?_⟩; rw [HV.out]; simp only [errOf]; have HB1 := Aside0.mk (below_step HB_W.out hb); have V0 := Aside0.mk (blk_below W0.out hb); have V1 := Aside0.mk (blk_below W1.out hb); clear hb; have y0 := (blk_cell V0.out 0).trans rfl; have y1 := (blk_cell V0.out 1).trans rfl; have y2 := (blk_cell V0.out 2).trans rfl; have z0 := (blk_cell V1.out 0).trans rfl; have fz0 := blk_frozen V1.out 0) | ((with_reducible refine gate_dst (N := 16) rfl ?_); refine goesL_ (some 16) rfl rfl Try.func58 (by kernel_rfl) rfl #[.slice (some ⟨w1.heap.size, 0, none⟩) 1 1] rfl (by (try simp only [List.map_toArray, List.map_cons, List.map_nil]); first | done | rfl) ?_; refine (valid_one _ d.f0 d.f1 A2 c2 d.f2 _ (blk_new _ _) (Kd.C_alloc (Kd.C_below HR2.out HB1.out) _) HC2.out).mono ?_; rintro e w2 ⟨rfl, hb⟩; refine ⟨_, rfl, ?_⟩; rw [HD.out]; have HB2 := Aside0.mk (below_step (below_alloc HB1.out _) hb); have X1 := Aside0.mk (blk_below (blk_alloc V1.out _) hb); clear hb y0 y1 y2 z0 fz0; have z0 := (blk_cell X1.out 0).trans rfl; have fz0 := blk_frozen X1.out 0))
      rw [HS.out]
      exact tree_bad rfl (Nat.le_succ _) X1.out HB2.out rfl rfl
  · replace hv : vTree l = false := by simpa using hv
    have HV := Aside0.mk hv
    have HS := Aside0.mk (show sChange l k d = ([], 1) by unfold sChange; rw [if_neg (fun h => by have := h.1; rw [hv] at this; cases this)])
    clear hv hb
    go_enter_defers Try.func34, Try.ntmps34
    go_upto_region 1 with (fail)
    have hb_ := below_alloc (below_alloc (Below.refl _ w) (.cells #[.int .i64 d.f0, .bool d.f1, .slice A2 d.f2.length c2] 33)) (.cells #[.int .i64 0] 25)
    have hG0_ := blk_alloc (blk_lit0 w (.cells #[.int .i64 d.f0, .bool d.f1, .slice A2 d.f2.length c2] 33)) (.cells #[.int .i64 0] 25)
    have hG1_ := blk_lit w (.cells #[.int .i64 d.f0, .bool d.f1, .slice A2 d.f2.length c2] 33) (.cells #[.int .i64 0] 25)
    generalize ((w.alloc (.cells #[.int .i64 d.f0, .bool d.f1, .slice A2 d.f2.length c2] 33)).alloc (.cells #[.int .i64 0] 25)) = W at hb_ hG0_ hG1_ ⊢
    have HB_W := Aside0.mk hb_
    have W0 := Aside0.mk hG0_
    have W1 := Aside0.mk hG1_
    clear hb_ hG0_ hG1_
    go_wp2_with ((with_reducible refine gate_dst (N := 10) rfl ?_); refine goesL_ (some 10) rfl rfl Try.func32 (by kernel_rfl) rfl #[.slice A l.length c] rfl (by (try simp only [List.map_toArray, List.map_cons, List.map_nil]); first | done | rfl) ?_; refine (Check_calls A c l _ (Kd.C_below HR.out HB_W.out)).mono ?_; rintro e w1 ⟨rfl, hb⟩; refine ⟨_, rfl, ?_⟩; rw [HV.out]; simp only [errOf]; have HB1 := Aside0.mk (below_step HB_W.out hb); have V1 := Aside0.mk (blk_below W1.out hb); clear hb; have z0 := (blk_cell V1.out 0).trans rfl; have fz0 := blk_frozen V1.out 0)
    rw [HS.out]
    exact tree_bad rfl (Nat.le_succ _) V1.out HB1.out rfl rfl
theorem then_panic {P : Program} {fn : Func} {R : Ending → World → Prop} {K : Act → World → Prop} {c : List PanicEntry} {a : Act} {w : World} (h : bodyPostD P fn R (.panic c) a w) : Exit.then K (bodyPostD P fn R) (.panic c) a w := h
theorem renewD_short {p d d' : S33} {dir : Bool} (h : renewD p d dir = some d') (hl : d.f2.length ≤ 16) : d'.f2.length ≤ 16 := by
  unfold renewD at h
  split at h
  · cases h; exact hl
  · split at h
    · cases h; assumption
    · cases h
theorem results_far {fn : Func} {p q : Tmp} (hfn : fn.results = #[.tmp p, .cell q 25]) (ts : Array Value) (N : Tmp) (v : Value) (h1 : N ≠ p) (h2 : N ≠ q) : results fn (ts.setIfInBounds N v) = results fn ts := by
  unfold results
  rw [hfn]
  simp [Array.getD_eq_getD_getElem?, Array.getElem?_setIfInBounds_ne, h1, h2]
theorem leaves_slots {P : Program} {fn : Func} {t1 t2 : Array Value} {R : Ending → World → Prop} (h : results fn t1 = results fn t2) : ∀ (ds : List Deferred) (u : FrameMode) (w : World), Leaves P fn t1 R ds u w → Leaves P fn t2 R ds u w := by
  intro ds
  induction ds with
  | nil =>
    intro u w hl
    cases u with
    | run => exact hl
    | returning => unfold Leaves at hl ⊢; rwa [h] at hl
    | panicking c => exact hl
  | cons d ds ih =>
    intro u w hl
    obtain ⟨h1, fv, cap, f, args, h2, h3, h4⟩ := hl
    refine ⟨h1, fv, cap, f, args, h2, h3, fun c cs hm => ?_⟩
    obtain ⟨e, u', w', fr, hR, hc⟩ := h4 c cs hm
    refine ⟨e, u', w', fr, ?_, hc⟩
    cases e with
    | returned v => exact ih _ _ hR
    | panicked c => exact ih _ _ hR
    | outgrown => exact hR
/-- On a panic only the results' slots count. -/
theorem panic_far {P : Program} {fn : Func} {R : Ending → World → Prop} {K : Act → World → Prop} {p q N : Tmp} {v : Value} (hfn : fn.results = #[.tmp p, .cell q 25]) (h1 : N ≠ p) (h2 : N ≠ q) (c : List PanicEntry) (a : Act) (w : World)
    (h : Exit.then K (bodyPostD P fn R) (.panic c) (a.put (some N) v) w) : Exit.then K (bodyPostD P fn R) (.panic c) a w :=
  leaves_slots (results_far hfn a.tmps N v h1 h2) a.defers (.panicking c) w h
set_option maxRecDepth 100000 in
set_option maxHeartbeats 2000000 in
theorem Change_root (A A2 : Option Addr) (c c2 : Nat) (l : List S35) (kk : Nat) (d : S33) (w : World) (hr : Kd.C k35 w A l.length l) (hr2 : k37.C w A2 d.f2.length d.f2) (hc2 : d.f2.length ≤ c2) (hv : vTree l = true) (hd : vD d = true) (hk : kk < l.length) (h0 : kk = 0) :
    Calls Try.prog 34 #[.slice A l.length c, .int .i64 kk, .agg #[.int .i64 d.f0, .bool d.f1, .slice A2 d.f2.length c2]] w (TreePost (treeOf (spreadF l kk d)) w) := by
  have HR := Aside0.mk hr
  have HR2 := Aside0.mk hr2
  have HC2 := Aside0.mk hc2
  have HV := Aside0.mk hv
  have HKL := Aside0.mk hk
  have HD := Aside0.mk (show vDesc d.f0 d.f2 = true from hd)
  have HM := Aside0.mk (vDesc_len (show vDesc d.f0 d.f2 = true from hd))
  have k0 : decide ((kk : Int) < 0) = false := decide_eq_false (by omega)
  have k1 : decide (l.length ≤ kk) = false := decide_eq_false (by omega)
  have k2 : decide (0 < kk) = false := decide_eq_false (by omega)
  clear hr hr2 hc2 hv hd hk h0
  go_enter_defers Try.func34, Try.ntmps34
  go_upto_region 1 with (fail)
  have hb_ := below_alloc (below_alloc (Below.refl _ w) (.cells #[.int .i64 d.f0, .bool d.f1, .slice A2 d.f2.length c2] 33)) (.cells #[.int .i64 0] 25)
  have hG0_ := blk_alloc (blk_lit0 w (.cells #[.int .i64 d.f0, .bool d.f1, .slice A2 d.f2.length c2] 33)) (.cells #[.int .i64 0] 25)
  have hG1_ := blk_lit w (.cells #[.int .i64 d.f0, .bool d.f1, .slice A2 d.f2.length c2] 33) (.cells #[.int .i64 0] 25)
  generalize ((w.alloc (.cells #[.int .i64 d.f0, .bool d.f1, .slice A2 d.f2.length c2] 33)).alloc (.cells #[.int .i64 0] 25)) = W at hb_ hG0_ hG1_ ⊢
  have HB_W := Aside0.mk hb_
  have W0 := Aside0.mk hG0_
  have W1 := Aside0.mk hG1_
  clear hb_ hG0_ hG1_
  go_upto_region 11 with (first | ((with_reducible refine gate_dst (N := 10) rfl ?_); refine goesL_ (some 10) rfl rfl Try.func32 (by kernel_rfl) rfl #[.slice A l.length c] rfl (by (try simp only [List.map_toArray, List.map_cons, List.map_nil]); first | done | rfl) ?_; refine (Check_calls A c l _ (Kd.C_below HR.out HB_W.out)).mono ?_; rintro e w1 ⟨rfl, hb⟩; refine ⟨_, rfl, ?_⟩; rw [HV.out]; simp only [errOf]; have HB1 := Aside0.mk (below_step HB_W.out hb); have V0 := Aside0.mk (blk_below W0.out hb); have V1 := Aside0.mk (blk_below W1.out hb); clear hb; have y0 := (blk_cell V0.out 0).trans rfl; have y1 := (blk_cell V0.out 1).trans rfl; have y2 := (blk_cell V0.out 2).trans rfl; have z0 := (blk_cell V1.out 0).trans rfl; have fz0 := blk_frozen V1.out 0) | ((with_reducible refine gate_dst (N := 16) rfl ?_); refine goesL_ (some 16) rfl rfl Try.func58 (by kernel_rfl) rfl #[.slice (some ⟨w1.heap.size, 0, none⟩) 1 1] rfl (by (try simp only [List.map_toArray, List.map_cons, List.map_nil]); first | done | rfl) ?_; refine (valid_one _ d.f0 d.f1 A2 c2 d.f2 _ (blk_new _ _) (Kd.C_alloc (Kd.C_below HR2.out HB1.out) _) HC2.out).mono ?_; rintro e w2 ⟨rfl, hb⟩; refine ⟨_, rfl, ?_⟩; rw [HD.out]; have HB2 := Aside0.mk (below_step (below_alloc HB1.out _) hb); have X0 := Aside0.mk (blk_below (blk_alloc V0.out _) hb); have X1 := Aside0.mk (blk_below (blk_alloc V1.out _) hb); clear hb y0 y1 y2 z0 fz0; have y0 := (blk_cell X0.out 0).trans rfl; have y1 := (blk_cell X0.out 1).trans rfl; have y2 := (blk_cell X0.out 2).trans rfl; have z0 := (blk_cell X1.out 0).trans rfl; have fz0 := blk_frozen X1.out 0))
  cases hsp : spreadF l kk d with
  | some out =>
    have HSP := Aside0.mk hsp
    go_wp2_with ((with_reducible refine gate_dst (N := 47) rfl ?_); refine goesP (some 47) rfl rfl Try.func57 (by kernel_rfl) rfl #[.slice A l.length c, .int .i64 (kk : Int), .agg #[.int .i64 d.f0, .bool d.f1, .slice A2 d.f2.length c2]] rfl (by (try simp only [List.map_toArray, List.map_cons, List.map_nil]); first | done | rfl) ?_; refine (spread_calls A A2 c c2 l kk d.f0 d.f1 d.f2 _ (Kd.C_below HR.out HB2.out) HV.out HKL.out (Kd.C_below HR2.out HB2.out) HM.out).mono ?_; rintro e w3 ⟨hb, hp⟩; rw [show spreadF l kk ⟨d.f0, d.f1, d.f2⟩ = some out from HSP.out] at hp; obtain ⟨v, rfl, hra⟩ := hp; refine .inl ⟨_, rfl, ?_⟩; obtain ⟨A3, c3, rfl⟩ := Kd.R_slice hra; have HO := Aside0.mk (Kd.R_lower hra HB2.out.size); have HB3 := Aside0.mk (below_step HB2.out hb); have X3 := Aside0.mk (blk_below X1.out hb); clear z0 fz0; have z0 := (blk_cell X3.out 0).trans rfl; have fz0 := blk_frozen X3.out 0; clear hra hb)
    (try rw [HSP.out])
    exact (show bodyPostD Try.prog Try.f34 (TreePost (out, 0) w) Exit.normal _ _ from tree_end rfl (show w.heap.size ≤ w.heap.size + 1 by omega) X3.out HO.out HB3.out rfl rfl)
  | none =>
    have HSP := Aside0.mk hsp
    go_wp2_with ((with_reducible refine gate_dst (N := 47) rfl ?_); refine goesP (some 47) rfl rfl Try.func57 (by kernel_rfl) rfl #[.slice A l.length c, .int .i64 (kk : Int), .agg #[.int .i64 d.f0, .bool d.f1, .slice A2 d.f2.length c2]] rfl (by (try simp only [List.map_toArray, List.map_cons, List.map_nil]); first | done | rfl) ?_; refine (spread_calls A A2 c c2 l kk d.f0 d.f1 d.f2 _ (Kd.C_below HR.out HB2.out) HV.out HKL.out (Kd.C_below HR2.out HB2.out) HM.out).mono ?_; rintro e w3 ⟨hb, hp⟩; rw [show spreadF l kk ⟨d.f0, d.f1, d.f2⟩ = none from HSP.out] at hp; subst hp; refine .inr ⟨_, rfl, ?_⟩; have HB3 := Aside0.mk (below_step HB2.out hb); have X3 := Aside0.mk (blk_below X1.out hb); clear hb)
    (try rw [HSP.out])
    exact tree_limit rfl (show w.heap.size ≤ w.heap.size + 1 by omega) X3.out HB3.out rfl rfl
set_option maxRecDepth 100000 in
set_option maxHeartbeats 2000000 in
theorem Change_deep (A A2 : Option Addr) (c c2 : Nat) (l : List S35) (kk : Nat) (d : S33) (w : World) (hr : Kd.C k35 w A l.length l) (hr2 : k37.C w A2 d.f2.length d.f2) (hc2 : d.f2.length ≤ c2) (hv : vTree l = true) (hd : vD d = true) (hk : kk < l.length) (h0 : 0 < kk) :
    Calls Try.prog 34 #[.slice A l.length c, .int .i64 kk, .agg #[.int .i64 d.f0, .bool d.f1, .slice A2 d.f2.length c2]] w (TreePost (treeOf ((renewD (rd_T35 l (rd_T35 l kk).f0).f2 d (rd_T35 l kk).f1).bind (fun d' => spreadF l kk d'))) w) := by
  have HR := Aside0.mk hr
  have HR2 := Aside0.mk hr2
  have HC2 := Aside0.mk hc2
  have HV := Aside0.mk hv
  have HKL := Aside0.mk hk
  have HD := Aside0.mk (show vDesc d.f0 d.f2 = true from hd)
  have HM := Aside0.mk (vDesc_len (show vDesc d.f0 d.f2 = true from hd))
  have k0 : decide ((kk : Int) < 0) = false := decide_eq_false (by omega)
  have k1 : decide (l.length ≤ kk) = false := decide_eq_false (by omega)
  have k2 : decide (0 < kk) = true := decide_eq_true h0
  have hvk := vTree_at hv hk
  obtain ⟨u, hu, hu1, _⟩ := vTw_up hvk h0
  have HU := Aside0.mk hu
  have HUL := Aside0.mk hu1
  have HUM := Aside0.mk (vTw_len (vTree_at hv (show u < l.length by omega)))
  clear hr hr2 hc2 hv hd hk h0 hvk hu
  go_enter_defers Try.func34, Try.ntmps34
  go_upto_region 1 with (fail)
  have hb_ := below_alloc (below_alloc (Below.refl _ w) (.cells #[.int .i64 d.f0, .bool d.f1, .slice A2 d.f2.length c2] 33)) (.cells #[.int .i64 0] 25)
  have hG0_ := blk_alloc (blk_lit0 w (.cells #[.int .i64 d.f0, .bool d.f1, .slice A2 d.f2.length c2] 33)) (.cells #[.int .i64 0] 25)
  have hG1_ := blk_lit w (.cells #[.int .i64 d.f0, .bool d.f1, .slice A2 d.f2.length c2] 33) (.cells #[.int .i64 0] 25)
  generalize ((w.alloc (.cells #[.int .i64 d.f0, .bool d.f1, .slice A2 d.f2.length c2] 33)).alloc (.cells #[.int .i64 0] 25)) = W at hb_ hG0_ hG1_ ⊢
  have HB_W := Aside0.mk hb_
  have W0 := Aside0.mk hG0_
  have W1 := Aside0.mk hG1_
  clear hb_ hG0_ hG1_
  go_upto_region 10 with (first | ((with_reducible refine gate_dst (N := 10) rfl ?_); refine goesL_ (some 10) rfl rfl Try.func32 (by kernel_rfl) rfl #[.slice A l.length c] rfl (by (try simp only [List.map_toArray, List.map_cons, List.map_nil]); first | done | rfl) ?_; refine (Check_calls A c l _ (Kd.C_below HR.out HB_W.out)).mono ?_; rintro e w1 ⟨rfl, hb⟩; refine ⟨_, rfl, ?_⟩; rw [HV.out]; simp only [errOf]; have HB1 := Aside0.mk (below_step HB_W.out hb); have V0 := Aside0.mk (blk_below W0.out hb); have V1 := Aside0.mk (blk_below W1.out hb); clear hb; have y0 := (blk_cell V0.out 0).trans rfl; have y1 := (blk_cell V0.out 1).trans rfl; have y2 := (blk_cell V0.out 2).trans rfl; have z0 := (blk_cell V1.out 0).trans rfl; have fz0 := blk_frozen V1.out 0) | ((with_reducible refine gate_dst (N := 16) rfl ?_); refine goesL_ (some 16) rfl rfl Try.func58 (by kernel_rfl) rfl #[.slice (some ⟨w1.heap.size, 0, none⟩) 1 1] rfl (by (try simp only [List.map_toArray, List.map_cons, List.map_nil]); first | done | rfl) ?_; refine (valid_one _ d.f0 d.f1 A2 c2 d.f2 _ (blk_new _ _) (Kd.C_alloc (Kd.C_below HR2.out HB1.out) _) HC2.out).mono ?_; rintro e w2 ⟨rfl, hb⟩; refine ⟨_, rfl, ?_⟩; rw [HD.out]; have HB2 := Aside0.mk (below_step (below_alloc HB1.out _) hb); have X0 := Aside0.mk (blk_below (blk_alloc V0.out _) hb); have X1 := Aside0.mk (blk_below (blk_alloc V1.out _) hb); clear hb y0 y1 y2 z0 fz0; have y0 := (blk_cell X0.out 0).trans rfl; have y1 := (blk_cell X0.out 1).trans rfl; have y2 := (blk_cell X0.out 2).trans rfl; have z0 := (blk_cell X1.out 0).trans rfl; have fz0 := blk_frozen X1.out 0))
  obtain ⟨ad, Ak, ck, rfl, a0, a1, a2, a3, a4, lk, rk⟩ := at_T35 (Kd.C_below HR.out HB2.out) (kk : Int) (by omega) (by have := HKL.out; omega)
  obtain ⟨ad', Au, cu, hA, b0, b1, b2, b3, b4, lu, ru⟩ := at_T35 (Kd.C_below HR.out HB2.out) (u : Int) (by omega) (by have := HKL.out; omega)
  cases hA
  simp only [Int.toNat_natCast] at a0 a1 b2 b3 b4
  rw [HU.out] at a0
  have HRU := Aside0.mk (Kd.C_drew ru)
  have HR2D := Aside0.mk (Kd.C_drew (Kd.C_below HR2.out HB2.out))
  clear a2 a3 a4 lk rk b0 b1 lu ru y0 y1 y2 z0 fz0
  refine start_ (n := 17) (S := fun w' => w'.cell? (ad.add (kk * 5)) = some (.int .i64 (u : Int)) ∧ w'.cell? ⟨(ad.add (kk * 5)).block, (ad.add (kk * 5)).off + 1, none⟩ = some (.bool (rd_T35 l kk).f1) ∧ w'.cell? ⟨(ad.add (u * 5)).block, (ad.add (u * 5)).off + 2, none⟩ = some (.int .i64 (rd_T35 l u).f2.f0) ∧ w'.cell? ⟨(ad.add (u * 5)).block, (ad.add (u * 5)).off + 3, none⟩ = some (.bool (rd_T35 l u).f2.f1) ∧ w'.cell? ⟨(ad.add (u * 5)).block, (ad.add (u * 5)).off + 4, none⟩ = some (.slice Au (rd_T35 l u).f2.f2.length cu) ∧ w'.cell? ⟨w.heap.size, 0, none⟩ = some (.int .i64 d.f0) ∧ w'.cell? ⟨w.heap.size, 1, none⟩ = some (.bool d.f1) ∧ w'.cell? ⟨w.heap.size, 2, none⟩ = some (.slice A2 d.f2.length c2)) (ds := [16]) #[false, false, false, false, false, false, false, false, false, false, false, false, false, false, false, false, false] (by kernel_rfl) rfl rfl ⟨a0, a1, b2, b3, b4, (blk_cell (blk_drew X0.out) 0).trans rfl, (blk_cell (blk_drew X0.out) 1).trans rfl, (blk_cell (blk_drew X0.out) 2).trans rfl⟩ (fun hHeld => ?_)
  have XD0 := Aside0.mk (blk_drew X0.out)
  have XD1 := Aside0.mk (blk_drew X1.out)
  have HBD := Aside0.mk (below_drew1 HB2.out)
  clear X0 X1 HB2 V0 V1 HB1 a0 a1 b2 b3 b4
  generalize w2.drew = wd at XD0 XD1 HBD HRU HR2D hHeld ⊢
  have kU : u < l.length := by have := HUL.out; have := HKL.out; omega
  have kK : kk < l.length := HKL.out
  skip
  refine pure_ (i := 0) (N := some 28) (v := ?_) (a' := ?_) #[true, false, false, false, false, false, false, false, false, false, false, false, false, false, false, false, false] rfl rfl (by kernel_rfl) (fun c a w h => panic_far (N := 28) rfl (by decide) (by decide) c a w h) (Or.inl ⟨by rfl, ?_⟩) ?_ ?_
  rotate_left
  · intro w'
    go_simp
    with_reducible rfl
  rotate_left
  · simp only [Act.put, List.setIfInBounds_toArray, List.set_cons_zero, List.set_cons_succ, i64_w, i32_w]
    rfl
  refine pure_ (i := 1) (N := some 29) (v := ?_) (a' := ?_) #[true, true, false, false, false, false, false, false, false, false, false, false, false, false, false, false, false] rfl rfl (by kernel_rfl) (fun c a w h => panic_far (N := 29) rfl (by decide) (by decide) c a w h) (Or.inl ⟨by rfl, ?_⟩) ?_ ?_
  rotate_left
  · intro w'
    go_simp
    with_reducible rfl
  rotate_left
  · simp only [Act.put, List.setIfInBounds_toArray, List.set_cons_zero, List.set_cons_succ, i64_w, i32_w]
    rfl
  refine pure_ (i := 2) (N := some 30) (v := ?_) (a' := ?_) #[true, true, true, false, false, false, false, false, false, false, false, false, false, false, false, false, false] rfl rfl (by kernel_rfl) (fun c a w h => panic_far (N := 30) rfl (by decide) (by decide) c a w h) (Or.inl ⟨by rfl, ?_⟩) ?_ ?_
  rotate_left
  · intro w'
    go_simp
    with_reducible rfl
  rotate_left
  · simp only [Act.put, List.setIfInBounds_toArray, List.set_cons_zero, List.set_cons_succ, i64_w, i32_w]
    rfl
  refine pure_ (i := 3) (N := some 31) (v := ?_) (a' := ?_) #[true, true, true, true, false, false, false, false, false, false, false, false, false, false, false, false, false] rfl rfl (by kernel_rfl) (fun c a w h => panic_far (N := 31) rfl (by decide) (by decide) c a w h) (Or.inl ⟨by rfl, ?_⟩) ?_ ?_
  rotate_left
  · intro w'
    go_simp
    with_reducible rfl
  rotate_left
  · simp only [Act.put, List.setIfInBounds_toArray, List.set_cons_zero, List.set_cons_succ, i64_w, i32_w]
    rfl
  refine pure_ (i := 4) (N := some 32) (v := ?_) (a' := ?_) #[true, true, true, true, true, false, false, false, false, false, false, false, false, false, false, false, false] rfl rfl (by kernel_rfl) (fun c a w h => panic_far (N := 32) rfl (by decide) (by decide) c a w h) (Or.inl ⟨by rfl, ?_⟩) ?_ ?_
  rotate_left
  · intro w'
    go_simp
    with_reducible rfl
  rotate_left
  · simp only [Act.put, List.setIfInBounds_toArray, List.set_cons_zero, List.set_cons_succ, i64_w, i32_w]
    rfl
  refine take_ (i := 5) (N := some 33) (v := ?_) (a' := ?_) #[true, true, true, true, true, true, false, false, false, false, false, false, false, false, false, false, false] rfl rfl (by kernel_rfl) (fun c a w h => panic_far (N := 33) rfl (by decide) (by decide) c a w h) (Or.inl ⟨by rfl, ?_⟩) hHeld ?_ ?_
  rotate_left
  · rintro w' ⟨s0, s1, s2, s3, s4, s5, s6, s7⟩
    go_simp
    with_reducible rfl
  rotate_left
  · simp only [Act.put, List.setIfInBounds_toArray, List.set_cons_zero, List.set_cons_succ, i64_w, i32_w]
    rfl
  refine pure_ (i := 6) (N := some 34) (v := ?_) (a' := ?_) #[true, true, true, true, true, true, true, false, false, false, false, false, false, false, false, false, false] rfl rfl (by kernel_rfl) (fun c a w h => panic_far (N := 34) rfl (by decide) (by decide) c a w h) (Or.inl ⟨by rfl, ?_⟩) ?_ ?_
  rotate_left
  · intro w'
    go_simp
    with_reducible rfl
  rotate_left
  · simp only [Act.put, List.setIfInBounds_toArray, List.set_cons_zero, List.set_cons_succ, i64_w, i32_w]
    rfl
  refine pure_ (i := 7) (N := some 35) (v := ?_) (a' := ?_) #[true, true, true, true, true, true, true, true, false, false, false, false, false, false, false, false, false] rfl rfl (by kernel_rfl) (fun c a w h => panic_far (N := 35) rfl (by decide) (by decide) c a w h) (Or.inl ⟨by rfl, ?_⟩) ?_ ?_
  rotate_left
  · intro w'
    go_simp
    with_reducible rfl
  rotate_left
  · simp only [Act.put, List.setIfInBounds_toArray, List.set_cons_zero, List.set_cons_succ, i64_w, i32_w]
    rfl
  refine take_ (i := 8) (N := some 36) (v := ?_) (a' := ?_) #[true, true, true, true, true, true, true, true, true, false, false, false, false, false, false, false, false] rfl rfl (by kernel_rfl) (fun c a w h => panic_far (N := 36) rfl (by decide) (by decide) c a w h) (Or.inl ⟨by rfl, ?_⟩) hHeld ?_ ?_
  rotate_left
  · rintro w' ⟨s0, s1, s2, s3, s4, s5, s6, s7⟩
    go_simp
    with_reducible rfl
  rotate_left
  · simp only [Act.put, List.setIfInBounds_toArray, List.set_cons_zero, List.set_cons_succ, i64_w, i32_w]
    rfl
  refine take_ (i := 9) (N := some 37) (v := ?_) (a' := ?_) #[true, true, true, true, true, true, true, true, true, true, false, false, false, false, false, false, false] rfl rfl (by kernel_rfl) (fun c a w h => panic_far (N := 37) rfl (by decide) (by decide) c a w h) (Or.inl ⟨by rfl, ?_⟩) hHeld ?_ ?_
  rotate_left
  · rintro w' ⟨s0, s1, s2, s3, s4, s5, s6, s7⟩
    go_simp
    with_reducible rfl
  rotate_left
  · simp only [Act.put, List.setIfInBounds_toArray, List.set_cons_zero, List.set_cons_succ, i64_w, i32_w]
    rfl
  refine pure_ (i := 10) (N := some 38) (v := ?_) (a' := ?_) #[true, true, true, true, true, true, true, true, true, true, true, false, false, false, false, false, false] rfl rfl (by kernel_rfl) (fun c a w h => panic_far (N := 38) rfl (by decide) (by decide) c a w h) (Or.inl ⟨by rfl, ?_⟩) ?_ ?_
  rotate_left
  · intro w'
    go_simp
    with_reducible rfl
  rotate_left
  · simp only [Act.put, List.setIfInBounds_toArray, List.set_cons_zero, List.set_cons_succ, i64_w, i32_w]
    rfl
  refine pure_ (i := 11) (N := some 39) (v := ?_) (a' := ?_) #[true, true, true, true, true, true, true, true, true, true, true, true, false, false, false, false, false] rfl rfl (by kernel_rfl) (fun c a w h => panic_far (N := 39) rfl (by decide) (by decide) c a w h) (Or.inl ⟨by rfl, ?_⟩) ?_ ?_
  rotate_left
  · intro w'
    go_simp
    with_reducible rfl
  rotate_left
  · simp only [Act.put, List.setIfInBounds_toArray, List.set_cons_zero, List.set_cons_succ, i64_w, i32_w]
    rfl
  refine pure_ (i := 12) (N := some 40) (v := ?_) (a' := ?_) #[true, true, true, true, true, true, true, true, true, true, true, true, true, false, false, false, false] rfl rfl (by kernel_rfl) (fun c a w h => panic_far (N := 40) rfl (by decide) (by decide) c a w h) (Or.inl ⟨by rfl, ?_⟩) ?_ ?_
  rotate_left
  · intro w'
    go_simp
    with_reducible rfl
  rotate_left
  · simp only [Act.put, List.setIfInBounds_toArray, List.set_cons_zero, List.set_cons_succ, i64_w, i32_w]
    rfl
  refine pure_ (i := 13) (N := some 41) (v := ?_) (a' := ?_) #[true, true, true, true, true, true, true, true, true, true, true, true, true, true, false, false, false] rfl rfl (by kernel_rfl) (fun c a w h => panic_far (N := 41) rfl (by decide) (by decide) c a w h) (Or.inl ⟨by rfl, ?_⟩) ?_ ?_
  rotate_left
  · intro w'
    go_simp
    with_reducible rfl
  rotate_left
  · simp only [Act.put, List.setIfInBounds_toArray, List.set_cons_zero, List.set_cons_succ, i64_w, i32_w]
    rfl
  refine take_ (i := 14) (N := some 42) (v := ?_) (a' := ?_) #[true, true, true, true, true, true, true, true, true, true, true, true, true, true, true, false, false] rfl rfl (by kernel_rfl) (fun c a w h => panic_far (N := 42) rfl (by decide) (by decide) c a w h) (Or.inl ⟨by rfl, ?_⟩) hHeld ?_ ?_
  rotate_left
  · rintro w' ⟨s0, s1, s2, s3, s4, s5, s6, s7⟩
    go_simp
    with_reducible rfl
  rotate_left
  · simp only [Act.put, List.setIfInBounds_toArray, List.set_cons_zero, List.set_cons_succ, i64_w, i32_w]
    rfl
  refine one_ (i := 15) (N := some 43) #[true, true, true, true, true, true, true, true, true, true, true, true, true, true, true, true, false] rfl rfl (by kernel_rfl) (by decide) (fun K hK => ?_)
  refine goesP_ Try.func62 (by kernel_rfl) rfl #[.agg #[.int .i64 (rd_T35 l u).f2.f0, .bool (rd_T35 l u).f2.f1, .slice Au (rd_T35 l u).f2.f2.length cu], .agg #[.int .i64 d.f0, .bool d.f1, .slice A2 d.f2.length c2], .bool (rd_T35 l kk).f1] (by rfl) rfl rfl (by (try simp only [List.map_toArray, List.map_cons, List.map_nil]); first | done | rfl) ?_
  refine (renewed_calls _ _ _ _ Au A2 cu c2 (rd_T35 l u).f2.f2 d.f2 _ _ HRU.out HR2D.out HUM.out HM.out).mono ?_
  intro e w9 hp9
  obtain ⟨hb, ⟨d', v, hd', rfl, hra⟩ | ⟨hd', rfl⟩⟩ := renew_post (rd_T35 l u).f2 rfl hp9
  · refine .inl ⟨_, rfl, ?_⟩
    have HRN := Aside0.mk (show (renewD (rd_T35 l (rd_T35 l kk).f0).f2 d (rd_T35 l kk).f1).bind (fun d' => spreadF l kk d') = spreadF l kk d' by rw [HU.out]; show (renewD _ ⟨d.f0, d.f1, d.f2⟩ _).bind _ = _; rw [hd']; rfl)
    obtain ⟨t0, t1, t2, t3, t4, t5, t6, t7⟩ := hHeld
    obtain ⟨A9, c9, rfl⟩ := Kd.R_slice hra
    have HBE := Aside0.mk hb
    have HB9 := Aside0.mk (below_step HBD.out hb)
    have Z0 := Aside0.mk (blk_below XD0.out hb)
    have Z1 := Aside0.mk (blk_below XD1.out hb)
    have HL9 := Aside0.mk (show Kd.R k37 37 w9 wd.heap.size (fun k => k ≠ w.heap.size) (.slice A9 d'.f2.length c9) d'.f2 from Kd.R_mono (Kd.R_bound hra) (fun k hk => by have := hk.2.1; have := blk_lt XD0.out; omega))
    have HM9 := Aside0.mk (renewD_short hd' HM.out)
    clear hp9 hb hra hd' HBD XD0 XD1 HRU HR2D
    refine hK.out _ _ ⟨(HBE.out.cell (World.block_lt_of_cell? wd _ t0)).trans t0, (HBE.out.cell (World.block_lt_of_cell? wd _ t1)).trans t1, (HBE.out.cell (World.block_lt_of_cell? wd _ t2)).trans t2, (HBE.out.cell (World.block_lt_of_cell? wd _ t3)).trans t3, (HBE.out.cell (World.block_lt_of_cell? wd _ t4)).trans t4, (HBE.out.cell (World.block_lt_of_cell? wd _ t5)).trans t5, (HBE.out.cell (World.block_lt_of_cell? wd _ t6)).trans t6, (HBE.out.cell (World.block_lt_of_cell? wd _ t7)).trans t7⟩ (fun hHeld => ?_)
    clear hK K
    refine norm_ (a' := ?_) ?_ ?_
    rotate_left
    · show Act.put _ (some 43) _ = _
      simp only [Act.put, List.setIfInBounds_toArray, List.set_cons_zero, List.set_cons_succ, i64_w, i32_w]
      rfl
    clear t0 t1 t2 t3 t4 t5 t6 t7 hHeld
    have y0 := (blk_cell Z0.out 0).trans rfl; have y1 := (blk_cell Z0.out 1).trans rfl; have y2 := (blk_cell Z0.out 2).trans rfl
    have fy0 := blk_frozen Z0.out 0; have fy1 := blk_frozen Z0.out 1; have fy2 := blk_frozen Z0.out 2
    refine last_ (i := 16) (N := none) #[true, true, true, true, true, true, true, true, true, true, true, true, true, true, true, true, true] rfl rfl (by kernel_rfl) (by decide) (fun K hK => ?_)
    refine skip_ (w1 := ?_) (by rfl) rfl ?_ ?_
    rotate_left
    · go_simp
      rfl
    refine hK.out _ _ ?_
    clear hK K
    refine done_ (by kernel_rfl) ?_
    obtain ⟨w10, hw10⟩ : ∃ w10, w10 = (((w9.setCell ⟨w.heap.size, 0, none⟩ (.int .i64 d'.f0)).setCell ⟨w.heap.size, 1, none⟩ (.bool d'.f1)).setCell ⟨w.heap.size, 2, none⟩ (.slice A9 d'.f2.length c9)) := ⟨_, rfl⟩
    rw [← hw10]
    have q1 := blk_put Z0.out 0 (.int .i64 d'.f0) rfl
    have q2 := blk_put q1 1 (.bool d'.f1) rfl
    have q3 := blk_put q2 2 (.slice A9 d'.f2.length c9) rfl
    have N0 := Aside0.mk (show w10.heap[w.heap.size]? = some (.cells #[.int .i64 d'.f0, .bool d'.f1, .slice A9 d'.f2.length c9] 33 (0, 0)) by rw [hw10]; exact q3)
    have N1 := Aside0.mk (show w10.heap[w.heap.size + 1]? = some (.cells #[.int .i64 0] 25 (0, 0)) by rw [hw10]; exact blk_far (blk_far (blk_far Z1.out (by simp) _) (by simp) _) (by simp) _)
    have hg10 : w9.grownBy w10 (some w.heap.size) := by rw [hw10]; exact ((setCell_grown w9 w.heap.size 0 _).trans (setCell_grown _ w.heap.size 1 _)).trans (setCell_grown _ w.heap.size 2 _)
    have HB10 := Aside0.mk (show Below w.heap.size w w10 by rw [hw10]; exact ((HB9.out.setCell (p := ⟨w.heap.size, 0, none⟩) (Nat.le_refl _) _).setCell (p := ⟨w.heap.size, 1, none⟩) (Nat.le_refl _) _).setCell (p := ⟨w.heap.size, 2, none⟩) (Nat.le_refl _) _)
    have HC10 := Aside0.mk (show k37.C w10 A9 d'.f2.length d'.f2 from (Kd.R_reads' (Kd.R_grown HL9.out hg10 (fun k hk e => by cases e; exact hk rfl))).2.2)
    clear hw10 q1 q2 q3 hg10 y0 y1 y2 fy0 fy1 fy2 Z0 Z1 HB9 HL9 HBE
    have y0 := (blk_cell N0.out 0).trans rfl; have y1 := (blk_cell N0.out 1).trans rfl; have y2 := (blk_cell N0.out 2).trans rfl
    have z0 := (blk_cell N1.out 0).trans rfl
    have fz0 := blk_frozen N1.out 0
    cases hsp : spreadF l kk d' with
    | some out =>
      have HSP := Aside0.mk hsp
      go_wp2_with ((with_reducible refine gate_dst (N := 47) rfl ?_); refine goesP (some 47) rfl rfl Try.func57 (by kernel_rfl) rfl #[.slice (some ad) l.length c, .int .i64 (kk : Int), .agg #[.int .i64 d'.f0, .bool d'.f1, .slice A9 d'.f2.length c9]] rfl (by (try simp only [List.map_toArray, List.map_cons, List.map_nil]); first | done | rfl) ?_; refine (spread_calls (some ad) A9 c c9 l kk d'.f0 d'.f1 d'.f2 _ (Kd.C_below HR.out HB10.out) HV.out HKL.out HC10.out HM9.out).mono ?_; rintro e w3 ⟨hb, hp⟩; rw [show spreadF l kk ⟨d'.f0, d'.f1, d'.f2⟩ = some out from HSP.out] at hp; obtain ⟨v, rfl, hra⟩ := hp; refine .inl ⟨_, rfl, ?_⟩; obtain ⟨A3, c3, rfl⟩ := Kd.R_slice hra; have HO := Aside0.mk (Kd.R_lower hra HB10.out.size); have HB3 := Aside0.mk (below_step HB10.out hb); have X3 := Aside0.mk (blk_below N1.out hb); clear z0 fz0; have z0 := (blk_cell X3.out 0).trans rfl; have fz0 := blk_frozen X3.out 0; clear hra hb)
      rw [HRN.out]; (try rw [HSP.out])
      exact (show bodyPostD Try.prog Try.f34 (TreePost (out, 0) w) Exit.normal _ _ from tree_end rfl (show w.heap.size ≤ w.heap.size + 1 by omega) X3.out HO.out HB3.out rfl rfl)
    | none =>
      have HSP := Aside0.mk hsp
      go_wp2_with ((with_reducible refine gate_dst (N := 47) rfl ?_); refine goesP (some 47) rfl rfl Try.func57 (by kernel_rfl) rfl #[.slice (some ad) l.length c, .int .i64 (kk : Int), .agg #[.int .i64 d'.f0, .bool d'.f1, .slice A9 d'.f2.length c9]] rfl (by (try simp only [List.map_toArray, List.map_cons, List.map_nil]); first | done | rfl) ?_; refine (spread_calls (some ad) A9 c c9 l kk d'.f0 d'.f1 d'.f2 _ (Kd.C_below HR.out HB10.out) HV.out HKL.out HC10.out HM9.out).mono ?_; rintro e w3 ⟨hb, hp⟩; rw [show spreadF l kk ⟨d'.f0, d'.f1, d'.f2⟩ = none from HSP.out] at hp; subst hp; refine .inr ⟨_, rfl, ?_⟩; have HB3 := Aside0.mk (below_step HB10.out hb); have X3 := Aside0.mk (blk_below N1.out hb); clear hb)
      rw [HRN.out]; (try rw [HSP.out])
      exact tree_limit rfl (show w.heap.size ≤ w.heap.size + 1 by omega) X3.out HB3.out rfl rfl
  · refine .inr ⟨_, rfl, ?_⟩
    have HB9 := below_step HBD.out hb
    have Z1 := blk_below XD1.out hb
    refine then_panic ?_
    rw [HU.out, show renewD (rd_T35 l (u : Int)).f2 d (rd_T35 l kk).f1 = none from hd']
    exact tree_limit rfl (show w.heap.size ≤ w.heap.size + 1 by omega) Z1 HB9 rfl rfl
theorem Change_calls (A A2 : Option Addr) (c c2 : Nat) (l : List S35) (k : Int) (d : S33) (w : World) (hr : Kd.C k35 w A l.length l) (hr2 : k37.C w A2 d.f2.length d.f2) (hc2 : d.f2.length ≤ c2) :
    Calls Try.prog 34 #[.slice A l.length c, .int .i64 k, .agg #[.int .i64 d.f0, .bool d.f1, .slice A2 d.f2.length c2]] w (TreePost (sChange l k d) w) := by
  by_cases h : vTree l = true ∧ vD d = true ∧ 0 ≤ k ∧ k < l.length
  · obtain ⟨hv, hd, h0, h1⟩ := h
    obtain ⟨kk, rfl⟩ : ∃ kk : Nat, k = kk := ⟨k.toNat, by omega⟩
    have e : sChange l kk d = treeOf (chF l kk d) := by unfold sChange; rw [if_pos ⟨hv, hd⟩, if_pos ⟨h0, h1⟩, Int.toNat_natCast]
    rw [e]
    unfold chF
    by_cases hk : 0 < kk
    · rw [if_pos hk]
      exact Change_deep A A2 c c2 l kk d w hr hr2 hc2 hv hd (by omega) hk
    · rw [if_neg hk]
      exact Change_root A A2 c c2 l kk d w hr hr2 hc2 hv hd (by omega) (by omega)
  · exact Change_bad A A2 c c2 l k d w hr hr2 hc2 h
end Go.Proofs.Ytgocgjfaiddejaa.M
