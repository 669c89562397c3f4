/- The reference's errors of requests; its May. -/
import Derived.Test.YtifnfnoicinbaaaQ4
namespace Go.Proofs.Ytifnfnoicinbaaa.M
open Go.RowKit Go.Proofs.YtifnfnoicinbaaaW.PrintWords Go.Proofs.YtifnfnoicinbaaaW.PrintLast Go.Proofs.YtifnfnoicinbaaaW.PrintMore
set_option linter.unusedVariables false
set_option linter.unusedSimpArgs false
set_option linter.unnecessarySimpa false

theorem chk_beg {H W : List S24} {g : Bool} (h : chkE H W = 9) : begE H W g = 9 := by
  unfold chkE at h
  unfold begE
  cases hc : checksB H W with
  | false => rfl
  | true => rw [hc] at h; cases h
theorem chk_cases (H W : List S24) : (chkE H W = 9 ∧ checksB H W = false) ∨ (chkE H W = 0 ∧ checksB H W = true) := by
  unfold chkE
  cases checksB H W with
  | false => exact .inl ⟨rfl, rfl⟩
  | true => exact .inr ⟨rfl, rfl⟩
theorem beg_is {H W : List S24} {g : Bool} (h : checksB H W = true) : begE H W g = if g = true then 0 else 1 := by
  unfold begE
  rw [h]
  cases g <;> rfl
set_option maxRecDepth 100000 in
set_option maxHeartbeats 2000000 in
theorem handlesR_calls (A B : Option Addr) (c d : Nat) (H W : List S24) (x : Int) (w : World) (h1 : k24.C w A H.length H) (h2 : k24.C w B W.length W) (l1 : H.length ≤ c) (l2 : W.length ≤ d) (hlen : H.length + W.length ≤ 1000) :
    Calls Try.prog 62 #[.agg #[.slice A H.length c, .slice B W.length d], .int .i64 x] w fun e w' => e = .returned (.int .i64 (begE H W (knownB x))) ∧ Below w.heap.size w w' := by
  have HC1 := Aside0.mk h1
  have HC2 := Aside0.mk h2
  clear h1 h2
  go_enter Try.func62, Try.ntmps62
  go_upto_region 1 with (fail)
  have hb_ := below_alloc (Below.refl _ w) (.cells #[.slice A H.length c, .slice B W.length d] 29)
  have hG0_ := blk_lit0 w (.cells #[.slice A H.length c, .slice B W.length d] 29)
  generalize (w.alloc (.cells #[.slice A H.length c, .slice B W.length d] 29)) = V at hb_ hG0_ ⊢
  have HB_V := Aside0.mk hb_
  have V0 := Aside0.mk hG0_
  clear hb_ hG0_
  have x0 := (blk_cell V0.out 0).trans rfl; have x1 := (blk_cell V0.out 1).trans rfl
  go_wp2_with (fail)
  refine (checkR_calls A B c d H W _ (Kd.C_below HC1.out HB_V.out) (Kd.C_below HC2.out HB_V.out) l1 l2 hlen).mono ?_
  rintro e w2 ⟨rfl, hb⟩
  have T := Aside0.mk (blk_below V0.out hb)
  have BB := Aside0.mk (below_step HB_V.out hb)
  clear hb x0 x1 V0 HB_V
  rcases chk_cases H W with ⟨hk, hcb⟩ | ⟨hk, hcb⟩
  · have HE := Aside0.mk (show begE H W (knownB x) = 9 by exact chk_beg hk)
    rw [hk]
    clear hk hcb
    go_wp2
    go_ret
    exact ⟨by rw [HE.out]; rfl, BB.out⟩
  rw [hk]
  have HCB := Aside0.mk hcb
  clear hk hcb
  by_cases q1 : x < 1
  · have d1 : decide (x < 1) = true := by simpa using q1
    have HE := Aside0.mk (show begE H W (knownB x) = 1 by rw [beg_is HCB.out]; unfold knownB; rw [decide_eq_false (show ¬ 1 ≤ x by omega)]; rfl)
    clear q1
    go_wp2
    go_ret
    exact ⟨by rw [HE.out]; rfl, BB.out⟩
  have d1 : decide (x < 1) = false := by simpa using q1
  by_cases q2 : 1073741824 < x
  · have d2 : decide (1073741824 < x) = true := by simpa using q2
    have HE := Aside0.mk (show begE H W (knownB x) = 1 by rw [beg_is HCB.out]; unfold knownB; rw [decide_eq_false (show ¬ x ≤ 1073741824 by omega)]; simp)
    clear q1 q2
    go_wp2
    go_ret
    exact ⟨by rw [HE.out]; rfl, BB.out⟩
  have d2 : decide (1073741824 < x) = false := by simpa using q2
  have HE := Aside0.mk (show begE H W (knownB x) = 0 by rw [beg_is HCB.out]; unfold knownB; rw [decide_eq_true (show 1 ≤ x by omega), decide_eq_true (show x ≤ 1073741824 by omega)]; rfl)
  clear q1 q2
  go_wp2
  go_ret
  exact ⟨by rw [HE.out]; rfl, BB.out⟩
set_option maxRecDepth 100000 in
set_option maxHeartbeats 2000000 in
theorem askedR_calls (A B : Option Addr) (c d : Nat) (H W : List S24) (l : S24) (w : World) (h1 : k24.C w A H.length H) (h2 : k24.C w B W.length W) (l1 : H.length ≤ c) (l2 : W.length ≤ d) (hlen : H.length + W.length ≤ 1000) :
    Calls Try.prog 50 #[.agg #[.slice A H.length c, .slice B W.length d], .agg #[.int .i64 l.f0, .int .i64 l.f1, .int .i64 l.f2, .int .i64 l.f3, .bool l.f4]] w fun e w' => e = .returned (.int .i64 (reqE H W l)) ∧ Below w.heap.size w w' := by
  have HC1 := Aside0.mk h1
  have HC2 := Aside0.mk h2
  clear h1 h2
  go_enter Try.func50, Try.ntmps50
  go_upto_region 1 with (fail)
  have hb_ := below_alloc (below_alloc (Below.refl _ w) (.cells #[.slice A H.length c, .slice B W.length d] 29)) (.cells #[.int .i64 l.f0, .int .i64 l.f1, .int .i64 l.f2, .int .i64 l.f3, .bool l.f4] 24)
  have hG0_ := blk_alloc (blk_lit0 w (.cells #[.slice A H.length c, .slice B W.length d] 29)) (.cells #[.int .i64 l.f0, .int .i64 l.f1, .int .i64 l.f2, .int .i64 l.f3, .bool l.f4] 24)
  have hG1_ := blk_lit w (.cells #[.slice A H.length c, .slice B W.length d] 29) (.cells #[.int .i64 l.f0, .int .i64 l.f1, .int .i64 l.f2, .int .i64 l.f3, .bool l.f4] 24)
  generalize ((w.alloc (.cells #[.slice A H.length c, .slice B W.length d] 29)).alloc (.cells #[.int .i64 l.f0, .int .i64 l.f1, .int .i64 l.f2, .int .i64 l.f3, .bool l.f4] 24)) = V at hb_ hG0_ hG1_ ⊢
  have HB_V := Aside0.mk hb_
  have V0 := Aside0.mk hG0_
  have V1 := Aside0.mk hG1_
  clear hb_ hG0_ hG1_
  have x0 := (blk_cell V0.out 0).trans rfl; have x1 := (blk_cell V0.out 1).trans rfl
  have y0 := (blk_cell V1.out 0).trans rfl; have y1 := (blk_cell V1.out 1).trans rfl; have y2 := (blk_cell V1.out 2).trans rfl; have y3 := (blk_cell V1.out 3).trans rfl; have y4 := (blk_cell V1.out 4).trans rfl
  go_wp2_with (fail)
  refine (checkR_calls A B c d H W _ (Kd.C_below HC1.out HB_V.out) (Kd.C_below HC2.out HB_V.out) l1 l2 hlen).mono ?_
  rintro e w2 ⟨rfl, hb⟩
  have T := Aside0.mk (blk_below V0.out hb)
  have Y := Aside0.mk (blk_below V1.out hb)
  have BB := Aside0.mk (below_step HB_V.out hb)
  clear hb x0 x1 y0 y1 y2 y3 y4 V1 V0 HB_V
  rcases chk_cases H W with ⟨hk, hcb⟩ | ⟨hk, hcb⟩
  · have HE := Aside0.mk (show reqE H W l = 9 by unfold reqE; rw [chk_beg hk, if_neg (by decide)])
    rw [hk]
    clear hk hcb
    go_wp2
    go_ret
    exact ⟨by rw [HE.out]; rfl, BB.out⟩
  rw [hk]
  have HCB := Aside0.mk hcb
  clear hk hcb
  have y0 := (blk_cell Y.out 0).trans rfl; have y1 := (blk_cell Y.out 1).trans rfl; have y2 := (blk_cell Y.out 2).trans rfl; have y3 := (blk_cell Y.out 3).trans rfl; have y4 := (blk_cell Y.out 4).trans rfl
  go_wp2_with (fail)
  refine (validR_calls l _).mono ?_
  rintro e w3 ⟨rfl, hb⟩
  have T := Aside0.mk (blk_below T.out hb)
  have Y := Aside0.mk (blk_below Y.out hb)
  have BB := Aside0.mk (below_step BB.out hb)
  clear hb y0 y1 y2 y3 y4
  cases hv : vL l with
  | false =>
    have HE := Aside0.mk (show reqE H W l = 1 by unfold reqE; rw [beg_is HCB.out, hv]; rfl)
    clear hv
    go_wp2
    go_ret
    exact ⟨by rw [HE.out]; rfl, BB.out⟩
  | true =>
    have HV := Aside0.mk (show begE H W (vL l) = 0 by rw [beg_is HCB.out, hv]; rfl)
    clear hv
    have x0 := (blk_cell T.out 0).trans rfl; have x1 := (blk_cell T.out 1).trans rfl
    have y0 := (blk_cell Y.out 0).trans rfl; have y1 := (blk_cell Y.out 1).trans rfl; have y2 := (blk_cell Y.out 2).trans rfl; have y3 := (blk_cell Y.out 3).trans rfl; have y4 := (blk_cell Y.out 4).trans rfl
    go_wp2_with (fail)
    refine (waitingR_calls A B c d H W l.f1 _ (Kd.C_below HC1.out BB.out) (Kd.C_below HC2.out BB.out) l1 l2 (by omega)).mono ?_
    rintro e w4 ⟨rfl, hb⟩
    have T := Aside0.mk (blk_below T.out hb)
    have BB := Aside0.mk (below_step BB.out hb)
    clear hb x0 x1 y0 y1 y2 y3 y4
    by_cases q1 : 0 ≤ waitN W l.f1
    · have d1 : decide (0 ≤ waitN W l.f1) = true := by simpa using q1
      have HE := Aside0.mk (show reqE H W l = 6 by unfold reqE; rw [if_pos HV.out, if_pos q1])
      clear q1
      go_wp2
      go_ret
      exact ⟨by rw [HE.out]; rfl, BB.out⟩
    have d1 : decide (0 ≤ waitN W l.f1) = false := by simpa using q1
    have x0 := (blk_cell T.out 0).trans rfl; have x1 := (blk_cell T.out 1).trans rfl
    by_cases q2 : 400 ≤ H.length + W.length
    · have d2 : decide ((400 : Int) ≤ (H.length : Int) + (W.length : Int)) = true := by simp; omega
      have HE := Aside0.mk (show reqE H W l = 2 by unfold reqE; rw [if_pos HV.out, if_neg q1, if_pos q2])
      clear q1 q2
      go_wp2
      go_ret
      exact ⟨by rw [HE.out]; rfl, BB.out⟩
    have d2 : decide ((400 : Int) ≤ (H.length : Int) + (W.length : Int)) = false := by simp; omega
    have HE := Aside0.mk (show reqE H W l = 0 by unfold reqE; rw [if_pos HV.out, if_neg q1, if_neg q2])
    clear q1 q2
    go_wp2
    go_ret
    exact ⟨by rw [HE.out]; rfl, BB.out⟩
theorem cf_any {H W : List S24} {l : S24} (h : checksB H W = true) (hl : vL l = true) {i : Nat} (hi : i < H.length) : cfL (rd_T24 H (i : Int)) l = mtL (rd_T24 H (i : Int)) l := by
  unfold cfL
  rw [rd_at hi, (Inv.iff.2 h).allH _ (List.getElem_mem hi), hl]
  simp
theorem may_hit {H W : List S24} {l : S24} (h : checksB H W = true) (hl : vL l = true) {i : Nat} (hi : i < H.length) (hc : cfL (rd_T24 H (i : Int)) l = true) : mayF H W l = 15 := by
  unfold mayF
  rw [beg_is h, hl, if_pos rfl, if_pos rfl, if_pos (by rw [List.any_eq_true]; rw [cf_any h hl hi, rd_at hi] at hc; exact ⟨_, List.getElem_mem hi, hc⟩)]
theorem may_free {H W : List S24} {l : S24} (h : checksB H W = true) (hl : vL l = true) (hc : ∀ i, i < H.length → cfL (rd_T24 H (i : Int)) l = false) : mayF H W l = 0 := by
  unfold mayF
  rw [beg_is h, hl, if_pos rfl, if_pos rfl, if_neg (by
    intro hh
    obtain ⟨x, hx, hm⟩ := List.any_eq_true.1 hh
    obtain ⟨i, hi, rfl⟩ := List.mem_iff_getElem.1 hx
    have := hc i hi
    rw [cf_any h hl hi, rd_at hi, hm] at this
    cases this)]
set_option maxRecDepth 100000 in
set_option maxHeartbeats 2000000 in
theorem mayR_calls (A B : Option Addr) (c d : Nat) (H W : List S24) (l : S24) (w : World) (h1 : k24.C w A H.length H) (h2 : k24.C w B W.length W) (l1 : H.length ≤ c) (l2 : W.length ≤ d) (hlen : H.length + W.length ≤ 1000) :
    Calls Try.prog 29 #[.agg #[.slice A H.length c, .slice B W.length d], .agg #[.int .i64 l.f0, .int .i64 l.f1, .int .i64 l.f2, .int .i64 l.f3, .bool l.f4]] w fun e w' => e = .returned (.int .i64 (mayF H W l)) ∧ Below w.heap.size w w' := by
  have HC1 := Aside0.mk h1
  have HC2 := Aside0.mk h2
  clear h1 h2
  go_enter Try.func29, Try.ntmps29
  go_upto_region 1 with (fail)
  have hb_ := below_alloc (below_alloc (Below.refl _ w) (.cells #[.slice A H.length c, .slice B W.length d] 29)) (.cells #[.int .i64 l.f0, .int .i64 l.f1, .int .i64 l.f2, .int .i64 l.f3, .bool l.f4] 24)
  have hG0_ := blk_alloc (blk_lit0 w (.cells #[.slice A H.length c, .slice B W.length d] 29)) (.cells #[.int .i64 l.f0, .int .i64 l.f1, .int .i64 l.f2, .int .i64 l.f3, .bool l.f4] 24)
  have hG1_ := blk_lit w (.cells #[.slice A H.length c, .slice B W.length d] 29) (.cells #[.int .i64 l.f0, .int .i64 l.f1, .int .i64 l.f2, .int .i64 l.f3, .bool l.f4] 24)
  generalize ((w.alloc (.cells #[.slice A H.length c, .slice B W.length d] 29)).alloc (.cells #[.int .i64 l.f0, .int .i64 l.f1, .int .i64 l.f2, .int .i64 l.f3, .bool l.f4] 24)) = V at hb_ hG0_ hG1_ ⊢
  have HB_V := Aside0.mk hb_
  have V0 := Aside0.mk hG0_
  have V1 := Aside0.mk hG1_
  clear hb_ hG0_ hG1_
  have x0 := (blk_cell V0.out 0).trans rfl; have x1 := (blk_cell V0.out 1).trans rfl
  have y0 := (blk_cell V1.out 0).trans rfl; have y1 := (blk_cell V1.out 1).trans rfl; have y2 := (blk_cell V1.out 2).trans rfl; have y3 := (blk_cell V1.out 3).trans rfl; have y4 := (blk_cell V1.out 4).trans rfl
  go_wp2_with (fail)
  refine (checkR_calls A B c d H W _ (Kd.C_below HC1.out HB_V.out) (Kd.C_below HC2.out HB_V.out) l1 l2 hlen).mono ?_
  rintro e w2 ⟨rfl, hb⟩
  have T := Aside0.mk (blk_below V0.out hb)
  have Y := Aside0.mk (blk_below V1.out hb)
  have BB := Aside0.mk (below_step HB_V.out hb)
  clear hb x0 x1 y0 y1 y2 y3 y4 V1 V0 HB_V
  rcases chk_cases H W with ⟨hk, hcb⟩ | ⟨hk, hcb⟩
  · have HE := Aside0.mk (show mayF H W l = 9 by unfold mayF; rw [chk_beg hk, if_neg (by decide)])
    rw [hk]
    clear hk hcb
    go_wp2
    go_ret
    exact ⟨by rw [HE.out]; rfl, BB.out⟩
  rw [hk]
  have HCB := Aside0.mk hcb
  clear hk hcb
  have y0 := (blk_cell Y.out 0).trans rfl; have y1 := (blk_cell Y.out 1).trans rfl; have y2 := (blk_cell Y.out 2).trans rfl; have y3 := (blk_cell Y.out 3).trans rfl; have y4 := (blk_cell Y.out 4).trans rfl
  go_wp2_with (fail)
  refine (validR_calls l _).mono ?_
  rintro e w3 ⟨rfl, hb⟩
  have T := Aside0.mk (blk_below T.out hb)
  have Y := Aside0.mk (blk_below Y.out hb)
  have BB := Aside0.mk (below_step BB.out hb)
  clear hb y0 y1 y2 y3 y4
  cases hv : vL l with
  | false =>
    have HE := Aside0.mk (show mayF H W l = 1 by unfold mayF; rw [beg_is HCB.out, hv]; rfl)
    clear hv
    go_wp2
    go_ret
    exact ⟨by rw [HE.out]; rfl, BB.out⟩
  | true =>
    have HV := Aside0.mk hv
    clear hv
    go_wp2
    go_loopg [5] H.length (fun kq v5 w' => ∃ i : Nat, v5 = .int .i64 i ∧ Aside0 (kq + i = H.length) ∧ Aside0 (∀ m, m < i → cfL (rd_T24 H (m : Int)) l = false) ∧ Aside0 (Below w3.heap.size w3 w'))
    case atStart => exact ⟨0, rfl, ⟨rfl⟩, ⟨fun j hj => absurd hj (by omega)⟩, ⟨Below.refl _ _⟩⟩
    case round =>
      obtain ⟨i, rfl, HI, HOK, HB⟩ := hrel
      have U := Aside0.mk (blk_below T.out HB.out)
      have UY := Aside0.mk (blk_below Y.out HB.out)
      have x0 := (blk_cell U.out 0).trans rfl; have x1 := (blk_cell U.out 1).trans rfl
      by_cases hit : i < H.length
      · have g2 : decide (i < H.length) = true := by simpa using hit
        have g2' : decide ((i : Int) < (H.length : Int)) = true := by simpa using hit
        have hic : i < c := by omega
        go_upto_region 8 with (fail)
        have y0 := (blk_cell UY.out 0).trans rfl; have y1 := (blk_cell UY.out 1).trans rfl; have y2 := (blk_cell UY.out 2).trans rfl; have y3 := (blk_cell UY.out 3).trans rfl; have y4 := (blk_cell UY.out 4).trans rfl
        obtain ⟨ae, hae, a0, a1, a2, a3, a4⟩ := at_T24 (Kd.C_below HC1.out (below_step BB.out HB.out)) (i : Int) (by omega) (by omega)
        cases hae
        simp only [Int.toNat_natCast] at a0 a1 a2 a3 a4
        obtain ⟨xi, hxi⟩ : ∃ xi, xi = rd_T24 H (i : Int) := ⟨_, rfl⟩
        rw [← hxi] at a0 a1 a2 a3 a4
        have HXI := Aside0.mk hxi
        clear hxi
        refine start_ (n := 7) (S := fun w' => Below wr.heap.size wr w') (ds := [6]) #[false, false, false, false, false, false, false] (by kernel_rfl) rfl rfl (below_drew1 (Below.refl wr.heap.size wr)) (fun hHeld => ?_)
        generalize wr.drew = wd at hHeld ⊢
        refine pure_ (i := 0) (N := some 19) (v := ?_) (a' := ?_) #[true, false, false, false, false, false, false] rfl rfl (by kernel_rfl) (fun _ _ _ h => h) (Or.inl ⟨by rfl, ?_⟩) ?_ ?_
        rotate_left
        · intro w'
          go_simp
          with_reducible rfl
        rotate_left
        · simp only [Act.put, List.setIfInBounds_toArray, List.set_cons_zero, List.set_cons_succ, i64_w, i32_w]
          rfl
        refine take_ (i := 1) (N := some 20) (v := ?_) (a' := ?_) #[true, true, false, false, false, false, false] rfl rfl (by kernel_rfl) (fun _ _ _ h => h) (Or.inl ⟨by rfl, ?_⟩) hHeld ?_ ?_
        rotate_left
        · rintro w' s0
          have q0 := pw_cell_below s0 x0; have q1 := pw_cell_below s0 x1
          go_simp
          with_reducible rfl
        rotate_left
        · simp only [Act.put, List.setIfInBounds_toArray, List.set_cons_zero, List.set_cons_succ, i64_w, i32_w]
          rfl
        refine pure_ (i := 2) (N := some 21) (v := ?_) (a' := ?_) #[true, true, true, false, false, false, false] rfl rfl (by kernel_rfl) (fun _ _ _ h => h) (Or.inl ⟨by rfl, ?_⟩) ?_ ?_
        rotate_left
        · intro w'
          go_simp
          with_reducible rfl
        rotate_left
        · simp only [Act.put, List.setIfInBounds_toArray, List.set_cons_zero, List.set_cons_succ, i64_w, i32_w]
          rfl
        refine pure_ (i := 3) (N := some 22) (v := ?_) (a' := ?_) #[true, true, true, true, false, false, false] rfl rfl (by kernel_rfl) (fun _ _ _ h => h) (Or.inl ⟨by rfl, ?_⟩) ?_ ?_
        rotate_left
        · intro w'
          go_simp
          with_reducible rfl
        rotate_left
        · simp only [Act.put, List.setIfInBounds_toArray, List.set_cons_zero, List.set_cons_succ, i64_w, i32_w]
          rfl
        refine take_ (i := 4) (N := some 23) (v := ?_) (a' := ?_) #[true, true, true, true, true, false, false] rfl rfl (by kernel_rfl) (fun _ _ _ h => h) (Or.inl ⟨by rfl, ?_⟩) hHeld ?_ ?_
        rotate_left
        · rintro w' s0
          have q0 := pw_cell_below s0 a0; have q1 := pw_cell_below s0 a1; have q2 := pw_cell_below s0 a2; have q3 := pw_cell_below s0 a3; have q4 := pw_cell_below s0 a4
          go_simp
          with_reducible rfl
        rotate_left
        · simp only [Act.put, List.setIfInBounds_toArray, List.set_cons_zero, List.set_cons_succ, i64_w, i32_w]
          rfl
        refine take_ (i := 5) (N := some 24) (v := ?_) (a' := ?_) #[true, true, true, true, true, true, false] rfl rfl (by kernel_rfl) (fun _ _ _ h => h) (Or.inl ⟨by rfl, ?_⟩) hHeld ?_ ?_
        rotate_left
        · rintro w' s0
          have q0 := pw_cell_below s0 y0; have q1 := pw_cell_below s0 y1; have q2 := pw_cell_below s0 y2; have q3 := pw_cell_below s0 y3; have q4 := pw_cell_below s0 y4
          go_simp
          with_reducible rfl
        rotate_left
        · simp only [Act.put, List.setIfInBounds_toArray, List.set_cons_zero, List.set_cons_succ, i64_w, i32_w]
          rfl
        refine last_ (i := 6) (N := some 25) #[true, true, true, true, true, true, true] rfl rfl (by kernel_rfl) (by decide) (fun K hK => ?_)
        refine goes_ Try.func33 (by kernel_rfl) rfl #[.agg #[.int .i64 xi.f0, .int .i64 xi.f1, .int .i64 xi.f2, .int .i64 xi.f3, .bool xi.f4], .agg #[.int .i64 l.f0, .int .i64 l.f1, .int .i64 l.f2, .int .i64 l.f3, .bool l.f4]] (by rfl) rfl rfl (by (try simp only [List.map_toArray, List.map_cons, List.map_nil]); first | done | rfl) ?_
        refine (conflictR_calls xi l _).mono ?_
        rintro e wc ⟨rfl, hb⟩
        refine ⟨_, rfl, ?_⟩
        have HB := Aside0.mk (below_step (below_step HB.out hHeld) hb)
        clear hb
        refine hK.out _ _ ?_
        clear hK K
        refine norm_ (a' := ?_) ?_ ?_
        rotate_left
        · show Act.put _ (some 25) _ = _
          simp only [Act.put, List.setIfInBounds_toArray, List.set_cons_zero, List.set_cons_succ, i64_w, i32_w]
          rfl
        refine done_ (by kernel_rfl) ?_
        clear hHeld a0 a1 a2 a3 a4 x0 x1 y0 y1 y2 y3 y4
        cases hcf : cfL xi l with
        | true =>
          have HE := Aside0.mk (may_hit HCB.out HV.out hit (by rw [← HXI.out]; exact hcf))
          have HB9 := Aside0.mk (below_step BB.out HB.out)
          clear hcf
          go_wp2
          go_ret
          exact ⟨by rw [HE.out]; rfl, HB9.out⟩
        | false =>
          have HN2 := Aside0.mk (show ∀ m, m < i + 1 → cfL (rd_T24 H (m : Int)) l = false from fun m hm => by
            rcases Nat.lt_or_ge m i with h | h
            · exact HOK.out m h
            · rw [show m = i by omega, ← HXI.out]; exact hcf)
          clear hcf
          go_wp2
          go_roundg (H.length - (i + 1))
          case measure => have := HI.out; omega
          case rel => exact ⟨i + 1, by go_num, ⟨by omega⟩, HN2, HB⟩
      · have g2 : decide (i < H.length) = false := by simpa using hit
        have g2' : decide ((i : Int) < (H.length : Int)) = false := by simpa using hit
        have HE := Aside0.mk (may_free HCB.out HV.out (fun m hm => HOK.out m (by omega)))
        have HB9 := Aside0.mk (below_step BB.out HB.out)
        go_wp2
        go_ret
        exact ⟨by rw [HE.out]; rfl, HB9.out⟩
end Go.Proofs.Ytifnfnoicinbaaa.M
