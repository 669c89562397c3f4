/- lock.Unlock. -/
import Derived.Test.YtifnfnoicinbaaaC1
namespace Go.Proofs.Ytifnfnoicinbaaa.M
open Go.RowKit Go.Proofs.YtifnfnoicinbaaaW.PrintWords Go.Proofs.YtifnfnoicinbaaaW.PrintLast Go.Proofs.YtifnfnoicinbaaaW.PrintMore
set_option linter.unusedVariables false
set_option linter.unusedSimpArgs false
set_option linter.unnecessarySimpa false

def eqL (x y : S24) : Bool := x.f0 == y.f0 && (x.f1 == y.f1 && (x.f2 == y.f2 && (x.f3 == y.f3 && (x.f4 == y.f4))))
theorem eqL_iff {x y : S24} : eqL x y = true ↔ x = y := by
  cases x; cases y
  simp [eqL]
/-- The last place of a lock below k. -/
def lastI (H : List S24) (l : S24) : Nat → Option Nat
  | 0 => none
  | k + 1 => if eqL (rd_T24 H (k : Int)) l then some k else lastI H l k
theorem lastI_lt {H : List S24} {l : S24} : ∀ {k i : Nat}, lastI H l k = some i → i < k
  | 0, i, h => by cases h
  | k + 1, i, h => by
    unfold lastI at h
    split at h
    · cases h; omega
    · have := lastI_lt h; omega
def unlockF (H Wt : List S24) (l : S24) : (List S24 × List S24 × List Int × List Int) × Int :=
  if begE H Wt (vL l) = 0 then (match lastI H l H.length with | none => (([], [], [], []), 3) | some i => (settleL (H.eraseIdx i) Wt, 0)) else (([], [], [], []), begE H Wt (vL l))
theorem num_pred (k : Nat) : ((k + 1 : Nat) : Int) - 1 = (k : Int) := by omega
attribute [local go_sem high] eqA24
set_option maxRecDepth 100000 in
set_option maxHeartbeats 2000000 in
theorem unlock_calls (AH AW : Option Addr) (cH cW : Nat) (H Wt : List S24) (l : S24) (w : World) (hH : k24.C w AH H.length H) (hW : k24.C w AW Wt.length Wt) (hlen : H.length + Wt.length ≤ 1000) :
    Calls Try.prog 36 #[.agg #[.slice AH H.length cH, .slice AW Wt.length cW], .agg #[.int .i64 l.f0, .int .i64 l.f1, .int .i64 l.f2, .int .i64 l.f3, .bool l.f4]] w fun e w' => RetN w (unlockF H Wt l).1 (unlockF H Wt l).2 e w' := by
  have HH := Aside0.mk hH
  have HW := Aside0.mk hW
  clear hH hW
  go_enter Try.func36, Try.ntmps36
  go_upto_region 1 with (fail)
  have hb_ := below_alloc (below_alloc (below_alloc (below_alloc (Below.refl _ w) (.cells #[.slice AH H.length cH, .slice AW Wt.length cW] 29)) (.cells #[.int .i64 l.f0, .int .i64 l.f1, .int .i64 l.f2, .int .i64 l.f3, .bool l.f4] 24)) (.cells #[.slice none 0 0, .slice none 0 0] 29)) (.cells #[.slice none 0 0, .slice none 0 0] 33)
  have hG0_ := blk_alloc (blk_alloc (blk_alloc (blk_lit0 w (.cells #[.slice AH H.length cH, .slice AW Wt.length cW] 29)) (.cells #[.int .i64 l.f0, .int .i64 l.f1, .int .i64 l.f2, .int .i64 l.f3, .bool l.f4] 24)) (.cells #[.slice none 0 0, .slice none 0 0] 29)) (.cells #[.slice none 0 0, .slice none 0 0] 33)
  have hG1_ := blk_alloc (blk_alloc (blk_lit w (.cells #[.slice AH H.length cH, .slice AW Wt.length cW] 29) (.cells #[.int .i64 l.f0, .int .i64 l.f1, .int .i64 l.f2, .int .i64 l.f3, .bool l.f4] 24)) (.cells #[.slice none 0 0, .slice none 0 0] 29)) (.cells #[.slice none 0 0, .slice none 0 0] 33)
  have hG2_ := blk_alloc (blk_lit2 w (.cells #[.slice AH H.length cH, .slice AW Wt.length cW] 29) (.cells #[.int .i64 l.f0, .int .i64 l.f1, .int .i64 l.f2, .int .i64 l.f3, .bool l.f4] 24) (.cells #[.slice none 0 0, .slice none 0 0] 29)) (.cells #[.slice none 0 0, .slice none 0 0] 33)
  have hG3_ := blk_lit3 w (.cells #[.slice AH H.length cH, .slice AW Wt.length cW] 29) (.cells #[.int .i64 l.f0, .int .i64 l.f1, .int .i64 l.f2, .int .i64 l.f3, .bool l.f4] 24) (.cells #[.slice none 0 0, .slice none 0 0] 29) (.cells #[.slice none 0 0, .slice none 0 0] 33)
  generalize ((((w.alloc (.cells #[.slice AH H.length cH, .slice AW Wt.length cW] 29)).alloc (.cells #[.int .i64 l.f0, .int .i64 l.f1, .int .i64 l.f2, .int .i64 l.f3, .bool l.f4] 24)).alloc (.cells #[.slice none 0 0, .slice none 0 0] 29)).alloc (.cells #[.slice none 0 0, .slice none 0 0] 33)) = W at hb_ hG0_ hG1_ hG2_ hG3_ ⊢
  have HB_W := Aside0.mk hb_
  have W0 := Aside0.mk hG0_
  have W1 := Aside0.mk hG1_
  have W2 := Aside0.mk hG2_
  have W3 := Aside0.mk hG3_
  clear hb_ hG0_ hG1_ hG2_ hG3_
  have HHW := Aside0.mk (Kd.C_below HH.out HB_W.out)
  have HWW := Aside0.mk (Kd.C_below HW.out HB_W.out)
  have K4 := Aside0.mk (show w.heap.size + 1 + 1 < W.heap.size ∧ w.heap.size + 1 + 1 + 1 < W.heap.size from ⟨blk_lt W2.out, blk_lt W3.out⟩)
  have K1 := Aside0.mk (show w.heap.size + 1 < W.heap.size from blk_lt W1.out)
  refine start_ (n := 9) (S := fun w' => w'.cell? ⟨w.heap.size, 0, none⟩ = some (.slice AH H.length cH) ∧ w'.cell? ⟨w.heap.size, 1, none⟩ = some (.slice AW Wt.length cW) ∧ w'.cell? ⟨w.heap.size + 1, 0, none⟩ = some (.int .i64 l.f0) ∧ w'.cell? ⟨w.heap.size + 1, 1, none⟩ = some (.int .i64 l.f1) ∧ w'.cell? ⟨w.heap.size + 1, 2, none⟩ = some (.int .i64 l.f2) ∧ w'.cell? ⟨w.heap.size + 1, 3, none⟩ = some (.int .i64 l.f3) ∧ w'.cell? ⟨w.heap.size + 1, 4, none⟩ = some (.bool l.f4)) (ds := []) #[false, false, false, false, false, false, false, false, false] (by kernel_rfl) rfl rfl ⟨(blk_cell (blk_drew W0.out) 0).trans rfl, (blk_cell (blk_drew W0.out) 1).trans rfl, (blk_cell (blk_drew W1.out) 0).trans rfl, (blk_cell (blk_drew W1.out) 1).trans rfl, (blk_cell (blk_drew W1.out) 2).trans rfl, (blk_cell (blk_drew W1.out) 3).trans rfl, (blk_cell (blk_drew W1.out) 4).trans rfl⟩ (fun hHeld => ?_)
  have HBD := Aside0.mk (below_drew1 (Below.refl W.heap.size W))
  have C0 := Aside0.mk (blk_drew W0.out)
  have C1 := Aside0.mk (blk_drew W1.out)
  have C2 := Aside0.mk (blk_drew W2.out)
  have C3 := Aside0.mk (blk_drew W3.out)
  generalize W.drew = wd at HBD C0 C1 C2 C3 hHeld ⊢
  refine take_ (i := 0) (N := some 13) (v := ?_) (a' := ?_) #[true, false, false, false, false, false, false, false, false] rfl rfl (by kernel_rfl) (fun _ _ _ h => h) (Or.inl ⟨by rfl, ?_⟩) hHeld ?_ ?_
  rotate_left
  · rintro w' ⟨s0, s1, s2, s3, s4, s5, s6⟩
    go_simp
    with_reducible rfl
  rotate_left
  · simp only [Act.put, List.setIfInBounds_toArray, List.set_cons_zero, List.set_cons_succ, i64_w, i32_w]
    rfl
  refine take_ (i := 1) (N := some 14) (v := ?_) (a' := ?_) #[true, true, false, false, false, false, false, false, false] rfl rfl (by kernel_rfl) (fun _ _ _ h => h) (Or.inl ⟨by rfl, ?_⟩) hHeld ?_ ?_
  rotate_left
  · rintro w' ⟨s0, s1, s2, s3, s4, s5, s6⟩
    go_simp
    with_reducible rfl
  rotate_left
  · simp only [Act.put, List.setIfInBounds_toArray, List.set_cons_zero, List.set_cons_succ, i64_w, i32_w]
    rfl
  refine one_ (i := 2) (N := some 15) #[true, true, true, false, false, false, false, false, false] rfl rfl (by kernel_rfl) (by decide) (fun K hK => ?_)
  refine goes_ Try.func31 (by kernel_rfl) rfl #[.agg #[.int .i64 l.f0, .int .i64 l.f1, .int .i64 l.f2, .int .i64 l.f3, .bool l.f4]] (by rfl) rfl rfl (by (try simp only [List.map_toArray, List.map_cons, List.map_nil]); first | done | rfl) ?_
  refine (valid_calls l _).mono ?_
  rintro e w3 ⟨rfl, hb⟩
  refine ⟨_, rfl, ?_⟩
  have HB3 := Aside0.mk (below_step HBD.out hb)
  have D0 := Aside0.mk (blk_below C0.out hb)
  have D1 := Aside0.mk (blk_below C1.out hb)
  have D2 := Aside0.mk (blk_below C2.out hb)
  have D3 := Aside0.mk (blk_below C3.out hb)
  clear hb C0 W0 C1 W1 C2 W2 C3 W3
  refine hK.out _ _ ⟨(blk_cell (D0.out) 0).trans rfl, (blk_cell (D0.out) 1).trans rfl, (blk_cell (D1.out) 0).trans rfl, (blk_cell (D1.out) 1).trans rfl, (blk_cell (D1.out) 2).trans rfl, (blk_cell (D1.out) 3).trans rfl, (blk_cell (D1.out) 4).trans rfl⟩ (fun hHeld => ?_)
  clear hK K
  refine norm_ (a' := ?_) ?_ ?_
  rotate_left
  · show Act.put _ (some 15) _ = _
    simp only [Act.put, List.setIfInBounds_toArray, List.set_cons_zero, List.set_cons_succ, i64_w, i32_w]
    rfl
  refine one_ (i := 3) (N := some 16) #[true, true, true, true, false, false, false, false, false] rfl rfl (by kernel_rfl) (by decide) (fun K hK => ?_)
  refine goes_ Try.func56 (by kernel_rfl) rfl #[.agg #[.slice AH H.length cH, .slice AW Wt.length cW], .bool (vL l)] (by rfl) rfl rfl (by (try simp only [List.map_toArray, List.map_cons, List.map_nil]); first | done | rfl) ?_
  refine (begin_calls AH AW cH cW H Wt (vL l) _ (Kd.C_below HHW.out HB3.out) (Kd.C_below HWW.out HB3.out) hlen).mono ?_
  rintro e w4 hp
  skip
  by_cases hz : begE H Wt (vL l) = 0
  rotate_left
  · obtain ⟨rfl, hb⟩ := hp.bad hz
    refine ⟨_, rfl, ?_⟩
    have HB4 := Aside0.mk (below_step HB_W.out (below_step HB3.out hb))
    have E0 := Aside0.mk (blk_below D0.out hb)
    have E1 := Aside0.mk (blk_below D1.out hb)
    have E2 := Aside0.mk (blk_below D2.out hb)
    have E3 := Aside0.mk (blk_below D3.out hb)
    have HNE := Aside0.mk hz
    have HE := Aside0.mk (show unlockF H Wt l = (([], [], [], []), begE H Wt (vL l)) by unfold unlockF; rw [if_neg hz])
    have hnb : (begE H Wt (vL l) == 0) = false := by simpa using hz
    generalize begE H Wt (vL l) = E at HNE HE hnb ⊢
    clear hz hb hp
    refine hK.out _ _ ⟨(blk_cell (E0.out) 0).trans rfl, (blk_cell (E0.out) 1).trans rfl, (blk_cell (E1.out) 0).trans rfl, (blk_cell (E1.out) 1).trans rfl, (blk_cell (E1.out) 2).trans rfl, (blk_cell (E1.out) 3).trans rfl, (blk_cell (E1.out) 4).trans rfl⟩ (fun hHeld => ?_)
    clear hK K
    refine norm_ (a' := ?_) ?_ ?_
    rotate_left
    · show Act.put _ (some 16) _ = _
      simp only [Act.put, List.setIfInBounds_toArray, List.set_cons_zero, List.set_cons_succ, i64_w, i32_w]
      rfl
    refine pure_ (i := 4) (N := some 12) (v := ?_) (a' := ?_) #[true, true, true, true, true, false, false, false, false] rfl rfl (by kernel_rfl) (fun _ _ _ h => h) (Or.inl ⟨by rfl, ?_⟩) ?_ ?_
    rotate_left
    · intro w'
      go_simp
      with_reducible rfl
    rotate_left
    · simp only [Act.put, List.setIfInBounds_toArray, List.set_cons_zero, List.set_cons_succ, i64_w, i32_w]
      rfl
    refine pure_ (i := 5) (N := some 17) (v := ?_) (a' := ?_) #[true, true, true, true, true, true, false, false, false] rfl rfl (by kernel_rfl) (fun _ _ _ h => h) (Or.inl ⟨by rfl, ?_⟩) ?_ ?_
    rotate_left
    · intro w'
      go_simp
      with_reducible rfl
    rotate_left
    · simp only [Act.put, List.setIfInBounds_toArray, List.set_cons_zero, List.set_cons_succ, i64_w, i32_w]
      rfl
    refine pure_ (i := 6) (N := some 18) (v := ?_) (a' := ?_) #[true, true, true, true, true, true, true, false, false] rfl rfl (by kernel_rfl) (fun _ _ _ h => h) (Or.inl ⟨by rfl, ?_⟩) ?_ ?_
    rotate_left
    · intro w'
      go_simp
      with_reducible rfl
    rotate_left
    · simp only [Act.put, List.setIfInBounds_toArray, List.set_cons_zero, List.set_cons_succ, i64_w, i32_w]
      rfl
    refine pure_ (i := 7) (N := some 7) (v := ?_) (a' := ?_) #[true, true, true, true, true, true, true, true, false] rfl rfl (by kernel_rfl) (fun _ _ _ h => h) (Or.inl ⟨by rfl, ?_⟩) ?_ ?_
    rotate_left
    · intro w'
      go_simp
      with_reducible rfl
    rotate_left
    · simp only [Act.put, List.setIfInBounds_toArray, List.set_cons_zero, List.set_cons_succ, i64_w, i32_w]
      rfl
    refine pure_ (i := 8) (N := some 8) (v := ?_) (a' := ?_) #[true, true, true, true, true, true, true, true, true] rfl rfl (by kernel_rfl) (fun _ _ _ h => h) (Or.inl ⟨by rfl, ?_⟩) ?_ ?_
    rotate_left
    · intro w'
      go_simp
      with_reducible rfl
    rotate_left
    · simp only [Act.put, List.setIfInBounds_toArray, List.set_cons_zero, List.set_cons_succ, i64_w, i32_w]
      rfl
    refine done_ (by kernel_rfl) ?_
    clear hHeld
    have r0 := (blk_cell E2.out 0).trans rfl; have r1 := (blk_cell E2.out 1).trans rfl
    have fr0 := blk_frozen E2.out 0; have fr1 := blk_frozen E2.out 1
    have s0 := (blk_cell E3.out 0).trans rfl; have s1 := (blk_cell E3.out 1).trans rfl
    have fs0 := blk_frozen E3.out 0; have fs1 := blk_frozen E3.out 1
    have P4 := Aside0.mk (put_two (n := w.heap.size) (w := w) (.slice none 0 0) (.slice none 0 0) E2.out HB4.out (by omega))
    have P5 := Aside0.mk (put_two (n := w.heap.size) (w := w) (.slice none 0 0) (.slice none 0 0) (two_far (.slice none 0 0) (.slice none 0 0) E3.out E2.out (by decide)) P4.out.2 (by omega))
    have P6 := Aside0.mk (two_far (.slice none 0 0) (.slice none 0 0) P4.out.1 (two_far (.slice none 0 0) (.slice none 0 0) E3.out E2.out (by decide)) (by decide))
    go_wp2
    refine bodyPost_ret (results_cells3 rfl rfl rfl (loadVar_two 29 (by kernel_rfl) (by kernel_rfl) P6.out) (loadVar_two 33 (by kernel_rfl) (by kernel_rfl) P5.out.1)) rfl ?_
    show RetN w (unlockF H Wt l).1 (unlockF H Wt l).2 _ _
    rw [HE.out]
    exact ⟨_, _, rfl, tabV_nil _ _, newsV_nil _ _, P5.out.2⟩
  · obtain ⟨q, rfl, hT, hb⟩ := hp.good hz
    refine ⟨_, rfl, ?_⟩
    have HZ := Aside0.mk hz
    have HT := Aside0.mk (hT.mono HB3.out.size)
    have HB4 := Aside0.mk (below_step HB3.out hb)
    have E0 := Aside0.mk (blk_below D0.out hb)
    have E1 := Aside0.mk (blk_below D1.out hb)
    have E2 := Aside0.mk (blk_below D2.out hb)
    have E3 := Aside0.mk (blk_below D3.out hb)
    clear hT hz hb hp
    skip
    refine hK.out _ _ ⟨(blk_cell (E0.out) 0).trans rfl, (blk_cell (E0.out) 1).trans rfl, (blk_cell (E1.out) 0).trans rfl, (blk_cell (E1.out) 1).trans rfl, (blk_cell (E1.out) 2).trans rfl, (blk_cell (E1.out) 3).trans rfl, (blk_cell (E1.out) 4).trans rfl⟩ (fun hHeld => ?_)
    clear hK K
    refine norm_ (a' := ?_) ?_ ?_
    rotate_left
    · show Act.put _ (some 16) _ = _
      simp only [Act.put, List.setIfInBounds_toArray, List.set_cons_zero, List.set_cons_succ, i64_w, i32_w]
      rfl
    refine pure_ (i := 4) (N := some 12) (v := ?_) (a' := ?_) #[true, true, true, true, true, false, false, false, false] rfl rfl (by kernel_rfl) (fun _ _ _ h => h) (Or.inl ⟨by rfl, ?_⟩) ?_ ?_
    rotate_left
    · intro w'
      go_simp
      with_reducible rfl
    rotate_left
    · simp only [Act.put, List.setIfInBounds_toArray, List.set_cons_zero, List.set_cons_succ, i64_w, i32_w]
      rfl
    refine pure_ (i := 5) (N := some 17) (v := ?_) (a' := ?_) #[true, true, true, true, true, true, false, false, false] rfl rfl (by kernel_rfl) (fun _ _ _ h => h) (Or.inl ⟨by rfl, ?_⟩) ?_ ?_
    rotate_left
    · intro w'
      go_simp
      with_reducible rfl
    rotate_left
    · simp only [Act.put, List.setIfInBounds_toArray, List.set_cons_zero, List.set_cons_succ, i64_w, i32_w]
      rfl
    refine pure_ (i := 6) (N := some 18) (v := ?_) (a' := ?_) #[true, true, true, true, true, true, true, false, false] rfl rfl (by kernel_rfl) (fun _ _ _ h => h) (Or.inl ⟨by rfl, ?_⟩) ?_ ?_
    rotate_left
    · intro w'
      go_simp
      with_reducible rfl
    rotate_left
    · simp only [Act.put, List.setIfInBounds_toArray, List.set_cons_zero, List.set_cons_succ, i64_w, i32_w]
      rfl
    refine pure_ (i := 7) (N := some 7) (v := ?_) (a' := ?_) #[true, true, true, true, true, true, true, true, false] rfl rfl (by kernel_rfl) (fun _ _ _ h => h) (Or.inl ⟨by rfl, ?_⟩) ?_ ?_
    rotate_left
    · intro w'
      go_simp
      with_reducible rfl
    rotate_left
    · simp only [Act.put, List.setIfInBounds_toArray, List.set_cons_zero, List.set_cons_succ, i64_w, i32_w]
      rfl
    refine pure_ (i := 8) (N := some 8) (v := ?_) (a' := ?_) #[true, true, true, true, true, true, true, true, true] rfl rfl (by kernel_rfl) (fun _ _ _ h => h) (Or.inl ⟨by rfl, ?_⟩) ?_ ?_
    rotate_left
    · intro w'
      go_simp
      with_reducible rfl
    rotate_left
    · simp only [Act.put, List.setIfInBounds_toArray, List.set_cons_zero, List.set_cons_succ, i64_w, i32_w]
      rfl
    refine done_ (by kernel_rfl) ?_
    clear hHeld HH HW D0 D1 D2 D3 HBD HB3
    have HGD := Aside0.mk (beg_good HZ.out)
    have HUF := Aside0.mk (show unlockF H Wt l = (match lastI H l H.length with | none => (([], [], [], []), 3) | some i => (settleL (H.eraseIdx i) Wt, 0)) by unfold unlockF; rw [if_pos HZ.out])
    obtain ⟨vH, vW, vG, vN, hX⟩ := HT.out.x
    obtain ⟨A0, c0, rfl⟩ := Kd.R_slice hX.rH
    have HX := Aside0.mk hX
    have hcap : H.length ≤ c0 := (Kd.R_reads' hX.rH).2.1
    have z0 := (blk_cell hX.bq 0).trans rfl; have z1 := (blk_cell hX.bq 1).trans rfl; have z2 := (blk_cell hX.bq 2).trans rfl; have z3 := (blk_cell hX.bq 3).trans rfl
    clear hX
    have hH1 : H.length ≤ 1000 := by omega
    go_wp2
    clear z0 z1 z2 z3
    go_loopg [9] H.length (fun kq v9 w' => ∃ j : Nat, v9 = .int .i64 ((j : Int) - 1) ∧ Aside0 (kq = j) ∧ Aside0 (j ≤ H.length) ∧ Aside0 (lastI H l H.length = lastI H l j) ∧ Aside0 (Below w4.heap.size w4 w'))
    case atStart => exact ⟨H.length, rfl, ⟨rfl⟩, ⟨Nat.le_refl _⟩, ⟨rfl⟩, ⟨Below.refl _ _⟩⟩
    case round =>
      obtain ⟨j, rfl, HK, HJ, HL, HB⟩ := hrel
      have E1 := Aside0.mk (blk_below E1.out HB.out)
      have E2 := Aside0.mk (blk_below E2.out HB.out)
      have E3 := Aside0.mk (blk_below E3.out HB.out)
      have HX := Aside0.mk (HX.out.below HB.out)
      have HB4 := Aside0.mk (below_step HB4.out HB.out)
      cases j with
      | zero =>
        have HE := Aside0.mk (show unlockF H Wt l = (([], [], [], []), 3) by rw [HUF.out, HL.out]; rfl)
        have HB6 := Aside0.mk (below_step HB_W.out HB4.out)
        go_upto_region 11 with (fail)
        have r0 := (blk_cell E2.out 0).trans rfl; have r1 := (blk_cell E2.out 1).trans rfl
        have fr0 := blk_frozen E2.out 0; have fr1 := blk_frozen E2.out 1
        have s0 := (blk_cell E3.out 0).trans rfl; have s1 := (blk_cell E3.out 1).trans rfl
        have fs0 := blk_frozen E3.out 0; have fs1 := blk_frozen E3.out 1
        have P4 := Aside0.mk (put_two (n := w.heap.size) (w := w) (.slice none 0 0) (.slice none 0 0) E2.out HB6.out (by omega))
        have P5 := Aside0.mk (put_two (n := w.heap.size) (w := w) (.slice none 0 0) (.slice none 0 0) (two_far (.slice none 0 0) (.slice none 0 0) E3.out E2.out (by decide)) P4.out.2 (by omega))
        have P6 := Aside0.mk (two_far (.slice none 0 0) (.slice none 0 0) P4.out.1 (two_far (.slice none 0 0) (.slice none 0 0) E3.out E2.out (by decide)) (by decide))
        go_wp2
        refine bodyPost_ret (results_cells3 rfl rfl rfl (loadVar_two 29 (by kernel_rfl) (by kernel_rfl) P6.out) (loadVar_two 33 (by kernel_rfl) (by kernel_rfl) P5.out.1)) rfl ?_
        show RetN w (unlockF H Wt l).1 (unlockF H Wt l).2 _ _
        rw [HE.out]
        exact ⟨_, _, rfl, tabV_nil _ _, newsV_nil _ _, P5.out.2⟩
      | succ k =>
        have hk : k < H.length := HJ.out
        have hk1 : k < c0 := by omega
        rw [num_pred]
        have hge : decide ((0 : Int) ≤ (k : Int)) = true := by simp
        obtain ⟨ad, rfl, x0, x1, x2, x3, x4⟩ := at_T24 (Kd.R_reads' HX.out.rH).2.2 (k : Int) (by omega) (by omega)
        simp only [Int.toNat_natCast] at x0 x1 x2 x3 x4
        have z0 := (blk_cell HX.out.bq 0).trans rfl; have z1 := (blk_cell HX.out.bq 1).trans rfl; have z2 := (blk_cell HX.out.bq 2).trans rfl; have z3 := (blk_cell HX.out.bq 3).trans rfl
        have y0 := (blk_cell E1.out 0).trans rfl; have y1 := (blk_cell E1.out 1).trans rfl; have y2 := (blk_cell E1.out 2).trans rfl; have y3 := (blk_cell E1.out 3).trans rfl; have y4 := (blk_cell E1.out 4).trans rfl
        cases hq : eqL (rd_T24 H (k : Int)) l with
        | false =>
          have HEQ := Aside0.mk hq
          have HL2 := Aside0.mk (show lastI H l H.length = lastI H l k by rw [HL.out]; show (if eqL (rd_T24 H (k : Int)) l then some k else lastI H l k) = _; rw [hq]; rfl)
          unfold eqL at hq
          go_upto_region 7 with (fail)
          go_quiet (fail)
          have HB6 := Aside0.mk (below_step HB.out (pw_below_drewN (Below.refl wr.heap.size wr) nq))
          generalize wr.drewN nq = w6 at HB6 ⊢
          clear x0 x1 x2 x3 x4 y0 y1 y2 y3 y4 z0 z1 z2 z3
          go_wp2
          go_roundg k
          case measure => have := HK.out; omega
          case rel => exact ⟨k, by first | rfl | go_num | (congr 1; omega), ⟨rfl⟩, ⟨by omega⟩, HL2, HB6⟩
        | true =>
          have HEQ := Aside0.mk hq
          have HL2 := Aside0.mk (show lastI H l H.length = some k by rw [HL.out]; show (if eqL (rd_T24 H (k : Int)) l then some k else lastI H l k) = _; rw [hq]; rfl)
          unfold eqL at hq
          go_upto_region 7 with (fail)
          go_quiet (fail)
          have hbq := pw_below_drewN (Below.refl wr.heap.size wr) nq
          have HT := Aside0.mk (HX.out.below hbq).o
          have HB6 := Aside0.mk (below_step HB4.out hbq)
          have E2 := Aside0.mk (blk_below E2.out hbq)
          have E3 := Aside0.mk (blk_below E3.out hbq)
          have HX := Aside0.mk (HX.out.below hbq)
          clear hbq HB HB4 E1
          generalize wr.drewN nq = w6 at HB6 HT E2 E3 HX ⊢
          clear x0 x1 x2 x3 x4 y0 y1 y2 y3 y4 z0 z1 z2 z3
          have HE0 := Aside0.mk (show unlockF H Wt l = (settleL (H.eraseIdx k) Wt, 0) by rw [HUF.out, HL2.out])
          have HGG := Aside0.mk (HGD.out.sub (List.eraseIdx_sublist H k) (List.Sublist.refl Wt))
          obtain ⟨EE, hE⟩ : ∃ EE, EE = H.eraseIdx k := ⟨_, rfl⟩
          have hdel := delete_calls W.heap.size (fun _ => True) (.slice (some ad) H.length c0) H k w6 HX.out.rH hk HB6.out.size
          rw [← hE] at hdel HGG HE0
          have HDEL := Aside0.mk hdel
          clear hdel hE
          have z0 := (blk_cell HX.out.bq 0).trans rfl; have z1 := (blk_cell HX.out.bq 1).trans rfl; have z2 := (blk_cell HX.out.bq 2).trans rfl; have z3 := (blk_cell HX.out.bq 3).trans rfl
          go_upto_region 9 with ((with_reducible refine gate_dst (N := 54) rfl ?_); refine goesL_ (some 54) rfl rfl Try.func70 (by kernel_rfl) rfl #[.slice (some ad) H.length c0, .int .i64 k, .int .i64 ((k : Int) + 1)] rfl (by (try simp only [List.map_toArray, List.map_cons, List.map_nil]); first | done | rfl) ?_; refine HDEL.out.mono ?_; rintro e w7 ⟨A5, c5, rfl, hra, hown, hg⟩; refine ⟨_, rfl, ?_⟩; have HRA := Aside0.mk hra; have HOW := Aside0.mk hown; have HGR := Aside0.mk hg; clear hra hown hg z0 z1 z2 z3; have HQ5 := Aside0.mk (blk_grown HX.out.bq HGR.out (Kd.R_ne HX.out.rH HX.out.bq (by decide))); have z0 := (blk_cell HQ5.out 0).trans rfl; have z1 := (blk_cell HQ5.out 1).trans rfl; have z2 := (blk_cell HQ5.out 2).trans rfl; have z3 := (blk_cell HQ5.out 3).trans rfl; have fz0 := blk_frozen HQ5.out 0; have fz1 := blk_frozen HQ5.out 1; have fz2 := blk_frozen HQ5.out 2; have fz3 := blk_frozen HQ5.out 3)
          have HX7 := Aside0.mk (HX.out.setH HRA.out HGR.out (.inl HOW.out))
          have HB7 := Aside0.mk (below_row HX.out.rH HB6.out HB6.out.size HGR.out HX.out.hq 0 (.slice A5 EE.length c5))
          have G2 := Aside0.mk ((below_row HX.out.rH (Below.refl _ w6 |>.mono HB6.out.size) HB6.out.size HGR.out HX.out.hq 0 (.slice A5 EE.length c5)).block _ K4.out.1 |>.trans E2.out)
          have G3 := Aside0.mk ((below_row HX.out.rH (Below.refl _ w6 |>.mono HB6.out.size) HB6.out.size HGR.out HX.out.hq 0 (.slice A5 EE.length c5)).block _ K4.out.2 |>.trans E3.out)
          clear HRA HOW HGR HQ5 HDEL HX HB6 z0 z1 z2 z3 fz0 fz1 fz2 fz3
          generalize w7.setCell ⟨q, 0, none⟩ (.slice A5 EE.length c5) = w8 at HX7 HB7 G2 G3 ⊢
          have HTO := Aside0.mk HX7.out.o
          obtain ⟨⟨H5, W5, G5, N5⟩, hR⟩ : ∃ R, R = PL.settle hdL mtL (EE) (Wt) := ⟨_, rfl⟩
          have hset := settle_calls q W.heap.size (EE) (Wt) w8 HTO.out HGG.out HB7.out.size
          rw [← hR] at hset
          have HSET := Aside0.mk hset
          have HE := Aside0.mk (show unlockF H Wt l = ((H5, W5, G5, N5), 0) from HE0.out.trans (by rw [hR]))
          clear hset hR
          go_upto_region 10 with ((with_reducible refine gate_dst (N := 60) rfl ?_); refine goesL_ (some 60) rfl rfl Try.func46 (by kernel_rfl) rfl #[.pointer (some ⟨q, 0, none⟩)] rfl (by (try simp only [List.map_toArray, List.map_cons, List.map_nil]); first | done | rfl) ?_; refine HSET.out.mono ?_; rintro e w5 ⟨vH, vW, vG, vN, rfl, rH, rW, rG, rN, hb⟩; dsimp only at rH rW rG rN; obtain ⟨A1, c1, rfl⟩ := Kd.R_slice rH; obtain ⟨A2, c2, rfl⟩ := Kd.R_slice rW; obtain ⟨A3, c3, rfl⟩ := Kd.R_slice rG; obtain ⟨A4, c4, rfl⟩ := Kd.R_slice rN; refine ⟨_, rfl, ?_⟩; have R1 := Aside0.mk rH; have R2 := Aside0.mk rW; have R3 := Aside0.mk rG; have R4 := Aside0.mk rN; have HB5 := Aside0.mk hb; clear rH rW rG rN hb)
          have F4 := Aside0.mk ((HB5.out.block _ K4.out.1).trans G2.out)
          have F5 := Aside0.mk ((HB5.out.block _ K4.out.2).trans G3.out)
          have HBW5 := Aside0.mk (HB_W.out.trans ((HB7.out.trans HB5.out).mono HB_W.out.size))
          have hb_ := below_alloc (below_alloc (Below.refl _ w5) (.cells #[.slice A1 H5.length c1, .slice A2 W5.length c2] 29)) (.cells #[.slice A3 G5.length c3, .slice A4 N5.length c4] 33)
          have hG0_ := blk_alloc (blk_lit0 w5 (.cells #[.slice A1 H5.length c1, .slice A2 W5.length c2] 29)) (.cells #[.slice A3 G5.length c3, .slice A4 N5.length c4] 33)
          have hG1_ := blk_lit w5 (.cells #[.slice A1 H5.length c1, .slice A2 W5.length c2] 29) (.cells #[.slice A3 G5.length c3, .slice A4 N5.length c4] 33)
          generalize ((w5.alloc (.cells #[.slice A1 H5.length c1, .slice A2 W5.length c2] 29)).alloc (.cells #[.slice A3 G5.length c3, .slice A4 N5.length c4] 33)) = X at hb_ hG0_ hG1_ ⊢
          have HB_X := Aside0.mk hb_
          have X0 := Aside0.mk hG0_
          have X1 := Aside0.mk hG1_
          clear hb_ hG0_ hG1_
          refine start_ (n := 5) (S := fun w' => w'.cell? ⟨w5.heap.size, 0, none⟩ = some (.slice A1 H5.length c1) ∧ w'.cell? ⟨w5.heap.size, 1, none⟩ = some (.slice A2 W5.length c2) ∧ w'.cell? ⟨w5.heap.size + 1, 0, none⟩ = some (.slice A3 G5.length c3) ∧ w'.cell? ⟨w5.heap.size + 1, 1, none⟩ = some (.slice A4 N5.length c4)) (ds := [3]) #[false, false, false, false, false] (by kernel_rfl) rfl rfl ⟨(blk_cell (blk_drew X0.out) 0).trans rfl, (blk_cell (blk_drew X0.out) 1).trans rfl, (blk_cell (blk_drew X1.out) 0).trans rfl, (blk_cell (blk_drew X1.out) 1).trans rfl⟩ (fun hHeld => ?_)
          have hbd := below_drew1 HB_X.out
          have Q1 := Aside0.mk (Kd.R_below R1.out hbd)
          have Q2 := Aside0.mk (Kd.R_below R2.out hbd)
          have Q3 := Aside0.mk (Kd.R_below R3.out hbd)
          have Q4 := Aside0.mk (Kd.R_below R4.out hbd)
          have L4 := Aside0.mk (blk_lt F4.out)
          have L5 := Aside0.mk (blk_lt F5.out)
          have F4 := Aside0.mk (blk_below F4.out hbd)
          have F5 := Aside0.mk (blk_below F5.out hbd)
          have HBW6 := Aside0.mk (below_step HBW5.out hbd)
          have Y0 := Aside0.mk (blk_drew X0.out)
          have Y1 := Aside0.mk (blk_drew X1.out)
          clear hbd R1 R2 R3 R4 HB5 HBW5 X0 X1 HB_X
          generalize X.drew = x6 at Q1 Q2 Q3 Q4 F4 F5 HBW6 Y0 Y1 hHeld ⊢
          refine take_ (i := 0) (N := some 63) (v := ?_) (a' := ?_) #[true, false, false, false, false] rfl rfl (by kernel_rfl) (fun _ _ _ h => h) (Or.inl ⟨by rfl, ?_⟩) hHeld ?_ ?_
          rotate_left
          · rintro w' ⟨s0, s1, s2, s3⟩
            go_simp
            with_reducible rfl
          rotate_left
          · simp only [Act.put, List.setIfInBounds_toArray, List.set_cons_zero, List.set_cons_succ, i64_w, i32_w]
            rfl
          refine take_ (i := 1) (N := some 64) (v := ?_) (a' := ?_) #[true, true, false, false, false] rfl rfl (by kernel_rfl) (fun _ _ _ h => h) (Or.inl ⟨by rfl, ?_⟩) hHeld ?_ ?_
          rotate_left
          · rintro w' ⟨s0, s1, s2, s3⟩
            go_simp
            with_reducible rfl
          rotate_left
          · simp only [Act.put, List.setIfInBounds_toArray, List.set_cons_zero, List.set_cons_succ, i64_w, i32_w]
            rfl
          have r0 := (blk_cell F4.out 0).trans rfl; have r1 := (blk_cell F4.out 1).trans rfl
          have fr0 := blk_frozen F4.out 0; have fr1 := blk_frozen F4.out 1
          refine one_ (i := 2) (N := none) #[true, true, true, false, false] rfl rfl (by kernel_rfl) (by decide) (fun K hK => ?_)
          refine skip_ (w1 := ?_) (by rfl) rfl ?_ ?_
          rotate_left
          · go_simp
            rfl
          clear r0 r1 fr0 fr1
          have P4 := Aside0.mk (put_two (n := w.heap.size) (w := w) (.slice A1 H5.length c1) (.slice A2 W5.length c2) F4.out HBW6.out (by omega))
          have G5' := Aside0.mk (two_far (.slice A1 H5.length c1) (.slice A2 W5.length c2) F5.out F4.out (by decide))
          have S1 := Aside0.mk (R_two (.slice A1 H5.length c1) (.slice A2 W5.length c2) Q1.out F4.out (by decide))
          have S2 := Aside0.mk (R_two (.slice A1 H5.length c1) (.slice A2 W5.length c2) Q2.out F4.out (by decide))
          have S3 := Aside0.mk (R_two (.slice A1 H5.length c1) (.slice A2 W5.length c2) Q3.out F4.out (by decide))
          have S4 := Aside0.mk (R_two (.slice A1 H5.length c1) (.slice A2 W5.length c2) Q4.out F4.out (by decide))
          have Z0 := Aside0.mk (blk_far (blk_far Y0.out (p := ⟨w.heap.size + 1 + 1, 0, none⟩) (show w5.heap.size ≠ w.heap.size + 1 + 1 by have := L4.out; omega) (.slice A1 H5.length c1)) (p := ⟨w.heap.size + 1 + 1, 1, none⟩) (show w5.heap.size ≠ w.heap.size + 1 + 1 by have := L4.out; omega) (.slice A2 W5.length c2))
          have Z1 := Aside0.mk (blk_far (blk_far Y1.out (p := ⟨w.heap.size + 1 + 1, 0, none⟩) (show w5.heap.size + 1 ≠ w.heap.size + 1 + 1 by have := L4.out; omega) (.slice A1 H5.length c1)) (p := ⟨w.heap.size + 1 + 1, 1, none⟩) (show w5.heap.size + 1 ≠ w.heap.size + 1 + 1 by have := L4.out; omega) (.slice A2 W5.length c2))
          clear Q1 Q2 Q3 Q4 F4 F5 HBW6 Y0 Y1
          generalize (x6.setCell ⟨w.heap.size + 1 + 1, 0, none⟩ (.slice A1 H5.length c1)).setCell ⟨w.heap.size + 1 + 1, 1, none⟩ (.slice A2 W5.length c2) = x7 at P4 G5' S1 S2 S3 S4 Z0 Z1 ⊢
          refine hK.out _ _ ⟨(blk_cell Z0.out 0).trans rfl, (blk_cell Z0.out 1).trans rfl, (blk_cell Z1.out 0).trans rfl, (blk_cell Z1.out 1).trans rfl⟩ (fun hHeld => ?_)
          clear hK K
          skip
          have r0 := (blk_cell G5'.out 0).trans rfl; have r1 := (blk_cell G5'.out 1).trans rfl
          have fr0 := blk_frozen G5'.out 0; have fr1 := blk_frozen G5'.out 1
          refine last_ (i := 3) (N := none) #[true, true, true, true, false] rfl rfl (by kernel_rfl) (by decide) (fun K hK => ?_)
          refine skip_ (w1 := ?_) (by rfl) rfl ?_ ?_
          rotate_left
          · go_simp
            rfl
          refine hK.out _ _ ?_
          clear hK K hHeld r0 r1 fr0 fr1
          have P5 := Aside0.mk (put_two (n := w.heap.size) (w := w) (.slice A3 G5.length c3) (.slice A4 N5.length c4) G5'.out P4.out.2 (by omega))
          have P6 := Aside0.mk (two_far (.slice A3 G5.length c3) (.slice A4 N5.length c4) P4.out.1 G5'.out (by decide))
          have T1 := Aside0.mk (R_two (.slice A3 G5.length c3) (.slice A4 N5.length c4) S1.out G5'.out (by decide))
          have T2 := Aside0.mk (R_two (.slice A3 G5.length c3) (.slice A4 N5.length c4) S2.out G5'.out (by decide))
          have T3 := Aside0.mk (R_two (.slice A3 G5.length c3) (.slice A4 N5.length c4) S3.out G5'.out (by decide))
          have T4 := Aside0.mk (R_two (.slice A3 G5.length c3) (.slice A4 N5.length c4) S4.out G5'.out (by decide))
          clear P4 G5' S1 S2 S3 S4 Z0 Z1
          generalize (x7.setCell ⟨w.heap.size + 1 + 1 + 1, 0, none⟩ (.slice A3 G5.length c3)).setCell ⟨w.heap.size + 1 + 1 + 1, 1, none⟩ (.slice A4 N5.length c4) = x8 at P5 P6 T1 T2 T3 T4 ⊢
          skip
          refine pure_ (i := 4) (N := some 6) (v := ?_) (a' := ?_) #[true, true, true, true, true] rfl rfl (by kernel_rfl) (fun _ _ _ h => h) (Or.inl ⟨by rfl, ?_⟩) ?_ ?_
          rotate_left
          · intro w'
            go_simp
            with_reducible rfl
          rotate_left
          · simp only [Act.put, List.setIfInBounds_toArray, List.set_cons_zero, List.set_cons_succ, i64_w, i32_w]
            rfl
          refine done_ (by kernel_rfl) ?_
          go_wp2
          refine bodyPost_ret (results_cells3 rfl rfl rfl (loadVar_two 29 (by kernel_rfl) (by kernel_rfl) P6.out) (loadVar_two 33 (by kernel_rfl) (by kernel_rfl) P5.out.1)) rfl ?_
          show RetN w (unlockF H Wt l).1 (unlockF H Wt l).2 _ _
          rw [HE.out]
          exact ⟨_, _, rfl, ⟨_, _, rfl, Kd.R_lower T1.out HB_W.out.size, Kd.R_lower T2.out HB_W.out.size⟩, ⟨_, _, rfl, Kd.R_lower T3.out HB_W.out.size, Kd.R_lower T4.out HB_W.out.size⟩, P5.out.2⟩
end Go.Proofs.Ytifnfnoicinbaaa.M
