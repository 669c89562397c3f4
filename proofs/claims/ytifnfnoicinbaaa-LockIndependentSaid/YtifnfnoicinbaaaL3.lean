/- LockIndependent: the walk. -/
import Derived.Test.YtifnfnoicinbaaaN2
namespace Go.Proofs.Ytifnfnoicinbaaa.M
open Go.RowKit Go.Proofs.YtifnfnoicinbaaaW.PrintWords Go.Proofs.YtifnfnoicinbaaaW.PrintLast Go.Proofs.YtifnfnoicinbaaaW.PrintMore
set_option linter.unusedVariables false
set_option linter.unusedSimpArgs false
set_option linter.unnecessarySimpa false
attribute [local go_sem high] eqA24

theorem news_try {t : List S24 × List S24} {a : S24} : newsT t (tryA a) = ([], []) := by
  obtain ⟨H, Q⟩ := t
  unfold newsT
  rw [done_try]
  dsimp only
  split <;> rfl
def dif (X Y : List S24) (x : S24) (k : Nat) : Int := ((X.take k).countP (fun y => eqL y x) : Int) - ((Y.take k).countP (fun y => eqL y x) : Int)
theorem dif_zero (X Y : List S24) (x : S24) : dif X Y x 0 = 0 := by simp [dif]
theorem dif_end {X Y : List S24} (x : S24) (h : X.Perm Y) : dif X Y x X.length = 0 := by
  unfold dif
  rw [List.take_length, h.length_eq, List.take_length, h.countP_eq]
  omega
theorem take_countP {X : List S24} {p : S24 → Bool} {k : Nat} (h : k < X.length) : (X.take (k + 1)).countP p = (X.take k).countP p + if p (rd_T24 X (k : Int)) = true then 1 else 0 := by
  rw [List.take_succ_eq_append_getElem h, List.countP_append, rd_at h, List.countP_singleton]
theorem dif_succ {X Y : List S24} {x : S24} {k : Nat} (h : k < X.length) (h' : k < Y.length) : dif X Y x (k + 1) = dif X Y x k + (if eqL (rd_T24 X (k : Int)) x = true then 1 else 0) - (if eqL (rd_T24 Y (k : Int)) x = true then 1 else 0) := by
  unfold dif
  rw [take_countP h, take_countP h']
  split <;> split <;> simp <;> omega
theorem dif_bound (X Y : List S24) (x : S24) (k : Nat) : -(k : Int) ≤ dif X Y x k ∧ dif X Y x k ≤ k := by
  unfold dif
  have h1 : (X.take k).countP (fun y => eqL y x) ≤ (X.take k).length := List.countP_le_length
  have h2 : (Y.take k).countP (fun y => eqL y x) ≤ (Y.take k).length := List.countP_le_length
  rw [List.length_take] at h1 h2
  omega
set_option maxRecDepth 100000 in
set_option maxHeartbeats 8000000 in
theorem independent_walk (A : Option Addr) (c : Nat) (l : List S37) (a b : S24) (w : World) (hc : l.length ≤ c) (hC : k37.C w A l.length l) (hk : ∀ a ∈ l, 0 ≤ a.f0 ∧ a.f0 ≤ 255) :
    Calls Try.prog 3 #[.slice A l.length c, .agg #[.int .i64 a.f0, .int .i64 a.f1, .int .i64 a.f2, .int .i64 a.f3, .bool a.f4], .agg #[.int .i64 b.f0, .int .i64 b.f1, .int .i64 b.f2, .int .i64 b.f3, .bool b.f4]] w fun e w' => e = .returned (.bool true) ∧ Below w.heap.size w w' := by
  have HC := Aside0.mk hC
  have HKD := Aside0.mk hk
  clear hC hk
  go_enter Try.func3, Try.ntmps3
  go_upto_region 1 with (fail)
  have hb_ := below_alloc (below_alloc (Below.refl _ w) (.cells #[.int .i64 a.f0, .int .i64 a.f1, .int .i64 a.f2, .int .i64 a.f3, .bool a.f4] 24)) (.cells #[.int .i64 b.f0, .int .i64 b.f1, .int .i64 b.f2, .int .i64 b.f3, .bool b.f4] 24)
  have hG0_ := blk_alloc (blk_lit0 w (.cells #[.int .i64 a.f0, .int .i64 a.f1, .int .i64 a.f2, .int .i64 a.f3, .bool a.f4] 24)) (.cells #[.int .i64 b.f0, .int .i64 b.f1, .int .i64 b.f2, .int .i64 b.f3, .bool b.f4] 24)
  have hG1_ := blk_lit w (.cells #[.int .i64 a.f0, .int .i64 a.f1, .int .i64 a.f2, .int .i64 a.f3, .bool a.f4] 24) (.cells #[.int .i64 b.f0, .int .i64 b.f1, .int .i64 b.f2, .int .i64 b.f3, .bool b.f4] 24)
  generalize ((w.alloc (.cells #[.int .i64 a.f0, .int .i64 a.f1, .int .i64 a.f2, .int .i64 a.f3, .bool a.f4] 24)).alloc (.cells #[.int .i64 b.f0, .int .i64 b.f1, .int .i64 b.f2, .int .i64 b.f3, .bool b.f4] 24)) = W at hb_ hG0_ hG1_ ⊢
  have HB_W := Aside0.mk hb_
  have W0 := Aside0.mk hG0_
  have W1 := Aside0.mk hG1_
  clear hb_ hG0_ hG1_
  have y0 := (blk_cell W0.out 0).trans rfl; have y1 := (blk_cell W0.out 1).trans rfl; have y2 := (blk_cell W0.out 2).trans rfl; have y3 := (blk_cell W0.out 3).trans rfl; have y4 := (blk_cell W0.out 4).trans rfl
  have z0 := (blk_cell W1.out 0).trans rfl; have z1 := (blk_cell W1.out 1).trans rfl; have z2 := (blk_cell W1.out 2).trans rfl; have z3 := (blk_cell W1.out 3).trans rfl; have z4 := (blk_cell W1.out 4).trans rfl
  by_cases hl : 40 < l.length
  · have h40 : decide ((40 : Int) < (l.length : Int)) = true := by simp; omega
    go_wp2_with (fail)
    refine (sane_calls _).mono ?_
    rintro e w9 ⟨rfl, hb9⟩
    have HB9 := Aside0.mk (below_step HB_W.out hb9)
    clear hb9
    go_wp2
    go_ret
    exact ⟨rfl, HB9.out⟩
  have h40 : decide ((40 : Int) < (l.length : Int)) = false := by simp; omega
  cases hab : (a.f1 == b.f1) with
  | true =>
    go_wp2_with (fail)
    refine (sane_calls _).mono ?_
    rintro e w9 ⟨rfl, hb9⟩
    have HB9 := Aside0.mk (below_step HB_W.out hb9)
    clear hb9
    go_wp2
    go_ret
    exact ⟨rfl, HB9.out⟩
  | false =>
  go_wp2_with (fail)
  refine (conflict_calls a b _).mono ?_
  rintro e w2 ⟨rfl, hb⟩
  have HWW := Aside0.mk HB_W.out.size
  have Y := Aside0.mk (blk_below W0.out hb)
  have Z := Aside0.mk (blk_below W1.out hb)
  have B := Aside0.mk (below_step HB_W.out hb)
  clear hb y0 y1 y2 y3 y4 z0 z1 z2 z3 z4 W0 W1 HB_W
  cases hcf : cfL a b with
  | true =>
    go_wp2_with (fail)
    refine (sane_calls _).mono ?_
    rintro e w9 ⟨rfl, hb9⟩
    have HB9 := Aside0.mk (below_step B.out hb9)
    clear hb9
    go_wp2
    go_ret
    exact ⟨rfl, HB9.out⟩
  | false =>
  have HCF := Aside0.mk hcf
  clear hcf
  go_wp2_with (fail)
  refine (played_calls A c l _ (Kd.C_below HC.out B.out) HKD.out (by omega)).mono ?_
  rintro e w3 ⟨v, rfl, hv, hb⟩
  obtain ⟨vH, vW, rfl, hvH, hvW⟩ := hv
  obtain ⟨A1, c1, rfl⟩ := Kd.R_slice hvH
  obtain ⟨A2, c2, rfl⟩ := Kd.R_slice hvW
  have LL := Aside0.mk B.out.size
  have Y := Aside0.mk (blk_below Y.out hb)
  have Z := Aside0.mk (blk_below Z.out hb)
  have B := Aside0.mk (below_step B.out hb)
  have RH := Aside0.mk (Kd.R_lower hvH LL.out)
  have RW := Aside0.mk (Kd.R_lower hvW LL.out)
  have HIN := Aside0.mk (play_inv l)
  have HPS := Aside0.mk (show (playF l).1.length + (playF l).2.length ≤ 40 by have := play_short l; omega)
  clear hb hvH hvW
  generalize (playF l).1 = H at RH HIN HPS ⊢
  generalize (playF l).2 = Q at RW HIN HPS ⊢
  have HID := Aside0.mk (indep (a := a) (b := b) HIN.out (show H.length + Q.length < 399 by have := HPS.out; omega) HCF.out)
  have HIX := Aside0.mk (next_inv (t := (H, Q)) (a := tryA a) HIN.out)
  have HIY := Aside0.mk (next_inv (t := (H, Q)) (a := tryA b) HIN.out)
  have HIX2 := Aside0.mk (next_inv (a := tryA b) HIX.out)
  have HIY2 := Aside0.mk (next_inv (a := tryA a) HIY.out)
  generalize hX : nextT (H, Q) (tryA a) = X at HID HIX HIX2 HIY2
  generalize hY : nextT (H, Q) (tryA b) = Y0 at HID HIY HIY2 HIX2
  obtain ⟨X1, X2⟩ := X
  obtain ⟨Y1, Y2⟩ := Y0
  generalize hX2 : nextT (X1, X2) (tryA b) = XX at HID HIX2
  generalize hY2 : nextT (Y1, Y2) (tryA a) = YY at HID HIY2
  obtain ⟨P1, P2⟩ := XX
  obtain ⟨Q1, Q2⟩ := YY
  obtain ⟨hi1, hi2, hi3, hi4⟩ := HID.out
  dsimp only at hi1 hi2 hi3 hi4
  have HI1 := Aside0.mk hi1
  have HI2 := Aside0.mk hi2
  have HI3 := Aside0.mk hi3
  have HI4 := Aside0.mk hi4
  clear hi1 hi2 hi3 hi4 HID
  have HX := Aside0.mk hX
  have HY := Aside0.mk hY
  have HX2 := Aside0.mk hX2
  have HY2 := Aside0.mk hY2
  clear hX hY hX2 hY2
  have HW0 := Aside0.mk (show w.heap.size ≤ W.heap.size from HWW.out)
  go_upto_region 4 with (fail)
  have LT7 := Aside0.mk (show w.heap.size ≤ w3.heap.size from B.out.size)
  have hb_ := below_alloc (Below.refl _ w3) (.cells #[.slice A1 H.length c1, .slice A2 Q.length c2] 29)
  have hG0_ := blk_lit0 w3 (.cells #[.slice A1 H.length c1, .slice A2 Q.length c2] 29)
  generalize (w3.alloc (.cells #[.slice A1 H.length c1, .slice A2 Q.length c2] 29)) = w4 at hb_ hG0_ ⊢
  have HB_w4 := Aside0.mk hb_
  have w40 := Aside0.mk hG0_
  clear hb_ hG0_
  have Y := Aside0.mk (blk_below Y.out HB_w4.out)
  have Z := Aside0.mk (blk_below Z.out HB_w4.out)
  have RH := Aside0.mk (Kd.R_below RH.out HB_w4.out)
  have RW := Aside0.mk (Kd.R_below RW.out HB_w4.out)
  have B := Aside0.mk (below_step B.out HB_w4.out)
  clear HB_w4
  have T7 := w40
  clear w40
  generalize w3.heap.size = b7 at T7 LT7  ⊢
  have y0 := (blk_cell Y.out 0).trans rfl; have y1 := (blk_cell Y.out 1).trans rfl; have y2 := (blk_cell Y.out 2).trans rfl; have y3 := (blk_cell Y.out 3).trans rfl; have y4 := (blk_cell Y.out 4).trans rfl
  have x0 := (blk_cell T7.out 0).trans rfl; have x1 := (blk_cell T7.out 1).trans rfl
  go_upto_region 5 with (fail)
  refine (doneT_calls w.heap.size A1 A2 c1 c2 _ _ (tryA a) _ RH.out RW.out B.out.size (show H.length + Q.length ≤ 1000 from by have := HPS.out; omega) (show (0 : Int) ≤ 0 from Int.le_refl 0) (show (0 : Int) ≤ 255 by decide)).mono ?_
  rintro e w5 ⟨vH, vW, vG, vN, rfl, hvH, hvW, hvG, hvN, hb⟩
  rw [HX.out] at hvH hvW
  rw [news_try] at hvG hvN
  dsimp only at hvH hvW hvG hvN
  generalize decide ((doneR H Q (tryA a)).2 = 0) = k1 at HI1 ⊢
  obtain ⟨x1a, x1c, rfl⟩ := Kd.R_slice hvH
  obtain ⟨x2a, x2c, rfl⟩ := Kd.R_slice hvW
  obtain ⟨ga, gc, rfl⟩ := Kd.R_slice hvG
  obtain ⟨na, nc, rfl⟩ := Kd.R_slice hvN
  have Y := Aside0.mk (blk_below Y.out hb)
  have Z := Aside0.mk (blk_below Z.out hb)
  have T7 := Aside0.mk (blk_below T7.out hb)
  have RH := Aside0.mk (Kd.R_below RH.out hb)
  have RW := Aside0.mk (Kd.R_below RW.out hb)
  have B := Aside0.mk (below_step B.out hb)
  have Rx1 := Aside0.mk hvH
  have Rx2 := Aside0.mk hvW
  clear hb hvH hvW hvG hvN x0 x1 y0 y1 y2 y3 y4
  go_upto_region 5 with (fail)
  have LT8 := Aside0.mk (show w.heap.size ≤ w5.heap.size from B.out.size)
  have NT7T8 := Aside0.mk (show _ < w5.heap.size from blk_lt T7.out)
  have hb_ := below_alloc (below_alloc (Below.refl _ w5) (.cells #[.slice x1a X1.length x1c, .slice x2a X2.length x2c] 29)) (.cells #[.slice ga 0 gc, .slice na 0 nc] 33)
  have hG0_ := blk_alloc (blk_lit0 w5 (.cells #[.slice x1a X1.length x1c, .slice x2a X2.length x2c] 29)) (.cells #[.slice ga 0 gc, .slice na 0 nc] 33)
  have hG1_ := blk_lit w5 (.cells #[.slice x1a X1.length x1c, .slice x2a X2.length x2c] 29) (.cells #[.slice ga 0 gc, .slice na 0 nc] 33)
  generalize ((w5.alloc (.cells #[.slice x1a X1.length x1c, .slice x2a X2.length x2c] 29)).alloc (.cells #[.slice ga 0 gc, .slice na 0 nc] 33)) = w6 at hb_ hG0_ hG1_ ⊢
  have HB_w6 := Aside0.mk hb_
  have w60 := Aside0.mk hG0_
  have w61 := Aside0.mk hG1_
  clear hb_ hG0_ hG1_
  have Y := Aside0.mk (blk_below Y.out HB_w6.out)
  have Z := Aside0.mk (blk_below Z.out HB_w6.out)
  have T7 := Aside0.mk (blk_below T7.out HB_w6.out)
  have RH := Aside0.mk (Kd.R_below RH.out HB_w6.out)
  have RW := Aside0.mk (Kd.R_below RW.out HB_w6.out)
  have Rx1 := Aside0.mk (Kd.R_below Rx1.out HB_w6.out)
  have Rx2 := Aside0.mk (Kd.R_below Rx2.out HB_w6.out)
  have B := Aside0.mk (below_step B.out HB_w6.out)
  clear HB_w6
  have T8 := w60
  clear w60
  have TJ := w61
  clear w61
  generalize w5.heap.size = b8 at T8 TJ LT8 NT7T8 ⊢
  clear TJ
  have y0 := (blk_cell Z.out 0).trans rfl; have y1 := (blk_cell Z.out 1).trans rfl; have y2 := (blk_cell Z.out 2).trans rfl; have y3 := (blk_cell Z.out 3).trans rfl; have y4 := (blk_cell Z.out 4).trans rfl
  have x0 := (blk_cell T8.out 0).trans rfl; have x1 := (blk_cell T8.out 1).trans rfl
  go_upto_region 6 with (fail)
  refine (doneT_calls w.heap.size x1a x2a x1c x2c _ _ (tryA b) _ Rx1.out Rx2.out B.out.size (show X1.length + X2.length ≤ 1000 from Nat.le_trans HIX.out.len (by decide)) (show (0 : Int) ≤ 0 from Int.le_refl 0) (show (0 : Int) ≤ 255 by decide)).mono ?_
  rintro e w7 ⟨vH, vW, vG, vN, rfl, hvH, hvW, hvG, hvN, hb⟩
  rw [HX2.out] at hvH hvW
  rw [news_try] at hvG hvN
  dsimp only at hvH hvW hvG hvN
  generalize decide ((doneR X1 X2 (tryA b)).2 = 0) = k2 at HI2 ⊢
  obtain ⟨p1a, p1c, rfl⟩ := Kd.R_slice hvH
  obtain ⟨p2a, p2c, rfl⟩ := Kd.R_slice hvW
  obtain ⟨ga, gc, rfl⟩ := Kd.R_slice hvG
  obtain ⟨na, nc, rfl⟩ := Kd.R_slice hvN
  have Y := Aside0.mk (blk_below Y.out hb)
  have Z := Aside0.mk (blk_below Z.out hb)
  have T7 := Aside0.mk (blk_below T7.out hb)
  have T8 := Aside0.mk (blk_below T8.out hb)
  have RH := Aside0.mk (Kd.R_below RH.out hb)
  have RW := Aside0.mk (Kd.R_below RW.out hb)
  have Rx1 := Aside0.mk (Kd.R_below Rx1.out hb)
  have Rx2 := Aside0.mk (Kd.R_below Rx2.out hb)
  have B := Aside0.mk (below_step B.out hb)
  have Rp1 := Aside0.mk hvH
  have Rp2 := Aside0.mk hvW
  clear hb hvH hvW hvG hvN x0 x1 y0 y1 y2 y3 y4
  have hbx := below_alloc (Below.refl _ w7) (.cells #[.slice none 0 0, .slice none 0 0] 33)
  have TN := Aside0.mk (blk_new w7 (.cells #[.slice none 0 0, .slice none 0 0] 33))
  have LTN := Aside0.mk (show w.heap.size ≤ w7.heap.size from B.out.size)
  have hne : w7.heap.size ≠ b8 := (Nat.ne_of_lt (blk_lt T8.out)).symm
  have hne' : b8 ≠ w7.heap.size := Nat.ne_of_lt (blk_lt T8.out)
  have Y := Aside0.mk (blk_below Y.out hbx)
  have Z := Aside0.mk (blk_below Z.out hbx)
  have T7 := Aside0.mk (blk_below T7.out hbx)
  have T8 := Aside0.mk (blk_below T8.out hbx)
  have RH := Aside0.mk (Kd.R_below RH.out hbx)
  have RW := Aside0.mk (Kd.R_below RW.out hbx)
  have Rx1 := Aside0.mk (Kd.R_below Rx1.out hbx)
  have Rx2 := Aside0.mk (Kd.R_below Rx2.out hbx)
  have Rp1 := Aside0.mk (Kd.R_below Rp1.out hbx)
  have Rp2 := Aside0.mk (Kd.R_below Rp2.out hbx)
  have B := Aside0.mk (below_step B.out hbx)
  clear hbx
  have x0 := (blk_cell T8.out 0).trans rfl; have x1 := (blk_cell T8.out 1).trans rfl
  have fx0 := blk_frozen T8.out 0; have fx1 := blk_frozen T8.out 1
  have n0 := (blk_cell TN.out 0).trans rfl; have n1 := (blk_cell TN.out 1).trans rfl
  have fn0 := blk_frozen TN.out 0; have fn1 := blk_frozen TN.out 1
  go_upto_region 6 with (fail)
  clear x0 x1 fx0 fx1 n0 n1 fn0 fn1
  have P_ := Aside0.mk (put_two (n := w.heap.size) (w := w) (.slice p1a P1.length p1c) (.slice p2a P2.length p2c) T8.out B.out (LT8.out))
  have Y_ := Aside0.mk (two_far (.slice p1a P1.length p1c) (.slice p2a P2.length p2c) Y.out T8.out (by decide))
  have Z_ := Aside0.mk (two_far (.slice p1a P1.length p1c) (.slice p2a P2.length p2c) Z.out T8.out (by decide))
  have T7_ := Aside0.mk (two_far' (.slice p1a P1.length p1c) (.slice p2a P2.length p2c) T7.out (Nat.ne_of_lt NT7T8.out))
  have TN_ := Aside0.mk (two_far' (.slice p1a P1.length p1c) (.slice p2a P2.length p2c) TN.out (hne))
  have RH_ := Aside0.mk (R_two (.slice p1a P1.length p1c) (.slice p2a P2.length p2c) RH.out T8.out (by decide))
  have RW_ := Aside0.mk (R_two (.slice p1a P1.length p1c) (.slice p2a P2.length p2c) RW.out T8.out (by decide))
  have Rx1_ := Aside0.mk (R_two (.slice p1a P1.length p1c) (.slice p2a P2.length p2c) Rx1.out T8.out (by decide))
  have Rx2_ := Aside0.mk (R_two (.slice p1a P1.length p1c) (.slice p2a P2.length p2c) Rx2.out T8.out (by decide))
  have Rp1_ := Aside0.mk (R_two (.slice p1a P1.length p1c) (.slice p2a P2.length p2c) Rp1.out T8.out (by decide))
  have Rp2_ := Aside0.mk (R_two (.slice p1a P1.length p1c) (.slice p2a P2.length p2c) Rp2.out T8.out (by decide))
  have B_ := Aside0.mk P_.out.2
  have T8_ := Aside0.mk P_.out.1
  clear P_ B Y Z T7 T8 TN RH RW Rx1 Rx2 Rp1 Rp2
  generalize ((w7.alloc (.cells #[.slice none 0 0, .slice none 0 0] 33)).setCell ⟨b8, 0, none⟩ (.slice p1a P1.length p1c)).setCell ⟨b8, 1, none⟩ (.slice p2a P2.length p2c) = w8p at B_ Y_ Z_ T7_ T8_ TN_ RH_ RW_ Rx1_ Rx2_ Rp1_ Rp2_ ⊢
  have B := B_
  have Y := Y_
  have Z := Z_
  have T7 := T7_
  have T8 := T8_
  have TN := TN_
  have RH := RH_
  have RW := RW_
  have Rx1 := Rx1_
  have Rx2 := Rx2_
  have Rp1 := Rp1_
  have Rp2 := Rp2_
  clear B_ Y_ Z_ T7_ T8_ TN_ RH_ RW_ Rx1_ Rx2_ Rp1_ Rp2_
  have P_ := Aside0.mk (put_two (n := w.heap.size) (w := w) (.slice ga 0 gc) (.slice na 0 nc) TN.out B.out (LTN.out))
  have Y_ := Aside0.mk (two_far (.slice ga 0 gc) (.slice na 0 nc) Y.out TN.out (by decide))
  have Z_ := Aside0.mk (two_far (.slice ga 0 gc) (.slice na 0 nc) Z.out TN.out (by decide))
  have T7_ := Aside0.mk (two_far (.slice ga 0 gc) (.slice na 0 nc) T7.out TN.out (by decide))
  have T8_ := Aside0.mk (two_far (.slice ga 0 gc) (.slice na 0 nc) T8.out TN.out (by decide))
  have RH_ := Aside0.mk (R_two (.slice ga 0 gc) (.slice na 0 nc) RH.out TN.out (by decide))
  have RW_ := Aside0.mk (R_two (.slice ga 0 gc) (.slice na 0 nc) RW.out TN.out (by decide))
  have Rx1_ := Aside0.mk (R_two (.slice ga 0 gc) (.slice na 0 nc) Rx1.out TN.out (by decide))
  have Rx2_ := Aside0.mk (R_two (.slice ga 0 gc) (.slice na 0 nc) Rx2.out TN.out (by decide))
  have Rp1_ := Aside0.mk (R_two (.slice ga 0 gc) (.slice na 0 nc) Rp1.out TN.out (by decide))
  have Rp2_ := Aside0.mk (R_two (.slice ga 0 gc) (.slice na 0 nc) Rp2.out TN.out (by decide))
  have B_ := Aside0.mk P_.out.2
  have TN_ := Aside0.mk P_.out.1
  clear P_ B Y Z T7 T8 TN RH RW Rx1 Rx2 Rp1 Rp2
  generalize ((w8p).setCell ⟨w7.heap.size, 0, none⟩ (.slice ga 0 gc)).setCell ⟨w7.heap.size, 1, none⟩ (.slice na 0 nc) = w8 at B_ Y_ Z_ T7_ T8_ TN_ RH_ RW_ Rx1_ Rx2_ Rp1_ Rp2_ ⊢
  have B := B_
  have Y := Y_
  have Z := Z_
  have T7 := T7_
  have T8 := T8_
  have TN := TN_
  have RH := RH_
  have RW := RW_
  have Rx1 := Rx1_
  have Rx2 := Rx2_
  have Rp1 := Rp1_
  have Rp2 := Rp2_
  clear B_ Y_ Z_ T7_ T8_ TN_ RH_ RW_ Rx1_ Rx2_ Rp1_ Rp2_
  clear TN LTN hne hne'
  clear Rx1 Rx2
  have y0 := (blk_cell Z.out 0).trans rfl; have y1 := (blk_cell Z.out 1).trans rfl; have y2 := (blk_cell Z.out 2).trans rfl; have y3 := (blk_cell Z.out 3).trans rfl; have y4 := (blk_cell Z.out 4).trans rfl
  have x0 := (blk_cell T7.out 0).trans rfl; have x1 := (blk_cell T7.out 1).trans rfl
  go_upto_region 7 with (fail)
  refine (doneT_calls w.heap.size A1 A2 c1 c2 _ _ (tryA b) _ RH.out RW.out B.out.size (show H.length + Q.length ≤ 1000 from by have := HPS.out; omega) (show (0 : Int) ≤ 0 from Int.le_refl 0) (show (0 : Int) ≤ 255 by decide)).mono ?_
  rintro e wa ⟨vH, vW, vG, vN, rfl, hvH, hvW, hvG, hvN, hb⟩
  rw [HY.out] at hvH hvW
  rw [news_try] at hvG hvN
  dsimp only at hvH hvW hvG hvN
  rw [← HI2.out]
  obtain ⟨y1a, y1c, rfl⟩ := Kd.R_slice hvH
  obtain ⟨y2a, y2c, rfl⟩ := Kd.R_slice hvW
  obtain ⟨ga, gc, rfl⟩ := Kd.R_slice hvG
  obtain ⟨na, nc, rfl⟩ := Kd.R_slice hvN
  have Y := Aside0.mk (blk_below Y.out hb)
  have Z := Aside0.mk (blk_below Z.out hb)
  have T7 := Aside0.mk (blk_below T7.out hb)
  have T8 := Aside0.mk (blk_below T8.out hb)
  have RH := Aside0.mk (Kd.R_below RH.out hb)
  have RW := Aside0.mk (Kd.R_below RW.out hb)
  have Rp1 := Aside0.mk (Kd.R_below Rp1.out hb)
  have Rp2 := Aside0.mk (Kd.R_below Rp2.out hb)
  have B := Aside0.mk (below_step B.out hb)
  have Ry1 := Aside0.mk hvH
  have Ry2 := Aside0.mk hvW
  clear hb hvH hvW hvG hvN x0 x1 y0 y1 y2 y3 y4
  go_upto_region 7 with (fail)
  have LT13 := Aside0.mk (show w.heap.size ≤ wa.heap.size from B.out.size)
  have NT7T13 := Aside0.mk (show _ < wa.heap.size from blk_lt T7.out)
  have NT8T13 := Aside0.mk (show _ < wa.heap.size from blk_lt T8.out)
  have hb_ := below_alloc (below_alloc (Below.refl _ wa) (.cells #[.slice y1a Y1.length y1c, .slice y2a Y2.length y2c] 29)) (.cells #[.slice ga 0 gc, .slice na 0 nc] 33)
  have hG0_ := blk_alloc (blk_lit0 wa (.cells #[.slice y1a Y1.length y1c, .slice y2a Y2.length y2c] 29)) (.cells #[.slice ga 0 gc, .slice na 0 nc] 33)
  have hG1_ := blk_lit wa (.cells #[.slice y1a Y1.length y1c, .slice y2a Y2.length y2c] 29) (.cells #[.slice ga 0 gc, .slice na 0 nc] 33)
  generalize ((wa.alloc (.cells #[.slice y1a Y1.length y1c, .slice y2a Y2.length y2c] 29)).alloc (.cells #[.slice ga 0 gc, .slice na 0 nc] 33)) = wb at hb_ hG0_ hG1_ ⊢
  have HB_wb := Aside0.mk hb_
  have wb0 := Aside0.mk hG0_
  have wb1 := Aside0.mk hG1_
  clear hb_ hG0_ hG1_
  have Y := Aside0.mk (blk_below Y.out HB_wb.out)
  have Z := Aside0.mk (blk_below Z.out HB_wb.out)
  have T7 := Aside0.mk (blk_below T7.out HB_wb.out)
  have T8 := Aside0.mk (blk_below T8.out HB_wb.out)
  have RH := Aside0.mk (Kd.R_below RH.out HB_wb.out)
  have RW := Aside0.mk (Kd.R_below RW.out HB_wb.out)
  have Rp1 := Aside0.mk (Kd.R_below Rp1.out HB_wb.out)
  have Rp2 := Aside0.mk (Kd.R_below Rp2.out HB_wb.out)
  have Ry1 := Aside0.mk (Kd.R_below Ry1.out HB_wb.out)
  have Ry2 := Aside0.mk (Kd.R_below Ry2.out HB_wb.out)
  have B := Aside0.mk (below_step B.out HB_wb.out)
  clear HB_wb
  have T13 := wb0
  clear wb0
  have TJ := wb1
  clear wb1
  generalize wa.heap.size = b13 at T13 TJ LT13 NT7T13 NT8T13 ⊢
  clear TJ
  have y0 := (blk_cell Y.out 0).trans rfl; have y1 := (blk_cell Y.out 1).trans rfl; have y2 := (blk_cell Y.out 2).trans rfl; have y3 := (blk_cell Y.out 3).trans rfl; have y4 := (blk_cell Y.out 4).trans rfl
  have x0 := (blk_cell T13.out 0).trans rfl; have x1 := (blk_cell T13.out 1).trans rfl
  go_upto_region 8 with (fail)
  refine (doneT_calls w.heap.size y1a y2a y1c y2c _ _ (tryA a) _ Ry1.out Ry2.out B.out.size (show Y1.length + Y2.length ≤ 1000 from Nat.le_trans HIY.out.len (by decide)) (show (0 : Int) ≤ 0 from Int.le_refl 0) (show (0 : Int) ≤ 255 by decide)).mono ?_
  rintro e wc ⟨vH, vW, vG, vN, rfl, hvH, hvW, hvG, hvN, hb⟩
  rw [HY2.out] at hvH hvW
  rw [news_try] at hvG hvN
  dsimp only at hvH hvW hvG hvN
  rw [← HI1.out]
  obtain ⟨q1a, q1c, rfl⟩ := Kd.R_slice hvH
  obtain ⟨q2a, q2c, rfl⟩ := Kd.R_slice hvW
  obtain ⟨ga, gc, rfl⟩ := Kd.R_slice hvG
  obtain ⟨na, nc, rfl⟩ := Kd.R_slice hvN
  have Y := Aside0.mk (blk_below Y.out hb)
  have Z := Aside0.mk (blk_below Z.out hb)
  have T7 := Aside0.mk (blk_below T7.out hb)
  have T8 := Aside0.mk (blk_below T8.out hb)
  have T13 := Aside0.mk (blk_below T13.out hb)
  have RH := Aside0.mk (Kd.R_below RH.out hb)
  have RW := Aside0.mk (Kd.R_below RW.out hb)
  have Rp1 := Aside0.mk (Kd.R_below Rp1.out hb)
  have Rp2 := Aside0.mk (Kd.R_below Rp2.out hb)
  have Ry1 := Aside0.mk (Kd.R_below Ry1.out hb)
  have Ry2 := Aside0.mk (Kd.R_below Ry2.out hb)
  have B := Aside0.mk (below_step B.out hb)
  have Rq1 := Aside0.mk hvH
  have Rq2 := Aside0.mk hvW
  clear hb hvH hvW hvG hvN x0 x1 y0 y1 y2 y3 y4
  have hbx := below_alloc (Below.refl _ wc) (.cells #[.slice none 0 0, .slice none 0 0] 33)
  have TN := Aside0.mk (blk_new wc (.cells #[.slice none 0 0, .slice none 0 0] 33))
  have LTN := Aside0.mk (show w.heap.size ≤ wc.heap.size from B.out.size)
  have hne : wc.heap.size ≠ b13 := (Nat.ne_of_lt (blk_lt T13.out)).symm
  have hne' : b13 ≠ wc.heap.size := Nat.ne_of_lt (blk_lt T13.out)
  have Y := Aside0.mk (blk_below Y.out hbx)
  have Z := Aside0.mk (blk_below Z.out hbx)
  have T7 := Aside0.mk (blk_below T7.out hbx)
  have T8 := Aside0.mk (blk_below T8.out hbx)
  have T13 := Aside0.mk (blk_below T13.out hbx)
  have RH := Aside0.mk (Kd.R_below RH.out hbx)
  have RW := Aside0.mk (Kd.R_below RW.out hbx)
  have Rp1 := Aside0.mk (Kd.R_below Rp1.out hbx)
  have Rp2 := Aside0.mk (Kd.R_below Rp2.out hbx)
  have Ry1 := Aside0.mk (Kd.R_below Ry1.out hbx)
  have Ry2 := Aside0.mk (Kd.R_below Ry2.out hbx)
  have Rq1 := Aside0.mk (Kd.R_below Rq1.out hbx)
  have Rq2 := Aside0.mk (Kd.R_below Rq2.out hbx)
  have B := Aside0.mk (below_step B.out hbx)
  clear hbx
  have x0 := (blk_cell T13.out 0).trans rfl; have x1 := (blk_cell T13.out 1).trans rfl
  have fx0 := blk_frozen T13.out 0; have fx1 := blk_frozen T13.out 1
  have n0 := (blk_cell TN.out 0).trans rfl; have n1 := (blk_cell TN.out 1).trans rfl
  have fn0 := blk_frozen TN.out 0; have fn1 := blk_frozen TN.out 1
  go_upto_region 8 with (fail)
  clear x0 x1 fx0 fx1 n0 n1 fn0 fn1
  have P_ := Aside0.mk (put_two (n := w.heap.size) (w := w) (.slice q1a Q1.length q1c) (.slice q2a Q2.length q2c) T13.out B.out (LT13.out))
  have Y_ := Aside0.mk (two_far (.slice q1a Q1.length q1c) (.slice q2a Q2.length q2c) Y.out T13.out (by decide))
  have Z_ := Aside0.mk (two_far (.slice q1a Q1.length q1c) (.slice q2a Q2.length q2c) Z.out T13.out (by decide))
  have T7_ := Aside0.mk (two_far' (.slice q1a Q1.length q1c) (.slice q2a Q2.length q2c) T7.out (Nat.ne_of_lt NT7T13.out))
  have T8_ := Aside0.mk (two_far' (.slice q1a Q1.length q1c) (.slice q2a Q2.length q2c) T8.out (Nat.ne_of_lt NT8T13.out))
  have TN_ := Aside0.mk (two_far' (.slice q1a Q1.length q1c) (.slice q2a Q2.length q2c) TN.out (hne))
  have RH_ := Aside0.mk (R_two (.slice q1a Q1.length q1c) (.slice q2a Q2.length q2c) RH.out T13.out (by decide))
  have RW_ := Aside0.mk (R_two (.slice q1a Q1.length q1c) (.slice q2a Q2.length q2c) RW.out T13.out (by decide))
  have Rp1_ := Aside0.mk (R_two (.slice q1a Q1.length q1c) (.slice q2a Q2.length q2c) Rp1.out T13.out (by decide))
  have Rp2_ := Aside0.mk (R_two (.slice q1a Q1.length q1c) (.slice q2a Q2.length q2c) Rp2.out T13.out (by decide))
  have Ry1_ := Aside0.mk (R_two (.slice q1a Q1.length q1c) (.slice q2a Q2.length q2c) Ry1.out T13.out (by decide))
  have Ry2_ := Aside0.mk (R_two (.slice q1a Q1.length q1c) (.slice q2a Q2.length q2c) Ry2.out T13.out (by decide))
  have Rq1_ := Aside0.mk (R_two (.slice q1a Q1.length q1c) (.slice q2a Q2.length q2c) Rq1.out T13.out (by decide))
  have Rq2_ := Aside0.mk (R_two (.slice q1a Q1.length q1c) (.slice q2a Q2.length q2c) Rq2.out T13.out (by decide))
  have B_ := Aside0.mk P_.out.2
  have T13_ := Aside0.mk P_.out.1
  clear P_ B Y Z T7 T8 T13 TN RH RW Rp1 Rp2 Ry1 Ry2 Rq1 Rq2
  generalize ((wc.alloc (.cells #[.slice none 0 0, .slice none 0 0] 33)).setCell ⟨b13, 0, none⟩ (.slice q1a Q1.length q1c)).setCell ⟨b13, 1, none⟩ (.slice q2a Q2.length q2c) = wdp at B_ Y_ Z_ T7_ T8_ T13_ TN_ RH_ RW_ Rp1_ Rp2_ Ry1_ Ry2_ Rq1_ Rq2_ ⊢
  have B := B_
  have Y := Y_
  have Z := Z_
  have T7 := T7_
  have T8 := T8_
  have T13 := T13_
  have TN := TN_
  have RH := RH_
  have RW := RW_
  have Rp1 := Rp1_
  have Rp2 := Rp2_
  have Ry1 := Ry1_
  have Ry2 := Ry2_
  have Rq1 := Rq1_
  have Rq2 := Rq2_
  clear B_ Y_ Z_ T7_ T8_ T13_ TN_ RH_ RW_ Rp1_ Rp2_ Ry1_ Ry2_ Rq1_ Rq2_
  have P_ := Aside0.mk (put_two (n := w.heap.size) (w := w) (.slice ga 0 gc) (.slice na 0 nc) TN.out B.out (LTN.out))
  have Y_ := Aside0.mk (two_far (.slice ga 0 gc) (.slice na 0 nc) Y.out TN.out (by decide))
  have Z_ := Aside0.mk (two_far (.slice ga 0 gc) (.slice na 0 nc) Z.out TN.out (by decide))
  have T7_ := Aside0.mk (two_far (.slice ga 0 gc) (.slice na 0 nc) T7.out TN.out (by decide))
  have T8_ := Aside0.mk (two_far (.slice ga 0 gc) (.slice na 0 nc) T8.out TN.out (by decide))
  have T13_ := Aside0.mk (two_far (.slice ga 0 gc) (.slice na 0 nc) T13.out TN.out (by decide))
  have RH_ := Aside0.mk (R_two (.slice ga 0 gc) (.slice na 0 nc) RH.out TN.out (by decide))
  have RW_ := Aside0.mk (R_two (.slice ga 0 gc) (.slice na 0 nc) RW.out TN.out (by decide))
  have Rp1_ := Aside0.mk (R_two (.slice ga 0 gc) (.slice na 0 nc) Rp1.out TN.out (by decide))
  have Rp2_ := Aside0.mk (R_two (.slice ga 0 gc) (.slice na 0 nc) Rp2.out TN.out (by decide))
  have Ry1_ := Aside0.mk (R_two (.slice ga 0 gc) (.slice na 0 nc) Ry1.out TN.out (by decide))
  have Ry2_ := Aside0.mk (R_two (.slice ga 0 gc) (.slice na 0 nc) Ry2.out TN.out (by decide))
  have Rq1_ := Aside0.mk (R_two (.slice ga 0 gc) (.slice na 0 nc) Rq1.out TN.out (by decide))
  have Rq2_ := Aside0.mk (R_two (.slice ga 0 gc) (.slice na 0 nc) Rq2.out TN.out (by decide))
  have B_ := Aside0.mk P_.out.2
  have TN_ := Aside0.mk P_.out.1
  clear P_ B Y Z T7 T8 T13 TN RH RW Rp1 Rp2 Ry1 Ry2 Rq1 Rq2
  generalize ((wdp).setCell ⟨wc.heap.size, 0, none⟩ (.slice ga 0 gc)).setCell ⟨wc.heap.size, 1, none⟩ (.slice na 0 nc) = wd at B_ Y_ Z_ T7_ T8_ T13_ TN_ RH_ RW_ Rp1_ Rp2_ Ry1_ Ry2_ Rq1_ Rq2_ ⊢
  have B := B_
  have Y := Y_
  have Z := Z_
  have T7 := T7_
  have T8 := T8_
  have T13 := T13_
  have TN := TN_
  have RH := RH_
  have RW := RW_
  have Rp1 := Rp1_
  have Rp2 := Rp2_
  have Ry1 := Ry1_
  have Ry2 := Ry2_
  have Rq1 := Rq1_
  have Rq2 := Rq2_
  clear B_ Y_ Z_ T7_ T8_ T13_ TN_ RH_ RW_ Rp1_ Rp2_ Ry1_ Ry2_ Rq1_ Rq2_
  clear TN LTN hne hne'
  clear RH RW Ry1 Ry2 T7 Y Z
  have hp_ := HI3.out
  have hq_ := HI4.out
  rw [HX2.out, HY2.out] at hp_ hq_
  have HPM := Aside0.mk (show P1.Perm Q1 from hp_)
  have HQE := Aside0.mk (show P2 = Q2 from hq_)
  clear hp_ hq_
  have hl8 : ((P1.length : Int) != (Q1.length : Int)) = false := by rw [HPM.out.length_eq]; simp
  have hl9 : ((P2.length : Int) != (Q2.length : Int)) = false := by rw [HQE.out]; simp
  have hk1 : (k1 != k1) = false := by simp
  have hk2 : (k2 != k2) = false := by simp
  have x0 := (blk_cell T8.out 0).trans rfl; have x1 := (blk_cell T8.out 1).trans rfl
  have p0 := (blk_cell T13.out 0).trans rfl; have p1 := (blk_cell T13.out 1).trans rfl
  go_wp2
  have HP1 := Aside0.mk (Kd.R_reads' Rp1.out).2.2
  have HQ1 := Aside0.mk (Kd.R_reads' Rq1.out).2.2
  have hc1 := (Kd.R_reads' Rp1.out).2.1
  have hc2 := (Kd.R_reads' Rq1.out).2.1
  have hpq : P1.length = Q1.length := HPM.out.length_eq
  have hpl : P1.length ≤ 1000 := by have := HIX2.out.len; have h9 : P1.length + P2.length ≤ 400 := this; omega
  clear Rp1 Rp2 Rq1 Rq2 x0 x1 p0 p1 hk1 hk2 hl8 hl9
  go_loopg [18] P1.length (fun kq v18 w' => ∃ i : Nat, v18 = .int .i64 i ∧ Aside0 (kq + i = P1.length) ∧ Aside0 (Below wd.heap.size wd w'))
  case atStart => exact ⟨0, rfl, ⟨rfl⟩, ⟨Below.refl _ _⟩⟩
  case round =>
    obtain ⟨i, rfl, HI, HB⟩ := hrel
    have U8 := Aside0.mk (blk_below T8.out HB.out)
    have U13 := Aside0.mk (blk_below T13.out HB.out)
    have x0 := (blk_cell U8.out 0).trans rfl; have x1 := (blk_cell U8.out 1).trans rfl
    have p0 := (blk_cell U13.out 0).trans rfl; have p1 := (blk_cell U13.out 1).trans rfl
    by_cases hlt : i < P1.length
    · have h1 : decide (i < P1.length) = true := by simpa using hlt
      have h1' : decide ((i : Int) < (P1.length : Int)) = true := by simpa using hlt
      go_upto_region 15 with (fail)
      clear x0 x1 p0 p1 h1 h1' U8 U13
      go_loopg [19, 20] P1.length (fun kq v19 v20 w' => ∃ k : Nat, v20 = .int .i64 k ∧ v19 = .int .i64 (dif P1 Q1 (rd_T24 P1 (i : Int)) k) ∧ Aside0 (kq + k = P1.length) ∧ Aside0 (Below wd.heap.size wd w'))
      case atStart => exact ⟨0, rfl, by rw [dif_zero], ⟨rfl⟩, HB⟩
      case round =>
        obtain ⟨k, rfl, rfl, HK, HB⟩ := hrel
        have U8 := Aside0.mk (blk_below T8.out HB.out)
        have U13 := Aside0.mk (blk_below T13.out HB.out)
        have x0 := (blk_cell U8.out 0).trans rfl; have x1 := (blk_cell U8.out 1).trans rfl
        have p0 := (blk_cell U13.out 0).trans rfl; have p1 := (blk_cell U13.out 1).trans rfl
        by_cases hkt : k < P1.length
        · have h2 : decide (k < P1.length) = true := by simpa using hkt
          have h2' : decide ((k : Int) < (P1.length : Int)) = true := by simpa using hkt
          have hkq : k < Q1.length := by omega
          have HD := Aside0.mk (dif_succ (x := rd_T24 P1 (i : Int)) hkt hkq)
          obtain ⟨hd1, hd2⟩ := dif_bound P1 Q1 (rd_T24 P1 (i : Int)) k
          obtain ⟨ad, had, a0, a1, a2, a3, a4⟩ := at_T24 (Kd.C_below HP1.out HB.out) (i : Int) (by omega) (by omega)
          cases had
          obtain ⟨ad2, had2, b0, b1, b2, b3, b4⟩ := at_T24 (Kd.C_below HP1.out HB.out) (k : Int) (by omega) (by omega)
          cases had2
          obtain ⟨ae, hae, e0, e1, e2, e3, e4⟩ := at_T24 (Kd.C_below HQ1.out HB.out) (k : Int) (by omega) (by omega)
          cases hae
          simp only [Int.toNat_natCast] at a0 a1 a2 a3 a4 b0 b1 b2 b3 b4 e0 e1 e2 e3 e4
          generalize hdn : dif P1 Q1 (rd_T24 P1 (i : Int)) (k + 1) = dn at HD
          generalize dif P1 Q1 (rd_T24 P1 (i : Int)) k = d at HD hd1 hd2 ⊢
          have HDN := Aside0.mk hdn
          clear hdn
          generalize rd_T24 P1 (i : Int) = xi at HD a0 a1 a2 a3 a4 ⊢
          generalize rd_T24 P1 (k : Int) = uk at HD b0 b1 b2 b3 b4
          generalize rd_T24 Q1 (k : Int) = vk at HD e0 e1 e2 e3 e4
          have hd3 : -1000 ≤ d := by omega
          have hkc : k < p1c := by omega
          have hkc' : k < q1c := by omega
          have hic : i < p1c := by omega
          have hkc2 : k ≤ p1c := by omega
          have hkc2' : k ≤ q1c := by omega
          have hic2 : i ≤ p1c := by omega
          have h3' : decide ((k : Int) < (Q1.length : Int)) = true := by simpa using hkq
          have hd4 : d ≤ 1000 := by omega
          clear hd1 hd2
          cases hq : eqL uk xi with
          | false =>
            cases hr : eqL vk xi with
            | false =>
              have hde : dn = d := by
                have := HD.out
                rw [hq, hr] at this
                simp at this
                omega
              have HDE := Aside0.mk hde
              clear hde
              unfold eqL at hq hr
              go_upto_region 17 with (fail)
              go_quiet (fail)
              have hbq := pw_below_drewN (Below.refl wr.heap.size wr) nq
              replace a0 := (hbq.cell (World.block_lt_of_cell? wr _ a0)).trans a0; replace a1 := (hbq.cell (World.block_lt_of_cell? wr _ a1)).trans a1; replace a2 := (hbq.cell (World.block_lt_of_cell? wr _ a2)).trans a2; replace a3 := (hbq.cell (World.block_lt_of_cell? wr _ a3)).trans a3; replace a4 := (hbq.cell (World.block_lt_of_cell? wr _ a4)).trans a4
              replace e0 := (hbq.cell (World.block_lt_of_cell? wr _ e0)).trans e0; replace e1 := (hbq.cell (World.block_lt_of_cell? wr _ e1)).trans e1; replace e2 := (hbq.cell (World.block_lt_of_cell? wr _ e2)).trans e2; replace e3 := (hbq.cell (World.block_lt_of_cell? wr _ e3)).trans e3; replace e4 := (hbq.cell (World.block_lt_of_cell? wr _ e4)).trans e4
              have U8 := Aside0.mk (blk_below U8.out hbq)
              have U13 := Aside0.mk (blk_below U13.out hbq)
              have HB := Aside0.mk (below_step HB.out hbq)
              clear hbq b0 b1 b2 b3 b4 x0 x1 p0 p1
              generalize wr.drewN nq = ws at HB U8 U13 a0 a1 a2 a3 a4 e0 e1 e2 e3 e4 ⊢
              have x0 := (blk_cell U8.out 0).trans rfl; have x1 := (blk_cell U8.out 1).trans rfl
              have p0 := (blk_cell U13.out 0).trans rfl; have p1 := (blk_cell U13.out 1).trans rfl
              go_upto_region 19 with (fail)
              go_quiet (fail)
              have HB := Aside0.mk (below_step HB.out (pw_below_drewN (Below.refl ws.heap.size ws) nq))
              generalize ws.drewN nq = wt at HB ⊢
              clear a0 a1 a2 a3 a4 e0 e1 e2 e3 e4 x0 x1 p0 p1
              go_wp2
              go_roundg (P1.length - (k + 1))
              case measure => have := HK.out; omega
              case rel => exact ⟨k + 1, by go_num, by rw [HDN.out, HDE.out], ⟨by omega⟩, HB⟩
            | true =>
              have hde : dn = d - 1 := by
                have := HD.out
                rw [hq, hr] at this
                simp at this
                omega
              have HDE := Aside0.mk hde
              clear hde
              unfold eqL at hq hr
              go_upto_region 17 with (fail)
              go_quiet (fail)
              have hbq := pw_below_drewN (Below.refl wr.heap.size wr) nq
              replace a0 := (hbq.cell (World.block_lt_of_cell? wr _ a0)).trans a0; replace a1 := (hbq.cell (World.block_lt_of_cell? wr _ a1)).trans a1; replace a2 := (hbq.cell (World.block_lt_of_cell? wr _ a2)).trans a2; replace a3 := (hbq.cell (World.block_lt_of_cell? wr _ a3)).trans a3; replace a4 := (hbq.cell (World.block_lt_of_cell? wr _ a4)).trans a4
              replace e0 := (hbq.cell (World.block_lt_of_cell? wr _ e0)).trans e0; replace e1 := (hbq.cell (World.block_lt_of_cell? wr _ e1)).trans e1; replace e2 := (hbq.cell (World.block_lt_of_cell? wr _ e2)).trans e2; replace e3 := (hbq.cell (World.block_lt_of_cell? wr _ e3)).trans e3; replace e4 := (hbq.cell (World.block_lt_of_cell? wr _ e4)).trans e4
              have U8 := Aside0.mk (blk_below U8.out hbq)
              have U13 := Aside0.mk (blk_below U13.out hbq)
              have HB := Aside0.mk (below_step HB.out hbq)
              clear hbq b0 b1 b2 b3 b4 x0 x1 p0 p1
              generalize wr.drewN nq = ws at HB U8 U13 a0 a1 a2 a3 a4 e0 e1 e2 e3 e4 ⊢
              have x0 := (blk_cell U8.out 0).trans rfl; have x1 := (blk_cell U8.out 1).trans rfl
              have p0 := (blk_cell U13.out 0).trans rfl; have p1 := (blk_cell U13.out 1).trans rfl
              go_upto_region 19 with (fail)
              go_quiet (fail)
              have HB := Aside0.mk (below_step HB.out (pw_below_drewN (Below.refl ws.heap.size ws) nq))
              generalize ws.drewN nq = wt at HB ⊢
              clear a0 a1 a2 a3 a4 e0 e1 e2 e3 e4 x0 x1 p0 p1
              go_wp2
              go_roundg (P1.length - (k + 1))
              case measure => have := HK.out; omega
              case rel => exact ⟨k + 1, by go_num, by rw [HDN.out, HDE.out], ⟨by omega⟩, HB⟩
          | true =>
            cases hr : eqL vk xi with
            | false =>
              have hde : dn = d + 1 := by
                have := HD.out
                rw [hq, hr] at this
                simp at this
                omega
              have HDE := Aside0.mk hde
              clear hde
              unfold eqL at hq hr
              go_upto_region 17 with (fail)
              go_quiet (fail)
              have hbq := pw_below_drewN (Below.refl wr.heap.size wr) nq
              replace a0 := (hbq.cell (World.block_lt_of_cell? wr _ a0)).trans a0; replace a1 := (hbq.cell (World.block_lt_of_cell? wr _ a1)).trans a1; replace a2 := (hbq.cell (World.block_lt_of_cell? wr _ a2)).trans a2; replace a3 := (hbq.cell (World.block_lt_of_cell? wr _ a3)).trans a3; replace a4 := (hbq.cell (World.block_lt_of_cell? wr _ a4)).trans a4
              replace e0 := (hbq.cell (World.block_lt_of_cell? wr _ e0)).trans e0; replace e1 := (hbq.cell (World.block_lt_of_cell? wr _ e1)).trans e1; replace e2 := (hbq.cell (World.block_lt_of_cell? wr _ e2)).trans e2; replace e3 := (hbq.cell (World.block_lt_of_cell? wr _ e3)).trans e3; replace e4 := (hbq.cell (World.block_lt_of_cell? wr _ e4)).trans e4
              have U8 := Aside0.mk (blk_below U8.out hbq)
              have U13 := Aside0.mk (blk_below U13.out hbq)
              have HB := Aside0.mk (below_step HB.out hbq)
              clear hbq b0 b1 b2 b3 b4 x0 x1 p0 p1
              generalize wr.drewN nq = ws at HB U8 U13 a0 a1 a2 a3 a4 e0 e1 e2 e3 e4 ⊢
              have x0 := (blk_cell U8.out 0).trans rfl; have x1 := (blk_cell U8.out 1).trans rfl
              have p0 := (blk_cell U13.out 0).trans rfl; have p1 := (blk_cell U13.out 1).trans rfl
              go_upto_region 19 with (fail)
              go_quiet (fail)
              have HB := Aside0.mk (below_step HB.out (pw_below_drewN (Below.refl ws.heap.size ws) nq))
              generalize ws.drewN nq = wt at HB ⊢
              clear a0 a1 a2 a3 a4 e0 e1 e2 e3 e4 x0 x1 p0 p1
              go_wp2
              go_roundg (P1.length - (k + 1))
              case measure => have := HK.out; omega
              case rel => exact ⟨k + 1, by go_num, by rw [HDN.out, HDE.out], ⟨by omega⟩, HB⟩
            | true =>
              have hde : dn = d := by
                have := HD.out
                rw [hq, hr] at this
                simp at this
                omega
              have HDE := Aside0.mk hde
              clear hde
              unfold eqL at hq hr
              go_upto_region 17 with (fail)
              go_quiet (fail)
              have hbq := pw_below_drewN (Below.refl wr.heap.size wr) nq
              replace a0 := (hbq.cell (World.block_lt_of_cell? wr _ a0)).trans a0; replace a1 := (hbq.cell (World.block_lt_of_cell? wr _ a1)).trans a1; replace a2 := (hbq.cell (World.block_lt_of_cell? wr _ a2)).trans a2; replace a3 := (hbq.cell (World.block_lt_of_cell? wr _ a3)).trans a3; replace a4 := (hbq.cell (World.block_lt_of_cell? wr _ a4)).trans a4
              replace e0 := (hbq.cell (World.block_lt_of_cell? wr _ e0)).trans e0; replace e1 := (hbq.cell (World.block_lt_of_cell? wr _ e1)).trans e1; replace e2 := (hbq.cell (World.block_lt_of_cell? wr _ e2)).trans e2; replace e3 := (hbq.cell (World.block_lt_of_cell? wr _ e3)).trans e3; replace e4 := (hbq.cell (World.block_lt_of_cell? wr _ e4)).trans e4
              have U8 := Aside0.mk (blk_below U8.out hbq)
              have U13 := Aside0.mk (blk_below U13.out hbq)
              have HB := Aside0.mk (below_step HB.out hbq)
              clear hbq b0 b1 b2 b3 b4 x0 x1 p0 p1
              generalize wr.drewN nq = ws at HB U8 U13 a0 a1 a2 a3 a4 e0 e1 e2 e3 e4 ⊢
              have x0 := (blk_cell U8.out 0).trans rfl; have x1 := (blk_cell U8.out 1).trans rfl
              have p0 := (blk_cell U13.out 0).trans rfl; have p1 := (blk_cell U13.out 1).trans rfl
              go_upto_region 19 with (fail)
              go_quiet (fail)
              have HB := Aside0.mk (below_step HB.out (pw_below_drewN (Below.refl ws.heap.size ws) nq))
              generalize ws.drewN nq = wt at HB ⊢
              clear a0 a1 a2 a3 a4 e0 e1 e2 e3 e4 x0 x1 p0 p1
              go_wp2
              go_roundg (P1.length - (k + 1))
              case measure => have := HK.out; omega
              case rel => exact ⟨k + 1, by go_num, by rw [HDN.out, HDE.out], ⟨by omega⟩, HB⟩
        · obtain rfl : k = P1.length := by have := HK.out; omega
          have h2 : decide (P1.length < P1.length) = false := by simp
          have h2' : decide ((P1.length : Int) < (P1.length : Int)) = false := by simp
          rw [dif_end _ HPM.out]
          go_wp2
          go_roundg (P1.length - (i + 1))
          case measure => have := HI.out; omega
          case rel => exact ⟨i + 1, by go_num, ⟨by omega⟩, HB⟩
    · have h1 : decide (i < P1.length) = false := by simpa using hlt
      have h1' : decide ((i : Int) < (P1.length : Int)) = false := by simpa using hlt
      have BF := Aside0.mk (below_step B.out HB.out)
      go_wp2_with (fail)
      refine (sane_calls _).mono ?_
      rintro e w9 ⟨rfl, hb9⟩
      have HB9 := Aside0.mk (below_step BF.out hb9)
      clear hb9
      go_wp2
      go_ret
      exact ⟨rfl, HB9.out⟩
end Go.Proofs.Ytifnfnoicinbaaa.M
