/- LockInverse: the walk. -/
import Derived.Test.YtifnfnoicinbaaaE2
import Derived.Test.YtifnfnoicinbaaaE3
import Derived.Test.YtifnfnoicinbaaaN1
namespace Go.Proofs.Ytifnfnoicinbaaa.M
open Go.RowKit Go.Proofs.YtifnfnoicinbaaaW.PrintWords Go.Proofs.YtifnfnoicinbaaaW.PrintLast Go.Proofs.YtifnfnoicinbaaaW.PrintMore
set_option linter.unusedVariables false
set_option linter.unusedSimpArgs false
set_option linter.unnecessarySimpa false

theorem sameTT_calls (A B A' B' : Option Addr) (c d c' d' : Nat) (H W : List S24) (w : World) (h1 : k24.C w A H.length H) (h2 : k24.C w B W.length W) (h3 : k24.C w A' H.length H) (h4 : k24.C w B' W.length W)
    (l1 : H.length ≤ c) (l2 : W.length ≤ d) (l3 : H.length ≤ c') (l4 : W.length ≤ d') (hl : H.length + W.length ≤ 1000) :
    Calls Try.prog 24 #[.agg #[.slice A H.length c, .slice B W.length d], .agg #[.slice A' H.length c', .slice B' W.length d']] w fun e w' => e = .returned (.bool true) ∧ Below w.heap.size w w' := by
  refine (sameT_calls A B A' B' c d c' d' H W H W w h1 h2 h3 h4 l1 l2 l3 l4 hl).mono ?_
  rintro e w' ⟨rfl, hb⟩
  exact ⟨by simp, hb⟩
theorem sameN0_calls (A B : Option Addr) (c d : Nat) (w : World) (h1 : kI.C w A 0 []) (h2 : kI.C w B 0 []) :
    Calls Try.prog 25 #[.agg #[.slice A 0 c, .slice B 0 d], .agg #[.slice none 0 0, .slice none 0 0]] w fun e w' => e = .returned (.bool true) ∧ Below w.heap.size w w' := by
  have hn : kI.C w none 0 [] := (Kd.R_reads' (Kd.R_nil kI 3 w 0 (fun _ => True))).2.2
  refine (sameN_calls A B none none c d 0 0 [] [] [] [] w h1 h2 hn hn (Nat.zero_le _) (Nat.zero_le _) (Nat.zero_le _) (Nat.zero_le _) (by simp)).mono ?_
  rintro e w' ⟨rfl, hb⟩
  exact ⟨by simp, hb⟩
theorem settle_len {H W : List S24} (hs : PL.Single hdL W) : (settleL H W).2.2.1.length + (settleL H W).2.2.2.length ≤ W.length := by
  obtain ⟨H', W', G', N', e, st, _, _⟩ := PL.settle_spec (mt := mtL) (H := H) hs
  rw [show settleL H W = (H', W', G', N') from e]
  obtain ⟨A, B, _, h2, h3, hp⟩ := PL.steps_news st
  have := hp.length_eq
  simp only [List.length_append] at this
  rw [h2, h3]
  simp
  omega
theorem ask_len {H W : List S24} {a : S24} (hI : H.length + W.length ≤ 1000) : (askF H W a).1.2.2.1.length + (askF H W a).1.2.2.2.length ≤ 1001 := by
  unfold askF
  by_cases hz : reqE H W a = 0
  · rw [if_pos hz]
    have := settle_len (H := H) (req_good hz).single
    have h2 : (W ++ [a]).length = W.length + 1 := by simp
    show (settleL H (W ++ [a])).2.2.1.length + (settleL H (W ++ [a])).2.2.2.length ≤ 1001
    omega
  · rw [if_neg hz]; simp
set_option maxRecDepth 100000 in
set_option maxHeartbeats 8000000 in
theorem inverse_walk (A : Option Addr) (c : Nat) (l : List S37) (a : S24) (w : World) (hc : l.length ≤ c) (hC : k37.C w A l.length l) (hk : ∀ a ∈ l, 0 ≤ a.f0 ∧ a.f0 ≤ 255) :
    Calls Try.prog 11 #[.slice A l.length c, .agg #[.int .i64 a.f0, .int .i64 a.f1, .int .i64 a.f2, .int .i64 a.f3, .bool a.f4]] w fun e w' => e = .returned (.bool true) ∧ Below w.heap.size w w' := by
  have HC := Aside0.mk hC
  have HKD := Aside0.mk hk
  clear hC hk
  go_enter Try.func11, Try.ntmps11
  go_upto_region 1 with (fail)
  have hb_ := below_alloc (Below.refl _ w) (.cells #[.int .i64 a.f0, .int .i64 a.f1, .int .i64 a.f2, .int .i64 a.f3, .bool a.f4] 24)
  have hG0_ := blk_lit0 w (.cells #[.int .i64 a.f0, .int .i64 a.f1, .int .i64 a.f2, .int .i64 a.f3, .bool a.f4] 24)
  generalize (w.alloc (.cells #[.int .i64 a.f0, .int .i64 a.f1, .int .i64 a.f2, .int .i64 a.f3, .bool a.f4] 24)) = W at hb_ hG0_ ⊢
  have HB_W := Aside0.mk hb_
  have W0 := Aside0.mk hG0_
  clear hb_ hG0_
  have y0 := (blk_cell W0.out 0).trans rfl; have y1 := (blk_cell W0.out 1).trans rfl; have y2 := (blk_cell W0.out 2).trans rfl; have y3 := (blk_cell W0.out 3).trans rfl; have y4 := (blk_cell W0.out 4).trans rfl
  by_cases hl : 40 < l.length
  · have h40 : decide ((40 : Int) < (l.length : Int)) = true := by simp; omega
    go_wp2_with (fail)
    refine (sane_calls _).mono ?_
    rintro e w9 ⟨rfl, hb9⟩
    have HB9 := Aside0.mk (below_step HB_W.out hb9)
    clear hb9
    go_wp2
    go_ret
    exact ⟨rfl, HB9.out⟩
  have h40 : decide ((40 : Int) < (l.length : Int)) = false := by simp; omega
  go_wp2_with (fail)
  refine (played_calls A c l _ (Kd.C_below HC.out HB_W.out) HKD.out (by omega)).mono ?_
  rintro e w3 ⟨v, rfl, hv, hb⟩
  obtain ⟨vH, vW, rfl, hvH, hvW⟩ := hv
  obtain ⟨A1, c1, rfl⟩ := Kd.R_slice hvH
  obtain ⟨A2, c2, rfl⟩ := Kd.R_slice hvW
  have RH := Aside0.mk hvH
  have RW := Aside0.mk hvW
  have Y := Aside0.mk (blk_below W0.out hb)
  have B := Aside0.mk (below_step HB_W.out hb)
  have HIN := Aside0.mk (play_inv l)
  have HPL := Aside0.mk (play_len l)
  clear hb hvH hvW y0 y1 y2 y3 y4
  generalize (playF l).1 = H at RH HIN HPL ⊢
  generalize (playF l).2 = Q at RW HIN HPL ⊢
  go_upto_region 4 with (fail)
  have hbx := below_alloc (Below.refl _ w3) (.cells #[.slice A1 H.length c1, .slice A2 Q.length c2] 29)
  have T := Aside0.mk (blk_new w3 (.cells #[.slice A1 H.length c1, .slice A2 Q.length c2] 29))
  have RH := Aside0.mk (Kd.R_below RH.out hbx)
  have RW := Aside0.mk (Kd.R_below RW.out hbx)
  have Y := Aside0.mk (blk_below Y.out hbx)
  have B := Aside0.mk (below_step B.out hbx)
  clear hbx
  generalize w3.alloc (.cells #[.slice A1 H.length c1, .slice A2 Q.length c2] 29) = w4 at T RH RW Y B ⊢
  generalize w3.heap.size = b5 at T ⊢
  have y0 := (blk_cell Y.out 0).trans rfl; have y1 := (blk_cell Y.out 1).trans rfl; have y2 := (blk_cell Y.out 2).trans rfl; have y3 := (blk_cell Y.out 3).trans rfl; have y4 := (blk_cell Y.out 4).trans rfl
  have x0 := (blk_cell T.out 0).trans rfl; have x1 := (blk_cell T.out 1).trans rfl
  go_upto_region 5 with (fail)
  have LH := Aside0.mk (Kd.R_reads' RH.out).2.1
  have LW := Aside0.mk (Kd.R_reads' RW.out).2.1
  refine (tryL_calls A1 A2 c1 c2 _ _ a _ (Kd.R_reads' RH.out).2.2 (Kd.R_reads' RW.out).2.2 HPL.out).mono ?_
  rintro e w5 hp
  obtain ⟨v, rfl, ⟨vH, vW, rfl, hvH, hvW⟩, hb⟩ := hp
  obtain ⟨A3, c3, rfl⟩ := Kd.R_slice hvH
  obtain ⟨A4, c4, rfl⟩ := Kd.R_slice hvW
  have Y := Aside0.mk (blk_below Y.out hb)
  have T := Aside0.mk (blk_below T.out hb)
  have RH := Aside0.mk (Kd.R_below RH.out hb)
  have RW := Aside0.mk (Kd.R_below RW.out hb)
  have B := Aside0.mk (below_step B.out hb)
  have R3 := Aside0.mk hvH
  have R4 := Aside0.mk hvW
  clear hb hvH hvW x0 x1 y0 y1 y2 y3 y4
  have HUT := Aside0.mk (fun h => unlock_try (H := H) (W := Q) (a := a) h)
  generalize (tryF H Q a).2 = F at HUT ⊢
  generalize (tryF H Q a).1 = R at HUT R3 R4 ⊢
  obtain ⟨H3, Q3⟩ := R
  dsimp only at R3 R4
  go_upto_region 5 with (fail)
  have LT6 := Aside0.mk (show w.heap.size ≤ w5.heap.size from B.out.size)
  have NTT6 := Aside0.mk (Nat.ne_of_lt (blk_lt T.out))
  have hbx := below_alloc (Below.refl _ w5) (.cells #[.slice A3 H3.length c3, .slice A4 Q3.length c4] 29)
  have T6 := Aside0.mk (blk_new w5 (.cells #[.slice A3 H3.length c3, .slice A4 Q3.length c4] 29))
  have Y := Aside0.mk (blk_below Y.out hbx)
  have T := Aside0.mk (blk_below T.out hbx)
  have RH := Aside0.mk (Kd.R_below RH.out hbx)
  have RW := Aside0.mk (Kd.R_below RW.out hbx)
  have R3 := Aside0.mk (Kd.R_below R3.out hbx)
  have R4 := Aside0.mk (Kd.R_below R4.out hbx)
  have B := Aside0.mk (below_step B.out hbx)
  clear hbx
  generalize w5.alloc (.cells #[.slice A3 H3.length c3, .slice A4 Q3.length c4] 29) = w6 at B Y T T6 RH RW R3 R4 ⊢
  generalize w5.heap.size = b6 at T6 LT6 NTT6 ⊢
  by_cases hF : F = 0
  · obtain ⟨he, hu⟩ := HUT.out hF
    injection he with he1 he2
    have HUL := Aside0.mk (show unlockF H3 Q3 a = ((H, Q, [], []), 0) by rw [he1, he2]; exact hu)
    have HLN := Aside0.mk (show H3.length + Q3.length ≤ 1000 by rw [he1, he2]; have := HIN.out.len; simp; omega)
    clear he1 he2
    have hF0 : (F == 0) = true := by simpa using hF
    clear hu hF HUT
    have y0 := (blk_cell Y.out 0).trans rfl; have y1 := (blk_cell Y.out 1).trans rfl; have y2 := (blk_cell Y.out 2).trans rfl; have y3 := (blk_cell Y.out 3).trans rfl; have y4 := (blk_cell Y.out 4).trans rfl
    have x0 := (blk_cell T6.out 0).trans rfl; have x1 := (blk_cell T6.out 1).trans rfl
    have C3 := Aside0.mk (Kd.R_reads' R3.out).2.2
    have C4 := Aside0.mk (Kd.R_reads' R4.out).2.2
    go_upto_region 7 with (fail)
    refine (unlock_calls A3 A4 c3 c4 _ _ a _ C3.out C4.out HLN.out).mono ?_
    rintro e w7 hp
    rw [HUL.out] at hp
    obtain ⟨v, u, rfl, ⟨vH, vW, rfl, hvH, hvW⟩, ⟨vG, vN, rfl, hvG, hvN⟩, hb⟩ := hp
    dsimp only at hvH hvW hvG hvN
    obtain ⟨A5, c5, rfl⟩ := Kd.R_slice hvH
    obtain ⟨A6, c6, rfl⟩ := Kd.R_slice hvW
    obtain ⟨A7, c7, rfl⟩ := Kd.R_slice hvG
    obtain ⟨A8, c8, rfl⟩ := Kd.R_slice hvN
    have Y := Aside0.mk (blk_below Y.out hb)
    have T := Aside0.mk (blk_below T.out hb)
    have T6 := Aside0.mk (blk_below T6.out hb)
    have RH := Aside0.mk (Kd.R_below RH.out hb)
    have RW := Aside0.mk (Kd.R_below RW.out hb)
    have R3 := Aside0.mk (Kd.R_below R3.out hb)
    have R4 := Aside0.mk (Kd.R_below R4.out hb)
    have B := Aside0.mk (below_step B.out hb)
    have R5 := Aside0.mk hvH
    have R6 := Aside0.mk hvW
    have R7 := Aside0.mk hvG
    have R8 := Aside0.mk hvN
    clear hb hvH hvW hvG hvN x0 x1 y0 y1 y2 y3 y4
    go_upto_region 7 with (fail)
    have LT8 := Aside0.mk (show w.heap.size ≤ w7.heap.size from B.out.size)
    have hb_ := below_alloc (below_alloc (Below.refl _ w7) (.cells #[.slice A5 H.length c5, .slice A6 Q.length c6] 29)) (.cells #[.slice A7 0 c7, .slice A8 0 c8] 33)
    have hG0_ := blk_alloc (blk_lit0 w7 (.cells #[.slice A5 H.length c5, .slice A6 Q.length c6] 29)) (.cells #[.slice A7 0 c7, .slice A8 0 c8] 33)
    have hG1_ := blk_lit w7 (.cells #[.slice A5 H.length c5, .slice A6 Q.length c6] 29) (.cells #[.slice A7 0 c7, .slice A8 0 c8] 33)
    generalize ((w7.alloc (.cells #[.slice A5 H.length c5, .slice A6 Q.length c6] 29)).alloc (.cells #[.slice A7 0 c7, .slice A8 0 c8] 33)) = wa at hb_ hG0_ hG1_ ⊢
    have HB_wa := Aside0.mk hb_
    have wa0 := Aside0.mk hG0_
    have wa1 := Aside0.mk hG1_
    clear hb_ hG0_ hG1_
    have Y := Aside0.mk (blk_below Y.out HB_wa.out)
    have T := Aside0.mk (blk_below T.out HB_wa.out)
    have T6 := Aside0.mk (blk_below T6.out HB_wa.out)
    have RH := Aside0.mk (Kd.R_below RH.out HB_wa.out)
    have RW := Aside0.mk (Kd.R_below RW.out HB_wa.out)
    have R3 := Aside0.mk (Kd.R_below R3.out HB_wa.out)
    have R4 := Aside0.mk (Kd.R_below R4.out HB_wa.out)
    have R5 := Aside0.mk (Kd.R_below R5.out HB_wa.out)
    have R6 := Aside0.mk (Kd.R_below R6.out HB_wa.out)
    have R7 := Aside0.mk (Kd.R_below R7.out HB_wa.out)
    have R8 := Aside0.mk (Kd.R_below R8.out HB_wa.out)
    have B := Aside0.mk (below_step B.out HB_wa.out)
    clear HB_wa
    have T8 := wa0
    clear wa0
    have T9 := wa1
    clear wa1
    generalize w7.heap.size = b8 at T8 T9 LT8  ⊢
    have x0 := (blk_cell T.out 0).trans rfl; have x1 := (blk_cell T.out 1).trans rfl
    have p0 := (blk_cell T8.out 0).trans rfl; have p1 := (blk_cell T8.out 1).trans rfl
    have q0 := (blk_cell T9.out 0).trans rfl; have q1 := (blk_cell T9.out 1).trans rfl
    go_upto_region 8 with (fail)
    refine (sameTT_calls A5 A6 A1 A2 c5 c6 c1 c2 H Q _ (Kd.R_reads' R5.out).2.2 (Kd.R_reads' R6.out).2.2 (Kd.R_reads' RH.out).2.2 (Kd.R_reads' RW.out).2.2 (Kd.R_reads' R5.out).2.1 (Kd.R_reads' R6.out).2.1 LH.out LW.out HPL.out).mono ?_
    rintro e w11 ⟨rfl, hb⟩
    have Y := Aside0.mk (blk_below Y.out hb)
    have T := Aside0.mk (blk_below T.out hb)
    have T6 := Aside0.mk (blk_below T6.out hb)
    have T8 := Aside0.mk (blk_below T8.out hb)
    have T9 := Aside0.mk (blk_below T9.out hb)
    have RH := Aside0.mk (Kd.R_below RH.out hb)
    have RW := Aside0.mk (Kd.R_below RW.out hb)
    have R3 := Aside0.mk (Kd.R_below R3.out hb)
    have R4 := Aside0.mk (Kd.R_below R4.out hb)
    have R5 := Aside0.mk (Kd.R_below R5.out hb)
    have R6 := Aside0.mk (Kd.R_below R6.out hb)
    have R7 := Aside0.mk (Kd.R_below R7.out hb)
    have R8 := Aside0.mk (Kd.R_below R8.out hb)
    have B := Aside0.mk (below_step B.out hb)
    clear hb x0 x1 p0 p1 q0 q1
    have q0 := (blk_cell T9.out 0).trans rfl; have q1 := (blk_cell T9.out 1).trans rfl
    go_upto_region 8 with (fail)
    refine (sameN0_calls A7 A8 c7 c8 _ (Kd.R_reads' R7.out).2.2 (Kd.R_reads' R8.out).2.2).mono ?_
    rintro e w12 ⟨rfl, hb⟩
    have Y := Aside0.mk (blk_below Y.out hb)
    have T := Aside0.mk (blk_below T.out hb)
    have T6 := Aside0.mk (blk_below T6.out hb)
    have T8 := Aside0.mk (blk_below T8.out hb)
    have T9 := Aside0.mk (blk_below T9.out hb)
    have RH := Aside0.mk (Kd.R_below RH.out hb)
    have RW := Aside0.mk (Kd.R_below RW.out hb)
    have R3 := Aside0.mk (Kd.R_below R3.out hb)
    have R4 := Aside0.mk (Kd.R_below R4.out hb)
    have R5 := Aside0.mk (Kd.R_below R5.out hb)
    have R6 := Aside0.mk (Kd.R_below R6.out hb)
    have R7 := Aside0.mk (Kd.R_below R7.out hb)
    have R8 := Aside0.mk (Kd.R_below R8.out hb)
    have B := Aside0.mk (below_step B.out hb)
    clear hb q0 q1 R5 R6 R7 R8 T8 T9 LT8 C3 C4 HUL
    go_upto_region 9 with (fail)
    have y0 := (blk_cell Y.out 0).trans rfl; have y1 := (blk_cell Y.out 1).trans rfl; have y2 := (blk_cell Y.out 2).trans rfl; have y3 := (blk_cell Y.out 3).trans rfl; have y4 := (blk_cell Y.out 4).trans rfl
    have x0 := (blk_cell T.out 0).trans rfl; have x1 := (blk_cell T.out 1).trans rfl
    go_upto_region 10 with (fail)
    refine (ask_calls A1 A2 c1 c2 _ _ a _ (Kd.R_reads' RH.out).2.2 (Kd.R_reads' RW.out).2.2 HPL.out).mono ?_
    rintro e w13 hp
    obtain ⟨v, u, rfl, ⟨vH, vW, rfl, hvH, hvW⟩, ⟨vG, vN, rfl, hvG, hvN⟩, hb⟩ := hp
    obtain ⟨A5, c5, rfl⟩ := Kd.R_slice hvH
    obtain ⟨A6, c6, rfl⟩ := Kd.R_slice hvW
    obtain ⟨A7, c7, rfl⟩ := Kd.R_slice hvG
    obtain ⟨A8, c8, rfl⟩ := Kd.R_slice hvN
    have Y := Aside0.mk (blk_below Y.out hb)
    have T := Aside0.mk (blk_below T.out hb)
    have T6 := Aside0.mk (blk_below T6.out hb)
    have RH := Aside0.mk (Kd.R_below RH.out hb)
    have RW := Aside0.mk (Kd.R_below RW.out hb)
    have R3 := Aside0.mk (Kd.R_below R3.out hb)
    have R4 := Aside0.mk (Kd.R_below R4.out hb)
    have B := Aside0.mk (below_step B.out hb)
    have R5 := Aside0.mk hvH
    have R6 := Aside0.mk hvW
    have R7 := Aside0.mk hvG
    have R8 := Aside0.mk hvN
    clear hb hvH hvW hvG hvN x0 x1 y0 y1 y2 y3 y4
    have HAL := Aside0.mk (ask_len (H := H) (W := Q) (a := a) HPL.out)
    have HCA := Aside0.mk (fun h => cancel_ask (H := H) (W := Q) (a := a) h)
    generalize (askF H Q a).2 = F5 at HCA ⊢
    generalize (askF H Q a).1 = R at HCA HAL R5 R6 R7 R8 ⊢
    obtain ⟨H5, Q5, G5, N5⟩ := R
    dsimp only at R5 R6 R7 R8 HCA HAL
    have hbx := below_alloc (Below.refl _ w13) (.cells #[.slice none 0 0, .slice none 0 0] 33)
    have TN := Aside0.mk (blk_new w13 (.cells #[.slice none 0 0, .slice none 0 0] 33))
    have LTN := Aside0.mk (show w.heap.size ≤ w13.heap.size from B.out.size)
    have hne : w13.heap.size ≠ b6 := (Nat.ne_of_lt (blk_lt T6.out)).symm
    have hne' : b6 ≠ w13.heap.size := Nat.ne_of_lt (blk_lt T6.out)
    have Y := Aside0.mk (blk_below Y.out hbx)
    have T := Aside0.mk (blk_below T.out hbx)
    have T6 := Aside0.mk (blk_below T6.out hbx)
    have RH := Aside0.mk (Kd.R_below RH.out hbx)
    have RW := Aside0.mk (Kd.R_below RW.out hbx)
    have R3 := Aside0.mk (Kd.R_below R3.out hbx)
    have R4 := Aside0.mk (Kd.R_below R4.out hbx)
    have R5 := Aside0.mk (Kd.R_below R5.out hbx)
    have R6 := Aside0.mk (Kd.R_below R6.out hbx)
    have R7 := Aside0.mk (Kd.R_below R7.out hbx)
    have R8 := Aside0.mk (Kd.R_below R8.out hbx)
    have B := Aside0.mk (below_step B.out hbx)
    clear hbx
    have x0 := (blk_cell T6.out 0).trans rfl; have x1 := (blk_cell T6.out 1).trans rfl
    have fx0 := blk_frozen T6.out 0; have fx1 := blk_frozen T6.out 1
    have n0 := (blk_cell TN.out 0).trans rfl; have n1 := (blk_cell TN.out 1).trans rfl
    have fn0 := blk_frozen TN.out 0; have fn1 := blk_frozen TN.out 1
    go_upto_region 10 with (fail)
    clear x0 x1 fx0 fx1 n0 n1 fn0 fn1
    have P_ := Aside0.mk (put_two (n := w.heap.size) (w := w) (.slice A5 H5.length c5) (.slice A6 Q5.length c6) T6.out B.out (LT6.out))
    have Y_ := Aside0.mk (two_far (.slice A5 H5.length c5) (.slice A6 Q5.length c6) Y.out T6.out (by decide))
    have T_ := Aside0.mk (two_far' (.slice A5 H5.length c5) (.slice A6 Q5.length c6) T.out (NTT6.out))
    have TN_ := Aside0.mk (two_far' (.slice A5 H5.length c5) (.slice A6 Q5.length c6) TN.out (hne))
    have RH_ := Aside0.mk (R_two (.slice A5 H5.length c5) (.slice A6 Q5.length c6) RH.out T6.out (by decide))
    have RW_ := Aside0.mk (R_two (.slice A5 H5.length c5) (.slice A6 Q5.length c6) RW.out T6.out (by decide))
    have R3_ := Aside0.mk (R_two (.slice A5 H5.length c5) (.slice A6 Q5.length c6) R3.out T6.out (by decide))
    have R4_ := Aside0.mk (R_two (.slice A5 H5.length c5) (.slice A6 Q5.length c6) R4.out T6.out (by decide))
    have R5_ := Aside0.mk (R_two (.slice A5 H5.length c5) (.slice A6 Q5.length c6) R5.out T6.out (by decide))
    have R6_ := Aside0.mk (R_two (.slice A5 H5.length c5) (.slice A6 Q5.length c6) R6.out T6.out (by decide))
    have R7_ := Aside0.mk (R_two (.slice A5 H5.length c5) (.slice A6 Q5.length c6) R7.out T6.out (by decide))
    have R8_ := Aside0.mk (R_two (.slice A5 H5.length c5) (.slice A6 Q5.length c6) R8.out T6.out (by decide))
    have B_ := Aside0.mk P_.out.2
    have T6_ := Aside0.mk P_.out.1
    clear P_ B Y T T6 TN RH RW R3 R4 R5 R6 R7 R8
    generalize ((w13.alloc (.cells #[.slice none 0 0, .slice none 0 0] 33)).setCell ⟨b6, 0, none⟩ (.slice A5 H5.length c5)).setCell ⟨b6, 1, none⟩ (.slice A6 Q5.length c6) = w14 at B_ Y_ T_ T6_ TN_ RH_ RW_ R3_ R4_ R5_ R6_ R7_ R8_ ⊢
    have B := B_
    have Y := Y_
    have T := T_
    have T6 := T6_
    have TN := TN_
    have RH := RH_
    have RW := RW_
    have R3 := R3_
    have R4 := R4_
    have R5 := R5_
    have R6 := R6_
    have R7 := R7_
    have R8 := R8_
    clear B_ Y_ T_ T6_ TN_ RH_ RW_ R3_ R4_ R5_ R6_ R7_ R8_
    have P_ := Aside0.mk (put_two (n := w.heap.size) (w := w) (.slice A7 G5.length c7) (.slice A8 N5.length c8) TN.out B.out (LTN.out))
    have Y_ := Aside0.mk (two_far (.slice A7 G5.length c7) (.slice A8 N5.length c8) Y.out TN.out (by decide))
    have T_ := Aside0.mk (two_far (.slice A7 G5.length c7) (.slice A8 N5.length c8) T.out TN.out (by decide))
    have T6_ := Aside0.mk (two_far (.slice A7 G5.length c7) (.slice A8 N5.length c8) T6.out TN.out (by decide))
    have RH_ := Aside0.mk (R_two (.slice A7 G5.length c7) (.slice A8 N5.length c8) RH.out TN.out (by decide))
    have RW_ := Aside0.mk (R_two (.slice A7 G5.length c7) (.slice A8 N5.length c8) RW.out TN.out (by decide))
    have R3_ := Aside0.mk (R_two (.slice A7 G5.length c7) (.slice A8 N5.length c8) R3.out TN.out (by decide))
    have R4_ := Aside0.mk (R_two (.slice A7 G5.length c7) (.slice A8 N5.length c8) R4.out TN.out (by decide))
    have R5_ := Aside0.mk (R_two (.slice A7 G5.length c7) (.slice A8 N5.length c8) R5.out TN.out (by decide))
    have R6_ := Aside0.mk (R_two (.slice A7 G5.length c7) (.slice A8 N5.length c8) R6.out TN.out (by decide))
    have R7_ := Aside0.mk (R_two (.slice A7 G5.length c7) (.slice A8 N5.length c8) R7.out TN.out (by decide))
    have R8_ := Aside0.mk (R_two (.slice A7 G5.length c7) (.slice A8 N5.length c8) R8.out TN.out (by decide))
    have B_ := Aside0.mk P_.out.2
    have TN_ := Aside0.mk P_.out.1
    clear P_ B Y T T6 TN RH RW R3 R4 R5 R6 R7 R8
    generalize ((w14).setCell ⟨w13.heap.size, 0, none⟩ (.slice A7 G5.length c7)).setCell ⟨w13.heap.size, 1, none⟩ (.slice A8 N5.length c8) = w15 at B_ Y_ T_ T6_ TN_ RH_ RW_ R3_ R4_ R5_ R6_ R7_ R8_ ⊢
    have B := B_
    have Y := Y_
    have T := T_
    have T6 := T6_
    have TN := TN_
    have RH := RH_
    have RW := RW_
    have R3 := R3_
    have R4 := R4_
    have R5 := R5_
    have R6 := R6_
    have R7 := R7_
    have R8 := R8_
    clear B_ Y_ T_ T6_ TN_ RH_ RW_ R3_ R4_ R5_ R6_ R7_ R8_
    generalize w13.heap.size = bn at TN LTN hne hne' ⊢
    clear hne hne'
    have n0 := (blk_cell TN.out 0).trans rfl; have n1 := (blk_cell TN.out 1).trans rfl
    by_cases hF5 : F5 = 0
    rotate_left
    · have hf : (F5 != 0) = true := by simpa [bne] using hF5
      clear hF5
      go_wp2_with (fail)
      refine (sane_calls _).mono ?_
      rintro e w9 ⟨rfl, hb9⟩
      have HB9 := Aside0.mk (below_step B.out hb9)
      clear hb9
      go_wp2
      go_ret
      exact ⟨rfl, HB9.out⟩
    have hf : (F5 != 0) = false := by simpa [bne] using hF5
    by_cases hz : G5.length + N5.length = 0
    rotate_left
    · have hz1 : decide (0 < (G5.length : Int) + (N5.length : Int)) = true := by simp; omega
      have hz2 : (G5.length : Int) + (N5.length : Int) ≤ 1001 := by have := HAL.out; omega
      have hz3 : 0 ≤ (G5.length : Int) + (N5.length : Int) := by omega
      clear hF5 hz
      go_wp2_with (fail)
      refine (sane_calls _).mono ?_
      rintro e w9 ⟨rfl, hb9⟩
      have HB9 := Aside0.mk (below_step B.out hb9)
      clear hb9
      go_wp2
      go_ret
      exact ⟨rfl, HB9.out⟩
    obtain ⟨hc1, hc2, hc3⟩ := HCA.out hF5 hz
    have HCC := Aside0.mk (show cancelF H5 Q5 a.f1 = ((H, Q, [], []), 0) by rw [hc1, hc2]; exact hc3)
    have HLC := Aside0.mk (show H5.length + Q5.length ≤ 1000 by rw [hc1, hc2]; have := HIN.out.len; simp; omega)
    obtain rfl : G5 = [] := List.eq_nil_of_length_eq_zero (by omega)
    obtain rfl : N5 = [] := List.eq_nil_of_length_eq_zero (by omega)
    clear hc1 hc2 hc3 hF5 hz HCA HAL
    have x0 := (blk_cell T6.out 0).trans rfl; have x1 := (blk_cell T6.out 1).trans rfl
    have y0 := (blk_cell Y.out 0).trans rfl; have y1 := (blk_cell Y.out 1).trans rfl; have y2 := (blk_cell Y.out 2).trans rfl; have y3 := (blk_cell Y.out 3).trans rfl; have y4 := (blk_cell Y.out 4).trans rfl
    go_upto_region 13 with (fail)
    refine (cancel_calls A5 A6 c5 c6 _ _ a.f1 _ (Kd.R_reads' R5.out).2.2 (Kd.R_reads' R6.out).2.2 HLC.out).mono ?_
    rintro e w16 hp
    rw [HCC.out] at hp
    obtain ⟨v, u, rfl, ⟨vH, vW, rfl, hvH, hvW⟩, ⟨vG, vN, rfl, hvG, hvN⟩, hb⟩ := hp
    dsimp only at hvH hvW hvG hvN
    obtain ⟨A9, c9, rfl⟩ := Kd.R_slice hvH
    obtain ⟨A10, c10, rfl⟩ := Kd.R_slice hvW
    obtain ⟨A11, c11, rfl⟩ := Kd.R_slice hvG
    obtain ⟨A12, c12, rfl⟩ := Kd.R_slice hvN
    have Y := Aside0.mk (blk_below Y.out hb)
    have T := Aside0.mk (blk_below T.out hb)
    have T6 := Aside0.mk (blk_below T6.out hb)
    have TN := Aside0.mk (blk_below TN.out hb)
    have RH := Aside0.mk (Kd.R_below RH.out hb)
    have RW := Aside0.mk (Kd.R_below RW.out hb)
    have R3 := Aside0.mk (Kd.R_below R3.out hb)
    have R4 := Aside0.mk (Kd.R_below R4.out hb)
    have R5 := Aside0.mk (Kd.R_below R5.out hb)
    have R6 := Aside0.mk (Kd.R_below R6.out hb)
    have R7 := Aside0.mk (Kd.R_below R7.out hb)
    have R8 := Aside0.mk (Kd.R_below R8.out hb)
    have B := Aside0.mk (below_step B.out hb)
    have R9 := Aside0.mk hvH
    have R10 := Aside0.mk hvW
    have R11 := Aside0.mk hvG
    have R12 := Aside0.mk hvN
    clear hb hvH hvW hvG hvN x0 x1 y0 y1 y2 y3 y4 n0 n1
    have hbx := below_alloc (Below.refl _ w16) (.cells #[.slice A9 H.length c9, .slice A10 Q.length c10] 29)
    have TC := Aside0.mk (blk_new w16 (.cells #[.slice A9 H.length c9, .slice A10 Q.length c10] 29))
    have hnn := Aside0.mk (Nat.ne_of_lt (blk_lt TN.out)).symm
    have Y := Aside0.mk (blk_below Y.out hbx)
    have T := Aside0.mk (blk_below T.out hbx)
    have T6 := Aside0.mk (blk_below T6.out hbx)
    have TN := Aside0.mk (blk_below TN.out hbx)
    have RH := Aside0.mk (Kd.R_below RH.out hbx)
    have RW := Aside0.mk (Kd.R_below RW.out hbx)
    have R3 := Aside0.mk (Kd.R_below R3.out hbx)
    have R4 := Aside0.mk (Kd.R_below R4.out hbx)
    have R5 := Aside0.mk (Kd.R_below R5.out hbx)
    have R6 := Aside0.mk (Kd.R_below R6.out hbx)
    have R7 := Aside0.mk (Kd.R_below R7.out hbx)
    have R8 := Aside0.mk (Kd.R_below R8.out hbx)
    have R9 := Aside0.mk (Kd.R_below R9.out hbx)
    have R10 := Aside0.mk (Kd.R_below R10.out hbx)
    have R11 := Aside0.mk (Kd.R_below R11.out hbx)
    have R12 := Aside0.mk (Kd.R_below R12.out hbx)
    have B := Aside0.mk (below_step B.out hbx)
    clear hbx
    have n0 := (blk_cell TN.out 0).trans rfl; have n1 := (blk_cell TN.out 1).trans rfl
    have fn0 := blk_frozen TN.out 0; have fn1 := blk_frozen TN.out 1
    go_upto_region 13 with (fail)
    clear n0 n1 fn0 fn1
    have P_ := Aside0.mk (put_two (n := w.heap.size) (w := w) (.slice A11 0 c11) (.slice A12 0 c12) TN.out B.out (LTN.out))
    have Y_ := Aside0.mk (two_far (.slice A11 0 c11) (.slice A12 0 c12) Y.out TN.out (by decide))
    have T_ := Aside0.mk (two_far (.slice A11 0 c11) (.slice A12 0 c12) T.out TN.out (by decide))
    have T6_ := Aside0.mk (two_far (.slice A11 0 c11) (.slice A12 0 c12) T6.out TN.out (by decide))
    have TC_ := Aside0.mk (two_far (.slice A11 0 c11) (.slice A12 0 c12) TC.out TN.out (by decide))
    have RH_ := Aside0.mk (R_two (.slice A11 0 c11) (.slice A12 0 c12) RH.out TN.out (by decide))
    have RW_ := Aside0.mk (R_two (.slice A11 0 c11) (.slice A12 0 c12) RW.out TN.out (by decide))
    have R3_ := Aside0.mk (R_two (.slice A11 0 c11) (.slice A12 0 c12) R3.out TN.out (by decide))
    have R4_ := Aside0.mk (R_two (.slice A11 0 c11) (.slice A12 0 c12) R4.out TN.out (by decide))
    have R5_ := Aside0.mk (R_two (.slice A11 0 c11) (.slice A12 0 c12) R5.out TN.out (by decide))
    have R6_ := Aside0.mk (R_two (.slice A11 0 c11) (.slice A12 0 c12) R6.out TN.out (by decide))
    have R7_ := Aside0.mk (R_two (.slice A11 0 c11) (.slice A12 0 c12) R7.out TN.out (by decide))
    have R8_ := Aside0.mk (R_two (.slice A11 0 c11) (.slice A12 0 c12) R8.out TN.out (by decide))
    have R9_ := Aside0.mk (R_two (.slice A11 0 c11) (.slice A12 0 c12) R9.out TN.out (by decide))
    have R10_ := Aside0.mk (R_two (.slice A11 0 c11) (.slice A12 0 c12) R10.out TN.out (by decide))
    have R11_ := Aside0.mk (R_two (.slice A11 0 c11) (.slice A12 0 c12) R11.out TN.out (by decide))
    have R12_ := Aside0.mk (R_two (.slice A11 0 c11) (.slice A12 0 c12) R12.out TN.out (by decide))
    have B_ := Aside0.mk P_.out.2
    have TN_ := Aside0.mk P_.out.1
    clear P_ B Y T T6 TN TC RH RW R3 R4 R5 R6 R7 R8 R9 R10 R11 R12
    generalize ((w16.alloc (.cells #[.slice A9 H.length c9, .slice A10 Q.length c10] 29)).setCell ⟨bn, 0, none⟩ (.slice A11 0 c11)).setCell ⟨bn, 1, none⟩ (.slice A12 0 c12) = w17 at B_ Y_ T_ T6_ TN_ TC_ RH_ RW_ R3_ R4_ R5_ R6_ R7_ R8_ R9_ R10_ R11_ R12_ ⊢
    have B := B_
    have Y := Y_
    have T := T_
    have T6 := T6_
    have TN := TN_
    have TC := TC_
    have RH := RH_
    have RW := RW_
    have R3 := R3_
    have R4 := R4_
    have R5 := R5_
    have R6 := R6_
    have R7 := R7_
    have R8 := R8_
    have R9 := R9_
    have R10 := R10_
    have R11 := R11_
    have R12 := R12_
    clear B_ Y_ T_ T6_ TN_ TC_ RH_ RW_ R3_ R4_ R5_ R6_ R7_ R8_ R9_ R10_ R11_ R12_
    generalize w16.heap.size = bc at TC hnn ⊢
    go_upto_region 14 with (fail)
    refine (sane_calls _).mono ?_
    rintro e w18 ⟨rfl, hb⟩
    have Y := Aside0.mk (blk_below Y.out hb)
    have T := Aside0.mk (blk_below T.out hb)
    have T6 := Aside0.mk (blk_below T6.out hb)
    have TN := Aside0.mk (blk_below TN.out hb)
    have TC := Aside0.mk (blk_below TC.out hb)
    have RH := Aside0.mk (Kd.R_below RH.out hb)
    have RW := Aside0.mk (Kd.R_below RW.out hb)
    have R3 := Aside0.mk (Kd.R_below R3.out hb)
    have R4 := Aside0.mk (Kd.R_below R4.out hb)
    have R5 := Aside0.mk (Kd.R_below R5.out hb)
    have R6 := Aside0.mk (Kd.R_below R6.out hb)
    have R7 := Aside0.mk (Kd.R_below R7.out hb)
    have R8 := Aside0.mk (Kd.R_below R8.out hb)
    have R9 := Aside0.mk (Kd.R_below R9.out hb)
    have R10 := Aside0.mk (Kd.R_below R10.out hb)
    have R11 := Aside0.mk (Kd.R_below R11.out hb)
    have R12 := Aside0.mk (Kd.R_below R12.out hb)
    have B := Aside0.mk (below_step B.out hb)
    clear hb
    have x0 := (blk_cell T.out 0).trans rfl; have x1 := (blk_cell T.out 1).trans rfl
    have p0 := (blk_cell TC.out 0).trans rfl; have p1 := (blk_cell TC.out 1).trans rfl
    go_upto_region 14 with (fail)
    refine (sameTT_calls A9 A10 A1 A2 c9 c10 c1 c2 H Q _ (Kd.R_reads' R9.out).2.2 (Kd.R_reads' R10.out).2.2 (Kd.R_reads' RH.out).2.2 (Kd.R_reads' RW.out).2.2 (Kd.R_reads' R9.out).2.1 (Kd.R_reads' R10.out).2.1 LH.out LW.out HPL.out).mono ?_
    rintro e w19 ⟨rfl, hb⟩
    have Y := Aside0.mk (blk_below Y.out hb)
    have T := Aside0.mk (blk_below T.out hb)
    have T6 := Aside0.mk (blk_below T6.out hb)
    have TN := Aside0.mk (blk_below TN.out hb)
    have TC := Aside0.mk (blk_below TC.out hb)
    have RH := Aside0.mk (Kd.R_below RH.out hb)
    have RW := Aside0.mk (Kd.R_below RW.out hb)
    have R3 := Aside0.mk (Kd.R_below R3.out hb)
    have R4 := Aside0.mk (Kd.R_below R4.out hb)
    have R5 := Aside0.mk (Kd.R_below R5.out hb)
    have R6 := Aside0.mk (Kd.R_below R6.out hb)
    have R7 := Aside0.mk (Kd.R_below R7.out hb)
    have R8 := Aside0.mk (Kd.R_below R8.out hb)
    have R9 := Aside0.mk (Kd.R_below R9.out hb)
    have R10 := Aside0.mk (Kd.R_below R10.out hb)
    have R11 := Aside0.mk (Kd.R_below R11.out hb)
    have R12 := Aside0.mk (Kd.R_below R12.out hb)
    have B := Aside0.mk (below_step B.out hb)
    clear hb x0 x1 p0 p1
    have n0 := (blk_cell TN.out 0).trans rfl; have n1 := (blk_cell TN.out 1).trans rfl
    go_upto_region 14 with (fail)
    refine (sameN0_calls A11 A12 c11 c12 _ (Kd.R_reads' R11.out).2.2 (Kd.R_reads' R12.out).2.2).mono ?_
    rintro e w20 ⟨rfl, hb⟩
    have HB9 := Aside0.mk (below_step B.out hb)
    clear hb n0 n1
    go_wp2
    go_ret
    exact ⟨rfl, HB9.out⟩
  · have hF0 : (F == 0) = false := by simpa using hF
    clear hF
    have y0 := (blk_cell Y.out 0).trans rfl; have y1 := (blk_cell Y.out 1).trans rfl; have y2 := (blk_cell Y.out 2).trans rfl; have y3 := (blk_cell Y.out 3).trans rfl; have y4 := (blk_cell Y.out 4).trans rfl
    have x0 := (blk_cell T.out 0).trans rfl; have x1 := (blk_cell T.out 1).trans rfl
    go_upto_region 10 with (fail)
    refine (ask_calls A1 A2 c1 c2 _ _ a _ (Kd.R_reads' RH.out).2.2 (Kd.R_reads' RW.out).2.2 HPL.out).mono ?_
    rintro e w13 hp
    obtain ⟨v, u, rfl, ⟨vH, vW, rfl, hvH, hvW⟩, ⟨vG, vN, rfl, hvG, hvN⟩, hb⟩ := hp
    obtain ⟨A5, c5, rfl⟩ := Kd.R_slice hvH
    obtain ⟨A6, c6, rfl⟩ := Kd.R_slice hvW
    obtain ⟨A7, c7, rfl⟩ := Kd.R_slice hvG
    obtain ⟨A8, c8, rfl⟩ := Kd.R_slice hvN
    have Y := Aside0.mk (blk_below Y.out hb)
    have T := Aside0.mk (blk_below T.out hb)
    have T6 := Aside0.mk (blk_below T6.out hb)
    have RH := Aside0.mk (Kd.R_below RH.out hb)
    have RW := Aside0.mk (Kd.R_below RW.out hb)
    have R3 := Aside0.mk (Kd.R_below R3.out hb)
    have R4 := Aside0.mk (Kd.R_below R4.out hb)
    have B := Aside0.mk (below_step B.out hb)
    have R5 := Aside0.mk hvH
    have R6 := Aside0.mk hvW
    have R7 := Aside0.mk hvG
    have R8 := Aside0.mk hvN
    clear hb hvH hvW hvG hvN x0 x1 y0 y1 y2 y3 y4
    have HAL := Aside0.mk (ask_len (H := H) (W := Q) (a := a) HPL.out)
    have HCA := Aside0.mk (fun h => cancel_ask (H := H) (W := Q) (a := a) h)
    generalize (askF H Q a).2 = F5 at HCA ⊢
    generalize (askF H Q a).1 = R at HCA HAL R5 R6 R7 R8 ⊢
    obtain ⟨H5, Q5, G5, N5⟩ := R
    dsimp only at R5 R6 R7 R8 HCA HAL
    have hbx := below_alloc (Below.refl _ w13) (.cells #[.slice none 0 0, .slice none 0 0] 33)
    have TN := Aside0.mk (blk_new w13 (.cells #[.slice none 0 0, .slice none 0 0] 33))
    have LTN := Aside0.mk (show w.heap.size ≤ w13.heap.size from B.out.size)
    have hne : w13.heap.size ≠ b6 := (Nat.ne_of_lt (blk_lt T6.out)).symm
    have hne' : b6 ≠ w13.heap.size := Nat.ne_of_lt (blk_lt T6.out)
    have Y := Aside0.mk (blk_below Y.out hbx)
    have T := Aside0.mk (blk_below T.out hbx)
    have T6 := Aside0.mk (blk_below T6.out hbx)
    have RH := Aside0.mk (Kd.R_below RH.out hbx)
    have RW := Aside0.mk (Kd.R_below RW.out hbx)
    have R3 := Aside0.mk (Kd.R_below R3.out hbx)
    have R4 := Aside0.mk (Kd.R_below R4.out hbx)
    have R5 := Aside0.mk (Kd.R_below R5.out hbx)
    have R6 := Aside0.mk (Kd.R_below R6.out hbx)
    have R7 := Aside0.mk (Kd.R_below R7.out hbx)
    have R8 := Aside0.mk (Kd.R_below R8.out hbx)
    have B := Aside0.mk (below_step B.out hbx)
    clear hbx
    have x0 := (blk_cell T6.out 0).trans rfl; have x1 := (blk_cell T6.out 1).trans rfl
    have fx0 := blk_frozen T6.out 0; have fx1 := blk_frozen T6.out 1
    have n0 := (blk_cell TN.out 0).trans rfl; have n1 := (blk_cell TN.out 1).trans rfl
    have fn0 := blk_frozen TN.out 0; have fn1 := blk_frozen TN.out 1
    go_upto_region 10 with (fail)
    clear x0 x1 fx0 fx1 n0 n1 fn0 fn1
    have P_ := Aside0.mk (put_two (n := w.heap.size) (w := w) (.slice A5 H5.length c5) (.slice A6 Q5.length c6) T6.out B.out (LT6.out))
    have Y_ := Aside0.mk (two_far (.slice A5 H5.length c5) (.slice A6 Q5.length c6) Y.out T6.out (by decide))
    have T_ := Aside0.mk (two_far' (.slice A5 H5.length c5) (.slice A6 Q5.length c6) T.out (NTT6.out))
    have TN_ := Aside0.mk (two_far' (.slice A5 H5.length c5) (.slice A6 Q5.length c6) TN.out (hne))
    have RH_ := Aside0.mk (R_two (.slice A5 H5.length c5) (.slice A6 Q5.length c6) RH.out T6.out (by decide))
    have RW_ := Aside0.mk (R_two (.slice A5 H5.length c5) (.slice A6 Q5.length c6) RW.out T6.out (by decide))
    have R3_ := Aside0.mk (R_two (.slice A5 H5.length c5) (.slice A6 Q5.length c6) R3.out T6.out (by decide))
    have R4_ := Aside0.mk (R_two (.slice A5 H5.length c5) (.slice A6 Q5.length c6) R4.out T6.out (by decide))
    have R5_ := Aside0.mk (R_two (.slice A5 H5.length c5) (.slice A6 Q5.length c6) R5.out T6.out (by decide))
    have R6_ := Aside0.mk (R_two (.slice A5 H5.length c5) (.slice A6 Q5.length c6) R6.out T6.out (by decide))
    have R7_ := Aside0.mk (R_two (.slice A5 H5.length c5) (.slice A6 Q5.length c6) R7.out T6.out (by decide))
    have R8_ := Aside0.mk (R_two (.slice A5 H5.length c5) (.slice A6 Q5.length c6) R8.out T6.out (by decide))
    have B_ := Aside0.mk P_.out.2
    have T6_ := Aside0.mk P_.out.1
    clear P_ B Y T T6 TN RH RW R3 R4 R5 R6 R7 R8
    generalize ((w13.alloc (.cells #[.slice none 0 0, .slice none 0 0] 33)).setCell ⟨b6, 0, none⟩ (.slice A5 H5.length c5)).setCell ⟨b6, 1, none⟩ (.slice A6 Q5.length c6) = w14 at B_ Y_ T_ T6_ TN_ RH_ RW_ R3_ R4_ R5_ R6_ R7_ R8_ ⊢
    have B := B_
    have Y := Y_
    have T := T_
    have T6 := T6_
    have TN := TN_
    have RH := RH_
    have RW := RW_
    have R3 := R3_
    have R4 := R4_
    have R5 := R5_
    have R6 := R6_
    have R7 := R7_
    have R8 := R8_
    clear B_ Y_ T_ T6_ TN_ RH_ RW_ R3_ R4_ R5_ R6_ R7_ R8_
    have P_ := Aside0.mk (put_two (n := w.heap.size) (w := w) (.slice A7 G5.length c7) (.slice A8 N5.length c8) TN.out B.out (LTN.out))
    have Y_ := Aside0.mk (two_far (.slice A7 G5.length c7) (.slice A8 N5.length c8) Y.out TN.out (by decide))
    have T_ := Aside0.mk (two_far (.slice A7 G5.length c7) (.slice A8 N5.length c8) T.out TN.out (by decide))
    have T6_ := Aside0.mk (two_far (.slice A7 G5.length c7) (.slice A8 N5.length c8) T6.out TN.out (by decide))
    have RH_ := Aside0.mk (R_two (.slice A7 G5.length c7) (.slice A8 N5.length c8) RH.out TN.out (by decide))
    have RW_ := Aside0.mk (R_two (.slice A7 G5.length c7) (.slice A8 N5.length c8) RW.out TN.out (by decide))
    have R3_ := Aside0.mk (R_two (.slice A7 G5.length c7) (.slice A8 N5.length c8) R3.out TN.out (by decide))
    have R4_ := Aside0.mk (R_two (.slice A7 G5.length c7) (.slice A8 N5.length c8) R4.out TN.out (by decide))
    have R5_ := Aside0.mk (R_two (.slice A7 G5.length c7) (.slice A8 N5.length c8) R5.out TN.out (by decide))
    have R6_ := Aside0.mk (R_two (.slice A7 G5.length c7) (.slice A8 N5.length c8) R6.out TN.out (by decide))
    have R7_ := Aside0.mk (R_two (.slice A7 G5.length c7) (.slice A8 N5.length c8) R7.out TN.out (by decide))
    have R8_ := Aside0.mk (R_two (.slice A7 G5.length c7) (.slice A8 N5.length c8) R8.out TN.out (by decide))
    have B_ := Aside0.mk P_.out.2
    have TN_ := Aside0.mk P_.out.1
    clear P_ B Y T T6 TN RH RW R3 R4 R5 R6 R7 R8
    generalize ((w14).setCell ⟨w13.heap.size, 0, none⟩ (.slice A7 G5.length c7)).setCell ⟨w13.heap.size, 1, none⟩ (.slice A8 N5.length c8) = w15 at B_ Y_ T_ T6_ TN_ RH_ RW_ R3_ R4_ R5_ R6_ R7_ R8_ ⊢
    have B := B_
    have Y := Y_
    have T := T_
    have T6 := T6_
    have TN := TN_
    have RH := RH_
    have RW := RW_
    have R3 := R3_
    have R4 := R4_
    have R5 := R5_
    have R6 := R6_
    have R7 := R7_
    have R8 := R8_
    clear B_ Y_ T_ T6_ TN_ RH_ RW_ R3_ R4_ R5_ R6_ R7_ R8_
    generalize w13.heap.size = bn at TN LTN hne hne' ⊢
    clear hne hne'
    have n0 := (blk_cell TN.out 0).trans rfl; have n1 := (blk_cell TN.out 1).trans rfl
    by_cases hF5 : F5 = 0
    rotate_left
    · have hf : (F5 != 0) = true := by simpa [bne] using hF5
      clear hF5
      go_wp2_with (fail)
      refine (sane_calls _).mono ?_
      rintro e w9 ⟨rfl, hb9⟩
      have HB9 := Aside0.mk (below_step B.out hb9)
      clear hb9
      go_wp2
      go_ret
      exact ⟨rfl, HB9.out⟩
    have hf : (F5 != 0) = false := by simpa [bne] using hF5
    by_cases hz : G5.length + N5.length = 0
    rotate_left
    · have hz1 : decide (0 < (G5.length : Int) + (N5.length : Int)) = true := by simp; omega
      have hz2 : (G5.length : Int) + (N5.length : Int) ≤ 1001 := by have := HAL.out; omega
      have hz3 : 0 ≤ (G5.length : Int) + (N5.length : Int) := by omega
      clear hF5 hz
      go_wp2_with (fail)
      refine (sane_calls _).mono ?_
      rintro e w9 ⟨rfl, hb9⟩
      have HB9 := Aside0.mk (below_step B.out hb9)
      clear hb9
      go_wp2
      go_ret
      exact ⟨rfl, HB9.out⟩
    obtain ⟨hc1, hc2, hc3⟩ := HCA.out hF5 hz
    have HCC := Aside0.mk (show cancelF H5 Q5 a.f1 = ((H, Q, [], []), 0) by rw [hc1, hc2]; exact hc3)
    have HLC := Aside0.mk (show H5.length + Q5.length ≤ 1000 by rw [hc1, hc2]; have := HIN.out.len; simp; omega)
    obtain rfl : G5 = [] := List.eq_nil_of_length_eq_zero (by omega)
    obtain rfl : N5 = [] := List.eq_nil_of_length_eq_zero (by omega)
    clear hc1 hc2 hc3 hF5 hz HCA HAL
    have x0 := (blk_cell T6.out 0).trans rfl; have x1 := (blk_cell T6.out 1).trans rfl
    have y0 := (blk_cell Y.out 0).trans rfl; have y1 := (blk_cell Y.out 1).trans rfl; have y2 := (blk_cell Y.out 2).trans rfl; have y3 := (blk_cell Y.out 3).trans rfl; have y4 := (blk_cell Y.out 4).trans rfl
    go_upto_region 13 with (fail)
    refine (cancel_calls A5 A6 c5 c6 _ _ a.f1 _ (Kd.R_reads' R5.out).2.2 (Kd.R_reads' R6.out).2.2 HLC.out).mono ?_
    rintro e w16 hp
    rw [HCC.out] at hp
    obtain ⟨v, u, rfl, ⟨vH, vW, rfl, hvH, hvW⟩, ⟨vG, vN, rfl, hvG, hvN⟩, hb⟩ := hp
    dsimp only at hvH hvW hvG hvN
    obtain ⟨A9, c9, rfl⟩ := Kd.R_slice hvH
    obtain ⟨A10, c10, rfl⟩ := Kd.R_slice hvW
    obtain ⟨A11, c11, rfl⟩ := Kd.R_slice hvG
    obtain ⟨A12, c12, rfl⟩ := Kd.R_slice hvN
    have Y := Aside0.mk (blk_below Y.out hb)
    have T := Aside0.mk (blk_below T.out hb)
    have T6 := Aside0.mk (blk_below T6.out hb)
    have TN := Aside0.mk (blk_below TN.out hb)
    have RH := Aside0.mk (Kd.R_below RH.out hb)
    have RW := Aside0.mk (Kd.R_below RW.out hb)
    have R3 := Aside0.mk (Kd.R_below R3.out hb)
    have R4 := Aside0.mk (Kd.R_below R4.out hb)
    have R5 := Aside0.mk (Kd.R_below R5.out hb)
    have R6 := Aside0.mk (Kd.R_below R6.out hb)
    have R7 := Aside0.mk (Kd.R_below R7.out hb)
    have R8 := Aside0.mk (Kd.R_below R8.out hb)
    have B := Aside0.mk (below_step B.out hb)
    have R9 := Aside0.mk hvH
    have R10 := Aside0.mk hvW
    have R11 := Aside0.mk hvG
    have R12 := Aside0.mk hvN
    clear hb hvH hvW hvG hvN x0 x1 y0 y1 y2 y3 y4 n0 n1
    have hbx := below_alloc (Below.refl _ w16) (.cells #[.slice A9 H.length c9, .slice A10 Q.length c10] 29)
    have TC := Aside0.mk (blk_new w16 (.cells #[.slice A9 H.length c9, .slice A10 Q.length c10] 29))
    have hnn := Aside0.mk (Nat.ne_of_lt (blk_lt TN.out)).symm
    have Y := Aside0.mk (blk_below Y.out hbx)
    have T := Aside0.mk (blk_below T.out hbx)
    have T6 := Aside0.mk (blk_below T6.out hbx)
    have TN := Aside0.mk (blk_below TN.out hbx)
    have RH := Aside0.mk (Kd.R_below RH.out hbx)
    have RW := Aside0.mk (Kd.R_below RW.out hbx)
    have R3 := Aside0.mk (Kd.R_below R3.out hbx)
    have R4 := Aside0.mk (Kd.R_below R4.out hbx)
    have R5 := Aside0.mk (Kd.R_below R5.out hbx)
    have R6 := Aside0.mk (Kd.R_below R6.out hbx)
    have R7 := Aside0.mk (Kd.R_below R7.out hbx)
    have R8 := Aside0.mk (Kd.R_below R8.out hbx)
    have R9 := Aside0.mk (Kd.R_below R9.out hbx)
    have R10 := Aside0.mk (Kd.R_below R10.out hbx)
    have R11 := Aside0.mk (Kd.R_below R11.out hbx)
    have R12 := Aside0.mk (Kd.R_below R12.out hbx)
    have B := Aside0.mk (below_step B.out hbx)
    clear hbx
    have n0 := (blk_cell TN.out 0).trans rfl; have n1 := (blk_cell TN.out 1).trans rfl
    have fn0 := blk_frozen TN.out 0; have fn1 := blk_frozen TN.out 1
    go_upto_region 13 with (fail)
    clear n0 n1 fn0 fn1
    have P_ := Aside0.mk (put_two (n := w.heap.size) (w := w) (.slice A11 0 c11) (.slice A12 0 c12) TN.out B.out (LTN.out))
    have Y_ := Aside0.mk (two_far (.slice A11 0 c11) (.slice A12 0 c12) Y.out TN.out (by decide))
    have T_ := Aside0.mk (two_far (.slice A11 0 c11) (.slice A12 0 c12) T.out TN.out (by decide))
    have T6_ := Aside0.mk (two_far (.slice A11 0 c11) (.slice A12 0 c12) T6.out TN.out (by decide))
    have TC_ := Aside0.mk (two_far (.slice A11 0 c11) (.slice A12 0 c12) TC.out TN.out (by decide))
    have RH_ := Aside0.mk (R_two (.slice A11 0 c11) (.slice A12 0 c12) RH.out TN.out (by decide))
    have RW_ := Aside0.mk (R_two (.slice A11 0 c11) (.slice A12 0 c12) RW.out TN.out (by decide))
    have R3_ := Aside0.mk (R_two (.slice A11 0 c11) (.slice A12 0 c12) R3.out TN.out (by decide))
    have R4_ := Aside0.mk (R_two (.slice A11 0 c11) (.slice A12 0 c12) R4.out TN.out (by decide))
    have R5_ := Aside0.mk (R_two (.slice A11 0 c11) (.slice A12 0 c12) R5.out TN.out (by decide))
    have R6_ := Aside0.mk (R_two (.slice A11 0 c11) (.slice A12 0 c12) R6.out TN.out (by decide))
    have R7_ := Aside0.mk (R_two (.slice A11 0 c11) (.slice A12 0 c12) R7.out TN.out (by decide))
    have R8_ := Aside0.mk (R_two (.slice A11 0 c11) (.slice A12 0 c12) R8.out TN.out (by decide))
    have R9_ := Aside0.mk (R_two (.slice A11 0 c11) (.slice A12 0 c12) R9.out TN.out (by decide))
    have R10_ := Aside0.mk (R_two (.slice A11 0 c11) (.slice A12 0 c12) R10.out TN.out (by decide))
    have R11_ := Aside0.mk (R_two (.slice A11 0 c11) (.slice A12 0 c12) R11.out TN.out (by decide))
    have R12_ := Aside0.mk (R_two (.slice A11 0 c11) (.slice A12 0 c12) R12.out TN.out (by decide))
    have B_ := Aside0.mk P_.out.2
    have TN_ := Aside0.mk P_.out.1
    clear P_ B Y T T6 TN TC RH RW R3 R4 R5 R6 R7 R8 R9 R10 R11 R12
    generalize ((w16.alloc (.cells #[.slice A9 H.length c9, .slice A10 Q.length c10] 29)).setCell ⟨bn, 0, none⟩ (.slice A11 0 c11)).setCell ⟨bn, 1, none⟩ (.slice A12 0 c12) = w17 at B_ Y_ T_ T6_ TN_ TC_ RH_ RW_ R3_ R4_ R5_ R6_ R7_ R8_ R9_ R10_ R11_ R12_ ⊢
    have B := B_
    have Y := Y_
    have T := T_
    have T6 := T6_
    have TN := TN_
    have TC := TC_
    have RH := RH_
    have RW := RW_
    have R3 := R3_
    have R4 := R4_
    have R5 := R5_
    have R6 := R6_
    have R7 := R7_
    have R8 := R8_
    have R9 := R9_
    have R10 := R10_
    have R11 := R11_
    have R12 := R12_
    clear B_ Y_ T_ T6_ TN_ TC_ RH_ RW_ R3_ R4_ R5_ R6_ R7_ R8_ R9_ R10_ R11_ R12_
    generalize w16.heap.size = bc at TC hnn ⊢
    go_upto_region 14 with (fail)
    refine (sane_calls _).mono ?_
    rintro e w18 ⟨rfl, hb⟩
    have Y := Aside0.mk (blk_below Y.out hb)
    have T := Aside0.mk (blk_below T.out hb)
    have T6 := Aside0.mk (blk_below T6.out hb)
    have TN := Aside0.mk (blk_below TN.out hb)
    have TC := Aside0.mk (blk_below TC.out hb)
    have RH := Aside0.mk (Kd.R_below RH.out hb)
    have RW := Aside0.mk (Kd.R_below RW.out hb)
    have R3 := Aside0.mk (Kd.R_below R3.out hb)
    have R4 := Aside0.mk (Kd.R_below R4.out hb)
    have R5 := Aside0.mk (Kd.R_below R5.out hb)
    have R6 := Aside0.mk (Kd.R_below R6.out hb)
    have R7 := Aside0.mk (Kd.R_below R7.out hb)
    have R8 := Aside0.mk (Kd.R_below R8.out hb)
    have R9 := Aside0.mk (Kd.R_below R9.out hb)
    have R10 := Aside0.mk (Kd.R_below R10.out hb)
    have R11 := Aside0.mk (Kd.R_below R11.out hb)
    have R12 := Aside0.mk (Kd.R_below R12.out hb)
    have B := Aside0.mk (below_step B.out hb)
    clear hb
    have x0 := (blk_cell T.out 0).trans rfl; have x1 := (blk_cell T.out 1).trans rfl
    have p0 := (blk_cell TC.out 0).trans rfl; have p1 := (blk_cell TC.out 1).trans rfl
    go_upto_region 14 with (fail)
    refine (sameTT_calls A9 A10 A1 A2 c9 c10 c1 c2 H Q _ (Kd.R_reads' R9.out).2.2 (Kd.R_reads' R10.out).2.2 (Kd.R_reads' RH.out).2.2 (Kd.R_reads' RW.out).2.2 (Kd.R_reads' R9.out).2.1 (Kd.R_reads' R10.out).2.1 LH.out LW.out HPL.out).mono ?_
    rintro e w19 ⟨rfl, hb⟩
    have Y := Aside0.mk (blk_below Y.out hb)
    have T := Aside0.mk (blk_below T.out hb)
    have T6 := Aside0.mk (blk_below T6.out hb)
    have TN := Aside0.mk (blk_below TN.out hb)
    have TC := Aside0.mk (blk_below TC.out hb)
    have RH := Aside0.mk (Kd.R_below RH.out hb)
    have RW := Aside0.mk (Kd.R_below RW.out hb)
    have R3 := Aside0.mk (Kd.R_below R3.out hb)
    have R4 := Aside0.mk (Kd.R_below R4.out hb)
    have R5 := Aside0.mk (Kd.R_below R5.out hb)
    have R6 := Aside0.mk (Kd.R_below R6.out hb)
    have R7 := Aside0.mk (Kd.R_below R7.out hb)
    have R8 := Aside0.mk (Kd.R_below R8.out hb)
    have R9 := Aside0.mk (Kd.R_below R9.out hb)
    have R10 := Aside0.mk (Kd.R_below R10.out hb)
    have R11 := Aside0.mk (Kd.R_below R11.out hb)
    have R12 := Aside0.mk (Kd.R_below R12.out hb)
    have B := Aside0.mk (below_step B.out hb)
    clear hb x0 x1 p0 p1
    have n0 := (blk_cell TN.out 0).trans rfl; have n1 := (blk_cell TN.out 1).trans rfl
    go_upto_region 14 with (fail)
    refine (sameN0_calls A11 A12 c11 c12 _ (Kd.R_reads' R11.out).2.2 (Kd.R_reads' R12.out).2.2).mono ?_
    rintro e w20 ⟨rfl, hb⟩
    have HB9 := Aside0.mk (below_step B.out hb)
    clear hb n0 n1
    go_wp2
    go_ret
    exact ⟨rfl, HB9.out⟩
end Go.Proofs.Ytifnfnoicinbaaa.M
