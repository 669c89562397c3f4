/- The reference's Cancel and Unlock. -/
import Derived.Test.YtifnfnoicinbaaaQE
import Derived.Test.YtifnfnoicinbaaaQD
namespace Go.Proofs.Ytifnfnoicinbaaa.M
open Go.RowKit Go.Proofs.YtifnfnoicinbaaaW.PrintWords Go.Proofs.YtifnfnoicinbaaaW.PrintLast Go.Proofs.YtifnfnoicinbaaaW.PrintMore
set_option linter.unusedVariables false
set_option linter.unusedSimpArgs false
set_option linter.unnecessarySimpa false

set_option maxRecDepth 100000 in
set_option maxHeartbeats 8000000 in
theorem cancelR_calls (A B : Option Addr) (c d : Nat) (H W : List S24) (x : Int) (w : World) (h1 : k24.C w A H.length H) (h2 : k24.C w B W.length W) (l1 : H.length ≤ c) (l2 : W.length ≤ d) (hlen : H.length + W.length ≤ 1000) :
    Calls Try.prog 39 #[.agg #[.slice A H.length c, .slice B W.length d], .int .i64 x] w fun e w' => RetN w (cancelF H W x).1 (cancelF H W x).2 e w' := by
  have HC1 := Aside0.mk h1
  have HC2 := Aside0.mk h2
  clear h1 h2
  go_enter Try.func39, Try.ntmps39
  go_upto_region 1 with (fail)
  have hb_ := below_alloc (below_alloc (below_alloc (Below.refl _ w) (.cells #[.slice A H.length c, .slice B W.length d] 29)) (.cells #[.slice none 0 0, .slice none 0 0] 29)) (.cells #[.slice none 0 0, .slice none 0 0] 33)
  have hG0_ := blk_alloc (blk_alloc (blk_lit0 w (.cells #[.slice A H.length c, .slice B W.length d] 29)) (.cells #[.slice none 0 0, .slice none 0 0] 29)) (.cells #[.slice none 0 0, .slice none 0 0] 33)
  have hG1_ := blk_alloc (blk_lit w (.cells #[.slice A H.length c, .slice B W.length d] 29) (.cells #[.slice none 0 0, .slice none 0 0] 29)) (.cells #[.slice none 0 0, .slice none 0 0] 33)
  have hG2_ := blk_lit2 w (.cells #[.slice A H.length c, .slice B W.length d] 29) (.cells #[.slice none 0 0, .slice none 0 0] 29) (.cells #[.slice none 0 0, .slice none 0 0] 33)
  generalize (((w.alloc (.cells #[.slice A H.length c, .slice B W.length d] 29)).alloc (.cells #[.slice none 0 0, .slice none 0 0] 29)).alloc (.cells #[.slice none 0 0, .slice none 0 0] 33)) = V at hb_ hG0_ hG1_ hG2_ ⊢
  have HB_V := Aside0.mk hb_
  have V0 := Aside0.mk hG0_
  have V1 := Aside0.mk hG1_
  have V2 := Aside0.mk hG2_
  clear hb_ hG0_ hG1_ hG2_
  have x0 := (blk_cell V0.out 0).trans rfl; have x1 := (blk_cell V0.out 1).trans rfl
  go_upto_region 2 with (fail)
  refine (handlesR_calls A B c d H W x _ (Kd.C_below HC1.out HB_V.out) (Kd.C_below HC2.out HB_V.out) l1 l2 hlen).mono ?_
  rintro e w2 ⟨rfl, hb⟩
  have T2 := Aside0.mk (blk_below V0.out hb)
  have T4 := Aside0.mk (blk_below V1.out hb)
  have T5 := Aside0.mk (blk_below V2.out hb)
  have BB := Aside0.mk (below_step HB_V.out hb)
  clear hb x0 x1 HB_V V0 V1 V2
  by_cases hz : begE H W (knownB x) = 0
  rotate_left
  · have HE := Aside0.mk (show cancelF H W x = (([], [], [], []), begE H W (knownB x)) by unfold cancelF; rw [if_neg hz])
    have hf : (begE H W (knownB x) != 0) = true := by simpa [bne] using hz
    generalize begE H W (knownB x) = E at HE hf ⊢
    clear hz
    have r0 := (blk_cell T4.out 0).trans rfl; have r1 := (blk_cell T4.out 1).trans rfl
    have fr0 := blk_frozen T4.out 0; have fr1 := blk_frozen T4.out 1
    have s0 := (blk_cell T5.out 0).trans rfl; have s1 := (blk_cell T5.out 1).trans rfl
    have fs0 := blk_frozen T5.out 0; have fs1 := blk_frozen T5.out 1
    go_upto_region 4 with (fail)
    clear r0 r1 fr0 fr1 s0 s1 fs0 fs1
    have P_ := Aside0.mk (put_two (n := w.heap.size) (w := w) (.slice none 0 0) (.slice none 0 0) T4.out BB.out (by omega))
    have T2_ := Aside0.mk (two_far' (.slice none 0 0) (.slice none 0 0) T2.out (show w.heap.size ≠ w.heap.size + 1 by omega))
    have T5_ := Aside0.mk (two_far (.slice none 0 0) (.slice none 0 0) T5.out T4.out (by decide))
    have BB_ := Aside0.mk P_.out.2
    have T4_ := Aside0.mk P_.out.1
    clear P_ BB T2 T4 T5
    generalize ((w2).setCell ⟨w.heap.size + 1, 0, none⟩ (.slice none 0 0)).setCell ⟨w.heap.size + 1, 1, none⟩ (.slice none 0 0) = wy at BB_ T2_ T4_ T5_ ⊢
    have BB := BB_
    have T2 := T2_
    have T4 := T4_
    have T5 := T5_
    clear BB_ T2_ T4_ T5_
    have P_ := Aside0.mk (put_two (n := w.heap.size) (w := w) (.slice none 0 0) (.slice none 0 0) T5.out BB.out (by omega))
    have T2_ := Aside0.mk (two_far (.slice none 0 0) (.slice none 0 0) T2.out T5.out (by decide))
    have T4_ := Aside0.mk (two_far (.slice none 0 0) (.slice none 0 0) T4.out T5.out (by decide))
    have BB_ := Aside0.mk P_.out.2
    have T5_ := Aside0.mk P_.out.1
    clear P_ BB T2 T4 T5
    generalize ((wy).setCell ⟨w.heap.size + 1 + 1, 0, none⟩ (.slice none 0 0)).setCell ⟨w.heap.size + 1 + 1, 1, none⟩ (.slice none 0 0) = wz at BB_ T2_ T4_ T5_ ⊢
    have BB := BB_
    have T2 := T2_
    have T4 := T4_
    have T5 := T5_
    clear BB_ T2_ T4_ T5_
    go_wp2
    refine bodyPost_ret (results_cells3 rfl rfl rfl (loadVar_two 29 (by kernel_rfl) (by kernel_rfl) T4.out) (loadVar_two 33 (by kernel_rfl) (by kernel_rfl) T5.out)) rfl ?_
    show RetN w (cancelF H W x).1 (cancelF H W x).2 _ _
    rw [HE.out]
    exact ⟨_, _, rfl, tabV_nil _ _, newsV_nil _ _, BB.out⟩
  have HI := Aside0.mk (Inv.iff.2 (beg_zero hz).1)
  have HZ := Aside0.mk hz
  rw [hz]
  clear hz
  have x0 := (blk_cell T2.out 0).trans rfl; have x1 := (blk_cell T2.out 1).trans rfl
  go_upto_region 5 with (fail)
  refine (waitingR_calls A B c d H W x _ (Kd.C_below HC1.out BB.out) (Kd.C_below HC2.out BB.out) l1 l2 (by omega)).mono ?_
  rintro e wq ⟨rfl, hb⟩
  have T2 := Aside0.mk (blk_below T2.out hb)
  have T4 := Aside0.mk (blk_below T4.out hb)
  have T5 := Aside0.mk (blk_below T5.out hb)
  have BB := Aside0.mk (below_step BB.out hb)
  clear hb x0 x1
  cases hw : PL.waitI hdL W x with
  | none =>
    have HE := Aside0.mk (show cancelF H W x = (([], [], [], []), 3) by unfold cancelF; rw [if_pos HZ.out, hw])
    rw [waitN_none hw]
    clear hw
    have g1 : decide ((-1 : Int) < 0) = true := by decide
    have r0 := (blk_cell T4.out 0).trans rfl; have r1 := (blk_cell T4.out 1).trans rfl
    have fr0 := blk_frozen T4.out 0; have fr1 := blk_frozen T4.out 1
    have s0 := (blk_cell T5.out 0).trans rfl; have s1 := (blk_cell T5.out 1).trans rfl
    have fs0 := blk_frozen T5.out 0; have fs1 := blk_frozen T5.out 1
    go_upto_region 7 with (fail)
    clear r0 r1 fr0 fr1 s0 s1 fs0 fs1
    have P_ := Aside0.mk (put_two (n := w.heap.size) (w := w) (.slice none 0 0) (.slice none 0 0) T4.out BB.out (by omega))
    have T2_ := Aside0.mk (two_far' (.slice none 0 0) (.slice none 0 0) T2.out (show w.heap.size ≠ w.heap.size + 1 by omega))
    have T5_ := Aside0.mk (two_far (.slice none 0 0) (.slice none 0 0) T5.out T4.out (by decide))
    have BB_ := Aside0.mk P_.out.2
    have T4_ := Aside0.mk P_.out.1
    clear P_ BB T2 T4 T5
    generalize ((wq).setCell ⟨w.heap.size + 1, 0, none⟩ (.slice none 0 0)).setCell ⟨w.heap.size + 1, 1, none⟩ (.slice none 0 0) = wy at BB_ T2_ T4_ T5_ ⊢
    have BB := BB_
    have T2 := T2_
    have T4 := T4_
    have T5 := T5_
    clear BB_ T2_ T4_ T5_
    have P_ := Aside0.mk (put_two (n := w.heap.size) (w := w) (.slice none 0 0) (.slice none 0 0) T5.out BB.out (by omega))
    have T2_ := Aside0.mk (two_far (.slice none 0 0) (.slice none 0 0) T2.out T5.out (by decide))
    have T4_ := Aside0.mk (two_far (.slice none 0 0) (.slice none 0 0) T4.out T5.out (by decide))
    have BB_ := Aside0.mk P_.out.2
    have T5_ := Aside0.mk P_.out.1
    clear P_ BB T2 T4 T5
    generalize ((wy).setCell ⟨w.heap.size + 1 + 1, 0, none⟩ (.slice none 0 0)).setCell ⟨w.heap.size + 1 + 1, 1, none⟩ (.slice none 0 0) = wz at BB_ T2_ T4_ T5_ ⊢
    have BB := BB_
    have T2 := T2_
    have T4 := T4_
    have T5 := T5_
    clear BB_ T2_ T4_ T5_
    go_wp2
    refine bodyPost_ret (results_cells3 rfl rfl rfl (loadVar_two 29 (by kernel_rfl) (by kernel_rfl) T4.out) (loadVar_two 33 (by kernel_rfl) (by kernel_rfl) T5.out)) rfl ?_
    show RetN w (cancelF H W x).1 (cancelF H W x).2 _ _
    rw [HE.out]
    exact ⟨_, _, rfl, tabV_nil _ _, newsV_nil _ _, BB.out⟩
  | some k =>
  have hwn : waitN W x = (k : Int) := by
    unfold waitN firstAt
    unfold PL.waitI at hw
    rw [hw]
  have hkW : k < W.length := by
    obtain ⟨y, hy, _⟩ := PL.waitI_some hw
    exact (List.getElem?_eq_some_iff.1 hy).1
  have HIX := Aside0.mk hkW
  have HE := Aside0.mk (show cancelF H W x = (settleL H (W.eraseIdx k), 0) by unfold cancelF; rw [if_pos HZ.out, hw])
  rw [hwn]
  clear hw hwn
  have g1 : decide ((k : Int) < 0) = false := by simp
  have x0 := (blk_cell T2.out 0).trans rfl; have x1 := (blk_cell T2.out 1).trans rfl
  go_upto_region 8 with (fail)
  refine (copiedR_calls _ _ c d H W _ (Kd.C_below HC1.out BB.out) (Kd.C_below HC2.out BB.out) l1 l2 hlen).mono ?_
  rintro e w3 ⟨v0, v1, rfl, r0, r1, hb⟩
  have LL := Aside0.mk BB.out.size
  have T2 := Aside0.mk (blk_below T2.out hb)
  have T4 := Aside0.mk (blk_below T4.out hb)
  have T5 := Aside0.mk (blk_below T5.out hb)
  have BB := Aside0.mk (below_step BB.out hb)
  have RH := Aside0.mk (Kd.R_lower r0 LL.out)
  have RW := Aside0.mk (Kd.R_lower r1 LL.out)
  clear hb r0 r1 x0 x1
  obtain ⟨hA, hc, rfl⟩ := Kd.R_slice RH.out
  obtain ⟨wA, wc, rfl⟩ := Kd.R_slice RW.out
  go_upto_region 8 with (fail)
  have LT9 := Aside0.mk (show w.heap.size ≤ w3.heap.size from BB.out.size)
  have NT9 := Aside0.mk (show w.heap.size + 1 < w3.heap.size from blk_lt T4.out)
  have MT9 := Aside0.mk (show w.heap.size + 1 + 1 ≠ w3.heap.size from Nat.ne_of_lt (blk_lt T5.out))
  have hbx := below_alloc (Below.refl _ w3) (.cells #[.slice hA H.length hc, .slice wA W.length wc] 29)
  have T9 := Aside0.mk (blk_new w3 (.cells #[.slice hA H.length hc, .slice wA W.length wc] 29))
  have T2 := Aside0.mk (blk_below T2.out hbx)
  have T4 := Aside0.mk (blk_below T4.out hbx)
  have T5 := Aside0.mk (blk_below T5.out hbx)
  have RH := Aside0.mk (Kd.R_below RH.out hbx)
  have RW := Aside0.mk (Kd.R_below RW.out hbx)
  have BB := Aside0.mk (below_step BB.out hbx)
  clear hbx
  generalize w3.alloc (.cells #[.slice hA H.length hc, .slice wA W.length wc] 29) = w4 at BB T2 T4 T5 T9 RH RW ⊢
  generalize w3.heap.size = b9 at T9 LT9 NT9 MT9 ⊢
  have x0 := (blk_cell T9.out 0).trans rfl; have x1 := (blk_cell T9.out 1).trans rfl
  go_upto_region 9 with (fail)
  refine (withoutR_calls wA wc W k _ (Kd.R_reads' RW.out).2.2 (Kd.R_reads' RW.out).2.1 HIX.out (by omega)).mono ?_
  rintro e w7 ⟨v, rfl, hv, hb⟩
  obtain ⟨LE, hLE⟩ : ∃ LE, LE = W.eraseIdx k := ⟨_, rfl⟩
  have HLE := Aside0.mk hLE
  rw [← hLE] at hv
  clear hLE
  have RW := Aside0.mk (R_fresh RH.out hv BB.out.size)
  have RH := Aside0.mk (R_old RH.out hb hv)
  have T2 := Aside0.mk (blk_below T2.out hb)
  have T4 := Aside0.mk (blk_below T4.out hb)
  have T5 := Aside0.mk (blk_below T5.out hb)
  have T9 := Aside0.mk (blk_below T9.out hb)
  have BB := Aside0.mk (below_step BB.out hb)
  clear hb hv x0 x1
  obtain ⟨qA, qc, rfl⟩ := Kd.R_slice RW.out
  have x0 := (blk_cell T9.out 0).trans rfl; have x1 := (blk_cell T9.out 1).trans rfl
  have fx0 := blk_frozen T9.out 0; have fx1 := blk_frozen T9.out 1
  go_upto_region 9 with (fail)
  clear x0 x1 fx0 fx1
  have T2 := Aside0.mk (blk_far T2.out (p := ⟨b9, 1, none⟩) (show w.heap.size ≠ b9 by have := NT9.out; omega) (.slice qA LE.length qc))
  have T4 := Aside0.mk (blk_far T4.out (p := ⟨b9, 1, none⟩) (show w.heap.size + 1 ≠ b9 by have := NT9.out; omega) (.slice qA LE.length qc))
  have T5 := Aside0.mk (blk_far T5.out (p := ⟨b9, 1, none⟩) (blk_ne T5.out T9.out (by decide)) (.slice qA LE.length qc))
  have RH := Aside0.mk (Kd.R_set RH.out T9.out (by decide) 1 (.slice qA LE.length qc))
  have RW := Aside0.mk (Kd.R_set RW.out T9.out (by decide) 1 (.slice qA LE.length qc))
  have BB := Aside0.mk (BB.out.setCell (p := ⟨b9, 1, none⟩) LT9.out (.slice qA LE.length qc))
  have T9 := Aside0.mk (blk_put T9.out 1 (.slice qA LE.length qc) rfl)
  generalize w7.setCell ⟨b9, 1, none⟩ (.slice qA LE.length qc) = w8x at BB T2 T4 T5 T9 RH RW ⊢
  have HLS := Aside0.mk (show LE.Sublist W by rw [HLE.out]; exact List.eraseIdx_sublist _ _)
  have x0 := (blk_cell T9.out 0).trans rfl; have x1 := (blk_cell T9.out 1).trans rfl
  go_upto_region 10 with (fail)
  refine (settleR_calls hA qA hc qc H LE _ (Kd.R_reads' RH.out).2.2 (Kd.R_reads' RW.out).2.2 (Kd.R_reads' RH.out).2.1 (Kd.R_reads' RW.out).2.1 HI.out.allH (fun x hx => HI.out.allW x (HLS.out.subset hx)) (by have h9 := HI.out.single; unfold PL.Single at *; exact h9.sublist (HLS.out.map _)) (by have := HLS.out.length_le; omega)).mono ?_
  rintro e w6 ⟨v, u, rfl, ⟨vH, vW, rfl, hvH, hvW⟩, ⟨vG, vN, rfl, hvG, hvN⟩, hb⟩
  obtain ⟨R, hR⟩ : ∃ R, R = settleL H LE := ⟨_, rfl⟩
  rw [← hR] at hvH hvW hvG hvN
  have HE := Aside0.mk (show cancelF H W x = (R, 0) by rw [HE.out, hR, HLE.out])
  clear hR
  obtain ⟨X1, X2, G, N⟩ := R
  dsimp only at hvH hvW hvG hvN
  obtain ⟨a5, c5, rfl⟩ := Kd.R_slice hvH
  obtain ⟨a6, c6, rfl⟩ := Kd.R_slice hvW
  obtain ⟨a7, c7, rfl⟩ := Kd.R_slice hvG
  obtain ⟨a8, c8, rfl⟩ := Kd.R_slice hvN
  have LL := Aside0.mk BB.out.size
  clear RH RW
  have T2 := Aside0.mk (blk_below T2.out hb)
  have T4 := Aside0.mk (blk_below T4.out hb)
  have T5 := Aside0.mk (blk_below T5.out hb)
  have T9 := Aside0.mk (blk_below T9.out hb)
  have BB := Aside0.mk (below_step BB.out hb)
  have R5 := Aside0.mk (Kd.R_lower hvH LL.out)
  have R6 := Aside0.mk (Kd.R_lower hvW LL.out)
  have R7 := Aside0.mk (Kd.R_lower hvG LL.out)
  have R8 := Aside0.mk (Kd.R_lower hvN LL.out)
  clear hb hvH hvW hvG hvN x0 x1
  have LTN := Aside0.mk (show w.heap.size ≤ w6.heap.size from BB.out.size)
  have NTN := Aside0.mk (show w.heap.size + 1 + 1 < w6.heap.size from blk_lt T5.out)
  have hne : w6.heap.size ≠ b9 := (Nat.ne_of_lt (blk_lt T9.out)).symm
  have hne' : b9 ≠ w6.heap.size := Nat.ne_of_lt (blk_lt T9.out)
  have hbx := below_alloc (Below.refl _ w6) (.cells #[.slice none 0 0, .slice none 0 0] 33)
  have TN := Aside0.mk (blk_new w6 (.cells #[.slice none 0 0, .slice none 0 0] 33))
  have T2 := Aside0.mk (blk_below T2.out hbx)
  have T4 := Aside0.mk (blk_below T4.out hbx)
  have T5 := Aside0.mk (blk_below T5.out hbx)
  have T9 := Aside0.mk (blk_below T9.out hbx)
  have R5 := Aside0.mk (Kd.R_below R5.out hbx)
  have R6 := Aside0.mk (Kd.R_below R6.out hbx)
  have R7 := Aside0.mk (Kd.R_below R7.out hbx)
  have R8 := Aside0.mk (Kd.R_below R8.out hbx)
  have BB := Aside0.mk (below_step BB.out hbx)
  clear hbx
  have x0 := (blk_cell T9.out 0).trans rfl; have x1 := (blk_cell T9.out 1).trans rfl
  have fx0 := blk_frozen T9.out 0; have fx1 := blk_frozen T9.out 1
  have n0 := (blk_cell TN.out 0).trans rfl; have n1 := (blk_cell TN.out 1).trans rfl
  have fn0 := blk_frozen TN.out 0; have fn1 := blk_frozen TN.out 1
  go_upto_region 10 with (fail)
  clear x0 x1 fx0 fx1 n0 n1 fn0 fn1
  have P_ := Aside0.mk (put_two (n := w.heap.size) (w := w) (.slice a5 X1.length c5) (.slice a6 X2.length c6) T9.out BB.out (LT9.out))
  have T2_ := Aside0.mk (two_far' (.slice a5 X1.length c5) (.slice a6 X2.length c6) T2.out (show w.heap.size ≠ b9 by have := NT9.out; omega))
  have T4_ := Aside0.mk (two_far' (.slice a5 X1.length c5) (.slice a6 X2.length c6) T4.out (show w.heap.size + 1 ≠ b9 by have := NT9.out; omega))
  have T5_ := Aside0.mk (two_far' (.slice a5 X1.length c5) (.slice a6 X2.length c6) T5.out (show w.heap.size + 1 + 1 ≠ b9 by have := MT9.out; omega))
  have TN_ := Aside0.mk (two_far' (.slice a5 X1.length c5) (.slice a6 X2.length c6) TN.out (hne))
  have R5_ := Aside0.mk (R_two (.slice a5 X1.length c5) (.slice a6 X2.length c6) R5.out T9.out (by decide))
  have R6_ := Aside0.mk (R_two (.slice a5 X1.length c5) (.slice a6 X2.length c6) R6.out T9.out (by decide))
  have R7_ := Aside0.mk (R_two (.slice a5 X1.length c5) (.slice a6 X2.length c6) R7.out T9.out (by decide))
  have R8_ := Aside0.mk (R_two (.slice a5 X1.length c5) (.slice a6 X2.length c6) R8.out T9.out (by decide))
  have BB_ := Aside0.mk P_.out.2
  have T9_ := Aside0.mk P_.out.1
  clear P_ BB T2 T4 T5 T9 TN R5 R6 R7 R8
  generalize ((w6.alloc (.cells #[.slice none 0 0, .slice none 0 0] 33)).setCell ⟨b9, 0, none⟩ (.slice a5 X1.length c5)).setCell ⟨b9, 1, none⟩ (.slice a6 X2.length c6) = w7 at BB_ T2_ T4_ T5_ T9_ TN_ R5_ R6_ R7_ R8_ ⊢
  have BB := BB_
  have T2 := T2_
  have T4 := T4_
  have T5 := T5_
  have T9 := T9_
  have TN := TN_
  have R5 := R5_
  have R6 := R6_
  have R7 := R7_
  have R8 := R8_
  clear BB_ T2_ T4_ T5_ T9_ TN_ R5_ R6_ R7_ R8_
  have P_ := Aside0.mk (put_two (n := w.heap.size) (w := w) (.slice a7 G.length c7) (.slice a8 N.length c8) TN.out BB.out (LTN.out))
  have T2_ := Aside0.mk (two_far (.slice a7 G.length c7) (.slice a8 N.length c8) T2.out TN.out (by decide))
  have T4_ := Aside0.mk (two_far (.slice a7 G.length c7) (.slice a8 N.length c8) T4.out TN.out (by decide))
  have T5_ := Aside0.mk (two_far' (.slice a7 G.length c7) (.slice a8 N.length c8) T5.out (show w.heap.size + 1 + 1 ≠ w6.heap.size by have := NTN.out; omega))
  have T9_ := Aside0.mk (two_far' (.slice a7 G.length c7) (.slice a8 N.length c8) T9.out (hne'))
  have R5_ := Aside0.mk (R_two (.slice a7 G.length c7) (.slice a8 N.length c8) R5.out TN.out (by decide))
  have R6_ := Aside0.mk (R_two (.slice a7 G.length c7) (.slice a8 N.length c8) R6.out TN.out (by decide))
  have R7_ := Aside0.mk (R_two (.slice a7 G.length c7) (.slice a8 N.length c8) R7.out TN.out (by decide))
  have R8_ := Aside0.mk (R_two (.slice a7 G.length c7) (.slice a8 N.length c8) R8.out TN.out (by decide))
  have BB_ := Aside0.mk P_.out.2
  have TN_ := Aside0.mk P_.out.1
  clear P_ BB T2 T4 T5 T9 TN R5 R6 R7 R8
  generalize ((w7).setCell ⟨w6.heap.size, 0, none⟩ (.slice a7 G.length c7)).setCell ⟨w6.heap.size, 1, none⟩ (.slice a8 N.length c8) = w8 at BB_ T2_ T4_ T5_ T9_ TN_ R5_ R6_ R7_ R8_ ⊢
  have BB := BB_
  have T2 := T2_
  have T4 := T4_
  have T5 := T5_
  have T9 := T9_
  have TN := TN_
  have R5 := R5_
  have R6 := R6_
  have R7 := R7_
  have R8 := R8_
  clear BB_ T2_ T4_ T5_ T9_ TN_ R5_ R6_ R7_ R8_
  generalize w6.heap.size = bn at TN LTN NTN hne hne' ⊢
  clear hne hne'
  refine start_ (n := 5) (S := fun w' => w'.cell? ⟨b9, 0, none⟩ = some (.slice a5 X1.length c5) ∧ w'.cell? ⟨b9, 1, none⟩ = some (.slice a6 X2.length c6) ∧ w'.cell? ⟨bn, 0, none⟩ = some (.slice a7 G.length c7) ∧ w'.cell? ⟨bn, 1, none⟩ = some (.slice a8 N.length c8)) (ds := [3]) #[false, false, false, false, false] (by kernel_rfl) rfl rfl ⟨(blk_cell T9.out 0).trans rfl, (blk_cell T9.out 1).trans rfl, (blk_cell TN.out 0).trans rfl, (blk_cell TN.out 1).trans rfl⟩ (fun hHeld => ?_)
  have hbd := below_drew1 (Below.refl w8.heap.size w8)
  have T2 := Aside0.mk (blk_below T2.out hbd)
  have T4 := Aside0.mk (blk_below T4.out hbd)
  have T5 := Aside0.mk (blk_below T5.out hbd)
  have T9 := Aside0.mk (blk_below T9.out hbd)
  have TN := Aside0.mk (blk_below TN.out hbd)
  have R5 := Aside0.mk (Kd.R_below R5.out hbd)
  have R6 := Aside0.mk (Kd.R_below R6.out hbd)
  have R7 := Aside0.mk (Kd.R_below R7.out hbd)
  have R8 := Aside0.mk (Kd.R_below R8.out hbd)
  have BB := Aside0.mk (below_step BB.out hbd)
  clear hbd
  generalize w8.drew = wd at BB T2 T4 T5 T9 TN R5 R6 R7 R8 hHeld ⊢
  refine take_ (i := 0) (N := some 38) (v := ?_) (a' := ?_) #[true, false, false, false, false] rfl rfl (by kernel_rfl) (fun _ _ _ h => h) (Or.inl ⟨by rfl, ?_⟩) hHeld ?_ ?_
  rotate_left
  · rintro w' ⟨s0, s1, s2, s3⟩
    go_simp
    with_reducible rfl
  rotate_left
  · simp only [Act.put, List.setIfInBounds_toArray, List.set_cons_zero, List.set_cons_succ, i64_w, i32_w]
    rfl
  refine take_ (i := 1) (N := some 39) (v := ?_) (a' := ?_) #[true, true, false, false, false] rfl rfl (by kernel_rfl) (fun _ _ _ h => h) (Or.inl ⟨by rfl, ?_⟩) hHeld ?_ ?_
  rotate_left
  · rintro w' ⟨s0, s1, s2, s3⟩
    go_simp
    with_reducible rfl
  rotate_left
  · simp only [Act.put, List.setIfInBounds_toArray, List.set_cons_zero, List.set_cons_succ, i64_w, i32_w]
    rfl
  have r0 := (blk_cell T4.out 0).trans rfl; have r1 := (blk_cell T4.out 1).trans rfl
  have fr0 := blk_frozen T4.out 0; have fr1 := blk_frozen T4.out 1
  refine one_ (i := 2) (N := none) #[true, true, true, false, false] rfl rfl (by kernel_rfl) (by decide) (fun K hK => ?_)
  refine skip_ (w1 := ?_) (by rfl) rfl ?_ ?_
  rotate_left
  · go_simp
    rfl
  clear r0 r1 fr0 fr1
  have P_ := Aside0.mk (put_two (n := w.heap.size) (w := w) (.slice a5 X1.length c5) (.slice a6 X2.length c6) T4.out BB.out (by omega))
  have T2_ := Aside0.mk (two_far' (.slice a5 X1.length c5) (.slice a6 X2.length c6) T2.out (show w.heap.size ≠ w.heap.size + 1 by omega))
  have T5_ := Aside0.mk (two_far (.slice a5 X1.length c5) (.slice a6 X2.length c6) T5.out T4.out (by decide))
  have T9_ := Aside0.mk (two_far' (.slice a5 X1.length c5) (.slice a6 X2.length c6) T9.out (show b9 ≠ w.heap.size + 1 by have := NT9.out; omega))
  have TN_ := Aside0.mk (two_far (.slice a5 X1.length c5) (.slice a6 X2.length c6) TN.out T4.out (by decide))
  have R5_ := Aside0.mk (R_two (.slice a5 X1.length c5) (.slice a6 X2.length c6) R5.out T4.out (by decide))
  have R6_ := Aside0.mk (R_two (.slice a5 X1.length c5) (.slice a6 X2.length c6) R6.out T4.out (by decide))
  have R7_ := Aside0.mk (R_two (.slice a5 X1.length c5) (.slice a6 X2.length c6) R7.out T4.out (by decide))
  have R8_ := Aside0.mk (R_two (.slice a5 X1.length c5) (.slice a6 X2.length c6) R8.out T4.out (by decide))
  have BB_ := Aside0.mk P_.out.2
  have T4_ := Aside0.mk P_.out.1
  clear P_ BB T2 T4 T5 T9 TN R5 R6 R7 R8
  generalize ((wd).setCell ⟨w.heap.size + 1, 0, none⟩ (.slice a5 X1.length c5)).setCell ⟨w.heap.size + 1, 1, none⟩ (.slice a6 X2.length c6) = we at BB_ T2_ T4_ T5_ T9_ TN_ R5_ R6_ R7_ R8_ ⊢
  have BB := BB_
  have T2 := T2_
  have T4 := T4_
  have T5 := T5_
  have T9 := T9_
  have TN := TN_
  have R5 := R5_
  have R6 := R6_
  have R7 := R7_
  have R8 := R8_
  clear BB_ T2_ T4_ T5_ T9_ TN_ R5_ R6_ R7_ R8_
  refine hK.out _ _ ⟨(blk_cell T9.out 0).trans rfl, (blk_cell T9.out 1).trans rfl, (blk_cell TN.out 0).trans rfl, (blk_cell TN.out 1).trans rfl⟩ (fun hHeld => ?_)
  clear hK K
  have r0 := (blk_cell T5.out 0).trans rfl; have r1 := (blk_cell T5.out 1).trans rfl
  have fr0 := blk_frozen T5.out 0; have fr1 := blk_frozen T5.out 1
  refine last_ (i := 3) (N := none) #[true, true, true, true, false] rfl rfl (by kernel_rfl) (by decide) (fun K hK => ?_)
  refine skip_ (w1 := ?_) (by rfl) rfl ?_ ?_
  rotate_left
  · go_simp
    rfl
  refine hK.out _ _ ?_
  clear hK K hHeld r0 r1 fr0 fr1
  have P_ := Aside0.mk (put_two (n := w.heap.size) (w := w) (.slice a7 G.length c7) (.slice a8 N.length c8) T5.out BB.out (by omega))
  have T2_ := Aside0.mk (two_far (.slice a7 G.length c7) (.slice a8 N.length c8) T2.out T5.out (by decide))
  have T4_ := Aside0.mk (two_far (.slice a7 G.length c7) (.slice a8 N.length c8) T4.out T5.out (by decide))
  have T9_ := Aside0.mk (two_far' (.slice a7 G.length c7) (.slice a8 N.length c8) T9.out (show b9 ≠ w.heap.size + 1 + 1 by have := MT9.out; omega))
  have TN_ := Aside0.mk (two_far' (.slice a7 G.length c7) (.slice a8 N.length c8) TN.out (show bn ≠ w.heap.size + 1 + 1 by have := NTN.out; omega))
  have R5_ := Aside0.mk (R_two (.slice a7 G.length c7) (.slice a8 N.length c8) R5.out T5.out (by decide))
  have R6_ := Aside0.mk (R_two (.slice a7 G.length c7) (.slice a8 N.length c8) R6.out T5.out (by decide))
  have R7_ := Aside0.mk (R_two (.slice a7 G.length c7) (.slice a8 N.length c8) R7.out T5.out (by decide))
  have R8_ := Aside0.mk (R_two (.slice a7 G.length c7) (.slice a8 N.length c8) R8.out T5.out (by decide))
  have BB_ := Aside0.mk P_.out.2
  have T5_ := Aside0.mk P_.out.1
  clear P_ BB T2 T4 T5 T9 TN R5 R6 R7 R8
  generalize ((we).setCell ⟨w.heap.size + 1 + 1, 0, none⟩ (.slice a7 G.length c7)).setCell ⟨w.heap.size + 1 + 1, 1, none⟩ (.slice a8 N.length c8) = wf at BB_ T2_ T4_ T5_ T9_ TN_ R5_ R6_ R7_ R8_ ⊢
  have BB := BB_
  have T2 := T2_
  have T4 := T4_
  have T5 := T5_
  have T9 := T9_
  have TN := TN_
  have R5 := R5_
  have R6 := R6_
  have R7 := R7_
  have R8 := R8_
  clear BB_ T2_ T4_ T5_ T9_ TN_ R5_ R6_ R7_ R8_
  skip
  refine pure_ (i := 4) (N := some 6) (v := ?_) (a' := ?_) #[true, true, true, true, true] rfl rfl (by kernel_rfl) (fun _ _ _ h => h) (Or.inl ⟨by rfl, ?_⟩) ?_ ?_
  rotate_left
  · intro w'
    go_simp
    with_reducible rfl
  rotate_left
  · simp only [Act.put, List.setIfInBounds_toArray, List.set_cons_zero, List.set_cons_succ, i64_w, i32_w]
    rfl
  refine done_ (by kernel_rfl) ?_
  go_wp2
  refine bodyPost_ret (results_cells3 rfl rfl rfl (loadVar_two 29 (by kernel_rfl) (by kernel_rfl) T4.out) (loadVar_two 33 (by kernel_rfl) (by kernel_rfl) T5.out)) rfl ?_
  show RetN w (cancelF H W x).1 (cancelF H W x).2 _ _
  rw [HE.out]
  exact ⟨_, _, rfl, ⟨_, _, rfl, R5.out, R6.out⟩, ⟨_, _, rfl, R7.out, R8.out⟩, BB.out⟩
attribute [local go_sem high] eqA24
set_option maxRecDepth 100000 in
set_option maxHeartbeats 8000000 in
theorem unlockR_calls (A B : Option Addr) (c d : Nat) (H W : List S24) (l : S24) (w : World) (h1 : k24.C w A H.length H) (h2 : k24.C w B W.length W) (l1 : H.length ≤ c) (l2 : W.length ≤ d) (hlen : H.length + W.length ≤ 1000) :
    Calls Try.prog 37 #[.agg #[.slice A H.length c, .slice B W.length d], .agg #[.int .i64 l.f0, .int .i64 l.f1, .int .i64 l.f2, .int .i64 l.f3, .bool l.f4]] w fun e w' => RetN w (unlockF H W l).1 (unlockF H W l).2 e w' := by
  have HC1 := Aside0.mk h1
  have HC2 := Aside0.mk h2
  clear h1 h2
  go_enter Try.func37, Try.ntmps37
  go_upto_region 1 with (fail)
  have hb_ := below_alloc (below_alloc (below_alloc (below_alloc (Below.refl _ w) (.cells #[.slice A H.length c, .slice B W.length d] 29)) (.cells #[.int .i64 l.f0, .int .i64 l.f1, .int .i64 l.f2, .int .i64 l.f3, .bool l.f4] 24)) (.cells #[.slice none 0 0, .slice none 0 0] 29)) (.cells #[.slice none 0 0, .slice none 0 0] 33)
  have hG0_ := blk_alloc (blk_alloc (blk_alloc (blk_lit0 w (.cells #[.slice A H.length c, .slice B W.length d] 29)) (.cells #[.int .i64 l.f0, .int .i64 l.f1, .int .i64 l.f2, .int .i64 l.f3, .bool l.f4] 24)) (.cells #[.slice none 0 0, .slice none 0 0] 29)) (.cells #[.slice none 0 0, .slice none 0 0] 33)
  have hG1_ := blk_alloc (blk_alloc (blk_lit w (.cells #[.slice A H.length c, .slice B W.length d] 29) (.cells #[.int .i64 l.f0, .int .i64 l.f1, .int .i64 l.f2, .int .i64 l.f3, .bool l.f4] 24)) (.cells #[.slice none 0 0, .slice none 0 0] 29)) (.cells #[.slice none 0 0, .slice none 0 0] 33)
  have hG2_ := blk_alloc (blk_lit2 w (.cells #[.slice A H.length c, .slice B W.length d] 29) (.cells #[.int .i64 l.f0, .int .i64 l.f1, .int .i64 l.f2, .int .i64 l.f3, .bool l.f4] 24) (.cells #[.slice none 0 0, .slice none 0 0] 29)) (.cells #[.slice none 0 0, .slice none 0 0] 33)
  have hG3_ := blk_lit3 w (.cells #[.slice A H.length c, .slice B W.length d] 29) (.cells #[.int .i64 l.f0, .int .i64 l.f1, .int .i64 l.f2, .int .i64 l.f3, .bool l.f4] 24) (.cells #[.slice none 0 0, .slice none 0 0] 29) (.cells #[.slice none 0 0, .slice none 0 0] 33)
  generalize ((((w.alloc (.cells #[.slice A H.length c, .slice B W.length d] 29)).alloc (.cells #[.int .i64 l.f0, .int .i64 l.f1, .int .i64 l.f2, .int .i64 l.f3, .bool l.f4] 24)).alloc (.cells #[.slice none 0 0, .slice none 0 0] 29)).alloc (.cells #[.slice none 0 0, .slice none 0 0] 33)) = V at hb_ hG0_ hG1_ hG2_ hG3_ ⊢
  have HB_V := Aside0.mk hb_
  have V0 := Aside0.mk hG0_
  have V1 := Aside0.mk hG1_
  have V2 := Aside0.mk hG2_
  have V3 := Aside0.mk hG3_
  clear hb_ hG0_ hG1_ hG2_ hG3_
  have x0 := (blk_cell V0.out 0).trans rfl; have x1 := (blk_cell V0.out 1).trans rfl
  go_upto_region 2 with (fail)
  refine (checkR_calls A B c d H W _ (Kd.C_below HC1.out HB_V.out) (Kd.C_below HC2.out HB_V.out) l1 l2 hlen).mono ?_
  rintro e w2 ⟨rfl, hb⟩
  have T2 := Aside0.mk (blk_below V0.out hb)
  have T3 := Aside0.mk (blk_below V1.out hb)
  have T4 := Aside0.mk (blk_below V2.out hb)
  have T5 := Aside0.mk (blk_below V3.out hb)
  have BB := Aside0.mk (below_step HB_V.out hb)
  clear hb x0 x1 HB_V V0 V1 V2 V3
  rcases chk_cases H W with ⟨hk, hcb⟩ | ⟨hk, hcb⟩
  · have HE := Aside0.mk (show unlockF H W l = (([], [], [], []), 9) by unfold unlockF; rw [chk_beg hk, if_neg (by decide)])
    rw [hk]
    clear hk hcb
    have r0 := (blk_cell T4.out 0).trans rfl; have r1 := (blk_cell T4.out 1).trans rfl
    have fr0 := blk_frozen T4.out 0; have fr1 := blk_frozen T4.out 1
    have s0 := (blk_cell T5.out 0).trans rfl; have s1 := (blk_cell T5.out 1).trans rfl
    have fs0 := blk_frozen T5.out 0; have fs1 := blk_frozen T5.out 1
    go_upto_region 3 with (fail)
    clear r0 r1 fr0 fr1 s0 s1 fs0 fs1
    have P_ := Aside0.mk (put_two (n := w.heap.size) (w := w) (.slice none 0 0) (.slice none 0 0) T4.out BB.out (by omega))
    have T2_ := Aside0.mk (two_far' (.slice none 0 0) (.slice none 0 0) T2.out (show w.heap.size ≠ w.heap.size + 1 + 1 by omega))
    have T3_ := Aside0.mk (two_far (.slice none 0 0) (.slice none 0 0) T3.out T4.out (by decide))
    have T5_ := Aside0.mk (two_far (.slice none 0 0) (.slice none 0 0) T5.out T4.out (by decide))
    have BB_ := Aside0.mk P_.out.2
    have T4_ := Aside0.mk P_.out.1
    clear P_ BB T2 T3 T4 T5
    generalize ((w2).setCell ⟨w.heap.size + 1 + 1, 0, none⟩ (.slice none 0 0)).setCell ⟨w.heap.size + 1 + 1, 1, none⟩ (.slice none 0 0) = wy at BB_ T2_ T3_ T4_ T5_ ⊢
    have BB := BB_
    have T2 := T2_
    have T3 := T3_
    have T4 := T4_
    have T5 := T5_
    clear BB_ T2_ T3_ T4_ T5_
    have P_ := Aside0.mk (put_two (n := w.heap.size) (w := w) (.slice none 0 0) (.slice none 0 0) T5.out BB.out (by omega))
    have T2_ := Aside0.mk (two_far (.slice none 0 0) (.slice none 0 0) T2.out T5.out (by decide))
    have T3_ := Aside0.mk (two_far (.slice none 0 0) (.slice none 0 0) T3.out T5.out (by decide))
    have T4_ := Aside0.mk (two_far (.slice none 0 0) (.slice none 0 0) T4.out T5.out (by decide))
    have BB_ := Aside0.mk P_.out.2
    have T5_ := Aside0.mk P_.out.1
    clear P_ BB T2 T3 T4 T5
    generalize ((wy).setCell ⟨w.heap.size + 1 + 1 + 1, 0, none⟩ (.slice none 0 0)).setCell ⟨w.heap.size + 1 + 1 + 1, 1, none⟩ (.slice none 0 0) = wz at BB_ T2_ T3_ T4_ T5_ ⊢
    have BB := BB_
    have T2 := T2_
    have T3 := T3_
    have T4 := T4_
    have T5 := T5_
    clear BB_ T2_ T3_ T4_ T5_
    go_wp2
    refine bodyPost_ret (results_cells3 rfl rfl rfl (loadVar_two 29 (by kernel_rfl) (by kernel_rfl) T4.out) (loadVar_two 33 (by kernel_rfl) (by kernel_rfl) T5.out)) rfl ?_
    show RetN w (unlockF H W l).1 (unlockF H W l).2 _ _
    rw [HE.out]
    exact ⟨_, _, rfl, tabV_nil _ _, newsV_nil _ _, BB.out⟩
  rw [hk]
  have HCB := Aside0.mk hcb
  have HI := Aside0.mk (Inv.iff.2 hcb)
  clear hk hcb
  have y0 := (blk_cell T3.out 0).trans rfl; have y1 := (blk_cell T3.out 1).trans rfl; have y2 := (blk_cell T3.out 2).trans rfl; have y3 := (blk_cell T3.out 3).trans rfl; have y4 := (blk_cell T3.out 4).trans rfl
  go_upto_region 4 with (fail)
  refine (validR_calls l _).mono ?_
  rintro e w3v ⟨rfl, hb⟩
  have T2 := Aside0.mk (blk_below T2.out hb)
  have T3 := Aside0.mk (blk_below T3.out hb)
  have T4 := Aside0.mk (blk_below T4.out hb)
  have T5 := Aside0.mk (blk_below T5.out hb)
  have BB := Aside0.mk (below_step BB.out hb)
  clear hb y0 y1 y2 y3 y4
  cases hv : vL l with
  | false =>
    have HE := Aside0.mk (show unlockF H W l = (([], [], [], []), 1) by unfold unlockF; rw [beg_is HCB.out, hv]; rfl)
    clear hv
    have r0 := (blk_cell T4.out 0).trans rfl; have r1 := (blk_cell T4.out 1).trans rfl
    have fr0 := blk_frozen T4.out 0; have fr1 := blk_frozen T4.out 1
    have s0 := (blk_cell T5.out 0).trans rfl; have s1 := (blk_cell T5.out 1).trans rfl
    have fs0 := blk_frozen T5.out 0; have fs1 := blk_frozen T5.out 1
    go_upto_region 5 with (fail)
    clear r0 r1 fr0 fr1 s0 s1 fs0 fs1
    have P_ := Aside0.mk (put_two (n := w.heap.size) (w := w) (.slice none 0 0) (.slice none 0 0) T4.out BB.out (by omega))
    have T2_ := Aside0.mk (two_far' (.slice none 0 0) (.slice none 0 0) T2.out (show w.heap.size ≠ w.heap.size + 1 + 1 by omega))
    have T3_ := Aside0.mk (two_far (.slice none 0 0) (.slice none 0 0) T3.out T4.out (by decide))
    have T5_ := Aside0.mk (two_far (.slice none 0 0) (.slice none 0 0) T5.out T4.out (by decide))
    have BB_ := Aside0.mk P_.out.2
    have T4_ := Aside0.mk P_.out.1
    clear P_ BB T2 T3 T4 T5
    generalize ((w3v).setCell ⟨w.heap.size + 1 + 1, 0, none⟩ (.slice none 0 0)).setCell ⟨w.heap.size + 1 + 1, 1, none⟩ (.slice none 0 0) = wy at BB_ T2_ T3_ T4_ T5_ ⊢
    have BB := BB_
    have T2 := T2_
    have T3 := T3_
    have T4 := T4_
    have T5 := T5_
    clear BB_ T2_ T3_ T4_ T5_
    have P_ := Aside0.mk (put_two (n := w.heap.size) (w := w) (.slice none 0 0) (.slice none 0 0) T5.out BB.out (by omega))
    have T2_ := Aside0.mk (two_far (.slice none 0 0) (.slice none 0 0) T2.out T5.out (by decide))
    have T3_ := Aside0.mk (two_far (.slice none 0 0) (.slice none 0 0) T3.out T5.out (by decide))
    have T4_ := Aside0.mk (two_far (.slice none 0 0) (.slice none 0 0) T4.out T5.out (by decide))
    have BB_ := Aside0.mk P_.out.2
    have T5_ := Aside0.mk P_.out.1
    clear P_ BB T2 T3 T4 T5
    generalize ((wy).setCell ⟨w.heap.size + 1 + 1 + 1, 0, none⟩ (.slice none 0 0)).setCell ⟨w.heap.size + 1 + 1 + 1, 1, none⟩ (.slice none 0 0) = wz at BB_ T2_ T3_ T4_ T5_ ⊢
    have BB := BB_
    have T2 := T2_
    have T3 := T3_
    have T4 := T4_
    have T5 := T5_
    clear BB_ T2_ T3_ T4_ T5_
    go_wp2
    refine bodyPost_ret (results_cells3 rfl rfl rfl (loadVar_two 29 (by kernel_rfl) (by kernel_rfl) T4.out) (loadVar_two 33 (by kernel_rfl) (by kernel_rfl) T5.out)) rfl ?_
    show RetN w (unlockF H W l).1 (unlockF H W l).2 _ _
    rw [HE.out]
    exact ⟨_, _, rfl, tabV_nil _ _, newsV_nil _ _, BB.out⟩
  | true =>
  have HV := Aside0.mk (show begE H W (vL l) = 0 by rw [beg_is HCB.out, hv]; rfl)
  clear hv
  have x0 := (blk_cell T2.out 0).trans rfl; have x1 := (blk_cell T2.out 1).trans rfl
  go_upto_region 6 with (fail)
  clear x0 x1
  go_loopg [7] H.length (fun kq v7 w' => ∃ m : Nat, v7 = .int .i64 ((m : Int) - 1) ∧ Aside0 (kq = m ∧ m ≤ H.length) ∧ Aside0 (lastI H l H.length = lastI H l m) ∧ Aside0 (Below w3v.heap.size w3v w'))
  case atStart => exact ⟨H.length, rfl, ⟨rfl, Nat.le_refl _⟩, ⟨rfl⟩, ⟨Below.refl _ _⟩⟩
  case round =>
    obtain ⟨m, rfl, HM, HL, HB⟩ := hrel
    cases m with
    | zero =>
      have HE := Aside0.mk (show unlockF H W l = (([], [], [], []), 3) by unfold unlockF; rw [if_pos HV.out, HL.out]; rfl)
      rw [show ((0 : Nat) : Int) - 1 = -1 by omega]
      have g1 : decide ((0 : Int) ≤ -1) = false := by decide
      have g2 : decide ((-1 : Int) < 0) = true := by decide
      have T2 := Aside0.mk (blk_below T2.out HB.out)
      have T3 := Aside0.mk (blk_below T3.out HB.out)
      have T4 := Aside0.mk (blk_below T4.out HB.out)
      have T5 := Aside0.mk (blk_below T5.out HB.out)
      have BB := Aside0.mk (below_step BB.out HB.out)
      clear HB
      go_upto_region 6 with (fail)
      go_quiet (fail)
      have hbq := pw_below_drewN (Below.refl wr.heap.size wr) nq
      have T2 := Aside0.mk (blk_below T2.out hbq)
      have T3 := Aside0.mk (blk_below T3.out hbq)
      have T4 := Aside0.mk (blk_below T4.out hbq)
      have T5 := Aside0.mk (blk_below T5.out hbq)
      have BB := Aside0.mk (below_step BB.out hbq)
      clear hbq
      generalize wr.drewN nq = wz0 at T2 T3 T4 T5 BB ⊢
      have r0 := (blk_cell T4.out 0).trans rfl; have r1 := (blk_cell T4.out 1).trans rfl
      have fr0 := blk_frozen T4.out 0; have fr1 := blk_frozen T4.out 1
      have s0 := (blk_cell T5.out 0).trans rfl; have s1 := (blk_cell T5.out 1).trans rfl
      have fs0 := blk_frozen T5.out 0; have fs1 := blk_frozen T5.out 1
      go_upto_region 10 with (fail)
      clear r0 r1 fr0 fr1 s0 s1 fs0 fs1
      have P_ := Aside0.mk (put_two (n := w.heap.size) (w := w) (.slice none 0 0) (.slice none 0 0) T4.out BB.out (by omega))
      have T2_ := Aside0.mk (two_far' (.slice none 0 0) (.slice none 0 0) T2.out (show w.heap.size ≠ w.heap.size + 1 + 1 by omega))
      have T3_ := Aside0.mk (two_far (.slice none 0 0) (.slice none 0 0) T3.out T4.out (by decide))
      have T5_ := Aside0.mk (two_far (.slice none 0 0) (.slice none 0 0) T5.out T4.out (by decide))
      have BB_ := Aside0.mk P_.out.2
      have T4_ := Aside0.mk P_.out.1
      clear P_ BB T2 T3 T4 T5
      generalize ((wz0).setCell ⟨w.heap.size + 1 + 1, 0, none⟩ (.slice none 0 0)).setCell ⟨w.heap.size + 1 + 1, 1, none⟩ (.slice none 0 0) = wy at BB_ T2_ T3_ T4_ T5_ ⊢
      have BB := BB_
      have T2 := T2_
      have T3 := T3_
      have T4 := T4_
      have T5 := T5_
      clear BB_ T2_ T3_ T4_ T5_
      have P_ := Aside0.mk (put_two (n := w.heap.size) (w := w) (.slice none 0 0) (.slice none 0 0) T5.out BB.out (by omega))
      have T2_ := Aside0.mk (two_far (.slice none 0 0) (.slice none 0 0) T2.out T5.out (by decide))
      have T3_ := Aside0.mk (two_far (.slice none 0 0) (.slice none 0 0) T3.out T5.out (by decide))
      have T4_ := Aside0.mk (two_far (.slice none 0 0) (.slice none 0 0) T4.out T5.out (by decide))
      have BB_ := Aside0.mk P_.out.2
      have T5_ := Aside0.mk P_.out.1
      clear P_ BB T2 T3 T4 T5
      generalize ((wy).setCell ⟨w.heap.size + 1 + 1 + 1, 0, none⟩ (.slice none 0 0)).setCell ⟨w.heap.size + 1 + 1 + 1, 1, none⟩ (.slice none 0 0) = wz at BB_ T2_ T3_ T4_ T5_ ⊢
      have BB := BB_
      have T2 := T2_
      have T3 := T3_
      have T4 := T4_
      have T5 := T5_
      clear BB_ T2_ T3_ T4_ T5_
      go_wp2
      refine bodyPost_ret (results_cells3 rfl rfl rfl (loadVar_two 29 (by kernel_rfl) (by kernel_rfl) T4.out) (loadVar_two 33 (by kernel_rfl) (by kernel_rfl) T5.out)) rfl ?_
      show RetN w (unlockF H W l).1 (unlockF H W l).2 _ _
      rw [HE.out]
      exact ⟨_, _, rfl, tabV_nil _ _, newsV_nil _ _, BB.out⟩
    | succ m =>
      rw [show ((m + 1 : Nat) : Int) - 1 = (m : Int) by omega]
      have hmH : m < H.length := by have := HM.out.2; omega
      have hmc : m < c := by omega
      have g1 : decide ((0 : Int) ≤ (m : Int)) = true := by simp
      have g2 : decide ((m : Int) < 0) = false := by simp
      have g3 : decide ((m : Int) < (H.length : Int)) = true := by simpa using hmH
      have U2 := Aside0.mk (blk_below T2.out HB.out)
      have U3 := Aside0.mk (blk_below T3.out HB.out)
      have x0 := (blk_cell U2.out 0).trans rfl; have x1 := (blk_cell U2.out 1).trans rfl
      have y0 := (blk_cell U3.out 0).trans rfl; have y1 := (blk_cell U3.out 1).trans rfl; have y2 := (blk_cell U3.out 2).trans rfl; have y3 := (blk_cell U3.out 3).trans rfl; have y4 := (blk_cell U3.out 4).trans rfl
      obtain ⟨ae, hae, a0, a1, a2, a3, a4⟩ := at_T24 (Kd.C_below HC1.out (below_step BB.out HB.out)) (m : Int) (by omega) (by omega)
      cases hae
      simp only [Int.toNat_natCast] at a0 a1 a2 a3 a4
      have HLM := Aside0.mk (show lastI H l (m + 1) = if eqL (rd_T24 H (m : Int)) l then some m else lastI H l m from rfl)
      generalize rd_T24 H (m : Int) = xm at HLM a0 a1 a2 a3 a4
      cases hq : eqL xm l with
      | false =>
        have HL2 := Aside0.mk (show lastI H l H.length = lastI H l m by rw [HL.out, HLM.out, hq]; rfl)
        unfold eqL at hq
        go_upto_region 6 with (fail)
        go_quiet (fail)
        have HB := Aside0.mk (below_step HB.out (pw_below_drewN (Below.refl wr.heap.size wr) nq))
        generalize wr.drewN nq = wz0 at HB ⊢
        clear a0 a1 a2 a3 a4 x0 x1 y0 y1 y2 y3 y4 g1 g2 g3 hq
        go_wp2
        go_roundg m
        case measure => have := HM.out.1; omega
        case rel => exact ⟨m, by first | rfl | go_num, ⟨rfl, by omega⟩, HL2, HB⟩
      | true =>
        have HE := Aside0.mk (show unlockF H W l = (settleL (H.eraseIdx m) W, 0) by unfold unlockF; rw [if_pos HV.out, HL.out, HLM.out, hq]; rfl)
        have HIX := Aside0.mk hmH
        unfold eqL at hq
        go_upto_region 6 with (fail)
        go_quiet (fail)
        have hbq := below_step HB.out (pw_below_drewN (Below.refl wr.heap.size wr) nq)
        have T2 := Aside0.mk (blk_below T2.out hbq)
        have T3 := Aside0.mk (blk_below T3.out hbq)
        have T4 := Aside0.mk (blk_below T4.out hbq)
        have T5 := Aside0.mk (blk_below T5.out hbq)
        have BB := Aside0.mk (below_step BB.out hbq)
        clear hbq a0 a1 a2 a3 a4 x0 x1 y0 y1 y2 y3 y4 U2 U3 hq
        generalize wr.drewN nq = wz0 at T2 T3 T4 T5 BB ⊢
        have x0 := (blk_cell T2.out 0).trans rfl; have x1 := (blk_cell T2.out 1).trans rfl
        go_upto_region 11 with (fail)
        refine (copiedR_calls _ _ c d H W _ (Kd.C_below HC1.out BB.out) (Kd.C_below HC2.out BB.out) l1 l2 hlen).mono ?_
        rintro e w3 ⟨v0, v1, rfl, r0, r1, hb⟩
        have LL := Aside0.mk BB.out.size
        have T2 := Aside0.mk (blk_below T2.out hb)
        have T3 := Aside0.mk (blk_below T3.out hb)
        have T4 := Aside0.mk (blk_below T4.out hb)
        have T5 := Aside0.mk (blk_below T5.out hb)
        have BB := Aside0.mk (below_step BB.out hb)
        have RH := Aside0.mk (Kd.R_lower r0 LL.out)
        have RW := Aside0.mk (Kd.R_lower r1 LL.out)
        clear hb r0 r1 x0 x1
        obtain ⟨hA, hc, rfl⟩ := Kd.R_slice RH.out
        obtain ⟨wA, wc, rfl⟩ := Kd.R_slice RW.out
        go_upto_region 11 with (fail)
        have LT8 := Aside0.mk (show w.heap.size ≤ w3.heap.size from BB.out.size)
        have NT8 := Aside0.mk (show w.heap.size + 1 + 1 < w3.heap.size from blk_lt T4.out)
        have MT8 := Aside0.mk (show w.heap.size + 1 + 1 + 1 ≠ w3.heap.size from Nat.ne_of_lt (blk_lt T5.out))
        have hbx := below_alloc (Below.refl _ w3) (.cells #[.slice hA H.length hc, .slice wA W.length wc] 29)
        have T8 := Aside0.mk (blk_new w3 (.cells #[.slice hA H.length hc, .slice wA W.length wc] 29))
        have T2 := Aside0.mk (blk_below T2.out hbx)
        have T3 := Aside0.mk (blk_below T3.out hbx)
        have T4 := Aside0.mk (blk_below T4.out hbx)
        have T5 := Aside0.mk (blk_below T5.out hbx)
        have RH := Aside0.mk (Kd.R_below RH.out hbx)
        have RW := Aside0.mk (Kd.R_below RW.out hbx)
        have BB := Aside0.mk (below_step BB.out hbx)
        clear hbx
        generalize w3.alloc (.cells #[.slice hA H.length hc, .slice wA W.length wc] 29) = w4 at BB T2 T3 T4 T5 T8 RH RW ⊢
        generalize w3.heap.size = b8 at T8 LT8 NT8 MT8 ⊢
        have x0 := (blk_cell T8.out 0).trans rfl; have x1 := (blk_cell T8.out 1).trans rfl
        go_upto_region 12 with (fail)
        refine (withoutR_calls hA hc H m _ (Kd.R_reads' RH.out).2.2 (Kd.R_reads' RH.out).2.1 HIX.out (by omega)).mono ?_
        rintro e w7 ⟨v, rfl, hv, hb⟩
        obtain ⟨LE, hLE⟩ : ∃ LE, LE = H.eraseIdx m := ⟨_, rfl⟩
        have HLE := Aside0.mk hLE
        rw [← hLE] at hv
        clear hLE
        have RH := Aside0.mk (R_fresh RW.out hv BB.out.size)
        have RW := Aside0.mk (R_old RW.out hb hv)
        have T2 := Aside0.mk (blk_below T2.out hb)
        have T3 := Aside0.mk (blk_below T3.out hb)
        have T4 := Aside0.mk (blk_below T4.out hb)
        have T5 := Aside0.mk (blk_below T5.out hb)
        have T8 := Aside0.mk (blk_below T8.out hb)
        have BB := Aside0.mk (below_step BB.out hb)
        clear hb hv x0 x1
        obtain ⟨qA, qc, rfl⟩ := Kd.R_slice RH.out
        have x0 := (blk_cell T8.out 0).trans rfl; have x1 := (blk_cell T8.out 1).trans rfl
        have fx0 := blk_frozen T8.out 0; have fx1 := blk_frozen T8.out 1
        go_upto_region 12 with (fail)
        clear x0 x1 fx0 fx1
        have T2 := Aside0.mk (blk_far T2.out (p := ⟨b8, 0, none⟩) (show w.heap.size ≠ b8 by have := NT8.out; omega) (.slice qA LE.length qc))
        have T3 := Aside0.mk (blk_far T3.out (p := ⟨b8, 0, none⟩) (blk_ne T3.out T8.out (by decide)) (.slice qA LE.length qc))
        have T4 := Aside0.mk (blk_far T4.out (p := ⟨b8, 0, none⟩) (show w.heap.size + 1 + 1 ≠ b8 by have := NT8.out; omega) (.slice qA LE.length qc))
        have T5 := Aside0.mk (blk_far T5.out (p := ⟨b8, 0, none⟩) (blk_ne T5.out T8.out (by decide)) (.slice qA LE.length qc))
        have RH := Aside0.mk (Kd.R_set RH.out T8.out (by decide) 0 (.slice qA LE.length qc))
        have RW := Aside0.mk (Kd.R_set RW.out T8.out (by decide) 0 (.slice qA LE.length qc))
        have BB := Aside0.mk (BB.out.setCell (p := ⟨b8, 0, none⟩) LT8.out (.slice qA LE.length qc))
        have T8 := Aside0.mk (blk_put T8.out 0 (.slice qA LE.length qc) rfl)
        generalize w7.setCell ⟨b8, 0, none⟩ (.slice qA LE.length qc) = w8x at BB T2 T3 T4 T5 T8 RH RW ⊢
        have HLS := Aside0.mk (show LE.Sublist H by rw [HLE.out]; exact List.eraseIdx_sublist _ _)
        have x0 := (blk_cell T8.out 0).trans rfl; have x1 := (blk_cell T8.out 1).trans rfl
        go_upto_region 13 with (fail)
        refine (settleR_calls qA wA qc wc LE W _ (Kd.R_reads' RH.out).2.2 (Kd.R_reads' RW.out).2.2 (Kd.R_reads' RH.out).2.1 (Kd.R_reads' RW.out).2.1 (fun x hx => HI.out.allH x (HLS.out.subset hx)) HI.out.allW HI.out.single (by have := HLS.out.length_le; omega)).mono ?_
        rintro e w6 ⟨v, u, rfl, ⟨vH, vW, rfl, hvH, hvW⟩, ⟨vG, vN, rfl, hvG, hvN⟩, hb⟩
        obtain ⟨R, hR⟩ : ∃ R, R = settleL LE W := ⟨_, rfl⟩
        rw [← hR] at hvH hvW hvG hvN
        have HE := Aside0.mk (show unlockF H W l = (R, 0) by rw [HE.out, hR, HLE.out])
        clear hR
        obtain ⟨X1, X2, G, N⟩ := R
        dsimp only at hvH hvW hvG hvN
        obtain ⟨a5, c5, rfl⟩ := Kd.R_slice hvH
        obtain ⟨a6, c6, rfl⟩ := Kd.R_slice hvW
        obtain ⟨a7, c7, rfl⟩ := Kd.R_slice hvG
        obtain ⟨a8, c8, rfl⟩ := Kd.R_slice hvN
        have LL := Aside0.mk BB.out.size
        clear RH RW
        have T2 := Aside0.mk (blk_below T2.out hb)
        have T3 := Aside0.mk (blk_below T3.out hb)
        have T4 := Aside0.mk (blk_below T4.out hb)
        have T5 := Aside0.mk (blk_below T5.out hb)
        have T8 := Aside0.mk (blk_below T8.out hb)
        have BB := Aside0.mk (below_step BB.out hb)
        have R5 := Aside0.mk (Kd.R_lower hvH LL.out)
        have R6 := Aside0.mk (Kd.R_lower hvW LL.out)
        have R7 := Aside0.mk (Kd.R_lower hvG LL.out)
        have R8 := Aside0.mk (Kd.R_lower hvN LL.out)
        clear hb hvH hvW hvG hvN x0 x1
        have LTN := Aside0.mk (show w.heap.size ≤ w6.heap.size from BB.out.size)
        have NTN := Aside0.mk (show w.heap.size + 1 + 1 + 1 < w6.heap.size from blk_lt T5.out)
        have hne : w6.heap.size ≠ b8 := (Nat.ne_of_lt (blk_lt T8.out)).symm
        have hne' : b8 ≠ w6.heap.size := Nat.ne_of_lt (blk_lt T8.out)
        have hbx := below_alloc (Below.refl _ w6) (.cells #[.slice none 0 0, .slice none 0 0] 33)
        have TN := Aside0.mk (blk_new w6 (.cells #[.slice none 0 0, .slice none 0 0] 33))
        have T2 := Aside0.mk (blk_below T2.out hbx)
        have T3 := Aside0.mk (blk_below T3.out hbx)
        have T4 := Aside0.mk (blk_below T4.out hbx)
        have T5 := Aside0.mk (blk_below T5.out hbx)
        have T8 := Aside0.mk (blk_below T8.out hbx)
        have R5 := Aside0.mk (Kd.R_below R5.out hbx)
        have R6 := Aside0.mk (Kd.R_below R6.out hbx)
        have R7 := Aside0.mk (Kd.R_below R7.out hbx)
        have R8 := Aside0.mk (Kd.R_below R8.out hbx)
        have BB := Aside0.mk (below_step BB.out hbx)
        clear hbx
        have x0 := (blk_cell T8.out 0).trans rfl; have x1 := (blk_cell T8.out 1).trans rfl
        have fx0 := blk_frozen T8.out 0; have fx1 := blk_frozen T8.out 1
        have n0 := (blk_cell TN.out 0).trans rfl; have n1 := (blk_cell TN.out 1).trans rfl
        have fn0 := blk_frozen TN.out 0; have fn1 := blk_frozen TN.out 1
        go_upto_region 13 with (fail)
        clear x0 x1 fx0 fx1 n0 n1 fn0 fn1
        have P_ := Aside0.mk (put_two (n := w.heap.size) (w := w) (.slice a5 X1.length c5) (.slice a6 X2.length c6) T8.out BB.out (LT8.out))
        have T2_ := Aside0.mk (two_far' (.slice a5 X1.length c5) (.slice a6 X2.length c6) T2.out (show w.heap.size ≠ b8 by have := NT8.out; omega))
        have T3_ := Aside0.mk (two_far (.slice a5 X1.length c5) (.slice a6 X2.length c6) T3.out T8.out (by decide))
        have T4_ := Aside0.mk (two_far' (.slice a5 X1.length c5) (.slice a6 X2.length c6) T4.out (show w.heap.size + 1 + 1 ≠ b8 by have := NT8.out; omega))
        have T5_ := Aside0.mk (two_far' (.slice a5 X1.length c5) (.slice a6 X2.length c6) T5.out (show w.heap.size + 1 + 1 + 1 ≠ b8 by have := MT8.out; omega))
        have TN_ := Aside0.mk (two_far' (.slice a5 X1.length c5) (.slice a6 X2.length c6) TN.out (hne))
        have R5_ := Aside0.mk (R_two (.slice a5 X1.length c5) (.slice a6 X2.length c6) R5.out T8.out (by decide))
        have R6_ := Aside0.mk (R_two (.slice a5 X1.length c5) (.slice a6 X2.length c6) R6.out T8.out (by decide))
        have R7_ := Aside0.mk (R_two (.slice a5 X1.length c5) (.slice a6 X2.length c6) R7.out T8.out (by decide))
        have R8_ := Aside0.mk (R_two (.slice a5 X1.length c5) (.slice a6 X2.length c6) R8.out T8.out (by decide))
        have BB_ := Aside0.mk P_.out.2
        have T8_ := Aside0.mk P_.out.1
        clear P_ BB T2 T3 T4 T5 T8 TN R5 R6 R7 R8
        generalize ((w6.alloc (.cells #[.slice none 0 0, .slice none 0 0] 33)).setCell ⟨b8, 0, none⟩ (.slice a5 X1.length c5)).setCell ⟨b8, 1, none⟩ (.slice a6 X2.length c6) = w7 at BB_ T2_ T3_ T4_ T5_ T8_ TN_ R5_ R6_ R7_ R8_ ⊢
        have BB := BB_
        have T2 := T2_
        have T3 := T3_
        have T4 := T4_
        have T5 := T5_
        have T8 := T8_
        have TN := TN_
        have R5 := R5_
        have R6 := R6_
        have R7 := R7_
        have R8 := R8_
        clear BB_ T2_ T3_ T4_ T5_ T8_ TN_ R5_ R6_ R7_ R8_
        have P_ := Aside0.mk (put_two (n := w.heap.size) (w := w) (.slice a7 G.length c7) (.slice a8 N.length c8) TN.out BB.out (LTN.out))
        have T2_ := Aside0.mk (two_far (.slice a7 G.length c7) (.slice a8 N.length c8) T2.out TN.out (by decide))
        have T3_ := Aside0.mk (two_far (.slice a7 G.length c7) (.slice a8 N.length c8) T3.out TN.out (by decide))
        have T4_ := Aside0.mk (two_far (.slice a7 G.length c7) (.slice a8 N.length c8) T4.out TN.out (by decide))
        have T5_ := Aside0.mk (two_far' (.slice a7 G.length c7) (.slice a8 N.length c8) T5.out (show w.heap.size + 1 + 1 + 1 ≠ w6.heap.size by have := NTN.out; omega))
        have T8_ := Aside0.mk (two_far' (.slice a7 G.length c7) (.slice a8 N.length c8) T8.out (hne'))
        have R5_ := Aside0.mk (R_two (.slice a7 G.length c7) (.slice a8 N.length c8) R5.out TN.out (by decide))
        have R6_ := Aside0.mk (R_two (.slice a7 G.length c7) (.slice a8 N.length c8) R6.out TN.out (by decide))
        have R7_ := Aside0.mk (R_two (.slice a7 G.length c7) (.slice a8 N.length c8) R7.out TN.out (by decide))
        have R8_ := Aside0.mk (R_two (.slice a7 G.length c7) (.slice a8 N.length c8) R8.out TN.out (by decide))
        have BB_ := Aside0.mk P_.out.2
        have TN_ := Aside0.mk P_.out.1
        clear P_ BB T2 T3 T4 T5 T8 TN R5 R6 R7 R8
        generalize ((w7).setCell ⟨w6.heap.size, 0, none⟩ (.slice a7 G.length c7)).setCell ⟨w6.heap.size, 1, none⟩ (.slice a8 N.length c8) = w8 at BB_ T2_ T3_ T4_ T5_ T8_ TN_ R5_ R6_ R7_ R8_ ⊢
        have BB := BB_
        have T2 := T2_
        have T3 := T3_
        have T4 := T4_
        have T5 := T5_
        have T8 := T8_
        have TN := TN_
        have R5 := R5_
        have R6 := R6_
        have R7 := R7_
        have R8 := R8_
        clear BB_ T2_ T3_ T4_ T5_ T8_ TN_ R5_ R6_ R7_ R8_
        generalize w6.heap.size = bn at TN LTN NTN hne hne' ⊢
        clear hne hne'
        refine start_ (n := 5) (S := fun w' => w'.cell? ⟨b8, 0, none⟩ = some (.slice a5 X1.length c5) ∧ w'.cell? ⟨b8, 1, none⟩ = some (.slice a6 X2.length c6) ∧ w'.cell? ⟨bn, 0, none⟩ = some (.slice a7 G.length c7) ∧ w'.cell? ⟨bn, 1, none⟩ = some (.slice a8 N.length c8)) (ds := [3]) #[false, false, false, false, false] (by kernel_rfl) rfl rfl ⟨(blk_cell T8.out 0).trans rfl, (blk_cell T8.out 1).trans rfl, (blk_cell TN.out 0).trans rfl, (blk_cell TN.out 1).trans rfl⟩ (fun hHeld => ?_)
        have hbd := below_drew1 (Below.refl w8.heap.size w8)
        have T2 := Aside0.mk (blk_below T2.out hbd)
        have T3 := Aside0.mk (blk_below T3.out hbd)
        have T4 := Aside0.mk (blk_below T4.out hbd)
        have T5 := Aside0.mk (blk_below T5.out hbd)
        have T8 := Aside0.mk (blk_below T8.out hbd)
        have TN := Aside0.mk (blk_below TN.out hbd)
        have R5 := Aside0.mk (Kd.R_below R5.out hbd)
        have R6 := Aside0.mk (Kd.R_below R6.out hbd)
        have R7 := Aside0.mk (Kd.R_below R7.out hbd)
        have R8 := Aside0.mk (Kd.R_below R8.out hbd)
        have BB := Aside0.mk (below_step BB.out hbd)
        clear hbd
        generalize w8.drew = wd at BB T2 T3 T4 T5 T8 TN R5 R6 R7 R8 hHeld ⊢
        refine take_ (i := 0) (N := some 53) (v := ?_) (a' := ?_) #[true, false, false, false, false] rfl rfl (by kernel_rfl) (fun _ _ _ h => h) (Or.inl ⟨by rfl, ?_⟩) hHeld ?_ ?_
        rotate_left
        · rintro w' ⟨s0, s1, s2, s3⟩
          go_simp
          with_reducible rfl
        rotate_left
        · simp only [Act.put, List.setIfInBounds_toArray, List.set_cons_zero, List.set_cons_succ, i64_w, i32_w]
          rfl
        refine take_ (i := 1) (N := some 54) (v := ?_) (a' := ?_) #[true, true, false, false, false] rfl rfl (by kernel_rfl) (fun _ _ _ h => h) (Or.inl ⟨by rfl, ?_⟩) hHeld ?_ ?_
        rotate_left
        · rintro w' ⟨s0, s1, s2, s3⟩
          go_simp
          with_reducible rfl
        rotate_left
        · simp only [Act.put, List.setIfInBounds_toArray, List.set_cons_zero, List.set_cons_succ, i64_w, i32_w]
          rfl
        have r0 := (blk_cell T4.out 0).trans rfl; have r1 := (blk_cell T4.out 1).trans rfl
        have fr0 := blk_frozen T4.out 0; have fr1 := blk_frozen T4.out 1
        refine one_ (i := 2) (N := none) #[true, true, true, false, false] rfl rfl (by kernel_rfl) (by decide) (fun K hK => ?_)
        refine skip_ (w1 := ?_) (by rfl) rfl ?_ ?_
        rotate_left
        · go_simp
          rfl
        clear r0 r1 fr0 fr1
        have P_ := Aside0.mk (put_two (n := w.heap.size) (w := w) (.slice a5 X1.length c5) (.slice a6 X2.length c6) T4.out BB.out (by omega))
        have T2_ := Aside0.mk (two_far' (.slice a5 X1.length c5) (.slice a6 X2.length c6) T2.out (show w.heap.size ≠ w.heap.size + 1 + 1 by omega))
        have T3_ := Aside0.mk (two_far (.slice a5 X1.length c5) (.slice a6 X2.length c6) T3.out T4.out (by decide))
        have T5_ := Aside0.mk (two_far (.slice a5 X1.length c5) (.slice a6 X2.length c6) T5.out T4.out (by decide))
        have T8_ := Aside0.mk (two_far' (.slice a5 X1.length c5) (.slice a6 X2.length c6) T8.out (show b8 ≠ w.heap.size + 1 + 1 by have := NT8.out; omega))
        have TN_ := Aside0.mk (two_far (.slice a5 X1.length c5) (.slice a6 X2.length c6) TN.out T4.out (by decide))
        have R5_ := Aside0.mk (R_two (.slice a5 X1.length c5) (.slice a6 X2.length c6) R5.out T4.out (by decide))
        have R6_ := Aside0.mk (R_two (.slice a5 X1.length c5) (.slice a6 X2.length c6) R6.out T4.out (by decide))
        have R7_ := Aside0.mk (R_two (.slice a5 X1.length c5) (.slice a6 X2.length c6) R7.out T4.out (by decide))
        have R8_ := Aside0.mk (R_two (.slice a5 X1.length c5) (.slice a6 X2.length c6) R8.out T4.out (by decide))
        have BB_ := Aside0.mk P_.out.2
        have T4_ := Aside0.mk P_.out.1
        clear P_ BB T2 T3 T4 T5 T8 TN R5 R6 R7 R8
        generalize ((wd).setCell ⟨w.heap.size + 1 + 1, 0, none⟩ (.slice a5 X1.length c5)).setCell ⟨w.heap.size + 1 + 1, 1, none⟩ (.slice a6 X2.length c6) = we at BB_ T2_ T3_ T4_ T5_ T8_ TN_ R5_ R6_ R7_ R8_ ⊢
        have BB := BB_
        have T2 := T2_
        have T3 := T3_
        have T4 := T4_
        have T5 := T5_
        have T8 := T8_
        have TN := TN_
        have R5 := R5_
        have R6 := R6_
        have R7 := R7_
        have R8 := R8_
        clear BB_ T2_ T3_ T4_ T5_ T8_ TN_ R5_ R6_ R7_ R8_
        refine hK.out _ _ ⟨(blk_cell T8.out 0).trans rfl, (blk_cell T8.out 1).trans rfl, (blk_cell TN.out 0).trans rfl, (blk_cell TN.out 1).trans rfl⟩ (fun hHeld => ?_)
        clear hK K
        have r0 := (blk_cell T5.out 0).trans rfl; have r1 := (blk_cell T5.out 1).trans rfl
        have fr0 := blk_frozen T5.out 0; have fr1 := blk_frozen T5.out 1
        refine last_ (i := 3) (N := none) #[true, true, true, true, false] rfl rfl (by kernel_rfl) (by decide) (fun K hK => ?_)
        refine skip_ (w1 := ?_) (by rfl) rfl ?_ ?_
        rotate_left
        · go_simp
          rfl
        refine hK.out _ _ ?_
        clear hK K hHeld r0 r1 fr0 fr1
        have P_ := Aside0.mk (put_two (n := w.heap.size) (w := w) (.slice a7 G.length c7) (.slice a8 N.length c8) T5.out BB.out (by omega))
        have T2_ := Aside0.mk (two_far (.slice a7 G.length c7) (.slice a8 N.length c8) T2.out T5.out (by decide))
        have T3_ := Aside0.mk (two_far (.slice a7 G.length c7) (.slice a8 N.length c8) T3.out T5.out (by decide))
        have T4_ := Aside0.mk (two_far (.slice a7 G.length c7) (.slice a8 N.length c8) T4.out T5.out (by decide))
        have T8_ := Aside0.mk (two_far' (.slice a7 G.length c7) (.slice a8 N.length c8) T8.out (show b8 ≠ w.heap.size + 1 + 1 + 1 by have := MT8.out; omega))
        have TN_ := Aside0.mk (two_far' (.slice a7 G.length c7) (.slice a8 N.length c8) TN.out (show bn ≠ w.heap.size + 1 + 1 + 1 by have := NTN.out; omega))
        have R5_ := Aside0.mk (R_two (.slice a7 G.length c7) (.slice a8 N.length c8) R5.out T5.out (by decide))
        have R6_ := Aside0.mk (R_two (.slice a7 G.length c7) (.slice a8 N.length c8) R6.out T5.out (by decide))
        have R7_ := Aside0.mk (R_two (.slice a7 G.length c7) (.slice a8 N.length c8) R7.out T5.out (by decide))
        have R8_ := Aside0.mk (R_two (.slice a7 G.length c7) (.slice a8 N.length c8) R8.out T5.out (by decide))
        have BB_ := Aside0.mk P_.out.2
        have T5_ := Aside0.mk P_.out.1
        clear P_ BB T2 T3 T4 T5 T8 TN R5 R6 R7 R8
        generalize ((we).setCell ⟨w.heap.size + 1 + 1 + 1, 0, none⟩ (.slice a7 G.length c7)).setCell ⟨w.heap.size + 1 + 1 + 1, 1, none⟩ (.slice a8 N.length c8) = wf at BB_ T2_ T3_ T4_ T5_ T8_ TN_ R5_ R6_ R7_ R8_ ⊢
        have BB := BB_
        have T2 := T2_
        have T3 := T3_
        have T4 := T4_
        have T5 := T5_
        have T8 := T8_
        have TN := TN_
        have R5 := R5_
        have R6 := R6_
        have R7 := R7_
        have R8 := R8_
        clear BB_ T2_ T3_ T4_ T5_ T8_ TN_ R5_ R6_ R7_ R8_
        skip
        refine pure_ (i := 4) (N := some 6) (v := ?_) (a' := ?_) #[true, true, true, true, true] rfl rfl (by kernel_rfl) (fun _ _ _ h => h) (Or.inl ⟨by rfl, ?_⟩) ?_ ?_
        rotate_left
        · intro w'
          go_simp
          with_reducible rfl
        rotate_left
        · simp only [Act.put, List.setIfInBounds_toArray, List.set_cons_zero, List.set_cons_succ, i64_w, i32_w]
          rfl
        refine done_ (by kernel_rfl) ?_
        go_wp2
        refine bodyPost_ret (results_cells3 rfl rfl rfl (loadVar_two 29 (by kernel_rfl) (by kernel_rfl) T4.out) (loadVar_two 33 (by kernel_rfl) (by kernel_rfl) T5.out)) rfl ?_
        show RetN w (unlockF H W l).1 (unlockF H W l).2 _ _
        rw [HE.out]
        exact ⟨_, _, rfl, ⟨_, _, rfl, R5.out, R6.out⟩, ⟨_, _, rfl, R7.out, R8.out⟩, BB.out⟩
end Go.Proofs.Ytifnfnoicinbaaa.M
