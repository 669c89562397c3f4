/- The reference's Try and Ask. And what follows of it. -/
import Derived.Test.YtifnfnoicinbaaaQE
import Derived.Test.YtifnfnoicinbaaaQD
namespace Go.Proofs.Ytifnfnoicinbaaa.M
open Go.RowKit Go.Proofs.YtifnfnoicinbaaaW.PrintWords Go.Proofs.YtifnfnoicinbaaaW.PrintLast Go.Proofs.YtifnfnoicinbaaaW.PrintMore
set_option linter.unusedVariables false
set_option linter.unusedSimpArgs false
set_option linter.unnecessarySimpa false
attribute [local go_sem high] eqA24

set_option maxRecDepth 100000 in
set_option maxHeartbeats 8000000 in
theorem askR_calls (A B : Option Addr) (c d : Nat) (H W : List S24) (l : S24) (w : World) (h1 : k24.C w A H.length H) (h2 : k24.C w B W.length W) (l1 : H.length ≤ c) (l2 : W.length ≤ d) (hlen : H.length + W.length ≤ 1000) :
    Calls Try.prog 23 #[.agg #[.slice A H.length c, .slice B W.length d], .agg #[.int .i64 l.f0, .int .i64 l.f1, .int .i64 l.f2, .int .i64 l.f3, .bool l.f4]] w fun e w' => RetN w (askF H W l).1 (askF H W l).2 e w' := by
  have HC1 := Aside0.mk h1
  have HC2 := Aside0.mk h2
  clear h1 h2
  go_enter Try.func23, Try.ntmps23
  go_upto_region 1 with (fail)
  have hb_ := below_alloc (below_alloc (below_alloc (below_alloc (Below.refl _ w) (.cells #[.slice A H.length c, .slice B W.length d] 29)) (.cells #[.int .i64 l.f0, .int .i64 l.f1, .int .i64 l.f2, .int .i64 l.f3, .bool l.f4] 24)) (.cells #[.slice none 0 0, .slice none 0 0] 29)) (.cells #[.slice none 0 0, .slice none 0 0] 33)
  have hG0_ := blk_alloc (blk_alloc (blk_alloc (blk_lit0 w (.cells #[.slice A H.length c, .slice B W.length d] 29)) (.cells #[.int .i64 l.f0, .int .i64 l.f1, .int .i64 l.f2, .int .i64 l.f3, .bool l.f4] 24)) (.cells #[.slice none 0 0, .slice none 0 0] 29)) (.cells #[.slice none 0 0, .slice none 0 0] 33)
  have hG1_ := blk_alloc (blk_alloc (blk_lit w (.cells #[.slice A H.length c, .slice B W.length d] 29) (.cells #[.int .i64 l.f0, .int .i64 l.f1, .int .i64 l.f2, .int .i64 l.f3, .bool l.f4] 24)) (.cells #[.slice none 0 0, .slice none 0 0] 29)) (.cells #[.slice none 0 0, .slice none 0 0] 33)
  have hG2_ := blk_alloc (blk_lit2 w (.cells #[.slice A H.length c, .slice B W.length d] 29) (.cells #[.int .i64 l.f0, .int .i64 l.f1, .int .i64 l.f2, .int .i64 l.f3, .bool l.f4] 24) (.cells #[.slice none 0 0, .slice none 0 0] 29)) (.cells #[.slice none 0 0, .slice none 0 0] 33)
  have hG3_ := blk_lit3 w (.cells #[.slice A H.length c, .slice B W.length d] 29) (.cells #[.int .i64 l.f0, .int .i64 l.f1, .int .i64 l.f2, .int .i64 l.f3, .bool l.f4] 24) (.cells #[.slice none 0 0, .slice none 0 0] 29) (.cells #[.slice none 0 0, .slice none 0 0] 33)
  generalize ((((w.alloc (.cells #[.slice A H.length c, .slice B W.length d] 29)).alloc (.cells #[.int .i64 l.f0, .int .i64 l.f1, .int .i64 l.f2, .int .i64 l.f3, .bool l.f4] 24)).alloc (.cells #[.slice none 0 0, .slice none 0 0] 29)).alloc (.cells #[.slice none 0 0, .slice none 0 0] 33)) = V at hb_ hG0_ hG1_ hG2_ hG3_ ⊢
  have HB_V := Aside0.mk hb_
  have V0 := Aside0.mk hG0_
  have V1 := Aside0.mk hG1_
  have V2 := Aside0.mk hG2_
  have V3 := Aside0.mk hG3_
  clear hb_ hG0_ hG1_ hG2_ hG3_
  have x0 := (blk_cell V0.out 0).trans rfl; have x1 := (blk_cell V0.out 1).trans rfl
  have y0 := (blk_cell V1.out 0).trans rfl; have y1 := (blk_cell V1.out 1).trans rfl; have y2 := (blk_cell V1.out 2).trans rfl; have y3 := (blk_cell V1.out 3).trans rfl; have y4 := (blk_cell V1.out 4).trans rfl
  go_upto_region 2 with (fail)
  refine (askedR_calls A B c d H W l _ (Kd.C_below HC1.out HB_V.out) (Kd.C_below HC2.out HB_V.out) l1 l2 hlen).mono ?_
  rintro e w2 ⟨rfl, hb⟩
  have T2 := Aside0.mk (blk_below V0.out hb)
  have T3 := Aside0.mk (blk_below V1.out hb)
  have T4 := Aside0.mk (blk_below V2.out hb)
  have T5 := Aside0.mk (blk_below V3.out hb)
  have BB := Aside0.mk (below_step HB_V.out hb)
  clear hb x0 x1 y0 y1 y2 y3 y4 HB_V V0 V1 V2 V3
  by_cases hz : reqE H W l = 0
  rotate_left
  · have HE := Aside0.mk (show askF H W l = (([], [], [], []), reqE H W l) by unfold askF; rw [if_neg hz])
    have hf : (reqE H W l != 0) = true := by simpa [bne] using hz
    generalize reqE H W l = E at HE hf ⊢
    clear hz
    have r0 := (blk_cell T4.out 0).trans rfl; have r1 := (blk_cell T4.out 1).trans rfl
    have fr0 := blk_frozen T4.out 0; have fr1 := blk_frozen T4.out 1
    have s0 := (blk_cell T5.out 0).trans rfl; have s1 := (blk_cell T5.out 1).trans rfl
    have fs0 := blk_frozen T5.out 0; have fs1 := blk_frozen T5.out 1
    go_upto_region 4 with (fail)
    clear r0 r1 fr0 fr1 s0 s1 fs0 fs1
    have P_ := Aside0.mk (put_two (n := w.heap.size) (w := w) (.slice none 0 0) (.slice none 0 0) T4.out BB.out (by omega))
    have T2_ := Aside0.mk (two_far' (.slice none 0 0) (.slice none 0 0) T2.out (show w.heap.size ≠ w.heap.size + 1 + 1 by omega))
    have T3_ := Aside0.mk (two_far (.slice none 0 0) (.slice none 0 0) T3.out T4.out (by decide))
    have T5_ := Aside0.mk (two_far (.slice none 0 0) (.slice none 0 0) T5.out T4.out (by decide))
    have BB_ := Aside0.mk P_.out.2
    have T4_ := Aside0.mk P_.out.1
    clear P_ BB T2 T3 T4 T5
    generalize ((w2).setCell ⟨w.heap.size + 1 + 1, 0, none⟩ (.slice none 0 0)).setCell ⟨w.heap.size + 1 + 1, 1, none⟩ (.slice none 0 0) = wy at BB_ T2_ T3_ T4_ T5_ ⊢
    have BB := BB_
    have T2 := T2_
    have T3 := T3_
    have T4 := T4_
    have T5 := T5_
    clear BB_ T2_ T3_ T4_ T5_
    have P_ := Aside0.mk (put_two (n := w.heap.size) (w := w) (.slice none 0 0) (.slice none 0 0) T5.out BB.out (by omega))
    have T2_ := Aside0.mk (two_far (.slice none 0 0) (.slice none 0 0) T2.out T5.out (by decide))
    have T3_ := Aside0.mk (two_far (.slice none 0 0) (.slice none 0 0) T3.out T5.out (by decide))
    have T4_ := Aside0.mk (two_far (.slice none 0 0) (.slice none 0 0) T4.out T5.out (by decide))
    have BB_ := Aside0.mk P_.out.2
    have T5_ := Aside0.mk P_.out.1
    clear P_ BB T2 T3 T4 T5
    generalize ((wy).setCell ⟨w.heap.size + 1 + 1 + 1, 0, none⟩ (.slice none 0 0)).setCell ⟨w.heap.size + 1 + 1 + 1, 1, none⟩ (.slice none 0 0) = wz at BB_ T2_ T3_ T4_ T5_ ⊢
    have BB := BB_
    have T2 := T2_
    have T3 := T3_
    have T4 := T4_
    have T5 := T5_
    clear BB_ T2_ T3_ T4_ T5_
    go_wp2
    refine bodyPost_ret (results_cells3 rfl rfl rfl (loadVar_two 29 (by kernel_rfl) (by kernel_rfl) T4.out) (loadVar_two 33 (by kernel_rfl) (by kernel_rfl) T5.out)) rfl ?_
    show RetN w (askF H W l).1 (askF H W l).2 _ _
    rw [HE.out]
    exact ⟨_, _, rfl, tabV_nil _ _, newsV_nil _ _, BB.out⟩
  obtain ⟨hI, hv, hl400⟩ := req_inv hz
  have HI := Aside0.mk hI
  have HV := Aside0.mk hv
  have HSG := Aside0.mk (req_good hz).single
  have HE := Aside0.mk (show askF H W l = (settleL H (W ++ [l]), 0) by unfold askF; rw [if_pos hz])
  rw [hz]
  clear hI hv hz
  have x0 := (blk_cell T2.out 0).trans rfl; have x1 := (blk_cell T2.out 1).trans rfl
  go_upto_region 5 with (fail)
  refine (copiedR_calls A B c d H W _ (Kd.C_below HC1.out BB.out) (Kd.C_below HC2.out BB.out) l1 l2 hlen).mono ?_
  rintro e w3 ⟨v0, v1, rfl, r0, r1, hb⟩
  have LL := Aside0.mk BB.out.size
  have LT3 := Aside0.mk (show w.heap.size + 1 < w2.heap.size from blk_lt T3.out)
  have T2 := Aside0.mk (blk_below T2.out hb)
  have T3 := Aside0.mk (blk_below T3.out hb)
  have T4 := Aside0.mk (blk_below T4.out hb)
  have T5 := Aside0.mk (blk_below T5.out hb)
  have BB := Aside0.mk (below_step BB.out hb)
  have HOH := Aside0.mk (fun k (hk : v0.ownBlock = some k) => Kd.R_base r0 k hk)
  have HOW := Aside0.mk (fun k (hk : v1.ownBlock = some k) => Kd.R_base r1 k hk)
  have RH := Aside0.mk (Kd.R_lower r0 LL.out)
  have RW := Aside0.mk (Kd.R_lower r1 LL.out)
  clear hb r0 r1 x0 x1
  obtain ⟨hA, hc, rfl⟩ := Kd.R_slice RH.out
  obtain ⟨wA, wc, rfl⟩ := Kd.R_slice RW.out
  go_upto_region 5 with (fail)
  have LT8 := Aside0.mk (show w.heap.size ≤ w3.heap.size from BB.out.size)
  have NT8 := Aside0.mk (show w.heap.size + 1 + 1 < w3.heap.size from blk_lt T4.out)
  have NM8 := Aside0.mk (show w.heap.size + 1 + 1 + 1 ≠ w3.heap.size from Nat.ne_of_lt (blk_lt T5.out))
  have hbx := below_alloc (Below.refl _ w3) (.cells #[.slice hA H.length hc, .slice wA W.length wc] 29)
  have T8 := Aside0.mk (blk_new w3 (.cells #[.slice hA H.length hc, .slice wA W.length wc] 29))
  have T2 := Aside0.mk (blk_below T2.out hbx)
  have T3 := Aside0.mk (blk_below T3.out hbx)
  have T4 := Aside0.mk (blk_below T4.out hbx)
  have T5 := Aside0.mk (blk_below T5.out hbx)
  have RH := Aside0.mk (Kd.R_below RH.out hbx)
  have RW := Aside0.mk (Kd.R_below RW.out hbx)
  have BB := Aside0.mk (below_step BB.out hbx)
  clear hbx
  generalize w3.alloc (.cells #[.slice hA H.length hc, .slice wA W.length wc] 29) = w4 at BB T2 T3 T4 T5 T8 RH RW ⊢
  generalize w3.heap.size = b8 at T8 LT8 NT8 NM8 ⊢
  obtain ⟨W2, hW2⟩ : ∃ W2, W2 = W ++ [l] := ⟨_, rfl⟩
  have HW2 := Aside0.mk hW2.symm
  clear hW2
  have x0 := (blk_cell T8.out 0).trans rfl; have x1 := (blk_cell T8.out 1).trans rfl
  have fx0 := blk_frozen T8.out 0; have fx1 := blk_frozen T8.out 1
  have y0 := (blk_cell T3.out 0).trans rfl; have y1 := (blk_cell T3.out 1).trans rfl; have y2 := (blk_cell T3.out 2).trans rfl; have y3 := (blk_cell T3.out 3).trans rfl; have y4 := (blk_cell T3.out 4).trans rfl
  go_upto_region 6 with ((with_reducible refine gate_builtin (b := .append) (xs := #[.tmp 21, .tmp 23]) rfl ?_); at_builtin; refine Kd.R_append k24 (w0 := w) w.heap.size rfl (.tmp 21) (.tmp 23) 27 24 (.agg #[(.int .i64 0), (.int .i64 0), (.int .i64 0), (.int .i64 0), (.bool false)]) 40 rfl Try.underlying27 info24 rfl (by decide) (by omega) (.slice wA W.length wc) (W) l [.int .i64 l.f0, .int .i64 l.f1, .int .i64 l.f2, .int .i64 l.f3, .bool l.f4] (fun k => some k ≠ (.slice hA H.length hc : Value).ownBlock) (fun _ => False) rfl rfl (k24_mkM _ _ _ _) (fun _ hk => hk.elim) (R_room RH.out) RW.out BB.out BB.out.size (by omega) ?_; intro v10 w10 ho hb hg hat; have T2_ := Aside0.mk (blk_grown T2.out hg (Kd.R_ne RW.out T2.out (by decide))); have T3_ := Aside0.mk (blk_grown T3.out hg (fun e => by have h1 := HOW.out _ e.symm; have h2 := LT3.out; omega)); have T4_ := Aside0.mk (blk_grown T4.out hg (Kd.R_ne RW.out T4.out (by decide))); have T5_ := Aside0.mk (blk_grown T5.out hg (Kd.R_ne RW.out T5.out (by decide))); have T8_ := Aside0.mk (blk_grown T8.out hg (Kd.R_ne RW.out T8.out (by decide))); have RH_ := Aside0.mk (R_beside RH.out hg hat); rw [HW2.out] at ho; obtain ⟨kA, kc, rfl⟩ := Kd.R_slice ho; have RW_ := Aside0.mk ho; have BB_ := Aside0.mk hb; clear ho hb hg hat x0 x1 fx0 fx1 y0 y1 y2 y3 y4 BB T2 T3 T4 T5 T8 RH RW; have x0 := (blk_cell T8_.out 0).trans rfl; have x1 := (blk_cell T8_.out 1).trans rfl; have fx0 := blk_frozen T8_.out 0; have fx1 := blk_frozen T8_.out 1)
  clear x0 x1 fx0 fx1
  have T2 := Aside0.mk (blk_far T2_.out (p := ⟨b8, 1, none⟩) (show w.heap.size ≠ b8 by have := NT8.out; omega) (.slice kA (W2).length kc))
  have T3 := Aside0.mk (blk_far T3_.out (p := ⟨b8, 1, none⟩) (blk_ne T3_.out T8_.out (by decide)) (.slice kA (W2).length kc))
  have T4 := Aside0.mk (blk_far T4_.out (p := ⟨b8, 1, none⟩) (show w.heap.size + 1 + 1 ≠ b8 by have := NT8.out; omega) (.slice kA (W2).length kc))
  have T5 := Aside0.mk (blk_far T5_.out (p := ⟨b8, 1, none⟩) (blk_ne T5_.out T8_.out (by decide)) (.slice kA (W2).length kc))
  have RH := Aside0.mk (Kd.R_set RH_.out T8_.out (by decide) 1 (.slice kA (W2).length kc))
  have RW := Aside0.mk (Kd.R_set RW_.out T8_.out (by decide) 1 (.slice kA (W2).length kc))
  have BB := Aside0.mk (BB_.out.setCell (p := ⟨b8, 1, none⟩) LT8.out (.slice kA (W2).length kc))
  have T8 := Aside0.mk (blk_put T8_.out 1 (.slice kA (W2).length kc) rfl)
  clear BB_ T2_ T3_ T4_ T5_ T8_ RH_ RW_
  generalize w10.setCell ⟨b8, 1, none⟩ (.slice kA (W2).length kc) = w5 at BB T2 T3 T4 T5 T8 RH RW ⊢
  rw [HW2.out] at HSG HE
  have HLN := Aside0.mk (show H.length + W2.length ≤ 1000 by rw [← HW2.out]; simp; omega)
  have HVW := Aside0.mk (show ∀ x ∈ W2, vL x = true by
    rw [← HW2.out]
    intro x hx
    rcases List.mem_append.1 hx with hx | hx
    · exact HI.out.allW x hx
    · rw [List.mem_singleton] at hx; subst hx; exact HV.out)
  have x0 := (blk_cell T8.out 0).trans rfl; have x1 := (blk_cell T8.out 1).trans rfl
  go_upto_region 7 with (fail)
  refine (settleR_calls hA kA hc kc H W2 _ (Kd.R_reads' RH.out).2.2 (Kd.R_reads' RW.out).2.2 (Kd.R_reads' RH.out).2.1 (Kd.R_reads' RW.out).2.1 HI.out.allH HVW.out HSG.out HLN.out).mono ?_
  rintro e w6 ⟨v, u, rfl, ⟨vH, vW, rfl, hvH, hvW⟩, ⟨vG, vN, rfl, hvG, hvN⟩, hb⟩
  obtain ⟨R, hR⟩ : ∃ R, R = settleL H W2 := ⟨_, rfl⟩
  rw [← hR] at hvH hvW hvG hvN HE
  clear hR
  obtain ⟨X1, X2, G, N⟩ := R
  dsimp only at hvH hvW hvG hvN
  obtain ⟨a5, c5, rfl⟩ := Kd.R_slice hvH
  obtain ⟨a6, c6, rfl⟩ := Kd.R_slice hvW
  obtain ⟨a7, c7, rfl⟩ := Kd.R_slice hvG
  obtain ⟨a8, c8, rfl⟩ := Kd.R_slice hvN
  have LL := Aside0.mk BB.out.size
  clear RH RW
  have MT8 := Aside0.mk (show w.heap.size + 1 + 1 + 1 ≠ b8 from NM8.out)
  have T2 := Aside0.mk (blk_below T2.out hb)
  have T3 := Aside0.mk (blk_below T3.out hb)
  have T4 := Aside0.mk (blk_below T4.out hb)
  have T5 := Aside0.mk (blk_below T5.out hb)
  have T8 := Aside0.mk (blk_below T8.out hb)
  have BB := Aside0.mk (below_step BB.out hb)
  have R5 := Aside0.mk (Kd.R_lower hvH LL.out)
  have R6 := Aside0.mk (Kd.R_lower hvW LL.out)
  have R7 := Aside0.mk (Kd.R_lower hvG LL.out)
  have R8 := Aside0.mk (Kd.R_lower hvN LL.out)
  clear hb hvH hvW hvG hvN x0 x1
  have LTN := Aside0.mk (show w.heap.size ≤ w6.heap.size from BB.out.size)
  have NTN := Aside0.mk (show w.heap.size + 1 + 1 + 1 < w6.heap.size from blk_lt T5.out)
  have hne : w6.heap.size ≠ b8 := (Nat.ne_of_lt (blk_lt T8.out)).symm
  have hne' : b8 ≠ w6.heap.size := Nat.ne_of_lt (blk_lt T8.out)
  have hbx := below_alloc (Below.refl _ w6) (.cells #[.slice none 0 0, .slice none 0 0] 33)
  have TN := Aside0.mk (blk_new w6 (.cells #[.slice none 0 0, .slice none 0 0] 33))
  have T2 := Aside0.mk (blk_below T2.out hbx)
  have T3 := Aside0.mk (blk_below T3.out hbx)
  have T4 := Aside0.mk (blk_below T4.out hbx)
  have T5 := Aside0.mk (blk_below T5.out hbx)
  have T8 := Aside0.mk (blk_below T8.out hbx)
  have R5 := Aside0.mk (Kd.R_below R5.out hbx)
  have R6 := Aside0.mk (Kd.R_below R6.out hbx)
  have R7 := Aside0.mk (Kd.R_below R7.out hbx)
  have R8 := Aside0.mk (Kd.R_below R8.out hbx)
  have BB := Aside0.mk (below_step BB.out hbx)
  clear hbx
  have x0 := (blk_cell T8.out 0).trans rfl; have x1 := (blk_cell T8.out 1).trans rfl
  have fx0 := blk_frozen T8.out 0; have fx1 := blk_frozen T8.out 1
  have n0 := (blk_cell TN.out 0).trans rfl; have n1 := (blk_cell TN.out 1).trans rfl
  have fn0 := blk_frozen TN.out 0; have fn1 := blk_frozen TN.out 1
  go_upto_region 7 with (fail)
  clear x0 x1 fx0 fx1 n0 n1 fn0 fn1
  have P_ := Aside0.mk (put_two (n := w.heap.size) (w := w) (.slice a5 X1.length c5) (.slice a6 X2.length c6) T8.out BB.out (LT8.out))
  have T2_ := Aside0.mk (two_far' (.slice a5 X1.length c5) (.slice a6 X2.length c6) T2.out (show w.heap.size ≠ b8 by have := NT8.out; omega))
  have T3_ := Aside0.mk (two_far (.slice a5 X1.length c5) (.slice a6 X2.length c6) T3.out T8.out (by decide))
  have T4_ := Aside0.mk (two_far' (.slice a5 X1.length c5) (.slice a6 X2.length c6) T4.out (show w.heap.size + 1 + 1 ≠ b8 by have := NT8.out; omega))
  have T5_ := Aside0.mk (two_far' (.slice a5 X1.length c5) (.slice a6 X2.length c6) T5.out (show w.heap.size + 1 + 1 + 1 ≠ b8 by have := MT8.out; omega))
  have TN_ := Aside0.mk (two_far' (.slice a5 X1.length c5) (.slice a6 X2.length c6) TN.out (hne))
  have R5_ := Aside0.mk (R_two (.slice a5 X1.length c5) (.slice a6 X2.length c6) R5.out T8.out (by decide))
  have R6_ := Aside0.mk (R_two (.slice a5 X1.length c5) (.slice a6 X2.length c6) R6.out T8.out (by decide))
  have R7_ := Aside0.mk (R_two (.slice a5 X1.length c5) (.slice a6 X2.length c6) R7.out T8.out (by decide))
  have R8_ := Aside0.mk (R_two (.slice a5 X1.length c5) (.slice a6 X2.length c6) R8.out T8.out (by decide))
  have BB_ := Aside0.mk P_.out.2
  have T8_ := Aside0.mk P_.out.1
  clear P_ BB T2 T3 T4 T5 T8 TN R5 R6 R7 R8
  generalize ((w6.alloc (.cells #[.slice none 0 0, .slice none 0 0] 33)).setCell ⟨b8, 0, none⟩ (.slice a5 X1.length c5)).setCell ⟨b8, 1, none⟩ (.slice a6 X2.length c6) = w7 at BB_ T2_ T3_ T4_ T5_ T8_ TN_ R5_ R6_ R7_ R8_ ⊢
  have BB := BB_
  have T2 := T2_
  have T3 := T3_
  have T4 := T4_
  have T5 := T5_
  have T8 := T8_
  have TN := TN_
  have R5 := R5_
  have R6 := R6_
  have R7 := R7_
  have R8 := R8_
  clear BB_ T2_ T3_ T4_ T5_ T8_ TN_ R5_ R6_ R7_ R8_
  have P_ := Aside0.mk (put_two (n := w.heap.size) (w := w) (.slice a7 G.length c7) (.slice a8 N.length c8) TN.out BB.out (LTN.out))
  have T2_ := Aside0.mk (two_far (.slice a7 G.length c7) (.slice a8 N.length c8) T2.out TN.out (by decide))
  have T3_ := Aside0.mk (two_far (.slice a7 G.length c7) (.slice a8 N.length c8) T3.out TN.out (by decide))
  have T4_ := Aside0.mk (two_far (.slice a7 G.length c7) (.slice a8 N.length c8) T4.out TN.out (by decide))
  have T5_ := Aside0.mk (two_far' (.slice a7 G.length c7) (.slice a8 N.length c8) T5.out (show w.heap.size + 1 + 1 + 1 ≠ w6.heap.size by have := NTN.out; omega))
  have T8_ := Aside0.mk (two_far' (.slice a7 G.length c7) (.slice a8 N.length c8) T8.out (hne'))
  have R5_ := Aside0.mk (R_two (.slice a7 G.length c7) (.slice a8 N.length c8) R5.out TN.out (by decide))
  have R6_ := Aside0.mk (R_two (.slice a7 G.length c7) (.slice a8 N.length c8) R6.out TN.out (by decide))
  have R7_ := Aside0.mk (R_two (.slice a7 G.length c7) (.slice a8 N.length c8) R7.out TN.out (by decide))
  have R8_ := Aside0.mk (R_two (.slice a7 G.length c7) (.slice a8 N.length c8) R8.out TN.out (by decide))
  have BB_ := Aside0.mk P_.out.2
  have TN_ := Aside0.mk P_.out.1
  clear P_ BB T2 T3 T4 T5 T8 TN R5 R6 R7 R8
  generalize ((w7).setCell ⟨w6.heap.size, 0, none⟩ (.slice a7 G.length c7)).setCell ⟨w6.heap.size, 1, none⟩ (.slice a8 N.length c8) = w8 at BB_ T2_ T3_ T4_ T5_ T8_ TN_ R5_ R6_ R7_ R8_ ⊢
  have BB := BB_
  have T2 := T2_
  have T3 := T3_
  have T4 := T4_
  have T5 := T5_
  have T8 := T8_
  have TN := TN_
  have R5 := R5_
  have R6 := R6_
  have R7 := R7_
  have R8 := R8_
  clear BB_ T2_ T3_ T4_ T5_ T8_ TN_ R5_ R6_ R7_ R8_
  generalize w6.heap.size = bn at TN LTN NTN hne hne' ⊢
  clear hne hne'
  refine start_ (n := 5) (S := fun w' => w'.cell? ⟨b8, 0, none⟩ = some (.slice a5 X1.length c5) ∧ w'.cell? ⟨b8, 1, none⟩ = some (.slice a6 X2.length c6) ∧ w'.cell? ⟨bn, 0, none⟩ = some (.slice a7 G.length c7) ∧ w'.cell? ⟨bn, 1, none⟩ = some (.slice a8 N.length c8)) (ds := [3]) #[false, false, false, false, false] (by kernel_rfl) rfl rfl ⟨(blk_cell T8.out 0).trans rfl, (blk_cell T8.out 1).trans rfl, (blk_cell TN.out 0).trans rfl, (blk_cell TN.out 1).trans rfl⟩ (fun hHeld => ?_)
  have hbd := below_drew1 (Below.refl w8.heap.size w8)
  have T2 := Aside0.mk (blk_below T2.out hbd)
  have T3 := Aside0.mk (blk_below T3.out hbd)
  have T4 := Aside0.mk (blk_below T4.out hbd)
  have T5 := Aside0.mk (blk_below T5.out hbd)
  have T8 := Aside0.mk (blk_below T8.out hbd)
  have TN := Aside0.mk (blk_below TN.out hbd)
  have R5 := Aside0.mk (Kd.R_below R5.out hbd)
  have R6 := Aside0.mk (Kd.R_below R6.out hbd)
  have R7 := Aside0.mk (Kd.R_below R7.out hbd)
  have R8 := Aside0.mk (Kd.R_below R8.out hbd)
  have BB := Aside0.mk (below_step BB.out hbd)
  clear hbd
  generalize w8.drew = wd at BB T2 T3 T4 T5 T8 TN R5 R6 R7 R8 hHeld ⊢
  refine take_ (i := 0) (N := some 31) (v := ?_) (a' := ?_) #[true, false, false, false, false] rfl rfl (by kernel_rfl) (fun _ _ _ h => h) (Or.inl ⟨by rfl, ?_⟩) hHeld ?_ ?_
  rotate_left
  · rintro w' ⟨s0, s1, s2, s3⟩
    go_simp
    with_reducible rfl
  rotate_left
  · simp only [Act.put, List.setIfInBounds_toArray, List.set_cons_zero, List.set_cons_succ, i64_w, i32_w]
    rfl
  refine take_ (i := 1) (N := some 32) (v := ?_) (a' := ?_) #[true, true, false, false, false] rfl rfl (by kernel_rfl) (fun _ _ _ h => h) (Or.inl ⟨by rfl, ?_⟩) hHeld ?_ ?_
  rotate_left
  · rintro w' ⟨s0, s1, s2, s3⟩
    go_simp
    with_reducible rfl
  rotate_left
  · simp only [Act.put, List.setIfInBounds_toArray, List.set_cons_zero, List.set_cons_succ, i64_w, i32_w]
    rfl
  have r0 := (blk_cell T4.out 0).trans rfl; have r1 := (blk_cell T4.out 1).trans rfl
  have fr0 := blk_frozen T4.out 0; have fr1 := blk_frozen T4.out 1
  refine one_ (i := 2) (N := none) #[true, true, true, false, false] rfl rfl (by kernel_rfl) (by decide) (fun K hK => ?_)
  refine skip_ (w1 := ?_) (by rfl) rfl ?_ ?_
  rotate_left
  · go_simp
    rfl
  clear r0 r1 fr0 fr1
  have P_ := Aside0.mk (put_two (n := w.heap.size) (w := w) (.slice a5 X1.length c5) (.slice a6 X2.length c6) T4.out BB.out (by omega))
  have T2_ := Aside0.mk (two_far' (.slice a5 X1.length c5) (.slice a6 X2.length c6) T2.out (show w.heap.size ≠ w.heap.size + 1 + 1 by omega))
  have T3_ := Aside0.mk (two_far (.slice a5 X1.length c5) (.slice a6 X2.length c6) T3.out T4.out (by decide))
  have T5_ := Aside0.mk (two_far (.slice a5 X1.length c5) (.slice a6 X2.length c6) T5.out T4.out (by decide))
  have T8_ := Aside0.mk (two_far' (.slice a5 X1.length c5) (.slice a6 X2.length c6) T8.out (show b8 ≠ w.heap.size + 1 + 1 by have := NT8.out; omega))
  have TN_ := Aside0.mk (two_far (.slice a5 X1.length c5) (.slice a6 X2.length c6) TN.out T4.out (by decide))
  have R5_ := Aside0.mk (R_two (.slice a5 X1.length c5) (.slice a6 X2.length c6) R5.out T4.out (by decide))
  have R6_ := Aside0.mk (R_two (.slice a5 X1.length c5) (.slice a6 X2.length c6) R6.out T4.out (by decide))
  have R7_ := Aside0.mk (R_two (.slice a5 X1.length c5) (.slice a6 X2.length c6) R7.out T4.out (by decide))
  have R8_ := Aside0.mk (R_two (.slice a5 X1.length c5) (.slice a6 X2.length c6) R8.out T4.out (by decide))
  have BB_ := Aside0.mk P_.out.2
  have T4_ := Aside0.mk P_.out.1
  clear P_ BB T2 T3 T4 T5 T8 TN R5 R6 R7 R8
  generalize ((wd).setCell ⟨w.heap.size + 1 + 1, 0, none⟩ (.slice a5 X1.length c5)).setCell ⟨w.heap.size + 1 + 1, 1, none⟩ (.slice a6 X2.length c6) = we at BB_ T2_ T3_ T4_ T5_ T8_ TN_ R5_ R6_ R7_ R8_ ⊢
  have BB := BB_
  have T2 := T2_
  have T3 := T3_
  have T4 := T4_
  have T5 := T5_
  have T8 := T8_
  have TN := TN_
  have R5 := R5_
  have R6 := R6_
  have R7 := R7_
  have R8 := R8_
  clear BB_ T2_ T3_ T4_ T5_ T8_ TN_ R5_ R6_ R7_ R8_
  refine hK.out _ _ ⟨(blk_cell T8.out 0).trans rfl, (blk_cell T8.out 1).trans rfl, (blk_cell TN.out 0).trans rfl, (blk_cell TN.out 1).trans rfl⟩ (fun hHeld => ?_)
  clear hK K
  have r0 := (blk_cell T5.out 0).trans rfl; have r1 := (blk_cell T5.out 1).trans rfl
  have fr0 := blk_frozen T5.out 0; have fr1 := blk_frozen T5.out 1
  refine last_ (i := 3) (N := none) #[true, true, true, true, false] rfl rfl (by kernel_rfl) (by decide) (fun K hK => ?_)
  refine skip_ (w1 := ?_) (by rfl) rfl ?_ ?_
  rotate_left
  · go_simp
    rfl
  refine hK.out _ _ ?_
  clear hK K hHeld r0 r1 fr0 fr1
  have P_ := Aside0.mk (put_two (n := w.heap.size) (w := w) (.slice a7 G.length c7) (.slice a8 N.length c8) T5.out BB.out (by omega))
  have T2_ := Aside0.mk (two_far (.slice a7 G.length c7) (.slice a8 N.length c8) T2.out T5.out (by decide))
  have T3_ := Aside0.mk (two_far (.slice a7 G.length c7) (.slice a8 N.length c8) T3.out T5.out (by decide))
  have T4_ := Aside0.mk (two_far (.slice a7 G.length c7) (.slice a8 N.length c8) T4.out T5.out (by decide))
  have T8_ := Aside0.mk (two_far' (.slice a7 G.length c7) (.slice a8 N.length c8) T8.out (show b8 ≠ w.heap.size + 1 + 1 + 1 by have := MT8.out; omega))
  have TN_ := Aside0.mk (two_far' (.slice a7 G.length c7) (.slice a8 N.length c8) TN.out (show bn ≠ w.heap.size + 1 + 1 + 1 by have := NTN.out; omega))
  have R5_ := Aside0.mk (R_two (.slice a7 G.length c7) (.slice a8 N.length c8) R5.out T5.out (by decide))
  have R6_ := Aside0.mk (R_two (.slice a7 G.length c7) (.slice a8 N.length c8) R6.out T5.out (by decide))
  have R7_ := Aside0.mk (R_two (.slice a7 G.length c7) (.slice a8 N.length c8) R7.out T5.out (by decide))
  have R8_ := Aside0.mk (R_two (.slice a7 G.length c7) (.slice a8 N.length c8) R8.out T5.out (by decide))
  have BB_ := Aside0.mk P_.out.2
  have T5_ := Aside0.mk P_.out.1
  clear P_ BB T2 T3 T4 T5 T8 TN R5 R6 R7 R8
  generalize ((we).setCell ⟨w.heap.size + 1 + 1 + 1, 0, none⟩ (.slice a7 G.length c7)).setCell ⟨w.heap.size + 1 + 1 + 1, 1, none⟩ (.slice a8 N.length c8) = wf at BB_ T2_ T3_ T4_ T5_ T8_ TN_ R5_ R6_ R7_ R8_ ⊢
  have BB := BB_
  have T2 := T2_
  have T3 := T3_
  have T4 := T4_
  have T5 := T5_
  have T8 := T8_
  have TN := TN_
  have R5 := R5_
  have R6 := R6_
  have R7 := R7_
  have R8 := R8_
  clear BB_ T2_ T3_ T4_ T5_ T8_ TN_ R5_ R6_ R7_ R8_
  skip
  refine pure_ (i := 4) (N := some 6) (v := ?_) (a' := ?_) #[true, true, true, true, true] rfl rfl (by kernel_rfl) (fun _ _ _ h => h) (Or.inl ⟨by rfl, ?_⟩) ?_ ?_
  rotate_left
  · intro w'
    go_simp
    with_reducible rfl
  rotate_left
  · simp only [Act.put, List.setIfInBounds_toArray, List.set_cons_zero, List.set_cons_succ, i64_w, i32_w]
    rfl
  refine done_ (by kernel_rfl) ?_
  go_wp2
  refine bodyPost_ret (results_cells3 rfl rfl rfl (loadVar_two 29 (by kernel_rfl) (by kernel_rfl) T4.out) (loadVar_two 33 (by kernel_rfl) (by kernel_rfl) T5.out)) rfl ?_
  show RetN w (askF H W l).1 (askF H W l).2 _ _
  rw [HE.out]
  exact ⟨_, _, rfl, ⟨_, _, rfl, R5.out, R6.out⟩, ⟨_, _, rfl, R7.out, R8.out⟩, BB.out⟩
theorem try_blks {H W : List S24} {l : S24} (hI : Inv H W) (hl : vL l = true) : PL.blks cfL H (W ++ [l]) W.length = [] ↔ (H.any (fun x => mtL x l) || W.any (fun x => mtL x l)) = false := by
  rw [PL.blks_split, List.filter_eq_nil_iff, Bool.or_eq_false_iff, List.any_eq_false, List.any_eq_false]
  have hc : ∀ x ∈ H ++ W, cfL x l = mtL x l := by
    intro x hx
    have hv : vL x = true := by
      rcases List.mem_append.1 hx with h | h
      · exact hI.allH x h
      · exact hI.allW x h
    unfold cfL
    rw [hv, hl]
    simp
  constructor
  · intro h
    exact ⟨fun x hx => by rw [← hc x (List.mem_append_left _ hx)]; exact h x (List.mem_append_left _ hx), fun x hx => by rw [← hc x (List.mem_append_right _ hx)]; exact h x (List.mem_append_right _ hx)⟩
  · rintro ⟨h1, h2⟩ x hx
    rw [hc x hx]
    rcases List.mem_append.1 hx with h | h
    · exact h1 x h
    · exact h2 x h
set_option maxRecDepth 100000 in
set_option maxHeartbeats 8000000 in
theorem tryR_calls (A B : Option Addr) (c d : Nat) (H W : List S24) (l : S24) (w : World) (h1 : k24.C w A H.length H) (h2 : k24.C w B W.length W) (l1 : H.length ≤ c) (l2 : W.length ≤ d) (hlen : H.length + W.length ≤ 1000) :
    Calls Try.prog 22 #[.agg #[.slice A H.length c, .slice B W.length d], .agg #[.int .i64 l.f0, .int .i64 l.f1, .int .i64 l.f2, .int .i64 l.f3, .bool l.f4]] w fun e w' => RetT w (tryF H W l).1 (tryF H W l).2 e w' := by
  have HC1 := Aside0.mk h1
  have HC2 := Aside0.mk h2
  clear h1 h2
  go_enter Try.func22, Try.ntmps22
  go_upto_region 1 with (fail)
  have hb_ := below_alloc (below_alloc (below_alloc (Below.refl _ w) (.cells #[.slice A H.length c, .slice B W.length d] 29)) (.cells #[.int .i64 l.f0, .int .i64 l.f1, .int .i64 l.f2, .int .i64 l.f3, .bool l.f4] 24)) (.cells #[.slice none 0 0, .slice none 0 0] 29)
  have hG0_ := blk_alloc (blk_alloc (blk_lit0 w (.cells #[.slice A H.length c, .slice B W.length d] 29)) (.cells #[.int .i64 l.f0, .int .i64 l.f1, .int .i64 l.f2, .int .i64 l.f3, .bool l.f4] 24)) (.cells #[.slice none 0 0, .slice none 0 0] 29)
  have hG1_ := blk_alloc (blk_lit w (.cells #[.slice A H.length c, .slice B W.length d] 29) (.cells #[.int .i64 l.f0, .int .i64 l.f1, .int .i64 l.f2, .int .i64 l.f3, .bool l.f4] 24)) (.cells #[.slice none 0 0, .slice none 0 0] 29)
  have hG2_ := blk_lit2 w (.cells #[.slice A H.length c, .slice B W.length d] 29) (.cells #[.int .i64 l.f0, .int .i64 l.f1, .int .i64 l.f2, .int .i64 l.f3, .bool l.f4] 24) (.cells #[.slice none 0 0, .slice none 0 0] 29)
  generalize (((w.alloc (.cells #[.slice A H.length c, .slice B W.length d] 29)).alloc (.cells #[.int .i64 l.f0, .int .i64 l.f1, .int .i64 l.f2, .int .i64 l.f3, .bool l.f4] 24)).alloc (.cells #[.slice none 0 0, .slice none 0 0] 29)) = V at hb_ hG0_ hG1_ hG2_ ⊢
  have HB_V := Aside0.mk hb_
  have V0 := Aside0.mk hG0_
  have V1 := Aside0.mk hG1_
  have V2 := Aside0.mk hG2_
  clear hb_ hG0_ hG1_ hG2_
  have x0 := (blk_cell V0.out 0).trans rfl; have x1 := (blk_cell V0.out 1).trans rfl
  have y0 := (blk_cell V1.out 0).trans rfl; have y1 := (blk_cell V1.out 1).trans rfl; have y2 := (blk_cell V1.out 2).trans rfl; have y3 := (blk_cell V1.out 3).trans rfl; have y4 := (blk_cell V1.out 4).trans rfl
  go_upto_region 2 with (fail)
  refine (askedR_calls A B c d H W l _ (Kd.C_below HC1.out HB_V.out) (Kd.C_below HC2.out HB_V.out) l1 l2 hlen).mono ?_
  rintro e w2 ⟨rfl, hb⟩
  have T2 := Aside0.mk (blk_below V0.out hb)
  have T3 := Aside0.mk (blk_below V1.out hb)
  have T4 := Aside0.mk (blk_below V2.out hb)
  have BB := Aside0.mk (below_step HB_V.out hb)
  clear hb x0 x1 y0 y1 y2 y3 y4 HB_V V0 V1 V2 
  by_cases hz : reqE H W l = 0
  rotate_left
  · have HE := Aside0.mk (show tryF H W l = (([], []), reqE H W l) by unfold tryF; rw [if_neg hz])
    have hf : (reqE H W l != 0) = true := by simpa [bne] using hz
    generalize reqE H W l = E at HE hf ⊢
    clear hz
    have r0 := (blk_cell T4.out 0).trans rfl; have r1 := (blk_cell T4.out 1).trans rfl
    have fr0 := blk_frozen T4.out 0; have fr1 := blk_frozen T4.out 1
    go_upto_region 4 with (fail)
    clear r0 r1 fr0 fr1
    have P_ := Aside0.mk (put_two (n := w.heap.size) (w := w) (.slice none 0 0) (.slice none 0 0) T4.out BB.out (by omega))
    have T2_ := Aside0.mk (two_far' (.slice none 0 0) (.slice none 0 0) T2.out (show w.heap.size ≠ w.heap.size + 1 + 1 by omega))
    have T3_ := Aside0.mk (two_far (.slice none 0 0) (.slice none 0 0) T3.out T4.out (by decide))
    have BB_ := Aside0.mk P_.out.2
    have T4_ := Aside0.mk P_.out.1
    clear P_ BB T2 T3 T4
    generalize ((w2).setCell ⟨w.heap.size + 1 + 1, 0, none⟩ (.slice none 0 0)).setCell ⟨w.heap.size + 1 + 1, 1, none⟩ (.slice none 0 0) = wy at BB_ T2_ T3_ T4_ ⊢
    have BB := BB_
    have T2 := T2_
    have T3 := T3_
    have T4 := T4_
    clear BB_ T2_ T3_ T4_
    go_wp2
    refine bodyPost_ret (results_cellT rfl rfl (loadVar_two 29 (by kernel_rfl) (by kernel_rfl) T4.out)) rfl ?_
    show RetT w (tryF H W l).1 (tryF H W l).2 _ _
    rw [HE.out]
    exact ⟨_, rfl, tabV_nil _ _, BB.out⟩
  obtain ⟨hI, hv, hl400⟩ := req_inv hz
  have HI := Aside0.mk hI
  have HV := Aside0.mk hv
  have HR := Aside0.mk hz
  rw [hz]
  clear hI hv hz
  have x0 := (blk_cell T2.out 0).trans rfl; have x1 := (blk_cell T2.out 1).trans rfl
  go_upto_region 5 with (fail)
  refine (copiedR_calls A B c d H W _ (Kd.C_below HC1.out BB.out) (Kd.C_below HC2.out BB.out) l1 l2 hlen).mono ?_
  rintro e w3 ⟨v0, v1, rfl, r0, r1, hb⟩
  have LL := Aside0.mk BB.out.size
  have LT3 := Aside0.mk (show w.heap.size + 1 < w2.heap.size from blk_lt T3.out)
  have T2 := Aside0.mk (blk_below T2.out hb)
  have T3 := Aside0.mk (blk_below T3.out hb)
  have T4 := Aside0.mk (blk_below T4.out hb)
  have BB := Aside0.mk (below_step BB.out hb)
  have HOH := Aside0.mk (fun k (hk : v0.ownBlock = some k) => Kd.R_base r0 k hk)
  have HOW := Aside0.mk (fun k (hk : v1.ownBlock = some k) => Kd.R_base r1 k hk)
  have RH := Aside0.mk (Kd.R_lower r0 LL.out)
  have RW := Aside0.mk (Kd.R_lower r1 LL.out)
  clear hb r0 r1 x0 x1
  obtain ⟨hA, hc, rfl⟩ := Kd.R_slice RH.out
  obtain ⟨wA, wc, rfl⟩ := Kd.R_slice RW.out
  go_upto_region 5 with (fail)
  have LT7 := Aside0.mk (show w.heap.size ≤ w3.heap.size from BB.out.size)
  have NT7 := Aside0.mk (show w.heap.size + 1 + 1 < w3.heap.size from blk_lt T4.out)
  have hbx := below_alloc (Below.refl _ w3) (.cells #[.slice hA H.length hc, .slice wA W.length wc] 29)
  have T7 := Aside0.mk (blk_new w3 (.cells #[.slice hA H.length hc, .slice wA W.length wc] 29))
  have T2 := Aside0.mk (blk_below T2.out hbx)
  have T3 := Aside0.mk (blk_below T3.out hbx)
  have T4 := Aside0.mk (blk_below T4.out hbx)
  have RH := Aside0.mk (Kd.R_below RH.out hbx)
  have RW := Aside0.mk (Kd.R_below RW.out hbx)
  have BB := Aside0.mk (below_step BB.out hbx)
  clear hbx
  generalize w3.alloc (.cells #[.slice hA H.length hc, .slice wA W.length wc] 29) = w4 at BB T2 T3 T4 T7 RH RW ⊢
  generalize w3.heap.size = b7 at T7 LT7 NT7 ⊢
  obtain ⟨W2, hW2⟩ : ∃ W2, W2 = W ++ [l] := ⟨_, rfl⟩
  have HW2 := Aside0.mk hW2.symm
  clear hW2
  have x0 := (blk_cell T7.out 0).trans rfl; have x1 := (blk_cell T7.out 1).trans rfl
  have fx0 := blk_frozen T7.out 0; have fx1 := blk_frozen T7.out 1
  have y0 := (blk_cell T3.out 0).trans rfl; have y1 := (blk_cell T3.out 1).trans rfl; have y2 := (blk_cell T3.out 2).trans rfl; have y3 := (blk_cell T3.out 3).trans rfl; have y4 := (blk_cell T3.out 4).trans rfl
  go_upto_region 6 with ((with_reducible refine gate_builtin (b := .append) (xs := #[.tmp 18, .tmp 20]) rfl ?_); at_builtin; refine Kd.R_append k24 (w0 := w) w.heap.size rfl (.tmp 18) (.tmp 20) 27 24 (.agg #[(.int .i64 0), (.int .i64 0), (.int .i64 0), (.int .i64 0), (.bool false)]) 40 rfl Try.underlying27 info24 rfl (by decide) (by omega) (.slice wA W.length wc) (W) l [.int .i64 l.f0, .int .i64 l.f1, .int .i64 l.f2, .int .i64 l.f3, .bool l.f4] (fun k => some k ≠ (.slice hA H.length hc : Value).ownBlock) (fun _ => False) rfl rfl (k24_mkM _ _ _ _) (fun _ hk => hk.elim) (R_room RH.out) RW.out BB.out BB.out.size (by omega) ?_; intro v10 w10 ho hb hg hat; have T2_ := Aside0.mk (blk_grown T2.out hg (Kd.R_ne RW.out T2.out (by decide))); have T3_ := Aside0.mk (blk_grown T3.out hg (fun e => by have h1 := HOW.out _ e.symm; have h2 := LT3.out; omega)); have T4_ := Aside0.mk (blk_grown T4.out hg (Kd.R_ne RW.out T4.out (by decide))); have T7_ := Aside0.mk (blk_grown T7.out hg (Kd.R_ne RW.out T7.out (by decide))); have RH_ := Aside0.mk (R_beside RH.out hg hat); rw [HW2.out] at ho; obtain ⟨kA, kc, rfl⟩ := Kd.R_slice ho; have RW_ := Aside0.mk ho; have BB_ := Aside0.mk hb; clear ho hb hg hat x0 x1 fx0 fx1 y0 y1 y2 y3 y4 BB T2 T3 T4 T7 RH RW; have x0 := (blk_cell T7_.out 0).trans rfl; have x1 := (blk_cell T7_.out 1).trans rfl; have fx0 := blk_frozen T7_.out 0; have fx1 := blk_frozen T7_.out 1)
  clear x0 x1 fx0 fx1
  have T2 := Aside0.mk (blk_far T2_.out (p := ⟨b7, 1, none⟩) (show w.heap.size ≠ b7 by have := NT7.out; omega) (.slice kA (W2).length kc))
  have T3 := Aside0.mk (blk_far T3_.out (p := ⟨b7, 1, none⟩) (blk_ne T3_.out T7_.out (by decide)) (.slice kA (W2).length kc))
  have T4 := Aside0.mk (blk_far T4_.out (p := ⟨b7, 1, none⟩) (show w.heap.size + 1 + 1 ≠ b7 by have := NT7.out; omega) (.slice kA (W2).length kc))
  have RH := Aside0.mk (Kd.R_set RH_.out T7_.out (by decide) 1 (.slice kA (W2).length kc))
  have RW := Aside0.mk (Kd.R_set RW_.out T7_.out (by decide) 1 (.slice kA (W2).length kc))
  have BB := Aside0.mk (BB_.out.setCell (p := ⟨b7, 1, none⟩) LT7.out (.slice kA (W2).length kc))
  have T7 := Aside0.mk (blk_put T7_.out 1 (.slice kA (W2).length kc) rfl)
  clear BB_ T2_ T3_ T4_ T7_ RH_ RW_
  generalize w10.setCell ⟨b7, 1, none⟩ (.slice kA (W2).length kc) = w5 at BB T2 T3 T4 T7 RH RW ⊢
  have hw2l : W2.length = W.length + 1 := by rw [← HW2.out]; simp
  have HWI := Aside0.mk (show W.length < W2.length by omega)
  have HW1 := Aside0.mk (show W2.length ≤ 1001 by omega)
  have HW3 := Aside0.mk (show W2.eraseIdx W.length = W by rw [← HW2.out, List.eraseIdx_append_of_length_le (Nat.le_refl _)]; simp)
  have HBI := Aside0.mk (try_blks (H := H) (W := W) (l := l) HI.out HV.out)
  rw [HW2.out] at HBI
  have hsub : (W2.length : Int) - 1 = (W.length : Int) := by omega
  have hwl : W2.length ≤ 1001 := by omega
  clear hw2l
  have x0 := (blk_cell T7.out 0).trans rfl; have x1 := (blk_cell T7.out 1).trans rfl
  go_upto_region 7 with (fail)
  refine (blockersR_calls hA kA hc kc H W2 W.length _ (Kd.R_reads' RH.out).2.2 (Kd.R_reads' RW.out).2.2 (Kd.R_reads' RH.out).2.1 (Kd.R_reads' RW.out).2.1 (by omega) (by have := HWI.out; omega) HWI.out).mono ?_
  rintro e w6 ⟨v, rfl, hv, hb⟩
  have HBL := Aside0.mk (show ((PL.blks cfL H W2 W.length).map hdL).length ≤ 1000 by rw [List.length_map]; have h9 := List.length_filter_le (fun x => cfL x (rd_T24 W2 (W.length : Int))) (H ++ W2.take W.length); rw [← blks_atR HWI.out] at h9; have h8 : (W2.take W.length).length ≤ W.length := (by rw [List.length_take]; omega); simp only [List.length_append] at h9; omega)
  have HBE := Aside0.mk (show PL.blks cfL H W2 W.length = [] ↔ ((PL.blks cfL H W2 W.length).map hdL).length = 0 by rw [List.length_map]; simp)
  generalize (PL.blks cfL H W2 W.length).map hdL = NN at hv HBL HBE
  obtain ⟨na, nn, rfl⟩ := Kd.R_slice hv
  have hnl : NN.length ≤ 1000 := HBL.out
  have T2 := Aside0.mk (blk_below T2.out hb)
  have T3 := Aside0.mk (blk_below T3.out hb)
  have T4 := Aside0.mk (blk_below T4.out hb)
  have T7 := Aside0.mk (blk_below T7.out hb)
  have RH := Aside0.mk (Kd.R_below RH.out hb)
  have RW := Aside0.mk (Kd.R_below RW.out hb)
  have BB := Aside0.mk (below_step BB.out hb)
  clear hb hv x0 x1
  by_cases hn : 0 < NN.length
  · have d1 : decide ((0 : Int) < (NN.length : Int)) = true := by simp; omega
    have d1' : decide (0 < NN.length) = true := by simpa using hn
    have HE := Aside0.mk (show tryF H W l = (([], []), 15) by unfold tryF; rw [if_pos HR.out, if_pos (by cases hh : (H.any (fun x => mtL x l) || W.any (fun x => mtL x l)) with | true => rfl | false => have := HBE.out.1 (HBI.out.2 hh); omega)])
    clear hn
    have r0 := (blk_cell T4.out 0).trans rfl; have r1 := (blk_cell T4.out 1).trans rfl
    have fr0 := blk_frozen T4.out 0; have fr1 := blk_frozen T4.out 1
    go_upto_region 8 with (fail)
    clear r0 r1 fr0 fr1
    have P_ := Aside0.mk (put_two (n := w.heap.size) (w := w) (.slice none 0 0) (.slice none 0 0) T4.out BB.out (by omega))
    have T2_ := Aside0.mk (two_far' (.slice none 0 0) (.slice none 0 0) T2.out (show w.heap.size ≠ w.heap.size + 1 + 1 by omega))
    have T3_ := Aside0.mk (two_far (.slice none 0 0) (.slice none 0 0) T3.out T4.out (by decide))
    have T7_ := Aside0.mk (two_far' (.slice none 0 0) (.slice none 0 0) T7.out (show b7 ≠ w.heap.size + 1 + 1 by have := NT7.out; omega))
    have RH_ := Aside0.mk (R_two (.slice none 0 0) (.slice none 0 0) RH.out T4.out (by decide))
    have RW_ := Aside0.mk (R_two (.slice none 0 0) (.slice none 0 0) RW.out T4.out (by decide))
    have BB_ := Aside0.mk P_.out.2
    have T4_ := Aside0.mk P_.out.1
    clear P_ BB T2 T3 T4 T7 RH RW
    generalize ((w6).setCell ⟨w.heap.size + 1 + 1, 0, none⟩ (.slice none 0 0)).setCell ⟨w.heap.size + 1 + 1, 1, none⟩ (.slice none 0 0) = wy at BB_ T2_ T3_ T4_ T7_ RH_ RW_ ⊢
    have BB := BB_
    have T2 := T2_
    have T3 := T3_
    have T4 := T4_
    have T7 := T7_
    have RH := RH_
    have RW := RW_
    clear BB_ T2_ T3_ T4_ T7_ RH_ RW_
    go_wp2
    refine bodyPost_ret (results_cellT rfl rfl (loadVar_two 29 (by kernel_rfl) (by kernel_rfl) T4.out)) rfl ?_
    show RetT w (tryF H W l).1 (tryF H W l).2 _ _
    rw [HE.out]
    exact ⟨_, rfl, tabV_nil _ _, BB.out⟩
  have d1 : decide ((0 : Int) < (NN.length : Int)) = false := decide_eq_false (by omega)
  have d1' : decide (0 < NN.length) = false := by simpa using hn
  have HE := Aside0.mk (show tryF H W l = ((H ++ [l], W), 0) by unfold tryF; rw [if_pos HR.out, if_neg (by rw [HBI.out.1 (HBE.out.2 (by omega))]; simp)])
  clear hn
  have x0 := (blk_cell T7.out 0).trans rfl; have x1 := (blk_cell T7.out 1).trans rfl
  go_upto_region 9 with (fail)
  refine (withoutR_calls kA kc W2 W.length _ (Kd.R_reads' RW.out).2.2 (Kd.R_reads' RW.out).2.1 HWI.out (by have := HWI.out; omega)).mono ?_
  rintro e w7 ⟨v, rfl, hv, hb⟩
  rw [HW3.out] at hv
  have RW := Aside0.mk (R_fresh RH.out hv BB.out.size)
  have RH := Aside0.mk (R_old RH.out hb hv)
  have T2 := Aside0.mk (blk_below T2.out hb)
  have T3 := Aside0.mk (blk_below T3.out hb)
  have T4 := Aside0.mk (blk_below T4.out hb)
  have T7 := Aside0.mk (blk_below T7.out hb)
  have BB := Aside0.mk (below_step BB.out hb)
  clear hb hv x0 x1
  obtain ⟨qA, qc, rfl⟩ := Kd.R_slice RW.out
  have x0 := (blk_cell T7.out 0).trans rfl; have x1 := (blk_cell T7.out 1).trans rfl
  have fx0 := blk_frozen T7.out 0; have fx1 := blk_frozen T7.out 1
  go_upto_region 9 with (fail)
  clear x0 x1 fx0 fx1
  have T2 := Aside0.mk (blk_far T2.out (p := ⟨b7, 1, none⟩) (show w.heap.size ≠ b7 by have := NT7.out; omega) (.slice qA W.length qc))
  have T3 := Aside0.mk (blk_far T3.out (p := ⟨b7, 1, none⟩) (blk_ne T3.out T7.out (by decide)) (.slice qA W.length qc))
  have T4 := Aside0.mk (blk_far T4.out (p := ⟨b7, 1, none⟩) (show w.heap.size + 1 + 1 ≠ b7 by have := NT7.out; omega) (.slice qA W.length qc))
  have RH := Aside0.mk (Kd.R_set RH.out T7.out (by decide) 1 (.slice qA W.length qc))
  have RW := Aside0.mk (Kd.R_set RW.out T7.out (by decide) 1 (.slice qA W.length qc))
  have BB := Aside0.mk (BB.out.setCell (p := ⟨b7, 1, none⟩) LT7.out (.slice qA W.length qc))
  have T7 := Aside0.mk (blk_put T7.out 1 (.slice qA W.length qc) rfl)
  generalize w7.setCell ⟨b7, 1, none⟩ (.slice qA W.length qc) = w8 at T2 T3 T4 T7 RH RW BB ⊢
  clear hsub d1 d1'
  obtain ⟨H2, hH2⟩ : ∃ H2, H2 = H ++ [l] := ⟨_, rfl⟩
  have HH2 := Aside0.mk hH2.symm
  clear hH2
  rw [HH2.out] at HE
  have x0 := (blk_cell T7.out 0).trans rfl; have x1 := (blk_cell T7.out 1).trans rfl
  have fx0 := blk_frozen T7.out 0; have fx1 := blk_frozen T7.out 1
  have y0 := (blk_cell T3.out 0).trans rfl; have y1 := (blk_cell T3.out 1).trans rfl; have y2 := (blk_cell T3.out 2).trans rfl; have y3 := (blk_cell T3.out 3).trans rfl; have y4 := (blk_cell T3.out 4).trans rfl
  go_upto_region 10 with ((with_reducible refine gate_builtin (b := .append) (xs := #[.tmp 41, .tmp 43]) rfl ?_); at_builtin; refine Kd.R_append k24 (w0 := w) w.heap.size rfl (.tmp 41) (.tmp 43) 27 24 (.agg #[(.int .i64 0), (.int .i64 0), (.int .i64 0), (.int .i64 0), (.bool false)]) 40 rfl Try.underlying27 info24 rfl (by decide) (by omega) (.slice hA H.length hc) (H) l [.int .i64 l.f0, .int .i64 l.f1, .int .i64 l.f2, .int .i64 l.f3, .bool l.f4] (fun k => some k ≠ (.slice qA W.length qc : Value).ownBlock) (fun _ => False) rfl rfl (k24_mkM _ _ _ _) (fun _ hk => hk.elim) (R_room RW.out) RH.out BB.out BB.out.size (by omega) ?_; intro v10 w10 ho hb hg hat; have T2_ := Aside0.mk (blk_grown T2.out hg (Kd.R_ne RH.out T2.out (by decide))); have T3_ := Aside0.mk (blk_grown T3.out hg (fun e => by have h1 := HOH.out _ e.symm; have h2 := LT3.out; omega)); have T4_ := Aside0.mk (blk_grown T4.out hg (Kd.R_ne RH.out T4.out (by decide))); have T7_ := Aside0.mk (blk_grown T7.out hg (Kd.R_ne RH.out T7.out (by decide))); have RW_ := Aside0.mk (R_beside RW.out hg hat); rw [HH2.out] at ho; obtain ⟨mA, mc, rfl⟩ := Kd.R_slice ho; have RH_ := Aside0.mk ho; have BB_ := Aside0.mk hb; clear ho hb hg hat x0 x1 fx0 fx1 y0 y1 y2 y3 y4 BB T2 T3 T4 T7 RH RW; have x0 := (blk_cell T7_.out 0).trans rfl; have x1 := (blk_cell T7_.out 1).trans rfl; have fx0 := blk_frozen T7_.out 0; have fx1 := blk_frozen T7_.out 1)
  clear x0 x1 fx0 fx1
  have T2 := Aside0.mk (blk_far T2_.out (p := ⟨b7, 0, none⟩) (show w.heap.size ≠ b7 by have := NT7.out; omega) (.slice mA (H2).length mc))
  have T3 := Aside0.mk (blk_far T3_.out (p := ⟨b7, 0, none⟩) (blk_ne T3_.out T7_.out (by decide)) (.slice mA (H2).length mc))
  have T4 := Aside0.mk (blk_far T4_.out (p := ⟨b7, 0, none⟩) (show w.heap.size + 1 + 1 ≠ b7 by have := NT7.out; omega) (.slice mA (H2).length mc))
  have RH := Aside0.mk (Kd.R_set RH_.out T7_.out (by decide) 0 (.slice mA (H2).length mc))
  have RW := Aside0.mk (Kd.R_set RW_.out T7_.out (by decide) 0 (.slice mA (H2).length mc))
  have BB := Aside0.mk (BB_.out.setCell (p := ⟨b7, 0, none⟩) LT7.out (.slice mA (H2).length mc))
  have T7 := Aside0.mk (blk_put T7_.out 0 (.slice mA (H2).length mc) rfl)
  clear BB_ T2_ T3_ T4_ T7_ RH_ RW_
  generalize w10.setCell ⟨b7, 0, none⟩ (.slice mA (H2).length mc) = w9x at BB T2 T3 T4 T7 RH RW ⊢
  have x0 := (blk_cell T7.out 0).trans rfl; have x1 := (blk_cell T7.out 1).trans rfl
  have r0 := (blk_cell T4.out 0).trans rfl; have r1 := (blk_cell T4.out 1).trans rfl
  have fr0 := blk_frozen T4.out 0; have fr1 := blk_frozen T4.out 1
  go_upto_region 11 with (fail)
  clear x0 x1 r0 r1 fr0 fr1
  have P_ := Aside0.mk (put_two (n := w.heap.size) (w := w) (.slice mA H2.length mc) (.slice qA W.length qc) T4.out BB.out (by omega))
  have T2_ := Aside0.mk (two_far' (.slice mA H2.length mc) (.slice qA W.length qc) T2.out (show w.heap.size ≠ w.heap.size + 1 + 1 by omega))
  have T3_ := Aside0.mk (two_far (.slice mA H2.length mc) (.slice qA W.length qc) T3.out T4.out (by decide))
  have T7_ := Aside0.mk (two_far' (.slice mA H2.length mc) (.slice qA W.length qc) T7.out (show b7 ≠ w.heap.size + 1 + 1 by have := NT7.out; omega))
  have RH_ := Aside0.mk (R_two (.slice mA H2.length mc) (.slice qA W.length qc) RH.out T4.out (by decide))
  have RW_ := Aside0.mk (R_two (.slice mA H2.length mc) (.slice qA W.length qc) RW.out T4.out (by decide))
  have BB_ := Aside0.mk P_.out.2
  have T4_ := Aside0.mk P_.out.1
  clear P_ BB T2 T3 T4 T7 RH RW
  generalize ((w9x).setCell ⟨w.heap.size + 1 + 1, 0, none⟩ (.slice mA H2.length mc)).setCell ⟨w.heap.size + 1 + 1, 1, none⟩ (.slice qA W.length qc) = wy at BB_ T2_ T3_ T4_ T7_ RH_ RW_ ⊢
  have BB := BB_
  have T2 := T2_
  have T3 := T3_
  have T4 := T4_
  have T7 := T7_
  have RH := RH_
  have RW := RW_
  clear BB_ T2_ T3_ T4_ T7_ RH_ RW_
  go_wp2
  refine bodyPost_ret (results_cellT rfl rfl (loadVar_two 29 (by kernel_rfl) (by kernel_rfl) T4.out)) rfl ?_
  show RetT w (tryF H W l).1 (tryF H W l).2 _ _
  rw [HE.out]
  exact ⟨_, rfl, ⟨_, _, rfl, Kd.R_mono RH.out (fun _ _ => trivial), Kd.R_mono RW.out (fun _ _ => trivial)⟩, BB.out⟩
end Go.Proofs.Ytifnfnoicinbaaa.M
