/- Settling, as the program does it. -/
import Derived.Test.YtifnfnoicinbaaaB7
import Derived.Test.YtifnfnoicinbaaaB3
import Derived.WalkMore
import Derived.Deep.LoopGhost
namespace Go.Proofs.Ytifnfnoicinbaaa.M
open Go.RowKit Go.Proofs.YtifnfnoicinbaaaW.PrintWords Go.Proofs.YtifnfnoicinbaaaW.PrintLast Go.Proofs.YtifnfnoicinbaaaW.PrintMore
set_option linter.unusedVariables false
set_option linter.unusedSimpArgs false
set_option linter.unnecessarySimpa false

section
variable {H W : List S24} {G N : List Int}
theorem free_first {j : Nat} (h : j < W.length) (hb : blkB H W j = false) (hp : ∀ i, i < j → blkB H W i = true) : PL.freeI mtL H W = some j := by
  unfold PL.freeI
  rw [List.find?_range_eq_some]
  refine ⟨?_, List.mem_range.2 h, fun i hi => ?_⟩
  · unfold blkB at hb
    simpa using hb
  · have := hp i hi
    unfold blkB at this
    simpa using this
theorem free_all (hp : ∀ i, i < W.length → blkB H W i = true) : PL.freeI mtL H W = none :=
  PL.freeI_none.2 (fun i hi e => by have := hp i hi; unfold blkB at this; rw [e] at this; cases this)
theorem erase_len {i : Nat} (h : i < W.length) : (W.eraseIdx i).length + 1 = W.length := by rw [List.length_eraseIdx, if_pos h]; omega
theorem settle_free {i : Nat} (h : PL.freeI mtL H W = some i) (hi : i < W.length) : PL.settleF hdL mtL (W.length + 1) H W G N = PL.settleF hdL mtL ((W.eraseIdx i).length + 1) (H ++ [rd_T24 W i]) (W.eraseIdx i) (G ++ [(rd_T24 W i).f1]) N := by
  rw [PL.settleF, h, erase_len hi]
  dsimp only
  rw [List.getElem?_eq_getElem hi, rd_at hi]
  rfl
theorem settle_gone {i : Nat} (hf : PL.freeI mtL H W = none) (hz : stuckL H W ≠ 0) (hw : PL.waitI hdL W (stuckL H W) = some i) : PL.settleF hdL mtL (W.length + 1) H W G N = PL.settleF hdL mtL ((W.eraseIdx i).length + 1) H (W.eraseIdx i) G (N ++ [stuckL H W]) := by
  have hi : i < W.length := by
    obtain ⟨w, hw, _⟩ := PL.waitI_some hw
    exact (List.getElem?_eq_some_iff.1 hw).1
  rw [PL.settleF, hf, erase_len hi]
  dsimp only
  rw [if_neg hz, hw]
theorem settle_end (hf : PL.freeI mtL H W = none) (hz : stuckL H W = 0) : PL.settleF hdL mtL (W.length + 1) H W G N = (H, W, G, N) := by
  rw [PL.settleF, hf]
  dsimp only
  rw [if_pos hz]
theorem waitN_of {x : Int} {i : Nat} (h : PL.waitI hdL W x = some i) : waitN W x = i := by
  unfold waitN firstAt
  unfold PL.waitI at h
  rw [h]
theorem waitI_lt {x : Int} {i : Nat} (h : PL.waitI hdL W x = some i) : i < W.length := by
  obtain ⟨w, hw, _⟩ := PL.waitI_some h
  exact (List.getElem?_eq_some_iff.1 hw).1
theorem stuck_at (hG : Good H W) (hz : stuckL H W ≠ 0) : ∃ i, PL.waitI hdL W (stuckL H W) = some i := by
  obtain ⟨w, hw, he, _⟩ := PL.stuckV_some hz
  obtain ⟨i, hi⟩ := List.getElem?_of_mem hw
  refine ⟨i, ?_⟩
  rw [show stuckL H W = hdL w from he.symm]
  exact PL.waitI_of hG.single hi
theorem Good.drop (h : Good H W) (i : Nat) : Good H (W.eraseIdx i) where
  wf := fun x hx => h.wf x (by
    rcases List.mem_append.1 hx with hx | hx
    · exact List.mem_append_left _ hx
    · exact List.mem_append_right _ (List.mem_of_mem_eraseIdx hx))
  len := by have := h.len; have := (List.eraseIdx_sublist W i).length_le; omega
  single := by
    have := h.single
    unfold PL.Single at *
    exact this.sublist ((List.eraseIdx_sublist W i).map _)
theorem Good.grant (h : Good H W) {i : Nat} (hi : i < W.length) : Good (H ++ [rd_T24 W i]) (W.eraseIdx i) where
  wf := fun x hx => h.wf x (by
    rcases List.mem_append.1 hx with hx | hx
    · rcases List.mem_append.1 hx with hx | hx
      · exact List.mem_append_left _ hx
      · rw [List.mem_singleton] at hx
        subst hx
        rw [rd_at hi]
        exact List.mem_append_right _ (List.getElem_mem hi)
    · exact List.mem_append_right _ (List.mem_of_mem_eraseIdx hx))
  len := by have := h.len; have := erase_len hi; simp; omega
  single := (h.drop i).single
end
def SettPost (base : Nat) (w : World) (R : List S24 × List S24 × List Int × List Int) (e : Ending) (w' : World) : Prop :=
  ∃ vH vW vG vN, e = .returned (.tuple #[.agg #[vH, vW], .agg #[vG, vN]]) ∧ k24.R 24 w' base (fun _ => True) vH R.1 ∧ k24.R 24 w' base (fun _ => True) vW R.2.1 ∧ kI.R 3 w' base (fun _ => True) vG R.2.2.1 ∧ kI.R 3 w' base (fun _ => True) vN R.2.2.2 ∧ Below base w w'
set_option maxRecDepth 100000 in
set_option maxHeartbeats 2000000 in
theorem settle_calls (q base : Nat) (H Wt : List S24) (w : World) (hT : TabO w base q H Wt [] []) (hG : Good H Wt) (hb : base ≤ w.heap.size) :
    Calls Try.prog 46 #[.pointer (some ⟨q, 0, none⟩)] w fun e w' => SettPost base w (PL.settle hdL mtL H Wt) e w' := by
  have HT := Aside0.mk hT
  have HGD := Aside0.mk hG
  have HBS := Aside0.mk hb
  have HLN := Aside0.mk hG.len
  clear hT hG hb
  obtain ⟨R, hR⟩ : ∃ R, R = PL.settle hdL mtL H Wt := ⟨_, rfl⟩
  rw [← hR]
  have HR := Aside0.mk (show PL.settleF hdL mtL (Wt.length + 1) H Wt [] [] = R from hR.symm)
  clear hR
  go_enter Try.func46, Try.ntmps46
  go_wp2
  have hb_ := below_alloc (below_alloc (Below.refl _ w) (.cells #[.slice none 0 0, .slice none 0 0] 29)) (.cells #[.slice none 0 0, .slice none 0 0] 33)
  have hG0_ := blk_alloc (blk_lit0 w (.cells #[.slice none 0 0, .slice none 0 0] 29)) (.cells #[.slice none 0 0, .slice none 0 0] 33)
  have hG1_ := blk_lit w (.cells #[.slice none 0 0, .slice none 0 0] 29) (.cells #[.slice none 0 0, .slice none 0 0] 33)
  generalize ((w.alloc (.cells #[.slice none 0 0, .slice none 0 0] 29)).alloc (.cells #[.slice none 0 0, .slice none 0 0] 33)) = V at hb_ hG0_ hG1_ ⊢
  have HB_V := Aside0.mk hb_
  have V0 := Aside0.mk hG0_
  have V1 := Aside0.mk hG1_
  clear hb_ hG0_ hG1_
  have HT1 := Aside0.mk (HT.out.below HB_V.out)
  have HB1 := Aside0.mk (HB_V.out.mono HBS.out)
  go_step3
  go_wp2
  go_step3
  go_wp2
  go_loopg [8] Wt.length (fun kq v8 w' => ∃ (H' W' : List S24) (G' N' : List Int), Aside0 (kq = W'.length) ∧ Aside0 (TabO w' base q H' W' G' N') ∧ Aside0 (Good H' W') ∧ Aside0 (PL.settleF hdL mtL (W'.length + 1) H' W' G' N' = R) ∧ Aside0 (G'.length + N'.length + W'.length ≤ 1000) ∧ Aside0 (Below base w w') ∧ Aside0 (w'.heap[w.heap.size]? = some (.cells #[.slice none 0 0, .slice none 0 0] 29 (0, 0))) ∧ Aside0 (w'.heap[w.heap.size + 1]? = some (.cells #[.slice none 0 0, .slice none 0 0] 33 (0, 0))))
  case atStart => exact ⟨H, Wt, [], [], ⟨rfl⟩, HT1, HGD, HR, ⟨by have := HLN.out; simp; omega⟩, HB1, V0, V1⟩
  case round =>
    obtain ⟨H', W', G', N', HK, HT2, HGD2, HR2, HL2, HB2, HV0, HV1⟩ := hrel
    clear HT HGD HLN HR HT1 HB1 V0 V1 HB_V
    obtain ⟨vH, vW, vG, vN, hX⟩ := HT2.out.x
    have HX := Aside0.mk hX
    obtain ⟨AW, cW, hvW⟩ := Kd.R_slice hX.rW
    have HLW := Aside0.mk HGD2.out.len
    have hj1 : W'.length ≤ 1000 := by have := HLW.out; omega
    have z0 := (blk_cell hX.bq 0).trans rfl; have z1 := (blk_cell hX.bq 1).trans rfl; have z2 := (blk_cell hX.bq 2).trans rfl; have z3 := (blk_cell hX.bq 3).trans rfl
    subst hvW
    clear hX
    go_wp2
    clear z0 z1 z2 z3
    go_loopg [14] W'.length (fun kq v14 w' => ∃ j : Nat, v14 = .int .i64 j ∧ Aside0 (kq + j = W'.length) ∧ Aside0 (∀ i, i < j → blkB H' W' i = true) ∧ Aside0 (Below wr.heap.size wr w'))
    case atStart => exact ⟨0, rfl, ⟨rfl⟩, ⟨fun i hi => absurd hi (by omega)⟩, ⟨Below.refl _ _⟩⟩
    case round =>
      obtain ⟨j, rfl, HJ, HAL, HB⟩ := hrel
      by_cases hlt : j < W'.length
      · have h1 : decide (j < W'.length) = true := by simpa using hlt
        cases hc : blkB H' W' j with
        | true =>
          have HC := Aside0.mk hc
          clear hc
          go_wp2_with ((with_reducible refine gate_dst (N := 19) rfl ?_); refine goesL_ (some 19) rfl rfl Try.func74 (by kernel_rfl) rfl #[.pointer (some ⟨q, 0, none⟩), .int .i64 j] rfl (by (try simp only [List.map_toArray, List.map_cons, List.map_nil]); first | done | rfl) ?_; refine (blocked_calls q j H' W' _ (HX.out.o.tab.below HB.out) hlt).mono ?_; rintro e w3 ⟨rfl, hb⟩; refine ⟨_, rfl, ?_⟩; rw [HC.out]; have HB3 := Aside0.mk (below_step HB.out hb); clear hb)
          go_roundg (W'.length - (j + 1))
          case measure => have := HJ.out; omega
          case rel => exact ⟨j + 1, by go_num, ⟨by omega⟩, ⟨fun i hi => by
            rcases Nat.lt_or_ge i j with h | h
            · exact HAL.out i h
            · obtain rfl : i = j := by omega
              exact HC.out⟩, HB3⟩
        | false =>
          have HF := Aside0.mk (free_first hlt hc HAL.out)
          have HC := Aside0.mk hc
          clear hc
          go_upto_region 5 with ((with_reducible refine gate_dst (N := 19) rfl ?_); refine goesL_ (some 19) rfl rfl Try.func74 (by kernel_rfl) rfl #[.pointer (some ⟨q, 0, none⟩), .int .i64 j] rfl (by (try simp only [List.map_toArray, List.map_cons, List.map_nil]); first | done | rfl) ?_; refine (blocked_calls q j H' W' _ (HX.out.o.tab.below HB.out) hlt).mono ?_; rintro e w3 ⟨rfl, hb⟩; refine ⟨_, rfl, ?_⟩; rw [HC.out]; have HB3 := Aside0.mk (below_step HB.out hb); clear hb)
          have HX3 := Aside0.mk (HX.out.below HB3.out)
          have HV03 := Aside0.mk (blk_below HV0.out HB3.out)
          have HV13 := Aside0.mk (blk_below HV1.out HB3.out)
          have HB23 := Aside0.mk (HB2.out.trans (HB3.out.mono (Nat.le_trans HBS.out HB2.out.size)))
          clear HX HV0 HV1 HB2 HB HB3 HAL HC
          obtain ⟨ad, rfl, x0, x1, x2, x3, x4⟩ := at_T24 (Kd.R_reads' HX3.out.rW).2.2 (j : Int) (by omega) (by omega)
          simp only [Int.toNat_natCast] at x0 x1 x2 x3 x4
          have z0 := (blk_cell HX3.out.bq 0).trans rfl; have z1 := (blk_cell HX3.out.bq 1).trans rfl; have z2 := (blk_cell HX3.out.bq 2).trans rfl; have z3 := (blk_cell HX3.out.bq 3).trans rfl
          go_upto_region 6 with (fail)
          have hb4 := below_alloc (Below.refl _ w3) (.cells #[.int .i64 (rd_T24 W' (j : Int)).f0, .int .i64 (rd_T24 W' (j : Int)).f1, .int .i64 (rd_T24 W' (j : Int)).f2, .int .i64 (rd_T24 W' (j : Int)).f3, .bool (rd_T24 W' (j : Int)).f4] 24)
          have HG4 := Aside0.mk (blk_new w3 (.cells #[.int .i64 (rd_T24 W' (j : Int)).f0, .int .i64 (rd_T24 W' (j : Int)).f1, .int .i64 (rd_T24 W' (j : Int)).f2, .int .i64 (rd_T24 W' (j : Int)).f3, .bool (rd_T24 W' (j : Int)).f4] 24))
          have HX4 := Aside0.mk (HX3.out.below hb4)
          have HV04 := Aside0.mk (blk_below HV03.out hb4)
          have HV14 := Aside0.mk (blk_below HV13.out hb4)
          have HB24 := Aside0.mk (HB23.out.trans (hb4.mono (Nat.le_trans HBS.out HB23.out.size)))
          have HL3 := Aside0.mk (show (∀ k, (Value.slice (some ad) W'.length cW).ownBlock = some k → k < w3.heap.size) ∧ (∀ k, vH.ownBlock = some k → k < w3.heap.size) ∧ q < w3.heap.size from ⟨Kd.R_lt HX3.out.rW, Kd.R_lt HX3.out.rH, blk_lt HX3.out.bq⟩)
          clear hb4 HX3 HV03 HV13 HB23 x0 x1 x2 x3 x4 z0 z1 z2 z3
          generalize w3.alloc (.cells #[.int .i64 (rd_T24 W' (j : Int)).f0, .int .i64 (rd_T24 W' (j : Int)).f1, .int .i64 (rd_T24 W' (j : Int)).f2, .int .i64 (rd_T24 W' (j : Int)).f3, .bool (rd_T24 W' (j : Int)).f4] 24) = w4 at HG4 HX4 HV04 HV14 HB24 ⊢
          generalize w3.heap.size = g at HG4 HL3 ⊢
          obtain ⟨E, hE⟩ : ∃ E, E = W'.eraseIdx j := ⟨_, rfl⟩
          have hdel := delete_calls base (fun _ => True) (.slice (some ad) W'.length cW) W' j w4 HX4.out.rW hlt (Nat.le_trans HBS.out HB24.out.size)
          rw [← hE] at hdel
          have HDEL := Aside0.mk hdel
          have HE := Aside0.mk hE
          clear hdel hE
          have z0 := (blk_cell HX4.out.bq 0).trans rfl; have z1 := (blk_cell HX4.out.bq 1).trans rfl; have z2 := (blk_cell HX4.out.bq 2).trans rfl; have z3 := (blk_cell HX4.out.bq 3).trans rfl
          go_upto_region 7 with ((with_reducible refine gate_dst (N := 38) rfl ?_); refine goesL_ (some 38) rfl rfl Try.func70 (by kernel_rfl) rfl #[.slice (some ad) W'.length cW, .int .i64 j, .int .i64 ((j : Int) + 1)] rfl (by (try simp only [List.map_toArray, List.map_cons, List.map_nil]); first | done | rfl) ?_; refine HDEL.out.mono ?_; rintro e w5 ⟨A5, c5, rfl, hra, hown, hg⟩; refine ⟨_, rfl, ?_⟩; have HRA := Aside0.mk hra; have HOW := Aside0.mk hown; have HGR := Aside0.mk hg; clear hra hown hg z0 z1 z2 z3; have HQ5 := Aside0.mk (blk_grown HX4.out.bq HGR.out (Kd.R_ne HX4.out.rW HX4.out.bq (by decide))); have z0 := (blk_cell HQ5.out 0).trans rfl; have z1 := (blk_cell HQ5.out 1).trans rfl; have z2 := (blk_cell HQ5.out 2).trans rfl; have z3 := (blk_cell HQ5.out 3).trans rfl; have fz0 := blk_frozen HQ5.out 0; have fz1 := blk_frozen HQ5.out 1; have fz2 := blk_frozen HQ5.out 2; have fz3 := blk_frozen HQ5.out 3)
          have HX5 := Aside0.mk (HX4.out.setW HRA.out HGR.out (.inl HOW.out))
          have hf5 := far_row (q := q) HX4.out.rW (.inl rfl) HGR.out 1 (.slice A5 E.length c5)
          have HV05 := Aside0.mk (hf5.keep _ _ _ HV04.out (by decide) (by decide) (blk_ne HV04.out HX4.out.bq (by decide)))
          have HV15 := Aside0.mk (hf5.keep _ _ _ HV14.out (by decide) (by decide) (blk_ne HV14.out HX4.out.bq (by decide)))
          have HB25 := Aside0.mk (below_row HX4.out.rW HB24.out (Nat.le_trans HBS.out HB24.out.size) HGR.out HX4.out.hq 1 (.slice A5 E.length c5))
          have HG5 := Aside0.mk ((Below.heap_setCell w5 ⟨q, 1, none⟩ (.slice A5 E.length c5) g (by have := HL3.out.2.2; show g ≠ q; omega)).trans (blk_grown HG4.out HGR.out (fun e => by have := HL3.out.1 g e.symm; omega)))
          clear hf5 HX4 HV04 HV14 HB24 HG4 HDEL HRA HOW HGR HQ5 z0 z1 z2 z3 fz0 fz1 fz2 fz3
          generalize w5.setCell ⟨q, 1, none⟩ (.slice A5 E.length c5) = w6 at HX5 HV05 HV15 HB25 HG5 ⊢
          refine start_ (n := 13) (S := fun w' => w'.cell? ⟨q, 0, none⟩ = some vH ∧ w'.cell? ⟨g, 0, none⟩ = some (.int .i64 (rd_T24 W' (j : Int)).f0) ∧ w'.cell? ⟨g, 1, none⟩ = some (.int .i64 (rd_T24 W' (j : Int)).f1) ∧ w'.cell? ⟨g, 2, none⟩ = some (.int .i64 (rd_T24 W' (j : Int)).f2) ∧ w'.cell? ⟨g, 3, none⟩ = some (.int .i64 (rd_T24 W' (j : Int)).f3) ∧ w'.cell? ⟨g, 4, none⟩ = some (.bool (rd_T24 W' (j : Int)).f4)) (ds := [12]) #[false, false, false, false, false, false, false, false, false, false, false, false, false] (by kernel_rfl) rfl rfl ⟨(blk_cell (blk_drew HX5.out.bq) 0).trans rfl, (blk_cell (blk_drew HG5.out) 0).trans rfl, (blk_cell (blk_drew HG5.out) 1).trans rfl, (blk_cell (blk_drew HG5.out) 2).trans rfl, (blk_cell (blk_drew HG5.out) 3).trans rfl, (blk_cell (blk_drew HG5.out) 4).trans rfl⟩ (fun hHeld => ?_)
          have hbd := below_drew1 (Below.refl w6.heap.size w6)
          have HX7 := Aside0.mk (HX5.out.below hbd)
          have HV07 := Aside0.mk (blk_below HV05.out hbd)
          have HV17 := Aside0.mk (blk_below HV15.out hbd)
          have HG7 := Aside0.mk (blk_below HG5.out hbd)
          have HB27 := Aside0.mk (HB25.out.trans (hbd.mono (Nat.le_trans HBS.out HB25.out.size)))
          clear hbd HX5 HV05 HV15 HG5 HB25
          generalize w6.drew = wd at HX7 HV07 HV17 HG7 HB27 hHeld ⊢
          have HGV := Aside0.mk (Kd.R_ne HX7.out.rH HG7.out)
          refine pure_ (i := 0) (N := some 42) (v := ?_) (a' := ?_) #[true, false, false, false, false, false, false, false, false, false, false, false, false] rfl rfl (by kernel_rfl) (fun _ _ _ h => h) (Or.inl ⟨by rfl, ?_⟩) ?_ ?_
          rotate_left
          · intro w'
            go_simp
            with_reducible rfl
          rotate_left
          · simp only [Act.put, List.setIfInBounds_toArray, List.set_cons_zero, List.set_cons_succ, i64_w, i32_w]
            rfl
          refine pure_ (i := 1) (N := some 43) (v := ?_) (a' := ?_) #[true, true, false, false, false, false, false, false, false, false, false, false, false] rfl rfl (by kernel_rfl) (fun _ _ _ h => h) (Or.inl ⟨by rfl, ?_⟩) ?_ ?_
          rotate_left
          · intro w'
            go_simp
            with_reducible rfl
          rotate_left
          · simp only [Act.put, List.setIfInBounds_toArray, List.set_cons_zero, List.set_cons_succ, i64_w, i32_w]
            rfl
          refine pure_ (i := 2) (N := some 44) (v := ?_) (a' := ?_) #[true, true, true, false, false, false, false, false, false, false, false, false, false] rfl rfl (by kernel_rfl) (fun _ _ _ h => h) (Or.inl ⟨by rfl, ?_⟩) ?_ ?_
          rotate_left
          · intro w'
            go_simp
            with_reducible rfl
          rotate_left
          · simp only [Act.put, List.setIfInBounds_toArray, List.set_cons_zero, List.set_cons_succ, i64_w, i32_w]
            rfl
          refine pure_ (i := 3) (N := some 45) (v := ?_) (a' := ?_) #[true, true, true, true, false, false, false, false, false, false, false, false, false] rfl rfl (by kernel_rfl) (fun _ _ _ h => h) (Or.inl ⟨by rfl, ?_⟩) ?_ ?_
          rotate_left
          · intro w'
            go_simp
            with_reducible rfl
          rotate_left
          · simp only [Act.put, List.setIfInBounds_toArray, List.set_cons_zero, List.set_cons_succ, i64_w, i32_w]
            rfl
          refine pure_ (i := 4) (N := some 46) (v := ?_) (a' := ?_) #[true, true, true, true, true, false, false, false, false, false, false, false, false] rfl rfl (by kernel_rfl) (fun _ _ _ h => h) (Or.inl ⟨by rfl, ?_⟩) ?_ ?_
          rotate_left
          · intro w'
            go_simp
            with_reducible rfl
          rotate_left
          · simp only [Act.put, List.setIfInBounds_toArray, List.set_cons_zero, List.set_cons_succ, i64_w, i32_w]
            rfl
          refine take_ (i := 5) (N := some 47) (v := ?_) (a' := ?_) #[true, true, true, true, true, true, false, false, false, false, false, false, false] rfl rfl (by kernel_rfl) (fun _ _ _ h => h) (Or.inl ⟨by rfl, ?_⟩) hHeld ?_ ?_
          rotate_left
          · rintro w' ⟨s0, s1, s2, s3, s4, s5⟩
            go_simp
            with_reducible rfl
          rotate_left
          · simp only [Act.put, List.setIfInBounds_toArray, List.set_cons_zero, List.set_cons_succ, i64_w, i32_w]
            rfl
          refine take_ (i := 6) (N := some 48) (v := ?_) (a' := ?_) #[true, true, true, true, true, true, true, false, false, false, false, false, false] rfl rfl (by kernel_rfl) (fun _ _ _ h => h) (Or.inl ⟨by rfl, ?_⟩) hHeld ?_ ?_
          rotate_left
          · rintro w' ⟨s0, s1, s2, s3, s4, s5⟩
            go_simp
            with_reducible rfl
          rotate_left
          · simp only [Act.put, List.setIfInBounds_toArray, List.set_cons_zero, List.set_cons_succ, i64_w, i32_w]
            rfl
          refine one_ (i := 7) (N := some 49) #[true, true, true, true, true, true, true, true, false, false, false, false, false] rfl rfl (by kernel_rfl) (by decide) (fun K hK => ?_)
          refine event_step (v := .slice (some ⟨(wd).heap.size, 0, none⟩) 1 1) (w1 := (wd).alloc (.cells #[.int .i64 (rd_T24 W' (j : Int)).f0, .int .i64 (rd_T24 W' (j : Int)).f1, .int .i64 (rd_T24 W' (j : Int)).f2, .int .i64 (rd_T24 W' (j : Int)).f3, .bool (rd_T24 W' (j : Int)).f4] 24)) (by rfl) (by first | (go_simp; done) | (go_simp; rfl)) ?_
          refine hK.out _ _ ⟨(blk_cell (blk_alloc HX7.out.bq _) 0).trans rfl, (blk_cell (blk_alloc HG7.out _) 0).trans rfl, (blk_cell (blk_alloc HG7.out _) 1).trans rfl, (blk_cell (blk_alloc HG7.out _) 2).trans rfl, (blk_cell (blk_alloc HG7.out _) 3).trans rfl, (blk_cell (blk_alloc HG7.out _) 4).trans rfl⟩ (fun hHeld => ?_)
          clear hK K
          refine norm_ (a' := ?_) ?_ ?_
          rotate_left
          · show Act.put _ (some 49) _ = _
            simp only [Act.put, List.setIfInBounds_toArray, List.set_cons_zero, List.set_cons_succ, i64_w, i32_w]
            rfl
          refine one_ (i := 8) (N := some 50) #[true, true, true, true, true, true, true, true, true, false, false, false, false] rfl rfl (by kernel_rfl) (by decide) (fun K hK => ?_)
          refine Kd.R_append_step k24 (w0 := _) base (by rfl) (.tmp 47) (.tmp 49) 27 24 (.agg #[(.int .i64 0), (.int .i64 0), (.int .i64 0), (.int .i64 0), (.bool false)]) 40 rfl Try.underlying27 info24 rfl (by decide) (by omega) vH (H') (rd_T24 W' (j : Int)) [.int .i64 (rd_T24 W' (j : Int)).f0, .int .i64 (rd_T24 W' (j : Int)).f1, .int .i64 (rd_T24 W' (j : Int)).f2, .int .i64 (rd_T24 W' (j : Int)).f3, .bool (rd_T24 W' (j : Int)).f4] (fun _ => True) (fun _ => False) rfl rfl (k24_mkM _ _ _ _) (fun _ hk => hk.elim) (fun _ _ => trivial) (HX7.out.rH) (HB27.out) ((Nat.le_trans HBS.out HB27.out.size)) (by have := HLW.out; omega) ?_
          intro v8 w8 ho hb hg hat
          obtain ⟨H8, hH8⟩ : ∃ H8, H8 = H' ++ [rd_T24 W' (j : Int)] := ⟨_, rfl⟩
          rw [← hH8] at ho
          have HH8 := Aside0.mk hH8
          obtain ⟨A8, c8, rfl⟩ := Kd.R_slice ho
          clear hH8
          have HRH := Aside0.mk ho
          have HGH := Aside0.mk hg
          have HAT := Aside0.mk hat
          have HQ8 := Aside0.mk (blk_grown HX7.out.bq hg (Kd.R_ne HX7.out.rH HX7.out.bq (by decide)))
          have HG8 := Aside0.mk (blk_grown HG7.out hg (fun e => by have := HL3.out.2.1 g e.symm; omega))
          clear ho hb hg hat
          refine hK.out _ _ ⟨(blk_cell (HQ8.out) 0).trans rfl, (blk_cell (HG8.out) 0).trans rfl, (blk_cell (HG8.out) 1).trans rfl, (blk_cell (HG8.out) 2).trans rfl, (blk_cell (HG8.out) 3).trans rfl, (blk_cell (HG8.out) 4).trans rfl⟩ (fun hHeld => ?_)
          clear hK K
          refine norm_ (a' := ?_) ?_ ?_
          rotate_left
          · show Act.put _ (some 50) _ = _
            simp only [Act.put, List.setIfInBounds_toArray, List.set_cons_zero, List.set_cons_succ, i64_w, i32_w]
            rfl
          refine pure_ (i := 9) (N := some 51) (v := ?_) (a' := ?_) #[true, true, true, true, true, true, true, true, true, true, false, false, false] rfl rfl (by kernel_rfl) (fun _ _ _ h => h) (Or.inl ⟨by rfl, ?_⟩) ?_ ?_
          rotate_left
          · intro w'
            go_simp
            with_reducible rfl
          rotate_left
          · simp only [Act.put, List.setIfInBounds_toArray, List.set_cons_zero, List.set_cons_succ, i64_w, i32_w]
            rfl
          refine pure_ (i := 10) (N := some 52) (v := ?_) (a' := ?_) #[true, true, true, true, true, true, true, true, true, true, true, false, false] rfl rfl (by kernel_rfl) (fun _ _ _ h => h) (Or.inl ⟨by rfl, ?_⟩) ?_ ?_
          rotate_left
          · intro w'
            go_simp
            with_reducible rfl
          rotate_left
          · simp only [Act.put, List.setIfInBounds_toArray, List.set_cons_zero, List.set_cons_succ, i64_w, i32_w]
            rfl
          refine pure_ (i := 11) (N := some 53) (v := ?_) (a' := ?_) #[true, true, true, true, true, true, true, true, true, true, true, true, false] rfl rfl (by kernel_rfl) (fun _ _ _ h => h) (Or.inl ⟨by rfl, ?_⟩) ?_ ?_
          rotate_left
          · intro w'
            go_simp
            with_reducible rfl
          rotate_left
          · simp only [Act.put, List.setIfInBounds_toArray, List.set_cons_zero, List.set_cons_succ, i64_w, i32_w]
            rfl
          have z0 := (blk_cell HQ8.out 0).trans rfl; have z1 := (blk_cell HQ8.out 1).trans rfl; have z2 := (blk_cell HQ8.out 2).trans rfl; have z3 := (blk_cell HQ8.out 3).trans rfl
          have fz0 := blk_frozen HQ8.out 0; have fz1 := blk_frozen HQ8.out 1; have fz2 := blk_frozen HQ8.out 2; have fz3 := blk_frozen HQ8.out 3
          refine last_ (i := 12) (N := none) #[true, true, true, true, true, true, true, true, true, true, true, true, true] rfl rfl (by kernel_rfl) (by decide) (fun K hK => ?_)
          refine skip_ (w1 := ?_) (by rfl) rfl ?_ ?_
          rotate_left
          · go_simp
            rfl
          refine hK.out _ _ ?_
          clear hK K
          refine done_ (by kernel_rfl) ?_
          have HX9 := Aside0.mk (HX7.out.setH HRH.out HGH.out HAT.out)
          have hf9 := far_row (q := q) HX7.out.rH (.inl rfl) HGH.out 0 (.slice A8 H8.length c8)
          have HV09 := Aside0.mk (hf9.keep _ _ _ HV07.out (by decide) (by decide) (blk_ne HV07.out HX7.out.bq (by decide)))
          have HV19 := Aside0.mk (hf9.keep _ _ _ HV17.out (by decide) (by decide) (blk_ne HV17.out HX7.out.bq (by decide)))
          have HB29 := Aside0.mk (below_row HX7.out.rH HB27.out (Nat.le_trans HBS.out HB27.out.size) HGH.out HX7.out.hq 0 (.slice A8 H8.length c8))
          have HG9 := Aside0.mk ((Below.heap_setCell w8 ⟨q, 0, none⟩ (.slice A8 H8.length c8) g (by have := HL3.out.2.2; show g ≠ q; omega)).trans HG8.out)
          clear hf9 HX7 HV07 HV17 HB27 HG7 HRH HGH HAT HQ8 HG8 hHeld z0 z1 z2 z3 fz0 fz1 fz2 fz3 HGV
          generalize w8.setCell ⟨q, 0, none⟩ (.slice A8 H8.length c8) = w9 at HX9 HV09 HV19 HB29 HG9 ⊢
          go_upto_region 8 with (fail)
          refine start_ (n := 14) (S := fun w' => w'.cell? ⟨q, 2, none⟩ = some vG ∧ w'.cell? ⟨g, 1, none⟩ = some (.int .i64 (rd_T24 W' (j : Int)).f1)) (ds := [13]) #[false, false, false, false, false, false, false, false, false, false, false, false, false, false] (by kernel_rfl) rfl rfl ⟨(blk_cell (blk_drew HX9.out.bq) 2).trans rfl, (blk_cell (blk_drew HG9.out) 1).trans rfl⟩ (fun hHeld => ?_)
          have hbd := below_drew1 (Below.refl w9.heap.size w9)
          have HX7 := Aside0.mk (HX9.out.below hbd)
          have HV07 := Aside0.mk (blk_below HV09.out hbd)
          have HV17 := Aside0.mk (blk_below HV19.out hbd)
          have HG7 := Aside0.mk (blk_below HG9.out hbd)
          have HB27 := Aside0.mk (HB29.out.trans (hbd.mono (Nat.le_trans HBS.out HB29.out.size)))
          clear hbd HX9 HV09 HV19 HG9 HB29
          generalize w9.drew = we at HX7 HV07 HV17 HG7 HB27 hHeld ⊢
          refine pure_ (i := 0) (N := some 54) (v := ?_) (a' := ?_) #[true, false, false, false, false, false, false, false, false, false, false, false, false, false] rfl rfl (by kernel_rfl) (fun _ _ _ h => h) (Or.inl ⟨by rfl, ?_⟩) ?_ ?_
          rotate_left
          · intro w'
            go_simp
            with_reducible rfl
          rotate_left
          · simp only [Act.put, List.setIfInBounds_toArray, List.set_cons_zero, List.set_cons_succ, i64_w, i32_w]
            rfl
          refine pure_ (i := 1) (N := some 55) (v := ?_) (a' := ?_) #[true, true, false, false, false, false, false, false, false, false, false, false, false, false] rfl rfl (by kernel_rfl) (fun _ _ _ h => h) (Or.inl ⟨by rfl, ?_⟩) ?_ ?_
          rotate_left
          · intro w'
            go_simp
            with_reducible rfl
          rotate_left
          · simp only [Act.put, List.setIfInBounds_toArray, List.set_cons_zero, List.set_cons_succ, i64_w, i32_w]
            rfl
          refine pure_ (i := 2) (N := some 56) (v := ?_) (a' := ?_) #[true, true, true, false, false, false, false, false, false, false, false, false, false, false] rfl rfl (by kernel_rfl) (fun _ _ _ h => h) (Or.inl ⟨by rfl, ?_⟩) ?_ ?_
          rotate_left
          · intro w'
            go_simp
            with_reducible rfl
          rotate_left
          · simp only [Act.put, List.setIfInBounds_toArray, List.set_cons_zero, List.set_cons_succ, i64_w, i32_w]
            rfl
          refine pure_ (i := 3) (N := some 57) (v := ?_) (a' := ?_) #[true, true, true, true, false, false, false, false, false, false, false, false, false, false] rfl rfl (by kernel_rfl) (fun _ _ _ h => h) (Or.inl ⟨by rfl, ?_⟩) ?_ ?_
          rotate_left
          · intro w'
            go_simp
            with_reducible rfl
          rotate_left
          · simp only [Act.put, List.setIfInBounds_toArray, List.set_cons_zero, List.set_cons_succ, i64_w, i32_w]
            rfl
          refine pure_ (i := 4) (N := some 58) (v := ?_) (a' := ?_) #[true, true, true, true, true, false, false, false, false, false, false, false, false, false] rfl rfl (by kernel_rfl) (fun _ _ _ h => h) (Or.inl ⟨by rfl, ?_⟩) ?_ ?_
          rotate_left
          · intro w'
            go_simp
            with_reducible rfl
          rotate_left
          · simp only [Act.put, List.setIfInBounds_toArray, List.set_cons_zero, List.set_cons_succ, i64_w, i32_w]
            rfl
          refine pure_ (i := 6) (N := some 60) (v := ?_) (a' := ?_) #[true, true, true, true, true, false, true, false, false, false, false, false, false, false] rfl rfl (by kernel_rfl) (fun _ _ _ h => h) (Or.inl ⟨by rfl, ?_⟩) ?_ ?_
          rotate_left
          · intro w'
            go_simp
            with_reducible rfl
          rotate_left
          · simp only [Act.put, List.setIfInBounds_toArray, List.set_cons_zero, List.set_cons_succ, i64_w, i32_w]
            rfl
          refine take_ (i := 5) (N := some 59) (v := ?_) (a' := ?_) #[true, true, true, true, true, true, true, false, false, false, false, false, false, false] rfl rfl (by kernel_rfl) (fun _ _ _ h => h) (Or.inl ⟨by rfl, ?_⟩) hHeld ?_ ?_
          rotate_left
          · rintro w' ⟨s0, s1⟩
            go_simp
            with_reducible rfl
          rotate_left
          · simp only [Act.put, List.setIfInBounds_toArray, List.set_cons_zero, List.set_cons_succ, i64_w, i32_w]
            rfl
          refine take_ (i := 7) (N := some 61) (v := ?_) (a' := ?_) #[true, true, true, true, true, true, true, true, false, false, false, false, false, false] rfl rfl (by kernel_rfl) (fun _ _ _ h => h) (Or.inl ⟨by rfl, ?_⟩) hHeld ?_ ?_
          rotate_left
          · rintro w' ⟨s0, s1⟩
            go_simp
            with_reducible rfl
          rotate_left
          · simp only [Act.put, List.setIfInBounds_toArray, List.set_cons_zero, List.set_cons_succ, i64_w, i32_w]
            rfl
          refine one_ (i := 8) (N := some 62) #[true, true, true, true, true, true, true, true, true, false, false, false, false, false] rfl rfl (by kernel_rfl) (by decide) (fun K hK => ?_)
          refine event_step (v := .slice (some ⟨(we).heap.size, 0, none⟩) 1 1) (w1 := (we).alloc (.cells #[.int .i64 (rd_T24 W' (j : Int)).f1] 3)) (by rfl) (by first | (go_simp; done) | (go_simp; rfl)) ?_
          refine hK.out _ _ ⟨(blk_cell (blk_alloc HX7.out.bq _) 2).trans rfl, (blk_cell (blk_alloc HG7.out _) 1).trans rfl⟩ (fun hHeld => ?_)
          clear hK K
          refine norm_ (a' := ?_) ?_ ?_
          rotate_left
          · show Act.put _ (some 62) _ = _
            simp only [Act.put, List.setIfInBounds_toArray, List.set_cons_zero, List.set_cons_succ, i64_w, i32_w]
            rfl
          refine one_ (i := 9) (N := some 63) #[true, true, true, true, true, true, true, true, true, true, false, false, false, false] rfl rfl (by kernel_rfl) (by decide) (fun K hK => ?_)
          refine Kd.R_append_step kI (w0 := _) base (by rfl) (.tmp 59) (.tmp 62) 31 3 (.int .i64 0) 8 rfl Try.underlying31 info3 rfl (by decide) (by omega) vG (G') ((rd_T24 W' (j : Int)).f1) [.int .i64 ((rd_T24 W' (j : Int)).f1)] (fun _ => True) (fun _ => False) rfl rfl rfl (fun _ hk => hk.elim) (fun _ _ => trivial) (HX7.out.rG) (HB27.out) ((Nat.le_trans HBS.out HB27.out.size)) (by have := HL2.out; omega) ?_
          intro v10 w10 ho hb hg hat
          obtain ⟨G8, hG8⟩ : ∃ G8, G8 = G' ++ [(rd_T24 W' (j : Int)).f1] := ⟨_, rfl⟩
          rw [← hG8] at ho
          have HG8 := Aside0.mk hG8
          obtain ⟨A10, c10, rfl⟩ := Kd.R_slice ho
          clear hG8
          have HRH := Aside0.mk ho
          have HGH := Aside0.mk hg
          have HAT := Aside0.mk hat
          have HQ8 := Aside0.mk (blk_grown HX7.out.bq hg (Kd.R_ne HX7.out.rG HX7.out.bq (by decide)))
          have HGX := Aside0.mk (blk_grown HG7.out hg (Kd.R_ne HX7.out.rG HG7.out (by decide)))
          clear ho hb hg hat
          refine hK.out _ _ ⟨(blk_cell (HQ8.out) 2).trans rfl, (blk_cell (HGX.out) 1).trans rfl⟩ (fun hHeld => ?_)
          clear hK K
          refine norm_ (a' := ?_) ?_ ?_
          rotate_left
          · show Act.put _ (some 63) _ = _
            simp only [Act.put, List.setIfInBounds_toArray, List.set_cons_zero, List.set_cons_succ, i64_w, i32_w]
            rfl
          refine pure_ (i := 10) (N := some 64) (v := ?_) (a' := ?_) #[true, true, true, true, true, true, true, true, true, true, true, false, false, false] rfl rfl (by kernel_rfl) (fun _ _ _ h => h) (Or.inl ⟨by rfl, ?_⟩) ?_ ?_
          rotate_left
          · intro w'
            go_simp
            with_reducible rfl
          rotate_left
          · simp only [Act.put, List.setIfInBounds_toArray, List.set_cons_zero, List.set_cons_succ, i64_w, i32_w]
            rfl
          refine pure_ (i := 11) (N := some 65) (v := ?_) (a' := ?_) #[true, true, true, true, true, true, true, true, true, true, true, true, false, false] rfl rfl (by kernel_rfl) (fun _ _ _ h => h) (Or.inl ⟨by rfl, ?_⟩) ?_ ?_
          rotate_left
          · intro w'
            go_simp
            with_reducible rfl
          rotate_left
          · simp only [Act.put, List.setIfInBounds_toArray, List.set_cons_zero, List.set_cons_succ, i64_w, i32_w]
            rfl
          refine pure_ (i := 12) (N := some 66) (v := ?_) (a' := ?_) #[true, true, true, true, true, true, true, true, true, true, true, true, true, false] rfl rfl (by kernel_rfl) (fun _ _ _ h => h) (Or.inl ⟨by rfl, ?_⟩) ?_ ?_
          rotate_left
          · intro w'
            go_simp
            with_reducible rfl
          rotate_left
          · simp only [Act.put, List.setIfInBounds_toArray, List.set_cons_zero, List.set_cons_succ, i64_w, i32_w]
            rfl
          have z0 := (blk_cell HQ8.out 0).trans rfl; have z1 := (blk_cell HQ8.out 1).trans rfl; have z2 := (blk_cell HQ8.out 2).trans rfl; have z3 := (blk_cell HQ8.out 3).trans rfl
          have fz0 := blk_frozen HQ8.out 0; have fz1 := blk_frozen HQ8.out 1; have fz2 := blk_frozen HQ8.out 2; have fz3 := blk_frozen HQ8.out 3
          refine last_ (i := 13) (N := none) #[true, true, true, true, true, true, true, true, true, true, true, true, true, true] rfl rfl (by kernel_rfl) (by decide) (fun K hK => ?_)
          refine skip_ (w1 := ?_) (by rfl) rfl ?_ ?_
          rotate_left
          · go_simp
            rfl
          refine hK.out _ _ ?_
          clear hK K
          refine done_ (by kernel_rfl) ?_
          have HX9 := Aside0.mk (HX7.out.setG HRH.out HGH.out HAT.out)
          have hf9 := far_row (q := q) HX7.out.rG (.inr rfl) HGH.out 2 (.slice A10 G8.length c10)
          have HV09 := Aside0.mk (hf9.keep _ _ _ HV07.out (by decide) (by decide) (blk_ne HV07.out HX7.out.bq (by decide)))
          have HV19 := Aside0.mk (hf9.keep _ _ _ HV17.out (by decide) (by decide) (blk_ne HV17.out HX7.out.bq (by decide)))
          have HB29 := Aside0.mk (below_row HX7.out.rG HB27.out (Nat.le_trans HBS.out HB27.out.size) HGH.out HX7.out.hq 2 (.slice A10 G8.length c10))
          clear hf9 HX7 HV07 HV17 HB27 HG7 HRH HGH HAT HQ8 HGX hHeld z0 z1 z2 z3 fz0 fz1 fz2 fz3
          generalize w10.setCell ⟨q, 2, none⟩ (.slice A10 G8.length c10) = w11 at HX9 HV09 HV19 HB29 ⊢
          have HGG := Aside0.mk (HGD2.out.grant hlt)
          have HSF := Aside0.mk (settle_free (G := G') (N := N') HF.out hlt)
          have HEL := Aside0.mk (erase_len hlt)
          rw [← HE.out, ← HH8.out] at HGG
          rw [← HE.out, ← HH8.out, ← HG8.out] at HSF
          rw [← HE.out] at HEL
          go_wp2
          go_roundg E.length
          case measure => have h1 := HK.out; have h2 := HEL.out; omega
          case rel => exact ⟨H8, E, G8, N', ⟨rfl⟩, ⟨HX9.out.o⟩, HGG, ⟨HSF.out.symm.trans HR2.out⟩, ⟨by have h1 := HL2.out; have h2 := HEL.out; rw [HG8.out]; simp; omega⟩, HB29, HV09, HV19⟩
      · have h1 : decide (j < W'.length) = false := by simpa using hlt
        have HFN := Aside0.mk (free_all (H := H') (W := W') (fun i hi => HAL.out i (by omega)))
        obtain ⟨n, hn⟩ : ∃ n, n = stuckL H' W' := ⟨_, rfl⟩
        have HSN := Aside0.mk (show stuckL H' W' = n from hn.symm)
        clear hn
        by_cases hz : n = 0
        · subst hz
          have HSE := Aside0.mk ((settle_end (G := G') (N := N') HFN.out HSN.out).symm.trans HR2.out)
          go_upto_region 12 with ((with_reducible refine gate_dst (N := 69) rfl ?_); refine goesL_ (some 69) rfl rfl Try.func75 (by kernel_rfl) rfl #[.pointer (some ⟨q, 0, none⟩)] rfl (by (try simp only [List.map_toArray, List.map_cons, List.map_nil]); first | done | rfl) ?_; refine (stuck_calls q H' W' _ (HX.out.o.tab.below HB.out) HGD2.out).mono ?_; rintro e w3 ⟨rfl, hb⟩; refine ⟨_, rfl, ?_⟩; rw [HSN.out]; have HB3 := Aside0.mk (below_step HB.out hb); clear hb)
          have hbd := below_step HB3.out (below_drew1 (Below.refl w3.heap.size w3))
          have HX3 := Aside0.mk (HX.out.below hbd)
          have HV03 := Aside0.mk (blk_below HV0.out hbd)
          have HV13 := Aside0.mk (blk_below HV1.out hbd)
          have HB23 := Aside0.mk (HB2.out.trans (hbd.mono (Nat.le_trans HBS.out HB2.out.size)))
          clear hbd HX HV0 HV1 HB2 HB HB3 HAL
          obtain ⟨AH, cH, rfl⟩ := Kd.R_slice HX3.out.rH
          obtain ⟨AG, cG, rfl⟩ := Kd.R_slice HX3.out.rG
          obtain ⟨AN, cN, rfl⟩ := Kd.R_slice HX3.out.rN
          refine start_ (n := 10) (S := fun w' => w'.cell? ⟨q, 0, none⟩ = some (.slice AH H'.length cH) ∧ w'.cell? ⟨q, 1, none⟩ = some (.slice AW W'.length cW) ∧ w'.cell? ⟨q, 2, none⟩ = some (.slice AG G'.length cG) ∧ w'.cell? ⟨q, 3, none⟩ = some (.slice AN N'.length cN)) (ds := [9]) #[false, false, false, false, false, false, false, false, false, false] (by kernel_rfl) rfl rfl ⟨(blk_cell (HX3.out.bq) 0).trans rfl, (blk_cell (HX3.out.bq) 1).trans rfl, (blk_cell (HX3.out.bq) 2).trans rfl, (blk_cell (HX3.out.bq) 3).trans rfl⟩ (fun hHeld => ?_)
          generalize w3.drew = wd at HX3 HV03 HV13 HB23 hHeld ⊢
          refine pure_ (i := 0) (N := some 72) (v := ?_) (a' := ?_) #[true, false, false, false, false, false, false, false, false, false] rfl rfl (by kernel_rfl) (fun _ _ _ h => h) (Or.inl ⟨by rfl, ?_⟩) ?_ ?_
          rotate_left
          · intro w'
            go_simp
            with_reducible rfl
          rotate_left
          · simp only [Act.put, List.setIfInBounds_toArray, List.set_cons_zero, List.set_cons_succ, i64_w, i32_w]
            rfl
          refine pure_ (i := 1) (N := some 73) (v := ?_) (a' := ?_) #[true, true, false, false, false, false, false, false, false, false] rfl rfl (by kernel_rfl) (fun _ _ _ h => h) (Or.inl ⟨by rfl, ?_⟩) ?_ ?_
          rotate_left
          · intro w'
            go_simp
            with_reducible rfl
          rotate_left
          · simp only [Act.put, List.setIfInBounds_toArray, List.set_cons_zero, List.set_cons_succ, i64_w, i32_w]
            rfl
          refine pure_ (i := 2) (N := some 74) (v := ?_) (a' := ?_) #[true, true, true, false, false, false, false, false, false, false] rfl rfl (by kernel_rfl) (fun _ _ _ h => h) (Or.inl ⟨by rfl, ?_⟩) ?_ ?_
          rotate_left
          · intro w'
            go_simp
            with_reducible rfl
          rotate_left
          · simp only [Act.put, List.setIfInBounds_toArray, List.set_cons_zero, List.set_cons_succ, i64_w, i32_w]
            rfl
          refine take_ (i := 3) (N := some 75) (v := ?_) (a' := ?_) #[true, true, true, true, false, false, false, false, false, false] rfl rfl (by kernel_rfl) (fun _ _ _ h => h) (Or.inl ⟨by rfl, ?_⟩) hHeld ?_ ?_
          rotate_left
          · rintro w' ⟨s0, s1, s2, s3⟩
            go_simp
            with_reducible rfl
          rotate_left
          · simp only [Act.put, List.setIfInBounds_toArray, List.set_cons_zero, List.set_cons_succ, i64_w, i32_w]
            rfl
          refine pure_ (i := 4) (N := some 76) (v := ?_) (a' := ?_) #[true, true, true, true, true, false, false, false, false, false] rfl rfl (by kernel_rfl) (fun _ _ _ h => h) (Or.inl ⟨by rfl, ?_⟩) ?_ ?_
          rotate_left
          · intro w'
            go_simp
            with_reducible rfl
          rotate_left
          · simp only [Act.put, List.setIfInBounds_toArray, List.set_cons_zero, List.set_cons_succ, i64_w, i32_w]
            rfl
          refine pure_ (i := 5) (N := some 77) (v := ?_) (a' := ?_) #[true, true, true, true, true, true, false, false, false, false] rfl rfl (by kernel_rfl) (fun _ _ _ h => h) (Or.inl ⟨by rfl, ?_⟩) ?_ ?_
          rotate_left
          · intro w'
            go_simp
            with_reducible rfl
          rotate_left
          · simp only [Act.put, List.setIfInBounds_toArray, List.set_cons_zero, List.set_cons_succ, i64_w, i32_w]
            rfl
          refine pure_ (i := 6) (N := some 78) (v := ?_) (a' := ?_) #[true, true, true, true, true, true, true, false, false, false] rfl rfl (by kernel_rfl) (fun _ _ _ h => h) (Or.inl ⟨by rfl, ?_⟩) ?_ ?_
          rotate_left
          · intro w'
            go_simp
            with_reducible rfl
          rotate_left
          · simp only [Act.put, List.setIfInBounds_toArray, List.set_cons_zero, List.set_cons_succ, i64_w, i32_w]
            rfl
          refine take_ (i := 7) (N := some 79) (v := ?_) (a' := ?_) #[true, true, true, true, true, true, true, true, false, false] rfl rfl (by kernel_rfl) (fun _ _ _ h => h) (Or.inl ⟨by rfl, ?_⟩) hHeld ?_ ?_
          rotate_left
          · rintro w' ⟨s0, s1, s2, s3⟩
            go_simp
            with_reducible rfl
          rotate_left
          · simp only [Act.put, List.setIfInBounds_toArray, List.set_cons_zero, List.set_cons_succ, i64_w, i32_w]
            rfl
          have z0 := (blk_cell HV03.out 0).trans rfl; have z1 := (blk_cell HV03.out 1).trans rfl
          have fz0 := blk_frozen HV03.out 0; have fz1 := blk_frozen HV03.out 1
          refine one_ (i := 8) (N := none) #[true, true, true, true, true, true, true, true, true, false] rfl rfl (by kernel_rfl) (by decide) (fun K hK => ?_)
          refine skip_ (w1 := ?_) (by rfl) rfl ?_ ?_
          rotate_left
          · go_simp
            rfl
          clear z0 z1 fz0 fz1
          have p1 := blk_put HV03.out 0 (.slice AH H'.length cH) rfl
          have p2 := blk_put p1 1 (.slice AW W'.length cW) rfl
          have HX5 := Aside0.mk ((HX3.out.aside HV03.out (by decide) (by decide) (by decide) 0 (.slice AH H'.length cH)).aside p1 (by decide) (by decide) (by decide) 1 (.slice AW W'.length cW))
          have HB25 := Aside0.mk ((HB23.out.setCell (p := ⟨w.heap.size, 0, none⟩) HBS.out (.slice AH H'.length cH)).setCell (p := ⟨w.heap.size, 1, none⟩) HBS.out (.slice AW W'.length cW))
          have HV15 := Aside0.mk (blk_far (blk_far HV13.out (p := ⟨w.heap.size, 0, none⟩) (show w.heap.size + 1 ≠ w.heap.size by omega) (.slice AH H'.length cH)) (p := ⟨w.heap.size, 1, none⟩) (show w.heap.size + 1 ≠ w.heap.size by omega) (.slice AW W'.length cW))
          have HV05 := Aside0.mk p2
          clear p1 p2 HX3 HB23 HV03 HV13
          generalize (wd.setCell ⟨w.heap.size, 0, none⟩ (.slice AH H'.length cH)).setCell ⟨w.heap.size, 1, none⟩ (.slice AW W'.length cW) = w5 at HX5 HB25 HV15 HV05 ⊢
          refine hK.out _ _ ⟨(blk_cell HX5.out.bq 0).trans rfl, (blk_cell HX5.out.bq 1).trans rfl, (blk_cell HX5.out.bq 2).trans rfl, (blk_cell HX5.out.bq 3).trans rfl⟩ (fun hHeld => ?_)
          clear hK K
          skip
          have z0 := (blk_cell HV15.out 0).trans rfl; have z1 := (blk_cell HV15.out 1).trans rfl
          have fz0 := blk_frozen HV15.out 0; have fz1 := blk_frozen HV15.out 1
          refine last_ (i := 9) (N := none) #[true, true, true, true, true, true, true, true, true, true] rfl rfl (by kernel_rfl) (by decide) (fun K hK => ?_)
          refine skip_ (w1 := ?_) (by rfl) rfl ?_ ?_
          rotate_left
          · go_simp
            rfl
          refine hK.out _ _ ?_
          clear hK K
          refine done_ (by kernel_rfl) ?_
          clear z0 z1 fz0 fz1
          have p1 := blk_put HV15.out 0 (.slice AG G'.length cG) rfl
          have p2 := blk_put p1 1 (.slice AN N'.length cN) rfl
          have HX7 := Aside0.mk ((HX5.out.aside HV15.out (by decide) (by decide) (by decide) 0 (.slice AG G'.length cG)).aside p1 (by decide) (by decide) (by decide) 1 (.slice AN N'.length cN))
          have HB27 := Aside0.mk ((HB25.out.setCell (p := ⟨w.heap.size + 1, 0, none⟩) (Nat.le_trans HBS.out (Nat.le_succ _)) (.slice AG G'.length cG)).setCell (p := ⟨w.heap.size + 1, 1, none⟩) (Nat.le_trans HBS.out (Nat.le_succ _)) (.slice AN N'.length cN))
          have HV07 := Aside0.mk (blk_far (blk_far HV05.out (p := ⟨w.heap.size + 1, 0, none⟩) (show w.heap.size ≠ w.heap.size + 1 by omega) (.slice AG G'.length cG)) (p := ⟨w.heap.size + 1, 1, none⟩) (show w.heap.size ≠ w.heap.size + 1 by omega) (.slice AN N'.length cN))
          have HV17 := Aside0.mk p2
          clear p1 p2 HX5 HB25 HV05 HV15
          generalize (w5.setCell ⟨w.heap.size + 1, 0, none⟩ (.slice AG G'.length cG)).setCell ⟨w.heap.size + 1, 1, none⟩ (.slice AN N'.length cN) = w7 at HX7 HB27 HV17 HV07 ⊢
          go_wp2
          try rw [Exit.noGoto_ret]
          refine bodyPost_ret (results_cells rfl rfl rfl (loadVar_two 29 (by kernel_rfl) (by kernel_rfl) HV07.out) (loadVar_two 33 (by kernel_rfl) (by kernel_rfl) HV17.out)) rfl ?_
          refine ⟨_, _, _, _, rfl, ?_, ?_, ?_, ?_, HB27.out⟩
          · rw [← HSE.out]; exact HX7.out.rH
          · rw [← HSE.out]; exact HX7.out.rW
          · rw [← HSE.out]; exact HX7.out.rG
          · rw [← HSE.out]; exact HX7.out.rN
        · have hz1 : (n == 0) = false := by simpa using hz
          have hz2 : decide (n = 0) = false := by simpa using hz
          obtain ⟨i, hwi⟩ := stuck_at HGD2.out (by rw [HSN.out]; exact hz)
          have hwn := waitN_of hwi
          have hgo := settle_gone (G := G') (N := N') HFN.out (by rw [HSN.out]; exact hz) hwi
          have hil := waitI_lt hwi
          rw [HSN.out] at hwn hgo
          have HWN := Aside0.mk hwn
          have HGO := Aside0.mk hgo
          clear hz hwi hwn hgo
          go_upto_region 14 with (first | ((with_reducible refine gate_dst (N := 69) rfl ?_); refine goesL_ (some 69) rfl rfl Try.func75 (by kernel_rfl) rfl #[.pointer (some ⟨q, 0, none⟩)] rfl (by (try simp only [List.map_toArray, List.map_cons, List.map_nil]); first | done | rfl) ?_; refine (stuck_calls q H' W' _ (HX.out.o.tab.below HB.out) HGD2.out).mono ?_; rintro e w3 ⟨rfl, hb⟩; refine ⟨_, rfl, ?_⟩; rw [HSN.out]; have HB3 := Aside0.mk (below_step HB.out hb); clear hb) | ((with_reducible refine gate_dst (N := 82) rfl ?_); refine goesL_ (some 82) rfl rfl Try.func58 (by kernel_rfl) rfl #[.pointer (some ⟨q, 0, none⟩), .int .i64 n] rfl (by (try simp only [List.map_toArray, List.map_cons, List.map_nil]); first | done | rfl) ?_; refine (wait_calls q n H' W' _ (HX.out.o.tab.below HB3.out)).mono ?_; rintro e w4 ⟨rfl, hb⟩; refine ⟨_, rfl, ?_⟩; rw [HWN.out]; have HB4 := Aside0.mk (below_step HB3.out hb); clear hb))
          have HX4 := Aside0.mk (HX.out.below HB4.out)
          have HV04 := Aside0.mk (blk_below HV0.out HB4.out)
          have HV14 := Aside0.mk (blk_below HV1.out HB4.out)
          have HB24 := Aside0.mk (HB2.out.trans (HB4.out.mono (Nat.le_trans HBS.out HB2.out.size)))
          clear HX HV0 HV1 HB2 HB HB3 HB4 HAL hz1 hz2
          obtain ⟨E, hE⟩ : ∃ E, E = W'.eraseIdx i := ⟨_, rfl⟩
          have hdel := delete_calls base (fun _ => True) (.slice AW W'.length cW) W' i w4 HX4.out.rW hil (Nat.le_trans HBS.out HB24.out.size)
          rw [← hE] at hdel
          have HDEL := Aside0.mk hdel
          have HE := Aside0.mk hE
          clear hdel hE
          have z0 := (blk_cell HX4.out.bq 0).trans rfl; have z1 := (blk_cell HX4.out.bq 1).trans rfl; have z2 := (blk_cell HX4.out.bq 2).trans rfl; have z3 := (blk_cell HX4.out.bq 3).trans rfl
          go_upto_region 15 with ((with_reducible refine gate_dst (N := 92) rfl ?_); refine goesL_ (some 92) rfl rfl Try.func70 (by kernel_rfl) rfl #[.slice AW W'.length cW, .int .i64 i, .int .i64 ((i : Int) + 1)] rfl (by (try simp only [List.map_toArray, List.map_cons, List.map_nil]); first | done | rfl) ?_; refine HDEL.out.mono ?_; rintro e w5 ⟨A5, c5, rfl, hra, hown, hg⟩; refine ⟨_, rfl, ?_⟩; have HRA := Aside0.mk hra; have HOW := Aside0.mk hown; have HGR := Aside0.mk hg; clear hra hown hg z0 z1 z2 z3; have HQ5 := Aside0.mk (blk_grown HX4.out.bq HGR.out (Kd.R_ne HX4.out.rW HX4.out.bq (by decide))); have z0 := (blk_cell HQ5.out 0).trans rfl; have z1 := (blk_cell HQ5.out 1).trans rfl; have z2 := (blk_cell HQ5.out 2).trans rfl; have z3 := (blk_cell HQ5.out 3).trans rfl; have fz0 := blk_frozen HQ5.out 0; have fz1 := blk_frozen HQ5.out 1; have fz2 := blk_frozen HQ5.out 2; have fz3 := blk_frozen HQ5.out 3)
          have HX5 := Aside0.mk (HX4.out.setW HRA.out HGR.out (.inl HOW.out))
          have hf5 := far_row (q := q) HX4.out.rW (.inl rfl) HGR.out 1 (.slice A5 E.length c5)
          have HV05 := Aside0.mk (hf5.keep _ _ _ HV04.out (by decide) (by decide) (blk_ne HV04.out HX4.out.bq (by decide)))
          have HV15 := Aside0.mk (hf5.keep _ _ _ HV14.out (by decide) (by decide) (blk_ne HV14.out HX4.out.bq (by decide)))
          have HB25 := Aside0.mk (below_row HX4.out.rW HB24.out (Nat.le_trans HBS.out HB24.out.size) HGR.out HX4.out.hq 1 (.slice A5 E.length c5))
          clear hf5 HX4 HV04 HV14 HB24 HDEL HRA HOW HGR HQ5 z0 z1 z2 z3 fz0 fz1 fz2 fz3
          generalize w5.setCell ⟨q, 1, none⟩ (.slice A5 E.length c5) = w6 at HX5 HV05 HV15 HB25 ⊢
          obtain ⟨N8, hN8⟩ : ∃ N8, N8 = N' ++ [n] := ⟨_, rfl⟩
          have HN8 := Aside0.mk hN8
          clear hN8
          have z0 := (blk_cell HX5.out.bq 0).trans rfl; have z1 := (blk_cell HX5.out.bq 1).trans rfl; have z2 := (blk_cell HX5.out.bq 2).trans rfl; have z3 := (blk_cell HX5.out.bq 3).trans rfl
          go_wp2_with ((with_reducible refine gate_builtin (b := .append) (xs := #[.tmp 101, .tmp 103]) rfl ?_); at_builtin; refine Kd.R_append kI (w0 := _) base rfl (.tmp 101) (.tmp 103) 31 3 (.int .i64 0) 8 rfl Try.underlying31 info3 rfl (by decide) (by omega) vN (N') (n) [.int .i64 (n)] (fun _ => True) (fun _ => False) rfl rfl rfl (fun _ hk => hk.elim) (fun _ _ => trivial) (HX5.out.rN) (HB25.out) ((Nat.le_trans HBS.out HB25.out.size)) (by have := HL2.out; omega) ?_; intro v10 w10 ho hb hg hat; rw [← HN8.out] at ho; obtain ⟨A10, c10, rfl⟩ := Kd.R_slice ho; have HRH := Aside0.mk ho; have HGH := Aside0.mk hg; have HAT := Aside0.mk hat; have HQ8 := Aside0.mk (blk_grown HX5.out.bq hg (Kd.R_ne HX5.out.rN HX5.out.bq (by decide))); clear ho hb hg hat z0 z1 z2 z3; have z0 := (blk_cell HQ8.out 0).trans rfl; have z1 := (blk_cell HQ8.out 1).trans rfl; have z2 := (blk_cell HQ8.out 2).trans rfl; have z3 := (blk_cell HQ8.out 3).trans rfl; have fz0 := blk_frozen HQ8.out 0; have fz1 := blk_frozen HQ8.out 1; have fz2 := blk_frozen HQ8.out 2; have fz3 := blk_frozen HQ8.out 3)
          have HX9 := Aside0.mk (HX5.out.setN HRH.out HGH.out HAT.out)
          have hf9 := far_row (q := q) HX5.out.rN (.inr rfl) HGH.out 3 (.slice A10 N8.length c10)
          have HV09 := Aside0.mk (hf9.keep _ _ _ HV05.out (by decide) (by decide) (blk_ne HV05.out HX5.out.bq (by decide)))
          have HV19 := Aside0.mk (hf9.keep _ _ _ HV15.out (by decide) (by decide) (blk_ne HV15.out HX5.out.bq (by decide)))
          have HB29 := Aside0.mk (below_row HX5.out.rN HB25.out (Nat.le_trans HBS.out HB25.out.size) HGH.out HX5.out.hq 3 (.slice A10 N8.length c10))
          clear hf9 HX5 HV05 HV15 HB25 HRH HGH HAT HQ8 z0 z1 z2 z3 fz0 fz1 fz2 fz3
          generalize w10.setCell ⟨q, 3, none⟩ (.slice A10 N8.length c10) = w11 at HX9 HV09 HV19 HB29 ⊢
          have HGG := Aside0.mk (HGD2.out.drop i)
          have HEL := Aside0.mk (erase_len hil)
          rw [← HE.out] at HGG HEL
          rw [← HE.out, ← HN8.out] at HGO
          go_roundg E.length
          case measure => have h1 := HK.out; have h2 := HEL.out; omega
          case rel => exact ⟨H', E, G', N8, ⟨rfl⟩, ⟨HX9.out.o⟩, HGG, ⟨HGO.out.symm.trans HR2.out⟩, ⟨by have h1 := HL2.out; have h2 := HEL.out; rw [HN8.out]; simp; omega⟩, HB29, HV09, HV19⟩
end Go.Proofs.Ytifnfnoicinbaaa.M
