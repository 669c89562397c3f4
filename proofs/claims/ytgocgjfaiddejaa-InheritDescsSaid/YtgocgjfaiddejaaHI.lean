/- inherit.Protect. -/
import Derived.Test.YtgocgjfaiddejaaQG
namespace Go.Proofs.Ytgocgjfaiddejaa.M
open Go.RowKit Go.Proofs.YtgocgjfaiddejaaW.PrintWords Go.Proofs.YtgocgjfaiddejaaW.PrintLast Go.Proofs.YtgocgjfaiddejaaW.PrintMore
set_option linter.unusedVariables false
set_option linter.unusedSimpArgs false
set_option linter.unnecessarySimpa false

set_option maxRecDepth 100000 in
set_option maxHeartbeats 2000000 in
theorem Protect_bad (d : S33) (A : Option Addr) (c : Nat) (w : World) (hr : k37.C w A d.f2.length d.f2) (hc : d.f2.length ≤ c) (keep : Bool) (hv : vDesc d.f0 d.f2 = false) :
    Calls Try.prog 39 #[.agg #[.int .i64 d.f0, .bool d.f1, .slice A d.f2.length c], .bool keep] w (DescPost (sProtect d keep) w) := by
  have HR := Aside0.mk hr
  have HC := Aside0.mk hc
  have HV := Aside0.mk hv
  have HS := Aside0.mk (show sProtect d keep = (z33, 1) by unfold sProtect; rw [if_neg (by unfold vD; rw [hv]; simp)])
  clear hr hc hv
  go_enter Try.func39, Try.ntmps39
  go_upto_region 1 with (fail)
  have hb_ := below_alloc (below_alloc (Below.refl _ w) (.cells #[.int .i64 d.f0, .bool d.f1, .slice A d.f2.length c] 33)) (.cells #[.int .i64 0, .bool false, .slice none 0 0] 33)
  have hG0_ := blk_alloc (blk_lit0 w (.cells #[.int .i64 d.f0, .bool d.f1, .slice A d.f2.length c] 33)) (.cells #[.int .i64 0, .bool false, .slice none 0 0] 33)
  have hG1_ := blk_lit w (.cells #[.int .i64 d.f0, .bool d.f1, .slice A d.f2.length c] 33) (.cells #[.int .i64 0, .bool false, .slice none 0 0] 33)
  generalize ((w.alloc (.cells #[.int .i64 d.f0, .bool d.f1, .slice A d.f2.length c] 33)).alloc (.cells #[.int .i64 0, .bool false, .slice none 0 0] 33)) = W at hb_ hG0_ hG1_ ⊢
  have HB_W := Aside0.mk hb_
  have W0 := Aside0.mk hG0_
  have W1 := Aside0.mk hG1_
  clear hb_ hG0_ hG1_
  have y0 := (blk_cell W0.out 0).trans rfl; have y1 := (blk_cell W0.out 1).trans rfl; have y2 := (blk_cell W0.out 2).trans rfl
  go_wp2_with ((with_reducible refine gate_dst (N := 9) rfl ?_); refine goesL_ (some 9) rfl rfl Try.func58 (by kernel_rfl) rfl #[.slice (some ⟨W.heap.size, 0, none⟩) 1 1] rfl (by (try simp only [List.map_toArray, List.map_cons, List.map_nil]); first | done | rfl) ?_; refine (valid_one _ d.f0 d.f1 A c d.f2 _ (blk_new _ _) (Kd.C_alloc (Kd.C_below HR.out HB_W.out) _) HC.out).mono ?_; rintro e w1 ⟨rfl, hb⟩; refine ⟨_, rfl, ?_⟩; rw [HV.out]; have HB1 := Aside0.mk (below_step (below_alloc HB_W.out _) hb); have X0 := Aside0.mk (blk_below (blk_alloc W0.out _) hb); have X1 := Aside0.mk (blk_below (blk_alloc W1.out _) hb); clear hb y0 y1 y2; have y0 := (blk_cell X0.out 0).trans rfl; have y1 := (blk_cell X0.out 1).trans rfl; have y2 := (blk_cell X0.out 2).trans rfl; have fy0 := blk_frozen X0.out 0; have fy1 := blk_frozen X0.out 1; have fy2 := blk_frozen X0.out 2; have z0 := (blk_cell X1.out 0).trans rfl; have z1 := (blk_cell X1.out 1).trans rfl; have z2 := (blk_cell X1.out 2).trans rfl; have fz0 := blk_frozen X1.out 0; have fz1 := blk_frozen X1.out 1; have fz2 := blk_frozen X1.out 2)
  rw [HS.out]
  exact desc_end rfl rfl rfl X1.out rfl (by omega) (Kd.R_nil _ _ _ _ _) HB1.out
set_option maxRecDepth 100000 in
set_option maxHeartbeats 2000000 in
theorem Protect_drop (d : S33) (A : Option Addr) (c : Nat) (w : World) (hr : k37.C w A d.f2.length d.f2) (hc : d.f2.length ≤ c) (hv : vDesc d.f0 d.f2 = true) :
    Calls Try.prog 39 #[.agg #[.int .i64 d.f0, .bool d.f1, .slice A d.f2.length c], .bool false] w (DescPost (sProtect d false) w) := by
  have HR := Aside0.mk hr
  have HC := Aside0.mk hc
  have HV := Aside0.mk hv
  have HS := Aside0.mk (show sProtect d false = (⟨d.f0, true, d.f2.filter ownB⟩, 0) by unfold sProtect; rw [if_pos (show vD d = true from hv)]; rfl)
  clear hr hc hv
  go_enter Try.func39, Try.ntmps39
  go_upto_region 1 with (fail)
  have hb_ := below_alloc (below_alloc (Below.refl _ w) (.cells #[.int .i64 d.f0, .bool d.f1, .slice A d.f2.length c] 33)) (.cells #[.int .i64 0, .bool false, .slice none 0 0] 33)
  have hG0_ := blk_alloc (blk_lit0 w (.cells #[.int .i64 d.f0, .bool d.f1, .slice A d.f2.length c] 33)) (.cells #[.int .i64 0, .bool false, .slice none 0 0] 33)
  have hG1_ := blk_lit w (.cells #[.int .i64 d.f0, .bool d.f1, .slice A d.f2.length c] 33) (.cells #[.int .i64 0, .bool false, .slice none 0 0] 33)
  generalize ((w.alloc (.cells #[.int .i64 d.f0, .bool d.f1, .slice A d.f2.length c] 33)).alloc (.cells #[.int .i64 0, .bool false, .slice none 0 0] 33)) = W at hb_ hG0_ hG1_ ⊢
  have HB_W := Aside0.mk hb_
  have W0 := Aside0.mk hG0_
  have W1 := Aside0.mk hG1_
  clear hb_ hG0_ hG1_
  have y0 := (blk_cell W0.out 0).trans rfl; have y1 := (blk_cell W0.out 1).trans rfl; have y2 := (blk_cell W0.out 2).trans rfl
  go_upto_region 5 with ((with_reducible refine gate_dst (N := 9) rfl ?_); refine goesL_ (some 9) rfl rfl Try.func58 (by kernel_rfl) rfl #[.slice (some ⟨W.heap.size, 0, none⟩) 1 1] rfl (by (try simp only [List.map_toArray, List.map_cons, List.map_nil]); first | done | rfl) ?_; refine (valid_one _ d.f0 d.f1 A c d.f2 _ (blk_new _ _) (Kd.C_alloc (Kd.C_below HR.out HB_W.out) _) HC.out).mono ?_; rintro e w1 ⟨rfl, hb⟩; refine ⟨_, rfl, ?_⟩; rw [HV.out]; have HB1 := Aside0.mk (below_step (below_alloc HB_W.out _) hb); have X0 := Aside0.mk (blk_below (blk_alloc W0.out _) hb); have X1 := Aside0.mk (blk_below (blk_alloc W1.out _) hb); clear hb y0 y1 y2; have y0 := (blk_cell X0.out 0).trans rfl; have y1 := (blk_cell X0.out 1).trans rfl; have y2 := (blk_cell X0.out 2).trans rfl; have fy0 := blk_frozen X0.out 0; have fy1 := blk_frozen X0.out 1; have fy2 := blk_frozen X0.out 2; have z0 := (blk_cell X1.out 0).trans rfl; have z1 := (blk_cell X1.out 1).trans rfl; have z2 := (blk_cell X1.out 2).trans rfl; have fz0 := blk_frozen X1.out 0; have fz1 := blk_frozen X1.out 1; have fz2 := blk_frozen X1.out 2)
  obtain ⟨w2, hw2⟩ : ∃ w2, w2 = w1.setCell ⟨w.heap.size, 1, none⟩ (.bool true) := ⟨_, rfl⟩
  rw [← hw2]
  have Y0 := Aside0.mk (show w2.heap[w.heap.size]? = some (.cells #[.int .i64 d.f0, .bool true, .slice A d.f2.length c] 33 (0, 0)) by rw [hw2]; exact blk_put X0.out 1 (.bool true) rfl)
  have Y1 := Aside0.mk (show w2.heap[w.heap.size + 1]? = some (.cells #[.int .i64 0, .bool false, .slice none 0 0] 33 (0, 0)) by rw [hw2]; exact blk_far X1.out (by simp) _)
  have HB2 := Aside0.mk (show Below w.heap.size w w2 by rw [hw2]; exact HB1.out.setCell (p := ⟨w.heap.size, 1, none⟩) (Nat.le_refl _) _)
  clear hw2 y0 y1 y2 fy0 fy1 fy2 z0 z1 z2 fz0 fz1 fz2 X0 X1 HB1
  have y0 := (blk_cell Y0.out 0).trans rfl; have y1 := (blk_cell Y0.out 1).trans rfl; have y2 := (blk_cell Y0.out 2).trans rfl
  go_upto_region 6 with ((with_reducible refine gate_dst (N := 17) rfl ?_); refine goesL_ (some 17) rfl rfl Try.func50 (by kernel_rfl) rfl #[.slice A d.f2.length c, .func (.func 51) #[] #[]] rfl (by (try simp only [List.map_toArray, List.map_cons, List.map_nil]); first | done | rfl) ?_; refine (filter_calls 51 #[] ownB A c d.f2 _ (looks_own _) (Kd.C_below HR.out HB2.out) (by have := vDesc_len HV.out; omega)).mono ?_; rintro e w3 ⟨v, rfl, hra, hb⟩; refine ⟨_, rfl, ?_⟩; obtain ⟨A3, c3, rfl⟩ := Kd.R_slice hra; have HO := Aside0.mk (Kd.R_lower hra HB2.out.size); have HB3 := Aside0.mk (below_step HB2.out hb); have V0 := Aside0.mk (blk_below Y0.out hb); have V1 := Aside0.mk (blk_below Y1.out hb); clear hra hb y0 y1 y2; have y0 := (blk_cell V0.out 0).trans rfl; have y1 := (blk_cell V0.out 1).trans rfl; have y2 := (blk_cell V0.out 2).trans rfl; have fy0 := blk_frozen V0.out 0; have fy1 := blk_frozen V0.out 1; have fy2 := blk_frozen V0.out 2)
  obtain ⟨w4, hw4⟩ : ∃ w4, w4 = w3.setCell ⟨w.heap.size, 2, none⟩ (.slice A3 (d.f2.filter ownB).length c3) := ⟨_, rfl⟩
  rw [← hw4]
  have U0 := Aside0.mk (show w4.heap[w.heap.size]? = some (.cells #[.int .i64 d.f0, .bool true, .slice A3 (d.f2.filter ownB).length c3] 33 (0, 0)) by rw [hw4]; exact blk_put V0.out 2 _ rfl)
  have U1 := Aside0.mk (show w4.heap[w.heap.size + 1]? = some (.cells #[.int .i64 0, .bool false, .slice none 0 0] 33 (0, 0)) by rw [hw4]; exact blk_far V1.out (by simp) _)
  have HO4 := Aside0.mk (show RA w4 w.heap.size (.slice A3 (d.f2.filter ownB).length c3) (d.f2.filter ownB) by rw [hw4]; exact Kd.R_set HO.out V0.out (by decide) 2 _)
  have HB4 := Aside0.mk (show Below w.heap.size w w4 by rw [hw4]; exact HB3.out.setCell (p := ⟨w.heap.size, 2, none⟩) (Nat.le_refl _) _)
  clear hw4 y0 y1 y2 fy0 fy1 fy2
  have y0 := (blk_cell U0.out 0).trans rfl; have y1 := (blk_cell U0.out 1).trans rfl; have y2 := (blk_cell U0.out 2).trans rfl
  have z0 := (blk_cell U1.out 0).trans rfl; have z1 := (blk_cell U1.out 1).trans rfl; have z2 := (blk_cell U1.out 2).trans rfl
  have fz0 := blk_frozen U1.out 0; have fz1 := blk_frozen U1.out 1; have fz2 := blk_frozen U1.out 2
  go_wp2
  rw [HS.out]
  exact desc_end (r := (⟨d.f0, true, d.f2.filter ownB⟩, 0)) rfl rfl rfl U1.out rfl (by omega) HO4.out HB4.out
theorem clr_bits {x : S37} (h : vAce x = true) : Go.bits .andNot .i64 x.f3 16 = (clr x).f3 := by
  unfold vAce at h
  simp only [Bool.and_eq_true, decide_eq_true_eq] at h
  have : ∀ n : Fin 32, Go.bits .andNot .i64 ((n : Nat) : Int) 16 = (if hasB ((n : Nat) : Int) 16 then ((n : Nat) : Int) - 16 else ((n : Nat) : Int)) := by decide +kernel
  exact flag_cases h.1.2 h.2 (fun f => Go.bits .andNot .i64 f 16 = (if hasB f 16 then f - 16 else f)) (fun n hn => this ⟨n, hn⟩)
/-- What the loop has made of the list so far. -/
def clrTo (l : List S37) (j : Nat) : List S37 := (l.take j).map clr ++ l.drop j
theorem clrTo_length (l : List S37) (j : Nat) (h : j ≤ l.length) : (clrTo l j).length = l.length := by
  unfold clrTo
  rw [List.length_append, List.length_map, List.length_take, List.length_drop]
  omega
theorem clrTo_at (l : List S37) (j : Nat) (h : j < l.length) : rd_T37 (clrTo l j) j = rd_T37 l j := by
  rw [rd_at (by rw [clrTo_length l j (by omega)]; exact h), rd_at h]
  unfold clrTo
  rw [List.getElem_append_right (by simp; omega)]
  simp [Nat.min_eq_left (Nat.le_of_lt h)]
theorem clrTo_set (l : List S37) (j : Nat) (h : j < l.length) : (clrTo l j).set j (clr (rd_T37 l j)) = clrTo l (j + 1) := by
  unfold clrTo
  have hl : ((l.take j).map clr).length = j := by simp; omega
  rw [List.set_append_right _ _ (by omega), hl, Nat.sub_self, List.take_succ_eq_append_getElem h, List.map_append, List.drop_eq_getElem_cons h, List.set_cons_zero, rd_at h]
  simp
set_option maxRecDepth 100000 in
set_option maxHeartbeats 2000000 in
theorem Protect_keep (d : S33) (A : Option Addr) (c : Nat) (w : World) (hr : k37.C w A d.f2.length d.f2) (hc : d.f2.length ≤ c) (hv : vDesc d.f0 d.f2 = true) :
    Calls Try.prog 39 #[.agg #[.int .i64 d.f0, .bool d.f1, .slice A d.f2.length c], .bool true] w (DescPost (sProtect d true) w) := by
  have HR := Aside0.mk hr
  have HC := Aside0.mk hc
  have HV := Aside0.mk hv
  have HM := Aside0.mk (vDesc_len hv)
  have HS := Aside0.mk (show sProtect d true = (⟨d.f0, true, d.f2.map clr⟩, 0) by unfold sProtect; rw [if_pos (show vD d = true from hv)]; rfl)
  clear hr hc hv
  go_enter Try.func39, Try.ntmps39
  go_upto_region 1 with (fail)
  have hb_ := below_alloc (below_alloc (Below.refl _ w) (.cells #[.int .i64 d.f0, .bool d.f1, .slice A d.f2.length c] 33)) (.cells #[.int .i64 0, .bool false, .slice none 0 0] 33)
  have hG0_ := blk_alloc (blk_lit0 w (.cells #[.int .i64 d.f0, .bool d.f1, .slice A d.f2.length c] 33)) (.cells #[.int .i64 0, .bool false, .slice none 0 0] 33)
  have hG1_ := blk_lit w (.cells #[.int .i64 d.f0, .bool d.f1, .slice A d.f2.length c] 33) (.cells #[.int .i64 0, .bool false, .slice none 0 0] 33)
  generalize ((w.alloc (.cells #[.int .i64 d.f0, .bool d.f1, .slice A d.f2.length c] 33)).alloc (.cells #[.int .i64 0, .bool false, .slice none 0 0] 33)) = W at hb_ hG0_ hG1_ ⊢
  have HB_W := Aside0.mk hb_
  have W0 := Aside0.mk hG0_
  have W1 := Aside0.mk hG1_
  clear hb_ hG0_ hG1_
  have y0 := (blk_cell W0.out 0).trans rfl; have y1 := (blk_cell W0.out 1).trans rfl; have y2 := (blk_cell W0.out 2).trans rfl
  go_upto_region 7 with ((with_reducible refine gate_dst (N := 9) rfl ?_); refine goesL_ (some 9) rfl rfl Try.func58 (by kernel_rfl) rfl #[.slice (some ⟨W.heap.size, 0, none⟩) 1 1] rfl (by (try simp only [List.map_toArray, List.map_cons, List.map_nil]); first | done | rfl) ?_; refine (valid_one _ d.f0 d.f1 A c d.f2 _ (blk_new _ _) (Kd.C_alloc (Kd.C_below HR.out HB_W.out) _) HC.out).mono ?_; rintro e w1 ⟨rfl, hb⟩; refine ⟨_, rfl, ?_⟩; rw [HV.out]; have HB1 := Aside0.mk (below_step (below_alloc HB_W.out _) hb); have X0 := Aside0.mk (blk_below (blk_alloc W0.out _) hb); have X1 := Aside0.mk (blk_below (blk_alloc W1.out _) hb); clear hb y0 y1 y2; have y0 := (blk_cell X0.out 0).trans rfl; have y1 := (blk_cell X0.out 1).trans rfl; have y2 := (blk_cell X0.out 2).trans rfl; have fy0 := blk_frozen X0.out 0; have fy1 := blk_frozen X0.out 1; have fy2 := blk_frozen X0.out 2; have z0 := (blk_cell X1.out 0).trans rfl; have z1 := (blk_cell X1.out 1).trans rfl; have z2 := (blk_cell X1.out 2).trans rfl; have fz0 := blk_frozen X1.out 0; have fz1 := blk_frozen X1.out 1; have fz2 := blk_frozen X1.out 2)
  obtain ⟨w2, hw2⟩ : ∃ w2, w2 = w1.setCell ⟨w.heap.size, 1, none⟩ (.bool true) := ⟨_, rfl⟩
  rw [← hw2]
  have Y0 := Aside0.mk (show w2.heap[w.heap.size]? = some (.cells #[.int .i64 d.f0, .bool true, .slice A d.f2.length c] 33 (0, 0)) by rw [hw2]; exact blk_put X0.out 1 (.bool true) rfl)
  have Y1 := Aside0.mk (show w2.heap[w.heap.size + 1]? = some (.cells #[.int .i64 0, .bool false, .slice none 0 0] 33 (0, 0)) by rw [hw2]; exact blk_far X1.out (by simp) _)
  have HB2 := Aside0.mk (show Below w.heap.size w w2 by rw [hw2]; exact HB1.out.setCell (p := ⟨w.heap.size, 1, none⟩) (Nat.le_refl _) _)
  clear hw2 y0 y1 y2 fy0 fy1 fy2 z0 z1 z2 fz0 fz1 fz2 X0 X1 HB1
  have y0 := (blk_cell Y0.out 0).trans rfl; have y1 := (blk_cell Y0.out 1).trans rfl; have y2 := (blk_cell Y0.out 2).trans rfl
  go_upto_region 8 with ((with_reducible refine gate_dst (N := 22) rfl ?_); refine goesL_ (some 22) rfl rfl Try.func66 (by kernel_rfl) rfl #[.slice A d.f2.length c] rfl (by (try simp only [List.map_toArray, List.map_cons, List.map_nil]); first | done | rfl) ?_; refine (clone_calls A c d.f2 _ (Kd.C_below HR.out HB2.out) (by have := HM.out; omega)).mono ?_; rintro e w3 ⟨v, rfl, hra, hb⟩; refine ⟨_, rfl, ?_⟩; obtain ⟨A3, c3, rfl⟩ := Kd.R_slice hra; have HO := Aside0.mk (Kd.R_lower hra HB2.out.size); have HB3 := Aside0.mk (below_step HB2.out hb); have V0 := Aside0.mk (blk_below Y0.out hb); have V1 := Aside0.mk (blk_below Y1.out hb); clear hra hb y0 y1 y2; have y0 := (blk_cell V0.out 0).trans rfl; have y1 := (blk_cell V0.out 1).trans rfl; have y2 := (blk_cell V0.out 2).trans rfl; have fy0 := blk_frozen V0.out 0; have fy1 := blk_frozen V0.out 1; have fy2 := blk_frozen V0.out 2)
  obtain ⟨w4, hw4⟩ : ∃ w4, w4 = w3.setCell ⟨w.heap.size, 2, none⟩ (.slice A3 d.f2.length c3) := ⟨_, rfl⟩
  rw [← hw4]
  have U0 := Aside0.mk (show w4.heap[w.heap.size]? = some (.cells #[.int .i64 d.f0, .bool true, .slice A3 d.f2.length c3] 33 (0, 0)) by rw [hw4]; exact blk_put V0.out 2 _ rfl)
  have U1 := Aside0.mk (show w4.heap[w.heap.size + 1]? = some (.cells #[.int .i64 0, .bool false, .slice none 0 0] 33 (0, 0)) by rw [hw4]; exact blk_far V1.out (by simp) _)
  have HO4 := Aside0.mk (show RA w4 w.heap.size (.slice A3 d.f2.length c3) (clrTo d.f2 0) by rw [hw4]; exact Kd.R_set HO.out V0.out (by decide) 2 _)
  have HB4 := Aside0.mk (show Below w.heap.size w w4 by rw [hw4]; exact HB3.out.setCell (p := ⟨w.heap.size, 2, none⟩) (Nat.le_refl _) _)
  clear hw4 y0 y1 y2 fy0 fy1 fy2
  have y0 := (blk_cell U0.out 0).trans rfl; have y1 := (blk_cell U0.out 1).trans rfl; have y2 := (blk_cell U0.out 2).trans rfl
  go_wp2
  go_loopg [27] d.f2.length (fun kq v27 w' => ∃ j : Nat, v27 = .int .i64 (j : Int) ∧ Aside0 (kq + j = d.f2.length) ∧ Aside0 (RA w' w.heap.size (.slice A3 d.f2.length c3) (clrTo d.f2 j)) ∧ Aside0 (Below w.heap.size w w') ∧ Aside0 (w'.heap[w.heap.size]? = some (.cells #[.int .i64 d.f0, .bool true, .slice A3 d.f2.length c3] 33 (0, 0))) ∧ Aside0 (w'.heap[w.heap.size + 1]? = some (.cells #[.int .i64 0, .bool false, .slice none 0 0] 33 (0, 0))))
  case atStart => exact ⟨0, rfl, ⟨rfl⟩, HO4, HB4, U0, U1⟩
  case round =>
    obtain ⟨j, rfl, HK, HOJ, HBJ, HUJ, HTJ⟩ := hrel
    clear y0 y1 y2
    by_cases hlt : j < d.f2.length
    · have h1 : decide (j < d.f2.length) = true := decide_eq_true hlt
      have HWR := Aside0.mk (show Value.int .i64 (Go.RowKit.wrap64 ((j : Int) + 1)) = Value.int .i64 ((j + 1 : Nat) : Int) by rw [show Go.RowKit.wrap64 ((j : Int) + 1) = ((j + 1 : Nat) : Int) by have := HM.out; unfold Go.RowKit.wrap64; omega])
      have hlj := clrTo_length d.f2 j (by omega)
      obtain ⟨gb, cap, hge, hgb, _⟩ := Kd.R_form HOJ.out (by omega)
      rw [hlj] at hge
      cases hge
      obtain ⟨cs, hcl, hcM, hcc, hcf⟩ := Kd.R_elem HOJ.out z37 (j : Int) (by omega) (by omega)
      have hcM' : k37.M wr w.heap.size (fun k => True ∧ k ≠ gb) (rd_T37 (clrTo d.f2 j) j) cs := hcM
      rw [clrTo_at d.f2 j hlt] at hcM'
      have hce := k37_openM hcM'
      subst hce
      have x3 : wr.cell? ⟨gb, j * 4 + 3, none⟩ = some (.int .i64 (rd_T37 d.f2 j).f3) := hcc 3 _ rfl
      have f3 : wr.frozen? ⟨gb, j * 4 + 3, none⟩ = false := hcf 3
      have HSEG := Aside0.mk (Kd.R_seg HOJ.out (okp := fun _ => False) (x' := clr (rd_T37 d.f2 j)) (seg := [.int .i64 (clr (rd_T37 d.f2 j)).f3]) (j := 3) (j : Int) (by omega) (by omega) hcl hcc (show 3 + 1 ≤ 4 by decide) (k37_mkM _ _ _ (clr (rd_T37 d.f2 j))) (fun _ h => h.elim))
      have HVE := Aside0.mk (clr_bits (x := rd_T37 d.f2 j) (by rw [rd_at hlt]; exact List.all_eq_true.1 (vDesc_all HV.out) _ (List.getElem_mem hlt)))
      clear hcl hcM hcc hcf hcM' hlj
      have y0 := (blk_cell HUJ.out 0).trans rfl; have y1 := (blk_cell HUJ.out 1).trans rfl; have y2 := (blk_cell HUJ.out 2).trans rfl
      go_wp2
      rw [HVE.out]
      obtain ⟨hW, hG⟩ := HSEG.out
      simp only [Int.toNat_natCast] at hW hG
      rw [clrTo_set d.f2 j hlt] at hW
      go_roundg (d.f2.length - (j + 1))
      case measure => have := HK.out; omega
      case rel => exact ⟨j + 1, HWR.out, ⟨by omega⟩, ⟨hW⟩, ⟨pw_below_grown HBJ.out _ HBJ.out.size hG (fun k hk => by cases hk; exact hgb)⟩, ⟨blk_grown HUJ.out hG (by have := Kd.R_ne HOJ.out HUJ.out (by decide); simpa [Value.ownBlock] using this)⟩, ⟨blk_grown HTJ.out hG (by have := Kd.R_ne HOJ.out HTJ.out (by decide); simpa [Value.ownBlock] using this)⟩⟩
    · have h1 : decide (j < d.f2.length) = false := decide_eq_false hlt
      have hj : j = d.f2.length := by have := HK.out; omega
      have HOE := Aside0.mk (show RA wr w.heap.size (.slice A3 d.f2.length c3) (d.f2.map clr) by have := HOJ.out; unfold clrTo at this; rw [hj, List.take_length, List.drop_length, List.append_nil] at this; exact this)
      clear hj
      have y0 := (blk_cell HUJ.out 0).trans rfl; have y1 := (blk_cell HUJ.out 1).trans rfl; have y2 := (blk_cell HUJ.out 2).trans rfl
      have z0 := (blk_cell HTJ.out 0).trans rfl; have z1 := (blk_cell HTJ.out 1).trans rfl; have z2 := (blk_cell HTJ.out 2).trans rfl
      have fz0 := blk_frozen HTJ.out 0; have fz1 := blk_frozen HTJ.out 1; have fz2 := blk_frozen HTJ.out 2
      go_wp2
      rw [HS.out]
      exact desc_end (r := (⟨d.f0, true, d.f2.map clr⟩, 0)) rfl rfl rfl HTJ.out rfl (by omega) HOE.out HBJ.out
theorem Protect_calls (d : S33) (A : Option Addr) (c : Nat) (w : World) (hr : k37.C w A d.f2.length d.f2) (hc : d.f2.length ≤ c) (keep : Bool) :
    Calls Try.prog 39 #[.agg #[.int .i64 d.f0, .bool d.f1, .slice A d.f2.length c], .bool keep] w (DescPost (sProtect d keep) w) := by
  cases hv : vDesc d.f0 d.f2 with
  | false => exact Protect_bad d A c w hr hc keep hv
  | true =>
    cases keep with
    | true => exact Protect_keep d A c w hr hc hv
    | false => exact Protect_drop d A c w hr hc hv
end Go.Proofs.Ytgocgjfaiddejaa.M
