/- Protect, Open and Ordered of the program; Has of the reference. -/
import Derived.Test.YtgocgjfaiddejaaSQ
import Derived.Test.YtgocgjfaiddejaaF20
import Derived.Test.YtgocgjfaiddejaaH13
import Derived.Test.YtgocgjfaiddejaaH15
namespace Go.Proofs.Ytgocgjfaiddejaa.M
open Go.RowKit Go.Proofs.YtgocgjfaiddejaaW.PrintWords Go.Proofs.YtgocgjfaiddejaaW.PrintLast Go.Proofs.YtgocgjfaiddejaaW.PrintMore
set_option linter.unusedVariables false
set_option linter.unusedSimpArgs false
set_option linter.unnecessarySimpa false

theorem has_bits (k : Nat) (n : Nat) (hn : n < 32) (hk : k = 1 ∨ k = 2 ∨ k = 4 ∨ k = 8 ∨ k = 16) : ((Int.tmod (wrap64 (Int.tdiv (n : Int) (k : Int))) 2) == 1) = hasB (n : Int) (k : Int) := by
  have : ∀ n : Fin 32, ∀ k : Fin 17, (k = 1 ∨ k = 2 ∨ k = 4 ∨ k = 8 ∨ k = 16) → ((Int.tmod (wrap64 (Int.tdiv ((n : Nat) : Int) ((k : Nat) : Int))) 2) == 1) = hasB ((n : Nat) : Int) ((k : Nat) : Int) := by decide +kernel
  exact this ⟨n, hn⟩ ⟨k, by omega⟩ (by rcases hk with rfl | rfl | rfl | rfl | rfl <;> simp)
theorem has_f {x : S37} (h : vAce x = true) : archivoltref23_Has.f x.f0 x.f1 x.f2 x.f3 16 = some (hadB x) := by
  unfold vAce at h
  simp only [Bool.and_eq_true, decide_eq_true_eq] at h
  unfold archivoltref23_Has.f
  rw [if_neg (by decide)]
  congr 1
  exact flag_cases h.1.2 h.2 (fun f => ((Int.tmod (wrap64 (Int.tdiv f 16)) 2) == 1) = hasB f 16) (fun n hn => has_bits 16 n hn (by simp))
/-- An entry as an own one. -/
def clr (x : S37) : S37 := { x with f3 := if hadB x then x.f3 - 16 else x.f3 }
def prot (l : List S37) (keep : Bool) : List S37 := if keep then l.map clr else l.filter ownB
def sProtect (d : S33) (keep : Bool) : S33 × Int := if vD d = true then (⟨d.f0, true, prot d.f2 keep⟩, 0) else (z33, 1)
theorem prot_length (l : List S37) (keep : Bool) : (prot l keep).length ≤ l.length := by
  unfold prot
  cases keep with
  | true => simp
  | false => simpa using List.length_filter_le ownB l


set_option maxRecDepth 100000 in
set_option maxHeartbeats 2000000 in
theorem Protect_bad (d : S33) (A : Option Addr) (c : Nat) (w : World) (hr : k37.C w A d.f2.length d.f2) (hc : d.f2.length ≤ c) (keep : Bool) (hv : vDesc d.f0 d.f2 = false) :
    Calls Try.prog 39 #[.agg #[.int .i64 d.f0, .bool d.f1, .slice A d.f2.length c], .bool keep] w (DescPost (sProtect d keep) w) := by
  have HR := Aside0.mk hr
  have HC := Aside0.mk hc
  have HV := Aside0.mk hv
  have HS := Aside0.mk (show sProtect d keep = (z33, 1) by unfold sProtect; rw [if_neg (by unfold vD; rw [hv]; simp)])
  clear hr hc hv
  go_enter Try.func39, Try.ntmps39
  go_upto_region 1 with (fail)
  have hb_ := below_alloc (below_alloc (Below.refl _ w) (.cells #[.int .i64 d.f0, .bool d.f1, .slice A d.f2.length c] 33)) (.cells #[.int .i64 0, .bool false, .slice none 0 0] 33)
  have hG0_ := blk_alloc (blk_lit0 w (.cells #[.int .i64 d.f0, .bool d.f1, .slice A d.f2.length c] 33)) (.cells #[.int .i64 0, .bool false, .slice none 0 0] 33)
  have hG1_ := blk_lit w (.cells #[.int .i64 d.f0, .bool d.f1, .slice A d.f2.length c] 33) (.cells #[.int .i64 0, .bool false, .slice none 0 0] 33)
  generalize ((w.alloc (.cells #[.int .i64 d.f0, .bool d.f1, .slice A d.f2.length c] 33)).alloc (.cells #[.int .i64 0, .bool false, .slice none 0 0] 33)) = W at hb_ hG0_ hG1_ ⊢
  have HB_W := Aside0.mk hb_
  have W0 := Aside0.mk hG0_
  have W1 := Aside0.mk hG1_
  clear hb_ hG0_ hG1_
  have y0 := (blk_cell W0.out 0).trans rfl; have y1 := (blk_cell W0.out 1).trans rfl; have y2 := (blk_cell W0.out 2).trans rfl
  go_wp2_with ((with_reducible refine gate_dst (N := 9) rfl ?_); refine goesL_ (some 9) rfl rfl Try.func58 (by kernel_rfl) rfl #[.slice (some ⟨W.heap.size, 0, none⟩) 1 1] rfl (by (try simp only [List.map_toArray, List.map_cons, List.map_nil]); first | done | rfl) ?_; refine (valid_one _ d.f0 d.f1 A c d.f2 _ (blk_new _ _) (Kd.C_alloc (Kd.C_below HR.out HB_W.out) _) HC.out).mono ?_; rintro e w1 ⟨rfl, hb⟩; refine ⟨_, rfl, ?_⟩; rw [HV.out]; have HB1 := Aside0.mk (below_step (below_alloc HB_W.out _) hb); have X0 := Aside0.mk (blk_below (blk_alloc W0.out _) hb); have X1 := Aside0.mk (blk_below (blk_alloc W1.out _) hb); clear hb y0 y1 y2; have y0 := (blk_cell X0.out 0).trans rfl; have y1 := (blk_cell X0.out 1).trans rfl; have y2 := (blk_cell X0.out 2).trans rfl; have fy0 := blk_frozen X0.out 0; have fy1 := blk_frozen X0.out 1; have fy2 := blk_frozen X0.out 2; have z0 := (blk_cell X1.out 0).trans rfl; have z1 := (blk_cell X1.out 1).trans rfl; have z2 := (blk_cell X1.out 2).trans rfl; have fz0 := blk_frozen X1.out 0; have fz1 := blk_frozen X1.out 1; have fz2 := blk_frozen X1.out 2)
  rw [HS.out]
  exact desc_end rfl rfl rfl X1.out rfl (by omega) (Kd.R_nil _ _ _ _ _) HB1.out
set_option maxRecDepth 100000 in
set_option maxHeartbeats 2000000 in
theorem Protect_drop (d : S33) (A : Option Addr) (c : Nat) (w : World) (hr : k37.C w A d.f2.length d.f2) (hc : d.f2.length ≤ c) (hv : vDesc d.f0 d.f2 = true) :
    Calls Try.prog 39 #[.agg #[.int .i64 d.f0, .bool d.f1, .slice A d.f2.length c], .bool false] w (DescPost (sProtect d false) w) := by
  have HR := Aside0.mk hr
  have HC := Aside0.mk hc
  have HV := Aside0.mk hv
  have HS := Aside0.mk (show sProtect d false = (⟨d.f0, true, d.f2.filter ownB⟩, 0) by unfold sProtect; rw [if_pos (show vD d = true from hv)]; rfl)
  clear hr hc hv
  go_enter Try.func39, Try.ntmps39
  go_upto_region 1 with (fail)
  have hb_ := below_alloc (below_alloc (Below.refl _ w) (.cells #[.int .i64 d.f0, .bool d.f1, .slice A d.f2.length c] 33)) (.cells #[.int .i64 0, .bool false, .slice none 0 0] 33)
  have hG0_ := blk_alloc (blk_lit0 w (.cells #[.int .i64 d.f0, .bool d.f1, .slice A d.f2.length c] 33)) (.cells #[.int .i64 0, .bool false, .slice none 0 0] 33)
  have hG1_ := blk_lit w (.cells #[.int .i64 d.f0, .bool d.f1, .slice A d.f2.length c] 33) (.cells #[.int .i64 0, .bool false, .slice none 0 0] 33)
  generalize ((w.alloc (.cells #[.int .i64 d.f0, .bool d.f1, .slice A d.f2.length c] 33)).alloc (.cells #[.int .i64 0, .bool false, .slice none 0 0] 33)) = W at hb_ hG0_ hG1_ ⊢
  have HB_W := Aside0.mk hb_
  have W0 := Aside0.mk hG0_
  have W1 := Aside0.mk hG1_
  clear hb_ hG0_ hG1_
  have y0 := (blk_cell W0.out 0).trans rfl; have y1 := (blk_cell W0.out 1).trans rfl; have y2 := (blk_cell W0.out 2).trans rfl
  go_upto_region 5 with ((with_reducible refine gate_dst (N := 9) rfl ?_); refine goesL_ (some 9) rfl rfl Try.func58 (by kernel_rfl) rfl #[.slice (some ⟨W.heap.size, 0, none⟩) 1 1] rfl (by (try simp only [List.map_toArray, List.map_cons, List.map_nil]); first | done | rfl) ?_; refine (valid_one _ d.f0 d.f1 A c d.f2 _ (blk_new _ _) (Kd.C_alloc (Kd.C_below HR.out HB_W.out) _) HC.out).mono ?_; rintro e w1 ⟨rfl, hb⟩; refine ⟨_, rfl, ?_⟩; rw [HV.out]; have HB1 := Aside0.mk (below_step (below_alloc HB_W.out _) hb); have X0 := Aside0.mk (blk_below (blk_alloc W0.out _) hb); have X1 := Aside0.mk (blk_below (blk_alloc W1.out _) hb); clear hb y0 y1 y2; have y0 := (blk_cell X0.out 0).trans rfl; have y1 := (blk_cell X0.out 1).trans rfl; have y2 := (blk_cell X0.out 2).trans rfl; have fy0 := blk_frozen X0.out 0; have fy1 := blk_frozen X0.out 1; have fy2 := blk_frozen X0.out 2; have z0 := (blk_cell X1.out 0).trans rfl; have z1 := (blk_cell X1.out 1).trans rfl; have z2 := (blk_cell X1.out 2).trans rfl; have fz0 := blk_frozen X1.out 0; have fz1 := blk_frozen X1.out 1; have fz2 := blk_frozen X1.out 2)
  obtain ⟨w2, hw2⟩ : ∃ w2, w2 = w1.setCell ⟨w.heap.size, 1, none⟩ (.bool true) := ⟨_, rfl⟩
  rw [← hw2]
  have Y0 := Aside0.mk (show w2.heap[w.heap.size]? = some (.cells #[.int .i64 d.f0, .bool true, .slice A d.f2.length c] 33 (0, 0)) by rw [hw2]; exact blk_put X0.out 1 (.bool true) rfl)
  have Y1 := Aside0.mk (show w2.heap[w.heap.size + 1]? = some (.cells #[.int .i64 0, .bool false, .slice none 0 0] 33 (0, 0)) by rw [hw2]; exact blk_far X1.out (by simp) _)
  have HB2 := Aside0.mk (show Below w.heap.size w w2 by rw [hw2]; exact HB1.out.setCell (p := ⟨w.heap.size, 1, none⟩) (Nat.le_refl _) _)
  clear hw2 y0 y1 y2 fy0 fy1 fy2 z0 z1 z2 fz0 fz1 fz2 X0 X1 HB1
  have y0 := (blk_cell Y0.out 0).trans rfl; have y1 := (blk_cell Y0.out 1).trans rfl; have y2 := (blk_cell Y0.out 2).trans rfl
  go_upto_region 6 with ((with_reducible refine gate_dst (N := 17) rfl ?_); refine goesL_ (some 17) rfl rfl Try.func50 (by kernel_rfl) rfl #[.slice A d.f2.length c, .func (.func 51) #[] #[]] rfl (by (try simp only [List.map_toArray, List.map_cons, List.map_nil]); first | done | rfl) ?_; refine (filter_calls 51 #[] ownB A c d.f2 _ (looks_own _) (Kd.C_below HR.out HB2.out) (by have := vDesc_len HV.out; omega)).mono ?_; rintro e w3 ⟨v, rfl, hra, hb⟩; refine ⟨_, rfl, ?_⟩; obtain ⟨A3, c3, rfl⟩ := Kd.R_slice hra; have HO := Aside0.mk (Kd.R_lower hra HB2.out.size); have HB3 := Aside0.mk (below_step HB2.out hb); have V0 := Aside0.mk (blk_below Y0.out hb); have V1 := Aside0.mk (blk_below Y1.out hb); clear hra hb y0 y1 y2; have y0 := (blk_cell V0.out 0).trans rfl; have y1 := (blk_cell V0.out 1).trans rfl; have y2 := (blk_cell V0.out 2).trans rfl; have fy0 := blk_frozen V0.out 0; have fy1 := blk_frozen V0.out 1; have fy2 := blk_frozen V0.out 2)
  obtain ⟨w4, hw4⟩ : ∃ w4, w4 = w3.setCell ⟨w.heap.size, 2, none⟩ (.slice A3 (d.f2.filter ownB).length c3) := ⟨_, rfl⟩
  rw [← hw4]
  have U0 := Aside0.mk (show w4.heap[w.heap.size]? = some (.cells #[.int .i64 d.f0, .bool true, .slice A3 (d.f2.filter ownB).length c3] 33 (0, 0)) by rw [hw4]; exact blk_put V0.out 2 _ rfl)
  have U1 := Aside0.mk (show w4.heap[w.heap.size + 1]? = some (.cells #[.int .i64 0, .bool false, .slice none 0 0] 33 (0, 0)) by rw [hw4]; exact blk_far V1.out (by simp) _)
  have HO4 := Aside0.mk (show RA w4 w.heap.size (.slice A3 (d.f2.filter ownB).length c3) (d.f2.filter ownB) by rw [hw4]; exact Kd.R_set HO.out V0.out (by decide) 2 _)
  have HB4 := Aside0.mk (show Below w.heap.size w w4 by rw [hw4]; exact HB3.out.setCell (p := ⟨w.heap.size, 2, none⟩) (Nat.le_refl _) _)
  clear hw4 y0 y1 y2 fy0 fy1 fy2
  have y0 := (blk_cell U0.out 0).trans rfl; have y1 := (blk_cell U0.out 1).trans rfl; have y2 := (blk_cell U0.out 2).trans rfl
  have z0 := (blk_cell U1.out 0).trans rfl; have z1 := (blk_cell U1.out 1).trans rfl; have z2 := (blk_cell U1.out 2).trans rfl
  have fz0 := blk_frozen U1.out 0; have fz1 := blk_frozen U1.out 1; have fz2 := blk_frozen U1.out 2
  go_wp2
  rw [HS.out]
  exact desc_end (r := (⟨d.f0, true, d.f2.filter ownB⟩, 0)) rfl rfl rfl U1.out rfl (by omega) HO4.out HB4.out
theorem clr_bits {x : S37} (h : vAce x = true) : Go.bits .andNot .i64 x.f3 16 = (clr x).f3 := by
  unfold vAce at h
  simp only [Bool.and_eq_true, decide_eq_true_eq] at h
  have : ∀ n : Fin 32, Go.bits .andNot .i64 ((n : Nat) : Int) 16 = (if hasB ((n : Nat) : Int) 16 then ((n : Nat) : Int) - 16 else ((n : Nat) : Int)) := by decide +kernel
  exact flag_cases h.1.2 h.2 (fun f => Go.bits .andNot .i64 f 16 = (if hasB f 16 then f - 16 else f)) (fun n hn => this ⟨n, hn⟩)
/-- What the loop has made of the list so far. -/
def clrTo (l : List S37) (j : Nat) : List S37 := (l.take j).map clr ++ l.drop j
theorem clrTo_length (l : List S37) (j : Nat) (h : j ≤ l.length) : (clrTo l j).length = l.length := by
  unfold clrTo
  rw [List.length_append, List.length_map, List.length_take, List.length_drop]
  omega
theorem clrTo_at (l : List S37) (j : Nat) (h : j < l.length) : rd_T37 (clrTo l j) j = rd_T37 l j := by
  rw [rd_at (by rw [clrTo_length l j (by omega)]; exact h), rd_at h]
  unfold clrTo
  rw [List.getElem_append_right (by simp; omega)]
  simp [Nat.min_eq_left (Nat.le_of_lt h)]
theorem clrTo_set (l : List S37) (j : Nat) (h : j < l.length) : (clrTo l j).set j (clr (rd_T37 l j)) = clrTo l (j + 1) := by
  unfold clrTo
  have hl : ((l.take j).map clr).length = j := by simp; omega
  rw [List.set_append_right _ _ (by omega), hl, Nat.sub_self, List.take_succ_eq_append_getElem h, List.map_append, List.drop_eq_getElem_cons h, List.set_cons_zero, rd_at h]
  simp
set_option maxRecDepth 100000 in
set_option maxHeartbeats 2000000 in
theorem Protect_keep (d : S33) (A : Option Addr) (c : Nat) (w : World) (hr : k37.C w A d.f2.length d.f2) (hc : d.f2.length ≤ c) (hv : vDesc d.f0 d.f2 = true) :
    Calls Try.prog 39 #[.agg #[.int .i64 d.f0, .bool d.f1, .slice A d.f2.length c], .bool true] w (DescPost (sProtect d true) w) := by
  have HR := Aside0.mk hr
  have HC := Aside0.mk hc
  have HV := Aside0.mk hv
  have HM := Aside0.mk (vDesc_len hv)
  have HS := Aside0.mk (show sProtect d true = (⟨d.f0, true, d.f2.map clr⟩, 0) by unfold sProtect; rw [if_pos (show vD d = true from hv)]; rfl)
  clear hr hc hv
  go_enter Try.func39, Try.ntmps39
  go_upto_region 1 with (fail)
  have hb_ := below_alloc (below_alloc (Below.refl _ w) (.cells #[.int .i64 d.f0, .bool d.f1, .slice A d.f2.length c] 33)) (.cells #[.int .i64 0, .bool false, .slice none 0 0] 33)
  have hG0_ := blk_alloc (blk_lit0 w (.cells #[.int .i64 d.f0, .bool d.f1, .slice A d.f2.length c] 33)) (.cells #[.int .i64 0, .bool false, .slice none 0 0] 33)
  have hG1_ := blk_lit w (.cells #[.int .i64 d.f0, .bool d.f1, .slice A d.f2.length c] 33) (.cells #[.int .i64 0, .bool false, .slice none 0 0] 33)
  generalize ((w.alloc (.cells #[.int .i64 d.f0, .bool d.f1, .slice A d.f2.length c] 33)).alloc (.cells #[.int .i64 0, .bool false, .slice none 0 0] 33)) = W at hb_ hG0_ hG1_ ⊢
  have HB_W := Aside0.mk hb_
  have W0 := Aside0.mk hG0_
  have W1 := Aside0.mk hG1_
  clear hb_ hG0_ hG1_
  have y0 := (blk_cell W0.out 0).trans rfl; have y1 := (blk_cell W0.out 1).trans rfl; have y2 := (blk_cell W0.out 2).trans rfl
  go_upto_region 7 with ((with_reducible refine gate_dst (N := 9) rfl ?_); refine goesL_ (some 9) rfl rfl Try.func58 (by kernel_rfl) rfl #[.slice (some ⟨W.heap.size, 0, none⟩) 1 1] rfl (by (try simp only [List.map_toArray, List.map_cons, List.map_nil]); first | done | rfl) ?_; refine (valid_one _ d.f0 d.f1 A c d.f2 _ (blk_new _ _) (Kd.C_alloc (Kd.C_below HR.out HB_W.out) _) HC.out).mono ?_; rintro e w1 ⟨rfl, hb⟩; refine ⟨_, rfl, ?_⟩; rw [HV.out]; have HB1 := Aside0.mk (below_step (below_alloc HB_W.out _) hb); have X0 := Aside0.mk (blk_below (blk_alloc W0.out _) hb); have X1 := Aside0.mk (blk_below (blk_alloc W1.out _) hb); clear hb y0 y1 y2; have y0 := (blk_cell X0.out 0).trans rfl; have y1 := (blk_cell X0.out 1).trans rfl; have y2 := (blk_cell X0.out 2).trans rfl; have fy0 := blk_frozen X0.out 0; have fy1 := blk_frozen X0.out 1; have fy2 := blk_frozen X0.out 2; have z0 := (blk_cell X1.out 0).trans rfl; have z1 := (blk_cell X1.out 1).trans rfl; have z2 := (blk_cell X1.out 2).trans rfl; have fz0 := blk_frozen X1.out 0; have fz1 := blk_frozen X1.out 1; have fz2 := blk_frozen X1.out 2)
  obtain ⟨w2, hw2⟩ : ∃ w2, w2 = w1.setCell ⟨w.heap.size, 1, none⟩ (.bool true) := ⟨_, rfl⟩
  rw [← hw2]
  have Y0 := Aside0.mk (show w2.heap[w.heap.size]? = some (.cells #[.int .i64 d.f0, .bool true, .slice A d.f2.length c] 33 (0, 0)) by rw [hw2]; exact blk_put X0.out 1 (.bool true) rfl)
  have Y1 := Aside0.mk (show w2.heap[w.heap.size + 1]? = some (.cells #[.int .i64 0, .bool false, .slice none 0 0] 33 (0, 0)) by rw [hw2]; exact blk_far X1.out (by simp) _)
  have HB2 := Aside0.mk (show Below w.heap.size w w2 by rw [hw2]; exact HB1.out.setCell (p := ⟨w.heap.size, 1, none⟩) (Nat.le_refl _) _)
  clear hw2 y0 y1 y2 fy0 fy1 fy2 z0 z1 z2 fz0 fz1 fz2 X0 X1 HB1
  have y0 := (blk_cell Y0.out 0).trans rfl; have y1 := (blk_cell Y0.out 1).trans rfl; have y2 := (blk_cell Y0.out 2).trans rfl
  go_upto_region 8 with ((with_reducible refine gate_dst (N := 22) rfl ?_); refine goesL_ (some 22) rfl rfl Try.func66 (by kernel_rfl) rfl #[.slice A d.f2.length c] rfl (by (try simp only [List.map_toArray, List.map_cons, List.map_nil]); first | done | rfl) ?_; refine (clone_calls A c d.f2 _ (Kd.C_below HR.out HB2.out) (by have := HM.out; omega)).mono ?_; rintro e w3 ⟨v, rfl, hra, hb⟩; refine ⟨_, rfl, ?_⟩; obtain ⟨A3, c3, rfl⟩ := Kd.R_slice hra; have HO := Aside0.mk (Kd.R_lower hra HB2.out.size); have HB3 := Aside0.mk (below_step HB2.out hb); have V0 := Aside0.mk (blk_below Y0.out hb); have V1 := Aside0.mk (blk_below Y1.out hb); clear hra hb y0 y1 y2; have y0 := (blk_cell V0.out 0).trans rfl; have y1 := (blk_cell V0.out 1).trans rfl; have y2 := (blk_cell V0.out 2).trans rfl; have fy0 := blk_frozen V0.out 0; have fy1 := blk_frozen V0.out 1; have fy2 := blk_frozen V0.out 2)
  obtain ⟨w4, hw4⟩ : ∃ w4, w4 = w3.setCell ⟨w.heap.size, 2, none⟩ (.slice A3 d.f2.length c3) := ⟨_, rfl⟩
  rw [← hw4]
  have U0 := Aside0.mk (show w4.heap[w.heap.size]? = some (.cells #[.int .i64 d.f0, .bool true, .slice A3 d.f2.length c3] 33 (0, 0)) by rw [hw4]; exact blk_put V0.out 2 _ rfl)
  have U1 := Aside0.mk (show w4.heap[w.heap.size + 1]? = some (.cells #[.int .i64 0, .bool false, .slice none 0 0] 33 (0, 0)) by rw [hw4]; exact blk_far V1.out (by simp) _)
  have HO4 := Aside0.mk (show RA w4 w.heap.size (.slice A3 d.f2.length c3) (clrTo d.f2 0) by rw [hw4]; exact Kd.R_set HO.out V0.out (by decide) 2 _)
  have HB4 := Aside0.mk (show Below w.heap.size w w4 by rw [hw4]; exact HB3.out.setCell (p := ⟨w.heap.size, 2, none⟩) (Nat.le_refl _) _)
  clear hw4 y0 y1 y2 fy0 fy1 fy2
  have y0 := (blk_cell U0.out 0).trans rfl; have y1 := (blk_cell U0.out 1).trans rfl; have y2 := (blk_cell U0.out 2).trans rfl
  go_wp2
  go_loopg [27] d.f2.length (fun kq v27 w' => ∃ j : Nat, v27 = .int .i64 (j : Int) ∧ Aside0 (kq + j = d.f2.length) ∧ Aside0 (RA w' w.heap.size (.slice A3 d.f2.length c3) (clrTo d.f2 j)) ∧ Aside0 (Below w.heap.size w w') ∧ Aside0 (w'.heap[w.heap.size]? = some (.cells #[.int .i64 d.f0, .bool true, .slice A3 d.f2.length c3] 33 (0, 0))) ∧ Aside0 (w'.heap[w.heap.size + 1]? = some (.cells #[.int .i64 0, .bool false, .slice none 0 0] 33 (0, 0))))
  case atStart => exact ⟨0, rfl, ⟨rfl⟩, HO4, HB4, U0, U1⟩
  case round =>
    obtain ⟨j, rfl, HK, HOJ, HBJ, HUJ, HTJ⟩ := hrel
    clear y0 y1 y2
    by_cases hlt : j < d.f2.length
    · have h1 : decide (j < d.f2.length) = true := decide_eq_true hlt
      have HWR := Aside0.mk (show Value.int .i64 (Go.RowKit.wrap64 ((j : Int) + 1)) = Value.int .i64 ((j + 1 : Nat) : Int) by rw [show Go.RowKit.wrap64 ((j : Int) + 1) = ((j + 1 : Nat) : Int) by have := HM.out; unfold Go.RowKit.wrap64; omega])
      have hlj := clrTo_length d.f2 j (by omega)
      obtain ⟨gb, cap, hge, hgb, _⟩ := Kd.R_form HOJ.out (by omega)
      rw [hlj] at hge
      cases hge
      obtain ⟨cs, hcl, hcM, hcc, hcf⟩ := Kd.R_elem HOJ.out z37 (j : Int) (by omega) (by omega)
      have hcM' : k37.M wr w.heap.size (fun k => True ∧ k ≠ gb) (rd_T37 (clrTo d.f2 j) j) cs := hcM
      rw [clrTo_at d.f2 j hlt] at hcM'
      have hce := k37_openM hcM'
      subst hce
      have x3 : wr.cell? ⟨gb, j * 4 + 3, none⟩ = some (.int .i64 (rd_T37 d.f2 j).f3) := hcc 3 _ rfl
      have f3 : wr.frozen? ⟨gb, j * 4 + 3, none⟩ = false := hcf 3
      have HSEG := Aside0.mk (Kd.R_seg HOJ.out (okp := fun _ => False) (x' := clr (rd_T37 d.f2 j)) (seg := [.int .i64 (clr (rd_T37 d.f2 j)).f3]) (j := 3) (j : Int) (by omega) (by omega) hcl hcc (show 3 + 1 ≤ 4 by decide) (k37_mkM _ _ _ (clr (rd_T37 d.f2 j))) (fun _ h => h.elim))
      have HVE := Aside0.mk (clr_bits (x := rd_T37 d.f2 j) (by rw [rd_at hlt]; exact List.all_eq_true.1 (vDesc_all HV.out) _ (List.getElem_mem hlt)))
      clear hcl hcM hcc hcf hcM' hlj
      have y0 := (blk_cell HUJ.out 0).trans rfl; have y1 := (blk_cell HUJ.out 1).trans rfl; have y2 := (blk_cell HUJ.out 2).trans rfl
      go_wp2
      rw [HVE.out]
      obtain ⟨hW, hG⟩ := HSEG.out
      simp only [Int.toNat_natCast] at hW hG
      rw [clrTo_set d.f2 j hlt] at hW
      go_roundg (d.f2.length - (j + 1))
      case measure => have := HK.out; omega
      case rel => exact ⟨j + 1, HWR.out, ⟨by omega⟩, ⟨hW⟩, ⟨pw_below_grown HBJ.out _ HBJ.out.size hG (fun k hk => by cases hk; exact hgb)⟩, ⟨blk_grown HUJ.out hG (by have := Kd.R_ne HOJ.out HUJ.out (by decide); simpa [Value.ownBlock] using this)⟩, ⟨blk_grown HTJ.out hG (by have := Kd.R_ne HOJ.out HTJ.out (by decide); simpa [Value.ownBlock] using this)⟩⟩
    · have h1 : decide (j < d.f2.length) = false := decide_eq_false hlt
      have hj : j = d.f2.length := by have := HK.out; omega
      have HOE := Aside0.mk (show RA wr w.heap.size (.slice A3 d.f2.length c3) (d.f2.map clr) by have := HOJ.out; unfold clrTo at this; rw [hj, List.take_length, List.drop_length, List.append_nil] at this; exact this)
      clear hj
      have y0 := (blk_cell HUJ.out 0).trans rfl; have y1 := (blk_cell HUJ.out 1).trans rfl; have y2 := (blk_cell HUJ.out 2).trans rfl
      have z0 := (blk_cell HTJ.out 0).trans rfl; have z1 := (blk_cell HTJ.out 1).trans rfl; have z2 := (blk_cell HTJ.out 2).trans rfl
      have fz0 := blk_frozen HTJ.out 0; have fz1 := blk_frozen HTJ.out 1; have fz2 := blk_frozen HTJ.out 2
      go_wp2
      rw [HS.out]
      exact desc_end (r := (⟨d.f0, true, d.f2.map clr⟩, 0)) rfl rfl rfl HTJ.out rfl (by omega) HOE.out HBJ.out
theorem Protect_calls (d : S33) (A : Option Addr) (c : Nat) (w : World) (hr : k37.C w A d.f2.length d.f2) (hc : d.f2.length ≤ c) (keep : Bool) :
    Calls Try.prog 39 #[.agg #[.int .i64 d.f0, .bool d.f1, .slice A d.f2.length c], .bool keep] w (DescPost (sProtect d keep) w) := by
  cases hv : vDesc d.f0 d.f2 with
  | false => exact Protect_bad d A c w hr hc keep hv
  | true =>
    cases keep with
    | true => exact Protect_keep d A c w hr hc hv
    | false => exact Protect_drop d A c w hr hc hv

def sOpen (p d : S33) (dir : Bool) : S33 × Int := sRenew p ⟨d.f0, false, d.f2⟩ dir
def sOrdered (d : S33) : Bool × Int := if vD d = true then (decide (ordL d.f2 = d.f2), 0) else (false, 1)
set_option maxRecDepth 100000 in
set_option maxHeartbeats 2000000 in
theorem Open_calls (p d : S33) (A A2 : Option Addr) (c c2 : Nat) (dir : Bool) (w : World) (hr : k37.C w A p.f2.length p.f2) (hc : p.f2.length ≤ c) (hr2 : k37.C w A2 d.f2.length d.f2) (hc2 : d.f2.length ≤ c2) :
    Calls Try.prog 41 #[.agg #[.int .i64 p.f0, .bool p.f1, .slice A p.f2.length c], .agg #[.int .i64 d.f0, .bool d.f1, .slice A2 d.f2.length c2], .bool dir] w (DescPost (sOpen p d dir) w) := by
  obtain ⟨⟨⟨ro, rb, rl⟩, re⟩, hs⟩ : ∃ r, r = sOpen p d dir := ⟨_, rfl⟩
  rw [← hs]
  have HS := Aside0.mk (show sRenew ⟨p.f0, p.f1, p.f2⟩ ⟨d.f0, false, d.f2⟩ dir = (⟨ro, rb, rl⟩, re) from hs.symm)
  have HR := Aside0.mk hr
  have HC := Aside0.mk hc
  have HR2 := Aside0.mk hr2
  have HC2 := Aside0.mk hc2
  clear hr hc hr2 hc2 hs
  go_enter Try.func41, Try.ntmps41
  go_upto_region 1 with (fail)
  have hb_ := below_alloc (below_alloc (below_alloc (Below.refl _ w) (.cells #[.int .i64 p.f0, .bool p.f1, .slice A p.f2.length c] 33)) (.cells #[.int .i64 d.f0, .bool d.f1, .slice A2 d.f2.length c2] 33)) (.cells #[.int .i64 0, .bool false, .slice none 0 0] 33)
  have hG0_ := blk_alloc (blk_alloc (blk_lit0 w (.cells #[.int .i64 p.f0, .bool p.f1, .slice A p.f2.length c] 33)) (.cells #[.int .i64 d.f0, .bool d.f1, .slice A2 d.f2.length c2] 33)) (.cells #[.int .i64 0, .bool false, .slice none 0 0] 33)
  have hG1_ := blk_alloc (blk_lit w (.cells #[.int .i64 p.f0, .bool p.f1, .slice A p.f2.length c] 33) (.cells #[.int .i64 d.f0, .bool d.f1, .slice A2 d.f2.length c2] 33)) (.cells #[.int .i64 0, .bool false, .slice none 0 0] 33)
  have hG2_ := blk_lit2 w (.cells #[.int .i64 p.f0, .bool p.f1, .slice A p.f2.length c] 33) (.cells #[.int .i64 d.f0, .bool d.f1, .slice A2 d.f2.length c2] 33) (.cells #[.int .i64 0, .bool false, .slice none 0 0] 33)
  generalize (((w.alloc (.cells #[.int .i64 p.f0, .bool p.f1, .slice A p.f2.length c] 33)).alloc (.cells #[.int .i64 d.f0, .bool d.f1, .slice A2 d.f2.length c2] 33)).alloc (.cells #[.int .i64 0, .bool false, .slice none 0 0] 33)) = W at hb_ hG0_ hG1_ hG2_ ⊢
  have HB_W := Aside0.mk hb_
  have W0 := Aside0.mk hG0_
  have W1 := Aside0.mk hG1_
  have W2 := Aside0.mk hG2_
  clear hb_ hG0_ hG1_ hG2_
  have y0 := (blk_cell W1.out 0).trans rfl; have y1 := (blk_cell W1.out 1).trans rfl; have y2 := (blk_cell W1.out 2).trans rfl
  have fy0 := blk_frozen W1.out 0; have fy1 := blk_frozen W1.out 1; have fy2 := blk_frozen W1.out 2
  go_upto_region 2 with (fail)
  obtain ⟨w1, hw1⟩ : ∃ w1, w1 = W.setCell ⟨w.heap.size + 1, 1, none⟩ (.bool false) := ⟨_, rfl⟩
  rw [← hw1]
  have X0 := Aside0.mk (show w1.heap[w.heap.size]? = some (.cells #[.int .i64 p.f0, .bool p.f1, .slice A p.f2.length c] 33 (0, 0)) by rw [hw1]; exact blk_far W0.out (by simp) _)
  have X1 := Aside0.mk (show w1.heap[w.heap.size + 1]? = some (.cells #[.int .i64 d.f0, .bool false, .slice A2 d.f2.length c2] 33 (0, 0)) by rw [hw1]; exact blk_put W1.out 1 (.bool false) rfl)
  have X2 := Aside0.mk (show w1.heap[w.heap.size + 1 + 1]? = some (.cells #[.int .i64 0, .bool false, .slice none 0 0] 33 (0, 0)) by rw [hw1]; exact blk_far W2.out (by simp) _)
  have HB1 := Aside0.mk (show Below w.heap.size w w1 by rw [hw1]; exact HB_W.out.setCell (p := ⟨w.heap.size + 1, 1, none⟩) (show w.heap.size ≤ w.heap.size + 1 by omega) _)
  clear hw1 y0 y1 y2 fy0 fy1 fy2 W0 W1 W2 HB_W
  have x0 := (blk_cell X0.out 0).trans rfl; have x1 := (blk_cell X0.out 1).trans rfl; have x2 := (blk_cell X0.out 2).trans rfl
  have y0 := (blk_cell X1.out 0).trans rfl; have y1 := (blk_cell X1.out 1).trans rfl; have y2 := (blk_cell X1.out 2).trans rfl
  go_wp2_with ((with_reducible refine gate_dst (N := 12) rfl ?_); refine goesL_ (some 12) rfl rfl Try.func27 (by kernel_rfl) rfl #[.agg #[.int .i64 p.f0, .bool p.f1, .slice A p.f2.length c], .agg #[.int .i64 d.f0, .bool false, .slice A2 d.f2.length c2], .bool dir] rfl (by (try simp only [List.map_toArray, List.map_cons, List.map_nil]); first | done | rfl) ?_; have hq := Renew_calls p.f0 d.f0 p.f1 false A A2 c c2 p.f2 d.f2 dir _ (Kd.C_below HR.out HB1.out) HC.out (Kd.C_below HR2.out HB1.out) HC2.out; rw [HS.out] at hq; refine hq.mono ?_; rintro e w2 ⟨v, rfl, hra, hb⟩; refine ⟨_, rfl, ?_⟩; replace hra : RA w2 _ v rl := hra; dsimp only; obtain ⟨A3, c3, rfl⟩ := Kd.R_slice hra; have HO := Aside0.mk (Kd.R_lower hra HB1.out.size); have HB2 := Aside0.mk (below_step HB1.out hb); have Y2 := Aside0.mk (blk_below X2.out hb); clear hra hb hq x0 x1 x2 y0 y1 y2; have z0 := (blk_cell Y2.out 0).trans rfl; have z1 := (blk_cell Y2.out 1).trans rfl; have z2 := (blk_cell Y2.out 2).trans rfl; have fz0 := blk_frozen Y2.out 0; have fz1 := blk_frozen Y2.out 1; have fz2 := blk_frozen Y2.out 2)
  exact desc_end (r := (⟨ro, rb, rl⟩, re)) rfl rfl rfl Y2.out rfl (by omega) HO.out HB2.out
theorem ordered_end {ts : Array Value} {a : Bool} {b : Int} {W : World} (h1 : ts.getD 2 undef = .bool a) (h2 : ts.getD 3 undef = .int .i64 b) : (results Try.f45 ts).run Try.prog W = .ok (.tuple #[.bool a, .int .i64 b]) W := by
  have := results_list (P := Try.prog) (w := W) (tmps := ts) (fn := Try.f45) (rs := [.tmp 2, .tmp 3]) rfl (by simp) (.tmp (.tmp .nil))
  rw [h1, h2] at this
  exact this
set_option maxRecDepth 100000 in
set_option maxHeartbeats 2000000 in
theorem Ordered_calls (d : S33) (A2 : Option Addr) (c2 : Nat) (w : World) (hr2 : k37.C w A2 d.f2.length d.f2) (hc2 : d.f2.length ≤ c2) :
    Calls Try.prog 45 #[.agg #[.int .i64 d.f0, .bool d.f1, .slice A2 d.f2.length c2]] w fun e w' => e = .returned (.tuple #[.bool (sOrdered d).1, .int .i64 (sOrdered d).2]) ∧ Below w.heap.size w w' := by
  have HR2 := Aside0.mk hr2
  have HC2 := Aside0.mk hc2
  clear hr2 hc2
  cases hv : vDesc d.f0 d.f2 with
  | false =>
    have HV := Aside0.mk hv
    have HS := Aside0.mk (show sOrdered d = (false, 1) by unfold sOrdered; rw [if_neg (by unfold vD; rw [hv]; simp)])
    clear hv
    go_enter Try.func45, Try.ntmps45
    go_upto_region 1 with (fail)
    have hb_ := below_alloc (Below.refl _ w) (.cells #[.int .i64 d.f0, .bool d.f1, .slice A2 d.f2.length c2] 33)
    have hG0_ := blk_lit0 w (.cells #[.int .i64 d.f0, .bool d.f1, .slice A2 d.f2.length c2] 33)
    generalize (w.alloc (.cells #[.int .i64 d.f0, .bool d.f1, .slice A2 d.f2.length c2] 33)) = W at hb_ hG0_ ⊢
    have HB_W := Aside0.mk hb_
    have W0 := Aside0.mk hG0_
    clear hb_ hG0_
    have y0 := (blk_cell W0.out 0).trans rfl; have y1 := (blk_cell W0.out 1).trans rfl; have y2 := (blk_cell W0.out 2).trans rfl
    go_wp2_with ((with_reducible refine gate_dst (N := 6) rfl ?_); refine goesL_ (some 6) rfl rfl Try.func58 (by kernel_rfl) rfl #[.slice (some ⟨W.heap.size, 0, none⟩) 1 1] rfl (by (try simp only [List.map_toArray, List.map_cons, List.map_nil]); first | done | rfl) ?_; refine (valid_one _ d.f0 d.f1 A2 c2 d.f2 _ (blk_new _ _) (Kd.C_alloc (Kd.C_below HR2.out HB_W.out) _) HC2.out).mono ?_; rintro e w1 ⟨rfl, hb⟩; refine ⟨_, rfl, ?_⟩; rw [HV.out]; have HB1 := Aside0.mk (below_step (below_alloc HB_W.out _) hb); clear hb y0 y1 y2)
    rw [HS.out]
    refine bodyPost_ret (ordered_end (by rfl) (by rfl)) rfl ⟨rfl, HB1.out⟩
  | true =>
    have HV := Aside0.mk hv
    have HS := Aside0.mk (show sOrdered d = (decide (ordL d.f2 = d.f2), 0) by unfold sOrdered; rw [if_pos (show vD d = true from hv)])
    clear hv
    go_enter Try.func45, Try.ntmps45
    go_upto_region 1 with (fail)
    have hb_ := below_alloc (Below.refl _ w) (.cells #[.int .i64 d.f0, .bool d.f1, .slice A2 d.f2.length c2] 33)
    have hG0_ := blk_lit0 w (.cells #[.int .i64 d.f0, .bool d.f1, .slice A2 d.f2.length c2] 33)
    generalize (w.alloc (.cells #[.int .i64 d.f0, .bool d.f1, .slice A2 d.f2.length c2] 33)) = W at hb_ hG0_ ⊢
    have HB_W := Aside0.mk hb_
    have W0 := Aside0.mk hG0_
    clear hb_ hG0_
    have y0 := (blk_cell W0.out 0).trans rfl; have y1 := (blk_cell W0.out 1).trans rfl; have y2 := (blk_cell W0.out 2).trans rfl
    go_upto_region 3 with ((with_reducible refine gate_dst (N := 6) rfl ?_); refine goesL_ (some 6) rfl rfl Try.func58 (by kernel_rfl) rfl #[.slice (some ⟨W.heap.size, 0, none⟩) 1 1] rfl (by (try simp only [List.map_toArray, List.map_cons, List.map_nil]); first | done | rfl) ?_; refine (valid_one _ d.f0 d.f1 A2 c2 d.f2 _ (blk_new _ _) (Kd.C_alloc (Kd.C_below HR2.out HB_W.out) _) HC2.out).mono ?_; rintro e w1 ⟨rfl, hb⟩; refine ⟨_, rfl, ?_⟩; rw [HV.out]; have HB1 := Aside0.mk (below_step (below_alloc HB_W.out _) hb); have X1 := Aside0.mk (blk_below (blk_alloc W0.out _) hb); clear hb y0 y1 y2)
    have XD := Aside0.mk (blk_drew X1.out)
    have HBD := Aside0.mk (below_drew1 HB1.out)
    refine start_ (n := 8) (S := fun w' => w'.cell? ⟨w.heap.size, 2, none⟩ = some (.slice A2 d.f2.length c2)) (ds := []) #[false, false, false, false, false, false, false, false] (by kernel_rfl) rfl rfl (by exact (blk_cell (blk_drew X1.out) 2).trans rfl) (fun hHeld => ?_)
    clear X1 HB1
    generalize w1.drew = wd at XD HBD hHeld ⊢
    refine pure_ (i := 0) (N := some 8) (v := ?_) (a' := ?_) #[true, false, false, false, false, false, false, false] rfl rfl (by kernel_rfl) (fun _ _ _ h => h) (Or.inl ⟨by rfl, ?_⟩) ?_ ?_
    rotate_left
    · intro w'
      go_simp
      with_reducible rfl
    rotate_left
    · simp only [Act.put, List.setIfInBounds_toArray, List.set_cons_zero, List.set_cons_succ, i64_w, i32_w]
      rfl
    refine take_ (i := 1) (N := some 9) (v := ?_) (a' := ?_) #[true, true, false, false, false, false, false, false] rfl rfl (by kernel_rfl) (fun _ _ _ h => h) (Or.inl ⟨by rfl, ?_⟩) hHeld ?_ ?_
    rotate_left
    · rintro w' s0
      go_simp
      with_reducible rfl
    rotate_left
    · simp only [Act.put, List.setIfInBounds_toArray, List.set_cons_zero, List.set_cons_succ, i64_w, i32_w]
      rfl
    refine pure_ (i := 3) (N := some 11) (v := ?_) (a' := ?_) #[true, true, false, true, false, false, false, false] rfl rfl (by kernel_rfl) (fun _ _ _ h => h) (Or.inl ⟨by rfl, ?_⟩) ?_ ?_
    rotate_left
    · intro w'
      go_simp
      with_reducible rfl
    rotate_left
    · simp only [Act.put, List.setIfInBounds_toArray, List.set_cons_zero, List.set_cons_succ, i64_w, i32_w]
      rfl
    refine take_ (i := 4) (N := some 12) (v := ?_) (a' := ?_) #[true, true, false, true, true, false, false, false] rfl rfl (by kernel_rfl) (fun _ _ _ h => h) (Or.inl ⟨by rfl, ?_⟩) hHeld ?_ ?_
    rotate_left
    · rintro w' s0
      go_simp
      with_reducible rfl
    rotate_left
    · simp only [Act.put, List.setIfInBounds_toArray, List.set_cons_zero, List.set_cons_succ, i64_w, i32_w]
      rfl
    refine one_ (i := 2) (N := some 10) #[true, true, true, true, true, false, false, false] rfl rfl (by kernel_rfl) (by decide) (fun K hK => ?_)
    refine goes_ Try.func67 (by kernel_rfl) rfl #[.slice A2 d.f2.length c2] (by rfl) rfl rfl (by (try simp only [List.map_toArray, List.map_cons, List.map_nil]); first | done | rfl) ?_
    refine (ordered_calls A2 c2 d.f2 _ (Kd.C_below HR2.out HBD.out) (vDesc_len HV.out)).mono ?_
    rintro e w3 ⟨v, rfl, hra, hb⟩
    refine ⟨_, rfl, ?_⟩
    obtain ⟨A3, c3, rfl⟩ := Kd.R_slice hra
    have HB3 := Aside0.mk (below_step HBD.out hb)
    have X3 := Aside0.mk (blk_below XD.out hb)
    have HO3 := Aside0.mk (Kd.R_reads' hra).2
    clear hra hb
    refine hK.out _ _ ((blk_cell X3.out 2).trans rfl) (fun hHeld => ?_)
    clear hK K
    refine norm_ (a' := ?_) ?_ ?_
    rotate_left
    · show Act.put _ (some 10) _ = _
      simp only [Act.put, List.setIfInBounds_toArray, List.set_cons_zero, List.set_cons_succ, i64_w, i32_w]
      rfl
    refine one_ (i := 5) (N := some 13) #[true, true, true, true, true, true, false, false] rfl rfl (by kernel_rfl) (by decide) (fun K hK => ?_)
    refine goes_ Try.func68 (by kernel_rfl) rfl #[.slice A3 (ordL d.f2).length c3, .slice A2 d.f2.length c2] (by rfl) rfl rfl (by (try simp only [List.map_toArray, List.map_cons, List.map_nil]); first | done | rfl) ?_
    refine (equal_calls A3 c3 (ordL d.f2) A2 c2 d.f2 _ HO3.out.2 HO3.out.1 (Kd.C_below HR2.out HB3.out) HC2.out).mono ?_
    rintro e w4 ⟨rfl, hb⟩
    refine ⟨_, rfl, ?_⟩
    have HB4 := Aside0.mk (below_step HB3.out hb)
    have X4 := Aside0.mk (blk_below X3.out hb)
    clear hb
    refine hK.out _ _ ((blk_cell X4.out 2).trans rfl) (fun hHeld => ?_)
    clear hK K
    refine norm_ (a' := ?_) ?_ ?_
    rotate_left
    · show Act.put _ (some 13) _ = _
      simp only [Act.put, List.setIfInBounds_toArray, List.set_cons_zero, List.set_cons_succ, i64_w, i32_w]
      rfl
    refine pure_ (i := 6) (N := some 2) (v := ?_) (a' := ?_) #[true, true, true, true, true, true, true, false] rfl rfl (by kernel_rfl) (fun _ _ _ h => h) (Or.inl ⟨by rfl, ?_⟩) ?_ ?_
    rotate_left
    · intro w'
      go_simp
      with_reducible rfl
    rotate_left
    · simp only [Act.put, List.setIfInBounds_toArray, List.set_cons_zero, List.set_cons_succ, i64_w, i32_w]
      rfl
    refine pure_ (i := 7) (N := some 3) (v := ?_) (a' := ?_) #[true, true, true, true, true, true, true, true] rfl rfl (by kernel_rfl) (fun _ _ _ h => h) (Or.inl ⟨by rfl, ?_⟩) ?_ ?_
    rotate_left
    · intro w'
      go_simp
      with_reducible rfl
    rotate_left
    · simp only [Act.put, List.setIfInBounds_toArray, List.set_cons_zero, List.set_cons_succ, i64_w, i32_w]
      rfl
    refine done_ (by kernel_rfl) ?_
    clear hHeld
    go_wp2
    rw [HS.out]
    refine bodyPost_ret (ordered_end (by rfl) (by rfl)) rfl ⟨rfl, HB4.out⟩

end Go.Proofs.Ytgocgjfaiddejaa.M
