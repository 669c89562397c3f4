/- slices.Delete of one lock, of a row of the call's own. -/
import Derived.Test.YtifnfnoicinbaaaA2
import Derived.Lib.SliceRun
namespace Go.Proofs.Ytifnfnoicinbaaa.M
open Go.RowKit Go.Proofs.YtifnfnoicinbaaaW.PrintWords Go.Proofs.YtifnfnoicinbaaaW.PrintLast Go.Proofs.YtifnfnoicinbaaaW.PrintMore
set_option linter.unusedVariables false
set_option linter.unusedSimpArgs false
set_option linter.unnecessarySimpa false

/-- A store behind the row's end. -/
theorem R_spare {W : World} {base : Nat} {ok : Nat → Prop} {g m c off : Nat} {xs : List S24} (v : Value) (h : k24.R 24 W base ok (.slice (some ⟨g, 0, none⟩) m c) xs) (ho : m * 5 ≤ off) :
    k24.R 24 (W.setCell ⟨g, off, none⟩ v) base ok (.slice (some ⟨g, 0, none⟩) m c) xs := by
  obtain ⟨h0, inner, ⟨h1, h2⟩, hr⟩ := h
  refine ⟨h0, inner, ⟨h1, ?_⟩, ?_⟩
  · rcases h2 with ⟨hv, _⟩ | ⟨g', cap, cur, hv, hb, hh, hn, hcm, hcs, htake⟩
    · cases hv
    · injection hv with ha hm hc
      injection ha with ha
      injection ha with hg
      subst hg; subst hc
      have hmx : xs.length = m := hm.symm
      refine .inr ⟨g, c, cur.setIfInBounds off v, by rw [hm], hb, blk_set hh off v, hn, hcm, by simpa using hcs, ?_⟩
      rw [Array.toList_setIfInBounds, List.take_set_of_le (by rw [hmx]; exact ho)]
      exact htake
  · exact ⟨hr.1, fun j p hp => k24.M_move (fun k hk => Below.heap_setCell W _ v k (fun e => hk.2 (by rw [e]; rfl))) (hr.2 j p hp)⟩
/-- One lock's cells are cleared. -/
theorem clear_one {W : World} (ty : TypeId) {g o c : Nat} (hc : ∀ j, j < 5 → (W.cell? ⟨g, o + j, none⟩).isSome = true) (hf : ∀ j, j < 5 → W.frozen? ⟨g, o + j, none⟩ = false) :
    (Builtin.clear_ #[27] ty #[.slice (some ⟨g, o, none⟩) 1 c]).run Try.prog W = .ok (.tuple #[]) (W.setCells g o [.int .i64 0, .int .i64 0, .int .i64 0, .int .i64 0, .bool false]) := by
  have hz : ∀ w, (zeroValue 24).run Try.prog w = .ok (.agg #[.int .i64 0, .int .i64 0, .int .i64 0, .int .i64 0, .bool false]) w := fun w => by kernel_rfl
  have hst := run_storeCells_cells (P := Try.prog) g o [.int .i64 0, .int .i64 0, .int .i64 0, .int .i64 0, .bool false] 0 W (by simpa using hc) (by simpa using hf) (by simp [Value.oneCell'])
  simp only [Nat.add_zero] at hst
  have hzc : (Builtin.zeroCells (Value.agg #[.int .i64 0, .int .i64 0, .int .i64 0, .int .i64 0, .bool false]).cells 1).toList = [.int .i64 0, .int .i64 0, .int .i64 0, .int .i64 0, .bool false] := by first | kernel_rfl | decide
  simp [Builtin.clear_, run_underlying Try.underlying27, hz, hzc, hst]
theorem R_cells {W : World} {base : Nat} {ok : Nat → Prop} {g m c : Nat} {xs : List S24} (h : k24.R 24 W base ok (.slice (some ⟨g, 0, none⟩) m c) xs) {off : Nat} (ho : off < c * 5) : (W.cell? ⟨g, off, none⟩).isSome = true ∧ W.frozen? ⟨g, off, none⟩ = false := by
  obtain ⟨h0, inner, ⟨h1, h2⟩, hr⟩ := h
  rcases h2 with ⟨hv, _⟩ | ⟨g', cap, cur, hv, hb, hh, hn, hcm, hcs, htake⟩
  · cases hv
  · injection hv with ha hm hc
    injection ha with ha
    injection ha with hg
    subst hg; subst hc
    refine ⟨?_, blk_frozen hh off⟩
    rw [blk_cell hh, Array.getElem?_eq_getElem (by rw [hcs]; exact ho)]
    rfl
set_option maxRecDepth 100000 in
set_option maxHeartbeats 2000000 in
theorem delete_calls (base : Nat) (ok : Nat → Prop) (v : Value) (xs : List S24) (i : Nat) (w : World) (hR : k24.R 24 w base ok v xs) (hi : i < xs.length) (hb : base ≤ w.heap.size) :
    Calls Try.prog 70 #[v, .int .i64 i, .int .i64 ((i : Int) + 1)] w fun e w' => ∃ A c, e = .returned (.slice A (xs.eraseIdx i).length c) ∧ k24.R 24 w' base ok (.slice A (xs.eraseIdx i).length c) (xs.eraseIdx i) ∧ (Value.slice A (xs.eraseIdx i).length c).ownBlock = v.ownBlock ∧ w.grownBy w' v.ownBlock := by
  obtain ⟨g, c, rfl, hg, hnc⟩ := Kd.R_form hR (by omega)
  have HR := Aside0.mk hR
  have HBB := Aside0.mk hb
  have hm := Kd.R_bound hR
  have HLM := Aside0.mk (show xs.length ≤ 9223372036854775807 from (Kd.R_reads' hR).2.2.2.1)
  clear hR hb hm
  have h1 : ((i : Int) == (i : Int) + 1) = false := by simp; omega
  have h2 := HLM.out
  have h3 : i + 1 ≤ xs.length := by omega
  have h4 : xs.length ≤ c := (Kd.R_reads' HR.out).2.1
  go_enter Try.func70, Try.ntmps70
  go_wp2
  have h5 : i ≤ c := by omega
  have h6 : (i : Int) + 1 ≤ (xs.length : Int) := by omega
  have h7 : (0 : Int) ≤ (i : Int) + 1 := by omega
  refine start_ (n := 8) (S := fun w' => True) (ds := [0]) #[false, false, false, false, false, false, false, false] (by kernel_rfl) rfl rfl trivial (fun hHeld => ?_)
  have HRD := Aside0.mk (Kd.R_drew HR.out)
  have HBD := Aside0.mk (below_drew1 (Below.refl w.heap.size w))
  generalize w.drew = wd at HRD HBD hHeld ⊢
  refine pure_ (i := 0) (N := some 20) (v := ?_) (a' := ?_) #[true, false, false, false, false, false, false, false] rfl rfl (by kernel_rfl) (fun _ _ _ h => h) (Or.inl ⟨by rfl, ?_⟩) ?_ ?_
  rotate_left
  · intro w'
    go_simp
    with_reducible rfl
  rotate_left
  · simp only [Act.put, List.setIfInBounds_toArray, List.set_cons_zero, List.set_cons_succ, i64_w, i32_w]
    rfl
  refine pure_ (i := 1) (N := some 21) (v := ?_) (a' := ?_) #[true, true, false, false, false, false, false, false] rfl rfl (by kernel_rfl) (fun _ _ _ h => h) (Or.inl ⟨by rfl, ?_⟩) ?_ ?_
  rotate_left
  · intro w'
    go_simp
    with_reducible rfl
  rotate_left
  · simp only [Act.put, List.setIfInBounds_toArray, List.set_cons_zero, List.set_cons_succ, i64_w, i32_w]
    rfl
  refine pure_ (i := 3) (N := some 23) (v := ?_) (a' := ?_) #[true, true, false, true, false, false, false, false] rfl rfl (by kernel_rfl) (fun _ _ _ h => h) (Or.inl ⟨by rfl, ?_⟩) ?_ ?_
  rotate_left
  · intro w'
    go_simp
    with_reducible rfl
  rotate_left
  · simp only [Act.put, List.setIfInBounds_toArray, List.set_cons_zero, List.set_cons_succ, i64_w, i32_w]
    rfl
  refine pure_ (i := 4) (N := some 24) (v := ?_) (a' := ?_) #[true, true, false, true, true, false, false, false] rfl rfl (by kernel_rfl) (fun _ _ _ h => h) (Or.inl ⟨by rfl, ?_⟩) ?_ ?_
  rotate_left
  · intro w'
    go_simp
    with_reducible rfl
  rotate_left
  · simp only [Act.put, List.setIfInBounds_toArray, List.set_cons_zero, List.set_cons_succ, i64_w, i32_w]
    rfl
  refine pure_ (i := 2) (N := some 22) (v := ?_) (a' := ?_) #[true, true, true, true, true, false, false, false] rfl rfl (by kernel_rfl) (fun _ _ _ h => h) (Or.inl ⟨by rfl, ?_⟩) ?_ ?_
  rotate_left
  · intro w'
    go_simp
    with_reducible rfl
  rotate_left
  · simp only [Act.put, List.setIfInBounds_toArray, List.set_cons_zero, List.set_cons_succ, i64_w, i32_w]
    rfl
  refine pure_ (i := 5) (N := some 25) (v := ?_) (a' := ?_) #[true, true, true, true, true, true, false, false] rfl rfl (by kernel_rfl) (fun _ _ _ h => h) (Or.inl ⟨by rfl, ?_⟩) ?_ ?_
  rotate_left
  · intro w'
    go_simp
    with_reducible rfl
  rotate_left
  · simp only [Act.put, List.setIfInBounds_toArray, List.set_cons_zero, List.set_cons_succ, i64_w, i32_w]
    rfl
  have hbs := HBB.out
  have HBD2 := Aside0.mk (HBD.out.mono hbs)
  refine one_ (i := 6) (N := some 26) #[true, true, true, true, true, true, true, false] rfl rfl (by kernel_rfl) (by decide) (fun K hK => ?_)
  refine Kd.R_delete_step k24 (w0 := w) base (by rfl) (.tmp 22) (.tmp 25) 27 24 rfl Try.underlying27 (by kernel_rfl) rfl rfl ?hA rfl HRD.out hi HBD2.out (Nat.le_trans hbs HBD.out.size) ?_
  case hA =>
    split
    · rfl
    · simp [Addr.add, show k24.sz = 5 from rfl]
  intro w1 ho hb hg
  have HO := Aside0.mk ho
  have HB1 := Aside0.mk hb
  have HG1 := Aside0.mk hg
  clear ho hb hg
  refine hK.out _ _ trivial (fun hHeld => ?_)
  clear hK K
  refine norm_ (a' := ?_) ?_ ?_
  rotate_left
  · show Act.put _ (some 26) _ = _
    simp only [Act.put, List.setIfInBounds_toArray, List.set_cons_zero, List.set_cons_succ, i64_w, i32_w]
    rfl
  refine pure_ (i := 7) (N := some 0) (v := ?_) (a' := ?_) #[true, true, true, true, true, true, true, true] rfl rfl (by kernel_rfl) (fun _ _ _ h => h) (Or.inl ⟨by rfl, ?_⟩) ?_ ?_
  rotate_left
  · intro w'
    go_simp
    with_reducible rfl
  rotate_left
  · simp only [Act.put, List.setIfInBounds_toArray, List.set_cons_zero, List.set_cons_succ, i64_w, i32_w]
    rfl
  refine done_ (by kernel_rfl) ?_
  clear h1 h2 h3 h5 h6 h7
  generalize (if c = i + 1 then some (⟨g, 0, none⟩ : Addr) else some ⟨g, (i + 1) * 5, none⟩) = A9
  obtain ⟨m, hxm⟩ : ∃ m, xs.length = m + 1 := ⟨xs.length - 1, by omega⟩
  have hlm := HLM.out
  simp only [hxm, Nat.add_sub_cancel] at HO h4 hlm ⊢
  have hcl := fun ty => clear_one (W := w1) ty (g := g) (o := m * 5) (c := c - m) (fun j hj => (R_cells HO.out (by omega)).1) (fun j hj => (R_cells HO.out (by omega)).2)
  have h1 : m ≤ c := by omega
  have h2 : ¬ c = m := by omega
  have h3 : (m : Int) ≤ (m : Int) + 1 := by omega
  have h5 : m + 1 ≤ c := by omega
  go_wp2
  go_ret
  have hel : (xs.eraseIdx i).length = m := by rw [List.length_eraseIdx, if_pos hi]; omega
  rw [hel]
  have HS : k24.R 24 (w1.setCells g (m * 5) [.int .i64 0, .int .i64 0, .int .i64 0, .int .i64 0, .bool false]) base ok (.slice (some ⟨g, 0, none⟩) m c) (xs.eraseIdx i) := R_spare (.bool false) (R_spare (.int .i64 0) (R_spare (.int .i64 0) (R_spare (.int .i64 0) (R_spare (.int .i64 0) HO.out (Nat.le_refl _)) (Nat.le_succ _)) (by omega : m * 5 ≤ m * 5 + 1 + 1)) (by omega : m * 5 ≤ m * 5 + 1 + 1 + 1)) (by omega : m * 5 ≤ m * 5 + 1 + 1 + 1 + 1)
  refine ⟨_, _, rfl, HS, rfl, ?_⟩
  have g1 := World.grownBy.trans (grown_of_below HBD.out (some g)) HG1.out
  exact World.grownBy.trans (World.grownBy.trans (World.grownBy.trans (World.grownBy.trans (World.grownBy.trans g1 (setCell_grown _ _ _ _)) (setCell_grown _ _ _ _)) (setCell_grown _ _ _ _)) (setCell_grown _ _ _ _)) (setCell_grown _ _ _ _)
end Go.Proofs.Ytifnfnoicinbaaa.M
