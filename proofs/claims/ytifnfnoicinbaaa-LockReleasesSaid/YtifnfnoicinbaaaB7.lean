/- A table in change: its four rows, and what a change of one leaves of the others. -/
import Derived.Test.YtifnfnoicinbaaaB6
namespace Go.Proofs.Ytifnfnoicinbaaa.M
open Go.RowKit Go.Proofs.YtifnfnoicinbaaaW.PrintWords Go.Proofs.YtifnfnoicinbaaaW.PrintLast Go.Proofs.YtifnfnoicinbaaaW.PrintMore
set_option linter.unusedVariables false
set_option linter.unusedSimpArgs false
set_option linter.unnecessarySimpa false

structure TabX (w : World) (base q : Nat) (vH vW vG vN : Value) (H Wt : List S24) (G N : List Int) : Prop where
  bq : w.heap[q]? = some (.cells #[vH, vW, vG, vN] 68 (0, 0))
  hq : base ≤ q
  rH : k24.R 24 w base (fun _ => True) vH H
  rW : k24.R 24 w base (fun _ => True) vW Wt
  rG : kI.R 3 w base (fun _ => True) vG G
  rN : kI.R 3 w base (fun _ => True) vN N
  dHW : ∀ k, vH.ownBlock = some k → some k ≠ vW.ownBlock
  dGN : ∀ k, vG.ownBlock = some k → some k ≠ vN.ownBlock
theorem TabO.x {w : World} {base q : Nat} {H Wt : List S24} {G N : List Int} (h : TabO w base q H Wt G N) : ∃ vH vW vG vN, TabX w base q vH vW vG vN H Wt G N := by
  obtain ⟨vH, vW, vG, vN, hq, hb, hH, hW, hG, hN⟩ := h.ex
  exact ⟨vH, vW, vG, vN, hq, hb, Kd.R_mono hH (fun _ _ => trivial), Kd.R_mono hW (fun _ _ => trivial), Kd.R_mono hG (fun _ _ => trivial), Kd.R_mono hN (fun _ _ => trivial), hH.1, hG.1⟩
theorem sym_ne {a b : Value} (h : ∀ k, a.ownBlock = some k → some k ≠ b.ownBlock) : ∀ k, b.ownBlock = some k → some k ≠ a.ownBlock := fun k hk e => h k e.symm hk.symm
theorem TabX.o {w : World} {base q : Nat} {vH vW vG vN : Value} {H Wt : List S24} {G N : List Int} (h : TabX w base q vH vW vG vN H Wt G N) : TabO w base q H Wt G N :=
  ⟨vH, vW, vG, vN, h.bq, h.hq, Kd.R_mono (Kd.R_tight rfl h.rH) (fun k hk => h.dHW k hk.symm), Kd.R_mono (Kd.R_tight rfl h.rW) (fun k hk => sym_ne h.dHW k hk.symm), Kd.R_mono (Kd.R_tight rfl h.rG) (fun k hk => h.dGN k hk.symm), Kd.R_mono (Kd.R_tight rfl h.rN) (fun k hk => sym_ne h.dGN k hk.symm)⟩
theorem TabX.below {w W : World} {base q : Nat} {vH vW vG vN : Value} {H Wt : List S24} {G N : List Int} (h : TabX w base q vH vW vG vN H Wt G N) (hb : Below w.heap.size w W) : TabX W base q vH vW vG vN H Wt G N :=
  ⟨blk_below h.bq hb, h.hq, Kd.R_below h.rH hb, Kd.R_below h.rW hb, Kd.R_below h.rG hb, Kd.R_below h.rN hb, h.dHW, h.dGN⟩
/-- What a change of a row leaves alone: blocks of other types, and of later numbers. -/
structure FarC (w w' : World) (q : Nat) : Prop where
  size : w.heap.size ≤ w'.heap.size
  keep : ∀ (b : Nat) (cs : Array Value) (t : TypeId), w.heap[b]? = some (.cells cs t (0, 0)) → t ≠ 24 → t ≠ 3 → b ≠ q → w'.heap[b]? = some (.cells cs t (0, 0))
theorem FarC.trans {A B C : World} {q : Nat} (h : FarC A B q) (k : FarC B C q) : FarC A C q := ⟨Nat.le_trans h.size k.size, fun b cs t hb h1 h2 h3 => k.keep b cs t (h.keep b cs t hb h1 h2 h3) h1 h2 h3⟩
theorem FarC.of_below {A B : World} {q : Nat} (h : Below A.heap.size A B) : FarC A B q := ⟨h.size, fun b cs t hb _ _ _ => blk_below hb h⟩
section
variable {w w1 : World} {base q : Nat} {vH vW vG vN v : Value} {H Wt xs : List S24} {G N is : List Int}
theorem size_set (w : World) (p : Addr) (v : Value) : (w.setCell p v).heap.size = w.heap.size := by
  show (w.heap.modify _ _).size = _
  rw [Array.size_modify]
theorem far_row {α : Type} {d : Kd α} {e : Nat} {u : Value} {ys : List α} {ok : Nat → Prop} (hr : d.R e w base ok u ys) (he : e = 24 ∨ e = 3) (hg : w.grownBy w1 u.ownBlock) (i : Nat) (v : Value) : FarC w (w1.setCell ⟨q, i, none⟩ v) q := by
  refine ⟨by rw [size_set]; exact hg.size, fun b cs t hb h1 h2 h3 => (Below.heap_setCell w1 _ v b h3).trans (blk_grown hb hg (Kd.R_ne hr hb (by rcases he with rfl | rfl; exact fun e => h1 e.symm; exact fun e => h2 e.symm)))⟩
theorem below_row {w0 : World} {α : Type} {d : Kd α} {e : Nat} {u : Value} {ys : List α} {ok : Nat → Prop} (hr : d.R e w base ok u ys) (hB : Below base w0 w) (hb : base ≤ w.heap.size) (hg : w.grownBy w1 u.ownBlock) (hq : base ≤ q) (i : Nat) (v : Value) : Below base w0 (w1.setCell ⟨q, i, none⟩ v) := by
  have h1 : Below base w0 w1 := pw_below_grown hB u.ownBlock hb hg (fun k hk => Kd.R_base hr k hk)
  exact pw_below_grown h1 (some q) (Nat.le_trans hb hg.size) (setCell_grown _ _ _ _) (fun k hk => by cases hk; exact hq)
theorem fresh_ne {u u' v : Value} {α : Type} {d : Kd α} {e : Nat} {ys : List α} {ok : Nat → Prop} (hr : d.R e w base ok u ys) (hd : ∀ k, u.ownBlock = some k → some k ≠ u'.ownBlock) (hat : v.ownBlock = u'.ownBlock ∨ ∃ b, v.ownBlock = some b ∧ w.heap.size ≤ b) : ∀ k, u.ownBlock = some k → some k ≠ v.ownBlock := by
  intro k hk e
  rcases hat with h | ⟨b, hb, hl⟩
  · exact hd k hk (e.trans h)
  · have := Kd.R_lt hr k hk
    rw [hb] at e
    injection e with e
    omega
theorem TabX.setW (h : TabX w base q vH vW vG vN H Wt G N) (hr : k24.R 24 w1 base (fun _ => True) v xs) (hg : w.grownBy w1 vW.ownBlock) (hat : v.ownBlock = vW.ownBlock ∨ ∃ b, v.ownBlock = some b ∧ w.heap.size ≤ b) : TabX (w1.setCell ⟨q, 1, none⟩ v) base q vH v vG vN H xs G N := by
  have hb1 := blk_grown h.bq hg (Kd.R_ne h.rW h.bq (by decide))
  refine ⟨blk_put hb1 1 v rfl, h.hq, Kd.R_set (Kd.R_grown2 h.rH rfl hg (fun k hk => sym_ne h.dHW k hk)) hb1 (by decide) 1 v, Kd.R_set hr hb1 (by decide) 1 v, Kd.R_set (Kd.R_over h.rG h.rW (by decide) hg) hb1 (by decide) 1 v, Kd.R_set (Kd.R_over h.rN h.rW (by decide) hg) hb1 (by decide) 1 v, fresh_ne h.rH h.dHW hat, h.dGN⟩
theorem TabX.setH (h : TabX w base q vH vW vG vN H Wt G N) (hr : k24.R 24 w1 base (fun _ => True) v xs) (hg : w.grownBy w1 vH.ownBlock) (hat : v.ownBlock = vH.ownBlock ∨ ∃ b, v.ownBlock = some b ∧ w.heap.size ≤ b) : TabX (w1.setCell ⟨q, 0, none⟩ v) base q v vW vG vN xs Wt G N := by
  have hb1 := blk_grown h.bq hg (Kd.R_ne h.rH h.bq (by decide))
  refine ⟨blk_put hb1 0 v rfl, h.hq, Kd.R_set hr hb1 (by decide) 0 v, Kd.R_set (Kd.R_grown2 h.rW rfl hg (fun k hk => h.dHW k hk)) hb1 (by decide) 0 v, Kd.R_set (Kd.R_over h.rG h.rH (by decide) hg) hb1 (by decide) 0 v, Kd.R_set (Kd.R_over h.rN h.rH (by decide) hg) hb1 (by decide) 0 v, sym_ne (fresh_ne h.rW (sym_ne h.dHW) hat), h.dGN⟩
theorem TabX.setG (h : TabX w base q vH vW vG vN H Wt G N) (hr : kI.R 3 w1 base (fun _ => True) v is) (hg : w.grownBy w1 vG.ownBlock) (hat : v.ownBlock = vG.ownBlock ∨ ∃ b, v.ownBlock = some b ∧ w.heap.size ≤ b) : TabX (w1.setCell ⟨q, 2, none⟩ v) base q vH vW v vN H Wt is N := by
  have hb1 := blk_grown h.bq hg (Kd.R_ne h.rG h.bq (by decide))
  refine ⟨blk_put hb1 2 v rfl, h.hq, Kd.R_set (Kd.R_over h.rH h.rG (by decide) hg) hb1 (by decide) 2 v, Kd.R_set (Kd.R_over h.rW h.rG (by decide) hg) hb1 (by decide) 2 v, Kd.R_set hr hb1 (by decide) 2 v, Kd.R_set (Kd.R_grown2 h.rN rfl hg (fun k hk => h.dGN k hk)) hb1 (by decide) 2 v, h.dHW, sym_ne (fresh_ne h.rN (sym_ne h.dGN) hat)⟩
theorem TabX.setN (h : TabX w base q vH vW vG vN H Wt G N) (hr : kI.R 3 w1 base (fun _ => True) v is) (hg : w.grownBy w1 vN.ownBlock) (hat : v.ownBlock = vN.ownBlock ∨ ∃ b, v.ownBlock = some b ∧ w.heap.size ≤ b) : TabX (w1.setCell ⟨q, 3, none⟩ v) base q vH vW vG v H Wt G is := by
  have hb1 := blk_grown h.bq hg (Kd.R_ne h.rN h.bq (by decide))
  refine ⟨blk_put hb1 3 v rfl, h.hq, Kd.R_set (Kd.R_over h.rH h.rN (by decide) hg) hb1 (by decide) 3 v, Kd.R_set (Kd.R_over h.rW h.rN (by decide) hg) hb1 (by decide) 3 v, Kd.R_set (Kd.R_grown2 h.rG rfl hg (fun k hk => sym_ne h.dGN k hk)) hb1 (by decide) 3 v, Kd.R_set hr hb1 (by decide) 3 v, h.dHW, fresh_ne h.rG h.dGN hat⟩
end

theorem TabX.aside {w : World} {base q : Nat} {vH vW vG vN : Value} {H Wt : List S24} {G N : List Int} (h : TabX w base q vH vW vG vN H Wt G N) {b t : Nat} {cs : Array Value} (hb : w.heap[b]? = some (.cells cs t (0, 0))) (h24 : ∀ q, q ∈ 24 :: k24.E → q ≠ t) (h3 : ∀ q, q ∈ 3 :: kI.E → q ≠ t) (h68 : 68 ≠ t) (i : Nat) (v : Value) : TabX (w.setCell ⟨b, i, none⟩ v) base q vH vW vG vN H Wt G N :=
  ⟨(Below.heap_setCell w _ v q (blk_ne h.bq hb h68)).trans h.bq, h.hq, Kd.R_set h.rH hb h24 i v, Kd.R_set h.rW hb h24 i v, Kd.R_set h.rG hb h3 i v, Kd.R_set h.rN hb h3 i v, h.dHW, h.dGN⟩

/-! What is handed back: rows of the call's own. -/
def TabV (w : World) (base : Nat) (v : Value) (H Wt : List S24) : Prop := ∃ vH vW, v = .agg #[vH, vW] ∧ k24.R 24 w base (fun _ => True) vH H ∧ k24.R 24 w base (fun _ => True) vW Wt
def NewsV (w : World) (base : Nat) (v : Value) (G N : List Int) : Prop := ∃ vG vN, v = .agg #[vG, vN] ∧ kI.R 3 w base (fun _ => True) vG G ∧ kI.R 3 w base (fun _ => True) vN N
theorem TabV.below {w W : World} {base : Nat} {v : Value} {H Wt : List S24} (h : TabV w base v H Wt) (hb : Below w.heap.size w W) : TabV W base v H Wt := by
  obtain ⟨vH, vW, e, h1, h2⟩ := h
  exact ⟨vH, vW, e, Kd.R_below h1 hb, Kd.R_below h2 hb⟩
theorem NewsV.below {w W : World} {base : Nat} {v : Value} {G N : List Int} (h : NewsV w base v G N) (hb : Below w.heap.size w W) : NewsV W base v G N := by
  obtain ⟨vH, vW, e, h1, h2⟩ := h
  exact ⟨vH, vW, e, Kd.R_below h1 hb, Kd.R_below h2 hb⟩
theorem TabV.lower {w : World} {base b0 : Nat} {v : Value} {H Wt : List S24} (h : TabV w base v H Wt) (hb : b0 ≤ base) : TabV w b0 v H Wt := by
  obtain ⟨vH, vW, e, h1, h2⟩ := h
  exact ⟨vH, vW, e, Kd.R_lower h1 hb, Kd.R_lower h2 hb⟩
theorem NewsV.lower {w : World} {base b0 : Nat} {v : Value} {G N : List Int} (h : NewsV w base v G N) (hb : b0 ≤ base) : NewsV w b0 v G N := by
  obtain ⟨vH, vW, e, h1, h2⟩ := h
  exact ⟨vH, vW, e, Kd.R_lower h1 hb, Kd.R_lower h2 hb⟩
theorem TabV.form {w : World} {base : Nat} {v : Value} {H Wt : List S24} (h : TabV w base v H Wt) : ∃ AH cH AW cW, v = .agg #[.slice AH H.length cH, .slice AW Wt.length cW] ∧ k24.C w AH H.length H ∧ k24.C w AW Wt.length Wt ∧ H.length ≤ cH ∧ Wt.length ≤ cW := by
  obtain ⟨vH, vW, rfl, h1, h2⟩ := h
  obtain ⟨A1, c1, rfl⟩ := Kd.R_slice h1
  obtain ⟨A2, c2, rfl⟩ := Kd.R_slice h2
  exact ⟨A1, c1, A2, c2, rfl, (Kd.R_reads' h1).2.2, (Kd.R_reads' h2).2.2, (Kd.R_reads' h1).2.1, (Kd.R_reads' h2).2.1⟩
theorem NewsV.form {w : World} {base : Nat} {v : Value} {G N : List Int} (h : NewsV w base v G N) : ∃ AH cH AW cW, v = .agg #[.slice AH G.length cH, .slice AW N.length cW] ∧ kI.C w AH G.length G ∧ kI.C w AW N.length N ∧ G.length ≤ cH ∧ N.length ≤ cW := by
  obtain ⟨vH, vW, rfl, h1, h2⟩ := h
  obtain ⟨A1, c1, rfl⟩ := Kd.R_slice h1
  obtain ⟨A2, c2, rfl⟩ := Kd.R_slice h2
  exact ⟨A1, c1, A2, c2, rfl, (Kd.R_reads' h1).2.2, (Kd.R_reads' h2).2.2, (Kd.R_reads' h1).2.1, (Kd.R_reads' h2).2.1⟩
theorem loadVar_two {P : Program} (ty : TypeId) {g t : Nat} {u v : Value} {W : World} (hi : (isAgg ty).run P W = .ok true W) (hs : (sizeOf ty).run P W = .ok 2 W) (hg : W.heap[g]? = some (.cells #[u, v] t (0, 0))) : (loadVar ty ⟨g, 0, none⟩).run P W = .ok (.agg #[u, v]) W := by
  have hc0 : W.cell? ⟨g, 0, none⟩ = some u := (blk_cell hg 0).trans rfl
  have hc1 : W.cell? ⟨g, 1, none⟩ = some v := (blk_cell hg 1).trans rfl
  unfold loadVar
  simp [hi, hs, loadCells, loadCellsFrom, hc0, hc1, Addr.add]
end Go.Proofs.Ytifnfnoicinbaaa.M
