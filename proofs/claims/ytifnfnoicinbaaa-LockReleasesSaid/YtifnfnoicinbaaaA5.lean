/- Words of ranges: what the turn of a loop object leaves alone. -/
import Derived.Test.YtifnfnoicinbaaaAR
namespace Go.Proofs.Ytifnfnoicinbaaa.M
open Go.RowKit Go.Proofs.YtifnfnoicinbaaaW.PrintWords Go.Proofs.YtifnfnoicinbaaaW.PrintLast Go.Proofs.YtifnfnoicinbaaaW.PrintMore
set_option linter.unusedVariables false
set_option linter.unusedSimpArgs false
set_option linter.unnecessarySimpa false

theorem R_turn {α : Type} {d : Kd α} {e : Nat} {X Y : World} {base : Nat} {ok : Nat → Prop} {v : Value} {xs : List α} (h : d.R e X base ok v xs) {row : Option Nat} (hg : X.grownBy Y row) (hr : ∀ r, row = some r → ∃ o : Obj, X.heap[r]? = some o ∧ o.isCells = false) : d.R e Y base ok v xs :=
  Kd.R_mono (Kd.R_grown (Kd.R_bound h) hg (fun k hk he => by
    obtain ⟨_, _, _, q, _, cells, hc⟩ := hk
    obtain ⟨o, ho, hoc⟩ := hr k he.symm
    rw [hc] at ho; cases ho; cases hoc)) (fun _ hk => hk.1)
theorem blk_turn {X Y : World} {g : Nat} {cs : Array Value} {t : TypeId} (h : X.heap[g]? = some (.cells cs t (0, 0))) {row : Option Nat} (hg : X.grownBy Y row) (hr : ∀ r, row = some r → ∃ o : Obj, X.heap[r]? = some o ∧ o.isCells = false) : Y.heap[g]? = some (.cells cs t (0, 0)) :=
  blk_grown h hg (fun he => by obtain ⟨o, ho, hoc⟩ := hr g he.symm; rw [h] at ho; cases ho; cases hoc)
theorem below_turn {w X Y : World} {n : Nat} (h : Below n w X) {row : Option Nat} (hg : X.grownBy Y row) (hn : n ≤ X.heap.size) (hr : ∀ r, row = some r → n ≤ r) : Below n w Y := pw_below_grown h row hn hg hr
theorem keepsB {A B : World} (h : Below A.heap.size A B) : KeepsOthers A B := ⟨h.size, fun k o hk _ => (h.block k (Array.getElem?_eq_some_iff.1 hk).1).trans hk⟩
theorem results_cell1 {P : Program} {fn : Func} {p : Tmp} {t : TypeId} {tmps : Array Value} {W : World} {a : Addr} {v : Value} (h : fn.results = #[.cell p t]) (hp : tmps.getD p undef = .pointer (some a)) (hl : (loadVar t a).run P W = .ok v W) : (results fn tmps).run P W = .ok v W := by
  have hp' : tmps[p]?.getD undef = .pointer (some a) := by simpa using hp
  simp [results, h, hp', asAddr, hl]
section
variable {P : Program}
theorem loadVar_one (ty : TypeId) {g t : Nat} {v : Value} {W : World} {d : TypeDesc} (hu : P.underlying ty = some d) (hd : (match d with | .struct _ | .array _ _ => true | _ => false) = false) (hg : W.heap[g]? = some (.cells #[v] t (0, 0))) : (loadVar ty ⟨g, 0, none⟩).run P W = .ok v W := by
  have hc : W.cell? ⟨g, 0, none⟩ = some v := (blk_cell hg 0).trans rfl
  have hi : (isAgg ty).run P W = .ok false W := by
    unfold isAgg
    cases d <;> simp_all [underlying]
  unfold loadVar
  simp [hi, hc]
theorem results_cells {fn : Func} {p q : Tmp} {t u : TypeId} {tmps : Array Value} {W : World} {a b : Addr} {v v' : Value} (h : fn.results = #[.cell p t, .cell q u]) (hp : tmps.getD p undef = .pointer (some a)) (hq : tmps.getD q undef = .pointer (some b)) (hl : (loadVar t a).run P W = .ok v W) (hl' : (loadVar u b).run P W = .ok v' W) : (results fn tmps).run P W = .ok (.tuple #[v, v']) W := by
  have hp' : tmps[p]?.getD undef = .pointer (some a) := by simpa using hp
  have hq' : tmps[q]?.getD undef = .pointer (some b) := by simpa using hq
  simp [results, h, hp', hq', asAddr, hl, hl']
end
end Go.Proofs.Ytifnfnoicinbaaa.M
