/- A set of numbers as a map[int]bool that the call makes. -/
import Derived.Test.YtifnfnoicinbaaaAR
import Derived.Maps.OwnSet
import Derived.Maps.Views
namespace Go.Proofs.Ytifnfnoicinbaaa.M
open Go.RowKit Go.Proofs.YtifnfnoicinbaaaW.PrintWords Go.Proofs.YtifnfnoicinbaaaW.PrintLast Go.Proofs.YtifnfnoicinbaaaW.PrintMore
set_option linter.unusedVariables false
set_option linter.unusedSimpArgs false
set_option linter.unnecessarySimpa false

theorem keyed3 : Maps.Keyed Try.prog 3 := Maps.int_keyed Try.underlying3
theorem zero4 (w : World) : (zeroValue 4).run Try.prog w = .ok (.bool false) w := by kernel_rfl
def MapB (w : World) (b : Nat) (M : List Int) : Prop :=
  ∃ D : DataW Unit, w.ownsMap Try.prog 3 (plainElem Try.prog 4) b M.length D ∧ ∀ h : Int, (Lit.int .i64 h).wf = true → D.atKey (.int .i64 h) (.lit (.bool false)) = .lit (.bool (decide (h ∈ M)))
theorem plainElem_bool_inv' {H : Type} {P : Program} {e : TypeId} (he : P.underlying e = some .bool) {v : Value} {z : DataW H × List MemPlace} (h : plainElem P e v = some z) : ∃ b, v = .bool b ∧ z = (.lit (.bool b), []) := by
  unfold plainElem at h
  rw [he] at h
  cases v <;> simp at h
  exact ⟨_, rfl, h.symm⟩
theorem plainElem_bool_inv {v : Value} {z : DataW Unit × List MemPlace} (h : plainElem Try.prog 4 v = some z) : ∃ b, v = .bool b ∧ z = (.lit (.bool b), []) := plainElem_bool_inv' Try.underlying4 h
theorem MapB.made (w : World) : MapB (w.alloc (.map #[] 0)) w.heap.size [] :=
  ⟨.map [], World.ownsMap_made _ _ _ _, fun h _ => by simp [DataW.atKey]⟩
theorem MapB.look {w : World} {b : Nat} {M : List Int} (hm : MapB w b M) {h : Int} (hw : (Lit.int .i64 h).wf = true) : (Instr.lookup 97 (.map (some b)) (.int .i64 h) false).run Try.prog w = .ok (.bool (decide (h ∈ M))) w := by
  obtain ⟨D, hD, hat⟩ := hm
  obtain ⟨v, ps, hrun, hv⟩ := hD.lookup keyed3 Try.underlying97 (zero4 w) (plainElem_bool Try.underlying4 false) (Maps.keyOf_int_mk Try.underlying3 hw)
  obtain ⟨c, rfl, hc⟩ := plainElem_bool_inv hv
  rw [hat h hw] at hc
  simp only [Prod.mk.injEq, DataW.lit.injEq, Lit.bool.injEq] at hc
  rw [hrun, ← hc.1]
theorem MapB.put {w : World} {b : Nat} {M : List Int} (hm : MapB w b M) (hl : M.length < maxLen) {h : Int} (hw : (Lit.int .i64 h).wf = true) :
    ∃ w', (Instr.mapUpdate 97 (.map (some b)) (.int .i64 h) (.bool true)).run Try.prog w = .ok () w' ∧ MapB w' b (h :: M) ∧ w.grownBy w' (some b) := by
  obtain ⟨D, hD, hat⟩ := hm
  obtain ⟨w', hrun, ho, hg⟩ := hD.update keyed3 Try.underlying97 hl (Maps.keyOf_int_mk Try.underlying3 hw) (plainElem_bool Try.underlying4 true)
  refine ⟨w', hrun, ⟨_, ho, fun k hk => ?_⟩, hg⟩
  have hkl : WideAt.IsKeyLit (.int .i64 h) := by first | exact trivial | simp [WideAt.IsKeyLit]
  by_cases e : k = h
  · subst e
    rw [Maps.atKey_put_same hD.isMap hkl]
    simp
  · rw [Maps.atKey_put_other (by simpa using e), hat k hk]
    simp [e]
theorem MapB.kept {w w' : World} {b : Nat} {M : List Int} {row : Option Nat} (h : MapB w b M) (hg : w.grownBy w' row) (hne : some b ≠ row) : MapB w' b M := by
  obtain ⟨D, hD, hat⟩ := h
  exact ⟨D, hD.kept hg hne, hat⟩
theorem MapB.lt {w : World} {b : Nat} {M : List Int} (h : MapB w b M) : b < w.heap.size := by
  obtain ⟨D, hD, _⟩ := h
  exact hD.lt
theorem MapB.below {w w' : World} {b : Nat} {M : List Int} (h : MapB w b M) (hb : Below w.heap.size w w') : MapB w' b M := h.kept (grown_of_below hb none) (by simp)
theorem MapB.isMap {w : World} {b : Nat} {M : List Int} (h : MapB w b M) : ∃ o, w.heap[b]? = some o ∧ o.isCells = false := by
  obtain ⟨D, ⟨es, clock, hb, _⟩, _⟩ := h
  exact ⟨_, hb, rfl⟩
end Go.Proofs.Ytifnfnoicinbaaa.M
