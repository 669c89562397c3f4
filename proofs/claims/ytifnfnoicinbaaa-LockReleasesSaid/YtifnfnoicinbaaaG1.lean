/- How the arguments of the statements are read: locks, acts, tables, numbers. -/
import Derived.Test.YtifnfnoicinbaaaA2
import Derived.Deep.Slices
import Derived.Deep.Strs
import Derived.Lib.SmallJoins
import Derived.OpenShut
namespace Go.Proofs.Ytifnfnoicinbaaa.M
open Go.RowKit Go.Proofs.YtifnfnoicinbaaaW.PrintWords Go.Proofs.YtifnfnoicinbaaaW.PrintLast Go.Proofs.YtifnfnoicinbaaaW.PrintMore
set_option linter.unusedVariables false
set_option linter.unusedSimpArgs false
set_option linter.unnecessarySimpa false
section
open Go.ChangeShapes Go.WideShapes Go.Deep Go.Joins
variable {H : Type} {enc : TypeId × Value → H} {P : Program} {w : World} {base : Nat} {spare : Nat → Bool} {held : Bool}
theorem C_of_trodP {α : Type} [Inhabited α] {k : Kd α} {p : α → Prop} {e t : TypeId} (ht : P.underlying t = some (.slice e)) (hsz : P.cellsOf e = k.sz) (hel : ∀ n cs x, DataW.trod enc P w base spare held n e cs = some x → ∃ y, k.K w y cs ∧ p y) {fuel : Nat} {cs : List Value} {x : DataW H × List MemPlace}
    (h : DataW.trod enc P w base spare held fuel t cs = some x) : ∃ A c, ∃ l : List α, cs = [.slice A l.length c] ∧ l.length ≤ c ∧ k.C w A l.length l ∧ ∀ y ∈ l, p y := by
  rcases open_slice ht h with ⟨rfl, _⟩ | ⟨a, len, cap, m, n, D, Pl, rfl, _, hl, hm, hme, _, hi⟩
  · exact ⟨none, 0, [], rfl, Nat.le_refl _, Kd.C_nil _ _, by simp⟩
  · have hlm : len ≤ m := by rw [hme]; split <;> omega
    have h1 : ∀ i, i < len → ∃ y : α, ∃ cs', w.cells? base (a.add (i * P.cellsOf e)) (P.cellsOf e) = some cs' ∧ k.K w y cs' ∧ p y := fun i hil => by
      obtain ⟨cs', hc, ht'⟩ := hi i (by omega)
      obtain ⟨y, hy⟩ := hel _ _ _ ht'
      exact ⟨y, cs', hc, hy⟩
    obtain ⟨Y, hY⟩ := choose_lt h1
    have hlen : ((List.range len).map Y).length = len := by simp
    refine ⟨some a, cap, (List.range len).map Y, by rw [hlen], by rw [hlen]; exact hl, ⟨rfl, by rw [hlen]; exact Nat.le_trans hl (Nat.le_trans hm (by decide)), fun _ => ⟨a, rfl, fun j q hj => ?_⟩⟩, fun y hy => ?_⟩
    · have hjl : j < len := by
        rcases Nat.lt_or_ge j len with h | h
        · exact h
        · rw [List.getElem?_eq_none (by simp; omega)] at hj; cases hj
      obtain ⟨cs', hc, hK, _⟩ := hY j hjl
      have hp : q = Y j := by simp [hjl] at hj; exact hj.symm
      subst hp
      refine ⟨cs', k.K_len hK, hK, fun i u hu => ?_⟩
      obtain ⟨_, h2, h3⟩ := World.cells?_some hc
      have hil : i < cs'.length := by
        rcases Nat.lt_or_ge i cs'.length with h | h
        · exact h
        · rw [List.getElem?_eq_none h] at hu; cases hu
      have h4 := h3 i (by omega)
      rw [Go.Deep.add_add, hsz] at h4
      rw [h4, hu]
    · obtain ⟨j, hj, rfl⟩ := List.mem_map.1 hy
      obtain ⟨_, _, _, hp⟩ := hY j (List.mem_range.1 hj)
      exact hp
end
section
open Go.ChangeShapes Go.WideShapes Go.Deep Go.Joins
variable {H : Type} {enc : TypeId × Value → H} {w : World} {base : Nat} {spare : Nat → Bool} {held : Bool}
theorem trod_struct5 {P : Program} {t : TypeId} {f0 f1 f2 f3 f4 : Field} {fuel : Nat} {cs : List Value} {x : DataW H × List MemPlace} (ht : P.underlying t = some (.struct #[f0, f1, f2, f3, f4])) (h : DataW.trod enc P w base spare held fuel t cs = some x) :
    ∃ y0 y1 y2 y3 y4 n, cs.length = P.cellsOf t ∧ DataW.trod enc P w base spare held n f0.type ((cs.drop f0.offset).take (P.cellsOf f0.type)) = some y0 ∧
      DataW.trod enc P w base spare held n f1.type ((cs.drop f1.offset).take (P.cellsOf f1.type)) = some y1 ∧ DataW.trod enc P w base spare held n f2.type ((cs.drop f2.offset).take (P.cellsOf f2.type)) = some y2 ∧
      DataW.trod enc P w base spare held n f3.type ((cs.drop f3.offset).take (P.cellsOf f3.type)) = some y3 ∧ DataW.trod enc P w base spare held n f4.type ((cs.drop f4.offset).take (P.cellsOf f4.type)) = some y4 := by
  obtain ⟨xs, n, _, rfl, hl, hlen, hf⟩ := DataW.trod_struct ht h
  match xs, hlen with
  | [y0, y1, y2, y3, y4], _ => exact ⟨y0, y1, y2, y3, y4, n, hl, by simpa using hf 0 f0 rfl, by simpa using hf 1 f1 rfl, by simpa using hf 2 f2 rfl, by simpa using hf 3 f3 rfl, by simpa using hf 4 f4 rfl⟩
instance : Inhabited S37 := ⟨z37⟩
instance : Inhabited S24 := ⟨z24⟩
theorem parts5 {cs : List Value} {a b c d e : Value} (h : cs.length = 5) (h0 : (cs.drop 0).take 1 = [a]) (h1 : (cs.drop 1).take 1 = [b]) (h2 : (cs.drop 2).take 1 = [c]) (h3 : (cs.drop 3).take 1 = [d]) (h4 : (cs.drop 4).take 1 = [e]) : cs = [a, b, c, d, e] := by
  match cs, h with
  | [c0, c1, c2, c3, c4], _ => simp at h0 h1 h2 h3 h4; simp [h0, h1, h2, h3, h4]
theorem parts6 {cs : List Value} {a : Value} {r : List Value} (h : cs.length = 6) (h0 : (cs.drop 0).take 1 = [a]) (h1 : (cs.drop 1).take 5 = r) : cs = a :: r := by
  match cs, h with
  | [c0, c1, c2, c3, c4, c5], _ => simp at h0 h1; simp [h0, ← h1]
theorem sz3 : Try.prog.cellsOf 3 = 1 := by kernel_rfl
theorem sz4 : Try.prog.cellsOf 4 = 1 := by kernel_rfl
theorem sz5 : Try.prog.cellsOf 5 = 1 := by kernel_rfl
theorem sz24 : Try.prog.cellsOf 24 = 5 := by kernel_rfl
theorem sz37 : Try.prog.cellsOf 37 = 6 := by kernel_rfl
theorem lock_of (n : Nat) (cs : List Value) (x : DataW H × List MemPlace) (h : DataW.trod enc Try.prog w base spare held n 24 cs = some x) : ∃ y : S24, k24.K w y cs := by
  obtain ⟨y0, y1, y2, y3, y4, m, hl, t0, t1, t2, t3, t4⟩ := trod_struct5 Try.underlying24 h
  obtain ⟨n0, e0, _, _⟩ := DataW.trod_int Try.underlying3 t0
  obtain ⟨n1, e1, _, _⟩ := DataW.trod_int Try.underlying3 t1
  obtain ⟨n2, e2, _, _⟩ := DataW.trod_int Try.underlying3 t2
  obtain ⟨n3, e3, _, _⟩ := DataW.trod_int Try.underlying3 t3
  obtain ⟨b4, e4, _⟩ := DataW.trod_bool Try.underlying4 t4
  rw [sz4] at e4
  rw [sz3] at e0 e1 e2 e3
  rw [sz24] at hl
  rw [parts5 hl e0 e1 e2 e3 e4]
  exact ⟨⟨n0, n1, n2, n3, b4⟩, k24_mk _ _⟩
theorem act_of (n : Nat) (cs : List Value) (x : DataW H × List MemPlace) (h : DataW.trod enc Try.prog w base spare held n 37 cs = some x) : ∃ y : S37, k37.K w y cs ∧ (0 ≤ y.f0 ∧ y.f0 ≤ 255) := by
  obtain ⟨y0, y1, m, rfl, hl, t0, t1⟩ := trod_struct2 Try.underlying37 h
  obtain ⟨n0, e0, _, hw⟩ := DataW.trod_int Try.underlying5 t0
  obtain ⟨l, hk⟩ := lock_of _ _ _ t1
  have e1 := k24_open hk
  rw [sz5] at e0
  rw [sz24] at e1
  rw [sz37] at hl
  rw [parts6 hl e0 e1]
  exact ⟨⟨n0, l⟩, k37_mk _ _, by simp [Lit.wf, IntKind.min, IntKind.max, IntKind.signed, IntKind.bits] at hw; exact hw⟩
theorem acts_of {fuel : Nat} {cs : List Value} {x : DataW H × List MemPlace} (h : DataW.trod enc Try.prog w base spare held fuel 22 cs = some x) : ∃ A c, ∃ l : List S37, cs = [.slice A l.length c] ∧ l.length ≤ c ∧ k37.C w A l.length l ∧ ∀ y ∈ l, 0 ≤ y.f0 ∧ y.f0 ≤ 255 :=
  C_of_trodP Try.underlying22 sz37 (fun n cs x h => act_of n cs x h) h
end
theorem i64_range {n : Int} (h : (Lit.int .i64 n).wf = true) : -9223372036854775808 ≤ n ∧ n ≤ 9223372036854775807 := by
  simp [Lit.wf, IntKind.min, IntKind.max, IntKind.signed, IntKind.bits] at h
  omega
end Go.Proofs.Ytifnfnoicinbaaa.M
