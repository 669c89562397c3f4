/- A token that comes in, opened. -/
import Derived.Test.YtgocgjfaiddejaaH28
namespace Go.Proofs.Ytgocgjfaiddejaa.M
open Go.RowKit Go.Proofs.YtgocgjfaiddejaaW.PrintWords Go.Proofs.YtgocgjfaiddejaaW.PrintLast Go.Proofs.YtgocgjfaiddejaaW.PrintMore
set_option linter.unusedVariables false
set_option linter.unusedSimpArgs false
set_option linter.unnecessarySimpa false
section
open Go.ChangeShapes Go.WideShapes Go.Deep Go.Joins
variable {H : Type} {enc : TypeId × Value → H} {w : World} {base : Nat} {spare : Nat → Bool} {held : Bool}
theorem sz61 : Try.prog.cellsOf 61 = 1 := by kernel_rfl
theorem sz63 : Try.prog.cellsOf 63 = 3 := by kernel_rfl
theorem num_of (n : Nat) (cs : List Value) (x : DataW H × List MemPlace) (h : DataW.trod enc Try.prog w base spare held n 3 cs = some x) : ∃ y : Int, (Kd.int .i64).K w y cs := by
  obtain ⟨n1, rfl, _, _⟩ := DataW.trod_int Try.underlying3 h
  exact ⟨n1, rfl⟩
theorem nums_of {fuel : Nat} {cs : List Value} {x : DataW H × List MemPlace} (h : DataW.trod enc Try.prog w base spare held fuel 61 cs = some x) : ∃ A c, ∃ l : List Int, cs = [.slice A l.length c] ∧ l.length ≤ c ∧ Kd.C (Kd.int .i64) w A l.length l :=
  C_of_trod (k := Kd.int .i64) Try.underlying61 sz3 (fun n cs x h => num_of n cs x h) h
theorem tok_of (n : Nat) (cs : List Value) (x : DataW H × List MemPlace) (h : DataW.trod enc Try.prog w base spare held n 63 cs = some x) : ∃ (u pv : Int) (A : Option Addr) (c : Nat) (l : List Int), cs = [.int .i64 u, .slice A l.length c, .int .i64 pv] ∧ l.length ≤ c ∧ Kd.C (Kd.int .i64) w A l.length l := by
  obtain ⟨y0, y1, y2, m, rfl, hl, t0, t1, t2⟩ := trod_struct3 Try.underlying63 h
  obtain ⟨n0, e0, _, _⟩ := DataW.trod_int Try.underlying3 t0
  obtain ⟨A, c, l, e1, hc, hC⟩ := nums_of t1
  obtain ⟨n2, e2, _, _⟩ := DataW.trod_int Try.underlying3 t2
  rw [sz3] at e0 e2
  rw [sz61] at e1
  rw [sz63] at hl
  rw [parts3 hl e0 e1 e2]
  exact ⟨n0, n2, A, c, l, rfl, hc, hC⟩
end
end Go.Proofs.Ytgocgjfaiddejaa.M
