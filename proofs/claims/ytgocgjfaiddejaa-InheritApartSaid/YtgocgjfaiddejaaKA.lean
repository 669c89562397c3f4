/- Contracts of the program's functions, in the form in which the printed walks of the laws ask for them: sane, Child, Given. -/
import Derived.Test.YtgocgjfaiddejaaH28
import Derived.Test.YtgocgjfaiddejaaH12
namespace Go.Proofs.Ytgocgjfaiddejaa.M
open Go.RowKit Go.Proofs.YtgocgjfaiddejaaW.PrintWords Go.Proofs.YtgocgjfaiddejaaW.PrintLast Go.Proofs.YtgocgjfaiddejaaW.PrintMore
set_option linter.unusedVariables false
set_option linter.unusedSimpArgs false

def archivoltlaw23_sane.f : Option Bool := some true
theorem archivoltlaw23_sane.calls (r : Bool) (w : World) (h : archivoltlaw23_sane.f = some r) :
    Calls Try.prog 15 #[] w fun e w' => e = .returned (.bool r) ∧ Below w.heap.size w w' := by
  obtain rfl := Option.some.inj h
  exact sane_calls w
def inherit_Child.f (k : Nat) (o : Int) (b : Bool) (l : List S37) (dir : Bool) (owner : Int) : Option (Int × Bool × List S37 × Int) :=
  some ((sChild o l dir owner).1.f0, (sChild o l dir owner).1.f1, (sChild o l dir owner).1.f2, (sChild o l dir owner).2)
theorem inherit_Child.mono : ∀ a0 a1 a2 a3 a4 k, LeO (inherit_Child.f k a0 a1 a2 a3 a4) (inherit_Child.f (k + 1) a0 a1 a2 a3 a4) := fun _ _ _ _ _ _ => LeO.refl _
theorem inherit_Child.calls (k : Nat) (a0_0 : Int) (a0_1 : Bool) (A0_2 : Option Addr) (c0_2 : Nat) (l0_2 : List (S37)) (a1 : Bool) (a2 : Int) (r1 : Int) (r2 : Bool) (r3 : List (S37)) (r4 : Int) (w : World) (hr0_2 : Kd.C k37 w A0_2 l0_2.length l0_2) (hc0_2 : l0_2.length ≤ c0_2) (h : inherit_Child.f k a0_0 a0_1 l0_2 a1 a2 = some (r1, r2, r3, r4)) :
    Calls Try.prog 21 #[.agg #[.int .i64 a0_0, .bool a0_1, .slice A0_2 l0_2.length c0_2], .bool a1, .int .i64 a2] w fun e w' => ∃ v2_ : Value, e = .returned (.tuple #[.agg #[.int .i64 r1, .bool r2, v2_], .int .i64 r4]) ∧ Kd.R k37 37 w' w.heap.size (fun _ => True) v2_ r3 ∧ Below w.heap.size w w' := by
  unfold inherit_Child.f at h
  simp only [Option.some.injEq, Prod.mk.injEq] at h
  obtain ⟨rfl, rfl, rfl, rfl⟩ := h
  exact Child_calls a0_0 a0_1 A0_2 c0_2 l0_2 a1 a2 w hr0_2 hc0_2
def inherit_Given.f (k : Nat) (o : Int) (b : Bool) (l : List S37) (dir : Bool) : Option (List S37 × Int) := some (sGiven o l dir, errOf (vDesc o l))
theorem inherit_Given.mono : ∀ a0 a1 a2 a3 k, LeO (inherit_Given.f k a0 a1 a2 a3) (inherit_Given.f (k + 1) a0 a1 a2 a3) := fun _ _ _ _ _ => LeO.refl _
theorem inherit_Given.calls (k : Nat) (a0_0 : Int) (a0_1 : Bool) (A0_2 : Option Addr) (c0_2 : Nat) (l0_2 : List (S37)) (a1 : Bool) (r1 : List (S37)) (r2 : Int) (w : World) (hr0_2 : Kd.C k37 w A0_2 l0_2.length l0_2) (hc0_2 : l0_2.length ≤ c0_2) (h : inherit_Given.f k a0_0 a0_1 l0_2 a1 = some (r1, r2)) :
    Calls Try.prog 22 #[.agg #[.int .i64 a0_0, .bool a0_1, .slice A0_2 l0_2.length c0_2], .bool a1] w fun e w' => ∃ v0_ : Value, e = .returned (.tuple #[v0_, .int .i64 r2]) ∧ Kd.R k37 37 w' w.heap.size (fun _ => True) v0_ r1 ∧ Below w.heap.size w w' := by
  unfold inherit_Given.f at h
  simp only [Option.some.injEq, Prod.mk.injEq] at h
  obtain ⟨rfl, rfl⟩ := h
  exact Given_calls a0_0 a0_1 A0_2 c0_2 l0_2 a1 w hr0_2 hc0_2
end Go.Proofs.Ytgocgjfaiddejaa.M
