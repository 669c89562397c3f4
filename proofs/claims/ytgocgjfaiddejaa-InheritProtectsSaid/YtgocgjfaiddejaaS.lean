/- What the functions of the program compute, as plain functions on lists. -/
import Derived.Test.YtgocgjfaiddejaaT
namespace Go.Proofs.Ytgocgjfaiddejaa.M
set_option linter.unusedVariables false

/-- An entry is valid. -/
def vAce (x : S37) : Bool := decide (1 ≤ x.f1) && decide (x.f1 ≤ 1048576) && decide (1 ≤ x.f2) && decide (x.f2 ≤ 1023) && decide (0 ≤ x.f3) && decide (x.f3 ≤ 31)
/-- A descriptor is valid. -/
def vDesc (o : Int) (l : List S37) : Bool := decide (3 ≤ o) && decide (o ≤ 1048576) && decide (l.length ≤ 16) && l.all vAce
def vD (d : S33) : Bool := vDesc d.f0 d.f2
def hasB (f b : Int) : Bool := (Go.bits .and .i64 f b) != 0
def hadB (x : S37) : Bool := hasB x.f3 16
def ownB (x : S37) : Bool := !(hasB x.f3 16)
/-- The flags with which an entry is inherited, if it is. -/
def giveF (f : Int) (dir : Bool) : Option Int :=
  if dir then
    if hasB f 2 && hasB f 8 then some 16
    else if hasB f 2 then some (Go.bits .or .i64 18 (Go.bits .and .i64 f 1))
    else if hasB f 1 && !(hasB f 8) then some 21
    else none
  else if hasB f 1 then some 16 else none
/-- What an object inherits, each with its place. -/
def inh (dir : Bool) : Nat → List S37 → List (Nat × S37)
  | _, [] => []
  | i, x :: l => match giveF x.f3 dir with
    | some f => (i, { x with f3 := f }) :: inh dir (i + 1) l
    | none => inh dir (i + 1) l
def given (l : List S37) (dir : Bool) : List S37 := (inh dir 0 l).map (·.2)

theorem inh_length (dir : Bool) (l : List S37) : ∀ i, (inh dir i l).length ≤ l.length := by
  induction l with
  | nil => intro i; exact Nat.le_refl _
  | cons x l ih =>
    intro i
    simp only [inh]
    split
    · simpa using ih (i + 1)
    · exact Nat.le_trans (ih (i + 1)) (by simp)
theorem given_length (l : List S37) (dir : Bool) : (given l dir).length ≤ l.length := by simpa [given] using inh_length dir l 0
theorem inh_snoc (dir : Bool) (l : List S37) (x : S37) : ∀ i, inh dir i (l ++ [x]) = inh dir i l ++ (match giveF x.f3 dir with | some f => [(i + l.length, { x with f3 := f })] | none => []) := by
  induction l with
  | nil => intro i; simp only [List.nil_append, inh, List.length_nil, Nat.add_zero]
  | cons y l ih =>
    intro i
    simp only [List.cons_append, inh, ih (i + 1), List.length_cons]
    rw [show i + 1 + l.length = i + (l.length + 1) by omega]
    split <;> rfl
theorem inh_append (dir : Bool) (a b : List S37) : ∀ i, inh dir i (a ++ b) = inh dir i a ++ inh dir (i + a.length) b := by
  induction a with
  | nil => intro i; simp [inh]
  | cons x a ih =>
    intro i
    simp only [List.cons_append, inh, ih (i + 1), List.length_cons]
    rw [show i + 1 + a.length = i + (a.length + 1) by omega]
    split <;> rfl
theorem inh_prefix (dir : Bool) (l : List S37) (j : Nat) : inh dir 0 (l.take j) <+: inh dir 0 l := by
  have := inh_append dir (l.take j) (l.drop j) 0
  rw [List.take_append_drop] at this
  exact ⟨_, this.symm⟩
theorem inh_step (dir : Bool) (l : List S37) (j : Nat) (h : j < l.length) : inh dir 0 (l.take (j + 1)) = inh dir 0 (l.take j) ++ (match giveF (rd_T37 l j).f3 dir with | some f => [(j, { rd_T37 l j with f3 := f })] | none => []) := by
  have e : rd_T37 l j = l[j] := by simp [rd_T37, h]
  rw [List.take_succ_eq_append_getElem h, inh_snoc, ← e, List.length_take, Nat.min_eq_left (by omega), Nat.zero_add]
end Go.Proofs.Ytgocgjfaiddejaa.M
