/- What acl.Granted computes, as a plain function. -/
import Derived.Test.YtgocgjfaiddejaaFD
import Derived.Test.YtgocgjfaiddejaaS
namespace Go.Proofs.Ytgocgjfaiddejaa.M
open Go.RowKit Go.Proofs.YtgocgjfaiddejaaW.PrintWords Go.Proofs.YtgocgjfaiddejaaW.PrintLast Go.Proofs.YtgocgjfaiddejaaW.PrintMore
set_option linter.unusedVariables false
set_option linter.unusedSimpArgs false

theorem w64_in {x : Int} (h0 : -9223372036854775808 ≤ x) (h1 : x ≤ 9223372036854775807) : wrap64 x = x := by
  unfold wrap64; omega
theorem tok_l0 (u pv : Int) (gs : List Int) (hm : gs.length ≤ 8) : ∀ (k i : Nat), i ≤ gs.length → gs.length - i < k → ∃ r, acl_CheckToken.l0 k gs (gs.length : Int) (i : Int) u gs pv = some r
  | 0, i, _, h => absurd h (by omega)
  | k + 1, i, hi, hk => by
    have hs : ∀ x, acl_someone.f x = some (decide (3 ≤ x ∧ x ≤ 1048576)) := fun x => by
      unfold acl_someone.f
      by_cases h : x > 2
      · rw [if_pos h]; simp; omega
      · rw [if_neg h]; simp; omega
    unfold acl_CheckToken.l0
    by_cases h1 : (i : Int) < (gs.length : Int)
    · rw [if_pos h1, if_pos (by omega : (0 : Int) ≤ i), if_pos h1, hs]
      dsimp only [Option.bind_some]
      obtain ⟨r, hr⟩ := tok_l0 u pv gs hm k (i + 1) (by omega) (by omega)
      have e : wrap64 ((i : Int) + 1) = ((i + 1 : Nat) : Int) := by rw [w64_in (by omega) (by omega)]; omega
      split
      · split
        · exact ⟨_, rfl⟩
        · split
          · rename_i h3
            rw [w64_in (by omega) (by omega)]
            rw [if_pos (by omega), if_pos (by omega)]
            split
            · exact ⟨_, rfl⟩
            · rw [e]; exact ⟨_, hr⟩
          · rw [e]; exact ⟨_, hr⟩
      · exact ⟨_, rfl⟩
    · rw [if_neg h1]; exact ⟨_, rfl⟩
theorem j0_at (k : Nat) (x : Bool) (u : Int) (gs : List Int) (pv : Int) : acl_CheckToken.j0 (k + 1) x u gs pv = if x = true then some 1 else acl_CheckToken.l0 k gs (gs.length : Int) 0 u gs pv := by
  rw [acl_CheckToken.j0]
theorem tok_some (u pv : Int) (gs : List Int) : ∃ r, acl_CheckToken.f 100 u gs pv = some r := by
  have hs : ∀ x, acl_someone.f x = some (decide (3 ≤ x ∧ x ≤ 1048576)) := fun x => by
    unfold acl_someone.f
    by_cases h : x > 2
    · rw [if_pos h]; simp; omega
    · rw [if_neg h]; simp; omega
  unfold acl_CheckToken.f
  rw [hs]
  dsimp only [Option.bind_some]
  have ht : ∃ r, acl_CheckToken.j0 (99 + 1) true u gs pv = some r := ⟨1, by rw [j0_at]; rfl⟩
  split
  · split
    · exact ht
    · rename_i h8
      split
      · exact ht
      · show ∃ r, acl_CheckToken.j0 (99 + 1) _ u gs pv = some r
        rw [j0_at]
        split
        · exact ⟨_, rfl⟩
        · exact tok_l0 u pv gs (by omega) 99 0 (by omega) (by omega)
  · exact ht
theorem con_l0 (gs : List Int) (x : Int) (hm : gs.length ≤ 8) : ∀ (k i : Nat), i ≤ gs.length → gs.length - i < k → ∃ r, slices_Index_int_int.l0 k gs x (gs.length : Int) (i : Int) = some r
  | 0, i, _, h => absurd h (by omega)
  | k + 1, i, hi, hk => by
    unfold slices_Index_int_int.l0
    by_cases h1 : (i : Int) < (gs.length : Int)
    · rw [if_pos h1, if_pos (by omega : (0 : Int) ≤ i), if_pos h1]
      obtain ⟨r, hr⟩ := con_l0 gs x hm k (i + 1) (by omega) (by omega)
      have e : wrap64 ((i : Int) + 1) = ((i + 1 : Nat) : Int) := by rw [w64_in (by omega) (by omega)]; omega
      split
      · exact ⟨_, rfl⟩
      · rw [e]; exact ⟨_, hr⟩
    · rw [if_neg h1]; exact ⟨_, rfl⟩
/-- A token's groups have a number. -/
def conB (gs : List Int) (x : Int) : Bool := (slices_Contains_int_int.f 20 gs x).getD false
theorem con_some (gs : List Int) (x : Int) (hm : gs.length ≤ 8) : slices_Contains_int_int.f 20 gs x = some (conB gs x) := by
  obtain ⟨r, hr⟩ := con_l0 gs x hm 20 0 (by omega) (by omega)
  replace hr : slices_Index_int_int.l0 20 gs x (gs.length : Int) 0 = some r := hr
  unfold conB slices_Contains_int_int.f slices_Index_int_int.f
  rw [hr]
  rfl
/-- What CheckToken says. -/
def tokE (u : Int) (gs : List Int) (pv : Int) : Int := (acl_CheckToken.f 100 u gs pv).getD 0
theorem tok_is (u : Int) (gs : List Int) (pv : Int) : acl_CheckToken.f 100 u gs pv = some (tokE u gs pv) := by
  obtain ⟨r, hr⟩ := tok_some u pv gs
  unfold tokE
  rw [hr]
  rfl
theorem tok_len {u : Int} {gs : List Int} {pv : Int} (h : tokE u gs pv = 0) : gs.length ≤ 8 := by
  rcases Nat.lt_or_ge 8 gs.length with h8 | h8
  · exfalso
    have h1 : acl_CheckToken.f 100 u gs pv = some 1 := by
      unfold acl_CheckToken.f acl_someone.f
      have ht : acl_CheckToken.j0 (99 + 1) true u gs pv = some 1 := by rw [j0_at]; rfl
      split
      · dsimp only [Option.bind_some]
        split
        · rw [if_pos (by omega)]; exact ht
        · exact ht
      · dsimp only [Option.bind_some]
        rw [if_neg (by decide)]; exact ht
    unfold tokE at h
    rw [h1] at h
    simp at h
  · exact h8
/-- An entry speaks to a token. -/
def speaksB (u : Int) (gs : List Int) (own : Int) (x : S37) : Bool :=
  !(hasB x.f3 4) && (x.f1 == 1 || (x.f1 == 2 && u == own) || x.f1 == u || conB gs x.f1)
def hitB (u : Int) (gs : List Int) (own bit : Int) (x : S37) : Bool := hasB x.f2 bit && speaksB u gs own x
def privB (pv bit : Int) : Bool := (hasB pv 1 && hasB bit 41) || (hasB pv 2 && bit == 256)
def ownerB (u own bit : Int) : Bool := u == own && bit == 128
/-- A right is granted. -/
def judgeB (u : Int) (gs : List Int) (pv own : Int) (l : List S37) (bit : Int) : Bool :=
  if privB pv bit = true then true else if ownerB u own bit = true then true else
    match l.find? (hitB u gs own bit) with | some x => x.f0 | none => false
def bits10 : List Int := [1, 2, 4, 8, 16, 32, 64, 128, 256, 512]
def maskOf (p : Int → Bool) (l : List Int) : Int := l.foldl (fun m b => if p b then Go.bits .or .i64 m b else m) 0
def grantedS (u : Int) (gs : List Int) (pv own : Int) (l : List S37) : Int := maskOf (judgeB u gs pv own l) bits10
/-- acl.Granted, of a valid descriptor. -/
def sGranted (u : Int) (gs : List Int) (pv own : Int) (l : List S37) : Int × Int := if tokE u gs pv = 0 then (grantedS u gs pv own l, 0) else (0, 1)
end Go.Proofs.Ytgocgjfaiddejaa.M
