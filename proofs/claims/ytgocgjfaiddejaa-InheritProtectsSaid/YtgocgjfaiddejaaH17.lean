/- slices.Equal, SameAces. -/
import Derived.Test.YtgocgjfaiddejaaH16
import Derived.Test.YtgocgjfaiddejaaFA
namespace Go.Proofs.Ytgocgjfaiddejaa.M
open Go.RowKit Go.Proofs.YtgocgjfaiddejaaW.PrintWords Go.Proofs.YtgocgjfaiddejaaW.PrintLast Go.Proofs.YtgocgjfaiddejaaW.PrintMore
set_option linter.unusedVariables false
set_option linter.unusedSimpArgs false

def eqB37 (x y : S37) : Bool := (x.f0 == y.f0) && ((x.f1 == y.f1) && ((x.f2 == y.f2) && (x.f3 == y.f3)))
theorem eqB37_iff (x y : S37) : eqB37 x y = true ↔ x = y := by
  cases x; cases y; simp [eqB37]
theorem eqB37_not (x y : S37) : (!(x.f0 == y.f0) || (!(x.f1 == y.f1) || (!(x.f2 == y.f2) || !(x.f3 == y.f3)))) = !(eqB37 x y) := by
  unfold eqB37; simp [Bool.not_and]
instance : DecidableEq S37 := fun x y => if h : eqB37 x y = true then .isTrue ((eqB37_iff x y).1 h) else .isFalse (fun e => h ((eqB37_iff x y).2 e))
theorem rd37_at {l : List S37} {j : Nat} (h : j < l.length) : rd_T37 l (j : Int) = l[j] := by simp [rd_T37, h]
theorem eq_step (l0 l1 : List S37) (j : Nat) (h0 : j < l0.length) (h1 : j < l1.length) : (l0.drop j = l1.drop j) ↔ (eqB37 (rd_T37 l0 j) (rd_T37 l1 j) = true ∧ l0.drop (j + 1) = l1.drop (j + 1)) := by
  rw [List.drop_eq_getElem_cons h0, List.drop_eq_getElem_cons h1, List.cons.injEq, eqB37_iff, rd37_at h0, rd37_at h1]
theorem equal_l (l0 l1 : List S37) (he : l0.length = l1.length) (hm : l0.length ≤ 9223372036854775807) : ∀ k j, j ≤ l0.length → l0.length - j < k → api_Ace_68.l0 k l0 l1 (l0.length : Int) (j : Int) = some (decide (l0.drop j = l1.drop j))
  | 0, j, _, h => by omega
  | k + 1, j, hj, hk => by
    unfold api_Ace_68.l0
    by_cases h : j < l0.length
    · rw [if_pos (by omega), if_pos (by omega), if_pos (by omega), if_pos (by omega), eqB37_not]
      by_cases hb : eqB37 (rd_T37 l0 j) (rd_T37 l1 j) = true
      · rw [if_neg (by rw [hb]; simp), show wrap64 ((j : Int) + 1) = ((j + 1 : Nat) : Int) by unfold wrap64; omega, equal_l l0 l1 he hm k (j + 1) (by omega) (by omega)]
        congr 1
        rw [decide_eq_decide, eq_step l0 l1 j h (by omega), hb]
        simp
      · replace hb : eqB37 (rd_T37 l0 j) (rd_T37 l1 j) = false := by simpa using hb
        rw [if_pos (by rw [hb]; rfl)]
        congr 1
        symm
        rw [decide_eq_false_iff_not, eq_step l0 l1 j h (by omega), hb]
        simp
    · rw [if_neg (by omega), List.drop_eq_nil_of_le (by omega), List.drop_eq_nil_of_le (by omega)]
      simp
theorem equal_f (l0 l1 : List S37) (hm : l0.length ≤ 9223372036854775807) : api_Ace_68.f (l0.length + 1) l0 l1 = some (decide (l0 = l1)) := by
  unfold api_Ace_68.f
  by_cases h : l0.length = l1.length
  · rw [if_pos (by omega)]
    have := equal_l l0 l1 h hm (l0.length + 1) 0 (by omega) (by omega)
    simpa using this
  · rw [if_neg (by omega)]
    congr 1
    symm
    rw [decide_eq_false_iff_not]
    exact fun e => h (by rw [e])
theorem same_l (l0 l1 : List S37) (he : l0.length = l1.length) (hm : l0.length ≤ 9223372036854775807) : ∀ k j, j ≤ l0.length → l0.length - j < k → archivoltref23_SameAces.l0 k l0 l1 (j : Int) = some (decide (l0.drop j = l1.drop j))
  | 0, j, _, h => by omega
  | k + 1, j, hj, hk => by
    unfold archivoltref23_SameAces.l0
    by_cases h : j < l0.length
    · rw [if_pos (by omega), if_pos (by omega), if_pos (by omega), eqB37_not]
      by_cases hb : eqB37 (rd_T37 l0 j) (rd_T37 l1 j) = true
      · rw [if_neg (by rw [hb]; simp), show wrap64 ((j : Int) + 1) = ((j + 1 : Nat) : Int) by unfold wrap64; omega, same_l l0 l1 he hm k (j + 1) (by omega) (by omega)]
        congr 1
        rw [decide_eq_decide, eq_step l0 l1 j h (by omega), hb]
        simp
      · replace hb : eqB37 (rd_T37 l0 j) (rd_T37 l1 j) = false := by simpa using hb
        rw [if_pos (by rw [hb]; rfl)]
        congr 1
        symm
        rw [decide_eq_false_iff_not, eq_step l0 l1 j h (by omega), hb]
        simp
    · rw [if_neg (by omega), List.drop_eq_nil_of_le (by omega), List.drop_eq_nil_of_le (by omega)]
      simp
theorem same_f (l0 l1 : List S37) (hm : l0.length ≤ 9223372036854775807) : archivoltref23_SameAces.f (l0.length + 1) l0 l1 = some (decide (l0 = l1)) := by
  unfold archivoltref23_SameAces.f
  by_cases h : l0.length = l1.length
  · rw [if_pos (by omega)]
    have := same_l l0 l1 h hm (l0.length + 1) 0 (by omega) (by omega)
    simpa using this
  · rw [if_neg (by omega)]
    congr 1
    symm
    rw [decide_eq_false_iff_not]
    exact fun e => h (by rw [e])
theorem drawn_below {w w' : World} (h : Drawn0 w w') : Below w.heap.size w w' := by
  obtain ⟨n, rfl⟩ := h
  exact pw_below_drewN (Below.refl _ w) _
theorem equal_calls (A0 : Option Addr) (c0 : Nat) (l0 : List S37) (A1 : Option Addr) (c1 : Nat) (l1 : List S37) (w : World) (hr0 : k37.C w A0 l0.length l0) (hc0 : l0.length ≤ c0) (hr1 : k37.C w A1 l1.length l1) (hc1 : l1.length ≤ c1) :
    Calls Try.prog 68 #[.slice A0 l0.length c0, .slice A1 l1.length c1] w fun e w' => e = .returned (.bool (decide (l0 = l1))) ∧ Below w.heap.size w w' :=
  (api_Ace_68.calls _ A0 c0 l0 A1 c1 l1 _ w hr0 hc0 hr1 hc1 (equal_f l0 l1 hr0.2.1)).mono fun e w' h => ⟨h.1, drawn_below h.2⟩
theorem SameAces_calls (A0 : Option Addr) (c0 : Nat) (l0 : List S37) (A1 : Option Addr) (c1 : Nat) (l1 : List S37) (w : World) (hr0 : k37.C w A0 l0.length l0) (hc0 : l0.length ≤ c0) (hr1 : k37.C w A1 l1.length l1) (hc1 : l1.length ≤ c1) :
    Calls Try.prog 23 #[.slice A0 l0.length c0, .slice A1 l1.length c1] w fun e w' => e = .returned (.bool (decide (l0 = l1))) ∧ Below w.heap.size w w' :=
  (archivoltref23_SameAces.calls _ A0 c0 l0 A1 c1 l1 _ w hr0 hc0 hr1 hc1 (same_f l0 l1 hr0.2.1)).mono fun e w' h => ⟨h.1, drawn_below h.2⟩
end Go.Proofs.Ytgocgjfaiddejaa.M
