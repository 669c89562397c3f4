/- When all others are closed a wait is granted: the plain law of LockProgress. -/
import Derived.Test.YtifnfnoicinbaaaN4
namespace Go.Proofs.Ytifnfnoicinbaaa.M
open Go.RowKit Go.Proofs.YtifnfnoicinbaaaW.PrintWords Go.Proofs.YtifnfnoicinbaaaW.PrintLast Go.Proofs.YtifnfnoicinbaaaW.PrintMore
set_option linter.unusedVariables false
set_option linter.unusedSimpArgs false
set_option linter.unnecessarySimpa false

/-- Whether a handle is left alone. -/
def skipB (h x : Int) : Bool := decide (x = h) || (decide (x < 1) || decide (1073741824 < x))
def stepC (h : Int) (t : List S24 × List S24) (x : Int) : List S24 × List S24 := if skipB h x = true then t else ((closeF t.1 t.2 x).1.1, (closeF t.1 t.2 x).1.2.1)
theorem skip_known {h x : Int} (hs : skipB h x = false) : knownB x = true ∧ x ≠ h := by
  unfold skipB at hs
  simp only [Bool.or_eq_false_iff, decide_eq_false_iff_not] at hs
  unfold knownB
  simp only [Bool.and_eq_true, decide_eq_true_eq]
  exact ⟨⟨by omega, by omega⟩, hs.1⟩
theorem close_all {t : List S24 × List S24} {x : Int} (h : Inv t.1 t.2) (hx : knownB x = true) :
    (closeF t.1 t.2 x).2 = 0 ∧ (closeF t.1 t.2 x).1.2.2.2 = [] ∧ Inv (closeF t.1 t.2 x).1.1 (closeF t.1 t.2 x).1.2.1 ∧ ∀ y, y ∈ (closeF t.1 t.2 x).1.1 ++ (closeF t.1 t.2 x).1.2.1 ↔ (y ∈ t.1 ++ t.2 ∧ hdL y ≠ x) := by
  have hb : begE t.1 t.2 (knownB x) = 0 := by unfold begE; rw [Inv.iff.1 h, hx]; rfl
  have e : closeF t.1 t.2 x = (settleL (t.1.filter (fun y => !(hdL y == x))) (t.2.filter (fun y => !(hdL y == x))), 0) := by unfold closeF; rw [if_pos hb]
  have hi := close_inv (H := t.1) (W := t.2) (x := x) (by rw [e])
  have hn := sub_news (H' := t.1.filter (fun y => !(hdL y == x))) (W' := t.2.filter (fun y => !(hdL y == x))) h List.filter_sublist List.filter_sublist
  refine ⟨by rw [e], by rw [e]; exact hn.1, hi, fun y => ?_⟩
  rw [e]
  have hs := single_sub h.single (List.filter_sublist (l := t.2) (p := fun y => !(hdL y == x)))
  obtain ⟨H1, W1, G1, N1, e1, st, _, _⟩ := PL.settle_spec (mt := mtL) (H := t.1.filter (fun y => !(hdL y == x))) hs
  have e2 : settleL (t.1.filter (fun y => !(hdL y == x))) (t.2.filter (fun y => !(hdL y == x))) = (H1, W1, G1, N1) := e1
  rw [e2] at hn ⊢
  dsimp only at hn ⊢
  obtain ⟨A, B, h1, _, h3, hp⟩ := PL.steps_news st
  have hB : B = [] := by
    rw [hn.1, List.nil_append] at h3
    cases B with
    | nil => rfl
    | cons b B => simp at h3
  subst hB
  have hmem : y ∈ A ++ W1 ↔ y ∈ t.2.filter (fun y => !(hdL y == x)) := by
    have := hp.mem_iff (a := y)
    simpa using this
  rw [h1]
  simp only [List.mem_append, List.mem_filter, Bool.not_eq_true', beq_eq_false_iff_ne, ne_eq] at hmem ⊢
  constructor
  · rintro ((h4 | h4) | h4)
    · exact ⟨.inl h4.1, h4.2⟩
    · have := hmem.1 (.inl h4); exact ⟨.inr this.1, this.2⟩
    · have := hmem.1 (.inr h4); exact ⟨.inr this.1, this.2⟩
  · rintro ⟨h4 | h4, h5⟩
    · exact .inl (.inl ⟨h4, h5⟩)
    · rcases hmem.2 ⟨h4, h5⟩ with h6 | h6
      · exact .inl (.inr h6)
      · exact .inr h6
theorem stepC_all {t : List S24 × List S24} {h x : Int} (hi : Inv t.1 t.2) : Inv (stepC h t x).1 (stepC h t x).2 ∧ ∀ y, y ∈ (stepC h t x).1 ++ (stepC h t x).2 ↔ (y ∈ t.1 ++ t.2 ∧ (skipB h x = false → hdL y ≠ x)) := by
  unfold stepC
  cases hs : skipB h x with
  | true => rw [if_pos rfl]; exact ⟨hi, fun y => ⟨fun hy => ⟨hy, fun hh => by cases hh⟩, fun hy => hy.1⟩⟩
  | false =>
    rw [if_neg (by simp)]
    obtain ⟨_, _, h3, h4⟩ := close_all hi (skip_known hs).1
    exact ⟨h3, fun y => (h4 y).trans ⟨fun ⟨a, b⟩ => ⟨a, fun _ => b⟩, fun ⟨a, b⟩ => ⟨a, b rfl⟩⟩⟩
theorem foldC_all {h : Int} : ∀ (D : List Int) (t : List S24 × List S24), Inv t.1 t.2 → Inv (D.foldl (stepC h) t).1 (D.foldl (stepC h) t).2 ∧ ∀ y, y ∈ (D.foldl (stepC h) t).1 ++ (D.foldl (stepC h) t).2 ↔ (y ∈ t.1 ++ t.2 ∧ ∀ x ∈ D, skipB h x = false → hdL y ≠ x)
  | [], t, hi => ⟨hi, fun y => by simp⟩
  | x :: D, t, hi => by
    obtain ⟨h1, h2⟩ := stepC_all (h := h) (x := x) hi
    obtain ⟨h3, h4⟩ := foldC_all D (stepC h t x) h1
    refine ⟨h3, fun y => (h4 y).trans ?_⟩
    rw [h2 y]
    constructor
    · rintro ⟨⟨a, b⟩, c⟩
      exact ⟨a, fun z hz => by
        rcases List.mem_cons.1 hz with rfl | hz
        · exact b
        · exact c z hz⟩
    · rintro ⟨a, b⟩
      exact ⟨⟨a, b x (List.mem_cons_self ..)⟩, fun z hz => b z (List.mem_cons_of_mem _ hz)⟩
theorem progress {H Q : List S24} {w : S24} {O D : List Int} (hI : Inv H Q) (hw : w ∈ Q) (hD : D = O ++ H.map hdL ++ Q.map hdL) :
    w ∈ (D.foldl (stepC w.f1) (H, Q)).1 ∧ (D.foldl (stepC w.f1) (H, Q)).2 = [] := by
  obtain ⟨h1, h2⟩ := foldC_all (h := w.f1) D (H, Q) hI
  generalize D.foldl (stepC w.f1) (H, Q) = T at h1 h2 ⊢
  obtain ⟨TH, TQ⟩ := T
  dsimp only at h1 h2 ⊢
  have hone : ∀ y ∈ TH ++ TQ, hdL y = w.f1 := by
    intro y hy
    obtain ⟨h3, h4⟩ := (h2 y).1 hy
    by_cases he : hdL y = w.f1
    · exact he
    · exfalso
      have hv : vL y = true := by
        rcases List.mem_append.1 h3 with h | h
        · exact hI.allH y h
        · exact hI.allW y h
      refine h4 (hdL y) ?_ ?_ rfl
      · rw [hD]
        rcases List.mem_append.1 h3 with h | h
        · exact List.mem_append_left _ (List.mem_append_right _ (List.mem_map_of_mem h))
        · exact List.mem_append_right _ (List.mem_map_of_mem h)
      · unfold vL at hv
        simp only [Bool.and_eq_true, decide_eq_true_eq] at hv
        unfold skipB hdL at *
        simp only [Bool.or_eq_false_iff, decide_eq_false_iff_not]
        omega
  have hQ : TQ = [] := by
    cases TQ with
    | nil => rfl
    | cons u U =>
      exfalso
      obtain ⟨x, hx, hm⟩ := PL.freeI_none'.1 h1.blocked [] u U rfl
      have hne := mt_hd hm
      rw [hone x (by simp at hx; simp [hx]), hone u (by simp)] at hne
      exact hne rfl
  refine ⟨?_, hQ⟩
  have hm : w ∈ TH ++ TQ := (h2 w).2 ⟨List.mem_append_right _ hw, fun x _ hs => by
    have := (skip_known hs).2
    exact fun e => this (by rw [← e]; rfl)⟩
  rw [hQ, List.append_nil] at hm
  exact hm
end Go.Proofs.Ytifnfnoicinbaaa.M
