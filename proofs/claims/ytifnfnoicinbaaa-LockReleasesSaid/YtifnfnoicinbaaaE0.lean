/- What a right table is, and what the calls keep. -/
import Derived.Test.YtifnfnoicinbaaaD1
import Derived.Test.YtifnfnoicinbaaaPM
namespace Go.Proofs.Ytifnfnoicinbaaa.M
open Go.RowKit Go.Proofs.YtifnfnoicinbaaaW.PrintWords Go.Proofs.YtifnfnoicinbaaaW.PrintLast Go.Proofs.YtifnfnoicinbaaaW.PrintMore
set_option linter.unusedVariables false
set_option linter.unusedSimpArgs false
set_option linter.unnecessarySimpa false

/-- A right table. -/
structure Inv (H W : List S24) : Prop where
  len : H.length + W.length ≤ 400
  allH : ∀ x ∈ H, vL x = true
  allW : ∀ x ∈ W, vL x = true
  free : PL.FreeH mtL H
  single : PL.Single hdL W
  blocked : PL.freeI mtL H W = none
  calm : stuckL H W = 0
theorem freeB_iff {H : List S24} : freeB H = true ↔ PL.FreeH mtL H := by
  unfold PL.FreeH
  rw [List.pairwise_iff_getElem]
  constructor
  · intro h i j hi hj hij
    unfold freeB at h
    rw [List.all_eq_true] at h
    have h1 := h j (List.mem_range.2 hj)
    rw [List.all_eq_true] at h1
    have h2 := h1 i (List.mem_range.2 hij)
    rw [rd_at hj, rd_at hi] at h2
    rw [mt_sym]
    simpa using h2
  · intro h
    refine free_good (fun i k hi hk => ?_)
    rw [rd_at hi, rd_at (show k < H.length by omega), mt_sym]
    exact h k i (by omega) hi hk
theorem Inv.iff {H W : List S24} : Inv H W ↔ checksB H W = true := by
  constructor
  · intro h
    unfold checksB
    rw [freeB_iff.2 h.free]
    have h1 : validB H W = true := by
      unfold validB
      rw [decide_eq_true h.len]
      simp only [Bool.and_eq_true, List.all_eq_true, Bool.true_and]
      exact ⟨h.allH, h.allW⟩
    have h2 : singleB W = true := by unfold singleB; exact decide_eq_true h.single
    have h3 : waitingB H W = true := by unfold waitingB; rw [h.blocked, h.calm]; rfl
    rw [h1, h2, h3]
    rfl
  · intro h
    obtain ⟨h1, h2, h3, h4⟩ := checks_parts h
    unfold validB at h1
    simp only [Bool.and_eq_true, decide_eq_true_eq, List.all_eq_true] at h1
    unfold waitingB at h4
    simp only [Bool.and_eq_true, decide_eq_true_eq, Option.isNone_iff_eq_none] at h4
    exact ⟨h1.1.1, h1.1.2, h1.2, freeB_iff.1 h2, by unfold singleB at h3; unfold PL.Single; exact of_decide_eq_true h3, h4.1, h4.2⟩
theorem Inv.nil : Inv [] [] := Inv.iff.2 (by kernel_rfl)
theorem vL_pos {x : S24} (h : vL x = true) : 0 < hdL x := by
  unfold vL at h
  simp only [Bool.and_eq_true, decide_eq_true_eq] at h
  unfold hdL
  omega
theorem Inv.noCirc {H W : List S24} (h : Inv H W) : ∀ c, ¬ PL.Circ hdL mtL H W c := PL.noCirc_of h.single h.calm (fun w hw => vL_pos (h.allW w hw))
end Go.Proofs.Ytifnfnoicinbaaa.M
