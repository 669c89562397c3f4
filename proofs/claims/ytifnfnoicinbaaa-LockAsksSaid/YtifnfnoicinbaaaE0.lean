/- What a right table is, and what the calls keep. -/
import Derived.Test.YtifnfnoicinbaaaD1
import Derived.Test.YtifnfnoicinbaaaPM
namespace Go.Proofs.Ytifnfnoicinbaaa.M
open Go.RowKit Go.Proofs.YtifnfnoicinbaaaW.PrintWords Go.Proofs.YtifnfnoicinbaaaW.PrintLast Go.Proofs.YtifnfnoicinbaaaW.PrintMore
set_option linter.unusedVariables false
set_option linter.unusedSimpArgs false
set_option linter.unnecessarySimpa false

/-- A right table. -/
structure Inv (H W : List S24) : Prop where
  len : H.length + W.length ≤ 400
  allH : ∀ x ∈ H, vL x = true
  allW : ∀ x ∈ W, vL x = true
  free : PL.FreeH mtL H
  single : PL.Single hdL W
  blocked : PL.freeI mtL H W = none
  calm : stuckL H W = 0
theorem freeB_iff {H : List S24} : freeB H = true ↔ PL.FreeH mtL H := by
  unfold PL.FreeH
  rw [List.pairwise_iff_getElem]
  constructor
  · intro h i j hi hj hij
    unfold freeB at h
    rw [List.all_eq_true] at h
    have h1 := h j (List.mem_range.2 hj)
    rw [List.all_eq_true] at h1
    have h2 := h1 i (List.mem_range.2 hij)
    rw [rd_at hj, rd_at hi] at h2
    rw [mt_sym]
    simpa using h2
  · intro h
    refine free_good (fun i k hi hk => ?_)
    rw [rd_at hi, rd_at (show k < H.length by omega), mt_sym]
    exact h k i (by omega) hi hk
theorem Inv.iff {H W : List S24} : Inv H W ↔ checksB H W = true := by
  constructor
  · intro h
    unfold checksB
    rw [freeB_iff.2 h.free]
    have h1 : validB H W = true := by
      unfold validB
      rw [decide_eq_true h.len]
      simp only [Bool.and_eq_true, List.all_eq_true, Bool.true_and]
      exact ⟨h.allH, h.allW⟩
    have h2 : singleB W = true := by unfold singleB; exact decide_eq_true h.single
    have h3 : waitingB H W = true := by unfold waitingB; rw [h.blocked, h.calm]; rfl
    rw [h1, h2, h3]
    rfl
  · intro h
    obtain ⟨h1, h2, h3, h4⟩ := checks_parts h
    unfold validB at h1
    simp only [Bool.and_eq_true, decide_eq_true_eq, List.all_eq_true] at h1
    unfold waitingB at h4
    simp only [Bool.and_eq_true, decide_eq_true_eq, Option.isNone_iff_eq_none] at h4
    exact ⟨h1.1.1, h1.1.2, h1.2, freeB_iff.1 h2, by unfold singleB at h3; unfold PL.Single; exact of_decide_eq_true h3, h4.1, h4.2⟩
theorem Inv.nil : Inv [] [] := Inv.iff.2 (by kernel_rfl)
theorem vL_pos {x : S24} (h : vL x = true) : 0 < hdL x := by
  unfold vL at h
  simp only [Bool.and_eq_true, decide_eq_true_eq] at h
  unfold hdL
  omega
theorem Inv.noCirc {H W : List S24} (h : Inv H W) : ∀ c, ¬ PL.Circ hdL mtL H W c := PL.noCirc_of h.single h.calm (fun w hw => vL_pos (h.allW w hw))
/-- What settling leads to. -/
theorem settle_inv {H W : List S24} (hl : H.length + W.length ≤ 400) (hH : ∀ x ∈ H, vL x = true) (hW : ∀ x ∈ W, vL x = true) (hf : PL.FreeH mtL H) (hs : PL.Single hdL W) :
    Inv (settleL H W).1 (settleL H W).2.1 := by
  obtain ⟨H', W', G', N', e, st, h1, h2⟩ := PL.settle_spec (mt := mtL) (H := H) hs
  rw [show settleL H W = (H', W', G', N') from e]
  have ha := PL.steps_all st hH hW
  have := PL.steps_len st
  exact ⟨by show H'.length + W'.length ≤ 400; omega, ha.1, ha.2, PL.steps_free mt_sym st hf, PL.steps_single st hs, h1, h2⟩
theorem Inv.sub {H W H' W' : List S24} (h : Inv H W) (hH : H'.Sublist H) (hW : W'.Sublist W) : Inv (settleL H' W').1 (settleL H' W').2.1 :=
  settle_inv (by have := h.len; have := hH.length_le; have := hW.length_le; omega) (fun x hx => h.allH x (hH.subset hx)) (fun x hx => h.allW x (hW.subset hx)) (h.free.sublist hH) (by have := h.single; unfold PL.Single at *; exact this.sublist (hW.map _))
theorem stp_held {H W : List S24} {l : S24} (hn : ∀ x ∈ W, mtL x l = false) {a b : Int} (h : PL.Stp hdL mtL (H ++ [l]) W a b) : PL.Stp hdL mtL H W a b := by
  rw [PL.stp_iff] at h ⊢
  obtain ⟨A, w, B, x, rfl, ha, hx, hm, hb⟩ := h
  refine ⟨A, w, B, x, rfl, ha, ?_, hm, hb⟩
  rcases List.mem_append.1 hx with hx | hx
  · rcases List.mem_append.1 hx with hx | hx
    · exact List.mem_append_left _ hx
    · rw [List.mem_singleton] at hx
      subst hx
      exfalso
      have := hn w (by simp)
      rw [mt_sym, hm] at this
      cases this
  · exact List.mem_append_right _ hx
/-- A lock with which nothing conflicts is held at once. -/
theorem Inv.held {H W : List S24} {l : S24} (h : Inv H W) (hl : H.length + W.length < 400) (hv : vL l = true) (hH : ∀ x ∈ H, mtL x l = false) (hW : ∀ x ∈ W, mtL x l = false) : Inv (H ++ [l]) W where
  len := by simp; omega
  allH := fun x hx => by
    rcases List.mem_append.1 hx with hx | hx
    · exact h.allH x hx
    · rw [List.mem_singleton] at hx; subst hx; exact hv
  allW := h.allW
  free := by
    have := h.free
    unfold PL.FreeH at *
    rw [List.pairwise_append]
    exact ⟨this, by simp, fun a ha b hb => by rw [List.mem_singleton] at hb; subst hb; exact hH a ha⟩
  single := h.single
  blocked := PL.freeI_none'.2 (fun A w B e => by
    obtain ⟨x, hx, hm⟩ := PL.freeI_none'.1 h.blocked A w B e
    refine ⟨x, ?_, hm⟩
    rcases List.mem_append.1 hx with hx | hx
    · exact List.mem_append_left _ (List.mem_append_left _ hx)
    · exact List.mem_append_right _ hx)
  calm := PL.stuckV_noCirc h.single (fun c hc => h.noCirc c (PL.circ_mono (fun a b => stp_held hW) hc))
theorem try_ok {H W : List S24} {l : S24} (h : (tryF H W l).2 = 0) : reqE H W l = 0 ∧ (∀ x ∈ H, mtL x l = false) ∧ (∀ x ∈ W, mtL x l = false) ∧ tryF H W l = ((H ++ [l], W), 0) := by
  unfold tryF at h ⊢
  by_cases hz : reqE H W l = 0
  · rw [if_pos hz] at h ⊢
    by_cases hc : (H.any (fun x => mtL x l) || W.any (fun x => mtL x l)) = true
    · rw [if_pos hc] at h; cases h
    · rw [if_neg hc]
      simp only [Bool.or_eq_true, List.any_eq_true, not_or, not_exists, not_and, Bool.not_eq_true] at hc
      exact ⟨hz, fun x hx => hc.1 x hx, fun x hx => hc.2 x hx, rfl⟩
  · rw [if_neg hz] at h; exact absurd h hz
theorem req_inv {H W : List S24} {l : S24} (h : reqE H W l = 0) : Inv H W ∧ vL l = true ∧ H.length + W.length < 400 := by
  obtain ⟨h1, _, h3⟩ := req_parts h
  exact ⟨Inv.iff.2 (beg_zero h1).1, (beg_zero h1).2, h3⟩
theorem try_inv {H W : List S24} {l : S24} (h : (tryF H W l).2 = 0) : Inv (tryF H W l).1.1 (tryF H W l).1.2 := by
  obtain ⟨h1, h2, h3, e⟩ := try_ok h
  obtain ⟨hi, hv, hl⟩ := req_inv h1
  rw [e]
  exact hi.held hl hv h2 h3
theorem ask_inv {H W : List S24} {l : S24} (h : (askF H W l).2 = 0) : Inv (askF H W l).1.1 (askF H W l).1.2.1 := by
  unfold askF at h ⊢
  by_cases hz : reqE H W l = 0
  · rw [if_pos hz]
    obtain ⟨hi, hv, hl⟩ := req_inv hz
    refine settle_inv (by simp; omega) hi.allH (fun x hx => ?_) hi.free (req_good hz).single
    rcases List.mem_append.1 hx with hx | hx
    · exact hi.allW x hx
    · rw [List.mem_singleton] at hx; subst hx; exact hv
  · rw [if_neg hz] at h; exact absurd h hz
theorem unlock_ok {H W : List S24} {l : S24} (h : (unlockF H W l).2 = 0) : Inv H W ∧ vL l = true ∧ ∃ i, lastI H l H.length = some i ∧ unlockF H W l = (settleL (H.eraseIdx i) W, 0) := by
  unfold unlockF at h ⊢
  by_cases hz : begE H W (vL l) = 0
  · rw [if_pos hz] at h ⊢
    cases hq : lastI H l H.length with
    | none => rw [hq] at h; cases h
    | some i => exact ⟨Inv.iff.2 (beg_zero hz).1, (beg_zero hz).2, i, rfl, rfl⟩
  · rw [if_neg hz] at h; exact absurd h hz
theorem unlock_inv {H W : List S24} {l : S24} (h : (unlockF H W l).2 = 0) : Inv (unlockF H W l).1.1 (unlockF H W l).1.2.1 := by
  obtain ⟨hi, _, i, _, e⟩ := unlock_ok h
  rw [e]
  exact hi.sub (List.eraseIdx_sublist H i) (List.Sublist.refl W)
theorem cancel_ok {H W : List S24} {x : Int} (h : (cancelF H W x).2 = 0) : Inv H W ∧ knownB x = true ∧ ∃ i, PL.waitI hdL W x = some i ∧ cancelF H W x = (settleL H (W.eraseIdx i), 0) := by
  unfold cancelF at h ⊢
  by_cases hz : begE H W (knownB x) = 0
  · rw [if_pos hz] at h ⊢
    cases hq : PL.waitI hdL W x with
    | none => rw [hq] at h; cases h
    | some i => exact ⟨Inv.iff.2 (beg_zero hz).1, (beg_zero hz).2, i, rfl, rfl⟩
  · rw [if_neg hz] at h; exact absurd h hz
theorem cancel_inv {H W : List S24} {x : Int} (h : (cancelF H W x).2 = 0) : Inv (cancelF H W x).1.1 (cancelF H W x).1.2.1 := by
  obtain ⟨hi, _, i, _, e⟩ := cancel_ok h
  rw [e]
  exact hi.sub (List.Sublist.refl H) (List.eraseIdx_sublist W i)
theorem close_ok {H W : List S24} {x : Int} (h : (closeF H W x).2 = 0) : Inv H W ∧ knownB x = true ∧ closeF H W x = (settleL (H.filter (fun y => !(hdL y == x))) (W.filter (fun y => !(hdL y == x))), 0) := by
  unfold closeF at h ⊢
  by_cases hz : begE H W (knownB x) = 0
  · rw [if_pos hz]
    exact ⟨Inv.iff.2 (beg_zero hz).1, (beg_zero hz).2, rfl⟩
  · rw [if_neg hz] at h; exact absurd h hz
theorem close_inv {H W : List S24} {x : Int} (h : (closeF H W x).2 = 0) : Inv (closeF H W x).1.1 (closeF H W x).1.2.1 := by
  obtain ⟨hi, _, e⟩ := close_ok h
  rw [e]
  exact hi.sub List.filter_sublist List.filter_sublist
end Go.Proofs.Ytifnfnoicinbaaa.M
