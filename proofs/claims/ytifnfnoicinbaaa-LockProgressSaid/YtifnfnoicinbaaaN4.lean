/- Of what the news of an act tell. -/
import Derived.Test.YtifnfnoicinbaaaN2
namespace Go.Proofs.Ytifnfnoicinbaaa.M
open Go.RowKit Go.Proofs.YtifnfnoicinbaaaW.PrintWords Go.Proofs.YtifnfnoicinbaaaW.PrintLast Go.Proofs.YtifnfnoicinbaaaW.PrintMore
set_option linter.unusedVariables false
set_option linter.unusedSimpArgs false
set_option linter.unnecessarySimpa false

theorem free_cf {H : List S24} (h : PL.FreeH mtL H) {j k : Nat} (hk : k < j) (hj : j < H.length) : cfL (rd_T24 H (j : Int)) (rd_T24 H (k : Int)) = false := by
  have h1 := List.pairwise_iff_getElem.1 h k j (by omega) hj hk
  unfold cfL
  rw [rd_at hj, rd_at (show k < H.length by omega), mt_sym, h1]
  simp
theorem noCirc_sub {H W H' W' : List S24} (h : Inv H W) (hH : H'.Sublist H) (hW : W'.Sublist W) : ∀ c, ¬ PL.Circ hdL mtL H' W' c :=
  fun c hc => h.noCirc c (PL.circ_mono (fun a b => PL.stp_sub hH hW) hc)
theorem single_sub {W W' : List S24} (h : PL.Single hdL W) (hW : W'.Sublist W) : PL.Single hdL W' := by
  unfold PL.Single at *
  exact h.sublist (hW.map _)
theorem sub_news {H W H' W' : List S24} (h : Inv H W) (hH : H'.Sublist H) (hW : W'.Sublist W) : (settleL H' W').2.2.2 = [] ∧ ∀ x ∈ (settleL H' W').2.2.1, x ∈ W'.map hdL := by
  obtain ⟨H1, W1, G1, N1, e, st, _, _⟩ := PL.settle_spec (mt := mtL) (H := H') (single_sub h.single hW)
  rw [show settleL H' W' = (H1, W1, G1, N1) from e]
  have hn := (PL.steps_none mt_sym st (noCirc_sub h hH hW)).1
  refine ⟨hn, fun x hx => ?_⟩
  obtain ⟨A, B, _, e2, _, hp⟩ := PL.steps_news st
  dsimp only at hx
  rw [e2, List.nil_append, List.mem_map] at hx
  obtain ⟨y, hy, rfl⟩ := hx
  exact List.mem_map_of_mem (hp.subset (by simp [hy]))
theorem ask_news {H W : List S24} (hs : PL.Single hdL W) : (∀ x ∈ (settleL H W).2.2.1, x ∈ W.map hdL) ∧ ∀ x ∈ (settleL H W).2.2.2, x ∈ W.map hdL := by
  obtain ⟨H1, W1, G1, N1, e, st, _, _⟩ := PL.settle_spec (mt := mtL) (H := H) hs
  rw [show settleL H W = (H1, W1, G1, N1) from e]
  obtain ⟨A, B, _, e2, e3, hp⟩ := PL.steps_news st
  constructor
  · intro x hx
    dsimp only at hx
    rw [e2, List.nil_append, List.mem_map] at hx
    obtain ⟨y, hy, rfl⟩ := hx
    exact List.mem_map_of_mem (hp.subset (by simp [hy]))
  · intro x hx
    dsimp only at hx
    rw [e3, List.nil_append, List.mem_map] at hx
    obtain ⟨y, hy, rfl⟩ := hx
    exact List.mem_map_of_mem (hp.subset (by simp [hy]))
/-- The news are of waits that there were, or of the asker; waits are given up in Ask alone. -/
theorem news_known {t : List S24 × List S24} {a : S37} (h : Inv t.1 t.2) :
    (∀ x ∈ (newsT t a).1, x ∈ t.2.map hdL ++ [a.f1.f1]) ∧ ∀ x ∈ (newsT t a).2, x ∈ t.2.map hdL ++ [a.f1.f1] ∧ kindA a = 1 := by
  obtain ⟨H, Q⟩ := t
  dsimp only at h
  unfold newsT
  by_cases hz : (doneR H Q a).2 = 0
  · rw [if_pos hz]
    dsimp only
    unfold doneR at hz ⊢
    split at hz
    · rename_i hk
      rw [if_pos hk]
      exact ⟨fun x hx => by simp at hx, fun x hx => by simp at hx⟩
    · rename_i hk
      rw [if_neg hk]
      split at hz
      · rename_i hk
        rw [if_pos hk]
        unfold askF at hz ⊢
        by_cases hq : reqE H Q a.f1 = 0
        · rw [if_pos hq]
          have hn := ask_news (H := H) (req_good hq).single
          have e : (Q ++ [a.f1]).map hdL = Q.map hdL ++ [a.f1.f1] := by simp [hdL]
          rw [e] at hn
          exact ⟨hn.1, fun x hx => ⟨hn.2 x hx, hk⟩⟩
        · rw [if_neg hq] at hz; exact absurd hz hq
      · rename_i hk
        rw [if_neg hk]
        have key : ∀ {H' Q' : List S24}, H'.Sublist H → Q'.Sublist Q → (∀ x ∈ (settleL H' Q').2.2.1, x ∈ Q.map hdL ++ [a.f1.f1]) ∧ ∀ x ∈ (settleL H' Q').2.2.2, x ∈ Q.map hdL ++ [a.f1.f1] ∧ kindA a = 1 := by
          intro H' Q' hH hQ
          have hn := sub_news h hH hQ
          rw [hn.1]
          exact ⟨fun x hx => List.mem_append_left _ ((hQ.map hdL).subset (hn.2 x hx)), fun x hx => by simp at hx⟩
        split at hz
        · rename_i hk
          rw [if_pos hk]
          obtain ⟨_, _, i, _, e⟩ := unlock_ok hz
          rw [e]
          exact key (List.eraseIdx_sublist H i) (List.Sublist.refl Q)
        · rename_i hk
          rw [if_neg hk]
          split at hz
          · rename_i hk
            rw [if_pos hk]
            obtain ⟨_, _, i, _, e⟩ := cancel_ok hz
            rw [e]
            exact key (List.Sublist.refl H) (List.eraseIdx_sublist Q i)
          · rename_i hk
            rw [if_neg hk]
            obtain ⟨_, _, e⟩ := close_ok hz
            rw [e]
            exact key List.filter_sublist List.filter_sublist
  · rw [if_neg hz]
    exact ⟨fun x hx => by simp at hx, fun x hx => by simp at hx⟩
theorem news_len {t : List S24 × List S24} {a : S37} (h : Inv t.1 t.2) : (newsT t a).1.length ≤ 1000 ∧ (newsT t a).2.length ≤ 1000 := by
  obtain ⟨H, Q⟩ := t
  dsimp only at h
  unfold newsT
  by_cases hz : (doneR H Q a).2 = 0
  · rw [if_pos hz]
    dsimp only
    have hl := h.len
    unfold doneR at hz ⊢
    split at hz
    · rename_i hk
      rw [if_pos hk]
      exact ⟨by simp, by simp⟩
    · rename_i hk
      rw [if_neg hk]
      have key : ∀ {H' Q' : List S24}, PL.Single hdL Q' → Q'.length ≤ 401 → (settleL H' Q').2.2.1.length ≤ 1000 ∧ (settleL H' Q').2.2.2.length ≤ 1000 := by
        intro H' Q' hs hq
        obtain ⟨H1, W1, G1, N1, e, st, _, _⟩ := PL.settle_spec (mt := mtL) (H := H') hs
        rw [show settleL H' Q' = (H1, W1, G1, N1) from e]
        obtain ⟨A, B, _, e2, e3, hp⟩ := PL.steps_news st
        have := hp.length_eq
        simp only [List.length_append] at this
        rw [e2, e3]
        simp
        omega
      split at hz
      · rename_i hk
        rw [if_pos hk]
        unfold askF at hz ⊢
        by_cases hq : reqE H Q a.f1 = 0
        · rw [if_pos hq]
          exact key (req_good hq).single (by simp; omega)
        · rw [if_neg hq] at hz; exact absurd hz hq
      · rename_i hk
        rw [if_neg hk]
        split at hz
        · rename_i hk
          rw [if_pos hk]
          obtain ⟨_, _, i, _, e⟩ := unlock_ok hz
          rw [e]
          exact key h.single (by omega)
        · rename_i hk
          rw [if_neg hk]
          split at hz
          · rename_i hk
            rw [if_pos hk]
            obtain ⟨_, _, i, _, e⟩ := cancel_ok hz
            rw [e]
            exact key (single_sub h.single (List.eraseIdx_sublist Q i)) (by have := (List.eraseIdx_sublist Q i).length_le; omega)
          · rename_i hk
            rw [if_neg hk]
            obtain ⟨_, _, e⟩ := close_ok hz
            rw [e]
            exact key (single_sub h.single List.filter_sublist) (by have := (List.filter_sublist (l := Q) (p := fun y => !(hdL y == a.f1.f1))).length_le; omega)
  · rw [if_neg hz]
    exact ⟨by simp, by simp⟩
theorem news_ok {t : List S24 × List S24} {a : S37} : ((newsT t a).1 ≠ [] → decide ((doneR t.1 t.2 a).2 = 0) = true) ∧ ((newsT t a).2 ≠ [] → decide ((doneR t.1 t.2 a).2 = 0) = true) := by
  unfold newsT
  by_cases hz : (doneR t.1 t.2 a).2 = 0
  · rw [decide_eq_true hz]; simp
  · rw [if_neg hz]; simp
end Go.Proofs.Ytifnfnoicinbaaa.M
