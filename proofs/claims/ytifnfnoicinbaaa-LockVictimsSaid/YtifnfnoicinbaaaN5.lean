/- No wait is overtaken: the plain law of LockFair. -/
import Derived.Test.YtifnfnoicinbaaaN4
namespace Go.Proofs.Ytifnfnoicinbaaa.M
open Go.RowKit Go.Proofs.YtifnfnoicinbaaaW.PrintWords Go.Proofs.YtifnfnoicinbaaaW.PrintLast Go.Proofs.YtifnfnoicinbaaaW.PrintMore
set_option linter.unusedVariables false
set_option linter.unusedSimpArgs false
set_option linter.unnecessarySimpa false

theorem waits_false {W : List S24} {x : Int} (h : ∀ y ∈ W, hdL y ≠ x) : waitsB W x = false := by
  unfold waitsB
  rw [List.any_eq_false]
  intro y hy
  simpa [hdL] using h y hy
theorem single_mem {W : List S24} (h : PL.Single hdL W) {x y : S24} (hx : x ∈ W) (hy : y ∈ W) (e : hdL x = hdL y) : x = y := by
  obtain ⟨i, hi⟩ := List.getElem?_of_mem hx
  obtain ⟨j, hj⟩ := List.getElem?_of_mem hy
  have := h.inj hi hj e
  subst this
  rw [hi] at hj
  exact Option.some.inj hj
theorem single_split {A B : List S24} {w : S24} (h : PL.Single hdL (A ++ w :: B)) : (∀ x ∈ A, x ≠ w) ∧ (∀ x ∈ B, x ≠ w) ∧ ∀ x ∈ A, x ∉ B := by
  unfold PL.Single at h
  rw [List.map_append, List.map_cons, List.nodup_append] at h
  obtain ⟨_, h2, h3⟩ := h
  refine ⟨fun x hx e => ?_, fun x hx e => ?_, fun x hx hb => ?_⟩
  · subst e
    exact h3 _ (List.mem_map_of_mem hx) _ (List.mem_cons_self ..) rfl
  · subst e
    exact (List.nodup_cons.1 h2).1 (List.mem_map_of_mem hx)
  · exact h3 _ (List.mem_map_of_mem hx) _ (List.mem_cons_of_mem _ (List.mem_map_of_mem hb)) rfl
/-- In a shorter table. -/
theorem fair_sub {H' Q Q' : List S24} (hS : PL.Single hdL Q) (hQ : Q'.Sublist Q) {A B : List S24} {w x : S24} (e : Q = A ++ w :: B) (hx : x ∈ A) (hm : mtL x w = true) (hg : hdL w ∈ (settleL H' Q').2.2.1) : ∀ y ∈ (settleL H' Q').2.1, hdL y ≠ hdL x := by
  have hS' := single_sub hS hQ
  obtain ⟨H1, W1, G1, N1, e1, st, _, _⟩ := PL.settle_spec (mt := mtL) (H := H') hS'
  rw [show settleL H' Q' = (H1, W1, G1, N1) from e1] at hg ⊢
  dsimp only at hg ⊢
  have hsub : W1.Sublist Q' := PL.steps_sub st
  have hwQ : w ∈ Q := by rw [e]; simp
  have hxQ : x ∈ Q := by rw [e]; exact List.mem_append_left _ hx
  have hwQ' : w ∈ Q' := by
    obtain ⟨A', B', _, e2, _, hp⟩ := PL.steps_news st
    rw [e2, List.nil_append, List.mem_map] at hg
    obtain ⟨z, hz, hze⟩ := hg
    have hzQ' : z ∈ Q' := hp.subset (by simp [hz])
    rw [single_mem hS hwQ (hQ.subset hzQ') hze.symm]
    exact hzQ'
  by_cases hxQ' : x ∈ Q'
  · subst e
    obtain ⟨h1, h2, h3⟩ := single_split hS
    obtain ⟨r1, r2, rfl, k1, k2⟩ := List.sublist_append_iff.1 hQ
    have hw2 : w ∈ r2 := by
      rcases List.mem_append.1 hwQ' with h | h
      · exact absurd rfl (h1 w (k1.subset h))
      · exact h
    have hx1 : x ∈ r1 := by
      rcases List.mem_append.1 hxQ' with h | h
      · exact h
      · rcases List.mem_cons.1 (k2.subset h) with h | h
        · exact absurd h (h1 x hx)
        · exact absurd h (h3 x hx)
    rcases List.sublist_cons_iff.1 k2 with h | ⟨s, rfl, _⟩
    · exact absurd rfl (h2 w (h.subset hw2))
    · exact PL.steps_fair hS' st rfl r1 w s rfl hg x hx1 hm
  · intro y hy he
    have := single_mem hS (hQ.subset (hsub.subset hy)) hxQ he
    subst this
    exact hxQ' (hsub.subset hy)
/-- The waits that an act meets, the asked one among them. -/
def metT (t : List S24 × List S24) (a : S37) : List S24 := t.2 ++ if kindA a = 1 then [a.f1] else []
theorem fair_news {t : List S24 × List S24} {a : S37} (h : Inv t.1 t.2) {A B : List S24} {w x : S24} (e : metT t a = A ++ w :: B) (hx : x ∈ A) (hm : mtL x w = true) (hg : w.f1 ∈ (newsT t a).1) : waitsB (nextT t a).2 x.f1 = false := by
  obtain ⟨H, Q⟩ := t
  dsimp only at h
  unfold metT at e
  unfold newsT at hg
  unfold nextT
  by_cases hz : (doneR H Q a).2 = 0
  · rw [if_pos hz] at hg ⊢
    dsimp only at hg ⊢ e
    refine waits_false ?_
    unfold doneR at hz hg ⊢
    split at hz
    · rename_i hk
      rw [if_pos hk] at hg
      simp at hg
    · rename_i hk
      rw [if_neg hk] at hg ⊢
      split at hz
      · rename_i hk
        rw [if_pos hk] at hg e ⊢
        unfold askF at hz hg ⊢
        by_cases hq : reqE H Q a.f1 = 0
        · rw [if_pos hq] at hg ⊢
          have hs : PL.Single hdL (Q ++ [a.f1]) := (req_good hq).single
          exact fair_sub hs (List.Sublist.refl _) e hx hm hg
        · rw [if_neg hq] at hz; exact absurd hz hq
      · rename_i hk
        rw [if_neg hk] at hg e ⊢
        rw [List.append_nil] at e
        split at hz
        · rename_i hk
          rw [if_pos hk] at hg ⊢
          obtain ⟨_, _, i, _, e2⟩ := unlock_ok hz
          rw [e2] at hg ⊢
          exact fair_sub h.single (List.Sublist.refl _) e hx hm hg
        · rename_i hk
          rw [if_neg hk] at hg ⊢
          split at hz
          · rename_i hk
            rw [if_pos hk] at hg ⊢
            obtain ⟨_, _, i, _, e2⟩ := cancel_ok hz
            rw [e2] at hg ⊢
            exact fair_sub h.single (List.eraseIdx_sublist Q i) e hx hm hg
          · rename_i hk
            rw [if_neg hk] at hg ⊢
            obtain ⟨_, _, e2⟩ := close_ok hz
            rw [e2] at hg ⊢
            exact fair_sub h.single List.filter_sublist e hx hm hg
  · rw [if_neg hz] at hg
    simp at hg
theorem fair_at {t : List S24 × List S24} {a : S37} (h : Inv t.1 t.2) {j k : Nat} (hjk : j < k) (hk : k < (metT t a).length) (hm : cfL (rd_T24 (metT t a) (j : Int)) (rd_T24 (metT t a) (k : Int)) = true) (hg : (rd_T24 (metT t a) (k : Int)).f1 ∈ (newsT t a).1) : waitsB (nextT t a).2 (rd_T24 (metT t a) (j : Int)).f1 = false := by
  rw [rd_at hk] at hm hg
  rw [rd_at (show j < (metT t a).length by omega)] at hm ⊢
  unfold cfL at hm
  simp only [Bool.and_eq_true] at hm
  obtain ⟨A, B, e, hA, _⟩ := PL.split_at (List.getElem?_eq_getElem hk)
  refine fair_news h e ?_ hm.2 hg
  have hj : (metT t a)[j]'(by omega) = A[j]'(by omega) := by
    have h1 : (metT t a)[j]? = A[j]? := by rw [e, List.getElem?_append_left (by omega)]
    rw [List.getElem?_eq_getElem (by omega), List.getElem?_eq_getElem (by omega)] at h1
    exact Option.some.inj h1
  rw [hj]
  exact List.getElem_mem _
theorem met_len {t : List S24 × List S24} {a : S37} (h : Inv t.1 t.2) : (metT t a).length ≤ 1000 := by
  have := h.len
  unfold metT
  split <;> simp <;> omega
end Go.Proofs.Ytifnfnoicinbaaa.M
