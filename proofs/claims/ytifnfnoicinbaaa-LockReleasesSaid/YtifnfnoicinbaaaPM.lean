/- Locks in plain lists: what settling does, step by step. -/
import Derived.Test.YtifnfnoicinbaaaPL
namespace Go.Proofs.Ytifnfnoicinbaaa.PL
set_option linter.unusedVariables false
set_option linter.unusedSimpArgs false

section
variable {α : Type} {hd : α → Int} {mt : α → α → Bool} {H W : List α}

theorem blks_split {A B : List α} {w : α} : blks mt H (A ++ w :: B) A.length = (H ++ A).filter (fun x => mt x w) := by
  unfold blks
  rw [List.getElem?_append_right (Nat.le_refl _), Nat.sub_self]
  simp
theorem split_at {l : List α} {i : Nat} {w : α} (h : l[i]? = some w) : ∃ A B, l = A ++ w :: B ∧ A.length = i ∧ l.eraseIdx i = A ++ B := by
  obtain ⟨hi, rfl⟩ := List.getElem?_eq_some_iff.1 h
  refine ⟨l.take i, l.drop (i + 1), ?_, by simp; omega, ?_⟩
  · rw [List.getElem_cons_drop, List.take_append_drop]
  · rw [List.eraseIdx_eq_take_drop_succ]
/-- One step of settling. -/
inductive Step1 (hd : α → Int) (mt : α → α → Bool) : List α → List α → List Int → List Int → List α → List α → List Int → List Int → Prop
  | grant {H A B w G N} : (∀ x ∈ H ++ A, mt x w = false) → Step1 hd mt H (A ++ w :: B) G N (H ++ [w]) (A ++ B) (G ++ [hd w]) N
  | gone {H A B w G N} : Circ hd mt H (A ++ w :: B) (hd w) → Step1 hd mt H (A ++ w :: B) G N H (A ++ B) G (N ++ [hd w])
inductive Steps (hd : α → Int) (mt : α → α → Bool) : List α → List α → List Int → List Int → List α → List α → List Int → List Int → Prop
  | refl {H W G N} : Steps hd mt H W G N H W G N
  | head {H W G N H1 W1 G1 N1 H2 W2 G2 N2} : Step1 hd mt H W G N H1 W1 G1 N1 → Steps hd mt H1 W1 G1 N1 H2 W2 G2 N2 → Steps hd mt H W G N H2 W2 G2 N2

theorem Step1.inv {H1 W1 : List α} {G N G1 N1 : List Int} (h : Step1 hd mt H W G N H1 W1 G1 N1) : ∃ A w B, W = A ++ w :: B ∧ W1 = A ++ B ∧ (((∀ x ∈ H ++ A, mt x w = false) ∧ H1 = H ++ [w] ∧ G1 = G ++ [hd w] ∧ N1 = N) ∨ (Circ hd mt H W (hd w) ∧ H1 = H ∧ G1 = G ∧ N1 = N ++ [hd w])) := by
  cases h with
  | grant hb => exact ⟨_, _, _, rfl, rfl, .inl ⟨hb, rfl, rfl, rfl⟩⟩
  | gone hc => exact ⟨_, _, _, rfl, rfl, .inr ⟨hc, rfl, rfl, rfl⟩⟩
theorem stuck_fold (p : α → Bool) : ∀ (l : List α) (o : Int), let r := l.foldl (fun out w => if decide (out < hd w) && p w then hd w else out) o
    o ≤ r ∧ (r = o ∨ ∃ w ∈ l, hd w = r ∧ p w = true) ∧ ∀ w ∈ l, p w = true → hd w ≤ r
  | [], o => ⟨Int.le_refl _, .inl rfl, by simp⟩
  | x :: l, o => by
    obtain ⟨h1, h2, h3⟩ := stuck_fold p l (if decide (o < hd x) && p x then hd x else o)
    by_cases hx : (decide (o < hd x) && p x) = true
    · simp only [List.foldl_cons]
      rw [if_pos hx] at h1 h2 h3 ⊢
      simp at hx
      refine ⟨by omega, ?_, fun w hw hp => ?_⟩
      · rcases h2 with h2 | ⟨w, hw, e, hp⟩
        · exact .inr ⟨x, List.mem_cons_self .., h2.symm, hx.2⟩
        · exact .inr ⟨w, List.mem_cons_of_mem _ hw, e, hp⟩
      · rcases List.mem_cons.1 hw with rfl | hw
        · exact h1
        · exact h3 w hw hp
    · simp only [List.foldl_cons]
      rw [if_neg hx] at h1 h2 h3 ⊢
      refine ⟨h1, ?_, fun w hw hp => ?_⟩
      · rcases h2 with h2 | ⟨w, hw, e, hp⟩
        · exact .inl h2
        · exact .inr ⟨w, List.mem_cons_of_mem _ hw, e, hp⟩
      · rcases List.mem_cons.1 hw with rfl | hw
        · simp [hp] at hx
          omega
        · exact h3 w hw hp
theorem stuckV_nonneg : 0 ≤ stuckV hd mt H W := (stuck_fold (fun w => circB hd mt H W (hd w)) W 0).1
theorem stuckV_some (h : stuckV hd mt H W ≠ 0) : ∃ w ∈ W, hd w = stuckV hd mt H W ∧ circB hd mt H W (hd w) = true := by
  rcases (stuck_fold (hd := hd) (fun w => circB hd mt H W (hd w)) W 0).2.1 with h1 | h1
  · exact absurd h1 h
  · exact h1
theorem stuckV_zero (h : stuckV hd mt H W = 0) (hp : ∀ w ∈ W, 0 < hd w) : ∀ w ∈ W, circB hd mt H W (hd w) = false := by
  intro w hw
  cases hc : circB hd mt H W (hd w) with
  | false => rfl
  | true =>
    have := (stuck_fold (hd := hd) (fun w => circB hd mt H W (hd w)) W 0).2.2 w hw hc
    have h2 := hp w hw
    unfold stuckV at h
    omega
theorem stuckV_of (h : ∀ w ∈ W, circB hd mt H W (hd w) = false) : stuckV hd mt H W = 0 := by
  rcases (stuck_fold (hd := hd) (fun w => circB hd mt H W (hd w)) W 0).2.1 with h1 | ⟨w, hw, _, hp⟩
  · exact h1
  · rw [h w hw] at hp; cases hp
theorem circ_waits {h : Int} (hc : Circ hd mt H W h) : ∃ w ∈ W, hd w = h := by
  have : ∀ a b, Relation.TransGen (Stp hd mt H W) a b → ∃ w ∈ W, hd w = a := by
    intro a b hb
    induction hb with
    | single h => obtain ⟨i, w, hw, ha, _⟩ := h; exact ⟨w, List.mem_of_getElem? hw, ha⟩
    | tail _ _ ih => exact ih
  exact this _ _ hc
theorem noCirc_of (hS : Single hd W) (hz : stuckV hd mt H W = 0) (hp : ∀ w ∈ W, 0 < hd w) : ∀ h, ¬ Circ hd mt H W h := by
  intro h hc
  obtain ⟨w, hw, rfl⟩ := circ_waits hc
  have := stuckV_zero hz hp w hw
  rw [(circB_iff hS _).2 hc] at this
  cases this
theorem freeI_some {i : Nat} (h : freeI mt H W = some i) : ∃ w, W[i]? = some w ∧ blks mt H W i = [] := by
  unfold freeI at h
  have h1 := List.find?_some h
  have h2 := List.mem_range.1 (List.mem_of_find?_eq_some h)
  exact ⟨W[i], List.getElem?_eq_getElem h2, by simpa using h1⟩
theorem freeI_none : freeI mt H W = none ↔ ∀ i, i < W.length → blks mt H W i ≠ [] := by
  unfold freeI
  rw [List.find?_eq_none]
  constructor
  · intro h i hi e
    have := h i (List.mem_range.2 hi)
    simp [e] at this
  · intro h i hi
    have := h i (List.mem_range.1 hi)
    simpa using this
theorem single_drop {A B : List α} {w : α} (h : Single hd (A ++ w :: B)) : Single hd (A ++ B) := by
  unfold Single at *
  refine h.sublist ?_
  simp

theorem settle_steps (hS : Single hd W) : ∀ (k : Nat) (H W : List α) (G N : List Int), Single hd W → W.length < k →
    ∃ H' W' G' N', settleF hd mt k H W G N = (H', W', G', N') ∧ Steps hd mt H W G N H' W' G' N' ∧ freeI mt H' W' = none ∧ stuckV hd mt H' W' = 0
  | 0, _, _, _, _, _, h => absurd h (by omega)
  | k + 1, H, W, G, N, hS1, hk => by
    unfold settleF
    cases hf : freeI mt H W with
    | some i =>
      obtain ⟨w, hw, hb⟩ := freeI_some hf
      dsimp only
      rw [hw]
      dsimp only
      obtain ⟨A, B, rfl, rfl, he⟩ := split_at hw
      rw [he]
      rw [blks_split] at hb
      obtain ⟨H', W', G', N', h1, h2, h3⟩ := settle_steps hS k (H ++ [w]) (A ++ B) (G ++ [hd w]) N (single_drop hS1) (by simp at hk ⊢; omega)
      refine ⟨H', W', G', N', h1, .head (.grant fun x hx => ?_) h2, h3⟩
      have := List.filter_eq_nil_iff.1 hb x hx
      simpa using this
    | none =>
      dsimp only
      by_cases hz : stuckV hd mt H W = 0
      · rw [if_pos hz]
        exact ⟨_, _, _, _, rfl, .refl, hf, hz⟩
      · rw [if_neg hz]
        obtain ⟨w, hw, he, hc⟩ := stuckV_some hz
        obtain ⟨i, hi⟩ := List.getElem?_of_mem hw
        rw [← he, waitI_of hS1 hi]
        dsimp only
        obtain ⟨A, B, rfl, rfl, he2⟩ := split_at hi
        rw [he2]
        obtain ⟨H', W', G', N', h1, h2, h3⟩ := settle_steps hS k H (A ++ B) G (N ++ [hd w]) (single_drop hS1) (by simp at hk ⊢; omega)
        exact ⟨H', W', G', N', h1, .head (.gone ((circB_iff hS1 _).1 hc)) h2, h3⟩
theorem settle_spec (hS : Single hd W) : ∃ H' W' G' N', settle hd mt H W = (H', W', G', N') ∧ Steps hd mt H W [] [] H' W' G' N' ∧ freeI mt H' W' = none ∧ stuckV hd mt H' W' = 0 :=
  settle_steps hS (W.length + 1) H W [] [] hS (by omega)
/-! What a step keeps. -/
variable {H1 W1 H2 W2 : List α} {G G1 N N1 G2 N2 : List Int}
def FreeH (mt : α → α → Bool) (H : List α) : Prop := H.Pairwise (fun a b => mt a b = false)
theorem step_sub (h : Step1 hd mt H W G N H1 W1 G1 N1) : W1.Sublist W := by
  cases h with
  | grant _ => simp
  | gone _ => simp
theorem step_len (h : Step1 hd mt H W G N H1 W1 G1 N1) : H1.length + W1.length ≤ H.length + W.length := by
  cases h with
  | grant _ => simp; omega
  | gone _ => simp
theorem steps_len (h : Steps hd mt H W G N H1 W1 G1 N1) : H1.length + W1.length ≤ H.length + W.length := by
  induction h with
  | refl => exact Nat.le_refl _
  | head s _ ih => exact Nat.le_trans ih (step_len s)
/-- The locks that were granted, and those that gave up, waited. -/
theorem steps_news (h : Steps hd mt H W G N H1 W1 G1 N1) : ∃ A B : List α, H1 = H ++ A ∧ G1 = G ++ A.map hd ∧ N1 = N ++ B.map hd ∧ (A ++ B ++ W1).Perm W := by
  induction h with
  | refl => exact ⟨[], [], by simp, by simp, by simp, by simp⟩
  | head s _ ih =>
    obtain ⟨A, B, e1, e2, e3, hp⟩ := ih
    obtain ⟨A0, w, B0, rfl, rfl, ⟨hb, rfl, rfl, rfl⟩ | ⟨hc, rfl, rfl, rfl⟩⟩ := s.inv
    · refine ⟨w :: A, B, by rw [e1]; simp, by rw [e2]; simp, e3, ?_⟩
      have := (List.Perm.cons w hp)
      simp only [List.cons_append]
      exact this.trans (List.perm_middle.symm)
    · refine ⟨A, w :: B, e1, e2, by rw [e3]; simp, ?_⟩
      have h1 : ∀ Z, (A ++ w :: B ++ Z).Perm (w :: (A ++ B ++ Z)) := fun Z => by
        simp only [List.append_assoc, List.cons_append]
        exact List.perm_middle
      exact (h1 _).trans ((List.Perm.cons w hp).trans (List.perm_middle.symm))
end
end Go.Proofs.Ytifnfnoicinbaaa.PL
