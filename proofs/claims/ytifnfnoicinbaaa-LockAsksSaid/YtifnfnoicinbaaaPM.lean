/- Locks in plain lists: what settling does, step by step. -/
import Derived.Test.YtifnfnoicinbaaaPL
namespace Go.Proofs.Ytifnfnoicinbaaa.PL
set_option linter.unusedVariables false
set_option linter.unusedSimpArgs false

section
variable {α : Type} {hd : α → Int} {mt : α → α → Bool} {H W : List α}

theorem blks_split {A B : List α} {w : α} : blks mt H (A ++ w :: B) A.length = (H ++ A).filter (fun x => mt x w) := by
  unfold blks
  rw [List.getElem?_append_right (Nat.le_refl _), Nat.sub_self]
  simp
theorem split_at {l : List α} {i : Nat} {w : α} (h : l[i]? = some w) : ∃ A B, l = A ++ w :: B ∧ A.length = i ∧ l.eraseIdx i = A ++ B := by
  obtain ⟨hi, rfl⟩ := List.getElem?_eq_some_iff.1 h
  refine ⟨l.take i, l.drop (i + 1), ?_, by simp; omega, ?_⟩
  · rw [List.getElem_cons_drop, List.take_append_drop]
  · rw [List.eraseIdx_eq_take_drop_succ]
theorem stp_iff {a b : Int} : Stp hd mt H W a b ↔ ∃ A w B x, W = A ++ w :: B ∧ hd w = a ∧ x ∈ H ++ A ∧ mt x w = true ∧ hd x = b := by
  constructor
  · rintro ⟨i, w, hw, ha, x, hx, hb⟩
    obtain ⟨A, B, rfl, rfl, _⟩ := split_at hw
    rw [blks_split, List.mem_filter] at hx
    exact ⟨A, w, B, x, rfl, ha, hx.1, hx.2, hb⟩
  · rintro ⟨A, w, B, x, rfl, ha, hx, hm, hb⟩
    exact ⟨A.length, w, by simp, ha, x, by rw [blks_split, List.mem_filter]; exact ⟨hx, hm⟩, hb⟩

/-- One step of settling. -/
inductive Step1 (hd : α → Int) (mt : α → α → Bool) : List α → List α → List Int → List Int → List α → List α → List Int → List Int → Prop
  | grant {H A B w G N} : (∀ x ∈ H ++ A, mt x w = false) → Step1 hd mt H (A ++ w :: B) G N (H ++ [w]) (A ++ B) (G ++ [hd w]) N
  | gone {H A B w G N} : Circ hd mt H (A ++ w :: B) (hd w) → Step1 hd mt H (A ++ w :: B) G N H (A ++ B) G (N ++ [hd w])
inductive Steps (hd : α → Int) (mt : α → α → Bool) : List α → List α → List Int → List Int → List α → List α → List Int → List Int → Prop
  | refl {H W G N} : Steps hd mt H W G N H W G N
  | head {H W G N H1 W1 G1 N1 H2 W2 G2 N2} : Step1 hd mt H W G N H1 W1 G1 N1 → Steps hd mt H1 W1 G1 N1 H2 W2 G2 N2 → Steps hd mt H W G N H2 W2 G2 N2

theorem Step1.inv {H1 W1 : List α} {G N G1 N1 : List Int} (h : Step1 hd mt H W G N H1 W1 G1 N1) : ∃ A w B, W = A ++ w :: B ∧ W1 = A ++ B ∧ (((∀ x ∈ H ++ A, mt x w = false) ∧ H1 = H ++ [w] ∧ G1 = G ++ [hd w] ∧ N1 = N) ∨ (Circ hd mt H W (hd w) ∧ H1 = H ∧ G1 = G ∧ N1 = N ++ [hd w])) := by
  cases h with
  | grant hb => exact ⟨_, _, _, rfl, rfl, .inl ⟨hb, rfl, rfl, rfl⟩⟩
  | gone hc => exact ⟨_, _, _, rfl, rfl, .inr ⟨hc, rfl, rfl, rfl⟩⟩
theorem stuck_fold (p : α → Bool) : ∀ (l : List α) (o : Int), let r := l.foldl (fun out w => if decide (out < hd w) && p w then hd w else out) o
    o ≤ r ∧ (r = o ∨ ∃ w ∈ l, hd w = r ∧ p w = true) ∧ ∀ w ∈ l, p w = true → hd w ≤ r
  | [], o => ⟨Int.le_refl _, .inl rfl, by simp⟩
  | x :: l, o => by
    obtain ⟨h1, h2, h3⟩ := stuck_fold p l (if decide (o < hd x) && p x then hd x else o)
    by_cases hx : (decide (o < hd x) && p x) = true
    · simp only [List.foldl_cons]
      rw [if_pos hx] at h1 h2 h3 ⊢
      simp at hx
      refine ⟨by omega, ?_, fun w hw hp => ?_⟩
      · rcases h2 with h2 | ⟨w, hw, e, hp⟩
        · exact .inr ⟨x, List.mem_cons_self .., h2.symm, hx.2⟩
        · exact .inr ⟨w, List.mem_cons_of_mem _ hw, e, hp⟩
      · rcases List.mem_cons.1 hw with rfl | hw
        · exact h1
        · exact h3 w hw hp
    · simp only [List.foldl_cons]
      rw [if_neg hx] at h1 h2 h3 ⊢
      refine ⟨h1, ?_, fun w hw hp => ?_⟩
      · rcases h2 with h2 | ⟨w, hw, e, hp⟩
        · exact .inl h2
        · exact .inr ⟨w, List.mem_cons_of_mem _ hw, e, hp⟩
      · rcases List.mem_cons.1 hw with rfl | hw
        · simp [hp] at hx
          omega
        · exact h3 w hw hp
theorem stuckV_nonneg : 0 ≤ stuckV hd mt H W := (stuck_fold (fun w => circB hd mt H W (hd w)) W 0).1
theorem stuckV_some (h : stuckV hd mt H W ≠ 0) : ∃ w ∈ W, hd w = stuckV hd mt H W ∧ circB hd mt H W (hd w) = true := by
  rcases (stuck_fold (hd := hd) (fun w => circB hd mt H W (hd w)) W 0).2.1 with h1 | h1
  · exact absurd h1 h
  · exact h1
theorem stuckV_zero (h : stuckV hd mt H W = 0) (hp : ∀ w ∈ W, 0 < hd w) : ∀ w ∈ W, circB hd mt H W (hd w) = false := by
  intro w hw
  cases hc : circB hd mt H W (hd w) with
  | false => rfl
  | true =>
    have := (stuck_fold (hd := hd) (fun w => circB hd mt H W (hd w)) W 0).2.2 w hw hc
    have h2 := hp w hw
    unfold stuckV at h
    omega
theorem stuckV_of (h : ∀ w ∈ W, circB hd mt H W (hd w) = false) : stuckV hd mt H W = 0 := by
  rcases (stuck_fold (hd := hd) (fun w => circB hd mt H W (hd w)) W 0).2.1 with h1 | ⟨w, hw, _, hp⟩
  · exact h1
  · rw [h w hw] at hp; cases hp
theorem circ_waits {h : Int} (hc : Circ hd mt H W h) : ∃ w ∈ W, hd w = h := by
  have : ∀ a b, Relation.TransGen (Stp hd mt H W) a b → ∃ w ∈ W, hd w = a := by
    intro a b hb
    induction hb with
    | single h => obtain ⟨i, w, hw, ha, _⟩ := h; exact ⟨w, List.mem_of_getElem? hw, ha⟩
    | tail _ _ ih => exact ih
  exact this _ _ hc
theorem noCirc_of (hS : Single hd W) (hz : stuckV hd mt H W = 0) (hp : ∀ w ∈ W, 0 < hd w) : ∀ h, ¬ Circ hd mt H W h := by
  intro h hc
  obtain ⟨w, hw, rfl⟩ := circ_waits hc
  have := stuckV_zero hz hp w hw
  rw [(circB_iff hS _).2 hc] at this
  cases this
theorem stuckV_noCirc (hS : Single hd W) (h : ∀ h, ¬ Circ hd mt H W h) : stuckV hd mt H W = 0 :=
  stuckV_of fun w hw => by
    cases hc : circB hd mt H W (hd w) with
    | false => rfl
    | true => exact absurd ((circB_iff hS _).1 hc) (h _)
theorem freeI_some {i : Nat} (h : freeI mt H W = some i) : ∃ w, W[i]? = some w ∧ blks mt H W i = [] := by
  unfold freeI at h
  have h1 := List.find?_some h
  have h2 := List.mem_range.1 (List.mem_of_find?_eq_some h)
  exact ⟨W[i], List.getElem?_eq_getElem h2, by simpa using h1⟩
theorem freeI_none : freeI mt H W = none ↔ ∀ i, i < W.length → blks mt H W i ≠ [] := by
  unfold freeI
  rw [List.find?_eq_none]
  constructor
  · intro h i hi e
    have := h i (List.mem_range.2 hi)
    simp [e] at this
  · intro h i hi
    have := h i (List.mem_range.1 hi)
    simpa using this
theorem freeI_none' : freeI mt H W = none ↔ ∀ A w B, W = A ++ w :: B → ∃ x ∈ H ++ A, mt x w = true := by
  rw [freeI_none]
  constructor
  · rintro h A w B rfl
    have := h A.length (by simp)
    rw [blks_split] at this
    obtain ⟨x, hx⟩ := List.exists_mem_of_ne_nil _ this
    exact ⟨x, (List.mem_filter.1 hx).1, (List.mem_filter.1 hx).2⟩
  · intro h i hi e
    obtain ⟨A, B, h1, h2, _⟩ := split_at (List.getElem?_eq_getElem hi)
    obtain ⟨x, hx, hm⟩ := h A _ B h1
    have h3 : blks mt H W A.length = (H ++ A).filter (fun x => mt x (W[i])) := by
      have := blks_split (mt := mt) (H := H) (A := A) (B := B) (w := W[i])
      rwa [← h1] at this
    rw [h2, e] at h3
    have : x ∈ (H ++ A).filter (fun x => mt x (W[i])) := List.mem_filter.2 ⟨hx, hm⟩
    rw [← h3] at this
    cases this
theorem single_drop {A B : List α} {w : α} (h : Single hd (A ++ w :: B)) : Single hd (A ++ B) := by
  unfold Single at *
  refine h.sublist ?_
  simp

theorem settle_steps (hS : Single hd W) : ∀ (k : Nat) (H W : List α) (G N : List Int), Single hd W → W.length < k →
    ∃ H' W' G' N', settleF hd mt k H W G N = (H', W', G', N') ∧ Steps hd mt H W G N H' W' G' N' ∧ freeI mt H' W' = none ∧ stuckV hd mt H' W' = 0
  | 0, _, _, _, _, _, h => absurd h (by omega)
  | k + 1, H, W, G, N, hS1, hk => by
    unfold settleF
    cases hf : freeI mt H W with
    | some i =>
      obtain ⟨w, hw, hb⟩ := freeI_some hf
      dsimp only
      rw [hw]
      dsimp only
      obtain ⟨A, B, rfl, rfl, he⟩ := split_at hw
      rw [he]
      rw [blks_split] at hb
      obtain ⟨H', W', G', N', h1, h2, h3⟩ := settle_steps hS k (H ++ [w]) (A ++ B) (G ++ [hd w]) N (single_drop hS1) (by simp at hk ⊢; omega)
      refine ⟨H', W', G', N', h1, .head (.grant fun x hx => ?_) h2, h3⟩
      have := List.filter_eq_nil_iff.1 hb x hx
      simpa using this
    | none =>
      dsimp only
      by_cases hz : stuckV hd mt H W = 0
      · rw [if_pos hz]
        exact ⟨_, _, _, _, rfl, .refl, hf, hz⟩
      · rw [if_neg hz]
        obtain ⟨w, hw, he, hc⟩ := stuckV_some hz
        obtain ⟨i, hi⟩ := List.getElem?_of_mem hw
        rw [← he, waitI_of hS1 hi]
        dsimp only
        obtain ⟨A, B, rfl, rfl, he2⟩ := split_at hi
        rw [he2]
        obtain ⟨H', W', G', N', h1, h2, h3⟩ := settle_steps hS k H (A ++ B) G (N ++ [hd w]) (single_drop hS1) (by simp at hk ⊢; omega)
        exact ⟨H', W', G', N', h1, .head (.gone ((circB_iff hS1 _).1 hc)) h2, h3⟩
theorem settle_spec (hS : Single hd W) : ∃ H' W' G' N', settle hd mt H W = (H', W', G', N') ∧ Steps hd mt H W [] [] H' W' G' N' ∧ freeI mt H' W' = none ∧ stuckV hd mt H' W' = 0 :=
  settle_steps hS (W.length + 1) H W [] [] hS (by omega)
theorem settle_still (h1 : freeI mt H W = none) (h2 : stuckV hd mt H W = 0) : settle hd mt H W = (H, W, [], []) := by
  unfold settle settleF
  rw [h1]
  dsimp only
  rw [if_pos h2]

/-! What a step keeps. -/
variable {H1 W1 H2 W2 : List α} {G G1 N N1 G2 N2 : List Int}
def FreeH (mt : α → α → Bool) (H : List α) : Prop := H.Pairwise (fun a b => mt a b = false)
theorem step_free (hs : ∀ a b, mt a b = mt b a) (h : Step1 hd mt H W G N H1 W1 G1 N1) (hf : FreeH mt H) : FreeH mt H1 := by
  cases h with
  | grant hb =>
    unfold FreeH at *
    rw [List.pairwise_append]
    refine ⟨hf, by simp, fun a ha b hbb => ?_⟩
    rw [List.mem_singleton] at hbb
    subst hbb
    exact hb a (List.mem_append_left _ ha)
  | gone _ => exact hf
theorem step_single (h : Step1 hd mt H W G N H1 W1 G1 N1) (hS : Single hd W) : Single hd W1 := by
  cases h with
  | grant _ => exact single_drop hS
  | gone _ => exact single_drop hS
theorem step_sub (h : Step1 hd mt H W G N H1 W1 G1 N1) : W1.Sublist W := by
  cases h with
  | grant _ => simp
  | gone _ => simp
theorem step_len (h : Step1 hd mt H W G N H1 W1 G1 N1) : H1.length + W1.length ≤ H.length + W.length := by
  cases h with
  | grant _ => simp; omega
  | gone _ => simp
theorem step_all (h : Step1 hd mt H W G N H1 W1 G1 N1) {p : α → Prop} (hH : ∀ x ∈ H, p x) (hW : ∀ x ∈ W, p x) : (∀ x ∈ H1, p x) ∧ ∀ x ∈ W1, p x := by
  refine ⟨?_, fun x hx => hW x ((step_sub h).subset hx)⟩
  cases h with
  | grant _ =>
    intro x hx
    rcases List.mem_append.1 hx with h | h
    · exact hH x h
    · exact hW x (by rw [List.mem_singleton] at h; subst h; simp)
  | gone _ => exact hH
/-- A step makes no new way. -/
theorem stp_sub (hH : H1.Sublist H) (hW : W1.Sublist W) {a b : Int} (h : Stp hd mt H1 W1 a b) : Stp hd mt H W a b := by
  rw [stp_iff] at h ⊢
  obtain ⟨A, w, B, x, rfl, ha, hx, hm, hb⟩ := h
  obtain ⟨r1, r2, rfl, h1, h2⟩ := List.append_sublist_iff.1 hW
  obtain ⟨s1, s2, rfl, h3, h4⟩ := List.cons_sublist_iff.1 h2
  obtain ⟨t1, t2, rfl⟩ := List.append_of_mem h3
  refine ⟨r1 ++ t1, w, t2 ++ s2, x, by simp, ha, ?_, hm, hb⟩
  rcases List.mem_append.1 hx with h | h
  · exact List.mem_append_left _ (hH.subset h)
  · exact List.mem_append_right _ (List.mem_append_left _ (h1.subset h))
theorem step_way (hs : ∀ a b, mt a b = mt b a) (h : Step1 hd mt H W G N H1 W1 G1 N1) {a b : Int} (hab : Stp hd mt H1 W1 a b) : Stp hd mt H W a b := by
  obtain ⟨A, w, B, rfl, rfl, ⟨hb, rfl, rfl, rfl⟩ | ⟨hc, rfl, rfl, rfl⟩⟩ := h.inv
  rotate_left
  · exact stp_sub (List.Sublist.refl _) (by simp) hab
  · rw [stp_iff] at hab ⊢
    obtain ⟨A', w', B', x, he, ha, hx, hm, hbb⟩ := hab
    rcases List.append_eq_append_iff.1 he with ⟨C, rfl, hC⟩ | ⟨C, rfl, hC⟩
    · -- A' = A ++ C: the wait stands behind
      refine ⟨A ++ w :: C, w', B', x, by rw [hC]; simp, ha, ?_, hm, hbb⟩
      simp only [List.mem_append, List.mem_cons, List.mem_singleton, List.not_mem_nil, or_false] at hx ⊢
      rcases hx with (h | h) | h | h
      · exact .inl h
      · exact .inr (.inr (.inl h))
      · exact .inr (.inl h)
      · exact .inr (.inr (.inr h))
    · cases C with
      | nil =>
        simp at hC
        subst hC
        refine ⟨A' ++ [w], w', B', x, by simp, ha, ?_, hm, hbb⟩
        simp only [List.mem_append, List.mem_cons, List.mem_singleton, List.not_mem_nil, or_false] at hx ⊢
        rcases hx with (h | h) | h
        · exact .inl h
        · exact .inr (.inr h)
        · exact .inr (.inl h)
      | cons c C =>
        simp at hC
        obtain ⟨rfl, rfl⟩ := hC
        refine ⟨A', w', C ++ w :: B, x, by simp, ha, ?_, hm, hbb⟩
        simp only [List.mem_append, List.mem_cons, List.mem_singleton, List.not_mem_nil, or_false] at hx ⊢
        rcases hx with (h | h) | h
        · exact .inl h
        · subst h
          exfalso
          have := hb w' (by simp)
          rw [hs, hm] at this
          cases this
        · exact .inr h
theorem circ_mono (h : ∀ a b, Stp hd mt H1 W1 a b → Stp hd mt H W a b) {c : Int} (hc : Circ hd mt H1 W1 c) : Circ hd mt H W c := by
  have : ∀ a b, Relation.TransGen (Stp hd mt H1 W1) a b → Relation.TransGen (Stp hd mt H W) a b := by
    intro a b hb
    induction hb with
    | single x => exact .single (h _ _ x)
    | tail _ x ih => exact .tail ih (h _ _ x)
  exact this _ _ hc
theorem steps_free (hs : ∀ a b, mt a b = mt b a) (h : Steps hd mt H W G N H1 W1 G1 N1) (hf : FreeH mt H) : FreeH mt H1 := by
  induction h with
  | refl => exact hf
  | head s _ ih => exact ih (step_free hs s hf)
theorem steps_single (h : Steps hd mt H W G N H1 W1 G1 N1) (hS : Single hd W) : Single hd W1 := by
  induction h with
  | refl => exact hS
  | head s _ ih => exact ih (step_single s hS)
theorem steps_sub (h : Steps hd mt H W G N H1 W1 G1 N1) : W1.Sublist W := by
  induction h with
  | refl => exact List.Sublist.refl _
  | head s _ ih => exact ih.trans (step_sub s)
theorem steps_len (h : Steps hd mt H W G N H1 W1 G1 N1) : H1.length + W1.length ≤ H.length + W.length := by
  induction h with
  | refl => exact Nat.le_refl _
  | head s _ ih => exact Nat.le_trans ih (step_len s)
theorem steps_all (h : Steps hd mt H W G N H1 W1 G1 N1) {p : α → Prop} (hH : ∀ x ∈ H, p x) (hW : ∀ x ∈ W, p x) : (∀ x ∈ H1, p x) ∧ ∀ x ∈ W1, p x := by
  induction h with
  | refl => exact ⟨hH, hW⟩
  | head s _ ih => exact ih (step_all s hH hW).1 (step_all s hH hW).2
theorem steps_none (hs : ∀ a b, mt a b = mt b a) (h : Steps hd mt H W G N H1 W1 G1 N1) (hc : ∀ c, ¬ Circ hd mt H W c) : N1 = N ∧ ∀ c, ¬ Circ hd mt H1 W1 c := by
  induction h with
  | refl => exact ⟨rfl, hc⟩
  | head s _ ih =>
    have h1 := ih (fun c hcc => hc c (circ_mono (fun a b => step_way hs s) hcc))
    cases s with
    | grant _ => exact h1
    | gone hg => exact absurd hg (hc _)
/-- The locks that were granted, and those that gave up, waited. -/
theorem steps_news (h : Steps hd mt H W G N H1 W1 G1 N1) : ∃ A B : List α, H1 = H ++ A ∧ G1 = G ++ A.map hd ∧ N1 = N ++ B.map hd ∧ (A ++ B ++ W1).Perm W := by
  induction h with
  | refl => exact ⟨[], [], by simp, by simp, by simp, by simp⟩
  | head s _ ih =>
    obtain ⟨A, B, e1, e2, e3, hp⟩ := ih
    obtain ⟨A0, w, B0, rfl, rfl, ⟨hb, rfl, rfl, rfl⟩ | ⟨hc, rfl, rfl, rfl⟩⟩ := s.inv
    · refine ⟨w :: A, B, by rw [e1]; simp, by rw [e2]; simp, e3, ?_⟩
      have := (List.Perm.cons w hp)
      simp only [List.cons_append]
      exact this.trans (List.perm_middle.symm)
    · refine ⟨A, w :: B, e1, e2, by rw [e3]; simp, ?_⟩
      have h1 : ∀ Z, (A ++ w :: B ++ Z).Perm (w :: (A ++ B ++ Z)) := fun Z => by
        simp only [List.append_assoc, List.cons_append]
        exact List.perm_middle
      exact (h1 _).trans ((List.Perm.cons w hp).trans (List.perm_middle.symm))
/-- Whoever was granted had no earlier wait in its way that waits still. -/
theorem steps_fair (hS : Single hd W) (h : Steps hd mt H W G N H1 W1 G1 N1) (hG : G = []) : ∀ A w B, W = A ++ w :: B → hd w ∈ G1 → ∀ x ∈ A, mt x w = true → ∀ y ∈ W1, hd y ≠ hd x := by
  suffices hh : ∀ A w B, W = A ++ w :: B → hd w ∈ G1 → hd w ∉ G → ∀ x ∈ A, mt x w = true → ∀ y ∈ W1, hd y ≠ hd x by
    subst hG
    intro A w B e hw
    exact hh A w B e hw (by simp)
  clear hG
  induction h with
  | refl => intro A w B e h1 h2; exact absurd h1 h2
  | @head H W G N H1 W1 G1 N1 H2 W2 G2 N2 s hrest ih =>
    intro A w B e h1 h2 x hx hm y hy
    have hS1 := step_single s hS
    -- the wait that leaves
    have key : ∀ A0 w0 B0, W = A0 ++ w0 :: B0 → W1 = A0 ++ B0 → hd w ∉ G1 → hd y ≠ hd x := by
      intro A0 w0 B0 e0 e1 hg1
      subst e1
      rw [e] at e0
      by_cases hw : w0 = w
      · -- w itself leaves, but is not granted now: it is never granted
        subst hw
        exfalso
        obtain ⟨C, D, _, hGG, _, hp⟩ := steps_news hrest
        rw [hGG] at h1
        rcases List.mem_append.1 h1 with h | h
        · exact hg1 h
        · obtain ⟨z, hz, hze⟩ := List.mem_map.1 h
          have hzW : z ∈ A0 ++ B0 := hp.subset (by simp [hz])
          rw [e] at hS
          rw [e0] at hS
          unfold Single at hS
          rw [List.map_append, List.map_cons, List.nodup_append] at hS
          obtain ⟨_, h4, h5⟩ := hS
          rcases List.mem_append.1 hzW with h6 | h6
          · exact h5 _ (List.mem_map_of_mem h6) _ (List.mem_cons_self ..) hze
          · exact (List.nodup_cons.1 h4).1 (hze ▸ List.mem_map_of_mem h6)
      · by_cases hxw : w0 = x
        · subst hxw
          -- x leaves: nobody of that handle waits any more
          intro he
          have hyW : y ∈ A0 ++ B0 := (steps_sub hrest).subset hy
          rw [e, e0] at hS
          unfold Single at hS
          rw [List.map_append, List.map_cons, List.nodup_append] at hS
          obtain ⟨_, h4, h5⟩ := hS
          rcases List.mem_append.1 hyW with h6 | h6
          · exact h5 _ (List.mem_map_of_mem h6) _ (List.mem_cons_self ..) he
          · exact (List.nodup_cons.1 h4).1 (he ▸ List.mem_map_of_mem h6)
        · rcases List.append_eq_append_iff.1 e0 with ⟨C, rfl, hC⟩ | ⟨C, rfl, hC⟩
          · -- A0 = A ++ C
            cases C with
            | nil => simp at hC; exact absurd hC.1.symm hw
            | cons c C =>
              simp at hC
              obtain ⟨rfl, rfl⟩ := hC
              exact ih hS1 A w (C ++ B0) (by simp) h1 hg1 x hx hm y hy
          · cases C with
            | nil => simp at hC; exact absurd hC.1 hw
            | cons c C =>
              simp at hC
              obtain ⟨rfl, rfl⟩ := hC
              refine ih hS1 (A0 ++ C) w B (by simp) h1 hg1 x ?_ hm y hy
              simp only [List.mem_append, List.mem_cons] at hx ⊢
              rcases hx with h | h | h
              · exact .inl h
              · exact absurd h.symm hxw
              · exact .inr h
    obtain ⟨A0, w0, B0, rfl, rfl, ⟨hb, rfl, rfl, rfl⟩ | ⟨hc, rfl, rfl, rfl⟩⟩ := s.inv
    · by_cases hw : hd w0 = hd w
      · -- w is granted: nothing in its way
        exfalso
        have hi : (A0 ++ w0 :: B0)[A0.length]? = some w0 := by simp
        have hj : (A0 ++ w0 :: B0)[A.length]? = some w := by rw [e]; simp
        have hij := hS.inj hi hj hw
        have hww : w0 = w := by rw [hij] at hi; rw [hi] at hj; exact Option.some.inj hj
        subst hww
        have hAA : A0 = A := by
          have := congrArg (List.take A.length) e
          rw [← hij, List.take_left, hij] at this
          rw [this, List.take_left]
        subst hAA
        have := hb x (List.mem_append_right _ hx)
        rw [hm] at this
        cases this
      · exact key A0 w0 B0 rfl rfl (by
          rw [List.mem_append, List.mem_singleton]
          rintro (h | h)
          · exact h2 h
          · exact hw h.symm)
    · exact key A0 w0 B0 rfl rfl h2
end
end Go.Proofs.Ytifnfnoicinbaaa.PL
