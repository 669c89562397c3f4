/- Locks in plain lists: what blocks a wait, circles of waits, settling. -/
namespace Go.Proofs.Ytifnfnoicinbaaa.PL
set_option linter.unusedVariables false
set_option linter.unusedSimpArgs false

section
variable {α : Type} (hd : α → Int) (mt : α → α → Bool)

/-- The locks for which the wait i waits. -/
def blks (H W : List α) (i : Nat) : List α :=
  match W[i]? with
  | none => []
  | some w => (H ++ W.take i).filter (fun x => mt x w)
/-- The wait of a handle. -/
def waitI (W : List α) (h : Int) : Option Nat := W.findIdx? (fun w => hd w == h)
/-- The handles for which a handle waits. -/
def succs (H W : List α) (h : Int) : List Int :=
  match waitI hd W h with
  | none => []
  | some i => (blks mt H W i).map hd
/-- The search of the reference: is the target met? -/
def bfs (H W : List α) (t : Int) : Nat → List Int → List Int → Bool
  | 0, _, _ => false
  | _ + 1, _, [] => false
  | k + 1, M, h :: rest => if h = t then true else if h ∈ M then bfs H W t k M rest else bfs H W t k (h :: M) (rest ++ succs hd mt H W h)
def fuelN (H W : List α) : Nat := (H.length + W.length + 1) * (H.length + W.length + 2) + 1
/-- A handle waits, over others, for itself. -/
def circB (H W : List α) (h : Int) : Bool := bfs hd mt H W h (fuelN H W) [] (succs hd mt H W h)
/-- The greatest handle in a deadlock. -/
def stuckV (H W : List α) : Int := W.foldl (fun out w => if decide (out < hd w) && circB hd mt H W (hd w) then hd w else out) 0
/-- The first wait that nothing blocks. -/
def freeI (H W : List α) : Option Nat := (List.range W.length).find? (fun i => (blks mt H W i).isEmpty)
/-- Settling: what is held, what waits, who was granted, who gave up. -/
def settleF : Nat → List α → List α → List Int → List Int → List α × List α × List Int × List Int
  | 0, H, W, G, N => (H, W, G, N)
  | k + 1, H, W, G, N =>
    match freeI mt H W with
    | some i =>
      match W[i]? with
      | none => (H, W, G, N)
      | some w => settleF k (H ++ [w]) (W.eraseIdx i) (G ++ [hd w]) N
    | none =>
      if stuckV hd mt H W = 0 then (H, W, G, N) else
        match waitI hd W (stuckV hd mt H W) with
        | none => (H, W, G, N)
        | some i => settleF k H (W.eraseIdx i) G (N ++ [stuckV hd mt H W])
def settle (H W : List α) : List α × List α × List Int × List Int := settleF hd mt (W.length + 1) H W [] []

/-- A handle waits for another one. -/
def Stp (H W : List α) (a b : Int) : Prop := ∃ i w, W[i]? = some w ∧ hd w = a ∧ ∃ x, x ∈ blks mt H W i ∧ hd x = b
def Single (W : List α) : Prop := (W.map hd).Nodup
def Circ (H W : List α) (h : Int) : Prop := Relation.TransGen (Stp hd mt H W) h h
end

section
variable {α : Type} {hd : α → Int} {mt : α → α → Bool} {H W : List α}

theorem Single.inj (h : Single hd W) {i j : Nat} {a b : α} (hi : W[i]? = some a) (hj : W[j]? = some b) (e : hd a = hd b) : i = j := by
  have hn := h
  unfold Single at hn
  rw [List.nodup_iff_pairwise_ne, List.pairwise_iff_getElem] at hn
  have hli := (List.getElem?_eq_some_iff.1 hi)
  have hlj := (List.getElem?_eq_some_iff.1 hj)
  obtain ⟨li, ei⟩ := hli
  obtain ⟨lj, ej⟩ := hlj
  rcases Nat.lt_trichotomy i j with h1 | h1 | h1
  · exact (hn i j (by simpa using li) (by simpa using lj) h1 (by simp only [List.getElem_map]; rw [ei, ej, e])).elim
  · exact h1
  · exact (hn j i (by simpa using lj) (by simpa using li) h1 (by simp only [List.getElem_map]; rw [ei, ej, e])).elim
theorem waitI_some {h : Int} {i : Nat} (hw : waitI hd W h = some i) : ∃ w, W[i]? = some w ∧ hd w = h := by
  unfold waitI at hw
  rw [List.findIdx?_eq_some_iff_getElem] at hw
  obtain ⟨hi, hp, _⟩ := hw
  exact ⟨W[i], List.getElem?_eq_getElem hi, by simpa using hp⟩
theorem waitI_none {h : Int} (hw : waitI hd W h = none) : ∀ w ∈ W, hd w ≠ h := by
  unfold waitI at hw
  rw [List.findIdx?_eq_none_iff] at hw
  intro w hm e
  have := hw w hm
  simp [e] at this
theorem waitI_of (hS : Single hd W) {i : Nat} {w : α} (hi : W[i]? = some w) : waitI hd W (hd w) = some i := by
  cases hq : waitI hd W (hd w) with
  | none => exact absurd rfl (waitI_none hq w (List.mem_of_getElem? hi))
  | some j =>
    obtain ⟨w', hj, he⟩ := waitI_some hq
    rw [hS.inj hj hi he]
theorem mem_succs (hS : Single hd W) {a b : Int} : b ∈ succs hd mt H W a ↔ Stp hd mt H W a b := by
  unfold succs Stp
  constructor
  · intro h
    cases hq : waitI hd W a with
    | none => rw [hq] at h; cases h
    | some i =>
      rw [hq] at h
      obtain ⟨w, hw, he⟩ := waitI_some hq
      obtain ⟨x, hx, hxe⟩ := List.mem_map.1 h
      exact ⟨i, w, hw, he, x, hx, hxe⟩
  · rintro ⟨i, w, hw, rfl, x, hx, rfl⟩
    rw [waitI_of hS hw]
    exact List.mem_map.2 ⟨x, hx, rfl⟩
theorem blks_len (i : Nat) : (blks mt H W i).length ≤ H.length + W.length := by
  unfold blks
  split
  · simp
  · refine Nat.le_trans (List.length_filter_le _ _) ?_
    simp; omega
theorem succs_len (a : Int) : (succs hd mt H W a).length ≤ H.length + W.length := by
  unfold succs
  split
  · simp
  · simp; exact blks_len _
theorem blks_mem {i : Nat} {x : α} (h : x ∈ blks mt H W i) : x ∈ H ++ W := by
  unfold blks at h
  split at h
  · cases h
  · have := (List.mem_filter.1 h).1
    rcases List.mem_append.1 this with h1 | h1
    · exact List.mem_append_left _ h1
    · exact List.mem_append_right _ (List.mem_of_mem_take h1)
theorem stp_mem {a b : Int} (h : Stp hd mt H W a b) : b ∈ (H ++ W).map hd := by
  obtain ⟨i, w, _, _, x, hx, rfl⟩ := h
  exact List.mem_map.2 ⟨x, blks_mem hx, rfl⟩

/-- How many handles are not marked. -/
def leftN (U M : List Int) : Nat := (U.filter (fun x => decide (x ∉ M))).length
theorem leftN_le (U M : List Int) : leftN U M ≤ U.length := List.length_filter_le _ _
theorem filter_lt {β : Type} {p q : β → Bool} : ∀ {l : List β} {x : β}, x ∈ l → (∀ y, p y = true → q y = true) → p x = false → q x = true → (l.filter p).length < (l.filter q).length
  | [], _, h, _, _, _ => by cases h
  | y :: l, x, h, hpq, hp, hq => by
    have hle : ∀ l' : List β, (l'.filter p).length ≤ (l'.filter q).length := fun l' => by
      induction l' with
      | nil => simp
      | cons z l' ih =>
        by_cases hz : p z = true
        · simp [List.filter_cons, hz, hpq z hz, ih]
        · by_cases hz2 : q z = true
          · simp [List.filter_cons, hz, hz2]; omega
          · simp [List.filter_cons, hz, hz2, ih]
    rcases List.mem_cons.1 h with rfl | h
    · simp [List.filter_cons, hp, hq]
      have := hle l
      omega
    · have ih := filter_lt h hpq hp hq
      by_cases hz : p y = true
      · simp [List.filter_cons, hz, hpq y hz]; exact ih
      · by_cases hz2 : q y = true
        · simp [List.filter_cons, hz, hz2]; omega
        · simp [List.filter_cons, hz, hz2]; exact ih
theorem leftN_cons {U M : List Int} {h : Int} (hU : h ∈ U) (hM : h ∉ M) : leftN U (h :: M) < leftN U M := by
  unfold leftN
  refine filter_lt hU (fun y hy => ?_) (by simp) (by simpa using hM)
  simp at hy ⊢
  exact hy.2

theorem bfs_sound {t : Int} (hS : Single hd W) : ∀ (k : Nat) (M T : List Int), (∀ x ∈ T, Relation.TransGen (Stp hd mt H W) t x) → bfs hd mt H W t k M T = true → Circ hd mt H W t
  | 0, _, _, _, h => by cases h
  | k + 1, _, [], _, h => by cases h
  | k + 1, M, x :: rest, hT, h => by
    unfold bfs at h
    by_cases hx : x = t
    · subst hx; exact hT x (List.mem_cons_self ..)
    · rw [if_neg hx] at h
      by_cases hm : x ∈ M
      · rw [if_pos hm] at h
        exact bfs_sound hS k M rest (fun y hy => hT y (List.mem_cons_of_mem _ hy)) h
      · rw [if_neg hm] at h
        refine bfs_sound hS k (x :: M) _ (fun y hy => ?_) h
        rcases List.mem_append.1 hy with h1 | h1
        · exact hT y (List.mem_cons_of_mem _ h1)
        · exact Relation.TransGen.tail (hT x (List.mem_cons_self ..)) ((mem_succs hS).1 h1)
theorem not_reach {R : Int → Int → Prop} {t a : Int} {M : List Int} (hc : ∀ x ∈ M, ∀ y, R x y → y ∈ M ∧ y ≠ t) (ha : ∀ y, R a y → y ∈ M ∧ y ≠ t) : ¬ Relation.TransGen R a t := by
  intro h
  have : ∀ b, Relation.TransGen R a b → b ∈ M ∧ b ≠ t := by
    intro b hb
    induction hb with
    | single h => exact ha _ h
    | tail _ h ih => exact hc _ ih.1 _ h
  exact (this t h).2 rfl
theorem bfs_complete {t : Int} (hS : Single hd W) : ∀ (k : Nat) (M T : List Int),
    (∀ x ∈ T, x ∈ (H ++ W).map hd) → (∀ x ∈ M, x ≠ t) → (∀ x ∈ M, ∀ y, Stp hd mt H W x y → y ∈ M ∨ y ∈ T) → (∀ y, Stp hd mt H W t y → y ∈ M ∨ y ∈ T) →
    leftN ((H ++ W).map hd) M * (H.length + W.length + 1) + T.length < k → bfs hd mt H W t k M T = false → ¬ Circ hd mt H W t
  | 0, _, _, _, _, _, _, hk, _ => absurd hk (by omega)
  | k + 1, M, [], _, hMt, hM, ht, _, _ => by
    refine not_reach (M := M) (fun x hx y hy => ?_) (fun y hy => ?_)
    · rcases hM x hx y hy with h | h
      · exact ⟨h, hMt y h⟩
      · cases h
    · rcases ht y hy with h | h
      · exact ⟨h, hMt y h⟩
      · cases h
  | k + 1, M, x :: rest, hU, hMt, hM, ht, hk, h => by
    unfold bfs at h
    by_cases hx : x = t
    · rw [if_pos hx] at h; cases h
    · rw [if_neg hx] at h
      by_cases hm : x ∈ M
      · rw [if_pos hm] at h
        refine bfs_complete hS k M rest (fun y hy => hU y (List.mem_cons_of_mem _ hy)) hMt (fun z hz y hy => ?_) (fun y hy => ?_) (by rw [List.length_cons] at hk; omega) h
        · rcases hM z hz y hy with h1 | h1
          · exact .inl h1
          · rcases List.mem_cons.1 h1 with rfl | h1
            · exact .inl hm
            · exact .inr h1
        · rcases ht y hy with h1 | h1
          · exact .inl h1
          · rcases List.mem_cons.1 h1 with rfl | h1
            · exact .inl hm
            · exact .inr h1
      · rw [if_neg hm] at h
        have hxU := hU x (List.mem_cons_self ..)
        have hl := leftN_cons hxU hm
        have hs := succs_len (hd := hd) (mt := mt) (H := H) (W := W) x
        have hmul : leftN ((H ++ W).map hd) (x :: M) * (H.length + W.length + 1) + (H.length + W.length + 1) ≤ leftN ((H ++ W).map hd) M * (H.length + W.length + 1) := by
          rw [← Nat.succ_mul]; exact Nat.mul_le_mul_right _ hl
        refine bfs_complete hS k (x :: M) (rest ++ succs hd mt H W x) (fun y hy => ?_) (fun z hz => ?_) (fun z hz y hy => ?_) (fun y hy => ?_) (by rw [List.length_cons] at hk; rw [List.length_append]; omega) h
        · rcases List.mem_append.1 hy with h1 | h1
          · exact hU y (List.mem_cons_of_mem _ h1)
          · exact stp_mem ((mem_succs hS).1 h1)
        · rcases List.mem_cons.1 hz with rfl | hz
          · exact hx
          · exact hMt z hz
        · rcases List.mem_cons.1 hz with rfl | hz
          · exact .inr (List.mem_append_right _ ((mem_succs hS).2 hy))
          · rcases hM z hz y hy with h1 | h1
            · exact .inl (List.mem_cons_of_mem _ h1)
            · rcases List.mem_cons.1 h1 with rfl | h1
              · exact .inl (List.mem_cons_self ..)
              · exact .inr (List.mem_append_left _ h1)
        · rcases ht y hy with h1 | h1
          · exact .inl (List.mem_cons_of_mem _ h1)
          · rcases List.mem_cons.1 h1 with rfl | h1
            · exact .inl (List.mem_cons_self ..)
            · exact .inr (List.mem_append_left _ h1)
theorem circB_iff (hS : Single hd W) (t : Int) : circB hd mt H W t = true ↔ Circ hd mt H W t := by
  unfold circB
  constructor
  · exact bfs_sound hS _ _ _ (fun x hx => .single ((mem_succs hS).1 hx))
  · intro h
    cases hb : bfs hd mt H W t (fuelN H W) [] (succs hd mt H W t) with
    | true => rfl
    | false =>
      refine absurd h (bfs_complete hS _ _ _ (fun y hy => stp_mem ((mem_succs hS).1 hy)) (by simp) (by simp) (fun y hy => .inr ((mem_succs hS).2 hy)) ?_ hb)
      have h1 := leftN_le ((H ++ W).map hd) []
      have h2 := succs_len (hd := hd) (mt := mt) (H := H) (W := W) t
      have h3 : leftN ((H ++ W).map hd) [] * (H.length + W.length + 1) ≤ (H.length + W.length) * (H.length + W.length + 1) := Nat.mul_le_mul_right _ (by simpa using h1)
      unfold fuelN
      have h4 : (H.length + W.length + 1) * (H.length + W.length + 2) = (H.length + W.length) * (H.length + W.length + 1) + 2 * (H.length + W.length + 1) := by
        have e1 : (H.length + W.length + 1) * (H.length + W.length + 2) = (H.length + W.length + 2) * (H.length + W.length + 1) := Nat.mul_comm _ _
        rw [e1, Nat.add_mul]
      omega
end
end Go.Proofs.Ytifnfnoicinbaaa.PL
