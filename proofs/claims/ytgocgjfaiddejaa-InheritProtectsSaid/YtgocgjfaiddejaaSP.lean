/- What spread computes, told without rounds: which objects are below, what each becomes. -/
import Derived.Test.YtgocgjfaiddejaaH28
namespace Go.Proofs.Ytgocgjfaiddejaa.M
open Go.RowKit Go.Proofs.YtgocgjfaiddejaaW.PrintWords Go.Proofs.YtgocgjfaiddejaaW.PrintLast Go.Proofs.YtgocgjfaiddejaaW.PrintMore
set_option linter.unusedVariables false
set_option linter.unusedSimpArgs false

/-- An object is the one in question, or below it. -/
def dn (l : List S35) (k : Nat) : Nat → Nat → Bool
  | 0, _ => false
  | n + 1, j => decide (j = k) || (decide (0 < j) && dn l k n (rd_T35 l j).f0.toNat)
def dnB (l : List S35) (k j : Nat) : Bool := dn l k (j + 1) j
/-- The directories stand before. -/
def Ups (l : List S35) : Prop := ∀ j : Nat, 0 < j → j < l.length → ∃ u : Nat, (rd_T35 l j).f0 = u ∧ u < j
theorem vTree_ups {l : List S35} (h : vTree l = true) : Ups l := fun j h0 hj => by
  obtain ⟨u, hu, hu1, _⟩ := vTw_up (vTree_at h hj) h0
  exact ⟨u, hu, hu1⟩
theorem dn_fuel {l : List S35} (h : Ups l) (k : Nat) : ∀ n m j : Nat, j < l.length → j < n → j < m → dn l k n j = dn l k m j := by
  intro n
  induction n with
  | zero => intro m j _ h1 _; omega
  | succ n ih =>
    intro m j hj h1 h2
    obtain ⟨m, rfl⟩ : ∃ x, m = x + 1 := ⟨m - 1, by omega⟩
    unfold dn
    by_cases h0 : 0 < j
    · obtain ⟨u, hu, hu1⟩ := h j h0 hj
      rw [hu, Int.toNat_natCast, ih m u (by omega) (by omega) (by omega)]
    · simp [h0]
theorem dnB_self (l : List S35) (k : Nat) : dnB l k k = true := by unfold dnB dn; simp
theorem dnB_step {l : List S35} (h : Ups l) (k : Nat) {j u : Nat} (hj : j < l.length) (h0 : 0 < j) (hu : (rd_T35 l j).f0 = u) (hne : j ≠ k) : dnB l k j = dnB l k u := by
  obtain ⟨u', hu', hlt⟩ := h j h0 hj
  have : u' = u := by omega
  subst this
  show dn l k (j + 1) j = dn l k (u' + 1) u'
  conv => lhs; unfold dn
  rw [hu, Int.toNat_natCast, dn_fuel h k j (u' + 1) u' (by omega) hlt (by omega)]
  simp [hne, h0]
theorem dnB_lt {l : List S35} (h : Ups l) (k : Nat) : ∀ j, j < l.length → j < k → dnB l k j = false := by
  intro j
  induction j using Nat.strongRecOn with
  | _ j ih =>
    intro hj hk
    by_cases h0 : 0 < j
    · obtain ⟨u, hu, hlt⟩ := h j h0 hj
      rw [dnB_step h k hj h0 hu (by omega)]
      exact ih u hlt (by omega) (by omega)
    · unfold dnB dn; simp [h0]; omega
theorem dnB_root {l : List S35} (h : Ups l) : ∀ j, j < l.length → dnB l 0 j = true := by
  intro j
  induction j using Nat.strongRecOn with
  | _ j ih =>
    intro hj
    by_cases h0 : 0 < j
    · obtain ⟨u, hu, hlt⟩ := h j h0 hj
      rw [dnB_step h 0 hj h0 hu (by omega)]
      exact ih u hlt (by omega)
    · obtain rfl : j = 0 := by omega
      exact dnB_self l 0
/-- What a tree becomes when the object k gets the descriptor d. -/
structure IsOut (l : List S35) (k : Nat) (d : S33) (out : List S35) : Prop where
  len : out.length = l.length
  here : rd_T35 out k = { rd_T35 l k with f2 := d }
  down : ∀ j u : Nat, j < l.length → j ≠ k → (rd_T35 l j).f0 = u → dnB l k j = true → ∃ d', renewD (rd_T35 out u).f2 (rd_T35 l j).f2 (rd_T35 l j).f1 = some d' ∧ rd_T35 out j = { rd_T35 l j with f2 := d' }
  same : ∀ j : Nat, j < l.length → j ≠ k → dnB l k j = false → rd_T35 out j = rd_T35 l j
theorem IsOut.up {l : List S35} {k : Nat} {d : S33} {out : List S35} (h : IsOut l k d out) (hU : Ups l) {j : Nat} (hj : j < l.length) : (rd_T35 out j).f0 = (rd_T35 l j).f0 ∧ (rd_T35 out j).f1 = (rd_T35 l j).f1 := by
  by_cases hk : j = k
  · subst hk; rw [h.here]; exact ⟨rfl, rfl⟩
  · cases hd : dnB l k j with
    | false => rw [h.same j hj hk hd]; exact ⟨rfl, rfl⟩
    | true =>
      by_cases h0 : 0 < j
      · obtain ⟨u, hu, _⟩ := hU j h0 hj
        obtain ⟨d', _, e⟩ := h.down j u hj hk hu hd
        rw [e]; exact ⟨rfl, rfl⟩
      · obtain rfl : j = 0 := by omega
        exfalso
        have := dnB_lt hU k 0 hj (by omega)
        rw [this] at hd; cases hd
theorem IsOut.ups {l : List S35} {k : Nat} {d : S33} {out : List S35} (h : IsOut l k d out) (hU : Ups l) : Ups out := fun j h0 hj => by
  rw [h.len] at hj
  rw [(h.up hU hj).1]
  exact hU j h0 hj
/-- The state from object i on. -/
structure At (l : List S35) (k : Nat) (out : List S35) (i : Nat) (s : List S105) : Prop where
  len : s.length = l.length
  flag : ∀ j : Nat, j < l.length → (rd_T105 s j).f1 = (decide (j < i) && dnB l k j)
  ups : ∀ j : Nat, j < l.length → (rd_T105 s j).f0.f0 = (rd_T35 l j).f0 ∧ (rd_T105 s j).f0.f1 = (rd_T35 l j).f1
  old : ∀ j : Nat, j < l.length → i ≤ j → (rd_T105 s j).f0 = rd_T35 l j
  new : ∀ j : Nat, j < l.length → j < i → (rd_T105 s j).f0 = rd_T35 out j
theorem at_start {l : List S35} (hU : Ups l) {k : Nat} (hk : k < l.length) {d : S33} {out : List S35} (h : IsOut l k d out) : At l k out (k + 1) (setDown (setDesc (grow0 l) k d) k) := by
  have hg : (grow0 l).length = l.length := by simp [grow0]
  have hr : ∀ j : Nat, j < l.length → rd_T105 (setDown (setDesc (grow0 l) k d) k) j = if k = j then ⟨{ rd_T35 l k with f2 := d }, true⟩ else ⟨rd_T35 l j, false⟩ := by
    intro j hj
    unfold setDown
    rw [rd_set _ _ _ _ (by simp [setDesc, hg, hk])]
    unfold setDesc
    rw [rd_set _ _ _ _ (by rw [hg]; exact hk), rd_set _ _ _ _ (by rw [hg]; exact hk), if_pos rfl, rd_grow0 l k hk]
    split
    · rfl
    · exact rd_grow0 l j hj
  refine ⟨by simp [setDown, setDesc, hg], fun j hj => ?_, fun j hj => ?_, fun j hj h1 => ?_, fun j hj h1 => ?_⟩
  · rw [hr j hj]
    by_cases e : k = j
    · subst e; rw [if_pos rfl, dnB_self]; simp
    · rw [if_neg e]
      by_cases e2 : j < k
      · rw [dnB_lt hU k j hj e2]; simp
      · simp; intro h3; omega
  · rw [hr j hj]
    split
    · rename_i e; subst e; exact ⟨rfl, rfl⟩
    · exact ⟨rfl, rfl⟩
  · rw [hr j hj, if_neg (by omega)]
  · rw [hr j hj]
    split
    · rename_i e; subst e; exact h.here.symm
    · exact (h.same j hj (by omega) (dnB_lt hU k j hj (by omega))).symm
theorem at_round {l : List S35} (hU : Ups l) {k : Nat} {d : S33} {out : List S35} (h : IsOut l k d out) {i : Nat} (hi : i < l.length) (hk : k < i) {s : List S105} (hs : At l k out i s) :
    ∃ s', At l k out (i + 1) s' ∧ ∀ c, sprF (c + 1) i s = sprF c (i + 1) s' := by
  obtain ⟨u, hu, hlt⟩ := hU i (by omega) hi
  have hsu : (rd_T105 s i).f0.f0 = (u : Int) := by rw [(hs.ups i hi).1]; exact hu
  have hf := hs.flag u (by omega)
  rw [← dnB_step hU k hi (by omega) hu (by omega)] at hf
  have hf2 : (rd_T105 s (u : Int)).f1 = dnB l k i := by rw [hf]; simp [hlt]
  cases hd : dnB l k i with
  | false =>
    refine ⟨s, ⟨hs.len, fun j hj => ?_, hs.ups, fun j hj h1 => hs.old j hj (by omega), fun j hj h1 => ?_⟩, fun c => ?_⟩
    · rw [hs.flag j hj]
      by_cases e : j = i
      · subst e; simp [hd]
      · congr 1; simp; omega
    · by_cases e : j = i
      · subst e; rw [hs.old j hj (Nat.le_refl _)]; exact (h.same j hj (by omega) hd).symm
      · exact hs.new j hj (by omega)
    · rw [sprF, hsu, hf2, hd]; simp
  | true =>
    obtain ⟨d', hd', ho⟩ := h.down i u hi (by omega) hu hd
    have hsi : rd_T105 s i = ⟨rd_T35 l i, false⟩ := by
      have h1 := hs.old i hi (Nat.le_refl _)
      have h2 := hs.flag i hi
      cases hx : rd_T105 s i with
      | mk a b => rw [hx] at h1 h2; dsimp only at h1 h2; rw [h1, h2]; simp
    have hlen := hs.len
    have hrd : ∀ j : Nat, rd_T105 (setDown s i) j = if i = j then ⟨rd_T35 l i, true⟩ else rd_T105 s j := by
      intro j
      unfold setDown
      rw [rd_set _ _ _ _ (by omega), hsi]
    have hbody : bodyF (setDown s i) i = some (setDesc (setDown s i) i d') := by
      unfold bodyF
      rw [hrd i, if_pos rfl]
      dsimp only
      rw [hu, hrd u, if_neg (by omega), hs.new u (by omega) (by omega), hd']
      rfl
    have hfin : ∀ j : Nat, rd_T105 (setDesc (setDown s i) i d') j = if i = j then ⟨rd_T35 out i, true⟩ else rd_T105 s j := by
      intro j
      unfold setDesc
      rw [rd_set _ _ _ _ (by simp [setDown]; omega), hrd i, if_pos rfl, ho]
      split
      · rfl
      · rename_i e; rw [hrd j, if_neg e]
    refine ⟨setDesc (setDown s i) i d', ⟨by simp [setDesc, setDown, hlen], fun j hj => ?_, fun j hj => ?_, fun j hj h1 => ?_, fun j hj h1 => ?_⟩, fun c => ?_⟩
    · rw [hfin j]
      split
      · rename_i e; subst e; simp [hd]
      · rename_i e
        rw [hs.flag j hj]
        congr 1; simp; omega
    · rw [hfin j]
      split
      · rename_i e; subst e; exact h.up hU hi
      · exact hs.ups j hj
    · rw [hfin j, if_neg (by omega)]
      exact hs.old j hj (by omega)
    · rw [hfin j]
      split
      · rename_i e; subst e; rfl
      · exact hs.new j hj (by omega)
    · rw [sprF, hsu, hf2, hd, if_pos rfl, hbody]
      rfl
theorem at_run {l : List S35} (hU : Ups l) {k : Nat} {d : S33} {out : List S35} (h : IsOut l k d out) : ∀ c i s, i + c = l.length → k < i → At l k out i s → ∃ s', sprF c i s = some s' ∧ At l k out l.length s' := by
  intro c
  induction c with
  | zero =>
    intro i s hi _ hs
    have e : i = l.length := by omega
    rw [e] at hs
    exact ⟨s, rfl, hs⟩
  | succ c ih =>
    intro i s hi hk hs
    obtain ⟨s1, h1, h2⟩ := at_round hU h (by omega) hk hs
    rw [h2 c]
    exact ih (i + 1) s1 (by omega) (by omega) h1
theorem list35_ext {a b : List S35} (h : a.length = b.length) (he : ∀ j : Nat, j < a.length → rd_T35 a j = rd_T35 b j) : a = b := by
  apply List.ext_getElem h
  intro j h1 h2
  have := he j h1
  rwa [rd35_at h1, rd35_at h2] at this
theorem rd_map105 (s : List S105) (j : Nat) (hj : j < s.length) : rd_T35 (s.map (·.f0)) j = (rd_T105 s j).f0 := by
  rw [rd35_at (by simpa using hj), rd105_at hj]
  simp
/-- What is told comes out. -/
theorem spread_of_out {l : List S35} (hU : Ups l) {k : Nat} (hk : k < l.length) {d : S33} {out : List S35} (h : IsOut l k d out) : spreadF l k d = some out := by
  obtain ⟨s', hs, ha⟩ := at_run hU h (l.length - (k + 1)) (k + 1) _ (by omega) (by omega) (at_start hU hk h)
  unfold spreadF
  rw [hs]
  simp only [Option.map_some, Option.some.injEq]
  apply list35_ext
  · simp [ha.len, h.len]
  · intro j hj
    simp only [List.length_map, ha.len] at hj
    rw [rd_map105 _ _ (by rw [ha.len]; exact hj), ha.new j hj hj]
/-- The state, of which nothing is told that is behind. -/
structure Mid (l : List S35) (k i : Nat) (s : List S105) : Prop where
  len : s.length = l.length
  flag : ∀ j : Nat, j < l.length → (rd_T105 s j).f1 = (decide (j < i) && dnB l k j)
  ups : ∀ j : Nat, j < l.length → (rd_T105 s j).f0.f0 = (rd_T35 l j).f0 ∧ (rd_T105 s j).f0.f1 = (rd_T35 l j).f1
  old : ∀ j : Nat, j < l.length → i ≤ j → (rd_T105 s j).f0 = rd_T35 l j
theorem mid_round {l : List S35} (hU : Ups l) {k i : Nat} (hi : i < l.length) (hk : k < i) {s s' : List S105} (hs : Mid l k i s) {c : Nat} (hr : sprF (c + 1) i s = some s') :
    ∃ s1, Mid l k (i + 1) s1 ∧ sprF c (i + 1) s1 = some s' ∧ (∀ j : Nat, j ≠ i → rd_T105 s1 j = rd_T105 s j) ∧
      (dnB l k i = false → (rd_T105 s1 i).f0 = rd_T35 l i) ∧ (∀ u : Nat, (rd_T35 l i).f0 = u → dnB l k i = true → ∃ d', renewD (rd_T105 s u).f0.f2 (rd_T35 l i).f2 (rd_T35 l i).f1 = some d' ∧ (rd_T105 s1 i).f0 = { rd_T35 l i with f2 := d' }) := by
  obtain ⟨u, hu, hlt⟩ := hU i (by omega) hi
  have hsu : (rd_T105 s i).f0.f0 = (u : Int) := by rw [(hs.ups i hi).1]; exact hu
  have hf := hs.flag u (by omega)
  rw [← dnB_step hU k hi (by omega) hu (by omega)] at hf
  have hf2 : (rd_T105 s (u : Int)).f1 = dnB l k i := by rw [hf]; simp [hlt]
  cases hd : dnB l k i with
  | false =>
    rw [sprF, hsu, hf2, hd, if_neg (by simp)] at hr
    refine ⟨s, ⟨hs.len, fun j hj => ?_, hs.ups, fun j hj h1 => hs.old j hj (by omega)⟩, hr, fun _ _ => rfl, fun _ => hs.old i hi (Nat.le_refl _), fun _ _ h => by cases h⟩
    rw [hs.flag j hj]
    by_cases e : j = i
    · subst e; simp [hd]
    · congr 1; simp; omega
  | true =>
    have hsi : rd_T105 s i = ⟨rd_T35 l i, false⟩ := by
      have h1 := hs.old i hi (Nat.le_refl _)
      have h2 := hs.flag i hi
      cases hx : rd_T105 s i with
      | mk a b => rw [hx] at h1 h2; dsimp only at h1 h2; rw [h1, h2]; simp
    have hlen := hs.len
    have hrd : ∀ j : Nat, rd_T105 (setDown s i) j = if i = j then ⟨rd_T35 l i, true⟩ else rd_T105 s j := by
      intro j
      unfold setDown
      rw [rd_set _ _ _ _ (by omega), hsi]
    rw [sprF, hsu, hf2, hd, if_pos rfl] at hr
    obtain ⟨s1, hb, hr⟩ := Option.bind_eq_some_iff.1 hr
    unfold bodyF at hb
    rw [hrd i, if_pos rfl] at hb
    dsimp only at hb
    rw [hu, hrd u, if_neg (by omega)] at hb
    obtain ⟨d', hd', rfl⟩ := Option.map_eq_some_iff.1 hb
    have hfin : ∀ j : Nat, rd_T105 (setDesc (setDown s i) i d') j = if i = j then ⟨{ rd_T35 l i with f2 := d' }, true⟩ else rd_T105 s j := by
      intro j
      unfold setDesc
      rw [rd_set _ _ _ _ (by simp [setDown]; omega), hrd i, if_pos rfl]
      split
      · rfl
      · rename_i e; rw [hrd j, if_neg e]
    refine ⟨setDesc (setDown s i) i d', ⟨by simp [setDesc, setDown, hlen], fun j hj => ?_, fun j hj => ?_, fun j hj h1 => ?_⟩, hr, fun j hj => by rw [hfin j, if_neg (by omega)], fun h => absurd h (by decide), fun u' hu' _ => ?_⟩
    · rw [hfin j]
      split
      · rename_i e; subst e; simp [hd]
      · rename_i e
        rw [hs.flag j hj]
        congr 1; simp; omega
    · rw [hfin j]
      split
      · rename_i e; subst e; exact ⟨rfl, rfl⟩
      · exact hs.ups j hj
    · rw [hfin j, if_neg (by omega)]
      exact hs.old j hj (by omega)
    · obtain rfl : u' = u := by omega
      exact ⟨d', hd', by rw [hfin i, if_pos rfl]⟩
theorem mid_run {l : List S35} (hU : Ups l) {k : Nat} : ∀ c i s s', i + c = l.length → k < i → Mid l k i s → sprF c i s = some s' →
    s'.length = l.length ∧ (∀ j : Nat, j < i → rd_T105 s' j = rd_T105 s j) ∧ (∀ j : Nat, i ≤ j → j < l.length → dnB l k j = false → (rd_T105 s' j).f0 = rd_T35 l j) ∧
      (∀ j u : Nat, i ≤ j → j < l.length → (rd_T35 l j).f0 = u → dnB l k j = true → ∃ d', renewD (rd_T105 s' u).f0.f2 (rd_T35 l j).f2 (rd_T35 l j).f1 = some d' ∧ (rd_T105 s' j).f0 = { rd_T35 l j with f2 := d' }) := by
  intro c
  induction c with
  | zero =>
    intro i s s' hi hk hs hr
    cases hr
    exact ⟨hs.len, fun _ _ => rfl, fun j h1 h2 => by omega, fun j u h1 h2 => by omega⟩
  | succ c ih =>
    intro i s s' hi hk hs hr
    obtain ⟨s1, hm, hr1, he, hn, hy⟩ := mid_round hU (by omega) hk hs hr
    obtain ⟨h0, h1, h2, h3⟩ := ih (i + 1) s1 s' (by omega) (by omega) hm hr1
    refine ⟨h0, fun j hj => by rw [h1 j (by omega), he j (by omega)], fun j hij hj hd => ?_, fun j u hij hj hu hd => ?_⟩
    · by_cases e : j = i
      · subst e; rw [h1 j (by omega)]; exact hn hd
      · exact h2 j (by omega) hj hd
    · by_cases e : j = i
      · subst e
        obtain ⟨u', hu', hlt⟩ := hU j (by omega) hj
        obtain rfl : u' = u := by omega
        obtain ⟨d', e1, e2⟩ := hy u' hu hd
        exact ⟨d', by rw [h1 u' (by omega), he u' (by omega)]; exact e1, by rw [h1 j (by omega)]; exact e2⟩
      · exact h3 j u (by omega) hj hu hd
/-- What comes out is as told. -/
theorem out_of_spread {l : List S35} (hU : Ups l) {k : Nat} (hk : k < l.length) {d : S33} {out : List S35} (h : spreadF l k d = some out) : IsOut l k d out := by
  unfold spreadF at h
  obtain ⟨s', hs, rfl⟩ := Option.map_eq_some_iff.1 h
  have hg : (grow0 l).length = l.length := by simp [grow0]
  have hr : ∀ j : Nat, j < l.length → rd_T105 (setDown (setDesc (grow0 l) k d) k) j = if k = j then ⟨{ rd_T35 l k with f2 := d }, true⟩ else ⟨rd_T35 l j, false⟩ := by
    intro j hj
    unfold setDown
    rw [rd_set _ _ _ _ (by simp [setDesc, hg, hk])]
    unfold setDesc
    rw [rd_set _ _ _ _ (by rw [hg]; exact hk), rd_set _ _ _ _ (by rw [hg]; exact hk), if_pos rfl, rd_grow0 l k hk]
    split
    · rfl
    · exact rd_grow0 l j hj
  have hm : Mid l k (k + 1) (setDown (setDesc (grow0 l) k d) k) := by
    refine ⟨by simp [setDown, setDesc, hg], fun j hj => ?_, fun j hj => ?_, fun j hj h1 => ?_⟩
    · rw [hr j hj]
      by_cases e : k = j
      · subst e; rw [if_pos rfl, dnB_self]; simp
      · rw [if_neg e]
        by_cases e2 : j < k
        · rw [dnB_lt hU k j hj e2]; simp
        · simp; intro h3; omega
    · rw [hr j hj]
      split
      · rename_i e; subst e; exact ⟨rfl, rfl⟩
      · exact ⟨rfl, rfl⟩
    · rw [hr j hj, if_neg (by omega)]
  obtain ⟨h0, h1, h2, h3⟩ := mid_run hU (l.length - (k + 1)) (k + 1) _ s' (by omega) (by omega) hm hs
  have hrd : ∀ j : Nat, j < l.length → rd_T35 (s'.map (·.f0)) j = (rd_T105 s' j).f0 := fun j hj => rd_map105 s' j (by omega)
  refine ⟨by simp [h0], ?_, fun j u hj hne hu hd => ?_, fun j hj hne hd => ?_⟩
  · rw [hrd k hk, h1 k (by omega), hr k hk, if_pos rfl]
  · by_cases hlt : j < k
    · rw [dnB_lt hU k j hj hlt] at hd; cases hd
    · obtain ⟨u', hu', hult⟩ := hU j (by omega) hj
      obtain rfl : u' = u := by omega
      rw [hrd u' (by omega), hrd j hj]
      exact h3 j u' (by omega) hj hu hd
  · rw [hrd j hj]
    by_cases hlt : j < k
    · rw [h1 j (by omega), hr j hj, if_neg (by omega)]
    · exact h2 j (by omega) hj hd
end Go.Proofs.Ytgocgjfaiddejaa.M
