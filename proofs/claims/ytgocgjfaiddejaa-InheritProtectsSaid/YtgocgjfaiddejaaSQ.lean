/- Trees that agree: what spread makes agrees; where an entry comes from. -/
import Derived.Test.YtgocgjfaiddejaaSP
namespace Go.Proofs.Ytgocgjfaiddejaa.M
open Go.RowKit Go.Proofs.YtgocgjfaiddejaaW.PrintWords Go.Proofs.YtgocgjfaiddejaaW.PrintLast Go.Proofs.YtgocgjfaiddejaaW.PrintMore
set_option linter.unusedVariables false
set_option linter.unusedSimpArgs false
set_option linter.unnecessarySimpa false

theorem renewL_idem {I L : List S37} {dir : Bool} (hI : I.all vAce = true) : renewL I (renewL I L dir) dir = renewL I L dir := by
  unfold renewL
  rw [List.filter_append, (given_ok hI).2, List.filter_filter, List.append_nil]
  simp
theorem renewL_valid {I L : List S37} {dir : Bool} (hI : I.all vAce = true) (hL : L.all vAce = true) : (renewL I L dir).all vAce = true := by
  unfold renewL
  rw [List.all_append, (given_ok hI).1, Bool.and_true, List.all_eq_true]
  rw [List.all_eq_true] at hL
  intro x hx
  exact hL x (List.mem_filter.1 hx).1
theorem renew_valid {p d d' : S33} {dir : Bool} (hp : vD p = true) (hd : vD d = true) (h : renewD p d dir = some d') : vD d' = true := by
  unfold renewD at h
  by_cases h1 : d.f1 = true
  · rw [if_pos h1] at h; cases h; exact hd
  · rw [if_neg h1] at h
    by_cases h2 : (renewL p.f2 d.f2 dir).length ≤ 16
    · rw [if_pos h2] at h
      cases h
      have := renewL_valid (dir := dir) (vDesc_all hp) (vDesc_all hd)
      unfold vD vDesc at hd ⊢
      simp only [Bool.and_eq_true, decide_eq_true_eq] at hd ⊢
      exact ⟨⟨hd.1.1, h2⟩, this⟩
    · rw [if_neg h2] at h; cases h
theorem renew_agB {p d d' : S33} {dir : Bool} (hp : vD p = true) (h : renewD p d dir = some d') : agB p d' dir = true := by
  unfold renewD at h
  by_cases h1 : d.f1 = true
  · rw [if_pos h1] at h; cases h; unfold agB; simp [h1]
  · rw [if_neg h1] at h
    by_cases h2 : (renewL p.f2 d.f2 dir).length ≤ 16
    · rw [if_pos h2] at h
      cases h
      unfold agB
      simp only [renewL_idem (vDesc_all hp)]
      simp
    · rw [if_neg h2] at h; cases h
/-- What agrees is renewed to itself. -/
theorem renew_same {p d : S33} {dir : Bool} (hd : vD d = true) (h : agB p d dir = true) : renewD p d dir = some d := by
  unfold agB at h
  unfold renewD
  cases h1 : d.f1 with
  | true => rw [if_pos rfl]
  | false =>
    rw [h1] at h
    have h2 : renewL p.f2 d.f2 dir = d.f2 := by simpa using h
    rw [if_neg (by simp), h2, if_pos (vDesc_len hd), ← h1]
theorem renew_prot {p d d' : S33} {dir : Bool} (h : renewD p d dir = some d') : d'.f1 = d.f1 ∧ d'.f0 = d.f0 := by
  unfold renewD at h
  by_cases h1 : d.f1 = true
  · rw [if_pos h1] at h; cases h; exact ⟨rfl, rfl⟩
  · rw [if_neg h1] at h
    by_cases h2 : (renewL p.f2 d.f2 dir).length ≤ 16
    · rw [if_pos h2] at h; cases h; exact ⟨by simp at h1; rw [h1], rfl⟩
    · rw [if_neg h2] at h; cases h
theorem vTree_intro {l : List S35} (h1 : 1 ≤ l.length) (h2 : l.length ≤ 400) (h3 : (rd_T35 l 0).f0 = -1) (h4 : (rd_T35 l 0).f1 = true) (h5 : ∀ j : Nat, j < l.length → vTw l j = true) : vTree l = true := by
  unfold vTree
  simp only [Bool.and_eq_true, decide_eq_true_eq]
  exact ⟨⟨⟨⟨h1, h2⟩, h3⟩, h4⟩, List.all_eq_true.2 (fun j hj => h5 j (List.mem_range.1 hj))⟩
theorem out_desc {l : List S35} (hv : vTree l = true) {k : Nat} {d : S33} (hd : vD d = true) {out : List S35} (h : IsOut l k d out) : ∀ j : Nat, j < l.length → vD (rd_T35 out j).f2 = true := by
  have hU := vTree_ups hv
  intro j
  induction j using Nat.strongRecOn with
  | _ j ih =>
    intro hj
    by_cases hk : j = k
    · subst hk; rw [h.here]; exact hd
    · cases hdn : dnB l k j with
      | false => rw [h.same j hj hk hdn]; exact vTw_desc (vTree_at hv hj)
      | true =>
        by_cases h0 : 0 < j
        · obtain ⟨u, hu, hlt⟩ := hU j h0 hj
          obtain ⟨d', e1, e2⟩ := h.down j u hj hk hu hdn
          rw [e2]
          exact renew_valid (ih u hlt (by omega)) (vTw_desc (vTree_at hv hj)) e1
        · exfalso
          obtain rfl : j = 0 := by omega
          rw [dnB_lt hU k 0 hj (by omega)] at hdn; cases hdn
theorem out_vTree {l : List S35} (hv : vTree l = true) {k : Nat} {d : S33} (hd : vD d = true) {out : List S35} (h : IsOut l k d out) : vTree out = true := by
  have hU := vTree_ups hv
  obtain ⟨p1, p2, p3, p4⟩ := vTree_pos hv
  have hup := fun j (hj : j < l.length) => h.up hU hj
  refine vTree_intro (by rw [h.len]; omega) (by rw [h.len]; omega) (by have := (hup 0 p1).1; rw [show ((0 : Nat) : Int) = 0 from rfl] at this; rw [this]; exact p3) (by have := (hup 0 p1).2; rw [show ((0 : Nat) : Int) = 0 from rfl] at this; rw [this]; exact p4) (fun j hj => ?_)
  rw [h.len] at hj
  have ht := vTree_at hv hj
  unfold vTw
  rw [out_desc hv hd h j hj, (hup j hj).1, Bool.true_and]
  by_cases h0 : 0 < j
  · obtain ⟨u, hu, hlt, hdir⟩ := vTw_up ht h0
    rw [hu, (hup u (by omega)).2, hdir]
    simp; omega
  · simp; omega
theorem out_agrees {l : List S35} (hv : vTree l = true) {k : Nat} {d : S33} (hd : vD d = true) {out : List S35} (h : IsOut l k d out)
    (hs : ∀ j : Nat, j < l.length → j ≠ k → dnB l k j = false → agTw l j = true) (hk : k = 0 ∨ agB (rd_T35 l (rd_T35 l k).f0).f2 d (rd_T35 l k).f1 = true) : ∀ j : Nat, j < l.length → agTw out j = true := by
  have hU := vTree_ups hv
  intro j hj
  unfold agTw
  by_cases h0 : 0 < j
  · obtain ⟨u, hu, hlt⟩ := hU j h0 hj
    rw [(h.up hU hj).1, (h.up hU hj).2, hu]
    by_cases e : j = k
    · subst e
      rw [h.here, h.same u (by omega) (by omega) (dnB_lt hU j u (by omega) hlt)]
      rcases hk with hk | hk
      · omega
      · rw [hu] at hk; simp [hk]
    · cases hdn : dnB l k j with
      | true =>
        obtain ⟨d', e1, e2⟩ := h.down j u hj e hu hdn
        rw [e2]
        simp [renew_agB (out_desc hv hd h u (by omega)) e1]
      | false =>
        have hdu : dnB l k u = false := by rw [← dnB_step hU k hj h0 hu e]; exact hdn
        have hne : u ≠ k := fun e3 => by subst e3; rw [dnB_self] at hdu; cases hdu
        rw [h.same j hj e hdn, h.same u (by omega) hne hdu]
        have := hs j hj e hdn
        unfold agTw at this
        rwa [hu] at this
  · simp; omega
theorem agrees_none {l : List S35} (hv : vTree l = true) (h : ∀ j : Nat, j < l.length → agTw l j = true) : sAgrees l = (-1, 0) := by
  unfold sAgrees
  rw [if_pos hv, firstBad_none h]
/-- The tree that Spread returns is valid and agrees. -/
theorem spread_agrees {l out : List S35} (hv : vTree l = true) (h : spreadF l 0 (rd_T35 l 0).f2 = some out) : IsOut l 0 (rd_T35 l 0).f2 out ∧ vTree out = true ∧ (∀ j : Nat, j < out.length → agTw out j = true) := by
  have hU := vTree_ups hv
  have hpos := (vTree_pos hv).1
  have ho := out_of_spread hU hpos h
  have hd : vD (rd_T35 l 0).f2 = true := vTw_desc (vTree_at hv hpos)
  refine ⟨ho, out_vTree hv hd ho, fun j hj => ?_⟩
  rw [ho.len] at hj
  exact out_agrees hv hd ho (fun i hi h0 hdn => by rw [dnB_root hU i hi] at hdn; cases hdn) (.inl rfl) j hj
/-- Spread of a tree that agrees is the tree. -/
theorem spread_same {s : List S35} (hv : vTree s = true) (ha : ∀ j : Nat, j < s.length → agTw s j = true) : spreadF s 0 (rd_T35 s 0).f2 = some s := by
  have hU := vTree_ups hv
  refine spread_of_out hU (vTree_pos hv).1 ⟨rfl, rfl, fun j u hj h0 hu hdn => ⟨(rd_T35 s j).f2, ?_, rfl⟩, fun j hj h0 hdn => rfl⟩
  have := ha j hj
  unfold agTw at this
  rw [hu] at this
  exact renew_same (vTw_desc (vTree_at hv hj)) (by simpa [h0] using this)
theorem inh_get (dir : Bool) (l : List S37) : ∀ (s m p : Nat) (x : S37), (inh dir s l)[m]? = some (p, x) → ∃ q g, p = s + q ∧ ∃ h : q < l.length, giveF l[q].f3 dir = some g ∧ x = { l[q] with f3 := g } := by
  induction l with
  | nil => intro s m p x h; simp [inh] at h
  | cons y l ih =>
    intro s m p x h
    simp only [inh] at h
    cases hg : giveF y.f3 dir with
    | none =>
      rw [hg] at h
      obtain ⟨q, g, e, hq, h1, h2⟩ := ih (s + 1) m p x h
      exact ⟨q + 1, g, by omega, by simp; omega, by simpa using h1, by simpa using h2⟩
    | some f =>
      rw [hg] at h
      rcases m with _ | m
      · simp at h
        obtain ⟨rfl, rfl⟩ := h
        exact ⟨0, f, by omega, by simp, by simpa using hg, by simp⟩
      · simp only [List.getElem?_cons_succ] at h
        obtain ⟨q, g, e, hq, h1, h2⟩ := ih (s + 1) m p x h
        exact ⟨q + 1, g, by omega, by simp; omega, by simpa using h1, by simpa using h2⟩
/-- The place from which an entry is inherited. -/
def fromAt (I L : List S37) (dir : Bool) (i : Nat) : Nat := ((inh dir 0 I).map (·.1)).getD (i - (L.filter ownB).length) 0
theorem from_entry {I L : List S37} {dir : Bool} {i : Nat} (h : renewL I L dir = L) (hi : i < L.length) (hh : hadB (rd_T37 L (i : Int)) = true) :
    fromAt I L dir i < I.length ∧ (rd_T37 I (fromAt I L dir i : Nat)).f0 = (rd_T37 L (i : Int)).f0 ∧ (rd_T37 I (fromAt I L dir i : Nat)).f1 = (rd_T37 L (i : Int)).f1 ∧ (rd_T37 I (fromAt I L dir i : Nat)).f2 = (rd_T37 L (i : Int)).f2 := by
  obtain ⟨h1, h2⟩ := src_at h hi hh
  obtain ⟨m, hm⟩ : ∃ m, m = i - (L.filter ownB).length := ⟨_, rfl⟩
  rw [← hm] at h2
  have hget : (inh dir 0 I)[m]? = some (inh dir 0 I)[m] := List.getElem?_eq_getElem h2
  obtain ⟨q, g, e, hq, hg, hx⟩ := inh_get dir I 0 m (inh dir 0 I)[m].1 (inh dir 0 I)[m].2 hget
  have hf : fromAt I L dir i = q := by
    unfold fromAt
    rw [← hm, List.getD_eq_getElem?_getD, List.getElem?_map, hget]
    simp; omega
  have hL : rd_T37 L (i : Int) = (inh dir 0 I)[m].2 := by
    rw [rd_at hi]
    have e1 : L[i]? = (renewL I L dir)[i]? := by rw [h]
    rw [List.getElem?_eq_getElem hi] at e1
    unfold renewL at e1
    rw [List.getElem?_append_right h1, ← hm] at e1
    unfold given at e1
    rw [List.getElem?_map, hget] at e1
    simpa using e1
  rw [hf, hL, hx, rd_at hq]
  exact ⟨hq, rfl, rfl, rfl⟩
/-- From an object up to another one, past no Protected object. -/
inductive Way (s : List S35) : Nat → Nat → Prop where
  | here (k : Nat) : Way s k k
  | up (k u r : Nat) (h0 : 0 < k) (hp : (rd_T35 s k).f2.f1 = false) (hu : (rd_T35 s k).f0 = u) (hlt : u < k) (h : Way s u r) : Way s k r
def entry (s : List S35) (k i : Nat) : S37 := rd_T37 (rd_T35 s k).f2.f2 i
theorem origin {s : List S35} (hv : vTree s = true) (ha : ∀ j : Nat, j < s.length → agTw s j = true) : ∀ n k i : Nat, k ≤ n → k < s.length → i < (rd_T35 s k).f2.f2.length →
    (srcF n s k i).1 < s.length ∧ (srcF n s k i).2 < (rd_T35 s (srcF n s k i).1).f2.f2.length ∧ Way s k (srcF n s k i).1 ∧ (srcF n s k i).1 ≤ k ∧
      (entry s k i).f0 = (entry s (srcF n s k i).1 (srcF n s k i).2).f0 ∧ (entry s k i).f1 = (entry s (srcF n s k i).1 (srcF n s k i).2).f1 ∧ (entry s k i).f2 = (entry s (srcF n s k i).1 (srcF n s k i).2).f2 ∧
      (hadB (entry s (srcF n s k i).1 (srcF n s k i).2) = false ∨ (srcF n s k i).1 = 0 ∨ (rd_T35 s (srcF n s k i).1).f2.f1 = true) := by
  intro n
  induction n with
  | zero =>
    intro k i hk hks hi
    obtain rfl : k = 0 := by omega
    exact ⟨hks, hi, .here 0, Nat.le_refl _, rfl, rfl, rfl, .inr (.inl rfl)⟩
  | succ n ih =>
    intro k i hk hks hi
    by_cases hc : 0 < k ∧ (rd_T35 s k).f2.f1 = false ∧ hadAt s k i = true
    · obtain ⟨h0, hp, hh⟩ := hc
      obtain ⟨u, hu, hlt, _⟩ := vTw_up (vTree_at hv hks) h0
      have hag := ha k hks
      unfold agTw agB at hag
      rw [hu, hp] at hag
      have hL : renewL (rd_T35 s u).f2.f2 (rd_T35 s k).f2.f2 (rd_T35 s k).f1 = (rd_T35 s k).f2.f2 := by
        have : ¬ k = 0 := by omega
        simpa [this] using hag
      obtain ⟨f1, f2, f3, f4⟩ := from_entry hL hi hh
      have e : srcF (n + 1) s k i = srcF n s u (fromAt (rd_T35 s u).f2.f2 (rd_T35 s k).f2.f2 (rd_T35 s k).f1 i) := by
        conv => lhs; unfold srcF
        rw [if_pos ⟨h0, hp, hh⟩, hu, Int.toNat_natCast]
        rfl
      obtain ⟨g1, g2, g3, g4, g5, g6, g7, g8⟩ := ih u (fromAt (rd_T35 s u).f2.f2 (rd_T35 s k).f2.f2 (rd_T35 s k).f1 i) (by omega) (by omega) f1
      rw [e]
      exact ⟨g1, g2, .up k u _ h0 hp hu hlt g3, by omega, f2.symm.trans g5, f3.symm.trans g6, f4.symm.trans g7, g8⟩
    · have e : srcF (n + 1) s k i = (k, i) := by
        conv => lhs; unfold srcF
        rw [if_neg hc]
      rw [e]
      refine ⟨hks, hi, .here k, Nat.le_refl _, rfl, rfl, rfl, ?_⟩
      by_cases h0 : 0 < k
      · cases hp : (rd_T35 s k).f2.f1 with
        | true => exact .inr (.inr rfl)
        | false =>
          refine .inl ?_
          cases hh : hadB (entry s k i) with
          | false => rfl
          | true => exact absurd ⟨h0, hp, hh⟩ hc
      · exact .inr (.inl (by show k = 0; omega))
end Go.Proofs.Ytgocgjfaiddejaa.M
