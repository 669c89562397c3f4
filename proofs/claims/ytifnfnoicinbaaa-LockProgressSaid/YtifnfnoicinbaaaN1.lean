/- The reference's small functions in plain words: Same, SameNews, Waits, has. -/
import Derived.Test.YtifnfnoicinbaaaF24
import Derived.Test.YtifnfnoicinbaaaF25
import Derived.Test.YtifnfnoicinbaaaF42
import Derived.Test.YtifnfnoicinbaaaF19
import Derived.Test.YtifnfnoicinbaaaB9
namespace Go.Proofs.Ytifnfnoicinbaaa.M
open Go.RowKit Go.Proofs.YtifnfnoicinbaaaW.PrintWords Go.Proofs.YtifnfnoicinbaaaW.PrintLast Go.Proofs.YtifnfnoicinbaaaW.PrintMore
set_option linter.unusedVariables false
set_option linter.unusedSimpArgs false
set_option linter.unnecessarySimpa false

theorem ne24 (a b : S24) : (!((a.f0) == (b.f0)) || (!((a.f1) == (b.f1)) || (!((a.f2) == (b.f2)) || (!((a.f3) == (b.f3)) || (!((a.f4) == (b.f4))))))) = true ↔ a ≠ b := by
  obtain ⟨a0, a1, a2, a3, a4⟩ := a
  obtain ⟨b0, b1, b2, b3, b4⟩ := b
  simp only [Bool.or_eq_true, Bool.not_eq_true', beq_eq_false_iff_ne, ne_eq, S24.mk.injEq]
  constructor
  · rintro h ⟨h0, h1, h2, h3, h4⟩
    rcases h with h | h | h | h | h
    · exact h h0
    · exact h h1
    · exact h h2
    · exact h h3
    · exact h h4
  · intro h
    by_cases h0 : a0 = b0
    · by_cases h1 : a1 = b1
      · by_cases h2 : a2 = b2
        · by_cases h3 : a3 = b3
          · by_cases h4 : a4 = b4
            · exact absurd ⟨h0, h1, h2, h3, h4⟩ h
            · exact .inr (.inr (.inr (.inr h4)))
          · exact .inr (.inr (.inr (.inl h3)))
        · exact .inr (.inr (.inl h2))
      · exact .inr (.inl h1)
    · exact .inl h0
instance decS24 : DecidableEq S24 := fun a b => decidable_of_iff (a.f0 = b.f0 ∧ a.f1 = b.f1 ∧ a.f2 = b.f2 ∧ a.f3 = b.f3 ∧ a.f4 = b.f4) ⟨fun ⟨h0, h1, h2, h3, h4⟩ => by
  obtain ⟨a0, a1, a2, a3, a4⟩ := a
  obtain ⟨b0, b1, b2, b3, b4⟩ := b
  dsimp only at h0 h1 h2 h3 h4
  subst h0 h1 h2 h3 h4
  rfl, fun h => by subst h; exact ⟨rfl, rfl, rfl, rfl, rfl⟩⟩
theorem wrap_succ {j : Nat} (h : j ≤ 1000) : wrap64 ((j : Int) + 1) = ((j + 1 : Nat) : Int) := by unfold wrap64; omega
theorem drop_at {α : Type} {l : List α} {j : Nat} (h : j < l.length) : l.drop j = l[j] :: l.drop (j + 1) := (List.getElem_cons_drop ..).symm
theorem sameLocks_loop {x0 x1 : List S24} (he : x0.length = x1.length) (hl : x0.length ≤ 1000) : ∀ (n k j : Nat), j + n = x0.length → n < k → archivoltref31_sameLocks.l0 k x0 x1 (j : Int) = some (decide (x0.drop j = x1.drop j))
  | n, 0, j, _, hk => absurd hk (by omega)
  | 0, k + 1, j, hj, _ => by
    unfold archivoltref31_sameLocks.l0
    rw [if_neg (show ¬ (j : Int) < (x0.length : Int) by omega)]
    rw [List.drop_of_length_le (by omega), List.drop_of_length_le (by omega)]
    rfl
  | n + 1, k + 1, j, hj, hk => by
    have h0 : j < x0.length := by omega
    have h1 : j < x1.length := by omega
    unfold archivoltref31_sameLocks.l0
    rw [if_pos (show (j : Int) < (x0.length : Int) by omega), if_pos (show 0 ≤ (j : Int) by omega), if_pos (show (j : Int) < (x1.length : Int) by omega), drop_at h0, drop_at h1]
    rw [show x0[j] = rd_T24 x0 (j : Int) from (rd_at h0).symm, show x1[j] = rd_T24 x1 (j : Int) from (rd_at h1).symm]
    by_cases hh : rd_T24 x0 (j : Int) = rd_T24 x1 (j : Int)
    · rw [if_neg (fun hx => (ne24 _ _).1 hx hh), wrap_succ (by omega), sameLocks_loop he hl n k (j + 1) (by omega) (by omega), hh]
      congr 1
      exact decide_eq_decide.2 (by simp only [List.cons.injEq, true_and])
    · rw [if_pos ((ne24 _ _).2 hh)]
      congr 1
      rw [decide_eq_false]
      intro h
      injection h
      contradiction
theorem sameLocks_eq {x0 x1 : List S24} (hl : x0.length ≤ 1000) : archivoltref31_sameLocks.f 2000 x0 x1 = some (decide (x0 = x1)) := by
  unfold archivoltref31_sameLocks.f
  by_cases he : x0.length = x1.length
  · rw [if_pos (by omega)]
    have := sameLocks_loop he hl x0.length 2000 0 (by omega) (by omega)
    simpa using this
  · rw [if_neg (by omega), decide_eq_false (by intro h; subst h; exact he rfl)]
theorem sameInts_loop {x0 x1 : List Int} (he : x0.length = x1.length) (hl : x0.length ≤ 1000) : ∀ (n k j : Nat), j + n = x0.length → n < k → archivoltref31_SameInts.l0 k x0 x1 (j : Int) = some (decide (x0.drop j = x1.drop j))
  | n, 0, j, _, hk => absurd hk (by omega)
  | 0, k + 1, j, hj, _ => by
    unfold archivoltref31_SameInts.l0
    rw [if_neg (show ¬ (j : Int) < (x0.length : Int) by omega)]
    rw [List.drop_of_length_le (by omega), List.drop_of_length_le (by omega)]
    rfl
  | n + 1, k + 1, j, hj, hk => by
    have h0 : j < x0.length := by omega
    have h1 : j < x1.length := by omega
    unfold archivoltref31_SameInts.l0
    rw [if_pos (show (j : Int) < (x0.length : Int) by omega), if_pos (show 0 ≤ (j : Int) by omega), if_pos (show (j : Int) < (x1.length : Int) by omega), drop_at h0, drop_at h1]
    rw [show rd x0 (j : Int) = x0[j] by simp [rd, h0], show rd x1 (j : Int) = x1[j] by simp [rd, h1]]
    by_cases hh : x0[j] = x1[j]
    · rw [if_pos hh, wrap_succ (by omega), sameInts_loop he hl n k (j + 1) (by omega) (by omega), hh]
      congr 1
      exact decide_eq_decide.2 (by simp only [List.cons.injEq, true_and])
    · rw [if_neg hh]
      congr 1
      rw [decide_eq_false]
      intro h
      injection h
      contradiction
theorem sameInts_eq {x0 x1 : List Int} (hl : x0.length ≤ 1000) : archivoltref31_SameInts.f 2000 x0 x1 = some (decide (x0 = x1)) := by
  unfold archivoltref31_SameInts.f
  by_cases he : x0.length = x1.length
  · rw [if_pos (by omega)]
    have := sameInts_loop he hl x0.length 2000 0 (by omega) (by omega)
    simpa using this
  · rw [if_neg (by omega), decide_eq_false (by intro h; subst h; exact he rfl)]
theorem same_eq {H W H' W' : List S24} (h1 : H.length ≤ 1000) (h2 : W.length ≤ 1000) : archivoltref31_Same.f 2000 H W H' W' = some (decide (H = H') && decide (W = W')) := by
  unfold archivoltref31_Same.f
  rw [sameLocks_eq h1, sameLocks_eq h2]
  by_cases h : H = H' <;> simp [h]
theorem sameNews_eq {G N G' N' : List Int} (h1 : G.length ≤ 1000) (h2 : N.length ≤ 1000) : archivoltref31_SameNews.f 2000 G N G' N' = some (decide (G = G') && decide (N = N')) := by
  unfold archivoltref31_SameNews.f
  rw [sameInts_eq h1, sameInts_eq h2]
  by_cases h : G = G' <;> simp [h]
theorem waiting_loop {H W : List S24} {x : Int} (hl : W.length ≤ 1000) : ∀ (n k j : Nat), j + n = W.length → n < k → ∃ r : Int, archivoltref31_waiting.l0 k x (j : Int) H W = some r ∧ decide (r ≥ 0) = (W.drop j).any (fun y => y.f1 == x)
  | n, 0, j, _, hk => absurd hk (by omega)
  | 0, k + 1, j, hj, _ => by
    unfold archivoltref31_waiting.l0
    rw [if_neg (show ¬ (j : Int) < (W.length : Int) by omega)]
    rw [List.drop_of_length_le (by omega)]
    exact ⟨-1, rfl, rfl⟩
  | n + 1, k + 1, j, hj, hk => by
    have h0 : j < W.length := by omega
    unfold archivoltref31_waiting.l0
    rw [if_pos (show (j : Int) < (W.length : Int) by omega), if_pos (show 0 ≤ (j : Int) by omega), drop_at h0]
    rw [show W[j] = rd_T24 W (j : Int) from (rd_at h0).symm, List.any_cons]
    by_cases hh : (rd_T24 W (j : Int)).f1 = x
    · rw [if_pos hh]
      refine ⟨j, rfl, ?_⟩
      simp [hh]
    · rw [if_neg hh, wrap_succ (by omega)]
      obtain ⟨r, e, h⟩ := waiting_loop hl n k (j + 1) (by omega) (by omega)
      refine ⟨r, e, ?_⟩
      rw [h]
      simp [hh]
/-- Whether a handle waits. -/
def waitsB (W : List S24) (x : Int) : Bool := W.any (fun y => y.f1 == x)
theorem waits_eq {H W : List S24} {x : Int} (hl : W.length ≤ 1000) : archivoltref31_Waits.f 2000 H W x = some (waitsB W x) := by
  obtain ⟨r, e, h⟩ := waiting_loop (H := H) (x := x) hl W.length 2000 0 (by omega) (by omega)
  unfold archivoltref31_Waits.f archivoltref31_waiting.f
  rw [show ((0 : Nat) : Int) = 0 from rfl] at e
  rw [e]
  show some (decide (r ≥ 0)) = _
  rw [h]
  rfl
theorem has_loop {L : List Int} {x : Int} (hl : L.length ≤ 1000) : ∀ (n k j : Nat), j + n = L.length → n < k → archivoltlaw31_has.l0 k L x (j : Int) = some (decide (x ∈ L.drop j))
  | n, 0, j, _, hk => absurd hk (by omega)
  | 0, k + 1, j, hj, _ => by
    unfold archivoltlaw31_has.l0
    rw [if_neg (show ¬ (j : Int) < (L.length : Int) by omega)]
    rw [List.drop_of_length_le (by omega)]
    simp
  | n + 1, k + 1, j, hj, hk => by
    have h0 : j < L.length := by omega
    unfold archivoltlaw31_has.l0
    rw [if_pos (show (j : Int) < (L.length : Int) by omega), if_pos (show 0 ≤ (j : Int) by omega), drop_at h0]
    rw [show rd L (j : Int) = L[j] by simp [rd, h0]]
    by_cases hh : L[j] = x
    · rw [if_pos hh]
      simp [hh]
    · rw [if_neg hh, wrap_succ (by omega), has_loop hl n k (j + 1) (by omega) (by omega)]
      have : ¬ x = L[j] := fun h => hh h.symm
      simp only [List.mem_cons, this, false_or]
theorem has_eq {L : List Int} {x : Int} (hl : L.length ≤ 1000) : archivoltlaw31_has.f 2000 L x = some (decide (x ∈ L)) := by
  unfold archivoltlaw31_has.f
  have := has_loop (x := x) hl L.length 2000 0 (by omega) (by omega)
  simpa using this

theorem sameT_calls (A B A' B' : Option Addr) (c d c' d' : Nat) (H W H' W' : List S24) (w : World) (h1 : k24.C w A H.length H) (h2 : k24.C w B W.length W) (h3 : k24.C w A' H'.length H') (h4 : k24.C w B' W'.length W')
    (l1 : H.length ≤ c) (l2 : W.length ≤ d) (l3 : H'.length ≤ c') (l4 : W'.length ≤ d') (hl : H.length + W.length ≤ 1000) :
    Calls Try.prog 24 #[.agg #[.slice A H.length c, .slice B W.length d], .agg #[.slice A' H'.length c', .slice B' W'.length d']] w fun e w' => e = .returned (.bool (decide (H = H') && decide (W = W'))) ∧ Below w.heap.size w w' :=
  archivoltref31_Same.calls 2000 A c H B d W A' c' H' B' d' W' _ w h1 l1 h2 l2 h3 l3 h4 l4 (same_eq (by omega) (by omega))
theorem sameN_calls (A B A' B' : Option Addr) (c d c' d' : Nat) (H W H' W' : List Int) (w : World) (h1 : kI.C w A H.length H) (h2 : kI.C w B W.length W) (h3 : kI.C w A' H'.length H') (h4 : kI.C w B' W'.length W')
    (l1 : H.length ≤ c) (l2 : W.length ≤ d) (l3 : H'.length ≤ c') (l4 : W'.length ≤ d') (hl : H.length + W.length ≤ 1000) :
    Calls Try.prog 25 #[.agg #[.slice A H.length c, .slice B W.length d], .agg #[.slice A' H'.length c', .slice B' W'.length d']] w fun e w' => e = .returned (.bool (decide (H = H') && decide (W = W'))) ∧ Below w.heap.size w w' :=
  archivoltref31_SameNews.calls 2000 A c H B d W A' c' H' B' d' W' _ w h1 l1 h2 l2 h3 l3 h4 l4 (sameNews_eq (by omega) (by omega))
theorem waits_calls (A B : Option Addr) (c d : Nat) (H W : List S24) (x : Int) (w : World) (h1 : k24.C w A H.length H) (h2 : k24.C w B W.length W) (l1 : H.length ≤ c) (l2 : W.length ≤ d) (hl : W.length ≤ 1000) :
    Calls Try.prog 19 #[.agg #[.slice A H.length c, .slice B W.length d], .int .i64 x] w fun e w' => e = .returned (.bool (waitsB W x)) ∧ Below w.heap.size w w' :=
  archivoltref31_Waits.calls 2000 A c H B d W x _ w h1 l1 h2 l2 (waits_eq hl)
theorem has_calls (A : Option Addr) (c : Nat) (L : List Int) (x : Int) (w : World) (h1 : kI.C w A L.length L) (l1 : L.length ≤ c) (hl : L.length ≤ 1000) :
    Calls Try.prog 42 #[.slice A L.length c, .int .i64 x] w fun e w' => e = .returned (.bool (decide (x ∈ L))) ∧ Below w.heap.size w w' :=
  (archivoltlaw31_has.calls 2000 A c L x _ w h1 l1 (has_eq hl)).mono fun e w' ⟨h, hd⟩ => ⟨h, hd.below⟩
end Go.Proofs.Ytifnfnoicinbaaa.M
