/- What the statements about sequences of acts need: done in one form, how long a played table is, Try of two locks. -/
import Derived.Test.YtifnfnoicinbaaaE2
import Derived.Test.YtifnfnoicinbaaaN1
namespace Go.Proofs.Ytifnfnoicinbaaa.M
open Go.RowKit Go.Proofs.YtifnfnoicinbaaaW.PrintWords Go.Proofs.YtifnfnoicinbaaaW.PrintLast Go.Proofs.YtifnfnoicinbaaaW.PrintMore
set_option linter.unusedVariables false
set_option linter.unusedSimpArgs false
set_option linter.unnecessarySimpa false

theorem conflict_calls (a b : S24) (w : World) : Calls Try.prog 14 #[.agg #[.int .i64 a.f0, .int .i64 a.f1, .int .i64 a.f2, .int .i64 a.f3, .bool a.f4], .agg #[.int .i64 b.f0, .int .i64 b.f1, .int .i64 b.f2, .int .i64 b.f3, .bool b.f4]] w fun e w' => e = .returned (.bool (cfL a b)) ∧ Below w.heap.size w w' :=
  lock_Conflict.calls a.f0 a.f1 a.f2 a.f3 a.f4 b.f0 b.f1 b.f2 b.f3 b.f4 (cfL a b) w (conflict_f a b)
/-- The news of an act that was done. -/
def newsT (t : List S24 × List S24) (a : S37) : List Int × List Int := if (doneR t.1 t.2 a).2 = 0 then (doneR t.1 t.2 a).1.2.2 else ([], [])
theorem doneT_calls (n : Nat) (A1 A2 : Option Addr) (c1 c2 : Nat) (H Q : List S24) (a : S37) (w : World) (RH : k24.R 24 w n (fun _ => True) (.slice A1 H.length c1) H) (RW : k24.R 24 w n (fun _ => True) (.slice A2 Q.length c2) Q) (hn : n ≤ w.heap.size) (hlen : H.length + Q.length ≤ 1000) (h0 : 0 ≤ a.f0) (h255 : a.f0 ≤ 255) :
    Calls Try.prog 17 #[.agg #[.slice A1 H.length c1, .slice A2 Q.length c2], .agg #[.int .u8 a.f0, .int .i64 a.f1.f0, .int .i64 a.f1.f1, .int .i64 a.f1.f2, .int .i64 a.f1.f3, .bool a.f1.f4]] w fun e w' =>
      ∃ vH vW vG vN, e = .returned (.tuple #[.agg #[vH, vW], .agg #[vG, vN], .bool (decide ((doneR H Q a).2 = 0))]) ∧ k24.R 24 w' n (fun _ => True) vH (nextT (H, Q) a).1 ∧ k24.R 24 w' n (fun _ => True) vW (nextT (H, Q) a).2 ∧ kI.R 3 w' n (fun _ => True) vG (newsT (H, Q) a).1 ∧ kI.R 3 w' n (fun _ => True) vN (newsT (H, Q) a).2 ∧ Below w.heap.size w w' := by
  refine (done_calls A1 A2 c1 c2 H Q a w (Kd.R_reads' RH).2.2 (Kd.R_reads' RW).2.2 hlen h0 h255).mono ?_
  rintro e w' ⟨v, u, hb, hp⟩
  unfold nextT newsT
  rcases hp with ⟨hz, rfl, ⟨vH, vW, rfl, r1, r2⟩, ⟨vG, vN, rfl, r3, r4⟩⟩ | ⟨hz, rfl⟩
  · rw [if_pos hz, if_pos hz, decide_eq_true hz]
    exact ⟨_, _, _, _, rfl, Kd.R_lower r1 hn, Kd.R_lower r2 hn, Kd.R_lower r3 hn, Kd.R_lower r4 hn, hb⟩
  · rw [if_neg hz, if_neg hz, decide_eq_false hz]
    exact ⟨_, _, _, _, rfl, Kd.R_below RH hb, Kd.R_below RW hb, Kd.R_nil _ _ _ _ _, Kd.R_nil _ _ _ _ _, hb⟩
theorem settle_all {H W : List S24} (hs : PL.Single hdL W) : (settleL H W).1.length + (settleL H W).2.1.length ≤ H.length + W.length := by
  obtain ⟨H', W', G', N', e, st, _, _⟩ := PL.settle_spec (mt := mtL) (H := H) hs
  rw [show settleL H W = (H', W', G', N') from e]
  exact PL.steps_len st
theorem next_len {t : List S24 × List S24} {a : S37} (h : Inv t.1 t.2) : (nextT t a).1.length + (nextT t a).2.length ≤ t.1.length + t.2.length + 1 := by
  obtain ⟨H, Q⟩ := t
  unfold nextT
  by_cases hz : (doneR H Q a).2 = 0
  · rw [if_pos hz]
    dsimp only
    unfold doneR at hz ⊢
    split at hz
    · rename_i hk
      rw [if_pos hk]
      dsimp only at hz ⊢
      obtain ⟨_, _, _, e⟩ := try_ok hz
      rw [e]
      simp
      omega
    · rename_i hk
      rw [if_neg hk]
      split at hz
      · rename_i hk
        rw [if_pos hk]
        unfold askF at hz ⊢
        by_cases hq : reqE H Q a.f1 = 0
        · rw [if_pos hq]
          have := settle_all (H := H) (req_good hq).single
          simp at this ⊢
          omega
        · rw [if_neg hq] at hz; exact absurd hz hq
      · rename_i hk
        rw [if_neg hk]
        split at hz
        · rename_i hk
          rw [if_pos hk]
          obtain ⟨_, _, i, _, e⟩ := unlock_ok hz
          rw [e]
          have := settle_all (H := H.eraseIdx i) h.single
          have := (List.eraseIdx_sublist H i).length_le
          dsimp only at *
          omega
        · rename_i hk
          rw [if_neg hk]
          split at hz
          · rename_i hk
            rw [if_pos hk]
            obtain ⟨_, _, i, _, e⟩ := cancel_ok hz
            rw [e]
            have hs := h.single
            have := settle_all (H := H) (W := Q.eraseIdx i) (by unfold PL.Single at *; exact hs.sublist ((List.eraseIdx_sublist Q i).map _))
            have := (List.eraseIdx_sublist Q i).length_le
            dsimp only at *
            omega
          · rename_i hk
            rw [if_neg hk]
            obtain ⟨_, _, e⟩ := close_ok hz
            rw [e]
            have hs := h.single
            have := settle_all (H := H.filter (fun y => !(hdL y == a.f1.f1))) (W := Q.filter (fun y => !(hdL y == a.f1.f1))) (by unfold PL.Single at *; exact hs.sublist (List.filter_sublist.map _))
            have := (List.filter_sublist (l := Q) (p := fun y => !(hdL y == a.f1.f1))).length_le
            have := (List.filter_sublist (l := H) (p := fun y => !(hdL y == a.f1.f1))).length_le
            dsimp only at *
            omega
  · rw [if_neg hz]
    dsimp only
    omega
theorem play_short (l : List S37) : (playF l).1.length + (playF l).2.length ≤ l.length := by
  unfold playF
  have : ∀ (l : List S37) (t : List S24 × List S24), Inv t.1 t.2 → (l.foldl nextT t).1.length + (l.foldl nextT t).2.length ≤ t.1.length + t.2.length + l.length := by
    intro l
    induction l with
    | nil => exact fun t _ => by simp
    | cons a l ih =>
      intro t h
      have h1 := ih _ (next_inv (a := a) h)
      have h2 := next_len (a := a) h
      simp only [List.foldl_cons, List.length_cons]
      omega
  have := this l ([], []) Inv.nil
  simpa using this
theorem try_iff {H Q : List S24} {l : S24} (hI : Inv H Q) (hl : H.length + Q.length < 400) : (tryF H Q l).2 = 0 ↔ vL l = true ∧ waitN Q l.f1 < 0 ∧ (∀ x ∈ H, mtL x l = false) ∧ ∀ x ∈ Q, mtL x l = false := by
  constructor
  · intro h
    obtain ⟨h1, h2, h3, _⟩ := try_ok h
    exact ⟨(req_inv h1).2.1, (req_parts h1).2.1, h2, h3⟩
  · rintro ⟨hv, hw, h2, h3⟩
    have hb : begE H Q (vL l) = 0 := by unfold begE; rw [Inv.iff.1 hI, hv]; rfl
    have hr : reqE H Q l = 0 := by unfold reqE; rw [if_pos hb, if_neg (by omega), if_neg (by omega)]
    unfold tryF
    rw [if_pos hr]
    have : (H.any (fun x => mtL x l) || Q.any (fun x => mtL x l)) = false := by
      rw [Bool.or_eq_false_iff]
      exact ⟨List.any_eq_false.2 fun x hx => by rw [h2 x hx]; simp, List.any_eq_false.2 fun x hx => by rw [h3 x hx]; simp⟩
    rw [this]
    rfl
def tryA (a : S24) : S37 := ⟨0, a⟩
theorem done_try (H Q : List S24) (a : S24) : doneR H Q (tryA a) = (((tryF H Q a).1.1, (tryF H Q a).1.2, [], []), (tryF H Q a).2) := rfl
theorem next_try {H Q : List S24} {a : S24} : nextT (H, Q) (tryA a) = if (tryF H Q a).2 = 0 then (H ++ [a], Q) else (H, Q) := by
  unfold nextT
  rw [done_try]
  by_cases h : (tryF H Q a).2 = 0
  · dsimp only
    rw [if_pos h, if_pos h, (try_ok h).2.2.2]
  · dsimp only
    rw [if_neg h, if_neg h]
/-- A lock that was granted to another handle does not touch a Try that conflicts not with it. -/
theorem try_after {H Q : List S24} {a b : S24} (hI : Inv H Q) (hl : H.length + Q.length < 399) (hc : cfL a b = false) : ((tryF (nextT (H, Q) (tryA a)).1 (nextT (H, Q) (tryA a)).2 b).2 = 0 ↔ (tryF H Q b).2 = 0) := by
  rw [next_try]
  by_cases h : (tryF H Q a).2 = 0
  · rw [if_pos h]
    have hI2 := try_inv h
    rw [(try_ok h).2.2.2] at hI2
    have hv := ((try_iff hI (by omega)).1 h).1
    dsimp only at hI2 ⊢
    rw [try_iff hI2 (by simp; omega), try_iff hI (by omega)]
    constructor
    · rintro ⟨h1, h2, h3, h4⟩
      exact ⟨h1, h2, fun x hx => h3 x (List.mem_append_left _ hx), h4⟩
    · rintro ⟨h1, h2, h3, h4⟩
      refine ⟨h1, h2, fun x hx => ?_, h4⟩
      rcases List.mem_append.1 hx with hx | hx
      · exact h3 x hx
      · rw [List.mem_singleton] at hx
        subst hx
        unfold cfL at hc
        rw [hv, h1] at hc
        simpa using hc
  · rw [if_neg h]
/-- Two Try's in both orders. -/
theorem indep {H Q : List S24} {a b : S24} (hI : Inv H Q) (hl : H.length + Q.length < 399) (hc : cfL a b = false) :
    let X := nextT (H, Q) (tryA a); let Y := nextT (H, Q) (tryA b)
    decide ((doneR H Q (tryA a)).2 = 0) = decide ((doneR Y.1 Y.2 (tryA a)).2 = 0) ∧ decide ((doneR X.1 X.2 (tryA b)).2 = 0) = decide ((doneR H Q (tryA b)).2 = 0) ∧ (nextT X (tryA b)).1.Perm (nextT Y (tryA a)).1 ∧ (nextT X (tryA b)).2 = (nextT Y (tryA a)).2 := by
  intro X Y
  have hc' : cfL b a = false := by
    unfold cfL at hc ⊢
    rw [mt_sym, Bool.and_comm (vL b)]
    exact hc
  have h1 := try_after hI hl hc
  have h2 := try_after hI hl hc'
  refine ⟨?_, ?_, ?_⟩
  · rw [done_try, done_try]
    exact decide_eq_decide.2 h2.symm
  · rw [done_try, done_try]
    exact decide_eq_decide.2 h1
  · show (nextT (X.1, X.2) (tryA b)).1.Perm (nextT (Y.1, Y.2) (tryA a)).1 ∧ (nextT (X.1, X.2) (tryA b)).2 = (nextT (Y.1, Y.2) (tryA a)).2
    rw [next_try (H := X.1), next_try (H := Y.1)]
    by_cases ha : (tryF H Q a).2 = 0
    · by_cases hb : (tryF H Q b).2 = 0
      · rw [if_pos (h1.2 hb), if_pos (h2.2 ha)]
        show ((nextT (H, Q) (tryA a)).1 ++ [b]).Perm ((nextT (H, Q) (tryA b)).1 ++ [a]) ∧ (nextT (H, Q) (tryA a)).2 = (nextT (H, Q) (tryA b)).2
        rw [next_try, next_try, if_pos ha, if_pos hb]
        refine ⟨?_, rfl⟩
        simp only [List.append_assoc]
        exact List.Perm.append_left H (List.Perm.swap b a [])
      · rw [if_neg (fun h => hb (h1.1 h)), if_pos (h2.2 ha)]
        show (nextT (H, Q) (tryA a)).1.Perm ((nextT (H, Q) (tryA b)).1 ++ [a]) ∧ (nextT (H, Q) (tryA a)).2 = (nextT (H, Q) (tryA b)).2
        rw [next_try, next_try, if_pos ha, if_neg hb]
        exact ⟨List.Perm.refl _, rfl⟩
    · by_cases hb : (tryF H Q b).2 = 0
      · rw [if_pos (h1.2 hb), if_neg (fun h => ha (h2.1 h))]
        show ((nextT (H, Q) (tryA a)).1 ++ [b]).Perm (nextT (H, Q) (tryA b)).1 ∧ (nextT (H, Q) (tryA a)).2 = (nextT (H, Q) (tryA b)).2
        rw [next_try, next_try, if_neg ha, if_pos hb]
        exact ⟨List.Perm.refl _, rfl⟩
      · rw [if_neg (fun h => hb (h1.1 h)), if_neg (fun h => ha (h2.1 h))]
        show (nextT (H, Q) (tryA a)).1.Perm (nextT (H, Q) (tryA b)).1 ∧ (nextT (H, Q) (tryA a)).2 = (nextT (H, Q) (tryA b)).2
        rw [next_try, next_try, if_neg ha, if_neg hb]
        exact ⟨List.Perm.refl _, rfl⟩
end Go.Proofs.Ytifnfnoicinbaaa.M
