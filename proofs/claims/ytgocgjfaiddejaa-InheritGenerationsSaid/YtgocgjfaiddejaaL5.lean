/- InheritGenerations: its walk. -/
import Derived.Test.YtgocgjfaiddejaaP5
namespace Go.Proofs.Ytgocgjfaiddejaa.M
open Go.RowKit Go.Proofs.YtgocgjfaiddejaaW.PrintWords Go.Proofs.YtgocgjfaiddejaaW.PrintLast Go.Proofs.YtgocgjfaiddejaaW.PrintMore
set_option linter.unusedVariables false
set_option linter.unusedSimpArgs false
set_option linter.unnecessarySimpa false

theorem inh_shift (dir : Bool) (l : List S37) : ∀ i j, (inh dir i l).map (·.2) = (inh dir j l).map (·.2) := by
  induction l with
  | nil => intro i j; rfl
  | cons x l ih =>
    intro i j
    simp only [inh]
    cases giveF x.f3 dir with
    | none => exact ih _ _
    | some f => simp only [List.map_cons]; rw [ih (i + 1) (j + 1)]
theorem given_cons (x : S37) (l : List S37) (dir : Bool) : given (x :: l) dir = (match giveF x.f3 dir with | some f => { x with f3 := f } :: given l dir | none => given l dir) := by
  unfold given
  simp only [inh]
  cases giveF x.f3 dir with
  | none => exact inh_shift _ _ _ _
  | some f => simp only [List.map_cons]; rw [inh_shift dir l 1 0]
theorem twice_flags : ∀ n : Fin 32, ∀ dir : Bool, (match giveF ((n : Nat) : Int) true with | some g => giveF g dir | none => none) = (if hasB ((n : Nat) : Int) 8 then none else giveF ((n : Nat) : Int) dir) := by decide +kernel
theorem twice_flag {f : Int} (h0 : 0 ≤ f) (h1 : f ≤ 31) (dir : Bool) : (match giveF f true with | some g => giveF g dir | none => none) = (if hasB f 8 then none else giveF f dir) :=
  flag_cases h0 h1 (fun f => (match giveF f true with | some g => giveF g dir | none => none) = (if hasB f 8 then none else giveF f dir)) (fun n hn => twice_flags ⟨n, hn⟩ dir)
/-- Has stop. -/
def stopB (x : S37) : Bool := hasB x.f3 8
theorem vAce_flags {x : S37} (h : vAce x = true) : 0 ≤ x.f3 ∧ x.f3 ≤ 31 := by
  unfold vAce at h
  simp only [Bool.and_eq_true, decide_eq_true_eq] at h
  exact ⟨h.1.2, h.2⟩
/-- What is inherited over two generations. -/
theorem given_given (l : List S37) (dir : Bool) (hl : l.all vAce = true) : given (given l true) dir = given (l.filter fun x => !stopB x) dir := by
  induction l with
  | nil => rfl
  | cons x l ih =>
    rw [List.all_cons, Bool.and_eq_true] at hl
    have hx := vAce_flags hl.1
    have ht := twice_flag hx.1 hx.2 dir
    rw [given_cons x l true, List.filter_cons]
    cases hg : giveF x.f3 true with
    | none =>
      rw [hg] at ht
      dsimp only at ht ⊢
      rw [ih hl.2]
      by_cases hs : stopB x = true
      · rw [if_neg (by simp [hs])]
      · rw [if_pos (by simpa using hs), given_cons]
        have hs' : ¬ (hasB x.f3 8 = true) := hs
        rw [if_neg hs'] at ht
        rw [← ht]
    | some g =>
      rw [hg] at ht
      dsimp only at ht ⊢
      rw [given_cons]
      dsimp only
      by_cases hs : stopB x = true
      · have hs' : hasB x.f3 8 = true := hs
        rw [if_pos hs'] at ht
        rw [ht, if_neg (by simp [hs])]
        exact ih hl.2
      · have hs' : ¬ (hasB x.f3 8 = true) := hs
        rw [if_neg hs'] at ht
        rw [if_pos (by simpa using hs), given_cons, ← ht]
        cases giveF g dir with
        | none => exact ih hl.2
        | some h => dsimp only; rw [ih hl.2]
theorem has_flags (k : Nat) (n : Nat) (hn : n < 32) (hk : k = 1 ∨ k = 2 ∨ k = 4 ∨ k = 8 ∨ k = 16) : ((Int.tmod (wrap64 (Int.tdiv (n : Int) (k : Int))) 2) == 1) = hasB (n : Int) (k : Int) := by
  have : ∀ n : Fin 32, ∀ k : Fin 17, (k = 1 ∨ k = 2 ∨ k = 4 ∨ k = 8 ∨ k = 16) → ((Int.tmod (wrap64 (Int.tdiv ((n : Nat) : Int) ((k : Nat) : Int))) 2) == 1) = hasB ((n : Nat) : Int) ((k : Nat) : Int) := by decide +kernel
  exact this ⟨n, hn⟩ ⟨k, by omega⟩ (by rcases hk with rfl | rfl | rfl | rfl | rfl <;> simp)
/-- Has, of the reference. -/
theorem has_f {x : S37} (h : vAce x = true) : archivoltref23_Has.f x.f0 x.f1 x.f2 x.f3 8 = some (stopB x) := by
  have hx := vAce_flags h
  unfold archivoltref23_Has.f
  rw [if_neg (by decide)]
  congr 1
  exact flag_cases hx.1 hx.2 (fun f => ((Int.tmod (wrap64 (Int.tdiv f 8)) 2) == 1) = hasB f 8) (fun n hn => has_flags 8 n hn (by simp))
/-- What follows the loop. -/
theorem gen_end (l : List S37) (dir : Bool) (o owner : Int) (hv : vDesc o l = true) (h1 : 3 ≤ owner) (h2 : owner ≤ 1048576) (k : Nat) (hk : 40 ≤ k) (c1 : Bool) :
    ((inherit_Given.f k owner c1 (given l true) dir).bind fun bt344 => ((inherit_Given.f k o false (l.filter fun x => !stopB x) dir).bind fun bt348 => ((archivoltlaw23_sane.f).bind fun t352 => (if t352 = true then (if bt344.2 = 0 then (if bt348.2 = 0 then ((archivoltref23_SameAces.f k bt344.1 bt348.1).bind fun t353 => (some t353)) else (some false)) else (some false)) else (some false))))) = some true := by
  have hl := vDesc_all hv
  have hn := vDesc_len hv
  have hq : vDesc o (l.filter fun x => !stopB x) = true := by
    have hf := List.length_filter_le (fun x => !stopB x) l
    have ha : (l.filter fun x => !stopB x).all vAce = true := by
      rw [List.all_eq_true] at hl ⊢
      intro x hx
      exact hl x (List.mem_filter.1 hx).1
    unfold vDesc at hv ⊢
    simp only [Bool.and_eq_true, decide_eq_true_eq] at hv ⊢
    exact ⟨⟨hv.1.1, by omega⟩, ha⟩
  have hg : vDesc owner (given l true) = true := given_valid hv h1 h2
  have hs := at_rounds (archivoltref23_SameAces.mono (given (given l true) dir) (given (l.filter fun x => !stopB x) dir)) (k' := k) (by have := given_length (given l true) dir; have := given_length l true; omega) (same_f (given (given l true) dir) (given (l.filter fun x => !stopB x) dir) (by have := given_length (given l true) dir; have := given_length l true; omega))
  unfold inherit_Given.f archivoltlaw23_sane.f sGiven errOf
  simp only [hq, hg, Option.bind_some, if_true]
  rw [hs, given_given l dir hl]
  simp
theorem gen_loop (l : List S37) (dir : Bool) (o owner : Int) (b c1 : Bool) (hv : vDesc o l = true) (h1 : 3 ≤ owner) (h2 : owner ≤ 1048576) : ∀ (d j k : Nat), d = l.length - j → j ≤ l.length → d + 41 ≤ k →
    archivoltlaw23_InheritGenerations.l0 k dir (j : Int) o b l owner c1 (given l true) o false ((l.take j).filter fun x => !stopB x) = some true := by
  have hn := vDesc_len hv
  have hl := vDesc_all hv
  intro d
  induction d with
  | zero =>
    intro j k hd hj hk
    obtain ⟨k, rfl⟩ : ∃ m, k = m + 1 := ⟨k - 1, by omega⟩
    simp only [archivoltlaw23_InheritGenerations.l0]
    rw [if_neg (by omega), List.take_of_length_le (by omega)]
    exact gen_end l dir o owner hv h1 h2 k (by omega) c1
  | succ d ih =>
    intro j k hd hj hk
    obtain ⟨k, rfl⟩ : ∃ m, k = m + 1 := ⟨k - 1, by omega⟩
    have hjl : j < l.length := by omega
    have hx : vAce (rd_T37 l j) = true := by
      rw [rd_at hjl]
      exact List.all_eq_true.1 hl _ (List.getElem_mem hjl)
    have hw : wrap64 ((j : Int) + 1) = ((j + 1 : Nat) : Int) := by unfold wrap64; omega
    simp only [archivoltlaw23_InheritGenerations.l0]
    rw [if_pos (by omega), if_pos (by omega), has_f hx, Option.bind_some, hw]
    have ht := take_filter (p := fun x => !stopB x) hjl
    cases hs : stopB (rd_T37 l j) with
    | true =>
      rw [if_pos rfl]
      rw [hs] at ht
      have := ih (j + 1) k (by omega) (by omega) (by omega)
      rw [ht] at this
      simpa using this
    | false =>
      have hf := List.length_filter_le (fun x => !stopB x) (l.take j)
      simp only [List.length_take] at hf
      rw [if_neg (by simp), if_pos (by omega)]
      rw [hs] at ht
      have := ih (j + 1) k (by omega) (by omega) (by omega)
      rw [ht] at this
      simpa using this
theorem generations_pure (l : List S37) (dir : Bool) (o owner : Int) (b : Bool) : ∃ k, archivoltlaw23_InheritGenerations.f k o b l dir owner = some true := by
  by_cases h : vDesc o l = true ∧ 3 ≤ owner ∧ owner ≤ 1048576
  · refine ⟨l.length + 41, ?_⟩
    have hs : sChild o l true owner = (⟨owner, false, given l true⟩, 0) := by unfold sChild; rw [if_pos h]
    unfold archivoltlaw23_InheritGenerations.f inherit_Child.f
    rw [hs, Option.bind_some, if_pos rfl]
    have := gen_loop l dir o owner b false h.1 h.2.1 h.2.2 l.length 0 (l.length + 41) (by omega) (by omega) (by omega)
    simpa using this
  · refine ⟨0, ?_⟩
    have hs : sChild o l true owner = (z33, 1) := by unfold sChild; rw [if_neg h]
    unfold archivoltlaw23_InheritGenerations.f inherit_Child.f archivoltlaw23_sane.f
    rw [hs, Option.bind_some, if_neg (by simp)]
    rfl
theorem generations_walk (A : Option Addr) (c : Nat) (y : S33) (dir : Bool) (owner : Int) (w : World) (hc : y.f2.length ≤ c) (hr : k37.C w A y.f2.length y.f2) (_ : -9223372036854775808 ≤ owner ∧ owner ≤ 9223372036854775807) :
    Calls Try.prog 5 #[.agg #[.int .i64 y.f0, .bool y.f1, .slice A y.f2.length c], .bool dir, .int .i64 owner] w fun e w' => e = .returned (.bool true) ∧ Below w.heap.size w w' := by
  obtain ⟨k, hk⟩ := generations_pure y.f2 dir y.f0 owner y.f1
  exact archivoltlaw23_InheritGenerations.calls k y.f0 y.f1 A c y.f2 dir owner true w hr hc hk
end Go.Proofs.Ytgocgjfaiddejaa.M
