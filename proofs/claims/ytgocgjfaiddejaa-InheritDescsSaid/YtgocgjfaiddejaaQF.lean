/- What the reference's functions compute, those that are printed. -/
import Derived.Test.YtgocgjfaiddejaaSQ
import Derived.Test.YtgocgjfaiddejaaFB
namespace Go.Proofs.Ytgocgjfaiddejaa.M
open Go.RowKit Go.Proofs.YtgocgjfaiddejaaW.PrintWords Go.Proofs.YtgocgjfaiddejaaW.PrintLast Go.Proofs.YtgocgjfaiddejaaW.PrintMore
set_option linter.unusedVariables false
set_option linter.unusedSimpArgs false
set_option linter.unnecessarySimpa false

theorem has_bits (k : Nat) (n : Nat) (hn : n < 32) (hk : k = 1 ∨ k = 2 ∨ k = 4 ∨ k = 8 ∨ k = 16) : ((Int.tmod (wrap64 (Int.tdiv (n : Int) (k : Int))) 2) == 1) = hasB (n : Int) (k : Int) := by
  have : ∀ n : Fin 32, ∀ k : Fin 17, (k = 1 ∨ k = 2 ∨ k = 4 ∨ k = 8 ∨ k = 16) → ((Int.tmod (wrap64 (Int.tdiv ((n : Nat) : Int) ((k : Nat) : Int))) 2) == 1) = hasB ((n : Nat) : Int) ((k : Nat) : Int) := by decide +kernel
  exact this ⟨n, hn⟩ ⟨k, by omega⟩ (by rcases hk with rfl | rfl | rfl | rfl | rfl <;> simp)
theorem has_f {x : S37} (h : vAce x = true) : archivoltref23_Has.f x.f0 x.f1 x.f2 x.f3 16 = some (hadB x) := by
  unfold vAce at h
  simp only [Bool.and_eq_true, decide_eq_true_eq] at h
  unfold archivoltref23_Has.f
  rw [if_neg (by decide)]
  congr 1
  exact flag_cases h.1.2 h.2 (fun f => ((Int.tmod (wrap64 (Int.tdiv f 16)) 2) == 1) = hasB f 16) (fun n hn => has_bits 16 n hn (by simp))
theorem vace_f (x : S37) : archivoltref23_ValidAce.f x.f0 x.f1 x.f2 x.f3 = some (vAce x) := by
  unfold archivoltref23_ValidAce.f vAce
  repeat' split
  all_goals simp_all
  all_goals omega
theorem valid_l (o : Int) (b : Bool) (l : List S37) (hm : l.length ≤ 16) : ∀ k (j : Nat), j ≤ l.length → l.length - j < k → archivoltref23_Valid.l0 k (j : Int) o b l = some ((l.drop j).all vAce) := by
  intro k
  induction k with
  | zero => intro j _ h; omega
  | succ k ih =>
    intro j hj hk
    simp only [archivoltref23_Valid.l0]
    by_cases h : j < l.length
    · have hw : wrap64 ((j : Int) + 1) = ((j + 1 : Nat) : Int) := by unfold wrap64; omega
      rw [if_pos (by omega), if_pos (by omega), vace_f, Option.bind_some, rd_at h, hw, List.drop_eq_getElem_cons h, List.all_cons]
      cases hv : vAce l[j] with
      | true => rw [if_pos rfl, ih (j + 1) (by omega) (by omega)]; simp
      | false => rw [if_neg (by simp)]; simp
    · rw [if_neg (by omega), List.drop_of_length_le (by omega)]
      rfl
theorem valid_f (o : Int) (b : Bool) (l : List S37) (k : Nat) (hk : 20 ≤ k) : archivoltref23_Valid.f k o b l = some (vDesc o l) := by
  obtain ⟨k, rfl⟩ : ∃ m, k = m + 1 := ⟨k - 1, by omega⟩
  unfold archivoltref23_Valid.f vDesc
  by_cases h1 : o < 3
  · rw [if_pos h1]
    simp only [archivoltref23_Valid.j0]
    rw [if_pos trivial, decide_eq_false (show ¬ 3 ≤ o by omega)]
    rfl
  · rw [if_neg h1, decide_eq_true (show 3 ≤ o by omega)]
    by_cases h2 : o > 1048576
    · rw [if_pos h2]
      simp only [archivoltref23_Valid.j0]
      rw [if_pos trivial, decide_eq_false (show ¬ o ≤ 1048576 by omega)]
      rfl
    · rw [if_neg h2, decide_eq_true (show o ≤ 1048576 by omega)]
      simp only [archivoltref23_Valid.j0]
      by_cases h3 : l.length ≤ 16
      · rw [if_neg (by simp; omega), decide_eq_true h3]
        have := valid_l o b l h3 k 0 (by omega) (by omega)
        simpa using this
      · rw [if_pos (by simp; omega), decide_eq_false h3]
        rfl
theorem some_l (l : List S37) (had : Bool) (hv : l.all vAce = true) (hm : l.length ≤ 16) : ∀ k (j : Nat), j ≤ l.length → l.length - j < k → archivoltref23_some.l0 k l had ((l.take j).filter (fun x => hadB x == had)) (j : Int) = some (l.filter (fun x => hadB x == had)) := by
  intro k
  induction k with
  | zero => intro j _ h; omega
  | succ k ih =>
    intro j hj hk
    simp only [archivoltref23_some.l0]
    by_cases h : j < l.length
    · have hw : wrap64 ((j : Int) + 1) = ((j + 1 : Nat) : Int) := by unfold wrap64; omega
      have hx : vAce (rd_T37 l j) = true := by rw [rd_at h]; exact List.all_eq_true.1 hv _ (List.getElem_mem h)
      have ht := take_filter (p := fun x => hadB x == had) h
      have hi := ih (j + 1) (by omega) (by omega)
      have hf := List.length_filter_le (fun x => hadB x == had) (l.take j)
      simp only [List.length_take] at hf
      rw [if_pos (by omega), if_pos (by omega), has_f hx, Option.bind_some, hw]
      by_cases hh : (hadB (rd_T37 l j) == had) = true
      · rw [if_pos hh, if_pos (by omega)]
        rw [ht, if_pos hh] at hi
        exact hi
      · rw [if_neg hh]
        rw [ht, if_neg hh, List.append_nil] at hi
        exact hi
    · rw [if_neg (by omega), List.take_of_length_le (by omega)]
theorem some_f (l : List S37) (had : Bool) (hv : l.all vAce = true) (hm : l.length ≤ 16) (k : Nat) (hk : 20 ≤ k) : archivoltref23_some.f k l had = some (l.filter (fun x => hadB x == had)) := by
  have := some_l l had hv hm k 0 (by omega) (by omega)
  simpa [archivoltref23_some.f] using this
theorem own_filter (l : List S37) : l.filter (fun x => hadB x == false) = l.filter ownB := by
  congr 1
  funext x
  unfold hadB ownB
  cases hasB x.f3 16 <;> rfl
theorem flags_any (a : Bool) (b c d : Int) (dir : Bool) : archivoltref23_flags.f 3 a b c d dir = archivoltref23_flags.f 3 false 0 0 d dir := by
  simp only [archivoltref23_flags.f, archivoltref23_flags.j0, archivoltref23_flags.j1, archivoltref23_Has.f]
theorem flags_dec : ∀ n : Fin 32, ∀ dir : Bool, archivoltref23_flags.f 3 false 0 0 ((n : Nat) : Int) dir = some ((giveF ((n : Nat) : Int) dir).getD (-1)) := by decide +kernel
theorem flags_f {x : S37} (h : vAce x = true) (dir : Bool) (k : Nat) (hk : 3 ≤ k) : archivoltref23_flags.f k x.f0 x.f1 x.f2 x.f3 dir = some ((giveF x.f3 dir).getD (-1)) := by
  refine at_rounds (archivoltref23_flags.mono x.f0 x.f1 x.f2 x.f3 dir) hk ?_
  rw [flags_any]
  unfold vAce at h
  simp only [Bool.and_eq_true, decide_eq_true_eq] at h
  exact flag_cases h.1.2 h.2 (fun f => archivoltref23_flags.f 3 false 0 0 f dir = some ((giveF f dir).getD (-1))) (fun n hn => flags_dec ⟨n, hn⟩ dir)
theorem giveF_pos {x : S37} (h : vAce x = true) {dir : Bool} {g : Int} (hg : giveF x.f3 dir = some g) : 0 ≤ g := by
  unfold vAce at h
  simp only [Bool.and_eq_true, decide_eq_true_eq] at h
  have := flag_cases h.1.2 h.2 (fun f => ∀ g, giveF f dir = some g → 0 ≤ g ∧ g ≤ 31 ∧ hasB g 16 = true) (fun n hn g h => giveF_ok n hn dir g h) g hg
  exact this.1
def places (l : List S37) (dir : Bool) : List Int := (inh dir 0 l).map (fun p => (p.1 : Int))
theorem from_l (o : Int) (b : Bool) (l : List S37) (dir : Bool) (hv : l.all vAce = true) (hm : l.length ≤ 16) : ∀ k (j : Nat), j ≤ l.length → l.length - j + 3 < k → archivoltref23_From.l0 k dir (places (l.take j) dir) (j : Int) o b l = some (places l dir) := by
  intro k
  induction k with
  | zero => intro j _ h; omega
  | succ k ih =>
    intro j hj hk
    simp only [archivoltref23_From.l0]
    by_cases h : j < l.length
    · have hw : wrap64 ((j : Int) + 1) = ((j + 1 : Nat) : Int) := by unfold wrap64; omega
      have hx : vAce (rd_T37 l j) = true := by rw [rd_at h]; exact List.all_eq_true.1 hv _ (List.getElem_mem h)
      have hs := inh_step dir l j h
      have hi := ih (j + 1) (by omega) (by omega)
      have hl := inh_length dir (l.take j) 0
      simp only [List.length_take] at hl
      rw [if_pos (by omega), if_pos (by omega), flags_f hx dir k (by omega), Option.bind_some, hw]
      unfold places at hi ⊢
      rw [hs] at hi
      cases hg : giveF (rd_T37 l j).f3 dir with
      | none =>
        rw [hg] at hi
        rw [if_neg (by simp)]
        simpa using hi
      | some g =>
        rw [hg] at hi
        have := giveF_pos hx hg
        rw [if_pos (by simpa using this), if_pos (by rw [List.length_map]; omega)]
        simpa using hi
    · rw [if_neg (by omega), List.take_of_length_le (by omega)]
theorem from_f (o : Int) (b : Bool) (l : List S37) (dir : Bool) (hv : l.all vAce = true) (hm : l.length ≤ 16) (k : Nat) (hk : 30 ≤ k) : archivoltref23_From.f k o b l dir = some (places l dir) := by
  have := from_l o b l dir hv hm k 0 (by omega) (by omega)
  simpa [archivoltref23_From.f, places, inh] using this
theorem given_l (o : Int) (b : Bool) (l : List S37) (dir : Bool) (hv : l.all vAce = true) (hm : l.length ≤ 16) : ∀ k (j : Nat), j ≤ (inh dir 0 l).length → (inh dir 0 l).length - j + 3 < k →
    archivoltref23_given.l0 k dir (((inh dir 0 l).take j).map (·.2)) (places l dir) (j : Int) o b l = some (given l dir) := by
  have hil := inh_length dir l 0
  intro k
  induction k with
  | zero => intro j _ h; omega
  | succ k ih =>
    intro j hj hk
    have hpl : (places l dir).length = (inh dir 0 l).length := by simp [places]
    simp only [archivoltref23_given.l0]
    by_cases h : j < (inh dir 0 l).length
    · have hw : wrap64 ((j : Int) + 1) = ((j + 1 : Nat) : Int) := by unfold wrap64; omega
      obtain ⟨q, g, e, hq, hg, hx⟩ := inh_get dir l 0 j (inh dir 0 l)[j].1 (inh dir 0 l)[j].2 (List.getElem?_eq_getElem h)
      have hr : rd (places l dir) (j : Int) = (q : Int) := by
        unfold rd places
        simp [List.getD_eq_getElem?_getD, h]
        omega
      have hv2 : vAce (rd_T37 l q) = true := by rw [rd_at hq]; exact List.all_eq_true.1 hv _ (List.getElem_mem hq)
      have hg2 : giveF (rd_T37 l q).f3 dir = some g := by rw [rd_at hq]; exact hg
      have hi := ih (j + 1) (by omega) (by omega)
      rw [if_pos (by omega), if_pos (by omega), hr, if_pos (by omega), if_pos (by omega), flags_f hv2 dir k (by omega), Option.bind_some, hw, hg2, if_pos (by rw [List.length_map, List.length_take]; omega)]
      rw [List.take_succ_eq_append_getElem h, List.map_append] at hi
      have he : (inh dir 0 l)[j].2 = (⟨(rd_T37 l q).f0, (rd_T37 l q).f1, (rd_T37 l q).f2, (some g : Option Int).getD (-1)⟩ : S37) := by rw [hx, rd_at hq]; rfl
      rw [← he]
      simpa using hi
    · rw [if_neg (by omega), List.take_of_length_le (by omega)]
      rfl
theorem given_f (o : Int) (b : Bool) (l : List S37) (dir : Bool) (hv : l.all vAce = true) (hm : l.length ≤ 16) (k : Nat) (hk : 30 ≤ k) : archivoltref23_given.f k o b l dir = some (given l dir) := by
  unfold archivoltref23_given.f
  rw [from_f o b l dir hv hm k hk, Option.bind_some]
  have := inh_length dir l 0
  have := given_l o b l dir hv hm k 0 (by omega) (by omega)
  simpa using this
/-- The contracts of these functions. -/
theorem rValid_calls (o : Int) (b : Bool) (A : Option Addr) (c : Nat) (l : List S37) (w : World) (hr : k37.C w A l.length l) (hc : l.length ≤ c) :
    Calls Try.prog 60 #[.agg #[.int .i64 o, .bool b, .slice A l.length c]] w fun e w' => e = .returned (.bool (vDesc o l)) ∧ Below w.heap.size w w' :=
  archivoltref23_Valid.calls 20 o b A c l (vDesc o l) w hr hc (valid_f o b l 20 (Nat.le_refl _))
theorem rOwn_calls (A : Option Addr) (c : Nat) (l : List S37) (had : Bool) (w : World) (hr : k37.C w A l.length l) (hc : l.length ≤ c) (hv : l.all vAce = true) (hm : l.length ≤ 16) :
    Calls Try.prog 53 #[.slice A l.length c, .bool had] w fun e w' => ∃ v, e = .returned v ∧ RA w' w.heap.size v (l.filter (fun x => hadB x == had)) ∧ Below w.heap.size w w' :=
  archivoltref23_some.calls 20 A c l had _ w hr hc (some_f l had hv hm 20 (Nat.le_refl _))
theorem rgiven_calls (o : Int) (b : Bool) (A : Option Addr) (c : Nat) (l : List S37) (dir : Bool) (w : World) (hr : k37.C w A l.length l) (hc : l.length ≤ c) (hv : l.all vAce = true) (hm : l.length ≤ 16) :
    Calls Try.prog 61 #[.agg #[.int .i64 o, .bool b, .slice A l.length c], .bool dir] w fun e w' => ∃ v, e = .returned v ∧ RA w' w.heap.size v (given l dir) ∧ Below w.heap.size w w' :=
  archivoltref23_given.calls 30 o b A c l dir _ w hr hc (given_f o b l dir hv hm 30 (Nat.le_refl _))
theorem rCopied_calls (o : Int) (b : Bool) (A : Option Addr) (c : Nat) (l : List S37) (w : World) (hr : k37.C w A l.length l) (hc : l.length ≤ c) (hm : l.length ≤ 400) :
    Calls Try.prog 63 #[.agg #[.int .i64 o, .bool b, .slice A l.length c]] w fun e w' => ∃ v, e = .returned (.agg #[.int .i64 o, .bool b, v]) ∧ RA w' w.heap.size v l ∧ Below w.heap.size w w' :=
  archivoltref23_Copied.calls o b A c l o b l w hr hc (by unfold archivoltref23_Copied.f; simp; omega)
end Go.Proofs.Ytgocgjfaiddejaa.M
