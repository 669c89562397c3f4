/- What the reference's Protect and Order compute. -/
import Derived.Test.YtgocgjfaiddejaaQF
import Derived.Test.YtgocgjfaiddejaaH13
import Derived.Test.YtgocgjfaiddejaaFC
namespace Go.Proofs.Ytgocgjfaiddejaa.M
open Go.RowKit Go.Proofs.YtgocgjfaiddejaaW.PrintWords Go.Proofs.YtgocgjfaiddejaaW.PrintLast Go.Proofs.YtgocgjfaiddejaaW.PrintMore
set_option linter.unusedVariables false
set_option linter.unusedSimpArgs false
set_option linter.unnecessarySimpa false

/-- An entry as an own one. -/
def clr (x : S37) : S37 := { x with f3 := if hadB x then x.f3 - 16 else x.f3 }
def prot (l : List S37) (keep : Bool) : List S37 := if keep then l.map clr else l.filter ownB
def sProtect (d : S33) (keep : Bool) : S33 × Int := if vD d = true then (⟨d.f0, true, prot d.f2 keep⟩, 0) else (z33, 1)
theorem prot_step {l : List S37} {j : Nat} (h : j < l.length) (keep : Bool) : prot (l.take (j + 1)) keep = prot (l.take j) keep ++ (if hadB (rd_T37 l j) then (if keep then [clr (rd_T37 l j)] else []) else [rd_T37 l j]) := by
  unfold prot
  cases keep with
  | true =>
    rw [if_pos rfl, if_pos rfl, List.take_succ_eq_append_getElem h, List.map_append, ← rd_at h]
    cases hh : hadB (rd_T37 l j) with
    | true => simp
    | false => simp [clr, hh]
  | false =>
    rw [if_neg (by simp), if_neg (by simp), take_filter h]
    have e : ownB (rd_T37 l j) = !(hadB (rd_T37 l j)) := rfl
    rw [e]
    cases hadB (rd_T37 l j) <;> simp
theorem prot_length (l : List S37) (keep : Bool) : (prot l keep).length ≤ l.length := by
  unfold prot
  cases keep with
  | true => simp
  | false => simpa using List.length_filter_le ownB l
theorem protect_l (keep : Bool) (o : Int) (b : Bool) (l : List S37) (o2 : Int) (b2 : Bool) (hv : l.all vAce = true) (hm : l.length ≤ 16) : ∀ k (j : Nat), j ≤ l.length → l.length - j < k → archivoltref23_Protect.l0 k keep (j : Int) o b l o2 b2 (prot (l.take j) keep) = some (o2, b2, prot l keep, 0) := by
  intro k
  induction k with
  | zero => intro j _ h; omega
  | succ k ih =>
    intro j hj hk
    simp only [archivoltref23_Protect.l0]
    by_cases h : j < l.length
    · have hw : wrap64 ((j : Int) + 1) = ((j + 1 : Nat) : Int) := by unfold wrap64; omega
      have hx : vAce (rd_T37 l j) = true := by rw [rd_at h]; exact List.all_eq_true.1 hv _ (List.getElem_mem h)
      have hx2 := hx
      unfold vAce at hx2
      simp only [Bool.and_eq_true, decide_eq_true_eq] at hx2
      have hi := ih (j + 1) (by omega) (by omega)
      have hl := prot_length (l.take j) keep
      simp only [List.length_take] at hl
      rw [if_pos (by omega), if_pos (by omega), has_f hx, Option.bind_some, hw]
      rw [prot_step h keep] at hi
      cases hh : hadB (rd_T37 l j) with
      | true =>
        rw [hh] at hi
        rw [if_pos rfl]
        cases keep with
        | true =>
          rw [if_pos rfl, if_pos (by omega)]
          have e : (⟨(rd_T37 l j).f0, (rd_T37 l j).f1, (rd_T37 l j).f2, wrap64 ((rd_T37 l j).f3 - 16)⟩ : S37) = clr (rd_T37 l j) := by
            unfold clr
            rw [hh, show wrap64 ((rd_T37 l j).f3 - 16) = (rd_T37 l j).f3 - 16 by unfold wrap64; omega]
            rfl
          rw [e]
          simpa using hi
        | false =>
          rw [if_neg (by simp)]
          simpa using hi
      | false =>
        rw [hh] at hi
        rw [if_neg (by simp), if_pos (by omega)]
        simpa using hi
    · rw [if_neg (by omega), List.take_of_length_le (by omega)]
theorem rProtect_calls (o : Int) (b : Bool) (A : Option Addr) (c : Nat) (l : List S37) (keep : Bool) (w : World) (hr : k37.C w A l.length l) (hc : l.length ≤ c) :
    Calls Try.prog 40 #[.agg #[.int .i64 o, .bool b, .slice A l.length c], .bool keep] w (DescPost (sProtect ⟨o, b, l⟩ keep) w) := by
  refine archivoltref23_Protect.calls 30 o b A c l keep _ _ _ _ w hr hc ?_
  unfold archivoltref23_Protect.f sProtect
  rw [valid_f o b l 30 (by decide), Option.bind_some]
  cases hv : vDesc o l with
  | true =>
    rw [if_pos rfl, if_pos (show vD ⟨o, b, l⟩ = true from hv)]
    have hm := vDesc_len hv
    have := protect_l keep o b l o true (vDesc_all hv) hm 30 0 (by omega) (by omega)
    have e : prot (l.take 0) keep = [] := by cases keep <;> rfl
    rw [e] at this
    exact this
  | false =>
    rw [if_neg (by simp), if_neg (show ¬ vD ⟨o, b, l⟩ = true by simp [vD, hv])]
    rfl
theorem order_l1 (p : List S37) (o : Int) (b : Bool) (l : List S37) (o2 : Int) (b2 : Bool) (pre : List S37) (hv : l.all vAce = true) (hm : l.length ≤ 16) (hp : p.length ≤ 16) (hq : pre.length ≤ 16) : ∀ k (j : Nat), j ≤ p.length → p.length - j + 20 < k →
    archivoltref23_Order.l1 k p (j : Int) o b l o2 b2 (pre ++ (p.take j).filter (·.f0)) = some (o2, b2, pre ++ p.filter (·.f0) ++ l.filter hadB, 0) := by
  intro k
  induction k with
  | zero => intro j _ h; omega
  | succ k ih =>
    intro j hj hk
    simp only [archivoltref23_Order.l1]
    by_cases h : j < p.length
    · have hw : wrap64 ((j : Int) + 1) = ((j + 1 : Nat) : Int) := by unfold wrap64; omega
      have ht := take_filter (p := fun x : S37 => x.f0) h
      have hi := ih (j + 1) (by omega) (by omega)
      have hf := List.length_filter_le (fun x : S37 => x.f0) (p.take j)
      simp only [List.length_take] at hf
      rw [if_pos (by omega), if_pos (by omega), hw]
      by_cases hh : (rd_T37 p j).f0 = true
      · rw [if_pos hh, if_pos (by rw [List.length_append]; omega)]
        rw [ht, if_pos hh] at hi
        rw [List.append_assoc]
        exact hi
      · rw [if_neg hh]
        rw [ht, if_neg hh, List.append_nil] at hi
        exact hi
    · have hf := List.length_filter_le (fun x : S37 => x.f0) p
      have hg := List.length_filter_le (fun x => hadB x == true) l
      have e : l.filter (fun x => hadB x == true) = l.filter hadB := by congr 1; funext x; cases hadB x <;> rfl
      rw [if_neg (by omega), List.take_of_length_le (by omega), some_f l true hv hm k (by omega), Option.bind_some, if_pos (by rw [List.length_append]; omega), e]
theorem order_l0 (p : List S37) (o : Int) (b : Bool) (l : List S37) (o2 : Int) (b2 : Bool) (hv : l.all vAce = true) (hm : l.length ≤ 16) (hp : p.length ≤ 16) : ∀ k (j : Nat), j ≤ p.length → p.length - j + 60 < k →
    archivoltref23_Order.l0 k p (j : Int) o b l o2 b2 ((p.take j).filter (fun x => !x.f0)) = some (o2, b2, p.filter (fun x => !x.f0) ++ p.filter (·.f0) ++ l.filter hadB, 0) := by
  intro k
  induction k with
  | zero => intro j _ h; omega
  | succ k ih =>
    intro j hj hk
    simp only [archivoltref23_Order.l0]
    by_cases h : j < p.length
    · have hw : wrap64 ((j : Int) + 1) = ((j + 1 : Nat) : Int) := by unfold wrap64; omega
      have ht := take_filter (p := fun x : S37 => !x.f0) h
      have hi := ih (j + 1) (by omega) (by omega)
      have hf := List.length_filter_le (fun x : S37 => !x.f0) (p.take j)
      simp only [List.length_take] at hf
      rw [if_pos (by omega), if_pos (by omega), hw]
      by_cases hh : (rd_T37 p j).f0 = true
      · rw [if_pos hh]
        rw [ht, if_neg (by simp [hh]), List.append_nil] at hi
        exact hi
      · rw [if_neg hh, if_pos (by omega)]
        rw [ht, if_pos (by simpa using hh)] at hi
        exact hi
    · have hf := List.length_filter_le (fun x : S37 => !x.f0) p
      rw [if_neg (by omega), List.take_of_length_le (by omega)]
      have := order_l1 p o b l o2 b2 (p.filter (fun x => !x.f0)) hv hm hp (by omega) k 0 (by omega) (by omega)
      simpa using this
theorem rOrder_calls (o : Int) (b : Bool) (A : Option Addr) (c : Nat) (l : List S37) (w : World) (hr : k37.C w A l.length l) (hc : l.length ≤ c) :
    Calls Try.prog 44 #[.agg #[.int .i64 o, .bool b, .slice A l.length c]] w (DescPost (sOrder ⟨o, b, l⟩) w) := by
  refine archivoltref23_Order.calls 100 o b A c l _ _ _ _ w hr hc ?_
  unfold archivoltref23_Order.f sOrder
  rw [valid_f o b l 100 (by decide), Option.bind_some]
  cases hv : vDesc o l with
  | true =>
    have hm := vDesc_len hv
    have ha := vDesc_all hv
    have hf := List.length_filter_le ownB l
    rw [if_pos rfl, if_pos (show vD ⟨o, b, l⟩ = true from hv), some_f l false ha hm 100 (by decide), Option.bind_some, own_filter]
    have := order_l0 (l.filter ownB) o b l o b ha hm (by omega) 100 0 (by omega) (by omega)
    rw [List.filter_filter, List.filter_filter] at this
    have e1 : (fun x : S37 => !x.f0 && ownB x) = (fun x => ownB x && !x.f0) := by funext x; exact Bool.and_comm _ _
    have e2 : (fun x : S37 => x.f0 && ownB x) = (fun x => ownB x && x.f0) := by funext x; exact Bool.and_comm _ _
    rw [e1, e2] at this
    exact this
  | false =>
    rw [if_neg (by simp), if_neg (show ¬ vD ⟨o, b, l⟩ = true by simp [vD, hv])]
    rfl
end Go.Proofs.Ytgocgjfaiddejaa.M
