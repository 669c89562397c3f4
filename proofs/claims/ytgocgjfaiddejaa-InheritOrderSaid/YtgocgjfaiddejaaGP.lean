/- What Granted says of descriptors that Protect and Order return: plain laws. -/
import Derived.Test.YtgocgjfaiddejaaGS
import Derived.Test.YtgocgjfaiddejaaGN
import Derived.Test.YtgocgjfaiddejaaSQ
import Derived.Laws.BitsLemmas
namespace Go.Proofs.Ytgocgjfaiddejaa.M
open Go.RowKit Go.Proofs.YtgocgjfaiddejaaW.PrintWords Go.Proofs.YtgocgjfaiddejaaW.PrintLast Go.Proofs.YtgocgjfaiddejaaW.PrintMore
set_option linter.unusedVariables false
set_option linter.unusedSimpArgs false
set_option linter.unnecessarySimpa false

/-! Protect. -/
theorem clr_four {x : S37} (h : vAce x = true) : hasB (clr x).f3 4 = hasB x.f3 4 := by
  unfold vAce at h
  simp only [Bool.and_eq_true, decide_eq_true_eq] at h
  have : ∀ n : Fin 32, hasB (if hasB ((n : Nat) : Int) 16 then ((n : Nat) : Int) - 16 else ((n : Nat) : Int)) 4 = hasB ((n : Nat) : Int) 4 := by decide +kernel
  exact flag_cases h.1.2 h.2 (fun f => hasB (if hasB f 16 then f - 16 else f) 4 = hasB f 4) (fun n hn => this ⟨n, hn⟩)
theorem clr_flags {x : S37} (h : vAce x = true) : 0 ≤ (clr x).f3 ∧ (clr x).f3 ≤ 31 := by
  unfold vAce at h
  simp only [Bool.and_eq_true, decide_eq_true_eq] at h
  have : ∀ n : Fin 32, 0 ≤ (if hasB ((n : Nat) : Int) 16 then ((n : Nat) : Int) - 16 else ((n : Nat) : Int)) ∧ (if hasB ((n : Nat) : Int) 16 then ((n : Nat) : Int) - 16 else ((n : Nat) : Int)) ≤ 31 := by decide +kernel
  exact flag_cases h.1.2 h.2 (fun f => 0 ≤ (if hasB f 16 then f - 16 else f) ∧ (if hasB f 16 then f - 16 else f) ≤ 31) (fun n hn => this ⟨n, hn⟩)
theorem clr_valid {x : S37} (h : vAce x = true) : vAce (clr x) = true := by
  have h2 := clr_flags h
  unfold vAce at h ⊢
  simp only [Bool.and_eq_true, decide_eq_true_eq] at h ⊢
  exact ⟨⟨h.1.1, h2.1⟩, h2.2⟩
theorem hit_clr {u o bit : Int} {gs : List Int} {x : S37} (h : vAce x = true) : hitB u gs o bit (clr x) = hitB u gs o bit x := by
  unfold hitB speaksB
  rw [clr_four h]
  rfl
theorem find_clr {u o bit : Int} {gs : List Int} : ∀ {l : List S37}, l.all vAce = true → (l.map clr).find? (hitB u gs o bit) = (l.find? (hitB u gs o bit)).map clr
  | [], _ => rfl
  | x :: l, h => by
    simp only [List.all_cons, Bool.and_eq_true] at h
    rw [List.map_cons, List.find?_cons, List.find?_cons, hit_clr h.1]
    cases hitB u gs o bit x with
    | true => rfl
    | false => exact find_clr h.2
theorem judge_clr {u pv o bit : Int} {gs : List Int} {l : List S37} (h : l.all vAce = true) : judgeB u gs pv o (l.map clr) bit = judgeB u gs pv o l bit := by
  unfold judgeB
  rw [find_clr h]
  cases l.find? (hitB u gs o bit) <;> rfl
theorem granted_clr {u pv o : Int} {gs : List Int} {l : List S37} (h : l.all vAce = true) : sGranted u gs pv o (l.map clr) = sGranted u gs pv o l := by
  unfold sGranted grantedS
  rw [show judgeB u gs pv o (l.map clr) = judgeB u gs pv o l from funext fun bit => judge_clr h]
theorem clr_vDesc {o : Int} {l : List S37} (h : vDesc o l = true) : vDesc o (l.map clr) = true := by
  have h2 := vDesc_all h
  unfold vDesc at h ⊢
  simp only [Bool.and_eq_true, decide_eq_true_eq, List.length_map] at h ⊢
  refine ⟨h.1, ?_⟩
  rw [List.all_eq_true] at h2 ⊢
  intro y hy
  obtain ⟨x, hx, rfl⟩ := List.mem_map.1 hy
  exact clr_valid (h2 x hx)
theorem own_vDesc {o : Int} {l : List S37} (h : vDesc o l = true) : vDesc o (l.filter ownB) = true := by
  have h2 := vDesc_all h
  have h3 := List.length_filter_le ownB l
  unfold vDesc at h ⊢
  simp only [Bool.and_eq_true, decide_eq_true_eq] at h ⊢
  refine ⟨⟨h.1.1, by omega⟩, ?_⟩
  rw [List.all_eq_true] at h2 ⊢
  exact fun y hy => h2 y (List.mem_filter.1 hy).1
/-- Open, Protect without keep, Open. -/
theorem open_again {p d x : S33} {dir : Bool} (h : sOpen p d dir = (x, 0)) :
    vDesc x.f0 x.f2 = true ∧ x.f1 = false ∧ sProtect x false = (⟨x.f0, true, x.f2.filter ownB⟩, 0) ∧ sOpen p ⟨x.f0, true, x.f2.filter ownB⟩ dir = (x, 0) := by
  unfold sOpen sRenew at h
  by_cases hv : (vD p && vD ⟨d.f0, false, d.f2⟩) = true
  · rw [if_pos hv, if_neg (by simp)] at h
    by_cases hl : (renewL p.f2 d.f2 dir).length ≤ 16
    · rw [if_pos hl] at h
      obtain rfl : (⟨d.f0, false, renewL p.f2 d.f2 dir⟩ : S33) = x := (Prod.mk.inj h).1
      rw [Bool.and_eq_true] at hv
      have hp := vDesc_all (show vDesc p.f0 p.f2 = true from hv.1)
      have hd := vDesc_all (show vDesc d.f0 d.f2 = true from hv.2)
      have hn := renewL_valid (dir := dir) hp hd
      have hD : vDesc d.f0 (renewL p.f2 d.f2 dir) = true := by
        have h2 := hv.2
        unfold vD vDesc at h2
        unfold vDesc
        simp only [Bool.and_eq_true, decide_eq_true_eq] at h2 ⊢
        exact ⟨⟨h2.1.1, hl⟩, hn⟩
      refine ⟨hD, rfl, ?_, ?_⟩
      · unfold sProtect prot
        rw [if_pos (show vD ⟨d.f0, false, renewL p.f2 d.f2 dir⟩ = true from hD), if_neg (by simp)]
      · have e : renewL p.f2 ((renewL p.f2 d.f2 dir).filter ownB) dir = renewL p.f2 d.f2 dir := by
          have h3 := (given_ok (dir := dir) hp).2
          unfold renewL
          rw [List.filter_append, h3, List.append_nil, List.filter_filter, List.filter_filter]
          congr 1
          exact List.filter_congr fun x _ => by simp
        unfold sOpen sRenew
        rw [if_pos (by rw [Bool.and_eq_true]; exact ⟨hv.1, own_vDesc hD⟩), if_neg (by simp)]
        dsimp only
        rw [e, if_pos hl]
    · rw [if_neg hl] at h
      cases (Prod.mk.inj h).2
  · rw [if_neg hv] at h
    cases (Prod.mk.inj h).2

/-! Order. -/
theorem had_own (x : S37) : hadB x = !ownB x := by unfold hadB ownB; simp
theorem ord_perm (l : List S37) : (ordL l).Perm l := by
  unfold ordL
  have h1 : (l.filter ownB ++ l.filter hadB).Perm l := by
    have := List.filter_append_perm ownB l
    rwa [show (fun x => !ownB x) = hadB from funext fun x => (had_own x).symm] at this
  have h2 : (l.filter (fun x => ownB x && !x.f0) ++ l.filter (fun x => ownB x && x.f0)).Perm (l.filter ownB) := by
    have := List.filter_append_perm (fun x : S37 => !x.f0) (l.filter ownB)
    rw [List.filter_filter, List.filter_filter] at this
    refine List.Perm.trans (List.Perm.of_eq ?_) this
    congr 1
    · exact List.filter_congr fun x _ => by cases ownB x <;> cases x.f0 <;> rfl
    · exact List.filter_congr fun x _ => by cases ownB x <;> cases x.f0 <;> rfl
  exact (h2.append_right _).trans h1
theorem ord_length (l : List S37) : (ordL l).length = l.length := (ord_perm l).length_eq
theorem ord_valid {o : Int} {l : List S37} (h : vDesc o l = true) : vDesc o (ordL l) = true := by
  have h2 := vDesc_all h
  unfold vDesc at h ⊢
  rw [ord_length]
  simp only [Bool.and_eq_true, decide_eq_true_eq] at h ⊢
  refine ⟨h.1, ?_⟩
  rw [List.all_eq_true] at h2 ⊢
  exact fun y hy => h2 y ((ord_perm l).subset hy)
theorem ord_idem (l : List S37) : ordL (ordL l) = ordL l := by
  have hz : ∀ (p q : S37 → Bool), (∀ x, (p x && q x) = false) → (l.filter q).filter p = [] := fun p q h => by
    rw [List.filter_filter, List.filter_eq_nil_iff]
    intro x _
    rw [h x]; simp
  have hs : ∀ p : S37 → Bool, (l.filter p).filter p = l.filter p := fun p => by
    rw [List.filter_filter]
    exact List.filter_congr fun x _ => by simp
  have e1 : (ordL l).filter (fun x => ownB x && !x.f0) = l.filter (fun x => ownB x && !x.f0) := by
    unfold ordL
    rw [List.filter_append, List.filter_append, hs, hz _ _ (fun x => by cases ownB x <;> cases x.f0 <;> rfl), hz _ _ (fun x => by rw [had_own]; cases ownB x <;> cases x.f0 <;> rfl)]
    simp
  have e2 : (ordL l).filter (fun x => ownB x && x.f0) = l.filter (fun x => ownB x && x.f0) := by
    unfold ordL
    rw [List.filter_append, List.filter_append, hs, hz _ _ (fun x => by cases ownB x <;> cases x.f0 <;> rfl), hz _ _ (fun x => by rw [had_own]; cases ownB x <;> cases x.f0 <;> rfl)]
    simp
  have e3 : (ordL l).filter hadB = l.filter hadB := by
    unfold ordL
    rw [List.filter_append, List.filter_append, hs, hz _ _ (fun x => by rw [had_own]; cases ownB x <;> cases x.f0 <;> rfl), hz _ _ (fun x => by rw [had_own]; cases ownB x <;> cases x.f0 <;> rfl)]
    simp
  unfold ordL at e1 e2 e3 ⊢
  rw [e1, e2, e3]
/-- Own entries before inherited ones. -/
def firstOwn (l : List S37) : Prop := ∀ i : Nat, i + 1 < l.length → ¬ (hadB (rd_T37 l (i : Int)) = true ∧ ownB (rd_T37 l ((i + 1 : Nat) : Int)) = true)
theorem firstOwn_split : ∀ {l : List S37}, firstOwn l → l = l.filter ownB ++ l.filter hadB
  | [], _ => rfl
  | x :: l, h => by
    have ih := firstOwn_split (l := l) (fun i hi => h (i + 1) (by simpa using hi))
    cases hx : ownB x with
    | true =>
      rw [List.filter_cons_of_pos hx, List.filter_cons_of_neg (by rw [had_own, hx]; simp), List.cons_append, ← ih]
    | false =>
      have hn : ∀ y ∈ l, ownB y = false := by
        clear ih
        induction l generalizing x with
        | nil => intro y hy; cases hy
        | cons z l ih2 =>
          have h0 := h 0 (by simp)
          have hz : ownB z = false := by
            cases hz : ownB z with
            | false => rfl
            | true =>
              refine absurd ⟨?_, hz⟩ h0
              show hadB x = true
              rw [had_own, hx]; rfl
          intro y hy
          rcases List.mem_cons.1 hy with rfl | hy
          · exact hz
          · exact ih2 z (fun i hi => h (i + 1) (by simpa using hi)) hz y hy
      have e1 : l.filter ownB = [] := List.filter_eq_nil_iff.2 fun y hy => by rw [hn y hy]; simp
      rw [e1] at ih
      rw [List.filter_cons_of_neg (by rw [hx]; simp), List.filter_cons_of_pos (by rw [had_own, hx]; rfl), e1, List.nil_append]
      simpa using ih
theorem judge_ord {u pv o bit : Int} {gs : List Int} {l : List S37} (hf : firstOwn l) (h : judgeB u gs pv o (ordL l) bit = true) : judgeB u gs pv o l bit = true := by
  unfold judgeB at h ⊢
  by_cases h1 : privB pv bit = true
  · rw [if_pos h1]
  · rw [if_neg h1] at h ⊢
    by_cases h2 : ownerB u o bit = true
    · rw [if_pos h2]
    · rw [if_neg h2] at h ⊢
      have hs := firstOwn_split hf
      generalize hitB u gs o bit = p at h ⊢
      rw [hs, List.find?_append]
      unfold ordL at h
      rw [List.find?_append, List.find?_append] at h
      have key : ∀ A : List S37, ((A.filter (fun x => !x.f0)).find? p = none → (A.find? p = none ∧ (A.filter (fun x => x.f0)).find? p = none) ∨ ∃ x, A.find? p = some x ∧ x.f0 = true) := by
        intro A hA
        cases hq : A.find? p with
        | none =>
          refine .inl ⟨rfl, ?_⟩
          rw [List.find?_eq_none] at hq ⊢
          exact fun x hx => hq x (List.mem_filter.1 hx).1
        | some x =>
          refine .inr ⟨x, rfl, ?_⟩
          cases hx : x.f0 with
          | true => rfl
          | false =>
            rw [List.find?_eq_none] at hA
            exact absurd (List.find?_some hq) (hA x (List.mem_filter.2 ⟨List.mem_of_find?_eq_some hq, by rw [hx]; rfl⟩))
      have e1 : l.filter (fun x => ownB x && !x.f0) = (l.filter ownB).filter (fun x => !x.f0) := by
        rw [List.filter_filter]
        exact List.filter_congr fun x _ => by cases ownB x <;> cases x.f0 <;> rfl
      have e2 : l.filter (fun x => ownB x && x.f0) = (l.filter ownB).filter (fun x => x.f0) := by
        rw [List.filter_filter]
        exact List.filter_congr fun x _ => by cases ownB x <;> cases x.f0 <;> rfl
      rw [e1, e2] at h
      cases hq : ((l.filter ownB).filter (fun x => !x.f0)).find? p with
      | some x =>
        rw [hq] at h
        have := (List.mem_filter.1 (List.mem_of_find?_eq_some hq)).2
        simp at h this
        rw [this] at h; cases h
      | none =>
        rw [hq] at h
        rcases key _ hq with ⟨h3, h4⟩ | ⟨x, h3, h4⟩
        · rw [h4] at h
          rw [h3]
          simpa using h
        · rw [h3]
          simpa using h4
/-! Masks. -/
theorem w64_pow (n : Int) (h0 : 0 ≤ n) (h1 : n < 2 ^ 10) : IntKind.i64.wrap n = n := by rw [IntKind.wrap_i64]; omega
def natM (p : Int → Bool) (l : List Nat) (m : Nat) : Nat := l.foldl (fun (m b : Nat) => if p (b : Int) = true then m ||| b else m) m
theorem natM_lt (p : Int → Bool) : ∀ (l : List Nat) (m : Nat), m < 2 ^ 10 → (∀ b ∈ l, b < 2 ^ 10) → natM p l m < 2 ^ 10
  | [], m, h, _ => h
  | b :: l, m, h, hl => by
    unfold natM
    rw [List.foldl_cons]
    refine natM_lt p l _ ?_ (fun x hx => hl x (List.mem_cons_of_mem _ hx))
    split
    · exact Nat.or_lt_two_pow h (hl b (List.mem_cons_self ..))
    · exact h
theorem maskOf_nat (p : Int → Bool) : ∀ (l : List Nat) (m : Nat), m < 2 ^ 10 → (∀ b ∈ l, b < 2 ^ 10) →
    (l.map (fun b : Nat => (b : Int))).foldl (fun m b => if p b then Go.bits .or .i64 m b else m) (m : Int) = (natM p l m : Int)
  | [], m, _, _ => rfl
  | b :: l, m, h, hl => by
    unfold natM
    rw [List.map_cons, List.foldl_cons, List.foldl_cons]
    have hb := hl b (List.mem_cons_self ..)
    have e : (if p (b : Int) then Go.bits .or .i64 (m : Int) (b : Int) else (m : Int)) = ((if p (b : Int) = true then m ||| b else m : Nat) : Int) := by
      split
      · have := (bits_nat .i64 10 (by decide) w64_pow m b h hb).2
        exact this
      · rfl
    rw [e]
    refine maskOf_nat p l _ ?_ (fun x hx => hl x (List.mem_cons_of_mem _ hx))
    split
    · exact Nat.or_lt_two_pow h hb
    · exact h
theorem natM_bit (p : Int → Bool) (i : Nat) : ∀ (l : List Nat) (m : Nat), (natM p l m).testBit i = (m.testBit i || l.any (fun b => p (b : Int) && b.testBit i))
  | [], m => by simp [natM]
  | b :: l, m => by
    unfold natM
    rw [List.foldl_cons]
    refine (natM_bit p i l _).trans ?_
    cases hp : p (b : Int) <;> simp [Bool.or_assoc, hp]
theorem mask_more {p q : Int → Bool} (h : ∀ b, q b = true → p b = true) : Go.bits .or .i64 (maskOf p bits10) (maskOf q bits10) = maskOf p bits10 := by
  have hb : bits10 = [1, 2, 4, 8, 16, 32, 64, 128, 256, 512].map (fun b : Nat => (b : Int)) := by rfl
  have hlt : ∀ b ∈ [1, 2, 4, 8, 16, 32, 64, 128, 256, 512], b < 2 ^ 10 := by decide
  have e1 := maskOf_nat p [1, 2, 4, 8, 16, 32, 64, 128, 256, 512] 0 (by decide) hlt
  have e2 := maskOf_nat q [1, 2, 4, 8, 16, 32, 64, 128, 256, 512] 0 (by decide) hlt
  have f1 : maskOf p bits10 = (natM p [1, 2, 4, 8, 16, 32, 64, 128, 256, 512] 0 : Int) := by rw [hb]; exact e1
  have f2 : maskOf q bits10 = (natM q [1, 2, 4, 8, 16, 32, 64, 128, 256, 512] 0 : Int) := by rw [hb]; exact e2
  rw [f1, f2]
  refine ((bits_nat .i64 10 (by decide) w64_pow _ _ (natM_lt p _ 0 (by decide) hlt) (natM_lt q _ 0 (by decide) hlt)).2).trans ?_
  congr 1
  apply Nat.eq_of_testBit_eq
  intro i
  rw [Nat.testBit_or, natM_bit, natM_bit]
  simp only [Nat.zero_testBit, Bool.false_or]
  generalize ([1, 2, 4, 8, 16, 32, 64, 128, 256, 512] : List Nat) = L
  cases hq : L.any (fun b : Nat => q (b : Int) && b.testBit i) with
  | false => simp
  | true =>
    rw [Bool.or_true]
    symm
    rw [List.any_eq_true] at hq ⊢
    obtain ⟨b, hb, hh⟩ := hq
    rw [Bool.and_eq_true] at hh
    exact ⟨b, hb, by rw [Bool.and_eq_true]; exact ⟨h _ hh.1, hh.2⟩⟩
theorem granted_ord {u pv o : Int} {gs : List Int} {l : List S37} (hf : firstOwn l) : (sGranted u gs pv o (ordL l)).2 = (sGranted u gs pv o l).2 ∧ Go.bits .or .i64 (sGranted u gs pv o l).1 (sGranted u gs pv o (ordL l)).1 = (sGranted u gs pv o l).1 := by
  unfold sGranted
  by_cases ht : tokE u gs pv = 0
  · rw [if_pos ht, if_pos ht]
    exact ⟨rfl, mask_more fun b hb => judge_ord hf hb⟩
  · rw [if_neg ht, if_neg ht]
    exact ⟨rfl, by decide +kernel⟩
theorem Same_eq (d : S33) (A B : Option Addr) (c1 c2 : Nat) (w : World) (hr : k37.C w A d.f2.length d.f2) (hc : d.f2.length ≤ c1) (hr2 : k37.C w B d.f2.length d.f2) (hd : d.f2.length ≤ c2) :
    Calls Try.prog 29 #[.agg #[.int .i64 d.f0, .bool d.f1, .slice A d.f2.length c1], .agg #[.int .i64 d.f0, .bool d.f1, .slice B d.f2.length c2]] w fun e w' => e = .returned (.bool true) ∧ Below w.heap.size w w' := by
  refine (Same_calls d.f0 d.f0 d.f1 d.f1 A B c1 c2 d.f2 d.f2 w hr hc hr2 hd).mono ?_
  rintro e w' ⟨rfl, hb⟩
  exact ⟨by simp, hb⟩
end Go.Proofs.Ytgocgjfaiddejaa.M
