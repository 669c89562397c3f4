/- What is inherited is valid and inherited; Same. -/
import Derived.Test.YtgocgjfaiddejaaH26
import Derived.Deep.Slices
import Derived.Deep.Strs
import Derived.Lib.SmallJoins
import Derived.Test.YtgocgjfaiddejaaFA
import Derived.OpenShut
namespace Go.Proofs.Ytgocgjfaiddejaa.M
open Go.RowKit Go.Proofs.YtgocgjfaiddejaaW.PrintWords Go.Proofs.YtgocgjfaiddejaaW.PrintLast Go.Proofs.YtgocgjfaiddejaaW.PrintMore
set_option linter.unusedVariables false
set_option linter.unusedSimpArgs false
set_option linter.unnecessarySimpa false
section
open Go.ChangeShapes Go.WideShapes Go.Deep Go.Deep Go.Joins
variable {H : Type} {enc : TypeId × Value → H} {P : Program} {w : World} {base : Nat} {spare : Nat → Bool} {held : Bool}
theorem C_of_trod {α : Type} [Inhabited α] {k : Kd α} {e t : TypeId} (ht : P.underlying t = some (.slice e)) (hsz : P.cellsOf e = k.sz) (hel : ∀ n cs x, DataW.trod enc P w base spare held n e cs = some x → ∃ y, k.K w y cs) {fuel : Nat} {cs : List Value} {x : DataW H × List MemPlace}
    (h : DataW.trod enc P w base spare held fuel t cs = some x) : ∃ A c, ∃ l : List α, cs = [.slice A l.length c] ∧ l.length ≤ c ∧ k.C w A l.length l := by
  rcases open_slice ht h with ⟨rfl, _⟩ | ⟨a, len, cap, m, n, D, Pl, rfl, _, hl, hm, hme, _, hi⟩
  · exact ⟨none, 0, [], rfl, Nat.le_refl _, Kd.C_nil _ _⟩
  · have hlm : len ≤ m := by rw [hme]; split <;> omega
    have h1 : ∀ i, i < len → ∃ y : α, ∃ cs', w.cells? base (a.add (i * P.cellsOf e)) (P.cellsOf e) = some cs' ∧ k.K w y cs' := fun i hil => by
      obtain ⟨cs', hc, ht'⟩ := hi i (by omega)
      obtain ⟨y, hy⟩ := hel _ _ _ ht'
      exact ⟨y, cs', hc, hy⟩
    obtain ⟨Y, hY⟩ := choose_lt h1
    have hlen : ((List.range len).map Y).length = len := by simp
    refine ⟨some a, cap, (List.range len).map Y, by rw [hlen], by rw [hlen]; exact hl, rfl, by rw [hlen]; exact Nat.le_trans hl (Nat.le_trans hm (by decide)), fun _ => ⟨a, rfl, fun j p hj => ?_⟩⟩
    have hjl : j < len := by
      rcases Nat.lt_or_ge j len with h | h
      · exact h
      · rw [List.getElem?_eq_none (by simp; omega)] at hj; cases hj
    obtain ⟨cs', hc, hK⟩ := hY j hjl
    have hp : p = Y j := by simp [hjl] at hj; exact hj.symm
    subst hp
    refine ⟨cs', k.K_len hK, hK, fun i u hu => ?_⟩
    obtain ⟨_, h2, h3⟩ := World.cells?_some hc
    have hil : i < cs'.length := by
      rcases Nat.lt_or_ge i cs'.length with h | h
      · exact h
      · rw [List.getElem?_eq_none h] at hu; cases hu
    have h4 := h3 i (by omega)
    rw [Go.Deep.add_add, hsz] at h4
    rw [h4, hu]
end
section
open Go.ChangeShapes Go.WideShapes Go.Deep Go.Joins
variable {H : Type} {enc : TypeId × Value → H} {w : World} {base : Nat} {spare : Nat → Bool} {held : Bool}
instance : Inhabited S37 := ⟨z37⟩
instance : Inhabited S35 := ⟨z35⟩
theorem parts4 {cs : List Value} {a b c d : Value} (h : cs.length = 4) (h0 : (cs.drop 0).take 1 = [a]) (h1 : (cs.drop 1).take 1 = [b]) (h2 : (cs.drop 2).take 1 = [c]) (h3 : (cs.drop 3).take 1 = [d]) : cs = [a, b, c, d] := by
  match cs, h with
  | [c0, c1, c2, c3], _ => simp at h0 h1 h2 h3; simp [h0, h1, h2, h3]
theorem parts3 {cs : List Value} {a b c : Value} (h : cs.length = 3) (h0 : (cs.drop 0).take 1 = [a]) (h1 : (cs.drop 1).take 1 = [b]) (h2 : (cs.drop 2).take 1 = [c]) : cs = [a, b, c] := by
  match cs, h with
  | [c0, c1, c2], _ => simp at h0 h1 h2; simp [h0, h1, h2]
theorem parts5 {cs : List Value} {a b : Value} {r : List Value} (h : cs.length = 5) (h0 : (cs.drop 0).take 1 = [a]) (h1 : (cs.drop 1).take 1 = [b]) (h2 : (cs.drop 2).take 3 = r) : cs = a :: b :: r := by
  match cs, h with
  | [c0, c1, c2, c3, c4], _ => simp at h0 h1 h2; simp [h0, h1, ← h2]
theorem sz3 : Try.prog.cellsOf 3 = 1 := by kernel_rfl
theorem sz4 : Try.prog.cellsOf 4 = 1 := by kernel_rfl
theorem sz31 : Try.prog.cellsOf 31 = 1 := by kernel_rfl
theorem sz33 : Try.prog.cellsOf 33 = 3 := by kernel_rfl
theorem sz35 : Try.prog.cellsOf 35 = 5 := by kernel_rfl
theorem sz37 : Try.prog.cellsOf 37 = 4 := by kernel_rfl
theorem ace_of (n : Nat) (cs : List Value) (x : DataW H × List MemPlace) (h : DataW.trod enc Try.prog w base spare held n 37 cs = some x) : ∃ y : S37, k37.K w y cs := by
  obtain ⟨y0, y1, y2, y3, m, rfl, hl, t0, t1, t2, t3⟩ := trod_struct4 Try.underlying37 h
  obtain ⟨b0, e0, _⟩ := DataW.trod_bool Try.underlying4 t0
  obtain ⟨n1, e1, _, _⟩ := DataW.trod_int Try.underlying3 t1
  obtain ⟨n2, e2, _, _⟩ := DataW.trod_int Try.underlying3 t2
  obtain ⟨n3, e3, _, _⟩ := DataW.trod_int Try.underlying3 t3
  rw [sz4] at e0
  rw [sz3] at e1 e2 e3
  rw [sz37] at hl
  rw [parts4 hl e0 e1 e2 e3]
  exact ⟨⟨b0, n1, n2, n3⟩, k37_mk _ _⟩
theorem list_of {fuel : Nat} {cs : List Value} {x : DataW H × List MemPlace} (h : DataW.trod enc Try.prog w base spare held fuel 31 cs = some x) : ∃ A c, ∃ l : List S37, cs = [.slice A l.length c] ∧ l.length ≤ c ∧ k37.C w A l.length l :=
  C_of_trod Try.underlying31 sz37 (fun n cs x h => ace_of n cs x h) h
theorem desc_of (n : Nat) (cs : List Value) (x : DataW H × List MemPlace) (h : DataW.trod enc Try.prog w base spare held n 33 cs = some x) : ∃ y : S33, k33.K w y cs := by
  obtain ⟨y0, y1, y2, m, rfl, hl, t0, t1, t2⟩ := trod_struct3 Try.underlying33 h
  obtain ⟨n0, e0, _, _⟩ := DataW.trod_int Try.underlying3 t0
  obtain ⟨b1, e1, _⟩ := DataW.trod_bool Try.underlying4 t1
  obtain ⟨A, c, l, e2, hc, hC⟩ := list_of t2
  rw [sz3] at e0
  rw [sz4] at e1
  rw [sz31] at e2
  rw [sz33] at hl
  rw [parts3 hl e0 e1 e2]
  exact ⟨⟨n0, b1, l⟩, k33_mk _ ⟨n0, b1, l⟩ hc hC⟩
theorem twig_of (n : Nat) (cs : List Value) (x : DataW H × List MemPlace) (h : DataW.trod enc Try.prog w base spare held n 35 cs = some x) : ∃ y : S35, k35.K w y cs := by
  obtain ⟨y0, y1, y2, m, rfl, hl, t0, t1, t2⟩ := trod_struct3 Try.underlying35 h
  obtain ⟨n0, e0, _, _⟩ := DataW.trod_int Try.underlying3 t0
  obtain ⟨b1, e1, _⟩ := DataW.trod_bool Try.underlying4 t1
  obtain ⟨d, hd⟩ := desc_of _ _ _ t2
  rw [sz3] at e0
  rw [sz4] at e1
  rw [sz35] at hl
  obtain ⟨A, c, hcs, hc, hC⟩ := k33_open hd
  rw [sz33] at hcs
  rw [parts5 hl e0 e1 hcs]
  exact ⟨⟨n0, b1, d⟩, k35_mk _ ⟨n0, b1, d⟩ hc hC⟩
theorem tree_of {fuel : Nat} {cs : List Value} {x : DataW H × List MemPlace} (h : DataW.trod enc Try.prog w base spare held fuel 22 cs = some x) : ∃ A c, ∃ l : List S35, cs = [.slice A l.length c] ∧ l.length ≤ c ∧ k35.C w A l.length l :=
  C_of_trod Try.underlying22 sz35 (fun n cs x h => twig_of n cs x h) h
end
end Go.Proofs.Ytgocgjfaiddejaa.M
namespace Go.Proofs.Ytgocgjfaiddejaa.M
open Go.RowKit Go.Proofs.YtgocgjfaiddejaaW.PrintWords Go.Proofs.YtgocgjfaiddejaaW.PrintLast Go.Proofs.YtgocgjfaiddejaaW.PrintMore
set_option linter.unusedVariables false
set_option linter.unusedSimpArgs false
set_option linter.unnecessarySimpa false

theorem flag_cases {f : Int} (h0 : 0 ≤ f) (h1 : f ≤ 31) (P : Int → Prop) (h : ∀ n : Nat, n < 32 → P (n : Int)) : P f := by
  obtain ⟨n, rfl⟩ : ∃ n : Nat, f = n := ⟨f.toNat, by omega⟩
  exact h n (by omega)
theorem giveF_ok : ∀ n : Nat, n < 32 → ∀ dir : Bool, ∀ g, giveF (n : Int) dir = some g → 0 ≤ g ∧ g ≤ 31 ∧ hasB g 16 = true := by
  intro n hn dir g hg
  have : ∀ n : Fin 32, ∀ dir : Bool, (match giveF ((n : Nat) : Int) dir with | some g => decide (0 ≤ g) && decide (g ≤ 31) && hasB g 16 | none => true) = true := by decide +kernel
  have h := this ⟨n, hn⟩ dir
  dsimp only at h
  rw [hg] at h
  simpa [and_assoc] using h
theorem inh_ok (dir : Bool) (l : List S37) (hl : l.all vAce = true) : ∀ s p, p ∈ inh dir s l → vAce p.2 = true ∧ hadB p.2 = true := by
  induction l with
  | nil => intro s p h; simp [inh] at h
  | cons x l ih =>
    intro s p h
    rw [List.all_cons, Bool.and_eq_true] at hl
    simp only [inh] at h
    cases hg : giveF x.f3 dir with
    | none => rw [hg] at h; exact ih hl.2 _ _ h
    | some f =>
      rw [hg] at h
      rcases List.mem_cons.1 h with rfl | h
      · have hx := hl.1
        unfold vAce at hx
        simp only [Bool.and_eq_true, decide_eq_true_eq] at hx
        obtain ⟨⟨⟨⟨⟨x1, x2⟩, x3⟩, x4⟩, x5⟩, x6⟩ := hx
        have hk := flag_cases x5 x6 (fun f' => ∀ g, giveF f' dir = some g → 0 ≤ g ∧ g ≤ 31 ∧ hasB g 16 = true) (fun n hn g h => giveF_ok n hn dir g h) f hg
        exact ⟨by unfold vAce; simp [x1, x2, x3, x4, hk.1, hk.2.1], hk.2.2⟩
      · exact ih hl.2 _ _ h
theorem given_ok {l : List S37} {dir : Bool} (hl : l.all vAce = true) : (given l dir).all vAce = true ∧ (given l dir).filter ownB = [] := by
  refine ⟨?_, ?_⟩
  · rw [List.all_eq_true]
    intro x hx
    obtain ⟨p, hp, rfl⟩ := List.mem_map.1 hx
    exact (inh_ok dir l hl 0 p hp).1
  · rw [List.filter_eq_nil_iff]
    intro x hx
    obtain ⟨p, hp, rfl⟩ := List.mem_map.1 hx
    have := (inh_ok dir l hl 0 p hp).2
    unfold hadB at this
    simp [ownB, this]
theorem vDesc_all {o : Int} {l : List S37} (h : vDesc o l = true) : l.all vAce = true := by
  unfold vDesc at h
  simp only [Bool.and_eq_true] at h
  exact h.2
theorem given_valid {o o' : Int} {l : List S37} {dir : Bool} (h : vDesc o l = true) (h1 : 3 ≤ o') (h2 : o' ≤ 1048576) : vDesc o' (given l dir) = true := by
  have := given_length l dir
  have := vDesc_len h
  unfold vDesc
  rw [(given_ok (vDesc_all h)).1]
  simp [h1, h2]
  omega
theorem renew_given {l : List S37} {dir : Bool} (hl : l.all vAce = true) : renewL l (given l dir) dir = given l dir := by
  unfold renewL
  rw [(given_ok hl).2]
  rfl
theorem Same_calls (o1 o2 : Int) (b1 b2 : Bool) (A1 A2 : Option Addr) (c1 c2 : Nat) (l1 l2 : List S37) (w : World) (hr1 : k37.C w A1 l1.length l1) (hc1 : l1.length ≤ c1) (hr2 : k37.C w A2 l2.length l2) (hc2 : l2.length ≤ c2) :
    Calls Try.prog 29 #[.agg #[.int .i64 o1, .bool b1, .slice A1 l1.length c1], .agg #[.int .i64 o2, .bool b2, .slice A2 l2.length c2]] w fun e w' => e = .returned (.bool (decide (o1 = o2) && (decide (b1 = b2) && decide (l1 = l2)))) ∧ Below w.heap.size w w' := by
  refine archivoltref23_Same.calls (l1.length + 1) o1 b1 A1 c1 l1 o2 b2 A2 c2 l2 _ w hr1 hc1 hr2 hc2 ?_
  unfold archivoltref23_Same.f
  by_cases h : o1 = o2
  · rw [if_pos h]
    by_cases h2 : b1 = b2
    · rw [if_pos (by simp [h2]), same_f l1 l2 hr1.2.1]
      simp [h, h2]
    · rw [if_neg (by simp [h2])]
      simp [h2]
  · rw [if_neg h]
    simp [h]
theorem C35_two {w : World} {g : Nat} {x y : S35} {A B : Option Addr} {a b : Nat} (hb : w.heap[g]? = some (.cells #[.int .i64 x.f0, .bool x.f1, .int .i64 x.f2.f0, .bool x.f2.f1, .slice A x.f2.f2.length a, .int .i64 y.f0, .bool y.f1, .int .i64 y.f2.f0, .bool y.f2.f1, .slice B y.f2.f2.length b] 35 (0, 0)))
    (ha : x.f2.f2.length ≤ a) (hA : k37.C w A x.f2.f2.length x.f2.f2) (hb' : y.f2.f2.length ≤ b) (hB : k37.C w B y.f2.f2.length y.f2.f2) : k35.C w (some ⟨g, 0, none⟩) [x, y].length [x, y] := by
  refine ⟨rfl, by simp, fun _ => ⟨_, rfl, fun j p hj => ?_⟩⟩
  have e5 : k35.sz = 5 := rfl
  rcases j with _ | _ | j
  · obtain rfl : x = p := by simpa using hj
    refine ⟨_, rfl, k35_mk w x ha hA, fun i u hu => ?_⟩
    rw [add_plain, blk_cell hb, e5, ← Array.getElem?_toList]
    rcases i with _ | _ | _ | _ | _ | i <;> first | exact hu | simp at hu
  · obtain rfl : y = p := by simpa using hj
    refine ⟨_, rfl, k35_mk w y hb' hB, fun i u hu => ?_⟩
    rw [add_plain, blk_cell hb, e5, ← Array.getElem?_toList]
    rcases i with _ | _ | _ | _ | _ | i <;> first | exact hu | simp at hu
  · simp at hj
/-- A directory and its child agree. -/
theorem child_agrees {p : S33} {dir : Bool} {owner : Int} (hv : vD p = true) (h1 : 3 ≤ owner) (h2 : owner ≤ 1048576) : sAgrees [⟨-1, true, p⟩, ⟨0, dir, ⟨owner, false, given p.f2 dir⟩⟩] = (-1, 0) := by
  have hg : vD ⟨owner, false, given p.f2 dir⟩ = true := given_valid (show vDesc p.f0 p.f2 = true from hv) h1 h2
  have ht : vTree [⟨-1, true, p⟩, ⟨0, dir, ⟨owner, false, given p.f2 dir⟩⟩] = true := by
    unfold vTree
    rw [show List.range [(⟨-1, true, p⟩ : S35), ⟨0, dir, ⟨owner, false, given p.f2 dir⟩⟩].length = [0, 1] from rfl]
    simp [rd_T35, vTw, hv, hg]
  unfold sAgrees
  rw [if_pos ht, firstBad_none]
  intro i hi
  rcases i with _ | _ | i
  · simp [agTw]
  · have := renew_given (l := p.f2) (dir := dir) (vDesc_all (show vDesc p.f0 p.f2 = true from hv))
    simp [agTw, agB, rd_T35, this]
  · exfalso; simp at hi; omega
theorem i64_range {n : Int} (h : (Lit.int .i64 n).wf = true) : -9223372036854775808 ≤ n ∧ n ≤ 9223372036854775807 := bounds_i64 h
end Go.Proofs.Ytgocgjfaiddejaa.M
