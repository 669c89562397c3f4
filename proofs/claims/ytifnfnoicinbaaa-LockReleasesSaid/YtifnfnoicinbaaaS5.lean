/- Same and SameNews of the reference on equal values; what is small enough; how tables are read. -/
import Derived.Test.YtifnfnoicinbaaaFR
import Derived.Test.YtifnfnoicinbaaaF30
import Derived.Test.YtifnfnoicinbaaaG1
import Derived.Test.YtifnfnoicinbaaaD1
import Derived.Test.YtifnfnoicinbaaaPM
import Derived.SizedLaws
namespace Go.Proofs.Ytifnfnoicinbaaa.M
open Go.RowKit Go.Proofs.YtifnfnoicinbaaaW.PrintWords Go.Proofs.YtifnfnoicinbaaaW.PrintLast Go.Proofs.YtifnfnoicinbaaaW.PrintMore
set_option linter.unusedVariables false
set_option linter.unusedSimpArgs false
set_option linter.unnecessarySimpa false

section
open Go.ChangeShapes Go.WideShapes Go.Deep Go.Joins
variable {H : Type} {enc : TypeId × Value → H} {w : World} {base : Nat} {spare : Nat → Bool} {held : Bool}
theorem locks_of {fuel : Nat} {cs : List Value} {x : DataW H × List MemPlace} (h : DataW.trod enc Try.prog w base spare held fuel 27 cs = some x) : ∃ A c, ∃ l : List S24, cs = [.slice A l.length c] ∧ l.length ≤ c ∧ k24.C w A l.length l := by
  obtain ⟨A, c, l, h1, h2, h3, _⟩ := C_of_trodP (k := k24) (p := fun _ => True) Try.underlying27 sz24 (fun n cs x h => by
    obtain ⟨y, hy⟩ := lock_of _ _ _ h
    exact ⟨y, hy, trivial⟩) h
  exact ⟨A, c, l, h1, h2, h3⟩
theorem sz27 : Try.prog.cellsOf 27 = 1 := by kernel_rfl
theorem sz29 : Try.prog.cellsOf 29 = 2 := by kernel_rfl
theorem parts2 {cs : List Value} {a b : Value} (h : cs.length = 2) (h0 : (cs.drop 0).take 1 = [a]) (h1 : (cs.drop 1).take 1 = [b]) : cs = [a, b] := by
  match cs, h with
  | [c0, c1], _ => simp at h0 h1; simp [h0, h1]
theorem table_of {n : Nat} {cs : List Value} {x : DataW H × List MemPlace} (h : DataW.trod enc Try.prog w base spare held n 29 cs = some x) :
    ∃ A c, ∃ l : List S24, ∃ B d, ∃ m : List S24, cs = [.slice A l.length c, .slice B m.length d] ∧ l.length ≤ c ∧ m.length ≤ d ∧ k24.C w A l.length l ∧ k24.C w B m.length m := by
  obtain ⟨y0, y1, m, rfl, hl, t0, t1⟩ := trod_struct2 Try.underlying29 h
  obtain ⟨A, c, l, e0, h1, h2⟩ := locks_of t0
  obtain ⟨B, d, m, e1, h3, h4⟩ := locks_of t1
  rw [sz27] at e0 e1
  rw [sz29] at hl
  exact ⟨A, c, l, B, d, m, parts2 hl e0 e1, h1, h3, h2, h4⟩
theorem locks_len {fuel : Nat} {cs : List Value} {x : DataW H × List MemPlace} (h : DataW.trod enc Try.prog w base spare held fuel 27 cs = some x) {A : Option Addr} {c n : Nat} (hcs : cs = [.slice A n c]) : n = 0 ∨ ∃ e s, x.1 = .slice e s ∧ e.length = n := by
  rcases open_slice Try.underlying27 h with ⟨h1, _⟩ | ⟨a, len, cap, m, k, D, Pl, h1, _, _, _, _, hx, _⟩
  · rw [hcs] at h1
    simp at h1
    exact .inl h1.2.1
  · rw [hcs] at h1
    simp at h1
    exact .inr ⟨_, _, by rw [hx], by simp [h1.2.1]⟩
theorem slice_small {n : Nat} {d : DataW H} (h : n = 0 ∨ ∃ e s, d = .slice e s ∧ e.length = n) (hw : ∀ k ∈ d.weights Try.prog 27, k ≤ reachBytes) : n ≤ 140737488355328 := by
  rcases h with rfl | ⟨e, s, rfl, rfl⟩
  · omega
  · have h1 := hw ((e.length + s.length) * Try.prog.bytesOf 24) (by simp [DataW.weights, Try.underlying27])
    have h2 : Try.prog.bytesOf 24 = 40 := by kernel_rfl
    rw [h2] at h1
    have := reachBytes_lt
    omega
theorem table_small {fuel : Nat} {cs : List Value} {x : DataW H × List MemPlace} (h : DataW.trod enc Try.prog w base spare held fuel 29 cs = some x) (hw : ∀ k ∈ x.1.weights Try.prog 29, k ≤ reachBytes) {A B : Option Addr} {n c m d : Nat} (hcs : cs = [.slice A n c, .slice B m d]) : n ≤ 140737488355328 ∧ m ≤ 140737488355328 := by
  obtain ⟨y0, y1, k, rfl, hl, t0, t1⟩ := trod_struct2 Try.underlying29 h
  have hws : ∀ k, k ∈ y0.1.weights Try.prog 27 ∨ k ∈ y1.1.weights Try.prog 27 → k ≤ reachBytes := fun k hk => hw k (by
    simp only [DataW.weights, Try.underlying29, List.map_cons, List.map_nil, DataW.weightsEach, List.append_nil, List.mem_append]
    exact hk)
  subst hcs
  refine ⟨slice_small (locks_len t0 (A := A) (c := c) ?_) (fun k hk => hws k (.inl hk)), slice_small (locks_len t1 (A := B) (c := d) ?_) (fun k hk => hws k (.inr hk))⟩
  · rw [sz27]; rfl
  · rw [sz27]; rfl
end
theorem ne24 (a b : S24) : (!((a.f0) == (b.f0)) || (!((a.f1) == (b.f1)) || (!((a.f2) == (b.f2)) || (!((a.f3) == (b.f3)) || (!((a.f4) == (b.f4))))))) = true ↔ a ≠ b := by
  obtain ⟨a0, a1, a2, a3, a4⟩ := a
  obtain ⟨b0, b1, b2, b3, b4⟩ := b
  simp only [Bool.or_eq_true, Bool.not_eq_true', beq_eq_false_iff_ne, ne_eq, S24.mk.injEq]
  constructor
  · rintro h ⟨h0, h1, h2, h3, h4⟩
    rcases h with h | h | h | h | h
    · exact h h0
    · exact h h1
    · exact h h2
    · exact h h3
    · exact h h4
  · intro h
    by_cases h0 : a0 = b0
    · by_cases h1 : a1 = b1
      · by_cases h2 : a2 = b2
        · by_cases h3 : a3 = b3
          · by_cases h4 : a4 = b4
            · exact absurd ⟨h0, h1, h2, h3, h4⟩ h
            · exact .inr (.inr (.inr (.inr h4)))
          · exact .inr (.inr (.inr (.inl h3)))
        · exact .inr (.inr (.inl h2))
      · exact .inr (.inl h1)
    · exact .inl h0
instance decS24 : DecidableEq S24 := fun a b => decidable_of_iff (a.f0 = b.f0 ∧ a.f1 = b.f1 ∧ a.f2 = b.f2 ∧ a.f3 = b.f3 ∧ a.f4 = b.f4) ⟨fun ⟨h0, h1, h2, h3, h4⟩ => by
  obtain ⟨a0, a1, a2, a3, a4⟩ := a
  obtain ⟨b0, b1, b2, b3, b4⟩ := b
  dsimp only at h0 h1 h2 h3 h4
  subst h0 h1 h2 h3 h4
  rfl, fun h => by subst h; exact ⟨rfl, rfl, rfl, rfl, rfl⟩⟩
theorem wrap_succ {j : Nat} (h : j ≤ 1000) : wrap64 ((j : Int) + 1) = ((j + 1 : Nat) : Int) := by unfold wrap64; omega
theorem drop_at {α : Type} {l : List α} {j : Nat} (h : j < l.length) : l.drop j = l[j] :: l.drop (j + 1) := (List.getElem_cons_drop ..).symm
theorem sameLocks_loop {x0 x1 : List S24} (he : x0.length = x1.length) (hl : x0.length ≤ 1000) : ∀ (n k j : Nat), j + n = x0.length → n < k → archivoltref31_sameLocks.l0 k x0 x1 (j : Int) = some (decide (x0.drop j = x1.drop j))
  | n, 0, j, _, hk => absurd hk (by omega)
  | 0, k + 1, j, hj, _ => by
    unfold archivoltref31_sameLocks.l0
    rw [if_neg (show ¬ (j : Int) < (x0.length : Int) by omega)]
    rw [List.drop_of_length_le (by omega), List.drop_of_length_le (by omega)]
    rfl
  | n + 1, k + 1, j, hj, hk => by
    have h0 : j < x0.length := by omega
    have h1 : j < x1.length := by omega
    unfold archivoltref31_sameLocks.l0
    rw [if_pos (show (j : Int) < (x0.length : Int) by omega), if_pos (show 0 ≤ (j : Int) by omega), if_pos (show (j : Int) < (x1.length : Int) by omega), drop_at h0, drop_at h1]
    rw [show x0[j] = rd_T24 x0 (j : Int) from (rd_at h0).symm, show x1[j] = rd_T24 x1 (j : Int) from (rd_at h1).symm]
    by_cases hh : rd_T24 x0 (j : Int) = rd_T24 x1 (j : Int)
    · rw [if_neg (fun hx => (ne24 _ _).1 hx hh), wrap_succ (by omega), sameLocks_loop he hl n k (j + 1) (by omega) (by omega), hh]
      congr 1
      exact decide_eq_decide.2 (by simp only [List.cons.injEq, true_and])
    · rw [if_pos ((ne24 _ _).2 hh)]
      congr 1
      rw [decide_eq_false]
      intro h
      injection h
      contradiction
theorem sameLocks_eq {x0 x1 : List S24} (hl : x0.length ≤ 1000) : archivoltref31_sameLocks.f 2000 x0 x1 = some (decide (x0 = x1)) := by
  unfold archivoltref31_sameLocks.f
  by_cases he : x0.length = x1.length
  · rw [if_pos (by omega)]
    have := sameLocks_loop he hl x0.length 2000 0 (by omega) (by omega)
    simpa using this
  · rw [if_neg (by omega), decide_eq_false (by intro h; subst h; exact he rfl)]
theorem sameInts_loop {x0 x1 : List Int} (he : x0.length = x1.length) (hl : x0.length ≤ 1000) : ∀ (n k j : Nat), j + n = x0.length → n < k → archivoltref31_SameInts.l0 k x0 x1 (j : Int) = some (decide (x0.drop j = x1.drop j))
  | n, 0, j, _, hk => absurd hk (by omega)
  | 0, k + 1, j, hj, _ => by
    unfold archivoltref31_SameInts.l0
    rw [if_neg (show ¬ (j : Int) < (x0.length : Int) by omega)]
    rw [List.drop_of_length_le (by omega), List.drop_of_length_le (by omega)]
    rfl
  | n + 1, k + 1, j, hj, hk => by
    have h0 : j < x0.length := by omega
    have h1 : j < x1.length := by omega
    unfold archivoltref31_SameInts.l0
    rw [if_pos (show (j : Int) < (x0.length : Int) by omega), if_pos (show 0 ≤ (j : Int) by omega), if_pos (show (j : Int) < (x1.length : Int) by omega), drop_at h0, drop_at h1]
    rw [show rd x0 (j : Int) = x0[j] by simp [rd, h0], show rd x1 (j : Int) = x1[j] by simp [rd, h1]]
    by_cases hh : x0[j] = x1[j]
    · rw [if_pos hh, wrap_succ (by omega), sameInts_loop he hl n k (j + 1) (by omega) (by omega), hh]
      congr 1
      exact decide_eq_decide.2 (by simp only [List.cons.injEq, true_and])
    · rw [if_neg hh]
      congr 1
      rw [decide_eq_false]
      intro h
      injection h
      contradiction
theorem sameInts_eq {x0 x1 : List Int} (hl : x0.length ≤ 1000) : archivoltref31_SameInts.f 2000 x0 x1 = some (decide (x0 = x1)) := by
  unfold archivoltref31_SameInts.f
  by_cases he : x0.length = x1.length
  · rw [if_pos (by omega)]
    have := sameInts_loop he hl x0.length 2000 0 (by omega) (by omega)
    simpa using this
  · rw [if_neg (by omega), decide_eq_false (by intro h; subst h; exact he rfl)]
/-- Small enough to be looked at. -/
def smallB (H W : List S24) : Bool := decide (H.length + W.length ≤ 40) || decide (400 < H.length + W.length) && decide (H.length + W.length ≤ 420)
theorem small_f {H W : List S24} (h1 : H.length ≤ 140737488355328) (h2 : W.length ≤ 140737488355328) : archivoltlaw31_small.f H W = some (smallB H W) := by
  unfold archivoltlaw31_small.f smallB
  have e : wrap64 ((H.length : Int) + (W.length : Int)) = ((H.length + W.length : Nat) : Int) := by unfold wrap64; omega
  rw [e]
  generalize H.length + W.length = n
  by_cases h3 : n ≤ 40
  · rw [if_pos (by omega), decide_eq_true h3]; rfl
  · rw [if_neg (by omega), decide_eq_false h3]
    by_cases h4 : 400 < n
    · rw [if_pos (by omega), decide_eq_true h4]
      by_cases h5 : n ≤ 420
      · rw [decide_eq_true h5, decide_eq_true (show ((n : Nat) : Int) ≤ 420 by omega)]; rfl
      · rw [decide_eq_false h5, decide_eq_false (show ¬ ((n : Nat) : Int) ≤ 420 by omega)]; rfl
    · rw [if_neg (by omega), decide_eq_false h4]; rfl
theorem small_len {H W : List S24} (h : smallB H W = true) : H.length + W.length ≤ 420 := by
  unfold smallB at h
  simp only [Bool.or_eq_true, Bool.and_eq_true, decide_eq_true_eq] at h
  omega
set_option maxRecDepth 100000 in
set_option maxHeartbeats 2000000 in
theorem sameTT_calls (A B A' B' : Option Addr) (c d c' d' : Nat) (H W : List S24) (w : World) (h1 : k24.C w A H.length H) (h2 : k24.C w B W.length W) (h3 : k24.C w A' H.length H) (h4 : k24.C w B' W.length W)
    (l1 : H.length ≤ c) (l2 : W.length ≤ d) (l3 : H.length ≤ c') (l4 : W.length ≤ d') (hl : H.length + W.length ≤ 1000) :
    Calls Try.prog 24 #[.agg #[.slice A H.length c, .slice B W.length d], .agg #[.slice A' H.length c', .slice B' W.length d']] w fun e w' => e = .returned (.bool true) ∧ Below w.heap.size w w' := by
  have C1 := Aside0.mk h1
  have C2 := Aside0.mk h2
  have C3 := Aside0.mk h3
  have C4 := Aside0.mk h4
  clear h1 h2 h3 h4
  go_enter Try.func24, Try.ntmps24
  go_upto_region 1 with (fail)
  have hb_ := below_alloc (below_alloc (Below.refl _ w) (.cells #[.slice A H.length c, .slice B W.length d] 29)) (.cells #[.slice A' H.length c', .slice B' W.length d'] 29)
  have hG0_ := blk_alloc (blk_lit0 w (.cells #[.slice A H.length c, .slice B W.length d] 29)) (.cells #[.slice A' H.length c', .slice B' W.length d'] 29)
  have hG1_ := blk_lit w (.cells #[.slice A H.length c, .slice B W.length d] 29) (.cells #[.slice A' H.length c', .slice B' W.length d'] 29)
  generalize ((w.alloc (.cells #[.slice A H.length c, .slice B W.length d] 29)).alloc (.cells #[.slice A' H.length c', .slice B' W.length d'] 29)) = V at hb_ hG0_ hG1_ ⊢
  have HB_V := Aside0.mk hb_
  have V0 := Aside0.mk hG0_
  have V1 := Aside0.mk hG1_
  clear hb_ hG0_ hG1_
  have x0 := (blk_cell V0.out 0).trans rfl; have x1 := (blk_cell V0.out 1).trans rfl
  have y0 := (blk_cell V1.out 0).trans rfl; have y1 := (blk_cell V1.out 1).trans rfl
  go_wp2_with (fail)
  refine (archivoltref31_sameLocks.calls 2000 A c H A' c' H true _ (Kd.C_below C1.out HB_V.out) l1 (Kd.C_below C3.out HB_V.out) l3 (by rw [sameLocks_eq (by omega)]; simp)).mono ?_
  rintro e w2 ⟨rfl, hd⟩
  have hb := hd.below
  have T := Aside0.mk (blk_below V0.out hb)
  have U := Aside0.mk (blk_below V1.out hb)
  have BB := Aside0.mk (below_step HB_V.out hb)
  clear hb hd x0 x1 y0 y1 V0 V1 HB_V
  have x0 := (blk_cell T.out 0).trans rfl; have x1 := (blk_cell T.out 1).trans rfl
  have y0 := (blk_cell U.out 0).trans rfl; have y1 := (blk_cell U.out 1).trans rfl
  go_wp2_with (fail)
  refine (archivoltref31_sameLocks.calls 2000 B d W B' d' W true _ (Kd.C_below C2.out BB.out) l2 (Kd.C_below C4.out BB.out) l4 (by rw [sameLocks_eq (by omega)]; simp)).mono ?_
  rintro e w3 ⟨rfl, hd⟩
  have BB := Aside0.mk (below_step BB.out hd.below)
  clear hd
  go_wp2
  go_ret
  exact ⟨rfl, BB.out⟩
set_option maxRecDepth 100000 in
set_option maxHeartbeats 2000000 in
theorem sameNN_calls (A B A' B' : Option Addr) (c d c' d' : Nat) (H W : List Int) (w : World) (h1 : kI.C w A H.length H) (h2 : kI.C w B W.length W) (h3 : kI.C w A' H.length H) (h4 : kI.C w B' W.length W)
    (l1 : H.length ≤ c) (l2 : W.length ≤ d) (l3 : H.length ≤ c') (l4 : W.length ≤ d') (hl : H.length + W.length ≤ 1000) :
    Calls Try.prog 25 #[.agg #[.slice A H.length c, .slice B W.length d], .agg #[.slice A' H.length c', .slice B' W.length d']] w fun e w' => e = .returned (.bool true) ∧ Below w.heap.size w w' := by
  have C1 := Aside0.mk h1
  have C2 := Aside0.mk h2
  have C3 := Aside0.mk h3
  have C4 := Aside0.mk h4
  clear h1 h2 h3 h4
  go_enter Try.func25, Try.ntmps25
  go_upto_region 1 with (fail)
  have hb_ := below_alloc (below_alloc (Below.refl _ w) (.cells #[.slice A H.length c, .slice B W.length d] 33)) (.cells #[.slice A' H.length c', .slice B' W.length d'] 33)
  have hG0_ := blk_alloc (blk_lit0 w (.cells #[.slice A H.length c, .slice B W.length d] 33)) (.cells #[.slice A' H.length c', .slice B' W.length d'] 33)
  have hG1_ := blk_lit w (.cells #[.slice A H.length c, .slice B W.length d] 33) (.cells #[.slice A' H.length c', .slice B' W.length d'] 33)
  generalize ((w.alloc (.cells #[.slice A H.length c, .slice B W.length d] 33)).alloc (.cells #[.slice A' H.length c', .slice B' W.length d'] 33)) = V at hb_ hG0_ hG1_ ⊢
  have HB_V := Aside0.mk hb_
  have V0 := Aside0.mk hG0_
  have V1 := Aside0.mk hG1_
  clear hb_ hG0_ hG1_
  have x0 := (blk_cell V0.out 0).trans rfl; have x1 := (blk_cell V0.out 1).trans rfl
  have y0 := (blk_cell V1.out 0).trans rfl; have y1 := (blk_cell V1.out 1).trans rfl
  go_wp2_with (fail)
  refine (archivoltref31_SameInts.calls 2000 A c H A' c' H true _ (Kd.C_below C1.out HB_V.out) l1 (Kd.C_below C3.out HB_V.out) l3 (by rw [sameInts_eq (by omega)]; simp)).mono ?_
  rintro e w2 ⟨rfl, hd⟩
  have hb := hd.below
  have T := Aside0.mk (blk_below V0.out hb)
  have U := Aside0.mk (blk_below V1.out hb)
  have BB := Aside0.mk (below_step HB_V.out hb)
  clear hb hd x0 x1 y0 y1 V0 V1 HB_V
  have x0 := (blk_cell T.out 0).trans rfl; have x1 := (blk_cell T.out 1).trans rfl
  have y0 := (blk_cell U.out 0).trans rfl; have y1 := (blk_cell U.out 1).trans rfl
  go_wp2_with (fail)
  refine (archivoltref31_SameInts.calls 2000 B d W B' d' W true _ (Kd.C_below C2.out BB.out) l2 (Kd.C_below C4.out BB.out) l4 (by rw [sameInts_eq (by omega)]; simp)).mono ?_
  rintro e w3 ⟨rfl, hd⟩
  have BB := Aside0.mk (below_step BB.out hd.below)
  clear hd
  go_wp2
  go_ret
  exact ⟨rfl, BB.out⟩
theorem settle_lens {H W : List S24} (hs : PL.Single hdL W) : (settleL H W).1.length + (settleL H W).2.1.length ≤ H.length + W.length ∧ (settleL H W).2.2.1.length + (settleL H W).2.2.2.length ≤ W.length := by
  obtain ⟨H', W', G', N', e, st, _, _⟩ := PL.settle_spec (mt := mtL) (H := H) hs
  rw [show settleL H W = (H', W', G', N') from e]
  refine ⟨PL.steps_len st, ?_⟩
  obtain ⟨A, B, _, h2, h3, hp⟩ := PL.steps_news st
  have := hp.length_eq
  simp only [List.length_append] at this
  rw [h2, h3]
  simp
  omega
end Go.Proofs.Ytifnfnoicinbaaa.M
