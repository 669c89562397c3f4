/- LockAnswers: the walk. -/
import Derived.Test.YtifnfnoicinbaaaQ7
import Derived.Test.YtifnfnoicinbaaaD2
import Derived.Test.YtifnfnoicinbaaaF20
import Derived.Test.YtifnfnoicinbaaaF30
namespace Go.Proofs.Ytifnfnoicinbaaa.M
open Go.RowKit Go.Proofs.YtifnfnoicinbaaaW.PrintWords Go.Proofs.YtifnfnoicinbaaaW.PrintLast Go.Proofs.YtifnfnoicinbaaaW.PrintMore
set_option linter.unusedVariables false
set_option linter.unusedSimpArgs false
set_option linter.unnecessarySimpa false

theorem wrap_succ {j : Nat} (h : j ≤ 1000) : wrap64 ((j : Int) + 1) = ((j + 1 : Nat) : Int) := by unfold wrap64; omega
theorem drop_at {α : Type} {l : List α} {j : Nat} (h : j < l.length) : l.drop j = l[j] :: l.drop (j + 1) := (List.getElem_cons_drop ..).symm
theorem sameInts_loop {x0 x1 : List Int} (he : x0.length = x1.length) (hl : x0.length ≤ 1000) : ∀ (n k j : Nat), j + n = x0.length → n < k → archivoltref31_SameInts.l0 k x0 x1 (j : Int) = some (decide (x0.drop j = x1.drop j))
  | n, 0, j, _, hk => absurd hk (by omega)
  | 0, k + 1, j, hj, _ => by
    unfold archivoltref31_SameInts.l0
    rw [if_neg (show ¬ (j : Int) < (x0.length : Int) by omega)]
    rw [List.drop_of_length_le (by omega), List.drop_of_length_le (by omega)]
    rfl
  | n + 1, k + 1, j, hj, hk => by
    have h0 : j < x0.length := by omega
    have h1 : j < x1.length := by omega
    unfold archivoltref31_SameInts.l0
    rw [if_pos (show (j : Int) < (x0.length : Int) by omega), if_pos (show 0 ≤ (j : Int) by omega), if_pos (show (j : Int) < (x1.length : Int) by omega), drop_at h0, drop_at h1]
    rw [show rd x0 (j : Int) = x0[j] by simp [rd, h0], show rd x1 (j : Int) = x1[j] by simp [rd, h1]]
    by_cases hh : x0[j] = x1[j]
    · rw [if_pos hh, wrap_succ (by omega), sameInts_loop he hl n k (j + 1) (by omega) (by omega), hh]
      congr 1
      exact decide_eq_decide.2 (by simp only [List.cons.injEq, true_and])
    · rw [if_neg hh]
      congr 1
      rw [decide_eq_false]
      intro h
      injection h
      contradiction
theorem sameInts_eq {x0 x1 : List Int} (hl : x0.length ≤ 1000) : archivoltref31_SameInts.f 2000 x0 x1 = some (decide (x0 = x1)) := by
  unfold archivoltref31_SameInts.f
  by_cases he : x0.length = x1.length
  · rw [if_pos (by omega)]
    have := sameInts_loop he hl x0.length 2000 0 (by omega) (by omega)
    simpa using this
  · rw [if_neg (by omega), decide_eq_false (by intro h; subst h; exact he rfl)]
/-- Small enough to be looked at. -/
def smallB (H W : List S24) : Bool := decide (H.length + W.length ≤ 40) || decide (400 < H.length + W.length) && decide (H.length + W.length ≤ 420)
theorem small_f {H W : List S24} (h1 : H.length ≤ 140737488355328) (h2 : W.length ≤ 140737488355328) : archivoltlaw31_small.f H W = some (smallB H W) := by
  unfold archivoltlaw31_small.f smallB
  have e : wrap64 ((H.length : Int) + (W.length : Int)) = ((H.length + W.length : Nat) : Int) := by unfold wrap64; omega
  rw [e]
  generalize H.length + W.length = n
  by_cases h3 : n ≤ 40
  · rw [if_pos (by omega), decide_eq_true h3]; rfl
  · rw [if_neg (by omega), decide_eq_false h3]
    by_cases h4 : 400 < n
    · rw [if_pos (by omega), decide_eq_true h4]
      by_cases h5 : n ≤ 420
      · rw [decide_eq_true h5, decide_eq_true (show ((n : Nat) : Int) ≤ 420 by omega)]; rfl
      · rw [decide_eq_false h5, decide_eq_false (show ¬ ((n : Nat) : Int) ≤ 420 by omega)]; rfl
    · rw [if_neg (by omega), decide_eq_false h4]; rfl
theorem small_len {H W : List S24} (h : smallB H W = true) : H.length + W.length ≤ 420 := by
  unfold smallB at h
  simp only [Bool.or_eq_true, Bool.and_eq_true, decide_eq_true_eq] at h
  omega
theorem sameI_calls (A B : Option Addr) (c d : Nat) (L : List Int) (w : World) (h1 : kI.C w A L.length L) (h2 : kI.C w B L.length L) (l1 : L.length ≤ c) (l2 : L.length ≤ d) (hl : L.length ≤ 1000) :
    Calls Try.prog 30 #[.slice A L.length c, .slice B L.length d] w fun e w' => e = .returned (.bool true) ∧ Below w.heap.size w w' :=
  (archivoltref31_SameInts.calls 2000 A c L B d L true w h1 l1 h2 l2 (by rw [sameInts_eq hl]; simp)).mono fun e w' ⟨h, hd⟩ => ⟨h, hd.below⟩
theorem blocks_len {H W : List S24} {x : Int} (h : H.length + W.length ≤ 1000) : (blocksF H W x).1.length ≤ 1000 := by
  unfold blocksF
  by_cases hz : begE H W (knownB x) = 0
  · rw [if_pos hz]
    cases PL.waitI hdL W x with
    | none => simp
    | some i =>
      dsimp only
      rw [← ins_compact]
      have h1 := insU_fold_len ((PL.blks mtL H W i).map hdL) []
      have h2 := PL.blks_len (mt := mtL) (H := H) (W := W) i
      simp at h1
      omega
  · rw [if_neg hz]; simp
set_option maxRecDepth 100000 in
set_option maxHeartbeats 8000000 in
theorem answers_walk (A : Option Addr) (c : Nat) (H : List S24) (B : Option Addr) (d : Nat) (W : List S24) (a : S24) (x : Int) (w : World) (l1 : H.length ≤ c) (l2 : W.length ≤ d) (h1 : k24.C w A H.length H) (h2 : k24.C w B W.length W) (hsz : H.length ≤ 140737488355328 ∧ W.length ≤ 140737488355328) (hr : -9223372036854775808 ≤ x ∧ x ≤ 9223372036854775807) :
    Calls Try.prog 6 #[.agg #[.slice A H.length c, .slice B W.length d], .agg #[.int .i64 a.f0, .int .i64 a.f1, .int .i64 a.f2, .int .i64 a.f3, .bool a.f4], .int .i64 x] w fun e w' => e = .returned (.bool true) ∧ Below w.heap.size w w' := by
  have HC1 := Aside0.mk h1
  have HC2 := Aside0.mk h2
  have HSZ := Aside0.mk hsz
  clear h1 h2 hsz hr
  go_enter Try.func6, Try.ntmps6
  go_upto_region 1 with (fail)
  have hb_ := below_alloc (below_alloc (Below.refl _ w) (.cells #[.slice A H.length c, .slice B W.length d] 29)) (.cells #[.int .i64 a.f0, .int .i64 a.f1, .int .i64 a.f2, .int .i64 a.f3, .bool a.f4] 24)
  have hG0_ := blk_alloc (blk_lit0 w (.cells #[.slice A H.length c, .slice B W.length d] 29)) (.cells #[.int .i64 a.f0, .int .i64 a.f1, .int .i64 a.f2, .int .i64 a.f3, .bool a.f4] 24)
  have hG1_ := blk_lit w (.cells #[.slice A H.length c, .slice B W.length d] 29) (.cells #[.int .i64 a.f0, .int .i64 a.f1, .int .i64 a.f2, .int .i64 a.f3, .bool a.f4] 24)
  generalize ((w.alloc (.cells #[.slice A H.length c, .slice B W.length d] 29)).alloc (.cells #[.int .i64 a.f0, .int .i64 a.f1, .int .i64 a.f2, .int .i64 a.f3, .bool a.f4] 24)) = V at hb_ hG0_ hG1_ ⊢
  have HB_V := Aside0.mk hb_
  have V0 := Aside0.mk hG0_
  have V1 := Aside0.mk hG1_
  clear hb_ hG0_ hG1_
  have x0 := (blk_cell V0.out 0).trans rfl; have x1 := (blk_cell V0.out 1).trans rfl
  go_upto_region 2 with (fail)
  refine (archivoltlaw31_small.calls A c H B d W (smallB H W) _ (Kd.C_below HC1.out HB_V.out) l1 (Kd.C_below HC2.out HB_V.out) l2 (small_f HSZ.out.1 HSZ.out.2)).mono ?_
  rintro e w2 ⟨rfl, hb⟩
  have T := Aside0.mk (blk_below V0.out hb)
  have Y := Aside0.mk (blk_below V1.out hb)
  have BB := Aside0.mk (below_step HB_V.out hb)
  clear hb x0 x1 HB_V V0 V1
  cases hs : smallB H W with
  | false =>
    go_wp2_with (fail)
    refine (sane_calls _).mono ?_
    rintro e w9 ⟨rfl, hb9⟩
    have HB9 := Aside0.mk (below_step BB.out hb9)
    clear hb9
    go_wp2
    go_ret
    exact ⟨rfl, HB9.out⟩
  | true =>
  have hlen : H.length + W.length ≤ 420 := small_len hs
  clear hs
  have x0 := (blk_cell T.out 0).trans rfl; have x1 := (blk_cell T.out 1).trans rfl
  go_upto_region 4 with (fail)
  refine (blocks_calls A B c d H W x _ (Kd.C_below HC1.out BB.out) (Kd.C_below HC2.out BB.out) (by omega)).mono ?_
  rintro e w3 ⟨v, rfl, hv, hb⟩
  have HBLN := Aside0.mk (blocks_len (H := H) (W := W) (x := x) (by omega))
  obtain ⟨L, hL⟩ : ∃ L, L = (blocksF H W x).1 := ⟨_, rfl⟩
  obtain ⟨E, hE⟩ : ∃ E, E = (blocksF H W x).2 := ⟨_, rfl⟩
  have HL := Aside0.mk hL
  have HE := Aside0.mk hE
  rw [← hL] at hv HBLN
  rw [← hE]
  clear hL hE
  obtain ⟨la, lc, rfl⟩ := Kd.R_slice hv
  have RL := Aside0.mk hv
  have T := Aside0.mk (blk_below T.out hb)
  have Y := Aside0.mk (blk_below Y.out hb)
  have BB := Aside0.mk (below_step BB.out hb)
  clear hb hv x0 x1
  have x0 := (blk_cell T.out 0).trans rfl; have x1 := (blk_cell T.out 1).trans rfl
  go_upto_region 5 with (fail)
  refine (blocksR_calls A B c d H W x _ (Kd.C_below HC1.out BB.out) (Kd.C_below HC2.out BB.out) l1 l2 (by omega)).mono ?_
  rintro e w4 ⟨v, rfl, hv, hb⟩
  rw [← HL.out] at hv
  rw [← HE.out]
  obtain ⟨ma, mc, rfl⟩ := Kd.R_slice hv
  have RL := Aside0.mk (Kd.R_below RL.out hb)
  have RM := Aside0.mk hv
  have T := Aside0.mk (blk_below T.out hb)
  have Y := Aside0.mk (blk_below Y.out hb)
  have BB := Aside0.mk (below_step BB.out hb)
  clear hb hv x0 x1
  go_upto_region 5 with (fail)
  have CH := Aside0.mk (Kd.C_below HC1.out BB.out)
  have CW := Aside0.mk (Kd.C_below HC2.out BB.out)
  have x0 := (blk_cell T.out 0).trans rfl; have x1 := (blk_cell T.out 1).trans rfl
  have y0 := (blk_cell Y.out 0).trans rfl; have y1 := (blk_cell Y.out 1).trans rfl; have y2 := (blk_cell Y.out 2).trans rfl; have y3 := (blk_cell Y.out 3).trans rfl; have y4 := (blk_cell Y.out 4).trans rfl
  obtain ⟨ke, hke⟩ : ∃ ke, ke = mayF H W a := ⟨_, rfl⟩
  have HKE := Aside0.mk hke
  clear hke
  have q1 : (ke == ke) = true := by simp
  have q2 : (E == E) = true := by simp
  refine start_ (n := 21) (S := fun w' => Below w4.heap.size w4 w') (ds := []) #[false, false, false, false, false, false, false, false, false, false, false, false, false, false, false, false, false, false, false, false, false] (by kernel_rfl) rfl rfl (below_drew1 (Below.refl w4.heap.size w4)) (fun hHeld => ?_)
  generalize w4.drew = wd at hHeld ⊢
  refine one_ (i := 0) (N := some 27) #[true, false, false, false, false, false, false, false, false, false, false, false, false, false, false, false, false, false, false, false, false] rfl rfl (by kernel_rfl) (by decide) (fun K hK => ?_)
  refine goes_ Try.func15 (by kernel_rfl) rfl #[] (by rfl) rfl rfl (by (try simp only [List.map_toArray, List.map_cons, List.map_nil]); first | done | rfl) ?_
  refine (sane_calls _).mono ?_
  rintro e wc ⟨rfl, hb⟩
  refine ⟨_, rfl, ?_⟩
  have HB2 := Aside0.mk (below_step hHeld hb)
  clear hb hHeld
  refine hK.out _ _ HB2.out (fun hHeld => ?_)
  clear hK K
  refine norm_ (a' := ?_) ?_ ?_
  rotate_left
  · show Act.put _ (some 27) _ = _
    simp only [Act.put, List.setIfInBounds_toArray, List.set_cons_zero, List.set_cons_succ, i64_w, i32_w]
    rfl
  clear HB2
  refine pure_ (i := 1) (N := some 28) (v := ?_) (a' := ?_) #[true, true, false, false, false, false, false, false, false, false, false, false, false, false, false, false, false, false, false, false, false] rfl rfl (by kernel_rfl) (fun _ _ _ h => h) (Or.inl ⟨by rfl, ?_⟩) ?_ ?_
  rotate_left
  · intro w'
    go_simp
    with_reducible rfl
  rotate_left
  · simp only [Act.put, List.setIfInBounds_toArray, List.set_cons_zero, List.set_cons_succ, i64_w, i32_w]
    rfl
  refine take_ (i := 2) (N := some 29) (v := ?_) (a' := ?_) #[true, true, true, false, false, false, false, false, false, false, false, false, false, false, false, false, false, false, false, false, false] rfl rfl (by kernel_rfl) (fun _ _ _ h => h) (Or.inl ⟨by rfl, ?_⟩) hHeld ?_ ?_
  rotate_left
  · rintro w' s0
    have q0 := pw_cell_below s0 x0; have q1 := pw_cell_below s0 x1
    go_simp
    with_reducible rfl
  rotate_left
  · simp only [Act.put, List.setIfInBounds_toArray, List.set_cons_zero, List.set_cons_succ, i64_w, i32_w]
    rfl
  refine take_ (i := 3) (N := some 30) (v := ?_) (a' := ?_) #[true, true, true, true, false, false, false, false, false, false, false, false, false, false, false, false, false, false, false, false, false] rfl rfl (by kernel_rfl) (fun _ _ _ h => h) (Or.inl ⟨by rfl, ?_⟩) hHeld ?_ ?_
  rotate_left
  · rintro w' s0
    have q0 := pw_cell_below s0 y0; have q1 := pw_cell_below s0 y1; have q2 := pw_cell_below s0 y2; have q3 := pw_cell_below s0 y3; have q4 := pw_cell_below s0 y4
    go_simp
    with_reducible rfl
  rotate_left
  · simp only [Act.put, List.setIfInBounds_toArray, List.set_cons_zero, List.set_cons_succ, i64_w, i32_w]
    rfl
  refine take_ (i := 5) (N := some 32) (v := ?_) (a' := ?_) #[true, true, true, true, false, true, false, false, false, false, false, false, false, false, false, false, false, false, false, false, false] rfl rfl (by kernel_rfl) (fun _ _ _ h => h) (Or.inl ⟨by rfl, ?_⟩) hHeld ?_ ?_
  rotate_left
  · rintro w' s0
    have q0 := pw_cell_below s0 x0; have q1 := pw_cell_below s0 x1
    go_simp
    with_reducible rfl
  rotate_left
  · simp only [Act.put, List.setIfInBounds_toArray, List.set_cons_zero, List.set_cons_succ, i64_w, i32_w]
    rfl
  refine take_ (i := 6) (N := some 33) (v := ?_) (a' := ?_) #[true, true, true, true, false, true, true, false, false, false, false, false, false, false, false, false, false, false, false, false, false] rfl rfl (by kernel_rfl) (fun _ _ _ h => h) (Or.inl ⟨by rfl, ?_⟩) hHeld ?_ ?_
  rotate_left
  · rintro w' s0
    have q0 := pw_cell_below s0 y0; have q1 := pw_cell_below s0 y1; have q2 := pw_cell_below s0 y2; have q3 := pw_cell_below s0 y3; have q4 := pw_cell_below s0 y4
    go_simp
    with_reducible rfl
  rotate_left
  · simp only [Act.put, List.setIfInBounds_toArray, List.set_cons_zero, List.set_cons_succ, i64_w, i32_w]
    rfl
  refine one_ (i := 4) (N := some 31) #[true, true, true, true, true, true, true, false, false, false, false, false, false, false, false, false, false, false, false, false, false] rfl rfl (by kernel_rfl) (by decide) (fun K hK => ?_)
  refine goes_ Try.func28 (by kernel_rfl) rfl #[.agg #[.slice A H.length c, .slice B W.length d], .agg #[.int .i64 a.f0, .int .i64 a.f1, .int .i64 a.f2, .int .i64 a.f3, .bool a.f4]] (by rfl) rfl rfl (by (try simp only [List.map_toArray, List.map_cons, List.map_nil]); first | done | rfl) ?_
  refine (may_calls A B c d H W a _ (Kd.C_below CH.out hHeld) (Kd.C_below CW.out hHeld) (by omega)).mono ?_
  rintro e wc ⟨rfl, hb⟩
  rw [← HKE.out]
  refine ⟨_, rfl, ?_⟩
  have HB2 := Aside0.mk (below_step hHeld hb)
  clear hb hHeld
  refine hK.out _ _ HB2.out (fun hHeld => ?_)
  clear hK K
  refine norm_ (a' := ?_) ?_ ?_
  rotate_left
  · show Act.put _ (some 31) _ = _
    simp only [Act.put, List.setIfInBounds_toArray, List.set_cons_zero, List.set_cons_succ, i64_w, i32_w]
    rfl
  clear HB2
  refine one_ (i := 7) (N := some 34) #[true, true, true, true, true, true, true, true, false, false, false, false, false, false, false, false, false, false, false, false, false] rfl rfl (by kernel_rfl) (by decide) (fun K hK => ?_)
  refine goes_ Try.func29 (by kernel_rfl) rfl #[.agg #[.slice A H.length c, .slice B W.length d], .agg #[.int .i64 a.f0, .int .i64 a.f1, .int .i64 a.f2, .int .i64 a.f3, .bool a.f4]] (by rfl) rfl rfl (by (try simp only [List.map_toArray, List.map_cons, List.map_nil]); first | done | rfl) ?_
  refine (mayR_calls A B c d H W a _ (Kd.C_below CH.out hHeld) (Kd.C_below CW.out hHeld) l1 l2 (by omega)).mono ?_
  rintro e wc ⟨rfl, hb⟩
  rw [← HKE.out]
  refine ⟨_, rfl, ?_⟩
  have HB2 := Aside0.mk (below_step hHeld hb)
  clear hb hHeld
  refine hK.out _ _ HB2.out (fun hHeld => ?_)
  clear hK K
  refine norm_ (a' := ?_) ?_ ?_
  rotate_left
  · show Act.put _ (some 34) _ = _
    simp only [Act.put, List.setIfInBounds_toArray, List.set_cons_zero, List.set_cons_succ, i64_w, i32_w]
    rfl
  clear HB2
  refine pure_ (i := 8) (N := some 35) (v := ?_) (a' := ?_) #[true, true, true, true, true, true, true, true, true, false, false, false, false, false, false, false, false, false, false, false, false] rfl rfl (by kernel_rfl) (fun _ _ _ h => h) (Or.inl ⟨by rfl, ?_⟩) ?_ ?_
  rotate_left
  · intro w'
    go_simp
    with_reducible rfl
  rotate_left
  · simp only [Act.put, List.setIfInBounds_toArray, List.set_cons_zero, List.set_cons_succ, i64_w, i32_w]
    rfl
  refine pure_ (i := 9) (N := some 36) (v := ?_) (a' := ?_) #[true, true, true, true, true, true, true, true, true, true, false, false, false, false, false, false, false, false, false, false, false] rfl rfl (by kernel_rfl) (fun _ _ _ h => h) (Or.inl ⟨by rfl, ?_⟩) ?_ ?_
  rotate_left
  · intro w'
    go_simp
    with_reducible rfl
  rotate_left
  · simp only [Act.put, List.setIfInBounds_toArray, List.set_cons_zero, List.set_cons_succ, i64_w, i32_w]
    rfl
  refine pure_ (i := 10) (N := some 37) (v := ?_) (a' := ?_) #[true, true, true, true, true, true, true, true, true, true, true, false, false, false, false, false, false, false, false, false, false] rfl rfl (by kernel_rfl) (fun _ _ _ h => h) (Or.inl ⟨by rfl, ?_⟩) ?_ ?_
  rotate_left
  · intro w'
    go_simp
    with_reducible rfl
  rotate_left
  · simp only [Act.put, List.setIfInBounds_toArray, List.set_cons_zero, List.set_cons_succ, i64_w, i32_w]
    rfl
  refine pure_ (i := 11) (N := some 38) (v := ?_) (a' := ?_) #[true, true, true, true, true, true, true, true, true, true, true, true, false, false, false, false, false, false, false, false, false] rfl rfl (by kernel_rfl) (fun _ _ _ h => h) (Or.inl ⟨by rfl, ?_⟩) ?_ ?_
  rotate_left
  · intro w'
    go_simp
    with_reducible rfl
  rotate_left
  · simp only [Act.put, List.setIfInBounds_toArray, List.set_cons_zero, List.set_cons_succ, i64_w, i32_w]
    rfl
  refine pure_ (i := 12) (N := some 39) (v := ?_) (a' := ?_) #[true, true, true, true, true, true, true, true, true, true, true, true, true, false, false, false, false, false, false, false, false] rfl rfl (by kernel_rfl) (fun _ _ _ h => h) (Or.inl ⟨by rfl, ?_⟩) ?_ ?_
  rotate_left
  · intro w'
    go_simp
    with_reducible rfl
  rotate_left
  · simp only [Act.put, List.setIfInBounds_toArray, List.set_cons_zero, List.set_cons_succ, i64_w, i32_w]
    rfl
  refine one_ (i := 13) (N := some 40) #[true, true, true, true, true, true, true, true, true, true, true, true, true, true, false, false, false, false, false, false, false] rfl rfl (by kernel_rfl) (by decide) (fun K hK => ?_)
  refine goes_ Try.func30 (by kernel_rfl) rfl #[.slice la L.length lc, .slice ma L.length mc] (by rfl) rfl rfl (by (try simp only [List.map_toArray, List.map_cons, List.map_nil]); first | done | rfl) ?_
  refine (sameI_calls la ma lc mc L _ (Kd.C_below (Kd.R_reads' RL.out).2.2 hHeld) (Kd.C_below (Kd.R_reads' RM.out).2.2 hHeld) (Kd.R_reads' RL.out).2.1 (Kd.R_reads' RM.out).2.1 HBLN.out).mono ?_
  rintro e wc ⟨rfl, hb⟩
  refine ⟨_, rfl, ?_⟩
  have HB2 := Aside0.mk (below_step hHeld hb)
  clear hb hHeld
  refine hK.out _ _ HB2.out (fun hHeld => ?_)
  clear hK K
  refine norm_ (a' := ?_) ?_ ?_
  rotate_left
  · show Act.put _ (some 40) _ = _
    simp only [Act.put, List.setIfInBounds_toArray, List.set_cons_zero, List.set_cons_succ, i64_w, i32_w]
    rfl
  clear HB2
  refine pure_ (i := 14) (N := some 41) (v := ?_) (a' := ?_) #[true, true, true, true, true, true, true, true, true, true, true, true, true, true, true, false, false, false, false, false, false] rfl rfl (by kernel_rfl) (fun _ _ _ h => h) (Or.inl ⟨by rfl, ?_⟩) ?_ ?_
  rotate_left
  · intro w'
    go_simp
    with_reducible rfl
  rotate_left
  · simp only [Act.put, List.setIfInBounds_toArray, List.set_cons_zero, List.set_cons_succ, i64_w, i32_w]
    rfl
  refine pure_ (i := 15) (N := some 42) (v := ?_) (a' := ?_) #[true, true, true, true, true, true, true, true, true, true, true, true, true, true, true, true, false, false, false, false, false] rfl rfl (by kernel_rfl) (fun _ _ _ h => h) (Or.inl ⟨by rfl, ?_⟩) ?_ ?_
  rotate_left
  · intro w'
    go_simp
    with_reducible rfl
  rotate_left
  · simp only [Act.put, List.setIfInBounds_toArray, List.set_cons_zero, List.set_cons_succ, i64_w, i32_w]
    rfl
  refine pure_ (i := 16) (N := some 43) (v := ?_) (a' := ?_) #[true, true, true, true, true, true, true, true, true, true, true, true, true, true, true, true, true, false, false, false, false] rfl rfl (by kernel_rfl) (fun _ _ _ h => h) (Or.inl ⟨by rfl, ?_⟩) ?_ ?_
  rotate_left
  · intro w'
    go_simp
    with_reducible rfl
  rotate_left
  · simp only [Act.put, List.setIfInBounds_toArray, List.set_cons_zero, List.set_cons_succ, i64_w, i32_w]
    rfl
  refine pure_ (i := 17) (N := some 44) (v := ?_) (a' := ?_) #[true, true, true, true, true, true, true, true, true, true, true, true, true, true, true, true, true, true, false, false, false] rfl rfl (by kernel_rfl) (fun _ _ _ h => h) (Or.inl ⟨by rfl, ?_⟩) ?_ ?_
  rotate_left
  · intro w'
    go_simp
    with_reducible rfl
  rotate_left
  · simp only [Act.put, List.setIfInBounds_toArray, List.set_cons_zero, List.set_cons_succ, i64_w, i32_w]
    rfl
  refine pure_ (i := 18) (N := some 45) (v := ?_) (a' := ?_) #[true, true, true, true, true, true, true, true, true, true, true, true, true, true, true, true, true, true, true, false, false] rfl rfl (by kernel_rfl) (fun _ _ _ h => h) (Or.inl ⟨by rfl, ?_⟩) ?_ ?_
  rotate_left
  · intro w'
    go_simp
    with_reducible rfl
  rotate_left
  · simp only [Act.put, List.setIfInBounds_toArray, List.set_cons_zero, List.set_cons_succ, i64_w, i32_w]
    rfl
  refine pure_ (i := 19) (N := some 46) (v := ?_) (a' := ?_) #[true, true, true, true, true, true, true, true, true, true, true, true, true, true, true, true, true, true, true, true, false] rfl rfl (by kernel_rfl) (fun _ _ _ h => h) (Or.inl ⟨by rfl, ?_⟩) ?_ ?_
  rotate_left
  · intro w'
    go_simp
    with_reducible rfl
  rotate_left
  · simp only [Act.put, List.setIfInBounds_toArray, List.set_cons_zero, List.set_cons_succ, i64_w, i32_w]
    rfl
  refine pure_ (i := 20) (N := some 6) (v := ?_) (a' := ?_) #[true, true, true, true, true, true, true, true, true, true, true, true, true, true, true, true, true, true, true, true, true] rfl rfl (by kernel_rfl) (fun _ _ _ h => h) (Or.inl ⟨by rfl, ?_⟩) ?_ ?_
  rotate_left
  · intro w'
    go_simp
    with_reducible rfl
  rotate_left
  · simp only [Act.put, List.setIfInBounds_toArray, List.set_cons_zero, List.set_cons_succ, i64_w, i32_w]
    rfl
  refine done_ (by kernel_rfl) ?_
  have HB9 := Aside0.mk (below_step BB.out hHeld)
  go_wp2
  go_ret
  exact ⟨rfl, HB9.out⟩
end Go.Proofs.Ytifnfnoicinbaaa.M
