/- The example at the head of each statement: sane. -/
import Derived.Test.YtifnfnoicinbaaaD1
import Derived.Test.YtifnfnoicinbaaaF44
import Derived.Test.YtifnfnoicinbaaaF30
namespace Go.Proofs.Ytifnfnoicinbaaa.M
open Go.RowKit Go.Proofs.YtifnfnoicinbaaaW.PrintWords Go.Proofs.YtifnfnoicinbaaaW.PrintLast Go.Proofs.YtifnfnoicinbaaaW.PrintMore
set_option linter.unusedVariables false
set_option linter.unusedSimpArgs false
set_option linter.unnecessarySimpa false

theorem on_calls (h f m : Int) (x : Bool) (w : World) : Calls Try.prog 44 #[.int .i64 h, .int .i64 f, .int .i64 m, .bool x] w fun e w' => e = .returned (.agg #[.int .i64 0, .int .i64 h, .int .i64 f, .int .i64 m, .bool x]) ∧ Below w.heap.size w w' :=
  archivoltlaw31_on.calls h f m x 0 h f m x w rfl
theorem two_far' {w4 : World} {b c t : Nat} {cs : Array Value} (a1 a2 : Value) (h : w4.heap[c]? = some (.cells cs t (0, 0))) (hne : c ≠ b) : ((w4.setCell ⟨b, 0, none⟩ a1).setCell ⟨b, 1, none⟩ a2).heap[c]? = some (.cells cs t (0, 0)) :=
  blk_far (blk_far h (p := ⟨b, 0, none⟩) hne a1) (p := ⟨b, 1, none⟩) hne a2
theorem C_ints {w : World} {g : Nat} {L : List Int} (hb : w.heap[g]? = some (.cells (L.map (Value.int .i64)).toArray 3 (0, 0))) (hl : L.length ≤ 1000) : kI.C w (some ⟨g, 0, none⟩) L.length L := by
  have hk : w.ownsRow 0 3 1 (.slice (some ⟨g, 0, none⟩) L.length L.length) L.length (encs (Value.int .i64) L) := by
    rw [encs_map]
    exact ⟨by simp, .inr ⟨g, L.length, _, rfl, Nat.zero_le _, hb, Nat.le_refl _, by unfold maxLen; omega, by simp, by rw [Nat.mul_one, List.take_of_length_le (by simp)]⟩⟩
  have hr : kI.R 3 w 0 (fun _ => True) (.slice (some ⟨g, 0, none⟩) L.length L.length) L := Kd.R_of_own hk (fun _ _ => trivial)
  exact (Kd.R_reads' hr).2.2
theorem same_calls (A0 : Option Addr) (c0 : Nat) (L : List Int) (g : Nat) (w : World) (h0 : kI.C w A0 L.length L) (hc : L.length ≤ c0) (hl : L.length ≤ 1000) (hb : w.heap[g]? = some (.cells (L.map (Value.int .i64)).toArray 3 (0, 0))) (hf : archivoltref31_SameInts.f 10 L L = some true) :
    Calls Try.prog 30 #[.slice A0 L.length c0, .slice (some ⟨g, 0, none⟩) L.length L.length] w fun e w' => e = .returned (.bool true) ∧ Below w.heap.size w w' := by
  refine (archivoltref31_SameInts.calls 10 A0 c0 L (some ⟨g, 0, none⟩) L.length L true w h0 hc (C_ints hb hl) (Nat.le_refl _) hf).mono ?_
  rintro e w' ⟨rfl, hd⟩
  exact ⟨rfl, hd.below⟩
set_option maxRecDepth 100000 in
set_option maxHeartbeats 2000000 in
theorem sane_calls (w : World) : Calls Try.prog 15 #[] w fun e w' => e = .returned (.bool true) ∧ Below w.heap.size w w' := by
  obtain ⟨H0, hH0⟩ : ∃ H0 : List S24, H0 = [] := ⟨_, rfl⟩
  obtain ⟨H1, hH1⟩ : ∃ H1, H1 = [L1] := ⟨_, rfl⟩
  obtain ⟨W3, hW3⟩ : ∃ W3, W3 = [L3] := ⟨_, rfl⟩
  obtain ⟨W4, hW4⟩ : ∃ W4, W4 = [L3, L4] := ⟨_, rfl⟩
  obtain ⟨W6, hW6⟩ : ∃ W6, W6 = [L4] := ⟨_, rfl⟩
  obtain ⟨LB, hLB⟩ : ∃ LB : List Int, LB = [1, 3] := ⟨_, rfl⟩
  obtain ⟨G6, hG6⟩ : ∃ G6 : List Int, G6 = [3] := ⟨_, rfl⟩
  obtain ⟨G7, hG7⟩ : ∃ G7 : List Int, G7 = [4] := ⟨_, rfl⟩
  have F1 := Aside0.mk (show tryF [] [] L1 = ((H1, H0), 0) by rw [hH0, hH1]; exact ex1)
  have F2 := Aside0.mk (show tryF H1 H0 L2 = ((H0, H0), 15) by rw [hH0, hH1]; exact ex2)
  have F3 := Aside0.mk (show askF H1 H0 L3 = ((H1, W3, [], []), 0) by rw [hH0, hH1, hW3]; exact ex3)
  have F4 := Aside0.mk (show askF H1 W3 L4 = ((H1, W4, [], []), 0) by rw [hH1, hW3, hW4]; exact ex4)
  have F5 := Aside0.mk (show blocksF H1 W4 4 = (LB, 0) by rw [hH1, hW4, hLB]; exact ex5')
  have F6 := Aside0.mk (show unlockF H1 W4 L1 = ((W3, W6, G6, []), 0) by rw [hH1, hW4, hW3, hW6, hG6]; exact ex6)
  have F7 := Aside0.mk (show closeF W3 W6 3 = ((W6, H0, G7, []), 0) by rw [hW3, hW6, hH0, hG7]; exact ex7)
  have F8 := Aside0.mk (show mayF W3 W6 L5 = 15 by rw [hW3, hW6]; exact ex8)
  have LN := Aside0.mk (show H0.length = 0 ∧ H1.length = 1 ∧ W3.length = 1 ∧ W4.length = 2 ∧ W6.length = 1 by rw [hH0, hH1, hW3, hW4, hW6]; exact ⟨rfl, rfl, rfl, rfl, rfl⟩)
  have EB := Aside0.mk hLB
  have E6 := Aside0.mk hG6
  have E7 := Aside0.mk hG7
  clear hH0 hH1 hW3 hW4 hW6 hLB hG6 hG7
  go_enter Try.func15, Try.ntmps15
  go_upto_region 2 with (first | ((with_reducible refine gate_dst (N := 16) rfl ?_); refine goesL_ (some 16) rfl rfl Try.func44 (by kernel_rfl) rfl #[.int .i64 1, .int .i64 0, .int .i64 10, .bool true] rfl (by (try simp only [List.map_toArray, List.map_cons, List.map_nil]); first | done | rfl) ?_; refine (on_calls _ _ _ _ _).mono ?_; rintro e wa ⟨rfl, hb⟩; refine ⟨_, rfl, ?_⟩; have B := Aside0.mk hb; clear hb) | ((with_reducible refine gate_dst (N := 17) rfl ?_); refine goesL_ (some 17) rfl rfl Try.func21 (by kernel_rfl) rfl #[.agg #[.slice none 0 0, .slice none 0 0], .agg #[.int .i64 L1.f0, .int .i64 L1.f1, .int .i64 L1.f2, .int .i64 L1.f3, .bool L1.f4]] rfl (by (try simp only [List.map_toArray, List.map_cons, List.map_nil]); first | done | rfl) ?_; refine (tryL_calls none none 0 0 [] [] L1 _ (Kd.R_reads' (Kd.R_nil k24 24 _ 0 (fun _ => True))).2.2 (Kd.R_reads' (Kd.R_nil k24 24 _ 0 (fun _ => True))).2.2 (by decide)).mono ?_; rintro e wb hp; rw [F1.out] at hp; obtain ⟨v, rfl, ⟨vH, vW, rfl, hvH, hvW⟩, hb⟩ := hp; dsimp only at hvH hvW; obtain ⟨A1, c1, rfl⟩ := Kd.R_slice hvH; obtain ⟨A2, c2, rfl⟩ := Kd.R_slice hvW; refine ⟨_, rfl, ?_⟩; have RH := Aside0.mk (Kd.R_lower hvH B.out.size); have RW := Aside0.mk (Kd.R_lower hvW B.out.size); have B := Aside0.mk (below_step B.out hb); clear hb hvH hvW))
  have hbx := below_alloc (Below.refl _ wb) (.cells #[.slice A1 H1.length c1, .slice A2 H0.length c2] 29)
  have T := Aside0.mk (blk_new wb (.cells #[.slice A1 H1.length c1, .slice A2 H0.length c2] 29))
  have LB1 := Aside0.mk B.out.size
  have B := Aside0.mk (below_step B.out hbx)
  have RH := Aside0.mk (Kd.R_below RH.out hbx)
  have RW := Aside0.mk (Kd.R_below RW.out hbx)
  clear hbx
  generalize wb.alloc (.cells #[.slice A1 H1.length c1, .slice A2 H0.length c2] 29) = w1 at T B RH RW ⊢
  generalize wb.heap.size = b1 at T LB1 ⊢
  -- region 2
  refine start_ (n := 9) (S := fun w' => w'.cell? ⟨b1, 0, none⟩ = some (.slice A1 H1.length c1) ∧ w'.cell? ⟨b1, 1, none⟩ = some (.slice A2 H0.length c2)) (ds := [7]) #[false, false, false, false, false, false, false, false, false] (by kernel_rfl) rfl rfl ⟨(blk_cell (blk_drew T.out) 0).trans rfl, (blk_cell (blk_drew T.out) 1).trans rfl⟩ (fun hHeld => ?_)
  have hbd := below_drew1 (Below.refl w1.heap.size w1)
  have B := Aside0.mk (below_step B.out (hbd))
  have T := Aside0.mk (blk_below T.out (hbd))
  have RH := Aside0.mk (Kd.R_below RH.out (hbd))
  have RW := Aside0.mk (Kd.R_below RW.out (hbd))
  clear hbd
  generalize w1.drew = wd at B T RH RW hHeld ⊢
  have CH := Aside0.mk (Kd.R_reads' RH.out).2.2
  have CW := Aside0.mk (Kd.R_reads' RW.out).2.2
  have TT := T
  refine take_ (i := 0) (N := some 21) (v := ?_) (a' := ?_) #[true, false, false, false, false, false, false, false, false] rfl rfl (by kernel_rfl) (fun _ _ _ h => h) (Or.inl ⟨by rfl, ?_⟩) hHeld ?_ ?_
  rotate_left
  · rintro w' ⟨s0, s1⟩
    go_simp
    with_reducible rfl
  rotate_left
  · simp only [Act.put, List.setIfInBounds_toArray, List.set_cons_zero, List.set_cons_succ, i64_w, i32_w]
    rfl
  skip
  refine join_ (σ := Value × Value × Nat) 2 #[true, true, true, true, true, true, true, false, false] (fun s => [(22, .agg #[.int .i64 L2.f0, .int .i64 L2.f1, .int .i64 L2.f2, .int .i64 L2.f3, .bool L2.f4]), (23, .tuple #[s.1, .int .i64 15]), (20, .tuple #[s.1, .int .i64 15]), (24, s.1), (25, .int .i64 15), (3, .pointer (some ⟨s.2.2, 0, none⟩))]) (fun s w' => TabV w' wd.heap.size s.1 H0 H0 ∧ Below wd.heap.size wd w' ∧ wd.heap.size ≤ s.2.2 ∧ w'.heap[s.2.2]? = some (.cells #[.slice none 0 0, .slice none 0 0] 29 (0, 0))) ?cont2 ?orders2
  case orders2 =>
    intro hCont
    refine two_ (i := 1) (j := 6) (Ni := some 22) (Nj := some 3) #[true, true, false, false, false, false, false, false, false] #[true, false, false, false, false, false, true, false, false] rfl rfl rfl rfl (by kernel_rfl) (by decide) (by decide) (fun K hK => ?_) (fun K hK => ?_)
    · refine goes_ Try.func44 (by kernel_rfl) rfl #[.int .i64 2, .int .i64 9, .int .i64 5, .bool false] (by rfl) rfl rfl (by (try simp only [List.map_toArray, List.map_cons, List.map_nil]); first | done | rfl) ?_
      refine (on_calls _ _ _ _ _).mono ?_
      rintro e w3 ⟨rfl, hb⟩
      refine ⟨_, rfl, ?_⟩
      have HB3 := Aside0.mk hb
      clear hb
      skip
      refine hK.out _ _ ⟨(blk_cell (blk_below TT.out HB3.out) 0).trans rfl, (blk_cell (blk_below TT.out HB3.out) 1).trans rfl⟩ (fun hHeld => ?_)
      clear hK K
      refine norm_ (a' := ?_) ?_ ?_
      rotate_left
      · show Act.put _ (some 22) _ = _
        simp only [Act.put, List.setIfInBounds_toArray, List.set_cons_zero, List.set_cons_succ, i64_w, i32_w]
        rfl
      refine two_ (i := 2) (j := 6) (Ni := some 23) (Nj := some 3) #[true, true, true, false, false, false, false, false, false] #[true, true, false, false, false, false, true, false, false] rfl rfl rfl rfl (by kernel_rfl) (by decide) (by decide) (fun K hK => ?_) (fun K hK => ?_)
      · refine goes_ Try.func21 (by kernel_rfl) rfl #[.agg #[.slice A1 H1.length c1, .slice A2 H0.length c2], .agg #[.int .i64 L2.f0, .int .i64 L2.f1, .int .i64 L2.f2, .int .i64 L2.f3, .bool L2.f4]] (by rfl) rfl rfl (by (try simp only [List.map_toArray, List.map_cons, List.map_nil]); first | done | rfl) ?_
        refine (tryL_calls A1 A2 c1 c2 H1 H0 L2 _ (Kd.C_below CH.out HB3.out) (Kd.C_below CW.out HB3.out) (by have := LN.out; omega)).mono ?_
        rintro e w4 hp
        rw [F2.out] at hp
        obtain ⟨v, rfl, hv, hb⟩ := hp
        refine ⟨_, rfl, ?_⟩
        have HTV := Aside0.mk (hv.lower HB3.out.size)
        have HB4 := Aside0.mk (below_step HB3.out hb)
        clear hb
        skip
        refine hK.out _ _ ⟨(blk_cell (blk_below TT.out HB4.out) 0).trans rfl, (blk_cell (blk_below TT.out HB4.out) 1).trans rfl⟩ (fun hHeld => ?_)
        clear hK K
        refine norm_ (a' := ?_) ?_ ?_
        rotate_left
        · show Act.put _ (some 23) _ = _
          simp only [Act.put, List.setIfInBounds_toArray, List.set_cons_zero, List.set_cons_succ, i64_w, i32_w]
          rfl
        refine pure_ (i := 3) (N := some 20) (v := ?_) (a' := ?_) #[true, true, true, true, false, false, false, false, false] rfl rfl (by kernel_rfl) (fun _ _ _ h => h) (Or.inl ⟨by rfl, ?_⟩) ?_ ?_
        rotate_left
        · intro w'
          go_simp
          with_reducible rfl
        rotate_left
        · simp only [Act.put, List.setIfInBounds_toArray, List.set_cons_zero, List.set_cons_succ, i64_w, i32_w]
          rfl
        refine pure_ (i := 4) (N := some 24) (v := ?_) (a' := ?_) #[true, true, true, true, true, false, false, false, false] rfl rfl (by kernel_rfl) (fun _ _ _ h => h) (Or.inl ⟨by rfl, ?_⟩) ?_ ?_
        rotate_left
        · intro w'
          go_simp
          with_reducible rfl
        rotate_left
        · simp only [Act.put, List.setIfInBounds_toArray, List.set_cons_zero, List.set_cons_succ, i64_w, i32_w]
          rfl
        refine pure_ (i := 5) (N := some 25) (v := ?_) (a' := ?_) #[true, true, true, true, true, true, false, false, false] rfl rfl (by kernel_rfl) (fun _ _ _ h => h) (Or.inl ⟨by rfl, ?_⟩) ?_ ?_
        rotate_left
        · intro w'
          go_simp
          with_reducible rfl
        rotate_left
        · simp only [Act.put, List.setIfInBounds_toArray, List.set_cons_zero, List.set_cons_succ, i64_w, i32_w]
          rfl
        refine one_ (i := 6) (N := some 3) #[true, true, true, true, true, true, true, false, false] rfl rfl (by kernel_rfl) (by decide) (fun K hK => ?_)
        refine box_step ?hg (N := 3) ?hd (cs := #[.slice none 0 0, .slice none 0 0]) (t := 29) ?hr ?_
        (case hd => rfl)
        (case hg => rfl)
        (case hr => first | (go_simp; done) | (go_simp; rfl))
        intro g hg w5 hbox hb
        have HBX := Aside0.mk hbox
        have HGE := Aside0.mk hg
        have HB5 := Aside0.mk (below_step HB4.out hb)
        refine hK.out _ _ ⟨(blk_cell (blk_below TT.out HB5.out) 0).trans rfl, (blk_cell (blk_below TT.out HB5.out) 1).trans rfl⟩ (fun hHeld => ?_)
        clear hK K
        refine norm_ ?_ (hCont (v, .agg #[], g) w5 ⟨HTV.out.below hb, HB5.out, (show wd.heap.size ≤ g by have := HB4.out.size; omega), HBX.out⟩)
        rfl
      · refine box_step ?hg (N := 3) ?hd (cs := #[.slice none 0 0, .slice none 0 0]) (t := 29) ?hr ?_
        (case hd => rfl)
        (case hg => rfl)
        (case hr => first | (go_simp; done) | (go_simp; rfl))
        intro g hg w4 hbox hb
        have HBX := Aside0.mk hbox
        have HGE := Aside0.mk hg
        have HB4 := Aside0.mk (below_step HB3.out hb)
        clear hb
        skip
        refine hK.out _ _ ⟨(blk_cell (blk_below TT.out HB4.out) 0).trans rfl, (blk_cell (blk_below TT.out HB4.out) 1).trans rfl⟩ (fun hHeld => ?_)
        clear hK K
        refine norm_ (a' := ?_) ?_ ?_
        rotate_left
        · show Act.put _ (some 3) _ = _
          simp only [Act.put, List.setIfInBounds_toArray, List.set_cons_zero, List.set_cons_succ, i64_w, i32_w]
          rfl
        refine one_ (i := 2) (N := some 23) #[true, true, true, false, false, false, true, false, false] rfl rfl (by kernel_rfl) (by decide) (fun K hK => ?_)
        refine goes_ Try.func21 (by kernel_rfl) rfl #[.agg #[.slice A1 H1.length c1, .slice A2 H0.length c2], .agg #[.int .i64 L2.f0, .int .i64 L2.f1, .int .i64 L2.f2, .int .i64 L2.f3, .bool L2.f4]] (by rfl) rfl rfl (by (try simp only [List.map_toArray, List.map_cons, List.map_nil]); first | done | rfl) ?_
        refine (tryL_calls A1 A2 c1 c2 H1 H0 L2 _ (Kd.C_below CH.out HB4.out) (Kd.C_below CW.out HB4.out) (by have := LN.out; omega)).mono ?_
        rintro e w5 hp
        rw [F2.out] at hp
        obtain ⟨v, rfl, hv, hb⟩ := hp
        refine ⟨_, rfl, ?_⟩
        have HTV := Aside0.mk (hv.lower HB4.out.size)
        have HB5 := Aside0.mk (below_step HB4.out hb)
        have HBX := Aside0.mk (blk_below HBX.out hb)
        clear hb
        refine hK.out _ _ ⟨(blk_cell (blk_below TT.out HB5.out) 0).trans rfl, (blk_cell (blk_below TT.out HB5.out) 1).trans rfl⟩ (fun hHeld => ?_)
        clear hK K
        refine norm_ (a' := ?_) ?_ ?_
        rotate_left
        · show Act.put _ (some 23) _ = _
          simp only [Act.put, List.setIfInBounds_toArray, List.set_cons_zero, List.set_cons_succ, i64_w, i32_w]
          rfl
        refine pure_ (i := 3) (N := some 20) (v := ?_) (a' := ?_) #[true, true, true, true, false, false, true, false, false] rfl rfl (by kernel_rfl) (fun _ _ _ h => h) (Or.inl ⟨by rfl, ?_⟩) ?_ ?_
        rotate_left
        · intro w'
          go_simp
          with_reducible rfl
        rotate_left
        · simp only [Act.put, List.setIfInBounds_toArray, List.set_cons_zero, List.set_cons_succ, i64_w, i32_w]
          rfl
        refine pure_ (i := 4) (N := some 24) (v := ?_) (a' := ?_) #[true, true, true, true, true, false, true, false, false] rfl rfl (by kernel_rfl) (fun _ _ _ h => h) (Or.inl ⟨by rfl, ?_⟩) ?_ ?_
        rotate_left
        · intro w'
          go_simp
          with_reducible rfl
        rotate_left
        · simp only [Act.put, List.setIfInBounds_toArray, List.set_cons_zero, List.set_cons_succ, i64_w, i32_w]
          rfl
        refine pure_ (i := 5) (N := some 25) (v := ?_) (a' := ?_) #[true, true, true, true, true, true, true, false, false] rfl rfl (by kernel_rfl) (fun _ _ _ h => h) (Or.inl ⟨by rfl, ?_⟩) ?_ ?_
        rotate_left
        · intro w'
          go_simp
          with_reducible rfl
        rotate_left
        · simp only [Act.put, List.setIfInBounds_toArray, List.set_cons_zero, List.set_cons_succ, i64_w, i32_w]
          rfl
        refine norm_ ?_ (hCont (v, .agg #[], g) w5 ⟨HTV.out, HB5.out, (show wd.heap.size ≤ g by have := HB3.out.size; omega), HBX.out⟩)
        rfl
    · refine box_step ?hg (N := 3) ?hd (cs := #[.slice none 0 0, .slice none 0 0]) (t := 29) ?hr ?_
      (case hd => rfl)
      (case hg => rfl)
      (case hr => first | (go_simp; done) | (go_simp; rfl))
      intro g hg w3 hbox hb
      have HBX := Aside0.mk hbox
      have HGE := Aside0.mk hg
      have HB3 := Aside0.mk hb
      clear hb
      skip
      refine hK.out _ _ ⟨(blk_cell (blk_below TT.out HB3.out) 0).trans rfl, (blk_cell (blk_below TT.out HB3.out) 1).trans rfl⟩ (fun hHeld => ?_)
      clear hK K
      refine norm_ (a' := ?_) ?_ ?_
      rotate_left
      · show Act.put _ (some 3) _ = _
        simp only [Act.put, List.setIfInBounds_toArray, List.set_cons_zero, List.set_cons_succ, i64_w, i32_w]
        rfl
      refine one_ (i := 1) (N := some 22) #[true, true, false, false, false, false, true, false, false] rfl rfl (by kernel_rfl) (by decide) (fun K hK => ?_)
      refine goes_ Try.func44 (by kernel_rfl) rfl #[.int .i64 2, .int .i64 9, .int .i64 5, .bool false] (by rfl) rfl rfl (by (try simp only [List.map_toArray, List.map_cons, List.map_nil]); first | done | rfl) ?_
      refine (on_calls _ _ _ _ _).mono ?_
      rintro e w4 ⟨rfl, hb⟩
      refine ⟨_, rfl, ?_⟩
      have HB4 := Aside0.mk (below_step HB3.out hb)
      have HBX := Aside0.mk (blk_below HBX.out hb)
      clear hb
      refine hK.out _ _ ⟨(blk_cell (blk_below TT.out HB4.out) 0).trans rfl, (blk_cell (blk_below TT.out HB4.out) 1).trans rfl⟩ (fun hHeld => ?_)
      clear hK K
      refine norm_ (a' := ?_) ?_ ?_
      rotate_left
      · show Act.put _ (some 22) _ = _
        simp only [Act.put, List.setIfInBounds_toArray, List.set_cons_zero, List.set_cons_succ, i64_w, i32_w]
        rfl
      refine one_ (i := 2) (N := some 23) #[true, true, true, false, false, false, true, false, false] rfl rfl (by kernel_rfl) (by decide) (fun K hK => ?_)
      refine goes_ Try.func21 (by kernel_rfl) rfl #[.agg #[.slice A1 H1.length c1, .slice A2 H0.length c2], .agg #[.int .i64 L2.f0, .int .i64 L2.f1, .int .i64 L2.f2, .int .i64 L2.f3, .bool L2.f4]] (by rfl) rfl rfl (by (try simp only [List.map_toArray, List.map_cons, List.map_nil]); first | done | rfl) ?_
      refine (tryL_calls A1 A2 c1 c2 H1 H0 L2 _ (Kd.C_below CH.out HB4.out) (Kd.C_below CW.out HB4.out) (by have := LN.out; omega)).mono ?_
      rintro e w5 hp
      rw [F2.out] at hp
      obtain ⟨v, rfl, hv, hb⟩ := hp
      refine ⟨_, rfl, ?_⟩
      have HTV := Aside0.mk (hv.lower HB4.out.size)
      have HB5 := Aside0.mk (below_step HB4.out hb)
      have HBX := Aside0.mk (blk_below HBX.out hb)
      clear hb
      refine hK.out _ _ ⟨(blk_cell (blk_below TT.out HB5.out) 0).trans rfl, (blk_cell (blk_below TT.out HB5.out) 1).trans rfl⟩ (fun hHeld => ?_)
      clear hK K
      refine norm_ (a' := ?_) ?_ ?_
      rotate_left
      · show Act.put _ (some 23) _ = _
        simp only [Act.put, List.setIfInBounds_toArray, List.set_cons_zero, List.set_cons_succ, i64_w, i32_w]
        rfl
      refine pure_ (i := 3) (N := some 20) (v := ?_) (a' := ?_) #[true, true, true, true, false, false, true, false, false] rfl rfl (by kernel_rfl) (fun _ _ _ h => h) (Or.inl ⟨by rfl, ?_⟩) ?_ ?_
      rotate_left
      · intro w'
        go_simp
        with_reducible rfl
      rotate_left
      · simp only [Act.put, List.setIfInBounds_toArray, List.set_cons_zero, List.set_cons_succ, i64_w, i32_w]
        rfl
      refine pure_ (i := 4) (N := some 24) (v := ?_) (a' := ?_) #[true, true, true, true, true, false, true, false, false] rfl rfl (by kernel_rfl) (fun _ _ _ h => h) (Or.inl ⟨by rfl, ?_⟩) ?_ ?_
      rotate_left
      · intro w'
        go_simp
        with_reducible rfl
      rotate_left
      · simp only [Act.put, List.setIfInBounds_toArray, List.set_cons_zero, List.set_cons_succ, i64_w, i32_w]
        rfl
      refine pure_ (i := 5) (N := some 25) (v := ?_) (a' := ?_) #[true, true, true, true, true, true, true, false, false] rfl rfl (by kernel_rfl) (fun _ _ _ h => h) (Or.inl ⟨by rfl, ?_⟩) ?_ ?_
      rotate_left
      · intro w'
        go_simp
        with_reducible rfl
      rotate_left
      · simp only [Act.put, List.setIfInBounds_toArray, List.set_cons_zero, List.set_cons_succ, i64_w, i32_w]
        rfl
      refine norm_ ?_ (hCont (v, .agg #[], g) w5 ⟨HTV.out, HB5.out, (show wd.heap.size ≤ g by omega), HBX.out⟩)
      rfl
  case cont2 =>
  rintro ⟨v, u, g⟩ w6 ⟨hv, hb, hg, hbox⟩
  dsimp only at hv hg hbox
  obtain ⟨vH, vW, rfl, hvH, hvW⟩ := hv
  simp only [putAll, Act.put, List.setIfInBounds_toArray, List.set_cons_zero, List.set_cons_succ]
  obtain ⟨A3_2, c3_2, rfl⟩ := Kd.R_slice hvH
  obtain ⟨A4_2, c4_2, rfl⟩ := Kd.R_slice hvW
  have HLE := Aside0.mk B.out.size
  have HLT := Aside0.mk (show b1 < wd.heap.size from blk_lt TT.out)
  have B := Aside0.mk (below_step B.out (hb))
  have T := Aside0.mk (blk_below T.out (hb))
  have RH := Aside0.mk (Kd.R_below RH.out (hb))
  have RW := Aside0.mk (Kd.R_below RW.out (hb))
  have GX := Aside0.mk hbox
  have HGG := Aside0.mk hg
  clear hb hbox hg hvH hvW CH CW TT hHeld
  have z0 := (blk_cell GX.out 0).trans rfl; have z1 := (blk_cell GX.out 1).trans rfl
  have fz0 := blk_frozen GX.out 0; have fz1 := blk_frozen GX.out 1
  refine last_ (i := 7) (N := none) #[true, true, true, true, true, true, true, true, false] rfl rfl (by kernel_rfl) (by decide) (fun K hK => ?_)
  refine skip_ (w1 := ?_) (by rfl) rfl ?_ ?_
  rotate_left
  · go_simp
    rfl
  refine hK.out _ _ ?_
  clear hK K z0 z1 fz0 fz1
  have P_ := Aside0.mk (put_two (n := w.heap.size) (w := w) (.slice A3_2 H0.length c3_2) (.slice A4_2 H0.length c4_2) GX.out B.out (by have h1 := HLE.out; have h2 := HGG.out; omega))
  have T_ := Aside0.mk (two_far' (.slice A3_2 H0.length c3_2) (.slice A4_2 H0.length c4_2) T.out (show b1 ≠ g by have h1 := HLT.out; have h2 := HGG.out; omega))
  have RH_ := Aside0.mk (R_two (.slice A3_2 H0.length c3_2) (.slice A4_2 H0.length c4_2) RH.out GX.out (by decide))
  have RW_ := Aside0.mk (R_two (.slice A3_2 H0.length c3_2) (.slice A4_2 H0.length c4_2) RW.out GX.out (by decide))
  have B_ := Aside0.mk P_.out.2
  clear P_ B T RH RW
  generalize ((w6).setCell ⟨g, 0, none⟩ (.slice A3_2 H0.length c3_2)).setCell ⟨g, 1, none⟩ (.slice A4_2 H0.length c4_2) = w2 at B_ T_ RH_ RW_ ⊢
  have B := B_
  have T := T_
  have RH := RH_
  have RW := RW_
  clear B_ T_ RH_ RW_
  skip
  refine pure_ (i := 8) (N := some 4) (v := ?_) (a' := ?_) #[true, true, true, true, true, true, true, true, true] rfl rfl (by kernel_rfl) (fun _ _ _ h => h) (Or.inl ⟨by rfl, ?_⟩) ?_ ?_
  rotate_left
  · intro w'
    go_simp
    with_reducible rfl
  rotate_left
  · simp only [Act.put, List.setIfInBounds_toArray, List.set_cons_zero, List.set_cons_succ, i64_w, i32_w]
    rfl
  refine done_ (by kernel_rfl) ?_
  clear GX HLE HLT HGG
  go_upto_region 3 with (fail)
  -- region 3
  refine start_ (n := 11) (S := fun w' => w'.cell? ⟨b1, 0, none⟩ = some (.slice A1 H1.length c1) ∧ w'.cell? ⟨b1, 1, none⟩ = some (.slice A2 H0.length c2)) (ds := [8, 9]) #[false, false, false, false, false, false, false, false, false, false, false] (by kernel_rfl) rfl rfl ⟨(blk_cell (blk_drew T.out) 0).trans rfl, (blk_cell (blk_drew T.out) 1).trans rfl⟩ (fun hHeld => ?_)
  have hbd := below_drew1 (Below.refl w2.heap.size w2)
  have B := Aside0.mk (below_step B.out (hbd))
  have T := Aside0.mk (blk_below T.out (hbd))
  have RH := Aside0.mk (Kd.R_below RH.out (hbd))
  have RW := Aside0.mk (Kd.R_below RW.out (hbd))
  clear hbd
  generalize w2.drew = wd at B T RH RW hHeld ⊢
  have CH := Aside0.mk (Kd.R_reads' RH.out).2.2
  have CW := Aside0.mk (Kd.R_reads' RW.out).2.2
  have TT := T
  refine take_ (i := 0) (N := some 27) (v := ?_) (a' := ?_) #[true, false, false, false, false, false, false, false, false, false, false] rfl rfl (by kernel_rfl) (fun _ _ _ h => h) (Or.inl ⟨by rfl, ?_⟩) hHeld ?_ ?_
  rotate_left
  · rintro w' ⟨s0, s1⟩
    go_simp
    with_reducible rfl
  rotate_left
  · simp only [Act.put, List.setIfInBounds_toArray, List.set_cons_zero, List.set_cons_succ, i64_w, i32_w]
    rfl
  skip
  refine join_ (σ := Value × Value × Nat) 3 #[true, true, true, true, true, true, true, true, false, false, false] (fun s => [(28, .agg #[.int .i64 L3.f0, .int .i64 L3.f1, .int .i64 L3.f2, .int .i64 L3.f3, .bool L3.f4]), (29, .tuple #[s.1, s.2.1, .int .i64 0]), (26, .tuple #[s.1, s.2.1, .int .i64 0]), (30, s.1), (31, s.2.1), (32, .int .i64 0), (5, .pointer (some ⟨s.2.2, 0, none⟩))]) (fun s w' => TabV w' wd.heap.size s.1 H1 W3 ∧ NewsV w' wd.heap.size s.2.1 [] [] ∧ Below wd.heap.size wd w' ∧ wd.heap.size ≤ s.2.2 ∧ w'.heap[s.2.2]? = some (.cells #[.slice none 0 0, .slice none 0 0] 33 (0, 0))) ?cont3 ?orders3
  case orders3 =>
    intro hCont
    refine two_ (i := 1) (j := 7) (Ni := some 28) (Nj := some 5) #[true, true, false, false, false, false, false, false, false, false, false] #[true, false, false, false, false, false, false, true, false, false, false] rfl rfl rfl rfl (by kernel_rfl) (by decide) (by decide) (fun K hK => ?_) (fun K hK => ?_)
    · refine goes_ Try.func44 (by kernel_rfl) rfl #[.int .i64 3, .int .i64 5, .int .i64 1, .bool false] (by rfl) rfl rfl (by (try simp only [List.map_toArray, List.map_cons, List.map_nil]); first | done | rfl) ?_
      refine (on_calls _ _ _ _ _).mono ?_
      rintro e w3 ⟨rfl, hb⟩
      refine ⟨_, rfl, ?_⟩
      have HB3 := Aside0.mk hb
      clear hb
      skip
      refine hK.out _ _ ⟨(blk_cell (blk_below TT.out HB3.out) 0).trans rfl, (blk_cell (blk_below TT.out HB3.out) 1).trans rfl⟩ (fun hHeld => ?_)
      clear hK K
      refine norm_ (a' := ?_) ?_ ?_
      rotate_left
      · show Act.put _ (some 28) _ = _
        simp only [Act.put, List.setIfInBounds_toArray, List.set_cons_zero, List.set_cons_succ, i64_w, i32_w]
        rfl
      refine two_ (i := 2) (j := 7) (Ni := some 29) (Nj := some 5) #[true, true, true, false, false, false, false, false, false, false, false] #[true, true, false, false, false, false, false, true, false, false, false] rfl rfl rfl rfl (by kernel_rfl) (by decide) (by decide) (fun K hK => ?_) (fun K hK => ?_)
      · refine goes_ Try.func18 (by kernel_rfl) rfl #[.agg #[.slice A1 H1.length c1, .slice A2 H0.length c2], .agg #[.int .i64 L3.f0, .int .i64 L3.f1, .int .i64 L3.f2, .int .i64 L3.f3, .bool L3.f4]] (by rfl) rfl rfl (by (try simp only [List.map_toArray, List.map_cons, List.map_nil]); first | done | rfl) ?_
        refine (ask_calls A1 A2 c1 c2 H1 H0 L3 _ (Kd.C_below CH.out HB3.out) (Kd.C_below CW.out HB3.out) (by have := LN.out; omega)).mono ?_
        rintro e w4 hp
        rw [F3.out] at hp
        obtain ⟨v, u, rfl, hv, hu, hb⟩ := hp
        refine ⟨_, rfl, ?_⟩
        have HTV := Aside0.mk (hv.lower HB3.out.size)
        have HNV := Aside0.mk (hu.lower HB3.out.size)
        have HB4 := Aside0.mk (below_step HB3.out hb)
        clear hb
        skip
        refine hK.out _ _ ⟨(blk_cell (blk_below TT.out HB4.out) 0).trans rfl, (blk_cell (blk_below TT.out HB4.out) 1).trans rfl⟩ (fun hHeld => ?_)
        clear hK K
        refine norm_ (a' := ?_) ?_ ?_
        rotate_left
        · show Act.put _ (some 29) _ = _
          simp only [Act.put, List.setIfInBounds_toArray, List.set_cons_zero, List.set_cons_succ, i64_w, i32_w]
          rfl
        refine pure_ (i := 3) (N := some 26) (v := ?_) (a' := ?_) #[true, true, true, true, false, false, false, false, false, false, false] rfl rfl (by kernel_rfl) (fun _ _ _ h => h) (Or.inl ⟨by rfl, ?_⟩) ?_ ?_
        rotate_left
        · intro w'
          go_simp
          with_reducible rfl
        rotate_left
        · simp only [Act.put, List.setIfInBounds_toArray, List.set_cons_zero, List.set_cons_succ, i64_w, i32_w]
          rfl
        refine pure_ (i := 4) (N := some 30) (v := ?_) (a' := ?_) #[true, true, true, true, true, false, false, false, false, false, false] rfl rfl (by kernel_rfl) (fun _ _ _ h => h) (Or.inl ⟨by rfl, ?_⟩) ?_ ?_
        rotate_left
        · intro w'
          go_simp
          with_reducible rfl
        rotate_left
        · simp only [Act.put, List.setIfInBounds_toArray, List.set_cons_zero, List.set_cons_succ, i64_w, i32_w]
          rfl
        refine pure_ (i := 5) (N := some 31) (v := ?_) (a' := ?_) #[true, true, true, true, true, true, false, false, false, false, false] rfl rfl (by kernel_rfl) (fun _ _ _ h => h) (Or.inl ⟨by rfl, ?_⟩) ?_ ?_
        rotate_left
        · intro w'
          go_simp
          with_reducible rfl
        rotate_left
        · simp only [Act.put, List.setIfInBounds_toArray, List.set_cons_zero, List.set_cons_succ, i64_w, i32_w]
          rfl
        refine pure_ (i := 6) (N := some 32) (v := ?_) (a' := ?_) #[true, true, true, true, true, true, true, false, false, false, false] rfl rfl (by kernel_rfl) (fun _ _ _ h => h) (Or.inl ⟨by rfl, ?_⟩) ?_ ?_
        rotate_left
        · intro w'
          go_simp
          with_reducible rfl
        rotate_left
        · simp only [Act.put, List.setIfInBounds_toArray, List.set_cons_zero, List.set_cons_succ, i64_w, i32_w]
          rfl
        refine one_ (i := 7) (N := some 5) #[true, true, true, true, true, true, true, true, false, false, false] rfl rfl (by kernel_rfl) (by decide) (fun K hK => ?_)
        refine box_step ?hg (N := 5) ?hd (cs := #[.slice none 0 0, .slice none 0 0]) (t := 33) ?hr ?_
        (case hd => rfl)
        (case hg => rfl)
        (case hr => first | (go_simp; done) | (go_simp; rfl))
        intro g hg w5 hbox hb
        have HBX := Aside0.mk hbox
        have HGE := Aside0.mk hg
        have HB5 := Aside0.mk (below_step HB4.out hb)
        refine hK.out _ _ ⟨(blk_cell (blk_below TT.out HB5.out) 0).trans rfl, (blk_cell (blk_below TT.out HB5.out) 1).trans rfl⟩ (fun hHeld => ?_)
        clear hK K
        refine norm_ ?_ (hCont (v, u, g) w5 ⟨HTV.out.below hb, HNV.out.below hb, HB5.out, (show wd.heap.size ≤ g by have := HB4.out.size; omega), HBX.out⟩)
        rfl
      · refine box_step ?hg (N := 5) ?hd (cs := #[.slice none 0 0, .slice none 0 0]) (t := 33) ?hr ?_
        (case hd => rfl)
        (case hg => rfl)
        (case hr => first | (go_simp; done) | (go_simp; rfl))
        intro g hg w4 hbox hb
        have HBX := Aside0.mk hbox
        have HGE := Aside0.mk hg
        have HB4 := Aside0.mk (below_step HB3.out hb)
        clear hb
        skip
        refine hK.out _ _ ⟨(blk_cell (blk_below TT.out HB4.out) 0).trans rfl, (blk_cell (blk_below TT.out HB4.out) 1).trans rfl⟩ (fun hHeld => ?_)
        clear hK K
        refine norm_ (a' := ?_) ?_ ?_
        rotate_left
        · show Act.put _ (some 5) _ = _
          simp only [Act.put, List.setIfInBounds_toArray, List.set_cons_zero, List.set_cons_succ, i64_w, i32_w]
          rfl
        refine one_ (i := 2) (N := some 29) #[true, true, true, false, false, false, false, true, false, false, false] rfl rfl (by kernel_rfl) (by decide) (fun K hK => ?_)
        refine goes_ Try.func18 (by kernel_rfl) rfl #[.agg #[.slice A1 H1.length c1, .slice A2 H0.length c2], .agg #[.int .i64 L3.f0, .int .i64 L3.f1, .int .i64 L3.f2, .int .i64 L3.f3, .bool L3.f4]] (by rfl) rfl rfl (by (try simp only [List.map_toArray, List.map_cons, List.map_nil]); first | done | rfl) ?_
        refine (ask_calls A1 A2 c1 c2 H1 H0 L3 _ (Kd.C_below CH.out HB4.out) (Kd.C_below CW.out HB4.out) (by have := LN.out; omega)).mono ?_
        rintro e w5 hp
        rw [F3.out] at hp
        obtain ⟨v, u, rfl, hv, hu, hb⟩ := hp
        refine ⟨_, rfl, ?_⟩
        have HTV := Aside0.mk (hv.lower HB4.out.size)
        have HNV := Aside0.mk (hu.lower HB4.out.size)
        have HB5 := Aside0.mk (below_step HB4.out hb)
        have HBX := Aside0.mk (blk_below HBX.out hb)
        clear hb
        refine hK.out _ _ ⟨(blk_cell (blk_below TT.out HB5.out) 0).trans rfl, (blk_cell (blk_below TT.out HB5.out) 1).trans rfl⟩ (fun hHeld => ?_)
        clear hK K
        refine norm_ (a' := ?_) ?_ ?_
        rotate_left
        · show Act.put _ (some 29) _ = _
          simp only [Act.put, List.setIfInBounds_toArray, List.set_cons_zero, List.set_cons_succ, i64_w, i32_w]
          rfl
        refine pure_ (i := 3) (N := some 26) (v := ?_) (a' := ?_) #[true, true, true, true, false, false, false, true, false, false, false] rfl rfl (by kernel_rfl) (fun _ _ _ h => h) (Or.inl ⟨by rfl, ?_⟩) ?_ ?_
        rotate_left
        · intro w'
          go_simp
          with_reducible rfl
        rotate_left
        · simp only [Act.put, List.setIfInBounds_toArray, List.set_cons_zero, List.set_cons_succ, i64_w, i32_w]
          rfl
        refine pure_ (i := 4) (N := some 30) (v := ?_) (a' := ?_) #[true, true, true, true, true, false, false, true, false, false, false] rfl rfl (by kernel_rfl) (fun _ _ _ h => h) (Or.inl ⟨by rfl, ?_⟩) ?_ ?_
        rotate_left
        · intro w'
          go_simp
          with_reducible rfl
        rotate_left
        · simp only [Act.put, List.setIfInBounds_toArray, List.set_cons_zero, List.set_cons_succ, i64_w, i32_w]
          rfl
        refine pure_ (i := 5) (N := some 31) (v := ?_) (a' := ?_) #[true, true, true, true, true, true, false, true, false, false, false] rfl rfl (by kernel_rfl) (fun _ _ _ h => h) (Or.inl ⟨by rfl, ?_⟩) ?_ ?_
        rotate_left
        · intro w'
          go_simp
          with_reducible rfl
        rotate_left
        · simp only [Act.put, List.setIfInBounds_toArray, List.set_cons_zero, List.set_cons_succ, i64_w, i32_w]
          rfl
        refine pure_ (i := 6) (N := some 32) (v := ?_) (a' := ?_) #[true, true, true, true, true, true, true, true, false, false, false] rfl rfl (by kernel_rfl) (fun _ _ _ h => h) (Or.inl ⟨by rfl, ?_⟩) ?_ ?_
        rotate_left
        · intro w'
          go_simp
          with_reducible rfl
        rotate_left
        · simp only [Act.put, List.setIfInBounds_toArray, List.set_cons_zero, List.set_cons_succ, i64_w, i32_w]
          rfl
        refine norm_ ?_ (hCont (v, u, g) w5 ⟨HTV.out, HNV.out, HB5.out, (show wd.heap.size ≤ g by have := HB3.out.size; omega), HBX.out⟩)
        rfl
    · refine box_step ?hg (N := 5) ?hd (cs := #[.slice none 0 0, .slice none 0 0]) (t := 33) ?hr ?_
      (case hd => rfl)
      (case hg => rfl)
      (case hr => first | (go_simp; done) | (go_simp; rfl))
      intro g hg w3 hbox hb
      have HBX := Aside0.mk hbox
      have HGE := Aside0.mk hg
      have HB3 := Aside0.mk hb
      clear hb
      skip
      refine hK.out _ _ ⟨(blk_cell (blk_below TT.out HB3.out) 0).trans rfl, (blk_cell (blk_below TT.out HB3.out) 1).trans rfl⟩ (fun hHeld => ?_)
      clear hK K
      refine norm_ (a' := ?_) ?_ ?_
      rotate_left
      · show Act.put _ (some 5) _ = _
        simp only [Act.put, List.setIfInBounds_toArray, List.set_cons_zero, List.set_cons_succ, i64_w, i32_w]
        rfl
      refine one_ (i := 1) (N := some 28) #[true, true, false, false, false, false, false, true, false, false, false] rfl rfl (by kernel_rfl) (by decide) (fun K hK => ?_)
      refine goes_ Try.func44 (by kernel_rfl) rfl #[.int .i64 3, .int .i64 5, .int .i64 1, .bool false] (by rfl) rfl rfl (by (try simp only [List.map_toArray, List.map_cons, List.map_nil]); first | done | rfl) ?_
      refine (on_calls _ _ _ _ _).mono ?_
      rintro e w4 ⟨rfl, hb⟩
      refine ⟨_, rfl, ?_⟩
      have HB4 := Aside0.mk (below_step HB3.out hb)
      have HBX := Aside0.mk (blk_below HBX.out hb)
      clear hb
      refine hK.out _ _ ⟨(blk_cell (blk_below TT.out HB4.out) 0).trans rfl, (blk_cell (blk_below TT.out HB4.out) 1).trans rfl⟩ (fun hHeld => ?_)
      clear hK K
      refine norm_ (a' := ?_) ?_ ?_
      rotate_left
      · show Act.put _ (some 28) _ = _
        simp only [Act.put, List.setIfInBounds_toArray, List.set_cons_zero, List.set_cons_succ, i64_w, i32_w]
        rfl
      refine one_ (i := 2) (N := some 29) #[true, true, true, false, false, false, false, true, false, false, false] rfl rfl (by kernel_rfl) (by decide) (fun K hK => ?_)
      refine goes_ Try.func18 (by kernel_rfl) rfl #[.agg #[.slice A1 H1.length c1, .slice A2 H0.length c2], .agg #[.int .i64 L3.f0, .int .i64 L3.f1, .int .i64 L3.f2, .int .i64 L3.f3, .bool L3.f4]] (by rfl) rfl rfl (by (try simp only [List.map_toArray, List.map_cons, List.map_nil]); first | done | rfl) ?_
      refine (ask_calls A1 A2 c1 c2 H1 H0 L3 _ (Kd.C_below CH.out HB4.out) (Kd.C_below CW.out HB4.out) (by have := LN.out; omega)).mono ?_
      rintro e w5 hp
      rw [F3.out] at hp
      obtain ⟨v, u, rfl, hv, hu, hb⟩ := hp
      refine ⟨_, rfl, ?_⟩
      have HTV := Aside0.mk (hv.lower HB4.out.size)
      have HNV := Aside0.mk (hu.lower HB4.out.size)
      have HB5 := Aside0.mk (below_step HB4.out hb)
      have HBX := Aside0.mk (blk_below HBX.out hb)
      clear hb
      refine hK.out _ _ ⟨(blk_cell (blk_below TT.out HB5.out) 0).trans rfl, (blk_cell (blk_below TT.out HB5.out) 1).trans rfl⟩ (fun hHeld => ?_)
      clear hK K
      refine norm_ (a' := ?_) ?_ ?_
      rotate_left
      · show Act.put _ (some 29) _ = _
        simp only [Act.put, List.setIfInBounds_toArray, List.set_cons_zero, List.set_cons_succ, i64_w, i32_w]
        rfl
      refine pure_ (i := 3) (N := some 26) (v := ?_) (a' := ?_) #[true, true, true, true, false, false, false, true, false, false, false] rfl rfl (by kernel_rfl) (fun _ _ _ h => h) (Or.inl ⟨by rfl, ?_⟩) ?_ ?_
      rotate_left
      · intro w'
        go_simp
        with_reducible rfl
      rotate_left
      · simp only [Act.put, List.setIfInBounds_toArray, List.set_cons_zero, List.set_cons_succ, i64_w, i32_w]
        rfl
      refine pure_ (i := 4) (N := some 30) (v := ?_) (a' := ?_) #[true, true, true, true, true, false, false, true, false, false, false] rfl rfl (by kernel_rfl) (fun _ _ _ h => h) (Or.inl ⟨by rfl, ?_⟩) ?_ ?_
      rotate_left
      · intro w'
        go_simp
        with_reducible rfl
      rotate_left
      · simp only [Act.put, List.setIfInBounds_toArray, List.set_cons_zero, List.set_cons_succ, i64_w, i32_w]
        rfl
      refine pure_ (i := 5) (N := some 31) (v := ?_) (a' := ?_) #[true, true, true, true, true, true, false, true, false, false, false] rfl rfl (by kernel_rfl) (fun _ _ _ h => h) (Or.inl ⟨by rfl, ?_⟩) ?_ ?_
      rotate_left
      · intro w'
        go_simp
        with_reducible rfl
      rotate_left
      · simp only [Act.put, List.setIfInBounds_toArray, List.set_cons_zero, List.set_cons_succ, i64_w, i32_w]
        rfl
      refine pure_ (i := 6) (N := some 32) (v := ?_) (a' := ?_) #[true, true, true, true, true, true, true, true, false, false, false] rfl rfl (by kernel_rfl) (fun _ _ _ h => h) (Or.inl ⟨by rfl, ?_⟩) ?_ ?_
      rotate_left
      · intro w'
        go_simp
        with_reducible rfl
      rotate_left
      · simp only [Act.put, List.setIfInBounds_toArray, List.set_cons_zero, List.set_cons_succ, i64_w, i32_w]
        rfl
      refine norm_ ?_ (hCont (v, u, g) w5 ⟨HTV.out, HNV.out, HB5.out, (show wd.heap.size ≤ g by omega), HBX.out⟩)
      rfl
  case cont3 =>
  rintro ⟨v, u, g⟩ w6 ⟨hv, hu, hb, hg, hbox⟩
  dsimp only at hv hu hg hbox
  obtain ⟨vH, vW, rfl, hvH, hvW⟩ := hv
  obtain ⟨vG, vN, rfl, hvG, hvN⟩ := hu
  simp only [putAll, Act.put, List.setIfInBounds_toArray, List.set_cons_zero, List.set_cons_succ]
  obtain ⟨A3_3, c3_3, rfl⟩ := Kd.R_slice hvH
  obtain ⟨A4_3, c4_3, rfl⟩ := Kd.R_slice hvW
  obtain ⟨A5_3, c5_3, rfl⟩ := Kd.R_slice hvG
  obtain ⟨A6_3, c6_3, rfl⟩ := Kd.R_slice hvN
  have HLE := Aside0.mk B.out.size
  have HLT := Aside0.mk (show b1 < wd.heap.size from blk_lt TT.out)
  have B := Aside0.mk (below_step B.out (hb))
  have T := Aside0.mk (blk_below T.out (hb))
  have RH := Aside0.mk (Kd.R_below RH.out (hb))
  have RW := Aside0.mk (Kd.R_below RW.out (hb))
  have GX := Aside0.mk hbox
  have HGG := Aside0.mk hg
  have RH := Aside0.mk (Kd.R_lower hvH HLE.out)
  have RW := Aside0.mk (Kd.R_lower hvW HLE.out)
  clear hb hbox hg hvH hvW hvG hvN CH CW TT hHeld
  have z0 := (blk_cell T.out 0).trans rfl; have z1 := (blk_cell T.out 1).trans rfl
  have fz0 := blk_frozen T.out 0; have fz1 := blk_frozen T.out 1
  refine last_ (i := 8) (N := none) #[true, true, true, true, true, true, true, true, true, false, false] rfl rfl (by kernel_rfl) (by decide) (fun K hK => ?_)
  refine skip_ (w1 := ?_) (by rfl) rfl ?_ ?_
  rotate_left
  · go_simp
    rfl
  refine hK.out _ _ ?_
  clear hK K z0 z1 fz0 fz1
  have P_ := Aside0.mk (put_two (n := w.heap.size) (w := w) (.slice A3_3 H1.length c3_3) (.slice A4_3 W3.length c4_3) T.out B.out (LB1.out))
  have GX_ := Aside0.mk (two_far' (.slice A3_3 H1.length c3_3) (.slice A4_3 W3.length c4_3) GX.out (show g ≠ b1 by have h1 := HLT.out; have h2 := HGG.out; omega))
  have RH_ := Aside0.mk (R_two (.slice A3_3 H1.length c3_3) (.slice A4_3 W3.length c4_3) RH.out T.out (by decide))
  have RW_ := Aside0.mk (R_two (.slice A3_3 H1.length c3_3) (.slice A4_3 W3.length c4_3) RW.out T.out (by decide))
  have B_ := Aside0.mk P_.out.2
  have T_ := Aside0.mk P_.out.1
  clear P_ B T GX RH RW
  generalize ((w6).setCell ⟨b1, 0, none⟩ (.slice A3_3 H1.length c3_3)).setCell ⟨b1, 1, none⟩ (.slice A4_3 W3.length c4_3) = w6a at B_ T_ GX_ RH_ RW_ ⊢
  have B := B_
  have T := T_
  have GX := GX_
  have RH := RH_
  have RW := RW_
  clear B_ T_ GX_ RH_ RW_
  skip
  have z0 := (blk_cell GX.out 0).trans rfl; have z1 := (blk_cell GX.out 1).trans rfl
  have fz0 := blk_frozen GX.out 0; have fz1 := blk_frozen GX.out 1
  refine last_ (i := 9) (N := none) #[true, true, true, true, true, true, true, true, true, true, false] rfl rfl (by kernel_rfl) (by decide) (fun K hK => ?_)
  refine skip_ (w1 := ?_) (by rfl) rfl ?_ ?_
  rotate_left
  · go_simp
    rfl
  refine hK.out _ _ ?_
  clear hK K z0 z1 fz0 fz1
  have P_ := Aside0.mk (put_two (n := w.heap.size) (w := w) (.slice A5_3 0 c5_3) (.slice A6_3 0 c6_3) GX.out B.out (by have h1 := HLE.out; have h2 := HGG.out; omega))
  have T_ := Aside0.mk (two_far' (.slice A5_3 0 c5_3) (.slice A6_3 0 c6_3) T.out (show b1 ≠ g by have h1 := HLT.out; have h2 := HGG.out; omega))
  have RH_ := Aside0.mk (R_two (.slice A5_3 0 c5_3) (.slice A6_3 0 c6_3) RH.out GX.out (by decide))
  have RW_ := Aside0.mk (R_two (.slice A5_3 0 c5_3) (.slice A6_3 0 c6_3) RW.out GX.out (by decide))
  have B_ := Aside0.mk P_.out.2
  have GX_ := Aside0.mk P_.out.1
  clear P_ B T GX RH RW
  generalize ((w6a).setCell ⟨g, 0, none⟩ (.slice A5_3 0 c5_3)).setCell ⟨g, 1, none⟩ (.slice A6_3 0 c6_3) = w6b at B_ T_ GX_ RH_ RW_ ⊢
  have B := B_
  have T := T_
  have GX := GX_
  have RH := RH_
  have RW := RW_
  clear B_ T_ GX_ RH_ RW_
  skip
  refine pure_ (i := 10) (N := some 6) (v := ?_) (a' := ?_) #[true, true, true, true, true, true, true, true, true, true, true] rfl rfl (by kernel_rfl) (fun _ _ _ h => h) (Or.inl ⟨by rfl, ?_⟩) ?_ ?_
  rotate_left
  · intro w'
    go_simp
    with_reducible rfl
  rotate_left
  · simp only [Act.put, List.setIfInBounds_toArray, List.set_cons_zero, List.set_cons_succ, i64_w, i32_w]
    rfl
  refine done_ (by kernel_rfl) ?_
  have N5 := GX
  have LB5 := Aside0.mk (show w.heap.size ≤ g by have h1 := HLE.out; have h2 := HGG.out; omega)
  have E15 := Aside0.mk (show b1 ≠ g by have h1 := HLT.out; have h2 := HGG.out; omega)
  clear GX HLE HLT HGG
  generalize g = g5 at *
  go_upto_region 4 with (fail)
  -- region 4
  refine start_ (n := 11) (S := fun w' => w'.cell? ⟨b1, 0, none⟩ = some (.slice A3_3 H1.length c3_3) ∧ w'.cell? ⟨b1, 1, none⟩ = some (.slice A4_3 W3.length c4_3)) (ds := [8, 9]) #[false, false, false, false, false, false, false, false, false, false, false] (by kernel_rfl) rfl rfl ⟨(blk_cell (blk_drew T.out) 0).trans rfl, (blk_cell (blk_drew T.out) 1).trans rfl⟩ (fun hHeld => ?_)
  have hbd := below_drew1 (Below.refl w6b.heap.size w6b)
  have B := Aside0.mk (below_step B.out (hbd))
  have T := Aside0.mk (blk_below T.out (hbd))
  have N5 := Aside0.mk (blk_below N5.out (hbd))
  have RH := Aside0.mk (Kd.R_below RH.out (hbd))
  have RW := Aside0.mk (Kd.R_below RW.out (hbd))
  clear hbd
  generalize w6b.drew = wd at B T N5 RH RW hHeld ⊢
  have CH := Aside0.mk (Kd.R_reads' RH.out).2.2
  have CW := Aside0.mk (Kd.R_reads' RW.out).2.2
  have TT := T
  refine take_ (i := 0) (N := some 34) (v := ?_) (a' := ?_) #[true, false, false, false, false, false, false, false, false, false, false] rfl rfl (by kernel_rfl) (fun _ _ _ h => h) (Or.inl ⟨by rfl, ?_⟩) hHeld ?_ ?_
  rotate_left
  · rintro w' ⟨s0, s1⟩
    go_simp
    with_reducible rfl
  rotate_left
  · simp only [Act.put, List.setIfInBounds_toArray, List.set_cons_zero, List.set_cons_succ, i64_w, i32_w]
    rfl
  skip
  refine join_ (σ := Value × Value × Nat) 3 #[true, true, true, true, true, true, true, true, false, false, false] (fun s => [(35, .agg #[.int .i64 L4.f0, .int .i64 L4.f1, .int .i64 L4.f2, .int .i64 L4.f3, .bool L4.f4]), (36, .tuple #[s.1, s.2.1, .int .i64 0]), (33, .tuple #[s.1, s.2.1, .int .i64 0]), (37, s.1), (38, s.2.1), (39, .int .i64 0), (7, .pointer (some ⟨s.2.2, 0, none⟩))]) (fun s w' => TabV w' wd.heap.size s.1 H1 W4 ∧ NewsV w' wd.heap.size s.2.1 [] [] ∧ Below wd.heap.size wd w' ∧ wd.heap.size ≤ s.2.2 ∧ w'.heap[s.2.2]? = some (.cells #[.slice none 0 0, .slice none 0 0] 33 (0, 0))) ?cont4 ?orders4
  case orders4 =>
    intro hCont
    refine two_ (i := 1) (j := 7) (Ni := some 35) (Nj := some 7) #[true, true, false, false, false, false, false, false, false, false, false] #[true, false, false, false, false, false, false, true, false, false, false] rfl rfl rfl rfl (by kernel_rfl) (by decide) (by decide) (fun K hK => ?_) (fun K hK => ?_)
    · refine goes_ Try.func44 (by kernel_rfl) rfl #[.int .i64 4, .int .i64 5, .int .i64 1, .bool true] (by rfl) rfl rfl (by (try simp only [List.map_toArray, List.map_cons, List.map_nil]); first | done | rfl) ?_
      refine (on_calls _ _ _ _ _).mono ?_
      rintro e w3 ⟨rfl, hb⟩
      refine ⟨_, rfl, ?_⟩
      have HB3 := Aside0.mk hb
      clear hb
      skip
      refine hK.out _ _ ⟨(blk_cell (blk_below TT.out HB3.out) 0).trans rfl, (blk_cell (blk_below TT.out HB3.out) 1).trans rfl⟩ (fun hHeld => ?_)
      clear hK K
      refine norm_ (a' := ?_) ?_ ?_
      rotate_left
      · show Act.put _ (some 35) _ = _
        simp only [Act.put, List.setIfInBounds_toArray, List.set_cons_zero, List.set_cons_succ, i64_w, i32_w]
        rfl
      refine two_ (i := 2) (j := 7) (Ni := some 36) (Nj := some 7) #[true, true, true, false, false, false, false, false, false, false, false] #[true, true, false, false, false, false, false, true, false, false, false] rfl rfl rfl rfl (by kernel_rfl) (by decide) (by decide) (fun K hK => ?_) (fun K hK => ?_)
      · refine goes_ Try.func18 (by kernel_rfl) rfl #[.agg #[.slice A3_3 H1.length c3_3, .slice A4_3 W3.length c4_3], .agg #[.int .i64 L4.f0, .int .i64 L4.f1, .int .i64 L4.f2, .int .i64 L4.f3, .bool L4.f4]] (by rfl) rfl rfl (by (try simp only [List.map_toArray, List.map_cons, List.map_nil]); first | done | rfl) ?_
        refine (ask_calls A3_3 A4_3 c3_3 c4_3 H1 W3 L4 _ (Kd.C_below CH.out HB3.out) (Kd.C_below CW.out HB3.out) (by have := LN.out; omega)).mono ?_
        rintro e w4 hp
        rw [F4.out] at hp
        obtain ⟨v, u, rfl, hv, hu, hb⟩ := hp
        refine ⟨_, rfl, ?_⟩
        have HTV := Aside0.mk (hv.lower HB3.out.size)
        have HNV := Aside0.mk (hu.lower HB3.out.size)
        have HB4 := Aside0.mk (below_step HB3.out hb)
        clear hb
        skip
        refine hK.out _ _ ⟨(blk_cell (blk_below TT.out HB4.out) 0).trans rfl, (blk_cell (blk_below TT.out HB4.out) 1).trans rfl⟩ (fun hHeld => ?_)
        clear hK K
        refine norm_ (a' := ?_) ?_ ?_
        rotate_left
        · show Act.put _ (some 36) _ = _
          simp only [Act.put, List.setIfInBounds_toArray, List.set_cons_zero, List.set_cons_succ, i64_w, i32_w]
          rfl
        refine pure_ (i := 3) (N := some 33) (v := ?_) (a' := ?_) #[true, true, true, true, false, false, false, false, false, false, false] rfl rfl (by kernel_rfl) (fun _ _ _ h => h) (Or.inl ⟨by rfl, ?_⟩) ?_ ?_
        rotate_left
        · intro w'
          go_simp
          with_reducible rfl
        rotate_left
        · simp only [Act.put, List.setIfInBounds_toArray, List.set_cons_zero, List.set_cons_succ, i64_w, i32_w]
          rfl
        refine pure_ (i := 4) (N := some 37) (v := ?_) (a' := ?_) #[true, true, true, true, true, false, false, false, false, false, false] rfl rfl (by kernel_rfl) (fun _ _ _ h => h) (Or.inl ⟨by rfl, ?_⟩) ?_ ?_
        rotate_left
        · intro w'
          go_simp
          with_reducible rfl
        rotate_left
        · simp only [Act.put, List.setIfInBounds_toArray, List.set_cons_zero, List.set_cons_succ, i64_w, i32_w]
          rfl
        refine pure_ (i := 5) (N := some 38) (v := ?_) (a' := ?_) #[true, true, true, true, true, true, false, false, false, false, false] rfl rfl (by kernel_rfl) (fun _ _ _ h => h) (Or.inl ⟨by rfl, ?_⟩) ?_ ?_
        rotate_left
        · intro w'
          go_simp
          with_reducible rfl
        rotate_left
        · simp only [Act.put, List.setIfInBounds_toArray, List.set_cons_zero, List.set_cons_succ, i64_w, i32_w]
          rfl
        refine pure_ (i := 6) (N := some 39) (v := ?_) (a' := ?_) #[true, true, true, true, true, true, true, false, false, false, false] rfl rfl (by kernel_rfl) (fun _ _ _ h => h) (Or.inl ⟨by rfl, ?_⟩) ?_ ?_
        rotate_left
        · intro w'
          go_simp
          with_reducible rfl
        rotate_left
        · simp only [Act.put, List.setIfInBounds_toArray, List.set_cons_zero, List.set_cons_succ, i64_w, i32_w]
          rfl
        refine one_ (i := 7) (N := some 7) #[true, true, true, true, true, true, true, true, false, false, false] rfl rfl (by kernel_rfl) (by decide) (fun K hK => ?_)
        refine box_step ?hg (N := 7) ?hd (cs := #[.slice none 0 0, .slice none 0 0]) (t := 33) ?hr ?_
        (case hd => rfl)
        (case hg => rfl)
        (case hr => first | (go_simp; done) | (go_simp; rfl))
        intro g hg w5 hbox hb
        have HBX := Aside0.mk hbox
        have HGE := Aside0.mk hg
        have HB5 := Aside0.mk (below_step HB4.out hb)
        refine hK.out _ _ ⟨(blk_cell (blk_below TT.out HB5.out) 0).trans rfl, (blk_cell (blk_below TT.out HB5.out) 1).trans rfl⟩ (fun hHeld => ?_)
        clear hK K
        refine norm_ ?_ (hCont (v, u, g) w5 ⟨HTV.out.below hb, HNV.out.below hb, HB5.out, (show wd.heap.size ≤ g by have := HB4.out.size; omega), HBX.out⟩)
        rfl
      · refine box_step ?hg (N := 7) ?hd (cs := #[.slice none 0 0, .slice none 0 0]) (t := 33) ?hr ?_
        (case hd => rfl)
        (case hg => rfl)
        (case hr => first | (go_simp; done) | (go_simp; rfl))
        intro g hg w4 hbox hb
        have HBX := Aside0.mk hbox
        have HGE := Aside0.mk hg
        have HB4 := Aside0.mk (below_step HB3.out hb)
        clear hb
        skip
        refine hK.out _ _ ⟨(blk_cell (blk_below TT.out HB4.out) 0).trans rfl, (blk_cell (blk_below TT.out HB4.out) 1).trans rfl⟩ (fun hHeld => ?_)
        clear hK K
        refine norm_ (a' := ?_) ?_ ?_
        rotate_left
        · show Act.put _ (some 7) _ = _
          simp only [Act.put, List.setIfInBounds_toArray, List.set_cons_zero, List.set_cons_succ, i64_w, i32_w]
          rfl
        refine one_ (i := 2) (N := some 36) #[true, true, true, false, false, false, false, true, false, false, false] rfl rfl (by kernel_rfl) (by decide) (fun K hK => ?_)
        refine goes_ Try.func18 (by kernel_rfl) rfl #[.agg #[.slice A3_3 H1.length c3_3, .slice A4_3 W3.length c4_3], .agg #[.int .i64 L4.f0, .int .i64 L4.f1, .int .i64 L4.f2, .int .i64 L4.f3, .bool L4.f4]] (by rfl) rfl rfl (by (try simp only [List.map_toArray, List.map_cons, List.map_nil]); first | done | rfl) ?_
        refine (ask_calls A3_3 A4_3 c3_3 c4_3 H1 W3 L4 _ (Kd.C_below CH.out HB4.out) (Kd.C_below CW.out HB4.out) (by have := LN.out; omega)).mono ?_
        rintro e w5 hp
        rw [F4.out] at hp
        obtain ⟨v, u, rfl, hv, hu, hb⟩ := hp
        refine ⟨_, rfl, ?_⟩
        have HTV := Aside0.mk (hv.lower HB4.out.size)
        have HNV := Aside0.mk (hu.lower HB4.out.size)
        have HB5 := Aside0.mk (below_step HB4.out hb)
        have HBX := Aside0.mk (blk_below HBX.out hb)
        clear hb
        refine hK.out _ _ ⟨(blk_cell (blk_below TT.out HB5.out) 0).trans rfl, (blk_cell (blk_below TT.out HB5.out) 1).trans rfl⟩ (fun hHeld => ?_)
        clear hK K
        refine norm_ (a' := ?_) ?_ ?_
        rotate_left
        · show Act.put _ (some 36) _ = _
          simp only [Act.put, List.setIfInBounds_toArray, List.set_cons_zero, List.set_cons_succ, i64_w, i32_w]
          rfl
        refine pure_ (i := 3) (N := some 33) (v := ?_) (a' := ?_) #[true, true, true, true, false, false, false, true, false, false, false] rfl rfl (by kernel_rfl) (fun _ _ _ h => h) (Or.inl ⟨by rfl, ?_⟩) ?_ ?_
        rotate_left
        · intro w'
          go_simp
          with_reducible rfl
        rotate_left
        · simp only [Act.put, List.setIfInBounds_toArray, List.set_cons_zero, List.set_cons_succ, i64_w, i32_w]
          rfl
        refine pure_ (i := 4) (N := some 37) (v := ?_) (a' := ?_) #[true, true, true, true, true, false, false, true, false, false, false] rfl rfl (by kernel_rfl) (fun _ _ _ h => h) (Or.inl ⟨by rfl, ?_⟩) ?_ ?_
        rotate_left
        · intro w'
          go_simp
          with_reducible rfl
        rotate_left
        · simp only [Act.put, List.setIfInBounds_toArray, List.set_cons_zero, List.set_cons_succ, i64_w, i32_w]
          rfl
        refine pure_ (i := 5) (N := some 38) (v := ?_) (a' := ?_) #[true, true, true, true, true, true, false, true, false, false, false] rfl rfl (by kernel_rfl) (fun _ _ _ h => h) (Or.inl ⟨by rfl, ?_⟩) ?_ ?_
        rotate_left
        · intro w'
          go_simp
          with_reducible rfl
        rotate_left
        · simp only [Act.put, List.setIfInBounds_toArray, List.set_cons_zero, List.set_cons_succ, i64_w, i32_w]
          rfl
        refine pure_ (i := 6) (N := some 39) (v := ?_) (a' := ?_) #[true, true, true, true, true, true, true, true, false, false, false] rfl rfl (by kernel_rfl) (fun _ _ _ h => h) (Or.inl ⟨by rfl, ?_⟩) ?_ ?_
        rotate_left
        · intro w'
          go_simp
          with_reducible rfl
        rotate_left
        · simp only [Act.put, List.setIfInBounds_toArray, List.set_cons_zero, List.set_cons_succ, i64_w, i32_w]
          rfl
        refine norm_ ?_ (hCont (v, u, g) w5 ⟨HTV.out, HNV.out, HB5.out, (show wd.heap.size ≤ g by have := HB3.out.size; omega), HBX.out⟩)
        rfl
    · refine box_step ?hg (N := 7) ?hd (cs := #[.slice none 0 0, .slice none 0 0]) (t := 33) ?hr ?_
      (case hd => rfl)
      (case hg => rfl)
      (case hr => first | (go_simp; done) | (go_simp; rfl))
      intro g hg w3 hbox hb
      have HBX := Aside0.mk hbox
      have HGE := Aside0.mk hg
      have HB3 := Aside0.mk hb
      clear hb
      skip
      refine hK.out _ _ ⟨(blk_cell (blk_below TT.out HB3.out) 0).trans rfl, (blk_cell (blk_below TT.out HB3.out) 1).trans rfl⟩ (fun hHeld => ?_)
      clear hK K
      refine norm_ (a' := ?_) ?_ ?_
      rotate_left
      · show Act.put _ (some 7) _ = _
        simp only [Act.put, List.setIfInBounds_toArray, List.set_cons_zero, List.set_cons_succ, i64_w, i32_w]
        rfl
      refine one_ (i := 1) (N := some 35) #[true, true, false, false, false, false, false, true, false, false, false] rfl rfl (by kernel_rfl) (by decide) (fun K hK => ?_)
      refine goes_ Try.func44 (by kernel_rfl) rfl #[.int .i64 4, .int .i64 5, .int .i64 1, .bool true] (by rfl) rfl rfl (by (try simp only [List.map_toArray, List.map_cons, List.map_nil]); first | done | rfl) ?_
      refine (on_calls _ _ _ _ _).mono ?_
      rintro e w4 ⟨rfl, hb⟩
      refine ⟨_, rfl, ?_⟩
      have HB4 := Aside0.mk (below_step HB3.out hb)
      have HBX := Aside0.mk (blk_below HBX.out hb)
      clear hb
      refine hK.out _ _ ⟨(blk_cell (blk_below TT.out HB4.out) 0).trans rfl, (blk_cell (blk_below TT.out HB4.out) 1).trans rfl⟩ (fun hHeld => ?_)
      clear hK K
      refine norm_ (a' := ?_) ?_ ?_
      rotate_left
      · show Act.put _ (some 35) _ = _
        simp only [Act.put, List.setIfInBounds_toArray, List.set_cons_zero, List.set_cons_succ, i64_w, i32_w]
        rfl
      refine one_ (i := 2) (N := some 36) #[true, true, true, false, false, false, false, true, false, false, false] rfl rfl (by kernel_rfl) (by decide) (fun K hK => ?_)
      refine goes_ Try.func18 (by kernel_rfl) rfl #[.agg #[.slice A3_3 H1.length c3_3, .slice A4_3 W3.length c4_3], .agg #[.int .i64 L4.f0, .int .i64 L4.f1, .int .i64 L4.f2, .int .i64 L4.f3, .bool L4.f4]] (by rfl) rfl rfl (by (try simp only [List.map_toArray, List.map_cons, List.map_nil]); first | done | rfl) ?_
      refine (ask_calls A3_3 A4_3 c3_3 c4_3 H1 W3 L4 _ (Kd.C_below CH.out HB4.out) (Kd.C_below CW.out HB4.out) (by have := LN.out; omega)).mono ?_
      rintro e w5 hp
      rw [F4.out] at hp
      obtain ⟨v, u, rfl, hv, hu, hb⟩ := hp
      refine ⟨_, rfl, ?_⟩
      have HTV := Aside0.mk (hv.lower HB4.out.size)
      have HNV := Aside0.mk (hu.lower HB4.out.size)
      have HB5 := Aside0.mk (below_step HB4.out hb)
      have HBX := Aside0.mk (blk_below HBX.out hb)
      clear hb
      refine hK.out _ _ ⟨(blk_cell (blk_below TT.out HB5.out) 0).trans rfl, (blk_cell (blk_below TT.out HB5.out) 1).trans rfl⟩ (fun hHeld => ?_)
      clear hK K
      refine norm_ (a' := ?_) ?_ ?_
      rotate_left
      · show Act.put _ (some 36) _ = _
        simp only [Act.put, List.setIfInBounds_toArray, List.set_cons_zero, List.set_cons_succ, i64_w, i32_w]
        rfl
      refine pure_ (i := 3) (N := some 33) (v := ?_) (a' := ?_) #[true, true, true, true, false, false, false, true, false, false, false] rfl rfl (by kernel_rfl) (fun _ _ _ h => h) (Or.inl ⟨by rfl, ?_⟩) ?_ ?_
      rotate_left
      · intro w'
        go_simp
        with_reducible rfl
      rotate_left
      · simp only [Act.put, List.setIfInBounds_toArray, List.set_cons_zero, List.set_cons_succ, i64_w, i32_w]
        rfl
      refine pure_ (i := 4) (N := some 37) (v := ?_) (a' := ?_) #[true, true, true, true, true, false, false, true, false, false, false] rfl rfl (by kernel_rfl) (fun _ _ _ h => h) (Or.inl ⟨by rfl, ?_⟩) ?_ ?_
      rotate_left
      · intro w'
        go_simp
        with_reducible rfl
      rotate_left
      · simp only [Act.put, List.setIfInBounds_toArray, List.set_cons_zero, List.set_cons_succ, i64_w, i32_w]
        rfl
      refine pure_ (i := 5) (N := some 38) (v := ?_) (a' := ?_) #[true, true, true, true, true, true, false, true, false, false, false] rfl rfl (by kernel_rfl) (fun _ _ _ h => h) (Or.inl ⟨by rfl, ?_⟩) ?_ ?_
      rotate_left
      · intro w'
        go_simp
        with_reducible rfl
      rotate_left
      · simp only [Act.put, List.setIfInBounds_toArray, List.set_cons_zero, List.set_cons_succ, i64_w, i32_w]
        rfl
      refine pure_ (i := 6) (N := some 39) (v := ?_) (a' := ?_) #[true, true, true, true, true, true, true, true, false, false, false] rfl rfl (by kernel_rfl) (fun _ _ _ h => h) (Or.inl ⟨by rfl, ?_⟩) ?_ ?_
      rotate_left
      · intro w'
        go_simp
        with_reducible rfl
      rotate_left
      · simp only [Act.put, List.setIfInBounds_toArray, List.set_cons_zero, List.set_cons_succ, i64_w, i32_w]
        rfl
      refine norm_ ?_ (hCont (v, u, g) w5 ⟨HTV.out, HNV.out, HB5.out, (show wd.heap.size ≤ g by omega), HBX.out⟩)
      rfl
  case cont4 =>
  rintro ⟨v, u, g⟩ w6 ⟨hv, hu, hb, hg, hbox⟩
  dsimp only at hv hu hg hbox
  obtain ⟨vH, vW, rfl, hvH, hvW⟩ := hv
  obtain ⟨vG, vN, rfl, hvG, hvN⟩ := hu
  simp only [putAll, Act.put, List.setIfInBounds_toArray, List.set_cons_zero, List.set_cons_succ]
  obtain ⟨A3_4, c3_4, rfl⟩ := Kd.R_slice hvH
  obtain ⟨A4_4, c4_4, rfl⟩ := Kd.R_slice hvW
  obtain ⟨A5_4, c5_4, rfl⟩ := Kd.R_slice hvG
  obtain ⟨A6_4, c6_4, rfl⟩ := Kd.R_slice hvN
  have HLE := Aside0.mk B.out.size
  have HLT := Aside0.mk (show b1 < wd.heap.size from blk_lt TT.out)
  have HL5 := Aside0.mk (show g5 < wd.heap.size from blk_lt N5.out)
  have B := Aside0.mk (below_step B.out (hb))
  have T := Aside0.mk (blk_below T.out (hb))
  have N5 := Aside0.mk (blk_below N5.out (hb))
  have RH := Aside0.mk (Kd.R_below RH.out (hb))
  have RW := Aside0.mk (Kd.R_below RW.out (hb))
  have GX := Aside0.mk hbox
  have HGG := Aside0.mk hg
  have RH := Aside0.mk (Kd.R_lower hvH HLE.out)
  have RW := Aside0.mk (Kd.R_lower hvW HLE.out)
  clear hb hbox hg hvH hvW hvG hvN CH CW TT hHeld
  have z0 := (blk_cell T.out 0).trans rfl; have z1 := (blk_cell T.out 1).trans rfl
  have fz0 := blk_frozen T.out 0; have fz1 := blk_frozen T.out 1
  refine last_ (i := 8) (N := none) #[true, true, true, true, true, true, true, true, true, false, false] rfl rfl (by kernel_rfl) (by decide) (fun K hK => ?_)
  refine skip_ (w1 := ?_) (by rfl) rfl ?_ ?_
  rotate_left
  · go_simp
    rfl
  refine hK.out _ _ ?_
  clear hK K z0 z1 fz0 fz1
  have P_ := Aside0.mk (put_two (n := w.heap.size) (w := w) (.slice A3_4 H1.length c3_4) (.slice A4_4 W4.length c4_4) T.out B.out (LB1.out))
  have N5_ := Aside0.mk (two_far' (.slice A3_4 H1.length c3_4) (.slice A4_4 W4.length c4_4) N5.out (fun e => E15.out e.symm))
  have GX_ := Aside0.mk (two_far' (.slice A3_4 H1.length c3_4) (.slice A4_4 W4.length c4_4) GX.out (show g ≠ b1 by have h1 := HLT.out; have h2 := HGG.out; omega))
  have RH_ := Aside0.mk (R_two (.slice A3_4 H1.length c3_4) (.slice A4_4 W4.length c4_4) RH.out T.out (by decide))
  have RW_ := Aside0.mk (R_two (.slice A3_4 H1.length c3_4) (.slice A4_4 W4.length c4_4) RW.out T.out (by decide))
  have B_ := Aside0.mk P_.out.2
  have T_ := Aside0.mk P_.out.1
  clear P_ B T N5 GX RH RW
  generalize ((w6).setCell ⟨b1, 0, none⟩ (.slice A3_4 H1.length c3_4)).setCell ⟨b1, 1, none⟩ (.slice A4_4 W4.length c4_4) = w6a at B_ T_ N5_ GX_ RH_ RW_ ⊢
  have B := B_
  have T := T_
  have N5 := N5_
  have GX := GX_
  have RH := RH_
  have RW := RW_
  clear B_ T_ N5_ GX_ RH_ RW_
  skip
  have z0 := (blk_cell GX.out 0).trans rfl; have z1 := (blk_cell GX.out 1).trans rfl
  have fz0 := blk_frozen GX.out 0; have fz1 := blk_frozen GX.out 1
  refine last_ (i := 9) (N := none) #[true, true, true, true, true, true, true, true, true, true, false] rfl rfl (by kernel_rfl) (by decide) (fun K hK => ?_)
  refine skip_ (w1 := ?_) (by rfl) rfl ?_ ?_
  rotate_left
  · go_simp
    rfl
  refine hK.out _ _ ?_
  clear hK K z0 z1 fz0 fz1
  have P_ := Aside0.mk (put_two (n := w.heap.size) (w := w) (.slice A5_4 0 c5_4) (.slice A6_4 0 c6_4) GX.out B.out (by have h1 := HLE.out; have h2 := HGG.out; omega))
  have T_ := Aside0.mk (two_far' (.slice A5_4 0 c5_4) (.slice A6_4 0 c6_4) T.out (show b1 ≠ g by have h1 := HLT.out; have h2 := HGG.out; omega))
  have N5_ := Aside0.mk (two_far' (.slice A5_4 0 c5_4) (.slice A6_4 0 c6_4) N5.out (show g5 ≠ g by have h1 := HL5.out; have h2 := HGG.out; omega))
  have RH_ := Aside0.mk (R_two (.slice A5_4 0 c5_4) (.slice A6_4 0 c6_4) RH.out GX.out (by decide))
  have RW_ := Aside0.mk (R_two (.slice A5_4 0 c5_4) (.slice A6_4 0 c6_4) RW.out GX.out (by decide))
  have B_ := Aside0.mk P_.out.2
  have GX_ := Aside0.mk P_.out.1
  clear P_ B T N5 GX RH RW
  generalize ((w6a).setCell ⟨g, 0, none⟩ (.slice A5_4 0 c5_4)).setCell ⟨g, 1, none⟩ (.slice A6_4 0 c6_4) = w6b at B_ T_ N5_ GX_ RH_ RW_ ⊢
  have B := B_
  have T := T_
  have N5 := N5_
  have GX := GX_
  have RH := RH_
  have RW := RW_
  clear B_ T_ N5_ GX_ RH_ RW_
  skip
  refine pure_ (i := 10) (N := some 8) (v := ?_) (a' := ?_) #[true, true, true, true, true, true, true, true, true, true, true] rfl rfl (by kernel_rfl) (fun _ _ _ h => h) (Or.inl ⟨by rfl, ?_⟩) ?_ ?_
  rotate_left
  · intro w'
    go_simp
    with_reducible rfl
  rotate_left
  · simp only [Act.put, List.setIfInBounds_toArray, List.set_cons_zero, List.set_cons_succ, i64_w, i32_w]
    rfl
  refine done_ (by kernel_rfl) ?_
  have N7 := GX
  have LB7 := Aside0.mk (show w.heap.size ≤ g by have h1 := HLE.out; have h2 := HGG.out; omega)
  have E17 := Aside0.mk (show b1 ≠ g by have h1 := HLT.out; have h2 := HGG.out; omega)
  have E57 := Aside0.mk (show g5 ≠ g by have h1 := HL5.out; have h2 := HGG.out; omega)
  clear GX HLE HLT HGG
  generalize g = g7 at *
  have p0 := (blk_cell N5.out 0).trans rfl; have p1 := (blk_cell N5.out 1).trans rfl
  have r0 := (blk_cell N7.out 0).trans rfl; have r1 := (blk_cell N7.out 1).trans rfl
  go_upto_region 7 with (fail)
  clear p0 p1 r0 r1
  have x0 := (blk_cell T.out 0).trans rfl; have x1 := (blk_cell T.out 1).trans rfl
  go_upto_region 8 with ((with_reducible refine gate_dst (N := 74) rfl ?_); refine goesL_ (some 74) rfl rfl Try.func26 (by kernel_rfl) rfl #[.agg #[.slice A3_4 H1.length c3_4, .slice A4_4 W4.length c4_4], .int .i64 4] rfl (by (try simp only [List.map_toArray, List.map_cons, List.map_nil]); first | done | rfl) ?_; refine (blocks_calls A3_4 A4_4 c3_4 c4_4 H1 W4 4 _ (Kd.R_reads' RH.out).2.2 (Kd.R_reads' RW.out).2.2 (by have := LN.out; omega)).mono ?_; rintro e w8 hp; rw [F5.out] at hp; obtain ⟨vb, rfl, hvb, hb⟩ := hp; dsimp only at hvb; obtain ⟨Ab, cb, rfl⟩ := Kd.R_slice hvb; refine ⟨_, rfl, ?_⟩; have RB := Aside0.mk (Kd.R_lower hvb B.out.size); clear hvb x0 x1)
  have B := Aside0.mk (below_step B.out (hb))
  have T := Aside0.mk (blk_below T.out (hb))
  have N5 := Aside0.mk (blk_below N5.out (hb))
  have N7 := Aside0.mk (blk_below N7.out (hb))
  have RH := Aside0.mk (Kd.R_below RH.out (hb))
  have RW := Aside0.mk (Kd.R_below RW.out (hb))
  clear hb
  refine start_ (n := 10) (S := fun w' => w'.cell? ⟨b1, 0, none⟩ = some (.slice A3_4 H1.length c3_4) ∧ w'.cell? ⟨b1, 1, none⟩ = some (.slice A4_4 W4.length c4_4)) (ds := [7, 8]) #[false, false, false, false, false, false, false, false, false, false] (by kernel_rfl) rfl rfl ⟨(blk_cell (blk_drew T.out) 0).trans rfl, (blk_cell (blk_drew T.out) 1).trans rfl⟩ (fun hHeld => ?_)
  have hbd := below_drew1 (Below.refl w8.heap.size w8)
  have B := Aside0.mk (below_step B.out (hbd))
  have T := Aside0.mk (blk_below T.out (hbd))
  have N5 := Aside0.mk (blk_below N5.out (hbd))
  have N7 := Aside0.mk (blk_below N7.out (hbd))
  have RH := Aside0.mk (Kd.R_below RH.out (hbd))
  have RW := Aside0.mk (Kd.R_below RW.out (hbd))
  have RB := Aside0.mk (Kd.R_below RB.out (hbd))
  clear hbd
  generalize w8.drew = wd at B T N5 N7 RH RW RB hHeld ⊢
  refine take_ (i := 0) (N := some 78) (v := ?_) (a' := ?_) #[true, false, false, false, false, false, false, false, false, false] rfl rfl (by kernel_rfl) (fun _ _ _ h => h) (Or.inl ⟨by rfl, ?_⟩) hHeld ?_ ?_
  rotate_left
  · rintro w' ⟨s0, s1⟩
    go_simp
    with_reducible rfl
  rotate_left
  · simp only [Act.put, List.setIfInBounds_toArray, List.set_cons_zero, List.set_cons_succ, i64_w, i32_w]
    rfl
  refine one_ (i := 1) (N := some 79) #[true, true, false, false, false, false, false, false, false, false] rfl rfl (by kernel_rfl) (by decide) (fun K hK => ?_)
  refine goes_ Try.func44 (by kernel_rfl) rfl #[.int .i64 1, .int .i64 0, .int .i64 10, .bool true] (by rfl) rfl rfl (by (try simp only [List.map_toArray, List.map_cons, List.map_nil]); first | done | rfl) ?_
  refine (on_calls _ _ _ _ _).mono ?_
  rintro e w3 ⟨rfl, hb⟩
  refine ⟨_, rfl, ?_⟩
  have B := Aside0.mk (below_step B.out (hb))
  have T := Aside0.mk (blk_below T.out (hb))
  have N5 := Aside0.mk (blk_below N5.out (hb))
  have N7 := Aside0.mk (blk_below N7.out (hb))
  have RH := Aside0.mk (Kd.R_below RH.out (hb))
  have RW := Aside0.mk (Kd.R_below RW.out (hb))
  have RB := Aside0.mk (Kd.R_below RB.out (hb))
  clear hb
  refine hK.out _ _ ⟨(blk_cell (T.out) 0).trans rfl, (blk_cell (T.out) 1).trans rfl⟩ (fun hHeld => ?_)
  clear hK K
  refine norm_ (a' := ?_) ?_ ?_
  rotate_left
  · show Act.put _ (some 79) _ = _
    simp only [Act.put, List.setIfInBounds_toArray, List.set_cons_zero, List.set_cons_succ, i64_w, i32_w]
    rfl
  refine one_ (i := 2) (N := some 80) #[true, true, true, false, false, false, false, false, false, false] rfl rfl (by kernel_rfl) (by decide) (fun K hK => ?_)
  refine goes_ Try.func36 (by kernel_rfl) rfl #[.agg #[.slice A3_4 H1.length c3_4, .slice A4_4 W4.length c4_4], .agg #[.int .i64 L1.f0, .int .i64 L1.f1, .int .i64 L1.f2, .int .i64 L1.f3, .bool L1.f4]] (by rfl) rfl rfl (by (try simp only [List.map_toArray, List.map_cons, List.map_nil]); first | done | rfl) ?_
  refine (unlock_calls A3_4 A4_4 c3_4 c4_4 H1 W4 L1 _ (Kd.R_reads' RH.out).2.2 (Kd.R_reads' RW.out).2.2 (by have := LN.out; omega)).mono ?_
  rintro e w4 hp
  rw [F6.out] at hp
  obtain ⟨v, u, rfl, ⟨vH, vW, rfl, hvH, hvW⟩, ⟨vG, vN, rfl, hvG, hvN⟩, hb⟩ := hp
  dsimp only at hvH hvW hvG hvN
  obtain ⟨A7, c7, rfl⟩ := Kd.R_slice hvH
  obtain ⟨A8, c8, rfl⟩ := Kd.R_slice hvW
  obtain ⟨A9, c9, rfl⟩ := Kd.R_slice hvG
  obtain ⟨A10, c10, rfl⟩ := Kd.R_slice hvN
  refine ⟨_, rfl, ?_⟩
  have HLE := Aside0.mk B.out.size
  have B := Aside0.mk (below_step B.out (hb))
  have T := Aside0.mk (blk_below T.out (hb))
  have N5 := Aside0.mk (blk_below N5.out (hb))
  have N7 := Aside0.mk (blk_below N7.out (hb))
  have RH := Aside0.mk (Kd.R_below RH.out (hb))
  have RW := Aside0.mk (Kd.R_below RW.out (hb))
  have RB := Aside0.mk (Kd.R_below RB.out (hb))
  have RH := Aside0.mk (Kd.R_lower hvH HLE.out)
  have RW := Aside0.mk (Kd.R_lower hvW HLE.out)
  have RG := Aside0.mk (Kd.R_lower hvG HLE.out)
  clear hb hvH hvW hvG hvN HLE
  refine hK.out _ _ ⟨(blk_cell (T.out) 0).trans rfl, (blk_cell (T.out) 1).trans rfl⟩ (fun hHeld => ?_)
  clear hK K
  refine norm_ (a' := ?_) ?_ ?_
  rotate_left
  · show Act.put _ (some 80) _ = _
    simp only [Act.put, List.setIfInBounds_toArray, List.set_cons_zero, List.set_cons_succ, i64_w, i32_w]
    rfl
  refine pure_ (i := 3) (N := some 77) (v := ?_) (a' := ?_) #[true, true, true, true, false, false, false, false, false, false] rfl rfl (by kernel_rfl) (fun _ _ _ h => h) (Or.inl ⟨by rfl, ?_⟩) ?_ ?_
  rotate_left
  · intro w'
    go_simp
    with_reducible rfl
  rotate_left
  · simp only [Act.put, List.setIfInBounds_toArray, List.set_cons_zero, List.set_cons_succ, i64_w, i32_w]
    rfl
  refine pure_ (i := 4) (N := some 81) (v := ?_) (a' := ?_) #[true, true, true, true, true, false, false, false, false, false] rfl rfl (by kernel_rfl) (fun _ _ _ h => h) (Or.inl ⟨by rfl, ?_⟩) ?_ ?_
  rotate_left
  · intro w'
    go_simp
    with_reducible rfl
  rotate_left
  · simp only [Act.put, List.setIfInBounds_toArray, List.set_cons_zero, List.set_cons_succ, i64_w, i32_w]
    rfl
  refine pure_ (i := 5) (N := some 82) (v := ?_) (a' := ?_) #[true, true, true, true, true, true, false, false, false, false] rfl rfl (by kernel_rfl) (fun _ _ _ h => h) (Or.inl ⟨by rfl, ?_⟩) ?_ ?_
  rotate_left
  · intro w'
    go_simp
    with_reducible rfl
  rotate_left
  · simp only [Act.put, List.setIfInBounds_toArray, List.set_cons_zero, List.set_cons_succ, i64_w, i32_w]
    rfl
  refine pure_ (i := 6) (N := some 83) (v := ?_) (a' := ?_) #[true, true, true, true, true, true, true, false, false, false] rfl rfl (by kernel_rfl) (fun _ _ _ h => h) (Or.inl ⟨by rfl, ?_⟩) ?_ ?_
  rotate_left
  · intro w'
    go_simp
    with_reducible rfl
  rotate_left
  · simp only [Act.put, List.setIfInBounds_toArray, List.set_cons_zero, List.set_cons_succ, i64_w, i32_w]
    rfl
  have z0 := (blk_cell T.out 0).trans rfl; have z1 := (blk_cell T.out 1).trans rfl
  have fz0 := blk_frozen T.out 0; have fz1 := blk_frozen T.out 1
  refine last_ (i := 7) (N := none) #[true, true, true, true, true, true, true, true, false, false] rfl rfl (by kernel_rfl) (by decide) (fun K hK => ?_)
  refine skip_ (w1 := ?_) (by rfl) rfl ?_ ?_
  rotate_left
  · go_simp
    rfl
  refine hK.out _ _ ?_
  clear hK K z0 z1 fz0 fz1
  have P_ := Aside0.mk (put_two (n := w.heap.size) (w := w) (.slice A7 W3.length c7) (.slice A8 W6.length c8) T.out B.out (LB1.out))
  have N5_ := Aside0.mk (two_far' (.slice A7 W3.length c7) (.slice A8 W6.length c8) N5.out (fun e => E15.out e.symm))
  have N7_ := Aside0.mk (two_far' (.slice A7 W3.length c7) (.slice A8 W6.length c8) N7.out (fun e => E17.out e.symm))
  have RH_ := Aside0.mk (R_two (.slice A7 W3.length c7) (.slice A8 W6.length c8) RH.out T.out (by decide))
  have RW_ := Aside0.mk (R_two (.slice A7 W3.length c7) (.slice A8 W6.length c8) RW.out T.out (by decide))
  have RB_ := Aside0.mk (R_two (.slice A7 W3.length c7) (.slice A8 W6.length c8) RB.out T.out (by decide))
  have RG_ := Aside0.mk (R_two (.slice A7 W3.length c7) (.slice A8 W6.length c8) RG.out T.out (by decide))
  have B_ := Aside0.mk P_.out.2
  have T_ := Aside0.mk P_.out.1
  clear P_ B T N5 N7 RH RW RB RG
  generalize ((w4).setCell ⟨b1, 0, none⟩ (.slice A7 W3.length c7)).setCell ⟨b1, 1, none⟩ (.slice A8 W6.length c8) = w4a at B_ T_ N5_ N7_ RH_ RW_ RB_ RG_ ⊢
  have B := B_
  have T := T_
  have N5 := N5_
  have N7 := N7_
  have RH := RH_
  have RW := RW_
  have RB := RB_
  have RG := RG_
  clear B_ T_ N5_ N7_ RH_ RW_ RB_ RG_
  skip
  have z0 := (blk_cell N5.out 0).trans rfl; have z1 := (blk_cell N5.out 1).trans rfl
  have fz0 := blk_frozen N5.out 0; have fz1 := blk_frozen N5.out 1
  refine last_ (i := 8) (N := none) #[true, true, true, true, true, true, true, true, true, false] rfl rfl (by kernel_rfl) (by decide) (fun K hK => ?_)
  refine skip_ (w1 := ?_) (by rfl) rfl ?_ ?_
  rotate_left
  · go_simp
    rfl
  refine hK.out _ _ ?_
  clear hK K z0 z1 fz0 fz1
  have P_ := Aside0.mk (put_two (n := w.heap.size) (w := w) (.slice A9 G6.length c9) (.slice A10 0 c10) N5.out B.out (LB5.out))
  have T_ := Aside0.mk (two_far' (.slice A9 G6.length c9) (.slice A10 0 c10) T.out (E15.out))
  have N7_ := Aside0.mk (two_far' (.slice A9 G6.length c9) (.slice A10 0 c10) N7.out (fun e => E57.out e.symm))
  have RH_ := Aside0.mk (R_two (.slice A9 G6.length c9) (.slice A10 0 c10) RH.out N5.out (by decide))
  have RW_ := Aside0.mk (R_two (.slice A9 G6.length c9) (.slice A10 0 c10) RW.out N5.out (by decide))
  have RB_ := Aside0.mk (R_two (.slice A9 G6.length c9) (.slice A10 0 c10) RB.out N5.out (by decide))
  have RG_ := Aside0.mk (R_two (.slice A9 G6.length c9) (.slice A10 0 c10) RG.out N5.out (by decide))
  have B_ := Aside0.mk P_.out.2
  have N5_ := Aside0.mk P_.out.1
  clear P_ B T N5 N7 RH RW RB RG
  generalize ((w4a).setCell ⟨g5, 0, none⟩ (.slice A9 G6.length c9)).setCell ⟨g5, 1, none⟩ (.slice A10 0 c10) = w4b at B_ T_ N5_ N7_ RH_ RW_ RB_ RG_ ⊢
  have B := B_
  have T := T_
  have N5 := N5_
  have N7 := N7_
  have RH := RH_
  have RW := RW_
  have RB := RB_
  have RG := RG_
  clear B_ T_ N5_ N7_ RH_ RW_ RB_ RG_
  skip
  refine pure_ (i := 9) (N := some 11) (v := ?_) (a' := ?_) #[true, true, true, true, true, true, true, true, true, true] rfl rfl (by kernel_rfl) (fun _ _ _ h => h) (Or.inl ⟨by rfl, ?_⟩) ?_ ?_
  rotate_left
  · intro w'
    go_simp
    with_reducible rfl
  rotate_left
  · simp only [Act.put, List.setIfInBounds_toArray, List.set_cons_zero, List.set_cons_succ, i64_w, i32_w]
    rfl
  refine done_ (by kernel_rfl) ?_
  clear hHeld
  go_upto_region 9 with (fail)
  have x0 := (blk_cell T.out 0).trans rfl; have x1 := (blk_cell T.out 1).trans rfl
  go_upto_region 10 with ((with_reducible refine gate_dst (N := 86) rfl ?_); refine goesL_ (some 86) rfl rfl Try.func40 (by kernel_rfl) rfl #[.agg #[.slice A7 W3.length c7, .slice A8 W6.length c8], .int .i64 3] rfl (by (try simp only [List.map_toArray, List.map_cons, List.map_nil]); first | done | rfl) ?_; refine (close_calls A7 A8 c7 c8 W3 W6 3 _ (Kd.R_reads' RH.out).2.2 (Kd.R_reads' RW.out).2.2 (by have := LN.out; omega)).mono ?_; rintro e w9 hp; rw [F7.out] at hp; obtain ⟨v, u, rfl, ⟨vH, vW, rfl, hvH, hvW⟩, ⟨vG, vN, rfl, hvG, hvN⟩, hb⟩ := hp; dsimp only at hvH hvW hvG hvN; obtain ⟨A11, c11, rfl⟩ := Kd.R_slice hvH; obtain ⟨A12, c12, rfl⟩ := Kd.R_slice hvW; obtain ⟨A13, c13, rfl⟩ := Kd.R_slice hvG; obtain ⟨A14, c14, rfl⟩ := Kd.R_slice hvN; refine ⟨_, rfl, ?_⟩; have HLE := Aside0.mk B.out.size; have RQ := Aside0.mk (Kd.R_lower hvG HLE.out); clear hvH hvW hvG hvN x0 x1; have n7 := blk_below N7.out hb; have n7l := blk_lt n7; have y0 := (blk_cell n7 0).trans rfl; have y1 := (blk_cell n7 1).trans rfl; have fy0 := blk_frozen n7 0; have fy1 := blk_frozen n7 1; clear n7)
  have B := Aside0.mk (below_step B.out (hb))
  have T := Aside0.mk (blk_below T.out (hb))
  have N5 := Aside0.mk (blk_below N5.out (hb))
  have N7 := Aside0.mk (blk_below N7.out (hb))
  have RH := Aside0.mk (Kd.R_below RH.out (hb))
  have RW := Aside0.mk (Kd.R_below RW.out (hb))
  have RB := Aside0.mk (Kd.R_below RB.out (hb))
  have RG := Aside0.mk (Kd.R_below RG.out (hb))
  have RQ := Aside0.mk (Kd.R_below RQ.out (Below.refl _ _))
  clear hb HLE n7l y0 y1 fy0 fy1
  have P_ := Aside0.mk (put_two (n := w.heap.size) (w := w) (.slice A13 G7.length c13) (.slice A14 0 c14) N7.out B.out (LB7.out))
  have T_ := Aside0.mk (two_far' (.slice A13 G7.length c13) (.slice A14 0 c14) T.out (E17.out))
  have N5_ := Aside0.mk (two_far' (.slice A13 G7.length c13) (.slice A14 0 c14) N5.out (E57.out))
  have RH_ := Aside0.mk (R_two (.slice A13 G7.length c13) (.slice A14 0 c14) RH.out N7.out (by decide))
  have RW_ := Aside0.mk (R_two (.slice A13 G7.length c13) (.slice A14 0 c14) RW.out N7.out (by decide))
  have RB_ := Aside0.mk (R_two (.slice A13 G7.length c13) (.slice A14 0 c14) RB.out N7.out (by decide))
  have RG_ := Aside0.mk (R_two (.slice A13 G7.length c13) (.slice A14 0 c14) RG.out N7.out (by decide))
  have RQ_ := Aside0.mk (R_two (.slice A13 G7.length c13) (.slice A14 0 c14) RQ.out N7.out (by decide))
  have B_ := Aside0.mk P_.out.2
  have N7_ := Aside0.mk P_.out.1
  clear P_ B T N5 N7 RH RW RB RG RQ
  generalize (w9.setCell ⟨g7, 0, none⟩ (.slice A13 G7.length c13)).setCell ⟨g7, 1, none⟩ (.slice A14 0 c14) = w10 at B_ T_ N5_ N7_ RH_ RW_ RB_ RG_ RQ_ ⊢
  have B := B_
  have T := T_
  have N5 := N5_
  have N7 := N7_
  have RH := RH_
  have RW := RW_
  have RB := RB_
  have RG := RG_
  have RQ := RQ_
  clear B_ T_ N5_ N7_ RH_ RW_ RB_ RG_ RQ_
  have hba := below_alloc (Below.refl _ w10) (.cells #[.slice A11 W6.length c11, .slice A12 H0.length c12] 29)
  have B := Aside0.mk (below_step B.out (hba))
  have T := Aside0.mk (blk_below T.out (hba))
  have N5 := Aside0.mk (blk_below N5.out (hba))
  have N7 := Aside0.mk (blk_below N7.out (hba))
  have RH := Aside0.mk (Kd.R_below RH.out (hba))
  have RW := Aside0.mk (Kd.R_below RW.out (hba))
  have RB := Aside0.mk (Kd.R_below RB.out (hba))
  have RG := Aside0.mk (Kd.R_below RG.out (hba))
  have RQ := Aside0.mk (Kd.R_below RQ.out (hba))
  clear hba
  generalize w10.alloc (.cells #[.slice A11 W6.length c11, .slice A12 H0.length c12] 29) = w11 at B T N5 N7 RH RW RB RG RQ ⊢
  refine start_ (n := 34) (S := fun w' => w'.cell? ⟨g5, 0, none⟩ = some (.slice A9 G6.length c9) ∧ w'.cell? ⟨g7, 0, none⟩ = some (.slice A13 G7.length c13) ∧ w'.cell? ⟨b1, 0, none⟩ = some (.slice A7 W3.length c7) ∧ w'.cell? ⟨b1, 1, none⟩ = some (.slice A8 W6.length c8)) (ds := []) #[false, false, false, false, false, false, false, false, false, false, false, false, false, false, false, false, false, false, false, false, false, false, false, false, false, false, false, false, false, false, false, false, false, false] (by kernel_rfl) rfl rfl ⟨(blk_cell (blk_drew N5.out) 0).trans rfl, (blk_cell (blk_drew N7.out) 0).trans rfl, (blk_cell (blk_drew T.out) 0).trans rfl, (blk_cell (blk_drew T.out) 1).trans rfl⟩ (fun hHeld => ?_)
  have hbd := below_drew1 (Below.refl w11.heap.size w11)
  have B := Aside0.mk (below_step B.out (hbd))
  have T := Aside0.mk (blk_below T.out (hbd))
  have N5 := Aside0.mk (blk_below N5.out (hbd))
  have N7 := Aside0.mk (blk_below N7.out (hbd))
  have RH := Aside0.mk (Kd.R_below RH.out (hbd))
  have RW := Aside0.mk (Kd.R_below RW.out (hbd))
  have RB := Aside0.mk (Kd.R_below RB.out (hbd))
  have RG := Aside0.mk (Kd.R_below RG.out (hbd))
  have RQ := Aside0.mk (Kd.R_below RQ.out (hbd))
  clear hbd
  generalize w11.drew = wd at B T N5 N7 RH RW RB RG RQ hHeld ⊢
  refine pure_ (i := 0) (N := some 90) (v := ?_) (a' := ?_) #[true, false, false, false, false, false, false, false, false, false, false, false, false, false, false, false, false, false, false, false, false, false, false, false, false, false, false, false, false, false, false, false, false, false] rfl rfl (by kernel_rfl) (fun _ _ _ h => h) (Or.inl ⟨by rfl, ?_⟩) ?_ ?_
  rotate_left
  · intro w'
    go_simp
    with_reducible rfl
  rotate_left
  · simp only [Act.put, List.setIfInBounds_toArray, List.set_cons_zero, List.set_cons_succ, i64_w, i32_w]
    rfl
  refine pure_ (i := 1) (N := some 91) (v := ?_) (a' := ?_) #[true, true, false, false, false, false, false, false, false, false, false, false, false, false, false, false, false, false, false, false, false, false, false, false, false, false, false, false, false, false, false, false, false, false] rfl rfl (by kernel_rfl) (fun _ _ _ h => h) (Or.inl ⟨by rfl, ?_⟩) ?_ ?_
  rotate_left
  · intro w'
    go_simp
    with_reducible rfl
  rotate_left
  · simp only [Act.put, List.setIfInBounds_toArray, List.set_cons_zero, List.set_cons_succ, i64_w, i32_w]
    rfl
  refine pure_ (i := 2) (N := some 92) (v := ?_) (a' := ?_) #[true, true, true, false, false, false, false, false, false, false, false, false, false, false, false, false, false, false, false, false, false, false, false, false, false, false, false, false, false, false, false, false, false, false] rfl rfl (by kernel_rfl) (fun _ _ _ h => h) (Or.inl ⟨by rfl, ?_⟩) ?_ ?_
  rotate_left
  · intro w'
    go_simp
    with_reducible rfl
  rotate_left
  · simp only [Act.put, List.setIfInBounds_toArray, List.set_cons_zero, List.set_cons_succ, i64_w, i32_w]
    rfl
  refine pure_ (i := 3) (N := some 93) (v := ?_) (a' := ?_) #[true, true, true, true, false, false, false, false, false, false, false, false, false, false, false, false, false, false, false, false, false, false, false, false, false, false, false, false, false, false, false, false, false, false] rfl rfl (by kernel_rfl) (fun _ _ _ h => h) (Or.inl ⟨by rfl, ?_⟩) ?_ ?_
  rotate_left
  · intro w'
    go_simp
    with_reducible rfl
  rotate_left
  · simp only [Act.put, List.setIfInBounds_toArray, List.set_cons_zero, List.set_cons_succ, i64_w, i32_w]
    rfl
  refine one_ (i := 4) (N := some 94) #[true, true, true, true, true, false, false, false, false, false, false, false, false, false, false, false, false, false, false, false, false, false, false, false, false, false, false, false, false, false, false, false, false, false] rfl rfl (by kernel_rfl) (by decide) (fun K hK => ?_)
  refine event_step (v := .slice (some ⟨wd.heap.size, 0, none⟩) 2 2) (w1 := wd.alloc (.cells #[.int .i64 1, .int .i64 3] 3)) (by rfl) (by first | (go_simp; done) | (go_simp; rfl)) ?_
  have hba := below_alloc (Below.refl _ wd) (.cells #[.int .i64 1, .int .i64 3] 3)
  have LIT := Aside0.mk (show (wd.alloc (.cells #[.int .i64 1, .int .i64 3] 3)).heap[wd.heap.size]? = some (.cells (LB.map (Value.int .i64)).toArray 3 (0, 0)) by rw [EB.out]; exact blk_new wd _)
  have B := Aside0.mk (below_step B.out (hba))
  have T := Aside0.mk (blk_below T.out (hba))
  have N5 := Aside0.mk (blk_below N5.out (hba))
  have N7 := Aside0.mk (blk_below N7.out (hba))
  have RH := Aside0.mk (Kd.R_below RH.out (hba))
  have RW := Aside0.mk (Kd.R_below RW.out (hba))
  have RB := Aside0.mk (Kd.R_below RB.out (hba))
  have RG := Aside0.mk (Kd.R_below RG.out (hba))
  have RQ := Aside0.mk (Kd.R_below RQ.out (hba))
  clear hba
  generalize wd.alloc (.cells #[.int .i64 1, .int .i64 3] 3) = wea at LIT B T N5 N7 RH RW RB RG RQ ⊢
  refine hK.out _ _ ⟨(blk_cell (N5.out) 0).trans rfl, (blk_cell (N7.out) 0).trans rfl, (blk_cell (T.out) 0).trans rfl, (blk_cell (T.out) 1).trans rfl⟩ (fun hHeld => ?_)
  clear hK K
  refine norm_ (a' := ?_) ?_ ?_
  rotate_left
  · show Act.put _ (some 94) _ = _
    simp only [Act.put, List.setIfInBounds_toArray, List.set_cons_zero, List.set_cons_succ, i64_w, i32_w]
    rfl
  have hsc := same_calls Ab cb LB wd.heap.size wea (Kd.R_reads' RB.out).2.2 (Kd.R_reads' RB.out).2.1 (by rw [EB.out]; decide) LIT.out (by rw [EB.out]; kernel_rfl)
  rw [show (Value.slice (some ⟨wd.heap.size, 0, none⟩) LB.length LB.length) = .slice (some ⟨wd.heap.size, 0, none⟩) 2 2 by rw [EB.out]; rfl] at hsc
  have HSC := Aside0.mk hsc
  clear hsc LIT
  refine one_ (i := 5) (N := some 95) #[true, true, true, true, true, true, false, false, false, false, false, false, false, false, false, false, false, false, false, false, false, false, false, false, false, false, false, false, false, false, false, false, false, false] rfl rfl (by kernel_rfl) (by decide) (fun K hK => ?_)
  refine goes_ Try.func30 (by kernel_rfl) rfl #[.slice Ab LB.length cb, .slice (some ⟨wd.heap.size, 0, none⟩) 2 2] (by rfl) rfl rfl (by (try simp only [List.map_toArray, List.map_cons, List.map_nil]); first | done | rfl) ?_
  refine HSC.out.mono ?_
  rintro e we ⟨rfl, hb⟩
  refine ⟨_, rfl, ?_⟩
  have B := Aside0.mk (below_step B.out (hb))
  have T := Aside0.mk (blk_below T.out (hb))
  have N5 := Aside0.mk (blk_below N5.out (hb))
  have N7 := Aside0.mk (blk_below N7.out (hb))
  have RH := Aside0.mk (Kd.R_below RH.out (hb))
  have RW := Aside0.mk (Kd.R_below RW.out (hb))
  have RB := Aside0.mk (Kd.R_below RB.out (hb))
  have RG := Aside0.mk (Kd.R_below RG.out (hb))
  have RQ := Aside0.mk (Kd.R_below RQ.out (hb))
  clear hb HSC
  refine hK.out _ _ ⟨(blk_cell (N5.out) 0).trans rfl, (blk_cell (N7.out) 0).trans rfl, (blk_cell (T.out) 0).trans rfl, (blk_cell (T.out) 1).trans rfl⟩ (fun hHeld => ?_)
  clear hK K
  refine norm_ (a' := ?_) ?_ ?_
  rotate_left
  · show Act.put _ (some 95) _ = _
    simp only [Act.put, List.setIfInBounds_toArray, List.set_cons_zero, List.set_cons_succ, i64_w, i32_w]
    rfl
  refine pure_ (i := 6) (N := some 96) (v := ?_) (a' := ?_) #[true, true, true, true, true, true, true, false, false, false, false, false, false, false, false, false, false, false, false, false, false, false, false, false, false, false, false, false, false, false, false, false, false, false] rfl rfl (by kernel_rfl) (fun _ _ _ h => h) (Or.inl ⟨by rfl, ?_⟩) ?_ ?_
  rotate_left
  · intro w'
    go_simp
    with_reducible rfl
  rotate_left
  · simp only [Act.put, List.setIfInBounds_toArray, List.set_cons_zero, List.set_cons_succ, i64_w, i32_w]
    rfl
  refine pure_ (i := 7) (N := some 97) (v := ?_) (a' := ?_) #[true, true, true, true, true, true, true, true, false, false, false, false, false, false, false, false, false, false, false, false, false, false, false, false, false, false, false, false, false, false, false, false, false, false] rfl rfl (by kernel_rfl) (fun _ _ _ h => h) (Or.inl ⟨by rfl, ?_⟩) ?_ ?_
  rotate_left
  · intro w'
    go_simp
    with_reducible rfl
  rotate_left
  · simp only [Act.put, List.setIfInBounds_toArray, List.set_cons_zero, List.set_cons_succ, i64_w, i32_w]
    rfl
  refine pure_ (i := 8) (N := some 98) (v := ?_) (a' := ?_) #[true, true, true, true, true, true, true, true, true, false, false, false, false, false, false, false, false, false, false, false, false, false, false, false, false, false, false, false, false, false, false, false, false, false] rfl rfl (by kernel_rfl) (fun _ _ _ h => h) (Or.inl ⟨by rfl, ?_⟩) ?_ ?_
  rotate_left
  · intro w'
    go_simp
    with_reducible rfl
  rotate_left
  · simp only [Act.put, List.setIfInBounds_toArray, List.set_cons_zero, List.set_cons_succ, i64_w, i32_w]
    rfl
  refine pure_ (i := 9) (N := some 99) (v := ?_) (a' := ?_) #[true, true, true, true, true, true, true, true, true, true, false, false, false, false, false, false, false, false, false, false, false, false, false, false, false, false, false, false, false, false, false, false, false, false] rfl rfl (by kernel_rfl) (fun _ _ _ h => h) (Or.inl ⟨by rfl, ?_⟩) ?_ ?_
  rotate_left
  · intro w'
    go_simp
    with_reducible rfl
  rotate_left
  · simp only [Act.put, List.setIfInBounds_toArray, List.set_cons_zero, List.set_cons_succ, i64_w, i32_w]
    rfl
  refine pure_ (i := 10) (N := some 100) (v := ?_) (a' := ?_) #[true, true, true, true, true, true, true, true, true, true, true, false, false, false, false, false, false, false, false, false, false, false, false, false, false, false, false, false, false, false, false, false, false, false] rfl rfl (by kernel_rfl) (fun _ _ _ h => h) (Or.inl ⟨by rfl, ?_⟩) ?_ ?_
  rotate_left
  · intro w'
    go_simp
    with_reducible rfl
  rotate_left
  · simp only [Act.put, List.setIfInBounds_toArray, List.set_cons_zero, List.set_cons_succ, i64_w, i32_w]
    rfl
  refine pure_ (i := 11) (N := some 101) (v := ?_) (a' := ?_) #[true, true, true, true, true, true, true, true, true, true, true, true, false, false, false, false, false, false, false, false, false, false, false, false, false, false, false, false, false, false, false, false, false, false] rfl rfl (by kernel_rfl) (fun _ _ _ h => h) (Or.inl ⟨by rfl, ?_⟩) ?_ ?_
  rotate_left
  · intro w'
    go_simp
    with_reducible rfl
  rotate_left
  · simp only [Act.put, List.setIfInBounds_toArray, List.set_cons_zero, List.set_cons_succ, i64_w, i32_w]
    rfl
  refine pure_ (i := 12) (N := some 102) (v := ?_) (a' := ?_) #[true, true, true, true, true, true, true, true, true, true, true, true, true, false, false, false, false, false, false, false, false, false, false, false, false, false, false, false, false, false, false, false, false, false] rfl rfl (by kernel_rfl) (fun _ _ _ h => h) (Or.inl ⟨by rfl, ?_⟩) ?_ ?_
  rotate_left
  · intro w'
    go_simp
    with_reducible rfl
  rotate_left
  · simp only [Act.put, List.setIfInBounds_toArray, List.set_cons_zero, List.set_cons_succ, i64_w, i32_w]
    rfl
  refine take_ (i := 13) (N := some 103) (v := ?_) (a' := ?_) #[true, true, true, true, true, true, true, true, true, true, true, true, true, true, false, false, false, false, false, false, false, false, false, false, false, false, false, false, false, false, false, false, false, false] rfl rfl (by kernel_rfl) (fun _ _ _ h => h) (Or.inl ⟨by rfl, ?_⟩) hHeld ?_ ?_
  rotate_left
  · rintro w' ⟨s0, s1, s2, s3⟩
    go_simp
    with_reducible rfl
  rotate_left
  · simp only [Act.put, List.setIfInBounds_toArray, List.set_cons_zero, List.set_cons_succ, i64_w, i32_w]
    rfl
  refine one_ (i := 14) (N := some 104) #[true, true, true, true, true, true, true, true, true, true, true, true, true, true, true, false, false, false, false, false, false, false, false, false, false, false, false, false, false, false, false, false, false, false] rfl rfl (by kernel_rfl) (by decide) (fun K hK => ?_)
  refine event_step (v := .slice (some ⟨we.heap.size, 0, none⟩) 1 1) (w1 := we.alloc (.cells #[.int .i64 3] 3)) (by rfl) (by first | (go_simp; done) | (go_simp; rfl)) ?_
  have hba := below_alloc (Below.refl _ we) (.cells #[.int .i64 3] 3)
  have LIT := Aside0.mk (show (we.alloc (.cells #[.int .i64 3] 3)).heap[we.heap.size]? = some (.cells (G6.map (Value.int .i64)).toArray 3 (0, 0)) by rw [E6.out]; exact blk_new we _)
  have B := Aside0.mk (below_step B.out (hba))
  have T := Aside0.mk (blk_below T.out (hba))
  have N5 := Aside0.mk (blk_below N5.out (hba))
  have N7 := Aside0.mk (blk_below N7.out (hba))
  have RH := Aside0.mk (Kd.R_below RH.out (hba))
  have RW := Aside0.mk (Kd.R_below RW.out (hba))
  have RB := Aside0.mk (Kd.R_below RB.out (hba))
  have RG := Aside0.mk (Kd.R_below RG.out (hba))
  have RQ := Aside0.mk (Kd.R_below RQ.out (hba))
  clear hba
  generalize we.alloc (.cells #[.int .i64 3] 3) = wfa at LIT B T N5 N7 RH RW RB RG RQ ⊢
  refine hK.out _ _ ⟨(blk_cell (N5.out) 0).trans rfl, (blk_cell (N7.out) 0).trans rfl, (blk_cell (T.out) 0).trans rfl, (blk_cell (T.out) 1).trans rfl⟩ (fun hHeld => ?_)
  clear hK K
  refine norm_ (a' := ?_) ?_ ?_
  rotate_left
  · show Act.put _ (some 104) _ = _
    simp only [Act.put, List.setIfInBounds_toArray, List.set_cons_zero, List.set_cons_succ, i64_w, i32_w]
    rfl
  have hsc := same_calls A9 c9 G6 we.heap.size wfa (Kd.R_reads' RG.out).2.2 (Kd.R_reads' RG.out).2.1 (by rw [E6.out]; decide) LIT.out (by rw [E6.out]; kernel_rfl)
  rw [show (Value.slice (some ⟨we.heap.size, 0, none⟩) G6.length G6.length) = .slice (some ⟨we.heap.size, 0, none⟩) 1 1 by rw [E6.out]; rfl] at hsc
  have HSC := Aside0.mk hsc
  clear hsc LIT
  refine one_ (i := 15) (N := some 105) #[true, true, true, true, true, true, true, true, true, true, true, true, true, true, true, true, false, false, false, false, false, false, false, false, false, false, false, false, false, false, false, false, false, false] rfl rfl (by kernel_rfl) (by decide) (fun K hK => ?_)
  refine goes_ Try.func30 (by kernel_rfl) rfl #[.slice A9 G6.length c9, .slice (some ⟨we.heap.size, 0, none⟩) 1 1] (by rfl) rfl rfl (by (try simp only [List.map_toArray, List.map_cons, List.map_nil]); first | done | rfl) ?_
  refine HSC.out.mono ?_
  rintro e wf ⟨rfl, hb⟩
  refine ⟨_, rfl, ?_⟩
  have B := Aside0.mk (below_step B.out (hb))
  have T := Aside0.mk (blk_below T.out (hb))
  have N5 := Aside0.mk (blk_below N5.out (hb))
  have N7 := Aside0.mk (blk_below N7.out (hb))
  have RH := Aside0.mk (Kd.R_below RH.out (hb))
  have RW := Aside0.mk (Kd.R_below RW.out (hb))
  have RB := Aside0.mk (Kd.R_below RB.out (hb))
  have RG := Aside0.mk (Kd.R_below RG.out (hb))
  have RQ := Aside0.mk (Kd.R_below RQ.out (hb))
  clear hb HSC
  refine hK.out _ _ ⟨(blk_cell (N5.out) 0).trans rfl, (blk_cell (N7.out) 0).trans rfl, (blk_cell (T.out) 0).trans rfl, (blk_cell (T.out) 1).trans rfl⟩ (fun hHeld => ?_)
  clear hK K
  refine norm_ (a' := ?_) ?_ ?_
  rotate_left
  · show Act.put _ (some 105) _ = _
    simp only [Act.put, List.setIfInBounds_toArray, List.set_cons_zero, List.set_cons_succ, i64_w, i32_w]
    rfl
  refine pure_ (i := 16) (N := some 106) (v := ?_) (a' := ?_) #[true, true, true, true, true, true, true, true, true, true, true, true, true, true, true, true, true, false, false, false, false, false, false, false, false, false, false, false, false, false, false, false, false, false] rfl rfl (by kernel_rfl) (fun _ _ _ h => h) (Or.inl ⟨by rfl, ?_⟩) ?_ ?_
  rotate_left
  · intro w'
    go_simp
    with_reducible rfl
  rotate_left
  · simp only [Act.put, List.setIfInBounds_toArray, List.set_cons_zero, List.set_cons_succ, i64_w, i32_w]
    rfl
  refine pure_ (i := 17) (N := some 107) (v := ?_) (a' := ?_) #[true, true, true, true, true, true, true, true, true, true, true, true, true, true, true, true, true, true, false, false, false, false, false, false, false, false, false, false, false, false, false, false, false, false] rfl rfl (by kernel_rfl) (fun _ _ _ h => h) (Or.inl ⟨by rfl, ?_⟩) ?_ ?_
  rotate_left
  · intro w'
    go_simp
    with_reducible rfl
  rotate_left
  · simp only [Act.put, List.setIfInBounds_toArray, List.set_cons_zero, List.set_cons_succ, i64_w, i32_w]
    rfl
  refine pure_ (i := 18) (N := some 108) (v := ?_) (a' := ?_) #[true, true, true, true, true, true, true, true, true, true, true, true, true, true, true, true, true, true, true, false, false, false, false, false, false, false, false, false, false, false, false, false, false, false] rfl rfl (by kernel_rfl) (fun _ _ _ h => h) (Or.inl ⟨by rfl, ?_⟩) ?_ ?_
  rotate_left
  · intro w'
    go_simp
    with_reducible rfl
  rotate_left
  · simp only [Act.put, List.setIfInBounds_toArray, List.set_cons_zero, List.set_cons_succ, i64_w, i32_w]
    rfl
  refine pure_ (i := 19) (N := some 109) (v := ?_) (a' := ?_) #[true, true, true, true, true, true, true, true, true, true, true, true, true, true, true, true, true, true, true, true, false, false, false, false, false, false, false, false, false, false, false, false, false, false] rfl rfl (by kernel_rfl) (fun _ _ _ h => h) (Or.inl ⟨by rfl, ?_⟩) ?_ ?_
  rotate_left
  · intro w'
    go_simp
    with_reducible rfl
  rotate_left
  · simp only [Act.put, List.setIfInBounds_toArray, List.set_cons_zero, List.set_cons_succ, i64_w, i32_w]
    rfl
  refine pure_ (i := 20) (N := some 110) (v := ?_) (a' := ?_) #[true, true, true, true, true, true, true, true, true, true, true, true, true, true, true, true, true, true, true, true, true, false, false, false, false, false, false, false, false, false, false, false, false, false] rfl rfl (by kernel_rfl) (fun _ _ _ h => h) (Or.inl ⟨by rfl, ?_⟩) ?_ ?_
  rotate_left
  · intro w'
    go_simp
    with_reducible rfl
  rotate_left
  · simp only [Act.put, List.setIfInBounds_toArray, List.set_cons_zero, List.set_cons_succ, i64_w, i32_w]
    rfl
  refine pure_ (i := 21) (N := some 111) (v := ?_) (a' := ?_) #[true, true, true, true, true, true, true, true, true, true, true, true, true, true, true, true, true, true, true, true, true, true, false, false, false, false, false, false, false, false, false, false, false, false] rfl rfl (by kernel_rfl) (fun _ _ _ h => h) (Or.inl ⟨by rfl, ?_⟩) ?_ ?_
  rotate_left
  · intro w'
    go_simp
    with_reducible rfl
  rotate_left
  · simp only [Act.put, List.setIfInBounds_toArray, List.set_cons_zero, List.set_cons_succ, i64_w, i32_w]
    rfl
  refine pure_ (i := 22) (N := some 112) (v := ?_) (a' := ?_) #[true, true, true, true, true, true, true, true, true, true, true, true, true, true, true, true, true, true, true, true, true, true, true, false, false, false, false, false, false, false, false, false, false, false] rfl rfl (by kernel_rfl) (fun _ _ _ h => h) (Or.inl ⟨by rfl, ?_⟩) ?_ ?_
  rotate_left
  · intro w'
    go_simp
    with_reducible rfl
  rotate_left
  · simp only [Act.put, List.setIfInBounds_toArray, List.set_cons_zero, List.set_cons_succ, i64_w, i32_w]
    rfl
  refine take_ (i := 23) (N := some 113) (v := ?_) (a' := ?_) #[true, true, true, true, true, true, true, true, true, true, true, true, true, true, true, true, true, true, true, true, true, true, true, true, false, false, false, false, false, false, false, false, false, false] rfl rfl (by kernel_rfl) (fun _ _ _ h => h) (Or.inl ⟨by rfl, ?_⟩) hHeld ?_ ?_
  rotate_left
  · rintro w' ⟨s0, s1, s2, s3⟩
    go_simp
    with_reducible rfl
  rotate_left
  · simp only [Act.put, List.setIfInBounds_toArray, List.set_cons_zero, List.set_cons_succ, i64_w, i32_w]
    rfl
  refine one_ (i := 24) (N := some 114) #[true, true, true, true, true, true, true, true, true, true, true, true, true, true, true, true, true, true, true, true, true, true, true, true, true, false, false, false, false, false, false, false, false, false] rfl rfl (by kernel_rfl) (by decide) (fun K hK => ?_)
  refine event_step (v := .slice (some ⟨wf.heap.size, 0, none⟩) 1 1) (w1 := wf.alloc (.cells #[.int .i64 4] 3)) (by rfl) (by first | (go_simp; done) | (go_simp; rfl)) ?_
  have hba := below_alloc (Below.refl _ wf) (.cells #[.int .i64 4] 3)
  have LIT := Aside0.mk (show (wf.alloc (.cells #[.int .i64 4] 3)).heap[wf.heap.size]? = some (.cells (G7.map (Value.int .i64)).toArray 3 (0, 0)) by rw [E7.out]; exact blk_new wf _)
  have B := Aside0.mk (below_step B.out (hba))
  have T := Aside0.mk (blk_below T.out (hba))
  have N5 := Aside0.mk (blk_below N5.out (hba))
  have N7 := Aside0.mk (blk_below N7.out (hba))
  have RH := Aside0.mk (Kd.R_below RH.out (hba))
  have RW := Aside0.mk (Kd.R_below RW.out (hba))
  have RB := Aside0.mk (Kd.R_below RB.out (hba))
  have RG := Aside0.mk (Kd.R_below RG.out (hba))
  have RQ := Aside0.mk (Kd.R_below RQ.out (hba))
  clear hba
  generalize wf.alloc (.cells #[.int .i64 4] 3) = wga at LIT B T N5 N7 RH RW RB RG RQ ⊢
  refine hK.out _ _ ⟨(blk_cell (N5.out) 0).trans rfl, (blk_cell (N7.out) 0).trans rfl, (blk_cell (T.out) 0).trans rfl, (blk_cell (T.out) 1).trans rfl⟩ (fun hHeld => ?_)
  clear hK K
  refine norm_ (a' := ?_) ?_ ?_
  rotate_left
  · show Act.put _ (some 114) _ = _
    simp only [Act.put, List.setIfInBounds_toArray, List.set_cons_zero, List.set_cons_succ, i64_w, i32_w]
    rfl
  have hsc := same_calls A13 c13 G7 wf.heap.size wga (Kd.R_reads' RQ.out).2.2 (Kd.R_reads' RQ.out).2.1 (by rw [E7.out]; decide) LIT.out (by rw [E7.out]; kernel_rfl)
  rw [show (Value.slice (some ⟨wf.heap.size, 0, none⟩) G7.length G7.length) = .slice (some ⟨wf.heap.size, 0, none⟩) 1 1 by rw [E7.out]; rfl] at hsc
  have HSC := Aside0.mk hsc
  clear hsc LIT
  refine one_ (i := 25) (N := some 115) #[true, true, true, true, true, true, true, true, true, true, true, true, true, true, true, true, true, true, true, true, true, true, true, true, true, true, false, false, false, false, false, false, false, false] rfl rfl (by kernel_rfl) (by decide) (fun K hK => ?_)
  refine goes_ Try.func30 (by kernel_rfl) rfl #[.slice A13 G7.length c13, .slice (some ⟨wf.heap.size, 0, none⟩) 1 1] (by rfl) rfl rfl (by (try simp only [List.map_toArray, List.map_cons, List.map_nil]); first | done | rfl) ?_
  refine HSC.out.mono ?_
  rintro e wg ⟨rfl, hb⟩
  refine ⟨_, rfl, ?_⟩
  have B := Aside0.mk (below_step B.out (hb))
  have T := Aside0.mk (blk_below T.out (hb))
  have N5 := Aside0.mk (blk_below N5.out (hb))
  have N7 := Aside0.mk (blk_below N7.out (hb))
  have RH := Aside0.mk (Kd.R_below RH.out (hb))
  have RW := Aside0.mk (Kd.R_below RW.out (hb))
  have RB := Aside0.mk (Kd.R_below RB.out (hb))
  have RG := Aside0.mk (Kd.R_below RG.out (hb))
  have RQ := Aside0.mk (Kd.R_below RQ.out (hb))
  clear hb HSC
  refine hK.out _ _ ⟨(blk_cell (N5.out) 0).trans rfl, (blk_cell (N7.out) 0).trans rfl, (blk_cell (T.out) 0).trans rfl, (blk_cell (T.out) 1).trans rfl⟩ (fun hHeld => ?_)
  clear hK K
  refine norm_ (a' := ?_) ?_ ?_
  rotate_left
  · show Act.put _ (some 115) _ = _
    simp only [Act.put, List.setIfInBounds_toArray, List.set_cons_zero, List.set_cons_succ, i64_w, i32_w]
    rfl
  refine pure_ (i := 26) (N := some 116) (v := ?_) (a' := ?_) #[true, true, true, true, true, true, true, true, true, true, true, true, true, true, true, true, true, true, true, true, true, true, true, true, true, true, true, false, false, false, false, false, false, false] rfl rfl (by kernel_rfl) (fun _ _ _ h => h) (Or.inl ⟨by rfl, ?_⟩) ?_ ?_
  rotate_left
  · intro w'
    go_simp
    with_reducible rfl
  rotate_left
  · simp only [Act.put, List.setIfInBounds_toArray, List.set_cons_zero, List.set_cons_succ, i64_w, i32_w]
    rfl
  refine pure_ (i := 27) (N := some 117) (v := ?_) (a' := ?_) #[true, true, true, true, true, true, true, true, true, true, true, true, true, true, true, true, true, true, true, true, true, true, true, true, true, true, true, true, false, false, false, false, false, false] rfl rfl (by kernel_rfl) (fun _ _ _ h => h) (Or.inl ⟨by rfl, ?_⟩) ?_ ?_
  rotate_left
  · intro w'
    go_simp
    with_reducible rfl
  rotate_left
  · simp only [Act.put, List.setIfInBounds_toArray, List.set_cons_zero, List.set_cons_succ, i64_w, i32_w]
    rfl
  refine take_ (i := 28) (N := some 118) (v := ?_) (a' := ?_) #[true, true, true, true, true, true, true, true, true, true, true, true, true, true, true, true, true, true, true, true, true, true, true, true, true, true, true, true, true, false, false, false, false, false] rfl rfl (by kernel_rfl) (fun _ _ _ h => h) (Or.inl ⟨by rfl, ?_⟩) hHeld ?_ ?_
  rotate_left
  · rintro w' ⟨s0, s1, s2, s3⟩
    go_simp
    with_reducible rfl
  rotate_left
  · simp only [Act.put, List.setIfInBounds_toArray, List.set_cons_zero, List.set_cons_succ, i64_w, i32_w]
    rfl
  refine one_ (i := 29) (N := some 119) #[true, true, true, true, true, true, true, true, true, true, true, true, true, true, true, true, true, true, true, true, true, true, true, true, true, true, true, true, true, true, false, false, false, false] rfl rfl (by kernel_rfl) (by decide) (fun K hK => ?_)
  refine goes_ Try.func44 (by kernel_rfl) rfl #[.int .i64 5, .int .i64 5, .int .i64 1, .bool true] (by rfl) rfl rfl (by (try simp only [List.map_toArray, List.map_cons, List.map_nil]); first | done | rfl) ?_
  refine (on_calls _ _ _ _ _).mono ?_
  rintro e wh ⟨rfl, hb⟩
  refine ⟨_, rfl, ?_⟩
  have B := Aside0.mk (below_step B.out (hb))
  have T := Aside0.mk (blk_below T.out (hb))
  have N5 := Aside0.mk (blk_below N5.out (hb))
  have N7 := Aside0.mk (blk_below N7.out (hb))
  have RH := Aside0.mk (Kd.R_below RH.out (hb))
  have RW := Aside0.mk (Kd.R_below RW.out (hb))
  have RB := Aside0.mk (Kd.R_below RB.out (hb))
  have RG := Aside0.mk (Kd.R_below RG.out (hb))
  have RQ := Aside0.mk (Kd.R_below RQ.out (hb))
  clear hb
  refine hK.out _ _ ⟨(blk_cell (N5.out) 0).trans rfl, (blk_cell (N7.out) 0).trans rfl, (blk_cell (T.out) 0).trans rfl, (blk_cell (T.out) 1).trans rfl⟩ (fun hHeld => ?_)
  clear hK K
  refine norm_ (a' := ?_) ?_ ?_
  rotate_left
  · show Act.put _ (some 119) _ = _
    simp only [Act.put, List.setIfInBounds_toArray, List.set_cons_zero, List.set_cons_succ, i64_w, i32_w]
    rfl
  refine one_ (i := 30) (N := some 120) #[true, true, true, true, true, true, true, true, true, true, true, true, true, true, true, true, true, true, true, true, true, true, true, true, true, true, true, true, true, true, true, false, false, false] rfl rfl (by kernel_rfl) (by decide) (fun K hK => ?_)
  refine goes_ Try.func28 (by kernel_rfl) rfl #[.agg #[.slice A7 W3.length c7, .slice A8 W6.length c8], .agg #[.int .i64 L5.f0, .int .i64 L5.f1, .int .i64 L5.f2, .int .i64 L5.f3, .bool L5.f4]] (by rfl) rfl rfl (by (try simp only [List.map_toArray, List.map_cons, List.map_nil]); first | done | rfl) ?_
  refine (may_calls A7 A8 c7 c8 W3 W6 L5 _ (Kd.R_reads' RH.out).2.2 (Kd.R_reads' RW.out).2.2 (by have := LN.out; omega)).mono ?_
  rintro e wi ⟨rfl, hb⟩
  rw [F8.out]
  refine ⟨_, rfl, ?_⟩
  have B := Aside0.mk (below_step B.out (hb))
  have T := Aside0.mk (blk_below T.out (hb))
  have N5 := Aside0.mk (blk_below N5.out (hb))
  have N7 := Aside0.mk (blk_below N7.out (hb))
  have RH := Aside0.mk (Kd.R_below RH.out (hb))
  have RW := Aside0.mk (Kd.R_below RW.out (hb))
  have RB := Aside0.mk (Kd.R_below RB.out (hb))
  have RG := Aside0.mk (Kd.R_below RG.out (hb))
  have RQ := Aside0.mk (Kd.R_below RQ.out (hb))
  clear hb
  refine hK.out _ _ ⟨(blk_cell (N5.out) 0).trans rfl, (blk_cell (N7.out) 0).trans rfl, (blk_cell (T.out) 0).trans rfl, (blk_cell (T.out) 1).trans rfl⟩ (fun hHeld => ?_)
  clear hK K
  refine norm_ (a' := ?_) ?_ ?_
  rotate_left
  · show Act.put _ (some 120) _ = _
    simp only [Act.put, List.setIfInBounds_toArray, List.set_cons_zero, List.set_cons_succ, i64_w, i32_w]
    rfl
  refine pure_ (i := 31) (N := some 121) (v := ?_) (a' := ?_) #[true, true, true, true, true, true, true, true, true, true, true, true, true, true, true, true, true, true, true, true, true, true, true, true, true, true, true, true, true, true, true, true, false, false] rfl rfl (by kernel_rfl) (fun _ _ _ h => h) (Or.inl ⟨by rfl, ?_⟩) ?_ ?_
  rotate_left
  · intro w'
    go_simp
    with_reducible rfl
  rotate_left
  · simp only [Act.put, List.setIfInBounds_toArray, List.set_cons_zero, List.set_cons_succ, i64_w, i32_w]
    rfl
  refine pure_ (i := 32) (N := some 122) (v := ?_) (a' := ?_) #[true, true, true, true, true, true, true, true, true, true, true, true, true, true, true, true, true, true, true, true, true, true, true, true, true, true, true, true, true, true, true, true, true, false] rfl rfl (by kernel_rfl) (fun _ _ _ h => h) (Or.inl ⟨by rfl, ?_⟩) ?_ ?_
  rotate_left
  · intro w'
    go_simp
    with_reducible rfl
  rotate_left
  · simp only [Act.put, List.setIfInBounds_toArray, List.set_cons_zero, List.set_cons_succ, i64_w, i32_w]
    rfl
  refine pure_ (i := 33) (N := some 0) (v := ?_) (a' := ?_) #[true, true, true, true, true, true, true, true, true, true, true, true, true, true, true, true, true, true, true, true, true, true, true, true, true, true, true, true, true, true, true, true, true, true] rfl rfl (by kernel_rfl) (fun _ _ _ h => h) (Or.inl ⟨by rfl, ?_⟩) ?_ ?_
  rotate_left
  · intro w'
    go_simp
    with_reducible rfl
  rotate_left
  · simp only [Act.put, List.setIfInBounds_toArray, List.set_cons_zero, List.set_cons_succ, i64_w, i32_w]
    rfl
  refine done_ (by kernel_rfl) ?_
  go_wp2
  go_ret
  exact ⟨rfl, B.out⟩
end Go.Proofs.Ytifnfnoicinbaaa.M
