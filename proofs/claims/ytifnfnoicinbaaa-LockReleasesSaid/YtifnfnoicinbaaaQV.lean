/- The reference's Close. -/
import Derived.Test.YtifnfnoicinbaaaQU
import Derived.Test.YtifnfnoicinbaaaF73
namespace Go.Proofs.Ytifnfnoicinbaaa.M
open Go.RowKit Go.Proofs.YtifnfnoicinbaaaW.PrintWords Go.Proofs.YtifnfnoicinbaaaW.PrintLast Go.Proofs.YtifnfnoicinbaaaW.PrintMore
set_option linter.unusedVariables false
set_option linter.unusedSimpArgs false
set_option linter.unnecessarySimpa false
attribute [local go_sem high] eqA24

theorem others_l (l : List S24) (x : Int) (hl : l.length ≤ 1000) : ∀ (n i : Nat) (acc : List S24), i + n = l.length → acc.length ≤ i → archivoltref31_others.l0 (n + 1) l x acc (i : Int) = some (acc ++ (l.drop i).filter (fun y => !(hdL y == x)))
  | 0, i, acc, hi, ha => by
    unfold archivoltref31_others.l0
    rw [if_neg (by omega), List.drop_of_length_le (by omega)]
    simp
  | n + 1, i, acc, hi, ha => by
    have hil : i < l.length := by omega
    have e : wrap64 ((i : Int) + 1) = ((i + 1 : Nat) : Int) := by unfold wrap64; omega
    rw [archivoltref31_others.l0, if_pos (by omega), if_pos (by omega), e, rd_at hil, drop_at' hil, List.filter_cons]
    by_cases h : l[i].f1 = x
    · rw [if_pos h, others_l l x hl n (i + 1) acc (by omega) (by omega), show (hdL l[i] == x) = true from beq_iff_eq.2 h]
      rfl
    · rw [if_neg h, if_pos (by omega), others_l l x hl n (i + 1) _ (by omega) (by simp; omega), show (hdL l[i] == x) = false from beq_eq_false_iff_ne.2 h, List.append_assoc]
      rfl
theorem othersR_calls (A : Option Addr) (c : Nat) (l : List S24) (x : Int) (w : World) (F : List S24) (hF : F = l.filter (fun y => !(hdL y == x))) (h : k24.C w A l.length l) (hc : l.length ≤ c) (hl : l.length ≤ 1000) :
    Calls Try.prog 73 #[.slice A l.length c, .int .i64 x] w fun e w' => ∃ v : Value, e = .returned v ∧ k24.R 24 w' w.heap.size (fun _ => True) v F ∧ Below w.heap.size w w' := by
  subst hF
  refine archivoltref31_others.calls (l.length + 1) A c l x _ w h hc ?_
  have h0 := others_l l x hl l.length 0 [] (by omega) (by simp)
  unfold archivoltref31_others.f
  simpa using h0
theorem close_good {H W F1 F2 : List S24} {x : Int} (h : Inv H W) (h1 : F1 = H.filter (fun y => !(hdL y == x))) (h2 : F2 = W.filter (fun y => !(hdL y == x))) (hl : H.length + W.length ≤ 1000) :
    (∀ y ∈ F1, vL y = true) ∧ (∀ y ∈ F2, vL y = true) ∧ PL.Single hdL F2 ∧ F1.length + F2.length ≤ 1000 := by
  subst h1
  subst h2
  refine ⟨fun y hy => h.allH y (List.mem_filter.1 hy).1, fun y hy => h.allW y (List.mem_filter.1 hy).1, ?_, ?_⟩
  · have h9 := h.single
    unfold PL.Single at *
    exact h9.sublist (List.filter_sublist.map _)
  · have h8 := List.length_filter_le (fun y => !(hdL y == x)) H
    have h9 := List.length_filter_le (fun y => !(hdL y == x)) W
    omega
/-- What the orders of a region leave: a row, a box, the settled table. -/
abbrev RwC (w0 w : World) (v : Value) (xs : List S24) : Prop := k24.R 24 w w0.heap.size (fun _ => True) v xs
theorem RwC.move {w0 w w' : World} {v : Value} {xs : List S24} (h : RwC w0 w v xs) (hb : Below w.heap.size w w') : RwC w0 w' v xs := Kd.R_below h hb
theorem RwC.of {w0 w w' : World} {v : Value} {xs : List S24} (h : k24.R 24 w' w.heap.size (fun _ => True) v xs) (hb : Below w0.heap.size w0 w) : RwC w0 w' v xs := Kd.R_lower h hb.size
abbrev BoxC (w0 w : World) (g t : Nat) : Prop := w0.heap.size ≤ g ∧ w.heap[g]? = some (.cells #[.slice none 0 0, .slice none 0 0] t (0, 0))
theorem BoxC.move {w0 w w' : World} {g t : Nat} (h : BoxC w0 w g t) (hb : Below w.heap.size w w') : BoxC w0 w' g t := ⟨h.1, blk_below h.2 hb⟩
theorem BoxC.of {w0 w w' : World} {g t : Nat} (hg : g = w.heap.size) (h : w'.heap[g]? = some (.cells #[.slice none 0 0, .slice none 0 0] t (0, 0))) (hb : Below w0.heap.size w0 w) : BoxC w0 w' g t := ⟨hg ▸ hb.size, h⟩
structure SetC (w0 w : World) (vH vW vG vN : Value) (R : List S24 × List S24 × List Int × List Int) : Prop where
  ph : k24.R 24 w w0.heap.size (fun _ => True) vH R.1
  pw : k24.R 24 w w0.heap.size (fun _ => True) vW R.2.1
  pg : kI.R 3 w w0.heap.size (fun _ => True) vG R.2.2.1
  pn : kI.R 3 w w0.heap.size (fun _ => True) vN R.2.2.2
theorem SetC.move {w0 w w' : World} {vH vW vG vN : Value} {R : List S24 × List S24 × List Int × List Int} (h : SetC w0 w vH vW vG vN R) (hb : Below w.heap.size w w') : SetC w0 w' vH vW vG vN R := ⟨Kd.R_below h.ph hb, Kd.R_below h.pw hb, Kd.R_below h.pg hb, Kd.R_below h.pn hb⟩
theorem SetC.of {w0 w w' : World} {vH vW vG vN : Value} {R : List S24 × List S24 × List Int × List Int} (h1 : k24.R 24 w' w.heap.size (fun _ => True) vH R.1) (h2 : k24.R 24 w' w.heap.size (fun _ => True) vW R.2.1) (h3 : kI.R 3 w' w.heap.size (fun _ => True) vG R.2.2.1) (h4 : kI.R 3 w' w.heap.size (fun _ => True) vN R.2.2.2) (hb : Below w0.heap.size w0 w) : SetC w0 w' vH vW vG vN R := ⟨Kd.R_lower h1 hb.size, Kd.R_lower h2 hb.size, Kd.R_lower h3 hb.size, Kd.R_lower h4 hb.size⟩
section
variable {P : Program} {md : Region.Mode} {ops : Array Oper} {Q : Exit → Act → World → Prop} {S : World → Prop} {ds : List Nat}
theorem three_ {i j k : Nat} {Ni Nj Nk : Option Tmp} {oi oj ok : Oper} {fuel : Nat} {l : Array Bool} {a : Act} {w : World} (li lj lk : Array Bool) (hi : ops[i]? = some oi) (hj : ops[j]? = some oj) (hk : ops[k]? = some ok) (hNi : oi.dst = Ni) (hNj : oj.dst = Nj) (hNk : ok.dst = Nk)
    (hc : (Region.ready md ops l == [i, j, k] && l.setIfInBounds i true == li && l.setIfInBounds j true == lj && l.setIfInBounds k true == lk) = true) (hdi : i ∉ ds) (hdj : j ∉ ds) (hdk : k ∉ ds)
    (h1 : ∀ K : Act → World → Prop, Shut (∀ a' w', S w' → (S w' → wpAnyLast P md ops Q S ds fuel li a' w') → K a' w') → if Region.wanted oi (yielded ops a.tmps) = true then Oper.wp P oi a w K Q else K (a.put Ni undef) w)
    (h2 : ∀ K : Act → World → Prop, Shut (∀ a' w', S w' → (S w' → wpAnyLast P md ops Q S ds fuel lj a' w') → K a' w') → if Region.wanted oj (yielded ops a.tmps) = true then Oper.wp P oj a w K Q else K (a.put Nj undef) w)
    (h3 : ∀ K : Act → World → Prop, Shut (∀ a' w', S w' → (S w' → wpAnyLast P md ops Q S ds fuel lk a' w') → K a' w') → if Region.wanted ok (yielded ops a.tmps) = true then Oper.wp P ok a w K Q else K (a.put Nk undef) w) :
    wpAnyLast P md ops Q S ds (fuel + 1) l a w := by
  subst hNi
  subst hNj
  subst hNk
  simp only [Bool.and_eq_true, beq_iff_eq] at hc
  obtain ⟨⟨⟨h4, h5⟩, h6⟩, h7⟩ := hc
  subst h5
  subst h6
  subst h7
  exact wpAnyLast_ready h4 (by simp) (AllReadyL.cons hi hdi (fun K hK => h1 K hK) (AllReadyL.cons hj hdj (fun K hK => h2 K hK) (AllReadyL.cons hk hdk (fun K hK => h3 K hK) AllReadyL.nil)))
end
set_option maxRecDepth 100000 in
set_option maxHeartbeats 8000000 in
theorem closeR_calls (A B : Option Addr) (c d : Nat) (H W : List S24) (x : Int) (w : World) (h1 : k24.C w A H.length H) (h2 : k24.C w B W.length W) (l1 : H.length ≤ c) (l2 : W.length ≤ d) (hlen : H.length + W.length ≤ 1000) :
    Calls Try.prog 41 #[.agg #[.slice A H.length c, .slice B W.length d], .int .i64 x] w fun e w' => RetN w (closeF H W x).1 (closeF H W x).2 e w' := by
  have HC1 := Aside0.mk h1
  have HC2 := Aside0.mk h2
  clear h1 h2
  go_enter Try.func41, Try.ntmps41
  go_upto_region 1 with (fail)
  have hb_ := below_alloc (below_alloc (below_alloc (Below.refl _ w) (.cells #[.slice A H.length c, .slice B W.length d] 29)) (.cells #[.slice none 0 0, .slice none 0 0] 29)) (.cells #[.slice none 0 0, .slice none 0 0] 33)
  have hG0_ := blk_alloc (blk_alloc (blk_lit0 w (.cells #[.slice A H.length c, .slice B W.length d] 29)) (.cells #[.slice none 0 0, .slice none 0 0] 29)) (.cells #[.slice none 0 0, .slice none 0 0] 33)
  have hG1_ := blk_alloc (blk_lit w (.cells #[.slice A H.length c, .slice B W.length d] 29) (.cells #[.slice none 0 0, .slice none 0 0] 29)) (.cells #[.slice none 0 0, .slice none 0 0] 33)
  have hG2_ := blk_lit2 w (.cells #[.slice A H.length c, .slice B W.length d] 29) (.cells #[.slice none 0 0, .slice none 0 0] 29) (.cells #[.slice none 0 0, .slice none 0 0] 33)
  generalize (((w.alloc (.cells #[.slice A H.length c, .slice B W.length d] 29)).alloc (.cells #[.slice none 0 0, .slice none 0 0] 29)).alloc (.cells #[.slice none 0 0, .slice none 0 0] 33)) = V at hb_ hG0_ hG1_ hG2_ ⊢
  have HB_V := Aside0.mk hb_
  have V0 := Aside0.mk hG0_
  have V1 := Aside0.mk hG1_
  have V2 := Aside0.mk hG2_
  clear hb_ hG0_ hG1_ hG2_
  have x0 := (blk_cell V0.out 0).trans rfl; have x1 := (blk_cell V0.out 1).trans rfl
  go_upto_region 2 with (fail)
  refine (handlesR_calls A B c d H W x _ (Kd.C_below HC1.out HB_V.out) (Kd.C_below HC2.out HB_V.out) l1 l2 hlen).mono ?_
  rintro e w2 ⟨rfl, hb⟩
  have T2 := Aside0.mk (blk_below V0.out hb)
  have T4 := Aside0.mk (blk_below V1.out hb)
  have T5 := Aside0.mk (blk_below V2.out hb)
  have BB := Aside0.mk (below_step HB_V.out hb)
  clear hb x0 x1 HB_V V0 V1 V2
  by_cases hz : begE H W (knownB x) = 0
  rotate_left
  · have HE := Aside0.mk (show closeF H W x = (([], [], [], []), begE H W (knownB x)) by unfold closeF; rw [if_neg hz])
    have hf : (begE H W (knownB x) != 0) = true := by simpa [bne] using hz
    generalize begE H W (knownB x) = E at HE hf ⊢
    clear hz
    have r0 := (blk_cell T4.out 0).trans rfl; have r1 := (blk_cell T4.out 1).trans rfl
    have fr0 := blk_frozen T4.out 0; have fr1 := blk_frozen T4.out 1
    have s0 := (blk_cell T5.out 0).trans rfl; have s1 := (blk_cell T5.out 1).trans rfl
    have fs0 := blk_frozen T5.out 0; have fs1 := blk_frozen T5.out 1
    go_upto_region 4 with (fail)
    clear r0 r1 fr0 fr1 s0 s1 fs0 fs1
    have P_ := Aside0.mk (put_two (n := w.heap.size) (w := w) (.slice none 0 0) (.slice none 0 0) T4.out BB.out (by omega))
    have T2_ := Aside0.mk (two_far' (.slice none 0 0) (.slice none 0 0) T2.out (show w.heap.size ≠ w.heap.size + 1 by omega))
    have T5_ := Aside0.mk (two_far (.slice none 0 0) (.slice none 0 0) T5.out T4.out (by decide))
    have BB_ := Aside0.mk P_.out.2
    have T4_ := Aside0.mk P_.out.1
    clear P_ BB T2 T4 T5
    generalize ((w2).setCell ⟨w.heap.size + 1, 0, none⟩ (.slice none 0 0)).setCell ⟨w.heap.size + 1, 1, none⟩ (.slice none 0 0) = wy at BB_ T2_ T4_ T5_ ⊢
    have BB := BB_
    have T2 := T2_
    have T4 := T4_
    have T5 := T5_
    clear BB_ T2_ T4_ T5_
    have P_ := Aside0.mk (put_two (n := w.heap.size) (w := w) (.slice none 0 0) (.slice none 0 0) T5.out BB.out (by omega))
    have T2_ := Aside0.mk (two_far (.slice none 0 0) (.slice none 0 0) T2.out T5.out (by decide))
    have T4_ := Aside0.mk (two_far (.slice none 0 0) (.slice none 0 0) T4.out T5.out (by decide))
    have BB_ := Aside0.mk P_.out.2
    have T5_ := Aside0.mk P_.out.1
    clear P_ BB T2 T4 T5
    generalize ((wy).setCell ⟨w.heap.size + 1 + 1, 0, none⟩ (.slice none 0 0)).setCell ⟨w.heap.size + 1 + 1, 1, none⟩ (.slice none 0 0) = wz at BB_ T2_ T4_ T5_ ⊢
    have BB := BB_
    have T2 := T2_
    have T4 := T4_
    have T5 := T5_
    clear BB_ T2_ T4_ T5_
    go_wp2
    refine bodyPost_ret (results_cells3 rfl rfl rfl (loadVar_two 29 (by kernel_rfl) (by kernel_rfl) T4.out) (loadVar_two 33 (by kernel_rfl) (by kernel_rfl) T5.out)) rfl ?_
    show RetN w (closeF H W x).1 (closeF H W x).2 _ _
    rw [HE.out]
    exact ⟨_, _, rfl, tabV_nil _ _, newsV_nil _ _, BB.out⟩
  obtain ⟨F1, hF1⟩ : ∃ F, F = H.filter (fun y => !(hdL y == x)) := ⟨_, rfl⟩
  obtain ⟨F2, hF2⟩ : ∃ F, F = W.filter (fun y => !(hdL y == x)) := ⟨_, rfl⟩
  have HF1 := Aside0.mk hF1
  have HF2 := Aside0.mk hF2
  have HI := Inv.iff.2 (beg_zero hz).1
  have HGD := Aside0.mk (close_good HI hF1 hF2 hlen)
  have HE := Aside0.mk (show closeF H W x = (settleL F1 F2, 0) by unfold closeF; rw [if_pos hz, hF1, hF2])
  rw [hz]
  clear hz HI hF1 hF2
  have HC1 := Aside0.mk (Kd.C_below HC1.out BB.out)
  have HC2 := Aside0.mk (Kd.C_below HC2.out BB.out)
  have x0 := (blk_cell T2.out 0).trans rfl; have x1 := (blk_cell T2.out 1).trans rfl
  go_upto_region 4 with (fail)
  have HB := Aside0.mk (below_drew1 (Below.refl w2.heap.size w2))
  refine start_ (n := 17) (S := fun w' => Below w2.heap.size w2 w') (ds := [15, 16]) #[false, false, false, false, false, false, false, false, false, false, false, false, false, false, false, false, false] (by kernel_rfl) rfl rfl (HB.out) (fun hHeld => ?_)
  generalize w2.drew = wd at HB hHeld ⊢
  refine pure_ (i := 0) (N := some 19) (v := ?_) (a' := ?_) #[true, false, false, false, false, false, false, false, false, false, false, false, false, false, false, false, false] rfl rfl (by kernel_rfl) (fun _ _ _ h => h) (Or.inl ⟨by rfl, ?_⟩) ?_ ?_
  rotate_left
  · intro w'
    go_simp
    with_reducible rfl
  rotate_left
  · simp only [Act.put, List.setIfInBounds_toArray, List.set_cons_zero, List.set_cons_succ, i64_w, i32_w]
    rfl
  refine take_ (i := 1) (N := some 20) (v := ?_) (a' := ?_) #[true, true, false, false, false, false, false, false, false, false, false, false, false, false, false, false, false] rfl rfl (by kernel_rfl) (fun _ _ _ h => h) (Or.inl ⟨by rfl, ?_⟩) hHeld ?_ ?_
  rotate_left
  · rintro w' s0
    have q0 := pw_cell_below s0 x0
    go_simp
    with_reducible rfl
  rotate_left
  · simp only [Act.put, List.setIfInBounds_toArray, List.set_cons_zero, List.set_cons_succ, i64_w, i32_w]
    rfl
  refine pure_ (i := 2) (N := some 21) (v := ?_) (a' := ?_) #[true, true, true, false, false, false, false, false, false, false, false, false, false, false, false, false, false] rfl rfl (by kernel_rfl) (fun _ _ _ h => h) (Or.inl ⟨by rfl, ?_⟩) ?_ ?_
  rotate_left
  · intro w'
    go_simp
    with_reducible rfl
  rotate_left
  · simp only [Act.put, List.setIfInBounds_toArray, List.set_cons_zero, List.set_cons_succ, i64_w, i32_w]
    rfl
  refine pure_ (i := 4) (N := some 23) (v := ?_) (a' := ?_) #[true, true, true, false, true, false, false, false, false, false, false, false, false, false, false, false, false] rfl rfl (by kernel_rfl) (fun _ _ _ h => h) (Or.inl ⟨by rfl, ?_⟩) ?_ ?_
  rotate_left
  · intro w'
    go_simp
    with_reducible rfl
  rotate_left
  · simp only [Act.put, List.setIfInBounds_toArray, List.set_cons_zero, List.set_cons_succ, i64_w, i32_w]
    rfl
  refine take_ (i := 5) (N := some 24) (v := ?_) (a' := ?_) #[true, true, true, false, true, true, false, false, false, false, false, false, false, false, false, false, false] rfl rfl (by kernel_rfl) (fun _ _ _ h => h) (Or.inl ⟨by rfl, ?_⟩) hHeld ?_ ?_
  rotate_left
  · rintro w' s0
    have q0 := pw_cell_below s0 x1
    go_simp
    with_reducible rfl
  rotate_left
  · simp only [Act.put, List.setIfInBounds_toArray, List.set_cons_zero, List.set_cons_succ, i64_w, i32_w]
    rfl
  refine pure_ (i := 6) (N := some 25) (v := ?_) (a' := ?_) #[true, true, true, false, true, true, true, false, false, false, false, false, false, false, false, false, false] rfl rfl (by kernel_rfl) (fun _ _ _ h => h) (Or.inl ⟨by rfl, ?_⟩) ?_ ?_
  rotate_left
  · intro w'
    go_simp
    with_reducible rfl
  rotate_left
  · simp only [Act.put, List.setIfInBounds_toArray, List.set_cons_zero, List.set_cons_succ, i64_w, i32_w]
    rfl
  clear x0 x1
  refine join_ (σ := Value × Value × Value × Value × Value × Value × Nat × Nat) 2 #[true, true, true, true, true, true, true, true, true, true, true, true, true, true, true, false, false] (fun s => [(22, s.1), (26, s.2.1), (27, .agg #[s.1, s.2.1]), (28, .tuple #[.agg #[s.2.2.1, s.2.2.2.1], .agg #[s.2.2.2.2.1, s.2.2.2.2.2.1]]), (18, .tuple #[.agg #[s.2.2.1, s.2.2.2.1], .agg #[s.2.2.2.2.1, s.2.2.2.2.2.1]]), (29, .agg #[s.2.2.1, s.2.2.2.1]), (30, .agg #[s.2.2.2.2.1, s.2.2.2.2.2.1]), (8, .pointer (some ⟨s.2.2.2.2.2.2.1, 0, none⟩)), (9, .pointer (some ⟨s.2.2.2.2.2.2.2, 0, none⟩))]) (fun s w' => Below w2.heap.size w2 w' ∧ SetC w2 w' s.2.2.1 s.2.2.2.1 s.2.2.2.2.1 s.2.2.2.2.2.1 (settleL F1 F2) ∧ BoxC w2 w' s.2.2.2.2.2.2.1 29 ∧ BoxC w2 w' s.2.2.2.2.2.2.2 33) ?_ ?_
  rotate_left
  · intro hC311
    refine join_ (σ := Value × Value × Value × Value × Value × Value × Nat × Nat) 3 #[true, true, true, true, true, true, true, true, true, true, true, true, true, true, false, false, false] (fun s => [(22, s.1), (26, s.2.1), (27, .agg #[s.1, s.2.1]), (28, .tuple #[.agg #[s.2.2.1, s.2.2.2.1], .agg #[s.2.2.2.2.1, s.2.2.2.2.2.1]]), (18, .tuple #[.agg #[s.2.2.1, s.2.2.2.1], .agg #[s.2.2.2.2.1, s.2.2.2.2.2.1]]), (29, .agg #[s.2.2.1, s.2.2.2.1]), (30, .agg #[s.2.2.2.2.1, s.2.2.2.2.2.1]), (8, .pointer (some ⟨s.2.2.2.2.2.2.1, 0, none⟩))]) (fun s w' => Below w2.heap.size w2 w' ∧ SetC w2 w' s.2.2.1 s.2.2.2.1 s.2.2.2.2.1 s.2.2.2.2.2.1 (settleL F1 F2) ∧ BoxC w2 w' s.2.2.2.2.2.2.1 29) ?_ ?_
    · clear HB hHeld
      rintro ⟨v1, v2, vH, vW, vG, vN, ga, gb⟩ y ⟨hHB, hHVS, hHXa⟩
      simp only [putAll, Act.put, List.setIfInBounds_toArray, List.set_cons_zero, List.set_cons_succ]
      have HB := Aside0.mk hHB
      have HVS := Aside0.mk hHVS
      have HXa := Aside0.mk hHXa
      clear hHB hHVS hHXa
      have hHeld := HB.out
      skip
      refine one_ (i := 14) (N := some 9) #[true, true, true, true, true, true, true, true, true, true, true, true, true, true, true, false, false] rfl rfl (by kernel_rfl) (by decide) (fun K hK => ?_)
      refine box_step ?hg (N := 9) ?hd (cs := #[.slice none 0 0, .slice none 0 0]) (t := 33) ?hr ?_
      (case hd => rfl)
      (case hg => rfl)
      (case hr => first | (go_simp; done) | (go_simp; rfl))
      intro gb hg z hbox hb
      have HVS := Aside0.mk (HVS.out.move hb)
      have HXa := Aside0.mk (HXa.out.move hb)
      have HXb := Aside0.mk (BoxC.of hg hbox HB.out)
      have HB := Aside0.mk (below_step HB.out hb)
      clear hbox hb hg
      skip
      refine hK.out _ _ HB.out (fun hHeld => ?_)
      clear hK K
      refine norm_ ?_ (hC311 (v1, v2, vH, vW, vG, vN, ga, gb) _ ⟨HB.out, HVS.out, HXa.out, HXb.out⟩)
      show Act.put _ (some 9) _ = _
      first | (simp only [putAll, Act.put, List.setIfInBounds_toArray, List.set_cons_zero, List.set_cons_succ]; done) | rfl
    intro hC310
    refine join_ (σ := Value × Value × Value × Value × Value × Value × Nat × Nat) 3 #[true, true, true, true, true, true, true, true, true, true, true, true, true, false, true, false, false] (fun s => [(22, s.1), (26, s.2.1), (27, .agg #[s.1, s.2.1]), (28, .tuple #[.agg #[s.2.2.1, s.2.2.2.1], .agg #[s.2.2.2.2.1, s.2.2.2.2.2.1]]), (18, .tuple #[.agg #[s.2.2.1, s.2.2.2.1], .agg #[s.2.2.2.2.1, s.2.2.2.2.2.1]]), (29, .agg #[s.2.2.1, s.2.2.2.1]), (30, .agg #[s.2.2.2.2.1, s.2.2.2.2.2.1]), (9, .pointer (some ⟨s.2.2.2.2.2.2.2, 0, none⟩))]) (fun s w' => Below w2.heap.size w2 w' ∧ SetC w2 w' s.2.2.1 s.2.2.2.1 s.2.2.2.2.1 s.2.2.2.2.2.1 (settleL F1 F2) ∧ BoxC w2 w' s.2.2.2.2.2.2.2 33) ?_ ?_
    · clear HB hHeld
      rintro ⟨v1, v2, vH, vW, vG, vN, ga, gb⟩ y ⟨hHB, hHVS, hHXb⟩
      simp only [putAll, Act.put, List.setIfInBounds_toArray, List.set_cons_zero, List.set_cons_succ]
      have HB := Aside0.mk hHB
      have HVS := Aside0.mk hHVS
      have HXb := Aside0.mk hHXb
      clear hHB hHVS hHXb
      have hHeld := HB.out
      skip
      refine one_ (i := 13) (N := some 8) #[true, true, true, true, true, true, true, true, true, true, true, true, true, true, true, false, false] rfl rfl (by kernel_rfl) (by decide) (fun K hK => ?_)
      refine box_step ?hg (N := 8) ?hd (cs := #[.slice none 0 0, .slice none 0 0]) (t := 29) ?hr ?_
      (case hd => rfl)
      (case hg => rfl)
      (case hr => first | (go_simp; done) | (go_simp; rfl))
      intro ga hg z hbox hb
      have HVS := Aside0.mk (HVS.out.move hb)
      have HXb := Aside0.mk (HXb.out.move hb)
      have HXa := Aside0.mk (BoxC.of hg hbox HB.out)
      have HB := Aside0.mk (below_step HB.out hb)
      clear hbox hb hg
      skip
      refine hK.out _ _ HB.out (fun hHeld => ?_)
      clear hK K
      refine norm_ ?_ (hC311 (v1, v2, vH, vW, vG, vN, ga, gb) _ ⟨HB.out, HVS.out, HXa.out, HXb.out⟩)
      show Act.put _ (some 8) _ = _
      first | (simp only [putAll, Act.put, List.setIfInBounds_toArray, List.set_cons_zero, List.set_cons_succ]; done) | rfl
    intro hC301
    refine join_ (σ := Value × Value × Value × Value × Value × Value × Nat × Nat) 4 #[true, true, true, true, true, true, true, true, true, true, true, true, true, false, false, false, false] (fun s => [(22, s.1), (26, s.2.1), (27, .agg #[s.1, s.2.1]), (28, .tuple #[.agg #[s.2.2.1, s.2.2.2.1], .agg #[s.2.2.2.2.1, s.2.2.2.2.2.1]]), (18, .tuple #[.agg #[s.2.2.1, s.2.2.2.1], .agg #[s.2.2.2.2.1, s.2.2.2.2.2.1]]), (29, .agg #[s.2.2.1, s.2.2.2.1]), (30, .agg #[s.2.2.2.2.1, s.2.2.2.2.2.1])]) (fun s w' => Below w2.heap.size w2 w' ∧ SetC w2 w' s.2.2.1 s.2.2.2.1 s.2.2.2.2.1 s.2.2.2.2.2.1 (settleL F1 F2)) ?_ ?_
    · clear HB hHeld
      rintro ⟨v1, v2, vH, vW, vG, vN, ga, gb⟩ y ⟨hHB, hHVS⟩
      simp only [putAll, Act.put, List.setIfInBounds_toArray, List.set_cons_zero, List.set_cons_succ]
      have HB := Aside0.mk hHB
      have HVS := Aside0.mk hHVS
      clear hHB hHVS
      have hHeld := HB.out
      refine two_ (i := 13) (j := 14) (Ni := some 8) (Nj := some 9) #[true, true, true, true, true, true, true, true, true, true, true, true, true, true, false, false, false] #[true, true, true, true, true, true, true, true, true, true, true, true, true, false, true, false, false] rfl rfl rfl rfl (by kernel_rfl) (by decide) (by decide) (fun K hK => ?_) (fun K hK => ?_)
      · refine box_step ?hg (N := 8) ?hd (cs := #[.slice none 0 0, .slice none 0 0]) (t := 29) ?hr ?_
        (case hd => rfl)
        (case hg => rfl)
        (case hr => first | (go_simp; done) | (go_simp; rfl))
        intro ga hg z hbox hb
        have HVS := Aside0.mk (HVS.out.move hb)
        have HXa := Aside0.mk (BoxC.of hg hbox HB.out)
        have HB := Aside0.mk (below_step HB.out hb)
        clear hbox hb hg
        skip
        refine hK.out _ _ HB.out (fun hHeld => ?_)
        clear hK K
        refine norm_ ?_ (hC310 (v1, v2, vH, vW, vG, vN, ga, 0) _ ⟨HB.out, HVS.out, HXa.out⟩)
        show Act.put _ (some 8) _ = _
        first | (simp only [putAll, Act.put, List.setIfInBounds_toArray, List.set_cons_zero, List.set_cons_succ]; done) | rfl
      · refine box_step ?hg (N := 9) ?hd (cs := #[.slice none 0 0, .slice none 0 0]) (t := 33) ?hr ?_
        (case hd => rfl)
        (case hg => rfl)
        (case hr => first | (go_simp; done) | (go_simp; rfl))
        intro gb hg z hbox hb
        have HVS := Aside0.mk (HVS.out.move hb)
        have HXb := Aside0.mk (BoxC.of hg hbox HB.out)
        have HB := Aside0.mk (below_step HB.out hb)
        clear hbox hb hg
        skip
        refine hK.out _ _ HB.out (fun hHeld => ?_)
        clear hK K
        refine norm_ ?_ (hC301 (v1, v2, vH, vW, vG, vN, 0, gb) _ ⟨HB.out, HVS.out, HXb.out⟩)
        show Act.put _ (some 9) _ = _
        first | (simp only [putAll, Act.put, List.setIfInBounds_toArray, List.set_cons_zero, List.set_cons_succ]; done) | rfl
    intro hC300
    refine join_ (σ := Value × Value × Nat × Nat) 6 #[true, true, true, true, true, true, true, true, true, false, false, false, false, true, true, false, false] (fun s => [(22, s.1), (26, s.2.1), (27, .agg #[s.1, s.2.1]), (8, .pointer (some ⟨s.2.2.1, 0, none⟩)), (9, .pointer (some ⟨s.2.2.2, 0, none⟩))]) (fun s w' => Below w2.heap.size w2 w' ∧ RwC w2 w' s.1 F1 ∧ RwC w2 w' s.2.1 F2 ∧ BoxC w2 w' s.2.2.1 29 ∧ BoxC w2 w' s.2.2.2 33) ?_ ?_
    · clear HB hHeld
      rintro ⟨v1, v2, ga, gb⟩ y ⟨hHB, hHV1, hHV2, hHXa, hHXb⟩
      simp only [putAll, Act.put, List.setIfInBounds_toArray, List.set_cons_zero, List.set_cons_succ]
      have HB := Aside0.mk hHB
      have HV1 := Aside0.mk hHV1
      have HV2 := Aside0.mk hHV2
      have HXa := Aside0.mk hHXa
      have HXb := Aside0.mk hHXb
      clear hHB hHV1 hHV2 hHXa hHXb
      have hHeld := HB.out
      skip
      refine one_ (i := 9) (N := some 28) #[true, true, true, true, true, true, true, true, true, true, false, false, false, true, true, false, false] rfl rfl (by kernel_rfl) (by decide) (fun K hK => ?_)
      obtain ⟨a1, c1, rfl⟩ := Kd.R_slice HV1.out
      obtain ⟨a2, c2, rfl⟩ := Kd.R_slice HV2.out
      refine goes_ Try.func54 (by kernel_rfl) rfl #[.agg #[.slice a1 F1.length c1, .slice a2 F2.length c2]] (by rfl) rfl rfl (by (try simp only [List.map_toArray, List.map_cons, List.map_nil]); first | done | rfl) ?_
      refine (settleR_calls a1 a2 c1 c2 F1 F2 _ (Kd.R_reads' HV1.out).2.2 (Kd.R_reads' HV2.out).2.2 (Kd.R_reads' HV1.out).2.1 (Kd.R_reads' HV2.out).2.1 HGD.out.1 HGD.out.2.1 HGD.out.2.2.1 HGD.out.2.2.2).mono ?_
      rintro e z ⟨v, u, rfl, ⟨vH, vW, rfl, h1, h2⟩, ⟨vG, vN, rfl, h3, h4⟩, hb⟩
      refine ⟨_, rfl, ?_⟩
      have HXa := Aside0.mk (HXa.out.move hb)
      have HXb := Aside0.mk (HXb.out.move hb)
      have HVS := Aside0.mk (SetC.of h1 h2 h3 h4 HB.out)
      have HB := Aside0.mk (below_step HB.out hb)
      clear h1 h2 h3 h4 hb
      skip
      refine hK.out _ _ HB.out (fun hHeld => ?_)
      clear hK K
      refine norm_ (a' := ?_) ?_ ?_
      rotate_left
      · show Act.put _ (some 28) _ = _
        simp only [Act.put, List.setIfInBounds_toArray, List.set_cons_zero, List.set_cons_succ, i64_w, i32_w]
        rfl
      refine pure_ (i := 10) (N := some 18) (v := ?_) (a' := ?_) #[true, true, true, true, true, true, true, true, true, true, true, false, false, true, true, false, false] rfl rfl (by kernel_rfl) (fun _ _ _ h => h) (Or.inl ⟨by rfl, ?_⟩) ?_ ?_
      rotate_left
      · intro w'
        go_simp
        with_reducible rfl
      rotate_left
      · simp only [Act.put, List.setIfInBounds_toArray, List.set_cons_zero, List.set_cons_succ, i64_w, i32_w]
        rfl
      refine pure_ (i := 11) (N := some 29) (v := ?_) (a' := ?_) #[true, true, true, true, true, true, true, true, true, true, true, true, false, true, true, false, false] rfl rfl (by kernel_rfl) (fun _ _ _ h => h) (Or.inl ⟨by rfl, ?_⟩) ?_ ?_
      rotate_left
      · intro w'
        go_simp
        with_reducible rfl
      rotate_left
      · simp only [Act.put, List.setIfInBounds_toArray, List.set_cons_zero, List.set_cons_succ, i64_w, i32_w]
        rfl
      refine pure_ (i := 12) (N := some 30) (v := ?_) (a' := ?_) #[true, true, true, true, true, true, true, true, true, true, true, true, true, true, true, false, false] rfl rfl (by kernel_rfl) (fun _ _ _ h => h) (Or.inl ⟨by rfl, ?_⟩) ?_ ?_
      rotate_left
      · intro w'
        go_simp
        with_reducible rfl
      rotate_left
      · simp only [Act.put, List.setIfInBounds_toArray, List.set_cons_zero, List.set_cons_succ, i64_w, i32_w]
        rfl
      refine norm_ ?_ (hC311 (.slice a1 F1.length c1, .slice a2 F2.length c2, vH, vW, vG, vN, ga, gb) _ ⟨HB.out, HVS.out, HXa.out, HXb.out⟩)
      first | (simp only [putAll, Act.put, List.setIfInBounds_toArray, List.set_cons_zero, List.set_cons_succ]; done) | rfl
    intro hC211
    refine join_ (σ := Value × Value × Nat × Nat) 7 #[true, true, true, true, true, true, true, true, true, false, false, false, false, true, false, false, false] (fun s => [(22, s.1), (26, s.2.1), (27, .agg #[s.1, s.2.1]), (8, .pointer (some ⟨s.2.2.1, 0, none⟩))]) (fun s w' => Below w2.heap.size w2 w' ∧ RwC w2 w' s.1 F1 ∧ RwC w2 w' s.2.1 F2 ∧ BoxC w2 w' s.2.2.1 29) ?_ ?_
    · clear HB hHeld
      rintro ⟨v1, v2, ga, gb⟩ y ⟨hHB, hHV1, hHV2, hHXa⟩
      simp only [putAll, Act.put, List.setIfInBounds_toArray, List.set_cons_zero, List.set_cons_succ]
      have HB := Aside0.mk hHB
      have HV1 := Aside0.mk hHV1
      have HV2 := Aside0.mk hHV2
      have HXa := Aside0.mk hHXa
      clear hHB hHV1 hHV2 hHXa
      have hHeld := HB.out
      refine two_ (i := 9) (j := 14) (Ni := some 28) (Nj := some 9) #[true, true, true, true, true, true, true, true, true, true, false, false, false, true, false, false, false] #[true, true, true, true, true, true, true, true, true, false, false, false, false, true, true, false, false] rfl rfl rfl rfl (by kernel_rfl) (by decide) (by decide) (fun K hK => ?_) (fun K hK => ?_)
      · obtain ⟨a1, c1, rfl⟩ := Kd.R_slice HV1.out
        obtain ⟨a2, c2, rfl⟩ := Kd.R_slice HV2.out
        refine goes_ Try.func54 (by kernel_rfl) rfl #[.agg #[.slice a1 F1.length c1, .slice a2 F2.length c2]] (by rfl) rfl rfl (by (try simp only [List.map_toArray, List.map_cons, List.map_nil]); first | done | rfl) ?_
        refine (settleR_calls a1 a2 c1 c2 F1 F2 _ (Kd.R_reads' HV1.out).2.2 (Kd.R_reads' HV2.out).2.2 (Kd.R_reads' HV1.out).2.1 (Kd.R_reads' HV2.out).2.1 HGD.out.1 HGD.out.2.1 HGD.out.2.2.1 HGD.out.2.2.2).mono ?_
        rintro e z ⟨v, u, rfl, ⟨vH, vW, rfl, h1, h2⟩, ⟨vG, vN, rfl, h3, h4⟩, hb⟩
        refine ⟨_, rfl, ?_⟩
        have HXa := Aside0.mk (HXa.out.move hb)
        have HVS := Aside0.mk (SetC.of h1 h2 h3 h4 HB.out)
        have HB := Aside0.mk (below_step HB.out hb)
        clear h1 h2 h3 h4 hb
        skip
        refine hK.out _ _ HB.out (fun hHeld => ?_)
        clear hK K
        refine norm_ (a' := ?_) ?_ ?_
        rotate_left
        · show Act.put _ (some 28) _ = _
          simp only [Act.put, List.setIfInBounds_toArray, List.set_cons_zero, List.set_cons_succ, i64_w, i32_w]
          rfl
        refine pure_ (i := 10) (N := some 18) (v := ?_) (a' := ?_) #[true, true, true, true, true, true, true, true, true, true, true, false, false, true, false, false, false] rfl rfl (by kernel_rfl) (fun _ _ _ h => h) (Or.inl ⟨by rfl, ?_⟩) ?_ ?_
        rotate_left
        · intro w'
          go_simp
          with_reducible rfl
        rotate_left
        · simp only [Act.put, List.setIfInBounds_toArray, List.set_cons_zero, List.set_cons_succ, i64_w, i32_w]
          rfl
        refine pure_ (i := 11) (N := some 29) (v := ?_) (a' := ?_) #[true, true, true, true, true, true, true, true, true, true, true, true, false, true, false, false, false] rfl rfl (by kernel_rfl) (fun _ _ _ h => h) (Or.inl ⟨by rfl, ?_⟩) ?_ ?_
        rotate_left
        · intro w'
          go_simp
          with_reducible rfl
        rotate_left
        · simp only [Act.put, List.setIfInBounds_toArray, List.set_cons_zero, List.set_cons_succ, i64_w, i32_w]
          rfl
        refine pure_ (i := 12) (N := some 30) (v := ?_) (a' := ?_) #[true, true, true, true, true, true, true, true, true, true, true, true, true, true, false, false, false] rfl rfl (by kernel_rfl) (fun _ _ _ h => h) (Or.inl ⟨by rfl, ?_⟩) ?_ ?_
        rotate_left
        · intro w'
          go_simp
          with_reducible rfl
        rotate_left
        · simp only [Act.put, List.setIfInBounds_toArray, List.set_cons_zero, List.set_cons_succ, i64_w, i32_w]
          rfl
        refine norm_ ?_ (hC310 (.slice a1 F1.length c1, .slice a2 F2.length c2, vH, vW, vG, vN, ga, 0) _ ⟨HB.out, HVS.out, HXa.out⟩)
        first | (simp only [putAll, Act.put, List.setIfInBounds_toArray, List.set_cons_zero, List.set_cons_succ]; done) | rfl
      · refine box_step ?hg (N := 9) ?hd (cs := #[.slice none 0 0, .slice none 0 0]) (t := 33) ?hr ?_
        (case hd => rfl)
        (case hg => rfl)
        (case hr => first | (go_simp; done) | (go_simp; rfl))
        intro gb hg z hbox hb
        have HV1 := Aside0.mk (HV1.out.move hb)
        have HV2 := Aside0.mk (HV2.out.move hb)
        have HXa := Aside0.mk (HXa.out.move hb)
        have HXb := Aside0.mk (BoxC.of hg hbox HB.out)
        have HB := Aside0.mk (below_step HB.out hb)
        clear hbox hb hg
        skip
        refine hK.out _ _ HB.out (fun hHeld => ?_)
        clear hK K
        refine norm_ ?_ (hC211 (v1, v2, ga, gb) _ ⟨HB.out, HV1.out, HV2.out, HXa.out, HXb.out⟩)
        show Act.put _ (some 9) _ = _
        first | (simp only [putAll, Act.put, List.setIfInBounds_toArray, List.set_cons_zero, List.set_cons_succ]; done) | rfl
    intro hC210
    refine join_ (σ := Value × Value × Nat × Nat) 7 #[true, true, true, true, true, true, true, true, true, false, false, false, false, false, true, false, false] (fun s => [(22, s.1), (26, s.2.1), (27, .agg #[s.1, s.2.1]), (9, .pointer (some ⟨s.2.2.2, 0, none⟩))]) (fun s w' => Below w2.heap.size w2 w' ∧ RwC w2 w' s.1 F1 ∧ RwC w2 w' s.2.1 F2 ∧ BoxC w2 w' s.2.2.2 33) ?_ ?_
    · clear HB hHeld
      rintro ⟨v1, v2, ga, gb⟩ y ⟨hHB, hHV1, hHV2, hHXb⟩
      simp only [putAll, Act.put, List.setIfInBounds_toArray, List.set_cons_zero, List.set_cons_succ]
      have HB := Aside0.mk hHB
      have HV1 := Aside0.mk hHV1
      have HV2 := Aside0.mk hHV2
      have HXb := Aside0.mk hHXb
      clear hHB hHV1 hHV2 hHXb
      have hHeld := HB.out
      refine two_ (i := 9) (j := 13) (Ni := some 28) (Nj := some 8) #[true, true, true, true, true, true, true, true, true, true, false, false, false, false, true, false, false] #[true, true, true, true, true, true, true, true, true, false, false, false, false, true, true, false, false] rfl rfl rfl rfl (by kernel_rfl) (by decide) (by decide) (fun K hK => ?_) (fun K hK => ?_)
      · obtain ⟨a1, c1, rfl⟩ := Kd.R_slice HV1.out
        obtain ⟨a2, c2, rfl⟩ := Kd.R_slice HV2.out
        refine goes_ Try.func54 (by kernel_rfl) rfl #[.agg #[.slice a1 F1.length c1, .slice a2 F2.length c2]] (by rfl) rfl rfl (by (try simp only [List.map_toArray, List.map_cons, List.map_nil]); first | done | rfl) ?_
        refine (settleR_calls a1 a2 c1 c2 F1 F2 _ (Kd.R_reads' HV1.out).2.2 (Kd.R_reads' HV2.out).2.2 (Kd.R_reads' HV1.out).2.1 (Kd.R_reads' HV2.out).2.1 HGD.out.1 HGD.out.2.1 HGD.out.2.2.1 HGD.out.2.2.2).mono ?_
        rintro e z ⟨v, u, rfl, ⟨vH, vW, rfl, h1, h2⟩, ⟨vG, vN, rfl, h3, h4⟩, hb⟩
        refine ⟨_, rfl, ?_⟩
        have HXb := Aside0.mk (HXb.out.move hb)
        have HVS := Aside0.mk (SetC.of h1 h2 h3 h4 HB.out)
        have HB := Aside0.mk (below_step HB.out hb)
        clear h1 h2 h3 h4 hb
        skip
        refine hK.out _ _ HB.out (fun hHeld => ?_)
        clear hK K
        refine norm_ (a' := ?_) ?_ ?_
        rotate_left
        · show Act.put _ (some 28) _ = _
          simp only [Act.put, List.setIfInBounds_toArray, List.set_cons_zero, List.set_cons_succ, i64_w, i32_w]
          rfl
        refine pure_ (i := 10) (N := some 18) (v := ?_) (a' := ?_) #[true, true, true, true, true, true, true, true, true, true, true, false, false, false, true, false, false] rfl rfl (by kernel_rfl) (fun _ _ _ h => h) (Or.inl ⟨by rfl, ?_⟩) ?_ ?_
        rotate_left
        · intro w'
          go_simp
          with_reducible rfl
        rotate_left
        · simp only [Act.put, List.setIfInBounds_toArray, List.set_cons_zero, List.set_cons_succ, i64_w, i32_w]
          rfl
        refine pure_ (i := 11) (N := some 29) (v := ?_) (a' := ?_) #[true, true, true, true, true, true, true, true, true, true, true, true, false, false, true, false, false] rfl rfl (by kernel_rfl) (fun _ _ _ h => h) (Or.inl ⟨by rfl, ?_⟩) ?_ ?_
        rotate_left
        · intro w'
          go_simp
          with_reducible rfl
        rotate_left
        · simp only [Act.put, List.setIfInBounds_toArray, List.set_cons_zero, List.set_cons_succ, i64_w, i32_w]
          rfl
        refine pure_ (i := 12) (N := some 30) (v := ?_) (a' := ?_) #[true, true, true, true, true, true, true, true, true, true, true, true, true, false, true, false, false] rfl rfl (by kernel_rfl) (fun _ _ _ h => h) (Or.inl ⟨by rfl, ?_⟩) ?_ ?_
        rotate_left
        · intro w'
          go_simp
          with_reducible rfl
        rotate_left
        · simp only [Act.put, List.setIfInBounds_toArray, List.set_cons_zero, List.set_cons_succ, i64_w, i32_w]
          rfl
        refine norm_ ?_ (hC301 (.slice a1 F1.length c1, .slice a2 F2.length c2, vH, vW, vG, vN, 0, gb) _ ⟨HB.out, HVS.out, HXb.out⟩)
        first | (simp only [putAll, Act.put, List.setIfInBounds_toArray, List.set_cons_zero, List.set_cons_succ]; done) | rfl
      · refine box_step ?hg (N := 8) ?hd (cs := #[.slice none 0 0, .slice none 0 0]) (t := 29) ?hr ?_
        (case hd => rfl)
        (case hg => rfl)
        (case hr => first | (go_simp; done) | (go_simp; rfl))
        intro ga hg z hbox hb
        have HV1 := Aside0.mk (HV1.out.move hb)
        have HV2 := Aside0.mk (HV2.out.move hb)
        have HXb := Aside0.mk (HXb.out.move hb)
        have HXa := Aside0.mk (BoxC.of hg hbox HB.out)
        have HB := Aside0.mk (below_step HB.out hb)
        clear hbox hb hg
        skip
        refine hK.out _ _ HB.out (fun hHeld => ?_)
        clear hK K
        refine norm_ ?_ (hC211 (v1, v2, ga, gb) _ ⟨HB.out, HV1.out, HV2.out, HXa.out, HXb.out⟩)
        show Act.put _ (some 8) _ = _
        first | (simp only [putAll, Act.put, List.setIfInBounds_toArray, List.set_cons_zero, List.set_cons_succ]; done) | rfl
    intro hC201
    refine join_ (σ := Value × Value × Nat × Nat) 8 #[true, true, true, true, true, true, true, true, true, false, false, false, false, false, false, false, false] (fun s => [(22, s.1), (26, s.2.1), (27, .agg #[s.1, s.2.1])]) (fun s w' => Below w2.heap.size w2 w' ∧ RwC w2 w' s.1 F1 ∧ RwC w2 w' s.2.1 F2) ?_ ?_
    · clear HB hHeld
      rintro ⟨v1, v2, ga, gb⟩ y ⟨hHB, hHV1, hHV2⟩
      simp only [putAll, Act.put, List.setIfInBounds_toArray, List.set_cons_zero, List.set_cons_succ]
      have HB := Aside0.mk hHB
      have HV1 := Aside0.mk hHV1
      have HV2 := Aside0.mk hHV2
      clear hHB hHV1 hHV2
      have hHeld := HB.out
      refine three_ (i := 9) (j := 13) (k := 14) (Ni := some 28) (Nj := some 8) (Nk := some 9) #[true, true, true, true, true, true, true, true, true, true, false, false, false, false, false, false, false] #[true, true, true, true, true, true, true, true, true, false, false, false, false, true, false, false, false] #[true, true, true, true, true, true, true, true, true, false, false, false, false, false, true, false, false] rfl rfl rfl rfl rfl rfl (by kernel_rfl) (by decide) (by decide) (by decide) (fun K hK => ?_) (fun K hK => ?_) (fun K hK => ?_)
      · obtain ⟨a1, c1, rfl⟩ := Kd.R_slice HV1.out
        obtain ⟨a2, c2, rfl⟩ := Kd.R_slice HV2.out
        refine goes_ Try.func54 (by kernel_rfl) rfl #[.agg #[.slice a1 F1.length c1, .slice a2 F2.length c2]] (by rfl) rfl rfl (by (try simp only [List.map_toArray, List.map_cons, List.map_nil]); first | done | rfl) ?_
        refine (settleR_calls a1 a2 c1 c2 F1 F2 _ (Kd.R_reads' HV1.out).2.2 (Kd.R_reads' HV2.out).2.2 (Kd.R_reads' HV1.out).2.1 (Kd.R_reads' HV2.out).2.1 HGD.out.1 HGD.out.2.1 HGD.out.2.2.1 HGD.out.2.2.2).mono ?_
        rintro e z ⟨v, u, rfl, ⟨vH, vW, rfl, h1, h2⟩, ⟨vG, vN, rfl, h3, h4⟩, hb⟩
        refine ⟨_, rfl, ?_⟩
        have HVS := Aside0.mk (SetC.of h1 h2 h3 h4 HB.out)
        have HB := Aside0.mk (below_step HB.out hb)
        clear h1 h2 h3 h4 hb
        skip
        refine hK.out _ _ HB.out (fun hHeld => ?_)
        clear hK K
        refine norm_ (a' := ?_) ?_ ?_
        rotate_left
        · show Act.put _ (some 28) _ = _
          simp only [Act.put, List.setIfInBounds_toArray, List.set_cons_zero, List.set_cons_succ, i64_w, i32_w]
          rfl
        refine pure_ (i := 10) (N := some 18) (v := ?_) (a' := ?_) #[true, true, true, true, true, true, true, true, true, true, true, false, false, false, false, false, false] rfl rfl (by kernel_rfl) (fun _ _ _ h => h) (Or.inl ⟨by rfl, ?_⟩) ?_ ?_
        rotate_left
        · intro w'
          go_simp
          with_reducible rfl
        rotate_left
        · simp only [Act.put, List.setIfInBounds_toArray, List.set_cons_zero, List.set_cons_succ, i64_w, i32_w]
          rfl
        refine pure_ (i := 11) (N := some 29) (v := ?_) (a' := ?_) #[true, true, true, true, true, true, true, true, true, true, true, true, false, false, false, false, false] rfl rfl (by kernel_rfl) (fun _ _ _ h => h) (Or.inl ⟨by rfl, ?_⟩) ?_ ?_
        rotate_left
        · intro w'
          go_simp
          with_reducible rfl
        rotate_left
        · simp only [Act.put, List.setIfInBounds_toArray, List.set_cons_zero, List.set_cons_succ, i64_w, i32_w]
          rfl
        refine pure_ (i := 12) (N := some 30) (v := ?_) (a' := ?_) #[true, true, true, true, true, true, true, true, true, true, true, true, true, false, false, false, false] rfl rfl (by kernel_rfl) (fun _ _ _ h => h) (Or.inl ⟨by rfl, ?_⟩) ?_ ?_
        rotate_left
        · intro w'
          go_simp
          with_reducible rfl
        rotate_left
        · simp only [Act.put, List.setIfInBounds_toArray, List.set_cons_zero, List.set_cons_succ, i64_w, i32_w]
          rfl
        refine norm_ ?_ (hC300 (.slice a1 F1.length c1, .slice a2 F2.length c2, vH, vW, vG, vN, 0, 0) _ ⟨HB.out, HVS.out⟩)
        first | (simp only [putAll, Act.put, List.setIfInBounds_toArray, List.set_cons_zero, List.set_cons_succ]; done) | rfl
      · refine box_step ?hg (N := 8) ?hd (cs := #[.slice none 0 0, .slice none 0 0]) (t := 29) ?hr ?_
        (case hd => rfl)
        (case hg => rfl)
        (case hr => first | (go_simp; done) | (go_simp; rfl))
        intro ga hg z hbox hb
        have HV1 := Aside0.mk (HV1.out.move hb)
        have HV2 := Aside0.mk (HV2.out.move hb)
        have HXa := Aside0.mk (BoxC.of hg hbox HB.out)
        have HB := Aside0.mk (below_step HB.out hb)
        clear hbox hb hg
        skip
        refine hK.out _ _ HB.out (fun hHeld => ?_)
        clear hK K
        refine norm_ ?_ (hC210 (v1, v2, ga, 0) _ ⟨HB.out, HV1.out, HV2.out, HXa.out⟩)
        show Act.put _ (some 8) _ = _
        first | (simp only [putAll, Act.put, List.setIfInBounds_toArray, List.set_cons_zero, List.set_cons_succ]; done) | rfl
      · refine box_step ?hg (N := 9) ?hd (cs := #[.slice none 0 0, .slice none 0 0]) (t := 33) ?hr ?_
        (case hd => rfl)
        (case hg => rfl)
        (case hr => first | (go_simp; done) | (go_simp; rfl))
        intro gb hg z hbox hb
        have HV1 := Aside0.mk (HV1.out.move hb)
        have HV2 := Aside0.mk (HV2.out.move hb)
        have HXb := Aside0.mk (BoxC.of hg hbox HB.out)
        have HB := Aside0.mk (below_step HB.out hb)
        clear hbox hb hg
        skip
        refine hK.out _ _ HB.out (fun hHeld => ?_)
        clear hK K
        refine norm_ ?_ (hC201 (v1, v2, 0, gb) _ ⟨HB.out, HV1.out, HV2.out, HXb.out⟩)
        show Act.put _ (some 9) _ = _
        first | (simp only [putAll, Act.put, List.setIfInBounds_toArray, List.set_cons_zero, List.set_cons_succ]; done) | rfl
    intro hC200
    refine join_ (σ := Value × Value × Nat × Nat) 8 #[true, true, true, true, true, true, true, false, false, false, false, false, false, true, true, false, false] (fun s => [(22, s.1), (8, .pointer (some ⟨s.2.2.1, 0, none⟩)), (9, .pointer (some ⟨s.2.2.2, 0, none⟩))]) (fun s w' => Below w2.heap.size w2 w' ∧ RwC w2 w' s.1 F1 ∧ BoxC w2 w' s.2.2.1 29 ∧ BoxC w2 w' s.2.2.2 33) ?_ ?_
    · clear HB hHeld
      rintro ⟨v1, v2, ga, gb⟩ y ⟨hHB, hHV1, hHXa, hHXb⟩
      simp only [putAll, Act.put, List.setIfInBounds_toArray, List.set_cons_zero, List.set_cons_succ]
      have HB := Aside0.mk hHB
      have HV1 := Aside0.mk hHV1
      have HXa := Aside0.mk hHXa
      have HXb := Aside0.mk hHXb
      clear hHB hHV1 hHXa hHXb
      have hHeld := HB.out
      skip
      refine one_ (i := 7) (N := some 26) #[true, true, true, true, true, true, true, true, false, false, false, false, false, true, true, false, false] rfl rfl (by kernel_rfl) (by decide) (fun K hK => ?_)
      refine goes_ Try.func73 (by kernel_rfl) rfl #[.slice B W.length d, .int .i64 x] (by rfl) rfl rfl (by (try simp only [List.map_toArray, List.map_cons, List.map_nil]); first | done | rfl) ?_
      refine (othersR_calls B d W x _ F2 HF2.out (Kd.C_below HC2.out HB.out) l2 (by omega)).mono ?_
      rintro e z ⟨v2, rfl, hv, hb⟩
      refine ⟨_, rfl, ?_⟩
      have HV1 := Aside0.mk (HV1.out.move hb)
      have HXa := Aside0.mk (HXa.out.move hb)
      have HXb := Aside0.mk (HXb.out.move hb)
      have HV2 := Aside0.mk (RwC.of hv HB.out)
      have HB := Aside0.mk (below_step HB.out hb)
      clear hv hb
      obtain ⟨a1, c1, rfl⟩ := Kd.R_slice HV1.out
      obtain ⟨a2, c2, rfl⟩ := Kd.R_slice HV2.out
      skip
      refine hK.out _ _ HB.out (fun hHeld => ?_)
      clear hK K
      refine norm_ (a' := ?_) ?_ ?_
      rotate_left
      · show Act.put _ (some 26) _ = _
        simp only [Act.put, List.setIfInBounds_toArray, List.set_cons_zero, List.set_cons_succ, i64_w, i32_w]
        rfl
      refine pure_ (i := 8) (N := some 27) (v := ?_) (a' := ?_) #[true, true, true, true, true, true, true, true, true, false, false, false, false, true, true, false, false] rfl rfl (by kernel_rfl) (fun _ _ _ h => h) (Or.inl ⟨by rfl, ?_⟩) ?_ ?_
      rotate_left
      · intro w'
        go_simp
        with_reducible rfl
      rotate_left
      · simp only [Act.put, List.setIfInBounds_toArray, List.set_cons_zero, List.set_cons_succ, i64_w, i32_w]
        rfl
      refine norm_ ?_ (hC211 (.slice a1 F1.length c1, .slice a2 F2.length c2, ga, gb) _ ⟨HB.out, HV1.out, HV2.out, HXa.out, HXb.out⟩)
      first | (simp only [putAll, Act.put, List.setIfInBounds_toArray, List.set_cons_zero, List.set_cons_succ]; done) | rfl
    intro hC111
    refine join_ (σ := Value × Value × Nat × Nat) 9 #[true, true, true, true, true, true, true, false, false, false, false, false, false, true, false, false, false] (fun s => [(22, s.1), (8, .pointer (some ⟨s.2.2.1, 0, none⟩))]) (fun s w' => Below w2.heap.size w2 w' ∧ RwC w2 w' s.1 F1 ∧ BoxC w2 w' s.2.2.1 29) ?_ ?_
    · clear HB hHeld
      rintro ⟨v1, v2, ga, gb⟩ y ⟨hHB, hHV1, hHXa⟩
      simp only [putAll, Act.put, List.setIfInBounds_toArray, List.set_cons_zero, List.set_cons_succ]
      have HB := Aside0.mk hHB
      have HV1 := Aside0.mk hHV1
      have HXa := Aside0.mk hHXa
      clear hHB hHV1 hHXa
      have hHeld := HB.out
      refine two_ (i := 7) (j := 14) (Ni := some 26) (Nj := some 9) #[true, true, true, true, true, true, true, true, false, false, false, false, false, true, false, false, false] #[true, true, true, true, true, true, true, false, false, false, false, false, false, true, true, false, false] rfl rfl rfl rfl (by kernel_rfl) (by decide) (by decide) (fun K hK => ?_) (fun K hK => ?_)
      · refine goes_ Try.func73 (by kernel_rfl) rfl #[.slice B W.length d, .int .i64 x] (by rfl) rfl rfl (by (try simp only [List.map_toArray, List.map_cons, List.map_nil]); first | done | rfl) ?_
        refine (othersR_calls B d W x _ F2 HF2.out (Kd.C_below HC2.out HB.out) l2 (by omega)).mono ?_
        rintro e z ⟨v2, rfl, hv, hb⟩
        refine ⟨_, rfl, ?_⟩
        have HV1 := Aside0.mk (HV1.out.move hb)
        have HXa := Aside0.mk (HXa.out.move hb)
        have HV2 := Aside0.mk (RwC.of hv HB.out)
        have HB := Aside0.mk (below_step HB.out hb)
        clear hv hb
        obtain ⟨a1, c1, rfl⟩ := Kd.R_slice HV1.out
        obtain ⟨a2, c2, rfl⟩ := Kd.R_slice HV2.out
        skip
        refine hK.out _ _ HB.out (fun hHeld => ?_)
        clear hK K
        refine norm_ (a' := ?_) ?_ ?_
        rotate_left
        · show Act.put _ (some 26) _ = _
          simp only [Act.put, List.setIfInBounds_toArray, List.set_cons_zero, List.set_cons_succ, i64_w, i32_w]
          rfl
        refine pure_ (i := 8) (N := some 27) (v := ?_) (a' := ?_) #[true, true, true, true, true, true, true, true, true, false, false, false, false, true, false, false, false] rfl rfl (by kernel_rfl) (fun _ _ _ h => h) (Or.inl ⟨by rfl, ?_⟩) ?_ ?_
        rotate_left
        · intro w'
          go_simp
          with_reducible rfl
        rotate_left
        · simp only [Act.put, List.setIfInBounds_toArray, List.set_cons_zero, List.set_cons_succ, i64_w, i32_w]
          rfl
        refine norm_ ?_ (hC210 (.slice a1 F1.length c1, .slice a2 F2.length c2, ga, 0) _ ⟨HB.out, HV1.out, HV2.out, HXa.out⟩)
        first | (simp only [putAll, Act.put, List.setIfInBounds_toArray, List.set_cons_zero, List.set_cons_succ]; done) | rfl
      · refine box_step ?hg (N := 9) ?hd (cs := #[.slice none 0 0, .slice none 0 0]) (t := 33) ?hr ?_
        (case hd => rfl)
        (case hg => rfl)
        (case hr => first | (go_simp; done) | (go_simp; rfl))
        intro gb hg z hbox hb
        have HV1 := Aside0.mk (HV1.out.move hb)
        have HXa := Aside0.mk (HXa.out.move hb)
        have HXb := Aside0.mk (BoxC.of hg hbox HB.out)
        have HB := Aside0.mk (below_step HB.out hb)
        clear hbox hb hg
        skip
        refine hK.out _ _ HB.out (fun hHeld => ?_)
        clear hK K
        refine norm_ ?_ (hC111 (v1, undef, ga, gb) _ ⟨HB.out, HV1.out, HXa.out, HXb.out⟩)
        show Act.put _ (some 9) _ = _
        first | (simp only [putAll, Act.put, List.setIfInBounds_toArray, List.set_cons_zero, List.set_cons_succ]; done) | rfl
    intro hC110
    refine join_ (σ := Value × Value × Nat × Nat) 9 #[true, true, true, true, true, true, true, false, false, false, false, false, false, false, true, false, false] (fun s => [(22, s.1), (9, .pointer (some ⟨s.2.2.2, 0, none⟩))]) (fun s w' => Below w2.heap.size w2 w' ∧ RwC w2 w' s.1 F1 ∧ BoxC w2 w' s.2.2.2 33) ?_ ?_
    · clear HB hHeld
      rintro ⟨v1, v2, ga, gb⟩ y ⟨hHB, hHV1, hHXb⟩
      simp only [putAll, Act.put, List.setIfInBounds_toArray, List.set_cons_zero, List.set_cons_succ]
      have HB := Aside0.mk hHB
      have HV1 := Aside0.mk hHV1
      have HXb := Aside0.mk hHXb
      clear hHB hHV1 hHXb
      have hHeld := HB.out
      refine two_ (i := 7) (j := 13) (Ni := some 26) (Nj := some 8) #[true, true, true, true, true, true, true, true, false, false, false, false, false, false, true, false, false] #[true, true, true, true, true, true, true, false, false, false, false, false, false, true, true, false, false] rfl rfl rfl rfl (by kernel_rfl) (by decide) (by decide) (fun K hK => ?_) (fun K hK => ?_)
      · refine goes_ Try.func73 (by kernel_rfl) rfl #[.slice B W.length d, .int .i64 x] (by rfl) rfl rfl (by (try simp only [List.map_toArray, List.map_cons, List.map_nil]); first | done | rfl) ?_
        refine (othersR_calls B d W x _ F2 HF2.out (Kd.C_below HC2.out HB.out) l2 (by omega)).mono ?_
        rintro e z ⟨v2, rfl, hv, hb⟩
        refine ⟨_, rfl, ?_⟩
        have HV1 := Aside0.mk (HV1.out.move hb)
        have HXb := Aside0.mk (HXb.out.move hb)
        have HV2 := Aside0.mk (RwC.of hv HB.out)
        have HB := Aside0.mk (below_step HB.out hb)
        clear hv hb
        obtain ⟨a1, c1, rfl⟩ := Kd.R_slice HV1.out
        obtain ⟨a2, c2, rfl⟩ := Kd.R_slice HV2.out
        skip
        refine hK.out _ _ HB.out (fun hHeld => ?_)
        clear hK K
        refine norm_ (a' := ?_) ?_ ?_
        rotate_left
        · show Act.put _ (some 26) _ = _
          simp only [Act.put, List.setIfInBounds_toArray, List.set_cons_zero, List.set_cons_succ, i64_w, i32_w]
          rfl
        refine pure_ (i := 8) (N := some 27) (v := ?_) (a' := ?_) #[true, true, true, true, true, true, true, true, true, false, false, false, false, false, true, false, false] rfl rfl (by kernel_rfl) (fun _ _ _ h => h) (Or.inl ⟨by rfl, ?_⟩) ?_ ?_
        rotate_left
        · intro w'
          go_simp
          with_reducible rfl
        rotate_left
        · simp only [Act.put, List.setIfInBounds_toArray, List.set_cons_zero, List.set_cons_succ, i64_w, i32_w]
          rfl
        refine norm_ ?_ (hC201 (.slice a1 F1.length c1, .slice a2 F2.length c2, 0, gb) _ ⟨HB.out, HV1.out, HV2.out, HXb.out⟩)
        first | (simp only [putAll, Act.put, List.setIfInBounds_toArray, List.set_cons_zero, List.set_cons_succ]; done) | rfl
      · refine box_step ?hg (N := 8) ?hd (cs := #[.slice none 0 0, .slice none 0 0]) (t := 29) ?hr ?_
        (case hd => rfl)
        (case hg => rfl)
        (case hr => first | (go_simp; done) | (go_simp; rfl))
        intro ga hg z hbox hb
        have HV1 := Aside0.mk (HV1.out.move hb)
        have HXb := Aside0.mk (HXb.out.move hb)
        have HXa := Aside0.mk (BoxC.of hg hbox HB.out)
        have HB := Aside0.mk (below_step HB.out hb)
        clear hbox hb hg
        skip
        refine hK.out _ _ HB.out (fun hHeld => ?_)
        clear hK K
        refine norm_ ?_ (hC111 (v1, undef, ga, gb) _ ⟨HB.out, HV1.out, HXa.out, HXb.out⟩)
        show Act.put _ (some 8) _ = _
        first | (simp only [putAll, Act.put, List.setIfInBounds_toArray, List.set_cons_zero, List.set_cons_succ]; done) | rfl
    intro hC101
    refine join_ (σ := Value × Value × Nat × Nat) 10 #[true, true, true, true, true, true, true, false, false, false, false, false, false, false, false, false, false] (fun s => [(22, s.1)]) (fun s w' => Below w2.heap.size w2 w' ∧ RwC w2 w' s.1 F1) ?_ ?_
    · clear HB hHeld
      rintro ⟨v1, v2, ga, gb⟩ y ⟨hHB, hHV1⟩
      simp only [putAll, Act.put, List.setIfInBounds_toArray, List.set_cons_zero, List.set_cons_succ]
      have HB := Aside0.mk hHB
      have HV1 := Aside0.mk hHV1
      clear hHB hHV1
      have hHeld := HB.out
      refine three_ (i := 7) (j := 13) (k := 14) (Ni := some 26) (Nj := some 8) (Nk := some 9) #[true, true, true, true, true, true, true, true, false, false, false, false, false, false, false, false, false] #[true, true, true, true, true, true, true, false, false, false, false, false, false, true, false, false, false] #[true, true, true, true, true, true, true, false, false, false, false, false, false, false, true, false, false] rfl rfl rfl rfl rfl rfl (by kernel_rfl) (by decide) (by decide) (by decide) (fun K hK => ?_) (fun K hK => ?_) (fun K hK => ?_)
      · refine goes_ Try.func73 (by kernel_rfl) rfl #[.slice B W.length d, .int .i64 x] (by rfl) rfl rfl (by (try simp only [List.map_toArray, List.map_cons, List.map_nil]); first | done | rfl) ?_
        refine (othersR_calls B d W x _ F2 HF2.out (Kd.C_below HC2.out HB.out) l2 (by omega)).mono ?_
        rintro e z ⟨v2, rfl, hv, hb⟩
        refine ⟨_, rfl, ?_⟩
        have HV1 := Aside0.mk (HV1.out.move hb)
        have HV2 := Aside0.mk (RwC.of hv HB.out)
        have HB := Aside0.mk (below_step HB.out hb)
        clear hv hb
        obtain ⟨a1, c1, rfl⟩ := Kd.R_slice HV1.out
        obtain ⟨a2, c2, rfl⟩ := Kd.R_slice HV2.out
        skip
        refine hK.out _ _ HB.out (fun hHeld => ?_)
        clear hK K
        refine norm_ (a' := ?_) ?_ ?_
        rotate_left
        · show Act.put _ (some 26) _ = _
          simp only [Act.put, List.setIfInBounds_toArray, List.set_cons_zero, List.set_cons_succ, i64_w, i32_w]
          rfl
        refine pure_ (i := 8) (N := some 27) (v := ?_) (a' := ?_) #[true, true, true, true, true, true, true, true, true, false, false, false, false, false, false, false, false] rfl rfl (by kernel_rfl) (fun _ _ _ h => h) (Or.inl ⟨by rfl, ?_⟩) ?_ ?_
        rotate_left
        · intro w'
          go_simp
          with_reducible rfl
        rotate_left
        · simp only [Act.put, List.setIfInBounds_toArray, List.set_cons_zero, List.set_cons_succ, i64_w, i32_w]
          rfl
        refine norm_ ?_ (hC200 (.slice a1 F1.length c1, .slice a2 F2.length c2, 0, 0) _ ⟨HB.out, HV1.out, HV2.out⟩)
        first | (simp only [putAll, Act.put, List.setIfInBounds_toArray, List.set_cons_zero, List.set_cons_succ]; done) | rfl
      · refine box_step ?hg (N := 8) ?hd (cs := #[.slice none 0 0, .slice none 0 0]) (t := 29) ?hr ?_
        (case hd => rfl)
        (case hg => rfl)
        (case hr => first | (go_simp; done) | (go_simp; rfl))
        intro ga hg z hbox hb
        have HV1 := Aside0.mk (HV1.out.move hb)
        have HXa := Aside0.mk (BoxC.of hg hbox HB.out)
        have HB := Aside0.mk (below_step HB.out hb)
        clear hbox hb hg
        skip
        refine hK.out _ _ HB.out (fun hHeld => ?_)
        clear hK K
        refine norm_ ?_ (hC110 (v1, undef, ga, 0) _ ⟨HB.out, HV1.out, HXa.out⟩)
        show Act.put _ (some 8) _ = _
        first | (simp only [putAll, Act.put, List.setIfInBounds_toArray, List.set_cons_zero, List.set_cons_succ]; done) | rfl
      · refine box_step ?hg (N := 9) ?hd (cs := #[.slice none 0 0, .slice none 0 0]) (t := 33) ?hr ?_
        (case hd => rfl)
        (case hg => rfl)
        (case hr => first | (go_simp; done) | (go_simp; rfl))
        intro gb hg z hbox hb
        have HV1 := Aside0.mk (HV1.out.move hb)
        have HXb := Aside0.mk (BoxC.of hg hbox HB.out)
        have HB := Aside0.mk (below_step HB.out hb)
        clear hbox hb hg
        skip
        refine hK.out _ _ HB.out (fun hHeld => ?_)
        clear hK K
        refine norm_ ?_ (hC101 (v1, undef, 0, gb) _ ⟨HB.out, HV1.out, HXb.out⟩)
        show Act.put _ (some 9) _ = _
        first | (simp only [putAll, Act.put, List.setIfInBounds_toArray, List.set_cons_zero, List.set_cons_succ]; done) | rfl
    intro hC100
    refine join_ (σ := Value × Value × Nat × Nat) 9 #[true, true, true, false, true, true, true, false, false, false, false, false, false, true, true, false, false] (fun s => [(8, .pointer (some ⟨s.2.2.1, 0, none⟩)), (9, .pointer (some ⟨s.2.2.2, 0, none⟩))]) (fun s w' => Below w2.heap.size w2 w' ∧ BoxC w2 w' s.2.2.1 29 ∧ BoxC w2 w' s.2.2.2 33) ?_ ?_
    · clear HB hHeld
      rintro ⟨v1, v2, ga, gb⟩ y ⟨hHB, hHXa, hHXb⟩
      simp only [putAll, Act.put, List.setIfInBounds_toArray, List.set_cons_zero, List.set_cons_succ]
      have HB := Aside0.mk hHB
      have HXa := Aside0.mk hHXa
      have HXb := Aside0.mk hHXb
      clear hHB hHXa hHXb
      have hHeld := HB.out
      skip
      refine one_ (i := 3) (N := some 22) #[true, true, true, true, true, true, true, false, false, false, false, false, false, true, true, false, false] rfl rfl (by kernel_rfl) (by decide) (fun K hK => ?_)
      refine goes_ Try.func73 (by kernel_rfl) rfl #[.slice A H.length c, .int .i64 x] (by rfl) rfl rfl (by (try simp only [List.map_toArray, List.map_cons, List.map_nil]); first | done | rfl) ?_
      refine (othersR_calls A c H x _ F1 HF1.out (Kd.C_below HC1.out HB.out) l1 (by omega)).mono ?_
      rintro e z ⟨v1, rfl, hv, hb⟩
      refine ⟨_, rfl, ?_⟩
      have HXa := Aside0.mk (HXa.out.move hb)
      have HXb := Aside0.mk (HXb.out.move hb)
      have HV1 := Aside0.mk (RwC.of hv HB.out)
      have HB := Aside0.mk (below_step HB.out hb)
      clear hv hb
      skip
      refine hK.out _ _ HB.out (fun hHeld => ?_)
      clear hK K
      refine norm_ (a' := ?_) ?_ ?_
      rotate_left
      · show Act.put _ (some 22) _ = _
        simp only [Act.put, List.setIfInBounds_toArray, List.set_cons_zero, List.set_cons_succ, i64_w, i32_w]
        rfl
      refine norm_ ?_ (hC111 (v1, undef, ga, gb) _ ⟨HB.out, HV1.out, HXa.out, HXb.out⟩)
      first | (simp only [putAll, Act.put, List.setIfInBounds_toArray, List.set_cons_zero, List.set_cons_succ]; done) | rfl
    intro hC011
    refine three_ (i := 3) (j := 13) (k := 14) (Ni := some 22) (Nj := some 8) (Nk := some 9) #[true, true, true, true, true, true, true, false, false, false, false, false, false, false, false, false, false] #[true, true, true, false, true, true, true, false, false, false, false, false, false, true, false, false, false] #[true, true, true, false, true, true, true, false, false, false, false, false, false, false, true, false, false] rfl rfl rfl rfl rfl rfl (by kernel_rfl) (by decide) (by decide) (by decide) (fun K hK => ?_) (fun K hK => ?_) (fun K hK => ?_)
    · refine goes_ Try.func73 (by kernel_rfl) rfl #[.slice A H.length c, .int .i64 x] (by rfl) rfl rfl (by (try simp only [List.map_toArray, List.map_cons, List.map_nil]); first | done | rfl) ?_
      refine (othersR_calls A c H x _ F1 HF1.out (Kd.C_below HC1.out HB.out) l1 (by omega)).mono ?_
      rintro e z ⟨v1, rfl, hv, hb⟩
      refine ⟨_, rfl, ?_⟩
      have HV1 := Aside0.mk (RwC.of hv HB.out)
      have HB := Aside0.mk (below_step HB.out hb)
      clear hv hb
      skip
      refine hK.out _ _ HB.out (fun hHeld => ?_)
      clear hK K
      refine norm_ (a' := ?_) ?_ ?_
      rotate_left
      · show Act.put _ (some 22) _ = _
        simp only [Act.put, List.setIfInBounds_toArray, List.set_cons_zero, List.set_cons_succ, i64_w, i32_w]
        rfl
      refine norm_ ?_ (hC100 (v1, undef, 0, 0) _ ⟨HB.out, HV1.out⟩)
      first | (simp only [putAll, Act.put, List.setIfInBounds_toArray, List.set_cons_zero, List.set_cons_succ]; done) | rfl
    · refine box_step ?hg (N := 8) ?hd (cs := #[.slice none 0 0, .slice none 0 0]) (t := 29) ?hr ?_
      (case hd => rfl)
      (case hg => rfl)
      (case hr => first | (go_simp; done) | (go_simp; rfl))
      intro ga hg z hbox hb
      have HXa := Aside0.mk (BoxC.of hg hbox HB.out)
      have HB := Aside0.mk (below_step HB.out hb)
      clear hbox hb hg
      skip
      refine hK.out _ _ HB.out (fun hHeld => ?_)
      clear hK K
      refine norm_ (a' := ?_) ?_ ?_
      rotate_left
      · show Act.put _ (some 8) _ = _
        simp only [Act.put, List.setIfInBounds_toArray, List.set_cons_zero, List.set_cons_succ, i64_w, i32_w]
        rfl
      refine two_ (i := 3) (j := 14) (Ni := some 22) (Nj := some 9) #[true, true, true, true, true, true, true, false, false, false, false, false, false, true, false, false, false] #[true, true, true, false, true, true, true, false, false, false, false, false, false, true, true, false, false] rfl rfl rfl rfl (by kernel_rfl) (by decide) (by decide) (fun K hK => ?_) (fun K hK => ?_)
      · refine goes_ Try.func73 (by kernel_rfl) rfl #[.slice A H.length c, .int .i64 x] (by rfl) rfl rfl (by (try simp only [List.map_toArray, List.map_cons, List.map_nil]); first | done | rfl) ?_
        refine (othersR_calls A c H x _ F1 HF1.out (Kd.C_below HC1.out HB.out) l1 (by omega)).mono ?_
        rintro e z ⟨v1, rfl, hv, hb⟩
        refine ⟨_, rfl, ?_⟩
        have HXa := Aside0.mk (HXa.out.move hb)
        have HV1 := Aside0.mk (RwC.of hv HB.out)
        have HB := Aside0.mk (below_step HB.out hb)
        clear hv hb
        skip
        refine hK.out _ _ HB.out (fun hHeld => ?_)
        clear hK K
        refine norm_ (a' := ?_) ?_ ?_
        rotate_left
        · show Act.put _ (some 22) _ = _
          simp only [Act.put, List.setIfInBounds_toArray, List.set_cons_zero, List.set_cons_succ, i64_w, i32_w]
          rfl
        refine norm_ ?_ (hC110 (v1, undef, ga, 0) _ ⟨HB.out, HV1.out, HXa.out⟩)
        first | (simp only [putAll, Act.put, List.setIfInBounds_toArray, List.set_cons_zero, List.set_cons_succ]; done) | rfl
      · refine box_step ?hg (N := 9) ?hd (cs := #[.slice none 0 0, .slice none 0 0]) (t := 33) ?hr ?_
        (case hd => rfl)
        (case hg => rfl)
        (case hr => first | (go_simp; done) | (go_simp; rfl))
        intro gb hg z hbox hb
        have HXa := Aside0.mk (HXa.out.move hb)
        have HXb := Aside0.mk (BoxC.of hg hbox HB.out)
        have HB := Aside0.mk (below_step HB.out hb)
        clear hbox hb hg
        skip
        refine hK.out _ _ HB.out (fun hHeld => ?_)
        clear hK K
        refine norm_ ?_ (hC011 (undef, undef, ga, gb) _ ⟨HB.out, HXa.out, HXb.out⟩)
        show Act.put _ (some 9) _ = _
        first | (simp only [putAll, Act.put, List.setIfInBounds_toArray, List.set_cons_zero, List.set_cons_succ]; done) | rfl
    · refine box_step ?hg (N := 9) ?hd (cs := #[.slice none 0 0, .slice none 0 0]) (t := 33) ?hr ?_
      (case hd => rfl)
      (case hg => rfl)
      (case hr => first | (go_simp; done) | (go_simp; rfl))
      intro gb hg z hbox hb
      have HXb := Aside0.mk (BoxC.of hg hbox HB.out)
      have HB := Aside0.mk (below_step HB.out hb)
      clear hbox hb hg
      skip
      refine hK.out _ _ HB.out (fun hHeld => ?_)
      clear hK K
      refine norm_ (a' := ?_) ?_ ?_
      rotate_left
      · show Act.put _ (some 9) _ = _
        simp only [Act.put, List.setIfInBounds_toArray, List.set_cons_zero, List.set_cons_succ, i64_w, i32_w]
        rfl
      refine two_ (i := 3) (j := 13) (Ni := some 22) (Nj := some 8) #[true, true, true, true, true, true, true, false, false, false, false, false, false, false, true, false, false] #[true, true, true, false, true, true, true, false, false, false, false, false, false, true, true, false, false] rfl rfl rfl rfl (by kernel_rfl) (by decide) (by decide) (fun K hK => ?_) (fun K hK => ?_)
      · refine goes_ Try.func73 (by kernel_rfl) rfl #[.slice A H.length c, .int .i64 x] (by rfl) rfl rfl (by (try simp only [List.map_toArray, List.map_cons, List.map_nil]); first | done | rfl) ?_
        refine (othersR_calls A c H x _ F1 HF1.out (Kd.C_below HC1.out HB.out) l1 (by omega)).mono ?_
        rintro e z ⟨v1, rfl, hv, hb⟩
        refine ⟨_, rfl, ?_⟩
        have HXb := Aside0.mk (HXb.out.move hb)
        have HV1 := Aside0.mk (RwC.of hv HB.out)
        have HB := Aside0.mk (below_step HB.out hb)
        clear hv hb
        skip
        refine hK.out _ _ HB.out (fun hHeld => ?_)
        clear hK K
        refine norm_ (a' := ?_) ?_ ?_
        rotate_left
        · show Act.put _ (some 22) _ = _
          simp only [Act.put, List.setIfInBounds_toArray, List.set_cons_zero, List.set_cons_succ, i64_w, i32_w]
          rfl
        refine norm_ ?_ (hC101 (v1, undef, 0, gb) _ ⟨HB.out, HV1.out, HXb.out⟩)
        first | (simp only [putAll, Act.put, List.setIfInBounds_toArray, List.set_cons_zero, List.set_cons_succ]; done) | rfl
      · refine box_step ?hg (N := 8) ?hd (cs := #[.slice none 0 0, .slice none 0 0]) (t := 29) ?hr ?_
        (case hd => rfl)
        (case hg => rfl)
        (case hr => first | (go_simp; done) | (go_simp; rfl))
        intro ga hg z hbox hb
        have HXb := Aside0.mk (HXb.out.move hb)
        have HXa := Aside0.mk (BoxC.of hg hbox HB.out)
        have HB := Aside0.mk (below_step HB.out hb)
        clear hbox hb hg
        skip
        refine hK.out _ _ HB.out (fun hHeld => ?_)
        clear hK K
        refine norm_ ?_ (hC011 (undef, undef, ga, gb) _ ⟨HB.out, HXa.out, HXb.out⟩)
        show Act.put _ (some 8) _ = _
        first | (simp only [putAll, Act.put, List.setIfInBounds_toArray, List.set_cons_zero, List.set_cons_succ]; done) | rfl
  · clear HB hHeld
    rintro ⟨v1, v2, vH, vW, vG, vN, ga, gb⟩ y ⟨hHB, hHVS, hHXa, hHXb⟩
    simp only [putAll, Act.put, List.setIfInBounds_toArray, List.set_cons_zero, List.set_cons_succ]
    have HB := Aside0.mk hHB
    have HVS := Aside0.mk hHVS
    have HXa := Aside0.mk hHXa
    have HXb := Aside0.mk hHXb
    clear hHB hHVS hHXa hHXb
    have R5 := Aside0.mk (Kd.R_lower HVS.out.ph BB.out.size)
    have R6 := Aside0.mk (Kd.R_lower HVS.out.pw BB.out.size)
    have R7 := Aside0.mk (Kd.R_lower HVS.out.pg BB.out.size)
    have R8 := Aside0.mk (Kd.R_lower HVS.out.pn BB.out.size)
    clear HVS
    generalize settleL F1 F2 = R at R5 R6 R7 R8 HE
    obtain ⟨X1, X2, G, N⟩ := R
    dsimp only at R5 R6 R7 R8
    obtain ⟨a5, c5, rfl⟩ := Kd.R_slice R5.out
    obtain ⟨a6, c6, rfl⟩ := Kd.R_slice R6.out
    obtain ⟨a7, c7, rfl⟩ := Kd.R_slice R7.out
    obtain ⟨a8, c8, rfl⟩ := Kd.R_slice R8.out
    have T8 := Aside0.mk HXa.out.2
    have TN := Aside0.mk HXb.out.2
    have LT8 := Aside0.mk (Nat.le_trans BB.out.size HXa.out.1)
    have LTN := Aside0.mk (Nat.le_trans BB.out.size HXb.out.1)
    have NT8 := Aside0.mk (show w.heap.size + 1 < ga from Nat.lt_of_lt_of_le (blk_lt T4.out) HXa.out.1)
    have MT8 := Aside0.mk (show w.heap.size + 1 + 1 ≠ ga from Nat.ne_of_lt (Nat.lt_of_lt_of_le (blk_lt T5.out) HXa.out.1))
    have NTN := Aside0.mk (show w.heap.size + 1 + 1 < gb from Nat.lt_of_lt_of_le (blk_lt T5.out) HXb.out.1)
    clear HXa HXb
    have T2 := Aside0.mk (blk_below T2.out HB.out)
    have T4 := Aside0.mk (blk_below T4.out HB.out)
    have T5 := Aside0.mk (blk_below T5.out HB.out)
    have BB := Aside0.mk (below_step BB.out HB.out)
    clear HB
    have z0 := (blk_cell T8.out 0).trans rfl; have z1 := (blk_cell T8.out 1).trans rfl
    have fz0 := blk_frozen T8.out 0; have fz1 := blk_frozen T8.out 1
    refine last_ (i := 15) (N := none) #[true, true, true, true, true, true, true, true, true, true, true, true, true, true, true, true, false] rfl rfl (by kernel_rfl) (by decide) (fun K hK => ?_)
    refine skip_ (w1 := ?_) (by rfl) rfl ?_ ?_
    rotate_left
    · go_simp
      rfl
    refine hK.out _ _ ?_
    clear hK K z0 z1 fz0 fz1
    have P_ := Aside0.mk (put_two (n := w.heap.size) (w := w) (.slice a5 X1.length c5) (.slice a6 X2.length c6) T8.out BB.out (LT8.out))
    have T2_ := Aside0.mk (two_far' (.slice a5 X1.length c5) (.slice a6 X2.length c6) T2.out (show w.heap.size ≠ ga by have := NT8.out; omega))
    have T4_ := Aside0.mk (two_far' (.slice a5 X1.length c5) (.slice a6 X2.length c6) T4.out (show w.heap.size + 1 ≠ ga by have := NT8.out; omega))
    have T5_ := Aside0.mk (two_far (.slice a5 X1.length c5) (.slice a6 X2.length c6) T5.out T8.out (by decide))
    have TN_ := Aside0.mk (two_far (.slice a5 X1.length c5) (.slice a6 X2.length c6) TN.out T8.out (by decide))
    have R5_ := Aside0.mk (R_two (.slice a5 X1.length c5) (.slice a6 X2.length c6) R5.out T8.out (by decide))
    have R6_ := Aside0.mk (R_two (.slice a5 X1.length c5) (.slice a6 X2.length c6) R6.out T8.out (by decide))
    have R7_ := Aside0.mk (R_two (.slice a5 X1.length c5) (.slice a6 X2.length c6) R7.out T8.out (by decide))
    have R8_ := Aside0.mk (R_two (.slice a5 X1.length c5) (.slice a6 X2.length c6) R8.out T8.out (by decide))
    have BB_ := Aside0.mk P_.out.2
    have T8_ := Aside0.mk P_.out.1
    clear P_ BB T2 T4 T5 T8 TN R5 R6 R7 R8
    generalize ((y).setCell ⟨ga, 0, none⟩ (.slice a5 X1.length c5)).setCell ⟨ga, 1, none⟩ (.slice a6 X2.length c6) = w7 at BB_ T2_ T4_ T5_ T8_ TN_ R5_ R6_ R7_ R8_ ⊢
    have BB := BB_
    have T2 := T2_
    have T4 := T4_
    have T5 := T5_
    have T8 := T8_
    have TN := TN_
    have R5 := R5_
    have R6 := R6_
    have R7 := R7_
    have R8 := R8_
    clear BB_ T2_ T4_ T5_ T8_ TN_ R5_ R6_ R7_ R8_
    have z0 := (blk_cell TN.out 0).trans rfl; have z1 := (blk_cell TN.out 1).trans rfl
    have fz0 := blk_frozen TN.out 0; have fz1 := blk_frozen TN.out 1
    refine last_ (i := 16) (N := none) #[true, true, true, true, true, true, true, true, true, true, true, true, true, true, true, true, true] rfl rfl (by kernel_rfl) (by decide) (fun K hK => ?_)
    refine skip_ (w1 := ?_) (by rfl) rfl ?_ ?_
    rotate_left
    · go_simp
      rfl
    refine hK.out _ _ ?_
    clear hK K z0 z1 fz0 fz1
    have P_ := Aside0.mk (put_two (n := w.heap.size) (w := w) (.slice a7 G.length c7) (.slice a8 N.length c8) TN.out BB.out (LTN.out))
    have T2_ := Aside0.mk (two_far (.slice a7 G.length c7) (.slice a8 N.length c8) T2.out TN.out (by decide))
    have T4_ := Aside0.mk (two_far (.slice a7 G.length c7) (.slice a8 N.length c8) T4.out TN.out (by decide))
    have T5_ := Aside0.mk (two_far' (.slice a7 G.length c7) (.slice a8 N.length c8) T5.out (show w.heap.size + 1 + 1 ≠ gb by have := NTN.out; omega))
    have T8_ := Aside0.mk (two_far (.slice a7 G.length c7) (.slice a8 N.length c8) T8.out TN.out (by decide))
    have R5_ := Aside0.mk (R_two (.slice a7 G.length c7) (.slice a8 N.length c8) R5.out TN.out (by decide))
    have R6_ := Aside0.mk (R_two (.slice a7 G.length c7) (.slice a8 N.length c8) R6.out TN.out (by decide))
    have R7_ := Aside0.mk (R_two (.slice a7 G.length c7) (.slice a8 N.length c8) R7.out TN.out (by decide))
    have R8_ := Aside0.mk (R_two (.slice a7 G.length c7) (.slice a8 N.length c8) R8.out TN.out (by decide))
    have BB_ := Aside0.mk P_.out.2
    have TN_ := Aside0.mk P_.out.1
    clear P_ BB T2 T4 T5 T8 TN R5 R6 R7 R8
    generalize ((w7).setCell ⟨gb, 0, none⟩ (.slice a7 G.length c7)).setCell ⟨gb, 1, none⟩ (.slice a8 N.length c8) = w8 at BB_ T2_ T4_ T5_ T8_ TN_ R5_ R6_ R7_ R8_ ⊢
    have BB := BB_
    have T2 := T2_
    have T4 := T4_
    have T5 := T5_
    have T8 := T8_
    have TN := TN_
    have R5 := R5_
    have R6 := R6_
    have R7 := R7_
    have R8 := R8_
    clear BB_ T2_ T4_ T5_ T8_ TN_ R5_ R6_ R7_ R8_
    refine done_ (by kernel_rfl) ?_
    go_upto_region 5 with (fail)
    obtain ⟨bn, hbn⟩ : ∃ z, z = gb := ⟨_, rfl⟩
    rw [← hbn] at TN LTN NTN ⊢
    clear hbn
    refine start_ (n := 5) (S := fun w' => w'.cell? ⟨ga, 0, none⟩ = some (.slice a5 X1.length c5) ∧ w'.cell? ⟨ga, 1, none⟩ = some (.slice a6 X2.length c6) ∧ w'.cell? ⟨bn, 0, none⟩ = some (.slice a7 G.length c7) ∧ w'.cell? ⟨bn, 1, none⟩ = some (.slice a8 N.length c8)) (ds := [3]) #[false, false, false, false, false] (by kernel_rfl) rfl rfl ⟨(blk_cell T8.out 0).trans rfl, (blk_cell T8.out 1).trans rfl, (blk_cell TN.out 0).trans rfl, (blk_cell TN.out 1).trans rfl⟩ (fun hHeld => ?_)
    have hbd := below_drew1 (Below.refl w8.heap.size w8)
    have T2 := Aside0.mk (blk_below T2.out hbd)
    have T4 := Aside0.mk (blk_below T4.out hbd)
    have T5 := Aside0.mk (blk_below T5.out hbd)
    have T8 := Aside0.mk (blk_below T8.out hbd)
    have TN := Aside0.mk (blk_below TN.out hbd)
    have R5 := Aside0.mk (Kd.R_below R5.out hbd)
    have R6 := Aside0.mk (Kd.R_below R6.out hbd)
    have R7 := Aside0.mk (Kd.R_below R7.out hbd)
    have R8 := Aside0.mk (Kd.R_below R8.out hbd)
    have BB := Aside0.mk (below_step BB.out hbd)
    clear hbd
    generalize w8.drew = wd at BB T2 T4 T5 T8 TN R5 R6 R7 R8 hHeld ⊢
    refine take_ (i := 0) (N := some 31) (v := ?_) (a' := ?_) #[true, false, false, false, false] rfl rfl (by kernel_rfl) (fun _ _ _ h => h) (Or.inl ⟨by rfl, ?_⟩) hHeld ?_ ?_
    rotate_left
    · rintro w' ⟨s0, s1, s2, s3⟩
      go_simp
      with_reducible rfl
    rotate_left
    · simp only [Act.put, List.setIfInBounds_toArray, List.set_cons_zero, List.set_cons_succ, i64_w, i32_w]
      rfl
    refine take_ (i := 1) (N := some 32) (v := ?_) (a' := ?_) #[true, true, false, false, false] rfl rfl (by kernel_rfl) (fun _ _ _ h => h) (Or.inl ⟨by rfl, ?_⟩) hHeld ?_ ?_
    rotate_left
    · rintro w' ⟨s0, s1, s2, s3⟩
      go_simp
      with_reducible rfl
    rotate_left
    · simp only [Act.put, List.setIfInBounds_toArray, List.set_cons_zero, List.set_cons_succ, i64_w, i32_w]
      rfl
    have r0 := (blk_cell T4.out 0).trans rfl; have r1 := (blk_cell T4.out 1).trans rfl
    have fr0 := blk_frozen T4.out 0; have fr1 := blk_frozen T4.out 1
    refine one_ (i := 2) (N := none) #[true, true, true, false, false] rfl rfl (by kernel_rfl) (by decide) (fun K hK => ?_)
    refine skip_ (w1 := ?_) (by rfl) rfl ?_ ?_
    rotate_left
    · go_simp
      rfl
    clear r0 r1 fr0 fr1
    have P_ := Aside0.mk (put_two (n := w.heap.size) (w := w) (.slice a5 X1.length c5) (.slice a6 X2.length c6) T4.out BB.out (by omega))
    have T2_ := Aside0.mk (two_far' (.slice a5 X1.length c5) (.slice a6 X2.length c6) T2.out (show w.heap.size ≠ w.heap.size + 1 by omega))
    have T5_ := Aside0.mk (two_far (.slice a5 X1.length c5) (.slice a6 X2.length c6) T5.out T4.out (by decide))
    have T8_ := Aside0.mk (two_far' (.slice a5 X1.length c5) (.slice a6 X2.length c6) T8.out (show ga ≠ w.heap.size + 1 by have := NT8.out; omega))
    have TN_ := Aside0.mk (two_far (.slice a5 X1.length c5) (.slice a6 X2.length c6) TN.out T4.out (by decide))
    have R5_ := Aside0.mk (R_two (.slice a5 X1.length c5) (.slice a6 X2.length c6) R5.out T4.out (by decide))
    have R6_ := Aside0.mk (R_two (.slice a5 X1.length c5) (.slice a6 X2.length c6) R6.out T4.out (by decide))
    have R7_ := Aside0.mk (R_two (.slice a5 X1.length c5) (.slice a6 X2.length c6) R7.out T4.out (by decide))
    have R8_ := Aside0.mk (R_two (.slice a5 X1.length c5) (.slice a6 X2.length c6) R8.out T4.out (by decide))
    have BB_ := Aside0.mk P_.out.2
    have T4_ := Aside0.mk P_.out.1
    clear P_ BB T2 T4 T5 T8 TN R5 R6 R7 R8
    generalize ((wd).setCell ⟨w.heap.size + 1, 0, none⟩ (.slice a5 X1.length c5)).setCell ⟨w.heap.size + 1, 1, none⟩ (.slice a6 X2.length c6) = we at BB_ T2_ T4_ T5_ T8_ TN_ R5_ R6_ R7_ R8_ ⊢
    have BB := BB_
    have T2 := T2_
    have T4 := T4_
    have T5 := T5_
    have T8 := T8_
    have TN := TN_
    have R5 := R5_
    have R6 := R6_
    have R7 := R7_
    have R8 := R8_
    clear BB_ T2_ T4_ T5_ T8_ TN_ R5_ R6_ R7_ R8_
    refine hK.out _ _ ⟨(blk_cell T8.out 0).trans rfl, (blk_cell T8.out 1).trans rfl, (blk_cell TN.out 0).trans rfl, (blk_cell TN.out 1).trans rfl⟩ (fun hHeld => ?_)
    clear hK K
    have r0 := (blk_cell T5.out 0).trans rfl; have r1 := (blk_cell T5.out 1).trans rfl
    have fr0 := blk_frozen T5.out 0; have fr1 := blk_frozen T5.out 1
    refine last_ (i := 3) (N := none) #[true, true, true, true, false] rfl rfl (by kernel_rfl) (by decide) (fun K hK => ?_)
    refine skip_ (w1 := ?_) (by rfl) rfl ?_ ?_
    rotate_left
    · go_simp
      rfl
    refine hK.out _ _ ?_
    clear hK K hHeld r0 r1 fr0 fr1
    have P_ := Aside0.mk (put_two (n := w.heap.size) (w := w) (.slice a7 G.length c7) (.slice a8 N.length c8) T5.out BB.out (by omega))
    have T2_ := Aside0.mk (two_far (.slice a7 G.length c7) (.slice a8 N.length c8) T2.out T5.out (by decide))
    have T4_ := Aside0.mk (two_far (.slice a7 G.length c7) (.slice a8 N.length c8) T4.out T5.out (by decide))
    have T8_ := Aside0.mk (two_far' (.slice a7 G.length c7) (.slice a8 N.length c8) T8.out (show ga ≠ w.heap.size + 1 + 1 by have := MT8.out; omega))
    have TN_ := Aside0.mk (two_far' (.slice a7 G.length c7) (.slice a8 N.length c8) TN.out (show bn ≠ w.heap.size + 1 + 1 by have := NTN.out; omega))
    have R5_ := Aside0.mk (R_two (.slice a7 G.length c7) (.slice a8 N.length c8) R5.out T5.out (by decide))
    have R6_ := Aside0.mk (R_two (.slice a7 G.length c7) (.slice a8 N.length c8) R6.out T5.out (by decide))
    have R7_ := Aside0.mk (R_two (.slice a7 G.length c7) (.slice a8 N.length c8) R7.out T5.out (by decide))
    have R8_ := Aside0.mk (R_two (.slice a7 G.length c7) (.slice a8 N.length c8) R8.out T5.out (by decide))
    have BB_ := Aside0.mk P_.out.2
    have T5_ := Aside0.mk P_.out.1
    clear P_ BB T2 T4 T5 T8 TN R5 R6 R7 R8
    generalize ((we).setCell ⟨w.heap.size + 1 + 1, 0, none⟩ (.slice a7 G.length c7)).setCell ⟨w.heap.size + 1 + 1, 1, none⟩ (.slice a8 N.length c8) = wf at BB_ T2_ T4_ T5_ T8_ TN_ R5_ R6_ R7_ R8_ ⊢
    have BB := BB_
    have T2 := T2_
    have T4 := T4_
    have T5 := T5_
    have T8 := T8_
    have TN := TN_
    have R5 := R5_
    have R6 := R6_
    have R7 := R7_
    have R8 := R8_
    clear BB_ T2_ T4_ T5_ T8_ TN_ R5_ R6_ R7_ R8_
    skip
    refine pure_ (i := 4) (N := some 6) (v := ?_) (a' := ?_) #[true, true, true, true, true] rfl rfl (by kernel_rfl) (fun _ _ _ h => h) (Or.inl ⟨by rfl, ?_⟩) ?_ ?_
    rotate_left
    · intro w'
      go_simp
      with_reducible rfl
    rotate_left
    · simp only [Act.put, List.setIfInBounds_toArray, List.set_cons_zero, List.set_cons_succ, i64_w, i32_w]
      rfl
    refine done_ (by kernel_rfl) ?_
    go_wp2
    refine bodyPost_ret (results_cells3 rfl rfl rfl (loadVar_two 29 (by kernel_rfl) (by kernel_rfl) T4.out) (loadVar_two 33 (by kernel_rfl) (by kernel_rfl) T5.out)) rfl ?_
    show RetN w (closeF H W x).1 (closeF H W x).2 _ _
    rw [HE.out]
    exact ⟨_, _, rfl, ⟨_, _, rfl, R5.out, R6.out⟩, ⟨_, _, rfl, R7.out, R8.out⟩, BB.out⟩
end Go.Proofs.Ytifnfnoicinbaaa.M
