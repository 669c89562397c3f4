/- LockReleases: the walk. -/
import Derived.Test.YtifnfnoicinbaaaQV
import Derived.Test.YtifnfnoicinbaaaS5
import Derived.Test.YtifnfnoicinbaaaD2
namespace Go.Proofs.Ytifnfnoicinbaaa.M
open Go.RowKit Go.Proofs.YtifnfnoicinbaaaW.PrintWords Go.Proofs.YtifnfnoicinbaaaW.PrintLast Go.Proofs.YtifnfnoicinbaaaW.PrintMore
set_option linter.unusedVariables false
set_option linter.unusedSimpArgs false
set_option linter.unnecessarySimpa false

def Len4 (R : List S24 × List S24 × List Int × List Int) (n : Nat) : Prop := R.1.length + R.2.1.length ≤ n ∧ R.2.2.1.length + R.2.2.2.length ≤ n
theorem len4_nil (n : Nat) : Len4 ([], [], [], []) n := ⟨by simp, by simp⟩
theorem len4_settle {H W H' W' : List S24} (hs : PL.Single hdL W') (h1 : H'.length ≤ H.length) (h2 : W'.length ≤ W.length) : Len4 (settleL H' W') (H.length + W.length) := by
  have := settle_lens (H := H') hs
  exact ⟨by omega, by omega⟩
theorem single_sub {W W' : List S24} (h : PL.Single hdL W) (hs : W'.Sublist W) : PL.Single hdL W' := by
  unfold PL.Single at *
  exact h.sublist (hs.map _)
theorem unlock_lens {H W : List S24} {l : S24} : Len4 (unlockF H W l).1 (H.length + W.length) := by
  unfold unlockF
  by_cases hz : begE H W (vL l) = 0
  · rw [if_pos hz]
    cases lastI H l H.length with
    | none => exact len4_nil _
    | some i => exact len4_settle (Inv.iff.2 (beg_zero hz).1).single (List.eraseIdx_sublist _ _).length_le (Nat.le_refl _)
  · rw [if_neg hz]; exact len4_nil _
theorem cancel_lens {H W : List S24} {x : Int} : Len4 (cancelF H W x).1 (H.length + W.length) := by
  unfold cancelF
  by_cases hz : begE H W (knownB x) = 0
  · rw [if_pos hz]
    cases PL.waitI hdL W x with
    | none => exact len4_nil _
    | some i => exact len4_settle (single_sub (Inv.iff.2 (beg_zero hz).1).single (List.eraseIdx_sublist _ _)) (Nat.le_refl _) (List.eraseIdx_sublist _ _).length_le
  · rw [if_neg hz]; exact len4_nil _
theorem close_lens {H W : List S24} {x : Int} : Len4 (closeF H W x).1 (H.length + W.length) := by
  unfold closeF
  by_cases hz : begE H W (knownB x) = 0
  · rw [if_pos hz]
    exact len4_settle (single_sub (Inv.iff.2 (beg_zero hz).1).single List.filter_sublist) (List.length_filter_le _ _) (List.length_filter_le _ _)
  · rw [if_neg hz]; exact len4_nil _
theorem bne_self' (E : Int) : (E != E) = false := by simp
theorem setC_of {w0 w' : World} {base : Nat} {vH vW vG vN : Value} {R : List S24 × List S24 × List Int × List Int} (h1 : k24.R 24 w' base (fun _ => True) vH R.1) (h2 : k24.R 24 w' base (fun _ => True) vW R.2.1) (h3 : kI.R 3 w' base (fun _ => True) vG R.2.2.1) (h4 : kI.R 3 w' base (fun _ => True) vN R.2.2.2) (hb : w0.heap.size ≤ base) : SetC w0 w' vH vW vG vN R := ⟨Kd.R_lower h1 hb, Kd.R_lower h2 hb, Kd.R_lower h3 hb, Kd.R_lower h4 hb⟩
theorem setC_two {w0 w4 : World} {vH vW vG vN : Value} {R : List S24 × List S24 × List Int × List Int} {b t : Nat} {c1 c2 : Value} (a1 a2 : Value) (h : SetC w0 w4 vH vW vG vN R) (hb : w4.heap[b]? = some (.cells #[c1, c2] t (0, 0))) (h24 : ∀ q, q ∈ 24 :: k24.E → q ≠ t) (h3 : ∀ q, q ∈ 3 :: kI.E → q ≠ t) : SetC w0 ((w4.setCell ⟨b, 0, none⟩ a1).setCell ⟨b, 1, none⟩ a2) vH vW vG vN R :=
  ⟨R_two a1 a2 h.ph hb h24, R_two a1 a2 h.pw hb h24, R_two a1 a2 h.pg hb h3, R_two a1 a2 h.pn hb h3⟩
set_option maxRecDepth 100000 in
set_option maxHeartbeats 2000000 in
theorem sameTT_set {w0 w : World} {a a' b b' : Option Addr} {c c' d d' : Nat} {vG vN vG' vN' : Value} {X Y : List S24} {G N G' N' : List Int} (h : SetC w0 w (.slice a X.length c) (.slice b Y.length d) vG vN (X, Y, G, N)) (h' : SetC w0 w (.slice a' X.length c') (.slice b' Y.length d') vG' vN' (X, Y, G', N')) (hl : X.length + Y.length ≤ 1000) :
    Calls Try.prog 24 #[.agg #[.slice a X.length c, .slice b Y.length d], .agg #[.slice a' X.length c', .slice b' Y.length d']] w fun e w' => e = .returned (.bool true) ∧ Below w.heap.size w w' :=
  sameTT_calls a b a' b' c d c' d' X Y w (Kd.R_reads' h.ph).2.2 (Kd.R_reads' h.pw).2.2 (Kd.R_reads' h'.ph).2.2 (Kd.R_reads' h'.pw).2.2 (Kd.R_reads' h.ph).2.1 (Kd.R_reads' h.pw).2.1 (Kd.R_reads' h'.ph).2.1 (Kd.R_reads' h'.pw).2.1 hl
set_option maxRecDepth 100000 in
set_option maxHeartbeats 2000000 in
theorem sameNN_set {w0 w : World} {a a' b b' : Option Addr} {c c' d d' : Nat} {vH vW vH' vW' : Value} {X Y : List Int} {G N G' N' : List S24} (h : SetC w0 w vH vW (.slice a X.length c) (.slice b Y.length d) (G, N, X, Y)) (h' : SetC w0 w vH' vW' (.slice a' X.length c') (.slice b' Y.length d') (G', N', X, Y)) (hl : X.length + Y.length ≤ 1000) :
    Calls Try.prog 25 #[.agg #[.slice a X.length c, .slice b Y.length d], .agg #[.slice a' X.length c', .slice b' Y.length d']] w fun e w' => e = .returned (.bool true) ∧ Below w.heap.size w w' :=
  sameNN_calls a b a' b' c d c' d' X Y w (Kd.R_reads' h.pg).2.2 (Kd.R_reads' h.pn).2.2 (Kd.R_reads' h'.pg).2.2 (Kd.R_reads' h'.pn).2.2 (Kd.R_reads' h.pg).2.1 (Kd.R_reads' h.pn).2.1 (Kd.R_reads' h'.pg).2.1 (Kd.R_reads' h'.pn).2.1 hl

set_option maxRecDepth 100000 in
set_option maxHeartbeats 8000000 in
theorem releases_walk (A : Option Addr) (c : Nat) (H : List S24) (B : Option Addr) (d : Nat) (W : List S24) (l : S24) (x : Int) (w : World) (l1 : H.length ≤ c) (l2 : W.length ≤ d) (h1 : k24.C w A H.length H) (h2 : k24.C w B W.length W) (hsz : H.length ≤ 140737488355328 ∧ W.length ≤ 140737488355328) (hx : -9223372036854775808 ≤ x ∧ x ≤ 9223372036854775807) :
    Calls Try.prog 8 #[.agg #[.slice A H.length c, .slice B W.length d], .agg #[.int .i64 l.f0, .int .i64 l.f1, .int .i64 l.f2, .int .i64 l.f3, .bool l.f4], .int .i64 x] w fun e w' => e = .returned (.bool true) ∧ Below w.heap.size w w' := by
  have HC1 := Aside0.mk h1
  have HC2 := Aside0.mk h2
  have HSZ := Aside0.mk hsz
  clear h1 h2 hsz
  go_enter Try.func8, Try.ntmps8
  go_upto_region 1 with (fail)
  have hb_ := below_alloc (below_alloc (Below.refl _ w) (.cells #[.slice A H.length c, .slice B W.length d] 29)) (.cells #[.int .i64 l.f0, .int .i64 l.f1, .int .i64 l.f2, .int .i64 l.f3, .bool l.f4] 24)
  have hG0_ := blk_alloc (blk_lit0 w (.cells #[.slice A H.length c, .slice B W.length d] 29)) (.cells #[.int .i64 l.f0, .int .i64 l.f1, .int .i64 l.f2, .int .i64 l.f3, .bool l.f4] 24)
  have hG1_ := blk_lit w (.cells #[.slice A H.length c, .slice B W.length d] 29) (.cells #[.int .i64 l.f0, .int .i64 l.f1, .int .i64 l.f2, .int .i64 l.f3, .bool l.f4] 24)
  generalize ((w.alloc (.cells #[.slice A H.length c, .slice B W.length d] 29)).alloc (.cells #[.int .i64 l.f0, .int .i64 l.f1, .int .i64 l.f2, .int .i64 l.f3, .bool l.f4] 24)) = V at hb_ hG0_ hG1_ ⊢
  have HB_V := Aside0.mk hb_
  have V0 := Aside0.mk hG0_
  have V1 := Aside0.mk hG1_
  clear hb_ hG0_ hG1_
  have x0 := (blk_cell V0.out 0).trans rfl; have x1 := (blk_cell V0.out 1).trans rfl
  go_upto_region 2 with (fail)
  refine (archivoltlaw31_small.calls A c H B d W (smallB H W) _ (Kd.C_below HC1.out HB_V.out) l1 (Kd.C_below HC2.out HB_V.out) l2 (small_f HSZ.out.1 HSZ.out.2)).mono ?_
  rintro e w2 ⟨rfl, hb⟩
  have T := Aside0.mk (blk_below V0.out hb)
  have Y := Aside0.mk (blk_below V1.out hb)
  have BB := Aside0.mk (below_step HB_V.out hb)
  clear hb x0 x1 HB_V V0 V1
  cases hs : smallB H W with
  | false =>
    go_wp2_with (fail)
    refine (sane_calls _).mono ?_
    rintro e w9 ⟨rfl, hb9⟩
    have HB9 := Aside0.mk (below_step BB.out hb9)
    clear hb9
    go_wp2
    go_ret
    exact ⟨rfl, HB9.out⟩
  | true =>
  have hlen : H.length + W.length ≤ 420 := small_len hs
  clear hs
  obtain ⟨R1, hR1⟩ : ∃ z, z = unlockF H W l := ⟨_, rfl⟩
  have LR1 := Aside0.mk (unlock_lens (H := H) (W := W) (l := l))
  rw [← hR1] at LR1
  obtain ⟨⟨UH, UW, UG, UN⟩, E1⟩ := R1
  have HR1 := Aside0.mk hR1.symm
  dsimp only at LR1
  have qR1 : (E1 == E1) = true := by simp
  have nR1 : (E1 != E1) = false := bne_self' _
  clear hR1
  obtain ⟨R2, hR2⟩ : ∃ z, z = cancelF H W x := ⟨_, rfl⟩
  have LR2 := Aside0.mk (cancel_lens (H := H) (W := W) (x := x))
  rw [← hR2] at LR2
  obtain ⟨⟨CH, CW, CG, CN⟩, E2⟩ := R2
  have HR2 := Aside0.mk hR2.symm
  dsimp only at LR2
  have qR2 : (E2 == E2) = true := by simp
  have nR2 : (E2 != E2) = false := bne_self' _
  clear hR2
  obtain ⟨R3, hR3⟩ : ∃ z, z = closeF H W x := ⟨_, rfl⟩
  have LR3 := Aside0.mk (close_lens (H := H) (W := W) (x := x))
  rw [← hR3] at LR3
  obtain ⟨⟨KH, KW, KG, KN⟩, E3⟩ := R3
  have HR3 := Aside0.mk hR3.symm
  dsimp only at LR3
  have qR3 : (E3 == E3) = true := by simp
  have nR3 : (E3 != E3) = false := bne_self' _
  clear hR3
  have x0 := (blk_cell T.out 0).trans rfl; have x1 := (blk_cell T.out 1).trans rfl
  have y0 := (blk_cell Y.out 0).trans rfl; have y1 := (blk_cell Y.out 1).trans rfl; have y2 := (blk_cell Y.out 2).trans rfl; have y3 := (blk_cell Y.out 3).trans rfl; have y4 := (blk_cell Y.out 4).trans rfl
  go_upto_region 4 with (fail)
  refine (unlock_calls A B c d H W l _ (Kd.C_below HC1.out BB.out) (Kd.C_below HC2.out BB.out) (by omega)).mono ?_
  rintro e w3 hp
  rw [HR1.out] at hp
  obtain ⟨v, u, rfl, ⟨vH, vW, rfl, hvH, hvW⟩, ⟨vG, vN, rfl, hvG, hvN⟩, hb⟩ := hp
  have S3 := Aside0.mk (setC_of (w0 := w) (R := (UH, UW, UG, UN)) hvH hvW hvG hvN BB.out.size)
  clear hvH hvW hvG hvN
  obtain ⟨a3, m3, rfl⟩ := Kd.R_slice S3.out.ph
  obtain ⟨b3, n3, rfl⟩ := Kd.R_slice S3.out.pw
  obtain ⟨g3, r3, rfl⟩ := Kd.R_slice S3.out.pg
  obtain ⟨f3, s3, rfl⟩ := Kd.R_slice S3.out.pn
  dsimp only at S3 ⊢
  have T := Aside0.mk (blk_below T.out hb)
  have Y := Aside0.mk (blk_below Y.out hb)
  have BB := Aside0.mk (below_step BB.out hb)
  clear hb x0 x1 y0 y1 y2 y3 y4
  go_upto_region 4 with (fail)
  have LT7 := Aside0.mk (show w.heap.size + 1 < w3.heap.size from blk_lt Y.out)
  have DTT7 := Aside0.mk (show w.heap.size < w3.heap.size from blk_lt T.out)
  have hb_ := below_alloc (below_alloc (Below.refl _ w3) (.cells #[.slice a3 UH.length m3, .slice b3 UW.length n3] 29)) (.cells #[.slice g3 UG.length r3, .slice f3 UN.length s3] 33)
  have hG0_ := blk_alloc (blk_lit0 w3 (.cells #[.slice a3 UH.length m3, .slice b3 UW.length n3] 29)) (.cells #[.slice g3 UG.length r3, .slice f3 UN.length s3] 33)
  have hG1_ := blk_lit w3 (.cells #[.slice a3 UH.length m3, .slice b3 UW.length n3] 29) (.cells #[.slice g3 UG.length r3, .slice f3 UN.length s3] 33)
  generalize ((w3.alloc (.cells #[.slice a3 UH.length m3, .slice b3 UW.length n3] 29)).alloc (.cells #[.slice g3 UG.length r3, .slice f3 UN.length s3] 33)) = w3a at hb_ hG0_ hG1_ ⊢
  have HB_w3a := Aside0.mk hb_
  have w3a0 := Aside0.mk hG0_
  have w3a1 := Aside0.mk hG1_
  clear hb_ hG0_ hG1_
  have S3 := Aside0.mk (S3.out.move HB_w3a.out)
  have T := Aside0.mk (blk_below T.out HB_w3a.out)
  have Y := Aside0.mk (blk_below Y.out HB_w3a.out)
  have BB := Aside0.mk (below_step BB.out HB_w3a.out)
  clear HB_w3a
  have T7 := w3a0
  have T8 := w3a1
  clear w3a0 w3a1
  generalize w3.heap.size = c7 at T7 T8 LT7 DTT7 ⊢
  have x0 := (blk_cell T.out 0).trans rfl; have x1 := (blk_cell T.out 1).trans rfl
  have y0 := (blk_cell Y.out 0).trans rfl; have y1 := (blk_cell Y.out 1).trans rfl; have y2 := (blk_cell Y.out 2).trans rfl; have y3 := (blk_cell Y.out 3).trans rfl; have y4 := (blk_cell Y.out 4).trans rfl
  go_upto_region 5 with (fail)
  refine (unlockR_calls A B c d H W l _ (Kd.C_below HC1.out BB.out) (Kd.C_below HC2.out BB.out) l1 l2 (by omega)).mono ?_
  rintro e w4 hp
  rw [HR1.out] at hp
  obtain ⟨v, u, rfl, ⟨vH, vW, rfl, hvH, hvW⟩, ⟨vG, vN, rfl, hvG, hvN⟩, hb⟩ := hp
  have S4 := Aside0.mk (setC_of (w0 := w) (R := (UH, UW, UG, UN)) hvH hvW hvG hvN BB.out.size)
  clear hvH hvW hvG hvN
  obtain ⟨a4, m4, rfl⟩ := Kd.R_slice S4.out.ph
  obtain ⟨b4, n4, rfl⟩ := Kd.R_slice S4.out.pw
  obtain ⟨g4, r4, rfl⟩ := Kd.R_slice S4.out.pg
  obtain ⟨f4, s4, rfl⟩ := Kd.R_slice S4.out.pn
  dsimp only at S4 ⊢
  have S3 := Aside0.mk (S3.out.move hb)
  have T := Aside0.mk (blk_below T.out hb)
  have Y := Aside0.mk (blk_below Y.out hb)
  have T7 := Aside0.mk (blk_below T7.out hb)
  have T8 := Aside0.mk (blk_below T8.out hb)
  have BB := Aside0.mk (below_step BB.out hb)
  clear hb x0 x1 y0 y1 y2 y3 y4
  go_upto_region 5 with (fail)
  have LTA := Aside0.mk (show w.heap.size + 1 < w4.heap.size from blk_lt Y.out)
  have DTTA := Aside0.mk (show w.heap.size < w4.heap.size from blk_lt T.out)
  have DT7TA := Aside0.mk (show c7 < w4.heap.size from blk_lt T7.out)
  have DT8TA := Aside0.mk (show c7 + 1 < w4.heap.size from blk_lt T8.out)
  have hb_ := below_alloc (below_alloc (Below.refl _ w4) (.cells #[.slice a4 UH.length m4, .slice b4 UW.length n4] 29)) (.cells #[.slice g4 UG.length r4, .slice f4 UN.length s4] 33)
  have hG0_ := blk_alloc (blk_lit0 w4 (.cells #[.slice a4 UH.length m4, .slice b4 UW.length n4] 29)) (.cells #[.slice g4 UG.length r4, .slice f4 UN.length s4] 33)
  have hG1_ := blk_lit w4 (.cells #[.slice a4 UH.length m4, .slice b4 UW.length n4] 29) (.cells #[.slice g4 UG.length r4, .slice f4 UN.length s4] 33)
  generalize ((w4.alloc (.cells #[.slice a4 UH.length m4, .slice b4 UW.length n4] 29)).alloc (.cells #[.slice g4 UG.length r4, .slice f4 UN.length s4] 33)) = w4a at hb_ hG0_ hG1_ ⊢
  have HB_w4a := Aside0.mk hb_
  have w4a0 := Aside0.mk hG0_
  have w4a1 := Aside0.mk hG1_
  clear hb_ hG0_ hG1_
  have S3 := Aside0.mk (S3.out.move HB_w4a.out)
  have S4 := Aside0.mk (S4.out.move HB_w4a.out)
  have T := Aside0.mk (blk_below T.out HB_w4a.out)
  have Y := Aside0.mk (blk_below Y.out HB_w4a.out)
  have T7 := Aside0.mk (blk_below T7.out HB_w4a.out)
  have T8 := Aside0.mk (blk_below T8.out HB_w4a.out)
  have BB := Aside0.mk (below_step BB.out HB_w4a.out)
  clear HB_w4a
  have TA := w4a0
  have T11 := w4a1
  clear w4a0 w4a1
  generalize w4.heap.size = cA at TA T11 LTA DTTA DT7TA DT8TA ⊢
  clear Y
  have p0 := (blk_cell T7.out 0).trans rfl; have p1 := (blk_cell T7.out 1).trans rfl
  have q0 := (blk_cell TA.out 0).trans rfl; have q1 := (blk_cell TA.out 1).trans rfl
  go_upto_region 6 with (fail)
  refine (sameTT_set S3.out S4.out (by have := LR1.out.1; dsimp only at this; omega)).mono ?_
  rintro e w5 ⟨rfl, hb⟩
  have S3 := Aside0.mk (S3.out.move hb)
  have S4 := Aside0.mk (S4.out.move hb)
  have T := Aside0.mk (blk_below T.out hb)
  have T7 := Aside0.mk (blk_below T7.out hb)
  have T8 := Aside0.mk (blk_below T8.out hb)
  have TA := Aside0.mk (blk_below TA.out hb)
  have T11 := Aside0.mk (blk_below T11.out hb)
  have BB := Aside0.mk (below_step BB.out hb)
  clear hb p0 p1 q0 q1
  have p0 := (blk_cell T8.out 0).trans rfl; have p1 := (blk_cell T8.out 1).trans rfl
  have q0 := (blk_cell T11.out 0).trans rfl; have q1 := (blk_cell T11.out 1).trans rfl
  go_upto_region 6 with (fail)
  refine (sameNN_set S3.out S4.out (by have := LR1.out.2; dsimp only at this; omega)).mono ?_
  rintro e w6 ⟨rfl, hb⟩
  have S3 := Aside0.mk (S3.out.move hb)
  have S4 := Aside0.mk (S4.out.move hb)
  have T := Aside0.mk (blk_below T.out hb)
  have T7 := Aside0.mk (blk_below T7.out hb)
  have T8 := Aside0.mk (blk_below T8.out hb)
  have TA := Aside0.mk (blk_below TA.out hb)
  have T11 := Aside0.mk (blk_below T11.out hb)
  have BB := Aside0.mk (below_step BB.out hb)
  clear hb p0 p1 q0 q1
  clear S3 S4
  have x0 := (blk_cell T.out 0).trans rfl; have x1 := (blk_cell T.out 1).trans rfl
  go_upto_region 8 with (fail)
  refine (cancel_calls A B c d H W x _ (Kd.C_below HC1.out BB.out) (Kd.C_below HC2.out BB.out) (by omega)).mono ?_
  rintro e w7 hp
  rw [HR2.out] at hp
  obtain ⟨v, u, rfl, ⟨vH, vW, rfl, hvH, hvW⟩, ⟨vG, vN, rfl, hvG, hvN⟩, hb⟩ := hp
  have S5 := Aside0.mk (setC_of (w0 := w) (R := (CH, CW, CG, CN)) hvH hvW hvG hvN BB.out.size)
  clear hvH hvW hvG hvN
  obtain ⟨a5, m5, rfl⟩ := Kd.R_slice S5.out.ph
  obtain ⟨b5, n5, rfl⟩ := Kd.R_slice S5.out.pw
  obtain ⟨g5, r5, rfl⟩ := Kd.R_slice S5.out.pg
  obtain ⟨f5, s5, rfl⟩ := Kd.R_slice S5.out.pn
  dsimp only at S5 ⊢
  have T := Aside0.mk (blk_below T.out hb)
  have T7 := Aside0.mk (blk_below T7.out hb)
  have T8 := Aside0.mk (blk_below T8.out hb)
  have TA := Aside0.mk (blk_below TA.out hb)
  have T11 := Aside0.mk (blk_below T11.out hb)
  have BB := Aside0.mk (below_step BB.out hb)
  clear hb x0 x1
  have p0 := (blk_cell T7.out 0).trans rfl; have p1 := (blk_cell T7.out 1).trans rfl
  have fp0 := blk_frozen T7.out 0; have fp1 := blk_frozen T7.out 1
  have q0 := (blk_cell T8.out 0).trans rfl; have q1 := (blk_cell T8.out 1).trans rfl
  have fq0 := blk_frozen T8.out 0; have fq1 := blk_frozen T8.out 1
  go_upto_region 8 with (fail)
  clear p0 p1 q0 q1 fp0 fp1 fq0 fq1
  have P_ := Aside0.mk (put_two (n := w.heap.size) (w := w) (.slice a5 CH.length m5) (.slice b5 CW.length n5) T7.out BB.out (by have := LT7.out; omega))
  have T_ := Aside0.mk (two_far' (.slice a5 CH.length m5) (.slice b5 CW.length n5) T.out (show w.heap.size ≠ c7 by have := LT7.out; omega))
  have T8_ := Aside0.mk (two_far (.slice a5 CH.length m5) (.slice b5 CW.length n5) T8.out T7.out (by decide))
  have TA_ := Aside0.mk (two_far' (.slice a5 CH.length m5) (.slice b5 CW.length n5) TA.out (show cA ≠ c7 by have := DT7TA.out; omega))
  have T11_ := Aside0.mk (two_far (.slice a5 CH.length m5) (.slice b5 CW.length n5) T11.out T7.out (by decide))
  have S5_ := Aside0.mk (setC_two (.slice a5 CH.length m5) (.slice b5 CW.length n5) S5.out T7.out (by decide) (by decide))
  have BB_ := Aside0.mk P_.out.2
  have T7_ := Aside0.mk P_.out.1
  clear P_ BB T T7 T8 TA T11 S5
  generalize ((w7).setCell ⟨c7, 0, none⟩ (.slice a5 CH.length m5)).setCell ⟨c7, 1, none⟩ (.slice b5 CW.length n5) = w7a at BB_ T_ T7_ T8_ TA_ T11_ S5_ ⊢
  have BB := BB_
  have T := T_
  have T7 := T7_
  have T8 := T8_
  have TA := TA_
  have T11 := T11_
  have S5 := S5_
  clear BB_ T_ T7_ T8_ TA_ T11_ S5_
  have P_ := Aside0.mk (put_two (n := w.heap.size) (w := w) (.slice g5 CG.length r5) (.slice f5 CN.length s5) T8.out BB.out (by have := LT7.out; omega))
  have T_ := Aside0.mk (two_far (.slice g5 CG.length r5) (.slice f5 CN.length s5) T.out T8.out (by decide))
  have T7_ := Aside0.mk (two_far (.slice g5 CG.length r5) (.slice f5 CN.length s5) T7.out T8.out (by decide))
  have TA_ := Aside0.mk (two_far (.slice g5 CG.length r5) (.slice f5 CN.length s5) TA.out T8.out (by decide))
  have T11_ := Aside0.mk (two_far' (.slice g5 CG.length r5) (.slice f5 CN.length s5) T11.out (show cA + 1 ≠ c7 + 1 by have := DT8TA.out; omega))
  have S5_ := Aside0.mk (setC_two (.slice g5 CG.length r5) (.slice f5 CN.length s5) S5.out T8.out (by decide) (by decide))
  have BB_ := Aside0.mk P_.out.2
  have T8_ := Aside0.mk P_.out.1
  clear P_ BB T T7 T8 TA T11 S5
  generalize ((w7a).setCell ⟨c7 + 1, 0, none⟩ (.slice g5 CG.length r5)).setCell ⟨c7 + 1, 1, none⟩ (.slice f5 CN.length s5) = w7b at BB_ T_ T7_ T8_ TA_ T11_ S5_ ⊢
  have BB := BB_
  have T := T_
  have T7 := T7_
  have T8 := T8_
  have TA := TA_
  have T11 := T11_
  have S5 := S5_
  clear BB_ T_ T7_ T8_ TA_ T11_ S5_
  have x0 := (blk_cell T.out 0).trans rfl; have x1 := (blk_cell T.out 1).trans rfl
  go_upto_region 9 with (fail)
  refine (cancelR_calls A B c d H W x _ (Kd.C_below HC1.out BB.out) (Kd.C_below HC2.out BB.out) l1 l2 (by omega)).mono ?_
  rintro e w8 hp
  rw [HR2.out] at hp
  obtain ⟨v, u, rfl, ⟨vH, vW, rfl, hvH, hvW⟩, ⟨vG, vN, rfl, hvG, hvN⟩, hb⟩ := hp
  have S6 := Aside0.mk (setC_of (w0 := w) (R := (CH, CW, CG, CN)) hvH hvW hvG hvN BB.out.size)
  clear hvH hvW hvG hvN
  obtain ⟨a6, m6, rfl⟩ := Kd.R_slice S6.out.ph
  obtain ⟨b6, n6, rfl⟩ := Kd.R_slice S6.out.pw
  obtain ⟨g6, r6, rfl⟩ := Kd.R_slice S6.out.pg
  obtain ⟨f6, s6, rfl⟩ := Kd.R_slice S6.out.pn
  dsimp only at S6 ⊢
  have S5 := Aside0.mk (S5.out.move hb)
  have T := Aside0.mk (blk_below T.out hb)
  have T7 := Aside0.mk (blk_below T7.out hb)
  have T8 := Aside0.mk (blk_below T8.out hb)
  have TA := Aside0.mk (blk_below TA.out hb)
  have T11 := Aside0.mk (blk_below T11.out hb)
  have BB := Aside0.mk (below_step BB.out hb)
  clear hb x0 x1
  have p0 := (blk_cell TA.out 0).trans rfl; have p1 := (blk_cell TA.out 1).trans rfl
  have fp0 := blk_frozen TA.out 0; have fp1 := blk_frozen TA.out 1
  have q0 := (blk_cell T11.out 0).trans rfl; have q1 := (blk_cell T11.out 1).trans rfl
  have fq0 := blk_frozen T11.out 0; have fq1 := blk_frozen T11.out 1
  go_upto_region 9 with (fail)
  clear p0 p1 q0 q1 fp0 fp1 fq0 fq1
  have P_ := Aside0.mk (put_two (n := w.heap.size) (w := w) (.slice a6 CH.length m6) (.slice b6 CW.length n6) TA.out BB.out (by have := LTA.out; omega))
  have T_ := Aside0.mk (two_far' (.slice a6 CH.length m6) (.slice b6 CW.length n6) T.out (show w.heap.size ≠ cA by have := LTA.out; omega))
  have T7_ := Aside0.mk (two_far' (.slice a6 CH.length m6) (.slice b6 CW.length n6) T7.out (show c7 ≠ cA by have := DT7TA.out; omega))
  have T8_ := Aside0.mk (two_far (.slice a6 CH.length m6) (.slice b6 CW.length n6) T8.out TA.out (by decide))
  have T11_ := Aside0.mk (two_far (.slice a6 CH.length m6) (.slice b6 CW.length n6) T11.out TA.out (by decide))
  have S5_ := Aside0.mk (setC_two (.slice a6 CH.length m6) (.slice b6 CW.length n6) S5.out TA.out (by decide) (by decide))
  have S6_ := Aside0.mk (setC_two (.slice a6 CH.length m6) (.slice b6 CW.length n6) S6.out TA.out (by decide) (by decide))
  have BB_ := Aside0.mk P_.out.2
  have TA_ := Aside0.mk P_.out.1
  clear P_ BB T T7 T8 TA T11 S5 S6
  generalize ((w8).setCell ⟨cA, 0, none⟩ (.slice a6 CH.length m6)).setCell ⟨cA, 1, none⟩ (.slice b6 CW.length n6) = w8a at BB_ T_ T7_ T8_ TA_ T11_ S5_ S6_ ⊢
  have BB := BB_
  have T := T_
  have T7 := T7_
  have T8 := T8_
  have TA := TA_
  have T11 := T11_
  have S5 := S5_
  have S6 := S6_
  clear BB_ T_ T7_ T8_ TA_ T11_ S5_ S6_
  have P_ := Aside0.mk (put_two (n := w.heap.size) (w := w) (.slice g6 CG.length r6) (.slice f6 CN.length s6) T11.out BB.out (by have := LTA.out; omega))
  have T_ := Aside0.mk (two_far (.slice g6 CG.length r6) (.slice f6 CN.length s6) T.out T11.out (by decide))
  have T7_ := Aside0.mk (two_far (.slice g6 CG.length r6) (.slice f6 CN.length s6) T7.out T11.out (by decide))
  have T8_ := Aside0.mk (two_far' (.slice g6 CG.length r6) (.slice f6 CN.length s6) T8.out (show c7 + 1 ≠ cA + 1 by have := DT8TA.out; omega))
  have TA_ := Aside0.mk (two_far (.slice g6 CG.length r6) (.slice f6 CN.length s6) TA.out T11.out (by decide))
  have S5_ := Aside0.mk (setC_two (.slice g6 CG.length r6) (.slice f6 CN.length s6) S5.out T11.out (by decide) (by decide))
  have S6_ := Aside0.mk (setC_two (.slice g6 CG.length r6) (.slice f6 CN.length s6) S6.out T11.out (by decide) (by decide))
  have BB_ := Aside0.mk P_.out.2
  have T11_ := Aside0.mk P_.out.1
  clear P_ BB T T7 T8 TA T11 S5 S6
  generalize ((w8a).setCell ⟨cA + 1, 0, none⟩ (.slice g6 CG.length r6)).setCell ⟨cA + 1, 1, none⟩ (.slice f6 CN.length s6) = w8b at BB_ T_ T7_ T8_ TA_ T11_ S5_ S6_ ⊢
  have BB := BB_
  have T := T_
  have T7 := T7_
  have T8 := T8_
  have TA := TA_
  have T11 := T11_
  have S5 := S5_
  have S6 := S6_
  clear BB_ T_ T7_ T8_ TA_ T11_ S5_ S6_
  have x0 := (blk_cell T.out 0).trans rfl; have x1 := (blk_cell T.out 1).trans rfl
  go_upto_region 10 with (fail)
  refine (close_calls A B c d H W x _ (Kd.C_below HC1.out BB.out) (Kd.C_below HC2.out BB.out) (by omega)).mono ?_
  rintro e w9 hp
  rw [HR3.out] at hp
  obtain ⟨v, u, rfl, ⟨vH, vW, rfl, hvH, hvW⟩, ⟨vG, vN, rfl, hvG, hvN⟩, hb⟩ := hp
  have S7 := Aside0.mk (setC_of (w0 := w) (R := (KH, KW, KG, KN)) hvH hvW hvG hvN BB.out.size)
  clear hvH hvW hvG hvN
  obtain ⟨a7, m7, rfl⟩ := Kd.R_slice S7.out.ph
  obtain ⟨b7, n7, rfl⟩ := Kd.R_slice S7.out.pw
  obtain ⟨g7, r7, rfl⟩ := Kd.R_slice S7.out.pg
  obtain ⟨f7, s7, rfl⟩ := Kd.R_slice S7.out.pn
  dsimp only at S7 ⊢
  have S5 := Aside0.mk (S5.out.move hb)
  have S6 := Aside0.mk (S6.out.move hb)
  have T := Aside0.mk (blk_below T.out hb)
  have T7 := Aside0.mk (blk_below T7.out hb)
  have T8 := Aside0.mk (blk_below T8.out hb)
  have TA := Aside0.mk (blk_below TA.out hb)
  have T11 := Aside0.mk (blk_below T11.out hb)
  have BB := Aside0.mk (below_step BB.out hb)
  clear hb x0 x1
  go_upto_region 10 with (fail)
  have hb_ := below_alloc (below_alloc (Below.refl _ w9) (.cells #[.slice a7 KH.length m7, .slice b7 KW.length n7] 29)) (.cells #[.slice g7 KG.length r7, .slice f7 KN.length s7] 33)
  have hG0_ := blk_alloc (blk_lit0 w9 (.cells #[.slice a7 KH.length m7, .slice b7 KW.length n7] 29)) (.cells #[.slice g7 KG.length r7, .slice f7 KN.length s7] 33)
  have hG1_ := blk_lit w9 (.cells #[.slice a7 KH.length m7, .slice b7 KW.length n7] 29) (.cells #[.slice g7 KG.length r7, .slice f7 KN.length s7] 33)
  generalize ((w9.alloc (.cells #[.slice a7 KH.length m7, .slice b7 KW.length n7] 29)).alloc (.cells #[.slice g7 KG.length r7, .slice f7 KN.length s7] 33)) = w9a at hb_ hG0_ hG1_ ⊢
  have HB_w9a := Aside0.mk hb_
  have w9a0 := Aside0.mk hG0_
  have w9a1 := Aside0.mk hG1_
  clear hb_ hG0_ hG1_
  have S5 := Aside0.mk (S5.out.move HB_w9a.out)
  have S6 := Aside0.mk (S6.out.move HB_w9a.out)
  have S7 := Aside0.mk (S7.out.move HB_w9a.out)
  have T := Aside0.mk (blk_below T.out HB_w9a.out)
  have T7 := Aside0.mk (blk_below T7.out HB_w9a.out)
  have T8 := Aside0.mk (blk_below T8.out HB_w9a.out)
  have TA := Aside0.mk (blk_below TA.out HB_w9a.out)
  have T11 := Aside0.mk (blk_below T11.out HB_w9a.out)
  have BB := Aside0.mk (below_step BB.out HB_w9a.out)
  clear HB_w9a
  have TD := w9a0
  have T14 := w9a1
  clear w9a0 w9a1
  generalize w9.heap.size = cD at TD T14  ⊢
  have x0 := (blk_cell T.out 0).trans rfl; have x1 := (blk_cell T.out 1).trans rfl
  go_upto_region 11 with (fail)
  refine (closeR_calls A B c d H W x _ (Kd.C_below HC1.out BB.out) (Kd.C_below HC2.out BB.out) l1 l2 (by omega)).mono ?_
  rintro e w10 hp
  rw [HR3.out] at hp
  obtain ⟨v, u, rfl, ⟨vH, vW, rfl, hvH, hvW⟩, ⟨vG, vN, rfl, hvG, hvN⟩, hb⟩ := hp
  have S8 := Aside0.mk (setC_of (w0 := w) (R := (KH, KW, KG, KN)) hvH hvW hvG hvN BB.out.size)
  clear hvH hvW hvG hvN
  obtain ⟨a8, m8, rfl⟩ := Kd.R_slice S8.out.ph
  obtain ⟨b8, n8, rfl⟩ := Kd.R_slice S8.out.pw
  obtain ⟨g8, r8, rfl⟩ := Kd.R_slice S8.out.pg
  obtain ⟨f8, s8, rfl⟩ := Kd.R_slice S8.out.pn
  dsimp only at S8 ⊢
  have S5 := Aside0.mk (S5.out.move hb)
  have S6 := Aside0.mk (S6.out.move hb)
  have S7 := Aside0.mk (S7.out.move hb)
  have T := Aside0.mk (blk_below T.out hb)
  have T7 := Aside0.mk (blk_below T7.out hb)
  have T8 := Aside0.mk (blk_below T8.out hb)
  have TA := Aside0.mk (blk_below TA.out hb)
  have T11 := Aside0.mk (blk_below T11.out hb)
  have TD := Aside0.mk (blk_below TD.out hb)
  have T14 := Aside0.mk (blk_below T14.out hb)
  have BB := Aside0.mk (below_step BB.out hb)
  clear hb x0 x1
  go_upto_region 11 with (fail)
  have hb_ := below_alloc (below_alloc (Below.refl _ w10) (.cells #[.slice a8 KH.length m8, .slice b8 KW.length n8] 29)) (.cells #[.slice g8 KG.length r8, .slice f8 KN.length s8] 33)
  have hG0_ := blk_alloc (blk_lit0 w10 (.cells #[.slice a8 KH.length m8, .slice b8 KW.length n8] 29)) (.cells #[.slice g8 KG.length r8, .slice f8 KN.length s8] 33)
  have hG1_ := blk_lit w10 (.cells #[.slice a8 KH.length m8, .slice b8 KW.length n8] 29) (.cells #[.slice g8 KG.length r8, .slice f8 KN.length s8] 33)
  generalize ((w10.alloc (.cells #[.slice a8 KH.length m8, .slice b8 KW.length n8] 29)).alloc (.cells #[.slice g8 KG.length r8, .slice f8 KN.length s8] 33)) = w10a at hb_ hG0_ hG1_ ⊢
  have HB_w10a := Aside0.mk hb_
  have w10a0 := Aside0.mk hG0_
  have w10a1 := Aside0.mk hG1_
  clear hb_ hG0_ hG1_
  have S5 := Aside0.mk (S5.out.move HB_w10a.out)
  have S6 := Aside0.mk (S6.out.move HB_w10a.out)
  have S7 := Aside0.mk (S7.out.move HB_w10a.out)
  have S8 := Aside0.mk (S8.out.move HB_w10a.out)
  have T := Aside0.mk (blk_below T.out HB_w10a.out)
  have T7 := Aside0.mk (blk_below T7.out HB_w10a.out)
  have T8 := Aside0.mk (blk_below T8.out HB_w10a.out)
  have TA := Aside0.mk (blk_below TA.out HB_w10a.out)
  have T11 := Aside0.mk (blk_below T11.out HB_w10a.out)
  have TD := Aside0.mk (blk_below TD.out HB_w10a.out)
  have T14 := Aside0.mk (blk_below T14.out HB_w10a.out)
  have BB := Aside0.mk (below_step BB.out HB_w10a.out)
  clear HB_w10a
  have TG := w10a0
  have T17 := w10a1
  clear w10a0 w10a1
  generalize w10.heap.size = cG at TG T17  ⊢
  clear T
  go_upto_region 12 with (fail)
  refine (sane_calls _).mono ?_
  rintro e w11 ⟨rfl, hb⟩
  have S5 := Aside0.mk (S5.out.move hb)
  have S6 := Aside0.mk (S6.out.move hb)
  have S7 := Aside0.mk (S7.out.move hb)
  have S8 := Aside0.mk (S8.out.move hb)
  have T7 := Aside0.mk (blk_below T7.out hb)
  have T8 := Aside0.mk (blk_below T8.out hb)
  have TA := Aside0.mk (blk_below TA.out hb)
  have T11 := Aside0.mk (blk_below T11.out hb)
  have TD := Aside0.mk (blk_below TD.out hb)
  have T14 := Aside0.mk (blk_below T14.out hb)
  have TG := Aside0.mk (blk_below TG.out hb)
  have T17 := Aside0.mk (blk_below T17.out hb)
  have BB := Aside0.mk (below_step BB.out hb)
  clear hb
  have p0 := (blk_cell T7.out 0).trans rfl; have p1 := (blk_cell T7.out 1).trans rfl
  have q0 := (blk_cell TA.out 0).trans rfl; have q1 := (blk_cell TA.out 1).trans rfl
  go_upto_region 12 with (fail)
  refine (sameTT_set S5.out S6.out (by have := LR2.out.1; dsimp only at this; omega)).mono ?_
  rintro e w12 ⟨rfl, hb⟩
  have S5 := Aside0.mk (S5.out.move hb)
  have S6 := Aside0.mk (S6.out.move hb)
  have S7 := Aside0.mk (S7.out.move hb)
  have S8 := Aside0.mk (S8.out.move hb)
  have T7 := Aside0.mk (blk_below T7.out hb)
  have T8 := Aside0.mk (blk_below T8.out hb)
  have TA := Aside0.mk (blk_below TA.out hb)
  have T11 := Aside0.mk (blk_below T11.out hb)
  have TD := Aside0.mk (blk_below TD.out hb)
  have T14 := Aside0.mk (blk_below T14.out hb)
  have TG := Aside0.mk (blk_below TG.out hb)
  have T17 := Aside0.mk (blk_below T17.out hb)
  have BB := Aside0.mk (below_step BB.out hb)
  clear hb p0 p1 q0 q1
  clear T7 TA
  have p0 := (blk_cell T8.out 0).trans rfl; have p1 := (blk_cell T8.out 1).trans rfl
  have q0 := (blk_cell T11.out 0).trans rfl; have q1 := (blk_cell T11.out 1).trans rfl
  go_upto_region 12 with (fail)
  refine (sameNN_set S5.out S6.out (by have := LR2.out.2; dsimp only at this; omega)).mono ?_
  rintro e w13 ⟨rfl, hb⟩
  have S5 := Aside0.mk (S5.out.move hb)
  have S6 := Aside0.mk (S6.out.move hb)
  have S7 := Aside0.mk (S7.out.move hb)
  have S8 := Aside0.mk (S8.out.move hb)
  have T8 := Aside0.mk (blk_below T8.out hb)
  have T11 := Aside0.mk (blk_below T11.out hb)
  have TD := Aside0.mk (blk_below TD.out hb)
  have T14 := Aside0.mk (blk_below T14.out hb)
  have TG := Aside0.mk (blk_below TG.out hb)
  have T17 := Aside0.mk (blk_below T17.out hb)
  have BB := Aside0.mk (below_step BB.out hb)
  clear hb p0 p1 q0 q1
  clear T8 T11 S5 S6
  have p0 := (blk_cell TD.out 0).trans rfl; have p1 := (blk_cell TD.out 1).trans rfl
  have q0 := (blk_cell TG.out 0).trans rfl; have q1 := (blk_cell TG.out 1).trans rfl
  go_upto_region 12 with (fail)
  refine (sameTT_set S7.out S8.out (by have := LR3.out.1; dsimp only at this; omega)).mono ?_
  rintro e w14 ⟨rfl, hb⟩
  have S7 := Aside0.mk (S7.out.move hb)
  have S8 := Aside0.mk (S8.out.move hb)
  have TD := Aside0.mk (blk_below TD.out hb)
  have T14 := Aside0.mk (blk_below T14.out hb)
  have TG := Aside0.mk (blk_below TG.out hb)
  have T17 := Aside0.mk (blk_below T17.out hb)
  have BB := Aside0.mk (below_step BB.out hb)
  clear hb p0 p1 q0 q1
  clear TD TG
  have p0 := (blk_cell T14.out 0).trans rfl; have p1 := (blk_cell T14.out 1).trans rfl
  have q0 := (blk_cell T17.out 0).trans rfl; have q1 := (blk_cell T17.out 1).trans rfl
  go_upto_region 12 with (fail)
  refine (sameNN_set S7.out S8.out (by have := LR3.out.2; dsimp only at this; omega)).mono ?_
  rintro e w15 ⟨rfl, hb⟩
  have S7 := Aside0.mk (S7.out.move hb)
  have S8 := Aside0.mk (S8.out.move hb)
  have T14 := Aside0.mk (blk_below T14.out hb)
  have T17 := Aside0.mk (blk_below T17.out hb)
  have BB := Aside0.mk (below_step BB.out hb)
  clear hb p0 p1 q0 q1
  go_wp2
  go_ret
  exact ⟨rfl, BB.out⟩
end Go.Proofs.Ytifnfnoicinbaaa.M
