/- One act on a table: archivoltlaw31.done. -/
import Derived.Test.YtifnfnoicinbaaaD1
namespace Go.Proofs.Ytifnfnoicinbaaa.M
open Go.RowKit Go.Proofs.YtifnfnoicinbaaaW.PrintWords Go.Proofs.YtifnfnoicinbaaaW.PrintLast Go.Proofs.YtifnfnoicinbaaaW.PrintMore
set_option linter.unusedVariables false
set_option linter.unusedSimpArgs false
set_option linter.unnecessarySimpa false

def kindA (a : S37) : Int := Int.tmod a.f0 5
def doneR (H Wt : List S24) (a : S37) : (List S24 × List S24 × List Int × List Int) × Int :=
  if kindA a = 0 then (((tryF H Wt a.f1).1.1, (tryF H Wt a.f1).1.2, [], []), (tryF H Wt a.f1).2) else
  if kindA a = 1 then askF H Wt a.f1 else if kindA a = 2 then unlockF H Wt a.f1 else if kindA a = 3 then cancelF H Wt a.f1.f1 else closeF H Wt a.f1.f1
theorem kind_cases {a : S37} (h0 : 0 ≤ a.f0) : kindA a = 0 ∨ kindA a = 1 ∨ kindA a = 2 ∨ kindA a = 3 ∨ kindA a = 4 := by
  have h1 : kindA a = a.f0 % 5 := by unfold kindA; exact Int.tmod_eq_emod_of_nonneg h0
  omega
/-- What an act hands back. -/
def DoneP (w : World) (vt : Value) (R : List S24 × List S24 × List Int × List Int) (E : Int) (e : Ending) (w' : World) : Prop :=
  ∃ v u, Below w.heap.size w w' ∧ ((E = 0 ∧ e = .returned (.tuple #[v, u, .bool true]) ∧ TabV w' w.heap.size v R.1 R.2.1 ∧ NewsV w' w.heap.size u R.2.2.1 R.2.2.2) ∨ (E ≠ 0 ∧ e = .returned (.tuple #[vt, .agg #[.slice none 0 0, .slice none 0 0], .bool false])))
set_option maxRecDepth 100000 in
set_option maxHeartbeats 2000000 in
theorem done_calls (AH AW : Option Addr) (cH cW : Nat) (H Wt : List S24) (a : S37) (w : World) (hH : k24.C w AH H.length H) (hW : k24.C w AW Wt.length Wt) (hlen : H.length + Wt.length ≤ 1000) (h0 : 0 ≤ a.f0) (h255 : a.f0 ≤ 255) :
    Calls Try.prog 17 #[.agg #[.slice AH H.length cH, .slice AW Wt.length cW], .agg #[.int .u8 a.f0, .int .i64 a.f1.f0, .int .i64 a.f1.f1, .int .i64 a.f1.f2, .int .i64 a.f1.f3, .bool a.f1.f4]] w fun e w' => DoneP w (.agg #[.slice AH H.length cH, .slice AW Wt.length cW]) (doneR H Wt a).1 (doneR H Wt a).2 e w' := by
  have HH := Aside0.mk hH
  have HW := Aside0.mk hW
  clear hH hW
  have HK := Aside0.mk (kind_cases h0)
  have hkd : Int.tmod a.f0 5 = kindA a := rfl
  go_enter Try.func17, Try.ntmps17
  go_upto_region 4 with (fail)
  have hb_ := below_alloc (below_alloc (below_alloc (below_alloc (below_alloc (below_alloc (Below.refl _ w) (.cells #[.slice AH H.length cH, .slice AW Wt.length cW] 29)) (.cells #[.int .u8 a.f0, .int .i64 a.f1.f0, .int .i64 a.f1.f1, .int .i64 a.f1.f2, .int .i64 a.f1.f3, .bool a.f1.f4] 37)) (.cells #[.slice none 0 0, .slice none 0 0] 29)) (.cells #[.slice none 0 0, .slice none 0 0] 33)) (.cells #[.slice AH H.length cH, .slice AW Wt.length cW] 29)) (.cells #[.slice none 0 0, .slice none 0 0] 33)
  have hG0_ := blk_alloc (blk_alloc (blk_alloc (blk_alloc (blk_alloc (blk_lit0 w (.cells #[.slice AH H.length cH, .slice AW Wt.length cW] 29)) (.cells #[.int .u8 a.f0, .int .i64 a.f1.f0, .int .i64 a.f1.f1, .int .i64 a.f1.f2, .int .i64 a.f1.f3, .bool a.f1.f4] 37)) (.cells #[.slice none 0 0, .slice none 0 0] 29)) (.cells #[.slice none 0 0, .slice none 0 0] 33)) (.cells #[.slice AH H.length cH, .slice AW Wt.length cW] 29)) (.cells #[.slice none 0 0, .slice none 0 0] 33)
  have hG1_ := blk_alloc (blk_alloc (blk_alloc (blk_alloc (blk_lit w (.cells #[.slice AH H.length cH, .slice AW Wt.length cW] 29) (.cells #[.int .u8 a.f0, .int .i64 a.f1.f0, .int .i64 a.f1.f1, .int .i64 a.f1.f2, .int .i64 a.f1.f3, .bool a.f1.f4] 37)) (.cells #[.slice none 0 0, .slice none 0 0] 29)) (.cells #[.slice none 0 0, .slice none 0 0] 33)) (.cells #[.slice AH H.length cH, .slice AW Wt.length cW] 29)) (.cells #[.slice none 0 0, .slice none 0 0] 33)
  have hG2_ := blk_alloc (blk_alloc (blk_alloc (blk_lit2 w (.cells #[.slice AH H.length cH, .slice AW Wt.length cW] 29) (.cells #[.int .u8 a.f0, .int .i64 a.f1.f0, .int .i64 a.f1.f1, .int .i64 a.f1.f2, .int .i64 a.f1.f3, .bool a.f1.f4] 37) (.cells #[.slice none 0 0, .slice none 0 0] 29)) (.cells #[.slice none 0 0, .slice none 0 0] 33)) (.cells #[.slice AH H.length cH, .slice AW Wt.length cW] 29)) (.cells #[.slice none 0 0, .slice none 0 0] 33)
  have hG3_ := blk_alloc (blk_alloc (blk_lit3 w (.cells #[.slice AH H.length cH, .slice AW Wt.length cW] 29) (.cells #[.int .u8 a.f0, .int .i64 a.f1.f0, .int .i64 a.f1.f1, .int .i64 a.f1.f2, .int .i64 a.f1.f3, .bool a.f1.f4] 37) (.cells #[.slice none 0 0, .slice none 0 0] 29) (.cells #[.slice none 0 0, .slice none 0 0] 33)) (.cells #[.slice AH H.length cH, .slice AW Wt.length cW] 29)) (.cells #[.slice none 0 0, .slice none 0 0] 33)
  have hG4_ := blk_alloc (blk_lit4 w (.cells #[.slice AH H.length cH, .slice AW Wt.length cW] 29) (.cells #[.int .u8 a.f0, .int .i64 a.f1.f0, .int .i64 a.f1.f1, .int .i64 a.f1.f2, .int .i64 a.f1.f3, .bool a.f1.f4] 37) (.cells #[.slice none 0 0, .slice none 0 0] 29) (.cells #[.slice none 0 0, .slice none 0 0] 33) (.cells #[.slice AH H.length cH, .slice AW Wt.length cW] 29)) (.cells #[.slice none 0 0, .slice none 0 0] 33)
  have hG5_ := blk_lit5 w (.cells #[.slice AH H.length cH, .slice AW Wt.length cW] 29) (.cells #[.int .u8 a.f0, .int .i64 a.f1.f0, .int .i64 a.f1.f1, .int .i64 a.f1.f2, .int .i64 a.f1.f3, .bool a.f1.f4] 37) (.cells #[.slice none 0 0, .slice none 0 0] 29) (.cells #[.slice none 0 0, .slice none 0 0] 33) (.cells #[.slice AH H.length cH, .slice AW Wt.length cW] 29) (.cells #[.slice none 0 0, .slice none 0 0] 33)
  generalize ((((((w.alloc (.cells #[.slice AH H.length cH, .slice AW Wt.length cW] 29)).alloc (.cells #[.int .u8 a.f0, .int .i64 a.f1.f0, .int .i64 a.f1.f1, .int .i64 a.f1.f2, .int .i64 a.f1.f3, .bool a.f1.f4] 37)).alloc (.cells #[.slice none 0 0, .slice none 0 0] 29)).alloc (.cells #[.slice none 0 0, .slice none 0 0] 33)).alloc (.cells #[.slice AH H.length cH, .slice AW Wt.length cW] 29)).alloc (.cells #[.slice none 0 0, .slice none 0 0] 33)) = W at hb_ hG0_ hG1_ hG2_ hG3_ hG4_ hG5_ ⊢
  have HB_W := Aside0.mk hb_
  have W0 := Aside0.mk hG0_
  have W1 := Aside0.mk hG1_
  have W2 := Aside0.mk hG2_
  have W3 := Aside0.mk hG3_
  have W4 := Aside0.mk hG4_
  have W5 := Aside0.mk hG5_
  clear hb_ hG0_ hG1_ hG2_ hG3_ hG4_ hG5_
  have x0 := (blk_cell W0.out 0).trans rfl; have x1 := (blk_cell W0.out 1).trans rfl
  have y0 := (blk_cell W1.out 0).trans rfl; have y1 := (blk_cell W1.out 1).trans rfl; have y2 := (blk_cell W1.out 2).trans rfl; have y3 := (blk_cell W1.out 3).trans rfl; have y4 := (blk_cell W1.out 4).trans rfl; have y5 := (blk_cell W1.out 5).trans rfl
  go_upto_region 6 with (fail)
  clear hkd y0
  have LB2 := Aside0.mk (show w.heap.size ≤ w.heap.size from Nat.le_refl _)
  have BL := Aside0.mk (show w.heap.size + 1 + 1 + 1 + 1 + 1 < W.heap.size from blk_lt W5.out)
  rcases HK.out with hm | hm | hm | hm | hm
  · obtain ⟨⟨⟨H5, Q5⟩, E5⟩, hS⟩ : ∃ S, S = tryF H Wt a.f1 := ⟨_, rfl⟩
    have hc := tryL_calls AH AW cH cW H Wt a.f1 W (Kd.C_below HH.out HB_W.out) (Kd.C_below HW.out HB_W.out) hlen
    rw [← hS] at hc
    have HC := Aside0.mk hc
    have HR := Aside0.mk (show doneR H Wt a = ((H5, Q5, [], []), E5) by unfold doneR; rw [hm]; first | exact hS.symm | (rw [show tryF H Wt a.f1 = _ from hS.symm]; rfl) | (rw [← hS]; rfl))
    rw [hm]
    clear hS hc hm HK
    by_cases hz : E5 = 0
    · subst hz
      go_upto_region 14 with (fail)
      refine HC.out.mono ?_
      rintro e w4 hp
      try dsimp only at hp
      obtain ⟨v, rfl, ⟨vH, vW, rfl, hvH, hvW⟩, hb⟩ := hp
      try dsimp only at hvH hvW
      obtain ⟨A1, c1, rfl⟩ := Kd.R_slice hvH
      obtain ⟨A2, c2, rfl⟩ := Kd.R_slice hvW
      have R1 := Aside0.mk (Kd.R_lower hvH HB_W.out.size)
      have R2 := Aside0.mk (Kd.R_lower hvW HB_W.out.size)
      have B := Aside0.mk (below_step HB_W.out hb)
      have V0 := Aside0.mk (blk_below W0.out hb)
      have V2 := Aside0.mk (blk_below W2.out hb)
      have V3 := Aside0.mk (blk_below W3.out hb)
      have V4 := Aside0.mk (blk_below W4.out hb)
      have V5 := Aside0.mk (blk_below W5.out hb)
      clear hb hvH hvW x0 x1 y1 y2 y3 y4 y5
      have p0 := (blk_cell V4.out 0).trans rfl; have p1 := (blk_cell V4.out 1).trans rfl
      have fp0 := blk_frozen V4.out 0; have fp1 := blk_frozen V4.out 1
      have q0 := (blk_cell V5.out 0).trans rfl; have q1 := (blk_cell V5.out 1).trans rfl
      have fq0 := blk_frozen V5.out 0; have fq1 := blk_frozen V5.out 1
      go_upto_region 14 with (fail)
      have P_ := Aside0.mk (put_two (n := w.heap.size) (w := w) (.slice A1 H5.length c1) (.slice A2 Q5.length c2) V4.out B.out (by omega))
      have V0 := Aside0.mk (blk_far (blk_far V0.out (p := ⟨w.heap.size + 1 + 1 + 1 + 1, 0, none⟩) (show w.heap.size ≠ w.heap.size + 1 + 1 + 1 + 1 by omega) (.slice A1 H5.length c1)) (p := ⟨w.heap.size + 1 + 1 + 1 + 1, 1, none⟩) (show w.heap.size ≠ w.heap.size + 1 + 1 + 1 + 1 by omega) (.slice A2 Q5.length c2))
      have V2 := Aside0.mk (blk_far (blk_far V2.out (p := ⟨w.heap.size + 1 + 1 + 1 + 1, 0, none⟩) (show w.heap.size + 1 + 1 ≠ w.heap.size + 1 + 1 + 1 + 1 by omega) (.slice A1 H5.length c1)) (p := ⟨w.heap.size + 1 + 1 + 1 + 1, 1, none⟩) (show w.heap.size + 1 + 1 ≠ w.heap.size + 1 + 1 + 1 + 1 by omega) (.slice A2 Q5.length c2))
      have V3 := Aside0.mk (two_far (.slice A1 H5.length c1) (.slice A2 Q5.length c2) V3.out V4.out (by decide))
      have V5 := Aside0.mk (two_far (.slice A1 H5.length c1) (.slice A2 Q5.length c2) V5.out V4.out (by decide))
      have R1 := Aside0.mk (R_two (.slice A1 H5.length c1) (.slice A2 Q5.length c2) R1.out V4.out (by decide))
      have R2 := Aside0.mk (R_two (.slice A1 H5.length c1) (.slice A2 Q5.length c2) R2.out V4.out (by decide))
      have V4 := Aside0.mk P_.out.1
      have B := Aside0.mk P_.out.2
      clear P_ p0 p1 q0 q1 fp0 fp1 fq0 fq1
      generalize ((w4.setCell ⟨w.heap.size + 1 + 1 + 1 + 1, 0, none⟩ (.slice A1 H5.length c1)).setCell ⟨w.heap.size + 1 + 1 + 1 + 1, 1, none⟩ (.slice A2 Q5.length c2)) = w5 at B V0 V2 V3 V4 V5 R1 R2 ⊢
      go_upto_region 16 with (fail)
      refine start_ (n := 5) (S := fun w' => w'.cell? ⟨w.heap.size + 1 + 1 + 1 + 1, 0, none⟩ = some (.slice A1 H5.length c1) ∧ w'.cell? ⟨w.heap.size + 1 + 1 + 1 + 1, 1, none⟩ = some (.slice A2 Q5.length c2) ∧ w'.cell? ⟨w.heap.size + 1 + 1 + 1 + 1 + 1, 0, none⟩ = some (.slice none 0 0) ∧ w'.cell? ⟨w.heap.size + 1 + 1 + 1 + 1 + 1, 1, none⟩ = some (.slice none 0 0)) (ds := [3]) #[false, false, false, false, false] (by kernel_rfl) rfl rfl ⟨(blk_cell (blk_drew V4.out) 0).trans rfl, (blk_cell (blk_drew V4.out) 1).trans rfl, (blk_cell (blk_drew V5.out) 0).trans rfl, (blk_cell (blk_drew V5.out) 1).trans rfl⟩ (fun hHeld => ?_)
      have hbd := below_drew1 (Below.refl w5.heap.size w5)
      have B := Aside0.mk (below_step B.out hbd)
      have V2 := Aside0.mk (blk_below V2.out hbd)
      have V3 := Aside0.mk (blk_below V3.out hbd)
      have V4 := Aside0.mk (blk_below V4.out hbd)
      have V5 := Aside0.mk (blk_below V5.out hbd)
      have R1 := Aside0.mk (Kd.R_below R1.out hbd)
      have R2 := Aside0.mk (Kd.R_below R2.out hbd)
      clear hbd V0
      generalize w5.drew = x6 at B V2 V3 V4 V5 R1 R2 hHeld ⊢
      refine take_ (i := 0) (N := some 68) (v := ?_) (a' := ?_) #[true, false, false, false, false] rfl rfl (by kernel_rfl) (fun _ _ _ h => h) (Or.inl ⟨by rfl, ?_⟩) hHeld ?_ ?_
      rotate_left
      · rintro w' ⟨s0, s1, s2, s3⟩
        go_simp
        with_reducible rfl
      rotate_left
      · simp only [Act.put, List.setIfInBounds_toArray, List.set_cons_zero, List.set_cons_succ, i64_w, i32_w]
        rfl
      refine take_ (i := 1) (N := some 69) (v := ?_) (a' := ?_) #[true, true, false, false, false] rfl rfl (by kernel_rfl) (fun _ _ _ h => h) (Or.inl ⟨by rfl, ?_⟩) hHeld ?_ ?_
      rotate_left
      · rintro w' ⟨s0, s1, s2, s3⟩
        go_simp
        with_reducible rfl
      rotate_left
      · simp only [Act.put, List.setIfInBounds_toArray, List.set_cons_zero, List.set_cons_succ, i64_w, i32_w]
        rfl
      have r0 := (blk_cell V2.out 0).trans rfl; have r1 := (blk_cell V2.out 1).trans rfl
      have fr0 := blk_frozen V2.out 0; have fr1 := blk_frozen V2.out 1
      refine one_ (i := 2) (N := none) #[true, true, true, false, false] rfl rfl (by kernel_rfl) (by decide) (fun K hK => ?_)
      refine skip_ (w1 := ?_) (by rfl) rfl ?_ ?_
      rotate_left
      · go_simp
        rfl
      clear r0 r1 fr0 fr1
      have P4 := Aside0.mk (put_two (n := w.heap.size) (w := w) (.slice A1 H5.length c1) (.slice A2 Q5.length c2) V2.out B.out (by omega))
      have G5' := Aside0.mk (two_far (.slice A1 H5.length c1) (.slice A2 Q5.length c2) V3.out V2.out (by decide))
      have SR1 := Aside0.mk (R_two (.slice A1 H5.length c1) (.slice A2 Q5.length c2) R1.out V2.out (by decide))
      have SR2 := Aside0.mk (R_two (.slice A1 H5.length c1) (.slice A2 Q5.length c2) R2.out V2.out (by decide))
      have Z0 := Aside0.mk (blk_far (blk_far V4.out (p := ⟨w.heap.size + 1 + 1, 0, none⟩) (show w.heap.size + 1 + 1 + 1 + 1 ≠ w.heap.size + 1 + 1 by omega) (.slice A1 H5.length c1)) (p := ⟨w.heap.size + 1 + 1, 1, none⟩) (show w.heap.size + 1 + 1 + 1 + 1 ≠ w.heap.size + 1 + 1 by omega) (.slice A2 Q5.length c2))
      have Z1 := Aside0.mk (two_far (.slice A1 H5.length c1) (.slice A2 Q5.length c2) V5.out V2.out (by decide))
      clear V2 V3 V4 V5 B R1 R2
      generalize (x6.setCell ⟨w.heap.size + 1 + 1, 0, none⟩ (.slice A1 H5.length c1)).setCell ⟨w.heap.size + 1 + 1, 1, none⟩ (.slice A2 Q5.length c2) = x7 at P4 G5' Z0 Z1 SR1 SR2 ⊢
      refine hK.out _ _ ⟨(blk_cell Z0.out 0).trans rfl, (blk_cell Z0.out 1).trans rfl, (blk_cell Z1.out 0).trans rfl, (blk_cell Z1.out 1).trans rfl⟩ (fun hHeld => ?_)
      clear hK K
      have r0 := (blk_cell G5'.out 0).trans rfl; have r1 := (blk_cell G5'.out 1).trans rfl
      have fr0 := blk_frozen G5'.out 0; have fr1 := blk_frozen G5'.out 1
      refine last_ (i := 3) (N := none) #[true, true, true, true, false] rfl rfl (by kernel_rfl) (by decide) (fun K hK => ?_)
      refine skip_ (w1 := ?_) (by rfl) rfl ?_ ?_
      rotate_left
      · go_simp
        rfl
      refine hK.out _ _ ?_
      clear hK K hHeld r0 r1 fr0 fr1
      have P5 := Aside0.mk (put_two (n := w.heap.size) (w := w) (.slice none 0 0) (.slice none 0 0) G5'.out P4.out.2 (by omega))
      have P6 := Aside0.mk (two_far (.slice none 0 0) (.slice none 0 0) P4.out.1 G5'.out (by decide))
      have TR1 := Aside0.mk (R_two (.slice none 0 0) (.slice none 0 0) SR1.out G5'.out (by decide))
      have TR2 := Aside0.mk (R_two (.slice none 0 0) (.slice none 0 0) SR2.out G5'.out (by decide))
      clear P4 G5' Z0 Z1 SR1 SR2
      generalize (x7.setCell ⟨w.heap.size + 1 + 1 + 1, 0, none⟩ (.slice none 0 0)).setCell ⟨w.heap.size + 1 + 1 + 1, 1, none⟩ (.slice none 0 0) = x8 at P5 P6 TR1 TR2 ⊢
      skip
      refine pure_ (i := 4) (N := some 6) (v := ?_) (a' := ?_) #[true, true, true, true, true] rfl rfl (by kernel_rfl) (fun _ _ _ h => h) (Or.inl ⟨by rfl, ?_⟩) ?_ ?_
      rotate_left
      · intro w'
        go_simp
        with_reducible rfl
      rotate_left
      · simp only [Act.put, List.setIfInBounds_toArray, List.set_cons_zero, List.set_cons_succ, i64_w, i32_w]
        rfl
      refine done_ (by kernel_rfl) ?_
      go_wp2
      refine bodyPost_ret (results_cells3 rfl rfl rfl (loadVar_two 29 (by kernel_rfl) (by kernel_rfl) P6.out) (loadVar_two 33 (by kernel_rfl) (by kernel_rfl) P5.out.1)) rfl ?_
      show DoneP w _ (doneR H Wt a).1 (doneR H Wt a).2 _ _
      rw [HR.out]
      exact ⟨_, _, P5.out.2, .inl ⟨rfl, rfl, ⟨_, _, rfl, TR1.out, TR2.out⟩, newsV_nil _ _⟩⟩
    · have hnb : (E5 == 0) = false := by simpa using hz
      have HNE := Aside0.mk hz
      clear hz
      go_upto_region 14 with (fail)
      refine HC.out.mono ?_
      rintro e w4 hp
      try dsimp only at hp
      obtain ⟨v, rfl, ⟨vH, vW, rfl, hvH, hvW⟩, hb⟩ := hp
      try dsimp only at hvH hvW
      obtain ⟨A1, c1, rfl⟩ := Kd.R_slice hvH
      obtain ⟨A2, c2, rfl⟩ := Kd.R_slice hvW
      have R1 := Aside0.mk (Kd.R_lower hvH HB_W.out.size)
      have R2 := Aside0.mk (Kd.R_lower hvW HB_W.out.size)
      have B := Aside0.mk (below_step HB_W.out hb)
      have V0 := Aside0.mk (blk_below W0.out hb)
      have V2 := Aside0.mk (blk_below W2.out hb)
      have V3 := Aside0.mk (blk_below W3.out hb)
      have V4 := Aside0.mk (blk_below W4.out hb)
      have V5 := Aside0.mk (blk_below W5.out hb)
      clear hb hvH hvW x0 x1 y1 y2 y3 y4 y5
      have p0 := (blk_cell V4.out 0).trans rfl; have p1 := (blk_cell V4.out 1).trans rfl
      have fp0 := blk_frozen V4.out 0; have fp1 := blk_frozen V4.out 1
      have q0 := (blk_cell V5.out 0).trans rfl; have q1 := (blk_cell V5.out 1).trans rfl
      have fq0 := blk_frozen V5.out 0; have fq1 := blk_frozen V5.out 1
      go_upto_region 14 with (fail)
      have P_ := Aside0.mk (put_two (n := w.heap.size) (w := w) (.slice A1 H5.length c1) (.slice A2 Q5.length c2) V4.out B.out (by omega))
      have V0 := Aside0.mk (blk_far (blk_far V0.out (p := ⟨w.heap.size + 1 + 1 + 1 + 1, 0, none⟩) (show w.heap.size ≠ w.heap.size + 1 + 1 + 1 + 1 by omega) (.slice A1 H5.length c1)) (p := ⟨w.heap.size + 1 + 1 + 1 + 1, 1, none⟩) (show w.heap.size ≠ w.heap.size + 1 + 1 + 1 + 1 by omega) (.slice A2 Q5.length c2))
      have V2 := Aside0.mk (blk_far (blk_far V2.out (p := ⟨w.heap.size + 1 + 1 + 1 + 1, 0, none⟩) (show w.heap.size + 1 + 1 ≠ w.heap.size + 1 + 1 + 1 + 1 by omega) (.slice A1 H5.length c1)) (p := ⟨w.heap.size + 1 + 1 + 1 + 1, 1, none⟩) (show w.heap.size + 1 + 1 ≠ w.heap.size + 1 + 1 + 1 + 1 by omega) (.slice A2 Q5.length c2))
      have V3 := Aside0.mk (two_far (.slice A1 H5.length c1) (.slice A2 Q5.length c2) V3.out V4.out (by decide))
      have V5 := Aside0.mk (two_far (.slice A1 H5.length c1) (.slice A2 Q5.length c2) V5.out V4.out (by decide))
      have R1 := Aside0.mk (R_two (.slice A1 H5.length c1) (.slice A2 Q5.length c2) R1.out V4.out (by decide))
      have R2 := Aside0.mk (R_two (.slice A1 H5.length c1) (.slice A2 Q5.length c2) R2.out V4.out (by decide))
      have V4 := Aside0.mk P_.out.1
      have B := Aside0.mk P_.out.2
      clear P_ p0 p1 q0 q1 fp0 fp1 fq0 fq1
      generalize ((w4.setCell ⟨w.heap.size + 1 + 1 + 1 + 1, 0, none⟩ (.slice A1 H5.length c1)).setCell ⟨w.heap.size + 1 + 1 + 1 + 1, 1, none⟩ (.slice A2 Q5.length c2)) = w5 at B V0 V2 V3 V4 V5 R1 R2 ⊢
      have x0 := (blk_cell V0.out 0).trans rfl; have x1 := (blk_cell V0.out 1).trans rfl
      have p0 := (blk_cell V2.out 0).trans rfl; have p1 := (blk_cell V2.out 1).trans rfl
      have fp0 := blk_frozen V2.out 0; have fp1 := blk_frozen V2.out 1
      have q0 := (blk_cell V3.out 0).trans rfl; have q1 := (blk_cell V3.out 1).trans rfl
      have fq0 := blk_frozen V3.out 0; have fq1 := blk_frozen V3.out 1
      have P4 := Aside0.mk (put_two (n := w.heap.size) (w := w) (.slice AH H.length cH) (.slice AW Wt.length cW) V2.out B.out (by omega))
      have G5' := Aside0.mk (two_far (.slice AH H.length cH) (.slice AW Wt.length cW) V3.out V2.out (by decide))
      have P5 := Aside0.mk (put_two (n := w.heap.size) (w := w) (.slice none 0 0) (.slice none 0 0) G5'.out P4.out.2 (by omega))
      have P6 := Aside0.mk (two_far (.slice none 0 0) (.slice none 0 0) P4.out.1 G5'.out (by decide))
      go_wp2
      refine bodyPost_ret (results_cells3 rfl rfl rfl (loadVar_two 29 (by kernel_rfl) (by kernel_rfl) P6.out) (loadVar_two 33 (by kernel_rfl) (by kernel_rfl) P5.out.1)) rfl ?_
      show DoneP w _ (doneR H Wt a).1 (doneR H Wt a).2 _ _
      rw [HR.out]
      exact ⟨.agg #[], .agg #[], P5.out.2, .inr ⟨HNE.out, rfl⟩⟩
  · obtain ⟨⟨⟨H5, Q5, G5, N5⟩, E5⟩, hS⟩ : ∃ S, S = askF H Wt a.f1 := ⟨_, rfl⟩
    have hc := ask_calls AH AW cH cW H Wt a.f1 W (Kd.C_below HH.out HB_W.out) (Kd.C_below HW.out HB_W.out) hlen
    rw [← hS] at hc
    have HC := Aside0.mk hc
    have HR := Aside0.mk (show doneR H Wt a = ((H5, Q5, G5, N5), E5) by unfold doneR; rw [hm]; first | exact hS.symm | (rw [show askF H Wt a.f1 = _ from hS.symm]; rfl) | (rw [← hS]; rfl))
    rw [hm]
    clear hS hc hm HK
    by_cases hz : E5 = 0
    · subst hz
      go_upto_region 14 with (fail)
      refine HC.out.mono ?_
      rintro e w4 hp
      try dsimp only at hp
      obtain ⟨v, u, rfl, ⟨vH, vW, rfl, hvH, hvW⟩, ⟨vG, vN, rfl, hvG, hvN⟩, hb⟩ := hp
      try dsimp only at hvH hvW hvG hvN
      obtain ⟨A1, c1, rfl⟩ := Kd.R_slice hvH
      obtain ⟨A2, c2, rfl⟩ := Kd.R_slice hvW
      obtain ⟨A3, c3, rfl⟩ := Kd.R_slice hvG
      obtain ⟨A4, c4, rfl⟩ := Kd.R_slice hvN
      have R1 := Aside0.mk (Kd.R_lower hvH HB_W.out.size)
      have R2 := Aside0.mk (Kd.R_lower hvW HB_W.out.size)
      have R3 := Aside0.mk (Kd.R_lower hvG HB_W.out.size)
      have R4 := Aside0.mk (Kd.R_lower hvN HB_W.out.size)
      have B := Aside0.mk (below_step HB_W.out hb)
      have V0 := Aside0.mk (blk_below W0.out hb)
      have V2 := Aside0.mk (blk_below W2.out hb)
      have V3 := Aside0.mk (blk_below W3.out hb)
      have V4 := Aside0.mk (blk_below W4.out hb)
      have V5 := Aside0.mk (blk_below W5.out hb)
      clear hb hvH hvW hvG hvN x0 x1 y1 y2 y3 y4 y5
      have p0 := (blk_cell V4.out 0).trans rfl; have p1 := (blk_cell V4.out 1).trans rfl
      have fp0 := blk_frozen V4.out 0; have fp1 := blk_frozen V4.out 1
      have q0 := (blk_cell V5.out 0).trans rfl; have q1 := (blk_cell V5.out 1).trans rfl
      have fq0 := blk_frozen V5.out 0; have fq1 := blk_frozen V5.out 1
      go_upto_region 14 with (fail)
      have P_ := Aside0.mk (put_two (n := w.heap.size) (w := w) (.slice A1 H5.length c1) (.slice A2 Q5.length c2) V4.out B.out (by omega))
      have V0 := Aside0.mk (blk_far (blk_far V0.out (p := ⟨w.heap.size + 1 + 1 + 1 + 1, 0, none⟩) (show w.heap.size ≠ w.heap.size + 1 + 1 + 1 + 1 by omega) (.slice A1 H5.length c1)) (p := ⟨w.heap.size + 1 + 1 + 1 + 1, 1, none⟩) (show w.heap.size ≠ w.heap.size + 1 + 1 + 1 + 1 by omega) (.slice A2 Q5.length c2))
      have V2 := Aside0.mk (blk_far (blk_far V2.out (p := ⟨w.heap.size + 1 + 1 + 1 + 1, 0, none⟩) (show w.heap.size + 1 + 1 ≠ w.heap.size + 1 + 1 + 1 + 1 by omega) (.slice A1 H5.length c1)) (p := ⟨w.heap.size + 1 + 1 + 1 + 1, 1, none⟩) (show w.heap.size + 1 + 1 ≠ w.heap.size + 1 + 1 + 1 + 1 by omega) (.slice A2 Q5.length c2))
      have V3 := Aside0.mk (two_far (.slice A1 H5.length c1) (.slice A2 Q5.length c2) V3.out V4.out (by decide))
      have V5 := Aside0.mk (two_far (.slice A1 H5.length c1) (.slice A2 Q5.length c2) V5.out V4.out (by decide))
      have R1 := Aside0.mk (R_two (.slice A1 H5.length c1) (.slice A2 Q5.length c2) R1.out V4.out (by decide))
      have R2 := Aside0.mk (R_two (.slice A1 H5.length c1) (.slice A2 Q5.length c2) R2.out V4.out (by decide))
      have R3 := Aside0.mk (R_two (.slice A1 H5.length c1) (.slice A2 Q5.length c2) R3.out V4.out (by decide))
      have R4 := Aside0.mk (R_two (.slice A1 H5.length c1) (.slice A2 Q5.length c2) R4.out V4.out (by decide))
      have V4 := Aside0.mk P_.out.1
      have B := Aside0.mk P_.out.2
      clear P_ p0 p1 q0 q1 fp0 fp1 fq0 fq1
      generalize ((w4.setCell ⟨w.heap.size + 1 + 1 + 1 + 1, 0, none⟩ (.slice A1 H5.length c1)).setCell ⟨w.heap.size + 1 + 1 + 1 + 1, 1, none⟩ (.slice A2 Q5.length c2)) = w5 at B V0 V2 V3 V4 V5 R1 R2 R3 R4 ⊢
      have P_ := Aside0.mk (put_two (n := w.heap.size) (w := w) (.slice A3 G5.length c3) (.slice A4 N5.length c4) V5.out B.out (by omega))
      have V0 := Aside0.mk (two_far (.slice A3 G5.length c3) (.slice A4 N5.length c4) V0.out V5.out (by decide))
      have V2 := Aside0.mk (two_far (.slice A3 G5.length c3) (.slice A4 N5.length c4) V2.out V5.out (by decide))
      have V4 := Aside0.mk (two_far (.slice A3 G5.length c3) (.slice A4 N5.length c4) V4.out V5.out (by decide))
      have V3 := Aside0.mk (blk_far (blk_far V3.out (p := ⟨w.heap.size + 1 + 1 + 1 + 1 + 1, 0, none⟩) (show w.heap.size + 1 + 1 + 1 ≠ w.heap.size + 1 + 1 + 1 + 1 + 1 by omega) (.slice A3 G5.length c3)) (p := ⟨w.heap.size + 1 + 1 + 1 + 1 + 1, 1, none⟩) (show w.heap.size + 1 + 1 + 1 ≠ w.heap.size + 1 + 1 + 1 + 1 + 1 by omega) (.slice A4 N5.length c4))
      have R1 := Aside0.mk (R_two (.slice A3 G5.length c3) (.slice A4 N5.length c4) R1.out V5.out (by decide))
      have R2 := Aside0.mk (R_two (.slice A3 G5.length c3) (.slice A4 N5.length c4) R2.out V5.out (by decide))
      have R3 := Aside0.mk (R_two (.slice A3 G5.length c3) (.slice A4 N5.length c4) R3.out V5.out (by decide))
      have R4 := Aside0.mk (R_two (.slice A3 G5.length c3) (.slice A4 N5.length c4) R4.out V5.out (by decide))
      have V5 := Aside0.mk P_.out.1
      have B := Aside0.mk P_.out.2
      clear P_
      generalize (w5.setCell ⟨w.heap.size + 1 + 1 + 1 + 1 + 1, 0, none⟩ (.slice A3 G5.length c3)).setCell ⟨w.heap.size + 1 + 1 + 1 + 1 + 1, 1, none⟩ (.slice A4 N5.length c4) = w6 at B V0 V2 V3 V4 V5 R1 R2 R3 R4 ⊢
      go_upto_region 16 with (fail)
      refine start_ (n := 5) (S := fun w' => w'.cell? ⟨w.heap.size + 1 + 1 + 1 + 1, 0, none⟩ = some (.slice A1 H5.length c1) ∧ w'.cell? ⟨w.heap.size + 1 + 1 + 1 + 1, 1, none⟩ = some (.slice A2 Q5.length c2) ∧ w'.cell? ⟨w.heap.size + 1 + 1 + 1 + 1 + 1, 0, none⟩ = some (.slice A3 G5.length c3) ∧ w'.cell? ⟨w.heap.size + 1 + 1 + 1 + 1 + 1, 1, none⟩ = some (.slice A4 N5.length c4)) (ds := [3]) #[false, false, false, false, false] (by kernel_rfl) rfl rfl ⟨(blk_cell (blk_drew V4.out) 0).trans rfl, (blk_cell (blk_drew V4.out) 1).trans rfl, (blk_cell (blk_drew V5.out) 0).trans rfl, (blk_cell (blk_drew V5.out) 1).trans rfl⟩ (fun hHeld => ?_)
      have hbd := below_drew1 (Below.refl w6.heap.size w6)
      have B := Aside0.mk (below_step B.out hbd)
      have V2 := Aside0.mk (blk_below V2.out hbd)
      have V3 := Aside0.mk (blk_below V3.out hbd)
      have V4 := Aside0.mk (blk_below V4.out hbd)
      have V5 := Aside0.mk (blk_below V5.out hbd)
      have R1 := Aside0.mk (Kd.R_below R1.out hbd)
      have R2 := Aside0.mk (Kd.R_below R2.out hbd)
      have R3 := Aside0.mk (Kd.R_below R3.out hbd)
      have R4 := Aside0.mk (Kd.R_below R4.out hbd)
      clear hbd V0
      generalize w6.drew = x6 at B V2 V3 V4 V5 R1 R2 R3 R4 hHeld ⊢
      refine take_ (i := 0) (N := some 68) (v := ?_) (a' := ?_) #[true, false, false, false, false] rfl rfl (by kernel_rfl) (fun _ _ _ h => h) (Or.inl ⟨by rfl, ?_⟩) hHeld ?_ ?_
      rotate_left
      · rintro w' ⟨s0, s1, s2, s3⟩
        go_simp
        with_reducible rfl
      rotate_left
      · simp only [Act.put, List.setIfInBounds_toArray, List.set_cons_zero, List.set_cons_succ, i64_w, i32_w]
        rfl
      refine take_ (i := 1) (N := some 69) (v := ?_) (a' := ?_) #[true, true, false, false, false] rfl rfl (by kernel_rfl) (fun _ _ _ h => h) (Or.inl ⟨by rfl, ?_⟩) hHeld ?_ ?_
      rotate_left
      · rintro w' ⟨s0, s1, s2, s3⟩
        go_simp
        with_reducible rfl
      rotate_left
      · simp only [Act.put, List.setIfInBounds_toArray, List.set_cons_zero, List.set_cons_succ, i64_w, i32_w]
        rfl
      have r0 := (blk_cell V2.out 0).trans rfl; have r1 := (blk_cell V2.out 1).trans rfl
      have fr0 := blk_frozen V2.out 0; have fr1 := blk_frozen V2.out 1
      refine one_ (i := 2) (N := none) #[true, true, true, false, false] rfl rfl (by kernel_rfl) (by decide) (fun K hK => ?_)
      refine skip_ (w1 := ?_) (by rfl) rfl ?_ ?_
      rotate_left
      · go_simp
        rfl
      clear r0 r1 fr0 fr1
      have P4 := Aside0.mk (put_two (n := w.heap.size) (w := w) (.slice A1 H5.length c1) (.slice A2 Q5.length c2) V2.out B.out (by omega))
      have G5' := Aside0.mk (two_far (.slice A1 H5.length c1) (.slice A2 Q5.length c2) V3.out V2.out (by decide))
      have SR1 := Aside0.mk (R_two (.slice A1 H5.length c1) (.slice A2 Q5.length c2) R1.out V2.out (by decide))
      have SR2 := Aside0.mk (R_two (.slice A1 H5.length c1) (.slice A2 Q5.length c2) R2.out V2.out (by decide))
      have SR3 := Aside0.mk (R_two (.slice A1 H5.length c1) (.slice A2 Q5.length c2) R3.out V2.out (by decide))
      have SR4 := Aside0.mk (R_two (.slice A1 H5.length c1) (.slice A2 Q5.length c2) R4.out V2.out (by decide))
      have Z0 := Aside0.mk (blk_far (blk_far V4.out (p := ⟨w.heap.size + 1 + 1, 0, none⟩) (show w.heap.size + 1 + 1 + 1 + 1 ≠ w.heap.size + 1 + 1 by omega) (.slice A1 H5.length c1)) (p := ⟨w.heap.size + 1 + 1, 1, none⟩) (show w.heap.size + 1 + 1 + 1 + 1 ≠ w.heap.size + 1 + 1 by omega) (.slice A2 Q5.length c2))
      have Z1 := Aside0.mk (two_far (.slice A1 H5.length c1) (.slice A2 Q5.length c2) V5.out V2.out (by decide))
      clear V2 V3 V4 V5 B R1 R2 R3 R4
      generalize (x6.setCell ⟨w.heap.size + 1 + 1, 0, none⟩ (.slice A1 H5.length c1)).setCell ⟨w.heap.size + 1 + 1, 1, none⟩ (.slice A2 Q5.length c2) = x7 at P4 G5' Z0 Z1 SR1 SR2 SR3 SR4 ⊢
      refine hK.out _ _ ⟨(blk_cell Z0.out 0).trans rfl, (blk_cell Z0.out 1).trans rfl, (blk_cell Z1.out 0).trans rfl, (blk_cell Z1.out 1).trans rfl⟩ (fun hHeld => ?_)
      clear hK K
      have r0 := (blk_cell G5'.out 0).trans rfl; have r1 := (blk_cell G5'.out 1).trans rfl
      have fr0 := blk_frozen G5'.out 0; have fr1 := blk_frozen G5'.out 1
      refine last_ (i := 3) (N := none) #[true, true, true, true, false] rfl rfl (by kernel_rfl) (by decide) (fun K hK => ?_)
      refine skip_ (w1 := ?_) (by rfl) rfl ?_ ?_
      rotate_left
      · go_simp
        rfl
      refine hK.out _ _ ?_
      clear hK K hHeld r0 r1 fr0 fr1
      have P5 := Aside0.mk (put_two (n := w.heap.size) (w := w) (.slice A3 G5.length c3) (.slice A4 N5.length c4) G5'.out P4.out.2 (by omega))
      have P6 := Aside0.mk (two_far (.slice A3 G5.length c3) (.slice A4 N5.length c4) P4.out.1 G5'.out (by decide))
      have TR1 := Aside0.mk (R_two (.slice A3 G5.length c3) (.slice A4 N5.length c4) SR1.out G5'.out (by decide))
      have TR2 := Aside0.mk (R_two (.slice A3 G5.length c3) (.slice A4 N5.length c4) SR2.out G5'.out (by decide))
      have TR3 := Aside0.mk (R_two (.slice A3 G5.length c3) (.slice A4 N5.length c4) SR3.out G5'.out (by decide))
      have TR4 := Aside0.mk (R_two (.slice A3 G5.length c3) (.slice A4 N5.length c4) SR4.out G5'.out (by decide))
      clear P4 G5' Z0 Z1 SR1 SR2 SR3 SR4
      generalize (x7.setCell ⟨w.heap.size + 1 + 1 + 1, 0, none⟩ (.slice A3 G5.length c3)).setCell ⟨w.heap.size + 1 + 1 + 1, 1, none⟩ (.slice A4 N5.length c4) = x8 at P5 P6 TR1 TR2 TR3 TR4 ⊢
      skip
      refine pure_ (i := 4) (N := some 6) (v := ?_) (a' := ?_) #[true, true, true, true, true] rfl rfl (by kernel_rfl) (fun _ _ _ h => h) (Or.inl ⟨by rfl, ?_⟩) ?_ ?_
      rotate_left
      · intro w'
        go_simp
        with_reducible rfl
      rotate_left
      · simp only [Act.put, List.setIfInBounds_toArray, List.set_cons_zero, List.set_cons_succ, i64_w, i32_w]
        rfl
      refine done_ (by kernel_rfl) ?_
      go_wp2
      refine bodyPost_ret (results_cells3 rfl rfl rfl (loadVar_two 29 (by kernel_rfl) (by kernel_rfl) P6.out) (loadVar_two 33 (by kernel_rfl) (by kernel_rfl) P5.out.1)) rfl ?_
      show DoneP w _ (doneR H Wt a).1 (doneR H Wt a).2 _ _
      rw [HR.out]
      exact ⟨_, _, P5.out.2, .inl ⟨rfl, rfl, ⟨_, _, rfl, TR1.out, TR2.out⟩, ⟨_, _, rfl, TR3.out, TR4.out⟩⟩⟩
    · have hnb : (E5 == 0) = false := by simpa using hz
      have HNE := Aside0.mk hz
      clear hz
      go_upto_region 14 with (fail)
      refine HC.out.mono ?_
      rintro e w4 hp
      try dsimp only at hp
      obtain ⟨v, u, rfl, ⟨vH, vW, rfl, hvH, hvW⟩, ⟨vG, vN, rfl, hvG, hvN⟩, hb⟩ := hp
      try dsimp only at hvH hvW hvG hvN
      obtain ⟨A1, c1, rfl⟩ := Kd.R_slice hvH
      obtain ⟨A2, c2, rfl⟩ := Kd.R_slice hvW
      obtain ⟨A3, c3, rfl⟩ := Kd.R_slice hvG
      obtain ⟨A4, c4, rfl⟩ := Kd.R_slice hvN
      have R1 := Aside0.mk (Kd.R_lower hvH HB_W.out.size)
      have R2 := Aside0.mk (Kd.R_lower hvW HB_W.out.size)
      have R3 := Aside0.mk (Kd.R_lower hvG HB_W.out.size)
      have R4 := Aside0.mk (Kd.R_lower hvN HB_W.out.size)
      have B := Aside0.mk (below_step HB_W.out hb)
      have V0 := Aside0.mk (blk_below W0.out hb)
      have V2 := Aside0.mk (blk_below W2.out hb)
      have V3 := Aside0.mk (blk_below W3.out hb)
      have V4 := Aside0.mk (blk_below W4.out hb)
      have V5 := Aside0.mk (blk_below W5.out hb)
      clear hb hvH hvW hvG hvN x0 x1 y1 y2 y3 y4 y5
      have p0 := (blk_cell V4.out 0).trans rfl; have p1 := (blk_cell V4.out 1).trans rfl
      have fp0 := blk_frozen V4.out 0; have fp1 := blk_frozen V4.out 1
      have q0 := (blk_cell V5.out 0).trans rfl; have q1 := (blk_cell V5.out 1).trans rfl
      have fq0 := blk_frozen V5.out 0; have fq1 := blk_frozen V5.out 1
      go_upto_region 14 with (fail)
      have P_ := Aside0.mk (put_two (n := w.heap.size) (w := w) (.slice A1 H5.length c1) (.slice A2 Q5.length c2) V4.out B.out (by omega))
      have V0 := Aside0.mk (blk_far (blk_far V0.out (p := ⟨w.heap.size + 1 + 1 + 1 + 1, 0, none⟩) (show w.heap.size ≠ w.heap.size + 1 + 1 + 1 + 1 by omega) (.slice A1 H5.length c1)) (p := ⟨w.heap.size + 1 + 1 + 1 + 1, 1, none⟩) (show w.heap.size ≠ w.heap.size + 1 + 1 + 1 + 1 by omega) (.slice A2 Q5.length c2))
      have V2 := Aside0.mk (blk_far (blk_far V2.out (p := ⟨w.heap.size + 1 + 1 + 1 + 1, 0, none⟩) (show w.heap.size + 1 + 1 ≠ w.heap.size + 1 + 1 + 1 + 1 by omega) (.slice A1 H5.length c1)) (p := ⟨w.heap.size + 1 + 1 + 1 + 1, 1, none⟩) (show w.heap.size + 1 + 1 ≠ w.heap.size + 1 + 1 + 1 + 1 by omega) (.slice A2 Q5.length c2))
      have V3 := Aside0.mk (two_far (.slice A1 H5.length c1) (.slice A2 Q5.length c2) V3.out V4.out (by decide))
      have V5 := Aside0.mk (two_far (.slice A1 H5.length c1) (.slice A2 Q5.length c2) V5.out V4.out (by decide))
      have R1 := Aside0.mk (R_two (.slice A1 H5.length c1) (.slice A2 Q5.length c2) R1.out V4.out (by decide))
      have R2 := Aside0.mk (R_two (.slice A1 H5.length c1) (.slice A2 Q5.length c2) R2.out V4.out (by decide))
      have R3 := Aside0.mk (R_two (.slice A1 H5.length c1) (.slice A2 Q5.length c2) R3.out V4.out (by decide))
      have R4 := Aside0.mk (R_two (.slice A1 H5.length c1) (.slice A2 Q5.length c2) R4.out V4.out (by decide))
      have V4 := Aside0.mk P_.out.1
      have B := Aside0.mk P_.out.2
      clear P_ p0 p1 q0 q1 fp0 fp1 fq0 fq1
      generalize ((w4.setCell ⟨w.heap.size + 1 + 1 + 1 + 1, 0, none⟩ (.slice A1 H5.length c1)).setCell ⟨w.heap.size + 1 + 1 + 1 + 1, 1, none⟩ (.slice A2 Q5.length c2)) = w5 at B V0 V2 V3 V4 V5 R1 R2 R3 R4 ⊢
      have P_ := Aside0.mk (put_two (n := w.heap.size) (w := w) (.slice A3 G5.length c3) (.slice A4 N5.length c4) V5.out B.out (by omega))
      have V0 := Aside0.mk (two_far (.slice A3 G5.length c3) (.slice A4 N5.length c4) V0.out V5.out (by decide))
      have V2 := Aside0.mk (two_far (.slice A3 G5.length c3) (.slice A4 N5.length c4) V2.out V5.out (by decide))
      have V4 := Aside0.mk (two_far (.slice A3 G5.length c3) (.slice A4 N5.length c4) V4.out V5.out (by decide))
      have V3 := Aside0.mk (blk_far (blk_far V3.out (p := ⟨w.heap.size + 1 + 1 + 1 + 1 + 1, 0, none⟩) (show w.heap.size + 1 + 1 + 1 ≠ w.heap.size + 1 + 1 + 1 + 1 + 1 by omega) (.slice A3 G5.length c3)) (p := ⟨w.heap.size + 1 + 1 + 1 + 1 + 1, 1, none⟩) (show w.heap.size + 1 + 1 + 1 ≠ w.heap.size + 1 + 1 + 1 + 1 + 1 by omega) (.slice A4 N5.length c4))
      have R1 := Aside0.mk (R_two (.slice A3 G5.length c3) (.slice A4 N5.length c4) R1.out V5.out (by decide))
      have R2 := Aside0.mk (R_two (.slice A3 G5.length c3) (.slice A4 N5.length c4) R2.out V5.out (by decide))
      have R3 := Aside0.mk (R_two (.slice A3 G5.length c3) (.slice A4 N5.length c4) R3.out V5.out (by decide))
      have R4 := Aside0.mk (R_two (.slice A3 G5.length c3) (.slice A4 N5.length c4) R4.out V5.out (by decide))
      have V5 := Aside0.mk P_.out.1
      have B := Aside0.mk P_.out.2
      clear P_
      generalize (w5.setCell ⟨w.heap.size + 1 + 1 + 1 + 1 + 1, 0, none⟩ (.slice A3 G5.length c3)).setCell ⟨w.heap.size + 1 + 1 + 1 + 1 + 1, 1, none⟩ (.slice A4 N5.length c4) = w6 at B V0 V2 V3 V4 V5 R1 R2 R3 R4 ⊢
      have x0 := (blk_cell V0.out 0).trans rfl; have x1 := (blk_cell V0.out 1).trans rfl
      have p0 := (blk_cell V2.out 0).trans rfl; have p1 := (blk_cell V2.out 1).trans rfl
      have fp0 := blk_frozen V2.out 0; have fp1 := blk_frozen V2.out 1
      have q0 := (blk_cell V3.out 0).trans rfl; have q1 := (blk_cell V3.out 1).trans rfl
      have fq0 := blk_frozen V3.out 0; have fq1 := blk_frozen V3.out 1
      have P4 := Aside0.mk (put_two (n := w.heap.size) (w := w) (.slice AH H.length cH) (.slice AW Wt.length cW) V2.out B.out (by omega))
      have G5' := Aside0.mk (two_far (.slice AH H.length cH) (.slice AW Wt.length cW) V3.out V2.out (by decide))
      have P5 := Aside0.mk (put_two (n := w.heap.size) (w := w) (.slice none 0 0) (.slice none 0 0) G5'.out P4.out.2 (by omega))
      have P6 := Aside0.mk (two_far (.slice none 0 0) (.slice none 0 0) P4.out.1 G5'.out (by decide))
      go_wp2
      refine bodyPost_ret (results_cells3 rfl rfl rfl (loadVar_two 29 (by kernel_rfl) (by kernel_rfl) P6.out) (loadVar_two 33 (by kernel_rfl) (by kernel_rfl) P5.out.1)) rfl ?_
      show DoneP w _ (doneR H Wt a).1 (doneR H Wt a).2 _ _
      rw [HR.out]
      exact ⟨.agg #[], .agg #[], P5.out.2, .inr ⟨HNE.out, rfl⟩⟩
  · obtain ⟨⟨⟨H5, Q5, G5, N5⟩, E5⟩, hS⟩ : ∃ S, S = unlockF H Wt a.f1 := ⟨_, rfl⟩
    have hc := unlock_calls AH AW cH cW H Wt a.f1 W (Kd.C_below HH.out HB_W.out) (Kd.C_below HW.out HB_W.out) hlen
    rw [← hS] at hc
    have HC := Aside0.mk hc
    have HR := Aside0.mk (show doneR H Wt a = ((H5, Q5, G5, N5), E5) by unfold doneR; rw [hm]; first | exact hS.symm | (rw [show unlockF H Wt a.f1 = _ from hS.symm]; rfl) | (rw [← hS]; rfl))
    rw [hm]
    clear hS hc hm HK
    by_cases hz : E5 = 0
    · subst hz
      go_upto_region 14 with (fail)
      refine HC.out.mono ?_
      rintro e w4 hp
      try dsimp only at hp
      obtain ⟨v, u, rfl, ⟨vH, vW, rfl, hvH, hvW⟩, ⟨vG, vN, rfl, hvG, hvN⟩, hb⟩ := hp
      try dsimp only at hvH hvW hvG hvN
      obtain ⟨A1, c1, rfl⟩ := Kd.R_slice hvH
      obtain ⟨A2, c2, rfl⟩ := Kd.R_slice hvW
      obtain ⟨A3, c3, rfl⟩ := Kd.R_slice hvG
      obtain ⟨A4, c4, rfl⟩ := Kd.R_slice hvN
      have R1 := Aside0.mk (Kd.R_lower hvH HB_W.out.size)
      have R2 := Aside0.mk (Kd.R_lower hvW HB_W.out.size)
      have R3 := Aside0.mk (Kd.R_lower hvG HB_W.out.size)
      have R4 := Aside0.mk (Kd.R_lower hvN HB_W.out.size)
      have B := Aside0.mk (below_step HB_W.out hb)
      have V0 := Aside0.mk (blk_below W0.out hb)
      have V2 := Aside0.mk (blk_below W2.out hb)
      have V3 := Aside0.mk (blk_below W3.out hb)
      have V4 := Aside0.mk (blk_below W4.out hb)
      have V5 := Aside0.mk (blk_below W5.out hb)
      clear hb hvH hvW hvG hvN x0 x1 y1 y2 y3 y4 y5
      have p0 := (blk_cell V4.out 0).trans rfl; have p1 := (blk_cell V4.out 1).trans rfl
      have fp0 := blk_frozen V4.out 0; have fp1 := blk_frozen V4.out 1
      have q0 := (blk_cell V5.out 0).trans rfl; have q1 := (blk_cell V5.out 1).trans rfl
      have fq0 := blk_frozen V5.out 0; have fq1 := blk_frozen V5.out 1
      go_upto_region 14 with (fail)
      have P_ := Aside0.mk (put_two (n := w.heap.size) (w := w) (.slice A1 H5.length c1) (.slice A2 Q5.length c2) V4.out B.out (by omega))
      have V0 := Aside0.mk (blk_far (blk_far V0.out (p := ⟨w.heap.size + 1 + 1 + 1 + 1, 0, none⟩) (show w.heap.size ≠ w.heap.size + 1 + 1 + 1 + 1 by omega) (.slice A1 H5.length c1)) (p := ⟨w.heap.size + 1 + 1 + 1 + 1, 1, none⟩) (show w.heap.size ≠ w.heap.size + 1 + 1 + 1 + 1 by omega) (.slice A2 Q5.length c2))
      have V2 := Aside0.mk (blk_far (blk_far V2.out (p := ⟨w.heap.size + 1 + 1 + 1 + 1, 0, none⟩) (show w.heap.size + 1 + 1 ≠ w.heap.size + 1 + 1 + 1 + 1 by omega) (.slice A1 H5.length c1)) (p := ⟨w.heap.size + 1 + 1 + 1 + 1, 1, none⟩) (show w.heap.size + 1 + 1 ≠ w.heap.size + 1 + 1 + 1 + 1 by omega) (.slice A2 Q5.length c2))
      have V3 := Aside0.mk (two_far (.slice A1 H5.length c1) (.slice A2 Q5.length c2) V3.out V4.out (by decide))
      have V5 := Aside0.mk (two_far (.slice A1 H5.length c1) (.slice A2 Q5.length c2) V5.out V4.out (by decide))
      have R1 := Aside0.mk (R_two (.slice A1 H5.length c1) (.slice A2 Q5.length c2) R1.out V4.out (by decide))
      have R2 := Aside0.mk (R_two (.slice A1 H5.length c1) (.slice A2 Q5.length c2) R2.out V4.out (by decide))
      have R3 := Aside0.mk (R_two (.slice A1 H5.length c1) (.slice A2 Q5.length c2) R3.out V4.out (by decide))
      have R4 := Aside0.mk (R_two (.slice A1 H5.length c1) (.slice A2 Q5.length c2) R4.out V4.out (by decide))
      have V4 := Aside0.mk P_.out.1
      have B := Aside0.mk P_.out.2
      clear P_ p0 p1 q0 q1 fp0 fp1 fq0 fq1
      generalize ((w4.setCell ⟨w.heap.size + 1 + 1 + 1 + 1, 0, none⟩ (.slice A1 H5.length c1)).setCell ⟨w.heap.size + 1 + 1 + 1 + 1, 1, none⟩ (.slice A2 Q5.length c2)) = w5 at B V0 V2 V3 V4 V5 R1 R2 R3 R4 ⊢
      have P_ := Aside0.mk (put_two (n := w.heap.size) (w := w) (.slice A3 G5.length c3) (.slice A4 N5.length c4) V5.out B.out (by omega))
      have V0 := Aside0.mk (two_far (.slice A3 G5.length c3) (.slice A4 N5.length c4) V0.out V5.out (by decide))
      have V2 := Aside0.mk (two_far (.slice A3 G5.length c3) (.slice A4 N5.length c4) V2.out V5.out (by decide))
      have V4 := Aside0.mk (two_far (.slice A3 G5.length c3) (.slice A4 N5.length c4) V4.out V5.out (by decide))
      have V3 := Aside0.mk (blk_far (blk_far V3.out (p := ⟨w.heap.size + 1 + 1 + 1 + 1 + 1, 0, none⟩) (show w.heap.size + 1 + 1 + 1 ≠ w.heap.size + 1 + 1 + 1 + 1 + 1 by omega) (.slice A3 G5.length c3)) (p := ⟨w.heap.size + 1 + 1 + 1 + 1 + 1, 1, none⟩) (show w.heap.size + 1 + 1 + 1 ≠ w.heap.size + 1 + 1 + 1 + 1 + 1 by omega) (.slice A4 N5.length c4))
      have R1 := Aside0.mk (R_two (.slice A3 G5.length c3) (.slice A4 N5.length c4) R1.out V5.out (by decide))
      have R2 := Aside0.mk (R_two (.slice A3 G5.length c3) (.slice A4 N5.length c4) R2.out V5.out (by decide))
      have R3 := Aside0.mk (R_two (.slice A3 G5.length c3) (.slice A4 N5.length c4) R3.out V5.out (by decide))
      have R4 := Aside0.mk (R_two (.slice A3 G5.length c3) (.slice A4 N5.length c4) R4.out V5.out (by decide))
      have V5 := Aside0.mk P_.out.1
      have B := Aside0.mk P_.out.2
      clear P_
      generalize (w5.setCell ⟨w.heap.size + 1 + 1 + 1 + 1 + 1, 0, none⟩ (.slice A3 G5.length c3)).setCell ⟨w.heap.size + 1 + 1 + 1 + 1 + 1, 1, none⟩ (.slice A4 N5.length c4) = w6 at B V0 V2 V3 V4 V5 R1 R2 R3 R4 ⊢
      go_upto_region 16 with (fail)
      refine start_ (n := 5) (S := fun w' => w'.cell? ⟨w.heap.size + 1 + 1 + 1 + 1, 0, none⟩ = some (.slice A1 H5.length c1) ∧ w'.cell? ⟨w.heap.size + 1 + 1 + 1 + 1, 1, none⟩ = some (.slice A2 Q5.length c2) ∧ w'.cell? ⟨w.heap.size + 1 + 1 + 1 + 1 + 1, 0, none⟩ = some (.slice A3 G5.length c3) ∧ w'.cell? ⟨w.heap.size + 1 + 1 + 1 + 1 + 1, 1, none⟩ = some (.slice A4 N5.length c4)) (ds := [3]) #[false, false, false, false, false] (by kernel_rfl) rfl rfl ⟨(blk_cell (blk_drew V4.out) 0).trans rfl, (blk_cell (blk_drew V4.out) 1).trans rfl, (blk_cell (blk_drew V5.out) 0).trans rfl, (blk_cell (blk_drew V5.out) 1).trans rfl⟩ (fun hHeld => ?_)
      have hbd := below_drew1 (Below.refl w6.heap.size w6)
      have B := Aside0.mk (below_step B.out hbd)
      have V2 := Aside0.mk (blk_below V2.out hbd)
      have V3 := Aside0.mk (blk_below V3.out hbd)
      have V4 := Aside0.mk (blk_below V4.out hbd)
      have V5 := Aside0.mk (blk_below V5.out hbd)
      have R1 := Aside0.mk (Kd.R_below R1.out hbd)
      have R2 := Aside0.mk (Kd.R_below R2.out hbd)
      have R3 := Aside0.mk (Kd.R_below R3.out hbd)
      have R4 := Aside0.mk (Kd.R_below R4.out hbd)
      clear hbd V0
      generalize w6.drew = x6 at B V2 V3 V4 V5 R1 R2 R3 R4 hHeld ⊢
      refine take_ (i := 0) (N := some 68) (v := ?_) (a' := ?_) #[true, false, false, false, false] rfl rfl (by kernel_rfl) (fun _ _ _ h => h) (Or.inl ⟨by rfl, ?_⟩) hHeld ?_ ?_
      rotate_left
      · rintro w' ⟨s0, s1, s2, s3⟩
        go_simp
        with_reducible rfl
      rotate_left
      · simp only [Act.put, List.setIfInBounds_toArray, List.set_cons_zero, List.set_cons_succ, i64_w, i32_w]
        rfl
      refine take_ (i := 1) (N := some 69) (v := ?_) (a' := ?_) #[true, true, false, false, false] rfl rfl (by kernel_rfl) (fun _ _ _ h => h) (Or.inl ⟨by rfl, ?_⟩) hHeld ?_ ?_
      rotate_left
      · rintro w' ⟨s0, s1, s2, s3⟩
        go_simp
        with_reducible rfl
      rotate_left
      · simp only [Act.put, List.setIfInBounds_toArray, List.set_cons_zero, List.set_cons_succ, i64_w, i32_w]
        rfl
      have r0 := (blk_cell V2.out 0).trans rfl; have r1 := (blk_cell V2.out 1).trans rfl
      have fr0 := blk_frozen V2.out 0; have fr1 := blk_frozen V2.out 1
      refine one_ (i := 2) (N := none) #[true, true, true, false, false] rfl rfl (by kernel_rfl) (by decide) (fun K hK => ?_)
      refine skip_ (w1 := ?_) (by rfl) rfl ?_ ?_
      rotate_left
      · go_simp
        rfl
      clear r0 r1 fr0 fr1
      have P4 := Aside0.mk (put_two (n := w.heap.size) (w := w) (.slice A1 H5.length c1) (.slice A2 Q5.length c2) V2.out B.out (by omega))
      have G5' := Aside0.mk (two_far (.slice A1 H5.length c1) (.slice A2 Q5.length c2) V3.out V2.out (by decide))
      have SR1 := Aside0.mk (R_two (.slice A1 H5.length c1) (.slice A2 Q5.length c2) R1.out V2.out (by decide))
      have SR2 := Aside0.mk (R_two (.slice A1 H5.length c1) (.slice A2 Q5.length c2) R2.out V2.out (by decide))
      have SR3 := Aside0.mk (R_two (.slice A1 H5.length c1) (.slice A2 Q5.length c2) R3.out V2.out (by decide))
      have SR4 := Aside0.mk (R_two (.slice A1 H5.length c1) (.slice A2 Q5.length c2) R4.out V2.out (by decide))
      have Z0 := Aside0.mk (blk_far (blk_far V4.out (p := ⟨w.heap.size + 1 + 1, 0, none⟩) (show w.heap.size + 1 + 1 + 1 + 1 ≠ w.heap.size + 1 + 1 by omega) (.slice A1 H5.length c1)) (p := ⟨w.heap.size + 1 + 1, 1, none⟩) (show w.heap.size + 1 + 1 + 1 + 1 ≠ w.heap.size + 1 + 1 by omega) (.slice A2 Q5.length c2))
      have Z1 := Aside0.mk (two_far (.slice A1 H5.length c1) (.slice A2 Q5.length c2) V5.out V2.out (by decide))
      clear V2 V3 V4 V5 B R1 R2 R3 R4
      generalize (x6.setCell ⟨w.heap.size + 1 + 1, 0, none⟩ (.slice A1 H5.length c1)).setCell ⟨w.heap.size + 1 + 1, 1, none⟩ (.slice A2 Q5.length c2) = x7 at P4 G5' Z0 Z1 SR1 SR2 SR3 SR4 ⊢
      refine hK.out _ _ ⟨(blk_cell Z0.out 0).trans rfl, (blk_cell Z0.out 1).trans rfl, (blk_cell Z1.out 0).trans rfl, (blk_cell Z1.out 1).trans rfl⟩ (fun hHeld => ?_)
      clear hK K
      have r0 := (blk_cell G5'.out 0).trans rfl; have r1 := (blk_cell G5'.out 1).trans rfl
      have fr0 := blk_frozen G5'.out 0; have fr1 := blk_frozen G5'.out 1
      refine last_ (i := 3) (N := none) #[true, true, true, true, false] rfl rfl (by kernel_rfl) (by decide) (fun K hK => ?_)
      refine skip_ (w1 := ?_) (by rfl) rfl ?_ ?_
      rotate_left
      · go_simp
        rfl
      refine hK.out _ _ ?_
      clear hK K hHeld r0 r1 fr0 fr1
      have P5 := Aside0.mk (put_two (n := w.heap.size) (w := w) (.slice A3 G5.length c3) (.slice A4 N5.length c4) G5'.out P4.out.2 (by omega))
      have P6 := Aside0.mk (two_far (.slice A3 G5.length c3) (.slice A4 N5.length c4) P4.out.1 G5'.out (by decide))
      have TR1 := Aside0.mk (R_two (.slice A3 G5.length c3) (.slice A4 N5.length c4) SR1.out G5'.out (by decide))
      have TR2 := Aside0.mk (R_two (.slice A3 G5.length c3) (.slice A4 N5.length c4) SR2.out G5'.out (by decide))
      have TR3 := Aside0.mk (R_two (.slice A3 G5.length c3) (.slice A4 N5.length c4) SR3.out G5'.out (by decide))
      have TR4 := Aside0.mk (R_two (.slice A3 G5.length c3) (.slice A4 N5.length c4) SR4.out G5'.out (by decide))
      clear P4 G5' Z0 Z1 SR1 SR2 SR3 SR4
      generalize (x7.setCell ⟨w.heap.size + 1 + 1 + 1, 0, none⟩ (.slice A3 G5.length c3)).setCell ⟨w.heap.size + 1 + 1 + 1, 1, none⟩ (.slice A4 N5.length c4) = x8 at P5 P6 TR1 TR2 TR3 TR4 ⊢
      skip
      refine pure_ (i := 4) (N := some 6) (v := ?_) (a' := ?_) #[true, true, true, true, true] rfl rfl (by kernel_rfl) (fun _ _ _ h => h) (Or.inl ⟨by rfl, ?_⟩) ?_ ?_
      rotate_left
      · intro w'
        go_simp
        with_reducible rfl
      rotate_left
      · simp only [Act.put, List.setIfInBounds_toArray, List.set_cons_zero, List.set_cons_succ, i64_w, i32_w]
        rfl
      refine done_ (by kernel_rfl) ?_
      go_wp2
      refine bodyPost_ret (results_cells3 rfl rfl rfl (loadVar_two 29 (by kernel_rfl) (by kernel_rfl) P6.out) (loadVar_two 33 (by kernel_rfl) (by kernel_rfl) P5.out.1)) rfl ?_
      show DoneP w _ (doneR H Wt a).1 (doneR H Wt a).2 _ _
      rw [HR.out]
      exact ⟨_, _, P5.out.2, .inl ⟨rfl, rfl, ⟨_, _, rfl, TR1.out, TR2.out⟩, ⟨_, _, rfl, TR3.out, TR4.out⟩⟩⟩
    · have hnb : (E5 == 0) = false := by simpa using hz
      have HNE := Aside0.mk hz
      clear hz
      go_upto_region 14 with (fail)
      refine HC.out.mono ?_
      rintro e w4 hp
      try dsimp only at hp
      obtain ⟨v, u, rfl, ⟨vH, vW, rfl, hvH, hvW⟩, ⟨vG, vN, rfl, hvG, hvN⟩, hb⟩ := hp
      try dsimp only at hvH hvW hvG hvN
      obtain ⟨A1, c1, rfl⟩ := Kd.R_slice hvH
      obtain ⟨A2, c2, rfl⟩ := Kd.R_slice hvW
      obtain ⟨A3, c3, rfl⟩ := Kd.R_slice hvG
      obtain ⟨A4, c4, rfl⟩ := Kd.R_slice hvN
      have R1 := Aside0.mk (Kd.R_lower hvH HB_W.out.size)
      have R2 := Aside0.mk (Kd.R_lower hvW HB_W.out.size)
      have R3 := Aside0.mk (Kd.R_lower hvG HB_W.out.size)
      have R4 := Aside0.mk (Kd.R_lower hvN HB_W.out.size)
      have B := Aside0.mk (below_step HB_W.out hb)
      have V0 := Aside0.mk (blk_below W0.out hb)
      have V2 := Aside0.mk (blk_below W2.out hb)
      have V3 := Aside0.mk (blk_below W3.out hb)
      have V4 := Aside0.mk (blk_below W4.out hb)
      have V5 := Aside0.mk (blk_below W5.out hb)
      clear hb hvH hvW hvG hvN x0 x1 y1 y2 y3 y4 y5
      have p0 := (blk_cell V4.out 0).trans rfl; have p1 := (blk_cell V4.out 1).trans rfl
      have fp0 := blk_frozen V4.out 0; have fp1 := blk_frozen V4.out 1
      have q0 := (blk_cell V5.out 0).trans rfl; have q1 := (blk_cell V5.out 1).trans rfl
      have fq0 := blk_frozen V5.out 0; have fq1 := blk_frozen V5.out 1
      go_upto_region 14 with (fail)
      have P_ := Aside0.mk (put_two (n := w.heap.size) (w := w) (.slice A1 H5.length c1) (.slice A2 Q5.length c2) V4.out B.out (by omega))
      have V0 := Aside0.mk (blk_far (blk_far V0.out (p := ⟨w.heap.size + 1 + 1 + 1 + 1, 0, none⟩) (show w.heap.size ≠ w.heap.size + 1 + 1 + 1 + 1 by omega) (.slice A1 H5.length c1)) (p := ⟨w.heap.size + 1 + 1 + 1 + 1, 1, none⟩) (show w.heap.size ≠ w.heap.size + 1 + 1 + 1 + 1 by omega) (.slice A2 Q5.length c2))
      have V2 := Aside0.mk (blk_far (blk_far V2.out (p := ⟨w.heap.size + 1 + 1 + 1 + 1, 0, none⟩) (show w.heap.size + 1 + 1 ≠ w.heap.size + 1 + 1 + 1 + 1 by omega) (.slice A1 H5.length c1)) (p := ⟨w.heap.size + 1 + 1 + 1 + 1, 1, none⟩) (show w.heap.size + 1 + 1 ≠ w.heap.size + 1 + 1 + 1 + 1 by omega) (.slice A2 Q5.length c2))
      have V3 := Aside0.mk (two_far (.slice A1 H5.length c1) (.slice A2 Q5.length c2) V3.out V4.out (by decide))
      have V5 := Aside0.mk (two_far (.slice A1 H5.length c1) (.slice A2 Q5.length c2) V5.out V4.out (by decide))
      have R1 := Aside0.mk (R_two (.slice A1 H5.length c1) (.slice A2 Q5.length c2) R1.out V4.out (by decide))
      have R2 := Aside0.mk (R_two (.slice A1 H5.length c1) (.slice A2 Q5.length c2) R2.out V4.out (by decide))
      have R3 := Aside0.mk (R_two (.slice A1 H5.length c1) (.slice A2 Q5.length c2) R3.out V4.out (by decide))
      have R4 := Aside0.mk (R_two (.slice A1 H5.length c1) (.slice A2 Q5.length c2) R4.out V4.out (by decide))
      have V4 := Aside0.mk P_.out.1
      have B := Aside0.mk P_.out.2
      clear P_ p0 p1 q0 q1 fp0 fp1 fq0 fq1
      generalize ((w4.setCell ⟨w.heap.size + 1 + 1 + 1 + 1, 0, none⟩ (.slice A1 H5.length c1)).setCell ⟨w.heap.size + 1 + 1 + 1 + 1, 1, none⟩ (.slice A2 Q5.length c2)) = w5 at B V0 V2 V3 V4 V5 R1 R2 R3 R4 ⊢
      have P_ := Aside0.mk (put_two (n := w.heap.size) (w := w) (.slice A3 G5.length c3) (.slice A4 N5.length c4) V5.out B.out (by omega))
      have V0 := Aside0.mk (two_far (.slice A3 G5.length c3) (.slice A4 N5.length c4) V0.out V5.out (by decide))
      have V2 := Aside0.mk (two_far (.slice A3 G5.length c3) (.slice A4 N5.length c4) V2.out V5.out (by decide))
      have V4 := Aside0.mk (two_far (.slice A3 G5.length c3) (.slice A4 N5.length c4) V4.out V5.out (by decide))
      have V3 := Aside0.mk (blk_far (blk_far V3.out (p := ⟨w.heap.size + 1 + 1 + 1 + 1 + 1, 0, none⟩) (show w.heap.size + 1 + 1 + 1 ≠ w.heap.size + 1 + 1 + 1 + 1 + 1 by omega) (.slice A3 G5.length c3)) (p := ⟨w.heap.size + 1 + 1 + 1 + 1 + 1, 1, none⟩) (show w.heap.size + 1 + 1 + 1 ≠ w.heap.size + 1 + 1 + 1 + 1 + 1 by omega) (.slice A4 N5.length c4))
      have R1 := Aside0.mk (R_two (.slice A3 G5.length c3) (.slice A4 N5.length c4) R1.out V5.out (by decide))
      have R2 := Aside0.mk (R_two (.slice A3 G5.length c3) (.slice A4 N5.length c4) R2.out V5.out (by decide))
      have R3 := Aside0.mk (R_two (.slice A3 G5.length c3) (.slice A4 N5.length c4) R3.out V5.out (by decide))
      have R4 := Aside0.mk (R_two (.slice A3 G5.length c3) (.slice A4 N5.length c4) R4.out V5.out (by decide))
      have V5 := Aside0.mk P_.out.1
      have B := Aside0.mk P_.out.2
      clear P_
      generalize (w5.setCell ⟨w.heap.size + 1 + 1 + 1 + 1 + 1, 0, none⟩ (.slice A3 G5.length c3)).setCell ⟨w.heap.size + 1 + 1 + 1 + 1 + 1, 1, none⟩ (.slice A4 N5.length c4) = w6 at B V0 V2 V3 V4 V5 R1 R2 R3 R4 ⊢
      have x0 := (blk_cell V0.out 0).trans rfl; have x1 := (blk_cell V0.out 1).trans rfl
      have p0 := (blk_cell V2.out 0).trans rfl; have p1 := (blk_cell V2.out 1).trans rfl
      have fp0 := blk_frozen V2.out 0; have fp1 := blk_frozen V2.out 1
      have q0 := (blk_cell V3.out 0).trans rfl; have q1 := (blk_cell V3.out 1).trans rfl
      have fq0 := blk_frozen V3.out 0; have fq1 := blk_frozen V3.out 1
      have P4 := Aside0.mk (put_two (n := w.heap.size) (w := w) (.slice AH H.length cH) (.slice AW Wt.length cW) V2.out B.out (by omega))
      have G5' := Aside0.mk (two_far (.slice AH H.length cH) (.slice AW Wt.length cW) V3.out V2.out (by decide))
      have P5 := Aside0.mk (put_two (n := w.heap.size) (w := w) (.slice none 0 0) (.slice none 0 0) G5'.out P4.out.2 (by omega))
      have P6 := Aside0.mk (two_far (.slice none 0 0) (.slice none 0 0) P4.out.1 G5'.out (by decide))
      go_wp2
      refine bodyPost_ret (results_cells3 rfl rfl rfl (loadVar_two 29 (by kernel_rfl) (by kernel_rfl) P6.out) (loadVar_two 33 (by kernel_rfl) (by kernel_rfl) P5.out.1)) rfl ?_
      show DoneP w _ (doneR H Wt a).1 (doneR H Wt a).2 _ _
      rw [HR.out]
      exact ⟨.agg #[], .agg #[], P5.out.2, .inr ⟨HNE.out, rfl⟩⟩
  · obtain ⟨⟨⟨H5, Q5, G5, N5⟩, E5⟩, hS⟩ : ∃ S, S = cancelF H Wt a.f1.f1 := ⟨_, rfl⟩
    have hc := cancel_calls AH AW cH cW H Wt a.f1.f1 W (Kd.C_below HH.out HB_W.out) (Kd.C_below HW.out HB_W.out) hlen
    rw [← hS] at hc
    have HC := Aside0.mk hc
    have HR := Aside0.mk (show doneR H Wt a = ((H5, Q5, G5, N5), E5) by unfold doneR; rw [hm]; first | exact hS.symm | (rw [show cancelF H Wt a.f1.f1 = _ from hS.symm]; rfl) | (rw [← hS]; rfl))
    rw [hm]
    clear hS hc hm HK
    by_cases hz : E5 = 0
    · subst hz
      go_upto_region 14 with (fail)
      refine HC.out.mono ?_
      rintro e w4 hp
      try dsimp only at hp
      obtain ⟨v, u, rfl, ⟨vH, vW, rfl, hvH, hvW⟩, ⟨vG, vN, rfl, hvG, hvN⟩, hb⟩ := hp
      try dsimp only at hvH hvW hvG hvN
      obtain ⟨A1, c1, rfl⟩ := Kd.R_slice hvH
      obtain ⟨A2, c2, rfl⟩ := Kd.R_slice hvW
      obtain ⟨A3, c3, rfl⟩ := Kd.R_slice hvG
      obtain ⟨A4, c4, rfl⟩ := Kd.R_slice hvN
      have R1 := Aside0.mk (Kd.R_lower hvH HB_W.out.size)
      have R2 := Aside0.mk (Kd.R_lower hvW HB_W.out.size)
      have R3 := Aside0.mk (Kd.R_lower hvG HB_W.out.size)
      have R4 := Aside0.mk (Kd.R_lower hvN HB_W.out.size)
      have B := Aside0.mk (below_step HB_W.out hb)
      have V0 := Aside0.mk (blk_below W0.out hb)
      have V2 := Aside0.mk (blk_below W2.out hb)
      have V3 := Aside0.mk (blk_below W3.out hb)
      have V4 := Aside0.mk (blk_below W4.out hb)
      have V5 := Aside0.mk (blk_below W5.out hb)
      clear hb hvH hvW hvG hvN x0 x1 y1 y2 y3 y4 y5
      have p0 := (blk_cell V4.out 0).trans rfl; have p1 := (blk_cell V4.out 1).trans rfl
      have fp0 := blk_frozen V4.out 0; have fp1 := blk_frozen V4.out 1
      have q0 := (blk_cell V5.out 0).trans rfl; have q1 := (blk_cell V5.out 1).trans rfl
      have fq0 := blk_frozen V5.out 0; have fq1 := blk_frozen V5.out 1
      go_upto_region 14 with (fail)
      have P_ := Aside0.mk (put_two (n := w.heap.size) (w := w) (.slice A1 H5.length c1) (.slice A2 Q5.length c2) V4.out B.out (by omega))
      have V0 := Aside0.mk (blk_far (blk_far V0.out (p := ⟨w.heap.size + 1 + 1 + 1 + 1, 0, none⟩) (show w.heap.size ≠ w.heap.size + 1 + 1 + 1 + 1 by omega) (.slice A1 H5.length c1)) (p := ⟨w.heap.size + 1 + 1 + 1 + 1, 1, none⟩) (show w.heap.size ≠ w.heap.size + 1 + 1 + 1 + 1 by omega) (.slice A2 Q5.length c2))
      have V2 := Aside0.mk (blk_far (blk_far V2.out (p := ⟨w.heap.size + 1 + 1 + 1 + 1, 0, none⟩) (show w.heap.size + 1 + 1 ≠ w.heap.size + 1 + 1 + 1 + 1 by omega) (.slice A1 H5.length c1)) (p := ⟨w.heap.size + 1 + 1 + 1 + 1, 1, none⟩) (show w.heap.size + 1 + 1 ≠ w.heap.size + 1 + 1 + 1 + 1 by omega) (.slice A2 Q5.length c2))
      have V3 := Aside0.mk (two_far (.slice A1 H5.length c1) (.slice A2 Q5.length c2) V3.out V4.out (by decide))
      have V5 := Aside0.mk (two_far (.slice A1 H5.length c1) (.slice A2 Q5.length c2) V5.out V4.out (by decide))
      have R1 := Aside0.mk (R_two (.slice A1 H5.length c1) (.slice A2 Q5.length c2) R1.out V4.out (by decide))
      have R2 := Aside0.mk (R_two (.slice A1 H5.length c1) (.slice A2 Q5.length c2) R2.out V4.out (by decide))
      have R3 := Aside0.mk (R_two (.slice A1 H5.length c1) (.slice A2 Q5.length c2) R3.out V4.out (by decide))
      have R4 := Aside0.mk (R_two (.slice A1 H5.length c1) (.slice A2 Q5.length c2) R4.out V4.out (by decide))
      have V4 := Aside0.mk P_.out.1
      have B := Aside0.mk P_.out.2
      clear P_ p0 p1 q0 q1 fp0 fp1 fq0 fq1
      generalize ((w4.setCell ⟨w.heap.size + 1 + 1 + 1 + 1, 0, none⟩ (.slice A1 H5.length c1)).setCell ⟨w.heap.size + 1 + 1 + 1 + 1, 1, none⟩ (.slice A2 Q5.length c2)) = w5 at B V0 V2 V3 V4 V5 R1 R2 R3 R4 ⊢
      have P_ := Aside0.mk (put_two (n := w.heap.size) (w := w) (.slice A3 G5.length c3) (.slice A4 N5.length c4) V5.out B.out (by omega))
      have V0 := Aside0.mk (two_far (.slice A3 G5.length c3) (.slice A4 N5.length c4) V0.out V5.out (by decide))
      have V2 := Aside0.mk (two_far (.slice A3 G5.length c3) (.slice A4 N5.length c4) V2.out V5.out (by decide))
      have V4 := Aside0.mk (two_far (.slice A3 G5.length c3) (.slice A4 N5.length c4) V4.out V5.out (by decide))
      have V3 := Aside0.mk (blk_far (blk_far V3.out (p := ⟨w.heap.size + 1 + 1 + 1 + 1 + 1, 0, none⟩) (show w.heap.size + 1 + 1 + 1 ≠ w.heap.size + 1 + 1 + 1 + 1 + 1 by omega) (.slice A3 G5.length c3)) (p := ⟨w.heap.size + 1 + 1 + 1 + 1 + 1, 1, none⟩) (show w.heap.size + 1 + 1 + 1 ≠ w.heap.size + 1 + 1 + 1 + 1 + 1 by omega) (.slice A4 N5.length c4))
      have R1 := Aside0.mk (R_two (.slice A3 G5.length c3) (.slice A4 N5.length c4) R1.out V5.out (by decide))
      have R2 := Aside0.mk (R_two (.slice A3 G5.length c3) (.slice A4 N5.length c4) R2.out V5.out (by decide))
      have R3 := Aside0.mk (R_two (.slice A3 G5.length c3) (.slice A4 N5.length c4) R3.out V5.out (by decide))
      have R4 := Aside0.mk (R_two (.slice A3 G5.length c3) (.slice A4 N5.length c4) R4.out V5.out (by decide))
      have V5 := Aside0.mk P_.out.1
      have B := Aside0.mk P_.out.2
      clear P_
      generalize (w5.setCell ⟨w.heap.size + 1 + 1 + 1 + 1 + 1, 0, none⟩ (.slice A3 G5.length c3)).setCell ⟨w.heap.size + 1 + 1 + 1 + 1 + 1, 1, none⟩ (.slice A4 N5.length c4) = w6 at B V0 V2 V3 V4 V5 R1 R2 R3 R4 ⊢
      go_upto_region 16 with (fail)
      refine start_ (n := 5) (S := fun w' => w'.cell? ⟨w.heap.size + 1 + 1 + 1 + 1, 0, none⟩ = some (.slice A1 H5.length c1) ∧ w'.cell? ⟨w.heap.size + 1 + 1 + 1 + 1, 1, none⟩ = some (.slice A2 Q5.length c2) ∧ w'.cell? ⟨w.heap.size + 1 + 1 + 1 + 1 + 1, 0, none⟩ = some (.slice A3 G5.length c3) ∧ w'.cell? ⟨w.heap.size + 1 + 1 + 1 + 1 + 1, 1, none⟩ = some (.slice A4 N5.length c4)) (ds := [3]) #[false, false, false, false, false] (by kernel_rfl) rfl rfl ⟨(blk_cell (blk_drew V4.out) 0).trans rfl, (blk_cell (blk_drew V4.out) 1).trans rfl, (blk_cell (blk_drew V5.out) 0).trans rfl, (blk_cell (blk_drew V5.out) 1).trans rfl⟩ (fun hHeld => ?_)
      have hbd := below_drew1 (Below.refl w6.heap.size w6)
      have B := Aside0.mk (below_step B.out hbd)
      have V2 := Aside0.mk (blk_below V2.out hbd)
      have V3 := Aside0.mk (blk_below V3.out hbd)
      have V4 := Aside0.mk (blk_below V4.out hbd)
      have V5 := Aside0.mk (blk_below V5.out hbd)
      have R1 := Aside0.mk (Kd.R_below R1.out hbd)
      have R2 := Aside0.mk (Kd.R_below R2.out hbd)
      have R3 := Aside0.mk (Kd.R_below R3.out hbd)
      have R4 := Aside0.mk (Kd.R_below R4.out hbd)
      clear hbd V0
      generalize w6.drew = x6 at B V2 V3 V4 V5 R1 R2 R3 R4 hHeld ⊢
      refine take_ (i := 0) (N := some 68) (v := ?_) (a' := ?_) #[true, false, false, false, false] rfl rfl (by kernel_rfl) (fun _ _ _ h => h) (Or.inl ⟨by rfl, ?_⟩) hHeld ?_ ?_
      rotate_left
      · rintro w' ⟨s0, s1, s2, s3⟩
        go_simp
        with_reducible rfl
      rotate_left
      · simp only [Act.put, List.setIfInBounds_toArray, List.set_cons_zero, List.set_cons_succ, i64_w, i32_w]
        rfl
      refine take_ (i := 1) (N := some 69) (v := ?_) (a' := ?_) #[true, true, false, false, false] rfl rfl (by kernel_rfl) (fun _ _ _ h => h) (Or.inl ⟨by rfl, ?_⟩) hHeld ?_ ?_
      rotate_left
      · rintro w' ⟨s0, s1, s2, s3⟩
        go_simp
        with_reducible rfl
      rotate_left
      · simp only [Act.put, List.setIfInBounds_toArray, List.set_cons_zero, List.set_cons_succ, i64_w, i32_w]
        rfl
      have r0 := (blk_cell V2.out 0).trans rfl; have r1 := (blk_cell V2.out 1).trans rfl
      have fr0 := blk_frozen V2.out 0; have fr1 := blk_frozen V2.out 1
      refine one_ (i := 2) (N := none) #[true, true, true, false, false] rfl rfl (by kernel_rfl) (by decide) (fun K hK => ?_)
      refine skip_ (w1 := ?_) (by rfl) rfl ?_ ?_
      rotate_left
      · go_simp
        rfl
      clear r0 r1 fr0 fr1
      have P4 := Aside0.mk (put_two (n := w.heap.size) (w := w) (.slice A1 H5.length c1) (.slice A2 Q5.length c2) V2.out B.out (by omega))
      have G5' := Aside0.mk (two_far (.slice A1 H5.length c1) (.slice A2 Q5.length c2) V3.out V2.out (by decide))
      have SR1 := Aside0.mk (R_two (.slice A1 H5.length c1) (.slice A2 Q5.length c2) R1.out V2.out (by decide))
      have SR2 := Aside0.mk (R_two (.slice A1 H5.length c1) (.slice A2 Q5.length c2) R2.out V2.out (by decide))
      have SR3 := Aside0.mk (R_two (.slice A1 H5.length c1) (.slice A2 Q5.length c2) R3.out V2.out (by decide))
      have SR4 := Aside0.mk (R_two (.slice A1 H5.length c1) (.slice A2 Q5.length c2) R4.out V2.out (by decide))
      have Z0 := Aside0.mk (blk_far (blk_far V4.out (p := ⟨w.heap.size + 1 + 1, 0, none⟩) (show w.heap.size + 1 + 1 + 1 + 1 ≠ w.heap.size + 1 + 1 by omega) (.slice A1 H5.length c1)) (p := ⟨w.heap.size + 1 + 1, 1, none⟩) (show w.heap.size + 1 + 1 + 1 + 1 ≠ w.heap.size + 1 + 1 by omega) (.slice A2 Q5.length c2))
      have Z1 := Aside0.mk (two_far (.slice A1 H5.length c1) (.slice A2 Q5.length c2) V5.out V2.out (by decide))
      clear V2 V3 V4 V5 B R1 R2 R3 R4
      generalize (x6.setCell ⟨w.heap.size + 1 + 1, 0, none⟩ (.slice A1 H5.length c1)).setCell ⟨w.heap.size + 1 + 1, 1, none⟩ (.slice A2 Q5.length c2) = x7 at P4 G5' Z0 Z1 SR1 SR2 SR3 SR4 ⊢
      refine hK.out _ _ ⟨(blk_cell Z0.out 0).trans rfl, (blk_cell Z0.out 1).trans rfl, (blk_cell Z1.out 0).trans rfl, (blk_cell Z1.out 1).trans rfl⟩ (fun hHeld => ?_)
      clear hK K
      have r0 := (blk_cell G5'.out 0).trans rfl; have r1 := (blk_cell G5'.out 1).trans rfl
      have fr0 := blk_frozen G5'.out 0; have fr1 := blk_frozen G5'.out 1
      refine last_ (i := 3) (N := none) #[true, true, true, true, false] rfl rfl (by kernel_rfl) (by decide) (fun K hK => ?_)
      refine skip_ (w1 := ?_) (by rfl) rfl ?_ ?_
      rotate_left
      · go_simp
        rfl
      refine hK.out _ _ ?_
      clear hK K hHeld r0 r1 fr0 fr1
      have P5 := Aside0.mk (put_two (n := w.heap.size) (w := w) (.slice A3 G5.length c3) (.slice A4 N5.length c4) G5'.out P4.out.2 (by omega))
      have P6 := Aside0.mk (two_far (.slice A3 G5.length c3) (.slice A4 N5.length c4) P4.out.1 G5'.out (by decide))
      have TR1 := Aside0.mk (R_two (.slice A3 G5.length c3) (.slice A4 N5.length c4) SR1.out G5'.out (by decide))
      have TR2 := Aside0.mk (R_two (.slice A3 G5.length c3) (.slice A4 N5.length c4) SR2.out G5'.out (by decide))
      have TR3 := Aside0.mk (R_two (.slice A3 G5.length c3) (.slice A4 N5.length c4) SR3.out G5'.out (by decide))
      have TR4 := Aside0.mk (R_two (.slice A3 G5.length c3) (.slice A4 N5.length c4) SR4.out G5'.out (by decide))
      clear P4 G5' Z0 Z1 SR1 SR2 SR3 SR4
      generalize (x7.setCell ⟨w.heap.size + 1 + 1 + 1, 0, none⟩ (.slice A3 G5.length c3)).setCell ⟨w.heap.size + 1 + 1 + 1, 1, none⟩ (.slice A4 N5.length c4) = x8 at P5 P6 TR1 TR2 TR3 TR4 ⊢
      skip
      refine pure_ (i := 4) (N := some 6) (v := ?_) (a' := ?_) #[true, true, true, true, true] rfl rfl (by kernel_rfl) (fun _ _ _ h => h) (Or.inl ⟨by rfl, ?_⟩) ?_ ?_
      rotate_left
      · intro w'
        go_simp
        with_reducible rfl
      rotate_left
      · simp only [Act.put, List.setIfInBounds_toArray, List.set_cons_zero, List.set_cons_succ, i64_w, i32_w]
        rfl
      refine done_ (by kernel_rfl) ?_
      go_wp2
      refine bodyPost_ret (results_cells3 rfl rfl rfl (loadVar_two 29 (by kernel_rfl) (by kernel_rfl) P6.out) (loadVar_two 33 (by kernel_rfl) (by kernel_rfl) P5.out.1)) rfl ?_
      show DoneP w _ (doneR H Wt a).1 (doneR H Wt a).2 _ _
      rw [HR.out]
      exact ⟨_, _, P5.out.2, .inl ⟨rfl, rfl, ⟨_, _, rfl, TR1.out, TR2.out⟩, ⟨_, _, rfl, TR3.out, TR4.out⟩⟩⟩
    · have hnb : (E5 == 0) = false := by simpa using hz
      have HNE := Aside0.mk hz
      clear hz
      go_upto_region 14 with (fail)
      refine HC.out.mono ?_
      rintro e w4 hp
      try dsimp only at hp
      obtain ⟨v, u, rfl, ⟨vH, vW, rfl, hvH, hvW⟩, ⟨vG, vN, rfl, hvG, hvN⟩, hb⟩ := hp
      try dsimp only at hvH hvW hvG hvN
      obtain ⟨A1, c1, rfl⟩ := Kd.R_slice hvH
      obtain ⟨A2, c2, rfl⟩ := Kd.R_slice hvW
      obtain ⟨A3, c3, rfl⟩ := Kd.R_slice hvG
      obtain ⟨A4, c4, rfl⟩ := Kd.R_slice hvN
      have R1 := Aside0.mk (Kd.R_lower hvH HB_W.out.size)
      have R2 := Aside0.mk (Kd.R_lower hvW HB_W.out.size)
      have R3 := Aside0.mk (Kd.R_lower hvG HB_W.out.size)
      have R4 := Aside0.mk (Kd.R_lower hvN HB_W.out.size)
      have B := Aside0.mk (below_step HB_W.out hb)
      have V0 := Aside0.mk (blk_below W0.out hb)
      have V2 := Aside0.mk (blk_below W2.out hb)
      have V3 := Aside0.mk (blk_below W3.out hb)
      have V4 := Aside0.mk (blk_below W4.out hb)
      have V5 := Aside0.mk (blk_below W5.out hb)
      clear hb hvH hvW hvG hvN x0 x1 y1 y2 y3 y4 y5
      have p0 := (blk_cell V4.out 0).trans rfl; have p1 := (blk_cell V4.out 1).trans rfl
      have fp0 := blk_frozen V4.out 0; have fp1 := blk_frozen V4.out 1
      have q0 := (blk_cell V5.out 0).trans rfl; have q1 := (blk_cell V5.out 1).trans rfl
      have fq0 := blk_frozen V5.out 0; have fq1 := blk_frozen V5.out 1
      go_upto_region 14 with (fail)
      have P_ := Aside0.mk (put_two (n := w.heap.size) (w := w) (.slice A1 H5.length c1) (.slice A2 Q5.length c2) V4.out B.out (by omega))
      have V0 := Aside0.mk (blk_far (blk_far V0.out (p := ⟨w.heap.size + 1 + 1 + 1 + 1, 0, none⟩) (show w.heap.size ≠ w.heap.size + 1 + 1 + 1 + 1 by omega) (.slice A1 H5.length c1)) (p := ⟨w.heap.size + 1 + 1 + 1 + 1, 1, none⟩) (show w.heap.size ≠ w.heap.size + 1 + 1 + 1 + 1 by omega) (.slice A2 Q5.length c2))
      have V2 := Aside0.mk (blk_far (blk_far V2.out (p := ⟨w.heap.size + 1 + 1 + 1 + 1, 0, none⟩) (show w.heap.size + 1 + 1 ≠ w.heap.size + 1 + 1 + 1 + 1 by omega) (.slice A1 H5.length c1)) (p := ⟨w.heap.size + 1 + 1 + 1 + 1, 1, none⟩) (show w.heap.size + 1 + 1 ≠ w.heap.size + 1 + 1 + 1 + 1 by omega) (.slice A2 Q5.length c2))
      have V3 := Aside0.mk (two_far (.slice A1 H5.length c1) (.slice A2 Q5.length c2) V3.out V4.out (by decide))
      have V5 := Aside0.mk (two_far (.slice A1 H5.length c1) (.slice A2 Q5.length c2) V5.out V4.out (by decide))
      have R1 := Aside0.mk (R_two (.slice A1 H5.length c1) (.slice A2 Q5.length c2) R1.out V4.out (by decide))
      have R2 := Aside0.mk (R_two (.slice A1 H5.length c1) (.slice A2 Q5.length c2) R2.out V4.out (by decide))
      have R3 := Aside0.mk (R_two (.slice A1 H5.length c1) (.slice A2 Q5.length c2) R3.out V4.out (by decide))
      have R4 := Aside0.mk (R_two (.slice A1 H5.length c1) (.slice A2 Q5.length c2) R4.out V4.out (by decide))
      have V4 := Aside0.mk P_.out.1
      have B := Aside0.mk P_.out.2
      clear P_ p0 p1 q0 q1 fp0 fp1 fq0 fq1
      generalize ((w4.setCell ⟨w.heap.size + 1 + 1 + 1 + 1, 0, none⟩ (.slice A1 H5.length c1)).setCell ⟨w.heap.size + 1 + 1 + 1 + 1, 1, none⟩ (.slice A2 Q5.length c2)) = w5 at B V0 V2 V3 V4 V5 R1 R2 R3 R4 ⊢
      have P_ := Aside0.mk (put_two (n := w.heap.size) (w := w) (.slice A3 G5.length c3) (.slice A4 N5.length c4) V5.out B.out (by omega))
      have V0 := Aside0.mk (two_far (.slice A3 G5.length c3) (.slice A4 N5.length c4) V0.out V5.out (by decide))
      have V2 := Aside0.mk (two_far (.slice A3 G5.length c3) (.slice A4 N5.length c4) V2.out V5.out (by decide))
      have V4 := Aside0.mk (two_far (.slice A3 G5.length c3) (.slice A4 N5.length c4) V4.out V5.out (by decide))
      have V3 := Aside0.mk (blk_far (blk_far V3.out (p := ⟨w.heap.size + 1 + 1 + 1 + 1 + 1, 0, none⟩) (show w.heap.size + 1 + 1 + 1 ≠ w.heap.size + 1 + 1 + 1 + 1 + 1 by omega) (.slice A3 G5.length c3)) (p := ⟨w.heap.size + 1 + 1 + 1 + 1 + 1, 1, none⟩) (show w.heap.size + 1 + 1 + 1 ≠ w.heap.size + 1 + 1 + 1 + 1 + 1 by omega) (.slice A4 N5.length c4))
      have R1 := Aside0.mk (R_two (.slice A3 G5.length c3) (.slice A4 N5.length c4) R1.out V5.out (by decide))
      have R2 := Aside0.mk (R_two (.slice A3 G5.length c3) (.slice A4 N5.length c4) R2.out V5.out (by decide))
      have R3 := Aside0.mk (R_two (.slice A3 G5.length c3) (.slice A4 N5.length c4) R3.out V5.out (by decide))
      have R4 := Aside0.mk (R_two (.slice A3 G5.length c3) (.slice A4 N5.length c4) R4.out V5.out (by decide))
      have V5 := Aside0.mk P_.out.1
      have B := Aside0.mk P_.out.2
      clear P_
      generalize (w5.setCell ⟨w.heap.size + 1 + 1 + 1 + 1 + 1, 0, none⟩ (.slice A3 G5.length c3)).setCell ⟨w.heap.size + 1 + 1 + 1 + 1 + 1, 1, none⟩ (.slice A4 N5.length c4) = w6 at B V0 V2 V3 V4 V5 R1 R2 R3 R4 ⊢
      have x0 := (blk_cell V0.out 0).trans rfl; have x1 := (blk_cell V0.out 1).trans rfl
      have p0 := (blk_cell V2.out 0).trans rfl; have p1 := (blk_cell V2.out 1).trans rfl
      have fp0 := blk_frozen V2.out 0; have fp1 := blk_frozen V2.out 1
      have q0 := (blk_cell V3.out 0).trans rfl; have q1 := (blk_cell V3.out 1).trans rfl
      have fq0 := blk_frozen V3.out 0; have fq1 := blk_frozen V3.out 1
      have P4 := Aside0.mk (put_two (n := w.heap.size) (w := w) (.slice AH H.length cH) (.slice AW Wt.length cW) V2.out B.out (by omega))
      have G5' := Aside0.mk (two_far (.slice AH H.length cH) (.slice AW Wt.length cW) V3.out V2.out (by decide))
      have P5 := Aside0.mk (put_two (n := w.heap.size) (w := w) (.slice none 0 0) (.slice none 0 0) G5'.out P4.out.2 (by omega))
      have P6 := Aside0.mk (two_far (.slice none 0 0) (.slice none 0 0) P4.out.1 G5'.out (by decide))
      go_wp2
      refine bodyPost_ret (results_cells3 rfl rfl rfl (loadVar_two 29 (by kernel_rfl) (by kernel_rfl) P6.out) (loadVar_two 33 (by kernel_rfl) (by kernel_rfl) P5.out.1)) rfl ?_
      show DoneP w _ (doneR H Wt a).1 (doneR H Wt a).2 _ _
      rw [HR.out]
      exact ⟨.agg #[], .agg #[], P5.out.2, .inr ⟨HNE.out, rfl⟩⟩
  · obtain ⟨⟨⟨H5, Q5, G5, N5⟩, E5⟩, hS⟩ : ∃ S, S = closeF H Wt a.f1.f1 := ⟨_, rfl⟩
    have hc := close_calls AH AW cH cW H Wt a.f1.f1 W (Kd.C_below HH.out HB_W.out) (Kd.C_below HW.out HB_W.out) hlen
    rw [← hS] at hc
    have HC := Aside0.mk hc
    have HR := Aside0.mk (show doneR H Wt a = ((H5, Q5, G5, N5), E5) by unfold doneR; rw [hm]; first | exact hS.symm | (rw [show closeF H Wt a.f1.f1 = _ from hS.symm]; rfl) | (rw [← hS]; rfl))
    rw [hm]
    clear hS hc hm HK
    by_cases hz : E5 = 0
    · subst hz
      go_upto_region 14 with (fail)
      refine HC.out.mono ?_
      rintro e w4 hp
      try dsimp only at hp
      obtain ⟨v, u, rfl, ⟨vH, vW, rfl, hvH, hvW⟩, ⟨vG, vN, rfl, hvG, hvN⟩, hb⟩ := hp
      try dsimp only at hvH hvW hvG hvN
      obtain ⟨A1, c1, rfl⟩ := Kd.R_slice hvH
      obtain ⟨A2, c2, rfl⟩ := Kd.R_slice hvW
      obtain ⟨A3, c3, rfl⟩ := Kd.R_slice hvG
      obtain ⟨A4, c4, rfl⟩ := Kd.R_slice hvN
      have R1 := Aside0.mk (Kd.R_lower hvH HB_W.out.size)
      have R2 := Aside0.mk (Kd.R_lower hvW HB_W.out.size)
      have R3 := Aside0.mk (Kd.R_lower hvG HB_W.out.size)
      have R4 := Aside0.mk (Kd.R_lower hvN HB_W.out.size)
      have B := Aside0.mk (below_step HB_W.out hb)
      have V0 := Aside0.mk (blk_below W0.out hb)
      have V2 := Aside0.mk (blk_below W2.out hb)
      have V3 := Aside0.mk (blk_below W3.out hb)
      have V4 := Aside0.mk (blk_below W4.out hb)
      have V5 := Aside0.mk (blk_below W5.out hb)
      clear hb hvH hvW hvG hvN x0 x1 y1 y2 y3 y4 y5
      have p0 := (blk_cell V4.out 0).trans rfl; have p1 := (blk_cell V4.out 1).trans rfl
      have fp0 := blk_frozen V4.out 0; have fp1 := blk_frozen V4.out 1
      have q0 := (blk_cell V5.out 0).trans rfl; have q1 := (blk_cell V5.out 1).trans rfl
      have fq0 := blk_frozen V5.out 0; have fq1 := blk_frozen V5.out 1
      go_upto_region 14 with (fail)
      have P_ := Aside0.mk (put_two (n := w.heap.size) (w := w) (.slice A1 H5.length c1) (.slice A2 Q5.length c2) V4.out B.out (by omega))
      have V0 := Aside0.mk (blk_far (blk_far V0.out (p := ⟨w.heap.size + 1 + 1 + 1 + 1, 0, none⟩) (show w.heap.size ≠ w.heap.size + 1 + 1 + 1 + 1 by omega) (.slice A1 H5.length c1)) (p := ⟨w.heap.size + 1 + 1 + 1 + 1, 1, none⟩) (show w.heap.size ≠ w.heap.size + 1 + 1 + 1 + 1 by omega) (.slice A2 Q5.length c2))
      have V2 := Aside0.mk (blk_far (blk_far V2.out (p := ⟨w.heap.size + 1 + 1 + 1 + 1, 0, none⟩) (show w.heap.size + 1 + 1 ≠ w.heap.size + 1 + 1 + 1 + 1 by omega) (.slice A1 H5.length c1)) (p := ⟨w.heap.size + 1 + 1 + 1 + 1, 1, none⟩) (show w.heap.size + 1 + 1 ≠ w.heap.size + 1 + 1 + 1 + 1 by omega) (.slice A2 Q5.length c2))
      have V3 := Aside0.mk (two_far (.slice A1 H5.length c1) (.slice A2 Q5.length c2) V3.out V4.out (by decide))
      have V5 := Aside0.mk (two_far (.slice A1 H5.length c1) (.slice A2 Q5.length c2) V5.out V4.out (by decide))
      have R1 := Aside0.mk (R_two (.slice A1 H5.length c1) (.slice A2 Q5.length c2) R1.out V4.out (by decide))
      have R2 := Aside0.mk (R_two (.slice A1 H5.length c1) (.slice A2 Q5.length c2) R2.out V4.out (by decide))
      have R3 := Aside0.mk (R_two (.slice A1 H5.length c1) (.slice A2 Q5.length c2) R3.out V4.out (by decide))
      have R4 := Aside0.mk (R_two (.slice A1 H5.length c1) (.slice A2 Q5.length c2) R4.out V4.out (by decide))
      have V4 := Aside0.mk P_.out.1
      have B := Aside0.mk P_.out.2
      clear P_ p0 p1 q0 q1 fp0 fp1 fq0 fq1
      generalize ((w4.setCell ⟨w.heap.size + 1 + 1 + 1 + 1, 0, none⟩ (.slice A1 H5.length c1)).setCell ⟨w.heap.size + 1 + 1 + 1 + 1, 1, none⟩ (.slice A2 Q5.length c2)) = w5 at B V0 V2 V3 V4 V5 R1 R2 R3 R4 ⊢
      have P_ := Aside0.mk (put_two (n := w.heap.size) (w := w) (.slice A3 G5.length c3) (.slice A4 N5.length c4) V5.out B.out (by omega))
      have V0 := Aside0.mk (two_far (.slice A3 G5.length c3) (.slice A4 N5.length c4) V0.out V5.out (by decide))
      have V2 := Aside0.mk (two_far (.slice A3 G5.length c3) (.slice A4 N5.length c4) V2.out V5.out (by decide))
      have V4 := Aside0.mk (two_far (.slice A3 G5.length c3) (.slice A4 N5.length c4) V4.out V5.out (by decide))
      have V3 := Aside0.mk (blk_far (blk_far V3.out (p := ⟨w.heap.size + 1 + 1 + 1 + 1 + 1, 0, none⟩) (show w.heap.size + 1 + 1 + 1 ≠ w.heap.size + 1 + 1 + 1 + 1 + 1 by omega) (.slice A3 G5.length c3)) (p := ⟨w.heap.size + 1 + 1 + 1 + 1 + 1, 1, none⟩) (show w.heap.size + 1 + 1 + 1 ≠ w.heap.size + 1 + 1 + 1 + 1 + 1 by omega) (.slice A4 N5.length c4))
      have R1 := Aside0.mk (R_two (.slice A3 G5.length c3) (.slice A4 N5.length c4) R1.out V5.out (by decide))
      have R2 := Aside0.mk (R_two (.slice A3 G5.length c3) (.slice A4 N5.length c4) R2.out V5.out (by decide))
      have R3 := Aside0.mk (R_two (.slice A3 G5.length c3) (.slice A4 N5.length c4) R3.out V5.out (by decide))
      have R4 := Aside0.mk (R_two (.slice A3 G5.length c3) (.slice A4 N5.length c4) R4.out V5.out (by decide))
      have V5 := Aside0.mk P_.out.1
      have B := Aside0.mk P_.out.2
      clear P_
      generalize (w5.setCell ⟨w.heap.size + 1 + 1 + 1 + 1 + 1, 0, none⟩ (.slice A3 G5.length c3)).setCell ⟨w.heap.size + 1 + 1 + 1 + 1 + 1, 1, none⟩ (.slice A4 N5.length c4) = w6 at B V0 V2 V3 V4 V5 R1 R2 R3 R4 ⊢
      go_upto_region 16 with (fail)
      refine start_ (n := 5) (S := fun w' => w'.cell? ⟨w.heap.size + 1 + 1 + 1 + 1, 0, none⟩ = some (.slice A1 H5.length c1) ∧ w'.cell? ⟨w.heap.size + 1 + 1 + 1 + 1, 1, none⟩ = some (.slice A2 Q5.length c2) ∧ w'.cell? ⟨w.heap.size + 1 + 1 + 1 + 1 + 1, 0, none⟩ = some (.slice A3 G5.length c3) ∧ w'.cell? ⟨w.heap.size + 1 + 1 + 1 + 1 + 1, 1, none⟩ = some (.slice A4 N5.length c4)) (ds := [3]) #[false, false, false, false, false] (by kernel_rfl) rfl rfl ⟨(blk_cell (blk_drew V4.out) 0).trans rfl, (blk_cell (blk_drew V4.out) 1).trans rfl, (blk_cell (blk_drew V5.out) 0).trans rfl, (blk_cell (blk_drew V5.out) 1).trans rfl⟩ (fun hHeld => ?_)
      have hbd := below_drew1 (Below.refl w6.heap.size w6)
      have B := Aside0.mk (below_step B.out hbd)
      have V2 := Aside0.mk (blk_below V2.out hbd)
      have V3 := Aside0.mk (blk_below V3.out hbd)
      have V4 := Aside0.mk (blk_below V4.out hbd)
      have V5 := Aside0.mk (blk_below V5.out hbd)
      have R1 := Aside0.mk (Kd.R_below R1.out hbd)
      have R2 := Aside0.mk (Kd.R_below R2.out hbd)
      have R3 := Aside0.mk (Kd.R_below R3.out hbd)
      have R4 := Aside0.mk (Kd.R_below R4.out hbd)
      clear hbd V0
      generalize w6.drew = x6 at B V2 V3 V4 V5 R1 R2 R3 R4 hHeld ⊢
      refine take_ (i := 0) (N := some 68) (v := ?_) (a' := ?_) #[true, false, false, false, false] rfl rfl (by kernel_rfl) (fun _ _ _ h => h) (Or.inl ⟨by rfl, ?_⟩) hHeld ?_ ?_
      rotate_left
      · rintro w' ⟨s0, s1, s2, s3⟩
        go_simp
        with_reducible rfl
      rotate_left
      · simp only [Act.put, List.setIfInBounds_toArray, List.set_cons_zero, List.set_cons_succ, i64_w, i32_w]
        rfl
      refine take_ (i := 1) (N := some 69) (v := ?_) (a' := ?_) #[true, true, false, false, false] rfl rfl (by kernel_rfl) (fun _ _ _ h => h) (Or.inl ⟨by rfl, ?_⟩) hHeld ?_ ?_
      rotate_left
      · rintro w' ⟨s0, s1, s2, s3⟩
        go_simp
        with_reducible rfl
      rotate_left
      · simp only [Act.put, List.setIfInBounds_toArray, List.set_cons_zero, List.set_cons_succ, i64_w, i32_w]
        rfl
      have r0 := (blk_cell V2.out 0).trans rfl; have r1 := (blk_cell V2.out 1).trans rfl
      have fr0 := blk_frozen V2.out 0; have fr1 := blk_frozen V2.out 1
      refine one_ (i := 2) (N := none) #[true, true, true, false, false] rfl rfl (by kernel_rfl) (by decide) (fun K hK => ?_)
      refine skip_ (w1 := ?_) (by rfl) rfl ?_ ?_
      rotate_left
      · go_simp
        rfl
      clear r0 r1 fr0 fr1
      have P4 := Aside0.mk (put_two (n := w.heap.size) (w := w) (.slice A1 H5.length c1) (.slice A2 Q5.length c2) V2.out B.out (by omega))
      have G5' := Aside0.mk (two_far (.slice A1 H5.length c1) (.slice A2 Q5.length c2) V3.out V2.out (by decide))
      have SR1 := Aside0.mk (R_two (.slice A1 H5.length c1) (.slice A2 Q5.length c2) R1.out V2.out (by decide))
      have SR2 := Aside0.mk (R_two (.slice A1 H5.length c1) (.slice A2 Q5.length c2) R2.out V2.out (by decide))
      have SR3 := Aside0.mk (R_two (.slice A1 H5.length c1) (.slice A2 Q5.length c2) R3.out V2.out (by decide))
      have SR4 := Aside0.mk (R_two (.slice A1 H5.length c1) (.slice A2 Q5.length c2) R4.out V2.out (by decide))
      have Z0 := Aside0.mk (blk_far (blk_far V4.out (p := ⟨w.heap.size + 1 + 1, 0, none⟩) (show w.heap.size + 1 + 1 + 1 + 1 ≠ w.heap.size + 1 + 1 by omega) (.slice A1 H5.length c1)) (p := ⟨w.heap.size + 1 + 1, 1, none⟩) (show w.heap.size + 1 + 1 + 1 + 1 ≠ w.heap.size + 1 + 1 by omega) (.slice A2 Q5.length c2))
      have Z1 := Aside0.mk (two_far (.slice A1 H5.length c1) (.slice A2 Q5.length c2) V5.out V2.out (by decide))
      clear V2 V3 V4 V5 B R1 R2 R3 R4
      generalize (x6.setCell ⟨w.heap.size + 1 + 1, 0, none⟩ (.slice A1 H5.length c1)).setCell ⟨w.heap.size + 1 + 1, 1, none⟩ (.slice A2 Q5.length c2) = x7 at P4 G5' Z0 Z1 SR1 SR2 SR3 SR4 ⊢
      refine hK.out _ _ ⟨(blk_cell Z0.out 0).trans rfl, (blk_cell Z0.out 1).trans rfl, (blk_cell Z1.out 0).trans rfl, (blk_cell Z1.out 1).trans rfl⟩ (fun hHeld => ?_)
      clear hK K
      have r0 := (blk_cell G5'.out 0).trans rfl; have r1 := (blk_cell G5'.out 1).trans rfl
      have fr0 := blk_frozen G5'.out 0; have fr1 := blk_frozen G5'.out 1
      refine last_ (i := 3) (N := none) #[true, true, true, true, false] rfl rfl (by kernel_rfl) (by decide) (fun K hK => ?_)
      refine skip_ (w1 := ?_) (by rfl) rfl ?_ ?_
      rotate_left
      · go_simp
        rfl
      refine hK.out _ _ ?_
      clear hK K hHeld r0 r1 fr0 fr1
      have P5 := Aside0.mk (put_two (n := w.heap.size) (w := w) (.slice A3 G5.length c3) (.slice A4 N5.length c4) G5'.out P4.out.2 (by omega))
      have P6 := Aside0.mk (two_far (.slice A3 G5.length c3) (.slice A4 N5.length c4) P4.out.1 G5'.out (by decide))
      have TR1 := Aside0.mk (R_two (.slice A3 G5.length c3) (.slice A4 N5.length c4) SR1.out G5'.out (by decide))
      have TR2 := Aside0.mk (R_two (.slice A3 G5.length c3) (.slice A4 N5.length c4) SR2.out G5'.out (by decide))
      have TR3 := Aside0.mk (R_two (.slice A3 G5.length c3) (.slice A4 N5.length c4) SR3.out G5'.out (by decide))
      have TR4 := Aside0.mk (R_two (.slice A3 G5.length c3) (.slice A4 N5.length c4) SR4.out G5'.out (by decide))
      clear P4 G5' Z0 Z1 SR1 SR2 SR3 SR4
      generalize (x7.setCell ⟨w.heap.size + 1 + 1 + 1, 0, none⟩ (.slice A3 G5.length c3)).setCell ⟨w.heap.size + 1 + 1 + 1, 1, none⟩ (.slice A4 N5.length c4) = x8 at P5 P6 TR1 TR2 TR3 TR4 ⊢
      skip
      refine pure_ (i := 4) (N := some 6) (v := ?_) (a' := ?_) #[true, true, true, true, true] rfl rfl (by kernel_rfl) (fun _ _ _ h => h) (Or.inl ⟨by rfl, ?_⟩) ?_ ?_
      rotate_left
      · intro w'
        go_simp
        with_reducible rfl
      rotate_left
      · simp only [Act.put, List.setIfInBounds_toArray, List.set_cons_zero, List.set_cons_succ, i64_w, i32_w]
        rfl
      refine done_ (by kernel_rfl) ?_
      go_wp2
      refine bodyPost_ret (results_cells3 rfl rfl rfl (loadVar_two 29 (by kernel_rfl) (by kernel_rfl) P6.out) (loadVar_two 33 (by kernel_rfl) (by kernel_rfl) P5.out.1)) rfl ?_
      show DoneP w _ (doneR H Wt a).1 (doneR H Wt a).2 _ _
      rw [HR.out]
      exact ⟨_, _, P5.out.2, .inl ⟨rfl, rfl, ⟨_, _, rfl, TR1.out, TR2.out⟩, ⟨_, _, rfl, TR3.out, TR4.out⟩⟩⟩
    · have hnb : (E5 == 0) = false := by simpa using hz
      have HNE := Aside0.mk hz
      clear hz
      go_upto_region 14 with (fail)
      refine HC.out.mono ?_
      rintro e w4 hp
      try dsimp only at hp
      obtain ⟨v, u, rfl, ⟨vH, vW, rfl, hvH, hvW⟩, ⟨vG, vN, rfl, hvG, hvN⟩, hb⟩ := hp
      try dsimp only at hvH hvW hvG hvN
      obtain ⟨A1, c1, rfl⟩ := Kd.R_slice hvH
      obtain ⟨A2, c2, rfl⟩ := Kd.R_slice hvW
      obtain ⟨A3, c3, rfl⟩ := Kd.R_slice hvG
      obtain ⟨A4, c4, rfl⟩ := Kd.R_slice hvN
      have R1 := Aside0.mk (Kd.R_lower hvH HB_W.out.size)
      have R2 := Aside0.mk (Kd.R_lower hvW HB_W.out.size)
      have R3 := Aside0.mk (Kd.R_lower hvG HB_W.out.size)
      have R4 := Aside0.mk (Kd.R_lower hvN HB_W.out.size)
      have B := Aside0.mk (below_step HB_W.out hb)
      have V0 := Aside0.mk (blk_below W0.out hb)
      have V2 := Aside0.mk (blk_below W2.out hb)
      have V3 := Aside0.mk (blk_below W3.out hb)
      have V4 := Aside0.mk (blk_below W4.out hb)
      have V5 := Aside0.mk (blk_below W5.out hb)
      clear hb hvH hvW hvG hvN x0 x1 y1 y2 y3 y4 y5
      have p0 := (blk_cell V4.out 0).trans rfl; have p1 := (blk_cell V4.out 1).trans rfl
      have fp0 := blk_frozen V4.out 0; have fp1 := blk_frozen V4.out 1
      have q0 := (blk_cell V5.out 0).trans rfl; have q1 := (blk_cell V5.out 1).trans rfl
      have fq0 := blk_frozen V5.out 0; have fq1 := blk_frozen V5.out 1
      go_upto_region 14 with (fail)
      have P_ := Aside0.mk (put_two (n := w.heap.size) (w := w) (.slice A1 H5.length c1) (.slice A2 Q5.length c2) V4.out B.out (by omega))
      have V0 := Aside0.mk (blk_far (blk_far V0.out (p := ⟨w.heap.size + 1 + 1 + 1 + 1, 0, none⟩) (show w.heap.size ≠ w.heap.size + 1 + 1 + 1 + 1 by omega) (.slice A1 H5.length c1)) (p := ⟨w.heap.size + 1 + 1 + 1 + 1, 1, none⟩) (show w.heap.size ≠ w.heap.size + 1 + 1 + 1 + 1 by omega) (.slice A2 Q5.length c2))
      have V2 := Aside0.mk (blk_far (blk_far V2.out (p := ⟨w.heap.size + 1 + 1 + 1 + 1, 0, none⟩) (show w.heap.size + 1 + 1 ≠ w.heap.size + 1 + 1 + 1 + 1 by omega) (.slice A1 H5.length c1)) (p := ⟨w.heap.size + 1 + 1 + 1 + 1, 1, none⟩) (show w.heap.size + 1 + 1 ≠ w.heap.size + 1 + 1 + 1 + 1 by omega) (.slice A2 Q5.length c2))
      have V3 := Aside0.mk (two_far (.slice A1 H5.length c1) (.slice A2 Q5.length c2) V3.out V4.out (by decide))
      have V5 := Aside0.mk (two_far (.slice A1 H5.length c1) (.slice A2 Q5.length c2) V5.out V4.out (by decide))
      have R1 := Aside0.mk (R_two (.slice A1 H5.length c1) (.slice A2 Q5.length c2) R1.out V4.out (by decide))
      have R2 := Aside0.mk (R_two (.slice A1 H5.length c1) (.slice A2 Q5.length c2) R2.out V4.out (by decide))
      have R3 := Aside0.mk (R_two (.slice A1 H5.length c1) (.slice A2 Q5.length c2) R3.out V4.out (by decide))
      have R4 := Aside0.mk (R_two (.slice A1 H5.length c1) (.slice A2 Q5.length c2) R4.out V4.out (by decide))
      have V4 := Aside0.mk P_.out.1
      have B := Aside0.mk P_.out.2
      clear P_ p0 p1 q0 q1 fp0 fp1 fq0 fq1
      generalize ((w4.setCell ⟨w.heap.size + 1 + 1 + 1 + 1, 0, none⟩ (.slice A1 H5.length c1)).setCell ⟨w.heap.size + 1 + 1 + 1 + 1, 1, none⟩ (.slice A2 Q5.length c2)) = w5 at B V0 V2 V3 V4 V5 R1 R2 R3 R4 ⊢
      have P_ := Aside0.mk (put_two (n := w.heap.size) (w := w) (.slice A3 G5.length c3) (.slice A4 N5.length c4) V5.out B.out (by omega))
      have V0 := Aside0.mk (two_far (.slice A3 G5.length c3) (.slice A4 N5.length c4) V0.out V5.out (by decide))
      have V2 := Aside0.mk (two_far (.slice A3 G5.length c3) (.slice A4 N5.length c4) V2.out V5.out (by decide))
      have V4 := Aside0.mk (two_far (.slice A3 G5.length c3) (.slice A4 N5.length c4) V4.out V5.out (by decide))
      have V3 := Aside0.mk (blk_far (blk_far V3.out (p := ⟨w.heap.size + 1 + 1 + 1 + 1 + 1, 0, none⟩) (show w.heap.size + 1 + 1 + 1 ≠ w.heap.size + 1 + 1 + 1 + 1 + 1 by omega) (.slice A3 G5.length c3)) (p := ⟨w.heap.size + 1 + 1 + 1 + 1 + 1, 1, none⟩) (show w.heap.size + 1 + 1 + 1 ≠ w.heap.size + 1 + 1 + 1 + 1 + 1 by omega) (.slice A4 N5.length c4))
      have R1 := Aside0.mk (R_two (.slice A3 G5.length c3) (.slice A4 N5.length c4) R1.out V5.out (by decide))
      have R2 := Aside0.mk (R_two (.slice A3 G5.length c3) (.slice A4 N5.length c4) R2.out V5.out (by decide))
      have R3 := Aside0.mk (R_two (.slice A3 G5.length c3) (.slice A4 N5.length c4) R3.out V5.out (by decide))
      have R4 := Aside0.mk (R_two (.slice A3 G5.length c3) (.slice A4 N5.length c4) R4.out V5.out (by decide))
      have V5 := Aside0.mk P_.out.1
      have B := Aside0.mk P_.out.2
      clear P_
      generalize (w5.setCell ⟨w.heap.size + 1 + 1 + 1 + 1 + 1, 0, none⟩ (.slice A3 G5.length c3)).setCell ⟨w.heap.size + 1 + 1 + 1 + 1 + 1, 1, none⟩ (.slice A4 N5.length c4) = w6 at B V0 V2 V3 V4 V5 R1 R2 R3 R4 ⊢
      have x0 := (blk_cell V0.out 0).trans rfl; have x1 := (blk_cell V0.out 1).trans rfl
      have p0 := (blk_cell V2.out 0).trans rfl; have p1 := (blk_cell V2.out 1).trans rfl
      have fp0 := blk_frozen V2.out 0; have fp1 := blk_frozen V2.out 1
      have q0 := (blk_cell V3.out 0).trans rfl; have q1 := (blk_cell V3.out 1).trans rfl
      have fq0 := blk_frozen V3.out 0; have fq1 := blk_frozen V3.out 1
      have P4 := Aside0.mk (put_two (n := w.heap.size) (w := w) (.slice AH H.length cH) (.slice AW Wt.length cW) V2.out B.out (by omega))
      have G5' := Aside0.mk (two_far (.slice AH H.length cH) (.slice AW Wt.length cW) V3.out V2.out (by decide))
      have P5 := Aside0.mk (put_two (n := w.heap.size) (w := w) (.slice none 0 0) (.slice none 0 0) G5'.out P4.out.2 (by omega))
      have P6 := Aside0.mk (two_far (.slice none 0 0) (.slice none 0 0) P4.out.1 G5'.out (by decide))
      go_wp2
      refine bodyPost_ret (results_cells3 rfl rfl rfl (loadVar_two 29 (by kernel_rfl) (by kernel_rfl) P6.out) (loadVar_two 33 (by kernel_rfl) (by kernel_rfl) P5.out.1)) rfl ?_
      show DoneP w _ (doneR H Wt a).1 (doneR H Wt a).2 _ _
      rw [HR.out]
      exact ⟨.agg #[], .agg #[], P5.out.2, .inr ⟨HNE.out, rfl⟩⟩
end Go.Proofs.Ytifnfnoicinbaaa.M
