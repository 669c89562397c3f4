/- lock.Ask. -/
import Derived.Test.YtifnfnoicinbaaaC1
namespace Go.Proofs.Ytifnfnoicinbaaa.M
open Go.RowKit Go.Proofs.YtifnfnoicinbaaaW.PrintWords Go.Proofs.YtifnfnoicinbaaaW.PrintLast Go.Proofs.YtifnfnoicinbaaaW.PrintMore
set_option linter.unusedVariables false
set_option linter.unusedSimpArgs false
set_option linter.unnecessarySimpa false

set_option maxRecDepth 100000 in
set_option maxHeartbeats 2000000 in
theorem ask_calls (AH AW : Option Addr) (cH cW : Nat) (H Wt : List S24) (l : S24) (w : World) (hH : k24.C w AH H.length H) (hW : k24.C w AW Wt.length Wt) (hlen : H.length + Wt.length ≤ 1000) :
    Calls Try.prog 18 #[.agg #[.slice AH H.length cH, .slice AW Wt.length cW], .agg #[.int .i64 l.f0, .int .i64 l.f1, .int .i64 l.f2, .int .i64 l.f3, .bool l.f4]] w fun e w' => RetN w (askF H Wt l).1 (askF H Wt l).2 e w' := by
  have HH := Aside0.mk hH
  have HW := Aside0.mk hW
  clear hH hW
  go_enter Try.func18, Try.ntmps18
  go_upto_region 1 with (fail)
  have hb_ := below_alloc (below_alloc (below_alloc (below_alloc (Below.refl _ w) (.cells #[.slice AH H.length cH, .slice AW Wt.length cW] 29)) (.cells #[.int .i64 l.f0, .int .i64 l.f1, .int .i64 l.f2, .int .i64 l.f3, .bool l.f4] 24)) (.cells #[.slice none 0 0, .slice none 0 0] 29)) (.cells #[.slice none 0 0, .slice none 0 0] 33)
  have hG0_ := blk_alloc (blk_alloc (blk_alloc (blk_lit0 w (.cells #[.slice AH H.length cH, .slice AW Wt.length cW] 29)) (.cells #[.int .i64 l.f0, .int .i64 l.f1, .int .i64 l.f2, .int .i64 l.f3, .bool l.f4] 24)) (.cells #[.slice none 0 0, .slice none 0 0] 29)) (.cells #[.slice none 0 0, .slice none 0 0] 33)
  have hG1_ := blk_alloc (blk_alloc (blk_lit w (.cells #[.slice AH H.length cH, .slice AW Wt.length cW] 29) (.cells #[.int .i64 l.f0, .int .i64 l.f1, .int .i64 l.f2, .int .i64 l.f3, .bool l.f4] 24)) (.cells #[.slice none 0 0, .slice none 0 0] 29)) (.cells #[.slice none 0 0, .slice none 0 0] 33)
  have hG2_ := blk_alloc (blk_lit2 w (.cells #[.slice AH H.length cH, .slice AW Wt.length cW] 29) (.cells #[.int .i64 l.f0, .int .i64 l.f1, .int .i64 l.f2, .int .i64 l.f3, .bool l.f4] 24) (.cells #[.slice none 0 0, .slice none 0 0] 29)) (.cells #[.slice none 0 0, .slice none 0 0] 33)
  have hG3_ := blk_lit3 w (.cells #[.slice AH H.length cH, .slice AW Wt.length cW] 29) (.cells #[.int .i64 l.f0, .int .i64 l.f1, .int .i64 l.f2, .int .i64 l.f3, .bool l.f4] 24) (.cells #[.slice none 0 0, .slice none 0 0] 29) (.cells #[.slice none 0 0, .slice none 0 0] 33)
  generalize ((((w.alloc (.cells #[.slice AH H.length cH, .slice AW Wt.length cW] 29)).alloc (.cells #[.int .i64 l.f0, .int .i64 l.f1, .int .i64 l.f2, .int .i64 l.f3, .bool l.f4] 24)).alloc (.cells #[.slice none 0 0, .slice none 0 0] 29)).alloc (.cells #[.slice none 0 0, .slice none 0 0] 33)) = W at hb_ hG0_ hG1_ hG2_ hG3_ ⊢
  have HB_W := Aside0.mk hb_
  have W0 := Aside0.mk hG0_
  have W1 := Aside0.mk hG1_
  have W2 := Aside0.mk hG2_
  have W3 := Aside0.mk hG3_
  clear hb_ hG0_ hG1_ hG2_ hG3_
  have HHW := Aside0.mk (Kd.C_below HH.out HB_W.out)
  have HWW := Aside0.mk (Kd.C_below HW.out HB_W.out)
  have K4 := Aside0.mk (show w.heap.size + 1 + 1 < W.heap.size ∧ w.heap.size + 1 + 1 + 1 < W.heap.size from ⟨blk_lt W2.out, blk_lt W3.out⟩)
  have K1 := Aside0.mk (show w.heap.size + 1 < W.heap.size from blk_lt W1.out)
  have x0 := (blk_cell W0.out 0).trans rfl
  have x1 := (blk_cell W0.out 1).trans rfl
  have y0 := (blk_cell W1.out 0).trans rfl; have y1 := (blk_cell W1.out 1).trans rfl; have y2 := (blk_cell W1.out 2).trans rfl; have y3 := (blk_cell W1.out 3).trans rfl; have y4 := (blk_cell W1.out 4).trans rfl
  by_cases hz : reqE H Wt l = 0
  rotate_left
  · have HZ := Aside0.mk hz
    have HE := Aside0.mk (show askF H Wt l = (([], [], [], []), reqE H Wt l) by unfold askF; rw [if_neg hz])
    have hnb : (reqE H Wt l == 0) = false := by simpa using hz
    clear hz
    go_upto_region 3 with ((with_reducible refine gate_dst (N := 14) rfl ?_); refine goesL_ (some 14) rfl rfl Try.func45 (by kernel_rfl) rfl #[.agg #[.slice AH H.length cH, .slice AW Wt.length cW], .agg #[.int .i64 l.f0, .int .i64 l.f1, .int .i64 l.f2, .int .i64 l.f3, .bool l.f4]] rfl (by (try simp only [List.map_toArray, List.map_cons, List.map_nil]); first | done | rfl) ?_; refine (request_calls AH AW cH cW H Wt l _ HHW.out HWW.out hlen).mono ?_; rintro e w4 hp; obtain ⟨rfl, hb⟩ := hp.bad HZ.out; refine ⟨_, rfl, ?_⟩; have HB4 := Aside0.mk (below_step HB_W.out hb); have E2 := Aside0.mk (blk_below W2.out hb); have E3 := Aside0.mk (blk_below W3.out hb); clear hb hp x0 x1 y0 y1 y2 y3 y4)
    generalize reqE H Wt l = E at HE hnb HZ ⊢
    have r0 := (blk_cell E2.out 0).trans rfl; have r1 := (blk_cell E2.out 1).trans rfl
    have fr0 := blk_frozen E2.out 0; have fr1 := blk_frozen E2.out 1
    have s0 := (blk_cell E3.out 0).trans rfl; have s1 := (blk_cell E3.out 1).trans rfl
    have fs0 := blk_frozen E3.out 0; have fs1 := blk_frozen E3.out 1
    have P4 := Aside0.mk (put_two (n := w.heap.size) (w := w) (.slice none 0 0) (.slice none 0 0) E2.out HB4.out (by omega))
    have P5 := Aside0.mk (put_two (n := w.heap.size) (w := w) (.slice none 0 0) (.slice none 0 0) (two_far (.slice none 0 0) (.slice none 0 0) E3.out E2.out (by decide)) P4.out.2 (by omega))
    have P6 := Aside0.mk (two_far (.slice none 0 0) (.slice none 0 0) P4.out.1 (two_far (.slice none 0 0) (.slice none 0 0) E3.out E2.out (by decide)) (by decide))
    go_wp2
    refine bodyPost_ret (results_cells3 rfl rfl rfl (loadVar_two 29 (by kernel_rfl) (by kernel_rfl) P6.out) (loadVar_two 33 (by kernel_rfl) (by kernel_rfl) P5.out.1)) rfl ?_
    show RetN w (askF H Wt l).1 (askF H Wt l).2 _ _
    rw [HE.out]
    exact ⟨_, _, rfl, tabV_nil _ _, newsV_nil _ _, P5.out.2⟩
  · have HZ := Aside0.mk hz
    have HE0 := Aside0.mk (show askF H Wt l = (settleL H (Wt ++ [l]), 0) by unfold askF; rw [if_pos hz])
    have HGG := Aside0.mk (req_good hz)
    clear hz
    go_upto_region 4 with ((with_reducible refine gate_dst (N := 14) rfl ?_); refine goesL_ (some 14) rfl rfl Try.func45 (by kernel_rfl) rfl #[.agg #[.slice AH H.length cH, .slice AW Wt.length cW], .agg #[.int .i64 l.f0, .int .i64 l.f1, .int .i64 l.f2, .int .i64 l.f3, .bool l.f4]] rfl (by (try simp only [List.map_toArray, List.map_cons, List.map_nil]); first | done | rfl) ?_; refine (request_calls AH AW cH cW H Wt l _ HHW.out HWW.out hlen).mono ?_; rintro e w4 hp; obtain ⟨q, rfl, hT, hb⟩ := hp.good HZ.out; refine ⟨_, rfl, ?_⟩; have HT := Aside0.mk hT; have HB4 := Aside0.mk hb; have E1 := Aside0.mk (blk_below W1.out hb); have E2 := Aside0.mk (blk_below W2.out hb); have E3 := Aside0.mk (blk_below W3.out hb); clear hb hp hT x0 x1 y0 y1 y2 y3 y4)
    obtain ⟨vH, vW, vG, vN, hX⟩ := HT.out.x
    refine start_ (n := 13) (S := fun w' => w'.cell? ⟨q, 1, none⟩ = some vW ∧ w'.cell? ⟨w.heap.size + 1, 0, none⟩ = some (.int .i64 l.f0) ∧ w'.cell? ⟨w.heap.size + 1, 1, none⟩ = some (.int .i64 l.f1) ∧ w'.cell? ⟨w.heap.size + 1, 2, none⟩ = some (.int .i64 l.f2) ∧ w'.cell? ⟨w.heap.size + 1, 3, none⟩ = some (.int .i64 l.f3) ∧ w'.cell? ⟨w.heap.size + 1, 4, none⟩ = some (.bool l.f4)) (ds := [12]) #[false, false, false, false, false, false, false, false, false, false, false, false, false] (by kernel_rfl) rfl rfl ⟨(blk_cell (blk_drew hX.bq) 1).trans rfl, (blk_cell (blk_drew E1.out) 0).trans rfl, (blk_cell (blk_drew E1.out) 1).trans rfl, (blk_cell (blk_drew E1.out) 2).trans rfl, (blk_cell (blk_drew E1.out) 3).trans rfl, (blk_cell (blk_drew E1.out) 4).trans rfl⟩ (fun hHeld => ?_)
    have hbd := below_drew1 (Below.refl w4.heap.size w4)
    have HX5 := Aside0.mk (hX.below hbd)
    have HB5 := Aside0.mk (below_step HB4.out hbd)
    have E1 := Aside0.mk (blk_below E1.out hbd)
    have E2 := Aside0.mk (blk_below E2.out hbd)
    have E3 := Aside0.mk (blk_below E3.out hbd)
    clear hbd hX HB4 HT
    generalize w4.drew = wd at HX5 HB5 E1 E2 E3 hHeld ⊢
    refine pure_ (i := 0) (N := some 22) (v := ?_) (a' := ?_) #[true, false, false, false, false, false, false, false, false, false, false, false, false] rfl rfl (by kernel_rfl) (fun _ _ _ h => h) (Or.inl ⟨by rfl, ?_⟩) ?_ ?_
    rotate_left
    · intro w'
      go_simp
      with_reducible rfl
    rotate_left
    · simp only [Act.put, List.setIfInBounds_toArray, List.set_cons_zero, List.set_cons_succ, i64_w, i32_w]
      rfl
    refine pure_ (i := 1) (N := some 23) (v := ?_) (a' := ?_) #[true, true, false, false, false, false, false, false, false, false, false, false, false] rfl rfl (by kernel_rfl) (fun _ _ _ h => h) (Or.inl ⟨by rfl, ?_⟩) ?_ ?_
    rotate_left
    · intro w'
      go_simp
      with_reducible rfl
    rotate_left
    · simp only [Act.put, List.setIfInBounds_toArray, List.set_cons_zero, List.set_cons_succ, i64_w, i32_w]
      rfl
    refine pure_ (i := 2) (N := some 24) (v := ?_) (a' := ?_) #[true, true, true, false, false, false, false, false, false, false, false, false, false] rfl rfl (by kernel_rfl) (fun _ _ _ h => h) (Or.inl ⟨by rfl, ?_⟩) ?_ ?_
    rotate_left
    · intro w'
      go_simp
      with_reducible rfl
    rotate_left
    · simp only [Act.put, List.setIfInBounds_toArray, List.set_cons_zero, List.set_cons_succ, i64_w, i32_w]
      rfl
    refine pure_ (i := 3) (N := some 25) (v := ?_) (a' := ?_) #[true, true, true, true, false, false, false, false, false, false, false, false, false] rfl rfl (by kernel_rfl) (fun _ _ _ h => h) (Or.inl ⟨by rfl, ?_⟩) ?_ ?_
    rotate_left
    · intro w'
      go_simp
      with_reducible rfl
    rotate_left
    · simp only [Act.put, List.setIfInBounds_toArray, List.set_cons_zero, List.set_cons_succ, i64_w, i32_w]
      rfl
    refine pure_ (i := 4) (N := some 26) (v := ?_) (a' := ?_) #[true, true, true, true, true, false, false, false, false, false, false, false, false] rfl rfl (by kernel_rfl) (fun _ _ _ h => h) (Or.inl ⟨by rfl, ?_⟩) ?_ ?_
    rotate_left
    · intro w'
      go_simp
      with_reducible rfl
    rotate_left
    · simp only [Act.put, List.setIfInBounds_toArray, List.set_cons_zero, List.set_cons_succ, i64_w, i32_w]
      rfl
    refine take_ (i := 5) (N := some 27) (v := ?_) (a' := ?_) #[true, true, true, true, true, true, false, false, false, false, false, false, false] rfl rfl (by kernel_rfl) (fun _ _ _ h => h) (Or.inl ⟨by rfl, ?_⟩) hHeld ?_ ?_
    rotate_left
    · rintro w' ⟨s0, s1, s2, s3, s4, s5⟩
      go_simp
      with_reducible rfl
    rotate_left
    · simp only [Act.put, List.setIfInBounds_toArray, List.set_cons_zero, List.set_cons_succ, i64_w, i32_w]
      rfl
    refine take_ (i := 6) (N := some 28) (v := ?_) (a' := ?_) #[true, true, true, true, true, true, true, false, false, false, false, false, false] rfl rfl (by kernel_rfl) (fun _ _ _ h => h) (Or.inl ⟨by rfl, ?_⟩) hHeld ?_ ?_
    rotate_left
    · rintro w' ⟨s0, s1, s2, s3, s4, s5⟩
      go_simp
      with_reducible rfl
    rotate_left
    · simp only [Act.put, List.setIfInBounds_toArray, List.set_cons_zero, List.set_cons_succ, i64_w, i32_w]
      rfl
    refine one_ (i := 7) (N := some 29) #[true, true, true, true, true, true, true, true, false, false, false, false, false] rfl rfl (by kernel_rfl) (by decide) (fun K hK => ?_)
    refine event_step (v := .slice (some ⟨(wd).heap.size, 0, none⟩) 1 1) (w1 := (wd).alloc (.cells #[.int .i64 l.f0, .int .i64 l.f1, .int .i64 l.f2, .int .i64 l.f3, .bool l.f4] 24)) (by rfl) (by first | (go_simp; done) | (go_simp; rfl)) ?_
    refine hK.out _ _ ⟨(blk_cell (blk_alloc HX5.out.bq _) 1).trans rfl, (blk_cell (blk_alloc E1.out _) 0).trans rfl, (blk_cell (blk_alloc E1.out _) 1).trans rfl, (blk_cell (blk_alloc E1.out _) 2).trans rfl, (blk_cell (blk_alloc E1.out _) 3).trans rfl, (blk_cell (blk_alloc E1.out _) 4).trans rfl⟩ (fun hHeld => ?_)
    clear hK K
    refine norm_ (a' := ?_) ?_ ?_
    rotate_left
    · show Act.put _ (some 29) _ = _
      simp only [Act.put, List.setIfInBounds_toArray, List.set_cons_zero, List.set_cons_succ, i64_w, i32_w]
      rfl
    refine one_ (i := 8) (N := some 30) #[true, true, true, true, true, true, true, true, true, false, false, false, false] rfl rfl (by kernel_rfl) (by decide) (fun K hK => ?_)
    refine Kd.R_append_step k24 (w0 := _) W.heap.size (by rfl) (.tmp 27) (.tmp 29) 27 24 (.agg #[(.int .i64 0), (.int .i64 0), (.int .i64 0), (.int .i64 0), (.bool false)]) 40 rfl Try.underlying27 info24 rfl (by decide) (by omega) vW (Wt) (l) [.int .i64 (l).f0, .int .i64 (l).f1, .int .i64 (l).f2, .int .i64 (l).f3, .bool (l).f4] (fun _ => True) (fun _ => False) rfl rfl (k24_mkM _ _ _ _) (fun _ hk => hk.elim) (fun _ _ => trivial) (HX5.out.rW) (HB5.out) (HB5.out.size) (by have := hlen; omega) ?_
    intro v8 w8 ho hb hg hat
    obtain ⟨LL, hLL⟩ : ∃ LL, LL = Wt ++ [l] := ⟨_, rfl⟩
    rw [← hLL] at ho
    have HLL := Aside0.mk hLL
    obtain ⟨A8, c8, rfl⟩ := Kd.R_slice ho
    have HRH := Aside0.mk ho
    have HGH := Aside0.mk hg
    have HAT := Aside0.mk hat
    have HQ8 := Aside0.mk (blk_grown HX5.out.bq hg (Kd.R_ne HX5.out.rW HX5.out.bq (by decide)))
    have E1 := Aside0.mk (blk_grown E1.out hg (fun e => by have h1 := Kd.R_base HX5.out.rW _ e.symm; have h2 := K1.out; omega))
    clear ho hb hg hat hLL
    refine hK.out _ _ ⟨(blk_cell HQ8.out 1).trans rfl, (blk_cell (E1.out) 0).trans rfl, (blk_cell (E1.out) 1).trans rfl, (blk_cell (E1.out) 2).trans rfl, (blk_cell (E1.out) 3).trans rfl, (blk_cell (E1.out) 4).trans rfl⟩ (fun hHeld => ?_)
    clear hK K
    refine norm_ (a' := ?_) ?_ ?_
    rotate_left
    · show Act.put _ (some 30) _ = _
      simp only [Act.put, List.setIfInBounds_toArray, List.set_cons_zero, List.set_cons_succ, i64_w, i32_w]
      rfl
    refine pure_ (i := 9) (N := some 31) (v := ?_) (a' := ?_) #[true, true, true, true, true, true, true, true, true, true, false, false, false] rfl rfl (by kernel_rfl) (fun _ _ _ h => h) (Or.inl ⟨by rfl, ?_⟩) ?_ ?_
    rotate_left
    · intro w'
      go_simp
      with_reducible rfl
    rotate_left
    · simp only [Act.put, List.setIfInBounds_toArray, List.set_cons_zero, List.set_cons_succ, i64_w, i32_w]
      rfl
    refine pure_ (i := 10) (N := some 32) (v := ?_) (a' := ?_) #[true, true, true, true, true, true, true, true, true, true, true, false, false] rfl rfl (by kernel_rfl) (fun _ _ _ h => h) (Or.inl ⟨by rfl, ?_⟩) ?_ ?_
    rotate_left
    · intro w'
      go_simp
      with_reducible rfl
    rotate_left
    · simp only [Act.put, List.setIfInBounds_toArray, List.set_cons_zero, List.set_cons_succ, i64_w, i32_w]
      rfl
    refine pure_ (i := 11) (N := some 33) (v := ?_) (a' := ?_) #[true, true, true, true, true, true, true, true, true, true, true, true, false] rfl rfl (by kernel_rfl) (fun _ _ _ h => h) (Or.inl ⟨by rfl, ?_⟩) ?_ ?_
    rotate_left
    · intro w'
      go_simp
      with_reducible rfl
    rotate_left
    · simp only [Act.put, List.setIfInBounds_toArray, List.set_cons_zero, List.set_cons_succ, i64_w, i32_w]
      rfl
    have z0 := (blk_cell HQ8.out 0).trans rfl; have z1 := (blk_cell HQ8.out 1).trans rfl; have z2 := (blk_cell HQ8.out 2).trans rfl; have z3 := (blk_cell HQ8.out 3).trans rfl
    have fz0 := blk_frozen HQ8.out 0; have fz1 := blk_frozen HQ8.out 1; have fz2 := blk_frozen HQ8.out 2; have fz3 := blk_frozen HQ8.out 3
    refine last_ (i := 12) (N := none) #[true, true, true, true, true, true, true, true, true, true, true, true, true] rfl rfl (by kernel_rfl) (by decide) (fun K hK => ?_)
    refine skip_ (w1 := ?_) (by rfl) rfl ?_ ?_
    rotate_left
    · go_simp
      rfl
    refine hK.out _ _ ?_
    clear hK K
    refine done_ (by kernel_rfl) ?_
    have HX7 := Aside0.mk (HX5.out.setW HRH.out HGH.out HAT.out)
    have HB7 := Aside0.mk (below_row HX5.out.rW HB5.out HB5.out.size HGH.out HX5.out.hq 1 (.slice A8 LL.length c8))
    have G2 := Aside0.mk ((below_row HX5.out.rW (Below.refl _ wd |>.mono HB5.out.size) HB5.out.size HGH.out HX5.out.hq 1 (.slice A8 LL.length c8)).block _ K4.out.1 |>.trans E2.out)
    have G3 := Aside0.mk ((below_row HX5.out.rW (Below.refl _ wd |>.mono HB5.out.size) HB5.out.size HGH.out HX5.out.hq 1 (.slice A8 LL.length c8)).block _ K4.out.2 |>.trans E3.out)
    clear HX5 HB5 HRH HGH HAT HQ8 hHeld z0 z1 z2 z3 fz0 fz1 fz2 fz3
    generalize w8.setCell ⟨q, 1, none⟩ (.slice A8 LL.length c8) = w9 at HX7 HB7 G2 G3 ⊢
    have HTO := Aside0.mk HX7.out.o
    rw [← HLL.out] at HGG HE0
    obtain ⟨⟨H5, W5, G5, N5⟩, hR⟩ : ∃ R, R = PL.settle hdL mtL (H) (LL) := ⟨_, rfl⟩
    have hset := settle_calls q W.heap.size (H) (LL) w9 HTO.out HGG.out HB7.out.size
    rw [← hR] at hset
    have HSET := Aside0.mk hset
    have HE := Aside0.mk (show askF H Wt l = ((H5, W5, G5, N5), 0) from HE0.out.trans (by rw [hR]))
    clear hset hR
    go_upto_region 6 with ((with_reducible refine gate_dst (N := 36) rfl ?_); refine goesL_ (some 36) rfl rfl Try.func46 (by kernel_rfl) rfl #[.pointer (some ⟨q, 0, none⟩)] rfl (by (try simp only [List.map_toArray, List.map_cons, List.map_nil]); first | done | rfl) ?_; refine HSET.out.mono ?_; rintro e w5 ⟨vH, vW, vG, vN, rfl, rH, rW, rG, rN, hb⟩; dsimp only at rH rW rG rN; obtain ⟨A1, c1, rfl⟩ := Kd.R_slice rH; obtain ⟨A2, c2, rfl⟩ := Kd.R_slice rW; obtain ⟨A3, c3, rfl⟩ := Kd.R_slice rG; obtain ⟨A4, c4, rfl⟩ := Kd.R_slice rN; refine ⟨_, rfl, ?_⟩; have R1 := Aside0.mk rH; have R2 := Aside0.mk rW; have R3 := Aside0.mk rG; have R4 := Aside0.mk rN; have HB5 := Aside0.mk hb; clear rH rW rG rN hb)
    have F4 := Aside0.mk ((HB5.out.block _ K4.out.1).trans G2.out)
    have F5 := Aside0.mk ((HB5.out.block _ K4.out.2).trans G3.out)
    have HBW5 := Aside0.mk (HB_W.out.trans ((HB7.out.trans HB5.out).mono HB_W.out.size))
    have hb_ := below_alloc (below_alloc (Below.refl _ w5) (.cells #[.slice A1 H5.length c1, .slice A2 W5.length c2] 29)) (.cells #[.slice A3 G5.length c3, .slice A4 N5.length c4] 33)
    have hG0_ := blk_alloc (blk_lit0 w5 (.cells #[.slice A1 H5.length c1, .slice A2 W5.length c2] 29)) (.cells #[.slice A3 G5.length c3, .slice A4 N5.length c4] 33)
    have hG1_ := blk_lit w5 (.cells #[.slice A1 H5.length c1, .slice A2 W5.length c2] 29) (.cells #[.slice A3 G5.length c3, .slice A4 N5.length c4] 33)
    generalize ((w5.alloc (.cells #[.slice A1 H5.length c1, .slice A2 W5.length c2] 29)).alloc (.cells #[.slice A3 G5.length c3, .slice A4 N5.length c4] 33)) = X at hb_ hG0_ hG1_ ⊢
    have HB_X := Aside0.mk hb_
    have X0 := Aside0.mk hG0_
    have X1 := Aside0.mk hG1_
    clear hb_ hG0_ hG1_
    refine start_ (n := 5) (S := fun w' => w'.cell? ⟨w5.heap.size, 0, none⟩ = some (.slice A1 H5.length c1) ∧ w'.cell? ⟨w5.heap.size, 1, none⟩ = some (.slice A2 W5.length c2) ∧ w'.cell? ⟨w5.heap.size + 1, 0, none⟩ = some (.slice A3 G5.length c3) ∧ w'.cell? ⟨w5.heap.size + 1, 1, none⟩ = some (.slice A4 N5.length c4)) (ds := [3]) #[false, false, false, false, false] (by kernel_rfl) rfl rfl ⟨(blk_cell (blk_drew X0.out) 0).trans rfl, (blk_cell (blk_drew X0.out) 1).trans rfl, (blk_cell (blk_drew X1.out) 0).trans rfl, (blk_cell (blk_drew X1.out) 1).trans rfl⟩ (fun hHeld => ?_)
    have hbd := below_drew1 HB_X.out
    have Q1 := Aside0.mk (Kd.R_below R1.out hbd)
    have Q2 := Aside0.mk (Kd.R_below R2.out hbd)
    have Q3 := Aside0.mk (Kd.R_below R3.out hbd)
    have Q4 := Aside0.mk (Kd.R_below R4.out hbd)
    have L4 := Aside0.mk (blk_lt F4.out)
    have L5 := Aside0.mk (blk_lt F5.out)
    have F4 := Aside0.mk (blk_below F4.out hbd)
    have F5 := Aside0.mk (blk_below F5.out hbd)
    have HBW6 := Aside0.mk (below_step HBW5.out hbd)
    have Y0 := Aside0.mk (blk_drew X0.out)
    have Y1 := Aside0.mk (blk_drew X1.out)
    clear hbd R1 R2 R3 R4 HB5 HBW5 X0 X1 HB_X
    generalize X.drew = x6 at Q1 Q2 Q3 Q4 F4 F5 HBW6 Y0 Y1 hHeld ⊢
    refine take_ (i := 0) (N := some 39) (v := ?_) (a' := ?_) #[true, false, false, false, false] rfl rfl (by kernel_rfl) (fun _ _ _ h => h) (Or.inl ⟨by rfl, ?_⟩) hHeld ?_ ?_
    rotate_left
    · rintro w' ⟨s0, s1, s2, s3⟩
      go_simp
      with_reducible rfl
    rotate_left
    · simp only [Act.put, List.setIfInBounds_toArray, List.set_cons_zero, List.set_cons_succ, i64_w, i32_w]
      rfl
    refine take_ (i := 1) (N := some 40) (v := ?_) (a' := ?_) #[true, true, false, false, false] rfl rfl (by kernel_rfl) (fun _ _ _ h => h) (Or.inl ⟨by rfl, ?_⟩) hHeld ?_ ?_
    rotate_left
    · rintro w' ⟨s0, s1, s2, s3⟩
      go_simp
      with_reducible rfl
    rotate_left
    · simp only [Act.put, List.setIfInBounds_toArray, List.set_cons_zero, List.set_cons_succ, i64_w, i32_w]
      rfl
    have r0 := (blk_cell F4.out 0).trans rfl; have r1 := (blk_cell F4.out 1).trans rfl
    have fr0 := blk_frozen F4.out 0; have fr1 := blk_frozen F4.out 1
    refine one_ (i := 2) (N := none) #[true, true, true, false, false] rfl rfl (by kernel_rfl) (by decide) (fun K hK => ?_)
    refine skip_ (w1 := ?_) (by rfl) rfl ?_ ?_
    rotate_left
    · go_simp
      rfl
    clear r0 r1 fr0 fr1
    have P4 := Aside0.mk (put_two (n := w.heap.size) (w := w) (.slice A1 H5.length c1) (.slice A2 W5.length c2) F4.out HBW6.out (by omega))
    have G5' := Aside0.mk (two_far (.slice A1 H5.length c1) (.slice A2 W5.length c2) F5.out F4.out (by decide))
    have S1 := Aside0.mk (R_two (.slice A1 H5.length c1) (.slice A2 W5.length c2) Q1.out F4.out (by decide))
    have S2 := Aside0.mk (R_two (.slice A1 H5.length c1) (.slice A2 W5.length c2) Q2.out F4.out (by decide))
    have S3 := Aside0.mk (R_two (.slice A1 H5.length c1) (.slice A2 W5.length c2) Q3.out F4.out (by decide))
    have S4 := Aside0.mk (R_two (.slice A1 H5.length c1) (.slice A2 W5.length c2) Q4.out F4.out (by decide))
    have Z0 := Aside0.mk (blk_far (blk_far Y0.out (p := ⟨w.heap.size + 1 + 1, 0, none⟩) (show w5.heap.size ≠ w.heap.size + 1 + 1 by have := L4.out; omega) (.slice A1 H5.length c1)) (p := ⟨w.heap.size + 1 + 1, 1, none⟩) (show w5.heap.size ≠ w.heap.size + 1 + 1 by have := L4.out; omega) (.slice A2 W5.length c2))
    have Z1 := Aside0.mk (blk_far (blk_far Y1.out (p := ⟨w.heap.size + 1 + 1, 0, none⟩) (show w5.heap.size + 1 ≠ w.heap.size + 1 + 1 by have := L4.out; omega) (.slice A1 H5.length c1)) (p := ⟨w.heap.size + 1 + 1, 1, none⟩) (show w5.heap.size + 1 ≠ w.heap.size + 1 + 1 by have := L4.out; omega) (.slice A2 W5.length c2))
    clear Q1 Q2 Q3 Q4 F4 F5 HBW6 Y0 Y1
    generalize (x6.setCell ⟨w.heap.size + 1 + 1, 0, none⟩ (.slice A1 H5.length c1)).setCell ⟨w.heap.size + 1 + 1, 1, none⟩ (.slice A2 W5.length c2) = x7 at P4 G5' S1 S2 S3 S4 Z0 Z1 ⊢
    refine hK.out _ _ ⟨(blk_cell Z0.out 0).trans rfl, (blk_cell Z0.out 1).trans rfl, (blk_cell Z1.out 0).trans rfl, (blk_cell Z1.out 1).trans rfl⟩ (fun hHeld => ?_)
    clear hK K
    skip
    have r0 := (blk_cell G5'.out 0).trans rfl; have r1 := (blk_cell G5'.out 1).trans rfl
    have fr0 := blk_frozen G5'.out 0; have fr1 := blk_frozen G5'.out 1
    refine last_ (i := 3) (N := none) #[true, true, true, true, false] rfl rfl (by kernel_rfl) (by decide) (fun K hK => ?_)
    refine skip_ (w1 := ?_) (by rfl) rfl ?_ ?_
    rotate_left
    · go_simp
      rfl
    refine hK.out _ _ ?_
    clear hK K hHeld r0 r1 fr0 fr1
    have P5 := Aside0.mk (put_two (n := w.heap.size) (w := w) (.slice A3 G5.length c3) (.slice A4 N5.length c4) G5'.out P4.out.2 (by omega))
    have P6 := Aside0.mk (two_far (.slice A3 G5.length c3) (.slice A4 N5.length c4) P4.out.1 G5'.out (by decide))
    have T1 := Aside0.mk (R_two (.slice A3 G5.length c3) (.slice A4 N5.length c4) S1.out G5'.out (by decide))
    have T2 := Aside0.mk (R_two (.slice A3 G5.length c3) (.slice A4 N5.length c4) S2.out G5'.out (by decide))
    have T3 := Aside0.mk (R_two (.slice A3 G5.length c3) (.slice A4 N5.length c4) S3.out G5'.out (by decide))
    have T4 := Aside0.mk (R_two (.slice A3 G5.length c3) (.slice A4 N5.length c4) S4.out G5'.out (by decide))
    clear P4 G5' S1 S2 S3 S4 Z0 Z1
    generalize (x7.setCell ⟨w.heap.size + 1 + 1 + 1, 0, none⟩ (.slice A3 G5.length c3)).setCell ⟨w.heap.size + 1 + 1 + 1, 1, none⟩ (.slice A4 N5.length c4) = x8 at P5 P6 T1 T2 T3 T4 ⊢
    skip
    refine pure_ (i := 4) (N := some 6) (v := ?_) (a' := ?_) #[true, true, true, true, true] rfl rfl (by kernel_rfl) (fun _ _ _ h => h) (Or.inl ⟨by rfl, ?_⟩) ?_ ?_
    rotate_left
    · intro w'
      go_simp
      with_reducible rfl
    rotate_left
    · simp only [Act.put, List.setIfInBounds_toArray, List.set_cons_zero, List.set_cons_succ, i64_w, i32_w]
      rfl
    refine done_ (by kernel_rfl) ?_
    go_wp2
    refine bodyPost_ret (results_cells3 rfl rfl rfl (loadVar_two 29 (by kernel_rfl) (by kernel_rfl) P6.out) (loadVar_two 33 (by kernel_rfl) (by kernel_rfl) P5.out.1)) rfl ?_
    show RetN w (askF H Wt l).1 (askF H Wt l).2 _ _
    rw [HE.out]
    exact ⟨_, _, rfl, ⟨_, _, rfl, Kd.R_lower T1.out HB_W.out.size, Kd.R_lower T2.out HB_W.out.size⟩, ⟨_, _, rfl, Kd.R_lower T3.out HB_W.out.size, Kd.R_lower T4.out HB_W.out.size⟩, P5.out.2⟩
end Go.Proofs.Ytifnfnoicinbaaa.M
