/- lock.Close. -/
import Derived.Test.YtifnfnoicinbaaaC1
namespace Go.Proofs.Ytifnfnoicinbaaa.M
open Go.RowKit Go.Proofs.YtifnfnoicinbaaaW.PrintWords Go.Proofs.YtifnfnoicinbaaaW.PrintLast Go.Proofs.YtifnfnoicinbaaaW.PrintMore
set_option linter.unusedVariables false
set_option linter.unusedSimpArgs false
set_option linter.unnecessarySimpa false

set_option maxRecDepth 100000 in
set_option maxHeartbeats 2000000 in
theorem isNot_calls (g : Nat) (h : Int) (x : S24) (w : World) (hg : w.heap[g]? = some (.cells #[.int .i64 h] 3 (0, 0))) : Calls Try.prog 71 #[.agg #[.int .i64 x.f0, .int .i64 x.f1, .int .i64 x.f2, .int .i64 x.f3, .bool x.f4], .pointer (some ⟨g, 0, none⟩)] w fun e w' => e = .returned (.bool (!(hdL x == h))) ∧ Below w.heap.size w w' := by
  have g0 := (blk_cell hg 0).trans rfl
  have lg := blk_lt hg
  clear hg
  go_enter Try.func71, Try.ntmps71
  go_wp2
  go_ret
  exact ⟨by first | rfl | (simp [hdL, bne]; done), below_alloc (Below.refl _ _) _⟩
theorem TabX.both {w w6 : World} {base q : Nat} {vH vW vG vN v5 v6 : Value} {H Wt H5 W6 : List S24} {G N : List Int} (h : TabX w base q vH vW vG vN H Wt G N) (hb : Below w.heap.size w w6) (r5 : k24.R 24 w6 base (fun k => some k ≠ v6.ownBlock) v5 H5) (r6 : k24.R 24 w6 base (fun _ => True) v6 W6) :
    TabX ((w6.setCell ⟨q, 0, none⟩ v5).setCell ⟨q, 1, none⟩ v6) base q v5 v6 vG vN H5 W6 G N := by
  have hb1 := blk_below h.bq hb
  have hb2 := blk_put hb1 0 v5 rfl
  refine ⟨blk_put hb2 1 v6 rfl, h.hq, ?_, ?_, ?_, ?_, r5.1, h.dGN⟩
  · exact Kd.R_set (Kd.R_set (Kd.R_mono r5 (fun _ _ => trivial)) hb1 (by decide) 0 v5) hb2 (by decide) 1 v6
  · exact Kd.R_set (Kd.R_set r6 hb1 (by decide) 0 v5) hb2 (by decide) 1 v6
  · exact Kd.R_set (Kd.R_set (Kd.R_below h.rG hb) hb1 (by decide) 0 v5) hb2 (by decide) 1 v6
  · exact Kd.R_set (Kd.R_set (Kd.R_below h.rN hb) hb1 (by decide) 0 v5) hb2 (by decide) 1 v6
set_option maxRecDepth 100000 in
set_option maxHeartbeats 2000000 in
theorem close_calls (AH AW : Option Addr) (cH cW : Nat) (H Wt : List S24) (h : Int) (w : World) (hH : k24.C w AH H.length H) (hW : k24.C w AW Wt.length Wt) (hlen : H.length + Wt.length ≤ 1000) :
    Calls Try.prog 40 #[.agg #[.slice AH H.length cH, .slice AW Wt.length cW], .int .i64 h] w fun e w' => RetN w (closeF H Wt h).1 (closeF H Wt h).2 e w' := by
  have HH := Aside0.mk hH
  have HW := Aside0.mk hW
  clear hH hW
  go_enter Try.func40, Try.ntmps40
  go_upto_region 1 with (fail)
  have hb_ := below_alloc (below_alloc (below_alloc (below_alloc (Below.refl _ w) (.cells #[.slice AH H.length cH, .slice AW Wt.length cW] 29)) (.cells #[.int .i64 h] 3)) (.cells #[.slice none 0 0, .slice none 0 0] 29)) (.cells #[.slice none 0 0, .slice none 0 0] 33)
  have hG0_ := blk_alloc (blk_alloc (blk_alloc (blk_lit0 w (.cells #[.slice AH H.length cH, .slice AW Wt.length cW] 29)) (.cells #[.int .i64 h] 3)) (.cells #[.slice none 0 0, .slice none 0 0] 29)) (.cells #[.slice none 0 0, .slice none 0 0] 33)
  have hG1_ := blk_alloc (blk_alloc (blk_lit w (.cells #[.slice AH H.length cH, .slice AW Wt.length cW] 29) (.cells #[.int .i64 h] 3)) (.cells #[.slice none 0 0, .slice none 0 0] 29)) (.cells #[.slice none 0 0, .slice none 0 0] 33)
  have hG2_ := blk_alloc (blk_lit2 w (.cells #[.slice AH H.length cH, .slice AW Wt.length cW] 29) (.cells #[.int .i64 h] 3) (.cells #[.slice none 0 0, .slice none 0 0] 29)) (.cells #[.slice none 0 0, .slice none 0 0] 33)
  have hG3_ := blk_lit3 w (.cells #[.slice AH H.length cH, .slice AW Wt.length cW] 29) (.cells #[.int .i64 h] 3) (.cells #[.slice none 0 0, .slice none 0 0] 29) (.cells #[.slice none 0 0, .slice none 0 0] 33)
  generalize ((((w.alloc (.cells #[.slice AH H.length cH, .slice AW Wt.length cW] 29)).alloc (.cells #[.int .i64 h] 3)).alloc (.cells #[.slice none 0 0, .slice none 0 0] 29)).alloc (.cells #[.slice none 0 0, .slice none 0 0] 33)) = W at hb_ hG0_ hG1_ hG2_ hG3_ ⊢
  have HB_W := Aside0.mk hb_
  have W0 := Aside0.mk hG0_
  have W1 := Aside0.mk hG1_
  have W2 := Aside0.mk hG2_
  have W3 := Aside0.mk hG3_
  clear hb_ hG0_ hG1_ hG2_ hG3_
  have HHW := Aside0.mk (Kd.C_below HH.out HB_W.out)
  have HWW := Aside0.mk (Kd.C_below HW.out HB_W.out)
  have K4 := Aside0.mk (show w.heap.size + 1 + 1 < W.heap.size ∧ w.heap.size + 1 + 1 + 1 < W.heap.size from ⟨blk_lt W2.out, blk_lt W3.out⟩)
  refine start_ (n := 9) (S := fun w' => w'.cell? ⟨w.heap.size, 0, none⟩ = some (.slice AH H.length cH) ∧ w'.cell? ⟨w.heap.size, 1, none⟩ = some (.slice AW Wt.length cW) ∧ w'.cell? ⟨w.heap.size + 1, 0, none⟩ = some (.int .i64 h)) (ds := []) #[false, false, false, false, false, false, false, false, false] (by kernel_rfl) rfl rfl ⟨(blk_cell (blk_drew W0.out) 0).trans rfl, (blk_cell (blk_drew W0.out) 1).trans rfl, (blk_cell (blk_drew W1.out) 0).trans rfl⟩ (fun hHeld => ?_)
  have HBD := Aside0.mk (below_drew1 (Below.refl W.heap.size W))
  have C0 := Aside0.mk (blk_drew W0.out)
  have C1 := Aside0.mk (blk_drew W1.out)
  have C2 := Aside0.mk (blk_drew W2.out)
  have C3 := Aside0.mk (blk_drew W3.out)
  generalize W.drew = wd at HBD C0 C1 C2 C3 hHeld ⊢
  refine take_ (i := 0) (N := some 13) (v := ?_) (a' := ?_) #[true, false, false, false, false, false, false, false, false] rfl rfl (by kernel_rfl) (fun _ _ _ h => h) (Or.inl ⟨by rfl, ?_⟩) hHeld ?_ ?_
  rotate_left
  · rintro w' ⟨s0, s1, s2⟩
    go_simp
    with_reducible rfl
  rotate_left
  · simp only [Act.put, List.setIfInBounds_toArray, List.set_cons_zero, List.set_cons_succ, i64_w, i32_w]
    rfl
  refine take_ (i := 1) (N := some 14) (v := ?_) (a' := ?_) #[true, true, false, false, false, false, false, false, false] rfl rfl (by kernel_rfl) (fun _ _ _ h => h) (Or.inl ⟨by rfl, ?_⟩) hHeld ?_ ?_
  rotate_left
  · rintro w' ⟨s0, s1, s2⟩
    go_simp
    with_reducible rfl
  rotate_left
  · simp only [Act.put, List.setIfInBounds_toArray, List.set_cons_zero, List.set_cons_succ, i64_w, i32_w]
    rfl
  refine one_ (i := 2) (N := some 15) #[true, true, true, false, false, false, false, false, false] rfl rfl (by kernel_rfl) (by decide) (fun K hK => ?_)
  refine goes_ Try.func57 (by kernel_rfl) rfl #[.int .i64 h] (by rfl) rfl rfl (by (try simp only [List.map_toArray, List.map_cons, List.map_nil]); first | done | rfl) ?_
  refine (known_calls h _).mono ?_
  rintro e w3 ⟨rfl, hb⟩
  refine ⟨_, rfl, ?_⟩
  have HB3 := Aside0.mk (below_step HBD.out hb)
  have D0 := Aside0.mk (blk_below C0.out hb)
  have D1 := Aside0.mk (blk_below C1.out hb)
  have D2 := Aside0.mk (blk_below C2.out hb)
  have D3 := Aside0.mk (blk_below C3.out hb)
  clear hb C0 W0 C1 W1 C2 W2 C3 W3
  refine hK.out _ _ ⟨(blk_cell (D0.out) 0).trans rfl, (blk_cell (D0.out) 1).trans rfl, (blk_cell (D1.out) 0).trans rfl⟩ (fun hHeld => ?_)
  clear hK K
  refine norm_ (a' := ?_) ?_ ?_
  rotate_left
  · show Act.put _ (some 15) _ = _
    simp only [Act.put, List.setIfInBounds_toArray, List.set_cons_zero, List.set_cons_succ, i64_w, i32_w]
    rfl
  refine one_ (i := 3) (N := some 16) #[true, true, true, true, false, false, false, false, false] rfl rfl (by kernel_rfl) (by decide) (fun K hK => ?_)
  refine goes_ Try.func56 (by kernel_rfl) rfl #[.agg #[.slice AH H.length cH, .slice AW Wt.length cW], .bool (knownB h)] (by rfl) rfl rfl (by (try simp only [List.map_toArray, List.map_cons, List.map_nil]); first | done | rfl) ?_
  refine (begin_calls AH AW cH cW H Wt (knownB h) _ (Kd.C_below HHW.out HB3.out) (Kd.C_below HWW.out HB3.out) hlen).mono ?_
  rintro e w4 hp
  skip
  by_cases hz : begE H Wt (knownB h) = 0
  rotate_left
  · obtain ⟨rfl, hb⟩ := hp.bad hz
    refine ⟨_, rfl, ?_⟩
    have HB4 := Aside0.mk (below_step HB_W.out (below_step HB3.out hb))
    have E0 := Aside0.mk (blk_below D0.out hb)
    have E1 := Aside0.mk (blk_below D1.out hb)
    have E2 := Aside0.mk (blk_below D2.out hb)
    have E3 := Aside0.mk (blk_below D3.out hb)
    have HNE := Aside0.mk hz
    have HE := Aside0.mk (show closeF H Wt h = (([], [], [], []), begE H Wt (knownB h)) by unfold closeF; rw [if_neg hz])
    have hnb : (begE H Wt (knownB h) == 0) = false := by simpa using hz
    generalize begE H Wt (knownB h) = E at HNE HE hnb ⊢
    clear hz hb hp
    refine hK.out _ _ ⟨(blk_cell (E0.out) 0).trans rfl, (blk_cell (E0.out) 1).trans rfl, (blk_cell (E1.out) 0).trans rfl⟩ (fun hHeld => ?_)
    clear hK K
    refine norm_ (a' := ?_) ?_ ?_
    rotate_left
    · show Act.put _ (some 16) _ = _
      simp only [Act.put, List.setIfInBounds_toArray, List.set_cons_zero, List.set_cons_succ, i64_w, i32_w]
      rfl
    refine pure_ (i := 4) (N := some 12) (v := ?_) (a' := ?_) #[true, true, true, true, true, false, false, false, false] rfl rfl (by kernel_rfl) (fun _ _ _ h => h) (Or.inl ⟨by rfl, ?_⟩) ?_ ?_
    rotate_left
    · intro w'
      go_simp
      with_reducible rfl
    rotate_left
    · simp only [Act.put, List.setIfInBounds_toArray, List.set_cons_zero, List.set_cons_succ, i64_w, i32_w]
      rfl
    refine pure_ (i := 5) (N := some 17) (v := ?_) (a' := ?_) #[true, true, true, true, true, true, false, false, false] rfl rfl (by kernel_rfl) (fun _ _ _ h => h) (Or.inl ⟨by rfl, ?_⟩) ?_ ?_
    rotate_left
    · intro w'
      go_simp
      with_reducible rfl
    rotate_left
    · simp only [Act.put, List.setIfInBounds_toArray, List.set_cons_zero, List.set_cons_succ, i64_w, i32_w]
      rfl
    refine pure_ (i := 6) (N := some 18) (v := ?_) (a' := ?_) #[true, true, true, true, true, true, true, false, false] rfl rfl (by kernel_rfl) (fun _ _ _ h => h) (Or.inl ⟨by rfl, ?_⟩) ?_ ?_
    rotate_left
    · intro w'
      go_simp
      with_reducible rfl
    rotate_left
    · simp only [Act.put, List.setIfInBounds_toArray, List.set_cons_zero, List.set_cons_succ, i64_w, i32_w]
      rfl
    refine pure_ (i := 7) (N := some 7) (v := ?_) (a' := ?_) #[true, true, true, true, true, true, true, true, false] rfl rfl (by kernel_rfl) (fun _ _ _ h => h) (Or.inl ⟨by rfl, ?_⟩) ?_ ?_
    rotate_left
    · intro w'
      go_simp
      with_reducible rfl
    rotate_left
    · simp only [Act.put, List.setIfInBounds_toArray, List.set_cons_zero, List.set_cons_succ, i64_w, i32_w]
      rfl
    refine pure_ (i := 8) (N := some 8) (v := ?_) (a' := ?_) #[true, true, true, true, true, true, true, true, true] rfl rfl (by kernel_rfl) (fun _ _ _ h => h) (Or.inl ⟨by rfl, ?_⟩) ?_ ?_
    rotate_left
    · intro w'
      go_simp
      with_reducible rfl
    rotate_left
    · simp only [Act.put, List.setIfInBounds_toArray, List.set_cons_zero, List.set_cons_succ, i64_w, i32_w]
      rfl
    refine done_ (by kernel_rfl) ?_
    clear hHeld
    have r0 := (blk_cell E2.out 0).trans rfl; have r1 := (blk_cell E2.out 1).trans rfl
    have fr0 := blk_frozen E2.out 0; have fr1 := blk_frozen E2.out 1
    have s0 := (blk_cell E3.out 0).trans rfl; have s1 := (blk_cell E3.out 1).trans rfl
    have fs0 := blk_frozen E3.out 0; have fs1 := blk_frozen E3.out 1
    have P4 := Aside0.mk (put_two (n := w.heap.size) (w := w) (.slice none 0 0) (.slice none 0 0) E2.out HB4.out (by omega))
    have P5 := Aside0.mk (put_two (n := w.heap.size) (w := w) (.slice none 0 0) (.slice none 0 0) (two_far (.slice none 0 0) (.slice none 0 0) E3.out E2.out (by decide)) P4.out.2 (by omega))
    have P6 := Aside0.mk (two_far (.slice none 0 0) (.slice none 0 0) P4.out.1 (two_far (.slice none 0 0) (.slice none 0 0) E3.out E2.out (by decide)) (by decide))
    go_wp2
    refine bodyPost_ret (results_cells3 rfl rfl rfl (loadVar_two 29 (by kernel_rfl) (by kernel_rfl) P6.out) (loadVar_two 33 (by kernel_rfl) (by kernel_rfl) P5.out.1)) rfl ?_
    show RetN w (closeF H Wt h).1 (closeF H Wt h).2 _ _
    rw [HE.out]
    exact ⟨_, _, rfl, tabV_nil _ _, newsV_nil _ _, P5.out.2⟩
  · obtain ⟨q, rfl, hT, hb⟩ := hp.good hz
    refine ⟨_, rfl, ?_⟩
    have HZ := Aside0.mk hz
    have HT := Aside0.mk (hT.mono HB3.out.size)
    have HB4 := Aside0.mk (below_step HB3.out hb)
    have E0 := Aside0.mk (blk_below D0.out hb)
    have E1 := Aside0.mk (blk_below D1.out hb)
    have E2 := Aside0.mk (blk_below D2.out hb)
    have E3 := Aside0.mk (blk_below D3.out hb)
    clear hT hz hb hp
    skip
    refine hK.out _ _ ⟨(blk_cell (E0.out) 0).trans rfl, (blk_cell (E0.out) 1).trans rfl, (blk_cell (E1.out) 0).trans rfl⟩ (fun hHeld => ?_)
    clear hK K
    refine norm_ (a' := ?_) ?_ ?_
    rotate_left
    · show Act.put _ (some 16) _ = _
      simp only [Act.put, List.setIfInBounds_toArray, List.set_cons_zero, List.set_cons_succ, i64_w, i32_w]
      rfl
    refine pure_ (i := 4) (N := some 12) (v := ?_) (a' := ?_) #[true, true, true, true, true, false, false, false, false] rfl rfl (by kernel_rfl) (fun _ _ _ h => h) (Or.inl ⟨by rfl, ?_⟩) ?_ ?_
    rotate_left
    · intro w'
      go_simp
      with_reducible rfl
    rotate_left
    · simp only [Act.put, List.setIfInBounds_toArray, List.set_cons_zero, List.set_cons_succ, i64_w, i32_w]
      rfl
    refine pure_ (i := 5) (N := some 17) (v := ?_) (a' := ?_) #[true, true, true, true, true, true, false, false, false] rfl rfl (by kernel_rfl) (fun _ _ _ h => h) (Or.inl ⟨by rfl, ?_⟩) ?_ ?_
    rotate_left
    · intro w'
      go_simp
      with_reducible rfl
    rotate_left
    · simp only [Act.put, List.setIfInBounds_toArray, List.set_cons_zero, List.set_cons_succ, i64_w, i32_w]
      rfl
    refine pure_ (i := 6) (N := some 18) (v := ?_) (a' := ?_) #[true, true, true, true, true, true, true, false, false] rfl rfl (by kernel_rfl) (fun _ _ _ h => h) (Or.inl ⟨by rfl, ?_⟩) ?_ ?_
    rotate_left
    · intro w'
      go_simp
      with_reducible rfl
    rotate_left
    · simp only [Act.put, List.setIfInBounds_toArray, List.set_cons_zero, List.set_cons_succ, i64_w, i32_w]
      rfl
    refine pure_ (i := 7) (N := some 7) (v := ?_) (a' := ?_) #[true, true, true, true, true, true, true, true, false] rfl rfl (by kernel_rfl) (fun _ _ _ h => h) (Or.inl ⟨by rfl, ?_⟩) ?_ ?_
    rotate_left
    · intro w'
      go_simp
      with_reducible rfl
    rotate_left
    · simp only [Act.put, List.setIfInBounds_toArray, List.set_cons_zero, List.set_cons_succ, i64_w, i32_w]
      rfl
    refine pure_ (i := 8) (N := some 8) (v := ?_) (a' := ?_) #[true, true, true, true, true, true, true, true, true] rfl rfl (by kernel_rfl) (fun _ _ _ h => h) (Or.inl ⟨by rfl, ?_⟩) ?_ ?_
    rotate_left
    · intro w'
      go_simp
      with_reducible rfl
    rotate_left
    · simp only [Act.put, List.setIfInBounds_toArray, List.set_cons_zero, List.set_cons_succ, i64_w, i32_w]
      rfl
    refine done_ (by kernel_rfl) ?_
    clear hHeld HH HW D0 D1 D2 D3 HBD HB3
    have HGD := Aside0.mk (beg_good HZ.out)
    have HE0 := Aside0.mk (show closeF H Wt h = (settleL (H.filter (fun x => !(hdL x == h))) (Wt.filter (fun x => !(hdL x == h))), 0) by unfold closeF; rw [if_pos HZ.out])
    go_upto_region 5 with (fail)
    obtain ⟨vH, vW, vG, vN, hX⟩ := HT.out.x
    obtain ⟨A1, c1, rfl⟩ := Kd.R_slice hX.rH
    obtain ⟨A2, c2, rfl⟩ := Kd.R_slice hX.rW
    refine start_ (n := 24) (S := fun w' => w'.cell? ⟨q, 0, none⟩ = some (.slice A1 H.length c1) ∧ w'.cell? ⟨q, 1, none⟩ = some (.slice A2 Wt.length c2)) (ds := [19, 23]) #[false, false, false, false, false, false, false, false, false, false, false, false, false, false, false, false, false, false, false, false, false, false, false, false] (by kernel_rfl) rfl rfl ⟨(blk_cell (blk_drew hX.bq) 0).trans rfl, (blk_cell (blk_drew hX.bq) 1).trans rfl⟩ (fun hHeld => ?_)
    have hbd := below_drew1 (Below.refl w4.heap.size w4)
    have HX := Aside0.mk (hX.below hbd)
    have HB5 := Aside0.mk (below_step HB4.out hbd)
    have E1 := Aside0.mk (blk_below E1.out hbd)
    have E2 := Aside0.mk (blk_below E2.out hbd)
    have E3 := Aside0.mk (blk_below E3.out hbd)
    clear hbd hX HB4 HT
    generalize w4.drew = wd at HX HB5 E1 E2 E3 hHeld ⊢
    have HLK := Aside0.mk (show Looks 71 #[.pointer (some ⟨w.heap.size + 1, 0, none⟩)] (fun x => !(hdL x == h)) wd from
      { enters := enters_ Try.func71 (by kernel_rfl) rfl
        calls := fun x w3 hb => isNot_calls (w.heap.size + 1) h x w3 (blk_below E1.out hb) })
    obtain ⟨p, hp⟩ : ∃ p : S24 → Bool, p = (fun x => !(hdL x == h)) := ⟨_, rfl⟩
    rw [← hp] at HLK HE0
    clear hp
    obtain ⟨H6, hH6⟩ : ∃ H6, H6 = H.filter p := ⟨_, rfl⟩
    obtain ⟨W6, hW6⟩ : ∃ W6, W6 = Wt.filter p := ⟨_, rfl⟩
    have HGG := Aside0.mk (HGD.out.sub (List.filter_sublist (p := p) (l := H)) (List.filter_sublist (p := p) (l := Wt)))
    rw [← hH6, ← hW6] at HGG HE0
    have HH6 := Aside0.mk hH6
    have HW6 := Aside0.mk hW6
    clear hH6 hW6
    refine pure_ (i := 0) (N := some 25) (v := ?_) (a' := ?_) #[true, false, false, false, false, false, false, false, false, false, false, false, false, false, false, false, false, false, false, false, false, false, false, false] rfl rfl (by kernel_rfl) (fun _ _ _ h => h) (Or.inl ⟨by rfl, ?_⟩) ?_ ?_
    rotate_left
    · intro w'
      go_simp
      with_reducible rfl
    rotate_left
    · simp only [Act.put, List.setIfInBounds_toArray, List.set_cons_zero, List.set_cons_succ, i64_w, i32_w]
      rfl
    refine pure_ (i := 1) (N := some 26) (v := ?_) (a' := ?_) #[true, true, false, false, false, false, false, false, false, false, false, false, false, false, false, false, false, false, false, false, false, false, false, false] rfl rfl (by kernel_rfl) (fun _ _ _ h => h) (Or.inl ⟨by rfl, ?_⟩) ?_ ?_
    rotate_left
    · intro w'
      go_simp
      with_reducible rfl
    rotate_left
    · simp only [Act.put, List.setIfInBounds_toArray, List.set_cons_zero, List.set_cons_succ, i64_w, i32_w]
      rfl
    refine pure_ (i := 2) (N := some 27) (v := ?_) (a' := ?_) #[true, true, true, false, false, false, false, false, false, false, false, false, false, false, false, false, false, false, false, false, false, false, false, false] rfl rfl (by kernel_rfl) (fun _ _ _ h => h) (Or.inl ⟨by rfl, ?_⟩) ?_ ?_
    rotate_left
    · intro w'
      go_simp
      with_reducible rfl
    rotate_left
    · simp only [Act.put, List.setIfInBounds_toArray, List.set_cons_zero, List.set_cons_succ, i64_w, i32_w]
      rfl
    refine pure_ (i := 3) (N := some 28) (v := ?_) (a' := ?_) #[true, true, true, true, false, false, false, false, false, false, false, false, false, false, false, false, false, false, false, false, false, false, false, false] rfl rfl (by kernel_rfl) (fun _ _ _ h => h) (Or.inl ⟨by rfl, ?_⟩) ?_ ?_
    rotate_left
    · intro w'
      go_simp
      with_reducible rfl
    rotate_left
    · simp only [Act.put, List.setIfInBounds_toArray, List.set_cons_zero, List.set_cons_succ, i64_w, i32_w]
      rfl
    refine pure_ (i := 4) (N := some 29) (v := ?_) (a' := ?_) #[true, true, true, true, true, false, false, false, false, false, false, false, false, false, false, false, false, false, false, false, false, false, false, false] rfl rfl (by kernel_rfl) (fun _ _ _ h => h) (Or.inl ⟨by rfl, ?_⟩) ?_ ?_
    rotate_left
    · intro w'
      go_simp
      with_reducible rfl
    rotate_left
    · simp only [Act.put, List.setIfInBounds_toArray, List.set_cons_zero, List.set_cons_succ, i64_w, i32_w]
      rfl
    refine pure_ (i := 5) (N := some 30) (v := ?_) (a' := ?_) #[true, true, true, true, true, true, false, false, false, false, false, false, false, false, false, false, false, false, false, false, false, false, false, false] rfl rfl (by kernel_rfl) (fun _ _ _ h => h) (Or.inl ⟨by rfl, ?_⟩) ?_ ?_
    rotate_left
    · intro w'
      go_simp
      with_reducible rfl
    rotate_left
    · simp only [Act.put, List.setIfInBounds_toArray, List.set_cons_zero, List.set_cons_succ, i64_w, i32_w]
      rfl
    refine take_ (i := 6) (N := some 31) (v := ?_) (a' := ?_) #[true, true, true, true, true, true, true, false, false, false, false, false, false, false, false, false, false, false, false, false, false, false, false, false] rfl rfl (by kernel_rfl) (fun _ _ _ h => h) (Or.inl ⟨by rfl, ?_⟩) hHeld ?_ ?_
    rotate_left
    · rintro w' ⟨s0, s1⟩
      go_simp
      with_reducible rfl
    rotate_left
    · simp only [Act.put, List.setIfInBounds_toArray, List.set_cons_zero, List.set_cons_succ, i64_w, i32_w]
      rfl
    refine pure_ (i := 7) (N := some 32) (v := ?_) (a' := ?_) #[true, true, true, true, true, true, true, true, false, false, false, false, false, false, false, false, false, false, false, false, false, false, false, false] rfl rfl (by kernel_rfl) (fun _ _ _ h => h) (Or.inl ⟨by rfl, ?_⟩) ?_ ?_
    rotate_left
    · intro w'
      go_simp
      with_reducible rfl
    rotate_left
    · simp only [Act.put, List.setIfInBounds_toArray, List.set_cons_zero, List.set_cons_succ, i64_w, i32_w]
      rfl
    refine pure_ (i := 9) (N := some 34) (v := ?_) (a' := ?_) #[true, true, true, true, true, true, true, true, false, true, false, false, false, false, false, false, false, false, false, false, false, false, false, false] rfl rfl (by kernel_rfl) (fun _ _ _ h => h) (Or.inl ⟨by rfl, ?_⟩) ?_ ?_
    rotate_left
    · intro w'
      go_simp
      with_reducible rfl
    rotate_left
    · simp only [Act.put, List.setIfInBounds_toArray, List.set_cons_zero, List.set_cons_succ, i64_w, i32_w]
      rfl
    refine pure_ (i := 10) (N := some 35) (v := ?_) (a' := ?_) #[true, true, true, true, true, true, true, true, false, true, true, false, false, false, false, false, false, false, false, false, false, false, false, false] rfl rfl (by kernel_rfl) (fun _ _ _ h => h) (Or.inl ⟨by rfl, ?_⟩) ?_ ?_
    rotate_left
    · intro w'
      go_simp
      with_reducible rfl
    rotate_left
    · simp only [Act.put, List.setIfInBounds_toArray, List.set_cons_zero, List.set_cons_succ, i64_w, i32_w]
      rfl
    refine pure_ (i := 11) (N := some 36) (v := ?_) (a' := ?_) #[true, true, true, true, true, true, true, true, false, true, true, true, false, false, false, false, false, false, false, false, false, false, false, false] rfl rfl (by kernel_rfl) (fun _ _ _ h => h) (Or.inl ⟨by rfl, ?_⟩) ?_ ?_
    rotate_left
    · intro w'
      go_simp
      with_reducible rfl
    rotate_left
    · simp only [Act.put, List.setIfInBounds_toArray, List.set_cons_zero, List.set_cons_succ, i64_w, i32_w]
      rfl
    refine pure_ (i := 12) (N := some 37) (v := ?_) (a' := ?_) #[true, true, true, true, true, true, true, true, false, true, true, true, true, false, false, false, false, false, false, false, false, false, false, false] rfl rfl (by kernel_rfl) (fun _ _ _ h => h) (Or.inl ⟨by rfl, ?_⟩) ?_ ?_
    rotate_left
    · intro w'
      go_simp
      with_reducible rfl
    rotate_left
    · simp only [Act.put, List.setIfInBounds_toArray, List.set_cons_zero, List.set_cons_succ, i64_w, i32_w]
      rfl
    refine take_ (i := 13) (N := some 38) (v := ?_) (a' := ?_) #[true, true, true, true, true, true, true, true, false, true, true, true, true, true, false, false, false, false, false, false, false, false, false, false] rfl rfl (by kernel_rfl) (fun _ _ _ h => h) (Or.inl ⟨by rfl, ?_⟩) hHeld ?_ ?_
    rotate_left
    · rintro w' ⟨s0, s1⟩
      go_simp
      with_reducible rfl
    rotate_left
    · simp only [Act.put, List.setIfInBounds_toArray, List.set_cons_zero, List.set_cons_succ, i64_w, i32_w]
      rfl
    refine pure_ (i := 14) (N := some 39) (v := ?_) (a' := ?_) #[true, true, true, true, true, true, true, true, false, true, true, true, true, true, true, false, false, false, false, false, false, false, false, false] rfl rfl (by kernel_rfl) (fun _ _ _ h => h) (Or.inl ⟨by rfl, ?_⟩) ?_ ?_
    rotate_left
    · intro w'
      go_simp
      with_reducible rfl
    rotate_left
    · simp only [Act.put, List.setIfInBounds_toArray, List.set_cons_zero, List.set_cons_succ, i64_w, i32_w]
      rfl
    refine one_ (i := 8) (N := some 33) #[true, true, true, true, true, true, true, true, true, true, true, true, true, true, true, false, false, false, false, false, false, false, false, false] rfl rfl (by kernel_rfl) (by decide) (fun K hK => ?_)
    refine goes_ Try.func72 (by kernel_rfl) rfl #[.slice A1 H.length c1, .func (.func 71) #[] #[.pointer (some ⟨w.heap.size + 1, 0, none⟩)]] (by rfl) rfl rfl (by (try simp only [List.map_toArray, List.map_cons, List.map_nil]); first | done | rfl) ?_
    refine (filter_calls 71 _ p A1 c1 H _ HLK.out (Kd.R_reads' HX.out.rH).2.2 (by omega)).mono ?_
    rintro e w5 ⟨v5, rfl, hra, hb⟩
    rw [← HH6.out] at hra
    obtain ⟨A5, c5, rfl⟩ := Kd.R_slice hra
    refine ⟨_, rfl, ?_⟩
    have HRA := Aside0.mk hra
    have HBB5 := Aside0.mk hb
    clear hra hb
    refine hK.out _ _ ⟨(blk_cell (blk_below HX.out.bq HBB5.out) 0).trans rfl, (blk_cell (blk_below HX.out.bq HBB5.out) 1).trans rfl⟩ (fun hHeld => ?_)
    clear hK K
    refine norm_ (a' := ?_) ?_ ?_
    rotate_left
    · show Act.put _ (some 33) _ = _
      simp only [Act.put, List.setIfInBounds_toArray, List.set_cons_zero, List.set_cons_succ, i64_w, i32_w]
      rfl
    refine one_ (i := 15) (N := some 40) #[true, true, true, true, true, true, true, true, true, true, true, true, true, true, true, true, false, false, false, false, false, false, false, false] rfl rfl (by kernel_rfl) (by decide) (fun K hK => ?_)
    refine goes_ Try.func72 (by kernel_rfl) rfl #[.slice A2 Wt.length c2, .func (.func 71) #[] #[.pointer (some ⟨w.heap.size + 1, 0, none⟩)]] (by rfl) rfl rfl (by (try simp only [List.map_toArray, List.map_cons, List.map_nil]); first | done | rfl) ?_
    refine (filter_calls 71 _ p A2 c2 Wt _ ⟨HLK.out.enters, fun x w3 hb => HLK.out.calls x w3 (below_step HBB5.out hb)⟩ (Kd.C_below (Kd.R_reads' HX.out.rW).2.2 HBB5.out) (by omega)).mono ?_
    rintro e w6 ⟨v6, rfl, hra, hb⟩
    rw [← HW6.out] at hra
    obtain ⟨A6, c6, rfl⟩ := Kd.R_slice hra
    refine ⟨_, rfl, ?_⟩
    have HRW := Aside0.mk (rows_two HRA.out HB5.out.size (hb) hra (Nat.le_trans HB5.out.size HBB5.out.size))
    have HBB6 := Aside0.mk (below_step HBB5.out hb)
    clear hra hb
    refine hK.out _ _ ⟨(blk_cell (blk_below HX.out.bq HBB6.out) 0).trans rfl, (blk_cell (blk_below HX.out.bq HBB6.out) 1).trans rfl⟩ (fun hHeld => ?_)
    clear hK K
    refine norm_ (a' := ?_) ?_ ?_
    rotate_left
    · show Act.put _ (some 40) _ = _
      simp only [Act.put, List.setIfInBounds_toArray, List.set_cons_zero, List.set_cons_succ, i64_w, i32_w]
      rfl
    refine pure_ (i := 16) (N := some 41) (v := ?_) (a' := ?_) #[true, true, true, true, true, true, true, true, true, true, true, true, true, true, true, true, true, false, false, false, false, false, false, false] rfl rfl (by kernel_rfl) (fun _ _ _ h => h) (Or.inl ⟨by rfl, ?_⟩) ?_ ?_
    rotate_left
    · intro w'
      go_simp
      with_reducible rfl
    rotate_left
    · simp only [Act.put, List.setIfInBounds_toArray, List.set_cons_zero, List.set_cons_succ, i64_w, i32_w]
      rfl
    refine pure_ (i := 17) (N := some 42) (v := ?_) (a' := ?_) #[true, true, true, true, true, true, true, true, true, true, true, true, true, true, true, true, true, true, false, false, false, false, false, false] rfl rfl (by kernel_rfl) (fun _ _ _ h => h) (Or.inl ⟨by rfl, ?_⟩) ?_ ?_
    rotate_left
    · intro w'
      go_simp
      with_reducible rfl
    rotate_left
    · simp only [Act.put, List.setIfInBounds_toArray, List.set_cons_zero, List.set_cons_succ, i64_w, i32_w]
      rfl
    refine pure_ (i := 18) (N := some 43) (v := ?_) (a' := ?_) #[true, true, true, true, true, true, true, true, true, true, true, true, true, true, true, true, true, true, true, false, false, false, false, false] rfl rfl (by kernel_rfl) (fun _ _ _ h => h) (Or.inl ⟨by rfl, ?_⟩) ?_ ?_
    rotate_left
    · intro w'
      go_simp
      with_reducible rfl
    rotate_left
    · simp only [Act.put, List.setIfInBounds_toArray, List.set_cons_zero, List.set_cons_succ, i64_w, i32_w]
      rfl
    have HQ6 := Aside0.mk (blk_below HX.out.bq HBB6.out)
    have z0 := (blk_cell HQ6.out 0).trans rfl; have z1 := (blk_cell HQ6.out 1).trans rfl; have z2 := (blk_cell HQ6.out 2).trans rfl; have z3 := (blk_cell HQ6.out 3).trans rfl
    have fz0 := blk_frozen HQ6.out 0; have fz1 := blk_frozen HQ6.out 1; have fz2 := blk_frozen HQ6.out 2; have fz3 := blk_frozen HQ6.out 3
    refine last_ (i := 19) (N := none) #[true, true, true, true, true, true, true, true, true, true, true, true, true, true, true, true, true, true, true, true, false, false, false, false] rfl rfl (by kernel_rfl) (by decide) (fun K hK => ?_)
    refine skip_ (w1 := ?_) (by rfl) rfl ?_ ?_
    rotate_left
    · go_simp
      rfl
    refine hK.out _ _ ?_
    clear hK K hHeld z0 z1 z2 z3 fz0 fz1 fz2 fz3
    have HQ7 := Aside0.mk (blk_put HQ6.out 0 (.slice A5 H6.length c5) rfl)
    have z0 := (blk_cell HQ7.out 0).trans rfl; have z1 := (blk_cell HQ7.out 1).trans rfl; have z2 := (blk_cell HQ7.out 2).trans rfl; have z3 := (blk_cell HQ7.out 3).trans rfl
    have fz0 := blk_frozen HQ7.out 0; have fz1 := blk_frozen HQ7.out 1; have fz2 := blk_frozen HQ7.out 2; have fz3 := blk_frozen HQ7.out 3
    skip
    refine pure_ (i := 20) (N := some 44) (v := ?_) (a' := ?_) #[true, true, true, true, true, true, true, true, true, true, true, true, true, true, true, true, true, true, true, true, true, false, false, false] rfl rfl (by kernel_rfl) (fun _ _ _ h => h) (Or.inl ⟨by rfl, ?_⟩) ?_ ?_
    rotate_left
    · intro w'
      go_simp
      with_reducible rfl
    rotate_left
    · simp only [Act.put, List.setIfInBounds_toArray, List.set_cons_zero, List.set_cons_succ, i64_w, i32_w]
      rfl
    refine pure_ (i := 21) (N := some 45) (v := ?_) (a' := ?_) #[true, true, true, true, true, true, true, true, true, true, true, true, true, true, true, true, true, true, true, true, true, true, false, false] rfl rfl (by kernel_rfl) (fun _ _ _ h => h) (Or.inl ⟨by rfl, ?_⟩) ?_ ?_
    rotate_left
    · intro w'
      go_simp
      with_reducible rfl
    rotate_left
    · simp only [Act.put, List.setIfInBounds_toArray, List.set_cons_zero, List.set_cons_succ, i64_w, i32_w]
      rfl
    refine pure_ (i := 22) (N := some 46) (v := ?_) (a' := ?_) #[true, true, true, true, true, true, true, true, true, true, true, true, true, true, true, true, true, true, true, true, true, true, true, false] rfl rfl (by kernel_rfl) (fun _ _ _ h => h) (Or.inl ⟨by rfl, ?_⟩) ?_ ?_
    rotate_left
    · intro w'
      go_simp
      with_reducible rfl
    rotate_left
    · simp only [Act.put, List.setIfInBounds_toArray, List.set_cons_zero, List.set_cons_succ, i64_w, i32_w]
      rfl
    refine last_ (i := 23) (N := none) #[true, true, true, true, true, true, true, true, true, true, true, true, true, true, true, true, true, true, true, true, true, true, true, true] rfl rfl (by kernel_rfl) (by decide) (fun K hK => ?_)
    refine skip_ (w1 := ?_) (by rfl) rfl ?_ ?_
    rotate_left
    · go_simp
      rfl
    refine hK.out _ _ ?_
    clear hK K
    refine done_ (by kernel_rfl) ?_
    clear z0 z1 z2 z3 fz0 fz1 fz2 fz3
    have HX7 := Aside0.mk (HX.out.both HBB6.out HRW.out.1 (Kd.R_mono HRW.out.2 (fun _ _ => trivial)))
    have HB7 := Aside0.mk (((below_step HB5.out HBB6.out).setCell (p := ⟨q, 0, none⟩) HX.out.hq (.slice A5 H6.length c5)).setCell (p := ⟨q, 1, none⟩) HX.out.hq (.slice A6 W6.length c6))
    have hbk := (((HBB6.out.mono HB5.out.size : Below W.heap.size wd w6).setCell (p := ⟨q, 0, none⟩) HX.out.hq (.slice A5 H6.length c5)).setCell (p := ⟨q, 1, none⟩) HX.out.hq (.slice A6 W6.length c6))
    have G2 := Aside0.mk ((hbk.block _ K4.out.1).trans E2.out)
    have G3 := Aside0.mk ((hbk.block _ K4.out.2).trans E3.out)
    clear hbk HQ6 HQ7 HRW HRA HX HB5 HBB5 HBB6 HLK
    generalize (w6.setCell ⟨q, 0, none⟩ (.slice A5 H6.length c5)).setCell ⟨q, 1, none⟩ (.slice A6 W6.length c6) = w8 at HX7 HB7 G2 G3 ⊢
    have HTO := Aside0.mk HX7.out.o
    obtain ⟨⟨H5, W5, G5, N5⟩, hR⟩ : ∃ R, R = PL.settle hdL mtL (H6) (W6) := ⟨_, rfl⟩
    have hset := settle_calls q W.heap.size (H6) (W6) w8 HTO.out HGG.out HB7.out.size
    rw [← hR] at hset
    have HSET := Aside0.mk hset
    have HE := Aside0.mk (show closeF H Wt h = ((H5, W5, G5, N5), 0) from HE0.out.trans (by rw [hR]))
    clear hset hR
    go_upto_region 7 with ((with_reducible refine gate_dst (N := 49) rfl ?_); refine goesL_ (some 49) rfl rfl Try.func46 (by kernel_rfl) rfl #[.pointer (some ⟨q, 0, none⟩)] rfl (by (try simp only [List.map_toArray, List.map_cons, List.map_nil]); first | done | rfl) ?_; refine HSET.out.mono ?_; rintro e w5 ⟨vH, vW, vG, vN, rfl, rH, rW, rG, rN, hb⟩; dsimp only at rH rW rG rN; obtain ⟨A1, c1, rfl⟩ := Kd.R_slice rH; obtain ⟨A2, c2, rfl⟩ := Kd.R_slice rW; obtain ⟨A3, c3, rfl⟩ := Kd.R_slice rG; obtain ⟨A4, c4, rfl⟩ := Kd.R_slice rN; refine ⟨_, rfl, ?_⟩; have R1 := Aside0.mk rH; have R2 := Aside0.mk rW; have R3 := Aside0.mk rG; have R4 := Aside0.mk rN; have HB5 := Aside0.mk hb; clear rH rW rG rN hb)
    have F4 := Aside0.mk ((HB5.out.block _ K4.out.1).trans G2.out)
    have F5 := Aside0.mk ((HB5.out.block _ K4.out.2).trans G3.out)
    have HBW5 := Aside0.mk (HB_W.out.trans ((HB7.out.trans HB5.out).mono HB_W.out.size))
    have hb_ := below_alloc (below_alloc (Below.refl _ w5) (.cells #[.slice A1 H5.length c1, .slice A2 W5.length c2] 29)) (.cells #[.slice A3 G5.length c3, .slice A4 N5.length c4] 33)
    have hG0_ := blk_alloc (blk_lit0 w5 (.cells #[.slice A1 H5.length c1, .slice A2 W5.length c2] 29)) (.cells #[.slice A3 G5.length c3, .slice A4 N5.length c4] 33)
    have hG1_ := blk_lit w5 (.cells #[.slice A1 H5.length c1, .slice A2 W5.length c2] 29) (.cells #[.slice A3 G5.length c3, .slice A4 N5.length c4] 33)
    generalize ((w5.alloc (.cells #[.slice A1 H5.length c1, .slice A2 W5.length c2] 29)).alloc (.cells #[.slice A3 G5.length c3, .slice A4 N5.length c4] 33)) = X at hb_ hG0_ hG1_ ⊢
    have HB_X := Aside0.mk hb_
    have X0 := Aside0.mk hG0_
    have X1 := Aside0.mk hG1_
    clear hb_ hG0_ hG1_
    refine start_ (n := 5) (S := fun w' => w'.cell? ⟨w5.heap.size, 0, none⟩ = some (.slice A1 H5.length c1) ∧ w'.cell? ⟨w5.heap.size, 1, none⟩ = some (.slice A2 W5.length c2) ∧ w'.cell? ⟨w5.heap.size + 1, 0, none⟩ = some (.slice A3 G5.length c3) ∧ w'.cell? ⟨w5.heap.size + 1, 1, none⟩ = some (.slice A4 N5.length c4)) (ds := [3]) #[false, false, false, false, false] (by kernel_rfl) rfl rfl ⟨(blk_cell (blk_drew X0.out) 0).trans rfl, (blk_cell (blk_drew X0.out) 1).trans rfl, (blk_cell (blk_drew X1.out) 0).trans rfl, (blk_cell (blk_drew X1.out) 1).trans rfl⟩ (fun hHeld => ?_)
    have hbd := below_drew1 HB_X.out
    have Q1 := Aside0.mk (Kd.R_below R1.out hbd)
    have Q2 := Aside0.mk (Kd.R_below R2.out hbd)
    have Q3 := Aside0.mk (Kd.R_below R3.out hbd)
    have Q4 := Aside0.mk (Kd.R_below R4.out hbd)
    have L4 := Aside0.mk (blk_lt F4.out)
    have L5 := Aside0.mk (blk_lt F5.out)
    have F4 := Aside0.mk (blk_below F4.out hbd)
    have F5 := Aside0.mk (blk_below F5.out hbd)
    have HBW6 := Aside0.mk (below_step HBW5.out hbd)
    have Y0 := Aside0.mk (blk_drew X0.out)
    have Y1 := Aside0.mk (blk_drew X1.out)
    clear hbd R1 R2 R3 R4 HB5 HBW5 X0 X1 HB_X
    generalize X.drew = x6 at Q1 Q2 Q3 Q4 F4 F5 HBW6 Y0 Y1 hHeld ⊢
    refine take_ (i := 0) (N := some 52) (v := ?_) (a' := ?_) #[true, false, false, false, false] rfl rfl (by kernel_rfl) (fun _ _ _ h => h) (Or.inl ⟨by rfl, ?_⟩) hHeld ?_ ?_
    rotate_left
    · rintro w' ⟨s0, s1, s2, s3⟩
      go_simp
      with_reducible rfl
    rotate_left
    · simp only [Act.put, List.setIfInBounds_toArray, List.set_cons_zero, List.set_cons_succ, i64_w, i32_w]
      rfl
    refine take_ (i := 1) (N := some 53) (v := ?_) (a' := ?_) #[true, true, false, false, false] rfl rfl (by kernel_rfl) (fun _ _ _ h => h) (Or.inl ⟨by rfl, ?_⟩) hHeld ?_ ?_
    rotate_left
    · rintro w' ⟨s0, s1, s2, s3⟩
      go_simp
      with_reducible rfl
    rotate_left
    · simp only [Act.put, List.setIfInBounds_toArray, List.set_cons_zero, List.set_cons_succ, i64_w, i32_w]
      rfl
    have r0 := (blk_cell F4.out 0).trans rfl; have r1 := (blk_cell F4.out 1).trans rfl
    have fr0 := blk_frozen F4.out 0; have fr1 := blk_frozen F4.out 1
    refine one_ (i := 2) (N := none) #[true, true, true, false, false] rfl rfl (by kernel_rfl) (by decide) (fun K hK => ?_)
    refine skip_ (w1 := ?_) (by rfl) rfl ?_ ?_
    rotate_left
    · go_simp
      rfl
    clear r0 r1 fr0 fr1
    have P4 := Aside0.mk (put_two (n := w.heap.size) (w := w) (.slice A1 H5.length c1) (.slice A2 W5.length c2) F4.out HBW6.out (by omega))
    have G5' := Aside0.mk (two_far (.slice A1 H5.length c1) (.slice A2 W5.length c2) F5.out F4.out (by decide))
    have S1 := Aside0.mk (R_two (.slice A1 H5.length c1) (.slice A2 W5.length c2) Q1.out F4.out (by decide))
    have S2 := Aside0.mk (R_two (.slice A1 H5.length c1) (.slice A2 W5.length c2) Q2.out F4.out (by decide))
    have S3 := Aside0.mk (R_two (.slice A1 H5.length c1) (.slice A2 W5.length c2) Q3.out F4.out (by decide))
    have S4 := Aside0.mk (R_two (.slice A1 H5.length c1) (.slice A2 W5.length c2) Q4.out F4.out (by decide))
    have Z0 := Aside0.mk (blk_far (blk_far Y0.out (p := ⟨w.heap.size + 1 + 1, 0, none⟩) (show w5.heap.size ≠ w.heap.size + 1 + 1 by have := L4.out; omega) (.slice A1 H5.length c1)) (p := ⟨w.heap.size + 1 + 1, 1, none⟩) (show w5.heap.size ≠ w.heap.size + 1 + 1 by have := L4.out; omega) (.slice A2 W5.length c2))
    have Z1 := Aside0.mk (blk_far (blk_far Y1.out (p := ⟨w.heap.size + 1 + 1, 0, none⟩) (show w5.heap.size + 1 ≠ w.heap.size + 1 + 1 by have := L4.out; omega) (.slice A1 H5.length c1)) (p := ⟨w.heap.size + 1 + 1, 1, none⟩) (show w5.heap.size + 1 ≠ w.heap.size + 1 + 1 by have := L4.out; omega) (.slice A2 W5.length c2))
    clear Q1 Q2 Q3 Q4 F4 F5 HBW6 Y0 Y1
    generalize (x6.setCell ⟨w.heap.size + 1 + 1, 0, none⟩ (.slice A1 H5.length c1)).setCell ⟨w.heap.size + 1 + 1, 1, none⟩ (.slice A2 W5.length c2) = x7 at P4 G5' S1 S2 S3 S4 Z0 Z1 ⊢
    refine hK.out _ _ ⟨(blk_cell Z0.out 0).trans rfl, (blk_cell Z0.out 1).trans rfl, (blk_cell Z1.out 0).trans rfl, (blk_cell Z1.out 1).trans rfl⟩ (fun hHeld => ?_)
    clear hK K
    skip
    have r0 := (blk_cell G5'.out 0).trans rfl; have r1 := (blk_cell G5'.out 1).trans rfl
    have fr0 := blk_frozen G5'.out 0; have fr1 := blk_frozen G5'.out 1
    refine last_ (i := 3) (N := none) #[true, true, true, true, false] rfl rfl (by kernel_rfl) (by decide) (fun K hK => ?_)
    refine skip_ (w1 := ?_) (by rfl) rfl ?_ ?_
    rotate_left
    · go_simp
      rfl
    refine hK.out _ _ ?_
    clear hK K hHeld r0 r1 fr0 fr1
    have P5 := Aside0.mk (put_two (n := w.heap.size) (w := w) (.slice A3 G5.length c3) (.slice A4 N5.length c4) G5'.out P4.out.2 (by omega))
    have P6 := Aside0.mk (two_far (.slice A3 G5.length c3) (.slice A4 N5.length c4) P4.out.1 G5'.out (by decide))
    have T1 := Aside0.mk (R_two (.slice A3 G5.length c3) (.slice A4 N5.length c4) S1.out G5'.out (by decide))
    have T2 := Aside0.mk (R_two (.slice A3 G5.length c3) (.slice A4 N5.length c4) S2.out G5'.out (by decide))
    have T3 := Aside0.mk (R_two (.slice A3 G5.length c3) (.slice A4 N5.length c4) S3.out G5'.out (by decide))
    have T4 := Aside0.mk (R_two (.slice A3 G5.length c3) (.slice A4 N5.length c4) S4.out G5'.out (by decide))
    clear P4 G5' S1 S2 S3 S4 Z0 Z1
    generalize (x7.setCell ⟨w.heap.size + 1 + 1 + 1, 0, none⟩ (.slice A3 G5.length c3)).setCell ⟨w.heap.size + 1 + 1 + 1, 1, none⟩ (.slice A4 N5.length c4) = x8 at P5 P6 T1 T2 T3 T4 ⊢
    skip
    refine pure_ (i := 4) (N := some 6) (v := ?_) (a' := ?_) #[true, true, true, true, true] rfl rfl (by kernel_rfl) (fun _ _ _ h => h) (Or.inl ⟨by rfl, ?_⟩) ?_ ?_
    rotate_left
    · intro w'
      go_simp
      with_reducible rfl
    rotate_left
    · simp only [Act.put, List.setIfInBounds_toArray, List.set_cons_zero, List.set_cons_succ, i64_w, i32_w]
      rfl
    refine done_ (by kernel_rfl) ?_
    go_wp2
    refine bodyPost_ret (results_cells3 rfl rfl rfl (loadVar_two 29 (by kernel_rfl) (by kernel_rfl) P6.out) (loadVar_two 33 (by kernel_rfl) (by kernel_rfl) P5.out.1)) rfl ?_
    show RetN w (closeF H Wt h).1 (closeF H Wt h).2 _ _
    rw [HE.out]
    exact ⟨_, _, rfl, ⟨_, _, rfl, Kd.R_lower T1.out HB_W.out.size, Kd.R_lower T2.out HB_W.out.size⟩, ⟨_, _, rfl, Kd.R_lower T3.out HB_W.out.size, Kd.R_lower T4.out HB_W.out.size⟩, P5.out.2⟩
end Go.Proofs.Ytifnfnoicinbaaa.M
