/- lock.May. -/
import Derived.Test.YtifnfnoicinbaaaC1
namespace Go.Proofs.Ytifnfnoicinbaaa.M
open Go.RowKit Go.Proofs.YtifnfnoicinbaaaW.PrintWords Go.Proofs.YtifnfnoicinbaaaW.PrintLast Go.Proofs.YtifnfnoicinbaaaW.PrintMore
set_option linter.unusedVariables false
set_option linter.unusedSimpArgs false
set_option linter.unnecessarySimpa false

set_option maxRecDepth 100000 in
set_option maxHeartbeats 2000000 in
theorem against63 (g : Nat) (l x : S24) (w : World) (hg : w.heap[g]? = some (.cells #[.int .i64 l.f0, .int .i64 l.f1, .int .i64 l.f2, .int .i64 l.f3, .bool l.f4] 24 (0, 0))) : Calls Try.prog 63 #[.agg #[.int .i64 x.f0, .int .i64 x.f1, .int .i64 x.f2, .int .i64 x.f3, .bool x.f4], .pointer (some ⟨g, 0, none⟩)] w fun e w' => e = .returned (.bool (mtL x l)) ∧ Below w.heap.size w w' := by
  have g0 := (blk_cell hg 0).trans rfl; have g1 := (blk_cell hg 1).trans rfl; have g2 := (blk_cell hg 2).trans rfl; have g3 := (blk_cell hg 3).trans rfl; have g4 := (blk_cell hg 4).trans rfl
  have lg := blk_lt hg
  clear hg
  have HB0 := Aside0.mk (below_alloc (Below.refl _ w) (.cells #[.int .i64 x.f0, .int .i64 x.f1, .int .i64 x.f2, .int .i64 x.f3, .bool x.f4] 24))
  go_enter Try.func63, Try.ntmps63
  go_wp2_with ((with_reducible refine gate_dst (N := 6) rfl ?_); refine goesL_ (some 6) rfl rfl Try.func43 (by kernel_rfl) rfl #[.agg #[.int .i64 x.f0, .int .i64 x.f1, .int .i64 x.f2, .int .i64 x.f3, .bool x.f4], .agg #[.int .i64 l.f0, .int .i64 l.f1, .int .i64 l.f2, .int .i64 l.f3, .bool l.f4]] rfl (by (try simp only [List.map_toArray, List.map_cons, List.map_nil]); first | done | rfl) ?_; refine (meet_calls _ _ _).mono ?_; rintro e w3 ⟨rfl, hb⟩; refine ⟨_, rfl, ?_⟩; have HB3 := Aside0.mk (below_step HB0.out hb); clear hb g0 g1 g2 g3 g4)
  go_ret
  exact ⟨rfl, HB3.out⟩
set_option maxRecDepth 100000 in
set_option maxHeartbeats 2000000 in
theorem may_calls (AH AW : Option Addr) (cH cW : Nat) (H Wt : List S24) (l : S24) (w : World) (hH : k24.C w AH H.length H) (hW : k24.C w AW Wt.length Wt) (hlen : H.length + Wt.length ≤ 1000) :
    Calls Try.prog 28 #[.agg #[.slice AH H.length cH, .slice AW Wt.length cW], .agg #[.int .i64 l.f0, .int .i64 l.f1, .int .i64 l.f2, .int .i64 l.f3, .bool l.f4]] w fun e w' => e = .returned (.int .i64 (mayF H Wt l)) ∧ Below w.heap.size w w' := by
  have HH := Aside0.mk hH
  have HW := Aside0.mk hW
  clear hH hW
  go_enter Try.func28, Try.ntmps28
  go_upto_region 1 with (fail)
  have hb_ := below_alloc (below_alloc (Below.refl _ w) (.cells #[.slice AH H.length cH, .slice AW Wt.length cW] 29)) (.cells #[.int .i64 l.f0, .int .i64 l.f1, .int .i64 l.f2, .int .i64 l.f3, .bool l.f4] 24)
  have hG0_ := blk_alloc (blk_lit0 w (.cells #[.slice AH H.length cH, .slice AW Wt.length cW] 29)) (.cells #[.int .i64 l.f0, .int .i64 l.f1, .int .i64 l.f2, .int .i64 l.f3, .bool l.f4] 24)
  have hG1_ := blk_lit w (.cells #[.slice AH H.length cH, .slice AW Wt.length cW] 29) (.cells #[.int .i64 l.f0, .int .i64 l.f1, .int .i64 l.f2, .int .i64 l.f3, .bool l.f4] 24)
  generalize ((w.alloc (.cells #[.slice AH H.length cH, .slice AW Wt.length cW] 29)).alloc (.cells #[.int .i64 l.f0, .int .i64 l.f1, .int .i64 l.f2, .int .i64 l.f3, .bool l.f4] 24)) = W at hb_ hG0_ hG1_ ⊢
  have HB_W := Aside0.mk hb_
  have W0 := Aside0.mk hG0_
  have W1 := Aside0.mk hG1_
  clear hb_ hG0_ hG1_
  have HHW := Aside0.mk (Kd.C_below HH.out HB_W.out)
  have HWW := Aside0.mk (Kd.C_below HW.out HB_W.out)
  refine start_ (n := 9) (S := fun w' => w'.cell? ⟨w.heap.size, 0, none⟩ = some (.slice AH H.length cH) ∧ w'.cell? ⟨w.heap.size, 1, none⟩ = some (.slice AW Wt.length cW) ∧ w'.cell? ⟨w.heap.size + 1, 0, none⟩ = some (.int .i64 l.f0) ∧ w'.cell? ⟨w.heap.size + 1, 1, none⟩ = some (.int .i64 l.f1) ∧ w'.cell? ⟨w.heap.size + 1, 2, none⟩ = some (.int .i64 l.f2) ∧ w'.cell? ⟨w.heap.size + 1, 3, none⟩ = some (.int .i64 l.f3) ∧ w'.cell? ⟨w.heap.size + 1, 4, none⟩ = some (.bool l.f4)) (ds := []) #[false, false, false, false, false, false, false, false, false] (by kernel_rfl) rfl rfl ⟨(blk_cell (blk_drew W0.out) 0).trans rfl, (blk_cell (blk_drew W0.out) 1).trans rfl, (blk_cell (blk_drew W1.out) 0).trans rfl, (blk_cell (blk_drew W1.out) 1).trans rfl, (blk_cell (blk_drew W1.out) 2).trans rfl, (blk_cell (blk_drew W1.out) 3).trans rfl, (blk_cell (blk_drew W1.out) 4).trans rfl⟩ (fun hHeld => ?_)
  have HBD := Aside0.mk (below_drew1 (Below.refl W.heap.size W))
  have C0 := Aside0.mk (blk_drew W0.out)
  have C1 := Aside0.mk (blk_drew W1.out)
  generalize W.drew = wd at HBD C0 C1 hHeld ⊢
  refine take_ (i := 0) (N := some 8) (v := ?_) (a' := ?_) #[true, false, false, false, false, false, false, false, false] rfl rfl (by kernel_rfl) (fun _ _ _ h => h) (Or.inl ⟨by rfl, ?_⟩) hHeld ?_ ?_
  rotate_left
  · rintro w' ⟨s0, s1, s2, s3, s4, s5, s6⟩
    go_simp
    with_reducible rfl
  rotate_left
  · simp only [Act.put, List.setIfInBounds_toArray, List.set_cons_zero, List.set_cons_succ, i64_w, i32_w]
    rfl
  refine take_ (i := 1) (N := some 9) (v := ?_) (a' := ?_) #[true, true, false, false, false, false, false, false, false] rfl rfl (by kernel_rfl) (fun _ _ _ h => h) (Or.inl ⟨by rfl, ?_⟩) hHeld ?_ ?_
  rotate_left
  · rintro w' ⟨s0, s1, s2, s3, s4, s5, s6⟩
    go_simp
    with_reducible rfl
  rotate_left
  · simp only [Act.put, List.setIfInBounds_toArray, List.set_cons_zero, List.set_cons_succ, i64_w, i32_w]
    rfl
  refine one_ (i := 2) (N := some 10) #[true, true, true, false, false, false, false, false, false] rfl rfl (by kernel_rfl) (by decide) (fun K hK => ?_)
  refine goes_ Try.func31 (by kernel_rfl) rfl #[.agg #[.int .i64 l.f0, .int .i64 l.f1, .int .i64 l.f2, .int .i64 l.f3, .bool l.f4]] (by rfl) rfl rfl (by (try simp only [List.map_toArray, List.map_cons, List.map_nil]); first | done | rfl) ?_
  refine (valid_calls l _).mono ?_
  rintro e w3 ⟨rfl, hb⟩
  refine ⟨_, rfl, ?_⟩
  have HB3 := Aside0.mk (below_step HBD.out hb)
  have D0 := Aside0.mk (blk_below C0.out hb)
  have D1 := Aside0.mk (blk_below C1.out hb)
  clear hb C0 W0 C1 W1
  refine hK.out _ _ ⟨(blk_cell (D0.out) 0).trans rfl, (blk_cell (D0.out) 1).trans rfl, (blk_cell (D1.out) 0).trans rfl, (blk_cell (D1.out) 1).trans rfl, (blk_cell (D1.out) 2).trans rfl, (blk_cell (D1.out) 3).trans rfl, (blk_cell (D1.out) 4).trans rfl⟩ (fun hHeld => ?_)
  clear hK K
  refine norm_ (a' := ?_) ?_ ?_
  rotate_left
  · show Act.put _ (some 10) _ = _
    simp only [Act.put, List.setIfInBounds_toArray, List.set_cons_zero, List.set_cons_succ, i64_w, i32_w]
    rfl
  refine one_ (i := 3) (N := some 11) #[true, true, true, true, false, false, false, false, false] rfl rfl (by kernel_rfl) (by decide) (fun K hK => ?_)
  refine goes_ Try.func56 (by kernel_rfl) rfl #[.agg #[.slice AH H.length cH, .slice AW Wt.length cW], .bool (vL l)] (by rfl) rfl rfl (by (try simp only [List.map_toArray, List.map_cons, List.map_nil]); first | done | rfl) ?_
  refine (begin_calls AH AW cH cW H Wt (vL l) _ (Kd.C_below HHW.out HB3.out) (Kd.C_below HWW.out HB3.out) hlen).mono ?_
  rintro e w4 hp
  skip
  by_cases hz : begE H Wt (vL l) = 0
  rotate_left
  · obtain ⟨rfl, hb⟩ := hp.bad hz
    refine ⟨_, rfl, ?_⟩
    have HB4 := Aside0.mk (below_step HB_W.out (below_step HB3.out hb))
    have E0 := Aside0.mk (blk_below D0.out hb)
    have E1 := Aside0.mk (blk_below D1.out hb)
    have HNE := Aside0.mk hz
    have HE := Aside0.mk (show mayF H Wt l = begE H Wt (vL l) by unfold mayF; rw [if_neg hz])
    have hnb : (begE H Wt (vL l) == 0) = false := by simpa using hz
    generalize begE H Wt (vL l) = E at HNE HE hnb ⊢
    clear hz hb hp
    refine hK.out _ _ ⟨(blk_cell (E0.out) 0).trans rfl, (blk_cell (E0.out) 1).trans rfl, (blk_cell (E1.out) 0).trans rfl, (blk_cell (E1.out) 1).trans rfl, (blk_cell (E1.out) 2).trans rfl, (blk_cell (E1.out) 3).trans rfl, (blk_cell (E1.out) 4).trans rfl⟩ (fun hHeld => ?_)
    clear hK K
    refine norm_ (a' := ?_) ?_ ?_
    rotate_left
    · show Act.put _ (some 11) _ = _
      simp only [Act.put, List.setIfInBounds_toArray, List.set_cons_zero, List.set_cons_succ, i64_w, i32_w]
      rfl
    refine pure_ (i := 4) (N := some 7) (v := ?_) (a' := ?_) #[true, true, true, true, true, false, false, false, false] rfl rfl (by kernel_rfl) (fun _ _ _ h => h) (Or.inl ⟨by rfl, ?_⟩) ?_ ?_
    rotate_left
    · intro w'
      go_simp
      with_reducible rfl
    rotate_left
    · simp only [Act.put, List.setIfInBounds_toArray, List.set_cons_zero, List.set_cons_succ, i64_w, i32_w]
      rfl
    refine pure_ (i := 5) (N := some 12) (v := ?_) (a' := ?_) #[true, true, true, true, true, true, false, false, false] rfl rfl (by kernel_rfl) (fun _ _ _ h => h) (Or.inl ⟨by rfl, ?_⟩) ?_ ?_
    rotate_left
    · intro w'
      go_simp
      with_reducible rfl
    rotate_left
    · simp only [Act.put, List.setIfInBounds_toArray, List.set_cons_zero, List.set_cons_succ, i64_w, i32_w]
      rfl
    refine pure_ (i := 6) (N := some 13) (v := ?_) (a' := ?_) #[true, true, true, true, true, true, true, false, false] rfl rfl (by kernel_rfl) (fun _ _ _ h => h) (Or.inl ⟨by rfl, ?_⟩) ?_ ?_
    rotate_left
    · intro w'
      go_simp
      with_reducible rfl
    rotate_left
    · simp only [Act.put, List.setIfInBounds_toArray, List.set_cons_zero, List.set_cons_succ, i64_w, i32_w]
      rfl
    refine pure_ (i := 7) (N := some 5) (v := ?_) (a' := ?_) #[true, true, true, true, true, true, true, true, false] rfl rfl (by kernel_rfl) (fun _ _ _ h => h) (Or.inl ⟨by rfl, ?_⟩) ?_ ?_
    rotate_left
    · intro w'
      go_simp
      with_reducible rfl
    rotate_left
    · simp only [Act.put, List.setIfInBounds_toArray, List.set_cons_zero, List.set_cons_succ, i64_w, i32_w]
      rfl
    refine pure_ (i := 8) (N := some 6) (v := ?_) (a' := ?_) #[true, true, true, true, true, true, true, true, true] rfl rfl (by kernel_rfl) (fun _ _ _ h => h) (Or.inl ⟨by rfl, ?_⟩) ?_ ?_
    rotate_left
    · intro w'
      go_simp
      with_reducible rfl
    rotate_left
    · simp only [Act.put, List.setIfInBounds_toArray, List.set_cons_zero, List.set_cons_succ, i64_w, i32_w]
      rfl
    refine done_ (by kernel_rfl) ?_
    clear hHeld
    go_wp2
    go_ret
    exact ⟨by rw [HE.out]; rfl, HB4.out⟩
  · obtain ⟨q, rfl, hT, hb⟩ := hp.good hz
    refine ⟨_, rfl, ?_⟩
    have HZ := Aside0.mk hz
    have HT := Aside0.mk (hT.mono HB3.out.size)
    have HB4 := Aside0.mk (below_step HB3.out hb)
    have E0 := Aside0.mk (blk_below D0.out hb)
    have E1 := Aside0.mk (blk_below D1.out hb)
    clear hT hz hb hp
    skip
    refine hK.out _ _ ⟨(blk_cell (E0.out) 0).trans rfl, (blk_cell (E0.out) 1).trans rfl, (blk_cell (E1.out) 0).trans rfl, (blk_cell (E1.out) 1).trans rfl, (blk_cell (E1.out) 2).trans rfl, (blk_cell (E1.out) 3).trans rfl, (blk_cell (E1.out) 4).trans rfl⟩ (fun hHeld => ?_)
    clear hK K
    refine norm_ (a' := ?_) ?_ ?_
    rotate_left
    · show Act.put _ (some 11) _ = _
      simp only [Act.put, List.setIfInBounds_toArray, List.set_cons_zero, List.set_cons_succ, i64_w, i32_w]
      rfl
    refine pure_ (i := 4) (N := some 7) (v := ?_) (a' := ?_) #[true, true, true, true, true, false, false, false, false] rfl rfl (by kernel_rfl) (fun _ _ _ h => h) (Or.inl ⟨by rfl, ?_⟩) ?_ ?_
    rotate_left
    · intro w'
      go_simp
      with_reducible rfl
    rotate_left
    · simp only [Act.put, List.setIfInBounds_toArray, List.set_cons_zero, List.set_cons_succ, i64_w, i32_w]
      rfl
    refine pure_ (i := 5) (N := some 12) (v := ?_) (a' := ?_) #[true, true, true, true, true, true, false, false, false] rfl rfl (by kernel_rfl) (fun _ _ _ h => h) (Or.inl ⟨by rfl, ?_⟩) ?_ ?_
    rotate_left
    · intro w'
      go_simp
      with_reducible rfl
    rotate_left
    · simp only [Act.put, List.setIfInBounds_toArray, List.set_cons_zero, List.set_cons_succ, i64_w, i32_w]
      rfl
    refine pure_ (i := 6) (N := some 13) (v := ?_) (a' := ?_) #[true, true, true, true, true, true, true, false, false] rfl rfl (by kernel_rfl) (fun _ _ _ h => h) (Or.inl ⟨by rfl, ?_⟩) ?_ ?_
    rotate_left
    · intro w'
      go_simp
      with_reducible rfl
    rotate_left
    · simp only [Act.put, List.setIfInBounds_toArray, List.set_cons_zero, List.set_cons_succ, i64_w, i32_w]
      rfl
    refine pure_ (i := 7) (N := some 5) (v := ?_) (a' := ?_) #[true, true, true, true, true, true, true, true, false] rfl rfl (by kernel_rfl) (fun _ _ _ h => h) (Or.inl ⟨by rfl, ?_⟩) ?_ ?_
    rotate_left
    · intro w'
      go_simp
      with_reducible rfl
    rotate_left
    · simp only [Act.put, List.setIfInBounds_toArray, List.set_cons_zero, List.set_cons_succ, i64_w, i32_w]
      rfl
    refine pure_ (i := 8) (N := some 6) (v := ?_) (a' := ?_) #[true, true, true, true, true, true, true, true, true] rfl rfl (by kernel_rfl) (fun _ _ _ h => h) (Or.inl ⟨by rfl, ?_⟩) ?_ ?_
    rotate_left
    · intro w'
      go_simp
      with_reducible rfl
    rotate_left
    · simp only [Act.put, List.setIfInBounds_toArray, List.set_cons_zero, List.set_cons_succ, i64_w, i32_w]
      rfl
    refine done_ (by kernel_rfl) ?_
    clear hHeld HH HW D0 D1 HBD HB3
    obtain ⟨vH, vW, vG, vN, hX⟩ := HT.out.x
    obtain ⟨A1, c1, rfl⟩ := Kd.R_slice hX.rH
    have HX := Aside0.mk hX
    have HLK := Aside0.mk (show Looks 63 #[.pointer (some ⟨w.heap.size + 1, 0, none⟩)] (fun x => mtL x l) w4 from
      { enters := enters_ Try.func63 (by kernel_rfl) rfl
        calls := fun x w3 hb => against63 (w.heap.size + 1) l x w3 (blk_below E1.out hb) })
    have z0 := (blk_cell hX.bq 0).trans rfl; have z1 := (blk_cell hX.bq 1).trans rfl; have z2 := (blk_cell hX.bq 2).trans rfl; have z3 := (blk_cell hX.bq 3).trans rfl
    clear hX
    cases ha : H.any (fun x => mtL x l) with
    | true =>
      have HE := Aside0.mk (show mayF H Wt l = 15 by unfold mayF; rw [if_pos HZ.out, ha]; rfl)
      have HA := Aside0.mk ha
      clear ha
      go_wp2_with ((with_reducible refine gate_dst (N := 23) rfl ?_); refine goesL_ (some 23) rfl rfl Try.func49 (by kernel_rfl) rfl #[.slice A1 H.length c1, .func (.func 63) #[] #[.pointer (some ⟨w.heap.size + 1, 0, none⟩)]] rfl (by (try simp only [List.map_toArray, List.map_cons, List.map_nil]); first | done | rfl) ?_; refine (contains_calls 63 _ _ A1 c1 H _ HLK.out (Kd.R_reads' HX.out.rH).2.2 (by omega)).mono ?_; rintro e w6 ⟨rfl, hb⟩; refine ⟨_, rfl, ?_⟩; rw [HA.out]; have HB6 := Aside0.mk (below_step HB_W.out (below_step HB4.out hb)); clear hb z0 z1 z2 z3)
      go_ret
      exact ⟨by rw [HE.out]; rfl, HB6.out⟩
    | false =>
      have HE := Aside0.mk (show mayF H Wt l = 0 by unfold mayF; rw [if_pos HZ.out, ha]; rfl)
      have HA := Aside0.mk ha
      clear ha
      go_wp2_with ((with_reducible refine gate_dst (N := 23) rfl ?_); refine goesL_ (some 23) rfl rfl Try.func49 (by kernel_rfl) rfl #[.slice A1 H.length c1, .func (.func 63) #[] #[.pointer (some ⟨w.heap.size + 1, 0, none⟩)]] rfl (by (try simp only [List.map_toArray, List.map_cons, List.map_nil]); first | done | rfl) ?_; refine (contains_calls 63 _ _ A1 c1 H _ HLK.out (Kd.R_reads' HX.out.rH).2.2 (by omega)).mono ?_; rintro e w6 ⟨rfl, hb⟩; refine ⟨_, rfl, ?_⟩; rw [HA.out]; have HB6 := Aside0.mk (below_step HB_W.out (below_step HB4.out hb)); clear hb z0 z1 z2 z3)
      go_ret
      exact ⟨by rw [HE.out]; rfl, HB6.out⟩
end Go.Proofs.Ytifnfnoicinbaaa.M
