/- lock.Try. -/
import Derived.Test.YtifnfnoicinbaaaC1
namespace Go.Proofs.Ytifnfnoicinbaaa.M
open Go.RowKit Go.Proofs.YtifnfnoicinbaaaW.PrintWords Go.Proofs.YtifnfnoicinbaaaW.PrintLast Go.Proofs.YtifnfnoicinbaaaW.PrintMore
set_option linter.unusedVariables false
set_option linter.unusedSimpArgs false
set_option linter.unnecessarySimpa false

set_option maxRecDepth 100000 in
set_option maxHeartbeats 2000000 in
theorem against48 (g : Nat) (l x : S24) (w : World) (hg : w.heap[g]? = some (.cells #[.int .i64 l.f0, .int .i64 l.f1, .int .i64 l.f2, .int .i64 l.f3, .bool l.f4] 24 (0, 0))) : Calls Try.prog 48 #[.agg #[.int .i64 x.f0, .int .i64 x.f1, .int .i64 x.f2, .int .i64 x.f3, .bool x.f4], .pointer (some ⟨g, 0, none⟩)] w fun e w' => e = .returned (.bool (mtL x l)) ∧ Below w.heap.size w w' := by
  have g0 := (blk_cell hg 0).trans rfl; have g1 := (blk_cell hg 1).trans rfl; have g2 := (blk_cell hg 2).trans rfl; have g3 := (blk_cell hg 3).trans rfl; have g4 := (blk_cell hg 4).trans rfl
  have lg := blk_lt hg
  clear hg
  have HB0 := Aside0.mk (below_alloc (Below.refl _ w) (.cells #[.int .i64 x.f0, .int .i64 x.f1, .int .i64 x.f2, .int .i64 x.f3, .bool x.f4] 24))
  go_enter Try.func48, Try.ntmps48
  go_wp2_with ((with_reducible refine gate_dst (N := 6) rfl ?_); refine goesL_ (some 6) rfl rfl Try.func43 (by kernel_rfl) rfl #[.agg #[.int .i64 x.f0, .int .i64 x.f1, .int .i64 x.f2, .int .i64 x.f3, .bool x.f4], .agg #[.int .i64 l.f0, .int .i64 l.f1, .int .i64 l.f2, .int .i64 l.f3, .bool l.f4]] rfl (by (try simp only [List.map_toArray, List.map_cons, List.map_nil]); first | done | rfl) ?_; refine (meet_calls _ _ _).mono ?_; rintro e w3 ⟨rfl, hb⟩; refine ⟨_, rfl, ?_⟩; have HB3 := Aside0.mk (below_step HB0.out hb); clear hb g0 g1 g2 g3 g4)
  go_ret
  exact ⟨rfl, HB3.out⟩
set_option maxRecDepth 100000 in
set_option maxHeartbeats 2000000 in
theorem tryL_calls (AH AW : Option Addr) (cH cW : Nat) (H Wt : List S24) (l : S24) (w : World) (hH : k24.C w AH H.length H) (hW : k24.C w AW Wt.length Wt) (hlen : H.length + Wt.length ≤ 1000) :
    Calls Try.prog 21 #[.agg #[.slice AH H.length cH, .slice AW Wt.length cW], .agg #[.int .i64 l.f0, .int .i64 l.f1, .int .i64 l.f2, .int .i64 l.f3, .bool l.f4]] w fun e w' => RetT w (tryF H Wt l).1 (tryF H Wt l).2 e w' := by
  have HH := Aside0.mk hH
  have HW := Aside0.mk hW
  clear hH hW
  go_enter Try.func21, Try.ntmps21
  go_upto_region 1 with (fail)
  have hb_ := below_alloc (below_alloc (below_alloc (Below.refl _ w) (.cells #[.slice AH H.length cH, .slice AW Wt.length cW] 29)) (.cells #[.int .i64 l.f0, .int .i64 l.f1, .int .i64 l.f2, .int .i64 l.f3, .bool l.f4] 24)) (.cells #[.slice none 0 0, .slice none 0 0] 29)
  have hG0_ := blk_alloc (blk_alloc (blk_lit0 w (.cells #[.slice AH H.length cH, .slice AW Wt.length cW] 29)) (.cells #[.int .i64 l.f0, .int .i64 l.f1, .int .i64 l.f2, .int .i64 l.f3, .bool l.f4] 24)) (.cells #[.slice none 0 0, .slice none 0 0] 29)
  have hG1_ := blk_alloc (blk_lit w (.cells #[.slice AH H.length cH, .slice AW Wt.length cW] 29) (.cells #[.int .i64 l.f0, .int .i64 l.f1, .int .i64 l.f2, .int .i64 l.f3, .bool l.f4] 24)) (.cells #[.slice none 0 0, .slice none 0 0] 29)
  have hG2_ := blk_lit2 w (.cells #[.slice AH H.length cH, .slice AW Wt.length cW] 29) (.cells #[.int .i64 l.f0, .int .i64 l.f1, .int .i64 l.f2, .int .i64 l.f3, .bool l.f4] 24) (.cells #[.slice none 0 0, .slice none 0 0] 29)
  generalize (((w.alloc (.cells #[.slice AH H.length cH, .slice AW Wt.length cW] 29)).alloc (.cells #[.int .i64 l.f0, .int .i64 l.f1, .int .i64 l.f2, .int .i64 l.f3, .bool l.f4] 24)).alloc (.cells #[.slice none 0 0, .slice none 0 0] 29)) = W at hb_ hG0_ hG1_ hG2_ ⊢
  have HB_W := Aside0.mk hb_
  have W0 := Aside0.mk hG0_
  have W1 := Aside0.mk hG1_
  have W2 := Aside0.mk hG2_
  clear hb_ hG0_ hG1_ hG2_
  have HHW := Aside0.mk (Kd.C_below HH.out HB_W.out)
  have HWW := Aside0.mk (Kd.C_below HW.out HB_W.out)
  have K1 := Aside0.mk (show w.heap.size + 1 < W.heap.size from blk_lt W1.out)
  have K4 := Aside0.mk (show w.heap.size + 1 + 1 < W.heap.size from blk_lt W2.out)
  have x0 := (blk_cell W0.out 0).trans rfl
  have x1 := (blk_cell W0.out 1).trans rfl
  have y0 := (blk_cell W1.out 0).trans rfl; have y1 := (blk_cell W1.out 1).trans rfl; have y2 := (blk_cell W1.out 2).trans rfl; have y3 := (blk_cell W1.out 3).trans rfl; have y4 := (blk_cell W1.out 4).trans rfl
  by_cases hz : reqE H Wt l = 0
  rotate_left
  · have HZ := Aside0.mk hz
    have HE := Aside0.mk (show tryF H Wt l = (([], []), reqE H Wt l) by unfold tryF; rw [if_neg hz])
    have hnb : (reqE H Wt l == 0) = false := by simpa using hz
    clear hz
    go_upto_region 3 with ((with_reducible refine gate_dst (N := 12) rfl ?_); refine goesL_ (some 12) rfl rfl Try.func45 (by kernel_rfl) rfl #[.agg #[.slice AH H.length cH, .slice AW Wt.length cW], .agg #[.int .i64 l.f0, .int .i64 l.f1, .int .i64 l.f2, .int .i64 l.f3, .bool l.f4]] rfl (by (try simp only [List.map_toArray, List.map_cons, List.map_nil]); first | done | rfl) ?_; refine (request_calls AH AW cH cW H Wt l _ HHW.out HWW.out hlen).mono ?_; rintro e w4 hp; obtain ⟨rfl, hb⟩ := hp.bad HZ.out; refine ⟨_, rfl, ?_⟩; have HB4 := Aside0.mk (below_step HB_W.out hb); have E2 := Aside0.mk (blk_below W2.out hb); clear hb hp x0 x1 y0 y1 y2 y3 y4)
    generalize reqE H Wt l = E at HE hnb HZ ⊢
    have r0 := (blk_cell E2.out 0).trans rfl; have r1 := (blk_cell E2.out 1).trans rfl
    have fr0 := blk_frozen E2.out 0; have fr1 := blk_frozen E2.out 1
    have P4 := Aside0.mk (put_two (n := w.heap.size) (w := w) (.slice none 0 0) (.slice none 0 0) E2.out HB4.out (by omega))
    go_wp2
    refine bodyPost_ret (results_cellT rfl rfl (loadVar_two 29 (by kernel_rfl) (by kernel_rfl) P4.out.1)) rfl ?_
    show RetT w (tryF H Wt l).1 (tryF H Wt l).2 _ _
    rw [HE.out]
    exact ⟨_, rfl, tabV_nil _ _, P4.out.2⟩
  · have HZ := Aside0.mk hz
    have HUF := Aside0.mk (show tryF H Wt l = (if H.any (fun x => mtL x l) || Wt.any (fun x => mtL x l) then (([], []), 15) else ((H ++ [l], Wt), 0)) by unfold tryF; rw [if_pos hz])
    clear hz
    go_upto_region 5 with ((with_reducible refine gate_dst (N := 12) rfl ?_); refine goesL_ (some 12) rfl rfl Try.func45 (by kernel_rfl) rfl #[.agg #[.slice AH H.length cH, .slice AW Wt.length cW], .agg #[.int .i64 l.f0, .int .i64 l.f1, .int .i64 l.f2, .int .i64 l.f3, .bool l.f4]] rfl (by (try simp only [List.map_toArray, List.map_cons, List.map_nil]); first | done | rfl) ?_; refine (request_calls AH AW cH cW H Wt l _ HHW.out HWW.out hlen).mono ?_; rintro e w4 hp; obtain ⟨q, rfl, hT, hb⟩ := hp.good HZ.out; refine ⟨_, rfl, ?_⟩; have HT := Aside0.mk hT; have HB4 := Aside0.mk hb; have E1 := Aside0.mk (blk_below W1.out hb); have E2 := Aside0.mk (blk_below W2.out hb); clear hb hp hT x0 x1 y0 y1 y2 y3 y4)
    obtain ⟨vH, vW, vG, vN, hX⟩ := HT.out.x
    obtain ⟨A1, c1, rfl⟩ := Kd.R_slice hX.rH
    obtain ⟨A2, c2, rfl⟩ := Kd.R_slice hX.rW
    have HX := Aside0.mk hX
    have HLK := Aside0.mk (show Looks 48 #[.pointer (some ⟨w.heap.size + 1, 0, none⟩)] (fun x => mtL x l) w4 from { enters := enters_ Try.func48 (by kernel_rfl) rfl, calls := fun x w3 hb => against48 (w.heap.size + 1) l x w3 (blk_below E1.out hb) })
    have z0 := (blk_cell hX.bq 0).trans rfl; have z1 := (blk_cell hX.bq 1).trans rfl; have z2 := (blk_cell hX.bq 2).trans rfl; have z3 := (blk_cell hX.bq 3).trans rfl
    clear hX
    cases ha : H.any (fun x => mtL x l) with
    | true =>
      have HE := Aside0.mk (show tryF H Wt l = (([], []), 15) by rw [HUF.out, ha]; rfl)
      have HA := Aside0.mk ha
      clear ha
      go_upto_region 6 with ((with_reducible refine gate_dst (N := 26) rfl ?_); refine goesL_ (some 26) rfl rfl Try.func49 (by kernel_rfl) rfl #[.slice A1 H.length c1, .func (.func 48) #[] #[.pointer (some ⟨w.heap.size + 1, 0, none⟩)]] rfl (by (try simp only [List.map_toArray, List.map_cons, List.map_nil]); first | done | rfl) ?_; refine (contains_calls 48 _ _ A1 c1 H _ HLK.out (Kd.R_reads' HX.out.rH).2.2 (by omega)).mono ?_; rintro e w6 ⟨rfl, hb⟩; refine ⟨_, rfl, ?_⟩; rw [HA.out]; have HB6 := Aside0.mk (below_step HB_W.out (below_step HB4.out hb)); have E2 := Aside0.mk (blk_below E2.out hb); clear hb z0 z1 z2 z3)
      have r0 := (blk_cell E2.out 0).trans rfl; have r1 := (blk_cell E2.out 1).trans rfl
      have fr0 := blk_frozen E2.out 0; have fr1 := blk_frozen E2.out 1
      have P4 := Aside0.mk (put_two (n := w.heap.size) (w := w) (.slice none 0 0) (.slice none 0 0) E2.out HB6.out (by omega))
      go_wp2
      refine bodyPost_ret (results_cellT rfl rfl (loadVar_two 29 (by kernel_rfl) (by kernel_rfl) P4.out.1)) rfl ?_
      show RetT w (tryF H Wt l).1 (tryF H Wt l).2 _ _
      rw [HE.out]
      exact ⟨_, rfl, tabV_nil _ _, P4.out.2⟩
    | false =>
      have HA := Aside0.mk ha
      go_wp2_with ((with_reducible refine gate_dst (N := 26) rfl ?_); refine goesL_ (some 26) rfl rfl Try.func49 (by kernel_rfl) rfl #[.slice A1 H.length c1, .func (.func 48) #[] #[.pointer (some ⟨w.heap.size + 1, 0, none⟩)]] rfl (by (try simp only [List.map_toArray, List.map_cons, List.map_nil]); first | done | rfl) ?_; refine (contains_calls 48 _ _ A1 c1 H _ HLK.out (Kd.R_reads' HX.out.rH).2.2 (by omega)).mono ?_; rintro e w6 ⟨rfl, hb⟩; refine ⟨_, rfl, ?_⟩; rw [HA.out]; have HB6 := Aside0.mk hb; have HX6 := Aside0.mk (HX.out.below hb); have hx6 := HX6.out.bq; clear hb z0 z1 z2 z3; have z0 := (blk_cell hx6 0).trans rfl; have z1 := (blk_cell hx6 1).trans rfl; have z2 := (blk_cell hx6 2).trans rfl; have z3 := (blk_cell hx6 3).trans rfl; clear hx6)
      refine (contains_calls 48 _ _ A2 c2 Wt _ ⟨HLK.out.enters, fun x w3 hb => HLK.out.calls x w3 (below_step HB6.out hb)⟩ (Kd.R_reads' HX6.out.rW).2.2 (by omega)).mono ?_
      rintro e w7 ⟨rfl, hb⟩
      have HT := Aside0.mk (HX6.out.below hb).o
      have hb2 := below_step HB6.out hb
      have HB7 := Aside0.mk (below_step HB_W.out (below_step HB4.out hb2))
      have HB4 := Aside0.mk (below_step HB4.out hb2)
      have E1 := Aside0.mk (blk_below E1.out hb2)
      have E2 := Aside0.mk (blk_below E2.out hb2)
      clear hb hb2 z0 z1 z2 z3 HX HX6 HB6
      cases hw : Wt.any (fun x => mtL x l) with
      | true =>
        have HE := Aside0.mk (show tryF H Wt l = (([], []), 15) by rw [HUF.out, ha, hw]; rfl)
        clear ha hw
        go_upto_region 6 with (fail)
        have r0 := (blk_cell E2.out 0).trans rfl; have r1 := (blk_cell E2.out 1).trans rfl
        have fr0 := blk_frozen E2.out 0; have fr1 := blk_frozen E2.out 1
        have P4 := Aside0.mk (put_two (n := w.heap.size) (w := w) (.slice none 0 0) (.slice none 0 0) E2.out HB7.out (by omega))
        go_wp2
        refine bodyPost_ret (results_cellT rfl rfl (loadVar_two 29 (by kernel_rfl) (by kernel_rfl) P4.out.1)) rfl ?_
        show RetT w (tryF H Wt l).1 (tryF H Wt l).2 _ _
        rw [HE.out]
        exact ⟨_, rfl, tabV_nil _ _, P4.out.2⟩
      | false =>
        have HE0 := Aside0.mk (show tryF H Wt l = ((H ++ [l], Wt), 0) by rw [HUF.out, ha, hw]; rfl)
        clear ha hw HB7
        go_upto_region 7 with (fail)
        obtain ⟨vH, vW, vG, vN, hX⟩ := HT.out.x
        refine start_ (n := 13) (S := fun w' => w'.cell? ⟨q, 0, none⟩ = some vH ∧ w'.cell? ⟨w.heap.size + 1, 0, none⟩ = some (.int .i64 l.f0) ∧ w'.cell? ⟨w.heap.size + 1, 1, none⟩ = some (.int .i64 l.f1) ∧ w'.cell? ⟨w.heap.size + 1, 2, none⟩ = some (.int .i64 l.f2) ∧ w'.cell? ⟨w.heap.size + 1, 3, none⟩ = some (.int .i64 l.f3) ∧ w'.cell? ⟨w.heap.size + 1, 4, none⟩ = some (.bool l.f4)) (ds := [12]) #[false, false, false, false, false, false, false, false, false, false, false, false, false] (by kernel_rfl) rfl rfl ⟨(blk_cell (blk_drew hX.bq) 0).trans rfl, (blk_cell (blk_drew E1.out) 0).trans rfl, (blk_cell (blk_drew E1.out) 1).trans rfl, (blk_cell (blk_drew E1.out) 2).trans rfl, (blk_cell (blk_drew E1.out) 3).trans rfl, (blk_cell (blk_drew E1.out) 4).trans rfl⟩ (fun hHeld => ?_)
        have hbd := below_drew1 (Below.refl w7.heap.size w7)
        have HX5 := Aside0.mk (hX.below hbd)
        have HB5 := Aside0.mk (below_step HB4.out hbd)
        have E1 := Aside0.mk (blk_below E1.out hbd)
        have E2 := Aside0.mk (blk_below E2.out hbd)
        clear hbd hX HB4 HT
        generalize w7.drew = wd at HX5 HB5 E1 E2 hHeld ⊢
        refine pure_ (i := 0) (N := some 37) (v := ?_) (a' := ?_) #[true, false, false, false, false, false, false, false, false, false, false, false, false] rfl rfl (by kernel_rfl) (fun _ _ _ h => h) (Or.inl ⟨by rfl, ?_⟩) ?_ ?_
        rotate_left
        · intro w'
          go_simp
          with_reducible rfl
        rotate_left
        · simp only [Act.put, List.setIfInBounds_toArray, List.set_cons_zero, List.set_cons_succ, i64_w, i32_w]
          rfl
        refine pure_ (i := 1) (N := some 38) (v := ?_) (a' := ?_) #[true, true, false, false, false, false, false, false, false, false, false, false, false] rfl rfl (by kernel_rfl) (fun _ _ _ h => h) (Or.inl ⟨by rfl, ?_⟩) ?_ ?_
        rotate_left
        · intro w'
          go_simp
          with_reducible rfl
        rotate_left
        · simp only [Act.put, List.setIfInBounds_toArray, List.set_cons_zero, List.set_cons_succ, i64_w, i32_w]
          rfl
        refine pure_ (i := 2) (N := some 39) (v := ?_) (a' := ?_) #[true, true, true, false, false, false, false, false, false, false, false, false, false] rfl rfl (by kernel_rfl) (fun _ _ _ h => h) (Or.inl ⟨by rfl, ?_⟩) ?_ ?_
        rotate_left
        · intro w'
          go_simp
          with_reducible rfl
        rotate_left
        · simp only [Act.put, List.setIfInBounds_toArray, List.set_cons_zero, List.set_cons_succ, i64_w, i32_w]
          rfl
        refine pure_ (i := 3) (N := some 40) (v := ?_) (a' := ?_) #[true, true, true, true, false, false, false, false, false, false, false, false, false] rfl rfl (by kernel_rfl) (fun _ _ _ h => h) (Or.inl ⟨by rfl, ?_⟩) ?_ ?_
        rotate_left
        · intro w'
          go_simp
          with_reducible rfl
        rotate_left
        · simp only [Act.put, List.setIfInBounds_toArray, List.set_cons_zero, List.set_cons_succ, i64_w, i32_w]
          rfl
        refine pure_ (i := 4) (N := some 41) (v := ?_) (a' := ?_) #[true, true, true, true, true, false, false, false, false, false, false, false, false] rfl rfl (by kernel_rfl) (fun _ _ _ h => h) (Or.inl ⟨by rfl, ?_⟩) ?_ ?_
        rotate_left
        · intro w'
          go_simp
          with_reducible rfl
        rotate_left
        · simp only [Act.put, List.setIfInBounds_toArray, List.set_cons_zero, List.set_cons_succ, i64_w, i32_w]
          rfl
        refine take_ (i := 5) (N := some 42) (v := ?_) (a' := ?_) #[true, true, true, true, true, true, false, false, false, false, false, false, false] rfl rfl (by kernel_rfl) (fun _ _ _ h => h) (Or.inl ⟨by rfl, ?_⟩) hHeld ?_ ?_
        rotate_left
        · rintro w' ⟨s0, s1, s2, s3, s4, s5⟩
          go_simp
          with_reducible rfl
        rotate_left
        · simp only [Act.put, List.setIfInBounds_toArray, List.set_cons_zero, List.set_cons_succ, i64_w, i32_w]
          rfl
        refine take_ (i := 6) (N := some 43) (v := ?_) (a' := ?_) #[true, true, true, true, true, true, true, false, false, false, false, false, false] rfl rfl (by kernel_rfl) (fun _ _ _ h => h) (Or.inl ⟨by rfl, ?_⟩) hHeld ?_ ?_
        rotate_left
        · rintro w' ⟨s0, s1, s2, s3, s4, s5⟩
          go_simp
          with_reducible rfl
        rotate_left
        · simp only [Act.put, List.setIfInBounds_toArray, List.set_cons_zero, List.set_cons_succ, i64_w, i32_w]
          rfl
        refine one_ (i := 7) (N := some 44) #[true, true, true, true, true, true, true, true, false, false, false, false, false] rfl rfl (by kernel_rfl) (by decide) (fun K hK => ?_)
        refine event_step (v := .slice (some ⟨(wd).heap.size, 0, none⟩) 1 1) (w1 := (wd).alloc (.cells #[.int .i64 l.f0, .int .i64 l.f1, .int .i64 l.f2, .int .i64 l.f3, .bool l.f4] 24)) (by rfl) (by first | (go_simp; done) | (go_simp; rfl)) ?_
        refine hK.out _ _ ⟨(blk_cell (blk_alloc HX5.out.bq _) 0).trans rfl, (blk_cell (blk_alloc E1.out _) 0).trans rfl, (blk_cell (blk_alloc E1.out _) 1).trans rfl, (blk_cell (blk_alloc E1.out _) 2).trans rfl, (blk_cell (blk_alloc E1.out _) 3).trans rfl, (blk_cell (blk_alloc E1.out _) 4).trans rfl⟩ (fun hHeld => ?_)
        clear hK K
        refine norm_ (a' := ?_) ?_ ?_
        rotate_left
        · show Act.put _ (some 44) _ = _
          simp only [Act.put, List.setIfInBounds_toArray, List.set_cons_zero, List.set_cons_succ, i64_w, i32_w]
          rfl
        refine one_ (i := 8) (N := some 45) #[true, true, true, true, true, true, true, true, true, false, false, false, false] rfl rfl (by kernel_rfl) (by decide) (fun K hK => ?_)
        refine Kd.R_append_step k24 (w0 := _) W.heap.size (by rfl) (.tmp 42) (.tmp 44) 27 24 (.agg #[(.int .i64 0), (.int .i64 0), (.int .i64 0), (.int .i64 0), (.bool false)]) 40 rfl Try.underlying27 info24 rfl (by decide) (by omega) vH (H) (l) [.int .i64 (l).f0, .int .i64 (l).f1, .int .i64 (l).f2, .int .i64 (l).f3, .bool (l).f4] (fun _ => True) (fun _ => False) rfl rfl (k24_mkM _ _ _ _) (fun _ hk => hk.elim) (fun _ _ => trivial) (HX5.out.rH) (HB5.out) (HB5.out.size) (by have := hlen; omega) ?_
        intro v8 w8 ho hb hg hat
        obtain ⟨LL, hLL⟩ : ∃ LL, LL = H ++ [l] := ⟨_, rfl⟩
        rw [← hLL] at ho
        have HLL := Aside0.mk hLL
        obtain ⟨A8, c8, rfl⟩ := Kd.R_slice ho
        have HRH := Aside0.mk ho
        have HGH := Aside0.mk hg
        have HAT := Aside0.mk hat
        have HQ8 := Aside0.mk (blk_grown HX5.out.bq hg (Kd.R_ne HX5.out.rH HX5.out.bq (by decide)))
        have E1 := Aside0.mk (blk_grown E1.out hg (fun e => by have h1 := Kd.R_base HX5.out.rH _ e.symm; have h2 := K1.out; omega))
        clear ho hb hg hat hLL
        refine hK.out _ _ ⟨(blk_cell HQ8.out 0).trans rfl, (blk_cell (E1.out) 0).trans rfl, (blk_cell (E1.out) 1).trans rfl, (blk_cell (E1.out) 2).trans rfl, (blk_cell (E1.out) 3).trans rfl, (blk_cell (E1.out) 4).trans rfl⟩ (fun hHeld => ?_)
        clear hK K
        refine norm_ (a' := ?_) ?_ ?_
        rotate_left
        · show Act.put _ (some 45) _ = _
          simp only [Act.put, List.setIfInBounds_toArray, List.set_cons_zero, List.set_cons_succ, i64_w, i32_w]
          rfl
        refine pure_ (i := 9) (N := some 46) (v := ?_) (a' := ?_) #[true, true, true, true, true, true, true, true, true, true, false, false, false] rfl rfl (by kernel_rfl) (fun _ _ _ h => h) (Or.inl ⟨by rfl, ?_⟩) ?_ ?_
        rotate_left
        · intro w'
          go_simp
          with_reducible rfl
        rotate_left
        · simp only [Act.put, List.setIfInBounds_toArray, List.set_cons_zero, List.set_cons_succ, i64_w, i32_w]
          rfl
        refine pure_ (i := 10) (N := some 47) (v := ?_) (a' := ?_) #[true, true, true, true, true, true, true, true, true, true, true, false, false] rfl rfl (by kernel_rfl) (fun _ _ _ h => h) (Or.inl ⟨by rfl, ?_⟩) ?_ ?_
        rotate_left
        · intro w'
          go_simp
          with_reducible rfl
        rotate_left
        · simp only [Act.put, List.setIfInBounds_toArray, List.set_cons_zero, List.set_cons_succ, i64_w, i32_w]
          rfl
        refine pure_ (i := 11) (N := some 48) (v := ?_) (a' := ?_) #[true, true, true, true, true, true, true, true, true, true, true, true, false] rfl rfl (by kernel_rfl) (fun _ _ _ h => h) (Or.inl ⟨by rfl, ?_⟩) ?_ ?_
        rotate_left
        · intro w'
          go_simp
          with_reducible rfl
        rotate_left
        · simp only [Act.put, List.setIfInBounds_toArray, List.set_cons_zero, List.set_cons_succ, i64_w, i32_w]
          rfl
        have z0 := (blk_cell HQ8.out 0).trans rfl; have z1 := (blk_cell HQ8.out 1).trans rfl; have z2 := (blk_cell HQ8.out 2).trans rfl; have z3 := (blk_cell HQ8.out 3).trans rfl
        have fz0 := blk_frozen HQ8.out 0; have fz1 := blk_frozen HQ8.out 1; have fz2 := blk_frozen HQ8.out 2; have fz3 := blk_frozen HQ8.out 3
        refine last_ (i := 12) (N := none) #[true, true, true, true, true, true, true, true, true, true, true, true, true] rfl rfl (by kernel_rfl) (by decide) (fun K hK => ?_)
        refine skip_ (w1 := ?_) (by rfl) rfl ?_ ?_
        rotate_left
        · go_simp
          rfl
        refine hK.out _ _ ?_
        clear hK K
        refine done_ (by kernel_rfl) ?_
        have HX7 := Aside0.mk (HX5.out.setH HRH.out HGH.out HAT.out)
        have HB7 := Aside0.mk (below_row HX5.out.rH HB5.out HB5.out.size HGH.out HX5.out.hq 0 (.slice A8 LL.length c8))
        have G2 := Aside0.mk ((below_row HX5.out.rH (Below.refl _ wd |>.mono HB5.out.size) HB5.out.size HGH.out HX5.out.hq 0 (.slice A8 LL.length c8)).block _ K4.out |>.trans E2.out)
        clear HX5 HB5 HRH HGH HAT HQ8 hHeld z0 z1 z2 z3 fz0 fz1 fz2 fz3
        generalize w8.setCell ⟨q, 0, none⟩ (.slice A8 LL.length c8) = w9 at HX7 HB7 G2 ⊢
        have HTO := Aside0.mk HX7.out.o
        rw [← HLL.out] at HE0
        obtain ⟨A7, c7, hvW⟩ := Kd.R_slice HX7.out.rW
        have hq7 := HX7.out.bq
        subst hvW
        have z0 := (blk_cell hq7 0).trans rfl; have z1 := (blk_cell hq7 1).trans rfl; have z2 := (blk_cell hq7 2).trans rfl; have z3 := (blk_cell hq7 3).trans rfl
        clear hq7
        have r0 := (blk_cell G2.out 0).trans rfl; have r1 := (blk_cell G2.out 1).trans rfl
        have fr0 := blk_frozen G2.out 0; have fr1 := blk_frozen G2.out 1
        have P4 := Aside0.mk (put_two (n := w.heap.size) (w := w) (.slice A8 LL.length c8) (.slice A7 Wt.length c7) G2.out (below_step HB_W.out HB7.out) (by omega))
        have S1 := Aside0.mk (R_two (.slice A8 LL.length c8) (.slice A7 Wt.length c7) HX7.out.rH G2.out (by decide))
        have S2 := Aside0.mk (R_two (.slice A8 LL.length c8) (.slice A7 Wt.length c7) HX7.out.rW G2.out (by decide))
        go_wp2
        refine bodyPost_ret (results_cellT rfl rfl (loadVar_two 29 (by kernel_rfl) (by kernel_rfl) P4.out.1)) rfl ?_
        show RetT w (tryF H Wt l).1 (tryF H Wt l).2 _ _
        rw [HE0.out]
        exact ⟨_, rfl, ⟨_, _, rfl, Kd.R_lower S1.out HB_W.out.size, Kd.R_lower S2.out HB_W.out.size⟩, P4.out.2⟩
end Go.Proofs.Ytifnfnoicinbaaa.M
