/- The reference's agree and Agrees answer what the program's do. -/
import Derived.Test.YtgocgjfaiddejaaHV
namespace Go.Proofs.Ytgocgjfaiddejaa.M
open Go.RowKit Go.Proofs.YtgocgjfaiddejaaW.PrintWords Go.Proofs.YtgocgjfaiddejaaW.PrintLast Go.Proofs.YtgocgjfaiddejaaW.PrintMore
set_option linter.unusedVariables false
set_option linter.unusedSimpArgs false
set_option linter.unnecessarySimpa false

set_option maxRecDepth 100000 in
set_option maxHeartbeats 2000000 in
theorem rAgree_prot (o1 o2 : Int) (b1 : Bool) (A1 A2 : Option Addr) (c1 c2 : Nat) (l1 l2 : List S37) (dir : Bool) (w : World) :
    Calls Try.prog 65 #[.agg #[.int .i64 o1, .bool b1, .slice A1 l1.length c1], .agg #[.int .i64 o2, .bool true, .slice A2 l2.length c2], .bool dir] w fun e w' => e = .returned (.bool true) ∧ Below w.heap.size w w' := by
  go_enter Try.func65, Try.ntmps65
  go_upto_region 1 with (fail)
  have hb_ := below_alloc (below_alloc (Below.refl _ w) (.cells #[.int .i64 o1, .bool b1, .slice A1 l1.length c1] 33)) (.cells #[.int .i64 o2, .bool true, .slice A2 l2.length c2] 33)
  have hG0_ := blk_alloc (blk_lit0 w (.cells #[.int .i64 o1, .bool b1, .slice A1 l1.length c1] 33)) (.cells #[.int .i64 o2, .bool true, .slice A2 l2.length c2] 33)
  have hG1_ := blk_lit w (.cells #[.int .i64 o1, .bool b1, .slice A1 l1.length c1] 33) (.cells #[.int .i64 o2, .bool true, .slice A2 l2.length c2] 33)
  generalize ((w.alloc (.cells #[.int .i64 o1, .bool b1, .slice A1 l1.length c1] 33)).alloc (.cells #[.int .i64 o2, .bool true, .slice A2 l2.length c2] 33)) = W at hb_ hG0_ hG1_ ⊢
  have HB_W := Aside0.mk hb_
  have W0 := Aside0.mk hG0_
  have W1 := Aside0.mk hG1_
  clear hb_ hG0_ hG1_
  refine start_ (n := 15) (S := fun w' => w'.cell? ⟨w.heap.size + 1, 1, none⟩ = some (.bool true) ∧ Below w.heap.size w w') (ds := []) #[false, false, false, false, false, false, false, false, false, false, false, false, false, false, false] (by kernel_rfl) rfl rfl ⟨(blk_cell (blk_drew W1.out) 1).trans rfl, below_drew1 HB_W.out⟩ (fun hHeld => ?_)
  refine pure_ (i := 0) (N := some 7) (v := ?_) (a' := ?_) #[true, false, false, false, false, false, false, false, false, false, false, false, false, false, false] rfl rfl (by kernel_rfl) (fun _ _ _ h => h) (Or.inl ⟨by rfl, ?_⟩) ?_ ?_
  rotate_left
  · intro w'
    go_simp
    with_reducible rfl
  rotate_left
  · simp only [Act.put, List.setIfInBounds_toArray, List.set_cons_zero, List.set_cons_succ, i64_w, i32_w]
    rfl
  refine take_ (i := 1) (N := some 8) (v := ?_) (a' := ?_) #[true, true, false, false, false, false, false, false, false, false, false, false, false, false, false] rfl rfl (by kernel_rfl) (fun _ _ _ h => h) (Or.inl ⟨by rfl, ?_⟩) hHeld ?_ ?_
  rotate_left
  · rintro w' ⟨s0, s1⟩
    go_simp
    with_reducible rfl
  rotate_left
  · simp only [Act.put, List.setIfInBounds_toArray, List.set_cons_zero, List.set_cons_succ, i64_w, i32_w]
    rfl
  refine pure_ (i := 2) (N := some 9) (v := ?_) (a' := ?_) #[true, true, true, false, false, false, false, false, false, false, false, false, false, false, false] rfl rfl (by kernel_rfl) (fun _ _ _ h => h) (Or.inl ⟨by rfl, ?_⟩) ?_ ?_
  rotate_left
  · intro w'
    go_simp
    with_reducible rfl
  rotate_left
  · simp only [Act.put, List.setIfInBounds_toArray, List.set_cons_zero, List.set_cons_succ, i64_w, i32_w]
    rfl
  refine pure_ (i := 3) (N := some 10) (v := undef) (a' := ?_) #[true, true, true, true, false, false, false, false, false, false, false, false, false, false, false] rfl rfl (by kernel_rfl) (fun _ _ _ h => h) (Or.inr ⟨by rfl, rfl⟩) ?_ ?_
  rotate_left
  · simp only [Act.put, List.setIfInBounds_toArray, List.set_cons_zero, List.set_cons_succ, i64_w, i32_w]
    rfl
  refine pure_ (i := 4) (N := some 11) (v := undef) (a' := ?_) #[true, true, true, true, true, false, false, false, false, false, false, false, false, false, false] rfl rfl (by kernel_rfl) (fun _ _ _ h => h) (Or.inr ⟨by rfl, rfl⟩) ?_ ?_
  rotate_left
  · simp only [Act.put, List.setIfInBounds_toArray, List.set_cons_zero, List.set_cons_succ, i64_w, i32_w]
    rfl
  refine pure_ (i := 5) (N := some 12) (v := undef) (a' := ?_) #[true, true, true, true, true, true, false, false, false, false, false, false, false, false, false] rfl rfl (by kernel_rfl) (fun _ _ _ h => h) (Or.inr ⟨by rfl, rfl⟩) ?_ ?_
  rotate_left
  · simp only [Act.put, List.setIfInBounds_toArray, List.set_cons_zero, List.set_cons_succ, i64_w, i32_w]
    rfl
  refine pure_ (i := 6) (N := some 13) (v := undef) (a' := ?_) #[true, true, true, true, true, true, true, false, false, false, false, false, false, false, false] rfl rfl (by kernel_rfl) (fun _ _ _ h => h) (Or.inr ⟨by rfl, rfl⟩) ?_ ?_
  rotate_left
  · simp only [Act.put, List.setIfInBounds_toArray, List.set_cons_zero, List.set_cons_succ, i64_w, i32_w]
    rfl
  refine pure_ (i := 7) (N := some 14) (v := undef) (a' := ?_) #[true, true, true, true, true, true, true, true, false, false, false, false, false, false, false] rfl rfl (by kernel_rfl) (fun _ _ _ h => h) (Or.inr ⟨by rfl, rfl⟩) ?_ ?_
  rotate_left
  · simp only [Act.put, List.setIfInBounds_toArray, List.set_cons_zero, List.set_cons_succ, i64_w, i32_w]
    rfl
  refine pure_ (i := 8) (N := some 15) (v := undef) (a' := ?_) #[true, true, true, true, true, true, true, true, true, false, false, false, false, false, false] rfl rfl (by kernel_rfl) (fun _ _ _ h => h) (Or.inr ⟨by rfl, rfl⟩) ?_ ?_
  rotate_left
  · simp only [Act.put, List.setIfInBounds_toArray, List.set_cons_zero, List.set_cons_succ, i64_w, i32_w]
    rfl
  refine pure_ (i := 9) (N := some 16) (v := undef) (a' := ?_) #[true, true, true, true, true, true, true, true, true, true, false, false, false, false, false] rfl rfl (by kernel_rfl) (fun _ _ _ h => h) (Or.inr ⟨by rfl, rfl⟩) ?_ ?_
  rotate_left
  · simp only [Act.put, List.setIfInBounds_toArray, List.set_cons_zero, List.set_cons_succ, i64_w, i32_w]
    rfl
  refine pure_ (i := 10) (N := some 17) (v := undef) (a' := ?_) #[true, true, true, true, true, true, true, true, true, true, true, false, false, false, false] rfl rfl (by kernel_rfl) (fun _ _ _ h => h) (Or.inr ⟨by rfl, rfl⟩) ?_ ?_
  rotate_left
  · simp only [Act.put, List.setIfInBounds_toArray, List.set_cons_zero, List.set_cons_succ, i64_w, i32_w]
    rfl
  refine pure_ (i := 11) (N := some 18) (v := undef) (a' := ?_) #[true, true, true, true, true, true, true, true, true, true, true, true, false, false, false] rfl rfl (by kernel_rfl) (fun _ _ _ h => h) (Or.inr ⟨by rfl, rfl⟩) ?_ ?_
  rotate_left
  · simp only [Act.put, List.setIfInBounds_toArray, List.set_cons_zero, List.set_cons_succ, i64_w, i32_w]
    rfl
  refine pure_ (i := 12) (N := some 19) (v := undef) (a' := ?_) #[true, true, true, true, true, true, true, true, true, true, true, true, true, false, false] rfl rfl (by kernel_rfl) (fun _ _ _ h => h) (Or.inr ⟨by rfl, rfl⟩) ?_ ?_
  rotate_left
  · simp only [Act.put, List.setIfInBounds_toArray, List.set_cons_zero, List.set_cons_succ, i64_w, i32_w]
    rfl
  refine pure_ (i := 13) (N := some 20) (v := ?_) (a' := ?_) #[true, true, true, true, true, true, true, true, true, true, true, true, true, true, false] rfl rfl (by kernel_rfl) (fun _ _ _ h => h) (Or.inl ⟨by rfl, ?_⟩) ?_ ?_
  rotate_left
  · intro w'
    go_simp
    with_reducible rfl
  rotate_left
  · simp only [Act.put, List.setIfInBounds_toArray, List.set_cons_zero, List.set_cons_succ, i64_w, i32_w]
    rfl
  refine pure_ (i := 14) (N := some 6) (v := ?_) (a' := ?_) #[true, true, true, true, true, true, true, true, true, true, true, true, true, true, true] rfl rfl (by kernel_rfl) (fun _ _ _ h => h) (Or.inl ⟨by rfl, ?_⟩) ?_ ?_
  rotate_left
  · intro w'
    go_simp
    with_reducible rfl
  rotate_left
  · simp only [Act.put, List.setIfInBounds_toArray, List.set_cons_zero, List.set_cons_succ, i64_w, i32_w]
    rfl
  refine done_ (by kernel_rfl) ?_
  go_wp2
  go_ret
  exact ⟨rfl, below_drew1 HB_W.out⟩
set_option maxRecDepth 100000 in
set_option maxHeartbeats 2000000 in
theorem rAgree_open (o1 o2 : Int) (b1 : Bool) (A1 A2 : Option Addr) (c1 c2 : Nat) (l1 l2 : List S37) (dir : Bool) (w : World) (hr1 : k37.C w A1 l1.length l1) (hc1 : l1.length ≤ c1) (hr2 : k37.C w A2 l2.length l2) (hc2 : l2.length ≤ c2) (hv : vDesc o1 l1 = true) (hv2 : vDesc o2 l2 = true) :
    Calls Try.prog 65 #[.agg #[.int .i64 o1, .bool b1, .slice A1 l1.length c1], .agg #[.int .i64 o2, .bool false, .slice A2 l2.length c2], .bool dir] w fun e w' => e = .returned (.bool (decide (renewL l1 l2 dir = l2))) ∧ Below w.heap.size w w' := by
  have HR1 := Aside0.mk hr1
  have HC1 := Aside0.mk hc1
  have HR2 := Aside0.mk hr2
  have HC2 := Aside0.mk hc2
  have HV1 := Aside0.mk hv
  have HV2 := Aside0.mk hv2
  have HM1 := Aside0.mk (vDesc_len hv)
  have HM2 := Aside0.mk (vDesc_len hv2)
  have HLn : Aside0 ((l2.filter ownB).length + (given l1 dir).length ≤ 32) := ⟨by have := List.length_filter_le ownB l2; have := given_length l1 dir; have := vDesc_len hv; have := vDesc_len hv2; omega⟩
  clear hr1 hc1 hr2 hc2 hv hv2
  go_enter Try.func65, Try.ntmps65
  go_upto_region 1 with (fail)
  have hb_ := below_alloc (below_alloc (Below.refl _ w) (.cells #[.int .i64 o1, .bool b1, .slice A1 l1.length c1] 33)) (.cells #[.int .i64 o2, .bool false, .slice A2 l2.length c2] 33)
  have hG0_ := blk_alloc (blk_lit0 w (.cells #[.int .i64 o1, .bool b1, .slice A1 l1.length c1] 33)) (.cells #[.int .i64 o2, .bool false, .slice A2 l2.length c2] 33)
  have hG1_ := blk_lit w (.cells #[.int .i64 o1, .bool b1, .slice A1 l1.length c1] 33) (.cells #[.int .i64 o2, .bool false, .slice A2 l2.length c2] 33)
  generalize ((w.alloc (.cells #[.int .i64 o1, .bool b1, .slice A1 l1.length c1] 33)).alloc (.cells #[.int .i64 o2, .bool false, .slice A2 l2.length c2] 33)) = W at hb_ hG0_ hG1_ ⊢
  have HB_W := Aside0.mk hb_
  have W0 := Aside0.mk hG0_
  have W1 := Aside0.mk hG1_
  clear hb_ hG0_ hG1_
  have D0 := Aside0.mk (blk_drew W0.out)
  have D1 := Aside0.mk (blk_drew W1.out)
  have HBD := Aside0.mk (below_drew1 HB_W.out)
  refine start_ (n := 15) (S := fun w' => w'.cell? ⟨w.heap.size + 1, 1, none⟩ = some (.bool false) ∧ w'.cell? ⟨w.heap.size + 1, 2, none⟩ = some (.slice A2 l2.length c2) ∧ w'.cell? ⟨w.heap.size, 0, none⟩ = some (.int .i64 o1) ∧ w'.cell? ⟨w.heap.size, 1, none⟩ = some (.bool b1) ∧ w'.cell? ⟨w.heap.size, 2, none⟩ = some (.slice A1 l1.length c1)) (ds := []) #[false, false, false, false, false, false, false, false, false, false, false, false, false, false, false] (by kernel_rfl) rfl rfl ⟨(blk_cell D1.out 1).trans rfl, (blk_cell D1.out 2).trans rfl, (blk_cell D0.out 0).trans rfl, (blk_cell D0.out 1).trans rfl, (blk_cell D0.out 2).trans rfl⟩ (fun hHeld => ?_)
  generalize W.drew = wd at D0 D1 HBD hHeld ⊢
  refine pure_ (i := 0) (N := some 7) (v := ?_) (a' := ?_) #[true, false, false, false, false, false, false, false, false, false, false, false, false, false, false] rfl rfl (by kernel_rfl) (fun _ _ _ h => h) (Or.inl ⟨by rfl, ?_⟩) ?_ ?_
  rotate_left
  · intro w'
    go_simp
    with_reducible rfl
  rotate_left
  · simp only [Act.put, List.setIfInBounds_toArray, List.set_cons_zero, List.set_cons_succ, i64_w, i32_w]
    rfl
  refine take_ (i := 1) (N := some 8) (v := ?_) (a' := ?_) #[true, true, false, false, false, false, false, false, false, false, false, false, false, false, false] rfl rfl (by kernel_rfl) (fun _ _ _ h => h) (Or.inl ⟨by rfl, ?_⟩) hHeld ?_ ?_
  rotate_left
  · rintro w' ⟨s0, s1, s2, s3, s4⟩
    go_simp
    with_reducible rfl
  rotate_left
  · simp only [Act.put, List.setIfInBounds_toArray, List.set_cons_zero, List.set_cons_succ, i64_w, i32_w]
    rfl
  refine pure_ (i := 2) (N := some 9) (v := ?_) (a' := ?_) #[true, true, true, false, false, false, false, false, false, false, false, false, false, false, false] rfl rfl (by kernel_rfl) (fun _ _ _ h => h) (Or.inl ⟨by rfl, ?_⟩) ?_ ?_
  rotate_left
  · intro w'
    go_simp
    with_reducible rfl
  rotate_left
  · simp only [Act.put, List.setIfInBounds_toArray, List.set_cons_zero, List.set_cons_succ, i64_w, i32_w]
    rfl
  refine pure_ (i := 3) (N := some 10) (v := ?_) (a' := ?_) #[true, true, true, true, false, false, false, false, false, false, false, false, false, false, false] rfl rfl (by kernel_rfl) (fun _ _ _ h => h) (Or.inl ⟨by rfl, ?_⟩) ?_ ?_
  rotate_left
  · intro w'
    go_simp
    with_reducible rfl
  rotate_left
  · simp only [Act.put, List.setIfInBounds_toArray, List.set_cons_zero, List.set_cons_succ, i64_w, i32_w]
    rfl
  refine take_ (i := 4) (N := some 11) (v := ?_) (a' := ?_) #[true, true, true, true, true, false, false, false, false, false, false, false, false, false, false] rfl rfl (by kernel_rfl) (fun _ _ _ h => h) (Or.inl ⟨by rfl, ?_⟩) hHeld ?_ ?_
  rotate_left
  · rintro w' ⟨s0, s1, s2, s3, s4⟩
    go_simp
    with_reducible rfl
  rotate_left
  · simp only [Act.put, List.setIfInBounds_toArray, List.set_cons_zero, List.set_cons_succ, i64_w, i32_w]
    rfl
  refine pure_ (i := 5) (N := some 12) (v := ?_) (a' := ?_) #[true, true, true, true, true, true, false, false, false, false, false, false, false, false, false] rfl rfl (by kernel_rfl) (fun _ _ _ h => h) (Or.inl ⟨by rfl, ?_⟩) ?_ ?_
  rotate_left
  · intro w'
    go_simp
    with_reducible rfl
  rotate_left
  · simp only [Act.put, List.setIfInBounds_toArray, List.set_cons_zero, List.set_cons_succ, i64_w, i32_w]
    rfl
  refine take_ (i := 6) (N := some 13) (v := ?_) (a' := ?_) #[true, true, true, true, true, true, true, false, false, false, false, false, false, false, false] rfl rfl (by kernel_rfl) (fun _ _ _ h => h) (Or.inl ⟨by rfl, ?_⟩) hHeld ?_ ?_
  rotate_left
  · rintro w' ⟨s0, s1, s2, s3, s4⟩
    go_simp
    with_reducible rfl
  rotate_left
  · simp only [Act.put, List.setIfInBounds_toArray, List.set_cons_zero, List.set_cons_succ, i64_w, i32_w]
    rfl
  refine take_ (i := 8) (N := some 15) (v := ?_) (a' := ?_) #[true, true, true, true, true, true, true, false, true, false, false, false, false, false, false] rfl rfl (by kernel_rfl) (fun _ _ _ h => h) (Or.inl ⟨by rfl, ?_⟩) hHeld ?_ ?_
  rotate_left
  · rintro w' ⟨s0, s1, s2, s3, s4⟩
    go_simp
    with_reducible rfl
  rotate_left
  · simp only [Act.put, List.setIfInBounds_toArray, List.set_cons_zero, List.set_cons_succ, i64_w, i32_w]
    rfl
  refine pure_ (i := 9) (N := some 16) (v := ?_) (a' := ?_) #[true, true, true, true, true, true, true, false, true, true, false, false, false, false, false] rfl rfl (by kernel_rfl) (fun _ _ _ h => h) (Or.inl ⟨by rfl, ?_⟩) ?_ ?_
  rotate_left
  · intro w'
    go_simp
    with_reducible rfl
  rotate_left
  · simp only [Act.put, List.setIfInBounds_toArray, List.set_cons_zero, List.set_cons_succ, i64_w, i32_w]
    rfl
  refine one_ (i := 7) (N := some 14) #[true, true, true, true, true, true, true, true, true, true, false, false, false, false, false] rfl rfl (by kernel_rfl) (by decide) (fun K hK => ?_)
  refine goes_ Try.func53 (by kernel_rfl) rfl #[.slice A2 l2.length c2, .bool false] (by rfl) rfl rfl (by (try simp only [List.map_toArray, List.map_cons, List.map_nil]); first | done | rfl) ?_
  refine (rOwn_calls A2 c2 l2 false _ (Kd.C_below HR2.out HBD.out) HC2.out (vDesc_all HV2.out) HM2.out).mono ?_
  rintro e w5 ⟨v5, rfl, hra, hb⟩
  rw [own_filter] at hra
  refine ⟨_, rfl, ?_⟩
  have HO5 := Aside0.mk (Kd.R_lower hra HBD.out.size)
  have HB5 := Aside0.mk (below_step HBD.out hb)
  have K0 := Aside0.mk (blk_below D0.out hb)
  have K1 := Aside0.mk (blk_below D1.out hb)
  clear hra hb D0 D1 HBD
  refine hK.out _ _ ⟨(blk_cell K1.out 1).trans rfl, (blk_cell K1.out 2).trans rfl, (blk_cell K0.out 0).trans rfl, (blk_cell K0.out 1).trans rfl, (blk_cell K0.out 2).trans rfl⟩ (fun hHeld => ?_)
  clear hK K
  refine norm_ (a' := ?_) ?_ ?_
  rotate_left
  · show Act.put _ (some 14) _ = _
    simp only [Act.put, List.setIfInBounds_toArray, List.set_cons_zero, List.set_cons_succ, i64_w, i32_w]
    rfl
  refine one_ (i := 10) (N := some 17) #[true, true, true, true, true, true, true, true, true, true, true, false, false, false, false] rfl rfl (by kernel_rfl) (by decide) (fun K hK => ?_)
  refine goes_ Try.func61 (by kernel_rfl) rfl #[.agg #[.int .i64 o1, .bool b1, .slice A1 l1.length c1], .bool dir] (by rfl) rfl rfl (by (try simp only [List.map_toArray, List.map_cons, List.map_nil]); first | done | rfl) ?_
  refine (rgiven_calls o1 b1 A1 c1 l1 dir _ (Kd.C_below HR1.out HB5.out) HC1.out (vDesc_all HV1.out) HM1.out).mono ?_
  rintro e w6 ⟨v6, rfl, hra, hb⟩
  refine ⟨_, rfl, ?_⟩
  obtain ⟨A6, c6, rfl⟩ := Kd.R_slice hra
  have HC6 := Aside0.mk (Kd.R_reads' hra).2.2
  have HO6 := Aside0.mk (Kd.R_below HO5.out hb)
  have HB6 := Aside0.mk (below_step HB5.out hb)
  have L0 := Aside0.mk (blk_below K0.out hb)
  have L1 := Aside0.mk (blk_below K1.out hb)
  clear hra hb K0 K1 HO5 HB5
  refine hK.out _ _ ⟨(blk_cell L1.out 1).trans rfl, (blk_cell L1.out 2).trans rfl, (blk_cell L0.out 0).trans rfl, (blk_cell L0.out 1).trans rfl, (blk_cell L0.out 2).trans rfl⟩ (fun hHeld => ?_)
  clear hK K
  refine norm_ (a' := ?_) ?_ ?_
  rotate_left
  · show Act.put _ (some 17) _ = _
    simp only [Act.put, List.setIfInBounds_toArray, List.set_cons_zero, List.set_cons_succ, i64_w, i32_w]
    rfl
  refine one_ (i := 11) (N := some 18) #[true, true, true, true, true, true, true, true, true, true, true, true, false, false, false] rfl rfl (by kernel_rfl) (by decide) (fun K hK => ?_)
  refine Kd.R_append_rows_step k37 (Rr := k37.K _) (w0 := w) w.heap.size (by rfl) (.tmp 14) (.tmp 17) 31 37 (.agg #[(.bool false), (.int .i64 0), (.int .i64 0), (.int .i64 0)]) 32 rfl Try.underlying31 info37 rfl (by decide) (by omega) v5 (l2.filter ownB) (given l1 dir) _ _ _ (fun _ => True) (fun _ => False) rfl rfl (HO6.out) (HC6.out) (fun x cs h => by rw [k37_open h]; exact k37_mkM _ _ _ _) (fun _ h => h.elim) (fun _ _ => trivial) (HB6.out) (HB6.out).size (by have := HLn.out; omega) ?_
  intro v7 w7 ho hb hg hat
  have HO7 := Aside0.mk (show RA w7 w.heap.size v7 (renewL l1 l2 dir) from ho)
  have HB7 := Aside0.mk hb
  have M0 := Aside0.mk (blk_grown L0.out hg (Kd.R_ne HO6.out L0.out (by decide)))
  have M1 := Aside0.mk (blk_grown L1.out hg (Kd.R_ne HO6.out L1.out (by decide)))
  clear ho hb hg hat L0 L1 HO6 HB6 HC6
  obtain ⟨A7, c7, rfl⟩ := Kd.R_slice HO7.out
  refine hK.out _ _ ⟨(blk_cell M1.out 1).trans rfl, (blk_cell M1.out 2).trans rfl, (blk_cell M0.out 0).trans rfl, (blk_cell M0.out 1).trans rfl, (blk_cell M0.out 2).trans rfl⟩ (fun hHeld => ?_)
  clear hK K
  refine norm_ (a' := ?_) ?_ ?_
  rotate_left
  · show Act.put _ (some 18) _ = _
    simp only [Act.put, List.setIfInBounds_toArray, List.set_cons_zero, List.set_cons_succ, i64_w, i32_w]
    rfl
  refine one_ (i := 12) (N := some 19) #[true, true, true, true, true, true, true, true, true, true, true, true, true, false, false] rfl rfl (by kernel_rfl) (by decide) (fun K hK => ?_)
  refine goes_ Try.func23 (by kernel_rfl) rfl #[.slice A2 l2.length c2, .slice A7 (renewL l1 l2 dir).length c7] (by rfl) rfl rfl (by (try simp only [List.map_toArray, List.map_cons, List.map_nil]); first | done | rfl) ?_
  refine (archivoltref23_SameAces.calls (l2.length + 1) A2 c2 l2 A7 c7 (renewL l1 l2 dir) (decide (l2 = renewL l1 l2 dir)) _ (Kd.C_below HR2.out HB7.out) HC2.out (Kd.R_reads' HO7.out).2.2 (Kd.R_reads' HO7.out).2.1 (same_f l2 _ (by have := HM2.out; omega))).mono ?_
  rintro e w8 ⟨rfl, hb⟩
  refine ⟨_, rfl, ?_⟩
  have HB8 := Aside0.mk (below_step HB7.out hb.below)
  have N0 := Aside0.mk (blk_below M0.out hb.below)
  have N1 := Aside0.mk (blk_below M1.out hb.below)
  clear hb M0 M1 HO7 HB7
  refine hK.out _ _ ⟨(blk_cell N1.out 1).trans rfl, (blk_cell N1.out 2).trans rfl, (blk_cell N0.out 0).trans rfl, (blk_cell N0.out 1).trans rfl, (blk_cell N0.out 2).trans rfl⟩ (fun hHeld => ?_)
  clear hK K
  refine norm_ (a' := ?_) ?_ ?_
  rotate_left
  · show Act.put _ (some 19) _ = _
    simp only [Act.put, List.setIfInBounds_toArray, List.set_cons_zero, List.set_cons_succ, i64_w, i32_w]
    rfl
  refine pure_ (i := 13) (N := some 20) (v := ?_) (a' := ?_) #[true, true, true, true, true, true, true, true, true, true, true, true, true, true, false] rfl rfl (by kernel_rfl) (fun _ _ _ h => h) (Or.inl ⟨by rfl, ?_⟩) ?_ ?_
  rotate_left
  · intro w'
    go_simp
    with_reducible rfl
  rotate_left
  · simp only [Act.put, List.setIfInBounds_toArray, List.set_cons_zero, List.set_cons_succ, i64_w, i32_w]
    rfl
  refine pure_ (i := 14) (N := some 6) (v := ?_) (a' := ?_) #[true, true, true, true, true, true, true, true, true, true, true, true, true, true, true] rfl rfl (by kernel_rfl) (fun _ _ _ h => h) (Or.inl ⟨by rfl, ?_⟩) ?_ ?_
  rotate_left
  · intro w'
    go_simp
    with_reducible rfl
  rotate_left
  · simp only [Act.put, List.setIfInBounds_toArray, List.set_cons_zero, List.set_cons_succ, i64_w, i32_w]
    rfl
  refine done_ (by kernel_rfl) ?_
  clear hHeld
  go_wp2
  go_ret
  exact ⟨by rw [show decide (renewL l1 l2 dir = l2) = decide (l2 = renewL l1 l2 dir) from decide_eq_decide.2 eq_comm]; rfl, HB8.out⟩
theorem rAgree_calls (o1 o2 : Int) (b1 b2 : Bool) (A1 A2 : Option Addr) (c1 c2 : Nat) (l1 l2 : List S37) (dir : Bool) (w : World) (hr1 : k37.C w A1 l1.length l1) (hc1 : l1.length ≤ c1) (hr2 : k37.C w A2 l2.length l2) (hc2 : l2.length ≤ c2) (hv : vDesc o1 l1 = true) (hv2 : vDesc o2 l2 = true) :
    Calls Try.prog 65 #[.agg #[.int .i64 o1, .bool b1, .slice A1 l1.length c1], .agg #[.int .i64 o2, .bool b2, .slice A2 l2.length c2], .bool dir] w fun e w' => e = .returned (.bool (agB ⟨o1, b1, l1⟩ ⟨o2, b2, l2⟩ dir)) ∧ Below w.heap.size w w' := by
  cases b2
  · exact (rAgree_open o1 o2 b1 A1 A2 c1 c2 l1 l2 dir w hr1 hc1 hr2 hc2 hv hv2).mono fun e w' h => ⟨h.1, h.2⟩
  · exact (rAgree_prot o1 o2 b1 A1 A2 c1 c2 l1 l2 dir w).mono fun e w' h => ⟨h.1, h.2⟩
theorem rAgrees_end {ts : Array Value} {a b : Int} {W : World} (h1 : ts.getD 2 undef = .int .i64 a) (h2 : ts.getD 3 undef = .int .i64 b) : (results Try.f31 ts).run Try.prog W = .ok (.tuple #[.int .i64 a, .int .i64 b]) W := by
  have := results_list (P := Try.prog) (w := W) (tmps := ts) (fn := Try.f31) (rs := [.tmp 2, .tmp 3]) rfl (by simp) (.tmp (.tmp .nil))
  rw [h1, h2] at this
  exact this
set_option maxRecDepth 100000 in
set_option maxHeartbeats 2000000 in
theorem rAgrees_calls (A : Option Addr) (c : Nat) (l : List S35) (w : World) (hr : Kd.C k35 w A l.length l) :
    Calls Try.prog 31 #[.slice A l.length c] w fun e w' => e = .returned (.tuple #[.int .i64 (sAgrees l).1, .int .i64 (sAgrees l).2]) ∧ Below w.heap.size w w' := by
  have HR := Aside0.mk hr
  clear hr
  by_cases hv : vTree l = true
  · have HV := Aside0.mk hv
    have HM := Aside0.mk (vTree_pos hv).2.1
    have HP := Aside0.mk (vTree_pos hv).1
    have HU := Aside0.mk (vTree_ups hv)
    clear hv
    go_enter Try.func31, Try.ntmps31
    go_upto_region 5 with ((with_reducible refine gate_dst (N := 7) rfl ?_); refine goesL_ (some 7) rfl rfl Try.func33 (by kernel_rfl) rfl #[.slice A l.length c] rfl (by (try simp only [List.map_toArray, List.map_cons, List.map_nil]); first | done | rfl) ?_; refine (rCheck_calls A c l _ HR.out).mono ?_; rintro e w1 ⟨rfl, hb⟩; refine ⟨_, rfl, ?_⟩; rw [HV.out]; simp only [errOf]; have HB1 := Aside0.mk hb; clear hb)
    go_loopg [5] (l.length - 1) (fun kq v5 w' => ∃ j : Nat, v5 = .int .i64 (j : Int) ∧ Aside0 (kq + j = l.length) ∧ Aside0 (0 < j) ∧ Aside0 (∀ i, i < j → agTw l i = true) ∧ Aside0 (Below w.heap.size w w'))
    case atStart => exact ⟨1, rfl, ⟨by have := HP.out; omega⟩, ⟨by omega⟩, ⟨fun i h => by rw [show i = 0 by omega]; rfl⟩, HB1⟩
    case round =>
      obtain ⟨j, rfl, HK, H0, HQ, HB⟩ := hrel
      by_cases hlt : j < l.length
      · have h1 : decide (j < l.length) = true := decide_eq_true hlt
        have HWR := Aside0.mk (show Value.int .i64 (Go.RowKit.wrap64 ((j : Int) + 1)) = Value.int .i64 ((j + 1 : Nat) : Int) by rw [show Go.RowKit.wrap64 ((j : Int) + 1) = ((j + 1 : Nat) : Int) by have := HM.out; unfold Go.RowKit.wrap64; omega])
        go_upto_region 7 with (fail)
        obtain ⟨u, hu, hul⟩ := HU.out j H0.out hlt
        obtain ⟨ad, A2, c2, rfl, x0, x1, x2, x3, x4, hl2, hC2⟩ := at_T35 (Kd.C_drew (Kd.C_below HR.out HB.out)) (j : Int) (by omega) (by omega)
        obtain ⟨ad', A3, c3, hA, _, _, z2, z3, z4, hl3, hC3⟩ := at_T35 (Kd.C_drew (Kd.C_below HR.out HB.out)) (u : Int) (by omega) (by omega)
        cases hA
        simp only [Int.toNat_natCast] at x0 x1 x2 x3 x4 z2 z3 z4
        rw [hu] at x0
        have D2 := Aside0.mk hC2
        have D3 := Aside0.mk hC3
        have E2 := Aside0.mk hl2
        have E3 := Aside0.mk hl3
        have HBD := Aside0.mk (below_drew1 HB.out)
        have HUE := Aside0.mk hu
        clear hl2 hC2 hl3 hC3 hu
        refine start_ (n := 21) (S := fun w' => w'.cell? (ad.add (j * 5)) = some (.int .i64 (u : Int)) ∧ w'.cell? ⟨(ad.add (j * 5)).block, (ad.add (j * 5)).off + 1, none⟩ = some (.bool (rd_T35 l j).f1) ∧ w'.cell? ⟨(ad.add (j * 5)).block, (ad.add (j * 5)).off + 2, none⟩ = some (.int .i64 (rd_T35 l j).f2.f0) ∧ w'.cell? ⟨(ad.add (j * 5)).block, (ad.add (j * 5)).off + 3, none⟩ = some (.bool (rd_T35 l j).f2.f1) ∧ w'.cell? ⟨(ad.add (j * 5)).block, (ad.add (j * 5)).off + 4, none⟩ = some (.slice A2 (rd_T35 l j).f2.f2.length c2) ∧ w'.cell? ⟨(ad.add (u * 5)).block, (ad.add (u * 5)).off + 2, none⟩ = some (.int .i64 (rd_T35 l u).f2.f0) ∧ w'.cell? ⟨(ad.add (u * 5)).block, (ad.add (u * 5)).off + 3, none⟩ = some (.bool (rd_T35 l u).f2.f1) ∧ w'.cell? ⟨(ad.add (u * 5)).block, (ad.add (u * 5)).off + 4, none⟩ = some (.slice A3 (rd_T35 l u).f2.f2.length c3)) (ds := []) #[false, false, false, false, false, false, false, false, false, false, false, false, false, false, false, false, false, false, false, false, false] (by kernel_rfl) rfl rfl ⟨x0, x1, x2, x3, x4, z2, z3, z4⟩ (fun hHeld => ?_)
        clear x0 x1 x2 x3 x4 z2 z3 z4
        generalize wr.drew = wd at D2 D3 HBD hHeld ⊢
        have kj : j < l.length := hlt
        have ku : u < l.length := by omega
        refine pure_ (i := 0) (N := some 17) (v := ?_) (a' := ?_) #[true, false, false, false, false, false, false, false, false, false, false, false, false, false, false, false, false, false, false, false, false] rfl rfl (by kernel_rfl) (fun _ _ _ h => h) (Or.inl ⟨by rfl, ?_⟩) ?_ ?_
        rotate_left
        · intro w'
          go_simp
          with_reducible rfl
        rotate_left
        · simp only [Act.put, List.setIfInBounds_toArray, List.set_cons_zero, List.set_cons_succ, i64_w, i32_w]
          rfl
        refine pure_ (i := 1) (N := some 18) (v := ?_) (a' := ?_) #[true, true, false, false, false, false, false, false, false, false, false, false, false, false, false, false, false, false, false, false, false] rfl rfl (by kernel_rfl) (fun _ _ _ h => h) (Or.inl ⟨by rfl, ?_⟩) ?_ ?_
        rotate_left
        · intro w'
          go_simp
          with_reducible rfl
        rotate_left
        · simp only [Act.put, List.setIfInBounds_toArray, List.set_cons_zero, List.set_cons_succ, i64_w, i32_w]
          rfl
        refine pure_ (i := 2) (N := some 19) (v := ?_) (a' := ?_) #[true, true, true, false, false, false, false, false, false, false, false, false, false, false, false, false, false, false, false, false, false] rfl rfl (by kernel_rfl) (fun _ _ _ h => h) (Or.inl ⟨by rfl, ?_⟩) ?_ ?_
        rotate_left
        · intro w'
          go_simp
          with_reducible rfl
        rotate_left
        · simp only [Act.put, List.setIfInBounds_toArray, List.set_cons_zero, List.set_cons_succ, i64_w, i32_w]
          rfl
        refine pure_ (i := 3) (N := some 20) (v := ?_) (a' := ?_) #[true, true, true, true, false, false, false, false, false, false, false, false, false, false, false, false, false, false, false, false, false] rfl rfl (by kernel_rfl) (fun _ _ _ h => h) (Or.inl ⟨by rfl, ?_⟩) ?_ ?_
        rotate_left
        · intro w'
          go_simp
          with_reducible rfl
        rotate_left
        · simp only [Act.put, List.setIfInBounds_toArray, List.set_cons_zero, List.set_cons_succ, i64_w, i32_w]
          rfl
        refine pure_ (i := 4) (N := some 21) (v := ?_) (a' := ?_) #[true, true, true, true, true, false, false, false, false, false, false, false, false, false, false, false, false, false, false, false, false] rfl rfl (by kernel_rfl) (fun _ _ _ h => h) (Or.inl ⟨by rfl, ?_⟩) ?_ ?_
        rotate_left
        · intro w'
          go_simp
          with_reducible rfl
        rotate_left
        · simp only [Act.put, List.setIfInBounds_toArray, List.set_cons_zero, List.set_cons_succ, i64_w, i32_w]
          rfl
        refine take_ (i := 5) (N := some 22) (v := ?_) (a' := ?_) #[true, true, true, true, true, true, false, false, false, false, false, false, false, false, false, false, false, false, false, false, false] rfl rfl (by kernel_rfl) (fun _ _ _ h => h) (Or.inl ⟨by rfl, ?_⟩) hHeld ?_ ?_
        rotate_left
        · rintro w' ⟨s0, s1, s2, s3, s4, s5, s6, s7⟩
          go_simp
          with_reducible rfl
        rotate_left
        · simp only [Act.put, List.setIfInBounds_toArray, List.set_cons_zero, List.set_cons_succ, i64_w, i32_w]
          rfl
        refine pure_ (i := 6) (N := some 23) (v := ?_) (a' := ?_) #[true, true, true, true, true, true, true, false, false, false, false, false, false, false, false, false, false, false, false, false, false] rfl rfl (by kernel_rfl) (fun _ _ _ h => h) (Or.inl ⟨by rfl, ?_⟩) ?_ ?_
        rotate_left
        · intro w'
          go_simp
          with_reducible rfl
        rotate_left
        · simp only [Act.put, List.setIfInBounds_toArray, List.set_cons_zero, List.set_cons_succ, i64_w, i32_w]
          rfl
        refine pure_ (i := 7) (N := some 24) (v := ?_) (a' := ?_) #[true, true, true, true, true, true, true, true, false, false, false, false, false, false, false, false, false, false, false, false, false] rfl rfl (by kernel_rfl) (fun _ _ _ h => h) (Or.inl ⟨by rfl, ?_⟩) ?_ ?_
        rotate_left
        · intro w'
          go_simp
          with_reducible rfl
        rotate_left
        · simp only [Act.put, List.setIfInBounds_toArray, List.set_cons_zero, List.set_cons_succ, i64_w, i32_w]
          rfl
        refine take_ (i := 8) (N := some 25) (v := ?_) (a' := ?_) #[true, true, true, true, true, true, true, true, true, false, false, false, false, false, false, false, false, false, false, false, false] rfl rfl (by kernel_rfl) (fun _ _ _ h => h) (Or.inl ⟨by rfl, ?_⟩) hHeld ?_ ?_
        rotate_left
        · rintro w' ⟨s0, s1, s2, s3, s4, s5, s6, s7⟩
          go_simp
          with_reducible rfl
        rotate_left
        · simp only [Act.put, List.setIfInBounds_toArray, List.set_cons_zero, List.set_cons_succ, i64_w, i32_w]
          rfl
        refine pure_ (i := 9) (N := some 26) (v := ?_) (a' := ?_) #[true, true, true, true, true, true, true, true, true, true, false, false, false, false, false, false, false, false, false, false, false] rfl rfl (by kernel_rfl) (fun _ _ _ h => h) (Or.inl ⟨by rfl, ?_⟩) ?_ ?_
        rotate_left
        · intro w'
          go_simp
          with_reducible rfl
        rotate_left
        · simp only [Act.put, List.setIfInBounds_toArray, List.set_cons_zero, List.set_cons_succ, i64_w, i32_w]
          rfl
        refine pure_ (i := 10) (N := some 27) (v := ?_) (a' := ?_) #[true, true, true, true, true, true, true, true, true, true, true, false, false, false, false, false, false, false, false, false, false] rfl rfl (by kernel_rfl) (fun _ _ _ h => h) (Or.inl ⟨by rfl, ?_⟩) ?_ ?_
        rotate_left
        · intro w'
          go_simp
          with_reducible rfl
        rotate_left
        · simp only [Act.put, List.setIfInBounds_toArray, List.set_cons_zero, List.set_cons_succ, i64_w, i32_w]
          rfl
        refine pure_ (i := 11) (N := some 28) (v := ?_) (a' := ?_) #[true, true, true, true, true, true, true, true, true, true, true, true, false, false, false, false, false, false, false, false, false] rfl rfl (by kernel_rfl) (fun _ _ _ h => h) (Or.inl ⟨by rfl, ?_⟩) ?_ ?_
        rotate_left
        · intro w'
          go_simp
          with_reducible rfl
        rotate_left
        · simp only [Act.put, List.setIfInBounds_toArray, List.set_cons_zero, List.set_cons_succ, i64_w, i32_w]
          rfl
        refine pure_ (i := 12) (N := some 29) (v := ?_) (a' := ?_) #[true, true, true, true, true, true, true, true, true, true, true, true, true, false, false, false, false, false, false, false, false] rfl rfl (by kernel_rfl) (fun _ _ _ h => h) (Or.inl ⟨by rfl, ?_⟩) ?_ ?_
        rotate_left
        · intro w'
          go_simp
          with_reducible rfl
        rotate_left
        · simp only [Act.put, List.setIfInBounds_toArray, List.set_cons_zero, List.set_cons_succ, i64_w, i32_w]
          rfl
        refine take_ (i := 13) (N := some 30) (v := ?_) (a' := ?_) #[true, true, true, true, true, true, true, true, true, true, true, true, true, true, false, false, false, false, false, false, false] rfl rfl (by kernel_rfl) (fun _ _ _ h => h) (Or.inl ⟨by rfl, ?_⟩) hHeld ?_ ?_
        rotate_left
        · rintro w' ⟨s0, s1, s2, s3, s4, s5, s6, s7⟩
          go_simp
          with_reducible rfl
        rotate_left
        · simp only [Act.put, List.setIfInBounds_toArray, List.set_cons_zero, List.set_cons_succ, i64_w, i32_w]
          rfl
        refine pure_ (i := 14) (N := some 31) (v := ?_) (a' := ?_) #[true, true, true, true, true, true, true, true, true, true, true, true, true, true, true, false, false, false, false, false, false] rfl rfl (by kernel_rfl) (fun _ _ _ h => h) (Or.inl ⟨by rfl, ?_⟩) ?_ ?_
        rotate_left
        · intro w'
          go_simp
          with_reducible rfl
        rotate_left
        · simp only [Act.put, List.setIfInBounds_toArray, List.set_cons_zero, List.set_cons_succ, i64_w, i32_w]
          rfl
        refine pure_ (i := 15) (N := some 32) (v := ?_) (a' := ?_) #[true, true, true, true, true, true, true, true, true, true, true, true, true, true, true, true, false, false, false, false, false] rfl rfl (by kernel_rfl) (fun _ _ _ h => h) (Or.inl ⟨by rfl, ?_⟩) ?_ ?_
        rotate_left
        · intro w'
          go_simp
          with_reducible rfl
        rotate_left
        · simp only [Act.put, List.setIfInBounds_toArray, List.set_cons_zero, List.set_cons_succ, i64_w, i32_w]
          rfl
        refine pure_ (i := 16) (N := some 33) (v := ?_) (a' := ?_) #[true, true, true, true, true, true, true, true, true, true, true, true, true, true, true, true, true, false, false, false, false] rfl rfl (by kernel_rfl) (fun _ _ _ h => h) (Or.inl ⟨by rfl, ?_⟩) ?_ ?_
        rotate_left
        · intro w'
          go_simp
          with_reducible rfl
        rotate_left
        · simp only [Act.put, List.setIfInBounds_toArray, List.set_cons_zero, List.set_cons_succ, i64_w, i32_w]
          rfl
        refine pure_ (i := 17) (N := some 34) (v := ?_) (a' := ?_) #[true, true, true, true, true, true, true, true, true, true, true, true, true, true, true, true, true, true, false, false, false] rfl rfl (by kernel_rfl) (fun _ _ _ h => h) (Or.inl ⟨by rfl, ?_⟩) ?_ ?_
        rotate_left
        · intro w'
          go_simp
          with_reducible rfl
        rotate_left
        · simp only [Act.put, List.setIfInBounds_toArray, List.set_cons_zero, List.set_cons_succ, i64_w, i32_w]
          rfl
        refine take_ (i := 18) (N := some 35) (v := ?_) (a' := ?_) #[true, true, true, true, true, true, true, true, true, true, true, true, true, true, true, true, true, true, true, false, false] rfl rfl (by kernel_rfl) (fun _ _ _ h => h) (Or.inl ⟨by rfl, ?_⟩) hHeld ?_ ?_
        rotate_left
        · rintro w' ⟨s0, s1, s2, s3, s4, s5, s6, s7⟩
          go_simp
          with_reducible rfl
        rotate_left
        · simp only [Act.put, List.setIfInBounds_toArray, List.set_cons_zero, List.set_cons_succ, i64_w, i32_w]
          rfl
        refine one_ (i := 19) (N := some 36) #[true, true, true, true, true, true, true, true, true, true, true, true, true, true, true, true, true, true, true, true, false] rfl rfl (by kernel_rfl) (by decide) (fun K hK => ?_)
        refine goes_ Try.func65 (by kernel_rfl) rfl #[.agg #[.int .i64 (rd_T35 l u).f2.f0, .bool (rd_T35 l u).f2.f1, .slice A3 (rd_T35 l u).f2.f2.length c3], .agg #[.int .i64 (rd_T35 l j).f2.f0, .bool (rd_T35 l j).f2.f1, .slice A2 (rd_T35 l j).f2.f2.length c2], .bool (rd_T35 l j).f1] (by rfl) rfl rfl (by (try simp only [List.map_toArray, List.map_cons, List.map_nil]); first | done | rfl) ?_
        refine (rAgree_calls _ _ _ _ A3 A2 c3 c2 (rd_T35 l u).f2.f2 (rd_T35 l j).f2.f2 (rd_T35 l j).f1 _ D3.out E3.out D2.out E2.out (vTw_desc (vTree_at HV.out ku)) (vTw_desc (vTree_at HV.out kj))).mono ?_
        rintro e w8 ⟨rfl, hb⟩
        have HAG := Aside0.mk (show agB ⟨(rd_T35 l u).f2.f0, (rd_T35 l u).f2.f1, (rd_T35 l u).f2.f2⟩ ⟨(rd_T35 l j).f2.f0, (rd_T35 l j).f2.f1, (rd_T35 l j).f2.f2⟩ (rd_T35 l j).f1 = agTw l j by unfold agTw; rw [HUE.out, show decide (j = 0) = false from decide_eq_false (by have := H0.out; omega)]; rfl)
        rw [HAG.out]
        refine ⟨_, rfl, ?_⟩
        obtain ⟨t0, t1, t2, t3, t4, t5, t6, t7⟩ := hHeld
        have HBE := Aside0.mk hb
        have HB8 := Aside0.mk (below_step HBD.out hb)
        clear hb
        refine hK.out _ _ ⟨(HBE.out.cell (World.block_lt_of_cell? wd _ t0)).trans t0, (HBE.out.cell (World.block_lt_of_cell? wd _ t1)).trans t1, (HBE.out.cell (World.block_lt_of_cell? wd _ t2)).trans t2, (HBE.out.cell (World.block_lt_of_cell? wd _ t3)).trans t3, (HBE.out.cell (World.block_lt_of_cell? wd _ t4)).trans t4, (HBE.out.cell (World.block_lt_of_cell? wd _ t5)).trans t5, (HBE.out.cell (World.block_lt_of_cell? wd _ t6)).trans t6, (HBE.out.cell (World.block_lt_of_cell? wd _ t7)).trans t7⟩ (fun hHeld => ?_)
        clear hK K
        refine norm_ (a' := ?_) ?_ ?_
        rotate_left
        · show Act.put _ (some 36) _ = _
          simp only [Act.put, List.setIfInBounds_toArray, List.set_cons_zero, List.set_cons_succ, i64_w, i32_w]
          rfl
        clear t0 t1 t2 t3 t4 t5 t6 t7
        cases hg : agTw l j with
        | true =>
          have HG := Aside0.mk hg
          clear hg
          skip
          refine pure_ (i := 20) (N := some 37) (v := ?_) (a' := ?_) #[true, true, true, true, true, true, true, true, true, true, true, true, true, true, true, true, true, true, true, true, true] rfl rfl (by kernel_rfl) (fun _ _ _ h => h) (Or.inl ⟨by rfl, ?_⟩) ?_ ?_
          rotate_left
          · intro w'
            go_simp
            with_reducible rfl
          rotate_left
          · simp only [Act.put, List.setIfInBounds_toArray, List.set_cons_zero, List.set_cons_succ, i64_w, i32_w]
            rfl
          refine done_ (by kernel_rfl) ?_
          clear hHeld
          go_wp2
          go_roundg (l.length - (j + 1))
          case measure => have := HK.out; omega
          case rel =>
            exact ⟨j + 1, HWR.out, ⟨by omega⟩, ⟨by omega⟩, ⟨fun i hi => by
              rcases Nat.lt_or_ge i j with h2 | h2
              · exact HQ.out i h2
              · rw [show i = j by omega]; exact HG.out⟩, HB8⟩
        | false =>
          have HE := Aside0.mk (show sAgrees l = ((j : Int), 0) by unfold sAgrees; rw [if_pos HV.out, firstBad_at kj HQ.out hg])
          clear hg
          skip
          refine pure_ (i := 20) (N := some 37) (v := ?_) (a' := ?_) #[true, true, true, true, true, true, true, true, true, true, true, true, true, true, true, true, true, true, true, true, true] rfl rfl (by kernel_rfl) (fun _ _ _ h => h) (Or.inl ⟨by rfl, ?_⟩) ?_ ?_
          rotate_left
          · intro w'
            go_simp
            with_reducible rfl
          rotate_left
          · simp only [Act.put, List.setIfInBounds_toArray, List.set_cons_zero, List.set_cons_succ, i64_w, i32_w]
            rfl
          refine done_ (by kernel_rfl) ?_
          clear hHeld
          go_wp2
          rw [HE.out]
          refine bodyPost_ret (rAgrees_end (by rfl) (by rfl)) rfl ⟨rfl, HB8.out⟩
      · have h1 : decide (j < l.length) = false := decide_eq_false hlt
        have HE := Aside0.mk (show sAgrees l = (-1, 0) by unfold sAgrees; rw [if_pos HV.out, firstBad_none (fun i hi => HQ.out i (by omega))])
        go_wp2
        rw [HE.out]
        refine bodyPost_ret (rAgrees_end (by rfl) (by rfl)) rfl ⟨rfl, HB.out⟩
  · have hv2 : vTree l = false := by simpa using hv
    have HV := Aside0.mk hv2
    have HE := Aside0.mk (show sAgrees l = (0, 1) by unfold sAgrees; rw [if_neg hv])
    clear hv hv2
    go_enter Try.func31, Try.ntmps31
    go_wp2_with ((with_reducible refine gate_dst (N := 7) rfl ?_); refine goesL_ (some 7) rfl rfl Try.func33 (by kernel_rfl) rfl #[.slice A l.length c] rfl (by (try simp only [List.map_toArray, List.map_cons, List.map_nil]); first | done | rfl) ?_; refine (rCheck_calls A c l _ HR.out).mono ?_; rintro e w1 ⟨rfl, hb⟩; refine ⟨_, rfl, ?_⟩; rw [HV.out]; simp only [errOf]; have HB1 := Aside0.mk hb; clear hb)
    rw [HE.out]
    refine bodyPost_ret (rAgrees_end (by rfl) (by rfl)) rfl ⟨rfl, HB1.out⟩
end Go.Proofs.Ytgocgjfaiddejaa.M
