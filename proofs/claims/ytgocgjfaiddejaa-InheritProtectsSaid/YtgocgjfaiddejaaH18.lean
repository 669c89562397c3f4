/- inherit.agrees. -/
import Derived.Test.YtgocgjfaiddejaaH17
namespace Go.Proofs.Ytgocgjfaiddejaa.M
open Go.RowKit Go.Proofs.YtgocgjfaiddejaaW.PrintWords Go.Proofs.YtgocgjfaiddejaaW.PrintLast Go.Proofs.YtgocgjfaiddejaaW.PrintMore
set_option linter.unusedVariables false
set_option linter.unusedSimpArgs false

def agB (p d : S33) (dir : Bool) : Bool := d.f1 || decide (renewL p.f2 d.f2 dir = d.f2)
set_option maxRecDepth 100000 in
set_option maxHeartbeats 2000000 in
theorem agrees_prot (o1 o2 : Int) (b1 : Bool) (A1 A2 : Option Addr) (c1 c2 : Nat) (l1 l2 : List S37) (dir : Bool) (w : World) :
    Calls Try.prog 64 #[.agg #[.int .i64 o1, .bool b1, .slice A1 l1.length c1], .agg #[.int .i64 o2, .bool true, .slice A2 l2.length c2], .bool dir] w fun e w' => e = .returned (.bool true) ∧ Below w.heap.size w w' := by
  go_enter Try.func64, Try.ntmps64
  go_upto_region 1 with (fail)
  have hb_ := below_alloc (below_alloc (Below.refl _ w) (.cells #[.int .i64 o1, .bool b1, .slice A1 l1.length c1] 33)) (.cells #[.int .i64 o2, .bool true, .slice A2 l2.length c2] 33)
  have hG0_ := blk_alloc (blk_lit0 w (.cells #[.int .i64 o1, .bool b1, .slice A1 l1.length c1] 33)) (.cells #[.int .i64 o2, .bool true, .slice A2 l2.length c2] 33)
  have hG1_ := blk_lit w (.cells #[.int .i64 o1, .bool b1, .slice A1 l1.length c1] 33) (.cells #[.int .i64 o2, .bool true, .slice A2 l2.length c2] 33)
  generalize ((w.alloc (.cells #[.int .i64 o1, .bool b1, .slice A1 l1.length c1] 33)).alloc (.cells #[.int .i64 o2, .bool true, .slice A2 l2.length c2] 33)) = W at hb_ hG0_ hG1_ ⊢
  have HB_W := Aside0.mk hb_
  have W0 := Aside0.mk hG0_
  have W1 := Aside0.mk hG1_
  clear hb_ hG0_ hG1_
  refine start_ (n := 15) (S := fun w' => w'.cell? ⟨w.heap.size + 1, 1, none⟩ = some (.bool true) ∧ Below w.heap.size w w') (ds := []) #[false, false, false, false, false, false, false, false, false, false, false, false, false, false, false] (by kernel_rfl) rfl rfl ⟨(blk_cell (blk_drew W1.out) 1).trans rfl, below_drew1 HB_W.out⟩ (fun hHeld => ?_)
  refine pure_ (i := 0) (N := some 7) (v := ?_) (a' := ?_) #[true, false, false, false, false, false, false, false, false, false, false, false, false, false, false] rfl rfl (by kernel_rfl) (fun _ _ _ h => h) (Or.inl ⟨by rfl, ?_⟩) ?_ ?_
  rotate_left
  · intro w'
    go_simp
    with_reducible rfl
  rotate_left
  · simp only [Act.put, List.setIfInBounds_toArray, List.set_cons_zero, List.set_cons_succ, i64_w, i32_w]
    rfl
  refine take_ (i := 1) (N := some 8) (v := ?_) (a' := ?_) #[true, true, false, false, false, false, false, false, false, false, false, false, false, false, false] rfl rfl (by kernel_rfl) (fun _ _ _ h => h) (Or.inl ⟨by rfl, ?_⟩) hHeld ?_ ?_
  rotate_left
  · rintro w' ⟨s0, s1⟩
    go_simp
    with_reducible rfl
  rotate_left
  · simp only [Act.put, List.setIfInBounds_toArray, List.set_cons_zero, List.set_cons_succ, i64_w, i32_w]
    rfl
  refine pure_ (i := 2) (N := some 9) (v := ?_) (a' := ?_) #[true, true, true, false, false, false, false, false, false, false, false, false, false, false, false] rfl rfl (by kernel_rfl) (fun _ _ _ h => h) (Or.inl ⟨by rfl, ?_⟩) ?_ ?_
  rotate_left
  · intro w'
    go_simp
    with_reducible rfl
  rotate_left
  · simp only [Act.put, List.setIfInBounds_toArray, List.set_cons_zero, List.set_cons_succ, i64_w, i32_w]
    rfl
  refine pure_ (i := 3) (N := some 10) (v := undef) (a' := ?_) #[true, true, true, true, false, false, false, false, false, false, false, false, false, false, false] rfl rfl (by kernel_rfl) (fun _ _ _ h => h) (Or.inr ⟨by rfl, rfl⟩) ?_ ?_
  rotate_left
  · simp only [Act.put, List.setIfInBounds_toArray, List.set_cons_zero, List.set_cons_succ, i64_w, i32_w]
    rfl
  refine pure_ (i := 4) (N := some 11) (v := undef) (a' := ?_) #[true, true, true, true, true, false, false, false, false, false, false, false, false, false, false] rfl rfl (by kernel_rfl) (fun _ _ _ h => h) (Or.inr ⟨by rfl, rfl⟩) ?_ ?_
  rotate_left
  · simp only [Act.put, List.setIfInBounds_toArray, List.set_cons_zero, List.set_cons_succ, i64_w, i32_w]
    rfl
  refine pure_ (i := 6) (N := some 13) (v := undef) (a' := ?_) #[true, true, true, true, true, false, true, false, false, false, false, false, false, false, false] rfl rfl (by kernel_rfl) (fun _ _ _ h => h) (Or.inr ⟨by rfl, rfl⟩) ?_ ?_
  rotate_left
  · simp only [Act.put, List.setIfInBounds_toArray, List.set_cons_zero, List.set_cons_succ, i64_w, i32_w]
    rfl
  refine pure_ (i := 7) (N := some 14) (v := undef) (a' := ?_) #[true, true, true, true, true, false, true, true, false, false, false, false, false, false, false] rfl rfl (by kernel_rfl) (fun _ _ _ h => h) (Or.inr ⟨by rfl, rfl⟩) ?_ ?_
  rotate_left
  · simp only [Act.put, List.setIfInBounds_toArray, List.set_cons_zero, List.set_cons_succ, i64_w, i32_w]
    rfl
  refine pure_ (i := 10) (N := some 17) (v := undef) (a' := ?_) #[true, true, true, true, true, false, true, true, false, false, true, false, false, false, false] rfl rfl (by kernel_rfl) (fun _ _ _ h => h) (Or.inr ⟨by rfl, rfl⟩) ?_ ?_
  rotate_left
  · simp only [Act.put, List.setIfInBounds_toArray, List.set_cons_zero, List.set_cons_succ, i64_w, i32_w]
    rfl
  refine pure_ (i := 11) (N := some 18) (v := undef) (a' := ?_) #[true, true, true, true, true, false, true, true, false, false, true, true, false, false, false] rfl rfl (by kernel_rfl) (fun _ _ _ h => h) (Or.inr ⟨by rfl, rfl⟩) ?_ ?_
  rotate_left
  · simp only [Act.put, List.setIfInBounds_toArray, List.set_cons_zero, List.set_cons_succ, i64_w, i32_w]
    rfl
  refine pure_ (i := 5) (N := some 12) (v := undef) (a' := ?_) #[true, true, true, true, true, true, true, true, false, false, true, true, false, false, false] rfl rfl (by kernel_rfl) (fun _ _ _ h => h) (Or.inr ⟨by rfl, rfl⟩) ?_ ?_
  rotate_left
  · simp only [Act.put, List.setIfInBounds_toArray, List.set_cons_zero, List.set_cons_succ, i64_w, i32_w]
    rfl
  refine pure_ (i := 8) (N := some 15) (v := undef) (a' := ?_) #[true, true, true, true, true, true, true, true, true, false, true, true, false, false, false] rfl rfl (by kernel_rfl) (fun _ _ _ h => h) (Or.inr ⟨by rfl, rfl⟩) ?_ ?_
  rotate_left
  · simp only [Act.put, List.setIfInBounds_toArray, List.set_cons_zero, List.set_cons_succ, i64_w, i32_w]
    rfl
  refine pure_ (i := 9) (N := some 16) (v := undef) (a' := ?_) #[true, true, true, true, true, true, true, true, true, true, true, true, false, false, false] rfl rfl (by kernel_rfl) (fun _ _ _ h => h) (Or.inr ⟨by rfl, rfl⟩) ?_ ?_
  rotate_left
  · simp only [Act.put, List.setIfInBounds_toArray, List.set_cons_zero, List.set_cons_succ, i64_w, i32_w]
    rfl
  refine pure_ (i := 12) (N := some 19) (v := undef) (a' := ?_) #[true, true, true, true, true, true, true, true, true, true, true, true, true, false, false] rfl rfl (by kernel_rfl) (fun _ _ _ h => h) (Or.inr ⟨by rfl, rfl⟩) ?_ ?_
  rotate_left
  · simp only [Act.put, List.setIfInBounds_toArray, List.set_cons_zero, List.set_cons_succ, i64_w, i32_w]
    rfl
  refine pure_ (i := 13) (N := some 20) (v := ?_) (a' := ?_) #[true, true, true, true, true, true, true, true, true, true, true, true, true, true, false] rfl rfl (by kernel_rfl) (fun _ _ _ h => h) (Or.inl ⟨by rfl, ?_⟩) ?_ ?_
  rotate_left
  · intro w'
    go_simp
    with_reducible rfl
  rotate_left
  · simp only [Act.put, List.setIfInBounds_toArray, List.set_cons_zero, List.set_cons_succ, i64_w, i32_w]
    rfl
  refine pure_ (i := 14) (N := some 6) (v := ?_) (a' := ?_) #[true, true, true, true, true, true, true, true, true, true, true, true, true, true, true] rfl rfl (by kernel_rfl) (fun _ _ _ h => h) (Or.inl ⟨by rfl, ?_⟩) ?_ ?_
  rotate_left
  · intro w'
    go_simp
    with_reducible rfl
  rotate_left
  · simp only [Act.put, List.setIfInBounds_toArray, List.set_cons_zero, List.set_cons_succ, i64_w, i32_w]
    rfl
  refine done_ (by kernel_rfl) ?_
  go_wp2
  go_ret
  exact ⟨rfl, below_drew1 HB_W.out⟩
set_option maxRecDepth 100000 in
set_option maxHeartbeats 2000000 in
theorem agrees_open (o1 o2 : Int) (b1 : Bool) (A1 A2 : Option Addr) (c1 c2 : Nat) (l1 l2 : List S37) (dir : Bool) (w : World) (hr1 : k37.C w A1 l1.length l1) (hr2 : k37.C w A2 l2.length l2) (hc2 : l2.length ≤ c2) (hm1 : l1.length ≤ 16) (hm2 : l2.length ≤ 16) :
    Calls Try.prog 64 #[.agg #[.int .i64 o1, .bool b1, .slice A1 l1.length c1], .agg #[.int .i64 o2, .bool false, .slice A2 l2.length c2], .bool dir] w fun e w' => e = .returned (.bool (decide (renewL l1 l2 dir = l2))) ∧ Below w.heap.size w w' := by
  have HR1 := Aside0.mk hr1
  have HR2 := Aside0.mk hr2
  have HC2 := Aside0.mk hc2
  have HLn : Aside0 (((l2.filter ownB).length + (given l1 dir).length) ≤ 32) := ⟨by have := List.length_filter_le ownB l2; have := given_length l1 dir; omega⟩
  clear hr1 hr2 hc2
  go_enter Try.func64, Try.ntmps64
  go_upto_region 1 with (fail)
  have hb_ := below_alloc (below_alloc (Below.refl _ w) (.cells #[.int .i64 o1, .bool b1, .slice A1 l1.length c1] 33)) (.cells #[.int .i64 o2, .bool false, .slice A2 l2.length c2] 33)
  have hG0_ := blk_alloc (blk_lit0 w (.cells #[.int .i64 o1, .bool b1, .slice A1 l1.length c1] 33)) (.cells #[.int .i64 o2, .bool false, .slice A2 l2.length c2] 33)
  have hG1_ := blk_lit w (.cells #[.int .i64 o1, .bool b1, .slice A1 l1.length c1] 33) (.cells #[.int .i64 o2, .bool false, .slice A2 l2.length c2] 33)
  generalize ((w.alloc (.cells #[.int .i64 o1, .bool b1, .slice A1 l1.length c1] 33)).alloc (.cells #[.int .i64 o2, .bool false, .slice A2 l2.length c2] 33)) = W at hb_ hG0_ hG1_ ⊢
  have HB_W := Aside0.mk hb_
  have W0 := Aside0.mk hG0_
  have W1 := Aside0.mk hG1_
  clear hb_ hG0_ hG1_
  refine start_ (n := 15) (S := fun w' => w'.cell? ⟨w.heap.size + 1, 1, none⟩ = some (.bool false) ∧ w'.cell? ⟨w.heap.size + 1, 2, none⟩ = some (.slice A2 l2.length c2) ∧ w'.cell? ⟨w.heap.size, 0, none⟩ = some (.int .i64 o1) ∧ w'.cell? ⟨w.heap.size, 1, none⟩ = some (.bool b1) ∧ w'.cell? ⟨w.heap.size, 2, none⟩ = some (.slice A1 l1.length c1)) (ds := []) #[false, false, false, false, false, false, false, false, false, false, false, false, false, false, false] (by kernel_rfl) rfl rfl ⟨(blk_cell (blk_drew W1.out) 1).trans rfl, (blk_cell (blk_drew W1.out) 2).trans rfl, (blk_cell (blk_drew W0.out) 0).trans rfl, (blk_cell (blk_drew W0.out) 1).trans rfl, (blk_cell (blk_drew W0.out) 2).trans rfl⟩ (fun hHeld => ?_)
  have HB := Aside0.mk (below_drew1 HB_W.out)
  have HG0 := Aside0.mk (blk_drew W0.out)
  have HG1 := Aside0.mk (blk_drew W1.out)
  generalize W.drew = wd at HB HG0 HG1 hHeld ⊢
  clear HB_W W0 W1
  refine pure_ (i := 0) (N := some 7) (v := ?_) (a' := ?_) #[true, false, false, false, false, false, false, false, false, false, false, false, false, false, false] rfl rfl (by kernel_rfl) (fun _ _ _ h => h) (Or.inl ⟨by rfl, ?_⟩) ?_ ?_
  rotate_left
  · intro w'
    go_simp
    with_reducible rfl
  rotate_left
  · simp only [Act.put, List.setIfInBounds_toArray, List.set_cons_zero, List.set_cons_succ, i64_w, i32_w]
    rfl
  refine take_ (i := 1) (N := some 8) (v := ?_) (a' := ?_) #[true, true, false, false, false, false, false, false, false, false, false, false, false, false, false] rfl rfl (by kernel_rfl) (fun _ _ _ h => h) (Or.inl ⟨by rfl, ?_⟩) hHeld ?_ ?_
  rotate_left
  · rintro w' ⟨s0, s1, s2, s3, s4⟩
    go_simp
    with_reducible rfl
  rotate_left
  · simp only [Act.put, List.setIfInBounds_toArray, List.set_cons_zero, List.set_cons_succ, i64_w, i32_w]
    rfl
  refine pure_ (i := 2) (N := some 9) (v := ?_) (a' := ?_) #[true, true, true, false, false, false, false, false, false, false, false, false, false, false, false] rfl rfl (by kernel_rfl) (fun _ _ _ h => h) (Or.inl ⟨by rfl, ?_⟩) ?_ ?_
  rotate_left
  · intro w'
    go_simp
    with_reducible rfl
  rotate_left
  · simp only [Act.put, List.setIfInBounds_toArray, List.set_cons_zero, List.set_cons_succ, i64_w, i32_w]
    rfl
  refine pure_ (i := 3) (N := some 10) (v := ?_) (a' := ?_) #[true, true, true, true, false, false, false, false, false, false, false, false, false, false, false] rfl rfl (by kernel_rfl) (fun _ _ _ h => h) (Or.inl ⟨by rfl, ?_⟩) ?_ ?_
  rotate_left
  · intro w'
    go_simp
    with_reducible rfl
  rotate_left
  · simp only [Act.put, List.setIfInBounds_toArray, List.set_cons_zero, List.set_cons_succ, i64_w, i32_w]
    rfl
  refine take_ (i := 4) (N := some 11) (v := ?_) (a' := ?_) #[true, true, true, true, true, false, false, false, false, false, false, false, false, false, false] rfl rfl (by kernel_rfl) (fun _ _ _ h => h) (Or.inl ⟨by rfl, ?_⟩) hHeld ?_ ?_
  rotate_left
  · rintro w' ⟨s0, s1, s2, s3, s4⟩
    go_simp
    with_reducible rfl
  rotate_left
  · simp only [Act.put, List.setIfInBounds_toArray, List.set_cons_zero, List.set_cons_succ, i64_w, i32_w]
    rfl
  refine take_ (i := 6) (N := some 13) (v := ?_) (a' := ?_) #[true, true, true, true, true, false, true, false, false, false, false, false, false, false, false] rfl rfl (by kernel_rfl) (fun _ _ _ h => h) (Or.inl ⟨by rfl, ?_⟩) hHeld ?_ ?_
  rotate_left
  · rintro w' ⟨s0, s1, s2, s3, s4⟩
    go_simp
    with_reducible rfl
  rotate_left
  · simp only [Act.put, List.setIfInBounds_toArray, List.set_cons_zero, List.set_cons_succ, i64_w, i32_w]
    rfl
  refine pure_ (i := 7) (N := some 14) (v := ?_) (a' := ?_) #[true, true, true, true, true, false, true, true, false, false, false, false, false, false, false] rfl rfl (by kernel_rfl) (fun _ _ _ h => h) (Or.inl ⟨by rfl, ?_⟩) ?_ ?_
  rotate_left
  · intro w'
    go_simp
    with_reducible rfl
  rotate_left
  · simp only [Act.put, List.setIfInBounds_toArray, List.set_cons_zero, List.set_cons_succ, i64_w, i32_w]
    rfl
  refine pure_ (i := 10) (N := some 17) (v := ?_) (a' := ?_) #[true, true, true, true, true, false, true, true, false, false, true, false, false, false, false] rfl rfl (by kernel_rfl) (fun _ _ _ h => h) (Or.inl ⟨by rfl, ?_⟩) ?_ ?_
  rotate_left
  · intro w'
    go_simp
    with_reducible rfl
  rotate_left
  · simp only [Act.put, List.setIfInBounds_toArray, List.set_cons_zero, List.set_cons_succ, i64_w, i32_w]
    rfl
  refine take_ (i := 11) (N := some 18) (v := ?_) (a' := ?_) #[true, true, true, true, true, false, true, true, false, false, true, true, false, false, false] rfl rfl (by kernel_rfl) (fun _ _ _ h => h) (Or.inl ⟨by rfl, ?_⟩) hHeld ?_ ?_
  rotate_left
  · rintro w' ⟨s0, s1, s2, s3, s4⟩
    go_simp
    with_reducible rfl
  rotate_left
  · simp only [Act.put, List.setIfInBounds_toArray, List.set_cons_zero, List.set_cons_succ, i64_w, i32_w]
    rfl
  refine one_ (i := 5) (N := some 12) #[true, true, true, true, true, true, true, true, false, false, true, true, false, false, false] rfl rfl (by kernel_rfl) (by decide) (fun K hK => ?_)
  refine goes_ Try.func50 (by kernel_rfl) rfl #[.slice A2 l2.length c2, .func (.func 51) #[] #[]] (by rfl) rfl rfl (by (try simp only [List.map_toArray, List.map_cons, List.map_nil]); first | done | rfl) ?_
  refine (filter_calls 51 #[] ownB A2 c2 l2 _ (looks_own _) (Kd.C_below HR2.out HB.out) (by omega)).mono ?_
  rintro e w5 ⟨v5, rfl, hra, hb⟩
  refine ⟨_, rfl, ?_⟩
  have HO5 := Aside0.mk (Kd.R_lower hra HB.out.size)
  have HB5 := Aside0.mk (below_step HB.out hb)
  have K0 := Aside0.mk (blk_below HG0.out hb)
  have K1 := Aside0.mk (blk_below HG1.out hb)
  clear hra hb HG0 HG1 HB
  refine hK.out _ _ ⟨(blk_cell K1.out 1).trans rfl, (blk_cell K1.out 2).trans rfl, (blk_cell K0.out 0).trans rfl, (blk_cell K0.out 1).trans rfl, (blk_cell K0.out 2).trans rfl⟩ (fun hHeld => ?_)
  clear hK K
  refine norm_ (a' := ?_) ?_ ?_
  rotate_left
  · show Act.put _ (some 12) _ = _
    simp only [Act.put, List.setIfInBounds_toArray, List.set_cons_zero, List.set_cons_succ, i64_w, i32_w]
    rfl
  refine one_ (i := 8) (N := some 15) #[true, true, true, true, true, true, true, true, true, false, true, true, false, false, false] rfl rfl (by kernel_rfl) (by decide) (fun K hK => ?_)
  refine goes_ Try.func59 (by kernel_rfl) rfl #[.agg #[.int .i64 o1, .bool b1, .slice A1 l1.length c1], .bool dir] (by rfl) rfl rfl (by (try simp only [List.map_toArray, List.map_cons, List.map_nil]); first | done | rfl) ?_
  refine (given_calls o1 b1 A1 c1 l1 dir _ (Kd.C_below HR1.out HB5.out) (by omega)).mono ?_
  rintro e w6 ⟨v6, rfl, hra, hb⟩
  refine ⟨_, rfl, ?_⟩
  obtain ⟨A6, c6, rfl⟩ := Kd.R_slice hra
  have HC6 := Aside0.mk (Kd.R_reads' hra).2.2
  have HO6 := Aside0.mk (Kd.R_below HO5.out hb)
  have HB6 := Aside0.mk (below_step HB5.out hb)
  have L0 := Aside0.mk (blk_below K0.out hb)
  have L1 := Aside0.mk (blk_below K1.out hb)
  clear hra hb K0 K1 HO5 HB5
  refine hK.out _ _ ⟨(blk_cell L1.out 1).trans rfl, (blk_cell L1.out 2).trans rfl, (blk_cell L0.out 0).trans rfl, (blk_cell L0.out 1).trans rfl, (blk_cell L0.out 2).trans rfl⟩ (fun hHeld => ?_)
  clear hK K
  refine norm_ (a' := ?_) ?_ ?_
  rotate_left
  · show Act.put _ (some 15) _ = _
    simp only [Act.put, List.setIfInBounds_toArray, List.set_cons_zero, List.set_cons_succ, i64_w, i32_w]
    rfl
  refine one_ (i := 9) (N := some 16) #[true, true, true, true, true, true, true, true, true, true, true, true, false, false, false] rfl rfl (by kernel_rfl) (by decide) (fun K hK => ?_)
  refine Kd.R_append_rows_step k37 (Rr := k37.K _) (w0 := w) w.heap.size (by rfl) (.tmp 12) (.tmp 15) 31 37 (.agg #[(.bool false), (.int .i64 0), (.int .i64 0), (.int .i64 0)]) 32 rfl Try.underlying31 info37 rfl (by decide) (by omega) v5 (l2.filter ownB) (given l1 dir) _ _ _ (fun _ => True) (fun _ => False) rfl rfl (HO6.out) (HC6.out) (fun x cs h => by rw [k37_open h]; exact k37_mkM _ _ _ _) (fun _ h => h.elim) (fun _ _ => trivial) (HB6.out) (HB6.out).size (by have := HLn.out; omega) ?_
  intro v7 w7 ho hb hg hat
  have HO7 := Aside0.mk ho
  have HB7 := Aside0.mk hb
  have M0 := Aside0.mk (blk_grown L0.out hg (Kd.R_ne HO6.out L0.out (by decide)))
  have M1 := Aside0.mk (blk_grown L1.out hg (Kd.R_ne HO6.out L1.out (by decide)))
  clear ho hb hg hat L0 L1 HO6 HB6 HC6
  obtain ⟨A7, c7, rfl⟩ := Kd.R_slice HO7.out
  refine hK.out _ _ ⟨(blk_cell M1.out 1).trans rfl, (blk_cell M1.out 2).trans rfl, (blk_cell M0.out 0).trans rfl, (blk_cell M0.out 1).trans rfl, (blk_cell M0.out 2).trans rfl⟩ (fun hHeld => ?_)
  clear hK K
  refine norm_ (a' := ?_) ?_ ?_
  rotate_left
  · show Act.put _ (some 16) _ = _
    simp only [Act.put, List.setIfInBounds_toArray, List.set_cons_zero, List.set_cons_succ, i64_w, i32_w]
    rfl
  refine one_ (i := 12) (N := some 19) #[true, true, true, true, true, true, true, true, true, true, true, true, true, false, false] rfl rfl (by kernel_rfl) (by decide) (fun K hK => ?_)
  refine goes_ Try.func68 (by kernel_rfl) rfl #[.slice A7 (l2.filter ownB ++ given l1 dir).length c7, .slice A2 l2.length c2] (by rfl) rfl rfl (by (try simp only [List.map_toArray, List.map_cons, List.map_nil]); first | done | rfl) ?_
  refine (equal_calls A7 c7 (l2.filter ownB ++ given l1 dir) A2 c2 l2 _ (Kd.R_reads' HO7.out).2.2 (Kd.R_reads' HO7.out).2.1 (Kd.C_below HR2.out HB7.out) HC2.out).mono ?_
  rintro e w8 ⟨rfl, hb⟩
  refine ⟨_, rfl, ?_⟩
  have HB8 := Aside0.mk (below_step HB7.out hb)
  have N0 := Aside0.mk (blk_below M0.out hb)
  have N1 := Aside0.mk (blk_below M1.out hb)
  clear hb M0 M1 HO7 HB7
  refine hK.out _ _ ⟨(blk_cell N1.out 1).trans rfl, (blk_cell N1.out 2).trans rfl, (blk_cell N0.out 0).trans rfl, (blk_cell N0.out 1).trans rfl, (blk_cell N0.out 2).trans rfl⟩ (fun hHeld => ?_)
  clear hK K
  refine norm_ (a' := ?_) ?_ ?_
  rotate_left
  · show Act.put _ (some 19) _ = _
    simp only [Act.put, List.setIfInBounds_toArray, List.set_cons_zero, List.set_cons_succ, i64_w, i32_w]
    rfl
  refine pure_ (i := 13) (N := some 20) (v := ?_) (a' := ?_) #[true, true, true, true, true, true, true, true, true, true, true, true, true, true, false] rfl rfl (by kernel_rfl) (fun _ _ _ h => h) (Or.inl ⟨by rfl, ?_⟩) ?_ ?_
  rotate_left
  · intro w'
    go_simp
    with_reducible rfl
  rotate_left
  · simp only [Act.put, List.setIfInBounds_toArray, List.set_cons_zero, List.set_cons_succ, i64_w, i32_w]
    rfl
  refine pure_ (i := 14) (N := some 6) (v := ?_) (a' := ?_) #[true, true, true, true, true, true, true, true, true, true, true, true, true, true, true] rfl rfl (by kernel_rfl) (fun _ _ _ h => h) (Or.inl ⟨by rfl, ?_⟩) ?_ ?_
  rotate_left
  · intro w'
    go_simp
    with_reducible rfl
  rotate_left
  · simp only [Act.put, List.setIfInBounds_toArray, List.set_cons_zero, List.set_cons_succ, i64_w, i32_w]
    rfl
  refine done_ (by kernel_rfl) ?_
  go_wp2
  go_ret
  exact ⟨rfl, HB8.out⟩

theorem agrees_calls (o1 o2 : Int) (b1 b2 : Bool) (A1 A2 : Option Addr) (c1 c2 : Nat) (l1 l2 : List S37) (dir : Bool) (w : World) (hr1 : k37.C w A1 l1.length l1) (hr2 : k37.C w A2 l2.length l2) (hc2 : l2.length ≤ c2) (hm1 : l1.length ≤ 16) (hm2 : l2.length ≤ 16) :
    Calls Try.prog 64 #[.agg #[.int .i64 o1, .bool b1, .slice A1 l1.length c1], .agg #[.int .i64 o2, .bool b2, .slice A2 l2.length c2], .bool dir] w fun e w' => e = .returned (.bool (agB ⟨o1, b1, l1⟩ ⟨o2, b2, l2⟩ dir)) ∧ Below w.heap.size w w' := by
  cases b2
  · exact (agrees_open o1 o2 b1 A1 A2 c1 c2 l1 l2 dir w hr1 hr2 hc2 hm1 hm2).mono fun e w' h => ⟨h.1, h.2⟩
  · exact (agrees_prot o1 o2 b1 A1 A2 c1 c2 l1 l2 dir w).mono fun e w' h => ⟨h.1, h.2⟩
end Go.Proofs.Ytgocgjfaiddejaa.M
