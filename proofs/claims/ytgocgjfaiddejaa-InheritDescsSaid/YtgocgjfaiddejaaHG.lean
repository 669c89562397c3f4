/- Open and Ordered, of the program and of the reference. -/
import Derived.Test.YtgocgjfaiddejaaHU
import Derived.Test.YtgocgjfaiddejaaH13
namespace Go.Proofs.Ytgocgjfaiddejaa.M
open Go.RowKit Go.Proofs.YtgocgjfaiddejaaW.PrintWords Go.Proofs.YtgocgjfaiddejaaW.PrintLast Go.Proofs.YtgocgjfaiddejaaW.PrintMore
set_option linter.unusedVariables false
set_option linter.unusedSimpArgs false
set_option linter.unnecessarySimpa false

def sOpen (p d : S33) (dir : Bool) : S33 × Int := sRenew p ⟨d.f0, false, d.f2⟩ dir
def sOrdered (d : S33) : Bool × Int := if vD d = true then (decide (ordL d.f2 = d.f2), 0) else (false, 1)
set_option maxRecDepth 100000 in
set_option maxHeartbeats 2000000 in
theorem Open_calls (p d : S33) (A A2 : Option Addr) (c c2 : Nat) (dir : Bool) (w : World) (hr : k37.C w A p.f2.length p.f2) (hc : p.f2.length ≤ c) (hr2 : k37.C w A2 d.f2.length d.f2) (hc2 : d.f2.length ≤ c2) :
    Calls Try.prog 41 #[.agg #[.int .i64 p.f0, .bool p.f1, .slice A p.f2.length c], .agg #[.int .i64 d.f0, .bool d.f1, .slice A2 d.f2.length c2], .bool dir] w (DescPost (sOpen p d dir) w) := by
  obtain ⟨⟨⟨ro, rb, rl⟩, re⟩, hs⟩ : ∃ r, r = sOpen p d dir := ⟨_, rfl⟩
  rw [← hs]
  have HS := Aside0.mk (show sRenew ⟨p.f0, p.f1, p.f2⟩ ⟨d.f0, false, d.f2⟩ dir = (⟨ro, rb, rl⟩, re) from hs.symm)
  have HR := Aside0.mk hr
  have HC := Aside0.mk hc
  have HR2 := Aside0.mk hr2
  have HC2 := Aside0.mk hc2
  clear hr hc hr2 hc2 hs
  go_enter Try.func41, Try.ntmps41
  go_upto_region 1 with (fail)
  have hb_ := below_alloc (below_alloc (below_alloc (Below.refl _ w) (.cells #[.int .i64 p.f0, .bool p.f1, .slice A p.f2.length c] 33)) (.cells #[.int .i64 d.f0, .bool d.f1, .slice A2 d.f2.length c2] 33)) (.cells #[.int .i64 0, .bool false, .slice none 0 0] 33)
  have hG0_ := blk_alloc (blk_alloc (blk_lit0 w (.cells #[.int .i64 p.f0, .bool p.f1, .slice A p.f2.length c] 33)) (.cells #[.int .i64 d.f0, .bool d.f1, .slice A2 d.f2.length c2] 33)) (.cells #[.int .i64 0, .bool false, .slice none 0 0] 33)
  have hG1_ := blk_alloc (blk_lit w (.cells #[.int .i64 p.f0, .bool p.f1, .slice A p.f2.length c] 33) (.cells #[.int .i64 d.f0, .bool d.f1, .slice A2 d.f2.length c2] 33)) (.cells #[.int .i64 0, .bool false, .slice none 0 0] 33)
  have hG2_ := blk_lit2 w (.cells #[.int .i64 p.f0, .bool p.f1, .slice A p.f2.length c] 33) (.cells #[.int .i64 d.f0, .bool d.f1, .slice A2 d.f2.length c2] 33) (.cells #[.int .i64 0, .bool false, .slice none 0 0] 33)
  generalize (((w.alloc (.cells #[.int .i64 p.f0, .bool p.f1, .slice A p.f2.length c] 33)).alloc (.cells #[.int .i64 d.f0, .bool d.f1, .slice A2 d.f2.length c2] 33)).alloc (.cells #[.int .i64 0, .bool false, .slice none 0 0] 33)) = W at hb_ hG0_ hG1_ hG2_ ⊢
  have HB_W := Aside0.mk hb_
  have W0 := Aside0.mk hG0_
  have W1 := Aside0.mk hG1_
  have W2 := Aside0.mk hG2_
  clear hb_ hG0_ hG1_ hG2_
  have y0 := (blk_cell W1.out 0).trans rfl; have y1 := (blk_cell W1.out 1).trans rfl; have y2 := (blk_cell W1.out 2).trans rfl
  have fy0 := blk_frozen W1.out 0; have fy1 := blk_frozen W1.out 1; have fy2 := blk_frozen W1.out 2
  go_upto_region 2 with (fail)
  obtain ⟨w1, hw1⟩ : ∃ w1, w1 = W.setCell ⟨w.heap.size + 1, 1, none⟩ (.bool false) := ⟨_, rfl⟩
  rw [← hw1]
  have X0 := Aside0.mk (show w1.heap[w.heap.size]? = some (.cells #[.int .i64 p.f0, .bool p.f1, .slice A p.f2.length c] 33 (0, 0)) by rw [hw1]; exact blk_far W0.out (by simp) _)
  have X1 := Aside0.mk (show w1.heap[w.heap.size + 1]? = some (.cells #[.int .i64 d.f0, .bool false, .slice A2 d.f2.length c2] 33 (0, 0)) by rw [hw1]; exact blk_put W1.out 1 (.bool false) rfl)
  have X2 := Aside0.mk (show w1.heap[w.heap.size + 1 + 1]? = some (.cells #[.int .i64 0, .bool false, .slice none 0 0] 33 (0, 0)) by rw [hw1]; exact blk_far W2.out (by simp) _)
  have HB1 := Aside0.mk (show Below w.heap.size w w1 by rw [hw1]; exact HB_W.out.setCell (p := ⟨w.heap.size + 1, 1, none⟩) (show w.heap.size ≤ w.heap.size + 1 by omega) _)
  clear hw1 y0 y1 y2 fy0 fy1 fy2 W0 W1 W2 HB_W
  have x0 := (blk_cell X0.out 0).trans rfl; have x1 := (blk_cell X0.out 1).trans rfl; have x2 := (blk_cell X0.out 2).trans rfl
  have y0 := (blk_cell X1.out 0).trans rfl; have y1 := (blk_cell X1.out 1).trans rfl; have y2 := (blk_cell X1.out 2).trans rfl
  go_wp2_with ((with_reducible refine gate_dst (N := 12) rfl ?_); refine goesL_ (some 12) rfl rfl Try.func27 (by kernel_rfl) rfl #[.agg #[.int .i64 p.f0, .bool p.f1, .slice A p.f2.length c], .agg #[.int .i64 d.f0, .bool false, .slice A2 d.f2.length c2], .bool dir] rfl (by (try simp only [List.map_toArray, List.map_cons, List.map_nil]); first | done | rfl) ?_; have hq := Renew_calls p.f0 d.f0 p.f1 false A A2 c c2 p.f2 d.f2 dir _ (Kd.C_below HR.out HB1.out) HC.out (Kd.C_below HR2.out HB1.out) HC2.out; rw [HS.out] at hq; refine hq.mono ?_; rintro e w2 ⟨v, rfl, hra, hb⟩; refine ⟨_, rfl, ?_⟩; replace hra : RA w2 _ v rl := hra; dsimp only; obtain ⟨A3, c3, rfl⟩ := Kd.R_slice hra; have HO := Aside0.mk (Kd.R_lower hra HB1.out.size); have HB2 := Aside0.mk (below_step HB1.out hb); have Y2 := Aside0.mk (blk_below X2.out hb); clear hra hb hq x0 x1 x2 y0 y1 y2; have z0 := (blk_cell Y2.out 0).trans rfl; have z1 := (blk_cell Y2.out 1).trans rfl; have z2 := (blk_cell Y2.out 2).trans rfl; have fz0 := blk_frozen Y2.out 0; have fz1 := blk_frozen Y2.out 1; have fz2 := blk_frozen Y2.out 2)
  exact desc_end (r := (⟨ro, rb, rl⟩, re)) rfl rfl rfl Y2.out rfl (by omega) HO.out HB2.out
set_option maxRecDepth 100000 in
set_option maxHeartbeats 2000000 in
theorem rOpen_calls (p d : S33) (A A2 : Option Addr) (c c2 : Nat) (dir : Bool) (w : World) (hr : k37.C w A p.f2.length p.f2) (hc : p.f2.length ≤ c) (hr2 : k37.C w A2 d.f2.length d.f2) (hc2 : d.f2.length ≤ c2) :
    Calls Try.prog 42 #[.agg #[.int .i64 p.f0, .bool p.f1, .slice A p.f2.length c], .agg #[.int .i64 d.f0, .bool d.f1, .slice A2 d.f2.length c2], .bool dir] w (DescPost (sOpen p d dir) w) := by
  obtain ⟨⟨⟨ro, rb, rl⟩, re⟩, hs⟩ : ∃ r, r = sOpen p d dir := ⟨_, rfl⟩
  rw [← hs]
  have HS := Aside0.mk (show sRenew ⟨p.f0, p.f1, p.f2⟩ ⟨d.f0, false, d.f2⟩ dir = (⟨ro, rb, rl⟩, re) from hs.symm)
  have HR := Aside0.mk hr
  have HC := Aside0.mk hc
  have HR2 := Aside0.mk hr2
  have HC2 := Aside0.mk hc2
  clear hr hc hr2 hc2 hs
  go_enter Try.func42, Try.ntmps42
  go_upto_region 1 with (fail)
  have hb_ := below_alloc (below_alloc (below_alloc (Below.refl _ w) (.cells #[.int .i64 p.f0, .bool p.f1, .slice A p.f2.length c] 33)) (.cells #[.int .i64 d.f0, .bool d.f1, .slice A2 d.f2.length c2] 33)) (.cells #[.int .i64 0, .bool false, .slice none 0 0] 33)
  have hG0_ := blk_alloc (blk_alloc (blk_lit0 w (.cells #[.int .i64 p.f0, .bool p.f1, .slice A p.f2.length c] 33)) (.cells #[.int .i64 d.f0, .bool d.f1, .slice A2 d.f2.length c2] 33)) (.cells #[.int .i64 0, .bool false, .slice none 0 0] 33)
  have hG1_ := blk_alloc (blk_lit w (.cells #[.int .i64 p.f0, .bool p.f1, .slice A p.f2.length c] 33) (.cells #[.int .i64 d.f0, .bool d.f1, .slice A2 d.f2.length c2] 33)) (.cells #[.int .i64 0, .bool false, .slice none 0 0] 33)
  have hG2_ := blk_lit2 w (.cells #[.int .i64 p.f0, .bool p.f1, .slice A p.f2.length c] 33) (.cells #[.int .i64 d.f0, .bool d.f1, .slice A2 d.f2.length c2] 33) (.cells #[.int .i64 0, .bool false, .slice none 0 0] 33)
  generalize (((w.alloc (.cells #[.int .i64 p.f0, .bool p.f1, .slice A p.f2.length c] 33)).alloc (.cells #[.int .i64 d.f0, .bool d.f1, .slice A2 d.f2.length c2] 33)).alloc (.cells #[.int .i64 0, .bool false, .slice none 0 0] 33)) = W at hb_ hG0_ hG1_ hG2_ ⊢
  have HB_W := Aside0.mk hb_
  have W0 := Aside0.mk hG0_
  have W1 := Aside0.mk hG1_
  have W2 := Aside0.mk hG2_
  clear hb_ hG0_ hG1_ hG2_
  have y0 := (blk_cell W1.out 0).trans rfl; have y1 := (blk_cell W1.out 1).trans rfl; have y2 := (blk_cell W1.out 2).trans rfl
  have fy0 := blk_frozen W1.out 0; have fy1 := blk_frozen W1.out 1; have fy2 := blk_frozen W1.out 2
  go_upto_region 2 with (fail)
  obtain ⟨w1, hw1⟩ : ∃ w1, w1 = W.setCell ⟨w.heap.size + 1, 1, none⟩ (.bool false) := ⟨_, rfl⟩
  rw [← hw1]
  have X0 := Aside0.mk (show w1.heap[w.heap.size]? = some (.cells #[.int .i64 p.f0, .bool p.f1, .slice A p.f2.length c] 33 (0, 0)) by rw [hw1]; exact blk_far W0.out (by simp) _)
  have X1 := Aside0.mk (show w1.heap[w.heap.size + 1]? = some (.cells #[.int .i64 d.f0, .bool false, .slice A2 d.f2.length c2] 33 (0, 0)) by rw [hw1]; exact blk_put W1.out 1 (.bool false) rfl)
  have X2 := Aside0.mk (show w1.heap[w.heap.size + 1 + 1]? = some (.cells #[.int .i64 0, .bool false, .slice none 0 0] 33 (0, 0)) by rw [hw1]; exact blk_far W2.out (by simp) _)
  have HB1 := Aside0.mk (show Below w.heap.size w w1 by rw [hw1]; exact HB_W.out.setCell (p := ⟨w.heap.size + 1, 1, none⟩) (show w.heap.size ≤ w.heap.size + 1 by omega) _)
  clear hw1 y0 y1 y2 fy0 fy1 fy2 W0 W1 W2 HB_W
  have x0 := (blk_cell X0.out 0).trans rfl; have x1 := (blk_cell X0.out 1).trans rfl; have x2 := (blk_cell X0.out 2).trans rfl
  have y0 := (blk_cell X1.out 0).trans rfl; have y1 := (blk_cell X1.out 1).trans rfl; have y2 := (blk_cell X1.out 2).trans rfl
  go_wp2_with ((with_reducible refine gate_dst (N := 12) rfl ?_); refine goesL_ (some 12) rfl rfl Try.func28 (by kernel_rfl) rfl #[.agg #[.int .i64 p.f0, .bool p.f1, .slice A p.f2.length c], .agg #[.int .i64 d.f0, .bool false, .slice A2 d.f2.length c2], .bool dir] rfl (by (try simp only [List.map_toArray, List.map_cons, List.map_nil]); first | done | rfl) ?_; have hq := rRenew_calls p.f0 d.f0 p.f1 false A A2 c c2 p.f2 d.f2 dir _ (Kd.C_below HR.out HB1.out) HC.out (Kd.C_below HR2.out HB1.out) HC2.out; rw [HS.out] at hq; refine hq.mono ?_; rintro e w2 ⟨v, rfl, hra, hb⟩; refine ⟨_, rfl, ?_⟩; replace hra : RA w2 _ v rl := hra; dsimp only; obtain ⟨A3, c3, rfl⟩ := Kd.R_slice hra; have HO := Aside0.mk (Kd.R_lower hra HB1.out.size); have HB2 := Aside0.mk (below_step HB1.out hb); have Y2 := Aside0.mk (blk_below X2.out hb); clear hra hb hq x0 x1 x2 y0 y1 y2; have z0 := (blk_cell Y2.out 0).trans rfl; have z1 := (blk_cell Y2.out 1).trans rfl; have z2 := (blk_cell Y2.out 2).trans rfl; have fz0 := blk_frozen Y2.out 0; have fz1 := blk_frozen Y2.out 1; have fz2 := blk_frozen Y2.out 2)
  exact desc_end (r := (⟨ro, rb, rl⟩, re)) rfl rfl rfl Y2.out rfl (by omega) HO.out HB2.out
theorem ordered_end {ts : Array Value} {a : Bool} {b : Int} {W : World} (h1 : ts.getD 2 undef = .bool a) (h2 : ts.getD 3 undef = .int .i64 b) : (results Try.f45 ts).run Try.prog W = .ok (.tuple #[.bool a, .int .i64 b]) W := by
  have := results_list (P := Try.prog) (w := W) (tmps := ts) (fn := Try.f45) (rs := [.tmp 2, .tmp 3]) rfl (by simp) (.tmp (.tmp .nil))
  rw [h1, h2] at this
  exact this
set_option maxRecDepth 100000 in
set_option maxHeartbeats 2000000 in
theorem Ordered_calls (d : S33) (A2 : Option Addr) (c2 : Nat) (w : World) (hr2 : k37.C w A2 d.f2.length d.f2) (hc2 : d.f2.length ≤ c2) :
    Calls Try.prog 45 #[.agg #[.int .i64 d.f0, .bool d.f1, .slice A2 d.f2.length c2]] w fun e w' => e = .returned (.tuple #[.bool (sOrdered d).1, .int .i64 (sOrdered d).2]) ∧ Below w.heap.size w w' := by
  have HR2 := Aside0.mk hr2
  have HC2 := Aside0.mk hc2
  clear hr2 hc2
  cases hv : vDesc d.f0 d.f2 with
  | false =>
    have HV := Aside0.mk hv
    have HS := Aside0.mk (show sOrdered d = (false, 1) by unfold sOrdered; rw [if_neg (by unfold vD; rw [hv]; simp)])
    clear hv
    go_enter Try.func45, Try.ntmps45
    go_upto_region 1 with (fail)
    have hb_ := below_alloc (Below.refl _ w) (.cells #[.int .i64 d.f0, .bool d.f1, .slice A2 d.f2.length c2] 33)
    have hG0_ := blk_lit0 w (.cells #[.int .i64 d.f0, .bool d.f1, .slice A2 d.f2.length c2] 33)
    generalize (w.alloc (.cells #[.int .i64 d.f0, .bool d.f1, .slice A2 d.f2.length c2] 33)) = W at hb_ hG0_ ⊢
    have HB_W := Aside0.mk hb_
    have W0 := Aside0.mk hG0_
    clear hb_ hG0_
    have y0 := (blk_cell W0.out 0).trans rfl; have y1 := (blk_cell W0.out 1).trans rfl; have y2 := (blk_cell W0.out 2).trans rfl
    go_wp2_with ((with_reducible refine gate_dst (N := 6) rfl ?_); refine goesL_ (some 6) rfl rfl Try.func58 (by kernel_rfl) rfl #[.slice (some ⟨W.heap.size, 0, none⟩) 1 1] rfl (by (try simp only [List.map_toArray, List.map_cons, List.map_nil]); first | done | rfl) ?_; refine (valid_one _ d.f0 d.f1 A2 c2 d.f2 _ (blk_new _ _) (Kd.C_alloc (Kd.C_below HR2.out HB_W.out) _) HC2.out).mono ?_; rintro e w1 ⟨rfl, hb⟩; refine ⟨_, rfl, ?_⟩; rw [HV.out]; have HB1 := Aside0.mk (below_step (below_alloc HB_W.out _) hb); clear hb y0 y1 y2)
    rw [HS.out]
    refine bodyPost_ret (ordered_end (by rfl) (by rfl)) rfl ⟨rfl, HB1.out⟩
  | true =>
    have HV := Aside0.mk hv
    have HS := Aside0.mk (show sOrdered d = (decide (ordL d.f2 = d.f2), 0) by unfold sOrdered; rw [if_pos (show vD d = true from hv)])
    clear hv
    go_enter Try.func45, Try.ntmps45
    go_upto_region 1 with (fail)
    have hb_ := below_alloc (Below.refl _ w) (.cells #[.int .i64 d.f0, .bool d.f1, .slice A2 d.f2.length c2] 33)
    have hG0_ := blk_lit0 w (.cells #[.int .i64 d.f0, .bool d.f1, .slice A2 d.f2.length c2] 33)
    generalize (w.alloc (.cells #[.int .i64 d.f0, .bool d.f1, .slice A2 d.f2.length c2] 33)) = W at hb_ hG0_ ⊢
    have HB_W := Aside0.mk hb_
    have W0 := Aside0.mk hG0_
    clear hb_ hG0_
    have y0 := (blk_cell W0.out 0).trans rfl; have y1 := (blk_cell W0.out 1).trans rfl; have y2 := (blk_cell W0.out 2).trans rfl
    go_upto_region 3 with ((with_reducible refine gate_dst (N := 6) rfl ?_); refine goesL_ (some 6) rfl rfl Try.func58 (by kernel_rfl) rfl #[.slice (some ⟨W.heap.size, 0, none⟩) 1 1] rfl (by (try simp only [List.map_toArray, List.map_cons, List.map_nil]); first | done | rfl) ?_; refine (valid_one _ d.f0 d.f1 A2 c2 d.f2 _ (blk_new _ _) (Kd.C_alloc (Kd.C_below HR2.out HB_W.out) _) HC2.out).mono ?_; rintro e w1 ⟨rfl, hb⟩; refine ⟨_, rfl, ?_⟩; rw [HV.out]; have HB1 := Aside0.mk (below_step (below_alloc HB_W.out _) hb); have X1 := Aside0.mk (blk_below (blk_alloc W0.out _) hb); clear hb y0 y1 y2)
    have XD := Aside0.mk (blk_drew X1.out)
    have HBD := Aside0.mk (below_drew1 HB1.out)
    refine start_ (n := 8) (S := fun w' => w'.cell? ⟨w.heap.size, 2, none⟩ = some (.slice A2 d.f2.length c2)) (ds := []) #[false, false, false, false, false, false, false, false] (by kernel_rfl) rfl rfl (by exact (blk_cell (blk_drew X1.out) 2).trans rfl) (fun hHeld => ?_)
    clear X1 HB1
    generalize w1.drew = wd at XD HBD hHeld ⊢
    refine pure_ (i := 0) (N := some 8) (v := ?_) (a' := ?_) #[true, false, false, false, false, false, false, false] rfl rfl (by kernel_rfl) (fun _ _ _ h => h) (Or.inl ⟨by rfl, ?_⟩) ?_ ?_
    rotate_left
    · intro w'
      go_simp
      with_reducible rfl
    rotate_left
    · simp only [Act.put, List.setIfInBounds_toArray, List.set_cons_zero, List.set_cons_succ, i64_w, i32_w]
      rfl
    refine take_ (i := 1) (N := some 9) (v := ?_) (a' := ?_) #[true, true, false, false, false, false, false, false] rfl rfl (by kernel_rfl) (fun _ _ _ h => h) (Or.inl ⟨by rfl, ?_⟩) hHeld ?_ ?_
    rotate_left
    · rintro w' s0
      go_simp
      with_reducible rfl
    rotate_left
    · simp only [Act.put, List.setIfInBounds_toArray, List.set_cons_zero, List.set_cons_succ, i64_w, i32_w]
      rfl
    refine pure_ (i := 3) (N := some 11) (v := ?_) (a' := ?_) #[true, true, false, true, false, false, false, false] rfl rfl (by kernel_rfl) (fun _ _ _ h => h) (Or.inl ⟨by rfl, ?_⟩) ?_ ?_
    rotate_left
    · intro w'
      go_simp
      with_reducible rfl
    rotate_left
    · simp only [Act.put, List.setIfInBounds_toArray, List.set_cons_zero, List.set_cons_succ, i64_w, i32_w]
      rfl
    refine take_ (i := 4) (N := some 12) (v := ?_) (a' := ?_) #[true, true, false, true, true, false, false, false] rfl rfl (by kernel_rfl) (fun _ _ _ h => h) (Or.inl ⟨by rfl, ?_⟩) hHeld ?_ ?_
    rotate_left
    · rintro w' s0
      go_simp
      with_reducible rfl
    rotate_left
    · simp only [Act.put, List.setIfInBounds_toArray, List.set_cons_zero, List.set_cons_succ, i64_w, i32_w]
      rfl
    refine one_ (i := 2) (N := some 10) #[true, true, true, true, true, false, false, false] rfl rfl (by kernel_rfl) (by decide) (fun K hK => ?_)
    refine goes_ Try.func67 (by kernel_rfl) rfl #[.slice A2 d.f2.length c2] (by rfl) rfl rfl (by (try simp only [List.map_toArray, List.map_cons, List.map_nil]); first | done | rfl) ?_
    refine (ordered_calls A2 c2 d.f2 _ (Kd.C_below HR2.out HBD.out) (vDesc_len HV.out)).mono ?_
    rintro e w3 ⟨v, rfl, hra, hb⟩
    refine ⟨_, rfl, ?_⟩
    obtain ⟨A3, c3, rfl⟩ := Kd.R_slice hra
    have HB3 := Aside0.mk (below_step HBD.out hb)
    have X3 := Aside0.mk (blk_below XD.out hb)
    have HO3 := Aside0.mk (Kd.R_reads' hra).2
    clear hra hb
    refine hK.out _ _ ((blk_cell X3.out 2).trans rfl) (fun hHeld => ?_)
    clear hK K
    refine norm_ (a' := ?_) ?_ ?_
    rotate_left
    · show Act.put _ (some 10) _ = _
      simp only [Act.put, List.setIfInBounds_toArray, List.set_cons_zero, List.set_cons_succ, i64_w, i32_w]
      rfl
    refine one_ (i := 5) (N := some 13) #[true, true, true, true, true, true, false, false] rfl rfl (by kernel_rfl) (by decide) (fun K hK => ?_)
    refine goes_ Try.func68 (by kernel_rfl) rfl #[.slice A3 (ordL d.f2).length c3, .slice A2 d.f2.length c2] (by rfl) rfl rfl (by (try simp only [List.map_toArray, List.map_cons, List.map_nil]); first | done | rfl) ?_
    refine (equal_calls A3 c3 (ordL d.f2) A2 c2 d.f2 _ HO3.out.2 HO3.out.1 (Kd.C_below HR2.out HB3.out) HC2.out).mono ?_
    rintro e w4 ⟨rfl, hb⟩
    refine ⟨_, rfl, ?_⟩
    have HB4 := Aside0.mk (below_step HB3.out hb)
    have X4 := Aside0.mk (blk_below X3.out hb)
    clear hb
    refine hK.out _ _ ((blk_cell X4.out 2).trans rfl) (fun hHeld => ?_)
    clear hK K
    refine norm_ (a' := ?_) ?_ ?_
    rotate_left
    · show Act.put _ (some 13) _ = _
      simp only [Act.put, List.setIfInBounds_toArray, List.set_cons_zero, List.set_cons_succ, i64_w, i32_w]
      rfl
    refine pure_ (i := 6) (N := some 2) (v := ?_) (a' := ?_) #[true, true, true, true, true, true, true, false] rfl rfl (by kernel_rfl) (fun _ _ _ h => h) (Or.inl ⟨by rfl, ?_⟩) ?_ ?_
    rotate_left
    · intro w'
      go_simp
      with_reducible rfl
    rotate_left
    · simp only [Act.put, List.setIfInBounds_toArray, List.set_cons_zero, List.set_cons_succ, i64_w, i32_w]
      rfl
    refine pure_ (i := 7) (N := some 3) (v := ?_) (a' := ?_) #[true, true, true, true, true, true, true, true] rfl rfl (by kernel_rfl) (fun _ _ _ h => h) (Or.inl ⟨by rfl, ?_⟩) ?_ ?_
    rotate_left
    · intro w'
      go_simp
      with_reducible rfl
    rotate_left
    · simp only [Act.put, List.setIfInBounds_toArray, List.set_cons_zero, List.set_cons_succ, i64_w, i32_w]
      rfl
    refine done_ (by kernel_rfl) ?_
    clear hHeld
    go_wp2
    rw [HS.out]
    refine bodyPost_ret (ordered_end (by rfl) (by rfl)) rfl ⟨rfl, HB4.out⟩
end Go.Proofs.Ytgocgjfaiddejaa.M
