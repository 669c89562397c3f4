/- inherit.renewed. -/
import Derived.Test.YtgocgjfaiddejaaH9
import Derived.Test.YtgocgjfaiddejaaH5
import Derived.Test.YtgocgjfaiddejaaFA
namespace Go.Proofs.Ytgocgjfaiddejaa.M
open Go.RowKit Go.Proofs.YtgocgjfaiddejaaW.PrintWords Go.Proofs.YtgocgjfaiddejaaW.PrintLast Go.Proofs.YtgocgjfaiddejaaW.PrintMore
set_option linter.unusedVariables false
set_option linter.unusedSimpArgs false

theorem looks_own (W : World) : Looks 51 #[] ownB W where
  enters := enters_ Try.func51 (by kernel_rfl) rfl
  calls := fun x w _ => inherit_own.calls x.f0 x.f1 x.f2 x.f3 _ w rfl
theorem looks_had (W : World) : Looks 49 #[] hadB W where
  enters := enters_ Try.func49 (by kernel_rfl) rfl
  calls := fun x w _ => inherit_had.calls x.f0 x.f1 x.f2 x.f3 _ w rfl

/-- The entries of a descriptor that is renewed. -/
def renewL (l1 l2 : List S37) (dir : Bool) : List S37 := l2.filter ownB ++ given l1 dir
/-- What comes of a descriptor that is renewed, or the panic of the limit. -/
def RenewPost (o2 : Int) (b2 : Bool) (l1 l2 : List S37) (dir : Bool) (w : World) (e : Ending) (w' : World) : Prop :=
  Below w.heap.size w w' ∧
  (if b2 = true then ∃ v, e = .returned (.agg #[.int .i64 o2, .bool true, v]) ∧ RA w' w.heap.size v l2
   else if (renewL l1 l2 dir).length ≤ 16 then ∃ v, e = .returned (.agg #[.int .i64 o2, .bool false, v]) ∧ RA w' w.heap.size v (renewL l1 l2 dir)
   else e = .panicked [{ v := .iface 101 (.agg #[]), recovered := false }])

theorem own_slice_cell {w : World} {base : Nat} {v : Value} {xs : List S37} (h : RA w base v xs) : v.cells = #[v] ∧ v.oneCell' = true := by
  obtain ⟨A, c, rfl⟩ := Kd.R_slice h
  exact ⟨rfl, rfl⟩

set_option maxRecDepth 100000 in
set_option maxHeartbeats 2000000 in
theorem renewed_prot (o1 o2 : Int) (b1 : Bool) (A1 A2 : Option Addr) (c1 c2 : Nat) (l1 l2 : List S37) (dir : Bool) (w : World) (hr2 : k37.C w A2 l2.length l2) (hm2 : l2.length ≤ 16) :
    Calls Try.prog 62 #[.agg #[.int .i64 o1, .bool b1, .slice A1 l1.length c1], .agg #[.int .i64 o2, .bool true, .slice A2 l2.length c2], .bool dir] w (RenewPost o2 true l1 l2 dir w) := by
  have HR2 := Aside0.mk hr2
  clear hr2
  have HB1 := Aside0.mk (below_alloc (below_alloc (below_alloc (Below.refl _ w) (.cells #[.int .i64 o1, .bool b1, .slice A1 l1.length c1] 33)) (.cells #[.int .i64 o2, .bool true, .slice A2 l2.length c2] 33)) (.cells #[.int .i64 0, .bool false, .slice none 0 0] 33))
  have hg1 := blk_alloc (blk_new (w.alloc (.cells #[.int .i64 o1, .bool b1, .slice A1 l1.length c1] 33)) (.cells #[.int .i64 o2, .bool true, .slice A2 l2.length c2] 33)) (.cells #[.int .i64 0, .bool false, .slice none 0 0] 33)
  have hg2 := blk_new ((w.alloc (.cells #[.int .i64 o1, .bool b1, .slice A1 l1.length c1] 33)).alloc (.cells #[.int .i64 o2, .bool true, .slice A2 l2.length c2] 33)) (.cells #[.int .i64 0, .bool false, .slice none 0 0] 33)
  simp only [World.size_alloc] at hg1 hg2
  have HG1 := Aside0.mk hg1
  have HG2 := Aside0.mk hg2
  clear hg1 hg2
  go_enter Try.func62, Try.ntmps62
  go_wp2_with ((with_reducible refine gate_dst (N := 11) rfl ?_); refine goesL_ (some 11) rfl rfl Try.func66 (by kernel_rfl) rfl #[.slice A2 l2.length c2] rfl (by (try simp only [List.map_toArray, List.map_cons, List.map_nil]); first | done | rfl) ?_; refine (clone_calls A2 c2 l2 _ (Kd.C_below HR2.out HB1.out) (by omega)).mono ?_; rintro e w' ⟨v, rfl, hra, hb⟩; refine ⟨_, rfl, ?_⟩; obtain ⟨A3, c3, rfl⟩ := Kd.R_slice hra; have HO := Aside0.mk (Kd.R_lower hra HB1.out.size); have HB2 := Aside0.mk (below_step HB1.out hb); have hh1 := blk_below HG1.out hb; have hh2 := blk_below HG2.out hb; have HH1 := Aside0.mk hh1; have HH2 := Aside0.mk hh2; have y0 := (blk_cell hh1 0).trans rfl; have y1 := (blk_cell hh1 1).trans rfl; have y2 := (blk_cell hh1 2).trans rfl; have z0 := (blk_cell hh2 0).trans rfl; have z1 := (blk_cell hh2 1).trans rfl; have z2 := (blk_cell hh2 2).trans rfl; have fy0 := blk_frozen hh1 0; have fy1 := blk_frozen hh1 1; have fy2 := blk_frozen hh1 2; have fz0 := blk_frozen hh2 0; have fz1 := blk_frozen hh2 1; have fz2 := blk_frozen hh2 2; clear hra hb hh1 hh2)
  have ne : w.heap.size + 1 + 1 ≠ (⟨w.heap.size + 1, 2, none⟩ : Addr).block := by simp
  have q0 := blk_far HH2.out ne (.slice A3 l2.length c3)
  have q1 := blk_put q0 0 (.int .i64 o2) rfl
  have q2 := blk_put q1 1 (.bool true) rfl
  have q3 := blk_put q2 2 (.slice A3 l2.length c3) rfl
  refine bodyPost_ret (v := .agg #[.int .i64 o2, .bool true, .slice A3 l2.length c3]) (results_single rfl (.cell _ _ _ _ _ rfl q3 Try.underlying33 rfl (by kernel_rfl) .nil)) rfl ⟨?_, ?_⟩
  · exact (((HB2.out.setCell (p := ⟨w.heap.size + 1, 2, none⟩) (show w.heap.size ≤ w.heap.size + 1 by omega) _).setCell (p := ⟨w.heap.size + 1 + 1, 0, none⟩) (show w.heap.size ≤ w.heap.size + 1 + 1 by omega) _).setCell (p := ⟨w.heap.size + 1 + 1, 1, none⟩) (show w.heap.size ≤ w.heap.size + 1 + 1 by omega) _).setCell (p := ⟨w.heap.size + 1 + 1, 2, none⟩) (show w.heap.size ≤ w.heap.size + 1 + 1 by omega) _
  · rw [if_pos rfl]
    refine ⟨_, rfl, ?_⟩
    exact Kd.R_set (Kd.R_set (Kd.R_set (Kd.R_set HO.out HH1.out (by decide) 2 _) q0 (by decide) 0 _) q1 (by decide) 1 _) q2 (by decide) 2 _

set_option maxRecDepth 100000 in
set_option maxHeartbeats 2000000 in
theorem renewed_open (o1 o2 : Int) (b1 : Bool) (A1 A2 : Option Addr) (c1 c2 : Nat) (l1 l2 : List S37) (dir : Bool) (w : World) (hr1 : k37.C w A1 l1.length l1) (hr2 : k37.C w A2 l2.length l2) (hm1 : l1.length ≤ 16) (hm2 : l2.length ≤ 16) :
    Calls Try.prog 62 #[.agg #[.int .i64 o1, .bool b1, .slice A1 l1.length c1], .agg #[.int .i64 o2, .bool false, .slice A2 l2.length c2], .bool dir] w (RenewPost o2 false l1 l2 dir w) := by
  have HR1 := Aside0.mk hr1
  have HR2 := Aside0.mk hr2
  clear hr1 hr2
  have HLn : Aside0 (((l2.filter ownB).length + (given l1 dir).length) ≤ 32) := ⟨by have := List.length_filter_le ownB l2; have := given_length l1 dir; omega⟩
  have hb1 := below_alloc (below_alloc (below_alloc (Below.refl _ w) (.cells #[.int .i64 o1, .bool b1, .slice A1 l1.length c1] 33)) (.cells #[.int .i64 o2, .bool false, .slice A2 l2.length c2] 33)) (.cells #[.int .i64 0, .bool false, .slice none 0 0] 33)
  have hg0 := blk_alloc (blk_alloc (blk_new w (.cells #[.int .i64 o1, .bool b1, .slice A1 l1.length c1] 33)) (.cells #[.int .i64 o2, .bool false, .slice A2 l2.length c2] 33)) (.cells #[.int .i64 0, .bool false, .slice none 0 0] 33)
  have hg1 := blk_alloc (blk_new (w.alloc (.cells #[.int .i64 o1, .bool b1, .slice A1 l1.length c1] 33)) (.cells #[.int .i64 o2, .bool false, .slice A2 l2.length c2] 33)) (.cells #[.int .i64 0, .bool false, .slice none 0 0] 33)
  have hg2 := blk_new ((w.alloc (.cells #[.int .i64 o1, .bool b1, .slice A1 l1.length c1] 33)).alloc (.cells #[.int .i64 o2, .bool false, .slice A2 l2.length c2] 33)) (.cells #[.int .i64 0, .bool false, .slice none 0 0] 33)
  simp only [World.size_alloc] at hg1 hg2
  replace hb1 := below_drew1 hb1
  replace hg0 := blk_drew hg0
  replace hg1 := blk_drew hg1
  replace hg2 := blk_drew hg2
  have HB := Aside0.mk hb1
  have HG0 := Aside0.mk hg0
  have HG1 := Aside0.mk hg1
  have HG2 := Aside0.mk hg2
  clear hb1 hg0 hg1 hg2
  go_enter Try.func62, Try.ntmps62
  go_wp2
  refine start_ (n := 9) (S := fun w' => w'.cell? ⟨w.heap.size + 1, 2, none⟩ = some (.slice A2 l2.length c2) ∧ w'.cell? ⟨w.heap.size, 0, none⟩ = some (.int .i64 o1) ∧ w'.cell? ⟨w.heap.size, 1, none⟩ = some (.bool b1) ∧ w'.cell? ⟨w.heap.size, 2, none⟩ = some (.slice A1 l1.length c1)) (ds := [8]) #[false, false, false, false, false, false, false, false, false] (by kernel_rfl) rfl rfl ⟨(blk_cell HG1.out 2).trans rfl, (blk_cell HG0.out 0).trans rfl, (blk_cell HG0.out 1).trans rfl, (blk_cell HG0.out 2).trans rfl⟩ (fun hHeld => ?_)
  generalize (((w.alloc (.cells #[.int .i64 o1, .bool b1, .slice A1 l1.length c1] 33)).alloc (.cells #[.int .i64 o2, .bool false, .slice A2 l2.length c2] 33)).alloc (.cells #[.int .i64 0, .bool false, .slice none 0 0] 33)).drew = wd at HB HG0 HG1 HG2 hHeld ⊢
  refine pure_ (i := 0) (N := some 14) (v := ?_) (a' := ?_) #[true, false, false, false, false, false, false, false, false] rfl rfl (by kernel_rfl) (fun _ _ _ h => h) (Or.inl ⟨by rfl, ?_⟩) ?_ ?_
  rotate_left
  · intro w'
    go_simp
    with_reducible rfl
  rotate_left
  · simp only [Act.put, List.setIfInBounds_toArray, List.set_cons_zero, List.set_cons_succ, i64_w, i32_w]
    rfl
  refine pure_ (i := 4) (N := some 18) (v := ?_) (a' := ?_) #[true, false, false, false, true, false, false, false, false] rfl rfl (by kernel_rfl) (fun _ _ _ h => h) (Or.inl ⟨by rfl, ?_⟩) ?_ ?_
  rotate_left
  · intro w'
    go_simp
    with_reducible rfl
  rotate_left
  · simp only [Act.put, List.setIfInBounds_toArray, List.set_cons_zero, List.set_cons_succ, i64_w, i32_w]
    rfl
  refine take_ (i := 1) (N := some 15) (v := ?_) (a' := ?_) #[true, true, false, false, true, false, false, false, false] rfl rfl (by kernel_rfl) (fun _ _ _ h => h) (Or.inl ⟨by rfl, ?_⟩) hHeld ?_ ?_
  rotate_left
  · rintro w' ⟨s0, s1, s2, s3⟩
    go_simp
    with_reducible rfl
  rotate_left
  · simp only [Act.put, List.setIfInBounds_toArray, List.set_cons_zero, List.set_cons_succ, i64_w, i32_w]
    rfl
  refine take_ (i := 3) (N := some 17) (v := ?_) (a' := ?_) #[true, true, false, true, true, false, false, false, false] rfl rfl (by kernel_rfl) (fun _ _ _ h => h) (Or.inl ⟨by rfl, ?_⟩) hHeld ?_ ?_
  rotate_left
  · rintro w' ⟨s0, s1, s2, s3⟩
    go_simp
    with_reducible rfl
  rotate_left
  · simp only [Act.put, List.setIfInBounds_toArray, List.set_cons_zero, List.set_cons_succ, i64_w, i32_w]
    rfl
  refine one_ (i := 2) (N := some 16) #[true, true, true, true, true, false, false, false, false] rfl rfl (by kernel_rfl) (by decide) (fun K hK => ?_)
  refine goes_ Try.func50 (by kernel_rfl) rfl #[.slice A2 l2.length c2, .func (.func 51) #[] #[]] (by rfl) rfl rfl (by (try simp only [List.map_toArray, List.map_cons, List.map_nil]); first | done | rfl) ?_
  refine (filter_calls 51 #[] ownB A2 c2 l2 _ (looks_own _) (Kd.C_below HR2.out HB.out) (by omega)).mono ?_
  rintro e w5 ⟨v5, rfl, hra, hb⟩
  refine ⟨_, rfl, ?_⟩
  have HO5 := Aside0.mk (Kd.R_lower hra HB.out.size)
  have HB5 := Aside0.mk (below_step HB.out hb)
  have K0 := Aside0.mk (blk_below HG0.out hb)
  have K1 := Aside0.mk (blk_below HG1.out hb)
  have K2 := Aside0.mk (blk_below HG2.out hb)
  clear hra hb HG0 HG1 HG2 HB
  refine hK.out _ _ ⟨(blk_cell K1.out 2).trans rfl, (blk_cell K0.out 0).trans rfl, (blk_cell K0.out 1).trans rfl, (blk_cell K0.out 2).trans rfl⟩ (fun hHeld => ?_)
  clear hK K
  refine norm_ (a' := ?_) ?_ ?_
  rotate_left
  · show Act.put _ (some 16) _ = _
    simp only [Act.put, List.setIfInBounds_toArray, List.set_cons_zero, List.set_cons_succ, i64_w, i32_w]
    rfl
  refine one_ (i := 5) (N := some 19) #[true, true, true, true, true, true, false, false, false] rfl rfl (by kernel_rfl) (by decide) (fun K hK => ?_)
  refine goes_ Try.func59 (by kernel_rfl) rfl #[.agg #[.int .i64 o1, .bool b1, .slice A1 l1.length c1], .bool dir] (by rfl) rfl rfl (by (try simp only [List.map_toArray, List.map_cons, List.map_nil]); first | done | rfl) ?_
  refine (given_calls o1 b1 A1 c1 l1 dir _ (Kd.C_below HR1.out HB5.out) (by omega)).mono ?_
  rintro e w6 ⟨v6, rfl, hra, hb⟩
  refine ⟨_, rfl, ?_⟩
  obtain ⟨A6, c6, rfl⟩ := Kd.R_slice hra
  have HC6 := Aside0.mk (Kd.R_reads' hra).2.2
  have HO6 := Aside0.mk (Kd.R_below HO5.out hb)
  have HB6 := Aside0.mk (below_step HB5.out hb)
  have L0 := Aside0.mk (blk_below K0.out hb)
  have L1 := Aside0.mk (blk_below K1.out hb)
  have L2 := Aside0.mk (blk_below K2.out hb)
  clear hra hb K0 K1 K2 HO5 HB5
  refine hK.out _ _ ⟨(blk_cell L1.out 2).trans rfl, (blk_cell L0.out 0).trans rfl, (blk_cell L0.out 1).trans rfl, (blk_cell L0.out 2).trans rfl⟩ (fun hHeld => ?_)
  clear hK K
  refine norm_ (a' := ?_) ?_ ?_
  rotate_left
  · show Act.put _ (some 19) _ = _
    simp only [Act.put, List.setIfInBounds_toArray, List.set_cons_zero, List.set_cons_succ, i64_w, i32_w]
    rfl
  refine one_ (i := 6) (N := some 20) #[true, true, true, true, true, true, true, false, false] rfl rfl (by kernel_rfl) (by decide) (fun K hK => ?_)
  refine Kd.R_append_rows_step k37 (Rr := k37.K _) (w0 := w) w.heap.size (by rfl) (.tmp 16) (.tmp 19) 31 37 (.agg #[(.bool false), (.int .i64 0), (.int .i64 0), (.int .i64 0)]) 32 rfl Try.underlying31 info37 rfl (by decide) (by omega) v5 (l2.filter ownB) (given l1 dir) _ _ _ (fun _ => True) (fun _ => False) rfl rfl (HO6.out) (HC6.out) (fun x cs h => by rw [k37_open h]; exact k37_mkM _ _ _ _) (fun _ h => h.elim) (fun _ _ => trivial) (HB6.out) (HB6.out).size (by have := HLn.out; omega) ?_
  intro v7 w7 ho hb hg hat
  have HO7 := Aside0.mk ho
  have HB7 := Aside0.mk hb
  have M0 := Aside0.mk (blk_grown L0.out hg (Kd.R_ne HO6.out L0.out (by decide)))
  have M1 := Aside0.mk (blk_grown L1.out hg (Kd.R_ne HO6.out L1.out (by decide)))
  have M2 := Aside0.mk (blk_grown L2.out hg (Kd.R_ne HO6.out L2.out (by decide)))
  clear ho hb hg hat L0 L1 L2 HO6 HB6 HC6
  obtain ⟨A7, c7, rfl⟩ := Kd.R_slice HO7.out
  refine hK.out _ _ ⟨(blk_cell M1.out 2).trans rfl, (blk_cell M0.out 0).trans rfl, (blk_cell M0.out 1).trans rfl, (blk_cell M0.out 2).trans rfl⟩ (fun hHeld => ?_)
  clear hK K
  refine norm_ (a' := ?_) ?_ ?_
  rotate_left
  · show Act.put _ (some 20) _ = _
    simp only [Act.put, List.setIfInBounds_toArray, List.set_cons_zero, List.set_cons_succ, i64_w, i32_w]
    rfl
  refine pure_ (i := 7) (N := some 21) (v := ?_) (a' := ?_) #[true, true, true, true, true, true, true, true, false] rfl rfl (by kernel_rfl) (fun _ _ _ h => h) (Or.inl ⟨by rfl, ?_⟩) ?_ ?_
  rotate_left
  · intro w'
    go_simp
    with_reducible rfl
  rotate_left
  · simp only [Act.put, List.setIfInBounds_toArray, List.set_cons_zero, List.set_cons_succ, i64_w, i32_w]
    rfl
  have y0 := (blk_cell M1.out 0).trans rfl; have y1 := (blk_cell M1.out 1).trans rfl; have y2 := (blk_cell M1.out 2).trans rfl
  have fy0 := blk_frozen M1.out 0; have fy1 := blk_frozen M1.out 1; have fy2 := blk_frozen M1.out 2
  refine last_ (i := 8) (N := none) #[true, true, true, true, true, true, true, true, true] rfl rfl (by kernel_rfl) (by decide) (fun K hK => ?_)
  refine skip_ (w1 := ?_) (by rfl) rfl ?_ ?_
  rotate_left
  · go_simp
    rfl
  refine hK.out _ _ ?_
  clear hK K
  refine done_ (by kernel_rfl) ?_
  obtain ⟨w8, hw8⟩ : ∃ w8, w8 = w7.setCell ⟨w.heap.size + 1, 2, none⟩ (.slice A7 ((List.filter ownB l2).length + (given l1 dir).length) c7) := ⟨_, rfl⟩
  rw [← hw8]
  have hlen : (List.filter ownB l2).length + (given l1 dir).length = (renewL l1 l2 dir).length := by simp [renewL]
  rw [hlen] at hw8
  have N1 := Aside0.mk (show w8.heap[w.heap.size + 1]? = some (.cells #[.int .i64 o2, .bool false, .slice A7 (renewL l1 l2 dir).length c7] 33 (0, 0)) by rw [hw8]; exact blk_put M1.out 2 _ rfl)
  have N2 := Aside0.mk (show w8.heap[w.heap.size + 1 + 1]? = some (.cells #[.int .i64 0, .bool false, .slice none 0 0] 33 (0, 0)) by rw [hw8]; exact blk_far M2.out (by simp) _)
  have HB8 := Aside0.mk (show Below w.heap.size w w8 by rw [hw8]; exact HB7.out.setCell (p := ⟨w.heap.size + 1, 2, none⟩) (show w.heap.size ≤ w.heap.size + 1 by omega) _)
  have HO8 := Aside0.mk (show RA w8 w.heap.size (.slice A7 (renewL l1 l2 dir).length c7) (renewL l1 l2 dir) by rw [hw8]; exact Kd.R_set HO7.out M1.out (by decide) 2 _)
  clear hw8 hlen y0 y1 y2 fy0 fy1 fy2 M0 M1 M2 HB7 HO7
  have y0 := (blk_cell N1.out 0).trans rfl; have y1 := (blk_cell N1.out 1).trans rfl; have y2 := (blk_cell N1.out 2).trans rfl
  have z0 := (blk_cell N2.out 0).trans rfl; have z1 := (blk_cell N2.out 1).trans rfl; have z2 := (blk_cell N2.out 2).trans rfl
  have fz0 := blk_frozen N2.out 0; have fz1 := blk_frozen N2.out 1; have fz2 := blk_frozen N2.out 2
  by_cases h16 : (renewL l1 l2 dir).length ≤ 16
  · have h1 : decide (16 < (renewL l1 l2 dir).length) = false := by simpa using h16
    go_wp2
    have q1 := blk_put N2.out 0 (.int .i64 o2) rfl
    have q2 := blk_put q1 1 (.bool false) rfl
    have q3 := blk_put q2 2 (.slice A7 (renewL l1 l2 dir).length c7) rfl
    refine bodyPost_ret (v := .agg #[.int .i64 o2, .bool false, .slice A7 (renewL l1 l2 dir).length c7]) (results_single rfl (.cell _ _ _ _ _ rfl q3 Try.underlying33 rfl (by kernel_rfl) .nil)) rfl ⟨?_, ?_⟩
    · exact ((HB8.out.setCell (p := ⟨w.heap.size + 1 + 1, 0, none⟩) (show w.heap.size ≤ w.heap.size + 1 + 1 by omega) _).setCell (p := ⟨w.heap.size + 1 + 1, 1, none⟩) (show w.heap.size ≤ w.heap.size + 1 + 1 by omega) _).setCell (p := ⟨w.heap.size + 1 + 1, 2, none⟩) (show w.heap.size ≤ w.heap.size + 1 + 1 by omega) _
    · rw [if_neg (by simp), if_pos h16]
      refine ⟨_, rfl, ?_⟩
      exact Kd.R_set (Kd.R_set (Kd.R_set HO8.out N2.out (by decide) 0 _) q1 (by decide) 1 _) q2 (by decide) 2 _
  · have h1 : decide (16 < (renewL l1 l2 dir).length) = true := by simp; omega
    have hp : ∀ w, (Instr.panic (.iface 101 (.agg #[]))).run Try.prog w = .halt (.panic (.iface 101 (.agg #[]))) w := fun _ => rfl
    go_wp2
    exact ⟨rfl, HB8.out, by rw [if_neg (by simp), if_neg h16]⟩

theorem renewed_calls (o1 o2 : Int) (b1 b2 : Bool) (A1 A2 : Option Addr) (c1 c2 : Nat) (l1 l2 : List S37) (dir : Bool) (w : World) (hr1 : k37.C w A1 l1.length l1) (hr2 : k37.C w A2 l2.length l2) (hm1 : l1.length ≤ 16) (hm2 : l2.length ≤ 16) :
    Calls Try.prog 62 #[.agg #[.int .i64 o1, .bool b1, .slice A1 l1.length c1], .agg #[.int .i64 o2, .bool b2, .slice A2 l2.length c2], .bool dir] w (RenewPost o2 b2 l1 l2 dir w) := by
  cases b2
  · exact renewed_open o1 o2 b1 A1 A2 c1 c2 l1 l2 dir w hr1 hr2 hm1 hm2
  · exact renewed_prot o1 o2 b1 A1 A2 c1 c2 l1 l2 dir w hr2 hm2
end Go.Proofs.Ytgocgjfaiddejaa.M
