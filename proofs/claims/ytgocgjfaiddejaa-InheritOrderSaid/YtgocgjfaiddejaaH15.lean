/- inherit.Renew. -/
import Derived.Test.YtgocgjfaiddejaaH14
import Derived.Test.YtgocgjfaiddejaaH10
namespace Go.Proofs.Ytgocgjfaiddejaa.M
open Go.RowKit Go.Proofs.YtgocgjfaiddejaaW.PrintWords Go.Proofs.YtgocgjfaiddejaaW.PrintLast Go.Proofs.YtgocgjfaiddejaaW.PrintMore
set_option linter.unusedVariables false
set_option linter.unusedSimpArgs false

section
variable {P : Program}
theorem loadVar_one (ty : TypeId) {g t : Nat} {v : Value} {W : World} {d : TypeDesc} (hu : P.underlying ty = some d) (hd : (match d with | .struct _ | .array _ _ => true | _ => false) = false) (hg : W.heap[g]? = some (.cells #[v] t (0, 0))) : (loadVar ty ⟨g, 0, none⟩).run P W = .ok v W := by
  have hc : W.cell? ⟨g, 0, none⟩ = some v := (blk_cell hg 0).trans rfl
  have hi : (isAgg ty).run P W = .ok false W := by
    unfold isAgg
    cases d <;> simp_all [underlying]
  unfold loadVar
  simp [hi, hc]
theorem results_cells {fn : Func} {p q : Tmp} {t u : TypeId} {tmps : Array Value} {W : World} {a b : Addr} {v v' : Value} (h : fn.results = #[.cell p t, .cell q u]) (hp : tmps.getD p undef = .pointer (some a)) (hq : tmps.getD q undef = .pointer (some b)) (hl : (loadVar t a).run P W = .ok v W) (hl' : (loadVar u b).run P W = .ok v' W) : (results fn tmps).run P W = .ok (.tuple #[v, v']) W := by
  have hp' : tmps[p]?.getD undef = .pointer (some a) := by simpa using hp
  have hq' : tmps[q]?.getD undef = .pointer (some b) := by simpa using hq
  simp [results, h, hp', hq', asAddr, hl, hl']
theorem results_tmp_cell {fn : Func} {p q : Tmp} {u : TypeId} {tmps : Array Value} {W : World} {b : Addr} {v v' : Value} (h : fn.results = #[.tmp p, .cell q u]) (hp : tmps.getD p undef = v) (hq : tmps.getD q undef = .pointer (some b)) (hl' : (loadVar u b).run P W = .ok v' W) : (results fn tmps).run P W = .ok (.tuple #[v, v']) W := by
  have hp' : tmps[p]?.getD undef = v := by simpa using hp
  have hq' : tmps[q]?.getD undef = .pointer (some b) := by simpa using hq
  simp [results, h, hp', hq', asAddr, hl']
end

def sRenew (p d : S33) (dir : Bool) : S33 × Int :=
  if (vD p && vD d) = true then (if d.f1 = true then (d, 0) else if (renewL p.f2 d.f2 dir).length ≤ 16 then (⟨d.f0, false, renewL p.f2 d.f2 dir⟩, 0) else (z33, 2)) else (z33, 1)
/-- What the call's world holds at its end: the descriptor in its variable. -/
theorem desc_cells {r : S33} {w W : World} {A : Option Addr} {n c g : Nat} (hgw : w.heap.size ≤ g) (hX : W.heap[g]? = some (.cells #[.int .i64 0, .bool false, .slice none 0 0] 33 (0, 0))) (hra : RA W w.heap.size (.slice A n c) r.f2) (hb : Below w.heap.size w W) :
    ∃ W2, W2 = ((W.setCell ⟨g, 0, none⟩ (.int .i64 r.f0)).setCell ⟨g, 1, none⟩ (.bool r.f1)).setCell ⟨g, 2, none⟩ (.slice A n c) ∧ W2.heap[g]? = some (.cells #[.int .i64 r.f0, .bool r.f1, .slice A n c] 33 (0, 0)) ∧ RA W2 w.heap.size (.slice A n c) r.f2 ∧ Below w.heap.size w W2 ∧ W.grownBy W2 (some g) := by
  have q1 := blk_put hX 0 (.int .i64 r.f0) rfl
  have q2 := blk_put q1 1 (.bool r.f1) rfl
  have q3 := blk_put q2 2 (.slice A n c) rfl
  exact ⟨_, rfl, q3, Kd.R_set (Kd.R_set (Kd.R_set hra hX (by decide) 0 _) q1 (by decide) 1 _) q2 (by decide) 2 _,
    ((hb.setCell (p := ⟨g, 0, none⟩) hgw _).setCell (p := ⟨g, 1, none⟩) hgw _).setCell (p := ⟨g, 2, none⟩) hgw _,
    World.grownBy.trans (World.grownBy.trans (setCell_grown _ _ _ _) (setCell_grown _ _ _ _)) (setCell_grown _ _ _ _)⟩
/-- The end of a call that hands back a descriptor and an error through its variables, past its deferred function. -/
theorem renew_end {ts : Array Value} {r : S33} {w W : World} {A : Option Addr} {n c g : Nat} (hgw : w.heap.size ≤ g) (hX : W.heap[g]? = some (.cells #[.int .i64 0, .bool false, .slice none 0 0] 33 (0, 0))) (hY : W.heap[g + 1]? = some (.cells #[.int .i64 0] 25 (0, 0)))
    (hra : RA W w.heap.size (.slice A n c) r.f2) (hb : Below w.heap.size w W) (hp : ts.getD 6 undef = .pointer (some ⟨g, 0, none⟩)) (hq : ts.getD 7 undef = .pointer (some ⟨g + 1, 0, none⟩)) :
    bodyPostD Try.prog Try.f27 (DescPost (r, 0) w) Exit.normal { tmps := ts, defers := [{ target := .fn (.func 56) #[], args := #[.pointer (some ⟨g + 1, 0, none⟩)] }] }
      ((((W.setCell ⟨g, 0, none⟩ (.int .i64 r.f0)).setCell ⟨g, 1, none⟩ (.bool r.f1)).setCell ⟨g, 2, none⟩ (.slice A n c)).setCell ⟨g + 1, 0, none⟩ (.int .i64 0)) := by
  obtain ⟨W2, hw2, hX2, hra2, hb2, hg2⟩ := desc_cells hgw hX hra hb
  rw [← hw2]
  have hY2 := blk_grown hY hg2 (by simp)
  have hY3 := blk_put hY2 0 (.int .i64 0) rfl
  have hX3 := blk_far hX2 (by simp) (p := ⟨g + 1, 0, none⟩) (.int .i64 0)
  refine leaves_cons (f := 56) (args := #[.pointer (some ⟨g + 1, 0, none⟩)]) (by simp) (by simp [go_sem]) ?_
  refine (caught_idle _ _).mono ?_
  rintro e u' w' ⟨rfl, rfl, hb3⟩
  exact ⟨_, results_cells rfl hp hq (run_loadVar_row _ _ _ _ _ _ _ (blk_below hX3 hb3) Try.underlying33 rfl (by kernel_rfl)) (loadVar_one 25 Try.underlying25 rfl (blk_below hY3 hb3)), _, rfl, Kd.R_below (Kd.R_set hra2 hY2 (by decide) 0 _) hb3, below_step (hb2.setCell (p := ⟨g + 1, 0, none⟩) (show w.heap.size ≤ g + 1 by omega) _) hb3⟩
theorem renew_bad {ts : Array Value} {w W : World} {g : Nat} (hgw : w.heap.size ≤ g) (hX : W.heap[g]? = some (.cells #[.int .i64 0, .bool false, .slice none 0 0] 33 (0, 0))) (hY : W.heap[g + 1]? = some (.cells #[.int .i64 0] 25 (0, 0)))
    (hb : Below w.heap.size w W) (hp : ts.getD 6 undef = .pointer (some ⟨g, 0, none⟩)) (hq : ts.getD 7 undef = .pointer (some ⟨g + 1, 0, none⟩)) :
    bodyPostD Try.prog Try.f27 (DescPost (z33, 1) w) Exit.ret { tmps := ts, defers := [] }
      ((((W.setCell ⟨g, 0, none⟩ (.int .i64 0)).setCell ⟨g, 1, none⟩ (.bool false)).setCell ⟨g, 2, none⟩ (.slice none 0 0)).setCell ⟨g + 1, 0, none⟩ (.int .i64 1)) := by
  obtain ⟨W2, hw2, hX2, hra2, hb2, hg2⟩ := desc_cells (r := z33) hgw hX (Kd.R_nil _ _ _ _ _) hb
  have hw2' : W2 = ((W.setCell ⟨g, 0, none⟩ (.int .i64 0)).setCell ⟨g, 1, none⟩ (.bool false)).setCell ⟨g, 2, none⟩ (.slice none 0 0) := hw2
  rw [← hw2']
  have hY2 := blk_grown hY hg2 (by simp)
  have hY3 := blk_put hY2 0 (.int .i64 1) rfl
  have hX3 := blk_far hX2 (by simp) (p := ⟨g + 1, 0, none⟩) (.int .i64 1)
  exact ⟨_, results_cells rfl hp hq (run_loadVar_row _ _ _ _ _ _ _ hX3 Try.underlying33 rfl (by kernel_rfl)) (loadVar_one 25 Try.underlying25 rfl hY3), _, rfl, Kd.R_nil _ _ _ _ _, hb2.setCell (p := ⟨g + 1, 0, none⟩) (show w.heap.size ≤ g + 1 by omega) _⟩
set_option maxRecDepth 100000 in
set_option maxHeartbeats 2000000 in
theorem Renew_calls (o1 o2 : Int) (b1 b2 : Bool) (A1 A2 : Option Addr) (c1 c2 : Nat) (l1 l2 : List S37) (dir : Bool) (w : World) (hr1 : k37.C w A1 l1.length l1) (hc1 : l1.length ≤ c1) (hr2 : k37.C w A2 l2.length l2) (hc2 : l2.length ≤ c2) :
    Calls Try.prog 27 #[.agg #[.int .i64 o1, .bool b1, .slice A1 l1.length c1], .agg #[.int .i64 o2, .bool b2, .slice A2 l2.length c2], .bool dir] w (DescPost (sRenew ⟨o1, b1, l1⟩ ⟨o2, b2, l2⟩ dir) w) := by
  have HR1 := Aside0.mk hr1
  have HC1 := Aside0.mk hc1
  have HR2 := Aside0.mk hr2
  have HC2 := Aside0.mk hc2
  clear hr1 hc1 hr2 hc2
  go_enter_defers Try.func27, Try.ntmps27
  go_upto_region 1 with (fail)
  have hb_ := below_alloc (below_alloc (below_alloc (below_alloc (Below.refl _ w) (.cells #[.int .i64 o1, .bool b1, .slice A1 l1.length c1] 33)) (.cells #[.int .i64 o2, .bool b2, .slice A2 l2.length c2] 33)) (.cells #[.int .i64 0, .bool false, .slice none 0 0] 33)) (.cells #[.int .i64 0] 25)
  have hG0_ := blk_alloc (blk_alloc (blk_alloc (blk_lit0 w (.cells #[.int .i64 o1, .bool b1, .slice A1 l1.length c1] 33)) (.cells #[.int .i64 o2, .bool b2, .slice A2 l2.length c2] 33)) (.cells #[.int .i64 0, .bool false, .slice none 0 0] 33)) (.cells #[.int .i64 0] 25)
  have hG1_ := blk_alloc (blk_alloc (blk_lit w (.cells #[.int .i64 o1, .bool b1, .slice A1 l1.length c1] 33) (.cells #[.int .i64 o2, .bool b2, .slice A2 l2.length c2] 33)) (.cells #[.int .i64 0, .bool false, .slice none 0 0] 33)) (.cells #[.int .i64 0] 25)
  have hG2_ := blk_alloc (blk_lit2 w (.cells #[.int .i64 o1, .bool b1, .slice A1 l1.length c1] 33) (.cells #[.int .i64 o2, .bool b2, .slice A2 l2.length c2] 33) (.cells #[.int .i64 0, .bool false, .slice none 0 0] 33)) (.cells #[.int .i64 0] 25)
  have hG3_ := blk_lit3 w (.cells #[.int .i64 o1, .bool b1, .slice A1 l1.length c1] 33) (.cells #[.int .i64 o2, .bool b2, .slice A2 l2.length c2] 33) (.cells #[.int .i64 0, .bool false, .slice none 0 0] 33) (.cells #[.int .i64 0] 25)
  generalize ((((w.alloc (.cells #[.int .i64 o1, .bool b1, .slice A1 l1.length c1] 33)).alloc (.cells #[.int .i64 o2, .bool b2, .slice A2 l2.length c2] 33)).alloc (.cells #[.int .i64 0, .bool false, .slice none 0 0] 33)).alloc (.cells #[.int .i64 0] 25)) = W at hb_ hG0_ hG1_ hG2_ hG3_ ⊢
  have HB_W := Aside0.mk hb_
  have W0 := Aside0.mk hG0_
  have W1 := Aside0.mk hG1_
  have W2 := Aside0.mk hG2_
  have W3 := Aside0.mk hG3_
  clear hb_ hG0_ hG1_ hG2_ hG3_
  have p0 := (blk_cell W0.out 0).trans rfl; have p1 := (blk_cell W0.out 1).trans rfl; have p2 := (blk_cell W0.out 2).trans rfl
  have d0 := (blk_cell W1.out 0).trans rfl; have d1 := (blk_cell W1.out 1).trans rfl; have d2 := (blk_cell W1.out 2).trans rfl
  by_cases hv : (vDesc o1 l1 && vDesc o2 l2) = true
  · have HV := Aside0.mk hv
    have HV' := Aside0.mk (show vDesc o1 l1 = true ∧ vDesc o2 l2 = true by simpa using hv)
    clear hv
    go_upto_region 3 with ((with_reducible refine gate_dst (N := 11) rfl ?_); refine goesL_ (some 11) rfl rfl Try.func58 (by kernel_rfl) rfl #[.slice (some ⟨W.heap.size, 0, none⟩) 2 2] rfl (by (try simp only [List.map_toArray, List.map_cons, List.map_nil]); first | done | rfl) ?_; refine (valid_two _ o1 o2 b1 b2 A1 A2 c1 c2 l1 l2 _ (blk_new _ _) (Kd.C_alloc (Kd.C_below HR1.out HB_W.out) _) HC1.out (Kd.C_alloc (Kd.C_below HR2.out HB_W.out) _) HC2.out).mono ?_; rintro e w1 ⟨rfl, hb⟩; refine ⟨_, rfl, ?_⟩; rw [HV.out]; have HB1 := Aside0.mk (below_step (below_alloc HB_W.out _) hb); have V0 := Aside0.mk (blk_below (blk_alloc W0.out _) hb); have V1 := Aside0.mk (blk_below (blk_alloc W1.out _) hb); have V2 := Aside0.mk (blk_below (blk_alloc W2.out _) hb); have V3 := Aside0.mk (blk_below (blk_alloc W3.out _) hb); clear hb p0 p1 p2 d0 d1 d2)
    have p0 := (blk_cell V0.out 0).trans rfl; have p1 := (blk_cell V0.out 1).trans rfl; have p2 := (blk_cell V0.out 2).trans rfl
    have d0 := (blk_cell V1.out 0).trans rfl; have d1 := (blk_cell V1.out 1).trans rfl; have d2 := (blk_cell V1.out 2).trans rfl
    have hm1 := Aside0.mk (vDesc_len HV'.out.1)
    have hm2 := Aside0.mk (vDesc_len HV'.out.2)
    cases b2
    · by_cases h16 : (renewL l1 l2 dir).length ≤ 16
      · have HS := Aside0.mk (show sRenew ⟨o1, b1, l1⟩ ⟨o2, false, l2⟩ dir = (⟨o2, false, renewL l1 l2 dir⟩, 0) by unfold sRenew; rw [if_pos (show (vD ⟨o1, b1, l1⟩ && vD ⟨o2, _, l2⟩) = true from HV.out), if_neg (by simp), if_pos h16])
        go_wp2_with ((with_reducible refine gate_dst (N := 17) rfl ?_); refine goesP (some 17) rfl rfl Try.func62 (by kernel_rfl) rfl #[.agg #[.int .i64 o1, .bool b1, .slice A1 l1.length c1], .agg #[.int .i64 o2, .bool false, .slice A2 l2.length c2], .bool dir] rfl (by (try simp only [List.map_toArray, List.map_cons, List.map_nil]); first | done | rfl) ?_; refine (renewed_calls o1 o2 b1 false A1 A2 c1 c2 l1 l2 dir _ (Kd.C_below HR1.out HB1.out) (Kd.C_below HR2.out HB1.out) hm1.out hm2.out).mono ?_; rintro e w3 ⟨hb, hp⟩; rw [if_neg (by simp), if_pos h16] at hp; obtain ⟨v, rfl, hra⟩ := hp; refine .inl ⟨_, rfl, ?_⟩; obtain ⟨A3, c3, rfl⟩ := Kd.R_slice hra; have HO := Aside0.mk (Kd.R_lower hra HB1.out.size); have HB3 := Aside0.mk (below_step HB1.out hb); have X2 := Aside0.mk (blk_below V2.out hb); have X3 := Aside0.mk (blk_below V3.out hb); have z0 := (blk_cell X2.out 0).trans rfl; have z1 := (blk_cell X2.out 1).trans rfl; have z2 := (blk_cell X2.out 2).trans rfl; have fz0 := blk_frozen X2.out 0; have fz1 := blk_frozen X2.out 1; have fz2 := blk_frozen X2.out 2; have y0 := (blk_cell X3.out 0).trans rfl; have fy0 := blk_frozen X3.out 0; clear hra hb p0 p1 p2 d0 d1 d2)
        rw [HS.out]
        exact renew_end (r := ⟨o2, false, renewL l1 l2 dir⟩) (by omega) X2.out X3.out HO.out HB3.out rfl rfl

      · have HS := Aside0.mk (show sRenew ⟨o1, b1, l1⟩ ⟨o2, false, l2⟩ dir = (z33, 2) by unfold sRenew; rw [if_pos (show (vD ⟨o1, b1, l1⟩ && vD ⟨o2, _, l2⟩) = true from HV.out), if_neg (by simp), if_neg h16])
        go_wp2_with ((with_reducible refine gate_dst (N := 17) rfl ?_); refine goesP (some 17) rfl rfl Try.func62 (by kernel_rfl) rfl #[.agg #[.int .i64 o1, .bool b1, .slice A1 l1.length c1], .agg #[.int .i64 o2, .bool false, .slice A2 l2.length c2], .bool dir] rfl (by (try simp only [List.map_toArray, List.map_cons, List.map_nil]); first | done | rfl) ?_; refine (renewed_calls o1 o2 b1 false A1 A2 c1 c2 l1 l2 dir _ (Kd.C_below HR1.out HB1.out) (Kd.C_below HR2.out HB1.out) hm1.out hm2.out).mono ?_; rintro e w3 ⟨hb, hp⟩; rw [if_neg (by simp), if_neg h16] at hp; subst hp; refine .inr ⟨_, rfl, ?_⟩; have HB3 := Aside0.mk (below_step HB1.out hb); have X2 := Aside0.mk (blk_below V2.out hb); have X3 := Aside0.mk (blk_below V3.out hb); clear hb p0 p1 p2 d0 d1 d2)
        rw [HS.out]
        refine leaves_cons (f := 56) (args := #[.pointer (some ⟨w.heap.size + 1 + 1 + 1, 0, none⟩)]) (by simp) (by simp [go_sem]) ?_
        refine (caught_limit _ _ _ X3.out).mono ?_
        rintro e u' w' ⟨rfl, rfl, hh, hg⟩
        exact ⟨_, results_cells rfl rfl rfl (run_loadVar_row _ _ _ _ _ _ _ (blk_grown X2.out hg (by simp)) Try.underlying33 rfl (by kernel_rfl)) (loadVar_one 25 Try.underlying25 rfl hh), _, rfl, Kd.R_nil _ _ _ _ _, pw_below_grown HB3.out _ HB3.out.size hg (fun k hk => by cases hk; omega)⟩
    · have HS := Aside0.mk (show sRenew ⟨o1, b1, l1⟩ ⟨o2, true, l2⟩ dir = (⟨o2, true, l2⟩, 0) by unfold sRenew; rw [if_pos (show (vD ⟨o1, b1, l1⟩ && vD ⟨o2, _, l2⟩) = true from HV.out), if_pos rfl])
      go_wp2_with ((with_reducible refine gate_dst (N := 17) rfl ?_); refine goesP (some 17) rfl rfl Try.func62 (by kernel_rfl) rfl #[.agg #[.int .i64 o1, .bool b1, .slice A1 l1.length c1], .agg #[.int .i64 o2, .bool true, .slice A2 l2.length c2], .bool dir] rfl (by (try simp only [List.map_toArray, List.map_cons, List.map_nil]); first | done | rfl) ?_; refine (renewed_calls o1 o2 b1 true A1 A2 c1 c2 l1 l2 dir _ (Kd.C_below HR1.out HB1.out) (Kd.C_below HR2.out HB1.out) hm1.out hm2.out).mono ?_; rintro e w3 ⟨hb, hp⟩; rw [if_pos rfl] at hp; obtain ⟨v, rfl, hra⟩ := hp; refine .inl ⟨_, rfl, ?_⟩; obtain ⟨A3, c3, rfl⟩ := Kd.R_slice hra; have HO := Aside0.mk (Kd.R_lower hra HB1.out.size); have HB3 := Aside0.mk (below_step HB1.out hb); have X2 := Aside0.mk (blk_below V2.out hb); have X3 := Aside0.mk (blk_below V3.out hb); have z0 := (blk_cell X2.out 0).trans rfl; have z1 := (blk_cell X2.out 1).trans rfl; have z2 := (blk_cell X2.out 2).trans rfl; have fz0 := blk_frozen X2.out 0; have fz1 := blk_frozen X2.out 1; have fz2 := blk_frozen X2.out 2; have y0 := (blk_cell X3.out 0).trans rfl; have fy0 := blk_frozen X3.out 0; clear hra hb p0 p1 p2 d0 d1 d2)
      rw [HS.out]
      exact renew_end (r := ⟨o2, true, l2⟩) (by omega) X2.out X3.out HO.out HB3.out rfl rfl

  · replace hv : (vDesc o1 l1 && vDesc o2 l2) = false := by simpa using hv
    have HV := Aside0.mk hv
    have HS := Aside0.mk (show sRenew ⟨o1, b1, l1⟩ ⟨o2, b2, l2⟩ dir = (z33, 1) by unfold sRenew; rw [if_neg (by rw [show (vD ⟨o1, b1, l1⟩ && vD ⟨o2, b2, l2⟩) = false from hv]; simp)])
    clear hv
    go_wp2_with ((with_reducible refine gate_dst (N := 11) rfl ?_); refine goesL_ (some 11) rfl rfl Try.func58 (by kernel_rfl) rfl #[.slice (some ⟨W.heap.size, 0, none⟩) 2 2] rfl (by (try simp only [List.map_toArray, List.map_cons, List.map_nil]); first | done | rfl) ?_; refine (valid_two _ o1 o2 b1 b2 A1 A2 c1 c2 l1 l2 _ (blk_new _ _) (Kd.C_alloc (Kd.C_below HR1.out HB_W.out) _) HC1.out (Kd.C_alloc (Kd.C_below HR2.out HB_W.out) _) HC2.out).mono ?_; rintro e w1 ⟨rfl, hb⟩; refine ⟨_, rfl, ?_⟩; rw [HV.out]; have HB1 := Aside0.mk (below_step (below_alloc HB_W.out _) hb); have V2 := Aside0.mk (blk_below (blk_alloc W2.out _) hb); have V3 := Aside0.mk (blk_below (blk_alloc W3.out _) hb); clear hb p0 p1 p2 d0 d1 d2; have z0 := (blk_cell V2.out 0).trans rfl; have z1 := (blk_cell V2.out 1).trans rfl; have z2 := (blk_cell V2.out 2).trans rfl; have fz0 := blk_frozen V2.out 0; have fz1 := blk_frozen V2.out 1; have fz2 := blk_frozen V2.out 2; have y0 := (blk_cell V3.out 0).trans rfl; have fy0 := blk_frozen V3.out 0)
    rw [HS.out]
    exact renew_bad (by omega) V2.out V3.out HB1.out rfl rfl
end Go.Proofs.Ytgocgjfaiddejaa.M
