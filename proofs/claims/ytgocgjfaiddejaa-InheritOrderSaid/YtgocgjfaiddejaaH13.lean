/- inherit.ordered, Order. -/
import Derived.Test.YtgocgjfaiddejaaH11
namespace Go.Proofs.Ytgocgjfaiddejaa.M
open Go.RowKit Go.Proofs.YtgocgjfaiddejaaW.PrintWords Go.Proofs.YtgocgjfaiddejaaW.PrintLast Go.Proofs.YtgocgjfaiddejaaW.PrintMore
set_option linter.unusedVariables false
set_option linter.unusedSimpArgs false

theorem looks_deny (W : World) : Looks 81 #[] (fun x => ownB x && !x.f0) W where
  enters := enters_ Try.func81 (by kernel_rfl) rfl
  calls := fun x w _ => inherit_ordered_L1.calls x.f0 x.f1 x.f2 x.f3 _ w (by
    simp only [inherit_ordered_L1.f, inherit_own.f, inherit_has.f, Option.bind_some]; unfold ownB hasB; cases h : (Go.bits .and .i64 x.f3 16 != 0) <;> simp [h])
theorem looks_allow (W : World) : Looks 82 #[] (fun x => ownB x && x.f0) W where
  enters := enters_ Try.func82 (by kernel_rfl) rfl
  calls := fun x w _ => inherit_ordered_L2.calls x.f0 x.f1 x.f2 x.f3 _ w (by
    simp only [inherit_ordered_L2.f, inherit_own.f, inherit_has.f, Option.bind_some]; unfold ownB hasB; cases h : (Go.bits .and .i64 x.f3 16 != 0) <;> simp [h])

/-- The canonical order. -/
def ordL (l : List S37) : List S37 := (l.filter (fun x => ownB x && !x.f0) ++ l.filter (fun x => ownB x && x.f0)) ++ l.filter hadB
set_option maxRecDepth 100000 in
set_option maxHeartbeats 2000000 in
theorem ordered_calls (A : Option Addr) (c : Nat) (l : List S37) (w : World) (hr : k37.C w A l.length l) (hm : l.length ≤ 16) :
    Calls Try.prog 67 #[.slice A l.length c] w fun e w' => ∃ v, e = .returned v ∧ RA w' w.heap.size v (ordL l) ∧ Below w.heap.size w w' := by
  have HR := Aside0.mk hr
  have HL1 : Aside0 ((l.filter (fun x => ownB x && !x.f0)).length + (l.filter (fun x => ownB x && x.f0)).length ≤ 32) := ⟨by have := List.length_filter_le (fun x => ownB x && !x.f0) l; have := List.length_filter_le (fun x => ownB x && x.f0) l; omega⟩
  have HL2 : Aside0 ((l.filter (fun x => ownB x && !x.f0) ++ l.filter (fun x => ownB x && x.f0)).length + (l.filter hadB).length ≤ 48) := ⟨by have := HL1.out; have := List.length_filter_le hadB l; rw [List.length_append]; omega⟩
  clear hr
  go_enter Try.func67, Try.ntmps67
  go_wp2_with (first | ((with_reducible refine gate_dst (N := 5) rfl ?_); refine goesL_ (some 5) rfl rfl Try.func50 (by kernel_rfl) rfl #[.slice A l.length c, .func (.func 81) #[] #[]] rfl (by (try simp only [List.map_toArray, List.map_cons, List.map_nil]); first | done | rfl) ?_; refine (filter_calls 81 #[] _ A c l _ (looks_deny _) HR.out (by omega)).mono ?_; rintro e w1 ⟨v1, rfl, hra, hb⟩; refine ⟨_, rfl, ?_⟩; have HO1 := Aside0.mk hra; have HB1 := Aside0.mk hb; clear hra hb) | ((with_reducible refine gate_dst (N := 8) rfl ?_); refine goesL_ (some 8) rfl rfl Try.func50 (by kernel_rfl) rfl #[.slice A l.length c, .func (.func 82) #[] #[]] rfl (by (try simp only [List.map_toArray, List.map_cons, List.map_nil]); first | done | rfl) ?_; refine (filter_calls 82 #[] _ A c l _ (looks_allow _) (Kd.C_below HR.out HB1.out) (by omega)).mono ?_; rintro e w2 ⟨v2, rfl, hra, hb⟩; refine ⟨_, rfl, ?_⟩; obtain ⟨A2, c2, rfl⟩ := Kd.R_slice hra; have HC2 := Aside0.mk (Kd.R_reads' hra).2.2; have HO2 := Aside0.mk (Kd.R_below HO1.out hb); have HB2 := Aside0.mk (below_step HB1.out hb); clear hra hb) | ((with_reducible refine gate_builtin (b := .append) (xs := #[.tmp 6, .tmp 8]) rfl ?_); at_builtin; refine Kd.R_append_rows k37 (Rr := k37.K _) (w0 := w) w.heap.size rfl (.tmp 6) (.tmp 8) 31 37 (.agg #[(.bool false), (.int .i64 0), (.int .i64 0), (.int .i64 0)]) 32 rfl Try.underlying31 info37 rfl (by decide) (by omega) v1 (l.filter (fun x => ownB x && !x.f0)) (l.filter (fun x => ownB x && x.f0)) _ _ _ (fun _ => True) (fun _ => False) rfl rfl (HO2.out) (HC2.out) (fun x cs h => by rw [k37_open h]; exact k37_mkM _ _ _ _) (fun _ h => h.elim) (fun _ _ => trivial) (HB2.out) (HB2.out).size (by have := HL1.out; omega) ?_; intro v3 w3 ho hb hg hat; have HO3 := Aside0.mk ho; have HB3 := Aside0.mk hb; clear ho hb hg hat) | ((with_reducible refine gate_dst (N := 12) rfl ?_); refine goesL_ (some 12) rfl rfl Try.func50 (by kernel_rfl) rfl #[.slice A l.length c, .func (.func 49) #[] #[]] rfl (by (try simp only [List.map_toArray, List.map_cons, List.map_nil]); first | done | rfl) ?_; refine (filter_calls 49 #[] hadB A c l _ (looks_had _) (Kd.C_below HR.out HB3.out) (by omega)).mono ?_; rintro e w4 ⟨v4, rfl, hra, hb⟩; refine ⟨_, rfl, ?_⟩; obtain ⟨A4, c4, rfl⟩ := Kd.R_slice hra; have HC4 := Aside0.mk (Kd.R_reads' hra).2.2; have HO4 := Aside0.mk (Kd.R_below HO3.out hb); have HB4 := Aside0.mk (below_step HB3.out hb); clear hra hb) | ((with_reducible refine gate_builtin (b := .append) (xs := #[.tmp 10, .tmp 12]) rfl ?_); at_builtin; refine Kd.R_append_rows k37 (Rr := k37.K _) (w0 := w) w.heap.size rfl (.tmp 10) (.tmp 12) 31 37 (.agg #[(.bool false), (.int .i64 0), (.int .i64 0), (.int .i64 0)]) 32 rfl Try.underlying31 info37 rfl (by decide) (by omega) v3 (l.filter (fun x => ownB x && !x.f0) ++ l.filter (fun x => ownB x && x.f0)) (l.filter hadB) _ _ _ (fun _ => True) (fun _ => False) rfl rfl (HO4.out) (HC4.out) (fun x cs h => by rw [k37_open h]; exact k37_mkM _ _ _ _) (fun _ h => h.elim) (fun _ _ => trivial) (HB4.out) (HB4.out).size (by have := HL2.out; omega) ?_; intro v5 w5 ho hb hg hat; have HO5 := Aside0.mk ho; have HB5 := Aside0.mk hb; clear ho hb hg hat))
  go_ret
  exact ⟨_, rfl, HO5.out, HB5.out⟩

def sOrder (d : S33) : S33 × Int := if vD d = true then (⟨d.f0, d.f1, ordL d.f2⟩, 0) else (z33, 1)
set_option maxRecDepth 100000 in
set_option maxHeartbeats 2000000 in
theorem Order_calls (o : Int) (b : Bool) (A : Option Addr) (c : Nat) (l : List S37) (w : World) (hr : k37.C w A l.length l) (hc : l.length ≤ c) :
    Calls Try.prog 43 #[.agg #[.int .i64 o, .bool b, .slice A l.length c]] w (DescPost (sOrder ⟨o, b, l⟩) w) := by
  have HR := Aside0.mk hr
  have HC := Aside0.mk hc
  have HB1 := Aside0.mk (below_alloc (below_alloc (Below.refl _ w) (.cells #[.int .i64 o, .bool b, .slice A l.length c] 33)) (.cells #[.int .i64 0, .bool false, .slice none 0 0] 33))
  have HG1 := Aside0.mk (blk_alloc (blk_new w (.cells #[.int .i64 o, .bool b, .slice A l.length c] 33)) (.cells #[.int .i64 0, .bool false, .slice none 0 0] 33))
  have HG2 := Aside0.mk (blk_lit w (.cells #[.int .i64 o, .bool b, .slice A l.length c] 33) (.cells #[.int .i64 0, .bool false, .slice none 0 0] 33))
  clear hr hc
  by_cases hv : vDesc o l = true
  · have HV := Aside0.mk hv
    have HS := Aside0.mk (show sOrder ⟨o, b, l⟩ = (⟨o, b, ordL l⟩, 0) by unfold sOrder; rw [if_pos (show vD ⟨o, b, l⟩ = true from hv)])
    clear hv
    go_enter Try.func43, Try.ntmps43
    go_wp2_with (first | ((with_reducible refine gate_dst (N := 6) rfl ?_); refine goesL_ (some 6) rfl rfl Try.func58 (by kernel_rfl) rfl #[.slice (some ⟨w.heap.size + 1 + 1, 0, none⟩) 1 1] rfl (by (try simp only [List.map_toArray, List.map_cons, List.map_nil]); first | done | rfl) ?_; refine (valid_one _ o b A c l _ (blk_lit2 _ _ _ _) (Kd.C_alloc (Kd.C_alloc (Kd.C_alloc HR.out _) _) _) HC.out).mono ?_; rintro e w' ⟨rfl, hb⟩; refine ⟨_, rfl, ?_⟩; rw [HV.out]; have HB2 := Aside0.mk (below_step (below_alloc HB1.out _) hb); have hh := blk_below (blk_alloc HG2.out _) hb; have HH := Aside0.mk hh; have hk := blk_below (blk_alloc HG1.out _) hb; have HK := Aside0.mk hk; have y0 := (blk_cell hk 0).trans rfl; have y1 := (blk_cell hk 1).trans rfl; have y2 := (blk_cell hk 2).trans rfl; clear hb hh hk) | ((with_reducible refine gate_dst (N := 11) rfl ?_); refine goesL_ (some 11) rfl rfl Try.func67 (by kernel_rfl) rfl #[.slice A l.length c] rfl (by (try simp only [List.map_toArray, List.map_cons, List.map_nil]); first | done | rfl) ?_; refine (ordered_calls A c l _ (Kd.C_below HR.out HB2.out) (vDesc_len HV.out)).mono ?_; rintro e w3 ⟨v, rfl, hra, hb⟩; refine ⟨_, rfl, ?_⟩; obtain ⟨A3, c3, rfl⟩ := Kd.R_slice hra; have HO := Aside0.mk (Kd.R_lower hra HB2.out.size); have HB3 := Aside0.mk (below_step HB2.out hb); have hh := blk_below HH.out hb; have HH3 := Aside0.mk hh; have hk := blk_below HK.out hb; have HK3 := Aside0.mk hk; clear y0 y1 y2; have y0 := (blk_cell hk 0).trans rfl; have y1 := (blk_cell hk 1).trans rfl; have y2 := (blk_cell hk 2).trans rfl; have fy0 := blk_frozen hk 0; have fy1 := blk_frozen hk 1; have fy2 := blk_frozen hk 2; have x0 := (blk_cell hh 0).trans rfl; have x1 := (blk_cell hh 1).trans rfl; have x2 := (blk_cell hh 2).trans rfl; have fx0 := blk_frozen hh 0; have fx1 := blk_frozen hh 1; have fx2 := blk_frozen hh 2; clear hra hb hh hk))
    rw [HS.out]
    exact desc_end (r := (⟨o, b, ordL l⟩, 0)) rfl rfl rfl (blk_far HH3.out (by simp) _) rfl (by omega) (Kd.R_set HO.out HK3.out (by decide) 2 _) (HB3.out.setCell (p := ⟨w.heap.size, 2, none⟩) (Nat.le_refl _) _)
  · replace hv : vDesc o l = false := by simpa using hv
    have HV := Aside0.mk hv
    have HS := Aside0.mk (show sOrder ⟨o, b, l⟩ = (z33, 1) by unfold sOrder; rw [if_neg (by simp [vD, hv])])
    clear hv
    go_enter Try.func43, Try.ntmps43
    go_wp2_with ((with_reducible refine gate_dst (N := 6) rfl ?_); refine goesL_ (some 6) rfl rfl Try.func58 (by kernel_rfl) rfl #[.slice (some ⟨w.heap.size + 1 + 1, 0, none⟩) 1 1] rfl (by (try simp only [List.map_toArray, List.map_cons, List.map_nil]); first | done | rfl) ?_; refine (valid_one _ o b A c l _ (blk_lit2 _ _ _ _) (Kd.C_alloc (Kd.C_alloc (Kd.C_alloc HR.out _) _) _) HC.out).mono ?_; rintro e w' ⟨rfl, hb⟩; refine ⟨_, rfl, ?_⟩; rw [HV.out]; have HB2 := Aside0.mk (below_step (below_alloc HB1.out _) hb); have hh := blk_below (blk_alloc HG2.out _) hb; have HH := Aside0.mk hh; have z0 := (blk_cell hh 0).trans rfl; have z1 := (blk_cell hh 1).trans rfl; have z2 := (blk_cell hh 2).trans rfl; have fz0 := blk_frozen hh 0; have fz1 := blk_frozen hh 1; have fz2 := blk_frozen hh 2; clear hb hh)
    rw [HS.out]
    exact desc_end rfl rfl rfl HH.out rfl (by omega) (Kd.R_nil _ _ _ _ _) HB2.out
end Go.Proofs.Ytgocgjfaiddejaa.M
