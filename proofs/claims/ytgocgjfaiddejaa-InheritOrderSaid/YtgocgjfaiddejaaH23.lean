/- inherit.Spread. -/
import Derived.Test.YtgocgjfaiddejaaH22
namespace Go.Proofs.Ytgocgjfaiddejaa.M
open Go.RowKit Go.Proofs.YtgocgjfaiddejaaW.PrintWords Go.Proofs.YtgocgjfaiddejaaW.PrintLast Go.Proofs.YtgocgjfaiddejaaW.PrintMore
set_option linter.unusedVariables false
set_option linter.unusedSimpArgs false

def TreePost (r : List S35 × Int) (w : World) (e : Ending) (w' : World) : Prop :=
  ∃ v, e = .returned (.tuple #[v, .int .i64 r.2]) ∧ RT w' w.heap.size v r.1 ∧ Below w.heap.size w w'
def treeOf (r : Option (List S35)) : List S35 × Int := match r with | some out => (out, 0) | none => ([], 2)
def sSpread (l : List S35) : List S35 × Int := if vTree l = true then treeOf (spreadF l 0 (rd_T35 l 0).f2) else ([], 1)
/-- The end of a call that hands back a tree and an error, past its deferred function. -/
theorem tree_end {fn : Func} {p q : Tmp} (hfn : fn.results = #[.tmp p, .cell q 25]) {ts : Array Value} {out : List S35} {v : Value} {w W : World} {g : Nat} (hgw : w.heap.size ≤ g) (hY : W.heap[g]? = some (.cells #[.int .i64 0] 25 (0, 0)))
    (hra : RT W w.heap.size v out) (hb : Below w.heap.size w W) (hp : ts.getD p undef = v) (hq : ts.getD q undef = .pointer (some ⟨g, 0, none⟩)) :
    bodyPostD Try.prog fn (TreePost (out, 0) w) Exit.normal { tmps := ts, defers := [{ target := .fn (.func 56) #[], args := #[.pointer (some ⟨g, 0, none⟩)] }] } (W.setCell ⟨g, 0, none⟩ (.int .i64 0)) := by
  have hY3 := blk_put hY 0 (.int .i64 0) rfl
  refine leaves_cons (f := 56) (args := #[.pointer (some ⟨g, 0, none⟩)]) (by simp) (by simp [go_sem]) ?_
  refine (caught_idle _ _).mono ?_
  rintro e u' w' ⟨rfl, rfl, hb3⟩
  exact ⟨_, results_tmp_cell hfn hp hq (loadVar_one 25 Try.underlying25 rfl (blk_below hY3 hb3)), _, rfl, Kd.R_below (Kd.R_set hra hY (by decide) 0 _) hb3, below_step (hb.setCell (p := ⟨g, 0, none⟩) hgw _) hb3⟩
theorem tree_limit {fn : Func} {p q : Tmp} (hfn : fn.results = #[.tmp p, .cell q 25]) {ts : Array Value} {w W : World} {g : Nat} (hgw : w.heap.size ≤ g) (hY : W.heap[g]? = some (.cells #[.int .i64 0] 25 (0, 0)))
    (hb : Below w.heap.size w W) (hp : ts.getD p undef = .slice none 0 0) (hq : ts.getD q undef = .pointer (some ⟨g, 0, none⟩)) :
    bodyPostD Try.prog fn (TreePost ([], 2) w) (Exit.panic [{ v := .iface 101 (.agg #[]), recovered := false }]) { tmps := ts, defers := [{ target := .fn (.func 56) #[], args := #[.pointer (some ⟨g, 0, none⟩)] }] } W := by
  refine leaves_cons (f := 56) (args := #[.pointer (some ⟨g, 0, none⟩)]) (by simp) (by simp [go_sem]) ?_
  refine (caught_limit _ _ _ hY).mono ?_
  rintro e u' w' ⟨rfl, rfl, hh, hg⟩
  exact ⟨_, results_tmp_cell hfn hp hq (loadVar_one 25 Try.underlying25 rfl hh), _, rfl, Kd.R_nil _ _ _ _ _, pw_below_grown hb _ hb.size hg (fun k hk => by cases hk; omega)⟩
theorem tree_bad {fn : Func} {p q : Tmp} (hfn : fn.results = #[.tmp p, .cell q 25]) {ts : Array Value} {w W : World} {g : Nat} {err : Int} (hgw : w.heap.size ≤ g) (hY : W.heap[g]? = some (.cells #[.int .i64 0] 25 (0, 0)))
    (hb : Below w.heap.size w W) (hp : ts.getD p undef = .slice none 0 0) (hq : ts.getD q undef = .pointer (some ⟨g, 0, none⟩)) :
    bodyPostD Try.prog fn (TreePost ([], err) w) Exit.ret { tmps := ts, defers := [] } (W.setCell ⟨g, 0, none⟩ (.int .i64 err)) :=
  ⟨_, results_tmp_cell hfn hp hq (loadVar_one 25 Try.underlying25 rfl (blk_put hY 0 (.int .i64 err) rfl)), _, rfl, Kd.R_nil _ _ _ _ _, hb.setCell (p := ⟨g, 0, none⟩) hgw _⟩

set_option maxRecDepth 100000 in
set_option maxHeartbeats 2000000 in
theorem Spread_calls (A : Option Addr) (c : Nat) (l : List S35) (w : World) (hr : Kd.C k35 w A l.length l) :
    Calls Try.prog 19 #[.slice A l.length c] w (TreePost (sSpread l) w) := by
  have HR := Aside0.mk hr
  clear hr
  by_cases hv : vTree l = true
  · have HV := Aside0.mk hv
    have HS := Aside0.mk (show sSpread l = treeOf (spreadF l 0 (rd_T35 l 0).f2) by unfold sSpread; rw [if_pos hv])
    have hpos := (vTree_pos hv).1
    have HM := Aside0.mk (vTw_len (vTree_at hv hpos))
    clear hv
    go_enter_defers Try.func19, Try.ntmps19
    go_upto_region 1 with (fail)
    have hb_ := below_alloc (Below.refl _ w) (.cells #[.int .i64 0] 25)
    have hG0_ := blk_lit0 w (.cells #[.int .i64 0] 25)
    generalize (w.alloc (.cells #[.int .i64 0] 25)) = W at hb_ hG0_ ⊢
    have HB_W := Aside0.mk hb_
    have W0 := Aside0.mk hG0_
    clear hb_ hG0_
    go_upto_region 5 with ((with_reducible refine gate_dst (N := 6) rfl ?_); refine goesL_ (some 6) rfl rfl Try.func32 (by kernel_rfl) rfl #[.slice A l.length c] rfl (by (try simp only [List.map_toArray, List.map_cons, List.map_nil]); first | done | rfl) ?_; refine (Check_calls A c l _ (Kd.C_below HR.out HB_W.out)).mono ?_; rintro e w1 ⟨rfl, hb⟩; refine ⟨_, rfl, ?_⟩; rw [HV.out]; simp only [errOf]; have HB1 := Aside0.mk (below_step HB_W.out hb); have V0 := Aside0.mk (blk_below W0.out hb); clear hb)
    obtain ⟨ad, A5, c5, rfl, x0, x1, x2, x3, x4, hl5, hr5⟩ := at_T35 (Kd.C_below HR.out HB1.out) 0 (by omega) (by omega)
    simp only [Int.toNat_zero, Nat.zero_mul, addr0] at x2 x3 x4
    have HR5 := Aside0.mk hr5
    clear x0 x1 hl5 hr5
    cases hsp : spreadF l 0 (rd_T35 l 0).f2 with
    | some out =>
      have HSP := Aside0.mk hsp
      go_wp2_with ((with_reducible refine gate_dst (N := 15) rfl ?_); refine goesP (some 15) rfl rfl Try.func57 (by kernel_rfl) rfl #[.slice (some ad) l.length c, .int .i64 0, .agg #[.int .i64 (rd_T35 l 0).f2.f0, .bool (rd_T35 l 0).f2.f1, .slice A5 (rd_T35 l 0).f2.f2.length c5]] rfl (by (try simp only [List.map_toArray, List.map_cons, List.map_nil]); first | done | rfl) ?_; refine (spread_calls (some ad) A5 c c5 l 0 (rd_T35 l 0).f2.f0 (rd_T35 l 0).f2.f1 (rd_T35 l 0).f2.f2 _ (Kd.C_below HR.out HB1.out) HV.out hpos HR5.out HM.out).mono ?_; rintro e w3 ⟨hb, hp⟩; rw [show spreadF l 0 ⟨(rd_T35 l 0).f2.f0, (rd_T35 l 0).f2.f1, (rd_T35 l 0).f2.f2⟩ = some out from HSP.out] at hp; obtain ⟨v, rfl, hra⟩ := hp; refine .inl ⟨_, rfl, ?_⟩; obtain ⟨A3, c3, rfl⟩ := Kd.R_slice hra; have HO := Aside0.mk (Kd.R_lower hra HB1.out.size); have HB3 := Aside0.mk (below_step HB1.out hb); have X3 := Aside0.mk (blk_below V0.out hb); have y0 := (blk_cell X3.out 0).trans rfl; have fy0 := blk_frozen X3.out 0; clear hra hb)
      rw [HS.out, HSP.out]
      exact tree_end rfl (Nat.le_refl _) X3.out HO.out HB3.out rfl rfl
    | none =>
      have HSP := Aside0.mk hsp
      go_wp2_with ((with_reducible refine gate_dst (N := 15) rfl ?_); refine goesP (some 15) rfl rfl Try.func57 (by kernel_rfl) rfl #[.slice (some ad) l.length c, .int .i64 0, .agg #[.int .i64 (rd_T35 l 0).f2.f0, .bool (rd_T35 l 0).f2.f1, .slice A5 (rd_T35 l 0).f2.f2.length c5]] rfl (by (try simp only [List.map_toArray, List.map_cons, List.map_nil]); first | done | rfl) ?_; refine (spread_calls (some ad) A5 c c5 l 0 (rd_T35 l 0).f2.f0 (rd_T35 l 0).f2.f1 (rd_T35 l 0).f2.f2 _ (Kd.C_below HR.out HB1.out) HV.out hpos HR5.out HM.out).mono ?_; rintro e w3 ⟨hb, hp⟩; rw [show spreadF l 0 ⟨(rd_T35 l 0).f2.f0, (rd_T35 l 0).f2.f1, (rd_T35 l 0).f2.f2⟩ = none from HSP.out] at hp; subst hp; refine .inr ⟨_, rfl, ?_⟩; have HB3 := Aside0.mk (below_step HB1.out hb); have X3 := Aside0.mk (blk_below V0.out hb); clear hb)
      rw [HS.out, HSP.out]
      exact tree_limit rfl (Nat.le_refl _) X3.out HB3.out rfl rfl
  · replace hv : vTree l = false := by simpa using hv
    have HV := Aside0.mk hv
    have HS := Aside0.mk (show sSpread l = ([], 1) by unfold sSpread; rw [if_neg (by rw [hv]; simp)])
    clear hv
    go_enter_defers Try.func19, Try.ntmps19
    go_upto_region 1 with (fail)
    have hb_ := below_alloc (Below.refl _ w) (.cells #[.int .i64 0] 25)
    have hG0_ := blk_lit0 w (.cells #[.int .i64 0] 25)
    generalize (w.alloc (.cells #[.int .i64 0] 25)) = W at hb_ hG0_ ⊢
    have HB_W := Aside0.mk hb_
    have W0 := Aside0.mk hG0_
    clear hb_ hG0_
    go_wp2_with ((with_reducible refine gate_dst (N := 6) rfl ?_); refine goesL_ (some 6) rfl rfl Try.func32 (by kernel_rfl) rfl #[.slice A l.length c] rfl (by (try simp only [List.map_toArray, List.map_cons, List.map_nil]); first | done | rfl) ?_; refine (Check_calls A c l _ (Kd.C_below HR.out HB_W.out)).mono ?_; rintro e w1 ⟨rfl, hb⟩; refine ⟨_, rfl, ?_⟩; rw [HV.out]; simp only [errOf]; have HB1 := Aside0.mk (below_step HB_W.out hb); have V0 := Aside0.mk (blk_below W0.out hb); clear hb; have y0 := (blk_cell V0.out 0).trans rfl; have fy0 := blk_frozen V0.out 0)
    rw [HS.out]
    exact tree_bad rfl (Nat.le_refl _) V0.out HB1.out rfl rfl
end Go.Proofs.Ytgocgjfaiddejaa.M
