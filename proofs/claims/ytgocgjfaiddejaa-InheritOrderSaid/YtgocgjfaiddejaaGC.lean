/- acl.listed's question of an entry; acl.priv, acl.owner, acl.refuse. -/
import Derived.Test.YtgocgjfaiddejaaGB
namespace Go.Proofs.Ytgocgjfaiddejaa.M
open Go.RowKit Go.Proofs.YtgocgjfaiddejaaW.PrintWords Go.Proofs.YtgocgjfaiddejaaW.PrintLast Go.Proofs.YtgocgjfaiddejaaW.PrintMore
set_option linter.unusedVariables false
set_option linter.unusedSimpArgs false
set_option linter.unnecessarySimpa false

set_option maxRecDepth 100000 in
set_option maxHeartbeats 2000000 in
theorem hit_calls (u pv o bit : Int) (gs : List Int) (G A : Option Addr) (cg c n gt gd gb gf : Nat) (b : Bool) (x : S37) (w : World) (hgb : w.heap[gb]? = some (.cells #[.int .i64 bit] 3 (0, 0))) (hgf : w.heap[gf]? = some (.cells #[.func (.func 108) #[] #[.pointer (some ⟨gt, 0, none⟩), .pointer (some ⟨gd, 0, none⟩)]] 68 (0, 0)))
    (hgt : w.heap[gt]? = some (.cells #[.int .i64 u, .slice G gs.length cg, .int .i64 pv] 63 (0, 0))) (hgd : w.heap[gd]? = some (.cells #[.int .i64 o, .bool b, .slice A n c] 33 (0, 0))) (hg : Kd.C (Kd.int .i64) w G gs.length gs) (hgc : gs.length ≤ cg) (hm : gs.length ≤ 8) :
    Calls Try.prog 107 #[.agg #[.bool x.f0, .int .i64 x.f1, .int .i64 x.f2, .int .i64 x.f3], .pointer (some ⟨gb, 0, none⟩), .pointer (some ⟨gf, 0, none⟩)] w fun e w' => e = .returned (.bool (hitB u gs o bit x)) ∧ Below w.heap.size w w' := by
  have HG := Aside0.mk hg
  have HGC := Aside0.mk hgc
  have HM := Aside0.mk hm
  have T0 := Aside0.mk hgt
  have D0 := Aside0.mk hgd
  have B0 := Aside0.mk hgb
  have F0 := Aside0.mk hgf
  have he := enters_ Try.func108 (by kernel_rfl) rfl
  have HS := Aside0.mk (show hitB u gs o bit x = (hasB x.f2 bit && speaksB u gs o x) from rfl)
  clear hg hgc hm hgt hgd hgb hgf
  go_enter Try.func107, Try.ntmps107
  go_upto_region 1 with (fail)
  have hb_ := below_alloc (Below.refl _ w) (.cells #[.bool x.f0, .int .i64 x.f1, .int .i64 x.f2, .int .i64 x.f3] 37)
  have hG0_ := blk_lit0 w (.cells #[.bool x.f0, .int .i64 x.f1, .int .i64 x.f2, .int .i64 x.f3] 37)
  generalize (w.alloc (.cells #[.bool x.f0, .int .i64 x.f1, .int .i64 x.f2, .int .i64 x.f3] 37)) = W at hb_ hG0_ ⊢
  have HB_W := Aside0.mk hb_
  have W0 := Aside0.mk hG0_
  clear hb_ hG0_
  have B1 := Aside0.mk (blk_below B0.out HB_W.out)
  have F1 := Aside0.mk (blk_below F0.out HB_W.out)
  have x0 := (blk_cell W0.out 0).trans rfl; have x1 := (blk_cell W0.out 1).trans rfl; have x2 := (blk_cell W0.out 2).trans rfl; have x3 := (blk_cell W0.out 3).trans rfl
  have t0 := (blk_cell B1.out 0).trans rfl
  have d0 := (blk_cell F1.out 0).trans rfl
  cases hf : hasB x.f2 bit with
  | true =>
    have h1 : ((Go.bits .and .i64 x.f2 bit) != 0) = true := hf
    rw [hf] at HS
    go_wp2_with (go_at_call 108; refine (speaks_calls u pv o gs G A cg c n gt gd b x _ (blk_below T0.out HB_W.out) (blk_below D0.out HB_W.out) (Kd.C_below HG.out HB_W.out) HGC.out HM.out).mono ?_; rintro e w1 ⟨rfl, hb⟩; have HB1 := Aside0.mk (below_step HB_W.out hb); clear hb)
    go_ret
    exact ⟨by rw [HS.out]; rfl, HB1.out⟩
  | false =>
    have h1 : ((Go.bits .and .i64 x.f2 bit) != 0) = false := hf
    rw [hf] at HS
    go_wp2
    go_ret
    exact ⟨by rw [HS.out]; rfl, HB_W.out⟩

/-- What a judge returns: a cause, whether the right is granted, whether it decides. -/
def Judged (g d : Bool) (w : World) (e : Ending) (w' : World) : Prop := (∃ c1 c2 c3 : Int, e = .returned (.tuple #[.agg #[.int .i64 c1, .int .i64 c2, .int .i64 c3], .bool g, .bool d])) ∧ Below w.heap.size w w'
theorem judge_end {fn : Func} {ts : Array Value} {g d : Bool} {c1 c2 c3 : Int} {w W : World} {q : Nat} (hres : fn.results = #[.cell 6 116, .tmp 7, .tmp 8]) (hq : ts.getD 6 undef = .pointer (some ⟨q, 0, none⟩)) (h7 : ts.getD 7 undef = .bool g) (h8 : ts.getD 8 undef = .bool d) (hb : W.heap[q]? = some (.cells #[.int .i64 c1, .int .i64 c2, .int .i64 c3] 116 (0, 0))) (hB : Below w.heap.size w W) :
    bodyPost Try.prog fn (Judged g d w) Exit.ret { tmps := ts, defers := [] } W := by
  have := results_list (P := Try.prog) (w := W) (tmps := ts) (fn := fn) (rs := [.cell 6 116, .tmp 7, .tmp 8]) (by rw [hres]) (by simp) (.cell _ _ _ _ _ hq hb Try.underlying116 rfl (by kernel_rfl) (.tmp (.tmp .nil)))
  rw [h7, h8] at this
  exact bodyPost_ret this rfl ⟨⟨c1, c2, c3, rfl⟩, hB⟩
/-- The three cells of a cause, written one after the other. -/
theorem cause_cells {w W : World} {q : Nat} {a1 a2 a3 : Value} (c1 c2 c3 : Value) (hb : W.heap[q]? = some (.cells #[a1, a2, a3] 116 (0, 0))) (hB : Below w.heap.size w W) (hq : w.heap.size ≤ q) :
    ∃ W2, W2 = ((W.setCell ⟨q, 0, none⟩ c1).setCell ⟨q, 1, none⟩ c2).setCell ⟨q, 2, none⟩ c3 ∧ W2.heap[q]? = some (.cells #[c1, c2, c3] 116 (0, 0)) ∧ Below w.heap.size w W2 ∧ W.grownBy W2 (some q) := by
  have q1 := blk_put hb 0 c1 rfl
  have q2 := blk_put q1 1 c2 rfl
  have q3 := blk_put q2 2 c3 rfl
  exact ⟨_, rfl, q3, ((hB.setCell (p := ⟨q, 0, none⟩) hq _).setCell (p := ⟨q, 1, none⟩) hq _).setCell (p := ⟨q, 2, none⟩) hq _,
    World.grownBy.trans (World.grownBy.trans (setCell_grown _ _ _ _) (setCell_grown _ _ _ _)) (setCell_grown _ _ _ _)⟩
set_option maxRecDepth 100000 in
set_option maxHeartbeats 2000000 in
theorem priv_calls (u pv o bit : Int) (ng cg n c : Nat) (G A : Option Addr) (b : Bool) (w : World) :
    Calls Try.prog 101 #[.agg #[.int .i64 u, .slice G ng cg, .int .i64 pv], .agg #[.int .i64 o, .bool b, .slice A n c], .int .i64 bit] w (Judged true (privB pv bit) w) := by
  have HS := Aside0.mk (show privB pv bit = ((hasB pv 1 && hasB bit 41) || (hasB pv 2 && bit == 256)) from rfl)
  go_enter Try.func101, Try.ntmps101
  go_upto_region 1 with (fail)
  have hb_ := below_alloc (below_alloc (below_alloc (Below.refl _ w) (.cells #[.int .i64 u, .slice G ng cg, .int .i64 pv] 63)) (.cells #[.int .i64 o, .bool b, .slice A n c] 33)) (.cells #[.int .i64 0, .int .i64 0, .int .i64 0] 116)
  have hG0_ := blk_alloc (blk_alloc (blk_lit0 w (.cells #[.int .i64 u, .slice G ng cg, .int .i64 pv] 63)) (.cells #[.int .i64 o, .bool b, .slice A n c] 33)) (.cells #[.int .i64 0, .int .i64 0, .int .i64 0] 116)
  have hG1_ := blk_alloc (blk_lit w (.cells #[.int .i64 u, .slice G ng cg, .int .i64 pv] 63) (.cells #[.int .i64 o, .bool b, .slice A n c] 33)) (.cells #[.int .i64 0, .int .i64 0, .int .i64 0] 116)
  have hG2_ := blk_lit2 w (.cells #[.int .i64 u, .slice G ng cg, .int .i64 pv] 63) (.cells #[.int .i64 o, .bool b, .slice A n c] 33) (.cells #[.int .i64 0, .int .i64 0, .int .i64 0] 116)
  generalize (((w.alloc (.cells #[.int .i64 u, .slice G ng cg, .int .i64 pv] 63)).alloc (.cells #[.int .i64 o, .bool b, .slice A n c] 33)).alloc (.cells #[.int .i64 0, .int .i64 0, .int .i64 0] 116)) = W at hb_ hG0_ hG1_ hG2_ ⊢
  have HB_W := Aside0.mk hb_
  have W0 := Aside0.mk hG0_
  have W1 := Aside0.mk hG1_
  have W2 := Aside0.mk hG2_
  clear hb_ hG0_ hG1_ hG2_
  have t0 := (blk_cell W0.out 0).trans rfl; have t1 := (blk_cell W0.out 1).trans rfl; have t2 := (blk_cell W0.out 2).trans rfl
  have x0 := (blk_cell W2.out 0).trans rfl; have x1 := (blk_cell W2.out 1).trans rfl; have x2 := (blk_cell W2.out 2).trans rfl
  have fx0 := blk_frozen W2.out 0; have fx1 := blk_frozen W2.out 1; have fx2 := blk_frozen W2.out 2
  obtain ⟨w2, hw2, hx2, hb2, _⟩ := cause_cells (.int .i64 bit) (.int .i64 1) (.int .i64 0) W2.out HB_W.out (by omega)
  have HX := Aside0.mk hx2
  have HB2 := Aside0.mk hb2
  have HW2 := Aside0.mk hw2
  clear hw2 hx2 hb2
  cases h1 : ((Go.bits .and .i64 pv 1) != 0) <;> cases h2 : ((Go.bits .and .i64 bit 41) != 0) <;> cases h3 : ((Go.bits .and .i64 pv 2) != 0) <;> cases h4 : (bit == 256) <;>
  (unfold hasB at HS
   rw [h1, h2, h3, h4] at HS
   go_wp2
   rw [HS.out, ← HW2.out]
   exact judge_end rfl rfl rfl rfl HX.out HB2.out)
set_option maxRecDepth 100000 in
set_option maxHeartbeats 2000000 in
theorem owner_calls (u pv o bit : Int) (ng cg n c : Nat) (G A : Option Addr) (b : Bool) (w : World) :
    Calls Try.prog 102 #[.agg #[.int .i64 u, .slice G ng cg, .int .i64 pv], .agg #[.int .i64 o, .bool b, .slice A n c], .int .i64 bit] w (Judged true (ownerB u o bit) w) := by
  have HS := Aside0.mk (show ownerB u o bit = (u == o && bit == 128) from rfl)
  go_enter Try.func102, Try.ntmps102
  go_upto_region 1 with (fail)
  have hb_ := below_alloc (below_alloc (below_alloc (Below.refl _ w) (.cells #[.int .i64 u, .slice G ng cg, .int .i64 pv] 63)) (.cells #[.int .i64 o, .bool b, .slice A n c] 33)) (.cells #[.int .i64 0, .int .i64 0, .int .i64 0] 116)
  have hG0_ := blk_alloc (blk_alloc (blk_lit0 w (.cells #[.int .i64 u, .slice G ng cg, .int .i64 pv] 63)) (.cells #[.int .i64 o, .bool b, .slice A n c] 33)) (.cells #[.int .i64 0, .int .i64 0, .int .i64 0] 116)
  have hG1_ := blk_alloc (blk_lit w (.cells #[.int .i64 u, .slice G ng cg, .int .i64 pv] 63) (.cells #[.int .i64 o, .bool b, .slice A n c] 33)) (.cells #[.int .i64 0, .int .i64 0, .int .i64 0] 116)
  have hG2_ := blk_lit2 w (.cells #[.int .i64 u, .slice G ng cg, .int .i64 pv] 63) (.cells #[.int .i64 o, .bool b, .slice A n c] 33) (.cells #[.int .i64 0, .int .i64 0, .int .i64 0] 116)
  generalize (((w.alloc (.cells #[.int .i64 u, .slice G ng cg, .int .i64 pv] 63)).alloc (.cells #[.int .i64 o, .bool b, .slice A n c] 33)).alloc (.cells #[.int .i64 0, .int .i64 0, .int .i64 0] 116)) = W at hb_ hG0_ hG1_ hG2_ ⊢
  have HB_W := Aside0.mk hb_
  have W0 := Aside0.mk hG0_
  have W1 := Aside0.mk hG1_
  have W2 := Aside0.mk hG2_
  clear hb_ hG0_ hG1_ hG2_
  have t0 := (blk_cell W0.out 0).trans rfl; have t1 := (blk_cell W0.out 1).trans rfl; have t2 := (blk_cell W0.out 2).trans rfl
  have d0 := (blk_cell W1.out 0).trans rfl; have d1 := (blk_cell W1.out 1).trans rfl; have d2 := (blk_cell W1.out 2).trans rfl
  have x0 := (blk_cell W2.out 0).trans rfl; have x1 := (blk_cell W2.out 1).trans rfl; have x2 := (blk_cell W2.out 2).trans rfl
  have fx0 := blk_frozen W2.out 0; have fx1 := blk_frozen W2.out 1; have fx2 := blk_frozen W2.out 2
  obtain ⟨w2, hw2, hx2, hb2, _⟩ := cause_cells (.int .i64 bit) (.int .i64 2) (.int .i64 0) W2.out HB_W.out (by omega)
  have HX := Aside0.mk hx2
  have HB2 := Aside0.mk hb2
  have HW2 := Aside0.mk hw2
  clear hw2 hx2 hb2
  cases h1 : (u == o) <;> cases h2 : (bit == 128) <;>
  (rw [h1, h2] at HS
   go_wp2
   rw [HS.out, ← HW2.out]
   exact judge_end rfl rfl rfl rfl HX.out HB2.out)
set_option maxRecDepth 100000 in
set_option maxHeartbeats 2000000 in
theorem refuse_calls (u pv o bit : Int) (ng cg n c : Nat) (G A : Option Addr) (b : Bool) (w : World) :
    Calls Try.prog 104 #[.agg #[.int .i64 u, .slice G ng cg, .int .i64 pv], .agg #[.int .i64 o, .bool b, .slice A n c], .int .i64 bit] w (Judged false true w) := by
  go_enter Try.func104, Try.ntmps104
  go_upto_region 1 with (fail)
  have hb_ := below_alloc (below_alloc (below_alloc (Below.refl _ w) (.cells #[.int .i64 u, .slice G ng cg, .int .i64 pv] 63)) (.cells #[.int .i64 o, .bool b, .slice A n c] 33)) (.cells #[.int .i64 0, .int .i64 0, .int .i64 0] 116)
  have hG0_ := blk_alloc (blk_alloc (blk_lit0 w (.cells #[.int .i64 u, .slice G ng cg, .int .i64 pv] 63)) (.cells #[.int .i64 o, .bool b, .slice A n c] 33)) (.cells #[.int .i64 0, .int .i64 0, .int .i64 0] 116)
  have hG1_ := blk_alloc (blk_lit w (.cells #[.int .i64 u, .slice G ng cg, .int .i64 pv] 63) (.cells #[.int .i64 o, .bool b, .slice A n c] 33)) (.cells #[.int .i64 0, .int .i64 0, .int .i64 0] 116)
  have hG2_ := blk_lit2 w (.cells #[.int .i64 u, .slice G ng cg, .int .i64 pv] 63) (.cells #[.int .i64 o, .bool b, .slice A n c] 33) (.cells #[.int .i64 0, .int .i64 0, .int .i64 0] 116)
  generalize (((w.alloc (.cells #[.int .i64 u, .slice G ng cg, .int .i64 pv] 63)).alloc (.cells #[.int .i64 o, .bool b, .slice A n c] 33)).alloc (.cells #[.int .i64 0, .int .i64 0, .int .i64 0] 116)) = W at hb_ hG0_ hG1_ hG2_ ⊢
  have HB_W := Aside0.mk hb_
  have W0 := Aside0.mk hG0_
  have W1 := Aside0.mk hG1_
  have W2 := Aside0.mk hG2_
  clear hb_ hG0_ hG1_ hG2_
  have x0 := (blk_cell W2.out 0).trans rfl; have x1 := (blk_cell W2.out 1).trans rfl; have x2 := (blk_cell W2.out 2).trans rfl
  have fx0 := blk_frozen W2.out 0; have fx1 := blk_frozen W2.out 1; have fx2 := blk_frozen W2.out 2
  obtain ⟨w2, hw2, hx2, hb2, _⟩ := cause_cells (.int .i64 bit) (.int .i64 4) (.int .i64 0) W2.out HB_W.out (by omega)
  have HX := Aside0.mk hx2
  have HB2 := Aside0.mk hb2
  have HW2 := Aside0.mk hw2
  clear hw2 hx2 hb2
  go_wp2
  rw [← HW2.out]
  exact judge_end rfl rfl rfl rfl HX.out HB2.out
end Go.Proofs.Ytgocgjfaiddejaa.M
