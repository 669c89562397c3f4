/- acl.cause: the four judges, one after the other. -/
import Derived.Test.YtgocgjfaiddejaaGD
namespace Go.Proofs.Ytgocgjfaiddejaa.M
open Go.RowKit Go.Proofs.YtgocgjfaiddejaaW.PrintWords Go.Proofs.YtgocgjfaiddejaaW.PrintLast Go.Proofs.YtgocgjfaiddejaaW.PrintMore
set_option linter.unusedVariables false
set_option linter.unusedSimpArgs false
set_option linter.unnecessarySimpa false

/-- What cause returns. -/
def Caused (g : Bool) (w : World) (e : Ending) (w' : World) : Prop := (∃ c1 c2 c3 : Int, e = .returned (.tuple #[.agg #[.int .i64 c1, .int .i64 c2, .int .i64 c3], .bool g])) ∧ Below w.heap.size w w'
theorem cause_end {ts : Array Value} {g : Bool} {c1 c2 c3 : Int} {w W : World} {q : Nat} (hq : ts.getD 6 undef = .pointer (some ⟨q, 0, none⟩)) (h7 : ts.getD 7 undef = .bool g) (hb : W.heap[q]? = some (.cells #[.int .i64 c1, .int .i64 c2, .int .i64 c3] 116 (0, 0))) (hB : Below w.heap.size w W) :
    bodyPost Try.prog Try.f87 (Caused g w) Exit.ret { tmps := ts, defers := [] } W := by
  have := results_list (P := Try.prog) (w := W) (tmps := ts) (fn := Try.f87) (rs := [.cell 6 116, .tmp 7]) rfl (by simp) (.cell _ _ _ _ _ hq hb Try.underlying116 rfl (by kernel_rfl) (.tmp .nil))
  rw [h7] at this
  exact bodyPost_ret this rfl ⟨⟨c1, c2, c3, rfl⟩, hB⟩
theorem judge0 {u pv o bit : Int} {gs : List Int} {l : List S37} (h : privB pv bit = true) : judgeB u gs pv o l bit = true := by unfold judgeB; rw [if_pos h]
theorem judge1 {u pv o bit : Int} {gs : List Int} {l : List S37} (h : privB pv bit = false) (h2 : ownerB u o bit = true) : judgeB u gs pv o l bit = true := by unfold judgeB; rw [if_neg (by rw [h]; simp), if_pos h2]
theorem judge2 {u pv o bit : Int} {gs : List Int} {l : List S37} (h : privB pv bit = false) (h2 : ownerB u o bit = false) : judgeB u gs pv o l bit = listedG u gs o bit l := by unfold judgeB; rw [if_neg (by rw [h]; simp), if_neg (by rw [h2]; simp)]; rfl
theorem judge3 {u pv o bit : Int} {gs : List Int} {l : List S37} (h : privB pv bit = false) (h2 : ownerB u o bit = false) (h3 : listedD u gs o bit l = false) : judgeB u gs pv o l bit = false := by
  rw [judge2 h h2]
  unfold listedD at h3
  unfold listedG
  cases hf : l.find? (hitB u gs o bit) with
  | none => rfl
  | some x => rw [hf] at h3; cases h3
set_option maxRecDepth 100000 in
set_option maxHeartbeats 2000000 in
theorem cause_calls (u pv o bit : Int) (gs : List Int) (G A : Option Addr) (cg c : Nat) (b : Bool) (l : List S37) (w : World) (hg : Kd.C (Kd.int .i64) w G gs.length gs) (hgc : gs.length ≤ cg) (hm : gs.length ≤ 8) (hr : k37.C w A l.length l) :
    Calls Try.prog 87 #[.agg #[.int .i64 u, .slice G gs.length cg, .int .i64 pv], .agg #[.int .i64 o, .bool b, .slice A l.length c], .int .i64 bit] w (Caused (judgeB u gs pv o l bit) w) := by
  have HG := Aside0.mk hg
  have HGC := Aside0.mk hgc
  have HM := Aside0.mk hm
  have HR := Aside0.mk hr
  have HE1 := Aside0.mk (enters_ Try.func101 (by kernel_rfl) rfl)
  have HE2 := Aside0.mk (enters_ Try.func102 (by kernel_rfl) rfl)
  have HE3 := Aside0.mk (enters_ Try.func103 (by kernel_rfl) rfl)
  have HE4 := Aside0.mk (enters_ Try.func104 (by kernel_rfl) rfl)
  have hix0 : ∀ w, (Instr.index 123 (.agg #[.func (.func 101) #[] #[], .func (.func 102) #[] #[], .func (.func 103) #[] #[], .func (.func 104) #[] #[]]) (.int .i64 0)).run Try.prog w = .ok (.func (.func 101) #[] #[]) w := fun w => by kernel_rfl
  have hix1 : ∀ w, (Instr.index 123 (.agg #[.func (.func 101) #[] #[], .func (.func 102) #[] #[], .func (.func 103) #[] #[], .func (.func 104) #[] #[]]) (.int .i64 1)).run Try.prog w = .ok (.func (.func 102) #[] #[]) w := fun w => by kernel_rfl
  have hix2 : ∀ w, (Instr.index 123 (.agg #[.func (.func 101) #[] #[], .func (.func 102) #[] #[], .func (.func 103) #[] #[], .func (.func 104) #[] #[]]) (.int .i64 2)).run Try.prog w = .ok (.func (.func 103) #[] #[]) w := fun w => by kernel_rfl
  have hix3 : ∀ w, (Instr.index 123 (.agg #[.func (.func 101) #[] #[], .func (.func 102) #[] #[], .func (.func 103) #[] #[], .func (.func 104) #[] #[]]) (.int .i64 3)).run Try.prog w = .ok (.func (.func 104) #[] #[]) w := fun w => by kernel_rfl
  clear hg hgc hm hr
  go_enter Try.func87, Try.ntmps87
  go_upto_region 1 with (fail)
  have hb_ := below_alloc (below_alloc (below_alloc (Below.refl _ w) (.cells #[.int .i64 u, .slice G gs.length cg, .int .i64 pv] 63)) (.cells #[.int .i64 o, .bool b, .slice A l.length c] 33)) (.cells #[.int .i64 0, .int .i64 0, .int .i64 0] 116)
  have hG0_ := blk_alloc (blk_alloc (blk_lit0 w (.cells #[.int .i64 u, .slice G gs.length cg, .int .i64 pv] 63)) (.cells #[.int .i64 o, .bool b, .slice A l.length c] 33)) (.cells #[.int .i64 0, .int .i64 0, .int .i64 0] 116)
  have hG1_ := blk_alloc (blk_lit w (.cells #[.int .i64 u, .slice G gs.length cg, .int .i64 pv] 63) (.cells #[.int .i64 o, .bool b, .slice A l.length c] 33)) (.cells #[.int .i64 0, .int .i64 0, .int .i64 0] 116)
  have hG2_ := blk_lit2 w (.cells #[.int .i64 u, .slice G gs.length cg, .int .i64 pv] 63) (.cells #[.int .i64 o, .bool b, .slice A l.length c] 33) (.cells #[.int .i64 0, .int .i64 0, .int .i64 0] 116)
  generalize (((w.alloc (.cells #[.int .i64 u, .slice G gs.length cg, .int .i64 pv] 63)).alloc (.cells #[.int .i64 o, .bool b, .slice A l.length c] 33)).alloc (.cells #[.int .i64 0, .int .i64 0, .int .i64 0] 116)) = W at hb_ hG0_ hG1_ hG2_ ⊢
  have HB_W := Aside0.mk hb_
  have W0 := Aside0.mk hG0_
  have W1 := Aside0.mk hG1_
  have W2 := Aside0.mk hG2_
  clear hb_ hG0_ hG1_ hG2_
  go_wp2
  go_loopg [14] 4 (fun kq v14 w' => ∃ j : Nat, v14 = .int .i64 j ∧ Aside0 (kq + j = 4) ∧ Aside0 (j ≤ 3) ∧ Aside0 (1 ≤ j → privB pv bit = false) ∧ Aside0 (2 ≤ j → ownerB u o bit = false) ∧ Aside0 (3 ≤ j → listedD u gs o bit l = false) ∧ Aside0 (Below W.heap.size W w'))
  case atStart => exact ⟨0, rfl, ⟨rfl⟩, ⟨by omega⟩, ⟨by omega⟩, ⟨by omega⟩, ⟨by omega⟩, ⟨Below.refl _ _⟩⟩
  case round =>
    obtain ⟨j, rfl, HK, HJ, H1, H2, H3, HB⟩ := hrel
    have T0 := Aside0.mk (blk_below W0.out HB.out)
    have D0 := Aside0.mk (blk_below W1.out HB.out)
    have C0 := Aside0.mk (blk_below W2.out HB.out)
    have HBW := Aside0.mk (below_step HB_W.out HB.out)
    have t0 := (blk_cell T0.out 0).trans rfl; have t1 := (blk_cell T0.out 1).trans rfl; have t2 := (blk_cell T0.out 2).trans rfl
    have d0 := (blk_cell D0.out 0).trans rfl; have d1 := (blk_cell D0.out 1).trans rfl; have d2 := (blk_cell D0.out 2).trans rfl
    rcases j with _ | _ | _ | _ | j
    · go_upto_region 5 with ((with_reducible refine gate_dst (N := 22) rfl ?_); refine goesV (some 22) rfl rfl HE1.out #[.agg #[.int .i64 u, .slice G gs.length cg, .int .i64 pv], .agg #[.int .i64 o, .bool b, .slice A l.length c], .int .i64 bit] rfl rfl (by (try simp only [List.map_toArray, List.map_cons, List.map_nil]); first | done | rfl) ?_; refine (priv_calls u pv o bit gs.length cg l.length c G A b _).mono ?_; rintro e w1 ⟨⟨c1, c2, c3, rfl⟩, hb⟩; refine ⟨_, rfl, ?_⟩; have HB1 := Aside0.mk (below_step HB.out hb); have C0' := Aside0.mk (blk_below C0.out hb); clear hb t0 t1 t2 d0 d1 d2)
      have hb_ := below_alloc (Below.refl _ w1) (.cells #[.int .i64 c1, .int .i64 c2, .int .i64 c3] 116)
      have hG0_ := blk_lit0 w1 (.cells #[.int .i64 c1, .int .i64 c2, .int .i64 c3] 116)
      generalize (w1.alloc (.cells #[.int .i64 c1, .int .i64 c2, .int .i64 c3] 116)) = V at hb_ hG0_ ⊢
      have HB_V := Aside0.mk hb_
      have V0 := Aside0.mk hG0_
      clear hb_ hG0_
      have C1 := Aside0.mk (blk_below C0'.out HB_V.out)
      have HBV := Aside0.mk (below_step HB1.out HB_V.out)
      have HB2 := Aside0.mk (below_step HB_W.out HBV.out)
      have v0 := (blk_cell V0.out 0).trans rfl; have v1 := (blk_cell V0.out 1).trans rfl; have v2 := (blk_cell V0.out 2).trans rfl
      have x0 := (blk_cell C1.out 0).trans rfl; have x1 := (blk_cell C1.out 1).trans rfl; have x2 := (blk_cell C1.out 2).trans rfl
      have fx0 := blk_frozen C1.out 0; have fx1 := blk_frozen C1.out 1; have fx2 := blk_frozen C1.out 2
      cases hd : privB pv bit with
      | true =>
        have HS := Aside0.mk (show judgeB u gs pv o l bit = true from judge0 hd)
        obtain ⟨w4, hw4, hx4, hb4, _⟩ := cause_cells (.int .i64 c1) (.int .i64 c2) (.int .i64 c3) C1.out HB2.out (by omega)
        have HX := Aside0.mk hx4
        have HB4 := Aside0.mk hb4
        have HW4 := Aside0.mk hw4
        clear hw4 hx4 hb4
        go_wp2
        rw [HS.out, ← HW4.out]
        exact cause_end rfl rfl HX.out HB4.out
      | false =>
        go_wp2
        go_roundg (4 - (0 + 1))
        case measure => have := HK.out; omega
        case rel => exact ⟨0 + 1, by go_num, ⟨by omega⟩, ⟨by omega⟩, ⟨fun _ => hd⟩, ⟨by omega⟩, ⟨by omega⟩, HBV⟩
    · go_upto_region 5 with ((with_reducible refine gate_dst (N := 22) rfl ?_); refine goesV (some 22) rfl rfl HE2.out #[.agg #[.int .i64 u, .slice G gs.length cg, .int .i64 pv], .agg #[.int .i64 o, .bool b, .slice A l.length c], .int .i64 bit] rfl rfl (by (try simp only [List.map_toArray, List.map_cons, List.map_nil]); first | done | rfl) ?_; refine (owner_calls u pv o bit gs.length cg l.length c G A b _).mono ?_; rintro e w1 ⟨⟨c1, c2, c3, rfl⟩, hb⟩; refine ⟨_, rfl, ?_⟩; have HB1 := Aside0.mk (below_step HB.out hb); have C0' := Aside0.mk (blk_below C0.out hb); clear hb t0 t1 t2 d0 d1 d2)
      have hb_ := below_alloc (Below.refl _ w1) (.cells #[.int .i64 c1, .int .i64 c2, .int .i64 c3] 116)
      have hG0_ := blk_lit0 w1 (.cells #[.int .i64 c1, .int .i64 c2, .int .i64 c3] 116)
      generalize (w1.alloc (.cells #[.int .i64 c1, .int .i64 c2, .int .i64 c3] 116)) = V at hb_ hG0_ ⊢
      have HB_V := Aside0.mk hb_
      have V0 := Aside0.mk hG0_
      clear hb_ hG0_
      have C1 := Aside0.mk (blk_below C0'.out HB_V.out)
      have HBV := Aside0.mk (below_step HB1.out HB_V.out)
      have HB2 := Aside0.mk (below_step HB_W.out HBV.out)
      have v0 := (blk_cell V0.out 0).trans rfl; have v1 := (blk_cell V0.out 1).trans rfl; have v2 := (blk_cell V0.out 2).trans rfl
      have x0 := (blk_cell C1.out 0).trans rfl; have x1 := (blk_cell C1.out 1).trans rfl; have x2 := (blk_cell C1.out 2).trans rfl
      have fx0 := blk_frozen C1.out 0; have fx1 := blk_frozen C1.out 1; have fx2 := blk_frozen C1.out 2
      cases hd : ownerB u o bit with
      | true =>
        have HS := Aside0.mk (show judgeB u gs pv o l bit = true from judge1 (H1.out (by omega)) hd)
        obtain ⟨w4, hw4, hx4, hb4, _⟩ := cause_cells (.int .i64 c1) (.int .i64 c2) (.int .i64 c3) C1.out HB2.out (by omega)
        have HX := Aside0.mk hx4
        have HB4 := Aside0.mk hb4
        have HW4 := Aside0.mk hw4
        clear hw4 hx4 hb4
        go_wp2
        rw [HS.out, ← HW4.out]
        exact cause_end rfl rfl HX.out HB4.out
      | false =>
        go_wp2
        go_roundg (4 - (1 + 1))
        case measure => have := HK.out; omega
        case rel => exact ⟨1 + 1, by go_num, ⟨by omega⟩, ⟨by omega⟩, ⟨fun _ => H1.out (by omega)⟩, ⟨fun _ => hd⟩, ⟨by omega⟩, HBV⟩
    · go_upto_region 5 with ((with_reducible refine gate_dst (N := 22) rfl ?_); refine goesV (some 22) rfl rfl HE3.out #[.agg #[.int .i64 u, .slice G gs.length cg, .int .i64 pv], .agg #[.int .i64 o, .bool b, .slice A l.length c], .int .i64 bit] rfl rfl (by (try simp only [List.map_toArray, List.map_cons, List.map_nil]); first | done | rfl) ?_; refine (listed_calls u pv o bit gs G A cg c b l _ (Kd.C_below HG.out HBW.out) HGC.out HM.out (Kd.C_below HR.out HBW.out)).mono ?_; rintro e w1 ⟨⟨c1, c2, c3, rfl⟩, hb⟩; refine ⟨_, rfl, ?_⟩; have HB1 := Aside0.mk (below_step HB.out hb); have C0' := Aside0.mk (blk_below C0.out hb); clear hb t0 t1 t2 d0 d1 d2)
      have hb_ := below_alloc (Below.refl _ w1) (.cells #[.int .i64 c1, .int .i64 c2, .int .i64 c3] 116)
      have hG0_ := blk_lit0 w1 (.cells #[.int .i64 c1, .int .i64 c2, .int .i64 c3] 116)
      generalize (w1.alloc (.cells #[.int .i64 c1, .int .i64 c2, .int .i64 c3] 116)) = V at hb_ hG0_ ⊢
      have HB_V := Aside0.mk hb_
      have V0 := Aside0.mk hG0_
      clear hb_ hG0_
      have C1 := Aside0.mk (blk_below C0'.out HB_V.out)
      have HBV := Aside0.mk (below_step HB1.out HB_V.out)
      have HB2 := Aside0.mk (below_step HB_W.out HBV.out)
      have v0 := (blk_cell V0.out 0).trans rfl; have v1 := (blk_cell V0.out 1).trans rfl; have v2 := (blk_cell V0.out 2).trans rfl
      have x0 := (blk_cell C1.out 0).trans rfl; have x1 := (blk_cell C1.out 1).trans rfl; have x2 := (blk_cell C1.out 2).trans rfl
      have fx0 := blk_frozen C1.out 0; have fx1 := blk_frozen C1.out 1; have fx2 := blk_frozen C1.out 2
      cases hd : listedD u gs o bit l with
      | true =>
        have HS := Aside0.mk (show judgeB u gs pv o l bit = listedG u gs o bit l from judge2 (H1.out (by omega)) (H2.out (by omega)))
        obtain ⟨w4, hw4, hx4, hb4, _⟩ := cause_cells (.int .i64 c1) (.int .i64 c2) (.int .i64 c3) C1.out HB2.out (by omega)
        have HX := Aside0.mk hx4
        have HB4 := Aside0.mk hb4
        have HW4 := Aside0.mk hw4
        clear hw4 hx4 hb4
        go_wp2
        rw [HS.out, ← HW4.out]
        exact cause_end rfl rfl HX.out HB4.out
      | false =>
        go_wp2
        go_roundg (4 - (2 + 1))
        case measure => have := HK.out; omega
        case rel => exact ⟨2 + 1, by go_num, ⟨by omega⟩, ⟨by omega⟩, ⟨fun _ => H1.out (by omega)⟩, ⟨fun _ => H2.out (by omega)⟩, ⟨fun _ => hd⟩, HBV⟩
    · go_upto_region 5 with ((with_reducible refine gate_dst (N := 22) rfl ?_); refine goesV (some 22) rfl rfl HE4.out #[.agg #[.int .i64 u, .slice G gs.length cg, .int .i64 pv], .agg #[.int .i64 o, .bool b, .slice A l.length c], .int .i64 bit] rfl rfl (by (try simp only [List.map_toArray, List.map_cons, List.map_nil]); first | done | rfl) ?_; refine (refuse_calls u pv o bit gs.length cg l.length c G A b _).mono ?_; rintro e w1 ⟨⟨c1, c2, c3, rfl⟩, hb⟩; refine ⟨_, rfl, ?_⟩; have HB1 := Aside0.mk (below_step HB.out hb); have C0' := Aside0.mk (blk_below C0.out hb); clear hb t0 t1 t2 d0 d1 d2)
      have hb_ := below_alloc (Below.refl _ w1) (.cells #[.int .i64 c1, .int .i64 c2, .int .i64 c3] 116)
      have hG0_ := blk_lit0 w1 (.cells #[.int .i64 c1, .int .i64 c2, .int .i64 c3] 116)
      generalize (w1.alloc (.cells #[.int .i64 c1, .int .i64 c2, .int .i64 c3] 116)) = V at hb_ hG0_ ⊢
      have HB_V := Aside0.mk hb_
      have V0 := Aside0.mk hG0_
      clear hb_ hG0_
      have C1 := Aside0.mk (blk_below C0'.out HB_V.out)
      have HBV := Aside0.mk (below_step HB1.out HB_V.out)
      have HB2 := Aside0.mk (below_step HB_W.out HBV.out)
      have v0 := (blk_cell V0.out 0).trans rfl; have v1 := (blk_cell V0.out 1).trans rfl; have v2 := (blk_cell V0.out 2).trans rfl
      have x0 := (blk_cell C1.out 0).trans rfl; have x1 := (blk_cell C1.out 1).trans rfl; have x2 := (blk_cell C1.out 2).trans rfl
      have fx0 := blk_frozen C1.out 0; have fx1 := blk_frozen C1.out 1; have fx2 := blk_frozen C1.out 2
      have HS := Aside0.mk (show judgeB u gs pv o l bit = false from judge3 (H1.out (by omega)) (H2.out (by omega)) (H3.out (by omega)))
      obtain ⟨w4, hw4, hx4, hb4, _⟩ := cause_cells (.int .i64 c1) (.int .i64 c2) (.int .i64 c3) C1.out HB2.out (by omega)
      have HX := Aside0.mk hx4
      have HB4 := Aside0.mk hb4
      have HW4 := Aside0.mk hw4
      clear hw4 hx4 hb4
      go_wp2
      rw [HS.out, ← HW4.out]
      exact cause_end rfl rfl HX.out HB4.out
    · exact absurd HJ.out (by omega)
end Go.Proofs.Ytgocgjfaiddejaa.M
