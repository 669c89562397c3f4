/- acl.right; acl.speaker and what it returns; acl.listed. -/
import Derived.Test.YtgocgjfaiddejaaGA
namespace Go.Proofs.Ytgocgjfaiddejaa.M
open Go.RowKit Go.Proofs.YtgocgjfaiddejaaW.PrintWords Go.Proofs.YtgocgjfaiddejaaW.PrintLast Go.Proofs.YtgocgjfaiddejaaW.PrintMore
set_option linter.unusedVariables false
set_option linter.unusedSimpArgs false
set_option linter.unnecessarySimpa false

set_option maxRecDepth 100000 in
set_option maxHeartbeats 2000000 in
theorem right_ok (u pv o : Int) (gs : List Int) (G A : Option Addr) (cg c : Nat) (b : Bool) (l : List S37) (w : World) (hg : Kd.C (Kd.int .i64) w G gs.length gs) (hgc : gs.length ≤ cg) (hr : k37.C w A l.length l) (hc : l.length ≤ c) (ht : tokE u gs pv = 0) (hv : vDesc o l = true) :
    Calls Try.prog 70 #[.agg #[.int .i64 u, .slice G gs.length cg, .int .i64 pv], .agg #[.int .i64 o, .bool b, .slice A l.length c]] w fun e w' => e = .returned (.tuple #[]) ∧ Below w.heap.size w w' := by
  have HG := Aside0.mk hg
  have HGC := Aside0.mk hgc
  have HR := Aside0.mk hr
  have HC := Aside0.mk hc
  have HT := Aside0.mk ht
  have HV := Aside0.mk hv
  clear hg hgc hr hc ht hv
  go_enter Try.func70, Try.ntmps70
  go_upto_region 1 with (fail)
  have hb_ := below_alloc (below_alloc (Below.refl _ w) (.cells #[.int .i64 u, .slice G gs.length cg, .int .i64 pv] 63)) (.cells #[.int .i64 o, .bool b, .slice A l.length c] 33)
  have hG0_ := blk_alloc (blk_lit0 w (.cells #[.int .i64 u, .slice G gs.length cg, .int .i64 pv] 63)) (.cells #[.int .i64 o, .bool b, .slice A l.length c] 33)
  have hG1_ := blk_lit w (.cells #[.int .i64 u, .slice G gs.length cg, .int .i64 pv] 63) (.cells #[.int .i64 o, .bool b, .slice A l.length c] 33)
  generalize ((w.alloc (.cells #[.int .i64 u, .slice G gs.length cg, .int .i64 pv] 63)).alloc (.cells #[.int .i64 o, .bool b, .slice A l.length c] 33)) = W at hb_ hG0_ hG1_ ⊢
  have HB_W := Aside0.mk hb_
  have W0 := Aside0.mk hG0_
  have W1 := Aside0.mk hG1_
  clear hb_ hG0_ hG1_
  have y0 := (blk_cell W0.out 0).trans rfl; have y1 := (blk_cell W0.out 1).trans rfl; have y2 := (blk_cell W0.out 2).trans rfl
  have z0 := (blk_cell W1.out 0).trans rfl; have z1 := (blk_cell W1.out 1).trans rfl; have z2 := (blk_cell W1.out 2).trans rfl
  go_upto_region 2 with (first | ((with_reducible refine gate_dst (N := 5) rfl ?_); refine goesL_ (some 5) rfl rfl Try.func84 (by kernel_rfl) rfl #[.agg #[.int .i64 u, .slice G gs.length cg, .int .i64 pv]] rfl (by (try simp only [List.map_toArray, List.map_cons, List.map_nil]); first | done | rfl) ?_; refine (acl_CheckToken.calls 100 u G cg gs pv _ _ (Kd.C_below HG.out HB_W.out) HGC.out (tok_is u gs pv)).mono ?_; rintro e w1 ⟨rfl, hb⟩; refine ⟨_, rfl, ?_⟩; rw [HT.out]; have HB1 := Aside0.mk (below_step HB_W.out hb); have X1 := Aside0.mk (blk_below W1.out hb); clear hb y0 y1 y2 z0 z1 z2; have z0 := (blk_cell X1.out 0).trans rfl; have z1 := (blk_cell X1.out 1).trans rfl; have z2 := (blk_cell X1.out 2).trans rfl) | ((with_reducible refine gate_dst (N := 7) rfl ?_); refine goesL_ (some 7) rfl rfl Try.func83 (by kernel_rfl) rfl #[.bool true, .int .i64 1] rfl (by (try simp only [List.map_toArray, List.map_cons, List.map_nil]); first | done | rfl) ?_; refine (want_true 1 _).mono ?_; rintro e w1 ⟨rfl, rfl⟩; refine ⟨_, rfl, ?_⟩))
  go_wp2_with ((with_reducible refine gate_dst (N := 10) rfl ?_); refine goesL_ (some 10) rfl rfl Try.func85 (by kernel_rfl) rfl #[.slice (some ⟨w1.heap.size, 0, none⟩) 1 1] rfl (by (try simp only [List.map_toArray, List.map_cons, List.map_nil]); first | done | rfl) ?_; refine (avalid_calls _ 1 [⟨o, b, l⟩] _ (C33_one (x := ⟨o, b, l⟩) (blk_new _ _) HC.out (Kd.C_alloc (Kd.C_below HR.out HB1.out) _)) (fun x hx => by rw [List.mem_singleton] at hx; subst hx; exact HV.out)).mono ?_; rintro e w2 ⟨rfl, hb⟩; refine ⟨_, rfl, ?_⟩; have HB2 := Aside0.mk (below_step (below_alloc HB1.out _) hb); clear hb)
  go_end0
  exact ⟨rfl, HB2.out⟩
set_option maxRecDepth 100000 in
set_option maxHeartbeats 2000000 in
theorem right_bad (u pv o : Int) (gs : List Int) (G A : Option Addr) (cg c : Nat) (b : Bool) (l : List S37) (w : World) (hg : Kd.C (Kd.int .i64) w G gs.length gs) (hgc : gs.length ≤ cg) (ht : tokE u gs pv ≠ 0) :
    Calls Try.prog 70 #[.agg #[.int .i64 u, .slice G gs.length cg, .int .i64 pv], .agg #[.int .i64 o, .bool b, .slice A l.length c]] w fun e w' => e = .panicked [{ v := failV 1, recovered := false }] ∧ Below w.heap.size w w' := by
  have HG := Aside0.mk hg
  have HGC := Aside0.mk hgc
  have HT := Aside0.mk ht
  have hd : (tokE u gs pv == 0) = false := by simpa using ht
  clear hg hgc ht
  go_enter Try.func70, Try.ntmps70
  go_upto_region 1 with (fail)
  have hb_ := below_alloc (below_alloc (Below.refl _ w) (.cells #[.int .i64 u, .slice G gs.length cg, .int .i64 pv] 63)) (.cells #[.int .i64 o, .bool b, .slice A l.length c] 33)
  have hG0_ := blk_alloc (blk_lit0 w (.cells #[.int .i64 u, .slice G gs.length cg, .int .i64 pv] 63)) (.cells #[.int .i64 o, .bool b, .slice A l.length c] 33)
  have hG1_ := blk_lit w (.cells #[.int .i64 u, .slice G gs.length cg, .int .i64 pv] 63) (.cells #[.int .i64 o, .bool b, .slice A l.length c] 33)
  generalize ((w.alloc (.cells #[.int .i64 u, .slice G gs.length cg, .int .i64 pv] 63)).alloc (.cells #[.int .i64 o, .bool b, .slice A l.length c] 33)) = W at hb_ hG0_ hG1_ ⊢
  have HB_W := Aside0.mk hb_
  have W0 := Aside0.mk hG0_
  have W1 := Aside0.mk hG1_
  clear hb_ hG0_ hG1_
  have y0 := (blk_cell W0.out 0).trans rfl; have y1 := (blk_cell W0.out 1).trans rfl; have y2 := (blk_cell W0.out 2).trans rfl
  go_wp2_with (first | ((with_reducible refine gate_dst (N := 5) rfl ?_); refine goesL_ (some 5) rfl rfl Try.func84 (by kernel_rfl) rfl #[.agg #[.int .i64 u, .slice G gs.length cg, .int .i64 pv]] rfl (by (try simp only [List.map_toArray, List.map_cons, List.map_nil]); first | done | rfl) ?_; refine (acl_CheckToken.calls 100 u G cg gs pv _ _ (Kd.C_below HG.out HB_W.out) HGC.out (tok_is u gs pv)).mono ?_; rintro e w1 ⟨rfl, hb⟩; refine ⟨_, rfl, ?_⟩; have HB1 := Aside0.mk (below_step HB_W.out hb); clear hb) | ((with_reducible refine gate_dst (N := 7) rfl ?_); refine goesP (some 7) rfl rfl Try.func83 (by kernel_rfl) rfl #[.bool false, .int .i64 1] rfl (by (try simp only [List.map_toArray, List.map_cons, List.map_nil]); first | done | rfl) ?_; refine (want_false 1 _).mono ?_; rintro e w' ⟨rfl, rfl⟩; refine .inr ⟨_, rfl, ?_⟩))
  exact ⟨rfl, rfl, HB1.out⟩
set_option maxRecDepth 100000 in
set_option maxHeartbeats 2000000 in
theorem speaker_calls (u pv o : Int) (ng cg n c : Nat) (G A : Option Addr) (b : Bool) (w : World) :
    Calls Try.prog 106 #[.agg #[.int .i64 u, .slice G ng cg, .int .i64 pv], .agg #[.int .i64 o, .bool b, .slice A n c]] w fun e w' => e = .returned (.func (.func 108) #[] #[.pointer (some ⟨w.heap.size, 0, none⟩), .pointer (some ⟨w.heap.size + 1, 0, none⟩)]) ∧
      w' = (w.alloc (.cells #[.int .i64 u, .slice G ng cg, .int .i64 pv] 63)).alloc (.cells #[.int .i64 o, .bool b, .slice A n c] 33) := by
  go_enter Try.func106, Try.ntmps106
  go_wp2
  go_ret
  exact ⟨rfl, rfl⟩
theorem hasB_eq (f b : Int) : ((Go.bits .and .i64 f b) != 0) = hasB f b := rfl
set_option maxRecDepth 100000 in
set_option maxHeartbeats 2000000 in
theorem speaks_calls (u pv o : Int) (gs : List Int) (G A : Option Addr) (cg c n gt gd : Nat) (b : Bool) (x : S37) (w : World) (hgt : w.heap[gt]? = some (.cells #[.int .i64 u, .slice G gs.length cg, .int .i64 pv] 63 (0, 0))) (hgd : w.heap[gd]? = some (.cells #[.int .i64 o, .bool b, .slice A n c] 33 (0, 0))) (hg : Kd.C (Kd.int .i64) w G gs.length gs) (hgc : gs.length ≤ cg) (hm : gs.length ≤ 8) :
    Calls Try.prog 108 #[.agg #[.bool x.f0, .int .i64 x.f1, .int .i64 x.f2, .int .i64 x.f3], .pointer (some ⟨gt, 0, none⟩), .pointer (some ⟨gd, 0, none⟩)] w fun e w' => e = .returned (.bool (speaksB u gs o x)) ∧ Below w.heap.size w w' := by
  have HG := Aside0.mk hg
  have HGC := Aside0.mk hgc
  have HM := Aside0.mk hm
  have T0 := Aside0.mk hgt
  have D0 := Aside0.mk hgd
  have HS := Aside0.mk (show speaksB u gs o x = (!(hasB x.f3 4) && (x.f1 == 1 || (x.f1 == 2 && u == o) || x.f1 == u || conB gs x.f1)) from rfl)
  have HF := Aside0.mk (hasB_eq x.f3 4)
  clear hg hgc hm hgt hgd
  go_enter Try.func108, Try.ntmps108
  go_upto_region 1 with (fail)
  have hb_ := below_alloc (Below.refl _ w) (.cells #[.bool x.f0, .int .i64 x.f1, .int .i64 x.f2, .int .i64 x.f3] 37)
  have hG0_ := blk_lit0 w (.cells #[.bool x.f0, .int .i64 x.f1, .int .i64 x.f2, .int .i64 x.f3] 37)
  generalize (w.alloc (.cells #[.bool x.f0, .int .i64 x.f1, .int .i64 x.f2, .int .i64 x.f3] 37)) = W at hb_ hG0_ ⊢
  have HB_W := Aside0.mk hb_
  have W0 := Aside0.mk hG0_
  clear hb_ hG0_
  have T1 := Aside0.mk (blk_below T0.out HB_W.out)
  have D1 := Aside0.mk (blk_below D0.out HB_W.out)
  have x0 := (blk_cell W0.out 0).trans rfl; have x1 := (blk_cell W0.out 1).trans rfl; have x2 := (blk_cell W0.out 2).trans rfl; have x3 := (blk_cell W0.out 3).trans rfl
  have t0 := (blk_cell T1.out 0).trans rfl; have t1 := (blk_cell T1.out 1).trans rfl; have t2 := (blk_cell T1.out 2).trans rfl
  have d0 := (blk_cell D1.out 0).trans rfl; have d1 := (blk_cell D1.out 1).trans rfl; have d2 := (blk_cell D1.out 2).trans rfl
  cases hf : hasB x.f3 4 with
  | true =>
    have h1 : ((Go.bits .and .i64 x.f3 4) != 0) = true := hf
    rw [hf] at HS
    go_wp2
    go_ret
    exact ⟨by rw [HS.out]; rfl, HB_W.out⟩
  | false =>
    have h1 : ((Go.bits .and .i64 x.f3 4) != 0) = false := hf
    rw [hf] at HS
    cases he : x.f1 == 1 with
    | true =>
      rw [he] at HS
      go_wp2
      go_ret
      exact ⟨by rw [HS.out]; rfl, HB_W.out⟩
    | false =>
      rw [he] at HS
      cases hu : x.f1 == u with
      | true =>
        rw [hu] at HS
        cases h2 : x.f1 == 2 with
        | true =>
          rw [h2] at HS
          cases h3 : u == o with
          | true =>
            rw [h3] at HS
            go_wp2
            go_ret
            exact ⟨by rw [HS.out]; rfl, HB_W.out⟩
          | false =>
            rw [h3] at HS
            go_wp2
            go_ret
            exact ⟨by rw [HS.out]; rfl, HB_W.out⟩
        | false =>
          rw [h2] at HS
          go_wp2
          go_ret
          exact ⟨by rw [HS.out]; rfl, HB_W.out⟩
      | false =>
        rw [hu] at HS
        cases h2 : x.f1 == 2 with
        | true =>
          rw [h2] at HS
          cases h3 : u == o with
          | true =>
            rw [h3] at HS
            go_wp2
            go_ret
            exact ⟨by rw [HS.out]; rfl, HB_W.out⟩
          | false =>
            rw [h3] at HS
            go_wp2_with (go_at_call 109; refine (slices_Contains_int_int.calls 20 G cg gs x.f1 _ _ (Kd.C_below HG.out HB_W.out) HGC.out (con_some gs x.f1 HM.out)).mono ?_; rintro e w1 ⟨rfl, hb⟩; have HB1 := Aside0.mk (below_step HB_W.out hb.below); clear hb)
            go_ret
            exact ⟨by rw [HS.out]; simp, HB1.out⟩
        | false =>
          rw [h2] at HS
          go_wp2_with (go_at_call 109; refine (slices_Contains_int_int.calls 20 G cg gs x.f1 _ _ (Kd.C_below HG.out HB_W.out) HGC.out (con_some gs x.f1 HM.out)).mono ?_; rintro e w1 ⟨rfl, hb⟩; have HB1 := Aside0.mk (below_step HB_W.out hb.below); clear hb)
          go_ret
          exact ⟨by rw [HS.out]; simp, HB1.out⟩
end Go.Proofs.Ytgocgjfaiddejaa.M
