/- The reference's Ordered. -/
import Derived.Test.YtgocgjfaiddejaaQG
import Derived.Test.YtgocgjfaiddejaaHG
namespace Go.Proofs.Ytgocgjfaiddejaa.M
open Go.RowKit Go.Proofs.YtgocgjfaiddejaaW.PrintWords Go.Proofs.YtgocgjfaiddejaaW.PrintLast Go.Proofs.YtgocgjfaiddejaaW.PrintMore
set_option linter.unusedVariables false
set_option linter.unusedSimpArgs false
set_option linter.unnecessarySimpa false

theorem rordered_end {ts : Array Value} {a : Bool} {b : Int} {W : World} (h1 : ts.getD 2 undef = .bool a) (h2 : ts.getD 3 undef = .int .i64 b) : (results Try.f46 ts).run Try.prog W = .ok (.tuple #[.bool a, .int .i64 b]) W := by
  have := results_list (P := Try.prog) (w := W) (tmps := ts) (fn := Try.f46) (rs := [.tmp 2, .tmp 3]) rfl (by simp) (.tmp (.tmp .nil))
  rw [h1, h2] at this
  exact this
set_option maxRecDepth 100000 in
set_option maxHeartbeats 2000000 in
theorem rOrdered_calls (d : S33) (A : Option Addr) (c : Nat) (w : World) (hr : k37.C w A d.f2.length d.f2) (hc : d.f2.length ≤ c) :
    Calls Try.prog 46 #[.agg #[.int .i64 d.f0, .bool d.f1, .slice A d.f2.length c]] w fun e w' => e = .returned (.tuple #[.bool (sOrdered d).1, .int .i64 (sOrdered d).2]) ∧ Below w.heap.size w w' := by
  have HR := Aside0.mk hr
  have HC := Aside0.mk hc
  clear hr hc
  cases hv : vDesc d.f0 d.f2 with
  | false =>
    have HO := Aside0.mk (show sOrder ⟨d.f0, d.f1, d.f2⟩ = (z33, 1) by unfold sOrder; rw [if_neg (by unfold vD; rw [hv]; simp)])
    have HS := Aside0.mk (show sOrdered d = (false, 1) by unfold sOrdered; rw [if_neg (by unfold vD; rw [hv]; simp)])
    clear hv
    go_enter Try.func46, Try.ntmps46
    go_upto_region 1 with (fail)
    have hb_ := below_alloc (Below.refl _ w) (.cells #[.int .i64 d.f0, .bool d.f1, .slice A d.f2.length c] 33)
    have hG0_ := blk_lit0 w (.cells #[.int .i64 d.f0, .bool d.f1, .slice A d.f2.length c] 33)
    generalize (w.alloc (.cells #[.int .i64 d.f0, .bool d.f1, .slice A d.f2.length c] 33)) = W at hb_ hG0_ ⊢
    have HB_W := Aside0.mk hb_
    have W0 := Aside0.mk hG0_
    clear hb_ hG0_
    have y0 := (blk_cell W0.out 0).trans rfl; have y1 := (blk_cell W0.out 1).trans rfl; have y2 := (blk_cell W0.out 2).trans rfl
    go_wp2_with ((with_reducible refine gate_dst (N := 8) rfl ?_); refine goesL_ (some 8) rfl rfl Try.func44 (by kernel_rfl) rfl #[.agg #[.int .i64 d.f0, .bool d.f1, .slice A d.f2.length c]] rfl (by (try simp only [List.map_toArray, List.map_cons, List.map_nil]); first | done | rfl) ?_; have hq := rOrder_calls d.f0 d.f1 A c d.f2 _ (Kd.C_below HR.out HB_W.out) HC.out; rw [HO.out] at hq; refine hq.mono ?_; rintro e w1 ⟨v, rfl, hra, hb⟩; refine ⟨_, rfl, ?_⟩; have HB1 := Aside0.mk (below_step HB_W.out hb); obtain ⟨A3, c3, rfl⟩ := Kd.R_slice hra; clear hra hb hq y0 y1 y2)
    rw [HS.out]
    refine bodyPost_ret (rordered_end (by rfl) (by rfl)) rfl ⟨rfl, ?_⟩
    exact below_alloc HB1.out _
  | true =>
    have HO := Aside0.mk (show sOrder ⟨d.f0, d.f1, d.f2⟩ = (⟨d.f0, d.f1, ordL d.f2⟩, 0) by unfold sOrder; rw [if_pos (show vD ⟨d.f0, d.f1, d.f2⟩ = true from hv)])
    have HS := Aside0.mk (show sOrdered d = (decide (ordL d.f2 = d.f2), 0) by unfold sOrdered; rw [if_pos (show vD d = true from hv)])
    clear hv
    go_enter Try.func46, Try.ntmps46
    go_upto_region 1 with (fail)
    have hb_ := below_alloc (Below.refl _ w) (.cells #[.int .i64 d.f0, .bool d.f1, .slice A d.f2.length c] 33)
    have hG0_ := blk_lit0 w (.cells #[.int .i64 d.f0, .bool d.f1, .slice A d.f2.length c] 33)
    generalize (w.alloc (.cells #[.int .i64 d.f0, .bool d.f1, .slice A d.f2.length c] 33)) = W at hb_ hG0_ ⊢
    have HB_W := Aside0.mk hb_
    have W0 := Aside0.mk hG0_
    clear hb_ hG0_
    have y0 := (blk_cell W0.out 0).trans rfl; have y1 := (blk_cell W0.out 1).trans rfl; have y2 := (blk_cell W0.out 2).trans rfl
    go_upto_region 2 with ((with_reducible refine gate_dst (N := 8) rfl ?_); refine goesL_ (some 8) rfl rfl Try.func44 (by kernel_rfl) rfl #[.agg #[.int .i64 d.f0, .bool d.f1, .slice A d.f2.length c]] rfl (by (try simp only [List.map_toArray, List.map_cons, List.map_nil]); first | done | rfl) ?_; have hq := rOrder_calls d.f0 d.f1 A c d.f2 _ (Kd.C_below HR.out HB_W.out) HC.out; rw [HO.out] at hq; refine hq.mono ?_; rintro e w1 ⟨v, rfl, hra, hb⟩; refine ⟨_, rfl, ?_⟩; replace hra : RA w1 _ v (ordL d.f2) := hra; dsimp only; have HB1 := Aside0.mk (below_step HB_W.out hb); have X1 := Aside0.mk (blk_below W0.out hb); obtain ⟨A3, c3, rfl⟩ := Kd.R_slice hra; have HO1 := Aside0.mk (Kd.R_reads' hra).2; clear hra hb hq y0 y1 y2)
    have hb_ := below_alloc (Below.refl _ w1) (.cells #[.int .i64 d.f0, .bool d.f1, .slice A3 (ordL d.f2).length c3] 33)
    have hG0_ := blk_lit0 w1 (.cells #[.int .i64 d.f0, .bool d.f1, .slice A3 (ordL d.f2).length c3] 33)
    generalize (w1.alloc (.cells #[.int .i64 d.f0, .bool d.f1, .slice A3 (ordL d.f2).length c3] 33)) = V at hb_ hG0_ ⊢
    have HB_V := Aside0.mk hb_
    have V0 := Aside0.mk hG0_
    clear hb_ hG0_
    have X2 := Aside0.mk (blk_below X1.out HB_V.out)
    have HB2 := Aside0.mk (below_step HB1.out HB_V.out)
    have y0 := (blk_cell X2.out 0).trans rfl; have y1 := (blk_cell X2.out 1).trans rfl; have y2 := (blk_cell X2.out 2).trans rfl
    have z0 := (blk_cell V0.out 0).trans rfl; have z1 := (blk_cell V0.out 1).trans rfl; have z2 := (blk_cell V0.out 2).trans rfl
    go_wp2_with ((with_reducible refine gate_dst (N := 16) rfl ?_); refine goesL_ (some 16) rfl rfl Try.func29 (by kernel_rfl) rfl #[.agg #[.int .i64 d.f0, .bool d.f1, .slice A3 (ordL d.f2).length c3], .agg #[.int .i64 d.f0, .bool d.f1, .slice A d.f2.length c]] rfl (by (try simp only [List.map_toArray, List.map_cons, List.map_nil]); first | done | rfl) ?_; refine (Same_calls d.f0 d.f0 d.f1 d.f1 A3 A c3 c (ordL d.f2) d.f2 _ (Kd.C_below HO1.out.2 HB_V.out) HO1.out.1 (Kd.C_below HR.out HB2.out) HC.out).mono ?_; rintro e w3 ⟨rfl, hb⟩; refine ⟨_, rfl, ?_⟩; have HB3 := Aside0.mk (below_step HB2.out hb); clear hb)
    rw [HS.out]
    refine bodyPost_ret (rordered_end (by rfl) (by rfl)) rfl ⟨by simp, HB3.out⟩
end Go.Proofs.Ytgocgjfaiddejaa.M
