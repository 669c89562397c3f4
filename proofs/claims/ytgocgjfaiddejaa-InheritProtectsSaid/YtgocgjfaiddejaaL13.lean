/- InheritProtects: its walk. -/
import Derived.Test.YtgocgjfaiddejaaGG
import Derived.Test.YtgocgjfaiddejaaGP
namespace Go.Proofs.Ytgocgjfaiddejaa.M
open Go.RowKit Go.Proofs.YtgocgjfaiddejaaW.PrintWords Go.Proofs.YtgocgjfaiddejaaW.PrintLast Go.Proofs.YtgocgjfaiddejaaW.PrintMore
set_option linter.unusedVariables false
set_option linter.unusedSimpArgs false
set_option linter.unnecessarySimpa false

set_option maxRecDepth 100000 in
set_option maxHeartbeats 2000000 in
theorem protects_bad (u pv : Int) (gs : List Int) (G : Option Addr) (cg : Nat) (A : Option Addr) (c : Nat) (p : S33) (A2 : Option Addr) (c2 : Nat) (d : S33) (dir : Bool) (w : World) (hg : Kd.C (Kd.int .i64) w G gs.length gs) (hgc : gs.length ≤ cg) (hc : p.f2.length ≤ c) (hr : k37.C w A p.f2.length p.f2) (hc2 : d.f2.length ≤ c2) (hr2 : k37.C w A2 d.f2.length d.f2) (hp : sProtect d true = (z33, 1)) :
    Calls Try.prog 13 #[.agg #[.int .i64 u, .slice G gs.length cg, .int .i64 pv], .agg #[.int .i64 p.f0, .bool p.f1, .slice A p.f2.length c], .agg #[.int .i64 d.f0, .bool d.f1, .slice A2 d.f2.length c2], .bool dir] w fun e w' => e = .returned (.bool true) ∧ Below w.heap.size w w' := by
  have HG := Aside0.mk hg
  have HGC := Aside0.mk hgc
  have HR := Aside0.mk hr
  have HC := Aside0.mk hc
  have HR2 := Aside0.mk hr2
  have HC2 := Aside0.mk hc2
  have HPR := Aside0.mk hp
  clear hg hgc hr hc hr2 hc2 hp
  go_enter Try.func13, Try.ntmps13
  go_upto_region 1 with (fail)
  have hb_ := below_alloc (below_alloc (below_alloc (Below.refl _ w) (.cells #[.int .i64 u, .slice G gs.length cg, .int .i64 pv] 63)) (.cells #[.int .i64 p.f0, .bool p.f1, .slice A p.f2.length c] 33)) (.cells #[.int .i64 d.f0, .bool d.f1, .slice A2 d.f2.length c2] 33)
  have hG0_ := blk_alloc (blk_alloc (blk_lit0 w (.cells #[.int .i64 u, .slice G gs.length cg, .int .i64 pv] 63)) (.cells #[.int .i64 p.f0, .bool p.f1, .slice A p.f2.length c] 33)) (.cells #[.int .i64 d.f0, .bool d.f1, .slice A2 d.f2.length c2] 33)
  have hG1_ := blk_alloc (blk_lit w (.cells #[.int .i64 u, .slice G gs.length cg, .int .i64 pv] 63) (.cells #[.int .i64 p.f0, .bool p.f1, .slice A p.f2.length c] 33)) (.cells #[.int .i64 d.f0, .bool d.f1, .slice A2 d.f2.length c2] 33)
  have hG2_ := blk_lit2 w (.cells #[.int .i64 u, .slice G gs.length cg, .int .i64 pv] 63) (.cells #[.int .i64 p.f0, .bool p.f1, .slice A p.f2.length c] 33) (.cells #[.int .i64 d.f0, .bool d.f1, .slice A2 d.f2.length c2] 33)
  generalize (((w.alloc (.cells #[.int .i64 u, .slice G gs.length cg, .int .i64 pv] 63)).alloc (.cells #[.int .i64 p.f0, .bool p.f1, .slice A p.f2.length c] 33)).alloc (.cells #[.int .i64 d.f0, .bool d.f1, .slice A2 d.f2.length c2] 33)) = W at hb_ hG0_ hG1_ hG2_ ⊢
  have HB_W := Aside0.mk hb_
  have W0 := Aside0.mk hG0_
  have W1 := Aside0.mk hG1_
  have W2 := Aside0.mk hG2_
  clear hb_ hG0_ hG1_ hG2_
  have TB_0 := W0
  have PB_0 := W1
  have DB_0 := W2
  clear W0 W1 W2
  have y0 := (blk_cell DB_0.out 0).trans rfl; have y1 := (blk_cell DB_0.out 1).trans rfl; have y2 := (blk_cell DB_0.out 2).trans rfl
  go_wp2_with (first | ((with_reducible refine gate_dst (N := 23) rfl ?_); refine goesL_ (some 23) rfl rfl Try.func39 (by kernel_rfl) rfl #[.agg #[.int .i64 d.f0, .bool d.f1, .slice A2 d.f2.length c2], .bool true] rfl (by (try simp only [List.map_toArray, List.map_cons, List.map_nil]); first | done | rfl) ?_; have hq := Protect_calls d A2 c2 _ (Kd.C_below HR2.out HB_W.out) HC2.out true; rw [HPR.out] at hq; refine hq.mono ?_; rintro e w1 ⟨v, rfl, hra, hb⟩; refine ⟨_, rfl, ?_⟩; dsimp only [z33]; obtain ⟨XA, Xc, rfl⟩ := Kd.R_slice hra; have HB1 := Aside0.mk (below_alloc (below_step HB_W.out hb) (.cells #[.int .i64 0, .bool false, .slice XA 0 Xc] 33)); clear hra hb hq y0 y1 y2) | ((with_reducible refine gate_dst (N := 28) rfl ?_); refine goesL_ (some 28) rfl rfl Try.func15 (by kernel_rfl) rfl #[] rfl (by (try simp only [List.map_toArray, List.map_cons, List.map_nil]); first | done | rfl) ?_; refine (sane_calls _).mono ?_; rintro e w2 ⟨rfl, hb⟩; refine ⟨_, rfl, ?_⟩; have HB2 := Aside0.mk (below_step HB1.out hb); clear hb))
  go_ret
  exact ⟨rfl, HB2.out⟩
set_option maxRecDepth 100000 in
set_option maxHeartbeats 2000000 in
theorem protects_closed1 (u pv : Int) (gs : List Int) (G : Option Addr) (cg : Nat) (A : Option Addr) (c : Nat) (p : S33) (A2 : Option Addr) (c2 : Nat) (d : S33) (dir : Bool) (w : World) (hg : Kd.C (Kd.int .i64) w G gs.length gs) (hgc : gs.length ≤ cg) (hc : p.f2.length ≤ c) (hr : k37.C w A p.f2.length p.f2) (hc2 : d.f2.length ≤ c2) (hr2 : k37.C w A2 d.f2.length d.f2) (hv : vDesc d.f0 d.f2 = true) (gm ge : Int) (kl : List S37) (hkv : vDesc d.f0 kl = true) (hkl : kl.length = d.f2.length) (hp : sProtect d true = (⟨d.f0, true, kl⟩, 0)) (hgr : sGranted u gs pv d.f0 d.f2 = (gm, ge)) (hgr2 : sGranted u gs pv d.f0 kl = (gm, ge)) (hn : sOpen p d dir = (z33, 1)) :
    Calls Try.prog 13 #[.agg #[.int .i64 u, .slice G gs.length cg, .int .i64 pv], .agg #[.int .i64 p.f0, .bool p.f1, .slice A p.f2.length c], .agg #[.int .i64 d.f0, .bool d.f1, .slice A2 d.f2.length c2], .bool dir] w fun e w' => e = .returned (.bool true) ∧ Below w.heap.size w w' := by
  have HG := Aside0.mk hg
  have HGC := Aside0.mk hgc
  have HR := Aside0.mk hr
  have HC := Aside0.mk hc
  have HR2 := Aside0.mk hr2
  have HC2 := Aside0.mk hc2
  have HPR := Aside0.mk hp
  have HGR := Aside0.mk hgr
  have HGR2 := Aside0.mk hgr2
  have HV := Aside0.mk hv
  have HV2 := Aside0.mk hkv
  have HEQ := Aside0.mk hkl
  clear hp hgr hgr2 hv hkv hkl
  have HOP := Aside0.mk hn
  clear hn
  clear hg hgc hr hc hr2 hc2
  go_enter Try.func13, Try.ntmps13
  go_upto_region 1 with (fail)
  have hb_ := below_alloc (below_alloc (below_alloc (Below.refl _ w) (.cells #[.int .i64 u, .slice G gs.length cg, .int .i64 pv] 63)) (.cells #[.int .i64 p.f0, .bool p.f1, .slice A p.f2.length c] 33)) (.cells #[.int .i64 d.f0, .bool d.f1, .slice A2 d.f2.length c2] 33)
  have hG0_ := blk_alloc (blk_alloc (blk_lit0 w (.cells #[.int .i64 u, .slice G gs.length cg, .int .i64 pv] 63)) (.cells #[.int .i64 p.f0, .bool p.f1, .slice A p.f2.length c] 33)) (.cells #[.int .i64 d.f0, .bool d.f1, .slice A2 d.f2.length c2] 33)
  have hG1_ := blk_alloc (blk_lit w (.cells #[.int .i64 u, .slice G gs.length cg, .int .i64 pv] 63) (.cells #[.int .i64 p.f0, .bool p.f1, .slice A p.f2.length c] 33)) (.cells #[.int .i64 d.f0, .bool d.f1, .slice A2 d.f2.length c2] 33)
  have hG2_ := blk_lit2 w (.cells #[.int .i64 u, .slice G gs.length cg, .int .i64 pv] 63) (.cells #[.int .i64 p.f0, .bool p.f1, .slice A p.f2.length c] 33) (.cells #[.int .i64 d.f0, .bool d.f1, .slice A2 d.f2.length c2] 33)
  generalize (((w.alloc (.cells #[.int .i64 u, .slice G gs.length cg, .int .i64 pv] 63)).alloc (.cells #[.int .i64 p.f0, .bool p.f1, .slice A p.f2.length c] 33)).alloc (.cells #[.int .i64 d.f0, .bool d.f1, .slice A2 d.f2.length c2] 33)) = W at hb_ hG0_ hG1_ hG2_ ⊢
  have HB_W := Aside0.mk hb_
  have W0 := Aside0.mk hG0_
  have W1 := Aside0.mk hG1_
  have W2 := Aside0.mk hG2_
  clear hb_ hG0_ hG1_ hG2_
  have TB_0 := W0
  have PB_0 := W1
  have DB_0 := W2
  clear W0 W1 W2
  have y0 := (blk_cell DB_0.out 0).trans rfl; have y1 := (blk_cell DB_0.out 1).trans rfl; have y2 := (blk_cell DB_0.out 2).trans rfl
  go_upto_region 4 with ((with_reducible refine gate_dst (N := 23) rfl ?_); refine goesL_ (some 23) rfl rfl Try.func39 (by kernel_rfl) rfl #[.agg #[.int .i64 d.f0, .bool d.f1, .slice A2 d.f2.length c2], .bool true] rfl (by (try simp only [List.map_toArray, List.map_cons, List.map_nil]); first | done | rfl) ?_; have hq := Protect_calls d A2 c2 _ (Kd.C_below HR2.out HB_W.out) HC2.out true; rw [HPR.out] at hq; refine hq.mono ?_; rintro e w1 ⟨v, rfl, hra, hb⟩; refine ⟨_, rfl, ?_⟩; replace hra : RA w1 _ v kl := hra; dsimp only; obtain ⟨XA, Xc, rfl⟩ := Kd.R_slice hra; have HB1 := Aside0.mk (below_step HB_W.out hb); have TB_1 := Aside0.mk (blk_below TB_0.out hb); have PB_1 := Aside0.mk (blk_below PB_0.out hb); have DB_1 := Aside0.mk (blk_below DB_0.out hb); clear TB_0 PB_0 DB_0; have X_0 := Aside0.mk (Kd.R_reads' hra).2.2; have XL := Aside0.mk (Kd.R_reads' hra).2.1; clear hra hb hq y0 y1 y2)
  have hb_ := below_alloc (Below.refl _ w1) (.cells #[.int .i64 d.f0, .bool true, .slice XA kl.length Xc] 33)
  have hG0_ := blk_lit0 w1 (.cells #[.int .i64 d.f0, .bool true, .slice XA kl.length Xc] 33)
  generalize (w1.alloc (.cells #[.int .i64 d.f0, .bool true, .slice XA kl.length Xc] 33)) = V at hb_ hG0_ ⊢
  have HB_V := Aside0.mk hb_
  have V0 := Aside0.mk hG0_
  clear hb_ hG0_
  have TB_2 := Aside0.mk (blk_below TB_1.out HB_V.out)
  have PB_2 := Aside0.mk (blk_below PB_1.out HB_V.out)
  have DB_2 := Aside0.mk (blk_below DB_1.out HB_V.out)
  have X_2 := Aside0.mk (Kd.C_below X_0.out HB_V.out)
  clear TB_1 PB_1 DB_1 X_0
  have HBV := Aside0.mk (below_step HB1.out HB_V.out)
  have t0 := (blk_cell TB_2.out 0).trans rfl; have t1 := (blk_cell TB_2.out 1).trans rfl; have t2 := (blk_cell TB_2.out 2).trans rfl
  have y0 := (blk_cell DB_2.out 0).trans rfl; have y1 := (blk_cell DB_2.out 1).trans rfl; have y2 := (blk_cell DB_2.out 2).trans rfl
  go_upto_region 5 with ((with_reducible refine gate_dst (N := 32) rfl ?_); refine goesL_ (some 32) rfl rfl Try.func47 (by kernel_rfl) rfl #[.agg #[.int .i64 u, .slice G gs.length cg, .int .i64 pv], .agg #[.int .i64 d.f0, .bool d.f1, .slice A2 d.f2.length c2]] rfl (by (try simp only [List.map_toArray, List.map_cons, List.map_nil]); first | done | rfl) ?_; have hq := Granted_calls u pv d.f0 gs G A2 cg c2 d.f1 d.f2 _ (Kd.C_below HG.out HBV.out) HGC.out (Kd.C_below HR2.out HBV.out) HC2.out HV.out; rw [HGR.out] at hq; refine hq.mono ?_; rintro e w2 ⟨rfl, hb⟩; refine ⟨_, rfl, ?_⟩; dsimp only; have HB2 := Aside0.mk (below_step HBV.out hb); have TB_3 := Aside0.mk (blk_below TB_2.out hb); have PB_3 := Aside0.mk (blk_below PB_2.out hb); have DB_3 := Aside0.mk (blk_below DB_2.out hb); have X_3 := Aside0.mk (Kd.C_below X_2.out hb); have XB_3 := Aside0.mk (blk_below V0.out hb); clear TB_2 PB_2 DB_2 X_2 V0; clear hb hq t0 t1 t2 y0 y1 y2)
  have t0 := (blk_cell TB_3.out 0).trans rfl; have t1 := (blk_cell TB_3.out 1).trans rfl; have t2 := (blk_cell TB_3.out 2).trans rfl
  have x0 := (blk_cell XB_3.out 0).trans rfl; have x1 := (blk_cell XB_3.out 1).trans rfl; have x2 := (blk_cell XB_3.out 2).trans rfl
  go_upto_region 6 with ((with_reducible refine gate_dst (N := 38) rfl ?_); refine goesL_ (some 38) rfl rfl Try.func47 (by kernel_rfl) rfl #[.agg #[.int .i64 u, .slice G gs.length cg, .int .i64 pv], .agg #[.int .i64 d.f0, .bool true, .slice XA kl.length Xc]] rfl (by (try simp only [List.map_toArray, List.map_cons, List.map_nil]); first | done | rfl) ?_; have hq := Granted_calls u pv d.f0 gs G XA cg Xc true kl _ (Kd.C_below HG.out HB2.out) HGC.out X_3.out XL.out HV2.out; rw [HGR2.out] at hq; refine hq.mono ?_; rintro e w3 ⟨rfl, hb⟩; refine ⟨_, rfl, ?_⟩; dsimp only; have HB3 := Aside0.mk (below_step HB2.out hb); have TB_4 := Aside0.mk (blk_below TB_3.out hb); have PB_4 := Aside0.mk (blk_below PB_3.out hb); have DB_4 := Aside0.mk (blk_below DB_3.out hb); have X_4 := Aside0.mk (Kd.C_below X_3.out hb); have XB_4 := Aside0.mk (blk_below XB_3.out hb); clear TB_3 PB_3 DB_3 X_3 XB_3; clear hb hq t0 t1 t2 x0 x1 x2)
  have x0 := (blk_cell XB_4.out 0).trans rfl; have x1 := (blk_cell XB_4.out 1).trans rfl; have x2 := (blk_cell XB_4.out 2).trans rfl
  have y0 := (blk_cell DB_4.out 0).trans rfl; have y1 := (blk_cell DB_4.out 1).trans rfl; have y2 := (blk_cell DB_4.out 2).trans rfl
  have h8 : ((kl.length : Int) != (d.f2.length : Int)) = false := by rw [HEQ.out]; simp
  go_upto_region 8 with (fail)
  clear h8 x0 x1 x2 y0 y1 y2
  have x0 := (blk_cell PB_4.out 0).trans rfl; have x1 := (blk_cell PB_4.out 1).trans rfl; have x2 := (blk_cell PB_4.out 2).trans rfl
  have y0 := (blk_cell DB_4.out 0).trans rfl; have y1 := (blk_cell DB_4.out 1).trans rfl; have y2 := (blk_cell DB_4.out 2).trans rfl
  go_wp2_with (first | ((with_reducible refine gate_dst (N := 67) rfl ?_); refine goesL_ (some 67) rfl rfl Try.func41 (by kernel_rfl) rfl #[.agg #[.int .i64 p.f0, .bool p.f1, .slice A p.f2.length c], .agg #[.int .i64 d.f0, .bool d.f1, .slice A2 d.f2.length c2], .bool dir] rfl (by (try simp only [List.map_toArray, List.map_cons, List.map_nil]); first | done | rfl) ?_; have hq := Open_calls p d A A2 c c2 dir _ (Kd.C_below HR.out HB3.out) HC.out (Kd.C_below HR2.out HB3.out) HC2.out; rw [HOP.out] at hq; refine hq.mono ?_; rintro e w4 ⟨v, rfl, hra, hb⟩; refine ⟨_, rfl, ?_⟩; dsimp only [z33]; obtain ⟨MA, Mc, rfl⟩ := Kd.R_slice hra; have HB4 := Aside0.mk (below_alloc (below_step HB3.out hb) (.cells #[.int .i64 0, .bool false, .slice MA 0 Mc] 33)); clear hra hb hq x0 x1 x2 y0 y1 y2) | ((with_reducible refine gate_dst (N := 72) rfl ?_); refine goesL_ (some 72) rfl rfl Try.func15 (by kernel_rfl) rfl #[] rfl (by (try simp only [List.map_toArray, List.map_cons, List.map_nil]); first | done | rfl) ?_; refine (sane_calls _).mono ?_; rintro e w5 ⟨rfl, hb⟩; refine ⟨_, rfl, ?_⟩; have HB5 := Aside0.mk (below_step HB4.out hb); clear hb))
  go_ret
  exact ⟨rfl, HB5.out⟩
set_option maxRecDepth 100000 in
set_option maxHeartbeats 2000000 in
theorem protects_closed2 (u pv : Int) (gs : List Int) (G : Option Addr) (cg : Nat) (A : Option Addr) (c : Nat) (p : S33) (A2 : Option Addr) (c2 : Nat) (d : S33) (dir : Bool) (w : World) (hg : Kd.C (Kd.int .i64) w G gs.length gs) (hgc : gs.length ≤ cg) (hc : p.f2.length ≤ c) (hr : k37.C w A p.f2.length p.f2) (hc2 : d.f2.length ≤ c2) (hr2 : k37.C w A2 d.f2.length d.f2) (hv : vDesc d.f0 d.f2 = true) (gm ge : Int) (kl : List S37) (hkv : vDesc d.f0 kl = true) (hkl : kl.length = d.f2.length) (hp : sProtect d true = (⟨d.f0, true, kl⟩, 0)) (hgr : sGranted u gs pv d.f0 d.f2 = (gm, ge)) (hgr2 : sGranted u gs pv d.f0 kl = (gm, ge)) (hn : sOpen p d dir = (z33, 2)) :
    Calls Try.prog 13 #[.agg #[.int .i64 u, .slice G gs.length cg, .int .i64 pv], .agg #[.int .i64 p.f0, .bool p.f1, .slice A p.f2.length c], .agg #[.int .i64 d.f0, .bool d.f1, .slice A2 d.f2.length c2], .bool dir] w fun e w' => e = .returned (.bool true) ∧ Below w.heap.size w w' := by
  have HG := Aside0.mk hg
  have HGC := Aside0.mk hgc
  have HR := Aside0.mk hr
  have HC := Aside0.mk hc
  have HR2 := Aside0.mk hr2
  have HC2 := Aside0.mk hc2
  have HPR := Aside0.mk hp
  have HGR := Aside0.mk hgr
  have HGR2 := Aside0.mk hgr2
  have HV := Aside0.mk hv
  have HV2 := Aside0.mk hkv
  have HEQ := Aside0.mk hkl
  clear hp hgr hgr2 hv hkv hkl
  have HOP := Aside0.mk hn
  clear hn
  clear hg hgc hr hc hr2 hc2
  go_enter Try.func13, Try.ntmps13
  go_upto_region 1 with (fail)
  have hb_ := below_alloc (below_alloc (below_alloc (Below.refl _ w) (.cells #[.int .i64 u, .slice G gs.length cg, .int .i64 pv] 63)) (.cells #[.int .i64 p.f0, .bool p.f1, .slice A p.f2.length c] 33)) (.cells #[.int .i64 d.f0, .bool d.f1, .slice A2 d.f2.length c2] 33)
  have hG0_ := blk_alloc (blk_alloc (blk_lit0 w (.cells #[.int .i64 u, .slice G gs.length cg, .int .i64 pv] 63)) (.cells #[.int .i64 p.f0, .bool p.f1, .slice A p.f2.length c] 33)) (.cells #[.int .i64 d.f0, .bool d.f1, .slice A2 d.f2.length c2] 33)
  have hG1_ := blk_alloc (blk_lit w (.cells #[.int .i64 u, .slice G gs.length cg, .int .i64 pv] 63) (.cells #[.int .i64 p.f0, .bool p.f1, .slice A p.f2.length c] 33)) (.cells #[.int .i64 d.f0, .bool d.f1, .slice A2 d.f2.length c2] 33)
  have hG2_ := blk_lit2 w (.cells #[.int .i64 u, .slice G gs.length cg, .int .i64 pv] 63) (.cells #[.int .i64 p.f0, .bool p.f1, .slice A p.f2.length c] 33) (.cells #[.int .i64 d.f0, .bool d.f1, .slice A2 d.f2.length c2] 33)
  generalize (((w.alloc (.cells #[.int .i64 u, .slice G gs.length cg, .int .i64 pv] 63)).alloc (.cells #[.int .i64 p.f0, .bool p.f1, .slice A p.f2.length c] 33)).alloc (.cells #[.int .i64 d.f0, .bool d.f1, .slice A2 d.f2.length c2] 33)) = W at hb_ hG0_ hG1_ hG2_ ⊢
  have HB_W := Aside0.mk hb_
  have W0 := Aside0.mk hG0_
  have W1 := Aside0.mk hG1_
  have W2 := Aside0.mk hG2_
  clear hb_ hG0_ hG1_ hG2_
  have TB_0 := W0
  have PB_0 := W1
  have DB_0 := W2
  clear W0 W1 W2
  have y0 := (blk_cell DB_0.out 0).trans rfl; have y1 := (blk_cell DB_0.out 1).trans rfl; have y2 := (blk_cell DB_0.out 2).trans rfl
  go_upto_region 4 with ((with_reducible refine gate_dst (N := 23) rfl ?_); refine goesL_ (some 23) rfl rfl Try.func39 (by kernel_rfl) rfl #[.agg #[.int .i64 d.f0, .bool d.f1, .slice A2 d.f2.length c2], .bool true] rfl (by (try simp only [List.map_toArray, List.map_cons, List.map_nil]); first | done | rfl) ?_; have hq := Protect_calls d A2 c2 _ (Kd.C_below HR2.out HB_W.out) HC2.out true; rw [HPR.out] at hq; refine hq.mono ?_; rintro e w1 ⟨v, rfl, hra, hb⟩; refine ⟨_, rfl, ?_⟩; replace hra : RA w1 _ v kl := hra; dsimp only; obtain ⟨XA, Xc, rfl⟩ := Kd.R_slice hra; have HB1 := Aside0.mk (below_step HB_W.out hb); have TB_1 := Aside0.mk (blk_below TB_0.out hb); have PB_1 := Aside0.mk (blk_below PB_0.out hb); have DB_1 := Aside0.mk (blk_below DB_0.out hb); clear TB_0 PB_0 DB_0; have X_0 := Aside0.mk (Kd.R_reads' hra).2.2; have XL := Aside0.mk (Kd.R_reads' hra).2.1; clear hra hb hq y0 y1 y2)
  have hb_ := below_alloc (Below.refl _ w1) (.cells #[.int .i64 d.f0, .bool true, .slice XA kl.length Xc] 33)
  have hG0_ := blk_lit0 w1 (.cells #[.int .i64 d.f0, .bool true, .slice XA kl.length Xc] 33)
  generalize (w1.alloc (.cells #[.int .i64 d.f0, .bool true, .slice XA kl.length Xc] 33)) = V at hb_ hG0_ ⊢
  have HB_V := Aside0.mk hb_
  have V0 := Aside0.mk hG0_
  clear hb_ hG0_
  have TB_2 := Aside0.mk (blk_below TB_1.out HB_V.out)
  have PB_2 := Aside0.mk (blk_below PB_1.out HB_V.out)
  have DB_2 := Aside0.mk (blk_below DB_1.out HB_V.out)
  have X_2 := Aside0.mk (Kd.C_below X_0.out HB_V.out)
  clear TB_1 PB_1 DB_1 X_0
  have HBV := Aside0.mk (below_step HB1.out HB_V.out)
  have t0 := (blk_cell TB_2.out 0).trans rfl; have t1 := (blk_cell TB_2.out 1).trans rfl; have t2 := (blk_cell TB_2.out 2).trans rfl
  have y0 := (blk_cell DB_2.out 0).trans rfl; have y1 := (blk_cell DB_2.out 1).trans rfl; have y2 := (blk_cell DB_2.out 2).trans rfl
  go_upto_region 5 with ((with_reducible refine gate_dst (N := 32) rfl ?_); refine goesL_ (some 32) rfl rfl Try.func47 (by kernel_rfl) rfl #[.agg #[.int .i64 u, .slice G gs.length cg, .int .i64 pv], .agg #[.int .i64 d.f0, .bool d.f1, .slice A2 d.f2.length c2]] rfl (by (try simp only [List.map_toArray, List.map_cons, List.map_nil]); first | done | rfl) ?_; have hq := Granted_calls u pv d.f0 gs G A2 cg c2 d.f1 d.f2 _ (Kd.C_below HG.out HBV.out) HGC.out (Kd.C_below HR2.out HBV.out) HC2.out HV.out; rw [HGR.out] at hq; refine hq.mono ?_; rintro e w2 ⟨rfl, hb⟩; refine ⟨_, rfl, ?_⟩; dsimp only; have HB2 := Aside0.mk (below_step HBV.out hb); have TB_3 := Aside0.mk (blk_below TB_2.out hb); have PB_3 := Aside0.mk (blk_below PB_2.out hb); have DB_3 := Aside0.mk (blk_below DB_2.out hb); have X_3 := Aside0.mk (Kd.C_below X_2.out hb); have XB_3 := Aside0.mk (blk_below V0.out hb); clear TB_2 PB_2 DB_2 X_2 V0; clear hb hq t0 t1 t2 y0 y1 y2)
  have t0 := (blk_cell TB_3.out 0).trans rfl; have t1 := (blk_cell TB_3.out 1).trans rfl; have t2 := (blk_cell TB_3.out 2).trans rfl
  have x0 := (blk_cell XB_3.out 0).trans rfl; have x1 := (blk_cell XB_3.out 1).trans rfl; have x2 := (blk_cell XB_3.out 2).trans rfl
  go_upto_region 6 with ((with_reducible refine gate_dst (N := 38) rfl ?_); refine goesL_ (some 38) rfl rfl Try.func47 (by kernel_rfl) rfl #[.agg #[.int .i64 u, .slice G gs.length cg, .int .i64 pv], .agg #[.int .i64 d.f0, .bool true, .slice XA kl.length Xc]] rfl (by (try simp only [List.map_toArray, List.map_cons, List.map_nil]); first | done | rfl) ?_; have hq := Granted_calls u pv d.f0 gs G XA cg Xc true kl _ (Kd.C_below HG.out HB2.out) HGC.out X_3.out XL.out HV2.out; rw [HGR2.out] at hq; refine hq.mono ?_; rintro e w3 ⟨rfl, hb⟩; refine ⟨_, rfl, ?_⟩; dsimp only; have HB3 := Aside0.mk (below_step HB2.out hb); have TB_4 := Aside0.mk (blk_below TB_3.out hb); have PB_4 := Aside0.mk (blk_below PB_3.out hb); have DB_4 := Aside0.mk (blk_below DB_3.out hb); have X_4 := Aside0.mk (Kd.C_below X_3.out hb); have XB_4 := Aside0.mk (blk_below XB_3.out hb); clear TB_3 PB_3 DB_3 X_3 XB_3; clear hb hq t0 t1 t2 x0 x1 x2)
  have x0 := (blk_cell XB_4.out 0).trans rfl; have x1 := (blk_cell XB_4.out 1).trans rfl; have x2 := (blk_cell XB_4.out 2).trans rfl
  have y0 := (blk_cell DB_4.out 0).trans rfl; have y1 := (blk_cell DB_4.out 1).trans rfl; have y2 := (blk_cell DB_4.out 2).trans rfl
  have h8 : ((kl.length : Int) != (d.f2.length : Int)) = false := by rw [HEQ.out]; simp
  go_upto_region 8 with (fail)
  clear h8 x0 x1 x2 y0 y1 y2
  have x0 := (blk_cell PB_4.out 0).trans rfl; have x1 := (blk_cell PB_4.out 1).trans rfl; have x2 := (blk_cell PB_4.out 2).trans rfl
  have y0 := (blk_cell DB_4.out 0).trans rfl; have y1 := (blk_cell DB_4.out 1).trans rfl; have y2 := (blk_cell DB_4.out 2).trans rfl
  go_wp2_with (first | ((with_reducible refine gate_dst (N := 67) rfl ?_); refine goesL_ (some 67) rfl rfl Try.func41 (by kernel_rfl) rfl #[.agg #[.int .i64 p.f0, .bool p.f1, .slice A p.f2.length c], .agg #[.int .i64 d.f0, .bool d.f1, .slice A2 d.f2.length c2], .bool dir] rfl (by (try simp only [List.map_toArray, List.map_cons, List.map_nil]); first | done | rfl) ?_; have hq := Open_calls p d A A2 c c2 dir _ (Kd.C_below HR.out HB3.out) HC.out (Kd.C_below HR2.out HB3.out) HC2.out; rw [HOP.out] at hq; refine hq.mono ?_; rintro e w4 ⟨v, rfl, hra, hb⟩; refine ⟨_, rfl, ?_⟩; dsimp only [z33]; obtain ⟨MA, Mc, rfl⟩ := Kd.R_slice hra; have HB4 := Aside0.mk (below_alloc (below_step HB3.out hb) (.cells #[.int .i64 0, .bool false, .slice MA 0 Mc] 33)); clear hra hb hq x0 x1 x2 y0 y1 y2) | ((with_reducible refine gate_dst (N := 72) rfl ?_); refine goesL_ (some 72) rfl rfl Try.func15 (by kernel_rfl) rfl #[] rfl (by (try simp only [List.map_toArray, List.map_cons, List.map_nil]); first | done | rfl) ?_; refine (sane_calls _).mono ?_; rintro e w5 ⟨rfl, hb⟩; refine ⟨_, rfl, ?_⟩; have HB5 := Aside0.mk (below_step HB4.out hb); clear hb))
  go_ret
  exact ⟨rfl, HB5.out⟩
set_option maxRecDepth 100000 in
set_option maxHeartbeats 2000000 in
theorem protects_open (u pv : Int) (gs : List Int) (G : Option Addr) (cg : Nat) (A : Option Addr) (c : Nat) (p : S33) (A2 : Option Addr) (c2 : Nat) (d : S33) (dir : Bool) (w : World) (hg : Kd.C (Kd.int .i64) w G gs.length gs) (hgc : gs.length ≤ cg) (hc : p.f2.length ≤ c) (hr : k37.C w A p.f2.length p.f2) (hc2 : d.f2.length ≤ c2) (hr2 : k37.C w A2 d.f2.length d.f2) (hv : vDesc d.f0 d.f2 = true) (gm ge : Int) (kl : List S37) (hkv : vDesc d.f0 kl = true) (hkl : kl.length = d.f2.length) (hp : sProtect d true = (⟨d.f0, true, kl⟩, 0)) (hgr : sGranted u gs pv d.f0 d.f2 = (gm, ge)) (hgr2 : sGranted u gs pv d.f0 kl = (gm, ge)) (no : Int) (nb : Bool) (nl : List S37) (hn : sOpen p d dir = (⟨no, nb, nl⟩, 0)) (yl : List S37) (hy : sProtect ⟨no, nb, nl⟩ false = (⟨no, true, yl⟩, 0)) (hz : sOpen p ⟨no, true, yl⟩ dir = (⟨no, nb, nl⟩, 0)) :
    Calls Try.prog 13 #[.agg #[.int .i64 u, .slice G gs.length cg, .int .i64 pv], .agg #[.int .i64 p.f0, .bool p.f1, .slice A p.f2.length c], .agg #[.int .i64 d.f0, .bool d.f1, .slice A2 d.f2.length c2], .bool dir] w fun e w' => e = .returned (.bool true) ∧ Below w.heap.size w w' := by
  have HG := Aside0.mk hg
  have HGC := Aside0.mk hgc
  have HR := Aside0.mk hr
  have HC := Aside0.mk hc
  have HR2 := Aside0.mk hr2
  have HC2 := Aside0.mk hc2
  have HPR := Aside0.mk hp
  have HGR := Aside0.mk hgr
  have HGR2 := Aside0.mk hgr2
  have HV := Aside0.mk hv
  have HV2 := Aside0.mk hkv
  have HEQ := Aside0.mk hkl
  clear hp hgr hgr2 hv hkv hkl
  have HOP := Aside0.mk hn
  have HPY := Aside0.mk hy
  have HOZ := Aside0.mk hz
  clear hn hy hz
  clear hg hgc hr hc hr2 hc2
  go_enter Try.func13, Try.ntmps13
  go_upto_region 1 with (fail)
  have hb_ := below_alloc (below_alloc (below_alloc (Below.refl _ w) (.cells #[.int .i64 u, .slice G gs.length cg, .int .i64 pv] 63)) (.cells #[.int .i64 p.f0, .bool p.f1, .slice A p.f2.length c] 33)) (.cells #[.int .i64 d.f0, .bool d.f1, .slice A2 d.f2.length c2] 33)
  have hG0_ := blk_alloc (blk_alloc (blk_lit0 w (.cells #[.int .i64 u, .slice G gs.length cg, .int .i64 pv] 63)) (.cells #[.int .i64 p.f0, .bool p.f1, .slice A p.f2.length c] 33)) (.cells #[.int .i64 d.f0, .bool d.f1, .slice A2 d.f2.length c2] 33)
  have hG1_ := blk_alloc (blk_lit w (.cells #[.int .i64 u, .slice G gs.length cg, .int .i64 pv] 63) (.cells #[.int .i64 p.f0, .bool p.f1, .slice A p.f2.length c] 33)) (.cells #[.int .i64 d.f0, .bool d.f1, .slice A2 d.f2.length c2] 33)
  have hG2_ := blk_lit2 w (.cells #[.int .i64 u, .slice G gs.length cg, .int .i64 pv] 63) (.cells #[.int .i64 p.f0, .bool p.f1, .slice A p.f2.length c] 33) (.cells #[.int .i64 d.f0, .bool d.f1, .slice A2 d.f2.length c2] 33)
  generalize (((w.alloc (.cells #[.int .i64 u, .slice G gs.length cg, .int .i64 pv] 63)).alloc (.cells #[.int .i64 p.f0, .bool p.f1, .slice A p.f2.length c] 33)).alloc (.cells #[.int .i64 d.f0, .bool d.f1, .slice A2 d.f2.length c2] 33)) = W at hb_ hG0_ hG1_ hG2_ ⊢
  have HB_W := Aside0.mk hb_
  have W0 := Aside0.mk hG0_
  have W1 := Aside0.mk hG1_
  have W2 := Aside0.mk hG2_
  clear hb_ hG0_ hG1_ hG2_
  have TB_0 := W0
  have PB_0 := W1
  have DB_0 := W2
  clear W0 W1 W2
  have y0 := (blk_cell DB_0.out 0).trans rfl; have y1 := (blk_cell DB_0.out 1).trans rfl; have y2 := (blk_cell DB_0.out 2).trans rfl
  go_upto_region 4 with ((with_reducible refine gate_dst (N := 23) rfl ?_); refine goesL_ (some 23) rfl rfl Try.func39 (by kernel_rfl) rfl #[.agg #[.int .i64 d.f0, .bool d.f1, .slice A2 d.f2.length c2], .bool true] rfl (by (try simp only [List.map_toArray, List.map_cons, List.map_nil]); first | done | rfl) ?_; have hq := Protect_calls d A2 c2 _ (Kd.C_below HR2.out HB_W.out) HC2.out true; rw [HPR.out] at hq; refine hq.mono ?_; rintro e w1 ⟨v, rfl, hra, hb⟩; refine ⟨_, rfl, ?_⟩; replace hra : RA w1 _ v kl := hra; dsimp only; obtain ⟨XA, Xc, rfl⟩ := Kd.R_slice hra; have HB1 := Aside0.mk (below_step HB_W.out hb); have TB_1 := Aside0.mk (blk_below TB_0.out hb); have PB_1 := Aside0.mk (blk_below PB_0.out hb); have DB_1 := Aside0.mk (blk_below DB_0.out hb); clear TB_0 PB_0 DB_0; have X_0 := Aside0.mk (Kd.R_reads' hra).2.2; have XL := Aside0.mk (Kd.R_reads' hra).2.1; clear hra hb hq y0 y1 y2)
  have hb_ := below_alloc (Below.refl _ w1) (.cells #[.int .i64 d.f0, .bool true, .slice XA kl.length Xc] 33)
  have hG0_ := blk_lit0 w1 (.cells #[.int .i64 d.f0, .bool true, .slice XA kl.length Xc] 33)
  generalize (w1.alloc (.cells #[.int .i64 d.f0, .bool true, .slice XA kl.length Xc] 33)) = V at hb_ hG0_ ⊢
  have HB_V := Aside0.mk hb_
  have V0 := Aside0.mk hG0_
  clear hb_ hG0_
  have TB_2 := Aside0.mk (blk_below TB_1.out HB_V.out)
  have PB_2 := Aside0.mk (blk_below PB_1.out HB_V.out)
  have DB_2 := Aside0.mk (blk_below DB_1.out HB_V.out)
  have X_2 := Aside0.mk (Kd.C_below X_0.out HB_V.out)
  clear TB_1 PB_1 DB_1 X_0
  have HBV := Aside0.mk (below_step HB1.out HB_V.out)
  have t0 := (blk_cell TB_2.out 0).trans rfl; have t1 := (blk_cell TB_2.out 1).trans rfl; have t2 := (blk_cell TB_2.out 2).trans rfl
  have y0 := (blk_cell DB_2.out 0).trans rfl; have y1 := (blk_cell DB_2.out 1).trans rfl; have y2 := (blk_cell DB_2.out 2).trans rfl
  go_upto_region 5 with ((with_reducible refine gate_dst (N := 32) rfl ?_); refine goesL_ (some 32) rfl rfl Try.func47 (by kernel_rfl) rfl #[.agg #[.int .i64 u, .slice G gs.length cg, .int .i64 pv], .agg #[.int .i64 d.f0, .bool d.f1, .slice A2 d.f2.length c2]] rfl (by (try simp only [List.map_toArray, List.map_cons, List.map_nil]); first | done | rfl) ?_; have hq := Granted_calls u pv d.f0 gs G A2 cg c2 d.f1 d.f2 _ (Kd.C_below HG.out HBV.out) HGC.out (Kd.C_below HR2.out HBV.out) HC2.out HV.out; rw [HGR.out] at hq; refine hq.mono ?_; rintro e w2 ⟨rfl, hb⟩; refine ⟨_, rfl, ?_⟩; dsimp only; have HB2 := Aside0.mk (below_step HBV.out hb); have TB_3 := Aside0.mk (blk_below TB_2.out hb); have PB_3 := Aside0.mk (blk_below PB_2.out hb); have DB_3 := Aside0.mk (blk_below DB_2.out hb); have X_3 := Aside0.mk (Kd.C_below X_2.out hb); have XB_3 := Aside0.mk (blk_below V0.out hb); clear TB_2 PB_2 DB_2 X_2 V0; clear hb hq t0 t1 t2 y0 y1 y2)
  have t0 := (blk_cell TB_3.out 0).trans rfl; have t1 := (blk_cell TB_3.out 1).trans rfl; have t2 := (blk_cell TB_3.out 2).trans rfl
  have x0 := (blk_cell XB_3.out 0).trans rfl; have x1 := (blk_cell XB_3.out 1).trans rfl; have x2 := (blk_cell XB_3.out 2).trans rfl
  go_upto_region 6 with ((with_reducible refine gate_dst (N := 38) rfl ?_); refine goesL_ (some 38) rfl rfl Try.func47 (by kernel_rfl) rfl #[.agg #[.int .i64 u, .slice G gs.length cg, .int .i64 pv], .agg #[.int .i64 d.f0, .bool true, .slice XA kl.length Xc]] rfl (by (try simp only [List.map_toArray, List.map_cons, List.map_nil]); first | done | rfl) ?_; have hq := Granted_calls u pv d.f0 gs G XA cg Xc true kl _ (Kd.C_below HG.out HB2.out) HGC.out X_3.out XL.out HV2.out; rw [HGR2.out] at hq; refine hq.mono ?_; rintro e w3 ⟨rfl, hb⟩; refine ⟨_, rfl, ?_⟩; dsimp only; have HB3 := Aside0.mk (below_step HB2.out hb); have TB_4 := Aside0.mk (blk_below TB_3.out hb); have PB_4 := Aside0.mk (blk_below PB_3.out hb); have DB_4 := Aside0.mk (blk_below DB_3.out hb); have X_4 := Aside0.mk (Kd.C_below X_3.out hb); have XB_4 := Aside0.mk (blk_below XB_3.out hb); clear TB_3 PB_3 DB_3 X_3 XB_3; clear hb hq t0 t1 t2 x0 x1 x2)
  have x0 := (blk_cell XB_4.out 0).trans rfl; have x1 := (blk_cell XB_4.out 1).trans rfl; have x2 := (blk_cell XB_4.out 2).trans rfl
  have y0 := (blk_cell DB_4.out 0).trans rfl; have y1 := (blk_cell DB_4.out 1).trans rfl; have y2 := (blk_cell DB_4.out 2).trans rfl
  have h8 : ((kl.length : Int) != (d.f2.length : Int)) = false := by rw [HEQ.out]; simp
  go_upto_region 8 with (fail)
  clear h8 x0 x1 x2 y0 y1 y2
  have x0 := (blk_cell PB_4.out 0).trans rfl; have x1 := (blk_cell PB_4.out 1).trans rfl; have x2 := (blk_cell PB_4.out 2).trans rfl
  have y0 := (blk_cell DB_4.out 0).trans rfl; have y1 := (blk_cell DB_4.out 1).trans rfl; have y2 := (blk_cell DB_4.out 2).trans rfl
  go_upto_region 11 with ((with_reducible refine gate_dst (N := 67) rfl ?_); refine goesL_ (some 67) rfl rfl Try.func41 (by kernel_rfl) rfl #[.agg #[.int .i64 p.f0, .bool p.f1, .slice A p.f2.length c], .agg #[.int .i64 d.f0, .bool d.f1, .slice A2 d.f2.length c2], .bool dir] rfl (by (try simp only [List.map_toArray, List.map_cons, List.map_nil]); first | done | rfl) ?_; have hq := Open_calls p d A A2 c c2 dir _ (Kd.C_below HR.out HB3.out) HC.out (Kd.C_below HR2.out HB3.out) HC2.out; rw [HOP.out] at hq; refine hq.mono ?_; rintro e w4 ⟨v, rfl, hra, hb⟩; refine ⟨_, rfl, ?_⟩; replace hra : RA w4 _ v nl := hra; dsimp only; obtain ⟨MA, Mc, rfl⟩ := Kd.R_slice hra; have HB4 := Aside0.mk (below_step HB3.out hb); have TB_5 := Aside0.mk (blk_below TB_4.out hb); have PB_5 := Aside0.mk (blk_below PB_4.out hb); have DB_5 := Aside0.mk (blk_below DB_4.out hb); have X_5 := Aside0.mk (Kd.C_below X_4.out hb); have XB_5 := Aside0.mk (blk_below XB_4.out hb); clear TB_4 PB_4 DB_4 X_4 XB_4; have M_0 := Aside0.mk (Kd.R_reads' hra).2.2; have ML := Aside0.mk (Kd.R_reads' hra).2.1; clear hra hb hq x0 x1 x2 y0 y1 y2)
  have hb_ := below_alloc (Below.refl _ w4) (.cells #[.int .i64 no, .bool nb, .slice MA nl.length Mc] 33)
  have hG0_ := blk_lit0 w4 (.cells #[.int .i64 no, .bool nb, .slice MA nl.length Mc] 33)
  generalize (w4.alloc (.cells #[.int .i64 no, .bool nb, .slice MA nl.length Mc] 33)) = S at hb_ hG0_ ⊢
  have HB_S := Aside0.mk hb_
  have S0 := Aside0.mk hG0_
  clear hb_ hG0_
  have TB_6 := Aside0.mk (blk_below TB_5.out HB_S.out)
  have PB_6 := Aside0.mk (blk_below PB_5.out HB_S.out)
  have DB_6 := Aside0.mk (blk_below DB_5.out HB_S.out)
  have X_6 := Aside0.mk (Kd.C_below X_5.out HB_S.out)
  have XB_6 := Aside0.mk (blk_below XB_5.out HB_S.out)
  have M_6 := Aside0.mk (Kd.C_below M_0.out HB_S.out)
  clear TB_5 PB_5 DB_5 X_5 XB_5 M_0
  have HBS := Aside0.mk (below_step HB4.out HB_S.out)
  have x0 := (blk_cell S0.out 0).trans rfl; have x1 := (blk_cell S0.out 1).trans rfl; have x2 := (blk_cell S0.out 2).trans rfl
  go_upto_region 12 with ((with_reducible refine gate_dst (N := 75) rfl ?_); refine goesL_ (some 75) rfl rfl Try.func39 (by kernel_rfl) rfl #[.agg #[.int .i64 no, .bool nb, .slice MA nl.length Mc], .bool false] rfl (by (try simp only [List.map_toArray, List.map_cons, List.map_nil]); first | done | rfl) ?_; have hq := Protect_calls ⟨no, nb, nl⟩ MA Mc _ M_6.out ML.out false; rw [HPY.out] at hq; refine hq.mono ?_; rintro e w5 ⟨v, rfl, hra, hb⟩; refine ⟨_, rfl, ?_⟩; replace hra : RA w5 _ v yl := hra; dsimp only; obtain ⟨YA, Yc, rfl⟩ := Kd.R_slice hra; have HB5 := Aside0.mk (below_step HBS.out hb); have TB_7 := Aside0.mk (blk_below TB_6.out hb); have PB_7 := Aside0.mk (blk_below PB_6.out hb); have DB_7 := Aside0.mk (blk_below DB_6.out hb); have X_7 := Aside0.mk (Kd.C_below X_6.out hb); have XB_7 := Aside0.mk (blk_below XB_6.out hb); have M_7 := Aside0.mk (Kd.C_below M_6.out hb); have MB_7 := Aside0.mk (blk_below S0.out hb); clear TB_6 PB_6 DB_6 X_6 XB_6 M_6 S0; have Y_0 := Aside0.mk (Kd.R_reads' hra).2.2; have YL := Aside0.mk (Kd.R_reads' hra).2.1; clear hra hb hq x0 x1 x2)
  have hb_ := below_alloc (Below.refl _ w5) (.cells #[.int .i64 no, .bool true, .slice YA yl.length Yc] 33)
  have hG0_ := blk_lit0 w5 (.cells #[.int .i64 no, .bool true, .slice YA yl.length Yc] 33)
  generalize (w5.alloc (.cells #[.int .i64 no, .bool true, .slice YA yl.length Yc] 33)) = Q at hb_ hG0_ ⊢
  have HB_Q := Aside0.mk hb_
  have Q0 := Aside0.mk hG0_
  clear hb_ hG0_
  have TB_8 := Aside0.mk (blk_below TB_7.out HB_Q.out)
  have PB_8 := Aside0.mk (blk_below PB_7.out HB_Q.out)
  have DB_8 := Aside0.mk (blk_below DB_7.out HB_Q.out)
  have X_8 := Aside0.mk (Kd.C_below X_7.out HB_Q.out)
  have XB_8 := Aside0.mk (blk_below XB_7.out HB_Q.out)
  have M_8 := Aside0.mk (Kd.C_below M_7.out HB_Q.out)
  have MB_8 := Aside0.mk (blk_below MB_7.out HB_Q.out)
  have Y_8 := Aside0.mk (Kd.C_below Y_0.out HB_Q.out)
  clear TB_7 PB_7 DB_7 X_7 XB_7 M_7 MB_7 Y_0
  have HBQ := Aside0.mk (below_step HB5.out HB_Q.out)
  have x0 := (blk_cell PB_8.out 0).trans rfl; have x1 := (blk_cell PB_8.out 1).trans rfl; have x2 := (blk_cell PB_8.out 2).trans rfl
  have y0 := (blk_cell Q0.out 0).trans rfl; have y1 := (blk_cell Q0.out 1).trans rfl; have y2 := (blk_cell Q0.out 2).trans rfl
  go_upto_region 13 with ((with_reducible refine gate_dst (N := 82) rfl ?_); refine goesL_ (some 82) rfl rfl Try.func41 (by kernel_rfl) rfl #[.agg #[.int .i64 p.f0, .bool p.f1, .slice A p.f2.length c], .agg #[.int .i64 no, .bool true, .slice YA yl.length Yc], .bool dir] rfl (by (try simp only [List.map_toArray, List.map_cons, List.map_nil]); first | done | rfl) ?_; have hq := Open_calls p ⟨no, true, yl⟩ A YA c Yc dir _ (Kd.C_below HR.out HBQ.out) HC.out Y_8.out YL.out; rw [HOZ.out] at hq; refine hq.mono ?_; rintro e w6 ⟨v, rfl, hra, hb⟩; refine ⟨_, rfl, ?_⟩; replace hra : RA w6 _ v nl := hra; dsimp only; obtain ⟨ZA, Zc, rfl⟩ := Kd.R_slice hra; have HB6 := Aside0.mk (below_step HBQ.out hb); have TB_9 := Aside0.mk (blk_below TB_8.out hb); have PB_9 := Aside0.mk (blk_below PB_8.out hb); have DB_9 := Aside0.mk (blk_below DB_8.out hb); have X_9 := Aside0.mk (Kd.C_below X_8.out hb); have XB_9 := Aside0.mk (blk_below XB_8.out hb); have M_9 := Aside0.mk (Kd.C_below M_8.out hb); have MB_9 := Aside0.mk (blk_below MB_8.out hb); have Y_9 := Aside0.mk (Kd.C_below Y_8.out hb); have YB_9 := Aside0.mk (blk_below Q0.out hb); clear TB_8 PB_8 DB_8 X_8 XB_8 M_8 MB_8 Y_8 Q0; have Z_0 := Aside0.mk (Kd.R_reads' hra).2.2; have ZL := Aside0.mk (Kd.R_reads' hra).2.1; clear hra hb hq x0 x1 x2 y0 y1 y2)
  have hb_ := below_alloc (Below.refl _ w6) (.cells #[.int .i64 no, .bool nb, .slice ZA nl.length Zc] 33)
  have hG0_ := blk_lit0 w6 (.cells #[.int .i64 no, .bool nb, .slice ZA nl.length Zc] 33)
  generalize (w6.alloc (.cells #[.int .i64 no, .bool nb, .slice ZA nl.length Zc] 33)) = R at hb_ hG0_ ⊢
  have HB_R := Aside0.mk hb_
  have R0 := Aside0.mk hG0_
  clear hb_ hG0_
  have TB_10 := Aside0.mk (blk_below TB_9.out HB_R.out)
  have PB_10 := Aside0.mk (blk_below PB_9.out HB_R.out)
  have DB_10 := Aside0.mk (blk_below DB_9.out HB_R.out)
  have X_10 := Aside0.mk (Kd.C_below X_9.out HB_R.out)
  have XB_10 := Aside0.mk (blk_below XB_9.out HB_R.out)
  have M_10 := Aside0.mk (Kd.C_below M_9.out HB_R.out)
  have MB_10 := Aside0.mk (blk_below MB_9.out HB_R.out)
  have Y_10 := Aside0.mk (Kd.C_below Y_9.out HB_R.out)
  have YB_10 := Aside0.mk (blk_below YB_9.out HB_R.out)
  have Z_10 := Aside0.mk (Kd.C_below Z_0.out HB_R.out)
  clear TB_9 PB_9 DB_9 X_9 XB_9 M_9 MB_9 Y_9 YB_9 Z_0
  have HBR := Aside0.mk (below_step HB6.out HB_R.out)
  go_wp2_with ((with_reducible refine gate_dst (N := 85) rfl ?_); refine goesL_ (some 85) rfl rfl Try.func15 (by kernel_rfl) rfl #[] rfl (by (try simp only [List.map_toArray, List.map_cons, List.map_nil]); first | done | rfl) ?_; refine (sane_calls _).mono ?_; rintro e w7 ⟨rfl, hb⟩; refine ⟨_, rfl, ?_⟩; have HB7 := Aside0.mk (below_step HBR.out hb); have TB_11 := Aside0.mk (blk_below TB_10.out hb); have PB_11 := Aside0.mk (blk_below PB_10.out hb); have DB_11 := Aside0.mk (blk_below DB_10.out hb); have X_11 := Aside0.mk (Kd.C_below X_10.out hb); have XB_11 := Aside0.mk (blk_below XB_10.out hb); have M_11 := Aside0.mk (Kd.C_below M_10.out hb); have MB_11 := Aside0.mk (blk_below MB_10.out hb); have Y_11 := Aside0.mk (Kd.C_below Y_10.out hb); have YB_11 := Aside0.mk (blk_below YB_10.out hb); have Z_11 := Aside0.mk (Kd.C_below Z_10.out hb); have ZB_11 := Aside0.mk (blk_below R0.out hb); clear TB_10 PB_10 DB_10 X_10 XB_10 M_10 MB_10 Y_10 YB_10 Z_10 R0; have y0 := (blk_cell YB_11.out 0).trans rfl; have y1 := (blk_cell YB_11.out 1).trans rfl; have y2 := (blk_cell YB_11.out 2).trans rfl; have x0 := (blk_cell MB_11.out 0).trans rfl; have x1 := (blk_cell MB_11.out 1).trans rfl; have x2 := (blk_cell MB_11.out 2).trans rfl; have z0 := (blk_cell ZB_11.out 0).trans rfl; have z1 := (blk_cell ZB_11.out 1).trans rfl; have z2 := (blk_cell ZB_11.out 2).trans rfl; clear hb)
  go_at_call 29
  refine (Same_eq ⟨no, nb, nl⟩ MA ZA Mc Zc _ M_11.out ML.out Z_11.out ZL.out).mono ?_
  rintro e w8 ⟨rfl, hb⟩
  have HB8 := Aside0.mk (below_step HB7.out hb)
  clear hb x0 x1 x2 y0 y1 y2 z0 z1 z2
  go_wp2
  go_ret
  exact ⟨rfl, HB8.out⟩
theorem protects_any (u pv : Int) (gs : List Int) (G : Option Addr) (cg : Nat) (A : Option Addr) (c : Nat) (p : S33) (A2 : Option Addr) (c2 : Nat) (d : S33) (dir : Bool) (w : World) (hg : Kd.C (Kd.int .i64) w G gs.length gs) (hgc : gs.length ≤ cg) (hc : p.f2.length ≤ c) (hr : k37.C w A p.f2.length p.f2) (hc2 : d.f2.length ≤ c2) (hr2 : k37.C w A2 d.f2.length d.f2) :
    Calls Try.prog 13 #[.agg #[.int .i64 u, .slice G gs.length cg, .int .i64 pv], .agg #[.int .i64 p.f0, .bool p.f1, .slice A p.f2.length c], .agg #[.int .i64 d.f0, .bool d.f1, .slice A2 d.f2.length c2], .bool dir] w fun e w' => e = .returned (.bool true) ∧ Below w.heap.size w w' := by
  by_cases hv : vDesc d.f0 d.f2 = true
  · have hp : sProtect d true = (⟨d.f0, true, d.f2.map clr⟩, 0) := by
      unfold sProtect prot
      rw [if_pos (show vD d = true from hv), if_pos rfl]
    obtain ⟨gm, ge, hgr⟩ : ∃ gm ge, sGranted u gs pv d.f0 d.f2 = (gm, ge) := ⟨_, _, rfl⟩
    have hgr2 : sGranted u gs pv d.f0 (d.f2.map clr) = (gm, ge) := by rw [granted_clr (vDesc_all hv), hgr]
    have ho : (∃ x, sOpen p d dir = (x, 0)) ∨ sOpen p d dir = (z33, 1) ∨ sOpen p d dir = (z33, 2) := by
      unfold sOpen sRenew
      split
      · split
        · exact .inl ⟨_, rfl⟩
        · split
          · exact .inl ⟨_, rfl⟩
          · exact .inr (.inr rfl)
      · exact .inr (.inl rfl)
    rcases ho with ⟨x, hx⟩ | hx | hx
    · obtain ⟨h1, h2, h3, h4⟩ := open_again hx
      obtain ⟨no, nb, nl⟩ := x
      exact protects_open u pv gs G cg A c p A2 c2 d dir w hg hgc hc hr hc2 hr2 hv gm ge (d.f2.map clr) (clr_vDesc hv) (by simp) hp hgr hgr2 no nb nl hx _ h3 h4
    · exact protects_closed1 u pv gs G cg A c p A2 c2 d dir w hg hgc hc hr hc2 hr2 hv gm ge (d.f2.map clr) (clr_vDesc hv) (by simp) hp hgr hgr2 hx
    · exact protects_closed2 u pv gs G cg A c p A2 c2 d dir w hg hgc hc hr hc2 hr2 hv gm ge (d.f2.map clr) (clr_vDesc hv) (by simp) hp hgr hgr2 hx
  · exact protects_bad u pv gs G cg A c p A2 c2 d dir w hg hgc hc hr hc2 hr2 (by unfold sProtect; rw [if_neg (show ¬ vD d = true from hv)])
end Go.Proofs.Ytgocgjfaiddejaa.M
