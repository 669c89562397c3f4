/- InheritOrder: its walk. -/
import Derived.Test.YtgocgjfaiddejaaGG
import Derived.Test.YtgocgjfaiddejaaGP
namespace Go.Proofs.Ytgocgjfaiddejaa.M
open Go.RowKit Go.Proofs.YtgocgjfaiddejaaW.PrintWords Go.Proofs.YtgocgjfaiddejaaW.PrintLast Go.Proofs.YtgocgjfaiddejaaW.PrintMore
set_option linter.unusedVariables false
set_option linter.unusedSimpArgs false
set_option linter.unnecessarySimpa false
attribute [local go_sem high] eqA37

set_option maxRecDepth 100000 in
set_option maxHeartbeats 2000000 in
theorem order_bad (u pv : Int) (gs : List Int) (G : Option Addr) (cg : Nat) (A2 : Option Addr) (c2 : Nat) (d : S33) (w : World) (hg : Kd.C (Kd.int .i64) w G gs.length gs) (hgc : gs.length ≤ cg) (hc2 : d.f2.length ≤ c2) (hr2 : k37.C w A2 d.f2.length d.f2) (hp : sOrder ⟨d.f0, d.f1, d.f2⟩ = (z33, 1)) :
    Calls Try.prog 12 #[.agg #[.int .i64 u, .slice G gs.length cg, .int .i64 pv], .agg #[.int .i64 d.f0, .bool d.f1, .slice A2 d.f2.length c2]] w fun e w' => e = .returned (.bool true) ∧ Below w.heap.size w w' := by
  have HG := Aside0.mk hg
  have HGC := Aside0.mk hgc
  have HR2 := Aside0.mk hr2
  have HC2 := Aside0.mk hc2
  have HPR := Aside0.mk hp
  clear hg hgc hr2 hc2 hp
  go_enter Try.func12, Try.ntmps12
  go_upto_region 1 with (fail)
  have hb_ := below_alloc (below_alloc (Below.refl _ w) (.cells #[.int .i64 u, .slice G gs.length cg, .int .i64 pv] 63)) (.cells #[.int .i64 d.f0, .bool d.f1, .slice A2 d.f2.length c2] 33)
  have hG0_ := blk_alloc (blk_lit0 w (.cells #[.int .i64 u, .slice G gs.length cg, .int .i64 pv] 63)) (.cells #[.int .i64 d.f0, .bool d.f1, .slice A2 d.f2.length c2] 33)
  have hG1_ := blk_lit w (.cells #[.int .i64 u, .slice G gs.length cg, .int .i64 pv] 63) (.cells #[.int .i64 d.f0, .bool d.f1, .slice A2 d.f2.length c2] 33)
  generalize ((w.alloc (.cells #[.int .i64 u, .slice G gs.length cg, .int .i64 pv] 63)).alloc (.cells #[.int .i64 d.f0, .bool d.f1, .slice A2 d.f2.length c2] 33)) = W at hb_ hG0_ hG1_ ⊢
  have HB_W := Aside0.mk hb_
  have W0 := Aside0.mk hG0_
  have W1 := Aside0.mk hG1_
  clear hb_ hG0_ hG1_
  have TB_0 := W0
  have DB_0 := W1
  clear W0 W1
  have y0 := (blk_cell DB_0.out 0).trans rfl; have y1 := (blk_cell DB_0.out 1).trans rfl; have y2 := (blk_cell DB_0.out 2).trans rfl
  go_wp2_with (first | ((with_reducible refine gate_dst (N := 21) rfl ?_); refine goesL_ (some 21) rfl rfl Try.func43 (by kernel_rfl) rfl #[.agg #[.int .i64 d.f0, .bool d.f1, .slice A2 d.f2.length c2]] rfl (by (try simp only [List.map_toArray, List.map_cons, List.map_nil]); first | done | rfl) ?_; have hq := Order_calls d.f0 d.f1 A2 c2 d.f2 _ (Kd.C_below HR2.out HB_W.out) HC2.out; rw [HPR.out] at hq; refine hq.mono ?_; rintro e w1 ⟨v, rfl, hra, hb⟩; refine ⟨_, rfl, ?_⟩; dsimp only [z33]; obtain ⟨XA, Xc, rfl⟩ := Kd.R_slice hra; have HB1 := Aside0.mk (below_alloc (below_step HB_W.out hb) (.cells #[.int .i64 0, .bool false, .slice XA 0 Xc] 33)); clear hra hb hq y0 y1 y2) | ((with_reducible refine gate_dst (N := 26) rfl ?_); refine goesL_ (some 26) rfl rfl Try.func15 (by kernel_rfl) rfl #[] rfl (by (try simp only [List.map_toArray, List.map_cons, List.map_nil]); first | done | rfl) ?_; refine (sane_calls _).mono ?_; rintro e w2 ⟨rfl, hb⟩; refine ⟨_, rfl, ?_⟩; have HB2 := Aside0.mk (below_step HB1.out hb); clear hb))
  go_ret
  exact ⟨rfl, HB2.out⟩
/-- Equal entries, as Go compares them. -/
def eqB (x y : S37) : Bool := x.f0 == y.f0 && (x.f1 == y.f1 && (x.f2 == y.f2 && (x.f3 == y.f3)))
def cntB (e : S37) (l : List S37) (j : Nat) : Int := (((l.take j).filter (fun x => eqB x e)).length : Int)
theorem cntB_step {e : S37} {l : List S37} {j : Nat} (h : j < l.length) : cntB e l (j + 1) = cntB e l j + (if eqB (rd_T37 l j) e then 1 else 0) := by
  unfold cntB
  rw [List.take_succ_eq_append_getElem h, List.filter_append, ← rd_at h]
  cases hq : eqB (rd_T37 l j) e <;> simp [hq]
theorem cntB_le (e : S37) (l : List S37) (j : Nat) : 0 ≤ cntB e l j ∧ cntB e l j ≤ j := by
  unfold cntB
  have h1 := List.length_filter_le (fun x => eqB x e) (l.take j)
  have h2 := List.length_take_le j l
  omega
theorem cntB_perm {e : S37} {l l' : List S37} (h : l.Perm l') : cntB e l l.length = cntB e l' l'.length := by
  unfold cntB
  rw [List.take_length, List.take_length]
  exact congrArg _ (h.filter _).length_eq
set_option maxRecDepth 100000 in
set_option maxHeartbeats 2000000 in
theorem order_full (u pv : Int) (gs : List Int) (G : Option Addr) (cg : Nat) (A2 : Option Addr) (c2 : Nat) (d : S33) (w : World) (hg : Kd.C (Kd.int .i64) w G gs.length gs) (hgc : gs.length ≤ cg) (hc2 : d.f2.length ≤ c2) (hr2 : k37.C w A2 d.f2.length d.f2) (hl16 : d.f2.length ≤ 16) (ol : List S37) (hol : ol.length = d.f2.length) (hcnt : ∀ e, cntB e d.f2 d.f2.length = cntB e ol ol.length) (hp : sOrder ⟨d.f0, d.f1, d.f2⟩ = (⟨d.f0, d.f1, ol⟩, 0)) (ho : sOrder ⟨d.f0, d.f1, ol⟩ = (⟨d.f0, d.f1, ol⟩, 0)) (hod : sOrdered ⟨d.f0, d.f1, ol⟩ = (true, 0)) (hv : vDesc d.f0 d.f2 = true) (hv2 : vDesc d.f0 ol = true) (gm gm2 ge : Int) (hgr : sGranted u gs pv d.f0 d.f2 = (gm, ge)) (hgr2 : sGranted u gs pv d.f0 ol = (gm2, ge)) (hge : ge = 0 ∨ ge = 1) (hor : firstOwn d.f2 → Go.bits .or .i64 gm gm2 = gm) :
    Calls Try.prog 12 #[.agg #[.int .i64 u, .slice G gs.length cg, .int .i64 pv], .agg #[.int .i64 d.f0, .bool d.f1, .slice A2 d.f2.length c2]] w fun e w' => e = .returned (.bool true) ∧ Below w.heap.size w w' := by
  have HG := Aside0.mk hg
  have HGC := Aside0.mk hgc
  have HR2 := Aside0.mk hr2
  have HC2 := Aside0.mk hc2
  have HPR := Aside0.mk hp
  have HPO := Aside0.mk ho
  have HOD := Aside0.mk hod
  have HGR := Aside0.mk hgr
  have HGR2 := Aside0.mk hgr2
  have HV := Aside0.mk hv
  have HV2 := Aside0.mk hv2
  have HOL := Aside0.mk hol
  have HCN := Aside0.mk hcnt
  have HOR := Aside0.mk hor
  have HGE := Aside0.mk hge
  clear hp ho hod hgr hgr2 hv hv2 hol hcnt hor hge
  clear hg hgc hr2 hc2
  go_enter Try.func12, Try.ntmps12
  go_upto_region 1 with (fail)
  have hb_ := below_alloc (below_alloc (Below.refl _ w) (.cells #[.int .i64 u, .slice G gs.length cg, .int .i64 pv] 63)) (.cells #[.int .i64 d.f0, .bool d.f1, .slice A2 d.f2.length c2] 33)
  have hG0_ := blk_alloc (blk_lit0 w (.cells #[.int .i64 u, .slice G gs.length cg, .int .i64 pv] 63)) (.cells #[.int .i64 d.f0, .bool d.f1, .slice A2 d.f2.length c2] 33)
  have hG1_ := blk_lit w (.cells #[.int .i64 u, .slice G gs.length cg, .int .i64 pv] 63) (.cells #[.int .i64 d.f0, .bool d.f1, .slice A2 d.f2.length c2] 33)
  generalize ((w.alloc (.cells #[.int .i64 u, .slice G gs.length cg, .int .i64 pv] 63)).alloc (.cells #[.int .i64 d.f0, .bool d.f1, .slice A2 d.f2.length c2] 33)) = W at hb_ hG0_ hG1_ ⊢
  have HB_W := Aside0.mk hb_
  have W0 := Aside0.mk hG0_
  have W1 := Aside0.mk hG1_
  clear hb_ hG0_ hG1_
  have TB_0 := W0
  have DB_0 := W1
  clear W0 W1
  have y0 := (blk_cell DB_0.out 0).trans rfl; have y1 := (blk_cell DB_0.out 1).trans rfl; have y2 := (blk_cell DB_0.out 2).trans rfl
  go_upto_region 4 with ((with_reducible refine gate_dst (N := 21) rfl ?_); refine goesL_ (some 21) rfl rfl Try.func43 (by kernel_rfl) rfl #[.agg #[.int .i64 d.f0, .bool d.f1, .slice A2 d.f2.length c2]] rfl (by (try simp only [List.map_toArray, List.map_cons, List.map_nil]); first | done | rfl) ?_; have hq := Order_calls d.f0 d.f1 A2 c2 d.f2 _ (Kd.C_below HR2.out HB_W.out) HC2.out; rw [HPR.out] at hq; refine hq.mono ?_; rintro e w1 ⟨v, rfl, hra, hb⟩; refine ⟨_, rfl, ?_⟩; replace hra : RA w1 _ v ol := hra; dsimp only; obtain ⟨XA, Xc, rfl⟩ := Kd.R_slice hra; have HB1 := Aside0.mk (below_step HB_W.out hb); have TB_1 := Aside0.mk (blk_below TB_0.out hb); have DB_1 := Aside0.mk (blk_below DB_0.out hb); clear TB_0 DB_0; have X_0 := Aside0.mk (Kd.R_reads' hra).2.2; have XL := Aside0.mk (Kd.R_reads' hra).2.1; clear hra hb hq y0 y1 y2)
  have hb_ := below_alloc (Below.refl _ w1) (.cells #[.int .i64 d.f0, .bool d.f1, .slice XA ol.length Xc] 33)
  have hG0_ := blk_lit0 w1 (.cells #[.int .i64 d.f0, .bool d.f1, .slice XA ol.length Xc] 33)
  generalize (w1.alloc (.cells #[.int .i64 d.f0, .bool d.f1, .slice XA ol.length Xc] 33)) = V at hb_ hG0_ ⊢
  have HB_V := Aside0.mk hb_
  have V0 := Aside0.mk hG0_
  clear hb_ hG0_
  have TB_2 := Aside0.mk (blk_below TB_1.out HB_V.out)
  have DB_2 := Aside0.mk (blk_below DB_1.out HB_V.out)
  have X_2 := Aside0.mk (Kd.C_below X_0.out HB_V.out)
  clear TB_1 DB_1 X_0
  have HBV := Aside0.mk (below_step HB1.out HB_V.out)
  have x0 := (blk_cell V0.out 0).trans rfl; have x1 := (blk_cell V0.out 1).trans rfl; have x2 := (blk_cell V0.out 2).trans rfl
  go_upto_region 5 with ((with_reducible refine gate_dst (N := 29) rfl ?_); refine goesL_ (some 29) rfl rfl Try.func43 (by kernel_rfl) rfl #[.agg #[.int .i64 d.f0, .bool d.f1, .slice XA ol.length Xc]] rfl (by (try simp only [List.map_toArray, List.map_cons, List.map_nil]); first | done | rfl) ?_; have hq := Order_calls d.f0 d.f1 XA Xc ol _ X_2.out XL.out; rw [HPO.out] at hq; refine hq.mono ?_; rintro e w2 ⟨v, rfl, hra, hb⟩; refine ⟨_, rfl, ?_⟩; replace hra : RA w2 _ v ol := hra; dsimp only; obtain ⟨YA, Yc, rfl⟩ := Kd.R_slice hra; have HB2 := Aside0.mk (below_step HBV.out hb); have TB_3 := Aside0.mk (blk_below TB_2.out hb); have DB_3 := Aside0.mk (blk_below DB_2.out hb); have X_3 := Aside0.mk (Kd.C_below X_2.out hb); have XB_3 := Aside0.mk (blk_below V0.out hb); clear TB_2 DB_2 X_2 V0; have Y_0 := Aside0.mk (Kd.R_reads' hra).2.2; have YL := Aside0.mk (Kd.R_reads' hra).2.1; clear hra hb hq x0 x1 x2)
  have hb_ := below_alloc (Below.refl _ w2) (.cells #[.int .i64 d.f0, .bool d.f1, .slice YA ol.length Yc] 33)
  have hG0_ := blk_lit0 w2 (.cells #[.int .i64 d.f0, .bool d.f1, .slice YA ol.length Yc] 33)
  generalize (w2.alloc (.cells #[.int .i64 d.f0, .bool d.f1, .slice YA ol.length Yc] 33)) = U at hb_ hG0_ ⊢
  have HB_U := Aside0.mk hb_
  have U0 := Aside0.mk hG0_
  clear hb_ hG0_
  have TB_4 := Aside0.mk (blk_below TB_3.out HB_U.out)
  have DB_4 := Aside0.mk (blk_below DB_3.out HB_U.out)
  have X_4 := Aside0.mk (Kd.C_below X_3.out HB_U.out)
  have XB_4 := Aside0.mk (blk_below XB_3.out HB_U.out)
  have Y_4 := Aside0.mk (Kd.C_below Y_0.out HB_U.out)
  clear TB_3 DB_3 X_3 XB_3 Y_0
  have HBU := Aside0.mk (below_step HB2.out HB_U.out)
  have x0 := (blk_cell XB_4.out 0).trans rfl; have x1 := (blk_cell XB_4.out 1).trans rfl; have x2 := (blk_cell XB_4.out 2).trans rfl
  go_upto_region 6 with ((with_reducible refine gate_dst (N := 34) rfl ?_); refine goesL_ (some 34) rfl rfl Try.func45 (by kernel_rfl) rfl #[.agg #[.int .i64 d.f0, .bool d.f1, .slice XA ol.length Xc]] rfl (by (try simp only [List.map_toArray, List.map_cons, List.map_nil]); first | done | rfl) ?_; have hq := Ordered_calls ⟨d.f0, d.f1, ol⟩ XA Xc _ X_4.out XL.out; rw [HOD.out] at hq; refine hq.mono ?_; rintro e w3 ⟨rfl, hb⟩; refine ⟨_, rfl, ?_⟩; have HB3 := Aside0.mk (below_step HBU.out hb); have TB_5 := Aside0.mk (blk_below TB_4.out hb); have DB_5 := Aside0.mk (blk_below DB_4.out hb); have X_5 := Aside0.mk (Kd.C_below X_4.out hb); have XB_5 := Aside0.mk (blk_below XB_4.out hb); have Y_5 := Aside0.mk (Kd.C_below Y_4.out hb); have YB_5 := Aside0.mk (blk_below U0.out hb); clear TB_4 DB_4 X_4 XB_4 Y_4 U0; clear hb hq x0 x1 x2)
  have x0 := (blk_cell XB_5.out 0).trans rfl; have x1 := (blk_cell XB_5.out 1).trans rfl; have x2 := (blk_cell XB_5.out 2).trans rfl
  have z0 := (blk_cell YB_5.out 0).trans rfl; have z1 := (blk_cell YB_5.out 1).trans rfl; have z2 := (blk_cell YB_5.out 2).trans rfl
  have y0 := (blk_cell DB_5.out 0).trans rfl; have y1 := (blk_cell DB_5.out 1).trans rfl; have y2 := (blk_cell DB_5.out 2).trans rfl
  go_wp2_with (fail)
  refine (Same_eq ⟨d.f0, d.f1, ol⟩ YA XA Yc Xc _ Y_5.out YL.out X_5.out XL.out).mono ?_
  rintro e w4 ⟨rfl, hb⟩
  have HB4 := Aside0.mk (below_step HB3.out hb)
  have TB_6 := Aside0.mk (blk_below TB_5.out hb)
  have DB_6 := Aside0.mk (blk_below DB_5.out hb)
  have X_6 := Aside0.mk (Kd.C_below X_5.out hb)
  have XB_6 := Aside0.mk (blk_below XB_5.out hb)
  clear TB_5 DB_5 X_5 XB_5
  clear hb x0 x1 x2 y0 y1 y2 z0 z1 z2
  have h8 : ((ol.length : Int) != (d.f2.length : Int)) = false := by rw [HOL.out]; simp
  have x0 := (blk_cell XB_6.out 0).trans rfl; have x1 := (blk_cell XB_6.out 1).trans rfl; have x2 := (blk_cell XB_6.out 2).trans rfl
  have y0 := (blk_cell DB_6.out 0).trans rfl; have y1 := (blk_cell DB_6.out 1).trans rfl; have y2 := (blk_cell DB_6.out 2).trans rfl
  go_wp2
  clear h8 x0 x1 x2 y0 y1 y2
  go_loopg [11] d.f2.length (fun kq v11 w' => ∃ i : Nat, v11 = .int .i64 i ∧ Aside0 (kq + i = d.f2.length) ∧ Aside0 (Below w4.heap.size w4 w'))
  case atStart => exact ⟨0, rfl, ⟨rfl⟩, ⟨Below.refl _ _⟩⟩
  case round =>
    obtain ⟨i, rfl, HK, HBL⟩ := hrel
    have DBl := Aside0.mk (blk_below DB_6.out HBL.out)
    have y0 := (blk_cell DBl.out 0).trans rfl; have y1 := (blk_cell DBl.out 1).trans rfl; have y2 := (blk_cell DBl.out 2).trans rfl
    by_cases hlt : i < d.f2.length
    · have h1 : decide (i < d.f2.length) = true := by simpa using hlt
      obtain ⟨ad, rfl, p0, p1, p2, p3⟩ := at_T37 (Kd.C_below HR2.out (HB4.out.trans (HBL.out.mono HB4.out.size))) (i : Int) (by omega) (by omega)
      clear p0 p1 p2 p3
      have HOL' := HOL.out
      obtain ⟨bd, rfl, p0, p1, p2, p3⟩ := at_T37 (Kd.C_below X_6.out HBL.out) (i : Int) (by omega) (by omega)
      clear p0 p1 p2 p3 HOL'
      go_wp2
      clear y0 y1 y2 DBl
      go_loopg [12, 13] d.f2.length (fun kq v12 v13 w' => ∃ j : Nat, v12 = .int .i64 (cntB (rd_T37 d.f2 i) d.f2 j - cntB (rd_T37 d.f2 i) ol j) ∧ v13 = .int .i64 j ∧ Aside0 (kq + j = d.f2.length) ∧ Aside0 (Below w4.heap.size w4 w'))
      case atStart => exact ⟨0, rfl, rfl, ⟨by omega⟩, HBL⟩
      case round =>
        obtain ⟨j, rfl, rfl, HJ, HBJ⟩ := hrel
        have DBj := Aside0.mk (blk_below DB_6.out HBJ.out)
        have XBj := Aside0.mk (blk_below XB_6.out HBJ.out)
        have y0 := (blk_cell DBj.out 0).trans rfl; have y1 := (blk_cell DBj.out 1).trans rfl; have y2 := (blk_cell DBj.out 2).trans rfl
        have x0 := (blk_cell XBj.out 0).trans rfl; have x1 := (blk_cell XBj.out 1).trans rfl; have x2 := (blk_cell XBj.out 2).trans rfl
        by_cases hj : j < d.f2.length
        · have h2 : decide (j < d.f2.length) = true := by simpa using hj
          obtain ⟨ad2, had, a0, a1, a2, a3⟩ := at_T37 (Kd.C_below HR2.out (HB4.out.trans (HBJ.out.mono HB4.out.size))) (j : Int) (by omega) (by omega)
          cases had
          obtain ⟨ad2, had, b0, b1, b2, b3⟩ := at_T37 (Kd.C_below HR2.out (HB4.out.trans (HBJ.out.mono HB4.out.size))) (i : Int) (by omega) (by omega)
          cases had
          obtain ⟨ad2, had, e0, e1, e2, e3⟩ := at_T37 (Kd.C_below X_6.out HBJ.out) (j : Int) (by omega) (by have := HOL.out; omega)
          cases had
          simp only [Int.toNat_natCast] at a0 a1 a2 a3 b0 b1 b2 b3 e0 e1 e2 e3
          have h3 : decide (i < d.f2.length) = true := by simpa using hlt
          have hj4 : j < ol.length := by have := HOL.out; omega
          have h4 : decide (j < ol.length) = true := by simpa using hj4
          have HS1 := Aside0.mk (cntB_step (e := rd_T37 d.f2 i) hj)
          have HS2 := Aside0.mk (cntB_step (e := rd_T37 d.f2 i) (l := ol) (j := j) (by have := HOL.out; omega))
          have HL1 := Aside0.mk (cntB_le (rd_T37 d.f2 i) d.f2 j)
          have HL2 := Aside0.mk (cntB_le (rd_T37 d.f2 i) ol j)
          cases h5 : eqB (rd_T37 d.f2 j) (rd_T37 d.f2 i) <;> cases h6 : eqB (rd_T37 ol j) (rd_T37 d.f2 i)
          all_goals
            have h7 := h5
            have h8 := h6
            unfold eqB at h7 h8
            go_upto_region 15 with (fail)
            go_quiet (fail)
            go_wp2
            have HBd := Aside0.mk (pw_below_drewN HBJ.out nq)
            generalize wr.drewN nq = wd at HBd ⊢
            clear y0 y1 y2 x0 x1 x2 a0 a1 a2 a3 b0 b1 b2 b3 e0 e1 e2 e3 DBj XBj h7
            have DBj := Aside0.mk (blk_below DB_6.out HBd.out)
            have XBj := Aside0.mk (blk_below XB_6.out HBd.out)
            have y0 := (blk_cell DBj.out 0).trans rfl; have y1 := (blk_cell DBj.out 1).trans rfl; have y2 := (blk_cell DBj.out 2).trans rfl
            have x0 := (blk_cell XBj.out 0).trans rfl; have x1 := (blk_cell XBj.out 1).trans rfl; have x2 := (blk_cell XBj.out 2).trans rfl
            obtain ⟨ad2, had, b0, b1, b2, b3⟩ := at_T37 (Kd.C_below HR2.out (HB4.out.trans (HBd.out.mono HB4.out.size))) (i : Int) (by omega) (by omega)
            cases had
            obtain ⟨ad2, had, e0, e1, e2, e3⟩ := at_T37 (Kd.C_below X_6.out HBd.out) (j : Int) (by omega) (by have := HOL.out; omega)
            cases had
            simp only [Int.toNat_natCast] at b0 b1 b2 b3 e0 e1 e2 e3
            go_quiet (fail)
            go_wp2
            go_roundg (d.f2.length - (j + 1))
            case measure => have := HJ.out; omega
            case rel =>
              refine ⟨j + 1, ?_, by go_num, ⟨by omega⟩, ⟨?_⟩⟩
              · rw [HS1.out, HS2.out, h5, h6]
                have hh1 := HL1.out
                have hh2 := HL2.out
                first
                  | (congr 1; simp only [if_true, if_false, Bool.false_eq_true]; unfold wrap64; omega)
                  | (simp; done)
              · exact pw_below_drewN HBd.out _
        · have h2 : decide (j < d.f2.length) = false := by simpa using hj
          have hz : cntB (rd_T37 d.f2 i) d.f2 j - cntB (rd_T37 d.f2 i) ol j = 0 := by
            have hjj : j = d.f2.length := by have := HJ.out; omega
            have h1 := HCN.out (rd_T37 d.f2 i)
            rw [HOL.out] at h1
            rw [hjj]
            omega
          rw [hz]
          clear hz
          go_wp2
          go_roundg (d.f2.length - (i + 1))
          case measure => have := HK.out; omega
          case rel => exact ⟨i + 1, by go_num, ⟨by omega⟩, HBJ⟩
    · have h1 : decide (i < d.f2.length) = false := by simpa using hlt
      go_wp2
      clear y0 y1 y2 DBl
      go_loopg [14] d.f2.length (fun kq v14 w' => ∃ m : Nat, v14 = .int .i64 ((m : Int) + 1) ∧ Aside0 (kq + m = d.f2.length) ∧ Aside0 (∀ q : Nat, q < m → ¬ (hadB (rd_T37 d.f2 (q : Int)) = true ∧ ownB (rd_T37 d.f2 ((q + 1 : Nat) : Int)) = true)) ∧ Aside0 (Below w4.heap.size w4 w'))
      case atStart => exact ⟨0, rfl, ⟨rfl⟩, ⟨fun q hq => absurd hq (by omega)⟩, HBL⟩
      case round =>
        obtain ⟨m, rfl, HK, HF, HB6⟩ := hrel
        have DBj := Aside0.mk (blk_below DB_6.out HB6.out)
        have y0 := (blk_cell DBj.out 0).trans rfl; have y1 := (blk_cell DBj.out 1).trans rfl; have y2 := (blk_cell DBj.out 2).trans rfl
        by_cases hlt : m + 1 < d.f2.length
        · have h1 : decide ((m : Int) + 1 < (d.f2.length : Int)) = true := by simpa using (by omega : (m : Int) + 1 < (d.f2.length : Int))
          have h0 : decide ((m : Int) < (d.f2.length : Int)) = true := by simpa using (by omega : (m : Int) < (d.f2.length : Int))
          have hm1 : m < d.f2.length := by omega
          have hm2 : (m : Int) + 1 < (d.f2.length : Int) := by omega
          have hall := vDesc_all HV.out
          rw [List.all_eq_true] at hall
          have HA1 := Aside0.mk (show vAce (rd_T37 d.f2 (m : Int)) = true by rw [rd_at (by omega)]; exact hall _ (List.getElem_mem _))
          have HA2 := Aside0.mk (show vAce (rd_T37 d.f2 ((m + 1 : Nat) : Int)) = true by rw [rd_at hlt]; exact hall _ (List.getElem_mem _))
          clear hall
          have hcast : ((m + 1 : Nat) : Int) = (m : Int) + 1 := by omega
          rw [hcast] at HA2
          clear hcast
          obtain ⟨ad, rfl, e0, e1, e2, e3⟩ := at_T37 (Kd.C_below HR2.out (HB4.out.trans (HB6.out.mono HB4.out.size))) (m : Int) (by omega) (by omega)
          simp only [Int.toNat_natCast] at e0 e1 e2 e3
          have HTN := Aside0.mk (show ((m : Int) + 1).toNat = m + 1 by omega)
          cases hh1 : hadB (rd_T37 d.f2 (m : Int)) <;> cases hh2 : hadB (rd_T37 d.f2 ((m : Int) + 1))
          all_goals
            have HH1 := Aside0.mk hh1
            have HH2 := Aside0.mk hh2
            clear hh1 hh2
            go_wp2_with ((with_reducible refine gate_dst (N := 117) rfl ?_); refine goesL_ (some 117) rfl rfl Try.func20 (by kernel_rfl) rfl #[.agg #[.bool (rd_T37 d.f2 (m : Int)).f0, .int .i64 (rd_T37 d.f2 (m : Int)).f1, .int .i64 (rd_T37 d.f2 (m : Int)).f2, .int .i64 (rd_T37 d.f2 (m : Int)).f3], .int .i64 16] rfl (by (try simp only [List.map_toArray, List.map_cons, List.map_nil]); first | done | rfl) ?_; refine (archivoltref23_Has.calls _ _ _ _ _ _ _ (has_f HA1.out)).mono ?_; rintro e w7 ⟨rfl, hb⟩; refine ⟨_, rfl, ?_⟩; rw [HH1.out]; have HB7 := Aside0.mk (below_step HB6.out hb); have DBk := Aside0.mk (blk_below DBj.out hb); clear hb y0 y1 y2 e0 e1 e2 e3; have y0 := (blk_cell DBk.out 0).trans rfl; have y1 := (blk_cell DBk.out 1).trans rfl; have y2 := (blk_cell DBk.out 2).trans rfl; obtain ⟨ad2, had, e0, e1, e2, e3⟩ := at_T37 (Kd.C_below HR2.out (HB4.out.trans (HB7.out.mono HB4.out.size))) ((m : Int) + 1) (by omega) (by omega); cases had; rw [HTN.out] at e0 e1 e2 e3)
          · go_roundg (d.f2.length - (m + 1))
            case measure => have := HK.out; omega
            case rel => exact ⟨m + 1, by go_num, ⟨by omega⟩, ⟨fun q hq => by
              rcases Nat.lt_or_ge q m with h | h
              · exact HF.out q h
              · obtain rfl : q = m := by omega
                rw [HH1.out]; simp⟩, HB7⟩
          · go_roundg (d.f2.length - (m + 1))
            case measure => have := HK.out; omega
            case rel => exact ⟨m + 1, by go_num, ⟨by omega⟩, ⟨fun q hq => by
              rcases Nat.lt_or_ge q m with h | h
              · exact HF.out q h
              · obtain rfl : q = m := by omega
                rw [HH1.out]; simp⟩, HB7⟩
          · go_at_call 20
            refine (archivoltref23_Has.calls _ _ _ _ _ _ _ (has_f HA2.out)).mono ?_
            rintro e w8 ⟨rfl, hb⟩
            rw [HH2.out]
            have HB8 := Aside0.mk (below_step HB7.out hb)
            clear hb y0 y1 y2 e0 e1 e2 e3
            go_wp2_with ((with_reducible refine gate_dst (N := 127) rfl ?_); refine goesL_ (some 127) rfl rfl Try.func15 (by kernel_rfl) rfl #[] rfl (by (try simp only [List.map_toArray, List.map_cons, List.map_nil]); first | done | rfl) ?_; refine (sane_calls _).mono ?_; rintro e w9 ⟨rfl, hb⟩; refine ⟨_, rfl, ?_⟩; have HB9 := Aside0.mk (below_step HB8.out hb); clear hb)
            go_ret
            exact ⟨rfl, HB4.out.trans (HB9.out.mono HB4.out.size)⟩
          · go_at_call 20
            refine (archivoltref23_Has.calls _ _ _ _ _ _ _ (has_f HA2.out)).mono ?_
            rintro e w8 ⟨rfl, hb⟩
            rw [HH2.out]
            have HB8 := Aside0.mk (below_step HB7.out hb)
            clear hb y0 y1 y2 e0 e1 e2 e3
            go_wp2_with ((with_reducible refine gate_dst (N := 127) rfl ?_); refine goesL_ (some 127) rfl rfl Try.func15 (by kernel_rfl) rfl #[] rfl (by (try simp only [List.map_toArray, List.map_cons, List.map_nil]); first | done | rfl) ?_; refine (sane_calls _).mono ?_; rintro e w9 ⟨rfl, hb⟩; refine ⟨_, rfl, ?_⟩; have HB9 := Aside0.mk (below_step HB8.out hb); clear hb)
            go_roundg (d.f2.length - (m + 1))
            case measure => have := HK.out; omega
            case rel => exact ⟨m + 1, by go_num, ⟨by omega⟩, ⟨fun q hq => by
              rcases Nat.lt_or_ge q m with h | h
              · exact HF.out q h
              · obtain rfl : q = m := by omega
                have hc : ((q + 1 : Nat) : Int) = (q : Int) + 1 := by omega
                rw [hc]
                have := HH2.out
                rw [had_own] at this
                intro h9
                rw [h9.2] at this
                cases this⟩, HB8⟩
        · have h1 : decide ((m : Int) + 1 < (d.f2.length : Int)) = false := by simpa using (by omega : (d.f2.length : Int) ≤ (m : Int) + 1)
          go_upto_region 26 with (fail)
          clear y0 y1 y2 h1
          have hq9 : Go.bits .or .i64 gm gm2 = gm := HOR.out (fun q hq => HF.out q (by omega))
          have TBj := Aside0.mk (blk_below TB_6.out HB6.out)
          have XBj := Aside0.mk (blk_below XB_6.out HB6.out)
          have HB6w := Aside0.mk (HB4.out.trans (HB6.out.mono HB4.out.size))
          have t0 := (blk_cell TBj.out 0).trans rfl; have t1 := (blk_cell TBj.out 1).trans rfl; have t2 := (blk_cell TBj.out 2).trans rfl
          have y0 := (blk_cell DBj.out 0).trans rfl; have y1 := (blk_cell DBj.out 1).trans rfl; have y2 := (blk_cell DBj.out 2).trans rfl
          go_upto_region 27 with ((with_reducible refine gate_dst (N := 131) rfl ?_); refine goesL_ (some 131) rfl rfl Try.func47 (by kernel_rfl) rfl #[.agg #[.int .i64 u, .slice G gs.length cg, .int .i64 pv], .agg #[.int .i64 d.f0, .bool d.f1, .slice A2 d.f2.length c2]] rfl (by (try simp only [List.map_toArray, List.map_cons, List.map_nil]); first | done | rfl) ?_; have hq := Granted_calls u pv d.f0 gs G A2 cg c2 d.f1 d.f2 _ (Kd.C_below HG.out HB6w.out) HGC.out (Kd.C_below HR2.out HB6w.out) HC2.out HV.out; rw [HGR.out] at hq; refine hq.mono ?_; rintro e w10 ⟨rfl, hb⟩; refine ⟨_, rfl, ?_⟩; dsimp only; have HB10 := Aside0.mk (below_step HB6w.out hb); have TBk := Aside0.mk (blk_below TBj.out hb); have XBk := Aside0.mk (blk_below XBj.out hb); have Xk := Aside0.mk (Kd.C_below (Kd.C_below X_6.out HB6.out) hb); clear hb hq y0 y1 y2 t0 t1 t2)
          have t0 := (blk_cell TBk.out 0).trans rfl; have t1 := (blk_cell TBk.out 1).trans rfl; have t2 := (blk_cell TBk.out 2).trans rfl
          have x0 := (blk_cell XBk.out 0).trans rfl; have x1 := (blk_cell XBk.out 1).trans rfl; have x2 := (blk_cell XBk.out 2).trans rfl
          rcases HGE.out with hge | hge
          all_goals
            subst hge
            go_wp2_with (first | ((with_reducible refine gate_dst (N := 137) rfl ?_); refine goesL_ (some 137) rfl rfl Try.func47 (by kernel_rfl) rfl #[.agg #[.int .i64 u, .slice G gs.length cg, .int .i64 pv], .agg #[.int .i64 d.f0, .bool d.f1, .slice XA ol.length Xc]] rfl (by (try simp only [List.map_toArray, List.map_cons, List.map_nil]); first | done | rfl) ?_; have hq := Granted_calls u pv d.f0 gs G XA cg Xc d.f1 ol _ (Kd.C_below HG.out HB10.out) HGC.out Xk.out XL.out HV2.out; rw [HGR2.out] at hq; refine hq.mono ?_; rintro e w11 ⟨rfl, hb⟩; refine ⟨_, rfl, ?_⟩; dsimp only; have HB11 := Aside0.mk (below_step HB10.out hb); clear hb hq x0 x1 x2 t0 t1 t2) | ((with_reducible refine gate_dst (N := 140) rfl ?_); refine goesL_ (some 140) rfl rfl Try.func15 (by kernel_rfl) rfl #[] rfl (by (try simp only [List.map_toArray, List.map_cons, List.map_nil]); first | done | rfl) ?_; refine (sane_calls _).mono ?_; rintro e w12 ⟨rfl, hb⟩; refine ⟨_, rfl, ?_⟩; have HB12 := Aside0.mk (below_step HB11.out hb); clear hb))
            go_ret
            exact ⟨rfl, HB12.out⟩
theorem order_any (u pv : Int) (gs : List Int) (G : Option Addr) (cg : Nat) (A2 : Option Addr) (c2 : Nat) (d : S33) (w : World) (hg : Kd.C (Kd.int .i64) w G gs.length gs) (hgc : gs.length ≤ cg) (hc2 : d.f2.length ≤ c2) (hr2 : k37.C w A2 d.f2.length d.f2) :
    Calls Try.prog 12 #[.agg #[.int .i64 u, .slice G gs.length cg, .int .i64 pv], .agg #[.int .i64 d.f0, .bool d.f1, .slice A2 d.f2.length c2]] w fun e w' => e = .returned (.bool true) ∧ Below w.heap.size w w' := by
  by_cases hv : vDesc d.f0 d.f2 = true
  · obtain ⟨gm, ge, hgr⟩ : ∃ gm ge, sGranted u gs pv d.f0 d.f2 = (gm, ge) := ⟨_, _, rfl⟩
    obtain ⟨gm2, ge2, hgr2⟩ : ∃ gm ge, sGranted u gs pv d.f0 (ordL d.f2) = (gm, ge) := ⟨_, _, rfl⟩
    have hge : ge2 = ge := by
      have h1 := congrArg Prod.snd hgr
      have h2 := congrArg Prod.snd hgr2
      simp only at h1 h2
      rw [← h1, ← h2]
      unfold sGranted
      by_cases ht : tokE u gs pv = 0
      · rw [if_pos ht, if_pos ht]
      · rw [if_neg ht, if_neg ht]
    subst hge
    have hg01 : ge2 = 0 ∨ ge2 = 1 := by
      have h2 := congrArg Prod.snd hgr2
      simp only at h2
      rw [← h2]
      unfold sGranted
      by_cases ht : tokE u gs pv = 0
      · rw [if_pos ht]; exact .inl rfl
      · rw [if_neg ht]; exact .inr rfl
    have hv2 := ord_valid hv
    exact order_full u pv gs G cg A2 c2 d w hg hgc hc2 hr2 (vDesc_len hv) (ordL d.f2) (ord_length _) (fun e => cntB_perm (ord_perm d.f2).symm)
      (by unfold sOrder; rw [if_pos (show vD ⟨d.f0, d.f1, d.f2⟩ = true from hv)]) (by unfold sOrder; rw [if_pos (show vD ⟨d.f0, d.f1, ordL d.f2⟩ = true from hv2)]; dsimp only; rw [ord_idem])
      (by unfold sOrdered; rw [if_pos (show vD ⟨d.f0, d.f1, ordL d.f2⟩ = true from hv2)]; dsimp only; rw [ord_idem]; simp) hv hv2 gm gm2 ge2 hgr hgr2 hg01
      (fun hf => by
        have := (granted_ord (u := u) (pv := pv) (o := d.f0) (gs := gs) hf).2
        rw [hgr, hgr2] at this
        exact this)
  · exact order_bad u pv gs G cg A2 c2 d w hg hgc hc2 hr2 (by unfold sOrder; rw [if_neg (show ¬ vD ⟨d.f0, d.f1, d.f2⟩ = true from hv)])
end Go.Proofs.Ytgocgjfaiddejaa.M
