/- InheritDescs: its walk. -/
import Derived.Test.YtgocgjfaiddejaaHI
import Derived.Test.YtgocgjfaiddejaaHK
import Derived.Test.YtgocgjfaiddejaaKB
namespace Go.Proofs.Ytgocgjfaiddejaa.M
open Go.RowKit Go.Proofs.YtgocgjfaiddejaaW.PrintWords Go.Proofs.YtgocgjfaiddejaaW.PrintLast Go.Proofs.YtgocgjfaiddejaaW.PrintMore
set_option linter.unusedVariables false
set_option linter.unusedSimpArgs false
set_option linter.unnecessarySimpa false

theorem Same_eq (d : S33) (A B : Option Addr) (c1 c2 : Nat) (w : World) (hr : k37.C w A d.f2.length d.f2) (hc : d.f2.length ≤ c1) (hr2 : k37.C w B d.f2.length d.f2) (hd : d.f2.length ≤ c2) :
    Calls Try.prog 29 #[.agg #[.int .i64 d.f0, .bool d.f1, .slice A d.f2.length c1], .agg #[.int .i64 d.f0, .bool d.f1, .slice B d.f2.length c2]] w fun e w' => e = .returned (.bool true) ∧ Below w.heap.size w w' := by
  refine (Same_calls d.f0 d.f0 d.f1 d.f1 A B c1 c2 d.f2 d.f2 w hr hc hr2 hd).mono ?_
  rintro e w' ⟨rfl, hb⟩
  exact ⟨by simp, hb⟩
set_option maxRecDepth 100000 in
set_option maxHeartbeats 2000000 in
theorem descs_long (A : Option Addr) (c : Nat) (p : S33) (A2 : Option Addr) (c2 : Nat) (d : S33) (dir keep : Bool) (w : World) (hc : p.f2.length ≤ c) (hr : k37.C w A p.f2.length p.f2) (hc2 : d.f2.length ≤ c2) (hr2 : k37.C w A2 d.f2.length d.f2) (hs : (decide (p.f2.length ≤ 40) && decide (d.f2.length ≤ 40)) = false) :
    Calls Try.prog 11 #[.agg #[.int .i64 p.f0, .bool p.f1, .slice A p.f2.length c], .agg #[.int .i64 d.f0, .bool d.f1, .slice A2 d.f2.length c2], .bool dir, .bool keep] w fun e w' => e = .returned (.bool true) ∧ Below w.heap.size w w' := by
  have HR := Aside0.mk hr
  have HC := Aside0.mk hc
  have HR2 := Aside0.mk hr2
  have HC2 := Aside0.mk hc2
  have HSH := Aside0.mk hs
  clear hr hc hr2 hc2 hs
  go_enter Try.func11, Try.ntmps11
  go_upto_region 1 with (fail)
  have hb_ := below_alloc (below_alloc (Below.refl _ w) (.cells #[.int .i64 p.f0, .bool p.f1, .slice A p.f2.length c] 33)) (.cells #[.int .i64 d.f0, .bool d.f1, .slice A2 d.f2.length c2] 33)
  have hG0_ := blk_alloc (blk_lit0 w (.cells #[.int .i64 p.f0, .bool p.f1, .slice A p.f2.length c] 33)) (.cells #[.int .i64 d.f0, .bool d.f1, .slice A2 d.f2.length c2] 33)
  have hG1_ := blk_lit w (.cells #[.int .i64 p.f0, .bool p.f1, .slice A p.f2.length c] 33) (.cells #[.int .i64 d.f0, .bool d.f1, .slice A2 d.f2.length c2] 33)
  generalize ((w.alloc (.cells #[.int .i64 p.f0, .bool p.f1, .slice A p.f2.length c] 33)).alloc (.cells #[.int .i64 d.f0, .bool d.f1, .slice A2 d.f2.length c2] 33)) = W at hb_ hG0_ hG1_ ⊢
  have HB_W := Aside0.mk hb_
  have W0 := Aside0.mk hG0_
  have W1 := Aside0.mk hG1_
  clear hb_ hG0_ hG1_
  have PB_0 := W0
  have DB_0 := W1
  clear W0 W1
  have x0 := (blk_cell PB_0.out 0).trans rfl; have x1 := (blk_cell PB_0.out 1).trans rfl; have x2 := (blk_cell PB_0.out 2).trans rfl
  have y0 := (blk_cell DB_0.out 0).trans rfl; have y1 := (blk_cell DB_0.out 1).trans rfl; have y2 := (blk_cell DB_0.out 2).trans rfl
  go_wp2_with (first | ((with_reducible refine gate_dst (N := 22) rfl ?_); refine goesL_ (some 22) rfl rfl Try.func24 (by kernel_rfl) rfl #[.slice (some ⟨W.heap.size, 0, none⟩) 2 2] rfl (by (try simp only [List.map_toArray, List.map_cons, List.map_nil]); first | done | rfl) ?_; refine (short_two _ p.f0 d.f0 p.f1 d.f1 A A2 c c2 p.f2 d.f2 _ (blk_new _ _) (Kd.C_alloc (Kd.C_below HR.out HB_W.out) _) HC.out (Kd.C_alloc (Kd.C_below HR2.out HB_W.out) _) HC2.out).mono ?_; rintro e w1 ⟨rfl, hb⟩; refine ⟨_, rfl, ?_⟩; rw [HSH.out]; have HB1 := Aside0.mk (below_step (below_alloc HB_W.out _) hb); have PB_1 := Aside0.mk (blk_below (blk_alloc PB_0.out _) hb); have DB_1 := Aside0.mk (blk_below (blk_alloc DB_0.out _) hb); clear PB_0 DB_0; clear hb x0 x1 x2 y0 y1 y2; have x0 := (blk_cell PB_1.out 0).trans rfl; have x1 := (blk_cell PB_1.out 1).trans rfl; have x2 := (blk_cell PB_1.out 2).trans rfl; have y0 := (blk_cell DB_1.out 0).trans rfl; have y1 := (blk_cell DB_1.out 1).trans rfl; have y2 := (blk_cell DB_1.out 2).trans rfl) | ((with_reducible refine gate_dst (N := 24) rfl ?_); refine goesL_ (some 24) rfl rfl Try.func15 (by kernel_rfl) rfl #[] rfl (by (try simp only [List.map_toArray, List.map_cons, List.map_nil]); first | done | rfl) ?_; refine (sane_calls _).mono ?_; rintro e w2 ⟨rfl, hb⟩; refine ⟨_, rfl, ?_⟩; have HB2 := Aside0.mk (below_step HB1.out hb); clear hb))
  go_ret
  exact ⟨rfl, HB2.out⟩
set_option maxRecDepth 100000 in
set_option maxHeartbeats 2000000 in
theorem descs_short (A : Option Addr) (c : Nat) (p : S33) (A2 : Option Addr) (c2 : Nat) (d : S33) (dir keep : Bool) (w : World) (hc : p.f2.length ≤ c) (hr : k37.C w A p.f2.length p.f2) (hc2 : d.f2.length ≤ c2) (hr2 : k37.C w A2 d.f2.length d.f2) (hs : (decide (p.f2.length ≤ 40) && decide (d.f2.length ≤ 40)) = true) (ro : Int) (rb : Bool) (rl : List S37) (re : Int) (no : Int) (nb : Bool) (nl : List S37) (ne : Int) (qo : Int) (qb : Bool) (ql : List S37) (qe : Int) (ob : Bool) (oe : Int)
    (hp : sProtect d keep = (⟨ro, rb, rl⟩, re)) (hn : sOpen p d dir = (⟨no, nb, nl⟩, ne)) (hq : sOrder ⟨d.f0, d.f1, d.f2⟩ = (⟨qo, qb, ql⟩, qe)) (ho : sOrdered d = (ob, oe)) :
    Calls Try.prog 11 #[.agg #[.int .i64 p.f0, .bool p.f1, .slice A p.f2.length c], .agg #[.int .i64 d.f0, .bool d.f1, .slice A2 d.f2.length c2], .bool dir, .bool keep] w fun e w' => e = .returned (.bool true) ∧ Below w.heap.size w w' := by
  have HR := Aside0.mk hr
  have HC := Aside0.mk hc
  have HR2 := Aside0.mk hr2
  have HC2 := Aside0.mk hc2
  have HSH := Aside0.mk hs
  have HPR := Aside0.mk hp
  have HPR2 := Aside0.mk (show sProtect ⟨d.f0, d.f1, d.f2⟩ keep = (⟨ro, rb, rl⟩, re) from hp)
  have HOP := Aside0.mk hn
  have HOR := Aside0.mk hq
  have HOD := Aside0.mk ho
  clear hr hc hr2 hc2 hs hp hn hq ho
  go_enter Try.func11, Try.ntmps11
  go_upto_region 1 with (fail)
  have hb_ := below_alloc (below_alloc (Below.refl _ w) (.cells #[.int .i64 p.f0, .bool p.f1, .slice A p.f2.length c] 33)) (.cells #[.int .i64 d.f0, .bool d.f1, .slice A2 d.f2.length c2] 33)
  have hG0_ := blk_alloc (blk_lit0 w (.cells #[.int .i64 p.f0, .bool p.f1, .slice A p.f2.length c] 33)) (.cells #[.int .i64 d.f0, .bool d.f1, .slice A2 d.f2.length c2] 33)
  have hG1_ := blk_lit w (.cells #[.int .i64 p.f0, .bool p.f1, .slice A p.f2.length c] 33) (.cells #[.int .i64 d.f0, .bool d.f1, .slice A2 d.f2.length c2] 33)
  generalize ((w.alloc (.cells #[.int .i64 p.f0, .bool p.f1, .slice A p.f2.length c] 33)).alloc (.cells #[.int .i64 d.f0, .bool d.f1, .slice A2 d.f2.length c2] 33)) = W at hb_ hG0_ hG1_ ⊢
  have HB_W := Aside0.mk hb_
  have W0 := Aside0.mk hG0_
  have W1 := Aside0.mk hG1_
  clear hb_ hG0_ hG1_
  have PB_0 := W0
  have DB_0 := W1
  clear W0 W1
  have x0 := (blk_cell PB_0.out 0).trans rfl; have x1 := (blk_cell PB_0.out 1).trans rfl; have x2 := (blk_cell PB_0.out 2).trans rfl
  have y0 := (blk_cell DB_0.out 0).trans rfl; have y1 := (blk_cell DB_0.out 1).trans rfl; have y2 := (blk_cell DB_0.out 2).trans rfl
  go_upto_region 4 with (first | ((with_reducible refine gate_dst (N := 22) rfl ?_); refine goesL_ (some 22) rfl rfl Try.func24 (by kernel_rfl) rfl #[.slice (some ⟨W.heap.size, 0, none⟩) 2 2] rfl (by (try simp only [List.map_toArray, List.map_cons, List.map_nil]); first | done | rfl) ?_; refine (short_two _ p.f0 d.f0 p.f1 d.f1 A A2 c c2 p.f2 d.f2 _ (blk_new _ _) (Kd.C_alloc (Kd.C_below HR.out HB_W.out) _) HC.out (Kd.C_alloc (Kd.C_below HR2.out HB_W.out) _) HC2.out).mono ?_; rintro e w1 ⟨rfl, hb⟩; refine ⟨_, rfl, ?_⟩; rw [HSH.out]; have HB1 := Aside0.mk (below_step (below_alloc HB_W.out _) hb); have PB_1 := Aside0.mk (blk_below (blk_alloc PB_0.out _) hb); have DB_1 := Aside0.mk (blk_below (blk_alloc DB_0.out _) hb); clear PB_0 DB_0; clear hb x0 x1 x2 y0 y1 y2; have x0 := (blk_cell PB_1.out 0).trans rfl; have x1 := (blk_cell PB_1.out 1).trans rfl; have x2 := (blk_cell PB_1.out 2).trans rfl; have y0 := (blk_cell DB_1.out 0).trans rfl; have y1 := (blk_cell DB_1.out 1).trans rfl; have y2 := (blk_cell DB_1.out 2).trans rfl) | ((with_reducible refine gate_dst (N := 28) rfl ?_); refine goesL_ (some 28) rfl rfl Try.func39 (by kernel_rfl) rfl #[.agg #[.int .i64 d.f0, .bool d.f1, .slice A2 d.f2.length c2], .bool keep] rfl (by (try simp only [List.map_toArray, List.map_cons, List.map_nil]); first | done | rfl) ?_; have hq := Protect_calls d A2 c2 _ (Kd.C_below HR2.out HB1.out) HC2.out keep; rw [HPR.out] at hq; refine hq.mono ?_; rintro e w2 ⟨v, rfl, hra, hb⟩; refine ⟨_, rfl, ?_⟩; replace hra : RA w2 _ v rl := hra; dsimp only; obtain ⟨XA, Xc, rfl⟩ := Kd.R_slice hra; have HB2 := Aside0.mk (below_step HB1.out hb); have PB_2 := Aside0.mk (blk_below PB_1.out hb); have DB_2 := Aside0.mk (blk_below DB_1.out hb); clear PB_1 DB_1; have X_0 := Aside0.mk (Kd.R_reads' hra).2.2; have XL := Aside0.mk (Kd.R_reads' hra).2.1; clear hra hb hq x0 x1 x2 y0 y1 y2))
  have XD := Aside0.mk (blk_lt DB_2.out)
  have hb_ := below_alloc (Below.refl _ w2) (.cells #[.int .i64 ro, .bool rb, .slice XA rl.length Xc] 33)
  have hG0_ := blk_lit0 w2 (.cells #[.int .i64 ro, .bool rb, .slice XA rl.length Xc] 33)
  generalize (w2.alloc (.cells #[.int .i64 ro, .bool rb, .slice XA rl.length Xc] 33)) = V at hb_ hG0_ ⊢
  have HB_V := Aside0.mk hb_
  have V0 := Aside0.mk hG0_
  clear hb_ hG0_
  have PB_3 := Aside0.mk (blk_below PB_2.out HB_V.out)
  have DB_3 := Aside0.mk (blk_below DB_2.out HB_V.out)
  have X_3 := Aside0.mk (Kd.C_below X_0.out HB_V.out)
  clear PB_2 DB_2 X_0
  have HBV := Aside0.mk (below_step HB2.out HB_V.out)
  have x0 := (blk_cell PB_3.out 0).trans rfl; have x1 := (blk_cell PB_3.out 1).trans rfl; have x2 := (blk_cell PB_3.out 2).trans rfl; have y0 := (blk_cell DB_3.out 0).trans rfl; have y1 := (blk_cell DB_3.out 1).trans rfl; have y2 := (blk_cell DB_3.out 2).trans rfl
  go_upto_region 5 with ((with_reducible refine gate_dst (N := 34) rfl ?_); refine goesL_ (some 34) rfl rfl Try.func40 (by kernel_rfl) rfl #[.agg #[.int .i64 d.f0, .bool d.f1, .slice A2 d.f2.length c2], .bool keep] rfl (by (try simp only [List.map_toArray, List.map_cons, List.map_nil]); first | done | rfl) ?_; have hq := rProtect_calls d.f0 d.f1 A2 c2 d.f2 keep _ (Kd.C_below HR2.out HBV.out) HC2.out; rw [HPR2.out] at hq; refine hq.mono ?_; rintro e w3 ⟨v, rfl, hra, hb⟩; refine ⟨_, rfl, ?_⟩; replace hra : RA w3 _ v rl := hra; dsimp only; obtain ⟨YA, Yc, rfl⟩ := Kd.R_slice hra; have HB3 := Aside0.mk (below_step HBV.out hb); have PB_4 := Aside0.mk (blk_below PB_3.out hb); have DB_4 := Aside0.mk (blk_below DB_3.out hb); have X_4 := Aside0.mk (Kd.C_below X_3.out hb); have XB_4 := Aside0.mk (blk_below V0.out hb); clear PB_3 DB_3 X_3 V0; have Y_0 := Aside0.mk (Kd.R_reads' hra).2.2; have YL := Aside0.mk (Kd.R_reads' hra).2.1; clear hra hb hq x0 x1 x2 y0 y1 y2)
  have YD := Aside0.mk (blk_lt DB_4.out)
  have YX := Aside0.mk (blk_lt XB_4.out)
  have hb_ := below_alloc (Below.refl _ w3) (.cells #[.int .i64 ro, .bool rb, .slice YA rl.length Yc] 33)
  have hG0_ := blk_lit0 w3 (.cells #[.int .i64 ro, .bool rb, .slice YA rl.length Yc] 33)
  generalize (w3.alloc (.cells #[.int .i64 ro, .bool rb, .slice YA rl.length Yc] 33)) = U at hb_ hG0_ ⊢
  have HB_U := Aside0.mk hb_
  have U0 := Aside0.mk hG0_
  clear hb_ hG0_
  have PB_5 := Aside0.mk (blk_below PB_4.out HB_U.out)
  have DB_5 := Aside0.mk (blk_below DB_4.out HB_U.out)
  have X_5 := Aside0.mk (Kd.C_below X_4.out HB_U.out)
  have XB_5 := Aside0.mk (blk_below XB_4.out HB_U.out)
  have Y_5 := Aside0.mk (Kd.C_below Y_0.out HB_U.out)
  clear PB_4 DB_4 X_4 XB_4 Y_0
  have HBU := Aside0.mk (below_step HB3.out HB_U.out)
  have x0 := (blk_cell PB_5.out 0).trans rfl; have x1 := (blk_cell PB_5.out 1).trans rfl; have x2 := (blk_cell PB_5.out 2).trans rfl; have y0 := (blk_cell DB_5.out 0).trans rfl; have y1 := (blk_cell DB_5.out 1).trans rfl; have y2 := (blk_cell DB_5.out 2).trans rfl
  go_upto_region 6 with ((with_reducible refine gate_dst (N := 41) rfl ?_); refine goesL_ (some 41) rfl rfl Try.func41 (by kernel_rfl) rfl #[.agg #[.int .i64 p.f0, .bool p.f1, .slice A p.f2.length c], .agg #[.int .i64 d.f0, .bool d.f1, .slice A2 d.f2.length c2], .bool dir] rfl (by (try simp only [List.map_toArray, List.map_cons, List.map_nil]); first | done | rfl) ?_; have hq := Open_calls p d A A2 c c2 dir _ (Kd.C_below HR.out HBU.out) HC.out (Kd.C_below HR2.out HBU.out) HC2.out; rw [HOP.out] at hq; refine hq.mono ?_; rintro e w4 ⟨v, rfl, hra, hb⟩; refine ⟨_, rfl, ?_⟩; replace hra : RA w4 _ v nl := hra; dsimp only; obtain ⟨MA, Mc, rfl⟩ := Kd.R_slice hra; have HB4 := Aside0.mk (below_step HBU.out hb); have PB_6 := Aside0.mk (blk_below PB_5.out hb); have DB_6 := Aside0.mk (blk_below DB_5.out hb); have X_6 := Aside0.mk (Kd.C_below X_5.out hb); have XB_6 := Aside0.mk (blk_below XB_5.out hb); have Y_6 := Aside0.mk (Kd.C_below Y_5.out hb); have YB_6 := Aside0.mk (blk_below U0.out hb); clear PB_5 DB_5 X_5 XB_5 Y_5 U0; have M_0 := Aside0.mk (Kd.R_reads' hra).2.2; have ML := Aside0.mk (Kd.R_reads' hra).2.1; clear hra hb hq x0 x1 x2 y0 y1 y2)
  have MD := Aside0.mk (blk_lt DB_6.out)
  have hb_ := below_alloc (Below.refl _ w4) (.cells #[.int .i64 no, .bool nb, .slice MA nl.length Mc] 33)
  have hG0_ := blk_lit0 w4 (.cells #[.int .i64 no, .bool nb, .slice MA nl.length Mc] 33)
  generalize (w4.alloc (.cells #[.int .i64 no, .bool nb, .slice MA nl.length Mc] 33)) = S at hb_ hG0_ ⊢
  have HB_S := Aside0.mk hb_
  have S0 := Aside0.mk hG0_
  clear hb_ hG0_
  have PB_7 := Aside0.mk (blk_below PB_6.out HB_S.out)
  have DB_7 := Aside0.mk (blk_below DB_6.out HB_S.out)
  have X_7 := Aside0.mk (Kd.C_below X_6.out HB_S.out)
  have XB_7 := Aside0.mk (blk_below XB_6.out HB_S.out)
  have Y_7 := Aside0.mk (Kd.C_below Y_6.out HB_S.out)
  have YB_7 := Aside0.mk (blk_below YB_6.out HB_S.out)
  have M_7 := Aside0.mk (Kd.C_below M_0.out HB_S.out)
  clear PB_6 DB_6 X_6 XB_6 Y_6 YB_6 M_0
  have HBS := Aside0.mk (below_step HB4.out HB_S.out)
  have x0 := (blk_cell PB_7.out 0).trans rfl; have x1 := (blk_cell PB_7.out 1).trans rfl; have x2 := (blk_cell PB_7.out 2).trans rfl; have y0 := (blk_cell DB_7.out 0).trans rfl; have y1 := (blk_cell DB_7.out 1).trans rfl; have y2 := (blk_cell DB_7.out 2).trans rfl
  go_upto_region 7 with ((with_reducible refine gate_dst (N := 48) rfl ?_); refine goesL_ (some 48) rfl rfl Try.func42 (by kernel_rfl) rfl #[.agg #[.int .i64 p.f0, .bool p.f1, .slice A p.f2.length c], .agg #[.int .i64 d.f0, .bool d.f1, .slice A2 d.f2.length c2], .bool dir] rfl (by (try simp only [List.map_toArray, List.map_cons, List.map_nil]); first | done | rfl) ?_; have hq := rOpen_calls p d A A2 c c2 dir _ (Kd.C_below HR.out HBS.out) HC.out (Kd.C_below HR2.out HBS.out) HC2.out; rw [HOP.out] at hq; refine hq.mono ?_; rintro e w5 ⟨v, rfl, hra, hb⟩; refine ⟨_, rfl, ?_⟩; replace hra : RA w5 _ v nl := hra; dsimp only; obtain ⟨NA, Nc, rfl⟩ := Kd.R_slice hra; have HB5 := Aside0.mk (below_step HBS.out hb); have PB_8 := Aside0.mk (blk_below PB_7.out hb); have DB_8 := Aside0.mk (blk_below DB_7.out hb); have X_8 := Aside0.mk (Kd.C_below X_7.out hb); have XB_8 := Aside0.mk (blk_below XB_7.out hb); have Y_8 := Aside0.mk (Kd.C_below Y_7.out hb); have YB_8 := Aside0.mk (blk_below YB_7.out hb); have M_8 := Aside0.mk (Kd.C_below M_7.out hb); have MB_8 := Aside0.mk (blk_below S0.out hb); clear PB_7 DB_7 X_7 XB_7 Y_7 YB_7 M_7 S0; have N_0 := Aside0.mk (Kd.R_reads' hra).2.2; have NL := Aside0.mk (Kd.R_reads' hra).2.1; clear hra hb hq x0 x1 x2 y0 y1 y2)
  have ND := Aside0.mk (blk_lt DB_8.out)
  have hb_ := below_alloc (Below.refl _ w5) (.cells #[.int .i64 no, .bool nb, .slice NA nl.length Nc] 33)
  have hG0_ := blk_lit0 w5 (.cells #[.int .i64 no, .bool nb, .slice NA nl.length Nc] 33)
  generalize (w5.alloc (.cells #[.int .i64 no, .bool nb, .slice NA nl.length Nc] 33)) = Q at hb_ hG0_ ⊢
  have HB_Q := Aside0.mk hb_
  have Q0 := Aside0.mk hG0_
  clear hb_ hG0_
  have PB_9 := Aside0.mk (blk_below PB_8.out HB_Q.out)
  have DB_9 := Aside0.mk (blk_below DB_8.out HB_Q.out)
  have X_9 := Aside0.mk (Kd.C_below X_8.out HB_Q.out)
  have XB_9 := Aside0.mk (blk_below XB_8.out HB_Q.out)
  have Y_9 := Aside0.mk (Kd.C_below Y_8.out HB_Q.out)
  have YB_9 := Aside0.mk (blk_below YB_8.out HB_Q.out)
  have M_9 := Aside0.mk (Kd.C_below M_8.out HB_Q.out)
  have MB_9 := Aside0.mk (blk_below MB_8.out HB_Q.out)
  have N_9 := Aside0.mk (Kd.C_below N_0.out HB_Q.out)
  clear PB_8 DB_8 X_8 XB_8 Y_8 YB_8 M_8 MB_8 N_0
  have HBQ := Aside0.mk (below_step HB5.out HB_Q.out)
  have x0 := (blk_cell PB_9.out 0).trans rfl; have x1 := (blk_cell PB_9.out 1).trans rfl; have x2 := (blk_cell PB_9.out 2).trans rfl; have y0 := (blk_cell DB_9.out 0).trans rfl; have y1 := (blk_cell DB_9.out 1).trans rfl; have y2 := (blk_cell DB_9.out 2).trans rfl
  clear x0 x1 x2
  have x0 := (blk_cell XB_9.out 0).trans rfl; have x1 := (blk_cell XB_9.out 1).trans rfl; have x2 := (blk_cell XB_9.out 2).trans rfl
  have u0 := (blk_cell YB_9.out 0).trans rfl; have u1 := (blk_cell YB_9.out 1).trans rfl; have u2 := (blk_cell YB_9.out 2).trans rfl
  have z0 := (blk_cell MB_9.out 0).trans rfl; have z1 := (blk_cell MB_9.out 1).trans rfl; have z2 := (blk_cell MB_9.out 2).trans rfl
  have v0 := (blk_cell Q0.out 0).trans rfl; have v1 := (blk_cell Q0.out 1).trans rfl; have v2 := (blk_cell Q0.out 2).trans rfl
  go_wp2_with ((with_reducible refine gate_dst (N := 53) rfl ?_); refine goesL_ (some 53) rfl rfl Try.func29 (by kernel_rfl) rfl #[.agg #[.int .i64 ro, .bool rb, .slice XA rl.length Xc], .agg #[.int .i64 ro, .bool rb, .slice YA rl.length Yc]] rfl (by (try simp only [List.map_toArray, List.map_cons, List.map_nil]); first | done | rfl) ?_; refine (Same_eq ⟨ro, rb, rl⟩ XA YA Xc Yc _ X_9.out XL.out Y_9.out YL.out).mono ?_; rintro e w6 ⟨rfl, hb⟩; refine ⟨_, rfl, ?_⟩; have HB6 := Aside0.mk (below_step HBQ.out hb); have DB_10 := Aside0.mk (blk_below DB_9.out hb); have XB_10 := Aside0.mk (blk_below XB_9.out hb); have YB_10 := Aside0.mk (blk_below YB_9.out hb); have M_10 := Aside0.mk (Kd.C_below M_9.out hb); have MB_10 := Aside0.mk (blk_below MB_9.out hb); have N_10 := Aside0.mk (Kd.C_below N_9.out hb); have NB_10 := Aside0.mk (blk_below Q0.out hb); clear DB_9 XB_9 YB_9 M_9 MB_9 N_9 Q0; clear hb x0 x1 x2 y0 y1 y2 u0 u1 u2 z0 z1 z2 v0 v1 v2; have z0 := (blk_cell MB_10.out 0).trans rfl; have z1 := (blk_cell MB_10.out 1).trans rfl; have z2 := (blk_cell MB_10.out 2).trans rfl; have v0 := (blk_cell NB_10.out 0).trans rfl; have v1 := (blk_cell NB_10.out 1).trans rfl; have v2 := (blk_cell NB_10.out 2).trans rfl)
  go_at_call 29
  refine (Same_eq ⟨no, nb, nl⟩ MA NA Mc Nc _ M_10.out ML.out N_10.out NL.out).mono ?_
  rintro e w7 ⟨rfl, hb⟩
  have HB7 := Aside0.mk (below_step HB6.out hb)
  have DB_11 := Aside0.mk (blk_below DB_10.out hb)
  have XB_11 := Aside0.mk (blk_below XB_10.out hb)
  have YB_11 := Aside0.mk (blk_below YB_10.out hb)
  clear DB_10 XB_10 YB_10
  clear hb z0 z1 z2 v0 v1 v2
  have y0 := (blk_cell DB_11.out 0).trans rfl; have y1 := (blk_cell DB_11.out 1).trans rfl; have y2 := (blk_cell DB_11.out 2).trans rfl
  have x0 := (blk_cell XB_11.out 0).trans rfl; have x1 := (blk_cell XB_11.out 1).trans rfl; have x2 := (blk_cell XB_11.out 2).trans rfl
  have fx0 := blk_frozen XB_11.out 0; have fx1 := blk_frozen XB_11.out 1; have fx2 := blk_frozen XB_11.out 2
  go_upto_region 10 with ((with_reducible refine gate_dst (N := 73) rfl ?_); refine goesL_ (some 73) rfl rfl Try.func43 (by kernel_rfl) rfl #[.agg #[.int .i64 d.f0, .bool d.f1, .slice A2 d.f2.length c2]] rfl (by (try simp only [List.map_toArray, List.map_cons, List.map_nil]); first | done | rfl) ?_; have hq := Order_calls d.f0 d.f1 A2 c2 d.f2 _ (Kd.C_below HR2.out HB7.out) HC2.out; rw [HOR.out] at hq; refine hq.mono ?_; rintro e w8 ⟨v, rfl, hra, hb⟩; refine ⟨_, rfl, ?_⟩; replace hra : RA w8 _ v ql := hra; dsimp only; obtain ⟨OA, Oc, rfl⟩ := Kd.R_slice hra; have HB8 := Aside0.mk (below_step HB7.out hb); have DB_12 := Aside0.mk (blk_below DB_11.out hb); have XB_12 := Aside0.mk (blk_below XB_11.out hb); have YB_12 := Aside0.mk (blk_below YB_11.out hb); clear DB_11 XB_11 YB_11; have O_0 := Aside0.mk (Kd.R_lower hra HB7.out.size); clear hra hb hq y0 y1 y2 x0 x1 x2 fx0 fx1 fx2; have x0 := (blk_cell XB_12.out 0).trans rfl; have x1 := (blk_cell XB_12.out 1).trans rfl; have x2 := (blk_cell XB_12.out 2).trans rfl; have fx0 := blk_frozen XB_12.out 0; have fx1 := blk_frozen XB_12.out 1; have fx2 := blk_frozen XB_12.out 2)
  obtain ⟨w9, hw⟩ : ∃ w9, w9 = (((w8.setCell ⟨w2.heap.size, 0, none⟩ (.int .i64 qo)).setCell ⟨w2.heap.size, 1, none⟩ (.bool qb)).setCell ⟨w2.heap.size, 2, none⟩ (.slice OA ql.length Oc)) := ⟨_, rfl⟩
  rw [← hw]
  have q1 := blk_put XB_12.out 0 (.int .i64 qo) rfl
  have q2 := blk_put q1 1 (.bool qb) rfl
  have q3 := blk_put q2 2 (.slice OA ql.length Oc) rfl
  have XBs9 := Aside0.mk (show w9.heap[w2.heap.size]? = some (.cells #[.int .i64 qo, .bool qb, .slice OA ql.length Oc] 33 (0, 0)) by rw [hw]; exact q3)
  have HGW := HB8.out.size
  have hgw : w.heap.size ≤ w2.heap.size := by have := XD.out; omega
  have HB9 := Aside0.mk (show Below w.heap.size w w9 by rw [hw]; exact ((HB8.out.setCell (p := ⟨w2.heap.size, 0, none⟩) hgw _).setCell (p := ⟨w2.heap.size, 1, none⟩) hgw _).setCell (p := ⟨w2.heap.size, 2, none⟩) hgw _)
  have DBs9 := Aside0.mk (show w9.heap[w.heap.size + 1]? = some (.cells #[.int .i64 d.f0, .bool d.f1, .slice A2 d.f2.length c2] 33 (0, 0)) by rw [hw]; exact blk_far (blk_far (blk_far DB_12.out (show w.heap.size + 1 ≠ w2.heap.size by have := XD.out; omega) _) (show w.heap.size + 1 ≠ w2.heap.size by have := XD.out; omega) _) (show w.heap.size + 1 ≠ w2.heap.size by have := XD.out; omega) _)
  have YBs9 := Aside0.mk (show w9.heap[w3.heap.size]? = some (.cells #[.int .i64 ro, .bool rb, .slice YA rl.length Yc] 33 (0, 0)) by rw [hw]; exact blk_far (blk_far (blk_far YB_12.out (show w3.heap.size ≠ w2.heap.size by have := YX.out; omega) _) (show w3.heap.size ≠ w2.heap.size by have := YX.out; omega) _) (show w3.heap.size ≠ w2.heap.size by have := YX.out; omega) _)
  have Os9 := Aside0.mk (show RA w9 w.heap.size (.slice OA ql.length Oc) ql by rw [hw]; exact Kd.R_set (Kd.R_set (Kd.R_set O_0.out XB_12.out (by decide) 0 _) q1 (by decide) 1 _) q2 (by decide) 2 _)
  clear hw q1 q2 q3 x0 x1 x2 fx0 fx1 fx2 HGW hgw
  have y0 := (blk_cell DBs9.out 0).trans rfl; have y1 := (blk_cell DBs9.out 1).trans rfl; have y2 := (blk_cell DBs9.out 2).trans rfl
  have u0 := (blk_cell YBs9.out 0).trans rfl; have u1 := (blk_cell YBs9.out 1).trans rfl; have u2 := (blk_cell YBs9.out 2).trans rfl
  have fu0 := blk_frozen YBs9.out 0; have fu1 := blk_frozen YBs9.out 1; have fu2 := blk_frozen YBs9.out 2
  go_upto_region 11 with ((with_reducible refine gate_dst (N := 78) rfl ?_); refine goesL_ (some 78) rfl rfl Try.func44 (by kernel_rfl) rfl #[.agg #[.int .i64 d.f0, .bool d.f1, .slice A2 d.f2.length c2]] rfl (by (try simp only [List.map_toArray, List.map_cons, List.map_nil]); first | done | rfl) ?_; have hq := rOrder_calls d.f0 d.f1 A2 c2 d.f2 _ (Kd.C_below HR2.out HB9.out) HC2.out; rw [HOR.out] at hq; refine hq.mono ?_; rintro e w10 ⟨v, rfl, hra, hb⟩; refine ⟨_, rfl, ?_⟩; replace hra : RA w10 _ v ql := hra; dsimp only; obtain ⟨GA, Gc, rfl⟩ := Kd.R_slice hra; have HB10 := Aside0.mk (below_step HB9.out hb); have DB_13 := Aside0.mk (blk_below DBs9.out hb); have XB_13 := Aside0.mk (blk_below XBs9.out hb); have YB_13 := Aside0.mk (blk_below YBs9.out hb); have O_13 := Aside0.mk (Kd.R_below Os9.out hb); clear DBs9 XBs9 YBs9 Os9; have G_0 := Aside0.mk (Kd.R_lower hra HB9.out.size); clear hra hb hq y0 y1 y2 u0 u1 u2 fu0 fu1 fu2; have u0 := (blk_cell YB_13.out 0).trans rfl; have u1 := (blk_cell YB_13.out 1).trans rfl; have u2 := (blk_cell YB_13.out 2).trans rfl; have fu0 := blk_frozen YB_13.out 0; have fu1 := blk_frozen YB_13.out 1; have fu2 := blk_frozen YB_13.out 2)
  obtain ⟨w11, hw⟩ : ∃ w11, w11 = (((w10.setCell ⟨w3.heap.size, 0, none⟩ (.int .i64 qo)).setCell ⟨w3.heap.size, 1, none⟩ (.bool qb)).setCell ⟨w3.heap.size, 2, none⟩ (.slice GA ql.length Gc)) := ⟨_, rfl⟩
  rw [← hw]
  have q1 := blk_put YB_13.out 0 (.int .i64 qo) rfl
  have q2 := blk_put q1 1 (.bool qb) rfl
  have q3 := blk_put q2 2 (.slice GA ql.length Gc) rfl
  have YBs11 := Aside0.mk (show w11.heap[w3.heap.size]? = some (.cells #[.int .i64 qo, .bool qb, .slice GA ql.length Gc] 33 (0, 0)) by rw [hw]; exact q3)
  have HGW := HB10.out.size
  have hgw : w.heap.size ≤ w3.heap.size := by have := YD.out; omega
  have HB11 := Aside0.mk (show Below w.heap.size w w11 by rw [hw]; exact ((HB10.out.setCell (p := ⟨w3.heap.size, 0, none⟩) hgw _).setCell (p := ⟨w3.heap.size, 1, none⟩) hgw _).setCell (p := ⟨w3.heap.size, 2, none⟩) hgw _)
  have DBs11 := Aside0.mk (show w11.heap[w.heap.size + 1]? = some (.cells #[.int .i64 d.f0, .bool d.f1, .slice A2 d.f2.length c2] 33 (0, 0)) by rw [hw]; exact blk_far (blk_far (blk_far DB_13.out (show w.heap.size + 1 ≠ w3.heap.size by have := YD.out; omega) _) (show w.heap.size + 1 ≠ w3.heap.size by have := YD.out; omega) _) (show w.heap.size + 1 ≠ w3.heap.size by have := YD.out; omega) _)
  have XBs11 := Aside0.mk (show w11.heap[w2.heap.size]? = some (.cells #[.int .i64 qo, .bool qb, .slice OA ql.length Oc] 33 (0, 0)) by rw [hw]; exact blk_far (blk_far (blk_far XB_13.out (show w2.heap.size ≠ w3.heap.size by have := YX.out; omega) _) (show w2.heap.size ≠ w3.heap.size by have := YX.out; omega) _) (show w2.heap.size ≠ w3.heap.size by have := YX.out; omega) _)
  have Os11 := Aside0.mk (show RA w11 w.heap.size (.slice OA ql.length Oc) ql by rw [hw]; exact Kd.R_set (Kd.R_set (Kd.R_set O_13.out YB_13.out (by decide) 0 _) q1 (by decide) 1 _) q2 (by decide) 2 _)
  have Gs11 := Aside0.mk (show RA w11 w.heap.size (.slice GA ql.length Gc) ql by rw [hw]; exact Kd.R_set (Kd.R_set (Kd.R_set G_0.out YB_13.out (by decide) 0 _) q1 (by decide) 1 _) q2 (by decide) 2 _)
  clear hw q1 q2 q3 u0 u1 u2 fu0 fu1 fu2 HGW hgw
  have y0 := (blk_cell DBs11.out 0).trans rfl; have y1 := (blk_cell DBs11.out 1).trans rfl; have y2 := (blk_cell DBs11.out 2).trans rfl
  go_wp2_with (first | ((with_reducible refine gate_dst (N := 83) rfl ?_); refine goesL_ (some 83) rfl rfl Try.func45 (by kernel_rfl) rfl #[.agg #[.int .i64 d.f0, .bool d.f1, .slice A2 d.f2.length c2]] rfl (by (try simp only [List.map_toArray, List.map_cons, List.map_nil]); first | done | rfl) ?_; have hq := Ordered_calls d A2 c2 _ (Kd.C_below HR2.out HB11.out) HC2.out; rw [HOD.out] at hq; refine hq.mono ?_; rintro e w12 ⟨rfl, hb⟩; refine ⟨_, rfl, ?_⟩; have HB12 := Aside0.mk (below_step HB11.out hb); have DB_14 := Aside0.mk (blk_below DBs11.out hb); have XB_14 := Aside0.mk (blk_below XBs11.out hb); have YB_14 := Aside0.mk (blk_below YBs11.out hb); have O_14 := Aside0.mk (Kd.R_below Os11.out hb); have G_14 := Aside0.mk (Kd.R_below Gs11.out hb); clear DBs11 XBs11 YBs11 Os11 Gs11; clear hb hq y0 y1 y2; have y0 := (blk_cell DB_14.out 0).trans rfl; have y1 := (blk_cell DB_14.out 1).trans rfl; have y2 := (blk_cell DB_14.out 2).trans rfl) | ((with_reducible refine gate_dst (N := 88) rfl ?_); refine goesL_ (some 88) rfl rfl Try.func46 (by kernel_rfl) rfl #[.agg #[.int .i64 d.f0, .bool d.f1, .slice A2 d.f2.length c2]] rfl (by (try simp only [List.map_toArray, List.map_cons, List.map_nil]); first | done | rfl) ?_; have hq := rOrdered_calls d A2 c2 _ (Kd.C_below HR2.out HB12.out) HC2.out; rw [HOD.out] at hq; refine hq.mono ?_; rintro e w13 ⟨rfl, hb⟩; refine ⟨_, rfl, ?_⟩; have HB13 := Aside0.mk (below_step HB12.out hb); have DB_15 := Aside0.mk (blk_below DB_14.out hb); have XB_15 := Aside0.mk (blk_below XB_14.out hb); have YB_15 := Aside0.mk (blk_below YB_14.out hb); have O_15 := Aside0.mk (Kd.R_below O_14.out hb); have G_15 := Aside0.mk (Kd.R_below G_14.out hb); clear DB_14 XB_14 YB_14 O_14 G_14; clear hb hq y0 y1 y2) | ((with_reducible refine gate_dst (N := 91) rfl ?_); refine goesL_ (some 91) rfl rfl Try.func15 (by kernel_rfl) rfl #[] rfl (by (try simp only [List.map_toArray, List.map_cons, List.map_nil]); first | done | rfl) ?_; refine (sane_calls _).mono ?_; rintro e w14 ⟨rfl, hb⟩; refine ⟨_, rfl, ?_⟩; have HB14 := Aside0.mk (below_step HB13.out hb); have DB_16 := Aside0.mk (blk_below DB_15.out hb); have XB_16 := Aside0.mk (blk_below XB_15.out hb); have YB_16 := Aside0.mk (blk_below YB_15.out hb); have O_16 := Aside0.mk (Kd.R_below O_15.out hb); have G_16 := Aside0.mk (Kd.R_below G_15.out hb); clear DB_15 XB_15 YB_15 O_15 G_15; clear hb; have x0 := (blk_cell XB_16.out 0).trans rfl; have x1 := (blk_cell XB_16.out 1).trans rfl; have x2 := (blk_cell XB_16.out 2).trans rfl; have u0 := (blk_cell YB_16.out 0).trans rfl; have u1 := (blk_cell YB_16.out 1).trans rfl; have u2 := (blk_cell YB_16.out 2).trans rfl))
  go_at_call 29
  refine (Same_eq ⟨qo, qb, ql⟩ OA GA Oc Gc _ (Kd.R_reads' O_16.out).2.2 (Kd.R_reads' O_16.out).2.1 (Kd.R_reads' G_16.out).2.2 (Kd.R_reads' G_16.out).2.1).mono ?_
  rintro e w15 ⟨rfl, hb⟩
  have HB15 := Aside0.mk (below_step HB14.out hb)
  clear hb x0 x1 x2 u0 u1 u2
  go_wp2
  go_ret
  exact ⟨rfl, HB15.out⟩
theorem descs_walk (A : Option Addr) (c : Nat) (p : S33) (A2 : Option Addr) (c2 : Nat) (d : S33) (dir keep : Bool) (w : World) (hc : p.f2.length ≤ c) (hr : k37.C w A p.f2.length p.f2) (hc2 : d.f2.length ≤ c2) (hr2 : k37.C w A2 d.f2.length d.f2) :
    Calls Try.prog 11 #[.agg #[.int .i64 p.f0, .bool p.f1, .slice A p.f2.length c], .agg #[.int .i64 d.f0, .bool d.f1, .slice A2 d.f2.length c2], .bool dir, .bool keep] w fun e w' => e = .returned (.bool true) ∧ Below w.heap.size w w' := by
  cases hs : (decide (p.f2.length ≤ 40) && decide (d.f2.length ≤ 40)) with
  | false => exact descs_long A c p A2 c2 d dir keep w hc hr hc2 hr2 hs
  | true => exact descs_short A c p A2 c2 d dir keep w hc hr hc2 hr2 hs _ _ _ _ _ _ _ _ _ _ _ _ _ _ rfl rfl rfl rfl
end Go.Proofs.Ytgocgjfaiddejaa.M
