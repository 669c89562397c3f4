/- InheritGives: its walk. -/
import Derived.Test.YtgocgjfaiddejaaHU
import Derived.Test.YtgocgjfaiddejaaKB
namespace Go.Proofs.Ytgocgjfaiddejaa.M
open Go.RowKit Go.Proofs.YtgocgjfaiddejaaW.PrintWords Go.Proofs.YtgocgjfaiddejaaW.PrintLast Go.Proofs.YtgocgjfaiddejaaW.PrintMore
set_option linter.unusedVariables false
set_option linter.unusedSimpArgs false
set_option linter.unnecessarySimpa false

theorem SameAces_eq (A B : Option Addr) (c d : Nat) (l : List S37) (w : World) (hr : k37.C w A l.length l) (hc : l.length ≤ c) (hr2 : k37.C w B l.length l) (hd : l.length ≤ d) :
    Calls Try.prog 23 #[.slice A l.length c, .slice B l.length d] w fun e w' => e = .returned (.bool true) ∧ Below w.heap.size w w' := by
  refine (archivoltref23_SameAces.calls (l.length + 1) A c l B d l true w hr hc hr2 hd (by rw [same_f l l hr.2.1]; simp)).mono ?_
  rintro e w' ⟨rfl, hb⟩
  exact ⟨rfl, hb.below⟩
theorem Same_eq (d : S33) (A B : Option Addr) (c1 c2 : Nat) (w : World) (hr : k37.C w A d.f2.length d.f2) (hc : d.f2.length ≤ c1) (hr2 : k37.C w B d.f2.length d.f2) (hd : d.f2.length ≤ c2) :
    Calls Try.prog 29 #[.agg #[.int .i64 d.f0, .bool d.f1, .slice A d.f2.length c1], .agg #[.int .i64 d.f0, .bool d.f1, .slice B d.f2.length c2]] w fun e w' => e = .returned (.bool true) ∧ Below w.heap.size w w' := by
  refine (Same_calls d.f0 d.f0 d.f1 d.f1 A B c1 c2 d.f2 d.f2 w hr hc hr2 hd).mono ?_
  rintro e w' ⟨rfl, hb⟩
  exact ⟨by simp, hb⟩
set_option maxRecDepth 100000 in
set_option maxHeartbeats 2000000 in
theorem gives_long (A : Option Addr) (c : Nat) (p : S33) (A2 : Option Addr) (c2 : Nat) (d : S33) (dir : Bool) (owner : Int) (w : World) (hc : p.f2.length ≤ c) (hr : k37.C w A p.f2.length p.f2) (hc2 : d.f2.length ≤ c2) (hr2 : k37.C w A2 d.f2.length d.f2) (hs : (decide (p.f2.length ≤ 40) && decide (d.f2.length ≤ 40)) = false) :
    Calls Try.prog 6 #[.agg #[.int .i64 p.f0, .bool p.f1, .slice A p.f2.length c], .agg #[.int .i64 d.f0, .bool d.f1, .slice A2 d.f2.length c2], .bool dir, .int .i64 owner] w fun e w' => e = .returned (.bool true) ∧ Below w.heap.size w w' := by
  have HR := Aside0.mk hr
  have HC := Aside0.mk hc
  have HR2 := Aside0.mk hr2
  have HC2 := Aside0.mk hc2
  have HSH := Aside0.mk hs
  clear hr hc hr2 hc2 hs
  go_enter Try.func6, Try.ntmps6
  go_upto_region 1 with (fail)
  have hb_ := below_alloc (below_alloc (Below.refl _ w) (.cells #[.int .i64 p.f0, .bool p.f1, .slice A p.f2.length c] 33)) (.cells #[.int .i64 d.f0, .bool d.f1, .slice A2 d.f2.length c2] 33)
  have hG0_ := blk_alloc (blk_lit0 w (.cells #[.int .i64 p.f0, .bool p.f1, .slice A p.f2.length c] 33)) (.cells #[.int .i64 d.f0, .bool d.f1, .slice A2 d.f2.length c2] 33)
  have hG1_ := blk_lit w (.cells #[.int .i64 p.f0, .bool p.f1, .slice A p.f2.length c] 33) (.cells #[.int .i64 d.f0, .bool d.f1, .slice A2 d.f2.length c2] 33)
  generalize ((w.alloc (.cells #[.int .i64 p.f0, .bool p.f1, .slice A p.f2.length c] 33)).alloc (.cells #[.int .i64 d.f0, .bool d.f1, .slice A2 d.f2.length c2] 33)) = W at hb_ hG0_ hG1_ ⊢
  have HB_W := Aside0.mk hb_
  have W0 := Aside0.mk hG0_
  have W1 := Aside0.mk hG1_
  clear hb_ hG0_ hG1_
  have PB_0 := W0
  have DB_0 := W1
  clear W0 W1
  have x0 := (blk_cell PB_0.out 0).trans rfl; have x1 := (blk_cell PB_0.out 1).trans rfl; have x2 := (blk_cell PB_0.out 2).trans rfl
  have y0 := (blk_cell DB_0.out 0).trans rfl; have y1 := (blk_cell DB_0.out 1).trans rfl; have y2 := (blk_cell DB_0.out 2).trans rfl
  go_wp2_with (first | ((with_reducible refine gate_dst (N := 22) rfl ?_); refine goesL_ (some 22) rfl rfl Try.func24 (by kernel_rfl) rfl #[.slice (some ⟨W.heap.size, 0, none⟩) 2 2] rfl (by (try simp only [List.map_toArray, List.map_cons, List.map_nil]); first | done | rfl) ?_; refine (short_two _ p.f0 d.f0 p.f1 d.f1 A A2 c c2 p.f2 d.f2 _ (blk_new _ _) (Kd.C_alloc (Kd.C_below HR.out HB_W.out) _) HC.out (Kd.C_alloc (Kd.C_below HR2.out HB_W.out) _) HC2.out).mono ?_; rintro e w1 ⟨rfl, hb⟩; refine ⟨_, rfl, ?_⟩; rw [HSH.out]; have HB1 := Aside0.mk (below_step (below_alloc HB_W.out _) hb); have PB_1 := Aside0.mk (blk_below (blk_alloc PB_0.out _) hb); have DB_1 := Aside0.mk (blk_below (blk_alloc DB_0.out _) hb); clear PB_0 DB_0; clear hb x0 x1 x2 y0 y1 y2; have x0 := (blk_cell PB_1.out 0).trans rfl; have x1 := (blk_cell PB_1.out 1).trans rfl; have x2 := (blk_cell PB_1.out 2).trans rfl; have y0 := (blk_cell DB_1.out 0).trans rfl; have y1 := (blk_cell DB_1.out 1).trans rfl; have y2 := (blk_cell DB_1.out 2).trans rfl) | ((with_reducible refine gate_dst (N := 24) rfl ?_); refine goesL_ (some 24) rfl rfl Try.func15 (by kernel_rfl) rfl #[] rfl (by (try simp only [List.map_toArray, List.map_cons, List.map_nil]); first | done | rfl) ?_; refine (sane_calls _).mono ?_; rintro e w2 ⟨rfl, hb⟩; refine ⟨_, rfl, ?_⟩; have HB2 := Aside0.mk (below_step HB1.out hb); clear hb))
  go_ret
  exact ⟨rfl, HB2.out⟩
set_option maxRecDepth 100000 in
set_option maxHeartbeats 2000000 in
theorem gives_short (A : Option Addr) (c : Nat) (p : S33) (A2 : Option Addr) (c2 : Nat) (d : S33) (dir : Bool) (owner : Int) (w : World) (hc : p.f2.length ≤ c) (hr : k37.C w A p.f2.length p.f2) (hc2 : d.f2.length ≤ c2) (hr2 : k37.C w A2 d.f2.length d.f2) (hs : (decide (p.f2.length ≤ 40) && decide (d.f2.length ≤ 40)) = true) (rg : List S37) (eg : Int) (ro : Int) (rb : Bool) (rl : List S37) (re : Int) (no : Int) (nb : Bool) (nl : List S37) (ne : Int) (hg : sGiven p.f0 p.f2 dir = rg) (hge : errOf (vDesc p.f0 p.f2) = eg) (hch : sChild p.f0 p.f2 dir owner = (⟨ro, rb, rl⟩, re)) (hrn : sRenew p d dir = (⟨no, nb, nl⟩, ne)) :
    Calls Try.prog 6 #[.agg #[.int .i64 p.f0, .bool p.f1, .slice A p.f2.length c], .agg #[.int .i64 d.f0, .bool d.f1, .slice A2 d.f2.length c2], .bool dir, .int .i64 owner] w fun e w' => e = .returned (.bool true) ∧ Below w.heap.size w w' := by
  have HR := Aside0.mk hr
  have HC := Aside0.mk hc
  have HR2 := Aside0.mk hr2
  have HC2 := Aside0.mk hc2
  have HSH := Aside0.mk hs
  have HG := Aside0.mk hg
  have HGE := Aside0.mk hge
  have HCH := Aside0.mk hch
  have HRN := Aside0.mk (show sRenew ⟨p.f0, p.f1, p.f2⟩ ⟨d.f0, d.f1, d.f2⟩ dir = (⟨no, nb, nl⟩, ne) from hrn)
  clear hr hc hr2 hc2 hs hg hge hch hrn
  go_enter Try.func6, Try.ntmps6
  go_upto_region 1 with (fail)
  have hb_ := below_alloc (below_alloc (Below.refl _ w) (.cells #[.int .i64 p.f0, .bool p.f1, .slice A p.f2.length c] 33)) (.cells #[.int .i64 d.f0, .bool d.f1, .slice A2 d.f2.length c2] 33)
  have hG0_ := blk_alloc (blk_lit0 w (.cells #[.int .i64 p.f0, .bool p.f1, .slice A p.f2.length c] 33)) (.cells #[.int .i64 d.f0, .bool d.f1, .slice A2 d.f2.length c2] 33)
  have hG1_ := blk_lit w (.cells #[.int .i64 p.f0, .bool p.f1, .slice A p.f2.length c] 33) (.cells #[.int .i64 d.f0, .bool d.f1, .slice A2 d.f2.length c2] 33)
  generalize ((w.alloc (.cells #[.int .i64 p.f0, .bool p.f1, .slice A p.f2.length c] 33)).alloc (.cells #[.int .i64 d.f0, .bool d.f1, .slice A2 d.f2.length c2] 33)) = W at hb_ hG0_ hG1_ ⊢
  have HB_W := Aside0.mk hb_
  have W0 := Aside0.mk hG0_
  have W1 := Aside0.mk hG1_
  clear hb_ hG0_ hG1_
  have PB_0 := W0
  have DB_0 := W1
  clear W0 W1
  have x0 := (blk_cell PB_0.out 0).trans rfl; have x1 := (blk_cell PB_0.out 1).trans rfl; have x2 := (blk_cell PB_0.out 2).trans rfl
  have y0 := (blk_cell DB_0.out 0).trans rfl; have y1 := (blk_cell DB_0.out 1).trans rfl; have y2 := (blk_cell DB_0.out 2).trans rfl
  go_upto_region 8 with (first | ((with_reducible refine gate_dst (N := 22) rfl ?_); refine goesL_ (some 22) rfl rfl Try.func24 (by kernel_rfl) rfl #[.slice (some ⟨W.heap.size, 0, none⟩) 2 2] rfl (by (try simp only [List.map_toArray, List.map_cons, List.map_nil]); first | done | rfl) ?_; refine (short_two _ p.f0 d.f0 p.f1 d.f1 A A2 c c2 p.f2 d.f2 _ (blk_new _ _) (Kd.C_alloc (Kd.C_below HR.out HB_W.out) _) HC.out (Kd.C_alloc (Kd.C_below HR2.out HB_W.out) _) HC2.out).mono ?_; rintro e w1 ⟨rfl, hb⟩; refine ⟨_, rfl, ?_⟩; rw [HSH.out]; have HB1 := Aside0.mk (below_step (below_alloc HB_W.out _) hb); have PB_1 := Aside0.mk (blk_below (blk_alloc PB_0.out _) hb); have DB_1 := Aside0.mk (blk_below (blk_alloc DB_0.out _) hb); clear PB_0 DB_0; clear hb x0 x1 x2 y0 y1 y2; have x0 := (blk_cell PB_1.out 0).trans rfl; have x1 := (blk_cell PB_1.out 1).trans rfl; have x2 := (blk_cell PB_1.out 2).trans rfl; have y0 := (blk_cell DB_1.out 0).trans rfl; have y1 := (blk_cell DB_1.out 1).trans rfl; have y2 := (blk_cell DB_1.out 2).trans rfl) | ((with_reducible refine gate_dst (N := 28) rfl ?_); refine goesL_ (some 28) rfl rfl Try.func22 (by kernel_rfl) rfl #[.agg #[.int .i64 p.f0, .bool p.f1, .slice A p.f2.length c], .bool dir] rfl (by (try simp only [List.map_toArray, List.map_cons, List.map_nil]); first | done | rfl) ?_; have hc := Given_calls p.f0 p.f1 A c p.f2 dir _ (Kd.C_below HR.out HB1.out) HC.out; rw [HG.out, HGE.out] at hc; refine hc.mono ?_; rintro e w2 ⟨v, rfl, hra, hb⟩; refine ⟨_, rfl, ?_⟩; obtain ⟨GA, Gc, rfl⟩ := Kd.R_slice hra; have HB2 := Aside0.mk (below_step HB1.out hb); have PB_2 := Aside0.mk (blk_below PB_1.out hb); have DB_2 := Aside0.mk (blk_below DB_1.out hb); clear PB_1 DB_1; have G_0 := Aside0.mk (Kd.R_reads' hra).2.2; have GL := Aside0.mk (Kd.R_reads' hra).2.1; clear hra hb hc x0 x1 x2 y0 y1 y2; have x0 := (blk_cell PB_2.out 0).trans rfl; have x1 := (blk_cell PB_2.out 1).trans rfl; have x2 := (blk_cell PB_2.out 2).trans rfl; have y0 := (blk_cell DB_2.out 0).trans rfl; have y1 := (blk_cell DB_2.out 1).trans rfl; have y2 := (blk_cell DB_2.out 2).trans rfl) | ((with_reducible refine gate_dst (N := 34) rfl ?_); refine goesL_ (some 34) rfl rfl Try.func25 (by kernel_rfl) rfl #[.agg #[.int .i64 p.f0, .bool p.f1, .slice A p.f2.length c], .bool dir] rfl (by (try simp only [List.map_toArray, List.map_cons, List.map_nil]); first | done | rfl) ?_; have hc := rGiven_calls p.f0 p.f1 A c p.f2 dir _ (Kd.C_below HR.out HB2.out) HC.out; rw [HG.out, HGE.out] at hc; refine hc.mono ?_; rintro e w3 ⟨v, rfl, hra, hb⟩; refine ⟨_, rfl, ?_⟩; obtain ⟨HA, Hc, rfl⟩ := Kd.R_slice hra; have HB3 := Aside0.mk (below_step HB2.out hb); have PB_3 := Aside0.mk (blk_below PB_2.out hb); have DB_3 := Aside0.mk (blk_below DB_2.out hb); have G_3 := Aside0.mk (Kd.C_below G_0.out hb); clear PB_2 DB_2 G_0; have H_0 := Aside0.mk (Kd.R_reads' hra).2.2; have HL := Aside0.mk (Kd.R_reads' hra).2.1; clear hra hb hc x0 x1 x2 y0 y1 y2; have x0 := (blk_cell PB_3.out 0).trans rfl; have x1 := (blk_cell PB_3.out 1).trans rfl; have x2 := (blk_cell PB_3.out 2).trans rfl; have y0 := (blk_cell DB_3.out 0).trans rfl; have y1 := (blk_cell DB_3.out 1).trans rfl; have y2 := (blk_cell DB_3.out 2).trans rfl) | ((with_reducible refine gate_dst (N := 39) rfl ?_); refine goesL_ (some 39) rfl rfl Try.func23 (by kernel_rfl) rfl #[.slice GA rg.length Gc, .slice HA rg.length Hc] rfl (by (try simp only [List.map_toArray, List.map_cons, List.map_nil]); first | done | rfl) ?_; refine (SameAces_eq GA HA Gc Hc rg _ G_3.out GL.out H_0.out HL.out).mono ?_; rintro e w4 ⟨rfl, hb⟩; refine ⟨_, rfl, ?_⟩; have HB4 := Aside0.mk (below_step HB3.out hb); have PB_4 := Aside0.mk (blk_below PB_3.out hb); have DB_4 := Aside0.mk (blk_below DB_3.out hb); clear PB_3 DB_3; clear hb x0 x1 x2 y0 y1 y2; have x0 := (blk_cell PB_4.out 0).trans rfl; have x1 := (blk_cell PB_4.out 1).trans rfl; have x2 := (blk_cell PB_4.out 2).trans rfl; have y0 := (blk_cell DB_4.out 0).trans rfl; have y1 := (blk_cell DB_4.out 1).trans rfl; have y2 := (blk_cell DB_4.out 2).trans rfl) | ((with_reducible refine gate_dst (N := 50) rfl ?_); refine goesL_ (some 50) rfl rfl Try.func21 (by kernel_rfl) rfl #[.agg #[.int .i64 p.f0, .bool p.f1, .slice A p.f2.length c], .bool dir, .int .i64 owner] rfl (by (try simp only [List.map_toArray, List.map_cons, List.map_nil]); first | done | rfl) ?_; have hc := Child_calls p.f0 p.f1 A c p.f2 dir owner _ (Kd.C_below HR.out HB4.out) HC.out; rw [HCH.out] at hc; refine hc.mono ?_; rintro e w5 ⟨v, rfl, hra, hb⟩; refine ⟨_, rfl, ?_⟩; replace hra : RA w5 _ v rl := hra; dsimp only; obtain ⟨XA, Xc, rfl⟩ := Kd.R_slice hra; have HB5 := Aside0.mk (below_step HB4.out hb); have PB_5 := Aside0.mk (blk_below PB_4.out hb); have DB_5 := Aside0.mk (blk_below DB_4.out hb); clear PB_4 DB_4; have X_0 := Aside0.mk (Kd.R_reads' hra).2.2; have XL := Aside0.mk (Kd.R_reads' hra).2.1; clear hra hb hc x0 x1 x2 y0 y1 y2))
  have hb_ := below_alloc (Below.refl _ w5) (.cells #[.int .i64 ro, .bool rb, .slice XA rl.length Xc] 33)
  have hG0_ := blk_lit0 w5 (.cells #[.int .i64 ro, .bool rb, .slice XA rl.length Xc] 33)
  generalize (w5.alloc (.cells #[.int .i64 ro, .bool rb, .slice XA rl.length Xc] 33)) = V at hb_ hG0_ ⊢
  have HB_V := Aside0.mk hb_
  have V0 := Aside0.mk hG0_
  clear hb_ hG0_
  have PB_6 := Aside0.mk (blk_below PB_5.out HB_V.out)
  have DB_6 := Aside0.mk (blk_below DB_5.out HB_V.out)
  have X_6 := Aside0.mk (Kd.C_below X_0.out HB_V.out)
  clear PB_5 DB_5 X_0
  have HBV := Aside0.mk (below_step HB5.out HB_V.out)
  have x0 := (blk_cell PB_6.out 0).trans rfl; have x1 := (blk_cell PB_6.out 1).trans rfl; have x2 := (blk_cell PB_6.out 2).trans rfl; have y0 := (blk_cell DB_6.out 0).trans rfl; have y1 := (blk_cell DB_6.out 1).trans rfl; have y2 := (blk_cell DB_6.out 2).trans rfl
  go_upto_region 9 with ((with_reducible refine gate_dst (N := 57) rfl ?_); refine goesL_ (some 57) rfl rfl Try.func26 (by kernel_rfl) rfl #[.agg #[.int .i64 p.f0, .bool p.f1, .slice A p.f2.length c], .bool dir, .int .i64 owner] rfl (by (try simp only [List.map_toArray, List.map_cons, List.map_nil]); first | done | rfl) ?_; have hc := rChild_calls p.f0 p.f1 A c p.f2 dir owner _ (Kd.C_below HR.out HBV.out) HC.out; rw [HCH.out] at hc; refine hc.mono ?_; rintro e w6 ⟨v, rfl, hra, hb⟩; refine ⟨_, rfl, ?_⟩; replace hra : RA w6 _ v rl := hra; dsimp only; obtain ⟨YA, Yc, rfl⟩ := Kd.R_slice hra; have HB6 := Aside0.mk (below_step HBV.out hb); have PB_7 := Aside0.mk (blk_below PB_6.out hb); have DB_7 := Aside0.mk (blk_below DB_6.out hb); have X_7 := Aside0.mk (Kd.C_below X_6.out hb); have XB_7 := Aside0.mk (blk_below V0.out hb); clear PB_6 DB_6 X_6 V0; have Y_0 := Aside0.mk (Kd.R_reads' hra).2.2; have YL := Aside0.mk (Kd.R_reads' hra).2.1; clear hra hb hc x0 x1 x2 y0 y1 y2)
  have hb_ := below_alloc (Below.refl _ w6) (.cells #[.int .i64 ro, .bool rb, .slice YA rl.length Yc] 33)
  have hG0_ := blk_lit0 w6 (.cells #[.int .i64 ro, .bool rb, .slice YA rl.length Yc] 33)
  generalize (w6.alloc (.cells #[.int .i64 ro, .bool rb, .slice YA rl.length Yc] 33)) = U at hb_ hG0_ ⊢
  have HB_U := Aside0.mk hb_
  have U0 := Aside0.mk hG0_
  clear hb_ hG0_
  have PB_8 := Aside0.mk (blk_below PB_7.out HB_U.out)
  have DB_8 := Aside0.mk (blk_below DB_7.out HB_U.out)
  have X_8 := Aside0.mk (Kd.C_below X_7.out HB_U.out)
  have XB_8 := Aside0.mk (blk_below XB_7.out HB_U.out)
  have Y_8 := Aside0.mk (Kd.C_below Y_0.out HB_U.out)
  clear PB_7 DB_7 X_7 XB_7 Y_0
  have HBU := Aside0.mk (below_step HB6.out HB_U.out)
  have x0 := (blk_cell PB_8.out 0).trans rfl; have x1 := (blk_cell PB_8.out 1).trans rfl; have x2 := (blk_cell PB_8.out 2).trans rfl; have y0 := (blk_cell DB_8.out 0).trans rfl; have y1 := (blk_cell DB_8.out 1).trans rfl; have y2 := (blk_cell DB_8.out 2).trans rfl
  go_upto_region 10 with ((with_reducible refine gate_dst (N := 64) rfl ?_); refine goesL_ (some 64) rfl rfl Try.func27 (by kernel_rfl) rfl #[.agg #[.int .i64 p.f0, .bool p.f1, .slice A p.f2.length c], .agg #[.int .i64 d.f0, .bool d.f1, .slice A2 d.f2.length c2], .bool dir] rfl (by (try simp only [List.map_toArray, List.map_cons, List.map_nil]); first | done | rfl) ?_; have hc := Renew_calls p.f0 d.f0 p.f1 d.f1 A A2 c c2 p.f2 d.f2 dir _ (Kd.C_below HR.out HBU.out) HC.out (Kd.C_below HR2.out HBU.out) HC2.out; rw [HRN.out] at hc; refine hc.mono ?_; rintro e w7 ⟨v, rfl, hra, hb⟩; refine ⟨_, rfl, ?_⟩; replace hra : RA w7 _ v nl := hra; dsimp only; obtain ⟨MA, Mc, rfl⟩ := Kd.R_slice hra; have HB7 := Aside0.mk (below_step HBU.out hb); have PB_9 := Aside0.mk (blk_below PB_8.out hb); have DB_9 := Aside0.mk (blk_below DB_8.out hb); have X_9 := Aside0.mk (Kd.C_below X_8.out hb); have XB_9 := Aside0.mk (blk_below XB_8.out hb); have Y_9 := Aside0.mk (Kd.C_below Y_8.out hb); have YB_9 := Aside0.mk (blk_below U0.out hb); clear PB_8 DB_8 X_8 XB_8 Y_8 U0; have M_0 := Aside0.mk (Kd.R_reads' hra).2.2; have ML := Aside0.mk (Kd.R_reads' hra).2.1; clear hra hb hc x0 x1 x2 y0 y1 y2)
  have hb_ := below_alloc (Below.refl _ w7) (.cells #[.int .i64 no, .bool nb, .slice MA nl.length Mc] 33)
  have hG0_ := blk_lit0 w7 (.cells #[.int .i64 no, .bool nb, .slice MA nl.length Mc] 33)
  generalize (w7.alloc (.cells #[.int .i64 no, .bool nb, .slice MA nl.length Mc] 33)) = S at hb_ hG0_ ⊢
  have HB_S := Aside0.mk hb_
  have S0 := Aside0.mk hG0_
  clear hb_ hG0_
  have PB_10 := Aside0.mk (blk_below PB_9.out HB_S.out)
  have DB_10 := Aside0.mk (blk_below DB_9.out HB_S.out)
  have X_10 := Aside0.mk (Kd.C_below X_9.out HB_S.out)
  have XB_10 := Aside0.mk (blk_below XB_9.out HB_S.out)
  have Y_10 := Aside0.mk (Kd.C_below Y_9.out HB_S.out)
  have YB_10 := Aside0.mk (blk_below YB_9.out HB_S.out)
  have M_10 := Aside0.mk (Kd.C_below M_0.out HB_S.out)
  clear PB_9 DB_9 X_9 XB_9 Y_9 YB_9 M_0
  have HBS := Aside0.mk (below_step HB7.out HB_S.out)
  have x0 := (blk_cell PB_10.out 0).trans rfl; have x1 := (blk_cell PB_10.out 1).trans rfl; have x2 := (blk_cell PB_10.out 2).trans rfl; have y0 := (blk_cell DB_10.out 0).trans rfl; have y1 := (blk_cell DB_10.out 1).trans rfl; have y2 := (blk_cell DB_10.out 2).trans rfl
  go_upto_region 11 with ((with_reducible refine gate_dst (N := 71) rfl ?_); refine goesL_ (some 71) rfl rfl Try.func28 (by kernel_rfl) rfl #[.agg #[.int .i64 p.f0, .bool p.f1, .slice A p.f2.length c], .agg #[.int .i64 d.f0, .bool d.f1, .slice A2 d.f2.length c2], .bool dir] rfl (by (try simp only [List.map_toArray, List.map_cons, List.map_nil]); first | done | rfl) ?_; have hc := rRenew_calls p.f0 d.f0 p.f1 d.f1 A A2 c c2 p.f2 d.f2 dir _ (Kd.C_below HR.out HBS.out) HC.out (Kd.C_below HR2.out HBS.out) HC2.out; rw [HRN.out] at hc; refine hc.mono ?_; rintro e w8 ⟨v, rfl, hra, hb⟩; refine ⟨_, rfl, ?_⟩; replace hra : RA w8 _ v nl := hra; dsimp only; obtain ⟨NA, Nc, rfl⟩ := Kd.R_slice hra; have HB8 := Aside0.mk (below_step HBS.out hb); have PB_11 := Aside0.mk (blk_below PB_10.out hb); have DB_11 := Aside0.mk (blk_below DB_10.out hb); have X_11 := Aside0.mk (Kd.C_below X_10.out hb); have XB_11 := Aside0.mk (blk_below XB_10.out hb); have Y_11 := Aside0.mk (Kd.C_below Y_10.out hb); have YB_11 := Aside0.mk (blk_below YB_10.out hb); have M_11 := Aside0.mk (Kd.C_below M_10.out hb); have MB_11 := Aside0.mk (blk_below S0.out hb); clear PB_10 DB_10 X_10 XB_10 Y_10 YB_10 M_10 S0; have N_0 := Aside0.mk (Kd.R_reads' hra).2.2; have NL := Aside0.mk (Kd.R_reads' hra).2.1; clear hra hb hc x0 x1 x2 y0 y1 y2)
  have hb_ := below_alloc (Below.refl _ w8) (.cells #[.int .i64 no, .bool nb, .slice NA nl.length Nc] 33)
  have hG0_ := blk_lit0 w8 (.cells #[.int .i64 no, .bool nb, .slice NA nl.length Nc] 33)
  generalize (w8.alloc (.cells #[.int .i64 no, .bool nb, .slice NA nl.length Nc] 33)) = R at hb_ hG0_ ⊢
  have HB_R := Aside0.mk hb_
  have R0 := Aside0.mk hG0_
  clear hb_ hG0_
  have PB_12 := Aside0.mk (blk_below PB_11.out HB_R.out)
  have DB_12 := Aside0.mk (blk_below DB_11.out HB_R.out)
  have X_12 := Aside0.mk (Kd.C_below X_11.out HB_R.out)
  have XB_12 := Aside0.mk (blk_below XB_11.out HB_R.out)
  have Y_12 := Aside0.mk (Kd.C_below Y_11.out HB_R.out)
  have YB_12 := Aside0.mk (blk_below YB_11.out HB_R.out)
  have M_12 := Aside0.mk (Kd.C_below M_11.out HB_R.out)
  have MB_12 := Aside0.mk (blk_below MB_11.out HB_R.out)
  have N_12 := Aside0.mk (Kd.C_below N_0.out HB_R.out)
  clear PB_11 DB_11 X_11 XB_11 Y_11 YB_11 M_11 MB_11 N_0
  have HBR := Aside0.mk (below_step HB8.out HB_R.out)
  have x0 := (blk_cell PB_12.out 0).trans rfl; have x1 := (blk_cell PB_12.out 1).trans rfl; have x2 := (blk_cell PB_12.out 2).trans rfl; have y0 := (blk_cell DB_12.out 0).trans rfl; have y1 := (blk_cell DB_12.out 1).trans rfl; have y2 := (blk_cell DB_12.out 2).trans rfl
  clear x0 x1 x2 y0 y1 y2
  go_wp2_with ((with_reducible refine gate_dst (N := 74) rfl ?_); refine goesL_ (some 74) rfl rfl Try.func15 (by kernel_rfl) rfl #[] rfl (by (try simp only [List.map_toArray, List.map_cons, List.map_nil]); first | done | rfl) ?_; refine (sane_calls _).mono ?_; rintro e w9 ⟨rfl, hb⟩; refine ⟨_, rfl, ?_⟩; have HB9 := Aside0.mk (below_step HBR.out hb); have X_13 := Aside0.mk (Kd.C_below X_12.out hb); have XB_13 := Aside0.mk (blk_below XB_12.out hb); have Y_13 := Aside0.mk (Kd.C_below Y_12.out hb); have YB_13 := Aside0.mk (blk_below YB_12.out hb); have M_13 := Aside0.mk (Kd.C_below M_12.out hb); have MB_13 := Aside0.mk (blk_below MB_12.out hb); have N_13 := Aside0.mk (Kd.C_below N_12.out hb); have NB_13 := Aside0.mk (blk_below R0.out hb); clear X_12 XB_12 Y_12 YB_12 M_12 MB_12 N_12 R0; clear hb; have x0 := (blk_cell XB_13.out 0).trans rfl; have x1 := (blk_cell XB_13.out 1).trans rfl; have x2 := (blk_cell XB_13.out 2).trans rfl; have y0 := (blk_cell YB_13.out 0).trans rfl; have y1 := (blk_cell YB_13.out 1).trans rfl; have y2 := (blk_cell YB_13.out 2).trans rfl; have z0 := (blk_cell MB_13.out 0).trans rfl; have z1 := (blk_cell MB_13.out 1).trans rfl; have z2 := (blk_cell MB_13.out 2).trans rfl; have u0 := (blk_cell NB_13.out 0).trans rfl; have u1 := (blk_cell NB_13.out 1).trans rfl; have u2 := (blk_cell NB_13.out 2).trans rfl)
  go_at_call 29
  refine (Same_eq ⟨ro, rb, rl⟩ XA YA Xc Yc _ X_13.out XL.out Y_13.out YL.out).mono ?_
  rintro e w10 ⟨rfl, hb⟩
  have HB10 := Aside0.mk (below_step HB9.out hb)
  have M_14 := Aside0.mk (Kd.C_below M_13.out hb)
  have MB_14 := Aside0.mk (blk_below MB_13.out hb)
  have N_14 := Aside0.mk (Kd.C_below N_13.out hb)
  have NB_14 := Aside0.mk (blk_below NB_13.out hb)
  clear M_13 MB_13 N_13 NB_13
  clear hb x0 x1 x2 y0 y1 y2 z0 z1 z2 u0 u1 u2
  have z0 := (blk_cell MB_14.out 0).trans rfl; have z1 := (blk_cell MB_14.out 1).trans rfl; have z2 := (blk_cell MB_14.out 2).trans rfl
  have u0 := (blk_cell NB_14.out 0).trans rfl; have u1 := (blk_cell NB_14.out 1).trans rfl; have u2 := (blk_cell NB_14.out 2).trans rfl
  go_wp2_with (go_at_call 29; refine (Same_eq ⟨no, nb, nl⟩ MA NA Mc Nc _ M_14.out ML.out N_14.out NL.out).mono ?_; rintro e w11 ⟨rfl, hb⟩; have HB11 := Aside0.mk (below_step HB10.out hb); clear hb)
  go_ret
  exact ⟨rfl, HB11.out⟩
theorem gives_walk (A : Option Addr) (c : Nat) (p : S33) (A2 : Option Addr) (c2 : Nat) (d : S33) (dir : Bool) (owner : Int) (w : World) (hc : p.f2.length ≤ c) (hr : k37.C w A p.f2.length p.f2) (hc2 : d.f2.length ≤ c2) (hr2 : k37.C w A2 d.f2.length d.f2) (_ : -9223372036854775808 ≤ owner ∧ owner ≤ 9223372036854775807) :
    Calls Try.prog 6 #[.agg #[.int .i64 p.f0, .bool p.f1, .slice A p.f2.length c], .agg #[.int .i64 d.f0, .bool d.f1, .slice A2 d.f2.length c2], .bool dir, .int .i64 owner] w fun e w' => e = .returned (.bool true) ∧ Below w.heap.size w w' := by
  cases hs : (decide (p.f2.length ≤ 40) && decide (d.f2.length ≤ 40)) with
  | false => exact gives_long A c p A2 c2 d dir owner w hc hr hc2 hr2 hs
  | true => exact gives_short A c p A2 c2 d dir owner w hc hr hc2 hr2 hs _ _ _ _ _ _ _ _ _ _ rfl rfl rfl rfl
end Go.Proofs.Ytgocgjfaiddejaa.M
