/- InheritTrees: its walk. -/
import Derived.Test.YtgocgjfaiddejaaHT
namespace Go.Proofs.Ytgocgjfaiddejaa.M
open Go.RowKit Go.Proofs.YtgocgjfaiddejaaW.PrintWords Go.Proofs.YtgocgjfaiddejaaW.PrintLast Go.Proofs.YtgocgjfaiddejaaW.PrintMore
set_option linter.unusedVariables false
set_option linter.unusedSimpArgs false
set_option linter.unnecessarySimpa false

set_option maxRecDepth 100000 in
set_option maxHeartbeats 2000000 in
theorem trees_small (A A2 : Option Addr) (c c2 : Nat) (l : List S35) (k : Int) (d : S33) (w : World) (hr : k35.C w A l.length l) (hr2 : k37.C w A2 d.f2.length d.f2) (hc2 : d.f2.length ≤ c2) (hs : smallB l = false) :
    Calls Try.prog 8 #[.slice A l.length c, .int .i64 k, .agg #[.int .i64 d.f0, .bool d.f1, .slice A2 d.f2.length c2]] w fun e w' => e = .returned (.bool true) ∧ Below w.heap.size w w' := by
  have HR := Aside0.mk hr
  have HR2 := Aside0.mk hr2
  have HC2 := Aside0.mk hc2
  have HSM := Aside0.mk hs
  clear hr hr2 hc2 hs
  go_enter Try.func8, Try.ntmps8
  go_upto_region 1 with (fail)
  have hb_ := below_alloc (Below.refl _ w) (.cells #[.int .i64 d.f0, .bool d.f1, .slice A2 d.f2.length c2] 33)
  have hG0_ := blk_lit0 w (.cells #[.int .i64 d.f0, .bool d.f1, .slice A2 d.f2.length c2] 33)
  generalize (w.alloc (.cells #[.int .i64 d.f0, .bool d.f1, .slice A2 d.f2.length c2] 33)) = W at hb_ hG0_ ⊢
  have HB_W := Aside0.mk hb_
  have W0 := Aside0.mk hG0_
  clear hb_ hG0_
  go_wp2_with (first | ((with_reducible refine gate_dst (N := 18) rfl ?_); refine goesL_ (some 18) rfl rfl Try.func14 (by kernel_rfl) rfl #[.slice A l.length c] rfl (by (try simp only [List.map_toArray, List.map_cons, List.map_nil]); first | done | rfl) ?_; refine (small_calls A c l _ (Kd.C_below HR.out HB_W.out)).mono ?_; rintro e w0 ⟨rfl, hb⟩; refine ⟨_, rfl, ?_⟩; rw [HSM.out]; have HB0 := Aside0.mk (below_step HB_W.out hb); have V0 := Aside0.mk (blk_below W0.out hb); clear hb; have y0 := (blk_cell V0.out 0).trans rfl; have y1 := (blk_cell V0.out 1).trans rfl; have y2 := (blk_cell V0.out 2).trans rfl) | ((with_reducible refine gate_dst (N := 26) rfl ?_); refine goesL_ (some 26) rfl rfl Try.func15 (by kernel_rfl) rfl #[] rfl (by (try simp only [List.map_toArray, List.map_cons, List.map_nil]); first | done | rfl) ?_; refine (sane_calls _).mono ?_; rintro e ws ⟨rfl, hb⟩; refine ⟨_, rfl, ?_⟩; have HBS := Aside0.mk (below_step HB0.out hb); clear hb))
  go_ret
  exact ⟨rfl, HBS.out⟩
set_option maxRecDepth 100000 in
set_option maxHeartbeats 2000000 in
theorem trees_short (A A2 : Option Addr) (c c2 : Nat) (l : List S35) (k : Int) (d : S33) (w : World) (hr : k35.C w A l.length l) (hr2 : k37.C w A2 d.f2.length d.f2) (hc2 : d.f2.length ≤ c2) (hs : smallB l = true) (hsh : decide (d.f2.length ≤ 40) = false) :
    Calls Try.prog 8 #[.slice A l.length c, .int .i64 k, .agg #[.int .i64 d.f0, .bool d.f1, .slice A2 d.f2.length c2]] w fun e w' => e = .returned (.bool true) ∧ Below w.heap.size w w' := by
  have HR := Aside0.mk hr
  have HR2 := Aside0.mk hr2
  have HC2 := Aside0.mk hc2
  have HSM := Aside0.mk hs
  have HSH := Aside0.mk hsh
  clear hr hr2 hc2 hs hsh
  go_enter Try.func8, Try.ntmps8
  go_upto_region 1 with (fail)
  have hb_ := below_alloc (Below.refl _ w) (.cells #[.int .i64 d.f0, .bool d.f1, .slice A2 d.f2.length c2] 33)
  have hG0_ := blk_lit0 w (.cells #[.int .i64 d.f0, .bool d.f1, .slice A2 d.f2.length c2] 33)
  generalize (w.alloc (.cells #[.int .i64 d.f0, .bool d.f1, .slice A2 d.f2.length c2] 33)) = W at hb_ hG0_ ⊢
  have HB_W := Aside0.mk hb_
  have W0 := Aside0.mk hG0_
  clear hb_ hG0_
  go_wp2_with (first | ((with_reducible refine gate_dst (N := 18) rfl ?_); refine goesL_ (some 18) rfl rfl Try.func14 (by kernel_rfl) rfl #[.slice A l.length c] rfl (by (try simp only [List.map_toArray, List.map_cons, List.map_nil]); first | done | rfl) ?_; refine (small_calls A c l _ (Kd.C_below HR.out HB_W.out)).mono ?_; rintro e w0 ⟨rfl, hb⟩; refine ⟨_, rfl, ?_⟩; rw [HSM.out]; have HB0 := Aside0.mk (below_step HB_W.out hb); have V0 := Aside0.mk (blk_below W0.out hb); clear hb; have y0 := (blk_cell V0.out 0).trans rfl; have y1 := (blk_cell V0.out 1).trans rfl; have y2 := (blk_cell V0.out 2).trans rfl) | (go_at_call 24; refine (short_one _ d.f0 d.f1 A2 c2 d.f2 _ (blk_new _ _) (Kd.C_alloc (Kd.C_below HR2.out HB0.out) _) HC2.out).mono ?_; rintro e w1 ⟨rfl, hb⟩; rw [HSH.out]; have HB1 := Aside0.mk (below_step (below_alloc HB0.out _) hb); have X1 := Aside0.mk (blk_below (blk_alloc V0.out _) hb); clear hb y0 y1 y2) | ((with_reducible refine gate_dst (N := 26) rfl ?_); refine goesL_ (some 26) rfl rfl Try.func15 (by kernel_rfl) rfl #[] rfl (by (try simp only [List.map_toArray, List.map_cons, List.map_nil]); first | done | rfl) ?_; refine (sane_calls _).mono ?_; rintro e ws ⟨rfl, hb⟩; refine ⟨_, rfl, ?_⟩; have HBS := Aside0.mk (below_step HB1.out hb); clear hb))
  go_ret
  exact ⟨rfl, HBS.out⟩
set_option maxRecDepth 100000 in
set_option maxHeartbeats 2000000 in
theorem trees_all (A A2 : Option Addr) (c c2 : Nat) (l : List S35) (k : Int) (d : S33) (w : World) (hr : k35.C w A l.length l) (hr2 : k37.C w A2 d.f2.length d.f2) (hc2 : d.f2.length ≤ c2) (hc : l.length ≤ c) (hs : smallB l = true) (hsh : decide (d.f2.length ≤ 40) = true) (g1 g2 : Int) (hag : sAgrees l = (g1, g2)) (ev : Int) (hck : errOf (vTree l) = ev) (so : List S35) (se : Int) (hsp : sSpread l = (so, se)) (co : List S35) (ce : Int) (hch : sChange l k d = (co, ce)) :
    Calls Try.prog 8 #[.slice A l.length c, .int .i64 k, .agg #[.int .i64 d.f0, .bool d.f1, .slice A2 d.f2.length c2]] w fun e w' => e = .returned (.bool true) ∧ Below w.heap.size w w' := by
  have HR := Aside0.mk hr
  have HR2 := Aside0.mk hr2
  have HC2 := Aside0.mk hc2
  have HC := Aside0.mk hc
  have HSM := Aside0.mk hs
  have HSH := Aside0.mk hsh
  have HAG := Aside0.mk hag
  have HCK := Aside0.mk hck
  have HSP := Aside0.mk hsp
  have HCH := Aside0.mk hch
  clear hr hr2 hc2 hc hs hsh hag hck hsp hch
  go_enter Try.func8, Try.ntmps8
  go_upto_region 1 with (fail)
  have hb_ := below_alloc (Below.refl _ w) (.cells #[.int .i64 d.f0, .bool d.f1, .slice A2 d.f2.length c2] 33)
  have hG0_ := blk_lit0 w (.cells #[.int .i64 d.f0, .bool d.f1, .slice A2 d.f2.length c2] 33)
  generalize (w.alloc (.cells #[.int .i64 d.f0, .bool d.f1, .slice A2 d.f2.length c2] 33)) = W at hb_ hG0_ ⊢
  have HB_W := Aside0.mk hb_
  have W0 := Aside0.mk hG0_
  clear hb_ hG0_
  go_upto_region 11 with (first | ((with_reducible refine gate_dst (N := 18) rfl ?_); refine goesL_ (some 18) rfl rfl Try.func14 (by kernel_rfl) rfl #[.slice A l.length c] rfl (by (try simp only [List.map_toArray, List.map_cons, List.map_nil]); first | done | rfl) ?_; refine (small_calls A c l _ (Kd.C_below HR.out HB_W.out)).mono ?_; rintro e w0 ⟨rfl, hb⟩; refine ⟨_, rfl, ?_⟩; rw [HSM.out]; have HB0 := Aside0.mk (below_step HB_W.out hb); have V0 := Aside0.mk (blk_below W0.out hb); clear hb; have y0 := (blk_cell V0.out 0).trans rfl; have y1 := (blk_cell V0.out 1).trans rfl; have y2 := (blk_cell V0.out 2).trans rfl) | (go_at_call 24; refine (short_one _ d.f0 d.f1 A2 c2 d.f2 _ (blk_new _ _) (Kd.C_alloc (Kd.C_below HR2.out HB0.out) _) HC2.out).mono ?_; rintro e w1 ⟨rfl, hb⟩; rw [HSH.out]; have HB1 := Aside0.mk (below_step (below_alloc HB0.out _) hb); have X1 := Aside0.mk (blk_below (blk_alloc V0.out _) hb); clear hb y0 y1 y2) | ((with_reducible refine gate_dst (N := 29) rfl ?_); refine goesL_ (some 29) rfl rfl Try.func30 (by kernel_rfl) rfl #[.slice A l.length c] rfl (by (try simp only [List.map_toArray, List.map_cons, List.map_nil]); first | done | rfl) ?_; refine (Agrees_calls A c l _ (Kd.C_below HR.out HB1.out)).mono ?_; rw [HAG.out]; rintro e w2 ⟨rfl, hb⟩; refine ⟨_, rfl, ?_⟩; have HB2 := Aside0.mk (below_step HB1.out hb); have X2 := Aside0.mk (blk_below X1.out hb); clear hb) | ((with_reducible refine gate_dst (N := 34) rfl ?_); refine goesL_ (some 34) rfl rfl Try.func31 (by kernel_rfl) rfl #[.slice A l.length c] rfl (by (try simp only [List.map_toArray, List.map_cons, List.map_nil]); first | done | rfl) ?_; refine (rAgrees_calls A c l _ (Kd.C_below HR.out HB2.out)).mono ?_; rw [HAG.out]; rintro e w3 ⟨rfl, hb⟩; refine ⟨_, rfl, ?_⟩; have HB3 := Aside0.mk (below_step HB2.out hb); have X3 := Aside0.mk (blk_below X2.out hb); clear hb) | ((with_reducible refine gate_dst (N := 38) rfl ?_); refine goesL_ (some 38) rfl rfl Try.func32 (by kernel_rfl) rfl #[.slice A l.length c] rfl (by (try simp only [List.map_toArray, List.map_cons, List.map_nil]); first | done | rfl) ?_; refine (Check_calls A c l _ (Kd.C_below HR.out HB3.out)).mono ?_; rw [HCK.out]; rintro e w4 ⟨rfl, hb⟩; refine ⟨_, rfl, ?_⟩; have HB4 := Aside0.mk (below_step HB3.out hb); have X4 := Aside0.mk (blk_below X3.out hb); clear hb) | ((with_reducible refine gate_dst (N := 40) rfl ?_); refine goesL_ (some 40) rfl rfl Try.func33 (by kernel_rfl) rfl #[.slice A l.length c] rfl (by (try simp only [List.map_toArray, List.map_cons, List.map_nil]); first | done | rfl) ?_; refine (rCheck_calls A c l _ (Kd.C_below HR.out HB4.out)).mono ?_; rw [HCK.out]; rintro e w5 ⟨rfl, hb⟩; refine ⟨_, rfl, ?_⟩; have HB5 := Aside0.mk (below_step HB4.out hb); have X5 := Aside0.mk (blk_below X4.out hb); clear hb) | ((with_reducible refine gate_dst (N := 54) rfl ?_); refine goesL_ (some 54) rfl rfl Try.func19 (by kernel_rfl) rfl #[.slice A l.length c] rfl (by (try simp only [List.map_toArray, List.map_cons, List.map_nil]); first | done | rfl) ?_; refine (Spread_calls A c l _ (Kd.C_below HR.out HB5.out)).mono ?_; rw [HSP.out]; rintro e w6 ⟨v, rfl, hra, hb⟩; refine ⟨_, rfl, ?_⟩; replace hra : RT w6 _ v so := hra; obtain ⟨As, Asc, rfl⟩ := Kd.R_slice hra; have HB6 := Aside0.mk (below_step HB5.out hb); have X6 := Aside0.mk (blk_below X5.out hb); have S_6 := Aside0.mk (Kd.R_reads' hra).2.2; clear hra hb) | ((with_reducible refine gate_dst (N := 59) rfl ?_); refine goesL_ (some 59) rfl rfl Try.func18 (by kernel_rfl) rfl #[.slice A l.length c] rfl (by (try simp only [List.map_toArray, List.map_cons, List.map_nil]); first | done | rfl) ?_; refine (rSpread_calls A c l _ (Kd.C_below HR.out HB6.out) HC.out).mono ?_; rw [HSP.out]; rintro e w7 ⟨v, rfl, hra, hb⟩; refine ⟨_, rfl, ?_⟩; replace hra : RT w7 _ v so := hra; obtain ⟨At, Atc, rfl⟩ := Kd.R_slice hra; have HB7 := Aside0.mk (below_step HB6.out hb); have X7 := Aside0.mk (blk_below X6.out hb); have S_7 := Aside0.mk (Kd.C_below S_6.out hb); have T_7 := Aside0.mk (Kd.R_reads' hra).2.2; clear hra hb; have x0 := (blk_cell X7.out 0).trans rfl; have x1 := (blk_cell X7.out 1).trans rfl; have x2 := (blk_cell X7.out 2).trans rfl) | ((with_reducible refine gate_dst (N := 66) rfl ?_); refine goesL_ (some 66) rfl rfl Try.func34 (by kernel_rfl) rfl #[.slice A l.length c, .int .i64 k, .agg #[.int .i64 d.f0, .bool d.f1, .slice A2 d.f2.length c2]] rfl (by (try simp only [List.map_toArray, List.map_cons, List.map_nil]); first | done | rfl) ?_; refine (Change_calls A A2 c c2 l k d _ (Kd.C_below HR.out HB7.out) (Kd.C_below HR2.out HB7.out) HC2.out).mono ?_; rw [HCH.out]; rintro e w8 ⟨v, rfl, hra, hb⟩; refine ⟨_, rfl, ?_⟩; replace hra : RT w8 _ v co := hra; obtain ⟨Ap, Apc, rfl⟩ := Kd.R_slice hra; have HB8 := Aside0.mk (below_step HB7.out hb); have X8 := Aside0.mk (blk_below X7.out hb); have S_8 := Aside0.mk (Kd.C_below S_7.out hb); have T_8 := Aside0.mk (Kd.C_below T_7.out hb); have P_8 := Aside0.mk (Kd.R_reads' hra).2.2; clear hra hb x0 x1 x2; have x0 := (blk_cell X8.out 0).trans rfl; have x1 := (blk_cell X8.out 1).trans rfl; have x2 := (blk_cell X8.out 2).trans rfl) | ((with_reducible refine gate_dst (N := 73) rfl ?_); refine goesL_ (some 73) rfl rfl Try.func35 (by kernel_rfl) rfl #[.slice A l.length c, .int .i64 k, .agg #[.int .i64 d.f0, .bool d.f1, .slice A2 d.f2.length c2]] rfl (by (try simp only [List.map_toArray, List.map_cons, List.map_nil]); first | done | rfl) ?_; refine (rChange_calls A c l k A2 c2 d _ (Kd.C_below HR.out HB8.out) HC.out (Kd.C_below HR2.out HB8.out) HC2.out).mono ?_; rw [HCH.out]; rintro e w9 ⟨v, rfl, hra, hb⟩; refine ⟨_, rfl, ?_⟩; replace hra : RT w9 _ v co := hra; obtain ⟨Aq, Aqc, rfl⟩ := Kd.R_slice hra; have HB9 := Aside0.mk (below_step HB8.out hb); have X9 := Aside0.mk (blk_below X8.out hb); have S_9 := Aside0.mk (Kd.C_below S_8.out hb); have T_9 := Aside0.mk (Kd.C_below T_8.out hb); have P_9 := Aside0.mk (Kd.C_below P_8.out hb); have Q_9 := Aside0.mk (Kd.R_reads' hra).2.2; clear hra hb x0 x1 x2))
  go_wp2_with ((with_reducible refine gate_dst (N := 76) rfl ?_); refine goesL_ (some 76) rfl rfl Try.func15 (by kernel_rfl) rfl #[] rfl (by (try simp only [List.map_toArray, List.map_cons, List.map_nil]); first | done | rfl) ?_; refine (sane_calls _).mono ?_; rintro e ws ⟨rfl, hb⟩; refine ⟨_, rfl, ?_⟩; have HBS := Aside0.mk (below_step HB9.out hb); have SS := Aside0.mk (Kd.C_below S_9.out hb); have TS := Aside0.mk (Kd.C_below T_9.out hb); have PS := Aside0.mk (Kd.C_below P_9.out hb); have QS := Aside0.mk (Kd.C_below Q_9.out hb); clear hb)
  go_at_call 36
  refine (SameTwigs_eq As At Asc Atc so _ SS.out TS.out SS.out.2.1).mono ?_
  rintro e wt ⟨rfl, hb⟩
  have HBT := Aside0.mk (below_step HBS.out hb)
  have PT := Aside0.mk (Kd.C_below PS.out hb)
  have QT := Aside0.mk (Kd.C_below QS.out hb)
  clear hb
  go_wp2_with (go_at_call 36; refine (SameTwigs_eq Ap Aq Apc Aqc co _ PT.out QT.out PT.out.2.1).mono ?_; rintro e wu ⟨rfl, hb⟩; have HBU := Aside0.mk (below_step HBT.out hb); clear hb)
  go_ret
  exact ⟨rfl, HBU.out⟩
theorem trees_walk (A : Option Addr) (c : Nat) (l : List S35) (k : Int) (A2 : Option Addr) (c2 : Nat) (d : S33) (w : World) (hc : l.length ≤ c) (hr : k35.C w A l.length l) (_ : -9223372036854775808 ≤ k ∧ k ≤ 9223372036854775807) (hc2 : d.f2.length ≤ c2) (hr2 : k37.C w A2 d.f2.length d.f2) :
    Calls Try.prog 8 #[.slice A l.length c, .int .i64 k, .agg #[.int .i64 d.f0, .bool d.f1, .slice A2 d.f2.length c2]] w fun e w' => e = .returned (.bool true) ∧ Below w.heap.size w w' := by
  cases hs : smallB l with
  | false => exact trees_small A A2 c c2 l k d w hr hr2 hc2 hs
  | true =>
    by_cases hsh : d.f2.length ≤ 40
    · cases hag : sAgrees l with
      | mk g1 g2 =>
        cases hsp : sSpread l with
        | mk so se =>
          cases hch : sChange l k d with
          | mk co ce => exact trees_all A A2 c c2 l k d w hr hr2 hc2 hc hs (by simpa using hsh) g1 g2 hag _ rfl so se hsp co ce hch
    · exact trees_short A A2 c c2 l k d w hr hr2 hc2 hs (by simpa using hsh)
end Go.Proofs.Ytgocgjfaiddejaa.M
