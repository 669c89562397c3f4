/- InheritAgrees: its walk. -/
import Derived.Test.YtgocgjfaiddejaaSR
namespace Go.Proofs.Ytgocgjfaiddejaa.M
open Go.RowKit Go.Proofs.YtgocgjfaiddejaaW.PrintWords Go.Proofs.YtgocgjfaiddejaaW.PrintLast Go.Proofs.YtgocgjfaiddejaaW.PrintMore
set_option linter.unusedVariables false
set_option linter.unusedSimpArgs false
set_option linter.unnecessarySimpa false

set_option maxRecDepth 100000 in
set_option maxHeartbeats 2000000 in
theorem agrees_small (A A2 : Option Addr) (c c2 : Nat) (l : List S35) (k : Int) (d : S33) (w : World) (hr : k35.C w A l.length l) (hr2 : k37.C w A2 d.f2.length d.f2) (hc2 : d.f2.length ≤ c2) (hs : smallB l = false) :
    Calls Try.prog 9 #[.slice A l.length c, .int .i64 k, .agg #[.int .i64 d.f0, .bool d.f1, .slice A2 d.f2.length c2]] w fun e w' => e = .returned (.bool true) ∧ Below w.heap.size w w' := by
  have HR := Aside0.mk hr
  have HR2 := Aside0.mk hr2
  have HC2 := Aside0.mk hc2
  have HSM := Aside0.mk hs
  clear hr hr2 hc2 hs
  go_enter Try.func9, Try.ntmps9
  go_upto_region 1 with (fail)
  have hb_ := below_alloc (Below.refl _ w) (.cells #[.int .i64 d.f0, .bool d.f1, .slice A2 d.f2.length c2] 33)
  have hG0_ := blk_lit0 w (.cells #[.int .i64 d.f0, .bool d.f1, .slice A2 d.f2.length c2] 33)
  generalize (w.alloc (.cells #[.int .i64 d.f0, .bool d.f1, .slice A2 d.f2.length c2] 33)) = W at hb_ hG0_ ⊢
  have HB_W := Aside0.mk hb_
  have W0 := Aside0.mk hG0_
  clear hb_ hG0_
  go_wp2_with (first | ((with_reducible refine gate_dst (N := 17) rfl ?_); refine goesL_ (some 17) rfl rfl Try.func14 (by kernel_rfl) rfl #[.slice A l.length c] rfl (by (try simp only [List.map_toArray, List.map_cons, List.map_nil]); first | done | rfl) ?_; refine (small_calls A c l _ (Kd.C_below HR.out HB_W.out)).mono ?_; rintro e w0 ⟨rfl, hb⟩; refine ⟨_, rfl, ?_⟩; rw [HSM.out]; have HB0 := Aside0.mk (below_step HB_W.out hb); have V0 := Aside0.mk (blk_below W0.out hb); clear hb; have y0 := (blk_cell V0.out 0).trans rfl; have y1 := (blk_cell V0.out 1).trans rfl; have y2 := (blk_cell V0.out 2).trans rfl) | ((with_reducible refine gate_dst (N := 25) rfl ?_); refine goesL_ (some 25) rfl rfl Try.func15 (by kernel_rfl) rfl #[] rfl (by (try simp only [List.map_toArray, List.map_cons, List.map_nil]); first | done | rfl) ?_; refine (sane_calls _).mono ?_; rintro e ws ⟨rfl, hb⟩; refine ⟨_, rfl, ?_⟩; have HBS := Aside0.mk (below_step HB0.out hb); clear hb))
  go_ret
  exact ⟨rfl, HBS.out⟩
set_option maxRecDepth 100000 in
set_option maxHeartbeats 2000000 in
theorem agrees_short (A A2 : Option Addr) (c c2 : Nat) (l : List S35) (k : Int) (d : S33) (w : World) (hr : k35.C w A l.length l) (hr2 : k37.C w A2 d.f2.length d.f2) (hc2 : d.f2.length ≤ c2) (hs : smallB l = true) (hsh : decide (d.f2.length ≤ 40) = false) :
    Calls Try.prog 9 #[.slice A l.length c, .int .i64 k, .agg #[.int .i64 d.f0, .bool d.f1, .slice A2 d.f2.length c2]] w fun e w' => e = .returned (.bool true) ∧ Below w.heap.size w w' := by
  have HR := Aside0.mk hr
  have HR2 := Aside0.mk hr2
  have HC2 := Aside0.mk hc2
  have HSM := Aside0.mk hs
  have HSH := Aside0.mk hsh
  clear hr hr2 hc2 hs hsh
  go_enter Try.func9, Try.ntmps9
  go_upto_region 1 with (fail)
  have hb_ := below_alloc (Below.refl _ w) (.cells #[.int .i64 d.f0, .bool d.f1, .slice A2 d.f2.length c2] 33)
  have hG0_ := blk_lit0 w (.cells #[.int .i64 d.f0, .bool d.f1, .slice A2 d.f2.length c2] 33)
  generalize (w.alloc (.cells #[.int .i64 d.f0, .bool d.f1, .slice A2 d.f2.length c2] 33)) = W at hb_ hG0_ ⊢
  have HB_W := Aside0.mk hb_
  have W0 := Aside0.mk hG0_
  clear hb_ hG0_
  go_wp2_with (first | ((with_reducible refine gate_dst (N := 17) rfl ?_); refine goesL_ (some 17) rfl rfl Try.func14 (by kernel_rfl) rfl #[.slice A l.length c] rfl (by (try simp only [List.map_toArray, List.map_cons, List.map_nil]); first | done | rfl) ?_; refine (small_calls A c l _ (Kd.C_below HR.out HB_W.out)).mono ?_; rintro e w0 ⟨rfl, hb⟩; refine ⟨_, rfl, ?_⟩; rw [HSM.out]; have HB0 := Aside0.mk (below_step HB_W.out hb); have V0 := Aside0.mk (blk_below W0.out hb); clear hb; have y0 := (blk_cell V0.out 0).trans rfl; have y1 := (blk_cell V0.out 1).trans rfl; have y2 := (blk_cell V0.out 2).trans rfl) | (go_at_call 24; refine (short_one _ d.f0 d.f1 A2 c2 d.f2 _ (blk_new _ _) (Kd.C_alloc (Kd.C_below HR2.out HB0.out) _) HC2.out).mono ?_; rintro e w1 ⟨rfl, hb⟩; rw [HSH.out]; have HB1 := Aside0.mk (below_step (below_alloc HB0.out _) hb); have X1 := Aside0.mk (blk_below (blk_alloc V0.out _) hb); clear hb y0 y1 y2) | ((with_reducible refine gate_dst (N := 25) rfl ?_); refine goesL_ (some 25) rfl rfl Try.func15 (by kernel_rfl) rfl #[] rfl (by (try simp only [List.map_toArray, List.map_cons, List.map_nil]); first | done | rfl) ?_; refine (sane_calls _).mono ?_; rintro e ws ⟨rfl, hb⟩; refine ⟨_, rfl, ?_⟩; have HBS := Aside0.mk (below_step HB1.out hb); clear hb))
  go_ret
  exact ⟨rfl, HBS.out⟩
set_option maxRecDepth 100000 in
set_option maxHeartbeats 2000000 in
theorem agrees_err (A A2 : Option Addr) (c c2 : Nat) (l : List S35) (k : Int) (d : S33) (w : World) (hr : k35.C w A l.length l) (hr2 : k37.C w A2 d.f2.length d.f2) (hc2 : d.f2.length ≤ c2) (hs : smallB l = true) (hsh : decide (d.f2.length ≤ 40) = true) (er : Int) (hsp : sSpread l = ([], er)) (he : ¬ er = 0) :
    Calls Try.prog 9 #[.slice A l.length c, .int .i64 k, .agg #[.int .i64 d.f0, .bool d.f1, .slice A2 d.f2.length c2]] w fun e w' => e = .returned (.bool true) ∧ Below w.heap.size w w' := by
  have HR := Aside0.mk hr
  have HR2 := Aside0.mk hr2
  have HC2 := Aside0.mk hc2
  have HSM := Aside0.mk hs
  have HSH := Aside0.mk hsh
  have HSP := Aside0.mk hsp
  have he2 : decide (er = 0) = false := by simpa using he
  clear hr hr2 hc2 hs hsh hsp
  go_enter Try.func9, Try.ntmps9
  go_upto_region 1 with (fail)
  have hb_ := below_alloc (Below.refl _ w) (.cells #[.int .i64 d.f0, .bool d.f1, .slice A2 d.f2.length c2] 33)
  have hG0_ := blk_lit0 w (.cells #[.int .i64 d.f0, .bool d.f1, .slice A2 d.f2.length c2] 33)
  generalize (w.alloc (.cells #[.int .i64 d.f0, .bool d.f1, .slice A2 d.f2.length c2] 33)) = W at hb_ hG0_ ⊢
  have HB_W := Aside0.mk hb_
  have W0 := Aside0.mk hG0_
  clear hb_ hG0_
  go_wp2_with (first | ((with_reducible refine gate_dst (N := 17) rfl ?_); refine goesL_ (some 17) rfl rfl Try.func14 (by kernel_rfl) rfl #[.slice A l.length c] rfl (by (try simp only [List.map_toArray, List.map_cons, List.map_nil]); first | done | rfl) ?_; refine (small_calls A c l _ (Kd.C_below HR.out HB_W.out)).mono ?_; rintro e w0 ⟨rfl, hb⟩; refine ⟨_, rfl, ?_⟩; rw [HSM.out]; have HB0 := Aside0.mk (below_step HB_W.out hb); have V0 := Aside0.mk (blk_below W0.out hb); clear hb; have y0 := (blk_cell V0.out 0).trans rfl; have y1 := (blk_cell V0.out 1).trans rfl; have y2 := (blk_cell V0.out 2).trans rfl) | (go_at_call 24; refine (short_one _ d.f0 d.f1 A2 c2 d.f2 _ (blk_new _ _) (Kd.C_alloc (Kd.C_below HR2.out HB0.out) _) HC2.out).mono ?_; rintro e w1 ⟨rfl, hb⟩; rw [HSH.out]; have HB1 := Aside0.mk (below_step (below_alloc HB0.out _) hb); have X1 := Aside0.mk (blk_below (blk_alloc V0.out _) hb); clear hb y0 y1 y2) | ((with_reducible refine gate_dst (N := 28) rfl ?_); refine goesL_ (some 28) rfl rfl Try.func19 (by kernel_rfl) rfl #[.slice A l.length c] rfl (by (try simp only [List.map_toArray, List.map_cons, List.map_nil]); first | done | rfl) ?_; refine (Spread_calls A c l _ (Kd.C_below HR.out HB1.out)).mono ?_; rw [HSP.out]; rintro e w2 ⟨v, rfl, hra, hb⟩; refine ⟨_, rfl, ?_⟩; replace hra : RT w2 _ v [] := hra; obtain ⟨As, cs, rfl⟩ := Kd.R_slice hra; have HB2 := Aside0.mk (below_step HB1.out hb); have S2 := Aside0.mk (Kd.R_reads' hra).2.2; have X2 := Aside0.mk (blk_below X1.out hb); clear hra hb) | ((with_reducible refine gate_dst (N := 33) rfl ?_); refine goesL_ (some 33) rfl rfl Try.func15 (by kernel_rfl) rfl #[] rfl (by (try simp only [List.map_toArray, List.map_cons, List.map_nil]); first | done | rfl) ?_; refine (sane_calls _).mono ?_; rintro e ws ⟨rfl, hb⟩; refine ⟨_, rfl, ?_⟩; have HBS := Aside0.mk (below_step HB2.out hb); clear hb))
  go_ret
  exact ⟨rfl, HBS.out⟩
theorem withD_len (l : List S35) (k : Nat) (d : S33) : (withD l k d).length = l.length := by simp [withD]
set_option maxRecDepth 100000 in
set_option maxHeartbeats 2000000 in
theorem agrees_chg (A A2 : Option Addr) (c c2 : Nat) (l : List S35) (k : Int) (d : S33) (w : World) (hr : k35.C w A l.length l) (hr2 : k37.C w A2 d.f2.length d.f2) (hc2 : d.f2.length ≤ c2) (hs : smallB l = true) (hsh : decide (d.f2.length ≤ 40) = true) (s : List S35) (hsp : sSpread l = (s, 0)) (hss : sSpread s = (s, 0)) (hag : sAgrees s = (-1, 0)) (hm : s.length ≤ 400) (out : List S35) (er : Int) (hch : sChange s k d = (out, er)) (he : ¬ er = 0) :
    Calls Try.prog 9 #[.slice A l.length c, .int .i64 k, .agg #[.int .i64 d.f0, .bool d.f1, .slice A2 d.f2.length c2]] w fun e w' => e = .returned (.bool true) ∧ Below w.heap.size w w' := by
  have HR := Aside0.mk hr
  have HR2 := Aside0.mk hr2
  have HC2 := Aside0.mk hc2
  have HSM := Aside0.mk hs
  have HSH := Aside0.mk hsh
  have HSP := Aside0.mk hsp
  have HSS := Aside0.mk hss
  have HAG := Aside0.mk hag
  have HM := Aside0.mk hm
  have HCH := Aside0.mk hch
  have he2 : decide (er = 0) = false := by simpa using he
  clear hr hr2 hc2 hs hsh hsp hss hag hch hm
  go_enter Try.func9, Try.ntmps9
  go_upto_region 1 with (fail)
  have hb_ := below_alloc (Below.refl _ w) (.cells #[.int .i64 d.f0, .bool d.f1, .slice A2 d.f2.length c2] 33)
  have hG0_ := blk_lit0 w (.cells #[.int .i64 d.f0, .bool d.f1, .slice A2 d.f2.length c2] 33)
  generalize (w.alloc (.cells #[.int .i64 d.f0, .bool d.f1, .slice A2 d.f2.length c2] 33)) = W at hb_ hG0_ ⊢
  have HB_W := Aside0.mk hb_
  have W0 := Aside0.mk hG0_
  clear hb_ hG0_
  go_wp2_with (first | ((with_reducible refine gate_dst (N := 17) rfl ?_); refine goesL_ (some 17) rfl rfl Try.func14 (by kernel_rfl) rfl #[.slice A l.length c] rfl (by (try simp only [List.map_toArray, List.map_cons, List.map_nil]); first | done | rfl) ?_; refine (small_calls A c l _ (Kd.C_below HR.out HB_W.out)).mono ?_; rintro e w0 ⟨rfl, hb⟩; refine ⟨_, rfl, ?_⟩; rw [HSM.out]; have HB0 := Aside0.mk (below_step HB_W.out hb); have V0 := Aside0.mk (blk_below W0.out hb); clear hb; have y0 := (blk_cell V0.out 0).trans rfl; have y1 := (blk_cell V0.out 1).trans rfl; have y2 := (blk_cell V0.out 2).trans rfl) | (go_at_call 24; refine (short_one _ d.f0 d.f1 A2 c2 d.f2 _ (blk_new _ _) (Kd.C_alloc (Kd.C_below HR2.out HB0.out) _) HC2.out).mono ?_; rintro e w1 ⟨rfl, hb⟩; rw [HSH.out]; have HB1 := Aside0.mk (below_step (below_alloc HB0.out _) hb); have X1 := Aside0.mk (blk_below (blk_alloc V0.out _) hb); clear hb y0 y1 y2) | ((with_reducible refine gate_dst (N := 28) rfl ?_); refine goesL_ (some 28) rfl rfl Try.func19 (by kernel_rfl) rfl #[.slice A l.length c] rfl (by (try simp only [List.map_toArray, List.map_cons, List.map_nil]); first | done | rfl) ?_; refine (Spread_calls A c l _ (Kd.C_below HR.out HB1.out)).mono ?_; rw [HSP.out]; rintro e w2 ⟨v, rfl, hra, hb⟩; refine ⟨_, rfl, ?_⟩; replace hra : RT w2 _ v s := hra; obtain ⟨As, cs, rfl⟩ := Kd.R_slice hra; have HB2 := Aside0.mk (below_step HB1.out hb); have S2 := Aside0.mk (Kd.R_reads' hra).2.2; have X2 := Aside0.mk (blk_below X1.out hb); clear hra hb) | ((with_reducible refine gate_dst (N := 41) rfl ?_); refine goesL_ (some 41) rfl rfl Try.func30 (by kernel_rfl) rfl #[.slice As s.length cs] rfl (by (try simp only [List.map_toArray, List.map_cons, List.map_nil]); first | done | rfl) ?_; refine (Agrees_calls As cs s _ S2.out).mono ?_; rw [HAG.out]; rintro e w3 ⟨rfl, hb⟩; refine ⟨_, rfl, ?_⟩; have HB3 := Aside0.mk (below_step HB2.out hb); have S3 := Aside0.mk (Kd.C_below S2.out hb); have X3 := Aside0.mk (blk_below X2.out hb); clear hb) | ((with_reducible refine gate_dst (N := 46) rfl ?_); refine goesL_ (some 46) rfl rfl Try.func19 (by kernel_rfl) rfl #[.slice As s.length cs] rfl (by (try simp only [List.map_toArray, List.map_cons, List.map_nil]); first | done | rfl) ?_; refine (Spread_calls As cs s _ S3.out).mono ?_; rw [HSS.out]; rintro e w4 ⟨v, rfl, hra, hb⟩; refine ⟨_, rfl, ?_⟩; replace hra : RT w4 _ v s := hra; obtain ⟨At, ct, rfl⟩ := Kd.R_slice hra; have HB4 := Aside0.mk (below_step HB3.out hb); have S4 := Aside0.mk (Kd.C_below S3.out hb); have T4 := Aside0.mk (Kd.R_reads' hra).2.2; have X4 := Aside0.mk (blk_below X3.out hb); clear hra hb) | (go_at_call 36; refine (SameTwigs_eq At As ct cs s _ T4.out S4.out (by have := HM.out; omega)).mono ?_; rintro e w5 ⟨rfl, hb⟩; have HB5 := Aside0.mk (below_step HB4.out hb); have S5 := Aside0.mk (Kd.C_below S4.out hb); have X5 := Aside0.mk (blk_below X4.out hb); clear hb; have x0 := (blk_cell X5.out 0).trans rfl; have x1 := (blk_cell X5.out 1).trans rfl; have x2 := (blk_cell X5.out 2).trans rfl) | ((with_reducible refine gate_dst (N := 69) rfl ?_); refine goesL_ (some 69) rfl rfl Try.func34 (by kernel_rfl) rfl #[.slice As s.length cs, .int .i64 k, .agg #[.int .i64 d.f0, .bool d.f1, .slice A2 d.f2.length c2]] rfl (by (try simp only [List.map_toArray, List.map_cons, List.map_nil]); first | done | rfl) ?_; refine (Change_calls As A2 cs c2 s k d _ S5.out (Kd.C_below HR2.out HB5.out) HC2.out).mono ?_; rw [HCH.out]; rintro e w6 ⟨v, rfl, hra, hb⟩; refine ⟨_, rfl, ?_⟩; replace hra : RT w6 _ v out := hra; obtain ⟨Ao, co, rfl⟩ := Kd.R_slice hra; have HB6 := Aside0.mk (below_step HB5.out hb); have S6 := Aside0.mk (Kd.C_below S5.out hb); have O6 := Aside0.mk (Kd.R_reads' hra).2.2; clear hra hb x0 x1 x2) | ((with_reducible refine gate_dst (N := 74) rfl ?_); refine goesL_ (some 74) rfl rfl Try.func15 (by kernel_rfl) rfl #[] rfl (by (try simp only [List.map_toArray, List.map_cons, List.map_nil]); first | done | rfl) ?_; refine (sane_calls _).mono ?_; rintro e ws ⟨rfl, hb⟩; refine ⟨_, rfl, ?_⟩; have HBS := Aside0.mk (below_step HB6.out hb); clear hb))
  go_ret
  exact ⟨rfl, HBS.out⟩
set_option maxRecDepth 100000 in
set_option maxHeartbeats 2000000 in
theorem agrees_all (A A2 : Option Addr) (c c2 : Nat) (l : List S35) (kk : Nat) (d : S33) (w : World) (hr : k35.C w A l.length l) (hr2 : k37.C w A2 d.f2.length d.f2) (hc2 : d.f2.length ≤ c2) (hs : smallB l = true) (hsh : decide (d.f2.length ≤ 40) = true) (s : List S35) (hsp : sSpread l = (s, 0)) (hss : sSpread s = (s, 0)) (hag : sAgrees s = (-1, 0)) (hm : s.length ≤ 400) (out : List S35) (hch : sChange s (kk : Int) d = (out, 0))
    (hk : kk < s.length) (hlo : out.length = s.length) (hao : sAgrees out = (-1, 0)) (hw : sSpread (withD s kk (rd_T35 out kk).f2) = (out, 0)) :
    Calls Try.prog 9 #[.slice A l.length c, .int .i64 (kk : Int), .agg #[.int .i64 d.f0, .bool d.f1, .slice A2 d.f2.length c2]] w fun e w' => e = .returned (.bool true) ∧ Below w.heap.size w w' := by
  have HR := Aside0.mk hr
  have HR2 := Aside0.mk hr2
  have HC2 := Aside0.mk hc2
  have HSM := Aside0.mk hs
  have HSH := Aside0.mk hsh
  have HSP := Aside0.mk hsp
  have HSS := Aside0.mk hss
  have HAG := Aside0.mk hag
  have HM := Aside0.mk hm
  have HCH := Aside0.mk hch
  have HK := Aside0.mk hk
  have HLO := Aside0.mk hlo
  have HAO := Aside0.mk hao
  have HWD := Aside0.mk hw
  have d1 : decide ((kk : Int) < 0) = false := decide_eq_false (by omega)
  have d2 : decide (s.length ≤ kk) = false := decide_eq_false (by omega)
  clear hr hr2 hc2 hs hsh hsp hss hag hch hm hk hlo hao hw
  go_enter Try.func9, Try.ntmps9
  go_upto_region 1 with (fail)
  have hb_ := below_alloc (Below.refl _ w) (.cells #[.int .i64 d.f0, .bool d.f1, .slice A2 d.f2.length c2] 33)
  have hG0_ := blk_lit0 w (.cells #[.int .i64 d.f0, .bool d.f1, .slice A2 d.f2.length c2] 33)
  generalize (w.alloc (.cells #[.int .i64 d.f0, .bool d.f1, .slice A2 d.f2.length c2] 33)) = W at hb_ hG0_ ⊢
  have HB_W := Aside0.mk hb_
  have W0 := Aside0.mk hG0_
  clear hb_ hG0_
  go_upto_region 16 with (first | ((with_reducible refine gate_dst (N := 17) rfl ?_); refine goesL_ (some 17) rfl rfl Try.func14 (by kernel_rfl) rfl #[.slice A l.length c] rfl (by (try simp only [List.map_toArray, List.map_cons, List.map_nil]); first | done | rfl) ?_; refine (small_calls A c l _ (Kd.C_below HR.out HB_W.out)).mono ?_; rintro e w0 ⟨rfl, hb⟩; refine ⟨_, rfl, ?_⟩; rw [HSM.out]; have HB0 := Aside0.mk (below_step HB_W.out hb); have V0 := Aside0.mk (blk_below W0.out hb); clear hb; have y0 := (blk_cell V0.out 0).trans rfl; have y1 := (blk_cell V0.out 1).trans rfl; have y2 := (blk_cell V0.out 2).trans rfl) | (go_at_call 24; refine (short_one _ d.f0 d.f1 A2 c2 d.f2 _ (blk_new _ _) (Kd.C_alloc (Kd.C_below HR2.out HB0.out) _) HC2.out).mono ?_; rintro e w1 ⟨rfl, hb⟩; rw [HSH.out]; have HB1 := Aside0.mk (below_step (below_alloc HB0.out _) hb); have X1 := Aside0.mk (blk_below (blk_alloc V0.out _) hb); clear hb y0 y1 y2) | ((with_reducible refine gate_dst (N := 28) rfl ?_); refine goesL_ (some 28) rfl rfl Try.func19 (by kernel_rfl) rfl #[.slice A l.length c] rfl (by (try simp only [List.map_toArray, List.map_cons, List.map_nil]); first | done | rfl) ?_; refine (Spread_calls A c l _ (Kd.C_below HR.out HB1.out)).mono ?_; rw [HSP.out]; rintro e w2 ⟨v, rfl, hra, hb⟩; refine ⟨_, rfl, ?_⟩; replace hra : RT w2 _ v s := hra; obtain ⟨As, cs, rfl⟩ := Kd.R_slice hra; have HB2 := Aside0.mk (below_step HB1.out hb); have S2 := Aside0.mk (Kd.R_reads' hra).2.2; have X2 := Aside0.mk (blk_below X1.out hb); clear hra hb) | ((with_reducible refine gate_dst (N := 41) rfl ?_); refine goesL_ (some 41) rfl rfl Try.func30 (by kernel_rfl) rfl #[.slice As s.length cs] rfl (by (try simp only [List.map_toArray, List.map_cons, List.map_nil]); first | done | rfl) ?_; refine (Agrees_calls As cs s _ S2.out).mono ?_; rw [HAG.out]; rintro e w3 ⟨rfl, hb⟩; refine ⟨_, rfl, ?_⟩; have HB3 := Aside0.mk (below_step HB2.out hb); have S3 := Aside0.mk (Kd.C_below S2.out hb); have X3 := Aside0.mk (blk_below X2.out hb); clear hb) | ((with_reducible refine gate_dst (N := 46) rfl ?_); refine goesL_ (some 46) rfl rfl Try.func19 (by kernel_rfl) rfl #[.slice As s.length cs] rfl (by (try simp only [List.map_toArray, List.map_cons, List.map_nil]); first | done | rfl) ?_; refine (Spread_calls As cs s _ S3.out).mono ?_; rw [HSS.out]; rintro e w4 ⟨v, rfl, hra, hb⟩; refine ⟨_, rfl, ?_⟩; replace hra : RT w4 _ v s := hra; obtain ⟨At, ct, rfl⟩ := Kd.R_slice hra; have HB4 := Aside0.mk (below_step HB3.out hb); have S4 := Aside0.mk (Kd.C_below S3.out hb); have T4 := Aside0.mk (Kd.R_reads' hra).2.2; have X4 := Aside0.mk (blk_below X3.out hb); clear hra hb) | (go_at_call 36; refine (SameTwigs_eq At As ct cs s _ T4.out S4.out (by have := HM.out; omega)).mono ?_; rintro e w5 ⟨rfl, hb⟩; have HB5 := Aside0.mk (below_step HB4.out hb); have S5 := Aside0.mk (Kd.C_below S4.out hb); have X5 := Aside0.mk (blk_below X4.out hb); clear hb; have x0 := (blk_cell X5.out 0).trans rfl; have x1 := (blk_cell X5.out 1).trans rfl; have x2 := (blk_cell X5.out 2).trans rfl) | ((with_reducible refine gate_dst (N := 69) rfl ?_); refine goesL_ (some 69) rfl rfl Try.func34 (by kernel_rfl) rfl #[.slice As s.length cs, .int .i64 (kk : Int), .agg #[.int .i64 d.f0, .bool d.f1, .slice A2 d.f2.length c2]] rfl (by (try simp only [List.map_toArray, List.map_cons, List.map_nil]); first | done | rfl) ?_; refine (Change_calls As A2 cs c2 s (kk : Int) d _ S5.out (Kd.C_below HR2.out HB5.out) HC2.out).mono ?_; rw [HCH.out]; rintro e w6 ⟨v, rfl, hra, hb⟩; refine ⟨_, rfl, ?_⟩; replace hra : RT w6 _ v out := hra; obtain ⟨Ao, co, rfl⟩ := Kd.R_slice hra; rw [HLO.out]; have HB6 := Aside0.mk (below_step HB5.out hb); have S6 := Aside0.mk (Kd.C_below S5.out hb); have O6 := Aside0.mk (Kd.R_reads' hra).2.2; clear hra hb x0 x1 x2) | ((with_reducible refine gate_dst (N := 92) rfl ?_); refine goesL_ (some 92) rfl rfl Try.func30 (by kernel_rfl) rfl #[.slice Ao s.length co] rfl (by (try simp only [List.map_toArray, List.map_cons, List.map_nil]); first | done | rfl) ?_; have hc := Agrees_calls Ao co out _ O6.out; rw [HLO.out, HAO.out] at hc; refine hc.mono ?_; rintro e w7 ⟨rfl, hb⟩; refine ⟨_, rfl, ?_⟩; have HB7 := Aside0.mk (below_step HB6.out hb); have S7 := Aside0.mk (Kd.C_below S6.out hb); have O7 := Aside0.mk (Kd.C_below O6.out hb); clear hb hc))
  obtain ⟨ad, Ad, cd, rfl, _, _, x2, x3, x4, hdl, hdr⟩ := at_T35 O7.out (kk : Int) (by omega) (by have := HLO.out; have := HK.out; omega)
  simp only [Int.toNat_natCast] at x2 x3 x4
  have D7 := Aside0.mk hdr
  have DL := Aside0.mk hdl
  have hkk := HK.out
  clear hdl hdr d1 d2
  go_wp2_with (first | ((with_reducible refine gate_dst (N := 103) rfl ?_); refine goesL_ (some 103) rfl rfl Try.func37 (by kernel_rfl) rfl #[.slice As s.length cs, .int .i64 (kk : Int), .agg #[.int .i64 (rd_T35 out kk).f2.f0, .bool (rd_T35 out kk).f2.f1, .slice Ad (rd_T35 out kk).f2.f2.length cd]] rfl (by (try simp only [List.map_toArray, List.map_cons, List.map_nil]); first | done | rfl) ?_; refine (With_calls As Ad cs cd s kk (rd_T35 out kk).f2 _ S7.out D7.out DL.out HK.out HM.out).mono ?_; rintro e w8 ⟨Aw, cw, rfl, hcw, hC, hb⟩; refine ⟨_, rfl, ?_⟩; have HB8 := Aside0.mk (below_step HB7.out hb); have O8 := Aside0.mk (Kd.C_below O7.out hb); have W8 := Aside0.mk hC; clear hb hC hcw x2 x3 x4) | ((with_reducible refine gate_dst (N := 104) rfl ?_); refine goesL_ (some 104) rfl rfl Try.func19 (by kernel_rfl) rfl #[.slice Aw s.length cw] rfl (by (try simp only [List.map_toArray, List.map_cons, List.map_nil]); first | done | rfl) ?_; have hc := Spread_calls Aw cw (withD s kk (rd_T35 out kk).f2) _ (by rw [withD_len]; exact W8.out); rw [withD_len, HWD.out] at hc; refine hc.mono ?_; rintro e w9 ⟨v, rfl, hra, hb⟩; refine ⟨_, rfl, ?_⟩; replace hra : RT w9 _ v out := hra; obtain ⟨Ap, cp, rfl⟩ := Kd.R_slice hra; rw [HLO.out]; have HB9 := Aside0.mk (below_step HB8.out hb); have O9 := Aside0.mk (Kd.C_below O8.out hb); have P9 := Aside0.mk (Kd.R_reads' hra).2.2; clear hra hb hc) | ((with_reducible refine gate_dst (N := 107) rfl ?_); refine goesL_ (some 107) rfl rfl Try.func15 (by kernel_rfl) rfl #[] rfl (by (try simp only [List.map_toArray, List.map_cons, List.map_nil]); first | done | rfl) ?_; refine (sane_calls _).mono ?_; rintro e ws ⟨rfl, hb⟩; refine ⟨_, rfl, ?_⟩; have HBS := Aside0.mk (below_step HB9.out hb); have OS := Aside0.mk (Kd.C_below O9.out hb); have PS := Aside0.mk (Kd.C_below P9.out hb); clear hb) | (go_at_call 36; have hc := SameTwigs_eq Ap (some ad) cp co out _ PS.out OS.out (by have := HM.out; have := HLO.out; omega); rw [HLO.out] at hc; refine hc.mono ?_; rintro e wt ⟨rfl, hb⟩; have HBT := Aside0.mk (below_step HBS.out hb); clear hb hc))
  go_ret
  exact ⟨rfl, HBT.out⟩
theorem agrees_walk (A : Option Addr) (c : Nat) (l : List S35) (k : Int) (A2 : Option Addr) (c2 : Nat) (d : S33) (w : World) (_ : l.length ≤ c) (hr : k35.C w A l.length l) (_ : -9223372036854775808 ≤ k ∧ k ≤ 9223372036854775807) (hc2 : d.f2.length ≤ c2) (hr2 : k37.C w A2 d.f2.length d.f2) :
    Calls Try.prog 9 #[.slice A l.length c, .int .i64 k, .agg #[.int .i64 d.f0, .bool d.f1, .slice A2 d.f2.length c2]] w fun e w' => e = .returned (.bool true) ∧ Below w.heap.size w w' := by
  cases hs : smallB l with
  | false => exact agrees_small A A2 c c2 l k d w hr hr2 hc2 hs
  | true =>
    by_cases hsh : d.f2.length ≤ 40
    · have hsh2 : decide (d.f2.length ≤ 40) = true := by simpa using hsh
      cases hsp : sSpread l with
      | mk s er =>
        by_cases he : er = 0
        · subst he
          obtain ⟨hvs, has, hss, hag⟩ := spread_ok hsp
          have hm := (vTree_pos hvs).2.1
          cases hch : sChange s k d with
          | mk out e2 =>
            by_cases he2 : e2 = 0
            · subst he2
              obtain ⟨kk, rfl, hkk, _, d', hd'⟩ := change_some hch
              obtain ⟨hvo, hao⟩ := change_agrees has hkk hvs hd'
              exact agrees_all A A2 c c2 l kk d w hr hr2 hc2 hs hsh2 s hsp hss hag hm out hch hkk hd'.out.len (agrees_none hvo hao) (change_spread has hkk hvs hd')
            · exact agrees_chg A A2 c c2 l k d w hr hr2 hc2 hs hsh2 s hsp hss hag hm out e2 hch he2
        · have := spread_err hsp he
          subst this
          exact agrees_err A A2 c c2 l k d w hr hr2 hc2 hs hsh2 er hsp he
    · exact agrees_short A A2 c c2 l k d w hr hr2 hc2 hs (by simpa using hsh)
end Go.Proofs.Ytgocgjfaiddejaa.M

