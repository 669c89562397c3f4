/- The reference's Given, Child and Renew answer what the program's do. -/
import Derived.Test.YtgocgjfaiddejaaQF
import Derived.Test.YtgocgjfaiddejaaH12
import Derived.Test.YtgocgjfaiddejaaH15
namespace Go.Proofs.Ytgocgjfaiddejaa.M
open Go.RowKit Go.Proofs.YtgocgjfaiddejaaW.PrintWords Go.Proofs.YtgocgjfaiddejaaW.PrintLast Go.Proofs.YtgocgjfaiddejaaW.PrintMore
set_option linter.unusedVariables false
set_option linter.unusedSimpArgs false
set_option linter.unnecessarySimpa false

theorem rGiven_calls (o : Int) (b : Bool) (A : Option Addr) (c : Nat) (l : List S37) (dir : Bool) (w : World) (hr : k37.C w A l.length l) (hc : l.length ≤ c) :
    Calls Try.prog 25 #[.agg #[.int .i64 o, .bool b, .slice A l.length c], .bool dir] w fun e w' => ∃ v, e = .returned (.tuple #[v, .int .i64 (errOf (vDesc o l))]) ∧ RA w' w.heap.size v (sGiven o l dir) ∧ Below w.heap.size w w' := by
  refine archivoltref23_Given.calls 30 o b A c l dir (sGiven o l dir) (errOf (vDesc o l)) w hr hc ?_
  unfold archivoltref23_Given.f
  rw [valid_f o b l 30 (by decide), Option.bind_some]
  unfold sGiven errOf
  cases hv : vDesc o l with
  | true => rw [if_pos rfl, given_f o b l dir (vDesc_all hv) (vDesc_len hv) 30 (Nat.le_refl _)]; rfl
  | false => rfl
set_option maxRecDepth 100000 in
set_option maxHeartbeats 2000000 in
theorem rChild_a (o : Int) (b : Bool) (A : Option Addr) (c : Nat) (l : List S37) (dir : Bool) (owner : Int) (w : World) (hr : k37.C w A l.length l) (hc : l.length ≤ c) (hv : vDesc o l = false) :
    Calls Try.prog 26 #[.agg #[.int .i64 o, .bool b, .slice A l.length c], .bool dir, .int .i64 owner] w (DescPost (sChild o l dir owner) w) := by
  have HR := Aside0.mk hr
  have HC := Aside0.mk hc
  have HV := Aside0.mk hv
  have HS := Aside0.mk (show sChild o l dir owner = (z33, 1) by unfold sChild; rw [if_neg (by rw [hv]; simp)])
  clear hr hc hv
  go_enter Try.func26, Try.ntmps26
  go_upto_region 1 with (fail)
  have hb_ := below_alloc (below_alloc (Below.refl _ w) (.cells #[.int .i64 o, .bool b, .slice A l.length c] 33)) (.cells #[.int .i64 0, .bool false, .slice none 0 0] 33)
  have hG0_ := blk_alloc (blk_lit0 w (.cells #[.int .i64 o, .bool b, .slice A l.length c] 33)) (.cells #[.int .i64 0, .bool false, .slice none 0 0] 33)
  have hG1_ := blk_lit w (.cells #[.int .i64 o, .bool b, .slice A l.length c] 33) (.cells #[.int .i64 0, .bool false, .slice none 0 0] 33)
  generalize ((w.alloc (.cells #[.int .i64 o, .bool b, .slice A l.length c] 33)).alloc (.cells #[.int .i64 0, .bool false, .slice none 0 0] 33)) = W at hb_ hG0_ hG1_ ⊢
  have HB_W := Aside0.mk hb_
  have W0 := Aside0.mk hG0_
  have W1 := Aside0.mk hG1_
  clear hb_ hG0_ hG1_
  have x0 := (blk_cell W0.out 0).trans rfl; have x1 := (blk_cell W0.out 1).trans rfl; have x2 := (blk_cell W0.out 2).trans rfl
  go_wp2_with ((with_reducible refine gate_dst (N := 9) rfl ?_); refine goesL_ (some 9) rfl rfl Try.func60 (by kernel_rfl) rfl #[.agg #[.int .i64 o, .bool b, .slice A l.length c]] rfl (by (try simp only [List.map_toArray, List.map_cons, List.map_nil]); first | done | rfl) ?_; refine (rValid_calls o b A c l _ (Kd.C_below HR.out HB_W.out) HC.out).mono ?_; rintro e w1 ⟨rfl, hb⟩; refine ⟨_, rfl, ?_⟩; rw [HV.out]; have HB1 := Aside0.mk (below_step HB_W.out hb); have X0 := Aside0.mk (blk_below W0.out hb); have X1 := Aside0.mk (blk_below W1.out hb); clear hb; have y0 := (blk_cell X0.out 0).trans rfl; have y1 := (blk_cell X0.out 1).trans rfl; have y2 := (blk_cell X0.out 2).trans rfl; have z0 := (blk_cell X1.out 0).trans rfl; have z1 := (blk_cell X1.out 1).trans rfl; have z2 := (blk_cell X1.out 2).trans rfl; have fz0 := blk_frozen X1.out 0; have fz1 := blk_frozen X1.out 1; have fz2 := blk_frozen X1.out 2)
  rw [HS.out]
  exact desc_end rfl rfl rfl X1.out rfl (by omega) (Kd.R_nil _ _ _ _ _) HB1.out
set_option maxRecDepth 100000 in
set_option maxHeartbeats 2000000 in
theorem rChild_b (o : Int) (b : Bool) (A : Option Addr) (c : Nat) (l : List S37) (dir : Bool) (owner : Int) (w : World) (hr : k37.C w A l.length l) (hc : l.length ≤ c) (hv : vDesc o l = true) (h2 : owner < 3) :
    Calls Try.prog 26 #[.agg #[.int .i64 o, .bool b, .slice A l.length c], .bool dir, .int .i64 owner] w (DescPost (sChild o l dir owner) w) := by
  have HR := Aside0.mk hr
  have HC := Aside0.mk hc
  have HV := Aside0.mk hv
  have HS := Aside0.mk (show sChild o l dir owner = (z33, 1) by unfold sChild; rw [if_neg (by omega)])
  have k2 : decide (owner < 3) = true := by simpa using h2
  clear h2
  clear hr hc hv
  go_enter Try.func26, Try.ntmps26
  go_upto_region 1 with (fail)
  have hb_ := below_alloc (below_alloc (Below.refl _ w) (.cells #[.int .i64 o, .bool b, .slice A l.length c] 33)) (.cells #[.int .i64 0, .bool false, .slice none 0 0] 33)
  have hG0_ := blk_alloc (blk_lit0 w (.cells #[.int .i64 o, .bool b, .slice A l.length c] 33)) (.cells #[.int .i64 0, .bool false, .slice none 0 0] 33)
  have hG1_ := blk_lit w (.cells #[.int .i64 o, .bool b, .slice A l.length c] 33) (.cells #[.int .i64 0, .bool false, .slice none 0 0] 33)
  generalize ((w.alloc (.cells #[.int .i64 o, .bool b, .slice A l.length c] 33)).alloc (.cells #[.int .i64 0, .bool false, .slice none 0 0] 33)) = W at hb_ hG0_ hG1_ ⊢
  have HB_W := Aside0.mk hb_
  have W0 := Aside0.mk hG0_
  have W1 := Aside0.mk hG1_
  clear hb_ hG0_ hG1_
  have x0 := (blk_cell W0.out 0).trans rfl; have x1 := (blk_cell W0.out 1).trans rfl; have x2 := (blk_cell W0.out 2).trans rfl
  go_wp2_with ((with_reducible refine gate_dst (N := 9) rfl ?_); refine goesL_ (some 9) rfl rfl Try.func60 (by kernel_rfl) rfl #[.agg #[.int .i64 o, .bool b, .slice A l.length c]] rfl (by (try simp only [List.map_toArray, List.map_cons, List.map_nil]); first | done | rfl) ?_; refine (rValid_calls o b A c l _ (Kd.C_below HR.out HB_W.out) HC.out).mono ?_; rintro e w1 ⟨rfl, hb⟩; refine ⟨_, rfl, ?_⟩; rw [HV.out]; have HB1 := Aside0.mk (below_step HB_W.out hb); have X0 := Aside0.mk (blk_below W0.out hb); have X1 := Aside0.mk (blk_below W1.out hb); clear hb; have y0 := (blk_cell X0.out 0).trans rfl; have y1 := (blk_cell X0.out 1).trans rfl; have y2 := (blk_cell X0.out 2).trans rfl; have z0 := (blk_cell X1.out 0).trans rfl; have z1 := (blk_cell X1.out 1).trans rfl; have z2 := (blk_cell X1.out 2).trans rfl; have fz0 := blk_frozen X1.out 0; have fz1 := blk_frozen X1.out 1; have fz2 := blk_frozen X1.out 2)
  rw [HS.out]
  exact desc_end rfl rfl rfl X1.out rfl (by omega) (Kd.R_nil _ _ _ _ _) HB1.out
set_option maxRecDepth 100000 in
set_option maxHeartbeats 2000000 in
theorem rChild_c (o : Int) (b : Bool) (A : Option Addr) (c : Nat) (l : List S37) (dir : Bool) (owner : Int) (w : World) (hr : k37.C w A l.length l) (hc : l.length ≤ c) (hv : vDesc o l = true) (h2 : ¬ owner < 3) (h3 : 1048576 < owner) :
    Calls Try.prog 26 #[.agg #[.int .i64 o, .bool b, .slice A l.length c], .bool dir, .int .i64 owner] w (DescPost (sChild o l dir owner) w) := by
  have HR := Aside0.mk hr
  have HC := Aside0.mk hc
  have HV := Aside0.mk hv
  have HS := Aside0.mk (show sChild o l dir owner = (z33, 1) by unfold sChild; rw [if_neg (by omega)])
  have k2 : decide (owner < 3) = false := by simpa using h2
  have k3 : decide (1048576 < owner) = true := by simpa using h3
  clear h2 h3
  clear hr hc hv
  go_enter Try.func26, Try.ntmps26
  go_upto_region 1 with (fail)
  have hb_ := below_alloc (below_alloc (Below.refl _ w) (.cells #[.int .i64 o, .bool b, .slice A l.length c] 33)) (.cells #[.int .i64 0, .bool false, .slice none 0 0] 33)
  have hG0_ := blk_alloc (blk_lit0 w (.cells #[.int .i64 o, .bool b, .slice A l.length c] 33)) (.cells #[.int .i64 0, .bool false, .slice none 0 0] 33)
  have hG1_ := blk_lit w (.cells #[.int .i64 o, .bool b, .slice A l.length c] 33) (.cells #[.int .i64 0, .bool false, .slice none 0 0] 33)
  generalize ((w.alloc (.cells #[.int .i64 o, .bool b, .slice A l.length c] 33)).alloc (.cells #[.int .i64 0, .bool false, .slice none 0 0] 33)) = W at hb_ hG0_ hG1_ ⊢
  have HB_W := Aside0.mk hb_
  have W0 := Aside0.mk hG0_
  have W1 := Aside0.mk hG1_
  clear hb_ hG0_ hG1_
  have x0 := (blk_cell W0.out 0).trans rfl; have x1 := (blk_cell W0.out 1).trans rfl; have x2 := (blk_cell W0.out 2).trans rfl
  go_wp2_with ((with_reducible refine gate_dst (N := 9) rfl ?_); refine goesL_ (some 9) rfl rfl Try.func60 (by kernel_rfl) rfl #[.agg #[.int .i64 o, .bool b, .slice A l.length c]] rfl (by (try simp only [List.map_toArray, List.map_cons, List.map_nil]); first | done | rfl) ?_; refine (rValid_calls o b A c l _ (Kd.C_below HR.out HB_W.out) HC.out).mono ?_; rintro e w1 ⟨rfl, hb⟩; refine ⟨_, rfl, ?_⟩; rw [HV.out]; have HB1 := Aside0.mk (below_step HB_W.out hb); have X0 := Aside0.mk (blk_below W0.out hb); have X1 := Aside0.mk (blk_below W1.out hb); clear hb; have y0 := (blk_cell X0.out 0).trans rfl; have y1 := (blk_cell X0.out 1).trans rfl; have y2 := (blk_cell X0.out 2).trans rfl; have z0 := (blk_cell X1.out 0).trans rfl; have z1 := (blk_cell X1.out 1).trans rfl; have z2 := (blk_cell X1.out 2).trans rfl; have fz0 := blk_frozen X1.out 0; have fz1 := blk_frozen X1.out 1; have fz2 := blk_frozen X1.out 2)
  rw [HS.out]
  exact desc_end rfl rfl rfl X1.out rfl (by omega) (Kd.R_nil _ _ _ _ _) HB1.out
set_option maxRecDepth 100000 in
set_option maxHeartbeats 2000000 in
theorem rChild_d (o : Int) (b : Bool) (A : Option Addr) (c : Nat) (l : List S37) (dir : Bool) (owner : Int) (w : World) (hr : k37.C w A l.length l) (hc : l.length ≤ c) (hv : vDesc o l = true) (h2 : ¬ owner < 3) (h3 : ¬ 1048576 < owner) :
    Calls Try.prog 26 #[.agg #[.int .i64 o, .bool b, .slice A l.length c], .bool dir, .int .i64 owner] w (DescPost (sChild o l dir owner) w) := by
  have HR := Aside0.mk hr
  have HC := Aside0.mk hc
  have HV := Aside0.mk hv
  have HS := Aside0.mk (show sChild o l dir owner = (⟨owner, false, given l dir⟩, 0) by unfold sChild; rw [if_pos ⟨hv, by omega, by omega⟩])
  have k2 : decide (owner < 3) = false := by simpa using h2
  have k3 : decide (1048576 < owner) = false := by simpa using h3
  clear hr hc hv h2 h3
  go_enter Try.func26, Try.ntmps26
  go_upto_region 1 with (fail)
  have hb_ := below_alloc (below_alloc (Below.refl _ w) (.cells #[.int .i64 o, .bool b, .slice A l.length c] 33)) (.cells #[.int .i64 0, .bool false, .slice none 0 0] 33)
  have hG0_ := blk_alloc (blk_lit0 w (.cells #[.int .i64 o, .bool b, .slice A l.length c] 33)) (.cells #[.int .i64 0, .bool false, .slice none 0 0] 33)
  have hG1_ := blk_lit w (.cells #[.int .i64 o, .bool b, .slice A l.length c] 33) (.cells #[.int .i64 0, .bool false, .slice none 0 0] 33)
  generalize ((w.alloc (.cells #[.int .i64 o, .bool b, .slice A l.length c] 33)).alloc (.cells #[.int .i64 0, .bool false, .slice none 0 0] 33)) = W at hb_ hG0_ hG1_ ⊢
  have HB_W := Aside0.mk hb_
  have W0 := Aside0.mk hG0_
  have W1 := Aside0.mk hG1_
  clear hb_ hG0_ hG1_
  have x0 := (blk_cell W0.out 0).trans rfl; have x1 := (blk_cell W0.out 1).trans rfl; have x2 := (blk_cell W0.out 2).trans rfl
  go_wp2_with (first | ((with_reducible refine gate_dst (N := 9) rfl ?_); refine goesL_ (some 9) rfl rfl Try.func60 (by kernel_rfl) rfl #[.agg #[.int .i64 o, .bool b, .slice A l.length c]] rfl (by (try simp only [List.map_toArray, List.map_cons, List.map_nil]); first | done | rfl) ?_; refine (rValid_calls o b A c l _ (Kd.C_below HR.out HB_W.out) HC.out).mono ?_; rintro e w1 ⟨rfl, hb⟩; refine ⟨_, rfl, ?_⟩; rw [HV.out]; have HB1 := Aside0.mk (below_step HB_W.out hb); have X0 := Aside0.mk (blk_below W0.out hb); have X1 := Aside0.mk (blk_below W1.out hb); clear hb; have y0 := (blk_cell X0.out 0).trans rfl; have y1 := (blk_cell X0.out 1).trans rfl; have y2 := (blk_cell X0.out 2).trans rfl; have z0 := (blk_cell X1.out 0).trans rfl; have z1 := (blk_cell X1.out 1).trans rfl; have z2 := (blk_cell X1.out 2).trans rfl; have fz0 := blk_frozen X1.out 0; have fz1 := blk_frozen X1.out 1; have fz2 := blk_frozen X1.out 2) | ((with_reducible refine gate_dst (N := 23) rfl ?_); refine goesL_ (some 23) rfl rfl Try.func61 (by kernel_rfl) rfl #[.agg #[.int .i64 o, .bool b, .slice A l.length c], .bool dir] rfl (by (try simp only [List.map_toArray, List.map_cons, List.map_nil]); first | done | rfl) ?_; refine (rgiven_calls o b A c l dir _ (Kd.C_below HR.out HB1.out) HC.out (vDesc_all HV.out) (vDesc_len HV.out)).mono ?_; rintro e w2 ⟨v, rfl, hra, hb⟩; refine ⟨_, rfl, ?_⟩; obtain ⟨A3, c3, rfl⟩ := Kd.R_slice hra; have HO := Aside0.mk (Kd.R_lower hra HB1.out.size); have HB2 := Aside0.mk (below_step HB1.out hb); have Y1 := Aside0.mk (blk_below X1.out hb); clear z0 z1 z2 fz0 fz1 fz2; have z0 := (blk_cell Y1.out 0).trans rfl; have z1 := (blk_cell Y1.out 1).trans rfl; have z2 := (blk_cell Y1.out 2).trans rfl; have fz0 := blk_frozen Y1.out 0; have fz1 := blk_frozen Y1.out 1; have fz2 := blk_frozen Y1.out 2; clear hra hb))
  rw [HS.out]
  exact desc_end (r := (⟨owner, false, given l dir⟩, 0)) rfl rfl rfl Y1.out rfl (by omega) HO.out HB2.out
theorem rChild_calls (o : Int) (b : Bool) (A : Option Addr) (c : Nat) (l : List S37) (dir : Bool) (owner : Int) (w : World) (hr : k37.C w A l.length l) (hc : l.length ≤ c) :
    Calls Try.prog 26 #[.agg #[.int .i64 o, .bool b, .slice A l.length c], .bool dir, .int .i64 owner] w (DescPost (sChild o l dir owner) w) := by
  cases hv : vDesc o l with
  | false => exact rChild_a o b A c l dir owner w hr hc hv
  | true =>
    by_cases h2 : owner < 3
    · exact rChild_b o b A c l dir owner w hr hc hv h2
    · by_cases h3 : 1048576 < owner
      · exact rChild_c o b A c l dir owner w hr hc hv h2 h3
      · exact rChild_d o b A c l dir owner w hr hc hv h2 h3
set_option maxRecDepth 100000 in
set_option maxHeartbeats 2000000 in
theorem rRenew_a (o1 o2 : Int) (b1 b2 : Bool) (A1 A2 : Option Addr) (c1 c2 : Nat) (l1 l2 : List S37) (dir : Bool) (w : World) (hr1 : k37.C w A1 l1.length l1) (hc1 : l1.length ≤ c1) (hr2 : k37.C w A2 l2.length l2) (hc2 : l2.length ≤ c2) (hv : vDesc o1 l1 = false) :
    Calls Try.prog 28 #[.agg #[.int .i64 o1, .bool b1, .slice A1 l1.length c1], .agg #[.int .i64 o2, .bool b2, .slice A2 l2.length c2], .bool dir] w (DescPost (sRenew ⟨o1, b1, l1⟩ ⟨o2, b2, l2⟩ dir) w) := by
  have HR1 := Aside0.mk hr1
  have HC1 := Aside0.mk hc1
  have HR2 := Aside0.mk hr2
  have HC2 := Aside0.mk hc2
  have HV1 := Aside0.mk hv
  have HS := Aside0.mk (show sRenew ⟨o1, b1, l1⟩ ⟨o2, b2, l2⟩ dir = (z33, 1) by unfold sRenew; rw [if_neg (by simp [vD, hv])])
  clear hr1 hc1 hr2 hc2 hv
  go_enter Try.func28, Try.ntmps28
  go_upto_region 1 with (fail)
  have hb_ := below_alloc (below_alloc (below_alloc (Below.refl _ w) (.cells #[.int .i64 o1, .bool b1, .slice A1 l1.length c1] 33)) (.cells #[.int .i64 o2, .bool b2, .slice A2 l2.length c2] 33)) (.cells #[.int .i64 0, .bool false, .slice none 0 0] 33)
  have hG0_ := blk_alloc (blk_alloc (blk_lit0 w (.cells #[.int .i64 o1, .bool b1, .slice A1 l1.length c1] 33)) (.cells #[.int .i64 o2, .bool b2, .slice A2 l2.length c2] 33)) (.cells #[.int .i64 0, .bool false, .slice none 0 0] 33)
  have hG1_ := blk_alloc (blk_lit w (.cells #[.int .i64 o1, .bool b1, .slice A1 l1.length c1] 33) (.cells #[.int .i64 o2, .bool b2, .slice A2 l2.length c2] 33)) (.cells #[.int .i64 0, .bool false, .slice none 0 0] 33)
  have hG2_ := blk_lit2 w (.cells #[.int .i64 o1, .bool b1, .slice A1 l1.length c1] 33) (.cells #[.int .i64 o2, .bool b2, .slice A2 l2.length c2] 33) (.cells #[.int .i64 0, .bool false, .slice none 0 0] 33)
  generalize (((w.alloc (.cells #[.int .i64 o1, .bool b1, .slice A1 l1.length c1] 33)).alloc (.cells #[.int .i64 o2, .bool b2, .slice A2 l2.length c2] 33)).alloc (.cells #[.int .i64 0, .bool false, .slice none 0 0] 33)) = W at hb_ hG0_ hG1_ hG2_ ⊢
  have HB_W := Aside0.mk hb_
  have W0 := Aside0.mk hG0_
  have W1 := Aside0.mk hG1_
  have W2 := Aside0.mk hG2_
  clear hb_ hG0_ hG1_ hG2_
  have x0 := (blk_cell W0.out 0).trans rfl; have x1 := (blk_cell W0.out 1).trans rfl; have x2 := (blk_cell W0.out 2).trans rfl
  go_wp2_with ((with_reducible refine gate_dst (N := 10) rfl ?_); refine goesL_ (some 10) rfl rfl Try.func60 (by kernel_rfl) rfl #[.agg #[.int .i64 o1, .bool b1, .slice A1 l1.length c1]] rfl (by (try simp only [List.map_toArray, List.map_cons, List.map_nil]); first | done | rfl) ?_; refine (rValid_calls o1 b1 A1 c1 l1 _ (Kd.C_below HR1.out HB_W.out) HC1.out).mono ?_; rintro e w1 ⟨rfl, hb⟩; refine ⟨_, rfl, ?_⟩; rw [HV1.out]; have HB1 := Aside0.mk (below_step HB_W.out hb); have X0 := Aside0.mk (blk_below W0.out hb); have X1 := Aside0.mk (blk_below W1.out hb); have X2 := Aside0.mk (blk_below W2.out hb); clear hb; have y0 := (blk_cell X1.out 0).trans rfl; have y1 := (blk_cell X1.out 1).trans rfl; have y2 := (blk_cell X1.out 2).trans rfl; have z0 := (blk_cell X2.out 0).trans rfl; have z1 := (blk_cell X2.out 1).trans rfl; have z2 := (blk_cell X2.out 2).trans rfl; have fz0 := blk_frozen X2.out 0; have fz1 := blk_frozen X2.out 1; have fz2 := blk_frozen X2.out 2)
  rw [HS.out]
  exact desc_end rfl rfl rfl X2.out rfl (by omega) (Kd.R_nil _ _ _ _ _) HB1.out
set_option maxRecDepth 100000 in
set_option maxHeartbeats 2000000 in
theorem rRenew_b (o1 o2 : Int) (b1 b2 : Bool) (A1 A2 : Option Addr) (c1 c2 : Nat) (l1 l2 : List S37) (dir : Bool) (w : World) (hr1 : k37.C w A1 l1.length l1) (hc1 : l1.length ≤ c1) (hr2 : k37.C w A2 l2.length l2) (hc2 : l2.length ≤ c2) (hv : vDesc o1 l1 = true) (hv2 : vDesc o2 l2 = false) :
    Calls Try.prog 28 #[.agg #[.int .i64 o1, .bool b1, .slice A1 l1.length c1], .agg #[.int .i64 o2, .bool b2, .slice A2 l2.length c2], .bool dir] w (DescPost (sRenew ⟨o1, b1, l1⟩ ⟨o2, b2, l2⟩ dir) w) := by
  have HR1 := Aside0.mk hr1
  have HC1 := Aside0.mk hc1
  have HR2 := Aside0.mk hr2
  have HC2 := Aside0.mk hc2
  have HV1 := Aside0.mk hv
  have HV2 := Aside0.mk hv2
  have HS := Aside0.mk (show sRenew ⟨o1, b1, l1⟩ ⟨o2, b2, l2⟩ dir = (z33, 1) by unfold sRenew; rw [if_neg (by simp [vD, hv2])])
  clear hr1 hc1 hr2 hc2 hv hv2
  go_enter Try.func28, Try.ntmps28
  go_upto_region 1 with (fail)
  have hb_ := below_alloc (below_alloc (below_alloc (Below.refl _ w) (.cells #[.int .i64 o1, .bool b1, .slice A1 l1.length c1] 33)) (.cells #[.int .i64 o2, .bool b2, .slice A2 l2.length c2] 33)) (.cells #[.int .i64 0, .bool false, .slice none 0 0] 33)
  have hG0_ := blk_alloc (blk_alloc (blk_lit0 w (.cells #[.int .i64 o1, .bool b1, .slice A1 l1.length c1] 33)) (.cells #[.int .i64 o2, .bool b2, .slice A2 l2.length c2] 33)) (.cells #[.int .i64 0, .bool false, .slice none 0 0] 33)
  have hG1_ := blk_alloc (blk_lit w (.cells #[.int .i64 o1, .bool b1, .slice A1 l1.length c1] 33) (.cells #[.int .i64 o2, .bool b2, .slice A2 l2.length c2] 33)) (.cells #[.int .i64 0, .bool false, .slice none 0 0] 33)
  have hG2_ := blk_lit2 w (.cells #[.int .i64 o1, .bool b1, .slice A1 l1.length c1] 33) (.cells #[.int .i64 o2, .bool b2, .slice A2 l2.length c2] 33) (.cells #[.int .i64 0, .bool false, .slice none 0 0] 33)
  generalize (((w.alloc (.cells #[.int .i64 o1, .bool b1, .slice A1 l1.length c1] 33)).alloc (.cells #[.int .i64 o2, .bool b2, .slice A2 l2.length c2] 33)).alloc (.cells #[.int .i64 0, .bool false, .slice none 0 0] 33)) = W at hb_ hG0_ hG1_ hG2_ ⊢
  have HB_W := Aside0.mk hb_
  have W0 := Aside0.mk hG0_
  have W1 := Aside0.mk hG1_
  have W2 := Aside0.mk hG2_
  clear hb_ hG0_ hG1_ hG2_
  have x0 := (blk_cell W0.out 0).trans rfl; have x1 := (blk_cell W0.out 1).trans rfl; have x2 := (blk_cell W0.out 2).trans rfl
  go_wp2_with (first | ((with_reducible refine gate_dst (N := 10) rfl ?_); refine goesL_ (some 10) rfl rfl Try.func60 (by kernel_rfl) rfl #[.agg #[.int .i64 o1, .bool b1, .slice A1 l1.length c1]] rfl (by (try simp only [List.map_toArray, List.map_cons, List.map_nil]); first | done | rfl) ?_; refine (rValid_calls o1 b1 A1 c1 l1 _ (Kd.C_below HR1.out HB_W.out) HC1.out).mono ?_; rintro e w1 ⟨rfl, hb⟩; refine ⟨_, rfl, ?_⟩; rw [HV1.out]; have HB1 := Aside0.mk (below_step HB_W.out hb); have X0 := Aside0.mk (blk_below W0.out hb); have X1 := Aside0.mk (blk_below W1.out hb); have X2 := Aside0.mk (blk_below W2.out hb); clear hb; have y0 := (blk_cell X1.out 0).trans rfl; have y1 := (blk_cell X1.out 1).trans rfl; have y2 := (blk_cell X1.out 2).trans rfl; have z0 := (blk_cell X2.out 0).trans rfl; have z1 := (blk_cell X2.out 1).trans rfl; have z2 := (blk_cell X2.out 2).trans rfl; have fz0 := blk_frozen X2.out 0; have fz1 := blk_frozen X2.out 1; have fz2 := blk_frozen X2.out 2) | (go_at_call 60; refine (rValid_calls o2 b2 A2 c2 l2 _ (Kd.C_below HR2.out HB1.out) HC2.out).mono ?_; rintro e w2 ⟨rfl, hb⟩; rw [HV2.out]; have HB2 := Aside0.mk (below_step HB1.out hb); have Y0 := Aside0.mk (blk_below X0.out hb); have Y1 := Aside0.mk (blk_below X1.out hb); have Y2 := Aside0.mk (blk_below X2.out hb); clear hb y0 y1 y2 z0 z1 z2 fz0 fz1 fz2; have y0 := (blk_cell Y1.out 0).trans rfl; have y1 := (blk_cell Y1.out 1).trans rfl; have y2 := (blk_cell Y1.out 2).trans rfl; have z0 := (blk_cell Y2.out 0).trans rfl; have z1 := (blk_cell Y2.out 1).trans rfl; have z2 := (blk_cell Y2.out 2).trans rfl; have fz0 := blk_frozen Y2.out 0; have fz1 := blk_frozen Y2.out 1; have fz2 := blk_frozen Y2.out 2))
  rw [HS.out]
  exact desc_end rfl rfl rfl Y2.out rfl (by omega) (Kd.R_nil _ _ _ _ _) HB2.out
set_option maxRecDepth 100000 in
set_option maxHeartbeats 2000000 in
theorem rRenew_c (o1 o2 : Int) (b1 : Bool) (A1 A2 : Option Addr) (c1 c2 : Nat) (l1 l2 : List S37) (dir : Bool) (w : World) (hr1 : k37.C w A1 l1.length l1) (hc1 : l1.length ≤ c1) (hr2 : k37.C w A2 l2.length l2) (hc2 : l2.length ≤ c2) (hv : vDesc o1 l1 = true) (hv2 : vDesc o2 l2 = true) :
    Calls Try.prog 28 #[.agg #[.int .i64 o1, .bool b1, .slice A1 l1.length c1], .agg #[.int .i64 o2, .bool true, .slice A2 l2.length c2], .bool dir] w (DescPost (sRenew ⟨o1, b1, l1⟩ ⟨o2, true, l2⟩ dir) w) := by
  have HR1 := Aside0.mk hr1
  have HC1 := Aside0.mk hc1
  have HR2 := Aside0.mk hr2
  have HC2 := Aside0.mk hc2
  have HV1 := Aside0.mk hv
  have HV2 := Aside0.mk hv2
  have HS := Aside0.mk (show sRenew ⟨o1, b1, l1⟩ ⟨o2, true, l2⟩ dir = (⟨o2, true, l2⟩, 0) by unfold sRenew; rw [if_pos (by simp [vD, hv, hv2]), if_pos rfl])
  clear hr1 hc1 hr2 hc2 hv hv2
  go_enter Try.func28, Try.ntmps28
  go_upto_region 1 with (fail)
  have hb_ := below_alloc (below_alloc (below_alloc (Below.refl _ w) (.cells #[.int .i64 o1, .bool b1, .slice A1 l1.length c1] 33)) (.cells #[.int .i64 o2, .bool true, .slice A2 l2.length c2] 33)) (.cells #[.int .i64 0, .bool false, .slice none 0 0] 33)
  have hG0_ := blk_alloc (blk_alloc (blk_lit0 w (.cells #[.int .i64 o1, .bool b1, .slice A1 l1.length c1] 33)) (.cells #[.int .i64 o2, .bool true, .slice A2 l2.length c2] 33)) (.cells #[.int .i64 0, .bool false, .slice none 0 0] 33)
  have hG1_ := blk_alloc (blk_lit w (.cells #[.int .i64 o1, .bool b1, .slice A1 l1.length c1] 33) (.cells #[.int .i64 o2, .bool true, .slice A2 l2.length c2] 33)) (.cells #[.int .i64 0, .bool false, .slice none 0 0] 33)
  have hG2_ := blk_lit2 w (.cells #[.int .i64 o1, .bool b1, .slice A1 l1.length c1] 33) (.cells #[.int .i64 o2, .bool true, .slice A2 l2.length c2] 33) (.cells #[.int .i64 0, .bool false, .slice none 0 0] 33)
  generalize (((w.alloc (.cells #[.int .i64 o1, .bool b1, .slice A1 l1.length c1] 33)).alloc (.cells #[.int .i64 o2, .bool true, .slice A2 l2.length c2] 33)).alloc (.cells #[.int .i64 0, .bool false, .slice none 0 0] 33)) = W at hb_ hG0_ hG1_ hG2_ ⊢
  have HB_W := Aside0.mk hb_
  have W0 := Aside0.mk hG0_
  have W1 := Aside0.mk hG1_
  have W2 := Aside0.mk hG2_
  clear hb_ hG0_ hG1_ hG2_
  have x0 := (blk_cell W0.out 0).trans rfl; have x1 := (blk_cell W0.out 1).trans rfl; have x2 := (blk_cell W0.out 2).trans rfl
  go_wp2_with (first | ((with_reducible refine gate_dst (N := 10) rfl ?_); refine goesL_ (some 10) rfl rfl Try.func60 (by kernel_rfl) rfl #[.agg #[.int .i64 o1, .bool b1, .slice A1 l1.length c1]] rfl (by (try simp only [List.map_toArray, List.map_cons, List.map_nil]); first | done | rfl) ?_; refine (rValid_calls o1 b1 A1 c1 l1 _ (Kd.C_below HR1.out HB_W.out) HC1.out).mono ?_; rintro e w1 ⟨rfl, hb⟩; refine ⟨_, rfl, ?_⟩; rw [HV1.out]; have HB1 := Aside0.mk (below_step HB_W.out hb); have X0 := Aside0.mk (blk_below W0.out hb); have X1 := Aside0.mk (blk_below W1.out hb); have X2 := Aside0.mk (blk_below W2.out hb); clear hb; have y0 := (blk_cell X1.out 0).trans rfl; have y1 := (blk_cell X1.out 1).trans rfl; have y2 := (blk_cell X1.out 2).trans rfl; have z0 := (blk_cell X2.out 0).trans rfl; have z1 := (blk_cell X2.out 1).trans rfl; have z2 := (blk_cell X2.out 2).trans rfl; have fz0 := blk_frozen X2.out 0; have fz1 := blk_frozen X2.out 1; have fz2 := blk_frozen X2.out 2) | (go_at_call 60; refine (rValid_calls o2 true A2 c2 l2 _ (Kd.C_below HR2.out HB1.out) HC2.out).mono ?_; rintro e w2 ⟨rfl, hb⟩; rw [HV2.out]; have HB2 := Aside0.mk (below_step HB1.out hb); have Y0 := Aside0.mk (blk_below X0.out hb); have Y1 := Aside0.mk (blk_below X1.out hb); have Y2 := Aside0.mk (blk_below X2.out hb); clear hb y0 y1 y2 z0 z1 z2 fz0 fz1 fz2; have y0 := (blk_cell Y1.out 0).trans rfl; have y1 := (blk_cell Y1.out 1).trans rfl; have y2 := (blk_cell Y1.out 2).trans rfl; have z0 := (blk_cell Y2.out 0).trans rfl; have z1 := (blk_cell Y2.out 1).trans rfl; have z2 := (blk_cell Y2.out 2).trans rfl; have fz0 := blk_frozen Y2.out 0; have fz1 := blk_frozen Y2.out 1; have fz2 := blk_frozen Y2.out 2) | ((with_reducible refine gate_dst (N := 21) rfl ?_); refine goesL_ (some 21) rfl rfl Try.func63 (by kernel_rfl) rfl #[.agg #[.int .i64 o2, .bool true, .slice A2 l2.length c2]] rfl (by (try simp only [List.map_toArray, List.map_cons, List.map_nil]); first | done | rfl) ?_; refine (rCopied_calls o2 true A2 c2 l2 _ (Kd.C_below HR2.out HB2.out) HC2.out (by have := vDesc_len HV2.out; omega)).mono ?_; rintro e w3 ⟨v, rfl, hra, hb⟩; refine ⟨_, rfl, ?_⟩; obtain ⟨A3, c3, rfl⟩ := Kd.R_slice hra; have HO := Aside0.mk (Kd.R_lower hra HB2.out.size); have HB3 := Aside0.mk (below_step HB2.out hb); have V2 := Aside0.mk (blk_below Y2.out hb); clear z0 z1 z2 fz0 fz1 fz2; have z0 := (blk_cell V2.out 0).trans rfl; have z1 := (blk_cell V2.out 1).trans rfl; have z2 := (blk_cell V2.out 2).trans rfl; have fz0 := blk_frozen V2.out 0; have fz1 := blk_frozen V2.out 1; have fz2 := blk_frozen V2.out 2; clear hra hb))
  rw [HS.out]
  exact desc_end (r := (⟨o2, true, l2⟩, 0)) rfl rfl rfl V2.out rfl (by omega) HO.out HB3.out
set_option maxRecDepth 100000 in
set_option maxHeartbeats 2000000 in
theorem rRenew_d (o1 o2 : Int) (b1 : Bool) (A1 A2 : Option Addr) (c1 c2 : Nat) (l1 l2 : List S37) (dir : Bool) (w : World) (hr1 : k37.C w A1 l1.length l1) (hc1 : l1.length ≤ c1) (hr2 : k37.C w A2 l2.length l2) (hc2 : l2.length ≤ c2) (hv : vDesc o1 l1 = true) (hv2 : vDesc o2 l2 = true) :
    Calls Try.prog 28 #[.agg #[.int .i64 o1, .bool b1, .slice A1 l1.length c1], .agg #[.int .i64 o2, .bool false, .slice A2 l2.length c2], .bool dir] w (DescPost (sRenew ⟨o1, b1, l1⟩ ⟨o2, false, l2⟩ dir) w) := by
  have HR1 := Aside0.mk hr1
  have HC1 := Aside0.mk hc1
  have HR2 := Aside0.mk hr2
  have HC2 := Aside0.mk hc2
  have HV1 := Aside0.mk hv
  have HV2 := Aside0.mk hv2
  have HM1 := Aside0.mk (vDesc_len hv)
  have HM2 := Aside0.mk (vDesc_len hv2)
  have HLn : Aside0 ((l2.filter ownB).length + (given l1 dir).length ≤ 32) := ⟨by have := List.length_filter_le ownB l2; have := given_length l1 dir; have := vDesc_len hv; have := vDesc_len hv2; omega⟩
  have HS := Aside0.mk (show sRenew ⟨o1, b1, l1⟩ ⟨o2, false, l2⟩ dir = (if (renewL l1 l2 dir).length ≤ 16 then (⟨o2, false, renewL l1 l2 dir⟩, 0) else (z33, 2)) by unfold sRenew; rw [if_pos (by simp [vD, hv, hv2]), if_neg (by simp)])
  clear hr1 hc1 hr2 hc2 hv hv2
  go_enter Try.func28, Try.ntmps28
  go_upto_region 1 with (fail)
  have hb_ := below_alloc (below_alloc (below_alloc (Below.refl _ w) (.cells #[.int .i64 o1, .bool b1, .slice A1 l1.length c1] 33)) (.cells #[.int .i64 o2, .bool false, .slice A2 l2.length c2] 33)) (.cells #[.int .i64 0, .bool false, .slice none 0 0] 33)
  have hG0_ := blk_alloc (blk_alloc (blk_lit0 w (.cells #[.int .i64 o1, .bool b1, .slice A1 l1.length c1] 33)) (.cells #[.int .i64 o2, .bool false, .slice A2 l2.length c2] 33)) (.cells #[.int .i64 0, .bool false, .slice none 0 0] 33)
  have hG1_ := blk_alloc (blk_lit w (.cells #[.int .i64 o1, .bool b1, .slice A1 l1.length c1] 33) (.cells #[.int .i64 o2, .bool false, .slice A2 l2.length c2] 33)) (.cells #[.int .i64 0, .bool false, .slice none 0 0] 33)
  have hG2_ := blk_lit2 w (.cells #[.int .i64 o1, .bool b1, .slice A1 l1.length c1] 33) (.cells #[.int .i64 o2, .bool false, .slice A2 l2.length c2] 33) (.cells #[.int .i64 0, .bool false, .slice none 0 0] 33)
  generalize (((w.alloc (.cells #[.int .i64 o1, .bool b1, .slice A1 l1.length c1] 33)).alloc (.cells #[.int .i64 o2, .bool false, .slice A2 l2.length c2] 33)).alloc (.cells #[.int .i64 0, .bool false, .slice none 0 0] 33)) = W at hb_ hG0_ hG1_ hG2_ ⊢
  have HB_W := Aside0.mk hb_
  have W0 := Aside0.mk hG0_
  have W1 := Aside0.mk hG1_
  have W2 := Aside0.mk hG2_
  clear hb_ hG0_ hG1_ hG2_
  have x0 := (blk_cell W0.out 0).trans rfl; have x1 := (blk_cell W0.out 1).trans rfl; have x2 := (blk_cell W0.out 2).trans rfl
  go_upto_region 5 with (first | ((with_reducible refine gate_dst (N := 10) rfl ?_); refine goesL_ (some 10) rfl rfl Try.func60 (by kernel_rfl) rfl #[.agg #[.int .i64 o1, .bool b1, .slice A1 l1.length c1]] rfl (by (try simp only [List.map_toArray, List.map_cons, List.map_nil]); first | done | rfl) ?_; refine (rValid_calls o1 b1 A1 c1 l1 _ (Kd.C_below HR1.out HB_W.out) HC1.out).mono ?_; rintro e w1 ⟨rfl, hb⟩; refine ⟨_, rfl, ?_⟩; rw [HV1.out]; have HB1 := Aside0.mk (below_step HB_W.out hb); have X0 := Aside0.mk (blk_below W0.out hb); have X1 := Aside0.mk (blk_below W1.out hb); have X2 := Aside0.mk (blk_below W2.out hb); clear hb; have y0 := (blk_cell X1.out 0).trans rfl; have y1 := (blk_cell X1.out 1).trans rfl; have y2 := (blk_cell X1.out 2).trans rfl; have z0 := (blk_cell X2.out 0).trans rfl; have z1 := (blk_cell X2.out 1).trans rfl; have z2 := (blk_cell X2.out 2).trans rfl; have fz0 := blk_frozen X2.out 0; have fz1 := blk_frozen X2.out 1; have fz2 := blk_frozen X2.out 2) | (go_at_call 60; refine (rValid_calls o2 false A2 c2 l2 _ (Kd.C_below HR2.out HB1.out) HC2.out).mono ?_; rintro e w2 ⟨rfl, hb⟩; rw [HV2.out]; have HB2 := Aside0.mk (below_step HB1.out hb); have Y0 := Aside0.mk (blk_below X0.out hb); have Y1 := Aside0.mk (blk_below X1.out hb); have Y2 := Aside0.mk (blk_below X2.out hb); clear hb y0 y1 y2 z0 z1 z2 fz0 fz1 fz2; have y0 := (blk_cell Y1.out 0).trans rfl; have y1 := (blk_cell Y1.out 1).trans rfl; have y2 := (blk_cell Y1.out 2).trans rfl; have z0 := (blk_cell Y2.out 0).trans rfl; have z1 := (blk_cell Y2.out 1).trans rfl; have z2 := (blk_cell Y2.out 2).trans rfl; have fz0 := blk_frozen Y2.out 0; have fz1 := blk_frozen Y2.out 1; have fz2 := blk_frozen Y2.out 2))
  clear y0 y1 y2 z0 z1 z2 fz0 fz1 fz2
  have D0 := Aside0.mk (blk_drew Y0.out)
  have D1 := Aside0.mk (blk_drew Y1.out)
  have D2 := Aside0.mk (blk_drew Y2.out)
  have HBD := Aside0.mk (below_drew1 HB2.out)
  refine start_ (n := 8) (S := fun w' => w'.cell? ⟨w.heap.size + 1, 2, none⟩ = some (.slice A2 l2.length c2) ∧ w'.cell? ⟨w.heap.size, 0, none⟩ = some (.int .i64 o1) ∧ w'.cell? ⟨w.heap.size, 1, none⟩ = some (.bool b1) ∧ w'.cell? ⟨w.heap.size, 2, none⟩ = some (.slice A1 l1.length c1)) (ds := [7]) #[false, false, false, false, false, false, false, false] (by kernel_rfl) rfl rfl ⟨(blk_cell D1.out 2).trans rfl, (blk_cell D0.out 0).trans rfl, (blk_cell D0.out 1).trans rfl, (blk_cell D0.out 2).trans rfl⟩ (fun hHeld => ?_)
  generalize w2.drew = wd at D0 D1 D2 HBD hHeld ⊢
  refine pure_ (i := 0) (N := some 22) (v := ?_) (a' := ?_) #[true, false, false, false, false, false, false, false] rfl rfl (by kernel_rfl) (fun _ _ _ h => h) (Or.inl ⟨by rfl, ?_⟩) ?_ ?_
  rotate_left
  · intro w'
    go_simp
    with_reducible rfl
  rotate_left
  · simp only [Act.put, List.setIfInBounds_toArray, List.set_cons_zero, List.set_cons_succ, i64_w, i32_w]
    rfl
  refine take_ (i := 1) (N := some 23) (v := ?_) (a' := ?_) #[true, true, false, false, false, false, false, false] rfl rfl (by kernel_rfl) (fun _ _ _ h => h) (Or.inl ⟨by rfl, ?_⟩) hHeld ?_ ?_
  rotate_left
  · rintro w' ⟨s0, s1, s2, s3⟩
    go_simp
    with_reducible rfl
  rotate_left
  · simp only [Act.put, List.setIfInBounds_toArray, List.set_cons_zero, List.set_cons_succ, i64_w, i32_w]
    rfl
  refine take_ (i := 3) (N := some 25) (v := ?_) (a' := ?_) #[true, true, false, true, false, false, false, false] rfl rfl (by kernel_rfl) (fun _ _ _ h => h) (Or.inl ⟨by rfl, ?_⟩) hHeld ?_ ?_
  rotate_left
  · rintro w' ⟨s0, s1, s2, s3⟩
    go_simp
    with_reducible rfl
  rotate_left
  · simp only [Act.put, List.setIfInBounds_toArray, List.set_cons_zero, List.set_cons_succ, i64_w, i32_w]
    rfl
  refine pure_ (i := 4) (N := some 26) (v := ?_) (a' := ?_) #[true, true, false, true, true, false, false, false] rfl rfl (by kernel_rfl) (fun _ _ _ h => h) (Or.inl ⟨by rfl, ?_⟩) ?_ ?_
  rotate_left
  · intro w'
    go_simp
    with_reducible rfl
  rotate_left
  · simp only [Act.put, List.setIfInBounds_toArray, List.set_cons_zero, List.set_cons_succ, i64_w, i32_w]
    rfl
  refine one_ (i := 2) (N := some 24) #[true, true, true, true, true, false, false, false] rfl rfl (by kernel_rfl) (by decide) (fun K hK => ?_)
  refine goes_ Try.func53 (by kernel_rfl) rfl #[.slice A2 l2.length c2, .bool false] (by rfl) rfl rfl (by (try simp only [List.map_toArray, List.map_cons, List.map_nil]); first | done | rfl) ?_
  refine (rOwn_calls A2 c2 l2 false _ (Kd.C_below HR2.out HBD.out) HC2.out (vDesc_all HV2.out) HM2.out).mono ?_
  rintro e w5 ⟨v5, rfl, hra, hb⟩
  rw [own_filter] at hra
  refine ⟨_, rfl, ?_⟩
  have HO5 := Aside0.mk (Kd.R_lower hra HBD.out.size)
  have HB5 := Aside0.mk (below_step HBD.out hb)
  have K0 := Aside0.mk (blk_below D0.out hb)
  have K1 := Aside0.mk (blk_below D1.out hb)
  have K2 := Aside0.mk (blk_below D2.out hb)
  clear hra hb D0 D1 D2 HBD
  refine hK.out _ _ ⟨(blk_cell K1.out 2).trans rfl, (blk_cell K0.out 0).trans rfl, (blk_cell K0.out 1).trans rfl, (blk_cell K0.out 2).trans rfl⟩ (fun hHeld => ?_)
  clear hK K
  refine norm_ (a' := ?_) ?_ ?_
  rotate_left
  · show Act.put _ (some 24) _ = _
    simp only [Act.put, List.setIfInBounds_toArray, List.set_cons_zero, List.set_cons_succ, i64_w, i32_w]
    rfl
  refine one_ (i := 5) (N := some 27) #[true, true, true, true, true, true, false, false] rfl rfl (by kernel_rfl) (by decide) (fun K hK => ?_)
  refine goes_ Try.func61 (by kernel_rfl) rfl #[.agg #[.int .i64 o1, .bool b1, .slice A1 l1.length c1], .bool dir] (by rfl) rfl rfl (by (try simp only [List.map_toArray, List.map_cons, List.map_nil]); first | done | rfl) ?_
  refine (rgiven_calls o1 b1 A1 c1 l1 dir _ (Kd.C_below HR1.out HB5.out) HC1.out (vDesc_all HV1.out) HM1.out).mono ?_
  rintro e w6 ⟨v6, rfl, hra, hb⟩
  refine ⟨_, rfl, ?_⟩
  obtain ⟨A6, c6, rfl⟩ := Kd.R_slice hra
  have HC6 := Aside0.mk (Kd.R_reads' hra).2.2
  have HO6 := Aside0.mk (Kd.R_below HO5.out hb)
  have HB6 := Aside0.mk (below_step HB5.out hb)
  have L0 := Aside0.mk (blk_below K0.out hb)
  have L1 := Aside0.mk (blk_below K1.out hb)
  have L2 := Aside0.mk (blk_below K2.out hb)
  clear hra hb K0 K1 K2 HO5 HB5
  refine hK.out _ _ ⟨(blk_cell L1.out 2).trans rfl, (blk_cell L0.out 0).trans rfl, (blk_cell L0.out 1).trans rfl, (blk_cell L0.out 2).trans rfl⟩ (fun hHeld => ?_)
  clear hK K
  refine norm_ (a' := ?_) ?_ ?_
  rotate_left
  · show Act.put _ (some 27) _ = _
    simp only [Act.put, List.setIfInBounds_toArray, List.set_cons_zero, List.set_cons_succ, i64_w, i32_w]
    rfl
  refine one_ (i := 6) (N := some 28) #[true, true, true, true, true, true, true, false] rfl rfl (by kernel_rfl) (by decide) (fun K hK => ?_)
  refine Kd.R_append_rows_step k37 (Rr := k37.K _) (w0 := w) w.heap.size (by rfl) (.tmp 24) (.tmp 27) 31 37 (.agg #[(.bool false), (.int .i64 0), (.int .i64 0), (.int .i64 0)]) 32 rfl Try.underlying31 info37 rfl (by decide) (by omega) v5 (l2.filter ownB) (given l1 dir) _ _ _ (fun _ => True) (fun _ => False) rfl rfl (HO6.out) (HC6.out) (fun x cs h => by rw [k37_open h]; exact k37_mkM _ _ _ _) (fun _ h => h.elim) (fun _ _ => trivial) (HB6.out) (HB6.out).size (by have := HLn.out; omega) ?_
  intro v7 w7 ho hb hg hat
  have HO7 := Aside0.mk ho
  have HB7 := Aside0.mk hb
  have M0 := Aside0.mk (blk_grown L0.out hg (Kd.R_ne HO6.out L0.out (by decide)))
  have M1 := Aside0.mk (blk_grown L1.out hg (Kd.R_ne HO6.out L1.out (by decide)))
  have M2 := Aside0.mk (blk_grown L2.out hg (Kd.R_ne HO6.out L2.out (by decide)))
  clear ho hb hg hat L0 L1 L2 HO6 HB6 HC6
  refine hK.out _ _ ⟨(blk_cell M1.out 2).trans rfl, (blk_cell M0.out 0).trans rfl, (blk_cell M0.out 1).trans rfl, (blk_cell M0.out 2).trans rfl⟩ (fun hHeld => ?_)
  clear hK K
  refine norm_ (a' := ?_) ?_ ?_
  rotate_left
  · show Act.put _ (some 28) _ = _
    simp only [Act.put, List.setIfInBounds_toArray, List.set_cons_zero, List.set_cons_succ, i64_w, i32_w]
    rfl
  refine pure_ (i := 7) (N := some 8) (v := ?_) (a' := ?_) #[true, true, true, true, true, true, true, true] rfl rfl (by kernel_rfl) (fun _ _ _ h => h) (Or.inl ⟨by rfl, ?_⟩) ?_ ?_
  rotate_left
  · intro w'
    go_simp
    with_reducible rfl
  rotate_left
  · simp only [Act.put, List.setIfInBounds_toArray, List.set_cons_zero, List.set_cons_succ, i64_w, i32_w]
    rfl
  refine done_ (by kernel_rfl) ?_
  clear hHeld
  have HO8 := Aside0.mk (show RA w7 w.heap.size v7 (renewL l1 l2 dir) from HO7.out)
  obtain ⟨A7, c7, rfl⟩ := Kd.R_slice HO8.out
  clear HO7
  have y0 := (blk_cell M1.out 0).trans rfl; have y1 := (blk_cell M1.out 1).trans rfl; have y2 := (blk_cell M1.out 2).trans rfl
  have z0 := (blk_cell M2.out 0).trans rfl; have z1 := (blk_cell M2.out 1).trans rfl; have z2 := (blk_cell M2.out 2).trans rfl
  have fz0 := blk_frozen M2.out 0; have fz1 := blk_frozen M2.out 1; have fz2 := blk_frozen M2.out 2
  by_cases h16 : (renewL l1 l2 dir).length ≤ 16
  · have h1 : decide (16 < (renewL l1 l2 dir).length) = false := by simpa using h16
    have h2 : decide ((16 : Int) < ((renewL l1 l2 dir).length : Int)) = false := decide_eq_false (by omega)
    have HS2 := Aside0.mk (HS.out.trans (if_pos h16))
    clear h16
    go_wp2
    rw [HS2.out]
    exact desc_end (r := (⟨o2, false, renewL l1 l2 dir⟩, 0)) rfl rfl rfl M2.out rfl (by omega) HO8.out HB7.out
  · have h1 : decide (16 < (renewL l1 l2 dir).length) = true := by simp; omega
    have h2 : decide ((16 : Int) < ((renewL l1 l2 dir).length : Int)) = true := decide_eq_true (by omega)
    have HS2 := Aside0.mk (HS.out.trans (if_neg h16))
    clear h16
    go_wp2
    rw [HS2.out]
    exact desc_end (r := (z33, 2)) rfl rfl rfl M2.out rfl (by omega) (Kd.R_nil _ _ _ _ _) HB7.out
theorem rRenew_calls (o1 o2 : Int) (b1 b2 : Bool) (A1 A2 : Option Addr) (c1 c2 : Nat) (l1 l2 : List S37) (dir : Bool) (w : World) (hr1 : k37.C w A1 l1.length l1) (hc1 : l1.length ≤ c1) (hr2 : k37.C w A2 l2.length l2) (hc2 : l2.length ≤ c2) :
    Calls Try.prog 28 #[.agg #[.int .i64 o1, .bool b1, .slice A1 l1.length c1], .agg #[.int .i64 o2, .bool b2, .slice A2 l2.length c2], .bool dir] w (DescPost (sRenew ⟨o1, b1, l1⟩ ⟨o2, b2, l2⟩ dir) w) := by
  cases hv : vDesc o1 l1 with
  | false => exact rRenew_a o1 o2 b1 b2 A1 A2 c1 c2 l1 l2 dir w hr1 hc1 hr2 hc2 hv
  | true =>
    cases hv2 : vDesc o2 l2 with
    | false => exact rRenew_b o1 o2 b1 b2 A1 A2 c1 c2 l1 l2 dir w hr1 hc1 hr2 hc2 hv hv2
    | true =>
      cases b2 with
      | true => exact rRenew_c o1 o2 b1 A1 A2 c1 c2 l1 l2 dir w hr1 hc1 hr2 hc2 hv hv2
      | false => exact rRenew_d o1 o2 b1 A1 A2 c1 c2 l1 l2 dir w hr1 hc1 hr2 hc2 hv hv2
end Go.Proofs.Ytgocgjfaiddejaa.M
