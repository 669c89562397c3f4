/- InheritChild: its walk. -/
import Derived.Test.YtgocgjfaiddejaaH28
import Derived.Test.YtgocgjfaiddejaaH12
namespace Go.Proofs.Ytgocgjfaiddejaa.M
open Go.RowKit Go.Proofs.YtgocgjfaiddejaaW.PrintWords Go.Proofs.YtgocgjfaiddejaaW.PrintLast Go.Proofs.YtgocgjfaiddejaaW.PrintMore
set_option linter.unusedVariables false
set_option linter.unusedSimpArgs false
set_option linter.unnecessarySimpa false

set_option maxRecDepth 100000 in
set_option maxHeartbeats 2000000 in
theorem child_bad (A : Option Addr) (c : Nat) (y : S33) (dir : Bool) (owner : Int) (w : World) (hc : y.f2.length ≤ c) (hr : k37.C w A y.f2.length y.f2) (hb : ¬ (vDesc y.f0 y.f2 = true ∧ 3 ≤ owner ∧ owner ≤ 1048576)) :
    Calls Try.prog 7 #[.agg #[.int .i64 y.f0, .bool y.f1, .slice A y.f2.length c], .bool dir, .int .i64 owner] w fun e w' => e = .returned (.bool true) ∧ Below w.heap.size w w' := by
  have HR := Aside0.mk hr
  have HC := Aside0.mk hc
  have HS := Aside0.mk (show sChild y.f0 y.f2 dir owner = (z33, 1) by unfold sChild; rw [if_neg hb])
  clear hr hc hb
  go_enter Try.func7, Try.ntmps7
  go_wp2_with (first | ((with_reducible refine gate_dst (N := 17) rfl ?_); refine goesL_ (some 17) rfl rfl Try.func21 (by kernel_rfl) rfl #[.agg #[.int .i64 y.f0, .bool y.f1, .slice A y.f2.length c], .bool dir, .int .i64 owner] rfl (by (try simp only [List.map_toArray, List.map_cons, List.map_nil]); first | done | rfl) ?_; refine (Child_calls y.f0 y.f1 A c y.f2 dir owner _ (Kd.C_alloc HR.out _) HC.out).mono ?_; rw [HS.out]; rintro e w1 ⟨v, rfl, hra, hb⟩; refine ⟨_, rfl, ?_⟩; obtain ⟨A1, c1, rfl⟩ := Kd.R_slice hra; have HB1 := Aside0.mk (below_step (below_alloc (Below.refl _ w) _) hb); clear hra hb) | ((with_reducible refine gate_dst (N := 22) rfl ?_); refine goesL_ (some 22) rfl rfl Try.func15 (by kernel_rfl) rfl #[] rfl (by (try simp only [List.map_toArray, List.map_cons, List.map_nil]); first | done | rfl) ?_; refine (sane_calls _).mono ?_; rintro e w2 ⟨rfl, hb⟩; refine ⟨_, rfl, ?_⟩; have HB2 := Aside0.mk (below_step (below_alloc HB1.out _) hb); clear hb))
  go_ret
  exact ⟨rfl, HB2.out⟩
set_option maxRecDepth 100000 in
set_option maxHeartbeats 2000000 in
theorem child_good (A : Option Addr) (c : Nat) (y : S33) (dir : Bool) (owner : Int) (w : World) (hc : y.f2.length ≤ c) (hr : k37.C w A y.f2.length y.f2) (hv : vDesc y.f0 y.f2 = true) (h1 : 3 ≤ owner) (h2 : owner ≤ 1048576) :
    Calls Try.prog 7 #[.agg #[.int .i64 y.f0, .bool y.f1, .slice A y.f2.length c], .bool dir, .int .i64 owner] w fun e w' => e = .returned (.bool true) ∧ Below w.heap.size w w' := by
  have HR := Aside0.mk hr
  have HC := Aside0.mk hc
  have HS := Aside0.mk (show sChild y.f0 y.f2 dir owner = (⟨owner, false, given y.f2 dir⟩, 0) by unfold sChild; rw [if_pos ⟨hv, h1, h2⟩])
  have hvo : vDesc owner ([] : List S37) = true := by unfold vDesc; simp [h1, h2]
  have HT := Aside0.mk (show sRenew ⟨y.f0, y.f1, y.f2⟩ ⟨owner, false, []⟩ dir = (⟨owner, false, given y.f2 dir⟩, 0) by
    have e : renewL y.f2 [] dir = given y.f2 dir := by simp [renewL]
    have hl : (given y.f2 dir).length ≤ 16 := by have := given_length y.f2 dir; have := vDesc_len hv; omega
    unfold sRenew
    rw [if_pos (by simp [vD, hv, hvo]), if_neg (by simp)]
    dsimp only
    rw [e, if_pos hl])
  have HG := Aside0.mk (child_agrees (p := ⟨y.f0, y.f1, y.f2⟩) (dir := dir) (owner := owner) hv h1 h2)
  clear hr hc hv h1 h2 hvo
  go_enter Try.func7, Try.ntmps7
  go_upto_region 4 with ((with_reducible refine gate_dst (N := 17) rfl ?_); refine goesL_ (some 17) rfl rfl Try.func21 (by kernel_rfl) rfl #[.agg #[.int .i64 y.f0, .bool y.f1, .slice A y.f2.length c], .bool dir, .int .i64 owner] rfl (by (try simp only [List.map_toArray, List.map_cons, List.map_nil]); first | done | rfl) ?_; refine (Child_calls y.f0 y.f1 A c y.f2 dir owner _ (Kd.C_alloc HR.out _) HC.out).mono ?_; rw [HS.out]; rintro e w1 ⟨v, rfl, hra, hb⟩; refine ⟨_, rfl, ?_⟩; obtain ⟨A1, c1, rfl⟩ := Kd.R_slice hra; have HB1 := Aside0.mk (below_step (below_alloc (Below.refl _ w) _) hb); have HX1 := Aside0.mk (blk_below (blk_new w (.cells #[.int .i64 y.f0, .bool y.f1, .slice A y.f2.length c] 33)) hb); have HD1 := Aside0.mk (Kd.R_reads' hra).2; clear hra hb)
  have hb_ := below_alloc (Below.refl _ w1) (.cells #[.int .i64 owner, .bool false, .slice A1 (given y.f2 dir).length c1] 33)
  have hG0_ := blk_lit0 w1 (.cells #[.int .i64 owner, .bool false, .slice A1 (given y.f2 dir).length c1] 33)
  generalize (w1.alloc (.cells #[.int .i64 owner, .bool false, .slice A1 (given y.f2 dir).length c1] 33)) = V at hb_ hG0_ ⊢
  have HB_V := Aside0.mk hb_
  have V0 := Aside0.mk hG0_
  clear hb_ hG0_
  have HX2 := Aside0.mk (blk_below HX1.out HB_V.out)
  have HB2 := Aside0.mk (below_step HB1.out HB_V.out)
  have HRV := Aside0.mk (Kd.C_below HR.out HB2.out)
  have HDV := Aside0.mk (Kd.C_below HD1.out.2 HB_V.out)
  clear HX1 HB1
  have p0 := (blk_cell HX2.out 0).trans rfl; have p1 := (blk_cell HX2.out 1).trans rfl; have p2 := (blk_cell HX2.out 2).trans rfl
  go_upto_region 5 with ((with_reducible refine gate_dst (N := 28) rfl ?_); refine goesL_ (some 28) rfl rfl Try.func27 (by kernel_rfl) rfl #[.agg #[.int .i64 y.f0, .bool y.f1, .slice A y.f2.length c], .agg #[.int .i64 owner, .bool false, .slice none 0 0], .bool dir] rfl (by (try simp only [List.map_toArray, List.map_cons, List.map_nil]); first | done | rfl) ?_; refine (Renew_calls y.f0 owner y.f1 false A none c 0 y.f2 [] dir _ HRV.out HC.out (Kd.C_nil _ _) (Nat.le_refl _)).mono ?_; rw [HT.out]; rintro e w3 ⟨v, rfl, hra, hb⟩; refine ⟨_, rfl, ?_⟩; obtain ⟨A3, c3, rfl⟩ := Kd.R_slice hra; have HB3 := Aside0.mk (below_step HB2.out hb); have HX3 := Aside0.mk (blk_below HX2.out hb); have HV3 := Aside0.mk (blk_below V0.out hb); have HD3 := Aside0.mk (Kd.C_below HDV.out hb); have HE3 := Aside0.mk (Kd.R_reads' hra).2; have HR3 := Aside0.mk (Kd.C_below HRV.out hb); clear hra hb p0 p1 p2)
  have hb_ := below_alloc (Below.refl _ w3) (.cells #[.int .i64 owner, .bool false, .slice A3 (given y.f2 dir).length c3] 33)
  have hG0_ := blk_lit0 w3 (.cells #[.int .i64 owner, .bool false, .slice A3 (given y.f2 dir).length c3] 33)
  generalize (w3.alloc (.cells #[.int .i64 owner, .bool false, .slice A3 (given y.f2 dir).length c3] 33)) = U at hb_ hG0_ ⊢
  have HB_U := Aside0.mk hb_
  have U0 := Aside0.mk hG0_
  clear hb_ hG0_
  have HX4 := Aside0.mk (blk_below HX3.out HB_U.out)
  have HV4 := Aside0.mk (blk_below HV3.out HB_U.out)
  have HB4 := Aside0.mk (below_step HB3.out HB_U.out)
  have HR4 := Aside0.mk (Kd.C_below HR3.out HB_U.out)
  have HD4 := Aside0.mk (Kd.C_below HD3.out HB_U.out)
  have HE4 := Aside0.mk (Kd.C_below HE3.out.2 HB_U.out)
  clear HX2 HB2 HX3 HV3 HB3 HR3 HD3 HB_V V0 HRV HDV
  have p0 := (blk_cell HX4.out 0).trans rfl; have p1 := (blk_cell HX4.out 1).trans rfl; have p2 := (blk_cell HX4.out 2).trans rfl
  have q0 := (blk_cell HV4.out 0).trans rfl; have q1 := (blk_cell HV4.out 1).trans rfl; have q2 := (blk_cell HV4.out 2).trans rfl
  go_upto_region 6 with ((with_reducible refine gate_dst (N := 38) rfl ?_); refine goesL_ (some 38) rfl rfl Try.func30 (by kernel_rfl) rfl #[.slice (some ⟨U.heap.size, 0, none⟩) 2 2] rfl (by (try simp only [List.map_toArray, List.map_cons, List.map_nil]); first | done | rfl) ?_; refine (Agrees_calls (some ⟨U.heap.size, 0, none⟩) 2 [⟨-1, true, ⟨y.f0, y.f1, y.f2⟩⟩, ⟨0, dir, ⟨owner, false, given y.f2 dir⟩⟩] _ (C35_two (x := ⟨-1, true, ⟨y.f0, y.f1, y.f2⟩⟩) (y := ⟨0, dir, ⟨owner, false, given y.f2 dir⟩⟩) (blk_new _ _) HC.out (Kd.C_alloc HR4.out _) HD1.out.1 (Kd.C_alloc HD4.out _))).mono ?_; rw [HG.out]; rintro e w5 ⟨rfl, hb⟩; refine ⟨_, rfl, ?_⟩; have HB5 := Aside0.mk (below_step (below_alloc HB4.out _) hb); have HV5 := Aside0.mk (blk_below (blk_alloc HV4.out _) hb); have HU5 := Aside0.mk (blk_below (blk_alloc U0.out _) hb); have HD5 := Aside0.mk (Kd.C_below (Kd.C_alloc HD4.out _) hb); have HE5 := Aside0.mk (Kd.C_below (Kd.C_alloc HE4.out _) hb); clear hb p0 p1 p2 q0 q1 q2)
  clear HX4 HV4 HB4 HR4 HD4 HE4 HB_U U0
  go_wp2_with (first | ((with_reducible refine gate_dst (N := 41) rfl ?_); refine goesL_ (some 41) rfl rfl Try.func15 (by kernel_rfl) rfl #[] rfl (by (try simp only [List.map_toArray, List.map_cons, List.map_nil]); first | done | rfl) ?_; refine (sane_calls _).mono ?_; rintro e w6 ⟨rfl, hb⟩; refine ⟨_, rfl, ?_⟩; have HB6 := Aside0.mk (below_step HB5.out hb); have HV6 := Aside0.mk (blk_below HV5.out hb); have HU6 := Aside0.mk (blk_below HU5.out hb); have HD6 := Aside0.mk (Kd.C_below HD5.out hb); have HE6 := Aside0.mk (Kd.C_below HE5.out hb); clear hb; have q0 := (blk_cell HV6.out 0).trans rfl; have q1 := (blk_cell HV6.out 1).trans rfl; have q2 := (blk_cell HV6.out 2).trans rfl; have r0 := (blk_cell HU6.out 0).trans rfl; have r1 := (blk_cell HU6.out 1).trans rfl; have r2 := (blk_cell HU6.out 2).trans rfl) | (go_at_call 29; refine (Same_calls owner owner false false A3 A1 c3 c1 (given y.f2 dir) (given y.f2 dir) _ HE6.out HE3.out.1 HD6.out HD1.out.1).mono ?_; rintro e w7 ⟨rfl, hb⟩; have HB7 := Aside0.mk (below_step HB6.out hb); clear hb))
  go_ret
  exact ⟨by simp, HB7.out⟩
theorem child_walk (A : Option Addr) (c : Nat) (y : S33) (dir : Bool) (owner : Int) (w : World) (hc : y.f2.length ≤ c) (hr : k37.C w A y.f2.length y.f2) (_ : -9223372036854775808 ≤ owner ∧ owner ≤ 9223372036854775807) :
    Calls Try.prog 7 #[.agg #[.int .i64 y.f0, .bool y.f1, .slice A y.f2.length c], .bool dir, .int .i64 owner] w fun e w' => e = .returned (.bool true) ∧ Below w.heap.size w w' := by
  by_cases h : vDesc y.f0 y.f2 = true ∧ 3 ≤ owner ∧ owner ≤ 1048576
  · exact child_good A c y dir owner w hc hr h.1 h.2.1 h.2.2
  · exact child_bad A c y dir owner w hc hr h
end Go.Proofs.Ytgocgjfaiddejaa.M
