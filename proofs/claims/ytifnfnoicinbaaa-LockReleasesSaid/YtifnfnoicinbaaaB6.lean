/- lock.begin, the wait of a handle, lock.request. -/
import Derived.Test.YtifnfnoicinbaaaB5
import Derived.Test.YtifnfnoicinbaaaF57
namespace Go.Proofs.Ytifnfnoicinbaaa.M
open Go.RowKit Go.Proofs.YtifnfnoicinbaaaW.PrintWords Go.Proofs.YtifnfnoicinbaaaW.PrintLast Go.Proofs.YtifnfnoicinbaaaW.PrintMore
set_option linter.unusedVariables false
set_option linter.unusedSimpArgs false
set_option linter.unnecessarySimpa false

theorem TabO.mono {w : World} {base b0 q : Nat} {H Wt : List S24} {G N : List Int} (h : TabO w base q H Wt G N) (hb : b0 ≤ base) : TabO w b0 q H Wt G N := by
  obtain ⟨vH, vW, vG, vN, hq, hq0, hH, hW, hG, hN⟩ := h.ex
  exact ⟨vH, vW, vG, vN, hq, Nat.le_trans hb hq0, Kd.R_lower hH hb, Kd.R_lower hW hb, Kd.R_lower hG hb, Kd.R_lower hN hb⟩
def begE (H Wt : List S24) (good : Bool) : Int := if checksB H Wt then (if good then 0 else 1) else 9
def BegPost (w : World) (E : Int) (H Wt : List S24) (e : Ending) (w' : World) : Prop :=
  Below w.heap.size w w' ∧ ((E ≠ 0 ∧ e = .returned (.tuple #[.pointer none, .int .i64 E])) ∨ (E = 0 ∧ ∃ q, e = .returned (.tuple #[.pointer (some ⟨q, 0, none⟩), .int .i64 0]) ∧ TabO w' w.heap.size q H Wt [] []))
set_option maxRecDepth 100000 in
set_option maxHeartbeats 2000000 in
theorem begin_calls (AH AW : Option Addr) (cH cW : Nat) (H Wt : List S24) (good : Bool) (w : World) (hH : k24.C w AH H.length H) (hW : k24.C w AW Wt.length Wt) (hlen : H.length + Wt.length ≤ 1000) :
    Calls Try.prog 56 #[.agg #[.slice AH H.length cH, .slice AW Wt.length cW], .bool good] w fun e w' => BegPost w (begE H Wt good) H Wt e w' := by
  have HH := Aside0.mk hH
  have HW := Aside0.mk hW
  clear hH hW
  go_enter Try.func56, Try.ntmps56
  go_upto_region 1 with (fail)
  have hb_ := below_alloc (Below.refl _ w) (.cells #[.slice AH H.length cH, .slice AW Wt.length cW] 29)
  have hG0_ := blk_lit0 w (.cells #[.slice AH H.length cH, .slice AW Wt.length cW] 29)
  generalize (w.alloc (.cells #[.slice AH H.length cH, .slice AW Wt.length cW] 29)) = W at hb_ hG0_ ⊢
  have HB_W := Aside0.mk hb_
  have W0 := Aside0.mk hG0_
  clear hb_ hG0_
  have x0 := (blk_cell W0.out 0).trans rfl; have x1 := (blk_cell W0.out 1).trans rfl
  cases hc : checksB H Wt with
  | false =>
    have HC := Aside0.mk (show chkE H Wt = 9 by unfold chkE; rw [hc]; rfl)
    have HE := Aside0.mk (show begE H Wt good = 9 by unfold begE; rw [hc]; rfl)
    clear hc
    go_wp2_with ((with_reducible refine gate_dst (N := 8) rfl ?_); refine goesL_ (some 8) rfl rfl Try.func34 (by kernel_rfl) rfl #[.agg #[.slice AH H.length cH, .slice AW Wt.length cW]] rfl (by (try simp only [List.map_toArray, List.map_cons, List.map_nil]); first | done | rfl) ?_; refine (check_calls AH AW cH cW H Wt _ (Kd.C_below HH.out HB_W.out) (Kd.C_below HW.out HB_W.out) hlen).mono ?_; rintro e w3 ⟨rfl, hb⟩; refine ⟨_, rfl, ?_⟩; rw [HC.out]; have HB3 := Aside0.mk (below_step HB_W.out hb); clear hb x0 x1)
    go_ret2
    exact ⟨HB3.out, .inl ⟨by rw [HE.out]; decide, by rw [HE.out]; rfl⟩⟩
  | true =>
    have HC := Aside0.mk (show chkE H Wt = 0 by unfold chkE; rw [hc]; rfl)
    cases hg : good with
    | false =>
      have HE := Aside0.mk (show begE H Wt good = 1 by unfold begE; rw [hc, hg]; rfl)
      clear hc hg
      go_wp2_with ((with_reducible refine gate_dst (N := 8) rfl ?_); refine goesL_ (some 8) rfl rfl Try.func34 (by kernel_rfl) rfl #[.agg #[.slice AH H.length cH, .slice AW Wt.length cW]] rfl (by (try simp only [List.map_toArray, List.map_cons, List.map_nil]); first | done | rfl) ?_; refine (check_calls AH AW cH cW H Wt _ (Kd.C_below HH.out HB_W.out) (Kd.C_below HW.out HB_W.out) hlen).mono ?_; rintro e w3 ⟨rfl, hb⟩; refine ⟨_, rfl, ?_⟩; rw [HC.out]; have HB3 := Aside0.mk (below_step HB_W.out hb); clear hb x0 x1)
      go_ret2
      exact ⟨HB3.out, .inl ⟨by rw [HE.out]; decide, by rw [HE.out]; rfl⟩⟩
    | true =>
      have HE := Aside0.mk (show begE H Wt good = 0 by unfold begE; rw [hc, hg]; rfl)
      clear hc hg
      go_upto_region 2 with ((with_reducible refine gate_dst (N := 8) rfl ?_); refine goesL_ (some 8) rfl rfl Try.func34 (by kernel_rfl) rfl #[.agg #[.slice AH H.length cH, .slice AW Wt.length cW]] rfl (by (try simp only [List.map_toArray, List.map_cons, List.map_nil]); first | done | rfl) ?_; refine (check_calls AH AW cH cW H Wt _ (Kd.C_below HH.out HB_W.out) (Kd.C_below HW.out HB_W.out) hlen).mono ?_; rintro e w3 ⟨rfl, hb⟩; refine ⟨_, rfl, ?_⟩; rw [HC.out]; have HB3 := Aside0.mk (below_step HB_W.out hb); have X3 := Aside0.mk (blk_below W0.out hb); clear hb x0 x1)
      have x0 := (blk_cell X3.out 0).trans rfl; have x1 := (blk_cell X3.out 1).trans rfl
      go_wp2_with ((with_reducible refine gate_dst (N := 15) rfl ?_); refine goesL_ (some 15) rfl rfl Try.func64 (by kernel_rfl) rfl #[.agg #[.slice AH H.length cH, .slice AW Wt.length cW]] rfl (by (try simp only [List.map_toArray, List.map_cons, List.map_nil]); first | done | rfl) ?_; refine (change_calls AH AW cH cW H Wt _ (Kd.C_below HH.out HB3.out) (Kd.C_below HW.out HB3.out) hlen).mono ?_; rintro e w4 ⟨q, rfl, hT, hb⟩; refine ⟨_, rfl, ?_⟩; have HT := Aside0.mk (hT.mono HB3.out.size); have HB4 := Aside0.mk (below_step HB3.out hb); clear hb hT x0 x1)
      go_ret2
      exact ⟨HB4.out, .inr ⟨HE.out, q, rfl, HT.out⟩⟩

set_option maxRecDepth 100000 in
set_option maxHeartbeats 2000000 in
theorem isH_calls (g : Nat) (h : Int) (x : S24) (w : World) (hg : w.heap[g]? = some (.cells #[.int .i64 h] 3 (0, 0))) : Calls Try.prog 77 #[.agg #[.int .i64 x.f0, .int .i64 x.f1, .int .i64 x.f2, .int .i64 x.f3, .bool x.f4], .pointer (some ⟨g, 0, none⟩)] w fun e w' => e = .returned (.bool (hdL x == h)) ∧ Below w.heap.size w w' := by
  have g0 := (blk_cell hg 0).trans rfl
  have lg := blk_lt hg
  clear hg
  go_enter Try.func77, Try.ntmps77
  go_wp2
  go_ret
  exact ⟨by first | rfl | (simp [hdL]; done), below_alloc (Below.refl _ _) _⟩
def waitN (Wt : List S24) (h : Int) : Int := firstAt (fun x => hdL x == h) Wt
set_option maxRecDepth 100000 in
set_option maxHeartbeats 2000000 in
theorem wait_calls (q : Nat) (h : Int) (H Wt : List S24) (w : World) (hT : TabC w q H Wt) :
    Calls Try.prog 58 #[.pointer (some ⟨q, 0, none⟩), .int .i64 h] w fun e w' => e = .returned (.int .i64 (waitN Wt h)) ∧ Below w.heap.size w w' := by
  obtain ⟨AH, AW, cH, cW, v3, v4, hq, hCH, hCW, hcW, hcH⟩ := hT.ex
  have HCW := Aside0.mk hCW
  have HQ := Aside0.mk hq
  have hmW := hCW.2.1
  clear hT hq hCH hCW
  go_enter Try.func58, Try.ntmps58
  go_upto_region 1 with (fail)
  have hb_ := below_alloc (Below.refl _ w) (.cells #[.int .i64 h] 3)
  have hG0_ := blk_lit0 w (.cells #[.int .i64 h] 3)
  generalize (w.alloc (.cells #[.int .i64 h] 3)) = W at hb_ hG0_ ⊢
  have HB_W := Aside0.mk hb_
  have W0 := Aside0.mk hG0_
  clear hb_ hG0_
  have HQ1 := Aside0.mk (blk_below HQ.out HB_W.out)
  have HLK := Aside0.mk (show Looks 77 #[.pointer (some ⟨w.heap.size, 0, none⟩)] (fun x => hdL x == h) W from
    { enters := enters_ Try.func77 (by kernel_rfl) rfl
      calls := fun x w3 hb => isH_calls w.heap.size h x w3 (blk_below W0.out hb) })
  have q0 := (blk_cell HQ1.out 0).trans rfl; have q1 := (blk_cell HQ1.out 1).trans rfl; have q2 := (blk_cell HQ1.out 2).trans rfl; have q3 := (blk_cell HQ1.out 3).trans rfl
  go_wp2_with ((with_reducible refine gate_dst (N := 11) rfl ?_); refine goesL_ (some 11) rfl rfl Try.func76 (by kernel_rfl) rfl #[.slice AW Wt.length cW, .func (.func 77) #[] #[.pointer (some ⟨w.heap.size, 0, none⟩)]] rfl (by (try simp only [List.map_toArray, List.map_cons, List.map_nil]); first | done | rfl) ?_; refine (index_calls 77 _ _ AW cW Wt _ HLK.out (Kd.C_below HCW.out HB_W.out) hmW).mono ?_; rintro e w3 ⟨rfl, hb⟩; refine ⟨_, rfl, ?_⟩; have HB3 := Aside0.mk (below_step HB_W.out hb); clear hb q0 q1 q2 q3)
  go_ret
  exact ⟨rfl, HB3.out⟩

def reqE (H Wt : List S24) (l : S24) : Int := if begE H Wt (vL l) = 0 then (if 0 ≤ waitN Wt l.f1 then 6 else if 400 ≤ H.length + Wt.length then 2 else 0) else begE H Wt (vL l)
set_option maxRecDepth 100000 in
set_option maxHeartbeats 2000000 in
theorem request_calls (AH AW : Option Addr) (cH cW : Nat) (H Wt : List S24) (l : S24) (w : World) (hH : k24.C w AH H.length H) (hW : k24.C w AW Wt.length Wt) (hlen : H.length + Wt.length ≤ 1000) :
    Calls Try.prog 45 #[.agg #[.slice AH H.length cH, .slice AW Wt.length cW], .agg #[.int .i64 l.f0, .int .i64 l.f1, .int .i64 l.f2, .int .i64 l.f3, .bool l.f4]] w fun e w' => BegPost w (reqE H Wt l) H Wt e w' := by
  have HH := Aside0.mk hH
  have HW := Aside0.mk hW
  clear hH hW
  go_enter Try.func45, Try.ntmps45
  go_upto_region 1 with (fail)
  have hb_ := below_alloc (below_alloc (Below.refl _ w) (.cells #[.slice AH H.length cH, .slice AW Wt.length cW] 29)) (.cells #[.int .i64 l.f0, .int .i64 l.f1, .int .i64 l.f2, .int .i64 l.f3, .bool l.f4] 24)
  have hG0_ := blk_alloc (blk_lit0 w (.cells #[.slice AH H.length cH, .slice AW Wt.length cW] 29)) (.cells #[.int .i64 l.f0, .int .i64 l.f1, .int .i64 l.f2, .int .i64 l.f3, .bool l.f4] 24)
  have hG1_ := blk_lit w (.cells #[.slice AH H.length cH, .slice AW Wt.length cW] 29) (.cells #[.int .i64 l.f0, .int .i64 l.f1, .int .i64 l.f2, .int .i64 l.f3, .bool l.f4] 24)
  generalize ((w.alloc (.cells #[.slice AH H.length cH, .slice AW Wt.length cW] 29)).alloc (.cells #[.int .i64 l.f0, .int .i64 l.f1, .int .i64 l.f2, .int .i64 l.f3, .bool l.f4] 24)) = W at hb_ hG0_ hG1_ ⊢
  have HB_W := Aside0.mk hb_
  have W0 := Aside0.mk hG0_
  have W1 := Aside0.mk hG1_
  clear hb_ hG0_ hG1_
  refine start_ (n := 9) (S := fun w' => w'.cell? ⟨w.heap.size, 0, none⟩ = some (.slice AH H.length cH) ∧ w'.cell? ⟨w.heap.size, 1, none⟩ = some (.slice AW Wt.length cW) ∧ w'.cell? ⟨w.heap.size + 1, 0, none⟩ = some (.int .i64 l.f0) ∧ w'.cell? ⟨w.heap.size + 1, 1, none⟩ = some (.int .i64 l.f1) ∧ w'.cell? ⟨w.heap.size + 1, 2, none⟩ = some (.int .i64 l.f2) ∧ w'.cell? ⟨w.heap.size + 1, 3, none⟩ = some (.int .i64 l.f3) ∧ w'.cell? ⟨w.heap.size + 1, 4, none⟩ = some (.bool l.f4)) (ds := []) #[false, false, false, false, false, false, false, false, false] (by kernel_rfl) rfl rfl ⟨(blk_cell (blk_drew W0.out) 0).trans rfl, (blk_cell (blk_drew W0.out) 1).trans rfl, (blk_cell (blk_drew W1.out) 0).trans rfl, (blk_cell (blk_drew W1.out) 1).trans rfl, (blk_cell (blk_drew W1.out) 2).trans rfl, (blk_cell (blk_drew W1.out) 3).trans rfl, (blk_cell (blk_drew W1.out) 4).trans rfl⟩ (fun hHeld => ?_)
  have HBD := Aside0.mk (below_drew1 HB_W.out)
  have C0 := Aside0.mk (blk_drew W0.out)
  have C1 := Aside0.mk (blk_drew W1.out)
  generalize W.drew = wd at HBD C0 C1 hHeld ⊢
  refine take_ (i := 0) (N := some 9) (v := ?_) (a' := ?_) #[true, false, false, false, false, false, false, false, false] rfl rfl (by kernel_rfl) (fun _ _ _ h => h) (Or.inl ⟨by rfl, ?_⟩) hHeld ?_ ?_
  rotate_left
  · rintro w' ⟨s0, s1, s2, s3, s4, s5, s6⟩
    go_simp
    with_reducible rfl
  rotate_left
  · simp only [Act.put, List.setIfInBounds_toArray, List.set_cons_zero, List.set_cons_succ, i64_w, i32_w]
    rfl
  refine take_ (i := 1) (N := some 10) (v := ?_) (a' := ?_) #[true, true, false, false, false, false, false, false, false] rfl rfl (by kernel_rfl) (fun _ _ _ h => h) (Or.inl ⟨by rfl, ?_⟩) hHeld ?_ ?_
  rotate_left
  · rintro w' ⟨s0, s1, s2, s3, s4, s5, s6⟩
    go_simp
    with_reducible rfl
  rotate_left
  · simp only [Act.put, List.setIfInBounds_toArray, List.set_cons_zero, List.set_cons_succ, i64_w, i32_w]
    rfl
  refine one_ (i := 2) (N := some 11) #[true, true, true, false, false, false, false, false, false] rfl rfl (by kernel_rfl) (by decide) (fun K hK => ?_)
  refine goes_ Try.func31 (by kernel_rfl) rfl #[.agg #[.int .i64 l.f0, .int .i64 l.f1, .int .i64 l.f2, .int .i64 l.f3, .bool l.f4]] (by rfl) rfl rfl (by (try simp only [List.map_toArray, List.map_cons, List.map_nil]); first | done | rfl) ?_
  refine (valid_calls l _).mono ?_
  rintro e w3 ⟨rfl, hb⟩
  refine ⟨_, rfl, ?_⟩
  have HB3 := Aside0.mk (below_step HBD.out hb)
  have D0 := Aside0.mk (blk_below C0.out hb)
  have D1 := Aside0.mk (blk_below C1.out hb)
  clear hb
  refine hK.out _ _ ⟨(blk_cell D0.out 0).trans rfl, (blk_cell D0.out 1).trans rfl, (blk_cell D1.out 0).trans rfl, (blk_cell D1.out 1).trans rfl, (blk_cell D1.out 2).trans rfl, (blk_cell D1.out 3).trans rfl, (blk_cell D1.out 4).trans rfl⟩ (fun hHeld => ?_)
  clear hK K
  refine norm_ (a' := ?_) ?_ ?_
  rotate_left
  · show Act.put _ (some 11) _ = _
    simp only [Act.put, List.setIfInBounds_toArray, List.set_cons_zero, List.set_cons_succ, i64_w, i32_w]
    rfl
  refine one_ (i := 3) (N := some 12) #[true, true, true, true, false, false, false, false, false] rfl rfl (by kernel_rfl) (by decide) (fun K hK => ?_)
  refine goes_ Try.func56 (by kernel_rfl) rfl #[.agg #[.slice AH H.length cH, .slice AW Wt.length cW], .bool (vL l)] (by rfl) rfl rfl (by (try simp only [List.map_toArray, List.map_cons, List.map_nil]); first | done | rfl) ?_
  refine (begin_calls AH AW cH cW H Wt (vL l) _ (Kd.C_below HH.out HB3.out) (Kd.C_below HW.out HB3.out) hlen).mono ?_
  rintro e w4 ⟨hb, hp⟩
  have HB4 := Aside0.mk (below_step HB3.out hb)
  have D0 := Aside0.mk (blk_below D0.out hb)
  have D1 := Aside0.mk (blk_below D1.out hb)
  clear hb
  skip
  rcases hp with ⟨hne, rfl⟩ | ⟨hz, q, rfl, hT⟩
  · refine ⟨_, rfl, ?_⟩
    have HNE := Aside0.mk hne
    have HE := Aside0.mk (show reqE H Wt l = begE H Wt (vL l) by unfold reqE; rw [if_neg hne])
    have hnb : (begE H Wt (vL l) == 0) = false := by simpa using hne
    generalize begE H Wt (vL l) = E at HNE HE hnb ⊢
    clear hne
    refine hK.out _ _ ⟨(blk_cell D0.out 0).trans rfl, (blk_cell D0.out 1).trans rfl, (blk_cell D1.out 0).trans rfl, (blk_cell D1.out 1).trans rfl, (blk_cell D1.out 2).trans rfl, (blk_cell D1.out 3).trans rfl, (blk_cell D1.out 4).trans rfl⟩ (fun hHeld => ?_)
    clear hK K
    refine norm_ (a' := ?_) ?_ ?_
    rotate_left
    · show Act.put _ (some 12) _ = _
      simp only [Act.put, List.setIfInBounds_toArray, List.set_cons_zero, List.set_cons_succ, i64_w, i32_w]
      rfl
    refine pure_ (i := 4) (N := some 8) (v := ?_) (a' := ?_) #[true, true, true, true, true, false, false, false, false] rfl rfl (by kernel_rfl) (fun _ _ _ h => h) (Or.inl ⟨by rfl, ?_⟩) ?_ ?_
    rotate_left
    · intro w'
      go_simp
      with_reducible rfl
    rotate_left
    · simp only [Act.put, List.setIfInBounds_toArray, List.set_cons_zero, List.set_cons_succ, i64_w, i32_w]
      rfl
    refine pure_ (i := 5) (N := some 13) (v := ?_) (a' := ?_) #[true, true, true, true, true, true, false, false, false] rfl rfl (by kernel_rfl) (fun _ _ _ h => h) (Or.inl ⟨by rfl, ?_⟩) ?_ ?_
    rotate_left
    · intro w'
      go_simp
      with_reducible rfl
    rotate_left
    · simp only [Act.put, List.setIfInBounds_toArray, List.set_cons_zero, List.set_cons_succ, i64_w, i32_w]
      rfl
    refine pure_ (i := 6) (N := some 14) (v := ?_) (a' := ?_) #[true, true, true, true, true, true, true, false, false] rfl rfl (by kernel_rfl) (fun _ _ _ h => h) (Or.inl ⟨by rfl, ?_⟩) ?_ ?_
    rotate_left
    · intro w'
      go_simp
      with_reducible rfl
    rotate_left
    · simp only [Act.put, List.setIfInBounds_toArray, List.set_cons_zero, List.set_cons_succ, i64_w, i32_w]
      rfl
    refine pure_ (i := 7) (N := some 6) (v := ?_) (a' := ?_) #[true, true, true, true, true, true, true, true, false] rfl rfl (by kernel_rfl) (fun _ _ _ h => h) (Or.inl ⟨by rfl, ?_⟩) ?_ ?_
    rotate_left
    · intro w'
      go_simp
      with_reducible rfl
    rotate_left
    · simp only [Act.put, List.setIfInBounds_toArray, List.set_cons_zero, List.set_cons_succ, i64_w, i32_w]
      rfl
    refine pure_ (i := 8) (N := some 7) (v := ?_) (a' := ?_) #[true, true, true, true, true, true, true, true, true] rfl rfl (by kernel_rfl) (fun _ _ _ h => h) (Or.inl ⟨by rfl, ?_⟩) ?_ ?_
    rotate_left
    · intro w'
      go_simp
      with_reducible rfl
    rotate_left
    · simp only [Act.put, List.setIfInBounds_toArray, List.set_cons_zero, List.set_cons_succ, i64_w, i32_w]
      rfl
    refine done_ (by kernel_rfl) ?_
    clear hHeld
    go_wp2
    go_ret2
    exact ⟨HB4.out, .inl ⟨by rw [HE.out]; exact HNE.out, by rw [HE.out]; rfl⟩⟩
  · refine ⟨_, rfl, ?_⟩
    have HZ := Aside0.mk hz
    have HT := Aside0.mk (hT.mono HB3.out.size)
    have hlq : k24.C w AH H.length H := HH.out
    have HT1 := Aside0.mk HT.out.tab
    clear hz hT hlq
    skip
    refine hK.out _ _ ⟨(blk_cell D0.out 0).trans rfl, (blk_cell D0.out 1).trans rfl, (blk_cell D1.out 0).trans rfl, (blk_cell D1.out 1).trans rfl, (blk_cell D1.out 2).trans rfl, (blk_cell D1.out 3).trans rfl, (blk_cell D1.out 4).trans rfl⟩ (fun hHeld => ?_)
    clear hK K
    refine norm_ (a' := ?_) ?_ ?_
    rotate_left
    · show Act.put _ (some 12) _ = _
      simp only [Act.put, List.setIfInBounds_toArray, List.set_cons_zero, List.set_cons_succ, i64_w, i32_w]
      rfl
    refine pure_ (i := 4) (N := some 8) (v := ?_) (a' := ?_) #[true, true, true, true, true, false, false, false, false] rfl rfl (by kernel_rfl) (fun _ _ _ h => h) (Or.inl ⟨by rfl, ?_⟩) ?_ ?_
    rotate_left
    · intro w'
      go_simp
      with_reducible rfl
    rotate_left
    · simp only [Act.put, List.setIfInBounds_toArray, List.set_cons_zero, List.set_cons_succ, i64_w, i32_w]
      rfl
    refine pure_ (i := 5) (N := some 13) (v := ?_) (a' := ?_) #[true, true, true, true, true, true, false, false, false] rfl rfl (by kernel_rfl) (fun _ _ _ h => h) (Or.inl ⟨by rfl, ?_⟩) ?_ ?_
    rotate_left
    · intro w'
      go_simp
      with_reducible rfl
    rotate_left
    · simp only [Act.put, List.setIfInBounds_toArray, List.set_cons_zero, List.set_cons_succ, i64_w, i32_w]
      rfl
    refine pure_ (i := 6) (N := some 14) (v := ?_) (a' := ?_) #[true, true, true, true, true, true, true, false, false] rfl rfl (by kernel_rfl) (fun _ _ _ h => h) (Or.inl ⟨by rfl, ?_⟩) ?_ ?_
    rotate_left
    · intro w'
      go_simp
      with_reducible rfl
    rotate_left
    · simp only [Act.put, List.setIfInBounds_toArray, List.set_cons_zero, List.set_cons_succ, i64_w, i32_w]
      rfl
    refine pure_ (i := 7) (N := some 6) (v := ?_) (a' := ?_) #[true, true, true, true, true, true, true, true, false] rfl rfl (by kernel_rfl) (fun _ _ _ h => h) (Or.inl ⟨by rfl, ?_⟩) ?_ ?_
    rotate_left
    · intro w'
      go_simp
      with_reducible rfl
    rotate_left
    · simp only [Act.put, List.setIfInBounds_toArray, List.set_cons_zero, List.set_cons_succ, i64_w, i32_w]
      rfl
    refine pure_ (i := 8) (N := some 7) (v := ?_) (a' := ?_) #[true, true, true, true, true, true, true, true, true] rfl rfl (by kernel_rfl) (fun _ _ _ h => h) (Or.inl ⟨by rfl, ?_⟩) ?_ ?_
    rotate_left
    · intro w'
      go_simp
      with_reducible rfl
    rotate_left
    · simp only [Act.put, List.setIfInBounds_toArray, List.set_cons_zero, List.set_cons_succ, i64_w, i32_w]
      rfl
    refine done_ (by kernel_rfl) ?_
    clear hHeld
    have d0 := (blk_cell D1.out 0).trans rfl; have d1 := (blk_cell D1.out 1).trans rfl; have d2 := (blk_cell D1.out 2).trans rfl; have d3 := (blk_cell D1.out 3).trans rfl; have d4 := (blk_cell D1.out 4).trans rfl
    by_cases hw : 0 ≤ waitN Wt l.f1
    · have HE := Aside0.mk (show reqE H Wt l = 6 by unfold reqE; rw [if_pos HZ.out, if_pos hw])
      have HWN := Aside0.mk (show decide (0 ≤ waitN Wt l.f1) = true by simpa using hw)
      have hn := HWN.out
      clear hw
      go_wp2_with ((with_reducible refine gate_dst (N := 23) rfl ?_); refine goesL_ (some 23) rfl rfl Try.func58 (by kernel_rfl) rfl #[.pointer (some ⟨q, 0, none⟩), .int .i64 l.f1] rfl (by (try simp only [List.map_toArray, List.map_cons, List.map_nil]); first | done | rfl) ?_; refine (wait_calls q l.f1 H Wt _ HT1.out).mono ?_; rintro e w5 ⟨rfl, hb⟩; refine ⟨_, rfl, ?_⟩; have HB5 := Aside0.mk (below_step HB4.out hb); have HT5 := Aside0.mk (HT.out.below hb); clear hb d0 d1 d2 d3 d4; generalize waitN Wt l.f1 = n at hn ⊢)
      go_ret2
      exact ⟨HB5.out, .inl ⟨by rw [HE.out]; decide, by rw [HE.out]; rfl⟩⟩
    · have hn : decide (0 ≤ waitN Wt l.f1) = false := by simpa using hw
      by_cases h400 : 400 ≤ H.length + Wt.length
      · have HE := Aside0.mk (show reqE H Wt l = 2 by unfold reqE; rw [if_pos HZ.out, if_neg hw, if_pos h400])
        have h4 : decide ((400 : Int) ≤ (H.length : Int) + (Wt.length : Int)) = true := by simp; omega
        clear hw h400
        go_upto_region 6 with ((with_reducible refine gate_dst (N := 23) rfl ?_); refine goesL_ (some 23) rfl rfl Try.func58 (by kernel_rfl) rfl #[.pointer (some ⟨q, 0, none⟩), .int .i64 l.f1] rfl (by (try simp only [List.map_toArray, List.map_cons, List.map_nil]); first | done | rfl) ?_; refine (wait_calls q l.f1 H Wt _ HT1.out).mono ?_; rintro e w5 ⟨rfl, hb⟩; refine ⟨_, rfl, ?_⟩; have HB5 := Aside0.mk (below_step HB4.out hb); have HT5 := Aside0.mk (HT.out.below hb); clear hb d0 d1 d2 d3 d4; generalize waitN Wt l.f1 = n at hn ⊢)
        obtain ⟨vH, vW, vG, vN, hq, hb0, hH, hW, hG, hN⟩ := HT5.out.ex
        obtain ⟨A5, c5, rfl⟩ := Kd.R_slice hH
        obtain ⟨A6, c6, rfl⟩ := Kd.R_slice hW
        have z0 := (blk_cell hq 0).trans rfl; have z1 := (blk_cell hq 1).trans rfl; have z2 := (blk_cell hq 2).trans rfl; have z3 := (blk_cell hq 3).trans rfl
        clear hq hb0 hH hW hG hN
        go_quiet (fail)
        have HB6 := Aside0.mk (below_step HB5.out (pw_below_drewN (Below.refl w5.heap.size w5) nq))
        generalize w5.drewN nq = W6 at HB6 ⊢
        go_wp2
        go_ret2
        exact ⟨HB6.out, .inl ⟨by rw [HE.out]; decide, by rw [HE.out]; rfl⟩⟩
      · have HE := Aside0.mk (show reqE H Wt l = 0 by unfold reqE; rw [if_pos HZ.out, if_neg hw, if_neg h400])
        have h4 : decide ((400 : Int) ≤ (H.length : Int) + (Wt.length : Int)) = false := by simp; omega
        clear hw h400
        go_upto_region 6 with ((with_reducible refine gate_dst (N := 23) rfl ?_); refine goesL_ (some 23) rfl rfl Try.func58 (by kernel_rfl) rfl #[.pointer (some ⟨q, 0, none⟩), .int .i64 l.f1] rfl (by (try simp only [List.map_toArray, List.map_cons, List.map_nil]); first | done | rfl) ?_; refine (wait_calls q l.f1 H Wt _ HT1.out).mono ?_; rintro e w5 ⟨rfl, hb⟩; refine ⟨_, rfl, ?_⟩; have HB5 := Aside0.mk (below_step HB4.out hb); have HT5 := Aside0.mk (HT.out.below hb); clear hb d0 d1 d2 d3 d4; generalize waitN Wt l.f1 = n at hn ⊢)
        obtain ⟨vH, vW, vG, vN, hq, hb0, hH, hW, hG, hN⟩ := HT5.out.ex
        obtain ⟨A5, c5, rfl⟩ := Kd.R_slice hH
        obtain ⟨A6, c6, rfl⟩ := Kd.R_slice hW
        have z0 := (blk_cell hq 0).trans rfl; have z1 := (blk_cell hq 1).trans rfl; have z2 := (blk_cell hq 2).trans rfl; have z3 := (blk_cell hq 3).trans rfl
        clear hq hb0 hH hW hG hN
        go_quiet (fail)
        have HT6 := Aside0.mk (HT5.out.below (pw_below_drewN (Below.refl w5.heap.size w5) nq))
        have HB6 := Aside0.mk (below_step HB5.out (pw_below_drewN (Below.refl w5.heap.size w5) nq))
        generalize w5.drewN nq = W6 at HB6 HT6 ⊢
        go_wp2
        go_ret2
        exact ⟨HB6.out, .inr ⟨HE.out, q, rfl, HT6.out⟩⟩
end Go.Proofs.Ytifnfnoicinbaaa.M
