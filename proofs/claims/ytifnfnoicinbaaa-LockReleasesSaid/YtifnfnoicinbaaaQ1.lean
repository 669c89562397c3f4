/- The reference's Valid, Conflict, waiting, Blockers in plain words. -/
import Derived.Test.YtifnfnoicinbaaaFR
import Derived.Test.YtifnfnoicinbaaaB9
namespace Go.Proofs.Ytifnfnoicinbaaa.M
open Go.RowKit Go.Proofs.YtifnfnoicinbaaaW.PrintWords Go.Proofs.YtifnfnoicinbaaaW.PrintLast Go.Proofs.YtifnfnoicinbaaaW.PrintMore
set_option linter.unusedVariables false
set_option linter.unusedSimpArgs false
set_option linter.unnecessarySimpa false

theorem vL_partsR {x : S24} (h : vL x = true) : 0 ≤ x.f0 ∧ x.f0 ≤ 1073741824 ∧ 1 ≤ x.f1 ∧ x.f1 ≤ 1073741824 ∧ 0 ≤ x.f2 ∧ x.f2 ≤ 1099511627776 ∧ 1 ≤ x.f3 ∧ x.f3 ≤ 1099511627776 - x.f2 := by
  unfold vL at h
  simp only [Bool.and_eq_true, decide_eq_true_eq] at h
  obtain ⟨⟨⟨⟨⟨⟨⟨h1, h2⟩, h3⟩, h4⟩, h5⟩, h6⟩, h7⟩, h8⟩ := h
  have e : wrap64 (1099511627776 - x.f2) = 1099511627776 - x.f2 := by unfold wrap64; omega
  rw [e] at h8
  exact ⟨h1, h2, h3, h4, h5, h6, h7, h8⟩
theorem mt_ofR {x a : S24} (hx : vL x = true) (ha : vL a = true) : mtL x a = (decide (x.f0 = a.f0) && !decide (x.f1 = a.f1) && (x.f4 || a.f4) && decide (x.f2 < a.f2 + a.f3) && decide (a.f2 < x.f2 + x.f3)) := by
  obtain ⟨_, _, _, _, h5, h6, h7, h8⟩ := vL_partsR hx
  obtain ⟨_, _, _, _, g5, g6, g7, g8⟩ := vL_partsR ha
  have e1 : wrap64 (a.f2 + a.f3) = a.f2 + a.f3 := by unfold wrap64; omega
  have e2 : wrap64 (x.f2 + x.f3) = x.f2 + x.f3 := by unfold wrap64; omega
  unfold mtL
  rw [e1, e2]
theorem validR_f (x : S24) : archivoltref31_Valid.f x.f0 x.f1 x.f2 x.f3 x.f4 = some (vL x) := by
  unfold archivoltref31_Valid.f vL
  repeat' split
  all_goals simp_all
  all_goals omega
theorem validR_calls (a : S24) (w : World) : Calls Try.prog 32 #[.agg #[.int .i64 a.f0, .int .i64 a.f1, .int .i64 a.f2, .int .i64 a.f3, .bool a.f4]] w fun e w' => e = .returned (.bool (vL a)) ∧ Below w.heap.size w w' :=
  archivoltref31_Valid.calls _ _ _ _ _ _ w (validR_f a)
theorem wrap_succ' {j : Nat} (h : j ≤ 2000000) : wrap64 ((j : Int) + 1) = ((j + 1 : Nat) : Int) := by unfold wrap64; omega
theorem waitingR_loop {H W : List S24} {x : Int} (hl : W.length ≤ 1000) : ∀ (n k j : Nat), j + n = W.length → n < k → archivoltref31_waiting.l0 k x (j : Int) H W = some (match (W.drop j).findIdx? (fun y => hdL y == x) with | none => -1 | some i => ((j + i : Nat) : Int))
  | n, 0, j, _, hk => absurd hk (by omega)
  | 0, k + 1, j, hj, _ => by
    unfold archivoltref31_waiting.l0
    rw [if_neg (show ¬ (j : Int) < (W.length : Int) by omega), List.drop_of_length_le (by omega)]
    rfl
  | n + 1, k + 1, j, hj, hk => by
    have h0 : j < W.length := by omega
    unfold archivoltref31_waiting.l0
    rw [if_pos (show (j : Int) < (W.length : Int) by omega), if_pos (show 0 ≤ (j : Int) by omega), show W.drop j = W[j] :: W.drop (j + 1) from (List.getElem_cons_drop ..).symm, rd_at h0]
    by_cases hh : W[j].f1 = x
    · rw [if_pos hh, List.findIdx?_cons, if_pos (by simpa [hdL] using hh)]
      rfl
    · rw [if_neg hh, wrap_succ' (by omega), waitingR_loop hl n k (j + 1) (by omega) (by omega), List.findIdx?_cons, if_neg (by simpa [hdL] using hh)]
      cases (W.drop (j + 1)).findIdx? (fun y => hdL y == x) with
      | none => rfl
      | some i =>
        show some ((j + 1 + i : Nat) : Int) = some ((j + (i + 1) : Nat) : Int)
        rw [show j + 1 + i = j + (i + 1) by omega]
theorem waitingR_f {H W : List S24} {x : Int} (hl : W.length ≤ 1000) : archivoltref31_waiting.f 2000 H W x = some (waitN W x) := by
  unfold archivoltref31_waiting.f
  have := waitingR_loop (H := H) (x := x) hl W.length 2000 0 (by omega) (by omega)
  rw [show ((0 : Nat) : Int) = 0 from rfl, List.drop_zero] at this
  rw [this]
  unfold waitN firstAt
  cases W.findIdx? (fun y => hdL y == x) with
  | none => rfl
  | some i => simp
theorem waitingR_calls (A B : Option Addr) (c d : Nat) (H W : List S24) (x : Int) (w : World) (h1 : k24.C w A H.length H) (h2 : k24.C w B W.length W) (l1 : H.length ≤ c) (l2 : W.length ≤ d) (hl : W.length ≤ 1000) :
    Calls Try.prog 47 #[.agg #[.slice A H.length c, .slice B W.length d], .int .i64 x] w fun e w' => e = .returned (.int .i64 (waitN W x)) ∧ Below w.heap.size w w' :=
  archivoltref31_waiting.calls 2000 A c H B d W x _ w h1 l1 h2 l2 (waitingR_f hl)
theorem drop_at' {α : Type} {l : List α} {j : Nat} (h : j < l.length) : l.drop j = l[j] :: l.drop (j + 1) := (List.getElem_cons_drop ..).symm
theorem blks_atR {mt : S24 → S24 → Bool} {H W : List S24} {a : Nat} (ha : a < W.length) : PL.blks mt H W a = (H ++ W.take a).filter (fun x => mt x (rd_T24 W (a : Int))) := by
  unfold PL.blks
  rw [List.getElem?_eq_getElem ha, rd_at ha]
set_option maxRecDepth 100000 in
set_option maxHeartbeats 2000000 in
theorem conflictR_calls (a b : S24) (w : World) : Calls Try.prog 33 #[.agg #[.int .i64 a.f0, .int .i64 a.f1, .int .i64 a.f2, .int .i64 a.f3, .bool a.f4], .agg #[.int .i64 b.f0, .int .i64 b.f1, .int .i64 b.f2, .int .i64 b.f3, .bool b.f4]] w fun e w' => e = .returned (.bool (cfL a b)) ∧ Below w.heap.size w w' := by
  go_enter Try.func33, Try.ntmps33
  go_upto_region 1 with (fail)
  have hb_ := below_alloc (below_alloc (Below.refl _ w) (.cells #[.int .i64 a.f0, .int .i64 a.f1, .int .i64 a.f2, .int .i64 a.f3, .bool a.f4] 24)) (.cells #[.int .i64 b.f0, .int .i64 b.f1, .int .i64 b.f2, .int .i64 b.f3, .bool b.f4] 24)
  have hG0_ := blk_alloc (blk_lit0 w (.cells #[.int .i64 a.f0, .int .i64 a.f1, .int .i64 a.f2, .int .i64 a.f3, .bool a.f4] 24)) (.cells #[.int .i64 b.f0, .int .i64 b.f1, .int .i64 b.f2, .int .i64 b.f3, .bool b.f4] 24)
  have hG1_ := blk_lit w (.cells #[.int .i64 a.f0, .int .i64 a.f1, .int .i64 a.f2, .int .i64 a.f3, .bool a.f4] 24) (.cells #[.int .i64 b.f0, .int .i64 b.f1, .int .i64 b.f2, .int .i64 b.f3, .bool b.f4] 24)
  generalize ((w.alloc (.cells #[.int .i64 a.f0, .int .i64 a.f1, .int .i64 a.f2, .int .i64 a.f3, .bool a.f4] 24)).alloc (.cells #[.int .i64 b.f0, .int .i64 b.f1, .int .i64 b.f2, .int .i64 b.f3, .bool b.f4] 24)) = V at hb_ hG0_ hG1_ ⊢
  have HB_V := Aside0.mk hb_
  have V0 := Aside0.mk hG0_
  have V1 := Aside0.mk hG1_
  clear hb_ hG0_ hG1_
  have y0 := (blk_cell V0.out 0).trans rfl; have y1 := (blk_cell V0.out 1).trans rfl; have y2 := (blk_cell V0.out 2).trans rfl; have y3 := (blk_cell V0.out 3).trans rfl; have y4 := (blk_cell V0.out 4).trans rfl
  go_wp2_with (fail)
  refine (validR_calls a _).mono ?_
  rintro e w2 ⟨rfl, hb⟩
  have Y := Aside0.mk (blk_below V0.out hb)
  have Z := Aside0.mk (blk_below V1.out hb)
  have BB := Aside0.mk (below_step HB_V.out hb)
  clear hb y0 y1 y2 y3 y4 V0 V1 HB_V
  cases hva : vL a with
  | false =>
    have HE := Aside0.mk (show cfL a b = false by unfold cfL; rw [hva]; rfl)
    clear hva
    go_wp2
    go_ret
    exact ⟨by rw [HE.out]; rfl, BB.out⟩
  | true =>
  have z0 := (blk_cell Z.out 0).trans rfl; have z1 := (blk_cell Z.out 1).trans rfl; have z2 := (blk_cell Z.out 2).trans rfl; have z3 := (blk_cell Z.out 3).trans rfl; have z4 := (blk_cell Z.out 4).trans rfl
  go_wp2_with (fail)
  refine (validR_calls b _).mono ?_
  rintro e w3 ⟨rfl, hb⟩
  have Y := Aside0.mk (blk_below Y.out hb)
  have Z := Aside0.mk (blk_below Z.out hb)
  have BB := Aside0.mk (below_step BB.out hb)
  clear hb z0 z1 z2 z3 z4
  cases hvb : vL b with
  | false =>
    have HE := Aside0.mk (show cfL a b = false by unfold cfL; rw [hvb]; simp)
    clear hva hvb
    go_wp2
    go_ret
    exact ⟨by rw [HE.out]; rfl, BB.out⟩
  | true =>
  have HM := Aside0.mk (show cfL a b = (decide (a.f0 = b.f0) && !decide (a.f1 = b.f1) && (a.f4 || b.f4) && decide (a.f2 < b.f2 + b.f3) && decide (b.f2 < a.f2 + a.f3)) by unfold cfL; rw [hva, hvb, mt_ofR hva hvb]; rfl)
  obtain ⟨_, _, _, _, p1, p2, p3, p4⟩ := vL_partsR hva
  obtain ⟨_, _, _, _, q1, q2, q3, q4⟩ := vL_partsR hvb
  have p5 : a.f3 ≤ 1099511627776 := by omega
  have q5 : b.f3 ≤ 1099511627776 := by omega
  clear hva hvb p4 q4
  have y0 := (blk_cell Y.out 0).trans rfl; have y1 := (blk_cell Y.out 1).trans rfl; have y2 := (blk_cell Y.out 2).trans rfl; have y3 := (blk_cell Y.out 3).trans rfl; have y4 := (blk_cell Y.out 4).trans rfl
  have z0 := (blk_cell Z.out 0).trans rfl; have z1 := (blk_cell Z.out 1).trans rfl; have z2 := (blk_cell Z.out 2).trans rfl; have z3 := (blk_cell Z.out 3).trans rfl; have z4 := (blk_cell Z.out 4).trans rfl
  cases e0 : (a.f0 == b.f0) with
  | false =>
    have e0' : (a.f0 != b.f0) = true := by simp [bne, e0]
    have HE := Aside0.mk (show cfL a b = false by rw [HM.out]; have : a.f0 ≠ b.f0 := (by simpa using e0); simp [this])
    go_wp2
    go_ret
    exact ⟨by rw [HE.out]; rfl, BB.out⟩
  | true =>
  have e0' : (a.f0 != b.f0) = false := by simp [bne, e0]
  have f0' : a.f0 = b.f0 := by simpa using e0
  have F0 := Aside0.mk f0'
  clear f0'
  cases e1 : (a.f1 == b.f1) with
  | true =>
    have HE := Aside0.mk (show cfL a b = false by rw [HM.out]; have : a.f1 = b.f1 := (by simpa using e1); simp [this])
    go_wp2
    go_ret
    exact ⟨by rw [HE.out]; rfl, BB.out⟩
  | false =>
  have F1 := Aside0.mk (show a.f1 ≠ b.f1 by simpa using e1)
  have HM := Aside0.mk (show cfL a b = ((a.f4 || b.f4) && decide (a.f2 < b.f2 + b.f3) && decide (b.f2 < a.f2 + a.f3)) by rw [HM.out, decide_eq_true F0.out, decide_eq_false F1.out]; rfl)
  generalize a.f4 = a4 at y4 HM
  generalize b.f4 = b4 at z4 HM
  cases g1 : decide (a.f2 < b.f2 + b.f3) <;> cases g2 : decide (b.f2 < a.f2 + a.f3) <;> cases a4 <;> cases b4
  all_goals
    have HE := Aside0.mk HM.out
    rw [g1, g2] at HE
    go_wp2
    go_ret
    exact ⟨by rw [HE.out]; rfl, BB.out⟩
theorem filt_take {L : List S24} {wa : S24} {i : Nat} (h : i < L.length) : (L.take (i + 1)).filter (fun x => cfL x wa) = (L.take i).filter (fun x => cfL x wa) ++ if cfL (rd_T24 L (i : Int)) wa = true then [rd_T24 L (i : Int)] else [] := by
  rw [List.take_succ_eq_append_getElem h, List.filter_append, rd_at h]
  simp only [List.filter_cons, List.filter_nil]
set_option maxRecDepth 100000 in
set_option maxHeartbeats 2000000 in
theorem blockersR_calls (A B : Option Addr) (c d : Nat) (H W : List S24) (a : Nat) (w : World) (h1 : k24.C w A H.length H) (h2 : k24.C w B W.length W) (l1 : H.length ≤ c) (l2 : W.length ≤ d) (hh : H.length ≤ 1000) (hl : W.length ≤ 1000) (ha : a < W.length) :
    Calls Try.prog 52 #[.agg #[.slice A H.length c, .slice B W.length d], .int .i64 (a : Int)] w fun e w' => ∃ v : Value, e = .returned v ∧ kI.R 3 w' w.heap.size (fun _ => True) v ((PL.blks cfL H W a).map hdL) ∧ Below w.heap.size w w' := by
  have HC1 := Aside0.mk h1
  have HC2 := Aside0.mk h2
  clear h1 h2
  obtain ⟨wa, hwa⟩ : ∃ wa, wa = rd_T24 W (a : Int) := ⟨_, rfl⟩
  have HWA := Aside0.mk hwa
  have HBK := Aside0.mk (show PL.blks cfL H W a = (H ++ W.take a).filter (fun x => cfL x wa) by rw [blks_atR ha, ← hwa])
  clear hwa
  go_enter Try.func52, Try.ntmps52
  go_upto_region 1 with (fail)
  have hb_ := below_alloc (Below.refl _ w) (.cells #[.slice A H.length c, .slice B W.length d] 29)
  have hG0_ := blk_lit0 w (.cells #[.slice A H.length c, .slice B W.length d] 29)
  generalize (w.alloc (.cells #[.slice A H.length c, .slice B W.length d] 29)) = V at hb_ hG0_ ⊢
  have HB_V := Aside0.mk hb_
  have V0 := Aside0.mk hG0_
  clear hb_ hG0_
  have ha' : decide ((a : Int) < (W.length : Int)) = true := by simpa using ha
  go_wp2
  go_loopg [5, 6] H.length (fun kq v5 v6 w' => ∃ (i : Nat) (v : Value), v6 = .int .i64 i ∧ v = v5 ∧ Aside0 (kq + i = H.length) ∧ Aside0 (kI.R 3 w' V.heap.size (fun _ => True) v (((H.take i).filter (fun x => cfL x wa)).map hdL)) ∧ Aside0 (Below V.heap.size V w'))
  case atStart => exact ⟨0, _, rfl, rfl, ⟨rfl⟩, ⟨by simpa using Kd.R_nil kI 3 _ _ (fun _ => True)⟩, ⟨Below.refl _ _⟩⟩
  case round =>
    obtain ⟨i, v, rfl, rfl, HI, RO, HB⟩ := hrel
    have U := Aside0.mk (blk_below V0.out HB.out)
    have x0 := (blk_cell U.out 0).trans rfl; have x1 := (blk_cell U.out 1).trans rfl
    by_cases hit : i < H.length
    · have g2 : decide (i < H.length) = true := by simpa using hit
      have g2' : decide ((i : Int) < (H.length : Int)) = true := by simpa using hit
      have hil : i < H.length := by omega
      have hic : i < c := by omega
      have had : a < d := by omega
      go_upto_region 5 with (fail)
      obtain ⟨ae, hae, a0, a1, a2, a3, a4⟩ := at_T24 (Kd.C_below HC1.out (below_step HB_V.out HB.out)) (i : Int) (by omega) (by omega)
      obtain ⟨be, hbe, b0, b1, b2, b3, b4⟩ := at_T24 (Kd.C_below HC2.out (below_step HB_V.out HB.out)) (a : Int) (by omega) (by omega)
      cases hae
      cases hbe
      simp only [Int.toNat_natCast] at a0 a1 a2 a3 a4 b0 b1 b2 b3 b4
      rw [← HWA.out] at b0 b1 b2 b3 b4
      have HFT := Aside0.mk (filt_take (wa := wa) hil)
      obtain ⟨xi, hxi⟩ : ∃ xi, xi = rd_T24 H (i : Int) := ⟨_, rfl⟩
      rw [← hxi] at a0 a1 a2 a3 a4 HFT
      clear hxi
      refine start_ (n := 11) (S := fun w' => Below wr.heap.size wr w') (ds := [10]) #[false, false, false, false, false, false, false, false, false, false, false] (by kernel_rfl) rfl rfl (below_drew1 (Below.refl wr.heap.size wr)) (fun hHeld => ?_)
      generalize wr.drew = wd at hHeld ⊢
      refine pure_ (i := 0) (N := some 15) (v := ?_) (a' := ?_) #[true, false, false, false, false, false, false, false, false, false, false] rfl rfl (by kernel_rfl) (fun _ _ _ h => h) (Or.inl ⟨by rfl, ?_⟩) ?_ ?_
      rotate_left
      · intro w'
        go_simp
        with_reducible rfl
      rotate_left
      · simp only [Act.put, List.setIfInBounds_toArray, List.set_cons_zero, List.set_cons_succ, i64_w, i32_w]
        rfl
      refine take_ (i := 1) (N := some 16) (v := ?_) (a' := ?_) #[true, true, false, false, false, false, false, false, false, false, false] rfl rfl (by kernel_rfl) (fun _ _ _ h => h) (Or.inl ⟨by rfl, ?_⟩) hHeld ?_ ?_
      rotate_left
      · rintro w' s0
        have q0 := pw_cell_below s0 x0; have q1 := pw_cell_below s0 x1
        go_simp
        with_reducible rfl
      rotate_left
      · simp only [Act.put, List.setIfInBounds_toArray, List.set_cons_zero, List.set_cons_succ, i64_w, i32_w]
        rfl
      refine pure_ (i := 2) (N := some 17) (v := ?_) (a' := ?_) #[true, true, true, false, false, false, false, false, false, false, false] rfl rfl (by kernel_rfl) (fun _ _ _ h => h) (Or.inl ⟨by rfl, ?_⟩) ?_ ?_
      rotate_left
      · intro w'
        go_simp
        with_reducible rfl
      rotate_left
      · simp only [Act.put, List.setIfInBounds_toArray, List.set_cons_zero, List.set_cons_succ, i64_w, i32_w]
        rfl
      refine pure_ (i := 3) (N := some 18) (v := ?_) (a' := ?_) #[true, true, true, true, false, false, false, false, false, false, false] rfl rfl (by kernel_rfl) (fun _ _ _ h => h) (Or.inl ⟨by rfl, ?_⟩) ?_ ?_
      rotate_left
      · intro w'
        go_simp
        with_reducible rfl
      rotate_left
      · simp only [Act.put, List.setIfInBounds_toArray, List.set_cons_zero, List.set_cons_succ, i64_w, i32_w]
        rfl
      refine take_ (i := 4) (N := some 19) (v := ?_) (a' := ?_) #[true, true, true, true, true, false, false, false, false, false, false] rfl rfl (by kernel_rfl) (fun _ _ _ h => h) (Or.inl ⟨by rfl, ?_⟩) hHeld ?_ ?_
      rotate_left
      · rintro w' s0
        have q0 := pw_cell_below s0 a0; have q1 := pw_cell_below s0 a1; have q2 := pw_cell_below s0 a2; have q3 := pw_cell_below s0 a3; have q4 := pw_cell_below s0 a4
        go_simp
        with_reducible rfl
      rotate_left
      · simp only [Act.put, List.setIfInBounds_toArray, List.set_cons_zero, List.set_cons_succ, i64_w, i32_w]
        rfl
      refine pure_ (i := 5) (N := some 20) (v := ?_) (a' := ?_) #[true, true, true, true, true, true, false, false, false, false, false] rfl rfl (by kernel_rfl) (fun _ _ _ h => h) (Or.inl ⟨by rfl, ?_⟩) ?_ ?_
      rotate_left
      · intro w'
        go_simp
        with_reducible rfl
      rotate_left
      · simp only [Act.put, List.setIfInBounds_toArray, List.set_cons_zero, List.set_cons_succ, i64_w, i32_w]
        rfl
      refine take_ (i := 6) (N := some 21) (v := ?_) (a' := ?_) #[true, true, true, true, true, true, true, false, false, false, false] rfl rfl (by kernel_rfl) (fun _ _ _ h => h) (Or.inl ⟨by rfl, ?_⟩) hHeld ?_ ?_
      rotate_left
      · rintro w' s0
        have q0 := pw_cell_below s0 x0; have q1 := pw_cell_below s0 x1
        go_simp
        with_reducible rfl
      rotate_left
      · simp only [Act.put, List.setIfInBounds_toArray, List.set_cons_zero, List.set_cons_succ, i64_w, i32_w]
        rfl
      refine pure_ (i := 7) (N := some 22) (v := ?_) (a' := ?_) #[true, true, true, true, true, true, true, true, false, false, false] rfl rfl (by kernel_rfl) (fun _ _ _ h => h) (Or.inl ⟨by rfl, ?_⟩) ?_ ?_
      rotate_left
      · intro w'
        go_simp
        with_reducible rfl
      rotate_left
      · simp only [Act.put, List.setIfInBounds_toArray, List.set_cons_zero, List.set_cons_succ, i64_w, i32_w]
        rfl
      refine pure_ (i := 8) (N := some 23) (v := ?_) (a' := ?_) #[true, true, true, true, true, true, true, true, true, false, false] rfl rfl (by kernel_rfl) (fun _ _ _ h => h) (Or.inl ⟨by rfl, ?_⟩) ?_ ?_
      rotate_left
      · intro w'
        go_simp
        with_reducible rfl
      rotate_left
      · simp only [Act.put, List.setIfInBounds_toArray, List.set_cons_zero, List.set_cons_succ, i64_w, i32_w]
        rfl
      refine take_ (i := 9) (N := some 24) (v := ?_) (a' := ?_) #[true, true, true, true, true, true, true, true, true, true, false] rfl rfl (by kernel_rfl) (fun _ _ _ h => h) (Or.inl ⟨by rfl, ?_⟩) hHeld ?_ ?_
      rotate_left
      · rintro w' s0
        have q0 := pw_cell_below s0 b0; have q1 := pw_cell_below s0 b1; have q2 := pw_cell_below s0 b2; have q3 := pw_cell_below s0 b3; have q4 := pw_cell_below s0 b4
        go_simp
        with_reducible rfl
      rotate_left
      · simp only [Act.put, List.setIfInBounds_toArray, List.set_cons_zero, List.set_cons_succ, i64_w, i32_w]
        rfl
      refine last_ (i := 10) (N := some 25) #[true, true, true, true, true, true, true, true, true, true, true] rfl rfl (by kernel_rfl) (by decide) (fun K hK => ?_)
      refine goes_ Try.func33 (by kernel_rfl) rfl #[.agg #[.int .i64 xi.f0, .int .i64 xi.f1, .int .i64 xi.f2, .int .i64 xi.f3, .bool xi.f4], .agg #[.int .i64 wa.f0, .int .i64 wa.f1, .int .i64 wa.f2, .int .i64 wa.f3, .bool wa.f4]] (by rfl) rfl rfl (by (try simp only [List.map_toArray, List.map_cons, List.map_nil]); first | done | rfl) ?_
      refine (conflictR_calls xi wa _).mono ?_
      rintro e wc ⟨rfl, hb⟩
      refine ⟨_, rfl, ?_⟩
      have hbb := below_step hHeld hb
      have U := Aside0.mk (blk_below U.out hbb)
      have RO := Aside0.mk (Kd.R_below RO.out hbb)
      have HB := Aside0.mk (below_step HB.out hbb)
      have a1 := pw_cell_below hbb a1
      clear hb hbb
      refine hK.out _ _ ?_
      clear hK K
      refine norm_ (a' := ?_) ?_ ?_
      rotate_left
      · show Act.put _ (some 25) _ = _
        simp only [Act.put, List.setIfInBounds_toArray, List.set_cons_zero, List.set_cons_succ, i64_w, i32_w]
        rfl
      refine done_ (by kernel_rfl) ?_
      clear hHeld a0 a2 a3 a4 b0 b1 b2 b3 b4 x0 x1
      cases hcf : cfL xi wa with
      | false =>
        rw [hcf, if_neg (by simp), List.append_nil] at HFT
        clear hcf
        go_wp2
        clear a1
        go_roundg (H.length - (i + 1))
        case measure => have := HI.out; omega
        case rel => exact ⟨i + 1, _, by go_num, rfl, ⟨by omega⟩, ⟨by rw [HFT.out]; exact RO.out⟩, HB⟩
      | true =>
        rw [hcf, if_pos rfl] at HFT
        clear hcf
        have x0 := (blk_cell U.out 0).trans rfl; have x1 := (blk_cell U.out 1).trans rfl
        have HOL := Aside0.mk (show (((H.take i).filter (fun x => cfL x wa)).map hdL).length ≤ 2000 by have h9 := List.length_filter_le (fun x => cfL x wa) (H.take i); have h8 := List.length_filter_le (fun x => cfL x wa) H; simp only [List.length_append, List.length_map, List.length_take] at h9 ⊢; omega)
        obtain ⟨OO, hOO⟩ : ∃ OO, OO = ((H.take i).filter (fun x => cfL x wa)).map hdL := ⟨_, rfl⟩
        have HON := Aside0.mk (show OO ++ [xi.f1] = ((H.take (i + 1)).filter (fun x => cfL x wa)).map hdL by rw [HFT.out, hOO]; simp [hdL])
        rw [← hOO] at RO HOL
        clear hOO
        go_wp2_with ((with_reducible refine gate_builtin (b := .append) (xs := #[.tmp 26, .tmp 33]) rfl ?_); at_builtin; refine Kd.R_append kI (w0 := _) V.heap.size rfl (.tmp 26) (.tmp 33) 31 3 (.int .i64 0) 8 rfl Try.underlying31 info3 rfl (by decide) (by omega) v (OO) (xi.f1) [.int .i64 (xi.f1)] (fun _ => True) (fun _ => False) rfl rfl rfl (fun _ hk => hk.elim) (fun _ _ => trivial) (RO.out) (HB.out) (HB.out.size) (by have := HOL.out; omega) ?_; intro v2 w2 ho hb hg hat; rw [HON.out] at ho; have RK2 := Aside0.mk ho; have HB2 := Aside0.mk hb; clear ho hb hg hat x0 x1 a1 U)
        go_roundg (H.length - (i + 1))
        case measure => have := HI.out; omega
        case rel => exact ⟨i + 1, v2, by go_num, rfl, ⟨by omega⟩, RK2, HB2⟩
    · have g2 : decide (i < H.length) = false := by simpa using hit
      have g2' : decide ((i : Int) < (H.length : Int)) = false := by simpa using hit
      have hte : H.take i = H := List.take_of_length_le (by omega)
      rw [hte] at RO
      clear hte
      go_wp2
      clear x0 x1 U g2 g2' hit HI
      go_loopg [5, 7] a (fun kq v5 v6 w' => ∃ (i : Nat) (v : Value), v6 = .int .i64 i ∧ v = v5 ∧ Aside0 (kq + i = a) ∧ Aside0 (kI.R 3 w' V.heap.size (fun _ => True) v ((H.filter (fun x => cfL x wa)).map hdL ++ ((W.take i).filter (fun x => cfL x wa)).map hdL)) ∧ Aside0 (Below V.heap.size V w'))
      case atStart => exact ⟨0, _, rfl, rfl, ⟨rfl⟩, ⟨by simpa using RO.out⟩, HB⟩
      case round =>
        obtain ⟨i, v, rfl, rfl, HI, RO, HB⟩ := hrel
        have U := Aside0.mk (blk_below V0.out HB.out)
        have x0 := (blk_cell U.out 0).trans rfl; have x1 := (blk_cell U.out 1).trans rfl
        by_cases hit : i < a
        · have g2 : decide (i < a) = true := by simpa using hit
          have g2' : decide ((i : Int) < (a : Int)) = true := by simpa using hit
          have hil : i < W.length := by omega
          have hic : i < d := by omega
          have had : a < d := by omega
          go_upto_region 10 with (fail)
          obtain ⟨ae, hae, a0, a1, a2, a3, a4⟩ := at_T24 (Kd.C_below HC2.out (below_step HB_V.out HB.out)) (i : Int) (by omega) (by omega)
          obtain ⟨be, hbe, b0, b1, b2, b3, b4⟩ := at_T24 (Kd.C_below HC2.out (below_step HB_V.out HB.out)) (a : Int) (by omega) (by omega)
          cases hae
          cases hbe
          simp only [Int.toNat_natCast] at a0 a1 a2 a3 a4 b0 b1 b2 b3 b4
          rw [← HWA.out] at b0 b1 b2 b3 b4
          have HFT := Aside0.mk (filt_take (wa := wa) hil)
          obtain ⟨xi, hxi⟩ : ∃ xi, xi = rd_T24 W (i : Int) := ⟨_, rfl⟩
          rw [← hxi] at a0 a1 a2 a3 a4 HFT
          clear hxi
          refine start_ (n := 11) (S := fun w' => Below wr.heap.size wr w') (ds := [10]) #[false, false, false, false, false, false, false, false, false, false, false] (by kernel_rfl) rfl rfl (below_drew1 (Below.refl wr.heap.size wr)) (fun hHeld => ?_)
          generalize wr.drew = wd at hHeld ⊢
          refine pure_ (i := 0) (N := some 40) (v := ?_) (a' := ?_) #[true, false, false, false, false, false, false, false, false, false, false] rfl rfl (by kernel_rfl) (fun _ _ _ h => h) (Or.inl ⟨by rfl, ?_⟩) ?_ ?_
          rotate_left
          · intro w'
            go_simp
            with_reducible rfl
          rotate_left
          · simp only [Act.put, List.setIfInBounds_toArray, List.set_cons_zero, List.set_cons_succ, i64_w, i32_w]
            rfl
          refine take_ (i := 1) (N := some 41) (v := ?_) (a' := ?_) #[true, true, false, false, false, false, false, false, false, false, false] rfl rfl (by kernel_rfl) (fun _ _ _ h => h) (Or.inl ⟨by rfl, ?_⟩) hHeld ?_ ?_
          rotate_left
          · rintro w' s0
            have q0 := pw_cell_below s0 x0; have q1 := pw_cell_below s0 x1
            go_simp
            with_reducible rfl
          rotate_left
          · simp only [Act.put, List.setIfInBounds_toArray, List.set_cons_zero, List.set_cons_succ, i64_w, i32_w]
            rfl
          refine pure_ (i := 2) (N := some 42) (v := ?_) (a' := ?_) #[true, true, true, false, false, false, false, false, false, false, false] rfl rfl (by kernel_rfl) (fun _ _ _ h => h) (Or.inl ⟨by rfl, ?_⟩) ?_ ?_
          rotate_left
          · intro w'
            go_simp
            with_reducible rfl
          rotate_left
          · simp only [Act.put, List.setIfInBounds_toArray, List.set_cons_zero, List.set_cons_succ, i64_w, i32_w]
            rfl
          refine pure_ (i := 3) (N := some 43) (v := ?_) (a' := ?_) #[true, true, true, true, false, false, false, false, false, false, false] rfl rfl (by kernel_rfl) (fun _ _ _ h => h) (Or.inl ⟨by rfl, ?_⟩) ?_ ?_
          rotate_left
          · intro w'
            go_simp
            with_reducible rfl
          rotate_left
          · simp only [Act.put, List.setIfInBounds_toArray, List.set_cons_zero, List.set_cons_succ, i64_w, i32_w]
            rfl
          refine take_ (i := 4) (N := some 44) (v := ?_) (a' := ?_) #[true, true, true, true, true, false, false, false, false, false, false] rfl rfl (by kernel_rfl) (fun _ _ _ h => h) (Or.inl ⟨by rfl, ?_⟩) hHeld ?_ ?_
          rotate_left
          · rintro w' s0
            have q0 := pw_cell_below s0 a0; have q1 := pw_cell_below s0 a1; have q2 := pw_cell_below s0 a2; have q3 := pw_cell_below s0 a3; have q4 := pw_cell_below s0 a4
            go_simp
            with_reducible rfl
          rotate_left
          · simp only [Act.put, List.setIfInBounds_toArray, List.set_cons_zero, List.set_cons_succ, i64_w, i32_w]
            rfl
          refine pure_ (i := 5) (N := some 45) (v := ?_) (a' := ?_) #[true, true, true, true, true, true, false, false, false, false, false] rfl rfl (by kernel_rfl) (fun _ _ _ h => h) (Or.inl ⟨by rfl, ?_⟩) ?_ ?_
          rotate_left
          · intro w'
            go_simp
            with_reducible rfl
          rotate_left
          · simp only [Act.put, List.setIfInBounds_toArray, List.set_cons_zero, List.set_cons_succ, i64_w, i32_w]
            rfl
          refine take_ (i := 6) (N := some 46) (v := ?_) (a' := ?_) #[true, true, true, true, true, true, true, false, false, false, false] rfl rfl (by kernel_rfl) (fun _ _ _ h => h) (Or.inl ⟨by rfl, ?_⟩) hHeld ?_ ?_
          rotate_left
          · rintro w' s0
            have q0 := pw_cell_below s0 x0; have q1 := pw_cell_below s0 x1
            go_simp
            with_reducible rfl
          rotate_left
          · simp only [Act.put, List.setIfInBounds_toArray, List.set_cons_zero, List.set_cons_succ, i64_w, i32_w]
            rfl
          refine pure_ (i := 7) (N := some 47) (v := ?_) (a' := ?_) #[true, true, true, true, true, true, true, true, false, false, false] rfl rfl (by kernel_rfl) (fun _ _ _ h => h) (Or.inl ⟨by rfl, ?_⟩) ?_ ?_
          rotate_left
          · intro w'
            go_simp
            with_reducible rfl
          rotate_left
          · simp only [Act.put, List.setIfInBounds_toArray, List.set_cons_zero, List.set_cons_succ, i64_w, i32_w]
            rfl
          refine pure_ (i := 8) (N := some 48) (v := ?_) (a' := ?_) #[true, true, true, true, true, true, true, true, true, false, false] rfl rfl (by kernel_rfl) (fun _ _ _ h => h) (Or.inl ⟨by rfl, ?_⟩) ?_ ?_
          rotate_left
          · intro w'
            go_simp
            with_reducible rfl
          rotate_left
          · simp only [Act.put, List.setIfInBounds_toArray, List.set_cons_zero, List.set_cons_succ, i64_w, i32_w]
            rfl
          refine take_ (i := 9) (N := some 49) (v := ?_) (a' := ?_) #[true, true, true, true, true, true, true, true, true, true, false] rfl rfl (by kernel_rfl) (fun _ _ _ h => h) (Or.inl ⟨by rfl, ?_⟩) hHeld ?_ ?_
          rotate_left
          · rintro w' s0
            have q0 := pw_cell_below s0 b0; have q1 := pw_cell_below s0 b1; have q2 := pw_cell_below s0 b2; have q3 := pw_cell_below s0 b3; have q4 := pw_cell_below s0 b4
            go_simp
            with_reducible rfl
          rotate_left
          · simp only [Act.put, List.setIfInBounds_toArray, List.set_cons_zero, List.set_cons_succ, i64_w, i32_w]
            rfl
          refine last_ (i := 10) (N := some 50) #[true, true, true, true, true, true, true, true, true, true, true] rfl rfl (by kernel_rfl) (by decide) (fun K hK => ?_)
          refine goes_ Try.func33 (by kernel_rfl) rfl #[.agg #[.int .i64 xi.f0, .int .i64 xi.f1, .int .i64 xi.f2, .int .i64 xi.f3, .bool xi.f4], .agg #[.int .i64 wa.f0, .int .i64 wa.f1, .int .i64 wa.f2, .int .i64 wa.f3, .bool wa.f4]] (by rfl) rfl rfl (by (try simp only [List.map_toArray, List.map_cons, List.map_nil]); first | done | rfl) ?_
          refine (conflictR_calls xi wa _).mono ?_
          rintro e wc ⟨rfl, hb⟩
          refine ⟨_, rfl, ?_⟩
          have hbb := below_step hHeld hb
          have U := Aside0.mk (blk_below U.out hbb)
          have RO := Aside0.mk (Kd.R_below RO.out hbb)
          have HB := Aside0.mk (below_step HB.out hbb)
          have a1 := pw_cell_below hbb a1
          clear hb hbb
          refine hK.out _ _ ?_
          clear hK K
          refine norm_ (a' := ?_) ?_ ?_
          rotate_left
          · show Act.put _ (some 50) _ = _
            simp only [Act.put, List.setIfInBounds_toArray, List.set_cons_zero, List.set_cons_succ, i64_w, i32_w]
            rfl
          refine done_ (by kernel_rfl) ?_
          clear hHeld a0 a2 a3 a4 b0 b1 b2 b3 b4 x0 x1
          cases hcf : cfL xi wa with
          | false =>
            rw [hcf, if_neg (by simp), List.append_nil] at HFT
            clear hcf
            go_wp2
            clear a1
            go_roundg (a - (i + 1))
            case measure => have := HI.out; omega
            case rel => exact ⟨i + 1, _, by go_num, rfl, ⟨by omega⟩, ⟨by rw [HFT.out]; exact RO.out⟩, HB⟩
          | true =>
            rw [hcf, if_pos rfl] at HFT
            clear hcf
            have x0 := (blk_cell U.out 0).trans rfl; have x1 := (blk_cell U.out 1).trans rfl
            have HOL := Aside0.mk (show ((H.filter (fun x => cfL x wa)).map hdL ++ ((W.take i).filter (fun x => cfL x wa)).map hdL).length ≤ 2000 by have h9 := List.length_filter_le (fun x => cfL x wa) (W.take i); have h8 := List.length_filter_le (fun x => cfL x wa) H; simp only [List.length_append, List.length_map, List.length_take] at h9 ⊢; omega)
            obtain ⟨OO, hOO⟩ : ∃ OO, OO = (H.filter (fun x => cfL x wa)).map hdL ++ ((W.take i).filter (fun x => cfL x wa)).map hdL := ⟨_, rfl⟩
            have HON := Aside0.mk (show OO ++ [xi.f1] = (H.filter (fun x => cfL x wa)).map hdL ++ ((W.take (i + 1)).filter (fun x => cfL x wa)).map hdL by rw [HFT.out, hOO]; simp [hdL])
            rw [← hOO] at RO HOL
            clear hOO
            go_wp2_with ((with_reducible refine gate_builtin (b := .append) (xs := #[.tmp 51, .tmp 58]) rfl ?_); at_builtin; refine Kd.R_append kI (w0 := _) V.heap.size rfl (.tmp 51) (.tmp 58) 31 3 (.int .i64 0) 8 rfl Try.underlying31 info3 rfl (by decide) (by omega) v (OO) (xi.f1) [.int .i64 (xi.f1)] (fun _ => True) (fun _ => False) rfl rfl rfl (fun _ hk => hk.elim) (fun _ _ => trivial) (RO.out) (HB.out) (HB.out.size) (by have := HOL.out; omega) ?_; intro v2 w2 ho hb hg hat; rw [HON.out] at ho; have RK2 := Aside0.mk ho; have HB2 := Aside0.mk hb; clear ho hb hg hat x0 x1 a1 U)
            go_roundg (a - (i + 1))
            case measure => have := HI.out; omega
            case rel => exact ⟨i + 1, v2, by go_num, rfl, ⟨by omega⟩, RK2, HB2⟩
        · have g2 : decide (i < a) = false := by simpa using hit
          have g2' : decide ((i : Int) < (a : Int)) = false := by simpa using hit
          obtain rfl : i = a := by have := HI.out; omega
          have RF := Aside0.mk (Kd.R_lower RO.out HB_V.out.size)
          have HB9 := Aside0.mk (below_step HB_V.out HB.out)
          go_wp2
          go_ret
          exact ⟨_, rfl, by rw [HBK.out, List.filter_append, List.map_append]; exact RF.out, HB9.out⟩
end Go.Proofs.Ytifnfnoicinbaaa.M
