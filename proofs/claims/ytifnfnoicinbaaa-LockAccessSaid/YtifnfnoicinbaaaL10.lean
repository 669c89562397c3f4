/- LockAccess: the walk, and why it holds. -/
import Derived.Test.YtifnfnoicinbaaaE2
namespace Go.Proofs.Ytifnfnoicinbaaa.M
open Go.RowKit Go.Proofs.YtifnfnoicinbaaaW.PrintWords Go.Proofs.YtifnfnoicinbaaaW.PrintLast Go.Proofs.YtifnfnoicinbaaaW.PrintMore
set_option linter.unusedVariables false
set_option linter.unusedSimpArgs false
set_option linter.unnecessarySimpa false

theorem vL_parts {x : S24} (h : vL x = true) : 0 ≤ x.f0 ∧ x.f0 ≤ 1073741824 ∧ 1 ≤ x.f1 ∧ x.f1 ≤ 1073741824 ∧ 0 ≤ x.f2 ∧ x.f2 ≤ 1099511627776 ∧ 1 ≤ x.f3 ∧ x.f3 ≤ 1099511627776 - x.f2 := by
  unfold vL at h
  simp only [Bool.and_eq_true, decide_eq_true_eq] at h
  obtain ⟨⟨⟨⟨⟨⟨⟨h1, h2⟩, h3⟩, h4⟩, h5⟩, h6⟩, h7⟩, h8⟩ := h
  have e : wrap64 (1099511627776 - x.f2) = 1099511627776 - x.f2 := by unfold wrap64; omega
  rw [e] at h8
  exact ⟨h1, h2, h3, h4, h5, h6, h7, h8⟩
theorem mt_of {x a : S24} (hx : vL x = true) (ha : vL a = true) : mtL x a = (decide (x.f0 = a.f0) && !decide (x.f1 = a.f1) && (x.f4 || a.f4) && decide (x.f2 < a.f2 + a.f3) && decide (a.f2 < x.f2 + x.f3)) := by
  obtain ⟨_, _, _, _, h5, h6, h7, h8⟩ := vL_parts hx
  obtain ⟨_, _, _, _, g5, g6, g7, g8⟩ := vL_parts ha
  have e1 : wrap64 (a.f2 + a.f3) = a.f2 + a.f3 := by unfold wrap64; omega
  have e2 : wrap64 (x.f2 + x.f3) = x.f2 + x.f3 := by unfold wrap64; omega
  unfold mtL
  rw [e1, e2]
theorem excl_of {x a : S24} {t : Int} (hx : vL x = true) (ha : vL a = true) (hm : mtL x a = false) (e0 : x.f0 = a.f0) (e1 : ¬ x.f1 = a.f1) (h2 : x.f2 ≤ a.f2 + t) (h3 : a.f2 + t < x.f2 + x.f3) (ht0 : ¬ t < 0) (ht1 : ¬ a.f3 ≤ t) : a.f4 = false ∧ x.f4 = false := by
  rw [mt_of hx ha, decide_eq_true e0, decide_eq_false e1, decide_eq_true (show x.f2 < a.f2 + a.f3 by omega), decide_eq_true (show a.f2 < x.f2 + x.f3 by omega)] at hm
  cases h4 : x.f4 <;> cases g4 : a.f4
  · exact ⟨rfl, rfl⟩
  · rw [h4, g4] at hm; cases hm
  · rw [h4, g4] at hm; cases hm
  · rw [h4, g4] at hm; cases hm
theorem may_ok {H W : List S24} {a : S24} (hI : Inv H W) (ha : vL a = true) : mayF H W a = if H.any (fun x => mtL x a) then 15 else 0 := by
  unfold mayF
  have hb : begE H W (vL a) = 0 := by unfold begE; rw [Inv.iff.1 hI, ha]; rfl
  rw [if_pos hb]
set_option maxRecDepth 100000 in
set_option maxHeartbeats 8000000 in
theorem access_walk (A : Option Addr) (c : Nat) (l : List S37) (a : S24) (t : Int) (w : World) (hc : l.length ≤ c) (hC : k37.C w A l.length l) (hk : ∀ a ∈ l, 0 ≤ a.f0 ∧ a.f0 ≤ 255) (ht : -9223372036854775808 ≤ t ∧ t ≤ 9223372036854775807) :
    Calls Try.prog 10 #[.slice A l.length c, .agg #[.int .i64 a.f0, .int .i64 a.f1, .int .i64 a.f2, .int .i64 a.f3, .bool a.f4], .int .i64 t] w fun e w' => e = .returned (.bool true) ∧ Below w.heap.size w w' := by
  have HC := Aside0.mk hC
  have HKD := Aside0.mk hk
  clear hC hk
  go_enter Try.func10, Try.ntmps10
  go_upto_region 1 with (fail)
  have hb_ := below_alloc (Below.refl _ w) (.cells #[.int .i64 a.f0, .int .i64 a.f1, .int .i64 a.f2, .int .i64 a.f3, .bool a.f4] 24)
  have hG0_ := blk_lit0 w (.cells #[.int .i64 a.f0, .int .i64 a.f1, .int .i64 a.f2, .int .i64 a.f3, .bool a.f4] 24)
  generalize (w.alloc (.cells #[.int .i64 a.f0, .int .i64 a.f1, .int .i64 a.f2, .int .i64 a.f3, .bool a.f4] 24)) = W at hb_ hG0_ ⊢
  have HB_W := Aside0.mk hb_
  have W0 := Aside0.mk hG0_
  clear hb_ hG0_
  have y0 := (blk_cell W0.out 0).trans rfl; have y1 := (blk_cell W0.out 1).trans rfl; have y2 := (blk_cell W0.out 2).trans rfl; have y3 := (blk_cell W0.out 3).trans rfl; have y4 := (blk_cell W0.out 4).trans rfl
  by_cases hl : 40 < l.length
  · have h40 : decide ((40 : Int) < (l.length : Int)) = true := by simp; omega
    go_wp2_with (fail)
    refine (sane_calls _).mono ?_
    rintro e w9 ⟨rfl, hb9⟩
    have HB9 := Aside0.mk (below_step HB_W.out hb9)
    clear hb9
    go_wp2
    go_ret
    exact ⟨rfl, HB9.out⟩
  have h40 : decide ((40 : Int) < (l.length : Int)) = false := by simp; omega
  go_wp2_with (fail)
  refine (valid_calls a _).mono ?_
  rintro e w2 ⟨rfl, hb⟩
  have Y := Aside0.mk (blk_below W0.out hb)
  have B := Aside0.mk (below_step HB_W.out hb)
  clear hb y0 y1 y2 y3 y4 W0
  have y0 := (blk_cell Y.out 0).trans rfl; have y1 := (blk_cell Y.out 1).trans rfl; have y2 := (blk_cell Y.out 2).trans rfl; have y3 := (blk_cell Y.out 3).trans rfl; have y4 := (blk_cell Y.out 4).trans rfl
  cases hv : vL a with
  | false =>
    clear hv
    go_wp2_with (fail)
    refine (sane_calls _).mono ?_
    rintro e w9 ⟨rfl, hb9⟩
    have HB9 := Aside0.mk (below_step B.out hb9)
    clear hb9
    go_wp2
    go_ret
    exact ⟨rfl, HB9.out⟩
  | true =>
    obtain ⟨a0, a1, a2, a3, a4, a5, a6, a7⟩ := vL_parts hv
    have HVA := Aside0.mk hv
    clear hv
    by_cases ht0 : t < 0
    · have hd0 : decide (t < 0) = true := by simpa using ht0
      go_wp2_with (fail)
      refine (sane_calls _).mono ?_
      rintro e w9 ⟨rfl, hb9⟩
      have HB9 := Aside0.mk (below_step B.out hb9)
      clear hb9
      go_wp2
      go_ret
      exact ⟨rfl, HB9.out⟩
    have hd0 : decide (t < 0) = false := by simpa using ht0
    by_cases ht1 : a.f3 ≤ t
    · have hd1 : decide (a.f3 ≤ t) = true := by simpa using ht1
      go_wp2_with (fail)
      refine (sane_calls _).mono ?_
      rintro e w9 ⟨rfl, hb9⟩
      have HB9 := Aside0.mk (below_step B.out hb9)
      clear hb9
      go_wp2
      go_ret
      exact ⟨rfl, HB9.out⟩
    have hd1 : decide (a.f3 ≤ t) = false := by simpa using ht1
    have HT0 := Aside0.mk ht0
    have HT1 := Aside0.mk ht1
    have hta : 0 ≤ t := by omega
    have htb : t ≤ 1099511627776 := by omega
    clear ht0 ht1 a0 a1 a2 a3 a6 a7 ht
    go_wp2_with (fail)
    refine (played_calls A c l _ (Kd.C_below HC.out B.out) HKD.out (by omega)).mono ?_
    rintro e w3 ⟨v, rfl, hv, hb⟩
    obtain ⟨vH, vW, rfl, hvH, hvW⟩ := hv
    obtain ⟨A1, c1, rfl⟩ := Kd.R_slice hvH
    obtain ⟨A2, c2, rfl⟩ := Kd.R_slice hvW
    have RH := Aside0.mk hvH
    have RW := Aside0.mk hvW
    have Y := Aside0.mk (blk_below Y.out hb)
    have B := Aside0.mk (below_step B.out hb)
    have HIN := Aside0.mk (play_inv l)
    have HPL := Aside0.mk (play_len l)
    have hpl : (playF l).1.length ≤ 1000 := by have := HPL.out; omega
    clear hb hvH hvW y0 y1 y2 y3 y4
    go_upto_region 4 with (fail)
    have hbx := below_alloc (Below.refl _ w3) (.cells #[.slice A1 (playF l).1.length c1, .slice A2 (playF l).2.length c2] 29)
    have T := Aside0.mk (blk_new w3 (.cells #[.slice A1 (playF l).1.length c1, .slice A2 (playF l).2.length c2] 29))
    have RH := Aside0.mk (Kd.R_below RH.out hbx)
    have RW := Aside0.mk (Kd.R_below RW.out hbx)
    have Y := Aside0.mk (blk_below Y.out hbx)
    have B := Aside0.mk (below_step B.out hbx)
    clear hbx
    generalize w3.alloc (.cells #[.slice A1 (playF l).1.length c1, .slice A2 (playF l).2.length c2] 29) = w4 at T RH RW Y B ⊢
    generalize w3.heap.size = b7 at T ⊢
    have y0 := (blk_cell Y.out 0).trans rfl; have y1 := (blk_cell Y.out 1).trans rfl; have y2 := (blk_cell Y.out 2).trans rfl; have y3 := (blk_cell Y.out 3).trans rfl; have y4 := (blk_cell Y.out 4).trans rfl
    have x0 := (blk_cell T.out 0).trans rfl; have x1 := (blk_cell T.out 1).trans rfl
    have HME := Aside0.mk (may_ok HIN.out HVA.out)
    go_upto_region 5 with (fail)
    refine (may_calls A1 A2 c1 c2 _ _ a _ (Kd.R_reads' RH.out).2.2 (Kd.R_reads' RW.out).2.2 HPL.out).mono ?_
    rintro e w5 ⟨rfl, hb⟩
    have T := Aside0.mk (blk_below T.out hb)
    have RH := Aside0.mk (Kd.R_below RH.out hb)
    have RW := Aside0.mk (Kd.R_below RW.out hb)
    have Y := Aside0.mk (blk_below Y.out hb)
    have B := Aside0.mk (below_step B.out hb)
    clear hb x0 x1 y0 y1 y2 y3 y4
    go_upto_region 5 with (fail)
    have y0 := (blk_cell Y.out 0).trans rfl; have y1 := (blk_cell Y.out 1).trans rfl; have y2 := (blk_cell Y.out 2).trans rfl; have y3 := (blk_cell Y.out 3).trans rfl; have y4 := (blk_cell Y.out 4).trans rfl
    have x0 := (blk_cell T.out 0).trans rfl; have x1 := (blk_cell T.out 1).trans rfl
    go_upto_region 6 with (fail)
    refine (tryL_calls A1 A2 c1 c2 _ _ a _ (Kd.R_reads' RH.out).2.2 (Kd.R_reads' RW.out).2.2 HPL.out).mono ?_
    rintro e w6 hp
    obtain ⟨v, rfl, ⟨vH, vW, rfl, hvH, hvW⟩, hb⟩ := hp
    obtain ⟨A3, c3, rfl⟩ := Kd.R_slice hvH
    obtain ⟨A4, c4, rfl⟩ := Kd.R_slice hvW
    have T := Aside0.mk (blk_below T.out hb)
    have CH := Aside0.mk (Kd.C_below (Kd.R_reads' RH.out).2.2 hb)
    have HCP := Aside0.mk (Kd.R_reads' RH.out).2.1
    have Y := Aside0.mk (blk_below Y.out hb)
    have B := Aside0.mk (below_step B.out hb)
    clear hb hvH hvW x0 x1 y0 y1 y2 y3 y4 RH RW
    go_upto_region 6 with (fail)
    have hbx := below_alloc (Below.refl _ w6) (.cells #[.slice A3 (tryF (playF l).1 (playF l).2 a).1.1.length c3, .slice A4 (tryF (playF l).1 (playF l).2 a).1.2.length c4] 29)
    have T := Aside0.mk (blk_below T.out hbx)
    have CH := Aside0.mk (Kd.C_below CH.out hbx)
    have Y := Aside0.mk (blk_below Y.out hbx)
    have B := Aside0.mk (below_step B.out hbx)
    clear hbx
    generalize w6.alloc (.cells #[.slice A3 (tryF (playF l).1 (playF l).2 a).1.1.length c3, .slice A4 (tryF (playF l).1 (playF l).2 a).1.2.length c4] 29) = w5 at T CH Y B ⊢
    have HTO := Aside0.mk (fun h => (try_ok (H := (playF l).1) (W := (playF l).2) (l := a) h).2.1)
    generalize (tryF (playF l).1 (playF l).2 a).2 = F at HTO ⊢
    cases ha : (playF l).1.any (fun x => mtL x a) with
    | true =>
      have hF : (F == 0) = false := by
        cases hq : (F == 0) with
        | false => rfl
        | true =>
          exfalso
          obtain ⟨x, hx, hm⟩ := List.any_eq_true.1 ha
          rw [HTO.out (by simpa using hq) x hx] at hm
          cases hm
      rw [HME.out, ha, if_pos rfl]
      clear ha
      have x0 := (blk_cell T.out 0).trans rfl; have x1 := (blk_cell T.out 1).trans rfl
      go_wp2
      clear x0 x1
      go_loopg [11] (playF l).1.length (fun kq v11 w' => ∃ j : Nat, v11 = .int .i64 j ∧ Aside0 (kq + j = (playF l).1.length) ∧ Aside0 (Below w5.heap.size w5 w'))
      case atStart => exact ⟨0, rfl, ⟨rfl⟩, ⟨Below.refl _ _⟩⟩
      case round =>
        obtain ⟨j, rfl, HJ, HB⟩ := hrel
        have T := Aside0.mk (blk_below T.out HB.out)
        have Y := Aside0.mk (blk_below Y.out HB.out)
        have hlt5 := blk_lt T.out
        have hly := blk_lt Y.out
        have t0 := (blk_cell T.out 0).trans rfl; have t1 := (blk_cell T.out 1).trans rfl
        have y0 := (blk_cell Y.out 0).trans rfl; have y1 := (blk_cell Y.out 1).trans rfl; have y2 := (blk_cell Y.out 2).trans rfl; have y3 := (blk_cell Y.out 3).trans rfl; have y4 := (blk_cell Y.out 4).trans rfl
        by_cases hlt : j < (playF l).1.length
        · have h1 : decide (j < (playF l).1.length) = true := by simpa using hlt
          have h1' : decide ((j : Int) < ((playF l).1.length : Int)) = true := by simpa using hlt
          have hcap : j ≤ c1 := by have := HCP.out; omega
          obtain ⟨ad, had, x0, x1, x2, x3, x4⟩ := at_T24 (Kd.C_below CH.out HB.out) (j : Int) (by omega) (by omega)
          simp only [Int.toNat_natCast] at x0 x1 x2 x3 x4
          have hvx : vL (rd_T24 (playF l).1 (j : Int)) = true := HIN.out.allH _ (by rw [rd_at hlt]; exact List.getElem_mem hlt)
          obtain ⟨b0, b1, b2, b3, b4, b5, b6, b7⟩ := vL_parts hvx
          have b8 : (rd_T24 (playF l).1 (j : Int)).f3 ≤ 1099511627776 := by omega
          have HVX := Aside0.mk hvx
          clear b0 b1 b2 b3 b7 hvx
          have hmx := Aside0.mk (show rd_T24 (playF l).1 (j : Int) ∈ (playF l).1 by rw [rd_at hlt]; exact List.getElem_mem hlt)
          cases had
          generalize rd_T24 (playF l).1 (j : Int) = x at x0 x1 x2 x3 x4 b4 b5 b6 b8 HVX hmx ⊢
          have HBA := Aside0.mk (below_step HB.out (below_alloc (Below.refl _ wr) (.cells #[.int .i64 x.f0, .int .i64 x.f1, .int .i64 x.f2, .int .i64 x.f3, .bool x.f4] 24)))
          by_cases hk1 : (x.f0 == a.f0) = true
          rotate_left
          · replace hk1 : (x.f0 == a.f0) = false := by simpa using hk1
            go_wp2
            go_roundg ((playF l).1.length - (j + 1))
            case measure => have := HJ.out; omega
            case rel => exact ⟨j + 1, by go_num, ⟨by omega⟩, HBA⟩
          by_cases hk2 : x.f2 ≤ a.f2 + t
          rotate_left
          · have hd2 : decide (x.f2 ≤ a.f2 + t) = false := by simpa using hk2
            clear hk2
            go_wp2
            go_roundg ((playF l).1.length - (j + 1))
            case measure => have := HJ.out; omega
            case rel => exact ⟨j + 1, by go_num, ⟨by omega⟩, HBA⟩
          by_cases hk3 : a.f2 + t < x.f2 + x.f3
          rotate_left
          · have hd2 : decide (x.f2 ≤ a.f2 + t) = true := by simpa using hk2
            have hd3 : decide (a.f2 + t < x.f2 + x.f3) = false := by simpa using hk3
            clear hk2 hk3
            go_wp2
            go_roundg ((playF l).1.length - (j + 1))
            case measure => have := HJ.out; omega
            case rel => exact ⟨j + 1, by go_num, ⟨by omega⟩, HBA⟩
          have hd2 : decide (x.f2 ≤ a.f2 + t) = true := by simpa using hk2
          have hd3 : decide (a.f2 + t < x.f2 + x.f3) = true := by simpa using hk3
          clear hk2 hk3
          go_wp2
          go_roundg ((playF l).1.length - (j + 1))
          case measure => have := HJ.out; omega
          case rel => exact ⟨j + 1, by go_num, ⟨by omega⟩, HBA⟩
        · have h1 : decide (j < (playF l).1.length) = false := by simpa using hlt
          have h1' : decide ((j : Int) < ((playF l).1.length : Int)) = false := by simpa using hlt
          go_wp2_with (fail)
          refine (sane_calls _).mono ?_
          rintro e w9 ⟨rfl, hb9⟩
          have HB9 := Aside0.mk (below_step (below_step B.out HB.out) hb9)
          clear hb9
          go_wp2
          go_ret
          exact ⟨rfl, HB9.out⟩
    | false =>
      have hno : ∀ x ∈ (playF l).1, mtL x a = false := fun x hx => by
        cases hm : mtL x a with
        | false => rfl
        | true => rw [List.any_eq_true.2 ⟨x, hx, hm⟩] at ha; cases ha
      have HNO := Aside0.mk hno
      rw [HME.out, ha, if_neg (by simp)]
      clear ha hno
      cases hF : (F == 0) with
      | true =>
        have x0 := (blk_cell T.out 0).trans rfl; have x1 := (blk_cell T.out 1).trans rfl
        go_wp2
        clear x0 x1
        go_loopg [11] (playF l).1.length (fun kq v11 w' => ∃ j : Nat, v11 = .int .i64 j ∧ Aside0 (kq + j = (playF l).1.length) ∧ Aside0 (Below w5.heap.size w5 w'))
        case atStart => exact ⟨0, rfl, ⟨rfl⟩, ⟨Below.refl _ _⟩⟩
        case round =>
          obtain ⟨j, rfl, HJ, HB⟩ := hrel
          have T := Aside0.mk (blk_below T.out HB.out)
          have Y := Aside0.mk (blk_below Y.out HB.out)
          have hlt5 := blk_lt T.out
          have hly := blk_lt Y.out
          have t0 := (blk_cell T.out 0).trans rfl; have t1 := (blk_cell T.out 1).trans rfl
          have y0 := (blk_cell Y.out 0).trans rfl; have y1 := (blk_cell Y.out 1).trans rfl; have y2 := (blk_cell Y.out 2).trans rfl; have y3 := (blk_cell Y.out 3).trans rfl; have y4 := (blk_cell Y.out 4).trans rfl
          by_cases hlt : j < (playF l).1.length
          · have h1 : decide (j < (playF l).1.length) = true := by simpa using hlt
            have h1' : decide ((j : Int) < ((playF l).1.length : Int)) = true := by simpa using hlt
            have hcap : j ≤ c1 := by have := HCP.out; omega
            obtain ⟨ad, had, x0, x1, x2, x3, x4⟩ := at_T24 (Kd.C_below CH.out HB.out) (j : Int) (by omega) (by omega)
            simp only [Int.toNat_natCast] at x0 x1 x2 x3 x4
            have hvx : vL (rd_T24 (playF l).1 (j : Int)) = true := HIN.out.allH _ (by rw [rd_at hlt]; exact List.getElem_mem hlt)
            obtain ⟨b0, b1, b2, b3, b4, b5, b6, b7⟩ := vL_parts hvx
            have b8 : (rd_T24 (playF l).1 (j : Int)).f3 ≤ 1099511627776 := by omega
            have HVX := Aside0.mk hvx
            clear b0 b1 b2 b3 b7 hvx
            have hmx := Aside0.mk (show rd_T24 (playF l).1 (j : Int) ∈ (playF l).1 by rw [rd_at hlt]; exact List.getElem_mem hlt)
            cases had
            generalize rd_T24 (playF l).1 (j : Int) = x at x0 x1 x2 x3 x4 b4 b5 b6 b8 HVX hmx ⊢
            have HBA := Aside0.mk (below_step HB.out (below_alloc (Below.refl _ wr) (.cells #[.int .i64 x.f0, .int .i64 x.f1, .int .i64 x.f2, .int .i64 x.f3, .bool x.f4] 24)))
            by_cases hk1 : (x.f0 == a.f0) = true
            rotate_left
            · replace hk1 : (x.f0 == a.f0) = false := by simpa using hk1
              go_wp2
              go_roundg ((playF l).1.length - (j + 1))
              case measure => have := HJ.out; omega
              case rel => exact ⟨j + 1, by go_num, ⟨by omega⟩, HBA⟩
            by_cases hk2 : x.f2 ≤ a.f2 + t
            rotate_left
            · have hd2 : decide (x.f2 ≤ a.f2 + t) = false := by simpa using hk2
              clear hk2
              go_wp2
              go_roundg ((playF l).1.length - (j + 1))
              case measure => have := HJ.out; omega
              case rel => exact ⟨j + 1, by go_num, ⟨by omega⟩, HBA⟩
            by_cases hk3 : a.f2 + t < x.f2 + x.f3
            rotate_left
            · have hd2 : decide (x.f2 ≤ a.f2 + t) = true := by simpa using hk2
              have hd3 : decide (a.f2 + t < x.f2 + x.f3) = false := by simpa using hk3
              clear hk2 hk3
              go_wp2
              go_roundg ((playF l).1.length - (j + 1))
              case measure => have := HJ.out; omega
              case rel => exact ⟨j + 1, by go_num, ⟨by omega⟩, HBA⟩
            have hd2 : decide (x.f2 ≤ a.f2 + t) = true := by simpa using hk2
            have hd3 : decide (a.f2 + t < x.f2 + x.f3) = true := by simpa using hk3
            by_cases hk4 : (x.f1 == a.f1) = true
            · have hk5 : (x.f1 != a.f1) = false := by simpa [bne] using hk4
              clear hk2 hk3
              go_wp2
              go_roundg ((playF l).1.length - (j + 1))
              case measure => have := HJ.out; omega
              case rel => exact ⟨j + 1, by go_num, ⟨by omega⟩, HBA⟩
            · obtain ⟨ha4, hx4⟩ := excl_of HVX.out HVA.out (HNO.out x hmx.out) (by simpa using hk1) (by simpa using hk4) hk2 hk3 (by have := HT0.out; omega) (by have := HT1.out; omega)
              clear hk2 hk3
              have hk5 : (x.f1 != a.f1) = true := by simpa using hk4
              rw [hx4] at x4
              rw [ha4] at y4
              rw [hx4] at HBA
              go_wp2
              go_roundg ((playF l).1.length - (j + 1))
              case measure => have := HJ.out; omega
              case rel => exact ⟨j + 1, by go_num, ⟨by omega⟩, HBA⟩
          · have h1 : decide (j < (playF l).1.length) = false := by simpa using hlt
            have h1' : decide ((j : Int) < ((playF l).1.length : Int)) = false := by simpa using hlt
            go_wp2_with (fail)
            refine (sane_calls _).mono ?_
            rintro e w9 ⟨rfl, hb9⟩
            have HB9 := Aside0.mk (below_step (below_step B.out HB.out) hb9)
            clear hb9
            go_wp2
            go_ret
            exact ⟨rfl, HB9.out⟩
      | false =>
        have x0 := (blk_cell T.out 0).trans rfl; have x1 := (blk_cell T.out 1).trans rfl
        go_wp2
        clear x0 x1
        go_loopg [11] (playF l).1.length (fun kq v11 w' => ∃ j : Nat, v11 = .int .i64 j ∧ Aside0 (kq + j = (playF l).1.length) ∧ Aside0 (Below w5.heap.size w5 w'))
        case atStart => exact ⟨0, rfl, ⟨rfl⟩, ⟨Below.refl _ _⟩⟩
        case round =>
          obtain ⟨j, rfl, HJ, HB⟩ := hrel
          have T := Aside0.mk (blk_below T.out HB.out)
          have Y := Aside0.mk (blk_below Y.out HB.out)
          have hlt5 := blk_lt T.out
          have hly := blk_lt Y.out
          have t0 := (blk_cell T.out 0).trans rfl; have t1 := (blk_cell T.out 1).trans rfl
          have y0 := (blk_cell Y.out 0).trans rfl; have y1 := (blk_cell Y.out 1).trans rfl; have y2 := (blk_cell Y.out 2).trans rfl; have y3 := (blk_cell Y.out 3).trans rfl; have y4 := (blk_cell Y.out 4).trans rfl
          by_cases hlt : j < (playF l).1.length
          · have h1 : decide (j < (playF l).1.length) = true := by simpa using hlt
            have h1' : decide ((j : Int) < ((playF l).1.length : Int)) = true := by simpa using hlt
            have hcap : j ≤ c1 := by have := HCP.out; omega
            obtain ⟨ad, had, x0, x1, x2, x3, x4⟩ := at_T24 (Kd.C_below CH.out HB.out) (j : Int) (by omega) (by omega)
            simp only [Int.toNat_natCast] at x0 x1 x2 x3 x4
            have hvx : vL (rd_T24 (playF l).1 (j : Int)) = true := HIN.out.allH _ (by rw [rd_at hlt]; exact List.getElem_mem hlt)
            obtain ⟨b0, b1, b2, b3, b4, b5, b6, b7⟩ := vL_parts hvx
            have b8 : (rd_T24 (playF l).1 (j : Int)).f3 ≤ 1099511627776 := by omega
            have HVX := Aside0.mk hvx
            clear b0 b1 b2 b3 b7 hvx
            have hmx := Aside0.mk (show rd_T24 (playF l).1 (j : Int) ∈ (playF l).1 by rw [rd_at hlt]; exact List.getElem_mem hlt)
            cases had
            generalize rd_T24 (playF l).1 (j : Int) = x at x0 x1 x2 x3 x4 b4 b5 b6 b8 HVX hmx ⊢
            have HBA := Aside0.mk (below_step HB.out (below_alloc (Below.refl _ wr) (.cells #[.int .i64 x.f0, .int .i64 x.f1, .int .i64 x.f2, .int .i64 x.f3, .bool x.f4] 24)))
            by_cases hk1 : (x.f0 == a.f0) = true
            rotate_left
            · replace hk1 : (x.f0 == a.f0) = false := by simpa using hk1
              go_wp2
              go_roundg ((playF l).1.length - (j + 1))
              case measure => have := HJ.out; omega
              case rel => exact ⟨j + 1, by go_num, ⟨by omega⟩, HBA⟩
            by_cases hk2 : x.f2 ≤ a.f2 + t
            rotate_left
            · have hd2 : decide (x.f2 ≤ a.f2 + t) = false := by simpa using hk2
              clear hk2
              go_wp2
              go_roundg ((playF l).1.length - (j + 1))
              case measure => have := HJ.out; omega
              case rel => exact ⟨j + 1, by go_num, ⟨by omega⟩, HBA⟩
            by_cases hk3 : a.f2 + t < x.f2 + x.f3
            rotate_left
            · have hd2 : decide (x.f2 ≤ a.f2 + t) = true := by simpa using hk2
              have hd3 : decide (a.f2 + t < x.f2 + x.f3) = false := by simpa using hk3
              clear hk2 hk3
              go_wp2
              go_roundg ((playF l).1.length - (j + 1))
              case measure => have := HJ.out; omega
              case rel => exact ⟨j + 1, by go_num, ⟨by omega⟩, HBA⟩
            have hd2 : decide (x.f2 ≤ a.f2 + t) = true := by simpa using hk2
            have hd3 : decide (a.f2 + t < x.f2 + x.f3) = true := by simpa using hk3
            by_cases hk4 : (x.f1 == a.f1) = true
            · have hk5 : (x.f1 != a.f1) = false := by simpa [bne] using hk4
              clear hk2 hk3
              go_wp2
              go_roundg ((playF l).1.length - (j + 1))
              case measure => have := HJ.out; omega
              case rel => exact ⟨j + 1, by go_num, ⟨by omega⟩, HBA⟩
            · obtain ⟨ha4, hx4⟩ := excl_of HVX.out HVA.out (HNO.out x hmx.out) (by simpa using hk1) (by simpa using hk4) hk2 hk3 (by have := HT0.out; omega) (by have := HT1.out; omega)
              clear hk2 hk3
              have hk5 : (x.f1 != a.f1) = true := by simpa using hk4
              rw [hx4] at x4
              rw [ha4] at y4
              rw [hx4] at HBA
              go_wp2
              go_roundg ((playF l).1.length - (j + 1))
              case measure => have := HJ.out; omega
              case rel => exact ⟨j + 1, by go_num, ⟨by omega⟩, HBA⟩
          · have h1 : decide (j < (playF l).1.length) = false := by simpa using hlt
            have h1' : decide ((j : Int) < ((playF l).1.length : Int)) = false := by simpa using hlt
            go_wp2_with (fail)
            refine (sane_calls _).mono ?_
            rintro e w9 ⟨rfl, hb9⟩
            have HB9 := Aside0.mk (below_step (below_step B.out HB.out) hb9)
            clear hb9
            go_wp2
            go_ret
            exact ⟨rfl, HB9.out⟩
end Go.Proofs.Ytifnfnoicinbaaa.M
