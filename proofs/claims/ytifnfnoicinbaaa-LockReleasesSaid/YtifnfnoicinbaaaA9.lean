/- lock.stuck, lock.waiting. -/
import Derived.Test.YtifnfnoicinbaaaA8
namespace Go.Proofs.Ytifnfnoicinbaaa.M
open Go.RowKit Go.Proofs.YtifnfnoicinbaaaW.PrintWords Go.Proofs.YtifnfnoicinbaaaW.PrintLast Go.Proofs.YtifnfnoicinbaaaW.PrintMore
set_option linter.unusedVariables false
set_option linter.unusedSimpArgs false
set_option linter.unnecessarySimpa false

abbrev stuckL (H Wt : List S24) : Int := PL.stuckV hdL mtL H Wt
abbrev circL (H Wt : List S24) (h : Int) : Bool := PL.circB hdL mtL H Wt h
/-- The greatest handle in a deadlock so far. -/
def stF (H Wt l : List S24) : Int := l.foldl (fun out w => if decide (out < hdL w) && circL H Wt (hdL w) then hdL w else out) 0
theorem stF_step {H Wt l : List S24} {j : Nat} (h : j < l.length) : stF H Wt (l.take (j + 1)) = if decide (stF H Wt (l.take j) < (rd_T24 l j).f1) && circL H Wt (rd_T24 l j).f1 then (rd_T24 l j).f1 else stF H Wt (l.take j) := by
  unfold stF
  rw [List.take_succ_eq_append_getElem h, List.foldl_append, ← rd_at h]
  rfl
set_option maxRecDepth 100000 in
set_option maxHeartbeats 2000000 in
theorem stuck_calls (q : Nat) (H Wt : List S24) (w : World) (hT : TabC w q H Wt) (hG : Good H Wt) :
    Calls Try.prog 75 #[.pointer (some ⟨q, 0, none⟩)] w fun e w' => e = .returned (.int .i64 (stuckL H Wt)) ∧ Below w.heap.size w w' := by
  have HT := Aside0.mk hT
  have HGD := Aside0.mk hG
  obtain ⟨AH, AW, cH, cW, v3, v4, hq, hCH, hCW, hcW, hcH⟩ := HT.out.ex
  have HCW := Aside0.mk hCW
  have hmW := hCW.2.1
  have q0 := (blk_cell hq 0).trans rfl; have q1 := (blk_cell hq 1).trans rfl; have q2 := (blk_cell hq 2).trans rfl; have q3 := (blk_cell hq 3).trans rfl
  clear hT hG hq hCH hCW
  go_enter Try.func75, Try.ntmps75
  go_wp2
  clear q0 q1 q2 q3
  go_loopg [3, 12] Wt.length (fun kq v3 v12 w' => ∃ j : Nat, v3 = .int .i64 (stF H Wt (Wt.take j)) ∧ v12 = .int .i64 j ∧ Aside0 (kq + j = Wt.length) ∧ Aside0 (Below w.heap.size w w'))
  case atStart => exact ⟨0, rfl, rfl, ⟨rfl⟩, ⟨Below.refl _ _⟩⟩
  case round =>
    obtain ⟨j, rfl, rfl, HK, HB⟩ := hrel
    by_cases hlt : j < Wt.length
    · have h1 : decide (j < Wt.length) = true := by simpa using hlt
      obtain ⟨ad, rfl, x0, x1, x2, x3, x4⟩ := at_T24 (Kd.C_below HCW.out HB.out) (j : Int) (by omega) (by omega)
      simp only [Int.toNat_natCast] at x0 x1 x2 x3 x4
      have HS := Aside0.mk (stF_step (H := H) (Wt := Wt) hlt)
      have HBA := Aside0.mk (below_alloc HB.out (.cells #[.int .i64 (rd_T24 Wt (j : Int)).f0, .int .i64 (rd_T24 Wt (j : Int)).f1, .int .i64 (rd_T24 Wt (j : Int)).f2, .int .i64 (rd_T24 Wt (j : Int)).f3, .bool (rd_T24 Wt (j : Int)).f4] 24))
      have HXA := Aside0.mk (blk_new wr (.cells #[.int .i64 (rd_T24 Wt (j : Int)).f0, .int .i64 (rd_T24 Wt (j : Int)).f1, .int .i64 (rd_T24 Wt (j : Int)).f2, .int .i64 (rd_T24 Wt (j : Int)).f3, .bool (rd_T24 Wt (j : Int)).f4] 24))
      generalize stF H Wt (Wt.take j) = o at HS ⊢
      by_cases hgt : o < (rd_T24 Wt j).f1
      · have hg1 : decide (o < (rd_T24 Wt j).f1) = true := by simpa using hgt
        have HGT := Aside0.mk hg1
        clear hgt
        cases hc : circL H Wt (rd_T24 Wt j).f1
        all_goals
          have HC := Aside0.mk (show PL.circB hdL mtL H Wt (rd_T24 Wt j).f1 = _ from hc)
          have HC2 := Aside0.mk hc
          clear hc
          go_wp2_with (fail)
          refine (circle_calls q _ H Wt _ (HT.out.below HBA.out) HGD.out).mono ?_
          rintro e w3 ⟨rfl, hb⟩
          rw [HC.out]
          have HB3 := Aside0.mk (below_step HBA.out hb)
          have HX3 := Aside0.mk (blk_below HXA.out hb)
          clear hb x0 x1 x2 x3 x4
          have x0 := (blk_cell HX3.out 0).trans rfl; have x1 := (blk_cell HX3.out 1).trans rfl; have x2 := (blk_cell HX3.out 2).trans rfl; have x3 := (blk_cell HX3.out 3).trans rfl; have x4 := (blk_cell HX3.out 4).trans rfl
          go_wp2
          go_roundg (Wt.length - (j + 1))
          case measure => have := HK.out; omega
          case rel => exact ⟨j + 1, by rw [HS.out, HGT.out, HC2.out]; simp, by go_num, ⟨by omega⟩, HB3⟩
      · have hg1 : decide (o < (rd_T24 Wt j).f1) = false := by simpa using hgt
        have HGT := Aside0.mk hg1
        go_wp2
        go_roundg (Wt.length - (j + 1))
        case measure => have := HK.out; omega
        case rel => exact ⟨j + 1, by rw [HS.out, HGT.out]; simp, by go_num, ⟨by omega⟩, HBA⟩
    · have h1 : decide (j < Wt.length) = false := by simpa using hlt
      have hj : Wt.take j = Wt := List.take_of_length_le (by omega)
      rw [hj]
      clear hj
      go_wp2
      go_ret
      exact ⟨rfl, HB.out⟩
/-- All waits are blocked, and none is in a deadlock. -/
def waitingB (H Wt : List S24) : Bool := (PL.freeI mtL H Wt).isNone && decide (stuckL H Wt = 0)
theorem waiting_free {H Wt : List S24} {j : Nat} (h : j < Wt.length) (hb : blkB H Wt j = false) : waitingB H Wt = false := by
  unfold waitingB
  cases hf : PL.freeI mtL H Wt with
  | some i => rfl
  | none =>
    have := PL.freeI_none.1 hf j h
    unfold blkB at hb
    simp at hb
    exact absurd hb this
theorem waiting_all {H Wt : List S24} (h : ∀ j, j < Wt.length → blkB H Wt j = true) : waitingB H Wt = decide (stuckL H Wt = 0) := by
  unfold waitingB
  rw [PL.freeI_none.2 (fun i hi e => by have := h i hi; unfold blkB at this; rw [e] at this; cases this)]
  rfl
set_option maxRecDepth 100000 in
set_option maxHeartbeats 2000000 in
theorem waiting_calls (q : Nat) (H Wt : List S24) (w : World) (hT : TabC w q H Wt) (hG : Good H Wt) :
    Calls Try.prog 68 #[.pointer (some ⟨q, 0, none⟩)] w fun e w' => e = .returned (.bool (waitingB H Wt)) ∧ Below w.heap.size w w' := by
  have HT := Aside0.mk hT
  have HGD := Aside0.mk hG
  obtain ⟨AH, AW, cH, cW, v3, v4, hq, hCH, hCW, hcW, hcH⟩ := HT.out.ex
  have hmW := hCW.2.1
  have q0 := (blk_cell hq 0).trans rfl; have q1 := (blk_cell hq 1).trans rfl; have q2 := (blk_cell hq 2).trans rfl; have q3 := (blk_cell hq 3).trans rfl
  clear hT hG hq hCH hCW
  go_enter Try.func68, Try.ntmps68
  go_wp2
  clear q0 q1 q2 q3
  go_loopg [10] Wt.length (fun kq v10 w' => ∃ j : Nat, v10 = .int .i64 j ∧ Aside0 (kq + j = Wt.length) ∧ Aside0 (∀ i, i < j → blkB H Wt i = true) ∧ Aside0 (Below w.heap.size w w'))
  case atStart => exact ⟨0, rfl, ⟨rfl⟩, ⟨fun i hi => absurd hi (by omega)⟩, ⟨Below.refl _ _⟩⟩
  case round =>
    obtain ⟨j, rfl, HK, HAL, HB⟩ := hrel
    by_cases hlt : j < Wt.length
    · have h1 : decide (j < Wt.length) = true := by simpa using hlt
      cases hc : blkB H Wt j with
      | true =>
        have HC := Aside0.mk hc
        clear hc
        go_wp2_with ((with_reducible refine gate_dst (N := 15) rfl ?_); refine goesL_ (some 15) rfl rfl Try.func74 (by kernel_rfl) rfl #[.pointer (some ⟨q, 0, none⟩), .int .i64 j] rfl (by (try simp only [List.map_toArray, List.map_cons, List.map_nil]); first | done | rfl) ?_; refine (blocked_calls q j H Wt _ (HT.out.below HB.out) hlt).mono ?_; rintro e w3 ⟨rfl, hb⟩; refine ⟨_, rfl, ?_⟩; rw [HC.out]; have HB3 := Aside0.mk (below_step HB.out hb); clear hb)
        go_roundg (Wt.length - (j + 1))
        case measure => have := HK.out; omega
        case rel => exact ⟨j + 1, by go_num, ⟨by omega⟩, ⟨fun i hi => by
          rcases Nat.lt_or_ge i j with h | h
          · exact HAL.out i h
          · obtain rfl : i = j := by omega
            exact HC.out⟩, HB3⟩
      | false =>
        have HC := Aside0.mk hc
        clear hc
        go_wp2_with ((with_reducible refine gate_dst (N := 15) rfl ?_); refine goesL_ (some 15) rfl rfl Try.func74 (by kernel_rfl) rfl #[.pointer (some ⟨q, 0, none⟩), .int .i64 j] rfl (by (try simp only [List.map_toArray, List.map_cons, List.map_nil]); first | done | rfl) ?_; refine (blocked_calls q j H Wt _ (HT.out.below HB.out) hlt).mono ?_; rintro e w3 ⟨rfl, hb⟩; refine ⟨_, rfl, ?_⟩; rw [HC.out]; have HB3 := Aside0.mk (below_step HB.out hb); clear hb)
        go_ret
        exact ⟨by rw [waiting_free hlt HC.out]; rfl, HB3.out⟩
    · have h1 : decide (j < Wt.length) = false := by simpa using hlt
      have HWA := Aside0.mk (waiting_all (H := H) (Wt := Wt) (fun i hi => HAL.out i (by omega)))
      go_wp2_with ((with_reducible refine gate_dst (N := 19) rfl ?_); refine goesL_ (some 19) rfl rfl Try.func75 (by kernel_rfl) rfl #[.pointer (some ⟨q, 0, none⟩)] rfl (by (try simp only [List.map_toArray, List.map_cons, List.map_nil]); first | done | rfl) ?_; refine (stuck_calls q H Wt _ (HT.out.below HB.out) HGD.out).mono ?_; rintro e w3 ⟨rfl, hb⟩; refine ⟨_, rfl, ?_⟩; have HB3 := Aside0.mk (below_step HB.out hb); clear hb)
      go_ret
      exact ⟨by rw [HWA.out]; first | rfl | (simp; done) | (congr 2; simp; done), HB3.out⟩
end Go.Proofs.Ytifnfnoicinbaaa.M
