/- lock.valid, lock.free, lock.single. -/
import Derived.Test.YtifnfnoicinbaaaA4
import Derived.Test.YtifnfnoicinbaaaA6
namespace Go.Proofs.Ytifnfnoicinbaaa.M
open Go.RowKit Go.Proofs.YtifnfnoicinbaaaW.PrintWords Go.Proofs.YtifnfnoicinbaaaW.PrintLast Go.Proofs.YtifnfnoicinbaaaW.PrintMore
set_option linter.unusedVariables false
set_option linter.unusedSimpArgs false
set_option linter.unnecessarySimpa false

def validB (H Wt : List S24) : Bool := decide (H.length + Wt.length ≤ 400) && H.all vL && Wt.all vL
theorem filter_all (l : List S24) : decide ((l.filter vL).length = l.length) = l.all vL := by
  cases h : l.all vL with
  | true =>
    rw [List.all_eq_true] at h
    rw [List.filter_eq_self.2 h]; simp
  | false =>
    have hn : ¬ (l.filter vL).length = l.length := fun e => by
      rw [List.length_filter_eq_length_iff] at e
      rw [List.all_eq_true.2 e] at h
      cases h
    simp [hn]
theorem looks_valid (W : World) : Looks 31 #[] vL W where
  enters := enters_ Try.func31 (by kernel_rfl) rfl
  calls := fun x w _ => valid_calls x w
def freeB (H : List S24) : Bool := (List.range H.length).all (fun i => (List.range i).all (fun k => !mtL (rd_T24 H (i : Int)) (rd_T24 H (k : Int))))
theorem free_bad {H : List S24} {i k : Nat} (hi : i < H.length) (hk : k < i) (h : mtL (rd_T24 H i) (rd_T24 H k) = true) : freeB H = false := by
  cases hb : freeB H with
  | false => rfl
  | true =>
    unfold freeB at hb
    rw [List.all_eq_true] at hb
    have h1 := hb i (List.mem_range.2 hi)
    rw [List.all_eq_true] at h1
    have h2 := h1 k (List.mem_range.2 hk)
    rw [h] at h2
    cases h2
theorem free_good {H : List S24} (h : ∀ i k : Nat, i < H.length → k < i → mtL (rd_T24 H i) (rd_T24 H k) = false) : freeB H = true := by
  unfold freeB
  rw [List.all_eq_true]
  intro i hi
  rw [List.all_eq_true]
  intro k hk
  rw [h i k (List.mem_range.1 hi) (List.mem_range.1 hk)]
  rfl
set_option maxRecDepth 100000 in
set_option maxHeartbeats 2000000 in
theorem free_calls (q : Nat) (H Wt : List S24) (w : World) (hT : TabC w q H Wt) :
    Calls Try.prog 66 #[.pointer (some ⟨q, 0, none⟩)] w fun e w' => e = .returned (.bool (freeB H)) ∧ Below w.heap.size w w' := by
  have HT := Aside0.mk hT
  obtain ⟨AH, AW, cH, cW, v3, v4, hq, hCH, hCW, hcW, hcH⟩ := HT.out.ex
  have HQ := Aside0.mk hq
  have HCH := Aside0.mk hCH
  have hmH := hCH.2.1
  have q0 := (blk_cell hq 0).trans rfl; have q1 := (blk_cell hq 1).trans rfl; have q2 := (blk_cell hq 2).trans rfl; have q3 := (blk_cell hq 3).trans rfl
  clear hT hq hCH hCW
  go_enter Try.func66, Try.ntmps66
  go_wp2
  clear q0 q1 q2 q3
  go_loopg [13] H.length (fun kq v13 w' => ∃ j : Nat, v13 = .int .i64 j ∧ Aside0 (kq + j = H.length) ∧ Aside0 (∀ i k : Nat, i < j → k < i → mtL (rd_T24 H i) (rd_T24 H k) = false) ∧ Aside0 (Below w.heap.size w w'))
  case atStart => exact ⟨0, rfl, ⟨rfl⟩, ⟨fun i k hi => absurd hi (by omega)⟩, ⟨Below.refl _ _⟩⟩
  case round =>
    obtain ⟨j, rfl, HK, HAL, HB⟩ := hrel
    by_cases hlt : j < H.length
    · have h1 : decide (j < H.length) = true := by simpa using hlt
      obtain ⟨ad, rfl, x0, x1, x2, x3, x4⟩ := at_T24 (Kd.C_below HCH.out HB.out) (j : Int) (by omega) (by omega)
      simp only [Int.toNat_natCast] at x0 x1 x2 x3 x4
      have HBA := Aside0.mk (below_alloc HB.out (.cells #[.int .i64 (rd_T24 H (j : Int)).f0, .int .i64 (rd_T24 H (j : Int)).f1, .int .i64 (rd_T24 H (j : Int)).f2, .int .i64 (rd_T24 H (j : Int)).f3, .bool (rd_T24 H (j : Int)).f4] 24))
      have HXA := Aside0.mk (blk_new wr (.cells #[.int .i64 (rd_T24 H (j : Int)).f0, .int .i64 (rd_T24 H (j : Int)).f1, .int .i64 (rd_T24 H (j : Int)).f2, .int .i64 (rd_T24 H (j : Int)).f3, .bool (rd_T24 H (j : Int)).f4] 24))
      have HBX := Aside0.mk (below_alloc (Below.refl _ wr) (.cells #[.int .i64 (rd_T24 H (j : Int)).f0, .int .i64 (rd_T24 H (j : Int)).f1, .int .i64 (rd_T24 H (j : Int)).f2, .int .i64 (rd_T24 H (j : Int)).f3, .bool (rd_T24 H (j : Int)).f4] 24))
      have HQA := Aside0.mk (blk_below HQ.out HBA.out)
      have hq2 := blk_below HQ.out HB.out
      have q0 := (blk_cell hq2 0).trans rfl; have q1 := (blk_cell hq2 1).trans rfl; have q2 := (blk_cell hq2 2).trans rfl; have q3 := (blk_cell hq2 3).trans rfl
      have lq := blk_lt hq2
      have hjc : j ≤ cH := by omega
      clear hq2
      go_wp2
      generalize wr.alloc (.cells #[.int .i64 (rd_T24 H (j : Int)).f0, .int .i64 (rd_T24 H (j : Int)).f1, .int .i64 (rd_T24 H (j : Int)).f2, .int .i64 (rd_T24 H (j : Int)).f3, .bool (rd_T24 H (j : Int)).f4] 24) = W1 at HBA HXA HQA HBX ⊢
      clear x0 x1 x2 x3 x4 q0 q1 q2 q3 lq h1
      go_loopg [26] j (fun kq v26 w' => ∃ k : Nat, v26 = .int .i64 k ∧ Aside0 (kq + k = j) ∧ Aside0 (∀ i : Nat, i < k → mtL (rd_T24 H j) (rd_T24 H i) = false) ∧ Aside0 (Below W1.heap.size W1 w'))
      case atStart => exact ⟨0, rfl, ⟨rfl⟩, ⟨fun i hi => absurd hi (by omega)⟩, ⟨Below.refl _ _⟩⟩
      case round =>
        obtain ⟨k, rfl, HK2, HAK, HB2⟩ := hrel
        have HBT := Aside0.mk (HBA.out.trans (HB2.out.mono HBA.out.size))
        by_cases hlk : k < j
        · have h2 : decide (k < j) = true := by simpa using hlk
          obtain ⟨ad2, had, y0, y1, y2, y3, y4⟩ := at_T24 (Kd.C_below HCH.out HBT.out) (k : Int) (by omega) (by omega)
          cases had
          simp only [Int.toNat_natCast] at y0 y1 y2 y3 y4
          have HX2 := Aside0.mk (blk_below HXA.out HB2.out)
          have x0 := (blk_cell HX2.out 0).trans rfl; have x1 := (blk_cell HX2.out 1).trans rfl; have x2 := (blk_cell HX2.out 2).trans rfl; have x3 := (blk_cell HX2.out 3).trans rfl; have x4 := (blk_cell HX2.out 4).trans rfl
          have lx := blk_lt HX2.out
          have HBC := Aside0.mk (below_alloc (Below.refl _ wr) (.cells #[.int .i64 (rd_T24 H (k : Int)).f0, .int .i64 (rd_T24 H (k : Int)).f1, .int .i64 (rd_T24 H (k : Int)).f2, .int .i64 (rd_T24 H (k : Int)).f3, .bool (rd_T24 H (k : Int)).f4] 24))
          cases hm : mtL (rd_T24 H j) (rd_T24 H k) with
          | true =>
            have HM := Aside0.mk hm
            clear hm
            go_wp2_with ((with_reducible refine gate_dst (N := 32) rfl ?_); refine goesL_ (some 32) rfl rfl Try.func43 (by kernel_rfl) rfl #[.agg #[.int .i64 (rd_T24 H (j : Int)).f0, .int .i64 (rd_T24 H (j : Int)).f1, .int .i64 (rd_T24 H (j : Int)).f2, .int .i64 (rd_T24 H (j : Int)).f3, .bool (rd_T24 H (j : Int)).f4], .agg #[.int .i64 (rd_T24 H (k : Int)).f0, .int .i64 (rd_T24 H (k : Int)).f1, .int .i64 (rd_T24 H (k : Int)).f2, .int .i64 (rd_T24 H (k : Int)).f3, .bool (rd_T24 H (k : Int)).f4]] rfl (by (try simp only [List.map_toArray, List.map_cons, List.map_nil]); first | done | rfl) ?_; refine (meet_calls _ _ _).mono ?_; rintro e w4 ⟨rfl, hb⟩; refine ⟨_, rfl, ?_⟩; rw [HM.out]; have HB5 := Aside0.mk (below_step HBC.out hb); clear hb)
            go_ret
            exact ⟨by rw [free_bad hlt hlk HM.out]; rfl, HBT.out.trans (HB5.out.mono HBT.out.size)⟩
          | false =>
            have HM := Aside0.mk hm
            clear hm
            go_wp2_with ((with_reducible refine gate_dst (N := 32) rfl ?_); refine goesL_ (some 32) rfl rfl Try.func43 (by kernel_rfl) rfl #[.agg #[.int .i64 (rd_T24 H (j : Int)).f0, .int .i64 (rd_T24 H (j : Int)).f1, .int .i64 (rd_T24 H (j : Int)).f2, .int .i64 (rd_T24 H (j : Int)).f3, .bool (rd_T24 H (j : Int)).f4], .agg #[.int .i64 (rd_T24 H (k : Int)).f0, .int .i64 (rd_T24 H (k : Int)).f1, .int .i64 (rd_T24 H (k : Int)).f2, .int .i64 (rd_T24 H (k : Int)).f3, .bool (rd_T24 H (k : Int)).f4]] rfl (by (try simp only [List.map_toArray, List.map_cons, List.map_nil]); first | done | rfl) ?_; refine (meet_calls _ _ _).mono ?_; rintro e w4 ⟨rfl, hb⟩; refine ⟨_, rfl, ?_⟩; rw [HM.out]; have HB5 := Aside0.mk (below_step HBC.out hb); clear hb)
            go_roundg (j - (k + 1))
            case measure => have := HK2.out; omega
            case rel => exact ⟨k + 1, by go_num, ⟨by omega⟩, ⟨fun i hi => by
              rcases Nat.lt_or_ge i k with h | h
              · exact HAK.out i h
              · obtain rfl : i = k := by omega
                exact HM.out⟩, ⟨HB2.out.trans (HB5.out.mono HB2.out.size)⟩⟩
        · have h2 : decide (k < j) = false := by simpa using hlk
          go_wp2
          go_roundg (H.length - (j + 1))
          case measure => have := HK.out; omega
          case rel => exact ⟨j + 1, by go_num, ⟨by omega⟩, ⟨fun i k' hi hk' => by
            rcases Nat.lt_or_ge i j with h | h
            · exact HAL.out i k' h hk'
            · obtain rfl : i = j := by omega
              exact HAK.out k' (by omega)⟩, HBT⟩
    · have h1 : decide (j < H.length) = false := by simpa using hlt
      have HFG := Aside0.mk (free_good (H := H) (fun i k hi hk => HAL.out i k (by omega) hk))
      go_wp2
      go_ret
      exact ⟨by rw [HFG.out]; rfl, HB.out⟩

theorem nodup_rev {l : List Int} : l.reverse.Nodup ↔ l.Nodup := (List.reverse_perm l).nodup_iff
/-- Handles that were met. -/
theorem single_step {l : List S24} {j : Nat} (h : j < l.length) : ((l.take (j + 1)).map hdL).reverse = (rd_T24 l j).f1 :: ((l.take j).map hdL).reverse := by
  rw [List.take_succ_eq_append_getElem h, List.map_append, List.reverse_append, ← rd_at h]
  rfl
def singleB (Wt : List S24) : Bool := decide ((Wt.map hdL).Nodup)
theorem single_bad {l : List S24} {j : Nat} (h : j < l.length) (hm : (rd_T24 l j).f1 ∈ ((l.take j).map hdL).reverse) : singleB l = false := by
  unfold singleB
  rw [decide_eq_false_iff_not]
  intro hn
  have h1 : ((l.take (j + 1)).map hdL).Sublist (l.map hdL) := ((List.take_sublist _ _).map _)
  have h2 := hn.sublist h1
  rw [← nodup_rev, single_step h, List.nodup_cons] at h2
  exact h2.1 hm
theorem single_go {l : List S24} {j : Nat} (h : j < l.length) (hn : ((l.take j).map hdL).Nodup) (hm : (rd_T24 l j).f1 ∉ ((l.take j).map hdL).reverse) : ((l.take (j + 1)).map hdL).Nodup := by
  rw [← nodup_rev, single_step h, List.nodup_cons]
  exact ⟨hm, nodup_rev.2 hn⟩
set_option maxRecDepth 100000 in
set_option maxHeartbeats 2000000 in
theorem single_calls (q : Nat) (H Wt : List S24) (w : World) (hT : TabC w q H Wt) (hwf : ∀ x ∈ Wt, (Lit.int .i64 x.f1).wf = true) (hlen : Wt.length ≤ 1000) :
    Calls Try.prog 67 #[.pointer (some ⟨q, 0, none⟩)] w fun e w' => e = .returned (.bool (singleB Wt)) ∧ Below w.heap.size w w' := by
  have HT := Aside0.mk hT
  have HWF := Aside0.mk hwf
  obtain ⟨AH, AW, cH, cW, v3, v4, hq, hCH, hCW, hcW, hcH⟩ := HT.out.ex
  have HCW := Aside0.mk hCW
  have hmW := hCW.2.1
  have HQ := Aside0.mk hq
  clear hT hwf hq hCH hCW
  have hmm := @run_makeMap Try.prog
  go_enter Try.func67, Try.ntmps67
  go_upto_region 2 with (fail)
  have HB1 := Aside0.mk (below_alloc (Below.refl _ w) (.map #[] 0))
  have HM1 := Aside0.mk (MapB.made w)
  have HQ1 := Aside0.mk (blk_below HQ.out HB1.out)
  generalize w.alloc (.map #[] 0) = W at HB1 HM1 HQ1 ⊢
  have q0 := (blk_cell HQ1.out 0).trans rfl; have q1 := (blk_cell HQ1.out 1).trans rfl; have q2 := (blk_cell HQ1.out 2).trans rfl; have q3 := (blk_cell HQ1.out 3).trans rfl
  go_wp2
  clear q0 q1 q2 q3 hmm
  go_loopg [13] Wt.length (fun kq v13 w' => ∃ j : Nat, v13 = .int .i64 j ∧ Aside0 (kq + j = Wt.length) ∧ Aside0 (((Wt.take j).map hdL).Nodup) ∧ Aside0 (MapB w' w.heap.size ((Wt.take j).map hdL).reverse) ∧ Aside0 (Below w.heap.size w w'))
  case atStart => exact ⟨0, rfl, ⟨rfl⟩, ⟨by simp⟩, ⟨by simpa using HM1.out⟩, HB1⟩
  case round =>
    obtain ⟨j, rfl, HK, HN, HM, HB⟩ := hrel
    by_cases hlt : j < Wt.length
    · have h1 : decide (j < Wt.length) = true := by simpa using hlt
      obtain ⟨ad, rfl, x0, x1, x2, x3, x4⟩ := at_T24 (Kd.C_below HCW.out HB.out) (j : Int) (by omega) (by omega)
      simp only [Int.toNat_natCast] at x0 x1 x2 x3 x4
      have HBA := Aside0.mk (below_alloc HB.out (.cells #[.int .i64 (rd_T24 Wt (j : Int)).f0, .int .i64 (rd_T24 Wt (j : Int)).f1, .int .i64 (rd_T24 Wt (j : Int)).f2, .int .i64 (rd_T24 Wt (j : Int)).f3, .bool (rd_T24 Wt (j : Int)).f4] 24))
      have HMA := Aside0.mk (HM.out.below (below_alloc (Below.refl _ wr) (.cells #[.int .i64 (rd_T24 Wt (j : Int)).f0, .int .i64 (rd_T24 Wt (j : Int)).f1, .int .i64 (rd_T24 Wt (j : Int)).f2, .int .i64 (rd_T24 Wt (j : Int)).f3, .bool (rd_T24 Wt (j : Int)).f4] 24)))
      have HXA := Aside0.mk (blk_new wr (.cells #[.int .i64 (rd_T24 Wt (j : Int)).f0, .int .i64 (rd_T24 Wt (j : Int)).f1, .int .i64 (rd_T24 Wt (j : Int)).f2, .int .i64 (rd_T24 Wt (j : Int)).f3, .bool (rd_T24 Wt (j : Int)).f4] 24))
      have hw := HWF.out (rd_T24 Wt j) (by rw [rd_at hlt]; exact List.getElem_mem hlt)
      have HW := Aside0.mk hw
      have HST := Aside0.mk (single_step hlt)
      clear hw
      go_upto_region 5 with (fail)
      generalize wr.alloc (.cells #[.int .i64 (rd_T24 Wt (j : Int)).f0, .int .i64 (rd_T24 Wt (j : Int)).f1, .int .i64 (rd_T24 Wt (j : Int)).f2, .int .i64 (rd_T24 Wt (j : Int)).f3, .bool (rd_T24 Wt (j : Int)).f4] 24) = W2 at HBA HMA HXA ⊢
      clear x0 x1 x2 x3 x4
      have x0 := (blk_cell HXA.out 0).trans rfl; have x1 := (blk_cell HXA.out 1).trans rfl; have x2 := (blk_cell HXA.out 2).trans rfl; have x3 := (blk_cell HXA.out 3).trans rfl; have x4 := (blk_cell HXA.out 4).trans rfl
      have hlook := HMA.out.look HW.out
      by_cases hx2 : (rd_T24 Wt j).f1 ∈ ((Wt.take j).map hdL).reverse
      · have HBAD := Aside0.mk (single_bad hlt hx2)
        rw [show decide ((rd_T24 Wt j).f1 ∈ ((Wt.take j).map hdL).reverse) = true from decide_eq_true hx2] at hlook
        clear hx2
        go_wp2
        go_ret
        exact ⟨by rw [HBAD.out]; rfl, HBA.out⟩
      · have HGO := Aside0.mk (single_go hlt HN.out hx2)
        rw [show decide ((rd_T24 Wt j).f1 ∈ ((Wt.take j).map hdL).reverse) = false from decide_eq_false hx2] at hlook
        clear hx2
        obtain ⟨W5, hput, hm5, hg5⟩ := HMA.out.put (by have h1 := List.length_take_le j Wt; simp; unfold maxLen; omega) HW.out
        have HM5 := Aside0.mk hm5
        have HB5 := Aside0.mk (pw_below_grown HBA.out (some w.heap.size) HBA.out.size hg5 (fun k e => by cases e; exact Nat.le_refl _))
        clear hm5 hg5
        go_wp2
        go_roundg (Wt.length - (j + 1))
        case measure => have := HK.out; omega
        case rel => exact ⟨j + 1, by go_num, ⟨by omega⟩, HGO, ⟨by rw [HST.out]; exact HM5.out⟩, HB5⟩
    · have h1 : decide (j < Wt.length) = false := by simpa using hlt
      have hj : Wt.take j = Wt := List.take_of_length_le (by omega)
      have HS := Aside0.mk (show singleB Wt = true by have := HN.out; rw [hj] at this; unfold singleB; exact decide_eq_true this)
      clear hj
      go_wp2
      go_ret
      exact ⟨by rw [HS.out]; rfl, HB.out⟩
end Go.Proofs.Ytifnfnoicinbaaa.M
