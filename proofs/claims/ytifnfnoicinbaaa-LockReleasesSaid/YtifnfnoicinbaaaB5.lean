/- lock.Check. -/
import Derived.Test.YtifnfnoicinbaaaB2
import Derived.Test.YtifnfnoicinbaaaB4
import Derived.Test.YtifnfnoicinbaaaA9
import Derived.WalkArith
namespace Go.Proofs.Ytifnfnoicinbaaa.M
open Go.RowKit Go.Proofs.YtifnfnoicinbaaaW.PrintWords Go.Proofs.YtifnfnoicinbaaaW.PrintLast Go.Proofs.YtifnfnoicinbaaaW.PrintMore
set_option linter.unusedVariables false
set_option linter.unusedSimpArgs false
set_option linter.unnecessarySimpa false

def ruleB (H Wt : List S24) (j : Nat) : Bool := if j = 0 then validB H Wt else if j = 1 then freeB H else if j = 2 then singleB Wt else waitingB H Wt
def checksB (H Wt : List S24) : Bool := validB H Wt && freeB H && singleB Wt && waitingB H Wt
def chkE (H Wt : List S24) : Int := if checksB H Wt then 0 else 9
theorem checks_bad {H Wt : List S24} {j : Nat} (h : ruleB H Wt j = false) : checksB H Wt = false := by
  unfold ruleB at h
  unfold checksB
  split at h
  · simp [h]
  · split at h
    · simp [h]
    · split at h
      · simp [h]
      · simp [h]
theorem checks_good {H Wt : List S24} (h : ∀ j, j < 4 → ruleB H Wt j = true) : checksB H Wt = true := by
  have h0 := h 0 (by omega)
  have h1 := h 1 (by omega)
  have h2 := h 2 (by omega)
  have h3 := h 3 (by omega)
  simp only [ruleB] at h0 h1 h2 h3
  simp at h0 h1 h2 h3
  simp [checksB, h0, h1, h2, h3]
theorem chk_bad {H Wt : List S24} {j : Nat} (h : ruleB H Wt j = false) : chkE H Wt = 9 := by unfold chkE; rw [checks_bad h]; rfl
theorem chk_good {H Wt : List S24} (h : ∀ j, j < 4 → ruleB H Wt j = true) : chkE H Wt = 0 := by unfold chkE; rw [checks_good h]; rfl
theorem vL_wf {x : S24} (h : vL x = true) : (Lit.int .i64 x.f1).wf = true := by
  unfold vL at h
  simp only [Bool.and_eq_true, decide_eq_true_eq] at h
  obtain ⟨⟨⟨⟨⟨⟨⟨_, _⟩, h1⟩, h2⟩, _⟩, _⟩, _⟩, _⟩ := h
  simp only [Lit.wf, Bool.and_eq_true, decide_eq_true_eq]
  exact ⟨Int.le_trans (by decide : IntKind.min .i64 ≤ 0) (by omega), Int.le_trans h2 (by decide)⟩
theorem valid_wf {H Wt : List S24} (h : validB H Wt = true) : ∀ x ∈ H ++ Wt, (Lit.int .i64 x.f1).wf = true := by
  unfold validB at h
  simp only [Bool.and_eq_true, List.all_eq_true] at h
  intro x hx
  rcases List.mem_append.1 hx with hx | hx
  · exact vL_wf (h.1.2 x hx)
  · exact vL_wf (h.2 x hx)
theorem good_of {H Wt : List S24} (h : validB H Wt = true) (hs : singleB Wt = true) : Good H Wt where
  wf := valid_wf h
  len := by
    unfold validB at h
    simp only [Bool.and_eq_true, decide_eq_true_eq] at h
    have := h.1.1
    omega
  single := by
    unfold singleB at hs
    unfold PL.Single
    exact of_decide_eq_true hs
theorem rule_calls (j q : Nat) (hj : j < 4) (H Wt : List S24) (w : World) (hT : TabC w q H Wt) (hlen : H.length + Wt.length ≤ 1000) (hp : ∀ i, i < j → ruleB H Wt i = true) :
    (∀ args w, (callFunc (65 + j) args).run Try.prog w = .ok (.enter (65 + j) args) w) ∧ Calls Try.prog (65 + j) #[.pointer (some ⟨q, 0, none⟩)] w fun e w' => e = .returned (.bool (ruleB H Wt j)) ∧ Below w.heap.size w w' := by
  rcases j with _ | _ | _ | _ | j
  · exact ⟨enters_ Try.func65 (by kernel_rfl) rfl, tvalid_calls q H Wt w hT hlen⟩
  · exact ⟨enters_ Try.func66 (by kernel_rfl) rfl, free_calls q H Wt w hT⟩
  · have h0 : validB H Wt = true := hp 0 (by omega)
    exact ⟨enters_ Try.func67 (by kernel_rfl) rfl, single_calls q H Wt w hT (fun x hx => valid_wf h0 x (List.mem_append_right _ hx)) (by omega)⟩
  · have h0 : validB H Wt = true := hp 0 (by omega)
    have h2 : singleB Wt = true := hp 2 (by omega)
    exact ⟨enters_ Try.func68 (by kernel_rfl) rfl, waiting_calls q H Wt w hT (good_of h0 h2)⟩
  · omega
def rv (q j : Nat) : Value := .func (.func (65 + j)) #[.pointer (some ⟨q, 0, none⟩)] #[]
set_option maxRecDepth 100000 in
set_option maxHeartbeats 2000000 in
theorem check_calls (AH AW : Option Addr) (cH cW : Nat) (H Wt : List S24) (w : World) (hH : k24.C w AH H.length H) (hW : k24.C w AW Wt.length Wt) (hlen : H.length + Wt.length ≤ 1000) :
    Calls Try.prog 34 #[.agg #[.slice AH H.length cH, .slice AW Wt.length cW]] w fun e w' => e = .returned (.int .i64 (chkE H Wt)) ∧ Below w.heap.size w w' := by
  have HH := Aside0.mk hH
  have HW := Aside0.mk hW
  clear hH hW
  go_enter Try.func34, Try.ntmps34
  go_upto_region 1 with (fail)
  have hb_ := below_alloc (Below.refl _ w) (.cells #[.slice AH H.length cH, .slice AW Wt.length cW] 29)
  have hG0_ := blk_lit0 w (.cells #[.slice AH H.length cH, .slice AW Wt.length cW] 29)
  generalize (w.alloc (.cells #[.slice AH H.length cH, .slice AW Wt.length cW] 29)) = W at hb_ hG0_ ⊢
  have HB_W := Aside0.mk hb_
  have W0 := Aside0.mk hG0_
  clear hb_ hG0_
  have x0 := (blk_cell W0.out 0).trans rfl; have x1 := (blk_cell W0.out 1).trans rfl
  go_wp2_with ((with_reducible refine gate_dst (N := 7) rfl ?_); refine goesL_ (some 7) rfl rfl Try.func64 (by kernel_rfl) rfl #[.agg #[.slice AH H.length cH, .slice AW Wt.length cW]] rfl (by (try simp only [List.map_toArray, List.map_cons, List.map_nil]); first | done | rfl) ?_; refine (change_calls AH AW cH cW H Wt _ (Kd.C_below HH.out HB_W.out) (Kd.C_below HW.out HB_W.out) hlen).mono ?_; rintro e w3 ⟨q, rfl, hT, hb⟩; refine ⟨_, rfl, ?_⟩; have HT := Aside0.mk hT; have HB3 := Aside0.mk (below_step HB_W.out hb); clear hb hT x0 x1)
  have hbx := blk_new w3 (.cells #[rv q 0, rv q 1, rv q 2, rv q 3] 26)
  have hbb := below_alloc (Below.refl _ w3) (.cells #[rv q 0, rv q 1, rv q 2, rv q 3] 26)
  have HT4 := Aside0.mk (HT.out.tab.below hbb)
  have HB4 := Aside0.mk (below_step HB3.out hbb)
  have hsz : w3.heap.size < (w3.alloc (.cells #[rv q 0, rv q 1, rv q 2, rv q 3] 26)).heap.size := blk_lt hbx
  simp only [rv, Nat.add_zero, Nat.reduceAdd] at hbx hbb HT4 HB4
  generalize (w3.alloc (.cells #[.func (.func 65) #[.pointer (some ⟨q, 0, none⟩)] #[], .func (.func 66) #[.pointer (some ⟨q, 0, none⟩)] #[], .func (.func 67) #[.pointer (some ⟨q, 0, none⟩)] #[], .func (.func 68) #[.pointer (some ⟨q, 0, none⟩)] #[]] 26)) = W4 at hbx hbb HT4 HB4 ⊢
  generalize w3.heap.size = b at hbx ⊢
  have HX := Aside0.mk hbx
  clear hbx hbb hsz HT HB3
  go_loopg [18] 4 (fun kq v18 w' => ∃ j : Nat, v18 = .int .i64 j ∧ Aside0 (kq + j = 4) ∧ Aside0 (∀ i, i < j → ruleB H Wt i = true) ∧ Aside0 (Below W4.heap.size W4 w'))
  case atStart => exact ⟨0, rfl, ⟨rfl⟩, ⟨fun i hi => absurd hi (by omega)⟩, ⟨Below.refl _ _⟩⟩
  case round =>
    obtain ⟨j, rfl, HK, HAL, HB⟩ := hrel
    have HBF := Aside0.mk (below_step HB4.out HB.out)
    by_cases hlt : j < 4
    · have h1 : decide ((j : Int) < 4) = true := by simp; omega
      obtain ⟨hen, hca⟩ := rule_calls j q hlt H Wt wr (HT4.out.below HB.out) hlen HAL.out
      have HEN := Aside0.mk hen
      have HCA := Aside0.mk hca
      clear hen hca
      have hbx := blk_below HX.out HB.out
      have hcell : wr.cell? ⟨b, j, none⟩ = some (.func (.func (65 + j)) #[.pointer (some ⟨q, 0, none⟩)] #[]) := by
        rw [blk_cell hbx]
        rcases j with _ | _ | _ | _ | j
        · rfl
        · rfl
        · rfl
        · rfl
        · omega
      have h2 : j ≤ 4 := by omega
      clear hbx
      cases hr : ruleB H Wt j with
      | false =>
        have HR := Aside0.mk hr
        have HCB := Aside0.mk (chk_bad hr)
        clear hr
        have hen := HEN.out #[.pointer (some ⟨q, 0, none⟩)]
        go_wp2_with (fail)
        refine HCA.out.mono ?_
        rintro e w5 ⟨rfl, hb⟩
        rw [HR.out]
        have HB5 := Aside0.mk (below_step HBF.out hb)
        clear hb hen
        go_wp2
        go_ret
        exact ⟨by first | rfl | (rw [HCB.out]; rfl), HB5.out⟩
      | true =>
        have HR := Aside0.mk hr
        clear hr
        have hen := HEN.out #[.pointer (some ⟨q, 0, none⟩)]
        go_wp2_with (fail)
        refine HCA.out.mono ?_
        rintro e w5 ⟨rfl, hb⟩
        rw [HR.out]
        have HB5 := Aside0.mk (below_step HB.out hb)
        clear hb hen
        go_wp2
        go_roundg (4 - (j + 1))
        case measure => have := HK.out; omega
        case rel => exact ⟨j + 1, by go_num, ⟨by omega⟩, ⟨fun i hi => by
          rcases Nat.lt_or_ge i j with h | h
          · exact HAL.out i h
          · obtain rfl : i = j := by omega
            exact HR.out⟩, HB5⟩
    · have h1 : decide ((j : Int) < 4) = false := by simp; omega
      have HG := Aside0.mk (chk_good (H := H) (Wt := Wt) (fun i hi => HAL.out i (by omega)))
      go_wp2
      go_ret
      exact ⟨by first | rfl | (rw [HG.out]; rfl), HBF.out⟩
end Go.Proofs.Ytifnfnoicinbaaa.M
