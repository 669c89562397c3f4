/- What the reference's Check looks for, in plain words. -/
import Derived.Test.YtifnfnoicinbaaaQ2
import Derived.Test.YtifnfnoicinbaaaE0
namespace Go.Proofs.Ytifnfnoicinbaaa.M
open Go.RowKit Go.Proofs.YtifnfnoicinbaaaW.PrintWords Go.Proofs.YtifnfnoicinbaaaW.PrintLast Go.Proofs.YtifnfnoicinbaaaW.PrintMore
set_option linter.unusedVariables false
set_option linter.unusedSimpArgs false
set_option linter.unnecessarySimpa false

theorem blks_cf {H W : List S24} (hH : ∀ x ∈ H, vL x = true) (hW : ∀ x ∈ W, vL x = true) (i : Nat) : PL.blks cfL H W i = PL.blks mtL H W i := by
  unfold PL.blks
  cases h : W[i]? with
  | none => rfl
  | some w =>
    dsimp only
    have hw : vL w = true := hW w (List.mem_of_getElem? h)
    refine List.filter_congr fun x hx => ?_
    have hx' : vL x = true := by
      rcases List.mem_append.1 hx with h | h
      · exact hH x h
      · exact hW x (List.mem_of_mem_take h)
    unfold cfL
    rw [hx', hw]
    simp
theorem bfs_cf {H W : List S24} (hH : ∀ x ∈ H, vL x = true) (hW : ∀ x ∈ W, vL x = true) (t : Int) : ∀ (k : Nat) (M T : List Int), PL.bfs hdL cfL H W t k M T = PL.bfs hdL mtL H W t k M T
  | 0, _, _ => rfl
  | k + 1, _, [] => rfl
  | k + 1, M, x :: T => by
    have hs : PL.succs hdL cfL H W x = PL.succs hdL mtL H W x := by
      unfold PL.succs
      cases PL.waitI hdL W x with
      | none => rfl
      | some i => dsimp only; rw [blks_cf hH hW]
    conv => lhs; unfold PL.bfs
    conv => rhs; unfold PL.bfs
    rw [hs, bfs_cf hH hW t k, bfs_cf hH hW t k]
theorem circ_cf {H W : List S24} (hH : ∀ x ∈ H, vL x = true) (hW : ∀ x ∈ W, vL x = true) (t : Int) : PL.circB hdL cfL H W t = PL.circB hdL mtL H W t := by
  unfold PL.circB
  rw [bfs_cf hH hW]
  congr 1
  unfold PL.succs
  cases PL.waitI hdL W t with
  | none => rfl
  | some i => dsimp only; rw [blks_cf hH hW]
theorem valid_wf' {x : S24} (h : vL x = true) : (Lit.int .i64 x.f1).wf = true := by
  have h1 := vL_pos h
  unfold vL at h
  simp only [Bool.and_eq_true, decide_eq_true_eq] at h
  simp [Lit.wf, IntKind.min, IntKind.max, IntKind.signed, IntKind.bits]
  omega
/-- The reference's questions. -/
def okH (H : List S24) (i : Nat) : Prop := vL (rd_T24 H (i : Int)) = true ∧ ∀ k, k < i → cfL (rd_T24 H (i : Int)) (rd_T24 H (k : Int)) = false
def okW (H W : List S24) (i : Nat) : Prop := vL (rd_T24 W (i : Int)) = true ∧ waitN W (rd_T24 W (i : Int)).f1 = (i : Int) ∧ PL.blks cfL H W i ≠ []
def okS (H W : List S24) (i : Nat) : Prop := PL.circB hdL cfL H W (hdL (rd_T24 W (i : Int))) = false
theorem all_rd {W : List S24} {p : S24 → Prop} (h : ∀ i, i < W.length → p (rd_T24 W (i : Int))) : ∀ x ∈ W, p x := by
  intro x hx
  obtain ⟨i, hi, rfl⟩ := List.mem_iff_getElem.1 hx
  rw [← rd_at hi]
  exact h i hi
theorem first_wait {W : List S24} {x : Int} {i : Nat} (h : waitN W x = (i : Int)) : ∀ j, j < i → ∀ hj : j < W.length, hdL W[j] ≠ x := by
  unfold waitN firstAt at h
  cases hq : W.findIdx? (fun y => hdL y == x) with
  | none => rw [hq] at h; dsimp only at h; omega
  | some k =>
    rw [hq] at h
    have hk : k = i := by
      have h' : (k : Int) = (i : Int) := h
      omega
    subst hk
    intro j hj hjl
    have := (List.findIdx?_eq_some_iff_getElem.1 hq).2.2 j hj
    simpa using this
theorem okW_single {H W : List S24} (h : ∀ i, i < W.length → okW H W i) : PL.Single hdL W := by
  unfold PL.Single
  rw [List.nodup_iff_pairwise_ne, List.pairwise_map, List.pairwise_iff_getElem]
  intro i j hi hj hij
  have := first_wait (h j hj).2.1 i hij hi
  rw [rd_at hj] at this
  exact this
theorem checks_ok {H W : List S24} (hl : H.length + W.length ≤ 400) (h1 : ∀ i, i < H.length → okH H i) (h2 : ∀ i, i < W.length → okW H W i) (h3 : ∀ i, i < W.length → okS H W i) : checksB H W = true := by
  have hH : ∀ x ∈ H, vL x = true := all_rd fun i hi => (h1 i hi).1
  have hW : ∀ x ∈ W, vL x = true := all_rd fun i hi => (h2 i hi).1
  refine Inv.iff.1 ⟨hl, hH, hW, ?_, okW_single h2, ?_, ?_⟩
  · unfold PL.FreeH
    rw [List.pairwise_iff_getElem]
    intro i j hi hj hij
    have := (h1 j hj).2 i hij
    rw [rd_at hj, rd_at hi] at this
    unfold cfL at this
    rw [hH _ (List.getElem_mem hi), hH _ (List.getElem_mem hj)] at this
    rw [mt_sym]
    simpa using this
  · rw [PL.freeI_none]
    intro i hi
    have := (h2 i hi).2.2
    rwa [blks_cf hH hW] at this
  · refine PL.stuckV_of fun w hw => ?_
    obtain ⟨i, hi, rfl⟩ := List.mem_iff_getElem.1 hw
    have := h3 i hi
    unfold okS at this
    rwa [circ_cf hH hW, rd_at hi] at this
theorem checks_all {H W : List S24} (h : checksB H W = true) : H.length + W.length ≤ 400 ∧ (∀ i, i < H.length → okH H i) ∧ (∀ i, i < W.length → okW H W i) ∧ ∀ i, i < W.length → okS H W i := by
  have hI := Inv.iff.2 h
  refine ⟨hI.len, fun i hi => ⟨by rw [rd_at hi]; exact hI.allH _ (List.getElem_mem hi), fun k hk => ?_⟩, fun i hi => ⟨by rw [rd_at hi]; exact hI.allW _ (List.getElem_mem hi), ?_, ?_⟩, fun i hi => ?_⟩
  · have h1 := List.pairwise_iff_getElem.1 hI.free k i (by omega) hi hk
    unfold cfL
    rw [rd_at hi, rd_at (show k < H.length by omega), mt_sym, h1]
    simp
  · unfold waitN firstAt
    have hw := PL.waitI_of hI.single (List.getElem?_eq_getElem hi)
    unfold PL.waitI at hw
    rw [rd_at hi, show W[i].f1 = hdL W[i] from rfl, hw]
  · rw [blks_cf hI.allH hI.allW]
    exact PL.freeI_none.1 hI.blocked i hi
  · unfold okS
    rw [circ_cf hI.allH hI.allW, rd_at hi]
    cases hc : PL.circB hdL mtL H W (hdL W[i]) with
    | false => rfl
    | true => exact absurd ((PL.circB_iff hI.single _).1 hc) (hI.noCirc _)
theorem chk_ok {H W : List S24} (hl : H.length + W.length ≤ 400) (h1 : ∀ i, i < H.length → okH H i) (h2 : ∀ i, i < W.length → okW H W i) (h3 : ∀ i, i < W.length → okS H W i) : chkE H W = 0 := by
  unfold chkE
  rw [checks_ok hl h1 h2 h3]
  rfl
theorem chk_no {H W : List S24} (h : ¬ (H.length + W.length ≤ 400 ∧ (∀ i, i < H.length → okH H i) ∧ (∀ i, i < W.length → okW H W i) ∧ ∀ i, i < W.length → okS H W i)) : chkE H W = 9 := by
  unfold chkE
  cases hc : checksB H W with
  | false => rfl
  | true => exact absurd (checks_all hc) h
theorem good_R {H W : List S24} (hl : H.length + W.length ≤ 400) (h1 : ∀ i, i < H.length → okH H i) (h2 : ∀ i, i < W.length → okW H W i) : Good H W where
  wf := fun x hx => by
    have hv : vL x = true := by
      rcases List.mem_append.1 hx with h | h
      · exact all_rd (p := fun x => vL x = true) (fun i hi => (h1 i hi).1) x h
      · exact all_rd (p := fun x => vL x = true) (fun i hi => (h2 i hi).1) x h
    exact valid_wf' hv
  len := by omega
  single := okW_single h2
end Go.Proofs.Ytifnfnoicinbaaa.M
