/- Unlock and Cancel undo Try and Ask: plain. -/
import Derived.Test.YtifnfnoicinbaaaE1
namespace Go.Proofs.Ytifnfnoicinbaaa.M
open Go.RowKit Go.Proofs.YtifnfnoicinbaaaW.PrintWords Go.Proofs.YtifnfnoicinbaaaW.PrintLast Go.Proofs.YtifnfnoicinbaaaW.PrintMore
set_option linter.unusedVariables false
set_option linter.unusedSimpArgs false
set_option linter.unnecessarySimpa false

theorem settle_calm {H W : List S24} (h : Inv H W) : settleL H W = (H, W, [], []) := PL.settle_still h.blocked h.calm
theorem beg_of {H W : List S24} (h : Inv H W) {g : Bool} (hg : g = true) : begE H W g = 0 := by
  unfold begE
  rw [Inv.iff.1 h, hg]
  rfl
theorem erase_last {H : List S24} {a : S24} : (H ++ [a]).eraseIdx H.length = H := by
  rw [List.eraseIdx_append_of_length_le (Nat.le_refl _)]
  simp
theorem rd_last {H : List S24} {a : S24} : rd_T24 (H ++ [a]) (H.length : Int) = a := by simp [rd_T24]
theorem unlock_try {H W : List S24} {a : S24} (h : (tryF H W a).2 = 0) : (tryF H W a).1 = (H ++ [a], W) ∧ unlockF (H ++ [a]) W a = ((H, W, [], []), 0) := by
  obtain ⟨h1, h2, h3, e⟩ := try_ok h
  obtain ⟨hi, hv, hl⟩ := req_inv h1
  refine ⟨by rw [e], ?_⟩
  have hI := hi.held hl hv h2 h3
  unfold unlockF
  rw [if_pos (beg_of hI hv)]
  have hq : lastI (H ++ [a]) a (H ++ [a]).length = some H.length := by
    rw [show (H ++ [a]).length = H.length + 1 by simp]
    unfold lastI
    rw [rd_last, if_pos (eqL_iff.2 rfl)]
  rw [hq]
  dsimp only
  rw [erase_last, settle_calm hi]
theorem steps_nil {hd : S24 → Int} {mt : S24 → S24 → Bool} {H W H1 W1 : List S24} {G N G1 N1 : List Int} (h : PL.Steps hd mt H W G N H1 W1 G1 N1) (hl : G1.length + N1.length = G.length + N.length) : H1 = H ∧ W1 = W := by
  have grow : ∀ {H W H1 W1 : List S24} {G N G1 N1 : List Int}, PL.Steps hd mt H W G N H1 W1 G1 N1 → G.length + N.length ≤ G1.length + N1.length := by
    intro H W H1 W1 G N G1 N1 h
    obtain ⟨A, B, _, e2, e3, _⟩ := PL.steps_news h
    rw [e2, e3]
    simp
    omega
  cases h with
  | refl => exact ⟨rfl, rfl⟩
  | head s hr =>
    exfalso
    have h1 := grow hr
    cases s with
    | grant _ => simp at h1; omega
    | gone _ => simp at h1; omega
theorem cancel_ask {H W : List S24} {a : S24} (h : (askF H W a).2 = 0) (hn : (askF H W a).1.2.2.1.length + (askF H W a).1.2.2.2.length = 0) :
    (askF H W a).1.1 = H ∧ (askF H W a).1.2.1 = W ++ [a] ∧ cancelF H (W ++ [a]) a.f1 = ((H, W, [], []), 0) := by
  have hinv := ask_inv h
  unfold askF at h hn hinv ⊢
  by_cases hz : reqE H W a = 0
  · rw [if_pos hz] at hn hinv ⊢
    obtain ⟨hi, hv, hl⟩ := req_inv hz
    have hG := req_good hz
    obtain ⟨H', W', G', N', e, st, _, _⟩ := PL.settle_spec (mt := mtL) (H := H) hG.single
    rw [show settleL H (W ++ [a]) = (H', W', G', N') from e] at hn hinv ⊢
    dsimp only at hn hinv ⊢
    obtain ⟨rfl, rfl⟩ := steps_nil st (by simpa using hn)
    refine ⟨rfl, rfl, ?_⟩
    unfold cancelF
    have hkn : knownB a.f1 = true := by
      unfold vL at hv
      simp only [Bool.and_eq_true, decide_eq_true_eq] at hv
      unfold knownB
      simp only [Bool.and_eq_true, decide_eq_true_eq]
      omega
    rw [if_pos (beg_of hinv hkn)]
    have hw : PL.waitI hdL (W ++ [a]) a.f1 = some W.length := PL.waitI_of (hd := hdL) hG.single (w := a) (by simp)
    rw [hw]
    dsimp only
    rw [erase_last, settle_calm hi]
  · rw [if_neg hz] at h; exact absurd h hz
end Go.Proofs.Ytifnfnoicinbaaa.M
