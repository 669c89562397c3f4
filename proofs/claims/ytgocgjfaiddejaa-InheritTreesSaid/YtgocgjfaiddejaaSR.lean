/- What Change makes of a tree that agrees. -/
import Derived.Test.YtgocgjfaiddejaaSQ
import Derived.Test.YtgocgjfaiddejaaH29
import Derived.Test.YtgocgjfaiddejaaKD
namespace Go.Proofs.Ytgocgjfaiddejaa.M
open Go.RowKit Go.Proofs.YtgocgjfaiddejaaW.PrintWords Go.Proofs.YtgocgjfaiddejaaW.PrintLast Go.Proofs.YtgocgjfaiddejaaW.PrintMore
set_option linter.unusedVariables false
set_option linter.unusedSimpArgs false
set_option linter.unnecessarySimpa false

theorem rd_withD {l : List S35} {k : Nat} (hk : k < l.length) (d : S33) {j : Nat} (hj : j < l.length) : rd_T35 (withD l k d) j = if k = j then { rd_T35 l k with f2 := d } else rd_T35 l j := by
  unfold withD
  rw [rd35_at (by simpa using hj), List.getElem_set]
  split
  · rfl
  · rw [rd35_at hj]
theorem withD_up {l : List S35} {k : Nat} (hk : k < l.length) (d : S33) {j : Nat} (hj : j < l.length) : (rd_T35 (withD l k d) j).f0 = (rd_T35 l j).f0 ∧ (rd_T35 (withD l k d) j).f1 = (rd_T35 l j).f1 := by
  rw [rd_withD hk d hj]
  split
  · rename_i e; subst e; exact ⟨rfl, rfl⟩
  · exact ⟨rfl, rfl⟩
theorem vTree_withD {l : List S35} (hv : vTree l = true) {k : Nat} (hk : k < l.length) {d : S33} (hd : vD d = true) : vTree (withD l k d) = true := by
  obtain ⟨p1, p2, p3, p4⟩ := vTree_pos hv
  have hl : (withD l k d).length = l.length := by simp [withD]
  have hup := fun j (hj : j < l.length) => withD_up hk d hj
  have h0 := hup 0 p1
  rw [show ((0 : Nat) : Int) = 0 from rfl] at h0
  refine vTree_intro (by rw [hl]; omega) (by rw [hl]; omega) (by rw [h0.1]; exact p3) (by rw [h0.2]; exact p4) (fun j hj => ?_)
  rw [hl] at hj
  have ht := vTree_at hv hj
  have hdj : vD (rd_T35 (withD l k d) j).f2 = true := by
    rw [rd_withD hk d hj]
    split
    · exact hd
    · exact vTw_desc ht
  unfold vTw
  rw [hdj, (hup j hj).1, Bool.true_and]
  by_cases h0 : 0 < j
  · obtain ⟨u, hu, hlt, hdir⟩ := vTw_up ht h0
    rw [hu, (hup u (by omega)).2, hdir]
    simp; omega
  · simp; omega
/-- The descriptor that the changed object gets. -/
structure Chd (s : List S35) (k : Nat) (d d' : S33) (out : List S35) : Prop where
  ok : vD d' = true
  out : IsOut s k d' out
  agree : k = 0 ∨ agB (rd_T35 s (rd_T35 s k).f0).f2 d' (rd_T35 s k).f1 = true
theorem change_some {s : List S35} {k : Int} {d : S33} {out : List S35} (h : sChange s k d = (out, 0)) : ∃ kk : Nat, k = kk ∧ kk < s.length ∧ vTree s = true ∧ ∃ d', Chd s kk d d' out := by
  unfold sChange at h
  by_cases h1 : vTree s = true ∧ vD d = true
  · rw [if_pos h1] at h
    by_cases h2 : 0 ≤ k ∧ k < s.length
    · rw [if_pos h2] at h
      obtain ⟨kk, rfl⟩ : ∃ kk : Nat, k = kk := ⟨k.toNat, by omega⟩
      rw [Int.toNat_natCast] at h
      have hU := vTree_ups h1.1
      have hkk : kk < s.length := by omega
      refine ⟨kk, rfl, hkk, h1.1, ?_⟩
      unfold chF at h
      by_cases h0 : 0 < kk
      · rw [if_pos h0] at h
        obtain ⟨u, hu, hlt⟩ := hU kk h0 hkk
        cases hr : renewD (rd_T35 s (rd_T35 s kk).f0).f2 d (rd_T35 s kk).f1 with
        | none => rw [hr] at h; simp [treeOf] at h
        | some d' =>
          rw [hr, Option.bind_some] at h
          cases hs : spreadF s kk d' with
          | none => rw [hs] at h; simp [treeOf] at h
          | some o =>
            rw [hs] at h
            simp [treeOf] at h
            subst h
            have hp : vD (rd_T35 s (rd_T35 s kk).f0).f2 = true := by rw [hu]; exact vTw_desc (vTree_at h1.1 (by omega))
            exact ⟨d', renew_valid hp h1.2 hr, out_of_spread hU hkk hs, .inr (renew_agB hp hr)⟩
      · rw [if_neg h0] at h
        cases hs : spreadF s kk d with
        | none => rw [hs] at h; simp [treeOf] at h
        | some o =>
          rw [hs] at h
          simp [treeOf] at h
          subst h
          exact ⟨d, h1.2, out_of_spread hU hkk hs, .inl (by omega)⟩
    · rw [if_neg h2] at h; simp at h
  · rw [if_neg h1] at h; simp at h
theorem change_agrees {s : List S35} (ha : ∀ j : Nat, j < s.length → agTw s j = true) {k : Nat} (hk : k < s.length) (hv : vTree s = true) {d d' : S33} {out : List S35} (h : Chd s k d d' out) :
    vTree out = true ∧ (∀ j : Nat, j < out.length → agTw out j = true) := by
  refine ⟨out_vTree hv h.ok h.out, fun j hj => ?_⟩
  rw [h.out.len] at hj
  exact out_agrees hv h.ok h.out (fun i hi _ _ => ha i hi) h.agree j hj
/-- What Change returns is what Spread returns for the tree in which the object has the changed descriptor. -/
theorem change_spread {s : List S35} (ha : ∀ j : Nat, j < s.length → agTw s j = true) {k : Nat} (hk : k < s.length) (hv : vTree s = true) {d d' : S33} {out : List S35} (h : Chd s k d d' out) :
    sSpread (withD s k (rd_T35 out k).f2) = (out, 0) := by
  have hU := vTree_ups hv
  have hd' : (rd_T35 out k).f2 = d' := by rw [h.out.here]
  rw [hd']
  have hvt := vTree_withD hv hk h.ok
  have hlt : (withD s k d').length = s.length := by simp [withD]
  have hUt := vTree_ups hvt
  have hpos := (vTree_pos hv).1
  have hrd := fun j (hj : j < s.length) => rd_withD hk d' (j := j) hj
  have ho : IsOut (withD s k d') 0 (rd_T35 (withD s k d') 0).f2 out := by
    refine ⟨by rw [h.out.len, hlt], ?_, fun j u hj h0 hu hdn => ?_, fun j hj h0 hdn => ?_⟩
    · have e := hrd 0 hpos
      rw [show ((0 : Nat) : Int) = 0 from rfl] at e ⊢
      rw [e]
      by_cases hk0 : k = 0
      · subst hk0
        rw [if_pos rfl]
        exact h.out.here
      · rw [if_neg hk0]
        exact h.out.same 0 hpos (by omega) (dnB_lt hU k 0 hpos (by omega))
    · rw [hlt] at hj
      rw [(withD_up hk d' hj).1] at hu
      obtain ⟨u', hu', hult⟩ := hU j (by omega) hj
      obtain rfl : u' = u := by omega
      rw [hrd j hj]
      by_cases hjk : k = j
      · subst hjk
        rw [if_pos rfl]
        refine ⟨d', ?_, by rw [h.out.here]⟩
        rw [h.out.same u' (by omega) (by omega) (dnB_lt hU k u' (by omega) hult)]
        refine renew_same h.ok ?_
        rcases h.agree with hz | hz
        · omega
        · rw [hu] at hz; exact hz
      · rw [if_neg hjk]
        cases hd : dnB s k j with
        | true => exact h.out.down j u' hj (by omega) hu hd
        | false =>
          have hdu : dnB s k u' = false := by rw [← dnB_step hU k hj (by omega) hu (by omega)]; exact hd
          have hne : u' ≠ k := fun e3 => by subst e3; rw [dnB_self] at hdu; cases hdu
          rw [h.out.same u' (by omega) hne hdu, h.out.same j hj (by omega) hd]
          refine ⟨(rd_T35 s j).f2, renew_same (vTw_desc (vTree_at hv hj)) ?_, rfl⟩
          have := ha j hj
          unfold agTw at this
          rw [hu] at this
          simpa [h0] using this
    · rw [dnB_root hUt j (by rw [hlt]; exact by rw [hlt] at hj; exact hj)] at hdn
      cases hdn
  unfold sSpread
  rw [if_pos hvt, spread_of_out hUt (by rw [hlt]; exact hpos) ho]
  rfl
/-- Spread's answer. -/
theorem spread_ok {l s : List S35} (h : sSpread l = (s, 0)) : vTree s = true ∧ (∀ j : Nat, j < s.length → agTw s j = true) ∧ sSpread s = (s, 0) ∧ sAgrees s = (-1, 0) := by
  have hv : vTree l = true := by
    cases hv : vTree l with
    | true => rfl
    | false => unfold sSpread at h; rw [hv] at h; simp at h
  have hF : spreadF l 0 (rd_T35 l 0).f2 = some s := by
    unfold sSpread at h
    rw [if_pos hv] at h
    cases hF : spreadF l 0 (rd_T35 l 0).f2 with
    | none => rw [hF] at h; simp [treeOf] at h
    | some o => rw [hF] at h; simp [treeOf] at h; rw [h]
  obtain ⟨_, hvs, has⟩ := spread_agrees hv hF
  refine ⟨hvs, has, ?_, agrees_none hvs has⟩
  unfold sSpread
  rw [if_pos hvs, spread_same hvs has]
  rfl
theorem spread_err {l s : List S35} {e : Int} (h : sSpread l = (s, e)) (he : ¬ e = 0) : s = [] := by
  unfold sSpread at h
  split at h
  · cases hF : spreadF l 0 (rd_T35 l 0).f2 with
    | none => rw [hF] at h; simp [treeOf] at h; exact h.1
    | some o => rw [hF] at h; simp [treeOf] at h; exact absurd h.2.symm he
  · simp at h; exact h.1
end Go.Proofs.Ytgocgjfaiddejaa.M
