/- What the calls that change a table hand back; boxes of results. -/
import Derived.Test.YtifnfnoicinbaaaB8
namespace Go.Proofs.Ytifnfnoicinbaaa.M
open Go.RowKit Go.Proofs.YtifnfnoicinbaaaW.PrintWords Go.Proofs.YtifnfnoicinbaaaW.PrintLast Go.Proofs.YtifnfnoicinbaaaW.PrintMore
set_option linter.unusedVariables false
set_option linter.unusedSimpArgs false
set_option linter.unnecessarySimpa false

theorem BegPost.bad {w w' : World} {E : Int} {H Wt : List S24} {e : Ending} (h : BegPost w E H Wt e w') (hE : E ≠ 0) : e = .returned (.tuple #[.pointer none, .int .i64 E]) ∧ Below w.heap.size w w' := by
  obtain ⟨hb, ⟨_, rfl⟩ | ⟨hz, _⟩⟩ := h
  · exact ⟨rfl, hb⟩
  · exact absurd hz hE
theorem BegPost.good {w w' : World} {E : Int} {H Wt : List S24} {e : Ending} (h : BegPost w E H Wt e w') (hE : E = 0) : ∃ q, e = .returned (.tuple #[.pointer (some ⟨q, 0, none⟩), .int .i64 0]) ∧ TabO w' w.heap.size q H Wt [] [] ∧ Below w.heap.size w w' := by
  obtain ⟨hb, ⟨hn, _⟩ | ⟨_, q, rfl, hT⟩⟩ := h
  · exact absurd hE hn
  · exact ⟨q, rfl, hT, hb⟩
def RetN (w : World) (R : List S24 × List S24 × List Int × List Int) (E : Int) (e : Ending) (w' : World) : Prop :=
  ∃ v u, e = .returned (.tuple #[v, u, .int .i64 E]) ∧ TabV w' w.heap.size v R.1 R.2.1 ∧ NewsV w' w.heap.size u R.2.2.1 R.2.2.2 ∧ Below w.heap.size w w'
def RetT (w : World) (R : List S24 × List S24) (E : Int) (e : Ending) (w' : World) : Prop :=
  ∃ v, e = .returned (.tuple #[v, .int .i64 E]) ∧ TabV w' w.heap.size v R.1 R.2 ∧ Below w.heap.size w w'
theorem tabV_nil (w : World) (base : Nat) : TabV w base (.agg #[.slice none 0 0, .slice none 0 0]) [] [] := ⟨_, _, rfl, Kd.R_nil _ _ _ _ _, Kd.R_nil _ _ _ _ _⟩
theorem newsV_nil (w : World) (base : Nat) : NewsV w base (.agg #[.slice none 0 0, .slice none 0 0]) [] [] := ⟨_, _, rfl, Kd.R_nil _ _ _ _ _, Kd.R_nil _ _ _ _ _⟩
section
variable {P : Program}
theorem results_cells3 {fn : Func} {p q r : Tmp} {t u : TypeId} {tmps : Array Value} {W : World} {a b : Addr} {v v' : Value} (h : fn.results = #[.cell p t, .cell q u, .tmp r]) (hp : tmps.getD p undef = .pointer (some a)) (hq : tmps.getD q undef = .pointer (some b)) (hl : (loadVar t a).run P W = .ok v W) (hl' : (loadVar u b).run P W = .ok v' W) : (results fn tmps).run P W = .ok (.tuple #[v, v', tmps.getD r undef]) W := by
  have hp' : tmps[p]?.getD undef = .pointer (some a) := by simpa using hp
  have hq' : tmps[q]?.getD undef = .pointer (some b) := by simpa using hq
  simp [results, h, hp', hq', asAddr, hl, hl']
theorem results_cellT {fn : Func} {p r : Tmp} {t : TypeId} {tmps : Array Value} {W : World} {a : Addr} {v : Value} (h : fn.results = #[.cell p t, .tmp r]) (hp : tmps.getD p undef = .pointer (some a)) (hl : (loadVar t a).run P W = .ok v W) : (results fn tmps).run P W = .ok (.tuple #[v, tmps.getD r undef]) W := by
  have hp' : tmps[p]?.getD undef = .pointer (some a) := by simpa using hp
  simp [results, h, hp', asAddr, hl]
end
/-- Two cells of a box are written. -/
theorem put_two {w4 w : World} {n b t : Nat} {c1 c2 : Value} (a1 a2 : Value) (h2 : w4.heap[b]? = some (.cells #[c1, c2] t (0, 0))) (hB : Below n w w4) (hn : n ≤ b) :
    ((w4.setCell ⟨b, 0, none⟩ a1).setCell ⟨b, 1, none⟩ a2).heap[b]? = some (.cells #[a1, a2] t (0, 0)) ∧ Below n w ((w4.setCell ⟨b, 0, none⟩ a1).setCell ⟨b, 1, none⟩ a2) :=
  ⟨blk_put (blk_put h2 0 a1 rfl) 1 a2 rfl, (hB.setCell (p := ⟨b, 0, none⟩) hn a1).setCell (p := ⟨b, 1, none⟩) hn a2⟩
theorem two_far {w4 : World} {b c t t' : Nat} {cs cs' : Array Value} (a1 a2 : Value) (h : w4.heap[c]? = some (.cells cs t (0, 0))) (hb : w4.heap[b]? = some (.cells cs' t' (0, 0))) (hne : t ≠ t') : ((w4.setCell ⟨b, 0, none⟩ a1).setCell ⟨b, 1, none⟩ a2).heap[c]? = some (.cells cs t (0, 0)) :=
  blk_far (blk_far h (p := ⟨b, 0, none⟩) (blk_ne h hb hne) a1) (p := ⟨b, 1, none⟩) (blk_ne h hb hne) a2
theorem R_two {α : Type} {d : Kd α} {e : Nat} {w4 : World} {base : Nat} {ok : Nat → Prop} {v : Value} {xs : List α} {b t : Nat} {c1 c2 : Value} (a1 a2 : Value) (h : d.R e w4 base ok v xs) (hb : w4.heap[b]? = some (.cells #[c1, c2] t (0, 0))) (ht : ∀ q, q ∈ e :: d.E → q ≠ t) : d.R e ((w4.setCell ⟨b, 0, none⟩ a1).setCell ⟨b, 1, none⟩ a2) base ok v xs :=
  Kd.R_set (Kd.R_set h hb ht 0 a1) (blk_put hb 0 a1 rfl) ht 1 a2
def knownB (h : Int) : Bool := decide (1 ≤ h) && decide (h ≤ 1073741824)
theorem known_calls (h : Int) (w : World) : Calls Try.prog 57 #[.int .i64 h] w fun e w' => e = .returned (.bool (knownB h)) ∧ Below w.heap.size w w' := by
  refine (lock_known.calls h (knownB h) w ?_).mono ?_
  · unfold lock_known.f knownB
    split
    · rename_i h1
      rw [decide_eq_true (show 1 ≤ h from h1)]; simp
    · rename_i h1
      rw [decide_eq_false (show ¬ 1 ≤ h from h1)]; simp
  · rintro e w' ⟨rfl, hd⟩
    exact ⟨rfl, hd.below⟩
/-! The plain answers. -/
abbrev settleL (H Wt : List S24) : List S24 × List S24 × List Int × List Int := PL.settle hdL mtL H Wt
def cancelF (H Wt : List S24) (h : Int) : (List S24 × List S24 × List Int × List Int) × Int :=
  if begE H Wt (knownB h) = 0 then (match PL.waitI hdL Wt h with | none => (([], [], [], []), 3) | some i => (settleL H (Wt.eraseIdx i), 0)) else (([], [], [], []), begE H Wt (knownB h))
def closeF (H Wt : List S24) (h : Int) : (List S24 × List S24 × List Int × List Int) × Int :=
  if begE H Wt (knownB h) = 0 then (settleL (H.filter (fun x => !(hdL x == h))) (Wt.filter (fun x => !(hdL x == h))), 0) else (([], [], [], []), begE H Wt (knownB h))
def askF (H Wt : List S24) (l : S24) : (List S24 × List S24 × List Int × List Int) × Int :=
  if reqE H Wt l = 0 then (settleL H (Wt ++ [l]), 0) else (([], [], [], []), reqE H Wt l)
def tryF (H Wt : List S24) (l : S24) : (List S24 × List S24) × Int :=
  if reqE H Wt l = 0 then (if H.any (fun x => mtL x l) || Wt.any (fun x => mtL x l) then (([], []), 15) else ((H ++ [l], Wt), 0)) else (([], []), reqE H Wt l)
def mayF (H Wt : List S24) (l : S24) : Int := if begE H Wt (vL l) = 0 then (if H.any (fun x => mtL x l) then 15 else 0) else begE H Wt (vL l)
theorem beg_zero {H Wt : List S24} {g : Bool} (h : begE H Wt g = 0) : checksB H Wt = true ∧ g = true := by
  unfold begE at h
  cases hc : checksB H Wt <;> cases g <;> simp_all
theorem checks_parts {H Wt : List S24} (h : checksB H Wt = true) : validB H Wt = true ∧ freeB H = true ∧ singleB Wt = true ∧ waitingB H Wt = true := by
  unfold checksB at h
  simp only [Bool.and_eq_true] at h
  exact ⟨h.1.1.1, h.1.1.2, h.1.2, h.2⟩
theorem beg_good {H Wt : List S24} {g : Bool} (h : begE H Wt g = 0) : Good H Wt := by
  obtain ⟨h1, _, h3, _⟩ := checks_parts (beg_zero h).1
  exact good_of h1 h3
theorem Good.sub {H Wt H' W' : List S24} (h : Good H Wt) (hH : H'.Sublist H) (hW : W'.Sublist Wt) : Good H' W' where
  wf := fun x hx => h.wf x (by
    rcases List.mem_append.1 hx with hx | hx
    · exact List.mem_append_left _ (hH.subset hx)
    · exact List.mem_append_right _ (hW.subset hx))
  len := by have := h.len; have := hH.length_le; have := hW.length_le; omega
  single := by
    have := h.single
    unfold PL.Single at *
    exact this.sublist (hW.map _)
theorem req_parts {H Wt : List S24} {l : S24} (h : reqE H Wt l = 0) : begE H Wt (vL l) = 0 ∧ waitN Wt l.f1 < 0 ∧ H.length + Wt.length < 400 := by
  unfold reqE at h
  split at h
  · rename_i hb
    split at h
    · cases h
    · rename_i hw
      split at h
      · cases h
      · rename_i hl
        exact ⟨hb, by omega, by omega⟩
  · rename_i hb
    exact absurd h hb
theorem waitN_neg {Wt : List S24} {h : Int} (hn : waitN Wt h < 0) : PL.waitI hdL Wt h = none := by
  unfold waitN firstAt at hn
  unfold PL.waitI
  cases hq : Wt.findIdx? (fun x => hdL x == h) with
  | none => rfl
  | some i => rw [hq] at hn; simp at hn; omega
theorem waitN_none {Wt : List S24} {h : Int} (hn : PL.waitI hdL Wt h = none) : waitN Wt h = -1 := by
  unfold waitN firstAt
  unfold PL.waitI at hn
  rw [hn]
theorem req_good {H Wt : List S24} {l : S24} (h : reqE H Wt l = 0) : Good H (Wt ++ [l]) := by
  obtain ⟨hb, hw, hl⟩ := req_parts h
  have hG := beg_good hb
  have hv := (beg_zero hb).2
  refine ⟨fun x hx => ?_, by simp; omega, ?_⟩
  · rw [← List.append_assoc] at hx
    rcases List.mem_append.1 hx with hx | hx
    · exact hG.wf x hx
    · rw [List.mem_singleton] at hx
      subst hx
      exact vL_wf hv
  · have hs := hG.single
    have hn := PL.waitI_none (waitN_neg hw)
    unfold PL.Single at *
    rw [List.map_append, List.nodup_append]
    refine ⟨hs, by simp, fun a ha b hb e => ?_⟩
    simp at hb
    subst hb
    obtain ⟨x, hx, rfl⟩ := List.mem_map.1 ha
    exact hn x hx e
end Go.Proofs.Ytifnfnoicinbaaa.M
