/- The reference's settling, in plain words; rows that do not touch one another. And what follows of it. -/
import Derived.Test.YtifnfnoicinbaaaQD
import Derived.Test.YtifnfnoicinbaaaFR
namespace Go.Proofs.Ytifnfnoicinbaaa.M
open Go.RowKit Go.Proofs.YtifnfnoicinbaaaW.PrintWords Go.Proofs.YtifnfnoicinbaaaW.PrintLast Go.Proofs.YtifnfnoicinbaaaW.PrintMore
set_option linter.unusedVariables false
set_option linter.unusedSimpArgs false
set_option linter.unnecessarySimpa false
attribute [local go_sem high] eqA24

theorem without_f {l : List S24} {i : Nat} (hi : i < l.length) (hl : l.length ≤ 1000) : archivoltref31_without.f l (i : Int) = some (l.eraseIdx i) := by
  unfold archivoltref31_without.f
  have e : wrap64 ((i : Int) + 1) = ((i + 1 : Nat) : Int) := by unfold wrap64; omega
  rw [e]
  try simp only [Option.bind_some]
  rw [if_pos (show 0 ≤ (i : Int) by omega), if_pos (show (i : Int) ≤ (l.length : Int) by omega)]
  simp only [Option.bind_some, List.nil_append, List.length_nil, Int.toNat_natCast]
  rw [if_pos (by simp; omega)]
  try simp only [Option.bind_some]
  rw [if_pos (show 0 ≤ ((i + 1 : Nat) : Int) by omega), if_pos (show ((i + 1 : Nat) : Int) ≤ (l.length : Int) by omega)]
  try simp only [Option.bind_some, Int.toNat_natCast]
  rw [if_pos (by simp; omega), List.eraseIdx_eq_take_drop_succ]
theorem withoutR_calls (A : Option Addr) (c : Nat) (l : List S24) (i : Nat) (w : World) (h : k24.C w A l.length l) (hc : l.length ≤ c) (hi : i < l.length) (hl : l.length ≤ 1000) :
    Calls Try.prog 53 #[.slice A l.length c, .int .i64 (i : Int)] w fun e w' => ∃ v : Value, e = .returned v ∧ k24.R 24 w' w.heap.size (fun _ => True) v (l.eraseIdx i) ∧ Below w.heap.size w w' :=
  archivoltref31_without.calls A c l (i : Int) _ w h hc (without_f hi hl)
theorem copied_f {H W : List S24} (h1 : H.length ≤ 1000) (h2 : W.length ≤ 1000) : archivoltref31_copied.f H W = some (H, W) := by
  unfold archivoltref31_copied.f
  simp only [Option.bind_some, List.nil_append, List.length_nil]
  rw [if_pos (by omega), if_pos (by omega)]
theorem copiedR_calls (A B : Option Addr) (c d : Nat) (H W : List S24) (w : World) (h1 : k24.C w A H.length H) (h2 : k24.C w B W.length W) (l1 : H.length ≤ c) (l2 : W.length ≤ d) (hl : H.length + W.length ≤ 1000) :
    Calls Try.prog 51 #[.agg #[.slice A H.length c, .slice B W.length d]] w fun e w' => ∃ v0 v1 : Value, e = .returned (.agg #[v0, v1]) ∧ k24.R 24 w' w.heap.size (fun k => some k ≠ v1.ownBlock) v0 H ∧ k24.R 24 w' w.heap.size (fun k => some k ≠ v0.ownBlock) v1 W ∧ Below w.heap.size w w' :=
  archivoltref31_copied.calls A c H B d W H W w h1 l1 h2 l2 (copied_f (by omega) (by omega))
section
variable {α β : Type} {d : Kd α} {d' : Kd β} {e e' : Nat} {w w' : World} {base base' : Nat} {ok ok' : Nat → Prop} {v u u1 : Value} {xs : List α} {ys : List β}
/-- A fresh row, and one that there was. -/
theorem R_old (h : d.R e w base ok v xs) (hb : Below w.heap.size w w') (h' : d'.R e' w' w.heap.size ok' u ys) : d.R e w' base (fun k => some k ≠ u.ownBlock) v xs :=
  Kd.R_mono (Kd.R_below (Kd.R_bound h) hb) (fun k hk he => by have h1 := Kd.R_base h' k he.symm; have h2 := hk.2.2.1; omega)
theorem R_fresh (h : d.R e w base ok v xs) (h' : d'.R e' w' w.heap.size ok' u ys) (hbb : base' ≤ w.heap.size) : d'.R e' w' base' (fun k => some k ≠ v.ownBlock) u ys :=
  Kd.R_lower (Kd.R_mono (Kd.R_bound h') (fun k hk he => by have h1 := ((Kd.R_bound h).1 k he.symm).2.2.1; have h2 := hk.2.1; omega)) hbb
/-- Rows of another type stay where a row grows. -/
theorem R_aside (h : d.R e w base ok v xs) (h' : d'.R e' w base' ok' u ys) (hne : ∀ q, q ∈ e :: d.E → e' ≠ q) (hg : w.grownBy w' u.ownBlock) : d.R e w' base ok v xs :=
  Kd.R_mono (Kd.R_grown (Kd.R_bound h) hg (fun k hk => by
    obtain ⟨_, _, _, q, hq, cells, hc⟩ := hk
    exact Kd.R_ne h' hc (hne q hq))) (fun _ hk => hk.1)
/-- The row beside one that grows. -/
theorem R_beside (h : d.R e w base (fun k => some k ≠ u.ownBlock) v xs) (hg : w.grownBy w' u.ownBlock) (hat : u1.ownBlock = u.ownBlock ∨ ∃ b, u1.ownBlock = some b ∧ w.heap.size ≤ b) : d.R e w' base (fun k => some k ≠ u1.ownBlock) v xs :=
  Kd.R_mono (Kd.R_grown (Kd.R_bound h) hg (fun k hk => hk.1)) (fun k hk => by
    rcases hat with he | ⟨b, he, hb⟩
    · rw [he]; exact hk.1
    · rw [he]
      intro h2
      injection h2 with h2
      have h3 := hk.2.2.1
      omega)
theorem R_room (h : d.R e w base ok v xs) : ∀ k, w.heap.size ≤ k → some k ≠ v.ownBlock := fun k hk he => by
  have := ((Kd.R_bound h).1 k he.symm).2.2.1
  omega
end
/-- The first wait from a place on that nothing blocks. -/
def frF (H W : List S24) (m : Nat) : Int := match ((List.range W.length).drop m).find? (fun i => (PL.blks mtL H W i).isEmpty) with | none => -1 | some i => (i : Int)
theorem frF_end (H W : List S24) : frF H W W.length = -1 := by
  unfold frF
  rw [List.drop_of_length_le (by simp)]
  rfl
theorem frF_step {H W : List S24} {m : Nat} (h : m < W.length) : frF H W m = if PL.blks mtL H W m = [] then (m : Int) else frF H W (m + 1) := by
  unfold frF
  have hm : m < (List.range W.length).length := by simpa using h
  rw [drop_at' hm, List.getElem_range, List.find?_cons]
  cases hb : PL.blks mtL H W m with
  | nil => rfl
  | cons x l => simp
theorem frF_none {H W : List S24} (h : PL.freeI mtL H W = none) : frF H W 0 = -1 := by
  unfold frF
  unfold PL.freeI at h
  rw [List.drop_zero, h]
theorem frF_some {H W : List S24} {i : Nat} (h : PL.freeI mtL H W = some i) : frF H W 0 = (i : Int) := by
  unfold frF
  unfold PL.freeI at h
  rw [List.drop_zero, h]
/-- The greatest handle in a deadlock below a place. -/
def svF (H W : List S24) (i : Nat) : Int := (W.take i).foldl (fun out w => if decide (out < hdL w) && PL.circB hdL mtL H W (hdL w) then hdL w else out) 0
theorem svF_end (H W : List S24) : svF H W W.length = PL.stuckV hdL mtL H W := by unfold svF PL.stuckV; rw [List.take_length]
theorem svF_step {H W : List S24} {i : Nat} (h : i < W.length) : svF H W (i + 1) = if decide (svF H W i < hdL (rd_T24 W (i : Int))) && PL.circB hdL mtL H W (hdL (rd_T24 W (i : Int))) then hdL (rd_T24 W (i : Int)) else svF H W i := by
  unfold svF
  rw [List.take_succ_eq_append_getElem h, List.foldl_append, rd_at h]
  rfl
def GoneI (H W : List S24) (i : Nat) (g : Int) : Prop := (g = -1 ∧ svF H W i = 0) ∨ ∃ j : Nat, g = (j : Int) ∧ j < W.length ∧ hdL (rd_T24 W (j : Int)) = svF H W i ∧ 0 < svF H W i
theorem GoneI.start (H W : List S24) : GoneI H W 0 (-1) := .inl ⟨rfl, rfl⟩
theorem GoneI.keep {H W : List S24} {i : Nat} {g : Int} (h : GoneI H W i g) (hi : i < W.length) (hn : PL.circB hdL mtL H W (hdL (rd_T24 W (i : Int))) = false ∨ ¬ svF H W i < hdL (rd_T24 W (i : Int))) : GoneI H W (i + 1) g := by
  have e : svF H W (i + 1) = svF H W i := by
    rw [svF_step hi]
    rcases hn with hn | hn
    · rw [hn]; simp
    · rw [decide_eq_false hn]; simp
  unfold GoneI
  rw [e]
  exact h
theorem GoneI.take {H W : List S24} {i : Nat} (hi : i < W.length) (hc : PL.circB hdL mtL H W (hdL (rd_T24 W (i : Int))) = true) (hl : svF H W i < hdL (rd_T24 W (i : Int))) (hp : 0 < hdL (rd_T24 W (i : Int))) : GoneI H W (i + 1) (i : Int) := by
  refine .inr ⟨i, rfl, hi, ?_, ?_⟩ <;> rw [svF_step hi, hc, decide_eq_true hl]
  · rfl
  · exact hp
/-- What a round of settling keeps. -/
structure SettI (H0 W0 H W : List S24) (G N : List Int) : Prop where
  allH : ∀ x ∈ H, vL x = true
  allW : ∀ x ∈ W, vL x = true
  single : PL.Single hdL W
  len : H.length + W.length ≤ 1000
  lenN : G.length + N.length + W.length ≤ 1000
  eq : settleL H0 W0 = PL.settleF hdL mtL (W.length + 1) H W G N
theorem SettI.start {H W : List S24} (h1 : ∀ x ∈ H, vL x = true) (h2 : ∀ x ∈ W, vL x = true) (h3 : PL.Single hdL W) (h4 : H.length + W.length ≤ 1000) : SettI H W H W [] [] := ⟨h1, h2, h3, h4, by simp; omega, rfl⟩
theorem single_erase {W : List S24} (h : PL.Single hdL W) (i : Nat) : PL.Single hdL (W.eraseIdx i) := by
  unfold PL.Single at *
  exact h.sublist ((List.eraseIdx_sublist W i).map _)
theorem SettI.grant {H0 W0 H W : List S24} {G N : List Int} (h : SettI H0 W0 H W G N) {i : Nat} (hf : PL.freeI mtL H W = some i) : i < W.length ∧ SettI H0 W0 (H ++ [rd_T24 W (i : Int)]) (W.eraseIdx i) (G ++ [hdL (rd_T24 W (i : Int))]) N := by
  obtain ⟨w, hw, _⟩ := PL.freeI_some hf
  obtain ⟨hi, rfl⟩ := List.getElem?_eq_some_iff.1 hw
  refine ⟨hi, ?_⟩
  have hl : (W.eraseIdx i).length + 1 = W.length := by rw [List.length_eraseIdx_of_lt hi]; omega
  rw [rd_at hi]
  refine ⟨fun x hx => ?_, fun x hx => h.allW x ((List.eraseIdx_sublist W i).subset hx), single_erase h.single i, by have := h.len; simp; omega, by have := h.lenN; simp; omega, ?_⟩
  · rcases List.mem_append.1 hx with hx | hx
    · exact h.allH x hx
    · rw [List.mem_singleton] at hx; subst hx; exact h.allW _ (List.getElem_mem hi)
  · rw [h.eq]
    conv => lhs; unfold PL.settleF
    rw [hf]
    dsimp only
    rw [List.getElem?_eq_getElem hi, hl]
theorem SettI.gone {H0 W0 H W : List S24} {G N : List Int} (h : SettI H0 W0 H W G N) (hf : PL.freeI mtL H W = none) {j : Nat} (hj : j < W.length) (he : hdL (rd_T24 W (j : Int)) = PL.stuckV hdL mtL H W) (hp : 0 < PL.stuckV hdL mtL H W) : SettI H0 W0 H (W.eraseIdx j) G (N ++ [hdL (rd_T24 W (j : Int))]) := by
  have hl : (W.eraseIdx j).length + 1 = W.length := by rw [List.length_eraseIdx_of_lt hj]; omega
  refine ⟨h.allH, fun x hx => h.allW x ((List.eraseIdx_sublist W j).subset hx), single_erase h.single j, by have := h.len; omega, by have := h.lenN; simp; omega, ?_⟩
  rw [h.eq]
  conv => lhs; unfold PL.settleF
  rw [hf]
  dsimp only
  rw [if_neg (by omega), ← he, rd_at hj, PL.waitI_of h.single (List.getElem?_eq_getElem hj)]
  dsimp only
  rw [hl]
theorem SettI.done {H0 W0 H W : List S24} {G N : List Int} (h : SettI H0 W0 H W G N) (hf : PL.freeI mtL H W = none) (hs : PL.stuckV hdL mtL H W = 0) : settleL H0 W0 = (H, W, G, N) := by
  rw [h.eq]
  unfold PL.settleF
  rw [hf]
  dsimp only
  rw [if_pos hs]
theorem SettI.good {H0 W0 H W : List S24} {G N : List Int} (h : SettI H0 W0 H W G N) : Good H W where
  wf := fun x hx => by
    rcases List.mem_append.1 hx with h' | h'
    · exact valid_wf' (h.allH x h')
    · exact valid_wf' (h.allW x h')
  len := h.len
  single := h.single
def SettR (w : World) (R : List S24 × List S24 × List Int × List Int) (e : Ending) (w' : World) : Prop :=
  ∃ v u, e = .returned (.tuple #[v, u]) ∧ TabV w' w.heap.size v R.1 R.2.1 ∧ NewsV w' w.heap.size u R.2.2.1 R.2.2.2 ∧ Below w.heap.size w w'
theorem two_far' {w4 : World} {b c t : Nat} {cs : Array Value} (a1 a2 : Value) (h : w4.heap[c]? = some (.cells cs t (0, 0))) (hne : c ≠ b) : ((w4.setCell ⟨b, 0, none⟩ a1).setCell ⟨b, 1, none⟩ a2).heap[c]? = some (.cells cs t (0, 0)) :=
  blk_far (blk_far h (p := ⟨b, 0, none⟩) hne a1) (p := ⟨b, 1, none⟩) hne a2
theorem held3 {w w' : World} {a0 a1 a2 : Addr} {v0 v1 v2 : Value} (hb : Below w.heap.size w w') (h : w.cell? a0 = some v0 ∧ w.cell? a1 = some v1 ∧ w.cell? a2 = some v2) : w'.cell? a0 = some v0 ∧ w'.cell? a1 = some v1 ∧ w'.cell? a2 = some v2 :=
  ⟨pw_cell_below hb h.1, pw_cell_below hb h.2.1, pw_cell_below hb h.2.2⟩
theorem held7 {w w' : World} {a0 a1 a2 a3 a4 a5 a6 : Addr} {v0 v1 v2 v3 v4 v5 v6 : Value} (hb : Below w.heap.size w w') (h : w.cell? a0 = some v0 ∧ w.cell? a1 = some v1 ∧ w.cell? a2 = some v2 ∧ w.cell? a3 = some v3 ∧ w.cell? a4 = some v4 ∧ w.cell? a5 = some v5 ∧ w.cell? a6 = some v6) :
    w'.cell? a0 = some v0 ∧ w'.cell? a1 = some v1 ∧ w'.cell? a2 = some v2 ∧ w'.cell? a3 = some v3 ∧ w'.cell? a4 = some v4 ∧ w'.cell? a5 = some v5 ∧ w'.cell? a6 = some v6 :=
  ⟨pw_cell_below hb h.1, pw_cell_below hb h.2.1, pw_cell_below hb h.2.2.1, pw_cell_below hb h.2.2.2.1, pw_cell_below hb h.2.2.2.2.1, pw_cell_below hb h.2.2.2.2.2.1, pw_cell_below hb h.2.2.2.2.2.2⟩
set_option maxRecDepth 100000 in
set_option maxHeartbeats 8000000 in
theorem settleR_calls (A B : Option Addr) (c d : Nat) (H W : List S24) (w : World) (h1 : k24.C w A H.length H) (h2 : k24.C w B W.length W) (l1 : H.length ≤ c) (l2 : W.length ≤ d) (hv1 : ∀ x ∈ H, vL x = true) (hv2 : ∀ x ∈ W, vL x = true) (hs : PL.Single hdL W) (hlen : H.length + W.length ≤ 1000) :
    Calls Try.prog 54 #[.agg #[.slice A H.length c, .slice B W.length d]] w fun e w' => SettR w (settleL H W) e w' := by
  have HC1 := Aside0.mk h1
  have HC2 := Aside0.mk h2
  have HSI := Aside0.mk (SettI.start hv1 hv2 hs hlen)
  clear h1 h2 hv1 hv2 hs
  go_enter Try.func54, Try.ntmps54
  go_upto_region 1 with (fail)
  have hb_ := below_alloc (below_alloc (below_alloc (Below.refl _ w) (.cells #[.slice A H.length c, .slice B W.length d] 29)) (.cells #[.slice none 0 0, .slice none 0 0] 29)) (.cells #[.slice none 0 0, .slice none 0 0] 33)
  have hG0_ := blk_alloc (blk_alloc (blk_lit0 w (.cells #[.slice A H.length c, .slice B W.length d] 29)) (.cells #[.slice none 0 0, .slice none 0 0] 29)) (.cells #[.slice none 0 0, .slice none 0 0] 33)
  have hG1_ := blk_alloc (blk_lit w (.cells #[.slice A H.length c, .slice B W.length d] 29) (.cells #[.slice none 0 0, .slice none 0 0] 29)) (.cells #[.slice none 0 0, .slice none 0 0] 33)
  have hG2_ := blk_lit2 w (.cells #[.slice A H.length c, .slice B W.length d] 29) (.cells #[.slice none 0 0, .slice none 0 0] 29) (.cells #[.slice none 0 0, .slice none 0 0] 33)
  generalize (((w.alloc (.cells #[.slice A H.length c, .slice B W.length d] 29)).alloc (.cells #[.slice none 0 0, .slice none 0 0] 29)).alloc (.cells #[.slice none 0 0, .slice none 0 0] 33)) = V at hb_ hG0_ hG1_ hG2_ ⊢
  have HB_V := Aside0.mk hb_
  have V0 := Aside0.mk hG0_
  have V1 := Aside0.mk hG1_
  have V2 := Aside0.mk hG2_
  clear hb_ hG0_ hG1_ hG2_
  have x0 := (blk_cell V0.out 0).trans rfl; have x1 := (blk_cell V0.out 1).trans rfl
  go_upto_region 2 with (fail)
  refine (copiedR_calls A B c d H W _ (Kd.C_below HC1.out HB_V.out) (Kd.C_below HC2.out HB_V.out) l1 l2 hlen).mono ?_
  rintro e w3 ⟨v0, v1, rfl, r0, r1, hb⟩
  have T1 := Aside0.mk (blk_below V0.out hb)
  have T2 := Aside0.mk (blk_below V1.out hb)
  have T3 := Aside0.mk (blk_below V2.out hb)
  have RH := Aside0.mk (Kd.R_lower r0 HB_V.out.size)
  have RW := Aside0.mk (Kd.R_lower r1 HB_V.out.size)
  have BB := Aside0.mk (below_step HB_V.out hb)
  clear hb r0 r1 x0 x1 HB_V V0 V1 V2
  obtain ⟨hA, hc, rfl⟩ := Kd.R_slice RH.out
  obtain ⟨wA, wc, rfl⟩ := Kd.R_slice RW.out
  have x0 := (blk_cell T1.out 0).trans rfl; have x1 := (blk_cell T1.out 1).trans rfl
  have fx0 := blk_frozen T1.out 0; have fx1 := blk_frozen T1.out 1
  go_upto_region 2 with (fail)
  clear x0 x1 fx0 fx1
  have P_ := Aside0.mk (put_two (n := w.heap.size) (w := w) (.slice hA H.length hc) (.slice wA W.length wc) T1.out BB.out (Nat.le_refl _))
  have T2 := Aside0.mk (two_far' (.slice hA H.length hc) (.slice wA W.length wc) T2.out (show w.heap.size + 1 ≠ w.heap.size by omega))
  have T3 := Aside0.mk (two_far' (.slice hA H.length hc) (.slice wA W.length wc) T3.out (show w.heap.size + 1 + 1 ≠ w.heap.size by omega))
  have RH := Aside0.mk (R_two (.slice hA H.length hc) (.slice wA W.length wc) RH.out T1.out (by decide))
  have RW := Aside0.mk (R_two (.slice hA H.length hc) (.slice wA W.length wc) RW.out T1.out (by decide))
  have T1 := Aside0.mk P_.out.1
  have BB := Aside0.mk P_.out.2
  clear P_
  generalize (w3.setCell ⟨w.heap.size, 0, none⟩ (.slice hA H.length hc)).setCell ⟨w.heap.size, 1, none⟩ (.slice wA W.length wc) = w4 at T1 T2 T3 RH RW BB ⊢
  go_upto_region 3 with (fail)
  have L4 := Aside0.mk (show w.heap.size + 1 + 1 < w4.heap.size from blk_lt T3.out)
  have hbx := below_alloc (Below.refl _ w4) (.cells #[.slice none 0 0, .slice none 0 0] 33)
  have T4 := Aside0.mk (blk_new w4 (.cells #[.slice none 0 0, .slice none 0 0] 33))
  have T1 := Aside0.mk (blk_below T1.out hbx)
  have T2 := Aside0.mk (blk_below T2.out hbx)
  have T3 := Aside0.mk (blk_below T3.out hbx)
  have RH := Aside0.mk (Kd.R_below RH.out hbx)
  have RW := Aside0.mk (Kd.R_below RW.out hbx)
  have BB := Aside0.mk (below_step BB.out hbx)
  clear hbx
  generalize w4.alloc (.cells #[.slice none 0 0, .slice none 0 0] 33) = w5 at T1 T2 T3 T4 RH RW BB ⊢
  generalize w4.heap.size = b4 at T4 L4 ⊢
  go_loopg [5] W.length (fun kq v5 w' => ∃ (H1 W1 : List S24) (G N : List Int) (vH vW vG vN : Value), Aside0 (kq = W1.length) ∧ Aside0 (w'.heap[w.heap.size]? = some (.cells #[vH, vW] 29 (0, 0))) ∧ Aside0 (w'.heap[w.heap.size + 1]? = some (.cells #[.slice none 0 0, .slice none 0 0] 29 (0, 0))) ∧ Aside0 (w'.heap[w.heap.size + 1 + 1]? = some (.cells #[.slice none 0 0, .slice none 0 0] 33 (0, 0))) ∧ Aside0 (w'.heap[b4]? = some (.cells #[vG, vN] 33 (0, 0))) ∧ Aside0 (k24.R 24 w' w.heap.size (fun k => some k ≠ vW.ownBlock) vH H1) ∧ Aside0 (k24.R 24 w' w.heap.size (fun k => some k ≠ vH.ownBlock) vW W1) ∧ Aside0 (kI.R 3 w' w.heap.size (fun k => some k ≠ vN.ownBlock) vG G) ∧ Aside0 (kI.R 3 w' w.heap.size (fun k => some k ≠ vG.ownBlock) vN N) ∧ Aside0 (Below w.heap.size w w') ∧ Aside0 (SettI H W H1 W1 G N))
  case atStart => exact ⟨H, W, [], [], _, _, _, _, ⟨rfl⟩, T1, T2, T3, T4, RH, RW, ⟨Kd.R_nil _ _ _ _ _⟩, ⟨Kd.R_nil _ _ _ _ _⟩, BB, HSI⟩
  case round =>
    obtain ⟨H1, W1, G, N, vH, vW, vG, vN, HKQ, T1, T2, T3, T4, RH, RW, RG, RN, BB, HSI⟩ := hrel
    obtain ⟨hA, hc, rfl⟩ := Kd.R_slice RH.out
    obtain ⟨wA, wc, rfl⟩ := Kd.R_slice RW.out
    obtain ⟨gA, gc, rfl⟩ := Kd.R_slice RG.out
    obtain ⟨nA, nc, rfl⟩ := Kd.R_slice RN.out
    have hlen1 : H1.length + W1.length ≤ 1000 := HSI.out.len
    have hlenN : G.length + N.length + W1.length ≤ 1000 := HSI.out.lenN
    have hcH : H1.length ≤ hc := (Kd.R_reads' RH.out).2.1
    have hcW : W1.length ≤ wc := (Kd.R_reads' RW.out).2.1
    have x0 := (blk_cell T1.out 0).trans rfl; have x1 := (blk_cell T1.out 1).trans rfl
    go_upto_region 6 with (fail)
    clear x0 x1
    obtain ⟨wo, hwo⟩ : ∃ z, z = wr := ⟨_, rfl⟩
    rw [← hwo] at T1 T2 T3 T4 RH RW RG RN BB ⊢
    clear hwo
    go_loopg [5, 7] W1.length (fun kq v5 v7 w' => ∃ m : Nat, v7 = .int .i64 ((m : Int) - 1) ∧ v5 = .int .i64 (frF H1 W1 m) ∧ Aside0 (kq = m ∧ m ≤ W1.length) ∧ Aside0 (Below wo.heap.size wo w'))
    case atStart => exact ⟨W1.length, rfl, by rw [frF_end], ⟨rfl, Nat.le_refl _⟩, ⟨Below.refl _ _⟩⟩
    case round =>
      obtain ⟨m, rfl, rfl, HM, HB⟩ := hrel
      have U := Aside0.mk (blk_below T1.out HB.out)
      have x0 := (blk_cell U.out 0).trans rfl; have x1 := (blk_cell U.out 1).trans rfl
      cases m with
      | succ m =>
        rw [show ((m + 1 : Nat) : Int) - 1 = (m : Int) by omega]
        have hml : m < W1.length := by have := HM.out.2; omega
        have g1 : decide ((0 : Int) ≤ (m : Int)) = true := by simp
        go_upto_region 9 with (fail)
        refine (blockersR_calls hA wA hc wc H1 W1 m _ (Kd.C_below (Kd.R_reads' RH.out).2.2 HB.out) (Kd.C_below (Kd.R_reads' RW.out).2.2 HB.out) hcH hcW (by omega) (by omega) hml).mono ?_
        rintro e w7 ⟨v, rfl, hv, hb⟩
        rw [blks_cf HSI.out.allH HSI.out.allW] at hv
        have HST := Aside0.mk (frF_step (H := H1) hml)
        have HBL := Aside0.mk (show ((PL.blks mtL H1 W1 m).map hdL).length ≤ 1000 by rw [List.length_map]; have := PL.blks_len (mt := mtL) (H := H1) (W := W1) m; omega)
        have HBE := Aside0.mk (show PL.blks mtL H1 W1 m = [] ↔ ((PL.blks mtL H1 W1 m).map hdL).length = 0 by rw [List.length_map]; simp)
        generalize (PL.blks mtL H1 W1 m).map hdL = NN at hv HBL HBE
        obtain ⟨na, nn, rfl⟩ := Kd.R_slice hv
        have hnl : NN.length ≤ 1000 := HBL.out
        have HB := Aside0.mk (below_step HB.out hb)
        clear hb hv x0 x1 U
        cases g3 : ((NN.length : Int) == 0) with
        | true =>
          have HFS := Aside0.mk (show frF H1 W1 m = (m : Int) by rw [HST.out, if_pos (HBE.out.2 (by have h9 : (NN.length : Int) = 0 := (by simpa using g3); omega))])
          go_wp2
          clear g1 g3
          go_roundg m
          case measure => have := HM.out.1; omega
          case rel => exact ⟨m, by first | rfl | go_num, by rw [HFS.out], ⟨rfl, by omega⟩, HB⟩
        | false =>
          have HFS := Aside0.mk (show frF H1 W1 m = frF H1 W1 (m + 1) by rw [HST.out, if_neg (fun h => by have := HBE.out.1 h; rw [this] at g3; simp at g3)])
          go_wp2
          clear g1 g3
          go_roundg m
          case measure => have := HM.out.1; omega
          case rel => exact ⟨m, by first | rfl | go_num, by rw [HFS.out], ⟨rfl, by omega⟩, HB⟩
      | zero =>
        rw [show ((0 : Nat) : Int) - 1 = -1 by omega]
        have g1 : decide ((0 : Int) ≤ -1) = false := by decide
        have T1 := Aside0.mk (blk_below T1.out HB.out)
        have T2 := Aside0.mk (blk_below T2.out HB.out)
        have T3 := Aside0.mk (blk_below T3.out HB.out)
        have T4 := Aside0.mk (blk_below T4.out HB.out)
        have RH := Aside0.mk (Kd.R_below RH.out HB.out)
        have RW := Aside0.mk (Kd.R_below RW.out HB.out)
        have RG := Aside0.mk (Kd.R_below RG.out HB.out)
        have RN := Aside0.mk (Kd.R_below RN.out HB.out)
        have BB := Aside0.mk (below_step BB.out HB.out)
        clear HB U x0 x1 HM
        have x0 := (blk_cell T1.out 0).trans rfl; have x1 := (blk_cell T1.out 1).trans rfl
        go_upto_region 11 with (fail)
        clear g1 x0 x1
        cases hf : PL.freeI mtL H1 W1 with
        | some i =>
          rw [frF_some hf]
          obtain ⟨hiW, hgr⟩ := HSI.out.grant hf
          have HGR := Aside0.mk hgr
          clear hgr hf
          go_loopg [6, 8] 0 (fun kq v6 v8 w' => v6 = .int .i64 (-1) ∧ v8 = .int .i64 0 ∧ Aside0 (Below wr.heap.size wr w'))
          case atStart => exact ⟨rfl, rfl, ⟨Below.refl _ _⟩⟩
          case round =>
            obtain ⟨rfl, rfl, HB⟩ := hrel
            have T1 := Aside0.mk (blk_below T1.out HB.out)
            have T2 := Aside0.mk (blk_below T2.out HB.out)
            have T3 := Aside0.mk (blk_below T3.out HB.out)
            have T4 := Aside0.mk (blk_below T4.out HB.out)
            have RH := Aside0.mk (Kd.R_below RH.out HB.out)
            have RW := Aside0.mk (Kd.R_below RW.out HB.out)
            have RG := Aside0.mk (Kd.R_below RG.out HB.out)
            have RN := Aside0.mk (Kd.R_below RN.out HB.out)
            have BB := Aside0.mk (below_step BB.out HB.out)
            clear HB
            have hge : decide ((i : Int) < 0) = false := by simp
            have hge2 : decide ((0 : Int) ≤ (i : Int)) = true := by simp
            obtain ⟨wk, hwk⟩ : ∃ z, z = wr := ⟨_, rfl⟩
            rw [← hwk] at T1 T2 T3 T4 RH RW RG RN BB ⊢
            clear hwk
            go_upto_region 16 with (fail)
            have hix : i < wc := by omega
            obtain ⟨ae, hae, a0, a1, a2, a3, a4⟩ := at_T24 (Kd.R_reads' RW.out).2.2 (i : Int) (by omega) (by omega)
            cases hae
            simp only [Int.toNat_natCast] at a0 a1 a2 a3 a4
            refine start_ (n := 12) (S := fun w' => w'.cell? ⟨b4, 0, none⟩ = some (.slice gA G.length gc) ∧ w'.cell? ⟨w.heap.size, 1, none⟩ = some (.slice (some ae) W1.length wc) ∧ w'.cell? ⟨(ae.add (i * 5)).block, (ae.add (i * 5)).off + 1, none⟩ = some (.int .i64 (rd_T24 W1 (i : Int)).f1)) (ds := [11]) #[false, false, false, false, false, false, false, false, false, false, false, false] (by kernel_rfl) rfl rfl ⟨(blk_cell T4.out 0).trans rfl, (blk_cell T1.out 1).trans rfl, a1⟩ (fun hHeld => ?_)
            have hbd := below_drew1 (Below.refl wk.heap.size wk)
            have T1 := Aside0.mk (blk_below T1.out hbd)
            have T2 := Aside0.mk (blk_below T2.out hbd)
            have T3 := Aside0.mk (blk_below T3.out hbd)
            have T4 := Aside0.mk (blk_below T4.out hbd)
            have RH := Aside0.mk (Kd.R_below RH.out hbd)
            have RW := Aside0.mk (Kd.R_below RW.out hbd)
            have RG := Aside0.mk (Kd.R_below RG.out hbd)
            have RN := Aside0.mk (Kd.R_below RN.out hbd)
            have BB := Aside0.mk (below_step BB.out hbd)
            clear hbd a0 a1 a2 a3 a4
            generalize wk.drew = wd at T1 T2 T3 T4 RH RW RG RN BB hHeld ⊢
            refine pure_ (i := 0) (N := some 62) (v := ?_) (a' := ?_) #[true, false, false, false, false, false, false, false, false, false, false, false] rfl rfl (by kernel_rfl) (fun _ _ _ h => h) (Or.inl ⟨by rfl, ?_⟩) ?_ ?_
            rotate_left
            · intro w'
              go_simp
              with_reducible rfl
            rotate_left
            · simp only [Act.put, List.setIfInBounds_toArray, List.set_cons_zero, List.set_cons_succ, i64_w, i32_w]
              rfl
            refine take_ (i := 1) (N := some 63) (v := ?_) (a' := ?_) #[true, true, false, false, false, false, false, false, false, false, false, false] rfl rfl (by kernel_rfl) (fun _ _ _ h => h) (Or.inl ⟨by rfl, ?_⟩) hHeld ?_ ?_
            rotate_left
            · rintro w' ⟨s0, s1, s2⟩
              go_simp
              with_reducible rfl
            rotate_left
            · simp only [Act.put, List.setIfInBounds_toArray, List.set_cons_zero, List.set_cons_succ, i64_w, i32_w]
              rfl
            refine pure_ (i := 2) (N := some 64) (v := ?_) (a' := ?_) #[true, true, true, false, false, false, false, false, false, false, false, false] rfl rfl (by kernel_rfl) (fun _ _ _ h => h) (Or.inl ⟨by rfl, ?_⟩) ?_ ?_
            rotate_left
            · intro w'
              go_simp
              with_reducible rfl
            rotate_left
            · simp only [Act.put, List.setIfInBounds_toArray, List.set_cons_zero, List.set_cons_succ, i64_w, i32_w]
              rfl
            refine take_ (i := 3) (N := some 65) (v := ?_) (a' := ?_) #[true, true, true, true, false, false, false, false, false, false, false, false] rfl rfl (by kernel_rfl) (fun _ _ _ h => h) (Or.inl ⟨by rfl, ?_⟩) hHeld ?_ ?_
            rotate_left
            · rintro w' ⟨s0, s1, s2⟩
              go_simp
              with_reducible rfl
            rotate_left
            · simp only [Act.put, List.setIfInBounds_toArray, List.set_cons_zero, List.set_cons_succ, i64_w, i32_w]
              rfl
            refine pure_ (i := 4) (N := some 66) (v := ?_) (a' := ?_) #[true, true, true, true, true, false, false, false, false, false, false, false] rfl rfl (by kernel_rfl) (fun _ _ _ h => h) (Or.inl ⟨by rfl, ?_⟩) ?_ ?_
            rotate_left
            · intro w'
              go_simp
              with_reducible rfl
            rotate_left
            · simp only [Act.put, List.setIfInBounds_toArray, List.set_cons_zero, List.set_cons_succ, i64_w, i32_w]
              rfl
            refine pure_ (i := 5) (N := some 67) (v := ?_) (a' := ?_) #[true, true, true, true, true, true, false, false, false, false, false, false] rfl rfl (by kernel_rfl) (fun _ _ _ h => h) (Or.inl ⟨by rfl, ?_⟩) ?_ ?_
            rotate_left
            · intro w'
              go_simp
              with_reducible rfl
            rotate_left
            · simp only [Act.put, List.setIfInBounds_toArray, List.set_cons_zero, List.set_cons_succ, i64_w, i32_w]
              rfl
            refine pure_ (i := 6) (N := some 68) (v := ?_) (a' := ?_) #[true, true, true, true, true, true, true, false, false, false, false, false] rfl rfl (by kernel_rfl) (fun _ _ _ h => h) (Or.inl ⟨by rfl, ?_⟩) ?_ ?_
            rotate_left
            · intro w'
              go_simp
              with_reducible rfl
            rotate_left
            · simp only [Act.put, List.setIfInBounds_toArray, List.set_cons_zero, List.set_cons_succ, i64_w, i32_w]
              rfl
            refine take_ (i := 7) (N := some 69) (v := ?_) (a' := ?_) #[true, true, true, true, true, true, true, true, false, false, false, false] rfl rfl (by kernel_rfl) (fun _ _ _ h => h) (Or.inl ⟨by rfl, ?_⟩) hHeld ?_ ?_
            rotate_left
            · rintro w' ⟨s0, s1, s2⟩
              go_simp
              with_reducible rfl
            rotate_left
            · simp only [Act.put, List.setIfInBounds_toArray, List.set_cons_zero, List.set_cons_succ, i64_w, i32_w]
              rfl
            refine one_ (i := 8) (N := some 70) #[true, true, true, true, true, true, true, true, true, false, false, false] rfl rfl (by kernel_rfl) (by decide) (fun K hK => ?_)
            refine event_step (v := .slice (some ⟨(wd).heap.size, 0, none⟩) 1 1) (w1 := (wd).alloc (.cells #[.int .i64 (rd_T24 W1 (i : Int)).f1] 3)) (by rfl) (by first | (go_simp; done) | (go_simp; rfl)) ?_
            refine hK.out _ _ (held3 (below_alloc (Below.refl _ wd) _) hHeld) (fun hHeld => ?_)
            clear hK K
            refine norm_ (a' := ?_) ?_ ?_
            rotate_left
            · show Act.put _ (some 70) _ = _
              simp only [Act.put, List.setIfInBounds_toArray, List.set_cons_zero, List.set_cons_succ, i64_w, i32_w]
              rfl
            refine one_ (i := 9) (N := some 71) #[true, true, true, true, true, true, true, true, true, true, false, false] rfl rfl (by kernel_rfl) (by decide) (fun K hK => ?_)
            refine Kd.R_append_step kI (w0 := w) w.heap.size (by rfl) (.tmp 63) (.tmp 70) 31 3 (.int .i64 0) 8 rfl Try.underlying31 info3 rfl (by decide) (by omega) (.slice gA G.length gc) G ((rd_T24 W1 (i : Int)).f1) [.int .i64 ((rd_T24 W1 (i : Int)).f1)] (fun k => some k ≠ (Value.slice nA N.length nc).ownBlock) (fun _ => False) rfl rfl rfl (fun _ hk => hk.elim) (R_room RN.out) (RG.out) (BB.out) (BB.out.size) (by omega) ?_
            intro v10 w10 ho hb hg hat
            have T1 := Aside0.mk (blk_grown T1.out hg (Kd.R_ne RG.out T1.out (by decide)))
            have T2 := Aside0.mk (blk_grown T2.out hg (Kd.R_ne RG.out T2.out (by decide)))
            have T3 := Aside0.mk (blk_grown T3.out hg (Kd.R_ne RG.out T3.out (by decide)))
            have T4 := Aside0.mk (blk_grown T4.out hg (Kd.R_ne RG.out T4.out (by decide)))
            have RH := Aside0.mk (R_aside RH.out RG.out (by decide) hg)
            have RW := Aside0.mk (R_aside RW.out RG.out (by decide) hg)
            have RN := Aside0.mk (R_beside RN.out hg hat)
            have RG := Aside0.mk ho
            have BB := Aside0.mk hb
            clear ho hb hg hat
            obtain ⟨ae2, hae, a0, a1, a2, a3, a4⟩ := at_T24 (Kd.R_reads' RW.out).2.2 (i : Int) (by omega) (by omega)
            cases hae
            simp only [Int.toNat_natCast] at a0 a1 a2 a3 a4
            refine hK.out _ _ ⟨(blk_cell T4.out 0).trans rfl, (blk_cell T1.out 1).trans rfl, a1⟩ (fun hHeld => ?_)
            clear hK K
            refine norm_ (a' := ?_) ?_ ?_
            rotate_left
            · show Act.put _ (some 71) _ = _
              simp only [Act.put, List.setIfInBounds_toArray, List.set_cons_zero, List.set_cons_succ, i64_w, i32_w]
              rfl
            clear a0 a1 a2 a3 a4
            refine pure_ (i := 10) (N := some 72) (v := ?_) (a' := ?_) #[true, true, true, true, true, true, true, true, true, true, true, false] rfl rfl (by kernel_rfl) (fun _ _ _ h => h) (Or.inl ⟨by rfl, ?_⟩) ?_ ?_
            rotate_left
            · intro w'
              go_simp
              with_reducible rfl
            rotate_left
            · simp only [Act.put, List.setIfInBounds_toArray, List.set_cons_zero, List.set_cons_succ, i64_w, i32_w]
              rfl
            obtain ⟨KK, hKK⟩ : ∃ KK, KK = G ++ [(rd_T24 W1 (i : Int)).f1] := ⟨_, rfl⟩
            have HKK := Aside0.mk hKK
            rw [← hKK] at RG
            clear hKK
            obtain ⟨kA, kc, rfl⟩ := Kd.R_slice RG.out
            have z0 := (blk_cell T4.out 0).trans rfl; have z1 := (blk_cell T4.out 1).trans rfl
            have fz0 := blk_frozen T4.out 0; have fz1 := blk_frozen T4.out 1
            refine last_ (i := 11) (N := none) #[true, true, true, true, true, true, true, true, true, true, true, true] rfl rfl (by kernel_rfl) (by decide) (fun K hK => ?_)
            refine skip_ (w1 := ?_) (by rfl) rfl ?_ ?_
            rotate_left
            · go_simp
              rfl
            refine hK.out _ _ ?_
            clear hK K
            refine done_ (by kernel_rfl) ?_
            clear z0 z1 fz0 fz1 hHeld
            have T1 := Aside0.mk (blk_far T1.out (p := ⟨b4, 0, none⟩) (blk_ne T1.out T4.out (by decide)) (.slice kA KK.length kc))
            have T2 := Aside0.mk (blk_far T2.out (p := ⟨b4, 0, none⟩) (blk_ne T2.out T4.out (by decide)) (.slice kA KK.length kc))
            have T3 := Aside0.mk (blk_far T3.out (p := ⟨b4, 0, none⟩) (show w.heap.size + 1 + 1 ≠ b4 by have := L4.out; omega) (.slice kA KK.length kc))
            have RH := Aside0.mk (Kd.R_set RH.out T4.out (by decide) 0 (.slice kA KK.length kc))
            have RW := Aside0.mk (Kd.R_set RW.out T4.out (by decide) 0 (.slice kA KK.length kc))
            have RG := Aside0.mk (Kd.R_set RG.out T4.out (by decide) 0 (.slice kA KK.length kc))
            have RN := Aside0.mk (Kd.R_set RN.out T4.out (by decide) 0 (.slice kA KK.length kc))
            have BB := Aside0.mk (BB.out.setCell (p := ⟨b4, 0, none⟩) (show w.heap.size ≤ b4 by have := L4.out; omega) (.slice kA KK.length kc))
            have T4 := Aside0.mk (blk_put T4.out 0 (.slice kA KK.length kc) rfl)
            generalize w10.setCell ⟨b4, 0, none⟩ (.slice kA KK.length kc) = wk at T1 T2 T3 T4 RH RW RG RN BB ⊢
            obtain ⟨ae3, hae, a0, a1, a2, a3, a4⟩ := at_T24 (Kd.R_reads' RW.out).2.2 (i : Int) (by omega) (by omega)
            cases hae
            simp only [Int.toNat_natCast] at a0 a1 a2 a3 a4
            go_upto_region 17 with (fail)
            refine start_ (n := 11) (S := fun w' => w'.cell? ⟨w.heap.size, 0, none⟩ = some (.slice hA H1.length hc) ∧ w'.cell? ⟨w.heap.size, 1, none⟩ = some (.slice (some ae) W1.length wc) ∧ w'.cell? (ae.add (i * 5)) = some (.int .i64 (rd_T24 W1 (i : Int)).f0) ∧ w'.cell? ⟨(ae.add (i * 5)).block, (ae.add (i * 5)).off + 1, none⟩ = some (.int .i64 (rd_T24 W1 (i : Int)).f1) ∧ w'.cell? ⟨(ae.add (i * 5)).block, (ae.add (i * 5)).off + 2, none⟩ = some (.int .i64 (rd_T24 W1 (i : Int)).f2) ∧ w'.cell? ⟨(ae.add (i * 5)).block, (ae.add (i * 5)).off + 3, none⟩ = some (.int .i64 (rd_T24 W1 (i : Int)).f3) ∧ w'.cell? ⟨(ae.add (i * 5)).block, (ae.add (i * 5)).off + 4, none⟩ = some (.bool (rd_T24 W1 (i : Int)).f4)) (ds := [10]) #[false, false, false, false, false, false, false, false, false, false, false] (by kernel_rfl) rfl rfl ⟨(blk_cell T1.out 0).trans rfl, (blk_cell T1.out 1).trans rfl, a0, a1, a2, a3, a4⟩ (fun hHeld => ?_)
            have hbd := below_drew1 (Below.refl wk.heap.size wk)
            have T1 := Aside0.mk (blk_below T1.out hbd)
            have T2 := Aside0.mk (blk_below T2.out hbd)
            have T3 := Aside0.mk (blk_below T3.out hbd)
            have T4 := Aside0.mk (blk_below T4.out hbd)
            have RH := Aside0.mk (Kd.R_below RH.out hbd)
            have RW := Aside0.mk (Kd.R_below RW.out hbd)
            have RG := Aside0.mk (Kd.R_below RG.out hbd)
            have RN := Aside0.mk (Kd.R_below RN.out hbd)
            have BB := Aside0.mk (below_step BB.out hbd)
            clear hbd a0 a1 a2 a3 a4
            generalize wk.drew = wd at T1 T2 T3 T4 RH RW RG RN BB hHeld ⊢
            refine pure_ (i := 0) (N := some 73) (v := ?_) (a' := ?_) #[true, false, false, false, false, false, false, false, false, false, false] rfl rfl (by kernel_rfl) (fun _ _ _ h => h) (Or.inl ⟨by rfl, ?_⟩) ?_ ?_
            rotate_left
            · intro w'
              go_simp
              with_reducible rfl
            rotate_left
            · simp only [Act.put, List.setIfInBounds_toArray, List.set_cons_zero, List.set_cons_succ, i64_w, i32_w]
              rfl
            refine take_ (i := 1) (N := some 74) (v := ?_) (a' := ?_) #[true, true, false, false, false, false, false, false, false, false, false] rfl rfl (by kernel_rfl) (fun _ _ _ h => h) (Or.inl ⟨by rfl, ?_⟩) hHeld ?_ ?_
            rotate_left
            · rintro w' ⟨s0, s1, s2, s3, s4, s5, s6⟩
              go_simp
              with_reducible rfl
            rotate_left
            · simp only [Act.put, List.setIfInBounds_toArray, List.set_cons_zero, List.set_cons_succ, i64_w, i32_w]
              rfl
            refine pure_ (i := 2) (N := some 75) (v := ?_) (a' := ?_) #[true, true, true, false, false, false, false, false, false, false, false] rfl rfl (by kernel_rfl) (fun _ _ _ h => h) (Or.inl ⟨by rfl, ?_⟩) ?_ ?_
            rotate_left
            · intro w'
              go_simp
              with_reducible rfl
            rotate_left
            · simp only [Act.put, List.setIfInBounds_toArray, List.set_cons_zero, List.set_cons_succ, i64_w, i32_w]
              rfl
            refine take_ (i := 3) (N := some 76) (v := ?_) (a' := ?_) #[true, true, true, true, false, false, false, false, false, false, false] rfl rfl (by kernel_rfl) (fun _ _ _ h => h) (Or.inl ⟨by rfl, ?_⟩) hHeld ?_ ?_
            rotate_left
            · rintro w' ⟨s0, s1, s2, s3, s4, s5, s6⟩
              go_simp
              with_reducible rfl
            rotate_left
            · simp only [Act.put, List.setIfInBounds_toArray, List.set_cons_zero, List.set_cons_succ, i64_w, i32_w]
              rfl
            refine pure_ (i := 4) (N := some 77) (v := ?_) (a' := ?_) #[true, true, true, true, true, false, false, false, false, false, false] rfl rfl (by kernel_rfl) (fun _ _ _ h => h) (Or.inl ⟨by rfl, ?_⟩) ?_ ?_
            rotate_left
            · intro w'
              go_simp
              with_reducible rfl
            rotate_left
            · simp only [Act.put, List.setIfInBounds_toArray, List.set_cons_zero, List.set_cons_succ, i64_w, i32_w]
              rfl
            refine pure_ (i := 5) (N := some 78) (v := ?_) (a' := ?_) #[true, true, true, true, true, true, false, false, false, false, false] rfl rfl (by kernel_rfl) (fun _ _ _ h => h) (Or.inl ⟨by rfl, ?_⟩) ?_ ?_
            rotate_left
            · intro w'
              go_simp
              with_reducible rfl
            rotate_left
            · simp only [Act.put, List.setIfInBounds_toArray, List.set_cons_zero, List.set_cons_succ, i64_w, i32_w]
              rfl
            refine take_ (i := 6) (N := some 79) (v := ?_) (a' := ?_) #[true, true, true, true, true, true, true, false, false, false, false] rfl rfl (by kernel_rfl) (fun _ _ _ h => h) (Or.inl ⟨by rfl, ?_⟩) hHeld ?_ ?_
            rotate_left
            · rintro w' ⟨s0, s1, s2, s3, s4, s5, s6⟩
              go_simp
              with_reducible rfl
            rotate_left
            · simp only [Act.put, List.setIfInBounds_toArray, List.set_cons_zero, List.set_cons_succ, i64_w, i32_w]
              rfl
            have HHW := Aside0.mk hHeld
            refine one_ (i := 7) (N := some 80) #[true, true, true, true, true, true, true, true, false, false, false] rfl rfl (by kernel_rfl) (by decide) (fun K hK => ?_)
            refine event_step (v := .slice (some ⟨(wd).heap.size, 0, none⟩) 1 1) (w1 := (wd).alloc (.cells #[.int .i64 (rd_T24 W1 (i : Int)).f0, .int .i64 (rd_T24 W1 (i : Int)).f1, .int .i64 (rd_T24 W1 (i : Int)).f2, .int .i64 (rd_T24 W1 (i : Int)).f3, .bool (rd_T24 W1 (i : Int)).f4] 24)) (by rfl) (by first | (go_simp; done) | (go_simp; rfl)) ?_
            refine hK.out _ _ (held7 (below_alloc (Below.refl _ wd) _) HHW.out) (fun hHeld => ?_)
            clear hK K
            refine norm_ (a' := ?_) ?_ ?_
            rotate_left
            · show Act.put _ (some 80) _ = _
              simp only [Act.put, List.setIfInBounds_toArray, List.set_cons_zero, List.set_cons_succ, i64_w, i32_w]
              rfl
            refine one_ (i := 8) (N := some 81) #[true, true, true, true, true, true, true, true, true, false, false] rfl rfl (by kernel_rfl) (by decide) (fun K hK => ?_)
            refine Kd.R_append_step k24 (w0 := w) w.heap.size (by rfl) (.tmp 74) (.tmp 80) 27 24 (.agg #[(.int .i64 0), (.int .i64 0), (.int .i64 0), (.int .i64 0), (.bool false)]) 40 rfl Try.underlying27 info24 rfl (by decide) (by omega) (.slice hA H1.length hc) H1 (rd_T24 W1 (i : Int)) [.int .i64 (rd_T24 W1 (i : Int)).f0, .int .i64 (rd_T24 W1 (i : Int)).f1, .int .i64 (rd_T24 W1 (i : Int)).f2, .int .i64 (rd_T24 W1 (i : Int)).f3, .bool (rd_T24 W1 (i : Int)).f4] (fun k => some k ≠ (Value.slice (some ae) W1.length wc).ownBlock) (fun _ => False) rfl rfl (k24_mkM _ _ _ _) (fun _ hk => hk.elim) (R_room RW.out) RH.out BB.out BB.out.size (by omega) ?_
            intro v10 w10 ho hb hg hat
            have T1 := Aside0.mk (blk_grown T1.out hg (Kd.R_ne RH.out T1.out (by decide)))
            have T2 := Aside0.mk (blk_grown T2.out hg (Kd.R_ne RH.out T2.out (by decide)))
            have T3 := Aside0.mk (blk_grown T3.out hg (Kd.R_ne RH.out T3.out (by decide)))
            have T4 := Aside0.mk (blk_grown T4.out hg (Kd.R_ne RH.out T4.out (by decide)))
            have RG := Aside0.mk (R_aside RG.out RH.out (by decide) hg)
            have RN := Aside0.mk (R_aside RN.out RH.out (by decide) hg)
            have RW := Aside0.mk (R_beside RW.out hg hat)
            have RH := Aside0.mk ho
            have BB := Aside0.mk hb
            clear ho hb hg hat HHW
            obtain ⟨ae2, hae, a0, a1, a2, a3, a4⟩ := at_T24 (Kd.R_reads' RW.out).2.2 (i : Int) (by omega) (by omega)
            cases hae
            simp only [Int.toNat_natCast] at a0 a1 a2 a3 a4
            refine hK.out _ _ ⟨(blk_cell T1.out 0).trans rfl, (blk_cell T1.out 1).trans rfl, a0, a1, a2, a3, a4⟩ (fun hHeld => ?_)
            clear hK K
            refine norm_ (a' := ?_) ?_ ?_
            rotate_left
            · show Act.put _ (some 81) _ = _
              simp only [Act.put, List.setIfInBounds_toArray, List.set_cons_zero, List.set_cons_succ, i64_w, i32_w]
              rfl
            clear a0 a1 a2 a3 a4
            refine pure_ (i := 9) (N := some 82) (v := ?_) (a' := ?_) #[true, true, true, true, true, true, true, true, true, true, false] rfl rfl (by kernel_rfl) (fun _ _ _ h => h) (Or.inl ⟨by rfl, ?_⟩) ?_ ?_
            rotate_left
            · intro w'
              go_simp
              with_reducible rfl
            rotate_left
            · simp only [Act.put, List.setIfInBounds_toArray, List.set_cons_zero, List.set_cons_succ, i64_w, i32_w]
              rfl
            obtain ⟨HK, hHK⟩ : ∃ HK, HK = H1 ++ [(rd_T24 W1 (i : Int))] := ⟨_, rfl⟩
            have HHK := Aside0.mk hHK
            rw [← hHK] at RH
            clear hHK
            obtain ⟨kA2, kc2, rfl⟩ := Kd.R_slice RH.out
            have z0 := (blk_cell T1.out 0).trans rfl; have z1 := (blk_cell T1.out 1).trans rfl
            have fz0 := blk_frozen T1.out 0; have fz1 := blk_frozen T1.out 1
            refine last_ (i := 10) (N := none) #[true, true, true, true, true, true, true, true, true, true, true] rfl rfl (by kernel_rfl) (by decide) (fun K hK => ?_)
            refine skip_ (w1 := ?_) (by rfl) rfl ?_ ?_
            rotate_left
            · go_simp
              rfl
            refine hK.out _ _ ?_
            clear hK K
            refine done_ (by kernel_rfl) ?_
            clear z0 z1 fz0 fz1 hHeld
            have T2 := Aside0.mk (blk_far T2.out (p := ⟨w.heap.size, 0, none⟩) (show w.heap.size + 1 ≠ w.heap.size by omega) (.slice kA2 HK.length kc2))
            have T3 := Aside0.mk (blk_far T3.out (p := ⟨w.heap.size, 0, none⟩) (show w.heap.size + 1 + 1 ≠ w.heap.size by omega) (.slice kA2 HK.length kc2))
            have T4 := Aside0.mk (blk_far T4.out (p := ⟨w.heap.size, 0, none⟩) (blk_ne T4.out T1.out (by decide)) (.slice kA2 HK.length kc2))
            have RH := Aside0.mk (Kd.R_set RH.out T1.out (by decide) 0 (.slice kA2 HK.length kc2))
            have RW := Aside0.mk (Kd.R_set RW.out T1.out (by decide) 0 (.slice kA2 HK.length kc2))
            have RG := Aside0.mk (Kd.R_set RG.out T1.out (by decide) 0 (.slice kA2 HK.length kc2))
            have RN := Aside0.mk (Kd.R_set RN.out T1.out (by decide) 0 (.slice kA2 HK.length kc2))
            have BB := Aside0.mk (BB.out.setCell (p := ⟨w.heap.size, 0, none⟩) (Nat.le_refl _) (.slice kA2 HK.length kc2))
            have T1 := Aside0.mk (blk_put T1.out 0 (.slice kA2 HK.length kc2) rfl)
            generalize w10.setCell ⟨w.heap.size, 0, none⟩ (.slice kA2 HK.length kc2) = wk at T1 T2 T3 T4 RH RW RG RN BB ⊢
            have x0 := (blk_cell T1.out 0).trans rfl; have x1 := (blk_cell T1.out 1).trans rfl
            go_upto_region 3 with (fail)
            refine (withoutR_calls _ wc W1 i _ (Kd.R_reads' RW.out).2.2 hcW (by omega) (by omega)).mono ?_
            rintro e w9 ⟨v, rfl, hv, hb⟩
            have RW := Aside0.mk (R_fresh RH.out hv BB.out.size)
            have RH := Aside0.mk (R_old RH.out hb hv)
            have T1 := Aside0.mk (blk_below T1.out hb)
            have T2 := Aside0.mk (blk_below T2.out hb)
            have T3 := Aside0.mk (blk_below T3.out hb)
            have T4 := Aside0.mk (blk_below T4.out hb)
            have RG := Aside0.mk (Kd.R_below RG.out hb)
            have RN := Aside0.mk (Kd.R_below RN.out hb)
            have BB := Aside0.mk (below_step BB.out hb)
            clear hb hv x0 x1
            obtain ⟨WE, hWE⟩ : ∃ WE, WE = W1.eraseIdx i := ⟨_, rfl⟩
            have HWE := Aside0.mk hWE
            rw [← hWE] at RW
            clear hWE
            obtain ⟨wA2, wc2, rfl⟩ := Kd.R_slice RW.out
            have x0 := (blk_cell T1.out 0).trans rfl; have x1 := (blk_cell T1.out 1).trans rfl
            have fx0 := blk_frozen T1.out 0; have fx1 := blk_frozen T1.out 1
            go_upto_region 3 with (fail)
            clear x0 x1 fx0 fx1
            have T2 := Aside0.mk (blk_far T2.out (p := ⟨w.heap.size, 1, none⟩) (show w.heap.size + 1 ≠ w.heap.size by omega) (.slice wA2 WE.length wc2))
            have T3 := Aside0.mk (blk_far T3.out (p := ⟨w.heap.size, 1, none⟩) (show w.heap.size + 1 + 1 ≠ w.heap.size by omega) (.slice wA2 WE.length wc2))
            have T4 := Aside0.mk (blk_far T4.out (p := ⟨w.heap.size, 1, none⟩) (blk_ne T4.out T1.out (by decide)) (.slice wA2 WE.length wc2))
            have RH := Aside0.mk (Kd.R_set RH.out T1.out (by decide) 1 (.slice wA2 WE.length wc2))
            have RW := Aside0.mk (Kd.R_set RW.out T1.out (by decide) 1 (.slice wA2 WE.length wc2))
            have RG := Aside0.mk (Kd.R_set RG.out T1.out (by decide) 1 (.slice wA2 WE.length wc2))
            have RN := Aside0.mk (Kd.R_set RN.out T1.out (by decide) 1 (.slice wA2 WE.length wc2))
            have BB := Aside0.mk (BB.out.setCell (p := ⟨w.heap.size, 1, none⟩) (Nat.le_refl _) (.slice wA2 WE.length wc2))
            have T1 := Aside0.mk (blk_put T1.out 1 (.slice wA2 WE.length wc2) rfl)
            generalize w9.setCell ⟨w.heap.size, 1, none⟩ (.slice wA2 WE.length wc2) = wk at T1 T2 T3 T4 RH RW RG RN BB ⊢
            have HSN := Aside0.mk (show SettI H W HK WE KK N by rw [HHK.out, HWE.out, HKK.out]; exact HGR.out)
            have HWL := Aside0.mk (show WE.length + 1 = W1.length by rw [HWE.out, List.length_eraseIdx_of_lt hiW]; omega)
            go_wp2
            go_roundg WE.length
            case measure => have := HKQ.out; have := HWL.out; omega
            case rel => exact ⟨HK, WE, KK, N, _, _, _, _, ⟨rfl⟩, T1, T2, T3, T4, RH, RW, RG, RN, BB, HSN⟩
        | none =>
          rw [frF_none hf]
          have HFN := Aside0.mk hf
          clear hf
          have hm1 : decide ((-1 : Int) < 0) = true := by decide
          obtain ⟨wg, hwg⟩ : ∃ z, z = wr := ⟨_, rfl⟩
          rw [← hwg] at T1 T2 T3 T4 RH RW RG RN BB ⊢
          clear hwg
          go_loopg [6, 8] W1.length (fun kq v6 v8 w' => ∃ (i : Nat) (g : Int), v8 = .int .i64 i ∧ v6 = .int .i64 g ∧ Aside0 (kq + i = W1.length) ∧ Aside0 (GoneI H1 W1 i g) ∧ Aside0 (Below wg.heap.size wg w'))
          case atStart => exact ⟨0, -1, rfl, rfl, ⟨rfl⟩, ⟨GoneI.start _ _⟩, ⟨Below.refl _ _⟩⟩
          case round =>
            obtain ⟨i, g, rfl, rfl, HI, HGN, HB⟩ := hrel
            have U := Aside0.mk (blk_below T1.out HB.out)
            have x0 := (blk_cell U.out 0).trans rfl; have x1 := (blk_cell U.out 1).trans rfl
            by_cases hit : i < W1.length
            · have g2 : decide (i < W1.length) = true := by simpa using hit
              have g2' : decide ((i : Int) < (W1.length : Int)) = true := by simpa using hit
              have hic : i < wc := by omega
              go_upto_region 13 with (fail)
              clear g2 g2'
              have CW := Aside0.mk (Kd.C_below (Kd.R_reads' RW.out).2.2 HB.out)
              have CH := Aside0.mk (Kd.C_below (Kd.R_reads' RH.out).2.2 HB.out)
              obtain ⟨ae, hae, a0, a1, a2, a3, a4⟩ := at_T24 CW.out (i : Int) (by omega) (by omega)
              cases hae
              simp only [Int.toNat_natCast] at a0 a1 a2 a3 a4
              have HPO := Aside0.mk (show 0 < hdL (rd_T24 W1 (i : Int)) from vL_pos (HSI.out.allW _ (by rw [rd_at hit]; exact List.getElem_mem hit)))
              obtain ⟨cb, hcb⟩ : ∃ cb, cb = PL.circB hdL mtL H1 W1 (hdL (rd_T24 W1 (i : Int))) := ⟨_, rfl⟩
              have HCB := Aside0.mk hcb
              have HCC := Aside0.mk ((circ_cf HSI.out.allH HSI.out.allW (hdL (rd_T24 W1 (i : Int)))).trans hcb.symm)
              clear hcb
              refine start_ (n := 22) (S := fun w' => Below wr.heap.size wr w') (ds := []) #[false, false, false, false, false, false, false, false, false, false, false, false, false, false, false, false, false, false, false, false, false, false] (by kernel_rfl) rfl rfl (below_drew1 (Below.refl wr.heap.size wr)) (fun hHeld => ?_)
              generalize wr.drew = wd at hHeld ⊢
              refine take_ (i := 0) (N := some 37) (v := ?_) (a' := ?_) #[true, false, false, false, false, false, false, false, false, false, false, false, false, false, false, false, false, false, false, false, false, false] rfl rfl (by kernel_rfl) (fun _ _ _ h => h) (Or.inl ⟨by rfl, ?_⟩) hHeld ?_ ?_
              rotate_left
              · rintro w' s0
                have q0 := pw_cell_below s0 x0; have q1 := pw_cell_below s0 x1
                go_simp
                with_reducible rfl
              rotate_left
              · simp only [Act.put, List.setIfInBounds_toArray, List.set_cons_zero, List.set_cons_succ, i64_w, i32_w]
                rfl
              refine pure_ (i := 1) (N := some 38) (v := ?_) (a' := ?_) #[true, true, false, false, false, false, false, false, false, false, false, false, false, false, false, false, false, false, false, false, false, false] rfl rfl (by kernel_rfl) (fun _ _ _ h => h) (Or.inl ⟨by rfl, ?_⟩) ?_ ?_
              rotate_left
              · intro w'
                go_simp
                with_reducible rfl
              rotate_left
              · simp only [Act.put, List.setIfInBounds_toArray, List.set_cons_zero, List.set_cons_succ, i64_w, i32_w]
                rfl
              refine one_ (i := 2) (N := some 39) #[true, true, true, false, false, false, false, false, false, false, false, false, false, false, false, false, false, false, false, false, false, false] rfl rfl (by kernel_rfl) (by decide) (fun K hK => ?_)
              refine goes_ Try.func69 (by kernel_rfl) rfl #[.agg #[.slice hA H1.length hc, .slice (some ae) W1.length wc], .int .i64 (i : Int)] (by rfl) rfl rfl (by (try simp only [List.map_toArray, List.map_cons, List.map_nil]); first | done | rfl) ?_
              refine (stuckR_calls hA _ hc wc H1 W1 i _ (Kd.C_below CH.out hHeld) (Kd.C_below CW.out hHeld) hcH hcW HSI.out.good hit).mono ?_
              rintro e wc2 ⟨rfl, hb⟩
              refine ⟨_, rfl, ?_⟩
              have HB2 := Aside0.mk (below_step hHeld hb)
              clear hb hHeld
              rw [HCC.out]
              refine hK.out _ _ HB2.out (fun hHeld => ?_)
              clear hK K
              refine norm_ (a' := ?_) ?_ ?_
              rotate_left
              · show Act.put _ (some 39) _ = _
                simp only [Act.put, List.setIfInBounds_toArray, List.set_cons_zero, List.set_cons_succ, i64_w, i32_w]
                rfl
              clear HB2
              refine pure_ (i := 3) (N := some 40) (v := ?_) (a' := ?_) #[true, true, true, true, false, false, false, false, false, false, false, false, false, false, false, false, false, false, false, false, false, false] rfl rfl (by kernel_rfl) (fun _ _ _ h => h) (Or.inl ⟨by rfl, ?_⟩) ?_ ?_
              rotate_left
              · intro w'
                go_simp
                with_reducible rfl
              rotate_left
              · simp only [Act.put, List.setIfInBounds_toArray, List.set_cons_zero, List.set_cons_succ, i64_w, i32_w]
                rfl
              cases cb with
              | false =>
                have HGK := Aside0.mk (HGN.out.keep hit (.inl HCB.out.symm))
                skip
                refine pure_ (i := 4) (N := some 41) (v := undef) (a' := ?_) #[true, true, true, true, true, false, false, false, false, false, false, false, false, false, false, false, false, false, false, false, false, false] rfl rfl (by kernel_rfl) (fun _ _ _ h => h) (Or.inr ⟨by rfl, rfl⟩) ?_ ?_
                rotate_left
                · simp only [Act.put, List.setIfInBounds_toArray, List.set_cons_zero, List.set_cons_succ, i64_w, i32_w]
                  rfl
                refine pure_ (i := 5) (N := some 42) (v := undef) (a' := ?_) #[true, true, true, true, true, true, false, false, false, false, false, false, false, false, false, false, false, false, false, false, false, false] rfl rfl (by kernel_rfl) (fun _ _ _ h => h) (Or.inr ⟨by rfl, rfl⟩) ?_ ?_
                rotate_left
                · simp only [Act.put, List.setIfInBounds_toArray, List.set_cons_zero, List.set_cons_succ, i64_w, i32_w]
                  rfl
                refine pure_ (i := 6) (N := some 43) (v := undef) (a' := ?_) #[true, true, true, true, true, true, true, false, false, false, false, false, false, false, false, false, false, false, false, false, false, false] rfl rfl (by kernel_rfl) (fun _ _ _ h => h) (Or.inr ⟨by rfl, rfl⟩) ?_ ?_
                rotate_left
                · simp only [Act.put, List.setIfInBounds_toArray, List.set_cons_zero, List.set_cons_succ, i64_w, i32_w]
                  rfl
                refine pure_ (i := 7) (N := some 44) (v := undef) (a' := ?_) #[true, true, true, true, true, true, true, true, false, false, false, false, false, false, false, false, false, false, false, false, false, false] rfl rfl (by kernel_rfl) (fun _ _ _ h => h) (Or.inr ⟨by rfl, rfl⟩) ?_ ?_
                rotate_left
                · simp only [Act.put, List.setIfInBounds_toArray, List.set_cons_zero, List.set_cons_succ, i64_w, i32_w]
                  rfl
                refine pure_ (i := 8) (N := some 45) (v := undef) (a' := ?_) #[true, true, true, true, true, true, true, true, true, false, false, false, false, false, false, false, false, false, false, false, false, false] rfl rfl (by kernel_rfl) (fun _ _ _ h => h) (Or.inr ⟨by rfl, rfl⟩) ?_ ?_
                rotate_left
                · simp only [Act.put, List.setIfInBounds_toArray, List.set_cons_zero, List.set_cons_succ, i64_w, i32_w]
                  rfl
                refine pure_ (i := 9) (N := some 46) (v := undef) (a' := ?_) #[true, true, true, true, true, true, true, true, true, true, false, false, false, false, false, false, false, false, false, false, false, false] rfl rfl (by kernel_rfl) (fun _ _ _ h => h) (Or.inr ⟨by rfl, rfl⟩) ?_ ?_
                rotate_left
                · simp only [Act.put, List.setIfInBounds_toArray, List.set_cons_zero, List.set_cons_succ, i64_w, i32_w]
                  rfl
                refine pure_ (i := 10) (N := some 47) (v := undef) (a' := ?_) #[true, true, true, true, true, true, true, true, true, true, true, false, false, false, false, false, false, false, false, false, false, false] rfl rfl (by kernel_rfl) (fun _ _ _ h => h) (Or.inr ⟨by rfl, rfl⟩) ?_ ?_
                rotate_left
                · simp only [Act.put, List.setIfInBounds_toArray, List.set_cons_zero, List.set_cons_succ, i64_w, i32_w]
                  rfl
                refine pure_ (i := 11) (N := some 48) (v := undef) (a' := ?_) #[true, true, true, true, true, true, true, true, true, true, true, true, false, false, false, false, false, false, false, false, false, false] rfl rfl (by kernel_rfl) (fun _ _ _ h => h) (Or.inr ⟨by rfl, rfl⟩) ?_ ?_
                rotate_left
                · simp only [Act.put, List.setIfInBounds_toArray, List.set_cons_zero, List.set_cons_succ, i64_w, i32_w]
                  rfl
                refine pure_ (i := 12) (N := some 49) (v := undef) (a' := ?_) #[true, true, true, true, true, true, true, true, true, true, true, true, true, false, false, false, false, false, false, false, false, false] rfl rfl (by kernel_rfl) (fun _ _ _ h => h) (Or.inr ⟨by rfl, rfl⟩) ?_ ?_
                rotate_left
                · simp only [Act.put, List.setIfInBounds_toArray, List.set_cons_zero, List.set_cons_succ, i64_w, i32_w]
                  rfl
                refine pure_ (i := 13) (N := some 50) (v := undef) (a' := ?_) #[true, true, true, true, true, true, true, true, true, true, true, true, true, true, false, false, false, false, false, false, false, false] rfl rfl (by kernel_rfl) (fun _ _ _ h => h) (Or.inr ⟨by rfl, rfl⟩) ?_ ?_
                rotate_left
                · simp only [Act.put, List.setIfInBounds_toArray, List.set_cons_zero, List.set_cons_succ, i64_w, i32_w]
                  rfl
                refine pure_ (i := 14) (N := some 51) (v := undef) (a' := ?_) #[true, true, true, true, true, true, true, true, true, true, true, true, true, true, true, false, false, false, false, false, false, false] rfl rfl (by kernel_rfl) (fun _ _ _ h => h) (Or.inr ⟨by rfl, rfl⟩) ?_ ?_
                rotate_left
                · simp only [Act.put, List.setIfInBounds_toArray, List.set_cons_zero, List.set_cons_succ, i64_w, i32_w]
                  rfl
                refine pure_ (i := 15) (N := some 52) (v := undef) (a' := ?_) #[true, true, true, true, true, true, true, true, true, true, true, true, true, true, true, true, false, false, false, false, false, false] rfl rfl (by kernel_rfl) (fun _ _ _ h => h) (Or.inr ⟨by rfl, rfl⟩) ?_ ?_
                rotate_left
                · simp only [Act.put, List.setIfInBounds_toArray, List.set_cons_zero, List.set_cons_succ, i64_w, i32_w]
                  rfl
                refine pure_ (i := 16) (N := some 53) (v := undef) (a' := ?_) #[true, true, true, true, true, true, true, true, true, true, true, true, true, true, true, true, true, false, false, false, false, false] rfl rfl (by kernel_rfl) (fun _ _ _ h => h) (Or.inr ⟨by rfl, rfl⟩) ?_ ?_
                rotate_left
                · simp only [Act.put, List.setIfInBounds_toArray, List.set_cons_zero, List.set_cons_succ, i64_w, i32_w]
                  rfl
                refine pure_ (i := 17) (N := some 54) (v := undef) (a' := ?_) #[true, true, true, true, true, true, true, true, true, true, true, true, true, true, true, true, true, true, false, false, false, false] rfl rfl (by kernel_rfl) (fun _ _ _ h => h) (Or.inr ⟨by rfl, rfl⟩) ?_ ?_
                rotate_left
                · simp only [Act.put, List.setIfInBounds_toArray, List.set_cons_zero, List.set_cons_succ, i64_w, i32_w]
                  rfl
                refine pure_ (i := 18) (N := some 55) (v := undef) (a' := ?_) #[true, true, true, true, true, true, true, true, true, true, true, true, true, true, true, true, true, true, true, false, false, false] rfl rfl (by kernel_rfl) (fun _ _ _ h => h) (Or.inr ⟨by rfl, rfl⟩) ?_ ?_
                rotate_left
                · simp only [Act.put, List.setIfInBounds_toArray, List.set_cons_zero, List.set_cons_succ, i64_w, i32_w]
                  rfl
                refine pure_ (i := 19) (N := some 56) (v := undef) (a' := ?_) #[true, true, true, true, true, true, true, true, true, true, true, true, true, true, true, true, true, true, true, true, false, false] rfl rfl (by kernel_rfl) (fun _ _ _ h => h) (Or.inr ⟨by rfl, rfl⟩) ?_ ?_
                rotate_left
                · simp only [Act.put, List.setIfInBounds_toArray, List.set_cons_zero, List.set_cons_succ, i64_w, i32_w]
                  rfl
                refine pure_ (i := 20) (N := some 57) (v := undef) (a' := ?_) #[true, true, true, true, true, true, true, true, true, true, true, true, true, true, true, true, true, true, true, true, true, false] rfl rfl (by kernel_rfl) (fun _ _ _ h => h) (Or.inr ⟨by rfl, rfl⟩) ?_ ?_
                rotate_left
                · simp only [Act.put, List.setIfInBounds_toArray, List.set_cons_zero, List.set_cons_succ, i64_w, i32_w]
                  rfl
                refine pure_ (i := 21) (N := some 58) (v := ?_) (a' := ?_) #[true, true, true, true, true, true, true, true, true, true, true, true, true, true, true, true, true, true, true, true, true, true] rfl rfl (by kernel_rfl) (fun _ _ _ h => h) (Or.inl ⟨by rfl, ?_⟩) ?_ ?_
                rotate_left
                · intro w'
                  go_simp
                  with_reducible rfl
                rotate_left
                · simp only [Act.put, List.setIfInBounds_toArray, List.set_cons_zero, List.set_cons_succ, i64_w, i32_w]
                  rfl
                refine done_ (by kernel_rfl) ?_
                have HB := Aside0.mk (below_step HB.out hHeld)
                clear hHeld a0 a1 a2 a3 a4 x0 x1 U CH CW
                go_wp2
                go_roundg (W1.length - (i + 1))
                case measure => have := HI.out; omega
                case rel => exact ⟨i + 1, g, by go_num, rfl, ⟨by omega⟩, HGK, HB⟩
              | true =>
              skip
              have HCT := Aside0.mk HCB.out.symm
              rcases HGN.out with ⟨rfl, hsv⟩ | ⟨j, rfl, hjW, hjh, hjp⟩
              · skip
                have HGT := Aside0.mk (GoneI.take hit HCT.out (by rw [hsv]; exact HPO.out) HPO.out)
                clear hsv
                refine pure_ (i := 4) (N := some 41) (v := ?_) (a' := ?_) #[true, true, true, true, true, false, false, false, false, false, false, false, false, false, false, false, false, false, false, false, false, false] rfl rfl (by kernel_rfl) (fun _ _ _ h => h) (Or.inl ⟨by rfl, ?_⟩) ?_ ?_
                rotate_left
                · intro w'
                  go_simp
                  with_reducible rfl
                rotate_left
                · simp only [Act.put, List.setIfInBounds_toArray, List.set_cons_zero, List.set_cons_succ, i64_w, i32_w]
                  rfl
                refine pure_ (i := 5) (N := some 42) (v := ?_) (a' := ?_) #[true, true, true, true, true, true, false, false, false, false, false, false, false, false, false, false, false, false, false, false, false, false] rfl rfl (by kernel_rfl) (fun _ _ _ h => h) (Or.inl ⟨by rfl, ?_⟩) ?_ ?_
                rotate_left
                · intro w'
                  go_simp
                  with_reducible rfl
                rotate_left
                · simp only [Act.put, List.setIfInBounds_toArray, List.set_cons_zero, List.set_cons_succ, i64_w, i32_w]
                  rfl
                refine pure_ (i := 6) (N := some 43) (v := ?_) (a' := ?_) #[true, true, true, true, true, true, true, false, false, false, false, false, false, false, false, false, false, false, false, false, false, false] rfl rfl (by kernel_rfl) (fun _ _ _ h => h) (Or.inl ⟨by rfl, ?_⟩) ?_ ?_
                rotate_left
                · intro w'
                  go_simp
                  with_reducible rfl
                rotate_left
                · simp only [Act.put, List.setIfInBounds_toArray, List.set_cons_zero, List.set_cons_succ, i64_w, i32_w]
                  rfl
                refine pure_ (i := 7) (N := some 44) (v := undef) (a' := ?_) #[true, true, true, true, true, true, true, true, false, false, false, false, false, false, false, false, false, false, false, false, false, false] rfl rfl (by kernel_rfl) (fun _ _ _ h => h) (Or.inr ⟨by rfl, rfl⟩) ?_ ?_
                rotate_left
                · simp only [Act.put, List.setIfInBounds_toArray, List.set_cons_zero, List.set_cons_succ, i64_w, i32_w]
                  rfl
                refine pure_ (i := 8) (N := some 45) (v := undef) (a' := ?_) #[true, true, true, true, true, true, true, true, true, false, false, false, false, false, false, false, false, false, false, false, false, false] rfl rfl (by kernel_rfl) (fun _ _ _ h => h) (Or.inr ⟨by rfl, rfl⟩) ?_ ?_
                rotate_left
                · simp only [Act.put, List.setIfInBounds_toArray, List.set_cons_zero, List.set_cons_succ, i64_w, i32_w]
                  rfl
                refine pure_ (i := 9) (N := some 46) (v := undef) (a' := ?_) #[true, true, true, true, true, true, true, true, true, true, false, false, false, false, false, false, false, false, false, false, false, false] rfl rfl (by kernel_rfl) (fun _ _ _ h => h) (Or.inr ⟨by rfl, rfl⟩) ?_ ?_
                rotate_left
                · simp only [Act.put, List.setIfInBounds_toArray, List.set_cons_zero, List.set_cons_succ, i64_w, i32_w]
                  rfl
                refine pure_ (i := 10) (N := some 47) (v := undef) (a' := ?_) #[true, true, true, true, true, true, true, true, true, true, true, false, false, false, false, false, false, false, false, false, false, false] rfl rfl (by kernel_rfl) (fun _ _ _ h => h) (Or.inr ⟨by rfl, rfl⟩) ?_ ?_
                rotate_left
                · simp only [Act.put, List.setIfInBounds_toArray, List.set_cons_zero, List.set_cons_succ, i64_w, i32_w]
                  rfl
                refine pure_ (i := 11) (N := some 48) (v := undef) (a' := ?_) #[true, true, true, true, true, true, true, true, true, true, true, true, false, false, false, false, false, false, false, false, false, false] rfl rfl (by kernel_rfl) (fun _ _ _ h => h) (Or.inr ⟨by rfl, rfl⟩) ?_ ?_
                rotate_left
                · simp only [Act.put, List.setIfInBounds_toArray, List.set_cons_zero, List.set_cons_succ, i64_w, i32_w]
                  rfl
                refine pure_ (i := 12) (N := some 49) (v := undef) (a' := ?_) #[true, true, true, true, true, true, true, true, true, true, true, true, true, false, false, false, false, false, false, false, false, false] rfl rfl (by kernel_rfl) (fun _ _ _ h => h) (Or.inr ⟨by rfl, rfl⟩) ?_ ?_
                rotate_left
                · simp only [Act.put, List.setIfInBounds_toArray, List.set_cons_zero, List.set_cons_succ, i64_w, i32_w]
                  rfl
                refine pure_ (i := 13) (N := some 50) (v := undef) (a' := ?_) #[true, true, true, true, true, true, true, true, true, true, true, true, true, true, false, false, false, false, false, false, false, false] rfl rfl (by kernel_rfl) (fun _ _ _ h => h) (Or.inr ⟨by rfl, rfl⟩) ?_ ?_
                rotate_left
                · simp only [Act.put, List.setIfInBounds_toArray, List.set_cons_zero, List.set_cons_succ, i64_w, i32_w]
                  rfl
                refine pure_ (i := 14) (N := some 51) (v := undef) (a' := ?_) #[true, true, true, true, true, true, true, true, true, true, true, true, true, true, true, false, false, false, false, false, false, false] rfl rfl (by kernel_rfl) (fun _ _ _ h => h) (Or.inr ⟨by rfl, rfl⟩) ?_ ?_
                rotate_left
                · simp only [Act.put, List.setIfInBounds_toArray, List.set_cons_zero, List.set_cons_succ, i64_w, i32_w]
                  rfl
                refine pure_ (i := 15) (N := some 52) (v := undef) (a' := ?_) #[true, true, true, true, true, true, true, true, true, true, true, true, true, true, true, true, false, false, false, false, false, false] rfl rfl (by kernel_rfl) (fun _ _ _ h => h) (Or.inr ⟨by rfl, rfl⟩) ?_ ?_
                rotate_left
                · simp only [Act.put, List.setIfInBounds_toArray, List.set_cons_zero, List.set_cons_succ, i64_w, i32_w]
                  rfl
                refine pure_ (i := 16) (N := some 53) (v := undef) (a' := ?_) #[true, true, true, true, true, true, true, true, true, true, true, true, true, true, true, true, true, false, false, false, false, false] rfl rfl (by kernel_rfl) (fun _ _ _ h => h) (Or.inr ⟨by rfl, rfl⟩) ?_ ?_
                rotate_left
                · simp only [Act.put, List.setIfInBounds_toArray, List.set_cons_zero, List.set_cons_succ, i64_w, i32_w]
                  rfl
                refine pure_ (i := 17) (N := some 54) (v := undef) (a' := ?_) #[true, true, true, true, true, true, true, true, true, true, true, true, true, true, true, true, true, true, false, false, false, false] rfl rfl (by kernel_rfl) (fun _ _ _ h => h) (Or.inr ⟨by rfl, rfl⟩) ?_ ?_
                rotate_left
                · simp only [Act.put, List.setIfInBounds_toArray, List.set_cons_zero, List.set_cons_succ, i64_w, i32_w]
                  rfl
                refine pure_ (i := 18) (N := some 55) (v := undef) (a' := ?_) #[true, true, true, true, true, true, true, true, true, true, true, true, true, true, true, true, true, true, true, false, false, false] rfl rfl (by kernel_rfl) (fun _ _ _ h => h) (Or.inr ⟨by rfl, rfl⟩) ?_ ?_
                rotate_left
                · simp only [Act.put, List.setIfInBounds_toArray, List.set_cons_zero, List.set_cons_succ, i64_w, i32_w]
                  rfl
                refine pure_ (i := 19) (N := some 56) (v := undef) (a' := ?_) #[true, true, true, true, true, true, true, true, true, true, true, true, true, true, true, true, true, true, true, true, false, false] rfl rfl (by kernel_rfl) (fun _ _ _ h => h) (Or.inr ⟨by rfl, rfl⟩) ?_ ?_
                rotate_left
                · simp only [Act.put, List.setIfInBounds_toArray, List.set_cons_zero, List.set_cons_succ, i64_w, i32_w]
                  rfl
                refine pure_ (i := 20) (N := some 57) (v := ?_) (a' := ?_) #[true, true, true, true, true, true, true, true, true, true, true, true, true, true, true, true, true, true, true, true, true, false] rfl rfl (by kernel_rfl) (fun _ _ _ h => h) (Or.inl ⟨by rfl, ?_⟩) ?_ ?_
                rotate_left
                · intro w'
                  go_simp
                  with_reducible rfl
                rotate_left
                · simp only [Act.put, List.setIfInBounds_toArray, List.set_cons_zero, List.set_cons_succ, i64_w, i32_w]
                  rfl
                refine pure_ (i := 21) (N := some 58) (v := ?_) (a' := ?_) #[true, true, true, true, true, true, true, true, true, true, true, true, true, true, true, true, true, true, true, true, true, true] rfl rfl (by kernel_rfl) (fun _ _ _ h => h) (Or.inl ⟨by rfl, ?_⟩) ?_ ?_
                rotate_left
                · intro w'
                  go_simp
                  with_reducible rfl
                rotate_left
                · simp only [Act.put, List.setIfInBounds_toArray, List.set_cons_zero, List.set_cons_succ, i64_w, i32_w]
                  rfl
                refine done_ (by kernel_rfl) ?_
                have HB := Aside0.mk (below_step HB.out hHeld)
                clear hHeld a0 a1 a2 a3 a4 x0 x1 U CH CW
                go_wp2
                go_roundg (W1.length - (i + 1))
                case measure => have := HI.out; omega
                case rel => exact ⟨i + 1, (i : Int), by go_num, rfl, ⟨by omega⟩, HGT, HB⟩
              skip
              have hjn : decide ((j : Int) < 0) = false := by simp
              have hjc : j < wc := by omega
              have HJH := Aside0.mk hjh
              clear hjh hjp
              obtain ⟨ae2, hae, b0, b1, b2, b3, b4'⟩ := at_T24 CW.out (j : Int) (by omega) (by omega)
              cases hae
              simp only [Int.toNat_natCast] at b0 b1 b2 b3 b4'
              have GT := Aside0.mk (fun h1 => GoneI.take (H := H1) hit HCT.out h1 HPO.out)
              have GK := Aside0.mk (fun h1 => HGN.out.keep hit (.inr h1))
              rw [← HJH.out] at GT GK
              refine pure_ (i := 4) (N := some 41) (v := ?_) (a' := ?_) #[true, true, true, true, true, false, false, false, false, false, false, false, false, false, false, false, false, false, false, false, false, false] rfl rfl (by kernel_rfl) (fun _ _ _ h => h) (Or.inl ⟨by rfl, ?_⟩) ?_ ?_
              rotate_left
              · intro w'
                go_simp
                with_reducible rfl
              rotate_left
              · simp only [Act.put, List.setIfInBounds_toArray, List.set_cons_zero, List.set_cons_succ, i64_w, i32_w]
                rfl
              refine pure_ (i := 5) (N := some 42) (v := ?_) (a' := ?_) #[true, true, true, true, true, true, false, false, false, false, false, false, false, false, false, false, false, false, false, false, false, false] rfl rfl (by kernel_rfl) (fun _ _ _ h => h) (Or.inl ⟨by rfl, ?_⟩) ?_ ?_
              rotate_left
              · intro w'
                go_simp
                with_reducible rfl
              rotate_left
              · simp only [Act.put, List.setIfInBounds_toArray, List.set_cons_zero, List.set_cons_succ, i64_w, i32_w]
                rfl
              refine pure_ (i := 6) (N := some 43) (v := ?_) (a' := ?_) #[true, true, true, true, true, true, true, false, false, false, false, false, false, false, false, false, false, false, false, false, false, false] rfl rfl (by kernel_rfl) (fun _ _ _ h => h) (Or.inl ⟨by rfl, ?_⟩) ?_ ?_
              rotate_left
              · intro w'
                go_simp
                with_reducible rfl
              rotate_left
              · simp only [Act.put, List.setIfInBounds_toArray, List.set_cons_zero, List.set_cons_succ, i64_w, i32_w]
                rfl
              refine pure_ (i := 7) (N := some 44) (v := ?_) (a' := ?_) #[true, true, true, true, true, true, true, true, false, false, false, false, false, false, false, false, false, false, false, false, false, false] rfl rfl (by kernel_rfl) (fun _ _ _ h => h) (Or.inl ⟨by rfl, ?_⟩) ?_ ?_
              rotate_left
              · intro w'
                go_simp
                with_reducible rfl
              rotate_left
              · simp only [Act.put, List.setIfInBounds_toArray, List.set_cons_zero, List.set_cons_succ, i64_w, i32_w]
                rfl
              refine take_ (i := 8) (N := some 45) (v := ?_) (a' := ?_) #[true, true, true, true, true, true, true, true, true, false, false, false, false, false, false, false, false, false, false, false, false, false] rfl rfl (by kernel_rfl) (fun _ _ _ h => h) (Or.inl ⟨by rfl, ?_⟩) hHeld ?_ ?_
              rotate_left
              · rintro w' s0
                have q0 := pw_cell_below s0 x0; have q1 := pw_cell_below s0 x1
                go_simp
                with_reducible rfl
              rotate_left
              · simp only [Act.put, List.setIfInBounds_toArray, List.set_cons_zero, List.set_cons_succ, i64_w, i32_w]
                rfl
              refine pure_ (i := 9) (N := some 46) (v := ?_) (a' := ?_) #[true, true, true, true, true, true, true, true, true, true, false, false, false, false, false, false, false, false, false, false, false, false] rfl rfl (by kernel_rfl) (fun _ _ _ h => h) (Or.inl ⟨by rfl, ?_⟩) ?_ ?_
              rotate_left
              · intro w'
                go_simp
                with_reducible rfl
              rotate_left
              · simp only [Act.put, List.setIfInBounds_toArray, List.set_cons_zero, List.set_cons_succ, i64_w, i32_w]
                rfl
              refine pure_ (i := 10) (N := some 47) (v := ?_) (a' := ?_) #[true, true, true, true, true, true, true, true, true, true, true, false, false, false, false, false, false, false, false, false, false, false] rfl rfl (by kernel_rfl) (fun _ _ _ h => h) (Or.inl ⟨by rfl, ?_⟩) ?_ ?_
              rotate_left
              · intro w'
                go_simp
                with_reducible rfl
              rotate_left
              · simp only [Act.put, List.setIfInBounds_toArray, List.set_cons_zero, List.set_cons_succ, i64_w, i32_w]
                rfl
              refine pure_ (i := 11) (N := some 48) (v := ?_) (a' := ?_) #[true, true, true, true, true, true, true, true, true, true, true, true, false, false, false, false, false, false, false, false, false, false] rfl rfl (by kernel_rfl) (fun _ _ _ h => h) (Or.inl ⟨by rfl, ?_⟩) ?_ ?_
              rotate_left
              · intro w'
                go_simp
                with_reducible rfl
              rotate_left
              · simp only [Act.put, List.setIfInBounds_toArray, List.set_cons_zero, List.set_cons_succ, i64_w, i32_w]
                rfl
              refine take_ (i := 12) (N := some 49) (v := ?_) (a' := ?_) #[true, true, true, true, true, true, true, true, true, true, true, true, true, false, false, false, false, false, false, false, false, false] rfl rfl (by kernel_rfl) (fun _ _ _ h => h) (Or.inl ⟨by rfl, ?_⟩) hHeld ?_ ?_
              rotate_left
              · rintro w' s0
                have q0 := pw_cell_below s0 a0; have q1 := pw_cell_below s0 a1; have q2 := pw_cell_below s0 a2; have q3 := pw_cell_below s0 a3; have q4 := pw_cell_below s0 a4
                go_simp
                with_reducible rfl
              rotate_left
              · simp only [Act.put, List.setIfInBounds_toArray, List.set_cons_zero, List.set_cons_succ, i64_w, i32_w]
                rfl
              refine pure_ (i := 13) (N := some 50) (v := ?_) (a' := ?_) #[true, true, true, true, true, true, true, true, true, true, true, true, true, true, false, false, false, false, false, false, false, false] rfl rfl (by kernel_rfl) (fun _ _ _ h => h) (Or.inl ⟨by rfl, ?_⟩) ?_ ?_
              rotate_left
              · intro w'
                go_simp
                with_reducible rfl
              rotate_left
              · simp only [Act.put, List.setIfInBounds_toArray, List.set_cons_zero, List.set_cons_succ, i64_w, i32_w]
                rfl
              refine take_ (i := 14) (N := some 51) (v := ?_) (a' := ?_) #[true, true, true, true, true, true, true, true, true, true, true, true, true, true, true, false, false, false, false, false, false, false] rfl rfl (by kernel_rfl) (fun _ _ _ h => h) (Or.inl ⟨by rfl, ?_⟩) hHeld ?_ ?_
              rotate_left
              · rintro w' s0
                have q0 := pw_cell_below s0 x0; have q1 := pw_cell_below s0 x1
                go_simp
                with_reducible rfl
              rotate_left
              · simp only [Act.put, List.setIfInBounds_toArray, List.set_cons_zero, List.set_cons_succ, i64_w, i32_w]
                rfl
              refine pure_ (i := 15) (N := some 52) (v := ?_) (a' := ?_) #[true, true, true, true, true, true, true, true, true, true, true, true, true, true, true, true, false, false, false, false, false, false] rfl rfl (by kernel_rfl) (fun _ _ _ h => h) (Or.inl ⟨by rfl, ?_⟩) ?_ ?_
              rotate_left
              · intro w'
                go_simp
                with_reducible rfl
              rotate_left
              · simp only [Act.put, List.setIfInBounds_toArray, List.set_cons_zero, List.set_cons_succ, i64_w, i32_w]
                rfl
              refine pure_ (i := 16) (N := some 53) (v := ?_) (a' := ?_) #[true, true, true, true, true, true, true, true, true, true, true, true, true, true, true, true, true, false, false, false, false, false] rfl rfl (by kernel_rfl) (fun _ _ _ h => h) (Or.inl ⟨by rfl, ?_⟩) ?_ ?_
              rotate_left
              · intro w'
                go_simp
                with_reducible rfl
              rotate_left
              · simp only [Act.put, List.setIfInBounds_toArray, List.set_cons_zero, List.set_cons_succ, i64_w, i32_w]
                rfl
              refine pure_ (i := 17) (N := some 54) (v := ?_) (a' := ?_) #[true, true, true, true, true, true, true, true, true, true, true, true, true, true, true, true, true, true, false, false, false, false] rfl rfl (by kernel_rfl) (fun _ _ _ h => h) (Or.inl ⟨by rfl, ?_⟩) ?_ ?_
              rotate_left
              · intro w'
                go_simp
                with_reducible rfl
              rotate_left
              · simp only [Act.put, List.setIfInBounds_toArray, List.set_cons_zero, List.set_cons_succ, i64_w, i32_w]
                rfl
              refine take_ (i := 18) (N := some 55) (v := ?_) (a' := ?_) #[true, true, true, true, true, true, true, true, true, true, true, true, true, true, true, true, true, true, true, false, false, false] rfl rfl (by kernel_rfl) (fun _ _ _ h => h) (Or.inl ⟨by rfl, ?_⟩) hHeld ?_ ?_
              rotate_left
              · rintro w' s0
                have q0 := pw_cell_below s0 b0; have q1 := pw_cell_below s0 b1; have q2 := pw_cell_below s0 b2; have q3 := pw_cell_below s0 b3; have q4 := pw_cell_below s0 b4'
                go_simp
                with_reducible rfl
              rotate_left
              · simp only [Act.put, List.setIfInBounds_toArray, List.set_cons_zero, List.set_cons_succ, i64_w, i32_w]
                rfl
              refine pure_ (i := 19) (N := some 56) (v := ?_) (a' := ?_) #[true, true, true, true, true, true, true, true, true, true, true, true, true, true, true, true, true, true, true, true, false, false] rfl rfl (by kernel_rfl) (fun _ _ _ h => h) (Or.inl ⟨by rfl, ?_⟩) ?_ ?_
              rotate_left
              · intro w'
                go_simp
                with_reducible rfl
              rotate_left
              · simp only [Act.put, List.setIfInBounds_toArray, List.set_cons_zero, List.set_cons_succ, i64_w, i32_w]
                rfl
              refine pure_ (i := 20) (N := some 57) (v := ?_) (a' := ?_) #[true, true, true, true, true, true, true, true, true, true, true, true, true, true, true, true, true, true, true, true, true, false] rfl rfl (by kernel_rfl) (fun _ _ _ h => h) (Or.inl ⟨by rfl, ?_⟩) ?_ ?_
              rotate_left
              · intro w'
                go_simp
                with_reducible rfl
              rotate_left
              · simp only [Act.put, List.setIfInBounds_toArray, List.set_cons_zero, List.set_cons_succ, i64_w, i32_w]
                rfl
              clear b0 b1 b2 b3 b4'
              cases hgt : decide ((rd_T24 W1 (j : Int)).f1 < (rd_T24 W1 (i : Int)).f1) with
              | true =>
                have HGT := Aside0.mk (GT.out (of_decide_eq_true hgt))
                skip
                refine pure_ (i := 21) (N := some 58) (v := ?_) (a' := ?_) #[true, true, true, true, true, true, true, true, true, true, true, true, true, true, true, true, true, true, true, true, true, true] rfl rfl (by kernel_rfl) (fun _ _ _ h => h) (Or.inl ⟨by rfl, ?_⟩) ?_ ?_
                rotate_left
                · intro w'
                  go_simp
                  with_reducible rfl
                rotate_left
                · simp only [Act.put, List.setIfInBounds_toArray, List.set_cons_zero, List.set_cons_succ, i64_w, i32_w]
                  rfl
                refine done_ (by kernel_rfl) ?_
                have HB := Aside0.mk (below_step HB.out hHeld)
                clear hHeld hgt a0 a1 a2 a3 a4 x0 x1 U CH CW
                go_wp2
                go_roundg (W1.length - (i + 1))
                case measure => have := HI.out; omega
                case rel => exact ⟨i + 1, (i : Int), by go_num, rfl, ⟨by omega⟩, HGT, HB⟩
              | false =>
                skip
                have HGK := Aside0.mk (GK.out (of_decide_eq_false hgt))
                refine pure_ (i := 21) (N := some 58) (v := ?_) (a' := ?_) #[true, true, true, true, true, true, true, true, true, true, true, true, true, true, true, true, true, true, true, true, true, true] rfl rfl (by kernel_rfl) (fun _ _ _ h => h) (Or.inl ⟨by rfl, ?_⟩) ?_ ?_
                rotate_left
                · intro w'
                  go_simp
                  with_reducible rfl
                rotate_left
                · simp only [Act.put, List.setIfInBounds_toArray, List.set_cons_zero, List.set_cons_succ, i64_w, i32_w]
                  rfl
                refine done_ (by kernel_rfl) ?_
                have HB := Aside0.mk (below_step HB.out hHeld)
                clear hHeld hgt a0 a1 a2 a3 a4 x0 x1 U CH CW
                go_wp2
                go_roundg (W1.length - (i + 1))
                case measure => have := HI.out; omega
                case rel => exact ⟨i + 1, (j : Int), by go_num, rfl, ⟨by omega⟩, HGK, HB⟩
            · have g2 : decide (i < W1.length) = false := by simpa using hit
              have g2' : decide ((i : Int) < (W1.length : Int)) = false := by simpa using hit
              obtain rfl : i = W1.length := by have := HI.out; omega
              have HGO := HGN.out
              unfold GoneI at HGO
              rw [svF_end] at HGO
              have T1 := Aside0.mk (blk_below T1.out HB.out)
              have T2 := Aside0.mk (blk_below T2.out HB.out)
              have T3 := Aside0.mk (blk_below T3.out HB.out)
              have T4 := Aside0.mk (blk_below T4.out HB.out)
              have RH := Aside0.mk (Kd.R_below RH.out HB.out)
              have RW := Aside0.mk (Kd.R_below RW.out HB.out)
              have RG := Aside0.mk (Kd.R_below RG.out HB.out)
              have RN := Aside0.mk (Kd.R_below RN.out HB.out)
              have BB := Aside0.mk (below_step BB.out HB.out)
              clear HB U x0 x1
              have x0 := (blk_cell T1.out 0).trans rfl; have x1 := (blk_cell T1.out 1).trans rfl
              rcases HGO with ⟨rfl, hsv⟩ | ⟨j, rfl, hjW, hjh, hjp⟩
              · have HE := Aside0.mk (HSI.out.done HFN.out hsv)
                clear hsv
                have hn1 : decide ((0 : Int) ≤ -1) = false := by decide
                go_upto_region 22 with (fail)
                clear x0 x1 g2 g2' hn1
                refine start_ (n := 4) (S := fun w' => w'.cell? ⟨w.heap.size, 0, none⟩ = some (.slice hA H1.length hc) ∧ w'.cell? ⟨w.heap.size, 1, none⟩ = some (.slice wA W1.length wc) ∧ w'.cell? ⟨b4, 0, none⟩ = some (.slice gA G.length gc) ∧ w'.cell? ⟨b4, 1, none⟩ = some (.slice nA N.length nc)) (ds := [3]) #[false, false, false, false] (by kernel_rfl) rfl rfl ⟨(blk_cell T1.out 0).trans rfl, (blk_cell T1.out 1).trans rfl, (blk_cell T4.out 0).trans rfl, (blk_cell T4.out 1).trans rfl⟩ (fun hHeld => ?_)
                have hbd := below_drew1 (Below.refl wr.heap.size wr)
                have T1 := Aside0.mk (blk_below T1.out hbd)
                have T2 := Aside0.mk (blk_below T2.out hbd)
                have T3 := Aside0.mk (blk_below T3.out hbd)
                have T4 := Aside0.mk (blk_below T4.out hbd)
                have RH := Aside0.mk (Kd.R_below RH.out hbd)
                have RW := Aside0.mk (Kd.R_below RW.out hbd)
                have RG := Aside0.mk (Kd.R_below RG.out hbd)
                have RN := Aside0.mk (Kd.R_below RN.out hbd)
                have BB := Aside0.mk (below_step BB.out hbd)
                clear hbd
                generalize wr.drew = wd at T1 T2 T3 T4 RH RW RG RN BB hHeld ⊢
                refine take_ (i := 0) (N := some 106) (v := ?_) (a' := ?_) #[true, false, false, false] rfl rfl (by kernel_rfl) (fun _ _ _ h => h) (Or.inl ⟨by rfl, ?_⟩) hHeld ?_ ?_
                rotate_left
                · rintro w' ⟨s0, s1, s2, s3⟩
                  go_simp
                  with_reducible rfl
                rotate_left
                · simp only [Act.put, List.setIfInBounds_toArray, List.set_cons_zero, List.set_cons_succ, i64_w, i32_w]
                  rfl
                refine take_ (i := 1) (N := some 107) (v := ?_) (a' := ?_) #[true, true, false, false] rfl rfl (by kernel_rfl) (fun _ _ _ h => h) (Or.inl ⟨by rfl, ?_⟩) hHeld ?_ ?_
                rotate_left
                · rintro w' ⟨s0, s1, s2, s3⟩
                  go_simp
                  with_reducible rfl
                rotate_left
                · simp only [Act.put, List.setIfInBounds_toArray, List.set_cons_zero, List.set_cons_succ, i64_w, i32_w]
                  rfl
                have r0 := (blk_cell T2.out 0).trans rfl; have r1 := (blk_cell T2.out 1).trans rfl
                have fr0 := blk_frozen T2.out 0; have fr1 := blk_frozen T2.out 1
                refine one_ (i := 2) (N := none) #[true, true, true, false] rfl rfl (by kernel_rfl) (by decide) (fun K hK => ?_)
                refine skip_ (w1 := ?_) (by rfl) rfl ?_ ?_
                rotate_left
                · go_simp
                  rfl
                clear r0 r1 fr0 fr1
                have P_ := Aside0.mk (put_two (n := w.heap.size) (w := w) (.slice hA H1.length hc) (.slice wA W1.length wc) T2.out BB.out (by omega))
                have T1_ := Aside0.mk (two_far' (.slice hA H1.length hc) (.slice wA W1.length wc) T1.out (show w.heap.size ≠ w.heap.size + 1 by omega))
                have T3_ := Aside0.mk (two_far (.slice hA H1.length hc) (.slice wA W1.length wc) T3.out T2.out (by decide))
                have T4_ := Aside0.mk (two_far (.slice hA H1.length hc) (.slice wA W1.length wc) T4.out T2.out (by decide))
                have RH_ := Aside0.mk (R_two (.slice hA H1.length hc) (.slice wA W1.length wc) RH.out T2.out (by decide))
                have RW_ := Aside0.mk (R_two (.slice hA H1.length hc) (.slice wA W1.length wc) RW.out T2.out (by decide))
                have RG_ := Aside0.mk (R_two (.slice hA H1.length hc) (.slice wA W1.length wc) RG.out T2.out (by decide))
                have RN_ := Aside0.mk (R_two (.slice hA H1.length hc) (.slice wA W1.length wc) RN.out T2.out (by decide))
                have BB_ := Aside0.mk P_.out.2
                have T2_ := Aside0.mk P_.out.1
                clear P_ BB T1 T2 T3 T4 RH RW RG RN
                generalize (wd.setCell ⟨w.heap.size + 1, 0, none⟩ (.slice hA H1.length hc)).setCell ⟨w.heap.size + 1, 1, none⟩ (.slice wA W1.length wc) = we at BB_ T1_ T2_ T3_ T4_ RH_ RW_ RG_ RN_ ⊢
                have BB := BB_
                have T1 := T1_
                have T2 := T2_
                have T3 := T3_
                have T4 := T4_
                have RH := RH_
                have RW := RW_
                have RG := RG_
                have RN := RN_
                clear BB_ T1_ T2_ T3_ T4_ RH_ RW_ RG_ RN_
                refine hK.out _ _ ⟨(blk_cell T1.out 0).trans rfl, (blk_cell T1.out 1).trans rfl, (blk_cell T4.out 0).trans rfl, (blk_cell T4.out 1).trans rfl⟩ (fun hHeld => ?_)
                clear hK K
                have r0 := (blk_cell T3.out 0).trans rfl; have r1 := (blk_cell T3.out 1).trans rfl
                have fr0 := blk_frozen T3.out 0; have fr1 := blk_frozen T3.out 1
                refine last_ (i := 3) (N := none) #[true, true, true, true] rfl rfl (by kernel_rfl) (by decide) (fun K hK => ?_)
                refine skip_ (w1 := ?_) (by rfl) rfl ?_ ?_
                rotate_left
                · go_simp
                  rfl
                refine hK.out _ _ ?_
                clear hK K hHeld r0 r1 fr0 fr1
                have P_ := Aside0.mk (put_two (n := w.heap.size) (w := w) (.slice gA G.length gc) (.slice nA N.length nc) T3.out BB.out (by omega))
                have T1_ := Aside0.mk (two_far (.slice gA G.length gc) (.slice nA N.length nc) T1.out T3.out (by decide))
                have T2_ := Aside0.mk (two_far (.slice gA G.length gc) (.slice nA N.length nc) T2.out T3.out (by decide))
                have T4_ := Aside0.mk (two_far' (.slice gA G.length gc) (.slice nA N.length nc) T4.out (show b4 ≠ w.heap.size + 1 + 1 by have := L4.out; omega))
                have RH_ := Aside0.mk (R_two (.slice gA G.length gc) (.slice nA N.length nc) RH.out T3.out (by decide))
                have RW_ := Aside0.mk (R_two (.slice gA G.length gc) (.slice nA N.length nc) RW.out T3.out (by decide))
                have RG_ := Aside0.mk (R_two (.slice gA G.length gc) (.slice nA N.length nc) RG.out T3.out (by decide))
                have RN_ := Aside0.mk (R_two (.slice gA G.length gc) (.slice nA N.length nc) RN.out T3.out (by decide))
                have BB_ := Aside0.mk P_.out.2
                have T3_ := Aside0.mk P_.out.1
                clear P_ BB T1 T2 T3 T4 RH RW RG RN
                generalize (we.setCell ⟨w.heap.size + 1 + 1, 0, none⟩ (.slice gA G.length gc)).setCell ⟨w.heap.size + 1 + 1, 1, none⟩ (.slice nA N.length nc) = wf at BB_ T1_ T2_ T3_ T4_ RH_ RW_ RG_ RN_ ⊢
                have BB := BB_
                have T1 := T1_
                have T2 := T2_
                have T3 := T3_
                have T4 := T4_
                have RH := RH_
                have RW := RW_
                have RG := RG_
                have RN := RN_
                clear BB_ T1_ T2_ T3_ T4_ RH_ RW_ RG_ RN_
                refine done_ (by kernel_rfl) ?_
                go_wp2
                refine bodyPost_ret (results_cells rfl rfl rfl (loadVar_two 29 (by kernel_rfl) (by kernel_rfl) T2.out) (loadVar_two 33 (by kernel_rfl) (by kernel_rfl) T3.out)) rfl ?_
                show SettR w (settleL H W) _ _
                rw [HE.out]
                exact ⟨_, _, rfl, ⟨_, _, rfl, Kd.R_mono RH.out (fun _ _ => trivial), Kd.R_mono RW.out (fun _ _ => trivial)⟩, ⟨_, _, rfl, Kd.R_mono RG.out (fun _ _ => trivial), Kd.R_mono RN.out (fun _ _ => trivial)⟩, BB.out⟩
              · have hn1 : decide ((0 : Int) ≤ (j : Int)) = true := by simp
                have hn2 : decide ((0 : Int) ≤ -1) = false := by decide
                have HSN := Aside0.mk (HSI.out.gone HFN.out hjW hjh hjp)
                clear hjh hjp
                obtain ⟨wk, hwk⟩ : ∃ z, z = wr := ⟨_, rfl⟩
                rw [← hwk] at T1 T2 T3 T4 RH RW RG RN BB x0 x1 ⊢
                clear hwk
                go_upto_region 20 with (fail)
                clear x0 x1 g2 g2' hn1 hn2
                have hix : j < wc := by omega
                obtain ⟨ae, hae, a0, a1, a2, a3, a4⟩ := at_T24 (Kd.R_reads' RW.out).2.2 (j : Int) (by omega) (by omega)
                cases hae
                simp only [Int.toNat_natCast] at a0 a1 a2 a3 a4
                refine start_ (n := 12) (S := fun w' => w'.cell? ⟨b4, 1, none⟩ = some (.slice nA N.length nc) ∧ w'.cell? ⟨w.heap.size, 1, none⟩ = some (.slice (some ae) W1.length wc) ∧ w'.cell? ⟨(ae.add (j * 5)).block, (ae.add (j * 5)).off + 1, none⟩ = some (.int .i64 (rd_T24 W1 (j : Int)).f1)) (ds := [11]) #[false, false, false, false, false, false, false, false, false, false, false, false] (by kernel_rfl) rfl rfl ⟨(blk_cell T4.out 1).trans rfl, (blk_cell T1.out 1).trans rfl, a1⟩ (fun hHeld => ?_)
                have hbd := below_drew1 (Below.refl wk.heap.size wk)
                have T1 := Aside0.mk (blk_below T1.out hbd)
                have T2 := Aside0.mk (blk_below T2.out hbd)
                have T3 := Aside0.mk (blk_below T3.out hbd)
                have T4 := Aside0.mk (blk_below T4.out hbd)
                have RH := Aside0.mk (Kd.R_below RH.out hbd)
                have RW := Aside0.mk (Kd.R_below RW.out hbd)
                have RG := Aside0.mk (Kd.R_below RG.out hbd)
                have RN := Aside0.mk (Kd.R_below RN.out hbd)
                have BB := Aside0.mk (below_step BB.out hbd)
                clear hbd a0 a1 a2 a3 a4
                generalize wk.drew = wd at T1 T2 T3 T4 RH RW RG RN BB hHeld ⊢
                refine pure_ (i := 0) (N := some 90) (v := ?_) (a' := ?_) #[true, false, false, false, false, false, false, false, false, false, false, false] rfl rfl (by kernel_rfl) (fun _ _ _ h => h) (Or.inl ⟨by rfl, ?_⟩) ?_ ?_
                rotate_left
                · intro w'
                  go_simp
                  with_reducible rfl
                rotate_left
                · simp only [Act.put, List.setIfInBounds_toArray, List.set_cons_zero, List.set_cons_succ, i64_w, i32_w]
                  rfl
                refine take_ (i := 1) (N := some 91) (v := ?_) (a' := ?_) #[true, true, false, false, false, false, false, false, false, false, false, false] rfl rfl (by kernel_rfl) (fun _ _ _ h => h) (Or.inl ⟨by rfl, ?_⟩) hHeld ?_ ?_
                rotate_left
                · rintro w' ⟨s0, s1, s2⟩
                  go_simp
                  with_reducible rfl
                rotate_left
                · simp only [Act.put, List.setIfInBounds_toArray, List.set_cons_zero, List.set_cons_succ, i64_w, i32_w]
                  rfl
                refine pure_ (i := 2) (N := some 92) (v := ?_) (a' := ?_) #[true, true, true, false, false, false, false, false, false, false, false, false] rfl rfl (by kernel_rfl) (fun _ _ _ h => h) (Or.inl ⟨by rfl, ?_⟩) ?_ ?_
                rotate_left
                · intro w'
                  go_simp
                  with_reducible rfl
                rotate_left
                · simp only [Act.put, List.setIfInBounds_toArray, List.set_cons_zero, List.set_cons_succ, i64_w, i32_w]
                  rfl
                refine take_ (i := 3) (N := some 93) (v := ?_) (a' := ?_) #[true, true, true, true, false, false, false, false, false, false, false, false] rfl rfl (by kernel_rfl) (fun _ _ _ h => h) (Or.inl ⟨by rfl, ?_⟩) hHeld ?_ ?_
                rotate_left
                · rintro w' ⟨s0, s1, s2⟩
                  go_simp
                  with_reducible rfl
                rotate_left
                · simp only [Act.put, List.setIfInBounds_toArray, List.set_cons_zero, List.set_cons_succ, i64_w, i32_w]
                  rfl
                refine pure_ (i := 4) (N := some 94) (v := ?_) (a' := ?_) #[true, true, true, true, true, false, false, false, false, false, false, false] rfl rfl (by kernel_rfl) (fun _ _ _ h => h) (Or.inl ⟨by rfl, ?_⟩) ?_ ?_
                rotate_left
                · intro w'
                  go_simp
                  with_reducible rfl
                rotate_left
                · simp only [Act.put, List.setIfInBounds_toArray, List.set_cons_zero, List.set_cons_succ, i64_w, i32_w]
                  rfl
                refine pure_ (i := 5) (N := some 95) (v := ?_) (a' := ?_) #[true, true, true, true, true, true, false, false, false, false, false, false] rfl rfl (by kernel_rfl) (fun _ _ _ h => h) (Or.inl ⟨by rfl, ?_⟩) ?_ ?_
                rotate_left
                · intro w'
                  go_simp
                  with_reducible rfl
                rotate_left
                · simp only [Act.put, List.setIfInBounds_toArray, List.set_cons_zero, List.set_cons_succ, i64_w, i32_w]
                  rfl
                refine pure_ (i := 6) (N := some 96) (v := ?_) (a' := ?_) #[true, true, true, true, true, true, true, false, false, false, false, false] rfl rfl (by kernel_rfl) (fun _ _ _ h => h) (Or.inl ⟨by rfl, ?_⟩) ?_ ?_
                rotate_left
                · intro w'
                  go_simp
                  with_reducible rfl
                rotate_left
                · simp only [Act.put, List.setIfInBounds_toArray, List.set_cons_zero, List.set_cons_succ, i64_w, i32_w]
                  rfl
                refine take_ (i := 7) (N := some 97) (v := ?_) (a' := ?_) #[true, true, true, true, true, true, true, true, false, false, false, false] rfl rfl (by kernel_rfl) (fun _ _ _ h => h) (Or.inl ⟨by rfl, ?_⟩) hHeld ?_ ?_
                rotate_left
                · rintro w' ⟨s0, s1, s2⟩
                  go_simp
                  with_reducible rfl
                rotate_left
                · simp only [Act.put, List.setIfInBounds_toArray, List.set_cons_zero, List.set_cons_succ, i64_w, i32_w]
                  rfl
                refine one_ (i := 8) (N := some 98) #[true, true, true, true, true, true, true, true, true, false, false, false] rfl rfl (by kernel_rfl) (by decide) (fun K hK => ?_)
                refine event_step (v := .slice (some ⟨(wd).heap.size, 0, none⟩) 1 1) (w1 := (wd).alloc (.cells #[.int .i64 (rd_T24 W1 (j : Int)).f1] 3)) (by rfl) (by first | (go_simp; done) | (go_simp; rfl)) ?_
                refine hK.out _ _ (held3 (below_alloc (Below.refl _ wd) _) hHeld) (fun hHeld => ?_)
                clear hK K
                refine norm_ (a' := ?_) ?_ ?_
                rotate_left
                · show Act.put _ (some 98) _ = _
                  simp only [Act.put, List.setIfInBounds_toArray, List.set_cons_zero, List.set_cons_succ, i64_w, i32_w]
                  rfl
                refine one_ (i := 9) (N := some 99) #[true, true, true, true, true, true, true, true, true, true, false, false] rfl rfl (by kernel_rfl) (by decide) (fun K hK => ?_)
                refine Kd.R_append_step kI (w0 := w) w.heap.size (by rfl) (.tmp 91) (.tmp 98) 31 3 (.int .i64 0) 8 rfl Try.underlying31 info3 rfl (by decide) (by omega) (.slice nA N.length nc) N ((rd_T24 W1 (j : Int)).f1) [.int .i64 ((rd_T24 W1 (j : Int)).f1)] (fun k => some k ≠ (Value.slice gA G.length gc).ownBlock) (fun _ => False) rfl rfl rfl (fun _ hk => hk.elim) (R_room RG.out) (RN.out) (BB.out) (BB.out.size) (by omega) ?_
                intro v10 w10 ho hb hg hat
                have T1 := Aside0.mk (blk_grown T1.out hg (Kd.R_ne RN.out T1.out (by decide)))
                have T2 := Aside0.mk (blk_grown T2.out hg (Kd.R_ne RN.out T2.out (by decide)))
                have T3 := Aside0.mk (blk_grown T3.out hg (Kd.R_ne RN.out T3.out (by decide)))
                have T4 := Aside0.mk (blk_grown T4.out hg (Kd.R_ne RN.out T4.out (by decide)))
                have RH := Aside0.mk (R_aside RH.out RN.out (by decide) hg)
                have RW := Aside0.mk (R_aside RW.out RN.out (by decide) hg)
                have RG := Aside0.mk (R_beside RG.out hg hat)
                have RN := Aside0.mk ho
                have BB := Aside0.mk hb
                clear ho hb hg hat
                obtain ⟨ae2, hae, a0, a1, a2, a3, a4⟩ := at_T24 (Kd.R_reads' RW.out).2.2 (j : Int) (by omega) (by omega)
                cases hae
                simp only [Int.toNat_natCast] at a0 a1 a2 a3 a4
                refine hK.out _ _ ⟨(blk_cell T4.out 1).trans rfl, (blk_cell T1.out 1).trans rfl, a1⟩ (fun hHeld => ?_)
                clear hK K
                refine norm_ (a' := ?_) ?_ ?_
                rotate_left
                · show Act.put _ (some 99) _ = _
                  simp only [Act.put, List.setIfInBounds_toArray, List.set_cons_zero, List.set_cons_succ, i64_w, i32_w]
                  rfl
                clear a0 a1 a2 a3 a4
                refine pure_ (i := 10) (N := some 100) (v := ?_) (a' := ?_) #[true, true, true, true, true, true, true, true, true, true, true, false] rfl rfl (by kernel_rfl) (fun _ _ _ h => h) (Or.inl ⟨by rfl, ?_⟩) ?_ ?_
                rotate_left
                · intro w'
                  go_simp
                  with_reducible rfl
                rotate_left
                · simp only [Act.put, List.setIfInBounds_toArray, List.set_cons_zero, List.set_cons_succ, i64_w, i32_w]
                  rfl
                obtain ⟨KK, hKK⟩ : ∃ KK, KK = N ++ [(rd_T24 W1 (j : Int)).f1] := ⟨_, rfl⟩
                have HKK := Aside0.mk hKK
                rw [← hKK] at RN
                clear hKK
                obtain ⟨kA, kc, rfl⟩ := Kd.R_slice RN.out
                have z0 := (blk_cell T4.out 0).trans rfl; have z1 := (blk_cell T4.out 1).trans rfl
                have fz0 := blk_frozen T4.out 0; have fz1 := blk_frozen T4.out 1
                refine last_ (i := 11) (N := none) #[true, true, true, true, true, true, true, true, true, true, true, true] rfl rfl (by kernel_rfl) (by decide) (fun K hK => ?_)
                refine skip_ (w1 := ?_) (by rfl) rfl ?_ ?_
                rotate_left
                · go_simp
                  rfl
                refine hK.out _ _ ?_
                clear hK K
                refine done_ (by kernel_rfl) ?_
                clear z0 z1 fz0 fz1 hHeld
                have T1 := Aside0.mk (blk_far T1.out (p := ⟨b4, 1, none⟩) (blk_ne T1.out T4.out (by decide)) (.slice kA KK.length kc))
                have T2 := Aside0.mk (blk_far T2.out (p := ⟨b4, 1, none⟩) (blk_ne T2.out T4.out (by decide)) (.slice kA KK.length kc))
                have T3 := Aside0.mk (blk_far T3.out (p := ⟨b4, 1, none⟩) (show w.heap.size + 1 + 1 ≠ b4 by have := L4.out; omega) (.slice kA KK.length kc))
                have RH := Aside0.mk (Kd.R_set RH.out T4.out (by decide) 1 (.slice kA KK.length kc))
                have RW := Aside0.mk (Kd.R_set RW.out T4.out (by decide) 1 (.slice kA KK.length kc))
                have RG := Aside0.mk (Kd.R_set RG.out T4.out (by decide) 1 (.slice kA KK.length kc))
                have RN := Aside0.mk (Kd.R_set RN.out T4.out (by decide) 1 (.slice kA KK.length kc))
                have BB := Aside0.mk (BB.out.setCell (p := ⟨b4, 1, none⟩) (show w.heap.size ≤ b4 by have := L4.out; omega) (.slice kA KK.length kc))
                have T4 := Aside0.mk (blk_put T4.out 1 (.slice kA KK.length kc) rfl)
                generalize w10.setCell ⟨b4, 1, none⟩ (.slice kA KK.length kc) = wk at T1 T2 T3 T4 RH RW RG RN BB ⊢
                have x0 := (blk_cell T1.out 0).trans rfl; have x1 := (blk_cell T1.out 1).trans rfl
                go_upto_region 3 with (fail)
                refine (withoutR_calls _ wc W1 j _ (Kd.R_reads' RW.out).2.2 hcW (by omega) (by omega)).mono ?_
                rintro e w9 ⟨v, rfl, hv, hb⟩
                have RW := Aside0.mk (R_fresh RH.out hv BB.out.size)
                have RH := Aside0.mk (R_old RH.out hb hv)
                have T1 := Aside0.mk (blk_below T1.out hb)
                have T2 := Aside0.mk (blk_below T2.out hb)
                have T3 := Aside0.mk (blk_below T3.out hb)
                have T4 := Aside0.mk (blk_below T4.out hb)
                have RG := Aside0.mk (Kd.R_below RG.out hb)
                have RN := Aside0.mk (Kd.R_below RN.out hb)
                have BB := Aside0.mk (below_step BB.out hb)
                clear hb hv x0 x1
                obtain ⟨WE, hWE⟩ : ∃ WE, WE = W1.eraseIdx j := ⟨_, rfl⟩
                have HWE := Aside0.mk hWE
                rw [← hWE] at RW
                clear hWE
                obtain ⟨wA2, wc2, rfl⟩ := Kd.R_slice RW.out
                have x0 := (blk_cell T1.out 0).trans rfl; have x1 := (blk_cell T1.out 1).trans rfl
                have fx0 := blk_frozen T1.out 0; have fx1 := blk_frozen T1.out 1
                go_upto_region 3 with (fail)
                clear x0 x1 fx0 fx1
                have T2 := Aside0.mk (blk_far T2.out (p := ⟨w.heap.size, 1, none⟩) (show w.heap.size + 1 ≠ w.heap.size by omega) (.slice wA2 WE.length wc2))
                have T3 := Aside0.mk (blk_far T3.out (p := ⟨w.heap.size, 1, none⟩) (show w.heap.size + 1 + 1 ≠ w.heap.size by omega) (.slice wA2 WE.length wc2))
                have T4 := Aside0.mk (blk_far T4.out (p := ⟨w.heap.size, 1, none⟩) (blk_ne T4.out T1.out (by decide)) (.slice wA2 WE.length wc2))
                have RH := Aside0.mk (Kd.R_set RH.out T1.out (by decide) 1 (.slice wA2 WE.length wc2))
                have RW := Aside0.mk (Kd.R_set RW.out T1.out (by decide) 1 (.slice wA2 WE.length wc2))
                have RG := Aside0.mk (Kd.R_set RG.out T1.out (by decide) 1 (.slice wA2 WE.length wc2))
                have RN := Aside0.mk (Kd.R_set RN.out T1.out (by decide) 1 (.slice wA2 WE.length wc2))
                have BB := Aside0.mk (BB.out.setCell (p := ⟨w.heap.size, 1, none⟩) (Nat.le_refl _) (.slice wA2 WE.length wc2))
                have T1 := Aside0.mk (blk_put T1.out 1 (.slice wA2 WE.length wc2) rfl)
                generalize w9.setCell ⟨w.heap.size, 1, none⟩ (.slice wA2 WE.length wc2) = wk at T1 T2 T3 T4 RH RW RG RN BB ⊢
                have HSM := Aside0.mk (show SettI H W H1 WE G KK by rw [HWE.out, HKK.out]; exact HSN.out)
                have HWL := Aside0.mk (show WE.length + 1 = W1.length by rw [HWE.out, List.length_eraseIdx_of_lt hjW]; omega)
                go_wp2
                go_roundg WE.length
                case measure => have := HKQ.out; have := HWL.out; omega
                case rel => exact ⟨H1, WE, G, KK, _, _, _, _, ⟨rfl⟩, T1, T2, T3, T4, RH, RW, RG, RN, BB, HSM⟩
end Go.Proofs.Ytifnfnoicinbaaa.M
