/- A table of the call's own; lock.change. -/
import Derived.Test.YtifnfnoicinbaaaA4
namespace Go.Proofs.Ytifnfnoicinbaaa.M
open Go.RowKit Go.Proofs.YtifnfnoicinbaaaW.PrintWords Go.Proofs.YtifnfnoicinbaaaW.PrintLast Go.Proofs.YtifnfnoicinbaaaW.PrintMore
set_option linter.unusedVariables false
set_option linter.unusedSimpArgs false
set_option linter.unnecessarySimpa false

abbrev kI : Kd Int := Kd.int .i64
/-- A table in change: its rows are the call's own, and four rows. -/
structure TabO (w : World) (base q : Nat) (H Wt : List S24) (G N : List Int) : Prop where
  ex : ∃ vH vW vG vN : Value, w.heap[q]? = some (.cells #[vH, vW, vG, vN] 68 (0, 0)) ∧ base ≤ q ∧ k24.R 24 w base (fun k => some k ≠ vW.ownBlock) vH H ∧ k24.R 24 w base (fun k => some k ≠ vH.ownBlock) vW Wt ∧
    kI.R 3 w base (fun k => some k ≠ vN.ownBlock) vG G ∧ kI.R 3 w base (fun k => some k ≠ vG.ownBlock) vN N
theorem TabO.tab {w : World} {base q : Nat} {H Wt : List S24} {G N : List Int} (h : TabO w base q H Wt G N) : TabC w q H Wt := by
  obtain ⟨vH, vW, vG, vN, hq, _, hH, hW, hG, hN⟩ := h.ex
  obtain ⟨A1, c1, rfl⟩ := Kd.R_slice hH
  obtain ⟨A2, c2, rfl⟩ := Kd.R_slice hW
  exact ⟨A1, A2, c1, c2, vG, vN, hq, (Kd.R_reads' hH).2.2, (Kd.R_reads' hW).2.2, (Kd.R_reads' hW).2.1, (Kd.R_reads' hH).2.1⟩
theorem TabO.below {w W : World} {base q : Nat} {H Wt : List S24} {G N : List Int} (h : TabO w base q H Wt G N) (hb : Below w.heap.size w W) : TabO W base q H Wt G N := by
  obtain ⟨vH, vW, vG, vN, hq, hb0, hH, hW, hG, hN⟩ := h.ex
  exact ⟨vH, vW, vG, vN, blk_below hq hb, hb0, Kd.R_below hH hb, Kd.R_below hW hb, Kd.R_below hG hb, Kd.R_below hN hb⟩
/-- Two rows, one made behind the other. -/
theorem rows_two {w5 w6 : World} {base b5 : Nat} {v u : Value} {H Wt : List S24} (h : k24.R 24 w5 b5 (fun _ => True) v H) (hb5 : base ≤ b5) (hb : Below w5.heap.size w5 w6) (k : k24.R 24 w6 w5.heap.size (fun _ => True) u Wt) (hbase : base ≤ w5.heap.size) :
    k24.R 24 w6 base (fun k => some k ≠ u.ownBlock) v H ∧ k24.R 24 w6 base (fun k => some k ≠ v.ownBlock) u Wt := by
  constructor
  · refine Kd.R_mono (Kd.R_below (Kd.R_lower (Kd.R_bound h) hb5) hb) (fun j hj e => ?_)
    have h1 := Kd.R_base k j e.symm
    have h2 := hj.2.2.1
    omega
  · refine Kd.R_mono (Kd.R_lower (Kd.R_bound k) hbase) (fun j hj e => ?_)
    have h1 := Kd.R_lt h j e.symm
    have h2 := hj.2.1
    omega
set_option maxRecDepth 100000 in
set_option maxHeartbeats 2000000 in
theorem change_calls (AH AW : Option Addr) (cH cW : Nat) (H Wt : List S24) (w : World) (hH : k24.C w AH H.length H) (hW : k24.C w AW Wt.length Wt) (hlen : H.length + Wt.length ≤ 1000) :
    Calls Try.prog 64 #[.agg #[.slice AH H.length cH, .slice AW Wt.length cW]] w fun e w' => ∃ q, e = .returned (.pointer (some ⟨q, 0, none⟩)) ∧ TabO w' w.heap.size q H Wt [] [] ∧ Below w.heap.size w w' := by
  have HH := Aside0.mk hH
  have HW := Aside0.mk hW
  clear hH hW
  go_enter Try.func64, Try.ntmps64
  go_upto_region 1 with (fail)
  have hb_ := below_alloc (Below.refl _ w) (.cells #[.slice AH H.length cH, .slice AW Wt.length cW] 29)
  have hG0_ := blk_lit0 w (.cells #[.slice AH H.length cH, .slice AW Wt.length cW] 29)
  generalize (w.alloc (.cells #[.slice AH H.length cH, .slice AW Wt.length cW] 29)) = W at hb_ hG0_ ⊢
  have HB_W := Aside0.mk hb_
  have W0 := Aside0.mk hG0_
  clear hb_ hG0_
  refine start_ (n := 10) (S := fun w' => w'.cell? ⟨w.heap.size, 0, none⟩ = some (.slice AH H.length cH) ∧ w'.cell? ⟨w.heap.size, 1, none⟩ = some (.slice AW Wt.length cW)) (ds := []) #[false, false, false, false, false, false, false, false, false, false] (by kernel_rfl) rfl rfl ⟨(blk_cell W0.out 0).trans rfl, (blk_cell W0.out 1).trans rfl⟩ (fun hHeld => ?_)
  have HBD := Aside0.mk (below_drew1 HB_W.out)
  have HD0 := Aside0.mk (blk_drew W0.out)
  generalize W.drew = wd at HBD HD0 hHeld ⊢
  refine pure_ (i := 0) (N := some 3) (v := ?_) (a' := ?_) #[true, false, false, false, false, false, false, false, false, false] rfl rfl (by kernel_rfl) (fun _ _ _ h => h) (Or.inl ⟨by rfl, ?_⟩) ?_ ?_
  rotate_left
  · intro w'
    go_simp
    with_reducible rfl
  rotate_left
  · simp only [Act.put, List.setIfInBounds_toArray, List.set_cons_zero, List.set_cons_succ, i64_w, i32_w]
    rfl
  refine pure_ (i := 3) (N := some 6) (v := ?_) (a' := ?_) #[true, false, false, true, false, false, false, false, false, false] rfl rfl (by kernel_rfl) (fun _ _ _ h => h) (Or.inl ⟨by rfl, ?_⟩) ?_ ?_
  rotate_left
  · intro w'
    go_simp
    with_reducible rfl
  rotate_left
  · simp only [Act.put, List.setIfInBounds_toArray, List.set_cons_zero, List.set_cons_succ, i64_w, i32_w]
    rfl
  refine take_ (i := 1) (N := some 4) (v := ?_) (a' := ?_) #[true, true, false, true, false, false, false, false, false, false] rfl rfl (by kernel_rfl) (fun _ _ _ h => h) (Or.inl ⟨by rfl, ?_⟩) hHeld ?_ ?_
  rotate_left
  · rintro w' ⟨s0, s1⟩
    go_simp
    with_reducible rfl
  rotate_left
  · simp only [Act.put, List.setIfInBounds_toArray, List.set_cons_zero, List.set_cons_succ, i64_w, i32_w]
    rfl
  refine take_ (i := 4) (N := some 7) (v := ?_) (a' := ?_) #[true, true, false, true, true, false, false, false, false, false] rfl rfl (by kernel_rfl) (fun _ _ _ h => h) (Or.inl ⟨by rfl, ?_⟩) hHeld ?_ ?_
  rotate_left
  · rintro w' ⟨s0, s1⟩
    go_simp
    with_reducible rfl
  rotate_left
  · simp only [Act.put, List.setIfInBounds_toArray, List.set_cons_zero, List.set_cons_succ, i64_w, i32_w]
    rfl
  refine one_ (i := 2) (N := some 5) #[true, true, true, true, true, false, false, false, false, false] rfl rfl (by kernel_rfl) (by decide) (fun K hK => ?_)
  refine goes_ Try.func81 (by kernel_rfl) rfl #[.slice AH H.length cH] (by rfl) rfl rfl (by (try simp only [List.map_toArray, List.map_cons, List.map_nil]); first | done | rfl) ?_
  refine (clone_calls AH cH H _ (Kd.C_below HH.out HBD.out) (by omega)).mono ?_
  rintro e w5 ⟨v5, rfl, hra, hb⟩
  refine ⟨_, rfl, ?_⟩
  obtain ⟨A5, c5, rfl⟩ := Kd.R_slice hra
  have HB5 := Aside0.mk (below_step HBD.out hb)
  have H5 := Aside0.mk (blk_below HD0.out hb)
  have HR5 := Aside0.mk hra
  have HS5 := Aside0.mk HBD.out.size
  clear hra hb
  refine hK.out _ _ ⟨(blk_cell H5.out 0).trans rfl, (blk_cell H5.out 1).trans rfl⟩ (fun hHeld => ?_)
  clear hK K
  refine norm_ (a' := ?_) ?_ ?_
  rotate_left
  · show Act.put _ (some 5) _ = _
    simp only [Act.put, List.setIfInBounds_toArray, List.set_cons_zero, List.set_cons_succ, i64_w, i32_w]
    rfl
  refine one_ (i := 5) (N := some 8) #[true, true, true, true, true, true, false, false, false, false] rfl rfl (by kernel_rfl) (by decide) (fun K hK => ?_)
  refine goes_ Try.func81 (by kernel_rfl) rfl #[.slice AW Wt.length cW] (by rfl) rfl rfl (by (try simp only [List.map_toArray, List.map_cons, List.map_nil]); first | done | rfl) ?_
  refine (clone_calls AW cW Wt _ (Kd.C_below HW.out HB5.out) (by omega)).mono ?_
  rintro e w6 ⟨v6, rfl, hra, hb⟩
  refine ⟨_, rfl, ?_⟩
  obtain ⟨A6, c6, rfl⟩ := Kd.R_slice hra
  have H6 := Aside0.mk (blk_below H5.out hb)
  have HR12 := Aside0.mk (rows_two HR5.out HS5.out hb hra HB5.out.size)
  have HB6 := Aside0.mk (below_step HB5.out hb)
  clear hra hb
  refine hK.out _ _ ⟨(blk_cell H6.out 0).trans rfl, (blk_cell H6.out 1).trans rfl⟩ (fun hHeld => ?_)
  clear hK K
  refine norm_ (a' := ?_) ?_ ?_
  rotate_left
  · show Act.put _ (some 8) _ = _
    simp only [Act.put, List.setIfInBounds_toArray, List.set_cons_zero, List.set_cons_succ, i64_w, i32_w]
    rfl
  refine pure_ (i := 6) (N := some 9) (v := ?_) (a' := ?_) #[true, true, true, true, true, true, true, false, false, false] rfl rfl (by kernel_rfl) (fun _ _ _ h => h) (Or.inl ⟨by rfl, ?_⟩) ?_ ?_
  rotate_left
  · intro w'
    go_simp
    with_reducible rfl
  rotate_left
  · simp only [Act.put, List.setIfInBounds_toArray, List.set_cons_zero, List.set_cons_succ, i64_w, i32_w]
    rfl
  refine pure_ (i := 7) (N := some 10) (v := ?_) (a' := ?_) #[true, true, true, true, true, true, true, true, false, false] rfl rfl (by kernel_rfl) (fun _ _ _ h => h) (Or.inl ⟨by rfl, ?_⟩) ?_ ?_
  rotate_left
  · intro w'
    go_simp
    with_reducible rfl
  rotate_left
  · simp only [Act.put, List.setIfInBounds_toArray, List.set_cons_zero, List.set_cons_succ, i64_w, i32_w]
    rfl
  refine one_ (i := 8) (N := some 11) #[true, true, true, true, true, true, true, true, true, false] rfl rfl (by kernel_rfl) (by decide) (fun K hK => ?_)
  refine box_step ?hg (N := 11) ?hd (cs := #[.slice A5 H.length c5, .slice A6 Wt.length c6, .slice none 0 0, .slice none 0 0]) (t := 68) ?hr ?_
  (case hd => rfl)
  (case hg => rfl)
  (case hr => first | (go_simp; done) | (go_simp; rfl))
  intro q hq w7 hbox hb7
  have H7 := Aside0.mk (blk_below H6.out hb7)
  have HX := Aside0.mk hbox
  have HB7 := Aside0.mk (below_step HB6.out hb7)
  have HR7 := Aside0.mk (Kd.R_below HR12.out.1 hb7)
  have HS7 := Aside0.mk (Kd.R_below HR12.out.2 hb7)
  have HQ7 := Aside0.mk (show w.heap.size ≤ q by have := HB6.out.size; omega)
  clear hbox hb7 hq
  refine hK.out _ _ ⟨(blk_cell H7.out 0).trans rfl, (blk_cell H7.out 1).trans rfl⟩ (fun hHeld => ?_)
  clear hK K
  refine norm_ (a' := ?_) ?_ ?_
  rotate_left
  · show Act.put _ (some 11) _ = _
    simp only [Act.put, List.setIfInBounds_toArray, List.set_cons_zero, List.set_cons_succ, i64_w, i32_w]
    rfl
  skip
  refine pure_ (i := 9) (N := some 2) (v := ?_) (a' := ?_) #[true, true, true, true, true, true, true, true, true, true] rfl rfl (by kernel_rfl) (fun _ _ _ h => h) (Or.inl ⟨by rfl, ?_⟩) ?_ ?_
  rotate_left
  · intro w'
    go_simp
    with_reducible rfl
  rotate_left
  · simp only [Act.put, List.setIfInBounds_toArray, List.set_cons_zero, List.set_cons_succ, i64_w, i32_w]
    rfl
  refine done_ (by kernel_rfl) ?_
  go_wp2
  go_ret
  exact ⟨q, rfl, ⟨_, _, _, _, HX.out, HQ7.out, HR7.out, HS7.out, Kd.R_nil _ _ _ _ _, Kd.R_nil _ _ _ _ _⟩, HB7.out⟩
end Go.Proofs.Ytifnfnoicinbaaa.M
