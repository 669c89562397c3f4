/- lock.circle, lock.stuck. -/
import Derived.Test.YtifnfnoicinbaaaA7
namespace Go.Proofs.Ytifnfnoicinbaaa.M
open Go.RowKit Go.Proofs.YtifnfnoicinbaaaW.PrintWords Go.Proofs.YtifnfnoicinbaaaW.PrintLast Go.Proofs.YtifnfnoicinbaaaW.PrintMore
set_option linter.unusedVariables false
set_option linter.unusedSimpArgs false
set_option linter.unnecessarySimpa false

/-- What is asked of a table for its searches. -/
structure Good (H Wt : List S24) : Prop where
  wf : ∀ x ∈ H ++ Wt, (Lit.int .i64 x.f1).wf = true
  len : H.length + Wt.length ≤ 1000
  single : PL.Single hdL Wt
theorem lead_true {H Wt : List S24} {t : Int} (hG : Good H Wt) (h : Relation.TransGen (StpL H Wt) t t) : PL.circB hdL mtL H Wt t = true := (PL.circB_iff hG.single t).2 h
theorem lead_false {H Wt : List S24} {t : Int} {M' : List Int} (hG : Good H Wt) (hk : Marked H Wt t [] M') (hc : ∀ y, StpL H Wt t y → y ∈ M' ∧ y ≠ t) : PL.circB hdL mtL H Wt t = false := by
  cases hb : PL.circB hdL mtL H Wt t with
  | false => rfl
  | true => exact absurd ((PL.circB_iff hG.single t).1 hb) (PL.not_reach (M := M') (fun x hx y hy => hk.new x hx (by simp) y hy) hc)
theorem alloc_obj {W : World} {k : Nat} {o : Obj} (h : W.heap[k]? = some o) (o' : Obj) : (W.alloc o').heap[k]? = some o := (Below.heap_alloc W o' k (Array.getElem?_eq_some_iff.1 h).1).trans h
theorem store_at {P : Program} {W : World} {g t : Nat} {u : Value} (v : Value) (hb : W.heap[g]? = some (.cells #[u] t (0, 0))) (h1 : v.oneCell' = true) : (store ⟨g, 0, none⟩ v).run P W = .ok () (W.setCell ⟨g, 0, none⟩ v) := by
  have hc : W.cell? ⟨g, 0, none⟩ = some u := (blk_cell hb 0).trans rfl
  have hf : W.frozen? ⟨g, 0, none⟩ = false := blk_frozen hb 0
  rw [run_store P W _ v _ h1, hc]
  simp [hf]
set_option maxRecDepth 100000 in
set_option maxHeartbeats 2000000 in
theorem circle_calls (q : Nat) (t : Int) (H Wt : List S24) (w : World) (hT : TabC w q H Wt) (hG : Good H Wt) :
    Calls Try.prog 82 #[.pointer (some ⟨q, 0, none⟩), .int .i64 t] w fun e w' => e = .returned (.bool (PL.circB hdL mtL H Wt t)) ∧ Below w.heap.size w w' := by
  have HT := Aside0.mk hT
  have HGD := Aside0.mk hG
  clear hT hG
  have hmm := @run_makeMap Try.prog
  have HE94 := Aside0.mk (enters_ Try.func94 (by kernel_rfl) rfl)
  go_enter Try.func82, Try.ntmps82
  go_upto_region 3 with (fail)
  have hb1 := below_alloc (below_alloc (below_alloc (below_alloc (below_alloc (Below.refl _ w) (.cells #[.pointer (some ⟨q, 0, none⟩)] 64)) (.cells #[.int .i64 t] 3)) (.map #[] 0)) (.cells #[.map (some (w.heap.size + 1 + 1))] 97)) (.cells #[.nilFunc] 79)
  have g0 := blk_alloc (blk_alloc (alloc_obj (blk_alloc (blk_lit0 w (.cells #[.pointer (some ⟨q, 0, none⟩)] 64)) (.cells #[.int .i64 t] 3)) (.map #[] 0)) (.cells #[.map (some (w.heap.size + 1 + 1))] 97)) (.cells #[.nilFunc] 79)
  have g1 := blk_alloc (blk_alloc (alloc_obj (blk_lit w (.cells #[.pointer (some ⟨q, 0, none⟩)] 64) (.cells #[.int .i64 t] 3)) (.map #[] 0)) (.cells #[.map (some (w.heap.size + 1 + 1))] 97)) (.cells #[.nilFunc] 79)
  have gm : MapB _ _ _ := ((MapB.made ((w.alloc (.cells #[.pointer (some ⟨q, 0, none⟩)] 64)).alloc (.cells #[.int .i64 t] 3))).below (below_alloc (Below.refl _ _) (.cells #[.map (some (w.heap.size + 1 + 1))] 97))).below (below_alloc (Below.refl _ _) (.cells #[.nilFunc] 79))
  have g3 := blk_alloc (blk_lit3 w (.cells #[.pointer (some ⟨q, 0, none⟩)] 64) (.cells #[.int .i64 t] 3) (.map #[] 0) (.cells #[.map (some (w.heap.size + 1 + 1))] 97)) (.cells #[.nilFunc] 79)
  have g4 := blk_lit4 w (.cells #[.pointer (some ⟨q, 0, none⟩)] 64) (.cells #[.int .i64 t] 3) (.map #[] 0) (.cells #[.map (some (w.heap.size + 1 + 1))] 97) (.cells #[.nilFunc] 79)
  simp only [World.size_alloc] at gm
  generalize (((((w.alloc (.cells #[.pointer (some ⟨q, 0, none⟩)] 64)).alloc (.cells #[.int .i64 t] 3)).alloc (.map #[] 0)).alloc (.cells #[.map (some (w.heap.size + 1 + 1))] 97)).alloc (.cells #[.nilFunc] 79)) = W at hb1 g0 g1 gm g3 g4 ⊢
  have HBW := Aside0.mk hb1
  have G0 := Aside0.mk g0
  have G1 := Aside0.mk g1
  have GM := Aside0.mk gm
  have G3 := Aside0.mk g3
  have hst := store_at (P := Try.prog) (.func (.func 94) #[] #[.pointer (some ⟨w.heap.size, 0, none⟩), .pointer (some ⟨w.heap.size + 1, 0, none⟩), .pointer (some ⟨w.heap.size + 1 + 1 + 1, 0, none⟩), .pointer (some ⟨w.heap.size + 1 + 1 + 1 + 1, 0, none⟩)]) g4 rfl
  have G4 := Aside0.mk (blk_put g4 0 (.func (.func 94) #[] #[.pointer (some ⟨w.heap.size, 0, none⟩), .pointer (some ⟨w.heap.size + 1, 0, none⟩), .pointer (some ⟨w.heap.size + 1 + 1 + 1, 0, none⟩), .pointer (some ⟨w.heap.size + 1 + 1 + 1 + 1, 0, none⟩)]) rfl)
  clear hb1 g0 g1 gm g3 g4 hmm
  go_upto_region 4 with (fail)
  obtain ⟨W2, hW2⟩ : ∃ W2, W2 = W.setCell ⟨w.heap.size + 1 + 1 + 1 + 1, 0, none⟩ (.func (.func 94) #[] #[.pointer (some ⟨w.heap.size, 0, none⟩), .pointer (some ⟨w.heap.size + 1, 0, none⟩), .pointer (some ⟨w.heap.size + 1 + 1 + 1, 0, none⟩), .pointer (some ⟨w.heap.size + 1 + 1 + 1 + 1, 0, none⟩)]) := ⟨_, rfl⟩
  rw [← hW2]
  have HB2 := Aside0.mk (show Below w.heap.size w W2 by rw [hW2]; exact HBW.out.setCell (p := ⟨w.heap.size + 1 + 1 + 1 + 1, 0, none⟩) (show w.heap.size ≤ w.heap.size + 1 + 1 + 1 + 1 by omega) _)
  have HE2 : Aside0 (LeadEnv w W2 q w.heap.size (w.heap.size + 1) (w.heap.size + 1 + 1 + 1) (w.heap.size + 1 + 1 + 1 + 1) (w.heap.size + 1 + 1) t) := ⟨HB2.out, by rw [hW2]; exact blk_far G0.out (show w.heap.size ≠ w.heap.size + 1 + 1 + 1 + 1 by omega) _, by rw [hW2]; exact blk_far G1.out (show w.heap.size + 1 ≠ w.heap.size + 1 + 1 + 1 + 1 by omega) _, by rw [hW2]; exact blk_far G3.out (show w.heap.size + 1 + 1 + 1 ≠ w.heap.size + 1 + 1 + 1 + 1 by omega) _, by rw [hW2]; exact G4.out, by omega⟩
  have HM2 := Aside0.mk (show MapB W2 (w.heap.size + 1 + 1) [] by rw [hW2]; exact GM.out.kept (setCell_grown _ _ _ _) (by simp))
  clear hW2 hst
  have hl := HE2.out.bl
  have hh := HE2.out.bh
  have l0 := (blk_cell hl 0).trans rfl
  have b0 := (blk_cell hh 0).trans rfl
  clear hl hh
  go_wp2_with ((with_reducible refine gate_dst (N := 11) rfl ?_); refine goesV (some 11) rfl rfl HE94.out #[.int .i64 t] rfl rfl (by (try simp only [List.map_toArray, List.map_cons, List.map_nil]); first | done | rfl) ?_; refine (leads_calls w q _ _ _ _ _ t H Wt HT.out HGD.out.wf HGD.out.len _ t [] W2 (Nat.le_refl _) (by have h1 := PL.leftN_le (UL H Wt) []; have h2 := HGD.out.len; simp at h1 ⊢; omega) HE2.out HM2.out).mono ?_; rintro e W3 ⟨b, rfl, hg, htr, hfl⟩; refine ⟨_, rfl, ?_⟩; have HG3 := Aside0.mk hg; have HTR := Aside0.mk htr; have HFL := Aside0.mk hfl; clear hg htr hfl l0 b0)
  go_ret
  have hb3 := G_below HG3.out (show w.heap.size ≤ w.heap.size + 1 + 1 by omega) HB2.out.size
  refine ⟨?_, HB2.out.trans hb3⟩
  cases b with
  | true => rw [lead_true HGD.out (by first | exact HTR.out rfl | exact HTR.out trivial)]; rfl
  | false =>
    obtain ⟨M', _, h2, h3⟩ := (by first | exact HFL.out rfl | exact HFL.out trivial)
    rw [lead_false HGD.out h2 h3]; rfl
end Go.Proofs.Ytifnfnoicinbaaa.M
