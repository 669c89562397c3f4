/- lock.blocked. -/
import Derived.Test.YtifnfnoicinbaaaA3
import Derived.Test.YtifnfnoicinbaaaA5
namespace Go.Proofs.Ytifnfnoicinbaaa.M
open Go.RowKit Go.Proofs.YtifnfnoicinbaaaW.PrintWords Go.Proofs.YtifnfnoicinbaaaW.PrintLast Go.Proofs.YtifnfnoicinbaaaW.PrintMore
set_option linter.unusedVariables false
set_option linter.unusedSimpArgs false
set_option linter.unnecessarySimpa false

/-- What a table in memory holds. -/
structure TabC (w : World) (q : Nat) (H Wt : List S24) : Prop where
  ex : ∃ (AH AW : Option Addr) (cH cW : Nat) (v3 v4 : Value), w.heap[q]? = some (.cells #[.slice AH H.length cH, .slice AW Wt.length cW, v3, v4] 68 (0, 0)) ∧ k24.C w AH H.length H ∧ k24.C w AW Wt.length Wt ∧ Wt.length ≤ cW ∧ H.length ≤ cH
theorem TabC.below {w W : World} {q : Nat} {H Wt : List S24} (h : TabC w q H Wt) (hb : Below w.heap.size w W) : TabC W q H Wt := by
  obtain ⟨AH, AW, cH, cW, v3, v4, h1, h2, h3, h4, h5⟩ := h.ex
  exact ⟨AH, AW, cH, cW, v3, v4, blk_below h1 hb, Kd.C_below h2 hb, Kd.C_below h3 hb, h4, h5⟩
theorem blockers_gives {H Wt : List S24} {i q tb ib n₀ : Nat} {w0 W : World} (hT : TabC w0 q H Wt) (hb0 : Below w0.heap.size w0 W) (hn : ib < n₀) (hi : i < Wt.length)
    (htb : W.heap[tb]? = some (.cells #[.pointer (some ⟨q, 0, none⟩)] 64 (0, 0))) (hib : W.heap[ib]? = some (.cells #[.int .i64 i] 3 (0, 0))) :
    IterGives Try.prog 78 #[.pointer (some ⟨tb, 0, none⟩), .pointer (some ⟨ib, 0, none⟩)] (fun x : S24 => #[.agg #[.int .i64 x.f0, .int .i64 x.f1, .int .i64 x.f2, .int .i64 x.f3, .bool x.f4]]) (PL.blks mtL H Wt i) (KeptI w0.heap.size n₀) W := by
  obtain ⟨AH, AW, cH, cW, v3, v4, h1, h2, h3, h4, _⟩ := hT.ex
  exact fun ly J Jx W' hW hJ hJx hY h0 => blockers_iter AH AW cH cW v3 v4 H Wt i q tb ib ly n₀ w0 W' (hb0.trans (hW.mono hb0.size)) hn h1 h2 h3 h4 hi (blk_below htb hW) (blk_below hib hW) J Jx hJ hJx hY h0
theorem keptI_turn {n₁ n₀ : Nat} {W : World} {l : Nat} {o o' : Obj} (hl : n₁ ≤ l) (h : W.heap[l]? = some o) (ho : o.isCells = false) : KeptI n₁ n₀ W (W.putObj l o') :=
  ⟨below_turn (Below.refl _ _) (grownBy_putObj' W l o') (by have := (Array.getElem?_eq_some_iff.1 h).1; omega) (fun r e => by cases e; exact hl),
   fun k cs t hk _ => blk_turn hk (grownBy_putObj' W l o') (fun r e => by cases e; exact ⟨o, h, ho⟩)⟩
def blkB (H Wt : List S24) (i : Nat) : Bool := !(PL.blks mtL H Wt i).isEmpty
theorem blkB_nil {H Wt : List S24} {i : Nat} (h : PL.blks mtL H Wt i = []) : blkB H Wt i = false := by unfold blkB; rw [h]; rfl
theorem blkB_pre {H Wt : List S24} {i : Nat} {pre : List S24} (h : pre <+: PL.blks mtL H Wt i) (hp : pre ≠ []) : blkB H Wt i = true := by
  unfold blkB
  cases hq : PL.blks mtL H Wt i with
  | nil => rw [hq] at h; exact absurd (List.prefix_nil.1 h) hp
  | cons => rfl
set_option maxRecDepth 100000 in
set_option maxHeartbeats 2000000 in
theorem blocked_calls (q i : Nat) (H Wt : List S24) (w : World) (hT : TabC w q H Wt) (hi : i < Wt.length) :
    Calls Try.prog 74 #[.pointer (some ⟨q, 0, none⟩), .int .i64 i] w fun e w' => e = .returned (.bool (blkB H Wt i)) ∧ Below w.heap.size w w' := by
  have HT := Aside0.mk hT
  clear hT
  have he := enters_ Try.func78 (by kernel_rfl) rfl
  refine calls_of_marks Try.func74 rfl ?_
  simp only [Try.ntmps74, List.size_toArray, List.length_cons, List.length_nil, Nat.reduceAdd, Nat.reduceSub, Array.replicate_succ, Array.replicate_zero, List.push_toArray, List.append_toArray, List.nil_append, List.cons_append]
  go_upto_region 1 with (fail)
  have hb_ := below_alloc (Below.refl _ w) (.cells #[.bool false] 4)
  have hG0_ := blk_lit0 w (.cells #[.bool false] 4)
  generalize (w.alloc (.cells #[.bool false] 4)) = W at hb_ hG0_ ⊢
  have HB_W := Aside0.mk hb_
  have W0 := Aside0.mk hG0_
  clear hb_ hG0_
  go_wp2_with ((with_reducible refine gate_dst (N := 7) rfl ?_); refine goesL_ (some 7) rfl rfl Try.func59 (by kernel_rfl) rfl #[.pointer (some ⟨q, 0, none⟩), .int .i64 i] rfl (by (try simp only [List.map_toArray, List.map_cons, List.map_nil]); first | done | rfl) ?_; refine (blockers_calls q i _).mono ?_; rintro e w' ⟨rfl, rfl⟩; refine ⟨_, rfl, ?_⟩)
  have hb1 := below_alloc (below_alloc HB_W.out (.cells #[.pointer (some ⟨q, 0, none⟩)] 64)) (.cells #[.int .i64 (i : Int)] 3)
  have ht := blk_alloc (blk_new W (.cells #[.pointer (some ⟨q, 0, none⟩)] 64)) (.cells #[.int .i64 (i : Int)] 3)
  have hib := blk_lit W (.cells #[.pointer (some ⟨q, 0, none⟩)] 64) (.cells #[.int .i64 (i : Int)] 3)
  have h0 := blk_alloc (blk_alloc W0.out (.cells #[.pointer (some ⟨q, 0, none⟩)] 64)) (.cells #[.int .i64 (i : Int)] 3)
  have hWs := HB_W.out.size
  simp only [Act.put, List.setIfInBounds_toArray, List.set_cons_zero, List.set_cons_succ]
  generalize hV : (W.alloc (.cells #[.pointer (some ⟨q, 0, none⟩)] 64)).alloc (.cells #[.int .i64 (i : Int)] 3) = V at hb1 ht hib h0 ⊢
  have HB := Aside0.mk hb1
  have H0 := Aside0.mk h0
  clear hV hb1 h0
  refine range_own (gf := 78) (lb := #[.pointer (some ⟨W.heap.size, 0, none⟩), .pointer (some ⟨W.heap.size + 1, 0, none⟩)]) rfl he (fun _ => rfl)
    (blockers_gives HT.out HB.out (n₀ := V.heap.size) (blk_lt hib) hi ht hib) (fun h k => h.trans k) (fun W' l' o' o'' hl h ho => keptI_turn (Nat.le_trans HB.out.size hl) h ho)
    (fun pre W' => pre = [] ∧ W'.heap[w.heap.size]? = some (.cells #[.bool false] 4 (0, 0)) ∧ Below w.heap.size w W')
    (fun c pre W' => c = .ret ∧ pre ≠ [] ∧ W'.heap[w.heap.size]? = some (.cells #[.bool true] 4 (0, 0)) ∧ Below w.heap.size w W') ?hI ?hIx ?h0 ?round ?done ?stop
  case hI =>
    rintro s X Y row ⟨h1, hv, hbx⟩ hg hrr
    exact ⟨h1, blk_turn hv hg (fun r e => (hrr r e).2), below_turn hbx hg hbx.size (fun r e => Nat.le_trans HB.out.size (hrr r e).1)⟩
  case hIx =>
    rintro cc s X Y row ⟨h1, h2, hv, hbx⟩ hg hrr
    exact ⟨h1, h2, blk_turn hv hg (fun r e => (hrr r e).2), below_turn hbx hg hbx.size (fun r e => Nat.le_trans HB.out.size (hrr r e).1)⟩
  case h0 => exact ⟨rfl, H0.out, HB.out⟩
  case round =>
    rintro ly pre x W' K hl hlt ⟨r, hr⟩ ⟨rfl, hv, hbx⟩ hpre hK
    refine wpIn_skip ?_
    refine hK _ _ (KeepsFrom.refl _ _) (KeptI.refl _ _ _) (fun W2 hgr hlr => ?_)
    have hturn : ∀ r, some ly = some r → ∃ o : Obj, W'.heap[r]? = some o ∧ o.isCells = false := fun r e => by cases e; obtain ⟨r, hr⟩ := hlr; exact ⟨_, hr, rfl⟩
    have HV' := Aside0.mk (blk_turn hv hgr hturn)
    have HB2 := Aside0.mk (below_turn hbx hgr hbx.size (fun r e => by cases e; exact Nat.le_trans HB.out.size hl))
    clear hturn hgr hlr hv hbx hr hK
    have v0 := (blk_cell HV'.out 0).trans rfl
    have fv0 := blk_frozen HV'.out 0
    refine wpIn_block ?_
    refine wpIn_seq ?_
    refine region_in (fun ⟨_, _, h⟩ => h) (by simp) ?_
    go_wp2
    refine wpIn_ret ?_
    exact ⟨(KeepsOthers.setCell _ _ _).from _, rfl, by simp, blk_put HV'.out 0 _ rfl, HB2.out.setCell (p := ⟨w.heap.size, 0, none⟩) (Nat.le_refl _) _⟩
  case done =>
    rintro D W' hD ⟨h1, hv, hbx⟩ hKD
    have HBN := Aside0.mk (blkB_nil h1)
    have HV := Aside0.mk hv
    have HBX := Aside0.mk hbx
    have HKD := Aside0.mk hKD
    have v0 := (blk_cell hv 0).trans rfl
    have fv := blk_frozen hv 0
    clear h1 hv hbx hKD
    go_wp2
    have hne : D ≠ w.heap.size := fun e => by
      have h1 := HKD.out
      rw [e, HV.out] at h1
      cases h1
    have HKD2 : (W'.setCell ⟨w.heap.size, 0, none⟩ (.bool false)).heap[D]? = some (.deferred (some [])) := (Below.heap_setCell W' _ _ D hne).trans HKD.out
    have hq := blk_put HV.out 0 (.bool false) rfl
    have HB5 := HBX.out.setCell (p := ⟨w.heap.size, 0, none⟩) (Nat.le_refl _) (.bool false)
    refine ⟨by simp, .inl ⟨_, _, rfl, run_takeDeferred HKD2, ?_⟩⟩
    refine ⟨_, results_cell1 rfl rfl (loadVar_one 4 Try.underlying4 rfl (blk_turn hq (grownBy_putObj' _ _ _) (fun r e => by cases e; exact ⟨_, HKD2, rfl⟩))), by rw [HBN.out], below_turn HB5 (grownBy_putObj' _ _ _) HB5.size (fun r e => by cases e; exact Nat.le_trans HB.out.size hD)⟩
  case stop =>
    rintro D c pre W' hD hpre ⟨rfl, h2, hv, hbx⟩ hKD
    have HBN := Aside0.mk (blkB_pre hpre h2)
    have HV := Aside0.mk hv
    have HBX := Aside0.mk hbx
    have HKD := Aside0.mk hKD
    clear h2 hv hbx hKD
    go_wp2
    refine ⟨by simp, .inl ⟨_, _, rfl, run_takeDeferred HKD.out, ?_⟩⟩
    exact ⟨_, results_cell1 rfl rfl (loadVar_one 4 Try.underlying4 rfl (blk_turn HV.out (grownBy_putObj' _ _ _) (fun r e => by cases e; exact ⟨_, HKD.out, rfl⟩))), by rw [HBN.out], below_turn HBX.out (grownBy_putObj' _ _ _) HBX.out.size (fun r e => by cases e; exact Nat.le_trans HB.out.size hD)⟩
end Go.Proofs.Ytifnfnoicinbaaa.M
