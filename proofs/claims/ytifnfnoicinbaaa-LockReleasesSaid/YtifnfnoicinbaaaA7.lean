/- lock.circle: the search that calls itself. -/
import Derived.Test.YtifnfnoicinbaaaA4
import Derived.Test.YtifnfnoicinbaaaA6
import Derived.Maps.Range
namespace Go.Proofs.Ytifnfnoicinbaaa.M
open Go.RowKit Go.Proofs.YtifnfnoicinbaaaW.PrintWords Go.Proofs.YtifnfnoicinbaaaW.PrintLast Go.Proofs.YtifnfnoicinbaaaW.PrintMore
set_option linter.unusedVariables false
set_option linter.unusedSimpArgs false
set_option linter.unnecessarySimpa false

def CK (W W' : World) : Prop := ∀ (k : Nat) (cs : Array Value) (t : TypeId), W.heap[k]? = some (.cells cs t (0, 0)) → W'.heap[k]? = some (.cells cs t (0, 0))
theorem CK.refl (W : World) : CK W W := fun _ _ _ h => h
theorem CK.trans {A B C : World} (h : CK A B) (k : CK B C) : CK A C := fun i cs t hi => k i cs t (h i cs t hi)
theorem CK.below {A B : World} (h : Below A.heap.size A B) : CK A B := fun _ _ _ hi => blk_below hi h
theorem CK.grown {A B : World} {row : Option Nat} (hg : A.grownBy B row) (hr : ∀ r, row = some r → ∃ o : Obj, A.heap[r]? = some o ∧ o.isCells = false) : CK A B := fun _ _ _ hi => blk_turn hi hg hr
theorem CK.kept {A B : World} {n₁ n₀ : Nat} (h : CK A B) (hb : Below n₁ A B) : KeptI n₁ n₀ A B := ⟨hb, fun k cs t hk _ => h k cs t hk⟩
theorem G_ck {w W : World} {m : Nat} {o : Obj} (h : w.grownBy W (some m)) (ho : w.heap[m]? = some o) (hc : o.isCells = false) : CK w W := CK.grown h (fun r e => by cases e; exact ⟨o, ho, hc⟩)
theorem G_below {w W : World} {m n : Nat} (h : w.grownBy W (some m)) (hm : n ≤ m) (hn : n ≤ w.heap.size) : Below n w W := pw_below_grown (Below.refl _ _) (some m) hn h (fun k e => by cases e; exact hm)
theorem G_of {w W : World} (m : Nat) (h : Below w.heap.size w W) : w.grownBy W (some m) := grown_of_below h _
theorem G_trans {w A B : World} {m : Nat} (h : w.grownBy A (some m)) (k : A.grownBy B (some m)) : w.grownBy B (some m) := World.grownBy.andThen h k (fun j e => .inr e)
theorem G_set {w W : World} {m g : Nat} (h : w.grownBy W (some m)) (hg : w.heap.size ≤ g) (j : Nat) (v : Value) : w.grownBy (W.setCell ⟨g, j, none⟩ v) (some m) := World.grownBy.andThen h (setCell_grown W g j v) (fun k e => by cases e; exact .inl hg)
theorem G_turn {w X Y : World} {m : Nat} {row : Option Nat} (h : w.grownBy X (some m)) (k : X.grownBy Y row) (hr : ∀ j, row = some j → w.heap.size ≤ j) : w.grownBy Y (some m) := World.grownBy.andThen h k (fun j e => .inl (hr j e))
theorem G_obj {w W : World} {m k : Nat} {o : Obj} (h : w.grownBy W (some m)) (hk : w.heap[k]? = some o) (hm : k ≠ m) : W.heap[k]? = some o := (h.block k (Array.getElem?_eq_some_iff.1 hk).1 (by simpa using hm)).trans hk
structure LeadEnv (w0 w : World) (q tb hb mb lb m : Nat) (t : Int) : Prop where
  below : Below w0.heap.size w0 w
  bt : w.heap[tb]? = some (.cells #[.pointer (some ⟨q, 0, none⟩)] 64 (0, 0))
  bh : w.heap[hb]? = some (.cells #[.int .i64 t] 3 (0, 0))
  bm : w.heap[mb]? = some (.cells #[.map (some m)] 97 (0, 0))
  bl : w.heap[lb]? = some (.cells #[.func (.func 94) #[] #[.pointer (some ⟨tb, 0, none⟩), .pointer (some ⟨hb, 0, none⟩), .pointer (some ⟨mb, 0, none⟩), .pointer (some ⟨lb, 0, none⟩)]] 79 (0, 0))
  hm : w0.heap.size ≤ m
theorem LeadEnv.move {w0 w w' : World} {q tb hb mb lb m : Nat} {t : Int} (h : LeadEnv w0 w q tb hb mb lb m t) (hc : CK w w') (hb' : Below w0.heap.size w w') : LeadEnv w0 w' q tb hb mb lb m t :=
  ⟨h.below.trans hb', hc _ _ _ h.bt, hc _ _ _ h.bh, hc _ _ _ h.bm, hc _ _ _ h.bl, h.hm⟩
abbrev StpL (H Wt : List S24) (a b : Int) : Prop := PL.Stp hdL mtL H Wt a b
abbrev UL (H Wt : List S24) : List Int := (H ++ Wt).map hdL
/-- What was marked on the way is done with. -/
structure Marked (H Wt : List S24) (t : Int) (M M' : List Int) : Prop where
  sub : ∀ x ∈ M, x ∈ M'
  new : ∀ x ∈ M', x ∉ M → ∀ y, StpL H Wt x y → y ∈ M' ∧ y ≠ t
  card : M'.length + PL.leftN (UL H Wt) M' ≤ M.length + PL.leftN (UL H Wt) M
theorem Marked.refl (H Wt : List S24) (t : Int) (M : List Int) : Marked H Wt t M M := ⟨fun _ h => h, fun _ h h2 => absurd h h2, Nat.le_refl _⟩
theorem Marked.trans {H Wt : List S24} {t : Int} {A B C : List Int} (h : Marked H Wt t A B) (k : Marked H Wt t B C) : Marked H Wt t A C :=
  ⟨fun x hx => k.sub x (h.sub x hx), fun x hx hn y hy => by
    by_cases hB : x ∈ B
    · have := h.new x hB hn y hy
      exact ⟨k.sub y this.1, this.2⟩
    · exact k.new x hx hB y hy, Nat.le_trans k.card h.card⟩
theorem Marked.mark {H Wt : List S24} {t x : Int} {M M' : List Int} (hU : x ∈ UL H Wt) (hx : x ∉ M) (k : Marked H Wt t (x :: M) M') (hc : ∀ y, StpL H Wt x y → y ∈ M' ∧ y ≠ t) : Marked H Wt t M M' :=
  ⟨fun y hy => k.sub y (List.mem_cons_of_mem _ hy), fun y hy hn z hz => by
    by_cases e : y = x
    · subst e; exact hc z hz
    · exact k.new y hy (by simp [e, hn]) z hz, by
    have h1 := PL.leftN_cons hU hx
    have h2 := k.card
    simp only [List.length_cons] at h2
    omega⟩
theorem leftN_mono {U M M' : List Int} (h : ∀ x ∈ M, x ∈ M') : PL.leftN U M' ≤ PL.leftN U M := by
  unfold PL.leftN
  rw [← List.countP_eq_length_filter, ← List.countP_eq_length_filter]
  exact List.countP_mono_left (fun x _ hx => by simp at hx ⊢; exact fun h2 => hx (h x h2))
theorem trans_head {R : Int → Int → Prop} {a b c : Int} (h : R a b) (k : Relation.TransGen R b c) : Relation.TransGen R a c := by
  induction k with
  | single hk => exact .tail (.single h) hk
  | tail _ hk ih => exact .tail ih hk
/-- What the search says. -/
def LeadPost (H Wt : List S24) (t h : Int) (m : Nat) (M : List Int) (w : World) (e : Ending) (w' : World) : Prop :=
  ∃ b, e = .returned (.bool b) ∧ w.grownBy w' (some m) ∧ (b = true → Relation.TransGen (StpL H Wt) h t) ∧ (b = false → ∃ M', MapB w' m M' ∧ Marked H Wt t M M' ∧ ∀ y, StpL H Wt h y → y ∈ M' ∧ y ≠ t)
def marks (ds : List Nat) : List Deferred := ds.map (fun D => { target := .collected D, args := #[] })
/-- The marks of a function on its way out are taken one by one; no cell is written. -/
theorem leave_marks {P : Program} {fn : Func} {tmps : Array Value} {R : Ending → World → Prop} {n : Nat} : ∀ (ds : List Nat) (W : World), ds.Nodup → (∀ D, D ∈ ds → n ≤ D ∧ W.heap[D]? = some (.deferred (some []))) → n ≤ W.heap.size →
    (∀ W', Below n W W' → CK W W' → LeavesInM Fence.wide 0 P fn tmps R [] .returning W') → LeavesInM Fence.wide 0 P fn tmps R (marks ds) .returning W
  | [], W, _, _, hb, h => h W (Below.refl _ _) (CK.refl _)
  | D :: ds, W, hn, hd, hb, h => by
    have hD := hd D List.mem_cons_self
    refine ⟨by simp, .inl ⟨_, _, rfl, run_takeDeferred hD.2, ?_⟩⟩
    have hbt : Below n W (W.putObj D (.deferred none)) := below_turn (Below.refl _ _) (grownBy_putObj' _ _ _) hb (fun r e => by cases e; exact hD.1)
    have hck : CK W (W.putObj D (.deferred none)) := CK.grown (grownBy_putObj' _ _ _) (fun r e => by cases e; exact ⟨_, hD.2, rfl⟩)
    refine leave_marks ds _ (List.nodup_cons.1 hn).2 (fun D' h' => ⟨(hd D' (List.mem_cons_of_mem _ h')).1, ?_⟩) (Nat.le_trans hb hbt.size) (fun W' h1 h2 => h W' (hbt.trans h1) (hck.trans h2))
    exact (World.putObj_heap_other (fun e => (List.nodup_cons.1 hn).1 (by rw [← e]; exact h'))).trans (hd D' (List.mem_cons_of_mem _ h')).2
theorem MapB.same {w w' : World} {b : Nat} {M : List Int} (h : MapB w b M) (he : w'.heap[b]? = w.heap[b]?) : MapB w' b M := by
  obtain ⟨D, ⟨es, clock, hb, hF, hs, hd⟩, hat⟩ := h
  exact ⟨D, ⟨es, clock, he.trans hb, hF, hs, hd⟩, hat⟩
theorem MapB.at {w w' : World} {b n : Nat} {M : List Int} (h : MapB w b M) (hb : Below n w w') (hl : b < n) : MapB w' b M := h.same (hb.block b hl)
theorem lit94 (T : Array Value) (v0 v1 v2 v3 v4 v6 v14 v15 v16 : Value) (hs : T.size = 45) (h0 : T[0]? = some v0) (h1 : T[1]? = some v1) (h2 : T[2]? = some v2) (h3 : T[3]? = some v3) (h4 : T[4]? = some v4) (h6 : T[6]? = some v6) (h14 : T[14]? = some v14) (h15 : T[15]? = some v15) (h16 : T[16]? = some v16) : ∃ u : Nat → Value, T = #[v0, v1, v2, v3, v4, u 5, v6, u 7, u 8, u 9, u 10, u 11, u 12, u 13, v14, v15, v16, u 17, u 18, u 19, u 20, u 21, u 22, u 23, u 24, u 25, u 26, u 27, u 28, u 29, u 30, u 31, u 32, u 33, u 34, u 35, u 36, u 37, u 38, u 39, u 40, u 41, u 42, u 43, u 44] := by
  let u : Nat → Value := fun j => T.getD j undef
  refine ⟨u, ?_⟩
  have e1 : T = ((List.range 45).map (fun j => if j = 0 then v0 else if j = 1 then v1 else if j = 2 then v2 else if j = 3 then v3 else if j = 4 then v4 else if j = 6 then v6 else if j = 14 then v14 else if j = 15 then v15 else if j = 16 then v16 else u j)).toArray := by
    apply Array.ext
    · simp [hs]
    · intro i hi hi'
      simp only [List.getElem_toArray, List.getElem_map, List.getElem_range]
      have hT : T[i]? = some T[i] := Array.getElem?_eq_getElem hi
      split
      · rename_i e; subst e; rw [h0] at hT; exact (Option.some.inj hT).symm
      · split
        · rename_i e; subst e; rw [h1] at hT; exact (Option.some.inj hT).symm
        · split
          · rename_i e; subst e; rw [h2] at hT; exact (Option.some.inj hT).symm
          · split
            · rename_i e; subst e; rw [h3] at hT; exact (Option.some.inj hT).symm
            · split
              · rename_i e; subst e; rw [h4] at hT; exact (Option.some.inj hT).symm
              · split
                · rename_i e; subst e; rw [h6] at hT; exact (Option.some.inj hT).symm
                · split
                  · rename_i e; subst e; rw [h14] at hT; exact (Option.some.inj hT).symm
                  · split
                    · rename_i e; subst e; rw [h15] at hT; exact (Option.some.inj hT).symm
                    · split
                      · rename_i e; subst e; rw [h16] at hT; exact (Option.some.inj hT).symm
                      · show T[i] = T.getD i undef
                        rw [Array.getD_eq_getD_getElem?, hT]
                        rfl
  rw [e1]
  rfl
/-- What holds between the rounds of the search. -/
def LeadI (w0 w : World) (H Wt : List S24) (AW : Option Addr) (cW tb hb mb lb m : Nat) (t h : Int) (M : List Int) (n : Nat) (a : Act) (W : World) : Prop :=
  ∃ (j : Nat) (ds : List Nat) (M' : List Int), a.tmps.size = 45 ∧ a.tmps[0]? = some (.int .i64 h) ∧ a.tmps[1]? = some (.pointer (some ⟨tb, 0, none⟩)) ∧ a.tmps[2]? = some (.pointer (some ⟨hb, 0, none⟩)) ∧ a.tmps[3]? = some (.pointer (some ⟨mb, 0, none⟩)) ∧ a.tmps[4]? = some (.pointer (some ⟨lb, 0, none⟩)) ∧ a.tmps[6]? = some (.pointer (some ⟨w.heap.size, 0, none⟩)) ∧
    a.tmps[14]? = some (.slice AW Wt.length cW) ∧ a.tmps[15]? = some (.int .i64 (Wt.length : Int)) ∧ a.tmps[16]? = some (.int .i64 (j : Int)) ∧ a.defers = marks ds ∧ Aside0 (n + j = Wt.length) ∧ Aside0 (w.grownBy W (some m)) ∧ Aside0 (W.heap[w.heap.size]? = some (.cells #[.bool false] 4 (0, 0))) ∧ Aside0 (MapB W m M') ∧ Aside0 (Marked H Wt t M M') ∧
    Aside0 (∀ i : Nat, i < j → hdL (rd_T24 Wt i) = h → ∀ x ∈ PL.blks mtL H Wt i, hdL x ∈ M' ∧ hdL x ≠ t) ∧ Aside0 (ds.Nodup ∧ ∀ D, D ∈ ds → w.heap.size ≤ D ∧ W.heap[D]? = some (.deferred (some [])))
theorem alloc_below {A B : World} {D : Nat} {o : Obj} (h : A.heap[D]? = some o) (hb : Below A.heap.size A B) : B.heap[D]? = some o := (hb.block D (Array.getElem?_eq_some_iff.1 h).1).trans h
theorem leads_end {ts : Array Value} {H Wt : List S24} {t h : Int} {m : Nat} {M : List Int} {w W : World} {b : Bool} {ds : List Nat} (hts : ts.getD 6 undef = .pointer (some ⟨w.heap.size, 0, none⟩)) (hrb : W.heap[w.heap.size]? = some (.cells #[.bool b] 4 (0, 0))) (hg : w.grownBy W (some m)) (hm : m < w.heap.size)
    (hd : ds.Nodup ∧ ∀ D, D ∈ ds → w.heap.size ≤ D ∧ W.heap[D]? = some (.deferred (some []))) (ht : b = true → Relation.TransGen (StpL H Wt) h t) (hf : b = false → ∃ M', MapB W m M' ∧ Marked H Wt t M M' ∧ ∀ y, StpL H Wt h y → y ∈ M' ∧ y ≠ t) :
    bodyPostM Fence.wide 0 Try.prog Try.f94 (LeadPost H Wt t h m M w) Exit.ret { tmps := ts, defers := marks ds } W := by
  refine leave_marks (n := w.heap.size) ds W hd.1 hd.2 hg.size (fun W' h1 h2 => ⟨_, results_cell1 rfl hts (loadVar_one 4 Try.underlying4 rfl (h2 _ _ _ hrb)), ?_⟩)
  refine ⟨b, rfl, ⟨h1.os.trans hg.os, h1.tape.trans hg.tape, h1.output.trans hg.output, Nat.le_trans hg.size h1.size, fun i hi hne => (h1.block i hi).trans (hg.block i hi hne)⟩, ht, fun hbf => ?_⟩
  obtain ⟨M', h3, h4, h5⟩ := hf hbf
  exact ⟨M', h3.at h1 hm, h4, h5⟩
set_option maxRecDepth 100000 in
set_option maxHeartbeats 2000000 in
theorem leads_calls (w0 : World) (q tb hb mb lb m : Nat) (t : Int) (H Wt : List S24) (hT : TabC w0 q H Wt) (hwf : ∀ x ∈ H ++ Wt, (Lit.int .i64 x.f1).wf = true) (hlen : H.length + Wt.length ≤ 1000) :
    ∀ (n : Nat) (h : Int) (M : List Int) (w : World), PL.leftN (UL H Wt) M ≤ n → M.length + PL.leftN (UL H Wt) M ≤ 1000 → LeadEnv w0 w q tb hb mb lb m t → MapB w m M →
      Calls Try.prog 94 #[.int .i64 h, .pointer (some ⟨tb, 0, none⟩), .pointer (some ⟨hb, 0, none⟩), .pointer (some ⟨mb, 0, none⟩), .pointer (some ⟨lb, 0, none⟩)] w (LeadPost H Wt t h m M w) := by
  have HT := Aside0.mk hT
  have HWF := Aside0.mk hwf
  clear hT hwf
  intro n
  induction n using Nat.strongRecOn with
  | _ n ih =>
  intro h M w hn hM hE hB
  have IH := Aside0.mk ih
  have HE := Aside0.mk hE
  have HB := Aside0.mk hB
  obtain ⟨AH, AW, cH, cW, v3, v4, hq, hCH, hCW, hcW, hcH⟩ := HT.out.ex
  have HQ := Aside0.mk hq
  have HCW := Aside0.mk hCW
  have HCH := Aside0.mk hCH
  have hmW := hCW.2.1
  clear ih hE hB hq hCH hCW
  have he := enters_ Try.func78 (by kernel_rfl) rfl
  have HE94 := Aside0.mk (enters_ Try.func94 (by kernel_rfl) rfl)
  refine calls_of_marks Try.func94 rfl ?_
  simp only [Try.ntmps94, List.size_toArray, List.length_cons, List.length_nil, Nat.reduceAdd, Nat.reduceSub, Array.replicate_succ, Array.replicate_zero, List.push_toArray, List.append_toArray, List.nil_append, List.cons_append]
  go_upto_region 1 with (fail)
  have hb_ := below_alloc (Below.refl _ w) (.cells #[.bool false] 4)
  have hG0_ := blk_lit0 w (.cells #[.bool false] 4)
  generalize (w.alloc (.cells #[.bool false] 4)) = W at hb_ hG0_ ⊢
  have HB_W := Aside0.mk hb_
  have W0 := Aside0.mk hG0_
  clear hb_ hG0_
  have HEW := Aside0.mk (HE.out.move (CK.below HB_W.out) (HB_W.out.mono HE.out.below.size))
  have HBW := Aside0.mk (HB.out.below HB_W.out)
  have HQW := Aside0.mk (blk_below HQ.out HEW.out.below)
  have HTW := Aside0.mk HEW.out.bt
  have q0 := (blk_cell HQW.out 0).trans rfl; have q1 := (blk_cell HQW.out 1).trans rfl; have q2 := (blk_cell HQW.out 2).trans rfl; have q3 := (blk_cell HQW.out 3).trans rfl
  have t0 := (blk_cell HTW.out 0).trans rfl
  go_wp2
  clear q0 q1 q2 q3 t0
  refine wp_loop_ghost_k (LeadI w0 w H Wt AW cW tb hb mb lb m t h M) Wt.length ⟨0, [], M, rfl, rfl, rfl, rfl, rfl, rfl, rfl, rfl, rfl, rfl, rfl, ⟨rfl⟩, ⟨G_of m HB_W.out⟩, W0, HBW, ⟨Marked.refl _ _ _ _⟩, ⟨fun i hi => absurd hi (by omega)⟩, ⟨List.nodup_nil, fun D h => by cases h⟩⟩ ?_
  rintro nn ⟨T, dd⟩ W1 hI J K hJ hK
  obtain ⟨j, ds, M', hs, ht0, ht1, ht2, ht3, ht4, ht6, ht14, ht15, ht16, hdd, HN, HG, HRB, HMP, HMK, HDN, HD⟩ := hI
  dsimp only at hs ht0 ht1 ht2 ht3 ht4 ht6 ht14 ht15 ht16 hdd
  obtain ⟨u, hu⟩ := lit94 T _ _ _ _ _ _ _ _ _ hs ht0 ht1 ht2 ht3 ht4 ht6 ht14 ht15 ht16
  subst hu
  subst hdd
  clear hs ht0 ht1 ht2 ht3 ht4 ht6 ht14 ht15 ht16
  clear HEW HBW HQW HTW W0 HB_W W
  obtain ⟨om, hom, hoc⟩ := HB.out.isMap
  have HCK := Aside0.mk (G_ck HG.out hom hoc)
  have HBL := Aside0.mk (G_below HG.out HE.out.hm HE.out.below.size)
  have HE1 := Aside0.mk (HE.out.move HCK.out HBL.out)
  clear hom hoc om
  by_cases hlt : j < Wt.length
  · have h1 : decide (j < Wt.length) = true := by simpa using hlt
    obtain ⟨ad, rfl, x0, x1, x2, x3, x4⟩ := at_T24 (Kd.C_below HCW.out HE1.out.below) (j : Int) (by omega) (by omega)
    simp only [Int.toNat_natCast] at x0 x1 x2 x3 x4
    by_cases hh : (rd_T24 Wt j).f1 = h
    · have h2 : ((rd_T24 Wt j).f1 != h) = false := by simpa using hh
      have HH := Aside0.mk hh
      clear hh
      go_upto_region 5 with (fail)
      have HBA := Aside0.mk (below_alloc (Below.refl _ W1) (.cells #[.int .i64 (rd_T24 Wt (j : Int)).f0, .int .i64 (rd_T24 Wt (j : Int)).f1, .int .i64 (rd_T24 Wt (j : Int)).f2, .int .i64 (rd_T24 Wt (j : Int)).f3, .bool (rd_T24 Wt (j : Int)).f4] 24))
      generalize W1.alloc (.cells #[.int .i64 (rd_T24 Wt (j : Int)).f0, .int .i64 (rd_T24 Wt (j : Int)).f1, .int .i64 (rd_T24 Wt (j : Int)).f2, .int .i64 (rd_T24 Wt (j : Int)).f3, .bool (rd_T24 Wt (j : Int)).f4] 24) = W2 at HBA ⊢
      clear x0 x1 x2 x3 x4 h1 h2
      have HE2 := Aside0.mk (HE1.out.move (CK.below HBA.out) (HBA.out.mono HE1.out.below.size))
      have HG2 := Aside0.mk (G_trans HG.out (G_of m HBA.out))
      have HRB2 := Aside0.mk (blk_below HRB.out HBA.out)
      have HMP2 := Aside0.mk (HMP.out.below HBA.out)
      have HD2 := Aside0.mk (show ∀ D, D ∈ ds → W2.heap[D]? = some (.deferred (some [])) from fun D hD => alloc_below (HD.out.2 D hD).2 HBA.out)
      have h9 := HE2.out.bt
      have t0 := (blk_cell h9 0).trans rfl
      clear h9
      go_wp2_with ((with_reducible refine gate_dst (N := 27) rfl ?_); refine goesL_ (some 27) rfl rfl Try.func59 (by kernel_rfl) rfl #[.pointer (some ⟨q, 0, none⟩), .int .i64 j] rfl (by (try simp only [List.map_toArray, List.map_cons, List.map_nil]); first | done | rfl) ?_; refine (blockers_calls q j _).mono ?_; rintro e w' ⟨rfl, rfl⟩; refine ⟨_, rfl, ?_⟩)
      have hb1 := below_alloc (below_alloc (Below.refl _ W2) (.cells #[.pointer (some ⟨q, 0, none⟩)] 64)) (.cells #[.int .i64 (j : Int)] 3)
      have ht := blk_alloc (blk_new W2 (.cells #[.pointer (some ⟨q, 0, none⟩)] 64)) (.cells #[.int .i64 (j : Int)] 3)
      have hib := blk_lit W2 (.cells #[.pointer (some ⟨q, 0, none⟩)] 64) (.cells #[.int .i64 (j : Int)] 3)
      try simp only [Act.put, List.setIfInBounds_toArray, List.set_cons_zero, List.set_cons_succ]
      clear t0
      generalize hV : (W2.alloc (.cells #[.pointer (some ⟨q, 0, none⟩)] 64)).alloc (.cells #[.int .i64 (j : Int)] 3) = V at hb1 ht hib ⊢
      have HBV := Aside0.mk hb1
      have HEV := Aside0.mk (HE2.out.move (CK.below HBV.out) (HBV.out.mono HE2.out.below.size))
      have HGV := Aside0.mk (G_trans HG2.out (G_of m HBV.out))
      have HRBV := Aside0.mk (blk_below HRB2.out HBV.out)
      have HMPV := Aside0.mk (HMP2.out.below HBV.out)
      have HDV := Aside0.mk (show ∀ D, D ∈ ds → V.heap[D]? = some (.deferred (some [])) from fun D hD => alloc_below (HD2.out D hD) HBV.out)
      clear hV hb1 HE2 HG2 HRB2 HMP2 HD2 HBV HBA HE1 HG HRB HMP HCK HBL
      have HMV := Aside0.mk HMPV.out.isMap
      have HML := Aside0.mk HB.out.lt
      refine range_own (gf := 78) (lb := #[.pointer (some ⟨W2.heap.size, 0, none⟩), .pointer (some ⟨W2.heap.size + 1, 0, none⟩)]) rfl he (fun _ => rfl)
        (blockers_gives HT.out HEV.out.below (n₀ := V.heap.size) (blk_lt hib) hlt ht hib) (fun h k => h.trans k) (fun W' l' o' o'' hl h ho => keptI_turn (Nat.le_trans HEV.out.below.size hl) h ho)
        (fun pre W' => V.grownBy W' (some m) ∧ ∃ M2, MapB W' m M2 ∧ Marked H Wt t M' M2 ∧ ∀ x ∈ pre, hdL x ∈ M2 ∧ hdL x ≠ t)
        (fun c pre W' => c = .ret ∧ w.grownBy W' (some m) ∧ W'.heap[w.heap.size]? = some (.cells #[.bool true] 4 (0, 0)) ∧ Relation.TransGen (StpL H Wt) h t ∧ ∀ D, D ∈ ds → D < V.heap.size ∧ W'.heap[D]? = some (.deferred (some []))) ?hI ?hIx ?h0 ?round ?done ?stop
      case hI =>
        rintro s X Y row ⟨h1, M2, h2, h3⟩ hg hrr
        exact ⟨G_turn h1 hg (fun r e => (hrr r e).1), M2, h2.kept hg (fun e => by have := (hrr m e.symm).1; have := HMPV.out.lt; omega), h3⟩
      case hIx =>
        rintro cc s X Y row ⟨h1, h2, h3, h4, h5⟩ hg hrr
        exact ⟨h1, G_turn h2 hg (fun r e => Nat.le_trans HGV.out.size (hrr r e).1), blk_turn h3 hg (fun r e => (hrr r e).2), h4, fun D h => ⟨(h5 D h).1, (hg.block D (Array.getElem?_eq_some_iff.1 (h5 D h).2).1 (fun e => by have := (hrr D e.symm).1; have := (h5 D h).1; omega)).trans (h5 D h).2⟩⟩
      case h0 => exact ⟨⟨rfl, rfl, rfl, Nat.le_refl _, fun _ _ _ => rfl⟩, M', HMPV.out, Marked.refl _ _ _ _, fun x hx => by cases hx⟩
      case round =>
        rintro ly pre x W' K hl hll ⟨r, hr⟩ ⟨hg, M2, hm2, hmk2, hpx⟩ hpre hK
        have HGW := Aside0.mk hg
        have HM2 := Aside0.mk hm2
        have HK2 := Aside0.mk hmk2
        have HPX := Aside0.mk hpx
        clear hg hm2 hmk2 hpx
        refine region_in (fun ⟨_, _, h⟩ => h) (by simp) ?_
        go_wp2
        have HBA := Aside0.mk (below_alloc (Below.refl _ W') (.cells #[.int .i64 x.f0, .int .i64 x.f1, .int .i64 x.f2, .int .i64 x.f3, .bool x.f4] 24))
        have HXA := Aside0.mk (blk_new W' (.cells #[.int .i64 x.f0, .int .i64 x.f1, .int .i64 x.f2, .int .i64 x.f3, .bool x.f4] 24))
        have hla : W'.heap.size ≤ (W'.alloc (.cells #[.int .i64 x.f0, .int .i64 x.f1, .int .i64 x.f2, .int .i64 x.f3, .bool x.f4] 24)).heap.size := HBA.out.size
        generalize W'.alloc (.cells #[.int .i64 x.f0, .int .i64 x.f1, .int .i64 x.f2, .int .i64 x.f3, .bool x.f4] 24) = W3 at HBA HXA hla hK ⊢
        have hvW' : V.heap.size ≤ W'.heap.size := HGW.out.size
        refine hK _ _ ((keepsB HBA.out).from _) (KeptI.of_below HBA.out (Nat.le_trans HEV.out.below.size hvW')) (fun W4 hgr hlr => ?_)
        have hturn : ∀ r, some ly = some r → ∃ o : Obj, W3.heap[r]? = some o ∧ o.isCells = false := fun r e => by cases e; obtain ⟨r, hr⟩ := hlr; exact ⟨_, hr, rfl⟩
        have HX4 := Aside0.mk (blk_turn HXA.out hgr hturn)
        have HM4 := Aside0.mk ((HM2.out.below HBA.out).kept hgr (fun e => by cases e; have := HMPV.out.lt; omega))
        have HG4 := Aside0.mk (G_turn (G_trans HGW.out (G_of m HBA.out)) hgr (fun r e => by cases e; exact hl))
        clear hturn hgr hlr hr hK HBA HXA HM2 HGW hla hvW'
        obtain ⟨om, hom, hoc⟩ := HMV.out
        have HE4 := Aside0.mk (HEV.out.move (G_ck HG4.out hom hoc) (G_below HG4.out HEV.out.hm HEV.out.below.size))
        clear hom hoc om
        have hxb : x ∈ PL.blks mtL H Wt j := hpre.subset (by simp)
        have HST := Aside0.mk (show StpL H Wt h x.f1 from ⟨j, Wt[j], List.getElem?_eq_getElem hlt, by have := HH.out; rw [rd_at hlt] at this; exact this, x, hxb, rfl⟩)
        have HXM := Aside0.mk (PL.blks_mem hxb)
        have HXU := Aside0.mk (show x.f1 ∈ UL H Wt from List.mem_map.2 ⟨x, PL.blks_mem hxb, rfl⟩)
        have HXW := Aside0.mk (HWF.out x (PL.blks_mem hxb))
        have HRB4 := Aside0.mk (G_obj HG4.out HRBV.out (by have := HML.out; omega))
        have HDS4 := Aside0.mk (show ∀ D, D ∈ ds → D < V.heap.size ∧ W4.heap[D]? = some (.deferred (some [])) from fun D hD => ⟨(Array.getElem?_eq_some_iff.1 (HDV.out D hD)).1, G_obj HG4.out (HDV.out D hD) (by have := (HD.out.2 D hD).1; have := HML.out; omega)⟩)
        clear hxb
        have hbx := HX4.out
        have hbh := HE4.out.bh
        have hbm := HE4.out.bm
        have hbl := HE4.out.bl
        have hbr := HRB4.out
        have x0 := (blk_cell hbx 0).trans rfl; have x1 := (blk_cell hbx 1).trans rfl; have x2 := (blk_cell hbx 2).trans rfl; have x3 := (blk_cell hbx 3).trans rfl; have x4 := (blk_cell hbx 4).trans rfl
        have b0 := (blk_cell hbh 0).trans rfl
        have c0 := (blk_cell hbm 0).trans rfl
        have l0 := (blk_cell hbl 0).trans rfl
        have r0 := (blk_cell hbr 0).trans rfl
        have fr0 := blk_frozen hbr 0
        clear hbx hbh hbm hbl hbr
        refine wpIn_block ?_
        refine wpIn_seq ?_
        refine wpIn_seq ?_
        refine region_in (fun ⟨_, _, h⟩ => h) (by simp) ?_
        by_cases hxt : x.f1 = t
        · have h3 : (x.f1 == t) = true := by simpa using hxt
          have HXT := Aside0.mk hxt
          clear hxt
          go_wp2
          refine wpIn_cond_true (by rfl) ?_
          refine wpIn_seq ?_
          refine region_in (fun ⟨_, _, h⟩ => h) (by simp) ?_
          go_wp2
          refine wpIn_ret ?_
          refine ⟨(KeepsOthers.setCell _ _ _).from _, rfl, G_set (G_trans HGV.out HG4.out) (Nat.le_refl _) _ _, blk_put HRB4.out 0 _ rfl, by rw [← HXT.out]; exact .single HST.out, fun D h => ⟨(HDS4.out D h).1, (KeepsOthers.setCell W4 _ _).same _ _ (HDS4.out D h).2 rfl⟩⟩
        · have h3 : (x.f1 == t) = false := by simpa using hxt
          have HXT := Aside0.mk hxt
          clear hxt
          go_wp2
          refine wpIn_cond_false (by rfl) ?_
          refine wpIn_skip ?_
          refine wpIn_seq ?_
          refine wpIn_seq ?_
          have hlook := HM4.out.look HXW.out
          refine region_in (fun ⟨_, _, h⟩ => h) (by simp) ?_
          by_cases hx2 : x.f1 ∈ M2
          · have h4 : decide (x.f1 ∈ M2) = true := by simpa using hx2
            have HX2 := Aside0.mk hx2
            clear hx2
            rw [h4] at hlook
            go_wp2
            refine wpIn_cond_true (by rfl) ?_
            refine wpIn_exit ?_
            refine ⟨KeepsFrom.refl _ _, KeptI.refl _ _ _, HG4.out, M2, HM4.out, HK2.out, fun y hy => ?_⟩
            rcases List.mem_append.1 hy with h7 | h7
            · exact HPX.out y h7
            · rw [List.mem_singleton] at h7; subst h7; exact ⟨HX2.out, HXT.out⟩
          · have h4 : decide (x.f1 ∈ M2) = false := by simpa using hx2
            have HX2 := Aside0.mk hx2
            clear hx2
            rw [h4] at hlook
            go_wp2
            refine wpIn_cond_false (by rfl) ?_
            refine wpIn_skip ?_
            refine wpIn_seq ?_
            obtain ⟨W5, hput, hm5, hg5⟩ := HM4.out.put (by have h1 := HK2.out.card; have h2 := HMK.out.card; unfold maxLen; omega) HXW.out
            refine region_in (fun ⟨_, _, h⟩ => h) (by simp) ?_
            go_wp2
            clear hput hlook h3 h4 x0 x1 x2 x3 x4 b0 c0 l0 r0 fr0
            obtain ⟨om, hom, hoc⟩ := HM4.out.isMap
            have hck5 : CK W4 W5 := G_ck hg5 hom hoc
            have HE5 := Aside0.mk (HE4.out.move hck5 (G_below hg5 HEV.out.hm HE4.out.below.size))
            have HX5 := Aside0.mk (hck5 _ _ _ HX4.out)
            have HRB5 := Aside0.mk (hck5 _ _ _ HRB4.out)
            have HG5 := Aside0.mk (G_trans HG4.out hg5)
            have HM5 := Aside0.mk hm5
            have HDS5 := Aside0.mk (show ∀ D, D ∈ ds → D < V.heap.size ∧ W5.heap[D]? = some (.deferred (some [])) from fun D hD => ⟨(HDS4.out D hD).1, G_obj hg5 (HDS4.out D hD).2 (by have := (HD.out.2 D hD).1; have := HML.out; omega)⟩)
            have HGA := Aside0.mk hg5
            have HLN := Aside0.mk (show PL.leftN (UL H Wt) (x.f1 :: M2) < n by
              have h1 := PL.leftN_cons HXU.out HX2.out
              have h2 := leftN_mono (U := UL H Wt) HK2.out.sub
              have h3 := leftN_mono (U := UL H Wt) HMK.out.sub
              omega)
            have HCR := Aside0.mk (show (x.f1 :: M2).length + PL.leftN (UL H Wt) (x.f1 :: M2) ≤ 1000 by
              have h1 := PL.leftN_cons HXU.out HX2.out
              have h2 := HK2.out.card
              have h3 := HMK.out.card
              simp only [List.length_cons]
              omega)
            clear hom hoc om hck5 hm5 hg5 HX4 HRB4 HDS4
            have hbx := HX5.out
            have hbl := HE5.out.bl
            have x0 := (blk_cell hbx 0).trans rfl; have x1 := (blk_cell hbx 1).trans rfl; have x2 := (blk_cell hbx 2).trans rfl; have x3 := (blk_cell hbx 3).trans rfl; have x4 := (blk_cell hbx 4).trans rfl
            have l0 := (blk_cell hbl 0).trans rfl
            clear hbx hbl
            refine wpIn_seq ?_
            refine region_in (fun ⟨_, _, h⟩ => h) (by simp) ?_
            go_wp2_with ((with_reducible refine gate_dst (N := 43) rfl ?_); refine goesV (some 43) rfl rfl HE94.out #[.int .i64 x.f1] rfl rfl (by (try simp only [List.map_toArray, List.map_cons, List.map_nil]); first | done | rfl) ?_; refine (IH.out _ HLN.out x.f1 (x.f1 :: M2) W5 (Nat.le_refl _) HCR.out HE5.out HM5.out).mono ?_; rintro e W6 ⟨b, rfl, hg6, htr, hfl⟩; refine ⟨_, rfl, ?_⟩; have HG6 := Aside0.mk hg6; have HTR6 := Aside0.mk htr; have HFL6 := Aside0.mk hfl; clear hg6 htr hfl x0 x1 x2 x3 x4 l0)
            obtain ⟨om, hom, hoc⟩ := HM5.out.isMap
            have hck6 : CK W5 W6 := G_ck HG6.out hom hoc
            have HRB6 := Aside0.mk (hck6 _ _ _ HRB5.out)
            have HDS6 := Aside0.mk (show ∀ D, D ∈ ds → D < V.heap.size ∧ W6.heap[D]? = some (.deferred (some [])) from fun D hD => ⟨(HDS5.out D hD).1, G_obj HG6.out (HDS5.out D hD).2 (by have := (HD.out.2 D hD).1; have := HML.out; omega)⟩)
            have HGB := Aside0.mk (G_trans HGA.out HG6.out)
            have HGW6 := Aside0.mk (G_trans HG5.out HG6.out)
            clear hom hoc om hck6
            cases b with
            | true =>
              refine wpIn_cond_true (by rfl) ?_
              have hbr := HRB6.out
              have r0 := (blk_cell hbr 0).trans rfl
              have fr0 := blk_frozen hbr 0
              clear hbr
              refine wpIn_seq ?_
              refine region_in (fun ⟨_, _, h⟩ => h) (by simp) ?_
              go_wp2
              refine wpIn_ret ?_
              have hm9 := HMPV.out.lt
              exact ⟨(KeepsFrom.of_grownBy HGB.out (fun j e => by cases e; exact hm9)).trans ((KeepsOthers.setCell _ _ _).from _), rfl, G_set (G_trans HGV.out HGW6.out) (Nat.le_refl _) _ _, blk_put HRB6.out 0 _ rfl, trans_head HST.out (by first | exact HTR6.out rfl | exact HTR6.out trivial), fun D h => ⟨(HDS6.out D h).1, (KeepsOthers.setCell W6 _ _).same _ _ (HDS6.out D h).2 rfl⟩⟩
            | false =>
              refine wpIn_cond_false (by rfl) ?_
              refine wpIn_skip ?_
              obtain ⟨M3, hm3, hmk3, hcl3⟩ := (by first | exact HFL6.out rfl | exact HFL6.out trivial)
              have hm9 := HMPV.out.lt
              obtain ⟨om, hom, hoc⟩ := HM4.out.isMap
              refine ⟨KeepsFrom.of_grownBy HGB.out (fun j e => by cases e; exact hm9), (G_ck HGB.out hom hoc).kept (G_below HGB.out HEV.out.hm HE4.out.below.size), HGW6.out, M3, hm3, HK2.out.trans (hmk3.mark HXU.out HX2.out hcl3), fun y hy => ?_⟩
              rcases List.mem_append.1 hy with h7 | h7
              · have := HPX.out y h7
                exact ⟨hmk3.sub _ (List.mem_cons_of_mem _ this.1), this.2⟩
              · rw [List.mem_singleton] at h7; subst h7
                exact ⟨hmk3.sub _ (List.mem_cons_self ..), HXT.out⟩
      case done =>
        rintro D W' hD ⟨hg, M2, hm2, hmk2, hpx⟩ hKD
        have HGW := Aside0.mk hg
        have HM2 := Aside0.mk hm2
        have HK2 := Aside0.mk hmk2
        have HPX := Aside0.mk hpx
        have HKD := Aside0.mk hKD
        have HDL := Aside0.mk hD
        clear hg hm2 hmk2 hpx hKD hD
        go_wp2
        refine ⟨nn - 1, by have := HN.out; omega, hJ _ _ _ ⟨j + 1, D :: ds, M2, rfl, rfl, rfl, rfl, rfl, rfl, rfl, rfl, rfl, by go_num, rfl, ⟨by have := HN.out; omega⟩, ⟨G_trans HGV.out HGW.out⟩, ⟨G_obj HGW.out HRBV.out (by have := HML.out; omega)⟩, HM2, ⟨HMK.out.trans HK2.out⟩, ⟨fun i hi he x hx => ?_⟩, ⟨List.nodup_cons.2 ⟨fun h => ?_, HD.out.1⟩, fun D' hD' => ?_⟩⟩⟩
        · rcases Nat.lt_or_ge i j with hij | hij
          · have h7 := HDN.out i hij he x hx
            exact ⟨HK2.out.sub _ h7.1, h7.2⟩
          · obtain rfl : i = j := by omega
            exact HPX.out x hx
        · have h8 := (Array.getElem?_eq_some_iff.1 (HDV.out D h)).1
          have := HDL.out
          omega
        · rcases List.mem_cons.1 hD' with rfl | h
          · exact ⟨Nat.le_trans HGV.out.size HDL.out, HKD.out⟩
          · exact ⟨(HD.out.2 D' h).1, G_obj HGW.out (HDV.out D' h) (fun e => by
              obtain ⟨o, ho, hoc⟩ := HMV.out
              have h1 := HD.out.2 D' h
              have := HML.out
              omega)⟩
      case stop =>
        rintro D c pre W' hD hpre ⟨rfl, hg, hrb, htr, hds⟩ hKD
        have HGW := Aside0.mk hg
        have HRW := Aside0.mk hrb
        have HTR := Aside0.mk htr
        have HDS := Aside0.mk hds
        have HKD := Aside0.mk hKD
        have HDL := Aside0.mk hD
        clear hg hrb htr hds hKD hD
        go_wp2
        refine leads_end (ds := D :: ds) (by rfl) HRW.out HGW.out HML.out ⟨List.nodup_cons.2 ⟨fun h => ?_, HD.out.1⟩, fun D' hD' => ?_⟩ (fun _ => HTR.out) (fun h => by cases h)
        · have := (HDS.out D h).1
          have := HDL.out
          omega
        · rcases List.mem_cons.1 hD' with rfl | h
          · exact ⟨Nat.le_trans HGV.out.size HDL.out, HKD.out⟩
          · exact ⟨(HD.out.2 D' h).1, (HDS.out D' h).2⟩
    · have h2 : ((rd_T24 Wt j).f1 != h) = true := by simpa using hh
      go_wp2
      have HBA := Aside0.mk (below_alloc (Below.refl _ W1) (.cells #[.int .i64 (rd_T24 Wt (j : Int)).f0, .int .i64 (rd_T24 Wt (j : Int)).f1, .int .i64 (rd_T24 Wt (j : Int)).f2, .int .i64 (rd_T24 Wt (j : Int)).f3, .bool (rd_T24 Wt (j : Int)).f4] 24))
      generalize W1.alloc (.cells #[.int .i64 (rd_T24 Wt (j : Int)).f0, .int .i64 (rd_T24 Wt (j : Int)).f1, .int .i64 (rd_T24 Wt (j : Int)).f2, .int .i64 (rd_T24 Wt (j : Int)).f3, .bool (rd_T24 Wt (j : Int)).f4] 24) = W2 at HBA ⊢
      refine ⟨nn - 1, by have := HN.out; omega, hJ _ _ _ ⟨j + 1, ds, M', rfl, rfl, rfl, rfl, rfl, rfl, rfl, rfl, rfl, by go_num, rfl, ⟨by have := HN.out; omega⟩, ⟨G_trans HG.out (G_of m HBA.out)⟩, ⟨blk_below HRB.out HBA.out⟩, ⟨HMP.out.below HBA.out⟩, HMK, ⟨fun i hi he x hx => ?_⟩, ⟨HD.out.1, fun D hD => ⟨(HD.out.2 D hD).1, alloc_below (HD.out.2 D hD).2 HBA.out⟩⟩⟩⟩
      rcases Nat.lt_or_ge i j with hij | hij
      · exact HDN.out i hij he x hx
      · obtain rfl : i = j := by omega
        exact absurd he hh
  · have h1 : decide (j < Wt.length) = false := by simpa using hlt
    have h9 := HRB.out
    have r0 := (blk_cell h9 0).trans rfl
    have fr0 := blk_frozen h9 0
    clear h9
    go_wp2
    clear r0 fr0 h1
    have hml := HB.out.lt
    have hsz : w.heap.size ≤ W1.heap.size := Nat.le_of_lt (blk_lt HRB.out)
    have hbs : Below w.heap.size W1 (W1.setCell ⟨w.heap.size, 0, none⟩ (.bool false)) := (Below.refl _ _).setCell (p := ⟨w.heap.size, 0, none⟩) (Nat.le_refl _) _
    refine leads_end (by rfl) (blk_put HRB.out 0 _ rfl) (G_set HG.out (Nat.le_refl _) _ _) hml ⟨HD.out.1, fun D hD => ⟨(HD.out.2 D hD).1, (Below.heap_setCell W1 _ _ D (fun e => ?_)).trans (HD.out.2 D hD).2⟩⟩ (fun h => by cases h) (fun _ => ⟨M', HMP.out.at hbs hml, HMK.out, fun y hy => ?_⟩)
    · have h1 := (HD.out.2 D hD).2
      rw [e] at h1
      rw [show (⟨w.heap.size, 0, none⟩ : Addr).block = w.heap.size from rfl, HRB.out] at h1
      cases h1
    · obtain ⟨i, wi, hwi, he, x, hx, rfl⟩ := hy
      obtain ⟨hi, hwi⟩ := List.getElem?_eq_some_iff.1 hwi
      exact HDN.out i (by omega) (by rw [rd_at hi, hwi]; exact he) x hx
end Go.Proofs.Ytifnfnoicinbaaa.M
