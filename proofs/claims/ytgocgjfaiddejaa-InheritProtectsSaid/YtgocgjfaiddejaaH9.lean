/- inherit.given. -/
import Derived.Test.YtgocgjfaiddejaaH8
import Derived.Test.YtgocgjfaiddejaaHR
namespace Go.Proofs.Ytgocgjfaiddejaa.M
open Go.RowKit Go.Proofs.YtgocgjfaiddejaaW.PrintWords Go.Proofs.YtgocgjfaiddejaaW.PrintLast Go.Proofs.YtgocgjfaiddejaaW.PrintMore
set_option linter.unusedVariables false
set_option linter.unusedSimpArgs false

set_option maxRecDepth 100000 in
set_option maxHeartbeats 2000000 in
theorem inherited_calls (o : Int) (b : Bool) (A : Option Addr) (n c : Nat) (dir : Bool) (w : World) :
    Calls Try.prog 52 #[.agg #[.int .i64 o, .bool b, .slice A n c], .bool dir] w fun e w' => e = .returned (.func (.func 73) #[] #[.pointer (some ⟨w.heap.size + 1, 0, none⟩), .pointer (some ⟨w.heap.size, 0, none⟩)]) ∧
      w' = (w.alloc (.cells #[.int .i64 o, .bool b, .slice A n c] 33)).alloc (.cells #[.bool dir] 4) := by
  go_enter Try.func52, Try.ntmps52
  go_wp2
  go_ret
  exact ⟨rfl, rfl⟩

theorem R_turn {α : Type} {d : Kd α} {e : Nat} {X Y : World} {base : Nat} {ok : Nat → Prop} {v : Value} {xs : List α} (h : d.R e X base ok v xs) {row : Option Nat} (hg : X.grownBy Y row) (hr : ∀ r, row = some r → ∃ o : Obj, X.heap[r]? = some o ∧ o.isCells = false) : d.R e Y base ok v xs :=
  Kd.R_mono (Kd.R_grown (Kd.R_bound h) hg (fun k hk he => by
    obtain ⟨_, _, _, q, _, cells, hc⟩ := hk
    obtain ⟨o, ho, hoc⟩ := hr k he.symm
    rw [hc] at ho; cases ho; cases hoc)) (fun _ hk => hk.1)
theorem blk_turn {X Y : World} {g : Nat} {cs : Array Value} {t : TypeId} (h : X.heap[g]? = some (.cells cs t (0, 0))) {row : Option Nat} (hg : X.grownBy Y row) (hr : ∀ r, row = some r → ∃ o : Obj, X.heap[r]? = some o ∧ o.isCells = false) : Y.heap[g]? = some (.cells cs t (0, 0)) :=
  blk_grown h hg (fun he => by obtain ⟨o, ho, hoc⟩ := hr g he.symm; rw [h] at ho; cases ho; cases hoc)
theorem below_turn {w X Y : World} {n : Nat} (h : Below n w X) {row : Option Nat} (hg : X.grownBy Y row) (hn : n ≤ X.heap.size) (hr : ∀ r, row = some r → n ≤ r) : Below n w Y := pw_below_grown h row hn hg hr
theorem kept_turn {n₀ : Nat} {W : World} {l : Nat} {o o' : Obj} (hl : n₀ ≤ l) (h : W.heap[l]? = some o) (ho : o.isCells = false) : Kept n₀ W (W.putObj l o') :=
  ⟨below_turn (Below.refl _ _) (grownBy_putObj' W l o') (by have := (Array.getElem?_eq_some_iff.1 h).1; omega) (fun r e => by cases e; exact hl),
   fun k cs t hk _ => blk_turn hk (grownBy_putObj' W l o') (fun r e => by cases e; exact ⟨o, h, ho⟩)⟩

/-- A step of the caller's own on one of its blocks, of another type than what the iterator keeps. -/
theorem kept_grown {n₀ : Nat} {W W' : World} {row : Option Nat} (hg : W.grownBy W' row) (hn : n₀ ≤ W.heap.size) (hr : ∀ r, row = some r → n₀ ≤ r ∧ ∃ cells t, W.heap[r]? = some (.cells cells t (0, 0)) ∧ t ≠ 4 ∧ t ≠ 33 ∧ t ≠ 97) : Kept n₀ W W' ∧ KeepsOthers W W' := by
  refine ⟨⟨pw_below_grown (Below.refl _ _) row hn hg (fun r e => (hr r e).1), fun k cs t hk ht => blk_grown hk hg (fun e => ?_)⟩, ⟨hg.size, fun k o hk ho => (hg.block k (Array.getElem?_eq_some_iff.1 hk).1 (fun e => ?_)).trans hk⟩⟩
  · obtain ⟨_, cells, t', hc, h1, h2, h3⟩ := hr k e.symm
    rw [hk] at hc
    cases hc
    rcases ht with rfl | rfl | rfl
    · exact h1 rfl
    · exact h2 rfl
    · exact h3 rfl
  · obtain ⟨_, cells, t', hc, _⟩ := hr k e.symm
    rw [hk] at hc
    cases hc
    cases ho
theorem inherited_gives (dir : Bool) (o : Int) (b : Bool) (A : Option Addr) (c : Nat) (l : List S37) (gd gp : Nat) (w0 W : World) (hb0 : Below w0.heap.size w0 W) (hL : k37.C w0 A l.length l) (hgd : W.heap[gd]? = some (.cells #[.bool dir] 4 (0, 0))) (hgp : W.heap[gp]? = some (.cells #[.int .i64 o, .bool b, .slice A l.length c] 33 (0, 0))) :
    IterGives Try.prog 73 #[.pointer (some ⟨gd, 0, none⟩), .pointer (some ⟨gp, 0, none⟩)] (fun x : Nat × S37 => #[.int .i64 (x.1 : Int), .agg #[.bool x.2.f0, .int .i64 x.2.f1, .int .i64 x.2.f2, .int .i64 x.2.f3]]) (inh dir 0 l) (Kept w0.heap.size) W :=
  fun ly J Jx W' hW hJ hJx hY h0 => inherited_iter dir o b A c l gd gp ly w0 W' (hb0.trans (hW.mono hb0.size)) hL (blk_below hgd hW) (blk_below hgp hW) J Jx hJ hJx hY h0

set_option maxRecDepth 100000 in
set_option maxHeartbeats 2000000 in
theorem given_calls (o : Int) (b : Bool) (A : Option Addr) (c : Nat) (l : List S37) (dir : Bool) (w : World) (hr : k37.C w A l.length l) (hm : l.length * 32 ≤ 140737488355328) :
    Calls Try.prog 59 #[.agg #[.int .i64 o, .bool b, .slice A l.length c], .bool dir] w fun e w' => ∃ v, e = .returned v ∧ RA w' w.heap.size v (given l dir) ∧ Below w.heap.size w w' := by
  have HR := Aside0.mk hr
  clear hr
  have he := enters_ Try.func73 (by kernel_rfl) rfl
  refine calls_of_marks Try.func59 rfl ?_
  simp only [Try.ntmps59, List.size_toArray, List.length_cons, List.length_nil, Nat.reduceAdd, Nat.reduceSub, Array.replicate_succ, Array.replicate_zero, List.push_toArray, List.append_toArray, List.nil_append, List.cons_append]
  go_wp2_with ((with_reducible refine gate_dst (N := 10) rfl ?_); refine goesL_ (some 10) rfl rfl Try.func52 (by kernel_rfl) rfl #[.agg #[.int .i64 o, .bool b, .slice A l.length c], .bool dir] rfl (by (try simp only [List.map_toArray, List.map_cons, List.map_nil]); first | done | rfl) ?_; refine (inherited_calls o b A l.length c dir _).mono ?_; rintro e w' ⟨rfl, rfl⟩; refine ⟨_, rfl, ?_⟩)
  have hg1 := blk_alloc (blk_alloc (blk_new (w.alloc (.cells #[.int .i64 o, .bool b, .slice A l.length c] 33)) (.cells #[.slice none 0 0] 31)) (.cells #[.int .i64 o, .bool b, .slice A l.length c] 33)) (.cells #[.bool dir] 4)
  have hg2 := blk_alloc (blk_new ((w.alloc (.cells #[.int .i64 o, .bool b, .slice A l.length c] 33)).alloc (.cells #[.slice none 0 0] 31)) (.cells #[.int .i64 o, .bool b, .slice A l.length c] 33)) (.cells #[.bool dir] 4)
  have hg3 := blk_new (((w.alloc (.cells #[.int .i64 o, .bool b, .slice A l.length c] 33)).alloc (.cells #[.slice none 0 0] 31)).alloc (.cells #[.int .i64 o, .bool b, .slice A l.length c] 33)) (.cells #[.bool dir] 4)
  have hb := below_alloc (below_alloc (below_alloc (below_alloc (Below.refl _ w) (.cells #[.int .i64 o, .bool b, .slice A l.length c] 33)) (.cells #[.slice none 0 0] 31)) (.cells #[.int .i64 o, .bool b, .slice A l.length c] 33)) (.cells #[.bool dir] 4)
  simp only [World.size_alloc] at hg1 hg2 hg3
  simp only [Act.put, List.setIfInBounds_toArray, List.set_cons_zero, List.set_cons_succ, World.size_alloc]
  generalize hW : ((((w.alloc (.cells #[.int .i64 o, .bool b, .slice A l.length c] 33)).alloc (.cells #[.slice none 0 0] 31)).alloc (.cells #[.int .i64 o, .bool b, .slice A l.length c] 33)).alloc (.cells #[.bool dir] 4)) = W at hg1 hg2 hg3 hb ⊢
  have HB := Aside0.mk hb
  have HG1 := Aside0.mk hg1
  clear hW hg1
  refine range_own (gf := 73) (lb := #[.pointer (some ⟨w.heap.size + 1 + 1 + 1, 0, none⟩), .pointer (some ⟨w.heap.size + 1 + 1, 0, none⟩)]) rfl he (fun _ => rfl)
    (inherited_gives dir o b A c l (w.heap.size + 1 + 1 + 1) (w.heap.size + 1 + 1) w W hb HR.out hg3 hg2) (fun h k => h.trans k) (fun W' l' o' o'' hl h ho => kept_turn (Nat.le_trans hb.size hl) h ho)
    (fun pre W' => (∃ v, W'.heap[w.heap.size + 1]? = some (.cells #[v] 31 (0, 0)) ∧ RA W' w.heap.size v (pre.map (·.2))) ∧ Below w.heap.size w W') (fun _ _ _ => False) ?hI (fun _ _ _ _ _ h _ _ => h) ?h0 ?round ?done ?stop
  case hI =>
    rintro s X Y row ⟨⟨v, hv, hra⟩, hbx⟩ hg hrr
    exact ⟨⟨v, blk_turn hv hg (fun r e => (hrr r e).2), R_turn hra hg (fun r e => (hrr r e).2)⟩, below_turn hbx hg hbx.size (fun r e => Nat.le_trans HB.out.size (hrr r e).1)⟩
  case h0 => exact ⟨⟨_, HG1.out, Kd.R_nil _ _ _ _ _⟩, HB.out⟩
  case round =>
    rintro ly pre x W' K hl hlt ⟨r, hr⟩ ⟨⟨v, hv, hra⟩, hbx⟩ hpre hK
    refine region_in (fun ⟨_, _, h⟩ => h) (by simp) ?_
    go_wp2
    refine hK _ _ ((KeepsOthers.alloc _ _).from _) (Kept.of_below (below_alloc (Below.refl _ _) _) hbx.size) (fun W2 hgr hlr => ?_)
    have hturn : ∀ r, some ly = some r → ∃ o : Obj, (W'.alloc (.cells #[.bool x.2.f0, .int .i64 x.2.f1, .int .i64 x.2.f2, .int .i64 x.2.f3] 37)).heap[r]? = some o ∧ o.isCells = false := fun r e => by cases e; obtain ⟨r, hr⟩ := hlr; exact ⟨_, hr, rfl⟩
    have hv2 := blk_turn (blk_alloc hv _) hgr hturn
    have HO2 := Aside0.mk (R_turn (Kd.R_alloc hra _) hgr hturn)
    have HB2 := Aside0.mk (below_turn (below_alloc hbx _) hgr (below_alloc hbx _).size (fun r e => by cases e; exact Nat.le_trans HB.out.size hl))
    have hbx2 := blk_turn (blk_new W' (.cells #[.bool x.2.f0, .int .i64 x.2.f1, .int .i64 x.2.f2, .int .i64 x.2.f3] 37 (0, 0))) hgr hturn
    have HV2 := Aside0.mk hv2
    have HLn : Aside0 ((pre.map (·.2)).length < l.length) := ⟨by
      have h1 := hpre.length_le
      have h2 := inh_length dir l 0
      simp at h1 ⊢; omega⟩
    have v0 := (blk_cell hv2 0).trans rfl
    have x0 := (blk_cell hbx2 0).trans rfl; have x1 := (blk_cell hbx2 1).trans rfl; have x2 := (blk_cell hbx2 2).trans rfl; have x3 := (blk_cell hbx2 3).trans rfl
    have HX := Aside0.mk hbx2
    clear hv2 hturn hgr hlr hv hra hbx hr hbx2
    refine wpIn_block ?_
    refine region_in (fun ⟨_, _, h⟩ => h) (by simp) ?_
    go_wp2_with ((with_reducible refine gate_builtin (b := .append) (xs := #[.tmp 13, .tmp 15]) rfl ?_); at_builtin; refine Kd.R_append k37 (w0 := w) w.heap.size rfl (.tmp 13) (.tmp 15) 31 37 (.agg #[(.bool false), (.int .i64 0), (.int .i64 0), (.int .i64 0)]) 32 rfl Try.underlying31 info37 rfl (by decide) (by omega) v (pre.map (·.2)) (x.2) [.bool (x.2).f0, .int .i64 (x.2).f1, .int .i64 (x.2).f2, .int .i64 (x.2).f3] (fun _ => True) (fun _ => False) rfl rfl (k37_mkM _ _ _ _) (fun _ hk => hk.elim) (fun _ _ => trivial) (HO2.out) (HB2.out) (HB2.out).size (by have := HLn.out; omega) ?_; intro v1 w3 ho hb hg hat; have HO3 := Aside0.mk ho; have HB3 := Aside0.mk hb; have HG3 := Aside0.mk hg; have hv3 := blk_grown HV2.out hg (Kd.R_ne HO2.out HV2.out (by decide)); have HV3 := Aside0.mk hv3; have HAT := Aside0.mk hat; obtain ⟨A1, c1, rfl⟩ := Kd.R_slice ho; clear v0; have v0 := (blk_cell hv3 0).trans rfl; have vf := blk_frozen hv3 0; clear ho hb hg hat hv3)
    obtain ⟨hk1, hk2⟩ := kept_grown (n₀ := w.heap.size) HG3.out HB2.out.size (fun r e => by
      obtain ⟨cells, hc⟩ := Kd.R_typed HO2.out r e
      exact ⟨own_base (Kd.R_own HO2.out).choose_spec r e, cells, 37, hc, by decide, by decide, by decide⟩)
    obtain ⟨hk3, hk4⟩ := kept_grown (n₀ := w.heap.size) (setCell_grown w3 (w.heap.size + 1) 0 (.slice A1 (pre.length + 1) c1)) HB3.out.size (fun r e => by cases e; exact ⟨by omega, _, _, HV3.out, by decide, by decide, by decide⟩)
    refine ⟨(hk2.trans hk4).from _, hk1.trans hk3, ⟨_, blk_put HV3.out 0 _ rfl, ?_⟩, HB3.out.setCell (p := ⟨w.heap.size + 1, 0, none⟩) (show w.heap.size ≤ w.heap.size + 1 by omega) _⟩
    have h5 := Kd.R_set HO3.out HV3.out (by decide) 0 (.slice A1 (pre.length + 1) c1)
    simpa using h5
  case done =>
    rintro D W' hD ⟨⟨v, hv, hra⟩, hbx⟩ hKD
    have HV := Aside0.mk hv
    have HO := Aside0.mk hra
    have HBX := Aside0.mk hbx
    have HKD := Aside0.mk hKD
    have v0 := (blk_cell hv 0).trans rfl
    clear hv hra hbx hKD
    go_wp2
    refine ⟨by simp, .inl ⟨_, _, rfl, run_takeDeferred HKD.out, ?_⟩⟩
    exact ⟨_, results_tmp rfl _ _ _, _, rfl, R_turn HO.out (grownBy_putObj' _ _ _) (fun r e => by cases e; exact ⟨_, HKD.out, rfl⟩), below_turn HBX.out (grownBy_putObj' _ _ _) HBX.out.size (fun r e => by cases e; exact Nat.le_trans HB.out.size hD)⟩
  case stop =>
    rintro D c pre W' _ _ h _
    exact h.elim
end Go.Proofs.Ytgocgjfaiddejaa.M
