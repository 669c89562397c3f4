/- lock.Blocks. -/
import Derived.Test.YtifnfnoicinbaaaC1
import Derived.Test.YtifnfnoicinbaaaSH
import Derived.Sort.OwnSortedInts
namespace Go.Proofs.Ytifnfnoicinbaaa.M
open Go.RowKit Go.Proofs.YtifnfnoicinbaaaW.PrintWords Go.Proofs.YtifnfnoicinbaaaW.PrintLast Go.Proofs.YtifnfnoicinbaaaW.PrintMore
set_option linter.unusedVariables false
set_option linter.unusedSimpArgs false
set_option linter.unnecessarySimpa false

def calmQ (Q : Exit → Act → World → Prop) : Exit → Act → World → Prop
  | .panic _, _, _ => False
  | e, a, w => Q e a w
theorem wp_calm {P : Program} {c : Code} {Q : Exit → Act → World → Prop} {a : Act} {w : World} (h : c.wp P (calmQ Q) a w) : c.wp P Q a w := wp_mono h (fun e a w h => by cases e <;> first | exact h | exact h.elim)
theorem calm_normal {Q : Exit → Act → World → Prop} {a : Act} {w : World} (h : Q .normal a w) : calmQ Q .normal a w := h
theorem results_tt {P : Program} {fn : Func} {p q : Tmp} (h : fn.results = #[.tmp p, .tmp q]) (tmps : Array Value) (W : World) : (results fn tmps).run P W = .ok (.tuple #[tmps.getD p undef, tmps.getD q undef]) W := by
  simp [results, h]
def RetI (w : World) (L : List Int) (E : Int) (e : Ending) (w' : World) : Prop :=
  ∃ v, e = .returned (.tuple #[v, .int .i64 E]) ∧ kI.R 3 w' w.heap.size (fun _ => True) v L ∧ Below w.heap.size w w'
abbrev sortI (L : List Int) : List Int := L.mergeSort fun x y => decide (x ≤ y)
def blocksF (H Wt : List S24) (h : Int) : List Int × Int :=
  if begE H Wt (knownB h) = 0 then (match PL.waitI hdL Wt h with | none => ([], 0) | some i => (Lib.compact (sortI ((PL.blks mtL H Wt i).map hdL)), 0)) else ([], begE H Wt (knownB h))
theorem keeps_row {α : Type} {d : Kd α} {e : Nat} {w w1 : World} {base : Nat} {ok : Nat → Prop} {u : Value} {ys : List α} (hr : d.R e w base ok u ys) (hg : w.grownBy w1 u.ownBlock) : KeepsOthers w w1 := by
  refine ⟨hg.size, fun k o hk hc => (hg.block k (Array.getElem?_eq_some_iff.1 hk).1 (fun he => ?_)).trans hk⟩
  obtain ⟨_, _, _, q, _, cells, hcc⟩ := (Kd.R_bound hr).1 k he.symm
  rw [hk] at hcc
  cases hcc
  cases hc
theorem encs_map (L : List Int) : encs (Value.int .i64) L = L.map (Value.int .i64) := by
  induction L with
  | nil => rfl
  | cons x L ih => show _ :: _ = _; rw [← ih]; rfl
theorem R_prefix {w : World} {base g cap : Nat} {xs ys : List Int} (h : kI.R 3 w base (fun _ => True) (.slice (some ⟨g, 0, none⟩) (xs ++ ys).length cap) (xs ++ ys)) : kI.R 3 w base (fun _ => True) (.slice (some ⟨g, 0, none⟩) xs.length cap) xs := by
  have ho := Kd.own_of_R h
  rw [encs_map] at ho
  obtain ⟨_, h2⟩ := ho
  rcases h2 with ⟨hv, _⟩ | ⟨g', cap', cur, hv, hb, hh, hn, hcm, hcs, htake⟩
  · cases hv
  · injection hv with ha hm hc
    injection ha with ha
    injection ha with hg
    subst hg; subst hc
    have hle : xs.length ≤ (xs ++ ys).length := by simp
    have ht : cur.toList.take (xs.length * 1) = xs.map (Value.int .i64) := by
      have := congrArg (List.take xs.length) htake
      rw [List.take_take, Nat.min_eq_left (by simpa using hle), List.map_append, List.take_append_of_le_length (by simp)] at this
      rw [Nat.mul_one, this, List.take_of_length_le (by simp)]
    have hk' : w.ownsRow base 3 1 (.slice (some ⟨g, 0, none⟩) xs.length cap) xs.length (encs (Value.int .i64) xs) := by
      rw [encs_map]
      exact ⟨by simp, .inr ⟨g, cap, cur, rfl, hb, hh, Nat.le_trans hle hn, hcm, hcs, ht⟩⟩
    exact Kd.R_of_own hk' (fun _ _ => trivial)
theorem R_sorted {w : World} {base g cap : Nat} {L T : List Int} (h : kI.R 3 w base (fun _ => True) (.slice (some ⟨g, 0, none⟩) L.length cap) L) (hl : T.length = L.length) (n : Nat) (os : Array Obj) :
    Go.Sort.Holds (Value.int .i64) w g 0 L.toArray ∧ g < w.heap.size ∧ base ≤ g ∧ w.grownBy (Go.Sort.grow (Go.Sort.putRow (Value.int .i64) (Sort.ahead w n) g 0 T.toArray) os) (some g) ∧ kI.R 3 (Go.Sort.grow (Go.Sort.putRow (Value.int .i64) (Sort.ahead w n) g 0 T.toArray) os) base (fun _ => True) (.slice (some ⟨g, 0, none⟩) T.length cap) T := by
  have ho := Kd.own_of_R h
  rw [encs_map] at ho
  obtain ⟨_, h2⟩ := ho
  rcases h2 with ⟨hv, _⟩ | ⟨g', cap', cur, hv, hb, hh, hn, hcm, hcs, htake⟩
  · cases hv
  · injection hv with ha hm hc
    injection ha with ha
    injection ha with hg
    subst hg; subst hc
    have hk := ownsRow_sortedI (w := w) (n := n) (os := os) (ss := L) (ts := T) hl hb hh hn hcm (by simpa using hcs)
    refine ⟨holds_of_blockI hh (by simpa using htake), blk_lt hh, hb, grownBy_sortedI _, ?_⟩
    have hk' : (Go.Sort.grow (Go.Sort.putRow (Value.int .i64) (Sort.ahead w n) g 0 T.toArray) os).ownsRow base 3 1 (.slice (some ⟨g, 0, none⟩) T.length cap) T.length (encs (Value.int .i64) T) := by rw [encs_map, hl]; exact hk
    exact Kd.R_of_own hk' (fun _ _ => trivial)
set_option maxRecDepth 100000 in
set_option maxHeartbeats 2000000 in
theorem blocks_calls (AH AW : Option Addr) (cH cW : Nat) (H Wt : List S24) (h : Int) (w : World) (hH : k24.C w AH H.length H) (hW : k24.C w AW Wt.length Wt) (hlen : H.length + Wt.length ≤ 1000) :
    Calls Try.prog 26 #[.agg #[.slice AH H.length cH, .slice AW Wt.length cW], .int .i64 h] w fun e w' => RetI w (blocksF H Wt h).1 (blocksF H Wt h).2 e w' := by
  have HH := Aside0.mk hH
  have HW := Aside0.mk hW
  clear hH hW
  refine calls_of_marks Try.func26 rfl ?_
  simp only [Try.ntmps26, List.size_toArray, List.length_cons, List.length_nil, Nat.reduceAdd, Nat.reduceSub, Array.replicate_succ, Array.replicate_zero, List.push_toArray, List.append_toArray, List.nil_append, List.cons_append]
  go_upto_region 1 with (fail)
  have hb_ := below_alloc (Below.refl _ w) (.cells #[.slice AH H.length cH, .slice AW Wt.length cW] 29)
  have hG0_ := blk_lit0 w (.cells #[.slice AH H.length cH, .slice AW Wt.length cW] 29)
  generalize (w.alloc (.cells #[.slice AH H.length cH, .slice AW Wt.length cW] 29)) = W at hb_ hG0_ ⊢
  have HB_W := Aside0.mk hb_
  have W0 := Aside0.mk hG0_
  clear hb_ hG0_
  have HHW := Aside0.mk (Kd.C_below HH.out HB_W.out)
  have HWW := Aside0.mk (Kd.C_below HW.out HB_W.out)
  refine wp_calm ?_
  refine start_ (n := 9) (S := fun w' => w'.cell? ⟨w.heap.size, 0, none⟩ = some (.slice AH H.length cH) ∧ w'.cell? ⟨w.heap.size, 1, none⟩ = some (.slice AW Wt.length cW)) (ds := []) #[false, false, false, false, false, false, false, false, false] (by kernel_rfl) rfl rfl ⟨(blk_cell (blk_drew W0.out) 0).trans rfl, (blk_cell (blk_drew W0.out) 1).trans rfl⟩ (fun hHeld => ?_)
  have HBD := Aside0.mk (below_drew1 (Below.refl W.heap.size W))
  have C0 := Aside0.mk (blk_drew W0.out)
  generalize W.drew = wd at HBD C0 hHeld ⊢
  refine take_ (i := 0) (N := some 12) (v := ?_) (a' := ?_) #[true, false, false, false, false, false, false, false, false] rfl rfl (by kernel_rfl) (fun _ _ _ h => h) (Or.inl ⟨by rfl, ?_⟩) hHeld ?_ ?_
  rotate_left
  · rintro w' ⟨s0, s1⟩
    go_simp
    with_reducible rfl
  rotate_left
  · simp only [Act.put, List.setIfInBounds_toArray, List.set_cons_zero, List.set_cons_succ, i64_w, i32_w]
    rfl
  refine pure_ (i := 1) (N := some 13) (v := ?_) (a' := ?_) #[true, true, false, false, false, false, false, false, false] rfl rfl (by kernel_rfl) (fun _ _ _ h => h) (Or.inl ⟨by rfl, ?_⟩) ?_ ?_
  rotate_left
  · intro w'
    go_simp
    with_reducible rfl
  rotate_left
  · simp only [Act.put, List.setIfInBounds_toArray, List.set_cons_zero, List.set_cons_succ, i64_w, i32_w]
    rfl
  refine one_ (i := 2) (N := some 14) #[true, true, true, false, false, false, false, false, false] rfl rfl (by kernel_rfl) (by decide) (fun K hK => ?_)
  refine goes_ Try.func57 (by kernel_rfl) rfl #[.int .i64 h] (by rfl) rfl rfl (by (try simp only [List.map_toArray, List.map_cons, List.map_nil]); first | done | rfl) ?_
  refine (known_calls h _).mono ?_
  rintro e w3 ⟨rfl, hb⟩
  refine ⟨_, rfl, ?_⟩
  have HB3 := Aside0.mk (below_step HBD.out hb)
  have D0 := Aside0.mk (blk_below C0.out hb)
  clear hb C0 W0
  refine hK.out _ _ ⟨(blk_cell (D0.out) 0).trans rfl, (blk_cell (D0.out) 1).trans rfl⟩ (fun hHeld => ?_)
  clear hK K
  refine norm_ (a' := ?_) ?_ ?_
  rotate_left
  · show Act.put _ (some 14) _ = _
    simp only [Act.put, List.setIfInBounds_toArray, List.set_cons_zero, List.set_cons_succ, i64_w, i32_w]
    rfl
  refine one_ (i := 3) (N := some 15) #[true, true, true, true, false, false, false, false, false] rfl rfl (by kernel_rfl) (by decide) (fun K hK => ?_)
  refine goes_ Try.func56 (by kernel_rfl) rfl #[.agg #[.slice AH H.length cH, .slice AW Wt.length cW], .bool (knownB h)] (by rfl) rfl rfl (by (try simp only [List.map_toArray, List.map_cons, List.map_nil]); first | done | rfl) ?_
  refine (begin_calls AH AW cH cW H Wt (knownB h) _ (Kd.C_below HHW.out HB3.out) (Kd.C_below HWW.out HB3.out) hlen).mono ?_
  rintro e w4 hp
  skip
  by_cases hz : begE H Wt (knownB h) = 0
  rotate_left
  · obtain ⟨rfl, hb⟩ := hp.bad hz
    refine ⟨_, rfl, ?_⟩
    have HB4 := Aside0.mk (below_step HB_W.out (below_step HB3.out hb))
    have E0 := Aside0.mk (blk_below D0.out hb)
    have HNE := Aside0.mk hz
    have HE := Aside0.mk (show blocksF H Wt h = ([], begE H Wt (knownB h)) by unfold blocksF; rw [if_neg hz])
    have hnb : (begE H Wt (knownB h) == 0) = false := by simpa using hz
    generalize begE H Wt (knownB h) = E at HNE HE hnb ⊢
    clear hz hb hp
    refine hK.out _ _ ⟨(blk_cell (E0.out) 0).trans rfl, (blk_cell (E0.out) 1).trans rfl⟩ (fun hHeld => ?_)
    clear hK K
    refine norm_ (a' := ?_) ?_ ?_
    rotate_left
    · show Act.put _ (some 15) _ = _
      simp only [Act.put, List.setIfInBounds_toArray, List.set_cons_zero, List.set_cons_succ, i64_w, i32_w]
      rfl
    refine pure_ (i := 4) (N := some 11) (v := ?_) (a' := ?_) #[true, true, true, true, true, false, false, false, false] rfl rfl (by kernel_rfl) (fun _ _ _ h => h) (Or.inl ⟨by rfl, ?_⟩) ?_ ?_
    rotate_left
    · intro w'
      go_simp
      with_reducible rfl
    rotate_left
    · simp only [Act.put, List.setIfInBounds_toArray, List.set_cons_zero, List.set_cons_succ, i64_w, i32_w]
      rfl
    refine pure_ (i := 5) (N := some 16) (v := ?_) (a' := ?_) #[true, true, true, true, true, true, false, false, false] rfl rfl (by kernel_rfl) (fun _ _ _ h => h) (Or.inl ⟨by rfl, ?_⟩) ?_ ?_
    rotate_left
    · intro w'
      go_simp
      with_reducible rfl
    rotate_left
    · simp only [Act.put, List.setIfInBounds_toArray, List.set_cons_zero, List.set_cons_succ, i64_w, i32_w]
      rfl
    refine pure_ (i := 6) (N := some 17) (v := ?_) (a' := ?_) #[true, true, true, true, true, true, true, false, false] rfl rfl (by kernel_rfl) (fun _ _ _ h => h) (Or.inl ⟨by rfl, ?_⟩) ?_ ?_
    rotate_left
    · intro w'
      go_simp
      with_reducible rfl
    rotate_left
    · simp only [Act.put, List.setIfInBounds_toArray, List.set_cons_zero, List.set_cons_succ, i64_w, i32_w]
      rfl
    refine pure_ (i := 7) (N := some 6) (v := ?_) (a' := ?_) #[true, true, true, true, true, true, true, true, false] rfl rfl (by kernel_rfl) (fun _ _ _ h => h) (Or.inl ⟨by rfl, ?_⟩) ?_ ?_
    rotate_left
    · intro w'
      go_simp
      with_reducible rfl
    rotate_left
    · simp only [Act.put, List.setIfInBounds_toArray, List.set_cons_zero, List.set_cons_succ, i64_w, i32_w]
      rfl
    refine pure_ (i := 8) (N := some 7) (v := ?_) (a' := ?_) #[true, true, true, true, true, true, true, true, true] rfl rfl (by kernel_rfl) (fun _ _ _ h => h) (Or.inl ⟨by rfl, ?_⟩) ?_ ?_
    rotate_left
    · intro w'
      go_simp
      with_reducible rfl
    rotate_left
    · simp only [Act.put, List.setIfInBounds_toArray, List.set_cons_zero, List.set_cons_succ, i64_w, i32_w]
      rfl
    refine done_ (by kernel_rfl) ?_
    refine calm_normal ?_
    clear hHeld
    go_wp2
    refine ⟨_, results_tt rfl _ _, ?_⟩
    show RetI w (blocksF H Wt h).1 (blocksF H Wt h).2 _ _
    rw [HE.out]
    exact ⟨_, rfl, Kd.R_nil _ _ _ _ _, HB4.out⟩
  · obtain ⟨q, rfl, hT, hb⟩ := hp.good hz
    refine ⟨_, rfl, ?_⟩
    have HZ := Aside0.mk hz
    have HT := Aside0.mk (hT.mono HB3.out.size)
    have HB4 := Aside0.mk (below_step HB3.out hb)
    have E0 := Aside0.mk (blk_below D0.out hb)
    clear hT hz hb hp
    skip
    refine hK.out _ _ ⟨(blk_cell (E0.out) 0).trans rfl, (blk_cell (E0.out) 1).trans rfl⟩ (fun hHeld => ?_)
    clear hK K
    refine norm_ (a' := ?_) ?_ ?_
    rotate_left
    · show Act.put _ (some 15) _ = _
      simp only [Act.put, List.setIfInBounds_toArray, List.set_cons_zero, List.set_cons_succ, i64_w, i32_w]
      rfl
    refine pure_ (i := 4) (N := some 11) (v := ?_) (a' := ?_) #[true, true, true, true, true, false, false, false, false] rfl rfl (by kernel_rfl) (fun _ _ _ h => h) (Or.inl ⟨by rfl, ?_⟩) ?_ ?_
    rotate_left
    · intro w'
      go_simp
      with_reducible rfl
    rotate_left
    · simp only [Act.put, List.setIfInBounds_toArray, List.set_cons_zero, List.set_cons_succ, i64_w, i32_w]
      rfl
    refine pure_ (i := 5) (N := some 16) (v := ?_) (a' := ?_) #[true, true, true, true, true, true, false, false, false] rfl rfl (by kernel_rfl) (fun _ _ _ h => h) (Or.inl ⟨by rfl, ?_⟩) ?_ ?_
    rotate_left
    · intro w'
      go_simp
      with_reducible rfl
    rotate_left
    · simp only [Act.put, List.setIfInBounds_toArray, List.set_cons_zero, List.set_cons_succ, i64_w, i32_w]
      rfl
    refine pure_ (i := 6) (N := some 17) (v := ?_) (a' := ?_) #[true, true, true, true, true, true, true, false, false] rfl rfl (by kernel_rfl) (fun _ _ _ h => h) (Or.inl ⟨by rfl, ?_⟩) ?_ ?_
    rotate_left
    · intro w'
      go_simp
      with_reducible rfl
    rotate_left
    · simp only [Act.put, List.setIfInBounds_toArray, List.set_cons_zero, List.set_cons_succ, i64_w, i32_w]
      rfl
    refine pure_ (i := 7) (N := some 6) (v := ?_) (a' := ?_) #[true, true, true, true, true, true, true, true, false] rfl rfl (by kernel_rfl) (fun _ _ _ h => h) (Or.inl ⟨by rfl, ?_⟩) ?_ ?_
    rotate_left
    · intro w'
      go_simp
      with_reducible rfl
    rotate_left
    · simp only [Act.put, List.setIfInBounds_toArray, List.set_cons_zero, List.set_cons_succ, i64_w, i32_w]
      rfl
    refine pure_ (i := 8) (N := some 7) (v := ?_) (a' := ?_) #[true, true, true, true, true, true, true, true, true] rfl rfl (by kernel_rfl) (fun _ _ _ h => h) (Or.inl ⟨by rfl, ?_⟩) ?_ ?_
    rotate_left
    · intro w'
      go_simp
      with_reducible rfl
    rotate_left
    · simp only [Act.put, List.setIfInBounds_toArray, List.set_cons_zero, List.set_cons_succ, i64_w, i32_w]
      rfl
    refine done_ (by kernel_rfl) ?_
    refine calm_normal ?_
    clear hHeld HH HW D0 HBD HB3
    have HGD := Aside0.mk (beg_good HZ.out)
    cases hwi : PL.waitI hdL Wt h with
    | none =>
      have hwn := waitN_none hwi
      have HE := Aside0.mk (show blocksF H Wt h = ([], 0) by unfold blocksF; rw [if_pos HZ.out, hwi])
      have HWN := Aside0.mk hwn
      clear hwi hwn
      go_upto_region 6 with ((with_reducible refine gate_dst (N := 23) rfl ?_); refine goesL_ (some 23) rfl rfl Try.func58 (by kernel_rfl) rfl #[.pointer (some ⟨q, 0, none⟩), .int .i64 h] rfl (by (try simp only [List.map_toArray, List.map_cons, List.map_nil]); first | done | rfl) ?_; refine (wait_calls q h H Wt _ HT.out.tab).mono ?_; rintro e w6 ⟨rfl, hb⟩; refine ⟨_, rfl, ?_⟩; rw [HWN.out]; have HB6 := Aside0.mk (below_step HB_W.out (below_step HB4.out hb)); clear hb)
      go_wp2
      refine ⟨_, results_tt rfl _ _, ?_⟩
      show RetI w (blocksF H Wt h).1 (blocksF H Wt h).2 _ _
      rw [HE.out]
      exact ⟨_, rfl, Kd.R_nil _ _ _ _ _, HB6.out⟩
    | some i =>
      have hil := waitI_lt hwi
      have hwn := waitN_of hwi
      have hi1 : i ≤ 1000 := by omega
      have HE0 := Aside0.mk (show blocksF H Wt h = (Lib.compact (sortI ((PL.blks mtL H Wt i).map hdL)), 0) by unfold blocksF; rw [if_pos HZ.out, hwi])
      have HWN := Aside0.mk hwn
      have HBL := Aside0.mk (PL.blks_len (mt := mtL) (H := H) (W := Wt) i)
      clear hwi hwn
      go_upto_region 8 with ((with_reducible refine gate_dst (N := 23) rfl ?_); refine goesL_ (some 23) rfl rfl Try.func58 (by kernel_rfl) rfl #[.pointer (some ⟨q, 0, none⟩), .int .i64 h] rfl (by (try simp only [List.map_toArray, List.map_cons, List.map_nil]); first | done | rfl) ?_; refine (wait_calls q h H Wt _ HT.out.tab).mono ?_; rintro e w6 ⟨rfl, hb⟩; refine ⟨_, rfl, ?_⟩; rw [HWN.out]; have HB6 := Aside0.mk (below_step HB_W.out (below_step HB4.out hb)); have HT6 := Aside0.mk (HT.out.tab.below hb); clear hb HB4 HT)
      have hb_ := below_alloc (Below.refl _ w6) (.cells #[.slice none 0 0] 31)
      have hG0_ := blk_lit0 w6 (.cells #[.slice none 0 0] 31)
      generalize (w6.alloc (.cells #[.slice none 0 0] 31)) = X at hb_ hG0_ ⊢
      have HB_X := Aside0.mk hb_
      have X0 := Aside0.mk hG0_
      clear hb_ hG0_
      go_wp2_with ((with_reducible refine gate_dst (N := 28) rfl ?_); refine goesL_ (some 28) rfl rfl Try.func59 (by kernel_rfl) rfl #[.pointer (some ⟨q, 0, none⟩), .int .i64 i] rfl (by (try simp only [List.map_toArray, List.map_cons, List.map_nil]); first | done | rfl) ?_; refine (blockers_calls q i _).mono ?_; rintro e w' ⟨rfl, rfl⟩; refine ⟨_, rfl, ?_⟩)
      have hb1 := below_alloc (below_alloc HB_X.out (.cells #[.pointer (some ⟨q, 0, none⟩)] 64)) (.cells #[.int .i64 (i : Int)] 3)
      have ht := blk_alloc (blk_new X (.cells #[.pointer (some ⟨q, 0, none⟩)] 64)) (.cells #[.int .i64 (i : Int)] 3)
      have hib := blk_lit X (.cells #[.pointer (some ⟨q, 0, none⟩)] 64) (.cells #[.int .i64 (i : Int)] 3)
      have h0 := blk_alloc (blk_alloc X0.out (.cells #[.pointer (some ⟨q, 0, none⟩)] 64)) (.cells #[.int .i64 (i : Int)] 3)
      simp only [Act.put, List.setIfInBounds_toArray, List.set_cons_zero, List.set_cons_succ]
      generalize hV : (X.alloc (.cells #[.pointer (some ⟨q, 0, none⟩)] 64)).alloc (.cells #[.int .i64 (i : Int)] 3) = V at hb1 ht hib h0 ⊢
      have HB := Aside0.mk hb1
      have H0 := Aside0.mk h0
      have HBV := Aside0.mk (below_step HB6.out hb1)
      clear hV hb1 h0
      refine range_own (gf := 78) (lb := #[.pointer (some ⟨X.heap.size, 0, none⟩), .pointer (some ⟨X.heap.size + 1, 0, none⟩)]) rfl (enters_ Try.func78 (by kernel_rfl) rfl) (fun _ => rfl)
        (blockers_gives HT6.out HB.out (n₀ := V.heap.size) (blk_lt hib) hil ht hib) (fun h k => h.trans k) (fun W' l' o' o'' hl h ho => keptI_turn (Nat.le_trans HB.out.size hl) h ho)
        (fun pre W' => ∃ v, W'.heap[w6.heap.size]? = some (.cells #[v] 31 (0, 0)) ∧ kI.R 3 W' V.heap.size (fun _ => True) v (pre.map hdL) ∧ Below w6.heap.size w6 W' ∧ V.heap.size ≤ W'.heap.size)
        (fun c pre W' => False) ?hI ?hIx ?h0 ?round ?done ?stop
      case hI =>
        rintro s A B row ⟨v, hv, hr, hbx, hsz⟩ hg hrr
        exact ⟨v, blk_turn hv hg (fun r e => (hrr r e).2), R_turn hr hg (fun r e => (hrr r e).2), below_turn hbx hg hbx.size (fun r e => Nat.le_trans HB.out.size (hrr r e).1), Nat.le_trans hsz hg.size⟩
      case hIx =>
        rintro cc s A B row hf
        exact hf.elim
      case h0 => exact ⟨_, H0.out, Kd.R_nil _ _ _ _ _, HB.out, Nat.le_refl _⟩
      case round =>
        rintro ly pre x W' K hl hll ⟨r, hr⟩ ⟨v, hv, hrow, hbx, hsz⟩ hpre hK
        have HRW := Aside0.mk hrow
        have HVV := Aside0.mk hv
        have HBX := Aside0.mk hbx
        clear hrow hv hbx
        refine region_in (fun ⟨_, _, h⟩ => h) (by simp) ?_
        go_wp2
        have HBA := Aside0.mk (below_alloc (Below.refl _ W') (.cells #[.int .i64 x.f0, .int .i64 x.f1, .int .i64 x.f2, .int .i64 x.f3, .bool x.f4] 24))
        have HXA := Aside0.mk (blk_new W' (.cells #[.int .i64 x.f0, .int .i64 x.f1, .int .i64 x.f2, .int .i64 x.f3, .bool x.f4] 24))
        generalize hgx : W'.heap.size = gx at HXA ⊢
        generalize W'.alloc (.cells #[.int .i64 x.f0, .int .i64 x.f1, .int .i64 x.f2, .int .i64 x.f3, .bool x.f4] 24) = W3 at HBA HXA hK ⊢
        refine hK _ _ ((keepsB HBA.out).from _) (KeptI.of_below HBA.out (Nat.le_trans HB.out.size hsz)) (fun W4 hgr hlr => ?_)
        have hturn : ∀ r, some ly = some r → ∃ o : Obj, W3.heap[r]? = some o ∧ o.isCells = false := fun r e => by cases e; obtain ⟨r, hr⟩ := hlr; exact ⟨_, hr, rfl⟩
        have HX4 := Aside0.mk (blk_turn HXA.out hgr hturn)
        have HR4 := Aside0.mk (R_turn (Kd.R_below HRW.out HBA.out) hgr hturn)
        have HV4 := Aside0.mk (blk_turn (blk_below HVV.out HBA.out) hgr hturn)
        have HB4 := Aside0.mk (below_turn (below_step HBX.out HBA.out) hgr (below_step HBX.out HBA.out).size (fun r e => by cases e; exact Nat.le_trans HB.out.size hl))
        have HS4 := Aside0.mk (Nat.le_trans (Nat.le_trans hsz HBA.out.size) hgr.size)
        clear hturn hgr hlr hr hK HBA HXA HRW HVV HBX
        have HLP := Aside0.mk (show (pre.map hdL).length ≤ 1000 by have h1 := hpre.length_le; have h2 := HBL.out; simp at h1 ⊢; omega)
        have hlx := blk_lt HX4.out
        have hlv := blk_lt HV4.out
        have x0 := (blk_cell HX4.out 0).trans rfl; have x1 := (blk_cell HX4.out 1).trans rfl; have x2 := (blk_cell HX4.out 2).trans rfl; have x3 := (blk_cell HX4.out 3).trans rfl; have x4 := (blk_cell HX4.out 4).trans rfl
        have v0 := (blk_cell HV4.out 0).trans rfl
        have fv0 := blk_frozen HV4.out 0
        refine wpIn_block ?_
        refine region_in (fun ⟨_, _, h⟩ => h) (by simp) ?_
        obtain ⟨PP, hPP⟩ : ∃ PP, PP = pre.map hdL ++ [x.f1] := ⟨_, rfl⟩
        have HPP := Aside0.mk hPP
        clear hPP
        go_wp2_with ((with_reducible refine gate_builtin (b := .append) (xs := #[.tmp 30, .tmp 33]) rfl ?_); at_builtin; refine Kd.R_append kI (w0 := _) V.heap.size rfl (.tmp 30) (.tmp 33) 31 3 (.int .i64 0) 8 rfl Try.underlying31 info3 rfl (by decide) (by omega) v (pre.map hdL) (x.f1) [.int .i64 (x.f1)] (fun _ => True) (fun _ => False) rfl rfl rfl (fun _ hk => hk.elim) (fun _ _ => trivial) (HR4.out) ((Below.refl V.heap.size W4)) (HS4.out) (by have := HLP.out; omega) ?_; intro v10 w10 ho hb hg hat; rw [← HPP.out] at ho; have HRH := Aside0.mk ho; have HGH := Aside0.mk hg; have HV10 := Aside0.mk (blk_grown HV4.out hg (Kd.R_ne HR4.out HV4.out (by decide))); clear ho hb hg hat x0 x1 x2 x3 x4 v0 fv0; have v0 := (blk_cell HV10.out 0).trans rfl; have fv0 := blk_frozen HV10.out 0; obtain ⟨A10, c10, rfl⟩ := Kd.R_slice HRH.out)
        have HAT := Aside0.mk (KeepsOthers.trans (keeps_row HR4.out HGH.out) (KeepsOthers.setCell w10 ⟨w6.heap.size, 0, none⟩ (.slice A10 PP.length c10)))
        have hbw : Below w6.heap.size w6 w10 := pw_below_grown HB4.out v.ownBlock HB4.out.size HGH.out (fun k hk => Nat.le_trans HB.out.size (Kd.R_base HR4.out k hk))
        have hbk : Below w6.heap.size W4 w10 := pw_below_grown ((Below.refl _ W4).mono HB4.out.size) v.ownBlock HB4.out.size HGH.out (fun k hk => Nat.le_trans HB.out.size (Kd.R_base HR4.out k hk))
        refine ⟨HAT.out.from _, ⟨hbk.setCell (p := ⟨w6.heap.size, 0, none⟩) (Nat.le_refl _) _, fun k cs t hk ht => ?_⟩, ⟨_, blk_put HV10.out 0 _ rfl, ?_, hbw.setCell (p := ⟨w6.heap.size, 0, none⟩) (Nat.le_refl _) _, ?_⟩⟩
        · have h1 : w10.heap[k]? = some (.cells cs t (0, 0)) := blk_grown hk HGH.out (by
            rcases ht with rfl | rfl | ⟨rfl, hlt⟩
            · exact Kd.R_ne HR4.out hk (by decide)
            · exact Kd.R_ne HR4.out hk (by decide)
            · intro e; have := Kd.R_base HR4.out k e.symm; omega)
          exact blk_far h1 (p := ⟨w6.heap.size, 0, none⟩) (blk_ne h1 HV10.out (by rcases ht with rfl | rfl | ⟨rfl, _⟩ <;> decide)) _
        · rw [List.map_append, show pre.map hdL ++ [x].map hdL = PP from HPP.out.symm]
          exact Kd.R_set HRH.out HV10.out (by decide) 0 _
        · rw [size_set]
          exact Nat.le_trans HS4.out HGH.out.size
      case stop =>
        rintro D c pre W' hD hpre hf
        exact hf.elim
      case done =>
        rintro D W' hD ⟨v, hv, hrow, hbx, hsz⟩ hKD
        obtain ⟨L, hL⟩ : ∃ L, L = (PL.blks mtL H Wt i).map hdL := ⟨_, rfl⟩
        have hLl : L.length ≤ 1000 := by have := HBL.out; rw [hL]; simp; omega
        rw [← hL] at hrow HE0
        have HROW := Aside0.mk hrow
        have HV := Aside0.mk hv
        have HBX := Aside0.mk hbx
        have HKD := Aside0.mk hKD
        have HD := Aside0.mk hD
        clear hrow hv hbx hKD hD hL hsz
        have HNV := Aside0.mk (Kd.R_ne HROW.out HV.out (by decide))
        cases L with
        | nil =>
          obtain ⟨A, c, rfl⟩ := Kd.R_slice HROW.out
          have HE := Aside0.mk (show blocksF H Wt h = ([], 0) by rw [HE0.out]; simp [sortI, Lib.compact, Lib.compactUpTo])
          have v0 := (blk_cell HV.out 0).trans rfl
          simp only [List.length_nil] at v0
          go_wp2_with (fail)
          refine (Try.slices_Sort_int_none A c _).mono ?_
          rintro e w8 ⟨rfl, rfl⟩
          go_wp2_with (fail)
          refine (Try.slices_Compact_int_empty A c _).mono ?_
          rintro e w9 ⟨rfl, rfl⟩
          go_wp2
          have HB9 := Aside0.mk (below_step HB6.out HBX.out)
          have HKD9 := HKD
          refine ⟨by simp, .inl ⟨_, _, rfl, run_takeDeferred HKD9.out, ?_⟩⟩
          have HBF := Aside0.mk (below_turn HB9.out (grownBy_putObj' w9 D (.deferred none)) HB9.out.size (fun r e => by cases e; exact Nat.le_trans HB6.out.size (Nat.le_trans HB.out.size HD.out)))
          refine ⟨_, results_tt rfl _ _, ?_⟩
          show RetI w (blocksF H Wt h).1 (blocksF H Wt h).2 _ _
          rw [HE.out]
          exact ⟨_, rfl, Kd.R_lower (R_turn HROW.out (grownBy_putObj' w9 D (.deferred none)) (fun r e => by cases e; exact ⟨_, HKD9.out, rfl⟩)) (by have h1 := HB6.out.size; have h2 := HB.out.size; omega), HBF.out⟩
        | cons y L =>
          obtain ⟨g, cap, rfl, hg0, hg1, _⟩ := Kd.R_form HROW.out (by simp)
          obtain ⟨L1, hL1⟩ : ∃ L1, L1 = y :: L := ⟨_, rfl⟩
          rw [← hL1] at HROW HV HE0 hLl HNV
          obtain ⟨SL, hSL⟩ : ∃ SL, SL = sortI L1 := ⟨_, rfl⟩
          have hsl : SL.length = L1.length := by rw [hSL]; simp [sortI]
          have HE := Aside0.mk (show blocksF H Wt h = (Lib.compact SL, 0) by rw [HE0.out, hSL])
          have hcap := (Kd.R_reads' HROW.out).2.1
          have hso := Try.slices_Sort_int g 0 cap L1 W' (R_sorted HROW.out hsl 0 #[]).1 (R_sorted HROW.out hsl 0 #[]).2.1 (by omega)
          rw [show (L1.mergeSort fun x y => decide (x ≤ y)) = SL from hSL.symm] at hso
          have HSO := Aside0.mk hso
          have HSLN := Aside0.mk hsl
          clear hso hSL hsl hL1
          have v0 := (blk_cell HV.out 0).trans rfl
          go_wp2_with (fail)
          refine HSO.out.mono ?_
          rintro e w8 ⟨rfl, n, os, rfl⟩
          obtain ⟨_, _, hg2, hgr, hr8⟩ := R_sorted HROW.out HSLN.out n os
          have HR8 := Aside0.mk hr8
          have HV8 := Aside0.mk (blk_grown HV.out hgr HNV.out)
          have HB8 := Aside0.mk (pw_below_grown HBX.out (some g) HBX.out.size hgr (fun k e => by cases e; exact Nat.le_trans HB.out.size hg2))
          have HKD8 := Aside0.mk (blk_grown HKD.out hgr (fun e => by have e' := Option.some.inj e; obtain ⟨_, _, _, q9, _, cells, hc⟩ := (Kd.R_bound HROW.out).1 g rfl; rw [← e', HKD.out] at hc; cases hc))
          clear hr8 hgr v0 HSO
          generalize Go.Sort.grow (Go.Sort.putRow (Value.int .i64) (Sort.ahead W' n) g 0 SL.toArray) os = W8 at HR8 HV8 HB8 HKD8 ⊢
          obtain ⟨TT, hTT⟩ : ∃ TT, TT = Lib.compact SL ++ List.replicate (SL.length - (Lib.compact SL).length) (0 : Int) := ⟨_, rfl⟩
          have htl : TT.length = SL.length := by rw [hTT]; have := Lib.compact_length_le SL; simp; omega
          have hco := Try.slices_Compact_int g 0 cap SL W8 (R_sorted HR8.out htl 0 #[]).1 (by have := HSLN.out; omega) (by have := HSLN.out; omega)
          rw [← hTT] at hco
          have hs9 := HSLN.out
          rw [hs9] at hco
          have HCO := Aside0.mk hco
          have HTT := Aside0.mk hTT
          have HTL := Aside0.mk htl
          clear hco hTT htl hs9
          have v0 := (blk_cell HV8.out 0).trans rfl
          go_wp2_with (fail)
          refine HCO.out.mono ?_
          rintro e w9 ⟨rfl, n9, rfl⟩
          obtain ⟨_, _, hg3, hgr, hr9⟩ := R_sorted HR8.out HTL.out n9 #[]
          rw [Go.Sort.grow_empty] at hgr hr9
          have HR9 := Aside0.mk hr9
          have hb9 : Below w6.heap.size w6 _ := pw_below_grown HB8.out (some g) HB8.out.size hgr (fun k e => by cases e; exact Nat.le_trans HB.out.size hg2)
          have HB9 := Aside0.mk (below_step HB6.out hb9)
          have HKD9 := Aside0.mk (blk_grown HKD8.out hgr (fun e => by have e' := Option.some.inj e; obtain ⟨_, _, _, q9, _, cells, hc⟩ := (Kd.R_bound HR8.out).1 g rfl; rw [← e', HKD8.out] at hc; cases hc))
          clear hr9 hgr hb9 v0
          generalize Go.Sort.putRow (Value.int .i64) (Sort.ahead W8 n9) g 0 TT.toArray = W9 at HR9 HB9 HKD9 ⊢
          go_wp2
          refine ⟨by simp, .inl ⟨_, _, rfl, run_takeDeferred HKD9.out, ?_⟩⟩
          have HBF := Aside0.mk (below_turn HB9.out (grownBy_putObj' W9 D (.deferred none)) HB9.out.size (fun r e => by cases e; exact Nat.le_trans HB6.out.size (Nat.le_trans HB.out.size HD.out)))
          refine ⟨_, results_tt rfl _ _, ?_⟩
          show RetI w (blocksF H Wt h).1 (blocksF H Wt h).2 _ _
          rw [HE.out]
          have hct := R_turn HR9.out (grownBy_putObj' W9 D (.deferred none)) (fun r e => by cases e; exact ⟨_, HKD9.out, rfl⟩)
          rw [HTT.out] at hct
          exact ⟨_, rfl, Kd.R_lower (R_prefix hct) (by have h1 := HB6.out.size; have h2 := HB.out.size; omega), HBF.out⟩
end Go.Proofs.Ytifnfnoicinbaaa.M
