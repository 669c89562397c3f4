/- inherit.Source: its rounds. -/
import Derived.Test.YtgocgjfaiddejaaH24
namespace Go.Proofs.Ytgocgjfaiddejaa.M
open Go.RowKit Go.Proofs.YtgocgjfaiddejaaW.PrintWords Go.Proofs.YtgocgjfaiddejaaW.PrintLast Go.Proofs.YtgocgjfaiddejaaW.PrintMore
set_option linter.unusedVariables false
set_option linter.unusedSimpArgs false
set_option linter.unnecessarySimpa false

theorem inh_lt (dir : Bool) (l : List S37) : ∀ s p, p ∈ inh dir s l → s ≤ p.1 ∧ p.1 < s + l.length := by
  induction l with
  | nil => intro s p h; simp [inh] at h
  | cons x l ih =>
    intro s p h
    simp only [inh] at h
    split at h
    · rcases List.mem_cons.1 h with rfl | h
      · simp
      · have := ih (s + 1) p h; simp; omega
    · have := ih (s + 1) p h; simp; omega
theorem src_at {L I : List S37} {dir : Bool} {i : Nat} (h : renewL I L dir = L) (hi : i < L.length) (hh : hadB (rd_T37 L (i : Int)) = true) : (L.filter ownB).length ≤ i ∧ i - (L.filter ownB).length < (inh dir 0 I).length := by
  have hl : (L.filter ownB).length + (given I dir).length = L.length := by rw [← List.length_append]; exact congrArg List.length h
  have hg : (given I dir).length = (inh dir 0 I).length := by simp [given]
  have h0 : (L.filter ownB).length ≤ i := by
    rcases Nat.lt_or_ge i (L.filter ownB).length with h1 | h1
    · exfalso
      have h2 : L[i] = (L.filter ownB)[i] := by
        have h3 : (renewL I L dir)[i]? = L[i]? := by rw [h]
        unfold renewL at h3
        rw [List.getElem?_append_left h1, List.getElem?_eq_getElem h1, List.getElem?_eq_getElem hi] at h3
        exact (Option.some.inj h3).symm
      have h4 : ownB L[i] = true := by rw [h2]; exact (List.mem_filter.1 (List.getElem_mem h1)).2
      rw [rd37_at hi] at hh
      unfold ownB at h4
      unfold hadB at hh
      rw [hh] at h4
      cases h4
    · exact h1
  exact ⟨h0, by omega⟩
def marks (ds : List Nat) : List Deferred := ds.map (fun D => { target := .collected D, args := #[] })
/-- The marks of a function on its way out are taken one by one; no cell is written. -/
theorem leave_marks {P : Program} {fn : Func} {tmps : Array Value} {R : Ending → World → Prop} {w0 : World} : ∀ (ds : List Nat) (W : World), ds.Nodup → (∀ D, D ∈ ds → w0.heap.size ≤ D ∧ W.heap[D]? = some (.deferred (some []))) → Below w0.heap.size w0 W →
    (∀ W', Below w0.heap.size w0 W' → LeavesInM Fence.wide 0 P fn tmps R [] .returning W') → LeavesInM Fence.wide 0 P fn tmps R (marks ds) .returning W
  | [], W, _, _, hb, h => h W hb
  | D :: ds, W, hn, hd, hb, h => by
    have hD := hd D List.mem_cons_self
    refine ⟨by simp, .inl ⟨_, _, rfl, run_takeDeferred hD.2, ?_⟩⟩
    refine leave_marks ds _ (List.nodup_cons.1 hn).2 (fun D' h' => ⟨(hd D' (List.mem_cons_of_mem _ h')).1, ?_⟩) (below_turn hb (grownBy_putObj' _ _ _) hb.size (fun r e => by cases e; exact hD.1)) h
    exact (World.putObj_heap_other (fun e => (List.nodup_cons.1 hn).1 (by rw [← e]; exact h'))).trans (hd D' (List.mem_cons_of_mem _ h')).2
theorem srcF_fuel {l : List S35} (hv : vTree l = true) : ∀ (n k i : Nat), k ≤ n → k < l.length → srcF n l k i = srcF k l k i
  | 0, k, i, h, _ => by obtain rfl : k = 0 := by omega
                        rfl
  | n + 1, k, i, h, hk => by
    rcases Nat.eq_zero_or_pos k with h0 | h0
    · subst h0
      conv => lhs; unfold srcF
      rw [if_neg (by omega)]
      rfl
    · obtain ⟨m, rfl⟩ : ∃ m, k = m + 1 := ⟨k - 1, by omega⟩
      conv => lhs; unfold srcF
      conv => rhs; unfold srcF
      split
      · obtain ⟨u, hu, hu1, _⟩ := vTw_up (vTree_at hv hk) h0
        rw [hu, Int.toNat_natCast]
        rw [srcF_fuel hv n u _ (by omega) (by omega), srcF_fuel hv m u _ (by omega) (by omega)]
      · rfl
theorem srcF_step {l : List S35} (hv : vTree l = true) {k i u : Nat} (hk : k < l.length) (h0 : 0 < k) (hp : (rd_T35 l k).f2.f1 = false) (hh : hadAt l k i = true) (hu : (rd_T35 l k).f0 = u) (huk : u < k) :
    srcF k l k i = srcF u l u (((inh (rd_T35 l k).f1 0 (rd_T35 l (u : Int)).f2.f2).map (·.1)).getD (i - ((rd_T35 l k).f2.f2.filter ownB).length) 0) := by
  obtain ⟨m, rfl⟩ : ∃ m, k = m + 1 := ⟨k - 1, by omega⟩
  conv => lhs; unfold srcF
  rw [if_pos ⟨h0, hp, hh⟩, hu, Int.toNat_natCast]
  exact srcF_fuel hv m u _ (by omega) (by omega)
theorem prefix_at {α : Type} {pre full : List α} {x : α} (h : (pre ++ [x]) <+: full) : pre.length < full.length ∧ full[pre.length]? = some x := by
  obtain ⟨t, rfl⟩ := h
  simp
theorem lit101 (T : Array Value) (v0 v1 v5 : Value) (hs : T.size = 101) (h0 : T[0]? = some v0) (h1 : T[1]? = some v1) (h5 : T[5]? = some v5) : ∃ u : Nat → Value, T = #[v0, v1, u 2, u 3, u 4, v5, u 6, u 7, u 8, u 9, u 10, u 11, u 12, u 13, u 14, u 15, u 16, u 17, u 18, u 19, u 20, u 21, u 22, u 23, u 24, u 25, u 26, u 27, u 28, u 29, u 30, u 31, u 32, u 33, u 34, u 35, u 36, u 37, u 38, u 39, u 40, u 41, u 42, u 43, u 44, u 45, u 46, u 47, u 48, u 49, u 50, u 51, u 52, u 53, u 54, u 55, u 56, u 57, u 58, u 59, u 60, u 61, u 62, u 63, u 64, u 65, u 66, u 67, u 68, u 69, u 70, u 71, u 72, u 73, u 74, u 75, u 76, u 77, u 78, u 79, u 80, u 81, u 82, u 83, u 84, u 85, u 86, u 87, u 88, u 89, u 90, u 91, u 92, u 93, u 94, u 95, u 96, u 97, u 98, u 99, u 100] := by
  let u : Nat → Value := fun j => T.getD j undef
  refine ⟨u, ?_⟩
  have e1 : T = ((List.range 101).map (fun j => if j = 0 then v0 else if j = 1 then v1 else if j = 5 then v5 else u j)).toArray := by
    apply Array.ext
    · simp [hs]
    · intro i hi hi'
      simp only [List.getElem_toArray, List.getElem_map, List.getElem_range]
      have hT : T[i]? = some T[i] := Array.getElem?_eq_getElem hi
      split
      · rename_i e; subst e; rw [h0] at hT; exact (Option.some.inj hT).symm
      · split
        · rename_i e; subst e; rw [h1] at hT; exact (Option.some.inj hT).symm
        · split
          · rename_i e; subst e; rw [h5] at hT; exact (Option.some.inj hT).symm
          · show T[i] = T.getD i undef
            rw [Array.getD_eq_getD_getElem?, hT]
            rfl
  rw [e1]
  rfl
/-- What holds between the rounds. -/
def SrcI (w : World) (ad : Addr) (c : Nat) (l : List S35) (K I : Nat) (n : Nat) (a : Act) (W : World) : Prop :=
  ∃ (k i : Nat) (ds : List Nat), a.tmps.size = 101 ∧ a.tmps[0]? = some (.slice (some ad) l.length c) ∧ a.tmps[1]? = some (.int .i64 (k : Int)) ∧ a.tmps[5]? = some (.pointer (some ⟨w.heap.size, 0, none⟩)) ∧ a.defers = marks ds ∧
    k = n ∧ Aside0 (k < l.length) ∧ Aside0 (i < (rd_T35 l k).f2.f2.length) ∧ Aside0 (srcF K l K I = srcF k l k i) ∧ Aside0 (Below w.heap.size w W) ∧ Aside0 (W.heap[w.heap.size]? = some (.cells #[.int .i64 (i : Int)] 3 (0, 0))) ∧ Aside0 (ds.Nodup ∧ ∀ D, D ∈ ds → w.heap.size ≤ D ∧ W.heap[D]? = some (.deferred (some [])))

set_option maxRecDepth 100000 in
set_option maxHeartbeats 2000000 in
theorem Source_in (A : Option Addr) (c : Nat) (l : List S35) (kk I : Nat) (w : World) (hr : Kd.C k35 w A l.length l) (hv : vTree l = true) (hf : firstBad l < 0) (hk : kk < l.length) (hi : I < (rd_T35 l kk).f2.f2.length) :
    Calls Try.prog 16 #[.slice A l.length c, .int .i64 kk, .int .i64 I] w (SourcePost (sSource l kk I) w) := by
  have HR := Aside0.mk hr
  have HS := Aside0.mk (show sSource l kk I = ((((srcF kk l kk I).1 : Nat) : Int), (((srcF kk l kk I).2 : Nat) : Int), 0) by unfold sSource; rw [if_pos ⟨hv, hf⟩, if_pos (by unfold inTree; omega)]; simp)
  have HSA := Aside0.mk (show sAgrees l = (firstBad l, 0) by unfold sAgrees; rw [if_pos hv])
  have h1 : decide (0 ≤ firstBad l) = false := by simpa using hf
  have hlen := (vTree_pos hv).2.1
  have HV := Aside0.mk hv
  have HAG := Aside0.mk (firstBad_neg hf)
  clear hr hv hf
  refine calls_of_marks Try.func16 rfl ?_
  simp only [Try.ntmps16, List.size_toArray, List.length_cons, List.length_nil, Nat.reduceAdd, Nat.reduceSub, Array.replicate_succ, Array.replicate_zero, List.push_toArray, List.append_toArray, List.nil_append, List.cons_append]
  go_upto_region 4 with ((with_reducible refine gate_dst (N := 15) rfl ?_); refine goesL_ (some 15) rfl rfl Try.func30 (by kernel_rfl) rfl #[.slice A l.length c] rfl (by (try simp only [List.map_toArray, List.map_cons, List.map_nil]); first | done | rfl) ?_; refine (Agrees_calls A c l _ (Kd.C_alloc HR.out _)).mono ?_; rintro e w1 ⟨rfl, hb⟩; refine ⟨_, rfl, ?_⟩; rw [HSA.out]; have HB1 := Aside0.mk (below_step (below_alloc (Below.refl _ w) _) hb); have V0 := Aside0.mk (blk_below (blk_new w (.cells #[.int .i64 (I : Int)] 3)) hb); clear hb)
  have k1 : decide ((kk : Int) < 0) = false := by simp
  have k2 : decide (l.length ≤ kk) = false := by simp; omega
  have k2' : kk < l.length := by omega
  have k3 : decide ((I : Int) < 0) = false := by simp
  have k4 : decide ((rd_T35 l (kk : Int)).f2.f2.length ≤ I) = false := by simp; omega
  obtain ⟨ad, A5, c5, rfl, x0, x1, x2, x3, x4, hl5, hr5⟩ := at_T35 (Kd.C_drew (Kd.C_below HR.out HB1.out)) (kk : Int) (by omega) (by omega)
  simp only [Int.toNat_natCast] at x4
  clear x0 x1 x2 x3 hl5 hr5
  refine wp_calm ?_
  refine start_ (n := 23) (S := fun w' => w'.cell? ⟨w.heap.size, 0, none⟩ = some (.int .i64 (I : Int)) ∧ w'.cell? ⟨(ad.add (kk * 5)).block, (ad.add (kk * 5)).off + 4, none⟩ = some (.slice A5 (rd_T35 l (kk : Int)).f2.f2.length c5)) (ds := []) #[false, false, false, false, false, false, false, false, false, false, false, false, false, false, false, false, false, false, false, false, false, false, false] (by kernel_rfl) rfl rfl ⟨(blk_cell (blk_drew V0.out) 0).trans rfl, x4⟩ (fun hHeld => ?_)
  refine pure_ (i := 0) (N := some 24) (v := ?_) (a' := ?_) #[true, false, false, false, false, false, false, false, false, false, false, false, false, false, false, false, false, false, false, false, false, false, false] rfl rfl (by kernel_rfl) (fun _ _ _ h => h) (Or.inl ⟨by rfl, ?_⟩) ?_ ?_
  rotate_left
  · intro w'
    go_simp
    with_reducible rfl
  rotate_left
  · simp only [Act.put, List.setIfInBounds_toArray, List.set_cons_zero, List.set_cons_succ, i64_w, i32_w]
    rfl
  refine pure_ (i := 1) (N := some 25) (v := ?_) (a' := ?_) #[true, true, false, false, false, false, false, false, false, false, false, false, false, false, false, false, false, false, false, false, false, false, false] rfl rfl (by kernel_rfl) (fun _ _ _ h => h) (Or.inl ⟨by rfl, ?_⟩) ?_ ?_
  rotate_left
  · intro w'
    go_simp
    with_reducible rfl
  rotate_left
  · simp only [Act.put, List.setIfInBounds_toArray, List.set_cons_zero, List.set_cons_succ, i64_w, i32_w]
    rfl
  refine pure_ (i := 2) (N := some 26) (v := ?_) (a' := ?_) #[true, true, true, false, false, false, false, false, false, false, false, false, false, false, false, false, false, false, false, false, false, false, false] rfl rfl (by kernel_rfl) (fun _ _ _ h => h) (Or.inl ⟨by rfl, ?_⟩) ?_ ?_
  rotate_left
  · intro w'
    go_simp
    with_reducible rfl
  rotate_left
  · simp only [Act.put, List.setIfInBounds_toArray, List.set_cons_zero, List.set_cons_succ, i64_w, i32_w]
    rfl
  refine pure_ (i := 3) (N := some 27) (v := ?_) (a' := ?_) #[true, true, true, true, false, false, false, false, false, false, false, false, false, false, false, false, false, false, false, false, false, false, false] rfl rfl (by kernel_rfl) (fun _ _ _ h => h) (Or.inl ⟨by rfl, ?_⟩) ?_ ?_
  rotate_left
  · intro w'
    go_simp
    with_reducible rfl
  rotate_left
  · simp only [Act.put, List.setIfInBounds_toArray, List.set_cons_zero, List.set_cons_succ, i64_w, i32_w]
    rfl
  refine pure_ (i := 4) (N := some 28) (v := ?_) (a' := ?_) #[true, true, true, true, true, false, false, false, false, false, false, false, false, false, false, false, false, false, false, false, false, false, false] rfl rfl (by kernel_rfl) (fun _ _ _ h => h) (Or.inl ⟨by rfl, ?_⟩) ?_ ?_
  rotate_left
  · intro w'
    go_simp
    with_reducible rfl
  rotate_left
  · simp only [Act.put, List.setIfInBounds_toArray, List.set_cons_zero, List.set_cons_succ, i64_w, i32_w]
    rfl
  refine pure_ (i := 5) (N := some 29) (v := ?_) (a' := ?_) #[true, true, true, true, true, true, false, false, false, false, false, false, false, false, false, false, false, false, false, false, false, false, false] rfl rfl (by kernel_rfl) (fun _ _ _ h => h) (Or.inl ⟨by rfl, ?_⟩) ?_ ?_
  rotate_left
  · intro w'
    go_simp
    with_reducible rfl
  rotate_left
  · simp only [Act.put, List.setIfInBounds_toArray, List.set_cons_zero, List.set_cons_succ, i64_w, i32_w]
    rfl
  refine pure_ (i := 6) (N := some 30) (v := ?_) (a' := ?_) #[true, true, true, true, true, true, true, false, false, false, false, false, false, false, false, false, false, false, false, false, false, false, false] rfl rfl (by kernel_rfl) (fun _ _ _ h => h) (Or.inl ⟨by rfl, ?_⟩) ?_ ?_
  rotate_left
  · intro w'
    go_simp
    with_reducible rfl
  rotate_left
  · simp only [Act.put, List.setIfInBounds_toArray, List.set_cons_zero, List.set_cons_succ, i64_w, i32_w]
    rfl
  refine pure_ (i := 7) (N := some 31) (v := ?_) (a' := ?_) #[true, true, true, true, true, true, true, true, false, false, false, false, false, false, false, false, false, false, false, false, false, false, false] rfl rfl (by kernel_rfl) (fun _ _ _ h => h) (Or.inl ⟨by rfl, ?_⟩) ?_ ?_
  rotate_left
  · intro w'
    go_simp
    with_reducible rfl
  rotate_left
  · simp only [Act.put, List.setIfInBounds_toArray, List.set_cons_zero, List.set_cons_succ, i64_w, i32_w]
    rfl
  refine pure_ (i := 8) (N := some 32) (v := ?_) (a' := ?_) #[true, true, true, true, true, true, true, true, true, false, false, false, false, false, false, false, false, false, false, false, false, false, false] rfl rfl (by kernel_rfl) (fun _ _ _ h => h) (Or.inl ⟨by rfl, ?_⟩) ?_ ?_
  rotate_left
  · intro w'
    go_simp
    with_reducible rfl
  rotate_left
  · simp only [Act.put, List.setIfInBounds_toArray, List.set_cons_zero, List.set_cons_succ, i64_w, i32_w]
    rfl
  refine take_ (i := 9) (N := some 33) (v := ?_) (a' := ?_) #[true, true, true, true, true, true, true, true, true, true, false, false, false, false, false, false, false, false, false, false, false, false, false] rfl rfl (by kernel_rfl) (fun _ _ _ h => h) (Or.inl ⟨by rfl, ?_⟩) hHeld ?_ ?_
  rotate_left
  · rintro w' ⟨s0, s1⟩
    go_simp
    with_reducible rfl
  rotate_left
  · simp only [Act.put, List.setIfInBounds_toArray, List.set_cons_zero, List.set_cons_succ, i64_w, i32_w]
    rfl
  refine pure_ (i := 10) (N := some 34) (v := ?_) (a' := ?_) #[true, true, true, true, true, true, true, true, true, true, true, false, false, false, false, false, false, false, false, false, false, false, false] rfl rfl (by kernel_rfl) (fun _ _ _ h => h) (Or.inl ⟨by rfl, ?_⟩) ?_ ?_
  rotate_left
  · intro w'
    go_simp
    with_reducible rfl
  rotate_left
  · simp only [Act.put, List.setIfInBounds_toArray, List.set_cons_zero, List.set_cons_succ, i64_w, i32_w]
    rfl
  refine pure_ (i := 11) (N := some 35) (v := ?_) (a' := ?_) #[true, true, true, true, true, true, true, true, true, true, true, true, false, false, false, false, false, false, false, false, false, false, false] rfl rfl (by kernel_rfl) (fun _ _ _ h => h) (Or.inl ⟨by rfl, ?_⟩) ?_ ?_
  rotate_left
  · intro w'
    go_simp
    with_reducible rfl
  rotate_left
  · simp only [Act.put, List.setIfInBounds_toArray, List.set_cons_zero, List.set_cons_succ, i64_w, i32_w]
    rfl
  refine pure_ (i := 12) (N := some 36) (v := ?_) (a' := ?_) #[true, true, true, true, true, true, true, true, true, true, true, true, true, false, false, false, false, false, false, false, false, false, false] rfl rfl (by kernel_rfl) (fun _ _ _ h => h) (Or.inl ⟨by rfl, ?_⟩) ?_ ?_
  rotate_left
  · intro w'
    go_simp
    with_reducible rfl
  rotate_left
  · simp only [Act.put, List.setIfInBounds_toArray, List.set_cons_zero, List.set_cons_succ, i64_w, i32_w]
    rfl
  refine take_ (i := 13) (N := some 37) (v := ?_) (a' := ?_) #[true, true, true, true, true, true, true, true, true, true, true, true, true, true, false, false, false, false, false, false, false, false, false] rfl rfl (by kernel_rfl) (fun _ _ _ h => h) (Or.inl ⟨by rfl, ?_⟩) hHeld ?_ ?_
  rotate_left
  · rintro w' ⟨s0, s1⟩
    go_simp
    with_reducible rfl
  rotate_left
  · simp only [Act.put, List.setIfInBounds_toArray, List.set_cons_zero, List.set_cons_succ, i64_w, i32_w]
    rfl
  refine pure_ (i := 14) (N := some 38) (v := ?_) (a' := ?_) #[true, true, true, true, true, true, true, true, true, true, true, true, true, true, true, false, false, false, false, false, false, false, false] rfl rfl (by kernel_rfl) (fun _ _ _ h => h) (Or.inl ⟨by rfl, ?_⟩) ?_ ?_
  rotate_left
  · intro w'
    go_simp
    with_reducible rfl
  rotate_left
  · simp only [Act.put, List.setIfInBounds_toArray, List.set_cons_zero, List.set_cons_succ, i64_w, i32_w]
    rfl
  refine pure_ (i := 15) (N := some 39) (v := ?_) (a' := ?_) #[true, true, true, true, true, true, true, true, true, true, true, true, true, true, true, true, false, false, false, false, false, false, false] rfl rfl (by kernel_rfl) (fun _ _ _ h => h) (Or.inl ⟨by rfl, ?_⟩) ?_ ?_
  rotate_left
  · intro w'
    go_simp
    with_reducible rfl
  rotate_left
  · simp only [Act.put, List.setIfInBounds_toArray, List.set_cons_zero, List.set_cons_succ, i64_w, i32_w]
    rfl
  refine pure_ (i := 16) (N := some 40) (v := ?_) (a' := ?_) #[true, true, true, true, true, true, true, true, true, true, true, true, true, true, true, true, true, false, false, false, false, false, false] rfl rfl (by kernel_rfl) (fun _ _ _ h => h) (Or.inl ⟨by rfl, ?_⟩) ?_ ?_
  rotate_left
  · intro w'
    go_simp
    with_reducible rfl
  rotate_left
  · simp only [Act.put, List.setIfInBounds_toArray, List.set_cons_zero, List.set_cons_succ, i64_w, i32_w]
    rfl
  refine pure_ (i := 17) (N := some 41) (v := ?_) (a' := ?_) #[true, true, true, true, true, true, true, true, true, true, true, true, true, true, true, true, true, true, false, false, false, false, false] rfl rfl (by kernel_rfl) (fun _ _ _ h => h) (Or.inl ⟨by rfl, ?_⟩) ?_ ?_
  rotate_left
  · intro w'
    go_simp
    with_reducible rfl
  rotate_left
  · simp only [Act.put, List.setIfInBounds_toArray, List.set_cons_zero, List.set_cons_succ, i64_w, i32_w]
    rfl
  refine pure_ (i := 18) (N := some 42) (v := ?_) (a' := ?_) #[true, true, true, true, true, true, true, true, true, true, true, true, true, true, true, true, true, true, true, false, false, false, false] rfl rfl (by kernel_rfl) (fun _ _ _ h => h) (Or.inl ⟨by rfl, ?_⟩) ?_ ?_
  rotate_left
  · intro w'
    go_simp
    with_reducible rfl
  rotate_left
  · simp only [Act.put, List.setIfInBounds_toArray, List.set_cons_zero, List.set_cons_succ, i64_w, i32_w]
    rfl
  refine take_ (i := 19) (N := some 43) (v := ?_) (a' := ?_) #[true, true, true, true, true, true, true, true, true, true, true, true, true, true, true, true, true, true, true, true, false, false, false] rfl rfl (by kernel_rfl) (fun _ _ _ h => h) (Or.inl ⟨by rfl, ?_⟩) hHeld ?_ ?_
  rotate_left
  · rintro w' ⟨s0, s1⟩
    go_simp
    with_reducible rfl
  rotate_left
  · simp only [Act.put, List.setIfInBounds_toArray, List.set_cons_zero, List.set_cons_succ, i64_w, i32_w]
    rfl
  refine pure_ (i := 20) (N := some 44) (v := ?_) (a' := ?_) #[true, true, true, true, true, true, true, true, true, true, true, true, true, true, true, true, true, true, true, true, true, false, false] rfl rfl (by kernel_rfl) (fun _ _ _ h => h) (Or.inl ⟨by rfl, ?_⟩) ?_ ?_
  rotate_left
  · intro w'
    go_simp
    with_reducible rfl
  rotate_left
  · simp only [Act.put, List.setIfInBounds_toArray, List.set_cons_zero, List.set_cons_succ, i64_w, i32_w]
    rfl
  refine pure_ (i := 21) (N := some 45) (v := ?_) (a' := ?_) #[true, true, true, true, true, true, true, true, true, true, true, true, true, true, true, true, true, true, true, true, true, true, false] rfl rfl (by kernel_rfl) (fun _ _ _ h => h) (Or.inl ⟨by rfl, ?_⟩) ?_ ?_
  rotate_left
  · intro w'
    go_simp
    with_reducible rfl
  rotate_left
  · simp only [Act.put, List.setIfInBounds_toArray, List.set_cons_zero, List.set_cons_succ, i64_w, i32_w]
    rfl
  refine pure_ (i := 22) (N := some 46) (v := ?_) (a' := ?_) #[true, true, true, true, true, true, true, true, true, true, true, true, true, true, true, true, true, true, true, true, true, true, true] rfl rfl (by kernel_rfl) (fun _ _ _ h => h) (Or.inl ⟨by rfl, ?_⟩) ?_ ?_
  rotate_left
  · intro w'
    go_simp
    with_reducible rfl
  rotate_left
  · simp only [Act.put, List.setIfInBounds_toArray, List.set_cons_zero, List.set_cons_succ, i64_w, i32_w]
    rfl
  refine done_ (by kernel_rfl) ?_
  refine calm_normal ?_
  have HBD := Aside0.mk (below_drew1 HB1.out)
  have VD := Aside0.mk (blk_drew V0.out)
  generalize w1.drew = wd at HBD VD hHeld ⊢
  clear hHeld HB1 V0 x4 k1 k2 k3 k4
  go_wp2
  refine wp_loop_ghost_k (SrcI w ad c l kk I) kk ⟨kk, I, [], rfl, rfl, rfl, rfl, rfl, rfl, ⟨hk⟩, ⟨hi⟩, ⟨rfl⟩, HBD, VD, ⟨List.nodup_nil, fun D h => by cases h⟩⟩ ?_
  rintro n ⟨T, dd⟩ W hI J K hJ hK
  obtain ⟨k, i, ds, hs, ht0, ht1, ht5, hdd, rfl, HKL, HIL, HSP, HB, HX, HD⟩ := hI
  dsimp only at hs ht0 ht1 ht5 hdd
  obtain ⟨u, hu⟩ := lit101 T _ _ _ hs ht0 ht1 ht5
  subst hu
  subst hdd
  clear hs ht0 ht1 ht5
  clear HBD VD wd w1 k2'
  obtain ⟨ad', A5, c5, hA, _, _, _, x3, x4, hl5, hr5⟩ := at_T35 (Kd.C_drew (Kd.C_below HR.out HB.out)) (k : Int) (by omega) (by have := HKL.out; omega)
  cases hA
  simp only [Int.toNat_natCast] at x3 x4
  obtain ⟨ae, rfl, e0, e1, e2, e3⟩ := at_T37 hr5 (i : Int) (by omega) (by have := HIL.out; omega)
  simp only [Int.toNat_natCast] at e0 e1 e2 e3
  have X3 := Aside0.mk x3
  have X4 := Aside0.mk x4
  have E0 := Aside0.mk e0
  have E1 := Aside0.mk e1
  have E2 := Aside0.mk e2
  have E3 := Aside0.mk e3
  have kk1 : k < l.length := HKL.out
  have kk2 : i < (rd_T35 l (k : Int)).f2.f2.length := HIL.out
  clear x3 x4 e0 e1 e2 e3 hl5 hr5
  go_upto_region 6 with (fail)
  rcases Nat.eq_zero_or_pos k with h0 | h0
  · have k1 : decide (0 < k) = false := by simp; omega
    have HZ := Aside0.mk h0
    clear h0
    refine wp_calm ?_
    refine start_ (n := 23) (S := fun w' => w'.cell? ⟨w.heap.size, 0, none⟩ = some (.int .i64 (i : Int)) ∧ w'.cell? ⟨(ad.add (k * 5)).block, (ad.add (k * 5)).off + 3, none⟩ = some (.bool (rd_T35 l (k : Int)).f2.f1) ∧ w'.cell? ⟨(ad.add (k * 5)).block, (ad.add (k * 5)).off + 4, none⟩ = some (.slice (some ae) (rd_T35 l (k : Int)).f2.f2.length c5) ∧ w'.cell? (ae.add (i * 4)) = some (.bool (rd_T37 (rd_T35 l (k : Int)).f2.f2 (i : Int)).f0) ∧ w'.cell? ⟨(ae.add (i * 4)).block, (ae.add (i * 4)).off + 1, none⟩ = some (.int .i64 (rd_T37 (rd_T35 l (k : Int)).f2.f2 (i : Int)).f1) ∧ w'.cell? ⟨(ae.add (i * 4)).block, (ae.add (i * 4)).off + 2, none⟩ = some (.int .i64 (rd_T37 (rd_T35 l (k : Int)).f2.f2 (i : Int)).f2) ∧ w'.cell? ⟨(ae.add (i * 4)).block, (ae.add (i * 4)).off + 3, none⟩ = some (.int .i64 (rd_T37 (rd_T35 l (k : Int)).f2.f2 (i : Int)).f3)) (ds := []) #[false, false, false, false, false, false, false, false, false, false, false, false, false, false, false, false, false, false, false, false, false, false, false] (by kernel_rfl) rfl rfl ⟨(blk_cell (blk_drew HX.out) 0).trans rfl, X3.out, X4.out, E0.out, E1.out, E2.out, E3.out⟩ (fun hHeld => ?_)
    have HBD := Aside0.mk (below_drew1 HB.out)
    have HXD := Aside0.mk (blk_drew HX.out)
    have HDD := Aside0.mk (show ∀ D, D ∈ ds → w.heap.size ≤ D ∧ W.drew.heap[D]? = some (.deferred (some [])) from HD.out.2)
    generalize W.drew = wd at HBD HXD HDD hHeld ⊢
    refine pure_ (i := 0) (N := some 47) (v := ?_) (a' := ?_) #[true, false, false, false, false, false, false, false, false, false, false, false, false, false, false, false, false, false, false, false, false, false, false] rfl rfl (by kernel_rfl) (fun _ _ _ h => h) (Or.inl ⟨by rfl, ?_⟩) ?_ ?_
    rotate_left
    · intro w'
      go_simp
      with_reducible rfl
    rotate_left
    · simp only [Act.put, List.setIfInBounds_toArray, List.set_cons_zero, List.set_cons_succ, i64_w, i32_w]
      rfl
    refine pure_ (i := 1) (N := some 48) (v := ?_) (a' := ?_) #[true, true, false, false, false, false, false, false, false, false, false, false, false, false, false, false, false, false, false, false, false, false, false] rfl rfl (by kernel_rfl) (fun _ _ _ h => h) (Or.inl ⟨by rfl, ?_⟩) ?_ ?_
    rotate_left
    · intro w'
      go_simp
      with_reducible rfl
    rotate_left
    · simp only [Act.put, List.setIfInBounds_toArray, List.set_cons_zero, List.set_cons_succ, i64_w, i32_w]
      rfl
    refine pure_ (i := 2) (N := some 49) (v := ?_) (a' := ?_) #[true, true, true, false, false, false, false, false, false, false, false, false, false, false, false, false, false, false, false, false, false, false, false] rfl rfl (by kernel_rfl) (fun _ _ _ h => h) (Or.inl ⟨by rfl, ?_⟩) ?_ ?_
    rotate_left
    · intro w'
      go_simp
      with_reducible rfl
    rotate_left
    · simp only [Act.put, List.setIfInBounds_toArray, List.set_cons_zero, List.set_cons_succ, i64_w, i32_w]
      rfl
    refine pure_ (i := 3) (N := some 50) (v := undef) (a' := ?_) #[true, true, true, true, false, false, false, false, false, false, false, false, false, false, false, false, false, false, false, false, false, false, false] rfl rfl (by kernel_rfl) (fun _ _ _ h => h) (Or.inr ⟨by rfl, rfl⟩) ?_ ?_
    rotate_left
    · simp only [Act.put, List.setIfInBounds_toArray, List.set_cons_zero, List.set_cons_succ, i64_w, i32_w]
      rfl
    refine pure_ (i := 4) (N := some 51) (v := undef) (a' := ?_) #[true, true, true, true, true, false, false, false, false, false, false, false, false, false, false, false, false, false, false, false, false, false, false] rfl rfl (by kernel_rfl) (fun _ _ _ h => h) (Or.inr ⟨by rfl, rfl⟩) ?_ ?_
    rotate_left
    · simp only [Act.put, List.setIfInBounds_toArray, List.set_cons_zero, List.set_cons_succ, i64_w, i32_w]
      rfl
    refine pure_ (i := 5) (N := some 52) (v := undef) (a' := ?_) #[true, true, true, true, true, true, false, false, false, false, false, false, false, false, false, false, false, false, false, false, false, false, false] rfl rfl (by kernel_rfl) (fun _ _ _ h => h) (Or.inr ⟨by rfl, rfl⟩) ?_ ?_
    rotate_left
    · simp only [Act.put, List.setIfInBounds_toArray, List.set_cons_zero, List.set_cons_succ, i64_w, i32_w]
      rfl
    refine pure_ (i := 6) (N := some 53) (v := undef) (a' := ?_) #[true, true, true, true, true, true, true, false, false, false, false, false, false, false, false, false, false, false, false, false, false, false, false] rfl rfl (by kernel_rfl) (fun _ _ _ h => h) (Or.inr ⟨by rfl, rfl⟩) ?_ ?_
    rotate_left
    · simp only [Act.put, List.setIfInBounds_toArray, List.set_cons_zero, List.set_cons_succ, i64_w, i32_w]
      rfl
    refine pure_ (i := 7) (N := some 54) (v := undef) (a' := ?_) #[true, true, true, true, true, true, true, true, false, false, false, false, false, false, false, false, false, false, false, false, false, false, false] rfl rfl (by kernel_rfl) (fun _ _ _ h => h) (Or.inr ⟨by rfl, rfl⟩) ?_ ?_
    rotate_left
    · simp only [Act.put, List.setIfInBounds_toArray, List.set_cons_zero, List.set_cons_succ, i64_w, i32_w]
      rfl
    refine pure_ (i := 8) (N := some 55) (v := undef) (a' := ?_) #[true, true, true, true, true, true, true, true, true, false, false, false, false, false, false, false, false, false, false, false, false, false, false] rfl rfl (by kernel_rfl) (fun _ _ _ h => h) (Or.inr ⟨by rfl, rfl⟩) ?_ ?_
    rotate_left
    · simp only [Act.put, List.setIfInBounds_toArray, List.set_cons_zero, List.set_cons_succ, i64_w, i32_w]
      rfl
    refine pure_ (i := 9) (N := some 56) (v := undef) (a' := ?_) #[true, true, true, true, true, true, true, true, true, true, false, false, false, false, false, false, false, false, false, false, false, false, false] rfl rfl (by kernel_rfl) (fun _ _ _ h => h) (Or.inr ⟨by rfl, rfl⟩) ?_ ?_
    rotate_left
    · simp only [Act.put, List.setIfInBounds_toArray, List.set_cons_zero, List.set_cons_succ, i64_w, i32_w]
      rfl
    refine pure_ (i := 10) (N := some 57) (v := ?_) (a' := ?_) #[true, true, true, true, true, true, true, true, true, true, true, false, false, false, false, false, false, false, false, false, false, false, false] rfl rfl (by kernel_rfl) (fun _ _ _ h => h) (Or.inl ⟨by rfl, ?_⟩) ?_ ?_
    rotate_left
    · intro w'
      go_simp
      with_reducible rfl
    rotate_left
    · simp only [Act.put, List.setIfInBounds_toArray, List.set_cons_zero, List.set_cons_succ, i64_w, i32_w]
      rfl
    refine pure_ (i := 11) (N := some 58) (v := ?_) (a' := ?_) #[true, true, true, true, true, true, true, true, true, true, true, true, false, false, false, false, false, false, false, false, false, false, false] rfl rfl (by kernel_rfl) (fun _ _ _ h => h) (Or.inl ⟨by rfl, ?_⟩) ?_ ?_
    rotate_left
    · intro w'
      go_simp
      with_reducible rfl
    rotate_left
    · simp only [Act.put, List.setIfInBounds_toArray, List.set_cons_zero, List.set_cons_succ, i64_w, i32_w]
      rfl
    refine pure_ (i := 12) (N := some 59) (v := undef) (a' := ?_) #[true, true, true, true, true, true, true, true, true, true, true, true, true, false, false, false, false, false, false, false, false, false, false] rfl rfl (by kernel_rfl) (fun _ _ _ h => h) (Or.inr ⟨by rfl, rfl⟩) ?_ ?_
    rotate_left
    · simp only [Act.put, List.setIfInBounds_toArray, List.set_cons_zero, List.set_cons_succ, i64_w, i32_w]
      rfl
    refine pure_ (i := 13) (N := some 60) (v := undef) (a' := ?_) #[true, true, true, true, true, true, true, true, true, true, true, true, true, true, false, false, false, false, false, false, false, false, false] rfl rfl (by kernel_rfl) (fun _ _ _ h => h) (Or.inr ⟨by rfl, rfl⟩) ?_ ?_
    rotate_left
    · simp only [Act.put, List.setIfInBounds_toArray, List.set_cons_zero, List.set_cons_succ, i64_w, i32_w]
      rfl
    refine pure_ (i := 14) (N := some 61) (v := undef) (a' := ?_) #[true, true, true, true, true, true, true, true, true, true, true, true, true, true, true, false, false, false, false, false, false, false, false] rfl rfl (by kernel_rfl) (fun _ _ _ h => h) (Or.inr ⟨by rfl, rfl⟩) ?_ ?_
    rotate_left
    · simp only [Act.put, List.setIfInBounds_toArray, List.set_cons_zero, List.set_cons_succ, i64_w, i32_w]
      rfl
    refine pure_ (i := 15) (N := some 62) (v := undef) (a' := ?_) #[true, true, true, true, true, true, true, true, true, true, true, true, true, true, true, true, false, false, false, false, false, false, false] rfl rfl (by kernel_rfl) (fun _ _ _ h => h) (Or.inr ⟨by rfl, rfl⟩) ?_ ?_
    rotate_left
    · simp only [Act.put, List.setIfInBounds_toArray, List.set_cons_zero, List.set_cons_succ, i64_w, i32_w]
      rfl
    refine pure_ (i := 16) (N := some 63) (v := undef) (a' := ?_) #[true, true, true, true, true, true, true, true, true, true, true, true, true, true, true, true, true, false, false, false, false, false, false] rfl rfl (by kernel_rfl) (fun _ _ _ h => h) (Or.inr ⟨by rfl, rfl⟩) ?_ ?_
    rotate_left
    · simp only [Act.put, List.setIfInBounds_toArray, List.set_cons_zero, List.set_cons_succ, i64_w, i32_w]
      rfl
    refine pure_ (i := 17) (N := some 64) (v := undef) (a' := ?_) #[true, true, true, true, true, true, true, true, true, true, true, true, true, true, true, true, true, true, false, false, false, false, false] rfl rfl (by kernel_rfl) (fun _ _ _ h => h) (Or.inr ⟨by rfl, rfl⟩) ?_ ?_
    rotate_left
    · simp only [Act.put, List.setIfInBounds_toArray, List.set_cons_zero, List.set_cons_succ, i64_w, i32_w]
      rfl
    refine pure_ (i := 18) (N := some 65) (v := undef) (a' := ?_) #[true, true, true, true, true, true, true, true, true, true, true, true, true, true, true, true, true, true, true, false, false, false, false] rfl rfl (by kernel_rfl) (fun _ _ _ h => h) (Or.inr ⟨by rfl, rfl⟩) ?_ ?_
    rotate_left
    · simp only [Act.put, List.setIfInBounds_toArray, List.set_cons_zero, List.set_cons_succ, i64_w, i32_w]
      rfl
    refine pure_ (i := 19) (N := some 66) (v := undef) (a' := ?_) #[true, true, true, true, true, true, true, true, true, true, true, true, true, true, true, true, true, true, true, true, false, false, false] rfl rfl (by kernel_rfl) (fun _ _ _ h => h) (Or.inr ⟨by rfl, rfl⟩) ?_ ?_
    rotate_left
    · simp only [Act.put, List.setIfInBounds_toArray, List.set_cons_zero, List.set_cons_succ, i64_w, i32_w]
      rfl
    refine pure_ (i := 20) (N := some 67) (v := undef) (a' := ?_) #[true, true, true, true, true, true, true, true, true, true, true, true, true, true, true, true, true, true, true, true, true, false, false] rfl rfl (by kernel_rfl) (fun _ _ _ h => h) (Or.inr ⟨by rfl, rfl⟩) ?_ ?_
    rotate_left
    · simp only [Act.put, List.setIfInBounds_toArray, List.set_cons_zero, List.set_cons_succ, i64_w, i32_w]
      rfl
    refine pure_ (i := 21) (N := some 68) (v := undef) (a' := ?_) #[true, true, true, true, true, true, true, true, true, true, true, true, true, true, true, true, true, true, true, true, true, true, false] rfl rfl (by kernel_rfl) (fun _ _ _ h => h) (Or.inr ⟨by rfl, rfl⟩) ?_ ?_
    rotate_left
    · simp only [Act.put, List.setIfInBounds_toArray, List.set_cons_zero, List.set_cons_succ, i64_w, i32_w]
      rfl
    refine pure_ (i := 22) (N := some 69) (v := ?_) (a' := ?_) #[true, true, true, true, true, true, true, true, true, true, true, true, true, true, true, true, true, true, true, true, true, true, true] rfl rfl (by kernel_rfl) (fun _ _ _ h => h) (Or.inl ⟨by rfl, ?_⟩) ?_ ?_
    rotate_left
    · intro w'
      go_simp
      with_reducible rfl
    rotate_left
    · simp only [Act.put, List.setIfInBounds_toArray, List.set_cons_zero, List.set_cons_succ, i64_w, i32_w]
      rfl
    refine done_ (by kernel_rfl) ?_
    refine calm_normal ?_
    go_wp2
    refine wp_calm ?_
    refine start_ (n := 5) (S := fun w' => w'.cell? ⟨w.heap.size, 0, none⟩ = some (.int .i64 (i : Int))) (ds := []) #[false, false, false, false, false] (by kernel_rfl) rfl rfl (by exact (blk_cell (blk_drew HXD.out) 0).trans rfl) (fun hHeld => ?_)
    refine pure_ (i := 0) (N := some 99) (v := ?_) (a' := ?_) #[true, false, false, false, false] rfl rfl (by kernel_rfl) (fun _ _ _ h => h) (Or.inl ⟨by rfl, ?_⟩) ?_ ?_
    rotate_left
    · intro w'
      go_simp
      with_reducible rfl
    rotate_left
    · simp only [Act.put, List.setIfInBounds_toArray, List.set_cons_zero, List.set_cons_succ, i64_w, i32_w]
      rfl
    refine take_ (i := 1) (N := some 100) (v := ?_) (a' := ?_) #[true, true, false, false, false] rfl rfl (by kernel_rfl) (fun _ _ _ h => h) (Or.inl ⟨by rfl, ?_⟩) hHeld ?_ ?_
    rotate_left
    · rintro w' s0
      go_simp
      with_reducible rfl
    rotate_left
    · simp only [Act.put, List.setIfInBounds_toArray, List.set_cons_zero, List.set_cons_succ, i64_w, i32_w]
      rfl
    refine pure_ (i := 2) (N := some 6) (v := ?_) (a' := ?_) #[true, true, true, false, false] rfl rfl (by kernel_rfl) (fun _ _ _ h => h) (Or.inl ⟨by rfl, ?_⟩) ?_ ?_
    rotate_left
    · intro w'
      go_simp
      with_reducible rfl
    rotate_left
    · simp only [Act.put, List.setIfInBounds_toArray, List.set_cons_zero, List.set_cons_succ, i64_w, i32_w]
      rfl
    refine pure_ (i := 3) (N := some 7) (v := ?_) (a' := ?_) #[true, true, true, true, false] rfl rfl (by kernel_rfl) (fun _ _ _ h => h) (Or.inl ⟨by rfl, ?_⟩) ?_ ?_
    rotate_left
    · intro w'
      go_simp
      with_reducible rfl
    rotate_left
    · simp only [Act.put, List.setIfInBounds_toArray, List.set_cons_zero, List.set_cons_succ, i64_w, i32_w]
      rfl
    refine pure_ (i := 4) (N := some 8) (v := ?_) (a' := ?_) #[true, true, true, true, true] rfl rfl (by kernel_rfl) (fun _ _ _ h => h) (Or.inl ⟨by rfl, ?_⟩) ?_ ?_
    rotate_left
    · intro w'
      go_simp
      with_reducible rfl
    rotate_left
    · simp only [Act.put, List.setIfInBounds_toArray, List.set_cons_zero, List.set_cons_succ, i64_w, i32_w]
      rfl
    refine done_ (by kernel_rfl) ?_
    refine calm_normal ?_
    go_wp2
    rw [HS.out]
    rw [show srcF kk l kk I = (k, i) by rw [HSP.out]; rw [HZ.out]; rfl]
    refine leave_marks (w0 := w) ds _ HD.out.1 (show ∀ D, D ∈ ds → w.heap.size ≤ D ∧ (World.drew _).heap[D]? = some (.deferred (some [])) from HDD.out) (below_drew1 HBD.out) ?_
    intro W' hb
    refine ⟨_, source_end (r := (((k : Nat) : Int), ((i : Nat) : Int), 0)) rfl rfl rfl, ?_⟩
    exact ⟨rfl, hb⟩
  have k1 : decide (0 < k) = true := by simpa using h0
  cases hp : (rd_T35 l (k : Int)).f2.f1 with
  | true =>
    rw [hp] at X3
    refine wp_calm ?_
    refine start_ (n := 23) (S := fun w' => w'.cell? ⟨w.heap.size, 0, none⟩ = some (.int .i64 (i : Int)) ∧ w'.cell? ⟨(ad.add (k * 5)).block, (ad.add (k * 5)).off + 3, none⟩ = some (.bool true) ∧ w'.cell? ⟨(ad.add (k * 5)).block, (ad.add (k * 5)).off + 4, none⟩ = some (.slice (some ae) (rd_T35 l (k : Int)).f2.f2.length c5) ∧ w'.cell? (ae.add (i * 4)) = some (.bool (rd_T37 (rd_T35 l (k : Int)).f2.f2 (i : Int)).f0) ∧ w'.cell? ⟨(ae.add (i * 4)).block, (ae.add (i * 4)).off + 1, none⟩ = some (.int .i64 (rd_T37 (rd_T35 l (k : Int)).f2.f2 (i : Int)).f1) ∧ w'.cell? ⟨(ae.add (i * 4)).block, (ae.add (i * 4)).off + 2, none⟩ = some (.int .i64 (rd_T37 (rd_T35 l (k : Int)).f2.f2 (i : Int)).f2) ∧ w'.cell? ⟨(ae.add (i * 4)).block, (ae.add (i * 4)).off + 3, none⟩ = some (.int .i64 (rd_T37 (rd_T35 l (k : Int)).f2.f2 (i : Int)).f3)) (ds := []) #[false, false, false, false, false, false, false, false, false, false, false, false, false, false, false, false, false, false, false, false, false, false, false] (by kernel_rfl) rfl rfl ⟨(blk_cell (blk_drew HX.out) 0).trans rfl, X3.out, X4.out, E0.out, E1.out, E2.out, E3.out⟩ (fun hHeld => ?_)
    have HBD := Aside0.mk (below_drew1 HB.out)
    have HXD := Aside0.mk (blk_drew HX.out)
    have HDD := Aside0.mk (show ∀ D, D ∈ ds → w.heap.size ≤ D ∧ W.drew.heap[D]? = some (.deferred (some [])) from HD.out.2)
    generalize W.drew = wd at HBD HXD HDD hHeld ⊢
    refine pure_ (i := 0) (N := some 47) (v := ?_) (a' := ?_) #[true, false, false, false, false, false, false, false, false, false, false, false, false, false, false, false, false, false, false, false, false, false, false] rfl rfl (by kernel_rfl) (fun _ _ _ h => h) (Or.inl ⟨by rfl, ?_⟩) ?_ ?_
    rotate_left
    · intro w'
      go_simp
      with_reducible rfl
    rotate_left
    · simp only [Act.put, List.setIfInBounds_toArray, List.set_cons_zero, List.set_cons_succ, i64_w, i32_w]
      rfl
    refine pure_ (i := 1) (N := some 48) (v := ?_) (a' := ?_) #[true, true, false, false, false, false, false, false, false, false, false, false, false, false, false, false, false, false, false, false, false, false, false] rfl rfl (by kernel_rfl) (fun _ _ _ h => h) (Or.inl ⟨by rfl, ?_⟩) ?_ ?_
    rotate_left
    · intro w'
      go_simp
      with_reducible rfl
    rotate_left
    · simp only [Act.put, List.setIfInBounds_toArray, List.set_cons_zero, List.set_cons_succ, i64_w, i32_w]
      rfl
    refine pure_ (i := 2) (N := some 49) (v := ?_) (a' := ?_) #[true, true, true, false, false, false, false, false, false, false, false, false, false, false, false, false, false, false, false, false, false, false, false] rfl rfl (by kernel_rfl) (fun _ _ _ h => h) (Or.inl ⟨by rfl, ?_⟩) ?_ ?_
    rotate_left
    · intro w'
      go_simp
      with_reducible rfl
    rotate_left
    · simp only [Act.put, List.setIfInBounds_toArray, List.set_cons_zero, List.set_cons_succ, i64_w, i32_w]
      rfl
    refine pure_ (i := 3) (N := some 50) (v := ?_) (a' := ?_) #[true, true, true, true, false, false, false, false, false, false, false, false, false, false, false, false, false, false, false, false, false, false, false] rfl rfl (by kernel_rfl) (fun _ _ _ h => h) (Or.inl ⟨by rfl, ?_⟩) ?_ ?_
    rotate_left
    · intro w'
      go_simp
      with_reducible rfl
    rotate_left
    · simp only [Act.put, List.setIfInBounds_toArray, List.set_cons_zero, List.set_cons_succ, i64_w, i32_w]
      rfl
    refine pure_ (i := 4) (N := some 51) (v := ?_) (a' := ?_) #[true, true, true, true, true, false, false, false, false, false, false, false, false, false, false, false, false, false, false, false, false, false, false] rfl rfl (by kernel_rfl) (fun _ _ _ h => h) (Or.inl ⟨by rfl, ?_⟩) ?_ ?_
    rotate_left
    · intro w'
      go_simp
      with_reducible rfl
    rotate_left
    · simp only [Act.put, List.setIfInBounds_toArray, List.set_cons_zero, List.set_cons_succ, i64_w, i32_w]
      rfl
    refine pure_ (i := 5) (N := some 52) (v := ?_) (a' := ?_) #[true, true, true, true, true, true, false, false, false, false, false, false, false, false, false, false, false, false, false, false, false, false, false] rfl rfl (by kernel_rfl) (fun _ _ _ h => h) (Or.inl ⟨by rfl, ?_⟩) ?_ ?_
    rotate_left
    · intro w'
      go_simp
      with_reducible rfl
    rotate_left
    · simp only [Act.put, List.setIfInBounds_toArray, List.set_cons_zero, List.set_cons_succ, i64_w, i32_w]
      rfl
    refine pure_ (i := 6) (N := some 53) (v := ?_) (a' := ?_) #[true, true, true, true, true, true, true, false, false, false, false, false, false, false, false, false, false, false, false, false, false, false, false] rfl rfl (by kernel_rfl) (fun _ _ _ h => h) (Or.inl ⟨by rfl, ?_⟩) ?_ ?_
    rotate_left
    · intro w'
      go_simp
      with_reducible rfl
    rotate_left
    · simp only [Act.put, List.setIfInBounds_toArray, List.set_cons_zero, List.set_cons_succ, i64_w, i32_w]
      rfl
    refine pure_ (i := 7) (N := some 54) (v := ?_) (a' := ?_) #[true, true, true, true, true, true, true, true, false, false, false, false, false, false, false, false, false, false, false, false, false, false, false] rfl rfl (by kernel_rfl) (fun _ _ _ h => h) (Or.inl ⟨by rfl, ?_⟩) ?_ ?_
    rotate_left
    · intro w'
      go_simp
      with_reducible rfl
    rotate_left
    · simp only [Act.put, List.setIfInBounds_toArray, List.set_cons_zero, List.set_cons_succ, i64_w, i32_w]
      rfl
    refine take_ (i := 8) (N := some 55) (v := ?_) (a' := ?_) #[true, true, true, true, true, true, true, true, true, false, false, false, false, false, false, false, false, false, false, false, false, false, false] rfl rfl (by kernel_rfl) (fun _ _ _ h => h) (Or.inl ⟨by rfl, ?_⟩) hHeld ?_ ?_
    rotate_left
    · rintro w' ⟨s0, s1, s2, s3, s4, s5, s6⟩
      go_simp
      with_reducible rfl
    rotate_left
    · simp only [Act.put, List.setIfInBounds_toArray, List.set_cons_zero, List.set_cons_succ, i64_w, i32_w]
      rfl
    refine pure_ (i := 9) (N := some 56) (v := ?_) (a' := ?_) #[true, true, true, true, true, true, true, true, true, true, false, false, false, false, false, false, false, false, false, false, false, false, false] rfl rfl (by kernel_rfl) (fun _ _ _ h => h) (Or.inl ⟨by rfl, ?_⟩) ?_ ?_
    rotate_left
    · intro w'
      go_simp
      with_reducible rfl
    rotate_left
    · simp only [Act.put, List.setIfInBounds_toArray, List.set_cons_zero, List.set_cons_succ, i64_w, i32_w]
      rfl
    refine pure_ (i := 10) (N := some 57) (v := ?_) (a' := ?_) #[true, true, true, true, true, true, true, true, true, true, true, false, false, false, false, false, false, false, false, false, false, false, false] rfl rfl (by kernel_rfl) (fun _ _ _ h => h) (Or.inl ⟨by rfl, ?_⟩) ?_ ?_
    rotate_left
    · intro w'
      go_simp
      with_reducible rfl
    rotate_left
    · simp only [Act.put, List.setIfInBounds_toArray, List.set_cons_zero, List.set_cons_succ, i64_w, i32_w]
      rfl
    refine pure_ (i := 11) (N := some 58) (v := ?_) (a' := ?_) #[true, true, true, true, true, true, true, true, true, true, true, true, false, false, false, false, false, false, false, false, false, false, false] rfl rfl (by kernel_rfl) (fun _ _ _ h => h) (Or.inl ⟨by rfl, ?_⟩) ?_ ?_
    rotate_left
    · intro w'
      go_simp
      with_reducible rfl
    rotate_left
    · simp only [Act.put, List.setIfInBounds_toArray, List.set_cons_zero, List.set_cons_succ, i64_w, i32_w]
      rfl
    refine pure_ (i := 12) (N := some 59) (v := undef) (a' := ?_) #[true, true, true, true, true, true, true, true, true, true, true, true, true, false, false, false, false, false, false, false, false, false, false] rfl rfl (by kernel_rfl) (fun _ _ _ h => h) (Or.inr ⟨by rfl, rfl⟩) ?_ ?_
    rotate_left
    · simp only [Act.put, List.setIfInBounds_toArray, List.set_cons_zero, List.set_cons_succ, i64_w, i32_w]
      rfl
    refine pure_ (i := 13) (N := some 60) (v := undef) (a' := ?_) #[true, true, true, true, true, true, true, true, true, true, true, true, true, true, false, false, false, false, false, false, false, false, false] rfl rfl (by kernel_rfl) (fun _ _ _ h => h) (Or.inr ⟨by rfl, rfl⟩) ?_ ?_
    rotate_left
    · simp only [Act.put, List.setIfInBounds_toArray, List.set_cons_zero, List.set_cons_succ, i64_w, i32_w]
      rfl
    refine pure_ (i := 14) (N := some 61) (v := undef) (a' := ?_) #[true, true, true, true, true, true, true, true, true, true, true, true, true, true, true, false, false, false, false, false, false, false, false] rfl rfl (by kernel_rfl) (fun _ _ _ h => h) (Or.inr ⟨by rfl, rfl⟩) ?_ ?_
    rotate_left
    · simp only [Act.put, List.setIfInBounds_toArray, List.set_cons_zero, List.set_cons_succ, i64_w, i32_w]
      rfl
    refine pure_ (i := 15) (N := some 62) (v := undef) (a' := ?_) #[true, true, true, true, true, true, true, true, true, true, true, true, true, true, true, true, false, false, false, false, false, false, false] rfl rfl (by kernel_rfl) (fun _ _ _ h => h) (Or.inr ⟨by rfl, rfl⟩) ?_ ?_
    rotate_left
    · simp only [Act.put, List.setIfInBounds_toArray, List.set_cons_zero, List.set_cons_succ, i64_w, i32_w]
      rfl
    refine pure_ (i := 16) (N := some 63) (v := undef) (a' := ?_) #[true, true, true, true, true, true, true, true, true, true, true, true, true, true, true, true, true, false, false, false, false, false, false] rfl rfl (by kernel_rfl) (fun _ _ _ h => h) (Or.inr ⟨by rfl, rfl⟩) ?_ ?_
    rotate_left
    · simp only [Act.put, List.setIfInBounds_toArray, List.set_cons_zero, List.set_cons_succ, i64_w, i32_w]
      rfl
    refine pure_ (i := 17) (N := some 64) (v := undef) (a' := ?_) #[true, true, true, true, true, true, true, true, true, true, true, true, true, true, true, true, true, true, false, false, false, false, false] rfl rfl (by kernel_rfl) (fun _ _ _ h => h) (Or.inr ⟨by rfl, rfl⟩) ?_ ?_
    rotate_left
    · simp only [Act.put, List.setIfInBounds_toArray, List.set_cons_zero, List.set_cons_succ, i64_w, i32_w]
      rfl
    refine pure_ (i := 18) (N := some 65) (v := undef) (a' := ?_) #[true, true, true, true, true, true, true, true, true, true, true, true, true, true, true, true, true, true, true, false, false, false, false] rfl rfl (by kernel_rfl) (fun _ _ _ h => h) (Or.inr ⟨by rfl, rfl⟩) ?_ ?_
    rotate_left
    · simp only [Act.put, List.setIfInBounds_toArray, List.set_cons_zero, List.set_cons_succ, i64_w, i32_w]
      rfl
    refine pure_ (i := 19) (N := some 66) (v := undef) (a' := ?_) #[true, true, true, true, true, true, true, true, true, true, true, true, true, true, true, true, true, true, true, true, false, false, false] rfl rfl (by kernel_rfl) (fun _ _ _ h => h) (Or.inr ⟨by rfl, rfl⟩) ?_ ?_
    rotate_left
    · simp only [Act.put, List.setIfInBounds_toArray, List.set_cons_zero, List.set_cons_succ, i64_w, i32_w]
      rfl
    refine pure_ (i := 20) (N := some 67) (v := undef) (a' := ?_) #[true, true, true, true, true, true, true, true, true, true, true, true, true, true, true, true, true, true, true, true, true, false, false] rfl rfl (by kernel_rfl) (fun _ _ _ h => h) (Or.inr ⟨by rfl, rfl⟩) ?_ ?_
    rotate_left
    · simp only [Act.put, List.setIfInBounds_toArray, List.set_cons_zero, List.set_cons_succ, i64_w, i32_w]
      rfl
    refine pure_ (i := 21) (N := some 68) (v := undef) (a' := ?_) #[true, true, true, true, true, true, true, true, true, true, true, true, true, true, true, true, true, true, true, true, true, true, false] rfl rfl (by kernel_rfl) (fun _ _ _ h => h) (Or.inr ⟨by rfl, rfl⟩) ?_ ?_
    rotate_left
    · simp only [Act.put, List.setIfInBounds_toArray, List.set_cons_zero, List.set_cons_succ, i64_w, i32_w]
      rfl
    refine pure_ (i := 22) (N := some 69) (v := ?_) (a' := ?_) #[true, true, true, true, true, true, true, true, true, true, true, true, true, true, true, true, true, true, true, true, true, true, true] rfl rfl (by kernel_rfl) (fun _ _ _ h => h) (Or.inl ⟨by rfl, ?_⟩) ?_ ?_
    rotate_left
    · intro w'
      go_simp
      with_reducible rfl
    rotate_left
    · simp only [Act.put, List.setIfInBounds_toArray, List.set_cons_zero, List.set_cons_succ, i64_w, i32_w]
      rfl
    refine done_ (by kernel_rfl) ?_
    refine calm_normal ?_
    go_wp2
    refine wp_calm ?_
    refine start_ (n := 5) (S := fun w' => w'.cell? ⟨w.heap.size, 0, none⟩ = some (.int .i64 (i : Int))) (ds := []) #[false, false, false, false, false] (by kernel_rfl) rfl rfl (by exact (blk_cell (blk_drew HXD.out) 0).trans rfl) (fun hHeld => ?_)
    refine pure_ (i := 0) (N := some 99) (v := ?_) (a' := ?_) #[true, false, false, false, false] rfl rfl (by kernel_rfl) (fun _ _ _ h => h) (Or.inl ⟨by rfl, ?_⟩) ?_ ?_
    rotate_left
    · intro w'
      go_simp
      with_reducible rfl
    rotate_left
    · simp only [Act.put, List.setIfInBounds_toArray, List.set_cons_zero, List.set_cons_succ, i64_w, i32_w]
      rfl
    refine take_ (i := 1) (N := some 100) (v := ?_) (a' := ?_) #[true, true, false, false, false] rfl rfl (by kernel_rfl) (fun _ _ _ h => h) (Or.inl ⟨by rfl, ?_⟩) hHeld ?_ ?_
    rotate_left
    · rintro w' s0
      go_simp
      with_reducible rfl
    rotate_left
    · simp only [Act.put, List.setIfInBounds_toArray, List.set_cons_zero, List.set_cons_succ, i64_w, i32_w]
      rfl
    refine pure_ (i := 2) (N := some 6) (v := ?_) (a' := ?_) #[true, true, true, false, false] rfl rfl (by kernel_rfl) (fun _ _ _ h => h) (Or.inl ⟨by rfl, ?_⟩) ?_ ?_
    rotate_left
    · intro w'
      go_simp
      with_reducible rfl
    rotate_left
    · simp only [Act.put, List.setIfInBounds_toArray, List.set_cons_zero, List.set_cons_succ, i64_w, i32_w]
      rfl
    refine pure_ (i := 3) (N := some 7) (v := ?_) (a' := ?_) #[true, true, true, true, false] rfl rfl (by kernel_rfl) (fun _ _ _ h => h) (Or.inl ⟨by rfl, ?_⟩) ?_ ?_
    rotate_left
    · intro w'
      go_simp
      with_reducible rfl
    rotate_left
    · simp only [Act.put, List.setIfInBounds_toArray, List.set_cons_zero, List.set_cons_succ, i64_w, i32_w]
      rfl
    refine pure_ (i := 4) (N := some 8) (v := ?_) (a' := ?_) #[true, true, true, true, true] rfl rfl (by kernel_rfl) (fun _ _ _ h => h) (Or.inl ⟨by rfl, ?_⟩) ?_ ?_
    rotate_left
    · intro w'
      go_simp
      with_reducible rfl
    rotate_left
    · simp only [Act.put, List.setIfInBounds_toArray, List.set_cons_zero, List.set_cons_succ, i64_w, i32_w]
      rfl
    refine done_ (by kernel_rfl) ?_
    refine calm_normal ?_
    go_wp2
    rw [HS.out]
    rw [show srcF kk l kk I = (k, i) by rw [HSP.out]; cases k with | zero => rfl | succ m => (unfold srcF; rw [if_neg (by rw [hp]; simp)])]
    refine leave_marks (w0 := w) ds _ HD.out.1 (show ∀ D, D ∈ ds → w.heap.size ≤ D ∧ (World.drew _).heap[D]? = some (.deferred (some [])) from HDD.out) (below_drew1 HBD.out) ?_
    intro W' hb
    refine ⟨_, source_end (r := (((k : Nat) : Int), ((i : Nat) : Int), 0)) rfl rfl rfl, ?_⟩
    exact ⟨rfl, hb⟩
  | false =>
    rw [hp] at X3
    cases hh : hadB (rd_T37 (rd_T35 l (k : Int)).f2.f2 (i : Int)) with
    | false =>
      have HH := Aside0.mk hh
      refine wp_calm ?_
      refine start_ (n := 23) (S := fun w' => w'.cell? ⟨w.heap.size, 0, none⟩ = some (.int .i64 (i : Int)) ∧ w'.cell? ⟨(ad.add (k * 5)).block, (ad.add (k * 5)).off + 3, none⟩ = some (.bool false) ∧ w'.cell? ⟨(ad.add (k * 5)).block, (ad.add (k * 5)).off + 4, none⟩ = some (.slice (some ae) (rd_T35 l (k : Int)).f2.f2.length c5) ∧ w'.cell? (ae.add (i * 4)) = some (.bool (rd_T37 (rd_T35 l (k : Int)).f2.f2 (i : Int)).f0) ∧ w'.cell? ⟨(ae.add (i * 4)).block, (ae.add (i * 4)).off + 1, none⟩ = some (.int .i64 (rd_T37 (rd_T35 l (k : Int)).f2.f2 (i : Int)).f1) ∧ w'.cell? ⟨(ae.add (i * 4)).block, (ae.add (i * 4)).off + 2, none⟩ = some (.int .i64 (rd_T37 (rd_T35 l (k : Int)).f2.f2 (i : Int)).f2) ∧ w'.cell? ⟨(ae.add (i * 4)).block, (ae.add (i * 4)).off + 3, none⟩ = some (.int .i64 (rd_T37 (rd_T35 l (k : Int)).f2.f2 (i : Int)).f3)) (ds := []) #[false, false, false, false, false, false, false, false, false, false, false, false, false, false, false, false, false, false, false, false, false, false, false] (by kernel_rfl) rfl rfl ⟨(blk_cell (blk_drew HX.out) 0).trans rfl, X3.out, X4.out, E0.out, E1.out, E2.out, E3.out⟩ (fun hHeld => ?_)
      have HBD := Aside0.mk (below_drew1 HB.out)
      have HXD := Aside0.mk (blk_drew HX.out)
      have HDD := Aside0.mk (show ∀ D, D ∈ ds → w.heap.size ≤ D ∧ W.drew.heap[D]? = some (.deferred (some [])) from HD.out.2)
      generalize W.drew = wd at HBD HXD HDD hHeld ⊢
      refine pure_ (i := 0) (N := some 47) (v := ?_) (a' := ?_) #[true, false, false, false, false, false, false, false, false, false, false, false, false, false, false, false, false, false, false, false, false, false, false] rfl rfl (by kernel_rfl) (fun _ _ _ h => h) (Or.inl ⟨by rfl, ?_⟩) ?_ ?_
      rotate_left
      · intro w'
        go_simp
        with_reducible rfl
      rotate_left
      · simp only [Act.put, List.setIfInBounds_toArray, List.set_cons_zero, List.set_cons_succ, i64_w, i32_w]
        rfl
      refine pure_ (i := 1) (N := some 48) (v := ?_) (a' := ?_) #[true, true, false, false, false, false, false, false, false, false, false, false, false, false, false, false, false, false, false, false, false, false, false] rfl rfl (by kernel_rfl) (fun _ _ _ h => h) (Or.inl ⟨by rfl, ?_⟩) ?_ ?_
      rotate_left
      · intro w'
        go_simp
        with_reducible rfl
      rotate_left
      · simp only [Act.put, List.setIfInBounds_toArray, List.set_cons_zero, List.set_cons_succ, i64_w, i32_w]
        rfl
      refine pure_ (i := 2) (N := some 49) (v := ?_) (a' := ?_) #[true, true, true, false, false, false, false, false, false, false, false, false, false, false, false, false, false, false, false, false, false, false, false] rfl rfl (by kernel_rfl) (fun _ _ _ h => h) (Or.inl ⟨by rfl, ?_⟩) ?_ ?_
      rotate_left
      · intro w'
        go_simp
        with_reducible rfl
      rotate_left
      · simp only [Act.put, List.setIfInBounds_toArray, List.set_cons_zero, List.set_cons_succ, i64_w, i32_w]
        rfl
      refine pure_ (i := 3) (N := some 50) (v := ?_) (a' := ?_) #[true, true, true, true, false, false, false, false, false, false, false, false, false, false, false, false, false, false, false, false, false, false, false] rfl rfl (by kernel_rfl) (fun _ _ _ h => h) (Or.inl ⟨by rfl, ?_⟩) ?_ ?_
      rotate_left
      · intro w'
        go_simp
        with_reducible rfl
      rotate_left
      · simp only [Act.put, List.setIfInBounds_toArray, List.set_cons_zero, List.set_cons_succ, i64_w, i32_w]
        rfl
      refine pure_ (i := 4) (N := some 51) (v := ?_) (a' := ?_) #[true, true, true, true, true, false, false, false, false, false, false, false, false, false, false, false, false, false, false, false, false, false, false] rfl rfl (by kernel_rfl) (fun _ _ _ h => h) (Or.inl ⟨by rfl, ?_⟩) ?_ ?_
      rotate_left
      · intro w'
        go_simp
        with_reducible rfl
      rotate_left
      · simp only [Act.put, List.setIfInBounds_toArray, List.set_cons_zero, List.set_cons_succ, i64_w, i32_w]
        rfl
      refine pure_ (i := 5) (N := some 52) (v := ?_) (a' := ?_) #[true, true, true, true, true, true, false, false, false, false, false, false, false, false, false, false, false, false, false, false, false, false, false] rfl rfl (by kernel_rfl) (fun _ _ _ h => h) (Or.inl ⟨by rfl, ?_⟩) ?_ ?_
      rotate_left
      · intro w'
        go_simp
        with_reducible rfl
      rotate_left
      · simp only [Act.put, List.setIfInBounds_toArray, List.set_cons_zero, List.set_cons_succ, i64_w, i32_w]
        rfl
      refine pure_ (i := 6) (N := some 53) (v := ?_) (a' := ?_) #[true, true, true, true, true, true, true, false, false, false, false, false, false, false, false, false, false, false, false, false, false, false, false] rfl rfl (by kernel_rfl) (fun _ _ _ h => h) (Or.inl ⟨by rfl, ?_⟩) ?_ ?_
      rotate_left
      · intro w'
        go_simp
        with_reducible rfl
      rotate_left
      · simp only [Act.put, List.setIfInBounds_toArray, List.set_cons_zero, List.set_cons_succ, i64_w, i32_w]
        rfl
      refine pure_ (i := 7) (N := some 54) (v := ?_) (a' := ?_) #[true, true, true, true, true, true, true, true, false, false, false, false, false, false, false, false, false, false, false, false, false, false, false] rfl rfl (by kernel_rfl) (fun _ _ _ h => h) (Or.inl ⟨by rfl, ?_⟩) ?_ ?_
      rotate_left
      · intro w'
        go_simp
        with_reducible rfl
      rotate_left
      · simp only [Act.put, List.setIfInBounds_toArray, List.set_cons_zero, List.set_cons_succ, i64_w, i32_w]
        rfl
      refine take_ (i := 8) (N := some 55) (v := ?_) (a' := ?_) #[true, true, true, true, true, true, true, true, true, false, false, false, false, false, false, false, false, false, false, false, false, false, false] rfl rfl (by kernel_rfl) (fun _ _ _ h => h) (Or.inl ⟨by rfl, ?_⟩) hHeld ?_ ?_
      rotate_left
      · rintro w' ⟨s0, s1, s2, s3, s4, s5, s6⟩
        go_simp
        with_reducible rfl
      rotate_left
      · simp only [Act.put, List.setIfInBounds_toArray, List.set_cons_zero, List.set_cons_succ, i64_w, i32_w]
        rfl
      refine pure_ (i := 9) (N := some 56) (v := ?_) (a' := ?_) #[true, true, true, true, true, true, true, true, true, true, false, false, false, false, false, false, false, false, false, false, false, false, false] rfl rfl (by kernel_rfl) (fun _ _ _ h => h) (Or.inl ⟨by rfl, ?_⟩) ?_ ?_
      rotate_left
      · intro w'
        go_simp
        with_reducible rfl
      rotate_left
      · simp only [Act.put, List.setIfInBounds_toArray, List.set_cons_zero, List.set_cons_succ, i64_w, i32_w]
        rfl
      refine pure_ (i := 10) (N := some 57) (v := ?_) (a' := ?_) #[true, true, true, true, true, true, true, true, true, true, true, false, false, false, false, false, false, false, false, false, false, false, false] rfl rfl (by kernel_rfl) (fun _ _ _ h => h) (Or.inl ⟨by rfl, ?_⟩) ?_ ?_
      rotate_left
      · intro w'
        go_simp
        with_reducible rfl
      rotate_left
      · simp only [Act.put, List.setIfInBounds_toArray, List.set_cons_zero, List.set_cons_succ, i64_w, i32_w]
        rfl
      refine pure_ (i := 11) (N := some 58) (v := ?_) (a' := ?_) #[true, true, true, true, true, true, true, true, true, true, true, true, false, false, false, false, false, false, false, false, false, false, false] rfl rfl (by kernel_rfl) (fun _ _ _ h => h) (Or.inl ⟨by rfl, ?_⟩) ?_ ?_
      rotate_left
      · intro w'
        go_simp
        with_reducible rfl
      rotate_left
      · simp only [Act.put, List.setIfInBounds_toArray, List.set_cons_zero, List.set_cons_succ, i64_w, i32_w]
        rfl
      refine pure_ (i := 12) (N := some 59) (v := ?_) (a' := ?_) #[true, true, true, true, true, true, true, true, true, true, true, true, true, false, false, false, false, false, false, false, false, false, false] rfl rfl (by kernel_rfl) (fun _ _ _ h => h) (Or.inl ⟨by rfl, ?_⟩) ?_ ?_
      rotate_left
      · intro w'
        go_simp
        with_reducible rfl
      rotate_left
      · simp only [Act.put, List.setIfInBounds_toArray, List.set_cons_zero, List.set_cons_succ, i64_w, i32_w]
        rfl
      refine pure_ (i := 13) (N := some 60) (v := ?_) (a' := ?_) #[true, true, true, true, true, true, true, true, true, true, true, true, true, true, false, false, false, false, false, false, false, false, false] rfl rfl (by kernel_rfl) (fun _ _ _ h => h) (Or.inl ⟨by rfl, ?_⟩) ?_ ?_
      rotate_left
      · intro w'
        go_simp
        with_reducible rfl
      rotate_left
      · simp only [Act.put, List.setIfInBounds_toArray, List.set_cons_zero, List.set_cons_succ, i64_w, i32_w]
        rfl
      refine pure_ (i := 14) (N := some 61) (v := ?_) (a' := ?_) #[true, true, true, true, true, true, true, true, true, true, true, true, true, true, true, false, false, false, false, false, false, false, false] rfl rfl (by kernel_rfl) (fun _ _ _ h => h) (Or.inl ⟨by rfl, ?_⟩) ?_ ?_
      rotate_left
      · intro w'
        go_simp
        with_reducible rfl
      rotate_left
      · simp only [Act.put, List.setIfInBounds_toArray, List.set_cons_zero, List.set_cons_succ, i64_w, i32_w]
        rfl
      refine pure_ (i := 15) (N := some 62) (v := ?_) (a' := ?_) #[true, true, true, true, true, true, true, true, true, true, true, true, true, true, true, true, false, false, false, false, false, false, false] rfl rfl (by kernel_rfl) (fun _ _ _ h => h) (Or.inl ⟨by rfl, ?_⟩) ?_ ?_
      rotate_left
      · intro w'
        go_simp
        with_reducible rfl
      rotate_left
      · simp only [Act.put, List.setIfInBounds_toArray, List.set_cons_zero, List.set_cons_succ, i64_w, i32_w]
        rfl
      refine pure_ (i := 16) (N := some 63) (v := ?_) (a' := ?_) #[true, true, true, true, true, true, true, true, true, true, true, true, true, true, true, true, true, false, false, false, false, false, false] rfl rfl (by kernel_rfl) (fun _ _ _ h => h) (Or.inl ⟨by rfl, ?_⟩) ?_ ?_
      rotate_left
      · intro w'
        go_simp
        with_reducible rfl
      rotate_left
      · simp only [Act.put, List.setIfInBounds_toArray, List.set_cons_zero, List.set_cons_succ, i64_w, i32_w]
        rfl
      refine take_ (i := 17) (N := some 64) (v := ?_) (a' := ?_) #[true, true, true, true, true, true, true, true, true, true, true, true, true, true, true, true, true, true, false, false, false, false, false] rfl rfl (by kernel_rfl) (fun _ _ _ h => h) (Or.inl ⟨by rfl, ?_⟩) hHeld ?_ ?_
      rotate_left
      · rintro w' ⟨s0, s1, s2, s3, s4, s5, s6⟩
        go_simp
        with_reducible rfl
      rotate_left
      · simp only [Act.put, List.setIfInBounds_toArray, List.set_cons_zero, List.set_cons_succ, i64_w, i32_w]
        rfl
      refine take_ (i := 18) (N := some 65) (v := ?_) (a' := ?_) #[true, true, true, true, true, true, true, true, true, true, true, true, true, true, true, true, true, true, true, false, false, false, false] rfl rfl (by kernel_rfl) (fun _ _ _ h => h) (Or.inl ⟨by rfl, ?_⟩) hHeld ?_ ?_
      rotate_left
      · rintro w' ⟨s0, s1, s2, s3, s4, s5, s6⟩
        go_simp
        with_reducible rfl
      rotate_left
      · simp only [Act.put, List.setIfInBounds_toArray, List.set_cons_zero, List.set_cons_succ, i64_w, i32_w]
        rfl
      refine pure_ (i := 19) (N := some 66) (v := ?_) (a' := ?_) #[true, true, true, true, true, true, true, true, true, true, true, true, true, true, true, true, true, true, true, true, false, false, false] rfl rfl (by kernel_rfl) (fun _ _ _ h => h) (Or.inl ⟨by rfl, ?_⟩) ?_ ?_
      rotate_left
      · intro w'
        go_simp
        with_reducible rfl
      rotate_left
      · simp only [Act.put, List.setIfInBounds_toArray, List.set_cons_zero, List.set_cons_succ, i64_w, i32_w]
        rfl
      refine take_ (i := 20) (N := some 67) (v := ?_) (a' := ?_) #[true, true, true, true, true, true, true, true, true, true, true, true, true, true, true, true, true, true, true, true, true, false, false] rfl rfl (by kernel_rfl) (fun _ _ _ h => h) (Or.inl ⟨by rfl, ?_⟩) hHeld ?_ ?_
      rotate_left
      · rintro w' ⟨s0, s1, s2, s3, s4, s5, s6⟩
        go_simp
        with_reducible rfl
      rotate_left
      · simp only [Act.put, List.setIfInBounds_toArray, List.set_cons_zero, List.set_cons_succ, i64_w, i32_w]
        rfl
      refine one_ (i := 21) (N := some 68) #[true, true, true, true, true, true, true, true, true, true, true, true, true, true, true, true, true, true, true, true, true, true, false] rfl rfl (by kernel_rfl) (by decide) (fun K hK => ?_)
      refine goes_ Try.func49 (by kernel_rfl) rfl #[.agg #[.bool (rd_T37 (rd_T35 l (k : Int)).f2.f2 (i : Int)).f0, .int .i64 (rd_T37 (rd_T35 l (k : Int)).f2.f2 (i : Int)).f1, .int .i64 (rd_T37 (rd_T35 l (k : Int)).f2.f2 (i : Int)).f2, .int .i64 (rd_T37 (rd_T35 l (k : Int)).f2.f2 (i : Int)).f3]] (by rfl) rfl rfl (by (try simp only [List.map_toArray, List.map_cons, List.map_nil]); first | done | rfl) ?_
      refine (inherit_had.calls _ _ _ _ (hadB (rd_T37 (rd_T35 l (k : Int)).f2.f2 (i : Int))) _ rfl).mono ?_
      rintro e w2 ⟨rfl, hb⟩
      refine ⟨_, rfl, ?_⟩
      have HB2 := Aside0.mk (below_step HBD.out hb)
      have HX2 := Aside0.mk (blk_below HXD.out hb)
      have HD2 := Aside0.mk (show ∀ D, D ∈ ds → w.heap.size ≤ D ∧ w2.heap[D]? = some (.deferred (some [])) from fun D h => ⟨(HDD.out D h).1, blk_below (HDD.out D h).2 hb⟩)
      obtain ⟨t0, t1, t2, t3, t4, t5, t6⟩ := hHeld
      have HBE := Aside0.mk hb
      clear hb
      try rw [HH.out]
      refine hK.out _ _ ⟨(HBE.out.cell (World.block_lt_of_cell? wd _ t0)).trans t0, (HBE.out.cell (World.block_lt_of_cell? wd _ t1)).trans t1, (HBE.out.cell (World.block_lt_of_cell? wd _ t2)).trans t2, (HBE.out.cell (World.block_lt_of_cell? wd _ t3)).trans t3, (HBE.out.cell (World.block_lt_of_cell? wd _ t4)).trans t4, (HBE.out.cell (World.block_lt_of_cell? wd _ t5)).trans t5, (HBE.out.cell (World.block_lt_of_cell? wd _ t6)).trans t6⟩ (fun hHeld => ?_)
      clear hK K
      refine norm_ (a' := ?_) ?_ ?_
      rotate_left
      · show Act.put _ (some 68) _ = _
        simp only [Act.put, List.setIfInBounds_toArray, List.set_cons_zero, List.set_cons_succ, i64_w, i32_w]
        rfl
      clear t0 t1 t2 t3 t4 t5 t6 hHeld HBE HBD HXD HDD
      refine pure_ (i := 22) (N := some 69) (v := ?_) (a' := ?_) #[true, true, true, true, true, true, true, true, true, true, true, true, true, true, true, true, true, true, true, true, true, true, true] rfl rfl (by kernel_rfl) (fun _ _ _ h => h) (Or.inl ⟨by rfl, ?_⟩) ?_ ?_
      rotate_left
      · intro w'
        go_simp
        with_reducible rfl
      rotate_left
      · simp only [Act.put, List.setIfInBounds_toArray, List.set_cons_zero, List.set_cons_succ, i64_w, i32_w]
        rfl
      refine done_ (by kernel_rfl) ?_
      refine calm_normal ?_
      go_wp2
      refine wp_calm ?_
      refine start_ (n := 5) (S := fun w' => w'.cell? ⟨w.heap.size, 0, none⟩ = some (.int .i64 (i : Int))) (ds := []) #[false, false, false, false, false] (by kernel_rfl) rfl rfl (by exact (blk_cell (blk_drew HX2.out) 0).trans rfl) (fun hHeld => ?_)
      refine pure_ (i := 0) (N := some 99) (v := ?_) (a' := ?_) #[true, false, false, false, false] rfl rfl (by kernel_rfl) (fun _ _ _ h => h) (Or.inl ⟨by rfl, ?_⟩) ?_ ?_
      rotate_left
      · intro w'
        go_simp
        with_reducible rfl
      rotate_left
      · simp only [Act.put, List.setIfInBounds_toArray, List.set_cons_zero, List.set_cons_succ, i64_w, i32_w]
        rfl
      refine take_ (i := 1) (N := some 100) (v := ?_) (a' := ?_) #[true, true, false, false, false] rfl rfl (by kernel_rfl) (fun _ _ _ h => h) (Or.inl ⟨by rfl, ?_⟩) hHeld ?_ ?_
      rotate_left
      · rintro w' s0
        go_simp
        with_reducible rfl
      rotate_left
      · simp only [Act.put, List.setIfInBounds_toArray, List.set_cons_zero, List.set_cons_succ, i64_w, i32_w]
        rfl
      refine pure_ (i := 2) (N := some 6) (v := ?_) (a' := ?_) #[true, true, true, false, false] rfl rfl (by kernel_rfl) (fun _ _ _ h => h) (Or.inl ⟨by rfl, ?_⟩) ?_ ?_
      rotate_left
      · intro w'
        go_simp
        with_reducible rfl
      rotate_left
      · simp only [Act.put, List.setIfInBounds_toArray, List.set_cons_zero, List.set_cons_succ, i64_w, i32_w]
        rfl
      refine pure_ (i := 3) (N := some 7) (v := ?_) (a' := ?_) #[true, true, true, true, false] rfl rfl (by kernel_rfl) (fun _ _ _ h => h) (Or.inl ⟨by rfl, ?_⟩) ?_ ?_
      rotate_left
      · intro w'
        go_simp
        with_reducible rfl
      rotate_left
      · simp only [Act.put, List.setIfInBounds_toArray, List.set_cons_zero, List.set_cons_succ, i64_w, i32_w]
        rfl
      refine pure_ (i := 4) (N := some 8) (v := ?_) (a' := ?_) #[true, true, true, true, true] rfl rfl (by kernel_rfl) (fun _ _ _ h => h) (Or.inl ⟨by rfl, ?_⟩) ?_ ?_
      rotate_left
      · intro w'
        go_simp
        with_reducible rfl
      rotate_left
      · simp only [Act.put, List.setIfInBounds_toArray, List.set_cons_zero, List.set_cons_succ, i64_w, i32_w]
        rfl
      refine done_ (by kernel_rfl) ?_
      refine calm_normal ?_
      go_wp2
      rw [HS.out]
      rw [show srcF kk l kk I = (k, i) by rw [HSP.out]; cases k with | zero => rfl | succ m => (unfold srcF; rw [if_neg (by unfold hadAt; rw [hh]; simp)])]
      refine leave_marks (w0 := w) ds _ HD.out.1 (show ∀ D, D ∈ ds → w.heap.size ≤ D ∧ (World.drew _).heap[D]? = some (.deferred (some [])) from HD2.out) (below_drew1 HB2.out) ?_
      intro W' hb
      refine ⟨_, source_end (r := (((k : Nat) : Int), ((i : Nat) : Int), 0)) rfl rfl rfl, ?_⟩
      exact ⟨rfl, hb⟩
    | true =>
      have HH := Aside0.mk hh
      have hag : renewL (rd_T35 l (rd_T35 l (k : Int)).f0).f2.f2 (rd_T35 l (k : Int)).f2.f2 (rd_T35 l (k : Int)).f1 = (rd_T35 l (k : Int)).f2.f2 := by
        have := HAG.out k HKL.out
        unfold agTw agB at this
        rw [hp] at this
        simpa [show k ≠ 0 by omega] using this
      obtain ⟨uu, hu, hu1, hu2⟩ := vTw_up (vTree_at HV.out HKL.out) h0
      rw [hu] at hag
      have HAT := Aside0.mk (src_at hag HIL.out hh)
      have HU := Aside0.mk hu
      have HPF := Aside0.mk hp
      clear hag hu hh hp
      refine wp_calm ?_
      refine start_ (n := 23) (S := fun w' => w'.cell? ⟨w.heap.size, 0, none⟩ = some (.int .i64 (i : Int)) ∧ w'.cell? ⟨(ad.add (k * 5)).block, (ad.add (k * 5)).off + 3, none⟩ = some (.bool false) ∧ w'.cell? ⟨(ad.add (k * 5)).block, (ad.add (k * 5)).off + 4, none⟩ = some (.slice (some ae) (rd_T35 l (k : Int)).f2.f2.length c5) ∧ w'.cell? (ae.add (i * 4)) = some (.bool (rd_T37 (rd_T35 l (k : Int)).f2.f2 (i : Int)).f0) ∧ w'.cell? ⟨(ae.add (i * 4)).block, (ae.add (i * 4)).off + 1, none⟩ = some (.int .i64 (rd_T37 (rd_T35 l (k : Int)).f2.f2 (i : Int)).f1) ∧ w'.cell? ⟨(ae.add (i * 4)).block, (ae.add (i * 4)).off + 2, none⟩ = some (.int .i64 (rd_T37 (rd_T35 l (k : Int)).f2.f2 (i : Int)).f2) ∧ w'.cell? ⟨(ae.add (i * 4)).block, (ae.add (i * 4)).off + 3, none⟩ = some (.int .i64 (rd_T37 (rd_T35 l (k : Int)).f2.f2 (i : Int)).f3)) (ds := []) #[false, false, false, false, false, false, false, false, false, false, false, false, false, false, false, false, false, false, false, false, false, false, false] (by kernel_rfl) rfl rfl ⟨(blk_cell (blk_drew HX.out) 0).trans rfl, X3.out, X4.out, E0.out, E1.out, E2.out, E3.out⟩ (fun hHeld => ?_)
      have HBD := Aside0.mk (below_drew1 HB.out)
      have HXD := Aside0.mk (blk_drew HX.out)
      have HDD := Aside0.mk (show ∀ D, D ∈ ds → w.heap.size ≤ D ∧ W.drew.heap[D]? = some (.deferred (some [])) from HD.out.2)
      generalize W.drew = wd at HBD HXD HDD hHeld ⊢
      refine pure_ (i := 0) (N := some 47) (v := ?_) (a' := ?_) #[true, false, false, false, false, false, false, false, false, false, false, false, false, false, false, false, false, false, false, false, false, false, false] rfl rfl (by kernel_rfl) (fun _ _ _ h => h) (Or.inl ⟨by rfl, ?_⟩) ?_ ?_
      rotate_left
      · intro w'
        go_simp
        with_reducible rfl
      rotate_left
      · simp only [Act.put, List.setIfInBounds_toArray, List.set_cons_zero, List.set_cons_succ, i64_w, i32_w]
        rfl
      refine pure_ (i := 1) (N := some 48) (v := ?_) (a' := ?_) #[true, true, false, false, false, false, false, false, false, false, false, false, false, false, false, false, false, false, false, false, false, false, false] rfl rfl (by kernel_rfl) (fun _ _ _ h => h) (Or.inl ⟨by rfl, ?_⟩) ?_ ?_
      rotate_left
      · intro w'
        go_simp
        with_reducible rfl
      rotate_left
      · simp only [Act.put, List.setIfInBounds_toArray, List.set_cons_zero, List.set_cons_succ, i64_w, i32_w]
        rfl
      refine pure_ (i := 2) (N := some 49) (v := ?_) (a' := ?_) #[true, true, true, false, false, false, false, false, false, false, false, false, false, false, false, false, false, false, false, false, false, false, false] rfl rfl (by kernel_rfl) (fun _ _ _ h => h) (Or.inl ⟨by rfl, ?_⟩) ?_ ?_
      rotate_left
      · intro w'
        go_simp
        with_reducible rfl
      rotate_left
      · simp only [Act.put, List.setIfInBounds_toArray, List.set_cons_zero, List.set_cons_succ, i64_w, i32_w]
        rfl
      refine pure_ (i := 3) (N := some 50) (v := ?_) (a' := ?_) #[true, true, true, true, false, false, false, false, false, false, false, false, false, false, false, false, false, false, false, false, false, false, false] rfl rfl (by kernel_rfl) (fun _ _ _ h => h) (Or.inl ⟨by rfl, ?_⟩) ?_ ?_
      rotate_left
      · intro w'
        go_simp
        with_reducible rfl
      rotate_left
      · simp only [Act.put, List.setIfInBounds_toArray, List.set_cons_zero, List.set_cons_succ, i64_w, i32_w]
        rfl
      refine pure_ (i := 4) (N := some 51) (v := ?_) (a' := ?_) #[true, true, true, true, true, false, false, false, false, false, false, false, false, false, false, false, false, false, false, false, false, false, false] rfl rfl (by kernel_rfl) (fun _ _ _ h => h) (Or.inl ⟨by rfl, ?_⟩) ?_ ?_
      rotate_left
      · intro w'
        go_simp
        with_reducible rfl
      rotate_left
      · simp only [Act.put, List.setIfInBounds_toArray, List.set_cons_zero, List.set_cons_succ, i64_w, i32_w]
        rfl
      refine pure_ (i := 5) (N := some 52) (v := ?_) (a' := ?_) #[true, true, true, true, true, true, false, false, false, false, false, false, false, false, false, false, false, false, false, false, false, false, false] rfl rfl (by kernel_rfl) (fun _ _ _ h => h) (Or.inl ⟨by rfl, ?_⟩) ?_ ?_
      rotate_left
      · intro w'
        go_simp
        with_reducible rfl
      rotate_left
      · simp only [Act.put, List.setIfInBounds_toArray, List.set_cons_zero, List.set_cons_succ, i64_w, i32_w]
        rfl
      refine pure_ (i := 6) (N := some 53) (v := ?_) (a' := ?_) #[true, true, true, true, true, true, true, false, false, false, false, false, false, false, false, false, false, false, false, false, false, false, false] rfl rfl (by kernel_rfl) (fun _ _ _ h => h) (Or.inl ⟨by rfl, ?_⟩) ?_ ?_
      rotate_left
      · intro w'
        go_simp
        with_reducible rfl
      rotate_left
      · simp only [Act.put, List.setIfInBounds_toArray, List.set_cons_zero, List.set_cons_succ, i64_w, i32_w]
        rfl
      refine pure_ (i := 7) (N := some 54) (v := ?_) (a' := ?_) #[true, true, true, true, true, true, true, true, false, false, false, false, false, false, false, false, false, false, false, false, false, false, false] rfl rfl (by kernel_rfl) (fun _ _ _ h => h) (Or.inl ⟨by rfl, ?_⟩) ?_ ?_
      rotate_left
      · intro w'
        go_simp
        with_reducible rfl
      rotate_left
      · simp only [Act.put, List.setIfInBounds_toArray, List.set_cons_zero, List.set_cons_succ, i64_w, i32_w]
        rfl
      refine take_ (i := 8) (N := some 55) (v := ?_) (a' := ?_) #[true, true, true, true, true, true, true, true, true, false, false, false, false, false, false, false, false, false, false, false, false, false, false] rfl rfl (by kernel_rfl) (fun _ _ _ h => h) (Or.inl ⟨by rfl, ?_⟩) hHeld ?_ ?_
      rotate_left
      · rintro w' ⟨s0, s1, s2, s3, s4, s5, s6⟩
        go_simp
        with_reducible rfl
      rotate_left
      · simp only [Act.put, List.setIfInBounds_toArray, List.set_cons_zero, List.set_cons_succ, i64_w, i32_w]
        rfl
      refine pure_ (i := 9) (N := some 56) (v := ?_) (a' := ?_) #[true, true, true, true, true, true, true, true, true, true, false, false, false, false, false, false, false, false, false, false, false, false, false] rfl rfl (by kernel_rfl) (fun _ _ _ h => h) (Or.inl ⟨by rfl, ?_⟩) ?_ ?_
      rotate_left
      · intro w'
        go_simp
        with_reducible rfl
      rotate_left
      · simp only [Act.put, List.setIfInBounds_toArray, List.set_cons_zero, List.set_cons_succ, i64_w, i32_w]
        rfl
      refine pure_ (i := 10) (N := some 57) (v := ?_) (a' := ?_) #[true, true, true, true, true, true, true, true, true, true, true, false, false, false, false, false, false, false, false, false, false, false, false] rfl rfl (by kernel_rfl) (fun _ _ _ h => h) (Or.inl ⟨by rfl, ?_⟩) ?_ ?_
      rotate_left
      · intro w'
        go_simp
        with_reducible rfl
      rotate_left
      · simp only [Act.put, List.setIfInBounds_toArray, List.set_cons_zero, List.set_cons_succ, i64_w, i32_w]
        rfl
      refine pure_ (i := 11) (N := some 58) (v := ?_) (a' := ?_) #[true, true, true, true, true, true, true, true, true, true, true, true, false, false, false, false, false, false, false, false, false, false, false] rfl rfl (by kernel_rfl) (fun _ _ _ h => h) (Or.inl ⟨by rfl, ?_⟩) ?_ ?_
      rotate_left
      · intro w'
        go_simp
        with_reducible rfl
      rotate_left
      · simp only [Act.put, List.setIfInBounds_toArray, List.set_cons_zero, List.set_cons_succ, i64_w, i32_w]
        rfl
      refine pure_ (i := 12) (N := some 59) (v := ?_) (a' := ?_) #[true, true, true, true, true, true, true, true, true, true, true, true, true, false, false, false, false, false, false, false, false, false, false] rfl rfl (by kernel_rfl) (fun _ _ _ h => h) (Or.inl ⟨by rfl, ?_⟩) ?_ ?_
      rotate_left
      · intro w'
        go_simp
        with_reducible rfl
      rotate_left
      · simp only [Act.put, List.setIfInBounds_toArray, List.set_cons_zero, List.set_cons_succ, i64_w, i32_w]
        rfl
      refine pure_ (i := 13) (N := some 60) (v := ?_) (a' := ?_) #[true, true, true, true, true, true, true, true, true, true, true, true, true, true, false, false, false, false, false, false, false, false, false] rfl rfl (by kernel_rfl) (fun _ _ _ h => h) (Or.inl ⟨by rfl, ?_⟩) ?_ ?_
      rotate_left
      · intro w'
        go_simp
        with_reducible rfl
      rotate_left
      · simp only [Act.put, List.setIfInBounds_toArray, List.set_cons_zero, List.set_cons_succ, i64_w, i32_w]
        rfl
      refine pure_ (i := 14) (N := some 61) (v := ?_) (a' := ?_) #[true, true, true, true, true, true, true, true, true, true, true, true, true, true, true, false, false, false, false, false, false, false, false] rfl rfl (by kernel_rfl) (fun _ _ _ h => h) (Or.inl ⟨by rfl, ?_⟩) ?_ ?_
      rotate_left
      · intro w'
        go_simp
        with_reducible rfl
      rotate_left
      · simp only [Act.put, List.setIfInBounds_toArray, List.set_cons_zero, List.set_cons_succ, i64_w, i32_w]
        rfl
      refine pure_ (i := 15) (N := some 62) (v := ?_) (a' := ?_) #[true, true, true, true, true, true, true, true, true, true, true, true, true, true, true, true, false, false, false, false, false, false, false] rfl rfl (by kernel_rfl) (fun _ _ _ h => h) (Or.inl ⟨by rfl, ?_⟩) ?_ ?_
      rotate_left
      · intro w'
        go_simp
        with_reducible rfl
      rotate_left
      · simp only [Act.put, List.setIfInBounds_toArray, List.set_cons_zero, List.set_cons_succ, i64_w, i32_w]
        rfl
      refine pure_ (i := 16) (N := some 63) (v := ?_) (a' := ?_) #[true, true, true, true, true, true, true, true, true, true, true, true, true, true, true, true, true, false, false, false, false, false, false] rfl rfl (by kernel_rfl) (fun _ _ _ h => h) (Or.inl ⟨by rfl, ?_⟩) ?_ ?_
      rotate_left
      · intro w'
        go_simp
        with_reducible rfl
      rotate_left
      · simp only [Act.put, List.setIfInBounds_toArray, List.set_cons_zero, List.set_cons_succ, i64_w, i32_w]
        rfl
      refine take_ (i := 17) (N := some 64) (v := ?_) (a' := ?_) #[true, true, true, true, true, true, true, true, true, true, true, true, true, true, true, true, true, true, false, false, false, false, false] rfl rfl (by kernel_rfl) (fun _ _ _ h => h) (Or.inl ⟨by rfl, ?_⟩) hHeld ?_ ?_
      rotate_left
      · rintro w' ⟨s0, s1, s2, s3, s4, s5, s6⟩
        go_simp
        with_reducible rfl
      rotate_left
      · simp only [Act.put, List.setIfInBounds_toArray, List.set_cons_zero, List.set_cons_succ, i64_w, i32_w]
        rfl
      refine take_ (i := 18) (N := some 65) (v := ?_) (a' := ?_) #[true, true, true, true, true, true, true, true, true, true, true, true, true, true, true, true, true, true, true, false, false, false, false] rfl rfl (by kernel_rfl) (fun _ _ _ h => h) (Or.inl ⟨by rfl, ?_⟩) hHeld ?_ ?_
      rotate_left
      · rintro w' ⟨s0, s1, s2, s3, s4, s5, s6⟩
        go_simp
        with_reducible rfl
      rotate_left
      · simp only [Act.put, List.setIfInBounds_toArray, List.set_cons_zero, List.set_cons_succ, i64_w, i32_w]
        rfl
      refine pure_ (i := 19) (N := some 66) (v := ?_) (a' := ?_) #[true, true, true, true, true, true, true, true, true, true, true, true, true, true, true, true, true, true, true, true, false, false, false] rfl rfl (by kernel_rfl) (fun _ _ _ h => h) (Or.inl ⟨by rfl, ?_⟩) ?_ ?_
      rotate_left
      · intro w'
        go_simp
        with_reducible rfl
      rotate_left
      · simp only [Act.put, List.setIfInBounds_toArray, List.set_cons_zero, List.set_cons_succ, i64_w, i32_w]
        rfl
      refine take_ (i := 20) (N := some 67) (v := ?_) (a' := ?_) #[true, true, true, true, true, true, true, true, true, true, true, true, true, true, true, true, true, true, true, true, true, false, false] rfl rfl (by kernel_rfl) (fun _ _ _ h => h) (Or.inl ⟨by rfl, ?_⟩) hHeld ?_ ?_
      rotate_left
      · rintro w' ⟨s0, s1, s2, s3, s4, s5, s6⟩
        go_simp
        with_reducible rfl
      rotate_left
      · simp only [Act.put, List.setIfInBounds_toArray, List.set_cons_zero, List.set_cons_succ, i64_w, i32_w]
        rfl
      refine one_ (i := 21) (N := some 68) #[true, true, true, true, true, true, true, true, true, true, true, true, true, true, true, true, true, true, true, true, true, true, false] rfl rfl (by kernel_rfl) (by decide) (fun K hK => ?_)
      refine goes_ Try.func49 (by kernel_rfl) rfl #[.agg #[.bool (rd_T37 (rd_T35 l (k : Int)).f2.f2 (i : Int)).f0, .int .i64 (rd_T37 (rd_T35 l (k : Int)).f2.f2 (i : Int)).f1, .int .i64 (rd_T37 (rd_T35 l (k : Int)).f2.f2 (i : Int)).f2, .int .i64 (rd_T37 (rd_T35 l (k : Int)).f2.f2 (i : Int)).f3]] (by rfl) rfl rfl (by (try simp only [List.map_toArray, List.map_cons, List.map_nil]); first | done | rfl) ?_
      refine (inherit_had.calls _ _ _ _ (hadB (rd_T37 (rd_T35 l (k : Int)).f2.f2 (i : Int))) _ rfl).mono ?_
      rintro e w2 ⟨rfl, hb⟩
      refine ⟨_, rfl, ?_⟩
      have HB2 := Aside0.mk (below_step HBD.out hb)
      have HX2 := Aside0.mk (blk_below HXD.out hb)
      have HD2 := Aside0.mk (show ∀ D, D ∈ ds → w.heap.size ≤ D ∧ w2.heap[D]? = some (.deferred (some [])) from fun D h => ⟨(HDD.out D h).1, blk_below (HDD.out D h).2 hb⟩)
      obtain ⟨t0, t1, t2, t3, t4, t5, t6⟩ := hHeld
      have HBE := Aside0.mk hb
      clear hb
      try rw [HH.out]
      refine hK.out _ _ ⟨(HBE.out.cell (World.block_lt_of_cell? wd _ t0)).trans t0, (HBE.out.cell (World.block_lt_of_cell? wd _ t1)).trans t1, (HBE.out.cell (World.block_lt_of_cell? wd _ t2)).trans t2, (HBE.out.cell (World.block_lt_of_cell? wd _ t3)).trans t3, (HBE.out.cell (World.block_lt_of_cell? wd _ t4)).trans t4, (HBE.out.cell (World.block_lt_of_cell? wd _ t5)).trans t5, (HBE.out.cell (World.block_lt_of_cell? wd _ t6)).trans t6⟩ (fun hHeld => ?_)
      clear hK K
      refine norm_ (a' := ?_) ?_ ?_
      rotate_left
      · show Act.put _ (some 68) _ = _
        simp only [Act.put, List.setIfInBounds_toArray, List.set_cons_zero, List.set_cons_succ, i64_w, i32_w]
        rfl
      clear t0 t1 t2 t3 t4 t5 t6 hHeld HBE HBD HXD HDD
      refine pure_ (i := 22) (N := some 69) (v := ?_) (a' := ?_) #[true, true, true, true, true, true, true, true, true, true, true, true, true, true, true, true, true, true, true, true, true, true, true] rfl rfl (by kernel_rfl) (fun _ _ _ h => h) (Or.inl ⟨by rfl, ?_⟩) ?_ ?_
      rotate_left
      · intro w'
        go_simp
        with_reducible rfl
      rotate_left
      · simp only [Act.put, List.setIfInBounds_toArray, List.set_cons_zero, List.set_cons_succ, i64_w, i32_w]
        rfl
      refine done_ (by kernel_rfl) ?_
      refine calm_normal ?_
      obtain ⟨ad', A6, c6, hA, y0, y1, y2, y3, y4, hl6, hr6⟩ := at_T35 (Kd.C_below HR.out HB2.out) (k : Int) (by omega) (by have := HKL.out; omega)
      cases hA
      simp only [Int.toNat_natCast] at y0 y1 y2 y3 y4
      have HR6 := Aside0.mk hr6
      clear hl6 hr6
      go_upto_region 8 with (fail)
      have hb_ := below_alloc (Below.refl _ w2) (.cells #[.int .i64 (rd_T35 l (k : Int)).f0, .bool (rd_T35 l (k : Int)).f1, .int .i64 (rd_T35 l (k : Int)).f2.f0, .bool (rd_T35 l (k : Int)).f2.f1, .slice A6 (rd_T35 l (k : Int)).f2.f2.length c6] 35)
      have hG0_ := blk_lit0 w2 (.cells #[.int .i64 (rd_T35 l (k : Int)).f0, .bool (rd_T35 l (k : Int)).f1, .int .i64 (rd_T35 l (k : Int)).f2.f0, .bool (rd_T35 l (k : Int)).f2.f1, .slice A6 (rd_T35 l (k : Int)).f2.f2.length c6] 35)
      generalize (w2.alloc (.cells #[.int .i64 (rd_T35 l (k : Int)).f0, .bool (rd_T35 l (k : Int)).f1, .int .i64 (rd_T35 l (k : Int)).f2.f0, .bool (rd_T35 l (k : Int)).f2.f1, .slice A6 (rd_T35 l (k : Int)).f2.f2.length c6] 35)) = V at hb_ hG0_ ⊢
      have HB_V := Aside0.mk hb_
      have V0 := Aside0.mk hG0_
      clear hb_ hG0_
      have HX2L := Aside0.mk (show w.heap.size < w2.heap.size from blk_lt HX2.out)
      have HX3 := Aside0.mk (blk_below HX2.out HB_V.out)
      have HD3 := Aside0.mk (show ∀ D, D ∈ ds → w.heap.size ≤ D ∧ V.heap[D]? = some (.deferred (some [])) from fun D h => ⟨(HD2.out D h).1, blk_below (HD2.out D h).2 HB_V.out⟩)
      have HB3 := Aside0.mk (below_step HB2.out HB_V.out)
      have HRV := Aside0.mk (Kd.C_drew (Kd.C_below HR6.out HB_V.out))
      clear HX2 HD2 y0 y1 y2 y3 y4 HR6
      refine wp_calm ?_
      refine start_ (n := 9) (S := fun w' => w'.cell? ⟨w.heap.size, 0, none⟩ = some (.int .i64 (i : Int)) ∧ w'.cell? ⟨w2.heap.size, 4, none⟩ = some (.slice A6 (rd_T35 l (k : Int)).f2.f2.length c6)) (ds := [8]) #[false, false, false, false, false, false, false, false, false] (by kernel_rfl) rfl rfl ⟨(blk_cell (blk_drew HX3.out) 0).trans rfl, (blk_cell (blk_drew V0.out) 4).trans rfl⟩ (fun hHeld => ?_)
      have VD := Aside0.mk (blk_drew V0.out)
      have HXD := Aside0.mk (blk_drew HX3.out)
      have HBD := Aside0.mk (below_drew1 HB3.out)
      have HDD := Aside0.mk (show ∀ D, D ∈ ds → w.heap.size ≤ D ∧ V.drew.heap[D]? = some (.deferred (some [])) from HD3.out)
      have hvs : w2.heap.size < V.drew.heap.size := blk_lt V0.out
      clear HB_V V0 HX3 HD3 HB3
      generalize V.drew = vd at VD HXD HBD HDD HRV hHeld hvs ⊢
      refine take_ (i := 0) (N := some 74) (v := ?_) (a' := ?_) #[true, false, false, false, false, false, false, false, false] rfl rfl (by kernel_rfl) (fun _ _ _ h => h) (Or.inl ⟨by rfl, ?_⟩) hHeld ?_ ?_
      rotate_left
      · rintro w' ⟨s0, s1⟩
        go_simp
        with_reducible rfl
      rotate_left
      · simp only [Act.put, List.setIfInBounds_toArray, List.set_cons_zero, List.set_cons_succ, i64_w, i32_w]
        rfl
      refine pure_ (i := 1) (N := some 75) (v := ?_) (a' := ?_) #[true, true, false, false, false, false, false, false, false] rfl rfl (by kernel_rfl) (fun _ _ _ h => h) (Or.inl ⟨by rfl, ?_⟩) ?_ ?_
      rotate_left
      · intro w'
        go_simp
        with_reducible rfl
      rotate_left
      · simp only [Act.put, List.setIfInBounds_toArray, List.set_cons_zero, List.set_cons_succ, i64_w, i32_w]
        rfl
      refine pure_ (i := 2) (N := some 76) (v := ?_) (a' := ?_) #[true, true, true, false, false, false, false, false, false] rfl rfl (by kernel_rfl) (fun _ _ _ h => h) (Or.inl ⟨by rfl, ?_⟩) ?_ ?_
      rotate_left
      · intro w'
        go_simp
        with_reducible rfl
      rotate_left
      · simp only [Act.put, List.setIfInBounds_toArray, List.set_cons_zero, List.set_cons_succ, i64_w, i32_w]
        rfl
      refine take_ (i := 3) (N := some 77) (v := ?_) (a' := ?_) #[true, true, true, true, false, false, false, false, false] rfl rfl (by kernel_rfl) (fun _ _ _ h => h) (Or.inl ⟨by rfl, ?_⟩) hHeld ?_ ?_
      rotate_left
      · rintro w' ⟨s0, s1⟩
        go_simp
        with_reducible rfl
      rotate_left
      · simp only [Act.put, List.setIfInBounds_toArray, List.set_cons_zero, List.set_cons_succ, i64_w, i32_w]
        rfl
      refine join_ (σ := Value × Nat) 1 #[true, true, true, true, true, true, true, true, false] (fun s => [(78, s.1), (11, .pointer (some ⟨s.2, 0, none⟩)), (79, .int .i64 (((rd_T35 l (k : Int)).f2.f2.filter ownB).length : Int)), (80, .int .i64 (Go.RowKit.wrap64 ((i : Int) - (((rd_T35 l (k : Int)).f2.f2.filter ownB).length : Int))))]) (fun s w' => (∃ A c, s.1 = .slice A ((rd_T35 l (k : Int)).f2.f2.filter ownB).length c) ∧ w2.heap.size < s.2 ∧ w'.heap[s.2]? = some (.cells #[.int .i64 0] 3 (0, 0)) ∧ Below w.heap.size w w' ∧ w'.heap[w.heap.size]? = some (.cells #[.int .i64 (i : Int)] 3 (0, 0)) ∧ w'.heap[w2.heap.size]? = some (.cells #[.int .i64 (rd_T35 l (k : Int)).f0, .bool (rd_T35 l (k : Int)).f1, .int .i64 (rd_T35 l (k : Int)).f2.f0, .bool (rd_T35 l (k : Int)).f2.f1, .slice A6 (rd_T35 l (k : Int)).f2.f2.length c6] 35 (0, 0)) ∧ (∀ D, D ∈ ds → w.heap.size ≤ D ∧ w'.heap[D]? = some (.deferred (some [])))) ?cont ?orders
      case orders =>
        intro hCont
        refine two_ (i := 4) (j := 7) (Ni := some 78) (Nj := some 11) #[true, true, true, true, true, false, false, false, false] #[true, true, true, true, false, false, false, true, false] rfl rfl rfl rfl (by kernel_rfl) (by decide) (by decide) (fun K hK => ?_) (fun K hK => ?_)
        · refine goes_ Try.func50 (by kernel_rfl) rfl #[.slice A6 (rd_T35 l (k : Int)).f2.f2.length c6, .func (.func 51) #[] #[]] (by rfl) rfl rfl (by (try simp only [List.map_toArray, List.map_cons, List.map_nil]); first | done | rfl) ?_
          refine (filter_calls 51 #[] ownB A6 c6 (rd_T35 l (k : Int)).f2.f2 _ (looks_own _) HRV.out (by have := vTw_len (vTree_at HV.out HKL.out); omega)).mono ?_
          rintro e w5 ⟨v5, rfl, hra, hb⟩
          refine ⟨_, rfl, ?_⟩
          obtain ⟨t0, t1⟩ := hHeld
          obtain ⟨A9, c9, rfl⟩ := Kd.R_slice hra
          refine hK.out _ _ ⟨(hb.cell (World.block_lt_of_cell? vd _ t0)).trans t0, (hb.cell (World.block_lt_of_cell? vd _ t1)).trans t1⟩ (fun hHeld => ?_)
          clear hK K t0 t1
          refine norm_ (a' := ?_) ?_ ?_
          rotate_left
          · show Act.put _ (some 78) _ = _
            simp only [Act.put, List.setIfInBounds_toArray, List.set_cons_zero, List.set_cons_succ, i64_w, i32_w]
            rfl
          skip
          refine pure_ (i := 5) (N := some 79) (v := ?_) (a' := ?_) #[true, true, true, true, true, true, false, false, false] rfl rfl (by kernel_rfl) (fun _ _ _ h => h) (Or.inl ⟨by rfl, ?_⟩) ?_ ?_
          rotate_left
          · intro w'
            go_simp
            with_reducible rfl
          rotate_left
          · simp only [Act.put, List.setIfInBounds_toArray, List.set_cons_zero, List.set_cons_succ, i64_w, i32_w]
            rfl
          refine pure_ (i := 6) (N := some 80) (v := ?_) (a' := ?_) #[true, true, true, true, true, true, true, false, false] rfl rfl (by kernel_rfl) (fun _ _ _ h => h) (Or.inl ⟨by rfl, ?_⟩) ?_ ?_
          rotate_left
          · intro w'
            go_simp
            with_reducible rfl
          rotate_left
          · simp only [Act.put, List.setIfInBounds_toArray, List.set_cons_zero, List.set_cons_succ, i64_w, i32_w]
            rfl
          refine one_ (i := 7) (N := some 11) #[true, true, true, true, true, true, true, true, false] rfl rfl (by kernel_rfl) (by decide) (fun K hK => ?_)
          refine box_step ?hg (N := 11) ?hd (cs := #[.int .i64 0]) (t := 3) ?hr ?_
          (case hd => rfl)
          (case hg => rfl)
          (case hr => first | (go_simp; done) | (go_simp; rfl))
          intro ga hga w6 hbox hb6
          obtain ⟨t0, t1⟩ := hHeld
          refine hK.out _ _ ⟨(hb6.cell (World.block_lt_of_cell? w5 _ t0)).trans t0, (hb6.cell (World.block_lt_of_cell? w5 _ t1)).trans t1⟩ (fun hHeld => ?_)
          have hs5 := hb.size
          refine norm_ ?_ (hCont (.slice A9 ((rd_T35 l (k : Int)).f2.f2.filter ownB).length c9, ga) w6 ⟨⟨_, _, rfl⟩, (show w2.heap.size < ga by omega), hbox, below_step (below_step HBD.out hb) hb6, blk_below (blk_below HXD.out hb) hb6, blk_below (blk_below VD.out hb) hb6, fun D h => ⟨(HDD.out D h).1, blk_below (blk_below (HDD.out D h).2 hb) hb6⟩⟩)
          rfl
        · refine box_step ?hg (N := 11) ?hd (cs := #[.int .i64 0]) (t := 3) ?hr ?_
          (case hd => rfl)
          (case hg => rfl)
          (case hr => first | (go_simp; done) | (go_simp; rfl))
          intro ga hga w5 hbox hb
          obtain ⟨t0, t1⟩ := hHeld
          refine hK.out _ _ ⟨(hb.cell (World.block_lt_of_cell? vd _ t0)).trans t0, (hb.cell (World.block_lt_of_cell? vd _ t1)).trans t1⟩ (fun hHeld => ?_)
          clear hK K t0 t1
          refine norm_ (a' := ?_) ?_ ?_
          rotate_left
          · show Act.put _ (some 11) _ = _
            simp only [Act.put, List.setIfInBounds_toArray, List.set_cons_zero, List.set_cons_succ, i64_w, i32_w]
            rfl
          refine one_ (i := 4) (N := some 78) #[true, true, true, true, true, false, false, true, false] rfl rfl (by kernel_rfl) (by decide) (fun K hK => ?_)
          refine goes_ Try.func50 (by kernel_rfl) rfl #[.slice A6 (rd_T35 l (k : Int)).f2.f2.length c6, .func (.func 51) #[] #[]] (by rfl) rfl rfl (by (try simp only [List.map_toArray, List.map_cons, List.map_nil]); first | done | rfl) ?_
          refine (filter_calls 51 #[] ownB A6 c6 (rd_T35 l (k : Int)).f2.f2 _ (looks_own _) (Kd.C_below HRV.out hb) (by have := vTw_len (vTree_at HV.out HKL.out); omega)).mono ?_
          rintro e w6 ⟨v5, rfl, hra, hb6⟩
          refine ⟨_, rfl, ?_⟩
          obtain ⟨t0, t1⟩ := hHeld
          obtain ⟨A9, c9, rfl⟩ := Kd.R_slice hra
          refine hK.out _ _ ⟨(hb6.cell (World.block_lt_of_cell? w5 _ t0)).trans t0, (hb6.cell (World.block_lt_of_cell? w5 _ t1)).trans t1⟩ (fun hHeld => ?_)
          clear hK K
          refine norm_ (a' := ?_) ?_ ?_
          rotate_left
          · show Act.put _ (some 78) _ = _
            simp only [Act.put, List.setIfInBounds_toArray, List.set_cons_zero, List.set_cons_succ, i64_w, i32_w]
            rfl
          skip
          refine pure_ (i := 5) (N := some 79) (v := ?_) (a' := ?_) #[true, true, true, true, true, true, false, true, false] rfl rfl (by kernel_rfl) (fun _ _ _ h => h) (Or.inl ⟨by rfl, ?_⟩) ?_ ?_
          rotate_left
          · intro w'
            go_simp
            with_reducible rfl
          rotate_left
          · simp only [Act.put, List.setIfInBounds_toArray, List.set_cons_zero, List.set_cons_succ, i64_w, i32_w]
            rfl
          refine pure_ (i := 6) (N := some 80) (v := ?_) (a' := ?_) #[true, true, true, true, true, true, true, true, false] rfl rfl (by kernel_rfl) (fun _ _ _ h => h) (Or.inl ⟨by rfl, ?_⟩) ?_ ?_
          rotate_left
          · intro w'
            go_simp
            with_reducible rfl
          rotate_left
          · simp only [Act.put, List.setIfInBounds_toArray, List.set_cons_zero, List.set_cons_succ, i64_w, i32_w]
            rfl
          refine norm_ ?_ (hCont (.slice A9 ((rd_T35 l (k : Int)).f2.f2.filter ownB).length c9, ga) w6 ⟨⟨_, _, rfl⟩, (show w2.heap.size < ga by omega), blk_below hbox hb6, below_step (below_step HBD.out hb) hb6, blk_below (blk_below HXD.out hb) hb6, blk_below (blk_below VD.out hb) hb6, fun D h => ⟨(HDD.out D h).1, blk_below (blk_below (HDD.out D h).2 hb) hb6⟩⟩)
          rfl
      case cont =>
        rintro ⟨v9, ga⟩ w6 ⟨⟨A9, c9, rfl⟩, hga, hbox, hb6, hx6, hv6, hd6⟩
        simp only [putAll, Act.put, List.setIfInBounds_toArray, List.set_cons_zero, List.set_cons_succ]
        dsimp only at hga hbox
        have HB6 := Aside0.mk hb6
        have HX6 := Aside0.mk hx6
        have HV6 := Aside0.mk hv6
        have HD6 := Aside0.mk hd6
        have HA6 := Aside0.mk hbox
        have HGA := Aside0.mk hga
        have z0 := (blk_cell hbox 0).trans rfl
        have fz0 := blk_frozen hbox 0
        clear hb6 hx6 hv6 hd6 hbox hga HBD VD HXD HDD HRV hHeld hvs
        rw [show Go.RowKit.wrap64 ((i : Int) - (((rd_T35 l (k : Int)).f2.f2.filter ownB).length : Int)) = ((i - ((rd_T35 l (k : Int)).f2.f2.filter ownB).length : Nat) : Int) by have := HAT.out.1; have := vTw_len (vTree_at HV.out HKL.out); have := HIL.out; unfold Go.RowKit.wrap64; omega]
        obtain ⟨at_, hat_⟩ : ∃ at_ : Nat, at_ = i - ((rd_T35 l (k : Int)).f2.f2.filter ownB).length := ⟨_, rfl⟩
        rw [← hat_]
        have HAT2 := Aside0.mk (show at_ < (inh (rd_T35 l (k : Int)).f1 0 (rd_T35 l (uu : Int)).f2.f2).length by rw [hat_]; exact HAT.out.2)
        have HATE := Aside0.mk hat_
        clear hat_
        skip
        refine last_ (i := 8) (N := none) #[true, true, true, true, true, true, true, true, true] rfl rfl (by kernel_rfl) (by decide) (fun K hK => ?_)
        refine skip_ (w1 := ?_) (by rfl) rfl ?_ ?_
        rotate_left
        · go_simp
          rfl
        refine hK.out _ _ ?_
        clear hK K
        refine done_ (by kernel_rfl) ?_
        refine calm_normal ?_
        obtain ⟨w7, hw7⟩ : ∃ w7, w7 = w6.setCell ⟨ga, 0, none⟩ (.int .i64 (at_ : Int)) := ⟨_, rfl⟩
        rw [← hw7]
        have hgw : w.heap.size ≤ ga := Nat.le_trans HB2.out.size (Nat.le_of_lt HGA.out)
        have HGW := Aside0.mk hgw
        have HA7 := Aside0.mk (show w7.heap[ga]? = some (.cells #[.int .i64 (at_ : Int)] 3 (0, 0)) by rw [hw7]; exact blk_put HA6.out 0 _ rfl)
        have HB7 := Aside0.mk (show Below w.heap.size w w7 by rw [hw7]; exact HB6.out.setCell (p := ⟨ga, 0, none⟩) hgw _)
        have hx2 := Nat.lt_of_lt_of_le (show w.heap.size < w2.heap.size from HX2L.out) (Nat.le_of_lt HGA.out)
        have HX7 := Aside0.mk (show w7.heap[w.heap.size]? = some (.cells #[.int .i64 (i : Int)] 3 (0, 0)) by rw [hw7]; exact blk_far HX6.out (show w.heap.size ≠ ga by omega) _)
        have HV7 := Aside0.mk (show w7.heap[w2.heap.size]? = some (.cells #[.int .i64 (rd_T35 l (k : Int)).f0, .bool (rd_T35 l (k : Int)).f1, .int .i64 (rd_T35 l (k : Int)).f2.f0, .bool (rd_T35 l (k : Int)).f2.f1, .slice A6 (rd_T35 l (k : Int)).f2.f2.length c6] 35 (0, 0)) by rw [hw7]; exact blk_far HV6.out (show w2.heap.size ≠ ga by have := HGA.out; omega) _)
        have HD7 := Aside0.mk (show ∀ D, D ∈ ds → w.heap.size ≤ D ∧ w7.heap[D]? = some (.deferred (some [])) by
          intro D h
          refine ⟨(HD6.out D h).1, ?_⟩
          rw [hw7]
          exact (KeepsOthers.setCell w6 ⟨ga, 0, none⟩ _).same _ _ (HD6.out D h).2 rfl)
        clear hw7 hx2 z0 fz0 HA6 HB6 HX6 HV6 HD6
        obtain ⟨ad', A7, c7, hA, _, _, y2, y3, y4, hl7, hr7⟩ := at_T35 HR.out (uu : Int) (by omega) (by have := HKL.out; omega)
        cases hA
        simp only [Int.toNat_natCast] at y2 y3 y4
        have Y2 := Aside0.mk ((HB7.out.cell (World.block_lt_of_cell? w _ y2)).trans y2)
        have Y3 := Aside0.mk ((HB7.out.cell (World.block_lt_of_cell? w _ y3)).trans y3)
        have Y4 := Aside0.mk ((HB7.out.cell (World.block_lt_of_cell? w _ y4)).trans y4)
        have HR7 := Aside0.mk hr7
        have kU : uu < l.length := by have := HKL.out; omega
        have KU := Aside0.mk kU
        clear y2 y3 y4 hl7 hr7
        go_upto_region 9 with (fail)
        refine wp_calm ?_
        refine start_ (n := 9) (S := fun w' => w'.cell? ⟨w2.heap.size, 0, none⟩ = some (.int .i64 (uu : Int)) ∧ w'.cell? ⟨w2.heap.size, 1, none⟩ = some (.bool (rd_T35 l (k : Int)).f1) ∧ w'.cell? ⟨(ad.add (uu * 5)).block, (ad.add (uu * 5)).off + 2, none⟩ = some (.int .i64 (rd_T35 l (uu : Int)).f2.f0) ∧ w'.cell? ⟨(ad.add (uu * 5)).block, (ad.add (uu * 5)).off + 3, none⟩ = some (.bool (rd_T35 l (uu : Int)).f2.f1) ∧ w'.cell? ⟨(ad.add (uu * 5)).block, (ad.add (uu * 5)).off + 4, none⟩ = some (.slice A7 (rd_T35 l (uu : Int)).f2.f2.length c7)) (ds := []) #[false, false, false, false, false, false, false, false, false] (by kernel_rfl) rfl rfl ⟨(blk_cell (blk_drew HV7.out) 0).trans (by rw [← HU.out]; rfl), (blk_cell (blk_drew HV7.out) 1).trans rfl, Y2.out, Y3.out, Y4.out⟩ (fun hHeld => ?_)
        have HAD := Aside0.mk (blk_drew HA7.out)
        have HBD := Aside0.mk (below_drew1 HB7.out)
        have HXD := Aside0.mk (blk_drew HX7.out)
        have HVD := Aside0.mk (blk_drew HV7.out)
        have HDD := Aside0.mk (show ∀ D, D ∈ ds → w.heap.size ≤ D ∧ w7.drew.heap[D]? = some (.deferred (some [])) from HD7.out)
        clear HA7 HB7 HX7 HV7 HD7 Y2 Y3 Y4
        generalize w7.drew = wd7 at HAD HBD HXD HVD HDD hHeld ⊢
        refine pure_ (i := 0) (N := some 81) (v := ?_) (a' := ?_) #[true, false, false, false, false, false, false, false, false] rfl rfl (by kernel_rfl) (fun _ _ _ h => h) (Or.inl ⟨by rfl, ?_⟩) ?_ ?_
        rotate_left
        · intro w'
          go_simp
          with_reducible rfl
        rotate_left
        · simp only [Act.put, List.setIfInBounds_toArray, List.set_cons_zero, List.set_cons_succ, i64_w, i32_w]
          rfl
        refine pure_ (i := 1) (N := some 82) (v := ?_) (a' := ?_) #[true, true, false, false, false, false, false, false, false] rfl rfl (by kernel_rfl) (fun _ _ _ h => h) (Or.inl ⟨by rfl, ?_⟩) ?_ ?_
        rotate_left
        · intro w'
          go_simp
          with_reducible rfl
        rotate_left
        · simp only [Act.put, List.setIfInBounds_toArray, List.set_cons_zero, List.set_cons_succ, i64_w, i32_w]
          rfl
        refine take_ (i := 2) (N := some 83) (v := ?_) (a' := ?_) #[true, true, true, false, false, false, false, false, false] rfl rfl (by kernel_rfl) (fun _ _ _ h => h) (Or.inl ⟨by rfl, ?_⟩) hHeld ?_ ?_
        rotate_left
        · rintro w' ⟨s0, s1, s2, s3, s4⟩
          go_simp
          with_reducible rfl
        rotate_left
        · simp only [Act.put, List.setIfInBounds_toArray, List.set_cons_zero, List.set_cons_succ, i64_w, i32_w]
          rfl
        refine pure_ (i := 3) (N := some 84) (v := ?_) (a' := ?_) #[true, true, true, true, false, false, false, false, false] rfl rfl (by kernel_rfl) (fun _ _ _ h => h) (Or.inl ⟨by rfl, ?_⟩) ?_ ?_
        rotate_left
        · intro w'
          go_simp
          with_reducible rfl
        rotate_left
        · simp only [Act.put, List.setIfInBounds_toArray, List.set_cons_zero, List.set_cons_succ, i64_w, i32_w]
          rfl
        refine pure_ (i := 4) (N := some 85) (v := ?_) (a' := ?_) #[true, true, true, true, true, false, false, false, false] rfl rfl (by kernel_rfl) (fun _ _ _ h => h) (Or.inl ⟨by rfl, ?_⟩) ?_ ?_
        rotate_left
        · intro w'
          go_simp
          with_reducible rfl
        rotate_left
        · simp only [Act.put, List.setIfInBounds_toArray, List.set_cons_zero, List.set_cons_succ, i64_w, i32_w]
          rfl
        refine take_ (i := 5) (N := some 86) (v := ?_) (a' := ?_) #[true, true, true, true, true, true, false, false, false] rfl rfl (by kernel_rfl) (fun _ _ _ h => h) (Or.inl ⟨by rfl, ?_⟩) hHeld ?_ ?_
        rotate_left
        · rintro w' ⟨s0, s1, s2, s3, s4⟩
          go_simp
          with_reducible rfl
        rotate_left
        · simp only [Act.put, List.setIfInBounds_toArray, List.set_cons_zero, List.set_cons_succ, i64_w, i32_w]
          rfl
        refine pure_ (i := 6) (N := some 87) (v := ?_) (a' := ?_) #[true, true, true, true, true, true, true, false, false] rfl rfl (by kernel_rfl) (fun _ _ _ h => h) (Or.inl ⟨by rfl, ?_⟩) ?_ ?_
        rotate_left
        · intro w'
          go_simp
          with_reducible rfl
        rotate_left
        · simp only [Act.put, List.setIfInBounds_toArray, List.set_cons_zero, List.set_cons_succ, i64_w, i32_w]
          rfl
        refine take_ (i := 7) (N := some 88) (v := ?_) (a' := ?_) #[true, true, true, true, true, true, true, true, false] rfl rfl (by kernel_rfl) (fun _ _ _ h => h) (Or.inl ⟨by rfl, ?_⟩) hHeld ?_ ?_
        rotate_left
        · rintro w' ⟨s0, s1, s2, s3, s4⟩
          go_simp
          with_reducible rfl
        rotate_left
        · simp only [Act.put, List.setIfInBounds_toArray, List.set_cons_zero, List.set_cons_succ, i64_w, i32_w]
          rfl
        refine one_ (i := 8) (N := some 89) #[true, true, true, true, true, true, true, true, true] rfl rfl (by kernel_rfl) (by decide) (fun K hK => ?_)
        refine goes_ Try.func52 (by kernel_rfl) rfl #[.agg #[.int .i64 (rd_T35 l (uu : Int)).f2.f0, .bool (rd_T35 l (uu : Int)).f2.f1, .slice A7 (rd_T35 l (uu : Int)).f2.f2.length c7], .bool (rd_T35 l (k : Int)).f1] (by rfl) rfl rfl (by (try simp only [List.map_toArray, List.map_cons, List.map_nil]); first | done | rfl) ?_
        refine (inherited_calls _ _ A7 _ c7 _ _).mono ?_
        rintro e w8 ⟨rfl, hw8⟩
        refine ⟨_, rfl, ?_⟩
        have hb8 : Below wd7.heap.size wd7 w8 := by rw [hw8]; exact below_alloc (below_alloc (Below.refl _ _) _) _
        have HP8 := Aside0.mk (show w8.heap[wd7.heap.size]? = some (.cells #[.int .i64 (rd_T35 l (uu : Int)).f2.f0, .bool (rd_T35 l (uu : Int)).f2.f1, .slice A7 (rd_T35 l (uu : Int)).f2.f2.length c7] 33 (0, 0)) by rw [hw8]; exact blk_alloc (blk_new _ _) _)
        have HQ8 := Aside0.mk (show w8.heap[wd7.heap.size + 1]? = some (.cells #[.bool (rd_T35 l (k : Int)).f1] 4 (0, 0)) by rw [hw8]; exact blk_lit _ _ _)
        have HA8 := Aside0.mk (blk_below HAD.out hb8)
        have HB8 := Aside0.mk (below_step HBD.out hb8)
        have HX8 := Aside0.mk (blk_below HXD.out hb8)
        have HV8 := Aside0.mk (blk_below HVD.out hb8)
        have HD8 := Aside0.mk (show ∀ D, D ∈ ds → w.heap.size ≤ D ∧ w8.heap[D]? = some (.deferred (some [])) from fun D h => ⟨(HDD.out D h).1, blk_below (HDD.out D h).2 hb8⟩)
        obtain ⟨t0, t1, t2, t3, t4⟩ := hHeld
        refine hK.out _ _ ⟨(hb8.cell (World.block_lt_of_cell? wd7 _ t0)).trans t0, (hb8.cell (World.block_lt_of_cell? wd7 _ t1)).trans t1, (hb8.cell (World.block_lt_of_cell? wd7 _ t2)).trans t2, (hb8.cell (World.block_lt_of_cell? wd7 _ t3)).trans t3, (hb8.cell (World.block_lt_of_cell? wd7 _ t4)).trans t4⟩ (fun hHeld => ?_)
        clear hK K
        refine norm_ (a' := ?_) ?_ ?_
        rotate_left
        · show Act.put _ (some 89) _ = _
          simp only [Act.put, List.setIfInBounds_toArray, List.set_cons_zero, List.set_cons_succ, i64_w, i32_w]
          rfl
        refine done_ (by kernel_rfl) ?_
        refine calm_normal ?_
        clear hHeld t0 t1 t2 t3 t4 hw8 hb8 HAD HBD HXD HVD HDD
        go_wp2
        have hsz : wd7.heap.size + 1 < w8.heap.size := blk_lt HQ8.out
        have HDL := Aside0.mk (show ∀ D, D ∈ ds → D < w8.heap.size ∧ w8.heap[D]? = some (.deferred (some [])) from fun D h => ⟨(Array.getElem?_eq_some_iff.1 (HD8.out D h).2).1, (HD8.out D h).2⟩)
        have HSZ := Aside0.mk (show w.heap.size < ga ∧ w2.heap.size < ga by have := HX2L.out; have := HGA.out; omega)
        have he := enters_ Try.func73 (by kernel_rfl) rfl
        refine range_own (gf := 73) (lb := #[.pointer (some ⟨wd7.heap.size + 1, 0, none⟩), .pointer (some ⟨wd7.heap.size, 0, none⟩)]) rfl he (fun _ => rfl)
          (inherited_gives (rd_T35 l (k : Int)).f1 _ _ A7 c7 (rd_T35 l (uu : Int)).f2.f2 (wd7.heap.size + 1) wd7.heap.size w w8 HB8.out HR7.out HQ8.out HP8.out) (fun h k => h.trans k) (fun W' l' o' o'' hl h ho => kept_turn (Nat.le_trans HB8.out.size hl) h ho)
          (fun pre W' => pre.length ≤ at_ ∧ W'.heap[ga]? = some (.cells #[.int .i64 ((at_ - pre.length : Nat) : Int)] 3 (0, 0)) ∧ W'.heap[w.heap.size]? = some (.cells #[.int .i64 (i : Int)] 3 (0, 0)) ∧ W'.heap[w2.heap.size]? = some (.cells #[.int .i64 (rd_T35 l (k : Int)).f0, .bool (rd_T35 l (k : Int)).f1, .int .i64 (rd_T35 l (k : Int)).f2.f0, .bool (rd_T35 l (k : Int)).f2.f1, .slice A6 (rd_T35 l (k : Int)).f2.f2.length c6] 35 (0, 0)) ∧ (∀ D, D ∈ ds → D < w8.heap.size ∧ W'.heap[D]? = some (.deferred (some []))) ∧ Below w.heap.size w W') (fun cc pre W' => cc = .exit 2 ∧ W'.heap[w.heap.size]? = some (.cells #[.int .i64 ((((inh (rd_T35 l (k : Int)).f1 0 (rd_T35 l (uu : Int)).f2.f2).map (·.1)).getD at_ 0 : Nat) : Int)] 3 (0, 0)) ∧ W'.heap[w2.heap.size]? = some (.cells #[.int .i64 (rd_T35 l (k : Int)).f0, .bool (rd_T35 l (k : Int)).f1, .int .i64 (rd_T35 l (k : Int)).f2.f0, .bool (rd_T35 l (k : Int)).f2.f1, .slice A6 (rd_T35 l (k : Int)).f2.f2.length c6] 35 (0, 0)) ∧ (∀ D, D ∈ ds → D < w8.heap.size ∧ W'.heap[D]? = some (.deferred (some []))) ∧ Below w.heap.size w W') ?hI ?hIx ?h0 ?round ?done ?stop
        case hI =>
          rintro s X Y row ⟨h1, h2, h3, h4, h5, h6⟩ hg hrr
          exact ⟨h1, blk_turn h2 hg (fun r e => (hrr r e).2), blk_turn h3 hg (fun r e => (hrr r e).2), blk_turn h4 hg (fun r e => (hrr r e).2), fun D h => ⟨(h5 D h).1, (hg.block D (Array.getElem?_eq_some_iff.1 (h5 D h).2).1 (fun e => by have := (hrr D e.symm).1; have := (h5 D h).1; omega)).trans (h5 D h).2⟩, below_turn h6 hg h6.size (fun r e => Nat.le_trans HB8.out.size (hrr r e).1)⟩
        case hIx =>
          rintro cc s X Y row ⟨h1, h3, h4, h5, h6⟩ hg hrr
          exact ⟨h1, blk_turn h3 hg (fun r e => (hrr r e).2), blk_turn h4 hg (fun r e => (hrr r e).2), fun D h => ⟨(h5 D h).1, (hg.block D (Array.getElem?_eq_some_iff.1 (h5 D h).2).1 (fun e => by have := (hrr D e.symm).1; have := (h5 D h).1; omega)).trans (h5 D h).2⟩, below_turn h6 hg h6.size (fun r e => Nat.le_trans HB8.out.size (hrr r e).1)⟩
        case h0 => exact ⟨Nat.zero_le _, HA8.out, HX8.out, HV8.out, HDL.out, HB8.out⟩
        case round =>
          rintro ly pre x W' K hl hlt ⟨r, hr⟩ hI hpre hK
          refine region_in (fun ⟨_, _, h⟩ => h) (by simp) ?_
          go_wp2
          refine hK _ _ ((KeepsOthers.refl _).from _) (Kept.refl _ _) (fun W2 hgr hlr => ?_)
          have hturn : ∀ r, some ly = some r → ∃ o : Obj, W'.heap[r]? = some o ∧ o.isCells = false := fun r e => by cases e; obtain ⟨r, hr⟩ := hlr; exact ⟨_, hr, rfl⟩
          obtain ⟨h1, h2, h3, h4, h5, h6⟩ := hI
          have H1 := Aside0.mk h1
          have H2 := Aside0.mk (blk_turn h2 hgr hturn)
          have H3 := Aside0.mk (blk_turn h3 hgr hturn)
          have H4 := Aside0.mk (blk_turn h4 hgr hturn)
          have H5 := Aside0.mk (show ∀ D, D ∈ ds → D < w8.heap.size ∧ W2.heap[D]? = some (.deferred (some [])) from fun D h => ⟨(h5 D h).1, (hgr.block D (Array.getElem?_eq_some_iff.1 (h5 D h).2).1 (fun e => by cases e; have := (h5 ly h).1; omega)).trans (h5 D h).2⟩)
          have H6 := Aside0.mk (below_turn h6 hgr h6.size (fun r e => by cases e; exact Nat.le_trans HB8.out.size hl))
          have HPRE := Aside0.mk (prefix_at hpre)
          clear h1 h2 h3 h4 h5 h6 hgr hlr hturn hr hpre hK
          have z0 := (blk_cell H2.out 0).trans rfl
          have fz0 := blk_frozen H2.out 0
          have fx0 := blk_frozen H3.out 0
          have xx0 := (blk_cell H3.out 0).trans rfl
          refine wpIn_block ?_
          refine wpIn_seq ?_
          refine wpIn_seq ?_
          refine region_in (fun ⟨_, _, h⟩ => h) (by simp) ?_
          rcases Nat.lt_or_ge pre.length at_ with hpl | hpl
          · have hz : ¬ ((at_ - pre.length : Nat) : Int) = 0 := by omega
            have hz2 : decide (((at_ - pre.length : Nat) : Int) = 0) = false := by simpa using hz
            go_wp2
            refine wpIn_cond_false (by show Value.bool _ = Value.bool false; congr 1) ?_
            refine wpIn_skip ?_
            refine region_in (fun ⟨_, _, h⟩ => h) (by simp) ?_
            go_wp2
            have e9 : Go.RowKit.wrap64 (((at_ - pre.length : Nat) : Int) - 1) = ((at_ - (pre ++ [x]).length : Nat) : Int) := by
              have := HAT2.out
              have := inh_length (rd_T35 l (k : Int)).f1 (rd_T35 l (uu : Int)).f2.f2 0
              have := vTw_len (vTree_at HV.out KU.out)
              rw [List.length_append, List.length_singleton]
              unfold Go.RowKit.wrap64
              omega
            have hne1 : w.heap.size ≠ ga := by have := HSZ.out; omega
            have hne2 : w2.heap.size ≠ ga := by have := HSZ.out; omega
            refine ⟨(KeepsOthers.setCell _ _ _).from _, (kept_grown (n₀ := w.heap.size) (setCell_grown W2 ga 0 _) H6.out.size (fun r e => by cases e; exact ⟨HGW.out, _, _, H2.out, by decide, by decide, by decide⟩)).1, ?_, ?_, blk_far H3.out hne1 _, blk_far H4.out hne2 _, fun D h => ⟨(H5.out D h).1, (KeepsOthers.setCell W2 _ _).same _ _ (H5.out D h).2 rfl⟩, H6.out.setCell (p := ⟨ga, 0, none⟩) HGW.out _⟩
            · rw [List.length_append, List.length_singleton]; omega
            · rw [← e9]; exact blk_put H2.out 0 _ (by first | rfl | (simp [i64_w]; done))
          · have hz : at_ - pre.length = 0 := by omega
            rw [hz] at z0
            go_wp2
            refine wpIn_cond_true (by rfl) ?_
            refine wpIn_seq ?_
            refine region_in (fun ⟨_, _, h⟩ => h) (by simp) ?_
            go_wp2
            refine wpIn_exit ?_
            have hx : x.1 = ((inh (rd_T35 l (k : Int)).f1 0 (rd_T35 l (uu : Int)).f2.f2).map (·.1)).getD at_ 0 := by
              have h1 := HPRE.out.2
              have h2 : pre.length = at_ := by have := H1.out; omega
              rw [h2] at h1
              rw [List.getD_eq_getElem?_getD, List.getElem?_map, h1]
              rfl
            have hne1 : ga ≠ w.heap.size := by have := HSZ.out; omega
            have hne2 : w2.heap.size ≠ w.heap.size := by have := HX2L.out; omega
            refine ⟨(KeepsOthers.setCell _ _ _).from _, rfl, ?_, blk_far H4.out hne2 _, fun D h => ⟨(H5.out D h).1, (KeepsOthers.setCell W2 _ _).same _ _ (H5.out D h).2 rfl⟩, H6.out.setCell (p := ⟨w.heap.size, 0, none⟩) (Nat.le_refl _) _⟩
            rw [← hx]
            exact blk_put H3.out 0 _ rfl
        case done =>
          rintro D W' hD ⟨h1, _⟩ _
          exact absurd h1 (by have := HAT2.out; omega)
        case stop =>
          rintro D cc pre W' hD _ ⟨rfl, h3, h4, h5, h6⟩ hKD
          have HX9 := Aside0.mk h3
          have HV9 := Aside0.mk h4
          have HD9 := Aside0.mk h5
          have HB9 := Aside0.mk h6
          have HKD := Aside0.mk hKD
          have HDN := Aside0.mk hD
          have v0 : W'.cell? ⟨w2.heap.size, 0, none⟩ = some (.int .i64 (uu : Int)) := (blk_cell h4 0).trans (by rw [← HU.out]; rfl)
          clear h3 h4 h5 h6 hKD hD
          go_wp2
          have hIL : ((inh (rd_T35 l (k : Int)).f1 0 (rd_T35 l (uu : Int)).f2.f2).map (·.1)).getD at_ 0 < (rd_T35 l (uu : Int)).f2.f2.length := by
            have h1 := HAT2.out
            have h2 := inh_lt (rd_T35 l (k : Int)).f1 (rd_T35 l (uu : Int)).f2.f2 0 _ (List.getElem_mem h1)
            rw [List.getD_eq_getElem?_getD, List.getElem?_map, List.getElem?_eq_getElem h1]
            simpa using h2.2
          refine ⟨uu, hu1, hJ _ _ _ ⟨uu, ((inh (rd_T35 l (k : Int)).f1 0 (rd_T35 l (uu : Int)).f2.f2).map (·.1)).getD at_ 0, D :: ds, rfl, rfl, rfl, rfl, rfl, rfl, KU, ⟨hIL⟩, ⟨?_⟩, HB9, HX9, ⟨?_, ?_⟩⟩⟩
          · rw [HSP.out, srcF_step HV.out HKL.out (by simpa using k1) HPF.out HH.out HU.out hu1, HATE.out]
          · exact List.nodup_cons.2 ⟨fun h => by have := (HD9.out D h).1; have := HDN.out; omega, HD.out.1⟩
          · intro D' h
            rcases List.mem_cons.1 h with rfl | h
            · exact ⟨by have := HDN.out; have := HSZ.out.1; have := blk_lt HA8.out; omega, HKD.out⟩
            · exact ⟨(HD8.out D' h).1, (HD9.out D' h).2⟩

set_option maxRecDepth 100000 in
set_option maxHeartbeats 2000000 in
theorem Source_calls (A : Option Addr) (c : Nat) (l : List S35) (k i : Int) (w : World) (hr : Kd.C k35 w A l.length l) :
    Calls Try.prog 16 #[.slice A l.length c, .int .i64 k, .int .i64 i] w (SourcePost (sSource l k i) w) := by
  by_cases hb : vTree l = true ∧ firstBad l < 0
  · by_cases hn : inTree l k i
    · obtain ⟨kk, rfl⟩ : ∃ kk : Nat, k = kk := ⟨k.toNat, by unfold inTree at hn; omega⟩
      obtain ⟨ii, rfl⟩ : ∃ ii : Nat, i = ii := ⟨i.toNat, by unfold inTree at hn; omega⟩
      unfold inTree at hn
      exact Source_in A c l kk ii w hr hb.1 hb.2 (by omega) (by omega)
    · exact Source_none A c l k i w hr hb.1 hb.2 hn
  · exact Source_bad A c l k i w hr hb
end Go.Proofs.Ytgocgjfaiddejaa.M
