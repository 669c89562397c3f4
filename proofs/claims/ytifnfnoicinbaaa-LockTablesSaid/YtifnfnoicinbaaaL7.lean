/- LockTables: the walk. -/
import Derived.Test.YtifnfnoicinbaaaQ4
import Derived.Test.YtifnfnoicinbaaaD2
import Derived.Test.YtifnfnoicinbaaaF20
import Derived.Test.YtifnfnoicinbaaaG1
import Derived.SizedLaws
namespace Go.Proofs.Ytifnfnoicinbaaa.M
open Go.RowKit Go.Proofs.YtifnfnoicinbaaaW.PrintWords Go.Proofs.YtifnfnoicinbaaaW.PrintLast Go.Proofs.YtifnfnoicinbaaaW.PrintMore
set_option linter.unusedVariables false
set_option linter.unusedSimpArgs false
set_option linter.unnecessarySimpa false

theorem conflict_calls (a b : S24) (w : World) : Calls Try.prog 14 #[.agg #[.int .i64 a.f0, .int .i64 a.f1, .int .i64 a.f2, .int .i64 a.f3, .bool a.f4], .agg #[.int .i64 b.f0, .int .i64 b.f1, .int .i64 b.f2, .int .i64 b.f3, .bool b.f4]] w fun e w' => e = .returned (.bool (cfL a b)) ∧ Below w.heap.size w w' :=
  lock_Conflict.calls a.f0 a.f1 a.f2 a.f3 a.f4 b.f0 b.f1 b.f2 b.f3 b.f4 (cfL a b) w (conflict_f a b)
section
open Go.ChangeShapes Go.WideShapes Go.Deep Go.Joins
variable {H : Type} {enc : TypeId × Value → H} {w : World} {base : Nat} {spare : Nat → Bool} {held : Bool}
theorem ints_of {fuel : Nat} {cs : List Value} {x : DataW H × List MemPlace} (h : DataW.trod enc Try.prog w base spare held fuel 31 cs = some x) : ∃ A c, ∃ l : List Int, cs = [.slice A l.length c] ∧ l.length ≤ c ∧ kI.C w A l.length l := by
  obtain ⟨A, c, l, h1, h2, h3, _⟩ := C_of_trodP (k := kI) (p := fun _ => True) Try.underlying31 sz3 (fun n cs x h => by
    obtain ⟨n0, e0, _, _⟩ := DataW.trod_int Try.underlying3 h
    exact ⟨n0, e0, trivial⟩) h
  exact ⟨A, c, l, h1, h2, h3⟩
theorem locks_of {fuel : Nat} {cs : List Value} {x : DataW H × List MemPlace} (h : DataW.trod enc Try.prog w base spare held fuel 27 cs = some x) : ∃ A c, ∃ l : List S24, cs = [.slice A l.length c] ∧ l.length ≤ c ∧ k24.C w A l.length l := by
  obtain ⟨A, c, l, h1, h2, h3, _⟩ := C_of_trodP (k := k24) (p := fun _ => True) Try.underlying27 sz24 (fun n cs x h => by
    obtain ⟨y, hy⟩ := lock_of _ _ _ h
    exact ⟨y, hy, trivial⟩) h
  exact ⟨A, c, l, h1, h2, h3⟩
theorem sz27 : Try.prog.cellsOf 27 = 1 := by kernel_rfl
theorem sz29 : Try.prog.cellsOf 29 = 2 := by kernel_rfl
theorem parts2 {cs : List Value} {a b : Value} (h : cs.length = 2) (h0 : (cs.drop 0).take 1 = [a]) (h1 : (cs.drop 1).take 1 = [b]) : cs = [a, b] := by
  match cs, h with
  | [c0, c1], _ => simp at h0 h1; simp [h0, h1]
theorem table_of {n : Nat} {cs : List Value} {x : DataW H × List MemPlace} (h : DataW.trod enc Try.prog w base spare held n 29 cs = some x) :
    ∃ A c, ∃ l : List S24, ∃ B d, ∃ m : List S24, cs = [.slice A l.length c, .slice B m.length d] ∧ l.length ≤ c ∧ m.length ≤ d ∧ k24.C w A l.length l ∧ k24.C w B m.length m := by
  obtain ⟨y0, y1, m, rfl, hl, t0, t1⟩ := trod_struct2 Try.underlying29 h
  obtain ⟨A, c, l, e0, h1, h2⟩ := locks_of t0
  obtain ⟨B, d, m, e1, h3, h4⟩ := locks_of t1
  rw [sz27] at e0 e1
  rw [sz29] at hl
  exact ⟨A, c, l, B, d, m, parts2 hl e0 e1, h1, h3, h2, h4⟩
theorem locks_len {fuel : Nat} {cs : List Value} {x : DataW H × List MemPlace} (h : DataW.trod enc Try.prog w base spare held fuel 27 cs = some x) {A : Option Addr} {c n : Nat} (hcs : cs = [.slice A n c]) : n = 0 ∨ ∃ e s, x.1 = .slice e s ∧ e.length = n := by
  rcases open_slice Try.underlying27 h with ⟨h1, _⟩ | ⟨a, len, cap, m, k, D, Pl, h1, _, _, _, _, hx, _⟩
  · rw [hcs] at h1
    simp at h1
    exact .inl h1.2.1
  · rw [hcs] at h1
    simp at h1
    exact .inr ⟨_, _, by rw [hx], by simp [h1.2.1]⟩
theorem slice_small {n : Nat} {d : DataW H} (h : n = 0 ∨ ∃ e s, d = .slice e s ∧ e.length = n) (hw : ∀ k ∈ d.weights Try.prog 27, k ≤ reachBytes) : n ≤ 140737488355328 := by
  rcases h with rfl | ⟨e, s, rfl, rfl⟩
  · omega
  · have h1 := hw ((e.length + s.length) * Try.prog.bytesOf 24) (by simp [DataW.weights, Try.underlying27])
    have h2 : Try.prog.bytesOf 24 = 40 := by kernel_rfl
    rw [h2] at h1
    have := reachBytes_lt
    omega
theorem table_small {fuel : Nat} {cs : List Value} {x : DataW H × List MemPlace} (h : DataW.trod enc Try.prog w base spare held fuel 29 cs = some x) (hw : ∀ k ∈ x.1.weights Try.prog 29, k ≤ reachBytes) {A B : Option Addr} {n c m d : Nat} (hcs : cs = [.slice A n c, .slice B m d]) : n ≤ 140737488355328 ∧ m ≤ 140737488355328 := by
  obtain ⟨y0, y1, k, rfl, hl, t0, t1⟩ := trod_struct2 Try.underlying29 h
  have hws : ∀ k, k ∈ y0.1.weights Try.prog 27 ∨ k ∈ y1.1.weights Try.prog 27 → k ≤ reachBytes := fun k hk => hw k (by
    simp only [DataW.weights, Try.underlying29, List.map_cons, List.map_nil, DataW.weightsEach, List.append_nil, List.mem_append]
    exact hk)
  subst hcs
  refine ⟨slice_small (locks_len t0 (A := A) (c := c) ?_) (fun k hk => hws k (.inl hk)), slice_small (locks_len t1 (A := B) (c := d) ?_) (fun k hk => hws k (.inr hk))⟩
  · rw [sz27]; rfl
  · rw [sz27]; rfl
end
theorem RI_empty (W : World) (base : Nat) (hb : base ≤ W.heap.size) : kI.R 3 (W.alloc (.cells #[] 3)) base (fun _ => True) (.slice (some ⟨W.heap.size, 0, none⟩) 0 0) [] :=
  ⟨fun _ _ => trivial, [], World.ownsRow_lit (size := 1) W #[] 0 hb (by simp) (by simp), Reps.none _ _⟩

/-- Small enough to be looked at. -/
def smallB (H W : List S24) : Bool := decide (H.length + W.length ≤ 40) || decide (400 < H.length + W.length) && decide (H.length + W.length ≤ 420)
theorem small_f {H W : List S24} (h1 : H.length ≤ 140737488355328) (h2 : W.length ≤ 140737488355328) : archivoltlaw31_small.f H W = some (smallB H W) := by
  unfold archivoltlaw31_small.f smallB
  have e : wrap64 ((H.length : Int) + (W.length : Int)) = ((H.length + W.length : Nat) : Int) := by unfold wrap64; omega
  rw [e]
  generalize H.length + W.length = n
  by_cases h3 : n ≤ 40
  · rw [if_pos (by omega), decide_eq_true h3]; rfl
  · rw [if_neg (by omega), decide_eq_false h3]
    by_cases h4 : 400 < n
    · rw [if_pos (by omega), decide_eq_true h4]
      by_cases h5 : n ≤ 420
      · rw [decide_eq_true h5, decide_eq_true (show ((n : Nat) : Int) ≤ 420 by omega)]; rfl
      · rw [decide_eq_false h5, decide_eq_false (show ¬ ((n : Nat) : Int) ≤ 420 by omega)]; rfl
    · rw [if_neg (by omega), decide_eq_false h4]; rfl
theorem small_len {H W : List S24} (h : smallB H W = true) : H.length + W.length ≤ 420 := by
  unfold smallB at h
  simp only [Bool.or_eq_true, Bool.and_eq_true, decide_eq_true_eq] at h
  omega
set_option maxRecDepth 100000 in
set_option maxHeartbeats 8000000 in
theorem tables_walk (A : Option Addr) (c : Nat) (H : List S24) (B : Option Addr) (d : Nat) (W : List S24) (a b : S24) (w : World) (l1 : H.length ≤ c) (l2 : W.length ≤ d) (h1 : k24.C w A H.length H) (h2 : k24.C w B W.length W) (hsz : H.length ≤ 140737488355328 ∧ W.length ≤ 140737488355328) :
    Calls Try.prog 7 #[.agg #[.slice A H.length c, .slice B W.length d], .agg #[.int .i64 a.f0, .int .i64 a.f1, .int .i64 a.f2, .int .i64 a.f3, .bool a.f4], .agg #[.int .i64 b.f0, .int .i64 b.f1, .int .i64 b.f2, .int .i64 b.f3, .bool b.f4]] w fun e w' => e = .returned (.bool true) ∧ Below w.heap.size w w' := by
  have HC1 := Aside0.mk h1
  have HC2 := Aside0.mk h2
  have HSZ := Aside0.mk hsz
  clear h1 h2
  go_enter Try.func7, Try.ntmps7
  go_upto_region 1 with (fail)
  have hb_ := below_alloc (below_alloc (below_alloc (Below.refl _ w) (.cells #[.slice A H.length c, .slice B W.length d] 29)) (.cells #[.int .i64 a.f0, .int .i64 a.f1, .int .i64 a.f2, .int .i64 a.f3, .bool a.f4] 24)) (.cells #[.int .i64 b.f0, .int .i64 b.f1, .int .i64 b.f2, .int .i64 b.f3, .bool b.f4] 24)
  have hG0_ := blk_alloc (blk_alloc (blk_lit0 w (.cells #[.slice A H.length c, .slice B W.length d] 29)) (.cells #[.int .i64 a.f0, .int .i64 a.f1, .int .i64 a.f2, .int .i64 a.f3, .bool a.f4] 24)) (.cells #[.int .i64 b.f0, .int .i64 b.f1, .int .i64 b.f2, .int .i64 b.f3, .bool b.f4] 24)
  have hG1_ := blk_alloc (blk_lit w (.cells #[.slice A H.length c, .slice B W.length d] 29) (.cells #[.int .i64 a.f0, .int .i64 a.f1, .int .i64 a.f2, .int .i64 a.f3, .bool a.f4] 24)) (.cells #[.int .i64 b.f0, .int .i64 b.f1, .int .i64 b.f2, .int .i64 b.f3, .bool b.f4] 24)
  have hG2_ := blk_lit2 w (.cells #[.slice A H.length c, .slice B W.length d] 29) (.cells #[.int .i64 a.f0, .int .i64 a.f1, .int .i64 a.f2, .int .i64 a.f3, .bool a.f4] 24) (.cells #[.int .i64 b.f0, .int .i64 b.f1, .int .i64 b.f2, .int .i64 b.f3, .bool b.f4] 24)
  generalize (((w.alloc (.cells #[.slice A H.length c, .slice B W.length d] 29)).alloc (.cells #[.int .i64 a.f0, .int .i64 a.f1, .int .i64 a.f2, .int .i64 a.f3, .bool a.f4] 24)).alloc (.cells #[.int .i64 b.f0, .int .i64 b.f1, .int .i64 b.f2, .int .i64 b.f3, .bool b.f4] 24)) = V at hb_ hG0_ hG1_ hG2_ ⊢
  have HB_V := Aside0.mk hb_
  have V0 := Aside0.mk hG0_
  have V1 := Aside0.mk hG1_
  have V2 := Aside0.mk hG2_
  clear hb_ hG0_ hG1_ hG2_
  have x0 := (blk_cell V0.out 0).trans rfl; have x1 := (blk_cell V0.out 1).trans rfl
  go_upto_region 2 with (fail)
  refine (archivoltlaw31_small.calls A c H B d W (smallB H W) _ (Kd.C_below HC1.out HB_V.out) l1 (Kd.C_below HC2.out HB_V.out) l2 (small_f HSZ.out.1 HSZ.out.2)).mono ?_
  rintro e w2 ⟨rfl, hb⟩
  have T := Aside0.mk (blk_below V0.out hb)
  have Y := Aside0.mk (blk_below V1.out hb)
  have Z := Aside0.mk (blk_below V2.out hb)
  have BB := Aside0.mk (below_step HB_V.out hb)
  clear hb x0 x1 HB_V V0 V1 V2
  cases hs : smallB H W with
  | false =>
    go_wp2_with (fail)
    refine (sane_calls _).mono ?_
    rintro e w9 ⟨rfl, hb9⟩
    have HB9 := Aside0.mk (below_step BB.out hb9)
    clear hb9
    go_wp2
    go_ret
    exact ⟨rfl, HB9.out⟩
  | true =>
  have hlen : H.length + W.length ≤ 420 := small_len hs
  clear hs
  go_upto_region 3 with (fail)
  have CH := Aside0.mk (Kd.C_below HC1.out BB.out)
  have CW := Aside0.mk (Kd.C_below HC2.out BB.out)
  have x0 := (blk_cell T.out 0).trans rfl; have x1 := (blk_cell T.out 1).trans rfl
  have y0 := (blk_cell Y.out 0).trans rfl; have y1 := (blk_cell Y.out 1).trans rfl; have y2 := (blk_cell Y.out 2).trans rfl; have y3 := (blk_cell Y.out 3).trans rfl; have y4 := (blk_cell Y.out 4).trans rfl
  have z0 := (blk_cell Z.out 0).trans rfl; have z1 := (blk_cell Z.out 1).trans rfl; have z2 := (blk_cell Z.out 2).trans rfl; have z3 := (blk_cell Z.out 3).trans rfl; have z4 := (blk_cell Z.out 4).trans rfl
  obtain ⟨va, hva⟩ : ∃ va, va = vL a := ⟨_, rfl⟩
  obtain ⟨ca, hca⟩ : ∃ ca, ca = cfL a b := ⟨_, rfl⟩
  obtain ⟨ke, hke⟩ : ∃ ke, ke = chkE H W := ⟨_, rfl⟩
  have HVA := Aside0.mk hva
  have HCA := Aside0.mk hca
  have HKE := Aside0.mk hke
  clear hva hca hke
  have q1 : (va == va) = true := by simp
  have q2 : (ca == ca) = true := by simp
  have q3 : (ke == ke) = true := by simp
  refine start_ (n := 25) (S := fun w' => Below w2.heap.size w2 w') (ds := []) #[false, false, false, false, false, false, false, false, false, false, false, false, false, false, false, false, false, false, false, false, false, false, false, false, false] (by kernel_rfl) rfl rfl (below_drew1 (Below.refl w2.heap.size w2)) (fun hHeld => ?_)
  generalize w2.drew = wd at hHeld ⊢
  refine one_ (i := 0) (N := some 11) #[true, false, false, false, false, false, false, false, false, false, false, false, false, false, false, false, false, false, false, false, false, false, false, false, false] rfl rfl (by kernel_rfl) (by decide) (fun K hK => ?_)
  refine goes_ Try.func15 (by kernel_rfl) rfl #[] (by rfl) rfl rfl (by (try simp only [List.map_toArray, List.map_cons, List.map_nil]); first | done | rfl) ?_
  refine (sane_calls _).mono ?_
  rintro e wc ⟨rfl, hb⟩
  refine ⟨_, rfl, ?_⟩
  have HB2 := Aside0.mk (below_step hHeld hb)
  clear hb hHeld
  refine hK.out _ _ HB2.out (fun hHeld => ?_)
  clear hK K
  refine norm_ (a' := ?_) ?_ ?_
  rotate_left
  · show Act.put _ (some 11) _ = _
    simp only [Act.put, List.setIfInBounds_toArray, List.set_cons_zero, List.set_cons_succ, i64_w, i32_w]
    rfl
  clear HB2
  refine pure_ (i := 1) (N := some 12) (v := ?_) (a' := ?_) #[true, true, false, false, false, false, false, false, false, false, false, false, false, false, false, false, false, false, false, false, false, false, false, false, false] rfl rfl (by kernel_rfl) (fun _ _ _ h => h) (Or.inl ⟨by rfl, ?_⟩) ?_ ?_
  rotate_left
  · intro w'
    go_simp
    with_reducible rfl
  rotate_left
  · simp only [Act.put, List.setIfInBounds_toArray, List.set_cons_zero, List.set_cons_succ, i64_w, i32_w]
    rfl
  refine take_ (i := 2) (N := some 13) (v := ?_) (a' := ?_) #[true, true, true, false, false, false, false, false, false, false, false, false, false, false, false, false, false, false, false, false, false, false, false, false, false] rfl rfl (by kernel_rfl) (fun _ _ _ h => h) (Or.inl ⟨by rfl, ?_⟩) hHeld ?_ ?_
  rotate_left
  · rintro w' s0
    have q0 := pw_cell_below s0 y0; have q1 := pw_cell_below s0 y1; have q2 := pw_cell_below s0 y2; have q3 := pw_cell_below s0 y3; have q4 := pw_cell_below s0 y4
    go_simp
    with_reducible rfl
  rotate_left
  · simp only [Act.put, List.setIfInBounds_toArray, List.set_cons_zero, List.set_cons_succ, i64_w, i32_w]
    rfl
  refine take_ (i := 4) (N := some 15) (v := ?_) (a' := ?_) #[true, true, true, false, true, false, false, false, false, false, false, false, false, false, false, false, false, false, false, false, false, false, false, false, false] rfl rfl (by kernel_rfl) (fun _ _ _ h => h) (Or.inl ⟨by rfl, ?_⟩) hHeld ?_ ?_
  rotate_left
  · rintro w' s0
    have q0 := pw_cell_below s0 y0; have q1 := pw_cell_below s0 y1; have q2 := pw_cell_below s0 y2; have q3 := pw_cell_below s0 y3; have q4 := pw_cell_below s0 y4
    go_simp
    with_reducible rfl
  rotate_left
  · simp only [Act.put, List.setIfInBounds_toArray, List.set_cons_zero, List.set_cons_succ, i64_w, i32_w]
    rfl
  refine one_ (i := 3) (N := some 14) #[true, true, true, true, true, false, false, false, false, false, false, false, false, false, false, false, false, false, false, false, false, false, false, false, false] rfl rfl (by kernel_rfl) (by decide) (fun K hK => ?_)
  refine goes_ Try.func31 (by kernel_rfl) rfl #[.agg #[.int .i64 a.f0, .int .i64 a.f1, .int .i64 a.f2, .int .i64 a.f3, .bool a.f4]] (by rfl) rfl rfl (by (try simp only [List.map_toArray, List.map_cons, List.map_nil]); first | done | rfl) ?_
  refine (valid_calls a _).mono ?_
  rintro e wc ⟨rfl, hb⟩
  rw [← HVA.out]
  refine ⟨_, rfl, ?_⟩
  have HB2 := Aside0.mk (below_step hHeld hb)
  clear hb hHeld
  refine hK.out _ _ HB2.out (fun hHeld => ?_)
  clear hK K
  refine norm_ (a' := ?_) ?_ ?_
  rotate_left
  · show Act.put _ (some 14) _ = _
    simp only [Act.put, List.setIfInBounds_toArray, List.set_cons_zero, List.set_cons_succ, i64_w, i32_w]
    rfl
  clear HB2
  refine one_ (i := 5) (N := some 16) #[true, true, true, true, true, true, false, false, false, false, false, false, false, false, false, false, false, false, false, false, false, false, false, false, false] rfl rfl (by kernel_rfl) (by decide) (fun K hK => ?_)
  refine goes_ Try.func32 (by kernel_rfl) rfl #[.agg #[.int .i64 a.f0, .int .i64 a.f1, .int .i64 a.f2, .int .i64 a.f3, .bool a.f4]] (by rfl) rfl rfl (by (try simp only [List.map_toArray, List.map_cons, List.map_nil]); first | done | rfl) ?_
  refine (validR_calls a _).mono ?_
  rintro e wc ⟨rfl, hb⟩
  rw [← HVA.out]
  refine ⟨_, rfl, ?_⟩
  have HB2 := Aside0.mk (below_step hHeld hb)
  clear hb hHeld
  refine hK.out _ _ HB2.out (fun hHeld => ?_)
  clear hK K
  refine norm_ (a' := ?_) ?_ ?_
  rotate_left
  · show Act.put _ (some 16) _ = _
    simp only [Act.put, List.setIfInBounds_toArray, List.set_cons_zero, List.set_cons_succ, i64_w, i32_w]
    rfl
  clear HB2
  refine pure_ (i := 6) (N := some 17) (v := ?_) (a' := ?_) #[true, true, true, true, true, true, true, false, false, false, false, false, false, false, false, false, false, false, false, false, false, false, false, false, false] rfl rfl (by kernel_rfl) (fun _ _ _ h => h) (Or.inl ⟨by rfl, ?_⟩) ?_ ?_
  rotate_left
  · intro w'
    go_simp
    with_reducible rfl
  rotate_left
  · simp only [Act.put, List.setIfInBounds_toArray, List.set_cons_zero, List.set_cons_succ, i64_w, i32_w]
    rfl
  refine pure_ (i := 7) (N := some 18) (v := ?_) (a' := ?_) #[true, true, true, true, true, true, true, true, false, false, false, false, false, false, false, false, false, false, false, false, false, false, false, false, false] rfl rfl (by kernel_rfl) (fun _ _ _ h => h) (Or.inl ⟨by rfl, ?_⟩) ?_ ?_
  rotate_left
  · intro w'
    go_simp
    with_reducible rfl
  rotate_left
  · simp only [Act.put, List.setIfInBounds_toArray, List.set_cons_zero, List.set_cons_succ, i64_w, i32_w]
    rfl
  refine pure_ (i := 8) (N := some 19) (v := ?_) (a' := ?_) #[true, true, true, true, true, true, true, true, true, false, false, false, false, false, false, false, false, false, false, false, false, false, false, false, false] rfl rfl (by kernel_rfl) (fun _ _ _ h => h) (Or.inl ⟨by rfl, ?_⟩) ?_ ?_
  rotate_left
  · intro w'
    go_simp
    with_reducible rfl
  rotate_left
  · simp only [Act.put, List.setIfInBounds_toArray, List.set_cons_zero, List.set_cons_succ, i64_w, i32_w]
    rfl
  refine take_ (i := 9) (N := some 20) (v := ?_) (a' := ?_) #[true, true, true, true, true, true, true, true, true, true, false, false, false, false, false, false, false, false, false, false, false, false, false, false, false] rfl rfl (by kernel_rfl) (fun _ _ _ h => h) (Or.inl ⟨by rfl, ?_⟩) hHeld ?_ ?_
  rotate_left
  · rintro w' s0
    have q0 := pw_cell_below s0 y0; have q1 := pw_cell_below s0 y1; have q2 := pw_cell_below s0 y2; have q3 := pw_cell_below s0 y3; have q4 := pw_cell_below s0 y4
    go_simp
    with_reducible rfl
  rotate_left
  · simp only [Act.put, List.setIfInBounds_toArray, List.set_cons_zero, List.set_cons_succ, i64_w, i32_w]
    rfl
  refine take_ (i := 10) (N := some 21) (v := ?_) (a' := ?_) #[true, true, true, true, true, true, true, true, true, true, true, false, false, false, false, false, false, false, false, false, false, false, false, false, false] rfl rfl (by kernel_rfl) (fun _ _ _ h => h) (Or.inl ⟨by rfl, ?_⟩) hHeld ?_ ?_
  rotate_left
  · rintro w' s0
    have q0 := pw_cell_below s0 z0; have q1 := pw_cell_below s0 z1; have q2 := pw_cell_below s0 z2; have q3 := pw_cell_below s0 z3; have q4 := pw_cell_below s0 z4
    go_simp
    with_reducible rfl
  rotate_left
  · simp only [Act.put, List.setIfInBounds_toArray, List.set_cons_zero, List.set_cons_succ, i64_w, i32_w]
    rfl
  refine take_ (i := 12) (N := some 23) (v := ?_) (a' := ?_) #[true, true, true, true, true, true, true, true, true, true, true, false, true, false, false, false, false, false, false, false, false, false, false, false, false] rfl rfl (by kernel_rfl) (fun _ _ _ h => h) (Or.inl ⟨by rfl, ?_⟩) hHeld ?_ ?_
  rotate_left
  · rintro w' s0
    have q0 := pw_cell_below s0 y0; have q1 := pw_cell_below s0 y1; have q2 := pw_cell_below s0 y2; have q3 := pw_cell_below s0 y3; have q4 := pw_cell_below s0 y4
    go_simp
    with_reducible rfl
  rotate_left
  · simp only [Act.put, List.setIfInBounds_toArray, List.set_cons_zero, List.set_cons_succ, i64_w, i32_w]
    rfl
  refine take_ (i := 13) (N := some 24) (v := ?_) (a' := ?_) #[true, true, true, true, true, true, true, true, true, true, true, false, true, true, false, false, false, false, false, false, false, false, false, false, false] rfl rfl (by kernel_rfl) (fun _ _ _ h => h) (Or.inl ⟨by rfl, ?_⟩) hHeld ?_ ?_
  rotate_left
  · rintro w' s0
    have q0 := pw_cell_below s0 z0; have q1 := pw_cell_below s0 z1; have q2 := pw_cell_below s0 z2; have q3 := pw_cell_below s0 z3; have q4 := pw_cell_below s0 z4
    go_simp
    with_reducible rfl
  rotate_left
  · simp only [Act.put, List.setIfInBounds_toArray, List.set_cons_zero, List.set_cons_succ, i64_w, i32_w]
    rfl
  refine one_ (i := 11) (N := some 22) #[true, true, true, true, true, true, true, true, true, true, true, true, true, true, false, false, false, false, false, false, false, false, false, false, false] rfl rfl (by kernel_rfl) (by decide) (fun K hK => ?_)
  refine goes_ Try.func14 (by kernel_rfl) rfl #[.agg #[.int .i64 a.f0, .int .i64 a.f1, .int .i64 a.f2, .int .i64 a.f3, .bool a.f4], .agg #[.int .i64 b.f0, .int .i64 b.f1, .int .i64 b.f2, .int .i64 b.f3, .bool b.f4]] (by rfl) rfl rfl (by (try simp only [List.map_toArray, List.map_cons, List.map_nil]); first | done | rfl) ?_
  refine (conflict_calls a b _).mono ?_
  rintro e wc ⟨rfl, hb⟩
  rw [← HCA.out]
  refine ⟨_, rfl, ?_⟩
  have HB2 := Aside0.mk (below_step hHeld hb)
  clear hb hHeld
  refine hK.out _ _ HB2.out (fun hHeld => ?_)
  clear hK K
  refine norm_ (a' := ?_) ?_ ?_
  rotate_left
  · show Act.put _ (some 22) _ = _
    simp only [Act.put, List.setIfInBounds_toArray, List.set_cons_zero, List.set_cons_succ, i64_w, i32_w]
    rfl
  clear HB2
  refine one_ (i := 14) (N := some 25) #[true, true, true, true, true, true, true, true, true, true, true, true, true, true, true, false, false, false, false, false, false, false, false, false, false] rfl rfl (by kernel_rfl) (by decide) (fun K hK => ?_)
  refine goes_ Try.func33 (by kernel_rfl) rfl #[.agg #[.int .i64 a.f0, .int .i64 a.f1, .int .i64 a.f2, .int .i64 a.f3, .bool a.f4], .agg #[.int .i64 b.f0, .int .i64 b.f1, .int .i64 b.f2, .int .i64 b.f3, .bool b.f4]] (by rfl) rfl rfl (by (try simp only [List.map_toArray, List.map_cons, List.map_nil]); first | done | rfl) ?_
  refine (conflictR_calls a b _).mono ?_
  rintro e wc ⟨rfl, hb⟩
  rw [← HCA.out]
  refine ⟨_, rfl, ?_⟩
  have HB2 := Aside0.mk (below_step hHeld hb)
  clear hb hHeld
  refine hK.out _ _ HB2.out (fun hHeld => ?_)
  clear hK K
  refine norm_ (a' := ?_) ?_ ?_
  rotate_left
  · show Act.put _ (some 25) _ = _
    simp only [Act.put, List.setIfInBounds_toArray, List.set_cons_zero, List.set_cons_succ, i64_w, i32_w]
    rfl
  clear HB2
  refine pure_ (i := 15) (N := some 26) (v := ?_) (a' := ?_) #[true, true, true, true, true, true, true, true, true, true, true, true, true, true, true, true, false, false, false, false, false, false, false, false, false] rfl rfl (by kernel_rfl) (fun _ _ _ h => h) (Or.inl ⟨by rfl, ?_⟩) ?_ ?_
  rotate_left
  · intro w'
    go_simp
    with_reducible rfl
  rotate_left
  · simp only [Act.put, List.setIfInBounds_toArray, List.set_cons_zero, List.set_cons_succ, i64_w, i32_w]
    rfl
  refine pure_ (i := 16) (N := some 27) (v := ?_) (a' := ?_) #[true, true, true, true, true, true, true, true, true, true, true, true, true, true, true, true, true, false, false, false, false, false, false, false, false] rfl rfl (by kernel_rfl) (fun _ _ _ h => h) (Or.inl ⟨by rfl, ?_⟩) ?_ ?_
  rotate_left
  · intro w'
    go_simp
    with_reducible rfl
  rotate_left
  · simp only [Act.put, List.setIfInBounds_toArray, List.set_cons_zero, List.set_cons_succ, i64_w, i32_w]
    rfl
  refine pure_ (i := 17) (N := some 28) (v := ?_) (a' := ?_) #[true, true, true, true, true, true, true, true, true, true, true, true, true, true, true, true, true, true, false, false, false, false, false, false, false] rfl rfl (by kernel_rfl) (fun _ _ _ h => h) (Or.inl ⟨by rfl, ?_⟩) ?_ ?_
  rotate_left
  · intro w'
    go_simp
    with_reducible rfl
  rotate_left
  · simp only [Act.put, List.setIfInBounds_toArray, List.set_cons_zero, List.set_cons_succ, i64_w, i32_w]
    rfl
  refine take_ (i := 18) (N := some 29) (v := ?_) (a' := ?_) #[true, true, true, true, true, true, true, true, true, true, true, true, true, true, true, true, true, true, true, false, false, false, false, false, false] rfl rfl (by kernel_rfl) (fun _ _ _ h => h) (Or.inl ⟨by rfl, ?_⟩) hHeld ?_ ?_
  rotate_left
  · rintro w' s0
    have q0 := pw_cell_below s0 x0; have q1 := pw_cell_below s0 x1
    go_simp
    with_reducible rfl
  rotate_left
  · simp only [Act.put, List.setIfInBounds_toArray, List.set_cons_zero, List.set_cons_succ, i64_w, i32_w]
    rfl
  refine take_ (i := 20) (N := some 31) (v := ?_) (a' := ?_) #[true, true, true, true, true, true, true, true, true, true, true, true, true, true, true, true, true, true, true, false, true, false, false, false, false] rfl rfl (by kernel_rfl) (fun _ _ _ h => h) (Or.inl ⟨by rfl, ?_⟩) hHeld ?_ ?_
  rotate_left
  · rintro w' s0
    have q0 := pw_cell_below s0 x0; have q1 := pw_cell_below s0 x1
    go_simp
    with_reducible rfl
  rotate_left
  · simp only [Act.put, List.setIfInBounds_toArray, List.set_cons_zero, List.set_cons_succ, i64_w, i32_w]
    rfl
  refine one_ (i := 19) (N := some 30) #[true, true, true, true, true, true, true, true, true, true, true, true, true, true, true, true, true, true, true, true, true, false, false, false, false] rfl rfl (by kernel_rfl) (by decide) (fun K hK => ?_)
  refine goes_ Try.func34 (by kernel_rfl) rfl #[.agg #[.slice A H.length c, .slice B W.length d]] (by rfl) rfl rfl (by (try simp only [List.map_toArray, List.map_cons, List.map_nil]); first | done | rfl) ?_
  refine (check_calls A B c d H W _ (Kd.C_below CH.out hHeld) (Kd.C_below CW.out hHeld) (by omega)).mono ?_
  rintro e wc ⟨rfl, hb⟩
  rw [← HKE.out]
  refine ⟨_, rfl, ?_⟩
  have HB2 := Aside0.mk (below_step hHeld hb)
  clear hb hHeld
  refine hK.out _ _ HB2.out (fun hHeld => ?_)
  clear hK K
  refine norm_ (a' := ?_) ?_ ?_
  rotate_left
  · show Act.put _ (some 30) _ = _
    simp only [Act.put, List.setIfInBounds_toArray, List.set_cons_zero, List.set_cons_succ, i64_w, i32_w]
    rfl
  clear HB2
  refine one_ (i := 21) (N := some 32) #[true, true, true, true, true, true, true, true, true, true, true, true, true, true, true, true, true, true, true, true, true, true, false, false, false] rfl rfl (by kernel_rfl) (by decide) (fun K hK => ?_)
  refine goes_ Try.func35 (by kernel_rfl) rfl #[.agg #[.slice A H.length c, .slice B W.length d]] (by rfl) rfl rfl (by (try simp only [List.map_toArray, List.map_cons, List.map_nil]); first | done | rfl) ?_
  refine (checkR_calls A B c d H W _ (Kd.C_below CH.out hHeld) (Kd.C_below CW.out hHeld) l1 l2 (by omega)).mono ?_
  rintro e wc ⟨rfl, hb⟩
  rw [← HKE.out]
  refine ⟨_, rfl, ?_⟩
  have HB2 := Aside0.mk (below_step hHeld hb)
  clear hb hHeld
  refine hK.out _ _ HB2.out (fun hHeld => ?_)
  clear hK K
  refine norm_ (a' := ?_) ?_ ?_
  rotate_left
  · show Act.put _ (some 32) _ = _
    simp only [Act.put, List.setIfInBounds_toArray, List.set_cons_zero, List.set_cons_succ, i64_w, i32_w]
    rfl
  clear HB2
  refine pure_ (i := 22) (N := some 33) (v := ?_) (a' := ?_) #[true, true, true, true, true, true, true, true, true, true, true, true, true, true, true, true, true, true, true, true, true, true, true, false, false] rfl rfl (by kernel_rfl) (fun _ _ _ h => h) (Or.inl ⟨by rfl, ?_⟩) ?_ ?_
  rotate_left
  · intro w'
    go_simp
    with_reducible rfl
  rotate_left
  · simp only [Act.put, List.setIfInBounds_toArray, List.set_cons_zero, List.set_cons_succ, i64_w, i32_w]
    rfl
  refine pure_ (i := 23) (N := some 34) (v := ?_) (a' := ?_) #[true, true, true, true, true, true, true, true, true, true, true, true, true, true, true, true, true, true, true, true, true, true, true, true, false] rfl rfl (by kernel_rfl) (fun _ _ _ h => h) (Or.inl ⟨by rfl, ?_⟩) ?_ ?_
  rotate_left
  · intro w'
    go_simp
    with_reducible rfl
  rotate_left
  · simp only [Act.put, List.setIfInBounds_toArray, List.set_cons_zero, List.set_cons_succ, i64_w, i32_w]
    rfl
  refine pure_ (i := 24) (N := some 6) (v := ?_) (a' := ?_) #[true, true, true, true, true, true, true, true, true, true, true, true, true, true, true, true, true, true, true, true, true, true, true, true, true] rfl rfl (by kernel_rfl) (fun _ _ _ h => h) (Or.inl ⟨by rfl, ?_⟩) ?_ ?_
  rotate_left
  · intro w'
    go_simp
    with_reducible rfl
  rotate_left
  · simp only [Act.put, List.setIfInBounds_toArray, List.set_cons_zero, List.set_cons_succ, i64_w, i32_w]
    rfl
  refine done_ (by kernel_rfl) ?_
  have HB9 := Aside0.mk (below_step BB.out hHeld)
  go_wp2
  go_ret
  exact ⟨rfl, HB9.out⟩
end Go.Proofs.Ytifnfnoicinbaaa.M
