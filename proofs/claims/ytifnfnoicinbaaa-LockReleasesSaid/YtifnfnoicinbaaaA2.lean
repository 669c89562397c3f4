/- lock.filter, slices.IndexFunc, ContainsFunc with a function that only looks; slices.Clone of locks. -/
import Derived.Test.YtifnfnoicinbaaaA0
import Derived.WalkSpells
namespace Go.Proofs.Ytifnfnoicinbaaa.M
open Go.RowKit Go.Proofs.YtifnfnoicinbaaaW.PrintWords Go.Proofs.YtifnfnoicinbaaaW.PrintLast Go.Proofs.YtifnfnoicinbaaaW.PrintMore
set_option linter.unusedVariables false
set_option linter.unusedSimpArgs false

/-- A function value over entries that only looks: what it answers. -/
structure Looks (f : FuncId) (caps : Array Value) (p : S24 → Bool) (W : World) : Prop where
  enters : ∀ args w, (callFunc f args).run Try.prog w = .ok (.enter f args) w
  calls : ∀ (x : S24) (w : World), Below W.heap.size W w → Calls Try.prog f (#[.agg #[.int .i64 x.f0, .int .i64 x.f1, .int .i64 x.f2, .int .i64 x.f3, .bool x.f4]] ++ caps) w fun e w' => e = .returned (.bool (p x)) ∧ Below w.heap.size w w'

/-- The index of the first entry with p, -1 if there is none. -/
def firstAt (p : S24 → Bool) (l : List S24) : Int := match l.findIdx? p with | none => -1 | some i => (i : Int)
theorem firstAt_at {p : S24 → Bool} {l : List S24} {j : Nat} (h : j < l.length) (hp : p (rd_T24 l j) = true) (hn : ∀ i (h : i < l.length), i < j → p l[i] = false) : firstAt p l = j := by
  have e : rd_T24 l j = l[j] := by simp [rd_T24, h]
  rw [e] at hp
  unfold firstAt
  rw [List.findIdx?_eq_some_iff_getElem.2 ⟨h, hp, fun i hi => by simp [hn i (by omega) hi]⟩]
theorem firstAt_none {p : S24 → Bool} {l : List S24} (hn : ∀ i (h : i < l.length), p l[i] = false) : firstAt p l = -1 := by
  unfold firstAt
  rw [List.findIdx?_eq_none_iff.2]
  intro x hx
  obtain ⟨i, h, rfl⟩ := List.mem_iff_getElem.1 hx
  exact hn i h
theorem rd_at {l : List S24} {j : Nat} (h : j < l.length) : rd_T24 l (j : Int) = l[j] := by simp [rd_T24, h]

set_option maxRecDepth 100000 in
set_option maxHeartbeats 1000000 in
theorem index_calls (f : FuncId) (caps : Array Value) (p : S24 → Bool) (A : Option Addr) (c : Nat) (l : List S24) (w : World) (hf : Looks f caps p w) (hr : Kd.C k24 w A l.length l) (hm : l.length ≤ 9223372036854775807) :
    Calls Try.prog 76 #[.slice A l.length c, .func (.func f) #[] caps] w fun e w' => e = .returned (.int .i64 (firstAt p l)) ∧ Below w.heap.size w w' := by
  have HF := Aside0.mk hf
  have HR := Aside0.mk hr
  clear hf hr
  go_enter Try.func76, Try.ntmps76
  go_wp2
  go_loopg [8] l.length (fun kq v8 w' => ∃ j : Nat, v8 = .int .i64 j ∧ Aside0 (kq + j = l.length) ∧ Aside0 (∀ i (h : i < l.length), i < j → p l[i] = false) ∧ Aside0 (Below w.heap.size w w'))
  case atStart => exact ⟨0, rfl, ⟨rfl⟩, ⟨fun i h h0 => absurd h0 (by omega)⟩, ⟨Below.refl _ _⟩⟩
  case round =>
    obtain ⟨j, rfl, HK, HP, HB⟩ := hrel
    by_cases hlt : j < l.length
    · have h1 : decide (j < l.length) = true := by simpa using hlt
      obtain ⟨ad, rfl, x0, x1, x2, x3, x4⟩ := at_T24 HR.out (j : Int) (by omega) (by omega)
      simp only [Int.toNat_natCast] at x0 x1 x2 x3 x4
      replace x0 := (HB.out.cell (World.block_lt_of_cell? w _ x0)).trans x0
      replace x1 := (HB.out.cell (World.block_lt_of_cell? w _ x1)).trans x1
      replace x2 := (HB.out.cell (World.block_lt_of_cell? w _ x2)).trans x2
      replace x3 := (HB.out.cell (World.block_lt_of_cell? w _ x3)).trans x3
      replace x4 := (HB.out.cell (World.block_lt_of_cell? w _ x4)).trans x4
      by_cases hp : p (rd_T24 l j) = true
      · go_wp2_with ((with_reducible refine gate_dst (N := 16) rfl ?_); refine goesV (some 16) rfl rfl HF.out.enters #[.agg #[.int .i64 (rd_T24 l j).f0, .int .i64 (rd_T24 l j).f1, .int .i64 (rd_T24 l j).f2, .int .i64 (rd_T24 l j).f3, .bool (rd_T24 l j).f4]] rfl rfl (by (try simp only [List.map_toArray, List.map_cons, List.map_nil]); rfl) ?_)
        refine (HF.out.calls (rd_T24 l j) _ HB.out).mono ?_
        rintro e w' ⟨rfl, hb⟩
        refine ⟨_, rfl, ?_⟩
        have HB2 := Aside0.mk (below_step HB.out hb)
        clear hb
        rw [hp]
        go_wp2
        go_ret
        exact ⟨by rw [firstAt_at hlt hp HP.out]; rfl, HB2.out⟩
      · replace hp : p (rd_T24 l j) = false := by simpa using hp
        go_wp2_with ((with_reducible refine gate_dst (N := 16) rfl ?_); refine goesV (some 16) rfl rfl HF.out.enters #[.agg #[.int .i64 (rd_T24 l j).f0, .int .i64 (rd_T24 l j).f1, .int .i64 (rd_T24 l j).f2, .int .i64 (rd_T24 l j).f3, .bool (rd_T24 l j).f4]] rfl rfl (by (try simp only [List.map_toArray, List.map_cons, List.map_nil]); rfl) ?_; refine (HF.out.calls (rd_T24 l j) _ HB.out).mono ?_; rintro e w' ⟨rfl, hb⟩; refine ⟨_, rfl, ?_⟩; have HB2 := Aside0.mk (below_step HB.out hb); clear hb; rw [hp])
        go_roundg (l.length - (j + 1))
        case measure => have := HK.out; omega
        case rel =>
          exact ⟨j + 1, by go_num, ⟨by omega⟩, ⟨fun i h hi => by
            rcases Nat.lt_or_ge i j with h2 | h2
            · exact HP.out i h h2
            · obtain rfl : i = j := by omega
              rw [← rd_at h]; exact hp⟩, HB2⟩
    · have h1 : decide (j < l.length) = false := by simpa using hlt
      go_wp2
      go_ret
      exact ⟨by rw [firstAt_none (fun i h => HP.out i h (by omega))]; rfl, HB.out⟩
end Go.Proofs.Ytifnfnoicinbaaa.M
namespace Go.Proofs.Ytifnfnoicinbaaa.M
open Go.RowKit Go.Proofs.YtifnfnoicinbaaaW.PrintWords Go.Proofs.YtifnfnoicinbaaaW.PrintLast Go.Proofs.YtifnfnoicinbaaaW.PrintMore
set_option linter.unusedVariables false
set_option linter.unusedSimpArgs false

/-- A row of entries of the call's own. -/
abbrev RA (w : World) (base : Nat) (v : Value) (xs : List S24) : Prop := Kd.R k24 24 w base (fun _ => True) v xs

theorem contains_first (p : S24 → Bool) (l : List S24) : decide (0 ≤ firstAt p l) = l.any p := by
  unfold firstAt
  cases h : l.findIdx? p with
  | none =>
    have h2 := List.findIdx?_eq_none_iff.1 h
    simp
    intro x hx; simp [h2 x hx]
  | some i =>
    obtain ⟨h1, h2, _⟩ := List.findIdx?_eq_some_iff_getElem.1 h
    have h3 : l.any p = true := List.any_eq_true.2 ⟨_, List.getElem_mem h1, h2⟩
    rw [h3]; simp

set_option maxRecDepth 100000 in
set_option maxHeartbeats 2000000 in
theorem contains_calls (f : FuncId) (caps : Array Value) (p : S24 → Bool) (A : Option Addr) (c : Nat) (l : List S24) (w : World) (hf : Looks f caps p w) (hr : Kd.C k24 w A l.length l) (hm : l.length ≤ 9223372036854775807) :
    Calls Try.prog 49 #[.slice A l.length c, .func (.func f) #[] caps] w fun e w' => e = .returned (.bool (l.any p)) ∧ Below w.heap.size w w' := by
  have HF := Aside0.mk hf
  have HR := Aside0.mk hr
  clear hf hr
  go_enter Try.func49, Try.ntmps49
  go_wp2_with ((with_reducible refine gate_dst (N := 7) rfl ?_); refine goesL_ (some 7) rfl rfl Try.func76 (by kernel_rfl) rfl #[.slice A l.length c, .func (.func f) #[] caps] rfl (by (try simp only [List.map_toArray, List.map_cons, List.map_nil]); first | done | rfl) ?_; refine (index_calls f caps p A c l _ HF.out HR.out hm).mono ?_; rintro e w' ⟨rfl, hb⟩; refine ⟨_, rfl, ?_⟩; have HB := Aside0.mk hb; clear hb)
  go_ret
  exact ⟨by rw [← contains_first]; rfl, HB.out⟩

theorem take_filter {p : S24 → Bool} {l : List S24} {j : Nat} (h : j < l.length) : (l.take (j + 1)).filter p = (l.take j).filter p ++ if p (rd_T24 l j) then [rd_T24 l j] else [] := by
  rw [List.take_succ_eq_append_getElem h, List.filter_append, rd_at h]
  congr 1
  cases hp : p l[j] <;> simp [List.filter, hp]

set_option maxRecDepth 100000 in
set_option maxHeartbeats 2000000 in
theorem filter_calls (f : FuncId) (caps : Array Value) (p : S24 → Bool) (A : Option Addr) (c : Nat) (l : List S24) (w : World) (hf : Looks f caps p w) (hr : Kd.C k24 w A l.length l) (hm : l.length * 40 ≤ 140737488355328) :
    Calls Try.prog 72 #[.slice A l.length c, .func (.func f) #[] caps] w fun e w' => ∃ v, e = .returned v ∧ RA w' w.heap.size v (l.filter p) ∧ Below w.heap.size w w' := by
  have HF := Aside0.mk hf
  have HR := Aside0.mk hr
  clear hf hr
  go_enter Try.func72, Try.ntmps72
  go_wp2
  go_loopg [5, 10] l.length (fun kq v5 v10 w' => ∃ j : Nat, v10 = .int .i64 j ∧ Aside0 (kq + j = l.length) ∧ Aside0 (RA w' w.heap.size v5 ((l.take j).filter p)) ∧ Aside0 (Below w.heap.size w w'))
  case atStart => exact ⟨0, rfl, ⟨rfl⟩, ⟨Kd.R_nil _ _ _ _ _⟩, ⟨Below.refl _ _⟩⟩
  case round =>
    obtain ⟨j, rfl, HK, HO, HB⟩ := hrel
    by_cases hlt : j < l.length
    · have h1 : decide (j < l.length) = true := by simpa using hlt
      have HLn : Aside0 (((l.take j).filter p).length ≤ j) := ⟨by have := List.length_filter_le p (l.take j); simp at this; omega⟩
      obtain ⟨ad, rfl, x0, x1, x2, x3, x4⟩ := at_T24 HR.out (j : Int) (by omega) (by omega)
      simp only [Int.toNat_natCast] at x0 x1 x2 x3 x4
      replace x0 := (HB.out.cell (World.block_lt_of_cell? w _ x0)).trans x0; replace x1 := (HB.out.cell (World.block_lt_of_cell? w _ x1)).trans x1; replace x2 := (HB.out.cell (World.block_lt_of_cell? w _ x2)).trans x2; replace x3 := (HB.out.cell (World.block_lt_of_cell? w _ x3)).trans x3; replace x4 := (HB.out.cell (World.block_lt_of_cell? w _ x4)).trans x4
      have HT := Aside0.mk (take_filter (p := p) hlt)
      have HB1 := Aside0.mk (below_alloc HB.out (.cells #[.int .i64 (rd_T24 l j).f0, .int .i64 (rd_T24 l j).f1, .int .i64 (rd_T24 l j).f2, .int .i64 (rd_T24 l j).f3, .bool (rd_T24 l j).f4] 24))
      by_cases hp : p (rd_T24 l j) = true
      · go_wp2_with (first | ((with_reducible refine gate_dst (N := 16) rfl ?_); refine goesV (some 16) rfl rfl HF.out.enters #[.agg #[.int .i64 (rd_T24 l j).f0, .int .i64 (rd_T24 l j).f1, .int .i64 (rd_T24 l j).f2, .int .i64 (rd_T24 l j).f3, .bool (rd_T24 l j).f4]] rfl rfl (by (try simp only [List.map_toArray, List.map_cons, List.map_nil]); first | done | rfl) ?_; refine (HF.out.calls (rd_T24 l j) _ HB1.out).mono ?_; rintro e w' ⟨rfl, hb⟩; refine ⟨_, rfl, ?_⟩; have HB2 := Aside0.mk (below_step HB1.out hb); have HO2 := Aside0.mk (Kd.R_below (Kd.R_alloc HO.out _) hb); have hbx := blk_below (blk_new _ _) hb; have z0 := (blk_cell hbx 0).trans rfl; have z1 := (blk_cell hbx 1).trans rfl; have z2 := (blk_cell hbx 2).trans rfl; have z3 := (blk_cell hbx 3).trans rfl; have z4 := (blk_cell hbx 4).trans rfl; clear hb hbx x0 x1 x2 x3 x4; rw [hp]) | ((with_reducible refine gate_builtin (b := .append) (xs := #[.tmp 17, .tmp 19]) rfl ?_); at_builtin; refine Kd.R_append k24 (w0 := w) w.heap.size rfl (.tmp 17) (.tmp 19) 27 24 (.agg #[(.int .i64 0), (.int .i64 0), (.int .i64 0), (.int .i64 0), (.bool false)]) 40 rfl Try.underlying27 info24 rfl (by decide) (by omega) u5 ((l.take j).filter p) (rd_T24 l j) [.int .i64 (rd_T24 l j).f0, .int .i64 (rd_T24 l j).f1, .int .i64 (rd_T24 l j).f2, .int .i64 (rd_T24 l j).f3, .bool (rd_T24 l j).f4] (fun _ => True) (fun _ => False) rfl rfl (k24_mkM _ _ _ _) (fun _ hk => hk.elim) (fun _ _ => trivial) (HO2.out) (HB2.out) (HB2.out).size (by have := HLn.out; omega) ?_; intro v1 w3 ho hb _ _; have HO3 := Aside0.mk ho; have HB3 := Aside0.mk hb; clear ho hb z0 z1 z2 z3 z4))
        go_roundg (l.length - (j + 1))
        case measure => have := HK.out; omega
        case rel => exact ⟨j + 1, by go_num, ⟨by omega⟩, ⟨by rw [HT.out, if_pos hp]; exact HO3.out⟩, HB3⟩
      · replace hp : p (rd_T24 l j) = false := by simpa using hp
        go_wp2_with ((with_reducible refine gate_dst (N := 16) rfl ?_); refine goesV (some 16) rfl rfl HF.out.enters #[.agg #[.int .i64 (rd_T24 l j).f0, .int .i64 (rd_T24 l j).f1, .int .i64 (rd_T24 l j).f2, .int .i64 (rd_T24 l j).f3, .bool (rd_T24 l j).f4]] rfl rfl (by (try simp only [List.map_toArray, List.map_cons, List.map_nil]); first | done | rfl) ?_; refine (HF.out.calls (rd_T24 l j) _ HB1.out).mono ?_; rintro e w' ⟨rfl, hb⟩; refine ⟨_, rfl, ?_⟩; have HB2 := Aside0.mk (below_step HB1.out hb); have HO2 := Aside0.mk (Kd.R_below (Kd.R_alloc HO.out _) hb); clear hb x0 x1 x2 x3 x4; rw [hp])
        go_roundg (l.length - (j + 1))
        case measure => have := HK.out; omega
        case rel => exact ⟨j + 1, by go_num, ⟨by omega⟩, ⟨by rw [HT.out, hp]; simpa using HO2.out⟩, HB2⟩
    · have h1 : decide (j < l.length) = false := by simpa using hlt
      go_wp2
      go_ret
      exact ⟨_, rfl, by have := HO.out; rwa [List.take_of_length_le (by omega)] at this, HB.out⟩


theorem RA_empty (W : World) (base : Nat) (hb : base ≤ W.heap.size) : RA (W.alloc (.cells #[] 24)) base (.slice (some ⟨W.heap.size, 0, none⟩) 0 0) [] :=
  ⟨fun _ _ => trivial, [], World.ownsRow_lit (size := 5) W #[] 0 hb (by simp) (by simp), Reps.none _ _⟩
set_option maxRecDepth 100000 in
set_option maxHeartbeats 2000000 in
theorem clone_calls (A : Option Addr) (c : Nat) (l : List S24) (w : World) (hr : Kd.C k24 w A l.length l) (hm : l.length * 40 ≤ 140737488355328) :
    Calls Try.prog 81 #[.slice A l.length c] w fun e w' => ∃ v, e = .returned v ∧ RA w' w.heap.size v l ∧ Below w.heap.size w w' := by
  have HR := Aside0.mk hr
  have he := fun w => Lib.run_eql_slice_nil (P := Try.prog) w 27 24 A l.length c 0 0 Try.underlying27
  cases A with
  | none =>
    have hl : l = [] := by
      cases l with
      | nil => rfl
      | cons x l => obtain ⟨ad, h, _⟩ := hr.2.2 (by simp); cases h
    subst hl
    have he0 : ∀ w, (binOp .eql 27 (.slice none 0 c) (.slice none 0 0)).run Try.prog w = .ok (.bool true) w := fun w => Lib.run_eql_slice_nil (P := Try.prog) w 27 24 none 0 c 0 0 Try.underlying27
    clear hr he
    go_enter Try.func81, Try.ntmps81
    go_wp2
    go_ret
    exact ⟨_, rfl, Kd.R_nil _ _ _ _ _, Below.refl _ _⟩
  | some ad =>
    clear hr
    go_enter Try.func81, Try.ntmps81
    go_wp2_with ((with_reducible refine gate_builtin (b := .append) (xs := #[.tmp 5, .tmp 6]) rfl ?_); at_builtin; refine Kd.R_append_rows k24 (Rr := k24.K _) (w0 := w) w.heap.size rfl (.tmp 5) (.tmp 6) 27 24 (.agg #[(.int .i64 0), (.int .i64 0), (.int .i64 0), (.int .i64 0), (.bool false)]) 40 rfl Try.underlying27 info24 rfl (by decide) (by omega) (.slice (some ⟨w.heap.size, 0, none⟩) 0 0) [] l (some ad) l.length c (fun _ => True) (fun _ => False) rfl rfl (RA_empty w _ (Nat.le_refl _)) (Kd.C_alloc HR.out _) (fun x cs h => by rw [k24_open h]; exact k24_mkM _ _ _ _) (fun _ hk => hk.elim) (fun _ _ => trivial) (below_alloc (Below.refl _ w) _) (by simp) (by simp; omega) ?_; intro v1 w3 ho hb _ _; have HO3 := Aside0.mk ho; have HB3 := Aside0.mk hb; clear ho hb)
    go_ret
    exact ⟨_, rfl, HO3.out, HB3.out⟩
end Go.Proofs.Ytifnfnoicinbaaa.M
