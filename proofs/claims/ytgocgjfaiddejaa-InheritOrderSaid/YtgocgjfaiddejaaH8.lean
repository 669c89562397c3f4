/- What an object inherits, yielded entry by entry: the iterator. -/
import Derived.Test.YtgocgjfaiddejaaH7
import Derived.RangeFuncNested
import Derived.RangeFuncBound
import Derived.RangeFuncCalls
import Derived.RangeFuncLeaves
import Derived.OwnWalkIn
import Derived.TacticsInMore
import Derived.LoopNIn
import Derived.LoopIn
import Derived.Deep.DeepCutAuto
namespace Go.Proofs.Ytgocgjfaiddejaa.M
open Go.RowKit Go.Proofs.YtgocgjfaiddejaaW.PrintWords Go.Proofs.YtgocgjfaiddejaaW.PrintLast Go.Proofs.YtgocgjfaiddejaaW.PrintMore
set_option linter.unusedVariables false
set_option linter.unusedSimpArgs false

/-- What a round leaves alone: all that lay below n₀; boxes of bools and descriptors, the table of rules. -/
structure Kept (n₀ : Nat) (W W' : World) : Prop where
  below : Below n₀ W W'
  boxes : ∀ (k : Nat) (cs : Array Value) (t : TypeId), W.heap[k]? = some (.cells cs t (0, 0)) → (t = 4 ∨ t = 33 ∨ t = 97) → W'.heap[k]? = some (.cells cs t (0, 0))
theorem Kept.size0 {n₀ : Nat} {W W' : World} (h : Kept n₀ W W') (hn : n₀ ≤ W.heap.size) : n₀ ≤ W'.heap.size := Nat.le_trans hn h.below.size
theorem Kept.refl (n₀ : Nat) (W : World) : Kept n₀ W W := ⟨Below.refl _ _, fun _ _ _ h _ => h⟩
theorem Kept.trans {n₀ : Nat} {A B C : World} (h : Kept n₀ A B) (k : Kept n₀ B C) : Kept n₀ A C := ⟨h.below.trans k.below, fun i cs t hi ht => k.boxes i cs t (h.boxes i cs t hi ht) ht⟩
theorem Kept.of_below {n₀ : Nat} {A B : World} (h : Below A.heap.size A B) (hn : n₀ ≤ A.heap.size) : Kept n₀ A B := ⟨h.mono hn, fun _ _ _ hi _ => blk_below hi h⟩

/-- A call of yield, under no fence. -/
abbrev Yields' (l : Nat) (args : Array Value) (W : World) (R : Ending → World → Prop) : Prop := YieldAt Fence.wide 0 Try.prog l args W R

set_option maxRecDepth 100000 in
set_option maxHeartbeats 2000000 in
theorem inherited_iter (dir : Bool) (o : Int) (b : Bool) (A : Option Addr) (c : Nat) (l : List S37) (gd gp ly : Nat) (w0 W : World) (hb0 : Below w0.heap.size w0 W) (hL : k37.C w0 A l.length l) (hgd : W.heap[gd]? = some (.cells #[.bool dir] 4 (0, 0))) (hgp : W.heap[gp]? = some (.cells #[.int .i64 o, .bool b, .slice A l.length c] 33 (0, 0)))
    (J Jx : List (Nat × S37) → World → Prop) (hJ : ∀ s A B, J s A → Below A.heap.size A B → J s B) (hJx : ∀ s A B, Jx s A → Below A.heap.size A B → Jx s B)
    (hY : ∀ pre x W1, J pre W1 → (pre ++ [x]) <+: inh dir 0 l → Yields' ly #[.int .i64 (x.1 : Int), .agg #[.bool x.2.f0, .int .i64 x.2.f1, .int .i64 x.2.f2, .int .i64 x.2.f3]] W1 fun e W' => (e = .returned (.bool true) ∧ J (pre ++ [x]) W' ∧ Kept w0.heap.size W1 W') ∨ (e = .returned (.bool false) ∧ Jx (pre ++ [x]) W'))
    (h0 : J [] W) :
    Calls Try.prog 73 #[.func (.yield ly) #[] #[], .pointer (some ⟨gd, 0, none⟩), .pointer (some ⟨gp, 0, none⟩)] W fun e W' => (∃ v, e = .returned v) ∧ (J (inh dir 0 l) W' ∨ ∃ pre, pre <+: inh dir 0 l ∧ Jx pre W') := by
  have hm := hL.2.1
  have HL := Aside0.mk hL
  have HB0 := Aside0.mk hb0
  have HD := Aside0.mk hgd
  have HP := Aside0.mk hgp
  have HJ := Aside0.mk hJ
  have HJX := Aside0.mk hJx
  have HY := Aside0.mk hY
  have HJ0 := Aside0.mk h0
  have d0 := (blk_cell hgd 0).trans rfl
  have p2 := (blk_cell hgp 2).trans rfl
  have hlp := blk_lt hgp
  clear hL hb0 hgd hgp hJ hJx hY h0
  have HA := Aside0.mk (below_alloc (Below.refl W.heap.size W) (.cells (ruleCells dir) 97))
  have p2' := (HA.out.cell (World.block_lt_of_cell? W _ p2)).trans p2
  go_enter Try.func73, Try.ntmps73
  go_wp2_with ((with_reducible refine gate_dst (N := 9) rfl ?_); refine goesL_ (some 9) rfl rfl Try.func74 (by kernel_rfl) rfl #[.bool dir] rfl (by (try simp only [List.map_toArray, List.map_cons, List.map_nil]); first | done | rfl) ?_; refine (rules_calls dir _).mono ?_; rintro e w' ⟨rfl, rfl⟩; refine ⟨_, rfl, ?_⟩)
  have HW := Aside0.mk (show W.alloc (.cells (ruleCells dir) 97) = W.alloc (.cells (ruleCells dir) 97) from rfl)
  go_loopg [13] l.length (fun kq v13 w' => ∃ j : Nat, v13 = .int .i64 j ∧ Aside0 (kq + j = l.length) ∧ Aside0 (J (inh dir 0 (l.take j)) w') ∧ Aside0 (Kept w0.heap.size W w') ∧ Aside0 (w'.heap[W.heap.size]? = some (.cells (ruleCells dir) 97 (0, 0))))
  case atStart => exact ⟨0, rfl, ⟨rfl⟩, ⟨HJ.out _ _ _ HJ0.out HA.out⟩, ⟨Kept.of_below HA.out HB0.out.size⟩, ⟨blk_new _ _⟩⟩
  case round =>
    obtain ⟨j, rfl, HK, HJS, HKP, HRU⟩ := hrel
    have HLw := Aside0.mk (Kd.C_below HL.out (HB0.out.trans HKP.out.below))
    by_cases hlt : j < l.length
    · have h1 : decide (j < l.length) = true := by simpa using hlt
      obtain ⟨ad, rfl, x0, x1, x2, x3⟩ := at_T37 HLw.out (j : Int) (by omega) (by omega)
      simp only [Int.toNat_natCast] at x0 x1 x2 x3
      have HRC := Aside0.mk (rules_C dir HRU.out)
      have HBX := Aside0.mk (blk_new wr (.cells #[.bool (rd_T37 l j).f0, .int .i64 (rd_T37 l j).f1, .int .i64 (rd_T37 l j).f2, .int .i64 (rd_T37 l j).f3] 37 (0, 0)))
      have HX3 := Aside0.mk ((blk_cell HBX.out 3).trans rfl)
      have HB1 := Aside0.mk (below_alloc (Below.refl wr.heap.size wr) (.cells #[.bool (rd_T37 l j).f0, .int .i64 (rd_T37 l j).f1, .int .i64 (rd_T37 l j).f2, .int .i64 (rd_T37 l j).f3] 37))
      have HST := Aside0.mk (inh_step dir l j hlt)
      cases hgive : giveF (rd_T37 l j).f3 dir with
      | none =>
        have HN := Aside0.mk (rules_none hgive)
        go_wp2_with ((with_reducible refine gate_dst (N := 20) rfl ?_); refine goesL_ (some 20) rfl rfl Try.func75 (by kernel_rfl) rfl #[.slice (some ⟨W.heap.size, 0, none⟩) (rulesOf dir).length (rulesOf dir).length, .func (.func 76) #[] #[.pointer (some ⟨wr.heap.size, 0, none⟩)]] rfl (by (try simp only [List.map_toArray, List.map_cons, List.map_nil]); first | done | rfl) ?_; refine (find_calls (rulesOf dir) (rules_is dir) _ _ wr.heap.size (rd_T37 l j).f3 _ (Kd.C_alloc HRC.out _) HX3.out).mono ?_; rintro e w' ⟨rfl, hb⟩; refine ⟨_, rfl, ?_⟩; have HB2 := Aside0.mk (below_step HB1.out hb); clear hb; rw [HN.out])
        go_roundg (l.length - (j + 1))
        case measure => have := HK.out; omega
        case rel => exact ⟨j + 1, by go_num, ⟨by omega⟩, ⟨by rw [HST.out, hgive, List.append_nil]; exact HJ.out _ _ _ HJS.out HB2.out⟩, ⟨HKP.out.trans (Kept.of_below HB2.out (Nat.le_trans HB0.out.size HKP.out.below.size))⟩, ⟨blk_below HRU.out HB2.out⟩⟩
      | some f =>
        obtain ⟨k, hk, hk1, hk2⟩ := rules_some hgive
        have HN := Aside0.mk hk1
        have HFL := Aside0.mk (rules_fl dir k hk)
        have HF2 := Aside0.mk hk2
        have hk0 : decide ((k : Int) < 0) = false := by simp
        clear hk1 hk2
        go_upto_region 6 with ((with_reducible refine gate_dst (N := 20) rfl ?_); refine goesL_ (some 20) rfl rfl Try.func75 (by kernel_rfl) rfl #[.slice (some ⟨W.heap.size, 0, none⟩) (rulesOf dir).length (rulesOf dir).length, .func (.func 76) #[] #[.pointer (some ⟨wr.heap.size, 0, none⟩)]] rfl (by (try simp only [List.map_toArray, List.map_cons, List.map_nil]); first | done | rfl) ?_; refine (find_calls (rulesOf dir) (rules_is dir) _ _ wr.heap.size (rd_T37 l j).f3 _ (Kd.C_alloc HRC.out _) HX3.out).mono ?_; rintro e w' ⟨rfl, hb⟩; refine ⟨_, rfl, ?_⟩; have HB2 := Aside0.mk (below_step HB1.out hb); have HBX2 := Aside0.mk (blk_below HBX.out hb); clear hb; rw [HN.out])
        obtain ⟨ar, har, r0, r1⟩ := at_R HRC.out k hk
        cases har
        have hkd : decide (k < (rulesOf dir).length) = true := by simpa using hk
        refine region_tail 9 (by kernel_rfl) (by kernel_rfl) (fun wd hbd => ?_)
        have HB3 := Aside0.mk (below_step HB2.out hbd)
        have HBX3 := Aside0.mk (blk_below HBX2.out hbd)
        clear hbd
        replace r1 := (HB3.out.cell (World.block_lt_of_cell? wr _ r1)).trans r1
        simp only [add_plain] at r1
        obtain ⟨ff, hff⟩ : ∃ ff, ff = ((rulesOf dir)[k]).2 := ⟨_, rfl⟩
        rw [← hff] at r1 HFL HF2
        clear hff r0
        replace r1 : wd.cell? ⟨W.heap.size, k * 2 + 1, none⟩ = some (.func (.func ff) #[] #[]) := r1
        have hent := HFL.out.enters
        have y3 : wd.cell? ⟨wr.heap.size, 3, none⟩ = some (.int .i64 (rd_T37 l j).f3) := (blk_cell HBX3.out 3).trans rfl
        have fz := blk_frozen HBX3.out 3
        simp only [List.take_succ_cons, List.take_zero, List.drop_succ_cons, List.drop_zero]
        repeat still_step
        still_call (HFL.out.calls _ _)
        repeat still_step
        refine wpStill_nil ?_
        go_upto_region 7 with (fail)
        obtain ⟨w4, hw4⟩ : ∃ w4, w4 = wd.setCell ⟨wr.heap.size, 3, none⟩ (.int .i64 (flT ff (rd_T37 l j).f3)) := ⟨_, rfl⟩
        have HBX4 := Aside0.mk (show w4.heap[wr.heap.size]? = some (.cells #[.bool (rd_T37 l j).f0, .int .i64 (rd_T37 l j).f1, .int .i64 (rd_T37 l j).f2, .int .i64 (flT ff (rd_T37 l j).f3)] 37 (0, 0)) by rw [hw4]; exact blk_put HBX3.out 3 _ rfl)
        have HB4 := Aside0.mk (show Below wr.heap.size wr w4 by rw [hw4]; exact HB3.out.setCell (Nat.le_refl _) _)
        rw [← hw4]
        clear hw4 y3 r1 fz
        rw [HF2.out] at HBX4
        have z0 := (blk_cell HBX4.out 0).trans rfl; have z1 := (blk_cell HBX4.out 1).trans rfl; have z2 := (blk_cell HBX4.out 2).trans rfl; have z3 := (blk_cell HBX4.out 3).trans rfl
        have hpre : (inh dir 0 (l.take j) ++ [(j, ({ rd_T37 l j with f3 := f } : S37))]) <+: inh dir 0 l := by
          have := inh_prefix dir l (j + 1)
          rw [HST.out, hgive] at this
          exact this
        obtain ⟨fn, tmps, assign, body, hy, hR⟩ := HY.out (inh dir 0 (l.take j)) (j, { rd_T37 l j with f3 := f }) w4 (HJ.out _ _ _ HJS.out HB4.out) hpre
        dsimp only at hy
        have HPRE := Aside0.mk hpre
        clear hpre
        refine (wpIn_wide (n := 0)).1 ?_
        gi_wp2
        refine ⟨rfl, hR.mono ?_⟩
        rintro e W5 (⟨rfl, hJ5, hk5⟩ | ⟨rfl, hJx5⟩)
        · have HJ5 := Aside0.mk hJ5
          have HK5 := Aside0.mk (HKP.out.trans ((Kept.of_below HB4.out (Nat.le_trans HB0.out.size HKP.out.below.size)).trans hk5))
          have HRU5 := Aside0.mk (hk5.boxes _ _ _ (blk_below HRU.out HB4.out) (by simp))
          clear hJ5 hk5
          gi_wp2
          go_wp2
          go_roundg (l.length - (j + 1))
          case measure => have := HK.out; omega
          case rel => exact ⟨j + 1, by go_num, ⟨by omega⟩, ⟨by rw [HST.out, hgive]; exact HJ5.out⟩, HK5, HRU5⟩
        · have HJX5 := Aside0.mk hJx5
          clear hJx5
          gi_wp2
          go_wp2
          refine bodyPost_ret (results_none rfl _ _ _) rfl ?_
          exact ⟨⟨_, rfl⟩, .inr ⟨_, HPRE.out, HJX5.out⟩⟩
    · have h1 : decide (j < l.length) = false := by simpa using hlt
      go_wp2
      go_end0
      exact ⟨⟨_, rfl⟩, .inl (by have := HJS.out; rwa [List.take_of_length_le (by omega)] at this)⟩
end Go.Proofs.Ytgocgjfaiddejaa.M
