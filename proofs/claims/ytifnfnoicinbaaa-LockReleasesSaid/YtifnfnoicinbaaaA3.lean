/- Valid, meet, Conflict as plain functions; the locks for which a wait waits, yielded one by one. -/
import Derived.Test.YtifnfnoicinbaaaA2
import Derived.Test.YtifnfnoicinbaaaAR
import Derived.Test.YtifnfnoicinbaaaPM
import Derived.Test.YtifnfnoicinbaaaF31
import Derived.Test.YtifnfnoicinbaaaF43
import Derived.Test.YtifnfnoicinbaaaF14
namespace Go.Proofs.Ytifnfnoicinbaaa.M
open Go.RowKit Go.Proofs.YtifnfnoicinbaaaW.PrintWords Go.Proofs.YtifnfnoicinbaaaW.PrintLast Go.Proofs.YtifnfnoicinbaaaW.PrintMore
set_option linter.unusedVariables false
set_option linter.unusedSimpArgs false
set_option linter.unnecessarySimpa false

def hdL (x : S24) : Int := x.f1
def vL (x : S24) : Bool := decide (0 ≤ x.f0) && decide (x.f0 ≤ 1073741824) && decide (1 ≤ x.f1) && decide (x.f1 ≤ 1073741824) && decide (0 ≤ x.f2) && decide (x.f2 ≤ 1099511627776) && decide (1 ≤ x.f3) && decide (x.f3 ≤ wrap64 (1099511627776 - x.f2))
def mtL (a b : S24) : Bool := decide (a.f0 = b.f0) && !decide (a.f1 = b.f1) && (a.f4 || b.f4) && decide (a.f2 < wrap64 (b.f2 + b.f3)) && decide (b.f2 < wrap64 (a.f2 + a.f3))
def cfL (a b : S24) : Bool := vL a && vL b && mtL a b
theorem mt_sym (a b : S24) : mtL a b = mtL b a := by
  unfold mtL
  rw [show decide (a.f0 = b.f0) = decide (b.f0 = a.f0) by simp [eq_comm], show decide (a.f1 = b.f1) = decide (b.f1 = a.f1) by simp [eq_comm], Bool.or_comm a.f4 b.f4]
  cases decide (a.f2 < wrap64 (b.f2 + b.f3)) <;> cases decide (b.f2 < wrap64 (a.f2 + a.f3)) <;> simp
theorem mt_hd {a b : S24} (h : mtL a b = true) : hdL a ≠ hdL b := by
  unfold mtL at h
  unfold hdL
  simp only [Bool.and_eq_true, Bool.not_eq_true', decide_eq_false_iff_not] at h
  exact h.1.1.1.2
theorem valid_f (x : S24) : lock_Valid.f x.f0 x.f1 x.f2 x.f3 x.f4 = some (vL x) := by
  unfold lock_Valid.f vL
  repeat' split
  all_goals simp_all
  all_goals omega
theorem meet_f (a b : S24) : lock_meet.f a.f0 a.f1 a.f2 a.f3 a.f4 b.f0 b.f1 b.f2 b.f3 b.f4 = some (mtL a b) := by
  unfold lock_meet.f mtL
  repeat' split
  all_goals simp_all
  all_goals omega
theorem conflict_f (a b : S24) : lock_Conflict.f a.f0 a.f1 a.f2 a.f3 a.f4 b.f0 b.f1 b.f2 b.f3 b.f4 = some (cfL a b) := by
  unfold lock_Conflict.f cfL
  rw [valid_f, valid_f, meet_f]
  cases vL a <;> cases vL b <;> simp
theorem meet_calls (a b : S24) (w : World) : Calls Try.prog 43 #[.agg #[.int .i64 a.f0, .int .i64 a.f1, .int .i64 a.f2, .int .i64 a.f3, .bool a.f4], .agg #[.int .i64 b.f0, .int .i64 b.f1, .int .i64 b.f2, .int .i64 b.f3, .bool b.f4]] w fun e w' => e = .returned (.bool (mtL a b)) ∧ Below w.heap.size w w' :=
  lock_meet.calls _ _ _ _ _ _ _ _ _ _ _ w (meet_f a b)
theorem valid_calls (a : S24) (w : World) : Calls Try.prog 31 #[.agg #[.int .i64 a.f0, .int .i64 a.f1, .int .i64 a.f2, .int .i64 a.f3, .bool a.f4]] w fun e w' => e = .returned (.bool (vL a)) ∧ Below w.heap.size w w' :=
  lock_Valid.calls _ _ _ _ _ _ w (valid_f a)

/-- What a round leaves alone: all that lay below n₁; boxes of locks, of tables, and of the wait's number. -/
structure KeptI (n₁ n₀ : Nat) (W W' : World) : Prop where
  below : Below n₁ W W'
  boxes : ∀ (k : Nat) (cs : Array Value) (t : TypeId), W.heap[k]? = some (.cells cs t (0, 0)) → (t = 24 ∨ t = 64 ∨ (t = 3 ∧ k < n₀)) → W'.heap[k]? = some (.cells cs t (0, 0))
theorem KeptI.refl (n₁ n₀ : Nat) (W : World) : KeptI n₁ n₀ W W := ⟨Below.refl _ _, fun _ _ _ h _ => h⟩
theorem KeptI.trans {n₁ n₀ : Nat} {A B C : World} (h : KeptI n₁ n₀ A B) (k : KeptI n₁ n₀ B C) : KeptI n₁ n₀ A C := ⟨h.below.trans k.below, fun i cs t hi ht => k.boxes i cs t (h.boxes i cs t hi ht) ht⟩
theorem KeptI.of_below {n₁ n₀ : Nat} {A B : World} (h : Below A.heap.size A B) (hn : n₁ ≤ A.heap.size) : KeptI n₁ n₀ A B := ⟨h.mono hn, fun _ _ _ hi _ => blk_below hi h⟩
set_option maxRecDepth 100000 in
set_option maxHeartbeats 2000000 in
theorem blockers_calls (q : Nat) (i : Int) (w : World) :
    Calls Try.prog 59 #[.pointer (some ⟨q, 0, none⟩), .int .i64 i] w fun e w' => e = .returned (.func (.func 78) #[] #[.pointer (some ⟨w.heap.size, 0, none⟩), .pointer (some ⟨w.heap.size + 1, 0, none⟩)]) ∧
      w' = (w.alloc (.cells #[.pointer (some ⟨q, 0, none⟩)] 64)).alloc (.cells #[.int .i64 i] 3) := by
  go_enter Try.func59, Try.ntmps59
  go_wp2
  go_ret
  exact ⟨rfl, rfl⟩
theorem blks_at {H Wt : List S24} {i : Nat} (hi : i < Wt.length) : PL.blks mtL H Wt i = H.filter (fun x => mtL x (rd_T24 Wt i)) ++ (Wt.take i).filter (fun x => mtL x (rd_T24 Wt i)) := by
  unfold PL.blks
  rw [List.getElem?_eq_getElem hi, ← rd_at hi]
  exact List.filter_append _ _
theorem pre_take {p : S24 → Bool} {l : List S24} (j : Nat) : (l.take j).filter p <+: l.filter p := (List.take_prefix _ _).filter _
theorem take_filt2 {p : S24 → Bool} {l : List S24} {i k : Nat} (hi : i < l.length) (hk : k < i) : ((l.take i).take (k + 1)).filter p = ((l.take i).take k).filter p ++ if p (rd_T24 l k) then [rd_T24 l k] else [] := by
  rw [take_filter (by simp; omega)]
  have e : rd_T24 (l.take i) k = rd_T24 l k := by
    rw [rd_at (by simp; omega), rd_at (by omega)]
    simp
  rw [e]
set_option maxRecDepth 100000 in
set_option maxHeartbeats 2000000 in
theorem blockers_iter (AH AW : Option Addr) (cH cW : Nat) (v3 v4 : Value) (H Wt : List S24) (i q tb ib ly n₀ : Nat) (w0 W : World) (hb0 : Below w0.heap.size w0 W) (hn : ib < n₀)
    (hq : w0.heap[q]? = some (.cells #[.slice AH H.length cH, .slice AW Wt.length cW, v3, v4] 68 (0, 0))) (hH : k24.C w0 AH H.length H) (hW : k24.C w0 AW Wt.length Wt) (hcW : Wt.length ≤ cW) (hi : i < Wt.length)
    (htb : W.heap[tb]? = some (.cells #[.pointer (some ⟨q, 0, none⟩)] 64 (0, 0))) (hib : W.heap[ib]? = some (.cells #[.int .i64 i] 3 (0, 0)))
    (J Jx : List S24 → World → Prop) (hJ : ∀ s A B, J s A → Below A.heap.size A B → J s B) (hJx : ∀ s A B, Jx s A → Below A.heap.size A B → Jx s B)
    (hY : ∀ pre x W1, J pre W1 → (pre ++ [x]) <+: PL.blks mtL H Wt i → YieldAt Fence.wide 0 Try.prog ly #[.agg #[.int .i64 x.f0, .int .i64 x.f1, .int .i64 x.f2, .int .i64 x.f3, .bool x.f4]] W1 fun e W' => (e = .returned (.bool true) ∧ J (pre ++ [x]) W' ∧ KeptI w0.heap.size n₀ W1 W') ∨ (e = .returned (.bool false) ∧ Jx (pre ++ [x]) W'))
    (h0 : J [] W) :
    Calls Try.prog 78 #[.func (.yield ly) #[] #[], .pointer (some ⟨tb, 0, none⟩), .pointer (some ⟨ib, 0, none⟩)] W fun e W' => (∃ v, e = .returned v) ∧ (J (PL.blks mtL H Wt i) W' ∨ ∃ pre, pre <+: PL.blks mtL H Wt i ∧ Jx pre W') := by
  have hmH := hH.2.1
  have hmW := hW.2.1
  have HH := Aside0.mk hH
  have HW := Aside0.mk hW
  have HB0 := Aside0.mk hb0
  have HQ := Aside0.mk hq
  have HT := Aside0.mk htb
  have HI := Aside0.mk hib
  have HJ := Aside0.mk hJ
  have HJX := Aside0.mk hJx
  have HY := Aside0.mk hY
  have HJ0 := Aside0.mk h0
  clear hH hW hb0 hq htb hib hJ hJx hY h0
  have HQ1 := Aside0.mk (blk_below HQ.out HB0.out)
  have q0 := (blk_cell HQ1.out 0).trans rfl; have q1 := (blk_cell HQ1.out 1).trans rfl; have q2 := (blk_cell HQ1.out 2).trans rfl; have q3 := (blk_cell HQ1.out 3).trans rfl
  have t0 := (blk_cell HT.out 0).trans rfl
  have i0 := (blk_cell HI.out 0).trans rfl
  obtain ⟨ad, rfl, x0, x1, x2, x3, x4⟩ := at_T24 (Kd.C_below HW.out HB0.out) (i : Int) (by omega) (by omega)
  simp only [Int.toNat_natCast] at x0 x1 x2 x3 x4
  have hi1 : decide (i < Wt.length) = true := by simpa using hi
  go_enter Try.func78, Try.ntmps78
  have lq := blk_lt HQ1.out
  have lt := blk_lt HT.out
  have li := blk_lt HI.out
  have la := World.block_lt_of_cell? W _ x0
  go_upto_region 0 with (fail)
  go_region
  have hbx := blk_drew (blk_new W (.cells #[.int .i64 (rd_T24 Wt (i : Int)).f0, .int .i64 (rd_T24 Wt (i : Int)).f1, .int .i64 (rd_T24 Wt (i : Int)).f2, .int .i64 (rd_T24 Wt (i : Int)).f3, .bool (rd_T24 Wt (i : Int)).f4] 24))
  have hbw := below_drew (below_alloc (Below.refl _ W) (.cells #[.int .i64 (rd_T24 Wt (i : Int)).f0, .int .i64 (rd_T24 Wt (i : Int)).f1, .int .i64 (rd_T24 Wt (i : Int)).f2, .int .i64 (rd_T24 Wt (i : Int)).f3, .bool (rd_T24 Wt (i : Int)).f4] 24))
  generalize (W.alloc (.cells #[.int .i64 (rd_T24 Wt (i : Int)).f0, .int .i64 (rd_T24 Wt (i : Int)).f1, .int .i64 (rd_T24 Wt (i : Int)).f2, .int .i64 (rd_T24 Wt (i : Int)).f3, .bool (rd_T24 Wt (i : Int)).f4] 24)).drew = V at hbx hbw ⊢
  have HXW := Aside0.mk hbx
  have HBW := Aside0.mk hbw
  have HLS := Aside0.mk (show q < W.heap.size ∧ tb < W.heap.size ∧ ib < W.heap.size from ⟨lq, lt, li⟩)
  clear hbx hbw lq lt li la q0 q1 q2 q3 t0 i0 x0 x1 x2 x3 x4 hi1
  have HQ3 := Aside0.mk (blk_below HQ1.out HBW.out)
  have HT3 := Aside0.mk (blk_below HT.out HBW.out)
  have HI3 := Aside0.mk (blk_below HI.out HBW.out)
  have HB3 := Aside0.mk (below_step HB0.out HBW.out)
  have HJ3 := Aside0.mk (HJ.out _ _ _ HJ0.out HBW.out)
  obtain ⟨p, hp⟩ : ∃ p : S24 → Bool, p = (fun x => mtL x (rd_T24 Wt (i : Int))) := ⟨_, rfl⟩
  have HP := Aside0.mk hp
  have HBK := Aside0.mk (blks_at (H := H) hi)
  rw [← hp] at HBK
  clear hp HQ1 HT HI HB0 HJ0
  have q0 := (blk_cell HQ3.out 0).trans rfl; have q1 := (blk_cell HQ3.out 1).trans rfl; have q2 := (blk_cell HQ3.out 2).trans rfl; have q3 := (blk_cell HQ3.out 3).trans rfl
  have t0 := (blk_cell HT3.out 0).trans rfl
  go_wp2
  clear q0 q1 q2 q3 t0
  go_loopg [23] H.length (fun kq v23 w' => ∃ j : Nat, v23 = .int .i64 j ∧ Aside0 (kq + j = H.length) ∧ Aside0 (J ((H.take j).filter p) w') ∧ Aside0 (KeptI w0.heap.size n₀ V w'))
  case atStart => exact ⟨0, rfl, ⟨rfl⟩, HJ3, ⟨KeptI.refl _ _ _⟩⟩
  case round =>
    obtain ⟨j, rfl, HK, HJS, HKP⟩ := hrel
    have HXj := Aside0.mk (HKP.out.boxes _ _ _ HXW.out (.inl rfl))
    have HBj := Aside0.mk (HB3.out.trans HKP.out.below)
    by_cases hlt : j < H.length
    · have h1 : decide (j < H.length) = true := by simpa using hlt
      obtain ⟨bd, rfl, x0, x1, x2, x3, x4⟩ := at_T24 (Kd.C_below HH.out HBj.out) (j : Int) (by omega) (by omega)
      simp only [Int.toNat_natCast] at x0 x1 x2 x3 x4
      have HTF := Aside0.mk (take_filter (p := p) hlt)
      have HB4 := Aside0.mk (below_alloc (Below.refl _ wr) (.cells #[.int .i64 (rd_T24 H j).f0, .int .i64 (rd_T24 H j).f1, .int .i64 (rd_T24 H j).f2, .int .i64 (rd_T24 H j).f3, .bool (rd_T24 H j).f4] 24))
      have HX4 := Aside0.mk (blk_alloc HXj.out (.cells #[.int .i64 (rd_T24 H j).f0, .int .i64 (rd_T24 H j).f1, .int .i64 (rd_T24 H j).f2, .int .i64 (rd_T24 H j).f3, .bool (rd_T24 H j).f4] 24))
      have HY4 := Aside0.mk (blk_new wr (.cells #[.int .i64 (rd_T24 H j).f0, .int .i64 (rd_T24 H j).f1, .int .i64 (rd_T24 H j).f2, .int .i64 (rd_T24 H j).f3, .bool (rd_T24 H j).f4] 24))
      have y0 := (blk_cell HXj.out 0).trans rfl; have y1 := (blk_cell HXj.out 1).trans rfl; have y2 := (blk_cell HXj.out 2).trans rfl; have y3 := (blk_cell HXj.out 3).trans rfl; have y4 := (blk_cell HXj.out 4).trans rfl
      have lx := blk_lt HXj.out
      cases hm : mtL (rd_T24 H j) (rd_T24 Wt i) with
      | false =>
        have HM := Aside0.mk hm
        have HPM := Aside0.mk (show p (rd_T24 H j) = _ from (congrFun HP.out _).trans hm)
        clear hm
        go_wp2_with ((with_reducible refine gate_dst (N := 29) rfl ?_); refine goesL_ (some 29) rfl rfl Try.func43 (by kernel_rfl) rfl #[.agg #[.int .i64 (rd_T24 H j).f0, .int .i64 (rd_T24 H j).f1, .int .i64 (rd_T24 H j).f2, .int .i64 (rd_T24 H j).f3, .bool (rd_T24 H j).f4], .agg #[.int .i64 (rd_T24 Wt i).f0, .int .i64 (rd_T24 Wt i).f1, .int .i64 (rd_T24 Wt i).f2, .int .i64 (rd_T24 Wt i).f3, .bool (rd_T24 Wt i).f4]] rfl (by (try simp only [List.map_toArray, List.map_cons, List.map_nil]); first | done | rfl) ?_; refine (meet_calls _ _ _).mono ?_; rintro e w4 ⟨rfl, hb⟩; refine ⟨_, rfl, ?_⟩; rw [HM.out]; have HB5 := Aside0.mk (below_step HB4.out hb); clear hb)
        go_roundg (H.length - (j + 1))
        case measure => have := HK.out; omega
        case rel => exact ⟨j + 1, by go_num, ⟨by omega⟩, ⟨by rw [HTF.out, HPM.out, if_neg (by simp), List.append_nil]; exact HJ.out _ _ _ HJS.out HB5.out⟩, ⟨HKP.out.trans (KeptI.of_below HB5.out HBj.out.size)⟩⟩
      | true =>
        have HM := Aside0.mk hm
        have HPM := Aside0.mk (show p (rd_T24 H j) = _ from (congrFun HP.out _).trans hm)
        clear hm
        refine (wpIn_wide (n := 0)).1 ?_
        gi_wp2
        refine ⟨trivial, rfl, ?_⟩
        gi_at_call 43
        refine CallsIn.mono (callsIn_wide.2 (meet_calls _ _ _)) ?_
        rintro e w4 ⟨rfl, hb⟩
        rw [HM.out]
        have HB5 := Aside0.mk (below_step HB4.out hb)
        have HY5 := Aside0.mk (blk_below HY4.out hb)
        have HJ5 := Aside0.mk (HJ.out _ _ _ HJS.out HB5.out)
        have hpre : (H.take j).filter p ++ [rd_T24 H j] <+: PL.blks mtL H Wt i := by
          have h1 := pre_take (p := p) (l := H) (j + 1)
          rw [HTF.out, HPM.out, if_pos rfl] at h1
          rw [HBK.out]
          exact h1.trans (List.prefix_append _ _)
        obtain ⟨fn, tmps, assign, body, hy, hR⟩ := HY.out _ _ w4 HJ5.out hpre
        have HPRE := Aside0.mk hpre
        clear hb hpre x0 x1 x2 x3 x4 y0 y1 y2 y3 y4
        have y0 := (blk_cell HY5.out 0).trans rfl; have y1 := (blk_cell HY5.out 1).trans rfl; have y2 := (blk_cell HY5.out 2).trans rfl; have y3 := (blk_cell HY5.out 3).trans rfl; have y4 := (blk_cell HY5.out 4).trans rfl
        gi_wp2
        refine ⟨rfl, hR.mono ?_⟩
        rintro e W5 (⟨rfl, hJ6, hk5⟩ | ⟨rfl, hJx5⟩)
        · have HJ6 := Aside0.mk hJ6
          have HK6 := Aside0.mk (HKP.out.trans ((KeptI.of_below HB5.out HBj.out.size).trans hk5))
          clear hJ6 hk5 y0 y1 y2 y3 y4
          gi_wp2
          go_wp2
          go_roundg (H.length - (j + 1))
          case measure => have := HK.out; omega
          case rel => exact ⟨j + 1, by go_num, ⟨by omega⟩, ⟨by rw [HTF.out, HPM.out, if_pos rfl]; exact HJ6.out⟩, HK6⟩
        · have HJX5 := Aside0.mk hJx5
          clear hJx5 y0 y1 y2 y3 y4
          gi_wp2
          go_wp2
          refine bodyPost_ret (results_none rfl _ _ _) rfl ?_
          exact ⟨⟨_, rfl⟩, .inr ⟨_, HPRE.out, HJX5.out⟩⟩
    · have h1 : decide (j < H.length) = false := by simpa using hlt
      have hj : (H.take j).filter p = H.filter p := by rw [List.take_of_length_le (by omega)]
      rw [hj] at HJS
      clear hj h1
      have HQj := Aside0.mk (blk_below HQ.out HBj.out)
      have HTj := Aside0.mk (HKP.out.boxes _ _ _ HT3.out (.inr (.inl rfl)))
      have HIj := Aside0.mk (HKP.out.boxes _ _ _ HI3.out (.inr (.inr ⟨rfl, hn⟩)))
      have q0 := (blk_cell HQj.out 0).trans rfl; have q1 := (blk_cell HQj.out 1).trans rfl; have q2 := (blk_cell HQj.out 2).trans rfl; have q3 := (blk_cell HQj.out 3).trans rfl
      have t0 := (blk_cell HTj.out 0).trans rfl
      have i0 := (blk_cell HIj.out 0).trans rfl
      have hic : i ≤ cW := by omega
      have h1 : decide (j < H.length) = false := by simpa using hlt
      go_upto_region 6 with (fail)
      go_quiet (fail)
      have HBq := Aside0.mk (pw_below_drewN (Below.refl wr.heap.size wr) nq)
      generalize wr.drewN nq = V2 at HBq ⊢
      clear q0 q1 q2 q3 t0 i0 h1 hlt
      have HXq := Aside0.mk (blk_below HXj.out HBq.out)
      have HB2 := Aside0.mk (below_step HBj.out HBq.out)
      have HJ4 := Aside0.mk (HJ.out _ _ _ HJS.out HBq.out)
      clear HJS HKP HXj HBj HQj HTj HIj HBq HK
      go_wp2
      go_loopg [45] i (fun kq v45 w' => ∃ k : Nat, v45 = .int .i64 k ∧ Aside0 (kq + k = i) ∧ Aside0 (J (H.filter p ++ ((Wt.take i).take k).filter p) w') ∧ Aside0 (KeptI w0.heap.size n₀ V2 w'))
      case atStart => exact ⟨0, rfl, ⟨rfl⟩, ⟨by simpa using HJ4.out⟩, ⟨KeptI.refl _ _ _⟩⟩
      case round =>
        obtain ⟨k, rfl, HK, HJS, HKP⟩ := hrel
        have HXj := Aside0.mk (HKP.out.boxes _ _ _ HXq.out (.inl rfl))
        have HBj := Aside0.mk (HB2.out.trans HKP.out.below)
        by_cases hlt : k < i
        · have h1 : decide (k < i) = true := by simpa using hlt
          have hkW : k < Wt.length := by omega
          obtain ⟨bd, had, x0, x1, x2, x3, x4⟩ := at_T24 (Kd.C_below HW.out HBj.out) (k : Int) (by omega) (by omega)
          cases had
          simp only [Int.toNat_natCast] at x0 x1 x2 x3 x4
          have HTF := Aside0.mk (take_filt2 (p := p) hi hlt)
          have HB4 := Aside0.mk (below_alloc (Below.refl _ wr) (.cells #[.int .i64 (rd_T24 Wt k).f0, .int .i64 (rd_T24 Wt k).f1, .int .i64 (rd_T24 Wt k).f2, .int .i64 (rd_T24 Wt k).f3, .bool (rd_T24 Wt k).f4] 24))
          have HX4 := Aside0.mk (blk_alloc HXj.out (.cells #[.int .i64 (rd_T24 Wt k).f0, .int .i64 (rd_T24 Wt k).f1, .int .i64 (rd_T24 Wt k).f2, .int .i64 (rd_T24 Wt k).f3, .bool (rd_T24 Wt k).f4] 24))
          have HY4 := Aside0.mk (blk_new wr (.cells #[.int .i64 (rd_T24 Wt k).f0, .int .i64 (rd_T24 Wt k).f1, .int .i64 (rd_T24 Wt k).f2, .int .i64 (rd_T24 Wt k).f3, .bool (rd_T24 Wt k).f4] 24))
          have y0 := (blk_cell HXj.out 0).trans rfl; have y1 := (blk_cell HXj.out 1).trans rfl; have y2 := (blk_cell HXj.out 2).trans rfl; have y3 := (blk_cell HXj.out 3).trans rfl; have y4 := (blk_cell HXj.out 4).trans rfl
          have lx := blk_lt HXj.out
          cases hm : mtL (rd_T24 Wt k) (rd_T24 Wt i) with
          | false =>
            have HM := Aside0.mk hm
            have HPM := Aside0.mk (show p (rd_T24 Wt k) = _ from (congrFun HP.out _).trans hm)
            clear hm
            go_wp2_with ((with_reducible refine gate_dst (N := 51) rfl ?_); refine goesL_ (some 51) rfl rfl Try.func43 (by kernel_rfl) rfl #[.agg #[.int .i64 (rd_T24 Wt k).f0, .int .i64 (rd_T24 Wt k).f1, .int .i64 (rd_T24 Wt k).f2, .int .i64 (rd_T24 Wt k).f3, .bool (rd_T24 Wt k).f4], .agg #[.int .i64 (rd_T24 Wt i).f0, .int .i64 (rd_T24 Wt i).f1, .int .i64 (rd_T24 Wt i).f2, .int .i64 (rd_T24 Wt i).f3, .bool (rd_T24 Wt i).f4]] rfl (by (try simp only [List.map_toArray, List.map_cons, List.map_nil]); first | done | rfl) ?_; refine (meet_calls _ _ _).mono ?_; rintro e w4 ⟨rfl, hb⟩; refine ⟨_, rfl, ?_⟩; rw [HM.out]; have HB5 := Aside0.mk (below_step HB4.out hb); clear hb)
            go_roundg (i - (k + 1))
            case measure => have := HK.out; omega
            case rel => exact ⟨k + 1, by go_num, ⟨by omega⟩, ⟨by rw [HTF.out, HPM.out, if_neg (by simp), List.append_nil]; exact HJ.out _ _ _ HJS.out HB5.out⟩, ⟨HKP.out.trans (KeptI.of_below HB5.out HBj.out.size)⟩⟩
          | true =>
            have HM := Aside0.mk hm
            have HPM := Aside0.mk (show p (rd_T24 Wt k) = _ from (congrFun HP.out _).trans hm)
            clear hm
            refine (wpIn_wide (n := 0)).1 ?_
            gi_wp2
            refine ⟨trivial, rfl, ?_⟩
            gi_at_call 43
            refine CallsIn.mono (callsIn_wide.2 (meet_calls _ _ _)) ?_
            rintro e w4 ⟨rfl, hb⟩
            rw [HM.out]
            have HB5 := Aside0.mk (below_step HB4.out hb)
            have HY5 := Aside0.mk (blk_below HY4.out hb)
            have HJ5 := Aside0.mk (HJ.out _ _ _ HJS.out HB5.out)
            have hpre : (H.filter p ++ ((Wt.take i).take k).filter p) ++ [rd_T24 Wt k] <+: PL.blks mtL H Wt i := by
              have h1 := pre_take (p := p) (l := Wt.take i) (k + 1)
              rw [HTF.out, HPM.out, if_pos rfl] at h1
              rw [HBK.out, List.append_assoc]
              exact (List.prefix_append_right_inj _).2 h1
            obtain ⟨fn, tmps, assign, body, hy, hR⟩ := HY.out _ _ w4 HJ5.out hpre
            have HPRE := Aside0.mk hpre
            clear hb hpre x0 x1 x2 x3 x4 y0 y1 y2 y3 y4
            have y0 := (blk_cell HY5.out 0).trans rfl; have y1 := (blk_cell HY5.out 1).trans rfl; have y2 := (blk_cell HY5.out 2).trans rfl; have y3 := (blk_cell HY5.out 3).trans rfl; have y4 := (blk_cell HY5.out 4).trans rfl
            gi_wp2
            refine ⟨rfl, hR.mono ?_⟩
            rintro e W5 (⟨rfl, hJ6, hk5⟩ | ⟨rfl, hJx5⟩)
            · have HJ6 := Aside0.mk hJ6
              have HK6 := Aside0.mk (HKP.out.trans ((KeptI.of_below HB5.out HBj.out.size).trans hk5))
              clear hJ6 hk5 y0 y1 y2 y3 y4
              gi_wp2
              go_wp2
              go_roundg (i - (k + 1))
              case measure => have := HK.out; omega
              case rel => exact ⟨k + 1, by go_num, ⟨by omega⟩, ⟨by rw [HTF.out, HPM.out, if_pos rfl]; rw [← List.append_assoc]; exact HJ6.out⟩, HK6⟩
            · have HJX5 := Aside0.mk hJx5
              clear hJx5 y0 y1 y2 y3 y4
              gi_wp2
              go_wp2
              refine bodyPost_ret (results_none rfl _ _ _) rfl ?_
              exact ⟨⟨_, rfl⟩, .inr ⟨_, HPRE.out, HJX5.out⟩⟩
        · have h1 : decide (k < i) = false := by simpa using hlt
          have hk : H.filter p ++ ((Wt.take i).take k).filter p = PL.blks mtL H Wt i := by
            rw [HBK.out, List.take_of_length_le (i := k) (by simp; omega)]
          rw [hk] at HJS
          clear hk
          go_wp2
          go_end0
          exact ⟨⟨_, rfl⟩, .inl HJS.out⟩
end Go.Proofs.Ytifnfnoicinbaaa.M
