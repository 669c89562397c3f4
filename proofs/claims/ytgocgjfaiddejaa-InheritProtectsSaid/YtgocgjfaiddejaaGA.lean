/- acl.want, acl.valid of valid descriptors, acl.right, acl.caught, acl.rights. -/
import Derived.Test.YtgocgjfaiddejaaGS
import Derived.Test.YtgocgjfaiddejaaH14
import Derived.Test.YtgocgjfaiddejaaH4
namespace Go.Proofs.Ytgocgjfaiddejaa.M
open Go.RowKit Go.Proofs.YtgocgjfaiddejaaW.PrintWords Go.Proofs.YtgocgjfaiddejaaW.PrintLast Go.Proofs.YtgocgjfaiddejaaW.PrintMore
set_option linter.unusedVariables false
set_option linter.unusedSimpArgs false
set_option linter.unnecessarySimpa false

abbrev failV (e : Int) : Value := .iface 110 (.int .i64 e)
set_option maxRecDepth 100000 in
set_option maxHeartbeats 2000000 in
theorem want_true (e : Int) (w : World) : Calls Try.prog 83 #[.bool true, .int .i64 e] w fun r w' => r = .returned (.tuple #[]) ∧ w' = w := by
  go_enter Try.func83, Try.ntmps83
  go_wp2
  go_end0
  exact ⟨rfl, rfl⟩
set_option maxRecDepth 100000 in
set_option maxHeartbeats 2000000 in
theorem want_false (e : Int) (w : World) : Calls Try.prog 83 #[.bool false, .int .i64 e] w fun r w' => r = .panicked [{ v := failV e, recovered := false }] ∧ w' = w := by
  have hp : ∀ w, (Instr.panic (failV e)).run Try.prog w = .halt (.panic (failV e)) w := fun _ => rfl
  go_enter Try.func83, Try.ntmps83
  go_wp2
  exact ⟨rfl, rfl, rfl⟩
set_option maxRecDepth 100000 in
set_option maxHeartbeats 2000000 in
theorem avalid_calls (A : Option Addr) (c : Nat) (l : List S33) (w : World) (hr : Kd.C k33 w A l.length l) (hv : ∀ x ∈ l, vD x = true) :
    Calls Try.prog 85 #[.slice A l.length c] w fun e w' => e = .returned (.tuple #[]) ∧ Below w.heap.size w w' := by
  have hm := hr.2.1
  have HR := Aside0.mk hr
  have HV := Aside0.mk hv
  clear hr hv
  go_enter Try.func85, Try.ntmps85
  go_wp2
  go_loopg [6] l.length (fun kq v6 w' => ∃ j : Nat, v6 = .int .i64 j ∧ Aside0 (kq + j = l.length) ∧ Aside0 (Below w.heap.size w w'))
  case atStart => exact ⟨0, rfl, ⟨rfl⟩, ⟨Below.refl _ _⟩⟩
  case round =>
    obtain ⟨j, rfl, HK, HB⟩ := hrel
    by_cases hlt : j < l.length
    · have h1 : decide (j < l.length) = true := by simpa using hlt
      obtain ⟨ad, A2, c2, rfl, x0, x1, x2, hl2, hr2⟩ := at_T33 HR.out (j : Int) (by omega) (by omega)
      simp only [Int.toNat_natCast] at x0 x1 x2
      have HR2 := Aside0.mk (Kd.C_below hr2 HB.out)
      have HM2 := Aside0.mk hr2.2.1
      clear hl2 hr2
      replace x0 := (HB.out.cell (World.block_lt_of_cell? w _ x0)).trans x0; replace x1 := (HB.out.cell (World.block_lt_of_cell? w _ x1)).trans x1; replace x2 := (HB.out.cell (World.block_lt_of_cell? w _ x2)).trans x2
      have HE := Aside0.mk (show errOf (vDesc (rd_T33 l j).f0 (rd_T33 l j).f2) = 0 by
        rw [show vDesc (rd_T33 l j).f0 (rd_T33 l j).f2 = true from HV.out (rd_T33 l j) (by rw [rd33_at hlt]; exact List.getElem_mem hlt)]; rfl)
      go_wp2_with (first | ((with_reducible refine gate_dst (N := 11) rfl ?_); refine goesL_ (some 11) rfl rfl Try.func79 (by kernel_rfl) rfl #[.agg #[.int .i64 (rd_T33 l j).f0, .bool (rd_T33 l j).f1, .slice A2 (rd_T33 l j).f2.length c2]] rfl (by (try simp only [List.map_toArray, List.map_cons, List.map_nil]); first | done | rfl) ?_; refine (check_calls _ _ A2 c2 (rd_T33 l j).f2 _ (Kd.C_alloc HR2.out _) HM2.out).mono ?_; rintro e w' ⟨rfl, hb⟩; refine ⟨_, rfl, ?_⟩; have HB2 := Aside0.mk (below_step (below_alloc HB.out _) hb); clear hb; rw [HE.out]) | ((with_reducible refine gate_dst (N := 13) rfl ?_); refine goesL_ (some 13) rfl rfl Try.func83 (by kernel_rfl) rfl #[.bool true, .int .i64 1] rfl (by (try simp only [List.map_toArray, List.map_cons, List.map_nil]); first | done | rfl) ?_; refine (want_true 1 _).mono ?_; rintro e w' ⟨rfl, rfl⟩; refine ⟨_, rfl, ?_⟩))
      go_roundg (l.length - (j + 1))
      case measure => have := HK.out; omega
      case rel => exact ⟨j + 1, by go_num, ⟨by omega⟩, HB2⟩
    · have h1 : decide (j < l.length) = false := by simpa using hlt
      go_wp2
      go_end0
      exact ⟨rfl, HB.out⟩
set_option maxRecDepth 100000 in
set_option maxHeartbeats 2000000 in
theorem caught69_idle (p q : Nat) (w : World) :
    CallsD Try.prog 69 #[.pointer (some ⟨p, 0, none⟩), .pointer (some ⟨q, 0, none⟩)] .returning w fun e u' w' => e = .returned (.tuple #[]) ∧ u' = .returning ∧ Below w.heap.size w w' := by
  refine callsD_of_wpS Try.func69 rfl fun c₀ cs hu => ?_
  simp only [Try.ntmps69, List.size_toArray, List.length_cons, List.length_nil, Nat.reduceAdd, Nat.reduceSub, Array.replicate_succ, Array.replicate_zero, List.push_toArray, List.append_toArray, List.nil_append, List.cons_append]
  apply wpS_seq
  refine wpS_recover (v := .nilIface) (cs' := c₀ :: cs) rfl rfl (.inr ⟨by simp [recoverD, hu], rfl, rfl⟩) (fun ⟨_, _, h⟩ => by obtain ⟨u, h, _⟩ := h; cases h) ?_
  go_wp2
  refine wpS_of_wp ?_
  go_wp2
  refine ⟨rfl, .returning, by cases c₀; simp_all, _, results_none rfl _ _ _, rfl, rfl, Below.refl _ _⟩
set_option maxRecDepth 100000 in
set_option maxHeartbeats 2000000 in
theorem caught69_failed (p q : Nat) (w : World) (older : List PanicEntry) (a b e0 : Int) (hp : w.heap[p]? = some (.cells #[.int .i64 a] 3 (0, 0))) (hq : w.heap[q]? = some (.cells #[.int .i64 b] 25 (0, 0))) (hpq : p ≠ q) :
    CallsD Try.prog 69 #[.pointer (some ⟨p, 0, none⟩), .pointer (some ⟨q, 0, none⟩)] (.panicking ({ v := failV e0, recovered := false } :: older)) w fun e u' w' =>
      e = .returned (.tuple #[]) ∧ u' = .panicking ({ v := failV e0, recovered := true } :: older) ∧ w'.heap[p]? = some (.cells #[.int .i64 0] 3 (0, 0)) ∧ w'.heap[q]? = some (.cells #[.int .i64 e0] 25 (0, 0)) ∧ ∀ n, n ≤ p → n ≤ q → n ≤ w.heap.size → Below n w w' := by
  have hta : ∀ w, (Instr.typeAssert (failV e0) 20 110 true).run Try.prog w = .ok (.tuple #[.int .i64 e0, .bool true]) w := fun w => by kernel_rfl
  have HP := Aside0.mk hp
  have HQ := Aside0.mk hq
  have y0 := (blk_cell hp 0).trans rfl
  have fy0 := blk_frozen hp 0
  have z0 := (blk_cell hq 0).trans rfl
  have fz0 := blk_frozen hq 0
  clear hp hq
  refine callsD_of_wpS Try.func69 rfl fun c₀ cs hu => ?_
  simp only [Try.ntmps69, List.size_toArray, List.length_cons, List.length_nil, Nat.reduceAdd, Nat.reduceSub, Array.replicate_succ, Array.replicate_zero, List.push_toArray, List.append_toArray, List.nil_append, List.cons_append]
  apply wpS_seq
  refine wpS_recover (v := failV e0) (cs' := { c₀ with mode := .panicking ({ v := failV e0, recovered := true } :: older) } :: cs) rfl rfl (.inl (by simp [recoverD, hu])) (fun ⟨_, _, h⟩ => by obtain ⟨u, h, _⟩ := h; cases h) ?_
  go_wp2
  refine wpS_of_wp ?_
  go_wp2
  have q1 := blk_put HP.out 0 (.int .i64 0) rfl
  have q2 := blk_far HQ.out (Ne.symm hpq) (p := ⟨p, 0, none⟩) (.int .i64 0)
  refine ⟨rfl, _, rfl, _, results_none rfl _ _ _, rfl, rfl, blk_far q1 hpq (p := ⟨q, 0, none⟩) _, blk_put q2 0 _ rfl, fun n h1 h2 h3 => ?_⟩
  exact ((Below.refl n w).setCell (p := ⟨p, 0, none⟩) h1 _).setCell (p := ⟨q, 0, none⟩) h2 _
set_option maxRecDepth 100000 in
set_option maxHeartbeats 2000000 in
theorem rights_calls (w : World) : Calls Try.prog 86 #[.int .i64 1023] w fun e w' => e = .returned (.func (.func 100) #[] #[.pointer (some ⟨w.heap.size, 0, none⟩)]) ∧ w' = w.alloc (.cells #[.int .i64 1023] 3) := by
  go_enter Try.func86, Try.ntmps86
  go_wp2
  go_ret
  exact ⟨rfl, rfl⟩
end Go.Proofs.Ytgocgjfaiddejaa.M
