/- inherit.caught, as a deferred call. -/
import Derived.Test.YtgocgjfaiddejaaH0
import Derived.Defers
import Derived.Recover
import Derived.Laws.Pointers
import Derived.Test.YtgocgjfaiddejaaH11
namespace Go.Proofs.Ytgocgjfaiddejaa.M
open Go.RowKit Go.Proofs.YtgocgjfaiddejaaW.PrintWords Go.Proofs.YtgocgjfaiddejaaW.PrintLast Go.Proofs.YtgocgjfaiddejaaW.PrintMore
set_option linter.unusedVariables false
set_option linter.unusedSimpArgs false
section
variable {P : Program}
theorem ops_S {ops : Array Oper} {Q : Exit → Act → List Frame → World → Prop} {cs : List Frame} (hno : ¬ LetsOut (fun e a w => Q e a cs w)) : ∀ (l : List Nat) (a : Act) (w : World), wpOps P ops (fun e a w => Q e a cs w) l a w → wpOpsS P ops Q l a cs w
  | [], _, _, h => h
  | i :: rest, a, w, h => by
    have ih := ops_S (ops := ops) hno rest
    unfold wpOps at h
    unfold wpOpsS
    cases ho : ops[i]? with
    | none => rw [ho] at h; exact ih _ _ h
    | some o =>
      rw [ho] at h
      dsimp only at h ⊢
      split
      · rename_i hw
        rw [if_pos hw] at h
        rcases h with h | h
        · unfold Oper.wp at h
          have upm : ∀ r, o.upon P a (wpOps P ops (fun e a w => Q e a cs w) rest) (fun e a w => Q e a cs w) r → o.upon P a (fun a' w' => wpOpsS P ops Q rest a' cs w') (fun e a' w' => Q e a' cs w') r := by
            intro r hr
            cases r with
            | ok x w' =>
              cases x with
              | value v => exact ih _ _ hr
              | skip => exact ih _ _ hr
              | defer d => exact ih _ _ hr
              | enter f args =>
                refine Calls.mono hr ?_
                intro e w'' he
                cases e with
                | returned v => exact ih _ _ he
                | panicked ch => exact he
                | outgrown => exact he
              | row row args => exact Rows.mono hr (fun v w' h => ih _ _ h)
              | _ => exact hr.elim
            | halt x w' =>
              cases x with
              | panic v => exact hr
              | _ => exact hr.elim
          cases hrun : (execOp a.eval o).run P w with
          | ok x w' =>
            rw [hrun] at h
            have h2 := upm _ h
            cases x with
            | recover => exact h.elim
            | _ => exact h2
          | halt x w' =>
            rw [hrun] at h
            exact upm _ h
        · exact absurd h.2 hno
      · rename_i hw
        rw [if_neg hw] at h
        exact ih _ _ h
theorem wpS_recover {id : Nat} {o : Oper} {l : List Oper} {Q : Exit → Act → List Frame → World → Prop} {a : Act} {cs cs' : List Frame} {w : World} {v : Value} (ho : o.op = .call { callee := .builtin .recover, args := #[], argTypes := #[] }) (hg : o.guard = none)
    (hrec : (recoverD cs = some (v, cs')) ∨ (recoverD cs = none ∧ v = .nilIface ∧ cs' = cs)) (hno : ¬ LetsOut (fun e a w => Q e a cs' w))
    (h : wpList P (o :: l).toArray (fun e a w => Q e a cs' w) l (a.put o.dst v) w) : (Code.region id (o :: l).toArray false).wpS P Q a cs w := by
  refine wpS_region ?_
  have hsz : List.range (o :: l).toArray.size = 0 :: List.range' 1 l.length := by simp [List.range_eq_range', List.range'_succ]
  rw [hsz]
  have hrest : wpOpsS P (o :: l).toArray Q (List.range' 1 l.length) (a.put o.dst v) cs' w := by
    refine ops_S hno _ _ _ ?_
    rw [wpOps_eq_wpList l 1 (by intro j; simp [Nat.add_comm])]
    exact h
  have hrun : (execOp a.eval o).run P w = .ok .recover w := by
    unfold execOp
    simp only [ho]
    simp [resolve, invoke, go_sem]
  have hw : Region.wanted o (yielded (o :: l).toArray a.tmps) = true := by simp [Region.wanted, hg]
  unfold wpOpsS
  simp only [List.getElem?_toArray, List.getElem?_cons_zero]
  rw [if_pos hw]
  simp only [hrun]
  rcases hrec with hr | ⟨hr, rfl, rfl⟩
  · rw [hr]; exact hrest
  · rw [hr]; exact hrest
end
end Go.Proofs.Ytgocgjfaiddejaa.M
namespace Go.Proofs.Ytgocgjfaiddejaa.M
open Go.RowKit Go.Proofs.YtgocgjfaiddejaaW.PrintWords Go.Proofs.YtgocgjfaiddejaaW.PrintLast Go.Proofs.YtgocgjfaiddejaaW.PrintMore
set_option linter.unusedVariables false
set_option linter.unusedSimpArgs false

/-- The panic of the limit. -/
abbrev limitV : Value := .iface 101 (.agg #[])
set_option maxRecDepth 100000 in
set_option maxHeartbeats 2000000 in
theorem caught_idle (g : Nat) (w : World) :
    CallsD Try.prog 56 #[.pointer (some ⟨g, 0, none⟩)] .returning w fun e u' w' => e = .returned (.tuple #[]) ∧ u' = .returning ∧ Below w.heap.size w w' := by
  have hta : ∀ w, (Instr.typeAssert .nilIface 20 101 true).run Try.prog w = .ok (.tuple #[.agg #[], .bool false]) w := fun w => by kernel_rfl
  refine callsD_of_wpS Try.func56 rfl fun c₀ cs hu => ?_
  simp only [Try.ntmps56, List.size_toArray, List.length_cons, List.length_nil, Nat.reduceAdd, Nat.reduceSub, Array.replicate_succ, Array.replicate_zero, List.push_toArray, List.append_toArray, List.nil_append, List.cons_append]
  apply wpS_seq
  refine wpS_recover (v := .nilIface) (cs' := c₀ :: cs) rfl rfl (.inr ⟨by simp [recoverD, hu], rfl, rfl⟩) (fun ⟨_, _, h⟩ => by obtain ⟨u, h, _⟩ := h; cases h) ?_
  go_wp2
  refine wpS_of_wp ?_
  go_wp2
  refine ⟨rfl, .returning, by cases c₀; simp_all, _, results_none rfl _ _ _, rfl, rfl, below_alloc (Below.refl _ _) _⟩
set_option maxRecDepth 100000 in
set_option maxHeartbeats 2000000 in
theorem caught_limit (g : Nat) (w : World) (older : List PanicEntry) (hg : w.heap[g]? = some (.cells #[.int .i64 0] 25 (0, 0))) :
    CallsD Try.prog 56 #[.pointer (some ⟨g, 0, none⟩)] (.panicking ({ v := limitV, recovered := false } :: older)) w fun e u' w' =>
      e = .returned (.tuple #[]) ∧ u' = .panicking ({ v := limitV, recovered := true } :: older) ∧ w'.heap[g]? = some (.cells #[.int .i64 2] 25 (0, 0)) ∧ w.grownBy w' (some g) := by
  have hta : ∀ w, (Instr.typeAssert limitV 20 101 true).run Try.prog w = .ok (.tuple #[.agg #[], .bool true]) w := fun w => by kernel_rfl
  have HG := Aside0.mk hg
  have hg1 := blk_alloc hg (.cells #[] 101)
  have HG1 := Aside0.mk hg1
  have y0 := (blk_cell hg1 0).trans rfl
  have yf := blk_frozen hg1 0
  clear hg hg1
  refine callsD_of_wpS Try.func56 rfl fun c₀ cs hu => ?_
  simp only [Try.ntmps56, List.size_toArray, List.length_cons, List.length_nil, Nat.reduceAdd, Nat.reduceSub, Array.replicate_succ, Array.replicate_zero, List.push_toArray, List.append_toArray, List.nil_append, List.cons_append]
  apply wpS_seq
  refine wpS_recover (v := limitV) (cs' := { c₀ with mode := .panicking ({ v := limitV, recovered := true } :: older) } :: cs) rfl rfl (.inl (by simp [recoverD, hu])) (fun ⟨_, _, h⟩ => by obtain ⟨u, h, _⟩ := h; cases h) ?_
  go_wp2
  refine wpS_of_wp ?_
  go_wp2
  refine ⟨rfl, _, rfl, _, results_none rfl _ _ _, rfl, rfl, blk_put HG1.out 0 _ rfl, ?_⟩
  exact World.grownBy.trans (grown_of_below (below_alloc (Below.refl _ _) _) _) (setCell_grown _ _ _ _)
end Go.Proofs.Ytgocgjfaiddejaa.M
