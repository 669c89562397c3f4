/- Steps of a walk, each with a letter for the world that it leaves: a new variable with its value, a store into a variable of the call's own, a call of a function value. -/
import Derived.Test.YtifnfnoicinbaaaT
import Derived.StillTailTactics
namespace Go.Proofs.Ytifnfnoicinbaaa.M
open Go.RowKit Go.Proofs.YtifnfnoicinbaaaW.PrintWords Go.Proofs.YtifnfnoicinbaaaW.PrintLast Go.Proofs.YtifnfnoicinbaaaW.PrintMore
set_option linter.unusedVariables false
set_option linter.unusedSimpArgs false

section
variable {P : Program} {ops : Array Oper} {Q : Exit → Act → World → Prop}
/-- A call of a function value. -/
theorem goesV {rest : List Oper} {oi : Oper} {a : Act} {w : World} (N : Option Tmp) (hd : oi.dst = N) (hg : oi.guard = none) {t : Operand} {f : FuncId} {caps : Array Value} {xs : Array Operand} {ts : Array TypeId}
    (he : ∀ args w, (callFunc f args).run P w = .ok (.enter f args) w) (args : Array Value)
    (hop : oi.op = .call { callee := .value t, args := xs, argTypes := ts }) (hv : a.eval t = .func (.func f) #[] caps) (hargs : xs.map a.eval = args)
    (h : Calls P f (args ++ caps) w fun e w' => ∃ v, e = .returned v ∧ wpList P ops Q rest (a.put N v) w') : wpList P ops Q (oi :: rest) a w := by
  refine wpList_plain hg fun K hK => ?_
  have hrun : (execOp a.eval oi).run P w = .ok (.enter f (args ++ caps)) w := by
    unfold execOp
    simp [hop, resolve, Deferred.ofValue, invoke, hv, hargs, he]
  unfold Oper.wp
  rw [hrun, Oper.upon_enter]
  refine h.mono fun e w'' hh => ?_
  obtain ⟨v, rfl, hk⟩ := hh
  subst hd
  exact hK _ _ hk

/-- A call that may end in a panic. -/
theorem goesP {rest : List Oper} {oi : Oper} {a : Act} {w : World} (N : Option Tmp) (hd : oi.dst = N) (hg : oi.guard = none) {f : FuncId} {fn : Func} {xs : Array Operand} {ts : Array TypeId} (hf : P.funcs[f]? = some fn) (hname : (fn.name == "runtime.NumGoroutine") = false) (hb : fn.body.isSome = true) (args : Array Value)
    (hop : oi.op = .call { callee := .value (.func f), args := xs, argTypes := ts }) (hargs : xs.map a.eval = args)
    (h : Calls P f args w fun e w' => (∃ v, e = .returned v ∧ wpList P ops Q rest (a.put N v) w') ∨ (∃ ch, e = .panicked ch ∧ Q (.panic ch) a w')) : wpList P ops Q (oi :: rest) a w := by
  refine wpList_plain hg fun K hK => ?_
  have he := enters_ hf hname hb args w
  have hrun : (execOp a.eval oi).run P w = .ok (.enter f args) w := by
    unfold execOp
    simp [hop, resolve, Deferred.ofValue, invoke, Act.eval, hargs, he]
  unfold Oper.wp
  rw [hrun, Oper.upon_enter]
  refine h.mono fun e w'' hh => ?_
  subst hd
  rcases hh with ⟨v, rfl, hk⟩ | ⟨ch, rfl, hk⟩
  · exact hK _ _ hk
  · exact hk
theorem storeCells_lone (g t : Nat) (w : World) (old : Array Value) (v : Value) (hg : w.heap[g]? = some (.cells old t (0, 0))) (hs : old.size = v.cells.size) (h1 : v.cells.all (·.oneCell') = true) :
    (storeCells ⟨g, 0, none⟩ v.cells.toList).run P w = .ok () (w.setRow g v.cells) := by
  have := run_storeCells_from (P := P) g t v.cells.toList 0 old w hg (by simp; omega) (fun u hu => (Array.all_eq_true_iff_forall_mem.1 h1) u (by simpa using hu))
  simpa using this
theorem storeVar_lone (ty g t : Nat) (w : World) (old : Array Value) (v : Value) (hg : w.heap[g]? = some (.cells old t (0, 0))) (hi : (P.info? ty).map (·.size) = some v.cells.size) (hs : old.size = v.cells.size) (h1 : v.cells.all (·.oneCell') = true) :
    (storeVar ty ⟨g, 0, none⟩ v).run P w = .ok () (w.setRow g v.cells) := by
  cases hq : P.info? ty with
  | none => simp [hq] at hi
  | some i =>
    have hs2 : v.cells.size = i.size := by simp [hq] at hi; omega
    have := storeCells_lone (P := P) g t w old v hg hs h1
    simp [storeVar, sizeOf, typeInfo, hq, hs2, this]

theorem setRow_grown (w : World) (g : Nat) (cs : Array Value) : w.grownBy (w.setRow g cs) (some g) := by
  refine ⟨rfl, rfl, rfl, ?_, fun i hi hr => ?_⟩
  · show w.heap.size ≤ (w.heap.modify _ _).size
    rw [Array.size_modify]; exact Nat.le_refl _
  · show (w.heap.modify _ _)[i]? = _
    have hne : g ≠ i := fun e => hr (by rw [e])
    simp [Array.getElem?_modify, hne]
theorem setCell_grown (w : World) (g j : Nat) (u : Value) : w.grownBy (w.setCell ⟨g, j, none⟩ u) (some g) := by
  refine ⟨rfl, rfl, rfl, ?_, fun i hi hr => Below.heap_setCell w _ u i (fun e => hr (by rw [e]))⟩
  show w.heap.size ≤ (w.heap.modify _ _).size
  rw [Array.size_modify]; exact Nat.le_refl _

/-- 'var x = v': a new variable and the store of its value, at once. -/
theorem var_event {W : World} {o1 o2 : Oper} {rest : List Oper} {a : Act} {N : Tmp} (hd : o1.dst = some N) {t : TypeId} {x : Operand} {zero v : Value} {cs : Array Value} (hg1 : o1.guard = none) (ho1 : o1.op = .alloc t)
    (hg2 : o2.guard = none) (ho2 : o2.op = .store t (.tmp N) x) (hN2 : o2.dst = none) (hinfo : (P.info? t).map (fun i => (i.zero, i.size)) = some (some zero, cs.size)) (hz : zero.cells.size = cs.size)
    (hx : (a.put (some N) (.pointer (some ⟨W.heap.size, 0, none⟩))).eval x = v) (hv : v.cells = cs) (h1 : cs.all (·.oneCell') = true) (hN : N < a.tmps.size)
    (h : ∀ g, g = W.heap.size → ∀ w1, w1.heap[g]? = some (.cells cs t (0, 0)) → Below W.heap.size W w1 → wpList P ops Q rest (a.put (some N) (.pointer (some ⟨g, 0, none⟩))) w1) :
    wpList P ops Q (o1 :: o2 :: rest) a W := by
  obtain ⟨i0, hi, hzz⟩ := Option.map_eq_some_iff.1 hinfo
  simp only [Prod.mk.injEq] at hzz
  obtain ⟨hz0, hz1⟩ := hzz
  have hw : W.alloc (.cells zero.cells t (0, 0)) = W.alloc (.cells zero.cells t (0, 0)) := rfl
  have hrun : (execOp a.eval o1).run P W = .ok (.value (.pointer (some ⟨W.heap.size, 0, none⟩))) (W.alloc (.cells zero.cells t (0, 0))) := by
    unfold execOp
    simp only [ho1]
    simp [Instr.alloc, zeroValue, typeInfo, hi, hz0, newVar, newRow, go_sem]
  refine Kd.event_run hg1 hrun ?_
  rw [hd]
  refine wpList_plain hg2 fun K hK => ?_
  have hev : (a.put (some N) (.pointer (some ⟨W.heap.size, 0, none⟩))).eval (.tmp N) = .pointer (some ⟨W.heap.size, 0, none⟩) := by
    simp [Act.put, Act.eval, hN, Array.getD_eq_getD_getElem?]
  have hst := storeVar_lone (P := P) t W.heap.size t (W.alloc (.cells zero.cells t (0, 0))) zero.cells v (blk_new W _) (by rw [hi, hv]; simp [hz1]) (by rw [hv]; exact hz) (by rw [hv]; exact h1)
  unfold Oper.wp
  have hrun2 : (execOp (a.put (some N) (.pointer (some ⟨W.heap.size, 0, none⟩))).eval o2).run P (W.alloc (.cells zero.cells t (0, 0))) = .ok .skip ((W.alloc (.cells zero.cells t (0, 0))).setRow W.heap.size v.cells) := by
    unfold execOp
    simp only [ho2, hev, hx, Instr.storeAt, Instr.sureAddr, Sem.run_bind, Sem.run_pure, Result.andThen_ok, hst]
  rw [hrun2, Oper.upon_skip, hN2]
  refine hK _ _ (h _ rfl _ ?_ ?_)
  · rw [hv]; exact setRow_heap _ _ _ _ _ _ (blk_new W _)
  · exact pw_below_grown (below_alloc (Below.refl _ _) _) (some W.heap.size) (by simp) (setRow_grown _ _ _) (fun k hk => by cases hk; exact Nat.le_refl _)

/-- A store of one cell into a block of the call's own. -/
theorem set_event {W : World} {o : Oper} {rest : List Oper} {a : Act} {t : TypeId} {p : Tmp} {x : Operand} (ho : o.op = .store t (.tmp p) x) (hgd : o.guard = none) (hN : o.dst = none) {g i ty : Nat} {cs cs' : Array Value} {v : Value}
    (hp : a.eval (.tmp p) = .pointer (some ⟨g, i, none⟩)) (hx : a.eval x = v) (hb : W.heap[g]? = some (.cells cs ty (0, 0))) (hi : i < cs.size) (hinfo : (P.info? t).map (·.size) = some 1) (hv : v.cells = #[v]) (h1 : v.oneCell' = true) (he : cs.setIfInBounds i v = cs')
    (h : ∀ w1, w1.heap[g]? = some (.cells cs' ty (0, 0)) → W.grownBy w1 (some g) → wpList P ops Q rest a w1) : wpList P ops Q (o :: rest) a W := by
  refine wpList_plain hgd fun K hK => ?_
  obtain ⟨i0, hi0, hsz⟩ := Option.map_eq_some_iff.1 hinfo
  have hc : W.cell? ⟨g, i, none⟩ = some cs[i] := by rw [blk_cell hb]; simp [hi]
  have hf : W.frozen? ⟨g, i, none⟩ = false := blk_frozen hb i
  have hst : (store ⟨g, i, none⟩ v).run P W = .ok () (W.setCell ⟨g, i, none⟩ v) := by
    rw [run_store P W _ v _ h1, hc]
    simp [hf]
  have hrun : (execOp a.eval o).run P W = .ok .skip (W.setCell ⟨g, i, none⟩ v) := by
    unfold execOp
    simp only [ho]
    have hadd : (⟨g, i, none⟩ : Addr).add 0 = ⟨g, i, none⟩ := by simp [Addr.add]
    have hsv : (storeVar t ⟨g, i, none⟩ v).run P W = .ok () (W.setCell ⟨g, i, none⟩ v) := by
      simp [storeVar, hv, sizeOf, typeInfo, hi0, hsz, storeCells]
      rw [hadd, hst]
    simp only [hp, hx, Instr.storeAt, Instr.sureAddr, Sem.run_bind, Sem.run_pure, Result.andThen_ok, hsv]
  unfold Oper.wp
  rw [hrun, Oper.upon_skip, hN]
  refine hK _ _ (h _ ?_ (setCell_grown _ _ _ _))
  subst he
  exact blk_set hb i v
/-- A store of a whole struct into a variable of the call's own. -/
theorem put_event {W : World} {o : Oper} {rest : List Oper} {a : Act} {t : TypeId} {p : Tmp} {x : Operand} (ho : o.op = .store t (.tmp p) x) (hgd : o.guard = none) (hN : o.dst = none) {g ty : Nat} {cs cs' : Array Value} {v : Value}
    (hp : a.eval (.tmp p) = .pointer (some ⟨g, 0, none⟩)) (hx : a.eval x = v) (hb : W.heap[g]? = some (.cells cs ty (0, 0))) (hinfo : (P.info? t).map (·.size) = some cs'.size) (hv : v.cells = cs') (hs : cs.size = cs'.size) (h1 : cs'.all (·.oneCell') = true)
    (h : ∀ w1, w1.heap[g]? = some (.cells cs' ty (0, 0)) → W.grownBy w1 (some g) → wpList P ops Q rest a w1) : wpList P ops Q (o :: rest) a W := by
  subst hv
  refine wpList_plain hgd fun K hK => ?_
  have hst := storeVar_lone (P := P) t g ty W cs v hb hinfo hs h1
  have hrun : (execOp a.eval o).run P W = .ok .skip (W.setRow g v.cells) := by
    unfold execOp
    simp only [ho]
    simp only [hp, hx, Instr.storeAt, Instr.sureAddr, Sem.run_bind, Sem.run_pure, Result.andThen_ok, hst]
  unfold Oper.wp
  rw [hrun, Oper.upon_skip, hN]
  exact hK _ _ (h _ (setRow_heap _ _ _ _ _ _ hb) (setRow_grown _ _ _))
/-- A region that draws its order and only looks, but for its end: the draw's world has a letter. -/
theorem region_tail {id : Nat} {a : Act} {w : World} {l : List Oper} (n : Nat) (hm : P.follows .mixedOrders = true) (hB : Region.lexTailB .any l.toArray n = true)
    (h : ∀ wd, Below w.heap.size w wd → wpStill P l.toArray wd (fun a' => wpList P l.toArray Q (l.drop n) a' wd) (l.take n) a) : (Code.region id l.toArray true).wp P Q a w :=
  wp_region_still_tail n hm hB (h _ (below_drew (Below.refl _ _)))
end
/-- Variables laid one behind the other. -/
theorem blk_lit0 (w : World) (o : Obj) : (w.alloc o).heap[w.heap.size]? = some o := blk_new w o
theorem blk_lit (w : World) (o o' : Obj) : ((w.alloc o).alloc o').heap[w.heap.size + 1]? = some o' := by have := blk_new (w.alloc o) o'; rwa [World.size_alloc] at this
theorem blk_lit2 (w : World) (o o1 o' : Obj) : (((w.alloc o).alloc o1).alloc o').heap[w.heap.size + 1 + 1]? = some o' := by have := blk_lit (w.alloc o) o1 o'; rwa [World.size_alloc] at this
theorem blk_lit3 (w : World) (o o1 o2 o' : Obj) : ((((w.alloc o).alloc o1).alloc o2).alloc o').heap[w.heap.size + 1 + 1 + 1]? = some o' := by have := blk_lit2 (w.alloc o) o1 o2 o'; rwa [World.size_alloc] at this
theorem blk_lit4 (w : World) (o o1 o2 o3 o' : Obj) : (((((w.alloc o).alloc o1).alloc o2).alloc o3).alloc o').heap[w.heap.size + 1 + 1 + 1 + 1]? = some o' := by have := blk_lit3 (w.alloc o) o1 o2 o3 o'; rwa [World.size_alloc] at this
theorem blk_lit5 (w : World) (o o1 o2 o3 o4 o' : Obj) : ((((((w.alloc o).alloc o1).alloc o2).alloc o3).alloc o4).alloc o').heap[w.heap.size + 1 + 1 + 1 + 1 + 1]? = some o' := by have := blk_lit4 (w.alloc o) o1 o2 o3 o4 o'; rwa [World.size_alloc] at this
end Go.Proofs.Ytifnfnoicinbaaa.M
