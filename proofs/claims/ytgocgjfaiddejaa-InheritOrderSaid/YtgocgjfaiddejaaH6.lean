/- inherit.rules and the search in what it hands back. -/
import Derived.Test.YtgocgjfaiddejaaH2
import Derived.Test.YtgocgjfaiddejaaS
import Derived.Test.YtgocgjfaiddejaaFA
namespace Go.Proofs.Ytgocgjfaiddejaa.M
open Go.RowKit Go.Proofs.YtgocgjfaiddejaaW.PrintWords Go.Proofs.YtgocgjfaiddejaaW.PrintLast Go.Proofs.YtgocgjfaiddejaaW.PrintMore
set_option linter.unusedVariables false
set_option linter.unusedSimpArgs false

def encF (f : Nat) : Value := .func (.func f) #[] #[]
def kR : Kd (Nat × Nat) := Kd.pair (Kd.scalar encF (fun _ => rfl)) (Kd.scalar encF (fun _ => rfl))
theorem kR_open {w : World} {x : Nat × Nat} {cs : List Value} (h : kR.K w x cs) : cs = [encF x.1, encF x.2] := by
  obtain ⟨_, _, rfl, rfl, rfl⟩ := h
  rfl
theorem kR_mk (w : World) (x : Nat × Nat) : kR.K w x [encF x.1, encF x.2] := ⟨[encF x.1], [encF x.2], rfl, rfl, rfl⟩
theorem at_R {w : World} {A : Option Addr} {n : Nat} {xs : List (Nat × Nat)} (h : Kd.C kR w A n xs) (j : Nat) (h1 : j < xs.length) :
    ∃ ad, A = some ad ∧ w.cell? (ad.add (j * 2)) = some (encF (xs[j]).1) ∧ w.cell? ⟨(ad.add (j * 2)).block, (ad.add (j * 2)).off + 1, none⟩ = some (encF (xs[j]).2) := by
  have hn := h.1
  obtain ⟨ad, c, e, _, hK, hc0⟩ := Kd.C_get h (0, 0) (j : Int) (by omega) (by omega)
  have hc : ∀ i u, c[i]? = some u → w.cell? (ad.add (j * 2 + i)) = some u := hc0
  obtain rfl := kR_open hK
  have e2 : xs.getD (j : Int).toNat (0, 0) = xs[j] := by simp [h1]
  rw [e2] at hc
  exact ⟨ad, e, hc 0 _ rfl, by rw [← add_field _ _ 1 (by omega)]; exact hc 1 _ rfl⟩

/-- The kinds of inheritance: the functions' numbers. -/
def rulesOf (dir : Bool) : List (Nat × Nat) := if dir then [(90, 88), (91, 92), (93, 94)] else [(89, 88)]
def ruleCells (dir : Bool) : Array Value := if dir then #[encF 90, encF 88, encF 91, encF 92, encF 93, encF 94] else #[encF 89, encF 88]
set_option maxRecDepth 100000 in
set_option maxHeartbeats 2000000 in
theorem rules_calls (dir : Bool) (w : World) : Calls Try.prog 74 #[.bool dir] w fun e w' => e = .returned (.slice (some ⟨w.heap.size, 0, none⟩) (rulesOf dir).length (rulesOf dir).length) ∧ w' = w.alloc (.cells (ruleCells dir) 97) := by
  cases dir
  · go_enter Try.func74, Try.ntmps74
    go_wp2
    go_ret
    exact ⟨rfl, rfl⟩
  · go_enter Try.func74, Try.ntmps74
    go_wp2
    go_ret
    exact ⟨rfl, rfl⟩
theorem rules_C (dir : Bool) {w : World} {g : Nat} (hb : w.heap[g]? = some (.cells (ruleCells dir) 97 (0, 0))) : kR.C w (some ⟨g, 0, none⟩) (rulesOf dir).length (rulesOf dir) := by
  refine ⟨rfl, by cases dir <;> simp [rulesOf], fun _ => ⟨_, rfl, fun j p hj => ?_⟩⟩
  cases dir
  · rcases j with _ | j
    · obtain rfl : (89, 88) = p := by simpa [rulesOf] using hj
      refine ⟨_, rfl, kR_mk w _, fun i u hu => ?_⟩
      rw [add_plain, blk_cell hb, Nat.zero_mul, Nat.zero_add, ← Array.getElem?_toList]
      exact hu
    · simp [rulesOf] at hj
  · rcases j with _ | _ | _ | j
    · obtain rfl : (90, 88) = p := by simpa [rulesOf] using hj
      refine ⟨_, rfl, kR_mk w _, fun i u hu => ?_⟩
      rw [add_plain, blk_cell hb, Nat.zero_mul, Nat.zero_add, ← Array.getElem?_toList]
      rcases i with _ | _ | i <;> first | exact hu | simp at hu
    · obtain rfl : (91, 92) = p := by simpa [rulesOf] using hj
      refine ⟨_, rfl, kR_mk w _, fun i u hu => ?_⟩
      rw [add_plain, blk_cell hb, ← Array.getElem?_toList]
      rcases i with _ | _ | i <;> first | exact hu | simp at hu
    · obtain rfl : (93, 94) = p := by simpa [rulesOf] using hj
      refine ⟨_, rfl, kR_mk w _, fun i u hu => ?_⟩
      rw [add_plain, blk_cell hb, ← Array.getElem?_toList]
      rcases i with _ | _ | i <;> first | exact hu | simp at hu
    · simp [rulesOf] at hj

/-- A function over flags that only looks. -/
structure IsFn (f : FuncId) (φ : Int → Bool) : Prop where
  enters : ∀ args w, (callFunc f args).run Try.prog w = .ok (.enter f args) w
  calls : ∀ (x : Int) (w : World), Calls Try.prog f #[.int .i64 x] w fun e w' => e = .returned (.bool (φ x)) ∧ Drawn0 w w'
structure FlFn (f : FuncId) (φ : Int → Int) : Prop where
  enters : ∀ args w, (callFunc f args).run Try.prog w = .ok (.enter f args) w
  calls : ∀ (x : Int) (w : World), Calls Try.prog f #[.int .i64 x] w fun e w' => e = .returned (.int .i64 (φ x)) ∧ w' = w
/-- What the kinds' functions answer, by their numbers. -/
def isT (f : Nat) (x : Int) : Bool := if f = 89 then hasB x 1 else if f = 90 then hasB x 2 && hasB x 8 else if f = 91 then hasB x 2 else hasB x 1 && !(hasB x 8)
def flT (f : Nat) (x : Int) : Int := if f = 88 then 16 else if f = 92 then Go.bits .or .i64 18 (Go.bits .and .i64 x 1) else 21
theorem is89 : IsFn 89 (isT 89) := ⟨enters_ Try.func89 (by kernel_rfl) rfl, fun x w => inherit_rules_L2.calls x _ w rfl⟩
theorem is90 : IsFn 90 (isT 90) := ⟨enters_ Try.func90 (by kernel_rfl) rfl, fun x w => inherit_rules_L3.calls x _ w (by
  simp only [inherit_rules_L3.f, inherit_has.f, Option.bind_some]; unfold isT hasB; cases h : (Go.bits .and .i64 x 2 != 0) <;> simp [h])⟩
theorem is91 : IsFn 91 (isT 91) := ⟨enters_ Try.func91 (by kernel_rfl) rfl, fun x w => inherit_rules_L4.calls x _ w rfl⟩
theorem is93 : IsFn 93 (isT 93) := ⟨enters_ Try.func93 (by kernel_rfl) rfl, fun x w => inherit_rules_L6.calls x _ w (by
  simp only [inherit_rules_L6.f, inherit_has.f, Option.bind_some]; unfold isT hasB; cases h : (Go.bits .and .i64 x 1 != 0) <;> simp [h])⟩
theorem fl88 : FlFn 88 (flT 88) := ⟨enters_ Try.func88 (by kernel_rfl) rfl, fun x w => by
  go_enter Try.func88, Try.ntmps88
  go_wp2
  go_ret
  exact ⟨rfl, rfl⟩⟩
theorem fl92 : FlFn 92 (flT 92) := ⟨enters_ Try.func92 (by kernel_rfl) rfl, fun x w => by
  go_enter Try.func92, Try.ntmps92
  go_wp2
  go_ret
  exact ⟨rfl, rfl⟩⟩
theorem fl94 : FlFn 94 (flT 94) := ⟨enters_ Try.func94 (by kernel_rfl) rfl, fun x w => by
  go_enter Try.func94, Try.ntmps94
  go_wp2
  go_ret
  exact ⟨rfl, rfl⟩⟩
theorem rules_is (dir : Bool) (j : Nat) (h : j < (rulesOf dir).length) : IsFn ((rulesOf dir)[j]).1 (isT ((rulesOf dir)[j]).1) := by
  cases dir
  · obtain rfl : j = 0 := by simp [rulesOf] at h; omega
    exact is89
  · rcases j with _ | _ | _ | j
    · exact is90
    · exact is91
    · exact is93
    · simp [rulesOf] at h; omega
theorem rules_fl (dir : Bool) (j : Nat) (h : j < (rulesOf dir).length) : FlFn ((rulesOf dir)[j]).2 (flT ((rulesOf dir)[j]).2) := by
  cases dir
  · obtain rfl : j = 0 := by simp [rulesOf] at h; omega
    exact fl88
  · rcases j with _ | _ | _ | j
    · exact fl88
    · exact fl92
    · exact fl94
    · simp [rulesOf] at h; omega
/-- The kind that counts. -/
def firstR (l : List (Nat × Nat)) (x : Int) : Int := match l.findIdx? (fun r => isT r.1 x) with | none => -1 | some i => (i : Int)
theorem rules_none {dir : Bool} {x : Int} (h : giveF x dir = none) : firstR (rulesOf dir) x = -1 := by
  unfold giveF at h
  unfold firstR rulesOf
  cases dir
  · simp only [isT] at *; cases h1 : hasB x 1 <;> simp_all
  · cases h1 : hasB x 1 <;> cases h2 : hasB x 2 <;> cases h8 : hasB x 8 <;> simp_all [isT, List.findIdx?_cons]
theorem rules_some {dir : Bool} {x f : Int} (h : giveF x dir = some f) : ∃ j, ∃ hj : j < (rulesOf dir).length, firstR (rulesOf dir) x = (j : Int) ∧ flT ((rulesOf dir)[j]).2 x = f := by
  unfold giveF at h
  unfold firstR rulesOf
  cases dir
  · refine ⟨0, by simp, ?_⟩
    simp only [isT] at *; cases h1 : hasB x 1 <;> simp_all [flT, List.findIdx?_cons]
  · cases h2 : hasB x 2
    · cases h1 : hasB x 1 <;> cases h8 : hasB x 8 <;> simp [h1, h2, h8] at h
      subst h
      exact ⟨2, by decide, by simp [isT, h1, h2, h8, List.findIdx?_cons], rfl⟩
    · cases h8 : hasB x 8 <;> simp [h2, h8] at h <;> subst h
      · exact ⟨1, by decide, by simp [isT, h2, h8, List.findIdx?_cons], rfl⟩
      · exact ⟨0, by decide, by simp [isT, h2, h8, List.findIdx?_cons], rfl⟩
end Go.Proofs.Ytgocgjfaiddejaa.M
