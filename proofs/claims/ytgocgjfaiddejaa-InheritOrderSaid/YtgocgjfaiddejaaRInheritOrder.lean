/- The row of InheritOrder, out of its walk. -/
import Derived.Test.YtgocgjfaiddejaaRows
import Derived.Test.YtgocgjfaiddejaaL12
import Derived.Test.YtgocgjfaiddejaaH28
import Derived.Test.YtgocgjfaiddejaaGT
import Derived.WalkKit
import Derived.ProofKit
import Derived.OpenShut
import Derived.ShutString
import Derived.ChangeOld
import Derived.Below
import Derived.SizedLaws
namespace Go.Proofs.Ytgocgjfaiddejaa.inheritOrder
open Go.ChangeShapes Go.WideShapes Go.ChangeAt Go.RowKit Go.Proofs.Ytgocgjfaiddejaa.M Go.Proofs.YtgocgjfaiddejaaW.PrintWords Go.Proofs.YtgocgjfaiddejaaW.PrintLast Go.Proofs.YtgocgjfaiddejaaW.PrintMore
set_option linter.unusedVariables false
theorem own : ownKnob Try.prog.godebug = none := by kernel_rfl
theorem laidOut : laidOutB Try.prog = true := by kernel_rfl
set_option maxRecDepth 100000 in
theorem lifted (os : Os) (started : os.Started) (H : Type) (enc : TypeId × Value → H) :
    ReturnsInHanded {} Try.checked os 12 .any (Rows.inheritOrderSpec.pre6 enc Try.prog Try.f12 Rows.inheritOrderRow.domain false) (Rows.inheritOrderSpec.post enc Try.prog Try.f12 false true false false) := by
  refine returnsInHanded_of_change_sized (C := Try.checked) own started (by kernel_rfl) Try.func12
    (ChangeSpec.witness6 (enc := enc) (C := Try.checked) false ⟨#[], #[.agg #[.int .i64 0, .slice none 0 0, .int .i64 0], .agg #[.int .i64 0, .bool false, .slice none 0 0]], []⟩ 8 (by kernel_rfl) (by kernel_rfl) (by kernel_rfl) (by kernel_rfl)) ?_
  intro W base args ds gs before hval0 hW hcnd hsz0 _
  have hval : ∀ (j : Nat) t v, Try.f12.params[j]? = some t → args[j]? = some v → Value.okWide Try.prog W .any base t v := hval0
  have hW' := hW
  obtain ⟨p, q, hA0, hV, rfl, hfz, hnd⟩ := hW
  have hA : DataW.TrodAll enc Try.prog W 0 (fun _ => true) true Try.f12.params.toList args.toList ds p := hA0
  rw [Try.params12] at hA hval
  obtain ⟨v0, vs0, d0, ds0, p0, q0, hargs, rfl, rfl, h0, r0⟩ := trodAll_cons hA
  obtain ⟨v1, vs1, d1, ds1, p1, q1, rfl, rfl, rfl, h1, r1⟩ := trodAll_cons r0
  obtain ⟨rfl, rfl, rfl⟩ := trodAll_nil r1
  obtain rfl : args = #[v0, v1] := by cases args; simp_all
  obtain ⟨rfl, rfl⟩ := trodVars_none hV
  have k0 := h0
  have lt0 : ∀ x ∈ p0, x.block < W.heap.size := by obtain ⟨m, hm⟩ := k0; exact DataW.trod_lt m _ _ _ hm
  obtain ⟨cs0, rfl, hz0⟩ := okWide_struct Try.underlying63 (hval 0 63 v0 rfl rfl)
  obtain ⟨u0, pv0, A0, c0, y0, rfl, hc0, hC0⟩ : ∃ (u pv : Int) (A : Option Addr) (c : Nat) (y : List Int), cs0 = #[.int .i64 u, .slice A y.length c, .int .i64 pv] ∧ y.length ≤ c ∧ Kd.C (Kd.int .i64) W A y.length y := by
    obtain ⟨fuel, hf⟩ := h0
    obtain ⟨u, pv, A, c, y, he, hc, hC⟩ := tok_of _ _ _ hf
    exact ⟨u, pv, A, c, y, Array.toList_inj.1 (by simpa [Value.cells] using he), hc, hC⟩
  have k1 := h1
  have lt1 : ∀ x ∈ p1, x.block < W.heap.size := by obtain ⟨m, hm⟩ := k1; exact DataW.trod_lt m _ _ _ hm
  obtain ⟨cs1, rfl, hz1⟩ := okWide_struct Try.underlying33 (hval 1 33 v1 rfl rfl)
  obtain ⟨y1, A1, c1, rfl, hc1, hC1⟩ : ∃ (y : S33) (A : Option Addr) (c : Nat), cs1 = #[.int .i64 y.f0, .bool y.f1, .slice A y.f2.length c] ∧ y.f2.length ≤ c ∧ k37.C W A y.f2.length y.f2 := by
    obtain ⟨fuel, hf⟩ := h1
    obtain ⟨y, hy⟩ := desc_of _ _ _ hf
    obtain ⟨A, c, he, hc, hC⟩ := k33_open hy
    exact ⟨y, A, c, Array.toList_inj.1 (by simpa [Value.cells] using he), hc, hC⟩
  clear hA0 hval0 hsz0
  refine (order_any u0 pv0 y0 A0 c0 A1 c1 y1 W hC0 hc0 hc1 hC1).mono fun e W' ⟨he, bel⟩ => ?_
  subst he
  exact ⟨_, rfl, _, _, _, [], _, [], hW', trodAll_mk1 (shut_bool Try.underlying4 _), (trodAll_cons_mk (Below.trod laidOut (by kernel_rfl) (of_decide_eq_true (by kernel_rfl)) k0 bel lt0) (trodAll_cons_mk (Below.trod laidOut (by kernel_rfl) (of_decide_eq_true (by kernel_rfl)) k1 bel lt1) trodAll_mk0)), rfl, bel.frame _, fun h => by cases h⟩
theorem over : Rows.inheritOrderRow.holds Try.pinned (OpenSpec.ofChange Rows.inheritOrderSpec) :=
  OpenClaim.holds_of_wide 12 Try.f12 rfl rfl rfl rfl rfl rfl rfl ⟨rfl, rfl, rfl, rfl, rfl⟩ rfl rfl rfl rfl rfl (by kernel_rfl) Try.func12 (by kernel_rfl)
    (of_decide_eq_true (by kernel_rfl)) (by unfold Func.isWrapper; first | (rw [if_pos (by decide +kernel)]; kernel_rfl) | (rw [if_neg (by decide +kernel)]; exact ⟨rfl, rfl⟩))
    (fun os started H enc _ => lifted os started H enc)
theorem proved : Rows.InheritOrderSaid := over
end Go.Proofs.Ytgocgjfaiddejaa.inheritOrder
namespace Go.Proofs.Ytgocgjfaiddejaa
/-- The row, under a short name, for the claim. -/
theorem inheritOrder_holds : Rows.InheritOrderSaid := inheritOrder.proved
end Go.Proofs.Ytgocgjfaiddejaa
