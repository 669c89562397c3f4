/- The row of InheritProtects, out of its walk. -/
import Derived.Test.YtgocgjfaiddejaaRows
import Derived.Test.YtgocgjfaiddejaaL13
import Derived.Test.YtgocgjfaiddejaaH28
import Derived.Test.YtgocgjfaiddejaaGT
import Derived.WalkKit
import Derived.ProofKit
import Derived.OpenShut
import Derived.ShutString
import Derived.ChangeOld
import Derived.Below
import Derived.SizedLaws
namespace Go.Proofs.Ytgocgjfaiddejaa.inheritProtects
open Go.ChangeShapes Go.WideShapes Go.ChangeAt Go.RowKit Go.Proofs.Ytgocgjfaiddejaa.M Go.Proofs.YtgocgjfaiddejaaW.PrintWords Go.Proofs.YtgocgjfaiddejaaW.PrintLast Go.Proofs.YtgocgjfaiddejaaW.PrintMore
set_option linter.unusedVariables false
theorem own : ownKnob Try.prog.godebug = none := by kernel_rfl
theorem laidOut : laidOutB Try.prog = true := by kernel_rfl
set_option maxRecDepth 100000 in
theorem lifted (os : Os) (started : os.Started) (H : Type) (enc : TypeId × Value → H) :
    ReturnsInHanded {} Try.checked os 13 .any (Rows.inheritProtectsSpec.pre6 enc Try.prog Try.f13 Rows.inheritProtectsRow.domain false) (Rows.inheritProtectsSpec.post enc Try.prog Try.f13 false true false false) := by
  refine returnsInHanded_of_change_sized (C := Try.checked) own started (by kernel_rfl) Try.func13
    (ChangeSpec.witness6 (enc := enc) (C := Try.checked) false ⟨#[], #[.agg #[.int .i64 0, .slice none 0 0, .int .i64 0], .agg #[.int .i64 0, .bool false, .slice none 0 0], .agg #[.int .i64 0, .bool false, .slice none 0 0], .bool false], []⟩ 8 (by kernel_rfl) (by kernel_rfl) (by kernel_rfl) (by kernel_rfl)) ?_
  intro W base args ds gs before hval0 hW hcnd hsz0 _
  have hval : ∀ (j : Nat) t v, Try.f13.params[j]? = some t → args[j]? = some v → Value.okWide Try.prog W .any base t v := hval0
  have hW' := hW
  obtain ⟨p, q, hA0, hV, rfl, hfz, hnd⟩ := hW
  have hA : DataW.TrodAll enc Try.prog W 0 (fun _ => true) true Try.f13.params.toList args.toList ds p := hA0
  rw [Try.params13] at hA hval
  obtain ⟨v0, vs0, d0, ds0, p0, q0, hargs, rfl, rfl, h0, r0⟩ := trodAll_cons hA
  obtain ⟨v1, vs1, d1, ds1, p1, q1, rfl, rfl, rfl, h1, r1⟩ := trodAll_cons r0
  obtain ⟨v2, vs2, d2, ds2, p2, q2, rfl, rfl, rfl, h2, r2⟩ := trodAll_cons r1
  obtain ⟨v3, vs3, d3, ds3, p3, q3, rfl, rfl, rfl, h3, r3⟩ := trodAll_cons r2
  obtain ⟨rfl, rfl, rfl⟩ := trodAll_nil r3
  obtain rfl : args = #[v0, v1, v2, v3] := by cases args; simp_all
  obtain ⟨rfl, rfl⟩ := trodVars_none hV
  have k0 := h0
  have lt0 : ∀ x ∈ p0, x.block < W.heap.size := by obtain ⟨m, hm⟩ := k0; exact DataW.trod_lt m _ _ _ hm
  obtain ⟨cs0, rfl, hz0⟩ := okWide_struct Try.underlying63 (hval 0 63 v0 rfl rfl)
  obtain ⟨u0, pv0, A0, c0, y0, rfl, hc0, hC0⟩ : ∃ (u pv : Int) (A : Option Addr) (c : Nat) (y : List Int), cs0 = #[.int .i64 u, .slice A y.length c, .int .i64 pv] ∧ y.length ≤ c ∧ Kd.C (Kd.int .i64) W A y.length y := by
    obtain ⟨fuel, hf⟩ := h0
    obtain ⟨u, pv, A, c, y, he, hc, hC⟩ := tok_of _ _ _ hf
    exact ⟨u, pv, A, c, y, Array.toList_inj.1 (by simpa [Value.cells] using he), hc, hC⟩
  have k1 := h1
  have lt1 : ∀ x ∈ p1, x.block < W.heap.size := by obtain ⟨m, hm⟩ := k1; exact DataW.trod_lt m _ _ _ hm
  obtain ⟨cs1, rfl, hz1⟩ := okWide_struct Try.underlying33 (hval 1 33 v1 rfl rfl)
  obtain ⟨y1, A1, c1, rfl, hc1, hC1⟩ : ∃ (y : S33) (A : Option Addr) (c : Nat), cs1 = #[.int .i64 y.f0, .bool y.f1, .slice A y.f2.length c] ∧ y.f2.length ≤ c ∧ k37.C W A y.f2.length y.f2 := by
    obtain ⟨fuel, hf⟩ := h1
    obtain ⟨y, hy⟩ := desc_of _ _ _ hf
    obtain ⟨A, c, he, hc, hC⟩ := k33_open hy
    exact ⟨y, A, c, Array.toList_inj.1 (by simpa [Value.cells] using he), hc, hC⟩
  have k2 := h2
  have lt2 : ∀ x ∈ p2, x.block < W.heap.size := by obtain ⟨m, hm⟩ := k2; exact DataW.trod_lt m _ _ _ hm
  obtain ⟨cs2, rfl, hz2⟩ := okWide_struct Try.underlying33 (hval 2 33 v2 rfl rfl)
  obtain ⟨y2, A2, c2, rfl, hc2, hC2⟩ : ∃ (y : S33) (A : Option Addr) (c : Nat), cs2 = #[.int .i64 y.f0, .bool y.f1, .slice A y.f2.length c] ∧ y.f2.length ≤ c ∧ k37.C W A y.f2.length y.f2 := by
    obtain ⟨fuel, hf⟩ := h2
    obtain ⟨y, hy⟩ := desc_of _ _ _ hf
    obtain ⟨A, c, he, hc, hC⟩ := k33_open hy
    exact ⟨y, A, c, Array.toList_inj.1 (by simpa [Value.cells] using he), hc, hC⟩
  obtain ⟨y3, rfl, rfl, rfl⟩ := open_bool Try.underlying4 (hval 3 4 v3 rfl rfl) h3
  clear hA0 hval0 hsz0
  refine (protects_any u0 pv0 y0 A0 c0 A1 c1 y1 A2 c2 y2 y3 W hC0 hc0 hc1 hC1 hc2 hC2 ).mono fun e W' ⟨he, bel⟩ => ?_
  subst he
  exact ⟨_, rfl, _, _, _, [], _, [], hW', trodAll_mk1 (shut_bool Try.underlying4 _), (trodAll_cons_mk (Below.trod laidOut (by kernel_rfl) (of_decide_eq_true (by kernel_rfl)) k0 bel lt0) (trodAll_cons_mk (Below.trod laidOut (by kernel_rfl) (of_decide_eq_true (by kernel_rfl)) k1 bel lt1) (trodAll_cons_mk (Below.trod laidOut (by kernel_rfl) (of_decide_eq_true (by kernel_rfl)) k2 bel lt2) (trodAll_cons_mk (shut_bool Try.underlying4 _) trodAll_mk0)))), rfl, bel.frame _, fun h => by cases h⟩
theorem over : Rows.inheritProtectsRow.holds Try.pinned (OpenSpec.ofChange Rows.inheritProtectsSpec) :=
  OpenClaim.holds_of_wide 13 Try.f13 rfl rfl rfl rfl rfl rfl rfl ⟨rfl, rfl, rfl, rfl, rfl⟩ rfl rfl rfl rfl rfl (by kernel_rfl) Try.func13 (by kernel_rfl)
    (of_decide_eq_true (by kernel_rfl)) (by unfold Func.isWrapper; first | (rw [if_pos (by decide +kernel)]; kernel_rfl) | (rw [if_neg (by decide +kernel)]; exact ⟨rfl, rfl⟩))
    (fun os started H enc _ => lifted os started H enc)
theorem proved : Rows.InheritProtectsSaid := over
end Go.Proofs.Ytgocgjfaiddejaa.inheritProtects
namespace Go.Proofs.Ytgocgjfaiddejaa
/-- The row, under a short name, for the claim. -/
theorem inheritProtects_holds : Rows.InheritProtectsSaid := inheritProtects.proved
end Go.Proofs.Ytgocgjfaiddejaa
