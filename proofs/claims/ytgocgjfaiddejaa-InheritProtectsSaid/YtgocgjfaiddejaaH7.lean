/- The search for the kind of inheritance of an entry. -/
import Derived.Test.YtgocgjfaiddejaaH6
namespace Go.Proofs.Ytgocgjfaiddejaa.M
open Go.RowKit Go.Proofs.YtgocgjfaiddejaaW.PrintWords Go.Proofs.YtgocgjfaiddejaaW.PrintLast Go.Proofs.YtgocgjfaiddejaaW.PrintMore
set_option linter.unusedVariables false
set_option linter.unusedSimpArgs false

set_option maxRecDepth 100000 in
set_option maxHeartbeats 2000000 in
theorem kind_calls (r : Nat × Nat) (φ : Int → Bool) (hf : IsFn r.1 φ) (g : Nat) (x : Int) (w : World) (hc : w.cell? ⟨g, 3, none⟩ = some (.int .i64 x)) :
    Calls Try.prog 76 #[.agg #[encF r.1, encF r.2], .pointer (some ⟨g, 0, none⟩)] w fun e w' => e = .returned (.bool (φ x)) ∧ Below w.heap.size w w' := by
  have HF := Aside0.mk hf
  have hlt := World.block_lt_of_cell? w _ hc
  have hc1 := (below_alloc (Below.refl w.heap.size w) (.cells #[encF r.1, encF r.2] 97)).cell hlt |>.trans hc
  have hlt' : ¬ w.heap.size = g := by intro h; subst h; exact absurd hlt (Nat.lt_irrefl _)
  clear hf hlt
  go_enter Try.func76, Try.ntmps76
  go_wp2_with ((with_reducible refine gate_dst (N := 8) rfl ?_); refine goesV (some 8) rfl rfl HF.out.enters #[.int .i64 x] rfl rfl (by (try simp only [List.map_toArray, List.map_cons, List.map_nil]); first | done | rfl) ?_; refine (HF.out.calls x _).mono ?_; rintro e w' ⟨rfl, ⟨nd, rfl⟩⟩; refine ⟨_, rfl, ?_⟩)
  go_ret
  exact ⟨rfl, pw_below_drewN (below_alloc (Below.refl _ w) _) _⟩

theorem firstR_at {l : List (Nat × Nat)} {x : Int} {j : Nat} (h : j < l.length) (hp : isT (l[j]).1 x = true) (hn : ∀ i (h : i < l.length), i < j → isT (l[i]).1 x = false) : firstR l x = j := by
  unfold firstR
  rw [List.findIdx?_eq_some_iff_getElem.2 ⟨h, hp, fun i hi => by simp [hn i (by omega) hi]⟩]
theorem firstR_none {l : List (Nat × Nat)} {x : Int} (hn : ∀ i (h : i < l.length), isT (l[i]).1 x = false) : firstR l x = -1 := by
  unfold firstR
  rw [List.findIdx?_eq_none_iff.2]
  intro r hr
  obtain ⟨i, h, rfl⟩ := List.mem_iff_getElem.1 hr
  exact hn i h

set_option maxRecDepth 100000 in
set_option maxHeartbeats 2000000 in
theorem find_calls (l : List (Nat × Nat)) (hl : ∀ j (h : j < l.length), IsFn (l[j]).1 (isT (l[j]).1)) (A : Option Addr) (c g : Nat) (x : Int) (w : World) (hr : kR.C w A l.length l) (hx : w.cell? ⟨g, 3, none⟩ = some (.int .i64 x)) :
    Calls Try.prog 75 #[.slice A l.length c, .func (.func 76) #[] #[.pointer (some ⟨g, 0, none⟩)]] w fun e w' => e = .returned (.int .i64 (firstR l x)) ∧ Below w.heap.size w w' := by
  have hm := hr.2.1
  have HL := Aside0.mk hl
  have HR := Aside0.mk hr
  have HX := Aside0.mk hx
  have he := enters_ Try.func76 (by kernel_rfl) rfl
  clear hr hl hx
  go_enter Try.func75, Try.ntmps75
  go_wp2
  go_loopg [8] l.length (fun kq v8 w' => ∃ j : Nat, v8 = .int .i64 j ∧ Aside0 (kq + j = l.length) ∧ Aside0 (∀ i (h : i < l.length), i < j → isT (l[i]).1 x = false) ∧ Aside0 (Below w.heap.size w w'))
  case atStart => exact ⟨0, rfl, ⟨rfl⟩, ⟨fun i h h0 => absurd h0 (by omega)⟩, ⟨Below.refl _ _⟩⟩
  case round =>
    obtain ⟨j, rfl, HK, HP, HB⟩ := hrel
    by_cases hlt : j < l.length
    · have h1 : decide (j < l.length) = true := by simpa using hlt
      obtain ⟨ad, rfl, x0, x1⟩ := at_R HR.out j hlt
      replace x0 := (HB.out.cell (World.block_lt_of_cell? w _ x0)).trans x0; replace x1 := (HB.out.cell (World.block_lt_of_cell? w _ x1)).trans x1
      have HXw := Aside0.mk (pw_cell_below HB.out HX.out)
      by_cases hp : isT (l[j]).1 x = true
      · go_wp2_with ((with_reducible refine gate_dst (N := 16) rfl ?_); refine goesV (some 16) rfl rfl he #[.agg #[encF (l[j]).1, encF (l[j]).2]] rfl rfl (by (try simp only [List.map_toArray, List.map_cons, List.map_nil]); first | done | rfl) ?_; refine (kind_calls (l[j]) _ (HL.out j hlt) g x _ HXw.out).mono ?_; rintro e w' ⟨rfl, hb⟩; refine ⟨_, rfl, ?_⟩; have HB2 := Aside0.mk (below_step HB.out hb); clear hb; rw [hp])
        go_ret
        exact ⟨by rw [firstR_at hlt hp HP.out]; rfl, HB2.out⟩
      · replace hp : isT (l[j]).1 x = false := by simpa using hp
        go_wp2_with ((with_reducible refine gate_dst (N := 16) rfl ?_); refine goesV (some 16) rfl rfl he #[.agg #[encF (l[j]).1, encF (l[j]).2]] rfl rfl (by (try simp only [List.map_toArray, List.map_cons, List.map_nil]); first | done | rfl) ?_; refine (kind_calls (l[j]) _ (HL.out j hlt) g x _ HXw.out).mono ?_; rintro e w' ⟨rfl, hb⟩; refine ⟨_, rfl, ?_⟩; have HB2 := Aside0.mk (below_step HB.out hb); clear hb; rw [hp])
        go_roundg (l.length - (j + 1))
        case measure => have := HK.out; omega
        case rel =>
          exact ⟨j + 1, by go_num, ⟨by omega⟩, ⟨fun i h hi => by
            rcases Nat.lt_or_ge i j with h2 | h2
            · exact HP.out i h h2
            · obtain rfl : i = j := by omega
              exact hp⟩, HB2⟩
    · have h1 : decide (j < l.length) = false := by simpa using hlt
      go_wp2
      go_ret
      exact ⟨by rw [firstR_none (fun i h => HP.out i h (by omega))]; rfl, HB.out⟩
end Go.Proofs.Ytgocgjfaiddejaa.M
