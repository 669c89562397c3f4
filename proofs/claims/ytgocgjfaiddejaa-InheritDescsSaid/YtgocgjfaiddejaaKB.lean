/- short and small: is a tree small enough to be looked at. -/
import Derived.Test.YtgocgjfaiddejaaH28
import Derived.Test.YtgocgjfaiddejaaF24
namespace Go.Proofs.Ytgocgjfaiddejaa.M
open Go.RowKit Go.Proofs.YtgocgjfaiddejaaW.PrintWords Go.Proofs.YtgocgjfaiddejaaW.PrintLast Go.Proofs.YtgocgjfaiddejaaW.PrintMore
set_option linter.unusedVariables false
set_option linter.unusedSimpArgs false
set_option linter.unnecessarySimpa false

def shortB (d : S33) : Bool := decide (d.f2.length ≤ 40)
theorem short_l (l : List S33) (hm : l.length ≤ 9223372036854775807) : ∀ k (j : Nat), j ≤ l.length → l.length - j < k → archivoltlaw23_short.l0 k l (j : Int) = some ((l.drop j).all shortB) := by
  intro k
  induction k with
  | zero => intro j _ h; omega
  | succ k ih =>
    intro j hj hk
    simp only [archivoltlaw23_short.l0]
    by_cases h : j < l.length
    · have hw : wrap64 ((j : Int) + 1) = ((j + 1 : Nat) : Int) := by unfold wrap64; omega
      have e : rd_T33 l j = l[j] := by simp [rd_T33, h]
      rw [if_pos (by omega), if_pos (by omega), e, hw, List.drop_eq_getElem_cons h, List.all_cons]
      by_cases h40 : l[j].f2.length ≤ 40
      · rw [if_neg (by omega), ih (j + 1) (by omega) (by omega)]
        simp [shortB, h40]
      · rw [if_pos (by omega)]
        simp [shortB, h40]
    · rw [if_neg (by omega), List.drop_of_length_le (by omega)]
      rfl
theorem short_f (l : List S33) (hm : l.length ≤ 9223372036854775807) : archivoltlaw23_short.f (l.length + 1) l = some (l.all shortB) := by
  have := short_l l hm (l.length + 1) 0 (by omega) (by omega)
  simpa [archivoltlaw23_short.f] using this
theorem short_one (g : Nat) (o : Int) (b : Bool) (A : Option Addr) (c : Nat) (l : List S37) (W : World) (hg : W.heap[g]? = some (.cells #[.int .i64 o, .bool b, .slice A l.length c] 33 (0, 0))) (hr : k37.C W A l.length l) (hc : l.length ≤ c) :
    Calls Try.prog 24 #[.slice (some ⟨g, 0, none⟩) 1 1] W fun e w' => e = .returned (.bool (decide (l.length ≤ 40))) ∧ Below W.heap.size W w' := by
  refine (archivoltlaw23_short.calls 2 (some ⟨g, 0, none⟩) 1 [⟨o, b, l⟩] _ W (C33_one (x := ⟨o, b, l⟩) hg hc hr) (Nat.le_refl _) (short_f [⟨o, b, l⟩] (by simp))).mono ?_
  rintro e w' ⟨rfl, hb⟩
  exact ⟨by simp [shortB], hb.below⟩
theorem short_two (g : Nat) (o o2 : Int) (b b2 : Bool) (A A2 : Option Addr) (c c2 : Nat) (l l2 : List S37) (W : World) (hg : W.heap[g]? = some (.cells #[.int .i64 o, .bool b, .slice A l.length c, .int .i64 o2, .bool b2, .slice A2 l2.length c2] 33 (0, 0))) (hr : k37.C W A l.length l) (hc : l.length ≤ c) (hr2 : k37.C W A2 l2.length l2) (hc2 : l2.length ≤ c2) :
    Calls Try.prog 24 #[.slice (some ⟨g, 0, none⟩) 2 2] W fun e w' => e = .returned (.bool (decide (l.length ≤ 40) && decide (l2.length ≤ 40))) ∧ Below W.heap.size W w' := by
  refine (archivoltlaw23_short.calls 3 (some ⟨g, 0, none⟩) 2 [⟨o, b, l⟩, ⟨o2, b2, l2⟩] _ W (C33_two (x := ⟨o, b, l⟩) (y := ⟨o2, b2, l2⟩) hg hc hr hc2 hr2) (Nat.le_refl _) (short_f [⟨o, b, l⟩, ⟨o2, b2, l2⟩] (by simp))).mono ?_
  rintro e w' ⟨rfl, hb⟩
  exact ⟨by simp [shortB], hb.below⟩
/-- A tree is small enough. -/
def smallB (l : List S35) : Bool := !(decide (60 < l.length) && decide (l.length ≤ 400) || decide (410 < l.length)) && l.all (fun t => decide (t.f2.f2.length ≤ 40))
theorem small_rest {l : List S35} (g1 : (decide (60 < l.length) && decide (l.length ≤ 400) || decide (410 < l.length)) = false) : smallB l = l.all (fun t => decide (t.f2.f2.length ≤ 40)) := by unfold smallB; rw [g1]; rfl
set_option maxRecDepth 100000 in
set_option maxHeartbeats 2000000 in
theorem small_low (A : Option Addr) (c : Nat) (l : List S35) (w : World) (hr : Kd.C k35 w A l.length l) (hT : smallB l = l.all (fun t => decide (t.f2.f2.length ≤ 40))) (hl : l.length ≤ 410) (h0 : decide (410 < l.length) = false) (h1 : decide (60 < l.length) = false) :
    Calls Try.prog 14 #[.slice A l.length c] w fun e w' => e = .returned (.bool (smallB l)) ∧ Below w.heap.size w w' := by
  have HR := Aside0.mk hr
  have HT := Aside0.mk hT
  have HL := Aside0.mk hl
  clear hr hT hl
  have i0 : decide ((410 : Int) < (l.length : Int)) = false := by simp at h0 ⊢; omega
  have i1 : decide ((60 : Int) < (l.length : Int)) = false := by simp at h1 ⊢; omega
  go_enter Try.func14, Try.ntmps14
  go_wp2
  go_loopg [3] l.length (fun kq v3 w' => ∃ j : Nat, v3 = .int .i64 j ∧ Aside0 (kq + j = l.length) ∧ Aside0 (∀ i, i < j → (rd_T35 l (i : Nat)).f2.f2.length ≤ 40) ∧ Aside0 (Below w.heap.size w w'))
  case atStart => exact ⟨0, rfl, ⟨rfl⟩, ⟨fun i h0 => absurd h0 (by omega)⟩, ⟨Below.refl _ _⟩⟩
  case round =>
    obtain ⟨j, rfl, HK, HP, HB⟩ := hrel
    clear h0 h1 i0 i1
    by_cases hlt : j < l.length
    · have h1 : decide (j < l.length) = true := by simpa using hlt
      obtain ⟨ad', A2, c2, rfl, y0, y1, y2, y3, y4, hl2, hr2⟩ := at_T35 (Kd.C_below HR.out HB.out) (j : Int) (by omega) (by omega)
      simp only [Int.toNat_natCast] at y0 y1 y2 y3 y4
      have HR2 := Aside0.mk hr2
      have HC2 := Aside0.mk hl2
      clear hl2 hr2
      by_cases h40 : (rd_T35 l j).f2.f2.length ≤ 40
      · have HV := Aside0.mk (show decide ((rd_T35 l j).f2.f2.length ≤ 40) = true by simpa using h40)
        have H4 := Aside0.mk h40
        clear h40
        go_wp2_with ((with_reducible refine gate_dst (N := 29) rfl ?_); refine goesL_ (some 29) rfl rfl Try.func24 (by kernel_rfl) rfl #[.slice (some ⟨wr.heap.size, 0, none⟩) 1 1] rfl (by (try simp only [List.map_toArray, List.map_cons, List.map_nil]); first | done | rfl) ?_; refine (short_one _ (rd_T35 l j).f2.f0 (rd_T35 l j).f2.f1 A2 c2 (rd_T35 l j).f2.f2 _ (blk_new _ _) (Kd.C_alloc HR2.out _) HC2.out).mono ?_; rintro e w' ⟨rfl, hb⟩; refine ⟨_, rfl, ?_⟩; have HB2 := Aside0.mk (below_step (below_alloc HB.out _) hb); clear hb; clear y0 y1 y2 y3 y4; rw [HV.out])
        go_roundg (l.length - (j + 1))
        case measure => have := HK.out; omega
        case rel =>
          exact ⟨j + 1, by rw [show Go.RowKit.wrap64 ((j : Int) + 1) = ((j + 1 : Nat) : Int) by have := HL.out; unfold Go.RowKit.wrap64; omega], ⟨by omega⟩, ⟨fun i hi => by
            rcases Nat.lt_or_ge i j with h2 | h2
            · exact HP.out i h2
            · obtain rfl : i = j := by omega
              exact H4.out⟩, HB2⟩
      · have HV := Aside0.mk (show decide ((rd_T35 l j).f2.f2.length ≤ 40) = false by simpa using h40)
        have HE := Aside0.mk (show smallB l = false by
          rw [HT.out, Bool.eq_false_iff]; intro h4
          have := List.all_eq_true.1 h4 _ (List.getElem_mem hlt)
          rw [rd35_at hlt] at h40
          simp at this
          omega)
        clear h40
        go_wp2_with ((with_reducible refine gate_dst (N := 29) rfl ?_); refine goesL_ (some 29) rfl rfl Try.func24 (by kernel_rfl) rfl #[.slice (some ⟨wr.heap.size, 0, none⟩) 1 1] rfl (by (try simp only [List.map_toArray, List.map_cons, List.map_nil]); first | done | rfl) ?_; refine (short_one _ (rd_T35 l j).f2.f0 (rd_T35 l j).f2.f1 A2 c2 (rd_T35 l j).f2.f2 _ (blk_new _ _) (Kd.C_alloc HR2.out _) HC2.out).mono ?_; rintro e w' ⟨rfl, hb⟩; refine ⟨_, rfl, ?_⟩; have HB2 := Aside0.mk (below_step (below_alloc HB.out _) hb); clear hb; clear y0 y1 y2 y3 y4; rw [HV.out])
        go_ret
        exact ⟨by rw [HE.out]; rfl, HB2.out⟩
    · have h1 : decide (j < l.length) = false := by simpa using hlt
      have HE := Aside0.mk (show smallB l = true by
        rw [HT.out, List.all_eq_true]
        intro x hx
        obtain ⟨i, hi, rfl⟩ := List.mem_iff_getElem.1 hx
        have := HP.out i (by omega)
        rw [rd35_at hi] at this
        simpa using this)
      go_wp2
      go_ret
      exact ⟨by rw [HE.out]; rfl, HB.out⟩
set_option maxRecDepth 100000 in
set_option maxHeartbeats 2000000 in
theorem small_big (A : Option Addr) (c : Nat) (l : List S35) (w : World) (hr : Kd.C k35 w A l.length l) (hT : smallB l = l.all (fun t => decide (t.f2.f2.length ≤ 40))) (hl : l.length ≤ 410) (h0 : decide (410 < l.length) = false) (h1 : decide (60 < l.length) = true) (h2 : decide (l.length ≤ 400) = false) :
    Calls Try.prog 14 #[.slice A l.length c] w fun e w' => e = .returned (.bool (smallB l)) ∧ Below w.heap.size w w' := by
  have HR := Aside0.mk hr
  have HT := Aside0.mk hT
  have HL := Aside0.mk hl
  clear hr hT hl
  have i0 : decide ((410 : Int) < (l.length : Int)) = false := by simp at h0 ⊢; omega
  have i1 : decide ((60 : Int) < (l.length : Int)) = true := by simp at h1 ⊢; omega
  have i2 : decide ((l.length : Int) ≤ (400 : Int)) = false := by simp at h2 ⊢; omega
  go_enter Try.func14, Try.ntmps14
  go_wp2
  go_loopg [3] l.length (fun kq v3 w' => ∃ j : Nat, v3 = .int .i64 j ∧ Aside0 (kq + j = l.length) ∧ Aside0 (∀ i, i < j → (rd_T35 l (i : Nat)).f2.f2.length ≤ 40) ∧ Aside0 (Below w.heap.size w w'))
  case atStart => exact ⟨0, rfl, ⟨rfl⟩, ⟨fun i h0 => absurd h0 (by omega)⟩, ⟨Below.refl _ _⟩⟩
  case round =>
    obtain ⟨j, rfl, HK, HP, HB⟩ := hrel
    clear h0 h1 h2 i0 i1 i2
    by_cases hlt : j < l.length
    · have h1 : decide (j < l.length) = true := by simpa using hlt
      obtain ⟨ad', A2, c2, rfl, y0, y1, y2, y3, y4, hl2, hr2⟩ := at_T35 (Kd.C_below HR.out HB.out) (j : Int) (by omega) (by omega)
      simp only [Int.toNat_natCast] at y0 y1 y2 y3 y4
      have HR2 := Aside0.mk hr2
      have HC2 := Aside0.mk hl2
      clear hl2 hr2
      by_cases h40 : (rd_T35 l j).f2.f2.length ≤ 40
      · have HV := Aside0.mk (show decide ((rd_T35 l j).f2.f2.length ≤ 40) = true by simpa using h40)
        have H4 := Aside0.mk h40
        clear h40
        go_wp2_with ((with_reducible refine gate_dst (N := 29) rfl ?_); refine goesL_ (some 29) rfl rfl Try.func24 (by kernel_rfl) rfl #[.slice (some ⟨wr.heap.size, 0, none⟩) 1 1] rfl (by (try simp only [List.map_toArray, List.map_cons, List.map_nil]); first | done | rfl) ?_; refine (short_one _ (rd_T35 l j).f2.f0 (rd_T35 l j).f2.f1 A2 c2 (rd_T35 l j).f2.f2 _ (blk_new _ _) (Kd.C_alloc HR2.out _) HC2.out).mono ?_; rintro e w' ⟨rfl, hb⟩; refine ⟨_, rfl, ?_⟩; have HB2 := Aside0.mk (below_step (below_alloc HB.out _) hb); clear hb; clear y0 y1 y2 y3 y4; rw [HV.out])
        go_roundg (l.length - (j + 1))
        case measure => have := HK.out; omega
        case rel =>
          exact ⟨j + 1, by rw [show Go.RowKit.wrap64 ((j : Int) + 1) = ((j + 1 : Nat) : Int) by have := HL.out; unfold Go.RowKit.wrap64; omega], ⟨by omega⟩, ⟨fun i hi => by
            rcases Nat.lt_or_ge i j with h2 | h2
            · exact HP.out i h2
            · obtain rfl : i = j := by omega
              exact H4.out⟩, HB2⟩
      · have HV := Aside0.mk (show decide ((rd_T35 l j).f2.f2.length ≤ 40) = false by simpa using h40)
        have HE := Aside0.mk (show smallB l = false by
          rw [HT.out, Bool.eq_false_iff]; intro h4
          have := List.all_eq_true.1 h4 _ (List.getElem_mem hlt)
          rw [rd35_at hlt] at h40
          simp at this
          omega)
        clear h40
        go_wp2_with ((with_reducible refine gate_dst (N := 29) rfl ?_); refine goesL_ (some 29) rfl rfl Try.func24 (by kernel_rfl) rfl #[.slice (some ⟨wr.heap.size, 0, none⟩) 1 1] rfl (by (try simp only [List.map_toArray, List.map_cons, List.map_nil]); first | done | rfl) ?_; refine (short_one _ (rd_T35 l j).f2.f0 (rd_T35 l j).f2.f1 A2 c2 (rd_T35 l j).f2.f2 _ (blk_new _ _) (Kd.C_alloc HR2.out _) HC2.out).mono ?_; rintro e w' ⟨rfl, hb⟩; refine ⟨_, rfl, ?_⟩; have HB2 := Aside0.mk (below_step (below_alloc HB.out _) hb); clear hb; clear y0 y1 y2 y3 y4; rw [HV.out])
        go_ret
        exact ⟨by rw [HE.out]; rfl, HB2.out⟩
    · have h1 : decide (j < l.length) = false := by simpa using hlt
      have HE := Aside0.mk (show smallB l = true by
        rw [HT.out, List.all_eq_true]
        intro x hx
        obtain ⟨i, hi, rfl⟩ := List.mem_iff_getElem.1 hx
        have := HP.out i (by omega)
        rw [rd35_at hi] at this
        simpa using this)
      go_wp2
      go_ret
      exact ⟨by rw [HE.out]; rfl, HB.out⟩
set_option maxRecDepth 100000 in
set_option maxHeartbeats 2000000 in
theorem small_calls (A : Option Addr) (c : Nat) (l : List S35) (w : World) (hr : Kd.C k35 w A l.length l) :
    Calls Try.prog 14 #[.slice A l.length c] w fun e w' => e = .returned (.bool (smallB l)) ∧ Below w.heap.size w w' := by
  by_cases g1 : (decide (60 < l.length) && decide (l.length ≤ 400) || decide (410 < l.length)) = true
  · have HE := Aside0.mk (show smallB l = false by unfold smallB; rw [g1]; rfl)
    have HR := Aside0.mk hr
    clear hr
    have a1 : 60 < l.length := by simp at g1; omega
    have h1 : decide (60 < l.length) = true := by simpa using a1
    by_cases a2 : l.length ≤ 400
    · have h2 : decide (l.length ≤ 400) = true := by simpa using a2
      clear g1
      go_enter Try.func14, Try.ntmps14
      go_wp2
      go_ret
      exact ⟨by rw [HE.out]; rfl, Below.refl _ _⟩
    · have h2 : decide (l.length ≤ 400) = false := by simpa using a2
      have h3 : decide (410 < l.length) = true := by rw [h2] at g1; simpa using g1
      have i1 : decide ((60 : Int) < (l.length : Int)) = true := by simp; omega
      have i2 : decide ((l.length : Int) ≤ (400 : Int)) = false := by simp; omega
      have i3 : decide ((410 : Int) < (l.length : Int)) = true := by simp at h3 ⊢; omega
      clear g1
      go_enter Try.func14, Try.ntmps14
      go_wp2
      go_ret
      exact ⟨by rw [HE.out]; rfl, Below.refl _ _⟩
  · have g2 : (decide (60 < l.length) && decide (l.length ≤ 400) || decide (410 < l.length)) = false := by simpa using g1
    have hl : l.length ≤ 410 := by simp at g2; omega
    have h0 : decide (410 < l.length) = false := by simpa using hl
    by_cases a1 : 60 < l.length
    · exact small_big A c l w hr (small_rest g2) hl h0 (by simpa using a1) (by simp [a1] at g2; simp; omega)
    · exact small_low A c l w hr (small_rest g2) hl h0 (by simpa using a1)
end Go.Proofs.Ytgocgjfaiddejaa.M
