/- inherit.Check: a valid tree. -/
import Derived.Test.YtgocgjfaiddejaaH15
namespace Go.Proofs.Ytgocgjfaiddejaa.M
open Go.RowKit Go.Proofs.YtgocgjfaiddejaaW.PrintWords Go.Proofs.YtgocgjfaiddejaaW.PrintLast Go.Proofs.YtgocgjfaiddejaaW.PrintMore
set_option linter.unusedVariables false
set_option linter.unusedSimpArgs false

/-- The object at a place of a tree is valid. -/
def vTw (l : List S35) (j : Nat) : Bool := vD (rd_T35 l j).f2 && (decide (j = 0) || (decide (0 ≤ (rd_T35 l j).f0) && decide ((rd_T35 l j).f0 < j) && (rd_T35 l (rd_T35 l j).f0).f1))
def vTree (l : List S35) : Bool := decide (1 ≤ l.length) && decide (l.length ≤ 400) && decide ((rd_T35 l 0).f0 = -1) && (rd_T35 l 0).f1 && (List.range l.length).all (vTw l)
theorem rd35_at {l : List S35} {j : Nat} (h : j < l.length) : rd_T35 l (j : Int) = l[j] := by simp [rd_T35, h]

theorem addr0 (a : Addr) : a.add 0 = a := by unfold Addr.add; cases a; simp
set_option maxRecDepth 100000 in
set_option maxHeartbeats 2000000 in
theorem Check_calls (A : Option Addr) (c : Nat) (l : List S35) (w : World) (hr : Kd.C k35 w A l.length l) :
    Calls Try.prog 32 #[.slice A l.length c] w fun e w' => e = .returned (.int .i64 (errOf (vTree l))) ∧ Below w.heap.size w w' := by
  have HR := Aside0.mk hr
  clear hr
  by_cases g1 : l.length < 1
  · have h1 : decide (l.length < 1) = true := by simpa using g1
    have HE := Aside0.mk (show vTree l = false by unfold vTree; rw [show decide (1 ≤ l.length) = false by simpa using g1]; rfl)
    go_enter Try.func32, Try.ntmps32
    go_wp2
    go_ret
    exact ⟨by rw [HE.out]; rfl, Below.refl _ _⟩
  have h1 : decide (l.length < 1) = false := by simpa using g1
  by_cases g2 : 400 < l.length
  · have h2 : decide (400 < l.length) = true := by simpa using g2
    have HE := Aside0.mk (show vTree l = false by unfold vTree; rw [show decide (l.length ≤ 400) = false by simpa using g2]; simp)
    go_enter Try.func32, Try.ntmps32
    go_wp2
    go_ret
    exact ⟨by rw [HE.out]; rfl, Below.refl _ _⟩
  have h2 : decide (400 < l.length) = false := by simpa using g2
  obtain ⟨ad, A0, c0, rfl, x0, x1, x2, x3, x4, hl0, hr0⟩ := at_T35 HR.out 0 (by omega) (by omega)
  simp only [Int.toNat_zero, Nat.zero_mul, addr0] at x0 x1
  have hpos : 0 < l.length := by omega
  clear x2 x3 x4 hl0 hr0
  by_cases g3 : ¬ (rd_T35 l 0).f0 = -1
  · have h3 : decide ((rd_T35 l 0).f0 = -1) = false := by simpa using g3
    have HE := Aside0.mk (show vTree l = false by unfold vTree; rw [h3]; simp)
    go_enter Try.func32, Try.ntmps32
    go_wp2
    go_ret
    exact ⟨by rw [HE.out]; rfl, Below.refl _ _⟩
  replace g3 : (rd_T35 l 0).f0 = -1 := by simpa using g3
  by_cases g4 : ¬ (rd_T35 l 0).f1 = true
  · have h4 : (rd_T35 l 0).f1 = false := by simpa using g4
    have HE := Aside0.mk (show vTree l = false by unfold vTree; rw [h4]; simp)
    go_enter Try.func32, Try.ntmps32
    go_wp2
    go_ret
    exact ⟨by rw [HE.out]; rfl, Below.refl _ _⟩
  replace g4 : (rd_T35 l 0).f1 = true := by simpa using g4
  have HT := Aside0.mk (show vTree l = (List.range l.length).all (vTw l) by unfold vTree; simp [g3, g4]; omega)
  go_enter Try.func32, Try.ntmps32
  go_wp2
  go_loopg [29] l.length (fun kq v29 w' => ∃ j : Nat, v29 = .int .i64 j ∧ Aside0 (kq + j = l.length) ∧ Aside0 (∀ i, i < j → vTw l i = true) ∧ Aside0 (Below w.heap.size w w'))
  case atStart => exact ⟨0, rfl, ⟨rfl⟩, ⟨fun i h0 => absurd h0 (by omega)⟩, ⟨Below.refl _ _⟩⟩
  case round =>
    obtain ⟨j, rfl, HK, HP, HB⟩ := hrel
    clear x0 x1 g3 g4 h1 h2
    by_cases hlt : j < l.length
    · have h1 : decide (j < l.length) = true := by simpa using hlt
      obtain ⟨ad', A2, c2, hA, y0, y1, y2, y3, y4, hl2, hr2⟩ := at_T35 (Kd.C_below HR.out HB.out) (j : Int) (by omega) (by omega)
      cases hA
      simp only [Int.toNat_natCast] at y0 y1 y2 y3 y4
      have HR2 := Aside0.mk hr2
      have HC2 := Aside0.mk hl2
      clear hl2 hr2
      by_cases hv : vD (rd_T35 l j).f2 = true
      · have HV := Aside0.mk (show vDesc (rd_T35 l j).f2.f0 (rd_T35 l j).f2.f2 = true from hv)
        by_cases hj : j = 0
        · have k1 : decide (0 < j) = false := by simpa using hj
          have HJ := Aside0.mk hj
          clear hj
          go_wp2_with ((with_reducible refine gate_dst (N := 37) rfl ?_); refine goesL_ (some 37) rfl rfl Try.func58 (by kernel_rfl) rfl #[.slice (some ⟨wr.heap.size + 1, 0, none⟩) 1 1] rfl (by (try simp only [List.map_toArray, List.map_cons, List.map_nil]); first | done | rfl) ?_; refine (valid_one _ (rd_T35 l j).f2.f0 (rd_T35 l j).f2.f1 A2 c2 (rd_T35 l j).f2.f2 _ (blk_lit _ _ _) (Kd.C_alloc (Kd.C_alloc HR2.out _) _) HC2.out).mono ?_; rintro e w' ⟨rfl, hb⟩; refine ⟨_, rfl, ?_⟩; have HB2 := Aside0.mk (below_step (below_alloc (below_alloc HB.out _) _) hb); have hh := blk_below (blk_alloc (blk_new wr (.cells #[.int .i64 (rd_T35 l j).f0, .bool (rd_T35 l j).f1, .int .i64 (rd_T35 l j).f2.f0, .bool (rd_T35 l j).f2.f1, .slice A2 (rd_T35 l j).f2.f2.length c2] 35)) _) hb; clear hb; clear y0 y1 y2 y3 y4; have z0 := (blk_cell hh 0).trans rfl; have z1 := (blk_cell hh 1).trans rfl; have z2 := (blk_cell hh 2).trans rfl; have z3 := (blk_cell hh 3).trans rfl; have z4 := (blk_cell hh 4).trans rfl; clear hh; rw [HV.out])
          go_roundg (l.length - (j + 1))
          case measure => have := HK.out; omega
          case rel =>
            exact ⟨j + 1, by go_num, ⟨by omega⟩, ⟨fun i hi => by
              rcases Nat.lt_or_ge i j with h2 | h2
              · exact HP.out i h2
              · obtain rfl : i = j := by omega
                unfold vTw; rw [hv]; simp [HJ.out]⟩, HB2⟩
        have k1 : decide (0 < j) = true := by simp; omega
        by_cases hn : (rd_T35 l j).f0 < 0
        · have k2 : decide ((rd_T35 l j).f0 < 0) = true := by simpa using hn
          have HE := Aside0.mk (show vTree l = false by
            rw [HT.out, Bool.eq_false_iff]; intro h4
            have := List.all_eq_true.1 h4 j (List.mem_range.2 hlt)
            unfold vTw at this
            simp [hj, show ¬ (0 ≤ (rd_T35 l j).f0) by omega] at this)
          go_wp2_with ((with_reducible refine gate_dst (N := 37) rfl ?_); refine goesL_ (some 37) rfl rfl Try.func58 (by kernel_rfl) rfl #[.slice (some ⟨wr.heap.size + 1, 0, none⟩) 1 1] rfl (by (try simp only [List.map_toArray, List.map_cons, List.map_nil]); first | done | rfl) ?_; refine (valid_one _ (rd_T35 l j).f2.f0 (rd_T35 l j).f2.f1 A2 c2 (rd_T35 l j).f2.f2 _ (blk_lit _ _ _) (Kd.C_alloc (Kd.C_alloc HR2.out _) _) HC2.out).mono ?_; rintro e w' ⟨rfl, hb⟩; refine ⟨_, rfl, ?_⟩; have HB2 := Aside0.mk (below_step (below_alloc (below_alloc HB.out _) _) hb); have hh := blk_below (blk_alloc (blk_new wr (.cells #[.int .i64 (rd_T35 l j).f0, .bool (rd_T35 l j).f1, .int .i64 (rd_T35 l j).f2.f0, .bool (rd_T35 l j).f2.f1, .slice A2 (rd_T35 l j).f2.f2.length c2] 35)) _) hb; clear hb; clear y0 y1 y2 y3 y4; have z0 := (blk_cell hh 0).trans rfl; have z1 := (blk_cell hh 1).trans rfl; have z2 := (blk_cell hh 2).trans rfl; have z3 := (blk_cell hh 3).trans rfl; have z4 := (blk_cell hh 4).trans rfl; clear hh; rw [HV.out])
          go_ret
          exact ⟨by rw [HE.out]; rfl, HB2.out⟩
        have k2 : decide ((rd_T35 l j).f0 < 0) = false := by simpa using hn
        by_cases hu : j ≤ (rd_T35 l j).f0
        · have k3 : decide ((j : Int) ≤ (rd_T35 l j).f0) = true := by simpa using hu
          have HE := Aside0.mk (show vTree l = false by
            rw [HT.out, Bool.eq_false_iff]; intro h4
            have := List.all_eq_true.1 h4 j (List.mem_range.2 hlt)
            unfold vTw at this
            simp [hj, show ¬ ((rd_T35 l j).f0 < j) by omega] at this)
          go_wp2_with ((with_reducible refine gate_dst (N := 37) rfl ?_); refine goesL_ (some 37) rfl rfl Try.func58 (by kernel_rfl) rfl #[.slice (some ⟨wr.heap.size + 1, 0, none⟩) 1 1] rfl (by (try simp only [List.map_toArray, List.map_cons, List.map_nil]); first | done | rfl) ?_; refine (valid_one _ (rd_T35 l j).f2.f0 (rd_T35 l j).f2.f1 A2 c2 (rd_T35 l j).f2.f2 _ (blk_lit _ _ _) (Kd.C_alloc (Kd.C_alloc HR2.out _) _) HC2.out).mono ?_; rintro e w' ⟨rfl, hb⟩; refine ⟨_, rfl, ?_⟩; have HB2 := Aside0.mk (below_step (below_alloc (below_alloc HB.out _) _) hb); have hh := blk_below (blk_alloc (blk_new wr (.cells #[.int .i64 (rd_T35 l j).f0, .bool (rd_T35 l j).f1, .int .i64 (rd_T35 l j).f2.f0, .bool (rd_T35 l j).f2.f1, .slice A2 (rd_T35 l j).f2.f2.length c2] 35)) _) hb; clear hb; clear y0 y1 y2 y3 y4; have z0 := (blk_cell hh 0).trans rfl; have z1 := (blk_cell hh 1).trans rfl; have z2 := (blk_cell hh 2).trans rfl; have z3 := (blk_cell hh 3).trans rfl; have z4 := (blk_cell hh 4).trans rfl; clear hh; rw [HV.out])
          go_ret
          exact ⟨by rw [HE.out]; rfl, HB2.out⟩
        have k3 : decide ((j : Int) ≤ (rd_T35 l j).f0) = false := by simpa using hu
        obtain ⟨ad', A5, c5, hA, _, u1, _, _, _, _, _⟩ := at_T35 HR.out (rd_T35 l j).f0 (by omega) (by omega)
        cases hA
        have U1 := Aside0.mk u1
        clear u1
        by_cases hd : (rd_T35 l (rd_T35 l j).f0).f1 = true
        · rw [hd] at U1
          have k4 : decide (0 ≤ (rd_T35 l j).f0) = true := by simp; omega
          go_wp2_with ((with_reducible refine gate_dst (N := 37) rfl ?_); refine goesL_ (some 37) rfl rfl Try.func58 (by kernel_rfl) rfl #[.slice (some ⟨wr.heap.size + 1, 0, none⟩) 1 1] rfl (by (try simp only [List.map_toArray, List.map_cons, List.map_nil]); first | done | rfl) ?_; refine (valid_one _ (rd_T35 l j).f2.f0 (rd_T35 l j).f2.f1 A2 c2 (rd_T35 l j).f2.f2 _ (blk_lit _ _ _) (Kd.C_alloc (Kd.C_alloc HR2.out _) _) HC2.out).mono ?_; rintro e w' ⟨rfl, hb⟩; refine ⟨_, rfl, ?_⟩; have HB2 := Aside0.mk (below_step (below_alloc (below_alloc HB.out _) _) hb); have hh := blk_below (blk_alloc (blk_new wr (.cells #[.int .i64 (rd_T35 l j).f0, .bool (rd_T35 l j).f1, .int .i64 (rd_T35 l j).f2.f0, .bool (rd_T35 l j).f2.f1, .slice A2 (rd_T35 l j).f2.f2.length c2] 35)) _) hb; clear hb; clear y0 y1 y2 y3 y4; have z0 := (blk_cell hh 0).trans rfl; have z1 := (blk_cell hh 1).trans rfl; have z2 := (blk_cell hh 2).trans rfl; have z3 := (blk_cell hh 3).trans rfl; have z4 := (blk_cell hh 4).trans rfl; clear hh; rw [HV.out]; have u1 := (HB2.out.cell (World.block_lt_of_cell? w _ U1.out)).trans U1.out)
          go_roundg (l.length - (j + 1))
          case measure => have := HK.out; omega
          case rel =>
            exact ⟨j + 1, by go_num, ⟨by omega⟩, ⟨fun i hi => by
              rcases Nat.lt_or_ge i j with h2 | h2
              · exact HP.out i h2
              · obtain rfl : i = j := by omega
                unfold vTw; simp [hv, hd]; omega⟩, HB2⟩
        · replace hd : (rd_T35 l (rd_T35 l j).f0).f1 = false := by simpa using hd
          rw [hd] at U1
          have HE := Aside0.mk (show vTree l = false by
            rw [HT.out, Bool.eq_false_iff]; intro h4
            have := List.all_eq_true.1 h4 j (List.mem_range.2 hlt)
            unfold vTw at this
            simp [hj, hd] at this)
          go_wp2_with ((with_reducible refine gate_dst (N := 37) rfl ?_); refine goesL_ (some 37) rfl rfl Try.func58 (by kernel_rfl) rfl #[.slice (some ⟨wr.heap.size + 1, 0, none⟩) 1 1] rfl (by (try simp only [List.map_toArray, List.map_cons, List.map_nil]); first | done | rfl) ?_; refine (valid_one _ (rd_T35 l j).f2.f0 (rd_T35 l j).f2.f1 A2 c2 (rd_T35 l j).f2.f2 _ (blk_lit _ _ _) (Kd.C_alloc (Kd.C_alloc HR2.out _) _) HC2.out).mono ?_; rintro e w' ⟨rfl, hb⟩; refine ⟨_, rfl, ?_⟩; have HB2 := Aside0.mk (below_step (below_alloc (below_alloc HB.out _) _) hb); have hh := blk_below (blk_alloc (blk_new wr (.cells #[.int .i64 (rd_T35 l j).f0, .bool (rd_T35 l j).f1, .int .i64 (rd_T35 l j).f2.f0, .bool (rd_T35 l j).f2.f1, .slice A2 (rd_T35 l j).f2.f2.length c2] 35)) _) hb; clear hb; clear y0 y1 y2 y3 y4; have z0 := (blk_cell hh 0).trans rfl; have z1 := (blk_cell hh 1).trans rfl; have z2 := (blk_cell hh 2).trans rfl; have z3 := (blk_cell hh 3).trans rfl; have z4 := (blk_cell hh 4).trans rfl; clear hh; rw [HV.out]; have u1 := (HB2.out.cell (World.block_lt_of_cell? w _ U1.out)).trans U1.out)
          go_ret
          exact ⟨by rw [HE.out]; rfl, HB2.out⟩
      · have HV := Aside0.mk (show vDesc (rd_T35 l j).f2.f0 (rd_T35 l j).f2.f2 = false by simpa [vD] using hv)
        have HE := Aside0.mk (show vTree l = false by
          rw [HT.out, Bool.eq_false_iff]; intro h4
          have := List.all_eq_true.1 h4 j (List.mem_range.2 hlt)
          unfold vTw at this
          simp [hv] at this)
        go_wp2_with ((with_reducible refine gate_dst (N := 37) rfl ?_); refine goesL_ (some 37) rfl rfl Try.func58 (by kernel_rfl) rfl #[.slice (some ⟨wr.heap.size + 1, 0, none⟩) 1 1] rfl (by (try simp only [List.map_toArray, List.map_cons, List.map_nil]); first | done | rfl) ?_; refine (valid_one _ (rd_T35 l j).f2.f0 (rd_T35 l j).f2.f1 A2 c2 (rd_T35 l j).f2.f2 _ (blk_lit _ _ _) (Kd.C_alloc (Kd.C_alloc HR2.out _) _) HC2.out).mono ?_; rintro e w' ⟨rfl, hb⟩; refine ⟨_, rfl, ?_⟩; have HB2 := Aside0.mk (below_step (below_alloc (below_alloc HB.out _) _) hb); have hh := blk_below (blk_alloc (blk_new wr (.cells #[.int .i64 (rd_T35 l j).f0, .bool (rd_T35 l j).f1, .int .i64 (rd_T35 l j).f2.f0, .bool (rd_T35 l j).f2.f1, .slice A2 (rd_T35 l j).f2.f2.length c2] 35)) _) hb; clear hb; have z0 := (blk_cell hh 0).trans rfl; have z1 := (blk_cell hh 1).trans rfl; have z2 := (blk_cell hh 2).trans rfl; have z3 := (blk_cell hh 3).trans rfl; have z4 := (blk_cell hh 4).trans rfl; rw [HV.out])
        go_ret
        exact ⟨by rw [HE.out]; rfl, HB2.out⟩
    · have h1 : decide (j < l.length) = false := by simpa using hlt
      have HE := Aside0.mk (show vTree l = true by
        rw [HT.out, List.all_eq_true]; intro x hx
        exact HP.out x (by have := List.mem_range.1 hx; omega))
      go_wp2
      go_ret
      exact ⟨by rw [HE.out]; rfl, HB.out⟩
end Go.Proofs.Ytgocgjfaiddejaa.M
