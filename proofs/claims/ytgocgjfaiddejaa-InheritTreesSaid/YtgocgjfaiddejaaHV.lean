/- The reference's Check answers what the program's does. -/
import Derived.Test.YtgocgjfaiddejaaHU
namespace Go.Proofs.Ytgocgjfaiddejaa.M
open Go.RowKit Go.Proofs.YtgocgjfaiddejaaW.PrintWords Go.Proofs.YtgocgjfaiddejaaW.PrintLast Go.Proofs.YtgocgjfaiddejaaW.PrintMore
set_option linter.unusedVariables false
set_option linter.unusedSimpArgs false
set_option linter.unnecessarySimpa false

theorem vtree_at_false {l : List S35} {j : Nat} (hj : j < l.length) (h : vTw l j = false) : vTree l = false := by
  rw [Bool.eq_false_iff]
  intro h2
  rw [vTree_at h2 hj] at h
  cases h
theorem vtw_desc_false {l : List S35} {j : Nat} (h : vD (rd_T35 l j).f2 = false) : vTw l j = false := by unfold vTw; rw [h]; rfl
theorem vtw_up_false {l : List S35} {j : Nat} (h0 : 0 < j) (h : ¬ (0 ≤ (rd_T35 l j).f0 ∧ (rd_T35 l j).f0 < j ∧ (rd_T35 l (rd_T35 l j).f0).f1 = true)) : vTw l j = false := by
  rw [Bool.eq_false_iff]
  intro h2
  obtain ⟨u, hu, hlt, hd⟩ := vTw_up h2 h0
  exact h ⟨by omega, by omega, by rw [hu]; exact hd⟩
theorem vtw_true {l : List S35} {j : Nat} (hv : vD (rd_T35 l j).f2 = true) (h : j = 0 ∨ (0 ≤ (rd_T35 l j).f0 ∧ (rd_T35 l j).f0 < j ∧ (rd_T35 l (rd_T35 l j).f0).f1 = true)) : vTw l j = true := by
  unfold vTw
  rw [hv, Bool.true_and]
  rcases h with h | ⟨h1, h2, h3⟩
  · simp [h]
  · simp [h1, h2, h3]
set_option maxRecDepth 100000 in
set_option maxHeartbeats 2000000 in
theorem rCheck_calls (A : Option Addr) (c : Nat) (l : List S35) (w : World) (hr : Kd.C k35 w A l.length l) :
    Calls Try.prog 33 #[.slice A l.length c] w fun e w' => e = .returned (.int .i64 (errOf (vTree l))) ∧ Below w.heap.size w w' := by
  have HR := Aside0.mk hr
  clear hr
  by_cases g1 : l.length < 1
  · have h1 : decide (l.length < 1) = true := by simpa using g1
    have i1 : decide ((l.length : Int) < 1) = true := decide_eq_true (by omega)
    have HE := Aside0.mk (show vTree l = false by rw [Bool.eq_false_iff]; intro h; have := (vTree_pos h).1; omega)
    clear g1
    go_enter Try.func33, Try.ntmps33
    go_wp2
    go_ret
    exact ⟨by rw [HE.out]; rfl, Below.refl _ _⟩
  have h1 : decide (l.length < 1) = false := by simpa using g1
  have i1 : decide ((l.length : Int) < 1) = false := decide_eq_false (by omega)
  by_cases g2 : 400 < l.length
  · have h2 : decide (400 < l.length) = true := by simpa using g2
    have i2 : decide ((400 : Int) < (l.length : Int)) = true := decide_eq_true (by omega)
    have HE := Aside0.mk (show vTree l = false by rw [Bool.eq_false_iff]; intro h; have := (vTree_pos h).2.1; omega)
    clear g1 g2
    go_enter Try.func33, Try.ntmps33
    go_wp2
    go_ret
    exact ⟨by rw [HE.out]; rfl, Below.refl _ _⟩
  have h2 : decide (400 < l.length) = false := by simpa using g2
  have i2 : decide ((400 : Int) < (l.length : Int)) = false := decide_eq_false (by omega)
  have HL := Aside0.mk (show l.length ≤ 400 by omega)
  have HP := Aside0.mk (show 1 ≤ l.length by omega)
  clear g1 g2
  go_enter Try.func33, Try.ntmps33
  go_wp2
  go_loopg [3] l.length (fun kq v3 w' => ∃ j : Nat, v3 = .int .i64 (j : Int) ∧ Aside0 (kq + j = l.length) ∧ Aside0 (∀ i, i < j → vTw l i = true) ∧ Aside0 (0 < j → (rd_T35 l 0).f0 = -1 ∧ (rd_T35 l 0).f1 = true) ∧ Aside0 (Below w.heap.size w w'))
  case atStart => exact ⟨0, rfl, ⟨rfl⟩, ⟨fun i h0 => absurd h0 (by omega)⟩, ⟨fun h => absurd h (by omega)⟩, ⟨Below.refl _ _⟩⟩
  case round =>
    obtain ⟨j, rfl, HK, HQ, HRT, HB⟩ := hrel
    clear h1 h2 i1 i2
    by_cases hlt : j < l.length
    · have h1 : decide (j < l.length) = true := by simpa using hlt
      have HWR := Aside0.mk (show Value.int .i64 (Go.RowKit.wrap64 ((j : Int) + 1)) = Value.int .i64 ((j + 1 : Nat) : Int) by rw [show Go.RowKit.wrap64 ((j : Int) + 1) = ((j + 1 : Nat) : Int) by have := HL.out; unfold Go.RowKit.wrap64; omega])
      obtain ⟨ad, A2, c2, rfl, y0, y1, y2, y3, y4, hl2, hr2⟩ := at_T35 (Kd.C_below HR.out HB.out) (j : Int) (by omega) (by omega)
      simp only [Int.toNat_natCast] at y0 y1 y2 y3 y4
      have HR2 := Aside0.mk hr2
      have HC2 := Aside0.mk hl2
      have Y0 := Aside0.mk y0
      have Y1 := Aside0.mk y1
      clear hl2 hr2 y0 y1
      cases hv : vDesc (rd_T35 l j).f2.f0 (rd_T35 l j).f2.f2 with
      | false =>
        have HV := Aside0.mk hv
        have HE := Aside0.mk (vtree_at_false hlt (vtw_desc_false hv))
        clear hv
        go_wp2_with ((with_reducible refine gate_dst (N := 23) rfl ?_); refine goesL_ (some 23) rfl rfl Try.func60 (by kernel_rfl) rfl #[.agg #[.int .i64 (rd_T35 l j).f2.f0, .bool (rd_T35 l j).f2.f1, .slice A2 (rd_T35 l j).f2.f2.length c2]] rfl (by (try simp only [List.map_toArray, List.map_cons, List.map_nil]); first | done | rfl) ?_; refine (rValid_calls _ _ A2 c2 (rd_T35 l j).f2.f2 _ HR2.out HC2.out).mono ?_; rintro e w1 ⟨rfl, hb⟩; refine ⟨_, rfl, ?_⟩; rw [HV.out]; have HB1 := Aside0.mk (below_step HB.out hb); clear hb y2 y3 y4)
        go_ret
        exact ⟨by rw [HE.out]; rfl, HB1.out⟩
      | true =>
        have HV := Aside0.mk hv
        clear hv
        by_cases hj : j = 0
        · subst hj
          have X0 := Aside0.mk (show wr.cell? ad = some (.int .i64 (rd_T35 l 0).f0) by have := Y0.out; simp only [Nat.zero_mul, addr0] at this; exact this)
          have X1 := Aside0.mk (show wr.cell? ⟨ad.block, ad.off + 1, none⟩ = some (.bool (rd_T35 l 0).f1) by have := Y1.out; simp only [Nat.zero_mul, addr0] at this; exact this)
          have HV0 := Aside0.mk (show vDesc (rd_T35 l 0).f2.f0 (rd_T35 l 0).f2.f2 = true from HV.out)
          replace y2 : wr.cell? ⟨ad.block, ad.off + 2, none⟩ = some (.int .i64 (rd_T35 l 0).f2.f0) := by have := y2; simp only [Nat.zero_mul, addr0] at this; exact this
          replace y3 : wr.cell? ⟨ad.block, ad.off + 2 + 1, none⟩ = some (.bool (rd_T35 l 0).f2.f1) := by have := y3; simp only [Nat.zero_mul, addr0] at this; exact this
          replace y4 : wr.cell? ⟨ad.block, ad.off + 2 + 2, none⟩ = some (.slice A2 (rd_T35 l 0).f2.f2.length c2) := by have := y4; simp only [Nat.zero_mul, addr0] at this; exact this
          by_cases hu : (rd_T35 l 0).f0 = -1
          · by_cases hd : (rd_T35 l 0).f1 = true
            · have HT := Aside0.mk (vtw_true (l := l) (j := 0) HV.out (.inl rfl))
              have HG := Aside0.mk (And.intro hu hd)
              go_wp2_with ((with_reducible refine gate_dst (N := 23) rfl ?_); refine goesL_ (some 23) rfl rfl Try.func60 (by kernel_rfl) rfl #[.agg #[.int .i64 (rd_T35 l 0).f2.f0, .bool (rd_T35 l 0).f2.f1, .slice A2 (rd_T35 l 0).f2.f2.length c2]] rfl (by (try simp only [List.map_toArray, List.map_cons, List.map_nil]); first | done | rfl) ?_; refine (rValid_calls _ _ A2 c2 (rd_T35 l 0).f2.f2 _ HR2.out HC2.out).mono ?_; rintro e w1 ⟨rfl, hb⟩; refine ⟨_, rfl, ?_⟩; rw [HV0.out]; have HB1 := Aside0.mk (below_step HB.out hb); have x0 := (hb.cell (World.block_lt_of_cell? wr _ X0.out)).trans X0.out; have x1 := (hb.cell (World.block_lt_of_cell? wr _ X1.out)).trans X1.out; rw [hu] at x0; rw [hd] at x1; clear hb y2 y3 y4 hu hd)
              go_roundg (l.length - 1)
              case measure => have := HK.out; omega
              case rel => exact ⟨1, rfl, ⟨by omega⟩, ⟨fun i hi => by rw [show i = 0 by omega]; exact HT.out⟩, ⟨fun _ => HG.out⟩, HB1⟩
            · have hd2 : (rd_T35 l 0).f1 = false := by simpa using hd
              have HE := Aside0.mk (show vTree l = false by rw [Bool.eq_false_iff]; intro h; have := (vTree_pos h).2.2.2; rw [hd2] at this; cases this)
              go_wp2_with ((with_reducible refine gate_dst (N := 23) rfl ?_); refine goesL_ (some 23) rfl rfl Try.func60 (by kernel_rfl) rfl #[.agg #[.int .i64 (rd_T35 l 0).f2.f0, .bool (rd_T35 l 0).f2.f1, .slice A2 (rd_T35 l 0).f2.f2.length c2]] rfl (by (try simp only [List.map_toArray, List.map_cons, List.map_nil]); first | done | rfl) ?_; refine (rValid_calls _ _ A2 c2 (rd_T35 l 0).f2.f2 _ HR2.out HC2.out).mono ?_; rintro e w1 ⟨rfl, hb⟩; refine ⟨_, rfl, ?_⟩; rw [HV0.out]; have HB1 := Aside0.mk (below_step HB.out hb); have x0 := (hb.cell (World.block_lt_of_cell? wr _ X0.out)).trans X0.out; have x1 := (hb.cell (World.block_lt_of_cell? wr _ X1.out)).trans X1.out; rw [hu] at x0; rw [hd2] at x1; clear hb y2 y3 y4 hu hd hd2)
              go_ret
              exact ⟨by rw [HE.out]; rfl, HB1.out⟩
          · have HE := Aside0.mk (show vTree l = false by rw [Bool.eq_false_iff]; intro h; exact hu (vTree_pos h).2.2.1)
            have n1 : ((rd_T35 l 0).f0 != -1) = true := bne_iff_ne.2 hu
            have n2 : ((rd_T35 l 0).f0 == -1) = false := beq_false_of_ne hu
            have n3 : decide ((rd_T35 l 0).f0 = -1) = false := decide_eq_false hu
            go_wp2_with ((with_reducible refine gate_dst (N := 23) rfl ?_); refine goesL_ (some 23) rfl rfl Try.func60 (by kernel_rfl) rfl #[.agg #[.int .i64 (rd_T35 l 0).f2.f0, .bool (rd_T35 l 0).f2.f1, .slice A2 (rd_T35 l 0).f2.f2.length c2]] rfl (by (try simp only [List.map_toArray, List.map_cons, List.map_nil]); first | done | rfl) ?_; refine (rValid_calls _ _ A2 c2 (rd_T35 l 0).f2.f2 _ HR2.out HC2.out).mono ?_; rintro e w1 ⟨rfl, hb⟩; refine ⟨_, rfl, ?_⟩; rw [HV0.out]; have HB1 := Aside0.mk (below_step HB.out hb); have x0 := (hb.cell (World.block_lt_of_cell? wr _ X0.out)).trans X0.out; clear hb y2 y3 y4)
            go_ret
            exact ⟨by rw [HE.out]; rfl, HB1.out⟩
        · have h0 : 0 < j := by omega
          have e1 : ((j : Int) == 0) = false := beq_false_of_ne (by omega)
          have e2 : decide ((j : Int) = 0) = false := decide_eq_false (by omega)
          have e3 : decide ((0 : Int) < (j : Int)) = true := decide_eq_true (by omega)
          have e4 : decide (j = 0) = false := decide_eq_false hj
          clear hj
          by_cases hn : (rd_T35 l j).f0 < 0
          · have k2 : decide ((rd_T35 l j).f0 < 0) = true := by simpa using hn
            have HE := Aside0.mk (vtree_at_false hlt (vtw_up_false h0 (by omega)))
            clear hn
            go_wp2_with ((with_reducible refine gate_dst (N := 23) rfl ?_); refine goesL_ (some 23) rfl rfl Try.func60 (by kernel_rfl) rfl #[.agg #[.int .i64 (rd_T35 l j).f2.f0, .bool (rd_T35 l j).f2.f1, .slice A2 (rd_T35 l j).f2.f2.length c2]] rfl (by (try simp only [List.map_toArray, List.map_cons, List.map_nil]); first | done | rfl) ?_; refine (rValid_calls _ _ A2 c2 (rd_T35 l j).f2.f2 _ HR2.out HC2.out).mono ?_; rintro e w1 ⟨rfl, hb⟩; refine ⟨_, rfl, ?_⟩; rw [HV.out]; have HB1 := Aside0.mk (below_step HB.out hb); have y0 := (hb.cell (World.block_lt_of_cell? wr _ Y0.out)).trans Y0.out; clear hb y2 y3 y4)
            go_ret
            exact ⟨by rw [HE.out]; rfl, HB1.out⟩
          have k2 : decide ((rd_T35 l j).f0 < 0) = false := by simpa using hn
          by_cases hu : (j : Int) ≤ (rd_T35 l j).f0
          · have k3 : decide ((j : Int) ≤ (rd_T35 l j).f0) = true := by simpa using hu
            have HE := Aside0.mk (vtree_at_false hlt (vtw_up_false h0 (by omega)))
            clear hn hu
            go_wp2_with ((with_reducible refine gate_dst (N := 23) rfl ?_); refine goesL_ (some 23) rfl rfl Try.func60 (by kernel_rfl) rfl #[.agg #[.int .i64 (rd_T35 l j).f2.f0, .bool (rd_T35 l j).f2.f1, .slice A2 (rd_T35 l j).f2.f2.length c2]] rfl (by (try simp only [List.map_toArray, List.map_cons, List.map_nil]); first | done | rfl) ?_; refine (rValid_calls _ _ A2 c2 (rd_T35 l j).f2.f2 _ HR2.out HC2.out).mono ?_; rintro e w1 ⟨rfl, hb⟩; refine ⟨_, rfl, ?_⟩; rw [HV.out]; have HB1 := Aside0.mk (below_step HB.out hb); have y0 := (hb.cell (World.block_lt_of_cell? wr _ Y0.out)).trans Y0.out; clear hb y2 y3 y4)
            go_ret
            exact ⟨by rw [HE.out]; rfl, HB1.out⟩
          have k3 : decide ((j : Int) ≤ (rd_T35 l j).f0) = false := by simpa using hu
          obtain ⟨u, hue⟩ : ∃ u : Nat, (rd_T35 l j).f0 = u := ⟨(rd_T35 l j).f0.toNat, by omega⟩
          have hul : u < j := by omega
          have kul : u < l.length := by omega
          obtain ⟨ad', A5, c5, hA, _, z1, _, _, _, _, _⟩ := at_T35 (Kd.C_below HR.out HB.out) (u : Int) (by omega) (by omega)
          cases hA
          simp only [Int.toNat_natCast] at z1
          have Z1 := Aside0.mk z1
          have Y0' := Aside0.mk (show wr.cell? (ad.add (j * 5)) = some (.int .i64 (u : Int)) by rw [← hue]; exact Y0.out)
          have d1 : decide ((u : Int) < 0) = false := decide_eq_false (by omega)
          have d2 : decide (j ≤ u) = false := decide_eq_false (by omega)
          have d3 : decide ((j : Int) ≤ (u : Int)) = false := decide_eq_false (by omega)
          have HUE := Aside0.mk hue
          clear z1 k2 k3 hn hu hue
          cases hd : (rd_T35 l u).f1 with
          | true =>
            have HT := Aside0.mk (vtw_true (l := l) (j := j) HV.out (.inr (by rw [HUE.out]; exact ⟨by omega, by omega, hd⟩)))
            go_wp2_with ((with_reducible refine gate_dst (N := 23) rfl ?_); refine goesL_ (some 23) rfl rfl Try.func60 (by kernel_rfl) rfl #[.agg #[.int .i64 (rd_T35 l j).f2.f0, .bool (rd_T35 l j).f2.f1, .slice A2 (rd_T35 l j).f2.f2.length c2]] rfl (by (try simp only [List.map_toArray, List.map_cons, List.map_nil]); first | done | rfl) ?_; refine (rValid_calls _ _ A2 c2 (rd_T35 l j).f2.f2 _ HR2.out HC2.out).mono ?_; rintro e w1 ⟨rfl, hb⟩; refine ⟨_, rfl, ?_⟩; rw [HV.out]; have HB1 := Aside0.mk (below_step HB.out hb); have y0 := (hb.cell (World.block_lt_of_cell? wr _ Y0'.out)).trans Y0'.out; have z1 := (hb.cell (World.block_lt_of_cell? wr _ Z1.out)).trans Z1.out; rw [hd] at z1; clear hb y2 y3 y4 hd)
            go_roundg (l.length - (j + 1))
            case measure => have := HK.out; omega
            case rel =>
              exact ⟨j + 1, HWR.out, ⟨by omega⟩, ⟨fun i hi => by
                rcases Nat.lt_or_ge i j with h2 | h2
                · exact HQ.out i h2
                · obtain rfl : i = j := by omega
                  exact HT.out⟩, ⟨fun _ => HRT.out h0⟩, HB1⟩
          | false =>
            have HE := Aside0.mk (vtree_at_false hlt (vtw_up_false h0 (by rw [HUE.out, hd]; simp)))
            go_wp2_with ((with_reducible refine gate_dst (N := 23) rfl ?_); refine goesL_ (some 23) rfl rfl Try.func60 (by kernel_rfl) rfl #[.agg #[.int .i64 (rd_T35 l j).f2.f0, .bool (rd_T35 l j).f2.f1, .slice A2 (rd_T35 l j).f2.f2.length c2]] rfl (by (try simp only [List.map_toArray, List.map_cons, List.map_nil]); first | done | rfl) ?_; refine (rValid_calls _ _ A2 c2 (rd_T35 l j).f2.f2 _ HR2.out HC2.out).mono ?_; rintro e w1 ⟨rfl, hb⟩; refine ⟨_, rfl, ?_⟩; rw [HV.out]; have HB1 := Aside0.mk (below_step HB.out hb); have y0 := (hb.cell (World.block_lt_of_cell? wr _ Y0'.out)).trans Y0'.out; have z1 := (hb.cell (World.block_lt_of_cell? wr _ Z1.out)).trans Z1.out; rw [hd] at z1; clear hb y2 y3 y4 hd)
            go_ret
            exact ⟨by rw [HE.out]; rfl, HB1.out⟩
    · have h1 : decide (j < l.length) = false := by simpa using hlt
      have HE := Aside0.mk (show vTree l = true from vTree_intro HP.out HL.out (HRT.out (by have := HP.out; omega)).1 (HRT.out (by have := HP.out; omega)).2 (fun i hi => HQ.out i (by omega)))
      go_wp2
      go_ret
      exact ⟨by rw [HE.out]; rfl, HB.out⟩
end Go.Proofs.Ytgocgjfaiddejaa.M
