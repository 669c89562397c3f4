/- The reference's Source answers what the program's does. -/
import Derived.Test.YtgocgjfaiddejaaHW
import Derived.Test.YtgocgjfaiddejaaH25
namespace Go.Proofs.Ytgocgjfaiddejaa.M
open Go.RowKit Go.Proofs.YtgocgjfaiddejaaW.PrintWords Go.Proofs.YtgocgjfaiddejaaW.PrintLast Go.Proofs.YtgocgjfaiddejaaW.PrintMore
set_option linter.unusedVariables false
set_option linter.unusedSimpArgs false
set_option linter.unnecessarySimpa false

theorem rsource_end {ts : Array Value} {r : Int × Int × Int} {W : World} (h1 : ts.getD 6 undef = .int .i64 r.1) (h2 : ts.getD 7 undef = .int .i64 r.2.1) (h3 : ts.getD 8 undef = .int .i64 r.2.2) : (results Try.f17 ts).run Try.prog W = .ok (.tuple #[.int .i64 r.1, .int .i64 r.2.1, .int .i64 r.2.2]) W := by
  have := results_list (P := Try.prog) (w := W) (tmps := ts) (fn := Try.f17) (rs := [.tmp 6, .tmp 7, .tmp 8]) rfl (by simp) (.tmp (.tmp (.tmp .nil)))
  rw [h1, h2, h3] at this
  exact this
set_option maxRecDepth 100000 in
set_option maxHeartbeats 2000000 in
theorem rSource_err (A : Option Addr) (c : Nat) (l : List S35) (k i : Int) (w : World) (hr : Kd.C k35 w A l.length l) (hv : vTree l = false) :
    Calls Try.prog 17 #[.slice A l.length c, .int .i64 k, .int .i64 i] w (SourcePost (sSource l k i) w) := by
  have HR := Aside0.mk hr
  have HAG := Aside0.mk (show sAgrees l = (0, 1) by unfold sAgrees; rw [if_neg (by rw [hv]; simp)])
  have HS := Aside0.mk (show sSource l k i = (0, 0, 1) by unfold sSource; rw [if_neg (by rw [hv]; simp)])
  clear hr hv
  go_enter Try.func17, Try.ntmps17
  go_wp2_with ((with_reducible refine gate_dst (N := 15) rfl ?_); refine goesL_ (some 15) rfl rfl Try.func31 (by kernel_rfl) rfl #[.slice A l.length c] rfl (by (try simp only [List.map_toArray, List.map_cons, List.map_nil]); first | done | rfl) ?_; refine (rAgrees_calls A c l _ HR.out).mono ?_; rw [HAG.out]; rintro e w1 ⟨rfl, hb⟩; refine ⟨_, rfl, ?_⟩; have HB1 := Aside0.mk hb; clear hb)
  rw [HS.out]
  refine bodyPost_ret (rsource_end (r := (0, 0, 1)) (by rfl) (by rfl) (by rfl)) rfl ⟨rfl, HB1.out⟩
set_option maxRecDepth 100000 in
set_option maxHeartbeats 2000000 in
theorem rSource_at (A : Option Addr) (c : Nat) (l : List S35) (k i : Int) (w : World) (hr : Kd.C k35 w A l.length l) (hv : vTree l = true) (hf : ¬ firstBad l < 0) :
    Calls Try.prog 17 #[.slice A l.length c, .int .i64 k, .int .i64 i] w (SourcePost (sSource l k i) w) := by
  have HR := Aside0.mk hr
  obtain ⟨fb, hfb⟩ : ∃ f, f = firstBad l := ⟨_, rfl⟩
  have HAG := Aside0.mk (show sAgrees l = (fb, 0) by unfold sAgrees; rw [if_pos hv, hfb])
  have HS := Aside0.mk (show sSource l k i = (0, 0, 1) by unfold sSource; rw [if_neg (fun h => hf h.2)])
  rw [← hfb] at hf
  have n1 : (fb != -1) = true := bne_iff_ne.2 (by omega)
  have n2 : (fb == -1) = false := beq_false_of_ne (by omega)
  have n3 : decide (fb = -1) = false := decide_eq_false (by omega)
  clear hr hv hf hfb
  go_enter Try.func17, Try.ntmps17
  go_wp2_with ((with_reducible refine gate_dst (N := 15) rfl ?_); refine goesL_ (some 15) rfl rfl Try.func31 (by kernel_rfl) rfl #[.slice A l.length c] rfl (by (try simp only [List.map_toArray, List.map_cons, List.map_nil]); first | done | rfl) ?_; refine (rAgrees_calls A c l _ HR.out).mono ?_; rw [HAG.out]; rintro e w1 ⟨rfl, hb⟩; refine ⟨_, rfl, ?_⟩; have HB1 := Aside0.mk hb; clear hb)
  rw [HS.out]
  refine bodyPost_ret (rsource_end (r := (0, 0, 1)) (by rfl) (by rfl) (by rfl)) rfl ⟨rfl, HB1.out⟩
set_option maxRecDepth 100000 in
set_option maxHeartbeats 2000000 in
theorem rSource_a (A : Option Addr) (c : Nat) (l : List S35) (k i : Int) (w : World) (hr : Kd.C k35 w A l.length l) (hag : sAgrees l = (-1, 0)) (hso : sSource l k i = (0, 0, 3)) (h1 : k < 0) :
    Calls Try.prog 17 #[.slice A l.length c, .int .i64 k, .int .i64 i] w (SourcePost (sSource l k i) w) := by
  have HR := Aside0.mk hr
  have HAG := Aside0.mk hag
  have HS := Aside0.mk hso
  have d1 : decide (k < 0) = true := decide_eq_true h1
  clear hr hag hso h1
  go_enter Try.func17, Try.ntmps17
  go_wp2_with ((with_reducible refine gate_dst (N := 15) rfl ?_); refine goesL_ (some 15) rfl rfl Try.func31 (by kernel_rfl) rfl #[.slice A l.length c] rfl (by (try simp only [List.map_toArray, List.map_cons, List.map_nil]); first | done | rfl) ?_; refine (rAgrees_calls A c l _ HR.out).mono ?_; rw [HAG.out]; rintro e w1 ⟨rfl, hb⟩; refine ⟨_, rfl, ?_⟩; have HB1 := Aside0.mk hb; clear hb)
  rw [HS.out]
  refine bodyPost_ret (rsource_end (r := (0, 0, 3)) (by rfl) (by rfl) (by rfl)) rfl ⟨rfl, HB1.out⟩
set_option maxRecDepth 100000 in
set_option maxHeartbeats 2000000 in
theorem rSource_b (A : Option Addr) (c : Nat) (l : List S35) (kk : Nat) (i : Int) (w : World) (hr : Kd.C k35 w A l.length l) (hag : sAgrees l = (-1, 0)) (hso : sSource l (kk : Int) i = (0, 0, 3)) (h1 : l.length ≤ kk) :
    Calls Try.prog 17 #[.slice A l.length c, .int .i64 (kk : Int), .int .i64 i] w (SourcePost (sSource l (kk : Int) i) w) := by
  have HR := Aside0.mk hr
  have HAG := Aside0.mk hag
  have HS := Aside0.mk hso
  have d0 : decide ((kk : Int) < 0) = false := decide_eq_false (by omega)
  have d1 : decide (l.length ≤ kk) = true := decide_eq_true h1
  have e1 : decide ((l.length : Int) ≤ (kk : Int)) = true := decide_eq_true (by omega)
  clear hr hag hso h1
  go_enter Try.func17, Try.ntmps17
  go_wp2_with ((with_reducible refine gate_dst (N := 15) rfl ?_); refine goesL_ (some 15) rfl rfl Try.func31 (by kernel_rfl) rfl #[.slice A l.length c] rfl (by (try simp only [List.map_toArray, List.map_cons, List.map_nil]); first | done | rfl) ?_; refine (rAgrees_calls A c l _ HR.out).mono ?_; rw [HAG.out]; rintro e w1 ⟨rfl, hb⟩; refine ⟨_, rfl, ?_⟩; have HB1 := Aside0.mk hb; clear hb)
  rw [HS.out]
  refine bodyPost_ret (rsource_end (r := (0, 0, 3)) (by rfl) (by rfl) (by rfl)) rfl ⟨rfl, HB1.out⟩
set_option maxRecDepth 100000 in
set_option maxHeartbeats 2000000 in
theorem rSource_c (A : Option Addr) (c : Nat) (l : List S35) (kk : Nat) (i : Int) (w : World) (hr : Kd.C k35 w A l.length l) (hag : sAgrees l = (-1, 0)) (hso : sSource l (kk : Int) i = (0, 0, 3)) (h1 : kk < l.length) (h2 : i < 0) :
    Calls Try.prog 17 #[.slice A l.length c, .int .i64 (kk : Int), .int .i64 i] w (SourcePost (sSource l (kk : Int) i) w) := by
  have HR := Aside0.mk hr
  have HAG := Aside0.mk hag
  have HS := Aside0.mk hso
  have d0 : decide ((kk : Int) < 0) = false := decide_eq_false (by omega)
  have d1 : decide (l.length ≤ kk) = false := decide_eq_false (by omega)
  have e1 : decide ((l.length : Int) ≤ (kk : Int)) = false := decide_eq_false (by omega)
  have d2 : decide (i < 0) = true := decide_eq_true h2
  clear hr hag hso h1 h2
  go_enter Try.func17, Try.ntmps17
  go_wp2_with ((with_reducible refine gate_dst (N := 15) rfl ?_); refine goesL_ (some 15) rfl rfl Try.func31 (by kernel_rfl) rfl #[.slice A l.length c] rfl (by (try simp only [List.map_toArray, List.map_cons, List.map_nil]); first | done | rfl) ?_; refine (rAgrees_calls A c l _ HR.out).mono ?_; rw [HAG.out]; rintro e w1 ⟨rfl, hb⟩; refine ⟨_, rfl, ?_⟩; have HB1 := Aside0.mk hb; clear hb)
  rw [HS.out]
  refine bodyPost_ret (rsource_end (r := (0, 0, 3)) (by rfl) (by rfl) (by rfl)) rfl ⟨rfl, HB1.out⟩
set_option maxRecDepth 100000 in
set_option maxHeartbeats 2000000 in
theorem rSource_d (A : Option Addr) (c : Nat) (l : List S35) (kk ii : Nat) (w : World) (hr : Kd.C k35 w A l.length l) (hag : sAgrees l = (-1, 0)) (hso : sSource l (kk : Int) (ii : Int) = (0, 0, 3)) (h1 : kk < l.length) (h2 : (rd_T35 l kk).f2.f2.length ≤ ii) :
    Calls Try.prog 17 #[.slice A l.length c, .int .i64 (kk : Int), .int .i64 (ii : Int)] w (SourcePost (sSource l (kk : Int) (ii : Int)) w) := by
  have HR := Aside0.mk hr
  have HAG := Aside0.mk hag
  have HS := Aside0.mk hso
  have d0 : decide ((kk : Int) < 0) = false := decide_eq_false (by omega)
  have d1 : decide (l.length ≤ kk) = false := decide_eq_false (by omega)
  have e1 : decide ((l.length : Int) ≤ (kk : Int)) = false := decide_eq_false (by omega)
  have d2 : decide ((ii : Int) < 0) = false := decide_eq_false (by omega)
  have d3 : decide ((rd_T35 l kk).f2.f2.length ≤ ii) = true := decide_eq_true h2
  have e3 : decide (((rd_T35 l kk).f2.f2.length : Int) ≤ (ii : Int)) = true := decide_eq_true (by omega)
  clear hr hag hso h2
  go_enter Try.func17, Try.ntmps17
  go_wp2_with ((with_reducible refine gate_dst (N := 15) rfl ?_); refine goesL_ (some 15) rfl rfl Try.func31 (by kernel_rfl) rfl #[.slice A l.length c] rfl (by (try simp only [List.map_toArray, List.map_cons, List.map_nil]); first | done | rfl) ?_; refine (rAgrees_calls A c l _ HR.out).mono ?_; rw [HAG.out]; rintro e w1 ⟨rfl, hb⟩; refine ⟨_, rfl, ?_⟩; have HB1 := Aside0.mk hb; obtain ⟨ad, Ak, ck, rfl, _, _, _, _, x4, _, _⟩ := at_T35 (Kd.C_below HR.out HB1.out) (kk : Int) (by omega) (by omega); simp only [Int.toNat_natCast] at x4; clear hb)
  rw [HS.out]
  refine bodyPost_ret (rsource_end (r := (0, 0, 3)) (by rfl) (by rfl) (by rfl)) rfl ⟨rfl, HB1.out⟩
set_option maxRecDepth 100000 in
set_option maxHeartbeats 2000000 in
theorem rSource_in (A : Option Addr) (c : Nat) (l : List S35) (kk ii : Nat) (w : World) (hr : Kd.C k35 w A l.length l) (hc : l.length ≤ c) (hv : vTree l = true) (ha : ∀ j : Nat, j < l.length → agTw l j = true) (h1 : kk < l.length) (h2 : ii < (rd_T35 l kk).f2.f2.length) :
    Calls Try.prog 17 #[.slice A l.length c, .int .i64 (kk : Int), .int .i64 (ii : Int)] w (SourcePost (sSource l (kk : Int) (ii : Int)) w) := by
  have hfb : firstBad l < 0 := by rw [firstBad_none ha]; decide
  have HR := Aside0.mk hr
  have HC := Aside0.mk hc
  have HV := Aside0.mk hv
  have HA := Aside0.mk ha
  have HM := Aside0.mk (vTree_pos hv).2.1
  have HAG := Aside0.mk (agrees_none hv ha)
  have HSO := Aside0.mk (show sSource l (kk : Int) (ii : Int) = ((((srcF kk l kk ii).1 : Nat) : Int), (((srcF kk l kk ii).2 : Nat) : Int), 0) by
    unfold sSource
    rw [if_pos ⟨hv, hfb⟩, if_pos ⟨by omega, by omega, by omega, by omega⟩, Int.toNat_natCast, Int.toNat_natCast])
  have d0 : decide ((kk : Int) < 0) = false := decide_eq_false (by omega)
  have d1 : decide (l.length ≤ kk) = false := decide_eq_false (by omega)
  have e1 : decide ((l.length : Int) ≤ (kk : Int)) = false := decide_eq_false (by omega)
  have d2 : decide ((ii : Int) < 0) = false := decide_eq_false (by omega)
  have d3 : decide ((rd_T35 l kk).f2.f2.length ≤ ii) = false := decide_eq_false (by omega)
  have e3 : decide (((rd_T35 l kk).f2.f2.length : Int) ≤ (ii : Int)) = false := decide_eq_false (by omega)
  have H1 := Aside0.mk h1
  have H2 := Aside0.mk h2
  clear hr hc hv ha hfb
  go_enter Try.func17, Try.ntmps17
  go_upto_region 4 with ((with_reducible refine gate_dst (N := 15) rfl ?_); refine goesL_ (some 15) rfl rfl Try.func31 (by kernel_rfl) rfl #[.slice A l.length c] rfl (by (try simp only [List.map_toArray, List.map_cons, List.map_nil]); first | done | rfl) ?_; refine (rAgrees_calls A c l _ HR.out).mono ?_; rw [HAG.out]; rintro e w1 ⟨rfl, hb⟩; refine ⟨_, rfl, ?_⟩; have HB1 := Aside0.mk hb; clear hb)
  obtain ⟨ad, Ak, ck, rfl, _, _, _, _, x4, _, _⟩ := at_T35 (Kd.C_below HR.out HB1.out) (kk : Int) (by omega) (by omega)
  simp only [Int.toNat_natCast] at x4
  have HR1 := Aside0.mk (Kd.C_below HR.out HB1.out)
  clear h2
  go_wp2
  clear d0 d1 e1 d2 d3 e3 x4
  go_loopg [1, 2] (kk + 1) (fun kq v1 v2 w' => ∃ j m : Nat, v1 = .int .i64 (j : Int) ∧ v2 = .int .i64 (m : Int) ∧ Aside0 (j < kq) ∧ Aside0 (j < l.length) ∧ Aside0 (m < (rd_T35 l (j : Nat)).f2.f2.length) ∧ Aside0 (srcF j l j m = srcF kk l kk ii) ∧ Aside0 (Below w.heap.size w w') ∧ Aside0 (k35.C w' (some ad) l.length l))
  case atStart => exact ⟨kk, ii, rfl, rfl, ⟨by omega⟩, H1, H2, ⟨rfl⟩, HB1, HR1⟩
  case round =>
    obtain ⟨j, m, rfl, rfl, HK, HJ, HI, HSR, HBR, HRR⟩ := hrel
    obtain ⟨ad', A2, c2, hA, y0, y1, y2, y3, y4, hl2, hC2⟩ := at_T35 HRR.out (j : Int) (by omega) (by have := HJ.out; omega)
    cases hA
    simp only [Int.toNat_natCast] at y0 y1 y2 y3 y4
    have HC2 := Aside0.mk hC2
    have HL2 := Aside0.mk hl2
    have kJ := HJ.out
    clear hl2 hC2 y2
    by_cases h0 : 0 < j
    · have f1 : decide (0 < j) = true := decide_eq_true h0
      have f2 : decide ((0 : Int) < (j : Int)) = true := decide_eq_true (by omega)
      have hvj := vTree_at HV.out kJ
      obtain ⟨u, hu, hul, _⟩ := vTw_up hvj h0
      cases hp : (rd_T35 l j).f2.f1 with
      | true =>
        rw [hp] at y3
        have HS := Aside0.mk (show sSource l (kk : Int) (ii : Int) = ((j : Int), (m : Int), 0) by
          have : srcF j l j m = (j, m) := by
            obtain ⟨q, rfl⟩ : ∃ q, j = q + 1 := ⟨j - 1, by omega⟩
            unfold srcF
            rw [if_neg (fun h => by rw [hp] at h; exact absurd h.2.1 (by decide))]
          rw [HSO.out, ← HSR.out, this])
        clear hvj hu hul hp y0 y1 y4
        go_wp2
        refine bodyPost_ret (rsource_end (r := ((j : Int), (m : Int), 0)) (by rfl) (by rfl) (by rfl)) rfl ⟨by rw [HS.out], HBR.out⟩
      | false =>
        obtain ⟨ae, rfl, e0, e1, e2, e3⟩ := at_T37 HC2.out (m : Int) (by omega) (by have := HI.out; omega)
        simp only [Int.toNat_natCast] at e0 e1 e2 e3
        have HVE := Aside0.mk (show vAce (rd_T37 (rd_T35 l j).f2.f2 m) = true by rw [rd_at HI.out]; exact List.all_eq_true.1 (vDesc_all (vTw_desc hvj)) _ (List.getElem_mem HI.out))
        have kI := HI.out
        cases hh : hadB (rd_T37 (rd_T35 l j).f2.f2 m) with
        | false =>
          have HHD := Aside0.mk hh
          have HS := Aside0.mk (show sSource l (kk : Int) (ii : Int) = ((j : Int), (m : Int), 0) by
            have : srcF j l j m = (j, m) := by
              obtain ⟨q, rfl⟩ : ∃ q, j = q + 1 := ⟨j - 1, by omega⟩
              unfold srcF
              rw [if_neg (fun h => by have := h.2.2; unfold hadAt at this; rw [hh] at this; cases this)]
            rw [HSO.out, ← HSR.out, this])
          rw [hp] at y3
          clear hvj hu hul hp hh y0 y1
          go_wp2_with (go_at_call 20; refine (archivoltref23_Has.calls _ _ _ _ 16 _ _ (has_f HVE.out)).mono ?_; rintro e w3 ⟨rfl, hb⟩; rw [HHD.out]; have HB3 := Aside0.mk (below_step HBR.out hb); have HR3 := Aside0.mk (Kd.C_below HRR.out hb); clear hb e0 e1 e2 e3)
          refine bodyPost_ret (rsource_end (r := ((j : Int), (m : Int), 0)) (by rfl) (by rfl) (by rfl)) rfl ⟨by rw [HS.out], HB3.out⟩
        | true =>
          have HHD := Aside0.mk hh
          have hag := HA.out j kJ
          unfold agTw agB at hag
          rw [hu, hp] at hag
          have hL : renewL (rd_T35 l u).f2.f2 (rd_T35 l j).f2.f2 (rd_T35 l j).f1 = (rd_T35 l j).f2.f2 := by
            have : ¬ j = 0 := by omega
            simpa [this] using hag
          have HAT := Aside0.mk (src_at hL HI.out hh)
          have HFR := Aside0.mk (from_entry hL HI.out hh)
          have HST := Aside0.mk (srcF_step HV.out kJ h0 hp hh hu hul)
          have HUE := Aside0.mk hu
          have HVD := Aside0.mk (vTw_desc hvj)
          have HVU := Aside0.mk (vTw_desc (vTree_at HV.out (show u < l.length by omega)))
          rw [hp] at y3
          rw [hu] at y0
          have Y0 := Aside0.mk y0
          have Y1 := Aside0.mk y1
          have Y4 := Aside0.mk y4
          clear hvj hag hL hp hh hu y0 y1
          go_upto_region 9 with (first | (go_at_call 20; refine (archivoltref23_Has.calls _ _ _ _ 16 _ _ (has_f HVE.out)).mono ?_; rintro e w3 ⟨rfl, hb⟩; rw [HHD.out]; have HB3 := Aside0.mk (below_step HBR.out hb); have HR3 := Aside0.mk (Kd.C_below HRR.out hb); have HC3 := Aside0.mk (Kd.C_below HC2.out hb); have z4 := (hb.cell (World.block_lt_of_cell? wr _ Y4.out)).trans Y4.out; have Z0 := Aside0.mk ((hb.cell (World.block_lt_of_cell? wr _ Y0.out)).trans Y0.out); have Z1 := Aside0.mk ((hb.cell (World.block_lt_of_cell? wr _ Y1.out)).trans Y1.out); clear hb e0 e1 e2 e3) | ((with_reducible refine gate_dst (N := 77) rfl ?_); refine goesL_ (some 77) rfl rfl Try.func53 (by kernel_rfl) rfl #[.slice (some ae) (rd_T35 l j).f2.f2.length c2, .bool false] rfl (by (try simp only [List.map_toArray, List.map_cons, List.map_nil]); first | done | rfl) ?_; refine (rOwn_calls (some ae) c2 (rd_T35 l j).f2.f2 false _ HC3.out HL2.out (vDesc_all HVD.out) (vDesc_len HVD.out)).mono ?_; rintro e w4 ⟨v, rfl, hra, hb⟩; rw [own_filter] at hra; refine ⟨_, rfl, ?_⟩; obtain ⟨Aq, cq, rfl⟩ := Kd.R_slice hra; have HB4 := Aside0.mk (below_step HB3.out hb); have HR4 := Aside0.mk (Kd.C_below HR3.out hb); have z0 := (hb.cell (World.block_lt_of_cell? w3 _ Z0.out)).trans Z0.out; have Q1 := Aside0.mk ((hb.cell (World.block_lt_of_cell? w3 _ Z1.out)).trans Z1.out); clear hb hra z4))
          rw [show Go.RowKit.wrap64 ((m : Int) - (((rd_T35 l j).f2.f2.filter ownB).length : Int)) = ((m - ((rd_T35 l j).f2.f2.filter ownB).length : Nat) : Int) by have := HAT.out.1; have := vDesc_len HVD.out; have := HI.out; unfold Go.RowKit.wrap64; omega]
          obtain ⟨at_, hat_⟩ : ∃ at_ : Nat, at_ = m - ((rd_T35 l j).f2.f2.filter ownB).length := ⟨_, rfl⟩
          rw [← hat_]
          have hpl : (places (rd_T35 l u).f2.f2 (rd_T35 l j).f1).length = (inh (rd_T35 l j).f1 0 (rd_T35 l u).f2.f2).length := by simp [places]
          have HAL := Aside0.mk (show at_ < (places (rd_T35 l u).f2.f2 (rd_T35 l j).f1).length by rw [hpl, hat_]; exact HAT.out.2)
          have HVAL := Aside0.mk (show rd (places (rd_T35 l u).f2.f2 (rd_T35 l j).f1) (at_ : Int) = ((fromAt (rd_T35 l u).f2.f2 (rd_T35 l j).f2.f2 (rd_T35 l j).f1 m : Nat) : Int) by
            unfold rd places fromAt
            rw [← hat_]
            simp only [List.getD_eq_getElem?_getD, List.getElem?_map, Int.toNat_natCast]
            cases (inh (rd_T35 l j).f1 0 (rd_T35 l u).f2.f2)[at_]? <;> rfl)
          have ku : u < l.length := by omega
          obtain ⟨ad', A3, c3, hA3, _, _, b2, b3, b4, hl3, hC3⟩ := at_T35 (Kd.C_drew HR4.out) (u : Int) (by omega) (by omega)
          cases hA3
          simp only [Int.toNat_natCast] at b2 b3 b4
          have HC4 := Aside0.mk hC3
          have HL4 := Aside0.mk hl3
          have HBD := Aside0.mk (below_drew1 HB4.out)
          have HRD := Aside0.mk (Kd.C_drew HR4.out)
          refine start_ (n := 15) (S := fun w' => w'.cell? ⟨(ad.add (u * 5)).block, (ad.add (u * 5)).off + 2, none⟩ = some (.int .i64 (rd_T35 l u).f2.f0) ∧ w'.cell? ⟨(ad.add (u * 5)).block, (ad.add (u * 5)).off + 3, none⟩ = some (.bool (rd_T35 l u).f2.f1) ∧ w'.cell? ⟨(ad.add (u * 5)).block, (ad.add (u * 5)).off + 4, none⟩ = some (.slice A3 (rd_T35 l u).f2.f2.length c3) ∧ w'.cell? ⟨(ad.add (j * 5)).block, (ad.add (j * 5)).off + 1, none⟩ = some (.bool (rd_T35 l j).f1)) (ds := []) #[false, false, false, false, false, false, false, false, false, false, false, false, false, false, false] (by kernel_rfl) rfl rfl ⟨b2, b3, b4, Q1.out⟩ (fun hHeld => ?_)
          clear b2 b3 b4 hl3 hC3 z0 hat_ hpl
          generalize w4.drew = wd at HC4 HBD HRD hHeld ⊢
          refine pure_ (i := 0) (N := some 85) (v := ?_) (a' := ?_) #[true, false, false, false, false, false, false, false, false, false, false, false, false, false, false] rfl rfl (by kernel_rfl) (fun _ _ _ h => h) (Or.inl ⟨by rfl, ?_⟩) ?_ ?_
          rotate_left
          · intro w'
            go_simp
            with_reducible rfl
          rotate_left
          · simp only [Act.put, List.setIfInBounds_toArray, List.set_cons_zero, List.set_cons_succ, i64_w, i32_w]
            rfl
          refine pure_ (i := 1) (N := some 86) (v := ?_) (a' := ?_) #[true, true, false, false, false, false, false, false, false, false, false, false, false, false, false] rfl rfl (by kernel_rfl) (fun _ _ _ h => h) (Or.inl ⟨by rfl, ?_⟩) ?_ ?_
          rotate_left
          · intro w'
            go_simp
            with_reducible rfl
          rotate_left
          · simp only [Act.put, List.setIfInBounds_toArray, List.set_cons_zero, List.set_cons_succ, i64_w, i32_w]
            rfl
          refine pure_ (i := 2) (N := some 87) (v := ?_) (a' := ?_) #[true, true, true, false, false, false, false, false, false, false, false, false, false, false, false] rfl rfl (by kernel_rfl) (fun _ _ _ h => h) (Or.inl ⟨by rfl, ?_⟩) ?_ ?_
          rotate_left
          · intro w'
            go_simp
            with_reducible rfl
          rotate_left
          · simp only [Act.put, List.setIfInBounds_toArray, List.set_cons_zero, List.set_cons_succ, i64_w, i32_w]
            rfl
          refine pure_ (i := 3) (N := some 88) (v := ?_) (a' := ?_) #[true, true, true, true, false, false, false, false, false, false, false, false, false, false, false] rfl rfl (by kernel_rfl) (fun _ _ _ h => h) (Or.inl ⟨by rfl, ?_⟩) ?_ ?_
          rotate_left
          · intro w'
            go_simp
            with_reducible rfl
          rotate_left
          · simp only [Act.put, List.setIfInBounds_toArray, List.set_cons_zero, List.set_cons_succ, i64_w, i32_w]
            rfl
          refine take_ (i := 4) (N := some 89) (v := ?_) (a' := ?_) #[true, true, true, true, true, false, false, false, false, false, false, false, false, false, false] rfl rfl (by kernel_rfl) (fun _ _ _ h => h) (Or.inl ⟨by rfl, ?_⟩) hHeld ?_ ?_
          rotate_left
          · rintro w' ⟨s0, s1, s2, s3⟩
            go_simp
            with_reducible rfl
          rotate_left
          · simp only [Act.put, List.setIfInBounds_toArray, List.set_cons_zero, List.set_cons_succ, i64_w, i32_w]
            rfl
          refine pure_ (i := 5) (N := some 90) (v := ?_) (a' := ?_) #[true, true, true, true, true, true, false, false, false, false, false, false, false, false, false] rfl rfl (by kernel_rfl) (fun _ _ _ h => h) (Or.inl ⟨by rfl, ?_⟩) ?_ ?_
          rotate_left
          · intro w'
            go_simp
            with_reducible rfl
          rotate_left
          · simp only [Act.put, List.setIfInBounds_toArray, List.set_cons_zero, List.set_cons_succ, i64_w, i32_w]
            rfl
          refine pure_ (i := 6) (N := some 91) (v := ?_) (a' := ?_) #[true, true, true, true, true, true, true, false, false, false, false, false, false, false, false] rfl rfl (by kernel_rfl) (fun _ _ _ h => h) (Or.inl ⟨by rfl, ?_⟩) ?_ ?_
          rotate_left
          · intro w'
            go_simp
            with_reducible rfl
          rotate_left
          · simp only [Act.put, List.setIfInBounds_toArray, List.set_cons_zero, List.set_cons_succ, i64_w, i32_w]
            rfl
          refine pure_ (i := 7) (N := some 92) (v := ?_) (a' := ?_) #[true, true, true, true, true, true, true, true, false, false, false, false, false, false, false] rfl rfl (by kernel_rfl) (fun _ _ _ h => h) (Or.inl ⟨by rfl, ?_⟩) ?_ ?_
          rotate_left
          · intro w'
            go_simp
            with_reducible rfl
          rotate_left
          · simp only [Act.put, List.setIfInBounds_toArray, List.set_cons_zero, List.set_cons_succ, i64_w, i32_w]
            rfl
          refine pure_ (i := 8) (N := some 93) (v := ?_) (a' := ?_) #[true, true, true, true, true, true, true, true, true, false, false, false, false, false, false] rfl rfl (by kernel_rfl) (fun _ _ _ h => h) (Or.inl ⟨by rfl, ?_⟩) ?_ ?_
          rotate_left
          · intro w'
            go_simp
            with_reducible rfl
          rotate_left
          · simp only [Act.put, List.setIfInBounds_toArray, List.set_cons_zero, List.set_cons_succ, i64_w, i32_w]
            rfl
          refine take_ (i := 9) (N := some 94) (v := ?_) (a' := ?_) #[true, true, true, true, true, true, true, true, true, true, false, false, false, false, false] rfl rfl (by kernel_rfl) (fun _ _ _ h => h) (Or.inl ⟨by rfl, ?_⟩) hHeld ?_ ?_
          rotate_left
          · rintro w' ⟨s0, s1, s2, s3⟩
            go_simp
            with_reducible rfl
          rotate_left
          · simp only [Act.put, List.setIfInBounds_toArray, List.set_cons_zero, List.set_cons_succ, i64_w, i32_w]
            rfl
          refine pure_ (i := 11) (N := some 96) (v := ?_) (a' := ?_) #[true, true, true, true, true, true, true, true, true, true, false, true, false, false, false] rfl rfl (by kernel_rfl) (fun _ _ _ h => h) (Or.inl ⟨by rfl, ?_⟩) ?_ ?_
          rotate_left
          · intro w'
            go_simp
            with_reducible rfl
          rotate_left
          · simp only [Act.put, List.setIfInBounds_toArray, List.set_cons_zero, List.set_cons_succ, i64_w, i32_w]
            rfl
          refine one_ (i := 10) (N := some 95) #[true, true, true, true, true, true, true, true, true, true, true, true, false, false, false] rfl rfl (by kernel_rfl) (by decide) (fun K hK => ?_)
          refine goes_ Try.func54 (by kernel_rfl) rfl #[.agg #[.int .i64 (rd_T35 l u).f2.f0, .bool (rd_T35 l u).f2.f1, .slice A3 (rd_T35 l u).f2.f2.length c3], .bool (rd_T35 l j).f1] (by rfl) rfl rfl (by (try simp only [List.map_toArray, List.map_cons, List.map_nil]); first | done | rfl) ?_
          refine (archivoltref23_From.calls 30 (rd_T35 l u).f2.f0 (rd_T35 l u).f2.f1 A3 c3 (rd_T35 l u).f2.f2 (rd_T35 l j).f1 _ wd HC4.out HL4.out (from_f _ _ _ _ (vDesc_all HVU.out) (vDesc_len HVU.out) 30 (Nat.le_refl _))).mono ?_
          rintro e w5 ⟨v5, rfl, hra, hb⟩
          refine ⟨_, rfl, ?_⟩
          obtain ⟨t0, t1, t2, t3⟩ := hHeld
          have HBE := Aside0.mk hb
          have HB5 := Aside0.mk (below_step HBD.out hb)
          have HR5 := Aside0.mk (Kd.C_below HRD.out hb)
          obtain ⟨Af, cf, rfl⟩ := Kd.R_slice hra
          obtain ⟨af, rfl, hcell⟩ := Kd.at_int (Kd.R_reads' hra).2.2 (at_ : Int) (by omega) (by have := HAL.out; omega)
          simp only [Int.toNat_natCast] at hcell
          rw [HVAL.out] at hcell
          have HCL := Aside0.mk hcell
          clear hra hb hcell
          refine hK.out _ _ ⟨(HBE.out.cell (World.block_lt_of_cell? wd _ t0)).trans t0, (HBE.out.cell (World.block_lt_of_cell? wd _ t1)).trans t1, (HBE.out.cell (World.block_lt_of_cell? wd _ t2)).trans t2, (HBE.out.cell (World.block_lt_of_cell? wd _ t3)).trans t3⟩ (fun hHeld => ?_)
          clear hK K
          refine norm_ (a' := ?_) ?_ ?_
          rotate_left
          · show Act.put _ (some 95) _ = _
            simp only [Act.put, List.setIfInBounds_toArray, List.set_cons_zero, List.set_cons_succ, i64_w, i32_w]
            rfl
          clear t0 t1 t2 t3
          have kAL := HAL.out
          refine pure_ (i := 12) (N := some 97) (v := ?_) (a' := ?_) #[true, true, true, true, true, true, true, true, true, true, true, true, true, false, false] rfl rfl (by kernel_rfl) (fun _ _ _ h => h) (Or.inl ⟨by rfl, ?_⟩) ?_ ?_
          rotate_left
          · intro w'
            go_simp
            with_reducible rfl
          rotate_left
          · simp only [Act.put, List.setIfInBounds_toArray, List.set_cons_zero, List.set_cons_succ, i64_w, i32_w]
            rfl
          refine one_ (i := 13) (N := some 98) #[true, true, true, true, true, true, true, true, true, true, true, true, true, true, false] rfl rfl (by kernel_rfl) (by decide) (fun K hK => ?_)
          have hcell := HCL.out
          refine event_step (w1 := w5) (v := .int .i64 ((fromAt (rd_T35 l u).f2.f2 (rd_T35 l j).f2.f2 (rd_T35 l j).f1 m : Nat) : Int)) (by rfl) ?hr ?_
          case hr => first | (go_simp; done) | (go_simp; rfl)
          clear hcell
          refine hK.out _ _ hHeld (fun hHeld => ?_)
          clear hK K
          refine norm_ (a' := ?_) ?_ ?_
          rotate_left
          · show Act.put _ (some 98) _ = _
            simp only [Act.put, List.setIfInBounds_toArray, List.set_cons_zero, List.set_cons_succ, i64_w, i32_w]
            rfl
          refine pure_ (i := 14) (N := some 2) (v := ?_) (a' := ?_) #[true, true, true, true, true, true, true, true, true, true, true, true, true, true, true] rfl rfl (by kernel_rfl) (fun _ _ _ h => h) (Or.inl ⟨by rfl, ?_⟩) ?_ ?_
          rotate_left
          · intro w'
            go_simp
            with_reducible rfl
          rotate_left
          · simp only [Act.put, List.setIfInBounds_toArray, List.set_cons_zero, List.set_cons_succ, i64_w, i32_w]
            rfl
          refine done_ (by kernel_rfl) ?_
          clear hHeld kAL
          go_wp2
          go_roundg (u + 1)
          case measure => have := HK.out; omega
          case rel => exact ⟨u, _, rfl, rfl, ⟨by omega⟩, ⟨by omega⟩, ⟨HFR.out.1⟩, ⟨by rw [← HSR.out, HST.out]; rfl⟩, HB5, HR5⟩
    · have f1 : decide (0 < j) = false := decide_eq_false h0
      have f2 : decide ((0 : Int) < (j : Int)) = false := decide_eq_false (by omega)
      have HS := Aside0.mk (show sSource l (kk : Int) (ii : Int) = ((j : Int), (m : Int), 0) by
        have : srcF j l j m = (j, m) := by
          rw [show j = 0 by omega]
          rfl
        rw [HSO.out, ← HSR.out, this])
      go_wp2
      refine bodyPost_ret (rsource_end (r := ((j : Int), (m : Int), 0)) (by rfl) (by rfl) (by rfl)) rfl ⟨by rw [HS.out], HBR.out⟩
theorem rSource_calls (A : Option Addr) (c : Nat) (l : List S35) (k i : Int) (w : World) (hr : Kd.C k35 w A l.length l) (hc : l.length ≤ c) :
    Calls Try.prog 17 #[.slice A l.length c, .int .i64 k, .int .i64 i] w (SourcePost (sSource l k i) w) := by
  cases hv : vTree l with
  | false => exact rSource_err A c l k i w hr hv
  | true =>
    by_cases hf : firstBad l < 0
    · have ha := firstBad_neg hf
      have hag := agrees_none hv ha
      by_cases ht : inTree l k i
      · obtain ⟨t0, t1, t2, t3⟩ := ht
        obtain ⟨k, rfl⟩ : ∃ m : Nat, k = m := ⟨k.toNat, by omega⟩
        obtain ⟨i, rfl⟩ : ∃ m : Nat, i = m := ⟨i.toNat, by omega⟩
        exact rSource_in A c l k i w hr hc hv ha (by omega) (by omega)
      · have hso : sSource l k i = (0, 0, 3) := by
          unfold sSource
          rw [if_pos ⟨hv, hf⟩, if_neg ht]
        by_cases c1 : k < 0
        · exact rSource_a A c l k i w hr hag hso c1
        obtain ⟨k, rfl⟩ : ∃ m : Nat, k = m := ⟨k.toNat, by omega⟩
        by_cases c2 : l.length ≤ k
        · exact rSource_b A c l k i w hr hag hso c2
        by_cases c3 : i < 0
        · exact rSource_c A c l k i w hr hag hso (by omega) c3
        obtain ⟨i, rfl⟩ : ∃ m : Nat, i = m := ⟨i.toNat, by omega⟩
        exact rSource_d A c l k i w hr hag hso (by omega) (by unfold inTree at ht; omega)
    · exact rSource_at A c l k i w hr hv hf
end Go.Proofs.Ytgocgjfaiddejaa.M
