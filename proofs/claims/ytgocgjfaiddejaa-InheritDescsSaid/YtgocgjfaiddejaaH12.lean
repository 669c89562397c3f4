/- inherit.Child. -/
import Derived.Test.YtgocgjfaiddejaaH11
namespace Go.Proofs.Ytgocgjfaiddejaa.M
open Go.RowKit Go.Proofs.YtgocgjfaiddejaaW.PrintWords Go.Proofs.YtgocgjfaiddejaaW.PrintLast Go.Proofs.YtgocgjfaiddejaaW.PrintMore
set_option linter.unusedVariables false
set_option linter.unusedSimpArgs false

def sChild (o : Int) (l : List S37) (dir : Bool) (owner : Int) : S33 × Int :=
  if vDesc o l = true ∧ 3 ≤ owner ∧ owner ≤ 1048576 then (⟨owner, false, given l dir⟩, 0) else (z33, 1)
set_option maxRecDepth 100000 in
set_option maxHeartbeats 2000000 in
theorem Child_calls (o : Int) (b : Bool) (A : Option Addr) (c : Nat) (l : List S37) (dir : Bool) (owner : Int) (w : World) (hr : k37.C w A l.length l) (hc : l.length ≤ c) :
    Calls Try.prog 21 #[.agg #[.int .i64 o, .bool b, .slice A l.length c], .bool dir, .int .i64 owner] w (DescPost (sChild o l dir owner) w) := by
  have HR := Aside0.mk hr
  have HC := Aside0.mk hc
  have HB1 := Aside0.mk (below_alloc (below_alloc (Below.refl _ w) (.cells #[.int .i64 o, .bool b, .slice A l.length c] 33)) (.cells #[.int .i64 0, .bool false, .slice none 0 0] 33))
  have HG1 := Aside0.mk (blk_alloc (blk_new w (.cells #[.int .i64 o, .bool b, .slice A l.length c] 33)) (.cells #[.int .i64 0, .bool false, .slice none 0 0] 33))
  have HG2 := Aside0.mk (blk_lit w (.cells #[.int .i64 o, .bool b, .slice A l.length c] 33) (.cells #[.int .i64 0, .bool false, .slice none 0 0] 33))
  clear hr hc
  by_cases hv : vDesc o l = true
  · have HV := Aside0.mk hv
    by_cases h2 : owner ≤ 2
    · have HS := Aside0.mk (show sChild o l dir owner = (z33, 1) by unfold sChild; rw [if_neg (by omega)])
      have k2 : decide (owner ≤ 2) = true := by simpa using h2
      clear hv
      go_enter Try.func21, Try.ntmps21
      go_wp2_with ((with_reducible refine gate_dst (N := 10) rfl ?_); refine goesL_ (some 10) rfl rfl Try.func58 (by kernel_rfl) rfl #[.slice (some ⟨w.heap.size + 1 + 1, 0, none⟩) 1 1] rfl (by (try simp only [List.map_toArray, List.map_cons, List.map_nil]); first | done | rfl) ?_; refine (valid_one _ o b A c l _ (blk_lit2 _ _ _ _) (Kd.C_alloc (Kd.C_alloc (Kd.C_alloc HR.out _) _) _) HC.out).mono ?_; rintro e w' ⟨rfl, hb⟩; refine ⟨_, rfl, ?_⟩; rw [HV.out]; have HB2 := Aside0.mk (below_step (below_alloc HB1.out _) hb); have hh := blk_below (blk_alloc HG2.out _) hb; have HH := Aside0.mk hh; have hk := blk_below (blk_alloc HG1.out _) hb; have HK := Aside0.mk hk; have y0 := (blk_cell hk 0).trans rfl; have y1 := (blk_cell hk 1).trans rfl; have y2 := (blk_cell hk 2).trans rfl; have z0 := (blk_cell hh 0).trans rfl; have z1 := (blk_cell hh 1).trans rfl; have z2 := (blk_cell hh 2).trans rfl; have fz0 := blk_frozen hh 0; have fz1 := blk_frozen hh 1; have fz2 := blk_frozen hh 2; clear hb hh hk)
      rw [HS.out]
      exact desc_end rfl rfl rfl HH.out rfl (by omega) (Kd.R_nil _ _ _ _ _) HB2.out
    · have k2 : decide (owner ≤ 2) = false := by simpa using h2
      by_cases h3 : 1048576 < owner
      · have HS := Aside0.mk (show sChild o l dir owner = (z33, 1) by unfold sChild; rw [if_neg (by omega)])
        have k3 : decide (1048576 < owner) = true := by simpa using h3
        clear hv
        go_enter Try.func21, Try.ntmps21
        go_wp2_with ((with_reducible refine gate_dst (N := 10) rfl ?_); refine goesL_ (some 10) rfl rfl Try.func58 (by kernel_rfl) rfl #[.slice (some ⟨w.heap.size + 1 + 1, 0, none⟩) 1 1] rfl (by (try simp only [List.map_toArray, List.map_cons, List.map_nil]); first | done | rfl) ?_; refine (valid_one _ o b A c l _ (blk_lit2 _ _ _ _) (Kd.C_alloc (Kd.C_alloc (Kd.C_alloc HR.out _) _) _) HC.out).mono ?_; rintro e w' ⟨rfl, hb⟩; refine ⟨_, rfl, ?_⟩; rw [HV.out]; have HB2 := Aside0.mk (below_step (below_alloc HB1.out _) hb); have hh := blk_below (blk_alloc HG2.out _) hb; have HH := Aside0.mk hh; have hk := blk_below (blk_alloc HG1.out _) hb; have HK := Aside0.mk hk; have y0 := (blk_cell hk 0).trans rfl; have y1 := (blk_cell hk 1).trans rfl; have y2 := (blk_cell hk 2).trans rfl; have z0 := (blk_cell hh 0).trans rfl; have z1 := (blk_cell hh 1).trans rfl; have z2 := (blk_cell hh 2).trans rfl; have fz0 := blk_frozen hh 0; have fz1 := blk_frozen hh 1; have fz2 := blk_frozen hh 2; clear hb hh hk)
        rw [HS.out]
        exact desc_end rfl rfl rfl HH.out rfl (by omega) (Kd.R_nil _ _ _ _ _) HB2.out
      · have HS := Aside0.mk (show sChild o l dir owner = (⟨owner, false, given l dir⟩, 0) by unfold sChild; rw [if_pos ⟨hv, by omega, by omega⟩])
        have k3 : decide (1048576 < owner) = false := by simpa using h3
        clear hv
        go_enter Try.func21, Try.ntmps21
        go_wp2_with (first | ((with_reducible refine gate_dst (N := 10) rfl ?_); refine goesL_ (some 10) rfl rfl Try.func58 (by kernel_rfl) rfl #[.slice (some ⟨w.heap.size + 1 + 1, 0, none⟩) 1 1] rfl (by (try simp only [List.map_toArray, List.map_cons, List.map_nil]); first | done | rfl) ?_; refine (valid_one _ o b A c l _ (blk_lit2 _ _ _ _) (Kd.C_alloc (Kd.C_alloc (Kd.C_alloc HR.out _) _) _) HC.out).mono ?_; rintro e w' ⟨rfl, hb⟩; refine ⟨_, rfl, ?_⟩; rw [HV.out]; have HB2 := Aside0.mk (below_step (below_alloc HB1.out _) hb); have hh := blk_below (blk_alloc HG2.out _) hb; have HH := Aside0.mk hh; have hk := blk_below (blk_alloc HG1.out _) hb; have HK := Aside0.mk hk; have y0 := (blk_cell hk 0).trans rfl; have y1 := (blk_cell hk 1).trans rfl; have y2 := (blk_cell hk 2).trans rfl; have z0 := (blk_cell hh 0).trans rfl; have z1 := (blk_cell hh 1).trans rfl; have z2 := (blk_cell hh 2).trans rfl; have fz0 := blk_frozen hh 0; have fz1 := blk_frozen hh 1; have fz2 := blk_frozen hh 2; clear hb hh hk) | ((with_reducible refine gate_dst (N := 24) rfl ?_); refine goesL_ (some 24) rfl rfl Try.func59 (by kernel_rfl) rfl #[.agg #[.int .i64 o, .bool b, .slice A l.length c], .bool dir] rfl (by (try simp only [List.map_toArray, List.map_cons, List.map_nil]); first | done | rfl) ?_; refine (given_calls o b A c l dir _ (Kd.C_below HR.out HB2.out) (by have := vDesc_len HV.out; omega)).mono ?_; rintro e w' ⟨v, rfl, hra, hb⟩; refine ⟨_, rfl, ?_⟩; obtain ⟨A3, c3, rfl⟩ := Kd.R_slice hra; have HO := Aside0.mk (Kd.R_lower hra HB2.out.size); have HB3 := Aside0.mk (below_step HB2.out hb); have hh := blk_below HH.out hb; have HH3 := Aside0.mk hh; have x0 := (blk_cell hh 0).trans rfl; have x1 := (blk_cell hh 1).trans rfl; have x2 := (blk_cell hh 2).trans rfl; have fx0 := blk_frozen hh 0; have fx1 := blk_frozen hh 1; have fx2 := blk_frozen hh 2; clear hra hb hh))
        rw [HS.out]
        exact desc_end (r := (⟨owner, false, given l dir⟩, 0)) rfl rfl rfl HH3.out rfl (by omega) HO.out HB3.out
  · replace hv : vDesc o l = false := by simpa using hv
    have HV := Aside0.mk hv
    have HS := Aside0.mk (show sChild o l dir owner = (z33, 1) by unfold sChild; rw [if_neg (by rw [hv]; simp)])
    clear hv
    go_enter Try.func21, Try.ntmps21
    go_wp2_with ((with_reducible refine gate_dst (N := 10) rfl ?_); refine goesL_ (some 10) rfl rfl Try.func58 (by kernel_rfl) rfl #[.slice (some ⟨w.heap.size + 1 + 1, 0, none⟩) 1 1] rfl (by (try simp only [List.map_toArray, List.map_cons, List.map_nil]); first | done | rfl) ?_; refine (valid_one _ o b A c l _ (blk_lit2 _ _ _ _) (Kd.C_alloc (Kd.C_alloc (Kd.C_alloc HR.out _) _) _) HC.out).mono ?_; rintro e w' ⟨rfl, hb⟩; refine ⟨_, rfl, ?_⟩; rw [HV.out]; have HB2 := Aside0.mk (below_step (below_alloc HB1.out _) hb); have hh := blk_below (blk_alloc HG2.out _) hb; have HH := Aside0.mk hh; have hk := blk_below (blk_alloc HG1.out _) hb; have HK := Aside0.mk hk; have y0 := (blk_cell hk 0).trans rfl; have y1 := (blk_cell hk 1).trans rfl; have y2 := (blk_cell hk 2).trans rfl; have z0 := (blk_cell hh 0).trans rfl; have z1 := (blk_cell hh 1).trans rfl; have z2 := (blk_cell hh 2).trans rfl; have fz0 := blk_frozen hh 0; have fz1 := blk_frozen hh 1; have fz2 := blk_frozen hh 2; clear hb hh hk)
    rw [HS.out]
    exact desc_end rfl rfl rfl HH.out rfl (by omega) (Kd.R_nil _ _ _ _ _) HB2.out
end Go.Proofs.Ytgocgjfaiddejaa.M
