/- The reference's Spread answers what the program's does. -/
import Derived.Test.YtgocgjfaiddejaaHX
namespace Go.Proofs.Ytgocgjfaiddejaa.M
open Go.RowKit Go.Proofs.YtgocgjfaiddejaaW.PrintWords Go.Proofs.YtgocgjfaiddejaaW.PrintLast Go.Proofs.YtgocgjfaiddejaaW.PrintMore
set_option linter.unusedVariables false
set_option linter.unusedSimpArgs false
set_option linter.unnecessarySimpa false

/-- What is renewed so far is the beginning of what comes out. -/
theorem pre_det {l : List S35} (hU : Ups l) {j : Nat} {o out : List S35} (h : Pre l 0 j o) (hjl : j ≤ l.length) (ho : IsOut l 0 (rd_T35 l 0).f2 out) : ∀ i : Nat, i < j → rd_T35 o i = rd_T35 out i := by
  intro i
  induction i using Nat.strongRecOn with
  | _ i ih =>
    intro hi
    by_cases h0 : 0 < i
    · obtain ⟨u, hu, hlt⟩ := hU i h0 (by omega)
      have hd := dnB_root hU i (by omega)
      obtain ⟨d1, a1, a2⟩ := h.dnp i u hi h0 hu hd
      obtain ⟨d2, b1, b2⟩ := ho.down i u (by omega) (by omega) hu hd
      rw [ih u hlt (by omega), b1] at a1
      cases a1
      rw [a2, b2]
    · have e : i = 0 := by omega
      subst e
      rw [h.sam 0 hi (fun h => absurd h.1 (by omega))]
      exact ho.here.symm
theorem pre_out {l : List S35} {o : List S35} (h : Pre l 0 l.length o) (hp : 0 < l.length) (hU : Ups l) : IsOut l 0 (rd_T35 l 0).f2 o :=
  ⟨h.len, h.sam 0 hp (fun h => absurd h.1 (by omega)), fun j u hj h0 hu hd => h.dnp j u hj (by omega) hu hd, fun j hj _ hd => by rw [dnB_root hU j hj] at hd; cases hd⟩
theorem spread_end {ts : Array Value} {a : Value} {b : Int} {W : World} (h1 : ts.getD 2 undef = a) (h2 : ts.getD 3 undef = .int .i64 b) : (results Try.f18 ts).run Try.prog W = .ok (.tuple #[a, .int .i64 b]) W := by
  have := results_list (P := Try.prog) (w := W) (tmps := ts) (fn := Try.f18) (rs := [.tmp 2, .tmp 3]) rfl (by simp) (.tmp (.tmp .nil))
  rw [h1, h2] at this
  exact this
set_option maxRecDepth 100000 in
set_option maxHeartbeats 2000000 in
theorem rSpread_calls (A : Option Addr) (c : Nat) (l : List S35) (w : World) (hr : Kd.C k35 w A l.length l) (hc : l.length ≤ c) :
    Calls Try.prog 18 #[.slice A l.length c] w (TreePost (sSpread l) w) := by
  have HR := Aside0.mk hr
  have HC := Aside0.mk hc
  clear hr hc
  by_cases hv : vTree l = true
  · have HV := Aside0.mk hv
    have HS := Aside0.mk (show sSpread l = treeOf (spreadF l 0 (rd_T35 l 0).f2) by unfold sSpread; rw [if_pos hv])
    clear hv
    go_enter Try.func18, Try.ntmps18
    go_upto_region 4 with ((with_reducible refine gate_dst (N := 6) rfl ?_); refine goesL_ (some 6) rfl rfl Try.func33 (by kernel_rfl) rfl #[.slice A l.length c] rfl (by (try simp only [List.map_toArray, List.map_cons, List.map_nil]); first | done | rfl) ?_; refine (rCheck_calls A c l _ HR.out).mono ?_; rintro e w1 ⟨rfl, hb⟩; refine ⟨_, rfl, ?_⟩; rw [HV.out]; simp only [errOf]; have HB1 := Aside0.mk hb; clear hb)
    go_wp2_with ((with_reducible refine gate_dst (N := 11) rfl ?_); refine goesL_ (some 11) rfl rfl Try.func55 (by kernel_rfl) rfl #[.slice A l.length c, .int .i64 0] rfl (by (try simp only [List.map_toArray, List.map_cons, List.map_nil]); first | done | rfl) ?_; refine (renewed_calls_r A c l 0 _ (Kd.C_below HR.out HB1.out) HC.out HV.out).mono ?_; rintro e w2 ⟨hb, hp⟩; (rcases hp with ⟨o, v, rfl, hpre, hra⟩ | ⟨j, u, o, rfl, hpre, h0, hj, hu, hd, hn⟩); all_goals refine ⟨_, rfl, ?_⟩)
    · refine bodyPost_ret (spread_end (by rfl) (by rfl)) rfl ?_
      have hU := vTree_ups HV.out
      have ho := pre_out hpre (vTree_pos HV.out).1 hU
      rw [HS.out, spread_of_out hU (vTree_pos HV.out).1 ho]
      exact ⟨_, rfl, Kd.R_lower hra HB1.out.size, below_step HB1.out hb⟩
    · refine bodyPost_ret (spread_end (by rfl) (by rfl)) rfl ?_
      have hU := vTree_ups HV.out
      have hnone : spreadF l 0 (rd_T35 l 0).f2 = none := by
        cases hs : spreadF l 0 (rd_T35 l 0).f2 with
        | none => rfl
        | some out =>
          exfalso
          have ho := out_of_spread hU (vTree_pos HV.out).1 hs
          obtain ⟨u', hu', hlt⟩ := hU j h0 hj
          have e : u' = u := by omega
          obtain ⟨d', b1, _⟩ := ho.down j u hj (by omega) hu hd
          rw [← pre_det hU hpre (by omega) ho u (by omega), hn] at b1
          cases b1
      rw [HS.out, hnone]
      exact ⟨_, rfl, Kd.R_nil _ _ _ _ _, below_step HB1.out hb⟩
  · have hv2 : vTree l = false := by simpa using hv
    have HV := Aside0.mk hv2
    have HS := Aside0.mk (show sSpread l = ([], 1) by unfold sSpread; rw [if_neg hv])
    clear hv hv2
    go_enter Try.func18, Try.ntmps18
    go_wp2_with ((with_reducible refine gate_dst (N := 6) rfl ?_); refine goesL_ (some 6) rfl rfl Try.func33 (by kernel_rfl) rfl #[.slice A l.length c] rfl (by (try simp only [List.map_toArray, List.map_cons, List.map_nil]); first | done | rfl) ?_; refine (rCheck_calls A c l _ HR.out).mono ?_; rintro e w1 ⟨rfl, hb⟩; refine ⟨_, rfl, ?_⟩; rw [HV.out]; simp only [errOf]; have HB1 := Aside0.mk hb; clear hb)
    refine bodyPost_ret (spread_end (by rfl) (by rfl)) rfl ?_
    rw [HS.out]
    exact ⟨_, rfl, Kd.R_nil _ _ _ _ _, HB1.out⟩
end Go.Proofs.Ytgocgjfaiddejaa.M
