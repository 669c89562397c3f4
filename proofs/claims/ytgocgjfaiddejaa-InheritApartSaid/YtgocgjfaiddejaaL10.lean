/- InheritApart: its walk. -/
import Derived.Test.YtgocgjfaiddejaaSR
import Derived.Test.YtgocgjfaiddejaaF38
namespace Go.Proofs.Ytgocgjfaiddejaa.M
open Go.RowKit Go.Proofs.YtgocgjfaiddejaaW.PrintWords Go.Proofs.YtgocgjfaiddejaaW.PrintLast Go.Proofs.YtgocgjfaiddejaaW.PrintMore
set_option linter.unusedVariables false
set_option linter.unusedSimpArgs false
set_option linter.unnecessarySimpa false

/-- The way up from j to the object k, or to the root, is without a Protected object. -/
def freeN (l : List S35) (k : Nat) : Nat → Nat → Bool
  | 0, _ => true
  | n + 1, j => if 0 < j ∧ j ≠ k then !(rd_T35 l j).f2.f1 && freeN l k n (rd_T35 l j).f0.toNat else true
def freeB (l : List S35) (k j : Nat) : Bool := freeN l k (j + 1) j
theorem freeN_fuel {l : List S35} (h : Ups l) (k : Nat) : ∀ n m j : Nat, j < l.length → j < n → j < m → freeN l k n j = freeN l k m j := by
  intro n
  induction n with
  | zero => intro m j _ h1 _; omega
  | succ n ih =>
    intro m j hj h1 h2
    obtain ⟨m, rfl⟩ : ∃ x, m = x + 1 := ⟨m - 1, by omega⟩
    unfold freeN
    by_cases h0 : 0 < j ∧ j ≠ k
    · obtain ⟨u, hu, hu1⟩ := h j h0.1 hj
      rw [if_pos h0, if_pos h0, hu, Int.toNat_natCast, ih m u (by omega) (by omega) (by omega)]
    · rw [if_neg h0, if_neg h0]
theorem freeB_step {l : List S35} (h : Ups l) (k : Nat) {j u : Nat} (hj : j < l.length) (h0 : 0 < j) (hu : (rd_T35 l j).f0 = u) (hlt : u < j) (hne : j ≠ k) : freeB l k j = (!(rd_T35 l j).f2.f1 && freeB l k u) := by
  show freeN l k (j + 1) j = (!(rd_T35 l j).f2.f1 && freeN l k (u + 1) u)
  conv => lhs; unfold freeN
  rw [if_pos ⟨h0, hne⟩, hu, Int.toNat_natCast, freeN_fuel h k j (u + 1) u (by omega) hlt (by omega)]
theorem freeB_end {l : List S35} {k j : Nat} (h : ¬ (0 < j ∧ j ≠ k)) : freeB l k j = true := by
  unfold freeB freeN
  rw [if_neg h]
def mayB (l : List S35) (k i : Nat) : Bool := dnB l k i && freeB l k i
/-- What may not change stays. -/
theorem apart_same {s : List S35} (hv : vTree s = true) (ha : ∀ j : Nat, j < s.length → agTw s j = true) {k : Nat} {d' : S33} {out : List S35} (h : IsOut s k d' out) : ∀ i : Nat, i < s.length → mayB s k i = false → rd_T35 out i = rd_T35 s i := by
  have hU := vTree_ups hv
  intro i
  induction i using Nat.strongRecOn with
  | _ i ih =>
    intro hi hm
    unfold mayB at hm
    by_cases hik : i = k
    · subst hik
      rw [dnB_self, freeB_end (by omega)] at hm
      cases hm
    · cases hd : dnB s k i with
      | false => exact h.same i hi hik hd
      | true =>
        rw [hd, Bool.true_and] at hm
        by_cases h0 : 0 < i
        · obtain ⟨u, hu, hlt⟩ := hU i h0 hi
          rw [freeB_step hU k hi h0 hu hlt hik] at hm
          obtain ⟨d2, e1, e2⟩ := h.down i u hi hik hu hd
          have hdd : d2 = (rd_T35 s i).f2 := by
            cases hp : (rd_T35 s i).f2.f1 with
            | true =>
              unfold renewD at e1
              rw [if_pos hp] at e1
              cases e1
              rfl
            | false =>
              rw [hp] at hm
              have hus : rd_T35 out u = rd_T35 s u := ih u hlt (by omega) (by
                unfold mayB
                rw [← dnB_step hU k hi h0 hu hik, hd]
                simpa using hm)
              rw [hus] at e1
              have hag := ha i hi
              unfold agTw at hag
              rw [hu] at hag
              have := renew_same (p := (rd_T35 s u).f2) (dir := (rd_T35 s i).f1) (vTw_desc (vTree_at hv hi)) (by simpa [show ¬ i = 0 by omega] using hag)
              rw [this] at e1
              cases e1
              rfl
          rw [e2, hdd]
        · rw [freeB_end (by omega)] at hm
          cases hm
theorem below_l {l : List S35} (hU : Ups l) (k : Nat) : ∀ n i : Nat, i < n → i < l.length → archivoltref23_Below.l0 n l (i : Int) (k : Int) = some (decide (0 < i) && dnB l k (rd_T35 l i).f0.toNat) := by
  intro n
  induction n with
  | zero => intro i h; omega
  | succ n ih =>
    intro i hn hi
    simp only [archivoltref23_Below.l0]
    by_cases h0 : 0 < i
    · obtain ⟨u, hu, hlt⟩ := hU i h0 hi
      rw [if_pos (by omega), if_pos (by omega), if_pos (by omega), hu, Int.toNat_natCast]
      by_cases huk : u = k
      · subst huk
        rw [if_pos rfl, dnB_self]
        simp [h0]
      · rw [if_neg (by omega), ih u (by omega) (by omega)]
        by_cases hu0 : 0 < u
        · obtain ⟨v, hv, hvl⟩ := hU u hu0 (by omega)
          rw [dnB_step hU k (show u < l.length by omega) hu0 hv huk, hv, Int.toNat_natCast]
          simp [h0, hu0]
        · obtain rfl : u = 0 := by omega
          have e : dnB l k 0 = false := by unfold dnB dn; simp; omega
          rw [e]
          simp
    · rw [if_neg (by omega)]
      simp [h0]
theorem below_dn {l : List S35} (hU : Ups l) (k : Nat) {i : Nat} (hi : i < l.length) (hne : i ≠ k) : (decide (0 < i) && dnB l k (rd_T35 l i).f0.toNat) = dnB l k i := by
  by_cases h0 : 0 < i
  · obtain ⟨u, hu, hlt⟩ := hU i h0 hi
    rw [dnB_step hU k hi h0 hu hne, hu, Int.toNat_natCast]
    simp [h0]
  · obtain rfl : i = 0 := by omega
    have e : dnB l k 0 = false := by unfold dnB dn; simp; omega
    rw [e]
    simp
/-- One object of a tree, as a slice of it. -/
theorem C35_at {w : World} {ad : Addr} {n : Nat} {l : List S35} (h : k35.C w (some ad) n l) {i : Nat} (hi : i < n) : k35.C w (some (ad.add (i * 5))) [rd_T35 l i].length [rd_T35 l i] := by
  obtain ⟨ad', e, hc⟩ := h.2.2 (by omega)
  cases e
  have hl := h.1
  obtain ⟨c, hcl, hK, hcc⟩ := hc i (rd_T35 l i) (by rw [rd35_at (by omega)]; exact List.getElem?_eq_getElem _)
  refine ⟨rfl, by simp, fun _ => ⟨_, rfl, fun j x hx => ?_⟩⟩
  rcases j with _ | j
  · obtain rfl : rd_T35 l i = x := by simpa using hx
    refine ⟨c, hcl, hK, fun m u hu => ?_⟩
    have e5 : k35.sz = 5 := rfl
    have := hcc m u hu
    rw [e5] at this
    rw [Nat.zero_mul, Nat.zero_add, Go.Deep.add_add]
    exact this
  · simp at hx

set_option maxRecDepth 100000 in
set_option maxHeartbeats 2000000 in
theorem apart_small (A A2 : Option Addr) (c c2 : Nat) (l : List S35) (k : Int) (d : S33) (w : World) (hr : k35.C w A l.length l) (hr2 : k37.C w A2 d.f2.length d.f2) (hc2 : d.f2.length ≤ c2) (hs : smallB l = false) :
    Calls Try.prog 10 #[.slice A l.length c, .int .i64 k, .agg #[.int .i64 d.f0, .bool d.f1, .slice A2 d.f2.length c2]] w fun e w' => e = .returned (.bool true) ∧ Below w.heap.size w w' := by
  have HR := Aside0.mk hr
  have HR2 := Aside0.mk hr2
  have HC2 := Aside0.mk hc2
  have HSM := Aside0.mk hs
  clear hr hr2 hc2 hs
  go_enter Try.func10, Try.ntmps10
  go_upto_region 1 with (fail)
  have hb_ := below_alloc (Below.refl _ w) (.cells #[.int .i64 d.f0, .bool d.f1, .slice A2 d.f2.length c2] 33)
  have hG0_ := blk_lit0 w (.cells #[.int .i64 d.f0, .bool d.f1, .slice A2 d.f2.length c2] 33)
  generalize (w.alloc (.cells #[.int .i64 d.f0, .bool d.f1, .slice A2 d.f2.length c2] 33)) = W at hb_ hG0_ ⊢
  have HB_W := Aside0.mk hb_
  have W0 := Aside0.mk hG0_
  clear hb_ hG0_
  go_wp2_with (first | ((with_reducible refine gate_dst (N := 15) rfl ?_); refine goesL_ (some 15) rfl rfl Try.func14 (by kernel_rfl) rfl #[.slice A l.length c] rfl (by (try simp only [List.map_toArray, List.map_cons, List.map_nil]); first | done | rfl) ?_; refine (small_calls A c l _ (Kd.C_below HR.out HB_W.out)).mono ?_; rintro e w0 ⟨rfl, hb⟩; refine ⟨_, rfl, ?_⟩; rw [HSM.out]; have HB0 := Aside0.mk (below_step HB_W.out hb); have V0 := Aside0.mk (blk_below W0.out hb); clear hb; have y0 := (blk_cell V0.out 0).trans rfl; have y1 := (blk_cell V0.out 1).trans rfl; have y2 := (blk_cell V0.out 2).trans rfl) | ((with_reducible refine gate_dst (N := 23) rfl ?_); refine goesL_ (some 23) rfl rfl Try.func15 (by kernel_rfl) rfl #[] rfl (by (try simp only [List.map_toArray, List.map_cons, List.map_nil]); first | done | rfl) ?_; refine (sane_calls _).mono ?_; rintro e ws ⟨rfl, hb⟩; refine ⟨_, rfl, ?_⟩; have HBS := Aside0.mk (below_step HB0.out hb); clear hb))
  go_ret
  exact ⟨rfl, HBS.out⟩
set_option maxRecDepth 100000 in
set_option maxHeartbeats 2000000 in
theorem apart_short (A A2 : Option Addr) (c c2 : Nat) (l : List S35) (k : Int) (d : S33) (w : World) (hr : k35.C w A l.length l) (hr2 : k37.C w A2 d.f2.length d.f2) (hc2 : d.f2.length ≤ c2) (hs : smallB l = true) (hsh : decide (d.f2.length ≤ 40) = false) :
    Calls Try.prog 10 #[.slice A l.length c, .int .i64 k, .agg #[.int .i64 d.f0, .bool d.f1, .slice A2 d.f2.length c2]] w fun e w' => e = .returned (.bool true) ∧ Below w.heap.size w w' := by
  have HR := Aside0.mk hr
  have HR2 := Aside0.mk hr2
  have HC2 := Aside0.mk hc2
  have HSM := Aside0.mk hs
  have HSH := Aside0.mk hsh
  clear hr hr2 hc2 hs hsh
  go_enter Try.func10, Try.ntmps10
  go_upto_region 1 with (fail)
  have hb_ := below_alloc (Below.refl _ w) (.cells #[.int .i64 d.f0, .bool d.f1, .slice A2 d.f2.length c2] 33)
  have hG0_ := blk_lit0 w (.cells #[.int .i64 d.f0, .bool d.f1, .slice A2 d.f2.length c2] 33)
  generalize (w.alloc (.cells #[.int .i64 d.f0, .bool d.f1, .slice A2 d.f2.length c2] 33)) = W at hb_ hG0_ ⊢
  have HB_W := Aside0.mk hb_
  have W0 := Aside0.mk hG0_
  clear hb_ hG0_
  go_wp2_with (first | ((with_reducible refine gate_dst (N := 15) rfl ?_); refine goesL_ (some 15) rfl rfl Try.func14 (by kernel_rfl) rfl #[.slice A l.length c] rfl (by (try simp only [List.map_toArray, List.map_cons, List.map_nil]); first | done | rfl) ?_; refine (small_calls A c l _ (Kd.C_below HR.out HB_W.out)).mono ?_; rintro e w0 ⟨rfl, hb⟩; refine ⟨_, rfl, ?_⟩; rw [HSM.out]; have HB0 := Aside0.mk (below_step HB_W.out hb); have V0 := Aside0.mk (blk_below W0.out hb); clear hb; have y0 := (blk_cell V0.out 0).trans rfl; have y1 := (blk_cell V0.out 1).trans rfl; have y2 := (blk_cell V0.out 2).trans rfl) | (go_at_call 24; refine (short_one _ d.f0 d.f1 A2 c2 d.f2 _ (blk_new _ _) (Kd.C_alloc (Kd.C_below HR2.out HB0.out) _) HC2.out).mono ?_; rintro e w1 ⟨rfl, hb⟩; rw [HSH.out]; have HB1 := Aside0.mk (below_step (below_alloc HB0.out _) hb); have X1 := Aside0.mk (blk_below (blk_alloc V0.out _) hb); clear hb y0 y1 y2) | ((with_reducible refine gate_dst (N := 23) rfl ?_); refine goesL_ (some 23) rfl rfl Try.func15 (by kernel_rfl) rfl #[] rfl (by (try simp only [List.map_toArray, List.map_cons, List.map_nil]); first | done | rfl) ?_; refine (sane_calls _).mono ?_; rintro e ws ⟨rfl, hb⟩; refine ⟨_, rfl, ?_⟩; have HBS := Aside0.mk (below_step HB1.out hb); clear hb))
  go_ret
  exact ⟨rfl, HBS.out⟩
set_option maxRecDepth 100000 in
set_option maxHeartbeats 2000000 in
theorem apart_err (A A2 : Option Addr) (c c2 : Nat) (l : List S35) (k : Int) (d : S33) (w : World) (hr : k35.C w A l.length l) (hr2 : k37.C w A2 d.f2.length d.f2) (hc2 : d.f2.length ≤ c2) (hs : smallB l = true) (hsh : decide (d.f2.length ≤ 40) = true) (s : List S35) (er : Int) (hsp : sSpread l = (s, er)) (he : ¬ er = 0) :
    Calls Try.prog 10 #[.slice A l.length c, .int .i64 k, .agg #[.int .i64 d.f0, .bool d.f1, .slice A2 d.f2.length c2]] w fun e w' => e = .returned (.bool true) ∧ Below w.heap.size w w' := by
  have HR := Aside0.mk hr
  have HR2 := Aside0.mk hr2
  have HC2 := Aside0.mk hc2
  have HSM := Aside0.mk hs
  have HSH := Aside0.mk hsh
  have HSP := Aside0.mk hsp
  have he2 : decide (er = 0) = false := by simpa using he
  clear hr hr2 hc2 hs hsh hsp
  go_enter Try.func10, Try.ntmps10
  go_upto_region 1 with (fail)
  have hb_ := below_alloc (Below.refl _ w) (.cells #[.int .i64 d.f0, .bool d.f1, .slice A2 d.f2.length c2] 33)
  have hG0_ := blk_lit0 w (.cells #[.int .i64 d.f0, .bool d.f1, .slice A2 d.f2.length c2] 33)
  generalize (w.alloc (.cells #[.int .i64 d.f0, .bool d.f1, .slice A2 d.f2.length c2] 33)) = W at hb_ hG0_ ⊢
  have HB_W := Aside0.mk hb_
  have W0 := Aside0.mk hG0_
  clear hb_ hG0_
  go_wp2_with (first | ((with_reducible refine gate_dst (N := 15) rfl ?_); refine goesL_ (some 15) rfl rfl Try.func14 (by kernel_rfl) rfl #[.slice A l.length c] rfl (by (try simp only [List.map_toArray, List.map_cons, List.map_nil]); first | done | rfl) ?_; refine (small_calls A c l _ (Kd.C_below HR.out HB_W.out)).mono ?_; rintro e w0 ⟨rfl, hb⟩; refine ⟨_, rfl, ?_⟩; rw [HSM.out]; have HB0 := Aside0.mk (below_step HB_W.out hb); have V0 := Aside0.mk (blk_below W0.out hb); clear hb; have y0 := (blk_cell V0.out 0).trans rfl; have y1 := (blk_cell V0.out 1).trans rfl; have y2 := (blk_cell V0.out 2).trans rfl) | (go_at_call 24; refine (short_one _ d.f0 d.f1 A2 c2 d.f2 _ (blk_new _ _) (Kd.C_alloc (Kd.C_below HR2.out HB0.out) _) HC2.out).mono ?_; rintro e w1 ⟨rfl, hb⟩; rw [HSH.out]; have HB1 := Aside0.mk (below_step (below_alloc HB0.out _) hb); have X1 := Aside0.mk (blk_below (blk_alloc V0.out _) hb); clear hb y0 y1 y2) | ((with_reducible refine gate_dst (N := 26) rfl ?_); refine goesL_ (some 26) rfl rfl Try.func19 (by kernel_rfl) rfl #[.slice A l.length c] rfl (by (try simp only [List.map_toArray, List.map_cons, List.map_nil]); first | done | rfl) ?_; refine (Spread_calls A c l _ (Kd.C_below HR.out HB1.out)).mono ?_; rw [HSP.out]; rintro e w2 ⟨v, rfl, hra, hb⟩; refine ⟨_, rfl, ?_⟩; replace hra : RT w2 _ v s := hra; obtain ⟨As, cs, rfl⟩ := Kd.R_slice hra; have HB2 := Aside0.mk (below_step HB1.out hb); have S2 := Aside0.mk (Kd.R_reads' hra).2.2; have X2 := Aside0.mk (blk_below X1.out hb); clear hra hb) | ((with_reducible refine gate_dst (N := 31) rfl ?_); refine goesL_ (some 31) rfl rfl Try.func15 (by kernel_rfl) rfl #[] rfl (by (try simp only [List.map_toArray, List.map_cons, List.map_nil]); first | done | rfl) ?_; refine (sane_calls _).mono ?_; rintro e ws ⟨rfl, hb⟩; refine ⟨_, rfl, ?_⟩; have HBS := Aside0.mk (below_step HB2.out hb); clear hb))
  go_ret
  exact ⟨rfl, HBS.out⟩
set_option maxRecDepth 100000 in
set_option maxHeartbeats 2000000 in
theorem apart_chg (A A2 : Option Addr) (c c2 : Nat) (l : List S35) (k : Int) (d : S33) (w : World) (hr : k35.C w A l.length l) (hr2 : k37.C w A2 d.f2.length d.f2) (hc2 : d.f2.length ≤ c2) (hs : smallB l = true) (hsh : decide (d.f2.length ≤ 40) = true) (s : List S35) (hsp : sSpread l = (s, 0)) (out : List S35) (er : Int) (hch : sChange s k d = (out, er)) (he : ¬ er = 0) :
    Calls Try.prog 10 #[.slice A l.length c, .int .i64 k, .agg #[.int .i64 d.f0, .bool d.f1, .slice A2 d.f2.length c2]] w fun e w' => e = .returned (.bool true) ∧ Below w.heap.size w w' := by
  have HR := Aside0.mk hr
  have HR2 := Aside0.mk hr2
  have HC2 := Aside0.mk hc2
  have HSM := Aside0.mk hs
  have HSH := Aside0.mk hsh
  have HSP := Aside0.mk hsp
  have HCH := Aside0.mk hch
  have he2 : decide (er = 0) = false := by simpa using he
  clear hr hr2 hc2 hs hsh hsp hch
  go_enter Try.func10, Try.ntmps10
  go_upto_region 1 with (fail)
  have hb_ := below_alloc (Below.refl _ w) (.cells #[.int .i64 d.f0, .bool d.f1, .slice A2 d.f2.length c2] 33)
  have hG0_ := blk_lit0 w (.cells #[.int .i64 d.f0, .bool d.f1, .slice A2 d.f2.length c2] 33)
  generalize (w.alloc (.cells #[.int .i64 d.f0, .bool d.f1, .slice A2 d.f2.length c2] 33)) = W at hb_ hG0_ ⊢
  have HB_W := Aside0.mk hb_
  have W0 := Aside0.mk hG0_
  clear hb_ hG0_
  go_wp2_with (first | ((with_reducible refine gate_dst (N := 15) rfl ?_); refine goesL_ (some 15) rfl rfl Try.func14 (by kernel_rfl) rfl #[.slice A l.length c] rfl (by (try simp only [List.map_toArray, List.map_cons, List.map_nil]); first | done | rfl) ?_; refine (small_calls A c l _ (Kd.C_below HR.out HB_W.out)).mono ?_; rintro e w0 ⟨rfl, hb⟩; refine ⟨_, rfl, ?_⟩; rw [HSM.out]; have HB0 := Aside0.mk (below_step HB_W.out hb); have V0 := Aside0.mk (blk_below W0.out hb); clear hb; have y0 := (blk_cell V0.out 0).trans rfl; have y1 := (blk_cell V0.out 1).trans rfl; have y2 := (blk_cell V0.out 2).trans rfl) | (go_at_call 24; refine (short_one _ d.f0 d.f1 A2 c2 d.f2 _ (blk_new _ _) (Kd.C_alloc (Kd.C_below HR2.out HB0.out) _) HC2.out).mono ?_; rintro e w1 ⟨rfl, hb⟩; rw [HSH.out]; have HB1 := Aside0.mk (below_step (below_alloc HB0.out _) hb); have X1 := Aside0.mk (blk_below (blk_alloc V0.out _) hb); clear hb y0 y1 y2) | ((with_reducible refine gate_dst (N := 26) rfl ?_); refine goesL_ (some 26) rfl rfl Try.func19 (by kernel_rfl) rfl #[.slice A l.length c] rfl (by (try simp only [List.map_toArray, List.map_cons, List.map_nil]); first | done | rfl) ?_; refine (Spread_calls A c l _ (Kd.C_below HR.out HB1.out)).mono ?_; rw [HSP.out]; rintro e w2 ⟨v, rfl, hra, hb⟩; refine ⟨_, rfl, ?_⟩; replace hra : RT w2 _ v s := hra; obtain ⟨As, cs, rfl⟩ := Kd.R_slice hra; have HB2 := Aside0.mk (below_step HB1.out hb); have S2 := Aside0.mk (Kd.R_reads' hra).2.2; have X2 := Aside0.mk (blk_below X1.out hb); have HCS := Aside0.mk (Kd.R_reads' hra).2.1; have x0 := (blk_cell X2.out 0).trans rfl; have x1 := (blk_cell X2.out 1).trans rfl; have x2 := (blk_cell X2.out 2).trans rfl; clear hra hb) | ((with_reducible refine gate_dst (N := 36) rfl ?_); refine goesL_ (some 36) rfl rfl Try.func34 (by kernel_rfl) rfl #[.slice As s.length cs, .int .i64 k, .agg #[.int .i64 d.f0, .bool d.f1, .slice A2 d.f2.length c2]] rfl (by (try simp only [List.map_toArray, List.map_cons, List.map_nil]); first | done | rfl) ?_; refine (Change_calls As A2 cs c2 s k d _ S2.out (Kd.C_below HR2.out HB2.out) HC2.out).mono ?_; rw [HCH.out]; rintro e w6 ⟨v, rfl, hra, hb⟩; refine ⟨_, rfl, ?_⟩; replace hra : RT w6 _ v out := hra; obtain ⟨Ao, co, rfl⟩ := Kd.R_slice hra; have HB6 := Aside0.mk (below_step HB2.out hb); have S6 := Aside0.mk (Kd.C_below S2.out hb); have O6 := Aside0.mk (Kd.R_reads' hra).2.2; have HCO' := Aside0.mk (Kd.R_reads' hra).2.1; clear hra hb x0 x1 x2) | ((with_reducible refine gate_dst (N := 41) rfl ?_); refine goesL_ (some 41) rfl rfl Try.func15 (by kernel_rfl) rfl #[] rfl (by (try simp only [List.map_toArray, List.map_cons, List.map_nil]); first | done | rfl) ?_; refine (sane_calls _).mono ?_; rintro e ws ⟨rfl, hb⟩; refine ⟨_, rfl, ?_⟩; have HBS := Aside0.mk (below_step HB6.out hb); clear hb))
  go_ret
  exact ⟨rfl, HBS.out⟩
set_option maxRecDepth 100000 in
set_option maxHeartbeats 2000000 in
theorem apart_all (A A2 : Option Addr) (c c2 : Nat) (l : List S35) (kk : Nat) (d : S33) (w : World) (hr : k35.C w A l.length l) (hr2 : k37.C w A2 d.f2.length d.f2) (hc2 : d.f2.length ≤ c2) (hs : smallB l = true) (hsh : decide (d.f2.length ≤ 40) = true) (s : List S35) (hsp : sSpread l = (s, 0)) (hU : Ups s) (hm : s.length ≤ 400) (out : List S35) (hch : sChange s (kk : Int) d = (out, 0))
    (hlo : out.length = s.length) (hsame : ∀ i : Nat, i < s.length → mayB s kk i = false → rd_T35 out i = rd_T35 s i) :
    Calls Try.prog 10 #[.slice A l.length c, .int .i64 (kk : Int), .agg #[.int .i64 d.f0, .bool d.f1, .slice A2 d.f2.length c2]] w fun e w' => e = .returned (.bool true) ∧ Below w.heap.size w w' := by
  have HR := Aside0.mk hr
  have HR2 := Aside0.mk hr2
  have HC2 := Aside0.mk hc2
  have HSM := Aside0.mk hs
  have HSH := Aside0.mk hsh
  have HSP := Aside0.mk hsp
  have HCH := Aside0.mk hch
  have HU := Aside0.mk hU
  have HMX := Aside0.mk hm
  have HLO := Aside0.mk hlo
  have HSAME := Aside0.mk hsame
  clear hr hr2 hc2 hs hsh hsp hch hU hm hlo hsame
  go_enter Try.func10, Try.ntmps10
  go_upto_region 1 with (fail)
  have hb_ := below_alloc (Below.refl _ w) (.cells #[.int .i64 d.f0, .bool d.f1, .slice A2 d.f2.length c2] 33)
  have hG0_ := blk_lit0 w (.cells #[.int .i64 d.f0, .bool d.f1, .slice A2 d.f2.length c2] 33)
  generalize (w.alloc (.cells #[.int .i64 d.f0, .bool d.f1, .slice A2 d.f2.length c2] 33)) = W at hb_ hG0_ ⊢
  have HB_W := Aside0.mk hb_
  have W0 := Aside0.mk hG0_
  clear hb_ hG0_
  go_upto_region 12 with (first | ((with_reducible refine gate_dst (N := 15) rfl ?_); refine goesL_ (some 15) rfl rfl Try.func14 (by kernel_rfl) rfl #[.slice A l.length c] rfl (by (try simp only [List.map_toArray, List.map_cons, List.map_nil]); first | done | rfl) ?_; refine (small_calls A c l _ (Kd.C_below HR.out HB_W.out)).mono ?_; rintro e w0 ⟨rfl, hb⟩; refine ⟨_, rfl, ?_⟩; rw [HSM.out]; have HB0 := Aside0.mk (below_step HB_W.out hb); have V0 := Aside0.mk (blk_below W0.out hb); clear hb; have y0 := (blk_cell V0.out 0).trans rfl; have y1 := (blk_cell V0.out 1).trans rfl; have y2 := (blk_cell V0.out 2).trans rfl) | (go_at_call 24; refine (short_one _ d.f0 d.f1 A2 c2 d.f2 _ (blk_new _ _) (Kd.C_alloc (Kd.C_below HR2.out HB0.out) _) HC2.out).mono ?_; rintro e w1 ⟨rfl, hb⟩; rw [HSH.out]; have HB1 := Aside0.mk (below_step (below_alloc HB0.out _) hb); have X1 := Aside0.mk (blk_below (blk_alloc V0.out _) hb); clear hb y0 y1 y2) | ((with_reducible refine gate_dst (N := 26) rfl ?_); refine goesL_ (some 26) rfl rfl Try.func19 (by kernel_rfl) rfl #[.slice A l.length c] rfl (by (try simp only [List.map_toArray, List.map_cons, List.map_nil]); first | done | rfl) ?_; refine (Spread_calls A c l _ (Kd.C_below HR.out HB1.out)).mono ?_; rw [HSP.out]; rintro e w2 ⟨v, rfl, hra, hb⟩; refine ⟨_, rfl, ?_⟩; replace hra : RT w2 _ v s := hra; obtain ⟨As, cs, rfl⟩ := Kd.R_slice hra; have HB2 := Aside0.mk (below_step HB1.out hb); have S2 := Aside0.mk (Kd.R_reads' hra).2.2; have X2 := Aside0.mk (blk_below X1.out hb); have HCS := Aside0.mk (Kd.R_reads' hra).2.1; have x0 := (blk_cell X2.out 0).trans rfl; have x1 := (blk_cell X2.out 1).trans rfl; have x2 := (blk_cell X2.out 2).trans rfl; clear hra hb) | ((with_reducible refine gate_dst (N := 36) rfl ?_); refine goesL_ (some 36) rfl rfl Try.func34 (by kernel_rfl) rfl #[.slice As s.length cs, .int .i64 (kk : Int), .agg #[.int .i64 d.f0, .bool d.f1, .slice A2 d.f2.length c2]] rfl (by (try simp only [List.map_toArray, List.map_cons, List.map_nil]); first | done | rfl) ?_; refine (Change_calls As A2 cs c2 s (kk : Int) d _ S2.out (Kd.C_below HR2.out HB2.out) HC2.out).mono ?_; rw [HCH.out]; rintro e w6 ⟨v, rfl, hra, hb⟩; refine ⟨_, rfl, ?_⟩; replace hra : RT w6 _ v out := hra; obtain ⟨Ao, co, rfl⟩ := Kd.R_slice hra; rw [HLO.out]; have HB6 := Aside0.mk (below_step HB2.out hb); have S6 := Aside0.mk (Kd.C_below S2.out hb); have O6 := Aside0.mk (Kd.R_reads' hra).2.2; have HCO' := Aside0.mk (Kd.R_reads' hra).2.1; clear hra hb x0 x1 x2))
  have HCO := Aside0.mk (show s.length ≤ co by have := HCO'.out; rwa [HLO.out] at this)
  have O6' := Aside0.mk (show k35.C w6 Ao s.length out by have := O6.out; rwa [HLO.out] at this)
  go_loopg [11] s.length (fun kq v11 w' => ∃ i : Nat, v11 = .int .i64 (i : Int) ∧ Aside0 (kq + i = s.length) ∧ Aside0 (Below w.heap.size w w') ∧ Aside0 (k35.C w' As s.length s) ∧ Aside0 (k35.C w' Ao s.length out))
  case atStart => exact ⟨0, rfl, ⟨by omega⟩, HB6, S6, O6'⟩
  case round =>
    obtain ⟨i, rfl, HKQ, HBR, HSR, HOR⟩ := hrel
    by_cases hlt : i < s.length
    · have h1 : decide (i < s.length) = true := decide_eq_true hlt
      have HWR := Aside0.mk (show Value.int .i64 (Go.RowKit.wrap64 ((i : Int) + 1)) = Value.int .i64 ((i + 1 : Nat) : Int) by rw [show Go.RowKit.wrap64 ((i : Int) + 1) = ((i + 1 : Nat) : Int) by have := HMX.out; unfold Go.RowKit.wrap64; omega])
      by_cases hik : i = kk
      · obtain rfl : kk = i := hik.symm
        go_upto_region 16 with (fail)
        obtain ⟨WX, hWX⟩ : ∃ WX, WX = wr := ⟨_, rfl⟩
        rw [← hWX] at HBR HSR HOR ⊢
        have HBX := HBR
        have HSX := HSR
        have HOX := HOR
        obtain ⟨ad, Ai0, ci0, rfl, _⟩ := at_T35 HSX.out (kk : Int) (by omega) (by omega)
        obtain ⟨bd, Bi0, di0, rfl, _⟩ := at_T35 HOX.out (kk : Int) (by omega) (by omega)
        have HMAY := Aside0.mk (show (true && freeB s kk kk) = mayB s kk kk by unfold mayB; rw [dnB_self])
        clear hWX
        go_loopg [12, 13] (kk + 1) (fun kq v12 v13 w' => ∃ (m : Bool) (j : Nat), v12 = .bool m ∧ v13 = .int .i64 (j : Int) ∧ WX = w' ∧ Aside0 (j < kq) ∧ Aside0 (j < s.length) ∧ Aside0 ((m && freeB s kk j) = mayB s kk kk))
        case atStart => exact ⟨_, kk, rfl, rfl, rfl, ⟨by omega⟩, ⟨hlt⟩, HMAY⟩
        case round =>
          obtain ⟨m, j, rfl, rfl, rfl, HKJ, HJ, HM⟩ := hrel
          by_cases h0 : 0 < j
          · have g1 : decide (0 < j) = true := decide_eq_true h0
            by_cases hjk : j = kk
            · obtain rfl : kk = j := hjk.symm
              have HMM := Aside0.mk (show m = mayB s kk kk by have := HM.out; rwa [freeB_end (by omega), Bool.and_true] at this)
              clear h0
              cases m with
              | true =>
                go_upto_region 19 with (fail)
                refine start_ (n := 16) (S := fun w' => True) (ds := []) #[false, false, false, false, false, false, false, false, false, false, false, false, false, false, false, false] (by kernel_rfl) rfl rfl trivial (fun hHeld => ?_)
                refine pure_ (i := 0) (N := some 85) (v := ?_) (a' := ?_) #[true, false, false, false, false, false, false, false, false, false, false, false, false, false, false, false] rfl rfl (by kernel_rfl) (fun _ _ _ h => h) (Or.inl ⟨by rfl, ?_⟩) ?_ ?_
                rotate_left
                · intro w'
                  go_simp
                  with_reducible rfl
                rotate_left
                · simp only [Act.put, List.setIfInBounds_toArray, List.set_cons_zero, List.set_cons_succ, i64_w, i32_w]
                  rfl
                refine pure_ (i := 1) (N := some 86) (v := ?_) (a' := ?_) #[true, true, false, false, false, false, false, false, false, false, false, false, false, false, false, false] rfl rfl (by kernel_rfl) (fun _ _ _ h => h) (Or.inl ⟨by rfl, ?_⟩) ?_ ?_
                rotate_left
                · intro w'
                  go_simp
                  with_reducible rfl
                rotate_left
                · simp only [Act.put, List.setIfInBounds_toArray, List.set_cons_zero, List.set_cons_succ, i64_w, i32_w]
                  rfl
                refine pure_ (i := 2) (N := some 87) (v := ?_) (a' := ?_) #[true, true, true, false, false, false, false, false, false, false, false, false, false, false, false, false] rfl rfl (by kernel_rfl) (fun _ _ _ h => h) (Or.inl ⟨by rfl, ?_⟩) ?_ ?_
                rotate_left
                · intro w'
                  go_simp
                  with_reducible rfl
                rotate_left
                · simp only [Act.put, List.setIfInBounds_toArray, List.set_cons_zero, List.set_cons_succ, i64_w, i32_w]
                  rfl
                refine pure_ (i := 3) (N := some 88) (v := undef) (a' := ?_) #[true, true, true, true, false, false, false, false, false, false, false, false, false, false, false, false] rfl rfl (by kernel_rfl) (fun _ _ _ h => h) (Or.inr ⟨by rfl, rfl⟩) ?_ ?_
                rotate_left
                · simp only [Act.put, List.setIfInBounds_toArray, List.set_cons_zero, List.set_cons_succ, i64_w, i32_w]
                  rfl
                refine pure_ (i := 4) (N := some 89) (v := undef) (a' := ?_) #[true, true, true, true, true, false, false, false, false, false, false, false, false, false, false, false] rfl rfl (by kernel_rfl) (fun _ _ _ h => h) (Or.inr ⟨by rfl, rfl⟩) ?_ ?_
                rotate_left
                · simp only [Act.put, List.setIfInBounds_toArray, List.set_cons_zero, List.set_cons_succ, i64_w, i32_w]
                  rfl
                refine pure_ (i := 5) (N := some 90) (v := undef) (a' := ?_) #[true, true, true, true, true, true, false, false, false, false, false, false, false, false, false, false] rfl rfl (by kernel_rfl) (fun _ _ _ h => h) (Or.inr ⟨by rfl, rfl⟩) ?_ ?_
                rotate_left
                · simp only [Act.put, List.setIfInBounds_toArray, List.set_cons_zero, List.set_cons_succ, i64_w, i32_w]
                  rfl
                refine pure_ (i := 6) (N := some 91) (v := undef) (a' := ?_) #[true, true, true, true, true, true, true, false, false, false, false, false, false, false, false, false] rfl rfl (by kernel_rfl) (fun _ _ _ h => h) (Or.inr ⟨by rfl, rfl⟩) ?_ ?_
                rotate_left
                · simp only [Act.put, List.setIfInBounds_toArray, List.set_cons_zero, List.set_cons_succ, i64_w, i32_w]
                  rfl
                refine pure_ (i := 7) (N := some 92) (v := undef) (a' := ?_) #[true, true, true, true, true, true, true, true, false, false, false, false, false, false, false, false] rfl rfl (by kernel_rfl) (fun _ _ _ h => h) (Or.inr ⟨by rfl, rfl⟩) ?_ ?_
                rotate_left
                · simp only [Act.put, List.setIfInBounds_toArray, List.set_cons_zero, List.set_cons_succ, i64_w, i32_w]
                  rfl
                refine pure_ (i := 8) (N := some 93) (v := undef) (a' := ?_) #[true, true, true, true, true, true, true, true, true, false, false, false, false, false, false, false] rfl rfl (by kernel_rfl) (fun _ _ _ h => h) (Or.inr ⟨by rfl, rfl⟩) ?_ ?_
                rotate_left
                · simp only [Act.put, List.setIfInBounds_toArray, List.set_cons_zero, List.set_cons_succ, i64_w, i32_w]
                  rfl
                refine pure_ (i := 9) (N := some 94) (v := undef) (a' := ?_) #[true, true, true, true, true, true, true, true, true, true, false, false, false, false, false, false] rfl rfl (by kernel_rfl) (fun _ _ _ h => h) (Or.inr ⟨by rfl, rfl⟩) ?_ ?_
                rotate_left
                · simp only [Act.put, List.setIfInBounds_toArray, List.set_cons_zero, List.set_cons_succ, i64_w, i32_w]
                  rfl
                refine pure_ (i := 10) (N := some 95) (v := undef) (a' := ?_) #[true, true, true, true, true, true, true, true, true, true, true, false, false, false, false, false] rfl rfl (by kernel_rfl) (fun _ _ _ h => h) (Or.inr ⟨by rfl, rfl⟩) ?_ ?_
                rotate_left
                · simp only [Act.put, List.setIfInBounds_toArray, List.set_cons_zero, List.set_cons_succ, i64_w, i32_w]
                  rfl
                refine pure_ (i := 11) (N := some 96) (v := undef) (a' := ?_) #[true, true, true, true, true, true, true, true, true, true, true, true, false, false, false, false] rfl rfl (by kernel_rfl) (fun _ _ _ h => h) (Or.inr ⟨by rfl, rfl⟩) ?_ ?_
                rotate_left
                · simp only [Act.put, List.setIfInBounds_toArray, List.set_cons_zero, List.set_cons_succ, i64_w, i32_w]
                  rfl
                refine pure_ (i := 12) (N := some 97) (v := undef) (a' := ?_) #[true, true, true, true, true, true, true, true, true, true, true, true, true, false, false, false] rfl rfl (by kernel_rfl) (fun _ _ _ h => h) (Or.inr ⟨by rfl, rfl⟩) ?_ ?_
                rotate_left
                · simp only [Act.put, List.setIfInBounds_toArray, List.set_cons_zero, List.set_cons_succ, i64_w, i32_w]
                  rfl
                refine pure_ (i := 13) (N := some 98) (v := undef) (a' := ?_) #[true, true, true, true, true, true, true, true, true, true, true, true, true, true, false, false] rfl rfl (by kernel_rfl) (fun _ _ _ h => h) (Or.inr ⟨by rfl, rfl⟩) ?_ ?_
                rotate_left
                · simp only [Act.put, List.setIfInBounds_toArray, List.set_cons_zero, List.set_cons_succ, i64_w, i32_w]
                  rfl
                refine pure_ (i := 14) (N := some 99) (v := undef) (a' := ?_) #[true, true, true, true, true, true, true, true, true, true, true, true, true, true, true, false] rfl rfl (by kernel_rfl) (fun _ _ _ h => h) (Or.inr ⟨by rfl, rfl⟩) ?_ ?_
                rotate_left
                · simp only [Act.put, List.setIfInBounds_toArray, List.set_cons_zero, List.set_cons_succ, i64_w, i32_w]
                  rfl
                refine pure_ (i := 15) (N := some 100) (v := ?_) (a' := ?_) #[true, true, true, true, true, true, true, true, true, true, true, true, true, true, true, true] rfl rfl (by kernel_rfl) (fun _ _ _ h => h) (Or.inl ⟨by rfl, ?_⟩) ?_ ?_
                rotate_left
                · intro w'
                  go_simp
                  with_reducible rfl
                rotate_left
                · simp only [Act.put, List.setIfInBounds_toArray, List.set_cons_zero, List.set_cons_succ, i64_w, i32_w]
                  rfl
                refine done_ (by kernel_rfl) ?_
                go_wp2
                go_roundg (s.length - (kk + 1))
                case measure => have := HKQ.out; omega
                case rel => exact ⟨kk + 1, HWR.out, ⟨by omega⟩, ⟨below_drew1 HBX.out⟩, ⟨Kd.C_drew HSX.out⟩, ⟨Kd.C_drew HOX.out⟩⟩
              | false =>
                go_upto_region 19 with (fail)
                refine start_ (n := 16) (S := fun w' => True) (ds := []) #[false, false, false, false, false, false, false, false, false, false, false, false, false, false, false, false] (by kernel_rfl) rfl rfl trivial (fun hHeld => ?_)
                have HSD := Aside0.mk (Kd.C_drew HSX.out)
                have HOD := Aside0.mk (Kd.C_drew HOX.out)
                have HBD := Aside0.mk (below_drew1 HBX.out)
                generalize WX.drew = wd at HSD HOD HBD hHeld ⊢
                have hwr : Go.RowKit.wrap64 ((kk : Int) + 1) = (kk : Int) + 1 := by have := HMX.out; unfold Go.RowKit.wrap64; omega
                have q1 : (kk : Int) + 1 ≤ (cs : Int) := by have := HCS.out; omega
                have q2 : ¬ cs = kk := by have := HCS.out; omega
                have q3 : (kk : Int) + 1 ≤ (co : Int) := by have := HCO.out; omega
                have q4 : ¬ co = kk := by have := HCO.out; omega
                have q5 : (0 : Int) ≤ (kk : Int) + 1 := by omega
                refine pure_ (i := 0) (N := some 85) (v := ?_) (a' := ?_) #[true, false, false, false, false, false, false, false, false, false, false, false, false, false, false, false] rfl rfl (by kernel_rfl) (fun _ _ _ h => h) (Or.inl ⟨by rfl, ?_⟩) ?_ ?_
                rotate_left
                · intro w'
                  go_simp
                  with_reducible rfl
                rotate_left
                · simp only [Act.put, List.setIfInBounds_toArray, List.set_cons_zero, List.set_cons_succ, i64_w, i32_w]
                  rfl
                refine pure_ (i := 1) (N := some 86) (v := ?_) (a' := ?_) #[true, true, false, false, false, false, false, false, false, false, false, false, false, false, false, false] rfl rfl (by kernel_rfl) (fun _ _ _ h => h) (Or.inl ⟨by rfl, ?_⟩) ?_ ?_
                rotate_left
                · intro w'
                  go_simp
                  with_reducible rfl
                rotate_left
                · simp only [Act.put, List.setIfInBounds_toArray, List.set_cons_zero, List.set_cons_succ, i64_w, i32_w]
                  rfl
                refine pure_ (i := 2) (N := some 87) (v := ?_) (a' := ?_) #[true, true, true, false, false, false, false, false, false, false, false, false, false, false, false, false] rfl rfl (by kernel_rfl) (fun _ _ _ h => h) (Or.inl ⟨by rfl, ?_⟩) ?_ ?_
                rotate_left
                · intro w'
                  go_simp
                  with_reducible rfl
                rotate_left
                · simp only [Act.put, List.setIfInBounds_toArray, List.set_cons_zero, List.set_cons_succ, i64_w, i32_w]
                  rfl
                refine pure_ (i := 3) (N := some 88) (v := ?_) (a' := ?_) #[true, true, true, true, false, false, false, false, false, false, false, false, false, false, false, false] rfl rfl (by kernel_rfl) (fun _ _ _ h => h) (Or.inl ⟨by rfl, ?_⟩) ?_ ?_
                rotate_left
                · intro w'
                  go_simp
                  with_reducible rfl
                rotate_left
                · simp only [Act.put, List.setIfInBounds_toArray, List.set_cons_zero, List.set_cons_succ, i64_w, i32_w]
                  rfl
                refine pure_ (i := 4) (N := some 89) (v := ?_) (a' := ?_) #[true, true, true, true, true, false, false, false, false, false, false, false, false, false, false, false] rfl rfl (by kernel_rfl) (fun _ _ _ h => h) (Or.inl ⟨by rfl, ?_⟩) ?_ ?_
                rotate_left
                · intro w'
                  go_simp
                  with_reducible rfl
                rotate_left
                · simp only [Act.put, List.setIfInBounds_toArray, List.set_cons_zero, List.set_cons_succ, i64_w, i32_w]
                  rfl
                refine pure_ (i := 5) (N := some 90) (v := ?_) (a' := ?_) #[true, true, true, true, true, true, false, false, false, false, false, false, false, false, false, false] rfl rfl (by kernel_rfl) (fun _ _ _ h => h) (Or.inl ⟨by rfl, ?_⟩) ?_ ?_
                rotate_left
                · intro w'
                  go_simp
                  with_reducible rfl
                rotate_left
                · simp only [Act.put, List.setIfInBounds_toArray, List.set_cons_zero, List.set_cons_succ, i64_w, i32_w]
                  rfl
                refine pure_ (i := 6) (N := some 91) (v := ?_) (a' := ?_) #[true, true, true, true, true, true, true, false, false, false, false, false, false, false, false, false] rfl rfl (by kernel_rfl) (fun _ _ _ h => h) (Or.inl ⟨by rfl, ?_⟩) ?_ ?_
                rotate_left
                · intro w'
                  go_simp
                  with_reducible rfl
                rotate_left
                · simp only [Act.put, List.setIfInBounds_toArray, List.set_cons_zero, List.set_cons_succ, i64_w, i32_w]
                  rfl
                refine pure_ (i := 7) (N := some 92) (v := ?_) (a' := ?_) #[true, true, true, true, true, true, true, true, false, false, false, false, false, false, false, false] rfl rfl (by kernel_rfl) (fun _ _ _ h => h) (Or.inl ⟨by rfl, ?_⟩) ?_ ?_
                rotate_left
                · intro w'
                  go_simp
                  with_reducible rfl
                rotate_left
                · simp only [Act.put, List.setIfInBounds_toArray, List.set_cons_zero, List.set_cons_succ, i64_w, i32_w]
                  rfl
                refine pure_ (i := 8) (N := some 93) (v := ?_) (a' := ?_) #[true, true, true, true, true, true, true, true, true, false, false, false, false, false, false, false] rfl rfl (by kernel_rfl) (fun _ _ _ h => h) (Or.inl ⟨by rfl, ?_⟩) ?_ ?_
                rotate_left
                · intro w'
                  go_simp
                  with_reducible rfl
                rotate_left
                · simp only [Act.put, List.setIfInBounds_toArray, List.set_cons_zero, List.set_cons_succ, i64_w, i32_w]
                  rfl
                refine pure_ (i := 9) (N := some 94) (v := ?_) (a' := ?_) #[true, true, true, true, true, true, true, true, true, true, false, false, false, false, false, false] rfl rfl (by kernel_rfl) (fun _ _ _ h => h) (Or.inl ⟨by rfl, ?_⟩) ?_ ?_
                rotate_left
                · intro w'
                  go_simp
                  with_reducible rfl
                rotate_left
                · simp only [Act.put, List.setIfInBounds_toArray, List.set_cons_zero, List.set_cons_succ, i64_w, i32_w]
                  rfl
                refine pure_ (i := 10) (N := some 95) (v := ?_) (a' := ?_) #[true, true, true, true, true, true, true, true, true, true, true, false, false, false, false, false] rfl rfl (by kernel_rfl) (fun _ _ _ h => h) (Or.inl ⟨by rfl, ?_⟩) ?_ ?_
                rotate_left
                · intro w'
                  go_simp
                  with_reducible rfl
                rotate_left
                · simp only [Act.put, List.setIfInBounds_toArray, List.set_cons_zero, List.set_cons_succ, i64_w, i32_w]
                  rfl
                refine pure_ (i := 11) (N := some 96) (v := ?_) (a' := ?_) #[true, true, true, true, true, true, true, true, true, true, true, true, false, false, false, false] rfl rfl (by kernel_rfl) (fun _ _ _ h => h) (Or.inl ⟨by rfl, ?_⟩) ?_ ?_
                rotate_left
                · intro w'
                  go_simp
                  with_reducible rfl
                rotate_left
                · simp only [Act.put, List.setIfInBounds_toArray, List.set_cons_zero, List.set_cons_succ, i64_w, i32_w]
                  rfl
                refine pure_ (i := 12) (N := some 97) (v := ?_) (a' := ?_) #[true, true, true, true, true, true, true, true, true, true, true, true, true, false, false, false] rfl rfl (by kernel_rfl) (fun _ _ _ h => h) (Or.inl ⟨by rfl, ?_⟩) ?_ ?_
                rotate_left
                · intro w'
                  go_simp
                  with_reducible rfl
                rotate_left
                · simp only [Act.put, List.setIfInBounds_toArray, List.set_cons_zero, List.set_cons_succ, i64_w, i32_w]
                  rfl
                refine one_ (i := 13) (N := some 98) #[true, true, true, true, true, true, true, true, true, true, true, true, true, true, false, false] rfl rfl (by kernel_rfl) (by decide) (fun K hK => ?_)
                refine goes_ Try.func36 (by kernel_rfl) rfl #[.slice (some (ad.add (kk * 5))) 1 (cs - kk), .slice (some (bd.add (kk * 5))) 1 (co - kk)] (by rfl) rfl rfl (by (try simp only [List.map_toArray, List.map_cons, List.map_nil]); first | done | rfl) ?_
                have hsm := HSAME.out kk hlt HMM.out.symm
                have c1 := C35_at HSD.out hlt
                have c2 := C35_at HOD.out hlt
                rw [hsm] at c2
                refine (SameTwigs_eq (some (ad.add (kk * 5))) (some (bd.add (kk * 5))) (cs - kk) (co - kk) [rd_T35 s kk] _ c1 c2 (by simp)).mono ?_
                rintro e w8 ⟨rfl, hb⟩
                refine ⟨_, rfl, ?_⟩
                have HB8 := Aside0.mk (below_step HBD.out hb)
                have HS8 := Aside0.mk (Kd.C_below HSD.out hb)
                have HO8 := Aside0.mk (Kd.C_below HOD.out hb)
                clear hb c1 c2 hsm
                refine hK.out _ _ trivial (fun hHeld => ?_)
                clear hK K
                refine norm_ (a' := ?_) ?_ ?_
                rotate_left
                · show Act.put _ (some 98) _ = _
                  simp only [Act.put, List.setIfInBounds_toArray, List.set_cons_zero, List.set_cons_succ, i64_w, i32_w]
                  rfl
                refine pure_ (i := 14) (N := some 99) (v := ?_) (a' := ?_) #[true, true, true, true, true, true, true, true, true, true, true, true, true, true, true, false] rfl rfl (by kernel_rfl) (fun _ _ _ h => h) (Or.inl ⟨by rfl, ?_⟩) ?_ ?_
                rotate_left
                · intro w'
                  go_simp
                  with_reducible rfl
                rotate_left
                · simp only [Act.put, List.setIfInBounds_toArray, List.set_cons_zero, List.set_cons_succ, i64_w, i32_w]
                  rfl
                refine pure_ (i := 15) (N := some 100) (v := ?_) (a' := ?_) #[true, true, true, true, true, true, true, true, true, true, true, true, true, true, true, true] rfl rfl (by kernel_rfl) (fun _ _ _ h => h) (Or.inl ⟨by rfl, ?_⟩) ?_ ?_
                rotate_left
                · intro w'
                  go_simp
                  with_reducible rfl
                rotate_left
                · simp only [Act.put, List.setIfInBounds_toArray, List.set_cons_zero, List.set_cons_succ, i64_w, i32_w]
                  rfl
                refine done_ (by kernel_rfl) ?_
                clear hwr q1 q2 q3 q4 q5
                go_wp2
                go_roundg (s.length - (kk + 1))
                case measure => have := HKQ.out; omega
                case rel => exact ⟨kk + 1, HWR.out, ⟨by omega⟩, HB8, HS8, HO8⟩
            · have g2 : decide (j = kk) = false := decide_eq_false hjk
              have g3 : ((j : Int) == (kk : Int)) = false := beq_false_of_ne (by omega)
              have g4 : ((j : Int) != (kk : Int)) = true := bne_iff_ne.2 (by omega)
              have g5 : decide ((0 : Int) < (j : Int)) = true := decide_eq_true (by omega)
              obtain ⟨u, hu, hult⟩ := HU.out j h0 HJ.out
              obtain ⟨ad', Aj, cj, hA, z0, _, _, z3, _, _, _⟩ := at_T35 HSX.out (j : Int) (by omega) (by have := HJ.out; omega)
              cases hA
              simp only [Int.toNat_natCast] at z0 z3
              rw [hu] at z0
              have HST := Aside0.mk (freeB_step HU.out kk HJ.out h0 hu hult hjk)
              have HJL := HJ.out
              clear h0 hjk hu
              cases m with
              | true =>
                cases hp : (rd_T35 s j).f2.f1 with
                | true =>
                  rw [hp] at z3
                  go_wp2
                  go_roundg (u + 1)
                  case measure => have := HKJ.out; omega
                  case rel => exact ⟨false, u, rfl, rfl, rfl, ⟨by omega⟩, ⟨by omega⟩, ⟨by rw [← HM.out, HST.out, hp]; simp⟩⟩
                | false =>
                  rw [hp] at z3
                  go_wp2
                  go_roundg (u + 1)
                  case measure => have := HKJ.out; omega
                  case rel => exact ⟨true, u, rfl, rfl, rfl, ⟨by omega⟩, ⟨by omega⟩, ⟨by rw [← HM.out, HST.out, hp]; simp⟩⟩
              | false =>
                go_wp2
                go_roundg (u + 1)
                case measure => have := HKJ.out; omega
                case rel => exact ⟨false, u, rfl, rfl, rfl, ⟨by omega⟩, ⟨by omega⟩, ⟨by rw [← HM.out]; simp⟩⟩
          · have g1 : decide (0 < j) = false := decide_eq_false h0
            have HMM := Aside0.mk (show m = mayB s kk kk by have := HM.out; rwa [freeB_end (by omega), Bool.and_true] at this)
            clear h0
            cases m with
            | true =>
              go_upto_region 19 with (fail)
              refine start_ (n := 16) (S := fun w' => True) (ds := []) #[false, false, false, false, false, false, false, false, false, false, false, false, false, false, false, false] (by kernel_rfl) rfl rfl trivial (fun hHeld => ?_)
              refine pure_ (i := 0) (N := some 85) (v := ?_) (a' := ?_) #[true, false, false, false, false, false, false, false, false, false, false, false, false, false, false, false] rfl rfl (by kernel_rfl) (fun _ _ _ h => h) (Or.inl ⟨by rfl, ?_⟩) ?_ ?_
              rotate_left
              · intro w'
                go_simp
                with_reducible rfl
              rotate_left
              · simp only [Act.put, List.setIfInBounds_toArray, List.set_cons_zero, List.set_cons_succ, i64_w, i32_w]
                rfl
              refine pure_ (i := 1) (N := some 86) (v := ?_) (a' := ?_) #[true, true, false, false, false, false, false, false, false, false, false, false, false, false, false, false] rfl rfl (by kernel_rfl) (fun _ _ _ h => h) (Or.inl ⟨by rfl, ?_⟩) ?_ ?_
              rotate_left
              · intro w'
                go_simp
                with_reducible rfl
              rotate_left
              · simp only [Act.put, List.setIfInBounds_toArray, List.set_cons_zero, List.set_cons_succ, i64_w, i32_w]
                rfl
              refine pure_ (i := 2) (N := some 87) (v := ?_) (a' := ?_) #[true, true, true, false, false, false, false, false, false, false, false, false, false, false, false, false] rfl rfl (by kernel_rfl) (fun _ _ _ h => h) (Or.inl ⟨by rfl, ?_⟩) ?_ ?_
              rotate_left
              · intro w'
                go_simp
                with_reducible rfl
              rotate_left
              · simp only [Act.put, List.setIfInBounds_toArray, List.set_cons_zero, List.set_cons_succ, i64_w, i32_w]
                rfl
              refine pure_ (i := 3) (N := some 88) (v := undef) (a' := ?_) #[true, true, true, true, false, false, false, false, false, false, false, false, false, false, false, false] rfl rfl (by kernel_rfl) (fun _ _ _ h => h) (Or.inr ⟨by rfl, rfl⟩) ?_ ?_
              rotate_left
              · simp only [Act.put, List.setIfInBounds_toArray, List.set_cons_zero, List.set_cons_succ, i64_w, i32_w]
                rfl
              refine pure_ (i := 4) (N := some 89) (v := undef) (a' := ?_) #[true, true, true, true, true, false, false, false, false, false, false, false, false, false, false, false] rfl rfl (by kernel_rfl) (fun _ _ _ h => h) (Or.inr ⟨by rfl, rfl⟩) ?_ ?_
              rotate_left
              · simp only [Act.put, List.setIfInBounds_toArray, List.set_cons_zero, List.set_cons_succ, i64_w, i32_w]
                rfl
              refine pure_ (i := 5) (N := some 90) (v := undef) (a' := ?_) #[true, true, true, true, true, true, false, false, false, false, false, false, false, false, false, false] rfl rfl (by kernel_rfl) (fun _ _ _ h => h) (Or.inr ⟨by rfl, rfl⟩) ?_ ?_
              rotate_left
              · simp only [Act.put, List.setIfInBounds_toArray, List.set_cons_zero, List.set_cons_succ, i64_w, i32_w]
                rfl
              refine pure_ (i := 6) (N := some 91) (v := undef) (a' := ?_) #[true, true, true, true, true, true, true, false, false, false, false, false, false, false, false, false] rfl rfl (by kernel_rfl) (fun _ _ _ h => h) (Or.inr ⟨by rfl, rfl⟩) ?_ ?_
              rotate_left
              · simp only [Act.put, List.setIfInBounds_toArray, List.set_cons_zero, List.set_cons_succ, i64_w, i32_w]
                rfl
              refine pure_ (i := 7) (N := some 92) (v := undef) (a' := ?_) #[true, true, true, true, true, true, true, true, false, false, false, false, false, false, false, false] rfl rfl (by kernel_rfl) (fun _ _ _ h => h) (Or.inr ⟨by rfl, rfl⟩) ?_ ?_
              rotate_left
              · simp only [Act.put, List.setIfInBounds_toArray, List.set_cons_zero, List.set_cons_succ, i64_w, i32_w]
                rfl
              refine pure_ (i := 8) (N := some 93) (v := undef) (a' := ?_) #[true, true, true, true, true, true, true, true, true, false, false, false, false, false, false, false] rfl rfl (by kernel_rfl) (fun _ _ _ h => h) (Or.inr ⟨by rfl, rfl⟩) ?_ ?_
              rotate_left
              · simp only [Act.put, List.setIfInBounds_toArray, List.set_cons_zero, List.set_cons_succ, i64_w, i32_w]
                rfl
              refine pure_ (i := 9) (N := some 94) (v := undef) (a' := ?_) #[true, true, true, true, true, true, true, true, true, true, false, false, false, false, false, false] rfl rfl (by kernel_rfl) (fun _ _ _ h => h) (Or.inr ⟨by rfl, rfl⟩) ?_ ?_
              rotate_left
              · simp only [Act.put, List.setIfInBounds_toArray, List.set_cons_zero, List.set_cons_succ, i64_w, i32_w]
                rfl
              refine pure_ (i := 10) (N := some 95) (v := undef) (a' := ?_) #[true, true, true, true, true, true, true, true, true, true, true, false, false, false, false, false] rfl rfl (by kernel_rfl) (fun _ _ _ h => h) (Or.inr ⟨by rfl, rfl⟩) ?_ ?_
              rotate_left
              · simp only [Act.put, List.setIfInBounds_toArray, List.set_cons_zero, List.set_cons_succ, i64_w, i32_w]
                rfl
              refine pure_ (i := 11) (N := some 96) (v := undef) (a' := ?_) #[true, true, true, true, true, true, true, true, true, true, true, true, false, false, false, false] rfl rfl (by kernel_rfl) (fun _ _ _ h => h) (Or.inr ⟨by rfl, rfl⟩) ?_ ?_
              rotate_left
              · simp only [Act.put, List.setIfInBounds_toArray, List.set_cons_zero, List.set_cons_succ, i64_w, i32_w]
                rfl
              refine pure_ (i := 12) (N := some 97) (v := undef) (a' := ?_) #[true, true, true, true, true, true, true, true, true, true, true, true, true, false, false, false] rfl rfl (by kernel_rfl) (fun _ _ _ h => h) (Or.inr ⟨by rfl, rfl⟩) ?_ ?_
              rotate_left
              · simp only [Act.put, List.setIfInBounds_toArray, List.set_cons_zero, List.set_cons_succ, i64_w, i32_w]
                rfl
              refine pure_ (i := 13) (N := some 98) (v := undef) (a' := ?_) #[true, true, true, true, true, true, true, true, true, true, true, true, true, true, false, false] rfl rfl (by kernel_rfl) (fun _ _ _ h => h) (Or.inr ⟨by rfl, rfl⟩) ?_ ?_
              rotate_left
              · simp only [Act.put, List.setIfInBounds_toArray, List.set_cons_zero, List.set_cons_succ, i64_w, i32_w]
                rfl
              refine pure_ (i := 14) (N := some 99) (v := undef) (a' := ?_) #[true, true, true, true, true, true, true, true, true, true, true, true, true, true, true, false] rfl rfl (by kernel_rfl) (fun _ _ _ h => h) (Or.inr ⟨by rfl, rfl⟩) ?_ ?_
              rotate_left
              · simp only [Act.put, List.setIfInBounds_toArray, List.set_cons_zero, List.set_cons_succ, i64_w, i32_w]
                rfl
              refine pure_ (i := 15) (N := some 100) (v := ?_) (a' := ?_) #[true, true, true, true, true, true, true, true, true, true, true, true, true, true, true, true] rfl rfl (by kernel_rfl) (fun _ _ _ h => h) (Or.inl ⟨by rfl, ?_⟩) ?_ ?_
              rotate_left
              · intro w'
                go_simp
                with_reducible rfl
              rotate_left
              · simp only [Act.put, List.setIfInBounds_toArray, List.set_cons_zero, List.set_cons_succ, i64_w, i32_w]
                rfl
              refine done_ (by kernel_rfl) ?_
              go_wp2
              go_roundg (s.length - (kk + 1))
              case measure => have := HKQ.out; omega
              case rel => exact ⟨kk + 1, HWR.out, ⟨by omega⟩, ⟨below_drew1 HBX.out⟩, ⟨Kd.C_drew HSX.out⟩, ⟨Kd.C_drew HOX.out⟩⟩
            | false =>
              go_upto_region 19 with (fail)
              refine start_ (n := 16) (S := fun w' => True) (ds := []) #[false, false, false, false, false, false, false, false, false, false, false, false, false, false, false, false] (by kernel_rfl) rfl rfl trivial (fun hHeld => ?_)
              have HSD := Aside0.mk (Kd.C_drew HSX.out)
              have HOD := Aside0.mk (Kd.C_drew HOX.out)
              have HBD := Aside0.mk (below_drew1 HBX.out)
              generalize WX.drew = wd at HSD HOD HBD hHeld ⊢
              have hwr : Go.RowKit.wrap64 ((kk : Int) + 1) = (kk : Int) + 1 := by have := HMX.out; unfold Go.RowKit.wrap64; omega
              have q1 : (kk : Int) + 1 ≤ (cs : Int) := by have := HCS.out; omega
              have q2 : ¬ cs = kk := by have := HCS.out; omega
              have q3 : (kk : Int) + 1 ≤ (co : Int) := by have := HCO.out; omega
              have q4 : ¬ co = kk := by have := HCO.out; omega
              have q5 : (0 : Int) ≤ (kk : Int) + 1 := by omega
              refine pure_ (i := 0) (N := some 85) (v := ?_) (a' := ?_) #[true, false, false, false, false, false, false, false, false, false, false, false, false, false, false, false] rfl rfl (by kernel_rfl) (fun _ _ _ h => h) (Or.inl ⟨by rfl, ?_⟩) ?_ ?_
              rotate_left
              · intro w'
                go_simp
                with_reducible rfl
              rotate_left
              · simp only [Act.put, List.setIfInBounds_toArray, List.set_cons_zero, List.set_cons_succ, i64_w, i32_w]
                rfl
              refine pure_ (i := 1) (N := some 86) (v := ?_) (a' := ?_) #[true, true, false, false, false, false, false, false, false, false, false, false, false, false, false, false] rfl rfl (by kernel_rfl) (fun _ _ _ h => h) (Or.inl ⟨by rfl, ?_⟩) ?_ ?_
              rotate_left
              · intro w'
                go_simp
                with_reducible rfl
              rotate_left
              · simp only [Act.put, List.setIfInBounds_toArray, List.set_cons_zero, List.set_cons_succ, i64_w, i32_w]
                rfl
              refine pure_ (i := 2) (N := some 87) (v := ?_) (a' := ?_) #[true, true, true, false, false, false, false, false, false, false, false, false, false, false, false, false] rfl rfl (by kernel_rfl) (fun _ _ _ h => h) (Or.inl ⟨by rfl, ?_⟩) ?_ ?_
              rotate_left
              · intro w'
                go_simp
                with_reducible rfl
              rotate_left
              · simp only [Act.put, List.setIfInBounds_toArray, List.set_cons_zero, List.set_cons_succ, i64_w, i32_w]
                rfl
              refine pure_ (i := 3) (N := some 88) (v := ?_) (a' := ?_) #[true, true, true, true, false, false, false, false, false, false, false, false, false, false, false, false] rfl rfl (by kernel_rfl) (fun _ _ _ h => h) (Or.inl ⟨by rfl, ?_⟩) ?_ ?_
              rotate_left
              · intro w'
                go_simp
                with_reducible rfl
              rotate_left
              · simp only [Act.put, List.setIfInBounds_toArray, List.set_cons_zero, List.set_cons_succ, i64_w, i32_w]
                rfl
              refine pure_ (i := 4) (N := some 89) (v := ?_) (a' := ?_) #[true, true, true, true, true, false, false, false, false, false, false, false, false, false, false, false] rfl rfl (by kernel_rfl) (fun _ _ _ h => h) (Or.inl ⟨by rfl, ?_⟩) ?_ ?_
              rotate_left
              · intro w'
                go_simp
                with_reducible rfl
              rotate_left
              · simp only [Act.put, List.setIfInBounds_toArray, List.set_cons_zero, List.set_cons_succ, i64_w, i32_w]
                rfl
              refine pure_ (i := 5) (N := some 90) (v := ?_) (a' := ?_) #[true, true, true, true, true, true, false, false, false, false, false, false, false, false, false, false] rfl rfl (by kernel_rfl) (fun _ _ _ h => h) (Or.inl ⟨by rfl, ?_⟩) ?_ ?_
              rotate_left
              · intro w'
                go_simp
                with_reducible rfl
              rotate_left
              · simp only [Act.put, List.setIfInBounds_toArray, List.set_cons_zero, List.set_cons_succ, i64_w, i32_w]
                rfl
              refine pure_ (i := 6) (N := some 91) (v := ?_) (a' := ?_) #[true, true, true, true, true, true, true, false, false, false, false, false, false, false, false, false] rfl rfl (by kernel_rfl) (fun _ _ _ h => h) (Or.inl ⟨by rfl, ?_⟩) ?_ ?_
              rotate_left
              · intro w'
                go_simp
                with_reducible rfl
              rotate_left
              · simp only [Act.put, List.setIfInBounds_toArray, List.set_cons_zero, List.set_cons_succ, i64_w, i32_w]
                rfl
              refine pure_ (i := 7) (N := some 92) (v := ?_) (a' := ?_) #[true, true, true, true, true, true, true, true, false, false, false, false, false, false, false, false] rfl rfl (by kernel_rfl) (fun _ _ _ h => h) (Or.inl ⟨by rfl, ?_⟩) ?_ ?_
              rotate_left
              · intro w'
                go_simp
                with_reducible rfl
              rotate_left
              · simp only [Act.put, List.setIfInBounds_toArray, List.set_cons_zero, List.set_cons_succ, i64_w, i32_w]
                rfl
              refine pure_ (i := 8) (N := some 93) (v := ?_) (a' := ?_) #[true, true, true, true, true, true, true, true, true, false, false, false, false, false, false, false] rfl rfl (by kernel_rfl) (fun _ _ _ h => h) (Or.inl ⟨by rfl, ?_⟩) ?_ ?_
              rotate_left
              · intro w'
                go_simp
                with_reducible rfl
              rotate_left
              · simp only [Act.put, List.setIfInBounds_toArray, List.set_cons_zero, List.set_cons_succ, i64_w, i32_w]
                rfl
              refine pure_ (i := 9) (N := some 94) (v := ?_) (a' := ?_) #[true, true, true, true, true, true, true, true, true, true, false, false, false, false, false, false] rfl rfl (by kernel_rfl) (fun _ _ _ h => h) (Or.inl ⟨by rfl, ?_⟩) ?_ ?_
              rotate_left
              · intro w'
                go_simp
                with_reducible rfl
              rotate_left
              · simp only [Act.put, List.setIfInBounds_toArray, List.set_cons_zero, List.set_cons_succ, i64_w, i32_w]
                rfl
              refine pure_ (i := 10) (N := some 95) (v := ?_) (a' := ?_) #[true, true, true, true, true, true, true, true, true, true, true, false, false, false, false, false] rfl rfl (by kernel_rfl) (fun _ _ _ h => h) (Or.inl ⟨by rfl, ?_⟩) ?_ ?_
              rotate_left
              · intro w'
                go_simp
                with_reducible rfl
              rotate_left
              · simp only [Act.put, List.setIfInBounds_toArray, List.set_cons_zero, List.set_cons_succ, i64_w, i32_w]
                rfl
              refine pure_ (i := 11) (N := some 96) (v := ?_) (a' := ?_) #[true, true, true, true, true, true, true, true, true, true, true, true, false, false, false, false] rfl rfl (by kernel_rfl) (fun _ _ _ h => h) (Or.inl ⟨by rfl, ?_⟩) ?_ ?_
              rotate_left
              · intro w'
                go_simp
                with_reducible rfl
              rotate_left
              · simp only [Act.put, List.setIfInBounds_toArray, List.set_cons_zero, List.set_cons_succ, i64_w, i32_w]
                rfl
              refine pure_ (i := 12) (N := some 97) (v := ?_) (a' := ?_) #[true, true, true, true, true, true, true, true, true, true, true, true, true, false, false, false] rfl rfl (by kernel_rfl) (fun _ _ _ h => h) (Or.inl ⟨by rfl, ?_⟩) ?_ ?_
              rotate_left
              · intro w'
                go_simp
                with_reducible rfl
              rotate_left
              · simp only [Act.put, List.setIfInBounds_toArray, List.set_cons_zero, List.set_cons_succ, i64_w, i32_w]
                rfl
              refine one_ (i := 13) (N := some 98) #[true, true, true, true, true, true, true, true, true, true, true, true, true, true, false, false] rfl rfl (by kernel_rfl) (by decide) (fun K hK => ?_)
              refine goes_ Try.func36 (by kernel_rfl) rfl #[.slice (some (ad.add (kk * 5))) 1 (cs - kk), .slice (some (bd.add (kk * 5))) 1 (co - kk)] (by rfl) rfl rfl (by (try simp only [List.map_toArray, List.map_cons, List.map_nil]); first | done | rfl) ?_
              have hsm := HSAME.out kk hlt HMM.out.symm
              have c1 := C35_at HSD.out hlt
              have c2 := C35_at HOD.out hlt
              rw [hsm] at c2
              refine (SameTwigs_eq (some (ad.add (kk * 5))) (some (bd.add (kk * 5))) (cs - kk) (co - kk) [rd_T35 s kk] _ c1 c2 (by simp)).mono ?_
              rintro e w8 ⟨rfl, hb⟩
              refine ⟨_, rfl, ?_⟩
              have HB8 := Aside0.mk (below_step HBD.out hb)
              have HS8 := Aside0.mk (Kd.C_below HSD.out hb)
              have HO8 := Aside0.mk (Kd.C_below HOD.out hb)
              clear hb c1 c2 hsm
              refine hK.out _ _ trivial (fun hHeld => ?_)
              clear hK K
              refine norm_ (a' := ?_) ?_ ?_
              rotate_left
              · show Act.put _ (some 98) _ = _
                simp only [Act.put, List.setIfInBounds_toArray, List.set_cons_zero, List.set_cons_succ, i64_w, i32_w]
                rfl
              refine pure_ (i := 14) (N := some 99) (v := ?_) (a' := ?_) #[true, true, true, true, true, true, true, true, true, true, true, true, true, true, true, false] rfl rfl (by kernel_rfl) (fun _ _ _ h => h) (Or.inl ⟨by rfl, ?_⟩) ?_ ?_
              rotate_left
              · intro w'
                go_simp
                with_reducible rfl
              rotate_left
              · simp only [Act.put, List.setIfInBounds_toArray, List.set_cons_zero, List.set_cons_succ, i64_w, i32_w]
                rfl
              refine pure_ (i := 15) (N := some 100) (v := ?_) (a' := ?_) #[true, true, true, true, true, true, true, true, true, true, true, true, true, true, true, true] rfl rfl (by kernel_rfl) (fun _ _ _ h => h) (Or.inl ⟨by rfl, ?_⟩) ?_ ?_
              rotate_left
              · intro w'
                go_simp
                with_reducible rfl
              rotate_left
              · simp only [Act.put, List.setIfInBounds_toArray, List.set_cons_zero, List.set_cons_succ, i64_w, i32_w]
                rfl
              refine done_ (by kernel_rfl) ?_
              clear hwr q1 q2 q3 q4 q5
              go_wp2
              go_roundg (s.length - (kk + 1))
              case measure => have := HKQ.out; omega
              case rel => exact ⟨kk + 1, HWR.out, ⟨by omega⟩, HB8, HS8, HO8⟩

      · have h2 : decide (i = kk) = false := decide_eq_false hik
        have h3 : ((i : Int) == (kk : Int)) = false := beq_false_of_ne (by omega)
        go_upto_region 16 with (go_at_call 38; refine (archivoltref23_Below.calls (i + 1) As cs s (i : Int) (kk : Int) _ wr HSR.out HCS.out (below_l HU.out kk (i + 1) i (by omega) hlt)).mono ?_; rintro e WX ⟨rfl, hb⟩; rw [below_dn HU.out kk hlt hik]; have HBX := Aside0.mk (below_step HBR.out hb.below); have HSX := Aside0.mk (Kd.C_below HSR.out hb.below); have HOX := Aside0.mk (Kd.C_below HOR.out hb.below); clear hb)
        obtain ⟨ad, Ai0, ci0, rfl, _⟩ := at_T35 HSX.out (i : Int) (by omega) (by omega)
        obtain ⟨bd, Bi0, di0, rfl, _⟩ := at_T35 HOX.out (i : Int) (by omega) (by omega)
        have HMAY := Aside0.mk (show (dnB s kk i && freeB s kk i) = mayB s kk i from rfl)
        go_loopg [12, 13] (i + 1) (fun kq v12 v13 w' => ∃ (m : Bool) (j : Nat), v12 = .bool m ∧ v13 = .int .i64 (j : Int) ∧ WX = w' ∧ Aside0 (j < kq) ∧ Aside0 (j < s.length) ∧ Aside0 ((m && freeB s kk j) = mayB s kk i))
        case atStart => exact ⟨_, i, rfl, rfl, rfl, ⟨by omega⟩, ⟨hlt⟩, HMAY⟩
        case round =>
          obtain ⟨m, j, rfl, rfl, rfl, HKJ, HJ, HM⟩ := hrel
          by_cases h0 : 0 < j
          · have g1 : decide (0 < j) = true := decide_eq_true h0
            by_cases hjk : j = kk
            · obtain rfl : kk = j := hjk.symm
              have HMM := Aside0.mk (show m = mayB s kk i by have := HM.out; rwa [freeB_end (by omega), Bool.and_true] at this)
              clear h0
              cases m with
              | true =>
                go_upto_region 19 with (fail)
                refine start_ (n := 16) (S := fun w' => True) (ds := []) #[false, false, false, false, false, false, false, false, false, false, false, false, false, false, false, false] (by kernel_rfl) rfl rfl trivial (fun hHeld => ?_)
                refine pure_ (i := 0) (N := some 85) (v := ?_) (a' := ?_) #[true, false, false, false, false, false, false, false, false, false, false, false, false, false, false, false] rfl rfl (by kernel_rfl) (fun _ _ _ h => h) (Or.inl ⟨by rfl, ?_⟩) ?_ ?_
                rotate_left
                · intro w'
                  go_simp
                  with_reducible rfl
                rotate_left
                · simp only [Act.put, List.setIfInBounds_toArray, List.set_cons_zero, List.set_cons_succ, i64_w, i32_w]
                  rfl
                refine pure_ (i := 1) (N := some 86) (v := ?_) (a' := ?_) #[true, true, false, false, false, false, false, false, false, false, false, false, false, false, false, false] rfl rfl (by kernel_rfl) (fun _ _ _ h => h) (Or.inl ⟨by rfl, ?_⟩) ?_ ?_
                rotate_left
                · intro w'
                  go_simp
                  with_reducible rfl
                rotate_left
                · simp only [Act.put, List.setIfInBounds_toArray, List.set_cons_zero, List.set_cons_succ, i64_w, i32_w]
                  rfl
                refine pure_ (i := 2) (N := some 87) (v := ?_) (a' := ?_) #[true, true, true, false, false, false, false, false, false, false, false, false, false, false, false, false] rfl rfl (by kernel_rfl) (fun _ _ _ h => h) (Or.inl ⟨by rfl, ?_⟩) ?_ ?_
                rotate_left
                · intro w'
                  go_simp
                  with_reducible rfl
                rotate_left
                · simp only [Act.put, List.setIfInBounds_toArray, List.set_cons_zero, List.set_cons_succ, i64_w, i32_w]
                  rfl
                refine pure_ (i := 3) (N := some 88) (v := undef) (a' := ?_) #[true, true, true, true, false, false, false, false, false, false, false, false, false, false, false, false] rfl rfl (by kernel_rfl) (fun _ _ _ h => h) (Or.inr ⟨by rfl, rfl⟩) ?_ ?_
                rotate_left
                · simp only [Act.put, List.setIfInBounds_toArray, List.set_cons_zero, List.set_cons_succ, i64_w, i32_w]
                  rfl
                refine pure_ (i := 4) (N := some 89) (v := undef) (a' := ?_) #[true, true, true, true, true, false, false, false, false, false, false, false, false, false, false, false] rfl rfl (by kernel_rfl) (fun _ _ _ h => h) (Or.inr ⟨by rfl, rfl⟩) ?_ ?_
                rotate_left
                · simp only [Act.put, List.setIfInBounds_toArray, List.set_cons_zero, List.set_cons_succ, i64_w, i32_w]
                  rfl
                refine pure_ (i := 5) (N := some 90) (v := undef) (a' := ?_) #[true, true, true, true, true, true, false, false, false, false, false, false, false, false, false, false] rfl rfl (by kernel_rfl) (fun _ _ _ h => h) (Or.inr ⟨by rfl, rfl⟩) ?_ ?_
                rotate_left
                · simp only [Act.put, List.setIfInBounds_toArray, List.set_cons_zero, List.set_cons_succ, i64_w, i32_w]
                  rfl
                refine pure_ (i := 6) (N := some 91) (v := undef) (a' := ?_) #[true, true, true, true, true, true, true, false, false, false, false, false, false, false, false, false] rfl rfl (by kernel_rfl) (fun _ _ _ h => h) (Or.inr ⟨by rfl, rfl⟩) ?_ ?_
                rotate_left
                · simp only [Act.put, List.setIfInBounds_toArray, List.set_cons_zero, List.set_cons_succ, i64_w, i32_w]
                  rfl
                refine pure_ (i := 7) (N := some 92) (v := undef) (a' := ?_) #[true, true, true, true, true, true, true, true, false, false, false, false, false, false, false, false] rfl rfl (by kernel_rfl) (fun _ _ _ h => h) (Or.inr ⟨by rfl, rfl⟩) ?_ ?_
                rotate_left
                · simp only [Act.put, List.setIfInBounds_toArray, List.set_cons_zero, List.set_cons_succ, i64_w, i32_w]
                  rfl
                refine pure_ (i := 8) (N := some 93) (v := undef) (a' := ?_) #[true, true, true, true, true, true, true, true, true, false, false, false, false, false, false, false] rfl rfl (by kernel_rfl) (fun _ _ _ h => h) (Or.inr ⟨by rfl, rfl⟩) ?_ ?_
                rotate_left
                · simp only [Act.put, List.setIfInBounds_toArray, List.set_cons_zero, List.set_cons_succ, i64_w, i32_w]
                  rfl
                refine pure_ (i := 9) (N := some 94) (v := undef) (a' := ?_) #[true, true, true, true, true, true, true, true, true, true, false, false, false, false, false, false] rfl rfl (by kernel_rfl) (fun _ _ _ h => h) (Or.inr ⟨by rfl, rfl⟩) ?_ ?_
                rotate_left
                · simp only [Act.put, List.setIfInBounds_toArray, List.set_cons_zero, List.set_cons_succ, i64_w, i32_w]
                  rfl
                refine pure_ (i := 10) (N := some 95) (v := undef) (a' := ?_) #[true, true, true, true, true, true, true, true, true, true, true, false, false, false, false, false] rfl rfl (by kernel_rfl) (fun _ _ _ h => h) (Or.inr ⟨by rfl, rfl⟩) ?_ ?_
                rotate_left
                · simp only [Act.put, List.setIfInBounds_toArray, List.set_cons_zero, List.set_cons_succ, i64_w, i32_w]
                  rfl
                refine pure_ (i := 11) (N := some 96) (v := undef) (a' := ?_) #[true, true, true, true, true, true, true, true, true, true, true, true, false, false, false, false] rfl rfl (by kernel_rfl) (fun _ _ _ h => h) (Or.inr ⟨by rfl, rfl⟩) ?_ ?_
                rotate_left
                · simp only [Act.put, List.setIfInBounds_toArray, List.set_cons_zero, List.set_cons_succ, i64_w, i32_w]
                  rfl
                refine pure_ (i := 12) (N := some 97) (v := undef) (a' := ?_) #[true, true, true, true, true, true, true, true, true, true, true, true, true, false, false, false] rfl rfl (by kernel_rfl) (fun _ _ _ h => h) (Or.inr ⟨by rfl, rfl⟩) ?_ ?_
                rotate_left
                · simp only [Act.put, List.setIfInBounds_toArray, List.set_cons_zero, List.set_cons_succ, i64_w, i32_w]
                  rfl
                refine pure_ (i := 13) (N := some 98) (v := undef) (a' := ?_) #[true, true, true, true, true, true, true, true, true, true, true, true, true, true, false, false] rfl rfl (by kernel_rfl) (fun _ _ _ h => h) (Or.inr ⟨by rfl, rfl⟩) ?_ ?_
                rotate_left
                · simp only [Act.put, List.setIfInBounds_toArray, List.set_cons_zero, List.set_cons_succ, i64_w, i32_w]
                  rfl
                refine pure_ (i := 14) (N := some 99) (v := undef) (a' := ?_) #[true, true, true, true, true, true, true, true, true, true, true, true, true, true, true, false] rfl rfl (by kernel_rfl) (fun _ _ _ h => h) (Or.inr ⟨by rfl, rfl⟩) ?_ ?_
                rotate_left
                · simp only [Act.put, List.setIfInBounds_toArray, List.set_cons_zero, List.set_cons_succ, i64_w, i32_w]
                  rfl
                refine pure_ (i := 15) (N := some 100) (v := ?_) (a' := ?_) #[true, true, true, true, true, true, true, true, true, true, true, true, true, true, true, true] rfl rfl (by kernel_rfl) (fun _ _ _ h => h) (Or.inl ⟨by rfl, ?_⟩) ?_ ?_
                rotate_left
                · intro w'
                  go_simp
                  with_reducible rfl
                rotate_left
                · simp only [Act.put, List.setIfInBounds_toArray, List.set_cons_zero, List.set_cons_succ, i64_w, i32_w]
                  rfl
                refine done_ (by kernel_rfl) ?_
                go_wp2
                go_roundg (s.length - (i + 1))
                case measure => have := HKQ.out; omega
                case rel => exact ⟨i + 1, HWR.out, ⟨by omega⟩, ⟨below_drew1 HBX.out⟩, ⟨Kd.C_drew HSX.out⟩, ⟨Kd.C_drew HOX.out⟩⟩
              | false =>
                go_upto_region 19 with (fail)
                refine start_ (n := 16) (S := fun w' => True) (ds := []) #[false, false, false, false, false, false, false, false, false, false, false, false, false, false, false, false] (by kernel_rfl) rfl rfl trivial (fun hHeld => ?_)
                have HSD := Aside0.mk (Kd.C_drew HSX.out)
                have HOD := Aside0.mk (Kd.C_drew HOX.out)
                have HBD := Aside0.mk (below_drew1 HBX.out)
                generalize WX.drew = wd at HSD HOD HBD hHeld ⊢
                have hwr : Go.RowKit.wrap64 ((i : Int) + 1) = (i : Int) + 1 := by have := HMX.out; unfold Go.RowKit.wrap64; omega
                have q1 : (i : Int) + 1 ≤ (cs : Int) := by have := HCS.out; omega
                have q2 : ¬ cs = i := by have := HCS.out; omega
                have q3 : (i : Int) + 1 ≤ (co : Int) := by have := HCO.out; omega
                have q4 : ¬ co = i := by have := HCO.out; omega
                have q5 : (0 : Int) ≤ (i : Int) + 1 := by omega
                refine pure_ (i := 0) (N := some 85) (v := ?_) (a' := ?_) #[true, false, false, false, false, false, false, false, false, false, false, false, false, false, false, false] rfl rfl (by kernel_rfl) (fun _ _ _ h => h) (Or.inl ⟨by rfl, ?_⟩) ?_ ?_
                rotate_left
                · intro w'
                  go_simp
                  with_reducible rfl
                rotate_left
                · simp only [Act.put, List.setIfInBounds_toArray, List.set_cons_zero, List.set_cons_succ, i64_w, i32_w]
                  rfl
                refine pure_ (i := 1) (N := some 86) (v := ?_) (a' := ?_) #[true, true, false, false, false, false, false, false, false, false, false, false, false, false, false, false] rfl rfl (by kernel_rfl) (fun _ _ _ h => h) (Or.inl ⟨by rfl, ?_⟩) ?_ ?_
                rotate_left
                · intro w'
                  go_simp
                  with_reducible rfl
                rotate_left
                · simp only [Act.put, List.setIfInBounds_toArray, List.set_cons_zero, List.set_cons_succ, i64_w, i32_w]
                  rfl
                refine pure_ (i := 2) (N := some 87) (v := ?_) (a' := ?_) #[true, true, true, false, false, false, false, false, false, false, false, false, false, false, false, false] rfl rfl (by kernel_rfl) (fun _ _ _ h => h) (Or.inl ⟨by rfl, ?_⟩) ?_ ?_
                rotate_left
                · intro w'
                  go_simp
                  with_reducible rfl
                rotate_left
                · simp only [Act.put, List.setIfInBounds_toArray, List.set_cons_zero, List.set_cons_succ, i64_w, i32_w]
                  rfl
                refine pure_ (i := 3) (N := some 88) (v := ?_) (a' := ?_) #[true, true, true, true, false, false, false, false, false, false, false, false, false, false, false, false] rfl rfl (by kernel_rfl) (fun _ _ _ h => h) (Or.inl ⟨by rfl, ?_⟩) ?_ ?_
                rotate_left
                · intro w'
                  go_simp
                  with_reducible rfl
                rotate_left
                · simp only [Act.put, List.setIfInBounds_toArray, List.set_cons_zero, List.set_cons_succ, i64_w, i32_w]
                  rfl
                refine pure_ (i := 4) (N := some 89) (v := ?_) (a' := ?_) #[true, true, true, true, true, false, false, false, false, false, false, false, false, false, false, false] rfl rfl (by kernel_rfl) (fun _ _ _ h => h) (Or.inl ⟨by rfl, ?_⟩) ?_ ?_
                rotate_left
                · intro w'
                  go_simp
                  with_reducible rfl
                rotate_left
                · simp only [Act.put, List.setIfInBounds_toArray, List.set_cons_zero, List.set_cons_succ, i64_w, i32_w]
                  rfl
                refine pure_ (i := 5) (N := some 90) (v := ?_) (a' := ?_) #[true, true, true, true, true, true, false, false, false, false, false, false, false, false, false, false] rfl rfl (by kernel_rfl) (fun _ _ _ h => h) (Or.inl ⟨by rfl, ?_⟩) ?_ ?_
                rotate_left
                · intro w'
                  go_simp
                  with_reducible rfl
                rotate_left
                · simp only [Act.put, List.setIfInBounds_toArray, List.set_cons_zero, List.set_cons_succ, i64_w, i32_w]
                  rfl
                refine pure_ (i := 6) (N := some 91) (v := ?_) (a' := ?_) #[true, true, true, true, true, true, true, false, false, false, false, false, false, false, false, false] rfl rfl (by kernel_rfl) (fun _ _ _ h => h) (Or.inl ⟨by rfl, ?_⟩) ?_ ?_
                rotate_left
                · intro w'
                  go_simp
                  with_reducible rfl
                rotate_left
                · simp only [Act.put, List.setIfInBounds_toArray, List.set_cons_zero, List.set_cons_succ, i64_w, i32_w]
                  rfl
                refine pure_ (i := 7) (N := some 92) (v := ?_) (a' := ?_) #[true, true, true, true, true, true, true, true, false, false, false, false, false, false, false, false] rfl rfl (by kernel_rfl) (fun _ _ _ h => h) (Or.inl ⟨by rfl, ?_⟩) ?_ ?_
                rotate_left
                · intro w'
                  go_simp
                  with_reducible rfl
                rotate_left
                · simp only [Act.put, List.setIfInBounds_toArray, List.set_cons_zero, List.set_cons_succ, i64_w, i32_w]
                  rfl
                refine pure_ (i := 8) (N := some 93) (v := ?_) (a' := ?_) #[true, true, true, true, true, true, true, true, true, false, false, false, false, false, false, false] rfl rfl (by kernel_rfl) (fun _ _ _ h => h) (Or.inl ⟨by rfl, ?_⟩) ?_ ?_
                rotate_left
                · intro w'
                  go_simp
                  with_reducible rfl
                rotate_left
                · simp only [Act.put, List.setIfInBounds_toArray, List.set_cons_zero, List.set_cons_succ, i64_w, i32_w]
                  rfl
                refine pure_ (i := 9) (N := some 94) (v := ?_) (a' := ?_) #[true, true, true, true, true, true, true, true, true, true, false, false, false, false, false, false] rfl rfl (by kernel_rfl) (fun _ _ _ h => h) (Or.inl ⟨by rfl, ?_⟩) ?_ ?_
                rotate_left
                · intro w'
                  go_simp
                  with_reducible rfl
                rotate_left
                · simp only [Act.put, List.setIfInBounds_toArray, List.set_cons_zero, List.set_cons_succ, i64_w, i32_w]
                  rfl
                refine pure_ (i := 10) (N := some 95) (v := ?_) (a' := ?_) #[true, true, true, true, true, true, true, true, true, true, true, false, false, false, false, false] rfl rfl (by kernel_rfl) (fun _ _ _ h => h) (Or.inl ⟨by rfl, ?_⟩) ?_ ?_
                rotate_left
                · intro w'
                  go_simp
                  with_reducible rfl
                rotate_left
                · simp only [Act.put, List.setIfInBounds_toArray, List.set_cons_zero, List.set_cons_succ, i64_w, i32_w]
                  rfl
                refine pure_ (i := 11) (N := some 96) (v := ?_) (a' := ?_) #[true, true, true, true, true, true, true, true, true, true, true, true, false, false, false, false] rfl rfl (by kernel_rfl) (fun _ _ _ h => h) (Or.inl ⟨by rfl, ?_⟩) ?_ ?_
                rotate_left
                · intro w'
                  go_simp
                  with_reducible rfl
                rotate_left
                · simp only [Act.put, List.setIfInBounds_toArray, List.set_cons_zero, List.set_cons_succ, i64_w, i32_w]
                  rfl
                refine pure_ (i := 12) (N := some 97) (v := ?_) (a' := ?_) #[true, true, true, true, true, true, true, true, true, true, true, true, true, false, false, false] rfl rfl (by kernel_rfl) (fun _ _ _ h => h) (Or.inl ⟨by rfl, ?_⟩) ?_ ?_
                rotate_left
                · intro w'
                  go_simp
                  with_reducible rfl
                rotate_left
                · simp only [Act.put, List.setIfInBounds_toArray, List.set_cons_zero, List.set_cons_succ, i64_w, i32_w]
                  rfl
                refine one_ (i := 13) (N := some 98) #[true, true, true, true, true, true, true, true, true, true, true, true, true, true, false, false] rfl rfl (by kernel_rfl) (by decide) (fun K hK => ?_)
                refine goes_ Try.func36 (by kernel_rfl) rfl #[.slice (some (ad.add (i * 5))) 1 (cs - i), .slice (some (bd.add (i * 5))) 1 (co - i)] (by rfl) rfl rfl (by (try simp only [List.map_toArray, List.map_cons, List.map_nil]); first | done | rfl) ?_
                have hsm := HSAME.out i hlt HMM.out.symm
                have c1 := C35_at HSD.out hlt
                have c2 := C35_at HOD.out hlt
                rw [hsm] at c2
                refine (SameTwigs_eq (some (ad.add (i * 5))) (some (bd.add (i * 5))) (cs - i) (co - i) [rd_T35 s i] _ c1 c2 (by simp)).mono ?_
                rintro e w8 ⟨rfl, hb⟩
                refine ⟨_, rfl, ?_⟩
                have HB8 := Aside0.mk (below_step HBD.out hb)
                have HS8 := Aside0.mk (Kd.C_below HSD.out hb)
                have HO8 := Aside0.mk (Kd.C_below HOD.out hb)
                clear hb c1 c2 hsm
                refine hK.out _ _ trivial (fun hHeld => ?_)
                clear hK K
                refine norm_ (a' := ?_) ?_ ?_
                rotate_left
                · show Act.put _ (some 98) _ = _
                  simp only [Act.put, List.setIfInBounds_toArray, List.set_cons_zero, List.set_cons_succ, i64_w, i32_w]
                  rfl
                refine pure_ (i := 14) (N := some 99) (v := ?_) (a' := ?_) #[true, true, true, true, true, true, true, true, true, true, true, true, true, true, true, false] rfl rfl (by kernel_rfl) (fun _ _ _ h => h) (Or.inl ⟨by rfl, ?_⟩) ?_ ?_
                rotate_left
                · intro w'
                  go_simp
                  with_reducible rfl
                rotate_left
                · simp only [Act.put, List.setIfInBounds_toArray, List.set_cons_zero, List.set_cons_succ, i64_w, i32_w]
                  rfl
                refine pure_ (i := 15) (N := some 100) (v := ?_) (a' := ?_) #[true, true, true, true, true, true, true, true, true, true, true, true, true, true, true, true] rfl rfl (by kernel_rfl) (fun _ _ _ h => h) (Or.inl ⟨by rfl, ?_⟩) ?_ ?_
                rotate_left
                · intro w'
                  go_simp
                  with_reducible rfl
                rotate_left
                · simp only [Act.put, List.setIfInBounds_toArray, List.set_cons_zero, List.set_cons_succ, i64_w, i32_w]
                  rfl
                refine done_ (by kernel_rfl) ?_
                clear hwr q1 q2 q3 q4 q5
                go_wp2
                go_roundg (s.length - (i + 1))
                case measure => have := HKQ.out; omega
                case rel => exact ⟨i + 1, HWR.out, ⟨by omega⟩, HB8, HS8, HO8⟩
            · have g2 : decide (j = kk) = false := decide_eq_false hjk
              have g3 : ((j : Int) == (kk : Int)) = false := beq_false_of_ne (by omega)
              have g4 : ((j : Int) != (kk : Int)) = true := bne_iff_ne.2 (by omega)
              have g5 : decide ((0 : Int) < (j : Int)) = true := decide_eq_true (by omega)
              obtain ⟨u, hu, hult⟩ := HU.out j h0 HJ.out
              obtain ⟨ad', Aj, cj, hA, z0, _, _, z3, _, _, _⟩ := at_T35 HSX.out (j : Int) (by omega) (by have := HJ.out; omega)
              cases hA
              simp only [Int.toNat_natCast] at z0 z3
              rw [hu] at z0
              have HST := Aside0.mk (freeB_step HU.out kk HJ.out h0 hu hult hjk)
              have HJL := HJ.out
              clear h0 hjk hu
              cases m with
              | true =>
                cases hp : (rd_T35 s j).f2.f1 with
                | true =>
                  rw [hp] at z3
                  go_wp2
                  go_roundg (u + 1)
                  case measure => have := HKJ.out; omega
                  case rel => exact ⟨false, u, rfl, rfl, rfl, ⟨by omega⟩, ⟨by omega⟩, ⟨by rw [← HM.out, HST.out, hp]; simp⟩⟩
                | false =>
                  rw [hp] at z3
                  go_wp2
                  go_roundg (u + 1)
                  case measure => have := HKJ.out; omega
                  case rel => exact ⟨true, u, rfl, rfl, rfl, ⟨by omega⟩, ⟨by omega⟩, ⟨by rw [← HM.out, HST.out, hp]; simp⟩⟩
              | false =>
                go_wp2
                go_roundg (u + 1)
                case measure => have := HKJ.out; omega
                case rel => exact ⟨false, u, rfl, rfl, rfl, ⟨by omega⟩, ⟨by omega⟩, ⟨by rw [← HM.out]; simp⟩⟩
          · have g1 : decide (0 < j) = false := decide_eq_false h0
            have HMM := Aside0.mk (show m = mayB s kk i by have := HM.out; rwa [freeB_end (by omega), Bool.and_true] at this)
            clear h0
            cases m with
            | true =>
              go_upto_region 19 with (fail)
              refine start_ (n := 16) (S := fun w' => True) (ds := []) #[false, false, false, false, false, false, false, false, false, false, false, false, false, false, false, false] (by kernel_rfl) rfl rfl trivial (fun hHeld => ?_)
              refine pure_ (i := 0) (N := some 85) (v := ?_) (a' := ?_) #[true, false, false, false, false, false, false, false, false, false, false, false, false, false, false, false] rfl rfl (by kernel_rfl) (fun _ _ _ h => h) (Or.inl ⟨by rfl, ?_⟩) ?_ ?_
              rotate_left
              · intro w'
                go_simp
                with_reducible rfl
              rotate_left
              · simp only [Act.put, List.setIfInBounds_toArray, List.set_cons_zero, List.set_cons_succ, i64_w, i32_w]
                rfl
              refine pure_ (i := 1) (N := some 86) (v := ?_) (a' := ?_) #[true, true, false, false, false, false, false, false, false, false, false, false, false, false, false, false] rfl rfl (by kernel_rfl) (fun _ _ _ h => h) (Or.inl ⟨by rfl, ?_⟩) ?_ ?_
              rotate_left
              · intro w'
                go_simp
                with_reducible rfl
              rotate_left
              · simp only [Act.put, List.setIfInBounds_toArray, List.set_cons_zero, List.set_cons_succ, i64_w, i32_w]
                rfl
              refine pure_ (i := 2) (N := some 87) (v := ?_) (a' := ?_) #[true, true, true, false, false, false, false, false, false, false, false, false, false, false, false, false] rfl rfl (by kernel_rfl) (fun _ _ _ h => h) (Or.inl ⟨by rfl, ?_⟩) ?_ ?_
              rotate_left
              · intro w'
                go_simp
                with_reducible rfl
              rotate_left
              · simp only [Act.put, List.setIfInBounds_toArray, List.set_cons_zero, List.set_cons_succ, i64_w, i32_w]
                rfl
              refine pure_ (i := 3) (N := some 88) (v := undef) (a' := ?_) #[true, true, true, true, false, false, false, false, false, false, false, false, false, false, false, false] rfl rfl (by kernel_rfl) (fun _ _ _ h => h) (Or.inr ⟨by rfl, rfl⟩) ?_ ?_
              rotate_left
              · simp only [Act.put, List.setIfInBounds_toArray, List.set_cons_zero, List.set_cons_succ, i64_w, i32_w]
                rfl
              refine pure_ (i := 4) (N := some 89) (v := undef) (a' := ?_) #[true, true, true, true, true, false, false, false, false, false, false, false, false, false, false, false] rfl rfl (by kernel_rfl) (fun _ _ _ h => h) (Or.inr ⟨by rfl, rfl⟩) ?_ ?_
              rotate_left
              · simp only [Act.put, List.setIfInBounds_toArray, List.set_cons_zero, List.set_cons_succ, i64_w, i32_w]
                rfl
              refine pure_ (i := 5) (N := some 90) (v := undef) (a' := ?_) #[true, true, true, true, true, true, false, false, false, false, false, false, false, false, false, false] rfl rfl (by kernel_rfl) (fun _ _ _ h => h) (Or.inr ⟨by rfl, rfl⟩) ?_ ?_
              rotate_left
              · simp only [Act.put, List.setIfInBounds_toArray, List.set_cons_zero, List.set_cons_succ, i64_w, i32_w]
                rfl
              refine pure_ (i := 6) (N := some 91) (v := undef) (a' := ?_) #[true, true, true, true, true, true, true, false, false, false, false, false, false, false, false, false] rfl rfl (by kernel_rfl) (fun _ _ _ h => h) (Or.inr ⟨by rfl, rfl⟩) ?_ ?_
              rotate_left
              · simp only [Act.put, List.setIfInBounds_toArray, List.set_cons_zero, List.set_cons_succ, i64_w, i32_w]
                rfl
              refine pure_ (i := 7) (N := some 92) (v := undef) (a' := ?_) #[true, true, true, true, true, true, true, true, false, false, false, false, false, false, false, false] rfl rfl (by kernel_rfl) (fun _ _ _ h => h) (Or.inr ⟨by rfl, rfl⟩) ?_ ?_
              rotate_left
              · simp only [Act.put, List.setIfInBounds_toArray, List.set_cons_zero, List.set_cons_succ, i64_w, i32_w]
                rfl
              refine pure_ (i := 8) (N := some 93) (v := undef) (a' := ?_) #[true, true, true, true, true, true, true, true, true, false, false, false, false, false, false, false] rfl rfl (by kernel_rfl) (fun _ _ _ h => h) (Or.inr ⟨by rfl, rfl⟩) ?_ ?_
              rotate_left
              · simp only [Act.put, List.setIfInBounds_toArray, List.set_cons_zero, List.set_cons_succ, i64_w, i32_w]
                rfl
              refine pure_ (i := 9) (N := some 94) (v := undef) (a' := ?_) #[true, true, true, true, true, true, true, true, true, true, false, false, false, false, false, false] rfl rfl (by kernel_rfl) (fun _ _ _ h => h) (Or.inr ⟨by rfl, rfl⟩) ?_ ?_
              rotate_left
              · simp only [Act.put, List.setIfInBounds_toArray, List.set_cons_zero, List.set_cons_succ, i64_w, i32_w]
                rfl
              refine pure_ (i := 10) (N := some 95) (v := undef) (a' := ?_) #[true, true, true, true, true, true, true, true, true, true, true, false, false, false, false, false] rfl rfl (by kernel_rfl) (fun _ _ _ h => h) (Or.inr ⟨by rfl, rfl⟩) ?_ ?_
              rotate_left
              · simp only [Act.put, List.setIfInBounds_toArray, List.set_cons_zero, List.set_cons_succ, i64_w, i32_w]
                rfl
              refine pure_ (i := 11) (N := some 96) (v := undef) (a' := ?_) #[true, true, true, true, true, true, true, true, true, true, true, true, false, false, false, false] rfl rfl (by kernel_rfl) (fun _ _ _ h => h) (Or.inr ⟨by rfl, rfl⟩) ?_ ?_
              rotate_left
              · simp only [Act.put, List.setIfInBounds_toArray, List.set_cons_zero, List.set_cons_succ, i64_w, i32_w]
                rfl
              refine pure_ (i := 12) (N := some 97) (v := undef) (a' := ?_) #[true, true, true, true, true, true, true, true, true, true, true, true, true, false, false, false] rfl rfl (by kernel_rfl) (fun _ _ _ h => h) (Or.inr ⟨by rfl, rfl⟩) ?_ ?_
              rotate_left
              · simp only [Act.put, List.setIfInBounds_toArray, List.set_cons_zero, List.set_cons_succ, i64_w, i32_w]
                rfl
              refine pure_ (i := 13) (N := some 98) (v := undef) (a' := ?_) #[true, true, true, true, true, true, true, true, true, true, true, true, true, true, false, false] rfl rfl (by kernel_rfl) (fun _ _ _ h => h) (Or.inr ⟨by rfl, rfl⟩) ?_ ?_
              rotate_left
              · simp only [Act.put, List.setIfInBounds_toArray, List.set_cons_zero, List.set_cons_succ, i64_w, i32_w]
                rfl
              refine pure_ (i := 14) (N := some 99) (v := undef) (a' := ?_) #[true, true, true, true, true, true, true, true, true, true, true, true, true, true, true, false] rfl rfl (by kernel_rfl) (fun _ _ _ h => h) (Or.inr ⟨by rfl, rfl⟩) ?_ ?_
              rotate_left
              · simp only [Act.put, List.setIfInBounds_toArray, List.set_cons_zero, List.set_cons_succ, i64_w, i32_w]
                rfl
              refine pure_ (i := 15) (N := some 100) (v := ?_) (a' := ?_) #[true, true, true, true, true, true, true, true, true, true, true, true, true, true, true, true] rfl rfl (by kernel_rfl) (fun _ _ _ h => h) (Or.inl ⟨by rfl, ?_⟩) ?_ ?_
              rotate_left
              · intro w'
                go_simp
                with_reducible rfl
              rotate_left
              · simp only [Act.put, List.setIfInBounds_toArray, List.set_cons_zero, List.set_cons_succ, i64_w, i32_w]
                rfl
              refine done_ (by kernel_rfl) ?_
              go_wp2
              go_roundg (s.length - (i + 1))
              case measure => have := HKQ.out; omega
              case rel => exact ⟨i + 1, HWR.out, ⟨by omega⟩, ⟨below_drew1 HBX.out⟩, ⟨Kd.C_drew HSX.out⟩, ⟨Kd.C_drew HOX.out⟩⟩
            | false =>
              go_upto_region 19 with (fail)
              refine start_ (n := 16) (S := fun w' => True) (ds := []) #[false, false, false, false, false, false, false, false, false, false, false, false, false, false, false, false] (by kernel_rfl) rfl rfl trivial (fun hHeld => ?_)
              have HSD := Aside0.mk (Kd.C_drew HSX.out)
              have HOD := Aside0.mk (Kd.C_drew HOX.out)
              have HBD := Aside0.mk (below_drew1 HBX.out)
              generalize WX.drew = wd at HSD HOD HBD hHeld ⊢
              have hwr : Go.RowKit.wrap64 ((i : Int) + 1) = (i : Int) + 1 := by have := HMX.out; unfold Go.RowKit.wrap64; omega
              have q1 : (i : Int) + 1 ≤ (cs : Int) := by have := HCS.out; omega
              have q2 : ¬ cs = i := by have := HCS.out; omega
              have q3 : (i : Int) + 1 ≤ (co : Int) := by have := HCO.out; omega
              have q4 : ¬ co = i := by have := HCO.out; omega
              have q5 : (0 : Int) ≤ (i : Int) + 1 := by omega
              refine pure_ (i := 0) (N := some 85) (v := ?_) (a' := ?_) #[true, false, false, false, false, false, false, false, false, false, false, false, false, false, false, false] rfl rfl (by kernel_rfl) (fun _ _ _ h => h) (Or.inl ⟨by rfl, ?_⟩) ?_ ?_
              rotate_left
              · intro w'
                go_simp
                with_reducible rfl
              rotate_left
              · simp only [Act.put, List.setIfInBounds_toArray, List.set_cons_zero, List.set_cons_succ, i64_w, i32_w]
                rfl
              refine pure_ (i := 1) (N := some 86) (v := ?_) (a' := ?_) #[true, true, false, false, false, false, false, false, false, false, false, false, false, false, false, false] rfl rfl (by kernel_rfl) (fun _ _ _ h => h) (Or.inl ⟨by rfl, ?_⟩) ?_ ?_
              rotate_left
              · intro w'
                go_simp
                with_reducible rfl
              rotate_left
              · simp only [Act.put, List.setIfInBounds_toArray, List.set_cons_zero, List.set_cons_succ, i64_w, i32_w]
                rfl
              refine pure_ (i := 2) (N := some 87) (v := ?_) (a' := ?_) #[true, true, true, false, false, false, false, false, false, false, false, false, false, false, false, false] rfl rfl (by kernel_rfl) (fun _ _ _ h => h) (Or.inl ⟨by rfl, ?_⟩) ?_ ?_
              rotate_left
              · intro w'
                go_simp
                with_reducible rfl
              rotate_left
              · simp only [Act.put, List.setIfInBounds_toArray, List.set_cons_zero, List.set_cons_succ, i64_w, i32_w]
                rfl
              refine pure_ (i := 3) (N := some 88) (v := ?_) (a' := ?_) #[true, true, true, true, false, false, false, false, false, false, false, false, false, false, false, false] rfl rfl (by kernel_rfl) (fun _ _ _ h => h) (Or.inl ⟨by rfl, ?_⟩) ?_ ?_
              rotate_left
              · intro w'
                go_simp
                with_reducible rfl
              rotate_left
              · simp only [Act.put, List.setIfInBounds_toArray, List.set_cons_zero, List.set_cons_succ, i64_w, i32_w]
                rfl
              refine pure_ (i := 4) (N := some 89) (v := ?_) (a' := ?_) #[true, true, true, true, true, false, false, false, false, false, false, false, false, false, false, false] rfl rfl (by kernel_rfl) (fun _ _ _ h => h) (Or.inl ⟨by rfl, ?_⟩) ?_ ?_
              rotate_left
              · intro w'
                go_simp
                with_reducible rfl
              rotate_left
              · simp only [Act.put, List.setIfInBounds_toArray, List.set_cons_zero, List.set_cons_succ, i64_w, i32_w]
                rfl
              refine pure_ (i := 5) (N := some 90) (v := ?_) (a' := ?_) #[true, true, true, true, true, true, false, false, false, false, false, false, false, false, false, false] rfl rfl (by kernel_rfl) (fun _ _ _ h => h) (Or.inl ⟨by rfl, ?_⟩) ?_ ?_
              rotate_left
              · intro w'
                go_simp
                with_reducible rfl
              rotate_left
              · simp only [Act.put, List.setIfInBounds_toArray, List.set_cons_zero, List.set_cons_succ, i64_w, i32_w]
                rfl
              refine pure_ (i := 6) (N := some 91) (v := ?_) (a' := ?_) #[true, true, true, true, true, true, true, false, false, false, false, false, false, false, false, false] rfl rfl (by kernel_rfl) (fun _ _ _ h => h) (Or.inl ⟨by rfl, ?_⟩) ?_ ?_
              rotate_left
              · intro w'
                go_simp
                with_reducible rfl
              rotate_left
              · simp only [Act.put, List.setIfInBounds_toArray, List.set_cons_zero, List.set_cons_succ, i64_w, i32_w]
                rfl
              refine pure_ (i := 7) (N := some 92) (v := ?_) (a' := ?_) #[true, true, true, true, true, true, true, true, false, false, false, false, false, false, false, false] rfl rfl (by kernel_rfl) (fun _ _ _ h => h) (Or.inl ⟨by rfl, ?_⟩) ?_ ?_
              rotate_left
              · intro w'
                go_simp
                with_reducible rfl
              rotate_left
              · simp only [Act.put, List.setIfInBounds_toArray, List.set_cons_zero, List.set_cons_succ, i64_w, i32_w]
                rfl
              refine pure_ (i := 8) (N := some 93) (v := ?_) (a' := ?_) #[true, true, true, true, true, true, true, true, true, false, false, false, false, false, false, false] rfl rfl (by kernel_rfl) (fun _ _ _ h => h) (Or.inl ⟨by rfl, ?_⟩) ?_ ?_
              rotate_left
              · intro w'
                go_simp
                with_reducible rfl
              rotate_left
              · simp only [Act.put, List.setIfInBounds_toArray, List.set_cons_zero, List.set_cons_succ, i64_w, i32_w]
                rfl
              refine pure_ (i := 9) (N := some 94) (v := ?_) (a' := ?_) #[true, true, true, true, true, true, true, true, true, true, false, false, false, false, false, false] rfl rfl (by kernel_rfl) (fun _ _ _ h => h) (Or.inl ⟨by rfl, ?_⟩) ?_ ?_
              rotate_left
              · intro w'
                go_simp
                with_reducible rfl
              rotate_left
              · simp only [Act.put, List.setIfInBounds_toArray, List.set_cons_zero, List.set_cons_succ, i64_w, i32_w]
                rfl
              refine pure_ (i := 10) (N := some 95) (v := ?_) (a' := ?_) #[true, true, true, true, true, true, true, true, true, true, true, false, false, false, false, false] rfl rfl (by kernel_rfl) (fun _ _ _ h => h) (Or.inl ⟨by rfl, ?_⟩) ?_ ?_
              rotate_left
              · intro w'
                go_simp
                with_reducible rfl
              rotate_left
              · simp only [Act.put, List.setIfInBounds_toArray, List.set_cons_zero, List.set_cons_succ, i64_w, i32_w]
                rfl
              refine pure_ (i := 11) (N := some 96) (v := ?_) (a' := ?_) #[true, true, true, true, true, true, true, true, true, true, true, true, false, false, false, false] rfl rfl (by kernel_rfl) (fun _ _ _ h => h) (Or.inl ⟨by rfl, ?_⟩) ?_ ?_
              rotate_left
              · intro w'
                go_simp
                with_reducible rfl
              rotate_left
              · simp only [Act.put, List.setIfInBounds_toArray, List.set_cons_zero, List.set_cons_succ, i64_w, i32_w]
                rfl
              refine pure_ (i := 12) (N := some 97) (v := ?_) (a' := ?_) #[true, true, true, true, true, true, true, true, true, true, true, true, true, false, false, false] rfl rfl (by kernel_rfl) (fun _ _ _ h => h) (Or.inl ⟨by rfl, ?_⟩) ?_ ?_
              rotate_left
              · intro w'
                go_simp
                with_reducible rfl
              rotate_left
              · simp only [Act.put, List.setIfInBounds_toArray, List.set_cons_zero, List.set_cons_succ, i64_w, i32_w]
                rfl
              refine one_ (i := 13) (N := some 98) #[true, true, true, true, true, true, true, true, true, true, true, true, true, true, false, false] rfl rfl (by kernel_rfl) (by decide) (fun K hK => ?_)
              refine goes_ Try.func36 (by kernel_rfl) rfl #[.slice (some (ad.add (i * 5))) 1 (cs - i), .slice (some (bd.add (i * 5))) 1 (co - i)] (by rfl) rfl rfl (by (try simp only [List.map_toArray, List.map_cons, List.map_nil]); first | done | rfl) ?_
              have hsm := HSAME.out i hlt HMM.out.symm
              have c1 := C35_at HSD.out hlt
              have c2 := C35_at HOD.out hlt
              rw [hsm] at c2
              refine (SameTwigs_eq (some (ad.add (i * 5))) (some (bd.add (i * 5))) (cs - i) (co - i) [rd_T35 s i] _ c1 c2 (by simp)).mono ?_
              rintro e w8 ⟨rfl, hb⟩
              refine ⟨_, rfl, ?_⟩
              have HB8 := Aside0.mk (below_step HBD.out hb)
              have HS8 := Aside0.mk (Kd.C_below HSD.out hb)
              have HO8 := Aside0.mk (Kd.C_below HOD.out hb)
              clear hb c1 c2 hsm
              refine hK.out _ _ trivial (fun hHeld => ?_)
              clear hK K
              refine norm_ (a' := ?_) ?_ ?_
              rotate_left
              · show Act.put _ (some 98) _ = _
                simp only [Act.put, List.setIfInBounds_toArray, List.set_cons_zero, List.set_cons_succ, i64_w, i32_w]
                rfl
              refine pure_ (i := 14) (N := some 99) (v := ?_) (a' := ?_) #[true, true, true, true, true, true, true, true, true, true, true, true, true, true, true, false] rfl rfl (by kernel_rfl) (fun _ _ _ h => h) (Or.inl ⟨by rfl, ?_⟩) ?_ ?_
              rotate_left
              · intro w'
                go_simp
                with_reducible rfl
              rotate_left
              · simp only [Act.put, List.setIfInBounds_toArray, List.set_cons_zero, List.set_cons_succ, i64_w, i32_w]
                rfl
              refine pure_ (i := 15) (N := some 100) (v := ?_) (a' := ?_) #[true, true, true, true, true, true, true, true, true, true, true, true, true, true, true, true] rfl rfl (by kernel_rfl) (fun _ _ _ h => h) (Or.inl ⟨by rfl, ?_⟩) ?_ ?_
              rotate_left
              · intro w'
                go_simp
                with_reducible rfl
              rotate_left
              · simp only [Act.put, List.setIfInBounds_toArray, List.set_cons_zero, List.set_cons_succ, i64_w, i32_w]
                rfl
              refine done_ (by kernel_rfl) ?_
              clear hwr q1 q2 q3 q4 q5
              go_wp2
              go_roundg (s.length - (i + 1))
              case measure => have := HKQ.out; omega
              case rel => exact ⟨i + 1, HWR.out, ⟨by omega⟩, HB8, HS8, HO8⟩

    · have h1 : decide (i < s.length) = false := decide_eq_false hlt
      go_wp2_with (((with_reducible refine gate_dst (N := 101) rfl ?_); refine goesL_ (some 101) rfl rfl Try.func15 (by kernel_rfl) rfl #[] rfl (by (try simp only [List.map_toArray, List.map_cons, List.map_nil]); first | done | rfl) ?_; refine (sane_calls _).mono ?_; rintro e ws ⟨rfl, hb⟩; refine ⟨_, rfl, ?_⟩; have HBS := Aside0.mk (below_step HBR.out hb); clear hb))
      go_ret
      exact ⟨rfl, HBS.out⟩
theorem apart_walk (A : Option Addr) (c : Nat) (l : List S35) (k : Int) (A2 : Option Addr) (c2 : Nat) (d : S33) (w : World) (_ : l.length ≤ c) (hr : k35.C w A l.length l) (_ : -9223372036854775808 ≤ k ∧ k ≤ 9223372036854775807) (hc2 : d.f2.length ≤ c2) (hr2 : k37.C w A2 d.f2.length d.f2) :
    Calls Try.prog 10 #[.slice A l.length c, .int .i64 k, .agg #[.int .i64 d.f0, .bool d.f1, .slice A2 d.f2.length c2]] w fun e w' => e = .returned (.bool true) ∧ Below w.heap.size w w' := by
  cases hs : smallB l with
  | false => exact apart_small A A2 c c2 l k d w hr hr2 hc2 hs
  | true =>
    by_cases hsh : d.f2.length ≤ 40
    · have hsh2 : decide (d.f2.length ≤ 40) = true := by simpa using hsh
      cases hsp : sSpread l with
      | mk s er =>
        by_cases he : er = 0
        · subst he
          obtain ⟨hvs, has, hss, hag⟩ := spread_ok hsp
          have hm := (vTree_pos hvs).2.1
          cases hch : sChange s k d with
          | mk out e2 =>
            by_cases he2 : e2 = 0
            · subst he2
              obtain ⟨kk, rfl, hkk, _, d', hd'⟩ := change_some hch
              exact apart_all A A2 c c2 l kk d w hr hr2 hc2 hs hsh2 s hsp (vTree_ups hvs) hm out hch hd'.out.len (apart_same hvs has hd'.out)
            · exact apart_chg A A2 c c2 l k d w hr hr2 hc2 hs hsh2 s hsp out e2 hch he2
        · exact apart_err A A2 c c2 l k d w hr hr2 hc2 hs hsh2 s er hsp he
    · exact apart_short A A2 c c2 l k d w hr hr2 hc2 hs (by simpa using hsh)
end Go.Proofs.Ytgocgjfaiddejaa.M

