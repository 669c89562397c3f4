/- The reference's renewed and Spread. -/
import Derived.Test.YtgocgjfaiddejaaHW
import Derived.Test.YtgocgjfaiddejaaF38
namespace Go.Proofs.Ytgocgjfaiddejaa.M
open Go.RowKit Go.Proofs.YtgocgjfaiddejaaW.PrintWords Go.Proofs.YtgocgjfaiddejaaW.PrintLast Go.Proofs.YtgocgjfaiddejaaW.PrintMore
set_option linter.unusedVariables false
set_option linter.unusedSimpArgs false
set_option linter.unnecessarySimpa false

/-- What the reference has renewed so far. -/
structure Pre (l : List S35) (k j : Nat) (o : List S35) : Prop where
  len : o.length = j
  val : ∀ i : Nat, i < j → vD (rd_T35 o i).f2 = true
  dnp : ∀ i u : Nat, i < j → 0 < i → (rd_T35 l i).f0 = u → dnB l k i = true → ∃ d', renewD (rd_T35 o u).f2 (rd_T35 l i).f2 (rd_T35 l i).f1 = some d' ∧ rd_T35 o i = { rd_T35 l i with f2 := d' }
  sam : ∀ i : Nat, i < j → ¬ (0 < i ∧ dnB l k i = true) → rd_T35 o i = rd_T35 l i
theorem rd_snoc (o : List S35) (x : S35) {j i : Nat} (hl : o.length = j) : (i < j → rd_T35 (o ++ [x]) i = rd_T35 o i) ∧ rd_T35 (o ++ [x]) j = x := by
  subst hl
  refine ⟨fun h => ?_, ?_⟩
  · rw [rd35_at (by simp; omega), rd35_at h, List.getElem_append_left h]
  · rw [rd35_at (by simp)]
    simp
theorem Pre.nil (l : List S35) (k : Nat) : Pre l k 0 [] := ⟨rfl, fun _ h => absurd h (by omega), fun _ _ h => absurd h (by omega), fun _ h => absurd h (by omega)⟩
theorem Pre.keep {l : List S35} {k j : Nat} {o : List S35} (h : Pre l k j o) (hU : Ups l) (hj : j < l.length) (hv : vD (rd_T35 l j).f2 = true) (hn : ¬ (0 < j ∧ dnB l k j = true)) : Pre l k (j + 1) (o ++ [rd_T35 l j]) := by
  have hs := fun i => rd_snoc o (rd_T35 l j) (j := j) (i := i) h.len
  refine ⟨by simp [h.len], fun i hi => ?_, fun i u hi h0 hu hd => ?_, fun i hi hd => ?_⟩
  · rcases Nat.lt_or_ge i j with h2 | h2
    · rw [(hs i).1 h2]; exact h.val i h2
    · rw [show i = j by omega, (hs 0).2]; exact hv
  · obtain ⟨u', hu', hlt⟩ := hU i h0 (by omega)
    have e : u' = u := by omega
    rcases Nat.lt_or_ge i j with h2 | h2
    · rw [(hs i).1 h2, (hs u).1 (by omega)]; exact h.dnp i u h2 h0 hu hd
    · exact absurd ⟨by omega, by rw [show j = i by omega]; exact hd⟩ hn
  · rcases Nat.lt_or_ge i j with h2 | h2
    · rw [(hs i).1 h2]; exact h.sam i h2 hd
    · rw [show i = j by omega, (hs 0).2]
theorem Pre.renew {l : List S35} {k j u : Nat} {o : List S35} {d' : S33} (h : Pre l k j o) (hU : Ups l) (hj : j < l.length) (h0 : 0 < j) (hu : (rd_T35 l j).f0 = u) (hul : u < j) (hd : dnB l k j = true) (hv : vD (rd_T35 l j).f2 = true) (hr : renewD (rd_T35 o u).f2 (rd_T35 l j).f2 (rd_T35 l j).f1 = some d') : Pre l k (j + 1) (o ++ [{ rd_T35 l j with f2 := d' }]) := by
  have hs := fun i => rd_snoc o { rd_T35 l j with f2 := d' } (j := j) (i := i) h.len
  refine ⟨by simp [h.len], fun i hi => ?_, fun i u2 hi h02 hu2 hd2 => ?_, fun i hi hd2 => ?_⟩
  · rcases Nat.lt_or_ge i j with h2 | h2
    · rw [(hs i).1 h2]; exact h.val i h2
    · rw [show i = j by omega, (hs 0).2]; exact renew_valid (h.val u hul) hv hr
  · obtain ⟨u', hu', hlt⟩ := hU i h02 (by omega)
    have e : u' = u2 := by omega
    rcases Nat.lt_or_ge i j with h2 | h2
    · rw [(hs i).1 h2, (hs u2).1 (by omega)]; exact h.dnp i u2 h2 h02 hu2 hd2
    · have ei : i = j := by omega
      subst ei
      have eu : u2 = u := by omega
      subst eu
      rw [(hs 0).2, (hs u2).1 hul]
      exact ⟨d', hr, rfl⟩
  · rcases Nat.lt_or_ge i j with h2 | h2
    · rw [(hs i).1 h2]; exact h.sam i h2 hd2
    · exact absurd ⟨by omega, by rw [show i = j by omega]; exact hd⟩ hd2
theorem sRenew_of {p d : S33} {dir : Bool} (hp : vD p = true) (hd : vD d = true) : sRenew p d dir = match renewD p d dir with | some d' => (d', 0) | none => (z33, 2) := by
  unfold sRenew renewD
  rw [if_pos (by rw [hp, hd]; rfl)]
  by_cases h1 : d.f1 = true
  · rw [if_pos h1, if_pos h1]
  · rw [if_neg h1, if_neg h1]
    by_cases h2 : (renewL p.f2 d.f2 dir).length ≤ 16
    · rw [if_pos h2, if_pos h2]
    · rw [if_neg h2, if_neg h2]
theorem elem35 {W : World} {base g cap : Nat} {gs : List S35} (h : Kd.R k35 35 W base (fun _ => True) (.slice (some ⟨g, 0, none⟩) gs.length cap) gs) {j : Nat} (hj : j < gs.length) :
    ∃ A c, W.cell? ⟨g, j * 5 + 2, none⟩ = some (.int .i64 (rd_T35 gs j).f2.f0) ∧ W.cell? ⟨g, j * 5 + 3, none⟩ = some (.bool (rd_T35 gs j).f2.f1) ∧ W.cell? ⟨g, j * 5 + 4, none⟩ = some (.slice A (rd_T35 gs j).f2.f2.length c) ∧ (rd_T35 gs j).f2.f2.length ≤ c ∧ k37.C W A (rd_T35 gs j).f2.f2.length (rd_T35 gs j).f2.f2 := by
  obtain ⟨c, hl, hM, hc, _⟩ := Kd.R_elem h z35 (j : Int) (by omega) (by omega)
  have hM' : k35.M W base (fun k => True ∧ k ≠ g) (rd_T35 gs j) c := hM
  obtain ⟨v, rfl, hr⟩ := k35_openM hM'
  obtain ⟨A, c, rfl⟩ := Kd.R_slice hr
  exact ⟨A, c, hc 2 _ rfl, hc 3 _ rfl, hc 4 _ rfl, (Kd.R_reads' hr).2.1, (Kd.R_reads' hr).2.2⟩
theorem below_l {l : List S35} (hU : Ups l) (k : Nat) : ∀ n i : Nat, i < n → i < l.length → archivoltref23_Below.l0 n l (i : Int) (k : Int) = some (decide (0 < i) && dnB l k (rd_T35 l i).f0.toNat) := by
  intro n
  induction n with
  | zero => intro i h; omega
  | succ n ih =>
    intro i hn hi
    simp only [archivoltref23_Below.l0]
    by_cases h0 : 0 < i
    · obtain ⟨u, hu, hlt⟩ := hU i h0 hi
      rw [if_pos (by omega), if_pos (by omega), if_pos (by omega), hu, Int.toNat_natCast]
      by_cases huk : u = k
      · subst huk
        rw [if_pos rfl, dnB_self]
        simp [h0]
      · rw [if_neg (by omega), ih u (by omega) (by omega)]
        by_cases hu0 : 0 < u
        · obtain ⟨v, hv, hvl⟩ := hU u hu0 (by omega)
          rw [dnB_step hU k (show u < l.length by omega) hu0 hv huk, hv, Int.toNat_natCast]
          simp [h0, hu0]
        · obtain rfl : u = 0 := by omega
          have e : dnB l k 0 = false := by unfold dnB dn; simp; omega
          rw [e]
          simp
    · rw [if_neg (by omega)]
      simp [h0]
theorem below_dn {l : List S35} (hU : Ups l) (k : Nat) {i : Nat} (hi : i < l.length) (hne : i ≠ k) : (decide (0 < i) && dnB l k (rd_T35 l i).f0.toNat) = dnB l k i := by
  by_cases h0 : 0 < i
  · obtain ⟨u, hu, hlt⟩ := hU i h0 hi
    rw [dnB_step hU k hi h0 hu hne, hu, Int.toNat_natCast]
    simp [h0]
  · obtain rfl : i = 0 := by omega
    have e : dnB l k 0 = false := by unfold dnB dn; simp; omega
    rw [e]
    simp
/-- How renewed ends. -/
def RenPost (l : List S35) (k : Nat) (w : World) (e : Ending) (w' : World) : Prop :=
  Below w.heap.size w w' ∧ ((∃ o v, e = .returned (.tuple #[v, .int .i64 0]) ∧ Pre l k l.length o ∧ RT w' w.heap.size v o) ∨
    (∃ j u o, e = .returned (.tuple #[.slice none 0 0, .int .i64 2]) ∧ Pre l k j o ∧ 0 < j ∧ j < l.length ∧ (rd_T35 l j).f0 = (u : Nat) ∧ dnB l k j = true ∧ renewD (rd_T35 o u).f2 (rd_T35 l j).f2 (rd_T35 l j).f1 = none))
theorem renewed_end {ts : Array Value} {a : Value} {b : Int} {W : World} (h1 : ts.getD 4 undef = a) (h2 : ts.getD 5 undef = .int .i64 b) : (results Try.f55 ts).run Try.prog W = .ok (.tuple #[a, .int .i64 b]) W := by
  have := results_list (P := Try.prog) (w := W) (tmps := ts) (fn := Try.f55) (rs := [.tmp 4, .tmp 5]) rfl (by simp) (.tmp (.tmp .nil))
  rw [h1, h2] at this
  exact this
set_option maxRecDepth 100000 in
set_option maxHeartbeats 2000000 in
theorem renewed_calls_r (A : Option Addr) (c : Nat) (l : List S35) (kk : Nat) (w : World) (hr : Kd.C k35 w A l.length l) (hc : l.length ≤ c) (hv : vTree l = true) :
    Calls Try.prog 55 #[.slice A l.length c, .int .i64 (kk : Int)] w (RenPost l kk w) := by
  have HR := Aside0.mk hr
  have HC := Aside0.mk hc
  have HV := Aside0.mk hv
  have HU := Aside0.mk (vTree_ups hv)
  have HM := Aside0.mk (vTree_pos hv).2.1
  clear hr hc hv
  go_enter Try.func55, Try.ntmps55
  go_wp2
  go_loopg [6, 7] l.length (fun kq v6 v7 w' => ∃ (j : Nat) (o : List S35), v7 = .int .i64 (j : Int) ∧ Aside0 (kq + j = l.length) ∧ Aside0 (Pre l kk j o) ∧ Aside0 (RT w' w.heap.size v6 o) ∧ Aside0 (Below w.heap.size w w'))
  case atStart => exact ⟨0, [], rfl, ⟨rfl⟩, ⟨Pre.nil _ _⟩, ⟨Kd.R_nil _ _ _ _ _⟩, ⟨Below.refl _ _⟩⟩
  case round =>
    obtain ⟨j, o, rfl, HK, HPR, HO, HB⟩ := hrel
    by_cases hlt : j < l.length
    · have h1 : decide (j < l.length) = true := decide_eq_true hlt
      have HWR := Aside0.mk (show Value.int .i64 (Go.RowKit.wrap64 ((j : Int) + 1)) = Value.int .i64 ((j + 1 : Nat) : Int) by rw [show Go.RowKit.wrap64 ((j : Int) + 1) = ((j + 1 : Nat) : Int) by have := HM.out; unfold Go.RowKit.wrap64; omega])
      obtain ⟨ad, A2, c2, rfl, y0, y1, y2, y3, y4, hl2, hC2⟩ := at_T35 (Kd.C_below HR.out HB.out) (j : Int) (by omega) (by omega)
      simp only [Int.toNat_natCast] at y0 y1 y2 y3 y4
      go_upto_region 6 with (fail)
      have hb_ := below_alloc (Below.refl _ wr) (.cells #[.int .i64 (rd_T35 l j).f0, .bool (rd_T35 l j).f1, .int .i64 (rd_T35 l j).f2.f0, .bool (rd_T35 l j).f2.f1, .slice A2 (rd_T35 l j).f2.f2.length c2] 35)
      have hG0_ := blk_lit0 wr (.cells #[.int .i64 (rd_T35 l j).f0, .bool (rd_T35 l j).f1, .int .i64 (rd_T35 l j).f2.f0, .bool (rd_T35 l j).f2.f1, .slice A2 (rd_T35 l j).f2.f2.length c2] 35)
      generalize (wr.alloc (.cells #[.int .i64 (rd_T35 l j).f0, .bool (rd_T35 l j).f1, .int .i64 (rd_T35 l j).f2.f0, .bool (rd_T35 l j).f2.f1, .slice A2 (rd_T35 l j).f2.f2.length c2] 35)) = X at hb_ hG0_ ⊢
      have HB_X := Aside0.mk hb_
      have X0 := Aside0.mk hG0_
      clear hb_ hG0_
      have HD2 := Aside0.mk (Kd.C_below hC2 HB_X.out)
      have HL2 := Aside0.mk hl2
      have HBX := Aside0.mk (below_step HB.out HB_X.out)
      have HOX := Aside0.mk (Kd.R_below (Kd.R_elderB HO.out wr.heap.size (Nat.le_refl _)) HB_X.out)
      have HXG := Aside0.mk HB.out.size
      clear y0 y1 y2 y3 y4 hl2 hC2 HB_X HB HO
      have z0 := (blk_cell X0.out 0).trans rfl; have z1 := (blk_cell X0.out 1).trans rfl; have z2 := (blk_cell X0.out 2).trans rfl; have z3 := (blk_cell X0.out 3).trans rfl; have z4 := (blk_cell X0.out 4).trans rfl
      have fz0 := blk_frozen X0.out 0; have fz1 := blk_frozen X0.out 1; have fz2 := blk_frozen X0.out 2; have fz3 := blk_frozen X0.out 3; have fz4 := blk_frozen X0.out 4
      go_upto_region 7 with ((with_reducible refine gate_dst (N := 23) rfl ?_); refine goesL_ (some 23) rfl rfl Try.func63 (by kernel_rfl) rfl #[.agg #[.int .i64 (rd_T35 l j).f2.f0, .bool (rd_T35 l j).f2.f1, .slice A2 (rd_T35 l j).f2.f2.length c2]] rfl (by (try simp only [List.map_toArray, List.map_cons, List.map_nil]); first | done | rfl) ?_; refine (rCopied_calls _ _ A2 c2 (rd_T35 l j).f2.f2 _ HD2.out HL2.out (by have := vTw_len (vTree_at HV.out hlt); omega)).mono ?_; rintro e w1 ⟨v, rfl, hra, hb⟩; refine ⟨_, rfl, ?_⟩; obtain ⟨A3, c3, rfl⟩ := Kd.R_slice hra; have HL3 := Aside0.mk (Kd.R_lower hra HBX.out.size); have HB1 := Aside0.mk (below_step HBX.out hb); have X1 := Aside0.mk (blk_below X0.out hb); have HO1 := Aside0.mk (Kd.R_below HOX.out hb); clear hra hb z0 z1 z2 z3 z4 fz0 fz1 fz2 fz3 fz4 X0 HOX; have z0 := (blk_cell X1.out 0).trans rfl; have z1 := (blk_cell X1.out 1).trans rfl; have z2 := (blk_cell X1.out 2).trans rfl; have z3 := (blk_cell X1.out 3).trans rfl; have z4 := (blk_cell X1.out 4).trans rfl; have fz0 := blk_frozen X1.out 0; have fz1 := blk_frozen X1.out 1; have fz2 := blk_frozen X1.out 2; have fz3 := blk_frozen X1.out 3; have fz4 := blk_frozen X1.out 4)
      obtain ⟨w2, hw2⟩ : ∃ w2, w2 = (((w1.setCell ⟨wr.heap.size, 2, none⟩ (.int .i64 (rd_T35 l j).f2.f0)).setCell ⟨wr.heap.size, 3, none⟩ (.bool (rd_T35 l j).f2.f1)).setCell ⟨wr.heap.size, 4, none⟩ (.slice A3 (rd_T35 l j).f2.f2.length c3)) := ⟨_, rfl⟩
      rw [← hw2]
      have q1 := blk_put X1.out 2 (.int .i64 (rd_T35 l j).f2.f0) rfl
      have q2 := blk_put q1 3 (.bool (rd_T35 l j).f2.f1) rfl
      have q3 := blk_put q2 4 (.slice A3 (rd_T35 l j).f2.f2.length c3) rfl
      have X2 := Aside0.mk (show w2.heap[wr.heap.size]? = some (.cells #[.int .i64 (rd_T35 l j).f0, .bool (rd_T35 l j).f1, .int .i64 (rd_T35 l j).f2.f0, .bool (rd_T35 l j).f2.f1, .slice A3 (rd_T35 l j).f2.f2.length c3] 35 (0, 0)) by rw [hw2]; exact q3)
      have HO2 := Aside0.mk (show Kd.R k35 35 w2 w.heap.size (fun k => True ∧ k ≠ wr.heap.size) u6 o by rw [hw2]; exact Kd.R_far (Kd.R_far (Kd.R_far HO1.out (p := ⟨wr.heap.size, 2, none⟩) (fun k hk => hk.2) _) (p := ⟨wr.heap.size, 3, none⟩) (fun k hk => hk.2) _) (p := ⟨wr.heap.size, 4, none⟩) (fun k hk => hk.2) _)
      have HL4 := Aside0.mk (show RA w2 w.heap.size (.slice A3 (rd_T35 l j).f2.f2.length c3) (rd_T35 l j).f2.f2 by rw [hw2]; exact Kd.R_set (Kd.R_set (Kd.R_set HL3.out X1.out (by decide) 2 _) q1 (by decide) 3 _) q2 (by decide) 4 _)
      have HB2 := Aside0.mk (show Below w.heap.size w w2 by rw [hw2]; exact ((HB1.out.setCell (p := ⟨wr.heap.size, 2, none⟩) HXG.out _).setCell (p := ⟨wr.heap.size, 3, none⟩) HXG.out _).setCell (p := ⟨wr.heap.size, 4, none⟩) HXG.out _)
      clear hw2 q1 q2 q3 z0 z1 z2 z3 z4 fz0 fz1 fz2 fz3 fz4 X1 HO1 HL3 HB1
      by_cases h0 : 0 < j
      · have f1 : decide (0 < j) = true := decide_eq_true h0
        have f2 : decide ((0 : Int) < (j : Int)) = true := decide_eq_true (by omega)
        obtain ⟨u, hu, hul⟩ := HU.out j h0 hlt
        have HUE := Aside0.mk hu
        by_cases hjk : j = kk
        · obtain rfl : kk = j := hjk.symm
          have HDN := Aside0.mk (dnB_self l kk)
          have X3 := Aside0.mk (show w2.heap[wr.heap.size]? = some (.cells #[.int .i64 (u : Int), .bool (rd_T35 l kk).f1, .int .i64 (rd_T35 l kk).f2.f0, .bool (rd_T35 l kk).f2.f1, .slice A3 (rd_T35 l kk).f2.f2.length c3] 35 (0, 0)) by have := X2.out; rwa [hu] at this)
          clear hu hjk
          have hou : u < o.length := by have := HPR.out.len; omega
          obtain ⟨gb, co, rfl, hgb, hgl, cells, hct⟩ := Kd.R_form HO2.out (by omega)
          obtain ⟨A5, c5, e2, e3, e4, le5, hC5⟩ := elem35 (Kd.R_mono HO2.out (fun _ _ => trivial)) hou
          have HC5 := Aside0.mk (Kd.C_drew hC5)
          have HL5 := Aside0.mk le5
          have XD := Aside0.mk (blk_drew X3.out)
          have HOD := Aside0.mk (Kd.R_drew HO2.out)
          have HLD := Aside0.mk (Kd.R_drew HL4.out)
          have HBD := Aside0.mk (below_drew1 HB2.out)
          go_upto_region 8 with (fail)
          refine start_ (n := 17) (S := fun w' => w'.cell? ⟨wr.heap.size, 0, none⟩ = some (.int .i64 (u : Int)) ∧ w'.cell? ⟨wr.heap.size, 1, none⟩ = some (.bool (rd_T35 l kk).f1) ∧ w'.cell? ⟨wr.heap.size, 2, none⟩ = some (.int .i64 (rd_T35 l kk).f2.f0) ∧ w'.cell? ⟨wr.heap.size, 3, none⟩ = some (.bool (rd_T35 l kk).f2.f1) ∧ w'.cell? ⟨wr.heap.size, 4, none⟩ = some (.slice A3 (rd_T35 l kk).f2.f2.length c3) ∧ w'.cell? ⟨gb, u * 5 + 2, none⟩ = some (.int .i64 (rd_T35 o u).f2.f0) ∧ w'.cell? ⟨gb, u * 5 + 3, none⟩ = some (.bool (rd_T35 o u).f2.f1) ∧ w'.cell? ⟨gb, u * 5 + 4, none⟩ = some (.slice A5 (rd_T35 o u).f2.f2.length c5)) (ds := [15]) #[false, false, false, false, false, false, false, false, false, false, false, false, false, false, false, false, false] (by kernel_rfl) rfl rfl ⟨(blk_cell XD.out 0).trans rfl, (blk_cell XD.out 1).trans rfl, (blk_cell XD.out 2).trans rfl, (blk_cell XD.out 3).trans rfl, (blk_cell XD.out 4).trans rfl, e2, e3, e4⟩ (fun hHeld => ?_)
          clear e2 e3 e4 le5 hC5 hct
          generalize w2.drew = wd at HC5 XD HOD HLD HBD hHeld ⊢
          obtain ⟨⟨⟨ro, rb, rl⟩, re⟩, hren⟩ : ∃ r, r = sRenew ⟨(rd_T35 o u).f2.f0, (rd_T35 o u).f2.f1, (rd_T35 o u).f2.f2⟩ ⟨(rd_T35 l kk).f2.f0, (rd_T35 l kk).f2.f1, (rd_T35 l kk).f2.f2⟩ (rd_T35 l kk).f1 := ⟨_, rfl⟩
          have HRN := Aside0.mk hren.symm
          have HCS := Aside0.mk (show (re = 0 ∧ renewD (rd_T35 o u).f2 (rd_T35 l kk).f2 (rd_T35 l kk).f1 = some ⟨ro, rb, rl⟩) ∨ (re = 2 ∧ renewD (rd_T35 o u).f2 (rd_T35 l kk).f2 (rd_T35 l kk).f1 = none) by
            have h2 := sRenew_of (dir := (rd_T35 l kk).f1) (HPR.out.val u hul) (vTw_desc (vTree_at HV.out hlt))
            rw [show sRenew (rd_T35 o u).f2 (rd_T35 l kk).f2 (rd_T35 l kk).f1 = (⟨ro, rb, rl⟩, re) from hren.symm] at h2
            cases hrd : renewD (rd_T35 o u).f2 (rd_T35 l kk).f2 (rd_T35 l kk).f1 with
            | none => rw [hrd] at h2; cases h2; exact .inr ⟨rfl, rfl⟩
            | some d' => rw [hrd] at h2; cases h2; exact .inl ⟨rfl, rfl⟩)
          clear hren
          refine pure_ (i := 0) (N := some 39) (v := ?_) (a' := ?_) #[true, false, false, false, false, false, false, false, false, false, false, false, false, false, false, false, false] rfl rfl (by kernel_rfl) (fun _ _ _ h => h) (Or.inl ⟨by rfl, ?_⟩) ?_ ?_
          rotate_left
          · intro w'
            go_simp
            with_reducible rfl
          rotate_left
          · simp only [Act.put, List.setIfInBounds_toArray, List.set_cons_zero, List.set_cons_succ, i64_w, i32_w]
            rfl
          refine pure_ (i := 1) (N := some 40) (v := ?_) (a' := ?_) #[true, true, false, false, false, false, false, false, false, false, false, false, false, false, false, false, false] rfl rfl (by kernel_rfl) (fun _ _ _ h => h) (Or.inl ⟨by rfl, ?_⟩) ?_ ?_
          rotate_left
          · intro w'
            go_simp
            with_reducible rfl
          rotate_left
          · simp only [Act.put, List.setIfInBounds_toArray, List.set_cons_zero, List.set_cons_succ, i64_w, i32_w]
            rfl
          refine take_ (i := 2) (N := some 41) (v := ?_) (a' := ?_) #[true, true, true, false, false, false, false, false, false, false, false, false, false, false, false, false, false] rfl rfl (by kernel_rfl) (fun _ _ _ h => h) (Or.inl ⟨by rfl, ?_⟩) hHeld ?_ ?_
          rotate_left
          · rintro w' ⟨s0, s1, s2, s3, s4, s5, s6, s7⟩
            go_simp
            with_reducible rfl
          rotate_left
          · simp only [Act.put, List.setIfInBounds_toArray, List.set_cons_zero, List.set_cons_succ, i64_w, i32_w]
            rfl
          refine pure_ (i := 3) (N := some 42) (v := ?_) (a' := ?_) #[true, true, true, true, false, false, false, false, false, false, false, false, false, false, false, false, false] rfl rfl (by kernel_rfl) (fun _ _ _ h => h) (Or.inl ⟨by rfl, ?_⟩) ?_ ?_
          rotate_left
          · intro w'
            go_simp
            with_reducible rfl
          rotate_left
          · simp only [Act.put, List.setIfInBounds_toArray, List.set_cons_zero, List.set_cons_succ, i64_w, i32_w]
            rfl
          refine pure_ (i := 4) (N := some 43) (v := ?_) (a' := ?_) #[true, true, true, true, true, false, false, false, false, false, false, false, false, false, false, false, false] rfl rfl (by kernel_rfl) (fun _ _ _ h => h) (Or.inl ⟨by rfl, ?_⟩) ?_ ?_
          rotate_left
          · intro w'
            go_simp
            with_reducible rfl
          rotate_left
          · simp only [Act.put, List.setIfInBounds_toArray, List.set_cons_zero, List.set_cons_succ, i64_w, i32_w]
            rfl
          refine take_ (i := 5) (N := some 44) (v := ?_) (a' := ?_) #[true, true, true, true, true, true, false, false, false, false, false, false, false, false, false, false, false] rfl rfl (by kernel_rfl) (fun _ _ _ h => h) (Or.inl ⟨by rfl, ?_⟩) hHeld ?_ ?_
          rotate_left
          · rintro w' ⟨s0, s1, s2, s3, s4, s5, s6, s7⟩
            go_simp
            with_reducible rfl
          rotate_left
          · simp only [Act.put, List.setIfInBounds_toArray, List.set_cons_zero, List.set_cons_succ, i64_w, i32_w]
            rfl
          refine pure_ (i := 6) (N := some 45) (v := ?_) (a' := ?_) #[true, true, true, true, true, true, true, false, false, false, false, false, false, false, false, false, false] rfl rfl (by kernel_rfl) (fun _ _ _ h => h) (Or.inl ⟨by rfl, ?_⟩) ?_ ?_
          rotate_left
          · intro w'
            go_simp
            with_reducible rfl
          rotate_left
          · simp only [Act.put, List.setIfInBounds_toArray, List.set_cons_zero, List.set_cons_succ, i64_w, i32_w]
            rfl
          refine take_ (i := 7) (N := some 46) (v := ?_) (a' := ?_) #[true, true, true, true, true, true, true, true, false, false, false, false, false, false, false, false, false] rfl rfl (by kernel_rfl) (fun _ _ _ h => h) (Or.inl ⟨by rfl, ?_⟩) hHeld ?_ ?_
          rotate_left
          · rintro w' ⟨s0, s1, s2, s3, s4, s5, s6, s7⟩
            go_simp
            with_reducible rfl
          rotate_left
          · simp only [Act.put, List.setIfInBounds_toArray, List.set_cons_zero, List.set_cons_succ, i64_w, i32_w]
            rfl
          refine pure_ (i := 8) (N := some 47) (v := ?_) (a' := ?_) #[true, true, true, true, true, true, true, true, true, false, false, false, false, false, false, false, false] rfl rfl (by kernel_rfl) (fun _ _ _ h => h) (Or.inl ⟨by rfl, ?_⟩) ?_ ?_
          rotate_left
          · intro w'
            go_simp
            with_reducible rfl
          rotate_left
          · simp only [Act.put, List.setIfInBounds_toArray, List.set_cons_zero, List.set_cons_succ, i64_w, i32_w]
            rfl
          refine take_ (i := 9) (N := some 48) (v := ?_) (a' := ?_) #[true, true, true, true, true, true, true, true, true, true, false, false, false, false, false, false, false] rfl rfl (by kernel_rfl) (fun _ _ _ h => h) (Or.inl ⟨by rfl, ?_⟩) hHeld ?_ ?_
          rotate_left
          · rintro w' ⟨s0, s1, s2, s3, s4, s5, s6, s7⟩
            go_simp
            with_reducible rfl
          rotate_left
          · simp only [Act.put, List.setIfInBounds_toArray, List.set_cons_zero, List.set_cons_succ, i64_w, i32_w]
            rfl
          refine join_ (σ := Value × Nat) 2 #[true, true, true, true, true, true, true, true, true, true, true, true, true, true, true, false, false] (fun s => [(49, .tuple #[.agg #[.int .i64 ro, .bool rb, s.1], .int .i64 re]), (38, .tuple #[.agg #[.int .i64 ro, .bool rb, s.1], .int .i64 re]), (50, .agg #[.int .i64 ro, .bool rb, s.1]), (51, .int .i64 re), (9, .pointer (some ⟨s.2, 0, none⟩))]) (fun s w' => (∃ A c, s.1 = .slice A rl.length c) ∧ RA w' w.heap.size s.1 rl ∧ wd.heap.size ≤ s.2 ∧ w'.heap[s.2]? = some (.cells #[.int .i64 0, .bool false, .slice none 0 0] 33 (0, 0)) ∧ Below w.heap.size w w' ∧ w'.heap[wr.heap.size]? = some (.cells #[.int .i64 (u : Int), .bool (rd_T35 l kk).f1, .int .i64 (rd_T35 l kk).f2.f0, .bool (rd_T35 l kk).f2.f1, .slice A3 (rd_T35 l kk).f2.f2.length c3] 35 (0, 0)) ∧ Kd.R k35 35 w' w.heap.size (fun k => True ∧ k ≠ wr.heap.size) (.slice (some ⟨gb, 0, none⟩) o.length co) o) ?cont ?orders
          case orders =>
            intro hCont
            refine two_ (i := 10) (j := 14) (Ni := some 49) (Nj := some 9) #[true, true, true, true, true, true, true, true, true, true, true, false, false, false, false, false, false] #[true, true, true, true, true, true, true, true, true, true, false, false, false, false, true, false, false] rfl rfl rfl rfl (by kernel_rfl) (by decide) (by decide) (fun K hK => ?_) (fun K hK => ?_)
            · refine goes_ Try.func28 (by kernel_rfl) rfl #[.agg #[.int .i64 (rd_T35 o u).f2.f0, .bool (rd_T35 o u).f2.f1, .slice A5 (rd_T35 o u).f2.f2.length c5], .agg #[.int .i64 (rd_T35 l kk).f2.f0, .bool (rd_T35 l kk).f2.f1, .slice A3 (rd_T35 l kk).f2.f2.length c3], .bool (rd_T35 l kk).f1] (by rfl) rfl rfl (by (try simp only [List.map_toArray, List.map_cons, List.map_nil]); first | done | rfl) ?_
              have hq := rRenew_calls (rd_T35 o u).f2.f0 (rd_T35 l kk).f2.f0 (rd_T35 o u).f2.f1 (rd_T35 l kk).f2.f1 A5 A3 c5 c3 (rd_T35 o u).f2.f2 (rd_T35 l kk).f2.f2 (rd_T35 l kk).f1 wd HC5.out HL5.out (Kd.R_reads' HLD.out).2.2 (Kd.R_reads' HLD.out).2.1
              rw [HRN.out] at hq
              refine hq.mono ?_
              rintro e w5 ⟨v5, rfl, hra, hb⟩
              replace hra : RA w5 wd.heap.size v5 rl := hra
              refine ⟨_, rfl, ?_⟩
              dsimp only
              obtain ⟨t0, t1, t2, t3, t4, t5, t6, t7⟩ := hHeld
              obtain ⟨A9, c9, rfl⟩ := Kd.R_slice hra
              refine hK.out _ _ ⟨(hb.cell (World.block_lt_of_cell? wd _ t0)).trans t0, (hb.cell (World.block_lt_of_cell? wd _ t1)).trans t1, (hb.cell (World.block_lt_of_cell? wd _ t2)).trans t2, (hb.cell (World.block_lt_of_cell? wd _ t3)).trans t3, (hb.cell (World.block_lt_of_cell? wd _ t4)).trans t4, (hb.cell (World.block_lt_of_cell? wd _ t5)).trans t5, (hb.cell (World.block_lt_of_cell? wd _ t6)).trans t6, (hb.cell (World.block_lt_of_cell? wd _ t7)).trans t7⟩ (fun hHeld => ?_)
              clear hK K t0 t1 t2 t3 t4 t5 t6 t7 hq
              refine norm_ (a' := ?_) ?_ ?_
              rotate_left
              · show Act.put _ (some 49) _ = _
                simp only [Act.put, List.setIfInBounds_toArray, List.set_cons_zero, List.set_cons_succ, i64_w, i32_w]
                rfl
              skip
              refine pure_ (i := 11) (N := some 38) (v := ?_) (a' := ?_) #[true, true, true, true, true, true, true, true, true, true, true, true, false, false, false, false, false] rfl rfl (by kernel_rfl) (fun _ _ _ h => h) (Or.inl ⟨by rfl, ?_⟩) ?_ ?_
              rotate_left
              · intro w'
                go_simp
                with_reducible rfl
              rotate_left
              · simp only [Act.put, List.setIfInBounds_toArray, List.set_cons_zero, List.set_cons_succ, i64_w, i32_w]
                rfl
              refine pure_ (i := 12) (N := some 50) (v := ?_) (a' := ?_) #[true, true, true, true, true, true, true, true, true, true, true, true, true, false, false, false, false] rfl rfl (by kernel_rfl) (fun _ _ _ h => h) (Or.inl ⟨by rfl, ?_⟩) ?_ ?_
              rotate_left
              · intro w'
                go_simp
                with_reducible rfl
              rotate_left
              · simp only [Act.put, List.setIfInBounds_toArray, List.set_cons_zero, List.set_cons_succ, i64_w, i32_w]
                rfl
              refine pure_ (i := 13) (N := some 51) (v := ?_) (a' := ?_) #[true, true, true, true, true, true, true, true, true, true, true, true, true, true, false, false, false] rfl rfl (by kernel_rfl) (fun _ _ _ h => h) (Or.inl ⟨by rfl, ?_⟩) ?_ ?_
              rotate_left
              · intro w'
                go_simp
                with_reducible rfl
              rotate_left
              · simp only [Act.put, List.setIfInBounds_toArray, List.set_cons_zero, List.set_cons_succ, i64_w, i32_w]
                rfl
              refine one_ (i := 14) (N := some 9) #[true, true, true, true, true, true, true, true, true, true, true, true, true, true, true, false, false] rfl rfl (by kernel_rfl) (by decide) (fun K hK => ?_)
              refine box_step ?hg (N := 9) ?hd (cs := #[.int .i64 0, .bool false, .slice none 0 0]) (t := 33) ?hr ?_
              (case hd => rfl)
              (case hg => rfl)
              (case hr => first | (go_simp; done) | (go_simp; rfl))
              intro ga hga w6 hbox hb6
              obtain ⟨t0, t1, t2, t3, t4, t5, t6, t7⟩ := hHeld
              refine hK.out _ _ ⟨(hb6.cell (World.block_lt_of_cell? w5 _ t0)).trans t0, (hb6.cell (World.block_lt_of_cell? w5 _ t1)).trans t1, (hb6.cell (World.block_lt_of_cell? w5 _ t2)).trans t2, (hb6.cell (World.block_lt_of_cell? w5 _ t3)).trans t3, (hb6.cell (World.block_lt_of_cell? w5 _ t4)).trans t4, (hb6.cell (World.block_lt_of_cell? w5 _ t5)).trans t5, (hb6.cell (World.block_lt_of_cell? w5 _ t6)).trans t6, (hb6.cell (World.block_lt_of_cell? w5 _ t7)).trans t7⟩ (fun hHeld => ?_)
              have hs5 := hb.size
              refine norm_ ?_ (hCont (.slice A9 rl.length c9, ga) w6 ⟨⟨_, _, rfl⟩, Kd.R_below (Kd.R_lower hra HBD.out.size) hb6, (show wd.heap.size ≤ ga by omega), hbox, below_step (below_step HBD.out hb) hb6, blk_below (blk_below XD.out hb) hb6, Kd.R_below (Kd.R_below HOD.out hb) hb6⟩)
              rfl
            · refine box_step ?hg (N := 9) ?hd (cs := #[.int .i64 0, .bool false, .slice none 0 0]) (t := 33) ?hr ?_
              (case hd => rfl)
              (case hg => rfl)
              (case hr => first | (go_simp; done) | (go_simp; rfl))
              intro ga hga w5 hbox hb
              obtain ⟨t0, t1, t2, t3, t4, t5, t6, t7⟩ := hHeld
              refine hK.out _ _ ⟨(hb.cell (World.block_lt_of_cell? wd _ t0)).trans t0, (hb.cell (World.block_lt_of_cell? wd _ t1)).trans t1, (hb.cell (World.block_lt_of_cell? wd _ t2)).trans t2, (hb.cell (World.block_lt_of_cell? wd _ t3)).trans t3, (hb.cell (World.block_lt_of_cell? wd _ t4)).trans t4, (hb.cell (World.block_lt_of_cell? wd _ t5)).trans t5, (hb.cell (World.block_lt_of_cell? wd _ t6)).trans t6, (hb.cell (World.block_lt_of_cell? wd _ t7)).trans t7⟩ (fun hHeld => ?_)
              clear hK K t0 t1 t2 t3 t4 t5 t6 t7
              refine norm_ (a' := ?_) ?_ ?_
              rotate_left
              · show Act.put _ (some 9) _ = _
                simp only [Act.put, List.setIfInBounds_toArray, List.set_cons_zero, List.set_cons_succ, i64_w, i32_w]
                rfl
              refine one_ (i := 10) (N := some 49) #[true, true, true, true, true, true, true, true, true, true, true, false, false, false, true, false, false] rfl rfl (by kernel_rfl) (by decide) (fun K hK => ?_)
              refine goes_ Try.func28 (by kernel_rfl) rfl #[.agg #[.int .i64 (rd_T35 o u).f2.f0, .bool (rd_T35 o u).f2.f1, .slice A5 (rd_T35 o u).f2.f2.length c5], .agg #[.int .i64 (rd_T35 l kk).f2.f0, .bool (rd_T35 l kk).f2.f1, .slice A3 (rd_T35 l kk).f2.f2.length c3], .bool (rd_T35 l kk).f1] (by rfl) rfl rfl (by (try simp only [List.map_toArray, List.map_cons, List.map_nil]); first | done | rfl) ?_
              have hq := rRenew_calls (rd_T35 o u).f2.f0 (rd_T35 l kk).f2.f0 (rd_T35 o u).f2.f1 (rd_T35 l kk).f2.f1 A5 A3 c5 c3 (rd_T35 o u).f2.f2 (rd_T35 l kk).f2.f2 (rd_T35 l kk).f1 w5 (Kd.C_below HC5.out hb) HL5.out (Kd.C_below (Kd.R_reads' HLD.out).2.2 hb) (Kd.R_reads' HLD.out).2.1
              rw [HRN.out] at hq
              refine hq.mono ?_
              rintro e w6 ⟨v5, rfl, hra, hb6⟩
              replace hra : RA w6 w5.heap.size v5 rl := hra
              refine ⟨_, rfl, ?_⟩
              dsimp only
              obtain ⟨t0, t1, t2, t3, t4, t5, t6, t7⟩ := hHeld
              obtain ⟨A9, c9, rfl⟩ := Kd.R_slice hra
              refine hK.out _ _ ⟨(hb6.cell (World.block_lt_of_cell? w5 _ t0)).trans t0, (hb6.cell (World.block_lt_of_cell? w5 _ t1)).trans t1, (hb6.cell (World.block_lt_of_cell? w5 _ t2)).trans t2, (hb6.cell (World.block_lt_of_cell? w5 _ t3)).trans t3, (hb6.cell (World.block_lt_of_cell? w5 _ t4)).trans t4, (hb6.cell (World.block_lt_of_cell? w5 _ t5)).trans t5, (hb6.cell (World.block_lt_of_cell? w5 _ t6)).trans t6, (hb6.cell (World.block_lt_of_cell? w5 _ t7)).trans t7⟩ (fun hHeld => ?_)
              clear hK K t0 t1 t2 t3 t4 t5 t6 t7 hq
              refine norm_ (a' := ?_) ?_ ?_
              rotate_left
              · show Act.put _ (some 49) _ = _
                simp only [Act.put, List.setIfInBounds_toArray, List.set_cons_zero, List.set_cons_succ, i64_w, i32_w]
                rfl
              skip
              refine pure_ (i := 11) (N := some 38) (v := ?_) (a' := ?_) #[true, true, true, true, true, true, true, true, true, true, true, true, false, false, true, false, false] rfl rfl (by kernel_rfl) (fun _ _ _ h => h) (Or.inl ⟨by rfl, ?_⟩) ?_ ?_
              rotate_left
              · intro w'
                go_simp
                with_reducible rfl
              rotate_left
              · simp only [Act.put, List.setIfInBounds_toArray, List.set_cons_zero, List.set_cons_succ, i64_w, i32_w]
                rfl
              refine pure_ (i := 12) (N := some 50) (v := ?_) (a' := ?_) #[true, true, true, true, true, true, true, true, true, true, true, true, true, false, true, false, false] rfl rfl (by kernel_rfl) (fun _ _ _ h => h) (Or.inl ⟨by rfl, ?_⟩) ?_ ?_
              rotate_left
              · intro w'
                go_simp
                with_reducible rfl
              rotate_left
              · simp only [Act.put, List.setIfInBounds_toArray, List.set_cons_zero, List.set_cons_succ, i64_w, i32_w]
                rfl
              refine pure_ (i := 13) (N := some 51) (v := ?_) (a' := ?_) #[true, true, true, true, true, true, true, true, true, true, true, true, true, true, true, false, false] rfl rfl (by kernel_rfl) (fun _ _ _ h => h) (Or.inl ⟨by rfl, ?_⟩) ?_ ?_
              rotate_left
              · intro w'
                go_simp
                with_reducible rfl
              rotate_left
              · simp only [Act.put, List.setIfInBounds_toArray, List.set_cons_zero, List.set_cons_succ, i64_w, i32_w]
                rfl
              refine norm_ ?_ (hCont (.slice A9 rl.length c9, ga) w6 ⟨⟨_, _, rfl⟩, Kd.R_lower hra (below_step HBD.out hb).size, (show wd.heap.size ≤ ga by omega), blk_below hbox hb6, below_step (below_step HBD.out hb) hb6, blk_below (blk_below XD.out hb) hb6, Kd.R_below (Kd.R_below HOD.out hb) hb6⟩)
              rfl
          case cont =>
            rintro ⟨v9, ga⟩ w6 ⟨⟨A9, c9, rfl⟩, hra, hga, hbox, hb6, hx6, ho6⟩
            simp only [putAll, Act.put, List.setIfInBounds_toArray, List.set_cons_zero, List.set_cons_succ]
            dsimp only at hra hga hbox
            have hxd := blk_lt XD.out
            have HGX := Aside0.mk (show wr.heap.size ≠ ga by omega)
            have HGW := Aside0.mk (Nat.le_trans HBD.out.size hga)
            have HRA6 := Aside0.mk hra
            have HB6 := Aside0.mk hb6
            have HX6 := Aside0.mk hx6
            have HO6 := Aside0.mk ho6
            have HA6 := Aside0.mk hbox
            have z0 := (blk_cell hbox 0).trans rfl; have z1 := (blk_cell hbox 1).trans rfl; have z2 := (blk_cell hbox 2).trans rfl
            have fz0 := blk_frozen hbox 0; have fz1 := blk_frozen hbox 1; have fz2 := blk_frozen hbox 2
            clear hra hga hbox hb6 hx6 ho6 hxd XD HOD HLD HBD HC5 hHeld
            refine last_ (i := 15) (N := none) #[true, true, true, true, true, true, true, true, true, true, true, true, true, true, true, true, false] rfl rfl (by kernel_rfl) (by decide) (fun K hK => ?_)
            refine skip_ (w1 := ?_) (by rfl) rfl ?_ ?_
            rotate_left
            · go_simp
              rfl
            refine hK.out _ _ ?_
            clear hK K
            skip
            refine pure_ (i := 16) (N := some 10) (v := ?_) (a' := ?_) #[true, true, true, true, true, true, true, true, true, true, true, true, true, true, true, true, true] rfl rfl (by kernel_rfl) (fun _ _ _ h => h) (Or.inl ⟨by rfl, ?_⟩) ?_ ?_
            rotate_left
            · intro w'
              go_simp
              with_reducible rfl
            rotate_left
            · simp only [Act.put, List.setIfInBounds_toArray, List.set_cons_zero, List.set_cons_succ, i64_w, i32_w]
              rfl
            refine done_ (by kernel_rfl) ?_
            obtain ⟨w7, hw7⟩ : ∃ w7, w7 = (((w6.setCell ⟨ga, 0, none⟩ (.int .i64 ro)).setCell ⟨ga, 1, none⟩ (.bool rb)).setCell ⟨ga, 2, none⟩ (.slice A9 rl.length c9)) := ⟨_, rfl⟩
            rw [← hw7]
            have q1 := blk_put HA6.out 0 (.int .i64 ro) rfl
            have q2 := blk_put q1 1 (.bool rb) rfl
            have q3 := blk_put q2 2 (.slice A9 rl.length c9) rfl
            have HA7 := Aside0.mk (show w7.heap[ga]? = some (.cells #[.int .i64 ro, .bool rb, .slice A9 rl.length c9] 33 (0, 0)) by rw [hw7]; exact q3)
            have HX7 := Aside0.mk (show w7.heap[wr.heap.size]? = some (.cells #[.int .i64 (u : Int), .bool (rd_T35 l kk).f1, .int .i64 (rd_T35 l kk).f2.f0, .bool (rd_T35 l kk).f2.f1, .slice A3 (rd_T35 l kk).f2.f2.length c3] 35 (0, 0)) by rw [hw7]; exact blk_far (blk_far (blk_far HX6.out HGX.out _) HGX.out _) HGX.out _)
            have HO7 := Aside0.mk (show Kd.R k35 35 w7 w.heap.size (fun k => True ∧ k ≠ wr.heap.size) (.slice (some ⟨gb, 0, none⟩) o.length co) o by rw [hw7]; exact Kd.R_set (Kd.R_set (Kd.R_set HO6.out HA6.out (by decide) 0 _) q1 (by decide) 1 _) q2 (by decide) 2 _)
            have HRA7 := Aside0.mk (show RA w7 w.heap.size (.slice A9 rl.length c9) rl by rw [hw7]; exact Kd.R_set (Kd.R_set (Kd.R_set HRA6.out HA6.out (by decide) 0 _) q1 (by decide) 1 _) q2 (by decide) 2 _)
            have HB7 := Aside0.mk (show Below w.heap.size w w7 by rw [hw7]; exact ((HB6.out.setCell (p := ⟨ga, 0, none⟩) HGW.out _).setCell (p := ⟨ga, 1, none⟩) HGW.out _).setCell (p := ⟨ga, 2, none⟩) HGW.out _)
            clear hw7 q1 q2 q3 z0 z1 z2 fz0 fz1 fz2 HRA6 HB6 HX6 HO6 HA6
            rcases HCS.out with ⟨rfl, hs⟩ | ⟨rfl, hs⟩
            · have HS := Aside0.mk hs
              clear hs HCS HRN
              have z0 := (blk_cell HA7.out 0).trans rfl; have z1 := (blk_cell HA7.out 1).trans rfl; have z2 := (blk_cell HA7.out 2).trans rfl
              have x0 := (blk_cell HX7.out 0).trans rfl; have x1 := (blk_cell HX7.out 1).trans rfl; have x2 := (blk_cell HX7.out 2).trans rfl; have x3 := (blk_cell HX7.out 3).trans rfl; have x4 := (blk_cell HX7.out 4).trans rfl
              have fx0 := blk_frozen HX7.out 0; have fx1 := blk_frozen HX7.out 1; have fx2 := blk_frozen HX7.out 2; have fx3 := blk_frozen HX7.out 3; have fx4 := blk_frozen HX7.out 4
              go_upto_region 12 with (fail)
              obtain ⟨w9, hw9⟩ : ∃ w9, w9 = (((w7.setCell ⟨wr.heap.size, 2, none⟩ (.int .i64 ro)).setCell ⟨wr.heap.size, 3, none⟩ (.bool rb)).setCell ⟨wr.heap.size, 4, none⟩ (.slice A9 rl.length c9)) := ⟨_, rfl⟩
              rw [← hw9]
              have q1 := blk_put HX7.out 2 (.int .i64 ro) rfl
              have q2 := blk_put q1 3 (.bool rb) rfl
              have q3 := blk_put q2 4 (.slice A9 rl.length c9) rfl
              have HX9 := Aside0.mk (show w9.heap[wr.heap.size]? = some (.cells #[.int .i64 (u : Int), .bool (rd_T35 l kk).f1, .int .i64 ro, .bool rb, .slice A9 rl.length c9] 35 (0, 0)) by rw [hw9]; exact q3)
              have HO9 := Aside0.mk (show Kd.R k35 35 w9 w.heap.size (fun k => True ∧ k ≠ wr.heap.size) (.slice (some ⟨gb, 0, none⟩) o.length co) o by rw [hw9]; exact Kd.R_far (Kd.R_far (Kd.R_far HO7.out (p := ⟨wr.heap.size, 2, none⟩) (fun k hk => hk.2) _) (p := ⟨wr.heap.size, 3, none⟩) (fun k hk => hk.2) _) (p := ⟨wr.heap.size, 4, none⟩) (fun k hk => hk.2) _)
              have HRA9 := Aside0.mk (show RA w9 w.heap.size (.slice A9 rl.length c9) rl by rw [hw9]; exact Kd.R_set (Kd.R_set (Kd.R_set HRA7.out HX7.out (by decide) 2 _) q1 (by decide) 3 _) q2 (by decide) 4 _)
              have HB9 := Aside0.mk (show Below w.heap.size w w9 by rw [hw9]; exact ((HB7.out.setCell (p := ⟨wr.heap.size, 2, none⟩) HXG.out _).setCell (p := ⟨wr.heap.size, 3, none⟩) HXG.out _).setCell (p := ⟨wr.heap.size, 4, none⟩) HXG.out _)
              clear hw9 q1 q2 q3 z0 z1 z2 x0 x1 x2 x3 x4 fx0 fx1 fx2 fx3 fx4 HA7 HX7 HO7 HRA7 HB7
              have x0 := (blk_cell HX9.out 0).trans rfl; have x1 := (blk_cell HX9.out 1).trans rfl; have x2 := (blk_cell HX9.out 2).trans rfl; have x3 := (blk_cell HX9.out 3).trans rfl; have x4 := (blk_cell HX9.out 4).trans rfl
              go_wp2_with ((with_reducible refine gate_builtin (b := .append) (xs := #[.tmp 57, .tmp 59]) rfl ?_); at_builtin; refine Kd.R_append k35 (w0 := w) w.heap.size rfl (.tmp 57) (.tmp 59) 22 35 (.agg #[(.int .i64 0), (.bool false), (.int .i64 0), (.bool false), (.slice none 0 0)]) 56 rfl Try.underlying22 info35 rfl (by decide) (by omega) (.slice (some ⟨gb, 0, none⟩) o.length co) o ((⟨(u : Int), (rd_T35 l kk).f1, ⟨ro, rb, rl⟩⟩ : S35)) [.int .i64 ((⟨(u : Int), (rd_T35 l kk).f1, ⟨ro, rb, rl⟩⟩ : S35)).f0, .bool ((⟨(u : Int), (rd_T35 l kk).f1, ⟨ro, rb, rl⟩⟩ : S35)).f1, .int .i64 ((⟨(u : Int), (rd_T35 l kk).f1, ⟨ro, rb, rl⟩⟩ : S35)).f2.f0, .bool ((⟨(u : Int), (rd_T35 l kk).f1, ⟨ro, rb, rl⟩⟩ : S35)).f2.f1, .slice A9 rl.length c9] (fun _ => True) _ rfl rfl (k35_mkM _ _ (fun k => True ∧ some k ≠ ((.slice (some ⟨gb, 0, none⟩) o.length co) : Value).ownBlock) ((⟨(u : Int), (rd_T35 l kk).f1, ⟨ro, rb, rl⟩⟩ : S35)) ?hM) (fun k hk => ⟨trivial, hk.2⟩) (fun _ _ => trivial) (Kd.R_mono HO9.out (fun _ _ => trivial)) HB9.out HB9.out.size (by have := HPR.out.len; have := HM.out; omega) ?_; (case hM => exact Kd.R_apartR HRA9.out HO9.out (by decide)); intro v8 w8 ho hb hg hat; have HO8 := Aside0.mk ho; have HB8 := Aside0.mk hb; clear ho hb hg hat)
              go_roundg (l.length - (kk + 1))
              case measure => have := HK.out; omega
              case rel => exact ⟨kk + 1, _, HWR.out, ⟨by omega⟩, ⟨by have := HPR.out.renew HU.out hlt h0 HUE.out hul HDN.out (vTw_desc (vTree_at HV.out hlt)) HS.out; rwa [show ({ rd_T35 l kk with f2 := ⟨ro, rb, rl⟩ } : S35) = ⟨(u : Int), (rd_T35 l kk).f1, ⟨ro, rb, rl⟩⟩ by rw [← HUE.out]] at this⟩, HO8, HB8⟩
            · go_wp2
              refine bodyPost_ret (renewed_end (by rfl) (by rfl)) rfl ⟨HB7.out, .inr ⟨kk, u, o, rfl, HPR.out, h0, hlt, HUE.out, HDN.out, hs⟩⟩
        · have f3 : ((j : Int) == (kk : Int)) = false := beq_false_of_ne (by omega)
          have f4 : decide (j = kk) = false := decide_eq_false hjk
          have f5 : decide ((j : Int) = (kk : Int)) = false := decide_eq_false (by omega)
          clear hu
          cases hdn : dnB l kk j with
          | false =>
            have HDN := Aside0.mk hdn
            go_upto_region 12 with (go_at_call 38; refine (archivoltref23_Below.calls (j + 1) (some ad) c l (j : Int) (kk : Int) _ w2 (Kd.C_below HR.out HB2.out) HC.out (by unfold archivoltref23_Below.f; exact below_l HU.out kk (j + 1) j (by omega) hlt)).mono ?_; rintro e w3 ⟨rfl, hb⟩; rw [below_dn HU.out kk hlt hjk, HDN.out]; have HB3 := Aside0.mk (below_step HB2.out hb.below); have X3 := Aside0.mk (blk_below X2.out hb.below); have HO3 := Aside0.mk (Kd.R_below HO2.out hb.below); have HL6 := Aside0.mk (Kd.R_below HL4.out hb.below); clear hb)
            have x0 := (blk_cell X3.out 0).trans rfl; have x1 := (blk_cell X3.out 1).trans rfl; have x2 := (blk_cell X3.out 2).trans rfl; have x3 := (blk_cell X3.out 3).trans rfl; have x4 := (blk_cell X3.out 4).trans rfl
            go_wp2_with ((with_reducible refine gate_builtin (b := .append) (xs := #[.tmp 57, .tmp 59]) rfl ?_); at_builtin; refine Kd.R_append k35 (w0 := w) w.heap.size rfl (.tmp 57) (.tmp 59) 22 35 (.agg #[(.int .i64 0), (.bool false), (.int .i64 0), (.bool false), (.slice none 0 0)]) 56 rfl Try.underlying22 info35 rfl (by decide) (by omega) u6 o (rd_T35 l j) [.int .i64 (rd_T35 l j).f0, .bool (rd_T35 l j).f1, .int .i64 (rd_T35 l j).f2.f0, .bool (rd_T35 l j).f2.f1, .slice A3 (rd_T35 l j).f2.f2.length c3] (fun _ => True) _ rfl rfl (k35_mkM _ _ (fun k => True ∧ some k ≠ (u6 : Value).ownBlock) (rd_T35 l j) ?hM) (fun k hk => ⟨trivial, hk.2⟩) (fun _ _ => trivial) (Kd.R_mono HO3.out (fun _ _ => trivial)) HB3.out HB3.out.size (by have := HPR.out.len; have := HM.out; omega) ?_; (case hM => exact Kd.R_apartR HL6.out HO3.out (by decide)); intro v8 w8 ho hb hg hat; have HO8 := Aside0.mk ho; have HB8 := Aside0.mk hb; clear ho hb hg hat)
            go_roundg (l.length - (j + 1))
            case measure => have := HK.out; omega
            case rel => exact ⟨j + 1, _, (by first | exact HWR.out | exact congrArg _ (by omega)), ⟨by omega⟩, ⟨HPR.out.keep HU.out hlt (vTw_desc (vTree_at HV.out hlt)) (fun h => by rw [HDN.out] at h; exact absurd h.2 (by decide))⟩, HO8, HB8⟩
          | true =>
            have HDN := Aside0.mk hdn
            go_upto_region 8 with (go_at_call 38; refine (archivoltref23_Below.calls (j + 1) (some ad) c l (j : Int) (kk : Int) _ w2 (Kd.C_below HR.out HB2.out) HC.out (by unfold archivoltref23_Below.f; exact below_l HU.out kk (j + 1) j (by omega) hlt)).mono ?_; rintro e w3 ⟨rfl, hb⟩; rw [below_dn HU.out kk hlt hjk, HDN.out]; have HB3 := Aside0.mk (below_step HB2.out hb.below); have X3 := Aside0.mk (show w3.heap[wr.heap.size]? = some (.cells #[.int .i64 (u : Int), .bool (rd_T35 l j).f1, .int .i64 (rd_T35 l j).f2.f0, .bool (rd_T35 l j).f2.f1, .slice A3 (rd_T35 l j).f2.f2.length c3] 35 (0, 0)) by have := blk_below X2.out hb.below; rwa [HUE.out] at this); have HO3 := Aside0.mk (Kd.R_below HO2.out hb.below); have HL6 := Aside0.mk (Kd.R_below HL4.out hb.below); clear hb)
            have hou : u < o.length := by have := HPR.out.len; omega
            obtain ⟨gb, co, rfl, hgb, hgl, cells, hct⟩ := Kd.R_form HO3.out (by omega)
            obtain ⟨A5, c5, e2, e3, e4, le5, hC5⟩ := elem35 (Kd.R_mono HO3.out (fun _ _ => trivial)) hou
            have HC5 := Aside0.mk (Kd.C_drew hC5)
            have HL5 := Aside0.mk le5
            have XD := Aside0.mk (blk_drew X3.out)
            have HOD := Aside0.mk (Kd.R_drew HO3.out)
            have HLD := Aside0.mk (Kd.R_drew HL6.out)
            have HBD := Aside0.mk (below_drew1 HB3.out)
            refine start_ (n := 17) (S := fun w' => w'.cell? ⟨wr.heap.size, 0, none⟩ = some (.int .i64 (u : Int)) ∧ w'.cell? ⟨wr.heap.size, 1, none⟩ = some (.bool (rd_T35 l j).f1) ∧ w'.cell? ⟨wr.heap.size, 2, none⟩ = some (.int .i64 (rd_T35 l j).f2.f0) ∧ w'.cell? ⟨wr.heap.size, 3, none⟩ = some (.bool (rd_T35 l j).f2.f1) ∧ w'.cell? ⟨wr.heap.size, 4, none⟩ = some (.slice A3 (rd_T35 l j).f2.f2.length c3) ∧ w'.cell? ⟨gb, u * 5 + 2, none⟩ = some (.int .i64 (rd_T35 o u).f2.f0) ∧ w'.cell? ⟨gb, u * 5 + 3, none⟩ = some (.bool (rd_T35 o u).f2.f1) ∧ w'.cell? ⟨gb, u * 5 + 4, none⟩ = some (.slice A5 (rd_T35 o u).f2.f2.length c5)) (ds := [15]) #[false, false, false, false, false, false, false, false, false, false, false, false, false, false, false, false, false] (by kernel_rfl) rfl rfl ⟨(blk_cell XD.out 0).trans rfl, (blk_cell XD.out 1).trans rfl, (blk_cell XD.out 2).trans rfl, (blk_cell XD.out 3).trans rfl, (blk_cell XD.out 4).trans rfl, e2, e3, e4⟩ (fun hHeld => ?_)
            clear e2 e3 e4 le5 hC5 hct
            generalize w3.drew = wd at HC5 XD HOD HLD HBD hHeld ⊢
            obtain ⟨⟨⟨ro, rb, rl⟩, re⟩, hren⟩ : ∃ r, r = sRenew ⟨(rd_T35 o u).f2.f0, (rd_T35 o u).f2.f1, (rd_T35 o u).f2.f2⟩ ⟨(rd_T35 l j).f2.f0, (rd_T35 l j).f2.f1, (rd_T35 l j).f2.f2⟩ (rd_T35 l j).f1 := ⟨_, rfl⟩
            have HRN := Aside0.mk hren.symm
            have HCS := Aside0.mk (show (re = 0 ∧ renewD (rd_T35 o u).f2 (rd_T35 l j).f2 (rd_T35 l j).f1 = some ⟨ro, rb, rl⟩) ∨ (re = 2 ∧ renewD (rd_T35 o u).f2 (rd_T35 l j).f2 (rd_T35 l j).f1 = none) by
              have h2 := sRenew_of (dir := (rd_T35 l j).f1) (HPR.out.val u hul) (vTw_desc (vTree_at HV.out hlt))
              rw [show sRenew (rd_T35 o u).f2 (rd_T35 l j).f2 (rd_T35 l j).f1 = (⟨ro, rb, rl⟩, re) from hren.symm] at h2
              cases hrd : renewD (rd_T35 o u).f2 (rd_T35 l j).f2 (rd_T35 l j).f1 with
              | none => rw [hrd] at h2; cases h2; exact .inr ⟨rfl, rfl⟩
              | some d' => rw [hrd] at h2; cases h2; exact .inl ⟨rfl, rfl⟩)
            clear hren
            refine pure_ (i := 0) (N := some 39) (v := ?_) (a' := ?_) #[true, false, false, false, false, false, false, false, false, false, false, false, false, false, false, false, false] rfl rfl (by kernel_rfl) (fun _ _ _ h => h) (Or.inl ⟨by rfl, ?_⟩) ?_ ?_
            rotate_left
            · intro w'
              go_simp
              with_reducible rfl
            rotate_left
            · simp only [Act.put, List.setIfInBounds_toArray, List.set_cons_zero, List.set_cons_succ, i64_w, i32_w]
              rfl
            refine pure_ (i := 1) (N := some 40) (v := ?_) (a' := ?_) #[true, true, false, false, false, false, false, false, false, false, false, false, false, false, false, false, false] rfl rfl (by kernel_rfl) (fun _ _ _ h => h) (Or.inl ⟨by rfl, ?_⟩) ?_ ?_
            rotate_left
            · intro w'
              go_simp
              with_reducible rfl
            rotate_left
            · simp only [Act.put, List.setIfInBounds_toArray, List.set_cons_zero, List.set_cons_succ, i64_w, i32_w]
              rfl
            refine take_ (i := 2) (N := some 41) (v := ?_) (a' := ?_) #[true, true, true, false, false, false, false, false, false, false, false, false, false, false, false, false, false] rfl rfl (by kernel_rfl) (fun _ _ _ h => h) (Or.inl ⟨by rfl, ?_⟩) hHeld ?_ ?_
            rotate_left
            · rintro w' ⟨s0, s1, s2, s3, s4, s5, s6, s7⟩
              go_simp
              with_reducible rfl
            rotate_left
            · simp only [Act.put, List.setIfInBounds_toArray, List.set_cons_zero, List.set_cons_succ, i64_w, i32_w]
              rfl
            refine pure_ (i := 3) (N := some 42) (v := ?_) (a' := ?_) #[true, true, true, true, false, false, false, false, false, false, false, false, false, false, false, false, false] rfl rfl (by kernel_rfl) (fun _ _ _ h => h) (Or.inl ⟨by rfl, ?_⟩) ?_ ?_
            rotate_left
            · intro w'
              go_simp
              with_reducible rfl
            rotate_left
            · simp only [Act.put, List.setIfInBounds_toArray, List.set_cons_zero, List.set_cons_succ, i64_w, i32_w]
              rfl
            refine pure_ (i := 4) (N := some 43) (v := ?_) (a' := ?_) #[true, true, true, true, true, false, false, false, false, false, false, false, false, false, false, false, false] rfl rfl (by kernel_rfl) (fun _ _ _ h => h) (Or.inl ⟨by rfl, ?_⟩) ?_ ?_
            rotate_left
            · intro w'
              go_simp
              with_reducible rfl
            rotate_left
            · simp only [Act.put, List.setIfInBounds_toArray, List.set_cons_zero, List.set_cons_succ, i64_w, i32_w]
              rfl
            refine take_ (i := 5) (N := some 44) (v := ?_) (a' := ?_) #[true, true, true, true, true, true, false, false, false, false, false, false, false, false, false, false, false] rfl rfl (by kernel_rfl) (fun _ _ _ h => h) (Or.inl ⟨by rfl, ?_⟩) hHeld ?_ ?_
            rotate_left
            · rintro w' ⟨s0, s1, s2, s3, s4, s5, s6, s7⟩
              go_simp
              with_reducible rfl
            rotate_left
            · simp only [Act.put, List.setIfInBounds_toArray, List.set_cons_zero, List.set_cons_succ, i64_w, i32_w]
              rfl
            refine pure_ (i := 6) (N := some 45) (v := ?_) (a' := ?_) #[true, true, true, true, true, true, true, false, false, false, false, false, false, false, false, false, false] rfl rfl (by kernel_rfl) (fun _ _ _ h => h) (Or.inl ⟨by rfl, ?_⟩) ?_ ?_
            rotate_left
            · intro w'
              go_simp
              with_reducible rfl
            rotate_left
            · simp only [Act.put, List.setIfInBounds_toArray, List.set_cons_zero, List.set_cons_succ, i64_w, i32_w]
              rfl
            refine take_ (i := 7) (N := some 46) (v := ?_) (a' := ?_) #[true, true, true, true, true, true, true, true, false, false, false, false, false, false, false, false, false] rfl rfl (by kernel_rfl) (fun _ _ _ h => h) (Or.inl ⟨by rfl, ?_⟩) hHeld ?_ ?_
            rotate_left
            · rintro w' ⟨s0, s1, s2, s3, s4, s5, s6, s7⟩
              go_simp
              with_reducible rfl
            rotate_left
            · simp only [Act.put, List.setIfInBounds_toArray, List.set_cons_zero, List.set_cons_succ, i64_w, i32_w]
              rfl
            refine pure_ (i := 8) (N := some 47) (v := ?_) (a' := ?_) #[true, true, true, true, true, true, true, true, true, false, false, false, false, false, false, false, false] rfl rfl (by kernel_rfl) (fun _ _ _ h => h) (Or.inl ⟨by rfl, ?_⟩) ?_ ?_
            rotate_left
            · intro w'
              go_simp
              with_reducible rfl
            rotate_left
            · simp only [Act.put, List.setIfInBounds_toArray, List.set_cons_zero, List.set_cons_succ, i64_w, i32_w]
              rfl
            refine take_ (i := 9) (N := some 48) (v := ?_) (a' := ?_) #[true, true, true, true, true, true, true, true, true, true, false, false, false, false, false, false, false] rfl rfl (by kernel_rfl) (fun _ _ _ h => h) (Or.inl ⟨by rfl, ?_⟩) hHeld ?_ ?_
            rotate_left
            · rintro w' ⟨s0, s1, s2, s3, s4, s5, s6, s7⟩
              go_simp
              with_reducible rfl
            rotate_left
            · simp only [Act.put, List.setIfInBounds_toArray, List.set_cons_zero, List.set_cons_succ, i64_w, i32_w]
              rfl
            refine join_ (σ := Value × Nat) 2 #[true, true, true, true, true, true, true, true, true, true, true, true, true, true, true, false, false] (fun s => [(49, .tuple #[.agg #[.int .i64 ro, .bool rb, s.1], .int .i64 re]), (38, .tuple #[.agg #[.int .i64 ro, .bool rb, s.1], .int .i64 re]), (50, .agg #[.int .i64 ro, .bool rb, s.1]), (51, .int .i64 re), (9, .pointer (some ⟨s.2, 0, none⟩))]) (fun s w' => (∃ A c, s.1 = .slice A rl.length c) ∧ RA w' w.heap.size s.1 rl ∧ wd.heap.size ≤ s.2 ∧ w'.heap[s.2]? = some (.cells #[.int .i64 0, .bool false, .slice none 0 0] 33 (0, 0)) ∧ Below w.heap.size w w' ∧ w'.heap[wr.heap.size]? = some (.cells #[.int .i64 (u : Int), .bool (rd_T35 l j).f1, .int .i64 (rd_T35 l j).f2.f0, .bool (rd_T35 l j).f2.f1, .slice A3 (rd_T35 l j).f2.f2.length c3] 35 (0, 0)) ∧ Kd.R k35 35 w' w.heap.size (fun k => True ∧ k ≠ wr.heap.size) (.slice (some ⟨gb, 0, none⟩) o.length co) o) ?cont ?orders
            case orders =>
              intro hCont
              refine two_ (i := 10) (j := 14) (Ni := some 49) (Nj := some 9) #[true, true, true, true, true, true, true, true, true, true, true, false, false, false, false, false, false] #[true, true, true, true, true, true, true, true, true, true, false, false, false, false, true, false, false] rfl rfl rfl rfl (by kernel_rfl) (by decide) (by decide) (fun K hK => ?_) (fun K hK => ?_)
              · refine goes_ Try.func28 (by kernel_rfl) rfl #[.agg #[.int .i64 (rd_T35 o u).f2.f0, .bool (rd_T35 o u).f2.f1, .slice A5 (rd_T35 o u).f2.f2.length c5], .agg #[.int .i64 (rd_T35 l j).f2.f0, .bool (rd_T35 l j).f2.f1, .slice A3 (rd_T35 l j).f2.f2.length c3], .bool (rd_T35 l j).f1] (by rfl) rfl rfl (by (try simp only [List.map_toArray, List.map_cons, List.map_nil]); first | done | rfl) ?_
                have hq := rRenew_calls (rd_T35 o u).f2.f0 (rd_T35 l j).f2.f0 (rd_T35 o u).f2.f1 (rd_T35 l j).f2.f1 A5 A3 c5 c3 (rd_T35 o u).f2.f2 (rd_T35 l j).f2.f2 (rd_T35 l j).f1 wd HC5.out HL5.out (Kd.R_reads' HLD.out).2.2 (Kd.R_reads' HLD.out).2.1
                rw [HRN.out] at hq
                refine hq.mono ?_
                rintro e w5 ⟨v5, rfl, hra, hb⟩
                replace hra : RA w5 wd.heap.size v5 rl := hra
                refine ⟨_, rfl, ?_⟩
                dsimp only
                obtain ⟨t0, t1, t2, t3, t4, t5, t6, t7⟩ := hHeld
                obtain ⟨A9, c9, rfl⟩ := Kd.R_slice hra
                refine hK.out _ _ ⟨(hb.cell (World.block_lt_of_cell? wd _ t0)).trans t0, (hb.cell (World.block_lt_of_cell? wd _ t1)).trans t1, (hb.cell (World.block_lt_of_cell? wd _ t2)).trans t2, (hb.cell (World.block_lt_of_cell? wd _ t3)).trans t3, (hb.cell (World.block_lt_of_cell? wd _ t4)).trans t4, (hb.cell (World.block_lt_of_cell? wd _ t5)).trans t5, (hb.cell (World.block_lt_of_cell? wd _ t6)).trans t6, (hb.cell (World.block_lt_of_cell? wd _ t7)).trans t7⟩ (fun hHeld => ?_)
                clear hK K t0 t1 t2 t3 t4 t5 t6 t7 hq
                refine norm_ (a' := ?_) ?_ ?_
                rotate_left
                · show Act.put _ (some 49) _ = _
                  simp only [Act.put, List.setIfInBounds_toArray, List.set_cons_zero, List.set_cons_succ, i64_w, i32_w]
                  rfl
                skip
                refine pure_ (i := 11) (N := some 38) (v := ?_) (a' := ?_) #[true, true, true, true, true, true, true, true, true, true, true, true, false, false, false, false, false] rfl rfl (by kernel_rfl) (fun _ _ _ h => h) (Or.inl ⟨by rfl, ?_⟩) ?_ ?_
                rotate_left
                · intro w'
                  go_simp
                  with_reducible rfl
                rotate_left
                · simp only [Act.put, List.setIfInBounds_toArray, List.set_cons_zero, List.set_cons_succ, i64_w, i32_w]
                  rfl
                refine pure_ (i := 12) (N := some 50) (v := ?_) (a' := ?_) #[true, true, true, true, true, true, true, true, true, true, true, true, true, false, false, false, false] rfl rfl (by kernel_rfl) (fun _ _ _ h => h) (Or.inl ⟨by rfl, ?_⟩) ?_ ?_
                rotate_left
                · intro w'
                  go_simp
                  with_reducible rfl
                rotate_left
                · simp only [Act.put, List.setIfInBounds_toArray, List.set_cons_zero, List.set_cons_succ, i64_w, i32_w]
                  rfl
                refine pure_ (i := 13) (N := some 51) (v := ?_) (a' := ?_) #[true, true, true, true, true, true, true, true, true, true, true, true, true, true, false, false, false] rfl rfl (by kernel_rfl) (fun _ _ _ h => h) (Or.inl ⟨by rfl, ?_⟩) ?_ ?_
                rotate_left
                · intro w'
                  go_simp
                  with_reducible rfl
                rotate_left
                · simp only [Act.put, List.setIfInBounds_toArray, List.set_cons_zero, List.set_cons_succ, i64_w, i32_w]
                  rfl
                refine one_ (i := 14) (N := some 9) #[true, true, true, true, true, true, true, true, true, true, true, true, true, true, true, false, false] rfl rfl (by kernel_rfl) (by decide) (fun K hK => ?_)
                refine box_step ?hg (N := 9) ?hd (cs := #[.int .i64 0, .bool false, .slice none 0 0]) (t := 33) ?hr ?_
                (case hd => rfl)
                (case hg => rfl)
                (case hr => first | (go_simp; done) | (go_simp; rfl))
                intro ga hga w6 hbox hb6
                obtain ⟨t0, t1, t2, t3, t4, t5, t6, t7⟩ := hHeld
                refine hK.out _ _ ⟨(hb6.cell (World.block_lt_of_cell? w5 _ t0)).trans t0, (hb6.cell (World.block_lt_of_cell? w5 _ t1)).trans t1, (hb6.cell (World.block_lt_of_cell? w5 _ t2)).trans t2, (hb6.cell (World.block_lt_of_cell? w5 _ t3)).trans t3, (hb6.cell (World.block_lt_of_cell? w5 _ t4)).trans t4, (hb6.cell (World.block_lt_of_cell? w5 _ t5)).trans t5, (hb6.cell (World.block_lt_of_cell? w5 _ t6)).trans t6, (hb6.cell (World.block_lt_of_cell? w5 _ t7)).trans t7⟩ (fun hHeld => ?_)
                have hs5 := hb.size
                refine norm_ ?_ (hCont (.slice A9 rl.length c9, ga) w6 ⟨⟨_, _, rfl⟩, Kd.R_below (Kd.R_lower hra HBD.out.size) hb6, (show wd.heap.size ≤ ga by omega), hbox, below_step (below_step HBD.out hb) hb6, blk_below (blk_below XD.out hb) hb6, Kd.R_below (Kd.R_below HOD.out hb) hb6⟩)
                rfl
              · refine box_step ?hg (N := 9) ?hd (cs := #[.int .i64 0, .bool false, .slice none 0 0]) (t := 33) ?hr ?_
                (case hd => rfl)
                (case hg => rfl)
                (case hr => first | (go_simp; done) | (go_simp; rfl))
                intro ga hga w5 hbox hb
                obtain ⟨t0, t1, t2, t3, t4, t5, t6, t7⟩ := hHeld
                refine hK.out _ _ ⟨(hb.cell (World.block_lt_of_cell? wd _ t0)).trans t0, (hb.cell (World.block_lt_of_cell? wd _ t1)).trans t1, (hb.cell (World.block_lt_of_cell? wd _ t2)).trans t2, (hb.cell (World.block_lt_of_cell? wd _ t3)).trans t3, (hb.cell (World.block_lt_of_cell? wd _ t4)).trans t4, (hb.cell (World.block_lt_of_cell? wd _ t5)).trans t5, (hb.cell (World.block_lt_of_cell? wd _ t6)).trans t6, (hb.cell (World.block_lt_of_cell? wd _ t7)).trans t7⟩ (fun hHeld => ?_)
                clear hK K t0 t1 t2 t3 t4 t5 t6 t7
                refine norm_ (a' := ?_) ?_ ?_
                rotate_left
                · show Act.put _ (some 9) _ = _
                  simp only [Act.put, List.setIfInBounds_toArray, List.set_cons_zero, List.set_cons_succ, i64_w, i32_w]
                  rfl
                refine one_ (i := 10) (N := some 49) #[true, true, true, true, true, true, true, true, true, true, true, false, false, false, true, false, false] rfl rfl (by kernel_rfl) (by decide) (fun K hK => ?_)
                refine goes_ Try.func28 (by kernel_rfl) rfl #[.agg #[.int .i64 (rd_T35 o u).f2.f0, .bool (rd_T35 o u).f2.f1, .slice A5 (rd_T35 o u).f2.f2.length c5], .agg #[.int .i64 (rd_T35 l j).f2.f0, .bool (rd_T35 l j).f2.f1, .slice A3 (rd_T35 l j).f2.f2.length c3], .bool (rd_T35 l j).f1] (by rfl) rfl rfl (by (try simp only [List.map_toArray, List.map_cons, List.map_nil]); first | done | rfl) ?_
                have hq := rRenew_calls (rd_T35 o u).f2.f0 (rd_T35 l j).f2.f0 (rd_T35 o u).f2.f1 (rd_T35 l j).f2.f1 A5 A3 c5 c3 (rd_T35 o u).f2.f2 (rd_T35 l j).f2.f2 (rd_T35 l j).f1 w5 (Kd.C_below HC5.out hb) HL5.out (Kd.C_below (Kd.R_reads' HLD.out).2.2 hb) (Kd.R_reads' HLD.out).2.1
                rw [HRN.out] at hq
                refine hq.mono ?_
                rintro e w6 ⟨v5, rfl, hra, hb6⟩
                replace hra : RA w6 w5.heap.size v5 rl := hra
                refine ⟨_, rfl, ?_⟩
                dsimp only
                obtain ⟨t0, t1, t2, t3, t4, t5, t6, t7⟩ := hHeld
                obtain ⟨A9, c9, rfl⟩ := Kd.R_slice hra
                refine hK.out _ _ ⟨(hb6.cell (World.block_lt_of_cell? w5 _ t0)).trans t0, (hb6.cell (World.block_lt_of_cell? w5 _ t1)).trans t1, (hb6.cell (World.block_lt_of_cell? w5 _ t2)).trans t2, (hb6.cell (World.block_lt_of_cell? w5 _ t3)).trans t3, (hb6.cell (World.block_lt_of_cell? w5 _ t4)).trans t4, (hb6.cell (World.block_lt_of_cell? w5 _ t5)).trans t5, (hb6.cell (World.block_lt_of_cell? w5 _ t6)).trans t6, (hb6.cell (World.block_lt_of_cell? w5 _ t7)).trans t7⟩ (fun hHeld => ?_)
                clear hK K t0 t1 t2 t3 t4 t5 t6 t7 hq
                refine norm_ (a' := ?_) ?_ ?_
                rotate_left
                · show Act.put _ (some 49) _ = _
                  simp only [Act.put, List.setIfInBounds_toArray, List.set_cons_zero, List.set_cons_succ, i64_w, i32_w]
                  rfl
                skip
                refine pure_ (i := 11) (N := some 38) (v := ?_) (a' := ?_) #[true, true, true, true, true, true, true, true, true, true, true, true, false, false, true, false, false] rfl rfl (by kernel_rfl) (fun _ _ _ h => h) (Or.inl ⟨by rfl, ?_⟩) ?_ ?_
                rotate_left
                · intro w'
                  go_simp
                  with_reducible rfl
                rotate_left
                · simp only [Act.put, List.setIfInBounds_toArray, List.set_cons_zero, List.set_cons_succ, i64_w, i32_w]
                  rfl
                refine pure_ (i := 12) (N := some 50) (v := ?_) (a' := ?_) #[true, true, true, true, true, true, true, true, true, true, true, true, true, false, true, false, false] rfl rfl (by kernel_rfl) (fun _ _ _ h => h) (Or.inl ⟨by rfl, ?_⟩) ?_ ?_
                rotate_left
                · intro w'
                  go_simp
                  with_reducible rfl
                rotate_left
                · simp only [Act.put, List.setIfInBounds_toArray, List.set_cons_zero, List.set_cons_succ, i64_w, i32_w]
                  rfl
                refine pure_ (i := 13) (N := some 51) (v := ?_) (a' := ?_) #[true, true, true, true, true, true, true, true, true, true, true, true, true, true, true, false, false] rfl rfl (by kernel_rfl) (fun _ _ _ h => h) (Or.inl ⟨by rfl, ?_⟩) ?_ ?_
                rotate_left
                · intro w'
                  go_simp
                  with_reducible rfl
                rotate_left
                · simp only [Act.put, List.setIfInBounds_toArray, List.set_cons_zero, List.set_cons_succ, i64_w, i32_w]
                  rfl
                refine norm_ ?_ (hCont (.slice A9 rl.length c9, ga) w6 ⟨⟨_, _, rfl⟩, Kd.R_lower hra (below_step HBD.out hb).size, (show wd.heap.size ≤ ga by omega), blk_below hbox hb6, below_step (below_step HBD.out hb) hb6, blk_below (blk_below XD.out hb) hb6, Kd.R_below (Kd.R_below HOD.out hb) hb6⟩)
                rfl
            case cont =>
              rintro ⟨v9, ga⟩ w6 ⟨⟨A9, c9, rfl⟩, hra, hga, hbox, hb6, hx6, ho6⟩
              simp only [putAll, Act.put, List.setIfInBounds_toArray, List.set_cons_zero, List.set_cons_succ]
              dsimp only at hra hga hbox
              have hxd := blk_lt XD.out
              have HGX := Aside0.mk (show wr.heap.size ≠ ga by omega)
              have HGW := Aside0.mk (Nat.le_trans HBD.out.size hga)
              have HRA6 := Aside0.mk hra
              have HB6 := Aside0.mk hb6
              have HX6 := Aside0.mk hx6
              have HO6 := Aside0.mk ho6
              have HA6 := Aside0.mk hbox
              have z0 := (blk_cell hbox 0).trans rfl; have z1 := (blk_cell hbox 1).trans rfl; have z2 := (blk_cell hbox 2).trans rfl
              have fz0 := blk_frozen hbox 0; have fz1 := blk_frozen hbox 1; have fz2 := blk_frozen hbox 2
              clear hra hga hbox hb6 hx6 ho6 hxd XD HOD HLD HBD HC5 hHeld
              refine last_ (i := 15) (N := none) #[true, true, true, true, true, true, true, true, true, true, true, true, true, true, true, true, false] rfl rfl (by kernel_rfl) (by decide) (fun K hK => ?_)
              refine skip_ (w1 := ?_) (by rfl) rfl ?_ ?_
              rotate_left
              · go_simp
                rfl
              refine hK.out _ _ ?_
              clear hK K
              skip
              refine pure_ (i := 16) (N := some 10) (v := ?_) (a' := ?_) #[true, true, true, true, true, true, true, true, true, true, true, true, true, true, true, true, true] rfl rfl (by kernel_rfl) (fun _ _ _ h => h) (Or.inl ⟨by rfl, ?_⟩) ?_ ?_
              rotate_left
              · intro w'
                go_simp
                with_reducible rfl
              rotate_left
              · simp only [Act.put, List.setIfInBounds_toArray, List.set_cons_zero, List.set_cons_succ, i64_w, i32_w]
                rfl
              refine done_ (by kernel_rfl) ?_
              obtain ⟨w7, hw7⟩ : ∃ w7, w7 = (((w6.setCell ⟨ga, 0, none⟩ (.int .i64 ro)).setCell ⟨ga, 1, none⟩ (.bool rb)).setCell ⟨ga, 2, none⟩ (.slice A9 rl.length c9)) := ⟨_, rfl⟩
              rw [← hw7]
              have q1 := blk_put HA6.out 0 (.int .i64 ro) rfl
              have q2 := blk_put q1 1 (.bool rb) rfl
              have q3 := blk_put q2 2 (.slice A9 rl.length c9) rfl
              have HA7 := Aside0.mk (show w7.heap[ga]? = some (.cells #[.int .i64 ro, .bool rb, .slice A9 rl.length c9] 33 (0, 0)) by rw [hw7]; exact q3)
              have HX7 := Aside0.mk (show w7.heap[wr.heap.size]? = some (.cells #[.int .i64 (u : Int), .bool (rd_T35 l j).f1, .int .i64 (rd_T35 l j).f2.f0, .bool (rd_T35 l j).f2.f1, .slice A3 (rd_T35 l j).f2.f2.length c3] 35 (0, 0)) by rw [hw7]; exact blk_far (blk_far (blk_far HX6.out HGX.out _) HGX.out _) HGX.out _)
              have HO7 := Aside0.mk (show Kd.R k35 35 w7 w.heap.size (fun k => True ∧ k ≠ wr.heap.size) (.slice (some ⟨gb, 0, none⟩) o.length co) o by rw [hw7]; exact Kd.R_set (Kd.R_set (Kd.R_set HO6.out HA6.out (by decide) 0 _) q1 (by decide) 1 _) q2 (by decide) 2 _)
              have HRA7 := Aside0.mk (show RA w7 w.heap.size (.slice A9 rl.length c9) rl by rw [hw7]; exact Kd.R_set (Kd.R_set (Kd.R_set HRA6.out HA6.out (by decide) 0 _) q1 (by decide) 1 _) q2 (by decide) 2 _)
              have HB7 := Aside0.mk (show Below w.heap.size w w7 by rw [hw7]; exact ((HB6.out.setCell (p := ⟨ga, 0, none⟩) HGW.out _).setCell (p := ⟨ga, 1, none⟩) HGW.out _).setCell (p := ⟨ga, 2, none⟩) HGW.out _)
              clear hw7 q1 q2 q3 z0 z1 z2 fz0 fz1 fz2 HRA6 HB6 HX6 HO6 HA6
              rcases HCS.out with ⟨rfl, hs⟩ | ⟨rfl, hs⟩
              · have HS := Aside0.mk hs
                clear hs HCS HRN
                have z0 := (blk_cell HA7.out 0).trans rfl; have z1 := (blk_cell HA7.out 1).trans rfl; have z2 := (blk_cell HA7.out 2).trans rfl
                have x0 := (blk_cell HX7.out 0).trans rfl; have x1 := (blk_cell HX7.out 1).trans rfl; have x2 := (blk_cell HX7.out 2).trans rfl; have x3 := (blk_cell HX7.out 3).trans rfl; have x4 := (blk_cell HX7.out 4).trans rfl
                have fx0 := blk_frozen HX7.out 0; have fx1 := blk_frozen HX7.out 1; have fx2 := blk_frozen HX7.out 2; have fx3 := blk_frozen HX7.out 3; have fx4 := blk_frozen HX7.out 4
                go_upto_region 12 with (fail)
                obtain ⟨w9, hw9⟩ : ∃ w9, w9 = (((w7.setCell ⟨wr.heap.size, 2, none⟩ (.int .i64 ro)).setCell ⟨wr.heap.size, 3, none⟩ (.bool rb)).setCell ⟨wr.heap.size, 4, none⟩ (.slice A9 rl.length c9)) := ⟨_, rfl⟩
                rw [← hw9]
                have q1 := blk_put HX7.out 2 (.int .i64 ro) rfl
                have q2 := blk_put q1 3 (.bool rb) rfl
                have q3 := blk_put q2 4 (.slice A9 rl.length c9) rfl
                have HX9 := Aside0.mk (show w9.heap[wr.heap.size]? = some (.cells #[.int .i64 (u : Int), .bool (rd_T35 l j).f1, .int .i64 ro, .bool rb, .slice A9 rl.length c9] 35 (0, 0)) by rw [hw9]; exact q3)
                have HO9 := Aside0.mk (show Kd.R k35 35 w9 w.heap.size (fun k => True ∧ k ≠ wr.heap.size) (.slice (some ⟨gb, 0, none⟩) o.length co) o by rw [hw9]; exact Kd.R_far (Kd.R_far (Kd.R_far HO7.out (p := ⟨wr.heap.size, 2, none⟩) (fun k hk => hk.2) _) (p := ⟨wr.heap.size, 3, none⟩) (fun k hk => hk.2) _) (p := ⟨wr.heap.size, 4, none⟩) (fun k hk => hk.2) _)
                have HRA9 := Aside0.mk (show RA w9 w.heap.size (.slice A9 rl.length c9) rl by rw [hw9]; exact Kd.R_set (Kd.R_set (Kd.R_set HRA7.out HX7.out (by decide) 2 _) q1 (by decide) 3 _) q2 (by decide) 4 _)
                have HB9 := Aside0.mk (show Below w.heap.size w w9 by rw [hw9]; exact ((HB7.out.setCell (p := ⟨wr.heap.size, 2, none⟩) HXG.out _).setCell (p := ⟨wr.heap.size, 3, none⟩) HXG.out _).setCell (p := ⟨wr.heap.size, 4, none⟩) HXG.out _)
                clear hw9 q1 q2 q3 z0 z1 z2 x0 x1 x2 x3 x4 fx0 fx1 fx2 fx3 fx4 HA7 HX7 HO7 HRA7 HB7
                have x0 := (blk_cell HX9.out 0).trans rfl; have x1 := (blk_cell HX9.out 1).trans rfl; have x2 := (blk_cell HX9.out 2).trans rfl; have x3 := (blk_cell HX9.out 3).trans rfl; have x4 := (blk_cell HX9.out 4).trans rfl
                go_wp2_with ((with_reducible refine gate_builtin (b := .append) (xs := #[.tmp 57, .tmp 59]) rfl ?_); at_builtin; refine Kd.R_append k35 (w0 := w) w.heap.size rfl (.tmp 57) (.tmp 59) 22 35 (.agg #[(.int .i64 0), (.bool false), (.int .i64 0), (.bool false), (.slice none 0 0)]) 56 rfl Try.underlying22 info35 rfl (by decide) (by omega) (.slice (some ⟨gb, 0, none⟩) o.length co) o ((⟨(u : Int), (rd_T35 l j).f1, ⟨ro, rb, rl⟩⟩ : S35)) [.int .i64 ((⟨(u : Int), (rd_T35 l j).f1, ⟨ro, rb, rl⟩⟩ : S35)).f0, .bool ((⟨(u : Int), (rd_T35 l j).f1, ⟨ro, rb, rl⟩⟩ : S35)).f1, .int .i64 ((⟨(u : Int), (rd_T35 l j).f1, ⟨ro, rb, rl⟩⟩ : S35)).f2.f0, .bool ((⟨(u : Int), (rd_T35 l j).f1, ⟨ro, rb, rl⟩⟩ : S35)).f2.f1, .slice A9 rl.length c9] (fun _ => True) _ rfl rfl (k35_mkM _ _ (fun k => True ∧ some k ≠ ((.slice (some ⟨gb, 0, none⟩) o.length co) : Value).ownBlock) ((⟨(u : Int), (rd_T35 l j).f1, ⟨ro, rb, rl⟩⟩ : S35)) ?hM) (fun k hk => ⟨trivial, hk.2⟩) (fun _ _ => trivial) (Kd.R_mono HO9.out (fun _ _ => trivial)) HB9.out HB9.out.size (by have := HPR.out.len; have := HM.out; omega) ?_; (case hM => exact Kd.R_apartR HRA9.out HO9.out (by decide)); intro v8 w8 ho hb hg hat; have HO8 := Aside0.mk ho; have HB8 := Aside0.mk hb; clear ho hb hg hat)
                go_roundg (l.length - (j + 1))
                case measure => have := HK.out; omega
                case rel => exact ⟨j + 1, _, HWR.out, ⟨by omega⟩, ⟨by have := HPR.out.renew HU.out hlt h0 HUE.out hul HDN.out (vTw_desc (vTree_at HV.out hlt)) HS.out; rwa [show ({ rd_T35 l j with f2 := ⟨ro, rb, rl⟩ } : S35) = ⟨(u : Int), (rd_T35 l j).f1, ⟨ro, rb, rl⟩⟩ by rw [← HUE.out]] at this⟩, HO8, HB8⟩
              · go_wp2
                refine bodyPost_ret (renewed_end (by rfl) (by rfl)) rfl ⟨HB7.out, .inr ⟨j, u, o, rfl, HPR.out, h0, hlt, HUE.out, HDN.out, hs⟩⟩
      · have f1 : decide (0 < j) = false := decide_eq_false h0
        have f2 : decide ((0 : Int) < (j : Int)) = false := decide_eq_false (by omega)
        have x0 := (blk_cell X2.out 0).trans rfl; have x1 := (blk_cell X2.out 1).trans rfl; have x2 := (blk_cell X2.out 2).trans rfl; have x3 := (blk_cell X2.out 3).trans rfl; have x4 := (blk_cell X2.out 4).trans rfl
        go_upto_region 12 with (fail)
        go_wp2_with ((with_reducible refine gate_builtin (b := .append) (xs := #[.tmp 57, .tmp 59]) rfl ?_); at_builtin; refine Kd.R_append k35 (w0 := w) w.heap.size rfl (.tmp 57) (.tmp 59) 22 35 (.agg #[(.int .i64 0), (.bool false), (.int .i64 0), (.bool false), (.slice none 0 0)]) 56 rfl Try.underlying22 info35 rfl (by decide) (by omega) u6 o (rd_T35 l j) [.int .i64 (rd_T35 l j).f0, .bool (rd_T35 l j).f1, .int .i64 (rd_T35 l j).f2.f0, .bool (rd_T35 l j).f2.f1, .slice A3 (rd_T35 l j).f2.f2.length c3] (fun _ => True) _ rfl rfl (k35_mkM _ _ (fun k => True ∧ some k ≠ (u6 : Value).ownBlock) (rd_T35 l j) ?hM) (fun k hk => ⟨trivial, hk.2⟩) (fun _ _ => trivial) (Kd.R_mono HO2.out (fun _ _ => trivial)) HB2.out HB2.out.size (by have := HPR.out.len; have := HM.out; omega) ?_; (case hM => exact Kd.R_apartR HL4.out HO2.out (by decide)); intro v8 w8 ho hb hg hat; have HO8 := Aside0.mk ho; have HB8 := Aside0.mk hb; clear ho hb hg hat)
        go_roundg (l.length - (j + 1))
        case measure => have := HK.out; omega
        case rel => exact ⟨j + 1, _, (by first | exact HWR.out | exact congrArg _ (by omega)), ⟨by omega⟩, ⟨HPR.out.keep HU.out hlt (vTw_desc (vTree_at HV.out hlt)) (fun h => h0 h.1)⟩, HO8, HB8⟩
    · have h1 : decide (j < l.length) = false := decide_eq_false hlt
      have hj : j = l.length := by have := HPR.out.len; have := HK.out; omega
      go_wp2
      refine bodyPost_ret (renewed_end (by rfl) (by rfl)) rfl ⟨HB.out, .inl ⟨o, _, rfl, by rw [← hj]; exact HPR.out, HO.out⟩⟩
end Go.Proofs.Ytgocgjfaiddejaa.M
