/- What is below an object, in order: the iterator. -/
import Derived.Test.YtgocgjfaiddejaaH20
namespace Go.Proofs.Ytgocgjfaiddejaa.M
open Go.RowKit Go.Proofs.YtgocgjfaiddejaaW.PrintWords Go.Proofs.YtgocgjfaiddejaaW.PrintLast Go.Proofs.YtgocgjfaiddejaaW.PrintMore
set_option linter.unusedVariables false
set_option linter.unusedSimpArgs false

def setDown (gs : List S105) (j : Nat) : List S105 := gs.set j { rd_T105 gs j with f1 := true }
def setDesc (gs : List S105) (j : Nat) (d : S33) : List S105 := gs.set j { rd_T105 gs j with f0 := { (rd_T105 gs j).f0 with f2 := d } }
def renewD (p d : S33) (dir : Bool) : Option S33 := if d.f1 = true then some d else if (renewL p.f2 d.f2 dir).length ≤ 16 then some ⟨d.f0, false, renewL p.f2 d.f2 dir⟩ else none
def bodyF (gs : List S105) (i : Nat) : Option (List S105) :=
  (renewD (rd_T105 gs (rd_T105 gs i).f0.f0).f0.f2 (rd_T105 gs i).f0.f2 (rd_T105 gs i).f0.f1).map (setDesc gs i)
/-- The rounds from object i on, c of them. -/
def sprF : Nat → Nat → List S105 → Option (List S105)
  | 0, _, s => some s
  | c + 1, i, s => if (rd_T105 s (rd_T105 s i).f0.f0).f1 = true then (bodyF (setDown s i) i).bind (sprF c (i + 1)) else sprF c (i + 1) s
/-- The directories stand before, the lists are short. -/
structure GOk (n : Nat) (gs : List S105) : Prop where
  len : gs.length = n
  up : ∀ j : Nat, 0 < j → j < n → ∃ u : Nat, (rd_T105 gs j).f0.f0 = u ∧ u < j
  short : ∀ j : Nat, j < n → (rd_T105 gs j).f0.f2.f2.length ≤ 16
theorem rd_set (gs : List S105) (i j : Nat) (x : S105) (hi : i < gs.length) : rd_T105 (gs.set i x) j = if i = j then x else rd_T105 gs j := by
  unfold rd_T105
  simp only [List.getD_eq_getElem?_getD, Int.toNat_natCast, List.getElem?_set]
  by_cases h : i = j
  · subst h; simp [hi]
  · simp [h]
theorem GOk.down {n : Nat} {gs : List S105} (h : GOk n gs) {i : Nat} (hi : i < n) : GOk n (setDown gs i) := by
  have hl := h.len
  refine ⟨by simp [setDown, h.len], fun j h0 hj => ?_, fun j hj => ?_⟩
  · unfold setDown
    rw [rd_set _ _ _ _ (by omega)]
    split
    · rename_i e; subst e; exact h.up i h0 hi
    · exact h.up j h0 hj
  · unfold setDown
    rw [rd_set _ _ _ _ (by omega)]
    split
    · rename_i e; subst e; exact h.short i hi
    · exact h.short j hj
theorem GOk.desc {n : Nat} {gs : List S105} (h : GOk n gs) {i : Nat} (hi : i < n) {d : S33} (hd : d.f2.length ≤ 16) : GOk n (setDesc gs i d) := by
  have hl := h.len
  refine ⟨by simp [setDesc, h.len], fun j h0 hj => ?_, fun j hj => ?_⟩
  · unfold setDesc
    rw [rd_set _ _ _ _ (by omega)]
    split
    · rename_i e; subst e; exact h.up i h0 hi
    · exact h.up j h0 hj
  · unfold setDesc
    rw [rd_set _ _ _ _ (by omega)]
    split
    · rename_i e; subst e; exact hd
    · exact h.short j hj
theorem renewD_len {p d d' : S33} {dir : Bool} (h : renewD p d dir = some d') (hd : d.f2.length ≤ 16) : d'.f2.length ≤ 16 := by
  unfold renewD at h
  split at h
  · cases h; exact hd
  · split at h
    · cases h; assumption
    · cases h
theorem GOk.body {n : Nat} {gs s' : List S105} (h : GOk n gs) {i : Nat} (hi : i < n) (hb : bodyF gs i = some s') : GOk n s' := by
  unfold bodyF at hb
  obtain ⟨d, hd, rfl⟩ := Option.map_eq_some_iff.1 hb
  exact h.desc hi (renewD_len hd (h.short i hi))

/-- What the body's rounds do to the tree. -/
abbrev BelowIter (w0 : World) (gb cap g7 c1 c2 kk n : Nat) (s0 : List S105) : Prop :=
  IterAt Try.prog 95 #[.pointer (some ⟨c1, 0, none⟩), .pointer (some ⟨c2, 0, none⟩)] (fun i : Nat => #[.int .i64 (i : Int)]) (GI w0 gb cap g7 c1 c2 kk)
    (fun s i => 0 < i ∧ i < n ∧ GOk n s) (fun s i s' => bodyF s i = some s') (fun s i => bodyF s i = none) (fun ch B => ch = [{ v := .iface 101 (.agg #[]), recovered := false }] ∧ Below w0.heap.size w0 B)
    (fun s => sprF (n - (kk + 1)) (kk + 1) (setDown s0 kk) = some s) (sprF (n - (kk + 1)) (kk + 1) (setDown s0 kk) = none) s0

set_option maxRecDepth 100000 in
set_option maxHeartbeats 2000000 in
theorem below_iter (w0 : World) (gb cap g7 c1 c2 kk n : Nat) (s0 : List S105) (hk : kk < n) (hn : n ≤ 400) (hs : GOk n s0) : BelowIter w0 gb cap g7 c1 c2 kk n s0 := by
  intro ly K Kd W hKk hJ hK hY
  have hlen := hs.len
  have HJ := Aside0.mk hJ
  have HK0 := Aside0.mk hK
  have HKK := Aside0.mk hKk
  have HY := Aside0.mk hY
  have HS := Aside0.mk hs
  have hb1 := hJ.b1
  have hb2 := hJ.b2
  rw [hlen] at hb1
  have p0 := (blk_cell hb1 0).trans rfl
  have q0 := (blk_cell hb2 0).trans rfl
  obtain ⟨A, c, h0, h1, h2, h3, h4, h5, _, _, hr, hf⟩ := elem105 hJ.row (show kk < s0.length by omega)
  have f5 := hf 5
  have k1 : kk < n := hk
  clear h0 h1 h2 h3 h4 hr hf hJ hK hKk hY hb1 hb2 hs
  go_enter Try.func95, Try.ntmps95
  go_upto_region 1 with (fail)
  have hw := setDown105 HJ.out.row (show kk < s0.length by omega)
  obtain ⟨W1, hW1⟩ : ∃ W1, W1 = W.setCell ⟨gb, kk * 6 + 5, none⟩ (.bool true) := ⟨_, rfl⟩
  rw [← hW1] at hw ⊢
  have HJ1 := Aside0.mk (show GI w0 gb cap g7 c1 c2 kk (setDown s0 kk) W1 from HJ.out.write hw.1 (by simp [setDown]) hw.2)
  have HK1 := Aside0.mk (show K W1 by
    refine HKK.out W W1 HK0.out ⟨hw.2.size, fun k o hk ho => (hw.2.block k (Array.getElem?_eq_some_iff.1 hk).1 (fun e => ?_)).trans hk⟩
    cases e
    obtain ⟨_, cells, hc⟩ := HJ.out.typed
    rw [hc] at hk
    cases hk
    cases ho)
  have HS1 := Aside0.mk (HS.out.down hk)
  clear hw hW1 p0 h5 f5
  replace q0 := (blk_cell HJ1.out.b2 0).trans rfl
  go_wp2
  have hcast : ((kk : Int) + 1) = ((kk + 1 : Nat) : Int) := by omega
  rw [hcast]
  clear hcast
  go_loopg [4] (n - (kk + 1)) (fun kq v4 w' => ∃ (j : Nat) (s : List S105), v4 = .int .i64 j ∧ Aside0 (kq + j = n) ∧ Aside0 (GI w0 gb cap g7 c1 c2 kk s w') ∧ Aside0 (K w') ∧ Aside0 (GOk n s) ∧ Aside0 (kk < j) ∧ Aside0 (sprF (n - (kk + 1)) (kk + 1) (setDown s0 kk) = sprF (n - j) j s))
  case atStart => exact ⟨kk + 1, setDown s0 kk, rfl, ⟨by omega⟩, HJ1, HK1, HS1, ⟨by omega⟩, ⟨rfl⟩⟩
  case round =>
    obtain ⟨j, s, rfl, HN, HG, HKW, HSO, HLT, HSP⟩ := hrel
    have hls := HSO.out.len
    have b1 := HG.out.b1
    rw [hls] at b1
    have B1 := Aside0.mk b1
    have p0 := (blk_cell b1 0).trans rfl
    clear q0 b1
    by_cases hlt : j < n
    · have h1 : decide (j < n) = true := by simpa using hlt
      obtain ⟨u, hu, hu1⟩ := HSO.out.up j (by have := HLT.out; omega) hlt
      obtain ⟨Aj, cj, e0, _, _, _, _, e5, _, _, _, ef⟩ := elem105 HG.out.row (show j < s.length by omega)
      obtain ⟨Au, cu, _, _, _, _, _, d5, _, _, _, _⟩ := elem105 HG.out.row (show u < s.length by omega)
      have HU := Aside0.mk hu
      rw [hu] at e0
      have E0 := Aside0.mk e0
      have E5 := Aside0.mk e5
      have D5 := Aside0.mk d5
      have EF := Aside0.mk ef
      have kj : j < n := hlt
      have ku : u < n := by omega
      clear e0 e5 d5 hu ef
      go_upto_region 4 with (fail)
      refine start_ (n := 10) (S := fun w' => w'.cell? ⟨c1, 0, none⟩ = some (.slice (some ⟨gb, 0, none⟩) n cap) ∧ w'.cell? ⟨gb, j * 6, none⟩ = some (.int .i64 (u : Int)) ∧ w'.cell? ⟨gb, u * 6 + 5, none⟩ = some (.bool (rd_T105 s u).f1)) (ds := []) #[false, false, false, false, false, false, false, false, false, false] (by kernel_rfl) rfl rfl ⟨p0, E0.out, D5.out⟩ (fun hHeld => ?_)
      refine take_ (i := 0) (N := some 17) (v := ?_) (a' := ?_) #[true, false, false, false, false, false, false, false, false, false] rfl rfl (by kernel_rfl) (fun _ _ _ h => h) (Or.inl ⟨by rfl, ?_⟩) hHeld ?_ ?_
      rotate_left
      · rintro w' ⟨s0, s1, s2⟩
        go_simp
        with_reducible rfl
      rotate_left
      · simp only [Act.put, List.setIfInBounds_toArray, List.set_cons_zero, List.set_cons_succ, i64_w, i32_w]
        rfl
      refine take_ (i := 1) (N := some 18) (v := ?_) (a' := ?_) #[true, true, false, false, false, false, false, false, false, false] rfl rfl (by kernel_rfl) (fun _ _ _ h => h) (Or.inl ⟨by rfl, ?_⟩) hHeld ?_ ?_
      rotate_left
      · rintro w' ⟨s0, s1, s2⟩
        go_simp
        with_reducible rfl
      rotate_left
      · simp only [Act.put, List.setIfInBounds_toArray, List.set_cons_zero, List.set_cons_succ, i64_w, i32_w]
        rfl
      refine pure_ (i := 2) (N := some 19) (v := ?_) (a' := ?_) #[true, true, true, false, false, false, false, false, false, false] rfl rfl (by kernel_rfl) (fun _ _ _ h => h) (Or.inl ⟨by rfl, ?_⟩) ?_ ?_
      rotate_left
      · intro w'
        go_simp
        with_reducible rfl
      rotate_left
      · simp only [Act.put, List.setIfInBounds_toArray, List.set_cons_zero, List.set_cons_succ, i64_w, i32_w]
        rfl
      refine pure_ (i := 3) (N := some 20) (v := ?_) (a' := ?_) #[true, true, true, true, false, false, false, false, false, false] rfl rfl (by kernel_rfl) (fun _ _ _ h => h) (Or.inl ⟨by rfl, ?_⟩) ?_ ?_
      rotate_left
      · intro w'
        go_simp
        with_reducible rfl
      rotate_left
      · simp only [Act.put, List.setIfInBounds_toArray, List.set_cons_zero, List.set_cons_succ, i64_w, i32_w]
        rfl
      refine pure_ (i := 4) (N := some 21) (v := ?_) (a' := ?_) #[true, true, true, true, true, false, false, false, false, false] rfl rfl (by kernel_rfl) (fun _ _ _ h => h) (Or.inl ⟨by rfl, ?_⟩) ?_ ?_
      rotate_left
      · intro w'
        go_simp
        with_reducible rfl
      rotate_left
      · simp only [Act.put, List.setIfInBounds_toArray, List.set_cons_zero, List.set_cons_succ, i64_w, i32_w]
        rfl
      refine pure_ (i := 5) (N := some 22) (v := ?_) (a' := ?_) #[true, true, true, true, true, true, false, false, false, false] rfl rfl (by kernel_rfl) (fun _ _ _ h => h) (Or.inl ⟨by rfl, ?_⟩) ?_ ?_
      rotate_left
      · intro w'
        go_simp
        with_reducible rfl
      rotate_left
      · simp only [Act.put, List.setIfInBounds_toArray, List.set_cons_zero, List.set_cons_succ, i64_w, i32_w]
        rfl
      refine take_ (i := 6) (N := some 23) (v := ?_) (a' := ?_) #[true, true, true, true, true, true, true, false, false, false] rfl rfl (by kernel_rfl) (fun _ _ _ h => h) (Or.inl ⟨by rfl, ?_⟩) hHeld ?_ ?_
      rotate_left
      · rintro w' ⟨s0, s1, s2⟩
        go_simp
        with_reducible rfl
      rotate_left
      · simp only [Act.put, List.setIfInBounds_toArray, List.set_cons_zero, List.set_cons_succ, i64_w, i32_w]
        rfl
      refine pure_ (i := 7) (N := some 24) (v := ?_) (a' := ?_) #[true, true, true, true, true, true, true, true, false, false] rfl rfl (by kernel_rfl) (fun _ _ _ h => h) (Or.inl ⟨by rfl, ?_⟩) ?_ ?_
      rotate_left
      · intro w'
        go_simp
        with_reducible rfl
      rotate_left
      · simp only [Act.put, List.setIfInBounds_toArray, List.set_cons_zero, List.set_cons_succ, i64_w, i32_w]
        rfl
      refine pure_ (i := 8) (N := some 25) (v := ?_) (a' := ?_) #[true, true, true, true, true, true, true, true, true, false] rfl rfl (by kernel_rfl) (fun _ _ _ h => h) (Or.inl ⟨by rfl, ?_⟩) ?_ ?_
      rotate_left
      · intro w'
        go_simp
        with_reducible rfl
      rotate_left
      · simp only [Act.put, List.setIfInBounds_toArray, List.set_cons_zero, List.set_cons_succ, i64_w, i32_w]
        rfl
      refine take_ (i := 9) (N := some 26) (v := ?_) (a' := ?_) #[true, true, true, true, true, true, true, true, true, true] rfl rfl (by kernel_rfl) (fun _ _ _ h => h) (Or.inl ⟨by rfl, ?_⟩) hHeld ?_ ?_
      rotate_left
      · rintro w' ⟨s0, s1, s2⟩
        go_simp
        with_reducible rfl
      rotate_left
      · simp only [Act.put, List.setIfInBounds_toArray, List.set_cons_zero, List.set_cons_succ, i64_w, i32_w]
        rfl
      refine done_ (by kernel_rfl) ?_
      have HGD := Aside0.mk (HG.out.onBelow (below_drew1 (Below.refl _ wr)))
      have HKD := Aside0.mk (HKK.out _ _ HKW.out (KeepsOthers.drew wr))
      have E5D := Aside0.mk (show wr.drew.cell? _ = _ from E5.out)
      have EFD := Aside0.mk (show ∀ i, wr.drew.frozen? ⟨gb, j * 6 + i, none⟩ = false from EF.out)
      have P0 := Aside0.mk (show wr.drew.cell? _ = _ from p0)
      clear p0 HG HKW E0 D5 E5 EF hHeld B1
      generalize wr.drew = wd at HGD HKD E5D EFD P0 ⊢
      cases hd : (rd_T105 s u).f1
      · go_wp2
        go_roundg (n - (j + 1))
        case measure => have := HN.out; omega
        case rel =>
          exact ⟨j + 1, s, by go_num, ⟨by omega⟩, HGD, HKD, HSO, ⟨by have := HLT.out; omega⟩, ⟨by
            rw [HSP.out, show n - j = (n - (j + 1)) + 1 by omega]
            conv => lhs; unfold sprF
            rw [HU.out, hd, if_neg (by simp)]⟩⟩
      · have p0 := P0.out
        have e5 := E5D.out
        have f5 := EFD.out 5
        go_upto_region 6 with (fail)
        have hw := setDown105 HGD.out.row (show j < s.length by omega)
        obtain ⟨w4, hw4⟩ : ∃ w4, w4 = wd.setCell ⟨gb, j * 6 + 5, none⟩ (.bool true) := ⟨_, rfl⟩
        rw [← hw4] at hw ⊢
        have hG4 : GI w0 gb cap g7 c1 c2 kk (setDown s j) w4 := HGD.out.write hw.1 (by simp [setDown]) hw.2
        have hK4 : K w4 := by
          refine HKK.out wd w4 HKD.out ⟨hw.2.size, fun k o hk ho => (hw.2.block k (Array.getElem?_eq_some_iff.1 hk).1 (fun e => ?_)).trans hk⟩
          cases e
          obtain ⟨_, cells, hc⟩ := HGD.out.typed
          rw [hc] at hk
          cases hk
          cases ho
        have hS4 : GOk n (setDown s j) := HSO.out.down hlt
        have hD : (rd_T105 s (rd_T105 s j).f0.f0).f1 = true := by rw [HU.out]; exact hd
        have HSP4 := Aside0.mk (show sprF (n - (kk + 1)) (kk + 1) (setDown s0 kk) = (bodyF (setDown s j) j).bind (sprF (n - (j + 1)) (j + 1)) by
          rw [HSP.out, show n - j = (n - (j + 1)) + 1 by omega]
          conv => lhs; unfold sprF
          rw [hD, if_pos rfl])
        have hj0 : 0 < j := by have := HLT.out; omega
        obtain ⟨fn, tmps, assign, body, hy, hR⟩ := HY.out (setDown s j) j w4 hG4 hK4 ⟨hj0, hlt, hS4⟩
        have HS4 := Aside0.mk hS4
        clear hw hw4 hG4 hK4 hS4 hD p0 e5 f5 P0 E5D EFD HSP hd
        refine (wpIn_wide (n := 0)).1 ?_
        gi_wp2
        refine ⟨rfl, hR.mono ?_⟩
        rintro e W5 (⟨rfl, s', hb5, hG5, hK5⟩ | ⟨ch, rfl, hb5, hP5, hK5⟩)
        · have HG5 := Aside0.mk hG5
          have HK5 := Aside0.mk hK5
          have HB5 := Aside0.mk hb5
          clear hG5 hK5 hb5
          gi_wp2
          go_wp2
          go_roundg (n - (j + 1))
          case measure => have := HN.out; omega
          case rel => exact ⟨j + 1, s', by go_num, ⟨by omega⟩, HG5, HK5, ⟨HS4.out.body hlt HB5.out⟩, ⟨by have := HLT.out; omega⟩, ⟨by rw [HSP4.out, HB5.out]; rfl⟩⟩
        · exact ⟨rfl, .inr ⟨ch, rfl, by rw [HSP4.out, hb5]; rfl, hP5, hK5⟩⟩
    · have h1 : decide (j < n) = false := by simpa using hlt
      go_wp2
      go_end0
      exact .inl ⟨⟨_, rfl⟩, s, by rw [HSP.out, show n - j = 0 by omega]; rfl, HG.out, HKW.out⟩
end Go.Proofs.Ytgocgjfaiddejaa.M
