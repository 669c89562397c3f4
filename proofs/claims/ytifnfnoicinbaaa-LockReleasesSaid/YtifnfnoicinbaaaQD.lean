/- The reference's Check. And what follows of it. -/
import Derived.Test.YtifnfnoicinbaaaQB
namespace Go.Proofs.Ytifnfnoicinbaaa.M
open Go.RowKit Go.Proofs.YtifnfnoicinbaaaW.PrintWords Go.Proofs.YtifnfnoicinbaaaW.PrintLast Go.Proofs.YtifnfnoicinbaaaW.PrintMore
set_option linter.unusedVariables false
set_option linter.unusedSimpArgs false
set_option linter.unnecessarySimpa false
attribute [local go_sem high] eqA24

theorem okH_step {H : List S24} {i : Nat} (h : ∀ j, j < i → okH H j) (hi : okH H i) : ∀ j, j < i + 1 → okH H j := fun j hj => by
  rcases Nat.lt_or_ge j i with h' | h'
  · exact h j h'
  · rw [show j = i by omega]; exact hi
theorem okW_step {H W : List S24} {i : Nat} (h : ∀ j, j < i → okW H W j) (hi : okW H W i) : ∀ j, j < i + 1 → okW H W j := fun j hj => by
  rcases Nat.lt_or_ge j i with h' | h'
  · exact h j h'
  · rw [show j = i by omega]; exact hi
theorem okS_step {H W : List S24} {i : Nat} (h : ∀ j, j < i → okS H W j) (hi : okS H W i) : ∀ j, j < i + 1 → okS H W j := fun j hj => by
  rcases Nat.lt_or_ge j i with h' | h'
  · exact h j h'
  · rw [show j = i by omega]; exact hi
set_option maxRecDepth 100000 in
set_option maxHeartbeats 8000000 in
theorem checkR_calls (A B : Option Addr) (c d : Nat) (H W : List S24) (w : World) (h1 : k24.C w A H.length H) (h2 : k24.C w B W.length W) (l1 : H.length ≤ c) (l2 : W.length ≤ d) (hlen : H.length + W.length ≤ 1000) :
    Calls Try.prog 35 #[.agg #[.slice A H.length c, .slice B W.length d]] w fun e w' => e = .returned (.int .i64 (chkE H W)) ∧ Below w.heap.size w w' := by
  have HC1 := Aside0.mk h1
  have HC2 := Aside0.mk h2
  clear h1 h2
  go_enter Try.func35, Try.ntmps35
  go_upto_region 1 with (fail)
  have hb_ := below_alloc (Below.refl _ w) (.cells #[.slice A H.length c, .slice B W.length d] 29)
  have hG0_ := blk_lit0 w (.cells #[.slice A H.length c, .slice B W.length d] 29)
  generalize (w.alloc (.cells #[.slice A H.length c, .slice B W.length d] 29)) = V at hb_ hG0_ ⊢
  have HB_V := Aside0.mk hb_
  have V0 := Aside0.mk hG0_
  clear hb_ hG0_
  have x0 := (blk_cell V0.out 0).trans rfl; have x1 := (blk_cell V0.out 1).trans rfl
  by_cases h400 : 400 < H.length + W.length
  · have h4 : decide ((400 : Int) < (H.length : Int) + (W.length : Int)) = true := by simp; omega
    have HE := Aside0.mk (chk_no (H := H) (W := W) (fun h => by have := h.1; omega))
    go_wp2
    go_ret
    exact ⟨by rw [HE.out]; rfl, HB_V.out⟩
  have h4 : decide ((400 : Int) < (H.length : Int) + (W.length : Int)) = false := by simp; omega
  go_wp2
  clear x0 x1 h4
  go_loopg [3] H.length (fun kq v3 w' => ∃ i : Nat, v3 = .int .i64 i ∧ Aside0 (kq + i = H.length) ∧ Aside0 (∀ j, j < i → okH H j) ∧ Aside0 (Below V.heap.size V w'))
  case atStart => exact ⟨0, rfl, ⟨rfl⟩, ⟨fun j hj => absurd hj (by omega)⟩, ⟨Below.refl _ _⟩⟩
  case round =>
    obtain ⟨i, rfl, HI, HOK, HB⟩ := hrel
    have U := Aside0.mk (blk_below V0.out HB.out)
    have x0 := (blk_cell U.out 0).trans rfl; have x1 := (blk_cell U.out 1).trans rfl
    by_cases hit : i < H.length
    · have g2 : decide (i < H.length) = true := by simpa using hit
      have g2' : decide ((i : Int) < (H.length : Int)) = true := by simpa using hit
      have hic : i < c := by omega
      obtain ⟨ae, hae, a0, a1, a2, a3, a4⟩ := at_T24 (Kd.C_below HC1.out (below_step HB_V.out HB.out)) (i : Int) (by omega) (by omega)
      cases hae
      simp only [Int.toNat_natCast] at a0 a1 a2 a3 a4
      obtain ⟨xi, hxi⟩ : ∃ xi, xi = rd_T24 H (i : Int) := ⟨_, rfl⟩
      rw [← hxi] at a0 a1 a2 a3 a4
      have HXI := Aside0.mk hxi
      clear hxi
      go_upto_region 7 with (fail)
      refine (validR_calls xi _).mono ?_
      rintro e w3 ⟨rfl, hb⟩
      have HB := Aside0.mk (below_step HB.out hb)
      clear hb x0 x1 a0 a1 a2 a3 a4 U
      cases hv : vL xi with
      | false =>
        have HE := Aside0.mk (chk_no (H := H) (W := W) (fun h => by have := (h.2.1 i hit).1; rw [← HXI.out, hv] at this; cases this))
        have HB9 := Aside0.mk (below_step HB_V.out HB.out)
        go_wp2
        go_ret
        exact ⟨by rw [HE.out]; rfl, HB9.out⟩
      | true =>
        have HV := Aside0.mk hv
        clear hv
        go_wp2
        clear g2 g2'
        go_loopg [4] i (fun kq v4 w' => ∃ k : Nat, v4 = .int .i64 k ∧ Aside0 (kq + k = i) ∧ Aside0 (∀ m, m < k → cfL xi (rd_T24 H (m : Int)) = false) ∧ Aside0 (Below V.heap.size V w'))
        case atStart => exact ⟨0, rfl, ⟨rfl⟩, ⟨fun j hj => absurd hj (by omega)⟩, HB⟩
        case round =>
          obtain ⟨k, rfl, HK, HNC, HB⟩ := hrel
          by_cases hkt : k < i
          · have g3 : decide (k < i) = true := by simpa using hkt
            have g3' : decide ((k : Int) < (i : Int)) = true := by simpa using hkt
            have hkx : k < H.length := by omega
            have hkc : k < c := by omega
            go_upto_region 11 with (fail)
            have U := Aside0.mk (blk_below V0.out HB.out)
            have x0 := (blk_cell U.out 0).trans rfl; have x1 := (blk_cell U.out 1).trans rfl
            obtain ⟨ae1, hae, a0, a1, a2, a3, a4⟩ := at_T24 (Kd.C_below HC1.out (below_step HB_V.out HB.out)) (i : Int) (by omega) (by omega)
            obtain ⟨ae2, hae2, b0, b1, b2, b3, b4⟩ := at_T24 (Kd.C_below HC1.out (below_step HB_V.out HB.out)) (k : Int) (by omega) (by omega)
            cases hae
            cases hae2
            simp only [Int.toNat_natCast] at a0 a1 a2 a3 a4 b0 b1 b2 b3 b4
            rw [← HXI.out] at a0 a1 a2 a3 a4
            obtain ⟨xk, hxk⟩ : ∃ xk, xk = rd_T24 H (k : Int) := ⟨_, rfl⟩
            rw [← hxk] at b0 b1 b2 b3 b4
            have HXK := Aside0.mk hxk
            clear hxk
            refine start_ (n := 11) (S := fun w' => Below wr.heap.size wr w') (ds := [10]) #[false, false, false, false, false, false, false, false, false, false, false] (by kernel_rfl) rfl rfl (below_drew1 (Below.refl wr.heap.size wr)) (fun hHeld => ?_)
            generalize wr.drew = wd at hHeld ⊢
            refine pure_ (i := 0) (N := some 34) (v := ?_) (a' := ?_) #[true, false, false, false, false, false, false, false, false, false, false] rfl rfl (by kernel_rfl) (fun _ _ _ h => h) (Or.inl ⟨by rfl, ?_⟩) ?_ ?_
            rotate_left
            · intro w'
              go_simp
              with_reducible rfl
            rotate_left
            · simp only [Act.put, List.setIfInBounds_toArray, List.set_cons_zero, List.set_cons_succ, i64_w, i32_w]
              rfl
            refine take_ (i := 1) (N := some 35) (v := ?_) (a' := ?_) #[true, true, false, false, false, false, false, false, false, false, false] rfl rfl (by kernel_rfl) (fun _ _ _ h => h) (Or.inl ⟨by rfl, ?_⟩) hHeld ?_ ?_
            rotate_left
            · rintro w' s0
              have q0 := pw_cell_below s0 x0; have q1 := pw_cell_below s0 x1
              go_simp
              with_reducible rfl
            rotate_left
            · simp only [Act.put, List.setIfInBounds_toArray, List.set_cons_zero, List.set_cons_succ, i64_w, i32_w]
              rfl
            refine pure_ (i := 2) (N := some 36) (v := ?_) (a' := ?_) #[true, true, true, false, false, false, false, false, false, false, false] rfl rfl (by kernel_rfl) (fun _ _ _ h => h) (Or.inl ⟨by rfl, ?_⟩) ?_ ?_
            rotate_left
            · intro w'
              go_simp
              with_reducible rfl
            rotate_left
            · simp only [Act.put, List.setIfInBounds_toArray, List.set_cons_zero, List.set_cons_succ, i64_w, i32_w]
              rfl
            refine pure_ (i := 3) (N := some 37) (v := ?_) (a' := ?_) #[true, true, true, true, false, false, false, false, false, false, false] rfl rfl (by kernel_rfl) (fun _ _ _ h => h) (Or.inl ⟨by rfl, ?_⟩) ?_ ?_
            rotate_left
            · intro w'
              go_simp
              with_reducible rfl
            rotate_left
            · simp only [Act.put, List.setIfInBounds_toArray, List.set_cons_zero, List.set_cons_succ, i64_w, i32_w]
              rfl
            refine take_ (i := 4) (N := some 38) (v := ?_) (a' := ?_) #[true, true, true, true, true, false, false, false, false, false, false] rfl rfl (by kernel_rfl) (fun _ _ _ h => h) (Or.inl ⟨by rfl, ?_⟩) hHeld ?_ ?_
            rotate_left
            · rintro w' s0
              have q0 := pw_cell_below s0 a0; have q1 := pw_cell_below s0 a1; have q2 := pw_cell_below s0 a2; have q3 := pw_cell_below s0 a3; have q4 := pw_cell_below s0 a4
              go_simp
              with_reducible rfl
            rotate_left
            · simp only [Act.put, List.setIfInBounds_toArray, List.set_cons_zero, List.set_cons_succ, i64_w, i32_w]
              rfl
            refine pure_ (i := 5) (N := some 39) (v := ?_) (a' := ?_) #[true, true, true, true, true, true, false, false, false, false, false] rfl rfl (by kernel_rfl) (fun _ _ _ h => h) (Or.inl ⟨by rfl, ?_⟩) ?_ ?_
            rotate_left
            · intro w'
              go_simp
              with_reducible rfl
            rotate_left
            · simp only [Act.put, List.setIfInBounds_toArray, List.set_cons_zero, List.set_cons_succ, i64_w, i32_w]
              rfl
            refine take_ (i := 6) (N := some 40) (v := ?_) (a' := ?_) #[true, true, true, true, true, true, true, false, false, false, false] rfl rfl (by kernel_rfl) (fun _ _ _ h => h) (Or.inl ⟨by rfl, ?_⟩) hHeld ?_ ?_
            rotate_left
            · rintro w' s0
              have q0 := pw_cell_below s0 x0; have q1 := pw_cell_below s0 x1
              go_simp
              with_reducible rfl
            rotate_left
            · simp only [Act.put, List.setIfInBounds_toArray, List.set_cons_zero, List.set_cons_succ, i64_w, i32_w]
              rfl
            refine pure_ (i := 7) (N := some 41) (v := ?_) (a' := ?_) #[true, true, true, true, true, true, true, true, false, false, false] rfl rfl (by kernel_rfl) (fun _ _ _ h => h) (Or.inl ⟨by rfl, ?_⟩) ?_ ?_
            rotate_left
            · intro w'
              go_simp
              with_reducible rfl
            rotate_left
            · simp only [Act.put, List.setIfInBounds_toArray, List.set_cons_zero, List.set_cons_succ, i64_w, i32_w]
              rfl
            refine pure_ (i := 8) (N := some 42) (v := ?_) (a' := ?_) #[true, true, true, true, true, true, true, true, true, false, false] rfl rfl (by kernel_rfl) (fun _ _ _ h => h) (Or.inl ⟨by rfl, ?_⟩) ?_ ?_
            rotate_left
            · intro w'
              go_simp
              with_reducible rfl
            rotate_left
            · simp only [Act.put, List.setIfInBounds_toArray, List.set_cons_zero, List.set_cons_succ, i64_w, i32_w]
              rfl
            refine take_ (i := 9) (N := some 43) (v := ?_) (a' := ?_) #[true, true, true, true, true, true, true, true, true, true, false] rfl rfl (by kernel_rfl) (fun _ _ _ h => h) (Or.inl ⟨by rfl, ?_⟩) hHeld ?_ ?_
            rotate_left
            · rintro w' s0
              have q0 := pw_cell_below s0 b0; have q1 := pw_cell_below s0 b1; have q2 := pw_cell_below s0 b2; have q3 := pw_cell_below s0 b3; have q4 := pw_cell_below s0 b4
              go_simp
              with_reducible rfl
            rotate_left
            · simp only [Act.put, List.setIfInBounds_toArray, List.set_cons_zero, List.set_cons_succ, i64_w, i32_w]
              rfl
            refine last_ (i := 10) (N := some 44) #[true, true, true, true, true, true, true, true, true, true, true] rfl rfl (by kernel_rfl) (by decide) (fun K hK => ?_)
            refine goes_ Try.func33 (by kernel_rfl) rfl #[.agg #[.int .i64 xi.f0, .int .i64 xi.f1, .int .i64 xi.f2, .int .i64 xi.f3, .bool xi.f4], .agg #[.int .i64 xk.f0, .int .i64 xk.f1, .int .i64 xk.f2, .int .i64 xk.f3, .bool xk.f4]] (by rfl) rfl rfl (by (try simp only [List.map_toArray, List.map_cons, List.map_nil]); first | done | rfl) ?_
            refine (conflictR_calls xi xk _).mono ?_
            rintro e wc ⟨rfl, hb⟩
            refine ⟨_, rfl, ?_⟩
            have HB := Aside0.mk (below_step (below_step HB.out hHeld) hb)
            clear hb
            refine hK.out _ _ ?_
            clear hK K
            refine norm_ (a' := ?_) ?_ ?_
            rotate_left
            · show Act.put _ (some 44) _ = _
              simp only [Act.put, List.setIfInBounds_toArray, List.set_cons_zero, List.set_cons_succ, i64_w, i32_w]
              rfl
            refine done_ (by kernel_rfl) ?_
            clear hHeld a0 a1 a2 a3 a4 b0 b1 b2 b3 b4 x0 x1 U
            cases hcf : cfL xi xk with
            | true =>
              have HE := Aside0.mk (chk_no (H := H) (W := W) (fun h => by have := (h.2.1 i hit).2 k hkt; rw [← HXI.out, ← HXK.out, hcf] at this; cases this))
              have HB9 := Aside0.mk (below_step HB_V.out HB.out)
              go_wp2
              go_ret
              exact ⟨by rw [HE.out]; rfl, HB9.out⟩
            | false =>
              have HN2 := Aside0.mk (show ∀ m, m < k + 1 → cfL xi (rd_T24 H (m : Int)) = false from fun m hm => by
                rcases Nat.lt_or_ge m k with h | h
                · exact HNC.out m h
                · rw [show m = k by omega, ← HXK.out]; exact hcf)
              clear hcf
              go_wp2
              go_roundg (i - (k + 1))
              case measure => have := HK.out; omega
              case rel => exact ⟨k + 1, by go_num, ⟨by omega⟩, HN2, HB⟩
          · obtain rfl : k = i := by have := HK.out; omega
            have g3 : decide (k < k) = false := by simp
            have g3' : decide ((k : Int) < (k : Int)) = false := by simp
            have HO2 := Aside0.mk (okH_step HOK.out ⟨by rw [← HXI.out]; exact HV.out, fun m hm => by rw [← HXI.out]; exact HNC.out m hm⟩)
            go_wp2
            go_roundg (H.length - (k + 1))
            case measure => have := HI.out; omega
            case rel => exact ⟨k + 1, by go_num, ⟨by omega⟩, HO2, HB⟩
    · have g2 : decide (i < H.length) = false := by simpa using hit
      have g2' : decide ((i : Int) < (H.length : Int)) = false := by simpa using hit
      have HOH := Aside0.mk (show ∀ j, j < H.length → okH H j from fun j hj => HOK.out j (by omega))
      go_wp2
      clear x0 x1 U g2 g2' hit HI HOK
      go_loopg [5] W.length (fun kq v5 w' => ∃ i : Nat, v5 = .int .i64 i ∧ Aside0 (kq + i = W.length) ∧ Aside0 (∀ j, j < i → okW H W j) ∧ Aside0 (Below V.heap.size V w'))
      case atStart => exact ⟨0, rfl, ⟨rfl⟩, ⟨fun j hj => absurd hj (by omega)⟩, HB⟩
      case round =>
        obtain ⟨i, rfl, HI, HOK, HB⟩ := hrel
        have U := Aside0.mk (blk_below V0.out HB.out)
        have x0 := (blk_cell U.out 0).trans rfl; have x1 := (blk_cell U.out 1).trans rfl
        by_cases hit : i < W.length
        · have g2 : decide (i < W.length) = true := by simpa using hit
          have g2' : decide ((i : Int) < (W.length : Int)) = true := by simpa using hit
          have hic : i < d := by omega
          obtain ⟨ae, hae, a0, a1, a2, a3, a4⟩ := at_T24 (Kd.C_below HC2.out (below_step HB_V.out HB.out)) (i : Int) (by omega) (by omega)
          simp only [Int.toNat_natCast] at a0 a1 a2 a3 a4
          have CW := Aside0.mk (Kd.C_below HC2.out (below_step HB_V.out HB.out))
          have CH := Aside0.mk (Kd.C_below HC1.out (below_step HB_V.out HB.out))
          subst hae
          obtain ⟨xi, hxi⟩ : ∃ xi, xi = rd_T24 W (i : Int) := ⟨_, rfl⟩
          rw [← hxi] at a0 a1 a2 a3 a4
          have HXI := Aside0.mk hxi
          clear hxi
          go_upto_region 16 with (fail)
          obtain ⟨NN, hNN⟩ : ∃ NN, NN = (PL.blks cfL H W i).map hdL := ⟨_, rfl⟩
          have HNN := Aside0.mk hNN.symm
          have hnl : NN.length ≤ 1000 := by rw [hNN, List.length_map]; have := PL.blks_len (mt := cfL) (H := H) (W := W) i; omega
          have HNE := Aside0.mk (show PL.blks cfL H W i ≠ [] ↔ NN.length ≠ 0 by rw [hNN, List.length_map]; simp)
          clear hNN
          obtain ⟨wn, hwn⟩ : ∃ wn, wn = waitN W xi.f1 := ⟨_, rfl⟩
          have HWN := Aside0.mk hwn.symm
          clear hwn
          obtain ⟨bv, hbv⟩ : ∃ bv, bv = vL xi := ⟨_, rfl⟩
          have HBV := Aside0.mk hbv
          clear hbv
          refine start_ (n := 26) (S := fun w' => Below wr.heap.size wr w') (ds := []) #[false, false, false, false, false, false, false, false, false, false, false, false, false, false, false, false, false, false, false, false, false, false, false, false, false, false] (by kernel_rfl) rfl rfl (below_drew1 (Below.refl wr.heap.size wr)) (fun hHeld => ?_)
          generalize wr.drew = wd at hHeld ⊢
          refine pure_ (i := 0) (N := some 52) (v := ?_) (a' := ?_) #[true, false, false, false, false, false, false, false, false, false, false, false, false, false, false, false, false, false, false, false, false, false, false, false, false, false] rfl rfl (by kernel_rfl) (fun _ _ _ h => h) (Or.inl ⟨by rfl, ?_⟩) ?_ ?_
          rotate_left
          · intro w'
            go_simp
            with_reducible rfl
          rotate_left
          · simp only [Act.put, List.setIfInBounds_toArray, List.set_cons_zero, List.set_cons_succ, i64_w, i32_w]
            rfl
          refine take_ (i := 1) (N := some 53) (v := ?_) (a' := ?_) #[true, true, false, false, false, false, false, false, false, false, false, false, false, false, false, false, false, false, false, false, false, false, false, false, false, false] rfl rfl (by kernel_rfl) (fun _ _ _ h => h) (Or.inl ⟨by rfl, ?_⟩) hHeld ?_ ?_
          rotate_left
          · rintro w' s0
            have q0 := pw_cell_below s0 x0; have q1 := pw_cell_below s0 x1
            go_simp
            with_reducible rfl
          rotate_left
          · simp only [Act.put, List.setIfInBounds_toArray, List.set_cons_zero, List.set_cons_succ, i64_w, i32_w]
            rfl
          refine pure_ (i := 2) (N := some 54) (v := ?_) (a' := ?_) #[true, true, true, false, false, false, false, false, false, false, false, false, false, false, false, false, false, false, false, false, false, false, false, false, false, false] rfl rfl (by kernel_rfl) (fun _ _ _ h => h) (Or.inl ⟨by rfl, ?_⟩) ?_ ?_
          rotate_left
          · intro w'
            go_simp
            with_reducible rfl
          rotate_left
          · simp only [Act.put, List.setIfInBounds_toArray, List.set_cons_zero, List.set_cons_succ, i64_w, i32_w]
            rfl
          refine pure_ (i := 3) (N := some 55) (v := ?_) (a' := ?_) #[true, true, true, true, false, false, false, false, false, false, false, false, false, false, false, false, false, false, false, false, false, false, false, false, false, false] rfl rfl (by kernel_rfl) (fun _ _ _ h => h) (Or.inl ⟨by rfl, ?_⟩) ?_ ?_
          rotate_left
          · intro w'
            go_simp
            with_reducible rfl
          rotate_left
          · simp only [Act.put, List.setIfInBounds_toArray, List.set_cons_zero, List.set_cons_succ, i64_w, i32_w]
            rfl
          refine take_ (i := 4) (N := some 56) (v := ?_) (a' := ?_) #[true, true, true, true, true, false, false, false, false, false, false, false, false, false, false, false, false, false, false, false, false, false, false, false, false, false] rfl rfl (by kernel_rfl) (fun _ _ _ h => h) (Or.inl ⟨by rfl, ?_⟩) hHeld ?_ ?_
          rotate_left
          · rintro w' s0
            have q0 := pw_cell_below s0 a0; have q1 := pw_cell_below s0 a1; have q2 := pw_cell_below s0 a2; have q3 := pw_cell_below s0 a3; have q4 := pw_cell_below s0 a4
            go_simp
            with_reducible rfl
          rotate_left
          · simp only [Act.put, List.setIfInBounds_toArray, List.set_cons_zero, List.set_cons_succ, i64_w, i32_w]
            rfl
          refine one_ (i := 5) (N := some 57) #[true, true, true, true, true, true, false, false, false, false, false, false, false, false, false, false, false, false, false, false, false, false, false, false, false, false] rfl rfl (by kernel_rfl) (by decide) (fun K hK => ?_)
          refine goes_ Try.func32 (by kernel_rfl) rfl #[.agg #[.int .i64 xi.f0, .int .i64 xi.f1, .int .i64 xi.f2, .int .i64 xi.f3, .bool xi.f4]] (by rfl) rfl rfl (by (try simp only [List.map_toArray, List.map_cons, List.map_nil]); first | done | rfl) ?_
          refine (validR_calls xi _).mono ?_
          rintro e wc ⟨rfl, hb⟩
          refine ⟨_, rfl, ?_⟩
          have HB2 := Aside0.mk (below_step hHeld hb)
          clear hb hHeld
          rw [← HBV.out]
          refine hK.out _ _ HB2.out (fun hHeld => ?_)
          clear hK K
          refine norm_ (a' := ?_) ?_ ?_
          rotate_left
          · show Act.put _ (some 57) _ = _
            simp only [Act.put, List.setIfInBounds_toArray, List.set_cons_zero, List.set_cons_succ, i64_w, i32_w]
            rfl
          clear HB2
          refine pure_ (i := 6) (N := some 58) (v := ?_) (a' := ?_) #[true, true, true, true, true, true, true, false, false, false, false, false, false, false, false, false, false, false, false, false, false, false, false, false, false, false] rfl rfl (by kernel_rfl) (fun _ _ _ h => h) (Or.inl ⟨by rfl, ?_⟩) ?_ ?_
          rotate_left
          · intro w'
            go_simp
            with_reducible rfl
          rotate_left
          · simp only [Act.put, List.setIfInBounds_toArray, List.set_cons_zero, List.set_cons_succ, i64_w, i32_w]
            rfl
          refine pure_ (i := 7) (N := some 59) (v := ?_) (a' := ?_) #[true, true, true, true, true, true, true, true, false, false, false, false, false, false, false, false, false, false, false, false, false, false, false, false, false, false] rfl rfl (by kernel_rfl) (fun _ _ _ h => h) (Or.inl ⟨by rfl, ?_⟩) ?_ ?_
          rotate_left
          · intro w'
            go_simp
            with_reducible rfl
          rotate_left
          · simp only [Act.put, List.setIfInBounds_toArray, List.set_cons_zero, List.set_cons_succ, i64_w, i32_w]
            rfl
          cases bv with
          | false =>
            have HE := Aside0.mk (chk_no (H := H) (W := W) (fun h => by have := (h.2.2.1 i hit).1; rw [← HXI.out, ← HBV.out] at this; cases this))
            skip
            refine pure_ (i := 8) (N := some 60) (v := undef) (a' := ?_) #[true, true, true, true, true, true, true, true, true, false, false, false, false, false, false, false, false, false, false, false, false, false, false, false, false, false] rfl rfl (by kernel_rfl) (fun _ _ _ h => h) (Or.inr ⟨by rfl, rfl⟩) ?_ ?_
            rotate_left
            · simp only [Act.put, List.setIfInBounds_toArray, List.set_cons_zero, List.set_cons_succ, i64_w, i32_w]
              rfl
            refine pure_ (i := 9) (N := some 61) (v := undef) (a' := ?_) #[true, true, true, true, true, true, true, true, true, true, false, false, false, false, false, false, false, false, false, false, false, false, false, false, false, false] rfl rfl (by kernel_rfl) (fun _ _ _ h => h) (Or.inr ⟨by rfl, rfl⟩) ?_ ?_
            rotate_left
            · simp only [Act.put, List.setIfInBounds_toArray, List.set_cons_zero, List.set_cons_succ, i64_w, i32_w]
              rfl
            refine pure_ (i := 10) (N := some 62) (v := undef) (a' := ?_) #[true, true, true, true, true, true, true, true, true, true, true, false, false, false, false, false, false, false, false, false, false, false, false, false, false, false] rfl rfl (by kernel_rfl) (fun _ _ _ h => h) (Or.inr ⟨by rfl, rfl⟩) ?_ ?_
            rotate_left
            · simp only [Act.put, List.setIfInBounds_toArray, List.set_cons_zero, List.set_cons_succ, i64_w, i32_w]
              rfl
            refine pure_ (i := 11) (N := some 63) (v := undef) (a' := ?_) #[true, true, true, true, true, true, true, true, true, true, true, true, false, false, false, false, false, false, false, false, false, false, false, false, false, false] rfl rfl (by kernel_rfl) (fun _ _ _ h => h) (Or.inr ⟨by rfl, rfl⟩) ?_ ?_
            rotate_left
            · simp only [Act.put, List.setIfInBounds_toArray, List.set_cons_zero, List.set_cons_succ, i64_w, i32_w]
              rfl
            refine pure_ (i := 12) (N := some 64) (v := undef) (a' := ?_) #[true, true, true, true, true, true, true, true, true, true, true, true, true, false, false, false, false, false, false, false, false, false, false, false, false, false] rfl rfl (by kernel_rfl) (fun _ _ _ h => h) (Or.inr ⟨by rfl, rfl⟩) ?_ ?_
            rotate_left
            · simp only [Act.put, List.setIfInBounds_toArray, List.set_cons_zero, List.set_cons_succ, i64_w, i32_w]
              rfl
            refine pure_ (i := 13) (N := some 65) (v := undef) (a' := ?_) #[true, true, true, true, true, true, true, true, true, true, true, true, true, true, false, false, false, false, false, false, false, false, false, false, false, false] rfl rfl (by kernel_rfl) (fun _ _ _ h => h) (Or.inr ⟨by rfl, rfl⟩) ?_ ?_
            rotate_left
            · simp only [Act.put, List.setIfInBounds_toArray, List.set_cons_zero, List.set_cons_succ, i64_w, i32_w]
              rfl
            refine pure_ (i := 14) (N := some 66) (v := undef) (a' := ?_) #[true, true, true, true, true, true, true, true, true, true, true, true, true, true, true, false, false, false, false, false, false, false, false, false, false, false] rfl rfl (by kernel_rfl) (fun _ _ _ h => h) (Or.inr ⟨by rfl, rfl⟩) ?_ ?_
            rotate_left
            · simp only [Act.put, List.setIfInBounds_toArray, List.set_cons_zero, List.set_cons_succ, i64_w, i32_w]
              rfl
            refine pure_ (i := 15) (N := some 67) (v := undef) (a' := ?_) #[true, true, true, true, true, true, true, true, true, true, true, true, true, true, true, true, false, false, false, false, false, false, false, false, false, false] rfl rfl (by kernel_rfl) (fun _ _ _ h => h) (Or.inr ⟨by rfl, rfl⟩) ?_ ?_
            rotate_left
            · simp only [Act.put, List.setIfInBounds_toArray, List.set_cons_zero, List.set_cons_succ, i64_w, i32_w]
              rfl
            refine pure_ (i := 16) (N := some 68) (v := undef) (a' := ?_) #[true, true, true, true, true, true, true, true, true, true, true, true, true, true, true, true, true, false, false, false, false, false, false, false, false, false] rfl rfl (by kernel_rfl) (fun _ _ _ h => h) (Or.inr ⟨by rfl, rfl⟩) ?_ ?_
            rotate_left
            · simp only [Act.put, List.setIfInBounds_toArray, List.set_cons_zero, List.set_cons_succ, i64_w, i32_w]
              rfl
            refine pure_ (i := 17) (N := some 69) (v := undef) (a' := ?_) #[true, true, true, true, true, true, true, true, true, true, true, true, true, true, true, true, true, true, false, false, false, false, false, false, false, false] rfl rfl (by kernel_rfl) (fun _ _ _ h => h) (Or.inr ⟨by rfl, rfl⟩) ?_ ?_
            rotate_left
            · simp only [Act.put, List.setIfInBounds_toArray, List.set_cons_zero, List.set_cons_succ, i64_w, i32_w]
              rfl
            refine pure_ (i := 18) (N := some 70) (v := ?_) (a' := ?_) #[true, true, true, true, true, true, true, true, true, true, true, true, true, true, true, true, true, true, true, false, false, false, false, false, false, false] rfl rfl (by kernel_rfl) (fun _ _ _ h => h) (Or.inl ⟨by rfl, ?_⟩) ?_ ?_
            rotate_left
            · intro w'
              go_simp
              with_reducible rfl
            rotate_left
            · simp only [Act.put, List.setIfInBounds_toArray, List.set_cons_zero, List.set_cons_succ, i64_w, i32_w]
              rfl
            refine pure_ (i := 19) (N := some 71) (v := ?_) (a' := ?_) #[true, true, true, true, true, true, true, true, true, true, true, true, true, true, true, true, true, true, true, true, false, false, false, false, false, false] rfl rfl (by kernel_rfl) (fun _ _ _ h => h) (Or.inl ⟨by rfl, ?_⟩) ?_ ?_
            rotate_left
            · intro w'
              go_simp
              with_reducible rfl
            rotate_left
            · simp only [Act.put, List.setIfInBounds_toArray, List.set_cons_zero, List.set_cons_succ, i64_w, i32_w]
              rfl
            refine pure_ (i := 20) (N := some 72) (v := undef) (a' := ?_) #[true, true, true, true, true, true, true, true, true, true, true, true, true, true, true, true, true, true, true, true, true, false, false, false, false, false] rfl rfl (by kernel_rfl) (fun _ _ _ h => h) (Or.inr ⟨by rfl, rfl⟩) ?_ ?_
            rotate_left
            · simp only [Act.put, List.setIfInBounds_toArray, List.set_cons_zero, List.set_cons_succ, i64_w, i32_w]
              rfl
            refine pure_ (i := 21) (N := some 73) (v := undef) (a' := ?_) #[true, true, true, true, true, true, true, true, true, true, true, true, true, true, true, true, true, true, true, true, true, true, false, false, false, false] rfl rfl (by kernel_rfl) (fun _ _ _ h => h) (Or.inr ⟨by rfl, rfl⟩) ?_ ?_
            rotate_left
            · simp only [Act.put, List.setIfInBounds_toArray, List.set_cons_zero, List.set_cons_succ, i64_w, i32_w]
              rfl
            refine pure_ (i := 22) (N := some 74) (v := undef) (a' := ?_) #[true, true, true, true, true, true, true, true, true, true, true, true, true, true, true, true, true, true, true, true, true, true, true, false, false, false] rfl rfl (by kernel_rfl) (fun _ _ _ h => h) (Or.inr ⟨by rfl, rfl⟩) ?_ ?_
            rotate_left
            · simp only [Act.put, List.setIfInBounds_toArray, List.set_cons_zero, List.set_cons_succ, i64_w, i32_w]
              rfl
            refine pure_ (i := 23) (N := some 75) (v := undef) (a' := ?_) #[true, true, true, true, true, true, true, true, true, true, true, true, true, true, true, true, true, true, true, true, true, true, true, true, false, false] rfl rfl (by kernel_rfl) (fun _ _ _ h => h) (Or.inr ⟨by rfl, rfl⟩) ?_ ?_
            rotate_left
            · simp only [Act.put, List.setIfInBounds_toArray, List.set_cons_zero, List.set_cons_succ, i64_w, i32_w]
              rfl
            refine pure_ (i := 24) (N := some 76) (v := undef) (a' := ?_) #[true, true, true, true, true, true, true, true, true, true, true, true, true, true, true, true, true, true, true, true, true, true, true, true, true, false] rfl rfl (by kernel_rfl) (fun _ _ _ h => h) (Or.inr ⟨by rfl, rfl⟩) ?_ ?_
            rotate_left
            · simp only [Act.put, List.setIfInBounds_toArray, List.set_cons_zero, List.set_cons_succ, i64_w, i32_w]
              rfl
            refine pure_ (i := 25) (N := some 77) (v := ?_) (a' := ?_) #[true, true, true, true, true, true, true, true, true, true, true, true, true, true, true, true, true, true, true, true, true, true, true, true, true, true] rfl rfl (by kernel_rfl) (fun _ _ _ h => h) (Or.inl ⟨by rfl, ?_⟩) ?_ ?_
            rotate_left
            · intro w'
              go_simp
              with_reducible rfl
            rotate_left
            · simp only [Act.put, List.setIfInBounds_toArray, List.set_cons_zero, List.set_cons_succ, i64_w, i32_w]
              rfl
            refine done_ (by kernel_rfl) ?_
            have HB9 := Aside0.mk (below_step HB_V.out (below_step HB.out hHeld))
            clear hHeld
            go_wp2
            go_ret
            exact ⟨by rw [HE.out]; rfl, HB9.out⟩
          | true =>
          skip
          have HV := Aside0.mk HBV.out.symm
          refine take_ (i := 8) (N := some 60) (v := ?_) (a' := ?_) #[true, true, true, true, true, true, true, true, true, false, false, false, false, false, false, false, false, false, false, false, false, false, false, false, false, false] rfl rfl (by kernel_rfl) (fun _ _ _ h => h) (Or.inl ⟨by rfl, ?_⟩) hHeld ?_ ?_
          rotate_left
          · rintro w' s0
            have q0 := pw_cell_below s0 x0; have q1 := pw_cell_below s0 x1
            go_simp
            with_reducible rfl
          rotate_left
          · simp only [Act.put, List.setIfInBounds_toArray, List.set_cons_zero, List.set_cons_succ, i64_w, i32_w]
            rfl
          refine pure_ (i := 9) (N := some 61) (v := ?_) (a' := ?_) #[true, true, true, true, true, true, true, true, true, true, false, false, false, false, false, false, false, false, false, false, false, false, false, false, false, false] rfl rfl (by kernel_rfl) (fun _ _ _ h => h) (Or.inl ⟨by rfl, ?_⟩) ?_ ?_
          rotate_left
          · intro w'
            go_simp
            with_reducible rfl
          rotate_left
          · simp only [Act.put, List.setIfInBounds_toArray, List.set_cons_zero, List.set_cons_succ, i64_w, i32_w]
            rfl
          refine take_ (i := 10) (N := some 62) (v := ?_) (a' := ?_) #[true, true, true, true, true, true, true, true, true, true, true, false, false, false, false, false, false, false, false, false, false, false, false, false, false, false] rfl rfl (by kernel_rfl) (fun _ _ _ h => h) (Or.inl ⟨by rfl, ?_⟩) hHeld ?_ ?_
          rotate_left
          · rintro w' s0
            have q0 := pw_cell_below s0 x0; have q1 := pw_cell_below s0 x1
            go_simp
            with_reducible rfl
          rotate_left
          · simp only [Act.put, List.setIfInBounds_toArray, List.set_cons_zero, List.set_cons_succ, i64_w, i32_w]
            rfl
          refine pure_ (i := 11) (N := some 63) (v := ?_) (a' := ?_) #[true, true, true, true, true, true, true, true, true, true, true, true, false, false, false, false, false, false, false, false, false, false, false, false, false, false] rfl rfl (by kernel_rfl) (fun _ _ _ h => h) (Or.inl ⟨by rfl, ?_⟩) ?_ ?_
          rotate_left
          · intro w'
            go_simp
            with_reducible rfl
          rotate_left
          · simp only [Act.put, List.setIfInBounds_toArray, List.set_cons_zero, List.set_cons_succ, i64_w, i32_w]
            rfl
          refine pure_ (i := 12) (N := some 64) (v := ?_) (a' := ?_) #[true, true, true, true, true, true, true, true, true, true, true, true, true, false, false, false, false, false, false, false, false, false, false, false, false, false] rfl rfl (by kernel_rfl) (fun _ _ _ h => h) (Or.inl ⟨by rfl, ?_⟩) ?_ ?_
          rotate_left
          · intro w'
            go_simp
            with_reducible rfl
          rotate_left
          · simp only [Act.put, List.setIfInBounds_toArray, List.set_cons_zero, List.set_cons_succ, i64_w, i32_w]
            rfl
          refine pure_ (i := 13) (N := some 65) (v := ?_) (a' := ?_) #[true, true, true, true, true, true, true, true, true, true, true, true, true, true, false, false, false, false, false, false, false, false, false, false, false, false] rfl rfl (by kernel_rfl) (fun _ _ _ h => h) (Or.inl ⟨by rfl, ?_⟩) ?_ ?_
          rotate_left
          · intro w'
            go_simp
            with_reducible rfl
          rotate_left
          · simp only [Act.put, List.setIfInBounds_toArray, List.set_cons_zero, List.set_cons_succ, i64_w, i32_w]
            rfl
          refine take_ (i := 14) (N := some 66) (v := ?_) (a' := ?_) #[true, true, true, true, true, true, true, true, true, true, true, true, true, true, true, false, false, false, false, false, false, false, false, false, false, false] rfl rfl (by kernel_rfl) (fun _ _ _ h => h) (Or.inl ⟨by rfl, ?_⟩) hHeld ?_ ?_
          rotate_left
          · rintro w' s0
            have q0 := pw_cell_below s0 a0; have q1 := pw_cell_below s0 a1; have q2 := pw_cell_below s0 a2; have q3 := pw_cell_below s0 a3; have q4 := pw_cell_below s0 a4
            go_simp
            with_reducible rfl
          rotate_left
          · simp only [Act.put, List.setIfInBounds_toArray, List.set_cons_zero, List.set_cons_succ, i64_w, i32_w]
            rfl
          refine pure_ (i := 16) (N := some 68) (v := ?_) (a' := ?_) #[true, true, true, true, true, true, true, true, true, true, true, true, true, true, true, false, true, false, false, false, false, false, false, false, false, false] rfl rfl (by kernel_rfl) (fun _ _ _ h => h) (Or.inl ⟨by rfl, ?_⟩) ?_ ?_
          rotate_left
          · intro w'
            go_simp
            with_reducible rfl
          rotate_left
          · simp only [Act.put, List.setIfInBounds_toArray, List.set_cons_zero, List.set_cons_succ, i64_w, i32_w]
            rfl
          refine one_ (i := 15) (N := some 67) #[true, true, true, true, true, true, true, true, true, true, true, true, true, true, true, true, true, false, false, false, false, false, false, false, false, false] rfl rfl (by kernel_rfl) (by decide) (fun K hK => ?_)
          refine goes_ Try.func47 (by kernel_rfl) rfl #[.agg #[.slice A H.length c, .slice (some ae) W.length d], .int .i64 xi.f1] (by rfl) rfl rfl (by (try simp only [List.map_toArray, List.map_cons, List.map_nil]); first | done | rfl) ?_
          refine (waitingR_calls A _ c d H W xi.f1 _ (Kd.C_below CH.out hHeld) (Kd.C_below CW.out hHeld) l1 l2 (by omega)).mono ?_
          rintro e wc ⟨rfl, hb⟩
          refine ⟨_, rfl, ?_⟩
          have HB2 := Aside0.mk (below_step hHeld hb)
          clear hb hHeld
          rw [HWN.out]
          refine hK.out _ _ HB2.out (fun hHeld => ?_)
          clear hK K
          refine norm_ (a' := ?_) ?_ ?_
          rotate_left
          · show Act.put _ (some 67) _ = _
            simp only [Act.put, List.setIfInBounds_toArray, List.set_cons_zero, List.set_cons_succ, i64_w, i32_w]
            rfl
          clear HB2
          refine pure_ (i := 17) (N := some 69) (v := ?_) (a' := ?_) #[true, true, true, true, true, true, true, true, true, true, true, true, true, true, true, true, true, true, false, false, false, false, false, false, false, false] rfl rfl (by kernel_rfl) (fun _ _ _ h => h) (Or.inl ⟨by rfl, ?_⟩) ?_ ?_
          rotate_left
          · intro w'
            go_simp
            with_reducible rfl
          rotate_left
          · simp only [Act.put, List.setIfInBounds_toArray, List.set_cons_zero, List.set_cons_succ, i64_w, i32_w]
            rfl
          refine pure_ (i := 18) (N := some 70) (v := ?_) (a' := ?_) #[true, true, true, true, true, true, true, true, true, true, true, true, true, true, true, true, true, true, true, false, false, false, false, false, false, false] rfl rfl (by kernel_rfl) (fun _ _ _ h => h) (Or.inl ⟨by rfl, ?_⟩) ?_ ?_
          rotate_left
          · intro w'
            go_simp
            with_reducible rfl
          rotate_left
          · simp only [Act.put, List.setIfInBounds_toArray, List.set_cons_zero, List.set_cons_succ, i64_w, i32_w]
            rfl
          refine pure_ (i := 19) (N := some 71) (v := ?_) (a' := ?_) #[true, true, true, true, true, true, true, true, true, true, true, true, true, true, true, true, true, true, true, true, false, false, false, false, false, false] rfl rfl (by kernel_rfl) (fun _ _ _ h => h) (Or.inl ⟨by rfl, ?_⟩) ?_ ?_
          rotate_left
          · intro w'
            go_simp
            with_reducible rfl
          rotate_left
          · simp only [Act.put, List.setIfInBounds_toArray, List.set_cons_zero, List.set_cons_succ, i64_w, i32_w]
            rfl
          cases e2 : (wn != (i : Int)) with
          | true =>
            have HE := Aside0.mk (chk_no (H := H) (W := W) (fun h => by have := (h.2.2.1 i hit).2.1; rw [← HXI.out, HWN.out] at this; rw [this] at e2; simp at e2))
            skip
            refine pure_ (i := 20) (N := some 72) (v := undef) (a' := ?_) #[true, true, true, true, true, true, true, true, true, true, true, true, true, true, true, true, true, true, true, true, true, false, false, false, false, false] rfl rfl (by kernel_rfl) (fun _ _ _ h => h) (Or.inr ⟨by rfl, rfl⟩) ?_ ?_
            rotate_left
            · simp only [Act.put, List.setIfInBounds_toArray, List.set_cons_zero, List.set_cons_succ, i64_w, i32_w]
              rfl
            refine pure_ (i := 21) (N := some 73) (v := undef) (a' := ?_) #[true, true, true, true, true, true, true, true, true, true, true, true, true, true, true, true, true, true, true, true, true, true, false, false, false, false] rfl rfl (by kernel_rfl) (fun _ _ _ h => h) (Or.inr ⟨by rfl, rfl⟩) ?_ ?_
            rotate_left
            · simp only [Act.put, List.setIfInBounds_toArray, List.set_cons_zero, List.set_cons_succ, i64_w, i32_w]
              rfl
            refine pure_ (i := 22) (N := some 74) (v := undef) (a' := ?_) #[true, true, true, true, true, true, true, true, true, true, true, true, true, true, true, true, true, true, true, true, true, true, true, false, false, false] rfl rfl (by kernel_rfl) (fun _ _ _ h => h) (Or.inr ⟨by rfl, rfl⟩) ?_ ?_
            rotate_left
            · simp only [Act.put, List.setIfInBounds_toArray, List.set_cons_zero, List.set_cons_succ, i64_w, i32_w]
              rfl
            refine pure_ (i := 23) (N := some 75) (v := undef) (a' := ?_) #[true, true, true, true, true, true, true, true, true, true, true, true, true, true, true, true, true, true, true, true, true, true, true, true, false, false] rfl rfl (by kernel_rfl) (fun _ _ _ h => h) (Or.inr ⟨by rfl, rfl⟩) ?_ ?_
            rotate_left
            · simp only [Act.put, List.setIfInBounds_toArray, List.set_cons_zero, List.set_cons_succ, i64_w, i32_w]
              rfl
            refine pure_ (i := 24) (N := some 76) (v := undef) (a' := ?_) #[true, true, true, true, true, true, true, true, true, true, true, true, true, true, true, true, true, true, true, true, true, true, true, true, true, false] rfl rfl (by kernel_rfl) (fun _ _ _ h => h) (Or.inr ⟨by rfl, rfl⟩) ?_ ?_
            rotate_left
            · simp only [Act.put, List.setIfInBounds_toArray, List.set_cons_zero, List.set_cons_succ, i64_w, i32_w]
              rfl
            refine pure_ (i := 25) (N := some 77) (v := ?_) (a' := ?_) #[true, true, true, true, true, true, true, true, true, true, true, true, true, true, true, true, true, true, true, true, true, true, true, true, true, true] rfl rfl (by kernel_rfl) (fun _ _ _ h => h) (Or.inl ⟨by rfl, ?_⟩) ?_ ?_
            rotate_left
            · intro w'
              go_simp
              with_reducible rfl
            rotate_left
            · simp only [Act.put, List.setIfInBounds_toArray, List.set_cons_zero, List.set_cons_succ, i64_w, i32_w]
              rfl
            refine done_ (by kernel_rfl) ?_
            have HB9 := Aside0.mk (below_step HB_V.out (below_step HB.out hHeld))
            clear hHeld
            go_wp2
            go_ret
            exact ⟨by rw [HE.out]; rfl, HB9.out⟩
          | false =>
          skip
          have HWE := Aside0.mk (show wn = (i : Int) by simpa [bne] using e2)
          refine take_ (i := 20) (N := some 72) (v := ?_) (a' := ?_) #[true, true, true, true, true, true, true, true, true, true, true, true, true, true, true, true, true, true, true, true, true, false, false, false, false, false] rfl rfl (by kernel_rfl) (fun _ _ _ h => h) (Or.inl ⟨by rfl, ?_⟩) hHeld ?_ ?_
          rotate_left
          · rintro w' s0
            have q0 := pw_cell_below s0 x0; have q1 := pw_cell_below s0 x1
            go_simp
            with_reducible rfl
          rotate_left
          · simp only [Act.put, List.setIfInBounds_toArray, List.set_cons_zero, List.set_cons_succ, i64_w, i32_w]
            rfl
          refine pure_ (i := 21) (N := some 73) (v := ?_) (a' := ?_) #[true, true, true, true, true, true, true, true, true, true, true, true, true, true, true, true, true, true, true, true, true, true, false, false, false, false] rfl rfl (by kernel_rfl) (fun _ _ _ h => h) (Or.inl ⟨by rfl, ?_⟩) ?_ ?_
          rotate_left
          · intro w'
            go_simp
            with_reducible rfl
          rotate_left
          · simp only [Act.put, List.setIfInBounds_toArray, List.set_cons_zero, List.set_cons_succ, i64_w, i32_w]
            rfl
          refine one_ (i := 22) (N := some 74) #[true, true, true, true, true, true, true, true, true, true, true, true, true, true, true, true, true, true, true, true, true, true, true, false, false, false] rfl rfl (by kernel_rfl) (by decide) (fun K hK => ?_)
          refine goes_ Try.func52 (by kernel_rfl) rfl #[.agg #[.slice A H.length c, .slice (some ae) W.length d], .int .i64 (i : Int)] (by rfl) rfl rfl (by (try simp only [List.map_toArray, List.map_cons, List.map_nil]); first | done | rfl) ?_
          refine (blockersR_calls A _ c d H W i _ (Kd.C_below CH.out hHeld) (Kd.C_below CW.out hHeld) l1 l2 (by omega) (by omega) hit).mono ?_
          rintro e wc ⟨v, rfl, hv2, hb⟩
          refine ⟨_, rfl, ?_⟩
          rw [HNN.out] at hv2
          obtain ⟨na, nc, rfl⟩ := Kd.R_slice hv2
          have HB2 := Aside0.mk (below_step hHeld hb)
          clear hb hHeld hv2
          refine hK.out _ _ HB2.out (fun hHeld => ?_)
          clear hK K
          refine norm_ (a' := ?_) ?_ ?_
          rotate_left
          · show Act.put _ (some 74) _ = _
            simp only [Act.put, List.setIfInBounds_toArray, List.set_cons_zero, List.set_cons_succ, i64_w, i32_w]
            rfl
          clear HB2
          refine pure_ (i := 23) (N := some 75) (v := ?_) (a' := ?_) #[true, true, true, true, true, true, true, true, true, true, true, true, true, true, true, true, true, true, true, true, true, true, true, true, false, false] rfl rfl (by kernel_rfl) (fun _ _ _ h => h) (Or.inl ⟨by rfl, ?_⟩) ?_ ?_
          rotate_left
          · intro w'
            go_simp
            with_reducible rfl
          rotate_left
          · simp only [Act.put, List.setIfInBounds_toArray, List.set_cons_zero, List.set_cons_succ, i64_w, i32_w]
            rfl
          refine pure_ (i := 24) (N := some 76) (v := ?_) (a' := ?_) #[true, true, true, true, true, true, true, true, true, true, true, true, true, true, true, true, true, true, true, true, true, true, true, true, true, false] rfl rfl (by kernel_rfl) (fun _ _ _ h => h) (Or.inl ⟨by rfl, ?_⟩) ?_ ?_
          rotate_left
          · intro w'
            go_simp
            with_reducible rfl
          rotate_left
          · simp only [Act.put, List.setIfInBounds_toArray, List.set_cons_zero, List.set_cons_succ, i64_w, i32_w]
            rfl
          cases e3 : ((NN.length : Int) == 0) with
          | true =>
            have HE := Aside0.mk (chk_no (H := H) (W := W) (fun h => by have := HNE.out.1 (h.2.2.1 i hit).2.2; have h9 : (NN.length : Int) = 0 := (by simpa using e3); omega))
            skip
            refine pure_ (i := 25) (N := some 77) (v := ?_) (a' := ?_) #[true, true, true, true, true, true, true, true, true, true, true, true, true, true, true, true, true, true, true, true, true, true, true, true, true, true] rfl rfl (by kernel_rfl) (fun _ _ _ h => h) (Or.inl ⟨by rfl, ?_⟩) ?_ ?_
            rotate_left
            · intro w'
              go_simp
              with_reducible rfl
            rotate_left
            · simp only [Act.put, List.setIfInBounds_toArray, List.set_cons_zero, List.set_cons_succ, i64_w, i32_w]
              rfl
            refine done_ (by kernel_rfl) ?_
            have HB9 := Aside0.mk (below_step HB_V.out (below_step HB.out hHeld))
            clear hHeld
            go_wp2
            go_ret
            exact ⟨by rw [HE.out]; rfl, HB9.out⟩
          | false =>
          skip
          have HO2 := Aside0.mk (okW_step HOK.out (show okW H W i from ⟨(congrArg vL HXI.out).symm.trans HV.out, (congrArg (fun z => waitN W z.f1) HXI.out).symm.trans (HWN.out.trans HWE.out), HNE.out.2 (fun h => by rw [h] at e3; simp at e3)⟩))
          refine pure_ (i := 25) (N := some 77) (v := ?_) (a' := ?_) #[true, true, true, true, true, true, true, true, true, true, true, true, true, true, true, true, true, true, true, true, true, true, true, true, true, true] rfl rfl (by kernel_rfl) (fun _ _ _ h => h) (Or.inl ⟨by rfl, ?_⟩) ?_ ?_
          rotate_left
          · intro w'
            go_simp
            with_reducible rfl
          rotate_left
          · simp only [Act.put, List.setIfInBounds_toArray, List.set_cons_zero, List.set_cons_succ, i64_w, i32_w]
            rfl
          refine done_ (by kernel_rfl) ?_
          have HB := Aside0.mk (below_step HB.out hHeld)
          clear hHeld a0 a1 a2 a3 a4 x0 x1 U CW CH e2 e3
          go_wp2
          go_roundg (W.length - (i + 1))
          case measure => have := HI.out; omega
          case rel => exact ⟨i + 1, by go_num, ⟨by omega⟩, HO2, HB⟩
        · have g2 : decide (i < W.length) = false := by simpa using hit
          have g2' : decide ((i : Int) < (W.length : Int)) = false := by simpa using hit
          have HOW := Aside0.mk (show ∀ j, j < W.length → okW H W j from fun j hj => HOK.out j (by omega))
          have HGR := Aside0.mk (good_R (by omega) HOH.out HOW.out)
          go_wp2
          clear x0 x1 U g2 g2' hit HI HOK
          go_loopg [6] W.length (fun kq v6 w' => ∃ i : Nat, v6 = .int .i64 i ∧ Aside0 (kq + i = W.length) ∧ Aside0 (∀ j, j < i → okS H W j) ∧ Aside0 (Below V.heap.size V w'))
          case atStart => exact ⟨0, rfl, ⟨rfl⟩, ⟨fun j hj => absurd hj (by omega)⟩, HB⟩
          case round =>
            obtain ⟨i, rfl, HI, HOK, HB⟩ := hrel
            have U := Aside0.mk (blk_below V0.out HB.out)
            have x0 := (blk_cell U.out 0).trans rfl; have x1 := (blk_cell U.out 1).trans rfl
            by_cases hit : i < W.length
            · have g2 : decide (i < W.length) = true := by simpa using hit
              have g2' : decide ((i : Int) < (W.length : Int)) = true := by simpa using hit
              go_upto_region 22 with (fail)
              refine (stuckR_calls A B c d H W i _ (Kd.C_below HC1.out (below_step HB_V.out HB.out)) (Kd.C_below HC2.out (below_step HB_V.out HB.out)) l1 l2 HGR.out hit).mono ?_
              rintro e w3 ⟨rfl, hb⟩
              have HB := Aside0.mk (below_step HB.out hb)
              clear hb x0 x1 U
              cases hs : PL.circB hdL cfL H W (hdL (rd_T24 W (i : Int))) with
              | true =>
                have HE := Aside0.mk (chk_no (H := H) (W := W) (fun h => by have : PL.circB hdL cfL H W (hdL (rd_T24 W (i : Int))) = false := h.2.2.2 i hit; rw [hs] at this; cases this))
                have HB9 := Aside0.mk (below_step HB_V.out HB.out)
                go_wp2
                go_ret
                exact ⟨by rw [HE.out]; rfl, HB9.out⟩
              | false =>
                have HO2 := Aside0.mk (okS_step HOK.out (show okS H W i from hs))
                clear hs
                go_wp2
                go_roundg (W.length - (i + 1))
                case measure => have := HI.out; omega
                case rel => exact ⟨i + 1, by go_num, ⟨by omega⟩, HO2, HB⟩
            · have g2 : decide (i < W.length) = false := by simpa using hit
              have g2' : decide ((i : Int) < (W.length : Int)) = false := by simpa using hit
              have HE := Aside0.mk (chk_ok (H := H) (W := W) (by omega) HOH.out HOW.out (fun j hj => HOK.out j (by omega)))
              have HB9 := Aside0.mk (below_step HB_V.out HB.out)
              go_wp2
              go_ret
              exact ⟨by rw [HE.out]; rfl, HB9.out⟩
theorem chk_beg {H W : List S24} {g : Bool} (h : chkE H W = 9) : begE H W g = 9 := by
  unfold chkE at h
  unfold begE
  cases hc : checksB H W with
  | false => rfl
  | true => rw [hc] at h; cases h
theorem chk_cases (H W : List S24) : (chkE H W = 9 ∧ checksB H W = false) ∨ (chkE H W = 0 ∧ checksB H W = true) := by
  unfold chkE
  cases checksB H W with
  | false => exact .inl ⟨rfl, rfl⟩
  | true => exact .inr ⟨rfl, rfl⟩
theorem beg_is {H W : List S24} {g : Bool} (h : checksB H W = true) : begE H W g = if g = true then 0 else 1 := by
  unfold begE
  rw [h]
  cases g <;> rfl
set_option maxRecDepth 100000 in
set_option maxHeartbeats 2000000 in
theorem handlesR_calls (A B : Option Addr) (c d : Nat) (H W : List S24) (x : Int) (w : World) (h1 : k24.C w A H.length H) (h2 : k24.C w B W.length W) (l1 : H.length ≤ c) (l2 : W.length ≤ d) (hlen : H.length + W.length ≤ 1000) :
    Calls Try.prog 62 #[.agg #[.slice A H.length c, .slice B W.length d], .int .i64 x] w fun e w' => e = .returned (.int .i64 (begE H W (knownB x))) ∧ Below w.heap.size w w' := by
  have HC1 := Aside0.mk h1
  have HC2 := Aside0.mk h2
  clear h1 h2
  go_enter Try.func62, Try.ntmps62
  go_upto_region 1 with (fail)
  have hb_ := below_alloc (Below.refl _ w) (.cells #[.slice A H.length c, .slice B W.length d] 29)
  have hG0_ := blk_lit0 w (.cells #[.slice A H.length c, .slice B W.length d] 29)
  generalize (w.alloc (.cells #[.slice A H.length c, .slice B W.length d] 29)) = V at hb_ hG0_ ⊢
  have HB_V := Aside0.mk hb_
  have V0 := Aside0.mk hG0_
  clear hb_ hG0_
  have x0 := (blk_cell V0.out 0).trans rfl; have x1 := (blk_cell V0.out 1).trans rfl
  go_wp2_with (fail)
  refine (checkR_calls A B c d H W _ (Kd.C_below HC1.out HB_V.out) (Kd.C_below HC2.out HB_V.out) l1 l2 hlen).mono ?_
  rintro e w2 ⟨rfl, hb⟩
  have T := Aside0.mk (blk_below V0.out hb)
  have BB := Aside0.mk (below_step HB_V.out hb)
  clear hb x0 x1 V0 HB_V
  rcases chk_cases H W with ⟨hk, hcb⟩ | ⟨hk, hcb⟩
  · have HE := Aside0.mk (show begE H W (knownB x) = 9 by exact chk_beg hk)
    rw [hk]
    clear hk hcb
    go_wp2
    go_ret
    exact ⟨by rw [HE.out]; rfl, BB.out⟩
  rw [hk]
  have HCB := Aside0.mk hcb
  clear hk hcb
  by_cases q1 : x < 1
  · have d1 : decide (x < 1) = true := by simpa using q1
    have HE := Aside0.mk (show begE H W (knownB x) = 1 by rw [beg_is HCB.out]; unfold knownB; rw [decide_eq_false (show ¬ 1 ≤ x by omega)]; rfl)
    clear q1
    go_wp2
    go_ret
    exact ⟨by rw [HE.out]; rfl, BB.out⟩
  have d1 : decide (x < 1) = false := by simpa using q1
  by_cases q2 : 1073741824 < x
  · have d2 : decide (1073741824 < x) = true := by simpa using q2
    have HE := Aside0.mk (show begE H W (knownB x) = 1 by rw [beg_is HCB.out]; unfold knownB; rw [decide_eq_false (show ¬ x ≤ 1073741824 by omega)]; simp)
    clear q1 q2
    go_wp2
    go_ret
    exact ⟨by rw [HE.out]; rfl, BB.out⟩
  have d2 : decide (1073741824 < x) = false := by simpa using q2
  have HE := Aside0.mk (show begE H W (knownB x) = 0 by rw [beg_is HCB.out]; unfold knownB; rw [decide_eq_true (show 1 ≤ x by omega), decide_eq_true (show x ≤ 1073741824 by omega)]; rfl)
  clear q1 q2
  go_wp2
  go_ret
  exact ⟨by rw [HE.out]; rfl, BB.out⟩
end Go.Proofs.Ytifnfnoicinbaaa.M
