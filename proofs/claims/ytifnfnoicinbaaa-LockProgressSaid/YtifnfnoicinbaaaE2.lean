/- A list of acts, played on the empty table: archivoltlaw31.played. -/
import Derived.Test.YtifnfnoicinbaaaE1
import Derived.Test.YtifnfnoicinbaaaD2
namespace Go.Proofs.Ytifnfnoicinbaaa.M
open Go.RowKit Go.Proofs.YtifnfnoicinbaaaW.PrintWords Go.Proofs.YtifnfnoicinbaaaW.PrintLast Go.Proofs.YtifnfnoicinbaaaW.PrintMore
set_option linter.unusedVariables false
set_option linter.unusedSimpArgs false
set_option linter.unnecessarySimpa false

theorem play_len (l : List S37) : (playF l).1.length + (playF l).2.length ≤ 1000 := by have := (play_inv l).len; omega
theorem rd37_mem {l : List S37} {j : Nat} (h : j < l.length) : rd_T37 l (j : Int) ∈ l := by
  have e : rd_T37 l (j : Int) = l[j] := by simp [rd_T37, h]
  rw [e]
  exact List.getElem_mem h
set_option maxRecDepth 100000 in
set_option maxHeartbeats 2000000 in
theorem played_calls (A : Option Addr) (c : Nat) (l : List S37) (w : World) (hC : k37.C w A l.length l) (hk : ∀ a ∈ l, 0 ≤ a.f0 ∧ a.f0 ≤ 255) (hlen : l.length ≤ 1000) :
    Calls Try.prog 16 #[.slice A l.length c] w fun e w' => ∃ v, e = .returned v ∧ TabV w' w.heap.size v (playF l).1 (playF l).2 ∧ Below w.heap.size w w' := by
  have HC := Aside0.mk hC
  have HKD := Aside0.mk hk
  clear hC hk
  go_enter Try.func16, Try.ntmps16
  go_upto_region 2 with (fail)
  have hb_ := below_alloc (below_alloc (Below.refl _ w) (.cells #[.slice none 0 0, .slice none 0 0] 29)) (.cells #[.slice none 0 0, .slice none 0 0] 29)
  have hG0_ := blk_alloc (blk_lit0 w (.cells #[.slice none 0 0, .slice none 0 0] 29)) (.cells #[.slice none 0 0, .slice none 0 0] 29)
  have hG1_ := blk_lit w (.cells #[.slice none 0 0, .slice none 0 0] 29) (.cells #[.slice none 0 0, .slice none 0 0] 29)
  generalize ((w.alloc (.cells #[.slice none 0 0, .slice none 0 0] 29)).alloc (.cells #[.slice none 0 0, .slice none 0 0] 29)) = W at hb_ hG0_ hG1_ ⊢
  have HB_W := Aside0.mk hb_
  have W0 := Aside0.mk hG0_
  have W1 := Aside0.mk hG1_
  clear hb_ hG0_ hG1_
  go_wp2
  go_loopg [4] l.length (fun kq v4 w' => ∃ (j : Nat) (vH vW : Value), v4 = .int .i64 j ∧ Aside0 (kq + j = l.length) ∧ Aside0 (w'.heap[w.heap.size + 1]? = some (.cells #[vH, vW] 29 (0, 0))) ∧ Aside0 (k24.R 24 w' w.heap.size (fun _ => True) vH (playF (l.take j)).1) ∧ Aside0 (k24.R 24 w' w.heap.size (fun _ => True) vW (playF (l.take j)).2) ∧ Aside0 (w'.heap[w.heap.size]? = some (.cells #[.slice none 0 0, .slice none 0 0] 29 (0, 0))) ∧ Aside0 (Below w.heap.size w w'))
  case atStart => exact ⟨0, _, _, rfl, ⟨rfl⟩, W1, ⟨Kd.R_nil _ _ _ _ _⟩, ⟨Kd.R_nil _ _ _ _ _⟩, W0, HB_W⟩
  case round =>
    obtain ⟨j, vH, vW, rfl, HJ, T, RH, RW, V0, B⟩ := hrel
    by_cases hlt : j < l.length
    · have h1 : decide (j < l.length) = true := by simpa using hlt
      have HST := Aside0.mk (play_step hlt)
      have HPL := Aside0.mk (play_len (l.take j))
      have HKK := Aside0.mk (HKD.out (rd_T37 l j) (rd37_mem hlt))
      generalize playF (l.take j) = P at RH RW HST HPL
      generalize hP2 : playF (l.take (j + 1)) = P2 at HST
      have HP2 := Aside0.mk hP2
      clear hP2
      obtain ⟨PH, PW⟩ := P
      dsimp only at RH RW HPL
      obtain ⟨A1, c1, rfl⟩ := Kd.R_slice RH.out
      obtain ⟨A2, c2, rfl⟩ := Kd.R_slice RW.out
      go_upto_region 5 with (fail)
      have hbd := below_drew1 (Below.refl wr.heap.size wr)
      have T := Aside0.mk (blk_below T.out hbd)
      have RH := Aside0.mk (Kd.R_below RH.out hbd)
      have RW := Aside0.mk (Kd.R_below RW.out hbd)
      have V0 := Aside0.mk (blk_below V0.out hbd)
      have B := Aside0.mk (below_step B.out hbd)
      obtain ⟨ad, rfl, x0, x1, x2, x3, x4, x5⟩ := at_T37 (Kd.C_below HC.out B.out) (j : Int) (by omega) (by omega)
      simp only [Int.toNat_natCast] at x0 x1 x2 x3 x4 x5
      refine start_ (n := 11) (S := fun w' => w'.cell? ⟨w.heap.size + 1, 0, none⟩ = some (.slice A1 PH.length c1) ∧ w'.cell? ⟨w.heap.size + 1, 1, none⟩ = some (.slice A2 PW.length c2) ∧ w'.cell? (ad.add (j * 6)) = some (.int .u8 (rd_T37 l (j : Int)).f0) ∧ w'.cell? ⟨(ad.add (j * 6)).block, (ad.add (j * 6)).off + 1, none⟩ = some (.int .i64 (rd_T37 l (j : Int)).f1.f0) ∧ w'.cell? ⟨(ad.add (j * 6)).block, (ad.add (j * 6)).off + 2, none⟩ = some (.int .i64 (rd_T37 l (j : Int)).f1.f1) ∧ w'.cell? ⟨(ad.add (j * 6)).block, (ad.add (j * 6)).off + 3, none⟩ = some (.int .i64 (rd_T37 l (j : Int)).f1.f2) ∧ w'.cell? ⟨(ad.add (j * 6)).block, (ad.add (j * 6)).off + 4, none⟩ = some (.int .i64 (rd_T37 l (j : Int)).f1.f3) ∧ w'.cell? ⟨(ad.add (j * 6)).block, (ad.add (j * 6)).off + 5, none⟩ = some (.bool (rd_T37 l (j : Int)).f1.f4)) (ds := [10]) #[false, false, false, false, false, false, false, false, false, false, false] (by kernel_rfl) rfl rfl ⟨(blk_cell T.out 0).trans rfl, (blk_cell T.out 1).trans rfl, x0, x1, x2, x3, x4, x5⟩ (fun hHeld => ?_)
      have AD := Aside0.mk (show ∃ u, w.cell? (ad.add (j * 6)) = some u from by
        obtain ⟨ad', had, y0, _⟩ := at_T37 HC.out (j : Int) (by omega) (by omega)
        cases had
        simp only [Int.toNat_natCast] at y0
        exact ⟨_, y0⟩)
      clear hbd x0 x1 x2 x3 x4 x5
      generalize wr.drew = wd at T RH RW V0 B hHeld ⊢
      refine take_ (i := 0) (N := some 13) (v := ?_) (a' := ?_) #[true, false, false, false, false, false, false, false, false, false, false] rfl rfl (by kernel_rfl) (fun _ _ _ h => h) (Or.inl ⟨by rfl, ?_⟩) hHeld ?_ ?_
      rotate_left
      · rintro w' ⟨s0, s1, s2, s3, s4, s5, s6, s7⟩
        go_simp
        with_reducible rfl
      rotate_left
      · simp only [Act.put, List.setIfInBounds_toArray, List.set_cons_zero, List.set_cons_succ, i64_w, i32_w]
        rfl
      refine pure_ (i := 1) (N := some 14) (v := ?_) (a' := ?_) #[true, true, false, false, false, false, false, false, false, false, false] rfl rfl (by kernel_rfl) (fun _ _ _ h => h) (Or.inl ⟨by rfl, ?_⟩) ?_ ?_
      rotate_left
      · intro w'
        go_simp
        with_reducible rfl
      rotate_left
      · simp only [Act.put, List.setIfInBounds_toArray, List.set_cons_zero, List.set_cons_succ, i64_w, i32_w]
        rfl
      refine pure_ (i := 2) (N := some 15) (v := ?_) (a' := ?_) #[true, true, true, false, false, false, false, false, false, false, false] rfl rfl (by kernel_rfl) (fun _ _ _ h => h) (Or.inl ⟨by rfl, ?_⟩) ?_ ?_
      rotate_left
      · intro w'
        go_simp
        with_reducible rfl
      rotate_left
      · simp only [Act.put, List.setIfInBounds_toArray, List.set_cons_zero, List.set_cons_succ, i64_w, i32_w]
        rfl
      refine pure_ (i := 3) (N := some 16) (v := ?_) (a' := ?_) #[true, true, true, true, false, false, false, false, false, false, false] rfl rfl (by kernel_rfl) (fun _ _ _ h => h) (Or.inl ⟨by rfl, ?_⟩) ?_ ?_
      rotate_left
      · intro w'
        go_simp
        with_reducible rfl
      rotate_left
      · simp only [Act.put, List.setIfInBounds_toArray, List.set_cons_zero, List.set_cons_succ, i64_w, i32_w]
        rfl
      refine take_ (i := 4) (N := some 17) (v := ?_) (a' := ?_) #[true, true, true, true, true, false, false, false, false, false, false] rfl rfl (by kernel_rfl) (fun _ _ _ h => h) (Or.inl ⟨by rfl, ?_⟩) hHeld ?_ ?_
      rotate_left
      · rintro w' ⟨s0, s1, s2, s3, s4, s5, s6, s7⟩
        go_simp
        with_reducible rfl
      rotate_left
      · simp only [Act.put, List.setIfInBounds_toArray, List.set_cons_zero, List.set_cons_succ, i64_w, i32_w]
        rfl
      refine one_ (i := 5) (N := some 18) #[true, true, true, true, true, true, false, false, false, false, false] rfl rfl (by kernel_rfl) (by decide) (fun K hK => ?_)
      refine goes_ Try.func17 (by kernel_rfl) rfl #[.agg #[.slice A1 PH.length c1, .slice A2 PW.length c2], .agg #[.int .u8 (rd_T37 l (j : Int)).f0, .int .i64 (rd_T37 l (j : Int)).f1.f0, .int .i64 (rd_T37 l (j : Int)).f1.f1, .int .i64 (rd_T37 l (j : Int)).f1.f2, .int .i64 (rd_T37 l (j : Int)).f1.f3, .bool (rd_T37 l (j : Int)).f1.f4]] (by rfl) rfl rfl (by (try simp only [List.map_toArray, List.map_cons, List.map_nil]); first | done | rfl) ?_
      refine (done_calls A1 A2 c1 c2 PH PW (rd_T37 l (j : Int)) _ (Kd.R_reads' RH.out).2.2 (Kd.R_reads' RW.out).2.2 HPL.out HKK.out.1 HKK.out.2).mono ?_
      rintro e w4 hp
      obtain ⟨v, u, hb, hp⟩ := hp
      have HNV : Aside0 (∃ vH vW uu ok, e = .returned (.tuple #[.agg #[vH, vW], uu, ok]) ∧ k24.R 24 w4 w.heap.size (fun _ => True) vH P2.1 ∧ k24.R 24 w4 w.heap.size (fun _ => True) vW P2.2) := by
        constructor
        rw [HST.out]
        unfold nextT
        rcases hp with ⟨hz, rfl, ⟨vH, vW, rfl, r1, r2⟩, _⟩ | ⟨hz, rfl⟩
        · rw [if_pos hz]
          exact ⟨_, _, _, _, rfl, Kd.R_lower r1 B.out.size, Kd.R_lower r2 B.out.size⟩
        · rw [if_neg hz]
          exact ⟨_, _, _, _, rfl, Kd.R_below RH.out hb, Kd.R_below RW.out hb⟩
      obtain ⟨vH, vW, uu, ok, rfl, rH, rW⟩ := HNV.out
      obtain ⟨A3, c3, rfl⟩ := Kd.R_slice rH
      obtain ⟨A4, c4, rfl⟩ := Kd.R_slice rW
      refine ⟨_, rfl, ?_⟩
      have T := Aside0.mk (blk_below T.out hb)
      have V0 := Aside0.mk (blk_below V0.out hb)
      have B := Aside0.mk (below_step B.out hb)
      have RH := Aside0.mk rH
      have RW := Aside0.mk rW
      obtain ⟨t0, t1, t2, t3, t4, t5, t6, t7⟩ := hHeld
      have hh : w4.cell? ⟨w.heap.size + 1, 0, none⟩ = some (.slice A1 PH.length c1) ∧ w4.cell? ⟨w.heap.size + 1, 1, none⟩ = some (.slice A2 PW.length c2) ∧ _ ∧ _ ∧ _ ∧ _ ∧ _ ∧ _ := ⟨(hb.cell (World.block_lt_of_cell? wd _ t0)).trans t0, (hb.cell (World.block_lt_of_cell? wd _ t1)).trans t1, (hb.cell (World.block_lt_of_cell? wd _ t2)).trans t2, (hb.cell (World.block_lt_of_cell? wd _ t3)).trans t3, (hb.cell (World.block_lt_of_cell? wd _ t4)).trans t4, (hb.cell (World.block_lt_of_cell? wd _ t5)).trans t5, (hb.cell (World.block_lt_of_cell? wd _ t6)).trans t6, (hb.cell (World.block_lt_of_cell? wd _ t7)).trans t7⟩
      clear t0 t1 t2 t3 t4 t5 t6 t7 hb hp rH rW HNV
      refine hK.out _ _ hh (fun hHeld => ?_)
      clear hK K
      refine norm_ (a' := ?_) ?_ ?_
      rotate_left
      · show Act.put _ (some 18) _ = _
        simp only [Act.put, List.setIfInBounds_toArray, List.set_cons_zero, List.set_cons_succ, i64_w, i32_w]
        rfl
      clear hh
      refine pure_ (i := 6) (N := some 12) (v := ?_) (a' := ?_) #[true, true, true, true, true, true, true, false, false, false, false] rfl rfl (by kernel_rfl) (fun _ _ _ h => h) (Or.inl ⟨by rfl, ?_⟩) ?_ ?_
      rotate_left
      · intro w'
        go_simp
        with_reducible rfl
      rotate_left
      · simp only [Act.put, List.setIfInBounds_toArray, List.set_cons_zero, List.set_cons_succ, i64_w, i32_w]
        rfl
      refine pure_ (i := 7) (N := some 19) (v := ?_) (a' := ?_) #[true, true, true, true, true, true, true, true, false, false, false] rfl rfl (by kernel_rfl) (fun _ _ _ h => h) (Or.inl ⟨by rfl, ?_⟩) ?_ ?_
      rotate_left
      · intro w'
        go_simp
        with_reducible rfl
      rotate_left
      · simp only [Act.put, List.setIfInBounds_toArray, List.set_cons_zero, List.set_cons_succ, i64_w, i32_w]
        rfl
      refine pure_ (i := 8) (N := some 20) (v := ?_) (a' := ?_) #[true, true, true, true, true, true, true, true, true, false, false] rfl rfl (by kernel_rfl) (fun _ _ _ h => h) (Or.inl ⟨by rfl, ?_⟩) ?_ ?_
      rotate_left
      · intro w'
        go_simp
        with_reducible rfl
      rotate_left
      · simp only [Act.put, List.setIfInBounds_toArray, List.set_cons_zero, List.set_cons_succ, i64_w, i32_w]
        rfl
      refine pure_ (i := 9) (N := some 21) (v := ?_) (a' := ?_) #[true, true, true, true, true, true, true, true, true, true, false] rfl rfl (by kernel_rfl) (fun _ _ _ h => h) (Or.inl ⟨by rfl, ?_⟩) ?_ ?_
      rotate_left
      · intro w'
        go_simp
        with_reducible rfl
      rotate_left
      · simp only [Act.put, List.setIfInBounds_toArray, List.set_cons_zero, List.set_cons_succ, i64_w, i32_w]
        rfl
      have z0 := (blk_cell T.out 0).trans rfl; have z1 := (blk_cell T.out 1).trans rfl
      have fz0 := blk_frozen T.out 0; have fz1 := blk_frozen T.out 1
      refine last_ (i := 10) (N := none) #[true, true, true, true, true, true, true, true, true, true, true] rfl rfl (by kernel_rfl) (by decide) (fun K hK => ?_)
      refine skip_ (w1 := ?_) (by rfl) rfl ?_ ?_
      rotate_left
      · go_simp
        rfl
      refine hK.out _ _ ?_
      clear hK K
      refine done_ (by kernel_rfl) ?_
      clear z0 z1 fz0 fz1
      have P_ := Aside0.mk (put_two (n := w.heap.size) (w := w) (.slice A3 P2.1.length c3) (.slice A4 P2.2.length c4) T.out B.out (by omega))
      have V0 := Aside0.mk (two_far' (.slice A3 P2.1.length c3) (.slice A4 P2.2.length c4) V0.out (show w.heap.size ≠ w.heap.size + 1 by omega))
      have RH := Aside0.mk (R_two (.slice A3 P2.1.length c3) (.slice A4 P2.2.length c4) RH.out T.out (by decide))
      have RW := Aside0.mk (R_two (.slice A3 P2.1.length c3) (.slice A4 P2.2.length c4) RW.out T.out (by decide))
      have T := Aside0.mk P_.out.1
      have B := Aside0.mk P_.out.2
      clear P_ hHeld
      generalize (w4.setCell ⟨w.heap.size + 1, 0, none⟩ (.slice A3 P2.1.length c3)).setCell ⟨w.heap.size + 1, 1, none⟩ (.slice A4 P2.2.length c4) = w5 at T V0 B RH RW ⊢
      go_wp2
      go_roundg (l.length - (j + 1))
      case measure => have := HJ.out; omega
      case rel => exact ⟨j + 1, _, _, by go_num, ⟨by omega⟩, T, ⟨by rw [HP2.out]; exact RH.out⟩, ⟨by rw [HP2.out]; exact RW.out⟩, V0, B⟩
    · have h1 : decide (j < l.length) = false := by simpa using hlt
      have hj : l.take j = l := List.take_of_length_le (by omega)
      rw [hj] at RH RW
      clear hj
      obtain ⟨A1, c1, rfl⟩ := Kd.R_slice RH.out
      obtain ⟨A2, c2, rfl⟩ := Kd.R_slice RW.out
      have x0 := (blk_cell T.out 0).trans rfl; have x1 := (blk_cell T.out 1).trans rfl
      have z0 := (blk_cell V0.out 0).trans rfl; have z1 := (blk_cell V0.out 1).trans rfl
      have fz0 := blk_frozen V0.out 0; have fz1 := blk_frozen V0.out 1
      have P_ := Aside0.mk (put_two (n := w.heap.size) (w := w) (.slice A1 (playF l).1.length c1) (.slice A2 (playF l).2.length c2) V0.out B.out (Nat.le_refl _))
      have RH := Aside0.mk (R_two (.slice A1 (playF l).1.length c1) (.slice A2 (playF l).2.length c2) RH.out V0.out (by decide))
      have RW := Aside0.mk (R_two (.slice A1 (playF l).1.length c1) (.slice A2 (playF l).2.length c2) RW.out V0.out (by decide))
      go_wp2
      refine bodyPost_ret (results_cell1 rfl rfl (loadVar_two 29 (by kernel_rfl) (by kernel_rfl) P_.out.1)) rfl ?_
      exact ⟨_, rfl, ⟨_, _, rfl, RH.out, RW.out⟩, P_.out.2⟩
end Go.Proofs.Ytifnfnoicinbaaa.M
