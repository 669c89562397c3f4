/- LockProgress: the walk. -/
import Derived.Test.YtifnfnoicinbaaaN3
import Derived.Test.YtifnfnoicinbaaaN7
import Derived.Test.YtifnfnoicinbaaaG1
import Derived.Test.YtifnfnoicinbaaaB4
namespace Go.Proofs.Ytifnfnoicinbaaa.M
open Go.RowKit Go.Proofs.YtifnfnoicinbaaaW.PrintWords Go.Proofs.YtifnfnoicinbaaaW.PrintLast Go.Proofs.YtifnfnoicinbaaaW.PrintMore
set_option linter.unusedVariables false
set_option linter.unusedSimpArgs false
set_option linter.unnecessarySimpa false
attribute [local go_sem high] eqA24

theorem foldC_take {D : List Int} {h : Int} {t : List S24 × List S24} {i : Nat} (hi : i < D.length) : (D.take (i + 1)).foldl (stepC h) t = stepC h ((D.take i).foldl (stepC h) t) (rd D (i : Int)) := by
  rw [List.take_succ_eq_append_getElem hi, List.foldl_append, show rd D (i : Int) = D[i] by simp [rd, hi]]
  rfl
theorem take_hd {Q : List S24} {O : List Int} {i : Nat} (hi : i < Q.length) : O ++ (Q.take i).map hdL ++ [(rd_T24 Q (i : Int)).f1] = O ++ (Q.take (i + 1)).map hdL := by
  rw [List.take_succ_eq_append_getElem hi, rd_at hi, List.map_append, List.append_assoc]
  rfl
section
open Go.ChangeShapes Go.WideShapes Go.Deep Go.Joins
variable {H : Type} {enc : TypeId × Value → H} {w : World} {base : Nat} {spare : Nat → Bool} {held : Bool}
theorem ints_of {fuel : Nat} {cs : List Value} {x : DataW H × List MemPlace} (h : DataW.trod enc Try.prog w base spare held fuel 31 cs = some x) : ∃ A c, ∃ l : List Int, cs = [.slice A l.length c] ∧ l.length ≤ c ∧ kI.C w A l.length l := by
  obtain ⟨A, c, l, h1, h2, h3, _⟩ := C_of_trodP (k := kI) (p := fun _ => True) Try.underlying31 sz3 (fun n cs x h => by
    obtain ⟨n0, e0, _, _⟩ := DataW.trod_int Try.underlying3 h
    exact ⟨n0, e0, trivial⟩) h
  exact ⟨A, c, l, h1, h2, h3⟩
theorem locks_of {fuel : Nat} {cs : List Value} {x : DataW H × List MemPlace} (h : DataW.trod enc Try.prog w base spare held fuel 27 cs = some x) : ∃ A c, ∃ l : List S24, cs = [.slice A l.length c] ∧ l.length ≤ c ∧ k24.C w A l.length l := by
  obtain ⟨A, c, l, h1, h2, h3, _⟩ := C_of_trodP (k := k24) (p := fun _ => True) Try.underlying27 sz24 (fun n cs x h => by
    obtain ⟨y, hy⟩ := lock_of _ _ _ h
    exact ⟨y, hy, trivial⟩) h
  exact ⟨A, c, l, h1, h2, h3⟩
theorem sz27 : Try.prog.cellsOf 27 = 1 := by kernel_rfl
theorem sz29 : Try.prog.cellsOf 29 = 2 := by kernel_rfl
theorem parts2 {cs : List Value} {a b : Value} (h : cs.length = 2) (h0 : (cs.drop 0).take 1 = [a]) (h1 : (cs.drop 1).take 1 = [b]) : cs = [a, b] := by
  match cs, h with
  | [c0, c1], _ => simp at h0 h1; simp [h0, h1]
theorem table_of {n : Nat} {cs : List Value} {x : DataW H × List MemPlace} (h : DataW.trod enc Try.prog w base spare held n 29 cs = some x) :
    ∃ A c, ∃ l : List S24, ∃ B d, ∃ m : List S24, cs = [.slice A l.length c, .slice B m.length d] ∧ l.length ≤ c ∧ m.length ≤ d ∧ k24.C w A l.length l ∧ k24.C w B m.length m := by
  obtain ⟨y0, y1, m, rfl, hl, t0, t1⟩ := trod_struct2 Try.underlying29 h
  obtain ⟨A, c, l, e0, h1, h2⟩ := locks_of t0
  obtain ⟨B, d, m, e1, h3, h4⟩ := locks_of t1
  rw [sz27] at e0 e1
  rw [sz29] at hl
  exact ⟨A, c, l, B, d, m, parts2 hl e0 e1, h1, h3, h2, h4⟩
end
theorem RI_empty (W : World) (base : Nat) (hb : base ≤ W.heap.size) : kI.R 3 (W.alloc (.cells #[] 3)) base (fun _ => True) (.slice (some ⟨W.heap.size, 0, none⟩) 0 0) [] :=
  ⟨fun _ _ => trivial, [], World.ownsRow_lit (size := 1) W #[] 0 hb (by simp) (by simp), Reps.none _ _⟩
set_option maxRecDepth 100000 in
set_option maxHeartbeats 8000000 in
theorem progress_walk (A : Option Addr) (c : Nat) (l : List S37) (which : Int) (A' : Option Addr) (c' : Nat) (O : List Int) (w : World) (hc : l.length ≤ c) (hC : k37.C w A l.length l) (hk : ∀ a ∈ l, 0 ≤ a.f0 ∧ a.f0 ≤ 255) (hr : -9223372036854775808 ≤ which ∧ which ≤ 9223372036854775807) (hc' : O.length ≤ c') (hC' : kI.C w A' O.length O) :
    Calls Try.prog 9 #[.slice A l.length c, .int .i64 which, .slice A' O.length c'] w fun e w' => e = .returned (.bool true) ∧ Below w.heap.size w w' := by
  have HC := Aside0.mk hC
  have HKD := Aside0.mk hk
  have HCO := Aside0.mk hC'
  have HB0 := Aside0.mk (Below.refl w.heap.size w)
  clear hC hk hC' hr
  go_enter Try.func9, Try.ntmps9
  go_upto_region 1 with (fail)
  by_cases hl : 40 < l.length
  · have h40 : decide ((40 : Int) < (l.length : Int)) = true := by simp; omega
    go_wp2_with (fail)
    refine (sane_calls _).mono ?_
    rintro e w9 ⟨rfl, hb9⟩
    have HB9 := Aside0.mk (below_step HB0.out hb9)
    clear hb9
    go_wp2
    go_ret
    exact ⟨rfl, HB9.out⟩
  have h40 : decide ((40 : Int) < (l.length : Int)) = false := by simp; omega
  by_cases hol : 100 < O.length
  · have h100 : decide ((100 : Int) < (O.length : Int)) = true := by simp; omega
    go_wp2_with (fail)
    refine (sane_calls _).mono ?_
    rintro e w9 ⟨rfl, hb9⟩
    have HB9 := Aside0.mk (below_step HB0.out hb9)
    clear hb9
    go_wp2
    go_ret
    exact ⟨rfl, HB9.out⟩
  have h100 : decide ((100 : Int) < (O.length : Int)) = false := by simp; omega
  go_wp2_with (fail)
  refine (played_calls A c l _ HC.out HKD.out (by omega)).mono ?_
  rintro e w3 ⟨v, rfl, hv, hb⟩
  obtain ⟨vH, vW, rfl, hvH, hvW⟩ := hv
  obtain ⟨A1, c1, rfl⟩ := Kd.R_slice hvH
  obtain ⟨A2, c2, rfl⟩ := Kd.R_slice hvW
  have RH := Aside0.mk hvH
  have RW := Aside0.mk hvW
  have B := Aside0.mk hb
  have HIN := Aside0.mk (play_inv l)
  clear hb hvH hvW
  generalize (playF l).1 = H at RH HIN ⊢
  generalize (playF l).2 = Q at RW HIN ⊢
  have hlen : H.length + Q.length ≤ 400 := HIN.out.len
  have hcQ : Q.length ≤ c2 := (Kd.R_reads' RW.out).2.1
  have hcH : H.length ≤ c1 := (Kd.R_reads' RH.out).2.1
  go_upto_region 4 with (fail)
  have LT7 := Aside0.mk (show w.heap.size ≤ w3.heap.size from B.out.size)
  have hb_ := below_alloc (Below.refl _ w3) (.cells #[.slice A1 H.length c1, .slice A2 Q.length c2] 29)
  have hG0_ := blk_lit0 w3 (.cells #[.slice A1 H.length c1, .slice A2 Q.length c2] 29)
  generalize (w3.alloc (.cells #[.slice A1 H.length c1, .slice A2 Q.length c2] 29)) = w4 at hb_ hG0_ ⊢
  have HB_w4 := Aside0.mk hb_
  have w40 := Aside0.mk hG0_
  clear hb_ hG0_
  have RH := Aside0.mk (Kd.R_below RH.out HB_w4.out)
  have RW := Aside0.mk (Kd.R_below RW.out HB_w4.out)
  have B := Aside0.mk (below_step B.out HB_w4.out)
  clear HB_w4
  have T7 := w40
  clear w40
  generalize w3.heap.size = b7 at T7 LT7  ⊢
  have x0 := (blk_cell T7.out 0).trans rfl; have x1 := (blk_cell T7.out 1).trans rfl
  by_cases hw0 : which < 0
  · have hd0 : decide (which < 0) = true := by simpa using hw0
    clear hw0
    go_wp2_with (fail)
    refine (sane_calls _).mono ?_
    rintro e w9 ⟨rfl, hb9⟩
    have HB9 := Aside0.mk (below_step B.out hb9)
    clear hb9
    go_wp2
    go_ret
    exact ⟨rfl, HB9.out⟩
  by_cases hw1 : (Q.length : Int) ≤ which
  · have hd0 : decide (which < 0) = false := by simpa using hw0
    have hd1 : decide ((Q.length : Int) ≤ which) = true := by simpa using hw1
    clear hw0 hw1
    go_wp2_with (fail)
    refine (sane_calls _).mono ?_
    rintro e w9 ⟨rfl, hb9⟩
    have HB9 := Aside0.mk (below_step B.out hb9)
    clear hb9
    go_wp2
    go_ret
    exact ⟨rfl, HB9.out⟩
  obtain ⟨k, rfl⟩ := Int.eq_ofNat_of_zero_le (show 0 ≤ which by omega)
  have hkq : k < Q.length := by omega
  have hkc : k < c2 := by omega
  have hd0 : decide ((k : Int) < 0) = false := by simp
  have hd1 : decide ((Q.length : Int) ≤ (k : Int)) = false := by simp; omega
  have hd1' : decide (Q.length ≤ k) = false := by simp; omega
  have h2' : decide ((k : Int) < (Q.length : Int)) = true := by simp; omega
  clear hw0 hw1
  obtain ⟨ae, hae, a0, a1, a2, a3, a4⟩ := at_T24 (Kd.R_reads' RW.out).2.2 (k : Int) (by omega) (by omega)
  cases hae
  simp only [Int.toNat_natCast] at a0 a1 a2 a3 a4
  have HWM := Aside0.mk (show rd_T24 Q (k : Int) ∈ Q by rw [rd_at hkq]; exact List.getElem_mem hkq)
  generalize rd_T24 Q (k : Int) = wl at a0 a1 a2 a3 a4 HWM
  go_upto_region 7 with (fail)
  clear a0 a1 a2 a3 a4 x0 x1
  have LT8 := Aside0.mk (show w.heap.size ≤ w4.heap.size from B.out.size)
  have NT7T8 := Aside0.mk (show _ < w4.heap.size from blk_lt T7.out)
  have hb_ := below_alloc (Below.refl _ w4) (.cells #[.int .i64 wl.f0, .int .i64 wl.f1, .int .i64 wl.f2, .int .i64 wl.f3, .bool wl.f4] 24)
  have hG0_ := blk_lit0 w4 (.cells #[.int .i64 wl.f0, .int .i64 wl.f1, .int .i64 wl.f2, .int .i64 wl.f3, .bool wl.f4] 24)
  generalize (w4.alloc (.cells #[.int .i64 wl.f0, .int .i64 wl.f1, .int .i64 wl.f2, .int .i64 wl.f3, .bool wl.f4] 24)) = w5 at hb_ hG0_ ⊢
  have HB_w5 := Aside0.mk hb_
  have w50 := Aside0.mk hG0_
  clear hb_ hG0_
  have T7 := Aside0.mk (blk_below T7.out HB_w5.out)
  have RH := Aside0.mk (Kd.R_below RH.out HB_w5.out)
  have RW := Aside0.mk (Kd.R_below RW.out HB_w5.out)
  have B := Aside0.mk (below_step B.out HB_w5.out)
  clear HB_w5
  have T8 := w50
  clear w50
  generalize w4.heap.size = b8 at T8 LT8 NT7T8 ⊢
  go_upto_region 8 with ((with_reducible refine gate_builtin (b := .append) (xs := #[.tmp 43, .tmp 44]) rfl ?_); at_builtin; refine Kd.R_append_rows kI (Rr := kI.K _) (w0 := w5) w5.heap.size rfl (.tmp 43) (.tmp 44) 31 3 (.int .i64 0) 8 rfl Try.underlying31 info3 rfl (by decide) (by omega) (.slice (some ⟨w5.heap.size, 0, none⟩) 0 0) [] O A' O.length c' (fun _ => True) (fun _ => False) rfl rfl (RI_empty w5 _ (Nat.le_refl _)) (Kd.C_alloc (Kd.C_below HCO.out B.out) _) (fun x cs h => h) (fun _ hk => hk.elim) (fun _ _ => trivial) (below_alloc (Below.refl _ w5) _) (by simp) (by simp; omega) ?_; intro v1 w6 ho hb _ _; have RD := Aside0.mk (show kI.R 3 w6 w5.heap.size (fun _ => True) v1 O from by simpa using ho); have HB := Aside0.mk hb; clear ho hb)
  have LT8w := Aside0.mk (show w.heap.size ≤ w5.heap.size from B.out.size)
  have hol2 : O.length ≤ 100 := by omega
  go_wp2
  go_loopg [9, 10] H.length (fun kq v9 v10 w' => ∃ (i : Nat) (v : Value), v10 = .int .i64 i ∧ v = v9 ∧ Aside0 (kq + i = H.length) ∧ Aside0 (kI.R 3 w' w5.heap.size (fun _ => True) v (O ++ (H.take i).map hdL)) ∧ Aside0 (Below w5.heap.size w5 w'))
  case atStart => exact ⟨0, _, rfl, rfl, ⟨rfl⟩, ⟨by simpa using RD.out⟩, HB⟩
  case round =>
    obtain ⟨i, v, rfl, rfl, HI, RK, HB⟩ := hrel
    have UT := Aside0.mk (blk_below T7.out HB.out)
    have x0 := (blk_cell UT.out 0).trans rfl; have x1 := (blk_cell UT.out 1).trans rfl
    by_cases hit : i < H.length
    · have g2 : decide (i < H.length) = true := by simpa using hit
      have g2' : decide ((i : Int) < (H.length : Int)) = true := by simpa using hit
      obtain ⟨ae, hae, a0, a1, a2, a3, a4⟩ := at_T24 (Kd.C_below (Kd.R_reads' RH.out).2.2 HB.out) (i : Int) (by omega) (by omega)
      cases hae
      simp only [Int.toNat_natCast] at a0 a1 a2 a3 a4
      have hic : i < c1 := by omega
      have HKE := Aside0.mk (take_hd (O := O) hit)
      obtain ⟨KK, hKK⟩ : ∃ KK, KK = O ++ (H.take i).map hdL := ⟨_, rfl⟩
      have HLP := Aside0.mk (show KK.length ≤ 1000 by rw [hKK]; simp; omega)
      rw [← hKK] at RK HKE
      clear hKK
      go_wp2_with (((with_reducible refine gate_builtin (b := .append) (xs := #[.tmp 53, .tmp 60]) rfl ?_); at_builtin; refine Kd.R_append kI (w0 := _) w5.heap.size rfl (.tmp 53) (.tmp 60) 31 3 (.int .i64 0) 8 rfl Try.underlying31 info3 rfl (by decide) (by omega) v (KK) ((rd_T24 H (i : Int)).f1) [.int .i64 ((rd_T24 H (i : Int)).f1)] (fun _ => True) (fun _ => False) rfl rfl rfl (fun _ hk => hk.elim) (fun _ _ => trivial) (RK.out) (HB.out) (HB.out.size) (by have := HLP.out; omega) ?_; intro v2 w2 ho hb hg hat; rw [HKE.out] at ho; have RK2 := Aside0.mk ho; have HB2 := Aside0.mk hb; clear ho hb hg hat x0 x1 a0 a1 a2 a3 a4 UT))
      go_roundg (H.length - (i + 1))
      case measure => have := HI.out; omega
      case rel => exact ⟨i + 1, v2, by go_num, rfl, ⟨by omega⟩, RK2, HB2⟩
    · have g2 : decide (i < H.length) = false := by simpa using hit
      have g2' : decide ((i : Int) < (H.length : Int)) = false := by simpa using hit
      have hte : H.take i = H := List.take_of_length_le (by omega)
      rw [hte] at RK
      clear hte UT
      have RD := RK
      clear RK
      go_wp2
      go_loopg [9, 11] Q.length (fun kq v9 v10 w' => ∃ (i : Nat) (v : Value), v10 = .int .i64 i ∧ v = v9 ∧ Aside0 (kq + i = Q.length) ∧ Aside0 (kI.R 3 w' w5.heap.size (fun _ => True) v (O ++ H.map hdL ++ (Q.take i).map hdL)) ∧ Aside0 (Below w5.heap.size w5 w'))
      case atStart => exact ⟨0, _, rfl, rfl, ⟨rfl⟩, ⟨by simpa using RD.out⟩, HB⟩
      case round =>
        obtain ⟨i, v, rfl, rfl, HI, RK, HB⟩ := hrel
        have UT := Aside0.mk (blk_below T7.out HB.out)
        have x0 := (blk_cell UT.out 0).trans rfl; have x1 := (blk_cell UT.out 1).trans rfl
        by_cases hit : i < Q.length
        · have g2 : decide (i < Q.length) = true := by simpa using hit
          have g2' : decide ((i : Int) < (Q.length : Int)) = true := by simpa using hit
          obtain ⟨ae, hae, a0, a1, a2, a3, a4⟩ := at_T24 (Kd.C_below (Kd.R_reads' RW.out).2.2 HB.out) (i : Int) (by omega) (by omega)
          cases hae
          simp only [Int.toNat_natCast] at a0 a1 a2 a3 a4
          have hic : i < c2 := by omega
          have HKE := Aside0.mk (take_hd (O := O ++ H.map hdL) hit)
          obtain ⟨KK, hKK⟩ : ∃ KK, KK = O ++ H.map hdL ++ (Q.take i).map hdL := ⟨_, rfl⟩
          have HLP := Aside0.mk (show KK.length ≤ 1000 by rw [hKK]; simp; omega)
          rw [← hKK] at RK HKE
          clear hKK
          go_wp2_with (((with_reducible refine gate_builtin (b := .append) (xs := #[.tmp 69, .tmp 76]) rfl ?_); at_builtin; refine Kd.R_append kI (w0 := _) w5.heap.size rfl (.tmp 69) (.tmp 76) 31 3 (.int .i64 0) 8 rfl Try.underlying31 info3 rfl (by decide) (by omega) v (KK) ((rd_T24 Q (i : Int)).f1) [.int .i64 ((rd_T24 Q (i : Int)).f1)] (fun _ => True) (fun _ => False) rfl rfl rfl (fun _ hk => hk.elim) (fun _ _ => trivial) (RK.out) (HB.out) (HB.out.size) (by have := HLP.out; omega) ?_; intro v2 w2 ho hb hg hat; rw [HKE.out] at ho; have RK2 := Aside0.mk ho; have HB2 := Aside0.mk hb; clear ho hb hg hat x0 x1 a0 a1 a2 a3 a4 UT))
          go_roundg (Q.length - (i + 1))
          case measure => have := HI.out; omega
          case rel => exact ⟨i + 1, v2, by go_num, rfl, ⟨by omega⟩, RK2, HB2⟩
        · have g2 : decide (i < Q.length) = false := by simpa using hit
          have g2' : decide ((i : Int) < (Q.length : Int)) = false := by simpa using hit
          have hte : Q.take i = Q := List.take_of_length_le (by omega)
          rw [hte] at RK
          clear hte UT
          have RD := RK
          clear RK
          obtain ⟨D, hD⟩ : ∃ D, D = O ++ H.map hdL ++ Q.map hdL := ⟨_, rfl⟩
          have HDL := Aside0.mk (show D.length ≤ 1000 by rw [hD]; simp; omega)
          rw [← hD] at RD
          have HPG := Aside0.mk (progress HIN.out HWM.out hD)
          have hdl : D.length ≤ 1000 := HDL.out
          clear hD HDL
          have RD := Aside0.mk (Kd.R_lower RD.out (Nat.le_trans LT8w.out (Nat.le_refl _)))
          obtain ⟨da, dc, rfl⟩ := Kd.R_slice RD.out
          have hdc : D.length ≤ dc := (Kd.R_reads' RD.out).2.1
          have T7 := Aside0.mk (blk_below T7.out HB.out)
          have T8 := Aside0.mk (blk_below T8.out HB.out)
          have RH := Aside0.mk (Kd.R_below RH.out HB.out)
          have RW := Aside0.mk (Kd.R_below RW.out HB.out)
          have B := Aside0.mk (below_step B.out HB.out)
          clear HB
          go_upto_region 16 with (fail)
          clear x0 x1 g2 g2' hit HI
          go_wp2
          go_loopg [12] D.length (fun kq v12 w' => ∃ (i : Nat) (vH vW : Value), v12 = .int .i64 i ∧ Aside0 (kq + i = D.length) ∧ Aside0 (w'.heap[b7]? = some (.cells #[vH, vW] 29 (0, 0))) ∧ Aside0 (k24.R 24 w' w.heap.size (fun _ => True) vH ((D.take i).foldl (stepC wl.f1) (H, Q)).1) ∧ Aside0 (k24.R 24 w' w.heap.size (fun _ => True) vW ((D.take i).foldl (stepC wl.f1) (H, Q)).2) ∧ Aside0 (w'.heap[b8]? = some (.cells #[.int .i64 wl.f0, .int .i64 wl.f1, .int .i64 wl.f2, .int .i64 wl.f3, .bool wl.f4] 24 (0, 0))) ∧ Aside0 (kI.R 3 w' w.heap.size (fun _ => True) (.slice da D.length dc) D) ∧ Aside0 (Below w.heap.size w w'))
          case atStart => exact ⟨0, _, _, rfl, ⟨rfl⟩, T7, RH, RW, T8, RD, B⟩
          case round =>
            obtain ⟨i, vH, vW, rfl, HI, T7, RH, RW, T8, RD, B⟩ := hrel
            by_cases hit : i < D.length
            rotate_left
            · have g2 : decide (i < D.length) = false := by simpa using hit
              have g2' : decide ((i : Int) < (D.length : Int)) = false := by simpa using hit
              have hte : D.take i = D := List.take_of_length_le (by omega)
              rw [hte] at RH RW
              clear hte
              generalize D.foldl (stepC wl.f1) (H, Q) = P at RH RW HPG
              obtain ⟨PH, PW⟩ := P
              obtain ⟨hp1, hp2⟩ := HPG.out
              dsimp only at RH RW hp1 hp2
              subst hp2
              have HM := Aside0.mk hp1
              clear hp1 HPG
              obtain ⟨A3, c3, rfl⟩ := Kd.R_slice RH.out
              obtain ⟨A4, c4, rfl⟩ := Kd.R_slice RW.out
              have hc3 : PH.length ≤ c3 := (Kd.R_reads' RH.out).2.1
              have hphm : PH.length ≤ 9223372036854775807 := (Kd.R_reads' RH.out).2.2.2.1
              go_upto_region 24 with (fail)
              go_wp2
              obtain ⟨wF, hwF⟩ : ∃ z, z = wr := ⟨_, rfl⟩
              rw [← hwF] at T7 T8 RH B ⊢
              clear g2 g2' hit HI
              go_loopg [16] PH.length (fun kq v16 w' => ∃ i : Nat, v16 = .int .i64 i ∧ Aside0 (kq + i = PH.length) ∧ Aside0 (wl ∉ PH.take i) ∧ Aside0 (Below wF.heap.size wF w'))
              case atStart => exact ⟨0, rfl, ⟨rfl⟩, ⟨by simp⟩, ⟨Below.refl _ _⟩⟩
              case round =>
                obtain ⟨i, rfl, HI, HNI, HB⟩ := hrel
                have U7 := Aside0.mk (blk_below T7.out HB.out)
                have U8 := Aside0.mk (blk_below T8.out HB.out)
                have x0 := (blk_cell U7.out 0).trans rfl; have x1 := (blk_cell U7.out 1).trans rfl
                have y0 := (blk_cell U8.out 0).trans rfl; have y1 := (blk_cell U8.out 1).trans rfl; have y2 := (blk_cell U8.out 2).trans rfl; have y3 := (blk_cell U8.out 3).trans rfl; have y4 := (blk_cell U8.out 4).trans rfl
                have hit : i < PH.length := by
                  rcases Nat.lt_or_ge i PH.length with h | h
                  · exact h
                  · exfalso
                    have := HNI.out
                    rw [List.take_of_length_le h] at this
                    exact this HM.out
                have g2 : decide (i < PH.length) = true := by simpa using hit
                have g2' : decide ((i : Int) < (PH.length : Int)) = true := by simpa using hit
                have hic : i < c3 := by omega
                obtain ⟨ae, hae, a0, a1, a2, a3, a4⟩ := at_T24 (Kd.C_below (Kd.R_reads' RH.out).2.2 HB.out) (i : Int) (by omega) (by omega)
                cases hae
                simp only [Int.toNat_natCast] at a0 a1 a2 a3 a4
                have HTK := Aside0.mk (show PH.take (i + 1) = PH.take i ++ [rd_T24 PH (i : Int)] by rw [List.take_succ_eq_append_getElem hit, rd_at hit])
                generalize rd_T24 PH (i : Int) = u at HTK a0 a1 a2 a3 a4
                cases hq : eqL u wl with
                | false =>
                  have HNX := Aside0.mk (show wl ∉ PH.take (i + 1) by
                    rw [HTK.out, List.mem_append, List.mem_singleton]
                    rintro (h | h)
                    · exact HNI.out h
                    · rw [eqL_iff.2 h.symm] at hq; cases hq)
                  unfold eqL at hq
                  go_upto_region 27 with (fail)
                  go_quiet (fail)
                  have HB := Aside0.mk (below_step HB.out (pw_below_drewN (Below.refl wr.heap.size wr) nq))
                  generalize wr.drewN nq = ws at HB ⊢
                  clear a0 a1 a2 a3 a4 x0 x1 y0 y1 y2 y3 y4
                  go_wp2
                  go_roundg (PH.length - (i + 1))
                  case measure => have := HI.out; omega
                  case rel => exact ⟨i + 1, by go_num, ⟨by omega⟩, HNX, HB⟩
                | true =>
                  unfold eqL at hq
                  go_upto_region 27 with (fail)
                  go_quiet (fail)
                  have hbq := pw_below_drewN (Below.refl wr.heap.size wr) nq
                  have U7 := Aside0.mk (blk_below U7.out hbq)
                  have HB := Aside0.mk (below_step HB.out hbq)
                  clear hbq
                  generalize wr.drewN nq = ws at HB U7 ⊢
                  clear a0 a1 a2 a3 a4 x0 x1 y0 y1 y2 y3 y4
                  have BF := Aside0.mk (below_step B.out HB.out)
                  go_wp2_with (fail)
                  refine (sane_calls _).mono ?_
                  rintro e w9 ⟨rfl, hb9⟩
                  have U7 := Aside0.mk (blk_below U7.out hb9)
                  have HB9 := Aside0.mk (below_step BF.out hb9)
                  clear hb9
                  have x0 := (blk_cell U7.out 0).trans rfl; have x1 := (blk_cell U7.out 1).trans rfl
                  go_wp2
                  go_ret
                  exact ⟨rfl, HB9.out⟩
            · have g2 : decide (i < D.length) = true := by simpa using hit
              have g2' : decide ((i : Int) < (D.length : Int)) = true := by simpa using hit
              have HST := Aside0.mk (foldC_take (h := wl.f1) (t := (H, Q)) hit)
              have HTI := Aside0.mk ((foldC_all (h := wl.f1) (D.take i) (H, Q) HIN.out).1)
              generalize hTN : (D.take (i + 1)).foldl (stepC wl.f1) (H, Q) = TN at HST
              have HTN := Aside0.mk hTN
              clear hTN
              generalize (D.take i).foldl (stepC wl.f1) (H, Q) = P at RH RW HST HTI
              obtain ⟨PH, PW⟩ := P
              dsimp only at RH RW HTI
              obtain ⟨A3, c3, rfl⟩ := Kd.R_slice RH.out
              obtain ⟨A4, c4, rfl⟩ := Kd.R_slice RW.out
              obtain ⟨de, hde, d0⟩ := Kd.at_int (Kd.R_reads' RD.out).2.2 (i : Int) (by omega) (by omega)
              cases hde
              simp only [Int.toNat_natCast] at d0
              have hic : i < dc := by omega
              generalize hx : rd D (i : Int) = x at HST d0
              have y0 := (blk_cell T8.out 0).trans rfl; have y1 := (blk_cell T8.out 1).trans rfl; have y2 := (blk_cell T8.out 2).trans rfl; have y3 := (blk_cell T8.out 3).trans rfl; have y4 := (blk_cell T8.out 4).trans rfl
              cases hs : skipB wl.f1 x with
              | true =>
                have HSK := Aside0.mk (show TN = (PH, PW) by rw [HST.out]; unfold stepC; rw [if_pos hs])
                unfold skipB at hs
                cases e1 : (x == wl.f1) with
                | true =>
                  clear hs
                  go_upto_region 19 with (fail)
                  go_quiet (fail)
                  have hbq := pw_below_drewN (Below.refl wr.heap.size wr) nq
                  have T7 := Aside0.mk (blk_below T7.out hbq)
                  have T8 := Aside0.mk (blk_below T8.out hbq)
                  have RH := Aside0.mk (Kd.R_below RH.out hbq)
                  have RW := Aside0.mk (Kd.R_below RW.out hbq)
                  have RD := Aside0.mk (Kd.R_below RD.out hbq)
                  have B := Aside0.mk (below_step B.out hbq)
                  clear hbq
                  generalize wr.drewN nq = ws at T7 T8 RH RW RD B ⊢
                  clear d0 y0 y1 y2 y3 y4
                  go_wp2
                  go_roundg (D.length - (i + 1))
                  case measure => have := HI.out; omega
                  case rel => exact ⟨i + 1, _, _, by go_num, ⟨by omega⟩, T7, ⟨by rw [HTN.out, HSK.out]; exact RH.out⟩, ⟨by rw [HTN.out, HSK.out]; exact RW.out⟩, T8, RD, B⟩
                | false =>
                  cases e2 : decide (x < 1) with
                  | true =>
                    clear hs
                    go_upto_region 19 with (fail)
                    go_quiet (fail)
                    have hbq := pw_below_drewN (Below.refl wr.heap.size wr) nq
                    have T7 := Aside0.mk (blk_below T7.out hbq)
                    have T8 := Aside0.mk (blk_below T8.out hbq)
                    have RH := Aside0.mk (Kd.R_below RH.out hbq)
                    have RW := Aside0.mk (Kd.R_below RW.out hbq)
                    have RD := Aside0.mk (Kd.R_below RD.out hbq)
                    have B := Aside0.mk (below_step B.out hbq)
                    clear hbq
                    generalize wr.drewN nq = ws at T7 T8 RH RW RD B ⊢
                    clear d0 y0 y1 y2 y3 y4
                    go_wp2
                    go_roundg (D.length - (i + 1))
                    case measure => have := HI.out; omega
                    case rel => exact ⟨i + 1, _, _, by go_num, ⟨by omega⟩, T7, ⟨by rw [HTN.out, HSK.out]; exact RH.out⟩, ⟨by rw [HTN.out, HSK.out]; exact RW.out⟩, T8, RD, B⟩
                  | false =>
                    cases e3 : decide (1073741824 < x) with
                    | true =>
                      clear hs
                      go_upto_region 19 with (fail)
                      go_quiet (fail)
                      have hbq := pw_below_drewN (Below.refl wr.heap.size wr) nq
                      have T7 := Aside0.mk (blk_below T7.out hbq)
                      have T8 := Aside0.mk (blk_below T8.out hbq)
                      have RH := Aside0.mk (Kd.R_below RH.out hbq)
                      have RW := Aside0.mk (Kd.R_below RW.out hbq)
                      have RD := Aside0.mk (Kd.R_below RD.out hbq)
                      have B := Aside0.mk (below_step B.out hbq)
                      clear hbq
                      generalize wr.drewN nq = ws at T7 T8 RH RW RD B ⊢
                      clear d0 y0 y1 y2 y3 y4
                      go_wp2
                      go_roundg (D.length - (i + 1))
                      case measure => have := HI.out; omega
                      case rel => exact ⟨i + 1, _, _, by go_num, ⟨by omega⟩, T7, ⟨by rw [HTN.out, HSK.out]; exact RH.out⟩, ⟨by rw [HTN.out, HSK.out]; exact RW.out⟩, T8, RD, B⟩
                    | false =>
                      exfalso
                      have e1' : decide (x = wl.f1) = false := by simpa using e1
                      rw [e1', e2, e3] at hs
                      cases hs
              | false =>
                obtain ⟨hkn, _⟩ := skip_known hs
                obtain ⟨hz1, hz2, hz3, _⟩ := close_all (t := (PH, PW)) (x := x) HTI.out hkn
                have hst2 : TN = ((closeF PH PW x).1.1, (closeF PH PW x).1.2.1) := by rw [HST.out]; unfold stepC; rw [if_neg (by rw [hs]; simp)]
                dsimp only at hz1 hz2 hz3
                obtain ⟨⟨X1, X2, G, N⟩, hX⟩ : ∃ R, R = (closeF PH PW x).1 := ⟨_, rfl⟩
                rw [← hX] at hz2 hz3 hst2
                dsimp only at hz2 hz3 hst2
                subst hz2
                have HX := Aside0.mk hX.symm
                have HZ := Aside0.mk hz1
                have HSK := Aside0.mk hst2
                have HPL := Aside0.mk (show PH.length + PW.length ≤ 1000 from Nat.le_trans HTI.out.len (by decide))
                unfold skipB at hs
                simp only [Bool.or_eq_false_iff, decide_eq_false_iff_not] at hs
                obtain ⟨q1, q2, q3⟩ := hs
                have e1 : (x == wl.f1) = false := by simpa using q1
                have e2 : decide (x < 1) = false := by simpa using q2
                have e3 : decide (1073741824 < x) = false := by simpa using q3
                clear q1 q2 q3 hz1 hz3 hst2 hX hkn
                go_upto_region 19 with (fail)
                go_quiet (fail)
                have hbq := pw_below_drewN (Below.refl wr.heap.size wr) nq
                have T7 := Aside0.mk (blk_below T7.out hbq)
                have T8 := Aside0.mk (blk_below T8.out hbq)
                have RH := Aside0.mk (Kd.R_below RH.out hbq)
                have RW := Aside0.mk (Kd.R_below RW.out hbq)
                have RD := Aside0.mk (Kd.R_below RD.out hbq)
                have B := Aside0.mk (below_step B.out hbq)
                have d0 := pw_cell_below hbq d0
                clear hbq
                generalize wr.drewN nq = ws at T7 T8 RH RW RD B d0 ⊢
                clear y0 y1 y2 y3 y4 e1 e2 e3
                go_upto_region 20 with (fail)
                refine start_ (n := 15) (S := fun w' => w'.cell? ⟨b7, 0, none⟩ = some (.slice A3 PH.length c3) ∧ w'.cell? ⟨b7, 1, none⟩ = some (.slice A4 PW.length c4) ∧ w'.cell? (de.add i) = some (.int .i64 x)) (ds := [12, 13]) #[false, false, false, false, false, false, false, false, false, false, false, false, false, false, false] (by kernel_rfl) rfl rfl ⟨(blk_cell T7.out 0).trans rfl, (blk_cell T7.out 1).trans rfl, d0⟩ (fun hHeld => ?_)
                have hbd := below_drew1 (Below.refl ws.heap.size ws)
                have T7 := Aside0.mk (blk_below T7.out hbd)
                have T8 := Aside0.mk (blk_below T8.out hbd)
                have RH := Aside0.mk (Kd.R_below RH.out hbd)
                have RW := Aside0.mk (Kd.R_below RW.out hbd)
                have RD := Aside0.mk (Kd.R_below RD.out hbd)
                have B := Aside0.mk (below_step B.out hbd)
                clear hbd
                generalize ws.drew = wd at B T7 T8 RH RW RD  hHeld ⊢
                have HH := Aside0.mk hHeld
                clear d0
                refine take_ (i := 0) (N := some 106) (v := ?_) (a' := ?_) #[true, false, false, false, false, false, false, false, false, false, false, false, false, false, false] rfl rfl (by kernel_rfl) (fun _ _ _ h => h) (Or.inl ⟨by rfl, ?_⟩) hHeld ?_ ?_
                rotate_left
                · rintro w' ⟨s0, s1, s2⟩
                  go_simp
                  with_reducible rfl
                rotate_left
                · simp only [Act.put, List.setIfInBounds_toArray, List.set_cons_zero, List.set_cons_succ, i64_w, i32_w]
                  rfl
                refine pure_ (i := 1) (N := some 107) (v := ?_) (a' := ?_) #[true, true, false, false, false, false, false, false, false, false, false, false, false, false, false] rfl rfl (by kernel_rfl) (fun _ _ _ h => h) (Or.inl ⟨by rfl, ?_⟩) ?_ ?_
                rotate_left
                · intro w'
                  go_simp
                  with_reducible rfl
                rotate_left
                · simp only [Act.put, List.setIfInBounds_toArray, List.set_cons_zero, List.set_cons_succ, i64_w, i32_w]
                  rfl
                refine pure_ (i := 2) (N := some 108) (v := ?_) (a' := ?_) #[true, true, true, false, false, false, false, false, false, false, false, false, false, false, false] rfl rfl (by kernel_rfl) (fun _ _ _ h => h) (Or.inl ⟨by rfl, ?_⟩) ?_ ?_
                rotate_left
                · intro w'
                  go_simp
                  with_reducible rfl
                rotate_left
                · simp only [Act.put, List.setIfInBounds_toArray, List.set_cons_zero, List.set_cons_succ, i64_w, i32_w]
                  rfl
                refine pure_ (i := 3) (N := some 109) (v := ?_) (a' := ?_) #[true, true, true, true, false, false, false, false, false, false, false, false, false, false, false] rfl rfl (by kernel_rfl) (fun _ _ _ h => h) (Or.inl ⟨by rfl, ?_⟩) ?_ ?_
                rotate_left
                · intro w'
                  go_simp
                  with_reducible rfl
                rotate_left
                · simp only [Act.put, List.setIfInBounds_toArray, List.set_cons_zero, List.set_cons_succ, i64_w, i32_w]
                  rfl
                refine take_ (i := 4) (N := some 110) (v := ?_) (a' := ?_) #[true, true, true, true, true, false, false, false, false, false, false, false, false, false, false] rfl rfl (by kernel_rfl) (fun _ _ _ h => h) (Or.inl ⟨by rfl, ?_⟩) hHeld ?_ ?_
                rotate_left
                · rintro w' ⟨s0, s1, s2⟩
                  go_simp
                  with_reducible rfl
                rotate_left
                · simp only [Act.put, List.setIfInBounds_toArray, List.set_cons_zero, List.set_cons_succ, i64_w, i32_w]
                  rfl
                refine join_ (σ := Value × Value × Value × Value × Nat × Nat) 3 #[true, true, true, true, true, true, true, true, true, true, true, true, false, false, false] (fun s => [(111, .tuple #[.agg #[s.1, s.2.1], .agg #[s.2.2.1, s.2.2.2.1], .int .i64 0]), (105, .tuple #[.agg #[s.1, s.2.1], .agg #[s.2.2.1, s.2.2.2.1], .int .i64 0]), (112, .agg #[s.1, s.2.1]), (113, .agg #[s.2.2.1, s.2.2.2.1]), (114, .int .i64 0), (13, .pointer (some ⟨s.2.2.2.2.1, 0, none⟩)), (14, .pointer (some ⟨s.2.2.2.2.2, 0, none⟩))]) (fun s w' => k24.R 24 w' w.heap.size (fun _ => True) s.1 X1 ∧ k24.R 24 w' w.heap.size (fun _ => True) s.2.1 X2 ∧ kI.R 3 w' w.heap.size (fun _ => True) s.2.2.1 G ∧ kI.R 3 w' w.heap.size (fun _ => True) s.2.2.2.1 ([] : List Int) ∧ Below wd.heap.size wd w' ∧ wd.heap.size ≤ s.2.2.2.2.1 ∧ wd.heap.size ≤ s.2.2.2.2.2 ∧ w'.heap[s.2.2.2.2.1]? = some (.cells #[.slice none 0 0, .slice none 0 0] 29 (0, 0)) ∧ w'.heap[s.2.2.2.2.2]? = some (.cells #[.slice none 0 0, .slice none 0 0] 33 (0, 0))) ?cont20 ?orders20
                case orders20 =>
                  intro hCont
                  refine three_ (i := 5) (j := 10) (k := 11) (Ni := some 111) (Nj := some 13) (Nk := some 14) #[true, true, true, true, true, true, false, false, false, false, false, false, false, false, false] #[true, true, true, true, true, false, false, false, false, false, true, false, false, false, false] #[true, true, true, true, true, false, false, false, false, false, false, true, false, false, false] rfl rfl rfl rfl rfl rfl (by kernel_rfl) (by decide) (by decide) (by decide) (fun K hK => ?_) (fun K hK => ?_) (fun K hK => ?_)
                  · refine goes_ Try.func40 (by kernel_rfl) rfl #[.agg #[.slice A3 PH.length c3, .slice A4 PW.length c4], .int .i64 x] (by rfl) rfl rfl (by (try simp only [List.map_toArray, List.map_cons, List.map_nil]); first | done | rfl) ?_
                    refine (closeT_calls w.heap.size A3 A4 c3 c4 PH PW x _ RH.out RW.out B.out.size HPL.out).mono ?_
                    rintro e v1 ⟨vH, vW, vG, vN, rfl, hvH, hvW, hvG, hvN, hb⟩
                    rw [HX.out] at hvH hvW hvG hvN
                    rw [HZ.out]
                    refine ⟨_, rfl, ?_⟩
                    have HVH := Aside0.mk hvH
                    have HVW := Aside0.mk hvW
                    have HVG := Aside0.mk hvG
                    have HVN := Aside0.mk hvN
                    clear hvH hvW hvG hvN
                    have HB1 := Aside0.mk hb
                    clear hb
                    skip
                    refine hK.out _ _ (held3 HB1.out HH.out) (fun hHeld => ?_)
                    clear hK K
                    refine norm_ (a' := ?_) ?_ ?_
                    rotate_left
                    · show Act.put _ (some 111) _ = _
                      simp only [Act.put, List.setIfInBounds_toArray, List.set_cons_zero, List.set_cons_succ, i64_w, i32_w]
                      rfl
                    refine pure_ (i := 6) (N := some 105) (v := ?_) (a' := ?_) #[true, true, true, true, true, true, true, false, false, false, false, false, false, false, false] rfl rfl (by kernel_rfl) (fun _ _ _ h => h) (Or.inl ⟨by rfl, ?_⟩) ?_ ?_
                    rotate_left
                    · intro w'
                      go_simp
                      with_reducible rfl
                    rotate_left
                    · simp only [Act.put, List.setIfInBounds_toArray, List.set_cons_zero, List.set_cons_succ, i64_w, i32_w]
                      rfl
                    refine pure_ (i := 7) (N := some 112) (v := ?_) (a' := ?_) #[true, true, true, true, true, true, true, true, false, false, false, false, false, false, false] rfl rfl (by kernel_rfl) (fun _ _ _ h => h) (Or.inl ⟨by rfl, ?_⟩) ?_ ?_
                    rotate_left
                    · intro w'
                      go_simp
                      with_reducible rfl
                    rotate_left
                    · simp only [Act.put, List.setIfInBounds_toArray, List.set_cons_zero, List.set_cons_succ, i64_w, i32_w]
                      rfl
                    refine pure_ (i := 8) (N := some 113) (v := ?_) (a' := ?_) #[true, true, true, true, true, true, true, true, true, false, false, false, false, false, false] rfl rfl (by kernel_rfl) (fun _ _ _ h => h) (Or.inl ⟨by rfl, ?_⟩) ?_ ?_
                    rotate_left
                    · intro w'
                      go_simp
                      with_reducible rfl
                    rotate_left
                    · simp only [Act.put, List.setIfInBounds_toArray, List.set_cons_zero, List.set_cons_succ, i64_w, i32_w]
                      rfl
                    refine pure_ (i := 9) (N := some 114) (v := ?_) (a' := ?_) #[true, true, true, true, true, true, true, true, true, true, false, false, false, false, false] rfl rfl (by kernel_rfl) (fun _ _ _ h => h) (Or.inl ⟨by rfl, ?_⟩) ?_ ?_
                    rotate_left
                    · intro w'
                      go_simp
                      with_reducible rfl
                    rotate_left
                    · simp only [Act.put, List.setIfInBounds_toArray, List.set_cons_zero, List.set_cons_succ, i64_w, i32_w]
                      rfl
                    refine two_ (i := 10) (j := 11) (Ni := some 13) (Nj := some 14) #[true, true, true, true, true, true, true, true, true, true, true, false, false, false, false] #[true, true, true, true, true, true, true, true, true, true, false, true, false, false, false] rfl rfl rfl rfl (by kernel_rfl) (by decide) (by decide) (fun K hK => ?_) (fun K hK => ?_)
                    · refine box_step ?hg (N := 13) ?hd (cs := #[.slice none 0 0, .slice none 0 0]) (t := 29) ?hr ?_
                      (case hd => rfl)
                      (case hg => rfl)
                      (case hr => first | (go_simp; done) | (go_simp; rfl))
                      intro ga hga v2 hbox hb
                      have HXa := Aside0.mk hbox
                      have HGa := Aside0.mk (show wd.heap.size ≤ ga from Nat.le_trans HB1.out.size (Nat.le_of_eq hga.symm))
                      clear hbox hga
                      have HVH := Aside0.mk (Kd.R_below HVH.out hb)
                      have HVW := Aside0.mk (Kd.R_below HVW.out hb)
                      have HVG := Aside0.mk (Kd.R_below HVG.out hb)
                      have HVN := Aside0.mk (Kd.R_below HVN.out hb)
                      have HB2 := Aside0.mk (below_step HB1.out hb)
                      clear hb
                      skip
                      refine hK.out _ _ (held3 HB2.out HH.out) (fun hHeld => ?_)
                      clear hK K
                      refine norm_ (a' := ?_) ?_ ?_
                      rotate_left
                      · show Act.put _ (some 13) _ = _
                        simp only [Act.put, List.setIfInBounds_toArray, List.set_cons_zero, List.set_cons_succ, i64_w, i32_w]
                        rfl
                      skip
                      refine one_ (i := 11) (N := some 14) #[true, true, true, true, true, true, true, true, true, true, true, true, false, false, false] rfl rfl (by kernel_rfl) (by decide) (fun K hK => ?_)
                      refine box_step ?hg (N := 14) ?hd (cs := #[.slice none 0 0, .slice none 0 0]) (t := 33) ?hr ?_
                      (case hd => rfl)
                      (case hg => rfl)
                      (case hr => first | (go_simp; done) | (go_simp; rfl))
                      intro gb hgb v3 hbox hb
                      have HXb := Aside0.mk hbox
                      have HGb := Aside0.mk (show wd.heap.size ≤ gb from Nat.le_trans HB2.out.size (Nat.le_of_eq hgb.symm))
                      clear hbox hgb
                      have HVH := Aside0.mk (Kd.R_below HVH.out hb)
                      have HVW := Aside0.mk (Kd.R_below HVW.out hb)
                      have HVG := Aside0.mk (Kd.R_below HVG.out hb)
                      have HVN := Aside0.mk (Kd.R_below HVN.out hb)
                      have HXa := Aside0.mk (blk_below HXa.out hb)
                      have HB3 := Aside0.mk (below_step HB2.out hb)
                      clear hb
                      skip
                      refine hK.out _ _ (held3 HB3.out HH.out) (fun hHeld => ?_)
                      clear hK K
                      refine norm_ ?_ (hCont (vH, vW, vG, vN, ga, gb) v3 ⟨HVH.out, HVW.out, HVG.out, HVN.out, HB3.out, HGa.out, HGb.out, HXa.out, HXb.out⟩)
                      rfl
                    · refine box_step ?hg (N := 14) ?hd (cs := #[.slice none 0 0, .slice none 0 0]) (t := 33) ?hr ?_
                      (case hd => rfl)
                      (case hg => rfl)
                      (case hr => first | (go_simp; done) | (go_simp; rfl))
                      intro gb hgb v2 hbox hb
                      have HXb := Aside0.mk hbox
                      have HGb := Aside0.mk (show wd.heap.size ≤ gb from Nat.le_trans HB1.out.size (Nat.le_of_eq hgb.symm))
                      clear hbox hgb
                      have HVH := Aside0.mk (Kd.R_below HVH.out hb)
                      have HVW := Aside0.mk (Kd.R_below HVW.out hb)
                      have HVG := Aside0.mk (Kd.R_below HVG.out hb)
                      have HVN := Aside0.mk (Kd.R_below HVN.out hb)
                      have HB2 := Aside0.mk (below_step HB1.out hb)
                      clear hb
                      skip
                      refine hK.out _ _ (held3 HB2.out HH.out) (fun hHeld => ?_)
                      clear hK K
                      refine norm_ (a' := ?_) ?_ ?_
                      rotate_left
                      · show Act.put _ (some 14) _ = _
                        simp only [Act.put, List.setIfInBounds_toArray, List.set_cons_zero, List.set_cons_succ, i64_w, i32_w]
                        rfl
                      skip
                      refine one_ (i := 10) (N := some 13) #[true, true, true, true, true, true, true, true, true, true, true, true, false, false, false] rfl rfl (by kernel_rfl) (by decide) (fun K hK => ?_)
                      refine box_step ?hg (N := 13) ?hd (cs := #[.slice none 0 0, .slice none 0 0]) (t := 29) ?hr ?_
                      (case hd => rfl)
                      (case hg => rfl)
                      (case hr => first | (go_simp; done) | (go_simp; rfl))
                      intro ga hga v3 hbox hb
                      have HXa := Aside0.mk hbox
                      have HGa := Aside0.mk (show wd.heap.size ≤ ga from Nat.le_trans HB2.out.size (Nat.le_of_eq hga.symm))
                      clear hbox hga
                      have HVH := Aside0.mk (Kd.R_below HVH.out hb)
                      have HVW := Aside0.mk (Kd.R_below HVW.out hb)
                      have HVG := Aside0.mk (Kd.R_below HVG.out hb)
                      have HVN := Aside0.mk (Kd.R_below HVN.out hb)
                      have HXb := Aside0.mk (blk_below HXb.out hb)
                      have HB3 := Aside0.mk (below_step HB2.out hb)
                      clear hb
                      skip
                      refine hK.out _ _ (held3 HB3.out HH.out) (fun hHeld => ?_)
                      clear hK K
                      refine norm_ ?_ (hCont (vH, vW, vG, vN, ga, gb) v3 ⟨HVH.out, HVW.out, HVG.out, HVN.out, HB3.out, HGa.out, HGb.out, HXa.out, HXb.out⟩)
                      rfl
                  · refine box_step ?hg (N := 13) ?hd (cs := #[.slice none 0 0, .slice none 0 0]) (t := 29) ?hr ?_
                    (case hd => rfl)
                    (case hg => rfl)
                    (case hr => first | (go_simp; done) | (go_simp; rfl))
                    intro ga hga v1 hbox hb
                    have HXa := Aside0.mk hbox
                    have HGa := Aside0.mk (show wd.heap.size ≤ ga from Nat.le_of_eq hga.symm)
                    clear hbox hga
                    have HB1 := Aside0.mk hb
                    clear hb
                    skip
                    refine hK.out _ _ (held3 HB1.out HH.out) (fun hHeld => ?_)
                    clear hK K
                    refine norm_ (a' := ?_) ?_ ?_
                    rotate_left
                    · show Act.put _ (some 13) _ = _
                      simp only [Act.put, List.setIfInBounds_toArray, List.set_cons_zero, List.set_cons_succ, i64_w, i32_w]
                      rfl
                    refine two_ (i := 5) (j := 11) (Ni := some 111) (Nj := some 14) #[true, true, true, true, true, true, false, false, false, false, true, false, false, false, false] #[true, true, true, true, true, false, false, false, false, false, true, true, false, false, false] rfl rfl rfl rfl (by kernel_rfl) (by decide) (by decide) (fun K hK => ?_) (fun K hK => ?_)
                    · refine goes_ Try.func40 (by kernel_rfl) rfl #[.agg #[.slice A3 PH.length c3, .slice A4 PW.length c4], .int .i64 x] (by rfl) rfl rfl (by (try simp only [List.map_toArray, List.map_cons, List.map_nil]); first | done | rfl) ?_
                      refine (closeT_calls w.heap.size A3 A4 c3 c4 PH PW x _ (Kd.R_below RH.out HB1.out) (Kd.R_below RW.out HB1.out) (Nat.le_trans B.out.size HB1.out.size) HPL.out).mono ?_
                      rintro e v2 ⟨vH, vW, vG, vN, rfl, hvH, hvW, hvG, hvN, hb⟩
                      rw [HX.out] at hvH hvW hvG hvN
                      rw [HZ.out]
                      refine ⟨_, rfl, ?_⟩
                      have HVH := Aside0.mk hvH
                      have HVW := Aside0.mk hvW
                      have HVG := Aside0.mk hvG
                      have HVN := Aside0.mk hvN
                      clear hvH hvW hvG hvN
                      have HXa := Aside0.mk (blk_below HXa.out hb)
                      have HB2 := Aside0.mk (below_step HB1.out hb)
                      clear hb
                      skip
                      refine hK.out _ _ (held3 HB2.out HH.out) (fun hHeld => ?_)
                      clear hK K
                      refine norm_ (a' := ?_) ?_ ?_
                      rotate_left
                      · show Act.put _ (some 111) _ = _
                        simp only [Act.put, List.setIfInBounds_toArray, List.set_cons_zero, List.set_cons_succ, i64_w, i32_w]
                        rfl
                      refine pure_ (i := 6) (N := some 105) (v := ?_) (a' := ?_) #[true, true, true, true, true, true, true, false, false, false, true, false, false, false, false] rfl rfl (by kernel_rfl) (fun _ _ _ h => h) (Or.inl ⟨by rfl, ?_⟩) ?_ ?_
                      rotate_left
                      · intro w'
                        go_simp
                        with_reducible rfl
                      rotate_left
                      · simp only [Act.put, List.setIfInBounds_toArray, List.set_cons_zero, List.set_cons_succ, i64_w, i32_w]
                        rfl
                      refine pure_ (i := 7) (N := some 112) (v := ?_) (a' := ?_) #[true, true, true, true, true, true, true, true, false, false, true, false, false, false, false] rfl rfl (by kernel_rfl) (fun _ _ _ h => h) (Or.inl ⟨by rfl, ?_⟩) ?_ ?_
                      rotate_left
                      · intro w'
                        go_simp
                        with_reducible rfl
                      rotate_left
                      · simp only [Act.put, List.setIfInBounds_toArray, List.set_cons_zero, List.set_cons_succ, i64_w, i32_w]
                        rfl
                      refine pure_ (i := 8) (N := some 113) (v := ?_) (a' := ?_) #[true, true, true, true, true, true, true, true, true, false, true, false, false, false, false] rfl rfl (by kernel_rfl) (fun _ _ _ h => h) (Or.inl ⟨by rfl, ?_⟩) ?_ ?_
                      rotate_left
                      · intro w'
                        go_simp
                        with_reducible rfl
                      rotate_left
                      · simp only [Act.put, List.setIfInBounds_toArray, List.set_cons_zero, List.set_cons_succ, i64_w, i32_w]
                        rfl
                      refine pure_ (i := 9) (N := some 114) (v := ?_) (a' := ?_) #[true, true, true, true, true, true, true, true, true, true, true, false, false, false, false] rfl rfl (by kernel_rfl) (fun _ _ _ h => h) (Or.inl ⟨by rfl, ?_⟩) ?_ ?_
                      rotate_left
                      · intro w'
                        go_simp
                        with_reducible rfl
                      rotate_left
                      · simp only [Act.put, List.setIfInBounds_toArray, List.set_cons_zero, List.set_cons_succ, i64_w, i32_w]
                        rfl
                      skip
                      refine one_ (i := 11) (N := some 14) #[true, true, true, true, true, true, true, true, true, true, true, true, false, false, false] rfl rfl (by kernel_rfl) (by decide) (fun K hK => ?_)
                      refine box_step ?hg (N := 14) ?hd (cs := #[.slice none 0 0, .slice none 0 0]) (t := 33) ?hr ?_
                      (case hd => rfl)
                      (case hg => rfl)
                      (case hr => first | (go_simp; done) | (go_simp; rfl))
                      intro gb hgb v3 hbox hb
                      have HXb := Aside0.mk hbox
                      have HGb := Aside0.mk (show wd.heap.size ≤ gb from Nat.le_trans HB2.out.size (Nat.le_of_eq hgb.symm))
                      clear hbox hgb
                      have HVH := Aside0.mk (Kd.R_below HVH.out hb)
                      have HVW := Aside0.mk (Kd.R_below HVW.out hb)
                      have HVG := Aside0.mk (Kd.R_below HVG.out hb)
                      have HVN := Aside0.mk (Kd.R_below HVN.out hb)
                      have HXa := Aside0.mk (blk_below HXa.out hb)
                      have HB3 := Aside0.mk (below_step HB2.out hb)
                      clear hb
                      skip
                      refine hK.out _ _ (held3 HB3.out HH.out) (fun hHeld => ?_)
                      clear hK K
                      refine norm_ ?_ (hCont (vH, vW, vG, vN, ga, gb) v3 ⟨HVH.out, HVW.out, HVG.out, HVN.out, HB3.out, HGa.out, HGb.out, HXa.out, HXb.out⟩)
                      rfl
                    · refine box_step ?hg (N := 14) ?hd (cs := #[.slice none 0 0, .slice none 0 0]) (t := 33) ?hr ?_
                      (case hd => rfl)
                      (case hg => rfl)
                      (case hr => first | (go_simp; done) | (go_simp; rfl))
                      intro gb hgb v2 hbox hb
                      have HXb := Aside0.mk hbox
                      have HGb := Aside0.mk (show wd.heap.size ≤ gb from Nat.le_trans HB1.out.size (Nat.le_of_eq hgb.symm))
                      clear hbox hgb
                      have HXa := Aside0.mk (blk_below HXa.out hb)
                      have HB2 := Aside0.mk (below_step HB1.out hb)
                      clear hb
                      skip
                      refine hK.out _ _ (held3 HB2.out HH.out) (fun hHeld => ?_)
                      clear hK K
                      refine norm_ (a' := ?_) ?_ ?_
                      rotate_left
                      · show Act.put _ (some 14) _ = _
                        simp only [Act.put, List.setIfInBounds_toArray, List.set_cons_zero, List.set_cons_succ, i64_w, i32_w]
                        rfl
                      skip
                      refine one_ (i := 5) (N := some 111) #[true, true, true, true, true, true, false, false, false, false, true, true, false, false, false] rfl rfl (by kernel_rfl) (by decide) (fun K hK => ?_)
                      refine goes_ Try.func40 (by kernel_rfl) rfl #[.agg #[.slice A3 PH.length c3, .slice A4 PW.length c4], .int .i64 x] (by rfl) rfl rfl (by (try simp only [List.map_toArray, List.map_cons, List.map_nil]); first | done | rfl) ?_
                      refine (closeT_calls w.heap.size A3 A4 c3 c4 PH PW x _ (Kd.R_below RH.out HB2.out) (Kd.R_below RW.out HB2.out) (Nat.le_trans B.out.size HB2.out.size) HPL.out).mono ?_
                      rintro e v3 ⟨vH, vW, vG, vN, rfl, hvH, hvW, hvG, hvN, hb⟩
                      rw [HX.out] at hvH hvW hvG hvN
                      rw [HZ.out]
                      refine ⟨_, rfl, ?_⟩
                      have HVH := Aside0.mk hvH
                      have HVW := Aside0.mk hvW
                      have HVG := Aside0.mk hvG
                      have HVN := Aside0.mk hvN
                      clear hvH hvW hvG hvN
                      have HXa := Aside0.mk (blk_below HXa.out hb)
                      have HXb := Aside0.mk (blk_below HXb.out hb)
                      have HB3 := Aside0.mk (below_step HB2.out hb)
                      clear hb
                      skip
                      refine hK.out _ _ (held3 HB3.out HH.out) (fun hHeld => ?_)
                      clear hK K
                      refine norm_ (a' := ?_) ?_ ?_
                      rotate_left
                      · show Act.put _ (some 111) _ = _
                        simp only [Act.put, List.setIfInBounds_toArray, List.set_cons_zero, List.set_cons_succ, i64_w, i32_w]
                        rfl
                      refine pure_ (i := 6) (N := some 105) (v := ?_) (a' := ?_) #[true, true, true, true, true, true, true, false, false, false, true, true, false, false, false] rfl rfl (by kernel_rfl) (fun _ _ _ h => h) (Or.inl ⟨by rfl, ?_⟩) ?_ ?_
                      rotate_left
                      · intro w'
                        go_simp
                        with_reducible rfl
                      rotate_left
                      · simp only [Act.put, List.setIfInBounds_toArray, List.set_cons_zero, List.set_cons_succ, i64_w, i32_w]
                        rfl
                      refine pure_ (i := 7) (N := some 112) (v := ?_) (a' := ?_) #[true, true, true, true, true, true, true, true, false, false, true, true, false, false, false] rfl rfl (by kernel_rfl) (fun _ _ _ h => h) (Or.inl ⟨by rfl, ?_⟩) ?_ ?_
                      rotate_left
                      · intro w'
                        go_simp
                        with_reducible rfl
                      rotate_left
                      · simp only [Act.put, List.setIfInBounds_toArray, List.set_cons_zero, List.set_cons_succ, i64_w, i32_w]
                        rfl
                      refine pure_ (i := 8) (N := some 113) (v := ?_) (a' := ?_) #[true, true, true, true, true, true, true, true, true, false, true, true, false, false, false] rfl rfl (by kernel_rfl) (fun _ _ _ h => h) (Or.inl ⟨by rfl, ?_⟩) ?_ ?_
                      rotate_left
                      · intro w'
                        go_simp
                        with_reducible rfl
                      rotate_left
                      · simp only [Act.put, List.setIfInBounds_toArray, List.set_cons_zero, List.set_cons_succ, i64_w, i32_w]
                        rfl
                      refine pure_ (i := 9) (N := some 114) (v := ?_) (a' := ?_) #[true, true, true, true, true, true, true, true, true, true, true, true, false, false, false] rfl rfl (by kernel_rfl) (fun _ _ _ h => h) (Or.inl ⟨by rfl, ?_⟩) ?_ ?_
                      rotate_left
                      · intro w'
                        go_simp
                        with_reducible rfl
                      rotate_left
                      · simp only [Act.put, List.setIfInBounds_toArray, List.set_cons_zero, List.set_cons_succ, i64_w, i32_w]
                        rfl
                      refine norm_ ?_ (hCont (vH, vW, vG, vN, ga, gb) v3 ⟨HVH.out, HVW.out, HVG.out, HVN.out, HB3.out, HGa.out, HGb.out, HXa.out, HXb.out⟩)
                      rfl
                  · refine box_step ?hg (N := 14) ?hd (cs := #[.slice none 0 0, .slice none 0 0]) (t := 33) ?hr ?_
                    (case hd => rfl)
                    (case hg => rfl)
                    (case hr => first | (go_simp; done) | (go_simp; rfl))
                    intro gb hgb v1 hbox hb
                    have HXb := Aside0.mk hbox
                    have HGb := Aside0.mk (show wd.heap.size ≤ gb from Nat.le_of_eq hgb.symm)
                    clear hbox hgb
                    have HB1 := Aside0.mk hb
                    clear hb
                    skip
                    refine hK.out _ _ (held3 HB1.out HH.out) (fun hHeld => ?_)
                    clear hK K
                    refine norm_ (a' := ?_) ?_ ?_
                    rotate_left
                    · show Act.put _ (some 14) _ = _
                      simp only [Act.put, List.setIfInBounds_toArray, List.set_cons_zero, List.set_cons_succ, i64_w, i32_w]
                      rfl
                    refine two_ (i := 5) (j := 10) (Ni := some 111) (Nj := some 13) #[true, true, true, true, true, true, false, false, false, false, false, true, false, false, false] #[true, true, true, true, true, false, false, false, false, false, true, true, false, false, false] rfl rfl rfl rfl (by kernel_rfl) (by decide) (by decide) (fun K hK => ?_) (fun K hK => ?_)
                    · refine goes_ Try.func40 (by kernel_rfl) rfl #[.agg #[.slice A3 PH.length c3, .slice A4 PW.length c4], .int .i64 x] (by rfl) rfl rfl (by (try simp only [List.map_toArray, List.map_cons, List.map_nil]); first | done | rfl) ?_
                      refine (closeT_calls w.heap.size A3 A4 c3 c4 PH PW x _ (Kd.R_below RH.out HB1.out) (Kd.R_below RW.out HB1.out) (Nat.le_trans B.out.size HB1.out.size) HPL.out).mono ?_
                      rintro e v2 ⟨vH, vW, vG, vN, rfl, hvH, hvW, hvG, hvN, hb⟩
                      rw [HX.out] at hvH hvW hvG hvN
                      rw [HZ.out]
                      refine ⟨_, rfl, ?_⟩
                      have HVH := Aside0.mk hvH
                      have HVW := Aside0.mk hvW
                      have HVG := Aside0.mk hvG
                      have HVN := Aside0.mk hvN
                      clear hvH hvW hvG hvN
                      have HXb := Aside0.mk (blk_below HXb.out hb)
                      have HB2 := Aside0.mk (below_step HB1.out hb)
                      clear hb
                      skip
                      refine hK.out _ _ (held3 HB2.out HH.out) (fun hHeld => ?_)
                      clear hK K
                      refine norm_ (a' := ?_) ?_ ?_
                      rotate_left
                      · show Act.put _ (some 111) _ = _
                        simp only [Act.put, List.setIfInBounds_toArray, List.set_cons_zero, List.set_cons_succ, i64_w, i32_w]
                        rfl
                      refine pure_ (i := 6) (N := some 105) (v := ?_) (a' := ?_) #[true, true, true, true, true, true, true, false, false, false, false, true, false, false, false] rfl rfl (by kernel_rfl) (fun _ _ _ h => h) (Or.inl ⟨by rfl, ?_⟩) ?_ ?_
                      rotate_left
                      · intro w'
                        go_simp
                        with_reducible rfl
                      rotate_left
                      · simp only [Act.put, List.setIfInBounds_toArray, List.set_cons_zero, List.set_cons_succ, i64_w, i32_w]
                        rfl
                      refine pure_ (i := 7) (N := some 112) (v := ?_) (a' := ?_) #[true, true, true, true, true, true, true, true, false, false, false, true, false, false, false] rfl rfl (by kernel_rfl) (fun _ _ _ h => h) (Or.inl ⟨by rfl, ?_⟩) ?_ ?_
                      rotate_left
                      · intro w'
                        go_simp
                        with_reducible rfl
                      rotate_left
                      · simp only [Act.put, List.setIfInBounds_toArray, List.set_cons_zero, List.set_cons_succ, i64_w, i32_w]
                        rfl
                      refine pure_ (i := 8) (N := some 113) (v := ?_) (a' := ?_) #[true, true, true, true, true, true, true, true, true, false, false, true, false, false, false] rfl rfl (by kernel_rfl) (fun _ _ _ h => h) (Or.inl ⟨by rfl, ?_⟩) ?_ ?_
                      rotate_left
                      · intro w'
                        go_simp
                        with_reducible rfl
                      rotate_left
                      · simp only [Act.put, List.setIfInBounds_toArray, List.set_cons_zero, List.set_cons_succ, i64_w, i32_w]
                        rfl
                      refine pure_ (i := 9) (N := some 114) (v := ?_) (a' := ?_) #[true, true, true, true, true, true, true, true, true, true, false, true, false, false, false] rfl rfl (by kernel_rfl) (fun _ _ _ h => h) (Or.inl ⟨by rfl, ?_⟩) ?_ ?_
                      rotate_left
                      · intro w'
                        go_simp
                        with_reducible rfl
                      rotate_left
                      · simp only [Act.put, List.setIfInBounds_toArray, List.set_cons_zero, List.set_cons_succ, i64_w, i32_w]
                        rfl
                      skip
                      refine one_ (i := 10) (N := some 13) #[true, true, true, true, true, true, true, true, true, true, true, true, false, false, false] rfl rfl (by kernel_rfl) (by decide) (fun K hK => ?_)
                      refine box_step ?hg (N := 13) ?hd (cs := #[.slice none 0 0, .slice none 0 0]) (t := 29) ?hr ?_
                      (case hd => rfl)
                      (case hg => rfl)
                      (case hr => first | (go_simp; done) | (go_simp; rfl))
                      intro ga hga v3 hbox hb
                      have HXa := Aside0.mk hbox
                      have HGa := Aside0.mk (show wd.heap.size ≤ ga from Nat.le_trans HB2.out.size (Nat.le_of_eq hga.symm))
                      clear hbox hga
                      have HVH := Aside0.mk (Kd.R_below HVH.out hb)
                      have HVW := Aside0.mk (Kd.R_below HVW.out hb)
                      have HVG := Aside0.mk (Kd.R_below HVG.out hb)
                      have HVN := Aside0.mk (Kd.R_below HVN.out hb)
                      have HXb := Aside0.mk (blk_below HXb.out hb)
                      have HB3 := Aside0.mk (below_step HB2.out hb)
                      clear hb
                      skip
                      refine hK.out _ _ (held3 HB3.out HH.out) (fun hHeld => ?_)
                      clear hK K
                      refine norm_ ?_ (hCont (vH, vW, vG, vN, ga, gb) v3 ⟨HVH.out, HVW.out, HVG.out, HVN.out, HB3.out, HGa.out, HGb.out, HXa.out, HXb.out⟩)
                      rfl
                    · refine box_step ?hg (N := 13) ?hd (cs := #[.slice none 0 0, .slice none 0 0]) (t := 29) ?hr ?_
                      (case hd => rfl)
                      (case hg => rfl)
                      (case hr => first | (go_simp; done) | (go_simp; rfl))
                      intro ga hga v2 hbox hb
                      have HXa := Aside0.mk hbox
                      have HGa := Aside0.mk (show wd.heap.size ≤ ga from Nat.le_trans HB1.out.size (Nat.le_of_eq hga.symm))
                      clear hbox hga
                      have HXb := Aside0.mk (blk_below HXb.out hb)
                      have HB2 := Aside0.mk (below_step HB1.out hb)
                      clear hb
                      skip
                      refine hK.out _ _ (held3 HB2.out HH.out) (fun hHeld => ?_)
                      clear hK K
                      refine norm_ (a' := ?_) ?_ ?_
                      rotate_left
                      · show Act.put _ (some 13) _ = _
                        simp only [Act.put, List.setIfInBounds_toArray, List.set_cons_zero, List.set_cons_succ, i64_w, i32_w]
                        rfl
                      skip
                      refine one_ (i := 5) (N := some 111) #[true, true, true, true, true, true, false, false, false, false, true, true, false, false, false] rfl rfl (by kernel_rfl) (by decide) (fun K hK => ?_)
                      refine goes_ Try.func40 (by kernel_rfl) rfl #[.agg #[.slice A3 PH.length c3, .slice A4 PW.length c4], .int .i64 x] (by rfl) rfl rfl (by (try simp only [List.map_toArray, List.map_cons, List.map_nil]); first | done | rfl) ?_
                      refine (closeT_calls w.heap.size A3 A4 c3 c4 PH PW x _ (Kd.R_below RH.out HB2.out) (Kd.R_below RW.out HB2.out) (Nat.le_trans B.out.size HB2.out.size) HPL.out).mono ?_
                      rintro e v3 ⟨vH, vW, vG, vN, rfl, hvH, hvW, hvG, hvN, hb⟩
                      rw [HX.out] at hvH hvW hvG hvN
                      rw [HZ.out]
                      refine ⟨_, rfl, ?_⟩
                      have HVH := Aside0.mk hvH
                      have HVW := Aside0.mk hvW
                      have HVG := Aside0.mk hvG
                      have HVN := Aside0.mk hvN
                      clear hvH hvW hvG hvN
                      have HXa := Aside0.mk (blk_below HXa.out hb)
                      have HXb := Aside0.mk (blk_below HXb.out hb)
                      have HB3 := Aside0.mk (below_step HB2.out hb)
                      clear hb
                      skip
                      refine hK.out _ _ (held3 HB3.out HH.out) (fun hHeld => ?_)
                      clear hK K
                      refine norm_ (a' := ?_) ?_ ?_
                      rotate_left
                      · show Act.put _ (some 111) _ = _
                        simp only [Act.put, List.setIfInBounds_toArray, List.set_cons_zero, List.set_cons_succ, i64_w, i32_w]
                        rfl
                      refine pure_ (i := 6) (N := some 105) (v := ?_) (a' := ?_) #[true, true, true, true, true, true, true, false, false, false, true, true, false, false, false] rfl rfl (by kernel_rfl) (fun _ _ _ h => h) (Or.inl ⟨by rfl, ?_⟩) ?_ ?_
                      rotate_left
                      · intro w'
                        go_simp
                        with_reducible rfl
                      rotate_left
                      · simp only [Act.put, List.setIfInBounds_toArray, List.set_cons_zero, List.set_cons_succ, i64_w, i32_w]
                        rfl
                      refine pure_ (i := 7) (N := some 112) (v := ?_) (a' := ?_) #[true, true, true, true, true, true, true, true, false, false, true, true, false, false, false] rfl rfl (by kernel_rfl) (fun _ _ _ h => h) (Or.inl ⟨by rfl, ?_⟩) ?_ ?_
                      rotate_left
                      · intro w'
                        go_simp
                        with_reducible rfl
                      rotate_left
                      · simp only [Act.put, List.setIfInBounds_toArray, List.set_cons_zero, List.set_cons_succ, i64_w, i32_w]
                        rfl
                      refine pure_ (i := 8) (N := some 113) (v := ?_) (a' := ?_) #[true, true, true, true, true, true, true, true, true, false, true, true, false, false, false] rfl rfl (by kernel_rfl) (fun _ _ _ h => h) (Or.inl ⟨by rfl, ?_⟩) ?_ ?_
                      rotate_left
                      · intro w'
                        go_simp
                        with_reducible rfl
                      rotate_left
                      · simp only [Act.put, List.setIfInBounds_toArray, List.set_cons_zero, List.set_cons_succ, i64_w, i32_w]
                        rfl
                      refine pure_ (i := 9) (N := some 114) (v := ?_) (a' := ?_) #[true, true, true, true, true, true, true, true, true, true, true, true, false, false, false] rfl rfl (by kernel_rfl) (fun _ _ _ h => h) (Or.inl ⟨by rfl, ?_⟩) ?_ ?_
                      rotate_left
                      · intro w'
                        go_simp
                        with_reducible rfl
                      rotate_left
                      · simp only [Act.put, List.setIfInBounds_toArray, List.set_cons_zero, List.set_cons_succ, i64_w, i32_w]
                        rfl
                      refine norm_ ?_ (hCont (vH, vW, vG, vN, ga, gb) v3 ⟨HVH.out, HVW.out, HVG.out, HVN.out, HB3.out, HGa.out, HGb.out, HXa.out, HXb.out⟩)
                      rfl
                case cont20 =>
                rintro ⟨vH, vW, vG, vN, ga, gb⟩ w6 ⟨hvH, hvW, hvG, hvN, hb, hga, hgb, hxa, hxb⟩
                dsimp only at hvH hvW hvG hvN hga hgb hxa hxb
                simp only [putAll, Act.put, List.setIfInBounds_toArray, List.set_cons_zero, List.set_cons_succ]
                have LT := Aside0.mk (show b7 < wd.heap.size from blk_lt T7.out)
                have LT2 := Aside0.mk (show b8 < wd.heap.size from blk_lt T8.out)
                have LW := Aside0.mk (show w.heap.size ≤ wd.heap.size from B.out.size)
                have HGA := Aside0.mk hga
                have HGB := Aside0.mk hgb
                obtain ⟨xa1, xc1, rfl⟩ := Kd.R_slice hvH
                obtain ⟨xa2, xc2, rfl⟩ := Kd.R_slice hvW
                obtain ⟨ya1, yc1, rfl⟩ := Kd.R_slice hvG
                obtain ⟨ya2, yc2, rfl⟩ := Kd.R_slice hvN
                have T7 := Aside0.mk (blk_below T7.out hb)
                have T8 := Aside0.mk (blk_below T8.out hb)
                have RH := Aside0.mk (Kd.R_below RH.out hb)
                have RW := Aside0.mk (Kd.R_below RW.out hb)
                have RD := Aside0.mk (Kd.R_below RD.out hb)
                have B := Aside0.mk (below_step B.out hb)
                have RX1 := Aside0.mk hvH
                have RX2 := Aside0.mk hvW
                have GA := Aside0.mk hxa
                have GB := Aside0.mk hxb
                clear hga hgb hvH hvW hvG hvN hb hxa hxb hHeld HH RH RW
                have z0 := (blk_cell GA.out 0).trans rfl; have z1 := (blk_cell GA.out 1).trans rfl
                have fz0 := blk_frozen GA.out 0; have fz1 := blk_frozen GA.out 1
                refine last_ (i := 12) (N := none) #[true, true, true, true, true, true, true, true, true, true, true, true, true, false, false] rfl rfl (by kernel_rfl) (by decide) (fun K hK => ?_)
                refine skip_ (w1 := ?_) (by rfl) rfl ?_ ?_
                rotate_left
                · go_simp
                  rfl
                refine hK.out _ _ ?_
                clear hK K z0 z1 fz0 fz1
                have P_ := Aside0.mk (put_two (n := w.heap.size) (w := w) (.slice xa1 X1.length xc1) (.slice xa2 X2.length xc2) GA.out B.out (by have h1 := LW.out; have h2 := HGA.out; omega))
                have T7_ := Aside0.mk (two_far' (.slice xa1 X1.length xc1) (.slice xa2 X2.length xc2) T7.out (show b7 ≠ ga by have h1 := LT.out; have h2 := HGA.out; omega))
                have T8_ := Aside0.mk (two_far (.slice xa1 X1.length xc1) (.slice xa2 X2.length xc2) T8.out GA.out (by decide))
                have GB_ := Aside0.mk (two_far (.slice xa1 X1.length xc1) (.slice xa2 X2.length xc2) GB.out GA.out (by decide))
                have RD_ := Aside0.mk (R_two (.slice xa1 X1.length xc1) (.slice xa2 X2.length xc2) RD.out GA.out (by decide))
                have RX1_ := Aside0.mk (R_two (.slice xa1 X1.length xc1) (.slice xa2 X2.length xc2) RX1.out GA.out (by decide))
                have RX2_ := Aside0.mk (R_two (.slice xa1 X1.length xc1) (.slice xa2 X2.length xc2) RX2.out GA.out (by decide))
                have B_ := Aside0.mk P_.out.2
                have GA_ := Aside0.mk P_.out.1
                clear P_ B T7 T8 GA GB RD RX1 RX2
                generalize ((w6).setCell ⟨ga, 0, none⟩ (.slice xa1 X1.length xc1)).setCell ⟨ga, 1, none⟩ (.slice xa2 X2.length xc2) = w7 at B_ T7_ T8_ GA_ GB_ RD_ RX1_ RX2_ ⊢
                have B := B_
                have T7 := T7_
                have T8 := T8_
                have GA := GA_
                have GB := GB_
                have RD := RD_
                have RX1 := RX1_
                have RX2 := RX2_
                clear B_ T7_ T8_ GA_ GB_ RD_ RX1_ RX2_
                have z0 := (blk_cell GB.out 0).trans rfl; have z1 := (blk_cell GB.out 1).trans rfl
                have fz0 := blk_frozen GB.out 0; have fz1 := blk_frozen GB.out 1
                refine last_ (i := 13) (N := none) #[true, true, true, true, true, true, true, true, true, true, true, true, true, true, false] rfl rfl (by kernel_rfl) (by decide) (fun K hK => ?_)
                refine skip_ (w1 := ?_) (by rfl) rfl ?_ ?_
                rotate_left
                · go_simp
                  rfl
                refine hK.out _ _ ?_
                clear hK K z0 z1 fz0 fz1
                have P_ := Aside0.mk (put_two (n := w.heap.size) (w := w) (.slice ya1 G.length yc1) (.slice ya2 0 yc2) GB.out B.out (by have h1 := LW.out; have h2 := HGB.out; omega))
                have T7_ := Aside0.mk (two_far (.slice ya1 G.length yc1) (.slice ya2 0 yc2) T7.out GB.out (by decide))
                have T8_ := Aside0.mk (two_far (.slice ya1 G.length yc1) (.slice ya2 0 yc2) T8.out GB.out (by decide))
                have GA_ := Aside0.mk (two_far (.slice ya1 G.length yc1) (.slice ya2 0 yc2) GA.out GB.out (by decide))
                have RD_ := Aside0.mk (R_two (.slice ya1 G.length yc1) (.slice ya2 0 yc2) RD.out GB.out (by decide))
                have RX1_ := Aside0.mk (R_two (.slice ya1 G.length yc1) (.slice ya2 0 yc2) RX1.out GB.out (by decide))
                have RX2_ := Aside0.mk (R_two (.slice ya1 G.length yc1) (.slice ya2 0 yc2) RX2.out GB.out (by decide))
                have B_ := Aside0.mk P_.out.2
                have GB_ := Aside0.mk P_.out.1
                clear P_ B T7 T8 GA GB RD RX1 RX2
                generalize ((w7).setCell ⟨gb, 0, none⟩ (.slice ya1 G.length yc1)).setCell ⟨gb, 1, none⟩ (.slice ya2 0 yc2) = w8 at B_ T7_ T8_ GA_ GB_ RD_ RX1_ RX2_ ⊢
                have B := B_
                have T7 := T7_
                have T8 := T8_
                have GA := GA_
                have GB := GB_
                have RD := RD_
                have RX1 := RX1_
                have RX2 := RX2_
                clear B_ T7_ T8_ GA_ GB_ RD_ RX1_ RX2_
                skip
                refine pure_ (i := 14) (N := some 15) (v := ?_) (a' := ?_) #[true, true, true, true, true, true, true, true, true, true, true, true, true, true, true] rfl rfl (by kernel_rfl) (fun _ _ _ h => h) (Or.inl ⟨by rfl, ?_⟩) ?_ ?_
                rotate_left
                · intro w'
                  go_simp
                  with_reducible rfl
                rotate_left
                · simp only [Act.put, List.setIfInBounds_toArray, List.set_cons_zero, List.set_cons_succ, i64_w, i32_w]
                  rfl
                refine done_ (by kernel_rfl) ?_
                have NTA := Aside0.mk (show b7 ≠ ga by have h1 := LT.out; have h2 := HGA.out; omega)
                clear LT LT2 LW HGA HGB
                have x0 := (blk_cell T7.out 0).trans rfl; have x1 := (blk_cell T7.out 1).trans rfl
                have fx0 := blk_frozen T7.out 0; have fx1 := blk_frozen T7.out 1
                have y0 := (blk_cell GA.out 0).trans rfl; have y1 := (blk_cell GA.out 1).trans rfl
                have q0 := (blk_cell GB.out 0).trans rfl; have q1 := (blk_cell GB.out 1).trans rfl
                go_upto_region 18 with (fail)
                clear x0 x1 fx0 fx1 y0 y1 q0 q1
                have P_ := Aside0.mk (put_two (n := w.heap.size) (w := w) (.slice xa1 X1.length xc1) (.slice xa2 X2.length xc2) T7.out B.out (LT7.out))
                have T8_ := Aside0.mk (two_far (.slice xa1 X1.length xc1) (.slice xa2 X2.length xc2) T8.out T7.out (by decide))
                have GA_ := Aside0.mk (two_far' (.slice xa1 X1.length xc1) (.slice xa2 X2.length xc2) GA.out (NTA.out.symm))
                have GB_ := Aside0.mk (two_far (.slice xa1 X1.length xc1) (.slice xa2 X2.length xc2) GB.out T7.out (by decide))
                have RD_ := Aside0.mk (R_two (.slice xa1 X1.length xc1) (.slice xa2 X2.length xc2) RD.out T7.out (by decide))
                have RX1_ := Aside0.mk (R_two (.slice xa1 X1.length xc1) (.slice xa2 X2.length xc2) RX1.out T7.out (by decide))
                have RX2_ := Aside0.mk (R_two (.slice xa1 X1.length xc1) (.slice xa2 X2.length xc2) RX2.out T7.out (by decide))
                have B_ := Aside0.mk P_.out.2
                have T7_ := Aside0.mk P_.out.1
                clear P_ B T7 T8 GA GB RD RX1 RX2
                generalize (w8.setCell ⟨b7, 0, none⟩ (.slice xa1 X1.length xc1)).setCell ⟨b7, 1, none⟩ (.slice xa2 X2.length xc2) = wz at B_ T7_ T8_ GA_ GB_ RD_ RX1_ RX2_ ⊢
                have B := B_
                have T7 := T7_
                have T8 := T8_
                have GA := GA_
                have GB := GB_
                have RD := RD_
                have RX1 := RX1_
                have RX2 := RX2_
                clear B_ T7_ T8_ GA_ GB_ RD_ RX1_ RX2_
                go_wp2
                go_roundg (D.length - (i + 1))
                case measure => have := HI.out; omega
                case rel => exact ⟨i + 1, _, _, by go_num, ⟨by omega⟩, T7, ⟨by rw [HTN.out, HSK.out]; exact RX1.out⟩, ⟨by rw [HTN.out, HSK.out]; exact RX2.out⟩, T8, RD, B⟩
end Go.Proofs.Ytifnfnoicinbaaa.M
