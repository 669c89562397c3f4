/- LockInvariant: the walk. -/
import Derived.Test.YtifnfnoicinbaaaN3
import Derived.Test.YtifnfnoicinbaaaN4
namespace Go.Proofs.Ytifnfnoicinbaaa.M
open Go.RowKit Go.Proofs.YtifnfnoicinbaaaW.PrintWords Go.Proofs.YtifnfnoicinbaaaW.PrintLast Go.Proofs.YtifnfnoicinbaaaW.PrintMore
set_option linter.unusedVariables false
set_option linter.unusedSimpArgs false
set_option linter.unnecessarySimpa false
attribute [local go_sem high] eqA24

set_option maxRecDepth 100000 in
set_option maxHeartbeats 8000000 in
theorem invariant_walk (A : Option Addr) (c : Nat) (l : List S37) (w : World) (hc : l.length ≤ c) (hC : k37.C w A l.length l) (hk : ∀ a ∈ l, 0 ≤ a.f0 ∧ a.f0 ≤ 255) :
    Calls Try.prog 12 #[.slice A l.length c] w fun e w' => e = .returned (.bool true) ∧ Below w.heap.size w w' := by
  have HC := Aside0.mk hC
  have HKD := Aside0.mk hk
  clear hC hk
  go_enter Try.func12, Try.ntmps12
  go_upto_region 1 with (fail)
  by_cases hl : 40 < l.length
  · have h40 : decide ((40 : Int) < (l.length : Int)) = true := by simp; omega
    have HB0 := Aside0.mk (Below.refl w.heap.size w)
    go_wp2_with (fail)
    refine (sane_calls _).mono ?_
    rintro e w9 ⟨rfl, hb9⟩
    have HB9 := Aside0.mk (below_step HB0.out hb9)
    clear hb9
    go_wp2
    go_ret
    exact ⟨rfl, HB9.out⟩
  have h40 : decide ((40 : Int) < (l.length : Int)) = false := by simp; omega
  go_upto_region 4 with (fail)
  have hb_ := below_alloc (Below.refl _ w) (.cells #[.slice none 0 0, .slice none 0 0] 29)
  have hG0_ := blk_lit0 w (.cells #[.slice none 0 0, .slice none 0 0] 29)
  generalize (w.alloc (.cells #[.slice none 0 0, .slice none 0 0] 29)) = W at hb_ hG0_ ⊢
  have HB_W := Aside0.mk hb_
  have W0 := Aside0.mk hG0_
  clear hb_ hG0_
  go_wp2
  go_loopg [4] l.length (fun kq v4 w' => ∃ (j : Nat) (vH vW : Value), v4 = .int .i64 j ∧ Aside0 (kq + j = l.length) ∧ Aside0 (w'.heap[w.heap.size]? = some (.cells #[vH, vW] 29 (0, 0))) ∧ Aside0 (k24.R 24 w' w.heap.size (fun _ => True) vH (playF (l.take j)).1) ∧ Aside0 (k24.R 24 w' w.heap.size (fun _ => True) vW (playF (l.take j)).2) ∧ Aside0 (Below w.heap.size w w'))
  case atStart => exact ⟨0, _, _, rfl, ⟨rfl⟩, W0, ⟨Kd.R_nil _ _ _ _ _⟩, ⟨Kd.R_nil _ _ _ _ _⟩, HB_W⟩
  case round =>
    obtain ⟨j, vH, vW, rfl, HJ, T, RH, RW, B⟩ := hrel
    by_cases hlt : j < l.length
    rotate_left
    · have h1 : decide (j < l.length) = false := by simpa using hlt
      have h1' : decide ((j : Int) < (l.length : Int)) = false := by simpa using hlt
      go_wp2_with (fail)
      refine (sane_calls _).mono ?_
      rintro e w9 ⟨rfl, hb9⟩
      have HB9 := Aside0.mk (below_step B.out hb9)
      clear hb9
      go_wp2
      go_ret
      exact ⟨rfl, HB9.out⟩
    have h1 : decide (j < l.length) = true := by simpa using hlt
    have h1' : decide ((j : Int) < (l.length : Int)) = true := by simpa using hlt
    have hjc : j ≤ c := by omega
    have HST := Aside0.mk (play_step hlt)
    have HIN := Aside0.mk (play_inv (l.take j))
    have HPL := Aside0.mk (play_len (l.take j))
    have HKK := Aside0.mk (HKD.out (rd_T37 l j) (rd37_mem hlt))
    generalize playF (l.take j) = P at RH RW HST HPL HIN
    obtain ⟨PH, PW⟩ := P
    have HXI := Aside0.mk (next_inv (t := (PH, PW)) (a := rd_T37 l j) HIN.out)
    generalize hX : nextT (PH, PW) (rd_T37 l j) = X at HST HXI
    obtain ⟨X1, X2⟩ := X
    generalize hG : newsT (PH, PW) (rd_T37 l j) = GN
    obtain ⟨G, N⟩ := GN
    have HNK := Aside0.mk (news_known (t := (PH, PW)) (a := rd_T37 l j) HIN.out)
    have HNL := Aside0.mk (news_len (t := (PH, PW)) (a := rd_T37 l j) HIN.out)
    have HNO := Aside0.mk (news_ok (t := (PH, PW)) (a := rd_T37 l j))
    rw [hG] at HNK HNL HNO
    dsimp only at HNK HNL HNO
    have HX := Aside0.mk hX
    have HG := Aside0.mk hG
    clear hX hG
    dsimp only at RH RW HPL
    obtain ⟨A1, c1, rfl⟩ := Kd.R_slice RH.out
    obtain ⟨A2, c2, rfl⟩ := Kd.R_slice RW.out
    go_upto_region 7 with (fail)
    obtain ⟨ad, had, x0, x1, x2, x3, x4, x5⟩ := at_T37 (Kd.C_below HC.out B.out) (j : Int) (by omega) (by omega)
    cases had
    simp only [Int.toNat_natCast] at x0 x1 x2 x3 x4 x5
    refine start_ (n := 15) (S := fun w' => w'.cell? ⟨w.heap.size, 0, none⟩ = some (.slice A1 PH.length c1) ∧ w'.cell? ⟨w.heap.size, 1, none⟩ = some (.slice A2 PW.length c2) ∧ w'.cell? (ad.add (j * 6)) = some (.int .u8 (rd_T37 l (j : Int)).f0) ∧ w'.cell? ⟨(ad.add (j * 6)).block, (ad.add (j * 6)).off + 1, none⟩ = some (.int .i64 (rd_T37 l (j : Int)).f1.f0) ∧ w'.cell? ⟨(ad.add (j * 6)).block, (ad.add (j * 6)).off + 2, none⟩ = some (.int .i64 (rd_T37 l (j : Int)).f1.f1) ∧ w'.cell? ⟨(ad.add (j * 6)).block, (ad.add (j * 6)).off + 3, none⟩ = some (.int .i64 (rd_T37 l (j : Int)).f1.f2) ∧ w'.cell? ⟨(ad.add (j * 6)).block, (ad.add (j * 6)).off + 4, none⟩ = some (.int .i64 (rd_T37 l (j : Int)).f1.f3) ∧ w'.cell? ⟨(ad.add (j * 6)).block, (ad.add (j * 6)).off + 5, none⟩ = some (.bool (rd_T37 l (j : Int)).f1.f4)) (ds := [12, 13]) #[false, false, false, false, false, false, false, false, false, false, false, false, false, false, false] (by kernel_rfl) rfl rfl ⟨(blk_cell T.out 0).trans rfl, (blk_cell T.out 1).trans rfl, x0, x1, x2, x3, x4, x5⟩ (fun hHeld => ?_)
    have hbd := below_drew1 (Below.refl wr.heap.size wr)
    have T := Aside0.mk (blk_below T.out hbd)
    have RH := Aside0.mk (Kd.R_below RH.out hbd)
    have RW := Aside0.mk (Kd.R_below RW.out hbd)
    have B := Aside0.mk (below_step B.out hbd)
    clear hbd
    generalize wr.drew = wd at B T RH RW  hHeld ⊢
    have HH := Aside0.mk hHeld
    clear x0 x1 x2 x3 x4 x5
    refine take_ (i := 0) (N := some 26) (v := ?_) (a' := ?_) #[true, false, false, false, false, false, false, false, false, false, false, false, false, false, false] rfl rfl (by kernel_rfl) (fun _ _ _ h => h) (Or.inl ⟨by rfl, ?_⟩) hHeld ?_ ?_
    rotate_left
    · rintro w' ⟨s0, s1, s2, s3, s4, s5, s6, s7⟩
      go_simp
      with_reducible rfl
    rotate_left
    · simp only [Act.put, List.setIfInBounds_toArray, List.set_cons_zero, List.set_cons_succ, i64_w, i32_w]
      rfl
    refine pure_ (i := 1) (N := some 27) (v := ?_) (a' := ?_) #[true, true, false, false, false, false, false, false, false, false, false, false, false, false, false] rfl rfl (by kernel_rfl) (fun _ _ _ h => h) (Or.inl ⟨by rfl, ?_⟩) ?_ ?_
    rotate_left
    · intro w'
      go_simp
      with_reducible rfl
    rotate_left
    · simp only [Act.put, List.setIfInBounds_toArray, List.set_cons_zero, List.set_cons_succ, i64_w, i32_w]
      rfl
    refine pure_ (i := 2) (N := some 28) (v := ?_) (a' := ?_) #[true, true, true, false, false, false, false, false, false, false, false, false, false, false, false] rfl rfl (by kernel_rfl) (fun _ _ _ h => h) (Or.inl ⟨by rfl, ?_⟩) ?_ ?_
    rotate_left
    · intro w'
      go_simp
      with_reducible rfl
    rotate_left
    · simp only [Act.put, List.setIfInBounds_toArray, List.set_cons_zero, List.set_cons_succ, i64_w, i32_w]
      rfl
    refine pure_ (i := 3) (N := some 29) (v := ?_) (a' := ?_) #[true, true, true, true, false, false, false, false, false, false, false, false, false, false, false] rfl rfl (by kernel_rfl) (fun _ _ _ h => h) (Or.inl ⟨by rfl, ?_⟩) ?_ ?_
    rotate_left
    · intro w'
      go_simp
      with_reducible rfl
    rotate_left
    · simp only [Act.put, List.setIfInBounds_toArray, List.set_cons_zero, List.set_cons_succ, i64_w, i32_w]
      rfl
    refine take_ (i := 4) (N := some 30) (v := ?_) (a' := ?_) #[true, true, true, true, true, false, false, false, false, false, false, false, false, false, false] rfl rfl (by kernel_rfl) (fun _ _ _ h => h) (Or.inl ⟨by rfl, ?_⟩) hHeld ?_ ?_
    rotate_left
    · rintro w' ⟨s0, s1, s2, s3, s4, s5, s6, s7⟩
      go_simp
      with_reducible rfl
    rotate_left
    · simp only [Act.put, List.setIfInBounds_toArray, List.set_cons_zero, List.set_cons_succ, i64_w, i32_w]
      rfl
    refine join_ (σ := Value × Value × Value × Value × Nat × Nat) 3 #[true, true, true, true, true, true, true, true, true, true, true, true, false, false, false] (fun s => [(31, .tuple #[.agg #[s.1, s.2.1], .agg #[s.2.2.1, s.2.2.2.1], .bool (decide ((doneR PH PW (rd_T37 l (j : Int))).2 = 0))]), (25, .tuple #[.agg #[s.1, s.2.1], .agg #[s.2.2.1, s.2.2.2.1], .bool (decide ((doneR PH PW (rd_T37 l (j : Int))).2 = 0))]), (32, .agg #[s.1, s.2.1]), (33, .agg #[s.2.2.1, s.2.2.2.1]), (34, .bool (decide ((doneR PH PW (rd_T37 l (j : Int))).2 = 0))), (5, .pointer (some ⟨s.2.2.2.2.1, 0, none⟩)), (6, .pointer (some ⟨s.2.2.2.2.2, 0, none⟩))]) (fun s w' => k24.R 24 w' w.heap.size (fun _ => True) s.1 X1 ∧ k24.R 24 w' w.heap.size (fun _ => True) s.2.1 X2 ∧ kI.R 3 w' w.heap.size (fun _ => True) s.2.2.1 G ∧ kI.R 3 w' w.heap.size (fun _ => True) s.2.2.2.1 N ∧ Below wd.heap.size wd w' ∧ wd.heap.size ≤ s.2.2.2.2.1 ∧ wd.heap.size ≤ s.2.2.2.2.2 ∧ w'.heap[s.2.2.2.2.1]? = some (.cells #[.slice none 0 0, .slice none 0 0] 29 (0, 0)) ∧ w'.heap[s.2.2.2.2.2]? = some (.cells #[.slice none 0 0, .slice none 0 0] 33 (0, 0))) ?cont7 ?orders7
    case orders7 =>
      intro hCont
      refine three_ (i := 5) (j := 10) (k := 11) (Ni := some 31) (Nj := some 5) (Nk := some 6) #[true, true, true, true, true, true, false, false, false, false, false, false, false, false, false] #[true, true, true, true, true, false, false, false, false, false, true, false, false, false, false] #[true, true, true, true, true, false, false, false, false, false, false, true, false, false, false] rfl rfl rfl rfl rfl rfl (by kernel_rfl) (by decide) (by decide) (by decide) (fun K hK => ?_) (fun K hK => ?_) (fun K hK => ?_)
      · refine goes_ Try.func17 (by kernel_rfl) rfl #[.agg #[.slice A1 PH.length c1, .slice A2 PW.length c2], .agg #[.int .u8 (rd_T37 l (j : Int)).f0, .int .i64 (rd_T37 l (j : Int)).f1.f0, .int .i64 (rd_T37 l (j : Int)).f1.f1, .int .i64 (rd_T37 l (j : Int)).f1.f2, .int .i64 (rd_T37 l (j : Int)).f1.f3, .bool (rd_T37 l (j : Int)).f1.f4]] (by rfl) rfl rfl (by (try simp only [List.map_toArray, List.map_cons, List.map_nil]); first | done | rfl) ?_
        refine (doneT_calls w.heap.size A1 A2 c1 c2 PH PW (rd_T37 l (j : Int)) _ RH.out RW.out B.out.size HPL.out HKK.out.1 HKK.out.2).mono ?_
        rintro e v1 ⟨vH, vW, vG, vN, rfl, hvH, hvW, hvG, hvN, hb⟩
        rw [HX.out] at hvH hvW
        rw [HG.out] at hvG hvN
        refine ⟨_, rfl, ?_⟩
        have HVH := Aside0.mk hvH
        have HVW := Aside0.mk hvW
        have HVG := Aside0.mk hvG
        have HVN := Aside0.mk hvN
        clear hvH hvW hvG hvN
        have HB1 := Aside0.mk hb
        clear hb
        skip
        refine hK.out _ _ (held8 HB1.out HH.out) (fun hHeld => ?_)
        clear hK K
        refine norm_ (a' := ?_) ?_ ?_
        rotate_left
        · show Act.put _ (some 31) _ = _
          simp only [Act.put, List.setIfInBounds_toArray, List.set_cons_zero, List.set_cons_succ, i64_w, i32_w]
          rfl
        refine pure_ (i := 6) (N := some 25) (v := ?_) (a' := ?_) #[true, true, true, true, true, true, true, false, false, false, false, false, false, false, false] rfl rfl (by kernel_rfl) (fun _ _ _ h => h) (Or.inl ⟨by rfl, ?_⟩) ?_ ?_
        rotate_left
        · intro w'
          go_simp
          with_reducible rfl
        rotate_left
        · simp only [Act.put, List.setIfInBounds_toArray, List.set_cons_zero, List.set_cons_succ, i64_w, i32_w]
          rfl
        refine pure_ (i := 7) (N := some 32) (v := ?_) (a' := ?_) #[true, true, true, true, true, true, true, true, false, false, false, false, false, false, false] rfl rfl (by kernel_rfl) (fun _ _ _ h => h) (Or.inl ⟨by rfl, ?_⟩) ?_ ?_
        rotate_left
        · intro w'
          go_simp
          with_reducible rfl
        rotate_left
        · simp only [Act.put, List.setIfInBounds_toArray, List.set_cons_zero, List.set_cons_succ, i64_w, i32_w]
          rfl
        refine pure_ (i := 8) (N := some 33) (v := ?_) (a' := ?_) #[true, true, true, true, true, true, true, true, true, false, false, false, false, false, false] rfl rfl (by kernel_rfl) (fun _ _ _ h => h) (Or.inl ⟨by rfl, ?_⟩) ?_ ?_
        rotate_left
        · intro w'
          go_simp
          with_reducible rfl
        rotate_left
        · simp only [Act.put, List.setIfInBounds_toArray, List.set_cons_zero, List.set_cons_succ, i64_w, i32_w]
          rfl
        refine pure_ (i := 9) (N := some 34) (v := ?_) (a' := ?_) #[true, true, true, true, true, true, true, true, true, true, false, false, false, false, false] rfl rfl (by kernel_rfl) (fun _ _ _ h => h) (Or.inl ⟨by rfl, ?_⟩) ?_ ?_
        rotate_left
        · intro w'
          go_simp
          with_reducible rfl
        rotate_left
        · simp only [Act.put, List.setIfInBounds_toArray, List.set_cons_zero, List.set_cons_succ, i64_w, i32_w]
          rfl
        refine two_ (i := 10) (j := 11) (Ni := some 5) (Nj := some 6) #[true, true, true, true, true, true, true, true, true, true, true, false, false, false, false] #[true, true, true, true, true, true, true, true, true, true, false, true, false, false, false] rfl rfl rfl rfl (by kernel_rfl) (by decide) (by decide) (fun K hK => ?_) (fun K hK => ?_)
        · refine box_step ?hg (N := 5) ?hd (cs := #[.slice none 0 0, .slice none 0 0]) (t := 29) ?hr ?_
          (case hd => rfl)
          (case hg => rfl)
          (case hr => first | (go_simp; done) | (go_simp; rfl))
          intro ga hga v2 hbox hb
          have HXa := Aside0.mk hbox
          have HGa := Aside0.mk (show wd.heap.size ≤ ga from Nat.le_trans HB1.out.size (Nat.le_of_eq hga.symm))
          clear hbox hga
          have HVH := Aside0.mk (Kd.R_below HVH.out hb)
          have HVW := Aside0.mk (Kd.R_below HVW.out hb)
          have HVG := Aside0.mk (Kd.R_below HVG.out hb)
          have HVN := Aside0.mk (Kd.R_below HVN.out hb)
          have HB2 := Aside0.mk (below_step HB1.out hb)
          clear hb
          skip
          refine hK.out _ _ (held8 HB2.out HH.out) (fun hHeld => ?_)
          clear hK K
          refine norm_ (a' := ?_) ?_ ?_
          rotate_left
          · show Act.put _ (some 5) _ = _
            simp only [Act.put, List.setIfInBounds_toArray, List.set_cons_zero, List.set_cons_succ, i64_w, i32_w]
            rfl
          skip
          refine one_ (i := 11) (N := some 6) #[true, true, true, true, true, true, true, true, true, true, true, true, false, false, false] rfl rfl (by kernel_rfl) (by decide) (fun K hK => ?_)
          refine box_step ?hg (N := 6) ?hd (cs := #[.slice none 0 0, .slice none 0 0]) (t := 33) ?hr ?_
          (case hd => rfl)
          (case hg => rfl)
          (case hr => first | (go_simp; done) | (go_simp; rfl))
          intro gb hgb v3 hbox hb
          have HXb := Aside0.mk hbox
          have HGb := Aside0.mk (show wd.heap.size ≤ gb from Nat.le_trans HB2.out.size (Nat.le_of_eq hgb.symm))
          clear hbox hgb
          have HVH := Aside0.mk (Kd.R_below HVH.out hb)
          have HVW := Aside0.mk (Kd.R_below HVW.out hb)
          have HVG := Aside0.mk (Kd.R_below HVG.out hb)
          have HVN := Aside0.mk (Kd.R_below HVN.out hb)
          have HXa := Aside0.mk (blk_below HXa.out hb)
          have HB3 := Aside0.mk (below_step HB2.out hb)
          clear hb
          skip
          refine hK.out _ _ (held8 HB3.out HH.out) (fun hHeld => ?_)
          clear hK K
          refine norm_ ?_ (hCont (vH, vW, vG, vN, ga, gb) v3 ⟨HVH.out, HVW.out, HVG.out, HVN.out, HB3.out, HGa.out, HGb.out, HXa.out, HXb.out⟩)
          rfl
        · refine box_step ?hg (N := 6) ?hd (cs := #[.slice none 0 0, .slice none 0 0]) (t := 33) ?hr ?_
          (case hd => rfl)
          (case hg => rfl)
          (case hr => first | (go_simp; done) | (go_simp; rfl))
          intro gb hgb v2 hbox hb
          have HXb := Aside0.mk hbox
          have HGb := Aside0.mk (show wd.heap.size ≤ gb from Nat.le_trans HB1.out.size (Nat.le_of_eq hgb.symm))
          clear hbox hgb
          have HVH := Aside0.mk (Kd.R_below HVH.out hb)
          have HVW := Aside0.mk (Kd.R_below HVW.out hb)
          have HVG := Aside0.mk (Kd.R_below HVG.out hb)
          have HVN := Aside0.mk (Kd.R_below HVN.out hb)
          have HB2 := Aside0.mk (below_step HB1.out hb)
          clear hb
          skip
          refine hK.out _ _ (held8 HB2.out HH.out) (fun hHeld => ?_)
          clear hK K
          refine norm_ (a' := ?_) ?_ ?_
          rotate_left
          · show Act.put _ (some 6) _ = _
            simp only [Act.put, List.setIfInBounds_toArray, List.set_cons_zero, List.set_cons_succ, i64_w, i32_w]
            rfl
          skip
          refine one_ (i := 10) (N := some 5) #[true, true, true, true, true, true, true, true, true, true, true, true, false, false, false] rfl rfl (by kernel_rfl) (by decide) (fun K hK => ?_)
          refine box_step ?hg (N := 5) ?hd (cs := #[.slice none 0 0, .slice none 0 0]) (t := 29) ?hr ?_
          (case hd => rfl)
          (case hg => rfl)
          (case hr => first | (go_simp; done) | (go_simp; rfl))
          intro ga hga v3 hbox hb
          have HXa := Aside0.mk hbox
          have HGa := Aside0.mk (show wd.heap.size ≤ ga from Nat.le_trans HB2.out.size (Nat.le_of_eq hga.symm))
          clear hbox hga
          have HVH := Aside0.mk (Kd.R_below HVH.out hb)
          have HVW := Aside0.mk (Kd.R_below HVW.out hb)
          have HVG := Aside0.mk (Kd.R_below HVG.out hb)
          have HVN := Aside0.mk (Kd.R_below HVN.out hb)
          have HXb := Aside0.mk (blk_below HXb.out hb)
          have HB3 := Aside0.mk (below_step HB2.out hb)
          clear hb
          skip
          refine hK.out _ _ (held8 HB3.out HH.out) (fun hHeld => ?_)
          clear hK K
          refine norm_ ?_ (hCont (vH, vW, vG, vN, ga, gb) v3 ⟨HVH.out, HVW.out, HVG.out, HVN.out, HB3.out, HGa.out, HGb.out, HXa.out, HXb.out⟩)
          rfl
      · refine box_step ?hg (N := 5) ?hd (cs := #[.slice none 0 0, .slice none 0 0]) (t := 29) ?hr ?_
        (case hd => rfl)
        (case hg => rfl)
        (case hr => first | (go_simp; done) | (go_simp; rfl))
        intro ga hga v1 hbox hb
        have HXa := Aside0.mk hbox
        have HGa := Aside0.mk (show wd.heap.size ≤ ga from Nat.le_of_eq hga.symm)
        clear hbox hga
        have HB1 := Aside0.mk hb
        clear hb
        skip
        refine hK.out _ _ (held8 HB1.out HH.out) (fun hHeld => ?_)
        clear hK K
        refine norm_ (a' := ?_) ?_ ?_
        rotate_left
        · show Act.put _ (some 5) _ = _
          simp only [Act.put, List.setIfInBounds_toArray, List.set_cons_zero, List.set_cons_succ, i64_w, i32_w]
          rfl
        refine two_ (i := 5) (j := 11) (Ni := some 31) (Nj := some 6) #[true, true, true, true, true, true, false, false, false, false, true, false, false, false, false] #[true, true, true, true, true, false, false, false, false, false, true, true, false, false, false] rfl rfl rfl rfl (by kernel_rfl) (by decide) (by decide) (fun K hK => ?_) (fun K hK => ?_)
        · refine goes_ Try.func17 (by kernel_rfl) rfl #[.agg #[.slice A1 PH.length c1, .slice A2 PW.length c2], .agg #[.int .u8 (rd_T37 l (j : Int)).f0, .int .i64 (rd_T37 l (j : Int)).f1.f0, .int .i64 (rd_T37 l (j : Int)).f1.f1, .int .i64 (rd_T37 l (j : Int)).f1.f2, .int .i64 (rd_T37 l (j : Int)).f1.f3, .bool (rd_T37 l (j : Int)).f1.f4]] (by rfl) rfl rfl (by (try simp only [List.map_toArray, List.map_cons, List.map_nil]); first | done | rfl) ?_
          refine (doneT_calls w.heap.size A1 A2 c1 c2 PH PW (rd_T37 l (j : Int)) _ (Kd.R_below RH.out HB1.out) (Kd.R_below RW.out HB1.out) (Nat.le_trans B.out.size HB1.out.size) HPL.out HKK.out.1 HKK.out.2).mono ?_
          rintro e v2 ⟨vH, vW, vG, vN, rfl, hvH, hvW, hvG, hvN, hb⟩
          rw [HX.out] at hvH hvW
          rw [HG.out] at hvG hvN
          refine ⟨_, rfl, ?_⟩
          have HVH := Aside0.mk hvH
          have HVW := Aside0.mk hvW
          have HVG := Aside0.mk hvG
          have HVN := Aside0.mk hvN
          clear hvH hvW hvG hvN
          have HXa := Aside0.mk (blk_below HXa.out hb)
          have HB2 := Aside0.mk (below_step HB1.out hb)
          clear hb
          skip
          refine hK.out _ _ (held8 HB2.out HH.out) (fun hHeld => ?_)
          clear hK K
          refine norm_ (a' := ?_) ?_ ?_
          rotate_left
          · show Act.put _ (some 31) _ = _
            simp only [Act.put, List.setIfInBounds_toArray, List.set_cons_zero, List.set_cons_succ, i64_w, i32_w]
            rfl
          refine pure_ (i := 6) (N := some 25) (v := ?_) (a' := ?_) #[true, true, true, true, true, true, true, false, false, false, true, false, false, false, false] rfl rfl (by kernel_rfl) (fun _ _ _ h => h) (Or.inl ⟨by rfl, ?_⟩) ?_ ?_
          rotate_left
          · intro w'
            go_simp
            with_reducible rfl
          rotate_left
          · simp only [Act.put, List.setIfInBounds_toArray, List.set_cons_zero, List.set_cons_succ, i64_w, i32_w]
            rfl
          refine pure_ (i := 7) (N := some 32) (v := ?_) (a' := ?_) #[true, true, true, true, true, true, true, true, false, false, true, false, false, false, false] rfl rfl (by kernel_rfl) (fun _ _ _ h => h) (Or.inl ⟨by rfl, ?_⟩) ?_ ?_
          rotate_left
          · intro w'
            go_simp
            with_reducible rfl
          rotate_left
          · simp only [Act.put, List.setIfInBounds_toArray, List.set_cons_zero, List.set_cons_succ, i64_w, i32_w]
            rfl
          refine pure_ (i := 8) (N := some 33) (v := ?_) (a' := ?_) #[true, true, true, true, true, true, true, true, true, false, true, false, false, false, false] rfl rfl (by kernel_rfl) (fun _ _ _ h => h) (Or.inl ⟨by rfl, ?_⟩) ?_ ?_
          rotate_left
          · intro w'
            go_simp
            with_reducible rfl
          rotate_left
          · simp only [Act.put, List.setIfInBounds_toArray, List.set_cons_zero, List.set_cons_succ, i64_w, i32_w]
            rfl
          refine pure_ (i := 9) (N := some 34) (v := ?_) (a' := ?_) #[true, true, true, true, true, true, true, true, true, true, true, false, false, false, false] rfl rfl (by kernel_rfl) (fun _ _ _ h => h) (Or.inl ⟨by rfl, ?_⟩) ?_ ?_
          rotate_left
          · intro w'
            go_simp
            with_reducible rfl
          rotate_left
          · simp only [Act.put, List.setIfInBounds_toArray, List.set_cons_zero, List.set_cons_succ, i64_w, i32_w]
            rfl
          skip
          refine one_ (i := 11) (N := some 6) #[true, true, true, true, true, true, true, true, true, true, true, true, false, false, false] rfl rfl (by kernel_rfl) (by decide) (fun K hK => ?_)
          refine box_step ?hg (N := 6) ?hd (cs := #[.slice none 0 0, .slice none 0 0]) (t := 33) ?hr ?_
          (case hd => rfl)
          (case hg => rfl)
          (case hr => first | (go_simp; done) | (go_simp; rfl))
          intro gb hgb v3 hbox hb
          have HXb := Aside0.mk hbox
          have HGb := Aside0.mk (show wd.heap.size ≤ gb from Nat.le_trans HB2.out.size (Nat.le_of_eq hgb.symm))
          clear hbox hgb
          have HVH := Aside0.mk (Kd.R_below HVH.out hb)
          have HVW := Aside0.mk (Kd.R_below HVW.out hb)
          have HVG := Aside0.mk (Kd.R_below HVG.out hb)
          have HVN := Aside0.mk (Kd.R_below HVN.out hb)
          have HXa := Aside0.mk (blk_below HXa.out hb)
          have HB3 := Aside0.mk (below_step HB2.out hb)
          clear hb
          skip
          refine hK.out _ _ (held8 HB3.out HH.out) (fun hHeld => ?_)
          clear hK K
          refine norm_ ?_ (hCont (vH, vW, vG, vN, ga, gb) v3 ⟨HVH.out, HVW.out, HVG.out, HVN.out, HB3.out, HGa.out, HGb.out, HXa.out, HXb.out⟩)
          rfl
        · refine box_step ?hg (N := 6) ?hd (cs := #[.slice none 0 0, .slice none 0 0]) (t := 33) ?hr ?_
          (case hd => rfl)
          (case hg => rfl)
          (case hr => first | (go_simp; done) | (go_simp; rfl))
          intro gb hgb v2 hbox hb
          have HXb := Aside0.mk hbox
          have HGb := Aside0.mk (show wd.heap.size ≤ gb from Nat.le_trans HB1.out.size (Nat.le_of_eq hgb.symm))
          clear hbox hgb
          have HXa := Aside0.mk (blk_below HXa.out hb)
          have HB2 := Aside0.mk (below_step HB1.out hb)
          clear hb
          skip
          refine hK.out _ _ (held8 HB2.out HH.out) (fun hHeld => ?_)
          clear hK K
          refine norm_ (a' := ?_) ?_ ?_
          rotate_left
          · show Act.put _ (some 6) _ = _
            simp only [Act.put, List.setIfInBounds_toArray, List.set_cons_zero, List.set_cons_succ, i64_w, i32_w]
            rfl
          skip
          refine one_ (i := 5) (N := some 31) #[true, true, true, true, true, true, false, false, false, false, true, true, false, false, false] rfl rfl (by kernel_rfl) (by decide) (fun K hK => ?_)
          refine goes_ Try.func17 (by kernel_rfl) rfl #[.agg #[.slice A1 PH.length c1, .slice A2 PW.length c2], .agg #[.int .u8 (rd_T37 l (j : Int)).f0, .int .i64 (rd_T37 l (j : Int)).f1.f0, .int .i64 (rd_T37 l (j : Int)).f1.f1, .int .i64 (rd_T37 l (j : Int)).f1.f2, .int .i64 (rd_T37 l (j : Int)).f1.f3, .bool (rd_T37 l (j : Int)).f1.f4]] (by rfl) rfl rfl (by (try simp only [List.map_toArray, List.map_cons, List.map_nil]); first | done | rfl) ?_
          refine (doneT_calls w.heap.size A1 A2 c1 c2 PH PW (rd_T37 l (j : Int)) _ (Kd.R_below RH.out HB2.out) (Kd.R_below RW.out HB2.out) (Nat.le_trans B.out.size HB2.out.size) HPL.out HKK.out.1 HKK.out.2).mono ?_
          rintro e v3 ⟨vH, vW, vG, vN, rfl, hvH, hvW, hvG, hvN, hb⟩
          rw [HX.out] at hvH hvW
          rw [HG.out] at hvG hvN
          refine ⟨_, rfl, ?_⟩
          have HVH := Aside0.mk hvH
          have HVW := Aside0.mk hvW
          have HVG := Aside0.mk hvG
          have HVN := Aside0.mk hvN
          clear hvH hvW hvG hvN
          have HXa := Aside0.mk (blk_below HXa.out hb)
          have HXb := Aside0.mk (blk_below HXb.out hb)
          have HB3 := Aside0.mk (below_step HB2.out hb)
          clear hb
          skip
          refine hK.out _ _ (held8 HB3.out HH.out) (fun hHeld => ?_)
          clear hK K
          refine norm_ (a' := ?_) ?_ ?_
          rotate_left
          · show Act.put _ (some 31) _ = _
            simp only [Act.put, List.setIfInBounds_toArray, List.set_cons_zero, List.set_cons_succ, i64_w, i32_w]
            rfl
          refine pure_ (i := 6) (N := some 25) (v := ?_) (a' := ?_) #[true, true, true, true, true, true, true, false, false, false, true, true, false, false, false] rfl rfl (by kernel_rfl) (fun _ _ _ h => h) (Or.inl ⟨by rfl, ?_⟩) ?_ ?_
          rotate_left
          · intro w'
            go_simp
            with_reducible rfl
          rotate_left
          · simp only [Act.put, List.setIfInBounds_toArray, List.set_cons_zero, List.set_cons_succ, i64_w, i32_w]
            rfl
          refine pure_ (i := 7) (N := some 32) (v := ?_) (a' := ?_) #[true, true, true, true, true, true, true, true, false, false, true, true, false, false, false] rfl rfl (by kernel_rfl) (fun _ _ _ h => h) (Or.inl ⟨by rfl, ?_⟩) ?_ ?_
          rotate_left
          · intro w'
            go_simp
            with_reducible rfl
          rotate_left
          · simp only [Act.put, List.setIfInBounds_toArray, List.set_cons_zero, List.set_cons_succ, i64_w, i32_w]
            rfl
          refine pure_ (i := 8) (N := some 33) (v := ?_) (a' := ?_) #[true, true, true, true, true, true, true, true, true, false, true, true, false, false, false] rfl rfl (by kernel_rfl) (fun _ _ _ h => h) (Or.inl ⟨by rfl, ?_⟩) ?_ ?_
          rotate_left
          · intro w'
            go_simp
            with_reducible rfl
          rotate_left
          · simp only [Act.put, List.setIfInBounds_toArray, List.set_cons_zero, List.set_cons_succ, i64_w, i32_w]
            rfl
          refine pure_ (i := 9) (N := some 34) (v := ?_) (a' := ?_) #[true, true, true, true, true, true, true, true, true, true, true, true, false, false, false] rfl rfl (by kernel_rfl) (fun _ _ _ h => h) (Or.inl ⟨by rfl, ?_⟩) ?_ ?_
          rotate_left
          · intro w'
            go_simp
            with_reducible rfl
          rotate_left
          · simp only [Act.put, List.setIfInBounds_toArray, List.set_cons_zero, List.set_cons_succ, i64_w, i32_w]
            rfl
          refine norm_ ?_ (hCont (vH, vW, vG, vN, ga, gb) v3 ⟨HVH.out, HVW.out, HVG.out, HVN.out, HB3.out, HGa.out, HGb.out, HXa.out, HXb.out⟩)
          rfl
      · refine box_step ?hg (N := 6) ?hd (cs := #[.slice none 0 0, .slice none 0 0]) (t := 33) ?hr ?_
        (case hd => rfl)
        (case hg => rfl)
        (case hr => first | (go_simp; done) | (go_simp; rfl))
        intro gb hgb v1 hbox hb
        have HXb := Aside0.mk hbox
        have HGb := Aside0.mk (show wd.heap.size ≤ gb from Nat.le_of_eq hgb.symm)
        clear hbox hgb
        have HB1 := Aside0.mk hb
        clear hb
        skip
        refine hK.out _ _ (held8 HB1.out HH.out) (fun hHeld => ?_)
        clear hK K
        refine norm_ (a' := ?_) ?_ ?_
        rotate_left
        · show Act.put _ (some 6) _ = _
          simp only [Act.put, List.setIfInBounds_toArray, List.set_cons_zero, List.set_cons_succ, i64_w, i32_w]
          rfl
        refine two_ (i := 5) (j := 10) (Ni := some 31) (Nj := some 5) #[true, true, true, true, true, true, false, false, false, false, false, true, false, false, false] #[true, true, true, true, true, false, false, false, false, false, true, true, false, false, false] rfl rfl rfl rfl (by kernel_rfl) (by decide) (by decide) (fun K hK => ?_) (fun K hK => ?_)
        · refine goes_ Try.func17 (by kernel_rfl) rfl #[.agg #[.slice A1 PH.length c1, .slice A2 PW.length c2], .agg #[.int .u8 (rd_T37 l (j : Int)).f0, .int .i64 (rd_T37 l (j : Int)).f1.f0, .int .i64 (rd_T37 l (j : Int)).f1.f1, .int .i64 (rd_T37 l (j : Int)).f1.f2, .int .i64 (rd_T37 l (j : Int)).f1.f3, .bool (rd_T37 l (j : Int)).f1.f4]] (by rfl) rfl rfl (by (try simp only [List.map_toArray, List.map_cons, List.map_nil]); first | done | rfl) ?_
          refine (doneT_calls w.heap.size A1 A2 c1 c2 PH PW (rd_T37 l (j : Int)) _ (Kd.R_below RH.out HB1.out) (Kd.R_below RW.out HB1.out) (Nat.le_trans B.out.size HB1.out.size) HPL.out HKK.out.1 HKK.out.2).mono ?_
          rintro e v2 ⟨vH, vW, vG, vN, rfl, hvH, hvW, hvG, hvN, hb⟩
          rw [HX.out] at hvH hvW
          rw [HG.out] at hvG hvN
          refine ⟨_, rfl, ?_⟩
          have HVH := Aside0.mk hvH
          have HVW := Aside0.mk hvW
          have HVG := Aside0.mk hvG
          have HVN := Aside0.mk hvN
          clear hvH hvW hvG hvN
          have HXb := Aside0.mk (blk_below HXb.out hb)
          have HB2 := Aside0.mk (below_step HB1.out hb)
          clear hb
          skip
          refine hK.out _ _ (held8 HB2.out HH.out) (fun hHeld => ?_)
          clear hK K
          refine norm_ (a' := ?_) ?_ ?_
          rotate_left
          · show Act.put _ (some 31) _ = _
            simp only [Act.put, List.setIfInBounds_toArray, List.set_cons_zero, List.set_cons_succ, i64_w, i32_w]
            rfl
          refine pure_ (i := 6) (N := some 25) (v := ?_) (a' := ?_) #[true, true, true, true, true, true, true, false, false, false, false, true, false, false, false] rfl rfl (by kernel_rfl) (fun _ _ _ h => h) (Or.inl ⟨by rfl, ?_⟩) ?_ ?_
          rotate_left
          · intro w'
            go_simp
            with_reducible rfl
          rotate_left
          · simp only [Act.put, List.setIfInBounds_toArray, List.set_cons_zero, List.set_cons_succ, i64_w, i32_w]
            rfl
          refine pure_ (i := 7) (N := some 32) (v := ?_) (a' := ?_) #[true, true, true, true, true, true, true, true, false, false, false, true, false, false, false] rfl rfl (by kernel_rfl) (fun _ _ _ h => h) (Or.inl ⟨by rfl, ?_⟩) ?_ ?_
          rotate_left
          · intro w'
            go_simp
            with_reducible rfl
          rotate_left
          · simp only [Act.put, List.setIfInBounds_toArray, List.set_cons_zero, List.set_cons_succ, i64_w, i32_w]
            rfl
          refine pure_ (i := 8) (N := some 33) (v := ?_) (a' := ?_) #[true, true, true, true, true, true, true, true, true, false, false, true, false, false, false] rfl rfl (by kernel_rfl) (fun _ _ _ h => h) (Or.inl ⟨by rfl, ?_⟩) ?_ ?_
          rotate_left
          · intro w'
            go_simp
            with_reducible rfl
          rotate_left
          · simp only [Act.put, List.setIfInBounds_toArray, List.set_cons_zero, List.set_cons_succ, i64_w, i32_w]
            rfl
          refine pure_ (i := 9) (N := some 34) (v := ?_) (a' := ?_) #[true, true, true, true, true, true, true, true, true, true, false, true, false, false, false] rfl rfl (by kernel_rfl) (fun _ _ _ h => h) (Or.inl ⟨by rfl, ?_⟩) ?_ ?_
          rotate_left
          · intro w'
            go_simp
            with_reducible rfl
          rotate_left
          · simp only [Act.put, List.setIfInBounds_toArray, List.set_cons_zero, List.set_cons_succ, i64_w, i32_w]
            rfl
          skip
          refine one_ (i := 10) (N := some 5) #[true, true, true, true, true, true, true, true, true, true, true, true, false, false, false] rfl rfl (by kernel_rfl) (by decide) (fun K hK => ?_)
          refine box_step ?hg (N := 5) ?hd (cs := #[.slice none 0 0, .slice none 0 0]) (t := 29) ?hr ?_
          (case hd => rfl)
          (case hg => rfl)
          (case hr => first | (go_simp; done) | (go_simp; rfl))
          intro ga hga v3 hbox hb
          have HXa := Aside0.mk hbox
          have HGa := Aside0.mk (show wd.heap.size ≤ ga from Nat.le_trans HB2.out.size (Nat.le_of_eq hga.symm))
          clear hbox hga
          have HVH := Aside0.mk (Kd.R_below HVH.out hb)
          have HVW := Aside0.mk (Kd.R_below HVW.out hb)
          have HVG := Aside0.mk (Kd.R_below HVG.out hb)
          have HVN := Aside0.mk (Kd.R_below HVN.out hb)
          have HXb := Aside0.mk (blk_below HXb.out hb)
          have HB3 := Aside0.mk (below_step HB2.out hb)
          clear hb
          skip
          refine hK.out _ _ (held8 HB3.out HH.out) (fun hHeld => ?_)
          clear hK K
          refine norm_ ?_ (hCont (vH, vW, vG, vN, ga, gb) v3 ⟨HVH.out, HVW.out, HVG.out, HVN.out, HB3.out, HGa.out, HGb.out, HXa.out, HXb.out⟩)
          rfl
        · refine box_step ?hg (N := 5) ?hd (cs := #[.slice none 0 0, .slice none 0 0]) (t := 29) ?hr ?_
          (case hd => rfl)
          (case hg => rfl)
          (case hr => first | (go_simp; done) | (go_simp; rfl))
          intro ga hga v2 hbox hb
          have HXa := Aside0.mk hbox
          have HGa := Aside0.mk (show wd.heap.size ≤ ga from Nat.le_trans HB1.out.size (Nat.le_of_eq hga.symm))
          clear hbox hga
          have HXb := Aside0.mk (blk_below HXb.out hb)
          have HB2 := Aside0.mk (below_step HB1.out hb)
          clear hb
          skip
          refine hK.out _ _ (held8 HB2.out HH.out) (fun hHeld => ?_)
          clear hK K
          refine norm_ (a' := ?_) ?_ ?_
          rotate_left
          · show Act.put _ (some 5) _ = _
            simp only [Act.put, List.setIfInBounds_toArray, List.set_cons_zero, List.set_cons_succ, i64_w, i32_w]
            rfl
          skip
          refine one_ (i := 5) (N := some 31) #[true, true, true, true, true, true, false, false, false, false, true, true, false, false, false] rfl rfl (by kernel_rfl) (by decide) (fun K hK => ?_)
          refine goes_ Try.func17 (by kernel_rfl) rfl #[.agg #[.slice A1 PH.length c1, .slice A2 PW.length c2], .agg #[.int .u8 (rd_T37 l (j : Int)).f0, .int .i64 (rd_T37 l (j : Int)).f1.f0, .int .i64 (rd_T37 l (j : Int)).f1.f1, .int .i64 (rd_T37 l (j : Int)).f1.f2, .int .i64 (rd_T37 l (j : Int)).f1.f3, .bool (rd_T37 l (j : Int)).f1.f4]] (by rfl) rfl rfl (by (try simp only [List.map_toArray, List.map_cons, List.map_nil]); first | done | rfl) ?_
          refine (doneT_calls w.heap.size A1 A2 c1 c2 PH PW (rd_T37 l (j : Int)) _ (Kd.R_below RH.out HB2.out) (Kd.R_below RW.out HB2.out) (Nat.le_trans B.out.size HB2.out.size) HPL.out HKK.out.1 HKK.out.2).mono ?_
          rintro e v3 ⟨vH, vW, vG, vN, rfl, hvH, hvW, hvG, hvN, hb⟩
          rw [HX.out] at hvH hvW
          rw [HG.out] at hvG hvN
          refine ⟨_, rfl, ?_⟩
          have HVH := Aside0.mk hvH
          have HVW := Aside0.mk hvW
          have HVG := Aside0.mk hvG
          have HVN := Aside0.mk hvN
          clear hvH hvW hvG hvN
          have HXa := Aside0.mk (blk_below HXa.out hb)
          have HXb := Aside0.mk (blk_below HXb.out hb)
          have HB3 := Aside0.mk (below_step HB2.out hb)
          clear hb
          skip
          refine hK.out _ _ (held8 HB3.out HH.out) (fun hHeld => ?_)
          clear hK K
          refine norm_ (a' := ?_) ?_ ?_
          rotate_left
          · show Act.put _ (some 31) _ = _
            simp only [Act.put, List.setIfInBounds_toArray, List.set_cons_zero, List.set_cons_succ, i64_w, i32_w]
            rfl
          refine pure_ (i := 6) (N := some 25) (v := ?_) (a' := ?_) #[true, true, true, true, true, true, true, false, false, false, true, true, false, false, false] rfl rfl (by kernel_rfl) (fun _ _ _ h => h) (Or.inl ⟨by rfl, ?_⟩) ?_ ?_
          rotate_left
          · intro w'
            go_simp
            with_reducible rfl
          rotate_left
          · simp only [Act.put, List.setIfInBounds_toArray, List.set_cons_zero, List.set_cons_succ, i64_w, i32_w]
            rfl
          refine pure_ (i := 7) (N := some 32) (v := ?_) (a' := ?_) #[true, true, true, true, true, true, true, true, false, false, true, true, false, false, false] rfl rfl (by kernel_rfl) (fun _ _ _ h => h) (Or.inl ⟨by rfl, ?_⟩) ?_ ?_
          rotate_left
          · intro w'
            go_simp
            with_reducible rfl
          rotate_left
          · simp only [Act.put, List.setIfInBounds_toArray, List.set_cons_zero, List.set_cons_succ, i64_w, i32_w]
            rfl
          refine pure_ (i := 8) (N := some 33) (v := ?_) (a' := ?_) #[true, true, true, true, true, true, true, true, true, false, true, true, false, false, false] rfl rfl (by kernel_rfl) (fun _ _ _ h => h) (Or.inl ⟨by rfl, ?_⟩) ?_ ?_
          rotate_left
          · intro w'
            go_simp
            with_reducible rfl
          rotate_left
          · simp only [Act.put, List.setIfInBounds_toArray, List.set_cons_zero, List.set_cons_succ, i64_w, i32_w]
            rfl
          refine pure_ (i := 9) (N := some 34) (v := ?_) (a' := ?_) #[true, true, true, true, true, true, true, true, true, true, true, true, false, false, false] rfl rfl (by kernel_rfl) (fun _ _ _ h => h) (Or.inl ⟨by rfl, ?_⟩) ?_ ?_
          rotate_left
          · intro w'
            go_simp
            with_reducible rfl
          rotate_left
          · simp only [Act.put, List.setIfInBounds_toArray, List.set_cons_zero, List.set_cons_succ, i64_w, i32_w]
            rfl
          refine norm_ ?_ (hCont (vH, vW, vG, vN, ga, gb) v3 ⟨HVH.out, HVW.out, HVG.out, HVN.out, HB3.out, HGa.out, HGb.out, HXa.out, HXb.out⟩)
          rfl
    case cont7 =>
    rintro ⟨vH, vW, vG, vN, ga, gb⟩ w6 ⟨hvH, hvW, hvG, hvN, hb, hga, hgb, hxa, hxb⟩
    dsimp only at hvH hvW hvG hvN hga hgb hxa hxb
    simp only [putAll, Act.put, List.setIfInBounds_toArray, List.set_cons_zero, List.set_cons_succ]
    have LT := Aside0.mk (show w.heap.size < wd.heap.size from blk_lt T.out)
    have HGA := Aside0.mk hga
    have HGB := Aside0.mk hgb
    obtain ⟨xa1, xc1, rfl⟩ := Kd.R_slice hvH
    obtain ⟨xa2, xc2, rfl⟩ := Kd.R_slice hvW
    obtain ⟨ya1, yc1, rfl⟩ := Kd.R_slice hvG
    obtain ⟨ya2, yc2, rfl⟩ := Kd.R_slice hvN
    have T := Aside0.mk (blk_below T.out hb)
    have RH := Aside0.mk (Kd.R_below RH.out hb)
    have RW := Aside0.mk (Kd.R_below RW.out hb)
    have B := Aside0.mk (below_step B.out hb)
    have RX1 := Aside0.mk hvH
    have RX2 := Aside0.mk hvW
    have RG := Aside0.mk hvG
    have RN := Aside0.mk hvN
    have GA := Aside0.mk hxa
    have GB := Aside0.mk hxb
    clear hga hgb hvH hvW hvG hvN hb hxa hxb hHeld HH
    have z0 := (blk_cell GA.out 0).trans rfl; have z1 := (blk_cell GA.out 1).trans rfl
    have fz0 := blk_frozen GA.out 0; have fz1 := blk_frozen GA.out 1
    refine last_ (i := 12) (N := none) #[true, true, true, true, true, true, true, true, true, true, true, true, true, false, false] rfl rfl (by kernel_rfl) (by decide) (fun K hK => ?_)
    refine skip_ (w1 := ?_) (by rfl) rfl ?_ ?_
    rotate_left
    · go_simp
      rfl
    refine hK.out _ _ ?_
    clear hK K z0 z1 fz0 fz1
    have P_ := Aside0.mk (put_two (n := w.heap.size) (w := w) (.slice xa1 X1.length xc1) (.slice xa2 X2.length xc2) GA.out B.out (by have h1 := LT.out; have h2 := HGA.out; omega))
    have T_ := Aside0.mk (two_far' (.slice xa1 X1.length xc1) (.slice xa2 X2.length xc2) T.out (show w.heap.size ≠ ga by have h1 := LT.out; have h2 := HGA.out; omega))
    have GB_ := Aside0.mk (two_far (.slice xa1 X1.length xc1) (.slice xa2 X2.length xc2) GB.out GA.out (by decide))
    have RH_ := Aside0.mk (R_two (.slice xa1 X1.length xc1) (.slice xa2 X2.length xc2) RH.out GA.out (by decide))
    have RW_ := Aside0.mk (R_two (.slice xa1 X1.length xc1) (.slice xa2 X2.length xc2) RW.out GA.out (by decide))
    have RX1_ := Aside0.mk (R_two (.slice xa1 X1.length xc1) (.slice xa2 X2.length xc2) RX1.out GA.out (by decide))
    have RX2_ := Aside0.mk (R_two (.slice xa1 X1.length xc1) (.slice xa2 X2.length xc2) RX2.out GA.out (by decide))
    have RG_ := Aside0.mk (R_two (.slice xa1 X1.length xc1) (.slice xa2 X2.length xc2) RG.out GA.out (by decide))
    have RN_ := Aside0.mk (R_two (.slice xa1 X1.length xc1) (.slice xa2 X2.length xc2) RN.out GA.out (by decide))
    have B_ := Aside0.mk P_.out.2
    have GA_ := Aside0.mk P_.out.1
    clear P_ B T GA GB RH RW RX1 RX2 RG RN
    generalize ((w6).setCell ⟨ga, 0, none⟩ (.slice xa1 X1.length xc1)).setCell ⟨ga, 1, none⟩ (.slice xa2 X2.length xc2) = w7 at B_ T_ GA_ GB_ RH_ RW_ RX1_ RX2_ RG_ RN_ ⊢
    have B := B_
    have T := T_
    have GA := GA_
    have GB := GB_
    have RH := RH_
    have RW := RW_
    have RX1 := RX1_
    have RX2 := RX2_
    have RG := RG_
    have RN := RN_
    clear B_ T_ GA_ GB_ RH_ RW_ RX1_ RX2_ RG_ RN_
    have z0 := (blk_cell GB.out 0).trans rfl; have z1 := (blk_cell GB.out 1).trans rfl
    have fz0 := blk_frozen GB.out 0; have fz1 := blk_frozen GB.out 1
    refine last_ (i := 13) (N := none) #[true, true, true, true, true, true, true, true, true, true, true, true, true, true, false] rfl rfl (by kernel_rfl) (by decide) (fun K hK => ?_)
    refine skip_ (w1 := ?_) (by rfl) rfl ?_ ?_
    rotate_left
    · go_simp
      rfl
    refine hK.out _ _ ?_
    clear hK K z0 z1 fz0 fz1
    have P_ := Aside0.mk (put_two (n := w.heap.size) (w := w) (.slice ya1 G.length yc1) (.slice ya2 N.length yc2) GB.out B.out (by have h1 := LT.out; have h2 := HGB.out; omega))
    have T_ := Aside0.mk (two_far (.slice ya1 G.length yc1) (.slice ya2 N.length yc2) T.out GB.out (by decide))
    have GA_ := Aside0.mk (two_far (.slice ya1 G.length yc1) (.slice ya2 N.length yc2) GA.out GB.out (by decide))
    have RH_ := Aside0.mk (R_two (.slice ya1 G.length yc1) (.slice ya2 N.length yc2) RH.out GB.out (by decide))
    have RW_ := Aside0.mk (R_two (.slice ya1 G.length yc1) (.slice ya2 N.length yc2) RW.out GB.out (by decide))
    have RX1_ := Aside0.mk (R_two (.slice ya1 G.length yc1) (.slice ya2 N.length yc2) RX1.out GB.out (by decide))
    have RX2_ := Aside0.mk (R_two (.slice ya1 G.length yc1) (.slice ya2 N.length yc2) RX2.out GB.out (by decide))
    have RG_ := Aside0.mk (R_two (.slice ya1 G.length yc1) (.slice ya2 N.length yc2) RG.out GB.out (by decide))
    have RN_ := Aside0.mk (R_two (.slice ya1 G.length yc1) (.slice ya2 N.length yc2) RN.out GB.out (by decide))
    have B_ := Aside0.mk P_.out.2
    have GB_ := Aside0.mk P_.out.1
    clear P_ B T GA GB RH RW RX1 RX2 RG RN
    generalize ((w7).setCell ⟨gb, 0, none⟩ (.slice ya1 G.length yc1)).setCell ⟨gb, 1, none⟩ (.slice ya2 N.length yc2) = w8 at B_ T_ GA_ GB_ RH_ RW_ RX1_ RX2_ RG_ RN_ ⊢
    have B := B_
    have T := T_
    have GA := GA_
    have GB := GB_
    have RH := RH_
    have RW := RW_
    have RX1 := RX1_
    have RX2 := RX2_
    have RG := RG_
    have RN := RN_
    clear B_ T_ GA_ GB_ RH_ RW_ RX1_ RX2_ RG_ RN_
    skip
    refine pure_ (i := 14) (N := some 7) (v := ?_) (a' := ?_) #[true, true, true, true, true, true, true, true, true, true, true, true, true, true, true] rfl rfl (by kernel_rfl) (fun _ _ _ h => h) (Or.inl ⟨by rfl, ?_⟩) ?_ ?_
    rotate_left
    · intro w'
      go_simp
      with_reducible rfl
    rotate_left
    · simp only [Act.put, List.setIfInBounds_toArray, List.set_cons_zero, List.set_cons_succ, i64_w, i32_w]
      rfl
    refine done_ (by kernel_rfl) ?_
    have NTA := Aside0.mk (show w.heap.size ≠ ga by have h1 := LT.out; have h2 := HGA.out; omega)
    clear LT HGA HGB
    have x0 := (blk_cell GA.out 0).trans rfl; have x1 := (blk_cell GA.out 1).trans rfl
    go_upto_region 9 with (fail)
    have HCK := Aside0.mk (show chkE X1 X2 = 0 by unfold chkE; rw [Inv.iff.1 HXI.out]; rfl)
    have HLX := Aside0.mk (show X1.length + X2.length ≤ 1000 from Nat.le_trans HXI.out.len (by decide))
    refine (check_calls xa1 xa2 xc1 xc2 X1 X2 _ (Kd.R_reads' RX1.out).2.2 (Kd.R_reads' RX2.out).2.2 HLX.out).mono ?_
    rintro e w9 ⟨rfl, hb⟩
    rw [HCK.out]
    have T := Aside0.mk (blk_below T.out hb)
    have GA := Aside0.mk (blk_below GA.out hb)
    have GB := Aside0.mk (blk_below GB.out hb)
    have RH := Aside0.mk (Kd.R_below RH.out hb)
    have RW := Aside0.mk (Kd.R_below RW.out hb)
    have RX1 := Aside0.mk (Kd.R_below RX1.out hb)
    have RX2 := Aside0.mk (Kd.R_below RX2.out hb)
    have RG := Aside0.mk (Kd.R_below RG.out hb)
    have RN := Aside0.mk (Kd.R_below RN.out hb)
    have B := Aside0.mk (below_step B.out hb)
    clear hb x0 x1 HCK
    go_wp2
    have hxl : X1.length ≤ 1000 := by have := HLX.out; omega
    have hx1 : X1.length ≤ xc1 := (Kd.R_reads' RX1.out).2.1
    go_loopg [8] X1.length (fun kq v8 w' => ∃ i : Nat, v8 = .int .i64 i ∧ Aside0 (kq + i = X1.length) ∧ Aside0 (Below w9.heap.size w9 w'))
    case atStart => exact ⟨0, rfl, ⟨rfl⟩, ⟨Below.refl _ _⟩⟩
    case round =>
      obtain ⟨i, rfl, HI, HB⟩ := hrel
      have UA := Aside0.mk (blk_below GA.out HB.out)
      have x0 := (blk_cell UA.out 0).trans rfl; have x1 := (blk_cell UA.out 1).trans rfl
      by_cases hit : i < X1.length
      · have h2 : decide (i < X1.length) = true := by simpa using hit
        have h2' : decide ((i : Int) < (X1.length : Int)) = true := by simpa using hit
        go_upto_region 14 with (fail)
        clear x0 x1 h2 h2' UA
        go_loopg [9] i (fun kq v9 w' => ∃ k : Nat, v9 = .int .i64 k ∧ Aside0 (kq + k = i) ∧ Aside0 (Below w9.heap.size w9 w'))
        case atStart => exact ⟨0, rfl, ⟨rfl⟩, HB⟩
        case round =>
          obtain ⟨k, rfl, HK, HB⟩ := hrel
          by_cases hkt : k < i
          · have h3 : decide (k < i) = true := by simpa using hkt
            have h3' : decide ((k : Int) < (i : Int)) = true := by simpa using hkt
            have hkx : k < X1.length := by omega
            have HCF := Aside0.mk (free_cf HXI.out.free hkt hit)
            go_upto_region 16 with (fail)
            have UA := Aside0.mk (blk_below GA.out HB.out)
            obtain ⟨ae, hae, a0, a1, a2, a3, a4⟩ := at_T24 (Kd.C_below (Kd.R_reads' RX1.out).2.2 HB.out) (i : Int) (by omega) (by omega)
            obtain ⟨ae2, hae2, b0, b1, b2, b3, b4⟩ := at_T24 (Kd.C_below (Kd.R_reads' RX1.out).2.2 HB.out) (k : Int) (by omega) (by omega)
            cases hae
            cases hae2
            simp only [Int.toNat_natCast] at a0 a1 a2 a3 a4 b0 b1 b2 b3 b4
            have hic : i < xc1 := by omega
            have hkc : k < xc1 := by omega
            refine start_ (n := 11) (S := fun w' => w'.cell? ⟨ga, 0, none⟩ = some (.slice (some ae) X1.length xc1) ∧ w'.cell? ⟨ga, 1, none⟩ = some (.slice xa2 X2.length xc2) ∧ w'.cell? (ae.add (i * 5)) = some (.int .i64 (rd_T24 X1 (i : Int)).f0) ∧ w'.cell? ⟨(ae.add (i * 5)).block, (ae.add (i * 5)).off + 1, none⟩ = some (.int .i64 (rd_T24 X1 (i : Int)).f1) ∧ w'.cell? ⟨(ae.add (i * 5)).block, (ae.add (i * 5)).off + 2, none⟩ = some (.int .i64 (rd_T24 X1 (i : Int)).f2) ∧ w'.cell? ⟨(ae.add (i * 5)).block, (ae.add (i * 5)).off + 3, none⟩ = some (.int .i64 (rd_T24 X1 (i : Int)).f3) ∧ w'.cell? ⟨(ae.add (i * 5)).block, (ae.add (i * 5)).off + 4, none⟩ = some (.bool (rd_T24 X1 (i : Int)).f4) ∧ w'.cell? (ae.add (k * 5)) = some (.int .i64 (rd_T24 X1 (k : Int)).f0) ∧ w'.cell? ⟨(ae.add (k * 5)).block, (ae.add (k * 5)).off + 1, none⟩ = some (.int .i64 (rd_T24 X1 (k : Int)).f1) ∧ w'.cell? ⟨(ae.add (k * 5)).block, (ae.add (k * 5)).off + 2, none⟩ = some (.int .i64 (rd_T24 X1 (k : Int)).f2) ∧ w'.cell? ⟨(ae.add (k * 5)).block, (ae.add (k * 5)).off + 3, none⟩ = some (.int .i64 (rd_T24 X1 (k : Int)).f3) ∧ w'.cell? ⟨(ae.add (k * 5)).block, (ae.add (k * 5)).off + 4, none⟩ = some (.bool (rd_T24 X1 (k : Int)).f4)) (ds := [10]) #[false, false, false, false, false, false, false, false, false, false, false] (by kernel_rfl) rfl rfl ⟨(blk_cell UA.out 0).trans rfl, (blk_cell UA.out 1).trans rfl, a0, a1, a2, a3, a4, b0, b1, b2, b3, b4⟩ (fun hHeld => ?_)
            have HB := Aside0.mk (below_step HB.out (below_drew1 (Below.refl wr.heap.size wr)))
            clear a0 a1 a2 a3 a4 b0 b1 b2 b3 b4 UA
            generalize wr.drew = wd at HB hHeld ⊢
            refine pure_ (i := 0) (N := some 50) (v := ?_) (a' := ?_) #[true, false, false, false, false, false, false, false, false, false, false] rfl rfl (by kernel_rfl) (fun _ _ _ h => h) (Or.inl ⟨by rfl, ?_⟩) ?_ ?_
            rotate_left
            · intro w'
              go_simp
              with_reducible rfl
            rotate_left
            · simp only [Act.put, List.setIfInBounds_toArray, List.set_cons_zero, List.set_cons_succ, i64_w, i32_w]
              rfl
            refine take_ (i := 1) (N := some 51) (v := ?_) (a' := ?_) #[true, true, false, false, false, false, false, false, false, false, false] rfl rfl (by kernel_rfl) (fun _ _ _ h => h) (Or.inl ⟨by rfl, ?_⟩) hHeld ?_ ?_
            rotate_left
            · rintro w' ⟨s0, s1, s2, s3, s4, s5, s6, s7, s8, s9, s10, s11⟩
              go_simp
              with_reducible rfl
            rotate_left
            · simp only [Act.put, List.setIfInBounds_toArray, List.set_cons_zero, List.set_cons_succ, i64_w, i32_w]
              rfl
            refine pure_ (i := 2) (N := some 52) (v := ?_) (a' := ?_) #[true, true, true, false, false, false, false, false, false, false, false] rfl rfl (by kernel_rfl) (fun _ _ _ h => h) (Or.inl ⟨by rfl, ?_⟩) ?_ ?_
            rotate_left
            · intro w'
              go_simp
              with_reducible rfl
            rotate_left
            · simp only [Act.put, List.setIfInBounds_toArray, List.set_cons_zero, List.set_cons_succ, i64_w, i32_w]
              rfl
            refine pure_ (i := 3) (N := some 53) (v := ?_) (a' := ?_) #[true, true, true, true, false, false, false, false, false, false, false] rfl rfl (by kernel_rfl) (fun _ _ _ h => h) (Or.inl ⟨by rfl, ?_⟩) ?_ ?_
            rotate_left
            · intro w'
              go_simp
              with_reducible rfl
            rotate_left
            · simp only [Act.put, List.setIfInBounds_toArray, List.set_cons_zero, List.set_cons_succ, i64_w, i32_w]
              rfl
            refine take_ (i := 4) (N := some 54) (v := ?_) (a' := ?_) #[true, true, true, true, true, false, false, false, false, false, false] rfl rfl (by kernel_rfl) (fun _ _ _ h => h) (Or.inl ⟨by rfl, ?_⟩) hHeld ?_ ?_
            rotate_left
            · rintro w' ⟨s0, s1, s2, s3, s4, s5, s6, s7, s8, s9, s10, s11⟩
              go_simp
              with_reducible rfl
            rotate_left
            · simp only [Act.put, List.setIfInBounds_toArray, List.set_cons_zero, List.set_cons_succ, i64_w, i32_w]
              rfl
            refine pure_ (i := 5) (N := some 55) (v := ?_) (a' := ?_) #[true, true, true, true, true, true, false, false, false, false, false] rfl rfl (by kernel_rfl) (fun _ _ _ h => h) (Or.inl ⟨by rfl, ?_⟩) ?_ ?_
            rotate_left
            · intro w'
              go_simp
              with_reducible rfl
            rotate_left
            · simp only [Act.put, List.setIfInBounds_toArray, List.set_cons_zero, List.set_cons_succ, i64_w, i32_w]
              rfl
            refine take_ (i := 6) (N := some 56) (v := ?_) (a' := ?_) #[true, true, true, true, true, true, true, false, false, false, false] rfl rfl (by kernel_rfl) (fun _ _ _ h => h) (Or.inl ⟨by rfl, ?_⟩) hHeld ?_ ?_
            rotate_left
            · rintro w' ⟨s0, s1, s2, s3, s4, s5, s6, s7, s8, s9, s10, s11⟩
              go_simp
              with_reducible rfl
            rotate_left
            · simp only [Act.put, List.setIfInBounds_toArray, List.set_cons_zero, List.set_cons_succ, i64_w, i32_w]
              rfl
            refine pure_ (i := 7) (N := some 57) (v := ?_) (a' := ?_) #[true, true, true, true, true, true, true, true, false, false, false] rfl rfl (by kernel_rfl) (fun _ _ _ h => h) (Or.inl ⟨by rfl, ?_⟩) ?_ ?_
            rotate_left
            · intro w'
              go_simp
              with_reducible rfl
            rotate_left
            · simp only [Act.put, List.setIfInBounds_toArray, List.set_cons_zero, List.set_cons_succ, i64_w, i32_w]
              rfl
            refine pure_ (i := 8) (N := some 58) (v := ?_) (a' := ?_) #[true, true, true, true, true, true, true, true, true, false, false] rfl rfl (by kernel_rfl) (fun _ _ _ h => h) (Or.inl ⟨by rfl, ?_⟩) ?_ ?_
            rotate_left
            · intro w'
              go_simp
              with_reducible rfl
            rotate_left
            · simp only [Act.put, List.setIfInBounds_toArray, List.set_cons_zero, List.set_cons_succ, i64_w, i32_w]
              rfl
            refine take_ (i := 9) (N := some 59) (v := ?_) (a' := ?_) #[true, true, true, true, true, true, true, true, true, true, false] rfl rfl (by kernel_rfl) (fun _ _ _ h => h) (Or.inl ⟨by rfl, ?_⟩) hHeld ?_ ?_
            rotate_left
            · rintro w' ⟨s0, s1, s2, s3, s4, s5, s6, s7, s8, s9, s10, s11⟩
              go_simp
              with_reducible rfl
            rotate_left
            · simp only [Act.put, List.setIfInBounds_toArray, List.set_cons_zero, List.set_cons_succ, i64_w, i32_w]
              rfl
            refine last_ (i := 10) (N := some 60) #[true, true, true, true, true, true, true, true, true, true, true] rfl rfl (by kernel_rfl) (by decide) (fun K hK => ?_)
            refine goes_ Try.func14 (by kernel_rfl) rfl #[.agg #[.int .i64 (rd_T24 X1 (i : Int)).f0, .int .i64 (rd_T24 X1 (i : Int)).f1, .int .i64 (rd_T24 X1 (i : Int)).f2, .int .i64 (rd_T24 X1 (i : Int)).f3, .bool (rd_T24 X1 (i : Int)).f4], .agg #[.int .i64 (rd_T24 X1 (k : Int)).f0, .int .i64 (rd_T24 X1 (k : Int)).f1, .int .i64 (rd_T24 X1 (k : Int)).f2, .int .i64 (rd_T24 X1 (k : Int)).f3, .bool (rd_T24 X1 (k : Int)).f4]] (by rfl) rfl rfl (by (try simp only [List.map_toArray, List.map_cons, List.map_nil]); first | done | rfl) ?_
            refine (conflict_calls (rd_T24 X1 (i : Int)) (rd_T24 X1 (k : Int)) _).mono ?_
            rintro e wc ⟨rfl, hb⟩
            refine ⟨_, rfl, ?_⟩
            rw [HCF.out]
            have HB := Aside0.mk (below_step HB.out hb)
            clear hb
            refine hK.out _ _ ?_
            clear hK K
            refine norm_ (a' := ?_) ?_ ?_
            rotate_left
            · show Act.put _ (some 60) _ = _
              simp only [Act.put, List.setIfInBounds_toArray, List.set_cons_zero, List.set_cons_succ, i64_w, i32_w]
              rfl
            refine done_ (by kernel_rfl) ?_
            clear hHeld
            go_wp2
            go_roundg (i - (k + 1))
            case measure => have := HK.out; omega
            case rel => exact ⟨k + 1, by go_num, ⟨by omega⟩, HB⟩
          · obtain rfl : k = i := by have := HK.out; omega
            have h3 : decide (k < k) = false := by simp
            have h3' : decide ((k : Int) < (k : Int)) = false := by simp
            go_wp2
            go_roundg (X1.length - (k + 1))
            case measure => have := HI.out; omega
            case rel => exact ⟨k + 1, by go_num, ⟨by omega⟩, HB⟩
      · have h2 : decide (i < X1.length) = false := by simpa using hit
        have h2' : decide ((i : Int) < (X1.length : Int)) = false := by simpa using hit
        go_wp2
        clear h2 h2' hit HI
        have HPI := Aside0.mk (show PW.length ≤ 400 by have h9 : PH.length + PW.length ≤ 400 := HIN.out.len; omega)
        have hpl : PW.length ≤ 400 := HPI.out
        have hc2 : PW.length ≤ c2 := (Kd.R_reads' RW.out).2.1
        go_loopg [10, 11] PW.length (fun kq v10 v11 w' => ∃ (i : Nat) (v : Value), v11 = .int .i64 i ∧ v = v10 ∧ Aside0 (kq + i = PW.length) ∧ Aside0 (kI.R 3 w' w9.heap.size (fun _ => True) v ((PW.take i).map hdL)) ∧ Aside0 (Below w9.heap.size w9 w'))
        case atStart => exact ⟨0, _, rfl, rfl, ⟨rfl⟩, ⟨Kd.R_nil _ _ _ _ _⟩, HB⟩
        case round =>
          obtain ⟨i, v, rfl, rfl, HI, RK, HB⟩ := hrel
          have UT := Aside0.mk (blk_below T.out HB.out)
          have x0 := (blk_cell UT.out 0).trans rfl; have x1 := (blk_cell UT.out 1).trans rfl
          by_cases hit : i < PW.length
          · have h2 : decide (i < PW.length) = true := by simpa using hit
            have h2' : decide ((i : Int) < (PW.length : Int)) = true := by simpa using hit
            obtain ⟨ae, hae, a0, a1, a2, a3, a4⟩ := at_T24 (Kd.C_below (Kd.R_reads' RW.out).2.2 HB.out) (i : Int) (by omega) (by omega)
            cases hae
            simp only [Int.toNat_natCast] at a0 a1 a2 a3 a4
            have hic : i < c2 := by omega
            have HLP := Aside0.mk (show ((PW.take i).map hdL).length ≤ 1000 by have := HPI.out; simp; omega)
            have HKE := Aside0.mk (show (PW.take i).map hdL ++ [(rd_T24 PW (i : Int)).f1] = (PW.take (i + 1)).map hdL by rw [List.take_succ_eq_append_getElem hit, rd_at hit, List.map_append]; rfl)
            obtain ⟨KK, hKK⟩ : ∃ KK, KK = (PW.take i).map hdL := ⟨_, rfl⟩
            rw [← hKK] at RK HLP HKE
            clear hKK
            go_wp2_with (((with_reducible refine gate_builtin (b := .append) (xs := #[.tmp 68, .tmp 75]) rfl ?_); at_builtin; refine Kd.R_append kI (w0 := _) w9.heap.size rfl (.tmp 68) (.tmp 75) 31 3 (.int .i64 0) 8 rfl Try.underlying31 info3 rfl (by decide) (by omega) v (KK) ((rd_T24 PW (i : Int)).f1) [.int .i64 ((rd_T24 PW (i : Int)).f1)] (fun _ => True) (fun _ => False) rfl rfl rfl (fun _ hk => hk.elim) (fun _ _ => trivial) (RK.out) (HB.out) (HB.out.size) (by have := HLP.out; omega) ?_; intro v2 w2 ho hb hg hat; rw [HKE.out] at ho; have RK2 := Aside0.mk ho; have HB2 := Aside0.mk hb; clear ho hb hg hat x0 x1 a0 a1 a2 a3 a4 UT))
            go_roundg (PW.length - (i + 1))
            case measure => have := HI.out; omega
            case rel => exact ⟨i + 1, v2, by go_num, rfl, ⟨by omega⟩, RK2, HB2⟩
          · have h2 : decide (i < PW.length) = false := by simpa using hit
            have h2' : decide ((i : Int) < (PW.length : Int)) = false := by simpa using hit
            have hte : PW.take i = PW := List.take_of_length_le (by omega)
            rw [hte] at RK
            clear hte
            go_upto_region 23 with (fail)
            clear x0 x1 h2 h2' hit HI UT
            obtain ⟨ae, hae, a0, a1, a2, a3, a4, a5⟩ := at_T37 (Kd.C_below (Kd.C_below HC.out B.out) HB.out) (j : Int) (by omega) (by omega)
            cases hae
            simp only [Int.toNat_natCast] at a0 a1 a2 a3 a4 a5
            have HLP := Aside0.mk (show (PW.map hdL).length ≤ 1000 by have := HPI.out; simp; omega)
            obtain ⟨KK, hKK⟩ : ∃ KK, KK = PW.map hdL := ⟨_, rfl⟩
            have HKL := Aside0.mk (show (KK ++ [(rd_T37 l (j : Int)).f1.f1]).length ≤ 1000 by have := HPI.out; rw [hKK]; simp; omega)
            rw [← hKK] at RK HLP HNK
            clear hKK
            go_wp2_with (((with_reducible refine gate_builtin (b := .append) (xs := #[.tmp 77, .tmp 84]) rfl ?_); at_builtin; refine Kd.R_append kI (w0 := _) w9.heap.size rfl (.tmp 77) (.tmp 84) 31 3 (.int .i64 0) 8 rfl Try.underlying31 info3 rfl (by decide) (by omega) v (KK) ((rd_T37 l (j : Int)).f1.f1) [.int .i64 ((rd_T37 l (j : Int)).f1.f1)] (fun _ => True) (fun _ => False) rfl rfl rfl (fun _ hk => hk.elim) (fun _ _ => trivial) (RK.out) (HB.out) (HB.out.size) (by have := HLP.out; omega) ?_; intro v2 w2 ho hb hg hat; have RK2 := Aside0.mk ho; have HB2 := Aside0.mk hb; clear ho hb hg hat a0 a1 a2 a3 a4 a5 HB RK))
            obtain ⟨L, hL⟩ : ∃ L, L = KK ++ [(rd_T37 l (j : Int)).f1.f1] := ⟨_, rfl⟩
            rw [← hL] at RK2 HNK HKL
            obtain ⟨ka, kc, rfl⟩ := Kd.R_slice RK2.out
            have T := Aside0.mk (blk_below T.out HB2.out)
            have GA := Aside0.mk (blk_below GA.out HB2.out)
            have GB := Aside0.mk (blk_below GB.out HB2.out)
            have RH := Aside0.mk (Kd.R_below RH.out HB2.out)
            have RW := Aside0.mk (Kd.R_below RW.out HB2.out)
            have RX1 := Aside0.mk (Kd.R_below RX1.out HB2.out)
            have RX2 := Aside0.mk (Kd.R_below RX2.out HB2.out)
            have RG := Aside0.mk (Kd.R_below RG.out HB2.out)
            have RN := Aside0.mk (Kd.R_below RN.out HB2.out)
            have B := Aside0.mk (below_step B.out HB2.out)
            have RK := RK2
            clear RK2 HB2 hL KK HLP
            have hgl : G.length ≤ 1000 := HNL.out.1
            have hnl : N.length ≤ 1000 := HNL.out.2
            have hyc1 : G.length ≤ yc1 := (Kd.R_reads' RG.out).2.1
            have hyc2 : N.length ≤ yc2 := (Kd.R_reads' RN.out).2.1
            generalize decide ((doneR PH PW (rd_T37 l (j : Int))).2 = 0) = okb at HNO ⊢
            go_loopg [12] G.length (fun kq v12 w' => ∃ i : Nat, v12 = .int .i64 i ∧ Aside0 (kq + i = G.length) ∧ Aside0 (Below w2.heap.size w2 w'))
            case atStart => exact ⟨0, rfl, ⟨rfl⟩, ⟨Below.refl _ _⟩⟩
            case round =>
              obtain ⟨i, rfl, HI, HB⟩ := hrel
              have UB := Aside0.mk (blk_below GB.out HB.out)
              have x0 := (blk_cell UB.out 0).trans rfl; have x1 := (blk_cell UB.out 1).trans rfl
              by_cases hit : i < G.length
              · have h2 : decide (i < G.length) = true := by simpa using hit
                have h2' : decide ((i : Int) < (G.length : Int)) = true := by simpa using hit
                have hok : okb = true := HNO.out.1 (by intro e; rw [e] at hit; simp at hit)
                obtain ⟨ae, hae, a0⟩ := Kd.at_int (Kd.C_below (Kd.R_reads' RG.out).2.2 HB.out) (i : Int) (by omega) (by omega)
                cases hae
                simp only [Int.toNat_natCast] at a0
                have hic : i < yc1 := by omega
                have HME := Aside0.mk (show decide (rd G (i : Int) ∈ L) = true from decide_eq_true (HNK.out.1 _ (by rw [show rd G (i : Int) = G[i] by simp [rd, hit]]; exact List.getElem_mem hit)))
                subst hok
                go_upto_region 28 with (fail)
                refine (has_calls ka kc L (rd G (i : Int)) _ (Kd.C_below (Kd.R_reads' RK.out).2.2 HB.out) (Kd.R_reads' RK.out).2.1 HKL.out).mono ?_
                rintro e wc ⟨rfl, hb⟩
                rw [HME.out]
                have HB := Aside0.mk (below_step HB.out hb)
                clear hb x0 x1 a0 UB
                go_wp2
                go_roundg (G.length - (i + 1))
                case measure => have := HI.out; omega
                case rel => exact ⟨i + 1, by go_num, ⟨by omega⟩, HB⟩
              · have h2 : decide (i < G.length) = false := by simpa using hit
                have h2' : decide ((i : Int) < (G.length : Int)) = false := by simpa using hit
                go_wp2
                clear x0 x1 UB hit HI h2 h2'
                go_loopg [13] N.length (fun kq v13 w' => ∃ i : Nat, v13 = .int .i64 i ∧ Aside0 (kq + i = N.length) ∧ Aside0 (Below w2.heap.size w2 w'))
                case atStart => exact ⟨0, rfl, ⟨rfl⟩, HB⟩
                case round =>
                  obtain ⟨i, rfl, HI, HB⟩ := hrel
                  have UB := Aside0.mk (blk_below GB.out HB.out)
                  have x0 := (blk_cell UB.out 0).trans rfl; have x1 := (blk_cell UB.out 1).trans rfl
                  by_cases hit : i < N.length
                  · have h2 : decide (i < N.length) = true := by simpa using hit
                    have h2' : decide ((i : Int) < (N.length : Int)) = true := by simpa using hit
                    have hok : okb = true := HNO.out.2 (by intro e; rw [e] at hit; simp at hit)
                    obtain ⟨ae, hae, a0⟩ := Kd.at_int (Kd.C_below (Kd.R_reads' RN.out).2.2 HB.out) (i : Int) (by omega) (by omega)
                    cases hae
                    simp only [Int.toNat_natCast] at a0
                    have hic : i < yc2 := by omega
                    have HMM := Aside0.mk (HNK.out.2 (rd N (i : Int)) (by rw [show rd N (i : Int) = N[i] by simp [rd, hit]]; exact List.getElem_mem hit))
                    have HME := Aside0.mk (show decide (rd N (i : Int) ∈ L) = true from decide_eq_true HMM.out.1)
                    have hkd : Int.tmod (rd_T37 l (j : Int)).f0 5 = 1 := HMM.out.2
                    subst hok
                    go_upto_region 33 with (fail)
                    refine (has_calls ka kc L (rd N (i : Int)) _ (Kd.C_below (Kd.R_reads' RK.out).2.2 HB.out) (Kd.R_reads' RK.out).2.1 HKL.out).mono ?_
                    rintro e wc ⟨rfl, hb⟩
                    rw [HME.out]
                    have HB := Aside0.mk (below_step HB.out hb)
                    clear hb x0 x1 a0 UB
                    obtain ⟨ae, hae, a0, a1, a2, a3, a4, a5⟩ := at_T37 (Kd.C_below (Kd.C_below HC.out B.out) HB.out) (j : Int) (by omega) (by omega)
                    cases hae
                    simp only [Int.toNat_natCast] at a0 a1 a2 a3 a4 a5
                    go_wp2
                    clear a0 a1 a2 a3 a4 a5
                    go_roundg (N.length - (i + 1))
                    case measure => have := HI.out; omega
                    case rel => exact ⟨i + 1, by go_num, ⟨by omega⟩, HB⟩
                  · have h2 : decide (i < N.length) = false := by simpa using hit
                    have h2' : decide ((i : Int) < (N.length : Int)) = false := by simpa using hit
                    clear x0 x1 UB
                    have T := Aside0.mk (blk_below T.out HB.out)
                    have GA := Aside0.mk (blk_below GA.out HB.out)
                    have GB := Aside0.mk (blk_below GB.out HB.out)
                    have RH := Aside0.mk (Kd.R_below RH.out HB.out)
                    have RW := Aside0.mk (Kd.R_below RW.out HB.out)
                    have RX1 := Aside0.mk (Kd.R_below RX1.out HB.out)
                    have RX2 := Aside0.mk (Kd.R_below RX2.out HB.out)
                    have RG := Aside0.mk (Kd.R_below RG.out HB.out)
                    have RN := Aside0.mk (Kd.R_below RN.out HB.out)
                    have B := Aside0.mk (below_step B.out HB.out)
                    have x0 := (blk_cell T.out 0).trans rfl; have x1 := (blk_cell T.out 1).trans rfl
                    have fx0 := blk_frozen T.out 0; have fx1 := blk_frozen T.out 1
                    have y0 := (blk_cell GA.out 0).trans rfl; have y1 := (blk_cell GA.out 1).trans rfl
                    have q0 := (blk_cell GB.out 0).trans rfl; have q1 := (blk_cell GB.out 1).trans rfl
                    go_upto_region 6 with (fail)
                    clear x0 x1 fx0 fx1 y0 y1 q0 q1
                    have P_ := Aside0.mk (put_two (n := w.heap.size) (w := w) (.slice xa1 X1.length xc1) (.slice xa2 X2.length xc2) T.out B.out (Nat.le_refl _))
                    have GA_ := Aside0.mk (two_far' (.slice xa1 X1.length xc1) (.slice xa2 X2.length xc2) GA.out (NTA.out.symm))
                    have GB_ := Aside0.mk (two_far (.slice xa1 X1.length xc1) (.slice xa2 X2.length xc2) GB.out T.out (by decide))
                    have RH_ := Aside0.mk (R_two (.slice xa1 X1.length xc1) (.slice xa2 X2.length xc2) RH.out T.out (by decide))
                    have RW_ := Aside0.mk (R_two (.slice xa1 X1.length xc1) (.slice xa2 X2.length xc2) RW.out T.out (by decide))
                    have RX1_ := Aside0.mk (R_two (.slice xa1 X1.length xc1) (.slice xa2 X2.length xc2) RX1.out T.out (by decide))
                    have RX2_ := Aside0.mk (R_two (.slice xa1 X1.length xc1) (.slice xa2 X2.length xc2) RX2.out T.out (by decide))
                    have RG_ := Aside0.mk (R_two (.slice xa1 X1.length xc1) (.slice xa2 X2.length xc2) RG.out T.out (by decide))
                    have RN_ := Aside0.mk (R_two (.slice xa1 X1.length xc1) (.slice xa2 X2.length xc2) RN.out T.out (by decide))
                    have B_ := Aside0.mk P_.out.2
                    have T_ := Aside0.mk P_.out.1
                    clear P_ B T GA GB RH RW RX1 RX2 RG RN
                    generalize (wr.setCell ⟨w.heap.size, 0, none⟩ (.slice xa1 X1.length xc1)).setCell ⟨w.heap.size, 1, none⟩ (.slice xa2 X2.length xc2) = wz at B_ T_ GA_ GB_ RH_ RW_ RX1_ RX2_ RG_ RN_ ⊢
                    have B := B_
                    have T := T_
                    have GA := GA_
                    have GB := GB_
                    have RH := RH_
                    have RW := RW_
                    have RX1 := RX1_
                    have RX2 := RX2_
                    have RG := RG_
                    have RN := RN_
                    clear B_ T_ GA_ GB_ RH_ RW_ RX1_ RX2_ RG_ RN_
                    go_wp2
                    go_roundg (l.length - (j + 1))
                    case measure => have := HJ.out; omega
                    case rel => exact ⟨j + 1, _, _, by go_num, ⟨by omega⟩, T, ⟨by rw [HST.out]; exact RX1.out⟩, ⟨by rw [HST.out]; exact RX2.out⟩, B⟩
end Go.Proofs.Ytifnfnoicinbaaa.M
