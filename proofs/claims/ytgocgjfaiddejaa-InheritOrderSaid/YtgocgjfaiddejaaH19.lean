/- inherit.Agrees. -/
import Derived.Test.YtgocgjfaiddejaaH18
namespace Go.Proofs.Ytgocgjfaiddejaa.M
open Go.RowKit Go.Proofs.YtgocgjfaiddejaaW.PrintWords Go.Proofs.YtgocgjfaiddejaaW.PrintLast Go.Proofs.YtgocgjfaiddejaaW.PrintMore
set_option linter.unusedVariables false
set_option linter.unusedSimpArgs false

theorem vTree_at {l : List S35} (h : vTree l = true) {j : Nat} (hj : j < l.length) : vTw l j = true := by
  unfold vTree at h
  simp only [Bool.and_eq_true] at h
  exact List.all_eq_true.1 h.2 j (List.mem_range.2 hj)
theorem vTw_desc {l : List S35} {j : Nat} (h : vTw l j = true) : vD (rd_T35 l j).f2 = true := by
  unfold vTw at h; simp only [Bool.and_eq_true] at h; exact h.1
theorem vTw_len {l : List S35} {j : Nat} (h : vTw l j = true) : (rd_T35 l j).f2.f2.length ≤ 16 := vDesc_len (vTw_desc h)
theorem vTw_up {l : List S35} {j : Nat} (h : vTw l j = true) (hj : 0 < j) : ∃ u : Nat, (rd_T35 l j).f0 = u ∧ u < j ∧ (rd_T35 l u).f1 = true := by
  unfold vTw at h
  simp only [Bool.and_eq_true, Bool.or_eq_true, decide_eq_true_eq] at h
  obtain ⟨_, h | ⟨⟨h1, h2⟩, h3⟩⟩ := h
  · omega
  · refine ⟨(rd_T35 l j).f0.toNat, by omega, by omega, ?_⟩
    rwa [Int.toNat_of_nonneg h1]
theorem vTree_pos {l : List S35} (h : vTree l = true) : 0 < l.length ∧ l.length ≤ 400 ∧ (rd_T35 l 0).f0 = -1 ∧ (rd_T35 l 0).f1 = true := by
  unfold vTree at h
  simp only [Bool.and_eq_true, decide_eq_true_eq] at h
  exact ⟨by omega, h.1.1.1.2, h.1.1.2, h.1.2⟩
/-- The object at a place agrees with its directory. -/
def agTw (l : List S35) (j : Nat) : Bool := decide (j = 0) || agB (rd_T35 l (rd_T35 l j).f0).f2 (rd_T35 l j).f2 (rd_T35 l j).f1
def firstBad (l : List S35) : Int := match (List.range l.length).find? (fun j => !(agTw l j)) with | some j => j | none => -1
def sAgrees (l : List S35) : Int × Int := if vTree l = true then (firstBad l, 0) else (0, 1)
theorem firstBad_at {l : List S35} {j : Nat} (hj : j < l.length) (h : ∀ i, i < j → agTw l i = true) (hb : agTw l j = false) : firstBad l = j := by
  unfold firstBad
  have : (List.range l.length).find? (fun j => !(agTw l j)) = some j := by
    rw [List.find?_range_eq_some]
    exact ⟨by simp [hb], List.mem_range.2 hj, fun i hi => by simp [h i hi]⟩
  rw [this]
theorem firstBad_none {l : List S35} (h : ∀ i, i < l.length → agTw l i = true) : firstBad l = -1 := by
  unfold firstBad
  have : (List.range l.length).find? (fun j => !(agTw l j)) = none := by
    rw [List.find?_eq_none]
    intro x hx; simp [h x (List.mem_range.1 hx)]
  rw [this]

set_option maxRecDepth 100000 in
set_option maxHeartbeats 2000000 in
theorem Agrees_calls (A : Option Addr) (c : Nat) (l : List S35) (w : World) (hr : Kd.C k35 w A l.length l) :
    Calls Try.prog 30 #[.slice A l.length c] w fun e w' => e = .returned (.tuple #[.int .i64 (sAgrees l).1, .int .i64 (sAgrees l).2]) ∧ Below w.heap.size w w' := by
  have HR := Aside0.mk hr
  clear hr
  by_cases hv : vTree l = true
  · have HV := Aside0.mk hv
    have HS := Aside0.mk (show sAgrees l = (firstBad l, 0) by unfold sAgrees; rw [if_pos hv])
    have hle := (vTree_pos hv).2.1
    clear hv
    go_enter Try.func30, Try.ntmps30
    go_wp2_with ((with_reducible refine gate_dst (N := 8) rfl ?_); refine goesL_ (some 8) rfl rfl Try.func32 (by kernel_rfl) rfl #[.slice A l.length c] rfl (by (try simp only [List.map_toArray, List.map_cons, List.map_nil]); first | done | rfl) ?_; refine (Check_calls A c l _ HR.out).mono ?_; rintro e w' ⟨rfl, hb⟩; refine ⟨_, rfl, ?_⟩; have HB1 := Aside0.mk hb; clear hb; rw [HV.out]; simp only [errOf])
    go_loopg [14] l.length (fun kq v14 w' => ∃ j : Nat, v14 = .int .i64 j ∧ Aside0 (kq + j = l.length) ∧ Aside0 (∀ i, i < j → agTw l i = true) ∧ Aside0 (Below w.heap.size w w'))
    case atStart => exact ⟨0, rfl, ⟨rfl⟩, ⟨fun i h0 => absurd h0 (by omega)⟩, HB1⟩
    case round =>
      obtain ⟨j, rfl, HK, HP, HB⟩ := hrel
      by_cases hlt : j < l.length
      · have h1 : decide (j < l.length) = true := by simpa using hlt
        have hvj := vTree_at HV.out hlt
        obtain ⟨ad, A2, c2, rfl, y0, y1, y2, y3, y4, hl2, hr2⟩ := at_T35 (Kd.C_below HR.out HB.out) (j : Int) (by omega) (by omega)
        simp only [Int.toNat_natCast] at y0 y1 y2 y3 y4
        have HR2 := Aside0.mk hr2
        have HC2 := Aside0.mk hl2
        clear hl2 hr2
        go_upto_region 7 with (fail)
        have hb_ := below_alloc (Below.refl _ wr) (.cells #[.int .i64 (rd_T35 l j).f0, .bool (rd_T35 l j).f1, .int .i64 (rd_T35 l j).f2.f0, .bool (rd_T35 l j).f2.f1, .slice A2 (rd_T35 l j).f2.f2.length c2] 35)
        have hG0_ := blk_lit0 wr (.cells #[.int .i64 (rd_T35 l j).f0, .bool (rd_T35 l j).f1, .int .i64 (rd_T35 l j).f2.f0, .bool (rd_T35 l j).f2.f1, .slice A2 (rd_T35 l j).f2.f2.length c2] 35)
        generalize (wr.alloc (.cells #[.int .i64 (rd_T35 l j).f0, .bool (rd_T35 l j).f1, .int .i64 (rd_T35 l j).f2.f0, .bool (rd_T35 l j).f2.f1, .slice A2 (rd_T35 l j).f2.f2.length c2] 35)) = X at hb_ hG0_ ⊢
        have HB_X := Aside0.mk hb_
        have X0 := Aside0.mk hG0_
        clear hb_ hG0_
        by_cases hj : j = 0
        · have HJ := Aside0.mk hj
          have k1 : decide (0 < j) = false := by simpa using hj
          clear hj
          refine start_ (n := 16) (S := fun w' => True) (ds := []) #[false, false, false, false, false, false, false, false, false, false, false, false, false, false, false, false] (by kernel_rfl) rfl rfl trivial (fun hHeld => ?_)
          have HBB := Aside0.mk (HB.out.trans ((below_drew1 HB_X.out).mono HB.out.size))
          generalize X.drew = wd at HBB ⊢
          refine pure_ (i := 0) (N := some 19) (v := ?_) (a' := ?_) #[true, false, false, false, false, false, false, false, false, false, false, false, false, false, false, false] rfl rfl (by kernel_rfl) (fun _ _ _ h => h) (Or.inl ⟨by rfl, ?_⟩) ?_ ?_
          rotate_left
          · intro w'
            go_simp
            with_reducible rfl
          rotate_left
          · simp only [Act.put, List.setIfInBounds_toArray, List.set_cons_zero, List.set_cons_succ, i64_w, i32_w]
            rfl
          refine pure_ (i := 1) (N := some 20) (v := ?_) (a' := ?_) #[true, true, false, false, false, false, false, false, false, false, false, false, false, false, false, false] rfl rfl (by kernel_rfl) (fun _ _ _ h => h) (Or.inl ⟨by rfl, ?_⟩) ?_ ?_
          rotate_left
          · intro w'
            go_simp
            with_reducible rfl
          rotate_left
          · simp only [Act.put, List.setIfInBounds_toArray, List.set_cons_zero, List.set_cons_succ, i64_w, i32_w]
            rfl
          refine pure_ (i := 2) (N := some 21) (v := ?_) (a' := ?_) #[true, true, true, false, false, false, false, false, false, false, false, false, false, false, false, false] rfl rfl (by kernel_rfl) (fun _ _ _ h => h) (Or.inl ⟨by rfl, ?_⟩) ?_ ?_
          rotate_left
          · intro w'
            go_simp
            with_reducible rfl
          rotate_left
          · simp only [Act.put, List.setIfInBounds_toArray, List.set_cons_zero, List.set_cons_succ, i64_w, i32_w]
            rfl
          refine pure_ (i := 3) (N := some 22) (v := undef) (a' := ?_) #[true, true, true, true, false, false, false, false, false, false, false, false, false, false, false, false] rfl rfl (by kernel_rfl) (fun _ _ _ h => h) (Or.inr ⟨by rfl, rfl⟩) ?_ ?_
          rotate_left
          · simp only [Act.put, List.setIfInBounds_toArray, List.set_cons_zero, List.set_cons_succ, i64_w, i32_w]
            rfl
          refine pure_ (i := 4) (N := some 23) (v := undef) (a' := ?_) #[true, true, true, true, true, false, false, false, false, false, false, false, false, false, false, false] rfl rfl (by kernel_rfl) (fun _ _ _ h => h) (Or.inr ⟨by rfl, rfl⟩) ?_ ?_
          rotate_left
          · simp only [Act.put, List.setIfInBounds_toArray, List.set_cons_zero, List.set_cons_succ, i64_w, i32_w]
            rfl
          refine pure_ (i := 5) (N := some 24) (v := undef) (a' := ?_) #[true, true, true, true, true, true, false, false, false, false, false, false, false, false, false, false] rfl rfl (by kernel_rfl) (fun _ _ _ h => h) (Or.inr ⟨by rfl, rfl⟩) ?_ ?_
          rotate_left
          · simp only [Act.put, List.setIfInBounds_toArray, List.set_cons_zero, List.set_cons_succ, i64_w, i32_w]
            rfl
          refine pure_ (i := 6) (N := some 25) (v := undef) (a' := ?_) #[true, true, true, true, true, true, true, false, false, false, false, false, false, false, false, false] rfl rfl (by kernel_rfl) (fun _ _ _ h => h) (Or.inr ⟨by rfl, rfl⟩) ?_ ?_
          rotate_left
          · simp only [Act.put, List.setIfInBounds_toArray, List.set_cons_zero, List.set_cons_succ, i64_w, i32_w]
            rfl
          refine pure_ (i := 7) (N := some 26) (v := undef) (a' := ?_) #[true, true, true, true, true, true, true, true, false, false, false, false, false, false, false, false] rfl rfl (by kernel_rfl) (fun _ _ _ h => h) (Or.inr ⟨by rfl, rfl⟩) ?_ ?_
          rotate_left
          · simp only [Act.put, List.setIfInBounds_toArray, List.set_cons_zero, List.set_cons_succ, i64_w, i32_w]
            rfl
          refine pure_ (i := 8) (N := some 27) (v := undef) (a' := ?_) #[true, true, true, true, true, true, true, true, true, false, false, false, false, false, false, false] rfl rfl (by kernel_rfl) (fun _ _ _ h => h) (Or.inr ⟨by rfl, rfl⟩) ?_ ?_
          rotate_left
          · simp only [Act.put, List.setIfInBounds_toArray, List.set_cons_zero, List.set_cons_succ, i64_w, i32_w]
            rfl
          refine pure_ (i := 9) (N := some 28) (v := undef) (a' := ?_) #[true, true, true, true, true, true, true, true, true, true, false, false, false, false, false, false] rfl rfl (by kernel_rfl) (fun _ _ _ h => h) (Or.inr ⟨by rfl, rfl⟩) ?_ ?_
          rotate_left
          · simp only [Act.put, List.setIfInBounds_toArray, List.set_cons_zero, List.set_cons_succ, i64_w, i32_w]
            rfl
          refine pure_ (i := 10) (N := some 29) (v := undef) (a' := ?_) #[true, true, true, true, true, true, true, true, true, true, true, false, false, false, false, false] rfl rfl (by kernel_rfl) (fun _ _ _ h => h) (Or.inr ⟨by rfl, rfl⟩) ?_ ?_
          rotate_left
          · simp only [Act.put, List.setIfInBounds_toArray, List.set_cons_zero, List.set_cons_succ, i64_w, i32_w]
            rfl
          refine pure_ (i := 11) (N := some 30) (v := undef) (a' := ?_) #[true, true, true, true, true, true, true, true, true, true, true, true, false, false, false, false] rfl rfl (by kernel_rfl) (fun _ _ _ h => h) (Or.inr ⟨by rfl, rfl⟩) ?_ ?_
          rotate_left
          · simp only [Act.put, List.setIfInBounds_toArray, List.set_cons_zero, List.set_cons_succ, i64_w, i32_w]
            rfl
          refine pure_ (i := 12) (N := some 31) (v := undef) (a' := ?_) #[true, true, true, true, true, true, true, true, true, true, true, true, true, false, false, false] rfl rfl (by kernel_rfl) (fun _ _ _ h => h) (Or.inr ⟨by rfl, rfl⟩) ?_ ?_
          rotate_left
          · simp only [Act.put, List.setIfInBounds_toArray, List.set_cons_zero, List.set_cons_succ, i64_w, i32_w]
            rfl
          refine pure_ (i := 13) (N := some 32) (v := undef) (a' := ?_) #[true, true, true, true, true, true, true, true, true, true, true, true, true, true, false, false] rfl rfl (by kernel_rfl) (fun _ _ _ h => h) (Or.inr ⟨by rfl, rfl⟩) ?_ ?_
          rotate_left
          · simp only [Act.put, List.setIfInBounds_toArray, List.set_cons_zero, List.set_cons_succ, i64_w, i32_w]
            rfl
          refine pure_ (i := 14) (N := some 33) (v := undef) (a' := ?_) #[true, true, true, true, true, true, true, true, true, true, true, true, true, true, true, false] rfl rfl (by kernel_rfl) (fun _ _ _ h => h) (Or.inr ⟨by rfl, rfl⟩) ?_ ?_
          rotate_left
          · simp only [Act.put, List.setIfInBounds_toArray, List.set_cons_zero, List.set_cons_succ, i64_w, i32_w]
            rfl
          refine pure_ (i := 15) (N := some 34) (v := ?_) (a' := ?_) #[true, true, true, true, true, true, true, true, true, true, true, true, true, true, true, true] rfl rfl (by kernel_rfl) (fun _ _ _ h => h) (Or.inl ⟨by rfl, ?_⟩) ?_ ?_
          rotate_left
          · intro w'
            go_simp
            with_reducible rfl
          rotate_left
          · simp only [Act.put, List.setIfInBounds_toArray, List.set_cons_zero, List.set_cons_succ, i64_w, i32_w]
            rfl
          refine done_ (by kernel_rfl) ?_
          go_wp2
          go_roundg (l.length - (j + 1))
          case measure => have := HK.out; omega
          case rel =>
            exact ⟨j + 1, by go_num, ⟨by omega⟩, ⟨fun i hi => by
              rcases Nat.lt_or_ge i j with h2 | h2
              · exact HP.out i h2
              · obtain rfl : i = j := by omega
                simp [agTw, HJ.out]⟩, HBB⟩
        · obtain ⟨u, hu, hu1, hu2⟩ := vTw_up hvj (by omega)
          obtain ⟨ad', A5, c5, hA, z0, z1, z2, z3, z4, hl5, hr5⟩ := at_T35 HR.out (u : Int) (by omega) (by omega)
          cases hA
          simp only [Int.toNat_natCast] at z2 z3 z4
          have HJ := Aside0.mk hj
          have HU := Aside0.mk hu
          have Z2 := Aside0.mk z2
          have Z3 := Aside0.mk z3
          have Z4 := Aside0.mk z4
          have HR5 := Aside0.mk hr5
          have HC5 := Aside0.mk hl5
          have HM5 := Aside0.mk (vTw_len (vTree_at HV.out (show u < l.length by omega)))
          have HM2 := Aside0.mk (vTw_len hvj)
          have k1 : decide (0 < j) = true := by simp; omega
          have k2 : (u : Int) < l.length := by omega
          have k3 : u < l.length := by omega
          have HB2 := Aside0.mk (HB.out.trans ((below_drew1 HB_X.out).mono HB.out.size))
          clear hj hu z0 z1 z2 z3 z4 hl5 hr5 y0 y1 y2 y3 y4
          refine start_ (n := 16) (S := fun w' => w'.cell? ⟨wr.heap.size, 0, none⟩ = some (.int .i64 (u : Int)) ∧ w'.cell? ⟨wr.heap.size, 1, none⟩ = some (.bool (rd_T35 l j).f1) ∧ w'.cell? ⟨wr.heap.size, 2, none⟩ = some (.int .i64 (rd_T35 l j).f2.f0) ∧ w'.cell? ⟨wr.heap.size, 3, none⟩ = some (.bool (rd_T35 l j).f2.f1) ∧ w'.cell? ⟨wr.heap.size, 4, none⟩ = some (.slice A2 (rd_T35 l j).f2.f2.length c2) ∧ w'.cell? ⟨(ad.add (u * 5)).block, (ad.add (u * 5)).off + 2, none⟩ = some (.int .i64 (rd_T35 l u).f2.f0) ∧ w'.cell? ⟨(ad.add (u * 5)).block, (ad.add (u * 5)).off + 3, none⟩ = some (.bool (rd_T35 l u).f2.f1) ∧ w'.cell? ⟨(ad.add (u * 5)).block, (ad.add (u * 5)).off + 4, none⟩ = some (.slice A5 (rd_T35 l u).f2.f2.length c5)) (ds := []) #[false, false, false, false, false, false, false, false, false, false, false, false, false, false, false, false] (by kernel_rfl) rfl rfl ⟨(blk_cell (blk_drew X0.out) 0).trans (by rw [← HU.out]; rfl), (blk_cell (blk_drew X0.out) 1).trans rfl, (blk_cell (blk_drew X0.out) 2).trans rfl, (blk_cell (blk_drew X0.out) 3).trans rfl, (blk_cell (blk_drew X0.out) 4).trans rfl, (HB2.out.cell (World.block_lt_of_cell? w _ Z2.out)).trans Z2.out, (HB2.out.cell (World.block_lt_of_cell? w _ Z3.out)).trans Z3.out, (HB2.out.cell (World.block_lt_of_cell? w _ Z4.out)).trans Z4.out⟩ (fun hHeld => ?_)
          have HX := Aside0.mk (blk_drew X0.out)
          have HBW := Aside0.mk (below_drew1 HB_X.out)
          clear HB_X X0
          generalize X.drew = wd at HB2 HBW HX hHeld ⊢
          refine pure_ (i := 0) (N := some 19) (v := ?_) (a' := ?_) #[true, false, false, false, false, false, false, false, false, false, false, false, false, false, false, false] rfl rfl (by kernel_rfl) (fun _ _ _ h => h) (Or.inl ⟨by rfl, ?_⟩) ?_ ?_
          rotate_left
          · intro w'
            go_simp
            with_reducible rfl
          rotate_left
          · simp only [Act.put, List.setIfInBounds_toArray, List.set_cons_zero, List.set_cons_succ, i64_w, i32_w]
            rfl
          refine pure_ (i := 1) (N := some 20) (v := ?_) (a' := ?_) #[true, true, false, false, false, false, false, false, false, false, false, false, false, false, false, false] rfl rfl (by kernel_rfl) (fun _ _ _ h => h) (Or.inl ⟨by rfl, ?_⟩) ?_ ?_
          rotate_left
          · intro w'
            go_simp
            with_reducible rfl
          rotate_left
          · simp only [Act.put, List.setIfInBounds_toArray, List.set_cons_zero, List.set_cons_succ, i64_w, i32_w]
            rfl
          refine pure_ (i := 2) (N := some 21) (v := ?_) (a' := ?_) #[true, true, true, false, false, false, false, false, false, false, false, false, false, false, false, false] rfl rfl (by kernel_rfl) (fun _ _ _ h => h) (Or.inl ⟨by rfl, ?_⟩) ?_ ?_
          rotate_left
          · intro w'
            go_simp
            with_reducible rfl
          rotate_left
          · simp only [Act.put, List.setIfInBounds_toArray, List.set_cons_zero, List.set_cons_succ, i64_w, i32_w]
            rfl
          refine pure_ (i := 3) (N := some 22) (v := ?_) (a' := ?_) #[true, true, true, true, false, false, false, false, false, false, false, false, false, false, false, false] rfl rfl (by kernel_rfl) (fun _ _ _ h => h) (Or.inl ⟨by rfl, ?_⟩) ?_ ?_
          rotate_left
          · intro w'
            go_simp
            with_reducible rfl
          rotate_left
          · simp only [Act.put, List.setIfInBounds_toArray, List.set_cons_zero, List.set_cons_succ, i64_w, i32_w]
            rfl
          refine pure_ (i := 4) (N := some 23) (v := ?_) (a' := ?_) #[true, true, true, true, true, false, false, false, false, false, false, false, false, false, false, false] rfl rfl (by kernel_rfl) (fun _ _ _ h => h) (Or.inl ⟨by rfl, ?_⟩) ?_ ?_
          rotate_left
          · intro w'
            go_simp
            with_reducible rfl
          rotate_left
          · simp only [Act.put, List.setIfInBounds_toArray, List.set_cons_zero, List.set_cons_succ, i64_w, i32_w]
            rfl
          refine take_ (i := 5) (N := some 24) (v := ?_) (a' := ?_) #[true, true, true, true, true, true, false, false, false, false, false, false, false, false, false, false] rfl rfl (by kernel_rfl) (fun _ _ _ h => h) (Or.inl ⟨by rfl, ?_⟩) hHeld ?_ ?_
          rotate_left
          · rintro w' ⟨s0, s1, s2, s3, s4, s5, s6, s7⟩
            go_simp
            with_reducible rfl
          rotate_left
          · simp only [Act.put, List.setIfInBounds_toArray, List.set_cons_zero, List.set_cons_succ, i64_w, i32_w]
            rfl
          refine pure_ (i := 6) (N := some 25) (v := ?_) (a' := ?_) #[true, true, true, true, true, true, true, false, false, false, false, false, false, false, false, false] rfl rfl (by kernel_rfl) (fun _ _ _ h => h) (Or.inl ⟨by rfl, ?_⟩) ?_ ?_
          rotate_left
          · intro w'
            go_simp
            with_reducible rfl
          rotate_left
          · simp only [Act.put, List.setIfInBounds_toArray, List.set_cons_zero, List.set_cons_succ, i64_w, i32_w]
            rfl
          refine pure_ (i := 7) (N := some 26) (v := ?_) (a' := ?_) #[true, true, true, true, true, true, true, true, false, false, false, false, false, false, false, false] rfl rfl (by kernel_rfl) (fun _ _ _ h => h) (Or.inl ⟨by rfl, ?_⟩) ?_ ?_
          rotate_left
          · intro w'
            go_simp
            with_reducible rfl
          rotate_left
          · simp only [Act.put, List.setIfInBounds_toArray, List.set_cons_zero, List.set_cons_succ, i64_w, i32_w]
            rfl
          refine take_ (i := 8) (N := some 27) (v := ?_) (a' := ?_) #[true, true, true, true, true, true, true, true, true, false, false, false, false, false, false, false] rfl rfl (by kernel_rfl) (fun _ _ _ h => h) (Or.inl ⟨by rfl, ?_⟩) hHeld ?_ ?_
          rotate_left
          · rintro w' ⟨s0, s1, s2, s3, s4, s5, s6, s7⟩
            go_simp
            with_reducible rfl
          rotate_left
          · simp only [Act.put, List.setIfInBounds_toArray, List.set_cons_zero, List.set_cons_succ, i64_w, i32_w]
            rfl
          refine pure_ (i := 9) (N := some 28) (v := ?_) (a' := ?_) #[true, true, true, true, true, true, true, true, true, true, false, false, false, false, false, false] rfl rfl (by kernel_rfl) (fun _ _ _ h => h) (Or.inl ⟨by rfl, ?_⟩) ?_ ?_
          rotate_left
          · intro w'
            go_simp
            with_reducible rfl
          rotate_left
          · simp only [Act.put, List.setIfInBounds_toArray, List.set_cons_zero, List.set_cons_succ, i64_w, i32_w]
            rfl
          refine take_ (i := 10) (N := some 29) (v := ?_) (a' := ?_) #[true, true, true, true, true, true, true, true, true, true, true, false, false, false, false, false] rfl rfl (by kernel_rfl) (fun _ _ _ h => h) (Or.inl ⟨by rfl, ?_⟩) hHeld ?_ ?_
          rotate_left
          · rintro w' ⟨s0, s1, s2, s3, s4, s5, s6, s7⟩
            go_simp
            with_reducible rfl
          rotate_left
          · simp only [Act.put, List.setIfInBounds_toArray, List.set_cons_zero, List.set_cons_succ, i64_w, i32_w]
            rfl
          refine pure_ (i := 11) (N := some 30) (v := ?_) (a' := ?_) #[true, true, true, true, true, true, true, true, true, true, true, true, false, false, false, false] rfl rfl (by kernel_rfl) (fun _ _ _ h => h) (Or.inl ⟨by rfl, ?_⟩) ?_ ?_
          rotate_left
          · intro w'
            go_simp
            with_reducible rfl
          rotate_left
          · simp only [Act.put, List.setIfInBounds_toArray, List.set_cons_zero, List.set_cons_succ, i64_w, i32_w]
            rfl
          refine take_ (i := 12) (N := some 31) (v := ?_) (a' := ?_) #[true, true, true, true, true, true, true, true, true, true, true, true, true, false, false, false] rfl rfl (by kernel_rfl) (fun _ _ _ h => h) (Or.inl ⟨by rfl, ?_⟩) hHeld ?_ ?_
          rotate_left
          · rintro w' ⟨s0, s1, s2, s3, s4, s5, s6, s7⟩
            go_simp
            with_reducible rfl
          rotate_left
          · simp only [Act.put, List.setIfInBounds_toArray, List.set_cons_zero, List.set_cons_succ, i64_w, i32_w]
            rfl
          refine one_ (i := 13) (N := some 32) #[true, true, true, true, true, true, true, true, true, true, true, true, true, true, false, false] rfl rfl (by kernel_rfl) (by decide) (fun K hK => ?_)
          refine goes_ Try.func64 (by kernel_rfl) rfl #[.agg #[.int .i64 (rd_T35 l u).f2.f0, .bool (rd_T35 l u).f2.f1, .slice A5 (rd_T35 l u).f2.f2.length c5], .agg #[.int .i64 (rd_T35 l j).f2.f0, .bool (rd_T35 l j).f2.f1, .slice A2 (rd_T35 l j).f2.f2.length c2], .bool (rd_T35 l j).f1] (by rfl) rfl rfl (by (try simp only [List.map_toArray, List.map_cons, List.map_nil]); first | done | rfl) ?_
          refine (agrees_calls _ _ _ _ A5 A2 c5 c2 (rd_T35 l u).f2.f2 (rd_T35 l j).f2.f2 _ _ (Kd.C_below HR5.out HB2.out) (Kd.C_below HR2.out HBW.out) HC2.out HM5.out HM2.out).mono ?_
          rintro e w8 ⟨rfl, hb⟩
          refine ⟨_, rfl, ?_⟩
          have HBB := Aside0.mk (below_step HB2.out hb)
          have HX8 := Aside0.mk (blk_below HX.out hb)
          clear hb HB2 HBW HX
          skip
          cases hag : agB (rd_T35 l u).f2 (rd_T35 l j).f2 (rd_T35 l j).f1
          · have HE := Aside0.mk (firstBad_at hlt HP.out (by unfold agTw; rw [HU.out, hag]; simp [HJ.out]))
            refine hK.out _ _ ⟨(blk_cell HX8.out 0).trans (by rw [← HU.out]; rfl), (blk_cell HX8.out 1).trans rfl, (blk_cell HX8.out 2).trans rfl, (blk_cell HX8.out 3).trans rfl, (blk_cell HX8.out 4).trans rfl, (HBB.out.cell (World.block_lt_of_cell? w _ Z2.out)).trans Z2.out, (HBB.out.cell (World.block_lt_of_cell? w _ Z3.out)).trans Z3.out, (HBB.out.cell (World.block_lt_of_cell? w _ Z4.out)).trans Z4.out⟩ (fun hHeld => ?_)
            clear hK K
            refine norm_ (a' := ?_) ?_ ?_
            rotate_left
            · show Act.put _ (some 32) _ = _
              simp only [Act.put, List.setIfInBounds_toArray, List.set_cons_zero, List.set_cons_succ, i64_w, i32_w]
              rfl
            refine pure_ (i := 14) (N := some 33) (v := ?_) (a' := ?_) #[true, true, true, true, true, true, true, true, true, true, true, true, true, true, true, false] rfl rfl (by kernel_rfl) (fun _ _ _ h => h) (Or.inl ⟨by rfl, ?_⟩) ?_ ?_
            rotate_left
            · intro w'
              go_simp
              with_reducible rfl
            rotate_left
            · simp only [Act.put, List.setIfInBounds_toArray, List.set_cons_zero, List.set_cons_succ, i64_w, i32_w]
              rfl
            refine pure_ (i := 15) (N := some 34) (v := ?_) (a' := ?_) #[true, true, true, true, true, true, true, true, true, true, true, true, true, true, true, true] rfl rfl (by kernel_rfl) (fun _ _ _ h => h) (Or.inl ⟨by rfl, ?_⟩) ?_ ?_
            rotate_left
            · intro w'
              go_simp
              with_reducible rfl
            rotate_left
            · simp only [Act.put, List.setIfInBounds_toArray, List.set_cons_zero, List.set_cons_succ, i64_w, i32_w]
              rfl
            refine done_ (by kernel_rfl) ?_
            go_wp2
            go_ret2
            exact ⟨by rw [HS.out, HE.out]; rfl, HBB.out⟩
          · skip
            refine hK.out _ _ ⟨(blk_cell HX8.out 0).trans (by rw [← HU.out]; rfl), (blk_cell HX8.out 1).trans rfl, (blk_cell HX8.out 2).trans rfl, (blk_cell HX8.out 3).trans rfl, (blk_cell HX8.out 4).trans rfl, (HBB.out.cell (World.block_lt_of_cell? w _ Z2.out)).trans Z2.out, (HBB.out.cell (World.block_lt_of_cell? w _ Z3.out)).trans Z3.out, (HBB.out.cell (World.block_lt_of_cell? w _ Z4.out)).trans Z4.out⟩ (fun hHeld => ?_)
            clear hK K
            refine norm_ (a' := ?_) ?_ ?_
            rotate_left
            · show Act.put _ (some 32) _ = _
              simp only [Act.put, List.setIfInBounds_toArray, List.set_cons_zero, List.set_cons_succ, i64_w, i32_w]
              rfl
            refine pure_ (i := 14) (N := some 33) (v := ?_) (a' := ?_) #[true, true, true, true, true, true, true, true, true, true, true, true, true, true, true, false] rfl rfl (by kernel_rfl) (fun _ _ _ h => h) (Or.inl ⟨by rfl, ?_⟩) ?_ ?_
            rotate_left
            · intro w'
              go_simp
              with_reducible rfl
            rotate_left
            · simp only [Act.put, List.setIfInBounds_toArray, List.set_cons_zero, List.set_cons_succ, i64_w, i32_w]
              rfl
            refine pure_ (i := 15) (N := some 34) (v := ?_) (a' := ?_) #[true, true, true, true, true, true, true, true, true, true, true, true, true, true, true, true] rfl rfl (by kernel_rfl) (fun _ _ _ h => h) (Or.inl ⟨by rfl, ?_⟩) ?_ ?_
            rotate_left
            · intro w'
              go_simp
              with_reducible rfl
            rotate_left
            · simp only [Act.put, List.setIfInBounds_toArray, List.set_cons_zero, List.set_cons_succ, i64_w, i32_w]
              rfl
            refine done_ (by kernel_rfl) ?_
            go_wp2
            go_roundg (l.length - (j + 1))
            case measure => have := HK.out; omega
            case rel =>
              exact ⟨j + 1, by go_num, ⟨by omega⟩, ⟨fun i hi => by
                rcases Nat.lt_or_ge i j with h2 | h2
                · exact HP.out i h2
                · obtain rfl : i = j := by omega
                  unfold agTw; rw [HU.out, hag]; simp⟩, HBB⟩
      · have h1 : decide (j < l.length) = false := by simpa using hlt
        have HE := Aside0.mk (firstBad_none (l := l) fun i hi => HP.out i (by omega))
        go_wp2
        go_ret2
        exact ⟨by rw [HS.out, HE.out]; rfl, HB.out⟩
  · have HV := Aside0.mk (show vTree l = false by simpa using hv)
    have HS := Aside0.mk (show sAgrees l = (0, 1) by unfold sAgrees; rw [if_neg hv])
    go_enter Try.func30, Try.ntmps30
    go_wp2_with ((with_reducible refine gate_dst (N := 8) rfl ?_); refine goesL_ (some 8) rfl rfl Try.func32 (by kernel_rfl) rfl #[.slice A l.length c] rfl (by (try simp only [List.map_toArray, List.map_cons, List.map_nil]); first | done | rfl) ?_; refine (Check_calls A c l _ HR.out).mono ?_; rintro e w' ⟨rfl, hb⟩; refine ⟨_, rfl, ?_⟩; have HB1 := Aside0.mk hb; clear hb; rw [HV.out]; simp only [errOf])
    go_ret2
    exact ⟨by rw [HS.out]; rfl, HB1.out⟩
end Go.Proofs.Ytgocgjfaiddejaa.M
