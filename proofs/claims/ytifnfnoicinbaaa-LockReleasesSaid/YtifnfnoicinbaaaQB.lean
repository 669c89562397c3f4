/- The reference's search for a deadlock: stuck. And what follows of it. -/
import Derived.Test.YtifnfnoicinbaaaQ1
import Derived.Test.YtifnfnoicinbaaaA8
import Derived.Test.YtifnfnoicinbaaaE0
namespace Go.Proofs.Ytifnfnoicinbaaa.M
open Go.RowKit Go.Proofs.YtifnfnoicinbaaaW.PrintWords Go.Proofs.YtifnfnoicinbaaaW.PrintLast Go.Proofs.YtifnfnoicinbaaaW.PrintMore
set_option linter.unusedVariables false
set_option linter.unusedSimpArgs false
set_option linter.unnecessarySimpa false
attribute [local go_sem high] eqA24

abbrev UR (H W : List S24) : List Int := (H ++ W).map hdL
structure StuckI (H W : List S24) (t : Int) (q i : Nat) (L M : List Int) : Prop where
  le : i ≤ L.length
  mem : ∀ x ∈ L, x ∈ UR H W
  fuel : PL.leftN (UR H W) M * (H.length + W.length + 1) + (L.length - i) < q
  card : M.length + PL.leftN (UR H W) M ≤ 1000
  eq : PL.circB hdL cfL H W t = PL.bfs hdL cfL H W t q M (L.drop i)
  tot : q + i = PL.fuelN H W
theorem fuel_le {H W : List S24} (h : H.length + W.length ≤ 1000) : PL.fuelN H W ≤ 1010000 := by
  unfold PL.fuelN
  have : (H.length + W.length + 1) * (H.length + W.length + 2) ≤ 1001 * 1002 := Nat.mul_le_mul (by omega) (by omega)
  omega
theorem StuckI.short {H W : List S24} {t : Int} {q i : Nat} {L M : List Int} (h : StuckI H W t q i L M) (hl : H.length + W.length ≤ 1000) : L.length ≤ 1010000 := by
  have := fuel_le hl
  have := h.tot
  have := h.fuel
  omega
theorem blks_mem_UR {H W : List S24} {a : Nat} {x : Int} (hx : x ∈ (PL.blks cfL H W a).map hdL) : x ∈ UR H W := by
  obtain ⟨y, hy, rfl⟩ := List.mem_map.1 hx
  exact List.mem_map_of_mem (PL.blks_mem hy)
theorem StuckI.start {H W : List S24} {a : Nat} (hS : PL.Single hdL W) (ha : a < W.length) (hl : H.length + W.length ≤ 1000) : StuckI H W (hdL (rd_T24 W (a : Int))) (PL.fuelN H W) 0 ((PL.blks cfL H W a).map hdL) [] where
  le := Nat.zero_le _
  mem := fun x hx => blks_mem_UR hx
  fuel := by
    have h1 : PL.leftN (UR H W) [] ≤ H.length + W.length := by have := PL.leftN_le (UR H W) []; simpa using this
    have h2 : ((PL.blks cfL H W a).map hdL).length ≤ H.length + W.length := by rw [List.length_map]; exact PL.blks_len _
    have h3 : PL.leftN (UR H W) [] * (H.length + W.length + 1) ≤ (H.length + W.length) * (H.length + W.length + 1) := Nat.mul_le_mul_right _ h1
    unfold PL.fuelN
    generalize H.length + W.length = n at *
    have h4 : (n + 1) * (n + 2) = n * (n + 1) + 2 * (n + 1) := by rw [Nat.mul_comm, Nat.add_mul]
    omega
  card := by have h1 := PL.leftN_le (UR H W) []; simp at h1 ⊢; omega
  eq := by
    unfold PL.circB PL.succs
    rw [rd_at ha, PL.waitI_of hS (List.getElem?_eq_getElem ha)]
    rfl
  tot := by omega
theorem int_at {L : List Int} {i : Nat} (h : i < L.length) : L.drop i = rd L (i : Int) :: L.drop (i + 1) := by
  rw [show rd L (i : Int) = L[i] by simp [rd, h]]
  exact (List.getElem_cons_drop ..).symm
theorem StuckI.pos {H W : List S24} {t : Int} {q i : Nat} {L M : List Int} (h : StuckI H W t q i L M) : ∃ p, q = p + 1 := by
  have := h.fuel
  exact ⟨q - 1, by omega⟩
theorem StuckI.hit {H W : List S24} {t : Int} {q i : Nat} {L M : List Int} (h : StuckI H W t q i L M) (hi : i < L.length) (e : rd L (i : Int) = t) : PL.circB hdL cfL H W t = true := by
  obtain ⟨p, rfl⟩ := h.pos
  rw [h.eq, int_at hi]
  unfold PL.bfs
  rw [if_pos e]
theorem StuckI.last {H W : List S24} {t : Int} {q i : Nat} {L M : List Int} (h : StuckI H W t q i L M) (hi : ¬ i < L.length) : PL.circB hdL cfL H W t = false := by
  obtain ⟨p, rfl⟩ := h.pos
  rw [h.eq, List.drop_of_length_le (by omega)]
  rfl
theorem StuckI.skip {H W : List S24} {t : Int} {q i : Nat} {L M : List Int} (h : StuckI H W t q i L M) (hi : i < L.length) (e : rd L (i : Int) ≠ t) (hm : rd L (i : Int) ∈ M) : StuckI H W t (q - 1) (i + 1) L M := by
  obtain ⟨p, rfl⟩ := h.pos
  refine ⟨by omega, h.mem, by have := h.fuel; omega, h.card, ?_, by have := h.tot; omega⟩
  rw [h.eq, int_at hi]
  conv => lhs; unfold PL.bfs
  rw [if_neg e, if_pos hm]
  rfl
theorem StuckI.mark {H W : List S24} {t : Int} {q i : Nat} {L M : List Int} (h : StuckI H W t q i L M) (hi : i < L.length) (e : rd L (i : Int) ≠ t) (hm : rd L (i : Int) ∉ M) {N : List Int} (hN : N = PL.succs hdL cfL H W (rd L (i : Int))) (hU : ∀ x ∈ N, x ∈ UR H W) (hl : N.length ≤ H.length + W.length) : StuckI H W t (q - 1) (i + 1) (L ++ N) (rd L (i : Int) :: M) := by
  obtain ⟨p, rfl⟩ := h.pos
  have hx : rd L (i : Int) ∈ UR H W := h.mem _ (by rw [show rd L (i : Int) = L[i] by simp [rd, hi]]; exact List.getElem_mem hi)
  have h1 := PL.leftN_cons hx hm
  have hmem0 := h.mem
  refine ⟨by simp; omega, fun x hx => ?_, ?_, ?_, ?_, by have := h.tot; omega⟩
  · rcases List.mem_append.1 hx with h | h'
    · exact hmem0 x h
    · exact hU x h'
  · have h2 := h.fuel
    have h3 : (PL.leftN (UR H W) (rd L (i : Int) :: M) + 1) * (H.length + W.length + 1) ≤ PL.leftN (UR H W) M * (H.length + W.length + 1) := Nat.mul_le_mul_right _ h1
    rw [Nat.add_mul] at h3
    rw [List.length_append]
    omega
  · have h2 := h.card
    simp only [List.length_cons]
    omega
  · rw [h.eq, int_at hi]
    conv => lhs; unfold PL.bfs
    rw [if_neg e, if_neg hm, ← hN, List.drop_append_of_le_length (by omega)]
    rfl
theorem blk_row {w w1 : World} {base : Nat} {g : Nat} {o : Obj} (h : w.heap[g]? = some o) (hb : Below base w w1) (hg : g < base) : w1.heap[g]? = some o := (hb.block g hg).trans h
set_option maxRecDepth 100000 in
set_option maxHeartbeats 2000000 in
theorem stuckR_calls (A B : Option Addr) (c d : Nat) (H W : List S24) (a : Nat) (w : World) (h1 : k24.C w A H.length H) (h2 : k24.C w B W.length W) (l1 : H.length ≤ c) (l2 : W.length ≤ d) (hG : Good H W) (ha : a < W.length) :
    Calls Try.prog 69 #[.agg #[.slice A H.length c, .slice B W.length d], .int .i64 (a : Int)] w fun e w' => e = .returned (.bool (PL.circB hdL cfL H W (hdL (rd_T24 W (a : Int))))) ∧ Below w.heap.size w w' := by
  have HC1 := Aside0.mk h1
  have HC2 := Aside0.mk h2
  have HGD := Aside0.mk hG
  have hlen : H.length + W.length ≤ 1000 := hG.len
  clear h1 h2 hG
  have hmm := @run_makeMap Try.prog
  go_enter Try.func69, Try.ntmps69
  go_upto_region 2 with (fail)
  have hb1 := below_alloc (below_alloc (Below.refl _ w) (.cells #[.slice A H.length c, .slice B W.length d] 29)) (.map #[] 0)
  have g0 := alloc_obj (blk_lit0 w (.cells #[.slice A H.length c, .slice B W.length d] 29)) (.map #[] 0)
  have gm : MapB _ _ _ := MapB.made (w.alloc (.cells #[.slice A H.length c, .slice B W.length d] 29))
  simp only [World.size_alloc] at gm
  generalize (w.alloc (.cells #[.slice A H.length c, .slice B W.length d] 29)).alloc (.map #[] 0) = V at hb1 g0 gm ⊢
  have BV := Aside0.mk hb1
  have G0 := Aside0.mk g0
  have GM := Aside0.mk gm
  have LV := Aside0.mk (show w.heap.size + 1 < V.heap.size from gm.lt)
  clear hb1 g0 gm hmm
  have x0 := (blk_cell G0.out 0).trans rfl; have x1 := (blk_cell G0.out 1).trans rfl
  go_upto_region 3 with (fail)
  refine (blockersR_calls A B c d H W a _ (Kd.C_below HC1.out BV.out) (Kd.C_below HC2.out BV.out) l1 l2 (by omega) (by omega) ha).mono ?_
  rintro e w3 ⟨v, rfl, hv, hb⟩
  have T2 := Aside0.mk (blk_below G0.out hb)
  have GM := Aside0.mk (GM.out.below hb)
  have RL := Aside0.mk hv
  have BW := Aside0.mk (below_step BV.out hb)
  have LB := Aside0.mk hb.size
  clear hb hv x0 x1
  obtain ⟨t, ht⟩ : ∃ t, t = hdL (rd_T24 W (a : Int)) := ⟨_, rfl⟩
  have HTT := Aside0.mk ht.symm
  have HT := Aside0.mk (show (rd_T24 W (a : Int)).f1 = t from ht.symm)
  have HST := Aside0.mk (StuckI.start (a := a) HGD.out.single ha hlen)
  rw [← ht] at HST
  clear ht
  obtain ⟨L0, hL0⟩ : ∃ L0, L0 = (PL.blks cfL H W a).map hdL := ⟨_, rfl⟩
  rw [← hL0] at HST RL
  clear hL0
  go_wp2
  go_loopg [6, 7] (PL.fuelN H W) (fun kq v6 v7 w' => ∃ (q i : Nat) (L M : List Int) (v : Value), v7 = .int .i64 i ∧ v = v6 ∧ Aside0 (q = kq) ∧ Aside0 (kI.R 3 w' V.heap.size (fun _ => True) v L) ∧ Aside0 (MapB w' (w.heap.size + 1) M) ∧ Aside0 (w'.heap[w.heap.size]? = some (.cells #[.slice A H.length c, .slice B W.length d] 29 (0, 0))) ∧ Aside0 (Below w.heap.size w w') ∧ Aside0 (StuckI H W t q i L M) ∧ Aside0 (V.heap.size ≤ w'.heap.size))
  case atStart => exact ⟨_, 0, _, _, _, rfl, rfl, ⟨rfl⟩, RL, GM, T2, BW, HST, LB⟩
  case round =>
    obtain ⟨q, i, L, M, v, rfl, rfl, HQ, RL, GM, T2, BW, HST, LB⟩ := hrel
    obtain ⟨la, lc, rfl⟩ := Kd.R_slice RL.out
    have hLl : L.length ≤ 1010000 := HST.out.short hlen
    have hlc : L.length ≤ lc := (Kd.R_reads' RL.out).2.1
    by_cases hit : i < L.length
    rotate_left
    · have g2 : decide (i < L.length) = false := by simpa using hit
      have g2' : decide ((i : Int) < (L.length : Int)) = false := by simpa using hit
      have HE := Aside0.mk (HST.out.last hit)
      go_wp2
      go_ret
      exact ⟨by rw [HTT.out, HE.out]; rfl, BW.out⟩
    · have g2 : decide (i < L.length) = true := by simpa using hit
      have g2' : decide ((i : Int) < (L.length : Int)) = true := by simpa using hit
      have hic : i < lc := by omega
      obtain ⟨le, hle, d0⟩ := Kd.at_int (Kd.R_reads' RL.out).2.2 (i : Int) (by omega) (by omega)
      cases hle
      simp only [Int.toNat_natCast] at d0
      have had2 : a < d := by omega
      have ha' : decide ((a : Int) < (W.length : Int)) = true := by simpa using ha
      obtain ⟨ae, hae, a0, a1, a2, a3, a4⟩ := at_T24 (Kd.C_below HC2.out BW.out) (a : Int) (by omega) (by omega)
      cases hae
      simp only [Int.toNat_natCast] at a0 a1 a2 a3 a4
      rw [HT.out] at a1
      have HXU := Aside0.mk (HST.out.mem (rd L (i : Int)) (by rw [show rd L (i : Int) = L[i] by simp [rd, hit]]; exact List.getElem_mem hit))
      have HWF := Aside0.mk (show (Lit.int .i64 (rd L (i : Int))).wf = true by
        obtain ⟨y, hy, e⟩ := List.mem_map.1 HXU.out
        rw [← e]
        exact HGD.out.wf y hy)
      have x0 := (blk_cell T2.out 0).trans rfl; have x1 := (blk_cell T2.out 1).trans rfl
      have HHIT := Aside0.mk (fun e => HST.out.hit hit e)
      have HSKIP := Aside0.mk (fun e hm => HST.out.skip hit e hm)
      have HMARK := Aside0.mk (fun e hm N hN hU hl => HST.out.mark hit e hm (N := N) hN hU hl)
      obtain ⟨p, hp⟩ := HST.out.pos
      have HP := Aside0.mk hp
      clear hp
      generalize rd L (i : Int) = x at d0 HWF HHIT HSKIP HMARK HXU
      by_cases hxt : x = t
      · have e1 : (x == t) = true := by simpa using hxt
        have HE := Aside0.mk (HHIT.out hxt)
        clear hxt
        go_wp2
        go_ret
        exact ⟨by rw [HTT.out, HE.out]; rfl, BW.out⟩
      · have e1 : (x == t) = false := by simpa using hxt
        have HNE := Aside0.mk hxt
        clear hxt
        have hlook := GM.out.look HWF.out
        by_cases hxm : x ∈ M
        · have HS2 := Aside0.mk (HSKIP.out HNE.out hxm)
          have h4 : decide (x ∈ M) = true := by simpa using hxm
          rw [h4] at hlook
          clear hxm h4
          go_wp2
          clear hlook d0 a0 a1 a2 a3 a4 x0 x1
          go_roundg (q - 1)
          case measure => have := HP.out; have := HQ.out; omega
          case rel => exact ⟨q - 1, i + 1, L, M, _, by go_num, rfl, ⟨rfl⟩, RL, GM, T2, BW, HS2, LB⟩
        · have h4 : decide (x ∈ M) = false := by simpa using hxm
          have HXM := Aside0.mk hxm
          rw [h4] at hlook
          clear hxm h4
          obtain ⟨w5, hput, hm5, hg5⟩ := GM.out.put (by have h1 := HST.out.card; unfold maxLen; omega) HWF.out
          go_upto_region 11 with (fail)
          clear hput hlook d0 a0 a1 a2 a3 a4 x0 x1
          obtain ⟨om, hom, hoc⟩ := GM.out.isMap
          have hr : ∀ r, some (w.heap.size + 1) = some r → ∃ o : Obj, wr.heap[r]? = some o ∧ o.isCells = false := fun r e => by cases e; exact ⟨om, hom, hoc⟩
          have T2 := Aside0.mk (blk_turn T2.out hg5 hr)
          have RL := Aside0.mk (R_turn RL.out hg5 hr)
          have BW := Aside0.mk (below_turn BW.out hg5 BW.out.size (fun r e => by cases e; omega))
          have GM := Aside0.mk hm5
          have LB := Aside0.mk (Nat.le_trans LB.out hg5.size)
          clear hr hom hoc om hg5 hm5
          have x0 := (blk_cell T2.out 0).trans rfl; have x1 := (blk_cell T2.out 1).trans rfl
          go_upto_region 12 with (fail)
          refine (waitingR_calls A _ c d H W x _ (Kd.C_below HC1.out BW.out) (Kd.C_below HC2.out BW.out) l1 l2 (by omega)).mono ?_
          rintro e w6 ⟨rfl, hb⟩
          have T2 := Aside0.mk (blk_below T2.out hb)
          have RL := Aside0.mk (Kd.R_below RL.out hb)
          have GM := Aside0.mk (GM.out.below hb)
          have BW := Aside0.mk (below_step BW.out hb)
          have LB := Aside0.mk (Nat.le_trans LB.out hb.size)
          clear hb x0 x1
          cases hw : PL.waitI hdL W x with
          | none =>
            rw [waitN_none hw]
            have HS2 := Aside0.mk (HMARK.out HNE.out HXM.out [] (by unfold PL.succs; rw [hw]) (by simp) (by simp))
            rw [List.append_nil] at HS2
            clear hw
            have g3 : decide ((0 : Int) ≤ -1) = false := by decide
            go_wp2
            go_roundg (q - 1)
            case measure => have := HP.out; have := HQ.out; omega
            case rel => exact ⟨q - 1, i + 1, L, _, _, by go_num, rfl, ⟨rfl⟩, RL, GM, T2, BW, HS2, LB⟩
          | some j =>
            have hwn : waitN W x = (j : Int) := by
              unfold waitN firstAt
              unfold PL.waitI at hw
              rw [hw]
            have hjW : j < W.length := by
              obtain ⟨y, hy, _⟩ := PL.waitI_some hw
              exact (List.getElem?_eq_some_iff.1 hy).1
            have HS2 := Aside0.mk (HMARK.out HNE.out HXM.out ((PL.blks cfL H W j).map hdL) (by unfold PL.succs; rw [hw]) (fun y hy => blks_mem_UR hy) (by rw [List.length_map]; exact PL.blks_len _))
            have HBL := Aside0.mk (show ((PL.blks cfL H W j).map hdL).length ≤ 1000 by rw [List.length_map]; have := PL.blks_len (mt := cfL) (H := H) (W := W) j; omega)
            rw [hwn]
            clear hw hwn
            have g3 : decide ((0 : Int) ≤ (j : Int)) = true := by simp
            have x0 := (blk_cell T2.out 0).trans rfl; have x1 := (blk_cell T2.out 1).trans rfl
            go_wp2_with (fail)
            refine (blockersR_calls A _ c d H W j _ (Kd.C_below HC1.out BW.out) (Kd.C_below HC2.out BW.out) l1 l2 (by omega) (by omega) hjW).mono ?_
            rintro e w7 ⟨v, rfl, hv, hb⟩
            have T2 := Aside0.mk (blk_below T2.out hb)
            have RL := Aside0.mk (Kd.R_below RL.out hb)
            have GM := Aside0.mk (GM.out.below hb)
            have BW := Aside0.mk (below_step BW.out hb)
            have LB := Aside0.mk (Nat.le_trans LB.out hb.size)
            obtain ⟨N, hN⟩ : ∃ N, N = (PL.blks cfL H W j).map hdL := ⟨_, rfl⟩
            rw [← hN] at hv HS2 HBL
            clear hN
            obtain ⟨na, nc, rfl⟩ := Kd.R_slice hv
            have RN := Aside0.mk hv
            have hnl : N.length ≤ 1000 := HBL.out
            clear hb hv x0 x1
            go_wp2_with ((with_reducible refine gate_builtin (b := .append) (xs := #[.tmp 42, .tmp 45]) rfl ?_); at_builtin; refine Kd.R_append_rows kI (Rr := kI.K _) (w0 := w7) V.heap.size rfl (.tmp 42) (.tmp 45) 31 3 (.int .i64 0) 8 rfl Try.underlying31 info3 rfl (by decide) (by omega) (.slice (some le) L.length lc) L N na N.length nc (fun _ => True) (fun _ => False) rfl rfl RL.out (Kd.R_reads' RN.out).2.2 (fun x cs h => h) (fun _ hk => hk.elim) (fun _ _ => trivial) (Below.refl _ _) LB.out (by omega) ?_; intro v8 w8 ho hb hg hat; have RO := Aside0.mk ho; have HB8 := Aside0.mk hb; have HG8 := Aside0.mk hg; clear ho hb hg hat)
            have T2 := Aside0.mk (blk_row T2.out HB8.out (by have := LV.out; omega))
            have GM := Aside0.mk (GM.out.kept HG8.out (fun e => by have h1 := Kd.R_base RL.out _ e.symm; have := LV.out; omega))
            have BW := Aside0.mk (pw_below_grown BW.out _ BW.out.size HG8.out (fun k hk => by have h1 := Kd.R_base RL.out k hk; have := LV.out; omega))
            have LB := Aside0.mk (Nat.le_trans LB.out HG8.out.size)
            go_roundg (q - 1)
            case measure => have := HP.out; have := HQ.out; omega
            case rel => exact ⟨q - 1, i + 1, L ++ N, _, _, by go_num, rfl, ⟨rfl⟩, RO, GM, T2, BW, HS2, LB⟩
theorem blks_cf {H W : List S24} (hH : ∀ x ∈ H, vL x = true) (hW : ∀ x ∈ W, vL x = true) (i : Nat) : PL.blks cfL H W i = PL.blks mtL H W i := by
  unfold PL.blks
  cases h : W[i]? with
  | none => rfl
  | some w =>
    dsimp only
    have hw : vL w = true := hW w (List.mem_of_getElem? h)
    refine List.filter_congr fun x hx => ?_
    have hx' : vL x = true := by
      rcases List.mem_append.1 hx with h | h
      · exact hH x h
      · exact hW x (List.mem_of_mem_take h)
    unfold cfL
    rw [hx', hw]
    simp
theorem bfs_cf {H W : List S24} (hH : ∀ x ∈ H, vL x = true) (hW : ∀ x ∈ W, vL x = true) (t : Int) : ∀ (k : Nat) (M T : List Int), PL.bfs hdL cfL H W t k M T = PL.bfs hdL mtL H W t k M T
  | 0, _, _ => rfl
  | k + 1, _, [] => rfl
  | k + 1, M, x :: T => by
    have hs : PL.succs hdL cfL H W x = PL.succs hdL mtL H W x := by
      unfold PL.succs
      cases PL.waitI hdL W x with
      | none => rfl
      | some i => dsimp only; rw [blks_cf hH hW]
    conv => lhs; unfold PL.bfs
    conv => rhs; unfold PL.bfs
    rw [hs, bfs_cf hH hW t k, bfs_cf hH hW t k]
theorem circ_cf {H W : List S24} (hH : ∀ x ∈ H, vL x = true) (hW : ∀ x ∈ W, vL x = true) (t : Int) : PL.circB hdL cfL H W t = PL.circB hdL mtL H W t := by
  unfold PL.circB
  rw [bfs_cf hH hW]
  congr 1
  unfold PL.succs
  cases PL.waitI hdL W t with
  | none => rfl
  | some i => dsimp only; rw [blks_cf hH hW]
theorem valid_wf' {x : S24} (h : vL x = true) : (Lit.int .i64 x.f1).wf = true := by
  have h1 := vL_pos h
  unfold vL at h
  simp only [Bool.and_eq_true, decide_eq_true_eq] at h
  simp [Lit.wf, IntKind.min, IntKind.max, IntKind.signed, IntKind.bits]
  omega
/-- The reference's questions. -/
def okH (H : List S24) (i : Nat) : Prop := vL (rd_T24 H (i : Int)) = true ∧ ∀ k, k < i → cfL (rd_T24 H (i : Int)) (rd_T24 H (k : Int)) = false
def okW (H W : List S24) (i : Nat) : Prop := vL (rd_T24 W (i : Int)) = true ∧ waitN W (rd_T24 W (i : Int)).f1 = (i : Int) ∧ PL.blks cfL H W i ≠ []
def okS (H W : List S24) (i : Nat) : Prop := PL.circB hdL cfL H W (hdL (rd_T24 W (i : Int))) = false
theorem all_rd {W : List S24} {p : S24 → Prop} (h : ∀ i, i < W.length → p (rd_T24 W (i : Int))) : ∀ x ∈ W, p x := by
  intro x hx
  obtain ⟨i, hi, rfl⟩ := List.mem_iff_getElem.1 hx
  rw [← rd_at hi]
  exact h i hi
theorem first_wait {W : List S24} {x : Int} {i : Nat} (h : waitN W x = (i : Int)) : ∀ j, j < i → ∀ hj : j < W.length, hdL W[j] ≠ x := by
  unfold waitN firstAt at h
  cases hq : W.findIdx? (fun y => hdL y == x) with
  | none => rw [hq] at h; dsimp only at h; omega
  | some k =>
    rw [hq] at h
    have hk : k = i := by
      have h' : (k : Int) = (i : Int) := h
      omega
    subst hk
    intro j hj hjl
    have := (List.findIdx?_eq_some_iff_getElem.1 hq).2.2 j hj
    simpa using this
theorem okW_single {H W : List S24} (h : ∀ i, i < W.length → okW H W i) : PL.Single hdL W := by
  unfold PL.Single
  rw [List.nodup_iff_pairwise_ne, List.pairwise_map, List.pairwise_iff_getElem]
  intro i j hi hj hij
  have := first_wait (h j hj).2.1 i hij hi
  rw [rd_at hj] at this
  exact this
theorem checks_ok {H W : List S24} (hl : H.length + W.length ≤ 400) (h1 : ∀ i, i < H.length → okH H i) (h2 : ∀ i, i < W.length → okW H W i) (h3 : ∀ i, i < W.length → okS H W i) : checksB H W = true := by
  have hH : ∀ x ∈ H, vL x = true := all_rd fun i hi => (h1 i hi).1
  have hW : ∀ x ∈ W, vL x = true := all_rd fun i hi => (h2 i hi).1
  refine Inv.iff.1 ⟨hl, hH, hW, ?_, okW_single h2, ?_, ?_⟩
  · unfold PL.FreeH
    rw [List.pairwise_iff_getElem]
    intro i j hi hj hij
    have := (h1 j hj).2 i hij
    rw [rd_at hj, rd_at hi] at this
    unfold cfL at this
    rw [hH _ (List.getElem_mem hi), hH _ (List.getElem_mem hj)] at this
    rw [mt_sym]
    simpa using this
  · rw [PL.freeI_none]
    intro i hi
    have := (h2 i hi).2.2
    rwa [blks_cf hH hW] at this
  · refine PL.stuckV_of fun w hw => ?_
    obtain ⟨i, hi, rfl⟩ := List.mem_iff_getElem.1 hw
    have := h3 i hi
    unfold okS at this
    rwa [circ_cf hH hW, rd_at hi] at this
theorem checks_all {H W : List S24} (h : checksB H W = true) : H.length + W.length ≤ 400 ∧ (∀ i, i < H.length → okH H i) ∧ (∀ i, i < W.length → okW H W i) ∧ ∀ i, i < W.length → okS H W i := by
  have hI := Inv.iff.2 h
  refine ⟨hI.len, fun i hi => ⟨by rw [rd_at hi]; exact hI.allH _ (List.getElem_mem hi), fun k hk => ?_⟩, fun i hi => ⟨by rw [rd_at hi]; exact hI.allW _ (List.getElem_mem hi), ?_, ?_⟩, fun i hi => ?_⟩
  · have h1 := List.pairwise_iff_getElem.1 hI.free k i (by omega) hi hk
    unfold cfL
    rw [rd_at hi, rd_at (show k < H.length by omega), mt_sym, h1]
    simp
  · unfold waitN firstAt
    have hw := PL.waitI_of hI.single (List.getElem?_eq_getElem hi)
    unfold PL.waitI at hw
    rw [rd_at hi, show W[i].f1 = hdL W[i] from rfl, hw]
  · rw [blks_cf hI.allH hI.allW]
    exact PL.freeI_none.1 hI.blocked i hi
  · unfold okS
    rw [circ_cf hI.allH hI.allW, rd_at hi]
    cases hc : PL.circB hdL mtL H W (hdL W[i]) with
    | false => rfl
    | true => exact absurd ((PL.circB_iff hI.single _).1 hc) (hI.noCirc _)
theorem chk_ok {H W : List S24} (hl : H.length + W.length ≤ 400) (h1 : ∀ i, i < H.length → okH H i) (h2 : ∀ i, i < W.length → okW H W i) (h3 : ∀ i, i < W.length → okS H W i) : chkE H W = 0 := by
  unfold chkE
  rw [checks_ok hl h1 h2 h3]
  rfl
theorem chk_no {H W : List S24} (h : ¬ (H.length + W.length ≤ 400 ∧ (∀ i, i < H.length → okH H i) ∧ (∀ i, i < W.length → okW H W i) ∧ ∀ i, i < W.length → okS H W i)) : chkE H W = 9 := by
  unfold chkE
  cases hc : checksB H W with
  | false => rfl
  | true => exact absurd (checks_all hc) h
theorem good_R {H W : List S24} (hl : H.length + W.length ≤ 400) (h1 : ∀ i, i < H.length → okH H i) (h2 : ∀ i, i < W.length → okW H W i) : Good H W where
  wf := fun x hx => by
    have hv : vL x = true := by
      rcases List.mem_append.1 hx with h | h
      · exact all_rd (p := fun x => vL x = true) (fun i hi => (h1 i hi).1) x h
      · exact all_rd (p := fun x => vL x = true) (fun i hi => (h2 i hi).1) x h
    exact valid_wf' hv
  len := by omega
  single := okW_single h2
end Go.Proofs.Ytifnfnoicinbaaa.M
