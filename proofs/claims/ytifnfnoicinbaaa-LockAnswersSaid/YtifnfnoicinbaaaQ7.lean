/- The reference's Blocks. -/
import Derived.Test.YtifnfnoicinbaaaQ5
import Derived.Test.YtifnfnoicinbaaaQ6
import Derived.Test.YtifnfnoicinbaaaG1
import Derived.SizedLaws
namespace Go.Proofs.Ytifnfnoicinbaaa.M
open Go.RowKit Go.Proofs.YtifnfnoicinbaaaW.PrintWords Go.Proofs.YtifnfnoicinbaaaW.PrintLast Go.Proofs.YtifnfnoicinbaaaW.PrintMore
set_option linter.unusedVariables false
set_option linter.unusedSimpArgs false
set_option linter.unnecessarySimpa false

section
open Go.ChangeShapes Go.WideShapes Go.Deep Go.Joins
variable {H : Type} {enc : TypeId × Value → H} {w : World} {base : Nat} {spare : Nat → Bool} {held : Bool}
theorem ints_of {fuel : Nat} {cs : List Value} {x : DataW H × List MemPlace} (h : DataW.trod enc Try.prog w base spare held fuel 31 cs = some x) : ∃ A c, ∃ l : List Int, cs = [.slice A l.length c] ∧ l.length ≤ c ∧ kI.C w A l.length l := by
  obtain ⟨A, c, l, h1, h2, h3, _⟩ := C_of_trodP (k := kI) (p := fun _ => True) Try.underlying31 sz3 (fun n cs x h => by
    obtain ⟨n0, e0, _, _⟩ := DataW.trod_int Try.underlying3 h
    exact ⟨n0, e0, trivial⟩) h
  exact ⟨A, c, l, h1, h2, h3⟩
theorem locks_of {fuel : Nat} {cs : List Value} {x : DataW H × List MemPlace} (h : DataW.trod enc Try.prog w base spare held fuel 27 cs = some x) : ∃ A c, ∃ l : List S24, cs = [.slice A l.length c] ∧ l.length ≤ c ∧ k24.C w A l.length l := by
  obtain ⟨A, c, l, h1, h2, h3, _⟩ := C_of_trodP (k := k24) (p := fun _ => True) Try.underlying27 sz24 (fun n cs x h => by
    obtain ⟨y, hy⟩ := lock_of _ _ _ h
    exact ⟨y, hy, trivial⟩) h
  exact ⟨A, c, l, h1, h2, h3⟩
theorem sz27 : Try.prog.cellsOf 27 = 1 := by kernel_rfl
theorem sz29 : Try.prog.cellsOf 29 = 2 := by kernel_rfl
theorem parts2 {cs : List Value} {a b : Value} (h : cs.length = 2) (h0 : (cs.drop 0).take 1 = [a]) (h1 : (cs.drop 1).take 1 = [b]) : cs = [a, b] := by
  match cs, h with
  | [c0, c1], _ => simp at h0 h1; simp [h0, h1]
theorem table_of {n : Nat} {cs : List Value} {x : DataW H × List MemPlace} (h : DataW.trod enc Try.prog w base spare held n 29 cs = some x) :
    ∃ A c, ∃ l : List S24, ∃ B d, ∃ m : List S24, cs = [.slice A l.length c, .slice B m.length d] ∧ l.length ≤ c ∧ m.length ≤ d ∧ k24.C w A l.length l ∧ k24.C w B m.length m := by
  obtain ⟨y0, y1, m, rfl, hl, t0, t1⟩ := trod_struct2 Try.underlying29 h
  obtain ⟨A, c, l, e0, h1, h2⟩ := locks_of t0
  obtain ⟨B, d, m, e1, h3, h4⟩ := locks_of t1
  rw [sz27] at e0 e1
  rw [sz29] at hl
  exact ⟨A, c, l, B, d, m, parts2 hl e0 e1, h1, h3, h2, h4⟩
theorem locks_len {fuel : Nat} {cs : List Value} {x : DataW H × List MemPlace} (h : DataW.trod enc Try.prog w base spare held fuel 27 cs = some x) {A : Option Addr} {c n : Nat} (hcs : cs = [.slice A n c]) : n = 0 ∨ ∃ e s, x.1 = .slice e s ∧ e.length = n := by
  rcases open_slice Try.underlying27 h with ⟨h1, _⟩ | ⟨a, len, cap, m, k, D, Pl, h1, _, _, _, _, hx, _⟩
  · rw [hcs] at h1
    simp at h1
    exact .inl h1.2.1
  · rw [hcs] at h1
    simp at h1
    exact .inr ⟨_, _, by rw [hx], by simp [h1.2.1]⟩
theorem slice_small {n : Nat} {d : DataW H} (h : n = 0 ∨ ∃ e s, d = .slice e s ∧ e.length = n) (hw : ∀ k ∈ d.weights Try.prog 27, k ≤ reachBytes) : n ≤ 140737488355328 := by
  rcases h with rfl | ⟨e, s, rfl, rfl⟩
  · omega
  · have h1 := hw ((e.length + s.length) * Try.prog.bytesOf 24) (by simp [DataW.weights, Try.underlying27])
    have h2 : Try.prog.bytesOf 24 = 40 := by kernel_rfl
    rw [h2] at h1
    have := reachBytes_lt
    omega
theorem table_small {fuel : Nat} {cs : List Value} {x : DataW H × List MemPlace} (h : DataW.trod enc Try.prog w base spare held fuel 29 cs = some x) (hw : ∀ k ∈ x.1.weights Try.prog 29, k ≤ reachBytes) {A B : Option Addr} {n c m d : Nat} (hcs : cs = [.slice A n c, .slice B m d]) : n ≤ 140737488355328 ∧ m ≤ 140737488355328 := by
  obtain ⟨y0, y1, k, rfl, hl, t0, t1⟩ := trod_struct2 Try.underlying29 h
  have hws : ∀ k, k ∈ y0.1.weights Try.prog 27 ∨ k ∈ y1.1.weights Try.prog 27 → k ≤ reachBytes := fun k hk => hw k (by
    simp only [DataW.weights, Try.underlying29, List.map_cons, List.map_nil, DataW.weightsEach, List.append_nil, List.mem_append]
    exact hk)
  subst hcs
  refine ⟨slice_small (locks_len t0 (A := A) (c := c) ?_) (fun k hk => hws k (.inl hk)), slice_small (locks_len t1 (A := B) (c := d) ?_) (fun k hk => hws k (.inr hk))⟩
  · rw [sz27]; rfl
  · rw [sz27]; rfl
end
theorem RI_empty (W : World) (base : Nat) (hb : base ≤ W.heap.size) : kI.R 3 (W.alloc (.cells #[] 3)) base (fun _ => True) (.slice (some ⟨W.heap.size, 0, none⟩) 0 0) [] :=
  ⟨fun _ _ => trivial, [], World.ownsRow_lit (size := 1) W #[] 0 hb (by simp) (by simp), Reps.none _ _⟩
theorem insU_len (out : List Int) (x : Int) : (insU out x).length ≤ out.length + 1 := by
  unfold insU
  split
  · omega
  · have := insK_le out x
    simp
    omega
theorem insU_fold_len : ∀ (L out : List Int), (L.foldl insU out).length ≤ out.length + L.length
  | [], out => by simp
  | x :: L, out => by
    have h1 := insU_fold_len L (insU out x)
    have h2 := insU_len out x
    simp only [List.foldl_cons, List.length_cons]
    omega
theorem fold_take {L : List Int} {i : Nat} (h : i < L.length) : (L.take (i + 1)).foldl insU [] = insU ((L.take i).foldl insU []) (rd L (i : Int)) := by
  rw [List.take_succ_eq_append_getElem h, List.foldl_append, show rd L (i : Int) = L[i] by simp [rd, h]]
  rfl
theorem ins_at {O : List Int} {x : Int} {k : Nat} (hk : k ≤ O.length) (h1 : ∀ m, m < k → rd O (m : Int) < x) (h2 : k < O.length → ¬ rd O (k : Int) < x) (h3 : k < O.length → rd O (k : Int) ≠ x) : insU O x = O.take k ++ [x] ++ O.drop k := by
  have e : insK O x = k := insK_of hk (fun m hm hmk => by have := h1 m hmk; rwa [show rd O (m : Int) = O[m] by simp [rd, hm]] at this) (fun hkl => by have := h2 hkl; rwa [show rd O (k : Int) = O[k] by simp [rd, hkl]] at this)
  unfold insU
  rw [e, if_neg]
  intro hh
  rcases Nat.lt_or_ge k O.length with h | h
  · rw [List.getElem?_eq_getElem h] at hh
    have := h3 h
    rw [show rd O (k : Int) = O[k] by simp [rd, h]] at this
    exact this (Option.some.inj hh)
  · rw [List.getElem?_eq_none h] at hh; cases hh
theorem ins_same {O : List Int} {x : Int} {k : Nat} (hk : k < O.length) (h1 : ∀ m, m < k → rd O (m : Int) < x) (h3 : rd O (k : Int) = x) : insU O x = O := by
  have e : insK O x = k := insK_of (by omega) (fun m hm hmk => by have := h1 m hmk; rwa [show rd O (m : Int) = O[m] by simp [rd, hm]] at this) (fun hkl => by rw [show rd O (k : Int) = O[k] by simp [rd, hkl]] at h3; omega)
  unfold insU
  rw [e, if_pos]
  rw [List.getElem?_eq_getElem hk]
  rw [show rd O (k : Int) = O[k] by simp [rd, hk]] at h3
  rw [h3]
theorem RI_none {w : World} {base : Nat} {n c : Nat} {L : List Int} (h : kI.R 3 w base (fun _ => True) (.slice none n c) L) : n = 0 ∧ c = 0 := by
  obtain ⟨h0, inner, ho, hr⟩ := h
  obtain ⟨hl, h1⟩ := ho
  rcases h1 with ⟨e, hn⟩ | ⟨g, cap, cells, e, _⟩
  · injection e with e1 e2 e3
    exact ⟨e2, e3⟩
  · injection e with e1 e2 e3
    cases e1
/-- The first part of a row. -/
theorem RI_take {w : World} {base : Nat} {A : Option Addr} {n c : Nat} {L : List Int} (h : kI.R 3 w base (fun _ => True) (.slice A n c) L) {m : Nat} (hm : m ≤ L.length) : kI.R 3 w base (fun _ => True) (.slice A m c) (L.take m) := by
  obtain ⟨h0, inner, ho, hr⟩ := h
  have hs : kI.sz = 1 := rfl
  refine ⟨fun _ _ => trivial, inner.take (m * kI.sz), ?_, ?_⟩
  · rw [hs] at ho ⊢
    obtain ⟨hl, h1⟩ := ho
    rw [show (L.take m).length = m by simp; omega]
    refine ⟨by rw [List.length_take]; simp at hl ⊢; omega, ?_⟩
    rcases h1 with ⟨e, hn⟩ | ⟨g, cap, cells, e, hb, hg, h2, h3, h4, h5⟩
    · left
      injection e with e1 e2 e3
      subst e1 e3
      have : m = 0 := by omega
      subst this
      exact ⟨rfl, rfl⟩
    · right
      injection e with e1 e2 e3
      subst e1 e3
      refine ⟨g, _, cells, rfl, hb, hg, by omega, h3, h4, ?_⟩
      rw [← h5, List.take_take]
      congr 1
      simp
      omega
  · exact Kd.reps_take hr hm
set_option maxRecDepth 100000 in
set_option maxHeartbeats 4000000 in
theorem blocksR_calls (A B : Option Addr) (c d : Nat) (H W : List S24) (x : Int) (w : World) (h1 : k24.C w A H.length H) (h2 : k24.C w B W.length W) (l1 : H.length ≤ c) (l2 : W.length ≤ d) (hlen : H.length + W.length ≤ 1000) :
    Calls Try.prog 27 #[.agg #[.slice A H.length c, .slice B W.length d], .int .i64 x] w fun e w' => RetI w (blocksF H W x).1 (blocksF H W x).2 e w' := by
  have HC1 := Aside0.mk h1
  have HC2 := Aside0.mk h2
  clear h1 h2
  go_enter Try.func27, Try.ntmps27
  go_upto_region 1 with (fail)
  have hb_ := below_alloc (Below.refl _ w) (.cells #[.slice A H.length c, .slice B W.length d] 29)
  have hG0_ := blk_lit0 w (.cells #[.slice A H.length c, .slice B W.length d] 29)
  generalize (w.alloc (.cells #[.slice A H.length c, .slice B W.length d] 29)) = V at hb_ hG0_ ⊢
  have HB_V := Aside0.mk hb_
  have V0 := Aside0.mk hG0_
  clear hb_ hG0_
  have x0 := (blk_cell V0.out 0).trans rfl; have x1 := (blk_cell V0.out 1).trans rfl
  go_wp2_with (fail)
  refine (handlesR_calls A B c d H W x _ (Kd.C_below HC1.out HB_V.out) (Kd.C_below HC2.out HB_V.out) l1 l2 hlen).mono ?_
  rintro e w2 ⟨rfl, hb⟩
  have T := Aside0.mk (blk_below V0.out hb)
  have BB := Aside0.mk (below_step HB_V.out hb)
  clear hb x0 x1 V0 HB_V
  by_cases hz : begE H W (knownB x) = 0
  rotate_left
  · have HE := Aside0.mk (show blocksF H W x = ([], begE H W (knownB x)) by unfold blocksF; rw [if_neg hz])
    have hf : (begE H W (knownB x) != 0) = true := by simpa [bne] using hz
    generalize begE H W (knownB x) = E at HE hf ⊢
    clear hz
    go_wp2
    go_ret2
    exact ⟨_, by rw [HE.out]; rfl, by rw [HE.out]; exact Kd.R_nil _ _ _ _ _, BB.out⟩
  have hcb := (beg_zero hz).1
  have HI := Aside0.mk (Inv.iff.2 hcb)
  have HZ := Aside0.mk hz
  rw [hz]
  clear hz hcb
  have x0 := (blk_cell T.out 0).trans rfl; have x1 := (blk_cell T.out 1).trans rfl
  go_upto_region 5 with (fail)
  refine (waitingR_calls A B c d H W x _ (Kd.C_below HC1.out BB.out) (Kd.C_below HC2.out BB.out) l1 l2 (by omega)).mono ?_
  rintro e w3 ⟨rfl, hb⟩
  have T := Aside0.mk (blk_below T.out hb)
  have BB := Aside0.mk (below_step BB.out hb)
  clear hb x0 x1
  cases hw : PL.waitI hdL W x with
  | none =>
    have HE := Aside0.mk (show blocksF H W x = ([], 0) by unfold blocksF; rw [if_pos HZ.out, hw])
    rw [waitN_none hw]
    clear hw
    have g1 : decide ((-1 : Int) < 0) = true := by decide
    go_wp2
    go_ret2
    exact ⟨_, by rw [HE.out]; rfl, by rw [HE.out]; exact Kd.R_nil _ _ _ _ _, BB.out⟩
  | some k =>
  have hwn : waitN W x = (k : Int) := by
    unfold waitN firstAt
    unfold PL.waitI at hw
    rw [hw]
  have hkW : k < W.length := by
    obtain ⟨y, hy, _⟩ := PL.waitI_some hw
    exact (List.getElem?_eq_some_iff.1 hy).1
  obtain ⟨L, hL⟩ : ∃ L, L = (PL.blks cfL H W k).map hdL := ⟨_, rfl⟩
  have HE := Aside0.mk (show blocksF H W x = (L.foldl insU [], 0) by unfold blocksF; rw [if_pos HZ.out, hw, ins_compact, hL, blks_cf HI.out.allH HI.out.allW])
  have hLl : L.length ≤ 1000 := by rw [hL, List.length_map]; have := PL.blks_len (mt := cfL) (H := H) (W := W) k; omega
  rw [hwn]
  clear hw hwn
  have g1 : decide ((k : Int) < 0) = false := by simp
  have x0 := (blk_cell T.out 0).trans rfl; have x1 := (blk_cell T.out 1).trans rfl
  go_upto_region 9 with (fail)
  refine (blockersR_calls A B c d H W k _ (Kd.C_below HC1.out BB.out) (Kd.C_below HC2.out BB.out) l1 l2 (by omega) (by omega) hkW).mono ?_
  rintro e w5 ⟨v, rfl, hv, hb⟩
  rw [← hL] at hv
  obtain ⟨la, lc, rfl⟩ := Kd.R_slice hv
  have RL := Aside0.mk hv
  have hlc : L.length ≤ lc := (Kd.R_reads' RL.out).2.1
  have BB := Aside0.mk (below_step BB.out hb)
  clear hb hv x0 x1 hL
  go_wp2
  go_loopg [8, 10] L.length (fun kq v8 v10 w' => ∃ (i : Nat) (v : Value), v10 = .int .i64 i ∧ v = v8 ∧ Aside0 (kq + i = L.length) ∧ Aside0 (kI.R 3 w' w5.heap.size (fun _ => True) v ((L.take i).foldl insU [])) ∧ Aside0 (Below w5.heap.size w5 w'))
  case atStart => exact ⟨0, _, rfl, rfl, ⟨rfl⟩, ⟨Kd.R_nil _ _ _ _ _⟩, ⟨Below.refl _ _⟩⟩
  case round =>
    obtain ⟨i, v, rfl, rfl, HI2, RO, HB⟩ := hrel
    by_cases hit : i < L.length
    rotate_left
    · have g2 : decide (i < L.length) = false := by simpa using hit
      have g2' : decide ((i : Int) < (L.length : Int)) = false := by simpa using hit
      have hte : L.take i = L := List.take_of_length_le (by omega)
      rw [hte] at RO
      have BF := Aside0.mk (below_step BB.out HB.out)
      have RF := Aside0.mk (Kd.R_lower RO.out BB.out.size)
      go_wp2
      go_ret2
      exact ⟨_, by rw [HE.out]; rfl, by rw [HE.out]; exact RF.out, BF.out⟩
    · have g2 : decide (i < L.length) = true := by simpa using hit
      have g2' : decide ((i : Int) < (L.length : Int)) = true := by simpa using hit
      have hic : i < lc := by omega
      have HST := Aside0.mk (fold_take hit)
      have hol : ((L.take i).foldl insU []).length ≤ 1000 := by have := insU_fold_len (L.take i) []; simp at this ⊢; omega
      generalize (L.take i).foldl insU [] = O at RO HST hol
      obtain ⟨nx, hnx⟩ : ∃ nx, nx = (L.take (i + 1)).foldl insU [] := ⟨_, rfl⟩
      have HNX := Aside0.mk hnx
      rw [← hnx] at HST
      clear hnx
      obtain ⟨oa, oc, rfl⟩ := Kd.R_slice RO.out
      have hoc : O.length ≤ oc := (Kd.R_reads' RO.out).2.1
      have CL := Aside0.mk (Kd.C_below (Kd.R_reads' RL.out).2.2 HB.out)
      go_upto_region 13 with (fail)
      clear g2 g2'
      obtain ⟨xx, hxx⟩ : ∃ xx, xx = rd L (i : Int) := ⟨_, rfl⟩
      have HXX := Aside0.mk hxx.symm
      rw [← hxx] at HST
      clear hxx
      obtain ⟨wo, hwo⟩ : ∃ z, z = wr := ⟨_, rfl⟩
      rw [← hwo] at RO HB CL ⊢
      clear hwo
      go_loopg [11] O.length (fun kq v11 w' => ∃ k : Nat, v11 = .int .i64 k ∧ Aside0 (kq + k = O.length) ∧ Aside0 (∀ m, m < k → rd O (m : Int) < xx) ∧ Aside0 (Below wo.heap.size wo w'))
      case atStart => exact ⟨0, rfl, ⟨rfl⟩, ⟨fun j hj => absurd hj (by omega)⟩, ⟨Below.refl _ _⟩⟩
      case round =>
        obtain ⟨k, rfl, HK, HLT, HB2⟩ := hrel
        have C2 := Aside0.mk (Kd.C_below CL.out HB2.out)
        have R2 := Aside0.mk (Kd.R_below RO.out HB2.out)
        obtain ⟨le, hle, d0⟩ := Kd.at_int C2.out (i : Int) (by omega) (by omega)
        simp only [Int.toNat_natCast] at d0
        rw [HXX.out] at d0
        by_cases hkt : k < O.length
        · have g3 : decide (k < O.length) = true := by simpa using hkt
          have g3' : decide ((k : Int) < (O.length : Int)) = true := by simpa using hkt
          have hkc : k < oc := by omega
          obtain ⟨oe, hoe, e0⟩ := Kd.at_int (Kd.R_reads' R2.out).2.2 (k : Int) (by omega) (by omega)
          simp only [Int.toNat_natCast] at e0
          subst hoe
          subst hle
          obtain ⟨ok, hok⟩ : ∃ ok, ok = rd O (k : Int) := ⟨_, rfl⟩
          have HOK := Aside0.mk hok
          rw [← hok] at e0
          clear hok
          by_cases hlt : ok < xx
          · have g4 : decide (ok < xx) = true := by simpa using hlt
            have HL2 := Aside0.mk (show ∀ m, m < k + 1 → rd O (m : Int) < xx from fun m hm => by
              rcases Nat.lt_or_ge m k with h | h
              · exact HLT.out m h
              · rw [show m = k by omega, ← HOK.out]; exact hlt)
            clear hlt
            go_upto_region 13 with (fail)
            go_quiet (fail)
            have hbq := pw_below_drewN (Below.refl wr.heap.size wr) nq
            have R2 := Aside0.mk (Kd.R_below R2.out hbq)
            have C2 := Aside0.mk (Kd.C_below C2.out hbq)
            have HB2 := Aside0.mk (below_step HB2.out hbq)
            clear hbq
            generalize wr.drewN nq = ws at R2 C2 HB2 ⊢
            clear d0 e0 g3 g3' g4
            go_wp2
            go_roundg (O.length - (k + 1))
            case measure => have := HK.out; omega
            case rel => exact ⟨k + 1, by go_num, ⟨by omega⟩, HL2, HB2⟩
          have g4 : decide (ok < xx) = false := by simpa using hlt
          go_upto_region 13 with (fail)
          go_quiet (fail)
          have hbq := pw_below_drewN (Below.refl wr.heap.size wr) nq
          have R2 := Aside0.mk (Kd.R_below R2.out hbq)
          have C2 := Aside0.mk (Kd.C_below C2.out hbq)
          have HB2 := Aside0.mk (below_step HB2.out hbq)
          clear hbq
          generalize wr.drewN nq = ws at R2 C2 HB2 ⊢
          clear d0 e0
          obtain ⟨le1, hle1, d0⟩ := Kd.at_int C2.out (i : Int) (by omega) (by omega)
          obtain ⟨oe1, hoe1, e0⟩ := Kd.at_int (Kd.R_reads' R2.out).2.2 (k : Int) (by omega) (by omega)
          simp only [Int.toNat_natCast] at d0 e0
          cases hle1
          cases hoe1
          rw [HXX.out] at d0
          rw [← HOK.out] at e0
          cases h5 : (ok == xx) with
          | true =>
            have HSM := Aside0.mk (show nx = O by rw [HST.out]; exact ins_same hkt HLT.out (by rw [← HOK.out]; simpa using h5))
            go_upto_region 15 with (fail)
            go_quiet (fail)
            have hbq := pw_below_drewN (Below.refl ws.heap.size ws) nq
            have R2 := Aside0.mk (Kd.R_below R2.out hbq)
            have HBW := Aside0.mk (below_step HB.out (below_step HB2.out hbq))
            clear hbq
            generalize ws.drewN nq = wt at R2 HBW ⊢
            clear d0 e0 g3 g3' g4 h5
            go_wp2
            go_roundg (L.length - (i + 1))
            case measure => have := HI2.out; omega
            case rel => exact ⟨i + 1, _, by go_num, rfl, ⟨by omega⟩, ⟨by rw [← HNX.out, HSM.out]; exact R2.out⟩, HBW⟩
          | false =>
            have HIN := Aside0.mk (show nx = O.take k ++ [xx] ++ O.drop k by rw [HST.out]; exact ins_at (by have := HK.out; omega) HLT.out (fun _ => by rw [← HOK.out]; exact hlt) (fun _ => by rw [← HOK.out]; simpa using h5))
            clear hlt
            go_upto_region 15 with (fail)
            go_quiet (fail)
            have hbq := pw_below_drewN (Below.refl ws.heap.size ws) nq
            have R2 := Aside0.mk (Kd.R_below R2.out hbq)
            have C2 := Aside0.mk (Kd.C_below C2.out hbq)
            have HBW := Aside0.mk (below_step HB.out (below_step HB2.out hbq))
            clear hbq HB2
            generalize ws.drewN nq = wt at R2 C2 HBW ⊢
            clear d0 e0 g3 g3' g4 h5
            have CD := Aside0.mk (show kI.C wt (some (oe.add k)) (O.length - k) (O.drop k) from by
              have h9 := Kd.C_drop (Kd.R_reads' R2.out).2.2 (show k ≤ O.length by omega) hoc
              rw [if_neg (show ¬ oc = k by omega), List.length_drop] at h9
              simp only [show kI.sz = 1 from rfl, Nat.mul_one] at h9
              simpa using h9)
            go_upto_region 17 with ((with_reducible refine gate_builtin (b := .append) (xs := #[.tmp 65, .tmp 68]) rfl ?_); at_builtin; refine Kd.R_append_rows kI (Rr := kI.K _) (w0 := wt) wt.heap.size rfl (.tmp 65) (.tmp 68) 31 3 (.int .i64 0) 8 rfl Try.underlying31 info3 rfl (by decide) (by omega) (.slice (some ⟨wt.heap.size, 0, none⟩) 0 0) [] (O.drop k) (some (oe.add k)) (O.length - k) (oc - k) (fun _ => True) (fun _ => False) rfl rfl (RI_empty wt _ (Nat.le_refl _)) (Kd.C_alloc CD.out _) (fun x cs h => h) (fun _ hk => hk.elim) (fun _ _ => trivial) (below_alloc (Below.refl _ wt) _) (by simp) (by simp; omega) ?_; intro v6 w6 ho hb _ _; have RR := Aside0.mk ho; have HB6 := Aside0.mk hb; clear ho hb)
            have hkoc : k ≤ oc := by omega
            obtain ⟨DR, hDR⟩ : ∃ DR, DR = [] ++ O.drop k := ⟨_, rfl⟩
            rw [← hDR] at RR
            obtain ⟨ra, rc, rfl⟩ := Kd.R_slice RR.out
            have RT := Aside0.mk (RI_take R2.out (show k ≤ O.length by omega))
            have HLTB := Aside0.mk (show ∀ z, (Value.slice (some oe) k oc).ownBlock = some z → z < wt.heap.size from fun z hz => ((Kd.R_bound RT.out).1 z hz).2.2.1)
            have RT := Aside0.mk (Kd.R_below RT.out HB6.out)
            have HBX := Aside0.mk (below_step HBW.out HB6.out)
            have HTK := Aside0.mk (show (O.take k).length = k by simp; omega)
            obtain ⟨TK, hTK⟩ : ∃ TK, TK = O.take k := ⟨_, rfl⟩
            have HDL := Aside0.mk (show DR.length ≤ 1000 by rw [hDR]; simp; omega)
            have HIX := Aside0.mk (show nx = TK ++ [xx] ++ DR by rw [HIN.out, hTK, hDR]; simp)
            rw [← hTK] at RT HTK
            clear hTK hDR HIN R2 C2
            obtain ⟨le5, hle5, d5⟩ := Kd.at_int (Kd.R_reads' RL.out).2.2 (i : Int) (by omega) (by omega)
            simp only [Int.toNat_natCast] at d5
            rw [HXX.out] at d5
            cases hle5
            refine start_ (n := 12) (S := fun w' => Below w5.heap.size w5 w') (ds := []) #[false, false, false, false, false, false, false, false, false, false, false, false] (by kernel_rfl) rfl rfl (below_step HBX.out (below_drew1 (Below.refl w6.heap.size w6))) (fun hHeld => ?_)
            have hbd := below_drew1 (Below.refl w6.heap.size w6)
            have RT := Aside0.mk (Kd.R_below RT.out hbd)
            have RR := Aside0.mk (Kd.R_below RR.out hbd)
            clear hbd
            generalize w6.drew = wd at RT RR hHeld ⊢
            refine pure_ (i := 0) (N := some 70) (v := ?_) (a' := ?_) #[true, false, false, false, false, false, false, false, false, false, false, false] rfl rfl (by kernel_rfl) (fun _ _ _ h => h) (Or.inl ⟨by rfl, ?_⟩) ?_ ?_
            rotate_left
            · intro w'
              go_simp
              with_reducible rfl
            rotate_left
            · simp only [Act.put, List.setIfInBounds_toArray, List.set_cons_zero, List.set_cons_succ, i64_w, i32_w]
              rfl
            refine pure_ (i := 1) (N := some 71) (v := ?_) (a' := ?_) #[true, true, false, false, false, false, false, false, false, false, false, false] rfl rfl (by kernel_rfl) (fun _ _ _ h => h) (Or.inl ⟨by rfl, ?_⟩) ?_ ?_
            rotate_left
            · intro w'
              go_simp
              with_reducible rfl
            rotate_left
            · simp only [Act.put, List.setIfInBounds_toArray, List.set_cons_zero, List.set_cons_succ, i64_w, i32_w]
              rfl
            refine pure_ (i := 2) (N := some 72) (v := ?_) (a' := ?_) #[true, true, true, false, false, false, false, false, false, false, false, false] rfl rfl (by kernel_rfl) (fun _ _ _ h => h) (Or.inl ⟨by rfl, ?_⟩) ?_ ?_
            rotate_left
            · intro w'
              go_simp
              with_reducible rfl
            rotate_left
            · simp only [Act.put, List.setIfInBounds_toArray, List.set_cons_zero, List.set_cons_succ, i64_w, i32_w]
              rfl
            refine pure_ (i := 3) (N := some 73) (v := ?_) (a' := ?_) #[true, true, true, true, false, false, false, false, false, false, false, false] rfl rfl (by kernel_rfl) (fun _ _ _ h => h) (Or.inl ⟨by rfl, ?_⟩) ?_ ?_
            rotate_left
            · intro w'
              go_simp
              with_reducible rfl
            rotate_left
            · simp only [Act.put, List.setIfInBounds_toArray, List.set_cons_zero, List.set_cons_succ, i64_w, i32_w]
              rfl
            refine pure_ (i := 4) (N := some 74) (v := ?_) (a' := ?_) #[true, true, true, true, true, false, false, false, false, false, false, false] rfl rfl (by kernel_rfl) (fun _ _ _ h => h) (Or.inl ⟨by rfl, ?_⟩) ?_ ?_
            rotate_left
            · intro w'
              go_simp
              with_reducible rfl
            rotate_left
            · simp only [Act.put, List.setIfInBounds_toArray, List.set_cons_zero, List.set_cons_succ, i64_w, i32_w]
              rfl
            refine pure_ (i := 5) (N := some 75) (v := ?_) (a' := ?_) #[true, true, true, true, true, true, false, false, false, false, false, false] rfl rfl (by kernel_rfl) (fun _ _ _ h => h) (Or.inl ⟨by rfl, ?_⟩) ?_ ?_
            rotate_left
            · intro w'
              go_simp
              with_reducible rfl
            rotate_left
            · simp only [Act.put, List.setIfInBounds_toArray, List.set_cons_zero, List.set_cons_succ, i64_w, i32_w]
              rfl
            refine take_ (i := 6) (N := some 76) (v := ?_) (a' := ?_) #[true, true, true, true, true, true, true, false, false, false, false, false] rfl rfl (by kernel_rfl) (fun _ _ _ h => h) (Or.inl ⟨by rfl, ?_⟩) hHeld ?_ ?_
            rotate_left
            · rintro w' s0
              have q0 := pw_cell_below s0 d5
              go_simp
              with_reducible rfl
            rotate_left
            · simp only [Act.put, List.setIfInBounds_toArray, List.set_cons_zero, List.set_cons_succ, i64_w, i32_w]
              rfl
            refine pure_ (i := 9) (N := some 79) (v := ?_) (a' := ?_) #[true, true, true, true, true, true, true, false, false, true, false, false] rfl rfl (by kernel_rfl) (fun _ _ _ h => h) (Or.inl ⟨by rfl, ?_⟩) ?_ ?_
            rotate_left
            · intro w'
              go_simp
              with_reducible rfl
            rotate_left
            · simp only [Act.put, List.setIfInBounds_toArray, List.set_cons_zero, List.set_cons_succ, i64_w, i32_w]
              rfl
            have HLK := Aside0.mk (show TK.length ≤ 1000 by have := HTK.out; omega)
            have HHW := Aside0.mk hHeld
            refine one_ (i := 7) (N := some 77) #[true, true, true, true, true, true, true, true, false, true, false, false] rfl rfl (by kernel_rfl) (by decide) (fun K hK => ?_)
            refine event_step (v := .slice (some ⟨(wd).heap.size, 0, none⟩) 1 1) (w1 := (wd).alloc (.cells #[.int .i64 xx] 3)) (by rfl) (by first | (go_simp; done) | (go_simp; rfl)) ?_
            refine hK.out _ _ (below_step hHeld (below_alloc (Below.refl _ wd) _)) (fun hHeld => ?_)
            clear hK K
            refine norm_ (a' := ?_) ?_ ?_
            rotate_left
            · show Act.put _ (some 77) _ = _
              simp only [Act.put, List.setIfInBounds_toArray, List.set_cons_zero, List.set_cons_succ, i64_w, i32_w]
              rfl
            refine one_ (i := 8) (N := some 78) #[true, true, true, true, true, true, true, true, true, true, false, false] rfl rfl (by kernel_rfl) (by decide) (fun K hK => ?_)
            refine Kd.R_append_step kI (w0 := _) w5.heap.size (by rfl) (.tmp 72) (.tmp 77) 31 3 (.int .i64 0) 8 rfl Try.underlying31 info3 rfl (by decide) (by omega) (.slice (some oe) k oc) (TK) (xx) [.int .i64 (xx)] (fun _ => True) (fun _ => False) rfl rfl rfl (fun _ hk => hk.elim) (fun _ _ => trivial) (RT.out) (HHW.out) (HHW.out.size) (by have := HLK.out; omega) ?_
            intro v10 w10 ho hb hg hat
            have RN := Aside0.mk ho
            have RR := Aside0.mk (Kd.R_mono (Kd.R_grown (Kd.R_bound RR.out) hg (fun z hz he => by have h1 := HLTB.out z he.symm; have h2 := hz.2.1; omega)) (fun _ hz => hz.1))
            clear ho hg hat RT HHW
            refine hK.out _ _ hb (fun hHeld => ?_)
            clear hK K
            refine norm_ (a' := ?_) ?_ ?_
            rotate_left
            · show Act.put _ (some 78) _ = _
              simp only [Act.put, List.setIfInBounds_toArray, List.set_cons_zero, List.set_cons_succ, i64_w, i32_w]
              rfl
            clear hb
            refine one_ (i := 10) (N := some 80) #[true, true, true, true, true, true, true, true, true, true, true, false] rfl rfl (by kernel_rfl) (by decide) (fun K hK => ?_)
            refine Kd.R_append_rows_step kI (Rr := kI.K _) (w0 := w5) w5.heap.size (by rfl) (.tmp 78) (.tmp 79) 31 3 (.int .i64 0) 8 rfl Try.underlying31 info3 rfl (by decide) (by omega) v10 (TK ++ [xx]) DR ra DR.length rc (fun _ => True) (fun _ => False) rfl rfl RN.out (Kd.R_reads' RR.out).2.2 (fun x cs h => h) (fun _ hk => hk.elim) (fun _ _ => trivial) hHeld hHeld.size (by have := HLK.out; have := HDL.out; simp; omega) ?_
            intro v11 w11 ho hb hg hat
            have RO := Aside0.mk ho
            have HB := Aside0.mk hb
            clear ho hg hat
            refine hK.out _ _ hb (fun hHeld => ?_)
            clear hK K
            refine norm_ (a' := ?_) ?_ ?_
            rotate_left
            · show Act.put _ (some 80) _ = _
              simp only [Act.put, List.setIfInBounds_toArray, List.set_cons_zero, List.set_cons_succ, i64_w, i32_w]
              rfl
            clear hb
            refine pure_ (i := 11) (N := some 8) (v := ?_) (a' := ?_) #[true, true, true, true, true, true, true, true, true, true, true, true] rfl rfl (by kernel_rfl) (fun _ _ _ h => h) (Or.inl ⟨by rfl, ?_⟩) ?_ ?_
            rotate_left
            · intro w'
              go_simp
              with_reducible rfl
            rotate_left
            · simp only [Act.put, List.setIfInBounds_toArray, List.set_cons_zero, List.set_cons_succ, i64_w, i32_w]
              rfl
            refine done_ (by kernel_rfl) ?_
            clear hHeld d5
            go_wp2
            go_roundg (L.length - (i + 1))
            case measure => have := HI2.out; omega
            case rel => exact ⟨i + 1, _, by go_num, rfl, ⟨by omega⟩, ⟨by rw [← HNX.out, HIX.out]; exact RO.out⟩, HB⟩
        · subst hle
          have g3 : decide (k < O.length) = false := by simpa using hkt
          have g3' : decide ((k : Int) < (O.length : Int)) = false := by simpa using hkt
          have HIN := Aside0.mk (show nx = O.take k ++ [xx] ++ O.drop k by rw [HST.out]; exact ins_at (by have := HK.out; omega) HLT.out (fun h => absurd h hkt) (fun h => absurd h hkt))
          go_upto_region 13 with (fail)
          go_quiet (fail)
          have hbq := pw_below_drewN (Below.refl wr.heap.size wr) nq
          have R2 := Aside0.mk (Kd.R_below R2.out hbq)
          have C2 := Aside0.mk (Kd.C_below C2.out hbq)
          have HB2 := Aside0.mk (below_step HB2.out hbq)
          clear hbq
          generalize wr.drewN nq = ws at R2 C2 HB2 ⊢
          go_upto_region 15 with (fail)
          go_quiet (fail)
          have hbq := pw_below_drewN (Below.refl ws.heap.size ws) nq
          have R2 := Aside0.mk (Kd.R_below R2.out hbq)
          have C2 := Aside0.mk (Kd.C_below C2.out hbq)
          have HBW := Aside0.mk (below_step HB.out (below_step HB2.out hbq))
          clear hbq HB2
          generalize ws.drewN nq = wt at R2 C2 HBW ⊢
          clear d0 g3 g3'
          have hkO : k ≤ O.length := by have := HK.out; omega
          cases oa with
          | none =>
            have HN12 := Aside0.mk (RI_none R2.out)
            have hq : (oc = k) = True := eq_true (by have := HN12.out; omega)
            have CD := Aside0.mk (show kI.C wt none (O.length - k) (O.drop k) from by
              rw [List.drop_of_length_le (show O.length ≤ k by omega), show O.length - k = 0 by omega]
              exact ⟨rfl, Nat.zero_le _, fun h => absurd h (by omega)⟩)
            go_upto_region 17 with ((with_reducible refine gate_builtin (b := .append) (xs := #[.tmp 65, .tmp 68]) rfl ?_); at_builtin; refine Kd.R_append_rows kI (Rr := kI.K _) (w0 := wt) wt.heap.size rfl (.tmp 65) (.tmp 68) 31 3 (.int .i64 0) 8 rfl Try.underlying31 info3 rfl (by decide) (by omega) (.slice (some ⟨wt.heap.size, 0, none⟩) 0 0) [] (O.drop k) none (O.length - k) (oc - k) (fun _ => True) (fun _ => False) rfl rfl (RI_empty wt _ (Nat.le_refl _)) (Kd.C_alloc CD.out _) (fun x cs h => h) (fun _ hk => hk.elim) (fun _ _ => trivial) (below_alloc (Below.refl _ wt) _) (by simp) (by simp; omega) ?_; intro v6 w6 ho hb _ _; have RR := Aside0.mk ho; have HB6 := Aside0.mk hb; clear ho hb)
            have hkoc : k ≤ oc := by omega
            obtain ⟨DR, hDR⟩ : ∃ DR, DR = [] ++ O.drop k := ⟨_, rfl⟩
            rw [← hDR] at RR
            obtain ⟨ra, rc, rfl⟩ := Kd.R_slice RR.out
            have RT := Aside0.mk (RI_take R2.out (show k ≤ O.length by omega))
            have HLTB := Aside0.mk (show ∀ z, (Value.slice none k oc).ownBlock = some z → z < wt.heap.size from fun z hz => ((Kd.R_bound RT.out).1 z hz).2.2.1)
            have RT := Aside0.mk (Kd.R_below RT.out HB6.out)
            have HBX := Aside0.mk (below_step HBW.out HB6.out)
            have HTK := Aside0.mk (show (O.take k).length = k by simp; omega)
            obtain ⟨TK, hTK⟩ : ∃ TK, TK = O.take k := ⟨_, rfl⟩
            have HDL := Aside0.mk (show DR.length ≤ 1000 by rw [hDR]; simp; omega)
            have HIX := Aside0.mk (show nx = TK ++ [xx] ++ DR by rw [HIN.out, hTK, hDR]; simp)
            rw [← hTK] at RT HTK
            clear hTK hDR HIN R2 C2
            obtain ⟨le5, hle5, d5⟩ := Kd.at_int (Kd.R_reads' RL.out).2.2 (i : Int) (by omega) (by omega)
            simp only [Int.toNat_natCast] at d5
            rw [HXX.out] at d5
            cases hle5
            refine start_ (n := 12) (S := fun w' => Below w5.heap.size w5 w') (ds := []) #[false, false, false, false, false, false, false, false, false, false, false, false] (by kernel_rfl) rfl rfl (below_step HBX.out (below_drew1 (Below.refl w6.heap.size w6))) (fun hHeld => ?_)
            have hbd := below_drew1 (Below.refl w6.heap.size w6)
            have RT := Aside0.mk (Kd.R_below RT.out hbd)
            have RR := Aside0.mk (Kd.R_below RR.out hbd)
            clear hbd
            generalize w6.drew = wd at RT RR hHeld ⊢
            refine pure_ (i := 0) (N := some 70) (v := ?_) (a' := ?_) #[true, false, false, false, false, false, false, false, false, false, false, false] rfl rfl (by kernel_rfl) (fun _ _ _ h => h) (Or.inl ⟨by rfl, ?_⟩) ?_ ?_
            rotate_left
            · intro w'
              go_simp
              with_reducible rfl
            rotate_left
            · simp only [Act.put, List.setIfInBounds_toArray, List.set_cons_zero, List.set_cons_succ, i64_w, i32_w]
              rfl
            refine pure_ (i := 1) (N := some 71) (v := ?_) (a' := ?_) #[true, true, false, false, false, false, false, false, false, false, false, false] rfl rfl (by kernel_rfl) (fun _ _ _ h => h) (Or.inl ⟨by rfl, ?_⟩) ?_ ?_
            rotate_left
            · intro w'
              go_simp
              with_reducible rfl
            rotate_left
            · simp only [Act.put, List.setIfInBounds_toArray, List.set_cons_zero, List.set_cons_succ, i64_w, i32_w]
              rfl
            refine pure_ (i := 2) (N := some 72) (v := ?_) (a' := ?_) #[true, true, true, false, false, false, false, false, false, false, false, false] rfl rfl (by kernel_rfl) (fun _ _ _ h => h) (Or.inl ⟨by rfl, ?_⟩) ?_ ?_
            rotate_left
            · intro w'
              go_simp
              with_reducible rfl
            rotate_left
            · simp only [Act.put, List.setIfInBounds_toArray, List.set_cons_zero, List.set_cons_succ, i64_w, i32_w]
              rfl
            refine pure_ (i := 3) (N := some 73) (v := ?_) (a' := ?_) #[true, true, true, true, false, false, false, false, false, false, false, false] rfl rfl (by kernel_rfl) (fun _ _ _ h => h) (Or.inl ⟨by rfl, ?_⟩) ?_ ?_
            rotate_left
            · intro w'
              go_simp
              with_reducible rfl
            rotate_left
            · simp only [Act.put, List.setIfInBounds_toArray, List.set_cons_zero, List.set_cons_succ, i64_w, i32_w]
              rfl
            refine pure_ (i := 4) (N := some 74) (v := ?_) (a' := ?_) #[true, true, true, true, true, false, false, false, false, false, false, false] rfl rfl (by kernel_rfl) (fun _ _ _ h => h) (Or.inl ⟨by rfl, ?_⟩) ?_ ?_
            rotate_left
            · intro w'
              go_simp
              with_reducible rfl
            rotate_left
            · simp only [Act.put, List.setIfInBounds_toArray, List.set_cons_zero, List.set_cons_succ, i64_w, i32_w]
              rfl
            refine pure_ (i := 5) (N := some 75) (v := ?_) (a' := ?_) #[true, true, true, true, true, true, false, false, false, false, false, false] rfl rfl (by kernel_rfl) (fun _ _ _ h => h) (Or.inl ⟨by rfl, ?_⟩) ?_ ?_
            rotate_left
            · intro w'
              go_simp
              with_reducible rfl
            rotate_left
            · simp only [Act.put, List.setIfInBounds_toArray, List.set_cons_zero, List.set_cons_succ, i64_w, i32_w]
              rfl
            refine take_ (i := 6) (N := some 76) (v := ?_) (a' := ?_) #[true, true, true, true, true, true, true, false, false, false, false, false] rfl rfl (by kernel_rfl) (fun _ _ _ h => h) (Or.inl ⟨by rfl, ?_⟩) hHeld ?_ ?_
            rotate_left
            · rintro w' s0
              have q0 := pw_cell_below s0 d5
              go_simp
              with_reducible rfl
            rotate_left
            · simp only [Act.put, List.setIfInBounds_toArray, List.set_cons_zero, List.set_cons_succ, i64_w, i32_w]
              rfl
            refine pure_ (i := 9) (N := some 79) (v := ?_) (a' := ?_) #[true, true, true, true, true, true, true, false, false, true, false, false] rfl rfl (by kernel_rfl) (fun _ _ _ h => h) (Or.inl ⟨by rfl, ?_⟩) ?_ ?_
            rotate_left
            · intro w'
              go_simp
              with_reducible rfl
            rotate_left
            · simp only [Act.put, List.setIfInBounds_toArray, List.set_cons_zero, List.set_cons_succ, i64_w, i32_w]
              rfl
            have HLK := Aside0.mk (show TK.length ≤ 1000 by have := HTK.out; omega)
            have HHW := Aside0.mk hHeld
            refine one_ (i := 7) (N := some 77) #[true, true, true, true, true, true, true, true, false, true, false, false] rfl rfl (by kernel_rfl) (by decide) (fun K hK => ?_)
            refine event_step (v := .slice (some ⟨(wd).heap.size, 0, none⟩) 1 1) (w1 := (wd).alloc (.cells #[.int .i64 xx] 3)) (by rfl) (by first | (go_simp; done) | (go_simp; rfl)) ?_
            refine hK.out _ _ (below_step hHeld (below_alloc (Below.refl _ wd) _)) (fun hHeld => ?_)
            clear hK K
            refine norm_ (a' := ?_) ?_ ?_
            rotate_left
            · show Act.put _ (some 77) _ = _
              simp only [Act.put, List.setIfInBounds_toArray, List.set_cons_zero, List.set_cons_succ, i64_w, i32_w]
              rfl
            refine one_ (i := 8) (N := some 78) #[true, true, true, true, true, true, true, true, true, true, false, false] rfl rfl (by kernel_rfl) (by decide) (fun K hK => ?_)
            refine Kd.R_append_step kI (w0 := _) w5.heap.size (by rfl) (.tmp 72) (.tmp 77) 31 3 (.int .i64 0) 8 rfl Try.underlying31 info3 rfl (by decide) (by omega) (.slice none k oc) (TK) (xx) [.int .i64 (xx)] (fun _ => True) (fun _ => False) rfl rfl rfl (fun _ hk => hk.elim) (fun _ _ => trivial) (RT.out) (HHW.out) (HHW.out.size) (by have := HLK.out; omega) ?_
            intro v10 w10 ho hb hg hat
            have RN := Aside0.mk ho
            have RR := Aside0.mk (Kd.R_mono (Kd.R_grown (Kd.R_bound RR.out) hg (fun z hz he => by have h1 := HLTB.out z he.symm; have h2 := hz.2.1; omega)) (fun _ hz => hz.1))
            clear ho hg hat RT HHW
            refine hK.out _ _ hb (fun hHeld => ?_)
            clear hK K
            refine norm_ (a' := ?_) ?_ ?_
            rotate_left
            · show Act.put _ (some 78) _ = _
              simp only [Act.put, List.setIfInBounds_toArray, List.set_cons_zero, List.set_cons_succ, i64_w, i32_w]
              rfl
            clear hb
            refine one_ (i := 10) (N := some 80) #[true, true, true, true, true, true, true, true, true, true, true, false] rfl rfl (by kernel_rfl) (by decide) (fun K hK => ?_)
            refine Kd.R_append_rows_step kI (Rr := kI.K _) (w0 := w5) w5.heap.size (by rfl) (.tmp 78) (.tmp 79) 31 3 (.int .i64 0) 8 rfl Try.underlying31 info3 rfl (by decide) (by omega) v10 (TK ++ [xx]) DR ra DR.length rc (fun _ => True) (fun _ => False) rfl rfl RN.out (Kd.R_reads' RR.out).2.2 (fun x cs h => h) (fun _ hk => hk.elim) (fun _ _ => trivial) hHeld hHeld.size (by have := HLK.out; have := HDL.out; simp; omega) ?_
            intro v11 w11 ho hb hg hat
            have RO := Aside0.mk ho
            have HB := Aside0.mk hb
            clear ho hg hat
            refine hK.out _ _ hb (fun hHeld => ?_)
            clear hK K
            refine norm_ (a' := ?_) ?_ ?_
            rotate_left
            · show Act.put _ (some 80) _ = _
              simp only [Act.put, List.setIfInBounds_toArray, List.set_cons_zero, List.set_cons_succ, i64_w, i32_w]
              rfl
            clear hb
            refine pure_ (i := 11) (N := some 8) (v := ?_) (a' := ?_) #[true, true, true, true, true, true, true, true, true, true, true, true] rfl rfl (by kernel_rfl) (fun _ _ _ h => h) (Or.inl ⟨by rfl, ?_⟩) ?_ ?_
            rotate_left
            · intro w'
              go_simp
              with_reducible rfl
            rotate_left
            · simp only [Act.put, List.setIfInBounds_toArray, List.set_cons_zero, List.set_cons_succ, i64_w, i32_w]
              rfl
            refine done_ (by kernel_rfl) ?_
            clear hHeld d5
            go_wp2
            go_roundg (L.length - (i + 1))
            case measure => have := HI2.out; omega
            case rel => exact ⟨i + 1, _, by go_num, rfl, ⟨by omega⟩, ⟨by rw [← HNX.out, HIX.out]; exact RO.out⟩, HB⟩
          | some oe =>
            by_cases hock : oc = k
            · have hq : (oc = k) = True := eq_true hock
              clear hock
              have CD := Aside0.mk (show kI.C wt (some oe) (O.length - k) (O.drop k) from by
                rw [List.drop_of_length_le (show O.length ≤ k by omega), show O.length - k = 0 by omega]
                exact ⟨rfl, Nat.zero_le _, fun h => absurd h (by omega)⟩)
              go_upto_region 17 with ((with_reducible refine gate_builtin (b := .append) (xs := #[.tmp 65, .tmp 68]) rfl ?_); at_builtin; refine Kd.R_append_rows kI (Rr := kI.K _) (w0 := wt) wt.heap.size rfl (.tmp 65) (.tmp 68) 31 3 (.int .i64 0) 8 rfl Try.underlying31 info3 rfl (by decide) (by omega) (.slice (some ⟨wt.heap.size, 0, none⟩) 0 0) [] (O.drop k) (some oe) (O.length - k) (oc - k) (fun _ => True) (fun _ => False) rfl rfl (RI_empty wt _ (Nat.le_refl _)) (Kd.C_alloc CD.out _) (fun x cs h => h) (fun _ hk => hk.elim) (fun _ _ => trivial) (below_alloc (Below.refl _ wt) _) (by simp) (by simp; omega) ?_; intro v6 w6 ho hb _ _; have RR := Aside0.mk ho; have HB6 := Aside0.mk hb; clear ho hb)
              have hkoc : k ≤ oc := by omega
              obtain ⟨DR, hDR⟩ : ∃ DR, DR = [] ++ O.drop k := ⟨_, rfl⟩
              rw [← hDR] at RR
              obtain ⟨ra, rc, rfl⟩ := Kd.R_slice RR.out
              have RT := Aside0.mk (RI_take R2.out (show k ≤ O.length by omega))
              have HLTB := Aside0.mk (show ∀ z, (Value.slice (some oe) k oc).ownBlock = some z → z < wt.heap.size from fun z hz => ((Kd.R_bound RT.out).1 z hz).2.2.1)
              have RT := Aside0.mk (Kd.R_below RT.out HB6.out)
              have HBX := Aside0.mk (below_step HBW.out HB6.out)
              have HTK := Aside0.mk (show (O.take k).length = k by simp; omega)
              obtain ⟨TK, hTK⟩ : ∃ TK, TK = O.take k := ⟨_, rfl⟩
              have HDL := Aside0.mk (show DR.length ≤ 1000 by rw [hDR]; simp; omega)
              have HIX := Aside0.mk (show nx = TK ++ [xx] ++ DR by rw [HIN.out, hTK, hDR]; simp)
              rw [← hTK] at RT HTK
              clear hTK hDR HIN R2 C2
              obtain ⟨le5, hle5, d5⟩ := Kd.at_int (Kd.R_reads' RL.out).2.2 (i : Int) (by omega) (by omega)
              simp only [Int.toNat_natCast] at d5
              rw [HXX.out] at d5
              cases hle5
              refine start_ (n := 12) (S := fun w' => Below w5.heap.size w5 w') (ds := []) #[false, false, false, false, false, false, false, false, false, false, false, false] (by kernel_rfl) rfl rfl (below_step HBX.out (below_drew1 (Below.refl w6.heap.size w6))) (fun hHeld => ?_)
              have hbd := below_drew1 (Below.refl w6.heap.size w6)
              have RT := Aside0.mk (Kd.R_below RT.out hbd)
              have RR := Aside0.mk (Kd.R_below RR.out hbd)
              clear hbd
              generalize w6.drew = wd at RT RR hHeld ⊢
              refine pure_ (i := 0) (N := some 70) (v := ?_) (a' := ?_) #[true, false, false, false, false, false, false, false, false, false, false, false] rfl rfl (by kernel_rfl) (fun _ _ _ h => h) (Or.inl ⟨by rfl, ?_⟩) ?_ ?_
              rotate_left
              · intro w'
                go_simp
                with_reducible rfl
              rotate_left
              · simp only [Act.put, List.setIfInBounds_toArray, List.set_cons_zero, List.set_cons_succ, i64_w, i32_w]
                rfl
              refine pure_ (i := 1) (N := some 71) (v := ?_) (a' := ?_) #[true, true, false, false, false, false, false, false, false, false, false, false] rfl rfl (by kernel_rfl) (fun _ _ _ h => h) (Or.inl ⟨by rfl, ?_⟩) ?_ ?_
              rotate_left
              · intro w'
                go_simp
                with_reducible rfl
              rotate_left
              · simp only [Act.put, List.setIfInBounds_toArray, List.set_cons_zero, List.set_cons_succ, i64_w, i32_w]
                rfl
              refine pure_ (i := 2) (N := some 72) (v := ?_) (a' := ?_) #[true, true, true, false, false, false, false, false, false, false, false, false] rfl rfl (by kernel_rfl) (fun _ _ _ h => h) (Or.inl ⟨by rfl, ?_⟩) ?_ ?_
              rotate_left
              · intro w'
                go_simp
                with_reducible rfl
              rotate_left
              · simp only [Act.put, List.setIfInBounds_toArray, List.set_cons_zero, List.set_cons_succ, i64_w, i32_w]
                rfl
              refine pure_ (i := 3) (N := some 73) (v := ?_) (a' := ?_) #[true, true, true, true, false, false, false, false, false, false, false, false] rfl rfl (by kernel_rfl) (fun _ _ _ h => h) (Or.inl ⟨by rfl, ?_⟩) ?_ ?_
              rotate_left
              · intro w'
                go_simp
                with_reducible rfl
              rotate_left
              · simp only [Act.put, List.setIfInBounds_toArray, List.set_cons_zero, List.set_cons_succ, i64_w, i32_w]
                rfl
              refine pure_ (i := 4) (N := some 74) (v := ?_) (a' := ?_) #[true, true, true, true, true, false, false, false, false, false, false, false] rfl rfl (by kernel_rfl) (fun _ _ _ h => h) (Or.inl ⟨by rfl, ?_⟩) ?_ ?_
              rotate_left
              · intro w'
                go_simp
                with_reducible rfl
              rotate_left
              · simp only [Act.put, List.setIfInBounds_toArray, List.set_cons_zero, List.set_cons_succ, i64_w, i32_w]
                rfl
              refine pure_ (i := 5) (N := some 75) (v := ?_) (a' := ?_) #[true, true, true, true, true, true, false, false, false, false, false, false] rfl rfl (by kernel_rfl) (fun _ _ _ h => h) (Or.inl ⟨by rfl, ?_⟩) ?_ ?_
              rotate_left
              · intro w'
                go_simp
                with_reducible rfl
              rotate_left
              · simp only [Act.put, List.setIfInBounds_toArray, List.set_cons_zero, List.set_cons_succ, i64_w, i32_w]
                rfl
              refine take_ (i := 6) (N := some 76) (v := ?_) (a' := ?_) #[true, true, true, true, true, true, true, false, false, false, false, false] rfl rfl (by kernel_rfl) (fun _ _ _ h => h) (Or.inl ⟨by rfl, ?_⟩) hHeld ?_ ?_
              rotate_left
              · rintro w' s0
                have q0 := pw_cell_below s0 d5
                go_simp
                with_reducible rfl
              rotate_left
              · simp only [Act.put, List.setIfInBounds_toArray, List.set_cons_zero, List.set_cons_succ, i64_w, i32_w]
                rfl
              refine pure_ (i := 9) (N := some 79) (v := ?_) (a' := ?_) #[true, true, true, true, true, true, true, false, false, true, false, false] rfl rfl (by kernel_rfl) (fun _ _ _ h => h) (Or.inl ⟨by rfl, ?_⟩) ?_ ?_
              rotate_left
              · intro w'
                go_simp
                with_reducible rfl
              rotate_left
              · simp only [Act.put, List.setIfInBounds_toArray, List.set_cons_zero, List.set_cons_succ, i64_w, i32_w]
                rfl
              have HLK := Aside0.mk (show TK.length ≤ 1000 by have := HTK.out; omega)
              have HHW := Aside0.mk hHeld
              refine one_ (i := 7) (N := some 77) #[true, true, true, true, true, true, true, true, false, true, false, false] rfl rfl (by kernel_rfl) (by decide) (fun K hK => ?_)
              refine event_step (v := .slice (some ⟨(wd).heap.size, 0, none⟩) 1 1) (w1 := (wd).alloc (.cells #[.int .i64 xx] 3)) (by rfl) (by first | (go_simp; done) | (go_simp; rfl)) ?_
              refine hK.out _ _ (below_step hHeld (below_alloc (Below.refl _ wd) _)) (fun hHeld => ?_)
              clear hK K
              refine norm_ (a' := ?_) ?_ ?_
              rotate_left
              · show Act.put _ (some 77) _ = _
                simp only [Act.put, List.setIfInBounds_toArray, List.set_cons_zero, List.set_cons_succ, i64_w, i32_w]
                rfl
              refine one_ (i := 8) (N := some 78) #[true, true, true, true, true, true, true, true, true, true, false, false] rfl rfl (by kernel_rfl) (by decide) (fun K hK => ?_)
              refine Kd.R_append_step kI (w0 := _) w5.heap.size (by rfl) (.tmp 72) (.tmp 77) 31 3 (.int .i64 0) 8 rfl Try.underlying31 info3 rfl (by decide) (by omega) (.slice (some oe) k oc) (TK) (xx) [.int .i64 (xx)] (fun _ => True) (fun _ => False) rfl rfl rfl (fun _ hk => hk.elim) (fun _ _ => trivial) (RT.out) (HHW.out) (HHW.out.size) (by have := HLK.out; omega) ?_
              intro v10 w10 ho hb hg hat
              have RN := Aside0.mk ho
              have RR := Aside0.mk (Kd.R_mono (Kd.R_grown (Kd.R_bound RR.out) hg (fun z hz he => by have h1 := HLTB.out z he.symm; have h2 := hz.2.1; omega)) (fun _ hz => hz.1))
              clear ho hg hat RT HHW
              refine hK.out _ _ hb (fun hHeld => ?_)
              clear hK K
              refine norm_ (a' := ?_) ?_ ?_
              rotate_left
              · show Act.put _ (some 78) _ = _
                simp only [Act.put, List.setIfInBounds_toArray, List.set_cons_zero, List.set_cons_succ, i64_w, i32_w]
                rfl
              clear hb
              refine one_ (i := 10) (N := some 80) #[true, true, true, true, true, true, true, true, true, true, true, false] rfl rfl (by kernel_rfl) (by decide) (fun K hK => ?_)
              refine Kd.R_append_rows_step kI (Rr := kI.K _) (w0 := w5) w5.heap.size (by rfl) (.tmp 78) (.tmp 79) 31 3 (.int .i64 0) 8 rfl Try.underlying31 info3 rfl (by decide) (by omega) v10 (TK ++ [xx]) DR ra DR.length rc (fun _ => True) (fun _ => False) rfl rfl RN.out (Kd.R_reads' RR.out).2.2 (fun x cs h => h) (fun _ hk => hk.elim) (fun _ _ => trivial) hHeld hHeld.size (by have := HLK.out; have := HDL.out; simp; omega) ?_
              intro v11 w11 ho hb hg hat
              have RO := Aside0.mk ho
              have HB := Aside0.mk hb
              clear ho hg hat
              refine hK.out _ _ hb (fun hHeld => ?_)
              clear hK K
              refine norm_ (a' := ?_) ?_ ?_
              rotate_left
              · show Act.put _ (some 80) _ = _
                simp only [Act.put, List.setIfInBounds_toArray, List.set_cons_zero, List.set_cons_succ, i64_w, i32_w]
                rfl
              clear hb
              refine pure_ (i := 11) (N := some 8) (v := ?_) (a' := ?_) #[true, true, true, true, true, true, true, true, true, true, true, true] rfl rfl (by kernel_rfl) (fun _ _ _ h => h) (Or.inl ⟨by rfl, ?_⟩) ?_ ?_
              rotate_left
              · intro w'
                go_simp
                with_reducible rfl
              rotate_left
              · simp only [Act.put, List.setIfInBounds_toArray, List.set_cons_zero, List.set_cons_succ, i64_w, i32_w]
                rfl
              refine done_ (by kernel_rfl) ?_
              clear hHeld d5
              go_wp2
              go_roundg (L.length - (i + 1))
              case measure => have := HI2.out; omega
              case rel => exact ⟨i + 1, _, by go_num, rfl, ⟨by omega⟩, ⟨by rw [← HNX.out, HIX.out]; exact RO.out⟩, HB⟩
            · have CD := Aside0.mk (show kI.C wt (some (oe.add k)) (O.length - k) (O.drop k) from by
                rw [List.drop_of_length_le (show O.length ≤ k by omega), show O.length - k = 0 by omega]
                exact ⟨rfl, Nat.zero_le _, fun h => absurd h (by omega)⟩)
              go_upto_region 17 with ((with_reducible refine gate_builtin (b := .append) (xs := #[.tmp 65, .tmp 68]) rfl ?_); at_builtin; refine Kd.R_append_rows kI (Rr := kI.K _) (w0 := wt) wt.heap.size rfl (.tmp 65) (.tmp 68) 31 3 (.int .i64 0) 8 rfl Try.underlying31 info3 rfl (by decide) (by omega) (.slice (some ⟨wt.heap.size, 0, none⟩) 0 0) [] (O.drop k) (some (oe.add k)) (O.length - k) (oc - k) (fun _ => True) (fun _ => False) rfl rfl (RI_empty wt _ (Nat.le_refl _)) (Kd.C_alloc CD.out _) (fun x cs h => h) (fun _ hk => hk.elim) (fun _ _ => trivial) (below_alloc (Below.refl _ wt) _) (by simp) (by simp; omega) ?_; intro v6 w6 ho hb _ _; have RR := Aside0.mk ho; have HB6 := Aside0.mk hb; clear ho hb)
              have hkoc : k ≤ oc := by omega
              obtain ⟨DR, hDR⟩ : ∃ DR, DR = [] ++ O.drop k := ⟨_, rfl⟩
              rw [← hDR] at RR
              obtain ⟨ra, rc, rfl⟩ := Kd.R_slice RR.out
              have RT := Aside0.mk (RI_take R2.out (show k ≤ O.length by omega))
              have HLTB := Aside0.mk (show ∀ z, (Value.slice (some oe) k oc).ownBlock = some z → z < wt.heap.size from fun z hz => ((Kd.R_bound RT.out).1 z hz).2.2.1)
              have RT := Aside0.mk (Kd.R_below RT.out HB6.out)
              have HBX := Aside0.mk (below_step HBW.out HB6.out)
              have HTK := Aside0.mk (show (O.take k).length = k by simp; omega)
              obtain ⟨TK, hTK⟩ : ∃ TK, TK = O.take k := ⟨_, rfl⟩
              have HDL := Aside0.mk (show DR.length ≤ 1000 by rw [hDR]; simp; omega)
              have HIX := Aside0.mk (show nx = TK ++ [xx] ++ DR by rw [HIN.out, hTK, hDR]; simp)
              rw [← hTK] at RT HTK
              clear hTK hDR HIN R2 C2
              obtain ⟨le5, hle5, d5⟩ := Kd.at_int (Kd.R_reads' RL.out).2.2 (i : Int) (by omega) (by omega)
              simp only [Int.toNat_natCast] at d5
              rw [HXX.out] at d5
              cases hle5
              refine start_ (n := 12) (S := fun w' => Below w5.heap.size w5 w') (ds := []) #[false, false, false, false, false, false, false, false, false, false, false, false] (by kernel_rfl) rfl rfl (below_step HBX.out (below_drew1 (Below.refl w6.heap.size w6))) (fun hHeld => ?_)
              have hbd := below_drew1 (Below.refl w6.heap.size w6)
              have RT := Aside0.mk (Kd.R_below RT.out hbd)
              have RR := Aside0.mk (Kd.R_below RR.out hbd)
              clear hbd
              generalize w6.drew = wd at RT RR hHeld ⊢
              refine pure_ (i := 0) (N := some 70) (v := ?_) (a' := ?_) #[true, false, false, false, false, false, false, false, false, false, false, false] rfl rfl (by kernel_rfl) (fun _ _ _ h => h) (Or.inl ⟨by rfl, ?_⟩) ?_ ?_
              rotate_left
              · intro w'
                go_simp
                with_reducible rfl
              rotate_left
              · simp only [Act.put, List.setIfInBounds_toArray, List.set_cons_zero, List.set_cons_succ, i64_w, i32_w]
                rfl
              refine pure_ (i := 1) (N := some 71) (v := ?_) (a' := ?_) #[true, true, false, false, false, false, false, false, false, false, false, false] rfl rfl (by kernel_rfl) (fun _ _ _ h => h) (Or.inl ⟨by rfl, ?_⟩) ?_ ?_
              rotate_left
              · intro w'
                go_simp
                with_reducible rfl
              rotate_left
              · simp only [Act.put, List.setIfInBounds_toArray, List.set_cons_zero, List.set_cons_succ, i64_w, i32_w]
                rfl
              refine pure_ (i := 2) (N := some 72) (v := ?_) (a' := ?_) #[true, true, true, false, false, false, false, false, false, false, false, false] rfl rfl (by kernel_rfl) (fun _ _ _ h => h) (Or.inl ⟨by rfl, ?_⟩) ?_ ?_
              rotate_left
              · intro w'
                go_simp
                with_reducible rfl
              rotate_left
              · simp only [Act.put, List.setIfInBounds_toArray, List.set_cons_zero, List.set_cons_succ, i64_w, i32_w]
                rfl
              refine pure_ (i := 3) (N := some 73) (v := ?_) (a' := ?_) #[true, true, true, true, false, false, false, false, false, false, false, false] rfl rfl (by kernel_rfl) (fun _ _ _ h => h) (Or.inl ⟨by rfl, ?_⟩) ?_ ?_
              rotate_left
              · intro w'
                go_simp
                with_reducible rfl
              rotate_left
              · simp only [Act.put, List.setIfInBounds_toArray, List.set_cons_zero, List.set_cons_succ, i64_w, i32_w]
                rfl
              refine pure_ (i := 4) (N := some 74) (v := ?_) (a' := ?_) #[true, true, true, true, true, false, false, false, false, false, false, false] rfl rfl (by kernel_rfl) (fun _ _ _ h => h) (Or.inl ⟨by rfl, ?_⟩) ?_ ?_
              rotate_left
              · intro w'
                go_simp
                with_reducible rfl
              rotate_left
              · simp only [Act.put, List.setIfInBounds_toArray, List.set_cons_zero, List.set_cons_succ, i64_w, i32_w]
                rfl
              refine pure_ (i := 5) (N := some 75) (v := ?_) (a' := ?_) #[true, true, true, true, true, true, false, false, false, false, false, false] rfl rfl (by kernel_rfl) (fun _ _ _ h => h) (Or.inl ⟨by rfl, ?_⟩) ?_ ?_
              rotate_left
              · intro w'
                go_simp
                with_reducible rfl
              rotate_left
              · simp only [Act.put, List.setIfInBounds_toArray, List.set_cons_zero, List.set_cons_succ, i64_w, i32_w]
                rfl
              refine take_ (i := 6) (N := some 76) (v := ?_) (a' := ?_) #[true, true, true, true, true, true, true, false, false, false, false, false] rfl rfl (by kernel_rfl) (fun _ _ _ h => h) (Or.inl ⟨by rfl, ?_⟩) hHeld ?_ ?_
              rotate_left
              · rintro w' s0
                have q0 := pw_cell_below s0 d5
                go_simp
                with_reducible rfl
              rotate_left
              · simp only [Act.put, List.setIfInBounds_toArray, List.set_cons_zero, List.set_cons_succ, i64_w, i32_w]
                rfl
              refine pure_ (i := 9) (N := some 79) (v := ?_) (a' := ?_) #[true, true, true, true, true, true, true, false, false, true, false, false] rfl rfl (by kernel_rfl) (fun _ _ _ h => h) (Or.inl ⟨by rfl, ?_⟩) ?_ ?_
              rotate_left
              · intro w'
                go_simp
                with_reducible rfl
              rotate_left
              · simp only [Act.put, List.setIfInBounds_toArray, List.set_cons_zero, List.set_cons_succ, i64_w, i32_w]
                rfl
              have HLK := Aside0.mk (show TK.length ≤ 1000 by have := HTK.out; omega)
              have HHW := Aside0.mk hHeld
              refine one_ (i := 7) (N := some 77) #[true, true, true, true, true, true, true, true, false, true, false, false] rfl rfl (by kernel_rfl) (by decide) (fun K hK => ?_)
              refine event_step (v := .slice (some ⟨(wd).heap.size, 0, none⟩) 1 1) (w1 := (wd).alloc (.cells #[.int .i64 xx] 3)) (by rfl) (by first | (go_simp; done) | (go_simp; rfl)) ?_
              refine hK.out _ _ (below_step hHeld (below_alloc (Below.refl _ wd) _)) (fun hHeld => ?_)
              clear hK K
              refine norm_ (a' := ?_) ?_ ?_
              rotate_left
              · show Act.put _ (some 77) _ = _
                simp only [Act.put, List.setIfInBounds_toArray, List.set_cons_zero, List.set_cons_succ, i64_w, i32_w]
                rfl
              refine one_ (i := 8) (N := some 78) #[true, true, true, true, true, true, true, true, true, true, false, false] rfl rfl (by kernel_rfl) (by decide) (fun K hK => ?_)
              refine Kd.R_append_step kI (w0 := _) w5.heap.size (by rfl) (.tmp 72) (.tmp 77) 31 3 (.int .i64 0) 8 rfl Try.underlying31 info3 rfl (by decide) (by omega) (.slice (some oe) k oc) (TK) (xx) [.int .i64 (xx)] (fun _ => True) (fun _ => False) rfl rfl rfl (fun _ hk => hk.elim) (fun _ _ => trivial) (RT.out) (HHW.out) (HHW.out.size) (by have := HLK.out; omega) ?_
              intro v10 w10 ho hb hg hat
              have RN := Aside0.mk ho
              have RR := Aside0.mk (Kd.R_mono (Kd.R_grown (Kd.R_bound RR.out) hg (fun z hz he => by have h1 := HLTB.out z he.symm; have h2 := hz.2.1; omega)) (fun _ hz => hz.1))
              clear ho hg hat RT HHW
              refine hK.out _ _ hb (fun hHeld => ?_)
              clear hK K
              refine norm_ (a' := ?_) ?_ ?_
              rotate_left
              · show Act.put _ (some 78) _ = _
                simp only [Act.put, List.setIfInBounds_toArray, List.set_cons_zero, List.set_cons_succ, i64_w, i32_w]
                rfl
              clear hb
              refine one_ (i := 10) (N := some 80) #[true, true, true, true, true, true, true, true, true, true, true, false] rfl rfl (by kernel_rfl) (by decide) (fun K hK => ?_)
              refine Kd.R_append_rows_step kI (Rr := kI.K _) (w0 := w5) w5.heap.size (by rfl) (.tmp 78) (.tmp 79) 31 3 (.int .i64 0) 8 rfl Try.underlying31 info3 rfl (by decide) (by omega) v10 (TK ++ [xx]) DR ra DR.length rc (fun _ => True) (fun _ => False) rfl rfl RN.out (Kd.R_reads' RR.out).2.2 (fun x cs h => h) (fun _ hk => hk.elim) (fun _ _ => trivial) hHeld hHeld.size (by have := HLK.out; have := HDL.out; simp; omega) ?_
              intro v11 w11 ho hb hg hat
              have RO := Aside0.mk ho
              have HB := Aside0.mk hb
              clear ho hg hat
              refine hK.out _ _ hb (fun hHeld => ?_)
              clear hK K
              refine norm_ (a' := ?_) ?_ ?_
              rotate_left
              · show Act.put _ (some 80) _ = _
                simp only [Act.put, List.setIfInBounds_toArray, List.set_cons_zero, List.set_cons_succ, i64_w, i32_w]
                rfl
              clear hb
              refine pure_ (i := 11) (N := some 8) (v := ?_) (a' := ?_) #[true, true, true, true, true, true, true, true, true, true, true, true] rfl rfl (by kernel_rfl) (fun _ _ _ h => h) (Or.inl ⟨by rfl, ?_⟩) ?_ ?_
              rotate_left
              · intro w'
                go_simp
                with_reducible rfl
              rotate_left
              · simp only [Act.put, List.setIfInBounds_toArray, List.set_cons_zero, List.set_cons_succ, i64_w, i32_w]
                rfl
              refine done_ (by kernel_rfl) ?_
              clear hHeld d5
              go_wp2
              go_roundg (L.length - (i + 1))
              case measure => have := HI2.out; omega
              case rel => exact ⟨i + 1, _, by go_num, rfl, ⟨by omega⟩, ⟨by rw [← HNX.out, HIX.out]; exact RO.out⟩, HB⟩
end Go.Proofs.Ytifnfnoicinbaaa.M
