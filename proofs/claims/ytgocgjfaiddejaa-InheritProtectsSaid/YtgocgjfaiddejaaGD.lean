/- acl.listed. -/
import Derived.Test.YtgocgjfaiddejaaGC
namespace Go.Proofs.Ytgocgjfaiddejaa.M
open Go.RowKit Go.Proofs.YtgocgjfaiddejaaW.PrintWords Go.Proofs.YtgocgjfaiddejaaW.PrintLast Go.Proofs.YtgocgjfaiddejaaW.PrintMore
set_option linter.unusedVariables false
set_option linter.unusedSimpArgs false
set_option linter.unnecessarySimpa false

theorem firstAt_find (p : S37 → Bool) (l : List S37) : (l.find? p = none ∧ firstAt p l = -1) ∨ (∃ j : Nat, ∃ h : j < l.length, firstAt p l = (j : Int) ∧ l.find? p = some l[j]) := by
  unfold firstAt
  cases h : l.findIdx? p with
  | none =>
    left
    have h2 := List.findIdx?_eq_none_iff.1 h
    exact ⟨List.find?_eq_none.2 (fun x hx => by simp [h2 x hx]), rfl⟩
  | some i =>
    right
    obtain ⟨h1, h2, h3⟩ := List.findIdx?_eq_some_iff_getElem.1 h
    refine ⟨i, h1, rfl, ?_⟩
    rw [List.find?_eq_some_iff_getElem]
    exact ⟨h2, i, h1, rfl, fun j hj => by simpa using h3 j hj⟩
/-- Whether an entry decides, and what it says. -/
def listedD (u : Int) (gs : List Int) (own bit : Int) (l : List S37) : Bool := (l.find? (hitB u gs own bit)).isSome
def listedG (u : Int) (gs : List Int) (own bit : Int) (l : List S37) : Bool := match l.find? (hitB u gs own bit) with | some x => x.f0 | none => false
theorem store_new {P : Program} (w : World) (t : TypeId) (u v : Value) (h1 : v.oneCell' = true) : (store ⟨w.heap.size, 0, none⟩ v).run P (w.alloc (.cells #[u] t)) = .ok () ((w.alloc (.cells #[u] t)).setCell ⟨w.heap.size, 0, none⟩ v) := by
  have hb := blk_new w (.cells #[u] t (0, 0))
  have hc : (w.alloc (.cells #[u] t)).cell? ⟨w.heap.size, 0, none⟩ = some u := (blk_cell hb 0).trans rfl
  have hf : (w.alloc (.cells #[u] t)).frozen? ⟨w.heap.size, 0, none⟩ = false := blk_frozen hb 0
  rw [run_store P _ _ v _ h1, hc]
  simp [hf]
theorem speaker_heap (u pv o : Int) (ng cg n c : Nat) (G A : Option Addr) (b : Bool) (w : World) :
    Calls Try.prog 106 #[.agg #[.int .i64 u, .slice G ng cg, .int .i64 pv], .agg #[.int .i64 o, .bool b, .slice A n c]] w fun e w' => e = .returned (.func (.func 108) #[] #[.pointer (some ⟨w.heap.size, 0, none⟩), .pointer (some ⟨w.heap.size + 1, 0, none⟩)]) ∧
      w'.heap[w.heap.size]? = some (.cells #[.int .i64 u, .slice G ng cg, .int .i64 pv] 63 (0, 0)) ∧ w'.heap[w.heap.size + 1]? = some (.cells #[.int .i64 o, .bool b, .slice A n c] 33 (0, 0)) ∧ Below w.heap.size w w' := by
  refine (speaker_calls u pv o ng cg n c G A b w).mono ?_
  rintro e w1 ⟨rfl, rfl⟩
  exact ⟨rfl, blk_alloc (blk_new w (.cells #[.int .i64 u, .slice G ng cg, .int .i64 pv] 63 (0, 0))) (.cells #[.int .i64 o, .bool b, .slice A n c] 33), blk_lit w (.cells #[.int .i64 u, .slice G ng cg, .int .i64 pv] 63) (.cells #[.int .i64 o, .bool b, .slice A n c] 33 (0, 0)), below_alloc (below_alloc (Below.refl _ w) _) _⟩
set_option maxRecDepth 100000 in
set_option maxHeartbeats 2000000 in
theorem listed_calls (u pv o bit : Int) (gs : List Int) (G A : Option Addr) (cg c : Nat) (b : Bool) (l : List S37) (w : World) (hg : Kd.C (Kd.int .i64) w G gs.length gs) (hgc : gs.length ≤ cg) (hm : gs.length ≤ 8) (hr : k37.C w A l.length l) :
    Calls Try.prog 103 #[.agg #[.int .i64 u, .slice G gs.length cg, .int .i64 pv], .agg #[.int .i64 o, .bool b, .slice A l.length c], .int .i64 bit] w (Judged (listedG u gs o bit l) (listedD u gs o bit l) w) := by
  have HG := Aside0.mk hg
  have HGC := Aside0.mk hgc
  have HM := Aside0.mk hm
  have HR := Aside0.mk hr
  have HLM := Aside0.mk hr.2.1
  have HFF := Aside0.mk (firstAt_find (hitB u gs o bit) l)
  clear hg hgc hm hr
  go_enter Try.func103, Try.ntmps103
  go_upto_region 1 with (fail)
  have hb_ := below_alloc (below_alloc (below_alloc (below_alloc (Below.refl _ w) (.cells #[.int .i64 u, .slice G gs.length cg, .int .i64 pv] 63)) (.cells #[.int .i64 o, .bool b, .slice A l.length c] 33)) (.cells #[.int .i64 bit] 3)) (.cells #[.int .i64 0, .int .i64 0, .int .i64 0] 116)
  have hG0_ := blk_alloc (blk_alloc (blk_alloc (blk_lit0 w (.cells #[.int .i64 u, .slice G gs.length cg, .int .i64 pv] 63)) (.cells #[.int .i64 o, .bool b, .slice A l.length c] 33)) (.cells #[.int .i64 bit] 3)) (.cells #[.int .i64 0, .int .i64 0, .int .i64 0] 116)
  have hG1_ := blk_alloc (blk_alloc (blk_lit w (.cells #[.int .i64 u, .slice G gs.length cg, .int .i64 pv] 63) (.cells #[.int .i64 o, .bool b, .slice A l.length c] 33)) (.cells #[.int .i64 bit] 3)) (.cells #[.int .i64 0, .int .i64 0, .int .i64 0] 116)
  have hG2_ := blk_alloc (blk_lit2 w (.cells #[.int .i64 u, .slice G gs.length cg, .int .i64 pv] 63) (.cells #[.int .i64 o, .bool b, .slice A l.length c] 33) (.cells #[.int .i64 bit] 3)) (.cells #[.int .i64 0, .int .i64 0, .int .i64 0] 116)
  have hG3_ := blk_lit3 w (.cells #[.int .i64 u, .slice G gs.length cg, .int .i64 pv] 63) (.cells #[.int .i64 o, .bool b, .slice A l.length c] 33) (.cells #[.int .i64 bit] 3) (.cells #[.int .i64 0, .int .i64 0, .int .i64 0] 116)
  generalize ((((w.alloc (.cells #[.int .i64 u, .slice G gs.length cg, .int .i64 pv] 63)).alloc (.cells #[.int .i64 o, .bool b, .slice A l.length c] 33)).alloc (.cells #[.int .i64 bit] 3)).alloc (.cells #[.int .i64 0, .int .i64 0, .int .i64 0] 116)) = W at hb_ hG0_ hG1_ hG2_ hG3_ ⊢
  have HB_W := Aside0.mk hb_
  have W0 := Aside0.mk hG0_
  have W1 := Aside0.mk hG1_
  have W2 := Aside0.mk hG2_
  have W3 := Aside0.mk hG3_
  clear hb_ hG0_ hG1_ hG2_ hG3_
  have t0 := (blk_cell W0.out 0).trans rfl; have t1 := (blk_cell W0.out 1).trans rfl; have t2 := (blk_cell W0.out 2).trans rfl
  have d0 := (blk_cell W1.out 0).trans rfl; have d1 := (blk_cell W1.out 1).trans rfl; have d2 := (blk_cell W1.out 2).trans rfl
  go_upto_region 2 with ((with_reducible refine gate_dst (N := 13) rfl ?_); refine goesL_ (some 13) rfl rfl Try.func106 (by kernel_rfl) rfl #[.agg #[.int .i64 u, .slice G gs.length cg, .int .i64 pv], .agg #[.int .i64 o, .bool b, .slice A l.length c]] rfl (by (try simp only [List.map_toArray, List.map_cons, List.map_nil]); first | done | rfl) ?_; refine (speaker_heap u pv o gs.length cg l.length c G A b _).mono ?_; rintro e w1 ⟨rfl, ht1, hd1, hb1⟩; refine ⟨_, rfl, ?_⟩; have T1 := Aside0.mk ht1; have D1 := Aside0.mk hd1; have HB1 := Aside0.mk hb1; have hst := store_new (P := Try.prog) w1 68 .nilFunc (.func (.func 108) #[] #[.pointer (some ⟨W.heap.size, 0, none⟩), .pointer (some ⟨W.heap.size + 1, 0, none⟩)]) rfl; clear ht1 hd1 hb1 t0 t1 t2 d0 d1 d2)
  obtain ⟨w2, hw2⟩ : ∃ w2, w2 = w1.alloc (.cells #[.func (.func 108) #[] #[.pointer (some ⟨W.heap.size, 0, none⟩), .pointer (some ⟨W.heap.size + 1, 0, none⟩)]] 68) := ⟨_, rfl⟩
  rw [← hw2]
  have HF2 := Aside0.mk (show w2.heap[w1.heap.size]? = some (.cells #[.func (.func 108) #[] #[.pointer (some ⟨W.heap.size, 0, none⟩), .pointer (some ⟨W.heap.size + 1, 0, none⟩)]] 68 (0, 0)) by rw [hw2]; exact blk_new w1 _)
  have HB2 := Aside0.mk (show Below W.heap.size W w2 by rw [hw2]; exact below_alloc HB1.out _)
  have T2 := Aside0.mk (show w2.heap[W.heap.size]? = some (.cells #[.int .i64 u, .slice G gs.length cg, .int .i64 pv] 63 (0, 0)) by rw [hw2]; exact blk_alloc T1.out _)
  have D2 := Aside0.mk (show w2.heap[W.heap.size + 1]? = some (.cells #[.int .i64 o, .bool b, .slice A l.length c] 33 (0, 0)) by rw [hw2]; exact blk_alloc D1.out _)
  clear hw2 hst T1 D1 HB1
  have HBW2 := Aside0.mk (below_step HB_W.out HB2.out)
  have B2 := Aside0.mk (blk_below W2.out HB2.out)
  have E2 := Aside0.mk (blk_below W1.out HB2.out)
  have C2 := Aside0.mk (blk_below W3.out HB2.out)
  have HLK := Aside0.mk (show Looks 107 #[.pointer (some ⟨w.heap.size + 1 + 1, 0, none⟩), .pointer (some ⟨w1.heap.size, 0, none⟩)] (hitB u gs o bit) w2 from
    { enters := enters_ Try.func107 (by kernel_rfl) rfl
      calls := fun x w3 hb => hit_calls u pv o bit gs G A cg c l.length W.heap.size (W.heap.size + 1) (w.heap.size + 1 + 1) w1.heap.size b x w3 (blk_below B2.out hb) (blk_below HF2.out hb) (blk_below T2.out hb) (blk_below D2.out hb) (Kd.C_below (Kd.C_below HG.out HBW2.out) hb) HGC.out HM.out })
  have d0 := (blk_cell E2.out 0).trans rfl; have d1 := (blk_cell E2.out 1).trans rfl; have d2 := (blk_cell E2.out 2).trans rfl
  go_upto_region 3 with ((with_reducible refine gate_dst (N := 17) rfl ?_); refine goesL_ (some 17) rfl rfl Try.func105 (by kernel_rfl) rfl #[.slice A l.length c, .func (.func 107) #[] #[.pointer (some ⟨w.heap.size + 1 + 1, 0, none⟩), .pointer (some ⟨w1.heap.size, 0, none⟩)]] rfl (by (try simp only [List.map_toArray, List.map_cons, List.map_nil]); first | done | rfl) ?_; refine (index_calls 107 _ (hitB u gs o bit) A c l _ HLK.out (Kd.C_below HR.out HBW2.out) HLM.out).mono ?_; rintro e w3 ⟨rfl, hb⟩; refine ⟨_, rfl, ?_⟩; have HB3 := Aside0.mk (below_step HBW2.out hb); have B3 := Aside0.mk (blk_below B2.out hb); have E3 := Aside0.mk (blk_below E2.out hb); have C3 := Aside0.mk (blk_below C2.out hb); clear hb d0 d1 d2)
  have x0 := (blk_cell C3.out 0).trans rfl; have x1 := (blk_cell C3.out 1).trans rfl; have x2 := (blk_cell C3.out 2).trans rfl
  have fx0 := blk_frozen C3.out 0; have fx1 := blk_frozen C3.out 1; have fx2 := blk_frozen C3.out 2
  rcases HFF.out with ⟨hn, hi⟩ | ⟨j, hj, hi, hs⟩
  · have HS1 := Aside0.mk (show listedD u gs o bit l = false by unfold listedD; rw [hn]; rfl)
    have HS2 := Aside0.mk (show listedG u gs o bit l = false by unfold listedG; rw [hn])
    rw [hi]
    obtain ⟨w4, hw4, hx4, hb4, _⟩ := cause_cells (.int .i64 0) (.int .i64 0) (.int .i64 0) C3.out HB3.out (by omega)
    have HX := Aside0.mk hx4
    have HB4 := Aside0.mk hb4
    have HW4 := Aside0.mk hw4
    clear hw4 hx4 hb4 hi hn
    go_wp2
    rw [HS1.out, HS2.out, ← HW4.out]
    exact judge_end rfl rfl rfl rfl HX.out HB4.out
  · have HS1 := Aside0.mk (show listedD u gs o bit l = true by unfold listedD; rw [hs]; rfl)
    have HS2 := Aside0.mk (show listedG u gs o bit l = (rd_T37 l j).f0 by unfold listedG; rw [hs, rd_at hj])
    rw [hi]
    obtain ⟨ad, rfl, x0, x1, x2, x3⟩ := at_T37 HR.out (j : Int) (by omega) (by omega)
    simp only [Int.toNat_natCast] at x0
    clear x1 x2 x3
    have h1 : decide ((j : Int) < 0) = false := by simp
    have h2 : decide (j < l.length) = true := by simpa using hj
    clear hi hs x0
    go_upto_region 5 with (fail)
    obtain ⟨ad', had, x0, _, _, _⟩ := at_T37 HR.out (j : Int) (by omega) (by omega)
    cases had
    simp only [Int.toNat_natCast] at x0
    have Y0 := Aside0.mk x0
    replace x0 := (HB3.out.cell (World.block_lt_of_cell? w _ x0)).trans x0
    refine start_ (n := 12) (S := fun w' => w'.cell? ⟨w.heap.size + 1 + 1, 0, none⟩ = some (.int .i64 bit) ∧ w'.cell? ⟨w.heap.size + 1, 2, none⟩ = some (.slice (some ad) l.length c) ∧ w'.cell? (ad.add (j * 4)) = some (.bool (rd_T37 l j).f0)) (ds := []) #[false, false, false, false, false, false, false, false, false, false, false, false] (by kernel_rfl) rfl rfl ⟨(blk_cell (blk_drew B3.out) 0).trans rfl, (blk_cell (blk_drew E3.out) 2).trans rfl, x0⟩ (fun hHeld => ?_)
    have C4 := Aside0.mk (blk_drew C3.out)
    have HB4 := Aside0.mk (below_drew1 HB3.out)
    have B4 := Aside0.mk (blk_drew B3.out)
    have E4 := Aside0.mk (blk_drew E3.out)
    generalize w3.drew = wd at C4 HB4 B4 E4 hHeld ⊢
    refine pure_ (i := 1) (N := some 22) (v := ?_) (a' := ?_) #[false, true, false, false, false, false, false, false, false, false, false, false] rfl rfl (by kernel_rfl) (fun _ _ _ h => h) (Or.inl ⟨by rfl, ?_⟩) ?_ ?_
    rotate_left
    · intro w'
      go_simp
      with_reducible rfl
    rotate_left
    · simp only [Act.put, List.setIfInBounds_toArray, List.set_cons_zero, List.set_cons_succ, i64_w, i32_w]
      rfl
    refine pure_ (i := 3) (N := some 24) (v := ?_) (a' := ?_) #[false, true, false, true, false, false, false, false, false, false, false, false] rfl rfl (by kernel_rfl) (fun _ _ _ h => h) (Or.inl ⟨by rfl, ?_⟩) ?_ ?_
    rotate_left
    · intro w'
      go_simp
      with_reducible rfl
    rotate_left
    · simp only [Act.put, List.setIfInBounds_toArray, List.set_cons_zero, List.set_cons_succ, i64_w, i32_w]
      rfl
    refine pure_ (i := 5) (N := some 26) (v := ?_) (a' := ?_) #[false, true, false, true, false, true, false, false, false, false, false, false] rfl rfl (by kernel_rfl) (fun _ _ _ h => h) (Or.inl ⟨by rfl, ?_⟩) ?_ ?_
    rotate_left
    · intro w'
      go_simp
      with_reducible rfl
    rotate_left
    · simp only [Act.put, List.setIfInBounds_toArray, List.set_cons_zero, List.set_cons_succ, i64_w, i32_w]
      rfl
    refine take_ (i := 0) (N := some 21) (v := ?_) (a' := ?_) #[true, true, false, true, false, true, false, false, false, false, false, false] rfl rfl (by kernel_rfl) (fun _ _ _ h => h) (Or.inl ⟨by rfl, ?_⟩) hHeld ?_ ?_
    rotate_left
    · rintro w' ⟨s0, s1, s2⟩
      go_simp
      with_reducible rfl
    rotate_left
    · simp only [Act.put, List.setIfInBounds_toArray, List.set_cons_zero, List.set_cons_succ, i64_w, i32_w]
      rfl
    refine pure_ (i := 2) (N := some 23) (v := ?_) (a' := ?_) #[true, true, true, true, false, true, false, false, false, false, false, false] rfl rfl (by kernel_rfl) (fun _ _ _ h => h) (Or.inl ⟨by rfl, ?_⟩) ?_ ?_
    rotate_left
    · intro w'
      go_simp
      with_reducible rfl
    rotate_left
    · simp only [Act.put, List.setIfInBounds_toArray, List.set_cons_zero, List.set_cons_succ, i64_w, i32_w]
      rfl
    refine take_ (i := 4) (N := some 25) (v := ?_) (a' := ?_) #[true, true, true, true, true, true, false, false, false, false, false, false] rfl rfl (by kernel_rfl) (fun _ _ _ h => h) (Or.inl ⟨by rfl, ?_⟩) hHeld ?_ ?_
    rotate_left
    · rintro w' ⟨s0, s1, s2⟩
      go_simp
      with_reducible rfl
    rotate_left
    · simp only [Act.put, List.setIfInBounds_toArray, List.set_cons_zero, List.set_cons_succ, i64_w, i32_w]
      rfl
    refine pure_ (i := 6) (N := some 27) (v := ?_) (a' := ?_) #[true, true, true, true, true, true, true, false, false, false, false, false] rfl rfl (by kernel_rfl) (fun _ _ _ h => h) (Or.inl ⟨by rfl, ?_⟩) ?_ ?_
    rotate_left
    · intro w'
      go_simp
      with_reducible rfl
    rotate_left
    · simp only [Act.put, List.setIfInBounds_toArray, List.set_cons_zero, List.set_cons_succ, i64_w, i32_w]
      rfl
    refine pure_ (i := 7) (N := some 28) (v := ?_) (a' := ?_) #[true, true, true, true, true, true, true, true, false, false, false, false] rfl rfl (by kernel_rfl) (fun _ _ _ h => h) (Or.inl ⟨by rfl, ?_⟩) ?_ ?_
    rotate_left
    · intro w'
      go_simp
      with_reducible rfl
    rotate_left
    · simp only [Act.put, List.setIfInBounds_toArray, List.set_cons_zero, List.set_cons_succ, i64_w, i32_w]
      rfl
    refine take_ (i := 8) (N := some 29) (v := ?_) (a' := ?_) #[true, true, true, true, true, true, true, true, true, false, false, false] rfl rfl (by kernel_rfl) (fun _ _ _ h => h) (Or.inl ⟨by rfl, ?_⟩) hHeld ?_ ?_
    rotate_left
    · rintro w' ⟨s0, s1, s2⟩
      go_simp
      with_reducible rfl
    rotate_left
    · simp only [Act.put, List.setIfInBounds_toArray, List.set_cons_zero, List.set_cons_succ, i64_w, i32_w]
      rfl
    clear x0 x1 x2 fx0 fx1 fx2
    have x0 := (blk_cell C4.out 0).trans rfl; have x1 := (blk_cell C4.out 1).trans rfl; have x2 := (blk_cell C4.out 2).trans rfl
    have fx0 := blk_frozen C4.out 0; have fx1 := blk_frozen C4.out 1; have fx2 := blk_frozen C4.out 2
    refine one_ (i := 9) (N := none) #[true, true, true, true, true, true, true, true, true, true, false, false] rfl rfl (by kernel_rfl) (by decide) (fun K hK => ?_)
    refine skip_ (w1 := ?_) (by rfl) rfl ?_ ?_
    rotate_left
    · go_simp
      rfl
    obtain ⟨w4, hw4, hx4, hb4, hg4⟩ := cause_cells (.int .i64 bit) (.int .i64 3) (.int .i64 j) C4.out HB4.out (by omega)
    rw [← hw4]
    have B5 := Aside0.mk (blk_grown B4.out hg4 (by simp))
    have E5 := Aside0.mk (blk_grown E4.out hg4 (by simp))
    have HX := Aside0.mk hx4
    have HB5 := Aside0.mk hb4
    clear hw4 hx4 hb4 hg4
    refine hK.out _ _ ⟨(blk_cell B5.out 0).trans rfl, (blk_cell E5.out 2).trans rfl, (HB5.out.cell (World.block_lt_of_cell? w _ Y0.out)).trans Y0.out⟩ (fun hHeld => ?_)
    clear hK K
    refine pure_ (i := 10) (N := some 7) (v := ?_) (a' := ?_) #[true, true, true, true, true, true, true, true, true, true, true, false] rfl rfl (by kernel_rfl) (fun _ _ _ h => h) (Or.inl ⟨by rfl, ?_⟩) ?_ ?_
    rotate_left
    · intro w'
      go_simp
      with_reducible rfl
    rotate_left
    · simp only [Act.put, List.setIfInBounds_toArray, List.set_cons_zero, List.set_cons_succ, i64_w, i32_w]
      rfl
    refine pure_ (i := 11) (N := some 8) (v := ?_) (a' := ?_) #[true, true, true, true, true, true, true, true, true, true, true, true] rfl rfl (by kernel_rfl) (fun _ _ _ h => h) (Or.inl ⟨by rfl, ?_⟩) ?_ ?_
    rotate_left
    · intro w'
      go_simp
      with_reducible rfl
    rotate_left
    · simp only [Act.put, List.setIfInBounds_toArray, List.set_cons_zero, List.set_cons_succ, i64_w, i32_w]
      rfl
    refine done_ (by kernel_rfl) ?_
    go_wp2
    rw [HS1.out, HS2.out]
    exact judge_end rfl rfl rfl rfl HX.out HB5.out
end Go.Proofs.Ytgocgjfaiddejaa.M
