/- inherit.spread. -/
import Derived.Test.YtgocgjfaiddejaaH21
import Derived.Test.YtgocgjfaiddejaaH5
import Derived.Test.YtgocgjfaiddejaaHQ
namespace Go.Proofs.Ytgocgjfaiddejaa.M
open Go.RowKit Go.Proofs.YtgocgjfaiddejaaW.PrintWords Go.Proofs.YtgocgjfaiddejaaW.PrintLast Go.Proofs.YtgocgjfaiddejaaW.PrintMore
set_option linter.unusedVariables false
set_option linter.unusedSimpArgs false

def grow0 (l : List S35) : List S105 := l.map (fun t => ⟨t, false⟩)
def spreadF (l : List S35) (kk : Nat) (d : S33) : Option (List S35) :=
  (sprF (l.length - (kk + 1)) (kk + 1) (setDown (setDesc (grow0 l) kk d) kk)).map (fun s => s.map (·.f0))
theorem rd_grow0 (l : List S35) (j : Nat) (hj : j < l.length) : rd_T105 (grow0 l) j = ⟨rd_T35 l j, false⟩ := by
  rw [rd105_at (by simpa [grow0] using hj), rd35_at hj]
  simp [grow0]
theorem grow0_ok {l : List S35} (h : vTree l = true) : GOk l.length (grow0 l) := by
  refine ⟨by simp [grow0], fun j h0 hj => ?_, fun j hj => ?_⟩
  · rw [rd_grow0 l j hj]
    obtain ⟨u, hu, hu1, _⟩ := vTw_up (vTree_at h hj) h0
    exact ⟨u, hu, hu1⟩
  · rw [rd_grow0 l j hj]
    exact vTw_len (vTree_at h hj)
/-- A row of objects of the call's own. -/
abbrev RT (w : World) (base : Nat) (v : Value) (xs : List S35) : Prop := Kd.R k35 35 w base (fun _ => True) v xs
def SpreadPost (r : Option (List S35)) (w : World) (e : Ending) (w' : World) : Prop :=
  Below w.heap.size w w' ∧ match r with
  | some out => ∃ v, e = .returned v ∧ RT w' w.heap.size v out
  | none => e = .panicked [{ v := .iface 101 (.agg #[]), recovered := false }]

theorem take_snoc35 (l : List S35) (j : Nat) (h : j < l.length) : (grow0 l).take (j + 1) = (grow0 l).take j ++ [⟨rd_T35 l j, false⟩] := by
  rw [List.take_succ_eq_append_getElem (by simpa [grow0] using h)]
  congr 2
  rw [rd35_at h]
  simp [grow0]
theorem renew_post {o2 : Int} {b2 : Bool} {l1 l2 : List S37} {dir : Bool} {w w' : World} {e : Ending} (p : S33) (hp : p.f2 = l1) (h : RenewPost o2 b2 l1 l2 dir w e w') :
    Below w.heap.size w w' ∧ ((∃ d v, renewD p ⟨o2, b2, l2⟩ dir = some d ∧ e = .returned (.agg #[.int .i64 d.f0, .bool d.f1, v]) ∧ RA w' w.heap.size v d.f2) ∨ (renewD p ⟨o2, b2, l2⟩ dir = none ∧ e = .panicked [{ v := .iface 101 (.agg #[]), recovered := false }])) := by
  subst hp
  obtain ⟨hb, h⟩ := h
  refine ⟨hb, ?_⟩
  unfold renewD
  cases b2
  · rw [if_neg (by simp)] at h ⊢
    by_cases h16 : (renewL p.f2 l2 dir).length ≤ 16
    · rw [if_pos h16] at h ⊢
      obtain ⟨v, rfl, hr⟩ := h
      exact .inl ⟨_, v, rfl, rfl, hr⟩
    · rw [if_neg h16] at h ⊢
      exact .inr ⟨rfl, h⟩
  · rw [if_pos rfl] at h ⊢
    obtain ⟨v, rfl, hr⟩ := h
    exact .inl ⟨_, v, rfl, rfl, hr⟩
theorem keeps_below {A B : World} (h : Below A.heap.size A B) : KeepsOthers A B := ⟨h.size, fun k o hk _ => (h.block k (Array.getElem?_eq_some_iff.1 hk).1).trans hk⟩
theorem keeps_cells {A B : World} {g t : Nat} {cs : Array Value} (hg : A.grownBy B (some g)) (hc : A.heap[g]? = some (.cells cs t (0, 0))) : KeepsOthers A B :=
  ⟨hg.size, fun k o hk ho => (hg.block k (Array.getElem?_eq_some_iff.1 hk).1 (fun e => by cases e; rw [hc] at hk; cases hk; cases ho)).trans hk⟩
theorem spr_ok {n kk : Nat} (hk : kk < n) : ∀ {s0 s : List S105}, GOk n s0 → ∀ (c i : Nat), 0 < i → c + i ≤ n → sprF c i s0 = some s → GOk n s
  | s0, s, h, 0, i, _, _, e => by cases e; exact h
  | s0, s, h, c + 1, i, h0, hi, e => by
    unfold sprF at e
    split at e
    · obtain ⟨s1, h1, h2⟩ := Option.bind_eq_some_iff.1 e
      exact spr_ok hk ((h.down (by omega)).body (by omega) h1) c (i + 1) (by omega) (by omega) h2
    · exact spr_ok hk h c (i + 1) (by omega) (by omega) e
theorem alloc_obj {W : World} {k : Nat} {o : Obj} (h : W.heap[k]? = some o) (o' : Obj) : (W.alloc o').heap[k]? = some o := (Below.heap_alloc W o' k (Array.getElem?_eq_some_iff.1 h).1).trans h
theorem take_snocM (s : List S105) (j : Nat) (h : j < s.length) : (s.map (·.f0)).take (j + 1) = (s.map (·.f0)).take j ++ [(rd_T105 s j).f0] := by
  rw [List.take_succ_eq_append_getElem (by simpa using h)]
  congr 2
  rw [rd105_at h]
  simp
set_option maxRecDepth 100000 in
set_option maxHeartbeats 2000000 in
theorem spread_calls (A A2 : Option Addr) (c c2 : Nat) (l : List S35) (kk : Nat) (o : Int) (b : Bool) (l2 : List S37) (w : World) (hr : Kd.C k35 w A l.length l) (hv : vTree l = true) (hk : kk < l.length) (hr2 : k37.C w A2 l2.length l2) (hm2 : l2.length ≤ 16) :
    Calls Try.prog 57 #[.slice A l.length c, .int .i64 kk, .agg #[.int .i64 o, .bool b, .slice A2 l2.length c2]] w (SpreadPost (spreadF l kk ⟨o, b, l2⟩) w) := by
  have HR := Aside0.mk hr
  have HR2 := Aside0.mk hr2
  have HV := Aside0.mk hv
  have hle := (vTree_pos hv).2.1
  clear hr hr2 hv
  refine calls_of_wpAt Try.func57 rfl ?_
  simp only [Try.ntmps57, List.size_toArray, List.length_cons, List.length_nil, Nat.reduceAdd, Nat.reduceSub, Array.replicate_succ, Array.replicate_zero, List.push_toArray, List.append_toArray, List.nil_append, List.cons_append]
  refine wpAt_then (fun K hK => ?_)
  go_wp2
  refine wpAt_then (fun K hK => ?_)
  go_wp2
  have hb_ := below_alloc (below_alloc (Below.refl _ w) (.cells #[.int .i64 o, .bool b, .slice A2 l2.length c2] 33)) (.cells #[.slice none 0 0] 103)
  have hG0_ := blk_alloc (blk_lit0 w (.cells #[.int .i64 o, .bool b, .slice A2 l2.length c2] 33)) (.cells #[.slice none 0 0] 103)
  have hG1_ := blk_lit w (.cells #[.int .i64 o, .bool b, .slice A2 l2.length c2] 33) (.cells #[.slice none 0 0] 103)
  generalize ((w.alloc (.cells #[.int .i64 o, .bool b, .slice A2 l2.length c2] 33)).alloc (.cells #[.slice none 0 0] 103)) = W at hb_ hG0_ hG1_ ⊢
  have HB_W := Aside0.mk hb_
  have W0 := Aside0.mk hG0_
  have W1 := Aside0.mk hG1_
  clear hb_ hG0_ hG1_
  refine wpAt_then (fun K hK => ?_)
  go_wp2
  go_loopg [16] l.length (fun kq v16 w' => ∃ (j : Nat) (v7 : Value), v16 = .int .i64 j ∧ Aside0 (kq + j = l.length) ∧ Aside0 (Below w.heap.size w w') ∧ Aside0 (w'.heap[w.heap.size]? = some (.cells #[.int .i64 o, .bool b, .slice A2 l2.length c2] 33 (0, 0))) ∧ Aside0 (w'.heap[w.heap.size + 1]? = some (.cells #[v7] 103 (0, 0))) ∧ Aside0 (Kd.R k105 105 w' w.heap.size (fun _ => True) v7 ((grow0 l).take j)))
  case atStart => exact ⟨0, _, rfl, ⟨rfl⟩, HB_W, W0, W1, ⟨Kd.R_nil _ _ _ _ _⟩⟩
  case round =>
    obtain ⟨j, v7, rfl, HN, HB, HX, HY, HO⟩ := hrel
    clear HB_W W0 W1 W
    by_cases hlt : j < l.length
    · have h1 : decide (j < l.length) = true := by simpa using hlt
      obtain ⟨ad, A5, c5, rfl, y0, y1, y2, y3, y4, hl5, hr5⟩ := at_T35 (Kd.C_below HR.out HB.out) (j : Int) (by omega) (by omega)
      simp only [Int.toNat_natCast] at y0 y1 y2 y3 y4
      have HR5 := Aside0.mk hr5
      have HM5 := Aside0.mk (vTw_len (vTree_at HV.out hlt))
      clear hl5 hr5
      go_upto_region 6 with ((with_reducible refine gate_dst (N := 23) rfl ?_); refine goesL_ (some 23) rfl rfl Try.func66 (by kernel_rfl) rfl #[.slice A5 (rd_T35 l j).f2.f2.length c5] rfl (by (try simp only [List.map_toArray, List.map_cons, List.map_nil]); first | done | rfl) ?_; refine (clone_calls A5 c5 (rd_T35 l j).f2.f2 _ (Kd.C_alloc HR5.out _) (by have := HM5.out; omega)).mono ?_; rintro e w5 ⟨v5, rfl, hra, hb⟩; refine ⟨_, rfl, ?_⟩; obtain ⟨A6, c6, rfl⟩ := Kd.R_slice hra; have HB5 := Aside0.mk (below_step (below_alloc HB.out _) hb); have X5 := Aside0.mk (blk_below (blk_new wr (.cells #[.int .i64 (rd_T35 l j).f0, .bool (rd_T35 l j).f1, .int .i64 (rd_T35 l j).f2.f0, .bool (rd_T35 l j).f2.f1, .slice A5 (rd_T35 l j).f2.f2.length c5] 35)) hb); have HX5 := Aside0.mk (blk_below (blk_alloc HX.out _) hb); have HY5 := Aside0.mk (blk_below (blk_alloc HY.out _) hb); have HO5 := Aside0.mk (Kd.R_below (Kd.R_alloc HO.out _) hb); have HL5 := Aside0.mk hra; have HS5 := Aside0.mk hb.size; have z0 := (blk_cell X5.out 0).trans rfl; have z1 := (blk_cell X5.out 1).trans rfl; have z2 := (blk_cell X5.out 2).trans rfl; have z3 := (blk_cell X5.out 3).trans rfl; have z4 := (blk_cell X5.out 4).trans rfl; have fz0 := blk_frozen X5.out 0; have fz1 := blk_frozen X5.out 1; have fz2 := blk_frozen X5.out 2; have fz3 := blk_frozen X5.out 3; have fz4 := blk_frozen X5.out 4; clear hra hb y0 y1 y2 y3 y4)
      obtain ⟨w6, hw6⟩ : ∃ w6, w6 = w5.setCell ⟨wr.heap.size, 4, none⟩ (.slice A6 (rd_T35 l j).f2.f2.length c6) := ⟨_, rfl⟩
      rw [← hw6]
      have hwr := HB.out.size
      have X6 := Aside0.mk (show w6.heap[wr.heap.size]? = some (.cells #[.int .i64 (rd_T35 l j).f0, .bool (rd_T35 l j).f1, .int .i64 (rd_T35 l j).f2.f0, .bool (rd_T35 l j).f2.f1, .slice A6 (rd_T35 l j).f2.f2.length c6] 35 (0, 0)) by rw [hw6]; exact blk_put X5.out 4 _ rfl)
      have HX6 := Aside0.mk (show w6.heap[w.heap.size]? = some (.cells #[.int .i64 o, .bool b, .slice A2 l2.length c2] 33 (0, 0)) by rw [hw6]; exact blk_far HX5.out (show w.heap.size ≠ wr.heap.size by have := blk_lt HX.out; omega) _)
      have HY6 := Aside0.mk (show w6.heap[w.heap.size + 1]? = some (.cells #[v7] 103 (0, 0)) by rw [hw6]; exact blk_far HY5.out (show w.heap.size + 1 ≠ wr.heap.size by have := blk_lt HY.out; omega) _)
      have HB6 := Aside0.mk (show Below w.heap.size w w6 by rw [hw6]; exact HB5.out.setCell (p := ⟨wr.heap.size, 4, none⟩) hwr _)
      have HO6 := Aside0.mk (show Kd.R k105 105 w6 w.heap.size (fun _ => True) v7 ((grow0 l).take j) by rw [hw6]; exact Kd.R_set HO5.out X5.out (by decide) 4 _)
      have HL6 := Aside0.mk (show Kd.R k37 37 w6 w.heap.size (fun k => wr.heap.size ≤ k) (.slice A6 (rd_T35 l j).f2.f2.length c6) (rd_T35 l j).f2.f2 by
        rw [hw6]
        exact Kd.R_set (Kd.R_lower (Kd.R_mono (Kd.R_bound HL5.out) (fun k hk => by have := hk.2.1; simp at this; omega)) (by simp; omega)) X5.out (by decide) 4 _)
      have HN6 := Aside0.mk (show ∀ k, wr.heap.size ≤ k → True ∧ some k ≠ v7.ownBlock from fun k hk => ⟨trivial, fun he => by have := Kd.R_lt HO.out k he.symm; omega⟩)
      clear hw6 z0 z1 z2 z3 z4 fz0 fz1 fz2 fz3 fz4 X5 HX5 HY5 HB5 HO5 HL5 HS5
      have z0 := (blk_cell X6.out 0).trans rfl; have z1 := (blk_cell X6.out 1).trans rfl; have z2 := (blk_cell X6.out 2).trans rfl; have z3 := (blk_cell X6.out 3).trans rfl; have z4 := (blk_cell X6.out 4).trans rfl
      have y0 := (blk_cell HY6.out 0).trans rfl
      have fy := blk_frozen HY6.out 0
      go_wp2_with ((with_reducible refine gate_builtin (b := .append) (xs := #[.tmp 26, .tmp 29]) rfl ?_); at_builtin; refine Kd.R_append k105 (w0 := w) w.heap.size rfl (.tmp 26) (.tmp 29) 103 105 (.agg #[(.int .i64 0), (.bool false), (.int .i64 0), (.bool false), (.slice none 0 0), (.bool false)]) 64 rfl Try.underlying103 info105 rfl (by decide) (by omega) v7 ((grow0 l).take j) (⟨rd_T35 l j, false⟩ : S105) [.int .i64 (rd_T35 l j).f0, .bool (rd_T35 l j).f1, .int .i64 (rd_T35 l j).f2.f0, .bool (rd_T35 l j).f2.f1, .slice A6 (rd_T35 l j).f2.f2.length c6, .bool false] (fun _ => True) (fun k => wr.heap.size ≤ k) rfl rfl (k105_mkM _ _ _ (⟨rd_T35 l j, false⟩ : S105) HL6.out) HN6.out (fun _ _ => trivial) HO6.out HB6.out HB6.out.size (by rw [List.length_take]; omega) ?_; intro v8 w8 ho hb hg hat; obtain ⟨A8, c8, hv8⟩ := Kd.R_slice ho; generalize List.length (List.take j (grow0 l) ++ [(⟨rd_T35 l j, false⟩ : S105)]) = n8 at hv8; subst hv8; have HO8 := Aside0.mk ho; have HB8 := Aside0.mk hb; have HX8 := Aside0.mk (blk_grown HX6.out hg (Kd.R_ne HO6.out HX6.out (by decide))); have HY8 := Aside0.mk (blk_grown HY6.out hg (Kd.R_ne HO6.out HY6.out (by decide))); clear ho hb hg hat z0 z1 z2 z3 z4 y0 fy; have y0 := (blk_cell HY8.out 0).trans rfl; have fy := blk_frozen HY8.out 0)
      go_roundg (l.length - (j + 1))
      case measure => have := HN.out; omega
      case rel => exact ⟨j + 1, _, by go_num, ⟨by omega⟩, ⟨HB8.out.setCell (p := ⟨w.heap.size + 1, 0, none⟩) (show w.heap.size ≤ w.heap.size + 1 by omega) _⟩, ⟨blk_far HX8.out (show w.heap.size ≠ w.heap.size + 1 by omega) _⟩, ⟨blk_put HY8.out 0 _ rfl⟩, ⟨by rw [take_snoc35 l j hlt]; exact Kd.R_set HO8.out HY8.out (by decide) 0 _⟩⟩
    · have h1 : decide (j < l.length) = false := by simpa using hlt
      have hj : j = l.length := by have := HN.out; omega
      go_wp2
      have hr9 : Kd.R k105 105 wr w.heap.size (fun _ => True) v7 (grow0 l) := by
        have := HO.out
        rwa [List.take_of_length_le (by simp [grow0]; omega)] at this
      obtain ⟨gb, cap, rfl, hgb, _⟩ := Kd.R_form hr9 (by simp [grow0]; omega)
      have hgl : (grow0 l).length = l.length := by simp [grow0]
      have HGL := Aside0.mk hgl
      have HRG := Aside0.mk (show RG wr w.heap.size gb cap (grow0 l) from hr9)
      subst hj
      clear hr9 HO
      rw [hgl] at HY
      clear hgl HN h1 hlt
      refine wpAt_then (fun K hK => ?_)
      have x0 := (blk_cell HX.out 0).trans rfl; have x1 := (blk_cell HX.out 1).trans rfl; have x2 := (blk_cell HX.out 2).trans rfl
      have fx0 := blk_frozen HX.out 0; have fx1 := blk_frozen HX.out 1; have fx2 := blk_frozen HX.out 2
      go_wp2_with ((with_reducible refine gate_dst (N := 34) rfl ?_); refine goesL_ (some 34) rfl rfl Try.func66 (by kernel_rfl) rfl #[.slice A2 l2.length c2] rfl (by (try simp only [List.map_toArray, List.map_cons, List.map_nil]); first | done | rfl) ?_; refine (clone_calls A2 c2 l2 _ (Kd.C_below HR2.out HB.out) (by omega)).mono ?_; rintro e w5 ⟨v5, rfl, hra, hb⟩; refine ⟨_, rfl, ?_⟩; obtain ⟨A6, c6, rfl⟩ := Kd.R_slice hra; have HB5 := Aside0.mk (below_step HB.out hb); have HX5 := Aside0.mk (blk_below HX.out hb); have HY5 := Aside0.mk (blk_below HY.out hb); have HRG5 := Aside0.mk (Kd.R_below HRG.out hb); have HL5 := Aside0.mk hra; clear hra hb x0 x1 x2 fx0 fx1 fx2; have x0 := (blk_cell HX5.out 0).trans rfl; have x1 := (blk_cell HX5.out 1).trans rfl; have x2 := (blk_cell HX5.out 2).trans rfl; have fx0 := blk_frozen HX5.out 0; have fx1 := blk_frozen HX5.out 1; have fx2 := blk_frozen HX5.out 2)
      obtain ⟨w6, hw6⟩ : ∃ w6, w6 = w5.setCell ⟨w.heap.size, 2, none⟩ (.slice A6 l2.length c6) := ⟨_, rfl⟩
      rw [← hw6]
      have HX6 := Aside0.mk (show w6.heap[w.heap.size]? = some (.cells #[.int .i64 o, .bool b, .slice A6 l2.length c6] 33 (0, 0)) by rw [hw6]; exact blk_put HX5.out 2 _ rfl)
      have HY6 := Aside0.mk (show w6.heap[w.heap.size + 1]? = some (.cells #[.slice (some ⟨gb, 0, none⟩) l.length cap] 103 (0, 0)) by rw [hw6]; exact blk_far HY5.out (show w.heap.size + 1 ≠ w.heap.size by omega) _)
      have HB6 := Aside0.mk (show Below w.heap.size w w6 by rw [hw6]; exact HB5.out.setCell (p := ⟨w.heap.size, 2, none⟩) (Nat.le_refl _) _)
      have HRG6 := Aside0.mk (show RG w6 w.heap.size gb cap (grow0 l) by rw [hw6]; exact Kd.R_set HRG5.out HX5.out (by decide) 2 _)
      have HL6 := Aside0.mk (show Kd.R k37 37 w6 w.heap.size (fun k => k ≠ gb) (.slice A6 l2.length c6) l2 by
        rw [hw6]
        have hlt := Kd.R_lt HRG.out gb rfl
        exact Kd.R_set (Kd.R_lower (Kd.R_mono (Kd.R_bound HL5.out) (fun k hk => by have := hk.2.1; omega)) HB.out.size) HX5.out (by decide) 2 _)
      clear hw6 x0 x1 x2 fx0 fx1 fx2 HX5 HY5 HB5 HRG5 HL5 HX HY HB HRG
      refine wpAt_then (fun K hK => ?_)
      obtain ⟨Ak, ck, e0, e1, e2, e3, e4, e5, _, _, _, ef⟩ := elem105 HRG6.out (show kk < (grow0 l).length by rw [HGL.out]; exact hk)
      have f2 := ef 2
      have f3 := ef 3
      have f4 := ef 4
      clear ef e0 e1 e5
      have x0 := (blk_cell HX6.out 0).trans rfl; have x1 := (blk_cell HX6.out 1).trans rfl; have x2 := (blk_cell HX6.out 2).trans rfl
      have y0 := (blk_cell HY6.out 0).trans rfl
      go_wp2
      have hw := setDesc105 HRG6.out (show kk < (grow0 l).length by rw [HGL.out]; exact hk) ⟨o, b, l2⟩ (.slice A6 l2.length c6) HL6.out
      obtain ⟨w7, hw7⟩ : ∃ w7, w7 = ((w6.setCell ⟨gb, kk * 6 + 2, none⟩ (.int .i64 o)).setCell ⟨gb, kk * 6 + 2 + 1, none⟩ (.bool b)).setCell ⟨gb, kk * 6 + 2 + 2, none⟩ (.slice A6 l2.length c6) := ⟨_, rfl⟩
      have hw7' : w6.setCells gb (kk * 6 + 2) [.int .i64 o, .bool b, .slice A6 l2.length c6] = w7 := by rw [hw7]; rfl
      rw [hw7'] at hw
      rw [← hw7]
      obtain ⟨gs1, hgs1⟩ : ∃ gs1, gs1 = setDesc (grow0 l) kk ⟨o, b, l2⟩ := ⟨_, rfl⟩
      have hgl1 : gs1.length = l.length := by rw [hgs1]; simp [setDesc, grow0]
      have HOK := Aside0.mk (show GOk l.length gs1 by rw [hgs1]; exact (grow0_ok HV.out).desc hk hm2)
      have HGS := Aside0.mk hgs1
      have HRG7 := Aside0.mk (show RG w7 w.heap.size gb cap gs1 by rw [hgs1]; exact hw.1)
      have HY7 := Aside0.mk (show w7.heap[w.heap.size + 1]? = some (.cells #[.slice (some ⟨gb, 0, none⟩) gs1.length cap] 103 (0, 0)) by rw [hgl1]; exact blk_grown HY6.out hw.2 (Kd.R_ne HRG6.out HY6.out (by decide)))
      have HB7 := Aside0.mk (show Below w.heap.size w w7 from pw_below_grown HB6.out _ HB6.out.size hw.2 (fun k e => by cases e; exact hgb))
      have HG1 := Aside0.mk hgl1
      clear hw hw7 hw7' hgs1 e2 e3 e4 f2 f3 f4 x0 x1 x2 HX6 HB6 HRG6 HL6
      refine wpAt_seq (wpAt_then (fun K hK => ?_))
      have y0 : w7.cell? ⟨w.heap.size + 1, 0, none⟩ = some (.slice (some ⟨gb, 0, none⟩) l.length cap) := (blk_cell HY7.out 0).trans (by rw [hgl1]; rfl)
      clear hgl1 HY6
      go_wp2_with ((with_reducible refine gate_dst (N := 44) rfl ?_); refine goesL_ (some 44) rfl rfl Try.func78 (by kernel_rfl) rfl #[.slice (some ⟨gb, 0, none⟩) l.length cap, .int .i64 kk] rfl (by (try simp only [List.map_toArray, List.map_cons, List.map_nil]); first | done | rfl) ?_; refine (below_calls _ _ _ _ _).mono ?_; rintro e w8 ⟨rfl, rfl⟩; refine ⟨_, rfl, ?_⟩)
      refine wpAt_block ?_
      have hGI := Aside0.mk (show GI w gb cap (w.heap.size + 1) w7.heap.size (w7.heap.size + 1) kk gs1 ((w7.alloc (.cells #[.slice (some ⟨gb, 0, none⟩) l.length cap] 103)).alloc (.cells #[.int .i64 kk] 3)) from
        ⟨below_alloc (below_alloc HB7.out _) _, Kd.R_alloc (Kd.R_alloc HRG7.out _) _, blk_alloc (blk_alloc HY7.out _) _, by rw [HG1.out]; exact blk_alloc (blk_new _ _) _, blk_lit _ _ _⟩)
      have hsize : w.heap.size ≤ ((w7.alloc (.cells #[.slice (some ⟨gb, 0, none⟩) l.length cap] 103)).alloc (.cells #[.int .i64 kk] 3)).heap.size := by simp; have := HB7.out.size; omega
      generalize ((w7.alloc (.cells #[.slice (some ⟨gb, 0, none⟩) l.length cap] 103)).alloc (.cells #[.int .i64 kk] 3)) = w8 at hGI hsize ⊢
      clear y0 HY7 HRG7 HB7
      have he := enters_ Try.func95 (by kernel_rfl) rfl
      simp only [Act.put, List.setIfInBounds_toArray, List.set_cons_zero, List.set_cons_succ, World.size_alloc]
      refine range_at (gf := 95) (lb := #[.pointer (some ⟨w7.heap.size, 0, none⟩), .pointer (some ⟨w7.heap.size + 1, 0, none⟩)]) (f := 57) (fn := Try.f57) Try.func57 rfl he (fun _ => rfl) _ _ _ _ _ _ _ gs1
        (below_iter w gb cap (w.heap.size + 1) w7.heap.size (w7.heap.size + 1) kk l.length gs1 hk hle HOK.out) ?hJ hGI.out ?round ?done ?panic
      case hJ =>
        rintro s X Y row h hg hrr
        exact h.turn hg (fun r e => ⟨Nat.le_trans hsize (hrr r e).1, (hrr r e).2⟩)
      case round =>
        rintro ly s i W K hG ⟨hi0, hi, hSO⟩ hK
        refine region_in (fun ⟨_, _, h⟩ => h) (by simp) ?_
        go_wp2
        intro W' hG'
        obtain ⟨u, hu, hu1⟩ := hSO.up i hi0 hi
        have hls := hSO.len
        obtain ⟨Ai, ci, e0, e1, e2, e3, e4, _, lei, hCi, hRi, ef⟩ := elem105 hG'.row (show i < s.length by omega)
        obtain ⟨Au, cu, _, _, d2, d3, d4, _, _, hCu, _, _⟩ := elem105 hG'.row (show u < s.length by omega)
        have HU := Aside0.mk hu
        rw [hu] at e0
        have X7 := Aside0.mk (show W'.cell? ⟨w.heap.size + 1, 0, none⟩ = some (.slice (some ⟨gb, 0, none⟩) l.length cap) from (blk_cell hG'.v7 0).trans (by rw [hls]; rfl))
        have E0 := Aside0.mk e0
        have E1 := Aside0.mk e1
        have E2 := Aside0.mk e2
        have E3 := Aside0.mk e3
        have E4 := Aside0.mk e4
        have D2 := Aside0.mk d2
        have D3 := Aside0.mk d3
        have D4 := Aside0.mk d4
        have EF := Aside0.mk ef
        have HCI := Aside0.mk hCi
        have HCU := Aside0.mk hCu
        have HMI := Aside0.mk (hSO.short i hi)
        have HMU := Aside0.mk (hSO.short u (by omega))
        have HSO := Aside0.mk hSO
        have HG := Aside0.mk hG'
        have kI : i < l.length := hi
        have kU : u < l.length := by omega
        clear e0 e1 e2 e3 e4 d2 d3 d4 ef hu hCi hCu hRi hG hG' hSO hls lei he hGI
        refine wpIn_block ?_
        refine start_in (n := 30) (S := fun w' => w'.cell? ⟨w.heap.size + 1, 0, none⟩ = some (.slice (some ⟨gb, 0, none⟩) l.length cap) ∧ w'.cell? ⟨gb, i * 6, none⟩ = some (.int .i64 (u : Int)) ∧ w'.cell? ⟨gb, i * 6 + 1, none⟩ = some (.bool (rd_T105 s i).f0.f1) ∧ w'.cell? ⟨gb, i * 6 + 2, none⟩ = some (.int .i64 (rd_T105 s i).f0.f2.f0) ∧ w'.cell? ⟨gb, i * 6 + 3, none⟩ = some (.bool (rd_T105 s i).f0.f2.f1) ∧ w'.cell? ⟨gb, i * 6 + 4, none⟩ = some (.slice Ai (rd_T105 s i).f0.f2.f2.length ci) ∧ w'.cell? ⟨gb, u * 6 + 2, none⟩ = some (.int .i64 (rd_T105 s u).f0.f2.f0) ∧ w'.cell? ⟨gb, u * 6 + 3, none⟩ = some (.bool (rd_T105 s u).f0.f2.f1) ∧ w'.cell? ⟨gb, u * 6 + 4, none⟩ = some (.slice Au (rd_T105 s u).f0.f2.f2.length cu)) (ds := [29]) #[false, false, false, false, false, false, false, false, false, false, false, false, false, false, false, false, false, false, false, false, false, false, false, false, false, false, false, false, false, false] (by kernel_rfl) rfl rfl ⟨X7.out, E0.out, E1.out, E2.out, E3.out, E4.out, D2.out, D3.out, D4.out⟩ (fun ⟨_, _, h⟩ => h) (no_defer (by kernel_rfl)) (fun hHeld => ?_)
        have HGD := Aside0.mk (HG.out.onBelow (below_drew1 (Below.refl _ W')))
        have HKD := Aside0.mk (KeepsOthers.drew W')
        have HCID := Aside0.mk (Kd.C_drew HCI.out)
        have HCUD := Aside0.mk (Kd.C_drew HCU.out)
        clear HCI HCU
        generalize W'.drew = wd at HGD HKD HCID HCUD hHeld ⊢
        refine take_ (i := 0) (N := some 46) (v := ?_) (a' := ?_) #[true, false, false, false, false, false, false, false, false, false, false, false, false, false, false, false, false, false, false, false, false, false, false, false, false, false, false, false, false, false] rfl rfl (by kernel_rfl) (fun _ _ _ h => h) (Or.inl ⟨by rfl, ?_⟩) hHeld ?_ ?_
        rotate_left
        · rintro w' ⟨s0, s1, s2, s3, s4, s5, s6, s7, s8⟩
          go_simp
          with_reducible rfl
        rotate_left
        · simp only [Act.put, List.setIfInBounds_toArray, List.set_cons_zero, List.set_cons_succ, i64_w, i32_w]
          rfl
        refine pure_ (i := 1) (N := some 47) (v := ?_) (a' := ?_) #[true, true, false, false, false, false, false, false, false, false, false, false, false, false, false, false, false, false, false, false, false, false, false, false, false, false, false, false, false, false] rfl rfl (by kernel_rfl) (fun _ _ _ h => h) (Or.inl ⟨by rfl, ?_⟩) ?_ ?_
        rotate_left
        · intro w'
          go_simp
          with_reducible rfl
        rotate_left
        · simp only [Act.put, List.setIfInBounds_toArray, List.set_cons_zero, List.set_cons_succ, i64_w, i32_w]
          rfl
        refine take_ (i := 2) (N := some 48) (v := ?_) (a' := ?_) #[true, true, true, false, false, false, false, false, false, false, false, false, false, false, false, false, false, false, false, false, false, false, false, false, false, false, false, false, false, false] rfl rfl (by kernel_rfl) (fun _ _ _ h => h) (Or.inl ⟨by rfl, ?_⟩) hHeld ?_ ?_
        rotate_left
        · rintro w' ⟨s0, s1, s2, s3, s4, s5, s6, s7, s8⟩
          go_simp
          with_reducible rfl
        rotate_left
        · simp only [Act.put, List.setIfInBounds_toArray, List.set_cons_zero, List.set_cons_succ, i64_w, i32_w]
          rfl
        refine take_ (i := 3) (N := some 49) (v := ?_) (a' := ?_) #[true, true, true, true, false, false, false, false, false, false, false, false, false, false, false, false, false, false, false, false, false, false, false, false, false, false, false, false, false, false] rfl rfl (by kernel_rfl) (fun _ _ _ h => h) (Or.inl ⟨by rfl, ?_⟩) hHeld ?_ ?_
        rotate_left
        · rintro w' ⟨s0, s1, s2, s3, s4, s5, s6, s7, s8⟩
          go_simp
          with_reducible rfl
        rotate_left
        · simp only [Act.put, List.setIfInBounds_toArray, List.set_cons_zero, List.set_cons_succ, i64_w, i32_w]
          rfl
        refine pure_ (i := 4) (N := some 50) (v := ?_) (a' := ?_) #[true, true, true, true, true, false, false, false, false, false, false, false, false, false, false, false, false, false, false, false, false, false, false, false, false, false, false, false, false, false] rfl rfl (by kernel_rfl) (fun _ _ _ h => h) (Or.inl ⟨by rfl, ?_⟩) ?_ ?_
        rotate_left
        · intro w'
          go_simp
          with_reducible rfl
        rotate_left
        · simp only [Act.put, List.setIfInBounds_toArray, List.set_cons_zero, List.set_cons_succ, i64_w, i32_w]
          rfl
        refine pure_ (i := 5) (N := some 51) (v := ?_) (a' := ?_) #[true, true, true, true, true, true, false, false, false, false, false, false, false, false, false, false, false, false, false, false, false, false, false, false, false, false, false, false, false, false] rfl rfl (by kernel_rfl) (fun _ _ _ h => h) (Or.inl ⟨by rfl, ?_⟩) ?_ ?_
        rotate_left
        · intro w'
          go_simp
          with_reducible rfl
        rotate_left
        · simp only [Act.put, List.setIfInBounds_toArray, List.set_cons_zero, List.set_cons_succ, i64_w, i32_w]
          rfl
        refine pure_ (i := 6) (N := some 52) (v := ?_) (a' := ?_) #[true, true, true, true, true, true, true, false, false, false, false, false, false, false, false, false, false, false, false, false, false, false, false, false, false, false, false, false, false, false] rfl rfl (by kernel_rfl) (fun _ _ _ h => h) (Or.inl ⟨by rfl, ?_⟩) ?_ ?_
        rotate_left
        · intro w'
          go_simp
          with_reducible rfl
        rotate_left
        · simp only [Act.put, List.setIfInBounds_toArray, List.set_cons_zero, List.set_cons_succ, i64_w, i32_w]
          rfl
        refine pure_ (i := 7) (N := some 53) (v := ?_) (a' := ?_) #[true, true, true, true, true, true, true, true, false, false, false, false, false, false, false, false, false, false, false, false, false, false, false, false, false, false, false, false, false, false] rfl rfl (by kernel_rfl) (fun _ _ _ h => h) (Or.inl ⟨by rfl, ?_⟩) ?_ ?_
        rotate_left
        · intro w'
          go_simp
          with_reducible rfl
        rotate_left
        · simp only [Act.put, List.setIfInBounds_toArray, List.set_cons_zero, List.set_cons_succ, i64_w, i32_w]
          rfl
        refine take_ (i := 8) (N := some 54) (v := ?_) (a' := ?_) #[true, true, true, true, true, true, true, true, true, false, false, false, false, false, false, false, false, false, false, false, false, false, false, false, false, false, false, false, false, false] rfl rfl (by kernel_rfl) (fun _ _ _ h => h) (Or.inl ⟨by rfl, ?_⟩) hHeld ?_ ?_
        rotate_left
        · rintro w' ⟨s0, s1, s2, s3, s4, s5, s6, s7, s8⟩
          go_simp
          with_reducible rfl
        rotate_left
        · simp only [Act.put, List.setIfInBounds_toArray, List.set_cons_zero, List.set_cons_succ, i64_w, i32_w]
          rfl
        refine pure_ (i := 9) (N := some 55) (v := ?_) (a' := ?_) #[true, true, true, true, true, true, true, true, true, true, false, false, false, false, false, false, false, false, false, false, false, false, false, false, false, false, false, false, false, false] rfl rfl (by kernel_rfl) (fun _ _ _ h => h) (Or.inl ⟨by rfl, ?_⟩) ?_ ?_
        rotate_left
        · intro w'
          go_simp
          with_reducible rfl
        rotate_left
        · simp only [Act.put, List.setIfInBounds_toArray, List.set_cons_zero, List.set_cons_succ, i64_w, i32_w]
          rfl
        refine pure_ (i := 10) (N := some 56) (v := ?_) (a' := ?_) #[true, true, true, true, true, true, true, true, true, true, true, false, false, false, false, false, false, false, false, false, false, false, false, false, false, false, false, false, false, false] rfl rfl (by kernel_rfl) (fun _ _ _ h => h) (Or.inl ⟨by rfl, ?_⟩) ?_ ?_
        rotate_left
        · intro w'
          go_simp
          with_reducible rfl
        rotate_left
        · simp only [Act.put, List.setIfInBounds_toArray, List.set_cons_zero, List.set_cons_succ, i64_w, i32_w]
          rfl
        refine pure_ (i := 11) (N := some 57) (v := ?_) (a' := ?_) #[true, true, true, true, true, true, true, true, true, true, true, true, false, false, false, false, false, false, false, false, false, false, false, false, false, false, false, false, false, false] rfl rfl (by kernel_rfl) (fun _ _ _ h => h) (Or.inl ⟨by rfl, ?_⟩) ?_ ?_
        rotate_left
        · intro w'
          go_simp
          with_reducible rfl
        rotate_left
        · simp only [Act.put, List.setIfInBounds_toArray, List.set_cons_zero, List.set_cons_succ, i64_w, i32_w]
          rfl
        refine take_ (i := 12) (N := some 58) (v := ?_) (a' := ?_) #[true, true, true, true, true, true, true, true, true, true, true, true, true, false, false, false, false, false, false, false, false, false, false, false, false, false, false, false, false, false] rfl rfl (by kernel_rfl) (fun _ _ _ h => h) (Or.inl ⟨by rfl, ?_⟩) hHeld ?_ ?_
        rotate_left
        · rintro w' ⟨s0, s1, s2, s3, s4, s5, s6, s7, s8⟩
          go_simp
          with_reducible rfl
        rotate_left
        · simp only [Act.put, List.setIfInBounds_toArray, List.set_cons_zero, List.set_cons_succ, i64_w, i32_w]
          rfl
        refine take_ (i := 13) (N := some 59) (v := ?_) (a' := ?_) #[true, true, true, true, true, true, true, true, true, true, true, true, true, true, false, false, false, false, false, false, false, false, false, false, false, false, false, false, false, false] rfl rfl (by kernel_rfl) (fun _ _ _ h => h) (Or.inl ⟨by rfl, ?_⟩) hHeld ?_ ?_
        rotate_left
        · rintro w' ⟨s0, s1, s2, s3, s4, s5, s6, s7, s8⟩
          go_simp
          with_reducible rfl
        rotate_left
        · simp only [Act.put, List.setIfInBounds_toArray, List.set_cons_zero, List.set_cons_succ, i64_w, i32_w]
          rfl
        refine pure_ (i := 14) (N := some 60) (v := ?_) (a' := ?_) #[true, true, true, true, true, true, true, true, true, true, true, true, true, true, true, false, false, false, false, false, false, false, false, false, false, false, false, false, false, false] rfl rfl (by kernel_rfl) (fun _ _ _ h => h) (Or.inl ⟨by rfl, ?_⟩) ?_ ?_
        rotate_left
        · intro w'
          go_simp
          with_reducible rfl
        rotate_left
        · simp only [Act.put, List.setIfInBounds_toArray, List.set_cons_zero, List.set_cons_succ, i64_w, i32_w]
          rfl
        refine pure_ (i := 15) (N := some 61) (v := ?_) (a' := ?_) #[true, true, true, true, true, true, true, true, true, true, true, true, true, true, true, true, false, false, false, false, false, false, false, false, false, false, false, false, false, false] rfl rfl (by kernel_rfl) (fun _ _ _ h => h) (Or.inl ⟨by rfl, ?_⟩) ?_ ?_
        rotate_left
        · intro w'
          go_simp
          with_reducible rfl
        rotate_left
        · simp only [Act.put, List.setIfInBounds_toArray, List.set_cons_zero, List.set_cons_succ, i64_w, i32_w]
          rfl
        refine pure_ (i := 16) (N := some 62) (v := ?_) (a' := ?_) #[true, true, true, true, true, true, true, true, true, true, true, true, true, true, true, true, true, false, false, false, false, false, false, false, false, false, false, false, false, false] rfl rfl (by kernel_rfl) (fun _ _ _ h => h) (Or.inl ⟨by rfl, ?_⟩) ?_ ?_
        rotate_left
        · intro w'
          go_simp
          with_reducible rfl
        rotate_left
        · simp only [Act.put, List.setIfInBounds_toArray, List.set_cons_zero, List.set_cons_succ, i64_w, i32_w]
          rfl
        refine pure_ (i := 17) (N := some 63) (v := ?_) (a' := ?_) #[true, true, true, true, true, true, true, true, true, true, true, true, true, true, true, true, true, true, false, false, false, false, false, false, false, false, false, false, false, false] rfl rfl (by kernel_rfl) (fun _ _ _ h => h) (Or.inl ⟨by rfl, ?_⟩) ?_ ?_
        rotate_left
        · intro w'
          go_simp
          with_reducible rfl
        rotate_left
        · simp only [Act.put, List.setIfInBounds_toArray, List.set_cons_zero, List.set_cons_succ, i64_w, i32_w]
          rfl
        refine take_ (i := 18) (N := some 64) (v := ?_) (a' := ?_) #[true, true, true, true, true, true, true, true, true, true, true, true, true, true, true, true, true, true, true, false, false, false, false, false, false, false, false, false, false, false] rfl rfl (by kernel_rfl) (fun _ _ _ h => h) (Or.inl ⟨by rfl, ?_⟩) hHeld ?_ ?_
        rotate_left
        · rintro w' ⟨s0, s1, s2, s3, s4, s5, s6, s7, s8⟩
          go_simp
          with_reducible rfl
        rotate_left
        · simp only [Act.put, List.setIfInBounds_toArray, List.set_cons_zero, List.set_cons_succ, i64_w, i32_w]
          rfl
        refine take_ (i := 19) (N := some 65) (v := ?_) (a' := ?_) #[true, true, true, true, true, true, true, true, true, true, true, true, true, true, true, true, true, true, true, true, false, false, false, false, false, false, false, false, false, false] rfl rfl (by kernel_rfl) (fun _ _ _ h => h) (Or.inl ⟨by rfl, ?_⟩) hHeld ?_ ?_
        rotate_left
        · rintro w' ⟨s0, s1, s2, s3, s4, s5, s6, s7, s8⟩
          go_simp
          with_reducible rfl
        rotate_left
        · simp only [Act.put, List.setIfInBounds_toArray, List.set_cons_zero, List.set_cons_succ, i64_w, i32_w]
          rfl
        refine pure_ (i := 20) (N := some 66) (v := ?_) (a' := ?_) #[true, true, true, true, true, true, true, true, true, true, true, true, true, true, true, true, true, true, true, true, true, false, false, false, false, false, false, false, false, false] rfl rfl (by kernel_rfl) (fun _ _ _ h => h) (Or.inl ⟨by rfl, ?_⟩) ?_ ?_
        rotate_left
        · intro w'
          go_simp
          with_reducible rfl
        rotate_left
        · simp only [Act.put, List.setIfInBounds_toArray, List.set_cons_zero, List.set_cons_succ, i64_w, i32_w]
          rfl
        refine pure_ (i := 21) (N := some 67) (v := ?_) (a' := ?_) #[true, true, true, true, true, true, true, true, true, true, true, true, true, true, true, true, true, true, true, true, true, true, false, false, false, false, false, false, false, false] rfl rfl (by kernel_rfl) (fun _ _ _ h => h) (Or.inl ⟨by rfl, ?_⟩) ?_ ?_
        rotate_left
        · intro w'
          go_simp
          with_reducible rfl
        rotate_left
        · simp only [Act.put, List.setIfInBounds_toArray, List.set_cons_zero, List.set_cons_succ, i64_w, i32_w]
          rfl
        refine pure_ (i := 22) (N := some 68) (v := ?_) (a' := ?_) #[true, true, true, true, true, true, true, true, true, true, true, true, true, true, true, true, true, true, true, true, true, true, true, false, false, false, false, false, false, false] rfl rfl (by kernel_rfl) (fun _ _ _ h => h) (Or.inl ⟨by rfl, ?_⟩) ?_ ?_
        rotate_left
        · intro w'
          go_simp
          with_reducible rfl
        rotate_left
        · simp only [Act.put, List.setIfInBounds_toArray, List.set_cons_zero, List.set_cons_succ, i64_w, i32_w]
          rfl
        refine pure_ (i := 23) (N := some 69) (v := ?_) (a' := ?_) #[true, true, true, true, true, true, true, true, true, true, true, true, true, true, true, true, true, true, true, true, true, true, true, true, false, false, false, false, false, false] rfl rfl (by kernel_rfl) (fun _ _ _ h => h) (Or.inl ⟨by rfl, ?_⟩) ?_ ?_
        rotate_left
        · intro w'
          go_simp
          with_reducible rfl
        rotate_left
        · simp only [Act.put, List.setIfInBounds_toArray, List.set_cons_zero, List.set_cons_succ, i64_w, i32_w]
          rfl
        refine take_ (i := 24) (N := some 70) (v := ?_) (a' := ?_) #[true, true, true, true, true, true, true, true, true, true, true, true, true, true, true, true, true, true, true, true, true, true, true, true, true, false, false, false, false, false] rfl rfl (by kernel_rfl) (fun _ _ _ h => h) (Or.inl ⟨by rfl, ?_⟩) hHeld ?_ ?_
        rotate_left
        · rintro w' ⟨s0, s1, s2, s3, s4, s5, s6, s7, s8⟩
          go_simp
          with_reducible rfl
        rotate_left
        · simp only [Act.put, List.setIfInBounds_toArray, List.set_cons_zero, List.set_cons_succ, i64_w, i32_w]
          rfl
        refine one_ (i := 25) (N := some 71) #[true, true, true, true, true, true, true, true, true, true, true, true, true, true, true, true, true, true, true, true, true, true, true, true, true, true, false, false, false, false] rfl rfl (by kernel_rfl) (by decide) (fun K hK => ?_)
        refine goesP_ Try.func62 (by kernel_rfl) rfl #[.agg #[.int .i64 (rd_T105 s u).f0.f2.f0, .bool (rd_T105 s u).f0.f2.f1, .slice Au (rd_T105 s u).f0.f2.f2.length cu], .agg #[.int .i64 (rd_T105 s i).f0.f2.f0, .bool (rd_T105 s i).f0.f2.f1, .slice Ai (rd_T105 s i).f0.f2.f2.length ci], .bool (rd_T105 s i).f0.f1] (by rfl) rfl rfl (by (try simp only [List.map_toArray, List.map_cons, List.map_nil]); first | done | rfl) ?_
        refine (renewed_calls _ _ _ _ Au Ai cu ci (rd_T105 s u).f0.f2.f2 (rd_T105 s i).f0.f2.f2 _ _ HCUD.out HCID.out HMU.out HMI.out).mono ?_
        intro e w9 hp9
        obtain ⟨hb, ⟨d, v, hd, rfl, hra⟩ | ⟨hd, rfl⟩⟩ := renew_post (rd_T105 s u).f0.f2 rfl hp9
        · refine .inl ⟨_, rfl, ?_⟩
          obtain ⟨t0, t1, t2, t3, t4, t5, t6, t7, t8⟩ := hHeld
          obtain ⟨A9, c9, rfl⟩ := Kd.R_slice hra
          have HBE := Aside0.mk hb
          have HG9 := Aside0.mk (HGD.out.onBelow hb)
          have HK9 := Aside0.mk (HKD.out.trans (keeps_below hb))
          have HD9 := Aside0.mk (show bodyF s i = some (setDesc s i d) by unfold bodyF; rw [HU.out, show renewD (rd_T105 s u).f0.f2 (rd_T105 s i).f0.f2 (rd_T105 s i).f0.f1 = some d from hd]; rfl)
          have hgl9 := Kd.R_lt HGD.out.row gb rfl
          have HL9 := Aside0.mk (show Kd.R k37 37 w9 w.heap.size (fun k => k ≠ gb) (.slice A9 d.f2.length c9) d.f2 from Kd.R_lower (Kd.R_mono (Kd.R_bound hra) (fun k hk => by have := hk.2.1; omega)) HGD.out.below.size)
          obtain ⟨_, _, _, _, _, _, _, _, _, _, _, ef9⟩ := elem105 HG9.out.row (show i < s.length by rw [HSO.out.len]; exact hi)
          have f2 := ef9 2
          have f3 := ef9 3
          have f4 := ef9 4
          clear hp9 hb hd hra ef9
          refine hK.out _ _ ⟨(HBE.out.cell (World.block_lt_of_cell? wd _ t0)).trans t0, (HBE.out.cell (World.block_lt_of_cell? wd _ t1)).trans t1, (HBE.out.cell (World.block_lt_of_cell? wd _ t2)).trans t2, (HBE.out.cell (World.block_lt_of_cell? wd _ t3)).trans t3, (HBE.out.cell (World.block_lt_of_cell? wd _ t4)).trans t4, (HBE.out.cell (World.block_lt_of_cell? wd _ t5)).trans t5, (HBE.out.cell (World.block_lt_of_cell? wd _ t6)).trans t6, (HBE.out.cell (World.block_lt_of_cell? wd _ t7)).trans t7, (HBE.out.cell (World.block_lt_of_cell? wd _ t8)).trans t8⟩ (fun hHeld => ?_)
          clear hK K
          refine norm_ (a' := ?_) ?_ ?_
          rotate_left
          · show Act.put _ (some 71) _ = _
            simp only [Act.put, List.setIfInBounds_toArray, List.set_cons_zero, List.set_cons_succ, i64_w, i32_w]
            rfl
          clear t0 t1 t2 t3 t4 t5 t6 t7 t8
          obtain ⟨t0, t1, t2, t3, t4, t5, t6, t7, t8⟩ := hHeld
          refine pure_ (i := 26) (N := some 72) (v := ?_) (a' := ?_) #[true, true, true, true, true, true, true, true, true, true, true, true, true, true, true, true, true, true, true, true, true, true, true, true, true, true, true, false, false, false] rfl rfl (by kernel_rfl) (fun _ _ _ h => h) (Or.inl ⟨by rfl, ?_⟩) ?_ ?_
          rotate_left
          · intro w'
            go_simp
            with_reducible rfl
          rotate_left
          · simp only [Act.put, List.setIfInBounds_toArray, List.set_cons_zero, List.set_cons_succ, i64_w, i32_w]
            rfl
          refine pure_ (i := 27) (N := some 73) (v := ?_) (a' := ?_) #[true, true, true, true, true, true, true, true, true, true, true, true, true, true, true, true, true, true, true, true, true, true, true, true, true, true, true, true, false, false] rfl rfl (by kernel_rfl) (fun _ _ _ h => h) (Or.inl ⟨by rfl, ?_⟩) ?_ ?_
          rotate_left
          · intro w'
            go_simp
            with_reducible rfl
          rotate_left
          · simp only [Act.put, List.setIfInBounds_toArray, List.set_cons_zero, List.set_cons_succ, i64_w, i32_w]
            rfl
          refine pure_ (i := 28) (N := some 74) (v := ?_) (a' := ?_) #[true, true, true, true, true, true, true, true, true, true, true, true, true, true, true, true, true, true, true, true, true, true, true, true, true, true, true, true, true, false] rfl rfl (by kernel_rfl) (fun _ _ _ h => h) (Or.inl ⟨by rfl, ?_⟩) ?_ ?_
          rotate_left
          · intro w'
            go_simp
            with_reducible rfl
          rotate_left
          · simp only [Act.put, List.setIfInBounds_toArray, List.set_cons_zero, List.set_cons_succ, i64_w, i32_w]
            rfl
          refine last_ (i := 29) (N := none) #[true, true, true, true, true, true, true, true, true, true, true, true, true, true, true, true, true, true, true, true, true, true, true, true, true, true, true, true, true, true] rfl rfl (by kernel_rfl) (by decide) (fun K hK => ?_)
          refine skip_ (w1 := ?_) (by rfl) rfl ?_ ?_
          rotate_left
          · go_simp
            rfl
          refine hK.out _ _ ?_
          clear hK K
          refine done_ (by kernel_rfl) ?_
          have hw := setDesc105 HG9.out.row (show i < s.length by rw [HSO.out.len]; exact hi) d (.slice A9 d.f2.length c9) HL9.out
          exact ⟨HK9.out.trans (keeps_cells hw.2 HG9.out.typed.2.choose_spec), setDesc s i d, HD9.out, HG9.out.write hw.1 (by simp [setDesc]) hw.2⟩
        · refine .inr ⟨_, rfl, ?_⟩
          exact ⟨HKD.out.trans (keeps_below hb), rfl, by show bodyF s i = none; unfold bodyF; rw [HU.out, show renewD (rd_T105 s u).f0.f2 (rd_T105 s i).f0.f2 (rd_T105 s i).f0.f1 = none from hd]; rfl, rfl, below_step HGD.out.below hb⟩
      case done =>
        rintro D s W' hD hF hG hKD
        replace hD := Nat.le_trans hsize hD
        have HD := Aside0.mk hD
        have HKD := Aside0.mk hKD
        have HOUT := Aside0.mk (show spreadF l kk ⟨o, b, l2⟩ = some (s.map (·.f0)) by unfold spreadF; rw [← HGS.out, hF]; rfl)
        have HSO := Aside0.mk (spr_ok hk (HOK.out.down hk) (l.length - (kk + 1)) (kk + 1) (by omega) (by omega) hF)
        have HLS := Aside0.mk HSO.out.len
        have HBX := Aside0.mk hG.below
        have HRW := Aside0.mk hG.row
        have HV7 := Aside0.mk (show W'.heap[w.heap.size + 1]? = some (.cells #[.slice (some ⟨gb, 0, none⟩) l.length cap] 103 (0, 0)) by have := hG.v7; rwa [HSO.out.len] at this)
        clear hF hG hKD hD hGI he
        refine wpAt_of ?_
        have y0 := (blk_cell HV7.out 0).trans rfl
        go_wp2
        go_loopg [11, 77] l.length (fun kq v11 v77 w' => ∃ j : Nat, v77 = .int .i64 j ∧ Aside0 (kq + j = l.length) ∧ Aside0 (Kd.R k35 35 w' w.heap.size (fun _ => True) v11 ((s.map (·.f0)).take j)) ∧ Aside0 (Below w.heap.size w w') ∧ Aside0 (RG w' w.heap.size gb cap s) ∧ Aside0 (w'.heap[D]? = some (.deferred (some []))))
        case atStart => exact ⟨0, rfl, ⟨rfl⟩, ⟨Kd.R_nil _ _ _ _ _⟩, HBX, HRW, HKD⟩
        case round =>
          obtain ⟨j, rfl, HN, HO, HB, HRW, HKD⟩ := hrel
          clear y0 HV7 HBX
          by_cases hlt : j < l.length
          · have h1 : decide (j < l.length) = true := by simpa using hlt
            obtain ⟨Aj, cj, e0, e1, e2, e3, e4, e5, lej, hCj, hRj, ef⟩ := elem105 HRW.out (show j < s.length by rw [HLS.out]; exact hlt)
            have HRJ := Aside0.mk hRj
            clear lej hCj hRj ef
            go_wp2_with ((with_reducible refine gate_builtin (b := .append) (xs := #[.tmp 81, .tmp 84]) rfl ?_); at_builtin; refine Kd.R_append k35 (w0 := w) w.heap.size rfl (.tmp 81) (.tmp 84) 22 35 (.agg #[(.int .i64 0), (.bool false), (.int .i64 0), (.bool false), (.slice none 0 0)]) 56 rfl Try.underlying22 info35 rfl (by decide) (by omega) u11 ((s.map (·.f0)).take j) ((rd_T105 s j).f0) [.int .i64 (rd_T105 s j).f0.f0, .bool (rd_T105 s j).f0.f1, .int .i64 (rd_T105 s j).f0.f2.f0, .bool (rd_T105 s j).f0.f2.f1, .slice Aj (rd_T105 s j).f0.f2.f2.length cj] (fun _ => True) _ rfl (by simp only [World.size_alloc]; rfl) (k35_mkM _ _ _ (rd_T105 s j).f0 (Kd.R_apartR (Kd.R_alloc HRJ.out _) (Kd.R_alloc HO.out _) (by decide))) (fun k hk => ⟨trivial, hk.2⟩) (fun _ _ => trivial) (Kd.R_alloc HO.out _) (below_alloc HB.out _) (below_alloc HB.out _).size (by rw [List.length_take]; omega) ?_; intro v8 w8 ho hb hg hat; have HO8 := Aside0.mk ho; have HB8 := Aside0.mk hb; have HRW8 := Aside0.mk (Kd.R_over (Kd.R_alloc HRW.out _) (Kd.R_alloc HO.out _) (by decide) hg); have HKD8 := Aside0.mk ((KeepsOthers.of_grownBy hg (fun r ob e hk => by obtain ⟨cells, hc⟩ := Kd.R_typed (Kd.R_alloc HO.out _) r e; rw [hc] at hk; cases hk; rfl)).same _ _ (alloc_obj HKD.out _) rfl); clear ho hb hg hat e0 e1 e2 e3 e4 e5)
            go_roundg (l.length - (j + 1))
            case measure => have := HN.out; omega
            case rel => exact ⟨j + 1, by go_num, ⟨by omega⟩, ⟨by rw [take_snocM s j (by rw [HLS.out]; exact hlt)]; exact HO8.out⟩, HB8, HRW8, HKD8⟩
          · have h1 : decide (j < l.length) = false := by simpa using hlt
            have hj : j = l.length := by have := HN.out; omega
            subst hj
            have HO9 := Aside0.mk (show RT wr w.heap.size u11 (s.map (·.f0)) by have := HO.out; rwa [List.take_of_length_le (by rw [List.length_map, HLS.out]; exact Nat.le_refl _)] at this)
            go_wp2
            refine ⟨by simp, .inl ⟨_, _, rfl, run_takeDeferred HKD.out, ?_⟩⟩
            refine ⟨_, results_tmp rfl _ _ _, below_turn HB.out (grownBy_putObj' _ _ _) HB.out.size (fun r e => by cases e; exact HD.out), ?_⟩
            rw [HOUT.out]
            exact ⟨_, rfl, R_turn HO9.out (grownBy_putObj' _ _ _) (fun r e => by cases e; exact ⟨_, HKD.out, rfl⟩)⟩
      case panic =>
        rintro D ch W' hD hF ⟨rfl, hb⟩ hKD
        replace hD := Nat.le_trans hsize hD
        refine ⟨by simp, .inl ⟨_, _, rfl, run_takeDeferred hKD, ?_⟩⟩
        refine ⟨below_turn hb (grownBy_putObj' _ _ _) hb.size (fun r e => by cases e; exact hD), ?_⟩
        rw [show spreadF l kk ⟨o, b, l2⟩ = none by unfold spreadF; rw [← HGS.out, hF]; rfl]
end Go.Proofs.Ytgocgjfaiddejaa.M