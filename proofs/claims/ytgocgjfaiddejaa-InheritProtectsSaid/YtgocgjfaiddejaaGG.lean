/- acl.granted, acl.Granted. -/
import Derived.Test.YtgocgjfaiddejaaGF
import Derived.Test.YtgocgjfaiddejaaH15
namespace Go.Proofs.Ytgocgjfaiddejaa.M
open Go.RowKit Go.Proofs.YtgocgjfaiddejaaW.PrintWords Go.Proofs.YtgocgjfaiddejaaW.PrintLast Go.Proofs.YtgocgjfaiddejaaW.PrintMore
set_option linter.unusedVariables false
set_option linter.unusedSimpArgs false
set_option linter.unnecessarySimpa false

theorem KeptAt.refl (gm : Nat) (W : World) : KeptAt gm W W := fun _ h => h
theorem KeptAt.trans {gm : Nat} {A B C : World} (h : KeptAt gm A B) (k : KeptAt gm B C) : KeptAt gm A C := fun cs hc => k cs (h cs hc)
theorem KeptAt.below {gm : Nat} {A B : World} (h : Below A.heap.size A B) : KeptAt gm A B := fun cs hc => blk_below hc h
theorem maskOf_snoc (p : Int → Bool) (pre : List Int) (x : Int) : maskOf p (pre ++ [x]) = if p x then Go.bits .or .i64 (maskOf p pre) x else maskOf p pre := by
  unfold maskOf
  rw [List.foldl_append]
  rfl
theorem keepsB {A B : World} (h : Below A.heap.size A B) : KeepsOthers A B := ⟨h.size, fun k o hk _ => (h.block k (Array.getElem?_eq_some_iff.1 hk).1).trans hk⟩
theorem results_cell1 {P : Program} {fn : Func} {p : Tmp} {t : TypeId} {tmps : Array Value} {W : World} {a : Addr} {v : Value} (h : fn.results = #[.cell p t]) (hp : tmps.getD p undef = .pointer (some a)) (hl : (loadVar t a).run P W = .ok v W) : (results fn tmps).run P W = .ok v W := by
  have hp' : tmps[p]?.getD undef = .pointer (some a) := by simpa using hp
  simp [results, h, hp', asAddr, hl]
set_option maxRecDepth 100000 in
set_option maxHeartbeats 2000000 in
theorem granted_calls (u pv o : Int) (gs : List Int) (G A : Option Addr) (cg c : Nat) (b : Bool) (l : List S37) (w : World) (hg : Kd.C (Kd.int .i64) w G gs.length gs) (hgc : gs.length ≤ cg) (hm : gs.length ≤ 8) (hr : k37.C w A l.length l) :
    Calls Try.prog 71 #[.agg #[.int .i64 u, .slice G gs.length cg, .int .i64 pv], .agg #[.int .i64 o, .bool b, .slice A l.length c]] w fun e w' => e = .returned (.int .i64 (grantedS u gs pv o l)) ∧ Below w.heap.size w w' := by
  have HG := Aside0.mk hg
  have HGC := Aside0.mk hgc
  have HM := Aside0.mk hm
  have HR := Aside0.mk hr
  clear hg hgc hm hr
  have he := enters_ Try.func100 (by kernel_rfl) rfl
  refine calls_of_marks Try.func71 rfl ?_
  simp only [Try.ntmps71, List.size_toArray, List.length_cons, List.length_nil, Nat.reduceAdd, Nat.reduceSub, Array.replicate_succ, Array.replicate_zero, List.push_toArray, List.append_toArray, List.nil_append, List.cons_append]
  go_upto_region 1 with (fail)
  have hb_ := below_alloc (below_alloc (below_alloc (Below.refl _ w) (.cells #[.int .i64 u, .slice G gs.length cg, .int .i64 pv] 63)) (.cells #[.int .i64 o, .bool b, .slice A l.length c] 33)) (.cells #[.int .i64 0] 3)
  have hG0_ := blk_alloc (blk_alloc (blk_lit0 w (.cells #[.int .i64 u, .slice G gs.length cg, .int .i64 pv] 63)) (.cells #[.int .i64 o, .bool b, .slice A l.length c] 33)) (.cells #[.int .i64 0] 3)
  have hG1_ := blk_alloc (blk_lit w (.cells #[.int .i64 u, .slice G gs.length cg, .int .i64 pv] 63) (.cells #[.int .i64 o, .bool b, .slice A l.length c] 33)) (.cells #[.int .i64 0] 3)
  have hG2_ := blk_lit2 w (.cells #[.int .i64 u, .slice G gs.length cg, .int .i64 pv] 63) (.cells #[.int .i64 o, .bool b, .slice A l.length c] 33) (.cells #[.int .i64 0] 3)
  generalize (((w.alloc (.cells #[.int .i64 u, .slice G gs.length cg, .int .i64 pv] 63)).alloc (.cells #[.int .i64 o, .bool b, .slice A l.length c] 33)).alloc (.cells #[.int .i64 0] 3)) = W at hb_ hG0_ hG1_ hG2_ ⊢
  have HB_W := Aside0.mk hb_
  have W0 := Aside0.mk hG0_
  have W1 := Aside0.mk hG1_
  have W2 := Aside0.mk hG2_
  clear hb_ hG0_ hG1_ hG2_
  go_wp2_with ((with_reducible refine gate_dst (N := 8) rfl ?_); refine goesL_ (some 8) rfl rfl Try.func86 (by kernel_rfl) rfl #[.int .i64 1023] rfl (by (try simp only [List.map_toArray, List.map_cons, List.map_nil]); first | done | rfl) ?_; refine (rights_calls _).mono ?_; rintro e w' ⟨rfl, rfl⟩; refine ⟨_, rfl, ?_⟩)
  have hb1 := below_alloc HB_W.out (.cells #[.int .i64 1023] 3)
  have hgm := blk_new W (.cells #[.int .i64 1023] 3)
  have h0 := blk_alloc W0.out (.cells #[.int .i64 1023] 3)
  have h1 := blk_alloc W1.out (.cells #[.int .i64 1023] 3)
  have h2 := blk_alloc W2.out (.cells #[.int .i64 1023] 3)
  have hWs := HB_W.out.size
  have HLT := Aside0.mk (blk_lt W2.out)
  simp only [Act.put, List.setIfInBounds_toArray, List.set_cons_zero, List.set_cons_succ]
  generalize hV : W.alloc (.cells #[.int .i64 1023] 3) = V at hb1 hgm h0 h1 h2 ⊢
  have HB := Aside0.mk hb1
  have HV2 := Aside0.mk h2
  have HGM := Aside0.mk hgm
  have H0 := Aside0.mk h0
  have H1 := Aside0.mk h1
  clear hV hb1 h0 h1 h2 hgm
  refine range_own (gf := 100) (lb := #[.pointer (some ⟨W.heap.size, 0, none⟩)]) rfl he (fun _ => rfl)
    (rights_gives W.heap.size V HGM.out) (fun h k => h.trans k) (fun W' l' o' o'' hl h ho cs hc => blk_turn hc (grownBy_putObj' W' l' o'') (fun r e => by cases e; exact ⟨o', h, ho⟩))
    (fun pre W' => W'.heap[w.heap.size + 1 + 1]? = some (.cells #[.int .i64 (maskOf (judgeB u gs pv o l) pre)] 3 (0, 0)) ∧ W'.heap[w.heap.size]? = some (.cells #[.int .i64 u, .slice G gs.length cg, .int .i64 pv] 63 (0, 0)) ∧ W'.heap[w.heap.size + 1]? = some (.cells #[.int .i64 o, .bool b, .slice A l.length c] 33 (0, 0)) ∧ Below w.heap.size w W') (fun _ _ _ => False) ?hI (fun _ _ _ _ _ h _ _ => h) ?h0 ?round ?done ?stop
  case hI =>
    rintro s X Y row ⟨hv, ht, hd, hbx⟩ hg hrr
    exact ⟨blk_turn hv hg (fun r e => (hrr r e).2), blk_turn ht hg (fun r e => (hrr r e).2), blk_turn hd hg (fun r e => (hrr r e).2), below_turn hbx hg hbx.size (fun r e => Nat.le_trans HB.out.size (hrr r e).1)⟩
  case h0 => exact ⟨HV2.out, H0.out, H1.out, HB.out⟩
  case round =>
    rintro ly pre x W' K hl hlt ⟨r, hr⟩ ⟨hv, ht, hd, hbx⟩ hpre hK
    refine region_in (fun ⟨_, _, h⟩ => h) (by simp) ?_
    go_wp2
    refine hK _ _ (KeepsFrom.refl _ _) (KeptAt.refl _ _) (fun W2 hgr hlr => ?_)
    have hturn : ∀ r, some ly = some r → ∃ o : Obj, W'.heap[r]? = some o ∧ o.isCells = false := fun r e => by cases e; obtain ⟨r, hr⟩ := hlr; exact ⟨_, hr, rfl⟩
    have HV' := Aside0.mk (blk_turn hv hgr hturn)
    have HT' := Aside0.mk (blk_turn ht hgr hturn)
    have HD' := Aside0.mk (blk_turn hd hgr hturn)
    have HB2 := Aside0.mk (below_turn hbx hgr hbx.size (fun r e => by cases e; exact Nat.le_trans HB.out.size hl))
    have HSN := Aside0.mk (maskOf_snoc (judgeB u gs pv o l) pre x)
    clear hturn hgr hlr hv ht hd hbx hr
    refine wpIn_block ?_
    refine wpIn_seq ?_
    have t0 := (blk_cell HT'.out 0).trans rfl; have t1 := (blk_cell HT'.out 1).trans rfl; have t2 := (blk_cell HT'.out 2).trans rfl
    have d0 := (blk_cell HD'.out 0).trans rfl; have d1 := (blk_cell HD'.out 1).trans rfl; have d2 := (blk_cell HD'.out 2).trans rfl
    refine region_in (fun ⟨_, _, h⟩ => h) (by simp) ?_
    go_wp2_with ((with_reducible refine gate_dst (N := 14) rfl ?_); refine goesL_ (some 14) rfl rfl Try.func87 (by kernel_rfl) rfl #[.agg #[.int .i64 u, .slice G gs.length cg, .int .i64 pv], .agg #[.int .i64 o, .bool b, .slice A l.length c], .int .i64 x] rfl (by (try simp only [List.map_toArray, List.map_cons, List.map_nil]); first | done | rfl) ?_; refine (cause_calls u pv o x gs G A cg c b l _ (Kd.C_below HG.out HB2.out) HGC.out HM.out (Kd.C_below HR.out HB2.out)).mono ?_; rintro e w3 ⟨⟨c1, c2, c3, rfl⟩, hb⟩; refine ⟨_, rfl, ?_⟩; have HB3 := Aside0.mk (below_step HB2.out hb); have HV3 := Aside0.mk (blk_below HV'.out hb); have HT3 := Aside0.mk (blk_below HT'.out hb); have HD3 := Aside0.mk (blk_below HD'.out hb); have HKB := Aside0.mk hb; clear hb t0 t1 t2 d0 d1 d2)
    have HB4 := Aside0.mk (below_alloc HB3.out (.cells #[.int .i64 c1, .int .i64 c2, .int .i64 c3] 116))
    have HKB4 := Aside0.mk (below_alloc HKB.out (.cells #[.int .i64 c1, .int .i64 c2, .int .i64 c3] 116))
    have HV4 := Aside0.mk (blk_alloc HV3.out (.cells #[.int .i64 c1, .int .i64 c2, .int .i64 c3] 116))
    have HT4 := Aside0.mk (blk_alloc HT3.out (.cells #[.int .i64 c1, .int .i64 c2, .int .i64 c3] 116))
    have HD4 := Aside0.mk (blk_alloc HD3.out (.cells #[.int .i64 c1, .int .i64 c2, .int .i64 c3] 116))
    clear HB3 HV3 HT3 HD3 HKB
    generalize w3.alloc (.cells #[.int .i64 c1, .int .i64 c2, .int .i64 c3] 116) = w4 at HB4 HKB4 HV4 HT4 HD4 ⊢
    refine wpIn_seq ?_
    refine region_in (fun ⟨_, _, h⟩ => h) (by simp) ?_
    go_wp2
    cases hj : judgeB u gs pv o l x with
    | true =>
      rw [hj, if_pos rfl] at HSN
      refine wpIn_cond_true (by rfl) ?_
      have v0 := (blk_cell HV4.out 0).trans rfl
      have fv0 := blk_frozen HV4.out 0
      refine region_in (fun ⟨_, _, h⟩ => h) (by simp) ?_
      go_wp2
      refine ⟨((keepsB HKB4.out).trans (KeepsOthers.setCell _ _ _)).from _, ?_, ?_, blk_far HT4.out (show w.heap.size ≠ w.heap.size + 1 + 1 by omega) _, blk_far HD4.out (show w.heap.size + 1 ≠ w.heap.size + 1 + 1 by omega) _, HB4.out.setCell (p := ⟨w.heap.size + 1 + 1, 0, none⟩) (show w.heap.size ≤ w.heap.size + 1 + 1 by omega) _⟩
      · intro cs hc
        have h1 := HKB4.out
        exact blk_far (blk_below hc h1) (show W.heap.size ≠ w.heap.size + 1 + 1 by have := HLT.out; omega) _
      · rw [HSN.out]; exact blk_put HV4.out 0 _ rfl
    | false =>
      rw [hj, if_neg (by simp)] at HSN
      refine wpIn_cond_false (by rfl) ?_
      refine wpIn_skip ?_
      exact ⟨(keepsB HKB4.out).from _, KeptAt.below HKB4.out, by rw [HSN.out]; exact HV4.out, HT4.out, HD4.out, HB4.out⟩
  case done =>
    rintro D W' hD ⟨hv, ht, hd, hbx⟩ hKD
    have HV := Aside0.mk hv
    have HBX := Aside0.mk hbx
    have HKD := Aside0.mk hKD
    have v0 := (blk_cell hv 0).trans rfl
    have fv := blk_frozen hv 0
    clear hv ht hd hbx hKD
    go_wp2
    have hne : D ≠ w.heap.size + 1 + 1 := fun e => by
      have h1 := HKD.out
      rw [e, HV.out] at h1
      cases h1
    have HKD2 : (W'.setCell ⟨w.heap.size + 1 + 1, 0, none⟩ (.int .i64 (maskOf (judgeB u gs pv o l) bits10))).heap[D]? = some (.deferred (some [])) := (Below.heap_setCell W' _ _ D hne).trans HKD.out
    have hq := blk_put HV.out 0 (.int .i64 (maskOf (judgeB u gs pv o l) bits10)) rfl
    have HB5 := HBX.out.setCell (p := ⟨w.heap.size + 1 + 1, 0, none⟩) (show w.heap.size ≤ w.heap.size + 1 + 1 by omega) (.int .i64 (maskOf (judgeB u gs pv o l) bits10))
    refine ⟨by simp, .inl ⟨_, _, rfl, run_takeDeferred HKD2, ?_⟩⟩
    refine ⟨_, results_cell1 rfl rfl (loadVar_one 3 Try.underlying3 rfl (blk_turn hq (grownBy_putObj' _ _ _) (fun r e => by cases e; exact ⟨_, HKD2, rfl⟩))), rfl, below_turn HB5 (grownBy_putObj' _ _ _) HB5.size (fun r e => by cases e; exact Nat.le_trans HB.out.size hD)⟩
  case stop =>
    rintro D c pre W' _ _ h _
    exact h.elim

def GrantedPost (r : Int × Int) (w : World) (e : Ending) (w' : World) : Prop := e = .returned (.tuple #[.int .i64 r.1, .int .i64 r.2]) ∧ Below w.heap.size w w'
set_option maxRecDepth 100000 in
set_option maxHeartbeats 2000000 in
theorem Granted_calls (u pv o : Int) (gs : List Int) (G A : Option Addr) (cg c : Nat) (b : Bool) (l : List S37) (w : World) (hg : Kd.C (Kd.int .i64) w G gs.length gs) (hgc : gs.length ≤ cg) (hr : k37.C w A l.length l) (hc : l.length ≤ c) (hv : vDesc o l = true) :
    Calls Try.prog 47 #[.agg #[.int .i64 u, .slice G gs.length cg, .int .i64 pv], .agg #[.int .i64 o, .bool b, .slice A l.length c]] w (GrantedPost (sGranted u gs pv o l) w) := by
  have HG := Aside0.mk hg
  have HGC := Aside0.mk hgc
  have HR := Aside0.mk hr
  have HC := Aside0.mk hc
  have HV := Aside0.mk hv
  clear hg hgc hr hc hv
  go_enter_defers Try.func47, Try.ntmps47
  go_upto_region 1 with (fail)
  have hb_ := below_alloc (below_alloc (below_alloc (below_alloc (Below.refl _ w) (.cells #[.int .i64 u, .slice G gs.length cg, .int .i64 pv] 63)) (.cells #[.int .i64 o, .bool b, .slice A l.length c] 33)) (.cells #[.int .i64 0] 3)) (.cells #[.int .i64 0] 25)
  have hG0_ := blk_alloc (blk_alloc (blk_alloc (blk_lit0 w (.cells #[.int .i64 u, .slice G gs.length cg, .int .i64 pv] 63)) (.cells #[.int .i64 o, .bool b, .slice A l.length c] 33)) (.cells #[.int .i64 0] 3)) (.cells #[.int .i64 0] 25)
  have hG1_ := blk_alloc (blk_alloc (blk_lit w (.cells #[.int .i64 u, .slice G gs.length cg, .int .i64 pv] 63) (.cells #[.int .i64 o, .bool b, .slice A l.length c] 33)) (.cells #[.int .i64 0] 3)) (.cells #[.int .i64 0] 25)
  have hG2_ := blk_alloc (blk_lit2 w (.cells #[.int .i64 u, .slice G gs.length cg, .int .i64 pv] 63) (.cells #[.int .i64 o, .bool b, .slice A l.length c] 33) (.cells #[.int .i64 0] 3)) (.cells #[.int .i64 0] 25)
  have hG3_ := blk_lit3 w (.cells #[.int .i64 u, .slice G gs.length cg, .int .i64 pv] 63) (.cells #[.int .i64 o, .bool b, .slice A l.length c] 33) (.cells #[.int .i64 0] 3) (.cells #[.int .i64 0] 25)
  generalize ((((w.alloc (.cells #[.int .i64 u, .slice G gs.length cg, .int .i64 pv] 63)).alloc (.cells #[.int .i64 o, .bool b, .slice A l.length c] 33)).alloc (.cells #[.int .i64 0] 3)).alloc (.cells #[.int .i64 0] 25)) = W at hb_ hG0_ hG1_ hG2_ hG3_ ⊢
  have HB_W := Aside0.mk hb_
  have W0 := Aside0.mk hG0_
  have W1 := Aside0.mk hG1_
  have W2 := Aside0.mk hG2_
  have W3 := Aside0.mk hG3_
  clear hb_ hG0_ hG1_ hG2_ hG3_
  have t0 := (blk_cell W0.out 0).trans rfl; have t1 := (blk_cell W0.out 1).trans rfl; have t2 := (blk_cell W0.out 2).trans rfl
  have d0 := (blk_cell W1.out 0).trans rfl; have d1 := (blk_cell W1.out 1).trans rfl; have d2 := (blk_cell W1.out 2).trans rfl
  by_cases ht : tokE u gs pv = 0
  · have HT := Aside0.mk ht
    have HS := Aside0.mk (show sGranted u gs pv o l = (grantedS u gs pv o l, 0) by unfold sGranted; rw [if_pos ht])
    clear ht
    go_upto_region 3 with ((with_reducible refine gate_dst (N := 8) rfl ?_); refine goesL_ (some 8) rfl rfl Try.func70 (by kernel_rfl) rfl #[.agg #[.int .i64 u, .slice G gs.length cg, .int .i64 pv], .agg #[.int .i64 o, .bool b, .slice A l.length c]] rfl (by (try simp only [List.map_toArray, List.map_cons, List.map_nil]); first | done | rfl) ?_; refine (right_ok u pv o gs G A cg c b l _ (Kd.C_below HG.out HB_W.out) HGC.out (Kd.C_below HR.out HB_W.out) HC.out HT.out HV.out).mono ?_; rintro e w1 ⟨rfl, hb⟩; refine ⟨_, rfl, ?_⟩; have HB1 := Aside0.mk (below_step HB_W.out hb); have V0 := Aside0.mk (blk_below W0.out hb); have V1 := Aside0.mk (blk_below W1.out hb); have V2 := Aside0.mk (blk_below W2.out hb); have V3 := Aside0.mk (blk_below W3.out hb); clear hb t0 t1 t2 d0 d1 d2)
    have t0 := (blk_cell V0.out 0).trans rfl; have t1 := (blk_cell V0.out 1).trans rfl; have t2 := (blk_cell V0.out 2).trans rfl
    have d0 := (blk_cell V1.out 0).trans rfl; have d1 := (blk_cell V1.out 1).trans rfl; have d2 := (blk_cell V1.out 2).trans rfl
    go_wp2_with ((with_reducible refine gate_dst (N := 11) rfl ?_); refine goesL_ (some 11) rfl rfl Try.func71 (by kernel_rfl) rfl #[.agg #[.int .i64 u, .slice G gs.length cg, .int .i64 pv], .agg #[.int .i64 o, .bool b, .slice A l.length c]] rfl (by (try simp only [List.map_toArray, List.map_cons, List.map_nil]); first | done | rfl) ?_; refine (granted_calls u pv o gs G A cg c b l _ (Kd.C_below HG.out HB1.out) HGC.out (tok_len HT.out) (Kd.C_below HR.out HB1.out)).mono ?_; rintro e w3 ⟨rfl, hb⟩; refine ⟨_, rfl, ?_⟩; have HB3 := Aside0.mk (below_step HB1.out hb); have X2 := Aside0.mk (blk_below V2.out hb); have X3 := Aside0.mk (blk_below V3.out hb); have z0 := (blk_cell X2.out 0).trans rfl; have fz0 := blk_frozen X2.out 0; have y0 := (blk_cell X3.out 0).trans rfl; have fy0 := blk_frozen X3.out 0; clear hb t0 t1 t2 d0 d1 d2)
    rw [HS.out]
    have q2 := blk_put X2.out 0 (.int .i64 (grantedS u gs pv o l)) rfl
    have q3 := blk_far X3.out (show w.heap.size + 1 + 1 + 1 ≠ w.heap.size + 1 + 1 by omega) (p := ⟨w.heap.size + 1 + 1, 0, none⟩) (.int .i64 (grantedS u gs pv o l))
    have r3 := blk_put q3 0 (.int .i64 0) rfl
    have r2 := blk_far q2 (show w.heap.size + 1 + 1 ≠ w.heap.size + 1 + 1 + 1 by omega) (p := ⟨w.heap.size + 1 + 1 + 1, 0, none⟩) (.int .i64 0)
    have HB5 := (HB3.out.setCell (p := ⟨w.heap.size + 1 + 1, 0, none⟩) (show w.heap.size ≤ w.heap.size + 1 + 1 by omega) (.int .i64 (grantedS u gs pv o l))).setCell (p := ⟨w.heap.size + 1 + 1 + 1, 0, none⟩) (show w.heap.size ≤ w.heap.size + 1 + 1 + 1 by omega) (.int .i64 0)
    refine leaves_cons (f := 69) (args := #[.pointer (some ⟨w.heap.size + 1 + 1, 0, none⟩), .pointer (some ⟨w.heap.size + 1 + 1 + 1, 0, none⟩)]) (by simp) (by simp [go_sem]) ?_
    refine (caught69_idle _ _ _).mono ?_
    rintro e u' w' ⟨rfl, rfl, hb3⟩
    exact ⟨_, results_cells rfl rfl rfl (loadVar_one 3 Try.underlying3 rfl (blk_below r2 hb3)) (loadVar_one 25 Try.underlying25 rfl (blk_below r3 hb3)), rfl, below_step HB5 hb3⟩
  · have HT := Aside0.mk ht
    have HS := Aside0.mk (show sGranted u gs pv o l = (0, 1) by unfold sGranted; rw [if_neg ht])
    clear ht
    go_wp2_with ((with_reducible refine gate_dst (N := 8) rfl ?_); refine goesP (some 8) rfl rfl Try.func70 (by kernel_rfl) rfl #[.agg #[.int .i64 u, .slice G gs.length cg, .int .i64 pv], .agg #[.int .i64 o, .bool b, .slice A l.length c]] rfl (by (try simp only [List.map_toArray, List.map_cons, List.map_nil]); first | done | rfl) ?_; refine (right_bad u pv o gs G A cg c b l _ (Kd.C_below HG.out HB_W.out) HGC.out HT.out).mono ?_; rintro e w1 ⟨rfl, hb⟩; refine .inr ⟨_, rfl, ?_⟩; have HB1 := Aside0.mk (below_step HB_W.out hb); have V2 := Aside0.mk (blk_below W2.out hb); have V3 := Aside0.mk (blk_below W3.out hb); clear hb t0 t1 t2 d0 d1 d2)
    rw [HS.out]
    refine leaves_cons (f := 69) (args := #[.pointer (some ⟨w.heap.size + 1 + 1, 0, none⟩), .pointer (some ⟨w.heap.size + 1 + 1 + 1, 0, none⟩)]) (by simp) (by simp [go_sem]) ?_
    refine (caught69_failed _ _ _ _ _ _ _ V2.out V3.out (by omega)).mono ?_
    rintro e u' w' ⟨rfl, rfl, h2, h3, hb⟩
    exact ⟨_, results_cells rfl rfl rfl (loadVar_one 3 Try.underlying3 rfl h2) (loadVar_one 25 Try.underlying25 rfl h3), rfl, HB1.out.trans (hb _ (by omega) (by omega) HB1.out.size)⟩
end Go.Proofs.Ytgocgjfaiddejaa.M
