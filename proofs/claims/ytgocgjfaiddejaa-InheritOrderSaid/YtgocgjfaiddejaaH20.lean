/- The tree that is being changed: its row, its elements, what is written into them. -/
import Derived.Test.YtgocgjfaiddejaaH19
import Derived.Test.YtgocgjfaiddejaaHP
namespace Go.Proofs.Ytgocgjfaiddejaa.M
open Go.RowKit Go.Proofs.YtgocgjfaiddejaaW.PrintWords Go.Proofs.YtgocgjfaiddejaaW.PrintLast Go.Proofs.YtgocgjfaiddejaaW.PrintMore
set_option linter.unusedVariables false
set_option linter.unusedSimpArgs false

/-! #### struct type 105 -/
structure S105 where
  f0 : S35
  f1 : Bool
def z105 : S105 := ⟨z35, false⟩
def k105 : Kd S105 := Kd.iso (Kd.pair k35 Kd.bool) (fun x : S105 => (x.f0, x.f1))
theorem k105_openM {w : World} {base : Nat} {ok : Nat → Prop} {x : S105} {cs : List Value} (h : k105.M w base ok x cs) : ∃ v, cs = [.int .i64 x.f0.f0, .bool x.f0.f1, .int .i64 x.f0.f2.f0, .bool x.f0.f2.f1, v, .bool x.f1] ∧ k37.R 37 w base ok v x.f0.f2.f2 := by
  obtain ⟨_, _, rfl, h1, h2⟩ := h
  obtain ⟨v4, rfl, g4⟩ := k35_openM h1
  cases h2
  exact ⟨v4, rfl, g4⟩
theorem k105_mkM (w : World) (base : Nat) (ok : Nat → Prop) (x : S105) {v : Value} (g4 : k37.R 37 w base ok v x.f0.f2.f2) : k105.M w base ok x [.int .i64 x.f0.f0, .bool x.f0.f1, .int .i64 x.f0.f2.f0, .bool x.f0.f2.f1, v, .bool x.f1] :=
  ⟨[.int .i64 x.f0.f0, .bool x.f0.f1, .int .i64 x.f0.f2.f0, .bool x.f0.f2.f1, v], [.bool x.f1], rfl, k35_mkM w base ok x.f0 g4, rfl⟩
theorem info105 : (Try.prog.info? 105).map (fun i => (i.zero, i.size, i.bytes)) = some (some (.agg #[(.int .i64 0), (.bool false), (.int .i64 0), (.bool false), (.slice none 0 0), (.bool false)]), 6, 64) := by kernel_rfl
def rd_T105 (xs : List S105) (i : Int) : S105 := xs.getD i.toNat z105
theorem rd105_at {l : List S105} {j : Nat} (h : j < l.length) : rd_T105 l (j : Int) = l[j] := by simp [rd_T105, h]

/-- A row of such elements, of the call's own. -/
abbrev RG (w : World) (base g cap : Nat) (gs : List S105) : Prop := Kd.R k105 105 w base (fun _ => True) (.slice (some ⟨g, 0, none⟩) gs.length cap) gs
theorem elem105 {W : World} {base g cap : Nat} {gs : List S105} (h : RG W base g cap gs) {j : Nat} (hj : j < gs.length) :
    ∃ A c, W.cell? ⟨g, j * 6, none⟩ = some (.int .i64 (rd_T105 gs j).f0.f0) ∧ W.cell? ⟨g, j * 6 + 1, none⟩ = some (.bool (rd_T105 gs j).f0.f1) ∧ W.cell? ⟨g, j * 6 + 2, none⟩ = some (.int .i64 (rd_T105 gs j).f0.f2.f0) ∧ W.cell? ⟨g, j * 6 + 3, none⟩ = some (.bool (rd_T105 gs j).f0.f2.f1) ∧
      W.cell? ⟨g, j * 6 + 4, none⟩ = some (.slice A (rd_T105 gs j).f0.f2.f2.length c) ∧ W.cell? ⟨g, j * 6 + 5, none⟩ = some (.bool (rd_T105 gs j).f1) ∧ (rd_T105 gs j).f0.f2.f2.length ≤ c ∧ k37.C W A (rd_T105 gs j).f0.f2.f2.length (rd_T105 gs j).f0.f2.f2 ∧
      k37.R 37 W base (fun k => k ≠ g) (.slice A (rd_T105 gs j).f0.f2.f2.length c) (rd_T105 gs j).f0.f2.f2 ∧ ∀ i, W.frozen? ⟨g, j * 6 + i, none⟩ = false := by
  obtain ⟨c, hl, hM, hc, hf⟩ := Kd.R_elem h z105 (j : Int) (by omega) (by omega)
  have hM' : k105.M W base (fun k => True ∧ k ≠ g) (rd_T105 gs j) c := hM
  obtain ⟨v, rfl, hr⟩ := k105_openM hM'
  obtain ⟨A, c, rfl⟩ := Kd.R_slice hr
  have hc' : ∀ i u, ([.int .i64 (rd_T105 gs j).f0.f0, .bool (rd_T105 gs j).f0.f1, .int .i64 (rd_T105 gs j).f0.f2.f0, .bool (rd_T105 gs j).f0.f2.f1, .slice A (rd_T105 gs j).f0.f2.f2.length c, .bool (rd_T105 gs j).f1] : List Value)[i]? = some u → W.cell? ⟨g, j * 6 + i, none⟩ = some u := hc
  exact ⟨A, c, hc' 0 _ rfl, hc' 1 _ rfl, hc' 2 _ rfl, hc' 3 _ rfl, hc' 4 _ rfl, hc' 5 _ rfl, (Kd.R_reads' hr).2.1, (Kd.R_reads' hr).2.2, Kd.R_mono hr (fun k hk => hk.2), hf⟩
theorem setDown105 {W : World} {base g cap : Nat} {gs : List S105} (h : RG W base g cap gs) {j : Nat} (hj : j < gs.length) :
    RG (W.setCell ⟨g, j * 6 + 5, none⟩ (.bool true)) base g cap (gs.set j { rd_T105 gs j with f1 := true }) ∧ W.grownBy (W.setCell ⟨g, j * 6 + 5, none⟩ (.bool true)) (some g) := by
  obtain ⟨A, c, h0, h1, h2, h3, h4, h5, _, _, hr, _⟩ := elem105 h hj
  have := Kd.R_seg h (okp := fun k => k ≠ g) (x' := { rd_T105 gs j with f1 := true }) (c := [.int .i64 (rd_T105 gs j).f0.f0, .bool (rd_T105 gs j).f0.f1, .int .i64 (rd_T105 gs j).f0.f2.f0, .bool (rd_T105 gs j).f0.f2.f1, .slice A (rd_T105 gs j).f0.f2.f2.length c, .bool (rd_T105 gs j).f1])
    (seg := [.bool true]) (j := 5) (j : Int) (by omega) (by omega) rfl (by
      intro i u hu
      have e : k105.sz = 6 := rfl
      rw [e]
      rcases i with _ | _ | _ | _ | _ | _ | i <;> simp at hu <;> subst hu <;> assumption) (by decide) (k105_mkM _ _ _ { rd_T105 gs j with f1 := true } hr) (fun k hk => ⟨trivial, hk⟩)
  refine ⟨?_, this.2⟩
  have h6 := this.1
  unfold RG
  rw [List.length_set]
  exact h6
theorem setDesc105 {W : World} {base g cap : Nat} {gs : List S105} (h : RG W base g cap gs) {j : Nat} (hj : j < gs.length) (d : S33) (v : Value) (hv : k37.R 37 W base (fun k => k ≠ g) v d.f2) :
    RG (W.setCells g (j * 6 + 2) [.int .i64 d.f0, .bool d.f1, v]) base g cap (gs.set j { rd_T105 gs j with f0 := { (rd_T105 gs j).f0 with f2 := d } }) ∧ W.grownBy (W.setCells g (j * 6 + 2) [.int .i64 d.f0, .bool d.f1, v]) (some g) := by
  obtain ⟨A, c, h0, h1, h2, h3, h4, h5, _, _, hr, _⟩ := elem105 h hj
  have := Kd.R_seg h (okp := fun k => k ≠ g) (x' := { rd_T105 gs j with f0 := { (rd_T105 gs j).f0 with f2 := d } }) (c := [.int .i64 (rd_T105 gs j).f0.f0, .bool (rd_T105 gs j).f0.f1, .int .i64 (rd_T105 gs j).f0.f2.f0, .bool (rd_T105 gs j).f0.f2.f1, .slice A (rd_T105 gs j).f0.f2.f2.length c, .bool (rd_T105 gs j).f1])
    (seg := [.int .i64 d.f0, .bool d.f1, v]) (j := 2) (j : Int) (by omega) (by omega) rfl (by
      intro i u hu
      have e : k105.sz = 6 := rfl
      rw [e]
      rcases i with _ | _ | _ | _ | _ | _ | i <;> simp at hu <;> subst hu <;> assumption) (show 2 + 3 ≤ 6 by decide) (k105_mkM _ _ _ { rd_T105 gs j with f0 := { (rd_T105 gs j).f0 with f2 := d } } hv) (fun k hk => ⟨trivial, hk⟩)
  refine ⟨?_, this.2⟩
  have h6 := this.1
  unfold RG
  rw [List.length_set]
  exact h6

/-- What holds between the rounds: the row, and the variables that hold it. -/
structure GI (w0 : World) (gb cap g7 c1 c2 kk : Nat) (gs : List S105) (W : World) : Prop where
  below : Below w0.heap.size w0 W
  row : RG W w0.heap.size gb cap gs
  v7 : W.heap[g7]? = some (.cells #[.slice (some ⟨gb, 0, none⟩) gs.length cap] 103 (0, 0))
  b1 : W.heap[c1]? = some (.cells #[.slice (some ⟨gb, 0, none⟩) gs.length cap] 103 (0, 0))
  b2 : W.heap[c2]? = some (.cells #[.int .i64 kk] 3 (0, 0))
theorem GI.typed {w0 : World} {gb cap g7 c1 c2 kk : Nat} {gs : List S105} {W : World} (h : GI w0 gb cap g7 c1 c2 kk gs W) : w0.heap.size ≤ gb ∧ ∃ cells, W.heap[gb]? = some (.cells cells 105 (0, 0)) := by
  obtain ⟨_, inner, ho, _⟩ := h.row
  exact ⟨Kd.R_base h.row gb rfl, own_typed ho gb rfl⟩
theorem GI.onBelow {w0 : World} {gb cap g7 c1 c2 kk : Nat} {gs : List S105} {A B : World} (h : GI w0 gb cap g7 c1 c2 kk gs A) (hb : Below A.heap.size A B) : GI w0 gb cap g7 c1 c2 kk gs B :=
  ⟨below_step h.below hb, Kd.R_below h.row hb, blk_below h.v7 hb, blk_below h.b1 hb, blk_below h.b2 hb⟩
theorem GI.turn {w0 : World} {gb cap g7 c1 c2 kk : Nat} {gs : List S105} {A B : World} (h : GI w0 gb cap g7 c1 c2 kk gs A) {row : Option Nat} (hg : A.grownBy B row) (hr : ∀ r, row = some r → w0.heap.size ≤ r ∧ ∃ o : Obj, A.heap[r]? = some o ∧ o.isCells = false) : GI w0 gb cap g7 c1 c2 kk gs B :=
  ⟨below_turn h.below hg h.below.size (fun r e => (hr r e).1), R_turn h.row hg (fun r e => (hr r e).2), blk_turn h.v7 hg (fun r e => (hr r e).2), blk_turn h.b1 hg (fun r e => (hr r e).2), blk_turn h.b2 hg (fun r e => (hr r e).2)⟩
theorem GI.write {w0 : World} {gb cap g7 c1 c2 kk : Nat} {gs gs' : List S105} {A B : World} (h : GI w0 gb cap g7 c1 c2 kk gs A) (hr : RG B w0.heap.size gb cap gs') (hl : gs'.length = gs.length) (hg : A.grownBy B (some gb)) : GI w0 gb cap g7 c1 c2 kk gs' B := by
  obtain ⟨hgb, cells, hc⟩ := h.typed
  have ne : ∀ {g t : Nat} {cs : Array Value}, A.heap[g]? = some (.cells cs t (0, 0)) → t ≠ 105 → some g ≠ some gb := by
    intro g t cs h1 h2 e
    cases e
    rw [h1] at hc
    cases hc
    exact h2 rfl
  exact ⟨pw_below_grown h.below _ h.below.size hg (fun k e => by cases e; exact hgb), hr, by rw [hl]; exact blk_grown h.v7 hg (ne h.v7 (by decide)), by rw [hl]; exact blk_grown h.b1 hg (ne h.b1 (by decide)), blk_grown h.b2 hg (ne h.b2 (by decide))⟩

set_option maxRecDepth 100000 in
set_option maxHeartbeats 2000000 in
theorem below_calls (A : Option Addr) (n c : Nat) (k : Int) (w : World) :
    Calls Try.prog 78 #[.slice A n c, .int .i64 k] w fun e w' => e = .returned (.func (.func 95) #[] #[.pointer (some ⟨w.heap.size, 0, none⟩), .pointer (some ⟨w.heap.size + 1, 0, none⟩)]) ∧
      w' = (w.alloc (.cells #[.slice A n c] 103)).alloc (.cells #[.int .i64 k] 3) := by
  go_enter Try.func78, Try.ntmps78
  go_wp2
  go_ret
  exact ⟨rfl, rfl⟩
end Go.Proofs.Ytgocgjfaiddejaa.M
