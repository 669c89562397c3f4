/- inherit.Given, Child, ordered, Order. -/
import Derived.Test.YtgocgjfaiddejaaH10
import Derived.Test.YtgocgjfaiddejaaH4
import Derived.Test.YtgocgjfaiddejaaFA
namespace Go.Proofs.Ytgocgjfaiddejaa.M
open Go.RowKit Go.Proofs.YtgocgjfaiddejaaW.PrintWords Go.Proofs.YtgocgjfaiddejaaW.PrintLast Go.Proofs.YtgocgjfaiddejaaW.PrintMore
set_option linter.unusedVariables false
set_option linter.unusedSimpArgs false

/-- What comes of a call that hands back a descriptor and an error. -/
def DescPost (r : S33 × Int) (w : World) (e : Ending) (w' : World) : Prop :=
  ∃ v, e = .returned (.tuple #[.agg #[.int .i64 r.1.f0, .bool r.1.f1, v], .int .i64 r.2]) ∧ RA w' w.heap.size v r.1.f2 ∧ Below w.heap.size w w'

theorem valid_one (g : Nat) (o : Int) (b : Bool) (A : Option Addr) (c : Nat) (l : List S37) (W : World) (hg : W.heap[g]? = some (.cells #[.int .i64 o, .bool b, .slice A l.length c] 33 (0, 0))) (hr : k37.C W A l.length l) (hc : l.length ≤ c) :
    Calls Try.prog 58 #[.slice (some ⟨g, 0, none⟩) 1 1] W fun e w' => e = .returned (.bool (vDesc o l)) ∧ Below W.heap.size W w' := by
  refine (valid_calls (some ⟨g, 0, none⟩) 1 [⟨o, b, l⟩] _ (C33_one (x := ⟨o, b, l⟩) hg hc hr)).mono ?_
  rintro e w' ⟨rfl, hb⟩
  exact ⟨by simp [vD], hb⟩
theorem valid_two (g : Nat) (o o2 : Int) (b b2 : Bool) (A A2 : Option Addr) (c c2 : Nat) (l l2 : List S37) (W : World) (hg : W.heap[g]? = some (.cells #[.int .i64 o, .bool b, .slice A l.length c, .int .i64 o2, .bool b2, .slice A2 l2.length c2] 33 (0, 0))) (hr : k37.C W A l.length l) (hc : l.length ≤ c) (hr2 : k37.C W A2 l2.length l2) (hc2 : l2.length ≤ c2) :
    Calls Try.prog 58 #[.slice (some ⟨g, 0, none⟩) 2 2] W fun e w' => e = .returned (.bool (vDesc o l && vDesc o2 l2)) ∧ Below W.heap.size W w' := by
  refine (valid_calls (some ⟨g, 0, none⟩) 2 [⟨o, b, l⟩, ⟨o2, b2, l2⟩] _ (C33_two (x := ⟨o, b, l⟩) (y := ⟨o2, b2, l2⟩) hg hc hr hc2 hr2)).mono ?_
  rintro e w' ⟨rfl, hb⟩
  exact ⟨by simp [vD], hb⟩
/-- A call's end: the descriptor lies in a variable of the call's own, the error in a slot. -/
theorem desc_end {fn : Func} {ts : Array Value} {p u : Tmp} {r : S33 × Int} {w W : World} {g : Nat} {cs : Array Value} {v : Value} (hres : fn.results = #[.cell p 33, .tmp u]) (hp : ts.getD p undef = .pointer (some ⟨g, 0, none⟩)) (hu : ts.getD u undef = .int .i64 r.2)
    (hg : W.heap[g]? = some (.cells cs 33 (0, 0))) (hs : cs.size = 3) (hgw : w.heap.size ≤ g) (hra : RA W w.heap.size v r.1.f2) (hb : Below w.heap.size w W) :
    bodyPost Try.prog fn (DescPost r w) Exit.ret { tmps := ts, defers := [] } (((W.setCell ⟨g, 0, none⟩ (.int .i64 r.1.f0)).setCell ⟨g, 1, none⟩ (.bool r.1.f1)).setCell ⟨g, 2, none⟩ v) := by
  have q1 := blk_set hg 0 (.int .i64 r.1.f0)
  have q2 := blk_set q1 1 (.bool r.1.f1)
  have q3 := blk_set q2 2 v
  have e : ((cs.setIfInBounds 0 (.int .i64 r.1.f0)).setIfInBounds 1 (.bool r.1.f1)).setIfInBounds 2 v = #[.int .i64 r.1.f0, .bool r.1.f1, v] := by
    rcases cs with ⟨l⟩
    rcases l with _ | ⟨a, _ | ⟨b, _ | ⟨c, _ | ⟨d, l⟩⟩⟩⟩ <;> simp at hs
    simp
  rw [e] at q3
  have hl := results_list (P := Try.prog) (fn := fn) (rs := [.cell p 33, .tmp u]) (vs := [.agg #[.int .i64 r.1.f0, .bool r.1.f1, v], ts.getD u undef]) hres (by simp) (.cell g 33 _ _ _ hp q3 Try.underlying33 rfl (by kernel_rfl) (.tmp .nil))
  rw [hu] at hl
  refine bodyPost_ret hl rfl ⟨v, rfl, ?_, ?_⟩
  · exact Kd.R_set (Kd.R_set (Kd.R_set hra hg (by decide) 0 _) q1 (by decide) 1 _) q2 (by decide) 2 _
  · exact ((hb.setCell (p := ⟨g, 0, none⟩) hgw _).setCell (p := ⟨g, 1, none⟩) hgw _).setCell (p := ⟨g, 2, none⟩) hgw _
theorem vDesc_len {o : Int} {l : List S37} (h : vDesc o l = true) : l.length ≤ 16 := by
  simp [vDesc] at h; exact h.1.2

def sGiven (o : Int) (l : List S37) (dir : Bool) : List S37 := if vDesc o l = true then given l dir else []
set_option maxRecDepth 100000 in
set_option maxHeartbeats 2000000 in
theorem Given_calls (o : Int) (b : Bool) (A : Option Addr) (c : Nat) (l : List S37) (dir : Bool) (w : World) (hr : k37.C w A l.length l) (hc : l.length ≤ c) :
    Calls Try.prog 22 #[.agg #[.int .i64 o, .bool b, .slice A l.length c], .bool dir] w fun e w' => ∃ v, e = .returned (.tuple #[v, .int .i64 (errOf (vDesc o l))]) ∧ RA w' w.heap.size v (sGiven o l dir) ∧ Below w.heap.size w w' := by
  have HR := Aside0.mk hr
  have HC := Aside0.mk hc
  have HB1 := Aside0.mk (below_alloc (Below.refl _ w) (.cells #[.int .i64 o, .bool b, .slice A l.length c] 33))
  have HG1 := Aside0.mk (blk_new w (.cells #[.int .i64 o, .bool b, .slice A l.length c] 33))
  clear hr hc
  by_cases hv : vDesc o l = true
  · have HV := Aside0.mk hv
    clear hv
    go_enter Try.func22, Try.ntmps22
    go_wp2_with (first | ((with_reducible refine gate_dst (N := 8) rfl ?_); refine goesL_ (some 8) rfl rfl Try.func58 (by kernel_rfl) rfl #[.slice (some ⟨w.heap.size + 1, 0, none⟩) 1 1] rfl (by (try simp only [List.map_toArray, List.map_cons, List.map_nil]); first | done | rfl) ?_; refine (valid_one _ o b A c l _ (blk_lit _ _ _) (Kd.C_alloc (Kd.C_alloc HR.out _) _) HC.out).mono ?_; rintro e w' ⟨rfl, hb⟩; refine ⟨_, rfl, ?_⟩; rw [HV.out]; have HB2 := Aside0.mk (below_step (below_alloc HB1.out _) hb); have hh := blk_below (blk_alloc HG1.out _) hb; have y0 := (blk_cell hh 0).trans rfl; have y1 := (blk_cell hh 1).trans rfl; have y2 := (blk_cell hh 2).trans rfl; clear hb hh) | ((with_reducible refine gate_dst (N := 12) rfl ?_); refine goesL_ (some 12) rfl rfl Try.func59 (by kernel_rfl) rfl #[.agg #[.int .i64 o, .bool b, .slice A l.length c], .bool dir] rfl (by (try simp only [List.map_toArray, List.map_cons, List.map_nil]); first | done | rfl) ?_; refine (given_calls o b A c l dir _ (Kd.C_below HR.out HB2.out) (by have := vDesc_len HV.out; omega)).mono ?_; rintro e w' ⟨v, rfl, hra, hb⟩; refine ⟨_, rfl, ?_⟩; have HO := Aside0.mk (Kd.R_lower hra HB2.out.size); have HB3 := Aside0.mk (below_step HB2.out hb); clear hra hb))
    go_ret2
    exact ⟨_, by rw [HV.out]; rfl, by unfold sGiven; rw [if_pos HV.out]; exact HO.out, HB3.out⟩
  · replace hv : vDesc o l = false := by simpa using hv
    have HV := Aside0.mk hv
    clear hv
    go_enter Try.func22, Try.ntmps22
    go_wp2_with ((with_reducible refine gate_dst (N := 8) rfl ?_); refine goesL_ (some 8) rfl rfl Try.func58 (by kernel_rfl) rfl #[.slice (some ⟨w.heap.size + 1, 0, none⟩) 1 1] rfl (by (try simp only [List.map_toArray, List.map_cons, List.map_nil]); first | done | rfl) ?_; refine (valid_one _ o b A c l _ (blk_lit _ _ _) (Kd.C_alloc (Kd.C_alloc HR.out _) _) HC.out).mono ?_; rintro e w' ⟨rfl, hb⟩; refine ⟨_, rfl, ?_⟩; rw [HV.out]; have HB2 := Aside0.mk (below_step (below_alloc HB1.out _) hb); clear hb)
    go_ret2
    exact ⟨_, by rw [HV.out]; rfl, by unfold sGiven; rw [HV.out]; exact Kd.R_nil _ _ _ _ _, HB2.out⟩
end Go.Proofs.Ytgocgjfaiddejaa.M
