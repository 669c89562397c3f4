/- Words for regions that hold a call beside two new boxes. -/
import Derived.Test.YtifnfnoicinbaaaN2
namespace Go.Proofs.Ytifnfnoicinbaaa.M
open Go.RowKit Go.Proofs.YtifnfnoicinbaaaW.PrintWords Go.Proofs.YtifnfnoicinbaaaW.PrintLast Go.Proofs.YtifnfnoicinbaaaW.PrintMore
set_option linter.unusedVariables false
set_option linter.unusedSimpArgs false
set_option linter.unnecessarySimpa false

section
variable {P : Program} {md : Region.Mode} {ops : Array Oper} {Q : Exit → Act → World → Prop} {S : World → Prop} {ds : List Nat}
theorem three_ {i j k : Nat} {Ni Nj Nk : Option Tmp} {oi oj ok : Oper} {fuel : Nat} {l : Array Bool} {a : Act} {w : World} (li lj lk : Array Bool) (hi : ops[i]? = some oi) (hj : ops[j]? = some oj) (hk : ops[k]? = some ok) (hNi : oi.dst = Ni) (hNj : oj.dst = Nj) (hNk : ok.dst = Nk)
    (hc : (Region.ready md ops l == [i, j, k] && l.setIfInBounds i true == li && l.setIfInBounds j true == lj && l.setIfInBounds k true == lk) = true) (hdi : i ∉ ds) (hdj : j ∉ ds) (hdk : k ∉ ds)
    (h1 : ∀ K : Act → World → Prop, Shut (∀ a' w', S w' → (S w' → wpAnyLast P md ops Q S ds fuel li a' w') → K a' w') → if Region.wanted oi (yielded ops a.tmps) = true then Oper.wp P oi a w K Q else K (a.put Ni undef) w)
    (h2 : ∀ K : Act → World → Prop, Shut (∀ a' w', S w' → (S w' → wpAnyLast P md ops Q S ds fuel lj a' w') → K a' w') → if Region.wanted oj (yielded ops a.tmps) = true then Oper.wp P oj a w K Q else K (a.put Nj undef) w)
    (h3 : ∀ K : Act → World → Prop, Shut (∀ a' w', S w' → (S w' → wpAnyLast P md ops Q S ds fuel lk a' w') → K a' w') → if Region.wanted ok (yielded ops a.tmps) = true then Oper.wp P ok a w K Q else K (a.put Nk undef) w) :
    wpAnyLast P md ops Q S ds (fuel + 1) l a w := by
  subst hNi
  subst hNj
  subst hNk
  simp only [Bool.and_eq_true, beq_iff_eq] at hc
  obtain ⟨⟨⟨h4, h5⟩, h6⟩, h7⟩ := hc
  subst h5
  subst h6
  subst h7
  exact wpAnyLast_ready h4 (by simp) (AllReadyL.cons hi hdi (fun K hK => h1 K hK) (AllReadyL.cons hj hdj (fun K hK => h2 K hK) (AllReadyL.cons hk hdk (fun K hK => h3 K hK) AllReadyL.nil)))
end
theorem held3 {w w' : World} {a0 a1 a2 : Addr} {v0 v1 v2 : Value} (hb : Below w.heap.size w w') (h : w.cell? a0 = some v0 ∧ w.cell? a1 = some v1 ∧ w.cell? a2 = some v2) : w'.cell? a0 = some v0 ∧ w'.cell? a1 = some v1 ∧ w'.cell? a2 = some v2 :=
  ⟨pw_cell_below hb h.1, pw_cell_below hb h.2.1, pw_cell_below hb h.2.2⟩
theorem held8 {w w' : World} {a0 a1 a2 a3 a4 a5 a6 a7 : Addr} {v0 v1 v2 v3 v4 v5 v6 v7 : Value} (hb : Below w.heap.size w w')
    (h : w.cell? a0 = some v0 ∧ w.cell? a1 = some v1 ∧ w.cell? a2 = some v2 ∧ w.cell? a3 = some v3 ∧ w.cell? a4 = some v4 ∧ w.cell? a5 = some v5 ∧ w.cell? a6 = some v6 ∧ w.cell? a7 = some v7) :
    w'.cell? a0 = some v0 ∧ w'.cell? a1 = some v1 ∧ w'.cell? a2 = some v2 ∧ w'.cell? a3 = some v3 ∧ w'.cell? a4 = some v4 ∧ w'.cell? a5 = some v5 ∧ w'.cell? a6 = some v6 ∧ w'.cell? a7 = some v7 :=
  ⟨pw_cell_below hb h.1, pw_cell_below hb h.2.1, pw_cell_below hb h.2.2.1, pw_cell_below hb h.2.2.2.1, pw_cell_below hb h.2.2.2.2.1, pw_cell_below hb h.2.2.2.2.2.1, pw_cell_below hb h.2.2.2.2.2.2.1, pw_cell_below hb h.2.2.2.2.2.2.2⟩
theorem closeT_calls (n : Nat) (A1 A2 : Option Addr) (c1 c2 : Nat) (H Q : List S24) (x : Int) (w : World) (RH : k24.R 24 w n (fun _ => True) (.slice A1 H.length c1) H) (RW : k24.R 24 w n (fun _ => True) (.slice A2 Q.length c2) Q) (hn : n ≤ w.heap.size) (hlen : H.length + Q.length ≤ 1000) :
    Calls Try.prog 40 #[.agg #[.slice A1 H.length c1, .slice A2 Q.length c2], .int .i64 x] w fun e w' =>
      ∃ vH vW vG vN, e = .returned (.tuple #[.agg #[vH, vW], .agg #[vG, vN], .int .i64 (closeF H Q x).2]) ∧ k24.R 24 w' n (fun _ => True) vH (closeF H Q x).1.1 ∧ k24.R 24 w' n (fun _ => True) vW (closeF H Q x).1.2.1 ∧ kI.R 3 w' n (fun _ => True) vG (closeF H Q x).1.2.2.1 ∧ kI.R 3 w' n (fun _ => True) vN (closeF H Q x).1.2.2.2 ∧ Below w.heap.size w w' := by
  refine (close_calls A1 A2 c1 c2 H Q x w (Kd.R_reads' RH).2.2 (Kd.R_reads' RW).2.2 hlen).mono ?_
  rintro e w' ⟨v, u, rfl, ⟨vH, vW, rfl, r1, r2⟩, ⟨vG, vN, rfl, r3, r4⟩, hb⟩
  exact ⟨_, _, _, _, rfl, Kd.R_lower r1 hn, Kd.R_lower r2 hn, Kd.R_lower r3 hn, Kd.R_lower r4 hn, hb⟩
end Go.Proofs.Ytifnfnoicinbaaa.M
