/- A list sorted by insertion, each number once: the same as sorted and compacted. -/
import Derived.Test.YtifnfnoicinbaaaC7
namespace Go.Proofs.Ytifnfnoicinbaaa.M
open Go.RowKit Go.Proofs.YtifnfnoicinbaaaW.PrintWords Go.Proofs.YtifnfnoicinbaaaW.PrintLast Go.Proofs.YtifnfnoicinbaaaW.PrintMore
set_option linter.unusedVariables false
set_option linter.unusedSimpArgs false
set_option linter.unnecessarySimpa false

/-- Where a number goes. -/
def insK (out : List Int) (x : Int) : Nat := (out.takeWhile (fun y => decide (y < x))).length
def insU (out : List Int) (x : Int) : List Int := if out[insK out x]? = some x then out else out.take (insK out x) ++ [x] ++ out.drop (insK out x)
theorem insK_le (out : List Int) (x : Int) : insK out x ≤ out.length := (List.takeWhile_prefix _).length_le
theorem insK_lt {out : List Int} {x : Int} {m : Nat} (h : m < insK out x) : ∃ hm : m < out.length, out[m] < x := by
  have hm : m < out.length := Nat.lt_of_lt_of_le h (insK_le out x)
  refine ⟨hm, ?_⟩
  have hp := List.takeWhile_prefix (fun y => decide (y < x)) (l := out)
  obtain ⟨r, hr⟩ := hp
  have h1 : out[m] = (out.takeWhile (fun y => decide (y < x)))[m]'h := by
    have h2 : out[m]? = (out.takeWhile (fun y => decide (y < x)) ++ r)[m]? := by rw [hr]
    rw [List.getElem?_append_left h, List.getElem?_eq_getElem hm, List.getElem?_eq_getElem h] at h2
    exact Option.some.inj h2
  rw [h1]
  have := List.all_eq_true.1 (List.all_takeWhile (p := fun y => decide (y < x)) (l := out)) _ (List.getElem_mem h)
  simpa using this
theorem insK_at {out : List Int} {x : Int} (h : insK out x < out.length) : ¬ out[insK out x] < x := by
  have h1 := List.takeWhile_append_dropWhile (p := fun y => decide (y < x)) (l := out)
  intro hlt
  have h2 : out.dropWhile (fun y => decide (y < x)) ≠ [] := by
    intro e
    rw [e, List.append_nil] at h1
    unfold insK at h
    rw [h1] at h
    omega
  have h3 := List.head_dropWhile_not (fun y => decide (y < x)) h2
  have h4 : out[insK out x]? = some ((out.dropWhile (fun y => decide (y < x))).head h2) := by
    have e : out[insK out x]? = (out.takeWhile (fun y => decide (y < x)) ++ out.dropWhile (fun y => decide (y < x)))[insK out x]? := by rw [h1]
    rw [e]
    unfold insK
    rw [List.getElem?_append_right (Nat.le_refl _), Nat.sub_self, ← List.head?_eq_getElem?, List.head?_eq_some_head h2]
  rw [List.getElem?_eq_getElem h] at h4
  have h5 := Option.some.inj h4
  rw [← h5] at h3
  simp at h3
  omega
/-- The place is told by what is below and by what is there. -/
theorem insK_of {out : List Int} {x : Int} {k : Nat} (hk : k ≤ out.length) (h1 : ∀ m, ∀ hm : m < out.length, m < k → out[m] < x) (h2 : ∀ hk : k < out.length, ¬ out[k] < x) : insK out x = k := by
  rcases Nat.lt_trichotomy (insK out x) k with h | h | h
  · exact absurd (h1 _ (by omega) h) (insK_at (by omega))
  · exact h
  · obtain ⟨hm, hl⟩ := insK_lt h
    exact absurd hl (h2 hm)
theorem insU_mem {out : List Int} {x y : Int} : y ∈ insU out x ↔ y ∈ out ∨ y = x := by
  unfold insU
  split
  · rename_i h
    constructor
    · exact .inl
    · rintro (h1 | rfl)
      · exact h1
      · exact List.mem_of_getElem? h
  · simp only [List.mem_append, List.mem_singleton]
    constructor
    · rintro ((h | h) | h)
      · exact .inl (List.mem_of_mem_take h)
      · exact .inr h
      · exact .inl (List.mem_of_mem_drop h)
    · rintro (h | h)
      · rw [← List.take_append_drop (insK out x) out, List.mem_append] at h
        rcases h with h | h
        · exact .inl (.inl h)
        · exact .inr h
      · exact .inl (.inr h)
theorem insU_strict {out : List Int} {x : Int} (h : out.Pairwise (· < ·)) : (insU out x).Pairwise (· < ·) := by
  unfold insU
  split
  · exact h
  · rename_i hne
    have hlow : ∀ y ∈ out.take (insK out x), y < x := by
      intro y hy
      obtain ⟨m, hm, rfl⟩ := List.mem_iff_getElem.1 hy
      have h1 : m < insK out x := by simp at hm; omega
      rw [List.getElem_take]
      exact (insK_lt h1).2
    have hhigh : ∀ y ∈ out.drop (insK out x), x < y := by
      intro y hy
      obtain ⟨m, hm, rfl⟩ := List.mem_iff_getElem.1 hy
      have hk : insK out x < out.length := by simp at hm; omega
      have h2 := insK_at hk
      rw [List.getElem?_eq_getElem hk] at hne
      have h3 : out[insK out x] ≠ x := fun e => hne (by rw [e])
      rw [List.getElem_drop]
      rcases Nat.eq_zero_or_pos m with rfl | hp
      · simp only [Nat.add_zero]; omega
      · have h4 := List.pairwise_iff_getElem.1 h (insK out x) (insK out x + m) hk (by simp at hm; omega) (by omega)
        omega
    rw [List.pairwise_append, List.pairwise_append]
    refine ⟨⟨h.sublist (List.take_sublist _ _), by simp, fun a ha b hb => ?_⟩, h.sublist (List.drop_sublist _ _), fun a ha b hb => ?_⟩
    · rw [List.mem_singleton] at hb; subst hb; exact hlow a ha
    · rcases List.mem_append.1 ha with ha | ha
      · have h1 := hlow a ha; have h2 := hhigh b hb; omega
      · rw [List.mem_singleton] at ha; subst ha; exact hhigh b hb
theorem insU_fold : ∀ (L out : List Int), out.Pairwise (· < ·) → (L.foldl insU out).Pairwise (· < ·) ∧ ∀ y, y ∈ L.foldl insU out ↔ y ∈ out ∨ y ∈ L
  | [], out, h => ⟨h, fun y => by simp⟩
  | x :: L, out, h => by
    obtain ⟨h1, h2⟩ := insU_fold L (insU out x) (insU_strict h)
    refine ⟨h1, fun y => (h2 y).trans ?_⟩
    rw [insU_mem, List.mem_cons, or_assoc]
theorem strict_eq : ∀ {a b : List Int}, a.Pairwise (· < ·) → b.Pairwise (· < ·) → (∀ x, x ∈ a ↔ x ∈ b) → a = b
  | [], [], _, _, _ => rfl
  | [], y :: b, _, _, h => absurd ((h y).2 (List.mem_cons_self ..)) (by simp)
  | x :: a, [], _, _, h => absurd ((h x).1 (List.mem_cons_self ..)) (by simp)
  | x :: a, y :: b, ha, hb, h => by
    rw [List.pairwise_cons] at ha hb
    have hxy : x = y := by
      rcases List.mem_cons.1 ((h x).1 (List.mem_cons_self ..)) with e | hx
      · exact e
      · rcases List.mem_cons.1 ((h y).2 (List.mem_cons_self ..)) with e | hy
        · exact e.symm
        · have h1 := hb.1 x hx; have h2 := ha.1 y hy; omega
    subst hxy
    rw [strict_eq ha.2 hb.2 fun z => ?_]
    constructor
    · intro hz
      rcases List.mem_cons.1 ((h z).1 (List.mem_cons_of_mem _ hz)) with e | hz'
      · subst e; have := ha.1 z hz; omega
      · exact hz'
    · intro hz
      rcases List.mem_cons.1 ((h z).2 (List.mem_cons_of_mem _ hz)) with e | hz'
      · subst e; have := hb.1 z hz; omega
      · exact hz'
theorem compact_strict {zs : List Int} (h : zs.Pairwise (· ≤ ·)) : (Lib.compact zs).Pairwise (· < ·) := by
  unfold Lib.compact Lib.compactUpTo
  rw [List.pairwise_map, List.pairwise_filter]
  refine List.pairwise_lt_range.imp_of_mem fun {i j} hi hj hij hki hkj => ?_
  have hjl : j < zs.length := List.mem_range.1 hj
  unfold Lib.keeps at hkj
  have h0 : ¬ j = 0 := by omega
  have e1 : zs.toArray[j]! = zs[j] := by simp [hjl]
  have e2 : zs.toArray[i]! = zs[i]'(by omega) := by simp [show i < zs.length by omega]
  have e3 : zs.toArray[j - 1]! = zs[j - 1]'(by omega) := by simp [show j - 1 < zs.length by omega]
  rw [e1, e2]
  have h1 : zs[j - 1]'(by omega) ≤ zs[j] := List.pairwise_iff_getElem.1 h (j - 1) j (by omega) hjl (by omega)
  have h2 : zs[i]'(by omega) ≤ zs[j - 1]'(by omega) := by
    rcases Nat.lt_or_ge i (j - 1) with h' | h'
    · exact List.pairwise_iff_getElem.1 h i (j - 1) (by omega) (by omega) h'
    · have : i = j - 1 := by omega
      subst this
      exact Int.le_refl _
  have h3 : zs[j] ≠ zs[j - 1]'(by omega) := by
    simp [h0, e1, e3] at hkj
    first | exact hkj | exact fun e => hkj e.symm | (intro e; simp [e] at hkj)
  omega
theorem compact_mem {zs : List Int} {x : Int} : x ∈ Lib.compact zs ↔ x ∈ zs := by
  unfold Lib.compact Lib.compactUpTo
  simp only [List.mem_map, List.mem_filter, List.mem_range]
  constructor
  · rintro ⟨j, ⟨hj, _⟩, rfl⟩
    have : zs.toArray[j]! = zs[j] := by simp [hj]
    rw [this]
    exact List.getElem_mem hj
  · intro hx
    have hex : ∃ j, ∃ hj : j < zs.length, zs[j] = x := List.mem_iff_getElem.1 hx
    have key : ∀ n, (∃ j, j < n ∧ ∃ hj : j < zs.length, zs[j] = x) → ∃ j, (j < zs.length ∧ Lib.keeps zs.toArray j = true) ∧ zs.toArray[j]! = x := by
      intro n
      induction n with
      | zero => rintro ⟨j, hj, _⟩; omega
      | succ n ih =>
        rintro ⟨j, hjn, hj, e⟩
        by_cases hk : Lib.keeps zs.toArray j = true
        · exact ⟨j, ⟨hj, hk⟩, by simp [hj, e]⟩
        · refine ih ⟨j - 1, ?_, ?_⟩
          · rcases Nat.eq_zero_or_pos j with rfl | hp
            · exact absurd (by simp [Lib.keeps]) hk
            · omega
          · rcases Nat.eq_zero_or_pos j with rfl | hp
            · exact absurd (by simp [Lib.keeps]) hk
            · refine ⟨by omega, ?_⟩
              have e1 : zs.toArray[j]! = zs[j] := by simp [hj]
              have e3 : zs.toArray[j - 1]! = zs[j - 1]'(by omega) := by simp [show j - 1 < zs.length by omega]
              have hk' : Lib.keeps zs.toArray j = false := by simpa using hk
              unfold Lib.keeps at hk'
              simp [show ¬ j = 0 by omega, e1, e3] at hk'
              refine Eq.trans ?_ e
              first | exact hk' | exact hk'.symm
    obtain ⟨j, hj, e⟩ := hex
    exact key (j + 1) ⟨j, by omega, hj, e⟩
theorem sorted_sortI (L : List Int) : (sortI L).Pairwise (· ≤ ·) := by
  have := List.pairwise_mergeSort (le := fun x y : Int => decide (x ≤ y)) (fun a b c h1 h2 => by simp at *; omega) (fun a b => by simp; omega) L
  exact this.imp fun h => by simpa using h
theorem ins_compact (L : List Int) : L.foldl insU [] = Lib.compact (sortI L) := by
  obtain ⟨h1, h2⟩ := insU_fold L [] (by simp)
  refine strict_eq h1 (compact_strict (sorted_sortI L)) fun x => ?_
  rw [h2, compact_mem, List.mem_mergeSort]
  simp
end Go.Proofs.Ytifnfnoicinbaaa.M
