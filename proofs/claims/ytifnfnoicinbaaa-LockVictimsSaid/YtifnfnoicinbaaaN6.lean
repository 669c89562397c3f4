/- Waits are given up in deadlocks alone: the plain law of LockVictims. -/
import Derived.Test.YtifnfnoicinbaaaN5
namespace Go.Proofs.Ytifnfnoicinbaaa.M
open Go.RowKit Go.Proofs.YtifnfnoicinbaaaW.PrintWords Go.Proofs.YtifnfnoicinbaaaW.PrintLast Go.Proofs.YtifnfnoicinbaaaW.PrintMore
set_option linter.unusedVariables false
set_option linter.unusedSimpArgs false
set_option linter.unnecessarySimpa false

theorem way_first {R : Int → Int → Prop} {x y : Int} (h : Relation.TransGen R x y) : ∃ z, R x z := by
  induction h with
  | single h => exact ⟨_, h⟩
  | tail _ _ ih => exact ih
theorem way_through {R R' : Int → Int → Prop} {a : Int} (hR : ∀ x y, R x y → R' x y ∨ x = a) {c d : Int} (h : Relation.TransGen R c d) : Relation.TransGen R' c d ∨ ∃ b, R a b ∧ (b = d ∨ Relation.TransGen R b d) := by
  induction h with
  | single h =>
    rcases hR _ _ h with h1 | rfl
    · exact .inl (.single h1)
    · exact .inr ⟨_, h, .inl rfl⟩
  | tail _ hs ih =>
    rcases ih with h1 | ⟨b, hb, h1⟩
    · rcases hR _ _ hs with h2 | rfl
      · exact .inl (.tail h1 h2)
      · exact .inr ⟨_, hs, .inl rfl⟩
    · refine .inr ⟨b, hb, .inr ?_⟩
      rcases h1 with rfl | h1
      · exact .single hs
      · exact .tail h1 hs
theorem stp_last {H Q : List S24} {a : S24} {x y : Int} (h : PL.Stp hdL mtL H (Q ++ [a]) x y) : PL.Stp hdL mtL H Q x y ∨ (x = hdL a ∧ ∃ z ∈ H ++ Q, mtL z a = true ∧ hdL z = y) := by
  rw [PL.stp_iff] at h
  obtain ⟨A, w, B, z, e, hw, hz, hm, hy⟩ := h
  rcases List.eq_nil_or_concat B with rfl | ⟨B', b, rfl⟩
  · have h1 : Q ++ [a] = A ++ [w] := e
    obtain ⟨rfl, h2⟩ := List.append_inj' h1 rfl
    injection h2 with h2
    subst h2
    exact .inr ⟨hw.symm, z, hz, hm, hy⟩
  · have h1 : Q ++ [a] = (A ++ w :: B') ++ [b] := by rw [e]; simp
    obtain ⟨rfl, _⟩ := List.append_inj' h1 rfl
    exact .inl (PL.stp_iff.2 ⟨A, w, B', z, rfl, hw, hz, hm, hy⟩)
/-- A new circle goes through the asker. -/
theorem circ_ask {H Q : List S24} {a : S24} (hn : ∀ c, ¬ PL.Circ hdL mtL H Q c) {c : Int} (hc : PL.Circ hdL mtL H (Q ++ [a]) c) : ∃ z ∈ H ++ Q, mtL z a = true ∧ ∃ y ∈ Q, hdL y = hdL z := by
  rcases way_through (R' := PL.Stp hdL mtL H Q) (a := hdL a) (fun x y h => by
    rcases stp_last h with h | ⟨h, _⟩
    · exact .inl h
    · exact .inr h) hc with h | ⟨b, hb, h⟩
  · exact absurd h (hn c)
  · rcases stp_last hb with h1 | ⟨_, z, hz, hm, rfl⟩
    · -- an edge of the old table from the asker's handle: it waits already; the same way holds
      have hout : ∃ e, PL.Stp hdL mtL H (Q ++ [a]) b e := by
        rcases h with rfl | h
        · exact way_first hc
        · exact way_first h
      -- follow on: take the circle once more, cut at the last wait
      exact (Classical.byContradiction fun hno => by
        have hall : ∀ x y, PL.Stp hdL mtL H (Q ++ [a]) x y → PL.Stp hdL mtL H Q x y ∨ (x = hdL a ∧ ∃ z ∈ H ++ Q, mtL z a = true ∧ hdL z = y ∧ ∀ e, ¬ PL.Stp hdL mtL H (Q ++ [a]) y e) := by
          intro x y hxy
          rcases stp_last hxy with h | ⟨h, z, hz, hm, hy⟩
          · exact .inl h
          · refine .inr ⟨h, z, hz, hm, hy, fun e he => hno ⟨z, hz, hm, ?_⟩⟩
            rw [PL.stp_iff] at he
            obtain ⟨A, w, B, _, e1, hw, _⟩ := he
            have hwm : w ∈ Q ++ [a] := by rw [e1]; simp
            rcases List.mem_append.1 hwm with h2 | h2
            · exact ⟨w, h2, by rw [hw, hy]⟩
            · rw [List.mem_singleton] at h2
              subst h2
              exact absurd (hy.trans hw.symm) (mt_hd hm)
        have key : ∀ x y, Relation.TransGen (PL.Stp hdL mtL H (Q ++ [a])) x y → (∃ e, PL.Stp hdL mtL H (Q ++ [a]) y e) → Relation.TransGen (PL.Stp hdL mtL H Q) x y := by
          intro x y hxy
          induction hxy with
          | single s =>
            rintro ⟨e, he⟩
            rcases hall _ _ s with h | ⟨_, _, _, _, _, h⟩
            · exact .single h
            · exact absurd he (h e)
          | tail _ s ih =>
            rintro ⟨e, he⟩
            rcases hall _ _ s with h | ⟨_, _, _, _, _, h⟩
            · exact .tail (ih ⟨_, s⟩) h
            · exact absurd he (h e)
        exact hn c (key c c hc (way_first hc)))
    · have hout : ∃ e, PL.Stp hdL mtL H (Q ++ [a]) (hdL z) e := by
        rcases h with h | h
        · rw [h]; exact way_first hc
        · exact way_first h
      obtain ⟨e, he⟩ := hout
      rw [PL.stp_iff] at he
      obtain ⟨A, w, B, _, e1, hw, _⟩ := he
      have hwm : w ∈ Q ++ [a] := by rw [e1]; simp
      rcases List.mem_append.1 hwm with h2 | h2
      · exact ⟨z, hz, hm, w, h2, hw⟩
      · rw [List.mem_singleton] at h2
        subst h2
        exact absurd hw.symm (mt_hd hm)
theorem waits_true {W : List S24} {x : Int} {y : S24} (hy : y ∈ W) (h : hdL y = x) : waitsB W x = true := by
  unfold waitsB
  rw [List.any_eq_true]
  exact ⟨y, hy, by simpa [hdL] using h⟩
/-- What Ask tells. -/
theorem victims {H Q : List S24} {a : S24} (hz : (askF H Q a).2 = 0) :
    (∀ g ∈ (askF H Q a).1.2.2.2, (g ≠ a.f1 → waitsB Q g = true) ∧ waitsB (askF H Q a).1.2.1 g = false) ∧ ((askF H Q a).1.2.2.2 = [] ∨ (H ++ Q).any (fun x => cfL x a && waitsB Q x.f1) = true) := by
  unfold askF at hz ⊢
  by_cases hq : reqE H Q a = 0
  · rw [if_pos hq]
    obtain ⟨hI, hv, _⟩ := req_inv hq
    have hs : PL.Single hdL (Q ++ [a]) := (req_good hq).single
    obtain ⟨H1, W1, G1, N1, e, st, _, _⟩ := PL.settle_spec (mt := mtL) (H := H) hs
    rw [show settleL H (Q ++ [a]) = (H1, W1, G1, N1) from e]
    dsimp only
    obtain ⟨A, B, _, _, e3, hp⟩ := PL.steps_news st
    rw [List.nil_append] at e3
    refine ⟨fun g hg => ?_, ?_⟩
    · rw [e3, List.mem_map] at hg
      obtain ⟨y, hy, rfl⟩ := hg
      have hyQ : y ∈ Q ++ [a] := hp.subset (by simp [hy])
      refine ⟨fun hne => ?_, waits_false fun u hu he => ?_⟩
      · rcases List.mem_append.1 hyQ with h | h
        · exact waits_true h rfl
        · rw [List.mem_singleton] at h
          subst h
          exact absurd rfl hne
      · have hn : ((A ++ B ++ W1).map hdL).Nodup := (hp.map hdL).nodup_iff.2 hs
        rw [List.map_append, List.nodup_append] at hn
        exact hn.2.2 (hdL y) (by simp only [List.map_append]; exact List.mem_append_right _ (List.mem_map_of_mem hy)) (hdL u) (List.mem_map_of_mem hu) he.symm
    · by_cases hN : N1 = []
      · exact .inl hN
      · right
        have hcc : ∃ c, PL.Circ hdL mtL H (Q ++ [a]) c := Classical.byContradiction fun h => hN (PL.steps_none mt_sym st (fun c hc => h ⟨c, hc⟩)).1
        obtain ⟨c, hc⟩ := hcc
        obtain ⟨z, hz, hm, y, hy, hyz⟩ := circ_ask hI.noCirc hc
        rw [List.any_eq_true]
        refine ⟨z, hz, ?_⟩
        have hvz : vL z = true := by
          rcases List.mem_append.1 hz with h | h
          · exact hI.allH z h
          · exact hI.allW z h
        unfold cfL
        rw [hvz, hv, hm, show waitsB Q z.f1 = true from waits_true hy hyz]
        rfl
  · rw [if_neg hq] at hz; exact absurd hz hq
end Go.Proofs.Ytifnfnoicinbaaa.M
