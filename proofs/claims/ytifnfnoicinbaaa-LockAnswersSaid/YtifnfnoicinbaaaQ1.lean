/- The reference's Valid, Conflict, waiting, Blockers in plain words. -/
import Derived.Test.YtifnfnoicinbaaaF33
import Derived.Test.YtifnfnoicinbaaaF52
import Derived.Test.YtifnfnoicinbaaaF47
import Derived.Test.YtifnfnoicinbaaaB9
namespace Go.Proofs.Ytifnfnoicinbaaa.M
open Go.RowKit Go.Proofs.YtifnfnoicinbaaaW.PrintWords Go.Proofs.YtifnfnoicinbaaaW.PrintLast Go.Proofs.YtifnfnoicinbaaaW.PrintMore
set_option linter.unusedVariables false
set_option linter.unusedSimpArgs false
set_option linter.unnecessarySimpa false

theorem validR_f (x : S24) : archivoltref31_Valid.f x.f0 x.f1 x.f2 x.f3 x.f4 = some (vL x) := by
  unfold archivoltref31_Valid.f vL
  repeat' split
  all_goals simp_all
  all_goals omega
theorem conflictR_f (a b : S24) : archivoltref31_Conflict.f a.f0 a.f1 a.f2 a.f3 a.f4 b.f0 b.f1 b.f2 b.f3 b.f4 = some (cfL a b) := by
  unfold archivoltref31_Conflict.f cfL
  rw [validR_f, validR_f]
  cases vL a <;> cases vL b <;> simp
  unfold mtL
  repeat' split
  all_goals simp_all
  all_goals first | omega | (intros; omega) | skip
theorem validR_calls (a : S24) (w : World) : Calls Try.prog 32 #[.agg #[.int .i64 a.f0, .int .i64 a.f1, .int .i64 a.f2, .int .i64 a.f3, .bool a.f4]] w fun e w' => e = .returned (.bool (vL a)) ∧ Below w.heap.size w w' :=
  archivoltref31_Valid.calls _ _ _ _ _ _ w (validR_f a)
theorem conflictR_calls (a b : S24) (w : World) : Calls Try.prog 33 #[.agg #[.int .i64 a.f0, .int .i64 a.f1, .int .i64 a.f2, .int .i64 a.f3, .bool a.f4], .agg #[.int .i64 b.f0, .int .i64 b.f1, .int .i64 b.f2, .int .i64 b.f3, .bool b.f4]] w fun e w' => e = .returned (.bool (cfL a b)) ∧ Below w.heap.size w w' :=
  archivoltref31_Conflict.calls _ _ _ _ _ _ _ _ _ _ _ w (conflictR_f a b)
theorem wrap_succ' {j : Nat} (h : j ≤ 2000000) : wrap64 ((j : Int) + 1) = ((j + 1 : Nat) : Int) := by unfold wrap64; omega
theorem waitingR_loop {H W : List S24} {x : Int} (hl : W.length ≤ 1000) : ∀ (n k j : Nat), j + n = W.length → n < k → archivoltref31_waiting.l0 k x (j : Int) H W = some (match (W.drop j).findIdx? (fun y => hdL y == x) with | none => -1 | some i => ((j + i : Nat) : Int))
  | n, 0, j, _, hk => absurd hk (by omega)
  | 0, k + 1, j, hj, _ => by
    unfold archivoltref31_waiting.l0
    rw [if_neg (show ¬ (j : Int) < (W.length : Int) by omega), List.drop_of_length_le (by omega)]
    rfl
  | n + 1, k + 1, j, hj, hk => by
    have h0 : j < W.length := by omega
    unfold archivoltref31_waiting.l0
    rw [if_pos (show (j : Int) < (W.length : Int) by omega), if_pos (show 0 ≤ (j : Int) by omega), show W.drop j = W[j] :: W.drop (j + 1) from (List.getElem_cons_drop ..).symm, rd_at h0]
    by_cases hh : W[j].f1 = x
    · rw [if_pos hh, List.findIdx?_cons, if_pos (by simpa [hdL] using hh)]
      rfl
    · rw [if_neg hh, wrap_succ' (by omega), waitingR_loop hl n k (j + 1) (by omega) (by omega), List.findIdx?_cons, if_neg (by simpa [hdL] using hh)]
      cases (W.drop (j + 1)).findIdx? (fun y => hdL y == x) with
      | none => rfl
      | some i =>
        show some ((j + 1 + i : Nat) : Int) = some ((j + (i + 1) : Nat) : Int)
        rw [show j + 1 + i = j + (i + 1) by omega]
theorem waitingR_f {H W : List S24} {x : Int} (hl : W.length ≤ 1000) : archivoltref31_waiting.f 2000 H W x = some (waitN W x) := by
  unfold archivoltref31_waiting.f
  have := waitingR_loop (H := H) (x := x) hl W.length 2000 0 (by omega) (by omega)
  rw [show ((0 : Nat) : Int) = 0 from rfl, List.drop_zero] at this
  rw [this]
  unfold waitN firstAt
  cases W.findIdx? (fun y => hdL y == x) with
  | none => rfl
  | some i => simp
theorem waitingR_calls (A B : Option Addr) (c d : Nat) (H W : List S24) (x : Int) (w : World) (h1 : k24.C w A H.length H) (h2 : k24.C w B W.length W) (l1 : H.length ≤ c) (l2 : W.length ≤ d) (hl : W.length ≤ 1000) :
    Calls Try.prog 47 #[.agg #[.slice A H.length c, .slice B W.length d], .int .i64 x] w fun e w' => e = .returned (.int .i64 (waitN W x)) ∧ Below w.heap.size w w' :=
  archivoltref31_waiting.calls 2000 A c H B d W x _ w h1 l1 h2 l2 (waitingR_f hl)
theorem drop_at' {α : Type} {l : List α} {j : Nat} (h : j < l.length) : l.drop j = l[j] :: l.drop (j + 1) := (List.getElem_cons_drop ..).symm
theorem blockersR_l1 {H W : List S24} {a : Nat} (ha : a < W.length) (hl : W.length ≤ 1000) : ∀ (n k j : Nat) (out : List Int), j + n = a → n < k → out.length + n ≤ 3000 →
    archivoltref31_Blockers.l1 k (a : Int) out (j : Int) H W = some (out ++ (((W.take a).drop j).filter (fun x => cfL x (rd_T24 W (a : Int)))).map hdL)
  | n, 0, j, _, _, hk, _ => absurd hk (by omega)
  | 0, k + 1, j, out, hj, _, _ => by
    unfold archivoltref31_Blockers.l1
    rw [if_neg (show ¬ (j : Int) < (a : Int) by omega), List.drop_of_length_le (by simp; omega)]
    simp
  | n + 1, k + 1, j, out, hj, hk, ho => by
    have h0 : j < (W.take a).length := by simp; omega
    have h1 : j < W.length := by omega
    unfold archivoltref31_Blockers.l1
    rw [if_pos (show (j : Int) < (a : Int) by omega), if_pos (show 0 ≤ (j : Int) by omega), if_pos (show (j : Int) < (W.length : Int) by omega), if_pos (show 0 ≤ (a : Int) by omega), if_pos (show (a : Int) < (W.length : Int) by omega), conflictR_f, drop_at' h0]
    have e : (W.take a)[j] = rd_T24 W (j : Int) := by rw [rd_at h1]; simp
    rw [e]
    simp only [Option.bind_some]
    cases hc : cfL (rd_T24 W (j : Int)) (rd_T24 W (a : Int)) with
    | true =>
      rw [if_pos rfl, if_pos (by omega), wrap_succ' (by omega), blockersR_l1 ha hl n k (j + 1) _ (by omega) (by omega) (by simp; omega), List.filter_cons_of_pos (p := fun x => cfL x (rd_T24 W (a : Int))) hc]
      simp [hdL]
    | false =>
      rw [if_neg (by simp), wrap_succ' (by omega), blockersR_l1 ha hl n k (j + 1) _ (by omega) (by omega) (by omega), List.filter_cons_of_neg (p := fun x => cfL x (rd_T24 W (a : Int))) (by rw [hc]; simp)]
theorem blockersR_l0 {H W : List S24} {a : Nat} (ha : a < W.length) (hl : W.length ≤ 1000) (hh : H.length ≤ 1000) : ∀ (n k j : Nat) (out : List Int), j + n = H.length → n + W.length < k → out.length + n ≤ 1000 →
    archivoltref31_Blockers.l0 k (a : Int) out (j : Int) H W = some (out ++ (((H.drop j) ++ W.take a).filter (fun x => cfL x (rd_T24 W (a : Int)))).map hdL)
  | n, 0, j, _, _, hk, _ => absurd hk (by omega)
  | 0, k + 1, j, out, hj, hk, ho => by
    unfold archivoltref31_Blockers.l0
    rw [if_neg (show ¬ (j : Int) < (H.length : Int) by omega), List.drop_of_length_le (by omega)]
    have := blockersR_l1 (H := H) ha hl a k 0 out (by omega) (by omega) (by omega)
    rw [show ((0 : Nat) : Int) = 0 from rfl, List.drop_zero] at this
    first | exact this | (rw [this]; rfl)
  | n + 1, k + 1, j, out, hj, hk, ho => by
    have h0 : j < H.length := by omega
    unfold archivoltref31_Blockers.l0
    rw [if_pos (show (j : Int) < (H.length : Int) by omega), if_pos (show 0 ≤ (j : Int) by omega), if_pos (show 0 ≤ (a : Int) by omega), if_pos (show (a : Int) < (W.length : Int) by omega), conflictR_f, drop_at' h0]
    rw [show H[j] = rd_T24 H (j : Int) from (rd_at h0).symm]
    simp only [Option.bind_some, List.cons_append]
    cases hc : cfL (rd_T24 H (j : Int)) (rd_T24 W (a : Int)) with
    | true =>
      rw [if_pos rfl, if_pos (by omega), wrap_succ' (by omega), blockersR_l0 ha hl hh n k (j + 1) _ (by omega) (by omega) (by simp; omega), List.filter_cons_of_pos (p := fun x => cfL x (rd_T24 W (a : Int))) hc]
      simp [hdL]
    | false =>
      rw [if_neg (by simp), wrap_succ' (by omega), blockersR_l0 ha hl hh n k (j + 1) _ (by omega) (by omega) (by omega), List.filter_cons_of_neg (p := fun x => cfL x (rd_T24 W (a : Int))) (by rw [hc]; simp)]
theorem blks_atR {mt : S24 → S24 → Bool} {H W : List S24} {a : Nat} (ha : a < W.length) : PL.blks mt H W a = (H ++ W.take a).filter (fun x => mt x (rd_T24 W (a : Int))) := by
  unfold PL.blks
  rw [List.getElem?_eq_getElem ha, rd_at ha]
theorem blockersR_f {H W : List S24} {a : Nat} (ha : a < W.length) (hl : W.length ≤ 1000) (hh : H.length ≤ 1000) : archivoltref31_Blockers.f 4000 H W (a : Int) = some ((PL.blks cfL H W a).map hdL) := by
  unfold archivoltref31_Blockers.f
  have := blockersR_l0 ha hl hh H.length 4000 0 [] (by omega) (by omega) (by simp; omega)
  rw [show ((0 : Nat) : Int) = 0 from rfl, List.drop_zero, List.nil_append, ← blks_atR ha] at this
  exact this
theorem blockersR_calls (A B : Option Addr) (c d : Nat) (H W : List S24) (a : Nat) (w : World) (h1 : k24.C w A H.length H) (h2 : k24.C w B W.length W) (l1 : H.length ≤ c) (l2 : W.length ≤ d) (hh : H.length ≤ 1000) (hl : W.length ≤ 1000) (ha : a < W.length) :
    Calls Try.prog 52 #[.agg #[.slice A H.length c, .slice B W.length d], .int .i64 (a : Int)] w fun e w' => ∃ v : Value, e = .returned v ∧ kI.R 3 w' w.heap.size (fun _ => True) v ((PL.blks cfL H W a).map hdL) ∧ Below w.heap.size w w' :=
  archivoltref31_Blockers.calls 4000 A c H B d W a _ w h1 l1 h2 l2 (blockersR_f ha hl hh)
end Go.Proofs.Ytifnfnoicinbaaa.M
