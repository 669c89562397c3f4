/- inherit.valid; a list of descriptors made for a call. -/
import Derived.Test.YtgocgjfaiddejaaH2
import Derived.Test.YtgocgjfaiddejaaS
import Derived.Test.YtgocgjfaiddejaaFA
namespace Go.Proofs.Ytgocgjfaiddejaa.M
open Go.RowKit Go.Proofs.YtgocgjfaiddejaaW.PrintWords Go.Proofs.YtgocgjfaiddejaaW.PrintLast Go.Proofs.YtgocgjfaiddejaaW.PrintMore
set_option linter.unusedVariables false
set_option linter.unusedSimpArgs false

theorem entry_f (x : S37) : acl_Check_L1.f x.f0 x.f1 x.f2 x.f3 = some (!(vAce x)) := by
  unfold acl_Check_L1.f acl_entry.f vAce
  by_cases h1 : x.f1 ≥ 1
  · by_cases h2 : x.f1 ≤ 1048576
    · by_cases h3 : x.f2 ≥ 1
      · by_cases h4 : x.f2 ≤ 1023
        · by_cases h5 : x.f3 ≥ 0
          · simp [h1, h2, h3, h4, h5]
          · simp [h1, h2, h3, h4, h5]
        · simp [h1, h2, h3, h4]
      · simp [h1, h2, h3]
    · simp [h1, h2]
  · simp [h1]
theorem looks_bad (W : World) : Looks 98 #[] (fun x => !(vAce x)) W where
  enters := enters_ Try.func98 (by kernel_rfl) rfl
  calls := fun x w _ => acl_Check_L1.calls x.f0 x.f1 x.f2 x.f3 _ w (entry_f x)
theorem someone_f (o : Int) : acl_someone.f o = some (decide (3 ≤ o ∧ o ≤ 1048576)) := by
  unfold acl_someone.f
  by_cases h : o > 2
  · rw [if_pos h]; simp; omega
  · rw [if_neg h]; simp; omega

def errOf (b : Bool) : Int := if b then 0 else 1
set_option maxRecDepth 100000 in
set_option maxHeartbeats 2000000 in
theorem check_calls (o : Int) (b : Bool) (A : Option Addr) (c : Nat) (l : List S37) (w : World) (hr : Kd.C k37 w A l.length l) (hm : l.length ≤ 9223372036854775807) :
    Calls Try.prog 79 #[.agg #[.int .i64 o, .bool b, .slice A l.length c]] w fun e w' => e = .returned (.int .i64 (errOf (vDesc o l))) ∧ Below w.heap.size w w' := by
  have HR := Aside0.mk hr
  clear hr
  by_cases h1 : 3 ≤ o ∧ o ≤ 1048576
  · have HD := Aside0.mk (decide_eq_true h1)
    by_cases h2 : 16 < l.length
    · have g2 : decide (16 < l.length) = true := by simpa using h2
      have HE := Aside0.mk (show errOf (vDesc o l) = 1 by simp [errOf, vDesc, h1.1, h1.2, show ¬ l.length ≤ 16 by omega])
      go_enter Try.func79, Try.ntmps79
      go_wp2_with ((with_reducible refine gate_dst (N := 5) rfl ?_); refine goesL_ (some 5) rfl rfl Try.func96 (by kernel_rfl) rfl #[.int .i64 o] rfl (by (try simp only [List.map_toArray, List.map_cons, List.map_nil]); first | done | rfl) ?_; refine (acl_someone.calls o _ _ (someone_f o)).mono ?_; rintro e w' ⟨rfl, ⟨nd, rfl⟩⟩; refine ⟨_, rfl, ?_⟩; rw [HD.out])
      go_ret
      exact ⟨by rw [HE.out]; rfl, pw_below_drewN (below_alloc (Below.refl _ w) _) _⟩
    · have g2 : decide (16 < l.length) = false := by simpa using h2
      by_cases h3 : (l.any fun x => !(vAce x)) = true
      · have HV := Aside0.mk h3
        have HE := Aside0.mk (show errOf (vDesc o l) = 1 by
          have : l.all vAce = false := by
            obtain ⟨x, hx, h⟩ := List.any_eq_true.1 h3
            rw [Bool.eq_false_iff]; intro h4; simp [List.all_eq_true.1 h4 x hx] at h
          simp [errOf, vDesc, this])
        clear h3
        go_enter Try.func79, Try.ntmps79
        go_wp2_with (first | ((with_reducible refine gate_dst (N := 5) rfl ?_); refine goesL_ (some 5) rfl rfl Try.func96 (by kernel_rfl) rfl #[.int .i64 o] rfl (by (try simp only [List.map_toArray, List.map_cons, List.map_nil]); first | done | rfl) ?_; refine (acl_someone.calls o _ _ (someone_f o)).mono ?_; rintro e w' ⟨rfl, ⟨nd, rfl⟩⟩; refine ⟨_, rfl, ?_⟩; rw [HD.out]) | (go_at_call 97; refine (contains_calls 98 #[] (fun x => !(vAce x)) A c l _ (looks_bad _) (Kd.C_drewN (Kd.C_alloc HR.out _) _) hm).mono ?_; rintro e w' ⟨rfl, hb⟩; have HB := Aside0.mk (below_step (pw_below_drewN (below_alloc (Below.refl _ w) _) _) hb); clear hb; rw [HV.out]))
        go_ret
        exact ⟨by rw [HE.out]; rfl, HB.out⟩
      · have h3' : (l.any fun x => !(vAce x)) = false := by simpa using h3
        have HV := Aside0.mk h3'
        have HE := Aside0.mk (show errOf (vDesc o l) = 0 by
          have : l.all vAce = true := by
            rw [List.all_eq_true]; intro x hx
            have := List.any_eq_false.1 h3' x hx; simpa using this
          simp [errOf, vDesc, this, h1.1, h1.2, show l.length ≤ 16 by omega])
        clear h3 h3'
        go_enter Try.func79, Try.ntmps79
        go_wp2_with (first | ((with_reducible refine gate_dst (N := 5) rfl ?_); refine goesL_ (some 5) rfl rfl Try.func96 (by kernel_rfl) rfl #[.int .i64 o] rfl (by (try simp only [List.map_toArray, List.map_cons, List.map_nil]); first | done | rfl) ?_; refine (acl_someone.calls o _ _ (someone_f o)).mono ?_; rintro e w' ⟨rfl, ⟨nd, rfl⟩⟩; refine ⟨_, rfl, ?_⟩; rw [HD.out]) | (go_at_call 97; refine (contains_calls 98 #[] (fun x => !(vAce x)) A c l _ (looks_bad _) (Kd.C_drewN (Kd.C_alloc HR.out _) _) hm).mono ?_; rintro e w' ⟨rfl, hb⟩; have HB := Aside0.mk (below_step (pw_below_drewN (below_alloc (Below.refl _ w) _) _) hb); clear hb; rw [HV.out]))
        go_ret
        exact ⟨by rw [HE.out]; rfl, HB.out⟩
  · have HD := Aside0.mk (decide_eq_false h1)
    have HE := Aside0.mk (show errOf (vDesc o l) = 1 by
      have : (decide (3 ≤ o) && decide (o ≤ 1048576)) = false := by
        rw [← Bool.decide_and]; simpa using h1
      simp [errOf, vDesc, this])
    go_enter Try.func79, Try.ntmps79
    go_wp2_with ((with_reducible refine gate_dst (N := 5) rfl ?_); refine goesL_ (some 5) rfl rfl Try.func96 (by kernel_rfl) rfl #[.int .i64 o] rfl (by (try simp only [List.map_toArray, List.map_cons, List.map_nil]); first | done | rfl) ?_; refine (acl_someone.calls o _ _ (someone_f o)).mono ?_; rintro e w' ⟨rfl, ⟨nd, rfl⟩⟩; refine ⟨_, rfl, ?_⟩; rw [HD.out])
    go_ret
    exact ⟨by rw [HE.out]; rfl, pw_below_drewN (below_alloc (Below.refl _ w) _) _⟩
end Go.Proofs.Ytgocgjfaiddejaa.M
namespace Go.Proofs.Ytgocgjfaiddejaa.M
open Go.RowKit Go.Proofs.YtgocgjfaiddejaaW.PrintWords Go.Proofs.YtgocgjfaiddejaaW.PrintLast Go.Proofs.YtgocgjfaiddejaaW.PrintMore
set_option linter.unusedVariables false
set_option linter.unusedSimpArgs false

theorem rd33_at {l : List S33} {j : Nat} (h : j < l.length) : rd_T33 l (j : Int) = l[j] := by simp [rd_T33, h]
set_option maxRecDepth 100000 in
set_option maxHeartbeats 2000000 in
theorem valid_calls (A : Option Addr) (c : Nat) (l : List S33) (w : World) (hr : Kd.C k33 w A l.length l) :
    Calls Try.prog 58 #[.slice A l.length c] w fun e w' => e = .returned (.bool (l.all vD)) ∧ Below w.heap.size w w' := by
  have hm := hr.2.1
  have HR := Aside0.mk hr
  clear hr
  go_enter Try.func58, Try.ntmps58
  go_wp2
  go_loopg [7] l.length (fun kq v7 w' => ∃ j : Nat, v7 = .int .i64 j ∧ Aside0 (kq + j = l.length) ∧ Aside0 (∀ i (h : i < l.length), i < j → vD l[i] = true) ∧ Aside0 (Below w.heap.size w w'))
  case atStart => exact ⟨0, rfl, ⟨rfl⟩, ⟨fun i h h0 => absurd h0 (by omega)⟩, ⟨Below.refl _ _⟩⟩
  case round =>
    obtain ⟨j, rfl, HK, HP, HB⟩ := hrel
    by_cases hlt : j < l.length
    · have h1 : decide (j < l.length) = true := by simpa using hlt
      obtain ⟨ad, A2, c2, rfl, x0, x1, x2, hl2, hr2⟩ := at_T33 HR.out (j : Int) (by omega) (by omega)
      simp only [Int.toNat_natCast] at x0 x1 x2
      have HR2 := Aside0.mk (Kd.C_below hr2 HB.out)
      have HM2 := Aside0.mk hr2.2.1
      clear hl2 hr2
      replace x0 := (HB.out.cell (World.block_lt_of_cell? w _ x0)).trans x0; replace x1 := (HB.out.cell (World.block_lt_of_cell? w _ x1)).trans x1; replace x2 := (HB.out.cell (World.block_lt_of_cell? w _ x2)).trans x2
      by_cases hp : vD (rd_T33 l j) = true
      · have HV := Aside0.mk (show errOf (vDesc (rd_T33 l j).f0 (rd_T33 l j).f2) = 0 by rw [show vDesc (rd_T33 l j).f0 (rd_T33 l j).f2 = true from hp]; rfl)
        go_wp2_with ((with_reducible refine gate_dst (N := 12) rfl ?_); refine goesL_ (some 12) rfl rfl Try.func79 (by kernel_rfl) rfl #[.agg #[.int .i64 (rd_T33 l j).f0, .bool (rd_T33 l j).f1, .slice A2 (rd_T33 l j).f2.length c2]] rfl (by (try simp only [List.map_toArray, List.map_cons, List.map_nil]); first | done | rfl) ?_; refine (check_calls _ _ A2 c2 (rd_T33 l j).f2 _ (Kd.C_alloc HR2.out _) HM2.out).mono ?_; rintro e w' ⟨rfl, hb⟩; refine ⟨_, rfl, ?_⟩; have HB2 := Aside0.mk (below_step (below_alloc HB.out _) hb); clear hb; rw [HV.out])
        go_roundg (l.length - (j + 1))
        case measure => have := HK.out; omega
        case rel =>
          exact ⟨j + 1, by go_num, ⟨by omega⟩, ⟨fun i h hi => by
            rcases Nat.lt_or_ge i j with h2 | h2
            · exact HP.out i h h2
            · obtain rfl : i = j := by omega
              rw [← rd33_at h]; exact hp⟩, HB2⟩
      · replace hp : vD (rd_T33 l j) = false := by simpa using hp
        have HV := Aside0.mk (show errOf (vDesc (rd_T33 l j).f0 (rd_T33 l j).f2) = 1 by rw [show vDesc (rd_T33 l j).f0 (rd_T33 l j).f2 = false from hp]; rfl)
        have HE := Aside0.mk (show l.all vD = false by
          rw [Bool.eq_false_iff]; intro h4
          have := List.all_eq_true.1 h4 _ (List.getElem_mem hlt)
          rw [← rd33_at hlt, hp] at this; cases this)
        go_wp2_with ((with_reducible refine gate_dst (N := 12) rfl ?_); refine goesL_ (some 12) rfl rfl Try.func79 (by kernel_rfl) rfl #[.agg #[.int .i64 (rd_T33 l j).f0, .bool (rd_T33 l j).f1, .slice A2 (rd_T33 l j).f2.length c2]] rfl (by (try simp only [List.map_toArray, List.map_cons, List.map_nil]); first | done | rfl) ?_; refine (check_calls _ _ A2 c2 (rd_T33 l j).f2 _ (Kd.C_alloc HR2.out _) HM2.out).mono ?_; rintro e w' ⟨rfl, hb⟩; refine ⟨_, rfl, ?_⟩; have HB2 := Aside0.mk (below_step (below_alloc HB.out _) hb); clear hb; rw [HV.out])
        go_ret
        exact ⟨by rw [HE.out]; rfl, HB2.out⟩
    · have h1 : decide (j < l.length) = false := by simpa using hlt
      have HE := Aside0.mk (show l.all vD = true by
        rw [List.all_eq_true]; intro x hx
        obtain ⟨i, h, rfl⟩ := List.mem_iff_getElem.1 hx
        exact HP.out i h (by omega))
      go_wp2
      go_ret
      exact ⟨by rw [HE.out]; rfl, HB.out⟩

/-- One descriptor, as the list that is made of it for a call. -/
theorem C33_one {w : World} {g : Nat} {x : S33} {A : Option Addr} {c : Nat} (hb : w.heap[g]? = some (.cells #[.int .i64 x.f0, .bool x.f1, .slice A x.f2.length c] 33 (0, 0))) (hc : x.f2.length ≤ c) (hr : k37.C w A x.f2.length x.f2) :
    k33.C w (some ⟨g, 0, none⟩) [x].length [x] := by
  refine ⟨rfl, by simp, fun _ => ⟨_, rfl, fun j p hj => ?_⟩⟩
  rcases j with _ | j
  · obtain rfl : x = p := by simpa using hj
    refine ⟨_, rfl, k33_mk w x hc hr, fun i u hu => ?_⟩
    rw [add_plain, blk_cell hb, Nat.zero_mul, Nat.zero_add, ← Array.getElem?_toList]
    exact hu
  · simp at hj
theorem C33_two {w : World} {g : Nat} {x y : S33} {A B : Option Addr} {c d : Nat} (hb : w.heap[g]? = some (.cells #[.int .i64 x.f0, .bool x.f1, .slice A x.f2.length c, .int .i64 y.f0, .bool y.f1, .slice B y.f2.length d] 33 (0, 0))) (hc : x.f2.length ≤ c) (hr : k37.C w A x.f2.length x.f2) (hd : y.f2.length ≤ d) (hs : k37.C w B y.f2.length y.f2) :
    k33.C w (some ⟨g, 0, none⟩) [x, y].length [x, y] := by
  refine ⟨rfl, by simp, fun _ => ⟨_, rfl, fun j p hj => ?_⟩⟩
  rcases j with _ | _ | j
  · obtain rfl : x = p := by simpa using hj
    refine ⟨_, rfl, k33_mk w x hc hr, fun i u hu => ?_⟩
    rw [add_plain, blk_cell hb, Nat.zero_mul, Nat.zero_add, ← Array.getElem?_toList]
    rcases i with _ | _ | _ | i <;> first | exact hu | simp at hu
  · obtain rfl : y = p := by simpa using hj
    refine ⟨_, rfl, k33_mk w y hd hs, fun i u hu => ?_⟩
    rw [add_plain, blk_cell hb, ← Array.getElem?_toList]
    rcases i with _ | _ | _ | i <;> first | exact hu | simp at hu
  · simp at hj
end Go.Proofs.Ytgocgjfaiddejaa.M
