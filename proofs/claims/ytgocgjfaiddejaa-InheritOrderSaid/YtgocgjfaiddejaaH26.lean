/- The examples of the document: sane. -/
import Derived.Test.YtgocgjfaiddejaaH25
import Derived.Test.YtgocgjfaiddejaaFA
namespace Go.Proofs.Ytgocgjfaiddejaa.M
open Go.RowKit Go.Proofs.YtgocgjfaiddejaaW.PrintWords Go.Proofs.YtgocgjfaiddejaaW.PrintLast Go.Proofs.YtgocgjfaiddejaaW.PrintMore
set_option linter.unusedVariables false
set_option linter.unusedSimpArgs false
set_option linter.unnecessarySimpa false
attribute [local go_sem high] eqA37

def parentL : List S37 := [(⟨true, 5, 1, 1⟩ : S37), (⟨false, 6, 2, 3⟩ : S37), (⟨true, 7, 8, 10⟩ : S37), (⟨true, 8, 32, 0⟩ : S37)]
def saneL : List S35 := [⟨-1, true, ⟨3, false, parentL⟩⟩, ⟨0, true, ⟨4, false, []⟩⟩, ⟨1, false, ⟨5, false, []⟩⟩]
def giveA : List S37 := [⟨true, 5, 1, 16⟩, ⟨false, 6, 2, 16⟩]
def giveB : List S37 := [⟨true, 5, 1, 21⟩, ⟨false, 6, 2, 19⟩, ⟨true, 7, 8, 16⟩]
def saneO : List S35 := [⟨-1, true, ⟨3, false, parentL⟩⟩, ⟨0, true, ⟨4, false, giveB⟩⟩, ⟨1, false, ⟨5, false, giveA⟩⟩]
theorem sane_v : vDesc 3 parentL = true := by kernel_rfl
theorem sane_a : sGiven 3 parentL false = giveA := by kernel_rfl
theorem sane_b : sGiven 3 parentL true = giveB := by kernel_rfl
theorem sane_spread : sSpread saneL = (saneO, 0) := by kernel_rfl
theorem sane_source : sSource saneO 2 1 = (0, 1, 0) := by kernel_rfl
theorem sane_agrees : sAgrees saneO = (-1, 0) := by kernel_rfl
theorem parent_calls (w : World) : Calls Try.prog 48 #[] w fun e w' => ∃ A c, e = .returned (.agg #[.int .i64 3, .bool false, .slice A 4 c]) ∧ 4 ≤ c ∧ k37.C w' A 4 parentL ∧ Below w.heap.size w w' := by
  refine (archivoltlaw23_parent.calls 3 false parentL w rfl).mono ?_
  rintro e w' ⟨v, rfl, hr, hb⟩
  obtain ⟨A, c, rfl⟩ := Kd.R_slice hr
  exact ⟨A, c, rfl, (Kd.R_reads' hr).2.1, (Kd.R_reads' hr).2.2, hb⟩
/-- Three objects, as the list that is made of them. -/
theorem C35_three {w : World} {g : Nat} {x y z : S35} {A B D : Option Addr} {a b d : Nat} (hb : w.heap[g]? = some (.cells #[.int .i64 x.f0, .bool x.f1, .int .i64 x.f2.f0, .bool x.f2.f1, .slice A x.f2.f2.length a, .int .i64 y.f0, .bool y.f1, .int .i64 y.f2.f0, .bool y.f2.f1, .slice B y.f2.f2.length b, .int .i64 z.f0, .bool z.f1, .int .i64 z.f2.f0, .bool z.f2.f1, .slice D z.f2.f2.length d] 35 (0, 0)))
    (ha : x.f2.f2.length ≤ a) (hA : k37.C w A x.f2.f2.length x.f2.f2) (hb' : y.f2.f2.length ≤ b) (hB : k37.C w B y.f2.f2.length y.f2.f2) (hd : z.f2.f2.length ≤ d) (hD : k37.C w D z.f2.f2.length z.f2.f2) : k35.C w (some ⟨g, 0, none⟩) [x, y, z].length [x, y, z] := by
  refine ⟨rfl, by simp, fun _ => ⟨_, rfl, fun j p hj => ?_⟩⟩
  have e5 : k35.sz = 5 := rfl
  rcases j with _ | _ | _ | j
  · obtain rfl : x = p := by simpa using hj
    refine ⟨_, rfl, k35_mk w x ha hA, fun i u hu => ?_⟩
    rw [add_plain, blk_cell hb, e5, ← Array.getElem?_toList]
    rcases i with _ | _ | _ | _ | _ | i <;> first | exact hu | simp at hu
  · obtain rfl : y = p := by simpa using hj
    refine ⟨_, rfl, k35_mk w y hb' hB, fun i u hu => ?_⟩
    rw [add_plain, blk_cell hb, e5, ← Array.getElem?_toList]
    rcases i with _ | _ | _ | _ | _ | i <;> first | exact hu | simp at hu
  · obtain rfl : z = p := by simpa using hj
    refine ⟨_, rfl, k35_mk w z hd hD, fun i u hu => ?_⟩
    rw [add_plain, blk_cell hb, e5, ← Array.getElem?_toList]
    rcases i with _ | _ | _ | _ | _ | i <;> first | exact hu | simp at hu
  · simp at hj
theorem far_at (a : Addr) (i j : Nat) (w : World) (h : i ≠ 0 := by decide) : w.cell? ⟨a.block, a.off + i + j, none⟩ = w.cell? ⟨(a.add i).block, (a.add i).off + j, none⟩ := by
  simp [Addr.add, h]
theorem far_at0 (a : Addr) (i : Nat) (w : World) (h : i ≠ 0 := by decide) : w.cell? ⟨a.block, a.off + i, none⟩ = w.cell? (a.add i) := by
  simp [Addr.add, h]
set_option maxRecDepth 100000 in
set_option maxHeartbeats 2000000 in
theorem sane_calls (w : World) : Calls Try.prog 15 #[] w fun e w' => e = .returned (.bool true) ∧ Below w.heap.size w w' := by
  go_enter Try.func15, Try.ntmps15
  go_upto_region 2 with (first | ((with_reducible refine gate_dst (N := 14) rfl ?_); refine goesL_ (some 14) rfl rfl Try.func48 (by kernel_rfl) rfl #[] rfl (by (try simp only [List.map_toArray, List.map_cons, List.map_nil]); first | done | rfl) ?_; refine (parent_calls _).mono ?_; rintro e w1 ⟨A, c, rfl, hc, hC, hb⟩; refine ⟨_, rfl, ?_⟩; have HC := Aside0.mk hc; have HR := Aside0.mk hC; have HB1 := Aside0.mk hb; clear hc hC hb) | ((with_reducible refine gate_dst (N := 15) rfl ?_); refine goesL_ (some 15) rfl rfl Try.func22 (by kernel_rfl) rfl #[.agg #[.int .i64 3, .bool false, .slice A 4 c], .bool false] rfl (by (try simp only [List.map_toArray, List.map_cons, List.map_nil]); first | done | rfl) ?_; refine (Given_calls 3 false A c parentL false _ HR.out HC.out).mono ?_; rintro e w2 ⟨v, rfl, hra, hb⟩; refine ⟨_, rfl, ?_⟩; rw [sane_v]; rw [sane_a] at hra; obtain ⟨Aa, ca, rfl⟩ := Kd.R_slice hra; have HA := Aside0.mk (Kd.R_reads' hra).2.2; have HB2 := Aside0.mk (below_step HB1.out hb); clear hra hb HB1 HC HR))
  go_upto_region 3 with (first | ((with_reducible refine gate_dst (N := 19) rfl ?_); refine goesL_ (some 19) rfl rfl Try.func48 (by kernel_rfl) rfl #[] rfl (by (try simp only [List.map_toArray, List.map_cons, List.map_nil]); first | done | rfl) ?_; refine (parent_calls _).mono ?_; rintro e w1 ⟨A, c, rfl, hc, hC, hb⟩; refine ⟨_, rfl, ?_⟩; have HC := Aside0.mk hc; have HR := Aside0.mk hC; have HB3 := Aside0.mk (below_step HB2.out hb); have HA3 := Aside0.mk (Kd.C_below HA.out hb); clear hc hC hb HB2 HA) | ((with_reducible refine gate_dst (N := 20) rfl ?_); refine goesL_ (some 20) rfl rfl Try.func22 (by kernel_rfl) rfl #[.agg #[.int .i64 3, .bool false, .slice A 4 c], .bool true] rfl (by (try simp only [List.map_toArray, List.map_cons, List.map_nil]); first | done | rfl) ?_; refine (Given_calls 3 false A c parentL true _ HR.out HC.out).mono ?_; rintro e w2 ⟨v, rfl, hra, hb⟩; refine ⟨_, rfl, ?_⟩; rw [sane_v]; rw [sane_b] at hra; obtain ⟨Ab, cb, rfl⟩ := Kd.R_slice hra; have HBB := Aside0.mk (Kd.R_reads' hra).2.2; have HB4 := Aside0.mk (below_step HB3.out hb); have HA4 := Aside0.mk (Kd.C_below HA3.out hb); clear hra hb HB3 HA3 HC HR))
  go_upto_region 4 with (first | ((with_reducible refine gate_dst (N := 24) rfl ?_); refine goesL_ (some 24) rfl rfl Try.func48 (by kernel_rfl) rfl #[] rfl (by (try simp only [List.map_toArray, List.map_cons, List.map_nil]); first | done | rfl) ?_; refine (parent_calls _).mono ?_; rintro e w1 ⟨A, c, rfl, hc, hC, hb⟩; refine ⟨_, rfl, ?_⟩; have HC := Aside0.mk hc; have HR := Aside0.mk hC; have HB5 := Aside0.mk (below_step HB4.out hb); have HA5 := Aside0.mk (Kd.C_below HA4.out hb); have HBB5 := Aside0.mk (Kd.C_below HBB.out hb); clear hc hC hb HB4 HA4 HBB) | ((with_reducible refine gate_dst (N := 31) rfl ?_); refine goesL_ (some 31) rfl rfl Try.func19 (by kernel_rfl) rfl #[.slice (some ⟨w1.heap.size, 0, none⟩) 3 3] rfl (by (try simp only [List.map_toArray, List.map_cons, List.map_nil]); first | done | rfl) ?_; refine (Spread_calls (some ⟨w1.heap.size, 0, none⟩) 3 saneL _ (C35_three (x := ⟨-1, true, ⟨3, false, parentL⟩⟩) (y := ⟨0, true, ⟨4, false, []⟩⟩) (z := ⟨1, false, ⟨5, false, []⟩⟩) (blk_new _ _) HC.out (Kd.C_alloc HR.out _) (Nat.le_refl _) (Kd.C_nil _ _) (Nat.le_refl _) (Kd.C_nil _ _))).mono ?_; rw [sane_spread]; rintro e w2 ⟨v, rfl, hra, hb⟩; refine ⟨_, rfl, ?_⟩; obtain ⟨Ac, cc, rfl⟩ := Kd.R_slice hra; have HO := Aside0.mk (Kd.R_reads' hra).2.2; have HB6 := Aside0.mk (below_step (below_alloc HB5.out _) hb); have HA6 := Aside0.mk (Kd.C_below (Kd.C_alloc HA5.out _) hb); have HBB6 := Aside0.mk (Kd.C_below (Kd.C_alloc HBB5.out _) hb); clear hra hb HB5 HA5 HBB5 HC HR))
  obtain ⟨ad, Ao, co, rfl, _, _, _, _, o4, _, _⟩ := at_T35 HO.out 2 (by decide) (by decide)
  have o4' : w2.cell? ⟨ad.block, ad.off + 10 + 2 + 2, none⟩ = some (.slice Ao 2 co) := (far_at ad 10 4 w2).trans o4
  have la : giveA.length = 2 := rfl
  have lb : giveB.length = 3 := rfl
  have lo : saneO.length = 3 := rfl
  clear o4
  go_upto_region 6 with (fail)
  go_upto_region 8 with (first | ((with_reducible refine gate_dst (N := 70) rfl ?_); refine goesL_ (some 70) rfl rfl Try.func16 (by kernel_rfl) rfl #[.slice (some ad) 3 cc, .int .i64 2, .int .i64 1] rfl (by (try simp only [List.map_toArray, List.map_cons, List.map_nil]); first | done | rfl) ?_; refine (Source_calls (some ad) cc saneO 2 1 _ HO.out).mono ?_; rw [sane_source]; rintro e w3 ⟨rfl, hb⟩; refine ⟨_, rfl, ?_⟩; have HO7 := Aside0.mk (Kd.C_below HO.out hb); have HB7 := Aside0.mk (below_step HB6.out hb); have HA7 := Aside0.mk (Kd.C_below HA6.out hb); have HBB7 := Aside0.mk (Kd.C_below HBB6.out hb); clear hb HO HB6 HA6 HBB6 o4') | ((with_reducible refine gate_dst (N := 76) rfl ?_); refine goesL_ (some 76) rfl rfl Try.func30 (by kernel_rfl) rfl #[.slice (some ad) 3 cc] rfl (by (try simp only [List.map_toArray, List.map_cons, List.map_nil]); first | done | rfl) ?_; refine (Agrees_calls (some ad) cc saneO _ HO7.out).mono ?_; rw [sane_agrees]; rintro e w4 ⟨rfl, hb⟩; refine ⟨_, rfl, ?_⟩; have HB8 := Aside0.mk (below_step HB7.out hb); have HA8 := Aside0.mk (Kd.C_below HA7.out hb); have HBB8 := Aside0.mk (Kd.C_below HBB7.out hb); clear hb HO7 HB7 HA7 HBB7))
  obtain ⟨aa, rfl, a0, a1, a2, a3⟩ := at_T37 HA8.out 1 (by decide) (by decide)
  obtain ⟨ab, hab, _, _, _, b3⟩ := at_T37 HBB8.out 0 (by decide) (by decide)
  obtain ⟨ab', hab', _, _, _, c3⟩ := at_T37 HBB8.out 2 (by decide) (by decide)
  rw [hab] at hab'
  cases hab'
  subst hab
  have a0' : w4.cell? ⟨aa.block, aa.off + 4, none⟩ = some (.bool false) := (far_at0 aa 4 w4).trans a0
  have a1' : w4.cell? ⟨aa.block, aa.off + 4 + 1, none⟩ = some (.int .i64 6) := (far_at aa 4 1 w4).trans a1
  have a2' : w4.cell? ⟨aa.block, aa.off + 4 + 2, none⟩ = some (.int .i64 2) := (far_at aa 4 2 w4).trans a2
  have a3' : w4.cell? ⟨aa.block, aa.off + 4 + 3, none⟩ = some (.int .i64 16) := (far_at aa 4 3 w4).trans a3
  have b3' : w4.cell? ⟨ab.block, ab.off + 3, none⟩ = some (.int .i64 21) := by have := b3; simp only [Int.toNat_zero, Nat.zero_mul, addr0] at this; exact this
  have c3' : w4.cell? ⟨ab.block, ab.off + 8 + 3, none⟩ = some (.int .i64 16) := (far_at ab 8 3 w4).trans c3
  clear a0 a1 a2 a3 b3 c3
  go_wp2
  go_ret
  exact ⟨rfl, HB8.out⟩
end Go.Proofs.Ytgocgjfaiddejaa.M
