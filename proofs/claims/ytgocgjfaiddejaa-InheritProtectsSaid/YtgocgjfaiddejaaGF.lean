/- acl.rights yields the ten rights; acl.granted. -/
import Derived.Test.YtgocgjfaiddejaaGE
import Derived.Test.YtgocgjfaiddejaaH9
namespace Go.Proofs.Ytgocgjfaiddejaa.M
open Go.RowKit Go.Proofs.YtgocgjfaiddejaaW.PrintWords Go.Proofs.YtgocgjfaiddejaaW.PrintLast Go.Proofs.YtgocgjfaiddejaaW.PrintMore
set_option linter.unusedVariables false
set_option linter.unusedSimpArgs false
set_option linter.unnecessarySimpa false

/-- What a round leaves alone: the iterator's mask. -/
def KeptAt (gm : Nat) (W W' : World) : Prop := ∀ cs : Array Value, W.heap[gm]? = some (.cells cs 3 (0, 0)) → W'.heap[gm]? = some (.cells cs 3 (0, 0))
def pw (j : Nat) : Int := [1, 2, 4, 8, 16, 32, 64, 128, 256, 512, 1024].getD j 0
theorem pw_le : ∀ j, j < 10 → decide (pw j ≤ 1023) = true := by decide
theorem pw_ge : decide (pw 10 ≤ 1023) = false := by decide
theorem pw_bit : ∀ j, j < 10 → ((Go.bits .and .i64 1023 (pw j)) != 0) = true := by decide +kernel
theorem pw_dbl0 : ∀ j, j < 10 → pw j * 2 = pw (j + 1) ∧ 0 ≤ pw (j + 1) ∧ pw (j + 1) ≤ 1024 := by decide
theorem pw_dbl (j : Nat) (h : j < 10) : wrap64 (pw j * 2) = pw (j + 1) := by
  obtain ⟨h1, h2, h3⟩ := pw_dbl0 j h
  rw [h1]; exact w64_in (by omega) (by omega)
theorem pw_take : ∀ j, j < 10 → bits10.take (j + 1) = bits10.take j ++ [pw j] := by decide
theorem pw_pre (j : Nat) (h : j < 10) : bits10.take j ++ [pw j] <+: bits10 := by
  rw [← pw_take j h]; exact List.take_prefix _ _
set_option maxRecDepth 100000 in
set_option maxHeartbeats 2000000 in
theorem rights_gives (gm : Nat) (w : World) (hgm : w.heap[gm]? = some (.cells #[.int .i64 1023] 3 (0, 0))) :
    IterGives Try.prog 100 #[.pointer (some ⟨gm, 0, none⟩)] (fun x : Int => #[.int .i64 x]) bits10 (KeptAt gm) w := by
  intro ly J Jx W hW hJ hJx hY h0
  have HM := Aside0.mk (blk_below hgm hW)
  have HJ0 := Aside0.mk h0
  have HY := Aside0.mk hY
  clear hgm hW hJ hJx hY h0
  show Calls Try.prog 100 #[.func (.yield ly) #[] #[], .pointer (some ⟨gm, 0, none⟩)] W _
  go_enter Try.func100, Try.ntmps100
  go_wp2
  go_loopg [3] 10 (fun kq v3 w' => ∃ j : Nat, v3 = .int .i64 (pw j) ∧ Aside0 (kq + j = 10) ∧ Aside0 (J (bits10.take j) w') ∧ Aside0 (w'.heap[gm]? = some (.cells #[.int .i64 1023] 3 (0, 0))))
  case atStart => exact ⟨0, rfl, ⟨rfl⟩, HJ0, HM⟩
  case round =>
    obtain ⟨j, rfl, HK, HJS, HMW⟩ := hrel
    by_cases hlt : j < 10
    · have h1 := pw_le j hlt
      have h2 := pw_bit j hlt
      have HPRE := Aside0.mk (pw_pre j hlt)
      have hm := HMW.out
      have m0 := (blk_cell hm 0).trans rfl
      obtain ⟨fn, tmps, assign, body, hy, hR⟩ := HY.out (bits10.take j) (pw j) wr HJS.out (pw_pre j hlt)
      clear hm
      refine (wpIn_wide (n := 0)).1 ?_
      gi_wp2
      refine ⟨rfl, hR.mono ?_⟩
      rintro e W5 (⟨rfl, hJ5, hk5⟩ | ⟨rfl, hJx5⟩)
      · have HJ5 := Aside0.mk hJ5
        have HM5 := Aside0.mk (hk5 _ HMW.out)
        clear hJ5 hk5 m0
        gi_wp2
        go_wp2
        go_roundg (10 - (j + 1))
        case measure => have := HK.out; omega
        case rel => exact ⟨j + 1, by rw [pw_dbl j hlt], ⟨by omega⟩, ⟨by rw [pw_take j hlt]; exact HJ5.out⟩, HM5⟩
      · have HJX5 := Aside0.mk hJx5
        clear hJx5
        gi_wp2
        go_wp2
        refine bodyPost_ret (results_none rfl _ _ _) rfl ?_
        exact ⟨⟨_, rfl⟩, .inr ⟨_, HPRE.out, HJX5.out⟩⟩
    · have hj : j = 10 := by have := HK.out; omega
      subst hj
      have h1 := pw_ge
      go_wp2
      go_end0
      exact ⟨⟨_, rfl⟩, .inl HJS.out⟩
end Go.Proofs.Ytgocgjfaiddejaa.M
