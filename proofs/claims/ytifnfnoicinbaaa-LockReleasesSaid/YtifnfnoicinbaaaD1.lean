/- The examples at the head of each statement, computed. -/
import Derived.Test.YtifnfnoicinbaaaC2
import Derived.Test.YtifnfnoicinbaaaC3
import Derived.Test.YtifnfnoicinbaaaC4
import Derived.Test.YtifnfnoicinbaaaC5
import Derived.Test.YtifnfnoicinbaaaC6
import Derived.Test.YtifnfnoicinbaaaC7
namespace Go.Proofs.Ytifnfnoicinbaaa.M
open Go.RowKit Go.Proofs.YtifnfnoicinbaaaW.PrintWords Go.Proofs.YtifnfnoicinbaaaW.PrintLast Go.Proofs.YtifnfnoicinbaaaW.PrintMore
set_option linter.unusedVariables false
set_option linter.unusedSimpArgs false
set_option linter.unnecessarySimpa false

def L1 : S24 := ⟨0, 1, 0, 10, true⟩
def L2 : S24 := ⟨0, 2, 9, 5, false⟩
def L3 : S24 := ⟨0, 3, 5, 1, false⟩
def L4 : S24 := ⟨0, 4, 5, 1, true⟩
def L5 : S24 := ⟨0, 5, 5, 1, true⟩
theorem ex1 : tryF [] [] L1 = (([L1], []), 0) := by kernel_rfl
theorem ex2 : tryF [L1] [] L2 = (([], []), 15) := by kernel_rfl
theorem ex3 : askF [L1] [] L3 = (([L1], [L3], [], []), 0) := by kernel_rfl
theorem ex4 : askF [L1] [L3] L4 = (([L1], [L3, L4], [], []), 0) := by kernel_rfl
theorem ex5 : begE [L1] [L3, L4] (knownB 4) = 0 ∧ PL.waitI hdL [L3, L4] 4 = some 1 ∧ (PL.blks mtL [L1] [L3, L4] 1).map hdL = [1, 3] := ⟨by kernel_rfl, by kernel_rfl, by kernel_rfl⟩
theorem sort13 : sortI [1, 3] = [1, 3] := by
  unfold sortI
  first | decide | (simp [List.mergeSort, List.MergeSort.Internal.splitInTwo]; done) | exact List.mergeSort_of_pairwise (by decide)
theorem ex5' : blocksF [L1] [L3, L4] 4 = ([1, 3], 0) := by
  obtain ⟨h1, h2, h3⟩ := ex5
  unfold blocksF
  rw [if_pos h1, h2]
  dsimp only
  rw [h3, sort13]
  decide
theorem ex6 : unlockF [L1] [L3, L4] L1 = (([L3], [L4], [3], []), 0) := by kernel_rfl
theorem ex7 : closeF [L3] [L4] 3 = (([L4], [], [4], []), 0) := by kernel_rfl
theorem ex8 : mayF [L3] [L4] L5 = 15 := by kernel_rfl
end Go.Proofs.Ytifnfnoicinbaaa.M
