/-
  No cell of these rows narrows 'for every input' (looked for: loops, veiled, ifaces, maps, wideKeys, modest, calm, conditions, laid).
  DERIVED. THE GIVEN ROWS OF THIS SEAT. 11 by the template 'for every input the law returns true; each argument reads behind the call as it read before'; 0 by the template 'total and deterministic' (their statements: YtifnfnoicinbaaaTotals.lean).
  GIVEN WITH THE SEED: the statements are not yours to turn. If you find one false, say at which input.
  Laid BY PROGRAM, IN A SANDBOX (cutbox-rows.mjs): the forced cells as the released guide's own fill.sh prints them over the translation 908c3a946737ec2e… (all of the seat's roots in one cut). By AI agents, Wed Nov 11 2026. No macro, syntax, notation, axiom, sorry.
-/
import Derived.Test.YtifnfnoicinbaaaChecked
import GoSem.Claim
import GoSem.ClaimJoined
import GoSem.ClaimMapViews
import Derived.JoinedTies
import Derived.KernelRfl
namespace Go.Proofs.Ytifnfnoicinbaaa
/- THE CELL 'sum', in the pinned program and in every row, IS THE sha256 OF THE DUMP (.gsa) THAT YtifnfnoicinbaaaProg.lean LOADS. Nothing in Lean hashes anything: it is a label: what it is worth is what the hold of that sum in a sandbox is worth. -/
noncomputable def Try.pinned : Pinned := { name := "ytifnfnoicinbaaa", sum := "908c3a946737ec2e086a90b36c43153eca92db3419bed603ff3b98a2d1854e42", checked := Try.checked }
namespace Rows
def none {H : Type} : Left H := { results := [], args := [] }

/-- 'archivoltlaw31.LockIndependent': WHATEVER THE INPUT: true; the input reads as it did. -/
def lockIndependentSpec : ChangeSpec := { name := "lockIndependent", fn := fun _ => fun
  | [d1, d2, d3] => { results := [.lit (.bool true)], args := [d1, d2, d3] }
  | _ => none }
def lockIndependentRow : OpenClaim := { program := "ytifnfnoicinbaaa", sum := "908c3a946737ec2e086a90b36c43153eca92db3419bed603ff3b98a2d1854e42", func := "archivolt/archivoltlaw31.LockIndependent", spec := "lockIndependent", unfollowed := true, recurses := true, apart := false }
def LockIndependentSaid : Prop := lockIndependentRow.holds Try.pinned (OpenSpec.ofChange lockIndependentSpec)

/-- ITS FALSE NEIGHBOUR: 'it returns false'. Refute it at one input. -/
def lockIndependentWrong : ChangeSpec := { name := "lockIndependent", fn := fun _ => fun
  | [d1, d2, d3] => { results := [.lit (.bool false)], args := [d1, d2, d3] }
  | _ => none }
def LockIndependentWrongFalsely : Prop := lockIndependentRow.holds Try.pinned (OpenSpec.ofChange lockIndependentWrong)

/-- 'archivoltlaw31.LockVictims': WHATEVER THE INPUT: true; the input reads as it did. -/
def lockVictimsSpec : ChangeSpec := { name := "lockVictims", fn := fun _ => fun
  | [d1, d2] => { results := [.lit (.bool true)], args := [d1, d2] }
  | _ => none }
def lockVictimsRow : OpenClaim := { program := "ytifnfnoicinbaaa", sum := "908c3a946737ec2e086a90b36c43153eca92db3419bed603ff3b98a2d1854e42", func := "archivolt/archivoltlaw31.LockVictims", spec := "lockVictims", unfollowed := true, recurses := true, apart := false }
def LockVictimsSaid : Prop := lockVictimsRow.holds Try.pinned (OpenSpec.ofChange lockVictimsSpec)

/-- ITS FALSE NEIGHBOUR: 'it returns false'. Refute it at one input. -/
def lockVictimsWrong : ChangeSpec := { name := "lockVictims", fn := fun _ => fun
  | [d1, d2] => { results := [.lit (.bool false)], args := [d1, d2] }
  | _ => none }
def LockVictimsWrongFalsely : Prop := lockVictimsRow.holds Try.pinned (OpenSpec.ofChange lockVictimsWrong)

/-- 'archivoltlaw31.LockAsks': WHATEVER THE INPUT: true; the input reads as it did. -/
def lockAsksSpec : ChangeSpec := { name := "lockAsks", fn := fun _ => fun
  | [d1, d2] => { results := [.lit (.bool true)], args := [d1, d2] }
  | _ => none }
def lockAsksRow : OpenClaim := { program := "ytifnfnoicinbaaa", sum := "908c3a946737ec2e086a90b36c43153eca92db3419bed603ff3b98a2d1854e42", func := "archivolt/archivoltlaw31.LockAsks", spec := "lockAsks", unfollowed := true, recurses := true, apart := false }
def LockAsksSaid : Prop := lockAsksRow.holds Try.pinned (OpenSpec.ofChange lockAsksSpec)

/-- ITS FALSE NEIGHBOUR: 'it returns false'. Refute it at one input. -/
def lockAsksWrong : ChangeSpec := { name := "lockAsks", fn := fun _ => fun
  | [d1, d2] => { results := [.lit (.bool false)], args := [d1, d2] }
  | _ => none }
def LockAsksWrongFalsely : Prop := lockAsksRow.holds Try.pinned (OpenSpec.ofChange lockAsksWrong)

/-- 'archivoltlaw31.LockAnswers': WHATEVER THE INPUT: true; the input reads as it did. -/
def lockAnswersSpec : ChangeSpec := { name := "lockAnswers", fn := fun _ => fun
  | [d1, d2, d3] => { results := [.lit (.bool true)], args := [d1, d2, d3] }
  | _ => none }
def lockAnswersRow : OpenClaim := { program := "ytifnfnoicinbaaa", sum := "908c3a946737ec2e086a90b36c43153eca92db3419bed603ff3b98a2d1854e42", func := "archivolt/archivoltlaw31.LockAnswers", spec := "lockAnswers", unfollowed := true, recurses := true, apart := false }
def LockAnswersSaid : Prop := lockAnswersRow.holds Try.pinned (OpenSpec.ofChange lockAnswersSpec)

/-- ITS FALSE NEIGHBOUR: 'it returns false'. Refute it at one input. -/
def lockAnswersWrong : ChangeSpec := { name := "lockAnswers", fn := fun _ => fun
  | [d1, d2, d3] => { results := [.lit (.bool false)], args := [d1, d2, d3] }
  | _ => none }
def LockAnswersWrongFalsely : Prop := lockAnswersRow.holds Try.pinned (OpenSpec.ofChange lockAnswersWrong)

/-- 'archivoltlaw31.LockTables': WHATEVER THE INPUT: true; the input reads as it did. -/
def lockTablesSpec : ChangeSpec := { name := "lockTables", fn := fun _ => fun
  | [d1, d2, d3] => { results := [.lit (.bool true)], args := [d1, d2, d3] }
  | _ => none }
def lockTablesRow : OpenClaim := { program := "ytifnfnoicinbaaa", sum := "908c3a946737ec2e086a90b36c43153eca92db3419bed603ff3b98a2d1854e42", func := "archivolt/archivoltlaw31.LockTables", spec := "lockTables", unfollowed := true, recurses := true, apart := false }
def LockTablesSaid : Prop := lockTablesRow.holds Try.pinned (OpenSpec.ofChange lockTablesSpec)

/-- ITS FALSE NEIGHBOUR: 'it returns false'. Refute it at one input. -/
def lockTablesWrong : ChangeSpec := { name := "lockTables", fn := fun _ => fun
  | [d1, d2, d3] => { results := [.lit (.bool false)], args := [d1, d2, d3] }
  | _ => none }
def LockTablesWrongFalsely : Prop := lockTablesRow.holds Try.pinned (OpenSpec.ofChange lockTablesWrong)

/-- 'archivoltlaw31.LockReleases': WHATEVER THE INPUT: true; the input reads as it did. -/
def lockReleasesSpec : ChangeSpec := { name := "lockReleases", fn := fun _ => fun
  | [d1, d2, d3] => { results := [.lit (.bool true)], args := [d1, d2, d3] }
  | _ => none }
def lockReleasesRow : OpenClaim := { program := "ytifnfnoicinbaaa", sum := "908c3a946737ec2e086a90b36c43153eca92db3419bed603ff3b98a2d1854e42", func := "archivolt/archivoltlaw31.LockReleases", spec := "lockReleases", unfollowed := true, recurses := true, apart := false }
def LockReleasesSaid : Prop := lockReleasesRow.holds Try.pinned (OpenSpec.ofChange lockReleasesSpec)

/-- ITS FALSE NEIGHBOUR: 'it returns false'. Refute it at one input. -/
def lockReleasesWrong : ChangeSpec := { name := "lockReleases", fn := fun _ => fun
  | [d1, d2, d3] => { results := [.lit (.bool false)], args := [d1, d2, d3] }
  | _ => none }
def LockReleasesWrongFalsely : Prop := lockReleasesRow.holds Try.pinned (OpenSpec.ofChange lockReleasesWrong)

/-- 'archivoltlaw31.LockProgress': WHATEVER THE INPUT: true; the input reads as it did. -/
def lockProgressSpec : ChangeSpec := { name := "lockProgress", fn := fun _ => fun
  | [d1, d2, d3] => { results := [.lit (.bool true)], args := [d1, d2, d3] }
  | _ => none }
def lockProgressRow : OpenClaim := { program := "ytifnfnoicinbaaa", sum := "908c3a946737ec2e086a90b36c43153eca92db3419bed603ff3b98a2d1854e42", func := "archivolt/archivoltlaw31.LockProgress", spec := "lockProgress", unfollowed := true, recurses := true, apart := false }
def LockProgressSaid : Prop := lockProgressRow.holds Try.pinned (OpenSpec.ofChange lockProgressSpec)

/-- ITS FALSE NEIGHBOUR: 'it returns false'. Refute it at one input. -/
def lockProgressWrong : ChangeSpec := { name := "lockProgress", fn := fun _ => fun
  | [d1, d2, d3] => { results := [.lit (.bool false)], args := [d1, d2, d3] }
  | _ => none }
def LockProgressWrongFalsely : Prop := lockProgressRow.holds Try.pinned (OpenSpec.ofChange lockProgressWrong)

/-- 'archivoltlaw31.LockAccess': WHATEVER THE INPUT: true; the input reads as it did. -/
def lockAccessSpec : ChangeSpec := { name := "lockAccess", fn := fun _ => fun
  | [d1, d2, d3] => { results := [.lit (.bool true)], args := [d1, d2, d3] }
  | _ => none }
def lockAccessRow : OpenClaim := { program := "ytifnfnoicinbaaa", sum := "908c3a946737ec2e086a90b36c43153eca92db3419bed603ff3b98a2d1854e42", func := "archivolt/archivoltlaw31.LockAccess", spec := "lockAccess", unfollowed := true, recurses := true, apart := false }
def LockAccessSaid : Prop := lockAccessRow.holds Try.pinned (OpenSpec.ofChange lockAccessSpec)

/-- ITS FALSE NEIGHBOUR: 'it returns false'. Refute it at one input. -/
def lockAccessWrong : ChangeSpec := { name := "lockAccess", fn := fun _ => fun
  | [d1, d2, d3] => { results := [.lit (.bool false)], args := [d1, d2, d3] }
  | _ => none }
def LockAccessWrongFalsely : Prop := lockAccessRow.holds Try.pinned (OpenSpec.ofChange lockAccessWrong)

/-- 'archivoltlaw31.LockInverse': WHATEVER THE INPUT: true; the input reads as it did. -/
def lockInverseSpec : ChangeSpec := { name := "lockInverse", fn := fun _ => fun
  | [d1, d2] => { results := [.lit (.bool true)], args := [d1, d2] }
  | _ => none }
def lockInverseRow : OpenClaim := { program := "ytifnfnoicinbaaa", sum := "908c3a946737ec2e086a90b36c43153eca92db3419bed603ff3b98a2d1854e42", func := "archivolt/archivoltlaw31.LockInverse", spec := "lockInverse", unfollowed := true, recurses := true, apart := false }
def LockInverseSaid : Prop := lockInverseRow.holds Try.pinned (OpenSpec.ofChange lockInverseSpec)

/-- ITS FALSE NEIGHBOUR: 'it returns false'. Refute it at one input. -/
def lockInverseWrong : ChangeSpec := { name := "lockInverse", fn := fun _ => fun
  | [d1, d2] => { results := [.lit (.bool false)], args := [d1, d2] }
  | _ => none }
def LockInverseWrongFalsely : Prop := lockInverseRow.holds Try.pinned (OpenSpec.ofChange lockInverseWrong)

/-- 'archivoltlaw31.LockInvariant': WHATEVER THE INPUT: true; the input reads as it did. -/
def lockInvariantSpec : ChangeSpec := { name := "lockInvariant", fn := fun _ => fun
  | [d] => { results := [.lit (.bool true)], args := [d] }
  | _ => none }
def lockInvariantRow : OpenClaim := { program := "ytifnfnoicinbaaa", sum := "908c3a946737ec2e086a90b36c43153eca92db3419bed603ff3b98a2d1854e42", func := "archivolt/archivoltlaw31.LockInvariant", spec := "lockInvariant", unfollowed := true, recurses := true, apart := false }
def LockInvariantSaid : Prop := lockInvariantRow.holds Try.pinned (OpenSpec.ofChange lockInvariantSpec)

/-- ITS FALSE NEIGHBOUR: 'it returns false'. Refute it at one input. -/
def lockInvariantWrong : ChangeSpec := { name := "lockInvariant", fn := fun _ => fun
  | [d] => { results := [.lit (.bool false)], args := [d] }
  | _ => none }
def LockInvariantWrongFalsely : Prop := lockInvariantRow.holds Try.pinned (OpenSpec.ofChange lockInvariantWrong)

/-- 'archivoltlaw31.LockFair': WHATEVER THE INPUT: true; the input reads as it did. -/
def lockFairSpec : ChangeSpec := { name := "lockFair", fn := fun _ => fun
  | [d] => { results := [.lit (.bool true)], args := [d] }
  | _ => none }
def lockFairRow : OpenClaim := { program := "ytifnfnoicinbaaa", sum := "908c3a946737ec2e086a90b36c43153eca92db3419bed603ff3b98a2d1854e42", func := "archivolt/archivoltlaw31.LockFair", spec := "lockFair", unfollowed := true, recurses := true, apart := false }
def LockFairSaid : Prop := lockFairRow.holds Try.pinned (OpenSpec.ofChange lockFairSpec)

/-- ITS FALSE NEIGHBOUR: 'it returns false'. Refute it at one input. -/
def lockFairWrong : ChangeSpec := { name := "lockFair", fn := fun _ => fun
  | [d] => { results := [.lit (.bool false)], args := [d] }
  | _ => none }
def LockFairWrongFalsely : Prop := lockFairRow.holds Try.pinned (OpenSpec.ofChange lockFairWrong)

/- THE SECOND FORM. 'bulk': how many values and letters a reading holds, each counted each time it is reached (what is shared counts as often as it is met; a slice's spare places count too). A statement '..UptoSaid' is the law's where the arguments, and the package variables that the reading takes, are together of bulk at most 1048576: NARROWER than '..Said'. Prove '..Said' where nothing that the law and all that it calls make is longer than what came in: it says more and counts as full. Else prove '..UptoSaid'. A law counts once. -/
mutual
def uptoBulk {H : Type} : DataW H → Nat
  | .lit (.string bytes) => bytes.length + 1
  | .lit _ => 1
  | .nil => 1
  | .ptr d => uptoBulk d + 1
  | .slice elems spare => uptoBulkAll elems + uptoBulkAll spare + 1
  | .agg parts => uptoBulkAll parts + 1
  | .iface _ d => uptoBulk d + 1
  | .map entries => uptoBulkEntries entries + 1
  | .held _ => 1
def uptoBulkAll {H : Type} : List (DataW H) → Nat
  | [] => 0
  | d :: r => uptoBulk d + uptoBulkAll r
def uptoBulkEntries {H : Type} : List (Lit × DataW H) → Nat
  | [] => 0
  | x :: r => uptoBulkEntry x + uptoBulkEntries r
def uptoBulkEntry {H : Type} : Lit × DataW H → Nat
  | (.string bytes, d) => bytes.length + uptoBulk d + 1
  | (_, d) => uptoBulk d + 1
 end
def uptoSmall : (H : Type) → List (DataW H) → Bool := fun _ ds => decide (uptoBulkAll ds ≤ 1048576)
def OpenSpec.upto (s : _root_.Go.ChangeSpec) : _root_.Go.OpenSpec := { _root_.Go.OpenSpec.ofChange s with cond := some uptoSmall }

/-- 'archivoltlaw31.LockIndependent', WHERE WHAT IT READS IS OF BULK AT MOST 1048576: true; the input reads as it did. -/
def lockIndependentUptoRow : OpenClaim := { program := "ytifnfnoicinbaaa", sum := "908c3a946737ec2e086a90b36c43153eca92db3419bed603ff3b98a2d1854e42", func := "archivolt/archivoltlaw31.LockIndependent", spec := "lockIndependent", unfollowed := true, recurses := true, apart := false, narrowed := true }
def LockIndependentUptoSaid : Prop := lockIndependentUptoRow.holds Try.pinned (OpenSpec.upto lockIndependentSpec)

/-- 'archivoltlaw31.LockVictims', WHERE WHAT IT READS IS OF BULK AT MOST 1048576: true; the input reads as it did. -/
def lockVictimsUptoRow : OpenClaim := { program := "ytifnfnoicinbaaa", sum := "908c3a946737ec2e086a90b36c43153eca92db3419bed603ff3b98a2d1854e42", func := "archivolt/archivoltlaw31.LockVictims", spec := "lockVictims", unfollowed := true, recurses := true, apart := false, narrowed := true }
def LockVictimsUptoSaid : Prop := lockVictimsUptoRow.holds Try.pinned (OpenSpec.upto lockVictimsSpec)

/-- 'archivoltlaw31.LockAsks', WHERE WHAT IT READS IS OF BULK AT MOST 1048576: true; the input reads as it did. -/
def lockAsksUptoRow : OpenClaim := { program := "ytifnfnoicinbaaa", sum := "908c3a946737ec2e086a90b36c43153eca92db3419bed603ff3b98a2d1854e42", func := "archivolt/archivoltlaw31.LockAsks", spec := "lockAsks", unfollowed := true, recurses := true, apart := false, narrowed := true }
def LockAsksUptoSaid : Prop := lockAsksUptoRow.holds Try.pinned (OpenSpec.upto lockAsksSpec)

/-- 'archivoltlaw31.LockAnswers', WHERE WHAT IT READS IS OF BULK AT MOST 1048576: true; the input reads as it did. -/
def lockAnswersUptoRow : OpenClaim := { program := "ytifnfnoicinbaaa", sum := "908c3a946737ec2e086a90b36c43153eca92db3419bed603ff3b98a2d1854e42", func := "archivolt/archivoltlaw31.LockAnswers", spec := "lockAnswers", unfollowed := true, recurses := true, apart := false, narrowed := true }
def LockAnswersUptoSaid : Prop := lockAnswersUptoRow.holds Try.pinned (OpenSpec.upto lockAnswersSpec)

/-- 'archivoltlaw31.LockTables', WHERE WHAT IT READS IS OF BULK AT MOST 1048576: true; the input reads as it did. -/
def lockTablesUptoRow : OpenClaim := { program := "ytifnfnoicinbaaa", sum := "908c3a946737ec2e086a90b36c43153eca92db3419bed603ff3b98a2d1854e42", func := "archivolt/archivoltlaw31.LockTables", spec := "lockTables", unfollowed := true, recurses := true, apart := false, narrowed := true }
def LockTablesUptoSaid : Prop := lockTablesUptoRow.holds Try.pinned (OpenSpec.upto lockTablesSpec)

/-- 'archivoltlaw31.LockReleases', WHERE WHAT IT READS IS OF BULK AT MOST 1048576: true; the input reads as it did. -/
def lockReleasesUptoRow : OpenClaim := { program := "ytifnfnoicinbaaa", sum := "908c3a946737ec2e086a90b36c43153eca92db3419bed603ff3b98a2d1854e42", func := "archivolt/archivoltlaw31.LockReleases", spec := "lockReleases", unfollowed := true, recurses := true, apart := false, narrowed := true }
def LockReleasesUptoSaid : Prop := lockReleasesUptoRow.holds Try.pinned (OpenSpec.upto lockReleasesSpec)

/-- 'archivoltlaw31.LockProgress', WHERE WHAT IT READS IS OF BULK AT MOST 1048576: true; the input reads as it did. -/
def lockProgressUptoRow : OpenClaim := { program := "ytifnfnoicinbaaa", sum := "908c3a946737ec2e086a90b36c43153eca92db3419bed603ff3b98a2d1854e42", func := "archivolt/archivoltlaw31.LockProgress", spec := "lockProgress", unfollowed := true, recurses := true, apart := false, narrowed := true }
def LockProgressUptoSaid : Prop := lockProgressUptoRow.holds Try.pinned (OpenSpec.upto lockProgressSpec)

/-- 'archivoltlaw31.LockAccess', WHERE WHAT IT READS IS OF BULK AT MOST 1048576: true; the input reads as it did. -/
def lockAccessUptoRow : OpenClaim := { program := "ytifnfnoicinbaaa", sum := "908c3a946737ec2e086a90b36c43153eca92db3419bed603ff3b98a2d1854e42", func := "archivolt/archivoltlaw31.LockAccess", spec := "lockAccess", unfollowed := true, recurses := true, apart := false, narrowed := true }
def LockAccessUptoSaid : Prop := lockAccessUptoRow.holds Try.pinned (OpenSpec.upto lockAccessSpec)

/-- 'archivoltlaw31.LockInverse', WHERE WHAT IT READS IS OF BULK AT MOST 1048576: true; the input reads as it did. -/
def lockInverseUptoRow : OpenClaim := { program := "ytifnfnoicinbaaa", sum := "908c3a946737ec2e086a90b36c43153eca92db3419bed603ff3b98a2d1854e42", func := "archivolt/archivoltlaw31.LockInverse", spec := "lockInverse", unfollowed := true, recurses := true, apart := false, narrowed := true }
def LockInverseUptoSaid : Prop := lockInverseUptoRow.holds Try.pinned (OpenSpec.upto lockInverseSpec)

/-- 'archivoltlaw31.LockInvariant', WHERE WHAT IT READS IS OF BULK AT MOST 1048576: true; the input reads as it did. -/
def lockInvariantUptoRow : OpenClaim := { program := "ytifnfnoicinbaaa", sum := "908c3a946737ec2e086a90b36c43153eca92db3419bed603ff3b98a2d1854e42", func := "archivolt/archivoltlaw31.LockInvariant", spec := "lockInvariant", unfollowed := true, recurses := true, apart := false, narrowed := true }
def LockInvariantUptoSaid : Prop := lockInvariantUptoRow.holds Try.pinned (OpenSpec.upto lockInvariantSpec)

/-- 'archivoltlaw31.LockFair', WHERE WHAT IT READS IS OF BULK AT MOST 1048576: true; the input reads as it did. -/
def lockFairUptoRow : OpenClaim := { program := "ytifnfnoicinbaaa", sum := "908c3a946737ec2e086a90b36c43153eca92db3419bed603ff3b98a2d1854e42", func := "archivolt/archivoltlaw31.LockFair", spec := "lockFair", unfollowed := true, recurses := true, apart := false, narrowed := true }
def LockFairUptoSaid : Prop := lockFairUptoRow.holds Try.pinned (OpenSpec.upto lockFairSpec)

end Rows
end Go.Proofs.Ytifnfnoicinbaaa
