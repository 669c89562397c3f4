/-
  No cell of these rows narrows 'for every input' (looked for: loops, veiled, ifaces, maps, wideKeys, modest, calm, conditions, laid).
  DERIVED. THE GIVEN ROWS OF THIS SEAT. 11 by the template 'for every input the law returns true; each argument reads behind the call as it read before'; 0 by the template 'total and deterministic' (their statements: YtgocgjfaiddejaaTotals.lean).
  GIVEN WITH THE SEED: the statements are not yours to turn. If you find one false, say at which input.
  Laid BY PROGRAM, IN A SANDBOX (cutbox-rows.mjs): the forced cells as the released guide's own fill.sh prints them over the translation 62868af7d5db2670… (all of the seat's roots in one cut). By AI agents, Wed Nov 11 2026. No macro, syntax, notation, axiom, sorry.
-/
import Derived.Test.YtgocgjfaiddejaaChecked
import GoSem.Claim
import GoSem.ClaimJoined
import GoSem.ClaimMapViews
import Derived.JoinedTies
import Derived.KernelRfl
namespace Go.Proofs.Ytgocgjfaiddejaa
/- THE CELL 'sum', in the pinned program and in every row, IS THE sha256 OF THE DUMP (.gsa) THAT YtgocgjfaiddejaaProg.lean LOADS. Nothing in Lean hashes anything: it is a label: what it is worth is what the hold of that sum in a sandbox is worth. -/
noncomputable def Try.pinned : Pinned := { name := "ytgocgjfaiddejaa", sum := "62868af7d5db2670671d5e9cc9ad74e0e17527c7cf3107e4ce3dad89788dcfbc", checked := Try.checked }
namespace Rows
def none {H : Type} : Left H := { results := [], args := [] }

/-- 'archivoltlaw23.InheritSources': WHATEVER THE INPUT: true; the input reads as it did. -/
def inheritSourcesSpec : ChangeSpec := { name := "inheritSources", fn := fun _ => fun
  | [d1, d2, d3] => { results := [.lit (.bool true)], args := [d1, d2, d3] }
  | _ => none }
def inheritSourcesRow : OpenClaim := { program := "ytgocgjfaiddejaa", sum := "62868af7d5db2670671d5e9cc9ad74e0e17527c7cf3107e4ce3dad89788dcfbc", func := "archivolt/archivoltlaw23.InheritSources", spec := "inheritSources", unfollowed := true, recurses := true, apart := false }
def InheritSourcesSaid : Prop := inheritSourcesRow.holds Try.pinned (OpenSpec.ofChange inheritSourcesSpec)

/-- ITS FALSE NEIGHBOUR: 'it returns false'. Refute it at one input. -/
def inheritSourcesWrong : ChangeSpec := { name := "inheritSources", fn := fun _ => fun
  | [d1, d2, d3] => { results := [.lit (.bool false)], args := [d1, d2, d3] }
  | _ => none }
def InheritSourcesWrongFalsely : Prop := inheritSourcesRow.holds Try.pinned (OpenSpec.ofChange inheritSourcesWrong)

/-- 'archivoltlaw23.InheritOrigin': WHATEVER THE INPUT: true; the input reads as it did. -/
def inheritOriginSpec : ChangeSpec := { name := "inheritOrigin", fn := fun _ => fun
  | [d1, d2, d3] => { results := [.lit (.bool true)], args := [d1, d2, d3] }
  | _ => none }
def inheritOriginRow : OpenClaim := { program := "ytgocgjfaiddejaa", sum := "62868af7d5db2670671d5e9cc9ad74e0e17527c7cf3107e4ce3dad89788dcfbc", func := "archivolt/archivoltlaw23.InheritOrigin", spec := "inheritOrigin", unfollowed := true, recurses := true, apart := false }
def InheritOriginSaid : Prop := inheritOriginRow.holds Try.pinned (OpenSpec.ofChange inheritOriginSpec)

/-- ITS FALSE NEIGHBOUR: 'it returns false'. Refute it at one input. -/
def inheritOriginWrong : ChangeSpec := { name := "inheritOrigin", fn := fun _ => fun
  | [d1, d2, d3] => { results := [.lit (.bool false)], args := [d1, d2, d3] }
  | _ => none }
def InheritOriginWrongFalsely : Prop := inheritOriginRow.holds Try.pinned (OpenSpec.ofChange inheritOriginWrong)

/-- 'archivoltlaw23.InheritGenerations': WHATEVER THE INPUT: true; the input reads as it did. -/
def inheritGenerationsSpec : ChangeSpec := { name := "inheritGenerations", fn := fun _ => fun
  | [d1, d2, d3] => { results := [.lit (.bool true)], args := [d1, d2, d3] }
  | _ => none }
def inheritGenerationsRow : OpenClaim := { program := "ytgocgjfaiddejaa", sum := "62868af7d5db2670671d5e9cc9ad74e0e17527c7cf3107e4ce3dad89788dcfbc", func := "archivolt/archivoltlaw23.InheritGenerations", spec := "inheritGenerations", unfollowed := true, recurses := true, apart := false }
def InheritGenerationsSaid : Prop := inheritGenerationsRow.holds Try.pinned (OpenSpec.ofChange inheritGenerationsSpec)

/-- ITS FALSE NEIGHBOUR: 'it returns false'. Refute it at one input. -/
def inheritGenerationsWrong : ChangeSpec := { name := "inheritGenerations", fn := fun _ => fun
  | [d1, d2, d3] => { results := [.lit (.bool false)], args := [d1, d2, d3] }
  | _ => none }
def InheritGenerationsWrongFalsely : Prop := inheritGenerationsRow.holds Try.pinned (OpenSpec.ofChange inheritGenerationsWrong)

/-- 'archivoltlaw23.InheritGives': WHATEVER THE INPUT: true; the input reads as it did. -/
def inheritGivesSpec : ChangeSpec := { name := "inheritGives", fn := fun _ => fun
  | [d1, d2, d3, d4] => { results := [.lit (.bool true)], args := [d1, d2, d3, d4] }
  | _ => none }
def inheritGivesRow : OpenClaim := { program := "ytgocgjfaiddejaa", sum := "62868af7d5db2670671d5e9cc9ad74e0e17527c7cf3107e4ce3dad89788dcfbc", func := "archivolt/archivoltlaw23.InheritGives", spec := "inheritGives", unfollowed := true, recurses := true, apart := false }
def InheritGivesSaid : Prop := inheritGivesRow.holds Try.pinned (OpenSpec.ofChange inheritGivesSpec)

/-- ITS FALSE NEIGHBOUR: 'it returns false'. Refute it at one input. -/
def inheritGivesWrong : ChangeSpec := { name := "inheritGives", fn := fun _ => fun
  | [d1, d2, d3, d4] => { results := [.lit (.bool false)], args := [d1, d2, d3, d4] }
  | _ => none }
def InheritGivesWrongFalsely : Prop := inheritGivesRow.holds Try.pinned (OpenSpec.ofChange inheritGivesWrong)

/-- 'archivoltlaw23.InheritChild': WHATEVER THE INPUT: true; the input reads as it did. -/
def inheritChildSpec : ChangeSpec := { name := "inheritChild", fn := fun _ => fun
  | [d1, d2, d3] => { results := [.lit (.bool true)], args := [d1, d2, d3] }
  | _ => none }
def inheritChildRow : OpenClaim := { program := "ytgocgjfaiddejaa", sum := "62868af7d5db2670671d5e9cc9ad74e0e17527c7cf3107e4ce3dad89788dcfbc", func := "archivolt/archivoltlaw23.InheritChild", spec := "inheritChild", unfollowed := true, recurses := true, apart := false }
def InheritChildSaid : Prop := inheritChildRow.holds Try.pinned (OpenSpec.ofChange inheritChildSpec)

/-- ITS FALSE NEIGHBOUR: 'it returns false'. Refute it at one input. -/
def inheritChildWrong : ChangeSpec := { name := "inheritChild", fn := fun _ => fun
  | [d1, d2, d3] => { results := [.lit (.bool false)], args := [d1, d2, d3] }
  | _ => none }
def InheritChildWrongFalsely : Prop := inheritChildRow.holds Try.pinned (OpenSpec.ofChange inheritChildWrong)

/-- 'archivoltlaw23.InheritTrees': WHATEVER THE INPUT: true; the input reads as it did. -/
def inheritTreesSpec : ChangeSpec := { name := "inheritTrees", fn := fun _ => fun
  | [d1, d2, d3] => { results := [.lit (.bool true)], args := [d1, d2, d3] }
  | _ => none }
def inheritTreesRow : OpenClaim := { program := "ytgocgjfaiddejaa", sum := "62868af7d5db2670671d5e9cc9ad74e0e17527c7cf3107e4ce3dad89788dcfbc", func := "archivolt/archivoltlaw23.InheritTrees", spec := "inheritTrees", unfollowed := true, recurses := true, apart := false }
def InheritTreesSaid : Prop := inheritTreesRow.holds Try.pinned (OpenSpec.ofChange inheritTreesSpec)

/-- ITS FALSE NEIGHBOUR: 'it returns false'. Refute it at one input. -/
def inheritTreesWrong : ChangeSpec := { name := "inheritTrees", fn := fun _ => fun
  | [d1, d2, d3] => { results := [.lit (.bool false)], args := [d1, d2, d3] }
  | _ => none }
def InheritTreesWrongFalsely : Prop := inheritTreesRow.holds Try.pinned (OpenSpec.ofChange inheritTreesWrong)

/-- 'archivoltlaw23.InheritAgrees': WHATEVER THE INPUT: true; the input reads as it did. -/
def inheritAgreesSpec : ChangeSpec := { name := "inheritAgrees", fn := fun _ => fun
  | [d1, d2, d3] => { results := [.lit (.bool true)], args := [d1, d2, d3] }
  | _ => none }
def inheritAgreesRow : OpenClaim := { program := "ytgocgjfaiddejaa", sum := "62868af7d5db2670671d5e9cc9ad74e0e17527c7cf3107e4ce3dad89788dcfbc", func := "archivolt/archivoltlaw23.InheritAgrees", spec := "inheritAgrees", unfollowed := true, recurses := true, apart := false }
def InheritAgreesSaid : Prop := inheritAgreesRow.holds Try.pinned (OpenSpec.ofChange inheritAgreesSpec)

/-- ITS FALSE NEIGHBOUR: 'it returns false'. Refute it at one input. -/
def inheritAgreesWrong : ChangeSpec := { name := "inheritAgrees", fn := fun _ => fun
  | [d1, d2, d3] => { results := [.lit (.bool false)], args := [d1, d2, d3] }
  | _ => none }
def InheritAgreesWrongFalsely : Prop := inheritAgreesRow.holds Try.pinned (OpenSpec.ofChange inheritAgreesWrong)

/-- 'archivoltlaw23.InheritApart': WHATEVER THE INPUT: true; the input reads as it did. -/
def inheritApartSpec : ChangeSpec := { name := "inheritApart", fn := fun _ => fun
  | [d1, d2, d3] => { results := [.lit (.bool true)], args := [d1, d2, d3] }
  | _ => none }
def inheritApartRow : OpenClaim := { program := "ytgocgjfaiddejaa", sum := "62868af7d5db2670671d5e9cc9ad74e0e17527c7cf3107e4ce3dad89788dcfbc", func := "archivolt/archivoltlaw23.InheritApart", spec := "inheritApart", unfollowed := true, recurses := true, apart := false }
def InheritApartSaid : Prop := inheritApartRow.holds Try.pinned (OpenSpec.ofChange inheritApartSpec)

/-- ITS FALSE NEIGHBOUR: 'it returns false'. Refute it at one input. -/
def inheritApartWrong : ChangeSpec := { name := "inheritApart", fn := fun _ => fun
  | [d1, d2, d3] => { results := [.lit (.bool false)], args := [d1, d2, d3] }
  | _ => none }
def InheritApartWrongFalsely : Prop := inheritApartRow.holds Try.pinned (OpenSpec.ofChange inheritApartWrong)

/-- 'archivoltlaw23.InheritDescs': WHATEVER THE INPUT: true; the input reads as it did. -/
def inheritDescsSpec : ChangeSpec := { name := "inheritDescs", fn := fun _ => fun
  | [d1, d2, d3, d4] => { results := [.lit (.bool true)], args := [d1, d2, d3, d4] }
  | _ => none }
def inheritDescsRow : OpenClaim := { program := "ytgocgjfaiddejaa", sum := "62868af7d5db2670671d5e9cc9ad74e0e17527c7cf3107e4ce3dad89788dcfbc", func := "archivolt/archivoltlaw23.InheritDescs", spec := "inheritDescs", unfollowed := true, recurses := true, apart := false }
def InheritDescsSaid : Prop := inheritDescsRow.holds Try.pinned (OpenSpec.ofChange inheritDescsSpec)

/-- ITS FALSE NEIGHBOUR: 'it returns false'. Refute it at one input. -/
def inheritDescsWrong : ChangeSpec := { name := "inheritDescs", fn := fun _ => fun
  | [d1, d2, d3, d4] => { results := [.lit (.bool false)], args := [d1, d2, d3, d4] }
  | _ => none }
def InheritDescsWrongFalsely : Prop := inheritDescsRow.holds Try.pinned (OpenSpec.ofChange inheritDescsWrong)

/-- 'archivoltlaw23.InheritOrder': WHATEVER THE INPUT: true; the input reads as it did. -/
def inheritOrderSpec : ChangeSpec := { name := "inheritOrder", fn := fun _ => fun
  | [d1, d2] => { results := [.lit (.bool true)], args := [d1, d2] }
  | _ => none }
def inheritOrderRow : OpenClaim := { program := "ytgocgjfaiddejaa", sum := "62868af7d5db2670671d5e9cc9ad74e0e17527c7cf3107e4ce3dad89788dcfbc", func := "archivolt/archivoltlaw23.InheritOrder", spec := "inheritOrder", unfollowed := true, recurses := true, apart := false }
def InheritOrderSaid : Prop := inheritOrderRow.holds Try.pinned (OpenSpec.ofChange inheritOrderSpec)

/-- ITS FALSE NEIGHBOUR: 'it returns false'. Refute it at one input. -/
def inheritOrderWrong : ChangeSpec := { name := "inheritOrder", fn := fun _ => fun
  | [d1, d2] => { results := [.lit (.bool false)], args := [d1, d2] }
  | _ => none }
def InheritOrderWrongFalsely : Prop := inheritOrderRow.holds Try.pinned (OpenSpec.ofChange inheritOrderWrong)

/-- 'archivoltlaw23.InheritProtects': WHATEVER THE INPUT: true; the input reads as it did. -/
def inheritProtectsSpec : ChangeSpec := { name := "inheritProtects", fn := fun _ => fun
  | [d1, d2, d3, d4] => { results := [.lit (.bool true)], args := [d1, d2, d3, d4] }
  | _ => none }
def inheritProtectsRow : OpenClaim := { program := "ytgocgjfaiddejaa", sum := "62868af7d5db2670671d5e9cc9ad74e0e17527c7cf3107e4ce3dad89788dcfbc", func := "archivolt/archivoltlaw23.InheritProtects", spec := "inheritProtects", unfollowed := true, recurses := true, apart := false }
def InheritProtectsSaid : Prop := inheritProtectsRow.holds Try.pinned (OpenSpec.ofChange inheritProtectsSpec)

/-- ITS FALSE NEIGHBOUR: 'it returns false'. Refute it at one input. -/
def inheritProtectsWrong : ChangeSpec := { name := "inheritProtects", fn := fun _ => fun
  | [d1, d2, d3, d4] => { results := [.lit (.bool false)], args := [d1, d2, d3, d4] }
  | _ => none }
def InheritProtectsWrongFalsely : Prop := inheritProtectsRow.holds Try.pinned (OpenSpec.ofChange inheritProtectsWrong)

/- THE SECOND FORM. 'bulk': how many values and letters a reading holds, each counted each time it is reached (what is shared counts as often as it is met; a slice's spare places count too). A statement '..UptoSaid' is the law's where the arguments, and the package variables that the reading takes, are together of bulk at most 1048576: NARROWER than '..Said'. Prove '..Said' where nothing that the law and all that it calls make is longer than what came in: it says more and counts as full. Else prove '..UptoSaid'. A law counts once. -/
mutual
def uptoBulk {H : Type} : DataW H → Nat
  | .lit (.string bytes) => bytes.length + 1
  | .lit _ => 1
  | .nil => 1
  | .ptr d => uptoBulk d + 1
  | .slice elems spare => uptoBulkAll elems + uptoBulkAll spare + 1
  | .agg parts => uptoBulkAll parts + 1
  | .iface _ d => uptoBulk d + 1
  | .map entries => uptoBulkEntries entries + 1
  | .held _ => 1
def uptoBulkAll {H : Type} : List (DataW H) → Nat
  | [] => 0
  | d :: r => uptoBulk d + uptoBulkAll r
def uptoBulkEntries {H : Type} : List (Lit × DataW H) → Nat
  | [] => 0
  | x :: r => uptoBulkEntry x + uptoBulkEntries r
def uptoBulkEntry {H : Type} : Lit × DataW H → Nat
  | (.string bytes, d) => bytes.length + uptoBulk d + 1
  | (_, d) => uptoBulk d + 1
 end
def uptoSmall : (H : Type) → List (DataW H) → Bool := fun _ ds => decide (uptoBulkAll ds ≤ 1048576)
def OpenSpec.upto (s : _root_.Go.ChangeSpec) : _root_.Go.OpenSpec := { _root_.Go.OpenSpec.ofChange s with cond := some uptoSmall }

/-- 'archivoltlaw23.InheritSources', WHERE WHAT IT READS IS OF BULK AT MOST 1048576: true; the input reads as it did. -/
def inheritSourcesUptoRow : OpenClaim := { program := "ytgocgjfaiddejaa", sum := "62868af7d5db2670671d5e9cc9ad74e0e17527c7cf3107e4ce3dad89788dcfbc", func := "archivolt/archivoltlaw23.InheritSources", spec := "inheritSources", unfollowed := true, recurses := true, apart := false, narrowed := true }
def InheritSourcesUptoSaid : Prop := inheritSourcesUptoRow.holds Try.pinned (OpenSpec.upto inheritSourcesSpec)

/-- 'archivoltlaw23.InheritOrigin', WHERE WHAT IT READS IS OF BULK AT MOST 1048576: true; the input reads as it did. -/
def inheritOriginUptoRow : OpenClaim := { program := "ytgocgjfaiddejaa", sum := "62868af7d5db2670671d5e9cc9ad74e0e17527c7cf3107e4ce3dad89788dcfbc", func := "archivolt/archivoltlaw23.InheritOrigin", spec := "inheritOrigin", unfollowed := true, recurses := true, apart := false, narrowed := true }
def InheritOriginUptoSaid : Prop := inheritOriginUptoRow.holds Try.pinned (OpenSpec.upto inheritOriginSpec)

/-- 'archivoltlaw23.InheritGenerations', WHERE WHAT IT READS IS OF BULK AT MOST 1048576: true; the input reads as it did. -/
def inheritGenerationsUptoRow : OpenClaim := { program := "ytgocgjfaiddejaa", sum := "62868af7d5db2670671d5e9cc9ad74e0e17527c7cf3107e4ce3dad89788dcfbc", func := "archivolt/archivoltlaw23.InheritGenerations", spec := "inheritGenerations", unfollowed := true, recurses := true, apart := false, narrowed := true }
def InheritGenerationsUptoSaid : Prop := inheritGenerationsUptoRow.holds Try.pinned (OpenSpec.upto inheritGenerationsSpec)

/-- 'archivoltlaw23.InheritGives', WHERE WHAT IT READS IS OF BULK AT MOST 1048576: true; the input reads as it did. -/
def inheritGivesUptoRow : OpenClaim := { program := "ytgocgjfaiddejaa", sum := "62868af7d5db2670671d5e9cc9ad74e0e17527c7cf3107e4ce3dad89788dcfbc", func := "archivolt/archivoltlaw23.InheritGives", spec := "inheritGives", unfollowed := true, recurses := true, apart := false, narrowed := true }
def InheritGivesUptoSaid : Prop := inheritGivesUptoRow.holds Try.pinned (OpenSpec.upto inheritGivesSpec)

/-- 'archivoltlaw23.InheritChild', WHERE WHAT IT READS IS OF BULK AT MOST 1048576: true; the input reads as it did. -/
def inheritChildUptoRow : OpenClaim := { program := "ytgocgjfaiddejaa", sum := "62868af7d5db2670671d5e9cc9ad74e0e17527c7cf3107e4ce3dad89788dcfbc", func := "archivolt/archivoltlaw23.InheritChild", spec := "inheritChild", unfollowed := true, recurses := true, apart := false, narrowed := true }
def InheritChildUptoSaid : Prop := inheritChildUptoRow.holds Try.pinned (OpenSpec.upto inheritChildSpec)

/-- 'archivoltlaw23.InheritTrees', WHERE WHAT IT READS IS OF BULK AT MOST 1048576: true; the input reads as it did. -/
def inheritTreesUptoRow : OpenClaim := { program := "ytgocgjfaiddejaa", sum := "62868af7d5db2670671d5e9cc9ad74e0e17527c7cf3107e4ce3dad89788dcfbc", func := "archivolt/archivoltlaw23.InheritTrees", spec := "inheritTrees", unfollowed := true, recurses := true, apart := false, narrowed := true }
def InheritTreesUptoSaid : Prop := inheritTreesUptoRow.holds Try.pinned (OpenSpec.upto inheritTreesSpec)

/-- 'archivoltlaw23.InheritAgrees', WHERE WHAT IT READS IS OF BULK AT MOST 1048576: true; the input reads as it did. -/
def inheritAgreesUptoRow : OpenClaim := { program := "ytgocgjfaiddejaa", sum := "62868af7d5db2670671d5e9cc9ad74e0e17527c7cf3107e4ce3dad89788dcfbc", func := "archivolt/archivoltlaw23.InheritAgrees", spec := "inheritAgrees", unfollowed := true, recurses := true, apart := false, narrowed := true }
def InheritAgreesUptoSaid : Prop := inheritAgreesUptoRow.holds Try.pinned (OpenSpec.upto inheritAgreesSpec)

/-- 'archivoltlaw23.InheritApart', WHERE WHAT IT READS IS OF BULK AT MOST 1048576: true; the input reads as it did. -/
def inheritApartUptoRow : OpenClaim := { program := "ytgocgjfaiddejaa", sum := "62868af7d5db2670671d5e9cc9ad74e0e17527c7cf3107e4ce3dad89788dcfbc", func := "archivolt/archivoltlaw23.InheritApart", spec := "inheritApart", unfollowed := true, recurses := true, apart := false, narrowed := true }
def InheritApartUptoSaid : Prop := inheritApartUptoRow.holds Try.pinned (OpenSpec.upto inheritApartSpec)

/-- 'archivoltlaw23.InheritDescs', WHERE WHAT IT READS IS OF BULK AT MOST 1048576: true; the input reads as it did. -/
def inheritDescsUptoRow : OpenClaim := { program := "ytgocgjfaiddejaa", sum := "62868af7d5db2670671d5e9cc9ad74e0e17527c7cf3107e4ce3dad89788dcfbc", func := "archivolt/archivoltlaw23.InheritDescs", spec := "inheritDescs", unfollowed := true, recurses := true, apart := false, narrowed := true }
def InheritDescsUptoSaid : Prop := inheritDescsUptoRow.holds Try.pinned (OpenSpec.upto inheritDescsSpec)

/-- 'archivoltlaw23.InheritOrder', WHERE WHAT IT READS IS OF BULK AT MOST 1048576: true; the input reads as it did. -/
def inheritOrderUptoRow : OpenClaim := { program := "ytgocgjfaiddejaa", sum := "62868af7d5db2670671d5e9cc9ad74e0e17527c7cf3107e4ce3dad89788dcfbc", func := "archivolt/archivoltlaw23.InheritOrder", spec := "inheritOrder", unfollowed := true, recurses := true, apart := false, narrowed := true }
def InheritOrderUptoSaid : Prop := inheritOrderUptoRow.holds Try.pinned (OpenSpec.upto inheritOrderSpec)

/-- 'archivoltlaw23.InheritProtects', WHERE WHAT IT READS IS OF BULK AT MOST 1048576: true; the input reads as it did. -/
def inheritProtectsUptoRow : OpenClaim := { program := "ytgocgjfaiddejaa", sum := "62868af7d5db2670671d5e9cc9ad74e0e17527c7cf3107e4ce3dad89788dcfbc", func := "archivolt/archivoltlaw23.InheritProtects", spec := "inheritProtects", unfollowed := true, recurses := true, apart := false, narrowed := true }
def InheritProtectsUptoSaid : Prop := inheritProtectsUptoRow.holds Try.pinned (OpenSpec.upto inheritProtectsSpec)

end Rows
end Go.Proofs.Ytgocgjfaiddejaa
