/-
  No cell of these rows narrows 'for every input' (looked for: loops, veiled, ifaces, maps, wideKeys, modest, calm, conditions, laid).
  DERIVED. THE GIVEN ROWS OF THIS SEAT. 7 by the template 'for every input the law returns true; each argument reads behind the call as it read before'; 0 by the template 'total and deterministic' (their statements: YthkchdfkeieabaaTotals.lean).
  GIVEN WITH THE SEED: the statements are not yours to turn. If you find one false, say at which input.
  Laid BY PROGRAM, IN A SANDBOX (cutbox-rows.mjs): the forced cells as the released guide's own fill.sh prints them over the translation fa5efafadc1b9023… (all of the seat's roots in one cut). By AI agents, Wed Nov 11 2026. No macro, syntax, notation, axiom, sorry.
-/
import Derived.Test.YthkchdfkeieabaaChecked
import GoSem.Claim
import GoSem.ClaimJoined
import GoSem.ClaimMapViews
import Derived.JoinedTies
import Derived.KernelRfl
namespace Go.Proofs.Ythkchdfkeieabaa
/- THE CELL 'sum', in the pinned program and in every row, IS THE sha256 OF THE DUMP (.gsa) THAT YthkchdfkeieabaaProg.lean LOADS. Nothing in Lean hashes anything: it is a label: what it is worth is what the hold of that sum in a sandbox is worth. -/
noncomputable def Try.pinned : Pinned := { name := "ythkchdfkeieabaa", sum := "fa5efafadc1b90236d7784f6a9eb2846d6af406a8cd294c76a588723f4f4bf85", checked := Try.checked }
namespace Rows
def none {H : Type} : Left H := { results := [], args := [] }

/-- 'laws.FnExactCountRows': WHATEVER THE INPUT: true; the input reads as it did. -/
def fnExactCountRowsSpec : ChangeSpec := { name := "fnExactCountRows", fn := fun _ => fun
  | [d] => { results := [.lit (.bool true)], args := [d] }
  | _ => none }
def fnExactCountRowsRow : OpenClaim := { program := "ythkchdfkeieabaa", sum := "fa5efafadc1b90236d7784f6a9eb2846d6af406a8cd294c76a588723f4f4bf85", func := "loop.example/g01272/laws.FnExactCountRows", spec := "fnExactCountRows", unfollowed := true, recurses := true, apart := false }
def FnExactCountRowsSaid : Prop := fnExactCountRowsRow.holds Try.pinned (OpenSpec.ofChange fnExactCountRowsSpec)

/-- ITS FALSE NEIGHBOUR: 'it returns false'. Refute it at one input. -/
def fnExactCountRowsWrong : ChangeSpec := { name := "fnExactCountRows", fn := fun _ => fun
  | [d] => { results := [.lit (.bool false)], args := [d] }
  | _ => none }
def FnExactCountRowsWrongFalsely : Prop := fnExactCountRowsRow.holds Try.pinned (OpenSpec.ofChange fnExactCountRowsWrong)

/-- 'laws.FnExactCountBest': WHATEVER THE INPUT: true; the input reads as it did. -/
def fnExactCountBestSpec : ChangeSpec := { name := "fnExactCountBest", fn := fun _ => fun
  | [d] => { results := [.lit (.bool true)], args := [d] }
  | _ => none }
def fnExactCountBestRow : OpenClaim := { program := "ythkchdfkeieabaa", sum := "fa5efafadc1b90236d7784f6a9eb2846d6af406a8cd294c76a588723f4f4bf85", func := "loop.example/g01272/laws.FnExactCountBest", spec := "fnExactCountBest", unfollowed := true, recurses := true, apart := false }
def FnExactCountBestSaid : Prop := fnExactCountBestRow.holds Try.pinned (OpenSpec.ofChange fnExactCountBestSpec)

/-- ITS FALSE NEIGHBOUR: 'it returns false'. Refute it at one input. -/
def fnExactCountBestWrong : ChangeSpec := { name := "fnExactCountBest", fn := fun _ => fun
  | [d] => { results := [.lit (.bool false)], args := [d] }
  | _ => none }
def FnExactCountBestWrongFalsely : Prop := fnExactCountBestRow.holds Try.pinned (OpenSpec.ofChange fnExactCountBestWrong)

/-- 'laws.FnExactCountOfCrew': WHATEVER THE INPUT: true; the input reads as it did. -/
def fnExactCountOfCrewSpec : ChangeSpec := { name := "fnExactCountOfCrew", fn := fun _ => fun
  | [d] => { results := [.lit (.bool true)], args := [d] }
  | _ => none }
def fnExactCountOfCrewRow : OpenClaim := { program := "ythkchdfkeieabaa", sum := "fa5efafadc1b90236d7784f6a9eb2846d6af406a8cd294c76a588723f4f4bf85", func := "loop.example/g01272/laws.FnExactCountOfCrew", spec := "fnExactCountOfCrew", unfollowed := true, recurses := true, apart := false }
def FnExactCountOfCrewSaid : Prop := fnExactCountOfCrewRow.holds Try.pinned (OpenSpec.ofChange fnExactCountOfCrewSpec)

/-- ITS FALSE NEIGHBOUR: 'it returns false'. Refute it at one input. -/
def fnExactCountOfCrewWrong : ChangeSpec := { name := "fnExactCountOfCrew", fn := fun _ => fun
  | [d] => { results := [.lit (.bool false)], args := [d] }
  | _ => none }
def FnExactCountOfCrewWrongFalsely : Prop := fnExactCountOfCrewRow.holds Try.pinned (OpenSpec.ofChange fnExactCountOfCrewWrong)

/-- 'laws.FnExactCountRides': WHATEVER THE INPUT: true; the input reads as it did. -/
def fnExactCountRidesSpec : ChangeSpec := { name := "fnExactCountRides", fn := fun _ => fun
  | [d] => { results := [.lit (.bool true)], args := [d] }
  | _ => none }
def fnExactCountRidesRow : OpenClaim := { program := "ythkchdfkeieabaa", sum := "fa5efafadc1b90236d7784f6a9eb2846d6af406a8cd294c76a588723f4f4bf85", func := "loop.example/g01272/laws.FnExactCountRides", spec := "fnExactCountRides", unfollowed := true, recurses := true, apart := false }
def FnExactCountRidesSaid : Prop := fnExactCountRidesRow.holds Try.pinned (OpenSpec.ofChange fnExactCountRidesSpec)

/-- ITS FALSE NEIGHBOUR: 'it returns false'. Refute it at one input. -/
def fnExactCountRidesWrong : ChangeSpec := { name := "fnExactCountRides", fn := fun _ => fun
  | [d] => { results := [.lit (.bool false)], args := [d] }
  | _ => none }
def FnExactCountRidesWrongFalsely : Prop := fnExactCountRidesRow.holds Try.pinned (OpenSpec.ofChange fnExactCountRidesWrong)

/-- 'laws.FnExactFirstOfCrew': WHATEVER THE INPUT: true; the input reads as it did. -/
def fnExactFirstOfCrewSpec : ChangeSpec := { name := "fnExactFirstOfCrew", fn := fun _ => fun
  | [d] => { results := [.lit (.bool true)], args := [d] }
  | _ => none }
def fnExactFirstOfCrewRow : OpenClaim := { program := "ythkchdfkeieabaa", sum := "fa5efafadc1b90236d7784f6a9eb2846d6af406a8cd294c76a588723f4f4bf85", func := "loop.example/g01272/laws.FnExactFirstOfCrew", spec := "fnExactFirstOfCrew", unfollowed := true, recurses := true, apart := false }
def FnExactFirstOfCrewSaid : Prop := fnExactFirstOfCrewRow.holds Try.pinned (OpenSpec.ofChange fnExactFirstOfCrewSpec)

/-- ITS FALSE NEIGHBOUR: 'it returns false'. Refute it at one input. -/
def fnExactFirstOfCrewWrong : ChangeSpec := { name := "fnExactFirstOfCrew", fn := fun _ => fun
  | [d] => { results := [.lit (.bool false)], args := [d] }
  | _ => none }
def FnExactFirstOfCrewWrongFalsely : Prop := fnExactFirstOfCrewRow.holds Try.pinned (OpenSpec.ofChange fnExactFirstOfCrewWrong)

/-- 'laws.FnExactFirstRides': WHATEVER THE INPUT: true; the input reads as it did. -/
def fnExactFirstRidesSpec : ChangeSpec := { name := "fnExactFirstRides", fn := fun _ => fun
  | [d] => { results := [.lit (.bool true)], args := [d] }
  | _ => none }
def fnExactFirstRidesRow : OpenClaim := { program := "ythkchdfkeieabaa", sum := "fa5efafadc1b90236d7784f6a9eb2846d6af406a8cd294c76a588723f4f4bf85", func := "loop.example/g01272/laws.FnExactFirstRides", spec := "fnExactFirstRides", unfollowed := true, recurses := true, apart := false }
def FnExactFirstRidesSaid : Prop := fnExactFirstRidesRow.holds Try.pinned (OpenSpec.ofChange fnExactFirstRidesSpec)

/-- ITS FALSE NEIGHBOUR: 'it returns false'. Refute it at one input. -/
def fnExactFirstRidesWrong : ChangeSpec := { name := "fnExactFirstRides", fn := fun _ => fun
  | [d] => { results := [.lit (.bool false)], args := [d] }
  | _ => none }
def FnExactFirstRidesWrongFalsely : Prop := fnExactFirstRidesRow.holds Try.pinned (OpenSpec.ofChange fnExactFirstRidesWrong)

/-- 'laws.FnExactLeastMost': WHATEVER THE INPUT: true; the input reads as it did. -/
def fnExactLeastMostSpec : ChangeSpec := { name := "fnExactLeastMost", fn := fun _ => fun
  | [d] => { results := [.lit (.bool true)], args := [d] }
  | _ => none }
def fnExactLeastMostRow : OpenClaim := { program := "ythkchdfkeieabaa", sum := "fa5efafadc1b90236d7784f6a9eb2846d6af406a8cd294c76a588723f4f4bf85", func := "loop.example/g01272/laws.FnExactLeastMost", spec := "fnExactLeastMost", unfollowed := true, recurses := true, apart := false }
def FnExactLeastMostSaid : Prop := fnExactLeastMostRow.holds Try.pinned (OpenSpec.ofChange fnExactLeastMostSpec)

/-- ITS FALSE NEIGHBOUR: 'it returns false'. Refute it at one input. -/
def fnExactLeastMostWrong : ChangeSpec := { name := "fnExactLeastMost", fn := fun _ => fun
  | [d] => { results := [.lit (.bool false)], args := [d] }
  | _ => none }
def FnExactLeastMostWrongFalsely : Prop := fnExactLeastMostRow.holds Try.pinned (OpenSpec.ofChange fnExactLeastMostWrong)

/- THE SECOND FORM. 'bulk': how many values and letters a reading holds, each counted each time it is reached (what is shared counts as often as it is met; a slice's spare places count too). A statement '..UptoSaid' is the law's where the arguments, and the package variables that the reading takes, are together of bulk at most 1048576: NARROWER than '..Said'. Prove '..Said' where nothing that the law and all that it calls make is longer than what came in: it says more and counts as full. Else prove '..UptoSaid'. A law counts once. -/
mutual
def uptoBulk {H : Type} : DataW H → Nat
  | .lit (.string bytes) => bytes.length + 1
  | .lit _ => 1
  | .nil => 1
  | .ptr d => uptoBulk d + 1
  | .slice elems spare => uptoBulkAll elems + uptoBulkAll spare + 1
  | .agg parts => uptoBulkAll parts + 1
  | .iface _ d => uptoBulk d + 1
  | .map entries => uptoBulkEntries entries + 1
  | .held _ => 1
def uptoBulkAll {H : Type} : List (DataW H) → Nat
  | [] => 0
  | d :: r => uptoBulk d + uptoBulkAll r
def uptoBulkEntries {H : Type} : List (Lit × DataW H) → Nat
  | [] => 0
  | x :: r => uptoBulkEntry x + uptoBulkEntries r
def uptoBulkEntry {H : Type} : Lit × DataW H → Nat
  | (.string bytes, d) => bytes.length + uptoBulk d + 1
  | (_, d) => uptoBulk d + 1
 end
def uptoSmall : (H : Type) → List (DataW H) → Bool := fun _ ds => decide (uptoBulkAll ds ≤ 1048576)
def OpenSpec.upto (s : _root_.Go.ChangeSpec) : _root_.Go.OpenSpec := { _root_.Go.OpenSpec.ofChange s with cond := some uptoSmall }

/-- 'laws.FnExactCountRows', WHERE WHAT IT READS IS OF BULK AT MOST 1048576: true; the input reads as it did. -/
def fnExactCountRowsUptoRow : OpenClaim := { program := "ythkchdfkeieabaa", sum := "fa5efafadc1b90236d7784f6a9eb2846d6af406a8cd294c76a588723f4f4bf85", func := "loop.example/g01272/laws.FnExactCountRows", spec := "fnExactCountRows", unfollowed := true, recurses := true, apart := false, narrowed := true }
def FnExactCountRowsUptoSaid : Prop := fnExactCountRowsUptoRow.holds Try.pinned (OpenSpec.upto fnExactCountRowsSpec)

/-- 'laws.FnExactCountBest', WHERE WHAT IT READS IS OF BULK AT MOST 1048576: true; the input reads as it did. -/
def fnExactCountBestUptoRow : OpenClaim := { program := "ythkchdfkeieabaa", sum := "fa5efafadc1b90236d7784f6a9eb2846d6af406a8cd294c76a588723f4f4bf85", func := "loop.example/g01272/laws.FnExactCountBest", spec := "fnExactCountBest", unfollowed := true, recurses := true, apart := false, narrowed := true }
def FnExactCountBestUptoSaid : Prop := fnExactCountBestUptoRow.holds Try.pinned (OpenSpec.upto fnExactCountBestSpec)

/-- 'laws.FnExactCountOfCrew', WHERE WHAT IT READS IS OF BULK AT MOST 1048576: true; the input reads as it did. -/
def fnExactCountOfCrewUptoRow : OpenClaim := { program := "ythkchdfkeieabaa", sum := "fa5efafadc1b90236d7784f6a9eb2846d6af406a8cd294c76a588723f4f4bf85", func := "loop.example/g01272/laws.FnExactCountOfCrew", spec := "fnExactCountOfCrew", unfollowed := true, recurses := true, apart := false, narrowed := true }
def FnExactCountOfCrewUptoSaid : Prop := fnExactCountOfCrewUptoRow.holds Try.pinned (OpenSpec.upto fnExactCountOfCrewSpec)

/-- 'laws.FnExactCountRides', WHERE WHAT IT READS IS OF BULK AT MOST 1048576: true; the input reads as it did. -/
def fnExactCountRidesUptoRow : OpenClaim := { program := "ythkchdfkeieabaa", sum := "fa5efafadc1b90236d7784f6a9eb2846d6af406a8cd294c76a588723f4f4bf85", func := "loop.example/g01272/laws.FnExactCountRides", spec := "fnExactCountRides", unfollowed := true, recurses := true, apart := false, narrowed := true }
def FnExactCountRidesUptoSaid : Prop := fnExactCountRidesUptoRow.holds Try.pinned (OpenSpec.upto fnExactCountRidesSpec)

/-- 'laws.FnExactFirstOfCrew', WHERE WHAT IT READS IS OF BULK AT MOST 1048576: true; the input reads as it did. -/
def fnExactFirstOfCrewUptoRow : OpenClaim := { program := "ythkchdfkeieabaa", sum := "fa5efafadc1b90236d7784f6a9eb2846d6af406a8cd294c76a588723f4f4bf85", func := "loop.example/g01272/laws.FnExactFirstOfCrew", spec := "fnExactFirstOfCrew", unfollowed := true, recurses := true, apart := false, narrowed := true }
def FnExactFirstOfCrewUptoSaid : Prop := fnExactFirstOfCrewUptoRow.holds Try.pinned (OpenSpec.upto fnExactFirstOfCrewSpec)

/-- 'laws.FnExactFirstRides', WHERE WHAT IT READS IS OF BULK AT MOST 1048576: true; the input reads as it did. -/
def fnExactFirstRidesUptoRow : OpenClaim := { program := "ythkchdfkeieabaa", sum := "fa5efafadc1b90236d7784f6a9eb2846d6af406a8cd294c76a588723f4f4bf85", func := "loop.example/g01272/laws.FnExactFirstRides", spec := "fnExactFirstRides", unfollowed := true, recurses := true, apart := false, narrowed := true }
def FnExactFirstRidesUptoSaid : Prop := fnExactFirstRidesUptoRow.holds Try.pinned (OpenSpec.upto fnExactFirstRidesSpec)

/-- 'laws.FnExactLeastMost', WHERE WHAT IT READS IS OF BULK AT MOST 1048576: true; the input reads as it did. -/
def fnExactLeastMostUptoRow : OpenClaim := { program := "ythkchdfkeieabaa", sum := "fa5efafadc1b90236d7784f6a9eb2846d6af406a8cd294c76a588723f4f4bf85", func := "loop.example/g01272/laws.FnExactLeastMost", spec := "fnExactLeastMost", unfollowed := true, recurses := true, apart := false, narrowed := true }
def FnExactLeastMostUptoSaid : Prop := fnExactLeastMostUptoRow.holds Try.pinned (OpenSpec.upto fnExactLeastMostSpec)

end Rows
end Go.Proofs.Ythkchdfkeieabaa
