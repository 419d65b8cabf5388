/-
  No cell of these rows narrows 'for every input' (looked for: loops, veiled, ifaces, maps, wideKeys, modest, calm, conditions, laid).
  DERIVED. THE GIVEN ROWS OF THIS SEAT. 2 by the template 'for every input the law returns true; each argument reads behind the call as it read before'; 0 by the template 'total and deterministic' (their statements: YtkdmjjihphnmdaaTotals.lean).
  GIVEN WITH THE SEED: the statements are not yours to turn. If you find one false, say at which input.
  Laid BY PROGRAM, IN A SANDBOX (cutbox-rows.mjs): the forced cells as the released guide's own fill.sh prints them over the translation 05aafcb601757b67… (all of the seat's roots in one cut). By AI agents, Wed Nov 11 2026. No macro, syntax, notation, axiom, sorry.
-/
import Derived.Test.YtkdmjjihphnmdaaChecked
import GoSem.Claim
import GoSem.ClaimJoined
import GoSem.ClaimMapViews
import Derived.JoinedTies
import Derived.KernelRfl
namespace Go.Proofs.Ytkdmjjihphnmdaa
/- THE CELL 'sum', in the pinned program and in every row, IS THE sha256 OF THE DUMP (.gsa) THAT YtkdmjjihphnmdaaProg.lean LOADS. Nothing in Lean hashes anything: it is a label: what it is worth is what the hold of that sum in a sandbox is worth. -/
noncomputable def Try.pinned : Pinned := { name := "ytkdmjjihphnmdaa", sum := "05aafcb601757b6793773ae2d5792e4c7ccf69a91a0050260c956ec157761020", checked := Try.checked }
namespace Rows
def none {H : Type} : Left H := { results := [], args := [] }

/-- 'laws.FnTripsCrossOfAll': WHATEVER THE INPUT: true; the input reads as it did. -/
def fnTripsCrossOfAllSpec : ChangeSpec := { name := "fnTripsCrossOfAll", fn := fun _ => fun
  | [d1, d2, d3, d4, d5, d6] => { results := [.lit (.bool true)], args := [d1, d2, d3, d4, d5, d6] }
  | _ => none }
def fnTripsCrossOfAllRow : OpenClaim := { program := "ytkdmjjihphnmdaa", sum := "05aafcb601757b6793773ae2d5792e4c7ccf69a91a0050260c956ec157761020", func := "loop.example/g01272/laws.FnTripsCrossOfAll", spec := "fnTripsCrossOfAll", unfollowed := true, recurses := true, apart := false }
def FnTripsCrossOfAllSaid : Prop := fnTripsCrossOfAllRow.holds Try.pinned (OpenSpec.ofChange fnTripsCrossOfAllSpec)

/-- ITS FALSE NEIGHBOUR: 'it returns false'. Refute it at one input. -/
def fnTripsCrossOfAllWrong : ChangeSpec := { name := "fnTripsCrossOfAll", fn := fun _ => fun
  | [d1, d2, d3, d4, d5, d6] => { results := [.lit (.bool false)], args := [d1, d2, d3, d4, d5, d6] }
  | _ => none }
def FnTripsCrossOfAllWrongFalsely : Prop := fnTripsCrossOfAllRow.holds Try.pinned (OpenSpec.ofChange fnTripsCrossOfAllWrong)

/-- 'laws.FnExactSwapCouples': WHATEVER THE INPUT: true; the input reads as it did. -/
def fnExactSwapCouplesSpec : ChangeSpec := { name := "fnExactSwapCouples", fn := fun _ => fun
  | [d1, d2, d3, d4] => { results := [.lit (.bool true)], args := [d1, d2, d3, d4] }
  | _ => none }
def fnExactSwapCouplesRow : OpenClaim := { program := "ytkdmjjihphnmdaa", sum := "05aafcb601757b6793773ae2d5792e4c7ccf69a91a0050260c956ec157761020", func := "loop.example/g01272/laws.FnExactSwapCouples", spec := "fnExactSwapCouples", unfollowed := true, recurses := true, apart := false }
def FnExactSwapCouplesSaid : Prop := fnExactSwapCouplesRow.holds Try.pinned (OpenSpec.ofChange fnExactSwapCouplesSpec)

/-- ITS FALSE NEIGHBOUR: 'it returns false'. Refute it at one input. -/
def fnExactSwapCouplesWrong : ChangeSpec := { name := "fnExactSwapCouples", fn := fun _ => fun
  | [d1, d2, d3, d4] => { results := [.lit (.bool false)], args := [d1, d2, d3, d4] }
  | _ => none }
def FnExactSwapCouplesWrongFalsely : Prop := fnExactSwapCouplesRow.holds Try.pinned (OpenSpec.ofChange fnExactSwapCouplesWrong)

/- THE SECOND FORM. 'bulk': how many values and letters a reading holds, each counted each time it is reached (what is shared counts as often as it is met; a slice's spare places count too). A statement '..UptoSaid' is the law's where the arguments, and the package variables that the reading takes, are together of bulk at most 1048576: NARROWER than '..Said'. Prove '..Said' where nothing that the law and all that it calls make is longer than what came in: it says more and counts as full. Else prove '..UptoSaid'. A law counts once. -/
mutual
def uptoBulk {H : Type} : DataW H → Nat
  | .lit (.string bytes) => bytes.length + 1
  | .lit _ => 1
  | .nil => 1
  | .ptr d => uptoBulk d + 1
  | .slice elems spare => uptoBulkAll elems + uptoBulkAll spare + 1
  | .agg parts => uptoBulkAll parts + 1
  | .iface _ d => uptoBulk d + 1
  | .map entries => uptoBulkEntries entries + 1
  | .held _ => 1
def uptoBulkAll {H : Type} : List (DataW H) → Nat
  | [] => 0
  | d :: r => uptoBulk d + uptoBulkAll r
def uptoBulkEntries {H : Type} : List (Lit × DataW H) → Nat
  | [] => 0
  | x :: r => uptoBulkEntry x + uptoBulkEntries r
def uptoBulkEntry {H : Type} : Lit × DataW H → Nat
  | (.string bytes, d) => bytes.length + uptoBulk d + 1
  | (_, d) => uptoBulk d + 1
 end
def uptoSmall : (H : Type) → List (DataW H) → Bool := fun _ ds => decide (uptoBulkAll ds ≤ 1048576)
def OpenSpec.upto (s : _root_.Go.ChangeSpec) : _root_.Go.OpenSpec := { _root_.Go.OpenSpec.ofChange s with cond := some uptoSmall }

/-- 'laws.FnTripsCrossOfAll', WHERE WHAT IT READS IS OF BULK AT MOST 1048576: true; the input reads as it did. -/
def fnTripsCrossOfAllUptoRow : OpenClaim := { program := "ytkdmjjihphnmdaa", sum := "05aafcb601757b6793773ae2d5792e4c7ccf69a91a0050260c956ec157761020", func := "loop.example/g01272/laws.FnTripsCrossOfAll", spec := "fnTripsCrossOfAll", unfollowed := true, recurses := true, apart := false, narrowed := true }
def FnTripsCrossOfAllUptoSaid : Prop := fnTripsCrossOfAllUptoRow.holds Try.pinned (OpenSpec.upto fnTripsCrossOfAllSpec)

/-- 'laws.FnExactSwapCouples', WHERE WHAT IT READS IS OF BULK AT MOST 1048576: true; the input reads as it did. -/
def fnExactSwapCouplesUptoRow : OpenClaim := { program := "ytkdmjjihphnmdaa", sum := "05aafcb601757b6793773ae2d5792e4c7ccf69a91a0050260c956ec157761020", func := "loop.example/g01272/laws.FnExactSwapCouples", spec := "fnExactSwapCouples", unfollowed := true, recurses := true, apart := false, narrowed := true }
def FnExactSwapCouplesUptoSaid : Prop := fnExactSwapCouplesUptoRow.holds Try.pinned (OpenSpec.upto fnExactSwapCouplesSpec)

end Rows
end Go.Proofs.Ytkdmjjihphnmdaa
