/-
  No cell of these rows narrows 'for every input' (looked for: loops, veiled, ifaces, maps, wideKeys, modest, calm, conditions, laid).
  DERIVED. THE GIVEN ROWS OF THIS SEAT. 7 by the template 'for every input the law returns true; each argument reads behind the call as it read before'; 0 by the template 'total and deterministic' (their statements: YtmdbhpbogbekmaaTotals.lean).
  GIVEN WITH THE SEED: the statements are not yours to turn. If you find one false, say at which input.
  Laid BY PROGRAM, IN A SANDBOX (cutbox-rows.mjs): the forced cells as the released guide's own fill.sh prints them over the translation e4580fbdd3f4d07d… (all of the seat's roots in one cut). By AI agents, Wed Nov 11 2026. No macro, syntax, notation, axiom, sorry.
-/
import Derived.Test.YtmdbhpbogbekmaaChecked
import GoSem.Claim
import GoSem.ClaimJoined
import GoSem.ClaimMapViews
import Derived.JoinedTies
import Derived.KernelRfl
namespace Go.Proofs.Ytmdbhpbogbekmaa
/- THE CELL 'sum', in the pinned program and in every row, IS THE sha256 OF THE DUMP (.gsa) THAT YtmdbhpbogbekmaaProg.lean LOADS. Nothing in Lean hashes anything: it is a label: what it is worth is what the hold of that sum in a sandbox is worth. -/
noncomputable def Try.pinned : Pinned := { name := "ytmdbhpbogbekmaa", sum := "e4580fbdd3f4d07da957e734fa899e7f9bf15bfe953d4626fdf53c10430be189", checked := Try.checked }
namespace Rows
def none {H : Type} : Left H := { results := [], args := [] }

/-- 'laws.FnExactRoundsOfNight': WHATEVER THE INPUT: true; the input reads as it did. -/
def fnExactRoundsOfNightSpec : ChangeSpec := { name := "fnExactRoundsOfNight", fn := fun _ => fun
  | [d1, d2] => { results := [.lit (.bool true)], args := [d1, d2] }
  | _ => none }
def fnExactRoundsOfNightRow : OpenClaim := { program := "ytmdbhpbogbekmaa", sum := "e4580fbdd3f4d07da957e734fa899e7f9bf15bfe953d4626fdf53c10430be189", func := "loop.example/g01272/laws.FnExactRoundsOfNight", spec := "fnExactRoundsOfNight", unfollowed := true, recurses := true, apart := false }
def FnExactRoundsOfNightSaid : Prop := fnExactRoundsOfNightRow.holds Try.pinned (OpenSpec.ofChange fnExactRoundsOfNightSpec)

/-- ITS FALSE NEIGHBOUR: 'it returns false'. Refute it at one input. -/
def fnExactRoundsOfNightWrong : ChangeSpec := { name := "fnExactRoundsOfNight", fn := fun _ => fun
  | [d1, d2] => { results := [.lit (.bool false)], args := [d1, d2] }
  | _ => none }
def FnExactRoundsOfNightWrongFalsely : Prop := fnExactRoundsOfNightRow.holds Try.pinned (OpenSpec.ofChange fnExactRoundsOfNightWrong)

/-- 'laws.FnExactCountCampsReached': WHATEVER THE INPUT: true; the input reads as it did. -/
def fnExactCountCampsReachedSpec : ChangeSpec := { name := "fnExactCountCampsReached", fn := fun _ => fun
  | [d] => { results := [.lit (.bool true)], args := [d] }
  | _ => none }
def fnExactCountCampsReachedRow : OpenClaim := { program := "ytmdbhpbogbekmaa", sum := "e4580fbdd3f4d07da957e734fa899e7f9bf15bfe953d4626fdf53c10430be189", func := "loop.example/g01272/laws.FnExactCountCampsReached", spec := "fnExactCountCampsReached", unfollowed := true, recurses := true, apart := false }
def FnExactCountCampsReachedSaid : Prop := fnExactCountCampsReachedRow.holds Try.pinned (OpenSpec.ofChange fnExactCountCampsReachedSpec)

/-- ITS FALSE NEIGHBOUR: 'it returns false'. Refute it at one input. -/
def fnExactCountCampsReachedWrong : ChangeSpec := { name := "fnExactCountCampsReached", fn := fun _ => fun
  | [d] => { results := [.lit (.bool false)], args := [d] }
  | _ => none }
def FnExactCountCampsReachedWrongFalsely : Prop := fnExactCountCampsReachedRow.holds Try.pinned (OpenSpec.ofChange fnExactCountCampsReachedWrong)

/-- 'laws.FnExactFewestRounds': WHATEVER THE INPUT: true; the input reads as it did. -/
def fnExactFewestRoundsSpec : ChangeSpec := { name := "fnExactFewestRounds", fn := fun _ => fun
  | [d] => { results := [.lit (.bool true)], args := [d] }
  | _ => none }
def fnExactFewestRoundsRow : OpenClaim := { program := "ytmdbhpbogbekmaa", sum := "e4580fbdd3f4d07da957e734fa899e7f9bf15bfe953d4626fdf53c10430be189", func := "loop.example/g01272/laws.FnExactFewestRounds", spec := "fnExactFewestRounds", unfollowed := true, recurses := true, apart := false }
def FnExactFewestRoundsSaid : Prop := fnExactFewestRoundsRow.holds Try.pinned (OpenSpec.ofChange fnExactFewestRoundsSpec)

/-- ITS FALSE NEIGHBOUR: 'it returns false'. Refute it at one input. -/
def fnExactFewestRoundsWrong : ChangeSpec := { name := "fnExactFewestRounds", fn := fun _ => fun
  | [d] => { results := [.lit (.bool false)], args := [d] }
  | _ => none }
def FnExactFewestRoundsWrongFalsely : Prop := fnExactFewestRoundsRow.holds Try.pinned (OpenSpec.ofChange fnExactFewestRoundsWrong)

/-- 'laws.FnExactLeastNight': WHATEVER THE INPUT: true; the input reads as it did. -/
def fnExactLeastNightSpec : ChangeSpec := { name := "fnExactLeastNight", fn := fun _ => fun
  | [d] => { results := [.lit (.bool true)], args := [d] }
  | _ => none }
def fnExactLeastNightRow : OpenClaim := { program := "ytmdbhpbogbekmaa", sum := "e4580fbdd3f4d07da957e734fa899e7f9bf15bfe953d4626fdf53c10430be189", func := "loop.example/g01272/laws.FnExactLeastNight", spec := "fnExactLeastNight", unfollowed := true, recurses := true, apart := false }
def FnExactLeastNightSaid : Prop := fnExactLeastNightRow.holds Try.pinned (OpenSpec.ofChange fnExactLeastNightSpec)

/-- ITS FALSE NEIGHBOUR: 'it returns false'. Refute it at one input. -/
def fnExactLeastNightWrong : ChangeSpec := { name := "fnExactLeastNight", fn := fun _ => fun
  | [d] => { results := [.lit (.bool false)], args := [d] }
  | _ => none }
def FnExactLeastNightWrongFalsely : Prop := fnExactLeastNightRow.holds Try.pinned (OpenSpec.ofChange fnExactLeastNightWrong)

/-- 'laws.FnExactTorchGain': WHATEVER THE INPUT: true; the input reads as it did. -/
def fnExactTorchGainSpec : ChangeSpec := { name := "fnExactTorchGain", fn := fun _ => fun
  | [d] => { results := [.lit (.bool true)], args := [d] }
  | _ => none }
def fnExactTorchGainRow : OpenClaim := { program := "ytmdbhpbogbekmaa", sum := "e4580fbdd3f4d07da957e734fa899e7f9bf15bfe953d4626fdf53c10430be189", func := "loop.example/g01272/laws.FnExactTorchGain", spec := "fnExactTorchGain", unfollowed := true, recurses := true, apart := false }
def FnExactTorchGainSaid : Prop := fnExactTorchGainRow.holds Try.pinned (OpenSpec.ofChange fnExactTorchGainSpec)

/-- ITS FALSE NEIGHBOUR: 'it returns false'. Refute it at one input. -/
def fnExactTorchGainWrong : ChangeSpec := { name := "fnExactTorchGain", fn := fun _ => fun
  | [d] => { results := [.lit (.bool false)], args := [d] }
  | _ => none }
def FnExactTorchGainWrongFalsely : Prop := fnExactTorchGainRow.holds Try.pinned (OpenSpec.ofChange fnExactTorchGainWrong)

/-- 'laws.FnExactTimeFromCamp': WHATEVER THE INPUT: true; the input reads as it did. -/
def fnExactTimeFromCampSpec : ChangeSpec := { name := "fnExactTimeFromCamp", fn := fun _ => fun
  | [d1, d2] => { results := [.lit (.bool true)], args := [d1, d2] }
  | _ => none }
def fnExactTimeFromCampRow : OpenClaim := { program := "ytmdbhpbogbekmaa", sum := "e4580fbdd3f4d07da957e734fa899e7f9bf15bfe953d4626fdf53c10430be189", func := "loop.example/g01272/laws.FnExactTimeFromCamp", spec := "fnExactTimeFromCamp", unfollowed := true, recurses := true, apart := false }
def FnExactTimeFromCampSaid : Prop := fnExactTimeFromCampRow.holds Try.pinned (OpenSpec.ofChange fnExactTimeFromCampSpec)

/-- ITS FALSE NEIGHBOUR: 'it returns false'. Refute it at one input. -/
def fnExactTimeFromCampWrong : ChangeSpec := { name := "fnExactTimeFromCamp", fn := fun _ => fun
  | [d1, d2] => { results := [.lit (.bool false)], args := [d1, d2] }
  | _ => none }
def FnExactTimeFromCampWrongFalsely : Prop := fnExactTimeFromCampRow.holds Try.pinned (OpenSpec.ofChange fnExactTimeFromCampWrong)

/-- 'laws.FnExactFirstNight': WHATEVER THE INPUT: true; the input reads as it did. -/
def fnExactFirstNightSpec : ChangeSpec := { name := "fnExactFirstNight", fn := fun _ => fun
  | [d] => { results := [.lit (.bool true)], args := [d] }
  | _ => none }
def fnExactFirstNightRow : OpenClaim := { program := "ytmdbhpbogbekmaa", sum := "e4580fbdd3f4d07da957e734fa899e7f9bf15bfe953d4626fdf53c10430be189", func := "loop.example/g01272/laws.FnExactFirstNight", spec := "fnExactFirstNight", unfollowed := true, recurses := true, apart := false }
def FnExactFirstNightSaid : Prop := fnExactFirstNightRow.holds Try.pinned (OpenSpec.ofChange fnExactFirstNightSpec)

/-- ITS FALSE NEIGHBOUR: 'it returns false'. Refute it at one input. -/
def fnExactFirstNightWrong : ChangeSpec := { name := "fnExactFirstNight", fn := fun _ => fun
  | [d] => { results := [.lit (.bool false)], args := [d] }
  | _ => none }
def FnExactFirstNightWrongFalsely : Prop := fnExactFirstNightRow.holds Try.pinned (OpenSpec.ofChange fnExactFirstNightWrong)

/- THE SECOND FORM. 'bulk': how many values and letters a reading holds, each counted each time it is reached (what is shared counts as often as it is met; a slice's spare places count too). A statement '..UptoSaid' is the law's where the arguments, and the package variables that the reading takes, are together of bulk at most 1048576: NARROWER than '..Said'. Prove '..Said' where nothing that the law and all that it calls make is longer than what came in: it says more and counts as full. Else prove '..UptoSaid'. A law counts once. -/
mutual
def uptoBulk {H : Type} : DataW H → Nat
  | .lit (.string bytes) => bytes.length + 1
  | .lit _ => 1
  | .nil => 1
  | .ptr d => uptoBulk d + 1
  | .slice elems spare => uptoBulkAll elems + uptoBulkAll spare + 1
  | .agg parts => uptoBulkAll parts + 1
  | .iface _ d => uptoBulk d + 1
  | .map entries => uptoBulkEntries entries + 1
  | .held _ => 1
def uptoBulkAll {H : Type} : List (DataW H) → Nat
  | [] => 0
  | d :: r => uptoBulk d + uptoBulkAll r
def uptoBulkEntries {H : Type} : List (Lit × DataW H) → Nat
  | [] => 0
  | x :: r => uptoBulkEntry x + uptoBulkEntries r
def uptoBulkEntry {H : Type} : Lit × DataW H → Nat
  | (.string bytes, d) => bytes.length + uptoBulk d + 1
  | (_, d) => uptoBulk d + 1
 end
def uptoSmall : (H : Type) → List (DataW H) → Bool := fun _ ds => decide (uptoBulkAll ds ≤ 1048576)
def OpenSpec.upto (s : _root_.Go.ChangeSpec) : _root_.Go.OpenSpec := { _root_.Go.OpenSpec.ofChange s with cond := some uptoSmall }

/-- 'laws.FnExactRoundsOfNight', WHERE WHAT IT READS IS OF BULK AT MOST 1048576: true; the input reads as it did. -/
def fnExactRoundsOfNightUptoRow : OpenClaim := { program := "ytmdbhpbogbekmaa", sum := "e4580fbdd3f4d07da957e734fa899e7f9bf15bfe953d4626fdf53c10430be189", func := "loop.example/g01272/laws.FnExactRoundsOfNight", spec := "fnExactRoundsOfNight", unfollowed := true, recurses := true, apart := false, narrowed := true }
def FnExactRoundsOfNightUptoSaid : Prop := fnExactRoundsOfNightUptoRow.holds Try.pinned (OpenSpec.upto fnExactRoundsOfNightSpec)

/-- 'laws.FnExactCountCampsReached', WHERE WHAT IT READS IS OF BULK AT MOST 1048576: true; the input reads as it did. -/
def fnExactCountCampsReachedUptoRow : OpenClaim := { program := "ytmdbhpbogbekmaa", sum := "e4580fbdd3f4d07da957e734fa899e7f9bf15bfe953d4626fdf53c10430be189", func := "loop.example/g01272/laws.FnExactCountCampsReached", spec := "fnExactCountCampsReached", unfollowed := true, recurses := true, apart := false, narrowed := true }
def FnExactCountCampsReachedUptoSaid : Prop := fnExactCountCampsReachedUptoRow.holds Try.pinned (OpenSpec.upto fnExactCountCampsReachedSpec)

/-- 'laws.FnExactFewestRounds', WHERE WHAT IT READS IS OF BULK AT MOST 1048576: true; the input reads as it did. -/
def fnExactFewestRoundsUptoRow : OpenClaim := { program := "ytmdbhpbogbekmaa", sum := "e4580fbdd3f4d07da957e734fa899e7f9bf15bfe953d4626fdf53c10430be189", func := "loop.example/g01272/laws.FnExactFewestRounds", spec := "fnExactFewestRounds", unfollowed := true, recurses := true, apart := false, narrowed := true }
def FnExactFewestRoundsUptoSaid : Prop := fnExactFewestRoundsUptoRow.holds Try.pinned (OpenSpec.upto fnExactFewestRoundsSpec)

/-- 'laws.FnExactLeastNight', WHERE WHAT IT READS IS OF BULK AT MOST 1048576: true; the input reads as it did. -/
def fnExactLeastNightUptoRow : OpenClaim := { program := "ytmdbhpbogbekmaa", sum := "e4580fbdd3f4d07da957e734fa899e7f9bf15bfe953d4626fdf53c10430be189", func := "loop.example/g01272/laws.FnExactLeastNight", spec := "fnExactLeastNight", unfollowed := true, recurses := true, apart := false, narrowed := true }
def FnExactLeastNightUptoSaid : Prop := fnExactLeastNightUptoRow.holds Try.pinned (OpenSpec.upto fnExactLeastNightSpec)

/-- 'laws.FnExactTorchGain', WHERE WHAT IT READS IS OF BULK AT MOST 1048576: true; the input reads as it did. -/
def fnExactTorchGainUptoRow : OpenClaim := { program := "ytmdbhpbogbekmaa", sum := "e4580fbdd3f4d07da957e734fa899e7f9bf15bfe953d4626fdf53c10430be189", func := "loop.example/g01272/laws.FnExactTorchGain", spec := "fnExactTorchGain", unfollowed := true, recurses := true, apart := false, narrowed := true }
def FnExactTorchGainUptoSaid : Prop := fnExactTorchGainUptoRow.holds Try.pinned (OpenSpec.upto fnExactTorchGainSpec)

/-- 'laws.FnExactTimeFromCamp', WHERE WHAT IT READS IS OF BULK AT MOST 1048576: true; the input reads as it did. -/
def fnExactTimeFromCampUptoRow : OpenClaim := { program := "ytmdbhpbogbekmaa", sum := "e4580fbdd3f4d07da957e734fa899e7f9bf15bfe953d4626fdf53c10430be189", func := "loop.example/g01272/laws.FnExactTimeFromCamp", spec := "fnExactTimeFromCamp", unfollowed := true, recurses := true, apart := false, narrowed := true }
def FnExactTimeFromCampUptoSaid : Prop := fnExactTimeFromCampUptoRow.holds Try.pinned (OpenSpec.upto fnExactTimeFromCampSpec)

/-- 'laws.FnExactFirstNight', WHERE WHAT IT READS IS OF BULK AT MOST 1048576: true; the input reads as it did. -/
def fnExactFirstNightUptoRow : OpenClaim := { program := "ytmdbhpbogbekmaa", sum := "e4580fbdd3f4d07da957e734fa899e7f9bf15bfe953d4626fdf53c10430be189", func := "loop.example/g01272/laws.FnExactFirstNight", spec := "fnExactFirstNight", unfollowed := true, recurses := true, apart := false, narrowed := true }
def FnExactFirstNightUptoSaid : Prop := fnExactFirstNightUptoRow.holds Try.pinned (OpenSpec.upto fnExactFirstNightSpec)

end Rows
end Go.Proofs.Ytmdbhpbogbekmaa
