/- Contracts of functions of the given program, walked: each call returns what its Lean function says. Conditions: those that stand at each theorem. (Written by a program of this session.) -/
import Derived.Test.YtglegmmpmcnpkaaProg
import Derived.Below
import Derived.Deep.Draws
import Derived.Deep.AppendLies
import Derived.Maps.AppendAt
import Derived.OwnWalk
import Derived.Laws.BytesArg
import Derived.Laws.MakeOwn
import Derived.Laws.OwnMore
import Derived.Deep.OwnRows
import Derived.Tactics
import Derived.Lib.ConvBytes
import Derived.Laws.Slices
import Derived.WalkKit
import Derived.KernelRfl
import Derived.RowKit3
import Derived.Deep.LoopGhost
import Derived.Deep.QuietTactic
import Derived.BigQuiet
import Derived.WideLaws
import Derived.Deep.DeepCutAuto
import Derived.Deep.CutBlock
import Derived.Deep.RegionHeld3
import Derived.Laws.Rows
import Derived.Lib.AppendStr
import Derived.ArgAppend
import Derived.Laws.IdiomCopy
import Derived.OrdersHeld
import Derived.Laws.BitsLemmas
import Derived.RowKit
import Derived.Shelf.Abstract
import Derived.WalkLawsBesides
import Derived.Test.YtglegmmpmcnpkaaWWords
import Derived.Test.YtglegmmpmcnpkaaWLast
import Derived.Test.YtglegmmpmcnpkaaWTab
import Derived.Test.YtglegmmpmcnpkaaWFour
import Derived.Test.YtglegmmpmcnpkaaWQPut
import Derived.Test.YtglegmmpmcnpkaaWApart
import Derived.Test.YtglegmmpmcnpkaaWArr
import Derived.Test.YtglegmmpmcnpkaaWZeros
import Derived.Test.YtglegmmpmcnpkaaWFoot
import Derived.Test.YtglegmmpmcnpkaaWKept
import Derived.Test.YtglegmmpmcnpkaaWShare
import Derived.Test.YtglegmmpmcnpkaaWN
import Derived.Test.YtglegmmpmcnpkaaWFootNe
import Derived.Test.YtglegmmpmcnpkaaWAt
import Derived.Test.YtglegmmpmcnpkaaWEqStruct
import Derived.Test.YtglegmmpmcnpkaaWRepsOne
import Derived.Test.YtglegmmpmcnpkaaWInv
import Derived.Test.YtglegmmpmcnpkaaWInvWords
import Derived.Test.YtglegmmpmcnpkaaWGuard
import Derived.Test.YtglegmmpmcnpkaaWNEv
import Derived.Test.YtglegmmpmcnpkaaWMore
namespace Go.Proofs.Ytglegmmpmcnpkaa.QFnExactIsClue
open Go.RowKit Go.Proofs.YtglegmmpmcnpkaaW.PrintWords Go.Proofs.YtglegmmpmcnpkaaW.PrintLast Go.Proofs.YtglegmmpmcnpkaaW.PrintMore
attribute [local go_sem] max2_int min2_int max_two min_two max_three min_three max_four min_four   -- for this text's walks alone
set_option linter.unusedVariables false
set_option linter.unusedSimpArgs false



def errW : Option Int → Value
  | none => .nilIface
  | some c => .iface 0 (.int .i64 c)
theorem errW_none : errW none = .nilIface := rfl
theorem errW_some (c : Int) : errW (some c) = .iface 0 (.int .i64 c) := rfl

-- the values' own types

end Go.Proofs.Ytglegmmpmcnpkaa.QFnExactIsClue
