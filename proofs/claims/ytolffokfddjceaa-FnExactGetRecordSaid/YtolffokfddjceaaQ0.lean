/- The program's functions as Lean functions, and for each the proof that the machine's call comes to what its function says. Conditions: those that stand before each theorem. -/
import Derived.Test.YtolffokfddjceaaProg
import Derived.Below
import Derived.Deep.Draws
import Derived.Deep.AppendLies
import Derived.Maps.AppendAt
import Derived.OwnWalk
import Derived.Laws.BytesArg
import Derived.Laws.MakeOwn
import Derived.Laws.OwnMore
import Derived.Deep.OwnRows
import Derived.Tactics
import Derived.Lib.ConvBytes
import Derived.Laws.Slices
import Derived.WalkKit
import Derived.KernelRfl
import Derived.RowKit3
import Derived.Deep.LoopGhost
import Derived.Deep.QuietTactic
import Derived.BigQuiet
import Derived.WideLaws
import Derived.Deep.DeepCutAuto
import Derived.Deep.CutBlock
import Derived.Deep.RegionHeld3
import Derived.Laws.Rows
import Derived.Lib.AppendStr
import Derived.ArgAppend
import Derived.Laws.IdiomCopy
import Derived.OrdersHeld
import Derived.Laws.BitsLemmas
import Derived.RowKit
import Derived.Test.YtolffokfddjceaaStrCmp
import Derived.Test.YtolffokfddjceaaWWords
import Derived.Test.YtolffokfddjceaaWLast
import Derived.Test.YtolffokfddjceaaWTab
import Derived.Test.YtolffokfddjceaaWFour
import Derived.Test.YtolffokfddjceaaWQPut
import Derived.Test.YtolffokfddjceaaWApart
import Derived.Test.YtolffokfddjceaaWArr
import Derived.Test.YtolffokfddjceaaWZeros
import Derived.Test.YtolffokfddjceaaWFoot
import Derived.Test.YtolffokfddjceaaWKept
import Derived.Test.YtolffokfddjceaaWShare
import Derived.Test.YtolffokfddjceaaWN
import Derived.Test.YtolffokfddjceaaWFootNe
import Derived.Test.YtolffokfddjceaaWAt
import Derived.Test.YtolffokfddjceaaWEqStruct
import Derived.Test.YtolffokfddjceaaWRepsOne
import Derived.Test.YtolffokfddjceaaWInv
import Derived.Test.YtolffokfddjceaaWInvWords
import Derived.Test.YtolffokfddjceaaWGuard
import Derived.Test.YtolffokfddjceaaWNEv
import Derived.Test.YtolffokfddjceaaWMore
namespace Go.Proofs.Ytolffokfddjceaa.Q
open Go.RowKit Go.Proofs.YtolffokfddjceaaW.PrintWords Go.Proofs.YtolffokfddjceaaW.PrintLast Go.Proofs.YtolffokfddjceaaW.PrintMore
attribute [local go_sem] max2_int min2_int max_two min_two max_three min_three max_four min_four   -- for this text's walks alone
set_option linter.unusedVariables false
set_option linter.unusedSimpArgs false



def errW : Option Int → Value
  | none => .nilIface
  | some c => .iface 0 (.int .i64 c)
theorem errW_none : errW none = .nilIface := rfl
theorem errW_some (c : Int) : errW (some c) = .iface 0 (.int .i64 c) := rfl

-- the values' own types

end Go.Proofs.Ytolffokfddjceaa.Q
