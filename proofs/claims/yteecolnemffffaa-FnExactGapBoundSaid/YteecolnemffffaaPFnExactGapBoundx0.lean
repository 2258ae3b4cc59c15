-- by a program of this session's, over the kit's words
import Derived.Test.YteecolnemffffaaProg
import Derived.Below
import Derived.Deep.Draws
import Derived.Deep.AppendLies
import Derived.Maps.AppendAt
import Derived.OwnWalk
import Derived.Laws.BytesArg
import Derived.Laws.MakeOwn
import Derived.Laws.OwnMore
import Derived.Deep.OwnRows
import Derived.Tactics
import Derived.Lib.ConvBytes
import Derived.Laws.Slices
import Derived.WalkKit
import Derived.KernelRfl
import Derived.RowKit3
import Derived.Deep.LoopGhost
import Derived.Deep.QuietTactic
import Derived.BigQuiet
import Derived.WideLaws
import Derived.Deep.DeepCutAuto
import Derived.Deep.CutBlock
import Derived.Deep.RegionHeld3
import Derived.Laws.Rows
import Derived.Lib.AppendStr
import Derived.ArgAppend
import Derived.Laws.IdiomCopy
import Derived.OrdersHeld
import Derived.Laws.BitsLemmas
import Derived.RowKit
import Derived.Test.YteecolnemffffaaWWords
import Derived.Test.YteecolnemffffaaWLast
import Derived.Test.YteecolnemffffaaWTab
import Derived.Test.YteecolnemffffaaWFour
import Derived.Test.YteecolnemffffaaWQPut
import Derived.Test.YteecolnemffffaaWApart
import Derived.Test.YteecolnemffffaaWArr
import Derived.Test.YteecolnemffffaaWZeros
import Derived.Test.YteecolnemffffaaWFoot
import Derived.Test.YteecolnemffffaaWKept
import Derived.Test.YteecolnemffffaaWShare
import Derived.Test.YteecolnemffffaaWN
import Derived.Test.YteecolnemffffaaWFootNe
import Derived.Test.YteecolnemffffaaWAt
import Derived.Test.YteecolnemffffaaWEqStruct
import Derived.Test.YteecolnemffffaaWRepsOne
import Derived.Test.YteecolnemffffaaWInv
import Derived.Test.YteecolnemffffaaWInvWords
import Derived.Test.YteecolnemffffaaWGuard
import Derived.Test.YteecolnemffffaaWNEv
import Derived.Test.YteecolnemffffaaWMore
namespace Go.Proofs.Yteecolnemffffaa.PFnExactGapBound
open Go.RowKit Go.Proofs.YteecolnemffffaaW.PrintWords Go.Proofs.YteecolnemffffaaW.PrintLast Go.Proofs.YteecolnemffffaaW.PrintMore
attribute [local go_sem] max2_int min2_int max_two min_two max_three min_three max_four min_four   -- for this text's walks alone
set_option linter.unusedVariables false
set_option linter.unusedSimpArgs false



def errW : Option Int → Value
  | none => .nilIface
  | some c => .iface 0 (.int .i64 c)
theorem errW_none : errW none = .nilIface := rfl
theorem errW_some (c : Int) : errW (some c) = .iface 0 (.int .i64 c) := rfl

-- the values' own types

end Go.Proofs.Yteecolnemffffaa.PFnExactGapBound
