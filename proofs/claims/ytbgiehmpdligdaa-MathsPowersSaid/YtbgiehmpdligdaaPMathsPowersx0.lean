-- By wip/tools/printplus.py of this session, over the kit's print; what is by hand in it is this session's own.
import Derived.Test.YtbgiehmpdligdaaProg
import Derived.Below
import Derived.Deep.Draws
import Derived.Deep.AppendLies
import Derived.Maps.AppendAt
import Derived.OwnWalk
import Derived.Laws.BytesArg
import Derived.Laws.MakeOwn
import Derived.Laws.OwnMore
import Derived.Deep.OwnRows
import Derived.Tactics
import Derived.Lib.ConvBytes
import Derived.Laws.Slices
import Derived.WalkKit
import Derived.KernelRfl
import Derived.RowKit3
import Derived.Deep.LoopGhost
import Derived.Deep.QuietTactic
import Derived.BigQuiet
import Derived.WideLaws
import Derived.Deep.DeepCutAuto
import Derived.Deep.CutBlock
import Derived.Deep.RegionHeld3
import Derived.Laws.Rows
import Derived.Lib.AppendStr
import Derived.ArgAppend
import Derived.Laws.IdiomCopy
import Derived.OrdersHeld
import Derived.Laws.BitsLemmas
import Derived.RowKit
import Derived.Test.YtbgiehmpdligdaaWPow
import Derived.Test.YtbgiehmpdligdaaWWords
import Derived.Test.YtbgiehmpdligdaaWLast
import Derived.Test.YtbgiehmpdligdaaWTab
import Derived.Test.YtbgiehmpdligdaaWFour
import Derived.Test.YtbgiehmpdligdaaWQPut
import Derived.Test.YtbgiehmpdligdaaWApart
import Derived.Test.YtbgiehmpdligdaaWArr
import Derived.Test.YtbgiehmpdligdaaWZeros
import Derived.Test.YtbgiehmpdligdaaWFoot
import Derived.Test.YtbgiehmpdligdaaWKept
import Derived.Test.YtbgiehmpdligdaaWShare
import Derived.Test.YtbgiehmpdligdaaWN
import Derived.Test.YtbgiehmpdligdaaWFootNe
import Derived.Test.YtbgiehmpdligdaaWAt
import Derived.Test.YtbgiehmpdligdaaWEqStruct
import Derived.Test.YtbgiehmpdligdaaWRepsOne
import Derived.Test.YtbgiehmpdligdaaWInv
import Derived.Test.YtbgiehmpdligdaaWInvWords
import Derived.Test.YtbgiehmpdligdaaWGuard
import Derived.Test.YtbgiehmpdligdaaWNEv
import Derived.Test.YtbgiehmpdligdaaWMore
namespace Go.Proofs.Ytbgiehmpdligdaa.PMathsPowers
open Go.RowKit Go.Proofs.YtbgiehmpdligdaaW.PrintWords Go.Proofs.YtbgiehmpdligdaaW.PrintLast Go.Proofs.YtbgiehmpdligdaaW.PrintMore
attribute [local go_sem] max2_int min2_int max_two min_two max_three min_three max_four min_four   -- for this text's walks alone
set_option linter.unusedVariables false
set_option linter.unusedSimpArgs false



def errW : Option Int → Value
  | none => .nilIface
  | some c => .iface 0 (.int .i64 c)
theorem errW_none : errW none = .nilIface := rfl
theorem errW_some (c : Int) : errW (some c) = .iface 0 (.int .i64 c) := rfl

-- the values' own types

end Go.Proofs.Ytbgiehmpdligdaa.PMathsPowers
