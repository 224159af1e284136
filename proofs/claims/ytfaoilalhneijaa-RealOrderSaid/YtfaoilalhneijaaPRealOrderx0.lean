-- By wip/tools/printplus.py of this session, over the kit's print; what is by hand in it is this session's own.
import Derived.Test.YtfaoilalhneijaaProg
import Derived.Below
import Derived.Deep.Draws
import Derived.Deep.AppendLies
import Derived.Maps.AppendAt
import Derived.OwnWalk
import Derived.Laws.BytesArg
import Derived.Laws.MakeOwn
import Derived.Laws.OwnMore
import Derived.Deep.OwnRows
import Derived.Tactics
import Derived.Lib.ConvBytes
import Derived.Laws.Slices
import Derived.WalkKit
import Derived.KernelRfl
import Derived.RowKit3
import Derived.Deep.LoopGhost
import Derived.Deep.QuietTactic
import Derived.BigQuiet
import Derived.WideLaws
import Derived.Deep.DeepCutAuto
import Derived.Deep.CutBlock
import Derived.Deep.RegionHeld3
import Derived.Laws.Rows
import Derived.Lib.AppendStr
import Derived.ArgAppend
import Derived.Laws.IdiomCopy
import Derived.OrdersHeld
import Derived.Laws.BitsLemmas
import Derived.RowKit
import Derived.Test.YtfaoilalhneijaaGPure
import Derived.Test.YtfaoilalhneijaaWWords
import Derived.Test.YtfaoilalhneijaaWLast
import Derived.Test.YtfaoilalhneijaaWTab
import Derived.Test.YtfaoilalhneijaaWFour
import Derived.Test.YtfaoilalhneijaaWQPut
import Derived.Test.YtfaoilalhneijaaWApart
import Derived.Test.YtfaoilalhneijaaWArr
import Derived.Test.YtfaoilalhneijaaWZeros
import Derived.Test.YtfaoilalhneijaaWFoot
import Derived.Test.YtfaoilalhneijaaWKept
import Derived.Test.YtfaoilalhneijaaWShare
import Derived.Test.YtfaoilalhneijaaWN
import Derived.Test.YtfaoilalhneijaaWFootNe
import Derived.Test.YtfaoilalhneijaaWAt
import Derived.Test.YtfaoilalhneijaaWEqStruct
import Derived.Test.YtfaoilalhneijaaWRepsOne
import Derived.Test.YtfaoilalhneijaaWInv
import Derived.Test.YtfaoilalhneijaaWInvWords
import Derived.Test.YtfaoilalhneijaaWGuard
import Derived.Test.YtfaoilalhneijaaWNEv
import Derived.Test.YtfaoilalhneijaaWMore
namespace Go.Proofs.Ytfaoilalhneijaa.PRealOrder
open Go.RowKit Go.Proofs.YtfaoilalhneijaaW.PrintWords Go.Proofs.YtfaoilalhneijaaW.PrintLast Go.Proofs.YtfaoilalhneijaaW.PrintMore
attribute [local go_sem] max2_int min2_int max_two min_two max_three min_three max_four min_four   -- for this text's walks alone
set_option linter.unusedVariables false
set_option linter.unusedSimpArgs false



def errW : Option Int → Value
  | none => .nilIface
  | some c => .iface 0 (.int .i64 c)
theorem errW_none : errW none = .nilIface := rfl
theorem errW_some (c : Int) : errW (some c) = .iface 0 (.int .i64 c) := rfl

-- the values' own types

end Go.Proofs.Ytfaoilalhneijaa.PRealOrder
