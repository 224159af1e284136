-- By wip/tools/printplus.py of this session, over the kit's print; what is by hand in it is this session's own.
import Derived.Test.YtoegeljjfhbpeaaProg
import Derived.Below
import Derived.Deep.Draws
import Derived.Deep.AppendLies
import Derived.Maps.AppendAt
import Derived.OwnWalk
import Derived.Laws.BytesArg
import Derived.Laws.MakeOwn
import Derived.Laws.OwnMore
import Derived.Deep.OwnRows
import Derived.Tactics
import Derived.Lib.ConvBytes
import Derived.Laws.Slices
import Derived.WalkKit
import Derived.KernelRfl
import Derived.RowKit3
import Derived.Deep.LoopGhost
import Derived.Deep.QuietTactic
import Derived.BigQuiet
import Derived.WideLaws
import Derived.Deep.DeepCutAuto
import Derived.Deep.CutBlock
import Derived.Deep.RegionHeld3
import Derived.Laws.Rows
import Derived.Lib.AppendStr
import Derived.ArgAppend
import Derived.Laws.IdiomCopy
import Derived.OrdersHeld
import Derived.Laws.BitsLemmas
import Derived.RowKit
import Derived.Test.YtoegeljjfhbpeaaJ2
import Derived.Test.YtoegeljjfhbpeaaWWords
import Derived.Test.YtoegeljjfhbpeaaWLast
import Derived.Test.YtoegeljjfhbpeaaWTab
import Derived.Test.YtoegeljjfhbpeaaWFour
import Derived.Test.YtoegeljjfhbpeaaWQPut
import Derived.Test.YtoegeljjfhbpeaaWApart
import Derived.Test.YtoegeljjfhbpeaaWArr
import Derived.Test.YtoegeljjfhbpeaaWZeros
import Derived.Test.YtoegeljjfhbpeaaWFoot
import Derived.Test.YtoegeljjfhbpeaaWKept
import Derived.Test.YtoegeljjfhbpeaaWShare
import Derived.Test.YtoegeljjfhbpeaaWN
import Derived.Test.YtoegeljjfhbpeaaWFootNe
import Derived.Test.YtoegeljjfhbpeaaWAt
import Derived.Test.YtoegeljjfhbpeaaWEqStruct
import Derived.Test.YtoegeljjfhbpeaaWRepsOne
import Derived.Test.YtoegeljjfhbpeaaWInv
import Derived.Test.YtoegeljjfhbpeaaWInvWords
import Derived.Test.YtoegeljjfhbpeaaWGuard
import Derived.Test.YtoegeljjfhbpeaaWNEv
import Derived.Test.YtoegeljjfhbpeaaWMore
namespace Go.Proofs.Ytoegeljjfhbpeaa.PH
open Go.RowKit Go.Proofs.YtoegeljjfhbpeaaW.PrintWords Go.Proofs.YtoegeljjfhbpeaaW.PrintLast Go.Proofs.YtoegeljjfhbpeaaW.PrintMore
attribute [local go_sem] max2_int min2_int max_two min_two max_three min_three max_four min_four   -- for this text's walks alone
set_option linter.unusedVariables false
set_option linter.unusedSimpArgs false



def errW : Option Int → Value
  | none => .nilIface
  | some c => .iface 0 (.int .i64 c)
theorem errW_none : errW none = .nilIface := rfl
theorem errW_some (c : Int) : errW (some c) = .iface 0 (.int .i64 c) := rfl

theorem info5 : (Try.prog.info? 5).map (fun i => (i.zero, i.size, i.bytes)) = some (some (.int .u8 0), 1, 1) := by kernel_rfl
-- the values' own types

end Go.Proofs.Ytoegeljjfhbpeaa.PH
