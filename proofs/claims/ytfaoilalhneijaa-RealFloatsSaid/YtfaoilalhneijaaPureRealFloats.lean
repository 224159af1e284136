/- Any number has the nearest float that the document says, bit by bit, or none. The law in plain numbers. No condition. -/
import Derived.Test.YtfaoilalhneijaaPRealFloatsx
import Derived.Test.YtfaoilalhneijaaGPure
namespace Go.Proofs.Ytfaoilalhneijaa.Pure
open Go Go.RowKit FO FB FK FV FL FOf FM FTo FTr FTc FTd FTe FX FY FZ
open Go.Proofs.YtfaoilalhneijaaW.PrintWords Go.Proofs.YtfaoilalhneijaaW.PrintLast
local notation "infR" => (9218868437227405312 : Nat)
theorem wfu {a : Int} (h : (Lit.int .u64 a).wf = true) : 0 ≤ a ∧ a < 18446744073709551616 := by
  simp [Lit.wf, IntKind.min, IntKind.max, IntKind.bits, IntKind.signed] at h
  omega
theorem wfi {a : Int} (h : (Lit.int .i64 a).wf = true) : -9223372036854775808 ≤ a ∧ a < 9223372036854775808 := by
  simp [Lit.wf, IntKind.min, IntKind.max, IntKind.bits, IntKind.signed] at h
  omega
theorem RealFloats : PRealFloats.foolscaplaw02_RealFloats.Pure := by
  intro n _
  unfold PRealFloats.foolscaplaw02_RealFloats.f PRealFloats.foolscaplaw02_bits.f PRealFloats.real_To.f PRealFloats.foolscapref02_To.f PRealFloats.foolscaplaw02_lives.f
  simp only [Option.bind_some]
  rw [if_pos (show ((toN n).1 : Int) = (toI (toN n)).1 from rfl), if_pos (show (toN n).2 = (toI (toN n)).2 from rfl)]
end Go.Proofs.Ytfaoilalhneijaa.Pure
