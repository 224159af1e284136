/- Any float has the kind that the document says. The law in plain numbers. No condition. -/
import Derived.Test.YtfaoilalhneijaaPRealKindsx
import Derived.Test.YtfaoilalhneijaaGPure
namespace Go.Proofs.Ytfaoilalhneijaa.Pure
open Go Go.RowKit FO FB FK FV FL FOf FM FTo FTr FTc FTd FTe FX FY FZ
open Go.Proofs.YtfaoilalhneijaaW.PrintWords Go.Proofs.YtfaoilalhneijaaW.PrintLast
local notation "infR" => (9218868437227405312 : Nat)
theorem wfu {a : Int} (h : (Lit.int .u64 a).wf = true) : 0 ≤ a ∧ a < 18446744073709551616 := by
  simp [Lit.wf, IntKind.min, IntKind.max, IntKind.bits, IntKind.signed] at h
  omega
theorem wfi {a : Int} (h : (Lit.int .i64 a).wf = true) : -9223372036854775808 ≤ a ∧ a < 9223372036854775808 := by
  simp [Lit.wf, IntKind.min, IntKind.max, IntKind.bits, IntKind.signed] at h
  omega
theorem RealKinds : PRealKinds.foolscaplaw02_RealKinds.Pure := by
  intro a h
  obtain ⟨h0, h1⟩ := wfu h
  obtain ⟨n, rfl⟩ := Int.eq_ofNat_of_zero_le h0
  unfold PRealKinds.foolscaplaw02_RealKinds.f PRealKinds.foolscaplaw02_of.f PRealKinds.real_Kind.f PRealKinds.foolscapref02_Kind.f PRealKinds.foolscaplaw02_lives.f kindC kindI
  simp only [Option.bind_some, Int.toNat_natCast]
  rw [if_pos (show n < 18446744073709551616 by omega), if_pos ⟨h0, h1⟩]
  simp only [Option.bind_some]
  simp
end Go.Proofs.Ytfaoilalhneijaa.Pure
