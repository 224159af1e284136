/- Any two floats stand in the row as the document says, and any float has the next one that it says, or none. The law in plain numbers. No condition. -/
import Derived.Test.YtfaoilalhneijaaPRealRowsx
import Derived.Test.YtfaoilalhneijaaGPure
namespace Go.Proofs.Ytfaoilalhneijaa.Pure
open Go Go.RowKit FO FB FK FV FL FOf FM FTo FTr FTc FTd FTe FX FY FZ
open Go.Proofs.YtfaoilalhneijaaW.PrintWords Go.Proofs.YtfaoilalhneijaaW.PrintLast
local notation "infR" => (9218868437227405312 : Nat)
theorem wfu {a : Int} (h : (Lit.int .u64 a).wf = true) : 0 ≤ a ∧ a < 18446744073709551616 := by
  simp [Lit.wf, IntKind.min, IntKind.max, IntKind.bits, IntKind.signed] at h
  omega
theorem wfi {a : Int} (h : (Lit.int .i64 a).wf = true) : -9223372036854775808 ≤ a ∧ a < 9223372036854775808 := by
  simp [Lit.wf, IntKind.min, IntKind.max, IntKind.bits, IntKind.signed] at h
  omega
theorem RealRows : PRealRows.foolscaplaw02_RealRows.Pure := by
  intro a b h g
  obtain ⟨h0, h1⟩ := wfu h
  obtain ⟨n, rfl⟩ := Int.eq_ofNat_of_zero_le h0
  obtain ⟨g0, g1⟩ := wfu g
  obtain ⟨m, rfl⟩ := Int.eq_ofNat_of_zero_le g0
  unfold PRealRows.foolscaplaw02_RealRows.f PRealRows.foolscaplaw02_of.f PRealRows.foolscaplaw02_bits.f PRealRows.real_Next.f PRealRows.foolscapref02_Next.f PRealRows.real_Less.f PRealRows.foolscapref02_Less.f PRealRows.foolscaplaw02_lives.f nextC nextI lessC lessI
  simp only [Option.bind_some, Int.toNat_natCast]
  rw [if_pos (show n < 18446744073709551616 by omega), if_pos (show (0 : Int) ≤ (n : Int) ∧ (n : Int) < 18446744073709551616 from ⟨h0, h1⟩)]
  simp only [Option.bind_some]
  rw [if_pos (show n < 18446744073709551616 ∧ m < 18446744073709551616 by omega), if_pos ⟨⟨h0, h1⟩, g0, g1⟩]
  simp only [Option.bind_some, beq_self_eq_true, if_true]
  rw [if_pos (show ((nextN n).1 : Int) = (toI (nextN n)).1 from rfl), if_pos (show (nextN n).2 = (toI (nextN n)).2 from rfl)]
end Go.Proofs.Ytfaoilalhneijaa.Pure
