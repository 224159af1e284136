/- A greater float has no lower number. The law in plain numbers. No condition. -/
import Derived.Test.YtfaoilalhneijaaPRealRisesx
import Derived.Test.YtfaoilalhneijaaGPure
namespace Go.Proofs.Ytfaoilalhneijaa.Pure
open Go Go.RowKit FO FB FK FV FL FOf FM FTo FTr FTc FTd FTe FX FY FZ
open Go.Proofs.YtfaoilalhneijaaW.PrintWords Go.Proofs.YtfaoilalhneijaaW.PrintLast
local notation "infR" => (9218868437227405312 : Nat)
theorem wfu {a : Int} (h : (Lit.int .u64 a).wf = true) : 0 ≤ a ∧ a < 18446744073709551616 := by
  simp [Lit.wf, IntKind.min, IntKind.max, IntKind.bits, IntKind.signed] at h
  omega
theorem wfi {a : Int} (h : (Lit.int .i64 a).wf = true) : -9223372036854775808 ≤ a ∧ a < 9223372036854775808 := by
  simp [Lit.wf, IntKind.min, IntKind.max, IntKind.bits, IntKind.signed] at h
  omega
theorem RealRises : PRealRises.foolscaplaw02_RealRises.Pure := by
  intro a b h g
  obtain ⟨h0, h1⟩ := wfu h
  obtain ⟨n, rfl⟩ := Int.eq_ofNat_of_zero_le h0
  obtain ⟨g0, g1⟩ := wfu g
  obtain ⟨m, rfl⟩ := Int.eq_ofNat_of_zero_le g0
  have hn : n < 18446744073709551616 := by omega
  have hm : m < 18446744073709551616 := by omega
  refine ⟨1, ?_⟩
  unfold PRealRises.foolscaplaw02_RealRises.f
  simp only [PRealRises.foolscaplaw02_RealRises.j0, PRealRises.foolscaplaw02_lives.f, PRealRises.foolscaplaw02_of.f, PRealRises.real_Of.f, PRealRises.real_Less.f, ofC, lessC, Option.bind_some, Int.toNat_natCast, if_pos hn, if_pos hm, if_pos (And.intro hn hm)]
  by_cases c : (ofN n).2 = 0
  · rw [if_pos c]
    by_cases d : (ofN m).2 = 0
    · rw [d, if_neg (by decide)]
      cases e : lessN n m
      · rfl
      · rw [if_pos rfl, if_pos (rises hn hm c d e)]
    · rw [if_pos (by simpa using d)]
  · rw [if_neg c, if_pos trivial]
end Go.Proofs.Ytfaoilalhneijaa.Pure
