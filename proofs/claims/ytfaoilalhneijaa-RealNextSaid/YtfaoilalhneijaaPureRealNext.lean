/- Between a float and the next one there is none, but the other nought; the next one is greater. The law in plain numbers. No condition. -/
import Derived.Test.YtfaoilalhneijaaPRealNextx
import Derived.Test.YtfaoilalhneijaaGPure
namespace Go.Proofs.Ytfaoilalhneijaa.Pure
open Go Go.RowKit FO FB FK FV FL FOf FM FTo FTr FTc FTd FTe FX FY FZ
open Go.Proofs.YtfaoilalhneijaaW.PrintWords Go.Proofs.YtfaoilalhneijaaW.PrintLast
local notation "infR" => (9218868437227405312 : Nat)
theorem wfu {a : Int} (h : (Lit.int .u64 a).wf = true) : 0 ≤ a ∧ a < 18446744073709551616 := by
  simp [Lit.wf, IntKind.min, IntKind.max, IntKind.bits, IntKind.signed] at h
  omega
theorem wfi {a : Int} (h : (Lit.int .i64 a).wf = true) : -9223372036854775808 ≤ a ∧ a < 9223372036854775808 := by
  simp [Lit.wf, IntKind.min, IntKind.max, IntKind.bits, IntKind.signed] at h
  omega
theorem RealNext : PRealNext.foolscaplaw02_RealNext.Pure := by
  intro a b h g
  obtain ⟨h0, h1⟩ := wfu h
  obtain ⟨n, rfl⟩ := Int.eq_ofNat_of_zero_le h0
  obtain ⟨g0, g1⟩ := wfu g
  obtain ⟨m, rfl⟩ := Int.eq_ofNat_of_zero_le g0
  have hn : n < 18446744073709551616 := by omega
  have hm : m < 18446744073709551616 := by omega
  refine ⟨1, ?_⟩
  unfold PRealNext.foolscaplaw02_RealNext.f
  simp only [PRealNext.foolscaplaw02_RealNext.j0, PRealNext.foolscaplaw02_lives.f, PRealNext.foolscaplaw02_of.f, PRealNext.real_Next.f, PRealNext.real_Less.f, nextC, lessC, Option.bind_some, Int.toNat_natCast, if_pos hn]
  by_cases c : (nextN n).2 = 0
  · rw [if_pos c]
    obtain ⟨r1, r2, r3, r4⟩ := next_sr hn c
    have f1 : fgt (nextN n).1 n = true := by rw [fgt_eq]; exact decide_eq_true ⟨r2, r1, by omega⟩
    have f2 : lessN n (nextN n).1 = true := (less_iff hn r4 r1 r2).2 (.inl (by omega))
    rw [if_pos f1, if_pos ⟨hn, r4⟩, Option.bind_some, f2, if_neg (by decide)]
    rw [fgt_eq, flt_eq]
    by_cases c1 : rung m ≤ infR ∧ rung n ≤ infR ∧ sr n < sr m
    · rw [decide_eq_true c1, if_pos rfl, if_neg (by rw [decide_eq_true_eq]; omega)]
    · rw [decide_eq_false c1, if_neg (by decide)]
  · rw [if_neg c]
end Go.Proofs.Ytfaoilalhneijaa.Pure
