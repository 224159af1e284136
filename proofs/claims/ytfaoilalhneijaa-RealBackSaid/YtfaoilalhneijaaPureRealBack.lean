/- A number of at most 8000000000000000 in size is that of its float. The law in plain numbers. No condition. -/
import Derived.Test.YtfaoilalhneijaaPRealBackx
import Derived.Test.YtfaoilalhneijaaGPure
namespace Go.Proofs.Ytfaoilalhneijaa.Pure
open Go Go.RowKit FO FB FK FV FL FOf FM FTo FTr FTc FTd FTe FX FY FZ
open Go.Proofs.YtfaoilalhneijaaW.PrintWords Go.Proofs.YtfaoilalhneijaaW.PrintLast
local notation "infR" => (9218868437227405312 : Nat)
theorem wfu {a : Int} (h : (Lit.int .u64 a).wf = true) : 0 ≤ a ∧ a < 18446744073709551616 := by
  simp [Lit.wf, IntKind.min, IntKind.max, IntKind.bits, IntKind.signed] at h
  omega
theorem wfi {a : Int} (h : (Lit.int .i64 a).wf = true) : -9223372036854775808 ≤ a ∧ a < 9223372036854775808 := by
  simp [Lit.wf, IntKind.min, IntKind.max, IntKind.bits, IntKind.signed] at h
  omega
theorem RealBack : PRealBack.foolscaplaw02_RealBack.Pure := by
  intro n _
  refine ⟨1, ?_⟩
  unfold PRealBack.foolscaplaw02_RealBack.f PRealBack.foolscaplaw02_bits.f PRealBack.real_To.f PRealBack.real_Of.f ofC
  simp only [PRealBack.foolscaplaw02_RealBack.j0, PRealBack.foolscaplaw02_lives.f, Option.bind_some]
  by_cases c : (toN n).2 = 0
  · rw [if_pos c]
    have hn := toN_ok c
    obtain ⟨f1, f2, f3, f4, f5, f6⟩ := toN_facts hn.1 hn.2
    rw [if_pos f4, Option.bind_some]
    by_cases c1 : n ≥ -8000000000000000
    · rw [if_pos c1]
      by_cases c2 : n ≤ 8000000000000000
      · rw [decide_eq_true c2, if_pos rfl, back c1 c2, if_pos rfl, if_pos rfl]
      · rw [decide_eq_false c2, if_neg (by decide)]
        rcases back_code hn.1 hn.2 with h | h
        · rw [if_pos h]
        · rw [if_neg (by omega), if_pos h]
    · rw [if_neg c1, if_neg (by decide)]
      rcases back_code hn.1 hn.2 with h | h
      · rw [if_pos h]
      · rw [if_neg (by omega), if_pos h]
  · rw [if_neg c, toN_bad c]; rfl
end Go.Proofs.Ytfaoilalhneijaa.Pure
