/- A greater number has no lower float, and none that is below it in the row. The law in plain numbers. No condition. -/
import Derived.Test.YtfaoilalhneijaaPRealNumbersRisex
import Derived.Test.YtfaoilalhneijaaGPure
namespace Go.Proofs.Ytfaoilalhneijaa.Pure
open Go Go.RowKit FO FB FK FV FL FOf FM FTo FTr FTc FTd FTe FX FY FZ
open Go.Proofs.YtfaoilalhneijaaW.PrintWords Go.Proofs.YtfaoilalhneijaaW.PrintLast
local notation "infR" => (9218868437227405312 : Nat)
theorem wfu {a : Int} (h : (Lit.int .u64 a).wf = true) : 0 ≤ a ∧ a < 18446744073709551616 := by
  simp [Lit.wf, IntKind.min, IntKind.max, IntKind.bits, IntKind.signed] at h
  omega
theorem wfi {a : Int} (h : (Lit.int .i64 a).wf = true) : -9223372036854775808 ≤ a ∧ a < 9223372036854775808 := by
  simp [Lit.wf, IntKind.min, IntKind.max, IntKind.bits, IntKind.signed] at h
  omega
theorem fle_of {a b : Nat} (ra : rung a ≤ infR) (rb : rung b ≤ infR) (h : sr a ≤ sr b) : fle a b = true := by
  unfold fle
  rw [ltF, eqF]
  by_cases c : sr a = sr b
  · rw [decide_eq_true (p := rung a ≤ infR ∧ rung b ≤ infR ∧ sr a = sr b) ⟨ra, rb, c⟩]; exact Bool.or_true _
  · rw [decide_eq_true (p := rung a ≤ infR ∧ rung b ≤ infR ∧ sr a < sr b) ⟨ra, rb, by omega⟩]; rfl
theorem RealNumbersRise : PRealNumbersRise.foolscaplaw02_RealNumbersRise.Pure := by
  intro n m _ _
  refine ⟨1, ?_⟩
  unfold PRealNumbersRise.foolscaplaw02_RealNumbersRise.f
  simp only [PRealNumbersRise.foolscaplaw02_RealNumbersRise.j0, PRealNumbersRise.foolscaplaw02_lives.f, PRealNumbersRise.foolscaplaw02_bits.f, PRealNumbersRise.real_To.f, PRealNumbersRise.real_Less.f, lessC, Option.bind_some]
  by_cases c : (toN n).2 = 0
  · rw [if_pos c]
    by_cases d : (toN m).2 = 0
    · rw [if_pos d]
      by_cases e : n > m
      · rw [decide_eq_true e, if_pos rfl]
      · rw [decide_eq_false e, if_neg (by decide)]
        have hn := toN_ok c
        have hm := toN_ok d
        obtain ⟨f1, f2, f3, f4, f5, f6⟩ := toN_facts hn.1 hn.2
        obtain ⟨g1, g2, g3, g4, g5, g6⟩ := toN_facts hm.1 hm.2
        have hs : sr (toN n).1 ≤ sr (toN m).1 := by rw [f3, g3]; exact srT_mono (by omega) hn.1 hm.2
        rw [if_pos (fle_of (Nat.le_of_lt f2) (Nat.le_of_lt g2) hs), if_pos ⟨g4, f4⟩, Option.bind_some]
        have hl : lessN (toN m).1 (toN n).1 = false := by
          cases e2 : lessN (toN m).1 (toN n).1
          · rfl
          · exfalso
            rcases (less_iff g4 f4 (Nat.le_of_lt g2) (Nat.le_of_lt f2)).1 e2 with z | ⟨z1, z2, z3⟩
            · omega
            · have h1 := g5.1 z2
              have h2 : ¬ n < 0 := fun z => z3 (f5.2 z)
              omega
        rw [hl, if_neg (by decide)]
        by_cases e3 : n < m
        · rw [if_pos e3]
        · have : n = m := by omega
          rw [if_neg e3, this, if_pos rfl]
    · rw [if_neg d, if_pos trivial]
  · rw [if_neg c, if_pos trivial]
end Go.Proofs.Ytfaoilalhneijaa.Pure
