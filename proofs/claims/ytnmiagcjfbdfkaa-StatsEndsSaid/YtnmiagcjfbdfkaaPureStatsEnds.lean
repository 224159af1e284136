/- The k-th largest of n numbers is the (n + 1 - k)-th smallest; the first of either is the greatest, the least. The law in plain numbers. -/
import Derived.Test.YtnmiagcjfbdfkaaPStatsEndsx
import Derived.Test.YtnmiagcjfbdfkaaGPure
set_option linter.unusedVariables false
namespace Go.Proofs.Ytnmiagcjfbdfkaa.Pure
open Go Go.RowKit WPure SA SB SC SD
open Go.Proofs.YtnmiagcjfbdfkaaW.PrintWords Go.Proofs.YtnmiagcjfbdfkaaW.PrintLast Go.Proofs.YtnmiagcjfbdfkaaW.PrintMore
theorem large_small (l : List Int) (a : Int) (h : 1 ≤ a) (h' : a ≤ l.length) : largeN l a = smallN l (l.length + 1 - a) := by
  unfold largeN smallN
  by_cases hg : good l
  · rw [if_pos ⟨hg, h, h'⟩, if_pos ⟨hg, by omega, by omega⟩, show (l.length : Int) + 1 - a - 1 = l.length - a by omega]
  · rw [if_neg (fun z => hg z.1), if_neg (fun z => hg z.1)]
theorem large_one (l : List Int) (h : 1 ≤ l.length) : largeN l 1 = grN l := by
  unfold largeN grN
  by_cases hg : good l
  · rw [if_pos ⟨hg, by omega, by omega⟩, if_pos hg, if_neg (by omega), show ((l.length : Int) - 1).toNat = l.length - 1 by omega]
  · rw [if_neg (fun z => hg z.1), if_neg hg]
theorem small_one (l : List Int) (h : 1 ≤ l.length) : smallN l 1 = leN l := by
  unfold smallN leN
  by_cases hg : good l
  · rw [if_pos ⟨hg, by omega, by omega⟩, if_pos hg, if_neg (by omega)]; rfl
  · rw [if_neg (fun z => hg z.1), if_neg hg]
theorem StatsEnds : PStatsEnds.foolscaplaw16_StatsEnds.Pure := by
  intro l a _ h _ _
  refine ⟨5, ?_⟩
  unfold PStatsEnds.foolscaplaw16_StatsEnds.f
  by_cases c : (l.length : Int) > 2000
  · rw [if_pos c]; rfl
  · rw [if_neg c]
    by_cases c1 : a < 1
    · rw [if_pos c1]; rfl
    · rw [if_neg c1]
      by_cases c2 : a > (l.length : Int)
      · rw [decide_eq_true c2]; rfl
      · rw [decide_eq_false c2, PStatsEnds.foolscaplaw16_StatsEnds.j0, if_neg (by decide)]
        unfold PStatsEnds.stats_Large.f PStatsEnds.stats_Small.f PStatsEnds.stats_Greatest.f PStatsEnds.stats_Least.f PStatsEnds.foolscaplaw16_lives.f
        have w : wrap64 (wrap64 ((l.length : Int) + 1) - a) = l.length + 1 - a := by unfold wrap64; omega
        simp only [Option.bind_some]
        rw [w, large_small l a (by omega) (by omega), large_one l (by omega), small_one l (by omega)]
        simp only [if_true]
end Go.Proofs.Ytnmiagcjfbdfkaa.Pure
