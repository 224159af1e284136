/- As long as a sum fits, it is what numbers' own sum is: the law in plain numbers. No condition. -/
import Derived.Test.YtbohfpjmglfjeaaPWideSmallx
namespace Go.Proofs.Ytbohfpjmglfjeaa.Pure
open Go.RowKit Go.Proofs.Ytbohfpjmglfjeaa.PWideSmall Go.Proofs.YtbohfpjmglfjeaaW.PrintWords Go.Proofs.YtbohfpjmglfjeaaW.PrintLast
open WPure
theorem WideSmall : foolscaplaw03_WideSmall.Pure := by
  intro a b _ _
  unfold foolscaplaw03_WideSmall.f num_Add.f wide_Add.f wide_Total.f foolscaplaw03_lives.f
  simp only [Option.bind_some]
  unfold naddN
  by_cases h : fits a ∧ fits b
  · rw [if_pos h]
    by_cases hc : fits (a + b)
    · rw [if_pos hc, if_pos rfl]
      have e1 : addW 0 0 a = (hiW a, loW a, 0) := by
        have := addW_rep 0 a (by unfold inW; omega)
        rw [show hiW 0 = 0 from rfl, show loW 0 = 0 from rfl] at this
        rw [this, if_pos h.1, Int.zero_add, if_pos (by have := h.1; unfold fits at this; unfold inW; omega)]
      have e2 : addW (hiW a) (loW a) b = (hiW (a + b), loW (a + b), 0) := by
        rw [addW_rep a b (by have := h.1; unfold fits at this; unfold inW; omega), if_pos h.2, if_pos (by unfold fits at hc; unfold inW; omega)]
      rw [e1]
      simp only
      rw [e2]
      simp only
      rw [totalW_rep _ (by unfold fits at hc; unfold inW; omega), if_pos hc]
      simp
    · rw [if_neg hc, if_neg (by decide)]
      rfl
  · rw [if_neg h, if_neg (by decide)]
    rfl
end Go.Proofs.Ytbohfpjmglfjeaa.Pure
