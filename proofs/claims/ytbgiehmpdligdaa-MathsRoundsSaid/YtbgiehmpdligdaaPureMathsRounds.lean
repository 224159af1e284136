/- Any number is rounded, either way, to any places, to even and to odd, as the document says, or not. The law in plain numbers. No condition. -/
import Derived.Test.YtbgiehmpdligdaaPMathsRoundsx
import Derived.Test.YtbgiehmpdligdaaGPure
set_option linter.unusedVariables false
namespace Go.Proofs.Ytbgiehmpdligdaa.Pure
open Go Go.RowKit MA MB
open Go.Proofs.YtbgiehmpdligdaaW.PrintWords Go.Proofs.YtbgiehmpdligdaaW.PrintLast Go.Proofs.YtbgiehmpdligdaaW.PrintMore
theorem wfi {a : Int} (h : (Lit.int .i64 a).wf = true) : -9223372036854775808 ≤ a ∧ a < 9223372036854775808 := by
  simp [Lit.wf, IntKind.min, IntKind.max, IntKind.bits, IntKind.signed] at h
  omega
theorem MathsRounds : PMathsRounds.foolscaplaw15_MathsRounds.Pure := by
  intro n p _ _
  unfold PMathsRounds.foolscaplaw15_MathsRounds.f PMathsRounds.maths_Up.f PMathsRounds.maths_Down.f PMathsRounds.maths_Even.f PMathsRounds.maths_Odd.f PMathsRounds.maths_Abs.f PMathsRounds.maths_Sign.f PMathsRounds.foolscapref15_Up.f PMathsRounds.foolscapref15_Down.f PMathsRounds.foolscapref15_Even.f PMathsRounds.foolscapref15_Odd.f PMathsRounds.foolscapref15_Abs.f PMathsRounds.foolscapref15_Sign.f PMathsRounds.foolscaplaw15_lives.f
  simp
end Go.Proofs.Ytbgiehmpdligdaa.Pure
