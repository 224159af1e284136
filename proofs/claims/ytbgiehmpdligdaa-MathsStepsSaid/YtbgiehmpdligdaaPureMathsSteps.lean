/- Any number is rounded to multiples of any other one, and divided by it, as the document says, or not. The law in plain numbers. No condition. -/
import Derived.Test.YtbgiehmpdligdaaPMathsStepsx
import Derived.Test.YtbgiehmpdligdaaGPure
set_option linter.unusedVariables false
namespace Go.Proofs.Ytbgiehmpdligdaa.Pure
open Go Go.RowKit MA MB
open Go.Proofs.YtbgiehmpdligdaaW.PrintWords Go.Proofs.YtbgiehmpdligdaaW.PrintLast Go.Proofs.YtbgiehmpdligdaaW.PrintMore
theorem wfi {a : Int} (h : (Lit.int .i64 a).wf = true) : -9223372036854775808 ≤ a ∧ a < 9223372036854775808 := by
  simp [Lit.wf, IntKind.min, IntKind.max, IntKind.bits, IntKind.signed] at h
  omega
theorem MathsSteps : PMathsSteps.foolscaplaw15_MathsSteps.Pure := by
  intro n p _ _
  unfold PMathsSteps.foolscaplaw15_MathsSteps.f PMathsSteps.maths_Ceiling.f PMathsSteps.maths_Floor.f PMathsSteps.maths_Quotient.f PMathsSteps.foolscapref15_Ceiling.f PMathsSteps.foolscapref15_Floor.f PMathsSteps.foolscapref15_Quotient.f PMathsSteps.foolscaplaw15_lives.f
  simp
end Go.Proofs.Ytbgiehmpdligdaa.Pure
