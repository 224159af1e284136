/- Any number has the power, the root and the factorial that the document says, or none. The law in plain numbers. -/
import Derived.Test.YtbgiehmpdligdaaPMathsPowersx
import Derived.Test.YtbgiehmpdligdaaWPow
set_option linter.unusedVariables false
namespace Go.Proofs.Ytbgiehmpdligdaa.Pure
open Go.RowKit
open Go.Proofs.YtbgiehmpdligdaaW.PrintWords Go.Proofs.YtbgiehmpdligdaaW.PrintLast Go.Proofs.YtbgiehmpdligdaaW.PrintMore
theorem MathsPowers : PMathsPowers.foolscaplaw15_MathsPowers.Pure := by
  intro n e _ _
  unfold PMathsPowers.foolscaplaw15_MathsPowers.f PMathsPowers.maths_Power.f PMathsPowers.foolscapref15_Power.f PMathsPowers.maths_Root.f PMathsPowers.foolscapref15_Root.f PMathsPowers.maths_Fact.f PMathsPowers.foolscapref15_Fact.f PMathsPowers.foolscaplaw15_lives.f
  simp only [Option.bind_some, if_true]
end Go.Proofs.Ytbgiehmpdligdaa.Pure
