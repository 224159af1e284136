/- Any numbers have the greatest divisor and the least multiple that the document says, or none. The law in plain numbers. No condition. -/
import Derived.Test.YtbgiehmpdligdaaPMathsListsx
import Derived.Test.YtbgiehmpdligdaaHPure
set_option linter.unusedVariables false
namespace Go.Proofs.Ytbgiehmpdligdaa.Pure
open Go Go.RowKit MA MB MC ME MF MG MH
open Go.Proofs.YtbgiehmpdligdaaW.PrintWords Go.Proofs.YtbgiehmpdligdaaW.PrintLast Go.Proofs.YtbgiehmpdligdaaW.PrintMore
theorem wfi {a : Int} (h : (Lit.int .i64 a).wf = true) : -9223372036854775808 ≤ a ∧ a < 9223372036854775808 := by
  simp [Lit.wf, IntKind.min, IntKind.max, IntKind.bits, IntKind.signed] at h
  omega
theorem MathsLists : PMathsLists.foolscaplaw15_MathsLists.Pure := by
  intro l _ h _
  have hl : l.length < 17592186044416 := by omega
  have hl2 : l.length ≤ 9223372036854775807 := by omega
  have hl3 : ([] : List Int).length + l.length < 17592186044416 := by simpa using hl
  unfold PMathsLists.foolscaplaw15_MathsLists.f PMathsLists.maths_Gcd.f PMathsLists.maths_Lcm.f PMathsLists.foolscapref15_Gcd.f PMathsLists.foolscapref15_Lcm.f PMathsLists.foolscaplaw15_lives.f gcdC lcmC
  simp only [Option.bind_some, List.nil_append]
  rw [if_pos hl3, if_pos hl2]
  simp only [Option.bind_some]
  rw [if_pos hl2]
  simp only [Option.bind_some, if_true]
  rw [if_pos hl3]
end Go.Proofs.Ytbgiehmpdligdaa.Pure
