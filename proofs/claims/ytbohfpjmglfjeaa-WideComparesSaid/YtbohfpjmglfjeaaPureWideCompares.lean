/- Any two sums stand as the document says: the law in plain numbers. No condition. -/
import Derived.Test.YtbohfpjmglfjeaaPWideComparesx
namespace Go.Proofs.Ytbohfpjmglfjeaa.Pure
open Go.RowKit Go.Proofs.Ytbohfpjmglfjeaa.PWideCompares Go.Proofs.YtbohfpjmglfjeaaW.PrintWords Go.Proofs.YtbohfpjmglfjeaaW.PrintLast
open WPure
theorem WideCompares (h l h2 l2 : Int) (_ : (Lit.int .i64 h).wf = true) (_ : (Lit.int .i64 l).wf = true) (_ : (Lit.int .i64 h2).wf = true) (_ : (Lit.int .i64 l2).wf = true) : foolscaplaw03_WideCompares.f h l h2 l2 = some true := by
  unfold foolscaplaw03_WideCompares.f wide_Compare.f foolscapref03_Compare.f foolscaplaw03_lives.f
  simp
end Go.Proofs.Ytbohfpjmglfjeaa.Pure
