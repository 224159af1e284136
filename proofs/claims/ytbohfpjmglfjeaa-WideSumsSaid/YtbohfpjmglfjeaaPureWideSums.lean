/- Any sum and any number, and any two sums, are added and taken away as the document says. The law in plain numbers. No condition. -/
import Derived.Test.YtbohfpjmglfjeaaPWideSumsx
namespace Go.Proofs.Ytbohfpjmglfjeaa.Pure
open Go.RowKit Go.Proofs.Ytbohfpjmglfjeaa.PWideSums Go.Proofs.YtbohfpjmglfjeaaW.PrintWords Go.Proofs.YtbohfpjmglfjeaaW.PrintLast
open WPure
theorem WideSums (h l n h2 l2 : Int) (_ : (Lit.int .i64 h).wf = true) (_ : (Lit.int .i64 l).wf = true) (_ : (Lit.int .i64 n).wf = true) (_ : (Lit.int .i64 h2).wf = true) (_ : (Lit.int .i64 l2).wf = true) :
    foolscaplaw03_WideSums.f h l n h2 l2 = some true := by
  unfold foolscaplaw03_WideSums.f wide_Add.f foolscapref03_Add.f wide_Sub.f foolscapref03_Sub.f wide_Join.f foolscapref03_Join.f wide_Check.f foolscapref03_Check.f foolscaplaw03_lives.f
  simp
end Go.Proofs.Ytbohfpjmglfjeaa.Pure
