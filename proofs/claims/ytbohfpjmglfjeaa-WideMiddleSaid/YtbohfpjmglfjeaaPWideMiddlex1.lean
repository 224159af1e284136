-- By wip/tools/printplus.py of this session, over the kit's print; what is by hand in it is this session's own.
import Derived.Test.YtbohfpjmglfjeaaPWideMiddlex0
namespace Go.Proofs.Ytbohfpjmglfjeaa.PWideMiddle
open Go.RowKit Go.Proofs.YtbohfpjmglfjeaaW.PrintWords Go.Proofs.YtbohfpjmglfjeaaW.PrintLast Go.Proofs.YtbohfpjmglfjeaaW.PrintMore
attribute [local go_sem] max2_int min2_int max_two min_two max_three min_three max_four min_four   -- for this text's walks alone
set_option linter.unusedVariables false
set_option linter.unusedSimpArgs false

/-! ### foolscaplaw03_lives: function 10 -/
def foolscaplaw03_lives.f  : Option (Bool) := some (true)
theorem foolscaplaw03_lives.calls  (r : Bool) (w : World) (h : foolscaplaw03_lives.f  = some r) :
    Calls Try.prog 10 #[] w fun e w' => e = .returned (.bool r) ∧ Below w.heap.size w w' :=
  Go.Proofs.Ytbohfpjmglfjeaa.PW.foolscaplaw03_lives.calls 100 r w (Eq.trans (WPure.lives_eq 100 (by decide)) h)

/-! ### wide_Add: function 11 -/
def wide_Add.f (a0_0 : Int) (a0_1 : Int) (a1 : Int) : Option (Int × Int × Int) := some (Go.Proofs.Ytbohfpjmglfjeaa.WPure.addW a0_0 a0_1 a1)
theorem wide_Add.calls (a0_0 : Int) (a0_1 : Int) (a1 : Int) (r1 : Int) (r2 : Int) (r3 : Int) (w : World) (h : wide_Add.f a0_0 a0_1 a1 = some (r1, r2, r3)) :
    Calls Try.prog 11 #[.agg #[.int .i64 a0_0, .int .i64 a0_1], .int .i64 a1] w fun e w' => e = .returned (.tuple #[.agg #[.int .i64 r1, .int .i64 r2], .int .i64 r3]) ∧ Below w.heap.size w w' :=
  Go.Proofs.Ytbohfpjmglfjeaa.PW.wide_Add.calls 100 a0_0 a0_1 a1 r1 r2 r3 w (Eq.trans (WPure.add_eq 99 _ _ _) h)

/-! ### num_Fits: function 13 -/
def num_Fits.f (a0 : Int) : Option (Bool) := some (decide (Go.Proofs.Ytbohfpjmglfjeaa.WPure.fits a0))
theorem num_Fits.calls (a0 : Int) (r : Bool) (w : World) (h : num_Fits.f a0 = some r) :
    Calls Try.prog 13 #[.int .i64 a0] w fun e w' => e = .returned (.bool r) ∧ Drawn0 w w' :=
  Go.Proofs.Ytbohfpjmglfjeaa.PW.num_Fits.calls a0 r w (Eq.trans (WPure.fits_eq _) h)

/-! ### wide_Mean: function 14 -/
def wide_Mean.f (a0_0 : Int) (a0_1 : Int) (a1 : Int) : Option (Int × Int) := WPure.meanO a0_0 a0_1 a1
theorem wide_Mean.calls (a0_0 : Int) (a0_1 : Int) (a1 : Int) (r1 : Int) (r2 : Int) (w : World) (h : wide_Mean.f a0_0 a0_1 a1 = some (r1, r2)) :
    Calls Try.prog 14 #[.agg #[.int .i64 a0_0, .int .i64 a0_1], .int .i64 a1] w fun e w' => e = .returned (.tuple #[.int .i64 r1, .int .i64 r2]) ∧ Below w.heap.size w w' :=
  Go.Proofs.Ytbohfpjmglfjeaa.PW.wide_Mean.calls 100 a0_0 a0_1 a1 r1 r2 w (WPure.meanO_eq h)

end Go.Proofs.Ytbohfpjmglfjeaa.PWideMiddle
