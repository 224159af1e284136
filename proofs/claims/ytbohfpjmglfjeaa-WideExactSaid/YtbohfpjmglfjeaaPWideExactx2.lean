-- By wip/tools/printplus.py of this session, over the kit's print; what is by hand in it is this session's own.
import Derived.Test.YtbohfpjmglfjeaaPWideExactx0
namespace Go.Proofs.Ytbohfpjmglfjeaa.PWideExact
open Go.RowKit Go.Proofs.YtbohfpjmglfjeaaW.PrintWords Go.Proofs.YtbohfpjmglfjeaaW.PrintLast Go.Proofs.YtbohfpjmglfjeaaW.PrintMore
attribute [local go_sem] max2_int min2_int max_two min_two max_three min_three max_four min_four   -- for this text's walks alone
set_option linter.unusedVariables false
set_option linter.unusedSimpArgs false

/-! ### wide_Check: function 9 -/
def wide_Check.f (a0_0 : Int) (a0_1 : Int) : Option (Int) := some (Go.Proofs.Ytbohfpjmglfjeaa.WPure.checkW a0_0 a0_1)
theorem wide_Check.calls (a0_0 : Int) (a0_1 : Int) (r : Int) (w : World) (h : wide_Check.f a0_0 a0_1 = some r) :
    Calls Try.prog 9 #[.agg #[.int .i64 a0_0, .int .i64 a0_1]] w fun e w' => e = .returned (.int .i64 r) ∧ Below w.heap.size w w' :=
  Go.Proofs.Ytbohfpjmglfjeaa.PW.wide_Check.calls a0_0 a0_1 r w (Eq.trans (WPure.check_eq _ _) h)

/-! ### foolscaplaw03_lives: function 10 -/
def foolscaplaw03_lives.f  : Option (Bool) := some (true)
theorem foolscaplaw03_lives.calls  (r : Bool) (w : World) (h : foolscaplaw03_lives.f  = some r) :
    Calls Try.prog 10 #[] w fun e w' => e = .returned (.bool r) ∧ Below w.heap.size w w' :=
  Go.Proofs.Ytbohfpjmglfjeaa.PW.foolscaplaw03_lives.calls 100 r w (Eq.trans (WPure.lives_eq 100 (by decide)) h)

/-! ### wide_Add: function 11 -/
def wide_Add.f (a0_0 : Int) (a0_1 : Int) (a1 : Int) : Option (Int × Int × Int) := some (Go.Proofs.Ytbohfpjmglfjeaa.WPure.addW a0_0 a0_1 a1)
theorem wide_Add.calls (a0_0 : Int) (a0_1 : Int) (a1 : Int) (r1 : Int) (r2 : Int) (r3 : Int) (w : World) (h : wide_Add.f a0_0 a0_1 a1 = some (r1, r2, r3)) :
    Calls Try.prog 11 #[.agg #[.int .i64 a0_0, .int .i64 a0_1], .int .i64 a1] w fun e w' => e = .returned (.tuple #[.agg #[.int .i64 r1, .int .i64 r2], .int .i64 r3]) ∧ Below w.heap.size w w' :=
  Go.Proofs.Ytbohfpjmglfjeaa.PW.wide_Add.calls 100 a0_0 a0_1 a1 r1 r2 r3 w (Eq.trans (WPure.add_eq 99 _ _ _) h)

/-! ### wide_Sub: function 12 -/
def wide_Sub.f (a0_0 : Int) (a0_1 : Int) (a1 : Int) : Option (Int × Int × Int) := some (Go.Proofs.Ytbohfpjmglfjeaa.WPure.subW a0_0 a0_1 a1)
theorem wide_Sub.calls (a0_0 : Int) (a0_1 : Int) (a1 : Int) (r1 : Int) (r2 : Int) (r3 : Int) (w : World) (h : wide_Sub.f a0_0 a0_1 a1 = some (r1, r2, r3)) :
    Calls Try.prog 12 #[.agg #[.int .i64 a0_0, .int .i64 a0_1], .int .i64 a1] w fun e w' => e = .returned (.tuple #[.agg #[.int .i64 r1, .int .i64 r2], .int .i64 r3]) ∧ Below w.heap.size w w' :=
  Go.Proofs.Ytbohfpjmglfjeaa.PW.wide_Sub.calls 100 a0_0 a0_1 a1 r1 r2 r3 w (Eq.trans (WPure.sub_eq 99 _ _ _) h)

end Go.Proofs.Ytbohfpjmglfjeaa.PWideExact
