/- '<=' on floats of 64 bits: what the model's operation answers. -/
import Derived.Test.YtfaoilalhneijaaFlt
namespace Go.Proofs.Ytfaoilalhneijaa
def fle (a b : Nat) : Bool := Ieee.double.order a b == some .lt || Ieee.double.order a b == some .eq
@[go_sem high] theorem bin_fle (t : TypeId) (a b : Nat) : binOp .leq t (.float .f64 a) (.float .f64 b) = pure (.bool (fle a b)) := by simp [binOp, Op.floatCmp, fle, FloatKind.format]
end Go.Proofs.Ytfaoilalhneijaa
