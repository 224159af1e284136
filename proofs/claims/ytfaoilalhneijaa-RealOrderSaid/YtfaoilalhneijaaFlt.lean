/- Floats as their bits: the words that the printed functions use, and what the model's entries and operations answer in these words. -/
import Derived.Shelf.Spec.BitsCarry
import Derived.Laws.FloatArith
import Derived.Test.YtfaoilalhneijaaProg
namespace Go.Proofs.Ytfaoilalhneijaa

/-- '==', '<' on floats of 64 bits; a float's other sign; a product, where it is one. -/
def feq (a b : Nat) : Bool := Ieee.double.order a b == some .eq
def flt (a b : Nat) : Bool := Ieee.double.order a b == some .lt
def fgt (a b : Nat) : Bool := Ieee.double.order a b == some .gt
def fneg (a : Nat) : Nat := Op.negFloat .f64 a
def fmulok (a b : Nat) : Bool := (Ieee.double.mul a b).isSome
def fmulV (a b : Nat) : Nat := (Ieee.double.mul a b).getD 0
def foni (n : Int) : Nat := floatOfInt .f64 n

@[go_sem high] theorem bin_feq (t : TypeId) (a b : Nat) : binOp .eql t (.float .f64 a) (.float .f64 b) = pure (.bool (feq a b)) := by simp [binOp, Op.floatCmp, feq, FloatKind.format]
@[go_sem high] theorem bin_fne (t : TypeId) (a b : Nat) : binOp .neq t (.float .f64 a) (.float .f64 b) = pure (.bool (!feq a b)) := by simp [binOp, Op.floatCmp, feq, FloatKind.format]; rfl
@[go_sem high] theorem bin_flt (t : TypeId) (a b : Nat) : binOp .lss t (.float .f64 a) (.float .f64 b) = pure (.bool (flt a b)) := by simp [binOp, Op.floatCmp, flt, FloatKind.format]
@[go_sem high] theorem bin_fgt (t : TypeId) (a b : Nat) : binOp .gtr t (.float .f64 a) (.float .f64 b) = pure (.bool (fgt a b)) := by simp [binOp, Op.floatCmp, fgt, FloatKind.format]
@[go_sem high] theorem unary_fneg (a : Nat) : Op.unary .neg (.float .f64 a) = pure (.float .f64 (fneg a)) := rfl
@[go_sem high] theorem bin_fmul (P : Program) (w : World) (t : TypeId) (a b : Nat) : (binOp .mul t (.float .f64 a) (.float .f64 b)).run P w = if fmulok a b = true then .ok (.float .f64 (fmulV a b)) w else (Op.floatArith .mul .f64 a b).run P w := by
  by_cases h : fmulok a b = true
  · rw [if_pos h]
    obtain ⟨r, hr⟩ := Option.isSome_iff_exists.1 h
    have e : fmulV a b = r := by simp [fmulV, hr]
    rw [e]
    exact run_float_arith w .mul t .f64 a b r hr
  · rw [if_neg h]
    rfl
@[go_sem high] theorem run_conv_u64_f64 (P : Program) (w : World) (src dst : TypeId) (q : IntKind) (n : Int) (hs : (P.underlying src).isSome = true) (hd : P.underlying dst = some (.float .f64)) :
    (convert src dst (.int q n)).run P w = .ok (.float .f64 (foni n)) w := run_convert_int_float w src dst q .f64 n hs hd

theorem fbits_run (P : Program) (f : FuncId) {fn : Func} (hf : P.funcs[f]? = some fn) (h0 : (fn.name == "runtime.NumGoroutine") = false) (h1 : fn.body.isNone = true) (h2 : Extern.findNext fn = none) (h3 : Extern.find fn = some Extern.MathFloatBits.float64bits) (b : Nat) (W : World) :
    (callFunc f #[.float .f64 b]).run P W = .ok (.value (.int .u64 b)) W := by
  rw [run_callFunc_extern hf h0 h1 h2 h3]
  rfl
theorem ffrom_run (P : Program) (f : FuncId) {fn : Func} (hf : P.funcs[f]? = some fn) (h0 : (fn.name == "runtime.NumGoroutine") = false) (h1 : fn.body.isNone = true) (h2 : Extern.findNext fn = none) (h3 : Extern.find fn = some Extern.MathFloatBits.float64frombits) (n : Int) (W : World) :
    (callFunc f #[.int .u64 n]).run P W = .ok (.value (.float .f64 n.toNat)) W := by
  rw [run_callFunc_extern hf h0 h1 h2 h3]
  rfl
theorem hent_fbits : ∀ (b : Nat) (W : World), (callFunc 41 #[.float .f64 b]).run Try.prog W = .ok (.value (.int .u64 b)) W :=
  fun b W => fbits_run Try.prog 41 Try.func41 (by kernel_rfl) (by kernel_rfl) (by kernel_rfl) (by kernel_rfl) b W
theorem hent_ffrom : ∀ (n : Int) (W : World), (callFunc 27 #[.int .u64 n]).run Try.prog W = .ok (.value (.float .f64 n.toNat)) W :=
  fun n W => ffrom_run Try.prog 27 Try.func27 (by kernel_rfl) (by kernel_rfl) (by kernel_rfl) (by kernel_rfl) n W
end Go.Proofs.Ytfaoilalhneijaa
