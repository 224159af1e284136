/- What the model's entries for math/bits.Add64 and Sub64 answer, with no carry coming in. -/
import Derived.Shelf.Spec.BitsCarry
import Derived.Test.YtjhinakfoejpbaaProg
namespace Go.Proofs.Ytjhinakfoejpbaa


def ent_sub64 (x y : Int) : Int := (((x.toNat + 18446744073709551616 - y.toNat) % 18446744073709551616 : Nat) : Int)
def ent_sub64c (x y : Int) : Int := ((if x.toNat < y.toNat then 1 else 0 : Nat) : Int)
def ent_add64 (x y : Int) : Int := (((x.toNat + y.toNat) % 18446744073709551616 : Nat) : Int)
def ent_add64c (x y : Int) : Int := (((x.toNat + y.toNat) / 18446744073709551616 : Nat) : Int)

theorem ent_sub64_run (P : Program) (f : FuncId) {fn : Func} (hf : P.funcs[f]? = some fn) (h0 : (fn.name == "runtime.NumGoroutine") = false) (h1 : fn.body.isNone = true) (h2 : Extern.findNext fn = none) (h3 : Extern.find fn = some sub64Entry) (x y : Int) (W : World) :
    (callFunc f #[.int .u64 x, .int .u64 y, .int .u64 0]).run P W = .ok (.value (.tuple #[.int .u64 (ent_sub64 x y), .int .u64 (ent_sub64c x y)])) W := by
  rw [run_callFunc_extern hf h0 h1 h2 h3]
  rfl
theorem ent_add64_run (P : Program) (f : FuncId) {fn : Func} (hf : P.funcs[f]? = some fn) (h0 : (fn.name == "runtime.NumGoroutine") = false) (h1 : fn.body.isNone = true) (h2 : Extern.findNext fn = none) (h3 : Extern.find fn = some add64Entry) (x y : Int) (W : World) :
    (callFunc f #[.int .u64 x, .int .u64 y, .int .u64 0]).run P W = .ok (.value (.tuple #[.int .u64 (ent_add64 x y), .int .u64 (ent_add64c x y)])) W := by
  rw [run_callFunc_extern hf h0 h1 h2 h3]
  rfl
theorem hent_sub : ∀ (x y : Int) (W : World), (callFunc 104 #[.int .u64 x, .int .u64 y, .int .u64 0]).run Try.prog W = .ok (.value (.tuple #[.int .u64 (ent_sub64 x y), .int .u64 (ent_sub64c x y)])) W :=
  fun x y W => ent_sub64_run Try.prog 104 Try.func104 (by kernel_rfl) (by kernel_rfl) (by kernel_rfl) (by kernel_rfl) x y W
theorem hent_add : ∀ (x y : Int) (W : World), (callFunc 105 #[.int .u64 x, .int .u64 y, .int .u64 0]).run Try.prog W = .ok (.value (.tuple #[.int .u64 (ent_add64 x y), .int .u64 (ent_add64c x y)])) W :=
  fun x y W => ent_add64_run Try.prog 105 Try.func105 (by kernel_rfl) (by kernel_rfl) (by kernel_rfl) (by kernel_rfl) x y W
end Go.Proofs.Ytjhinakfoejpbaa
namespace Go.Proofs.Ytjhinakfoejpbaa
theorem and_contra {a b : Bool} (h1 : (a && b) = false) (h2 : a = true) (h3 : b = true) : False := by
  rw [h2, h3] at h1
  exact absurd h1 (by decide)
end Go.Proofs.Ytjhinakfoejpbaa
