/- The root of a whole number's square is that number. The law in plain numbers. No condition. -/
import Derived.Test.YtbgiehmpdligdaaPMathsSquaresx
import Derived.Test.YtbgiehmpdligdaaHPure
set_option linter.unusedVariables false
namespace Go.Proofs.Ytbgiehmpdligdaa.Pure
open Go Go.RowKit MA MB MC ME MF
open Go.Proofs.YtbgiehmpdligdaaW.PrintWords Go.Proofs.YtbgiehmpdligdaaW.PrintLast Go.Proofs.YtbgiehmpdligdaaW.PrintMore
theorem wfi {a : Int} (h : (Lit.int .i64 a).wf = true) : -9223372036854775808 ≤ a ∧ a < 9223372036854775808 := by
  simp [Lit.wf, IntKind.min, IntKind.max, IntKind.bits, IntKind.signed] at h
  omega
theorem MathsSquares : PMathsSquares.foolscaplaw15_MathsSquares.Pure := by
  intro n _
  refine ⟨1, ?_⟩
  unfold PMathsSquares.foolscaplaw15_MathsSquares.f
  simp only [PMathsSquares.foolscaplaw15_MathsSquares.j0, PMathsSquares.maths_Root.f, PMathsSquares.maths_Power.f, PMathsSquares.foolscaplaw15_lives.f, Option.bind_some]
  by_cases c : n < 0
  · rw [if_pos c, if_pos trivial]
  rw [if_neg c]
  by_cases c2 : n > 1000000
  · rw [decide_eq_true c2, if_pos rfl]
  rw [decide_eq_false c2, if_neg (by decide)]
  obtain ⟨N, rfl⟩ := Int.eq_ofNat_of_zero_le (show 0 ≤ n by omega)
  have hN : N ≤ 1000000 := by omega
  have hNN : N * N ≤ 1000000000000 := Nat.mul_le_mul hN hN
  have w1 : wrap64 ((N : Int) * (N : Int)) = ((N * N : Nat) : Int) := wrap_n (x := N * N) (by omega)
  have w2 : wrap64 (((N * N : Nat) : Int) * 1000000) = ((N * N * 1000000 : Nat) : Int) := wrap_n (x := N * N * 1000000) (by omega)
  have w3 : wrap64 ((N : Int) * 1000000) = ((N * 1000000 : Nat) : Int) := wrap_n (x := N * 1000000) (by omega)
  rw [w1, w2, w3]
  clear w1 w2 w3
  have e1 : N * N * 1000000 * 1000000 = N * 1000000 * (N * 1000000) := by rw [Nat.mul_mul_mul_comm, Nat.mul_assoc]
  have hr : rootN ((N * N * 1000000 : Nat) : Int) = (((N * 1000000 : Nat) : Int), 0) := by
    unfold rootN
    rw [if_pos ⟨⟨by omega, by omega⟩, by omega⟩, Int.natAbs_natCast, e1, rnd_sq (by omega)]
  have hd : rdiv (N * 1000000 * (N * 1000000)) 1000000 = N * N * 1000000 := by
    rw [← e1]; unfold rdiv; rw [if_neg (by omega)]; omega
  have hp : pow2C ((N * 1000000 : Nat) : Int) 2000000 = some (((N * N * 1000000 : Nat) : Int), 0) := by
    unfold pow2C
    have hf : fits ((N * 1000000 : Nat) : Int) := ⟨by omega, by omega⟩
    rw [if_pos ⟨rfl, hf⟩]
    unfold mulC
    rw [Int.natAbs_natCast, hd, if_pos ⟨⟨hf, hf⟩, by omega⟩]
    unfold sgn
    rw [if_neg (by simp)]
  rw [hr, hp, Option.bind_some]
  dsimp only
  rw [if_pos rfl, if_pos rfl, if_pos rfl, if_pos rfl]
end Go.Proofs.Ytbgiehmpdligdaa.Pure
