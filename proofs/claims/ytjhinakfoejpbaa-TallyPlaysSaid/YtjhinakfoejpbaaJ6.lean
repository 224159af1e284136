/- A tally of numbers. No condition stands open. -/
import Derived.Test.YtjhinakfoejpbaaJ5
set_option linter.unusedVariables false
set_option linter.unusedSimpArgs false
/- A tally of numbers; how high it may be. No condition stands open. -/
namespace Go.Proofs.Ytjhinakfoejpbaa.T
open Go.RowKit Go.Proofs.Ytjhinakfoejpbaa.WPure Go.Proofs.YtjhinakfoejpbaaW.PrintWords Go.Proofs.YtjhinakfoejpbaaW.PrintLast Go.Proofs.YtjhinakfoejpbaaW.PrintMore
/-- the values of numbers -/
def numsV (l : List Int) : List Val := l.map numV
section
variable {w : World} {S : Nat → Prop} {g n : Nat} {L : List Val}
end
/-! how high -/
def bits : Nat → Nat → Nat
  | 0, _ => 0
  | f + 1, n => if n = 0 then 0 else bits f (n / 2) + 1
theorem bits_lt : ∀ f n, n ≤ f → n < 2 ^ bits f n
  | 0, n, h => by
    obtain rfl : n = 0 := by omega
    decide
  | f + 1, n, h => by
    unfold bits
    by_cases e : n = 0
    · rw [if_pos e]
      subst e
      decide
    · rw [if_neg e, Nat.pow_succ]
      have := bits_lt f (n / 2) (by omega)
      omega
theorem tall_l0 : ∀ f n (h : Nat), n ≤ f → n ≤ 1099511627776 → h + 3 * f ≤ 1099511627776 → PG.foolscapref20_Tall.l0 (f + 1) (n : Int) (h : Int) = some (((h + 3 * bits f n : Nat)) : Int)
  | 0, n, h, hn, h1, h2 => by
    obtain rfl : n = 0 := by omega
    rw [PG.foolscapref20_Tall.l0, if_neg (by omega)]
    rfl
  | f + 1, n, h, hn, h1, h2 => by
    rw [PG.foolscapref20_Tall.l0]
    unfold bits
    by_cases e : n = 0
    · rw [if_neg (by omega), if_pos e]
      rfl
    · rw [if_pos (by omega), if_neg e]
      rw [show wrap64 (Int.tdiv (n : Int) 2) = ((n / 2 : Nat) : Int) by
        unfold wrap64
        rw [Int.tdiv_eq_ediv_of_nonneg (by omega)]
        omega, show wrap64 ((h : Int) + 3) = ((h + 3 : Nat) : Int) by unfold wrap64; omega]
      rw [tall_l0 f (n / 2) (h + 3) (by omega) (by omega) (by omega)]
      congr 2
      omega
def tallN (n : Nat) : Nat := 2 + 3 * bits n n
theorem tall_any (n : Nat) (hn : n ≤ 1000000) (w : World) : Calls Try.prog 36 #[.int .i64 (n : Int)] w fun e w' => e = .returned (.int .i64 (tallN n : Nat)) ∧ Below w.heap.size w w' := by
  have e := PG.foolscapref20_Tall.calls (n + 1) (n : Int) _ w (tall_l0 n n 2 (Nat.le_refl _) (by omega) (by omega))
  exact e.mono fun e w' ⟨he, hd⟩ => ⟨he, hd.below⟩
theorem high_tall {t : Tree} (h : Bal t) {n : Nat} (hn : siz t ≤ n) : highT t ≤ tallN n := by
  have e := high_bits h (bits n n) (by have := bits_lt n n (Nat.le_refl _); omega)
  unfold tallN
  omega
end Go.Proofs.Ytjhinakfoejpbaa.T
