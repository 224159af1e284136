/- Chapter 02: what the printed functions come to, in plain numbers. -/
import Ieee.Arith
import Derived.Laws.BitsLemmas
import Derived.Laws.Bits64
import Derived.Laws.Bits64b
import Derived.Lib.BitFns
import Derived.Test.YtfaoilalhneijaaPGx
set_option linter.unusedSimpArgs false
set_option linter.unusedVariables false
namespace Go.Proofs.Ytfaoilalhneijaa.FO
open Ieee

/-- What the rung r stands for, in units of 2^-1074. -/
def val (r : Nat) : Nat := if r < 4503599627370496 then r else (4503599627370496 + r % 4503599627370496) * 2 ^ (r / 4503599627370496 - 1)

theorem val_succ (r : Nat) : val r < val (r + 1) := by
  unfold val
  by_cases h1 : r + 1 < 4503599627370496
  · rw [if_pos (by omega), if_pos h1]; omega
  · by_cases h2 : r < 4503599627370496
    · have e : r + 1 = 4503599627370496 := by omega
      rw [if_pos h2, if_neg h1, e]
      show r < (4503599627370496 + 0) * 2 ^ 0
      omega
    · rw [if_neg h2, if_neg h1]
      by_cases h3 : r % 4503599627370496 + 1 < 4503599627370496
      · have e1 : (r + 1) / 4503599627370496 = r / 4503599627370496 := by omega
        have e2 : (r + 1) % 4503599627370496 = r % 4503599627370496 + 1 := by omega
        rw [e1, e2]
        exact Nat.mul_lt_mul_of_pos_right (by omega) (Nat.two_pow_pos _)
      · have e1 : (r + 1) / 4503599627370496 = r / 4503599627370496 + 1 := by omega
        have e2 : (r + 1) % 4503599627370496 = 0 := by omega
        have e3 : r / 4503599627370496 + 1 - 1 = (r / 4503599627370496 - 1) + 1 := by omega
        rw [e1, e2, e3, Nat.pow_succ, Nat.mul_comm (2 ^ _) 2, ← Nat.mul_assoc]
        exact Nat.mul_lt_mul_of_pos_right (by omega) (Nat.two_pow_pos _)

theorem val_lt {r s : Nat} (h : r < s) : val r < val s := by
  induction s with
  | zero => omega
  | succ s ih =>
    by_cases e : r = s
    · subst e; exact val_succ r
    · exact Nat.lt_trans (ih (by omega)) (val_succ s)
theorem val_lt_iff {r s : Nat} : val r < val s ↔ r < s :=
  ⟨fun h => by
    rcases Nat.lt_trichotomy r s with g | g | g
    · exact g
    · subst g; omega
    · have := val_lt g; omega, val_lt⟩
theorem val_le {r s : Nat} (h : r ≤ s) : val r ≤ val s := by
  rcases Nat.lt_or_eq_of_le h with g | g
  · exact Nat.le_of_lt (val_lt g)
  · rw [g]; exact Nat.le_refl _
theorem val_zero : val 0 = 0 := rfl

/-- The sign and the rung of a word. -/
def neg (w : Nat) : Bool := w / 9223372036854775808 % 2 == 1
def rung (w : Nat) : Nat := w % 9223372036854775808
local notation "infR" => (9218868437227405312 : Nat)
/-- The signed rung; what it stands for. -/
def sr (w : Nat) : Int := if neg w = true then -(rung w : Int) else (rung w : Int)
def sv (w : Nat) : Int := if neg w = true then -(val (rung w) : Int) else (val (rung w) : Int)

theorem sv_lt {a b : Nat} : sv a < sv b ↔ sr a < sr b := by
  have h := @val_lt_iff (rung a) (rung b)
  have h' := @val_lt_iff (rung b) (rung a)
  have ha := @val_le 0 (rung a) (Nat.zero_le _)
  have hb := @val_le 0 (rung b) (Nat.zero_le _)
  have ha' := @val_lt_iff 0 (rung a)
  have hb' := @val_lt_iff 0 (rung b)
  rw [val_zero] at ha hb ha' hb'
  unfold sv sr
  generalize val (rung a) = x at *
  generalize val (rung b) = y at *
  generalize rung a = r at *
  generalize rung b = s at *
  split <;> split <;> omega
theorem cmp_congr {a b c d : Int} (h1 : a < b ↔ c < d) (h2 : b < a ↔ d < c) : compare a b = compare c d := by
  show compareOfLessAndEq a b = compareOfLessAndEq c d
  unfold compareOfLessAndEq
  by_cases x : a < b
  · rw [if_pos x, if_pos (h1.1 x)]
  · rw [if_neg x, if_neg (fun z => x (h1.2 z))]
    by_cases y : b < a
    · rw [if_neg (by omega), if_neg (by have := h2.1 y; omega)]
    · rw [if_pos (by omega), if_pos (by have := fun z => y (h2.2 z); have := fun z => x (h1.2 z); omega)]
theorem sv_cmp (a b : Nat) : compare (sv a) (sv b) = compare (sr a) (sr b) := cmp_congr sv_lt sv_lt

theorem read_lo {w : Nat} (h : rung w < 4503599627370496) : double.read w = .number (neg w) (rung w) (-1074) := by
  show (if rung w < 4503599627370496 then _ else _) = _
  rw [if_pos h]; rfl
theorem read_mid {w : Nat} (h : ¬ rung w < 4503599627370496) (h2 : rung w < infR) : double.read w = .number (neg w) (4503599627370496 + rung w % 4503599627370496) (-1074 + (rung w / 4503599627370496 - 1 : Nat)) := by
  show (if rung w < 4503599627370496 then _ else if rung w < 9218868437227405312 then _ else _) = _
  rw [if_neg h, if_pos h2]; rfl
theorem read_inf {w : Nat} (h : rung w = infR) : double.read w = .infinity (neg w) := by
  show (if rung w < 4503599627370496 then _ else if rung w < 9218868437227405312 then _ else if rung w = 9218868437227405312 then _ else _) = _
  rw [if_neg (by omega), if_neg (by omega), if_pos h]; rfl
theorem read_nan {w : Nat} (h : infR < rung w) : double.read w = .nan (neg w) (rung w - infR) := by
  show (if rung w < 4503599627370496 then _ else if rung w < 9218868437227405312 then _ else if rung w = 9218868437227405312 then _ else _) = _
  rw [if_neg (by omega), if_neg (by omega), if_neg (by omega)]; rfl

/-- A word that stands for a number: its digits and their place above 2^-1074. -/
theorem read_num {w : Nat} (h : rung w < infR) : ∃ m c : Nat, double.read w = .number (neg w) m (-1074 + (c : Int)) ∧ m * 2 ^ c = val (rung w) := by
  by_cases g : rung w < 4503599627370496
  · exact ⟨rung w, 0, by rw [read_lo g]; rfl, by unfold val; rw [if_pos g]; omega⟩
  · exact ⟨_, _, read_mid g h, by unfold val; rw [if_neg g]⟩

theorem signed_eq (s : Bool) (m u : Nat) : signed s m u = if s = true then -((m * 2 ^ u : Nat) : Int) else ((m * 2 ^ u : Nat) : Int) := by
  unfold signed; rw [Nat.shiftLeft_eq]
theorem num_cmp (s t : Bool) (m n c d : Nat) : (Datum.number s m (-1074 + (c : Int))).order (.number t n (-1074 + (d : Int))) =
    some (compare (if s = true then -((m * 2 ^ c : Nat) : Int) else ((m * 2 ^ c : Nat) : Int)) (if t = true then -((n * 2 ^ d : Nat) : Int) else ((n * 2 ^ d : Nat) : Int))) := by
  unfold Datum.order
  simp only [signed_eq]
  have key : ∀ b : Nat, b ≤ c → b ≤ d → (compare (if s = true then -((m * 2 ^ (c - b) : Nat) : Int) else ((m * 2 ^ (c - b) : Nat) : Int)) (if t = true then -((n * 2 ^ (d - b) : Nat) : Int) else ((n * 2 ^ (d - b) : Nat) : Int))) = (compare (if s = true then -((m * 2 ^ c : Nat) : Int) else ((m * 2 ^ c : Nat) : Int)) (if t = true then -((n * 2 ^ d : Nat) : Int) else ((n * 2 ^ d : Nat) : Int))) := by
    intro b hb hd
    have e1 : m * 2 ^ c = m * 2 ^ (c - b) * 2 ^ b := by rw [Nat.mul_assoc, ← Nat.pow_add]; congr 2; omega
    have e2 : n * 2 ^ d = n * 2 ^ (d - b) * 2 ^ b := by rw [Nat.mul_assoc, ← Nat.pow_add]; congr 2; omega
    rw [e1, e2]
    generalize m * 2 ^ (c - b) = x
    generalize n * 2 ^ (d - b) = y
    have hp : (0 : Int) < ((2 ^ b : Nat) : Int) := by exact_mod_cast Nat.two_pow_pos b
    generalize ((2 ^ b : Nat)) = p at hp
    have hx : (if s = true then -((x * p : Nat) : Int) else ((x * p : Nat) : Int)) = (if s = true then -(x : Int) else (x : Int)) * p := by
      split <;> simp [Int.neg_mul]
    have hy : (if t = true then -((y * p : Nat) : Int) else ((y * p : Nat) : Int)) = (if t = true then -(y : Int) else (y : Int)) * p := by
      split <;> simp [Int.neg_mul]
    rw [hx, hy]
    generalize (if s = true then -(x : Int) else (x : Int)) = X
    generalize (if t = true then -(y : Int) else (y : Int)) = Y
    exact cmp_congr ⟨fun h => Int.mul_lt_mul_of_pos_right h hp, fun h => Int.lt_of_mul_lt_mul_right h (Int.le_of_lt hp)⟩ ⟨fun h => Int.mul_lt_mul_of_pos_right h hp, fun h => Int.lt_of_mul_lt_mul_right h (Int.le_of_lt hp)⟩
  rw [← key (min c d) (Nat.min_le_left _ _) (Nat.min_le_right _ _)]
  have e1 : (-1074 + (c : Int) - min (-1074 + (c : Int)) (-1074 + (d : Int))).toNat = c - min c d := by omega
  have e2 : (-1074 + (d : Int) - min (-1074 + (c : Int)) (-1074 + (d : Int))).toNat = d - min c d := by omega
  rw [e1, e2]

theorem cmp_lt {a b : Int} (h : a < b) : compare a b = .lt := by
  show compareOfLessAndEq a b = _
  unfold compareOfLessAndEq; rw [if_pos h]
theorem cmp_gt {a b : Int} (h : b < a) : compare a b = .gt := by
  show compareOfLessAndEq a b = _
  unfold compareOfLessAndEq; rw [if_neg (by omega), if_neg (by omega)]
theorem cmp_eq (a : Int) : compare a a = .eq := by
  show compareOfLessAndEq a a = _
  unfold compareOfLessAndEq; rw [if_neg (by omega), if_pos rfl]

theorem order_eq {a b : Nat} (ha : rung a ≤ infR) (hb : rung b ≤ infR) : double.order a b = some (compare (sr a) (sr b)) := by
  show (double.read a).order (double.read b) = _
  rcases Nat.lt_or_eq_of_le ha with ga | ga <;> rcases Nat.lt_or_eq_of_le hb with gb | gb
  · obtain ⟨m, c, e1, e2⟩ := read_num ga
    obtain ⟨n, d, f1, f2⟩ := read_num gb
    rw [e1, f1, num_cmp, e2, f2, ← sv_cmp]; rfl
  · obtain ⟨m, c, e1, e2⟩ := read_num ga
    rw [e1, read_inf gb]
    show some (if neg b then Ordering.gt else Ordering.lt) = _
    congr 1
    unfold sr
    split
    · rename_i h; rw [cmp_gt]; split <;> omega
    · rename_i h; rw [cmp_lt]; split <;> omega
  · obtain ⟨n, d, f1, f2⟩ := read_num gb
    rw [f1, read_inf ga]
    show some (if neg a then Ordering.lt else Ordering.gt) = _
    congr 1
    unfold sr
    split
    · rename_i h; rw [cmp_lt]; split <;> omega
    · rename_i h; rw [cmp_gt]; split <;> omega
  · rw [read_inf ga, read_inf gb]
    show some (compare (neg b).toNat (neg a).toNat) = _
    congr 1
    unfold sr
    rw [ga, gb]
    cases neg a <;> cases neg b <;> rfl
theorem order_nan_l {a b : Nat} (ha : infR < rung a) : double.order a b = none := by
  show (double.read a).order (double.read b) = _
  rw [read_nan ha]; cases double.read b <;> rfl
theorem order_nan_r {a b : Nat} (hb : infR < rung b) : double.order a b = none := by
  show (double.read a).order (double.read b) = _
  rw [read_nan hb]; cases double.read a <;> rfl

theorem cmp_beq_eq (a b : Int) : (some (compare a b) == some Ordering.eq) = decide (a = b) := by
  rcases Int.lt_trichotomy a b with h | h | h
  · rw [cmp_lt h, decide_eq_false (by omega)]; rfl
  · subst h; rw [cmp_eq, decide_eq_true rfl]; rfl
  · rw [cmp_gt h, decide_eq_false (by omega)]; rfl
theorem cmp_beq_lt (a b : Int) : (some (compare a b) == some Ordering.lt) = decide (a < b) := by
  rcases Int.lt_trichotomy a b with h | h | h
  · rw [cmp_lt h, decide_eq_true h]; rfl
  · subst h; rw [cmp_eq, decide_eq_false (by omega)]; rfl
  · rw [cmp_gt h, decide_eq_false (by omega)]; rfl
theorem cmp_beq_gt (a b : Int) : (some (compare a b) == some Ordering.gt) = decide (b < a) := by
  rcases Int.lt_trichotomy a b with h | h | h
  · rw [cmp_lt h, decide_eq_false (by omega)]; rfl
  · subst h; rw [cmp_eq, decide_eq_false (by omega)]; rfl
  · rw [cmp_gt h, decide_eq_true h]; rfl

theorem eqF (a b : Nat) : (double.order a b == some .eq) = decide (rung a ≤ infR ∧ rung b ≤ infR ∧ sr a = sr b) := by
  by_cases ha : rung a ≤ infR
  · by_cases hb : rung b ≤ infR
    · rw [order_eq ha hb, cmp_beq_eq]; congr 1; simp [ha, hb]
    · rw [order_nan_r (by omega), decide_eq_false (by omega)]; rfl
  · rw [order_nan_l (by omega), decide_eq_false (by omega)]; rfl
theorem ltF (a b : Nat) : (double.order a b == some .lt) = decide (rung a ≤ infR ∧ rung b ≤ infR ∧ sr a < sr b) := by
  by_cases ha : rung a ≤ infR
  · by_cases hb : rung b ≤ infR
    · rw [order_eq ha hb, cmp_beq_lt]; congr 1; simp [ha, hb]
    · rw [order_nan_r (by omega), decide_eq_false (by omega)]; rfl
  · rw [order_nan_l (by omega), decide_eq_false (by omega)]; rfl
theorem gtF (a b : Nat) : (double.order a b == some .gt) = decide (rung a ≤ infR ∧ rung b ≤ infR ∧ sr b < sr a) := by
  by_cases ha : rung a ≤ infR
  · by_cases hb : rung b ≤ infR
    · rw [order_eq ha hb, cmp_beq_gt]; congr 1; simp [ha, hb]
    · rw [order_nan_r (by omega), decide_eq_false (by omega)]; rfl
  · rw [order_nan_l (by omega), decide_eq_false (by omega)]; rfl
end Go.Proofs.Ytfaoilalhneijaa.FO
namespace Go.Proofs.Ytfaoilalhneijaa.FB
open Go Go.RowKit

theorem bv_nat (a : Nat) (ha : a < 18446744073709551616) : (BitVec.ofInt 64 (a : Int)).toNat = a := by
  rw [BitVec.ofInt_natCast, BitVec.toNat_ofNat]; exact Nat.mod_eq_of_lt (by omega)
theorem wrap_nat (a : Nat) (ha : a < 18446744073709551616) : IntKind.u64.wrap (a : Int) = a := by rw [IntKind.wrap_u64]; omega
theorem andNot_sign (a : Nat) (ha : a < 18446744073709551616) : bits .andNot .u64 (a : Int) 9223372036854775808 = ((a % 9223372036854775808 : Nat) : Int) := by
  show IntKind.u64.wrap ((BitVec.ofInt 64 (a : Int) &&& ~~~ (9223372036854775808#64)).toNat : Int) = _
  rw [show ~~~ (9223372036854775808#64) = 9223372036854775807#64 by decide, BitVec.toNat_and, bv_nat a ha]
  show IntKind.u64.wrap ((a &&& (2 ^ 63 - 1) : Nat) : Int) = _
  rw [Nat.and_two_pow_sub_one_eq_mod, wrap_nat _ (by omega)]
theorem and_low_sign (a : Nat) (h : a < 9223372036854775808) : a &&& 9227875636482146303 = a % 4503599627370496 := by
  have e : (9227875636482146303 : Nat) = 2 ^ 63 ||| (2 ^ 52 - 1) := by decide +kernel
  have e2 : a &&& 2 ^ 63 = 0 := by
    apply Nat.eq_of_testBit_eq; intro i
    rw [Nat.testBit_and, Nat.testBit_two_pow, Nat.zero_testBit]
    by_cases hi : 63 = i
    · subst hi; rw [Nat.testBit_lt_two_pow (show a < 2 ^ 63 by omega)]; rfl
    · simp [hi]
  rw [e, Nat.and_or_distrib_left, e2, Nat.zero_or, Nat.and_two_pow_sub_one_eq_mod]
theorem andNot_exp (a : Nat) (h : a < 9223372036854775808) : bits .andNot .u64 (a : Int) 9218868437227405312 = ((a % 4503599627370496 : Nat) : Int) := by
  show IntKind.u64.wrap ((BitVec.ofInt 64 (a : Int) &&& ~~~ (9218868437227405312#64)).toNat : Int) = _
  rw [show ~~~ (9218868437227405312#64) = 9227875636482146303#64 by decide, BitVec.toNat_and, bv_nat a (by omega)]
  show IntKind.u64.wrap ((a &&& 9227875636482146303 : Nat) : Int) = _
  rw [and_low_sign a h, wrap_nat _ (by omega)]
theorem wraps_u64 (n : Int) (h₀ : 0 ≤ n) (h₁ : n < 2 ^ 64) : IntKind.u64.wrap n = n := by rw [IntKind.wrap_u64]; omega
theorem wraps_i64 (n : Int) (h₀ : 0 ≤ n) (h₁ : n < 2 ^ 63) : IntKind.i64.wrap n = n := by rw [IntKind.wrap_i64]; omega
theorem and_u64 (i : Nat) (hi : i ≤ 64) (x : Int) (h0 : 0 ≤ x) (h1 : x < 18446744073709551616) : bits .and .u64 x (2 ^ i - 1) = x % 2 ^ i :=
  bits_mask .u64 64 (by decide) wraps_u64 i hi x h0 (by omega)
theorem and_i64 (i : Nat) (hi : i ≤ 63) (x : Int) (h0 : 0 ≤ x) (h1 : x < 9223372036854775808) : bits .and .i64 x (2 ^ i - 1) = x % 2 ^ i :=
  bits_mask .i64 63 (by decide) wraps_i64 i hi x h0 (by omega)
theorem or_u64 (i : Nat) (x y : Int) (h0 : 0 ≤ x) (h1 : x < 18446744073709551616) (hx : x % 2 ^ i = 0) (hy0 : 0 ≤ y) (hy : y < 2 ^ i) (hi : y < 18446744073709551616) : bits .or .u64 x y = x + y :=
  bits_join .u64 64 (by decide) wraps_u64 i x y h0 hx (by omega) hy0 hy (by omega)
theorem or_comm_u64 (x y : Int) : bits .or .u64 x y = bits .or .u64 y x := by
  show IntKind.u64.wrap ((BitVec.ofInt 64 x ||| BitVec.ofInt 64 y).toNat : Int) = IntKind.u64.wrap ((BitVec.ofInt 64 y ||| BitVec.ofInt 64 x).toNat : Int)
  rw [BitVec.or_comm]
theorem xor_all (b : Nat) (hb : b < 18446744073709551616) : bits .xor .u64 18446744073709551615 (b : Int) = ((18446744073709551615 - b : Nat) : Int) := by
  show IntKind.u64.wrap ((BitVec.ofInt 64 18446744073709551615 ^^^ BitVec.ofInt 64 (b : Int)).toNat : Int) = _
  rw [show BitVec.ofInt 64 18446744073709551615 = BitVec.allOnes 64 by decide, BitVec.allOnes_xor, BitVec.toNat_not, bv_nat b hb]
  exact wrap_nat _ (by omega)
theorem xor_top (b : Nat) (hb : b < 18446744073709551616) : b ^^^ 9223372036854775808 = if b < 9223372036854775808 then b + 9223372036854775808 else b - 9223372036854775808 := by
  split
  · rename_i h
    have h' : b < 2 ^ 63 := by omega
    have := Nat.two_pow_add_eq_or_of_lt h' 1; rw [Nat.mul_one] at this
    have e : b ^^^ 2 ^ 63 = b ||| 2 ^ 63 := by
      apply Nat.eq_of_testBit_eq; intro i
      rw [Nat.testBit_xor, Nat.testBit_or, Nat.testBit_two_pow]
      by_cases hi : 63 = i
      · subst hi; rw [Nat.testBit_lt_two_pow h']; simp
      · simp [hi]
    show b ^^^ 2 ^ 63 = _
    rw [e, Nat.or_comm]
    omega
  · rename_i h
    obtain ⟨c, rfl⟩ : ∃ c, b = 2 ^ 63 * 1 + c := ⟨b - 2 ^ 63, by omega⟩
    have hc : c < 2 ^ 63 := by omega
    rw [Nat.two_pow_add_eq_or_of_lt hc 1]
    have e : (2 ^ 63 * 1 ||| c) ^^^ 2 ^ 63 = c := by
      apply Nat.eq_of_testBit_eq; intro i
      rw [Nat.mul_one, Nat.testBit_xor, Nat.testBit_or, Nat.testBit_two_pow]
      by_cases hi : 63 = i
      · subst hi; rw [Nat.testBit_lt_two_pow hc]; simp
      · simp [hi]
    show (2 ^ 63 * 1 ||| c) ^^^ 2 ^ 63 = _
    rw [e]
    have := Nat.two_pow_add_eq_or_of_lt hc 1
    omega
end Go.Proofs.Ytfaoilalhneijaa.FB
namespace Go.Proofs.Ytfaoilalhneijaa.FK
open Go Go.RowKit FO FB Go.Proofs.Ytfaoilalhneijaa.PG
open Go.Proofs.YtfaoilalhneijaaW.PrintWords Go.Proofs.YtfaoilalhneijaaW.PrintMore
local notation "infR" => (9218868437227405312 : Nat)

theorem feq_eq (a b : Nat) : feq a b = decide (rung a ≤ infR ∧ rung b ≤ infR ∧ sr a = sr b) := eqF a b
theorem flt_eq (a b : Nat) : flt a b = decide (rung a ≤ infR ∧ rung b ≤ infR ∧ sr a < sr b) := ltF a b
theorem fgt_eq (a b : Nat) : fgt a b = decide (rung a ≤ infR ∧ rung b ≤ infR ∧ sr b < sr a) := gtF a b
theorem rung_lo {r : Nat} (h : r < 9223372036854775808) : rung r = r := Nat.mod_eq_of_lt h
theorem neg_lo {r : Nat} (h : r < 9223372036854775808) : neg r = false := by unfold neg; rw [Nat.div_eq_of_lt h]; rfl
theorem sr_lo {r : Nat} (h : r < 9223372036854775808) : sr r = r := by unfold sr; rw [neg_lo h, rung_lo h]; rfl
theorem rung_lt (b : Nat) : rung b < 9223372036854775808 := Nat.mod_lt _ (by decide)
theorem neg_iff {b : Nat} (h : b < 18446744073709551616) : neg b = true ↔ 9223372036854775808 ≤ b := by
  unfold neg
  rw [beq_iff_eq]; omega

/-- P2.1 by the rung. -/
def kindN (r : Nat) : Int := if infR < r then 0 else if r = infR then 1 else if r = 0 then 2 else if r < 4503599627370496 then 3 else 4

theorem abs_eq (b : Nat) (h : b < 18446744073709551616) : math_Abs.f b = some (rung b) := by
  unfold math_Abs.f rung
  rw [andNot_sign b h, Int.toNat_natCast]
theorem kind_eq (b : Nat) (h : b < 18446744073709551616) : real_Kind.f b = some (kindN (rung b)) := by
  unfold real_Kind.f kindN
  rw [abs_eq b h, Option.bind_some]
  have hr := rung_lt b
  rw [feq_eq, fgt_eq, feq_eq, flt_eq, rung_lo hr, sr_lo hr, rung_lo (r := 9218868437227405311) (by decide), sr_lo (r := 9218868437227405311) (by decide), rung_lo (r := 0) (by decide), sr_lo (r := 0) (by decide), rung_lo (r := 4503599627370496) (by decide), sr_lo (r := 4503599627370496) (by decide)]
  simp only [decide_eq_true_eq, and_true]
  generalize rung b = r at *
  repeat' split
  all_goals first | rfl | omega

/-- A float's parts. -/
theorem part_eq (b : Nat) (h : b < 18446744073709551616) : bits .and .u64 (b : Int) 4503599627370495 = ((rung b % 4503599627370496 : Nat) : Int) := by
  rw [show (4503599627370495 : Int) = 2 ^ 52 - 1 by rfl, and_u64 52 (by decide) _ (by omega) (by omega)]
  unfold rung; omega
theorem exp_eq (b : Nat) (h : b < 18446744073709551616) : bits .and .u64 ((b : Int) / 4503599627370496) 2047 = ((rung b / 4503599627370496 : Nat) : Int) := by
  rw [show (2047 : Int) = 2 ^ 11 - 1 by rfl, and_u64 11 (by decide) _ (by omega) (by omega)]
  unfold rung; omega
theorem parts_eq (b : Nat) (h : b < 18446744073709551616) : foolscapref02_Parts.f b = some (neg b, ((rung b / 4503599627370496 : Nat) : Int), ((rung b % 4503599627370496 : Nat) : Int)) := by
  unfold foolscapref02_Parts.f
  rw [part_eq b h, exp_eq b h]
  have hr := rung_lt b
  congr 2
  · unfold neg
    rw [Bool.eq_iff_iff, beq_iff_eq, beq_iff_eq]; omega
  · congr 1; unfold wrap64; omega
theorem kindR_eq (k b : Nat) (h : b < 18446744073709551616) : foolscapref02_Kind.f (k + 2) b = some (kindN (rung b)) := by
  unfold foolscapref02_Kind.f
  rw [parts_eq b h, Option.bind_some]
  have hr := rung_lt b
  simp only [foolscapref02_Kind.j0, foolscapref02_Kind.j1]
  unfold kindN
  generalize rung b = r at *
  have e1 : ∀ p : Prop, [Decidable p] → ((decide p = true) = p) := fun p _ => decide_eq_true_eq
  by_cases c1 : ((r / 4503599627370496 : Nat) : Int) = 2047 <;> by_cases c2 : ((r / 4503599627370496 : Nat) : Int) = 0 <;> by_cases c3 : ((r % 4503599627370496 : Nat) : Int) = 0 <;> simp [c1, c2, c3]
  all_goals repeat' split
  all_goals first | rfl | omega
theorem kindN_zero {r : Nat} : kindN r = 0 ↔ infR < r := by
  unfold kindN; repeat' split
  all_goals first | omega | simp_all
theorem kindN_one {r : Nat} : kindN r = 1 ↔ r = infR := by
  unfold kindN; repeat' split
  all_goals first | omega | simp_all
theorem kindN_two {r : Nat} : kindN r = 2 ↔ r = 0 := by
  unfold kindN; repeat' split
  all_goals first | omega | simp_all
theorem kindN_four {r : Nat} : kindN r = 4 ↔ 4503599627370496 ≤ r ∧ r < infR := by
  unfold kindN; repeat' split
  all_goals first | omega | simp_all

/-- P2.4 by signed rungs: those that are no number ahead of all; -0 ahead of 0. -/
def keyN (b : Nat) : Int × Int := if infR < rung b then (0, 0) else if neg b = true then (1, 18446744073709551615 - (b : Int)) else (2, b)
theorem key_eq (b : Nat) (h : b < 18446744073709551616) : real_key.f b = some (keyN b) := by
  unfold real_key.f keyN
  rw [kind_eq b h, Option.bind_some, xor_all b h]
  have nb : (neg b = true) = (9223372036854775808 ≤ b) := propext (neg_iff h)
  simp only [kindN_zero, nb]
  repeat' split
  all_goals first | rfl | omega | (congr 2; omega)
def lessN (a b : Nat) : Bool := decide ((keyN a).1 < (keyN b).1 ∨ (keyN a).1 = (keyN b).1 ∧ (keyN a).2 < (keyN b).2)
theorem less_eq (a b : Nat) (ha : a < 18446744073709551616) (hb : b < 18446744073709551616) : real_Less.f a b = some (lessN a b) := by
  unfold real_Less.f lessN
  rw [key_eq a ha, key_eq b hb, Option.bind_some, Option.bind_some]
  generalize keyN a = x
  generalize keyN b = y
  split
  · congr 1; symm; rw [decide_eq_true_eq]; omega
  · split
    · congr 1; rw [decide_eq_decide]; omega
    · congr 1; symm; rw [decide_eq_false_iff_not]; omega
theorem lessR_eq (k a b : Nat) (ha : a < 18446744073709551616) (hb : b < 18446744073709551616) : foolscapref02_Less.f (k + 2) a b = some (lessN a b) := by
  unfold foolscapref02_Less.f lessN
  rw [kindR_eq k b hb, kindR_eq k a ha, Option.bind_some, Option.bind_some]
  have e : ∀ x : Nat, x < 18446744073709551616 → bits .and .u64 (x : Int) 9223372036854775807 = ((rung x : Nat) : Int) := by
    intro x hx
    rw [show (9223372036854775807 : Int) = 2 ^ 63 - 1 by rfl, and_u64 63 (by decide) _ (by omega) (by omega)]
    unfold rung; omega
  rw [e a ha, e b hb]
  have na : (neg a = true) = (9223372036854775808 ≤ a) := propext (neg_iff ha)
  have nb : (neg b = true) = (9223372036854775808 ≤ b) := propext (neg_iff hb)
  unfold keyN
  simp only [kindN_zero, na, nb]
  have ra : rung a = a % 9223372036854775808 := rfl
  have rb : rung b = b % 9223372036854775808 := rfl
  by_cases c1 : infR < rung b <;> by_cases c2 : infR < rung a <;> by_cases c3 : 9223372036854775808 ≤ a <;> by_cases c4 : 9223372036854775808 ≤ b
  all_goals simp only [c1, c2, c3, c4, if_true, if_false, true_and, false_or, Int.lt_irrefl]
  all_goals try rw [if_pos (show (a : Int) / 9223372036854775808 = 1 by omega)]
  all_goals try rw [if_neg (show ¬ (a : Int) / 9223372036854775808 = 1 by omega)]
  all_goals try rw [if_pos (show (b : Int) / 9223372036854775808 = 0 by omega)]
  all_goals try rw [if_neg (show ¬ (b : Int) / 9223372036854775808 = 0 by omega)]
  all_goals congr 1
  all_goals first
    | (symm; rw [decide_eq_true_eq]; omega)
    | (symm; rw [decide_eq_false_iff_not]; omega)
    | (rw [decide_eq_decide]; omega)

/-- P2.5. -/
def nextN (b : Nat) : Nat × Int := if infR < rung b ∨ b = infR then (0, 2) else if rung b = 0 then (1, 0) else if neg b = true then (b - 1, 0) else (b + 1, 0)
theorem next_eq (k b : Nat) (h : b < 18446744073709551616) : real_Next.f (k + 1) b = some (nextN b) := by
  unfold real_Next.f nextN
  rw [kind_eq b h, Option.bind_some]
  simp only [real_Next.j0]
  have nb := neg_iff h
  have rb : rung b = b % 9223372036854775808 := rfl
  have ng : (neg b = true) = (9223372036854775808 ≤ b) := propext (neg_iff h)
  have fg : (fgt b 0 = true) = (rung b ≤ infR ∧ 0 < rung b ∧ b < 9223372036854775808) := by
    apply propext
    rw [fgt_eq, decide_eq_true_eq, sr_lo (r := 0) (by decide), rung_lo (r := 0) (by decide)]
    unfold sr
    by_cases hn : neg b = true
    · have hb := (neg_iff h).1 hn
      rw [if_pos hn]; omega
    · have hb : ¬ 9223372036854775808 ≤ b := fun z => hn ((neg_iff h).2 z)
      rw [if_neg hn]; omega
  have fl : (flt b 0 = true) = (rung b ≤ infR ∧ 0 < rung b ∧ 9223372036854775808 ≤ b) := by
    apply propext
    rw [flt_eq, decide_eq_true_eq, sr_lo (r := 0) (by decide), rung_lo (r := 0) (by decide)]
    unfold sr
    by_cases hn : neg b = true
    · have hb := (neg_iff h).1 hn
      rw [if_pos hn]; omega
    · have hb : ¬ 9223372036854775808 ≤ b := fun z => hn ((neg_iff h).2 z)
      rw [if_neg hn]; omega
  simp only [kindN_zero, kindN_one, kindN_two, fg, fl, ng]
  have w1 : 0 < b → (IntKind.u64.wrap ((b : Int) - 1)).toNat = b - 1 := by intro h; rw [IntKind.wrap_u64]; omega
  have w2 : b + 1 < 18446744073709551616 → (IntKind.u64.wrap ((b : Int) + 1)).toNat = b + 1 := by intro h; rw [IntKind.wrap_u64]; omega
  have ef : (false = true) = False := by simp
  by_cases c1 : infR < rung b
  · simp only [c1, if_true, true_or]
  · by_cases c2 : b = infR
    · have r1 : rung infR = infR := rung_lo (by decide)
      rw [c2, r1]; simp
    · have c3 : ¬ (infR < rung b ∨ b = infR) := by omega
      by_cases c4 : rung b = infR
      · have r2 : 9223372036854775808 ≤ b := by omega
        have r3 : ¬ b < 9223372036854775808 := by omega
        simp [c1, c2, c4, r2, r3]
        exact w1 (by omega)
      · simp only [c1, c2, c4, if_false, ef, or_self]
        by_cases c5 : rung b = 0
        · simp only [c5, if_true]
        · have c6 : rung b ≤ infR ∧ 0 < rung b := by omega
          by_cases c7 : 9223372036854775808 ≤ b
          · simp only [c5, c6, c7, if_true, if_false, true_and, w1 (show 0 < b by omega)]
          · simp only [c5, c6, c7, if_false, and_false, w2 (show b + 1 < 18446744073709551616 by omega)]
end Go.Proofs.Ytfaoilalhneijaa.FK
namespace Go.Proofs.Ytfaoilalhneijaa.FV
open FO

/-- v / 2^d, half to even. -/
def rneN (v d : Nat) : Nat := v / 2 ^ d + (if 2 ^ d < 2 * (v % 2 ^ d) ∨ (2 * (v % 2 ^ d) = 2 ^ d ∧ v / 2 ^ d % 2 = 1) then 1 else 0)

theorem rne_zero (v : Nat) : rneN v 0 = v := by
  unfold rneN
  simp [Nat.mod_one]
theorem rne_scale (v c d : Nat) : rneN (v * 2 ^ c) (d + c) = rneN v d := by
  unfold rneN
  have hp : 0 < 2 ^ c := Nat.two_pow_pos c
  have e1 : v * 2 ^ c / 2 ^ (d + c) = v / 2 ^ d := by rw [Nat.pow_add, Nat.mul_div_mul_right _ _ hp]
  have e2 : v * 2 ^ c % 2 ^ (d + c) = v % 2 ^ d * 2 ^ c := by rw [Nat.pow_add, Nat.mul_mod_mul_right]
  rw [e1, e2, Nat.pow_add]
  have e3 : (2 ^ d * 2 ^ c < 2 * (v % 2 ^ d * 2 ^ c)) ↔ (2 ^ d < 2 * (v % 2 ^ d)) := by
    rw [← Nat.mul_assoc]; exact Nat.mul_lt_mul_right hp
  have e4 : (2 * (v % 2 ^ d * 2 ^ c) = 2 ^ d * 2 ^ c) ↔ (2 * (v % 2 ^ d) = 2 ^ d) := by
    rw [← Nat.mul_assoc]; exact ⟨fun h => Nat.eq_of_mul_eq_mul_right hp h, fun h => by rw [h]⟩
  simp only [e3, e4]
theorem rne_ge (v d : Nat) : v / 2 ^ d ≤ rneN v d := Nat.le_add_right _ _
theorem rne_small {v d : Nat} (h : 2 * v < 2 ^ d) : rneN v d = 0 := by
  unfold rneN
  rw [Nat.div_eq_of_lt (by omega), Nat.mod_eq_of_lt (by omega), if_neg (by omega)]
theorem rne_mono {v w d : Nat} (h : v ≤ w) : rneN v d ≤ rneN w d := by
  unfold rneN
  have hp : 0 < 2 ^ d := Nat.two_pow_pos d
  have hv := Nat.div_add_mod v (2 ^ d)
  have hw := Nat.div_add_mod w (2 ^ d)
  have lv := Nat.mod_lt v hp
  have lw := Nat.mod_lt w hp
  have hq : v / 2 ^ d ≤ w / 2 ^ d := Nat.div_le_div_right h
  by_cases e : v / 2 ^ d = w / 2 ^ d
  · rw [← e] at hw ⊢
    have : v % 2 ^ d ≤ w % 2 ^ d := by omega
    generalize v % 2 ^ d = x at *
    generalize w % 2 ^ d = y at *
    generalize v / 2 ^ d = q at *
    generalize 2 ^ d = p at *
    split <;> split <;> omega
  · generalize v / 2 ^ d = q at *
    generalize w / 2 ^ d = q' at *
    split <;> split <;> omega

/-- A rung's digits and their place. -/
def mOf (r : Nat) : Nat := if r < 4503599627370496 then r else 4503599627370496 + r % 4503599627370496
def cOf (r : Nat) : Nat := r / 4503599627370496 - 1
theorem mc_val (r : Nat) : mOf r * 2 ^ cOf r = val r := by
  unfold mOf cOf val
  split
  · rename_i h
    rw [Nat.div_eq_of_lt h]; simp
  · rfl
theorem mOf_lt (r : Nat) : mOf r < 9007199254740992 := by unfold mOf; split <;> omega
theorem mOf_ge {r : Nat} (h : 4503599627370496 ≤ r) : 4503599627370496 ≤ mOf r := by unfold mOf; rw [if_neg (by omega)]; omega
theorem mOf_pos {r : Nat} (h : 0 < r) : 0 < mOf r := by unfold mOf; split <;> omega

/-- P2.2: the size. -/
def magOf (r : Nat) : Nat := rneN (val r * 1000000) 1074
theorem mag_mono {r s : Nat} (h : r ≤ s) : magOf r ≤ magOf s := rne_mono (Nat.mul_le_mul_right _ (val_le h))
theorem rne_up (m d e : Nat) : rneN (m * 2 ^ (d + e) * 1000000) d = m * 1000000 * 2 ^ e := by
  have h := rne_scale (m * 1000000 * 2 ^ e) d 0
  rw [Nat.zero_add] at h
  rw [Nat.mul_right_comm, Nat.pow_add, Nat.mul_comm (2 ^ d) (2 ^ e), ← Nat.mul_assoc, h, rne_zero]
theorem mag_up {r e : Nat} (h : cOf r = 1074 + e) : magOf r = mOf r * 1000000 * 2 ^ e := by
  unfold magOf
  rw [← mc_val, h]
  exact rne_up _ _ _
theorem mag_down {r d : Nat} (h : cOf r + d = 1074) : magOf r = rneN (mOf r * 1000000) d := by
  unfold magOf
  rw [← mc_val, ← h, Nat.mul_right_comm, Nat.add_comm (cOf r) d]
  exact rne_scale _ _ _
theorem rne_nought (d : Nat) : rneN (0 * 1000000) d = 0 := rne_small (by rw [Nat.zero_mul, Nat.mul_zero]; exact Nat.two_pow_pos _)
theorem mag_zero : magOf 0 = 0 := by
  unfold magOf
  rw [val_zero]
  exact rne_nought _
theorem mag_low {r d : Nat} (h : cOf r + d = 1074) (hd : 75 ≤ d) : magOf r = 0 := by
  rw [mag_down h]
  apply rne_small
  have h1 := mOf_lt r
  have h2 : 2 ^ 75 ≤ 2 ^ d := Nat.pow_le_pow_right (by decide) hd
  have h3 : (2 : Nat) ^ 75 = 37778931862957161709568 := by decide
  omega
theorem mag_high {r e : Nat} (h : cOf r = 1074 + e) (he : 11 ≤ e) : 1000000000000000000 < magOf r := by
  rw [mag_up h]
  have hr : 4503599627370496 ≤ r := by
    unfold cOf at h; omega
  have h1 := mOf_ge hr
  have h2 : 2 ^ 11 ≤ 2 ^ e := Nat.pow_le_pow_right (by decide) he
  have h3 : 4503599627370496 * 1000000 * 2 ^ 11 ≤ mOf r * 1000000 * 2 ^ e := Nat.mul_le_mul (by omega) h2
  have h4 : (4503599627370496 * 1000000 * 2 ^ 11 : Nat) = 9223372036854775808000000 := by decide
  omega

/-- What of V is told behind i halvings: the last bit, and whether anything stood below it. -/
structure Half (V i : Nat) (h : Nat) (more : Prop) : Prop where
  lt : h < 2
  eq : ∃ l, V % 2 ^ i * 2 = h * 2 ^ i + 2 * l ∧ (2 * l < 2 ^ i) ∧ (more ↔ l ≠ 0)
theorem half_zero (V : Nat) : Half V 0 0 False := ⟨by decide, 0, by simp [Nat.mod_one], by decide, by simp⟩
theorem half_next {V i h : Nat} {more more' : Prop} (H : Half V i h more) (hm : more' ↔ (more ∨ h = 1)) : Half V (i + 1) (V / 2 ^ i % 2) more' := by
  obtain ⟨hl, l, e, l2, hmore⟩ := H
  refine ⟨Nat.mod_lt _ (by decide), V % 2 ^ i, ?_, ?_, ?_⟩
  · have : V % 2 ^ (i + 1) = V % 2 ^ i + 2 ^ i * (V / 2 ^ i % 2) := by rw [Nat.pow_succ, Nat.mod_mul]
    rw [this, Nat.pow_succ, Nat.add_mul, Nat.mul_comm (2 ^ i), Nat.mul_assoc]; omega
  · have := Nat.mod_lt V (Nat.two_pow_pos i); rw [Nat.pow_succ]; omega
  · rw [hm, hmore]
    have hp := Nat.two_pow_pos i
    constructor
    · intro h0 h1
      rw [h1] at e
      rcases h0 with h0 | h0
      · omega
      · subst h0; omega
    · intro h0
      have hl' : h = 0 ∨ h = 1 := by omega
      rcases hl' with rfl | rfl
      · left; intro hl0; subst hl0; omega
      · right; rfl
theorem half_rne {V i h : Nat} {more : Prop} [Decidable more] (H : Half V i h more) : rneN V i = V / 2 ^ i + (if h = 1 ∧ (more ∨ V / 2 ^ i % 2 = 1) then 1 else 0) := by
  obtain ⟨hl, l, e, l2, hmore⟩ := H
  unfold rneN
  have hp := Nat.two_pow_pos i
  have hl' : h = 0 ∨ h = 1 := by omega
  generalize V % 2 ^ i = x at *
  generalize V / 2 ^ i = q at *
  generalize 2 ^ i = p at *
  rcases hl' with rfl | rfl
  · rw [if_neg (by omega), if_neg (by omega)]
  · by_cases hl0 : l = 0
    · have hm : ¬ more := fun z => (hmore.1 z) hl0
      by_cases c : q % 2 = 1
      · rw [if_pos (by right; exact ⟨by omega, c⟩), if_pos ⟨rfl, .inr c⟩]
      · rw [if_neg (by omega), if_neg (by intro z; rcases z.2 with z | z; exact hm z; exact c z)]
    · rw [if_pos (by left; omega), if_pos ⟨rfl, .inl (hmore.2 hl0)⟩]
end Go.Proofs.Ytfaoilalhneijaa.FV
namespace Go.Proofs.Ytfaoilalhneijaa.FL
open Go Go.RowKit FO FB FK FV Go.Proofs.Ytfaoilalhneijaa.PG
open Go.Proofs.YtfaoilalhneijaaW.PrintWords Go.Proofs.YtfaoilalhneijaaW.PrintMore

theorem shl_nat (x e : Nat) (he : e ≤ 64) : shl .u64 (x : Int) (e : Int) = ((x * 2 ^ e % 18446744073709551616 : Nat) : Int) := by
  unfold shl
  rw [IntKind.wrap_u64, Int.toNat_natCast, Nat.min_eq_left (by exact he), Int.natCast_emod, Int.natCast_mul, Int.natCast_pow]
  rfl
theorem shr_nat (x e : Nat) (he : e ≤ 64) : shr .u64 (x : Int) (e : Int) = ((x / 2 ^ e : Nat) : Int) := by
  unfold shr
  rw [Int.toNat_natCast, Nat.min_eq_left (by exact he)]
  push_cast; rfl
theorem or_nat (i x y : Nat) (h1 : x < 18446744073709551616) (hx : x % 2 ^ i = 0) (hy : y < 2 ^ i) (hy2 : y < 18446744073709551616) : bits .or .u64 (x : Int) (y : Int) = ((x + y : Nat) : Int) := by
  rw [or_u64 i (x : Int) (y : Int) (by omega) (by omega) (by exact_mod_cast hx) (by omega) (by exact_mod_cast hy) (by omega)]
  push_cast; rfl

theorem left_nat (V e : Nat) (he : e ≤ 64) (h : V * 2 ^ e < 340282366920938463463374607431768211456) :
    V * 2 ^ e / 18446744073709551616 = V / 18446744073709551616 * 2 ^ e + V % 18446744073709551616 / 2 ^ (64 - e) ∧
    V * 2 ^ e % 18446744073709551616 = V % 18446744073709551616 * 2 ^ e % 18446744073709551616 ∧
    V / 18446744073709551616 * 2 ^ e < 18446744073709551616 ∧ V % 18446744073709551616 / 2 ^ (64 - e) < 2 ^ e := by
  have hp : 2 ^ (64 - e) * 2 ^ e = 18446744073709551616 := by rw [← Nat.pow_add, Nat.sub_add_cancel he]
  have hpe := Nat.two_pow_pos e
  have hpd := Nat.two_pow_pos (64 - e)
  have hdm := Nat.div_add_mod V 18446744073709551616
  have hml := Nat.mod_lt V (show 0 < 18446744073709551616 by decide)
  generalize V / 18446744073709551616 = q at *
  generalize hr : V % 18446744073709551616 = r at *
  have e1 : V * 2 ^ e = r * 2 ^ e + 18446744073709551616 * (q * 2 ^ e) := by
    rw [← hdm, Nat.add_mul, Nat.mul_assoc, Nat.add_comm]
  have e2 : r * 2 ^ e / 18446744073709551616 = r / 2 ^ (64 - e) := by
    rw [← hp, Nat.mul_div_mul_right _ _ hpe]
  refine ⟨?_, ?_, ?_, ?_⟩
  · rw [e1, Nat.add_mul_div_left _ _ (by decide), e2, Nat.add_comm]
  · rw [e1, Nat.add_mul_mod_self_left]
  · have : 18446744073709551616 * (q * 2 ^ e) < 18446744073709551616 * 18446744073709551616 := by omega
    exact Nat.lt_of_mul_lt_mul_left this
  · rw [Nat.div_lt_iff_lt_mul hpd, Nat.mul_comm, hp]; exact hml
theorem left_eq (V e : Nat) (he : e < 128) (h : V * 2 ^ e < 340282366920938463463374607431768211456) :
    real_wide_left.f ((V / 18446744073709551616 : Nat) : Int) ((V % 18446744073709551616 : Nat) : Int) (e : Int) = some (((V * 2 ^ e / 18446744073709551616 : Nat) : Int), ((V * 2 ^ e % 18446744073709551616 : Nat) : Int)) := by
  unfold real_wide_left.f
  by_cases c : 64 ≤ e
  · have w : wrap64 ((e : Int) - 64) = ((e - 64 : Nat) : Int) := by unfold wrap64; omega
    rw [if_pos (by omega), w, if_pos (by omega), shl_nat _ _ (by omega)]
    have hp : 2 ^ e = 18446744073709551616 * 2 ^ (e - 64) := by
      have : e = 64 + (e - 64) := by omega
      rw [this, Nat.pow_add]; simp
    have hpp := Nat.two_pow_pos (e - 64)
    have e1 : V * 2 ^ e = 18446744073709551616 * (V * 2 ^ (e - 64)) := by rw [hp, Nat.mul_left_comm]
    have hV2 : V * 2 ^ (e - 64) < 18446744073709551616 := by omega
    have hV : V < 18446744073709551616 := Nat.lt_of_le_of_lt (Nat.le_mul_of_pos_right _ hpp) hV2
    rw [e1, Nat.mul_div_cancel_left _ (by decide), Nat.mul_mod_right, Nat.mod_eq_of_lt hV, Nat.mod_eq_of_lt hV2]
    rfl
  · have w : wrap64 (64 - (e : Int)) = ((64 - e : Nat) : Int) := by unfold wrap64; omega
    obtain ⟨h1, h2, h3, h4⟩ := left_nat V e (by omega) h
    have hpe := Nat.two_pow_pos e
    have h5 : 2 ^ e ≤ 2 ^ 63 := Nat.pow_le_pow_right (by decide) (by omega)
    rw [if_neg (by omega), if_pos (by omega), w, if_pos (by omega), shl_nat _ _ (by omega), shr_nat _ _ (by omega), shl_nat _ _ (by omega), h1, h2, Nat.mod_eq_of_lt h3,
      or_nat e _ _ h3 (Nat.mul_mod_left _ _) h4 (by omega)]

theorem rest_step (b h m : Nat) (hb : b < 2) (hh : h < 2) (hm : m < 2) :
    bits .or .i64 (bits .or .i64 (wrap64 ((wrap64 (b : Int)) * 2)) (((2 * h + m : Nat) : Int) / 2)) (bits .and .i64 ((2 * h + m : Nat) : Int) 1) = ((2 * b + (if h = 1 ∨ m = 1 then 1 else 0) : Nat) : Int) := by
  have : b = 0 ∨ b = 1 := by omega
  have : h = 0 ∨ h = 1 := by omega
  have : m = 0 ∨ m = 1 := by omega
  rcases ‹b = 0 ∨ b = 1› with rfl | rfl <;> rcases ‹h = 0 ∨ h = 1› with rfl | rfl <;> rcases ‹m = 0 ∨ m = 1› with rfl | rfl <;> decide +kernel
theorem down_step (U : Nat) (hU : U < 340282366920938463463374607431768211456) :
    bits .or .u64 (((U % 18446744073709551616 : Nat) : Int) / 2) (IntKind.u64.wrap (((U / 18446744073709551616 : Nat) : Int) * 9223372036854775808)) = ((U / 2 % 18446744073709551616 : Nat) : Int) := by
  have e1 : IntKind.u64.wrap (((U / 18446744073709551616 : Nat) : Int) * 9223372036854775808) = ((U / 18446744073709551616 % 2 * 9223372036854775808 : Nat) : Int) := by
    rw [IntKind.wrap_u64]; omega
  have e2 : ((U % 18446744073709551616 : Nat) : Int) / 2 = ((U % 18446744073709551616 / 2 : Nat) : Int) := by omega
  rw [e1, e2, or_comm_u64, or_nat 63 _ _ (by omega) (by omega) (by omega) (by omega)]
  congr 1; omega
theorem bit_step (U : Nat) : bits .and .u64 ((U % 18446744073709551616 : Nat) : Int) 1 = ((U % 2 : Nat) : Int) := by
  rw [show (1 : Int) = 2 ^ 1 - 1 by rfl, and_u64 1 (by decide) _ (by omega) (by omega)]
  omega
theorem right_loop (V n : Nat) (hV : V < 340282366920938463463374607431768211456) (hn : n < 1000) : ∀ (j k i h m : Nat), i + j = n → j < k → h < 2 → m < 2 → Half V i h (m = 1) →
    ∃ h' m', h' < 2 ∧ m' < 2 ∧ Half V n h' (m' = 1) ∧
    real_wide_right.l0 k ((2 * h + m : Nat) : Int) (n : Int) (i : Int) ((V / 2 ^ i / 18446744073709551616 : Nat) : Int) ((V / 2 ^ i % 18446744073709551616 : Nat) : Int) =
      some (((V / 2 ^ n / 18446744073709551616 : Nat) : Int), ((V / 2 ^ n % 18446744073709551616 : Nat) : Int), ((2 * h' + m' : Nat) : Int)) := by
  intro j
  induction j with
  | zero =>
    intro k i h m hi hk hh hm H
    obtain ⟨k, rfl⟩ : ∃ k', k = k' + 1 := ⟨k - 1, by omega⟩
    obtain rfl : i = n := by omega
    refine ⟨h, m, hh, hm, H, ?_⟩
    simp only [real_wide_right.l0]
    rw [if_neg (by omega)]
  | succ j ih =>
    intro k i h m hi hk hh hm H
    obtain ⟨k, rfl⟩ : ∃ k', k = k' + 1 := ⟨k - 1, by omega⟩
    simp only [real_wide_right.l0]
    have hU : V / 2 ^ i < 340282366920938463463374607431768211456 := Nat.lt_of_le_of_lt (Nat.div_le_self _ _) hV
    rw [if_pos (by omega), bit_step, rest_step _ h m (Nat.mod_lt _ (by decide)) hh hm, down_step _ hU]
    have w : wrap64 ((i : Int) + 1) = ((i + 1 : Nat) : Int) := by unfold wrap64; omega
    have e1 : ((V / 2 ^ i / 18446744073709551616 : Nat) : Int) / 2 = ((V / 2 ^ (i + 1) / 18446744073709551616 : Nat) : Int) := by
      rw [Nat.pow_succ, ← Nat.div_div_eq_div_mul]; omega
    have e2 : V / 2 ^ i / 2 = V / 2 ^ (i + 1) := by rw [Nat.pow_succ, ← Nat.div_div_eq_div_mul]
    rw [w, e1, e2]
    refine ih k (i + 1) (V / 2 ^ i % 2) (if h = 1 ∨ m = 1 then 1 else 0) (by omega) (by omega) (Nat.mod_lt _ (by decide)) (by split <;> decide) (half_next H ?_)
    by_cases c1 : h = 1 <;> by_cases c2 : m = 1 <;> simp [c1, c2]
end Go.Proofs.Ytfaoilalhneijaa.FL
namespace Go.Proofs.Ytfaoilalhneijaa.FOf
open Go Go.RowKit FO FB FK FV FL Go.Proofs.Ytfaoilalhneijaa.PG
open Go.Proofs.YtfaoilalhneijaaW.PrintWords Go.Proofs.YtfaoilalhneijaaW.PrintMore
local notation "infR" => (9218868437227405312 : Nat)

/-- The number of a size: P2.2's end. -/
def told (ng : Bool) (n : Nat) : Int × Int := if 1000000000000000000 < n then (0, 3) else (if ng = true then -(n : Int) else (n : Int), 0)
def ofN (b : Nat) : Int × Int := if infR ≤ rung b then (0, 2) else told (neg b) (magOf (rung b))

theorem told_zero (ng : Bool) : told ng 0 = (0, 0) := by cases ng <;> rfl
theorem told_big {ng : Bool} {n : Nat} (h : 1000000000000000000 < n) : told ng n = (0, 3) := if_pos h
theorem kindN_lt2 {r : Nat} : kindN r < 2 ↔ infR ≤ r := by
  unfold kindN; repeat' split
  all_goals omega
theorem apart_eq (b : Nat) (h : b < 18446744073709551616) (hr : rung b < infR) : real_apart.f b = some ((mOf (rung b) : Int), (cOf (rung b) : Int) - 1074) := by
  unfold real_apart.f
  rw [exp_eq b h, part_eq b h, kind_eq b h, Option.bind_some, Option.bind_some]
  have w1 : wrap64 ((rung b / 4503599627370496 : Nat) : Int) = ((rung b / 4503599627370496 : Nat) : Int) := by unfold wrap64; omega
  have w2 : wrap64 (((rung b / 4503599627370496 : Nat) : Int) - 1075) = ((rung b / 4503599627370496 : Nat) : Int) - 1075 := by unfold wrap64; omega
  rw [w1, w2]
  simp only [kindN_four]
  have ho : bits .or .u64 ((rung b % 4503599627370496 : Nat) : Int) 4503599627370496 = ((4503599627370496 + rung b % 4503599627370496 : Nat) : Int) := by
    rw [or_comm_u64]
    exact or_nat 52 4503599627370496 (rung b % 4503599627370496) (by decide) (by decide) (by omega) (by omega)
  rw [ho]
  unfold mOf cOf
  generalize rung b = r at *
  by_cases c : r < 4503599627370496
  · rw [if_pos (by omega), if_neg (by omega), if_pos c]
    congr 2 <;> omega
  · rw [if_neg (by omega), if_pos (by omega), if_neg c]
    congr 2; omega
theorem flt_neg {b : Nat} (hr : rung b < infR) (h0 : 0 < rung b) : (flt b 0 = true) = (neg b = true) := by
  apply propext
  rw [flt_eq, decide_eq_true_eq, sr_lo (r := 0) (by decide), rung_lo (r := 0) (by decide)]
  unfold sr
  by_cases hn : neg b = true
  · rw [if_pos hn]; exact ⟨fun _ => hn, fun _ => by omega⟩
  · rw [if_neg hn]; exact ⟨fun z => by omega, fun z => absurd z hn⟩
/-- The end of Of, from the wide number W and what was shifted out. -/
def up (W h m : Nat) : Nat := if h = 1 ∧ (m = 1 ∨ W % 2 = 1) then 1 else 0
theorem odd_i64 (W : Nat) (hW : W < 9223372036854775808) : bits .and .i64 (W : Int) 1 = ((W % 2 : Nat) : Int) := by
  rw [show (1 : Int) = 2 ^ 1 - 1 by rfl, and_i64 1 (by decide) _ (by omega) (by omega)]
  omega
theorem finish (k b W h m : Nat) (hW : W < 340282366920938463463374607431768211456) (hr : rung b < infR) (h0 : 0 < rung b) (hh : h < 2) (hm : m < 2) :
    real_Of.j1 (k + 4) b ((2 * h + m : Nat) : Int) ((W / 18446744073709551616 : Nat) : Int) ((W % 18446744073709551616 : Nat) : Int) = some (told (neg b) (W + up W h m)) := by
  have big : 1000000000000000000 < W → told (neg b) (W + up W h m) = (0, 3) := fun h => told_big (by omega)
  simp only [real_Of.j1, real_Of.j2, real_Of.j3, real_Of.j4, if_true]
  by_cases c0 : W / 18446744073709551616 = 0
  · rw [if_pos (by omega)]
    by_cases c1 : W ≤ 1000000000000000000
    · have w1 : wrap64 ((W % 18446744073709551616 : Nat) : Int) = (W : Int) := by unfold wrap64; omega
      have w2 : wrap64 ((W : Int) + 1) = ((W + 1 : Nat) : Int) := by unfold wrap64; omega
      have hd : decide (((W % 18446744073709551616 : Nat) : Int) > 1000000000000000000) = false := decide_eq_false (by omega)
      rw [hd, if_neg (by decide), w1, odd_i64 W (by omega), w2]
      have n1 : wrap64 (-(W : Int)) = -(W : Int) := by unfold wrap64; omega
      have n2 : wrap64 (-((W + 1 : Nat) : Int)) = -((W + 1 : Nat) : Int) := by unfold wrap64; omega
      rw [n1, n2]
      simp only [flt_neg hr h0]
      have fin0 : (if (W : Int) > 1000000000000000000 then some ((0 : Int), (3 : Int)) else if neg b = true then some (-(W : Int), 0) else some ((W : Int), 0)) = some (told (neg b) W) := by
        unfold told
        rw [if_neg (show ¬ (W : Int) > 1000000000000000000 by omega), if_neg (show ¬ 1000000000000000000 < W by omega)]; split <;> rfl
      have fin1 : (if ((W + 1 : Nat) : Int) > 1000000000000000000 then some ((0 : Int), (3 : Int)) else if neg b = true then some (-((W + 1 : Nat) : Int), 0) else some (((W + 1 : Nat) : Int), 0)) = some (told (neg b) (W + 1)) := by
        unfold told
        by_cases c2 : 1000000000000000000 < W + 1
        · rw [if_pos (show ((W + 1 : Nat) : Int) > 1000000000000000000 by omega), if_pos c2]
        · rw [if_neg (show ¬ ((W + 1 : Nat) : Int) > 1000000000000000000 by omega), if_neg c2]; split <;> rfl
      rw [fin0, fin1]
      have b1 : ((((W % 2 : Nat) : Int) == 1) = true) = (W % 2 = 1) := by rw [beq_iff_eq]; apply propext; omega
      simp only [b1]
      unfold up
      have ch : h = 0 ∨ h = 1 := by omega
      have cm : m = 0 ∨ m = 1 := by omega
      rcases ch with rfl | rfl <;> rcases cm with rfl | rfl <;> by_cases c3 : W % 2 = 1 <;> simp [c3]
    · have hd : decide (((W % 18446744073709551616 : Nat) : Int) > 1000000000000000000) = true := decide_eq_true (by omega)
      rw [hd, if_pos rfl, big (by omega)]
  · rw [if_neg (by omega), big (by omega)]
theorem mul_eq (m : Nat) (h : m < 9007199254740992) : bits_Mul64.f (m : Int) 1000000 = some (((m * 1000000 / 18446744073709551616 : Nat) : Int), ((m * 1000000 % 18446744073709551616 : Nat) : Int)) := by
  unfold bits_Mul64.f
  rw [if_pos (by omega), if_pos (by omega), if_pos (by omega), if_pos (by omega)]
  congr 2
theorem of_eq (k b : Nat) (h : b < 18446744073709551616) : real_Of.f (k + 200) b = some (ofN b) := by
  unfold real_Of.f ofN
  rw [kind_eq b h, Option.bind_some]
  by_cases c0 : infR ≤ rung b
  · rw [if_pos (kindN_lt2.2 c0), if_pos c0]
  rw [if_neg (fun z => c0 (kindN_lt2.1 z)), if_neg c0, apart_eq b h (by omega), Option.bind_some]
  have hr : rung b < infR := by omega
  have hm := mOf_lt (rung b)
  by_cases c1 : rung b = 0
  · have e : mOf (rung b) = 0 := by rw [c1]; rfl
    rw [if_pos (by show (mOf (rung b) : Int) = 0; omega), c1, mag_zero, told_zero]
    simp only [real_Of.j0, if_true]
  have hp := mOf_pos (show 0 < rung b by omega)
  rw [if_neg (by show ¬ (mOf (rung b) : Int) = 0; omega)]
  show real_Of.j0 (k + 199 + 1) b (mOf (rung b) : Int) ((cOf (rung b) : Int) - 1074) (decide ((cOf (rung b) : Int) - 1074 < -140)) = _
  simp only [real_Of.j0, decide_eq_true_eq]
  by_cases c2 : (cOf (rung b) : Int) - 1074 < -140
  · rw [if_pos c2, mag_low (d := 1074 - cOf (rung b)) (by omega) (by omega), told_zero]
  rw [if_neg c2]
  by_cases c3 : (cOf (rung b) : Int) - 1074 > 30
  · rw [if_pos c3, told_big (mag_high (e := cOf (rung b) - 1074) (by omega) (by omega))]
  rw [if_neg c3, mul_eq _ hm, Option.bind_some]
  by_cases c4 : (cOf (rung b) : Int) - 1074 > 0
  · obtain ⟨e, he⟩ : ∃ e : Nat, cOf (rung b) = 1074 + e := ⟨cOf (rung b) - 1074, by omega⟩
    have h2 : 2 ^ e ≤ 1073741824 := Nat.pow_le_pow_right (n := 2) (by decide) (show e ≤ 30 by omega)
    have h3 : mOf (rung b) * 1000000 * 2 ^ e ≤ 9007199254740992000000 * 1073741824 := Nat.mul_le_mul (by omega) h2
    have ee : (cOf (rung b) : Int) - 1074 = (e : Int) := by omega
    rw [if_pos c4, ee, left_eq _ e (by omega) (by omega), Option.bind_some]
    have := finish (k + 195) b (mOf (rung b) * 1000000 * 2 ^ e) 0 0 (by omega) hr (by omega) (by decide) (by decide)
    rw [mag_up he]
    exact this
  · have h4 : mOf (rung b) * 1000000 < 340282366920938463463374607431768211456 := by omega
    obtain ⟨d, hd⟩ : ∃ d : Nat, cOf (rung b) + d = 1074 := ⟨1074 - cOf (rung b), by omega⟩
    have ee : wrap64 (-((cOf (rung b) : Int) - 1074)) = (d : Int) := by unfold wrap64; omega
    rw [if_neg c4, ee]
    obtain ⟨h', m', hh, hmm, H, e⟩ := right_loop (mOf (rung b) * 1000000) d h4 (by omega) d (k + 199) 0 0 0 (by omega) (by omega) (by decide) (by decide) (by
      have := half_zero (mOf (rung b) * 1000000)
      exact ⟨this.lt, by obtain ⟨l, x, y, z⟩ := this.eq; exact ⟨l, x, y, by rw [← z]; simp⟩⟩)
    unfold real_wide_right.f
    have e' := e
    rw [Nat.pow_zero, Nat.div_one] at e'
    have z : (((2 * 0 + 0 : Nat)) : Int) = 0 := rfl
    rw [z] at e'
    dsimp only
    have e2 : real_wide_right.l0 (k + 199) 0 (d : Int) 0 ((mOf (rung b) * 1000000 / 18446744073709551616 : Nat) : Int) ((mOf (rung b) * 1000000 % 18446744073709551616 : Nat) : Int) = _ := e'
    rw [e2, Option.bind_some]
    have := finish (k + 195) b (mOf (rung b) * 1000000 / 2 ^ d) h' m' (Nat.lt_of_le_of_lt (Nat.div_le_self _ _) h4) hr (by omega) hh hmm
    rw [mag_down hd, half_rne H]
    exact this

/-! ### the reference -/
theorem scale_eq (ng : Bool) (r : Nat) (hr : r < infR) : foolscapref02_Float_Scale.f ng ((r / 4503599627370496 : Nat) : Int) ((r % 4503599627370496 : Nat) : Int) = some ((mOf r : Int), (cOf r : Int) - 1074) := by
  unfold foolscapref02_Float_Scale.f mOf cOf
  by_cases c : r < 4503599627370496
  · rw [if_pos (by omega), if_pos c]
    congr 2 <;> omega
  · have w1 : IntKind.u64.wrap (((r % 4503599627370496 : Nat) : Int) + 4503599627370496) = ((4503599627370496 + r % 4503599627370496 : Nat) : Int) := by rw [IntKind.wrap_u64]; omega
    have w2 : wrap64 (((r / 4503599627370496 : Nat) : Int) - 1075) = ((r / 4503599627370496 - 1 : Nat) : Int) - 1074 := by unfold wrap64; omega
    rw [if_neg (by omega), if_neg c, w1, w2]
theorem tmod_nat (a b : Nat) : Int.tmod (a : Int) (b : Int) = ((a % b : Nat) : Int) := by
  rw [Int.tmod_eq_emod_of_nonneg (by omega)]; rfl
theorem tdiv_nat (a b : Nat) : Int.tdiv (a : Int) (b : Int) = ((a / b : Nat) : Int) := by
  rw [Int.tdiv_eq_ediv_of_nonneg (by omega)]; rfl
theorem wrapn (a : Nat) (h : a < 18446744073709551616) : IntKind.u64.wrap (a : Int) = (a : Int) := wrap_nat a h

/-- Doubling, in two parts of 36 bits. -/
theorem dbl_step (U : Nat) (hU : U < 618970019642690137449562112) :
    (Int.tmod (IntKind.u64.wrap (2 * ((U % 68719476736 : Nat) : Int))) 68719476736) = ((2 * U % 68719476736 : Nat) : Int) ∧
    IntKind.u64.wrap ((IntKind.u64.wrap (2 * ((U / 68719476736 : Nat) : Int))) + (IntKind.u64.wrap (Int.tdiv (IntKind.u64.wrap (2 * ((U % 68719476736 : Nat) : Int))) 68719476736))) = ((2 * U / 68719476736 : Nat) : Int) := by
  have e1 : IntKind.u64.wrap (2 * ((U % 68719476736 : Nat) : Int)) = ((2 * (U % 68719476736) : Nat) : Int) := by rw [IntKind.wrap_u64]; omega
  have e2 : IntKind.u64.wrap (2 * ((U / 68719476736 : Nat) : Int)) = ((2 * (U / 68719476736) : Nat) : Int) := by rw [IntKind.wrap_u64]; omega
  have t1 : Int.tmod ((2 * (U % 68719476736) : Nat) : Int) 68719476736 = _ := tmod_nat _ 68719476736
  have t2 : Int.tdiv ((2 * (U % 68719476736) : Nat) : Int) 68719476736 = _ := tdiv_nat _ 68719476736
  rw [e1, e2, t1, t2, wrapn _ (by omega)]
  constructor
  · omega
  · rw [IntKind.wrap_u64]; omega
theorem half_step (U : Nat) (hU : U < 618970019642690137449562112) :
    IntKind.u64.wrap ((IntKind.u64.wrap (Int.tdiv ((U % 68719476736 : Nat) : Int) 2)) + (IntKind.u64.wrap ((Int.tmod ((U / 68719476736 : Nat) : Int) 2) * 34359738368))) = ((U / 2 % 68719476736 : Nat) : Int) ∧
    IntKind.u64.wrap (Int.tdiv ((U / 68719476736 : Nat) : Int) 2) = ((U / 2 / 68719476736 : Nat) : Int) ∧
    Int.tmod ((U % 68719476736 : Nat) : Int) 2 = ((U % 2 : Nat) : Int) := by
  have t1 : Int.tdiv ((U % 68719476736 : Nat) : Int) 2 = _ := tdiv_nat _ 2
  have t2 : Int.tmod ((U / 68719476736 : Nat) : Int) 2 = _ := tmod_nat _ 2
  have t3 : Int.tdiv ((U / 68719476736 : Nat) : Int) 2 = _ := tdiv_nat _ 2
  have t4 : Int.tmod ((U % 68719476736 : Nat) : Int) 2 = _ := tmod_nat _ 2
  rw [t1, t2, t3, t4]
  refine ⟨?_, ?_, ?_⟩
  · simp only [IntKind.wrap_u64]; omega
  · rw [IntKind.wrap_u64]; omega
  · omega
/-- The end: what the last halving left. -/
theorem finishR (k W h m : Nat) (ng : Bool) (q1 q2 : Int) (hW : W < 618970019642690137449562112) (hh : h < 2) (hm : m < 2) :
    foolscapref02_Of.l1 (k + 3) 0 ((W % 68719476736 : Nat) : Int) ((W / 68719476736 : Nat) : Int) (h : Int) (decide (m = 1)) ng q1 q2 = some (told ng (W + up W h m)) := by
  have big : 1000000000000000000 < W → told ng (W + up W h m) = (0, 3) := fun h => told_big (by omega)
  simp only [foolscapref02_Of.l1, foolscapref02_Of.j3, foolscapref02_Of.j4]
  rw [if_neg (by omega)]
  by_cases c0 : ((W / 68719476736 : Nat) : Int) ≥ 67108864
  · rw [if_pos c0, big (by omega)]
  rw [if_neg c0]
  have w0 : IntKind.u64.wrap ((IntKind.u64.wrap (((W / 68719476736 : Nat) : Int) * 68719476736)) + ((W % 68719476736 : Nat) : Int)) = (W : Int) := by simp only [IntKind.wrap_u64]; omega
  have w1 : IntKind.u64.wrap ((W : Int) + 1) = ((W + 1 : Nat) : Int) := by rw [IntKind.wrap_u64]; omega
  have t1 : Int.tmod (W : Int) 2 = ((W % 2 : Nat) : Int) := tmod_nat _ 2
  rw [w0, w1, t1]
  have fin : ∀ n : Nat, n < 9223372036854775808 → (if (n : Int) > 1000000000000000000 then some ((0 : Int), (3 : Int)) else if ng = true then some (wrap64 (-(wrap64 (n : Int))), 0) else some (wrap64 (n : Int), 0)) = some (told ng n) := by
    intro n hn
    have x1 : wrap64 (n : Int) = n := by unfold wrap64; omega
    have x2 : wrap64 (-(n : Int)) = -(n : Int) := by unfold wrap64; omega
    rw [x1, x2]
    unfold told
    by_cases c2 : 1000000000000000000 < n
    · rw [if_pos (show (n : Int) > 1000000000000000000 by omega), if_pos c2]
    · rw [if_neg (show ¬ (n : Int) > 1000000000000000000 by omega), if_neg c2]; split <;> rfl
  rw [fin W (by omega), fin (W + 1) (by omega)]
  have b1 : ((((W % 2 : Nat) : Int) == 1) = true) = (W % 2 = 1) := by rw [beq_iff_eq]; apply propext; omega
  simp only [b1]
  unfold up
  have ch : h = 0 ∨ h = 1 := by omega
  have cm : m = 0 ∨ m = 1 := by omega
  rcases ch with rfl | rfl <;> rcases cm with rfl | rfl <;> by_cases c3 : W % 2 = 1 <;> simp [c3]
theorem half_loop (V n : Nat) (ng : Bool) (q1 q2 : Int) (hV : V < 618970019642690137449562112) (hn : n < 1000) : ∀ (j k i h m : Nat), i + j = n → h < 2 → m < 2 → Half V i h (m = 1) →
    foolscapref02_Of.l1 (k + j + 3) (-(j : Int)) ((V / 2 ^ i % 68719476736 : Nat) : Int) ((V / 2 ^ i / 68719476736 : Nat) : Int) (h : Int) (decide (m = 1)) ng q1 q2 = some (told ng (rneN V n)) := by
  intro j
  induction j with
  | zero =>
    intro k i h m hi hh hm H
    obtain rfl : i = n := by omega
    rw [half_rne H]
    exact finishR k (V / 2 ^ i) h m ng q1 q2 (Nat.lt_of_le_of_lt (Nat.div_le_self _ _) hV) hh hm
  | succ j ih =>
    intro k i h m hi hh hm H
    have hU : V / 2 ^ i < 618970019642690137449562112 := Nat.lt_of_le_of_lt (Nat.div_le_self _ _) hV
    obtain ⟨s1, s2, s3⟩ := half_step _ hU
    have e : k + (j + 1) + 3 = (k + j + 3) + 1 := by omega
    have w : wrap64 (-((j + 1 : Nat) : Int) + 1) = -(j : Int) := by unfold wrap64; omega
    have e2 : V / 2 ^ i / 2 = V / 2 ^ (i + 1) := by rw [Nat.pow_succ, ← Nat.div_div_eq_div_mul]
    rw [e, foolscapref02_Of.l1, if_pos (by omega), w, s1, s2, s3, e2]
    have key := ih k (i + 1) (V / 2 ^ i % 2) (if h = 1 ∨ m = 1 then 1 else 0) (by omega) (Nat.mod_lt _ (by decide)) (by split <;> decide) (half_next H (by
      by_cases c1 : h = 1 <;> by_cases c2 : m = 1 <;> simp [c1, c2]))
    by_cases c2 : m = 1
    · rw [if_pos (decide_eq_true c2)]
      rw [if_pos (.inr c2)] at key
      exact key
    · rw [if_neg (by rw [decide_eq_false c2]; decide)]
      have cb : ((h : Int) == 1) = decide ((if h = 1 ∨ m = 1 then 1 else 0 : Nat) = 1) := by
        by_cases c1 : h = 1
        · subst c1; rw [if_pos (.inl rfl)]; rfl
        · rw [if_neg (by intro z; rcases z with z | z; exact c1 z; exact c2 z)]
          have : ¬ (h : Int) = 1 := by omega
          simp [this]
      rw [cb]
      exact key
theorem dbl_loop (V : Nat) (ng : Bool) (q1 q2 : Int) : ∀ (j k i : Nat), j < 100 → V * 2 ^ (i + j) < 309485009821345068724781056 →
    foolscapref02_Of.l0 (k + j + 4) (j : Int) ((V * 2 ^ i % 68719476736 : Nat) : Int) ((V * 2 ^ i / 68719476736 : Nat) : Int) ng q1 q2 = some (told ng (V * 2 ^ (i + j))) := by
  intro j
  induction j with
  | zero =>
    intro k i _ h
    rw [Nat.add_zero] at h ⊢
    rw [foolscapref02_Of.l0, if_neg (by omega)]
    have := finishR k (V * 2 ^ i) 0 0 ng q1 q2 (by omega) (by decide) (by decide)
    exact this
  | succ j ih =>
    intro k i hj h
    have hle : V * 2 ^ i ≤ V * 2 ^ (i + (j + 1)) := Nat.mul_le_mul_left _ (Nat.pow_le_pow_right (by decide) (by omega))
    obtain ⟨s1, s2⟩ := dbl_step (V * 2 ^ i) (by omega)
    have e : k + (j + 1) + 4 = (k + j + 4) + 1 := by omega
    have w : wrap64 (((j + 1 : Nat) : Int) - 1) = (j : Int) := by unfold wrap64; omega
    have e2 : 2 * (V * 2 ^ i) = V * 2 ^ (i + 1) := by rw [Nat.pow_succ, Nat.mul_left_comm, Nat.mul_comm 2 (2 ^ i)]
    rw [e, foolscapref02_Of.l0, if_pos (by omega), w, s1, s2, e2]
    have := ih k (i + 1) (by omega) (by rw [show i + 1 + j = i + (j + 1) by omega]; exact h)
    rw [show i + 1 + j = i + (j + 1) by omega] at this
    exact this

theorem split_mul (m : Nat) (hm : m < 9007199254740992) : IntKind.u64.wrap ((IntKind.u64.wrap ((IntKind.u64.wrap ((m / 68719476736 : Nat) : Int)) * 1000000)) + (IntKind.u64.wrap ((m % 68719476736 * 1000000 / 68719476736 : Nat) : Int))) = ((m * 1000000 / 68719476736 : Nat) : Int) := by
  have a1 : ((m / 68719476736 : Nat) : Int) * 1000000 = ((m / 68719476736 * 1000000 : Nat) : Int) := by omega
  have a2 : ((m / 68719476736 * 1000000 : Nat) : Int) + ((m % 68719476736 * 1000000 / 68719476736 : Nat) : Int) = ((m * 1000000 / 68719476736 : Nat) : Int) := by omega
  rw [wrapn _ (by omega), wrapn _ (by omega), a1, wrapn _ (by omega), a2, wrapn _ (by omega)]
theorem refOf_eq (k b : Nat) (h : b < 18446744073709551616) : foolscapref02_Of.f (k + 200) b = some (ofN b) := by
  unfold foolscapref02_Of.f ofN
  rw [show k + 200 = (k + 198) + 2 by omega, kindR_eq _ b h, Option.bind_some]
  by_cases c0 : infR ≤ rung b
  · rw [if_pos (kindN_lt2.2 c0), if_pos c0]
  have hr : rung b < infR := by omega
  rw [if_neg (fun z => c0 (kindN_lt2.1 z)), if_neg c0, parts_eq b h, Option.bind_some]
  dsimp only
  rw [scale_eq _ _ hr, Option.bind_some]
  dsimp only
  have hm := mOf_lt (rung b)
  have tm : ∀ z : Bool, (z = true → 1000000000000000000 < magOf (rung b)) → (z = false → cOf (rung b) ≤ 1084) → foolscapref02_Of.j0 (k + 198 + 2) ((mOf (rung b) : Nat) : Int) ((cOf (rung b) : Int) - 1074) z (neg b) ((rung b / 4503599627370496 : Nat) : Int) ((rung b % 4503599627370496 : Nat) : Int) = some (told (neg b) (magOf (rung b))) := by
    intro z hz hz2
    rw [foolscapref02_Of.j0]
    by_cases cz : z = true
    · rw [if_pos cz, told_big (hz cz)]
    rw [if_neg cz]
    have hc := hz2 (by simpa using cz)
    by_cases c1 : (cOf (rung b) : Int) - 1074 < -130
    · rw [if_pos c1, mag_low (d := 1074 - cOf (rung b)) (by omega) (by omega), told_zero]
    rw [if_neg c1]
    have s1 : Int.tmod ((mOf (rung b) : Nat) : Int) 68719476736 = ((mOf (rung b) % 68719476736 : Nat) : Int) := tmod_nat _ 68719476736
    have s2 : Int.tdiv ((mOf (rung b) : Nat) : Int) 68719476736 = ((mOf (rung b) / 68719476736 : Nat) : Int) := tdiv_nat _ 68719476736
    have s3 : IntKind.u64.wrap (((mOf (rung b) % 68719476736 : Nat) : Int) * 1000000) = ((mOf (rung b) % 68719476736 * 1000000 : Nat) : Int) := by rw [IntKind.wrap_u64]; omega
    have s4 : Int.tmod ((mOf (rung b) % 68719476736 * 1000000 : Nat) : Int) 68719476736 = ((mOf (rung b) % 68719476736 * 1000000 % 68719476736 : Nat) : Int) := tmod_nat _ 68719476736
    have s5 : Int.tdiv ((mOf (rung b) % 68719476736 * 1000000 : Nat) : Int) 68719476736 = ((mOf (rung b) % 68719476736 * 1000000 / 68719476736 : Nat) : Int) := tdiv_nat _ 68719476736
    have s6 : IntKind.u64.wrap ((IntKind.u64.wrap ((IntKind.u64.wrap ((mOf (rung b) / 68719476736 : Nat) : Int)) * 1000000)) + (IntKind.u64.wrap ((mOf (rung b) % 68719476736 * 1000000 / 68719476736 : Nat) : Int))) = ((mOf (rung b) * 1000000 / 68719476736 : Nat) : Int) := by
      exact split_mul _ hm
    have s7 : mOf (rung b) % 68719476736 * 1000000 % 68719476736 = mOf (rung b) * 1000000 % 68719476736 := by omega
    rw [s1, s2, s3, s4, s5, s6, s7]
    by_cases c2 : cOf (rung b) > 1074
    · obtain ⟨e, he⟩ : ∃ e : Nat, cOf (rung b) = 1074 + e := ⟨cOf (rung b) - 1074, by omega⟩
      have h2 : 2 ^ e ≤ 1024 := Nat.pow_le_pow_right (n := 2) (by decide) (show e ≤ 10 by omega)
      have h3 : mOf (rung b) * 1000000 * 2 ^ e ≤ 9007199254740992000000 * 1024 := Nat.mul_le_mul (by omega) h2
      have ee : (cOf (rung b) : Int) - 1074 = (e : Int) := by omega
      have := dbl_loop (mOf (rung b) * 1000000) (neg b) ((rung b / 4503599627370496 : Nat) : Int) ((rung b % 4503599627370496 : Nat) : Int) e (k + 195 - e) 0 (by omega) (by rw [Nat.zero_add]; omega)
      rw [Nat.zero_add, Nat.pow_zero, Nat.mul_one, show k + 195 - e + e + 4 = k + 198 + 1 by omega] at this
      rw [ee, mag_up he]
      exact this
    · obtain ⟨d, hd⟩ : ∃ d : Nat, cOf (rung b) + d = 1074 := ⟨1074 - cOf (rung b), by omega⟩
      have ee : (cOf (rung b) : Int) - 1074 = -(d : Int) := by omega
      have := half_loop (mOf (rung b) * 1000000) d (neg b) ((rung b / 4503599627370496 : Nat) : Int) ((rung b % 4503599627370496 : Nat) : Int) (by omega) (by omega) d (k + 195 - d) 0 0 0 (by omega) (by decide) (by decide) (by
        have := half_zero (mOf (rung b) * 1000000)
        exact ⟨this.lt, by obtain ⟨l, x, y, z⟩ := this.eq; exact ⟨l, x, y, by rw [← z]; simp⟩⟩)
      rw [Nat.pow_zero, Nat.div_one, show k + 195 - d + d + 3 = k + 198 by omega] at this
      rw [ee, mag_down hd, foolscapref02_Of.l0, if_neg (by omega)]
      exact this
  by_cases c1 : (mOf (rung b) : Int) > 0
  · rw [if_pos c1]
    refine tm _ ?_ ?_
    · intro z
      rw [decide_eq_true_eq] at z
      exact mag_high (e := cOf (rung b) - 1074) (by omega) (by omega)
    · intro z
      rw [decide_eq_false_iff_not] at z
      omega
  · rw [if_neg c1]
    refine tm _ ?_ ?_
    · intro z; exact absurd z (by decide)
    · intro _
      have r0 : rung b = 0 := by
        by_cases r0 : rung b = 0
        · exact r0
        · have := mOf_pos (show 0 < rung b by omega); omega
      rw [r0]; decide
end Go.Proofs.Ytfaoilalhneijaa.FOf
namespace Go.Proofs.Ytfaoilalhneijaa.Knuth

/-- What the correcting loop keeps: q yn1 + r = u, and the true quotient is at most q. -/
structure Inv (B u d yn1 yn0 q r : Nat) : Prop where
  sum : q * yn1 + r = u
  up : u * B + d < (q + 1) * (yn1 * B + yn0)

theorem times_y (B q yn1 yn0 : Nat) : q * (yn1 * B + yn0) = (q * yn1) * B + q * yn0 := by
  rw [Nat.mul_add, Nat.mul_assoc]

theorem test_iff {B u d yn1 yn0 q r : Nat} (h : q * yn1 + r = u) : q * yn0 > B * r + d ↔ u * B + d < q * (yn1 * B + yn0) := by
  rw [times_y, ← h, Nat.add_mul]
  have : r * B = B * r := Nat.mul_comm _ _
  omega

theorem quot {B u d yn1 yn0 q r : Nat} (h : Inv B u d yn1 yn0 q r) (h1 : q * (yn1 * B + yn0) ≤ u * B + d) : (u * B + d) / (yn1 * B + yn0) = q :=
  Nat.div_eq_of_lt_le h1 h.up

theorem quot_of_le {B u d yn1 yn0 q r : Nat} (h : Inv B u d yn1 yn0 q r) (h1 : q ≤ (u * B + d) / (yn1 * B + yn0)) : (u * B + d) / (yn1 * B + yn0) = q :=
  quot h (Nat.le_trans (Nat.mul_le_mul_right _ h1) (Nat.div_mul_le_self _ _))

/-- Behind the loop by its test. -/
theorem done_test {B u d yn1 yn0 q r : Nat} (h : Inv B u d yn1 yn0 q r) (ht : ¬ q * yn0 > B * r + d) : (u * B + d) / (yn1 * B + yn0) = q :=
  quot h (by have := (not_congr (test_iff (d := d) (yn0 := yn0) (B := B) h.sum)).mp ht; omega)

/-- Behind the loop by its break. -/
theorem done_break {B u d yn1 yn0 q r : Nat} (h : Inv B u d yn1 yn0 q r) (hr : B ≤ r) (hq : q ≤ B) (h0 : yn0 ≤ B) : (u * B + d) / (yn1 * B + yn0) = q :=
  quot h (by
    rw [times_y, ← h.sum, Nat.add_mul]
    have h1 : q * yn0 ≤ B * B := Nat.mul_le_mul hq h0
    have h2 : B * B ≤ r * B := Nat.mul_le_mul hr (Nat.le_refl _)
    omega)

theorem next {B u d yn1 yn0 q r : Nat} (h : Inv B u d yn1 yn0 (q + 1) r) (ht : u * B + d < (q + 1) * (yn1 * B + yn0)) : Inv B u d yn1 yn0 q (r + yn1) :=
  ⟨by have := h.sum; rw [Nat.succ_mul] at this; omega, ht⟩

theorem big {B u d yn1 yn0 q : Nat} (hq : B ≤ q) (hu : u < yn1 * B + yn0) (hd : d < B) : u * B + d < q * (yn1 * B + yn0) := by
  have h1 : (u + 1) * B ≤ (yn1 * B + yn0) * q := Nat.mul_le_mul hu hq
  rw [Nat.add_mul] at h1
  rw [Nat.mul_comm q]
  omega

theorem start {B u d yn1 yn0 : Nat} (h1 : 0 < yn1) (hd : d < B) : Inv B u d yn1 yn0 (u / yn1) (u - u / yn1 * yn1) := by
  have hle : u / yn1 * yn1 ≤ u := Nat.div_mul_le_self _ _
  refine ⟨by omega, ?_⟩
  have hlt : u < (u / yn1 + 1) * yn1 := by
    have := Nat.lt_div_mul_add (a := u) h1
    rw [Nat.add_mul]; omega
  have h2 : (u + 1) * B ≤ ((u / yn1 + 1) * yn1) * B := Nat.mul_le_mul hlt (Nat.le_refl _)
  rw [times_y]
  rw [Nat.add_mul] at h2
  have : 0 ≤ (u / yn1 + 1) * yn0 := Nat.zero_le _
  omega

theorem start_le {B u yn1 yn0 : Nat} (h1 : 0 < yn1) (hu : u < yn1 * B + yn0) (h0 : yn0 < 2 * yn1) : u / yn1 ≤ B + 1 := by
  have : u < (B + 2) * yn1 := by
    rw [Nat.add_mul, Nat.mul_comm B]; omega
  have := (Nat.div_lt_iff_lt_mul h1).mpr this
  omega
theorem long (A d B Y : Nat) (hY : 0 < Y) : (A * B + d) / Y = A / Y * B + (A % Y * B + d) / Y ∧ (A * B + d) % Y = (A % Y * B + d) % Y := by
  have hdm := Nat.div_add_mod A Y
  generalize A / Y = q at *
  generalize A % Y = r at *
  have : A * B + d = (r * B + d) + Y * (q * B) := by
    rw [← hdm, Nat.add_mul, Nat.mul_assoc]; omega
  rw [this, Nat.add_mul_div_left _ _ hY, Nat.add_mul_mod_self_left]
  exact ⟨by omega, rfl⟩
end Go.Proofs.Ytfaoilalhneijaa.Knuth
namespace Go.Proofs.Ytfaoilalhneijaa.DW
open Go.RowKit Go.Proofs.Ytfaoilalhneijaa Go.Proofs.Ytfaoilalhneijaa.PG Go.Proofs.YtfaoilalhneijaaW.PrintWords Go.Proofs.YtfaoilalhneijaaW.PrintLast Go.Proofs.YtfaoilalhneijaaW.PrintMore
theorem wrapn (n : Nat) (h : n < 18446744073709551616) : IntKind.u64.wrap (n : Int) = n := by rw [IntKind.wrap_u64]; omega
theorem wrapz (z : Int) (n : Nat) (e : z = n) (h : n < 18446744073709551616) : IntKind.u64.wrap z = n := by rw [e]; exact wrapn n h

theorem l0_eq (Y s yn1 yn0 u d un0 : Nat) (R : Int × Int) (n : Nat)
    (hY : Y = yn1 * 4294967296 + yn0) (h1 : yn1 < 4294967296) (h0 : yn0 < 4294967296) (hd : d < 4294967296) (hu : u < Y)
    (hk : ∀ k, n ≤ k → bits_Div64.j2 k Y s yn1 yn0 u d un0 (((u * 4294967296 + d) / Y : Nat) : Int) = some R) :
    ∀ m q r k, Knuth.Inv 4294967296 u d yn1 yn0 q r → q ≤ 4294967296 + 1 → r < 4294967296 → 4294967296 ≤ r + m * yn1 → n + 2 * m + 2 ≤ k →
      bits_Div64.l0 k Y s yn1 yn0 u d un0 q r = some R := by
  intro m
  induction m with
  | zero =>
    intro q r k hi hq hr hm hkk
    omega
  | succ m ih =>
    intro q r k hi hq hr hm hkk
    obtain ⟨k, rfl⟩ : ∃ j, k = j + 2 := ⟨k - 2, by omega⟩
    -- the body, once the test is decided
    have body : u * 4294967296 + d < q * Y → bits_Div64.j1 (k + 1) Y s yn1 yn0 u d un0 q r true = some R := by
      intro ht
      obtain ⟨q, rfl⟩ : ∃ j, q = j + 1 := by
        refine ⟨q - 1, ?_⟩
        rcases Nat.eq_zero_or_pos q with h | h
        · subst h; simp at ht
        · omega
      have hi' := Knuth.next hi (by rw [← hY]; exact ht)
      have hlt : (u * 4294967296 + d) / Y < q + 1 := (Nat.div_lt_iff_lt_mul (by omega)).mpr ht
      simp only [bits_Div64.j1]
      rw [if_pos trivial, wrapz _ (r + yn1) (by omega) (by omega), wrapz (((q + 1 : Nat) : Int) - 1) q (by omega) (by omega)]
      by_cases hb : 4294967296 ≤ r + yn1
      · rw [if_pos (by omega)]
        have hQ := Knuth.done_break hi' hb (by omega) (by omega)
        rw [← hY] at hQ
        rw [← hQ]
        exact hk _ (by omega)
      · rw [if_neg (by omega)]
        exact ih q (r + yn1) k hi' (by omega) (by omega) (by rw [Nat.succ_mul] at hm; omega) (by omega)
    simp only [bits_Div64.l0]
    by_cases hb : 4294967296 ≤ q
    · rw [if_pos (by omega)]
      have := Knuth.big (yn1 := yn1) (yn0 := yn0) hb (by rw [← hY]; exact hu) hd
      exact body (by rw [hY]; exact this)
    · rw [if_neg (by omega)]
      have a1 : q * yn0 < 18446744073709551616 := by
        have : q * yn0 ≤ (4294967296 - 1) * (4294967296 - 1) := Nat.mul_le_mul (by omega) (by omega)
        omega
      rw [wrapz _ (q * yn0) (Int.natCast_mul q yn0).symm a1, wrapz (4294967296 * (r : Int)) (4294967296 * r) (by omega) (by omega), wrapz _ (4294967296 * r + d) (by omega) (by omega)]
      by_cases ht : q * yn0 > 4294967296 * r + d
      · rw [decide_eq_true (by omega)]
        rw [Knuth.test_iff hi.sum, ← hY] at ht
        exact body ht
      · rw [decide_eq_false (by omega)]
        simp only [bits_Div64.j1]
        have hQ := Knuth.done_test hi ht
        rw [← hY] at hQ
        rw [if_neg (by decide), ← hQ]
        exact hk _ (by omega)

theorem rem_eq (Y u d : Nat) (hY0 : 0 < Y) (hY : Y < 18446744073709551616) :
    IntKind.u64.wrap (IntKind.u64.wrap (IntKind.u64.wrap ((u : Int) * 4294967296) + (d : Int)) - IntKind.u64.wrap ((((u * 4294967296 + d) / Y : Nat) : Int) * (Y : Int))) = (((u * 4294967296 + d) % Y : Nat) : Int) := by
  have hdm := Nat.div_add_mod (u * 4294967296 + d) Y
  have hlt : (u * 4294967296 + d) % Y < Y := Nat.mod_lt _ hY0
  generalize (u * 4294967296 + d) / Y = Q at *
  generalize (u * 4294967296 + d) % Y = R at *
  have e1 : (Q : Int) * (Y : Int) = ((Y * Q : Nat) : Int) := by rw [Int.natCast_mul, Int.mul_comm]
  rw [e1]
  simp only [IntKind.wrap_u64]
  omega

theorem fin_eq (Y s u d q1 : Nat) (_hd : d < 4294967296) (hu : u < Y) (hY : Y < 18446744073709551616) (hq : q1 < 4294967296) (hQ : (u * 4294967296 + d) / Y < 4294967296) (z : Int) (hz : z = (((u * 4294967296 + d) / Y : Nat) : Int)) :
    (IntKind.u64.wrap (IntKind.u64.wrap ((q1 : Int) * 4294967296) + z), shr .u64 (IntKind.u64.wrap (IntKind.u64.wrap (IntKind.u64.wrap ((u : Int) * 4294967296) + (d : Int)) - IntKind.u64.wrap (z * (Y : Int)))) (s : Int))
      = (((q1 * 4294967296 + (u * 4294967296 + d) / Y : Nat) : Int), (((u * 4294967296 + d) % Y / 2 ^ min s 64 : Nat) : Int)) := by
  have hdm := Nat.div_add_mod (u * 4294967296 + d) Y
  have hlt : (u * 4294967296 + d) % Y < Y := Nat.mod_lt _ (by omega)
  generalize hQQ : (u * 4294967296 + d) / Y = Q at *
  generalize hRR : (u * 4294967296 + d) % Y = R at *
  subst hz
  have e1 : (Q : Int) * (Y : Int) = ((Y * Q : Nat) : Int) := by rw [Int.natCast_mul, Int.mul_comm]
  refine Prod.ext ?_ ?_
  · simp only [IntKind.wrap_u64]
    omega
  · simp only
    rw [e1]
    have e2 : IntKind.u64.wrap (IntKind.u64.wrap (IntKind.u64.wrap ((u : Int) * 4294967296) + (d : Int)) - IntKind.u64.wrap ((Y * Q : Nat) : Int)) = (R : Int) := by
      simp only [IntKind.wrap_u64]
      omega
    rw [e2]
    unfold shr
    rw [show ((s : Int).toNat) = s from rfl, show IntKind.u64.bits = 64 from rfl, Int.natCast_ediv, Int.natCast_pow]
    rfl

theorem l1_eq (Y s yn1 yn0 u d q1 : Nat)
    (hY : Y = yn1 * 4294967296 + yn0) (h1 : yn1 < 4294967296) (h0 : yn0 < 4294967296) (hd : d < 4294967296) (hu : u < Y) (hq1 : q1 < 4294967296) :
    ∀ m q r k, Knuth.Inv 4294967296 u d yn1 yn0 q r → q ≤ 4294967296 + 1 → r < 4294967296 → 4294967296 ≤ r + m * yn1 → 2 * m + 2 ≤ k →
      bits_Div64.l1 k Y s yn1 yn0 d q1 r u q = some (((q1 * 4294967296 + (u * 4294967296 + d) / Y : Nat) : Int), (((u * 4294967296 + d) % Y / 2 ^ min s 64 : Nat) : Int)) := by
  have hY2 : Y < 18446744073709551616 := by omega
  have hQB : (u * 4294967296 + d) / Y < 4294967296 := (Nat.div_lt_iff_lt_mul (by omega)).mpr (by
    have := Knuth.big (yn1 := yn1) (yn0 := yn0) (Nat.le_refl 4294967296) (by rw [← hY]; exact hu) hd
    rw [← hY] at this; exact this)
  have fin : ∀ z : Int, z = (((u * 4294967296 + d) / Y : Nat) : Int) → _ := fun z hz => fin_eq Y s u d q1 hd hu hY2 hq1 hQB z hz
  intro m
  induction m with
  | zero =>
    intro q r k hi hq hr hm hkk
    omega
  | succ m ih =>
    intro q r k hi hq hr hm hkk
    obtain ⟨k, rfl⟩ : ∃ j, k = j + 2 := ⟨k - 2, by omega⟩
    have body : u * 4294967296 + d < q * Y → bits_Div64.j4 (k + 1) Y s yn1 yn0 d q1 r u q true = some (((q1 * 4294967296 + (u * 4294967296 + d) / Y : Nat) : Int), (((u * 4294967296 + d) % Y / 2 ^ min s 64 : Nat) : Int)) := by
      intro ht
      obtain ⟨q, rfl⟩ : ∃ j, q = j + 1 := by
        refine ⟨q - 1, ?_⟩
        rcases Nat.eq_zero_or_pos q with h | h
        · rw [h] at ht; simp at ht
        · omega
      have hi' := Knuth.next hi (by rw [← hY]; exact ht)
      have hlt : (u * 4294967296 + d) / Y < q + 1 := (Nat.div_lt_iff_lt_mul (by omega)).mpr ht
      simp only [bits_Div64.j4]
      rw [if_pos trivial, wrapz _ (r + yn1) (by omega) (by omega), wrapz (((q + 1 : Nat) : Int) - 1) q (by omega) (by omega)]
      by_cases hb : 4294967296 ≤ r + yn1
      · rw [if_pos (by omega), if_pos (by omega)]
        have hQ := Knuth.done_break hi' hb (by omega) (by omega)
        rw [← hY] at hQ
        rw [fin q (by rw [hQ])]
      · rw [if_neg (by omega)]
        exact ih q (r + yn1) k hi' (by omega) (by omega) (by rw [Nat.succ_mul] at hm; omega) (by omega)
    simp only [bits_Div64.l1]
    by_cases hb : 4294967296 ≤ q
    · rw [if_pos (by omega)]
      have := Knuth.big (yn1 := yn1) (yn0 := yn0) hb (by rw [← hY]; exact hu) hd
      exact body (by rw [hY]; exact this)
    · rw [if_neg (by omega)]
      have a1 : q * yn0 < 18446744073709551616 := by
        have : q * yn0 ≤ (4294967296 - 1) * (4294967296 - 1) := Nat.mul_le_mul (by omega) (by omega)
        omega
      rw [wrapz _ (q * yn0) (Int.natCast_mul q yn0).symm a1, wrapz (4294967296 * (r : Int)) (4294967296 * r) (by omega) (by omega), wrapz _ (4294967296 * r + d) (by omega) (by omega)]
      by_cases ht : q * yn0 > 4294967296 * r + d
      · rw [decide_eq_true (by omega)]
        rw [Knuth.test_iff hi.sum, ← hY] at ht
        exact body ht
      · rw [decide_eq_false (by omega)]
        simp only [bits_Div64.j4]
        have hQ := Knuth.done_test hi ht
        rw [← hY] at hQ
        rw [if_neg (by decide), if_pos (by omega), fin q (by rw [hQ])]

theorem start_q (u yn1 yn0 : Nat) (hy : yn1 * 4294967296 + yn0 < 18446744073709551616) (h1 : 2147483648 ≤ yn1) (h0 : yn0 < 4294967296) (hu : u < yn1 * 4294967296 + yn0) :
    u / yn1 ≤ 4294967296 + 1 ∧ u - u / yn1 * yn1 < 4294967296 ∧ u / yn1 * yn1 ≤ u := by
  refine ⟨Knuth.start_le (by omega) hu (by omega), ?_, Nat.div_mul_le_self _ _⟩
  have := Nat.mod_lt u (show yn1 > 0 by omega)
  have := Nat.div_add_mod u yn1
  rw [Nat.mul_comm] at this
  omega

theorem phase2 (Y s yn1 yn0 un0 R Q k : Nat) (hY : Y < 18446744073709551616) (hYe : Y = yn1 * 4294967296 + yn0) (hn1 : yn1 < 4294967296) (hn1' : 2147483648 ≤ yn1) (hn0 : yn0 < 4294967296) (h0 : un0 < 4294967296) (hr : R < Y) (hq : Q < 4294967296) (hk : 10 ≤ k) :
    bits_Div64.l1 k Y s yn1 yn0 un0 Q (IntKind.u64.wrap ((R : Int) - IntKind.u64.wrap (IntKind.u64.wrap (Int.tdiv (R : Int) (yn1 : Int)) * (yn1 : Int)))) R (IntKind.u64.wrap (Int.tdiv (R : Int) (yn1 : Int)))
      = some (((Q * 4294967296 + (R * 4294967296 + un0) / Y : Nat) : Int), (((R * 4294967296 + un0) % Y / 2 ^ min s 64 : Nat) : Int)) := by
  have hs2 := start_q R yn1 yn0 (by omega) hn1' hn0 (by omega)
  have w2 : IntKind.u64.wrap (Int.tdiv (R : Int) (yn1 : Int)) = ((R / yn1 : Nat) : Int) := by
    rw [← Int.ofNat_tdiv]
    exact wrapn _ (by have := hs2.1; omega)
  rw [w2]
  have w3 : IntKind.u64.wrap (((R / yn1 : Nat) : Int) * (yn1 : Int)) = ((R / yn1 * yn1 : Nat) : Int) := wrapz _ _ (by rw [Int.natCast_mul]) (by have := hs2.2.2; omega)
  rw [w3]
  have w4 : IntKind.u64.wrap ((R : Int) - ((R / yn1 * yn1 : Nat) : Int)) = ((R - R / yn1 * yn1 : Nat) : Int) := wrapz _ _ (by have := hs2.2.2; omega) (by omega)
  rw [w4]
  have hup2 := (Knuth.start (u := R) (d := un0) (yn1 := yn1) (yn0 := yn0) (B := 4294967296) (by omega) h0)
  exact l1_eq Y s yn1 yn0 R un0 Q hYe hn1 hn0 h0 hr hq 2 _ _ k hup2 hs2.1 hs2.2.1 (by omega) (by omega)

/-- Behind normalizing: both digits. -/
theorem norm_eq (Y s u un1 un0 : Nat) (hY : Y < 18446744073709551616) (hY2 : 9223372036854775808 ≤ Y) (h1 : un1 < 4294967296) (h0 : un0 < 4294967296) (hu : u < Y) (k : Nat) (hk : 20 ≤ k) :
    bits_Div64.l0 k Y s ((Y / 4294967296 : Nat) : Int) ((Y % 4294967296 : Nat) : Int) u un1 un0 ((u / (Y / 4294967296) : Nat) : Int) ((u - u / (Y / 4294967296) * (Y / 4294967296) : Nat) : Int)
      = some (((((u * 4294967296 + un1) * 4294967296 + un0) / Y : Nat) : Int), ((((u * 4294967296 + un1) * 4294967296 + un0) % Y / 2 ^ min s 64 : Nat) : Int)) := by
  have hYe : Y = Y / 4294967296 * 4294967296 + Y % 4294967296 := by omega
  generalize hy1 : Y / 4294967296 = yn1 at *
  generalize hy0 : Y % 4294967296 = yn0 at *
  have hn1 : yn1 < 4294967296 := by omega
  have hn1' : 2147483648 ≤ yn1 := by omega
  have hn0 : yn0 < 4294967296 := by omega
  have e1 : ((u * 4294967296 + un1) * 4294967296 + un0) / Y = (u * 4294967296 + un1) / Y * 4294967296 + ((u * 4294967296 + un1) % Y * 4294967296 + un0) / Y ∧
      ((u * 4294967296 + un1) * 4294967296 + un0) % Y = ((u * 4294967296 + un1) % Y * 4294967296 + un0) % Y := by
    exact Knuth.long (u * 4294967296 + un1) un0 4294967296 Y (by omega)
  have hs := start_q u yn1 yn0 (by omega) hn1' hn0 (by omega)
  have hr : (u * 4294967296 + un1) % Y < Y := Nat.mod_lt _ (by omega)
  have hq : (u * 4294967296 + un1) / Y < 4294967296 := (Nat.div_lt_iff_lt_mul (by omega)).mpr (by
    have := Knuth.big (yn1 := yn1) (yn0 := yn0) (Nat.le_refl 4294967296) (by rw [← hYe]; exact hu) h1
    rw [← hYe] at this; exact this)
  have hup := (Knuth.start (u := u) (d := un1) (yn1 := yn1) (yn0 := yn0) (B := 4294967296) (by omega) h1)
  refine l0_eq Y s yn1 yn0 u un1 un0 _ 12 hYe hn1 hn0 h1 hu ?_ 2 _ _ k hup hs.1 hs.2.1 ?_ (by omega)
  · intro k hk
    obtain ⟨k, rfl⟩ : ∃ j, k = j + 1 := ⟨k - 1, by omega⟩
    simp only [bits_Div64.j2]
    rw [if_neg (by omega)]
    rw [rem_eq Y u un1 (by omega) hY]
    rw [e1.1, e1.2]
    exact phase2 Y s yn1 yn0 un0 _ _ k hY hYe hn1 hn1' hn0 h0 hr hq (by omega)
  · omega
theorem bitLenAux_spec : ∀ f x, x < 2 ^ f → x < 2 ^ Lib.bitLenAux f x ∧ (0 < x → 0 < Lib.bitLenAux f x ∧ 2 ^ (Lib.bitLenAux f x - 1) ≤ x) ∧ Lib.bitLenAux f x ≤ f := by
  intro f
  induction f with
  | zero => intro x h; simp [Lib.bitLenAux] at *; omega
  | succ f ih =>
    intro x h
    rw [Nat.pow_succ] at h
    simp only [Lib.bitLenAux]
    by_cases hx : x = 0
    · rw [if_pos hx]; simp [hx]
    · rw [if_neg hx]
      obtain ⟨a, b, c⟩ := ih (x / 2) (by omega)
      rw [Nat.add_comm 1, Nat.pow_succ]
      refine ⟨by omega, fun _ => ⟨by omega, ?_⟩, by omega⟩
      rw [Nat.add_sub_cancel]
      by_cases h2 : x / 2 = 0
      · rw [h2]
        have : Lib.bitLenAux f 0 = 0 := by cases f <;> simp [Lib.bitLenAux]
        rw [this]; simp; omega
      · obtain ⟨p, q⟩ := b (by omega)
        obtain ⟨n, hn⟩ : ∃ n, Lib.bitLenAux f (x / 2) = n + 1 := ⟨Lib.bitLenAux f (x / 2) - 1, by omega⟩
        rw [hn] at q ⊢
        rw [Nat.add_sub_cancel] at q
        rw [Nat.pow_succ]; omega
theorem bitLen_spec (x : Nat) (h : x < 18446744073709551616) : x < 2 ^ Lib.bitLen x ∧ (0 < x → 0 < Lib.bitLen x ∧ 2 ^ (Lib.bitLen x - 1) ≤ x) ∧ Lib.bitLen x ≤ 64 := bitLenAux_spec 64 x h

theorem andmask (x : Nat) (h : x < 18446744073709551616) : Go.bits .and .u64 (x : Int) 4294967295 = ((x % 4294967296 : Nat) : Int) := by
  have := bits_mask .u64 64 (by decide) (fun n h0 h1 => by rw [IntKind.wrap_u64]; omega) 32 (by decide) (x : Int) (by omega) (by omega)
  rw [show ((2 : Int) ^ 32 - 1) = 4294967295 by decide, show ((2 : Int) ^ 32) = 4294967296 by decide] at this
  rw [this]; omega

theorem last_eq (Y s U W k : Nat) (hY : Y < 18446744073709551616) (hY2 : 9223372036854775808 ≤ Y) (hU : U < Y) (hW : W < 18446744073709551616) (hk : 20 ≤ k) :
    (if ((Y : Int) / 4294967296) = 0 then none else bits_Div64.l0 k Y s ((Y : Int) / 4294967296) ((Y % 4294967296 : Nat) : Int) U ((W : Int) / 4294967296) ((W % 4294967296 : Nat) : Int) (IntKind.u64.wrap (Int.tdiv (U : Int) ((Y : Int) / 4294967296)))
        (IntKind.u64.wrap ((U : Int) - IntKind.u64.wrap (IntKind.u64.wrap (Int.tdiv (U : Int) ((Y : Int) / 4294967296)) * ((Y : Int) / 4294967296)))))
      = some ((((U * 18446744073709551616 + W) / Y : Nat) : Int), (((U * 18446744073709551616 + W) % Y / 2 ^ min s 64 : Nat) : Int)) := by
  rw [if_neg (by omega)]
  have eY : (Y : Int) / 4294967296 = ((Y / 4294967296 : Nat) : Int) := by omega
  have eW : (W : Int) / 4294967296 = ((W / 4294967296 : Nat) : Int) := by omega
  have hs := start_q U (Y / 4294967296) (Y % 4294967296) (by omega) (by omega) (by omega) (by omega)
  rw [eY, eW, ← Int.ofNat_tdiv, wrapn _ (by have := hs.1; omega),
    wrapz (((U / (Y / 4294967296) : Nat) : Int) * ((Y / 4294967296 : Nat) : Int)) (U / (Y / 4294967296) * (Y / 4294967296)) (by rw [Int.natCast_mul]) (by have := hs.2.2; omega),
    wrapz _ (U - U / (Y / 4294967296) * (Y / 4294967296)) (by have := hs.2.2; omega) (by omega)]
  have e : U * 18446744073709551616 + W = (U * 4294967296 + W / 4294967296) * 4294967296 + W % 4294967296 := by omega
  rw [e]
  exact norm_eq Y s U (W / 4294967296) (W % 4294967296) hY hY2 (by omega) (by omega) hU k hk

theorem div64_eq (hi lo y k : Nat) (h1 : hi < y) (hy : y < 18446744073709551616) (hlo : lo < 18446744073709551616) (hk : 20 ≤ k) :
    bits_Div64.f k hi lo y = some ((((hi * 18446744073709551616 + lo) / y : Nat) : Int), (((hi * 18446744073709551616 + lo) % y : Nat) : Int)) := by
  unfold bits_Div64.f
  rw [if_neg (by omega), if_neg (by omega)]
  by_cases h0 : hi = 0
  · rw [if_pos (by omega), h0, Nat.zero_mul, Nat.zero_add, ← Int.ofNat_tdiv, wrapn _ (Nat.lt_of_le_of_lt (Nat.div_le_self _ _) hlo), Int.ofNat_tmod]
  · rw [if_neg (by omega)]
    unfold bits_LeadingZeros64.f bits_Len64.f
    rw [if_pos (by omega), if_pos (by omega)]
    simp only [Option.bind_some, Int.toNat_natCast]
    obtain ⟨hL1, hL2, hL3⟩ := bitLen_spec y hy
    obtain ⟨hL4, hL5⟩ := hL2 (by omega)
    generalize Lib.bitLen y = L at *
    obtain ⟨s, rfl⟩ : ∃ s, L = 64 - s := ⟨64 - L, by omega⟩
    have hs : s ≤ 63 := by omega
    have w0 : wrap64 (64 - ((64 - s : Nat) : Int)) = (s : Int) := by unfold wrap64; omega
    have w1 : IntKind.u64.wrap (s : Int) = (s : Int) := wrapn s (by omega)
    have w2 : IntKind.u64.wrap (64 - (s : Int)) = ((64 - s : Nat) : Int) := wrapz _ _ (by omega) (by omega)
    rw [w0, w1, w2, if_pos (by omega), if_pos (by omega)]
    -- powers
    have p64 : 2 ^ (64 - s) * 2 ^ s = 18446744073709551616 := by rw [← Nat.pow_add]; rw [show 64 - s + s = 64 by omega]
    have p63 : 2 ^ (64 - s - 1) * 2 ^ s = 9223372036854775808 := by rw [← Nat.pow_add]; rw [show 64 - s - 1 + s = 63 by omega]
    have ps : 0 < 2 ^ s := Nat.two_pow_pos s
    have pl : 0 < 2 ^ (64 - s) := Nat.two_pow_pos _
    have hYlt : y * 2 ^ s < 18446744073709551616 := by rw [← p64]; exact Nat.mul_lt_mul_of_pos_right hL1 ps
    have hYge : 9223372036854775808 ≤ y * 2 ^ s := by rw [← p63]; exact Nat.mul_le_mul_right _ hL5
    have hhi : (hi + 1) * 2 ^ s ≤ y * 2 ^ s := Nat.mul_le_mul_right _ h1
    have hlq : lo / 2 ^ (64 - s) < 2 ^ s := by
      rw [Nat.div_lt_iff_lt_mul pl, Nat.mul_comm, p64]; exact hlo
    rw [Nat.add_mul, Nat.one_mul] at hhi
    have sh : ∀ x : Nat, shl .u64 (x : Int) (s : Int) = ((x * 2 ^ s % 18446744073709551616 : Nat) : Int) := by
      intro x
      unfold shl
      rw [IntKind.wrap_u64, show ((s : Int).toNat) = s from rfl, show IntKind.u64.bits = 64 from rfl, Nat.min_eq_left (by omega)]
      have : ((2 : Int) ^ s) = ((2 ^ s : Nat) : Int) := by simp
      rw [this, ← Int.natCast_mul]; omega
    have sr : shr .u64 (lo : Int) ((64 - s : Nat) : Int) = ((lo / 2 ^ (64 - s) : Nat) : Int) := by
      unfold shr
      rw [show (((64 - s : Nat) : Int).toNat) = 64 - s from rfl, show IntKind.u64.bits = 64 from rfl, Nat.min_eq_left (by omega)]
      simp
    rw [sh y, sh hi, sh lo, sr, Nat.mod_eq_of_lt hYlt, Nat.mod_eq_of_lt (a := hi * 2 ^ s) (by omega)]
    have hor : Go.bits .or .u64 ((hi * 2 ^ s : Nat) : Int) ((lo / 2 ^ (64 - s) : Nat) : Int) = ((hi * 2 ^ s + lo / 2 ^ (64 - s) : Nat) : Int) := by
      have hlq2 : lo / 2 ^ (64 - s) < 18446744073709551616 := Nat.lt_of_le_of_lt (Nat.div_le_self _ _) hlo
      have hhi2 : hi * 2 ^ s < 18446744073709551616 := by omega
      have hm : hi * 2 ^ s % 2 ^ s = 0 := Nat.mul_mod_left _ _
      have := bits_join .u64 64 (by decide) (fun n h0 h1 => by rw [IntKind.wrap_u64]; omega) s ((hi * 2 ^ s : Nat) : Int) ((lo / 2 ^ (64 - s) : Nat) : Int) (Int.natCast_nonneg _)
        (by exact_mod_cast hm) (by exact_mod_cast hhi2) (Int.natCast_nonneg _) (by exact_mod_cast hlq) (by exact_mod_cast hlq2)
      rw [this, Int.natCast_add]
    rw [hor, andmask _ hYlt, andmask _ (Nat.mod_lt _ (by omega))]
    -- the low word
    have hun : lo * 2 ^ s = lo / 2 ^ (64 - s) * 18446744073709551616 + lo * 2 ^ s % 18446744073709551616 := by
      have e : lo * 2 ^ s / 18446744073709551616 = lo / 2 ^ (64 - s) := by rw [← p64, Nat.mul_div_mul_right _ _ ps]
      rw [← e]; omega
    have hU : (hi * 18446744073709551616 + lo) * 2 ^ s = (hi * 2 ^ s + lo / 2 ^ (64 - s)) * 18446744073709551616 + lo * 2 ^ s % 18446744073709551616 := by
      rw [Nat.add_mul, Nat.add_mul, hun]
      have : hi * 18446744073709551616 * 2 ^ s = hi * 2 ^ s * 18446744073709551616 := by rw [Nat.mul_right_comm]
      omega
    have hfin : (hi * 18446744073709551616 + lo) / y = (hi * 18446744073709551616 + lo) * 2 ^ s / (y * 2 ^ s) ∧ (hi * 18446744073709551616 + lo) % y = (hi * 18446744073709551616 + lo) * 2 ^ s % (y * 2 ^ s) / 2 ^ min s 64 := by
      rw [Nat.mul_div_mul_right _ _ ps, Nat.mul_mod_mul_right, Nat.min_eq_left (by omega), Nat.mul_div_cancel _ ps]
      exact ⟨rfl, rfl⟩
    rw [hfin.1, hfin.2, hU]
    have hW : lo * 2 ^ s % 18446744073709551616 < 18446744073709551616 := Nat.mod_lt _ (by omega)
    exact last_eq (y * 2 ^ s) s (hi * 2 ^ s + lo / 2 ^ (64 - s)) (lo * 2 ^ s % 18446744073709551616) k hYlt hYge (by omega) hW hk

end Go.Proofs.Ytfaoilalhneijaa.DW
namespace Go.Proofs.Ytfaoilalhneijaa.FM
open Go Go.RowKit FO FB FK FV FL FOf Ieee
open Go.Proofs.Ytfaoilalhneijaa.PG Go.Proofs.YtfaoilalhneijaaW.PrintWords Go.Proofs.YtfaoilalhneijaaW.PrintMore
local notation "infR" => (9218868437227405312 : Nat)

theorem log2_of {n k : Nat} (h1 : 2 ^ k ≤ n) (h2 : n < 2 ^ (k + 1)) : n.log2 = k := by
  have hn : n ≠ 0 := by have := Nat.two_pow_pos k; omega
  have a := (Nat.le_log2 hn).2 h1
  have b := (Nat.log2_lt hn).2 h2
  omega
theorem cut_exact (m c : Nat) (hm : m ≠ 0) : Toward.even.cut false (m * 2 ^ c) c = m := by
  have hp := Nat.two_pow_pos c
  have hlog : c ≤ (m * 2 ^ c).log2 + 2 := by
    have : c ≤ (m * 2 ^ c).log2 := (Nat.le_log2 (Nat.mul_ne_zero hm (by omega))).2 (Nat.le_mul_of_pos_left _ (by omega))
    omega
  unfold Toward.cut
  simp only [Nat.min_eq_left hlog, Nat.one_shiftLeft, Nat.mul_div_cancel _ hp, Nat.mul_mod_left, Nat.mul_zero, Nat.not_lt_zero, decide_false, Bool.false_or]
  have : (2 ^ c == 0) = false := by rw [beq_eq_false_iff_ne]; omega
  rw [this]; simp
theorem binade_eq : double.binade = 4503599627370496 := by decide +kernel
theorem infRung_eq : double.infRung = 9218868437227405312 := by decide +kernel
theorem least_eq : double.leastPlace = -1074 := by decide +kernel
theorem fb_eq : (double.fractionBits : Int) = 52 := rfl
theorem nearest_exact (m c E : Nat) (place : Int) (h1 : 4503599627370496 ≤ m) (h2 : m < 9007199254740992) (hp : place + c = -1074 + (E : Int)) (h3 : E * 4503599627370496 + m ≤ infR) :
    double.nearest false (m * 2 ^ c) place = E * 4503599627370496 + m := by
  have hpc := Nat.two_pow_pos c
  have hlog : (m * 2 ^ c).log2 = 52 + c := by
    apply log2_of
    · rw [Nat.pow_add]; exact Nat.mul_le_mul_right _ (by omega)
    · rw [show 52 + c + 1 = 53 + c by omega, Nat.pow_add]; exact Nat.mul_lt_mul_of_pos_right (by omega) hpc
  unfold Format.nearest
  rw [if_neg (Nat.mul_ne_zero (by omega) (by omega)), hlog]
  have e1 : max (place + ((52 + c : Nat) : Int) - (double.fractionBits : Int)) double.leastPlace = -1074 + (E : Int) := by
    rw [fb_eq, least_eq]
    omega
  simp only [e1]
  have e2 : (place - (-1074 + (E : Int))).toNat = 0 := by omega
  have e3 : (-1074 + (E : Int) - place).toNat = c := by omega
  have e4 : (-1074 + (E : Int) - double.leastPlace).toNat = E := by
    rw [least_eq]
    omega
  rw [e2, e3, e4, Nat.shiftLeft_zero, cut_exact m c (by omega)]
  rw [binade_eq, infRung_eq]
  unfold Format.word
  rw [if_neg (by decide)]
  exact Nat.min_eq_left h3
theorem foni_eq (q : Nat) (h1 : 4503599627370496 ≤ q) (h2 : q ≤ 9007199254740992) : foni (q : Int) = 1074 * 4503599627370496 + q := by
  show double.nearest (decide ((q : Int) < 0)) (q : Int).natAbs 0 = _
  rw [decide_eq_false (by omega), Int.natAbs_natCast]
  by_cases c : q = 9007199254740992
  · have := nearest_exact 4503599627370496 1 1075 0 (by decide) (by decide) (by decide) (by decide)
    rw [show 4503599627370496 * 2 ^ 1 = 9007199254740992 by decide, show 1075 * 4503599627370496 + 4503599627370496 = 1074 * 4503599627370496 + 9007199254740992 by decide] at this
    rw [c, this]
  · have := nearest_exact q 0 1074 0 h1 (by omega) (by decide) (by omega)
    rw [Nat.pow_zero, Nat.mul_one] at this
    exact this
theorem mul_one_eq (x : Nat) (h1 : 4503599627370496 ≤ x) (h2 : x < infR) : double.mul 4607182418800017408 x = some x := by
  have hx : rung x = x := rung_lo (by omega)
  have r1 : double.read 4607182418800017408 = .number false 4503599627370496 (-52) := by decide +kernel
  have r2 := read_mid (w := x) (by omega) (by omega)
  rw [hx, neg_lo (by omega)] at r2
  unfold Format.mul
  rw [r1, r2]
  show some (double.nearest false (4503599627370496 * (4503599627370496 + x % 4503599627370496)) (-52 + (-1074 + ((x / 4503599627370496 - 1 : Nat) : Int)))) = _
  have := nearest_exact (4503599627370496 + x % 4503599627370496) 52 (x / 4503599627370496 - 1) (-52 + (-1074 + ((x / 4503599627370496 - 1 : Nat) : Int))) (by omega) (by omega) (by omega) (by omega)
  rw [Nat.mul_comm]
  rw [show (4503599627370496 : Nat) = 2 ^ 52 by rfl] at this ⊢
  rw [this]
  congr 1
  omega

/-- Ldexp of an exact normal float, to a normal one: the exponent alone turns. -/
theorem ldexp_eq (a : Nat) (e : Int) (ha1 : 4503599627370496 ≤ a) (ha2 : a < infR) (h1 : 4503599627370496 ≤ (a : Int) + e * 4503599627370496) (h2 : (a : Int) + e * 4503599627370496 < infR) :
    math_Ldexp.f a e = some ((a : Int) + e * 4503599627370496).toNat := by
  have hr : rung a = a := rung_lo (by omega)
  have hs : sr a = a := sr_lo (by omega)
  have f1 : feq a 0 = false := by
    rw [feq_eq, hr, hs, rung_lo (r := 0) (by decide), sr_lo (r := 0) (by decide)]; apply decide_eq_false; omega
  have f2 : fgt a 9218868437227405311 = false := by
    rw [fgt_eq, hr, hs, rung_lo (r := 9218868437227405311) (by decide), sr_lo (r := 9218868437227405311) (by decide)]; apply decide_eq_false; omega
  have f3 : feq a a = true := by
    rw [feq_eq, hr]; apply decide_eq_true; omega
  have f4 : flt a 4503599627370496 = false := by
    rw [flt_eq, hr, hs, rung_lo (r := 4503599627370496) (by decide), sr_lo (r := 4503599627370496) (by decide)]; apply decide_eq_false; omega
  unfold math_Ldexp.f math_ldexp.f
  rw [f1, if_neg (by decide)]
  unfold math_IsInf.f math_IsNaN.f math_normalize.f
  rw [abs_eq a (by omega), hr, if_pos rfl, Option.bind_some, f2, f3]
  simp only [Option.bind_some, f4, if_neg (show ¬ (false = true) by decide), Bool.not_true]
  have w1 : wrap64 ((a : Int) / 4503599627370496) = ((a / 4503599627370496 : Nat) : Int) := by unfold wrap64; omega
  have w2 : bits .and .i64 ((a / 4503599627370496 : Nat) : Int) 2047 = ((a / 4503599627370496 : Nat) : Int) := by
    rw [show (2047 : Int) = 2 ^ 11 - 1 by rfl, and_i64 11 (by decide) _ (by omega) (by omega)]; omega
  have w3 : wrap64 (((a / 4503599627370496 : Nat) : Int) - 1023) = ((a / 4503599627370496 : Nat) : Int) - 1023 := by unfold wrap64; omega
  have w4 : wrap64 (e + 0) = e := by unfold wrap64; omega
  have w5 : wrap64 (e + (((a / 4503599627370496 : Nat) : Int) - 1023)) = e + (((a / 4503599627370496 : Nat) : Int) - 1023) := by unfold wrap64; omega
  rw [w1, w2, w3, w4, w5, if_neg (by omega), if_neg (by omega), if_neg (by omega)]
  have w6 : IntKind.u64.wrap ((IntKind.u64.wrap (wrap64 (e + (((a / 4503599627370496 : Nat) : Int) - 1023) + 1023))) * 4503599627370496) = (((e + ((a / 4503599627370496 : Nat) : Int)).toNat * 4503599627370496 : Nat) : Int) := by
    have : wrap64 (e + (((a / 4503599627370496 : Nat) : Int) - 1023) + 1023) = ((e + ((a / 4503599627370496 : Nat) : Int)).toNat : Int) := by unfold wrap64; omega
    rw [this, wrapn _ (by omega), IntKind.wrap_u64]; omega
  have w7 : bits .or .u64 (bits .andNot .u64 (a : Int) 9218868437227405312) (((e + ((a / 4503599627370496 : Nat) : Int)).toNat * 4503599627370496 : Nat) : Int) = (((a : Int) + e * 4503599627370496).toNat : Int) := by
    rw [andNot_exp a (by omega), or_comm_u64, or_nat 52 _ _ (by omega) (Nat.mul_mod_left _ _) (by omega) (by omega)]
    omega
  rw [w6, w7, Int.toNat_natCast]
  have hm := mul_one_eq ((a : Int) + e * 4503599627370496).toNat (by omega) (by omega)
  have g1 : fmulok 4607182418800017408 ((a : Int) + e * 4503599627370496).toNat = true := by unfold fmulok; rw [hm]; rfl
  have g2 : fmulV 4607182418800017408 ((a : Int) + e * 4503599627370496).toNat = ((a : Int) + e * 4503599627370496).toNat := by unfold fmulV; rw [hm]; rfl
  rw [if_pos g1, g2, Option.bind_some]
end Go.Proofs.Ytfaoilalhneijaa.FM
namespace Go.Proofs.Ytfaoilalhneijaa.FTo
open Go Go.RowKit FO FB FK FV FL FOf FM
open Go.Proofs.Ytfaoilalhneijaa.PG Go.Proofs.YtfaoilalhneijaaW.PrintWords Go.Proofs.YtfaoilalhneijaaW.PrintMore
local notation "infR" => (9218868437227405312 : Nat)

/-- x millionths as a whole number, half to even. -/
def rdiv (x : Nat) : Nat := x / 1000000 + (if 1000000 < 2 * (x % 1000000) ∨ (2 * (x % 1000000) = 1000000 ∧ x / 1000000 % 2 = 1) then 1 else 0)
/-- How often a size is doubled till its millionths have 53 bits. -/
def kOf (s : Nat) : Nat := if s * 2 ^ (74 - s.log2) / 1000000 < 36028797018963968 then 72 - s.log2 else 71 - s.log2
def toMag (s : Nat) : Nat := (1074 - kOf s) * 4503599627370496 + rdiv (s * 2 ^ kOf s)
def toN (n : Int) : Nat × Int := if n < -1000000000000000000 ∨ 1000000000000000000 < n then (0, 2) else if n = 0 then (0, 0) else ((if n < 0 then 9223372036854775808 else 0) + toMag n.natAbs, 0)

theorem log2_le {s : Nat} (h0 : 0 < s) (h : s ≤ 1000000000000000000) : s.log2 ≤ 59 := by
  have := (Nat.log2_lt (n := s) (k := 60) (by omega)).2 (by omega)
  omega
theorem wide_eq {s : Nat} (h0 : 0 < s) (h : s ≤ 1000000000000000000) : 18889465931478580854784 ≤ s * 2 ^ (74 - s.log2) ∧ s * 2 ^ (74 - s.log2) < 37778931862957161709568 := by
  have hl := log2_le h0 h
  have a := Nat.log2_self_le (n := s) (by omega)
  have b := Nat.lt_log2_self (n := s)
  have e : (2 : Nat) ^ s.log2 * 2 ^ (74 - s.log2) = 18889465931478580854784 := by
    rw [← Nat.pow_add, show s.log2 + (74 - s.log2) = 74 by omega]
  have hp := Nat.two_pow_pos (74 - s.log2)
  constructor
  · rw [← e]; exact Nat.mul_le_mul_right _ a
  · have : s * 2 ^ (74 - s.log2) < 2 ^ (s.log2 + 1) * 2 ^ (74 - s.log2) := Nat.mul_lt_mul_of_pos_right b hp
    rw [Nat.pow_succ, Nat.mul_assoc, Nat.mul_comm 2, ← Nat.mul_assoc, e] at this
    exact this
theorem kOf_spec {s : Nat} (h0 : 0 < s) (h : s ≤ 1000000000000000000) : 4503599627370496000000 ≤ s * 2 ^ kOf s ∧ s * 2 ^ kOf s < 9007199254740992000000 ∧ 12 ≤ kOf s ∧ kOf s ≤ 72 := by
  have hl := log2_le h0 h
  obtain ⟨a, b⟩ := wide_eq h0 h
  unfold kOf
  split
  · rename_i c
    have e : s * 2 ^ (74 - s.log2) = s * 2 ^ (72 - s.log2) * 4 := by
      rw [show 74 - s.log2 = 72 - s.log2 + 2 by omega, Nat.pow_add, ← Nat.mul_assoc]
    omega
  · rename_i c
    have e : s * 2 ^ (74 - s.log2) = s * 2 ^ (71 - s.log2) * 8 := by
      rw [show 74 - s.log2 = 71 - s.log2 + 3 by omega, Nat.pow_add, ← Nat.mul_assoc]
    omega
theorem kOf_uniq {s k : Nat} (h0 : 0 < s) (h : s ≤ 1000000000000000000) (h1 : 4503599627370496000000 ≤ s * 2 ^ k) (h2 : s * 2 ^ k < 9007199254740992000000) : k = kOf s := by
  obtain ⟨a, b, _, _⟩ := kOf_spec h0 h
  rcases Nat.lt_trichotomy k (kOf s) with g | g | g
  · have : s * 2 ^ (k + 1) ≤ s * 2 ^ kOf s := Nat.mul_le_mul_left _ (Nat.pow_le_pow_right (by decide) g)
    rw [Nat.pow_succ, ← Nat.mul_assoc] at this; omega
  · exact g
  · have : s * 2 ^ (kOf s + 1) ≤ s * 2 ^ k := Nat.mul_le_mul_left _ (Nat.pow_le_pow_right (by decide) g)
    rw [Nat.pow_succ, ← Nat.mul_assoc] at this; omega
end Go.Proofs.Ytfaoilalhneijaa.FTo
namespace Go.Proofs.Ytfaoilalhneijaa.FTr
open Go Go.RowKit FO FB FK FV FL FOf FM FTo
open Go.Proofs.Ytfaoilalhneijaa.PG Go.Proofs.YtfaoilalhneijaaW.PrintWords Go.Proofs.YtfaoilalhneijaaW.PrintMore
local notation "infR" => (9218868437227405312 : Nat)

theorem bits_end (q k : Nat) (hk : k ≤ 72) (h1 : 4503599627370496 ≤ q) (h2 : q ≤ 9007199254740992) :
    IntKind.u64.wrap ((IntKind.u64.wrap ((IntKind.u64.wrap ((IntKind.u64.wrap (((1075 - k : Nat) : Int))) * 4503599627370496)) + (q : Int))) - 4503599627370496) = (((1074 - k) * 4503599627370496 + q : Nat) : Int) := by
  have a1 : IntKind.u64.wrap (((1075 - k : Nat) : Int)) = ((1075 - k : Nat) : Int) := wrapn _ (by omega)
  have a2 : ((1075 - k : Nat) : Int) * 4503599627370496 = (((1075 - k) * 4503599627370496 : Nat) : Int) := by omega
  have a3 : (((1075 - k) * 4503599627370496 : Nat) : Int) + (q : Int) = (((1075 - k) * 4503599627370496 + q : Nat) : Int) := by omega
  have a4 : (((1075 - k) * 4503599627370496 + q : Nat) : Int) - 4503599627370496 = (((1074 - k) * 4503599627370496 + q : Nat) : Int) := by omega
  rw [a1, a2, wrapn _ (by omega), a3, wrapn _ (by omega), a4, wrapn _ (by omega)]
theorem sign_end (q : Nat) (h : q < 9223372036854775808) : IntKind.u64.wrap ((q : Int) + 9223372036854775808) = ((9223372036854775808 + q : Nat) : Int) := by rw [IntKind.wrap_u64]; omega

theorem j2_eq (k : Nat) (n : Int) (q j : Nat) (hk : j ≤ 72) (h1 : 4503599627370496 ≤ q) (h2 : q ≤ 9007199254740992) :
    foolscapref02_To.j2 (k + 1) n (q : Int) (-(j : Int)) = some ((((if n < 0 then 9223372036854775808 else 0) + ((1074 - j) * 4503599627370496 + q) : Nat) : Int), 0) := by
  rw [foolscapref02_To.j2]
  by_cases c : q = 9007199254740992
  · have w : wrap64 (wrap64 (-(j : Int) + 1) + 1075) = ((1076 - j : Nat) : Int) := by unfold wrap64; omega
    have b : IntKind.u64.wrap ((IntKind.u64.wrap ((IntKind.u64.wrap ((IntKind.u64.wrap (((1076 - j : Nat) : Int))) * 4503599627370496)) + 4503599627370496)) - 4503599627370496) = (((1074 - j) * 4503599627370496 + q : Nat) : Int) := by
      have a1 : IntKind.u64.wrap (((1076 - j : Nat) : Int)) = ((1076 - j : Nat) : Int) := wrapn _ (by omega)
      have a2 : ((1076 - j : Nat) : Int) * 4503599627370496 = (((1076 - j) * 4503599627370496 : Nat) : Int) := by omega
      have a3 : (((1076 - j) * 4503599627370496 : Nat) : Int) + 4503599627370496 = (((1077 - j) * 4503599627370496 : Nat) : Int) := by omega
      have a4 : (((1077 - j) * 4503599627370496 : Nat) : Int) - 4503599627370496 = (((1074 - j) * 4503599627370496 + q : Nat) : Int) := by omega
      rw [a1, a2, wrapn _ (by omega), a3, wrapn _ (by omega), a4, wrapn _ (by omega)]
    rw [if_pos (by omega), w, b, sign_end _ (by omega)]
    split
    · rfl
    · rw [Nat.zero_add]
  · have w : wrap64 (-(j : Int) + 1075) = ((1075 - j : Nat) : Int) := by unfold wrap64; omega
    rw [if_neg (by omega), w, bits_end q j hk h1 h2, sign_end _ (by omega)]
    split
    · rfl
    · rw [Nat.zero_add]
theorem loop_eq (n : Int) (s : Nat) (h0 : 0 < s) (h : s ≤ 1000000000000000000) : ∀ (j i k : Nat), i + j = kOf s →
    foolscapref02_To.l0 (k + j + 3) n ((s * 2 ^ i / 1000000 : Nat) : Int) ((s * 2 ^ i % 1000000 : Nat) : Int) (-(i : Int)) = some ((((if n < 0 then 9223372036854775808 else 0) + toMag s : Nat) : Int), 0) := by
  obtain ⟨a, b, c, d⟩ := kOf_spec h0 h
  intro j
  induction j with
  | zero =>
    intro i k hi
    obtain rfl : i = kOf s := by omega
    have key : ∀ q, q = rdiv (s * 2 ^ kOf s) → foolscapref02_To.j2 (k + 1) n (q : Int) (-(kOf s : Int)) = some ((((if n < 0 then 9223372036854775808 else 0) + toMag s : Nat) : Int), 0) := by
      intro q hq
      have := j2_eq k n q (kOf s) d (by rw [hq]; unfold rdiv; omega) (by rw [hq]; unfold rdiv; split <;> omega)
      rw [this, hq]; rfl
    generalize s * 2 ^ kOf s = x at *
    rw [foolscapref02_To.l0, if_neg (by omega)]
    have w : IntKind.u64.wrap (1000000 - ((x % 1000000 : Nat) : Int)) = ((1000000 - x % 1000000 : Nat) : Int) := by rw [IntKind.wrap_u64]; omega
    have w2 : IntKind.u64.wrap (((x / 1000000 : Nat) : Int) + 1) = ((x / 1000000 + 1 : Nat) : Int) := by rw [IntKind.wrap_u64]; omega
    have t1 : Int.tmod ((x / 1000000 : Nat) : Int) 2 = ((x / 1000000 % 2 : Nat) : Int) := tmod_nat _ 2
    rw [w, t1]
    show (if _ then foolscapref02_To.j1 (k + 1 + 1) _ _ _ _ else _) = _
    simp only [foolscapref02_To.j1, w2]
    by_cases c1 : ((x % 1000000 : Nat) : Int) > ((1000000 - x % 1000000 : Nat) : Int)
    · rw [if_pos c1, if_pos trivial]
      exact key (x / 1000000 + 1) (by unfold rdiv; rw [if_pos (.inl (by omega))])
    · rw [if_neg c1]
      by_cases c2 : ((x % 1000000 : Nat) : Int) = ((1000000 - x % 1000000 : Nat) : Int)
      · rw [if_pos c2]
        by_cases c3 : x / 1000000 % 2 = 1
        · rw [if_pos (by rw [c3]; rfl)]
          exact key (x / 1000000 + 1) (by unfold rdiv; rw [if_pos (.inr ⟨by omega, c3⟩)])
        · rw [if_neg (by rw [beq_iff_eq]; omega)]
          exact key (x / 1000000) (by unfold rdiv; rw [if_neg (by omega), Nat.add_zero])
      · rw [if_neg c2, if_neg (by decide)]
        exact key (x / 1000000) (by unfold rdiv; rw [if_neg (by omega), Nat.add_zero])
  | succ j ih =>
    intro i k hi
    have hx : s * 2 ^ i * 2 ≤ s * 2 ^ kOf s := by
      rw [Nat.mul_assoc, ← Nat.pow_succ]
      exact Nat.mul_le_mul_left _ (Nat.pow_le_pow_right (by decide) (by omega))
    have e2 : s * 2 ^ (i + 1) = 2 * (s * 2 ^ i) := by rw [Nat.pow_succ, ← Nat.mul_assoc, Nat.mul_comm]
    have := ih (i + 1) k (by omega)
    rw [e2] at this
    generalize s * 2 ^ i = x at *
    have w1 : IntKind.u64.wrap (2 * ((x % 1000000 : Nat) : Int)) = ((2 * (x % 1000000) : Nat) : Int) := by rw [IntKind.wrap_u64]; omega
    have w2 : IntKind.u64.wrap (2 * ((x / 1000000 : Nat) : Int)) = ((2 * (x / 1000000) : Nat) : Int) := by rw [IntKind.wrap_u64]; omega
    have t1 : Int.tmod ((2 * (x % 1000000) : Nat) : Int) 1000000 = ((2 * (x % 1000000) % 1000000 : Nat) : Int) := tmod_nat _ 1000000
    have t2 : Int.tdiv ((2 * (x % 1000000) : Nat) : Int) 1000000 = ((2 * (x % 1000000) / 1000000 : Nat) : Int) := tdiv_nat _ 1000000
    have w3 : IntKind.u64.wrap (((2 * (x / 1000000) : Nat) : Int) + ((2 * (x % 1000000) / 1000000 : Nat) : Int)) = ((2 * x / 1000000 : Nat) : Int) := by rw [IntKind.wrap_u64]; omega
    have w4 : wrap64 (-(i : Int) - 1) = -((i + 1 : Nat) : Int) := by unfold wrap64; omega
    have e3 : 2 * (x % 1000000) % 1000000 = 2 * x % 1000000 := by omega
    rw [show k + (j + 1) + 3 = (k + j + 3) + 1 by omega, foolscapref02_To.l0, if_pos (by omega), w1, w2, t1, t2, wrapn _ (by omega), w3, w4, e3]
    exact this
end Go.Proofs.Ytfaoilalhneijaa.FTr
namespace Go.Proofs.Ytfaoilalhneijaa.FTc
open Go Go.RowKit FO FB FK FV FL FOf FM FTo FTr
open Go.Proofs.Ytfaoilalhneijaa.PG Go.Proofs.YtfaoilalhneijaaW.PrintWords Go.Proofs.YtfaoilalhneijaaW.PrintMore
local notation "infR" => (9218868437227405312 : Nat)

theorem fitsR_eq (n : Int) : foolscapref01_Fits.f n = some (decide (-1000000000000000000 ≤ n ∧ n ≤ 1000000000000000000)) := by
  unfold foolscapref01_Fits.f
  split
  · congr 1; rw [decide_eq_decide]; omega
  · congr 1; symm; rw [decide_eq_false_iff_not]; omega
theorem fits_eq (n : Int) : num_Fits.f n = some (decide (-1000000000000000000 ≤ n ∧ n ≤ 1000000000000000000)) := by
  unfold num_Fits.f
  split
  · congr 1; rw [decide_eq_decide]; omega
  · congr 1; symm; rw [decide_eq_false_iff_not]; omega
theorem abs_eq (n : Int) (h1 : -1000000000000000000 ≤ n) (h2 : n ≤ 1000000000000000000) : IntKind.u64.wrap (mx n (wrap64 (-n))) = (n.natAbs : Int) := by
  have w : wrap64 (-n) = -n := by unfold wrap64; omega
  rw [w, IntKind.wrap_u64]
  unfold mx
  split <;> omega
def toI (p : Nat × Int) : Int × Int := ((p.1 : Int), p.2)
theorem refTo_eq (k : Nat) (n : Int) : foolscapref02_To.f (k + 100) n = some (toI (toN n)) := by
  unfold foolscapref02_To.f toN
  rw [fitsR_eq, Option.bind_some]
  by_cases c : -1000000000000000000 ≤ n ∧ n ≤ 1000000000000000000
  · rw [if_pos (decide_eq_true c), if_neg (show ¬ (n < -1000000000000000000 ∨ 1000000000000000000 < n) by omega)]
    by_cases c0 : n = 0
    · rw [if_pos c0, if_pos c0]; rfl
    rw [if_neg c0, if_neg c0]
    unfold foolscapref01_Size.f
    rw [Option.bind_some, abs_eq n c.1 c.2]
    have t1 : Int.tdiv (n.natAbs : Int) 1000000 = ((n.natAbs / 1000000 : Nat) : Int) := tdiv_nat _ 1000000
    have t2 : Int.tmod (n.natAbs : Int) 1000000 = ((n.natAbs % 1000000 : Nat) : Int) := tmod_nat _ 1000000
    rw [t1, t2, wrapn _ (by omega)]
    obtain ⟨_, _, _, hk⟩ := kOf_spec (s := n.natAbs) (by omega) (by omega)
    have := loop_eq n n.natAbs (by omega) (by omega) (kOf n.natAbs) 0 (k + 97 - kOf n.natAbs) (by omega)
    rw [Nat.pow_zero, Nat.mul_one, show k + 97 - kOf n.natAbs + kOf n.natAbs + 3 = k + 100 by omega] at this
    exact this
  · rw [if_neg (by rw [decide_eq_false c]; decide), if_pos (show n < -1000000000000000000 ∨ 1000000000000000000 < n by omega)]; rfl

theorem bitLen_log2 {x : Nat} (h0 : 0 < x) (h : x < 18446744073709551616) : Lib.bitLen x = x.log2 + 1 := by
  obtain ⟨a, b, _⟩ := DW.bitLen_spec x h
  obtain ⟨b1, b2⟩ := b h0
  have := log2_of (n := x) (k := Lib.bitLen x - 1) b2 (by rw [Nat.sub_add_cancel b1]; exact a)
  omega
theorem len_eq {x : Nat} (h0 : 0 < x) (h : x < 18446744073709551616) : bits_Len64.f (x : Int) = some ((x.log2 + 1 : Nat) : Int) := by
  unfold bits_Len64.f
  rw [if_pos (by omega), if_pos (by omega), Int.toNat_natCast, bitLen_log2 h0 h]
theorem lz_eq {x : Nat} (h0 : 0 < x) (h : x < 18446744073709551616) (hl : x.log2 ≤ 63) : bits_LeadingZeros64.f (x : Int) = some ((63 - x.log2 : Nat) : Int) := by
  unfold bits_LeadingZeros64.f
  rw [len_eq h0 h, Option.bind_some]
  congr 1
  unfold wrap64; omega
/-- The end of To: the float of q * 2^-k, with the sign. -/
theorem end_eq (k : Nat) (n : Int) (q j : Nat) (up drop : Int) (hk : j ≤ 72) (h1 : 4503599627370496 ≤ q) (h2 : q ≤ 9007199254740992) (hj : wrap64 (drop - up) = -(j : Int)) :
    (math_Ldexp.f (foni (q : Int)) (wrap64 (drop - up))).bind (fun t => (if n < 0 then (some (fneg t, (0 : Int))) else (some (t, 0)))) = some ((if n < 0 then 9223372036854775808 else 0) + ((1074 - j) * 4503599627370496 + q), 0) := by
  rw [hj, foni_eq q h1 h2, ldexp_eq _ _ (by omega) (by omega) (by omega) (by omega), Option.bind_some]
  have e : (((1074 * 4503599627370496 + q : Nat) : Int) + -(j : Int) * 4503599627370496).toNat = (1074 - j) * 4503599627370496 + q := by omega
  rw [e]
  have f : fneg ((1074 - j) * 4503599627370496 + q) = 9223372036854775808 + ((1074 - j) * 4503599627370496 + q) := by
    show ((1074 - j) * 4503599627370496 + q) ^^^ 9223372036854775808 = _
    rw [xor_top _ (by omega), if_pos (by omega), Nat.add_comm]
  rw [f]
  split
  · rfl
  · rw [Nat.zero_add]
end Go.Proofs.Ytfaoilalhneijaa.FTc
namespace Go.Proofs.Ytfaoilalhneijaa.FTd
open Go Go.RowKit FO FB FK FV FL FOf FM FTo FTr FTc
open Go.Proofs.Ytfaoilalhneijaa.PG Go.Proofs.YtfaoilalhneijaaW.PrintWords Go.Proofs.YtfaoilalhneijaaW.PrintMore
local notation "infR" => (9218868437227405312 : Nat)

theorem j0_eq (k : Nat) (n : Int) (q j : Nat) (up drop : Int) (b : Bool) (hk : j ≤ 72) (h1 : 4503599627370496 ≤ q) (h2 : q + b.toNat ≤ 9007199254740992) (hj : wrap64 (drop - up) = -(j : Int)) :
    real_To.j0 (k + 1) n up (q : Int) drop b = some ((if n < 0 then 9223372036854775808 else 0) + ((1074 - j) * 4503599627370496 + (q + b.toNat)), 0) := by
  rw [real_To.j0]
  have w : IntKind.u64.wrap ((q : Int) + 1) = ((q + 1 : Nat) : Int) := by rw [IntKind.wrap_u64]; omega
  cases b
  · rw [if_neg (by decide)]
    exact end_eq k n q j up drop hk h1 h2 hj
  · rw [if_pos rfl, w]
    exact end_eq k n (q + 1) j up drop hk (by omega) h2 hj
/-- What is cut off, of q0 and of what the division left. -/
theorem tail_eq (k : Nat) (n : Int) (X Y D p : Nat) (up : Int) (j : Nat) (hp : D = 2 ∧ p = 4 ∨ D = 3 ∧ p = 8) (hX : X = Y * p) (h1 : 4503599627370496000000 ≤ Y) (h2 : Y < 9007199254740992000000) (hk : j ≤ 72) (hj : up = (j : Int) + D) :
    (if (Go.bits .and .u64 ((X / 1000000 : Nat) : Int) (IntKind.u64.wrap ((shl .u64 1 (D : Int)) - 1))) > (shl .u64 1 (((D - 1 : Nat)) : Int)) then (real_To.j0 (k + 1) n up (shr .u64 ((X / 1000000 : Nat) : Int) (D : Int)) (D : Int) true) else (if (Go.bits .and .u64 ((X / 1000000 : Nat) : Int) (IntKind.u64.wrap ((shl .u64 1 (D : Int)) - 1))) = (shl .u64 1 (((D - 1 : Nat)) : Int)) then (if ((X % 1000000 : Nat) : Int) > 0 then (real_To.j0 (k + 1) n up (shr .u64 ((X / 1000000 : Nat) : Int) (D : Int)) (D : Int) true) else (real_To.j0 (k + 1) n up (shr .u64 ((X / 1000000 : Nat) : Int) (D : Int)) (D : Int) ((Go.bits .and .u64 (shr .u64 ((X / 1000000 : Nat) : Int) (D : Int)) 1) == 1))) else (real_To.j0 (k + 1) n up (shr .u64 ((X / 1000000 : Nat) : Int) (D : Int)) (D : Int) false))) =
      some ((if n < 0 then 9223372036854775808 else 0) + ((1074 - j) * 4503599627370496 + rdiv Y), 0) := by
  have hD : 2 ^ D = p := by rcases hp with ⟨rfl, rfl⟩ | ⟨rfl, rfl⟩ <;> rfl
  have hD1 : 2 ^ (D - 1) * 2 = p := by rcases hp with ⟨rfl, rfl⟩ | ⟨rfl, rfl⟩ <;> rfl
  have hDs : D ≤ 3 ∧ 2 ≤ D := by omega
  have s1 : shl .u64 1 (D : Int) = (p : Int) := by
    have := shl_nat 1 D (by omega)
    rw [Nat.one_mul, hD] at this
    rw [show (1 : Int) = ((1 : Nat) : Int) from rfl, this]; omega
  have s2 : shl .u64 1 ((D - 1 : Nat) : Int) = ((p / 2 : Nat) : Int) := by
    have := shl_nat 1 (D - 1) (by omega)
    rw [Nat.one_mul] at this
    rw [show (1 : Int) = ((1 : Nat) : Int) from rfl, this]; omega
  have s3 : shr .u64 ((X / 1000000 : Nat) : Int) (D : Int) = ((Y / 1000000 : Nat) : Int) := by
    rw [shr_nat _ D (by omega), hD]
    congr 1
    rcases hp with ⟨rfl, rfl⟩ | ⟨rfl, rfl⟩ <;> omega
  have s4 : bits .and .u64 ((X / 1000000 : Nat) : Int) (IntKind.u64.wrap ((p : Int) - 1)) = ((X / 1000000 % p : Nat) : Int) := by
    rcases hp with ⟨rfl, rfl⟩ | ⟨rfl, rfl⟩
    · rw [show IntKind.u64.wrap (((4 : Nat) : Int) - 1) = 2 ^ 2 - 1 by decide +kernel, and_u64 2 (by decide) _ (by omega) (by omega)]; omega
    · rw [show IntKind.u64.wrap (((8 : Nat) : Int) - 1) = 2 ^ 3 - 1 by decide +kernel, and_u64 3 (by decide) _ (by omega) (by omega)]; omega
  have s5 : bits .and .u64 ((Y / 1000000 : Nat) : Int) 1 = ((Y / 1000000 % 2 : Nat) : Int) := by
    rw [show (1 : Int) = 2 ^ 1 - 1 by rfl, and_u64 1 (by decide) _ (by omega) (by omega)]; omega
  have hjj : wrap64 ((D : Int) - up) = -(j : Int) := by unfold wrap64; omega
  have key : ∀ b : Bool, Y / 1000000 + b.toNat = rdiv Y → real_To.j0 (k + 1) n up ((Y / 1000000 : Nat) : Int) (D : Int) b = some ((if n < 0 then 9223372036854775808 else 0) + ((1074 - j) * 4503599627370496 + rdiv Y), 0) := by
    intro b hb
    have hle : b.toNat ≤ 1 := by cases b <;> decide
    rw [j0_eq k n (Y / 1000000) j up D b hk (by omega) (by omega) hjj, hb]
  rw [s1, s2, s3, s4, s5]
  have e : Y % 1000000 * p = 1000000 * (X / 1000000 % p) + X % 1000000 := by
    rcases hp with ⟨rfl, rfl⟩ | ⟨rfl, rfl⟩ <;> omega
  have r1 : (2 * (Y % 1000000) > 1000000) ↔ (X / 1000000 % p > p / 2 ∨ X / 1000000 % p = p / 2 ∧ X % 1000000 > 0) := by
    rcases hp with ⟨rfl, rfl⟩ | ⟨rfl, rfl⟩ <;> omega
  have r2 : (2 * (Y % 1000000) = 1000000) ↔ (X / 1000000 % p = p / 2 ∧ X % 1000000 = 0) := by
    rcases hp with ⟨rfl, rfl⟩ | ⟨rfl, rfl⟩ <;> omega
  by_cases c1 : X / 1000000 % p > p / 2
  · rw [if_pos (by omega)]
    exact key true (by unfold rdiv; rw [if_pos (.inl (r1.2 (.inl c1)))]; rfl)
  rw [if_neg (by omega)]
  by_cases c2 : X / 1000000 % p = p / 2
  · rw [if_pos (by omega)]
    by_cases c3 : X % 1000000 > 0
    · rw [if_pos (by omega)]
      exact key true (by unfold rdiv; rw [if_pos (.inl (r1.2 (.inr ⟨c2, c3⟩)))]; rfl)
    · rw [if_neg (by omega)]
      have hh := r2.2 ⟨c2, by omega⟩
      by_cases c4 : Y / 1000000 % 2 = 1
      · rw [c4]
        exact key true (by unfold rdiv; rw [if_pos (.inr ⟨hh, c4⟩)]; rfl)
      · rw [show Y / 1000000 % 2 = 0 by omega]
        exact key false (by unfold rdiv; rw [if_neg (by omega)]; rfl)
  · rw [if_neg (by omega)]
    exact key false (by unfold rdiv; rw [if_neg (by
      intro z
      rcases z with z | z
      · have := r1.1 z; omega
      · have := r2.1 z.1; omega)]; rfl)
end Go.Proofs.Ytfaoilalhneijaa.FTd
namespace Go.Proofs.Ytfaoilalhneijaa.FTe
open Go Go.RowKit FO FB FK FV FL FOf FM FTo FTr FTc FTd
open Go.Proofs.Ytfaoilalhneijaa.PG Go.Proofs.YtfaoilalhneijaaW.PrintWords Go.Proofs.YtfaoilalhneijaaW.PrintMore
local notation "infR" => (9218868437227405312 : Nat)

theorem to_eq (k : Nat) (n : Int) : real_To.f (k + 100) n = some (toN n) := by
  unfold real_To.f toN
  rw [FTc.fits_eq, Option.bind_some]
  by_cases c : -1000000000000000000 ≤ n ∧ n ≤ 1000000000000000000
  · rw [if_pos (decide_eq_true c), if_neg (show ¬ (n < -1000000000000000000 ∨ 1000000000000000000 < n) by omega)]
    by_cases c0 : n = 0
    · rw [if_pos c0, if_pos c0]
    rw [if_neg c0, if_neg c0, FTc.abs_eq n c.1 c.2]
    have hs0 : 0 < n.natAbs := by omega
    have hs : n.natAbs ≤ 1000000000000000000 := by omega
    unfold toMag
    generalize n.natAbs = s at *
    have hl := log2_le hs0 hs
    obtain ⟨x1, x2⟩ := wide_eq hs0 hs
    obtain ⟨k1, k2, k3, k4⟩ := kOf_spec hs0 hs
    rw [lz_eq hs0 (by omega) (by omega), Option.bind_some]
    have w1 : wrap64 (74 - (wrap64 (63 - ((63 - s.log2 : Nat) : Int)))) = ((74 - s.log2 : Nat) : Int) := by unfold wrap64; omega
    have l := left_eq s (74 - s.log2) (by omega) (by omega)
    rw [Nat.div_eq_of_lt (show s < 18446744073709551616 by omega), Nat.mod_eq_of_lt (show s < 18446744073709551616 by omega)] at l
    have l' : real_wide_left.f 0 (s : Int) ((74 - s.log2 : Nat) : Int) = _ := l
    rw [w1, l', Option.bind_some]
    generalize hX : s * 2 ^ (74 - s.log2) = X at *
    have dv := DW.div64_eq (X / 18446744073709551616) (X % 18446744073709551616) 1000000 (k + 100) (by omega) (by decide) (by omega) (by omega)
    rw [show X / 18446744073709551616 * 18446744073709551616 + X % 18446744073709551616 = X by omega] at dv
    have dv' : bits_Div64.f (k + 100) ((X / 18446744073709551616 : Nat) : Int) ((X % 18446744073709551616 : Nat) : Int) 1000000 = _ := dv
    dsimp only
    rw [dv', Option.bind_some]
    dsimp only
    rw [len_eq (by omega) (by omega), Option.bind_some]
    by_cases cq : X / 1000000 < 36028797018963968
    · have lq : (X / 1000000).log2 = 54 := log2_of (by omega) (by omega)
      have hk : kOf s = 72 - s.log2 := by unfold kOf; rw [hX, if_pos cq]
      have w2 : wrap64 (((((X / 1000000).log2 + 1 : Nat)) : Int) - 53) = ((2 : Nat) : Int) := by rw [lq]; decide +kernel
      have w3 : wrap64 (((2 : Nat) : Int) - 1) = ((2 - 1 : Nat) : Int) := by decide +kernel
      rw [w2, w3, if_pos (by decide), if_pos (by decide)]
      exact tail_eq (k + 99) n X (s * 2 ^ kOf s) 2 4 ((74 - s.log2 : Nat) : Int) (kOf s) (.inl ⟨rfl, rfl⟩) (by
        rw [← hX, hk, show 74 - s.log2 = 72 - s.log2 + 2 by omega, Nat.pow_add, ← Nat.mul_assoc]) k1 k2 k4 (by omega)
    · have lq : (X / 1000000).log2 = 55 := log2_of (by omega) (by omega)
      have hk : kOf s = 71 - s.log2 := by unfold kOf; rw [hX, if_neg cq]
      have w2 : wrap64 (((((X / 1000000).log2 + 1 : Nat)) : Int) - 53) = ((3 : Nat) : Int) := by rw [lq]; decide +kernel
      have w3 : wrap64 (((3 : Nat) : Int) - 1) = ((3 - 1 : Nat) : Int) := by decide +kernel
      rw [w2, w3, if_pos (by decide), if_pos (by decide)]
      exact tail_eq (k + 99) n X (s * 2 ^ kOf s) 3 8 ((74 - s.log2 : Nat) : Int) (kOf s) (.inr ⟨rfl, rfl⟩) (by
        rw [← hX, hk, show 74 - s.log2 = 71 - s.log2 + 3 by omega, Nat.pow_add, ← Nat.mul_assoc]) k1 k2 k4 (by omega)
  · rw [if_neg (by rw [decide_eq_false c]; decide), if_pos (show n < -1000000000000000000 ∨ 1000000000000000000 < n by omega)]
end Go.Proofs.Ytfaoilalhneijaa.FTe
namespace Go.Proofs.Ytfaoilalhneijaa.FX
open Go Go.RowKit FO FB FK FV FL FOf FM FTo FTr FTc FTd FTe
open Go.Proofs.Ytfaoilalhneijaa.PG Go.Proofs.YtfaoilalhneijaaW.PrintWords Go.Proofs.YtfaoilalhneijaaW.PrintMore
local notation "infR" => (9218868437227405312 : Nat)

theorem refNext_eq (k b : Nat) (h : b < 18446744073709551616) : foolscapref02_Next.f (k + 4) b = some (toI (nextN b)) := by
  unfold foolscapref02_Next.f nextN
  rw [show k + 4 = (k + 2) + 2 by omega, kindR_eq _ b h, Option.bind_some]
  have ng : (neg b = true) = (9223372036854775808 ≤ b) := propext (neg_iff h)
  have rb : rung b = b % 9223372036854775808 := rfl
  have rl := rung_lt b
  simp only [foolscapref02_Next.j0]
  rw [show k + 2 + 1 = (k + 1) + 2 by omega, kindR_eq _ b h, Option.bind_some]
  simp only [kindN_zero, kindN_two, ng]
  by_cases c1 : infR < rung b
  · rw [if_pos c1, if_pos (show infR < rung b ∨ b = infR from .inl c1)]; rfl
  · rw [if_neg c1]
    by_cases c2 : b = infR
    · rw [if_pos (by rw [c2]; rfl), if_pos (show infR < rung b ∨ b = infR from .inr c2)]; rfl
    · rw [if_neg (by rw [beq_iff_eq]; omega), if_neg (show ¬ (infR < rung b ∨ b = infR) by omega)]
      by_cases c3 : rung b = 0
      · rw [if_pos c3, if_pos c3]; rfl
      · rw [if_neg c3, if_neg c3]
        by_cases c4 : 9223372036854775808 ≤ b
        · rw [if_pos (by omega), if_pos c4]
          have : IntKind.u64.wrap ((b : Int) - 1) = ((b - 1 : Nat) : Int) := by rw [IntKind.wrap_u64]; omega
          rw [this]; rfl
        · rw [if_neg (by omega), if_neg c4]
          have : IntKind.u64.wrap ((b : Int) + 1) = ((b + 1 : Nat) : Int) := by rw [IntKind.wrap_u64]; omega
          rw [this]; rfl

theorem lives_eq (k : Nat) : foolscaplaw02_lives.f (k + 200) = some true := by
  unfold foolscaplaw02_lives.f foolscaplaw02_of.f
  have o1 : ofN 4591870180066957722 = (100000, 0) := by decide +kernel
  have o2 : ofN 4612811918334230528 = (2500000, 0) := by decide +kernel
  have o3 : ofN 4801453603149578240 = (0, 3) := by decide +kernel
  have t1 : toN 100000 = (4591870180066957722, 0) := by decide +kernel
  have n1 : nextN 0 = (1, 0) := by decide +kernel
  have l1 : lessN 9223372036854775808 0 = true := by decide +kernel
  have q1 : kindN (rung 9218868437227405312) = 1 := by decide +kernel
  simp only [Option.bind_some, show Int.toNat 4591870180066957722 = 4591870180066957722 from rfl, show Int.toNat 4612811918334230528 = 4612811918334230528 from rfl, show Int.toNat 4801453603149578240 = 4801453603149578240 from rfl, show Int.toNat 9223372036854775808 = 9223372036854775808 from rfl, show Int.toNat 9218868437227405312 = 9218868437227405312 from rfl]
  rw [of_eq k _ (by decide), o1, of_eq k _ (by decide), o2, of_eq k _ (by decide), o3, show k + 200 = (k + 100) + 100 by omega, to_eq, t1, show k + 100 + 100 = (k + 199) + 1 by omega, next_eq _ _ (by decide), n1]
  unfold foolscaplaw02_bits.f
  rw [less_eq _ _ (by decide) (by decide), l1, kind_eq _ (by decide), q1]
  rfl
end Go.Proofs.Ytfaoilalhneijaa.FX
namespace Go.Proofs.Ytfaoilalhneijaa.FY
set_option linter.unusedSimpArgs false
open Go Go.RowKit FO FB FK FV FL FOf FM FTo FTr FTc FTd FTe FX
open Go.Proofs.Ytfaoilalhneijaa.PG Go.Proofs.YtfaoilalhneijaaW.PrintWords Go.Proofs.YtfaoilalhneijaaW.PrintMore
local notation "infR" => (9218868437227405312 : Nat)

theorem rdiv_mono {x y : Nat} (h : x ≤ y) : rdiv x ≤ rdiv y := by unfold rdiv; split <;> split <;> omega
theorem rdiv_range {Y : Nat} (h1 : 4503599627370496000000 ≤ Y) (h2 : Y < 9007199254740992000000) : 4503599627370496 ≤ rdiv Y ∧ rdiv Y ≤ 9007199254740992 := by unfold rdiv; split <;> omega
theorem mag_of_mono {ks kt a b : Nat} (g : kt < ks) (hk : ks ≤ 72) (ha : a ≤ 9007199254740992) (hb : 4503599627370496 ≤ b) : (1074 - ks) * 4503599627370496 + a ≤ (1074 - kt) * 4503599627370496 + b := by omega
theorem toMag_mono {s t : Nat} (h0 : 0 < s) (h : s ≤ t) (ht : t ≤ 1000000000000000000) : toMag s ≤ toMag t := by
  obtain ⟨a1, a2, a3, a4⟩ := kOf_spec h0 (Nat.le_trans h ht)
  obtain ⟨b1, b2, b3, b4⟩ := kOf_spec (s := t) (by omega) ht
  rcases Nat.lt_trichotomy (kOf s) (kOf t) with g | g | g
  · exfalso
    have h1 : s * 2 ^ (kOf s + 1) ≤ t * 2 ^ kOf t := Nat.mul_le_mul h (Nat.pow_le_pow_right (by decide) g)
    rw [Nat.pow_succ, ← Nat.mul_assoc] at h1
    omega
  · unfold toMag
    rw [← g]
    exact Nat.add_le_add_left (rdiv_mono (Nat.mul_le_mul_right _ h)) _
  · exact mag_of_mono g a4 (rdiv_range a1 a2).2 (rdiv_range b1 b2).1
theorem toMag_range {s : Nat} (h0 : 0 < s) (h : s ≤ 1000000000000000000) : 0 < toMag s ∧ toMag s < infR := by
  obtain ⟨a1, a2, a3, a4⟩ := kOf_spec h0 h
  obtain ⟨b1, b2⟩ := rdiv_range a1 a2
  unfold toMag
  generalize rdiv (s * 2 ^ kOf s) = M at *
  generalize kOf s = k at *
  omega
theorem val_of {k M : Nat} (hk : k ≤ 72) (h1 : 4503599627370496 ≤ M) (h2 : M ≤ 9007199254740992) : val ((1074 - k) * 4503599627370496 + M) = M * 2 ^ (1074 - k) := by
  unfold val
  rw [if_neg (by omega)]
  by_cases c : M < 9007199254740992
  · have e1 : ((1074 - k) * 4503599627370496 + M) / 4503599627370496 - 1 = 1074 - k := by omega
    have e2 : 4503599627370496 + ((1074 - k) * 4503599627370496 + M) % 4503599627370496 = M := by omega
    rw [e1, e2]
  · have e0 : M = 9007199254740992 := by omega
    subst e0
    have e1 : ((1074 - k) * 4503599627370496 + 9007199254740992) / 4503599627370496 - 1 = (1074 - k) + 1 := by omega
    have e2 : 4503599627370496 + ((1074 - k) * 4503599627370496 + 9007199254740992) % 4503599627370496 = 4503599627370496 := by omega
    rw [e1, e2, Nat.pow_succ, Nat.mul_comm (2 ^ _) 2, ← Nat.mul_assoc]
theorem rne_near {v d s : Nat} (h1 : 2 * v < 2 * (s * 2 ^ d) + 2 ^ d) (h2 : 2 * (s * 2 ^ d) < 2 * v + 2 ^ d) : rneN v d = s := by
  unfold rneN
  have hp := Nat.two_pow_pos d
  generalize 2 ^ d = p at *
  have hdm := Nat.div_add_mod v p
  have hml := Nat.mod_lt v hp
  by_cases c : s * p ≤ v
  · have e : v / p = s := by
      apply Nat.div_eq_of_lt_le c
      rw [Nat.succ_mul]; omega
    rw [e] at hdm ⊢
    rw [Nat.mul_comm] at hdm
    rw [if_neg (by omega)]; rfl
  · obtain ⟨s', rfl⟩ : ∃ s', s = s' + 1 := ⟨s - 1, by cases s with | zero => simp at c | succ n => rfl⟩
    have em : (s' + 1) * p = s' * p + p := Nat.succ_mul s' p
    rw [em] at h1 h2 c
    have e : v / p = s' := by
      apply Nat.div_eq_of_lt_le (by omega)
      rw [em]; omega
    rw [e] at hdm ⊢
    rw [Nat.mul_comm] at hdm
    rw [if_pos (by left; omega)]
theorem k_big {s : Nat} (h0 : 0 < s) (h : s ≤ 8000000000000000) : 20 ≤ kOf s := by
  obtain ⟨a1, a2, a3, a4⟩ := kOf_spec h0 (by omega)
  by_cases c : 20 ≤ kOf s
  · exact c
  · exfalso
    have : s * 2 ^ kOf s ≤ 8000000000000000 * 2 ^ 19 := Nat.mul_le_mul h (Nat.pow_le_pow_right (by decide) (by omega))
    omega
theorem mag_to {s : Nat} (h0 : 0 < s) (h : s ≤ 8000000000000000) : magOf (toMag s) = s := by
  obtain ⟨a1, a2, a3, a4⟩ := kOf_spec h0 (by omega)
  have a5 := k_big h0 h
  obtain ⟨b1, b2⟩ := rdiv_range a1 a2
  have hv := val_of a4 b1 b2
  unfold magOf toMag
  rw [hv]
  have e : rdiv (s * 2 ^ kOf s) * 2 ^ (1074 - kOf s) * 1000000 = rdiv (s * 2 ^ kOf s) * 1000000 * 2 ^ (1074 - kOf s) := Nat.mul_right_comm _ _ _
  have sc := rne_scale (rdiv (s * 2 ^ kOf s) * 1000000) (1074 - kOf s) (kOf s)
  rw [show kOf s + (1074 - kOf s) = 1074 by omega] at sc
  rw [e, sc]
  have hp : 2 ^ 20 ≤ 2 ^ kOf s := Nat.pow_le_pow_right (by decide) a5
  have n1 : 2 * (rdiv (s * 2 ^ kOf s) * 1000000) ≤ 2 * (s * 2 ^ kOf s) + 1000000 := by
    generalize s * 2 ^ kOf s = Y; unfold rdiv; split <;> omega
  have n2 : 2 * (s * 2 ^ kOf s) ≤ 2 * (rdiv (s * 2 ^ kOf s) * 1000000) + 1000000 := by
    generalize s * 2 ^ kOf s = Y; unfold rdiv; split <;> omega
  apply rne_near
  · generalize rdiv (s * 2 ^ kOf s) = q at *; generalize s * 2 ^ kOf s = Y at *; omega
  · generalize rdiv (s * 2 ^ kOf s) = q at *; generalize s * 2 ^ kOf s = Y at *; omega

/-! ### The signed rung of a number's float -/
theorem toN_ok {n : Int} (h : (toN n).2 = 0) : -1000000000000000000 ≤ n ∧ n ≤ 1000000000000000000 := by
  unfold toN at h
  split at h
  · exact absurd h (by decide)
  · omega
theorem toN_bad {n : Int} (h : (toN n).2 ≠ 0) : toN n = (0, 2) := by
  unfold toN at *
  split
  · rfl
  · rename_i c
    rw [if_neg c] at h
    split at h <;> exact absurd rfl h
def srT (n : Int) : Int := if n = 0 then 0 else if n < 0 then -(toMag n.natAbs : Int) else (toMag n.natAbs : Int)
theorem toN_facts {n : Int} (h1 : -1000000000000000000 ≤ n) (h2 : n ≤ 1000000000000000000) : (toN n).2 = 0 ∧ rung (toN n).1 < infR ∧ sr (toN n).1 = srT n ∧ (toN n).1 < 18446744073709551616 ∧ (neg (toN n).1 = true ↔ n < 0) ∧ (rung (toN n).1 = if n = 0 then 0 else toMag n.natAbs) := by
  unfold toN srT
  rw [if_neg (by omega)]
  by_cases c0 : n = 0
  · rw [if_pos c0, if_pos c0, if_pos c0]; subst c0; decide
  · rw [if_neg c0, if_neg c0, if_neg c0]
    obtain ⟨r1, r2⟩ := toMag_range (s := n.natAbs) (by omega) (by omega)
    generalize toMag n.natAbs = t at *
    refine ⟨rfl, ?_⟩
    dsimp only
    by_cases c1 : n < 0
    · rw [if_pos c1, if_pos c1]
      have hr : rung (9223372036854775808 + t) = t := by unfold rung; omega
      have hn : neg (9223372036854775808 + t) = true := (neg_iff (by omega)).2 (by omega)
      refine ⟨by omega, ?_, by omega, ⟨fun _ => c1, fun _ => hn⟩, hr⟩
      unfold sr; rw [if_pos hn, hr]
    · rw [if_neg c1, if_neg c1, Nat.zero_add]
      have hr : rung t = t := rung_lo (by omega)
      have hn : ¬ neg t = true := by rw [neg_lo (by omega)]; decide
      refine ⟨by omega, ?_, by omega, ⟨fun z => absurd z hn, fun z => absurd z c1⟩, hr⟩
      unfold sr; rw [if_neg hn, hr]
theorem srT_mono {n m : Int} (h : n ≤ m) (h1 : -1000000000000000000 ≤ n) (h2 : m ≤ 1000000000000000000) : srT n ≤ srT m := by
  unfold srT
  by_cases c0 : n = 0
  · rw [if_pos c0]
    by_cases d0 : m = 0
    · rw [if_pos d0]; omega
    · rw [if_neg d0, if_neg (by omega)]; omega
  · rw [if_neg c0]
    by_cases c1 : n < 0
    · rw [if_pos c1]
      by_cases d0 : m = 0
      · rw [if_pos d0]; omega
      · rw [if_neg d0]
        by_cases d1 : m < 0
        · rw [if_pos d1]
          have := toMag_mono (s := m.natAbs) (t := n.natAbs) (by omega) (by omega) (by omega)
          omega
        · rw [if_neg d1]; omega
    · rw [if_neg c1, if_neg (show ¬ m = 0 by omega), if_neg (show ¬ m < 0 by omega)]
      have := toMag_mono (s := n.natAbs) (t := m.natAbs) (by omega) (by omega) (by omega)
      omega

/-! ### The row -/
theorem neg_or {a : Nat} (ha : a < 18446744073709551616) : neg a = true ∧ a = 9223372036854775808 + rung a ∨ neg a = false ∧ a = rung a := by
  have h := neg_iff ha
  have e1 : rung a = a % 9223372036854775808 := rfl
  cases c : neg a
  · right; rw [c] at h
    have : a < 9223372036854775808 := Nat.lt_of_not_le fun z => absurd (h.2 z) (by decide)
    exact ⟨rfl, by omega⟩
  · left; rw [c] at h
    have := h.1 rfl
    exact ⟨rfl, by omega⟩
theorem less_iff {a b : Nat} (ha : a < 18446744073709551616) (hb : b < 18446744073709551616) (ra : rung a ≤ infR) (rb : rung b ≤ infR) : (lessN a b = true) ↔ (sr a < sr b ∨ (sr a = sr b ∧ neg a = true ∧ ¬ neg b = true)) := by
  unfold lessN keyN
  rw [decide_eq_true_eq, if_neg (show ¬ infR < rung a by omega), if_neg (show ¬ infR < rung b by omega)]
  unfold sr
  rcases neg_or ha with ⟨c1, h1⟩ | ⟨c1, h1⟩ <;> rcases neg_or hb with ⟨c2, h2⟩ | ⟨c2, h2⟩
  all_goals rw [c1, c2]
  all_goals simp only [if_true, if_false, Bool.false_eq_true, not_true, not_false_iff, and_true, and_false, or_false, true_and]
  all_goals omega
theorem less_irr (a : Nat) : lessN a a = false := by
  unfold lessN; rw [decide_eq_false_iff_not]; omega
theorem less_asym {a b : Nat} (h : lessN a b = true) : lessN b a = false := by
  unfold lessN at *; rw [decide_eq_true_eq] at h; rw [decide_eq_false_iff_not]; omega
theorem less_trans {a b c : Nat} (h : lessN a b = true) (h2 : lessN b c = true) : lessN a c = true := by
  unfold lessN at *; rw [decide_eq_true_eq] at *; omega
theorem less_total {a b : Nat} (hab : a ≠ b) (ha : a < 18446744073709551616) (hb : b < 18446744073709551616) (hn : ¬ (infR < rung a ∧ infR < rung b)) : lessN a b = true ∨ lessN b a = true := by
  unfold lessN keyN
  rw [decide_eq_true_eq, decide_eq_true_eq]
  by_cases c1 : infR < rung a
  · have c2 : ¬ infR < rung b := fun z => hn ⟨c1, z⟩
    rw [if_pos c1, if_neg c2]
    rcases neg_or hb with ⟨d2, h2⟩ | ⟨d2, h2⟩
    all_goals rw [d2]
    all_goals simp only [if_true, if_false, Bool.false_eq_true]
    all_goals omega
  rw [if_neg c1]
  by_cases c2 : infR < rung b
  · rw [if_pos c2]
    rcases neg_or ha with ⟨d2, h2⟩ | ⟨d2, h2⟩
    all_goals rw [d2]
    all_goals simp only [if_true, if_false, Bool.false_eq_true]
    all_goals omega
  rw [if_neg c2]
  rcases neg_or ha with ⟨d1, h1⟩ | ⟨d1, h1⟩ <;> rcases neg_or hb with ⟨d2, h2⟩ | ⟨d2, h2⟩
  all_goals rw [d1, d2]
  all_goals simp only [if_true, if_false, Bool.false_eq_true, true_and]
  all_goals omega
theorem next_sr {a : Nat} (ha : a < 18446744073709551616) (h : (nextN a).2 = 0) : rung a ≤ infR ∧ rung (nextN a).1 ≤ infR ∧ sr (nextN a).1 = sr a + 1 ∧ (nextN a).1 < 18446744073709551616 := by
  unfold nextN at *
  have na := neg_iff ha
  have e1 : rung a = a % 9223372036854775808 := rfl
  by_cases c1 : infR < rung a ∨ a = infR
  · rw [if_pos c1] at h; exact absurd h (by decide)
  · rw [if_neg c1] at h ⊢
    by_cases c2 : rung a = 0
    · rw [if_pos c2]
      have hs : sr a = 0 := by unfold sr; rw [c2]; split <;> rfl
      refine ⟨by omega, by decide, ?_, by decide⟩
      rw [hs]; decide
    · rw [if_neg c2]
      by_cases c3 : neg a = true
      · rw [if_pos c3]
        have h3 := na.1 c3
        dsimp only
        refine ⟨by omega, by unfold rung; omega, ?_, by omega⟩
        have hn : neg (a - 1) = true := (neg_iff (by omega)).2 (by omega)
        unfold sr; rw [if_pos hn, if_pos c3]; unfold rung; omega
      · rw [if_neg c3]
        have h3 : ¬ 9223372036854775808 ≤ a := fun z => c3 (na.2 z)
        dsimp only
        refine ⟨by omega, by unfold rung; omega, ?_, by omega⟩
        have hn : ¬ neg (a + 1) = true := fun z => by have := (neg_iff (show a + 1 < 18446744073709551616 by omega)).1 z; omega
        unfold sr; rw [if_neg hn, if_neg c3]; unfold rung; omega

/-! ### Of and To together -/
theorem told_ok {g : Bool} {n : Nat} (h : (told g n).2 = 0) : n ≤ 1000000000000000000 ∧ (told g n).1 = if g = true then -(n : Int) else (n : Int) := by
  unfold told at *
  split
  · rename_i c; rw [if_pos c] at h; exact absurd h (by decide)
  · exact ⟨by omega, rfl⟩
theorem told_code (g : Bool) (n : Nat) : (told g n).2 = 0 ∨ (told g n).2 = 3 := by unfold told; split <;> simp
theorem of_ok {b : Nat} (h : (ofN b).2 = 0) : rung b < infR ∧ magOf (rung b) ≤ 1000000000000000000 ∧ (ofN b).1 = if neg b = true then -(magOf (rung b) : Int) else (magOf (rung b) : Int) := by
  unfold ofN at *
  split
  · rename_i c; rw [if_pos c] at h; exact absurd h (by decide)
  · rename_i c
    rw [if_neg c] at h
    exact ⟨by omega, (told_ok h).1, (told_ok h).2⟩
theorem rises {a b : Nat} (ha : a < 18446744073709551616) (hb : b < 18446744073709551616) (h1 : (ofN a).2 = 0) (h2 : (ofN b).2 = 0) (h : lessN a b = true) : (ofN a).1 ≤ (ofN b).1 := by
  obtain ⟨a1, a2, a3⟩ := of_ok h1
  obtain ⟨b1, b2, b3⟩ := of_ok h2
  rw [a3, b3]
  rw [less_iff ha hb (by omega) (by omega)] at h
  unfold sr at h
  have m1 := @mag_mono (rung a) (rung b)
  have m2 := @mag_mono (rung b) (rung a)
  by_cases c1 : neg a = true <;> by_cases c2 : neg b = true
  all_goals simp only [c1, c2, if_true, if_false, Bool.false_eq_true, not_true, not_false_iff, and_true, and_false, or_false, true_and, false_and] at *
  · have := m2 (by omega); omega
  · omega
  · omega
  · have := m1 (by omega); omega
theorem back {n : Int} (h1 : -8000000000000000 ≤ n) (h2 : n ≤ 8000000000000000) : ofN (toN n).1 = (n, 0) := by
  obtain ⟨f1, f2, f3, f4, f5, f6⟩ := toN_facts (n := n) (by omega) (by omega)
  unfold ofN
  rw [if_neg (by omega), f6]
  by_cases c0 : n = 0
  · rw [if_pos c0, mag_zero, told_zero, c0]
  · rw [if_neg c0, mag_to (by omega) (by omega)]
    unfold told
    rw [if_neg (by omega)]
    congr 1
    split
    · rename_i c; have := f5.1 c; omega
    · rename_i c; have : ¬ n < 0 := fun z => c (f5.2 z); omega
theorem back_code {n : Int} (h1 : -1000000000000000000 ≤ n) (h2 : n ≤ 1000000000000000000) : (ofN (toN n).1).2 = 0 ∨ (ofN (toN n).1).2 = 3 := by
  obtain ⟨f1, f2, f3, f4, f5, f6⟩ := toN_facts h1 h2
  unfold ofN
  rw [if_neg (by omega)]
  exact told_code _ _
/-- The other sign. -/
def flip (b : Nat) : Nat := if b < 9223372036854775808 then b + 9223372036854775808 else b - 9223372036854775808
theorem flip_facts {b : Nat} (hb : b < 18446744073709551616) : flip b < 18446744073709551616 ∧ rung (flip b) = rung b ∧ (neg (flip b) = true ↔ ¬ neg b = true) := by
  have h1 : flip b < 18446744073709551616 := by unfold flip; split <;> omega
  refine ⟨h1, by unfold rung flip; split <;> omega, ?_⟩
  rw [neg_iff h1, neg_iff hb]; unfold flip; split <;> omega
theorem of_flip {b : Nat} (hb : b < 18446744073709551616) : (ofN (flip b)).2 = (ofN b).2 ∧ (ofN b).1 = -(ofN (flip b)).1 ∧ -1000000000000000000 ≤ (ofN b).1 ∧ (ofN b).1 ≤ 1000000000000000000 := by
  obtain ⟨f1, f2, f3⟩ := flip_facts hb
  unfold ofN
  rw [f2]
  split
  · exact ⟨rfl, rfl, by decide, by decide⟩
  · unfold told
    split
    · exact ⟨rfl, rfl, by decide, by decide⟩
    · dsimp only
      by_cases c : neg b = true
      · rw [if_neg (show ¬ neg (flip b) = true from fun z => f3.1 z c), if_pos c]; omega
      · rw [if_pos (f3.2 c), if_neg c]; omega
theorem to_flip {n : Int} (h0 : n ≠ 0) : (toN (-n)).2 = (toN n).2 ∧ ((toN n).2 = 0 → (toN n).1 = flip (toN (-n)).1) := by
  by_cases c : -1000000000000000000 ≤ n ∧ n ≤ 1000000000000000000
  · obtain ⟨r1, r2⟩ := toMag_range (s := n.natAbs) (by omega) (by omega)
    unfold toN
    rw [Int.natAbs_neg, if_neg (show ¬ (-n < -1000000000000000000 ∨ 1000000000000000000 < -n) by omega), if_neg (show ¬ -n = 0 by omega), if_neg (show ¬ (n < -1000000000000000000 ∨ 1000000000000000000 < n) by omega), if_neg h0]
    refine ⟨rfl, fun _ => ?_⟩
    dsimp only
    unfold flip
    by_cases c1 : n < 0
    · rw [if_pos c1, if_neg (show ¬ -n < 0 by omega), if_pos (show 0 + toMag n.natAbs < 9223372036854775808 by omega)]; omega
    · rw [if_neg c1, if_pos (show -n < 0 by omega), if_neg (show ¬ 9223372036854775808 + toMag n.natAbs < 9223372036854775808 by omega)]; omega
  · unfold toN
    rw [if_pos (show -n < -1000000000000000000 ∨ 1000000000000000000 < -n by omega), if_pos (show n < -1000000000000000000 ∨ 1000000000000000000 < n by omega)]
    exact ⟨rfl, fun h => absurd h (by decide)⟩
end Go.Proofs.Ytfaoilalhneijaa.FY
namespace Go.Proofs.Ytfaoilalhneijaa.FZ
open Go Go.RowKit FO FB FK FV FL FOf FM FTo FTr FTc FTd FTe FX FY
open Go.Proofs.Ytfaoilalhneijaa.PG Go.Proofs.YtfaoilalhneijaaW.PrintWords Go.Proofs.YtfaoilalhneijaaW.PrintMore

/-! ### The functions' closed forms, as they are used behind a call: at bits of 64 -/
def kindC (a : Nat) : Option Int := if a < 18446744073709551616 then some (kindN (rung a)) else none
def ofC (a : Nat) : Option (Int × Int) := if a < 18446744073709551616 then some (ofN a) else none
def nextC (a : Nat) : Option (Nat × Int) := if a < 18446744073709551616 then some (nextN a) else none
def lessC (a b : Nat) : Option Bool := if a < 18446744073709551616 ∧ b < 18446744073709551616 then some (lessN a b) else none
def kindI (a : Int) : Option Int := if 0 ≤ a ∧ a < 18446744073709551616 then some (kindN (rung a.toNat)) else none
def ofI (a : Int) : Option (Int × Int) := if 0 ≤ a ∧ a < 18446744073709551616 then some (ofN a.toNat) else none
def nextI (a : Int) : Option (Int × Int) := if 0 ≤ a ∧ a < 18446744073709551616 then some (toI (nextN a.toNat)) else none
def lessI (a b : Int) : Option Bool := if (0 ≤ a ∧ a < 18446744073709551616) ∧ 0 ≤ b ∧ b < 18446744073709551616 then some (lessN a.toNat b.toNat) else none
theorem kind_c {a : Nat} {r : Int} (h : kindC a = some r) : real_Kind.f a = some r := by
  unfold kindC at h; split at h
  · rename_i c; rw [kind_eq a c]; exact h
  · exact absurd h (by simp)
theorem of_c {a : Nat} {r : Int × Int} (h : ofC a = some r) : real_Of.f 300 a = some r := by
  unfold ofC at h; split at h
  · rename_i c; rw [show 300 = 100 + 200 by rfl, of_eq _ a c]; exact h
  · exact absurd h (by simp)
theorem next_c {a : Nat} {r : Nat × Int} (h : nextC a = some r) : real_Next.f 300 a = some r := by
  unfold nextC at h; split at h
  · rename_i c; rw [show 300 = 299 + 1 by rfl, next_eq _ a c]; exact h
  · exact absurd h (by simp)
theorem less_c {a b : Nat} {r : Bool} (h : lessC a b = some r) : real_Less.f a b = some r := by
  unfold lessC at h; split at h
  · rename_i c; rw [less_eq a b c.1 c.2]; exact h
  · exact absurd h (by simp)
theorem kind_i {a : Int} {r : Int} (h : kindI a = some r) : foolscapref02_Kind.f 300 a = some r := by
  unfold kindI at h; split at h
  · rename_i c; obtain ⟨n, rfl⟩ := Int.eq_ofNat_of_zero_le c.1
    rw [show 300 = 298 + 2 by rfl, kindR_eq _ n (by omega)]; exact h
  · exact absurd h (by simp)
theorem of_i {a : Int} {r : Int × Int} (h : ofI a = some r) : foolscapref02_Of.f 300 a = some r := by
  unfold ofI at h; split at h
  · rename_i c; obtain ⟨n, rfl⟩ := Int.eq_ofNat_of_zero_le c.1
    rw [show 300 = 100 + 200 by rfl, refOf_eq _ n (by omega)]; exact h
  · exact absurd h (by simp)
theorem next_i {a : Int} {r : Int × Int} (h : nextI a = some r) : foolscapref02_Next.f 300 a = some r := by
  unfold nextI at h; split at h
  · rename_i c; obtain ⟨n, rfl⟩ := Int.eq_ofNat_of_zero_le c.1
    rw [show 300 = 296 + 4 by rfl, refNext_eq _ n (by omega)]; exact h
  · exact absurd h (by simp)
theorem less_i {a b : Int} {r : Bool} (h : lessI a b = some r) : foolscapref02_Less.f 300 a b = some r := by
  unfold lessI at h; split at h
  · rename_i c
    obtain ⟨n, rfl⟩ := Int.eq_ofNat_of_zero_le c.1.1
    obtain ⟨m, rfl⟩ := Int.eq_ofNat_of_zero_le c.2.1
    rw [show 300 = 298 + 2 by rfl, lessR_eq _ n m (by omega) (by omega)]; exact h
  · exact absurd h (by simp)
end Go.Proofs.Ytfaoilalhneijaa.FZ
