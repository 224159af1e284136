/- Chapter 15, powers, roots, factorials: what the printed functions come to, in plain numbers. -/
import Derived.Laws.BitsLemmas
import Derived.Laws.Bits64
import Derived.Laws.Bits64b
import Derived.Lib.BitFns
import Derived.Test.YtbgiehmpdligdaaPWx
set_option linter.unusedSimpArgs false
set_option linter.unusedVariables false
/- Along a power's chain the word of num.Mul never wraps: no program in sight. The numbers are those of nowrap.py. -/
namespace Go.Proofs.Ytbgiehmpdligdaa.NW

/-- x millionths of millionths in millionths, half to even. -/
def rnd (x : Nat) : Nat := if x % 1000000 > 1000000 - x % 1000000 ∨ (x % 1000000 = 1000000 - x % 1000000 ∧ x / 1000000 % 2 = 1) then x / 1000000 + 1 else x / 1000000
/-- The (m + 1)-th power of n, rounded at each step. -/
def pw (n : Nat) : Nat → Nat
  | 0 => n
  | m + 1 => rnd (pw n m * n)
theorem rnd_mono {x y : Nat} (h : x ≤ y) : rnd x ≤ rnd y := by
  unfold rnd
  split <;> split <;> omega
theorem pw_mono {a b : Nat} (h : a ≤ b) : ∀ m, pw a m ≤ pw b m
  | 0 => h
  | m + 1 => rnd_mono (Nat.mul_le_mul (pw_mono h m) h)
theorem prod_mono {a b : Nat} (h : a ≤ b) (m : Nat) : pw a m * a ≤ pw b m * b := Nat.mul_le_mul (pw_mono h m) h
/-- Where the quotient is 2^64 - 1 and is rounded up. -/
def Wraps (x : Nat) : Prop := 18446744073709551615500000 ≤ x ∧ x < 18446744073709551616000000
theorem cross (m n0 : Nat) (h0 : pw n0 m * n0 < 18446744073709551615500000) (h1 : 18446744073709551616000000 ≤ pw (n0 + 1) m * (n0 + 1)) (n : Nat) : ¬ Wraps (pw n m * n) := by
  intro w
  rcases Nat.lt_or_ge n0 n with z | z
  · exact absurd (Nat.lt_of_lt_of_le w.2 (Nat.le_trans h1 (prod_mono z m))) (Nat.lt_irrefl _)
  · exact absurd (Nat.lt_of_le_of_lt (Nat.le_trans w.1 (prod_mono z m)) h0) (Nat.lt_irrefl _)
theorem never (n m : Nat) (h : ∀ i, i ≤ m → pw n i ≤ 1000000000000000000) : ¬ Wraps (pw n m * n) := by
  rcases Nat.lt_or_ge m 9 with z | z
  · rcases m with _ | _ | _ | _ | _ | _ | _ | _ | _ | m
    · exact cross 0 4294967295999 (by decide +kernel) (by decide +kernel) n
    · exact cross 1 26422459496 (by decide +kernel) (by decide +kernel) n
    · exact cross 2 2072430287 (by decide +kernel) (by decide +kernel) n
    · exact cross 3 449970398 (by decide +kernel) (by decide +kernel) n
    · exact cross 4 162549867 (by decide +kernel) (by decide +kernel) n
    · exact cross 5 78547323 (by decide +kernel) (by decide +kernel) n
    · exact cross 6 45523952 (by decide +kernel) (by decide +kernel) n
    · exact cross 7 29784552 (by decide +kernel) (by decide +kernel) n
    · exact cross 8 21212505 (by decide +kernel) (by decide +kernel) n
    · omega
  · have h9 := h 9 z
    have hn : n ≤ 15848931 := by
      rcases Nat.lt_or_ge 15848931 n with y | y
      · have := pw_mono (show 15848932 ≤ n from y) 9
        have h2 : 1000000000000000000 < pw 15848932 9 := by decide +kernel
        omega
      · exact y
    intro w
    have := Nat.mul_le_mul (h m (Nat.le_refl m)) hn
    have := w.1
    omega
end Go.Proofs.Ytbgiehmpdligdaa.NW
namespace Go.Proofs.Ytbgiehmpdligdaa.MA
open Go Go.RowKit Go.Proofs.Ytbgiehmpdligdaa.PW
open Go.Proofs.YtbgiehmpdligdaaW.PrintWords Go.Proofs.YtbgiehmpdligdaaW.PrintMore

def fits (n : Int) : Prop := -1000000000000000000 ≤ n ∧ n ≤ 1000000000000000000
instance (n : Int) : Decidable (fits n) := inferInstanceAs (Decidable (_ ∧ _))
theorem fits_eq (n : Int) : num_Fits.f n = some (decide (fits n)) := by
  unfold num_Fits.f
  by_cases h : n ≥ -1000000000000000000
  · rw [if_pos h]; exact congrArg some (decide_eq_decide.2 ⟨fun z => ⟨h, z⟩, fun z => z.2⟩)
  · rw [if_neg h]; exact congrArg some (decide_eq_false (fun z : fits n => h z.1)).symm
theorem rfits_eq (n : Int) : foolscapref01_Fits.f n = some (decide (fits n)) := by
  unfold foolscapref01_Fits.f
  by_cases h : n ≥ -1000000000000000000
  · rw [if_pos h]; exact congrArg some (decide_eq_decide.2 ⟨fun z => ⟨h, z⟩, fun z => z.2⟩)
  · rw [if_neg h]; exact congrArg some (decide_eq_false (fun z : fits n => h z.1)).symm
theorem size_eq (n : Int) (h1 : -9223372036854775808 < n) (h2 : n < 9223372036854775808) : mx n (wrap64 (-n)) = (n.natAbs : Int) := by
  unfold mx wrap64; split <;> omega
theorem msize_eq (n : Int) (h1 : -9223372036854775808 < n) (h2 : n < 9223372036854775808) : maths_size.f n = some (n.natAbs : Int) := by
  unfold maths_size.f; rw [size_eq n h1 h2]
theorem rsize_eq (n : Int) (h1 : -9223372036854775808 < n) (h2 : n < 9223372036854775808) : foolscapref01_Size.f n = some (n.natAbs : Int) := by
  unfold foolscapref01_Size.f; rw [size_eq n h1 h2]
/-! ### P15.2, P15.3 -/
end Go.Proofs.Ytbgiehmpdligdaa.MA
namespace Go.Proofs.Ytbgiehmpdligdaa.MB
open Go Go.RowKit Go.Proofs.Ytbgiehmpdligdaa.PW MA
open Go.Proofs.YtbgiehmpdligdaaW.PrintWords Go.Proofs.YtbgiehmpdligdaaW.PrintMore

/-! ### P15.4, P15.5 -/
theorem lives_eq : foolscaplaw15_lives.f 100 = some true := by decide +kernel
end Go.Proofs.Ytbgiehmpdligdaa.MB
namespace Go.Proofs.Ytbgiehmpdligdaa.Knuth

/-- What the correcting loop keeps: q yn1 + r = u, and the true quotient is at most q. -/
structure Inv (B u d yn1 yn0 q r : Nat) : Prop where
  sum : q * yn1 + r = u
  up : u * B + d < (q + 1) * (yn1 * B + yn0)

theorem times_y (B q yn1 yn0 : Nat) : q * (yn1 * B + yn0) = (q * yn1) * B + q * yn0 := by
  rw [Nat.mul_add, Nat.mul_assoc]

theorem test_iff {B u d yn1 yn0 q r : Nat} (h : q * yn1 + r = u) : q * yn0 > B * r + d ↔ u * B + d < q * (yn1 * B + yn0) := by
  rw [times_y, ← h, Nat.add_mul]
  have : r * B = B * r := Nat.mul_comm _ _
  omega

theorem quot {B u d yn1 yn0 q r : Nat} (h : Inv B u d yn1 yn0 q r) (h1 : q * (yn1 * B + yn0) ≤ u * B + d) : (u * B + d) / (yn1 * B + yn0) = q :=
  Nat.div_eq_of_lt_le h1 h.up

theorem quot_of_le {B u d yn1 yn0 q r : Nat} (h : Inv B u d yn1 yn0 q r) (h1 : q ≤ (u * B + d) / (yn1 * B + yn0)) : (u * B + d) / (yn1 * B + yn0) = q :=
  quot h (Nat.le_trans (Nat.mul_le_mul_right _ h1) (Nat.div_mul_le_self _ _))

/-- Behind the loop by its test. -/
theorem done_test {B u d yn1 yn0 q r : Nat} (h : Inv B u d yn1 yn0 q r) (ht : ¬ q * yn0 > B * r + d) : (u * B + d) / (yn1 * B + yn0) = q :=
  quot h (by have := (not_congr (test_iff (d := d) (yn0 := yn0) (B := B) h.sum)).mp ht; omega)

/-- Behind the loop by its break. -/
theorem done_break {B u d yn1 yn0 q r : Nat} (h : Inv B u d yn1 yn0 q r) (hr : B ≤ r) (hq : q ≤ B) (h0 : yn0 ≤ B) : (u * B + d) / (yn1 * B + yn0) = q :=
  quot h (by
    rw [times_y, ← h.sum, Nat.add_mul]
    have h1 : q * yn0 ≤ B * B := Nat.mul_le_mul hq h0
    have h2 : B * B ≤ r * B := Nat.mul_le_mul hr (Nat.le_refl _)
    omega)

theorem next {B u d yn1 yn0 q r : Nat} (h : Inv B u d yn1 yn0 (q + 1) r) (ht : u * B + d < (q + 1) * (yn1 * B + yn0)) : Inv B u d yn1 yn0 q (r + yn1) :=
  ⟨by have := h.sum; rw [Nat.succ_mul] at this; omega, ht⟩

theorem big {B u d yn1 yn0 q : Nat} (hq : B ≤ q) (hu : u < yn1 * B + yn0) (hd : d < B) : u * B + d < q * (yn1 * B + yn0) := by
  have h1 : (u + 1) * B ≤ (yn1 * B + yn0) * q := Nat.mul_le_mul hu hq
  rw [Nat.add_mul] at h1
  rw [Nat.mul_comm q]
  omega

theorem start {B u d yn1 yn0 : Nat} (h1 : 0 < yn1) (hd : d < B) : Inv B u d yn1 yn0 (u / yn1) (u - u / yn1 * yn1) := by
  have hle : u / yn1 * yn1 ≤ u := Nat.div_mul_le_self _ _
  refine ⟨by omega, ?_⟩
  have hlt : u < (u / yn1 + 1) * yn1 := by
    have := Nat.lt_div_mul_add (a := u) h1
    rw [Nat.add_mul]; omega
  have h2 : (u + 1) * B ≤ ((u / yn1 + 1) * yn1) * B := Nat.mul_le_mul hlt (Nat.le_refl _)
  rw [times_y]
  rw [Nat.add_mul] at h2
  have : 0 ≤ (u / yn1 + 1) * yn0 := Nat.zero_le _
  omega

theorem start_le {B u yn1 yn0 : Nat} (h1 : 0 < yn1) (hu : u < yn1 * B + yn0) (h0 : yn0 < 2 * yn1) : u / yn1 ≤ B + 1 := by
  have : u < (B + 2) * yn1 := by
    rw [Nat.add_mul, Nat.mul_comm B]; omega
  have := (Nat.div_lt_iff_lt_mul h1).mpr this
  omega
theorem long (A d B Y : Nat) (hY : 0 < Y) : (A * B + d) / Y = A / Y * B + (A % Y * B + d) / Y ∧ (A * B + d) % Y = (A % Y * B + d) % Y := by
  have hdm := Nat.div_add_mod A Y
  generalize A / Y = q at *
  generalize A % Y = r at *
  have : A * B + d = (r * B + d) + Y * (q * B) := by
    rw [← hdm, Nat.add_mul, Nat.mul_assoc]; omega
  rw [this, Nat.add_mul_div_left _ _ hY, Nat.add_mul_mod_self_left]
  exact ⟨by omega, rfl⟩
end Go.Proofs.Ytbgiehmpdligdaa.Knuth
namespace Go.Proofs.Ytbgiehmpdligdaa.DW
open Go.RowKit Go.Proofs.Ytbgiehmpdligdaa Go.Proofs.Ytbgiehmpdligdaa.PW Go.Proofs.YtbgiehmpdligdaaW.PrintWords Go.Proofs.YtbgiehmpdligdaaW.PrintLast Go.Proofs.YtbgiehmpdligdaaW.PrintMore
theorem wrapn (n : Nat) (h : n < 18446744073709551616) : IntKind.u64.wrap (n : Int) = n := by rw [IntKind.wrap_u64]; omega
theorem wrapz (z : Int) (n : Nat) (e : z = n) (h : n < 18446744073709551616) : IntKind.u64.wrap z = n := by rw [e]; exact wrapn n h

theorem l0_eq (Y s yn1 yn0 u d un0 : Nat) (R : Int × Int) (n : Nat)
    (hY : Y = yn1 * 4294967296 + yn0) (h1 : yn1 < 4294967296) (h0 : yn0 < 4294967296) (hd : d < 4294967296) (hu : u < Y)
    (hk : ∀ k, n ≤ k → bits_Div64.j2 k Y s yn1 yn0 u d un0 (((u * 4294967296 + d) / Y : Nat) : Int) = some R) :
    ∀ m q r k, Knuth.Inv 4294967296 u d yn1 yn0 q r → q ≤ 4294967296 + 1 → r < 4294967296 → 4294967296 ≤ r + m * yn1 → n + 2 * m + 2 ≤ k →
      bits_Div64.l0 k Y s yn1 yn0 u d un0 q r = some R := by
  intro m
  induction m with
  | zero =>
    intro q r k hi hq hr hm hkk
    omega
  | succ m ih =>
    intro q r k hi hq hr hm hkk
    obtain ⟨k, rfl⟩ : ∃ j, k = j + 2 := ⟨k - 2, by omega⟩
    -- the body, once the test is decided
    have body : u * 4294967296 + d < q * Y → bits_Div64.j1 (k + 1) Y s yn1 yn0 u d un0 q r true = some R := by
      intro ht
      obtain ⟨q, rfl⟩ : ∃ j, q = j + 1 := by
        refine ⟨q - 1, ?_⟩
        rcases Nat.eq_zero_or_pos q with h | h
        · subst h; simp at ht
        · omega
      have hi' := Knuth.next hi (by rw [← hY]; exact ht)
      have hlt : (u * 4294967296 + d) / Y < q + 1 := (Nat.div_lt_iff_lt_mul (by omega)).mpr ht
      simp only [bits_Div64.j1]
      rw [if_pos trivial, wrapz _ (r + yn1) (by omega) (by omega), wrapz (((q + 1 : Nat) : Int) - 1) q (by omega) (by omega)]
      by_cases hb : 4294967296 ≤ r + yn1
      · rw [if_pos (by omega)]
        have hQ := Knuth.done_break hi' hb (by omega) (by omega)
        rw [← hY] at hQ
        rw [← hQ]
        exact hk _ (by omega)
      · rw [if_neg (by omega)]
        exact ih q (r + yn1) k hi' (by omega) (by omega) (by rw [Nat.succ_mul] at hm; omega) (by omega)
    simp only [bits_Div64.l0]
    by_cases hb : 4294967296 ≤ q
    · rw [if_pos (by omega)]
      have := Knuth.big (yn1 := yn1) (yn0 := yn0) hb (by rw [← hY]; exact hu) hd
      exact body (by rw [hY]; exact this)
    · rw [if_neg (by omega)]
      have a1 : q * yn0 < 18446744073709551616 := by
        have : q * yn0 ≤ (4294967296 - 1) * (4294967296 - 1) := Nat.mul_le_mul (by omega) (by omega)
        omega
      rw [wrapz _ (q * yn0) (Int.natCast_mul q yn0).symm a1, wrapz (4294967296 * (r : Int)) (4294967296 * r) (by omega) (by omega), wrapz _ (4294967296 * r + d) (by omega) (by omega)]
      by_cases ht : q * yn0 > 4294967296 * r + d
      · rw [decide_eq_true (by omega)]
        rw [Knuth.test_iff hi.sum, ← hY] at ht
        exact body ht
      · rw [decide_eq_false (by omega)]
        simp only [bits_Div64.j1]
        have hQ := Knuth.done_test hi ht
        rw [← hY] at hQ
        rw [if_neg (by decide), ← hQ]
        exact hk _ (by omega)

theorem rem_eq (Y u d : Nat) (hY0 : 0 < Y) (hY : Y < 18446744073709551616) :
    IntKind.u64.wrap (IntKind.u64.wrap (IntKind.u64.wrap ((u : Int) * 4294967296) + (d : Int)) - IntKind.u64.wrap ((((u * 4294967296 + d) / Y : Nat) : Int) * (Y : Int))) = (((u * 4294967296 + d) % Y : Nat) : Int) := by
  have hdm := Nat.div_add_mod (u * 4294967296 + d) Y
  have hlt : (u * 4294967296 + d) % Y < Y := Nat.mod_lt _ hY0
  generalize (u * 4294967296 + d) / Y = Q at *
  generalize (u * 4294967296 + d) % Y = R at *
  have e1 : (Q : Int) * (Y : Int) = ((Y * Q : Nat) : Int) := by rw [Int.natCast_mul, Int.mul_comm]
  rw [e1]
  simp only [IntKind.wrap_u64]
  omega

theorem fin_eq (Y s u d q1 : Nat) (_hd : d < 4294967296) (hu : u < Y) (hY : Y < 18446744073709551616) (hq : q1 < 4294967296) (hQ : (u * 4294967296 + d) / Y < 4294967296) (z : Int) (hz : z = (((u * 4294967296 + d) / Y : Nat) : Int)) :
    (IntKind.u64.wrap (IntKind.u64.wrap ((q1 : Int) * 4294967296) + z), shr .u64 (IntKind.u64.wrap (IntKind.u64.wrap (IntKind.u64.wrap ((u : Int) * 4294967296) + (d : Int)) - IntKind.u64.wrap (z * (Y : Int)))) (s : Int))
      = (((q1 * 4294967296 + (u * 4294967296 + d) / Y : Nat) : Int), (((u * 4294967296 + d) % Y / 2 ^ min s 64 : Nat) : Int)) := by
  have hdm := Nat.div_add_mod (u * 4294967296 + d) Y
  have hlt : (u * 4294967296 + d) % Y < Y := Nat.mod_lt _ (by omega)
  generalize hQQ : (u * 4294967296 + d) / Y = Q at *
  generalize hRR : (u * 4294967296 + d) % Y = R at *
  subst hz
  have e1 : (Q : Int) * (Y : Int) = ((Y * Q : Nat) : Int) := by rw [Int.natCast_mul, Int.mul_comm]
  refine Prod.ext ?_ ?_
  · simp only [IntKind.wrap_u64]
    omega
  · simp only
    rw [e1]
    have e2 : IntKind.u64.wrap (IntKind.u64.wrap (IntKind.u64.wrap ((u : Int) * 4294967296) + (d : Int)) - IntKind.u64.wrap ((Y * Q : Nat) : Int)) = (R : Int) := by
      simp only [IntKind.wrap_u64]
      omega
    rw [e2]
    unfold shr
    rw [show ((s : Int).toNat) = s from rfl, show IntKind.u64.bits = 64 from rfl, Int.natCast_ediv, Int.natCast_pow]
    rfl

theorem l1_eq (Y s yn1 yn0 u d q1 : Nat)
    (hY : Y = yn1 * 4294967296 + yn0) (h1 : yn1 < 4294967296) (h0 : yn0 < 4294967296) (hd : d < 4294967296) (hu : u < Y) (hq1 : q1 < 4294967296) :
    ∀ m q r k, Knuth.Inv 4294967296 u d yn1 yn0 q r → q ≤ 4294967296 + 1 → r < 4294967296 → 4294967296 ≤ r + m * yn1 → 2 * m + 2 ≤ k →
      bits_Div64.l1 k Y s yn1 yn0 d q1 r u q = some (((q1 * 4294967296 + (u * 4294967296 + d) / Y : Nat) : Int), (((u * 4294967296 + d) % Y / 2 ^ min s 64 : Nat) : Int)) := by
  have hY2 : Y < 18446744073709551616 := by omega
  have hQB : (u * 4294967296 + d) / Y < 4294967296 := (Nat.div_lt_iff_lt_mul (by omega)).mpr (by
    have := Knuth.big (yn1 := yn1) (yn0 := yn0) (Nat.le_refl 4294967296) (by rw [← hY]; exact hu) hd
    rw [← hY] at this; exact this)
  have fin : ∀ z : Int, z = (((u * 4294967296 + d) / Y : Nat) : Int) → _ := fun z hz => fin_eq Y s u d q1 hd hu hY2 hq1 hQB z hz
  intro m
  induction m with
  | zero =>
    intro q r k hi hq hr hm hkk
    omega
  | succ m ih =>
    intro q r k hi hq hr hm hkk
    obtain ⟨k, rfl⟩ : ∃ j, k = j + 2 := ⟨k - 2, by omega⟩
    have body : u * 4294967296 + d < q * Y → bits_Div64.j4 (k + 1) Y s yn1 yn0 d q1 r u q true = some (((q1 * 4294967296 + (u * 4294967296 + d) / Y : Nat) : Int), (((u * 4294967296 + d) % Y / 2 ^ min s 64 : Nat) : Int)) := by
      intro ht
      obtain ⟨q, rfl⟩ : ∃ j, q = j + 1 := by
        refine ⟨q - 1, ?_⟩
        rcases Nat.eq_zero_or_pos q with h | h
        · rw [h] at ht; simp at ht
        · omega
      have hi' := Knuth.next hi (by rw [← hY]; exact ht)
      have hlt : (u * 4294967296 + d) / Y < q + 1 := (Nat.div_lt_iff_lt_mul (by omega)).mpr ht
      simp only [bits_Div64.j4]
      rw [if_pos trivial, wrapz _ (r + yn1) (by omega) (by omega), wrapz (((q + 1 : Nat) : Int) - 1) q (by omega) (by omega)]
      by_cases hb : 4294967296 ≤ r + yn1
      · rw [if_pos (by omega), if_pos (by omega)]
        have hQ := Knuth.done_break hi' hb (by omega) (by omega)
        rw [← hY] at hQ
        rw [fin q (by rw [hQ])]
      · rw [if_neg (by omega)]
        exact ih q (r + yn1) k hi' (by omega) (by omega) (by rw [Nat.succ_mul] at hm; omega) (by omega)
    simp only [bits_Div64.l1]
    by_cases hb : 4294967296 ≤ q
    · rw [if_pos (by omega)]
      have := Knuth.big (yn1 := yn1) (yn0 := yn0) hb (by rw [← hY]; exact hu) hd
      exact body (by rw [hY]; exact this)
    · rw [if_neg (by omega)]
      have a1 : q * yn0 < 18446744073709551616 := by
        have : q * yn0 ≤ (4294967296 - 1) * (4294967296 - 1) := Nat.mul_le_mul (by omega) (by omega)
        omega
      rw [wrapz _ (q * yn0) (Int.natCast_mul q yn0).symm a1, wrapz (4294967296 * (r : Int)) (4294967296 * r) (by omega) (by omega), wrapz _ (4294967296 * r + d) (by omega) (by omega)]
      by_cases ht : q * yn0 > 4294967296 * r + d
      · rw [decide_eq_true (by omega)]
        rw [Knuth.test_iff hi.sum, ← hY] at ht
        exact body ht
      · rw [decide_eq_false (by omega)]
        simp only [bits_Div64.j4]
        have hQ := Knuth.done_test hi ht
        rw [← hY] at hQ
        rw [if_neg (by decide), if_pos (by omega), fin q (by rw [hQ])]

theorem start_q (u yn1 yn0 : Nat) (hy : yn1 * 4294967296 + yn0 < 18446744073709551616) (h1 : 2147483648 ≤ yn1) (h0 : yn0 < 4294967296) (hu : u < yn1 * 4294967296 + yn0) :
    u / yn1 ≤ 4294967296 + 1 ∧ u - u / yn1 * yn1 < 4294967296 ∧ u / yn1 * yn1 ≤ u := by
  refine ⟨Knuth.start_le (by omega) hu (by omega), ?_, Nat.div_mul_le_self _ _⟩
  have := Nat.mod_lt u (show yn1 > 0 by omega)
  have := Nat.div_add_mod u yn1
  rw [Nat.mul_comm] at this
  omega

theorem phase2 (Y s yn1 yn0 un0 R Q k : Nat) (hY : Y < 18446744073709551616) (hYe : Y = yn1 * 4294967296 + yn0) (hn1 : yn1 < 4294967296) (hn1' : 2147483648 ≤ yn1) (hn0 : yn0 < 4294967296) (h0 : un0 < 4294967296) (hr : R < Y) (hq : Q < 4294967296) (hk : 10 ≤ k) :
    bits_Div64.l1 k Y s yn1 yn0 un0 Q (IntKind.u64.wrap ((R : Int) - IntKind.u64.wrap (IntKind.u64.wrap (Int.tdiv (R : Int) (yn1 : Int)) * (yn1 : Int)))) R (IntKind.u64.wrap (Int.tdiv (R : Int) (yn1 : Int)))
      = some (((Q * 4294967296 + (R * 4294967296 + un0) / Y : Nat) : Int), (((R * 4294967296 + un0) % Y / 2 ^ min s 64 : Nat) : Int)) := by
  have hs2 := start_q R yn1 yn0 (by omega) hn1' hn0 (by omega)
  have w2 : IntKind.u64.wrap (Int.tdiv (R : Int) (yn1 : Int)) = ((R / yn1 : Nat) : Int) := by
    rw [← Int.ofNat_tdiv]
    exact wrapn _ (by have := hs2.1; omega)
  rw [w2]
  have w3 : IntKind.u64.wrap (((R / yn1 : Nat) : Int) * (yn1 : Int)) = ((R / yn1 * yn1 : Nat) : Int) := wrapz _ _ (by rw [Int.natCast_mul]) (by have := hs2.2.2; omega)
  rw [w3]
  have w4 : IntKind.u64.wrap ((R : Int) - ((R / yn1 * yn1 : Nat) : Int)) = ((R - R / yn1 * yn1 : Nat) : Int) := wrapz _ _ (by have := hs2.2.2; omega) (by omega)
  rw [w4]
  have hup2 := (Knuth.start (u := R) (d := un0) (yn1 := yn1) (yn0 := yn0) (B := 4294967296) (by omega) h0)
  exact l1_eq Y s yn1 yn0 R un0 Q hYe hn1 hn0 h0 hr hq 2 _ _ k hup2 hs2.1 hs2.2.1 (by omega) (by omega)

/-- Behind normalizing: both digits. -/
theorem norm_eq (Y s u un1 un0 : Nat) (hY : Y < 18446744073709551616) (hY2 : 9223372036854775808 ≤ Y) (h1 : un1 < 4294967296) (h0 : un0 < 4294967296) (hu : u < Y) (k : Nat) (hk : 20 ≤ k) :
    bits_Div64.l0 k Y s ((Y / 4294967296 : Nat) : Int) ((Y % 4294967296 : Nat) : Int) u un1 un0 ((u / (Y / 4294967296) : Nat) : Int) ((u - u / (Y / 4294967296) * (Y / 4294967296) : Nat) : Int)
      = some (((((u * 4294967296 + un1) * 4294967296 + un0) / Y : Nat) : Int), ((((u * 4294967296 + un1) * 4294967296 + un0) % Y / 2 ^ min s 64 : Nat) : Int)) := by
  have hYe : Y = Y / 4294967296 * 4294967296 + Y % 4294967296 := by omega
  generalize hy1 : Y / 4294967296 = yn1 at *
  generalize hy0 : Y % 4294967296 = yn0 at *
  have hn1 : yn1 < 4294967296 := by omega
  have hn1' : 2147483648 ≤ yn1 := by omega
  have hn0 : yn0 < 4294967296 := by omega
  have e1 : ((u * 4294967296 + un1) * 4294967296 + un0) / Y = (u * 4294967296 + un1) / Y * 4294967296 + ((u * 4294967296 + un1) % Y * 4294967296 + un0) / Y ∧
      ((u * 4294967296 + un1) * 4294967296 + un0) % Y = ((u * 4294967296 + un1) % Y * 4294967296 + un0) % Y := by
    exact Knuth.long (u * 4294967296 + un1) un0 4294967296 Y (by omega)
  have hs := start_q u yn1 yn0 (by omega) hn1' hn0 (by omega)
  have hr : (u * 4294967296 + un1) % Y < Y := Nat.mod_lt _ (by omega)
  have hq : (u * 4294967296 + un1) / Y < 4294967296 := (Nat.div_lt_iff_lt_mul (by omega)).mpr (by
    have := Knuth.big (yn1 := yn1) (yn0 := yn0) (Nat.le_refl 4294967296) (by rw [← hYe]; exact hu) h1
    rw [← hYe] at this; exact this)
  have hup := (Knuth.start (u := u) (d := un1) (yn1 := yn1) (yn0 := yn0) (B := 4294967296) (by omega) h1)
  refine l0_eq Y s yn1 yn0 u un1 un0 _ 12 hYe hn1 hn0 h1 hu ?_ 2 _ _ k hup hs.1 hs.2.1 ?_ (by omega)
  · intro k hk
    obtain ⟨k, rfl⟩ : ∃ j, k = j + 1 := ⟨k - 1, by omega⟩
    simp only [bits_Div64.j2]
    rw [if_neg (by omega)]
    rw [rem_eq Y u un1 (by omega) hY]
    rw [e1.1, e1.2]
    exact phase2 Y s yn1 yn0 un0 _ _ k hY hYe hn1 hn1' hn0 h0 hr hq (by omega)
  · omega
theorem bitLenAux_spec : ∀ f x, x < 2 ^ f → x < 2 ^ Lib.bitLenAux f x ∧ (0 < x → 0 < Lib.bitLenAux f x ∧ 2 ^ (Lib.bitLenAux f x - 1) ≤ x) ∧ Lib.bitLenAux f x ≤ f := by
  intro f
  induction f with
  | zero => intro x h; simp [Lib.bitLenAux] at *; omega
  | succ f ih =>
    intro x h
    rw [Nat.pow_succ] at h
    simp only [Lib.bitLenAux]
    by_cases hx : x = 0
    · rw [if_pos hx]; simp [hx]
    · rw [if_neg hx]
      obtain ⟨a, b, c⟩ := ih (x / 2) (by omega)
      rw [Nat.add_comm 1, Nat.pow_succ]
      refine ⟨by omega, fun _ => ⟨by omega, ?_⟩, by omega⟩
      rw [Nat.add_sub_cancel]
      by_cases h2 : x / 2 = 0
      · rw [h2]
        have : Lib.bitLenAux f 0 = 0 := by cases f <;> simp [Lib.bitLenAux]
        rw [this]; simp; omega
      · obtain ⟨p, q⟩ := b (by omega)
        obtain ⟨n, hn⟩ : ∃ n, Lib.bitLenAux f (x / 2) = n + 1 := ⟨Lib.bitLenAux f (x / 2) - 1, by omega⟩
        rw [hn] at q ⊢
        rw [Nat.add_sub_cancel] at q
        rw [Nat.pow_succ]; omega
theorem bitLen_spec (x : Nat) (h : x < 18446744073709551616) : x < 2 ^ Lib.bitLen x ∧ (0 < x → 0 < Lib.bitLen x ∧ 2 ^ (Lib.bitLen x - 1) ≤ x) ∧ Lib.bitLen x ≤ 64 := bitLenAux_spec 64 x h

theorem andmask (x : Nat) (h : x < 18446744073709551616) : Go.bits .and .u64 (x : Int) 4294967295 = ((x % 4294967296 : Nat) : Int) := by
  have := bits_mask .u64 64 (by decide) (fun n h0 h1 => by rw [IntKind.wrap_u64]; omega) 32 (by decide) (x : Int) (by omega) (by omega)
  rw [show ((2 : Int) ^ 32 - 1) = 4294967295 by decide, show ((2 : Int) ^ 32) = 4294967296 by decide] at this
  rw [this]; omega

theorem last_eq (Y s U W k : Nat) (hY : Y < 18446744073709551616) (hY2 : 9223372036854775808 ≤ Y) (hU : U < Y) (hW : W < 18446744073709551616) (hk : 20 ≤ k) :
    (if ((Y : Int) / 4294967296) = 0 then none else bits_Div64.l0 k Y s ((Y : Int) / 4294967296) ((Y % 4294967296 : Nat) : Int) U ((W : Int) / 4294967296) ((W % 4294967296 : Nat) : Int) (IntKind.u64.wrap (Int.tdiv (U : Int) ((Y : Int) / 4294967296)))
        (IntKind.u64.wrap ((U : Int) - IntKind.u64.wrap (IntKind.u64.wrap (Int.tdiv (U : Int) ((Y : Int) / 4294967296)) * ((Y : Int) / 4294967296)))))
      = some ((((U * 18446744073709551616 + W) / Y : Nat) : Int), (((U * 18446744073709551616 + W) % Y / 2 ^ min s 64 : Nat) : Int)) := by
  rw [if_neg (by omega)]
  have eY : (Y : Int) / 4294967296 = ((Y / 4294967296 : Nat) : Int) := by omega
  have eW : (W : Int) / 4294967296 = ((W / 4294967296 : Nat) : Int) := by omega
  have hs := start_q U (Y / 4294967296) (Y % 4294967296) (by omega) (by omega) (by omega) (by omega)
  rw [eY, eW, ← Int.ofNat_tdiv, wrapn _ (by have := hs.1; omega),
    wrapz (((U / (Y / 4294967296) : Nat) : Int) * ((Y / 4294967296 : Nat) : Int)) (U / (Y / 4294967296) * (Y / 4294967296)) (by rw [Int.natCast_mul]) (by have := hs.2.2; omega),
    wrapz _ (U - U / (Y / 4294967296) * (Y / 4294967296)) (by have := hs.2.2; omega) (by omega)]
  have e : U * 18446744073709551616 + W = (U * 4294967296 + W / 4294967296) * 4294967296 + W % 4294967296 := by omega
  rw [e]
  exact norm_eq Y s U (W / 4294967296) (W % 4294967296) hY hY2 (by omega) (by omega) hU k hk

theorem div64_eq (hi lo y k : Nat) (h1 : hi < y) (hy : y < 18446744073709551616) (hlo : lo < 18446744073709551616) (hk : 20 ≤ k) :
    bits_Div64.f k hi lo y = some ((((hi * 18446744073709551616 + lo) / y : Nat) : Int), (((hi * 18446744073709551616 + lo) % y : Nat) : Int)) := by
  unfold bits_Div64.f
  rw [if_neg (by omega), if_neg (by omega)]
  by_cases h0 : hi = 0
  · rw [if_pos (by omega), h0, Nat.zero_mul, Nat.zero_add, ← Int.ofNat_tdiv, wrapn _ (Nat.lt_of_le_of_lt (Nat.div_le_self _ _) hlo), Int.ofNat_tmod]
  · rw [if_neg (by omega)]
    unfold bits_LeadingZeros64.f bits_Len64.f
    rw [if_pos (by omega), if_pos (by omega)]
    simp only [Option.bind_some, Int.toNat_natCast]
    obtain ⟨hL1, hL2, hL3⟩ := bitLen_spec y hy
    obtain ⟨hL4, hL5⟩ := hL2 (by omega)
    generalize Lib.bitLen y = L at *
    obtain ⟨s, rfl⟩ : ∃ s, L = 64 - s := ⟨64 - L, by omega⟩
    have hs : s ≤ 63 := by omega
    have w0 : wrap64 (64 - ((64 - s : Nat) : Int)) = (s : Int) := by unfold wrap64; omega
    have w1 : IntKind.u64.wrap (s : Int) = (s : Int) := wrapn s (by omega)
    have w2 : IntKind.u64.wrap (64 - (s : Int)) = ((64 - s : Nat) : Int) := wrapz _ _ (by omega) (by omega)
    rw [w0, w1, w2, if_pos (by omega), if_pos (by omega)]
    -- powers
    have p64 : 2 ^ (64 - s) * 2 ^ s = 18446744073709551616 := by rw [← Nat.pow_add]; rw [show 64 - s + s = 64 by omega]
    have p63 : 2 ^ (64 - s - 1) * 2 ^ s = 9223372036854775808 := by rw [← Nat.pow_add]; rw [show 64 - s - 1 + s = 63 by omega]
    have ps : 0 < 2 ^ s := Nat.two_pow_pos s
    have pl : 0 < 2 ^ (64 - s) := Nat.two_pow_pos _
    have hYlt : y * 2 ^ s < 18446744073709551616 := by rw [← p64]; exact Nat.mul_lt_mul_of_pos_right hL1 ps
    have hYge : 9223372036854775808 ≤ y * 2 ^ s := by rw [← p63]; exact Nat.mul_le_mul_right _ hL5
    have hhi : (hi + 1) * 2 ^ s ≤ y * 2 ^ s := Nat.mul_le_mul_right _ h1
    have hlq : lo / 2 ^ (64 - s) < 2 ^ s := by
      rw [Nat.div_lt_iff_lt_mul pl, Nat.mul_comm, p64]; exact hlo
    rw [Nat.add_mul, Nat.one_mul] at hhi
    have sh : ∀ x : Nat, shl .u64 (x : Int) (s : Int) = ((x * 2 ^ s % 18446744073709551616 : Nat) : Int) := by
      intro x
      unfold shl
      rw [IntKind.wrap_u64, show ((s : Int).toNat) = s from rfl, show IntKind.u64.bits = 64 from rfl, Nat.min_eq_left (by omega)]
      have : ((2 : Int) ^ s) = ((2 ^ s : Nat) : Int) := by simp
      rw [this, ← Int.natCast_mul]; omega
    have sr : shr .u64 (lo : Int) ((64 - s : Nat) : Int) = ((lo / 2 ^ (64 - s) : Nat) : Int) := by
      unfold shr
      rw [show (((64 - s : Nat) : Int).toNat) = 64 - s from rfl, show IntKind.u64.bits = 64 from rfl, Nat.min_eq_left (by omega)]
      simp
    rw [sh y, sh hi, sh lo, sr, Nat.mod_eq_of_lt hYlt, Nat.mod_eq_of_lt (a := hi * 2 ^ s) (by omega)]
    have hor : Go.bits .or .u64 ((hi * 2 ^ s : Nat) : Int) ((lo / 2 ^ (64 - s) : Nat) : Int) = ((hi * 2 ^ s + lo / 2 ^ (64 - s) : Nat) : Int) := by
      have hlq2 : lo / 2 ^ (64 - s) < 18446744073709551616 := Nat.lt_of_le_of_lt (Nat.div_le_self _ _) hlo
      have hhi2 : hi * 2 ^ s < 18446744073709551616 := by omega
      have hm : hi * 2 ^ s % 2 ^ s = 0 := Nat.mul_mod_left _ _
      have := bits_join .u64 64 (by decide) (fun n h0 h1 => by rw [IntKind.wrap_u64]; omega) s ((hi * 2 ^ s : Nat) : Int) ((lo / 2 ^ (64 - s) : Nat) : Int) (Int.natCast_nonneg _)
        (by exact_mod_cast hm) (by exact_mod_cast hhi2) (Int.natCast_nonneg _) (by exact_mod_cast hlq) (by exact_mod_cast hlq2)
      rw [this, Int.natCast_add]
    rw [hor, andmask _ hYlt, andmask _ (Nat.mod_lt _ (by omega))]
    -- the low word
    have hun : lo * 2 ^ s = lo / 2 ^ (64 - s) * 18446744073709551616 + lo * 2 ^ s % 18446744073709551616 := by
      have e : lo * 2 ^ s / 18446744073709551616 = lo / 2 ^ (64 - s) := by rw [← p64, Nat.mul_div_mul_right _ _ ps]
      rw [← e]; omega
    have hU : (hi * 18446744073709551616 + lo) * 2 ^ s = (hi * 2 ^ s + lo / 2 ^ (64 - s)) * 18446744073709551616 + lo * 2 ^ s % 18446744073709551616 := by
      rw [Nat.add_mul, Nat.add_mul, hun]
      have : hi * 18446744073709551616 * 2 ^ s = hi * 2 ^ s * 18446744073709551616 := by rw [Nat.mul_right_comm]
      omega
    have hfin : (hi * 18446744073709551616 + lo) / y = (hi * 18446744073709551616 + lo) * 2 ^ s / (y * 2 ^ s) ∧ (hi * 18446744073709551616 + lo) % y = (hi * 18446744073709551616 + lo) * 2 ^ s % (y * 2 ^ s) / 2 ^ min s 64 := by
      rw [Nat.mul_div_mul_right _ _ ps, Nat.mul_mod_mul_right, Nat.min_eq_left (by omega), Nat.mul_div_cancel _ ps]
      exact ⟨rfl, rfl⟩
    rw [hfin.1, hfin.2, hU]
    have hW : lo * 2 ^ s % 18446744073709551616 < 18446744073709551616 := Nat.mod_lt _ (by omega)
    exact last_eq (y * 2 ^ s) s (hi * 2 ^ s + lo / 2 ^ (64 - s)) (lo * 2 ^ s % 18446744073709551616) k hYlt hYge (by omega) hW hk

end Go.Proofs.Ytbgiehmpdligdaa.DW
namespace Go.Proofs.Ytbgiehmpdligdaa.MC
open Go Go.RowKit Go.Proofs.Ytbgiehmpdligdaa.PW MA MB
open Go.Proofs.YtbgiehmpdligdaaW.PrintWords Go.Proofs.YtbgiehmpdligdaaW.PrintMore

/-- x / y, half to even. -/
def rdiv (x y : Nat) : Nat := x / y + (if y < 2 * (x % y) ∨ (2 * (x % y) = y ∧ x / y % 2 = 1) then 1 else 0)
theorem wrap_u (n : Nat) : IntKind.u64.wrap (n : Int) = ((n % 18446744073709551616 : Nat) : Int) := by rw [IntKind.wrap_u64]; omega
theorem abs_u {a : Int} (h : fits a) : IntKind.u64.wrap (mx a (wrap64 (-a))) = (a.natAbs : Int) := by
  obtain ⟨h1, h2⟩ := h
  rw [size_eq a (by omega) (by omega), wrap_u, Nat.mod_eq_of_lt (by omega)]
theorem times_eq (x y : Nat) (hx : x < 18446744073709551616) (hy : y < 18446744073709551616) : num_times.f (x : Int) (y : Int) = some (((x * y / 18446744073709551616 : Nat) : Int), ((x * y % 18446744073709551616 : Nat) : Int)) := by
  unfold num_times.f bits_Mul64.f
  rw [if_pos (by omega), if_pos (by omega), if_pos (by omega), if_pos (by omega)]
  rfl
theorem odd_u (q : Nat) (h : q < 18446744073709551616) : bits .and .u64 (q : Int) 1 = ((q % 2 : Nat) : Int) := by
  have hw : ∀ n : Int, 0 ≤ n → n < 2 ^ 64 → IntKind.u64.wrap n = n := by intro n h₀ h₁; rw [IntKind.wrap_u64]; omega
  have := bits_mask .u64 64 (by decide) hw 1 (by decide) (q : Int) (by omega) (by omega)
  rw [show (1 : Int) = 2 ^ 1 - 1 by rfl, this]; omega
theorem over_eq (P y : Nat) (hy : 0 < y) (hy2 : y < 9223372036854775808) (hP : P < 340282366920938463463374607431768211456) :
    num_pair_over.f 100 ((P / 18446744073709551616 : Nat) : Int) ((P % 18446744073709551616 : Nat) : Int) (y : Int) =
      some (if y ≤ P / 18446744073709551616 then (0, false) else (wrap64 ((rdiv P y % 18446744073709551616 : Nat) : Int), decide (((rdiv P y % 18446744073709551616 : Nat) : Int) ≤ 1000000000000000000))) := by
  unfold num_pair_over.f
  by_cases c : y ≤ P / 18446744073709551616
  · rw [if_pos (by omega), if_pos c]
  rw [if_neg (by omega), if_neg c]
  have dv := DW.div64_eq (P / 18446744073709551616) (P % 18446744073709551616) y 100 (by omega) (by omega) (by omega) (by decide)
  rw [show P / 18446744073709551616 * 18446744073709551616 + P % 18446744073709551616 = P by omega] at dv
  rw [dv, Option.bind_some]
  dsimp only
  have hq : P / y < 18446744073709551616 := by
    rw [Nat.div_lt_iff_lt_mul hy]
    have : P / 18446744073709551616 < y := by omega
    rw [Nat.div_lt_iff_lt_mul (by decide)] at this
    rw [Nat.mul_comm]; exact this
  have hr := Nat.mod_lt P hy
  unfold rdiv
  generalize P / y = q at *
  generalize P % y = r at *
  have w1 : IntKind.u64.wrap ((y : Int) - (r : Int)) = ((y - r : Nat) : Int) := by rw [IntKind.wrap_u64]; omega
  have w2 : IntKind.u64.wrap ((q : Int) + 1) = (((q + 1) % 18446744073709551616 : Nat) : Int) := by rw [IntKind.wrap_u64]; omega
  rw [w1, w2, odd_u q hq]
  by_cases c1 : r > y - r
  · rw [if_pos (by omega), if_pos (by left; omega)]
  · rw [if_neg (by omega)]
    by_cases c2 : r = y - r
    · rw [if_pos (by omega)]
      by_cases c3 : q % 2 = 1
      · rw [if_pos (by omega), if_pos (by right; exact ⟨by omega, c3⟩)]
      · rw [if_neg (by omega), if_neg (by omega), Nat.add_zero, Nat.mod_eq_of_lt hq]
    · rw [if_neg (by omega), if_neg (by omega), Nat.add_zero, Nat.mod_eq_of_lt hq]
def sgn (a b : Int) (n : Nat) : Int := if (decide (a < 0) != decide (b < 0)) = true then -(n : Int) else (n : Int)
theorem rdiv_ge (x y : Nat) : x / y ≤ rdiv x y := Nat.le_add_right _ _
theorem rdiv_le (x y : Nat) : rdiv x y ≤ x / y + 1 := by unfold rdiv; split <;> omega
theorem rdiv_mono {x x' y : Nat} (hy : 0 < y) (h : x ≤ x') : rdiv x y ≤ rdiv x' y := by
  unfold rdiv
  have hv := Nat.div_add_mod x y
  have hw := Nat.div_add_mod x' y
  have lv := Nat.mod_lt x hy
  have lw := Nat.mod_lt x' hy
  have hq : x / y ≤ x' / y := Nat.div_le_div_right h
  by_cases e : x / y = x' / y
  · rw [← e] at hw ⊢
    have : x % y ≤ x' % y := by omega
    generalize x % y = r at *
    generalize x' % y = r' at *
    generalize x / y = q at *
    split <;> split <;> omega
  · generalize x / y = q at *
    generalize x' / y = q' at *
    split <;> split <;> omega
/-- num.Mul: exact but where the quotient is rounded up to 2^64. -/
theorem mul_eq {a b : Int} (ha : fits a) (hb : fits b) : num_Mul.f a b = some (if 1000000 * 18446744073709551616 ≤ a.natAbs * b.natAbs then (0, 3) else if rdiv (a.natAbs * b.natAbs) 1000000 % 18446744073709551616 ≤ 1000000000000000000 then (sgn a b (rdiv (a.natAbs * b.natAbs) 1000000 % 18446744073709551616), 0) else (0, 3)) := by
  unfold num_Mul.f
  have ⟨a1, a2⟩ := ha
  have ⟨b1, b2⟩ := hb
  rw [fits_eq, fits_eq, decide_eq_true ha, decide_eq_true hb, Option.bind_some, Option.bind_some, if_pos rfl, if_pos rfl, abs_u ha, abs_u hb, times_eq _ _ (by omega) (by omega), Option.bind_some]
  have hP : a.natAbs * b.natAbs ≤ 1000000000000000000 * 1000000000000000000 := Nat.mul_le_mul (by omega) (by omega)
  generalize a.natAbs * b.natAbs = P at *
  have ho := over_eq P 1000000 (by decide) (by decide) (by omega)
  dsimp only
  have ho' : num_pair_over.f 100 ((P / 18446744073709551616 : Nat) : Int) ((P % 18446744073709551616 : Nat) : Int) 1000000 = _ := ho
  rw [ho', Option.bind_some]
  by_cases c : 1000000 * 18446744073709551616 ≤ P
  · rw [if_pos (show 1000000 ≤ P / 18446744073709551616 by omega), if_pos c]; rfl
  · rw [if_neg (show ¬ 1000000 ≤ P / 18446744073709551616 by omega), if_neg c]
    dsimp only
    generalize rdiv P 1000000 % 18446744073709551616 = R
    by_cases c2 : R ≤ 1000000000000000000
    · have w : wrap64 (R : Int) = (R : Int) := by unfold wrap64; omega
      have w2 : wrap64 (-(R : Int)) = -(R : Int) := by unfold wrap64; omega
      rw [decide_eq_true (show (R : Int) ≤ 1000000000000000000 by omega), if_pos rfl, if_pos c2, w, w2]; rfl
    · rw [decide_eq_false (show ¬ (R : Int) ≤ 1000000000000000000 by omega), if_neg (by decide), if_neg c2]
theorem mul_small {a b : Int} (ha : fits a) (hb : fits b) (h : rdiv (a.natAbs * b.natAbs) 1000000 ≤ 1000000000000000000) : num_Mul.f a b = some (sgn a b (rdiv (a.natAbs * b.natAbs) 1000000), 0) := by
  have h1 := rdiv_ge (a.natAbs * b.natAbs) 1000000
  rw [mul_eq ha hb, if_neg (by omega), Nat.mod_eq_of_lt (by omega), if_pos h]
theorem mul_big {a b : Int} (ha : fits a) (hb : fits b) (h : 1000000000000000000 < rdiv (a.natAbs * b.natAbs) 1000000) (h2 : rdiv (a.natAbs * b.natAbs) 1000000 ≠ 18446744073709551616) : num_Mul.f a b = some (0, 3) := by
  have h1 := rdiv_le (a.natAbs * b.natAbs) 1000000
  rw [mul_eq ha hb]
  by_cases c : 1000000 * 18446744073709551616 ≤ a.natAbs * b.natAbs
  · rw [if_pos c]
  · rw [if_neg c, Nat.mod_eq_of_lt (by omega), if_neg (by omega)]
theorem div_unit {p : Int} (hp : fits p) (h0 : p ≠ 0) : num_Div.f 1000000 p = some (sgn 1000000 p (rdiv 1000000000000 p.natAbs), 0) := by
  unfold num_Div.f
  have ⟨b1, b2⟩ := hp
  have hu : fits 1000000 := by decide
  rw [fits_eq, fits_eq, decide_eq_true hp, decide_eq_true hu, Option.bind_some, Option.bind_some, if_pos rfl, if_pos rfl, if_neg h0, abs_u hp, abs_u hu]
  have ht : num_times.f (((1000000 : Int).natAbs : Nat) : Int) 1000000 = _ := times_eq 1000000 1000000 (by decide) (by decide)
  rw [ht, Option.bind_some]
  have hpos : 0 < p.natAbs := by omega
  have ho := over_eq (1000000 * 1000000) p.natAbs hpos (by omega) (by decide)
  dsimp only
  rw [ho, Option.bind_some, if_neg (show ¬ p.natAbs ≤ 1000000 * 1000000 / 18446744073709551616 by omega)]
  show (if (decide (((rdiv 1000000000000 p.natAbs % 18446744073709551616 : Nat) : Int) ≤ 1000000000000000000)) = true then some (if (decide ((1000000 : Int) < 0) != decide (p < 0)) = true then wrap64 (-(wrap64 ((rdiv 1000000000000 p.natAbs % 18446744073709551616 : Nat) : Int))) else wrap64 ((rdiv 1000000000000 p.natAbs % 18446744073709551616 : Nat) : Int), (0 : Int)) else some (0, 3)) = _
  have hR : rdiv 1000000000000 p.natAbs ≤ 1000000000001 := by
    have h1 := rdiv_le 1000000000000 p.natAbs
    have h2 := Nat.div_le_self 1000000000000 p.natAbs
    omega
  unfold sgn
  generalize rdiv 1000000000000 p.natAbs = R at *
  rw [Nat.mod_eq_of_lt (by omega)]
  have w : wrap64 (R : Int) = (R : Int) := by unfold wrap64; omega
  have w2 : wrap64 (-(R : Int)) = -(R : Int) := by unfold wrap64; omega
  rw [decide_eq_true (show (R : Int) ≤ 1000000000000000000 by omega), if_pos rfl, w, w2]
end Go.Proofs.Ytbgiehmpdligdaa.MC
namespace Go.Proofs.Ytbgiehmpdligdaa.ME
open Go Go.RowKit Go.Proofs.Ytbgiehmpdligdaa.PW MA MB MC
open Go.Proofs.YtbgiehmpdligdaaW.PrintWords Go.Proofs.YtbgiehmpdligdaaW.PrintMore

theorem mtimes_eq (x y : Nat) (hx : x < 18446744073709551616) (hy : y < 18446744073709551616) : maths_times.f (x : Int) (y : Int) = some (((x * y / 18446744073709551616 : Nat) : Int), ((x * y % 18446744073709551616 : Nat) : Int)) := by
  unfold maths_times.f bits_Mul64.f
  rw [if_pos (by omega), if_pos (by omega), if_pos (by omega), if_pos (by omega)]
  rfl
theorem pover_eq (P Q : Nat) : maths_pair_over.f ((P / 18446744073709551616 : Nat) : Int) ((P % 18446744073709551616 : Nat) : Int) ((Q / 18446744073709551616 : Nat) : Int) ((Q % 18446744073709551616 : Nat) : Int) = some (decide (Q < P)) := by
  unfold maths_pair_over.f
  by_cases c : P / 18446744073709551616 > Q / 18446744073709551616
  · rw [if_pos (by omega), decide_eq_true (by omega)]
  · rw [if_neg (by omega)]
    by_cases c2 : P / 18446744073709551616 = Q / 18446744073709551616
    · rw [if_pos (by omega)]; exact congrArg some (decide_eq_decide.2 (by omega))
    · rw [if_neg (by omega), decide_eq_false (by omega)]

/-- The whole square root, bit by bit. -/
def go : Nat → Nat → Nat → Nat
  | 0, _, r => r
  | b + 1, W, r => if (r + 2 ^ b) * (r + 2 ^ b) ≤ W then go b W (r + 2 ^ b) else go b W r
def isq (W : Nat) : Nat := go 41 W 0
theorem go_spec (W : Nat) : ∀ (b r : Nat), r * r ≤ W → W < (r + 2 ^ b) * (r + 2 ^ b) → go b W r * go b W r ≤ W ∧ W < (go b W r + 1) * (go b W r + 1) ∧ go b W r < r + 2 ^ b := by
  intro b
  induction b with
  | zero => intro r h1 h2; exact ⟨h1, h2, by show r < r + 1; omega⟩
  | succ b ih =>
    intro r h1 h2
    have e : 2 ^ (b + 1) = 2 ^ b + 2 ^ b := by rw [Nat.pow_succ]; omega
    have hp := Nat.two_pow_pos b
    rw [e, ← Nat.add_assoc] at h2
    unfold go
    by_cases c : (r + 2 ^ b) * (r + 2 ^ b) ≤ W
    · rw [if_pos c]
      obtain ⟨x, y, z⟩ := ih (r + 2 ^ b) c h2
      exact ⟨x, y, by omega⟩
    · rw [if_neg c]
      obtain ⟨x, y, z⟩ := ih r h1 (by omega)
      exact ⟨x, y, by omega⟩
theorem isq_spec {W : Nat} (h : W < 4835703278458516698824704) : isq W * isq W ≤ W ∧ W < (isq W + 1) * (isq W + 1) ∧ isq W < 2199023255552 := by
  have := go_spec W 41 0 (Nat.zero_le _) (by
    show W < (0 + 2199023255552) * (0 + 2199023255552)
    omega)
  obtain ⟨x, y, z⟩ := this
  exact ⟨x, y, by have e : (2 : Nat) ^ 41 = 2199023255552 := by decide
                  unfold isq; omega⟩
theorem sq_lt {a b : Nat} (h : a * a < b * b) : a < b := by
  rcases Nat.lt_or_ge a b with g | g
  · exact g
  · have := Nat.mul_le_mul g g; omega
theorem isq_uniq {W s : Nat} (h : W < 4835703278458516698824704) (h1 : s * s ≤ W) (h2 : W < (s + 1) * (s + 1)) : isq W = s := by
  obtain ⟨x, y, _⟩ := isq_spec h
  have a := sq_lt (Nat.lt_of_le_of_lt x h2)
  have b := sq_lt (Nat.lt_of_le_of_lt h1 y)
  omega
theorem isq_mono {W V : Nat} (hV : V < 4835703278458516698824704) (h : W ≤ V) : isq W ≤ isq V := by
  obtain ⟨x, y, _⟩ := isq_spec (W := W) (by omega)
  obtain ⟨x', y', _⟩ := isq_spec hV
  have := sq_lt (Nat.lt_of_le_of_lt (Nat.le_trans x h) y')
  omega
/-- The root, rounded. -/
def rnd (W : Nat) : Nat := if isq W * isq W + isq W < W then isq W + 1 else isq W
def rootN (n : Int) : Int × Int := if fits n ∧ 0 ≤ n then ((rnd (n.natAbs * 1000000) : Int), 0) else (0, 5)
def fin (W s : Nat) : Nat := if s * s + s < W then s + 1 else s
theorem sq_bound {s : Nat} (h : s ≤ 2199023255552) : s * s ≤ 4835703278458516698824704 := by
  have := Nat.mul_le_mul h h; omega
theorem add_carry (A s : Nat) (hA : A < 340282366920938463463374607431768211456) (hs : s < 18446744073709551616) (h2 : A + s < 340282366920938463463374607431768211456) :
    IntKind.u64.wrap (((A / 18446744073709551616 : Nat) : Int) + ent_add64c ((A % 18446744073709551616 : Nat) : Int) (s : Int)) = (((A + s) / 18446744073709551616 : Nat) : Int) ∧ ent_add64 ((A % 18446744073709551616 : Nat) : Int) (s : Int) = (((A + s) % 18446744073709551616 : Nat) : Int) := by
  unfold ent_add64c ent_add64
  simp only [Int.toNat_natCast]
  constructor
  · rw [IntKind.wrap_u64]; omega
  · congr 1; omega
end Go.Proofs.Ytbgiehmpdligdaa.ME
namespace Go.Proofs.Ytbgiehmpdligdaa.ME
open Go Go.RowKit Go.Proofs.Ytbgiehmpdligdaa.PW MA MB MC
open Go.Proofs.YtbgiehmpdligdaaW.PrintWords Go.Proofs.YtbgiehmpdligdaaW.PrintMore
theorem root_loop (W : Nat) (hW : W < 4835703278458516698824704) : ∀ (j k r : Nat), j < k → r * r ≤ W → W < (r + 2 ^ j) * (r + 2 ^ j) → r + 2 ^ j ≤ 2199023255552 →
    maths_Root.l0 k (r : Int) ((2 ^ j / 2 : Nat) : Int) ((W / 18446744073709551616 : Nat) : Int) ((W % 18446744073709551616 : Nat) : Int) = some ((fin W (go j W r) : Int), 0) := by
  intro j
  induction j with
  | zero =>
    intro k r hk h1 h2 h3
    obtain ⟨k, rfl⟩ : ∃ m, k = m + 1 := ⟨k - 1, by omega⟩
    have h3' : r < 2199023255552 := by have : (2 : Nat) ^ 0 = 1 := rfl; omega
    have hb := sq_bound (Nat.le_of_lt h3')
    simp only [maths_Root.l0]
    rw [if_neg (by decide), mtimes_eq r r (by omega) (by omega), Option.bind_some, Option.bind_some]
    obtain ⟨e1, e2⟩ := add_carry (r * r) r (by omega) (by omega) (by omega)
    dsimp only
    rw [e1, e2, pover_eq, Option.bind_some]
    unfold fin
    show _ = some (((if r * r + r < W then r + 1 else r : Nat) : Int), 0)
    have w1 : IntKind.u64.wrap ((r : Int) + 1) = ((r + 1 : Nat) : Int) := by rw [IntKind.wrap_u64]; omega
    have w2 : wrap64 ((r + 1 : Nat) : Int) = ((r + 1 : Nat) : Int) := by unfold wrap64; omega
    have w3 : wrap64 (r : Int) = (r : Int) := by unfold wrap64; omega
    rw [w1, w2, w3]
    by_cases c : r * r + r < W
    · rw [decide_eq_true c, if_pos rfl, if_pos c]
    · rw [decide_eq_false c, if_neg (by decide), if_neg c]
  | succ j ih =>
    intro k r hk h1 h2 h3
    obtain ⟨k, rfl⟩ : ∃ m, k = m + 1 := ⟨k - 1, by omega⟩
    have e : 2 ^ (j + 1) = 2 ^ j + 2 ^ j := by rw [Nat.pow_succ]; omega
    have hp := Nat.two_pow_pos j
    have ed : 2 ^ (j + 1) / 2 = 2 ^ j := by omega
    rw [ed]
    rw [e, ← Nat.add_assoc] at h2
    simp only [maths_Root.l0]
    have w1 : IntKind.u64.wrap ((r : Int) + ((2 ^ j : Nat) : Int)) = ((r + 2 ^ j : Nat) : Int) := by rw [IntKind.wrap_u64]; omega
    have w2 : ((2 ^ j : Nat) : Int) / 2 = ((2 ^ j / 2 : Nat) : Int) := by omega
    rw [if_pos (by omega), w1, w2, mtimes_eq _ _ (by omega) (by omega), Option.bind_some]
    dsimp only
    rw [pover_eq, Option.bind_some]
    show _ = some (((fin W (if (r + 2 ^ j) * (r + 2 ^ j) ≤ W then go j W (r + 2 ^ j) else go j W r) : Nat) : Int), 0)
    by_cases c : (r + 2 ^ j) * (r + 2 ^ j) ≤ W
    · rw [decide_eq_false (by omega), if_neg (by decide), if_pos c]
      exact ih k (r + 2 ^ j) (by omega) c h2 (by omega)
    · rw [decide_eq_true (by omega), if_pos rfl, if_neg c]
      exact ih k r (by omega) h1 (by omega) (by omega)
end Go.Proofs.Ytbgiehmpdligdaa.ME
namespace Go.Proofs.Ytbgiehmpdligdaa.ME
open Go Go.RowKit Go.Proofs.Ytbgiehmpdligdaa.PW MA MB MC
open Go.Proofs.YtbgiehmpdligdaaW.PrintWords Go.Proofs.YtbgiehmpdligdaaW.PrintMore
theorem root_eq (n : Int) : maths_Root.f 100 n = some (rootN n) := by
  unfold maths_Root.f rootN
  rw [fits_eq, Option.bind_some]
  by_cases h : fits n
  · rw [decide_eq_true h, if_pos rfl]
    simp only [maths_Root.j0]
    obtain ⟨h1, h2⟩ := h
    by_cases c : n < 0
    · rw [decide_eq_true c, if_pos rfl, if_neg (show ¬ (fits n ∧ 0 ≤ n) by omega)]
    · rw [decide_eq_false c, if_neg (by decide), if_pos (show fits n ∧ 0 ≤ n from ⟨⟨h1, h2⟩, by omega⟩)]
      obtain ⟨m, rfl⟩ := Int.eq_ofNat_of_zero_le (show 0 ≤ n by omega)
      rw [wrap_u, Nat.mod_eq_of_lt (show m < 18446744073709551616 by omega)]
      have ht : maths_times.f (m : Int) 1000000 = _ := mtimes_eq m 1000000 (by omega) (by decide)
      rw [ht, Option.bind_some]
      have hl := root_loop (m * 1000000) (by omega) 41 99 0 (by decide) (by omega) (by
        show m * 1000000 < (0 + 2199023255552) * (0 + 2199023255552); omega) (by decide)
      exact hl
  · rw [decide_eq_false h, if_neg (by decide), if_neg (fun z => h z.1)]; rfl
end Go.Proofs.Ytbgiehmpdligdaa.ME
namespace Go.Proofs.Ytbgiehmpdligdaa.ME
open Go Go.RowKit Go.Proofs.Ytbgiehmpdligdaa.PW MA MB MC
open Go.Proofs.YtbgiehmpdligdaaW.PrintWords Go.Proofs.YtbgiehmpdligdaaW.PrintMore
/-! ### the reference's root -/
theorem sq_split (p q : Nat) : (1000000 * p + q) * (1000000 * p + q) = p * p * 1000000000000 + 2 * (p * q) * 1000000 + q * q := by
  have a1 : (1000000 * p + q) * (1000000 * p + q) = 1000000 * p * (1000000 * p) + 1000000 * p * q + (q * (1000000 * p) + q * q) := by rw [Nat.add_mul, Nat.mul_add, Nat.mul_add]
  have a2 : 1000000 * p * (1000000 * p) = p * p * 1000000000000 := by rw [Nat.mul_mul_mul_comm, Nat.mul_comm]
  have a3 : 1000000 * p * q = p * q * 1000000 := by rw [Nat.mul_assoc, Nat.mul_comm]
  have a4 : q * (1000000 * p) = p * q * 1000000 := by rw [Nat.mul_comm, a3]
  rw [a1, a2, a3, a4]; omega
theorem sq_iff (A B C n : Nat) : A * 1000000 + 2 * B + (C + 999999) / 1000000 ≤ n ↔ A * 1000000000000 + 2 * B * 1000000 + C ≤ n * 1000000 := by omega
theorem wrap_n {x : Nat} (h : x < 9223372036854775808) : wrap64 (x : Int) = (x : Int) := by unfold wrap64; omega
theorem rfits_wraps {A B C : Nat} (hA : A ≤ 1000000000000) (hB : B ≤ 1000000000000) (hC : C ≤ 1000000000000) :
    wrap64 (wrap64 (wrap64 ((A : Int) * 1000000) + ((2 * B : Nat) : Int)) + wrap64 (Int.tdiv (wrap64 (wrap64 ((C : Int) + 1000000) - 1)) 1000000)) = ((A * 1000000 + 2 * B + (C + 999999) / 1000000 : Nat) : Int) := by
  have v1 : wrap64 ((A : Int) * 1000000) = ((A * 1000000 : Nat) : Int) := wrap_n (x := A * 1000000) (by omega)
  have v2 : wrap64 (((A * 1000000 : Nat) : Int) + ((2 * B : Nat) : Int)) = ((A * 1000000 + 2 * B : Nat) : Int) := wrap_n (x := A * 1000000 + 2 * B) (by omega)
  have v3 : wrap64 (wrap64 ((C : Int) + 1000000) - 1) = ((C + 999999 : Nat) : Int) := by
    have e : wrap64 ((C : Int) + 1000000) = ((C + 1000000 : Nat) : Int) := wrap_n (x := C + 1000000) (by omega)
    rw [e]
    have e2 : ((C + 1000000 : Nat) : Int) - 1 = ((C + 999999 : Nat) : Int) := by omega
    rw [e2]; exact wrap_n (by omega)
  have v4 : wrap64 (Int.tdiv ((C + 999999 : Nat) : Int) 1000000) = (((C + 999999) / 1000000 : Nat) : Int) := by
    rw [Int.tdiv_eq_ediv_of_nonneg (by omega)]
    exact wrap_n (x := (C + 999999) / 1000000) (by omega)
  rw [v1, v2, v3, v4]
  exact wrap_n (x := A * 1000000 + 2 * B + (C + 999999) / 1000000) (by omega)
theorem rfits_sq (x n : Nat) (hx : x ≤ 1000000000001) : foolscapref15_fits.f (x : Int) (n : Int) = some (decide (x * x ≤ n * 1000000)) := by
  unfold foolscapref15_fits.f
  have et : Int.tdiv (x : Int) 1000000 = ((x / 1000000 : Nat) : Int) := by rw [Int.tdiv_eq_ediv_of_nonneg (by omega)]; rfl
  have em : Int.tmod (x : Int) 1000000 = ((x % 1000000 : Nat) : Int) := by rw [Int.tmod_eq_emod_of_nonneg (by omega)]; rfl
  rw [et, em]
  have e := Nat.div_add_mod x 1000000
  have hp : x / 1000000 ≤ 1000000 := by omega
  have hq : x % 1000000 < 1000000 := Nat.mod_lt _ (by decide)
  generalize x / 1000000 = p at *
  generalize x % 1000000 = q at *
  have b1 : p * p ≤ 1000000000000 := Nat.mul_le_mul hp hp
  have b2 : p * q ≤ 1000000 * 1000000 := Nat.mul_le_mul hp (Nat.le_of_lt hq)
  have b3 : q * q ≤ 1000000 * 1000000 := Nat.mul_le_mul (Nat.le_of_lt hq) (Nat.le_of_lt hq)
  have w0 : wrap64 (p : Int) = (p : Int) := wrap_n (by omega)
  have w1 : wrap64 ((p : Int) * (p : Int)) = ((p * p : Nat) : Int) := wrap_n (x := p * p) (by omega)
  have w2 : wrap64 (2 * (p : Int)) = ((2 * p : Nat) : Int) := wrap_n (x := 2 * p) (by omega)
  have w3 : wrap64 (((2 * p : Nat) : Int) * (q : Int)) = ((2 * (p * q) : Nat) : Int) := by
    rw [← Int.natCast_mul, Nat.mul_assoc]; exact wrap_n (by omega)
  have w4 : wrap64 ((q : Int) * (q : Int)) = ((q * q : Nat) : Int) := wrap_n (x := q * q) (by omega)
  rw [w0, w1, w2, w3, w4, rfits_wraps (by omega) (by omega) (by omega)]
  have key := sq_iff (p * p) (p * q) (q * q) n
  rw [← sq_split p q, e] at key
  refine congrArg some (decide_eq_decide.2 ?_)
  rw [← key]
  exact Int.ofNat_le
end Go.Proofs.Ytbgiehmpdligdaa.ME
namespace Go.Proofs.Ytbgiehmpdligdaa.ME
open Go Go.RowKit Go.Proofs.Ytbgiehmpdligdaa.PW MA MB MC
open Go.Proofs.YtbgiehmpdligdaaW.PrintWords Go.Proofs.YtbgiehmpdligdaaW.PrintMore
theorem sub_wraps {A L : Nat} (h : L ≤ A) (h2 : A - L < 18446744073709551616) : IntKind.u64.wrap (IntKind.u64.wrap (A : Int) - IntKind.u64.wrap (L : Int)) = ((A - L : Nat) : Int) := by
  have e2 : ((A : Int) - (L : Int)) = ((A - L : Nat) : Int) := by omega
  have b1 : (0 : Int) ≤ ((A - L : Nat) : Int) := by omega
  have b2 : ((A - L : Nat) : Int) < 18446744073709551616 := by omega
  have e := Int.sub_emod (A : Int) (L : Int) 18446744073709551616
  rw [e2, Int.emod_eq_of_lt b1 b2] at e
  rw [IntKind.wrap_u64, IntKind.wrap_u64, IntKind.wrap_u64]
  rw [e]
theorem wsub {a b : Nat} (h : b ≤ a) (h2 : a < 9223372036854775808) : wrap64 ((a : Int) - (b : Int)) = ((a - b : Nat) : Int) := by unfold wrap64; omega
theorem whalf {a : Nat} (h : a < 9223372036854775808) : wrap64 (Int.tdiv (a : Int) 2) = ((a / 2 : Nat) : Int) := by
  rw [Int.tdiv_eq_ediv_of_nonneg (by omega)]; unfold wrap64; omega
theorem rroot_loop (n : Nat) (hn : n ≤ 1000000000000000000) : ∀ (j k low high : Nat), j < k → high - low ≤ 2 ^ j → low < high → high ≤ 1000000000001 → low * low ≤ n * 1000000 → n * 1000000 < high * high →
    foolscapref15_Root.l0 k (n : Int) (low : Int) (high : Int) = some ((rnd (n * 1000000) : Int), 0) := by
  intro j
  induction j with
  | zero =>
    intro k low high hk hd hlt hh h1 h2
    obtain ⟨k, rfl⟩ : ∃ m, k = m + 1 := ⟨k - 1, by omega⟩
    have hd' : high = low + 1 := by have : (2 : Nat) ^ 0 = 1 := rfl; omega
    subst hd'
    have hs := isq_uniq (show n * 1000000 < 4835703278458516698824704 by omega) h1 h2
    simp only [foolscapref15_Root.l0]
    have w1 : wrap64 (((low + 1 : Nat) : Int) - (low : Int)) = 1 := by unfold wrap64; omega
    rw [w1, if_neg (by decide), wrap_u n, wrap_u low, Nat.mod_eq_of_lt (show n < 18446744073709551616 by omega), Nat.mod_eq_of_lt (show low < 18446744073709551616 by omega)]
    have hsq : (low + 1) * (low + 1) = low * low + 2 * low + 1 := by rw [Nat.add_mul, Nat.mul_add]; omega
    rw [hsq] at h2
    have w2 : IntKind.u64.wrap (IntKind.u64.wrap ((n : Int) * 1000000) - IntKind.u64.wrap ((low : Int) * (low : Int))) = ((n * 1000000 - low * low : Nat) : Int) := by
      have en : (n : Int) * 1000000 = ((n * 1000000 : Nat) : Int) := by omega
      have el : (low : Int) * (low : Int) = ((low * low : Nat) : Int) := (Int.natCast_mul _ _).symm
      have hb : n * 1000000 - low * low < 18446744073709551616 := by omega
      rw [en, el]
      exact sub_wraps (A := n * 1000000) (L := low * low) h1 hb
    have w3 : wrap64 ((low : Int) + 1) = ((low + 1 : Nat) : Int) := by unfold wrap64; omega
    rw [w2, w3]
    clear w1 w2 w3
    unfold rnd
    rw [hs]
    by_cases c : low * low + low < n * 1000000
    · rw [if_pos c, if_pos (by omega)]
    · rw [if_neg c, if_neg (by omega)]
  | succ j ih =>
    intro k low high hk hd hlt hh h1 h2
    have e : 2 ^ (j + 1) = 2 ^ j + 2 ^ j := by rw [Nat.pow_succ]; omega
    by_cases c : high = low + 1
    · exact ih k low high (by omega) (by have := Nat.two_pow_pos j; omega) hlt hh h1 h2
    obtain ⟨k, rfl⟩ : ∃ m, k = m + 1 := ⟨k - 1, by omega⟩
    simp only [foolscapref15_Root.l0]
    have d1 : low ≤ high := by omega
    have d2 : high < 9223372036854775808 := by omega
    have d3 : low + high < 9223372036854775808 := by omega
    have c1 : ((high - low : Nat) : Int) > 1 := by omega
    have c2 : (low + high) / 2 ≤ 1000000000001 := by omega
    have w1 : wrap64 ((high : Int) - (low : Int)) = ((high - low : Nat) : Int) := wsub d1 d2
    have w2 : wrap64 ((low : Int) + (high : Int)) = ((low + high : Nat) : Int) := wrap_n (x := low + high) d3
    have w3 : wrap64 (Int.tdiv ((low + high : Nat) : Int) 2) = (((low + high) / 2 : Nat) : Int) := whalf d3
    rw [w1, w2, w3, if_pos c1, rfits_sq _ _ c2, Option.bind_some]
    clear w1 w2 w3 c1 c2
    by_cases d : (low + high) / 2 * ((low + high) / 2) ≤ n * 1000000
    · rw [decide_eq_true d, if_pos rfl]
      exact ih k _ high (by omega) (by omega) (by omega) hh d h2
    · rw [decide_eq_false d, if_neg (by decide)]
      exact ih k low _ (by omega) (by omega) (by omega) (by omega) h1 (by omega)
end Go.Proofs.Ytbgiehmpdligdaa.ME
namespace Go.Proofs.Ytbgiehmpdligdaa.ME
open Go Go.RowKit Go.Proofs.Ytbgiehmpdligdaa.PW MA MB MC
open Go.Proofs.YtbgiehmpdligdaaW.PrintWords Go.Proofs.YtbgiehmpdligdaaW.PrintMore
theorem rroot_eq (n : Int) : foolscapref15_Root.f 100 n = some (rootN n) := by
  unfold foolscapref15_Root.f rootN
  rw [rfits_eq, Option.bind_some]
  by_cases h : fits n
  · rw [decide_eq_true h, if_pos rfl]
    simp only [foolscapref15_Root.j0]
    obtain ⟨h1, h2⟩ := h
    by_cases c : n < 0
    · rw [decide_eq_true c, if_pos rfl, if_neg (show ¬ (fits n ∧ 0 ≤ n) by omega)]
    · rw [decide_eq_false c, if_neg (by decide), if_pos (show fits n ∧ 0 ≤ n from ⟨⟨h1, h2⟩, by omega⟩)]
      obtain ⟨m, rfl⟩ := Int.eq_ofNat_of_zero_le (show 0 ≤ n by omega)
      exact rroot_loop m (by omega) 40 99 0 1000000000001 (by decide) (by decide) (by decide) (by decide) (by omega) (by
        show m * 1000000 < 1000000000001 * 1000000000001; omega)
  · rw [decide_eq_false h, if_neg (by decide), if_neg (fun z => h z.1)]; rfl
end Go.Proofs.Ytbgiehmpdligdaa.ME
namespace Go.Proofs.Ytbgiehmpdligdaa.MI
open Go Go.RowKit Go.Proofs.Ytbgiehmpdligdaa.PW MA MB MC
open Go.Proofs.YtbgiehmpdligdaaW.PrintWords Go.Proofs.YtbgiehmpdligdaaW.PrintMore

theorem rdn (x : List Int) (i : Nat) : rd x (i : Int) = x.getD i 0 := by unfold rd; rw [Int.toNat_natCast]
theorem limb_step (k x i : Nat) (s : List Int) (hx : x ≤ 1000000000000000000) (hi : i < 4) (hs : s.length = i) :
    foolscapref01_limbs.l0 (k + 1) (x : Int) s (i : Int) = foolscapref01_limbs.l0 k ((x / 1000000 : Nat) : Int) (s ++ [((x % 1000000 : Nat) : Int)]) ((i + 1 : Nat) : Int) := by
  have w : wrap64 ((i : Int) + 1) = ((i + 1 : Nat) : Int) := by unfold wrap64; omega
  have e1 : wrap64 (Int.tdiv (x : Int) 1000000) = ((x / 1000000 : Nat) : Int) := by
    rw [Int.tdiv_eq_ediv_of_nonneg (by omega)]; unfold wrap64; omega
  have e2 : Int.tmod (x : Int) 1000000 = ((x % 1000000 : Nat) : Int) := by
    rw [Int.tmod_eq_emod_of_nonneg (by omega)]; omega
  rw [foolscapref01_limbs.l0, if_pos (by omega), if_pos (by omega), w, e1, e2]
theorem limbs_eq (k x : Nat) (hx : x ≤ 1000000000000000000) (hk : 5 ≤ k) :
    foolscapref01_limbs.f k (x : Int) = some [((x % 1000000 : Nat) : Int), ((x / 1000000 % 1000000 : Nat) : Int), ((x / 1000000 / 1000000 % 1000000 : Nat) : Int), ((x / 1000000 / 1000000 / 1000000 % 1000000 : Nat) : Int)] := by
  obtain ⟨k, rfl⟩ : ∃ q, k = q + 1 + 1 + 1 + 1 + 1 := ⟨k - 5, by omega⟩
  unfold foolscapref01_limbs.f
  have h0 := limb_step (k + 1 + 1 + 1 + 1) x 0 [] hx (by omega) rfl
  refine h0.trans ?_
  refine (limb_step (k + 1 + 1 + 1) (x / 1000000) 1 [((x % 1000000 : Nat) : Int)] (by omega) (by omega) rfl).trans ?_
  refine (limb_step (k + 1 + 1) (x / 1000000 / 1000000) 2 [((x % 1000000 : Nat) : Int), ((x / 1000000 % 1000000 : Nat) : Int)] (by omega) (by omega) rfl).trans ?_
  refine (limb_step (k + 1) (x / 1000000 / 1000000 / 1000000) 3 [((x % 1000000 : Nat) : Int), ((x / 1000000 % 1000000 : Nat) : Int), ((x / 1000000 / 1000000 % 1000000 : Nat) : Int)] (by omega) (by omega) rfl).trans ?_
  rw [foolscapref01_limbs.l0, if_neg (by decide)]
  rfl
def Bd (R : List Int) (c : Int) : Prop := R.length = 8 ∧ ∀ i, 0 ≤ R.getD i 0 ∧ R.getD i 0 ≤ c * 1000000000000
def Lm (P : List Int) : Prop := P.length = 4 ∧ ∀ i, 0 ≤ P.getD i 0 ∧ P.getD i 0 ≤ 1000000
theorem set_get (x : List Int) (j : Nat) (v : Int) (i : Nat) : (x.set j v).getD i 0 = if j = i ∧ i < x.length then v else x.getD i 0 := by
  rw [List.getD, List.getD, List.getElem?_set]
  by_cases c : j = i
  · subst c
    by_cases c2 : j < x.length
    · simp [c2]
    · simp [c2]
  · simp [c]
def stp (P Q : List Int) (i : Nat) (R : List Int) (j : Nat) : List Int := R.set (i + j) (R.getD (i + j) 0 + P.getD i 0 * Q.getD j 0)
theorem w_add (r m : Int) (h0 : 0 ≤ r) (h1 : r ≤ 1000000000000000) (m0 : 0 ≤ m) (m1 : m ≤ 1000000000000) : wrap64 (r + wrap64 m) = r + m := by
  have e1 : wrap64 m = m := by unfold wrap64; omega
  rw [e1]; unfold wrap64; omega
theorem w_ij (i j : Nat) (hi : i < 4) (hj : j < 4) : wrap64 ((i : Int) + (j : Int)) = ((i + j : Nat) : Int) := by unfold wrap64; omega
theorem w_s (j : Nat) (hj : j < 10) : wrap64 ((j : Int) + 1) = ((j + 1 : Nat) : Int) := by unfold wrap64; omega
theorem prod_le {p q : Int} (hp : 0 ≤ p ∧ p ≤ 1000000) (hq : 0 ≤ q ∧ q ≤ 1000000) : 0 ≤ p * q ∧ p * q ≤ 1000000000000 :=
  ⟨Int.mul_nonneg hp.1 hq.1, Int.le_trans (Int.mul_le_mul hp.2 hq.2 hq.1 (by decide)) (by decide)⟩
theorem bd_le {R : List Int} {c : Int} (hR : Bd R c) (hc : c ≤ 100) (t : Nat) : 0 ≤ R.getD t 0 ∧ R.getD t 0 ≤ 1000000000000000 :=
  ⟨(hR.2 t).1, Int.le_trans (hR.2 t).2 (by omega)⟩
theorem bd_up (x m c : Int) (h0 : 0 ≤ x) (h1 : x ≤ c * 1000000000000) (m0 : 0 ≤ m) (m1 : m ≤ 1000000000000) : 0 ≤ x + m ∧ x + m ≤ (c + 1) * 1000000000000 := by omega
theorem bd_same (x c : Int) (h0 : 0 ≤ x) (h1 : x ≤ c * 1000000000000) : 0 ≤ x ∧ x ≤ (c + 1) * 1000000000000 := by omega
theorem lti {a b : Nat} (h : a < b) : ((a : Nat) : Int) < ((b : Nat) : Int) := Int.ofNat_lt.mpr h
theorem lt4 (j : Nat) (h : j < 4) : (j : Int) < 4 := by omega
theorem nni (a : Nat) : (0 : Int) ≤ ((a : Nat) : Int) := Int.natCast_nonneg a
theorem mul_step (k : Nat) (a b : Int) (P Q R : List Int) (c : Int) (i j : Nat) (hi : i < 4) (hj : j < 4) (hP : Lm P) (hQ : Lm Q) (hR : Bd R c) (h0 : 0 ≤ c) (hc : c ≤ 100) :
    foolscapref01_Mul.l1 (k + 1) a b P Q R (i : Int) (j : Int) = foolscapref01_Mul.l1 k a b P Q (stp P Q i R j) (i : Int) ((j + 1 : Nat) : Int) ∧ Bd (stp P Q i R j) (c + 1) := by
  have hij : i + j < R.length := by rw [hR.1]; omega
  have hil : i < P.length := by rw [hP.1]; exact hi
  have hjl : j < Q.length := by rw [hQ.1]; exact hj
  have hm := prod_le (hP.2 i) (hQ.2 j)
  constructor
  · rw [foolscapref01_Mul.l1, w_ij i j hi hj, w_s j (by omega), if_pos (lt4 j hj), if_pos (nni _), if_pos (lti hij), if_pos (nni i), if_pos (lti hil), if_pos (nni j), if_pos (lti hjl), rdn, rdn, rdn, Int.toNat_natCast]
    have hr := bd_le hR hc (i + j)
    rw [w_add _ _ hr.1 hr.2 hm.1 hm.2]
    rfl
  · refine ⟨by unfold stp; rw [List.length_set]; exact hR.1, fun t => ?_⟩
    unfold stp
    rw [set_get]
    split
    · exact bd_up _ _ c (hR.2 (i + j)).1 (hR.2 (i + j)).2 hm.1 hm.2
    · exact bd_same _ c (hR.2 t).1 (hR.2 t).2
def row (P Q : List Int) (i : Nat) (R : List Int) : List Int := stp P Q i (stp P Q i (stp P Q i (stp P Q i R 0) 1) 2) 3
theorem mul_row (k : Nat) (a b : Int) (P Q R : List Int) (c : Int) (i : Nat) (hi : i < 4) (hP : Lm P) (hQ : Lm Q) (hR : Bd R c) (h0 : 0 ≤ c) (hc : c ≤ 90) :
    foolscapref01_Mul.l0 (k + 6) a b P Q R (i : Int) = foolscapref01_Mul.l0 k a b P Q (row P Q i R) ((i + 1 : Nat) : Int) ∧ Bd (row P Q i R) (c + 4) := by
  obtain ⟨e0, b0⟩ := mul_step (k + 4) a b P Q R c i 0 hi (by omega) hP hQ hR h0 (by omega)
  obtain ⟨e1, b1⟩ := mul_step (k + 3) a b P Q _ (c + 1) i 1 hi (by omega) hP hQ b0 (by omega) (by omega)
  obtain ⟨e2, b2⟩ := mul_step (k + 2) a b P Q _ (c + 1 + 1) i 2 hi (by omega) hP hQ b1 (by omega) (by omega)
  obtain ⟨e3, b3⟩ := mul_step (k + 1) a b P Q _ (c + 1 + 1 + 1) i 3 hi (by omega) hP hQ b2 (by omega) (by omega)
  have w : wrap64 ((i : Int) + 1) = ((i + 1 : Nat) : Int) := by unfold wrap64; omega
  constructor
  · rw [foolscapref01_Mul.l0, if_pos (by omega), show (0 : Int) = ((0 : Nat) : Int) from rfl, e0, e1, e2, e3, foolscapref01_Mul.l1, if_neg (by decide), w]
    rfl
  · rw [show c + 4 = c + 1 + 1 + 1 + 1 by omega]; exact b3
def cst (R : List Int) (i : Nat) : List Int := (R.set (i + 1) (R.getD (i + 1) 0 + R.getD i 0 / 1000000)).set i (R.getD i 0 % 1000000)
theorem car_step (k : Nat) (a b : Int) (R : List Int) (c : Int) (i : Nat) (hi : i < 7) (hR : Bd R c) (h0 : 0 ≤ c) (hc : c ≤ 100) :
    foolscapref01_Mul.l2 (k + 1) a b R (i : Int) = foolscapref01_Mul.l2 k a b (cst R i) ((i + 1 : Nat) : Int) ∧ Bd (cst R i) (c + 1) := by
  have hrl := hR.1
  have h1 := hR.2 i
  have h2 := hR.2 (i + 1)
  have w2 : wrap64 ((i : Int) + 1) = ((i + 1 : Nat) : Int) := by unfold wrap64; omega
  have g1 : (R.set (i + 1) (R.getD (i + 1) 0 + R.getD i 0 / 1000000)).getD i 0 = R.getD i 0 := by rw [set_get, if_neg (by omega)]
  constructor
  · rw [foolscapref01_Mul.l2, w2, if_pos (by omega), if_pos (by omega), if_pos (by omega), if_pos (by omega), if_pos (by omega), Option.bind_some, rdn, rdn, rdn, Int.toNat_natCast, Int.toNat_natCast]
    unfold cst
    have e1 : wrap64 (Int.tdiv (R.getD i 0) 1000000) = R.getD i 0 / 1000000 := by
      generalize R.getD i 0 = r at h1
      rw [Int.tdiv_eq_ediv_of_nonneg h1.1]; unfold wrap64; omega
    have e2 : wrap64 (R.getD (i + 1) 0 + R.getD i 0 / 1000000) = R.getD (i + 1) 0 + R.getD i 0 / 1000000 := by
      generalize R.getD i 0 = r at h1
      generalize R.getD (i + 1) 0 = s at h2
      unfold wrap64; omega
    rw [e1, e2, g1, Int.tmod_eq_emod_of_nonneg h1.1]
  · refine ⟨by unfold cst; rw [List.length_set, List.length_set]; exact hrl, fun t => ?_⟩
    unfold cst
    rw [set_get, set_get, List.length_set]
    have ht := hR.2 t
    generalize R.getD i 0 = r at h1
    generalize R.getD (i + 1) 0 = s at h2
    generalize R.getD t 0 = u at ht
    split
    · omega
    · split
      · omega
      · omega
end Go.Proofs.Ytbgiehmpdligdaa.MI
namespace Go.Proofs.Ytbgiehmpdligdaa.MI
open Go Go.RowKit Go.Proofs.Ytbgiehmpdligdaa.PW MA MB MC
open Go.Proofs.YtbgiehmpdligdaaW.PrintWords Go.Proofs.YtbgiehmpdligdaaW.PrintMore

theorem bd_zero : Bd (List.replicate 8 0) 0 := by
  refine ⟨rfl, fun i => ?_⟩
  have : (List.replicate 8 (0 : Int)).getD i 0 = 0 := by
    rw [List.getD, List.getElem?_replicate]; split <;> rfl
  rw [this]; exact ⟨by decide, by decide⟩
def rows (P Q : List Int) : List Int := row P Q 3 (row P Q 2 (row P Q 1 (row P Q 0 (List.replicate 8 0))))
theorem mul_rows (k : Nat) (a b : Int) (P Q : List Int) (hP : Lm P) (hQ : Lm Q) :
    foolscapref01_Mul.l0 (k + 25) a b P Q (List.replicate 8 0) 0 = foolscapref01_Mul.l2 k a b (rows P Q) 0 ∧ Bd (rows P Q) 16 := by
  obtain ⟨e0, b0⟩ := mul_row (k + 19) a b P Q _ 0 0 (by decide) hP hQ bd_zero (by decide) (by decide)
  obtain ⟨e1, b1⟩ := mul_row (k + 13) a b P Q _ _ 1 (by decide) hP hQ b0 (by decide) (by decide)
  obtain ⟨e2, b2⟩ := mul_row (k + 7) a b P Q _ _ 2 (by decide) hP hQ b1 (by decide) (by decide)
  obtain ⟨e3, b3⟩ := mul_row (k + 1) a b P Q _ _ 3 (by decide) hP hQ b2 (by decide) (by decide)
  refine ⟨?_, b3⟩
  refine Eq.trans e0 (Eq.trans e1 (Eq.trans e2 (Eq.trans e3 ?_)))
  rw [foolscapref01_Mul.l0, if_neg (by decide)]
  rfl
theorem row0 (p0 p1 p2 p3 q0 q1 q2 q3 a0 a1 a2 a3 a4 a5 a6 a7 : Int) : row [p0, p1, p2, p3] [q0, q1, q2, q3] 0 [a0, a1, a2, a3, a4, a5, a6, a7] = [a0 + p0 * q0, a1 + p0 * q1, a2 + p0 * q2, a3 + p0 * q3, a4, a5, a6, a7] := rfl
theorem row1 (p0 p1 p2 p3 q0 q1 q2 q3 a0 a1 a2 a3 a4 a5 a6 a7 : Int) : row [p0, p1, p2, p3] [q0, q1, q2, q3] 1 [a0, a1, a2, a3, a4, a5, a6, a7] = [a0, a1 + p1 * q0, a2 + p1 * q1, a3 + p1 * q2, a4 + p1 * q3, a5, a6, a7] := rfl
theorem row2 (p0 p1 p2 p3 q0 q1 q2 q3 a0 a1 a2 a3 a4 a5 a6 a7 : Int) : row [p0, p1, p2, p3] [q0, q1, q2, q3] 2 [a0, a1, a2, a3, a4, a5, a6, a7] = [a0, a1, a2 + p2 * q0, a3 + p2 * q1, a4 + p2 * q2, a5 + p2 * q3, a6, a7] := rfl
theorem row3 (p0 p1 p2 p3 q0 q1 q2 q3 a0 a1 a2 a3 a4 a5 a6 a7 : Int) : row [p0, p1, p2, p3] [q0, q1, q2, q3] 3 [a0, a1, a2, a3, a4, a5, a6, a7] = [a0, a1, a2, a3 + p3 * q0, a4 + p3 * q1, a5 + p3 * q2, a6 + p3 * q3, a7] := rfl
theorem rows_is (p0 p1 p2 p3 q0 q1 q2 q3 : Int) : rows [p0, p1, p2, p3] [q0, q1, q2, q3] =
    [0 + p0 * q0, 0 + p0 * q1 + p1 * q0, 0 + p0 * q2 + p1 * q1 + p2 * q0, 0 + p0 * q3 + p1 * q2 + p2 * q1 + p3 * q0, 0 + p1 * q3 + p2 * q2 + p3 * q1, 0 + p2 * q3 + p3 * q2, 0 + p3 * q3, 0] := by
  unfold rows
  rw [show List.replicate 8 (0 : Int) = [0, 0, 0, 0, 0, 0, 0, 0] from rfl, row0, row1, row2, row3]
def cars (R : List Int) : List Int := cst (cst (cst (cst (cst (cst (cst R 0) 1) 2) 3) 4) 5) 6
theorem car_all (k : Nat) (a b : Int) (R : List Int) (hR : Bd R 16) : foolscapref01_Mul.l2 (k + 7) a b R 0 = foolscapref01_Mul.l2 k a b (cars R) 7 ∧ Bd (cars R) 23 := by
  obtain ⟨e0, b0⟩ := car_step (k + 6) a b R _ 0 (by decide) hR (by decide) (by decide)
  obtain ⟨e1, b1⟩ := car_step (k + 5) a b _ _ 1 (by decide) b0 (by decide) (by decide)
  obtain ⟨e2, b2⟩ := car_step (k + 4) a b _ _ 2 (by decide) b1 (by decide) (by decide)
  obtain ⟨e3, b3⟩ := car_step (k + 3) a b _ _ 3 (by decide) b2 (by decide) (by decide)
  obtain ⟨e4, b4⟩ := car_step (k + 2) a b _ _ 4 (by decide) b3 (by decide) (by decide)
  obtain ⟨e5, b5⟩ := car_step (k + 1) a b _ _ 5 (by decide) b4 (by decide) (by decide)
  obtain ⟨e6, b6⟩ := car_step k a b _ _ 6 (by decide) b5 (by decide) (by decide)
  exact ⟨Eq.trans e0 (Eq.trans e1 (Eq.trans e2 (Eq.trans e3 (Eq.trans e4 (Eq.trans e5 e6))))), b6⟩
theorem cars_is (c0 c1 c2 c3 c4 c5 c6 c7 s1 s2 s3 s4 s5 s6 s7 : Int) (h1 : s1 = c1 + c0 / 1000000) (h2 : s2 = c2 + s1 / 1000000) (h3 : s3 = c3 + s2 / 1000000) (h4 : s4 = c4 + s3 / 1000000) (h5 : s5 = c5 + s4 / 1000000) (h6 : s6 = c6 + s5 / 1000000) (h7 : s7 = c7 + s6 / 1000000) :
    cars [c0, c1, c2, c3, c4, c5, c6, c7] = [c0 % 1000000, s1 % 1000000, s2 % 1000000, s3 % 1000000, s4 % 1000000, s5 % 1000000, s6 % 1000000, s7] := by
  subst h7 h6 h5 h4 h3 h2 h1
  rfl
theorem even_eq (n r : Int) (hn : 0 ≤ n) (hn2 : n ≤ 4000000000000000000) (hr : 0 ≤ r) (hr2 : r < 1000000) :
    foolscapref01_even.f n r 1000000 = some (n + (if 1000000 < 2 * r ∨ (2 * r = 1000000 ∧ n % 2 = 1) then 1 else 0)) := by
  unfold foolscapref01_even.f
  have w : wrap64 (1000000 - r) = 1000000 - r := by unfold wrap64; omega
  have w2 : wrap64 (n + 1) = n + 1 := by unfold wrap64; omega
  rw [w, w2, Int.tmod_eq_emod_of_nonneg hn]
  clear w w2
  by_cases c : r > 1000000 - r
  · rw [if_pos c, if_pos (Or.inl (by omega))]
  · rw [if_neg c]
    by_cases c2 : r = 1000000 - r
    · rw [if_pos c2]
      by_cases c3 : n % 2 = 1
      · rw [if_pos c3, if_pos (Or.inr ⟨by omega, c3⟩)]
      · rw [if_neg c3, if_neg (by omega), Int.add_zero]
    · rw [if_neg c2, if_neg (by omega), Int.add_zero]
theorem expand (p0 p1 p2 p3 q0 q1 q2 q3 : Int) : (p0 + 1000000 * p1 + 1000000000000 * p2 + 1000000000000000000 * p3) * (q0 + 1000000 * q1 + 1000000000000 * q2 + 1000000000000000000 * q3) =
    (0 + p0 * q0) + 1000000 * (0 + p0 * q1 + p1 * q0) + 1000000000000 * (0 + p0 * q2 + p1 * q1 + p2 * q0) + 1000000000000000000 * (0 + p0 * q3 + p1 * q2 + p2 * q1 + p3 * q0) + 1000000000000000000000000 * (0 + p1 * q3 + p2 * q2 + p3 * q1) + 1000000000000000000000000000000 * (0 + p2 * q3 + p3 * q2) + 1000000000000000000000000000000000000 * (0 + p3 * q3) := by
  grind
end Go.Proofs.Ytbgiehmpdligdaa.MI
namespace Go.Proofs.Ytbgiehmpdligdaa.MI
open Go Go.RowKit Go.Proofs.Ytbgiehmpdligdaa.PW MA MB MC
open Go.Proofs.YtbgiehmpdligdaaW.PrintWords Go.Proofs.YtbgiehmpdligdaaW.PrintMore

theorem sum_car (c0 c1 c2 c3 c4 c5 c6 s1 s2 s3 s4 s5 s6 s7 : Int) (h1 : s1 = c1 + c0 / 1000000) (h2 : s2 = c2 + s1 / 1000000) (h3 : s3 = c3 + s2 / 1000000) (h4 : s4 = c4 + s3 / 1000000) (h5 : s5 = c5 + s4 / 1000000) (h6 : s6 = c6 + s5 / 1000000) (h7 : s7 = 0 + s6 / 1000000) :
    c0 + 1000000 * c1 + 1000000000000 * c2 + 1000000000000000000 * c3 + 1000000000000000000000000 * c4 + 1000000000000000000000000000000 * c5 + 1000000000000000000000000000000000000 * c6 =
    c0 % 1000000 + 1000000 * (s1 % 1000000 + 1000000 * (s2 % 1000000 + 1000000 * (s3 % 1000000 + 1000000 * (s4 % 1000000 + 1000000 * (s5 % 1000000 + 1000000 * (s6 % 1000000 + 1000000 * s7)))))) := by
  omega
def endN (a b D d0 : Int) : Int × Int := if 1000000000000000000 < D + (if 1000000 < 2 * d0 ∨ (2 * d0 = 1000000 ∧ D % 2 = 1) then 1 else 0) then (0, 3) else
  (if (decide (a < 0) != decide (b < 0)) = true then -(D + (if 1000000 < 2 * d0 ∨ (2 * d0 = 1000000 ∧ D % 2 = 1) then 1 else 0)) else D + (if 1000000 < 2 * d0 ∨ (2 * d0 = 1000000 ∧ D % 2 = 1) then 1 else 0), 0)
theorem bit_le (p : Prop) [Decidable p] : (0 : Int) ≤ (if p then 1 else 0) ∧ (if p then (1 : Int) else 0) ≤ 1 := by split <;> decide
theorem fin_j4 (k : Nat) (a b d0 d1 d2 d3 d4 d5 d6 s7 : Int) (h0 : 0 ≤ d0 ∧ d0 < 1000000) (h1 : 0 ≤ d1 ∧ d1 < 1000000) (h2 : 0 ≤ d2 ∧ d2 < 1000000) (h3 : 0 ≤ d3 ∧ d3 < 1000000) (h4 : 0 ≤ d4 ∧ d4 ≤ 1) :
    foolscapref01_Mul.j4 (k + 1) a b [d0, d1, d2, d3, d4, d5, d6, s7] false = some (endN a b (d1 + 1000000 * (d2 + 1000000 * (d3 + 1000000 * d4))) d0) := by
  have w1 : wrap64 (1000000 * d4) = 1000000 * d4 := by unfold wrap64; omega
  have w2 : wrap64 (d3 + 1000000 * d4) = d3 + 1000000 * d4 := by unfold wrap64; omega
  have w3 : wrap64 (1000000 * (d3 + 1000000 * d4)) = 1000000 * (d3 + 1000000 * d4) := by unfold wrap64; omega
  have w4 : wrap64 (d2 + 1000000 * (d3 + 1000000 * d4)) = d2 + 1000000 * (d3 + 1000000 * d4) := by unfold wrap64; omega
  have w5 : wrap64 (1000000 * (d2 + 1000000 * (d3 + 1000000 * d4))) = 1000000 * (d2 + 1000000 * (d3 + 1000000 * d4)) := by unfold wrap64; omega
  have w6 : wrap64 (d1 + 1000000 * (d2 + 1000000 * (d3 + 1000000 * d4))) = d1 + 1000000 * (d2 + 1000000 * (d3 + 1000000 * d4)) := by unfold wrap64; omega
  have e0 : rd [d0, d1, d2, d3, d4, d5, d6, s7] 0 = d0 := rfl
  have e1 : rd [d0, d1, d2, d3, d4, d5, d6, s7] 1 = d1 := rfl
  have e2 : rd [d0, d1, d2, d3, d4, d5, d6, s7] 2 = d2 := rfl
  have e3 : rd [d0, d1, d2, d3, d4, d5, d6, s7] 3 = d3 := rfl
  have e4 : rd [d0, d1, d2, d3, d4, d5, d6, s7] 4 = d4 := rfl
  have el : (([d0, d1, d2, d3, d4, d5, d6, s7] : List Int).length : Int) = 8 := rfl
  rw [foolscapref01_Mul.j4, if_neg (by decide), el, if_pos (by decide), if_pos (by decide), if_pos (by decide), if_pos (by decide), if_pos (by decide), e0, e1, e2, e3, e4, w1, w2, w3, w4, w5, w6]
  clear w1 w2 w3 w4 w5 w6 e0 e1 e2 e3 e4 el
  have hD : 0 ≤ d1 + 1000000 * (d2 + 1000000 * (d3 + 1000000 * d4)) ∧ d1 + 1000000 * (d2 + 1000000 * (d3 + 1000000 * d4)) ≤ 4000000000000000000 := by omega
  generalize d1 + 1000000 * (d2 + 1000000 * (d3 + 1000000 * d4)) = D at hD
  rw [even_eq D d0 hD.1 hD.2 h0.1 h0.2, Option.bind_some]
  unfold endN
  have hb := bit_le (1000000 < 2 * d0 ∨ (2 * d0 = 1000000 ∧ D % 2 = 1))
  generalize (if 1000000 < 2 * d0 ∨ (2 * d0 = 1000000 ∧ D % 2 = 1) then (1 : Int) else 0) = e at hb
  have w : wrap64 (-(D + e)) = -(D + e) := by unfold wrap64; omega
  rw [w]
  split
  · rfl
  · split <;> rfl
theorem fin_l2 (k : Nat) (a b d0 d1 d2 d3 d4 d5 d6 s7 : Int) (h0 : 0 ≤ d0 ∧ d0 < 1000000) (h1 : 0 ≤ d1 ∧ d1 < 1000000) (h2 : 0 ≤ d2 ∧ d2 < 1000000) (h3 : 0 ≤ d3 ∧ d3 < 1000000) (h4 : 0 ≤ d4 ∧ d4 < 1000000) (h5 : 0 ≤ d5 ∧ d5 < 1000000) (h6 : 0 ≤ d6 ∧ d6 < 1000000) (h7 : 0 ≤ s7 ∧ s7 ≤ 1000000000000000) :
    foolscapref01_Mul.l2 (k + 2) a b [d0, d1, d2, d3, d4, d5, d6, s7] 7 = some (endN a b (d1 + 1000000 * (d2 + 1000000 * (d3 + 1000000 * (d4 + 1000000 * (d5 + 1000000 * (d6 + 1000000 * s7)))))) d0) := by
  have w1 : wrap64 (d5 + d6) = d5 + d6 := by unfold wrap64; omega
  have w2 : wrap64 (d5 + d6 + s7) = d5 + d6 + s7 := by unfold wrap64; omega
  have e4 : rd [d0, d1, d2, d3, d4, d5, d6, s7] 4 = d4 := rfl
  have e5 : rd [d0, d1, d2, d3, d4, d5, d6, s7] 5 = d5 := rfl
  have e6 : rd [d0, d1, d2, d3, d4, d5, d6, s7] 6 = d6 := rfl
  have e7 : rd [d0, d1, d2, d3, d4, d5, d6, s7] 7 = s7 := rfl
  have el : (([d0, d1, d2, d3, d4, d5, d6, s7] : List Int).length : Int) = 8 := rfl
  rw [foolscapref01_Mul.l2, if_neg (by decide), el, if_pos (by decide), if_pos (by decide), if_pos (by decide), e5, e6, e7, w1, w2]
  clear w1 w2 e5 e6 e7 el
  have big : ∀ D : Int, 1000000000000000000 < D → endN a b D d0 = (0, 3) := by
    intro D hD
    have hb := bit_le (1000000 < 2 * d0 ∨ (2 * d0 = 1000000 ∧ D % 2 = 1))
    unfold endN
    generalize (if 1000000 < 2 * d0 ∨ (2 * d0 = 1000000 ∧ D % 2 = 1) then (1 : Int) else 0) = e at hb
    rw [if_pos (by omega)]
  by_cases c : d5 + d6 + s7 > 0
  · rw [if_pos c, foolscapref01_Mul.j4, if_pos rfl, big _ (by omega)]
  · rw [if_neg c, if_pos (by decide), e4]
    by_cases c2 : d4 > 1
    · rw [decide_eq_true c2, foolscapref01_Mul.j4, if_pos rfl, big _ (by omega)]
    · rw [decide_eq_false c2, fin_j4 k a b d0 d1 d2 d3 d4 d5 d6 s7 h0 h1 h2 h3 ⟨h4.1, by omega⟩]
      have z5 : d5 = 0 := by omega
      have z6 : d6 = 0 := by omega
      have z7 : s7 = 0 := by omega
      subst z5 z6 z7
      simp only [Int.mul_zero, Int.add_zero]
theorem lm4 (p0 p1 p2 p3 : Int) (h0 : 0 ≤ p0 ∧ p0 ≤ 1000000) (h1 : 0 ≤ p1 ∧ p1 ≤ 1000000) (h2 : 0 ≤ p2 ∧ p2 ≤ 1000000) (h3 : 0 ≤ p3 ∧ p3 ≤ 1000000) : Lm [p0, p1, p2, p3] :=
  ⟨rfl, fun i => match i with | 0 => h0 | 1 => h1 | 2 => h2 | 3 => h3 | _ + 4 => ⟨Int.le_refl 0, by show (0 : Int) ≤ 1000000; decide⟩⟩
end Go.Proofs.Ytbgiehmpdligdaa.MI
namespace Go.Proofs.Ytbgiehmpdligdaa.MI
open Go Go.RowKit Go.Proofs.Ytbgiehmpdligdaa.PW MA MB MC
open Go.Proofs.YtbgiehmpdligdaaW.PrintWords Go.Proofs.YtbgiehmpdligdaaW.PrintMore

/-- What a product comes to, by the document. -/
def mulN (a b : Int) : Int × Int := if rdiv (a.natAbs * b.natAbs) 1000000 ≤ 1000000000000000000 then (sgn a b (rdiv (a.natAbs * b.natAbs) 1000000), 0) else (0, 3)
theorem end_is (a b : Int) (N : Nat) (D d0 : Int) (h0 : 0 ≤ d0 ∧ d0 < 1000000) (hN : (N : Int) = d0 + 1000000 * D) :
    endN a b D d0 = if rdiv N 1000000 ≤ 1000000000000000000 then (sgn a b (rdiv N 1000000), 0) else (0, 3) := by
  have eD : D = ((N / 1000000 : Nat) : Int) := by omega
  have er : d0 = ((N % 1000000 : Nat) : Int) := by omega
  have eb : (if 1000000 < 2 * d0 ∨ (2 * d0 = 1000000 ∧ D % 2 = 1) then (1 : Int) else 0) = (((if 1000000 < 2 * (N % 1000000) ∨ (2 * (N % 1000000) = 1000000 ∧ N / 1000000 % 2 = 1) then 1 else 0) : Nat) : Int) := by
    by_cases c : 1000000 < 2 * (N % 1000000) ∨ (2 * (N % 1000000) = 1000000 ∧ N / 1000000 % 2 = 1)
    · rw [if_pos c, if_pos (by omega)]; rfl
    · rw [if_neg c, if_neg (by omega)]; rfl
  have et : D + (if 1000000 < 2 * d0 ∨ (2 * d0 = 1000000 ∧ D % 2 = 1) then (1 : Int) else 0) = ((rdiv N 1000000 : Nat) : Int) := by
    rw [eb, eD]; unfold rdiv; rw [Int.natCast_add]
  unfold endN
  rw [et]
  unfold sgn
  by_cases c : rdiv N 1000000 ≤ 1000000000000000000
  · rw [if_neg (by omega), if_pos c]
  · rw [if_pos (by omega), if_neg c]
theorem limbs_sum (x : Nat) (h : x ≤ 1000000000000000000) : (x : Int) = ((x % 1000000 : Nat) : Int) + 1000000 * ((x / 1000000 % 1000000 : Nat) : Int) + 1000000000000 * ((x / 1000000 / 1000000 % 1000000 : Nat) : Int) + 1000000000000000000 * ((x / 1000000 / 1000000 / 1000000 % 1000000 : Nat) : Int) := by omega
theorem bnd (x : Nat) : 0 ≤ ((x % 1000000 : Nat) : Int) ∧ ((x % 1000000 : Nat) : Int) ≤ 1000000 := by omega
theorem mod_b (x : Int) : 0 ≤ x % 1000000 ∧ x % 1000000 < 1000000 := by omega
theorem core (k : Nat) (a b : Int) (p0 p1 p2 p3 q0 q1 q2 q3 : Int) (x y : Nat) (hP : Lm [p0, p1, p2, p3]) (hQ : Lm [q0, q1, q2, q3])
    (hx : (x : Int) = p0 + 1000000 * p1 + 1000000000000 * p2 + 1000000000000000000 * p3) (hy : (y : Int) = q0 + 1000000 * q1 + 1000000000000 * q2 + 1000000000000000000 * q3) :
    foolscapref01_Mul.l0 (k + 2 + 7 + 25) a b [p0, p1, p2, p3] [q0, q1, q2, q3] (List.replicate 8 0) 0 = some (if rdiv (x * y) 1000000 ≤ 1000000000000000000 then (sgn a b (rdiv (x * y) 1000000), 0) else (0, 3)) := by
  obtain ⟨e0, b0⟩ := mul_rows (k + 2 + 7) a b _ _ hP hQ
  obtain ⟨e1, b1⟩ := car_all (k + 2) a b _ b0
  have hN : ((x * y : Nat) : Int) = (p0 + 1000000 * p1 + 1000000000000 * p2 + 1000000000000000000 * p3) * (q0 + 1000000 * q1 + 1000000000000 * q2 + 1000000000000000000 * q3) := by
    rw [Int.natCast_mul, hx, hy]
  rw [expand] at hN
  rw [rows_is] at e0 e1 b1
  rw [e0, e1]
  clear e0 e1 b0 hP hQ hx hy
  generalize 0 + p0 * q0 = c0 at *
  generalize 0 + p0 * q1 + p1 * q0 = c1 at *
  generalize 0 + p0 * q2 + p1 * q1 + p2 * q0 = c2 at *
  generalize 0 + p0 * q3 + p1 * q2 + p2 * q1 + p3 * q0 = c3 at *
  generalize 0 + p1 * q3 + p2 * q2 + p3 * q1 = c4 at *
  generalize 0 + p2 * q3 + p3 * q2 = c5 at *
  generalize 0 + p3 * q3 = c6 at *
  rw [sum_car c0 c1 c2 c3 c4 c5 c6 _ _ _ _ _ _ _ rfl rfl rfl rfl rfl rfl rfl] at hN
  rw [cars_is c0 c1 c2 c3 c4 c5 c6 0 _ _ _ _ _ _ _ rfl rfl rfl rfl rfl rfl rfl] at b1 ⊢
  have h7 := bd_le b1 (by decide) 7
  have g7 : ∀ d0 d1 d2 d3 d4 d5 d6 s7 : Int, List.getD [d0, d1, d2, d3, d4, d5, d6, s7] 7 0 = s7 := fun _ _ _ _ _ _ _ _ => rfl
  rw [g7] at h7
  clear b1 g7
  rw [fin_l2 k a b _ _ _ _ _ _ _ _ (mod_b _) (mod_b _) (mod_b _) (mod_b _) (mod_b _) (mod_b _) (mod_b _) h7]
  rw [end_is a b (x * y) _ _ (mod_b _) hN]
theorem rmul_eq {a b : Int} (ha : fits a) (hb : fits b) (k : Nat) (hk : 50 ≤ k) : foolscapref01_Mul.f k a b = some (mulN a b) := by
  obtain ⟨k, rfl⟩ : ∃ q, k = q + 2 + 7 + 25 + 1 := ⟨k - 35, by omega⟩
  have ⟨a1, a2⟩ := ha
  have ⟨b1, b2⟩ := hb
  have hx : a.natAbs ≤ 1000000000000000000 := by omega
  have hy : b.natAbs ≤ 1000000000000000000 := by omega
  unfold foolscapref01_Mul.f
  rw [rfits_eq, rfits_eq, decide_eq_true ha, decide_eq_true hb, Option.bind_some, Option.bind_some, if_pos rfl, foolscapref01_Mul.j0, if_neg (by decide), rsize_eq a (by omega) (by omega), rsize_eq b (by omega) (by omega), Option.bind_some, limbs_eq _ _ hx (by omega), Option.bind_some, Option.bind_some, limbs_eq _ _ hy (by omega), Option.bind_some, if_pos (by decide)]
  exact core k a b _ _ _ _ _ _ _ _ a.natAbs b.natAbs (lm4 _ _ _ _ (bnd _) (bnd _) (bnd _) (bnd _)) (lm4 _ _ _ _ (bnd _) (bnd _) (bnd _) (bnd _)) (limbs_sum _ hx) (limbs_sum _ hy)
end Go.Proofs.Ytbgiehmpdligdaa.MI
namespace Go.Proofs.Ytbgiehmpdligdaa.MI
open Go Go.RowKit Go.Proofs.Ytbgiehmpdligdaa.PW MA MB MC
open Go.Proofs.YtbgiehmpdligdaaW.PrintWords Go.Proofs.YtbgiehmpdligdaaW.PrintMore

theorem long10 (N y : Nat) (hy : 0 < y) : 10 * N / y = 10 * (N / y) + 10 * (N % y) / y ∧ 10 * N % y = 10 * (N % y) % y := by
  have e : 10 * N = y * (10 * (N / y)) + 10 * (N % y) := by
    have h := Nat.div_add_mod N y
    generalize N / y = q at h
    generalize N % y = r at h
    rw [← h, Nat.mul_add, Nat.mul_left_comm]
  rw [e]
  exact ⟨Nat.mul_add_div hy _ _, Nat.mul_add_mod _ _ _⟩
theorem u10 (r : Nat) (h : r ≤ 1000000000000) : IntKind.u64.wrap (10 * (r : Int)) = ((10 * r : Nat) : Int) := by rw [IntKind.wrap_u64]; omega
theorem us (s : Nat) (h : s ≤ 10000000000000) : wrap64 (IntKind.u64.wrap (s : Int)) = (s : Int) := by rw [IntKind.wrap_u64]; unfold wrap64; omega
theorem w10 (q s : Nat) (h : q ≤ 1000000000000) (h2 : s ≤ 10000000000000) : wrap64 (wrap64 (10 * (q : Int)) + s) = ((10 * q + s : Nat) : Int) := by
  have w4 : wrap64 (10 * (q : Int)) = 10 * q := by unfold wrap64; omega
  rw [w4]; unfold wrap64; omega
theorem lt6 (i : Nat) (h : i < 6) : (i : Int) < 6 := by omega
theorem ne0 (y : Nat) (h : 0 < y) : ¬ (y : Int) = 0 := by omega
theorem div_step (k N y i : Nat) (a b : Int) (hi : i < 6) (hN : N ≤ 1000000000000) (hy : 0 < y) (hy2 : y ≤ 1000000000000000000) :
    foolscapref01_Div.l0 (k + 1) a b ((N / y : Nat) : Int) ((N % y : Nat) : Int) (y : Int) (i : Int) = foolscapref01_Div.l0 k a b ((10 * N / y : Nat) : Int) ((10 * N % y : Nat) : Int) (y : Int) ((i + 1 : Nat) : Int) := by
  have h1 : N / y ≤ 1000000000000 := Nat.le_trans (Nat.div_le_self _ _) hN
  have h2 : N % y ≤ 1000000000000 := Nat.le_trans (Nat.mod_le _ _) hN
  have h3 : 10 * (N % y) / y ≤ 10000000000000 := Nat.le_trans (Nat.div_le_self _ _) (Nat.mul_le_mul (Nat.le_refl 10) h2)
  have ⟨e1, e2⟩ := long10 N y hy
  rw [e1, e2]
  have t1 : Int.tdiv ((10 * (N % y) : Nat) : Int) (y : Int) = ((10 * (N % y) / y : Nat) : Int) := by rw [Int.tdiv_eq_ediv_of_nonneg (Int.natCast_nonneg _)]; rfl
  have t2 : Int.tmod ((10 * (N % y) : Nat) : Int) (y : Int) = ((10 * (N % y) % y : Nat) : Int) := by rw [Int.tmod_eq_emod_of_nonneg (Int.natCast_nonneg _)]; rfl
  rw [foolscapref01_Div.l0, if_pos (lt6 i hi), if_neg (ne0 y hy), u10 _ h2, t1, t2, us _ h3, w10 _ _ h1 h3, w_s i (Nat.lt_trans hi (by decide))]
theorem even_gen (q r y : Nat) (hq : q ≤ 4000000000000000000) (hr : r < y) (hy : y ≤ 1000000000000000000) :
    foolscapref01_even.f (q : Int) (r : Int) (y : Int) = some ((q + (if y < 2 * r ∨ (2 * r = y ∧ q % 2 = 1) then 1 else 0) : Nat) : Int) := by
  unfold foolscapref01_even.f
  have w : wrap64 ((y : Int) - r) = y - r := by unfold wrap64; omega
  have w2 : wrap64 ((q : Int) + 1) = ((q + 1 : Nat) : Int) := by unfold wrap64; omega
  rw [w, w2, Int.tmod_eq_emod_of_nonneg (by omega)]
  clear w w2
  by_cases c : (r : Int) > y - r
  · rw [if_pos c, if_pos (Or.inl (by omega))]
  · rw [if_neg c]
    by_cases c2 : (r : Int) = y - r
    · rw [if_pos c2]
      by_cases c3 : (q : Int) % 2 = 1
      · rw [if_pos c3, if_pos (Or.inr ⟨by omega, by omega⟩)]
      · rw [if_neg c3, if_neg (by omega), Nat.add_zero]
    · rw [if_neg c2, if_neg (by omega), Nat.add_zero]
theorem rdiv_unit {p : Int} (hp : fits p) (h0 : p ≠ 0) (k : Nat) (hk : 20 ≤ k) : foolscapref01_Div.f k 1000000 p = some (sgn 1000000 p (rdiv 1000000000000 p.natAbs), 0) := by
  obtain ⟨k, rfl⟩ : ∃ q, k = q + 1 + 1 + 1 + 1 + 1 + 1 + 1 + 1 := ⟨k - 8, by omega⟩
  have ⟨b1, b2⟩ := hp
  have hu : fits 1000000 := by decide
  have hy : 0 < p.natAbs := by omega
  have hy2 : p.natAbs ≤ 1000000000000000000 := by omega
  have e1 : foolscapref01_Size.f 1000000 = some ((1000000 : Nat) : Int) := by rw [rsize_eq 1000000 (by omega) (by omega)]; rfl
  unfold foolscapref01_Div.f
  rw [rfits_eq, rfits_eq, decide_eq_true hp, decide_eq_true hu, Option.bind_some, Option.bind_some, if_pos rfl, foolscapref01_Div.j0, if_neg (by decide), if_neg h0, e1, rsize_eq p (by omega) (by omega)]
  simp only [Option.bind_some]
  have hle : (1000000 : Nat) / p.natAbs ≤ 1000000 := Nat.div_le_self _ _
  have hml : (1000000 : Nat) % p.natAbs ≤ 1000000 := Nat.mod_le _ _
  have t1 : Int.tdiv ((1000000 : Nat) : Int) (p.natAbs : Int) = ((1000000 / p.natAbs : Nat) : Int) := by rw [Int.tdiv_eq_ediv_of_nonneg (by omega)]; rfl
  have t2 : Int.tmod ((1000000 : Nat) : Int) (p.natAbs : Int) = ((1000000 % p.natAbs : Nat) : Int) := by rw [Int.tmod_eq_emod_of_nonneg (by omega)]; rfl
  have w1 : wrap64 ((1000000 / p.natAbs : Nat) : Int) = ((1000000 / p.natAbs : Nat) : Int) := by
    generalize 1000000 / p.natAbs = z at hle
    unfold wrap64; omega
  have w2 : IntKind.u64.wrap ((1000000 % p.natAbs : Nat) : Int) = ((1000000 % p.natAbs : Nat) : Int) := by
    generalize 1000000 % p.natAbs = z at hml
    rw [IntKind.wrap_u64]; omega
  have w3 : IntKind.u64.wrap (p.natAbs : Int) = (p.natAbs : Int) := by rw [IntKind.wrap_u64]; omega
  rw [if_neg (by omega), if_neg (by omega), t1, t2, w1, w2, w3]
  have hs : foolscapref01_Size.f p = some (p.natAbs : Int) := rsize_eq p (by omega) (by omega)
  generalize p.natAbs = y at *
  rw [if_neg (by generalize 1000000 / y = z at hle; omega)]
  clear t1 t2 w1 w2 w3 e1
  rw [show (0 : Int) = ((0 : Nat) : Int) from rfl]
  rw [div_step _ 1000000 y 0 _ _ (by decide) (by decide) hy hy2, div_step _ (10 * 1000000) y (0 + 1) _ _ (by decide) (by decide) hy hy2, div_step _ (10 * (10 * 1000000)) y (0 + 1 + 1) _ _ (by decide) (by decide) hy hy2, div_step _ (10 * (10 * (10 * 1000000))) y (0 + 1 + 1 + 1) _ _ (by decide) (by decide) hy hy2, div_step _ (10 * (10 * (10 * (10 * 1000000)))) y (0 + 1 + 1 + 1 + 1) _ _ (by decide) (by decide) hy hy2, div_step _ (10 * (10 * (10 * (10 * (10 * 1000000))))) y (0 + 1 + 1 + 1 + 1 + 1) _ _ (by decide) (by decide) hy hy2]
  rw [show 10 * (10 * (10 * (10 * (10 * (10 * 1000000))))) = 1000000000000 from rfl]
  have hq : 1000000000000 / y ≤ 1000000000000 := Nat.div_le_self _ _
  have hr : 1000000000000 % y < y := Nat.mod_lt _ hy
  have wr : wrap64 ((1000000000000 % y : Nat) : Int) = ((1000000000000 % y : Nat) : Int) := by
    generalize 1000000000000 % y = z at hr
    unfold wrap64; omega
  rw [foolscapref01_Div.l0, if_neg (by decide), hs, Option.bind_some, wr, even_gen _ _ _ (Nat.le_trans hq (by decide)) hr hy2, Option.bind_some]
  have hv : rdiv 1000000000000 y ≤ 1000000000001 := Nat.le_trans (rdiv_le _ _) (Nat.add_le_add_right hq 1)
  have ev : 1000000000000 / y + (if y < 2 * (1000000000000 % y) ∨ (2 * (1000000000000 % y) = y ∧ 1000000000000 / y % 2 = 1) then 1 else 0) = rdiv 1000000000000 y := rfl
  rw [ev]
  clear ev wr hr hq hs
  unfold sgn
  generalize rdiv 1000000000000 y = v at hv
  have wn : wrap64 (-(v : Int)) = -(v : Int) := by unfold wrap64; omega
  rw [if_neg (by omega), wn]
  split <;> rfl
theorem rnd_is (x : Nat) : NW.rnd x = rdiv x 1000000 := by
  unfold NW.rnd rdiv
  split <;> split <;> omega
theorem mul_is {p n : Int} (hp : fits p) (hn : fits n) (hw : ¬ NW.Wraps (p.natAbs * n.natAbs)) : num_Mul.f p n = some (mulN p n) := by
  rw [mul_eq hp hn]
  unfold mulN
  have h1 := rdiv_ge (p.natAbs * n.natAbs) 1000000
  have h2 := rdiv_le (p.natAbs * n.natAbs) 1000000
  unfold NW.Wraps at hw
  have h3 : p.natAbs * n.natAbs < 18446744073709551615500000 → rdiv (p.natAbs * n.natAbs) 1000000 < 18446744073709551616 := by
    intro h; unfold rdiv; generalize p.natAbs * n.natAbs = P at h; split <;> omega
  generalize p.natAbs * n.natAbs = P at *
  by_cases c : 1000000 * 18446744073709551616 ≤ P
  · rw [if_pos c, if_neg (by omega)]
  · have h4 := h3 (by omega)
    rw [if_neg c, Nat.mod_eq_of_lt h4]
end Go.Proofs.Ytbgiehmpdligdaa.MI
namespace Go.Proofs.Ytbgiehmpdligdaa.MI
open Go Go.RowKit Go.Proofs.Ytbgiehmpdligdaa.PW MA MB MC
open Go.Proofs.YtbgiehmpdligdaaW.PrintWords Go.Proofs.YtbgiehmpdligdaaW.PrintMore

/-! ### factorials -/
theorem fact_same (k : Nat) : ∀ x p i : Int, maths_Fact.l0 k x p i = foolscapref15_Fact.l0 k x p i := by
  induction k with
  | zero => intro x p i; rfl
  | succ k ih => intro x p i; rw [maths_Fact.l0, foolscapref15_Fact.l0]; simp only [ih]
/-- The loop by the number of steps alone. -/
def fq : Nat → Int → Int → Int → Option (Int × Int)
  | 0, _, _, _ => none
  | k + 1, q, x4, x5 => if x5 ≤ q then (if (wrap64 (x4 * x5)) > 1000000000000 then (some (0, 5)) else (fq k q (wrap64 (x4 * x5)) (wrap64 (x5 + 1)))) else (some (wrap64 (x4 * 1000000), 0))
theorem fact_fq (k : Nat) : ∀ x p i : Int, maths_Fact.l0 k x p i = fq k (wrap64 (Int.tdiv x 1000000)) p i := by
  induction k with
  | zero => intro x p i; rfl
  | succ k ih => intro x p i; rw [maths_Fact.l0, fq]; simp only [ih]
theorem fq_big (q : Int) (hq : 20 ≤ q) : fq 99 q 1 2 = some (0, 5) := by
  have st : ∀ (k : Nat) (p i : Int), i ≤ 20 → fq (k + 1) q p i = if (wrap64 (p * i)) > 1000000000000 then (some (0, 5)) else (fq k q (wrap64 (p * i)) (wrap64 (i + 1))) := by
    intro k p i hi; rw [fq, if_pos (by omega)]
  rw [st 98 1 2 (by decide), if_neg (by decide +kernel), show wrap64 (1 * 2) = 2 from by decide +kernel, show wrap64 (2 + 1) = 3 from by decide +kernel]
  rw [st 97 2 3 (by decide), if_neg (by decide +kernel), show wrap64 (2 * 3) = 6 from by decide +kernel, show wrap64 (3 + 1) = 4 from by decide +kernel]
  rw [st 96 6 4 (by decide), if_neg (by decide +kernel), show wrap64 (6 * 4) = 24 from by decide +kernel, show wrap64 (4 + 1) = 5 from by decide +kernel]
  rw [st 95 24 5 (by decide), if_neg (by decide +kernel), show wrap64 (24 * 5) = 120 from by decide +kernel, show wrap64 (5 + 1) = 6 from by decide +kernel]
  rw [st 94 120 6 (by decide), if_neg (by decide +kernel), show wrap64 (120 * 6) = 720 from by decide +kernel, show wrap64 (6 + 1) = 7 from by decide +kernel]
  rw [st 93 720 7 (by decide), if_neg (by decide +kernel), show wrap64 (720 * 7) = 5040 from by decide +kernel, show wrap64 (7 + 1) = 8 from by decide +kernel]
  rw [st 92 5040 8 (by decide), if_neg (by decide +kernel), show wrap64 (5040 * 8) = 40320 from by decide +kernel, show wrap64 (8 + 1) = 9 from by decide +kernel]
  rw [st 91 40320 9 (by decide), if_neg (by decide +kernel), show wrap64 (40320 * 9) = 362880 from by decide +kernel, show wrap64 (9 + 1) = 10 from by decide +kernel]
  rw [st 90 362880 10 (by decide), if_neg (by decide +kernel), show wrap64 (362880 * 10) = 3628800 from by decide +kernel, show wrap64 (10 + 1) = 11 from by decide +kernel]
  rw [st 89 3628800 11 (by decide), if_neg (by decide +kernel), show wrap64 (3628800 * 11) = 39916800 from by decide +kernel, show wrap64 (11 + 1) = 12 from by decide +kernel]
  rw [st 88 39916800 12 (by decide), if_neg (by decide +kernel), show wrap64 (39916800 * 12) = 479001600 from by decide +kernel, show wrap64 (12 + 1) = 13 from by decide +kernel]
  rw [st 87 479001600 13 (by decide), if_neg (by decide +kernel), show wrap64 (479001600 * 13) = 6227020800 from by decide +kernel, show wrap64 (13 + 1) = 14 from by decide +kernel]
  rw [st 86 6227020800 14 (by decide), if_neg (by decide +kernel), show wrap64 (6227020800 * 14) = 87178291200 from by decide +kernel, show wrap64 (14 + 1) = 15 from by decide +kernel]
  rw [st 85 87178291200 15 (by decide), if_pos (by decide +kernel)]
theorem fq_small : ∀ q : Fin 20, (fq 99 ((q.val : Nat) : Int) 1 2).isSome = true := by decide +kernel
def factN (n : Int) : Int × Int := if fits n ∧ 0 ≤ n then (fq 99 (n / 1000000) 1 2).getD (0, 5) else (0, 5)
theorem fq_some (n : Int) (h : fits n ∧ 0 ≤ n) : fq 99 (wrap64 (Int.tdiv n 1000000)) 1 2 = some (factN n) := by
  have ⟨h1, h2⟩ := h.1
  have h3 := h.2
  have w : wrap64 (Int.tdiv n 1000000) = n / 1000000 := by rw [Int.tdiv_eq_ediv_of_nonneg h3]; unfold wrap64; omega
  unfold factN
  rw [w, if_pos h]
  by_cases c : 20 ≤ n / 1000000
  · rw [fq_big _ c]; rfl
  · have hs := fq_small ⟨(n / 1000000).toNat, by omega⟩
    have e : (((n / 1000000).toNat : Nat) : Int) = n / 1000000 := by omega
    rw [show ((⟨(n / 1000000).toNat, by omega⟩ : Fin 20).val : Nat) = (n / 1000000).toNat from rfl, e] at hs
    obtain ⟨v, hv⟩ := Option.isSome_iff_exists.mp hs
    rw [hv]; rfl
theorem fact_eq (n : Int) : maths_Fact.f 100 n = some (factN n) := by
  unfold maths_Fact.f
  rw [fits_eq, Option.bind_some]
  by_cases h : fits n
  · rw [decide_eq_true h, if_pos rfl, maths_Fact.j0]
    by_cases c : n < 0
    · rw [decide_eq_true c, if_pos rfl]; unfold factN; rw [if_neg (fun z => absurd z.2 (by omega))]
    · rw [decide_eq_false c, if_neg (by decide), fact_fq, fq_some n ⟨h, by omega⟩]
  · rw [decide_eq_false h, if_neg (by decide), maths_Fact.j0, if_pos rfl]; unfold factN; rw [if_neg (fun z => h z.1)]
theorem rfact_eq (n : Int) : foolscapref15_Fact.f 100 n = some (factN n) := by
  unfold foolscapref15_Fact.f
  rw [rfits_eq, Option.bind_some]
  by_cases h : fits n
  · rw [decide_eq_true h, if_pos rfl]
    by_cases c : n < 0
    · rw [if_pos c, foolscapref15_Fact.j0, if_pos rfl]; unfold factN; rw [if_neg (fun z => absurd z.2 (by omega))]
    · rw [if_neg c, foolscapref15_Fact.j0]
      by_cases c2 : n ≥ 20000000
      · rw [decide_eq_true c2, if_pos rfl]; unfold factN; rw [if_pos ⟨h, by omega⟩, fq_big _ (by omega)]; rfl
      · rw [decide_eq_false c2, if_neg (by decide), ← fact_same, fact_fq, fq_some n ⟨h, by omega⟩]
  · rw [decide_eq_false h, if_neg (by decide), foolscapref15_Fact.j0, if_pos rfl]; unfold factN; rw [if_neg (fun z => h z.1)]
end Go.Proofs.Ytbgiehmpdligdaa.MI
namespace Go.Proofs.Ytbgiehmpdligdaa.MI
open Go Go.RowKit Go.Proofs.Ytbgiehmpdligdaa.PW MA MB MC
open Go.Proofs.YtbgiehmpdligdaaW.PrintWords Go.Proofs.YtbgiehmpdligdaaW.PrintMore

/-! ### powers -/
theorem div_zero : num_Div.f 1000000 0 = some (0, 4) := by
  unfold num_Div.f
  rw [fits_eq, fits_eq, decide_eq_true (show fits 1000000 by decide), decide_eq_true (show fits 0 by decide), Option.bind_some, Option.bind_some, if_pos rfl, if_pos rfl, if_pos rfl]
theorem sgn_abs (a b : Int) (v : Nat) (h : v ≤ 1000000000000000000) : (sgn a b v).natAbs = v ∧ fits (sgn a b v) := by
  unfold sgn fits; split <;> omega
theorem w_t (t : Nat) (h : t ≤ 1000) : wrap64 ((t : Int) + 1) = ((t + 1 : Nat) : Int) := by unfold wrap64; omega
theorem w_ts (t : Nat) (h : t ≤ 1000) : wrap64 (((t + 1 : Nat) : Int) + 1) = ((t + 1 + 1 : Nat) : Int) := by unfold wrap64; omega
theorem last (n e p : Int) (k : Nat) (hk : 30 ≤ k) (hp : fits p) : ∃ r, (if e > 0 then some (p, (0 : Int)) else ((num_Div.f 1000000 p).bind fun bt167 => (if bt167.2 = 0 then (some (bt167.1, 0)) else (if bt167.2 = 4 then (some (0, 1)) else (some (0, 5)))))) = some r ∧
    (if e > 0 then some (p, (0 : Int)) else (if p = 0 then (some (0, 1)) else ((foolscapref01_Div.f k 1000000 p).bind fun bt151 => (if bt151.2 = 0 then (some (bt151.1, 0)) else (some (0, 5)))))) = some r := by
  by_cases c : e > 0
  · exact ⟨_, by rw [if_pos c], by rw [if_pos c]⟩
  · rw [if_neg c, if_neg c]
    by_cases c2 : p = 0
    · subst c2
      rw [div_zero, if_pos rfl]
      exact ⟨_, rfl, rfl⟩
    · rw [div_unit hp c2, if_neg c2, rdiv_unit hp c2 k (by omega)]
      exact ⟨_, rfl, rfl⟩
theorem loops (n e : Int) (K : Nat) (hn : fits n) (he : fits e) (hK : Int.tdiv (e.natAbs : Int) 1000000 = (K : Int)) (hK1 : 1 ≤ K) (hK2 : K ≤ 1000) : ∀ m t k (p : Int), t + m = K - 1 → m + 60 ≤ k → fits p → p.natAbs = NW.pw n.natAbs t → (∀ i, i ≤ t → NW.pw n.natAbs i ≤ 1000000000000000000) →
    ∃ r, maths_Power.l0 k n e p (((K - 1 : Nat) : Int)) (t : Int) = some r ∧ foolscapref15_Power.l0 k n e p ((t + 1 : Nat) : Int) = some r := by
  have ⟨e1, e2⟩ := he
  have hs : foolscapref01_Size.f e = some (e.natAbs : Int) := rsize_eq e (by omega) (by omega)
  have hw : wrap64 (K : Int) = (K : Int) := by unfold wrap64; omega
  clear e1 e2
  intro m
  induction m with
  | zero =>
    intro t k p ht hk hp hv ho
    obtain ⟨k, rfl⟩ : ∃ q, k = q + 1 := ⟨k - 1, by omega⟩
    obtain ⟨r, h1, h2⟩ := last n e p k (by omega) hp
    refine ⟨r, ?_, ?_⟩
    · rw [maths_Power.l0, if_neg (show ¬ (t : Int) < ((K - 1 : Nat) : Int) by clear hw hK hs; omega)]; exact h1
    · rw [foolscapref15_Power.l0, hs, Option.bind_some, hK, hw, if_neg (show ¬ ((t + 1 : Nat) : Int) < (K : Int) by clear hw hK hs; omega)]; exact h2
  | succ m ih =>
    intro t k p ht hk hp hv ho
    obtain ⟨k, rfl⟩ : ∃ q, k = q + 1 := ⟨k - 1, by omega⟩
    have hm := mul_is hp hn (by rw [hv]; exact NW.never n.natAbs t ho)
    have hr := rmul_eq hp hn k (by omega)
    rw [maths_Power.l0, if_pos (show (t : Int) < ((K - 1 : Nat) : Int) by clear hw hK hs; omega), hm, Option.bind_some, foolscapref15_Power.l0, hs, Option.bind_some, hK, hw, if_pos (show ((t + 1 : Nat) : Int) < (K : Int) by clear hw hK hs; omega), hr, Option.bind_some]
    have hpw : NW.pw n.natAbs (t + 1) = rdiv (p.natAbs * n.natAbs) 1000000 := by
      show NW.rnd (NW.pw n.natAbs t * n.natAbs) = _
      rw [rnd_is, hv]
    unfold mulN
    by_cases c : rdiv (p.natAbs * n.natAbs) 1000000 ≤ 1000000000000000000
    · have hsg := sgn_abs p n _ c
      rw [if_pos c, w_t t (by omega), w_ts t (by omega)]
      simp only [if_true]
      exact ih (t + 1) k _ (by omega) (by omega) hsg.2 (by rw [hsg.1, hpw]) (fun i hi => by
        rcases Nat.lt_or_ge t i with z | z
        · have : i = t + 1 := by omega
          rw [this, hpw]; exact c
        · exact ho i z)
    · rw [if_neg c]
      exact ⟨_, rfl, rfl⟩
/-- Both powers tell the same. -/
theorem power_both (n e : Int) : ∃ r, maths_Power.f 2000 n e = some r ∧ foolscapref15_Power.f 2000 n e = some r := by
  unfold maths_Power.f foolscapref15_Power.f
  rw [fits_eq, fits_eq, rfits_eq, rfits_eq, Option.bind_some, Option.bind_some, Option.bind_some, Option.bind_some]
  have bad : maths_Power.j0 2000 n e true = some (0, 5) ∧ foolscapref15_Power.j0 2000 n e true = some (0, 5) := ⟨by rw [maths_Power.j0, if_pos rfl], by rw [foolscapref15_Power.j0, if_pos rfl]⟩
  by_cases hn : fits n
  · by_cases he : fits e
    · have ⟨e1, e2⟩ := he
      rw [decide_eq_true hn, decide_eq_true he, if_pos rfl, if_pos rfl, if_pos rfl, if_pos rfl]
      by_cases c : Int.tmod e 1000000 = 0
      · have hs : foolscapref01_Size.f e = some (e.natAbs : Int) := rsize_eq e (by omega) (by omega)
        have hm : maths_size.f e = some (e.natAbs : Int) := msize_eq e (by omega) (by omega)
        rw [if_pos c, if_pos c, hm, hs, Option.bind_some, Option.bind_some]
        by_cases c1 : (e.natAbs : Int) > 1000000000
        · rw [if_pos c1, decide_eq_true c1]; exact ⟨_, bad⟩
        · rw [if_neg c1, decide_eq_false c1]
          by_cases c2 : e = 0
          · subst c2
            by_cases c3 : n = 0
            · rw [if_pos c3, foolscapref15_Power.j0, if_neg (by decide), if_pos rfl, if_pos c3]
              exact ⟨_, bad.1, rfl⟩
            · rw [if_neg c3, foolscapref15_Power.j0, if_neg (by decide), if_pos rfl, if_neg c3, maths_Power.j0, if_neg (by decide), if_pos rfl]
              exact ⟨_, rfl, rfl⟩
          · have he0 : (e == 0) = false := beq_eq_false_iff_ne.mpr c2
            have hj : (if n = 0 then maths_Power.j0 2000 n e (e == 0) else maths_Power.j0 2000 n e false) = maths_Power.j0 2000 n e false := by rw [he0]; split <;> rfl
            obtain ⟨K, hK⟩ : ∃ K : Nat, K = e.natAbs / 1000000 := ⟨_, rfl⟩
            have hdv : e.natAbs % 1000000 = 0 := by
              have := Int.dvd_of_tmod_eq_zero c
              omega
            have hK1 : 1 ≤ K := by omega
            have hK2 : K ≤ 1000 := by omega
            have hKt : Int.tdiv (e.natAbs : Int) 1000000 = (K : Int) := by rw [Int.tdiv_eq_ediv_of_nonneg (by omega)]; omega
            obtain ⟨r, h1, h2⟩ := loops n e K hn he hKt hK1 hK2 (K - 1) 0 1999 n (by omega) (by omega) hn rfl (fun i hi => by
              have : i = 0 := by omega
              subst this
              have ⟨n1, n2⟩ := hn
              show n.natAbs ≤ _
              omega)
            have w1 : wrap64 (wrap64 (K : Int) - 1) = ((K - 1 : Nat) : Int) := by
              have : wrap64 (K : Int) = K := by unfold wrap64; omega
              rw [this]; unfold wrap64; omega
            rw [hj, maths_Power.j0, if_neg (by decide), if_neg c2, hm, Option.bind_some, hKt, w1, foolscapref15_Power.j0, if_neg (by decide), if_neg c2]
            exact ⟨r, h1, h2⟩
      · rw [if_neg c, if_neg c]; exact ⟨_, bad⟩
    · rw [decide_eq_true hn, decide_eq_false he, if_pos rfl, if_neg (by decide), if_pos rfl, if_neg (by decide)]; exact ⟨_, bad⟩
  · rw [decide_eq_false hn, if_neg (by decide), if_neg (by decide)]; exact ⟨_, bad⟩
def powN (n e : Int) : Int × Int := (maths_Power.f 2000 n e).getD (0, 0)
theorem power_eq (n e : Int) : maths_Power.f 2000 n e = some (powN n e) := by
  obtain ⟨r, h, _⟩ := power_both n e
  unfold powN; rw [h]; rfl
theorem rpower_eq (n e : Int) : foolscapref15_Power.f 2000 n e = some (powN n e) := by
  obtain ⟨r, h, h2⟩ := power_both n e
  unfold powN; rw [h, h2]; rfl
end Go.Proofs.Ytbgiehmpdligdaa.MI
namespace Go.Proofs.Ytbgiehmpdligdaa.MI
open Go.Proofs.Ytbgiehmpdligdaa.PW
theorem power_x (n e : Int) {r : Int × Int} (h : some (powN n e) = some r) : ∃ k, maths_Power.f k n e = some r := ⟨2000, (power_eq n e).trans h⟩
theorem rpower_x (n e : Int) {r : Int × Int} (h : some (powN n e) = some r) : ∃ k, foolscapref15_Power.f k n e = some r := ⟨2000, (rpower_eq n e).trans h⟩
end Go.Proofs.Ytbgiehmpdligdaa.MI
