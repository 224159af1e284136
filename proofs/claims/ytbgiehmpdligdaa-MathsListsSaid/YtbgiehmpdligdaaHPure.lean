/- Chapter 15: what the printed functions come to, in plain numbers. -/
import Derived.Laws.BitsLemmas
import Derived.Laws.Bits64
import Derived.Laws.Bits64b
import Derived.Lib.BitFns
import Derived.Test.YtbgiehmpdligdaaPGx
import Derived.Test.YtbgiehmpdligdaaGPure
set_option linter.unusedSimpArgs false
set_option linter.unusedVariables false
namespace Go.Proofs.Ytbgiehmpdligdaa.Knuth

/-- What the correcting loop keeps: q yn1 + r = u, and the true quotient is at most q. -/
structure Inv (B u d yn1 yn0 q r : Nat) : Prop where
  sum : q * yn1 + r = u
  up : u * B + d < (q + 1) * (yn1 * B + yn0)

theorem times_y (B q yn1 yn0 : Nat) : q * (yn1 * B + yn0) = (q * yn1) * B + q * yn0 := by
  rw [Nat.mul_add, Nat.mul_assoc]

theorem test_iff {B u d yn1 yn0 q r : Nat} (h : q * yn1 + r = u) : q * yn0 > B * r + d ↔ u * B + d < q * (yn1 * B + yn0) := by
  rw [times_y, ← h, Nat.add_mul]
  have : r * B = B * r := Nat.mul_comm _ _
  omega

theorem quot {B u d yn1 yn0 q r : Nat} (h : Inv B u d yn1 yn0 q r) (h1 : q * (yn1 * B + yn0) ≤ u * B + d) : (u * B + d) / (yn1 * B + yn0) = q :=
  Nat.div_eq_of_lt_le h1 h.up

theorem quot_of_le {B u d yn1 yn0 q r : Nat} (h : Inv B u d yn1 yn0 q r) (h1 : q ≤ (u * B + d) / (yn1 * B + yn0)) : (u * B + d) / (yn1 * B + yn0) = q :=
  quot h (Nat.le_trans (Nat.mul_le_mul_right _ h1) (Nat.div_mul_le_self _ _))

/-- Behind the loop by its test. -/
theorem done_test {B u d yn1 yn0 q r : Nat} (h : Inv B u d yn1 yn0 q r) (ht : ¬ q * yn0 > B * r + d) : (u * B + d) / (yn1 * B + yn0) = q :=
  quot h (by have := (not_congr (test_iff (d := d) (yn0 := yn0) (B := B) h.sum)).mp ht; omega)

/-- Behind the loop by its break. -/
theorem done_break {B u d yn1 yn0 q r : Nat} (h : Inv B u d yn1 yn0 q r) (hr : B ≤ r) (hq : q ≤ B) (h0 : yn0 ≤ B) : (u * B + d) / (yn1 * B + yn0) = q :=
  quot h (by
    rw [times_y, ← h.sum, Nat.add_mul]
    have h1 : q * yn0 ≤ B * B := Nat.mul_le_mul hq h0
    have h2 : B * B ≤ r * B := Nat.mul_le_mul hr (Nat.le_refl _)
    omega)

theorem next {B u d yn1 yn0 q r : Nat} (h : Inv B u d yn1 yn0 (q + 1) r) (ht : u * B + d < (q + 1) * (yn1 * B + yn0)) : Inv B u d yn1 yn0 q (r + yn1) :=
  ⟨by have := h.sum; rw [Nat.succ_mul] at this; omega, ht⟩

theorem big {B u d yn1 yn0 q : Nat} (hq : B ≤ q) (hu : u < yn1 * B + yn0) (hd : d < B) : u * B + d < q * (yn1 * B + yn0) := by
  have h1 : (u + 1) * B ≤ (yn1 * B + yn0) * q := Nat.mul_le_mul hu hq
  rw [Nat.add_mul] at h1
  rw [Nat.mul_comm q]
  omega

theorem start {B u d yn1 yn0 : Nat} (h1 : 0 < yn1) (hd : d < B) : Inv B u d yn1 yn0 (u / yn1) (u - u / yn1 * yn1) := by
  have hle : u / yn1 * yn1 ≤ u := Nat.div_mul_le_self _ _
  refine ⟨by omega, ?_⟩
  have hlt : u < (u / yn1 + 1) * yn1 := by
    have := Nat.lt_div_mul_add (a := u) h1
    rw [Nat.add_mul]; omega
  have h2 : (u + 1) * B ≤ ((u / yn1 + 1) * yn1) * B := Nat.mul_le_mul hlt (Nat.le_refl _)
  rw [times_y]
  rw [Nat.add_mul] at h2
  have : 0 ≤ (u / yn1 + 1) * yn0 := Nat.zero_le _
  omega

theorem start_le {B u yn1 yn0 : Nat} (h1 : 0 < yn1) (hu : u < yn1 * B + yn0) (h0 : yn0 < 2 * yn1) : u / yn1 ≤ B + 1 := by
  have : u < (B + 2) * yn1 := by
    rw [Nat.add_mul, Nat.mul_comm B]; omega
  have := (Nat.div_lt_iff_lt_mul h1).mpr this
  omega
theorem long (A d B Y : Nat) (hY : 0 < Y) : (A * B + d) / Y = A / Y * B + (A % Y * B + d) / Y ∧ (A * B + d) % Y = (A % Y * B + d) % Y := by
  have hdm := Nat.div_add_mod A Y
  generalize A / Y = q at *
  generalize A % Y = r at *
  have : A * B + d = (r * B + d) + Y * (q * B) := by
    rw [← hdm, Nat.add_mul, Nat.mul_assoc]; omega
  rw [this, Nat.add_mul_div_left _ _ hY, Nat.add_mul_mod_self_left]
  exact ⟨by omega, rfl⟩
end Go.Proofs.Ytbgiehmpdligdaa.Knuth
namespace Go.Proofs.Ytbgiehmpdligdaa.DW
open Go.RowKit Go.Proofs.Ytbgiehmpdligdaa Go.Proofs.Ytbgiehmpdligdaa.PG Go.Proofs.YtbgiehmpdligdaaW.PrintWords Go.Proofs.YtbgiehmpdligdaaW.PrintLast Go.Proofs.YtbgiehmpdligdaaW.PrintMore
theorem wrapn (n : Nat) (h : n < 18446744073709551616) : IntKind.u64.wrap (n : Int) = n := by rw [IntKind.wrap_u64]; omega
theorem wrapz (z : Int) (n : Nat) (e : z = n) (h : n < 18446744073709551616) : IntKind.u64.wrap z = n := by rw [e]; exact wrapn n h

theorem l0_eq (Y s yn1 yn0 u d un0 : Nat) (R : Int × Int) (n : Nat)
    (hY : Y = yn1 * 4294967296 + yn0) (h1 : yn1 < 4294967296) (h0 : yn0 < 4294967296) (hd : d < 4294967296) (hu : u < Y)
    (hk : ∀ k, n ≤ k → bits_Div64.j2 k Y s yn1 yn0 u d un0 (((u * 4294967296 + d) / Y : Nat) : Int) = some R) :
    ∀ m q r k, Knuth.Inv 4294967296 u d yn1 yn0 q r → q ≤ 4294967296 + 1 → r < 4294967296 → 4294967296 ≤ r + m * yn1 → n + 2 * m + 2 ≤ k →
      bits_Div64.l0 k Y s yn1 yn0 u d un0 q r = some R := by
  intro m
  induction m with
  | zero =>
    intro q r k hi hq hr hm hkk
    omega
  | succ m ih =>
    intro q r k hi hq hr hm hkk
    obtain ⟨k, rfl⟩ : ∃ j, k = j + 2 := ⟨k - 2, by omega⟩
    -- the body, once the test is decided
    have body : u * 4294967296 + d < q * Y → bits_Div64.j1 (k + 1) Y s yn1 yn0 u d un0 q r true = some R := by
      intro ht
      obtain ⟨q, rfl⟩ : ∃ j, q = j + 1 := by
        refine ⟨q - 1, ?_⟩
        rcases Nat.eq_zero_or_pos q with h | h
        · subst h; simp at ht
        · omega
      have hi' := Knuth.next hi (by rw [← hY]; exact ht)
      have hlt : (u * 4294967296 + d) / Y < q + 1 := (Nat.div_lt_iff_lt_mul (by omega)).mpr ht
      simp only [bits_Div64.j1]
      rw [if_pos trivial, wrapz _ (r + yn1) (by omega) (by omega), wrapz (((q + 1 : Nat) : Int) - 1) q (by omega) (by omega)]
      by_cases hb : 4294967296 ≤ r + yn1
      · rw [if_pos (by omega)]
        have hQ := Knuth.done_break hi' hb (by omega) (by omega)
        rw [← hY] at hQ
        rw [← hQ]
        exact hk _ (by omega)
      · rw [if_neg (by omega)]
        exact ih q (r + yn1) k hi' (by omega) (by omega) (by rw [Nat.succ_mul] at hm; omega) (by omega)
    simp only [bits_Div64.l0]
    by_cases hb : 4294967296 ≤ q
    · rw [if_pos (by omega)]
      have := Knuth.big (yn1 := yn1) (yn0 := yn0) hb (by rw [← hY]; exact hu) hd
      exact body (by rw [hY]; exact this)
    · rw [if_neg (by omega)]
      have a1 : q * yn0 < 18446744073709551616 := by
        have : q * yn0 ≤ (4294967296 - 1) * (4294967296 - 1) := Nat.mul_le_mul (by omega) (by omega)
        omega
      rw [wrapz _ (q * yn0) (Int.natCast_mul q yn0).symm a1, wrapz (4294967296 * (r : Int)) (4294967296 * r) (by omega) (by omega), wrapz _ (4294967296 * r + d) (by omega) (by omega)]
      by_cases ht : q * yn0 > 4294967296 * r + d
      · rw [decide_eq_true (by omega)]
        rw [Knuth.test_iff hi.sum, ← hY] at ht
        exact body ht
      · rw [decide_eq_false (by omega)]
        simp only [bits_Div64.j1]
        have hQ := Knuth.done_test hi ht
        rw [← hY] at hQ
        rw [if_neg (by decide), ← hQ]
        exact hk _ (by omega)

theorem rem_eq (Y u d : Nat) (hY0 : 0 < Y) (hY : Y < 18446744073709551616) :
    IntKind.u64.wrap (IntKind.u64.wrap (IntKind.u64.wrap ((u : Int) * 4294967296) + (d : Int)) - IntKind.u64.wrap ((((u * 4294967296 + d) / Y : Nat) : Int) * (Y : Int))) = (((u * 4294967296 + d) % Y : Nat) : Int) := by
  have hdm := Nat.div_add_mod (u * 4294967296 + d) Y
  have hlt : (u * 4294967296 + d) % Y < Y := Nat.mod_lt _ hY0
  generalize (u * 4294967296 + d) / Y = Q at *
  generalize (u * 4294967296 + d) % Y = R at *
  have e1 : (Q : Int) * (Y : Int) = ((Y * Q : Nat) : Int) := by rw [Int.natCast_mul, Int.mul_comm]
  rw [e1]
  simp only [IntKind.wrap_u64]
  omega

theorem fin_eq (Y s u d q1 : Nat) (_hd : d < 4294967296) (hu : u < Y) (hY : Y < 18446744073709551616) (hq : q1 < 4294967296) (hQ : (u * 4294967296 + d) / Y < 4294967296) (z : Int) (hz : z = (((u * 4294967296 + d) / Y : Nat) : Int)) :
    (IntKind.u64.wrap (IntKind.u64.wrap ((q1 : Int) * 4294967296) + z), shr .u64 (IntKind.u64.wrap (IntKind.u64.wrap (IntKind.u64.wrap ((u : Int) * 4294967296) + (d : Int)) - IntKind.u64.wrap (z * (Y : Int)))) (s : Int))
      = (((q1 * 4294967296 + (u * 4294967296 + d) / Y : Nat) : Int), (((u * 4294967296 + d) % Y / 2 ^ min s 64 : Nat) : Int)) := by
  have hdm := Nat.div_add_mod (u * 4294967296 + d) Y
  have hlt : (u * 4294967296 + d) % Y < Y := Nat.mod_lt _ (by omega)
  generalize hQQ : (u * 4294967296 + d) / Y = Q at *
  generalize hRR : (u * 4294967296 + d) % Y = R at *
  subst hz
  have e1 : (Q : Int) * (Y : Int) = ((Y * Q : Nat) : Int) := by rw [Int.natCast_mul, Int.mul_comm]
  refine Prod.ext ?_ ?_
  · simp only [IntKind.wrap_u64]
    omega
  · simp only
    rw [e1]
    have e2 : IntKind.u64.wrap (IntKind.u64.wrap (IntKind.u64.wrap ((u : Int) * 4294967296) + (d : Int)) - IntKind.u64.wrap ((Y * Q : Nat) : Int)) = (R : Int) := by
      simp only [IntKind.wrap_u64]
      omega
    rw [e2]
    unfold shr
    rw [show ((s : Int).toNat) = s from rfl, show IntKind.u64.bits = 64 from rfl, Int.natCast_ediv, Int.natCast_pow]
    rfl

theorem l1_eq (Y s yn1 yn0 u d q1 : Nat)
    (hY : Y = yn1 * 4294967296 + yn0) (h1 : yn1 < 4294967296) (h0 : yn0 < 4294967296) (hd : d < 4294967296) (hu : u < Y) (hq1 : q1 < 4294967296) :
    ∀ m q r k, Knuth.Inv 4294967296 u d yn1 yn0 q r → q ≤ 4294967296 + 1 → r < 4294967296 → 4294967296 ≤ r + m * yn1 → 2 * m + 2 ≤ k →
      bits_Div64.l1 k Y s yn1 yn0 d q1 r u q = some (((q1 * 4294967296 + (u * 4294967296 + d) / Y : Nat) : Int), (((u * 4294967296 + d) % Y / 2 ^ min s 64 : Nat) : Int)) := by
  have hY2 : Y < 18446744073709551616 := by omega
  have hQB : (u * 4294967296 + d) / Y < 4294967296 := (Nat.div_lt_iff_lt_mul (by omega)).mpr (by
    have := Knuth.big (yn1 := yn1) (yn0 := yn0) (Nat.le_refl 4294967296) (by rw [← hY]; exact hu) hd
    rw [← hY] at this; exact this)
  have fin : ∀ z : Int, z = (((u * 4294967296 + d) / Y : Nat) : Int) → _ := fun z hz => fin_eq Y s u d q1 hd hu hY2 hq1 hQB z hz
  intro m
  induction m with
  | zero =>
    intro q r k hi hq hr hm hkk
    omega
  | succ m ih =>
    intro q r k hi hq hr hm hkk
    obtain ⟨k, rfl⟩ : ∃ j, k = j + 2 := ⟨k - 2, by omega⟩
    have body : u * 4294967296 + d < q * Y → bits_Div64.j4 (k + 1) Y s yn1 yn0 d q1 r u q true = some (((q1 * 4294967296 + (u * 4294967296 + d) / Y : Nat) : Int), (((u * 4294967296 + d) % Y / 2 ^ min s 64 : Nat) : Int)) := by
      intro ht
      obtain ⟨q, rfl⟩ : ∃ j, q = j + 1 := by
        refine ⟨q - 1, ?_⟩
        rcases Nat.eq_zero_or_pos q with h | h
        · rw [h] at ht; simp at ht
        · omega
      have hi' := Knuth.next hi (by rw [← hY]; exact ht)
      have hlt : (u * 4294967296 + d) / Y < q + 1 := (Nat.div_lt_iff_lt_mul (by omega)).mpr ht
      simp only [bits_Div64.j4]
      rw [if_pos trivial, wrapz _ (r + yn1) (by omega) (by omega), wrapz (((q + 1 : Nat) : Int) - 1) q (by omega) (by omega)]
      by_cases hb : 4294967296 ≤ r + yn1
      · rw [if_pos (by omega), if_pos (by omega)]
        have hQ := Knuth.done_break hi' hb (by omega) (by omega)
        rw [← hY] at hQ
        rw [fin q (by rw [hQ])]
      · rw [if_neg (by omega)]
        exact ih q (r + yn1) k hi' (by omega) (by omega) (by rw [Nat.succ_mul] at hm; omega) (by omega)
    simp only [bits_Div64.l1]
    by_cases hb : 4294967296 ≤ q
    · rw [if_pos (by omega)]
      have := Knuth.big (yn1 := yn1) (yn0 := yn0) hb (by rw [← hY]; exact hu) hd
      exact body (by rw [hY]; exact this)
    · rw [if_neg (by omega)]
      have a1 : q * yn0 < 18446744073709551616 := by
        have : q * yn0 ≤ (4294967296 - 1) * (4294967296 - 1) := Nat.mul_le_mul (by omega) (by omega)
        omega
      rw [wrapz _ (q * yn0) (Int.natCast_mul q yn0).symm a1, wrapz (4294967296 * (r : Int)) (4294967296 * r) (by omega) (by omega), wrapz _ (4294967296 * r + d) (by omega) (by omega)]
      by_cases ht : q * yn0 > 4294967296 * r + d
      · rw [decide_eq_true (by omega)]
        rw [Knuth.test_iff hi.sum, ← hY] at ht
        exact body ht
      · rw [decide_eq_false (by omega)]
        simp only [bits_Div64.j4]
        have hQ := Knuth.done_test hi ht
        rw [← hY] at hQ
        rw [if_neg (by decide), if_pos (by omega), fin q (by rw [hQ])]

theorem start_q (u yn1 yn0 : Nat) (hy : yn1 * 4294967296 + yn0 < 18446744073709551616) (h1 : 2147483648 ≤ yn1) (h0 : yn0 < 4294967296) (hu : u < yn1 * 4294967296 + yn0) :
    u / yn1 ≤ 4294967296 + 1 ∧ u - u / yn1 * yn1 < 4294967296 ∧ u / yn1 * yn1 ≤ u := by
  refine ⟨Knuth.start_le (by omega) hu (by omega), ?_, Nat.div_mul_le_self _ _⟩
  have := Nat.mod_lt u (show yn1 > 0 by omega)
  have := Nat.div_add_mod u yn1
  rw [Nat.mul_comm] at this
  omega

theorem phase2 (Y s yn1 yn0 un0 R Q k : Nat) (hY : Y < 18446744073709551616) (hYe : Y = yn1 * 4294967296 + yn0) (hn1 : yn1 < 4294967296) (hn1' : 2147483648 ≤ yn1) (hn0 : yn0 < 4294967296) (h0 : un0 < 4294967296) (hr : R < Y) (hq : Q < 4294967296) (hk : 10 ≤ k) :
    bits_Div64.l1 k Y s yn1 yn0 un0 Q (IntKind.u64.wrap ((R : Int) - IntKind.u64.wrap (IntKind.u64.wrap (Int.tdiv (R : Int) (yn1 : Int)) * (yn1 : Int)))) R (IntKind.u64.wrap (Int.tdiv (R : Int) (yn1 : Int)))
      = some (((Q * 4294967296 + (R * 4294967296 + un0) / Y : Nat) : Int), (((R * 4294967296 + un0) % Y / 2 ^ min s 64 : Nat) : Int)) := by
  have hs2 := start_q R yn1 yn0 (by omega) hn1' hn0 (by omega)
  have w2 : IntKind.u64.wrap (Int.tdiv (R : Int) (yn1 : Int)) = ((R / yn1 : Nat) : Int) := by
    rw [← Int.ofNat_tdiv]
    exact wrapn _ (by have := hs2.1; omega)
  rw [w2]
  have w3 : IntKind.u64.wrap (((R / yn1 : Nat) : Int) * (yn1 : Int)) = ((R / yn1 * yn1 : Nat) : Int) := wrapz _ _ (by rw [Int.natCast_mul]) (by have := hs2.2.2; omega)
  rw [w3]
  have w4 : IntKind.u64.wrap ((R : Int) - ((R / yn1 * yn1 : Nat) : Int)) = ((R - R / yn1 * yn1 : Nat) : Int) := wrapz _ _ (by have := hs2.2.2; omega) (by omega)
  rw [w4]
  have hup2 := (Knuth.start (u := R) (d := un0) (yn1 := yn1) (yn0 := yn0) (B := 4294967296) (by omega) h0)
  exact l1_eq Y s yn1 yn0 R un0 Q hYe hn1 hn0 h0 hr hq 2 _ _ k hup2 hs2.1 hs2.2.1 (by omega) (by omega)

/-- Behind normalizing: both digits. -/
theorem norm_eq (Y s u un1 un0 : Nat) (hY : Y < 18446744073709551616) (hY2 : 9223372036854775808 ≤ Y) (h1 : un1 < 4294967296) (h0 : un0 < 4294967296) (hu : u < Y) (k : Nat) (hk : 20 ≤ k) :
    bits_Div64.l0 k Y s ((Y / 4294967296 : Nat) : Int) ((Y % 4294967296 : Nat) : Int) u un1 un0 ((u / (Y / 4294967296) : Nat) : Int) ((u - u / (Y / 4294967296) * (Y / 4294967296) : Nat) : Int)
      = some (((((u * 4294967296 + un1) * 4294967296 + un0) / Y : Nat) : Int), ((((u * 4294967296 + un1) * 4294967296 + un0) % Y / 2 ^ min s 64 : Nat) : Int)) := by
  have hYe : Y = Y / 4294967296 * 4294967296 + Y % 4294967296 := by omega
  generalize hy1 : Y / 4294967296 = yn1 at *
  generalize hy0 : Y % 4294967296 = yn0 at *
  have hn1 : yn1 < 4294967296 := by omega
  have hn1' : 2147483648 ≤ yn1 := by omega
  have hn0 : yn0 < 4294967296 := by omega
  have e1 : ((u * 4294967296 + un1) * 4294967296 + un0) / Y = (u * 4294967296 + un1) / Y * 4294967296 + ((u * 4294967296 + un1) % Y * 4294967296 + un0) / Y ∧
      ((u * 4294967296 + un1) * 4294967296 + un0) % Y = ((u * 4294967296 + un1) % Y * 4294967296 + un0) % Y := by
    exact Knuth.long (u * 4294967296 + un1) un0 4294967296 Y (by omega)
  have hs := start_q u yn1 yn0 (by omega) hn1' hn0 (by omega)
  have hr : (u * 4294967296 + un1) % Y < Y := Nat.mod_lt _ (by omega)
  have hq : (u * 4294967296 + un1) / Y < 4294967296 := (Nat.div_lt_iff_lt_mul (by omega)).mpr (by
    have := Knuth.big (yn1 := yn1) (yn0 := yn0) (Nat.le_refl 4294967296) (by rw [← hYe]; exact hu) h1
    rw [← hYe] at this; exact this)
  have hup := (Knuth.start (u := u) (d := un1) (yn1 := yn1) (yn0 := yn0) (B := 4294967296) (by omega) h1)
  refine l0_eq Y s yn1 yn0 u un1 un0 _ 12 hYe hn1 hn0 h1 hu ?_ 2 _ _ k hup hs.1 hs.2.1 ?_ (by omega)
  · intro k hk
    obtain ⟨k, rfl⟩ : ∃ j, k = j + 1 := ⟨k - 1, by omega⟩
    simp only [bits_Div64.j2]
    rw [if_neg (by omega)]
    rw [rem_eq Y u un1 (by omega) hY]
    rw [e1.1, e1.2]
    exact phase2 Y s yn1 yn0 un0 _ _ k hY hYe hn1 hn1' hn0 h0 hr hq (by omega)
  · omega
theorem bitLenAux_spec : ∀ f x, x < 2 ^ f → x < 2 ^ Lib.bitLenAux f x ∧ (0 < x → 0 < Lib.bitLenAux f x ∧ 2 ^ (Lib.bitLenAux f x - 1) ≤ x) ∧ Lib.bitLenAux f x ≤ f := by
  intro f
  induction f with
  | zero => intro x h; simp [Lib.bitLenAux] at *; omega
  | succ f ih =>
    intro x h
    rw [Nat.pow_succ] at h
    simp only [Lib.bitLenAux]
    by_cases hx : x = 0
    · rw [if_pos hx]; simp [hx]
    · rw [if_neg hx]
      obtain ⟨a, b, c⟩ := ih (x / 2) (by omega)
      rw [Nat.add_comm 1, Nat.pow_succ]
      refine ⟨by omega, fun _ => ⟨by omega, ?_⟩, by omega⟩
      rw [Nat.add_sub_cancel]
      by_cases h2 : x / 2 = 0
      · rw [h2]
        have : Lib.bitLenAux f 0 = 0 := by cases f <;> simp [Lib.bitLenAux]
        rw [this]; simp; omega
      · obtain ⟨p, q⟩ := b (by omega)
        obtain ⟨n, hn⟩ : ∃ n, Lib.bitLenAux f (x / 2) = n + 1 := ⟨Lib.bitLenAux f (x / 2) - 1, by omega⟩
        rw [hn] at q ⊢
        rw [Nat.add_sub_cancel] at q
        rw [Nat.pow_succ]; omega
theorem bitLen_spec (x : Nat) (h : x < 18446744073709551616) : x < 2 ^ Lib.bitLen x ∧ (0 < x → 0 < Lib.bitLen x ∧ 2 ^ (Lib.bitLen x - 1) ≤ x) ∧ Lib.bitLen x ≤ 64 := bitLenAux_spec 64 x h

theorem andmask (x : Nat) (h : x < 18446744073709551616) : Go.bits .and .u64 (x : Int) 4294967295 = ((x % 4294967296 : Nat) : Int) := by
  have := bits_mask .u64 64 (by decide) (fun n h0 h1 => by rw [IntKind.wrap_u64]; omega) 32 (by decide) (x : Int) (by omega) (by omega)
  rw [show ((2 : Int) ^ 32 - 1) = 4294967295 by decide, show ((2 : Int) ^ 32) = 4294967296 by decide] at this
  rw [this]; omega

theorem last_eq (Y s U W k : Nat) (hY : Y < 18446744073709551616) (hY2 : 9223372036854775808 ≤ Y) (hU : U < Y) (hW : W < 18446744073709551616) (hk : 20 ≤ k) :
    (if ((Y : Int) / 4294967296) = 0 then none else bits_Div64.l0 k Y s ((Y : Int) / 4294967296) ((Y % 4294967296 : Nat) : Int) U ((W : Int) / 4294967296) ((W % 4294967296 : Nat) : Int) (IntKind.u64.wrap (Int.tdiv (U : Int) ((Y : Int) / 4294967296)))
        (IntKind.u64.wrap ((U : Int) - IntKind.u64.wrap (IntKind.u64.wrap (Int.tdiv (U : Int) ((Y : Int) / 4294967296)) * ((Y : Int) / 4294967296)))))
      = some ((((U * 18446744073709551616 + W) / Y : Nat) : Int), (((U * 18446744073709551616 + W) % Y / 2 ^ min s 64 : Nat) : Int)) := by
  rw [if_neg (by omega)]
  have eY : (Y : Int) / 4294967296 = ((Y / 4294967296 : Nat) : Int) := by omega
  have eW : (W : Int) / 4294967296 = ((W / 4294967296 : Nat) : Int) := by omega
  have hs := start_q U (Y / 4294967296) (Y % 4294967296) (by omega) (by omega) (by omega) (by omega)
  rw [eY, eW, ← Int.ofNat_tdiv, wrapn _ (by have := hs.1; omega),
    wrapz (((U / (Y / 4294967296) : Nat) : Int) * ((Y / 4294967296 : Nat) : Int)) (U / (Y / 4294967296) * (Y / 4294967296)) (by rw [Int.natCast_mul]) (by have := hs.2.2; omega),
    wrapz _ (U - U / (Y / 4294967296) * (Y / 4294967296)) (by have := hs.2.2; omega) (by omega)]
  have e : U * 18446744073709551616 + W = (U * 4294967296 + W / 4294967296) * 4294967296 + W % 4294967296 := by omega
  rw [e]
  exact norm_eq Y s U (W / 4294967296) (W % 4294967296) hY hY2 (by omega) (by omega) hU k hk

theorem div64_eq (hi lo y k : Nat) (h1 : hi < y) (hy : y < 18446744073709551616) (hlo : lo < 18446744073709551616) (hk : 20 ≤ k) :
    bits_Div64.f k hi lo y = some ((((hi * 18446744073709551616 + lo) / y : Nat) : Int), (((hi * 18446744073709551616 + lo) % y : Nat) : Int)) := by
  unfold bits_Div64.f
  rw [if_neg (by omega), if_neg (by omega)]
  by_cases h0 : hi = 0
  · rw [if_pos (by omega), h0, Nat.zero_mul, Nat.zero_add, ← Int.ofNat_tdiv, wrapn _ (Nat.lt_of_le_of_lt (Nat.div_le_self _ _) hlo), Int.ofNat_tmod]
  · rw [if_neg (by omega)]
    unfold bits_LeadingZeros64.f bits_Len64.f
    rw [if_pos (by omega), if_pos (by omega)]
    simp only [Option.bind_some, Int.toNat_natCast]
    obtain ⟨hL1, hL2, hL3⟩ := bitLen_spec y hy
    obtain ⟨hL4, hL5⟩ := hL2 (by omega)
    generalize Lib.bitLen y = L at *
    obtain ⟨s, rfl⟩ : ∃ s, L = 64 - s := ⟨64 - L, by omega⟩
    have hs : s ≤ 63 := by omega
    have w0 : wrap64 (64 - ((64 - s : Nat) : Int)) = (s : Int) := by unfold wrap64; omega
    have w1 : IntKind.u64.wrap (s : Int) = (s : Int) := wrapn s (by omega)
    have w2 : IntKind.u64.wrap (64 - (s : Int)) = ((64 - s : Nat) : Int) := wrapz _ _ (by omega) (by omega)
    rw [w0, w1, w2, if_pos (by omega), if_pos (by omega)]
    -- powers
    have p64 : 2 ^ (64 - s) * 2 ^ s = 18446744073709551616 := by rw [← Nat.pow_add]; rw [show 64 - s + s = 64 by omega]
    have p63 : 2 ^ (64 - s - 1) * 2 ^ s = 9223372036854775808 := by rw [← Nat.pow_add]; rw [show 64 - s - 1 + s = 63 by omega]
    have ps : 0 < 2 ^ s := Nat.two_pow_pos s
    have pl : 0 < 2 ^ (64 - s) := Nat.two_pow_pos _
    have hYlt : y * 2 ^ s < 18446744073709551616 := by rw [← p64]; exact Nat.mul_lt_mul_of_pos_right hL1 ps
    have hYge : 9223372036854775808 ≤ y * 2 ^ s := by rw [← p63]; exact Nat.mul_le_mul_right _ hL5
    have hhi : (hi + 1) * 2 ^ s ≤ y * 2 ^ s := Nat.mul_le_mul_right _ h1
    have hlq : lo / 2 ^ (64 - s) < 2 ^ s := by
      rw [Nat.div_lt_iff_lt_mul pl, Nat.mul_comm, p64]; exact hlo
    rw [Nat.add_mul, Nat.one_mul] at hhi
    have sh : ∀ x : Nat, shl .u64 (x : Int) (s : Int) = ((x * 2 ^ s % 18446744073709551616 : Nat) : Int) := by
      intro x
      unfold shl
      rw [IntKind.wrap_u64, show ((s : Int).toNat) = s from rfl, show IntKind.u64.bits = 64 from rfl, Nat.min_eq_left (by omega)]
      have : ((2 : Int) ^ s) = ((2 ^ s : Nat) : Int) := by simp
      rw [this, ← Int.natCast_mul]; omega
    have sr : shr .u64 (lo : Int) ((64 - s : Nat) : Int) = ((lo / 2 ^ (64 - s) : Nat) : Int) := by
      unfold shr
      rw [show (((64 - s : Nat) : Int).toNat) = 64 - s from rfl, show IntKind.u64.bits = 64 from rfl, Nat.min_eq_left (by omega)]
      simp
    rw [sh y, sh hi, sh lo, sr, Nat.mod_eq_of_lt hYlt, Nat.mod_eq_of_lt (a := hi * 2 ^ s) (by omega)]
    have hor : Go.bits .or .u64 ((hi * 2 ^ s : Nat) : Int) ((lo / 2 ^ (64 - s) : Nat) : Int) = ((hi * 2 ^ s + lo / 2 ^ (64 - s) : Nat) : Int) := by
      have hlq2 : lo / 2 ^ (64 - s) < 18446744073709551616 := Nat.lt_of_le_of_lt (Nat.div_le_self _ _) hlo
      have hhi2 : hi * 2 ^ s < 18446744073709551616 := by omega
      have hm : hi * 2 ^ s % 2 ^ s = 0 := Nat.mul_mod_left _ _
      have := bits_join .u64 64 (by decide) (fun n h0 h1 => by rw [IntKind.wrap_u64]; omega) s ((hi * 2 ^ s : Nat) : Int) ((lo / 2 ^ (64 - s) : Nat) : Int) (Int.natCast_nonneg _)
        (by exact_mod_cast hm) (by exact_mod_cast hhi2) (Int.natCast_nonneg _) (by exact_mod_cast hlq) (by exact_mod_cast hlq2)
      rw [this, Int.natCast_add]
    rw [hor, andmask _ hYlt, andmask _ (Nat.mod_lt _ (by omega))]
    -- the low word
    have hun : lo * 2 ^ s = lo / 2 ^ (64 - s) * 18446744073709551616 + lo * 2 ^ s % 18446744073709551616 := by
      have e : lo * 2 ^ s / 18446744073709551616 = lo / 2 ^ (64 - s) := by rw [← p64, Nat.mul_div_mul_right _ _ ps]
      rw [← e]; omega
    have hU : (hi * 18446744073709551616 + lo) * 2 ^ s = (hi * 2 ^ s + lo / 2 ^ (64 - s)) * 18446744073709551616 + lo * 2 ^ s % 18446744073709551616 := by
      rw [Nat.add_mul, Nat.add_mul, hun]
      have : hi * 18446744073709551616 * 2 ^ s = hi * 2 ^ s * 18446744073709551616 := by rw [Nat.mul_right_comm]
      omega
    have hfin : (hi * 18446744073709551616 + lo) / y = (hi * 18446744073709551616 + lo) * 2 ^ s / (y * 2 ^ s) ∧ (hi * 18446744073709551616 + lo) % y = (hi * 18446744073709551616 + lo) * 2 ^ s % (y * 2 ^ s) / 2 ^ min s 64 := by
      rw [Nat.mul_div_mul_right _ _ ps, Nat.mul_mod_mul_right, Nat.min_eq_left (by omega), Nat.mul_div_cancel _ ps]
      exact ⟨rfl, rfl⟩
    rw [hfin.1, hfin.2, hU]
    have hW : lo * 2 ^ s % 18446744073709551616 < 18446744073709551616 := Nat.mod_lt _ (by omega)
    exact last_eq (y * 2 ^ s) s (hi * 2 ^ s + lo / 2 ^ (64 - s)) (lo * 2 ^ s % 18446744073709551616) k hYlt hYge (by omega) hW hk

end Go.Proofs.Ytbgiehmpdligdaa.DW
namespace Go.Proofs.Ytbgiehmpdligdaa.MC
open Go Go.RowKit Go.Proofs.Ytbgiehmpdligdaa.PG MA MB
open Go.Proofs.YtbgiehmpdligdaaW.PrintWords Go.Proofs.YtbgiehmpdligdaaW.PrintMore

/-- x / y, half to even. -/
def rdiv (x y : Nat) : Nat := x / y + (if y < 2 * (x % y) ∨ (2 * (x % y) = y ∧ x / y % 2 = 1) then 1 else 0)
theorem wrap_u (n : Nat) : IntKind.u64.wrap (n : Int) = ((n % 18446744073709551616 : Nat) : Int) := by rw [IntKind.wrap_u64]; omega
theorem abs_u {a : Int} (h : fits a) : IntKind.u64.wrap (mx a (wrap64 (-a))) = (a.natAbs : Int) := by
  obtain ⟨h1, h2⟩ := h
  rw [size_eq a (by omega) (by omega), wrap_u, Nat.mod_eq_of_lt (by omega)]
theorem times_eq (x y : Nat) (hx : x < 18446744073709551616) (hy : y < 18446744073709551616) : num_times.f (x : Int) (y : Int) = some (((x * y / 18446744073709551616 : Nat) : Int), ((x * y % 18446744073709551616 : Nat) : Int)) := by
  unfold num_times.f bits_Mul64.f
  rw [if_pos (by omega), if_pos (by omega), if_pos (by omega), if_pos (by omega)]
  rfl
theorem odd_u (q : Nat) (h : q < 18446744073709551616) : bits .and .u64 (q : Int) 1 = ((q % 2 : Nat) : Int) := by
  have hw : ∀ n : Int, 0 ≤ n → n < 2 ^ 64 → IntKind.u64.wrap n = n := by intro n h₀ h₁; rw [IntKind.wrap_u64]; omega
  have := bits_mask .u64 64 (by decide) hw 1 (by decide) (q : Int) (by omega) (by omega)
  rw [show (1 : Int) = 2 ^ 1 - 1 by rfl, this]; omega
theorem over_eq (P y : Nat) (hy : 0 < y) (hy2 : y < 9223372036854775808) (hP : P < 340282366920938463463374607431768211456) :
    num_pair_over.f 100 ((P / 18446744073709551616 : Nat) : Int) ((P % 18446744073709551616 : Nat) : Int) (y : Int) =
      some (if y ≤ P / 18446744073709551616 then (0, false) else (wrap64 ((rdiv P y % 18446744073709551616 : Nat) : Int), decide (((rdiv P y % 18446744073709551616 : Nat) : Int) ≤ 1000000000000000000))) := by
  unfold num_pair_over.f
  by_cases c : y ≤ P / 18446744073709551616
  · rw [if_pos (by omega), if_pos c]
  rw [if_neg (by omega), if_neg c]
  have dv := DW.div64_eq (P / 18446744073709551616) (P % 18446744073709551616) y 100 (by omega) (by omega) (by omega) (by decide)
  rw [show P / 18446744073709551616 * 18446744073709551616 + P % 18446744073709551616 = P by omega] at dv
  rw [dv, Option.bind_some]
  dsimp only
  have hq : P / y < 18446744073709551616 := by
    rw [Nat.div_lt_iff_lt_mul hy]
    have : P / 18446744073709551616 < y := by omega
    rw [Nat.div_lt_iff_lt_mul (by decide)] at this
    rw [Nat.mul_comm]; exact this
  have hr := Nat.mod_lt P hy
  unfold rdiv
  generalize P / y = q at *
  generalize P % y = r at *
  have w1 : IntKind.u64.wrap ((y : Int) - (r : Int)) = ((y - r : Nat) : Int) := by rw [IntKind.wrap_u64]; omega
  have w2 : IntKind.u64.wrap ((q : Int) + 1) = (((q + 1) % 18446744073709551616 : Nat) : Int) := by rw [IntKind.wrap_u64]; omega
  rw [w1, w2, odd_u q hq]
  by_cases c1 : r > y - r
  · rw [if_pos (by omega), if_pos (by left; omega)]
  · rw [if_neg (by omega)]
    by_cases c2 : r = y - r
    · rw [if_pos (by omega)]
      by_cases c3 : q % 2 = 1
      · rw [if_pos (by omega), if_pos (by right; exact ⟨by omega, c3⟩)]
      · rw [if_neg (by omega), if_neg (by omega), Nat.add_zero, Nat.mod_eq_of_lt hq]
    · rw [if_neg (by omega), if_neg (by omega), Nat.add_zero, Nat.mod_eq_of_lt hq]
def sgn (a b : Int) (n : Nat) : Int := if (decide (a < 0) != decide (b < 0)) = true then -(n : Int) else (n : Int)
theorem rdiv_ge (x y : Nat) : x / y ≤ rdiv x y := Nat.le_add_right _ _
theorem rdiv_le (x y : Nat) : rdiv x y ≤ x / y + 1 := by unfold rdiv; split <;> omega
theorem rdiv_mono {x x' y : Nat} (hy : 0 < y) (h : x ≤ x') : rdiv x y ≤ rdiv x' y := by
  unfold rdiv
  have hv := Nat.div_add_mod x y
  have hw := Nat.div_add_mod x' y
  have lv := Nat.mod_lt x hy
  have lw := Nat.mod_lt x' hy
  have hq : x / y ≤ x' / y := Nat.div_le_div_right h
  by_cases e : x / y = x' / y
  · rw [← e] at hw ⊢
    have : x % y ≤ x' % y := by omega
    generalize x % y = r at *
    generalize x' % y = r' at *
    generalize x / y = q at *
    split <;> split <;> omega
  · generalize x / y = q at *
    generalize x' / y = q' at *
    split <;> split <;> omega
/-- num.Mul: exact but where the quotient is rounded up to 2^64. -/
theorem mul_eq {a b : Int} (ha : fits a) (hb : fits b) : num_Mul.f a b = some (if 1000000 * 18446744073709551616 ≤ a.natAbs * b.natAbs then (0, 3) else if rdiv (a.natAbs * b.natAbs) 1000000 % 18446744073709551616 ≤ 1000000000000000000 then (sgn a b (rdiv (a.natAbs * b.natAbs) 1000000 % 18446744073709551616), 0) else (0, 3)) := by
  unfold num_Mul.f
  have ⟨a1, a2⟩ := ha
  have ⟨b1, b2⟩ := hb
  rw [fits_eq, fits_eq, decide_eq_true ha, decide_eq_true hb, Option.bind_some, Option.bind_some, if_pos rfl, if_pos rfl, abs_u ha, abs_u hb, times_eq _ _ (by omega) (by omega), Option.bind_some]
  have hP : a.natAbs * b.natAbs ≤ 1000000000000000000 * 1000000000000000000 := Nat.mul_le_mul (by omega) (by omega)
  generalize a.natAbs * b.natAbs = P at *
  have ho := over_eq P 1000000 (by decide) (by decide) (by omega)
  dsimp only
  have ho' : num_pair_over.f 100 ((P / 18446744073709551616 : Nat) : Int) ((P % 18446744073709551616 : Nat) : Int) 1000000 = _ := ho
  rw [ho', Option.bind_some]
  by_cases c : 1000000 * 18446744073709551616 ≤ P
  · rw [if_pos (show 1000000 ≤ P / 18446744073709551616 by omega), if_pos c]; rfl
  · rw [if_neg (show ¬ 1000000 ≤ P / 18446744073709551616 by omega), if_neg c]
    dsimp only
    generalize rdiv P 1000000 % 18446744073709551616 = R
    by_cases c2 : R ≤ 1000000000000000000
    · have w : wrap64 (R : Int) = (R : Int) := by unfold wrap64; omega
      have w2 : wrap64 (-(R : Int)) = -(R : Int) := by unfold wrap64; omega
      rw [decide_eq_true (show (R : Int) ≤ 1000000000000000000 by omega), if_pos rfl, if_pos c2, w, w2]; rfl
    · rw [decide_eq_false (show ¬ (R : Int) ≤ 1000000000000000000 by omega), if_neg (by decide), if_neg c2]
theorem mul_small {a b : Int} (ha : fits a) (hb : fits b) (h : rdiv (a.natAbs * b.natAbs) 1000000 ≤ 1000000000000000000) : num_Mul.f a b = some (sgn a b (rdiv (a.natAbs * b.natAbs) 1000000), 0) := by
  have h1 := rdiv_ge (a.natAbs * b.natAbs) 1000000
  rw [mul_eq ha hb, if_neg (by omega), Nat.mod_eq_of_lt (by omega), if_pos h]
theorem mul_big {a b : Int} (ha : fits a) (hb : fits b) (h : 1000000000000000000 < rdiv (a.natAbs * b.natAbs) 1000000) (h2 : rdiv (a.natAbs * b.natAbs) 1000000 ≠ 18446744073709551616) : num_Mul.f a b = some (0, 3) := by
  have h1 := rdiv_le (a.natAbs * b.natAbs) 1000000
  rw [mul_eq ha hb]
  by_cases c : 1000000 * 18446744073709551616 ≤ a.natAbs * b.natAbs
  · rw [if_pos c]
  · rw [if_neg c, Nat.mod_eq_of_lt (by omega), if_neg (by omega)]
theorem div_unit {p : Int} (hp : fits p) (h0 : p ≠ 0) : num_Div.f 1000000 p = some (sgn 1000000 p (rdiv 1000000000000 p.natAbs), 0) := by
  unfold num_Div.f
  have ⟨b1, b2⟩ := hp
  have hu : fits 1000000 := by decide
  rw [fits_eq, fits_eq, decide_eq_true hp, decide_eq_true hu, Option.bind_some, Option.bind_some, if_pos rfl, if_pos rfl, if_neg h0, abs_u hp, abs_u hu]
  have ht : num_times.f (((1000000 : Int).natAbs : Nat) : Int) 1000000 = _ := times_eq 1000000 1000000 (by decide) (by decide)
  rw [ht, Option.bind_some]
  have hpos : 0 < p.natAbs := by omega
  have ho := over_eq (1000000 * 1000000) p.natAbs hpos (by omega) (by decide)
  dsimp only
  rw [ho, Option.bind_some, if_neg (show ¬ p.natAbs ≤ 1000000 * 1000000 / 18446744073709551616 by omega)]
  show (if (decide (((rdiv 1000000000000 p.natAbs % 18446744073709551616 : Nat) : Int) ≤ 1000000000000000000)) = true then some (if (decide ((1000000 : Int) < 0) != decide (p < 0)) = true then wrap64 (-(wrap64 ((rdiv 1000000000000 p.natAbs % 18446744073709551616 : Nat) : Int))) else wrap64 ((rdiv 1000000000000 p.natAbs % 18446744073709551616 : Nat) : Int), (0 : Int)) else some (0, 3)) = _
  have hR : rdiv 1000000000000 p.natAbs ≤ 1000000000001 := by
    have h1 := rdiv_le 1000000000000 p.natAbs
    have h2 := Nat.div_le_self 1000000000000 p.natAbs
    omega
  unfold sgn
  generalize rdiv 1000000000000 p.natAbs = R at *
  rw [Nat.mod_eq_of_lt (by omega)]
  have w : wrap64 (R : Int) = (R : Int) := by unfold wrap64; omega
  have w2 : wrap64 (-(R : Int)) = -(R : Int) := by unfold wrap64; omega
  rw [decide_eq_true (show (R : Int) ≤ 1000000000000000000 by omega), if_pos rfl, w, w2]
end Go.Proofs.Ytbgiehmpdligdaa.MC
namespace Go.Proofs.Ytbgiehmpdligdaa.ME
open Go Go.RowKit Go.Proofs.Ytbgiehmpdligdaa.PG MA MB MC
open Go.Proofs.YtbgiehmpdligdaaW.PrintWords Go.Proofs.YtbgiehmpdligdaaW.PrintMore

theorem mtimes_eq (x y : Nat) (hx : x < 18446744073709551616) (hy : y < 18446744073709551616) : maths_times.f (x : Int) (y : Int) = some (((x * y / 18446744073709551616 : Nat) : Int), ((x * y % 18446744073709551616 : Nat) : Int)) := by
  unfold maths_times.f bits_Mul64.f
  rw [if_pos (by omega), if_pos (by omega), if_pos (by omega), if_pos (by omega)]
  rfl
theorem pover_eq (P Q : Nat) : maths_pair_over.f ((P / 18446744073709551616 : Nat) : Int) ((P % 18446744073709551616 : Nat) : Int) ((Q / 18446744073709551616 : Nat) : Int) ((Q % 18446744073709551616 : Nat) : Int) = some (decide (Q < P)) := by
  unfold maths_pair_over.f
  by_cases c : P / 18446744073709551616 > Q / 18446744073709551616
  · rw [if_pos (by omega), decide_eq_true (by omega)]
  · rw [if_neg (by omega)]
    by_cases c2 : P / 18446744073709551616 = Q / 18446744073709551616
    · rw [if_pos (by omega)]; exact congrArg some (decide_eq_decide.2 (by omega))
    · rw [if_neg (by omega), decide_eq_false (by omega)]

/-- The whole square root, bit by bit. -/
def go : Nat → Nat → Nat → Nat
  | 0, _, r => r
  | b + 1, W, r => if (r + 2 ^ b) * (r + 2 ^ b) ≤ W then go b W (r + 2 ^ b) else go b W r
def isq (W : Nat) : Nat := go 41 W 0
theorem go_spec (W : Nat) : ∀ (b r : Nat), r * r ≤ W → W < (r + 2 ^ b) * (r + 2 ^ b) → go b W r * go b W r ≤ W ∧ W < (go b W r + 1) * (go b W r + 1) ∧ go b W r < r + 2 ^ b := by
  intro b
  induction b with
  | zero => intro r h1 h2; exact ⟨h1, h2, by show r < r + 1; omega⟩
  | succ b ih =>
    intro r h1 h2
    have e : 2 ^ (b + 1) = 2 ^ b + 2 ^ b := by rw [Nat.pow_succ]; omega
    have hp := Nat.two_pow_pos b
    rw [e, ← Nat.add_assoc] at h2
    unfold go
    by_cases c : (r + 2 ^ b) * (r + 2 ^ b) ≤ W
    · rw [if_pos c]
      obtain ⟨x, y, z⟩ := ih (r + 2 ^ b) c h2
      exact ⟨x, y, by omega⟩
    · rw [if_neg c]
      obtain ⟨x, y, z⟩ := ih r h1 (by omega)
      exact ⟨x, y, by omega⟩
theorem isq_spec {W : Nat} (h : W < 4835703278458516698824704) : isq W * isq W ≤ W ∧ W < (isq W + 1) * (isq W + 1) ∧ isq W < 2199023255552 := by
  have := go_spec W 41 0 (Nat.zero_le _) (by
    show W < (0 + 2199023255552) * (0 + 2199023255552)
    omega)
  obtain ⟨x, y, z⟩ := this
  exact ⟨x, y, by have e : (2 : Nat) ^ 41 = 2199023255552 := by decide
                  unfold isq; omega⟩
theorem sq_lt {a b : Nat} (h : a * a < b * b) : a < b := by
  rcases Nat.lt_or_ge a b with g | g
  · exact g
  · have := Nat.mul_le_mul g g; omega
theorem isq_uniq {W s : Nat} (h : W < 4835703278458516698824704) (h1 : s * s ≤ W) (h2 : W < (s + 1) * (s + 1)) : isq W = s := by
  obtain ⟨x, y, _⟩ := isq_spec h
  have a := sq_lt (Nat.lt_of_le_of_lt x h2)
  have b := sq_lt (Nat.lt_of_le_of_lt h1 y)
  omega
theorem isq_mono {W V : Nat} (hV : V < 4835703278458516698824704) (h : W ≤ V) : isq W ≤ isq V := by
  obtain ⟨x, y, _⟩ := isq_spec (W := W) (by omega)
  obtain ⟨x', y', _⟩ := isq_spec hV
  have := sq_lt (Nat.lt_of_le_of_lt (Nat.le_trans x h) y')
  omega
/-- The root, rounded. -/
def rnd (W : Nat) : Nat := if isq W * isq W + isq W < W then isq W + 1 else isq W
def rootN (n : Int) : Int × Int := if fits n ∧ 0 ≤ n then ((rnd (n.natAbs * 1000000) : Int), 0) else (0, 5)
def fin (W s : Nat) : Nat := if s * s + s < W then s + 1 else s
theorem sq_bound {s : Nat} (h : s ≤ 2199023255552) : s * s ≤ 4835703278458516698824704 := by
  have := Nat.mul_le_mul h h; omega
theorem add_carry (A s : Nat) (hA : A < 340282366920938463463374607431768211456) (hs : s < 18446744073709551616) (h2 : A + s < 340282366920938463463374607431768211456) :
    IntKind.u64.wrap (((A / 18446744073709551616 : Nat) : Int) + ent_add64c ((A % 18446744073709551616 : Nat) : Int) (s : Int)) = (((A + s) / 18446744073709551616 : Nat) : Int) ∧ ent_add64 ((A % 18446744073709551616 : Nat) : Int) (s : Int) = (((A + s) % 18446744073709551616 : Nat) : Int) := by
  unfold ent_add64c ent_add64
  simp only [Int.toNat_natCast]
  constructor
  · rw [IntKind.wrap_u64]; omega
  · congr 1; omega
end Go.Proofs.Ytbgiehmpdligdaa.ME
namespace Go.Proofs.Ytbgiehmpdligdaa.ME
open Go Go.RowKit Go.Proofs.Ytbgiehmpdligdaa.PG MA MB MC
open Go.Proofs.YtbgiehmpdligdaaW.PrintWords Go.Proofs.YtbgiehmpdligdaaW.PrintMore
theorem root_loop (W : Nat) (hW : W < 4835703278458516698824704) : ∀ (j k r : Nat), j < k → r * r ≤ W → W < (r + 2 ^ j) * (r + 2 ^ j) → r + 2 ^ j ≤ 2199023255552 →
    maths_Root.l0 k (r : Int) ((2 ^ j / 2 : Nat) : Int) ((W / 18446744073709551616 : Nat) : Int) ((W % 18446744073709551616 : Nat) : Int) = some ((fin W (go j W r) : Int), 0) := by
  intro j
  induction j with
  | zero =>
    intro k r hk h1 h2 h3
    obtain ⟨k, rfl⟩ : ∃ m, k = m + 1 := ⟨k - 1, by omega⟩
    have h3' : r < 2199023255552 := by have : (2 : Nat) ^ 0 = 1 := rfl; omega
    have hb := sq_bound (Nat.le_of_lt h3')
    simp only [maths_Root.l0]
    rw [if_neg (by decide), mtimes_eq r r (by omega) (by omega), Option.bind_some, Option.bind_some]
    obtain ⟨e1, e2⟩ := add_carry (r * r) r (by omega) (by omega) (by omega)
    dsimp only
    rw [e1, e2, pover_eq, Option.bind_some]
    unfold fin
    show _ = some (((if r * r + r < W then r + 1 else r : Nat) : Int), 0)
    have w1 : IntKind.u64.wrap ((r : Int) + 1) = ((r + 1 : Nat) : Int) := by rw [IntKind.wrap_u64]; omega
    have w2 : wrap64 ((r + 1 : Nat) : Int) = ((r + 1 : Nat) : Int) := by unfold wrap64; omega
    have w3 : wrap64 (r : Int) = (r : Int) := by unfold wrap64; omega
    rw [w1, w2, w3]
    by_cases c : r * r + r < W
    · rw [decide_eq_true c, if_pos rfl, if_pos c]
    · rw [decide_eq_false c, if_neg (by decide), if_neg c]
  | succ j ih =>
    intro k r hk h1 h2 h3
    obtain ⟨k, rfl⟩ : ∃ m, k = m + 1 := ⟨k - 1, by omega⟩
    have e : 2 ^ (j + 1) = 2 ^ j + 2 ^ j := by rw [Nat.pow_succ]; omega
    have hp := Nat.two_pow_pos j
    have ed : 2 ^ (j + 1) / 2 = 2 ^ j := by omega
    rw [ed]
    rw [e, ← Nat.add_assoc] at h2
    simp only [maths_Root.l0]
    have w1 : IntKind.u64.wrap ((r : Int) + ((2 ^ j : Nat) : Int)) = ((r + 2 ^ j : Nat) : Int) := by rw [IntKind.wrap_u64]; omega
    have w2 : ((2 ^ j : Nat) : Int) / 2 = ((2 ^ j / 2 : Nat) : Int) := by omega
    rw [if_pos (by omega), w1, w2, mtimes_eq _ _ (by omega) (by omega), Option.bind_some]
    dsimp only
    rw [pover_eq, Option.bind_some]
    show _ = some (((fin W (if (r + 2 ^ j) * (r + 2 ^ j) ≤ W then go j W (r + 2 ^ j) else go j W r) : Nat) : Int), 0)
    by_cases c : (r + 2 ^ j) * (r + 2 ^ j) ≤ W
    · rw [decide_eq_false (by omega), if_neg (by decide), if_pos c]
      exact ih k (r + 2 ^ j) (by omega) c h2 (by omega)
    · rw [decide_eq_true (by omega), if_pos rfl, if_neg c]
      exact ih k r (by omega) h1 (by omega) (by omega)
end Go.Proofs.Ytbgiehmpdligdaa.ME
namespace Go.Proofs.Ytbgiehmpdligdaa.ME
open Go Go.RowKit Go.Proofs.Ytbgiehmpdligdaa.PG MA MB MC
open Go.Proofs.YtbgiehmpdligdaaW.PrintWords Go.Proofs.YtbgiehmpdligdaaW.PrintMore
theorem root_eq (n : Int) : maths_Root.f 100 n = some (rootN n) := by
  unfold maths_Root.f rootN
  rw [fits_eq, Option.bind_some]
  by_cases h : fits n
  · rw [decide_eq_true h, if_pos rfl]
    simp only [maths_Root.j0]
    obtain ⟨h1, h2⟩ := h
    by_cases c : n < 0
    · rw [decide_eq_true c, if_pos rfl, if_neg (show ¬ (fits n ∧ 0 ≤ n) by omega)]
    · rw [decide_eq_false c, if_neg (by decide), if_pos (show fits n ∧ 0 ≤ n from ⟨⟨h1, h2⟩, by omega⟩)]
      obtain ⟨m, rfl⟩ := Int.eq_ofNat_of_zero_le (show 0 ≤ n by omega)
      rw [wrap_u, Nat.mod_eq_of_lt (show m < 18446744073709551616 by omega)]
      have ht : maths_times.f (m : Int) 1000000 = _ := mtimes_eq m 1000000 (by omega) (by decide)
      rw [ht, Option.bind_some]
      have hl := root_loop (m * 1000000) (by omega) 41 99 0 (by decide) (by omega) (by
        show m * 1000000 < (0 + 2199023255552) * (0 + 2199023255552); omega) (by decide)
      exact hl
  · rw [decide_eq_false h, if_neg (by decide), if_neg (fun z => h z.1)]; rfl
end Go.Proofs.Ytbgiehmpdligdaa.ME
namespace Go.Proofs.Ytbgiehmpdligdaa.ME
open Go Go.RowKit Go.Proofs.Ytbgiehmpdligdaa.PG MA MB MC
open Go.Proofs.YtbgiehmpdligdaaW.PrintWords Go.Proofs.YtbgiehmpdligdaaW.PrintMore
/-! ### the reference's root -/
theorem sq_split (p q : Nat) : (1000000 * p + q) * (1000000 * p + q) = p * p * 1000000000000 + 2 * (p * q) * 1000000 + q * q := by
  have a1 : (1000000 * p + q) * (1000000 * p + q) = 1000000 * p * (1000000 * p) + 1000000 * p * q + (q * (1000000 * p) + q * q) := by rw [Nat.add_mul, Nat.mul_add, Nat.mul_add]
  have a2 : 1000000 * p * (1000000 * p) = p * p * 1000000000000 := by rw [Nat.mul_mul_mul_comm, Nat.mul_comm]
  have a3 : 1000000 * p * q = p * q * 1000000 := by rw [Nat.mul_assoc, Nat.mul_comm]
  have a4 : q * (1000000 * p) = p * q * 1000000 := by rw [Nat.mul_comm, a3]
  rw [a1, a2, a3, a4]; omega
theorem sq_iff (A B C n : Nat) : A * 1000000 + 2 * B + (C + 999999) / 1000000 ≤ n ↔ A * 1000000000000 + 2 * B * 1000000 + C ≤ n * 1000000 := by omega
theorem wrap_n {x : Nat} (h : x < 9223372036854775808) : wrap64 (x : Int) = (x : Int) := by unfold wrap64; omega
theorem rfits_wraps {A B C : Nat} (hA : A ≤ 1000000000000) (hB : B ≤ 1000000000000) (hC : C ≤ 1000000000000) :
    wrap64 (wrap64 (wrap64 ((A : Int) * 1000000) + ((2 * B : Nat) : Int)) + wrap64 (Int.tdiv (wrap64 (wrap64 ((C : Int) + 1000000) - 1)) 1000000)) = ((A * 1000000 + 2 * B + (C + 999999) / 1000000 : Nat) : Int) := by
  have v1 : wrap64 ((A : Int) * 1000000) = ((A * 1000000 : Nat) : Int) := wrap_n (x := A * 1000000) (by omega)
  have v2 : wrap64 (((A * 1000000 : Nat) : Int) + ((2 * B : Nat) : Int)) = ((A * 1000000 + 2 * B : Nat) : Int) := wrap_n (x := A * 1000000 + 2 * B) (by omega)
  have v3 : wrap64 (wrap64 ((C : Int) + 1000000) - 1) = ((C + 999999 : Nat) : Int) := by
    have e : wrap64 ((C : Int) + 1000000) = ((C + 1000000 : Nat) : Int) := wrap_n (x := C + 1000000) (by omega)
    rw [e]
    have e2 : ((C + 1000000 : Nat) : Int) - 1 = ((C + 999999 : Nat) : Int) := by omega
    rw [e2]; exact wrap_n (by omega)
  have v4 : wrap64 (Int.tdiv ((C + 999999 : Nat) : Int) 1000000) = (((C + 999999) / 1000000 : Nat) : Int) := by
    rw [Int.tdiv_eq_ediv_of_nonneg (by omega)]
    exact wrap_n (x := (C + 999999) / 1000000) (by omega)
  rw [v1, v2, v3, v4]
  exact wrap_n (x := A * 1000000 + 2 * B + (C + 999999) / 1000000) (by omega)
theorem rfits_sq (x n : Nat) (hx : x ≤ 1000000000001) : foolscapref15_fits.f (x : Int) (n : Int) = some (decide (x * x ≤ n * 1000000)) := by
  unfold foolscapref15_fits.f
  have et : Int.tdiv (x : Int) 1000000 = ((x / 1000000 : Nat) : Int) := by rw [Int.tdiv_eq_ediv_of_nonneg (by omega)]; rfl
  have em : Int.tmod (x : Int) 1000000 = ((x % 1000000 : Nat) : Int) := by rw [Int.tmod_eq_emod_of_nonneg (by omega)]; rfl
  rw [et, em]
  have e := Nat.div_add_mod x 1000000
  have hp : x / 1000000 ≤ 1000000 := by omega
  have hq : x % 1000000 < 1000000 := Nat.mod_lt _ (by decide)
  generalize x / 1000000 = p at *
  generalize x % 1000000 = q at *
  have b1 : p * p ≤ 1000000000000 := Nat.mul_le_mul hp hp
  have b2 : p * q ≤ 1000000 * 1000000 := Nat.mul_le_mul hp (Nat.le_of_lt hq)
  have b3 : q * q ≤ 1000000 * 1000000 := Nat.mul_le_mul (Nat.le_of_lt hq) (Nat.le_of_lt hq)
  have w0 : wrap64 (p : Int) = (p : Int) := wrap_n (by omega)
  have w1 : wrap64 ((p : Int) * (p : Int)) = ((p * p : Nat) : Int) := wrap_n (x := p * p) (by omega)
  have w2 : wrap64 (2 * (p : Int)) = ((2 * p : Nat) : Int) := wrap_n (x := 2 * p) (by omega)
  have w3 : wrap64 (((2 * p : Nat) : Int) * (q : Int)) = ((2 * (p * q) : Nat) : Int) := by
    rw [← Int.natCast_mul, Nat.mul_assoc]; exact wrap_n (by omega)
  have w4 : wrap64 ((q : Int) * (q : Int)) = ((q * q : Nat) : Int) := wrap_n (x := q * q) (by omega)
  rw [w0, w1, w2, w3, w4, rfits_wraps (by omega) (by omega) (by omega)]
  have key := sq_iff (p * p) (p * q) (q * q) n
  rw [← sq_split p q, e] at key
  refine congrArg some (decide_eq_decide.2 ?_)
  rw [← key]
  exact Int.ofNat_le
end Go.Proofs.Ytbgiehmpdligdaa.ME
namespace Go.Proofs.Ytbgiehmpdligdaa.ME
open Go Go.RowKit Go.Proofs.Ytbgiehmpdligdaa.PG MA MB MC
open Go.Proofs.YtbgiehmpdligdaaW.PrintWords Go.Proofs.YtbgiehmpdligdaaW.PrintMore
theorem sub_wraps {A L : Nat} (h : L ≤ A) (h2 : A - L < 18446744073709551616) : IntKind.u64.wrap (IntKind.u64.wrap (A : Int) - IntKind.u64.wrap (L : Int)) = ((A - L : Nat) : Int) := by
  have e2 : ((A : Int) - (L : Int)) = ((A - L : Nat) : Int) := by omega
  have b1 : (0 : Int) ≤ ((A - L : Nat) : Int) := by omega
  have b2 : ((A - L : Nat) : Int) < 18446744073709551616 := by omega
  have e := Int.sub_emod (A : Int) (L : Int) 18446744073709551616
  rw [e2, Int.emod_eq_of_lt b1 b2] at e
  rw [IntKind.wrap_u64, IntKind.wrap_u64, IntKind.wrap_u64]
  rw [e]
theorem wsub {a b : Nat} (h : b ≤ a) (h2 : a < 9223372036854775808) : wrap64 ((a : Int) - (b : Int)) = ((a - b : Nat) : Int) := by unfold wrap64; omega
theorem whalf {a : Nat} (h : a < 9223372036854775808) : wrap64 (Int.tdiv (a : Int) 2) = ((a / 2 : Nat) : Int) := by
  rw [Int.tdiv_eq_ediv_of_nonneg (by omega)]; unfold wrap64; omega
theorem rroot_loop (n : Nat) (hn : n ≤ 1000000000000000000) : ∀ (j k low high : Nat), j < k → high - low ≤ 2 ^ j → low < high → high ≤ 1000000000001 → low * low ≤ n * 1000000 → n * 1000000 < high * high →
    foolscapref15_Root.l0 k (n : Int) (low : Int) (high : Int) = some ((rnd (n * 1000000) : Int), 0) := by
  intro j
  induction j with
  | zero =>
    intro k low high hk hd hlt hh h1 h2
    obtain ⟨k, rfl⟩ : ∃ m, k = m + 1 := ⟨k - 1, by omega⟩
    have hd' : high = low + 1 := by have : (2 : Nat) ^ 0 = 1 := rfl; omega
    subst hd'
    have hs := isq_uniq (show n * 1000000 < 4835703278458516698824704 by omega) h1 h2
    simp only [foolscapref15_Root.l0]
    have w1 : wrap64 (((low + 1 : Nat) : Int) - (low : Int)) = 1 := by unfold wrap64; omega
    rw [w1, if_neg (by decide), wrap_u n, wrap_u low, Nat.mod_eq_of_lt (show n < 18446744073709551616 by omega), Nat.mod_eq_of_lt (show low < 18446744073709551616 by omega)]
    have hsq : (low + 1) * (low + 1) = low * low + 2 * low + 1 := by rw [Nat.add_mul, Nat.mul_add]; omega
    rw [hsq] at h2
    have w2 : IntKind.u64.wrap (IntKind.u64.wrap ((n : Int) * 1000000) - IntKind.u64.wrap ((low : Int) * (low : Int))) = ((n * 1000000 - low * low : Nat) : Int) := by
      have en : (n : Int) * 1000000 = ((n * 1000000 : Nat) : Int) := by omega
      have el : (low : Int) * (low : Int) = ((low * low : Nat) : Int) := (Int.natCast_mul _ _).symm
      have hb : n * 1000000 - low * low < 18446744073709551616 := by omega
      rw [en, el]
      exact sub_wraps (A := n * 1000000) (L := low * low) h1 hb
    have w3 : wrap64 ((low : Int) + 1) = ((low + 1 : Nat) : Int) := by unfold wrap64; omega
    rw [w2, w3]
    clear w1 w2 w3
    unfold rnd
    rw [hs]
    by_cases c : low * low + low < n * 1000000
    · rw [if_pos c, if_pos (by omega)]
    · rw [if_neg c, if_neg (by omega)]
  | succ j ih =>
    intro k low high hk hd hlt hh h1 h2
    have e : 2 ^ (j + 1) = 2 ^ j + 2 ^ j := by rw [Nat.pow_succ]; omega
    by_cases c : high = low + 1
    · exact ih k low high (by omega) (by have := Nat.two_pow_pos j; omega) hlt hh h1 h2
    obtain ⟨k, rfl⟩ : ∃ m, k = m + 1 := ⟨k - 1, by omega⟩
    simp only [foolscapref15_Root.l0]
    have d1 : low ≤ high := by omega
    have d2 : high < 9223372036854775808 := by omega
    have d3 : low + high < 9223372036854775808 := by omega
    have c1 : ((high - low : Nat) : Int) > 1 := by omega
    have c2 : (low + high) / 2 ≤ 1000000000001 := by omega
    have w1 : wrap64 ((high : Int) - (low : Int)) = ((high - low : Nat) : Int) := wsub d1 d2
    have w2 : wrap64 ((low : Int) + (high : Int)) = ((low + high : Nat) : Int) := wrap_n (x := low + high) d3
    have w3 : wrap64 (Int.tdiv ((low + high : Nat) : Int) 2) = (((low + high) / 2 : Nat) : Int) := whalf d3
    rw [w1, w2, w3, if_pos c1, rfits_sq _ _ c2, Option.bind_some]
    clear w1 w2 w3 c1 c2
    by_cases d : (low + high) / 2 * ((low + high) / 2) ≤ n * 1000000
    · rw [decide_eq_true d, if_pos rfl]
      exact ih k _ high (by omega) (by omega) (by omega) hh d h2
    · rw [decide_eq_false d, if_neg (by decide)]
      exact ih k low _ (by omega) (by omega) (by omega) (by omega) h1 (by omega)
end Go.Proofs.Ytbgiehmpdligdaa.ME
namespace Go.Proofs.Ytbgiehmpdligdaa.ME
open Go Go.RowKit Go.Proofs.Ytbgiehmpdligdaa.PG MA MB MC
open Go.Proofs.YtbgiehmpdligdaaW.PrintWords Go.Proofs.YtbgiehmpdligdaaW.PrintMore
theorem rroot_eq (n : Int) : foolscapref15_Root.f 100 n = some (rootN n) := by
  unfold foolscapref15_Root.f rootN
  rw [rfits_eq, Option.bind_some]
  by_cases h : fits n
  · rw [decide_eq_true h, if_pos rfl]
    simp only [foolscapref15_Root.j0]
    obtain ⟨h1, h2⟩ := h
    by_cases c : n < 0
    · rw [decide_eq_true c, if_pos rfl, if_neg (show ¬ (fits n ∧ 0 ≤ n) by omega)]
    · rw [decide_eq_false c, if_neg (by decide), if_pos (show fits n ∧ 0 ≤ n from ⟨⟨h1, h2⟩, by omega⟩)]
      obtain ⟨m, rfl⟩ := Int.eq_ofNat_of_zero_le (show 0 ≤ n by omega)
      exact rroot_loop m (by omega) 40 99 0 1000000000001 (by decide) (by decide) (by decide) (by decide) (by omega) (by
        show m * 1000000 < 1000000000001 * 1000000000001; omega)
  · rw [decide_eq_false h, if_neg (by decide), if_neg (fun z => h z.1)]; rfl
end Go.Proofs.Ytbgiehmpdligdaa.ME
namespace Go.Proofs.Ytbgiehmpdligdaa.MF
open Go Go.RowKit Go.Proofs.Ytbgiehmpdligdaa.PG MA MB MC ME
open Go.Proofs.YtbgiehmpdligdaaW.PrintWords Go.Proofs.YtbgiehmpdligdaaW.PrintMore

def mulC (a b : Int) : Option (Int × Int) := if (fits a ∧ fits b) ∧ rdiv (a.natAbs * b.natAbs) 1000000 ≤ 1000000000000000000 then some (sgn a b (rdiv (a.natAbs * b.natAbs) 1000000), 0) else none
theorem mul_c {a b : Int} {r : Int × Int} (h : mulC a b = some r) : num_Mul.f a b = some r := by
  unfold mulC at h; split at h
  · rename_i c; rw [mul_small c.1.1 c.1.2 c.2]; exact h
  · exact absurd h (by simp)
def pow2C (n k : Int) : Option (Int × Int) := if k = 2000000 ∧ fits n then mulC n n else none
theorem pow2_c {n k : Int} {r : Int × Int} (h : pow2C n k = some r) : maths_Power.f 100 n k = some r := by
  unfold pow2C at h; split at h
  · rename_i c
    obtain ⟨rfl, hn⟩ := c
    have hm : (mulC n n).isSome = true := by rw [h]; rfl
    have hr : r.2 = 0 := by
      unfold mulC at h; split at h
      · rw [← Option.some.inj h]
      · exact absurd h (by simp)
    have h' := mul_c h
    unfold maths_Power.f
    rw [fits_eq, decide_eq_true hn, Option.bind_some, if_pos rfl, fits_eq, decide_eq_true (show fits 2000000 by decide), Option.bind_some, if_pos rfl, if_pos (by decide), msize_eq _ (by decide) (by decide), Option.bind_some, if_neg (by decide)]
    have hz : ((2000000 : Int) == 0) = false := by decide
    rw [hz, ite_self]
    simp only [maths_Power.j0]
    rw [if_neg (by decide), if_neg (by decide), msize_eq _ (by decide) (by decide), Option.bind_some]
    have hc : wrap64 (wrap64 (Int.tdiv ((Int.natAbs 2000000 : Nat) : Int) 1000000) - 1) = 1 := by decide +kernel
    rw [hc, maths_Power.l0, if_pos (by decide), h', Option.bind_some, if_pos hr, maths_Power.l0, if_neg (by decide +kernel), if_pos (by decide)]
    obtain ⟨x, y⟩ := r
    have hr' : y = 0 := hr
    rw [hr']
  · exact absurd h (by simp)

/-! ### What the root is worth -/
theorem rnd_near {W : Nat} (h : W < 4835703278458516698824704) : rnd W * rnd W ≤ W + rnd W ∧ W ≤ rnd W * rnd W + rnd W := by
  obtain ⟨x, y, _⟩ := isq_spec h
  have e : (isq W + 1) * (isq W + 1) = isq W * isq W + isq W + isq W + 1 := by rw [Nat.add_mul, Nat.mul_add]; omega
  unfold rnd
  split
  · rw [e] at y ⊢; omega
  · rw [e] at y; omega
theorem rnd_mono {W V : Nat} (hV : V < 4835703278458516698824704) (h : W ≤ V) : rnd W ≤ rnd V := by
  have m := isq_mono hV h
  unfold rnd
  rcases Nat.lt_or_eq_of_le m with g | g
  · split <;> split <;> omega
  · rw [g]
    split <;> split <;> omega
theorem rnd_sq {s : Nat} (h : s ≤ 1000000000000) : rnd (s * s) = s := by
  have hb := Nat.mul_le_mul h h
  have e := isq_uniq (W := s * s) (s := s) (by omega) (Nat.le_refl _) (by rw [Nat.add_mul, Nat.mul_add]; omega)
  unfold rnd; rw [e, if_neg (by omega)]
theorem rnd_le {W : Nat} (h : W ≤ 1000000000000000000000000) : rnd W ≤ 1000000000000 := by
  have h1 := rnd_mono (W := W) (V := 1000000000000 * 1000000000000) (by decide) h
  rw [rnd_sq (Nat.le_refl _)] at h1
  exact h1
theorem sq_div {r n : Nat} (h1 : r * r ≤ n * 1000000 + r) (h2 : n * 1000000 ≤ r * r + r) : rdiv (r * r) 1000000 ≤ n + r / 1000000 + 1 ∧ n ≤ rdiv (r * r) 1000000 + r / 1000000 + 1 := by
  unfold rdiv
  generalize r * r = Q at *
  split <;> omega
end Go.Proofs.Ytbgiehmpdligdaa.MF
namespace Go.Proofs.Ytbgiehmpdligdaa.MG
open Go Go.RowKit Go.Proofs.Ytbgiehmpdligdaa.PG MA MB MC ME
open Go.Proofs.YtbgiehmpdligdaaW.PrintWords Go.Proofs.YtbgiehmpdligdaaW.PrintMore

/-! ### gcd -/
theorem gcd_loop : ∀ (b a k : Nat), b < k → maths_gcd.l0 k (a : Int) (b : Int) = some ((Nat.gcd a b : Nat) : Int) := by
  intro b
  induction b using Nat.strongRecOn with
  | _ b ih =>
    intro a k hk
    obtain ⟨k, rfl⟩ : ∃ m, k = m + 1 := ⟨k - 1, by omega⟩
    simp only [maths_gcd.l0]
    by_cases c : b = 0
    · subst c
      rw [if_pos (show ((0 : Nat) : Int) = 0 from rfl), Nat.gcd_zero_right]
    · rw [if_neg (by omega)]
      have e : Int.tmod (a : Int) (b : Int) = ((a % b : Nat) : Int) := by rw [Int.tmod_eq_emod_of_nonneg (by omega)]; rfl
      have hlt := Nat.mod_lt a (show b > 0 by omega)
      rw [e, ih (a % b) hlt b k (by omega), Nat.gcd_comm b, ← Nat.gcd_rec, Nat.gcd_comm]
theorem rgcd_loop : ∀ (b a k : Nat), b < k → foolscapref15_gcd.l0 k (a : Int) (b : Int) = some ((Nat.gcd a b : Nat) : Int) := by
  intro b
  induction b using Nat.strongRecOn with
  | _ b ih =>
    intro a k hk
    obtain ⟨k, rfl⟩ : ∃ m, k = m + 1 := ⟨k - 1, by omega⟩
    simp only [foolscapref15_gcd.l0]
    by_cases c : b = 0
    · subst c
      rw [if_pos (show ((0 : Nat) : Int) = 0 from rfl), Nat.gcd_zero_right]
    · rw [if_neg (by omega)]
      have e : Int.tmod (a : Int) (b : Int) = ((a % b : Nat) : Int) := by rw [Int.tmod_eq_emod_of_nonneg (by omega)]; rfl
      have hlt := Nat.mod_lt a (show b > 0 by omega)
      rw [e, ih (a % b) hlt b k (by omega), Nat.gcd_comm b, ← Nat.gcd_rec, Nat.gcd_comm]
theorem gcd_bound {a b B : Nat} (ha : a ≤ B) (hb : b ≤ B) : Nat.gcd a b ≤ B := by
  rcases Nat.eq_zero_or_pos b with h | h
  · subst h; rw [Nat.gcd_zero_right]; exact ha
  · exact Nat.le_trans (Nat.gcd_le_right _ h) hb

/-! ### lists -/
def okv (x : Int) : Prop := fits x ∧ 0 ≤ x
instance (x : Int) : Decidable (okv x) := inferInstanceAs (Decidable (_ ∧ _))
def good (l : List Int) : Prop := ∀ x ∈ l, okv x
instance (l : List Int) : Decidable (good l) := inferInstanceAs (Decidable (∀ x ∈ l, okv x))
def whole (l : List Int) : List Nat := l.map (fun x => x.toNat / 1000000)
def gcdF (m : Nat) (l : List Nat) : Nat := l.foldl Nat.gcd m
def lcmF : Nat → List Nat → Option Nat
  | m, [] => some m
  | m, n :: l => if 1000000000000 / (n / Nat.gcd m n) < m then none else lcmF (m * (n / Nat.gcd m n)) l
def gcdN (l : List Int) : Int × Int := if good l then (((gcdF 0 (whole l) * 1000000 : Nat) : Int), 0) else (0, 5)
def toldO (o : Option Nat) : Int × Int := match o with | some m => (((m * 1000000 : Nat) : Int), 0) | none => (0, 5)
def lcmN (l : List Int) : Int × Int := if good l then (if (0 : Nat) ∈ whole l then (0, 0) else toldO (lcmF 1 (whole l))) else (0, 5)

theorem rd_at {l : List Int} {i : Nat} (h : i < l.length) : rd l (i : Int) = l[i] := by
  unfold rd; simp [List.getD, h]
theorem drop_at {l : List Int} {i : Nat} (h : i < l.length) : l.drop i = l[i] :: l.drop (i + 1) := (List.drop_eq_getElem_cons h)
theorem drop_end {l : List Int} {i : Nat} (h : i = l.length) : l.drop i = [] := by subst h; exact List.drop_length
theorem good_cons {x : Int} {l : List Int} : good (x :: l) ↔ okv x ∧ good l := by unfold good; simp
theorem good_nil : good [] := by unfold good; simp
theorem winc {i n : Nat} (h : i < n) (hn : n ≤ 9223372036854775807) : wrap64 ((i : Int) + 1) = ((i + 1 : Nat) : Int) := by unfold wrap64; omega
theorem wquo {x : Int} (h : okv x) : wrap64 (Int.tdiv x 1000000) = ((x.toNat / 1000000 : Nat) : Int) ∧ x.toNat / 1000000 ≤ 1000000000000 := by
  obtain ⟨⟨h1, h2⟩, h3⟩ := h
  obtain ⟨n, rfl⟩ := Int.eq_ofNat_of_zero_le h3
  have e : Int.tdiv (n : Int) 1000000 = ((n / 1000000 : Nat) : Int) := by rw [Int.tdiv_eq_ediv_of_nonneg (by omega)]; rfl
  rw [e, Int.toNat_natCast]
  exact ⟨wrap_n (by omega), by omega⟩
theorem whole_cons (x : Int) (l : List Int) : whole (x :: l) = x.toNat / 1000000 :: whole l := rfl

/-- The first loop of folded (by gcd): are all good? -/
theorem fold0 (L : List Int) (x1 : Int) (hL : L.length ≤ 9223372036854775807) : ∀ (j i k : Nat), i + j = L.length →
    maths_folded_at_maths_gcd.l0 (k + j + 1) L x1 L (L.length : Int) (i : Int) = if good (L.drop i) then maths_folded_at_maths_gcd.l1 k x1 L (L.length : Int) 0 else some (0, 5) := by
  intro j
  induction j with
  | zero =>
    intro i k hi
    simp only [maths_folded_at_maths_gcd.l0]
    rw [if_neg (by omega), drop_end (by omega), if_pos good_nil]
  | succ j ih =>
    intro i k hi
    have hlt : i < L.length := by omega
    rw [show k + (j + 1) + 1 = (k + j + 1) + 1 by omega]
    rw [maths_folded_at_maths_gcd.l0]
    have hw := winc hlt hL
    rw [if_pos (by omega), if_pos (by omega), if_pos (by omega), rd_at hlt, fits_eq, Option.bind_some, hw, ih (i + 1) k (by omega), drop_at hlt]
    clear hw ih
    by_cases c : okv L[i]
    · have c1 := c.1
      have c2 := c.2
      rw [if_neg (by omega), decide_eq_true c1, if_pos rfl]
      by_cases d : good (L.drop (i + 1))
      · rw [if_pos d, if_pos (good_cons.2 ⟨c, d⟩)]
      · rw [if_neg d, if_neg (fun z => d (good_cons.1 z).2)]
    · rw [if_neg (show ¬ good (L[i] :: L.drop (i + 1)) from fun z => c (good_cons.1 z).1)]
      by_cases c2 : L[i] < 0
      · rw [if_pos c2]
      · rw [if_neg c2, decide_eq_false (fun z => c ⟨z, by omega⟩), if_neg (by decide)]
theorem fold1 (L : List Int) (hL : L.length ≤ 9223372036854775807) : ∀ (j i k x : Nat), i + j = L.length → 1000000000000 < k → x ≤ 1000000000000 → good (L.drop i) →
    maths_folded_at_maths_gcd.l1 (k + j + 1) (x : Int) L (L.length : Int) (i : Int) = some (((gcdF x (whole (L.drop i)) * 1000000 : Nat) : Int), 0) := by
  intro j
  induction j with
  | zero =>
    intro i k x hi hk hx _
    simp only [maths_folded_at_maths_gcd.l1]
    have hw : wrap64 ((x : Int) * 1000000) = ((x * 1000000 : Nat) : Int) := wrap_n (x := x * 1000000) (by omega)
    rw [if_neg (by omega), drop_end (by omega), hw]; rfl
  | succ j ih =>
    intro i k x hi hk hx hg
    have hlt : i < L.length := by omega
    rw [show k + (j + 1) + 1 = (k + j + 1) + 1 by omega]
    rw [maths_folded_at_maths_gcd.l1]
    have hw := winc hlt hL
    rw [drop_at hlt] at hg
    have hg2 := good_cons.1 hg
    obtain ⟨q1, q2⟩ := wquo hg2.1
    have hgl := gcd_loop (L[i].toNat / 1000000) x (k + j + 1) (by omega)
    have hb := gcd_bound hx q2
    rw [if_pos (by omega), if_pos (by omega), if_pos (by omega), rd_at hlt, hw, q1]
    unfold maths_gcd.f
    rw [hgl, Option.bind_some, if_neg (by omega), ih (i + 1) k _ (by omega) hk hb hg2.2, drop_at hlt, whole_cons]
    rfl
theorem wholes_zero : ((0 : Nat) : Int) = 0 := rfl
theorem gcd_all (l : List Int) (hL : l.length ≤ 9223372036854775807) : ∃ k, maths_Gcd.f k l = some (gcdN l) := by
  refine ⟨1000000000001 + l.length + 1 + l.length + 1, ?_⟩
  unfold maths_Gcd.f maths_folded_at_maths_gcd.f gcdN
  have h0 := fold0 l 0 hL l.length 0 (1000000000001 + l.length + 1) (by omega)
  have h1 := fold1 l hL l.length 0 1000000000001 0 (by omega) (by omega) (by omega)
  rw [List.drop_zero] at h0 h1
  rw [wholes_zero] at h0
  rw [h0]
  by_cases c : good l
  · rw [if_pos c, if_pos c]
    have h1' := h1 c
    rw [wholes_zero] at h1'
    rw [h1']; rfl
  · rw [if_neg c, if_neg c]; rfl
theorem rgood (L : List Int) (hL : L.length ≤ 9223372036854775807) : ∀ (j i k : Nat), i + j = L.length → foolscapref15_good.l0 (k + j + 1) L (i : Int) = some (decide (good (L.drop i))) := by
  intro j
  induction j with
  | zero =>
    intro i k hi
    simp only [foolscapref15_good.l0]
    rw [if_neg (by omega), drop_end (by omega)]; rfl
  | succ j ih =>
    intro i k hi
    have hlt : i < L.length := by omega
    rw [show k + (j + 1) + 1 = (k + j + 1) + 1 by omega]
    rw [foolscapref15_good.l0]
    have hw := winc hlt hL
    rw [if_pos (by omega), if_pos (by omega), rd_at hlt, rfits_eq, Option.bind_some, hw, ih (i + 1) k (by omega), drop_at hlt]
    clear hw ih
    by_cases c : okv L[i]
    · have c1 := c.1
      have c2 := c.2
      rw [decide_eq_true c1, if_pos rfl, if_neg (by omega)]
      exact congrArg some (decide_eq_decide.2 ⟨fun d => good_cons.2 ⟨c, d⟩, fun d => (good_cons.1 d).2⟩)
    · rw [decide_eq_false (show ¬ good (L[i] :: L.drop (i + 1)) from fun z => c (good_cons.1 z).1)]
      by_cases c2 : fits L[i]
      · rw [decide_eq_true c2, if_pos rfl, if_pos (by
          rcases Int.lt_or_le L[i] 0 with z | z
          · exact z
          · exact absurd ⟨c2, z⟩ c)]
      · rw [decide_eq_false c2, if_neg (by decide)]
theorem rfold (L : List Int) (hL : L.length ≤ 9223372036854775807) : ∀ (j i k x : Nat), i + j = L.length → 1000000000000 < k → x ≤ 1000000000000 → good (L.drop i) →
    foolscapref15_Gcd.l0 (k + j + 1) L (x : Int) (i : Int) = some (((gcdF x (whole (L.drop i)) * 1000000 : Nat) : Int), 0) := by
  intro j
  induction j with
  | zero =>
    intro i k x hi hk hx _
    simp only [foolscapref15_Gcd.l0]
    have hw : wrap64 ((x : Int) * 1000000) = ((x * 1000000 : Nat) : Int) := wrap_n (x := x * 1000000) (by omega)
    rw [if_neg (by omega), drop_end (by omega), hw]; rfl
  | succ j ih =>
    intro i k x hi hk hx hg
    have hlt : i < L.length := by omega
    rw [show k + (j + 1) + 1 = (k + j + 1) + 1 by omega]
    rw [foolscapref15_Gcd.l0]
    have hw := winc hlt hL
    rw [drop_at hlt] at hg
    have hg2 := good_cons.1 hg
    obtain ⟨q1, q2⟩ := wquo hg2.1
    have hgl := rgcd_loop (L[i].toNat / 1000000) x (k + j + 1) (by omega)
    have hb := gcd_bound hx q2
    rw [if_pos (by omega), if_pos (by omega), rd_at hlt, hw, q1]
    unfold foolscapref15_gcd.f
    rw [hgl, Option.bind_some, ih (i + 1) k _ (by omega) hk hb hg2.2, drop_at hlt, whole_cons]
    rfl
theorem rgcd_all (l : List Int) (hL : l.length ≤ 9223372036854775807) : ∃ k, foolscapref15_Gcd.f k l = some (gcdN l) := by
  refine ⟨1000000000001 + l.length + 1, ?_⟩
  unfold foolscapref15_Gcd.f foolscapref15_good.f gcdN
  have h0 := rgood l hL l.length 0 1000000000001 (by omega)
  have h1 := rfold l hL l.length 0 1000000000001 0 (by omega) (by omega) (by omega)
  rw [List.drop_zero] at h0 h1
  rw [wholes_zero] at h0
  rw [h0, Option.bind_some]
  by_cases c : good l
  · rw [decide_eq_true c, if_pos rfl, if_pos c]
    have h1' := h1 c
    rw [wholes_zero] at h1'
    rw [h1']
  · rw [decide_eq_false c, if_neg (by decide), if_neg c]
end Go.Proofs.Ytbgiehmpdligdaa.MG
namespace Go.Proofs.Ytbgiehmpdligdaa.MH
open Go Go.RowKit Go.Proofs.Ytbgiehmpdligdaa.PG MA MB MC ME MG
open Go.Proofs.YtbgiehmpdligdaaW.PrintWords Go.Proofs.YtbgiehmpdligdaaW.PrintMore

theorem by_facts {x n : Nat} (hx : 1 ≤ x) (hn : 1 ≤ n) (hn2 : n ≤ 1000000000000) : 1 ≤ Nat.gcd x n ∧ Nat.gcd x n ≤ n ∧ 1 ≤ n / Nat.gcd x n ∧ n / Nat.gcd x n ≤ 1000000000000 := by
  have g1 : 0 < Nat.gcd x n := Nat.gcd_pos_of_pos_left _ hx
  have g2 := Nat.gcd_le_right x hn
  refine ⟨g1, g2, Nat.div_pos g2 g1, ?_⟩
  have := Nat.div_le_self n (Nat.gcd x n)
  omega
theorem wdiv_n {a b : Nat} (h : a < 9223372036854775808) : wrap64 (Int.tdiv (a : Int) (b : Int)) = ((a / b : Nat) : Int) := by
  rw [Int.tdiv_eq_ediv_of_nonneg (by omega)]
  have e : (a : Int) / (b : Int) = ((a / b : Nat) : Int) := rfl
  rw [e]
  have := Nat.div_le_self a b
  exact wrap_n (by omega)
theorem mul_bound {x b : Nat} (hb : 1 ≤ b) (h : ¬ 1000000000000 / b < x) : x * b ≤ 1000000000000 := by
  have h1 : x ≤ 1000000000000 / b := by omega
  exact (Nat.le_div_iff_mul_le hb).1 h1
/-- The closure of Lcm, on whole parts. -/
theorem clos_eq {x n k : Nat} (hx : 1 ≤ x) (hn : 1 ≤ n) (hn2 : n ≤ 1000000000000) (hk : n < k) : maths_Lcm_1.f k (x : Int) (n : Int) false = some (if 1000000000000 / (n / Nat.gcd x n) < x then -1 else ((x * (n / Nat.gcd x n) : Nat) : Int)) := by
  obtain ⟨g1, g2, g3, g4⟩ := by_facts hx hn hn2
  unfold maths_Lcm_1.f maths_gcd.f
  rw [if_neg (by decide), gcd_loop n x k hk, Option.bind_some, wdiv_n (show n < 9223372036854775808 by omega)]
  generalize Nat.gcd x n = g at *
  generalize n / g = b at *
  have hc : (1000000000000 : Int) = ((1000000000000 : Nat) : Int) := rfl
  rw [if_neg (by omega), if_neg (by omega), hc, wdiv_n (show 1000000000000 < 9223372036854775808 by decide)]
  by_cases c : 1000000000000 / b < x
  · rw [if_pos (by omega), if_pos c]
  · have hm := mul_bound g3 c
    have hw : wrap64 ((x : Int) * (b : Int)) = ((x * b : Nat) : Int) := by rw [← Int.natCast_mul]; exact wrap_n (by omega)
    rw [hw]
    rw [if_neg (by omega), if_neg c]
theorem fold1f (L : List Int) (hL : L.length ≤ 9223372036854775807) : ∀ (j i k x : Nat), i + j = L.length → 1000000000000 < k → 1 ≤ x → x ≤ 1000000000000 → good (L.drop i) → (0 : Nat) ∉ whole (L.drop i) →
    maths_folded_at_maths_Lcm_1.l1 false (k + j + 1) (x : Int) L (L.length : Int) (i : Int) = some (toldO (lcmF x (whole (L.drop i)))) := by
  intro j
  induction j with
  | zero =>
    intro i k x hi hk hx1 hx _ _
    simp only [maths_folded_at_maths_Lcm_1.l1]
    have hw : wrap64 ((x : Int) * 1000000) = ((x * 1000000 : Nat) : Int) := wrap_n (x := x * 1000000) (by omega)
    rw [if_neg (by omega), drop_end (by omega), hw]; rfl
  | succ j ih =>
    intro i k x hi hk hx1 hx hg h0
    have hlt : i < L.length := by omega
    rw [show k + (j + 1) + 1 = (k + j + 1) + 1 by omega]
    rw [maths_folded_at_maths_Lcm_1.l1]
    have hw := winc hlt hL
    rw [drop_at hlt] at hg h0
    have hg2 := good_cons.1 hg
    rw [whole_cons] at h0
    have h0a : L[i].toNat / 1000000 ≠ 0 := fun z => h0 (by rw [z]; exact List.mem_cons_self)
    have h0b : (0 : Nat) ∉ whole (L.drop (i + 1)) := fun z => h0 (List.mem_cons_of_mem _ z)
    obtain ⟨q1, q2⟩ := wquo hg2.1
    rw [if_pos (by omega), if_pos (by omega), if_pos (by omega), rd_at hlt, hw, q1, clos_eq hx1 (by omega) q2 (by omega), Option.bind_some, drop_at hlt, whole_cons]
    unfold lcmF
    obtain ⟨g1, g2, g3, g4⟩ := by_facts hx1 (show 1 ≤ L[i].toNat / 1000000 by omega) q2
    clear hw q1
    by_cases c : 1000000000000 / (L[i].toNat / 1000000 / Nat.gcd x (L[i].toNat / 1000000)) < x
    · rw [if_pos c, if_pos (by decide), if_pos c]; rfl
    · rw [if_neg c, if_neg (by omega), if_neg c]
      have hm := mul_bound g3 c
      have hm1 : 1 ≤ x * (L[i].toNat / 1000000 / Nat.gcd x (L[i].toNat / 1000000)) := Nat.mul_pos hx1 g3
      exact ih (i + 1) k _ (by omega) hk hm1 hm hg2.2 h0b
theorem fold1t (L : List Int) (hL : L.length ≤ 9223372036854775807) : ∀ (j i k x : Nat), i + j = L.length → x ≤ 1000000000000 →
    maths_folded_at_maths_Lcm_1.l1 true (k + j + 1) (x : Int) L (L.length : Int) (i : Int) = some ((((if j = 0 then x else 0) * 1000000 : Nat) : Int), 0) := by
  intro j
  induction j with
  | zero =>
    intro i k x hi hx
    simp only [maths_folded_at_maths_Lcm_1.l1]
    have hw : wrap64 ((x : Int) * 1000000) = ((x * 1000000 : Nat) : Int) := wrap_n (x := x * 1000000) (by omega)
    rw [if_neg (by omega), hw]; rfl
  | succ j ih =>
    intro i k x hi hx
    have hlt : i < L.length := by omega
    rw [show k + (j + 1) + 1 = (k + j + 1) + 1 by omega]
    rw [maths_folded_at_maths_Lcm_1.l1]
    have hw := winc hlt hL
    have hz := ih (i + 1) k 0 (by omega) (by omega)
    have hl : ∀ y, maths_Lcm_1.f (k + j + 1) (x : Int) y true = some 0 := fun y => by unfold maths_Lcm_1.f; rw [if_pos rfl]
    rw [if_pos (by omega), if_pos (by omega), if_pos (by omega), hl, Option.bind_some, if_neg (by decide), hw]
    rw [if_neg (by omega)]
    have hz' : maths_folded_at_maths_Lcm_1.l1 true (k + j + 1) 0 L (L.length : Int) ((i + 1 : Nat) : Int) = _ := hz
    rw [hz']
    split <;> rfl
theorem fold0L (L : List Int) (x1 : Int) (nt : Bool) (hL : L.length ≤ 9223372036854775807) : ∀ (j i k : Nat), i + j = L.length →
    maths_folded_at_maths_Lcm_1.l0 nt (k + j + 1) L x1 L (L.length : Int) (i : Int) = if good (L.drop i) then maths_folded_at_maths_Lcm_1.l1 nt k x1 L (L.length : Int) 0 else some (0, 5) := by
  intro j
  induction j with
  | zero =>
    intro i k hi
    simp only [maths_folded_at_maths_Lcm_1.l0]
    rw [if_neg (by omega), drop_end (by omega), if_pos good_nil]
  | succ j ih =>
    intro i k hi
    have hlt : i < L.length := by omega
    rw [show k + (j + 1) + 1 = (k + j + 1) + 1 by omega]
    rw [maths_folded_at_maths_Lcm_1.l0]
    have hw := winc hlt hL
    rw [if_pos (by omega), if_pos (by omega), if_pos (by omega), rd_at hlt, fits_eq, Option.bind_some, hw, ih (i + 1) k (by omega), drop_at hlt]
    clear hw ih
    by_cases c : okv L[i]
    · have c1 := c.1
      have c2 := c.2
      rw [if_neg (by omega), decide_eq_true c1, if_pos rfl]
      by_cases d : good (L.drop (i + 1))
      · rw [if_pos d, if_pos (good_cons.2 ⟨c, d⟩)]
      · rw [if_neg d, if_neg (fun z => d (good_cons.1 z).2)]
    · rw [if_neg (show ¬ good (L[i] :: L.drop (i + 1)) from fun z => c (good_cons.1 z).1)]
      by_cases c2 : L[i] < 0
      · rw [if_pos c2]
      · rw [if_neg c2, decide_eq_false (fun z => c ⟨z, by omega⟩), if_neg (by decide)]
/-- Is there a number from 0 on that has no whole part? -/
def anyS (l : List Int) : Bool := l.any fun x => decide (0 ≤ x ∧ x < 1000000)
theorem anyS_cons (x : Int) (l : List Int) : anyS (x :: l) = (decide (0 ≤ x ∧ x < 1000000) || anyS l) := rfl
theorem lcm0 (L : List Int) (hL : L.length ≤ 9223372036854775807) : ∀ (j i k : Nat) (nt : Bool), i + j = L.length →
    maths_Lcm.l0 (k + j + 1) L nt L (L.length : Int) (i : Int) = (maths_folded_at_maths_Lcm_1.f (nt || anyS (L.drop i)) k L 1).bind fun bt107 => (some (bt107.1, bt107.2)) := by
  intro j
  induction j with
  | zero =>
    intro i k nt hi
    simp only [maths_Lcm.l0]
    rw [if_neg (by omega), drop_end (by omega)]
    have : anyS [] = false := rfl
    rw [this, Bool.or_false]
  | succ j ih =>
    intro i k nt hi
    have hlt : i < L.length := by omega
    rw [show k + (j + 1) + 1 = (k + j + 1) + 1 by omega]
    rw [maths_Lcm.l0]
    have hw := winc hlt hL
    rw [if_pos (by omega), if_pos (by omega), if_pos (by omega), rd_at hlt, hw, ih (i + 1) k _ (by omega), ih (i + 1) k _ (by omega), ih (i + 1) k _ (by omega), drop_at hlt, anyS_cons]
    clear hw ih
    cases nt
    · rw [if_neg (by decide)]
      by_cases c : L[i] ≥ 0
      · rw [if_pos c]
        have : decide (L[i] < 1000000) = decide (0 ≤ L[i] ∧ L[i] < 1000000) := decide_eq_decide.2 (by omega)
        rw [this, Bool.false_or]
      · rw [if_neg c, decide_eq_false (show ¬ (0 ≤ L[i] ∧ L[i] < 1000000) by omega), Bool.false_or]; rfl
    · rw [if_pos rfl, Bool.true_or, Bool.true_or]
theorem anyS_whole {l : List Int} (h : good l) : anyS l = decide ((0 : Nat) ∈ whole l) := by
  induction l with
  | nil => rfl
  | cons x l ih =>
    obtain ⟨h1, h2⟩ := good_cons.1 h
    rw [anyS_cons, ih h2, whole_cons, Bool.eq_iff_iff, Bool.or_eq_true, decide_eq_true_eq, decide_eq_true_eq, decide_eq_true_eq, List.mem_cons]
    have := h1.2
    constructor
    · rintro (z | z)
      · left; omega
      · right; exact z
    · rintro (z | z)
      · left; omega
      · right; exact z
theorem lcm_all (l : List Int) (hL : l.length ≤ 9223372036854775807) : ∃ k, maths_Lcm.f k l = some (lcmN l) := by
  refine ⟨1000000000001 + l.length + 1 + l.length + 1 + l.length + 1, ?_⟩
  unfold maths_Lcm.f lcmN
  have h0 := lcm0 l hL l.length 0 (1000000000001 + l.length + 1 + l.length + 1) false (by omega)
  have h1 := fold0L l 1 (anyS l) hL l.length 0 (1000000000001 + l.length + 1) (by omega)
  rw [List.drop_zero] at h0 h1
  rw [wholes_zero] at h0 h1
  rw [h0, Bool.false_or]
  unfold maths_folded_at_maths_Lcm_1.f
  rw [h1]
  by_cases c : good l
  · rw [if_pos c, if_pos c, anyS_whole c]
    by_cases d : (0 : Nat) ∈ whole l
    · rw [decide_eq_true d, if_pos d]
      have h2 := fold1t l hL l.length 0 1000000000001 1 (by omega) (by decide)
      have hne : l.length ≠ 0 := by
        intro z
        have : l = [] := List.eq_nil_of_length_eq_zero z
        subst this; exact absurd d (by simp [whole])
      rw [if_neg hne] at h2
      have h2' : maths_folded_at_maths_Lcm_1.l1 true (1000000000001 + l.length + 1) 1 l (l.length : Int) 0 = _ := h2
      rw [h2']; rfl
    · rw [decide_eq_false d, if_neg d]
      have h2 := fold1f l hL l.length 0 1000000000001 1 (by omega) (by decide) (by decide) (by decide) c d
      have h2' : maths_folded_at_maths_Lcm_1.l1 false (1000000000001 + l.length + 1) 1 l (l.length : Int) 0 = _ := h2
      rw [h2', List.drop_zero, Option.bind_some]
  · rw [if_neg c, if_neg c]; rfl
theorem rlcm1 (L : List Int) (hL : L.length ≤ 9223372036854775807) : ∀ (j i k x : Nat), i + j = L.length → 1000000000000 < k → 1 ≤ x → x ≤ 1000000000000 → good (L.drop i) → (0 : Nat) ∉ whole (L.drop i) →
    foolscapref15_Lcm.l1 (k + j + 1) L (x : Int) (i : Int) = some (toldO (lcmF x (whole (L.drop i)))) := by
  intro j
  induction j with
  | zero =>
    intro i k x hi hk hx1 hx _ _
    simp only [foolscapref15_Lcm.l1]
    have hw : wrap64 ((x : Int) * 1000000) = ((x * 1000000 : Nat) : Int) := wrap_n (x := x * 1000000) (by omega)
    rw [if_neg (by omega), drop_end (by omega), hw]; rfl
  | succ j ih =>
    intro i k x hi hk hx1 hx hg h0
    have hlt : i < L.length := by omega
    rw [show k + (j + 1) + 1 = (k + j + 1) + 1 by omega]
    rw [foolscapref15_Lcm.l1]
    have hw := winc hlt hL
    rw [drop_at hlt] at hg h0
    have hg2 := good_cons.1 hg
    rw [whole_cons] at h0
    have h0a : L[i].toNat / 1000000 ≠ 0 := fun z => h0 (by rw [z]; exact List.mem_cons_self)
    have h0b : (0 : Nat) ∉ whole (L.drop (i + 1)) := fun z => h0 (List.mem_cons_of_mem _ z)
    obtain ⟨q1, q2⟩ := wquo hg2.1
    have hgl := rgcd_loop (L[i].toNat / 1000000) x (k + j + 1) (by omega)
    obtain ⟨g1, g2, g3, g4⟩ := by_facts hx1 (show 1 ≤ L[i].toNat / 1000000 by omega) q2
    have hc : (1000000000000 : Int) = ((1000000000000 : Nat) : Int) := rfl
    rw [if_pos (by omega), if_pos (by omega), rd_at hlt, hw, q1]
    unfold foolscapref15_gcd.f
    rw [hgl, Option.bind_some, wdiv_n (show L[i].toNat / 1000000 < 9223372036854775808 by omega), drop_at hlt, whole_cons]
    unfold lcmF
    clear hw q1 hgl
    rw [if_neg (by omega), if_neg (by omega), hc, wdiv_n (show 1000000000000 < 9223372036854775808 by decide)]
    by_cases c : 1000000000000 / (L[i].toNat / 1000000 / Nat.gcd x (L[i].toNat / 1000000)) < x
    · rw [if_pos (by omega), if_pos c]; rfl
    · have hm := mul_bound g3 c
      have hm1 : 1 ≤ x * (L[i].toNat / 1000000 / Nat.gcd x (L[i].toNat / 1000000)) := Nat.mul_pos hx1 g3
      have hw : wrap64 ((x : Int) * ((L[i].toNat / 1000000 / Nat.gcd x (L[i].toNat / 1000000) : Nat) : Int)) = ((x * (L[i].toNat / 1000000 / Nat.gcd x (L[i].toNat / 1000000)) : Nat) : Int) := by rw [← Int.natCast_mul]; exact wrap_n (by omega)
      rw [hw]
      clear hw
      rw [if_neg (by omega), if_neg c]
      exact ih (i + 1) k _ (by omega) hk hm1 hm hg2.2 h0b
theorem rlcm0 (L : List Int) (hL : L.length ≤ 9223372036854775807) : ∀ (j i k : Nat), i + j = L.length → good (L.drop i) →
    foolscapref15_Lcm.l0 (k + j + 1) L (i : Int) = if (0 : Nat) ∈ whole (L.drop i) then some (0, 0) else foolscapref15_Lcm.l1 k L 1 0 := by
  intro j
  induction j with
  | zero =>
    intro i k hi _
    simp only [foolscapref15_Lcm.l0]
    rw [if_neg (by omega), drop_end (by omega), if_neg (by simp [whole])]
  | succ j ih =>
    intro i k hi hg
    have hlt : i < L.length := by omega
    rw [show k + (j + 1) + 1 = (k + j + 1) + 1 by omega]
    rw [foolscapref15_Lcm.l0]
    have hw := winc hlt hL
    rw [drop_at hlt] at hg
    have hg2 := good_cons.1 hg
    obtain ⟨q1, q2⟩ := wquo hg2.1
    rw [if_pos (by omega), if_pos (by omega), rd_at hlt, hw, q1, ih (i + 1) k (by omega) hg2.2, drop_at hlt, whole_cons]
    clear hw q1 ih
    by_cases c : L[i].toNat / 1000000 = 0
    · rw [if_pos (by omega), if_pos (by rw [c]; exact List.mem_cons_self)]
    · rw [if_neg (by omega)]
      by_cases d : (0 : Nat) ∈ whole (L.drop (i + 1))
      · rw [if_pos d, if_pos (List.mem_cons_of_mem _ d)]
      · rw [if_neg d, if_neg (by
          intro z
          rcases List.mem_cons.1 z with z | z
          · exact c z.symm
          · exact d z)]
theorem rlcm_all (l : List Int) (hL : l.length ≤ 9223372036854775807) : ∃ k, foolscapref15_Lcm.f k l = some (lcmN l) := by
  refine ⟨1000000000001 + l.length + 1 + l.length + 1, ?_⟩
  unfold foolscapref15_Lcm.f foolscapref15_good.f lcmN
  have h0 := rgood l hL l.length 0 (1000000000001 + l.length + 1) (by omega)
  have h1 := rlcm0 l hL l.length 0 (1000000000001 + l.length + 1) (by omega)
  rw [List.drop_zero] at h0 h1
  rw [wholes_zero] at h0 h1
  rw [h0, Option.bind_some]
  by_cases c : good l
  · rw [decide_eq_true c, if_pos rfl, if_pos c, h1 c]
    by_cases d : (0 : Nat) ∈ whole l
    · rw [if_pos d, if_pos d]
    · rw [if_neg d, if_neg d]
      have h2 := rlcm1 l hL l.length 0 1000000000001 1 (by omega) (by decide) (by decide) (by decide) c d
      have h2' : foolscapref15_Lcm.l1 (1000000000001 + l.length + 1) l 1 0 = _ := h2
      rw [h2', List.drop_zero]
  · rw [decide_eq_false c, if_neg (by decide), if_neg c]
def gcdC (l : List Int) : Option (Int × Int) := if l.length ≤ 9223372036854775807 then some (gcdN l) else none
def lcmC (l : List Int) : Option (Int × Int) := if l.length ≤ 9223372036854775807 then some (lcmN l) else none
theorem gcd_c {l : List Int} {r : Int × Int} (h : gcdC l = some r) : ∃ k, maths_Gcd.f k l = some r := by
  unfold gcdC at h; split at h
  · rename_i c; rw [← h]; exact gcd_all l c
  · exact absurd h (by simp)
theorem rgcd_c {l : List Int} {r : Int × Int} (h : gcdC l = some r) : ∃ k, foolscapref15_Gcd.f k l = some r := by
  unfold gcdC at h; split at h
  · rename_i c; rw [← h]; exact rgcd_all l c
  · exact absurd h (by simp)
theorem lcm_c {l : List Int} {r : Int × Int} (h : lcmC l = some r) : ∃ k, maths_Lcm.f k l = some r := by
  unfold lcmC at h; split at h
  · rename_i c; rw [← h]; exact lcm_all l c
  · exact absurd h (by simp)
theorem rlcm_c {l : List Int} {r : Int × Int} (h : lcmC l = some r) : ∃ k, foolscapref15_Lcm.f k l = some r := by
  unfold lcmC at h; split at h
  · rename_i c; rw [← h]; exact rlcm_all l c
  · exact absurd h (by simp)
end Go.Proofs.Ytbgiehmpdligdaa.MH
