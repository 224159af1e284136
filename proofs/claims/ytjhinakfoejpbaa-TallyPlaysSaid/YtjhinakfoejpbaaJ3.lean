/- Sums, means, places; a value more, a value less. No condition stands open. -/
import Derived.Test.YtjhinakfoejpbaaPGx2
import Derived.Test.YtjhinakfoejpbaaZS
import Derived.Test.YtjhinakfoejpbaaPGx6
import Derived.Test.YtjhinakfoejpbaaShelf
import Derived.Laws.BitsLemmas
import Derived.Laws.Bits64
import Derived.Test.YtjhinakfoejpbaaJ2
set_option linter.unusedVariables false
set_option linter.unusedSimpArgs false
/- The sums of layer wide: what they come to, in plain numbers. No condition. -/
namespace Go.Proofs.Ytjhinakfoejpbaa.Knuth

/-- What the correcting loop keeps: q yn1 + r = u, and the true quotient is at most q. -/
structure Inv (B u d yn1 yn0 q r : Nat) : Prop where
  sum : q * yn1 + r = u
  up : u * B + d < (q + 1) * (yn1 * B + yn0)

theorem times_y (B q yn1 yn0 : Nat) : q * (yn1 * B + yn0) = (q * yn1) * B + q * yn0 := by
  rw [Nat.mul_add, Nat.mul_assoc]

theorem test_iff {B u d yn1 yn0 q r : Nat} (h : q * yn1 + r = u) : q * yn0 > B * r + d ↔ u * B + d < q * (yn1 * B + yn0) := by
  rw [times_y, ← h, Nat.add_mul]
  have : r * B = B * r := Nat.mul_comm _ _
  omega

theorem quot {B u d yn1 yn0 q r : Nat} (h : Inv B u d yn1 yn0 q r) (h1 : q * (yn1 * B + yn0) ≤ u * B + d) : (u * B + d) / (yn1 * B + yn0) = q :=
  Nat.div_eq_of_lt_le h1 h.up

/-- Behind the loop by its test. -/
theorem done_test {B u d yn1 yn0 q r : Nat} (h : Inv B u d yn1 yn0 q r) (ht : ¬ q * yn0 > B * r + d) : (u * B + d) / (yn1 * B + yn0) = q :=
  quot h (by have := (not_congr (test_iff (d := d) (yn0 := yn0) (B := B) h.sum)).mp ht; omega)

/-- Behind the loop by its break. -/
theorem done_break {B u d yn1 yn0 q r : Nat} (h : Inv B u d yn1 yn0 q r) (hr : B ≤ r) (hq : q ≤ B) (h0 : yn0 ≤ B) : (u * B + d) / (yn1 * B + yn0) = q :=
  quot h (by
    rw [times_y, ← h.sum, Nat.add_mul]
    have h1 : q * yn0 ≤ B * B := Nat.mul_le_mul hq h0
    have h2 : B * B ≤ r * B := Nat.mul_le_mul hr (Nat.le_refl _)
    omega)

theorem next {B u d yn1 yn0 q r : Nat} (h : Inv B u d yn1 yn0 (q + 1) r) (ht : u * B + d < (q + 1) * (yn1 * B + yn0)) : Inv B u d yn1 yn0 q (r + yn1) :=
  ⟨by have := h.sum; rw [Nat.succ_mul] at this; omega, ht⟩

theorem big {B u d yn1 yn0 q : Nat} (hq : B ≤ q) (hu : u < yn1 * B + yn0) (hd : d < B) : u * B + d < q * (yn1 * B + yn0) := by
  have h1 : (u + 1) * B ≤ (yn1 * B + yn0) * q := Nat.mul_le_mul hu hq
  rw [Nat.add_mul] at h1
  rw [Nat.mul_comm q]
  omega

theorem start {B u d yn1 yn0 : Nat} (h1 : 0 < yn1) (hd : d < B) : Inv B u d yn1 yn0 (u / yn1) (u - u / yn1 * yn1) := by
  have hle : u / yn1 * yn1 ≤ u := Nat.div_mul_le_self _ _
  refine ⟨by omega, ?_⟩
  have hlt : u < (u / yn1 + 1) * yn1 := by
    have := Nat.lt_div_mul_add (a := u) h1
    rw [Nat.add_mul]; omega
  have h2 : (u + 1) * B ≤ ((u / yn1 + 1) * yn1) * B := Nat.mul_le_mul hlt (Nat.le_refl _)
  rw [times_y]
  rw [Nat.add_mul] at h2
  have : 0 ≤ (u / yn1 + 1) * yn0 := Nat.zero_le _
  omega

theorem start_le {B u yn1 yn0 : Nat} (h1 : 0 < yn1) (hu : u < yn1 * B + yn0) (h0 : yn0 < 2 * yn1) : u / yn1 ≤ B + 1 := by
  have : u < (B + 2) * yn1 := by
    rw [Nat.add_mul, Nat.mul_comm B]; omega
  have := (Nat.div_lt_iff_lt_mul h1).mpr this
  omega
theorem long (A d B Y : Nat) (hY : 0 < Y) : (A * B + d) / Y = A / Y * B + (A % Y * B + d) / Y ∧ (A * B + d) % Y = (A % Y * B + d) % Y := by
  have hdm := Nat.div_add_mod A Y
  generalize A / Y = q at *
  generalize A % Y = r at *
  have : A * B + d = (r * B + d) + Y * (q * B) := by
    rw [← hdm, Nat.add_mul, Nat.mul_assoc]; omega
  rw [this, Nat.add_mul_div_left _ _ hY, Nat.add_mul_mod_self_left]
  exact ⟨by omega, rfl⟩
end Go.Proofs.Ytjhinakfoejpbaa.Knuth

namespace Go.Proofs.Ytjhinakfoejpbaa.WPure
open Go.RowKit Go.Proofs.Ytjhinakfoejpbaa Go.Proofs.Ytjhinakfoejpbaa.PG Go.Proofs.YtjhinakfoejpbaaW.PrintWords Go.Proofs.YtjhinakfoejpbaaW.PrintLast Go.Proofs.YtjhinakfoejpbaaW.PrintMore

/-! ### sums: what they come to -/
abbrev right (h l : Int) : Prop := 0 ≤ l ∧ l < 1000000000000000000 ∧ -2147483648 ≤ h ∧ h < 2147483648
abbrev fits (n : Int) : Prop := -1000000000000000000 ≤ n ∧ n ≤ 1000000000000000000
def madeW (h l : Int) : Int × Int × Int :=
  if -2147483648 ≤ h + l / 1000000000000000000 ∧ h + l / 1000000000000000000 < 2147483648 then (h + l / 1000000000000000000, l % 1000000000000000000, 0) else (0, 0, 3)
def checkW (h l : Int) : Int := if right h l then 0 else 2
def addW (h l n : Int) : Int × Int × Int := if right h l ∧ fits n then madeW h (l + n) else (0, 0, 2)
def subW (h l n : Int) : Int × Int × Int := if right h l ∧ fits n then madeW h (l - n) else (0, 0, 2)
def joinW (h l h2 l2 : Int) : Int × Int × Int := if right h l ∧ right h2 l2 then madeW (h + h2) (l + l2) else (0, 0, 2)
def totalW (h l : Int) : Int × Int := if right h l then (if h < -1 ∨ 1 < h ∨ (h = 1 ∧ l ≠ 0) then (0, 3) else (h * 1000000000000000000 + l, 0)) else (0, 2)
def compareW (h l h2 l2 : Int) : Int × Int :=
  if right h l ∧ right h2 l2 then (if h < h2 then (-1, 0) else if h2 < h then (1, 0) else if l < l2 then (-1, 0) else if l2 < l then (1, 0) else (0, 0)) else (0, 2)

theorem check_eq (h l : Int) : wide_Check.f h l = some (checkW h l) := by
  unfold wide_Check.f checkW right
  repeat' split
  all_goals first | rfl | omega
theorem fits_eq (n : Int) : num_Fits.f n = some (decide (fits n)) := by
  unfold num_Fits.f fits
  split
  · congr 1; rw [decide_eq_decide]; omega
  · congr 1; symm; rw [decide_eq_false_iff_not]; omega
theorem tq (l : Int) (h0 : -1000000000000000000 ≤ l) (h1 : l ≤ 2000000000000000000) :
    (0 ≤ l ∧ Int.tdiv l 1000000000000000000 = l / 1000000000000000000 ∧ Int.tmod l 1000000000000000000 = l % 1000000000000000000) ∨
    (l < 0 ∧ Int.tdiv l 1000000000000000000 = -((-l) / 1000000000000000000) ∧ Int.tmod l 1000000000000000000 = -((-l) % 1000000000000000000)) := by
  by_cases h : 0 ≤ l
  · exact .inl ⟨h, Int.tdiv_eq_ediv_of_nonneg h, Int.tmod_eq_emod_of_nonneg h⟩
  · refine .inr ⟨by omega, ?_, ?_⟩
    · have : l = -(-l) := by omega
      rw [this, Int.neg_tdiv, Int.neg_neg, Int.tdiv_eq_ediv_of_nonneg (by omega)]
    · have : l = -(-l) := by omega
      rw [this, Int.neg_tmod, Int.neg_neg, Int.tmod_eq_emod_of_nonneg (by omega)]

theorem carried_eq (k : Nat) (h l : Int) (h0 : -1000000000000000000 ≤ l) (h1 : l ≤ 2000000000000000000) (h2 : -4294967296 ≤ h) (h3 : h ≤ 4294967296) :
    wide_carried.f (k + 1) h l = some (madeW h l) := by
  have key : ∀ h' l', h' = h + l / 1000000000000000000 → l' = l % 1000000000000000000 → wide_carried.j0 (k + 1) h' l' = some (madeW h l) := by
    intro h' l' e1 e2
    simp only [wide_carried.j0, check_eq, Option.bind_some]
    subst e1 e2
    unfold checkW madeW right
    by_cases hc : -2147483648 ≤ h + l / 1000000000000000000 ∧ h + l / 1000000000000000000 < 2147483648
    · rw [if_pos hc, if_pos (by omega)]
    · rw [if_neg hc, if_neg (by omega)]
  unfold wide_carried.f
  rcases tq l h0 h1 with ⟨ha, e1, e2⟩ | ⟨ha, e1, e2⟩
  · rw [e1, e2, if_neg (by omega)]
    have w1 : wrap64 (l / 1000000000000000000) = l / 1000000000000000000 := by unfold wrap64; omega
    rw [w1]
    have w2 : wrap64 (h + l / 1000000000000000000) = h + l / 1000000000000000000 := by unfold wrap64; omega
    rw [w2]
    exact key _ _ rfl rfl
  · rw [e1, e2]
    have w1 : wrap64 (-((-l) / 1000000000000000000)) = -((-l) / 1000000000000000000) := by unfold wrap64; omega
    rw [w1]
    have w2 : wrap64 (h + -((-l) / 1000000000000000000)) = h + -((-l) / 1000000000000000000) := by unfold wrap64; omega
    rw [w2]
    by_cases hz : -((-l) % 1000000000000000000) < 0
    · rw [if_pos hz]
      exact key _ _ (by unfold wrap64; omega) (by unfold wrap64; omega)
    · rw [if_neg hz]
      exact key _ _ (by omega) (by omega)
theorem add_eq (k : Nat) (h l n : Int) : wide_Add.f (k + 1) h l n = some (addW h l n) := by
  unfold wide_Add.f
  simp only [check_eq, fits_eq, Option.bind_some]
  unfold checkW addW
  by_cases hr : right h l
  · by_cases hf : fits n
    · have w : wrap64 (l + n) = l + n := by unfold wrap64; omega
      rw [if_pos (if_pos hr), if_pos (by simpa using hf), w, carried_eq _ _ _ (by omega) (by omega) (by omega) (by omega), if_pos ⟨hr, hf⟩]; rfl
    · rw [if_pos (if_pos hr), if_neg (by simpa using hf), if_neg (fun h => hf h.2)]
  · rw [if_neg (by rw [if_neg hr]; decide), if_neg (fun h => hr h.1)]
theorem sub_eq (k : Nat) (h l n : Int) : wide_Sub.f (k + 1) h l n = some (subW h l n) := by
  unfold wide_Sub.f
  simp only [check_eq, fits_eq, Option.bind_some]
  unfold checkW subW
  by_cases hr : right h l
  · by_cases hf : fits n
    · have w : wrap64 (l - n) = l - n := by unfold wrap64; omega
      rw [if_pos (if_pos hr), if_pos (by simpa using hf), w, carried_eq _ _ _ (by omega) (by omega) (by omega) (by omega), if_pos ⟨hr, hf⟩]; rfl
    · rw [if_pos (if_pos hr), if_neg (by simpa using hf), if_neg (fun h => hf h.2)]
  · rw [if_neg (by rw [if_neg hr]; decide), if_neg (fun h => hr h.1)]
theorem total_eq (h l : Int) : wide_Total.f h l = some (totalW h l) := by
  unfold wide_Total.f
  simp only [check_eq, Option.bind_some]
  unfold checkW totalW
  by_cases hr : right h l
  · rw [if_pos (if_pos hr), if_pos hr]
    by_cases hc : h < -1 ∨ 1 < h ∨ (h = 1 ∧ l ≠ 0)
    · rw [if_pos hc]
      repeat' split
      all_goals first | rfl | omega
    · rw [if_neg hc]
      have w : wrap64 (wrap64 (h * 1000000000000000000) + l) = h * 1000000000000000000 + l := by unfold wrap64; omega
      rw [w]
      repeat' split
      all_goals first | rfl | omega
  · rw [if_neg (by rw [if_neg hr]; decide), if_neg hr]

/-! ### Compare -/
/-! ### words of two -/
theorem words_sub (m l hi lo : Int) (hm : m = 18446744073709551616 * hi + lo) (h0 : 0 ≤ lo) (h1 : lo < 18446744073709551616) (h2 : 0 ≤ l) (h3 : l < 1000000000000000000) (h4 : l ≤ m) (h5 : hi < 4294967296) :
    (hi - ent_sub64c lo l) % 18446744073709551616 = (m - l) / 18446744073709551616 ∧ ent_sub64 lo l = (m - l) % 18446744073709551616 := by
  unfold ent_sub64 ent_sub64c
  split <;> omega
theorem words_add (m l hi lo : Int) (hm : m = 18446744073709551616 * hi + lo) (h0 : 0 ≤ lo) (h1 : lo < 18446744073709551616) (h2 : 0 ≤ l) (h3 : l < 1000000000000000000) (h4 : 0 ≤ hi) (h5 : hi < 4294967296) :
    (hi + ent_add64c lo l) % 18446744073709551616 = (m + l) / 18446744073709551616 ∧ ent_add64 lo l = (m + l) % 18446744073709551616 := by
  unfold ent_add64 ent_add64c
  omega
theorem words_eq (h l : Int) (hr : right h l) :
    wide_words.f h l = some ((if h < 0 then -(h * 1000000000000000000 + l) else h * 1000000000000000000 + l) / 18446744073709551616, (if h < 0 then -(h * 1000000000000000000 + l) else h * 1000000000000000000 + l) % 18446744073709551616) := by
  obtain ⟨h0, h1, h2, h3⟩ := hr
  have m : IntKind.u64.wrap (mx h (wrap64 (-h))) = if h < 0 then -h else h := by
    rw [IntKind.wrap_u64]; unfold mx wrap64; split <;> split <;> omega
  have wl : IntKind.u64.wrap l = l := by rw [IntKind.wrap_u64]; omega
  unfold wide_words.f
  rw [m, wl]
  unfold bits_Mul64.f
  rw [if_pos (by split <;> omega), if_pos (by split <;> omega), if_pos (by omega), if_pos (by omega)]
  simp only [Option.bind_some]
  by_cases hn : h < 0
  · simp only [if_pos hn]
    have e := words_sub (-h * 1000000000000000000) l (-h * 1000000000000000000 / 18446744073709551616) (-h * 1000000000000000000 % 18446744073709551616) (by omega) (by omega) (by omega) h0 h1 (by omega) (by omega)
    rw [IntKind.wrap_u64, e.1, e.2, show -h * 1000000000000000000 - l = -(h * 1000000000000000000 + l) by omega]
  · simp only [if_neg hn]
    have e := words_add (h * 1000000000000000000) l (h * 1000000000000000000 / 18446744073709551616) (h * 1000000000000000000 % 18446744073709551616) (by omega) (by omega) (by omega) h0 h1 (by omega) (by omega)
    rw [IntKind.wrap_u64, e.1, e.2]

theorem wrapn (n : Nat) (h : n < 18446744073709551616) : IntKind.u64.wrap (n : Int) = n := by rw [IntKind.wrap_u64]; omega
theorem wrapz (z : Int) (n : Nat) (e : z = n) (h : n < 18446744073709551616) : IntKind.u64.wrap z = n := by rw [e]; exact wrapn n h

theorem l0_eq (Y s yn1 yn0 u d un0 : Nat) (R : Int × Int) (n : Nat)
    (hY : Y = yn1 * 4294967296 + yn0) (h1 : yn1 < 4294967296) (h0 : yn0 < 4294967296) (hd : d < 4294967296) (hu : u < Y)
    (hk : ∀ k, n ≤ k → bits_Div64.j2 k Y s yn1 yn0 u d un0 (((u * 4294967296 + d) / Y : Nat) : Int) = some R) :
    ∀ m q r k, Knuth.Inv 4294967296 u d yn1 yn0 q r → q ≤ 4294967296 + 1 → r < 4294967296 → 4294967296 ≤ r + m * yn1 → n + 2 * m + 2 ≤ k →
      bits_Div64.l0 k Y s yn1 yn0 u d un0 q r = some R := by
  intro m
  induction m with
  | zero =>
    intro q r k hi hq hr hm hkk
    omega
  | succ m ih =>
    intro q r k hi hq hr hm hkk
    obtain ⟨k, rfl⟩ : ∃ j, k = j + 2 := ⟨k - 2, by omega⟩
    -- the body, once the test is decided
    have body : u * 4294967296 + d < q * Y → bits_Div64.j1 (k + 1) Y s yn1 yn0 u d un0 q r true = some R := by
      intro ht
      obtain ⟨q, rfl⟩ : ∃ j, q = j + 1 := by
        refine ⟨q - 1, ?_⟩
        rcases Nat.eq_zero_or_pos q with h | h
        · subst h; simp at ht
        · omega
      have hi' := Knuth.next hi (by rw [← hY]; exact ht)
      have hlt : (u * 4294967296 + d) / Y < q + 1 := (Nat.div_lt_iff_lt_mul (by omega)).mpr ht
      simp only [bits_Div64.j1]
      rw [if_pos trivial, wrapz _ (r + yn1) (by omega) (by omega), wrapz (((q + 1 : Nat) : Int) - 1) q (by omega) (by omega)]
      by_cases hb : 4294967296 ≤ r + yn1
      · rw [if_pos (by omega)]
        have hQ := Knuth.done_break hi' hb (by omega) (by omega)
        rw [← hY] at hQ
        rw [← hQ]
        exact hk _ (by omega)
      · rw [if_neg (by omega)]
        exact ih q (r + yn1) k hi' (by omega) (by omega) (by rw [Nat.succ_mul] at hm; omega) (by omega)
    simp only [bits_Div64.l0]
    by_cases hb : 4294967296 ≤ q
    · rw [if_pos (by omega)]
      have := Knuth.big (yn1 := yn1) (yn0 := yn0) hb (by rw [← hY]; exact hu) hd
      exact body (by rw [hY]; exact this)
    · rw [if_neg (by omega)]
      have a1 : q * yn0 < 18446744073709551616 := by
        have : q * yn0 ≤ (4294967296 - 1) * (4294967296 - 1) := Nat.mul_le_mul (by omega) (by omega)
        omega
      rw [wrapz _ (q * yn0) (Int.natCast_mul q yn0).symm a1, wrapz (4294967296 * (r : Int)) (4294967296 * r) (by omega) (by omega), wrapz _ (4294967296 * r + d) (by omega) (by omega)]
      by_cases ht : q * yn0 > 4294967296 * r + d
      · rw [decide_eq_true (by omega)]
        rw [Knuth.test_iff hi.sum, ← hY] at ht
        exact body ht
      · rw [decide_eq_false (by omega)]
        simp only [bits_Div64.j1]
        have hQ := Knuth.done_test hi ht
        rw [← hY] at hQ
        rw [if_neg (by decide), ← hQ]
        exact hk _ (by omega)

theorem rem_eq (Y u d : Nat) (hY0 : 0 < Y) (hY : Y < 18446744073709551616) :
    IntKind.u64.wrap (IntKind.u64.wrap (IntKind.u64.wrap ((u : Int) * 4294967296) + (d : Int)) - IntKind.u64.wrap ((((u * 4294967296 + d) / Y : Nat) : Int) * (Y : Int))) = (((u * 4294967296 + d) % Y : Nat) : Int) := by
  have hdm := Nat.div_add_mod (u * 4294967296 + d) Y
  have hlt : (u * 4294967296 + d) % Y < Y := Nat.mod_lt _ hY0
  generalize (u * 4294967296 + d) / Y = Q at *
  generalize (u * 4294967296 + d) % Y = R at *
  have e1 : (Q : Int) * (Y : Int) = ((Y * Q : Nat) : Int) := by rw [Int.natCast_mul, Int.mul_comm]
  rw [e1]
  simp only [IntKind.wrap_u64]
  omega

theorem fin_eq (Y s u d q1 : Nat) (_hd : d < 4294967296) (hu : u < Y) (hY : Y < 18446744073709551616) (hq : q1 < 4294967296) (hQ : (u * 4294967296 + d) / Y < 4294967296) (z : Int) (hz : z = (((u * 4294967296 + d) / Y : Nat) : Int)) :
    (IntKind.u64.wrap (IntKind.u64.wrap ((q1 : Int) * 4294967296) + z), shr .u64 (IntKind.u64.wrap (IntKind.u64.wrap (IntKind.u64.wrap ((u : Int) * 4294967296) + (d : Int)) - IntKind.u64.wrap (z * (Y : Int)))) (s : Int))
      = (((q1 * 4294967296 + (u * 4294967296 + d) / Y : Nat) : Int), (((u * 4294967296 + d) % Y / 2 ^ min s 64 : Nat) : Int)) := by
  have hdm := Nat.div_add_mod (u * 4294967296 + d) Y
  have hlt : (u * 4294967296 + d) % Y < Y := Nat.mod_lt _ (by omega)
  generalize hQQ : (u * 4294967296 + d) / Y = Q at *
  generalize hRR : (u * 4294967296 + d) % Y = R at *
  subst hz
  have e1 : (Q : Int) * (Y : Int) = ((Y * Q : Nat) : Int) := by rw [Int.natCast_mul, Int.mul_comm]
  refine Prod.ext ?_ ?_
  · simp only [IntKind.wrap_u64]
    omega
  · simp only
    rw [e1]
    have e2 : IntKind.u64.wrap (IntKind.u64.wrap (IntKind.u64.wrap ((u : Int) * 4294967296) + (d : Int)) - IntKind.u64.wrap ((Y * Q : Nat) : Int)) = (R : Int) := by
      simp only [IntKind.wrap_u64]
      omega
    rw [e2]
    unfold shr
    rw [show ((s : Int).toNat) = s from rfl, show IntKind.u64.bits = 64 from rfl, Int.natCast_ediv, Int.natCast_pow]
    rfl

theorem l1_eq (Y s yn1 yn0 u d q1 : Nat)
    (hY : Y = yn1 * 4294967296 + yn0) (h1 : yn1 < 4294967296) (h0 : yn0 < 4294967296) (hd : d < 4294967296) (hu : u < Y) (hq1 : q1 < 4294967296) :
    ∀ m q r k, Knuth.Inv 4294967296 u d yn1 yn0 q r → q ≤ 4294967296 + 1 → r < 4294967296 → 4294967296 ≤ r + m * yn1 → 2 * m + 2 ≤ k →
      bits_Div64.l1 k Y s yn1 yn0 d q1 r u q = some (((q1 * 4294967296 + (u * 4294967296 + d) / Y : Nat) : Int), (((u * 4294967296 + d) % Y / 2 ^ min s 64 : Nat) : Int)) := by
  have hY2 : Y < 18446744073709551616 := by omega
  have hQB : (u * 4294967296 + d) / Y < 4294967296 := (Nat.div_lt_iff_lt_mul (by omega)).mpr (by
    have := Knuth.big (yn1 := yn1) (yn0 := yn0) (Nat.le_refl 4294967296) (by rw [← hY]; exact hu) hd
    rw [← hY] at this; exact this)
  have fin : ∀ z : Int, z = (((u * 4294967296 + d) / Y : Nat) : Int) → _ := fun z hz => fin_eq Y s u d q1 hd hu hY2 hq1 hQB z hz
  intro m
  induction m with
  | zero =>
    intro q r k hi hq hr hm hkk
    omega
  | succ m ih =>
    intro q r k hi hq hr hm hkk
    obtain ⟨k, rfl⟩ : ∃ j, k = j + 2 := ⟨k - 2, by omega⟩
    have body : u * 4294967296 + d < q * Y → bits_Div64.j4 (k + 1) Y s yn1 yn0 d q1 r u q true = some (((q1 * 4294967296 + (u * 4294967296 + d) / Y : Nat) : Int), (((u * 4294967296 + d) % Y / 2 ^ min s 64 : Nat) : Int)) := by
      intro ht
      obtain ⟨q, rfl⟩ : ∃ j, q = j + 1 := by
        refine ⟨q - 1, ?_⟩
        rcases Nat.eq_zero_or_pos q with h | h
        · rw [h] at ht; simp at ht
        · omega
      have hi' := Knuth.next hi (by rw [← hY]; exact ht)
      have hlt : (u * 4294967296 + d) / Y < q + 1 := (Nat.div_lt_iff_lt_mul (by omega)).mpr ht
      simp only [bits_Div64.j4]
      rw [if_pos trivial, wrapz _ (r + yn1) (by omega) (by omega), wrapz (((q + 1 : Nat) : Int) - 1) q (by omega) (by omega)]
      by_cases hb : 4294967296 ≤ r + yn1
      · rw [if_pos (by omega), if_pos (by omega)]
        have hQ := Knuth.done_break hi' hb (by omega) (by omega)
        rw [← hY] at hQ
        rw [fin q (by rw [hQ])]
      · rw [if_neg (by omega)]
        exact ih q (r + yn1) k hi' (by omega) (by omega) (by rw [Nat.succ_mul] at hm; omega) (by omega)
    simp only [bits_Div64.l1]
    by_cases hb : 4294967296 ≤ q
    · rw [if_pos (by omega)]
      have := Knuth.big (yn1 := yn1) (yn0 := yn0) hb (by rw [← hY]; exact hu) hd
      exact body (by rw [hY]; exact this)
    · rw [if_neg (by omega)]
      have a1 : q * yn0 < 18446744073709551616 := by
        have : q * yn0 ≤ (4294967296 - 1) * (4294967296 - 1) := Nat.mul_le_mul (by omega) (by omega)
        omega
      rw [wrapz _ (q * yn0) (Int.natCast_mul q yn0).symm a1, wrapz (4294967296 * (r : Int)) (4294967296 * r) (by omega) (by omega), wrapz _ (4294967296 * r + d) (by omega) (by omega)]
      by_cases ht : q * yn0 > 4294967296 * r + d
      · rw [decide_eq_true (by omega)]
        rw [Knuth.test_iff hi.sum, ← hY] at ht
        exact body ht
      · rw [decide_eq_false (by omega)]
        simp only [bits_Div64.j4]
        have hQ := Knuth.done_test hi ht
        rw [← hY] at hQ
        rw [if_neg (by decide), if_pos (by omega), fin q (by rw [hQ])]

theorem start_q (u yn1 yn0 : Nat) (hy : yn1 * 4294967296 + yn0 < 18446744073709551616) (h1 : 2147483648 ≤ yn1) (h0 : yn0 < 4294967296) (hu : u < yn1 * 4294967296 + yn0) :
    u / yn1 ≤ 4294967296 + 1 ∧ u - u / yn1 * yn1 < 4294967296 ∧ u / yn1 * yn1 ≤ u := by
  refine ⟨Knuth.start_le (by omega) hu (by omega), ?_, Nat.div_mul_le_self _ _⟩
  have := Nat.mod_lt u (show yn1 > 0 by omega)
  have := Nat.div_add_mod u yn1
  rw [Nat.mul_comm] at this
  omega

theorem phase2 (Y s yn1 yn0 un0 R Q k : Nat) (hY : Y < 18446744073709551616) (hYe : Y = yn1 * 4294967296 + yn0) (hn1 : yn1 < 4294967296) (hn1' : 2147483648 ≤ yn1) (hn0 : yn0 < 4294967296) (h0 : un0 < 4294967296) (hr : R < Y) (hq : Q < 4294967296) (hk : 10 ≤ k) :
    bits_Div64.l1 k Y s yn1 yn0 un0 Q (IntKind.u64.wrap ((R : Int) - IntKind.u64.wrap (IntKind.u64.wrap (Int.tdiv (R : Int) (yn1 : Int)) * (yn1 : Int)))) R (IntKind.u64.wrap (Int.tdiv (R : Int) (yn1 : Int)))
      = some (((Q * 4294967296 + (R * 4294967296 + un0) / Y : Nat) : Int), (((R * 4294967296 + un0) % Y / 2 ^ min s 64 : Nat) : Int)) := by
  have hs2 := start_q R yn1 yn0 (by omega) hn1' hn0 (by omega)
  have w2 : IntKind.u64.wrap (Int.tdiv (R : Int) (yn1 : Int)) = ((R / yn1 : Nat) : Int) := by
    rw [← Int.ofNat_tdiv]
    exact wrapn _ (by have := hs2.1; omega)
  rw [w2]
  have w3 : IntKind.u64.wrap (((R / yn1 : Nat) : Int) * (yn1 : Int)) = ((R / yn1 * yn1 : Nat) : Int) := wrapz _ _ (by rw [Int.natCast_mul]) (by have := hs2.2.2; omega)
  rw [w3]
  have w4 : IntKind.u64.wrap ((R : Int) - ((R / yn1 * yn1 : Nat) : Int)) = ((R - R / yn1 * yn1 : Nat) : Int) := wrapz _ _ (by have := hs2.2.2; omega) (by omega)
  rw [w4]
  have hup2 := (Knuth.start (u := R) (d := un0) (yn1 := yn1) (yn0 := yn0) (B := 4294967296) (by omega) h0)
  exact l1_eq Y s yn1 yn0 R un0 Q hYe hn1 hn0 h0 hr hq 2 _ _ k hup2 hs2.1 hs2.2.1 (by omega) (by omega)

/-- Behind normalizing: both digits. -/
theorem norm_eq (Y s u un1 un0 : Nat) (hY : Y < 18446744073709551616) (hY2 : 9223372036854775808 ≤ Y) (h1 : un1 < 4294967296) (h0 : un0 < 4294967296) (hu : u < Y) (k : Nat) (hk : 20 ≤ k) :
    bits_Div64.l0 k Y s ((Y / 4294967296 : Nat) : Int) ((Y % 4294967296 : Nat) : Int) u un1 un0 ((u / (Y / 4294967296) : Nat) : Int) ((u - u / (Y / 4294967296) * (Y / 4294967296) : Nat) : Int)
      = some (((((u * 4294967296 + un1) * 4294967296 + un0) / Y : Nat) : Int), ((((u * 4294967296 + un1) * 4294967296 + un0) % Y / 2 ^ min s 64 : Nat) : Int)) := by
  have hYe : Y = Y / 4294967296 * 4294967296 + Y % 4294967296 := by omega
  generalize hy1 : Y / 4294967296 = yn1 at *
  generalize hy0 : Y % 4294967296 = yn0 at *
  have hn1 : yn1 < 4294967296 := by omega
  have hn1' : 2147483648 ≤ yn1 := by omega
  have hn0 : yn0 < 4294967296 := by omega
  have e1 : ((u * 4294967296 + un1) * 4294967296 + un0) / Y = (u * 4294967296 + un1) / Y * 4294967296 + ((u * 4294967296 + un1) % Y * 4294967296 + un0) / Y ∧
      ((u * 4294967296 + un1) * 4294967296 + un0) % Y = ((u * 4294967296 + un1) % Y * 4294967296 + un0) % Y := by
    exact Knuth.long (u * 4294967296 + un1) un0 4294967296 Y (by omega)
  have hs := start_q u yn1 yn0 (by omega) hn1' hn0 (by omega)
  have hr : (u * 4294967296 + un1) % Y < Y := Nat.mod_lt _ (by omega)
  have hq : (u * 4294967296 + un1) / Y < 4294967296 := (Nat.div_lt_iff_lt_mul (by omega)).mpr (by
    have := Knuth.big (yn1 := yn1) (yn0 := yn0) (Nat.le_refl 4294967296) (by rw [← hYe]; exact hu) h1
    rw [← hYe] at this; exact this)
  have hup := (Knuth.start (u := u) (d := un1) (yn1 := yn1) (yn0 := yn0) (B := 4294967296) (by omega) h1)
  refine l0_eq Y s yn1 yn0 u un1 un0 _ 12 hYe hn1 hn0 h1 hu ?_ 2 _ _ k hup hs.1 hs.2.1 ?_ (by omega)
  · intro k hk
    obtain ⟨k, rfl⟩ : ∃ j, k = j + 1 := ⟨k - 1, by omega⟩
    simp only [bits_Div64.j2]
    rw [if_neg (by omega)]
    rw [rem_eq Y u un1 (by omega) hY]
    rw [e1.1, e1.2]
    exact phase2 Y s yn1 yn0 un0 _ _ k hY hYe hn1 hn1' hn0 h0 hr hq (by omega)
  · omega
theorem bitLenAux_spec : ∀ f x, x < 2 ^ f → x < 2 ^ Lib.bitLenAux f x ∧ (0 < x → 0 < Lib.bitLenAux f x ∧ 2 ^ (Lib.bitLenAux f x - 1) ≤ x) ∧ Lib.bitLenAux f x ≤ f := by
  intro f
  induction f with
  | zero => intro x h; simp [Lib.bitLenAux] at *; omega
  | succ f ih =>
    intro x h
    rw [Nat.pow_succ] at h
    simp only [Lib.bitLenAux]
    by_cases hx : x = 0
    · rw [if_pos hx]; simp [hx]
    · rw [if_neg hx]
      obtain ⟨a, b, c⟩ := ih (x / 2) (by omega)
      rw [Nat.add_comm 1, Nat.pow_succ]
      refine ⟨by omega, fun _ => ⟨by omega, ?_⟩, by omega⟩
      rw [Nat.add_sub_cancel]
      by_cases h2 : x / 2 = 0
      · rw [h2]
        have : Lib.bitLenAux f 0 = 0 := by cases f <;> simp [Lib.bitLenAux]
        rw [this]; simp; omega
      · obtain ⟨p, q⟩ := b (by omega)
        obtain ⟨n, hn⟩ : ∃ n, Lib.bitLenAux f (x / 2) = n + 1 := ⟨Lib.bitLenAux f (x / 2) - 1, by omega⟩
        rw [hn] at q ⊢
        rw [Nat.add_sub_cancel] at q
        rw [Nat.pow_succ]; omega
theorem bitLen_spec (x : Nat) (h : x < 18446744073709551616) : x < 2 ^ Lib.bitLen x ∧ (0 < x → 0 < Lib.bitLen x ∧ 2 ^ (Lib.bitLen x - 1) ≤ x) ∧ Lib.bitLen x ≤ 64 := bitLenAux_spec 64 x h

theorem andmask (x : Nat) (h : x < 18446744073709551616) : Go.bits .and .u64 (x : Int) 4294967295 = ((x % 4294967296 : Nat) : Int) := by
  have := bits_mask .u64 64 (by decide) (fun n h0 h1 => by rw [IntKind.wrap_u64]; omega) 32 (by decide) (x : Int) (by omega) (by omega)
  rw [show ((2 : Int) ^ 32 - 1) = 4294967295 by decide, show ((2 : Int) ^ 32) = 4294967296 by decide] at this
  rw [this]; omega

theorem last_eq (Y s U W k : Nat) (hY : Y < 18446744073709551616) (hY2 : 9223372036854775808 ≤ Y) (hU : U < Y) (hW : W < 18446744073709551616) (hk : 20 ≤ k) :
    (if ((Y : Int) / 4294967296) = 0 then none else bits_Div64.l0 k Y s ((Y : Int) / 4294967296) ((Y % 4294967296 : Nat) : Int) U ((W : Int) / 4294967296) ((W % 4294967296 : Nat) : Int) (IntKind.u64.wrap (Int.tdiv (U : Int) ((Y : Int) / 4294967296)))
        (IntKind.u64.wrap ((U : Int) - IntKind.u64.wrap (IntKind.u64.wrap (Int.tdiv (U : Int) ((Y : Int) / 4294967296)) * ((Y : Int) / 4294967296)))))
      = some ((((U * 18446744073709551616 + W) / Y : Nat) : Int), (((U * 18446744073709551616 + W) % Y / 2 ^ min s 64 : Nat) : Int)) := by
  rw [if_neg (by omega)]
  have eY : (Y : Int) / 4294967296 = ((Y / 4294967296 : Nat) : Int) := by omega
  have eW : (W : Int) / 4294967296 = ((W / 4294967296 : Nat) : Int) := by omega
  have hs := start_q U (Y / 4294967296) (Y % 4294967296) (by omega) (by omega) (by omega) (by omega)
  rw [eY, eW, ← Int.ofNat_tdiv, wrapn _ (by have := hs.1; omega),
    wrapz (((U / (Y / 4294967296) : Nat) : Int) * ((Y / 4294967296 : Nat) : Int)) (U / (Y / 4294967296) * (Y / 4294967296)) (by rw [Int.natCast_mul]) (by have := hs.2.2; omega),
    wrapz _ (U - U / (Y / 4294967296) * (Y / 4294967296)) (by have := hs.2.2; omega) (by omega)]
  have e : U * 18446744073709551616 + W = (U * 4294967296 + W / 4294967296) * 4294967296 + W % 4294967296 := by omega
  rw [e]
  exact norm_eq Y s U (W / 4294967296) (W % 4294967296) hY hY2 (by omega) (by omega) hU k hk

theorem div64_eq (hi lo y k : Nat) (h1 : hi < y) (hy : y < 18446744073709551616) (hlo : lo < 18446744073709551616) (hk : 20 ≤ k) :
    bits_Div64.f k hi lo y = some ((((hi * 18446744073709551616 + lo) / y : Nat) : Int), (((hi * 18446744073709551616 + lo) % y : Nat) : Int)) := by
  unfold bits_Div64.f
  rw [if_neg (by omega), if_neg (by omega)]
  by_cases h0 : hi = 0
  · rw [if_pos (by omega), h0, Nat.zero_mul, Nat.zero_add, ← Int.ofNat_tdiv, wrapn _ (Nat.lt_of_le_of_lt (Nat.div_le_self _ _) hlo), Int.ofNat_tmod]
  · rw [if_neg (by omega)]
    unfold bits_LeadingZeros64.f bits_Len64.f
    rw [if_pos (by omega), if_pos (by omega)]
    simp only [Option.bind_some, Int.toNat_natCast]
    obtain ⟨hL1, hL2, hL3⟩ := bitLen_spec y hy
    obtain ⟨hL4, hL5⟩ := hL2 (by omega)
    generalize Lib.bitLen y = L at *
    obtain ⟨s, rfl⟩ : ∃ s, L = 64 - s := ⟨64 - L, by omega⟩
    have hs : s ≤ 63 := by omega
    have w0 : wrap64 (64 - ((64 - s : Nat) : Int)) = (s : Int) := by unfold wrap64; omega
    have w1 : IntKind.u64.wrap (s : Int) = (s : Int) := wrapn s (by omega)
    have w2 : IntKind.u64.wrap (64 - (s : Int)) = ((64 - s : Nat) : Int) := wrapz _ _ (by omega) (by omega)
    rw [w0, w1, w2, if_pos (by omega), if_pos (by omega)]
    -- powers
    have p64 : 2 ^ (64 - s) * 2 ^ s = 18446744073709551616 := by rw [← Nat.pow_add]; rw [show 64 - s + s = 64 by omega]
    have p63 : 2 ^ (64 - s - 1) * 2 ^ s = 9223372036854775808 := by rw [← Nat.pow_add]; rw [show 64 - s - 1 + s = 63 by omega]
    have ps : 0 < 2 ^ s := Nat.two_pow_pos s
    have pl : 0 < 2 ^ (64 - s) := Nat.two_pow_pos _
    have hYlt : y * 2 ^ s < 18446744073709551616 := by rw [← p64]; exact Nat.mul_lt_mul_of_pos_right hL1 ps
    have hYge : 9223372036854775808 ≤ y * 2 ^ s := by rw [← p63]; exact Nat.mul_le_mul_right _ hL5
    have hhi : (hi + 1) * 2 ^ s ≤ y * 2 ^ s := Nat.mul_le_mul_right _ h1
    have hlq : lo / 2 ^ (64 - s) < 2 ^ s := by
      rw [Nat.div_lt_iff_lt_mul pl, Nat.mul_comm, p64]; exact hlo
    rw [Nat.add_mul, Nat.one_mul] at hhi
    have sh : ∀ x : Nat, shl .u64 (x : Int) (s : Int) = ((x * 2 ^ s % 18446744073709551616 : Nat) : Int) := by
      intro x
      unfold shl
      rw [IntKind.wrap_u64, show ((s : Int).toNat) = s from rfl, show IntKind.u64.bits = 64 from rfl, Nat.min_eq_left (by omega)]
      have : ((2 : Int) ^ s) = ((2 ^ s : Nat) : Int) := by simp
      rw [this, ← Int.natCast_mul]; omega
    have sr : shr .u64 (lo : Int) ((64 - s : Nat) : Int) = ((lo / 2 ^ (64 - s) : Nat) : Int) := by
      unfold shr
      rw [show (((64 - s : Nat) : Int).toNat) = 64 - s from rfl, show IntKind.u64.bits = 64 from rfl, Nat.min_eq_left (by omega)]
      simp
    rw [sh y, sh hi, sh lo, sr, Nat.mod_eq_of_lt hYlt, Nat.mod_eq_of_lt (a := hi * 2 ^ s) (by omega)]
    have hor : Go.bits .or .u64 ((hi * 2 ^ s : Nat) : Int) ((lo / 2 ^ (64 - s) : Nat) : Int) = ((hi * 2 ^ s + lo / 2 ^ (64 - s) : Nat) : Int) := by
      have hlq2 : lo / 2 ^ (64 - s) < 18446744073709551616 := Nat.lt_of_le_of_lt (Nat.div_le_self _ _) hlo
      have hhi2 : hi * 2 ^ s < 18446744073709551616 := by omega
      have hm : hi * 2 ^ s % 2 ^ s = 0 := Nat.mul_mod_left _ _
      have := bits_join .u64 64 (by decide) (fun n h0 h1 => by rw [IntKind.wrap_u64]; omega) s ((hi * 2 ^ s : Nat) : Int) ((lo / 2 ^ (64 - s) : Nat) : Int) (Int.natCast_nonneg _)
        (by exact_mod_cast hm) (by exact_mod_cast hhi2) (Int.natCast_nonneg _) (by exact_mod_cast hlq) (by exact_mod_cast hlq2)
      rw [this, Int.natCast_add]
    rw [hor, andmask _ hYlt, andmask _ (Nat.mod_lt _ (by omega))]
    -- the low word
    have hun : lo * 2 ^ s = lo / 2 ^ (64 - s) * 18446744073709551616 + lo * 2 ^ s % 18446744073709551616 := by
      have e : lo * 2 ^ s / 18446744073709551616 = lo / 2 ^ (64 - s) := by rw [← p64, Nat.mul_div_mul_right _ _ ps]
      rw [← e]; omega
    have hU : (hi * 18446744073709551616 + lo) * 2 ^ s = (hi * 2 ^ s + lo / 2 ^ (64 - s)) * 18446744073709551616 + lo * 2 ^ s % 18446744073709551616 := by
      rw [Nat.add_mul, Nat.add_mul, hun]
      have : hi * 18446744073709551616 * 2 ^ s = hi * 2 ^ s * 18446744073709551616 := by rw [Nat.mul_right_comm]
      omega
    have hfin : (hi * 18446744073709551616 + lo) / y = (hi * 18446744073709551616 + lo) * 2 ^ s / (y * 2 ^ s) ∧ (hi * 18446744073709551616 + lo) % y = (hi * 18446744073709551616 + lo) * 2 ^ s % (y * 2 ^ s) / 2 ^ min s 64 := by
      rw [Nat.mul_div_mul_right _ _ ps, Nat.mul_mod_mul_right, Nat.min_eq_left (by omega), Nat.mul_div_cancel _ ps]
      exact ⟨rfl, rfl⟩
    rw [hfin.1, hfin.2, hU]
    have hW : lo * 2 ^ s % 18446744073709551616 < 18446744073709551616 := Nat.mod_lt _ (by omega)
    exact last_eq (y * 2 ^ s) s (hi * 2 ^ s + lo / 2 ^ (64 - s)) (lo * 2 ^ s % 18446744073709551616) k hYlt hYge (by omega) hW hk

/-! ### Mean -/
def meanN (s c : Nat) : Nat := if s % c > c - s % c ∨ (s % c = c - s % c ∧ s / c % 2 = 1) then s / c + 1 else s / c
def sizeW (h l : Int) : Nat := (h * 1000000000000000000 + l).natAbs
def meanW (h l c : Int) : Int := if h < 0 then -(meanN (sizeW h l) c.toNat : Nat) else (meanN (sizeW h l) c.toNat : Nat)

theorem and1 (x : Nat) (h : x < 18446744073709551616) : Go.bits .and .u64 (x : Int) 1 = ((x % 2 : Nat) : Int) := by
  have := bits_mask .u64 64 (by decide) (fun n h0 h1 => by rw [IntKind.wrap_u64]; omega) 1 (by decide) (x : Int) (by omega) (by omega)
  rw [show ((2 : Int) ^ 1 - 1) = 1 by decide, show ((2 : Int) ^ 1) = 2 by decide] at this
  rw [this]; omega

theorem meanN_le (s c : Nat) (hc : 0 < c) (h : s ≤ c * 1000000000000000000) : meanN s c ≤ 1000000000000000000 := by
  have hdm := Nat.div_add_mod s c
  have hlt := Nat.mod_lt s hc
  have hq : s / c ≤ 1000000000000000000 := by
    have := (Nat.div_le_div_right (c := c) h)
    rwa [Nat.mul_div_cancel_left _ hc] at this
  unfold meanN
  by_cases he : s / c = 1000000000000000000
  · have : s % c = 0 := by
      rw [he] at hdm; omega
    rw [if_neg (by omega)]; omega
  · split <;> omega

theorem w64_small (M : Nat) (h : M ≤ 1000000000000000000) : wrap64 (M : Int) = M ∧ wrap64 (-(M : Int)) = -M := by
  unfold wrap64; omega

theorem mean_eq (h l c : Int) (k : Nat) (hr : right h l) (h1 : 1 ≤ c) (h2 : c ≤ 2147483648) (hs : (sizeW h l : Int) ≤ c * 1000000000000000000) (hk : 40 ≤ k) :
    wide_Mean.f k h l c = some (meanW h l c, 0) := by
  obtain ⟨k, rfl⟩ : ∃ j, k = j + 3 := ⟨k - 3, by omega⟩
  obtain ⟨c, rfl⟩ : ∃ n : Nat, c = n := ⟨c.toNat, by omega⟩
  obtain ⟨S, hS⟩ : ∃ S, S = sizeW h l := ⟨_, rfl⟩
  have eS : (if h < 0 then -(h * 1000000000000000000 + l) else h * 1000000000000000000 + l) = (S : Int) := by
    rw [hS]; unfold sizeW; obtain ⟨a, b, p, q⟩ := hr; split <;> omega
  have hm := meanN_le S c (by omega) (by rw [hS]; omega)
  have hSc : S ≤ c * 1000000000000000000 := by rw [hS]; omega
  have hq : S / c ≤ 1000000000000000000 := by
    have := (Nat.div_le_div_right (c := c) hSc)
    rwa [Nat.mul_div_cancel_left _ (by omega)] at this
  have hrlt := Nat.mod_lt S (show c > 0 by omega)
  unfold wide_Mean.f
  simp only [check_eq, Option.bind_some]
  rw [if_pos (by unfold checkW; rw [if_pos hr]), if_neg (by omega), decide_eq_false (by omega)]
  simp only [wide_Mean.j0]
  rw [if_neg (by decide), words_eq h l hr, eS]
  simp only [Option.bind_some]
  have wc : IntKind.u64.wrap (c : Int) = (c : Int) := wrapn c (by omega)
  rw [wc, if_neg (by
    have : S / 18446744073709551616 < c := by rw [Nat.div_lt_iff_lt_mul (by omega)]; omega
    omega)]
  have e1 : (S : Int) / 18446744073709551616 = ((S / 18446744073709551616 : Nat) : Int) := by omega
  have e2 : (S : Int) % 18446744073709551616 = ((S % 18446744073709551616 : Nat) : Int) := by omega
  rw [e1, e2, div64_eq _ _ c _ (by rw [Nat.div_lt_iff_lt_mul (by omega)]; omega) (by omega) (Nat.mod_lt _ (by omega)) (by omega)]
  have e3 : S / 18446744073709551616 * 18446744073709551616 + S % 18446744073709551616 = S := by omega
  rw [e3]
  simp only [Option.bind_some]
  have wr : IntKind.u64.wrap ((c : Int) - ((S % c : Nat) : Int)) = ((c - S % c : Nat) : Int) := wrapz _ _ (by omega) (by omega)
  rw [wr, and1 _ (by omega)]
  have last : ∀ q : Nat, q = meanN S c → wide_Mean.j2 (k + 1) (q : Int) h l = some (meanW h l c, 0) := by
    intro M hM
    simp only [wide_Mean.j2]
    rw [if_neg (by omega)]
    unfold meanW
    rw [← hS, show ((c : Int).toNat) = c from rfl, ← hM]
    have hM2 := w64_small M (hM ▸ hm)
    rw [hM2.1, hM2.2]
    split <;> rfl
  have wq : IntKind.u64.wrap (((S / c : Nat) : Int) + 1) = ((S / c + 1 : Nat) : Int) := wrapz _ _ (by omega) (by omega)
  have yes : (S % c > c - S % c ∨ (S % c = c - S % c ∧ S / c % 2 = 1)) → wide_Mean.j1 (k + 2) ((S / c : Nat) : Int) true h l = some (meanW h l c, 0) := by
    intro hy
    simp only [wide_Mean.j1]
    rw [if_pos trivial, wq]
    exact last _ (by unfold meanN; rw [if_pos hy])
  have no : ¬ (S % c > c - S % c ∨ (S % c = c - S % c ∧ S / c % 2 = 1)) → wide_Mean.j1 (k + 2) ((S / c : Nat) : Int) false h l = some (meanW h l c, 0) := by
    intro hy
    simp only [wide_Mean.j1]
    rw [if_neg (by decide)]
    exact last _ (by unfold meanN; rw [if_neg hy])
  by_cases c1 : S % c > c - S % c
  · rw [if_pos (by omega)]; exact yes (.inl c1)
  · rw [if_neg (by omega)]
    by_cases c2 : S % c = c - S % c
    · rw [if_pos (by omega)]
      by_cases c3 : S / c % 2 = 1
      · rw [c3]; exact yes (.inr ⟨c2, c3⟩)
      · rw [show S / c % 2 = 0 by omega]; exact no (by omega)
    · rw [if_neg (by omega)]; exact no (by omega)

def meanO (h l c : Int) : Option (Int × Int) := if right h l ∧ 1 ≤ c ∧ c ≤ 2147483648 ∧ (sizeW h l : Int) ≤ c * 1000000000000000000 then some (meanW h l c, 0) else none
theorem meanO_eq {h l c : Int} {r : Int × Int} (e : meanO h l c = some r) : wide_Mean.f 100 h l c = some r := by
  unfold meanO at e
  split at e
  · rename_i hc
    rw [← e]
    exact mean_eq h l c 100 hc.1 hc.2.1 hc.2.2.1 hc.2.2.2 (by decide)
  · exact absurd e (by simp)

/-! ### the references -/
/-! ### numbers -/
def naddN (a b : Int) : Int × Int := if fits a ∧ fits b then (if fits (a + b) then (a + b, 0) else (0, 3)) else (0, 2)
/-! ### sums by their values -/
abbrev inW (s : Int) : Prop := -2147483648000000000000000000 ≤ s ∧ s < 2147483648000000000000000000
abbrev hiW (s : Int) : Int := s / 1000000000000000000
abbrev loW (s : Int) : Int := s % 1000000000000000000
theorem right_rep (s : Int) (h : inW s) : right (hiW s) (loW s) := by unfold right hiW loW inW at *; omega
theorem madeW_rep (h l : Int) : madeW h l = if inW (h * 1000000000000000000 + l) then (hiW (h * 1000000000000000000 + l), loW (h * 1000000000000000000 + l), 0) else (0, 0, 3) := by
  unfold madeW
  have e1 : hiW (h * 1000000000000000000 + l) = h + l / 1000000000000000000 := by unfold hiW; omega
  have e2 : loW (h * 1000000000000000000 + l) = l % 1000000000000000000 := by unfold loW; omega
  rw [e1, e2]
  by_cases c : inW (h * 1000000000000000000 + l)
  · rw [if_pos c, if_pos (by unfold inW at c; omega)]
  · rw [if_neg c, if_neg (by unfold inW at c; omega)]
theorem addW_rep (s n : Int) (h : inW s) : addW (hiW s) (loW s) n = if fits n then (if inW (s + n) then (hiW (s + n), loW (s + n), 0) else (0, 0, 3)) else (0, 0, 2) := by
  unfold addW
  have hr := right_rep s h
  have e : hiW s * 1000000000000000000 + (loW s + n) = s + n := by unfold hiW loW; omega
  by_cases c : fits n
  · rw [if_pos ⟨hr, c⟩, if_pos c, madeW_rep, e]
  · rw [if_neg (fun x => c x.2), if_neg c]
theorem subW_rep (s n : Int) (h : inW s) : subW (hiW s) (loW s) n = if fits n then (if inW (s - n) then (hiW (s - n), loW (s - n), 0) else (0, 0, 3)) else (0, 0, 2) := by
  unfold subW
  have hr := right_rep s h
  have e : hiW s * 1000000000000000000 + (loW s - n) = s - n := by unfold hiW loW; omega
  by_cases c : fits n
  · rw [if_pos ⟨hr, c⟩, if_pos c, madeW_rep, e]
  · rw [if_neg (fun x => c x.2), if_neg c]
theorem totalW_rep (s : Int) (h : inW s) : totalW (hiW s) (loW s) = if fits s then (s, 0) else (0, 3) := by
  unfold totalW
  rw [if_pos (right_rep s h)]
  have e : hiW s * 1000000000000000000 + loW s = s := by unfold hiW loW; omega
  rw [e]
  by_cases c : fits s
  · rw [if_pos c, if_neg (by unfold fits hiW loW at *; omega)]
  · by_cases c2 : s = 1000000000000000000 ∨ (-2000000000000000000 < s ∧ s < 2000000000000000000)
    · by_cases c3 : hiW s < -1 ∨ 1 < hiW s ∨ (hiW s = 1 ∧ loW s ≠ 0)
      · rw [if_pos c3, if_neg c]
      · exfalso; unfold fits hiW loW at *; omega
    · rw [if_neg c, if_pos (by unfold fits hiW loW at *; omega)]
theorem meanO_rep (s c : Int) (h : inW s) (h1 : 1 ≤ c) (h2 : c ≤ 2147483648) (h3 : -(c * 1000000000000000000) ≤ s) (h4 : s ≤ c * 1000000000000000000) :
    meanO (hiW s) (loW s) c = some (if s < 0 then -((meanN s.natAbs c.toNat : Nat) : Int) else ((meanN s.natAbs c.toNat : Nat) : Int), 0) := by
  unfold meanO meanW sizeW
  have e : hiW s * 1000000000000000000 + loW s = s := by unfold hiW loW; omega
  rw [e, if_pos ⟨right_rep s h, h1, h2, by omega⟩]
  by_cases c : s < 0
  · rw [if_pos c, if_pos (by unfold hiW; omega)]
  · rw [if_neg c, if_neg (by unfold hiW; omega)]
end Go.Proofs.Ytjhinakfoejpbaa.WPure

/- Means, and the place of a number among others: in plain numbers. No condition stands open. -/
namespace Go.Proofs.Ytjhinakfoejpbaa.WPure
open Go.RowKit Go.Proofs.Ytjhinakfoejpbaa Go.Proofs.Ytjhinakfoejpbaa.PG Go.Proofs.YtjhinakfoejpbaaW.PrintWords Go.Proofs.YtjhinakfoejpbaaW.PrintLast Go.Proofs.YtjhinakfoejpbaaW.PrintMore
theorem getD_lt (x : List Int) (i : Nat) (h : i < x.length) : x.getD i 0 = x[i] := by rw [List.getD, List.getElem?_eq_getElem h]; rfl
theorem drop_cons (x : List Int) (i : Nat) (h : i < x.length) : x.drop i = x.getD i 0 :: x.drop (i + 1) := by rw [getD_lt x i h]; exact List.drop_eq_getElem_cons h
def meanV (s : Int) (c : Nat) : Int := if s < 0 then -((meanN s.natAbs c : Nat) : Int) else ((meanN s.natAbs c : Nat) : Int)
/-- v stands at the place i (from 0 on), were the numbers in order. -/
abbrev Kth (l : List Int) (i : Nat) (v : Int) : Prop := l.countP (· < v) ≤ i ∧ i < l.countP (· ≤ v)
theorem count_le {p q : Int → Bool} (l : List Int) (h : ∀ x ∈ l, p x = true → q x = true) : l.countP p ≤ l.countP q := List.countP_mono_left h
theorem Kth.one {l : List Int} {i : Nat} {v u : Int} (h : Kth l i v) (h' : Kth l i u) : v = u := by
  rcases Int.lt_trichotomy v u with z | z | z
  · have := count_le (p := (· ≤ v)) (q := (· < u)) l (fun x _ hx => by simp at *; omega)
    have := h.2; have := h'.1; omega
  · exact z
  · have := count_le (p := (· ≤ u)) (q := (· < v)) l (fun x _ hx => by simp at *; omega)
    have := h'.2; have := h.1; omega
theorem Kth.perm {l m : List Int} (hp : l.Perm m) {i : Nat} {v : Int} (h : Kth l i v) : Kth m i v := by
  unfold Kth at *; rw [← hp.countP_eq, ← hp.countP_eq]; exact h
theorem Kth.mem {l : List Int} {i : Nat} {v : Int} (h : Kth l i v) : v ∈ l := by
  apply Classical.byContradiction
  intro hn
  have := count_le (p := (· ≤ v)) (q := (· < v)) l (fun x hx hxv => by
    simp at *
    have : x ≠ v := fun e => hn (e ▸ hx)
    omega)
  have := h.1; have := h.2; omega
def kthN (l : List Int) (i : Nat) : Int := (l.find? fun v => decide (Kth l i v)).getD 0
theorem kthN_eq {l : List Int} {i : Nat} {v : Int} (h : Kth l i v) : kthN l i = v := by
  unfold kthN
  cases e : l.find? fun v => decide (Kth l i v) with
  | none => exact absurd (decide_eq_true h) (by simpa using List.find?_eq_none.mp e v h.mem)
  | some u => exact Kth.one (by simpa using List.find?_some e) h

theorem count_split (p : Int → Bool) (y : List Int) (n : Nat) : y.countP p = (y.take n).countP p + (y.drop n).countP p := by
  rw [← List.countP_append, List.take_append_drop]
theorem count_zero {p : Int → Bool} {l : List Int} (h : ∀ z ∈ l, p z = false) : l.countP p = 0 := by
  rw [List.countP_eq_zero]; intro a ha; rw [h a ha]; simp
theorem count_len {p : Int → Bool} {l : List Int} (h : ∀ z ∈ l, p z = true) : l.countP p = l.length := by
  rw [List.countP_eq_length]; exact h
abbrev Up (l : List Int) : Prop := l.Pairwise (· ≤ ·)
theorem kth_up (r : List Int) (hu : Up r) (i : Nat) (h : i < r.length) : Kth r i (r.getD i 0) := by
  have e := List.take_append_drop i r
  have d := drop_cons r i h
  have hu2 : Up (r.take i ++ r.getD i 0 :: r.drop (i + 1)) := by rw [← d, e]; exact hu
  obtain ⟨p1, p2, p3⟩ := List.pairwise_append.mp hu2
  have p4 := (List.pairwise_cons.mp p2).1
  refine ⟨?_, ?_⟩
  · rw [count_split _ r i, count_zero (l := r.drop i) (fun z hz => by
      rw [d] at hz
      rcases List.mem_cons.mp hz with q | q
      · rw [q]; exact decide_eq_false (Int.lt_irrefl _)
      · have := p4 z q; exact decide_eq_false (by omega))]
    have : (r.take i).countP (· < r.getD i 0) ≤ (r.take i).length := List.countP_le_length
    rw [List.length_take] at this; omega
  · rw [count_split _ r i, count_len (l := r.take i) (fun z hz => decide_eq_true (p3 z hz (r.getD i 0) List.mem_cons_self)), List.length_take, d, List.countP_cons, if_pos (by simp)]
    omega
theorem kthN_up {l r : List Int} (hu : Up r) (hp : r.Perm l) (i : Nat) (h : i < l.length) : r.getD i 0 = kthN l i :=
  (kthN_eq ((kth_up r hu i (by rw [hp.length_eq]; exact h)).perm hp)).symm
end Go.Proofs.Ytjhinakfoejpbaa.WPure

/- What a tally holds, in plain numbers: a list of values, in any order. No condition stands open. -/
namespace Go.Proofs.Ytjhinakfoejpbaa.T
open Go.RowKit Go.Proofs.Ytjhinakfoejpbaa.WPure

/-- a value: kind, number, text, truth, code -/
abbrev Val := Int × Int × ByteArray × Bool × Int
def okV (x : Val) : Bool := rightB x.1 x.2.1 x.2.2.1 x.2.2.2.1 x.2.2.2.2
def held (x : Val) : Val := (x.1, x.2.1, foldS x.2.2.1, x.2.2.2.1, x.2.2.2.2)
def numsL (L : List Val) : List Int := L.filterMap fun x => if x.1 = 1 then some x.2.1 else none
def slot (i : Nat) (x : Val) : Bool := decide (i = 15 ∨ (i : Int) = 10 + x.1 ∨ (x.1 = 3 ∧ i = if x.2.2.2.1 = true then 1 else 0) ∨ (x.1 = 4 ∧ (i : Int) = 2 + x.2.2.2.2))
def isT (s : ByteArray) (x : Val) : Bool := decide (x.1 = 2 ∧ x.2.2.1 = s)
structure St (L : List Val) (t : Tree) (hi lo : Int) (v : List Int) (m : ByteArray → Nat) : Prop where
  ok : ∀ x ∈ L, okV x = true
  few : L.length ≤ 4096
  row : (row t).Perm (numsL L)
  srt : Srt t
  bal : Bal t
  pos : Pos t
  hi : hi = hiW (numsL L).sum
  lo : lo = loW (numsL L).sum
  vec : ∀ i, i < 16 → v.getD i 0 = ((L.countP (slot i) : Nat) : Int)
  txt : ∀ s, m s = L.countP (isT s)
theorem sum_perm {l m : List Int} (h : l.Perm m) : l.sum = m.sum := by
  induction h with
  | nil => rfl
  | cons x _ ih => rw [List.sum_cons, List.sum_cons, ih]
  | swap x y l => rw [List.sum_cons, List.sum_cons, List.sum_cons, List.sum_cons]; omega
  | trans _ _ ih1 ih2 => exact ih1.trans ih2
theorem St.perm {L M : List Val} {t : Tree} {hi lo : Int} {v : List Int} {m : ByteArray → Nat} (h : St L t hi lo v m) (p : L.Perm M) : St M t hi lo v m :=
  have hp : (numsL L).Perm (numsL M) := p.filterMap _
  ⟨fun x hx => h.ok x (p.mem_iff.2 hx), by rw [← p.length_eq]; exact h.few, h.row.trans hp, h.srt, h.bal, h.pos, by rw [h.hi, sum_perm hp], by rw [h.lo, sum_perm hp], fun i hi => by rw [h.vec i hi, p.countP_eq], fun s => by rw [h.txt s, p.countP_eq]⟩
theorem kind_range {k n : Int} {s : ByteArray} {b : Bool} {c : Int} (h : rightB k n s b c = true) : k = 0 ∨ k = 1 ∨ k = 2 ∨ k = 3 ∨ k = 4 := by
  unfold rightB at h
  by_cases h0 : k = 0
  · exact .inl h0
  by_cases h1 : k = 1
  · exact .inr (.inl h1)
  by_cases h2 : k = 2
  · exact .inr (.inr (.inl h2))
  by_cases h3 : k = 3
  · exact .inr (.inr (.inr (.inl h3)))
  by_cases h4 : k = 4
  · exact .inr (.inr (.inr (.inr h4)))
  · rw [if_neg h0, if_neg h1, if_neg h2, if_neg h3, if_neg h4] at h
    cases h
theorem right0 {n : Int} {s : ByteArray} {b : Bool} {c : Int} (h : rightB 0 n s b c = true) : n = 0 ∧ s = ⟨#[]⟩ ∧ b = false ∧ c = 0 := by
  simp [rightB] at h
  exact ⟨h.1, h.2.1, h.2.2.1, h.2.2.2⟩
theorem right1 {n : Int} {s : ByteArray} {b : Bool} {c : Int} (h : rightB 1 n s b c = true) : fits n ∧ s = ⟨#[]⟩ ∧ b = false ∧ c = 0 := by
  simp [rightB, fitsB] at h
  exact ⟨h.1, h.2.1, h.2.2.1, h.2.2.2⟩
theorem right2 {n : Int} {s : ByteArray} {b : Bool} {c : Int} (h : rightB 2 n s b c = true) : s.size ≤ 255 ∧ n = 0 ∧ b = false ∧ c = 0 := by
  simp [rightB] at h
  exact ⟨h.1, h.2.1, h.2.2.1, h.2.2.2⟩
theorem right3 {n : Int} {s : ByteArray} {b : Bool} {c : Int} (h : rightB 3 n s b c = true) : n = 0 ∧ s = ⟨#[]⟩ ∧ c = 0 := by
  simp [rightB] at h
  exact ⟨h.1, h.2.1, h.2.2⟩
theorem right4 {n : Int} {s : ByteArray} {b : Bool} {c : Int} (h : rightB 4 n s b c = true) : 0 < c ∧ c ≤ 7 ∧ n = 0 ∧ s = ⟨#[]⟩ ∧ b = false := by
  simp [rightB] at h
  exact ⟨h.1, h.2.1, h.2.2.1, h.2.2.2.1, h.2.2.2.2⟩
theorem right_held {k n : Int} {s : ByteArray} {b : Bool} {c : Int} (h : rightB k n s b c = true) : rightB k n (foldS s) b c = true := by
  unfold rightB at h ⊢
  rw [foldS_size]
  exact h
theorem numsL_cons (x : Val) (L : List Val) : numsL (x :: L) = if x.1 = 1 then x.2.1 :: numsL L else numsL L := by
  unfold numsL
  rw [List.filterMap_cons]
  by_cases h : x.1 = 1
  · rw [if_pos h, if_pos h]
  · rw [if_neg h, if_neg h]
theorem numsL_length (L : List Val) : (numsL L).length ≤ L.length := List.length_filterMap_le _ _
theorem mem_numsL {L : List Val} {n : Int} (h : n ∈ numsL L) : ∃ x ∈ L, x.1 = 1 ∧ x.2.1 = n := by
  unfold numsL at h
  obtain ⟨x, hx, e⟩ := List.mem_filterMap.1 h
  refine ⟨x, hx, ?_⟩
  by_cases c : x.1 = 1
  · rw [if_pos c] at e
    exact ⟨c, Option.some.inj e⟩
  · rw [if_neg c] at e
    cases e
theorem nums_fit {L : List Val} (h : ∀ x ∈ L, okV x = true) : ∀ n ∈ numsL L, fits n := by
  intro n hn
  obtain ⟨⟨k, y, s, b, c⟩, hx, hk, hy⟩ := mem_numsL hn
  have := h _ hx
  subst hk
  subst hy
  exact (right1 this).1
theorem sum_fit : ∀ {l : List Int}, (∀ n ∈ l, fits n) → -((l.length : Int) * 1000000000000000000) ≤ l.sum ∧ l.sum ≤ (l.length : Int) * 1000000000000000000
  | [], _ => ⟨by decide, by decide⟩
  | a :: l, h => by
    have ha := h a (List.mem_cons_self ..)
    have ih := sum_fit (l := l) (fun n hn => h n (List.mem_cons_of_mem _ hn))
    rw [List.sum_cons, List.length_cons]
    unfold fits at ha
    have e : ((l.length + 1 : Nat) : Int) * 1000000000000000000 = (l.length : Int) * 1000000000000000000 + 1000000000000000000 := by omega
    rw [e]
    generalize (l.length : Int) * 1000000000000000000 = B at ih ⊢
    omega
theorem St.inW {L : List Val} {t : Tree} {hi lo : Int} {v : List Int} {m : ByteArray → Nat} (h : St L t hi lo v m) : inW (numsL L).sum := by
  have h1 := sum_fit (nums_fit h.ok)
  have h2 := numsL_length L
  have h3 := h.few
  unfold WPure.inW
  omega
theorem vec_set {v : List Int} (hl : v.length = 16) {f : Nat → Int} (h : ∀ i, i < 16 → v.getD i 0 = f i) (j : Nat) (hj : j < 16) (y : Int) : ∀ i, i < 16 → (v.set j y).getD i 0 = if i = j then y else f i := by
  intro i hi
  by_cases e : i = j
  · subst e
    rw [if_pos rfl]
    simp [List.getD, hl, hi]
  · rw [if_neg e, ← h i hi]
    simp [List.getD, List.getElem?_set, Ne.symm e]
theorem countP_one (p : Val → Bool) (x : Val) (L : List Val) : (((x :: L).countP p : Nat) : Int) = ((L.countP p : Nat) : Int) + if p x = true then 1 else 0 := by
  rw [List.countP_cons]
  split <;> omega
theorem nil_st : St [] .nil 0 0 (List.replicate 16 0) (fun _ => 0) :=
  ⟨(fun x hx => by cases hx), by decide, .nil, List.Pairwise.nil, trivial, trivial, by decide, by decide, fun i hi => (show ∀ i, i < 16 → (List.replicate 16 (0 : Int)).getD i 0 = 0 by decide) i hi, fun s => rfl⟩
end Go.Proofs.Ytjhinakfoejpbaa.T

/- A value more, a value less: what a tally holds then, in plain numbers. No condition stands open. -/
namespace Go.Proofs.Ytjhinakfoejpbaa.T
open Go.RowKit Go.Proofs.Ytjhinakfoejpbaa.WPure

/-- the sixteen numbers with y at two places, or three -/
def put2 (v : List Int) (k : Nat) (d : Int) : List Int := (v.set 15 (v.getD 15 0 + d)).set (10 + k) (v.getD (10 + k) 0 + d)
def put3 (v : List Int) (k j : Nat) (d : Int) : List Int := (put2 v k d).set j (v.getD j 0 + d)
theorem put2_at {v : List Int} (hl : v.length = 16) {f : Nat → Int} (h : ∀ i, i < 16 → v.getD i 0 = f i) (k : Nat) (hk : k < 5) (d : Int) : ∀ i, i < 16 → (put2 v k d).getD i 0 = f i + if i = 15 ∨ i = 10 + k then d else 0 := by
  intro i hi
  have h1 := vec_set hl h 15 (by decide) (v.getD 15 0 + d)
  have h2 := vec_set (v := v.set 15 (v.getD 15 0 + d)) (by rw [List.length_set]; exact hl) h1 (10 + k) (by omega) (v.getD (10 + k) 0 + d) i hi
  unfold put2
  rw [h2, h 15 (by decide), h (10 + k) (by omega)]
  by_cases e : i = 10 + k
  · subst e
    rw [if_pos rfl, if_pos (.inr rfl)]
  · rw [if_neg e]
    by_cases e2 : i = 15
    · subst e2
      rw [if_pos rfl, if_pos (.inl rfl)]
    · rw [if_neg e2, if_neg (by omega), Int.add_zero]
theorem put2_len {v : List Int} (hl : v.length = 16) (k : Nat) (d : Int) : (put2 v k d).length = 16 := by
  unfold put2
  rw [List.length_set, List.length_set, hl]
theorem put3_at {v : List Int} (hl : v.length = 16) {f : Nat → Int} (h : ∀ i, i < 16 → v.getD i 0 = f i) (k : Nat) (hk : k < 5) (j : Nat) (hj : j < 10) (d : Int) : ∀ i, i < 16 → (put3 v k j d).getD i 0 = f i + if i = 15 ∨ i = 10 + k ∨ i = j then d else 0 := by
  intro i hi
  have h2 := vec_set (put2_len hl k d) (put2_at hl h k hk d) j (by omega) (v.getD j 0 + d) i hi
  unfold put3
  rw [h2, h j (by omega)]
  by_cases e : i = j
  · subst e
    rw [if_pos rfl, if_pos (.inr (.inr rfl))]
  · rw [if_neg e]
    by_cases c : i = 15 ∨ i = 10 + k
    · rw [if_pos c, if_pos (by omega)]
    · rw [if_neg c, if_neg (by omega)]
theorem slot2 {x : Val} (k : Nat) (hk : x.1 = k) (h3 : k < 3) (i : Nat) (hi : i < 16) : slot i x = true ↔ i = 15 ∨ i = 10 + k := by
  unfold slot
  rw [decide_eq_true_iff, hk]
  omega
theorem slot3 {x : Val} (hk : x.1 = 3) (i : Nat) (hi : i < 16) : slot i x = true ↔ i = 15 ∨ i = 10 + 3 ∨ i = if x.2.2.2.1 = true then 1 else 0 := by
  unfold slot
  rw [decide_eq_true_iff, hk]
  split <;> omega
theorem slot4 {x : Val} (hk : x.1 = 4) (c : Nat) (hc : x.2.2.2.2 = c) (hc7 : c < 8) (i : Nat) (hi : i < 16) : slot i x = true ↔ i = 15 ∨ i = 10 + 4 ∨ i = 2 + c := by
  unfold slot
  rw [decide_eq_true_iff, hk, hc]
  omega
section
variable {L : List Val} {t : Tree} {hi lo : Int} {v : List Int} {m : ByteArray → Nat} {x : Val}
theorem up2 (hl : v.length = 16) (h : ∀ i, i < 16 → v.getD i 0 = ((L.countP (slot i) : Nat) : Int)) (k : Nat) (hk : x.1 = k) (h3 : k < 3) : ∀ i, i < 16 → (put2 v k 1).getD i 0 = (((x :: L).countP (slot i) : Nat) : Int) := by
  intro i hi
  rw [put2_at hl h k (by omega) 1 i hi, countP_one]
  simp only [slot2 k hk h3 i hi]
theorem up3 (hl : v.length = 16) (h : ∀ i, i < 16 → v.getD i 0 = ((L.countP (slot i) : Nat) : Int)) (hk : x.1 = 3) : ∀ i, i < 16 → (put3 v 3 (if x.2.2.2.1 = true then 1 else 0) 1).getD i 0 = (((x :: L).countP (slot i) : Nat) : Int) := by
  intro i hi
  rw [put3_at hl h 3 (by omega) _ (by split <;> omega) 1 i hi, countP_one]
  simp only [slot3 hk i hi]
theorem up4 (hl : v.length = 16) (h : ∀ i, i < 16 → v.getD i 0 = ((L.countP (slot i) : Nat) : Int)) (hk : x.1 = 4) (c : Nat) (hc : x.2.2.2.2 = c) (hc7 : c < 8) : ∀ i, i < 16 → (put3 v 4 (2 + c) 1).getD i 0 = (((x :: L).countP (slot i) : Nat) : Int) := by
  intro i hi
  rw [put3_at hl h 4 (by omega) _ (by omega) 1 i hi, countP_one]
  simp only [slot4 hk c hc hc7 i hi]
theorem down2 (hl : v.length = 16) (h : ∀ i, i < 16 → v.getD i 0 = (((x :: L).countP (slot i) : Nat) : Int)) (k : Nat) (hk : x.1 = k) (h3 : k < 3) : ∀ i, i < 16 → (put2 v k (-1)).getD i 0 = ((L.countP (slot i) : Nat) : Int) := by
  intro i hi
  rw [put2_at hl h k (by omega) (-1) i hi, countP_one]
  simp only [slot2 k hk h3 i hi]
  split <;> omega
theorem down3 (hl : v.length = 16) (h : ∀ i, i < 16 → v.getD i 0 = (((x :: L).countP (slot i) : Nat) : Int)) (hk : x.1 = 3) : ∀ i, i < 16 → (put3 v 3 (if x.2.2.2.1 = true then 1 else 0) (-1)).getD i 0 = ((L.countP (slot i) : Nat) : Int) := by
  intro i hi
  rw [put3_at hl h 3 (by omega) _ (by split <;> omega) (-1) i hi, countP_one]
  simp only [slot3 hk i hi]
  generalize (if x.2.2.2.1 = true then 1 else 0 : Nat) = j
  split <;> omega
theorem down4 (hl : v.length = 16) (h : ∀ i, i < 16 → v.getD i 0 = (((x :: L).countP (slot i) : Nat) : Int)) (hk : x.1 = 4) (c : Nat) (hc : x.2.2.2.2 = c) (hc7 : c < 8) : ∀ i, i < 16 → (put3 v 4 (2 + c) (-1)).getD i 0 = ((L.countP (slot i) : Nat) : Int) := by
  intro i hi
  rw [put3_at hl h 4 (by omega) _ (by omega) (-1) i hi, countP_one]
  simp only [slot4 hk c hc hc7 i hi]
  split <;> omega
theorem no_num (h : x.1 ≠ 1) : numsL (x :: L) = numsL L := by rw [numsL_cons, if_neg h]
theorem ok_cons (h : ∀ y ∈ L, okV y = true) (hx : okV x = true) : ∀ y ∈ x :: L, okV y = true := fun y hy => (List.mem_cons.1 hy).elim (fun e => e ▸ hx) (h y)
theorem ok_uncons (h : ∀ y ∈ x :: L, okV y = true) : ∀ y ∈ L, okV y = true := fun y hy => h y (List.mem_cons_of_mem _ hy)
theorem no_txt (h : x.1 ≠ 2) (s : ByteArray) : (x :: L).countP (isT s) = L.countP (isT s) := by
  rw [List.countP_cons, if_neg (by unfold isT; rw [decide_eq_true_iff]; exact fun e => h e.1), Nat.add_zero]
theorem St.add0 (h : St L t hi lo v m) (hl : v.length = 16) (hx : okV x = true) (hf : L.length < 4096) (hk : x.1 = 0) : St (x :: L) t hi lo (put2 v 0 1) m :=
  ⟨ok_cons h.ok hx, hf, by rw [no_num (by rw [hk]; decide)]; exact h.row, h.srt, h.bal, h.pos, by rw [no_num (by rw [hk]; decide)]; exact h.hi, by rw [no_num (by rw [hk]; decide)]; exact h.lo, up2 hl h.vec 0 hk (by decide), fun s => by rw [no_txt (by rw [hk]; decide)]; exact h.txt s⟩
theorem St.add1 (h : St L t hi lo v m) (hl : v.length = 16) (hx : okV x = true) (hf : L.length < 4096) (hk : x.1 = 1) (g : Nat) : St (x :: L) (ins g t x.2.1) (hiW (numsL (x :: L)).sum) (loW (numsL (x :: L)).sum) (put2 v 1 1) m :=
  ⟨ok_cons h.ok hx, hf, by rw [numsL_cons, if_pos hk]; exact row_ins.trans (h.row.cons _), srt_ins h.srt, ins_ok g t _ h.bal, pos_ins h.pos, rfl, rfl, up2 hl h.vec 1 hk (by decide), fun s => by rw [no_txt (by rw [hk]; decide)]; exact h.txt s⟩
theorem St.add2 (h : St L t hi lo v m) (hl : v.length = 16) (hx : okV x = true) (hf : L.length < 4096) (hk : x.1 = 2) : St (x :: L) t hi lo (put2 v 2 1) (fun s => if s = x.2.2.1 then m x.2.2.1 + 1 else m s) :=
  ⟨ok_cons h.ok hx, hf, by rw [no_num (by rw [hk]; decide)]; exact h.row, h.srt, h.bal, h.pos, by rw [no_num (by rw [hk]; decide)]; exact h.hi, by rw [no_num (by rw [hk]; decide)]; exact h.lo, up2 hl h.vec 2 hk (by decide), fun s => by
    rw [List.countP_cons]
    show (if s = x.2.2.1 then m x.2.2.1 + 1 else m s) = _
    by_cases e : s = x.2.2.1
    · subst e
      rw [if_pos rfl, if_pos (by unfold isT; rw [decide_eq_true_iff]; exact ⟨hk, rfl⟩), h.txt]
    · rw [if_neg e, if_neg (by unfold isT; rw [decide_eq_true_iff]; exact fun z => e z.2.symm), h.txt, Nat.add_zero]⟩
theorem St.add3 (h : St L t hi lo v m) (hl : v.length = 16) (hx : okV x = true) (hf : L.length < 4096) (hk : x.1 = 3) : St (x :: L) t hi lo (put3 v 3 (if x.2.2.2.1 = true then 1 else 0) 1) m :=
  ⟨ok_cons h.ok hx, hf, by rw [no_num (by rw [hk]; decide)]; exact h.row, h.srt, h.bal, h.pos, by rw [no_num (by rw [hk]; decide)]; exact h.hi, by rw [no_num (by rw [hk]; decide)]; exact h.lo, up3 hl h.vec hk, fun s => by rw [no_txt (by rw [hk]; decide)]; exact h.txt s⟩
theorem St.add4 (h : St L t hi lo v m) (hl : v.length = 16) (hx : okV x = true) (hf : L.length < 4096) (hk : x.1 = 4) (c : Nat) (hc : x.2.2.2.2 = c) (hc7 : c < 8) : St (x :: L) t hi lo (put3 v 4 (2 + c) 1) m :=
  ⟨ok_cons h.ok hx, hf, by rw [no_num (by rw [hk]; decide)]; exact h.row, h.srt, h.bal, h.pos, by rw [no_num (by rw [hk]; decide)]; exact h.hi, by rw [no_num (by rw [hk]; decide)]; exact h.lo, up4 hl h.vec hk c hc hc7, fun s => by rw [no_txt (by rw [hk]; decide)]; exact h.txt s⟩
theorem St.drop0 (h : St (x :: L) t hi lo v m) (hl : v.length = 16) (hk : x.1 = 0) : St L t hi lo (put2 v 0 (-1)) m := by
  have e := no_num (x := x) (L := L) (by rw [hk]; decide)
  exact ⟨ok_uncons h.ok, Nat.le_of_succ_le h.few, by have := h.row; rwa [e] at this, h.srt, h.bal, h.pos, by have := h.hi; rwa [e] at this, by have := h.lo; rwa [e] at this, down2 hl h.vec 0 hk (by decide), fun s => by have := h.txt s; rwa [no_txt (by rw [hk]; decide)] at this⟩
theorem St.drop3 (h : St (x :: L) t hi lo v m) (hl : v.length = 16) (hk : x.1 = 3) : St L t hi lo (put3 v 3 (if x.2.2.2.1 = true then 1 else 0) (-1)) m := by
  have e := no_num (x := x) (L := L) (by rw [hk]; decide)
  exact ⟨ok_uncons h.ok, Nat.le_of_succ_le h.few, by have := h.row; rwa [e] at this, h.srt, h.bal, h.pos, by have := h.hi; rwa [e] at this, by have := h.lo; rwa [e] at this, down3 hl h.vec hk, fun s => by have := h.txt s; rwa [no_txt (by rw [hk]; decide)] at this⟩
theorem St.drop4 (h : St (x :: L) t hi lo v m) (hl : v.length = 16) (hk : x.1 = 4) (c : Nat) (hc : x.2.2.2.2 = c) (hc7 : c < 8) : St L t hi lo (put3 v 4 (2 + c) (-1)) m := by
  have e := no_num (x := x) (L := L) (by rw [hk]; decide)
  exact ⟨ok_uncons h.ok, Nat.le_of_succ_le h.few, by have := h.row; rwa [e] at this, h.srt, h.bal, h.pos, by have := h.hi; rwa [e] at this, by have := h.lo; rwa [e] at this, down4 hl h.vec hk c hc hc7, fun s => by have := h.txt s; rwa [no_txt (by rw [hk]; decide)] at this⟩
theorem St.has (h : St (x :: L) t hi lo v m) (hk : x.1 = 1) : has t x.2.1 := by
  apply has_of_often
  rw [often_row _ h.srt, h.row.count_eq, numsL_cons, if_pos hk, List.count_cons_self]
  exact Nat.succ_ne_zero _
theorem stDrop1 (h : St (x :: L) t hi lo v m) (hl : v.length = 16) (hk : x.1 = 1) : St L (del t x.2.1) (hiW (numsL L).sum) (loW (numsL L).sum) (put2 v 1 (-1)) m := by
  have hr : (x.2.1 :: row (del t x.2.1)).Perm (x.2.1 :: numsL L) := (row_del (h.has hk) h.pos).trans (by have := h.row; rwa [numsL_cons, if_pos hk] at this)
  exact ⟨ok_uncons h.ok, Nat.le_of_succ_le h.few, hr.cons_inv, srt_del h.srt, del_ok _ _ h.bal, pos_del h.pos, rfl, rfl, down2 hl h.vec 1 hk (by decide), fun s => by have := h.txt s; rwa [no_txt (by rw [hk]; decide)] at this⟩
theorem St.drop2 (h : St (x :: L) t hi lo v m) (hl : v.length = 16) (hk : x.1 = 2) : St L t hi lo (put2 v 2 (-1)) (fun s => if s = x.2.2.1 then m x.2.2.1 - 1 else m s) := by
  have e := no_num (x := x) (L := L) (by rw [hk]; decide)
  refine ⟨ok_uncons h.ok, Nat.le_of_succ_le h.few, by have := h.row; rwa [e] at this, h.srt, h.bal, h.pos, by have := h.hi; rwa [e] at this, by have := h.lo; rwa [e] at this, down2 hl h.vec 2 hk (by decide), fun s => ?_⟩
  show (if s = x.2.2.1 then m x.2.2.1 - 1 else m s) = _
  by_cases c : s = x.2.2.1
  · subst c
    have := h.txt x.2.2.1
    rw [List.countP_cons, if_pos (by unfold isT; rw [decide_eq_true_iff]; exact ⟨hk, rfl⟩)] at this
    rw [if_pos rfl]
    omega
  · have := h.txt s
    rw [List.countP_cons, if_neg (by unfold isT; rw [decide_eq_true_iff]; exact fun z => c z.2.symm)] at this
    rw [if_neg c]
    omega
/-- the sums that the code writes -/
theorem stAddSum (h : St L t hi lo v m) (hx : okV x = true) (hf : L.length < 4096) (hk : x.1 = 1) : addW hi lo x.2.1 = (hiW (numsL (x :: L)).sum, loW (numsL (x :: L)).sum, 0) := by
  have hfit : fits x.2.1 := by
    obtain ⟨k, n, s, b, c⟩ := x
    subst hk
    exact (right1 hx).1
  have h1 := sum_fit (nums_fit h.ok)
  have h2 := numsL_length L
  have hw : inW ((numsL L).sum + x.2.1) := by
    unfold fits at hfit
    unfold WPure.inW
    omega
  rw [h.hi, h.lo, addW_rep _ _ h.inW, if_pos hfit, if_pos hw, numsL_cons, if_pos hk, List.sum_cons, Int.add_comm]
theorem stSubSum (h : St (x :: L) t hi lo v m) (hk : x.1 = 1) : subW hi lo x.2.1 = (hiW (numsL L).sum, loW (numsL L).sum, 0) := by
  have hx := h.ok x (List.mem_cons_self ..)
  have hfit : fits x.2.1 := by
    obtain ⟨k, n, s, b, c⟩ := x
    subst hk
    exact (right1 hx).1
  have h1 := sum_fit (nums_fit (ok_uncons h.ok))
  have h2 := numsL_length L
  have h3 := h.few
  rw [List.length_cons] at h3
  have e : (numsL (x :: L)).sum - x.2.1 = (numsL L).sum := by rw [numsL_cons, if_pos hk, List.sum_cons]; omega
  have hw : inW (numsL L).sum := by
    unfold WPure.inW
    omega
  rw [h.hi, h.lo, subW_rep _ _ h.inW, if_pos hfit, e, if_pos hw]
end
end Go.Proofs.Ytjhinakfoejpbaa.T

/- How often a value is in a tally: by the list of what it holds. No condition stands open. -/
namespace Go.Proofs.Ytjhinakfoejpbaa.T
open Go.RowKit Go.Proofs.Ytjhinakfoejpbaa.WPure Go.Proofs.YtjhinakfoejpbaaW.PrintWords Go.Proofs.YtjhinakfoejpbaaW.PrintLast Go.Proofs.YtjhinakfoejpbaaW.PrintMore
section
variable {w : World} {S : Nat → Prop} {g bg mb n : Nat} {t : Tree} {hi lo : Int} {v : List Int} {m : ByteArray → Nat} {L : List Val}
set_option maxHeartbeats 4000000 in
set_option maxRecDepth 100000 in
theorem often_4 (h : TalAt w S g bg mb t hi lo v n m) (x : Int) (s : ByteArray) (b : Bool) (c : Nat) (hc : c < 8) (hx : rightB 4 x s b (c : Int) = true) : Calls Try.prog 20 #[.pointer (some ⟨g, 0, none⟩), .agg #[.int .i64 4, .int .i64 x, .string s, .bool b, .int .i64 (c : Int)]] w fun e w' => e = .returned (.int .i64 (v.getD (2 + c) 0)) ∧ Below w.heap.size w w' := by
  have BB : Hid (Below w.heap.size w (w.alloc (.cells #[.int .i64 4, .int .i64 x, .string s, .bool b, .int .i64 (c : Int)] 25))) := (Below.refl _ w).alloc (Nat.le_refl _) _
  have H := Lib.hid (h.below BB.out)
  have n0 : ((c : Int)).toNat = c := Int.toNat_natCast c
  have p0 : (0 : Int) ≤ (c : Int) := Int.natCast_nonneg c
  have l0 : (c : Int) < 8 := by omega
  have l1 : c < 8 := hc
  clear h hc
  go_enter Try.func20, Try.ntmps20
  go_wp2_with (first | (go_at_call 50; refine (made_yes H.out).mono ?_; rintro e w' ⟨rfl, rfl⟩) | (go_at_call 33; refine (check_any 4 x s b (c : Int) _).mono ?_; rw [hx]; rintro e w2 ⟨rfl, hb⟩; have HB := Lib.hid (BB.out.trans (hb.mono (by simp))); have H2 := Lib.hid (H.out.below hb); have c0 : w2.cell? ⟨g, 6 + c, none⟩ = some (.int .i64 (v.getD (2 + c) 0)) := (by have e := tcell H2.out (2 + c) (by omega); rwa [show 4 + (2 + c) = 6 + c by omega] at e); have z1 := hb.cell (p := ⟨w.heap.size, 0, none⟩) (by simp); have z2 := hb.cell (p := ⟨w.heap.size, 4, none⟩) (by simp); clear hb H))
  clear H2 hx BB
  go_region_with fail
  all_goals go_wp2
  all_goals go_ret
  all_goals exact ⟨rfl, by repeat (first | exact HB.out | refine Below.drew ?_)⟩
end
/-! ### plain: how often, by the list -/
def cnt (L : List Val) (x : Val) : Nat := L.countP fun y => decide (y = x)
theorem cnt_cons (y : Val) (L : List Val) (x : Val) : cnt (y :: L) x = cnt L x + if y = x then 1 else 0 := by
  unfold cnt
  rw [List.countP_cons]
  by_cases e : y = x
  · rw [if_pos e, if_pos (decide_eq_true e)]
  · rw [if_neg e, if_neg (by rw [decide_eq_true_iff]; exact e)]
theorem ok_at {L : List Val} (h : ∀ x ∈ L, okV x = true) {x : Val} {p : Val → Bool} (hp : ∀ y, okV y = true → (p y = true ↔ y = x)) : L.countP p = cnt L x := by
  refine List.countP_congr (fun y hy => ?_)
  rw [hp y (h y hy), decide_eq_true_iff]
theorem nums_count : ∀ (L : List Val) (n : Int), (numsL L).count n = L.countP fun y => decide (y.1 = 1 ∧ y.2.1 = n)
  | [], n => rfl
  | y :: L, n => by
    have ih := nums_count L n
    rw [numsL_cons, List.countP_cons]
    by_cases h : y.1 = 1
    · rw [if_pos h, List.count_cons, ih]
      by_cases e : y.2.1 = n
      · rw [if_pos (by simpa using e), if_pos (by rw [decide_eq_true_iff]; exact ⟨h, e⟩)]
      · rw [if_neg (by simpa using e), if_neg (by rw [decide_eq_true_iff]; exact fun z => e z.2)]
    · rw [if_neg h, if_neg (by rw [decide_eq_true_iff]; exact fun z => h z.1), ih, Nat.add_zero]
theorem okK {y : Val} (hy : okV y = true) : (y.1 = 0 ∧ y = (0, 0, ⟨#[]⟩, false, 0)) ∨ (y.1 = 1 ∧ y = (1, y.2.1, ⟨#[]⟩, false, 0)) ∨ (y.1 = 2 ∧ y = (2, 0, y.2.2.1, false, 0)) ∨ (y.1 = 3 ∧ y = (3, 0, ⟨#[]⟩, y.2.2.2.1, 0)) ∨ (y.1 = 4 ∧ y = (4, 0, ⟨#[]⟩, false, y.2.2.2.2) ∧ 0 < y.2.2.2.2 ∧ y.2.2.2.2 ≤ 7) := by
  obtain ⟨k, n, s, b, c⟩ := y
  rcases kind_range hy with rfl | rfl | rfl | rfl | rfl
  · obtain ⟨rfl, rfl, rfl, rfl⟩ := right0 hy
    exact .inl ⟨rfl, rfl⟩
  · obtain ⟨_, rfl, rfl, rfl⟩ := right1 hy
    exact .inr (.inl ⟨rfl, rfl⟩)
  · obtain ⟨_, rfl, rfl, rfl⟩ := right2 hy
    exact .inr (.inr (.inl ⟨rfl, rfl⟩))
  · obtain ⟨rfl, rfl, rfl⟩ := right3 hy
    exact .inr (.inr (.inr (.inl ⟨rfl, rfl⟩)))
  · obtain ⟨h1, h2, rfl, rfl, rfl⟩ := right4 hy
    exact .inr (.inr (.inr (.inr ⟨rfl, rfl, h1, h2⟩)))
theorem slotK {y : Val} (hy : okV y = true) (j : Nat) (hj : j < 5) : slot (10 + j) y = true ↔ y.1 = j := by
  unfold slot
  rw [decide_eq_true_iff]
  rcases okK hy with ⟨e, _⟩ | ⟨e, _⟩ | ⟨e, _⟩ | ⟨e, _⟩ | ⟨e, _, h1, h2⟩ <;> rw [e] <;> (try split) <;> omega
theorem slotB {y : Val} (hy : okV y = true) (b : Bool) : slot (if b = true then 1 else 0) y = true ↔ y.1 = 3 ∧ y.2.2.2.1 = b := by
  unfold slot
  rw [decide_eq_true_iff]
  rcases okK hy with ⟨e, _⟩ | ⟨e, _⟩ | ⟨e, _⟩ | ⟨e, _⟩ | ⟨e, _, h1, h2⟩ <;> rw [e] <;> cases b <;> cases y.2.2.2.1 <;> simp <;> omega
theorem slotC {y : Val} (hy : okV y = true) (c : Nat) (hc : c < 8) : slot (2 + c) y = true ↔ y.1 = 4 ∧ y.2.2.2.2 = c := by
  unfold slot
  rw [decide_eq_true_iff]
  rcases okK hy with ⟨e, _⟩ | ⟨e, _⟩ | ⟨e, _⟩ | ⟨e, _⟩ | ⟨e, _, h1, h2⟩ <;> rw [e] <;> (try split) <;> omega
section
variable {t : Tree} {hi lo : Int} {v : List Int} {m : ByteArray → Nat} {L : List Val} (h : St L t hi lo v m)
include h
theorem St.kinds (j : Nat) (hj : j < 5) : v.getD (10 + j) 0 = ((L.countP fun y => decide (y.1 = (j : Int)) : Nat) : Int) := by
  rw [h.vec _ (by omega)]
  congr 1
  exact List.countP_congr (fun y hy => by rw [slotK (h.ok y hy) j hj, decide_eq_true_iff])
theorem St.often0 : v.getD 10 0 = ((cnt L (0, 0, ⟨#[]⟩, false, 0) : Nat) : Int) := by
  rw [h.vec 10 (by decide), ok_at h.ok]
  intro y hy
  rw [slotK hy 0 (by decide)]
  rcases okK hy with ⟨e, z⟩ | ⟨e, z⟩ | ⟨e, z⟩ | ⟨e, z⟩ | ⟨e, z, _⟩
  · exact ⟨fun _ => z, fun _ => e⟩
  all_goals exact ⟨fun q => absurd (e.symm.trans q) (by decide), fun q => by exfalso; have q2 := congrArg Prod.fst q; simp only at q2; omega⟩
theorem St.often1 (n : Int) : oftenT t n = cnt L (1, n, ⟨#[]⟩, false, 0) := by
  rw [often_row n h.srt, h.row.count_eq, nums_count]
  refine ok_at h.ok ?_
  intro y hy
  rw [decide_eq_true_iff]
  rcases okK hy with ⟨e, z⟩ | ⟨e, z⟩ | ⟨e, z⟩ | ⟨e, z⟩ | ⟨e, z, _⟩
  all_goals first | exact ⟨fun q => absurd (e.symm.trans q.1) (by decide), fun q => by exfalso; have q2 := congrArg Prod.fst q; simp only at q2; omega⟩ | exact ⟨fun q => by rw [z, q.2], fun q => by rw [q]; exact ⟨rfl, rfl⟩⟩
theorem St.often2 (s : ByteArray) : m s = cnt L (2, 0, s, false, 0) := by
  rw [h.txt]
  refine ok_at h.ok ?_
  intro y hy
  unfold isT
  rw [decide_eq_true_iff]
  rcases okK hy with ⟨e, z⟩ | ⟨e, z⟩ | ⟨e, z⟩ | ⟨e, z⟩ | ⟨e, z, _⟩
  all_goals first | exact ⟨fun q => absurd (e.symm.trans q.1) (by decide), fun q => by exfalso; have q2 := congrArg Prod.fst q; simp only at q2; omega⟩ | exact ⟨fun q => by rw [z, q.2], fun q => by rw [q]; exact ⟨rfl, rfl⟩⟩
theorem St.often3 (b : Bool) : v.getD (if b = true then 1 else 0) 0 = ((cnt L (3, 0, ⟨#[]⟩, b, 0) : Nat) : Int) := by
  rw [h.vec _ (by split <;> omega), ok_at h.ok]
  intro y hy
  rw [slotB hy b]
  rcases okK hy with ⟨e, z⟩ | ⟨e, z⟩ | ⟨e, z⟩ | ⟨e, z⟩ | ⟨e, z, _⟩
  all_goals first | exact ⟨fun q => absurd (e.symm.trans q.1) (by decide), fun q => by exfalso; have q2 := congrArg Prod.fst q; simp only at q2; omega⟩ | exact ⟨fun q => by rw [z, q.2], fun q => by rw [q]; exact ⟨rfl, rfl⟩⟩
theorem St.often4 (c : Nat) (hc : c < 8) : v.getD (2 + c) 0 = ((cnt L (4, 0, ⟨#[]⟩, false, (c : Int)) : Nat) : Int) := by
  rw [h.vec _ (by omega), ok_at h.ok]
  intro y hy
  rw [slotC hy c hc]
  rcases okK hy with ⟨e, z⟩ | ⟨e, z⟩ | ⟨e, z⟩ | ⟨e, z⟩ | ⟨e, z, _⟩
  all_goals first | exact ⟨fun q => absurd (e.symm.trans q.1) (by decide), fun q => by exfalso; have q2 := congrArg Prod.fst q; simp only at q2; omega⟩ | exact ⟨fun q => by rw [z, q.2], fun q => by rw [q]; exact ⟨rfl, rfl⟩⟩
end
theorem often_yes {w : World} {S : Nat → Prop} {g bg mb n : Nat} {t : Tree} {hi lo : Int} {v : List Int} {m : ByteArray → Nat} {L : List Val} (h : TalAt w S g bg mb t hi lo v n m) (hst : St L t hi lo v m) (k x : Int) (s : ByteArray) (b : Bool) (c : Int) (hx : rightB k x s b c = true) :
    Calls Try.prog 20 #[.pointer (some ⟨g, 0, none⟩), .agg #[.int .i64 k, .int .i64 x, .string s, .bool b, .int .i64 c]] w fun e w' => e = .returned (.int .i64 ((cnt L (k, x, foldS s, b, c) : Nat) : Int)) ∧ Below w.heap.size w w' := by
  rcases kind_range hx with rfl | rfl | rfl | rfl | rfl
  · obtain ⟨rfl, rfl, rfl, rfl⟩ := right0 hx
    have := often_0 h _ _ _ _ hx
    rwa [hst.often0] at this
  · obtain ⟨_, rfl, rfl, rfl⟩ := right1 hx
    have := often_1 h _ _ _ _ hx
    rwa [hst.often1] at this
  · obtain ⟨hs, rfl, rfl, rfl⟩ := right2 hx
    have := often_2 h _ _ _ _ hx (by omega)
    rwa [hst.often2] at this
  · obtain ⟨rfl, rfl, rfl⟩ := right3 hx
    have := often_3 h _ _ _ _ hx
    rwa [hst.often3] at this
  · obtain ⟨h1, h2, rfl, rfl, rfl⟩ := right4 hx
    obtain ⟨j, rfl⟩ : ∃ j : Nat, c = (j : Int) := ⟨c.toNat, by omega⟩
    have := often_4 h _ _ _ j (by omega) hx
    rwa [hst.often4 j (by omega)] at this
end Go.Proofs.Ytjhinakfoejpbaa.T

/- A value is put into a tally. No condition stands open. -/
namespace Go.Proofs.Ytjhinakfoejpbaa.T
open Go.RowKit Go.Proofs.Ytjhinakfoejpbaa.WPure Go.Proofs.YtjhinakfoejpbaaW.PrintWords Go.Proofs.YtjhinakfoejpbaaW.PrintLast Go.Proofs.YtjhinakfoejpbaaW.PrintMore
/-- a tally of the values L: its own blocks are in S, its map has at most n entries -/
def Tal (w : World) (S : Nat → Prop) (g n : Nat) (L : List Val) : Prop := ∃ n' bg mb t hi lo v m, n' ≤ n ∧ TalAt w S g bg mb t hi lo v n' m ∧ St L t hi lo v m
/-- a value in a box -/
def BoxAt (w : World) (q : Nat) (k x : Int) (s : ByteArray) (b : Bool) (c : Int) : Prop := w.heap[q]? = some (.cells #[.int .i64 k, .int .i64 x, .string s, .bool b, .int .i64 c] 25 (0, 0))
theorem BoxAt.kept {w w' : World} {q : Nat} {k x : Int} {s : ByteArray} {b : Bool} {c : Int} {S : Nat → Prop} (h : BoxAt w q k x s b c) (kp : Keeps S w w') (hs : ¬ S q) : BoxAt w' q k x s b c := (kp.block q (blk_lt h) hs).trans h
theorem BoxAt.far {w : World} {q : Nat} {k x : Int} {s : ByteArray} {b : Bool} {c : Int} (h : BoxAt w q k x s b c) {p : Addr} (hp : q ≠ p.block) (u : Value) : BoxAt (w.setCell p u) q k x s b c := blk_far h hp u
section
variable {w : World} {S : Nat → Prop} {g bg mb n : Nat} {t : Tree} {hi lo : Int} {v : List Int} {m : ByteArray → Nat}
theorem TalAt.drew (h : TalAt w S g bg mb t hi lo v n m) : TalAt w.drew S g bg mb t hi lo v n m := h.below (Below.refl _ _).drew
theorem TalAt.putK (h : TalAt w S g bg mb t hi lo v n m) (k : Nat) (y : Int) : TalAt (w.setCell ⟨g, 14 + k, none⟩ (.int .i64 y)) S g bg mb t hi lo (v.set (10 + k) y) n m := by
  have e := h.putN (10 + k) y
  rwa [show 4 + (10 + k) = 14 + k by omega] at e
theorem TalAt.cellK (h : TalAt w S g bg mb t hi lo v n m) (k : Nat) (hk : k < 5) : w.cell? ⟨g, 14 + k, none⟩ = some (.int .i64 (v.getD (10 + k) 0)) := by
  have e := tcell h (10 + k) (by omega)
  rwa [show 4 + (10 + k) = 14 + k by omega] at e
theorem TalAt.g_box (h : TalAt w S g bg mb t hi lo v n m) {q : Nat} {k x : Int} {s : ByteArray} {b : Bool} {c : Int} (hb : BoxAt w q k x s b c) : q ≠ g := cells_ne hb h.blk (by decide)
theorem TalAt.bg_box (h : TalAt w S g bg mb t hi lo v n m) {q : Nat} {k x : Int} {s : ByteArray} {b : Bool} {c : Int} (hb : BoxAt w q k x s b c) : q ≠ bg := cells_ne hb h.bag (by decide)
theorem TalAt.t_box (h : TalAt w S g bg mb t hi lo v n m) {q : Nat} {k x : Int} {s : ByteArray} {b : Bool} {c : Int} (hb : BoxAt w q k x s b c) : q ∉ blocks t := fun e => by
  obtain ⟨cs, hc⟩ := h.tree.typed q e
  exact cells_ne hb hc (by decide) rfl
theorem TalAt.cb (h : TalAt w S g bg mb t hi lo v n m) : w.cell? ⟨bg, 0, none⟩ = some (.pointer (ptr t)) := (blk_cell h.bag 0).trans rfl
theorem TalAt.c1 (h : TalAt w S g bg mb t hi lo v n m) : w.cell? ⟨g, 1, none⟩ = some (.int .i64 hi) := (blk_cell h.blk 1).trans rfl
theorem TalAt.c2 (h : TalAt w S g bg mb t hi lo v n m) : w.cell? ⟨g, 2, none⟩ = some (.int .i64 lo) := (blk_cell h.blk 2).trans rfl
theorem TalAt.c3 (h : TalAt w S g bg mb t hi lo v n m) : w.cell? ⟨g, 3, none⟩ = some (.map (some mb)) := (blk_cell h.blk 3).trans rfl
end
theorem all_slot (L : List Val) : L.countP (slot 15) = L.length := List.countP_eq_length.2 (fun x _ => by unfold slot; rw [decide_eq_true_iff]; exact .inl rfl)
theorem blk_kp {w w' : World} {g : Nat} {cs : Array Value} {ty : TypeId} {S : Nat → Prop} (h : w.heap[g]? = some (.cells cs ty (0, 0))) (k : Keeps S w w') (hs : ¬ S g) (i : Nat) : w'.cell? ⟨g, i, none⟩ = cs[i]? := blk_cell ((k.block g (blk_lt h) hs).trans h) i
theorem siz_tot : ∀ t : Tree, Pos t → siz t ≤ tot t
  | .nil, _ => Nat.le_refl _
  | .nd _ l _ n r, h => by
    have h1 := siz_tot l h.1
    have h2 := siz_tot r h.2.1
    have h3 := h.2.2
    simp only [siz, tot]
    omega
section
variable {w : World} {S : Nat → Prop} {g bg mb n : Nat} {t : Tree} {hi lo : Int} {v : List Int} {m : ByteArray → Nat}
theorem TalAt.newTree (h : TalAt w S g bg mb t hi lo v n m) {w' : World} {t' : Tree} (k : Keeps (fun b => b ∈ blocks t) w w') (ha : At w' t') (hn : (blocks t').Nodup) (hS : ∀ b ∈ blocks t', S b) : TalAt (w'.setCell ⟨bg, 0, none⟩ (.pointer (ptr t'))) S g bg mb t' hi lo v n m := by
  have b1 : w'.heap[bg]? = some (.cells #[.pointer (ptr t)] 80 (0, 0)) := (k.block bg (blk_lt h.bag) h.bg_t).trans h.bag
  have g1 : w'.heap[g]? = _ := (k.block g (blk_lt h.blk) h.g_t).trans h.blk
  have m1 : MapAt w' mb n m := h.map.kept (k.block mb (by obtain ⟨D, ho, _⟩ := h.map; exact ho.lt) h.mb_t)
  have k2 : Keeps (fun b => b = bg) w' (w'.setCell ⟨bg, 0, none⟩ (.pointer (ptr t'))) := (Keeps.refl (fun b => b = bg) w').setCell (p := ⟨bg, 0, none⟩) rfl _
  exact ⟨(k2.block g (blk_lt g1) h.g_bg).trans g1, h.len, blk_put b1 0 _ rfl, At.kept k2 ha (fun b hb e => by
    obtain ⟨cs, hc⟩ := ha.typed b hb
    exact cells_ne b1 hc (by decide) e.symm), hn, m1.kept (k2.block mb (by obtain ⟨D, ho, _⟩ := m1; exact ho.lt) (fun e => h.bg_mb e.symm)), h.bg_, h.bbg, h.bmb, hS⟩
theorem TalAt.putSum (h : TalAt w S g bg mb t hi lo v n m) (H L : Int) : TalAt ((w.setCell ⟨g, 1, none⟩ (.int .i64 H)).setCell ⟨g, 2, none⟩ (.int .i64 L)) S g bg mb t H L v n m := by
  have k : Keeps (fun k => k = g) w ((w.setCell ⟨g, 1, none⟩ (.int .i64 H)).setCell ⟨g, 2, none⟩ (.int .i64 L)) := ((Keeps.refl (fun k => k = g) w).setCell (p := ⟨g, 1, none⟩) rfl _).setCell (p := ⟨g, 2, none⟩) rfl _
  exact ⟨blk_put (blk_put h.blk 1 _ rfl) 2 _ rfl, h.len, (k.block bg (blk_lt h.bag) (fun e => h.g_bg e.symm)).trans h.bag, At.kept k h.tree (fun b hb e => h.g_t (e ▸ hb)), h.nodup, h.map.kept (k.block mb (by obtain ⟨D, ho, _⟩ := h.map; exact ho.lt) (fun e => h.g_mb e.symm)), h.bg_, h.bbg, h.bmb, h.bt⟩
theorem TalAt.newMap (h : TalAt w S g bg mb t hi lo v n m) {w' : World} {n' : Nat} {m' : ByteArray → Nat} (hm : MapAt w' mb n' m') (k : Keeps (fun b => b = mb) w w') : TalAt w' S g bg mb t hi lo v n' m' :=
  ⟨(k.block g (blk_lt h.blk) h.g_mb).trans h.blk, h.len, (k.block bg (blk_lt h.bag) h.bg_mb).trans h.bag, At.kept k h.tree (fun b hb e => h.mb_t (e ▸ hb)), h.nodup, hm, h.bg_, h.bbg, h.bmb, h.bt⟩
end
theorem put2_lo (v : List Int) (k : Nat) (j : Nat) (hj : j < 10) {d : Int} : (put2 v k d).getD j 0 = v.getD j 0 := by
  unfold put2
  simp only [List.getD, List.getElem?_set]
  rw [if_neg (by omega), if_neg (by omega)]
theorem small_wrap {L : List Val} {t : Tree} {hi lo : Int} {v : List Int} {m : ByteArray → Nat} (h : St L t hi lo v m) (i : Nat) (hi2 : i < 16 := by decide) : wrap64 (v.getD i 0 + 1) = v.getD i 0 + 1 := by
  have h1 := h.vec i hi2
  have h2 : L.countP (slot i) ≤ L.length := List.countP_le_length
  have h3 := h.few
  unfold wrap64
  omega
theorem small_wrap2 {L : List Val} {t : Tree} {hi lo : Int} {v : List Int} {m : ByteArray → Nat} (h : St L t hi lo v m) (i : Nat) (hi2 : i < 16 := by decide) : wrap64 (v.getD i 0 - 1) = v.getD i 0 + -1 := by
  have h1 := h.vec i hi2
  have h2 : L.countP (slot i) ≤ L.length := List.countP_le_length
  have h3 := h.few
  unfold wrap64
  omega
theorem zero_twice (f : ByteArray) (m : ByteArray → Nat) : (fun t => if t = f then 0 else m t) = (fun t => if t = f then 0 else if t = f then 0 else m t) := by
  funext t
  by_cases e : t = f <;> simp [e]
theorem place_true (w : World) : Calls Try.prog 52 #[.bool true] w fun e w' => e = .returned (.int .i64 1) ∧ w = w' := place_any true w
theorem place_false (w : World) : Calls Try.prog 52 #[.bool false] w fun e w' => e = .returned (.int .i64 0) ∧ w = w' := place_any false w
set_option maxHeartbeats 8000000 in
set_option maxRecDepth 100000 in
theorem add_yes {w : World} {S : Nat → Prop} {g bg mb n : Nat} {t : Tree} {hi lo : Int} {v : List Int} {m : ByteArray → Nat} {L : List Val} (h : TalAt w S g bg mb t hi lo v n m) (k : Nat) (x : Int) (s : ByteArray) (b : Bool) (c : Int) (hst : St L t hi lo v m) (hx : rightB (k : Int) x s b c = true) (hf : L.length < 4096) (hn : n < 1099511627776) (hS : ∀ b, w.heap.size ≤ b → S b) :
    Calls Try.prog 14 #[.pointer (some ⟨g, 0, none⟩), .agg #[.int .i64 (k : Int), .int .i64 x, .string s, .bool b, .int .i64 c]] w fun e w' => e = .returned (.int .i64 0) ∧ Tal w' S g (n + 1) (((k : Int), x, foldS s, b, c) :: L) ∧ Keeps S w w' := by
  have BB : Hid (Below w.heap.size w (w.alloc (.cells #[.int .i64 (k : Int), .int .i64 x, .string s, .bool b, .int .i64 c] 25))) := (Below.refl _ w).alloc (Nat.le_refl _) _
  have X1 : Hid (BoxAt (w.alloc (.cells #[.int .i64 (k : Int), .int .i64 x, .string s, .bool b, .int .i64 c] 25)) w.heap.size k x s b c) := heap_alloc_new w _
  have H := Lib.hid (h.below BB.out)
  have hk5 : k < 5 := by have := kind_range hx; omega
  have ha : v.getD 15 0 = (L.length : Int) := by rw [hst.vec 15 (by decide), all_slot]
  have hq := hst.vec (10 + k) (by omega)
  have hq2 : L.countP (slot (10 + k)) ≤ L.length := List.countP_le_length
  have hfew : L.length ≤ 4096 := hst.few
  obtain ⟨a, hae⟩ : ∃ a, v.getD 15 0 = a := ⟨_, rfl⟩
  obtain ⟨q, hqe⟩ : ∃ q, v.getD (10 + k) 0 = q := ⟨_, rfl⟩
  have w1 : wrap64 (a + 1) = a + 1 := by unfold wrap64; omega
  have w2 : wrap64 (q + 1) = q + 1 := by unfold wrap64; omega
  have d1 : decide (4096 ≤ a) = false := decide_eq_false (by omega)
  have n0 : ((k : Int)).toNat = k := Int.toNat_natCast k
  have p0 : (0 : Int) ≤ (k : Int) := Int.natCast_nonneg k
  have l0 : (k : Int) < 5 := by omega
  have HS := Lib.hid hS
  have HA := Lib.hid hae
  have HQ := Lib.hid hqe
  have HT := Lib.hid hst
  have HX := Lib.hid hx
  have HLN := Lib.hid h.len
  have HK := Lib.hid hk5
  have HN := Lib.hid hn
  have HF := Lib.hid hf
  clear hf
  clear h hS ha hae hq hqe hq2 hfew hst hk5 hn
  go_enter Try.func14, Try.ntmps14
  go_upto_region 9 with (first | (go_at_call 50; refine (made_yes H.out).mono ?_; rintro e w' ⟨rfl, rfl⟩) | (go_at_call 33; refine (check_any k x s b c _).mono ?_; rw [hx]; rintro e w2 ⟨rfl, hb⟩; have HB := Lib.hid (BB.out.trans (hb.mono (by simp))); have H2 := Lib.hid (H.out.below hb); have X2 := Lib.hid (show BoxAt w2 w.heap.size k x s b c from (hb.block w.heap.size (by simp)).trans X1.out); have c0 := tcell H2.out 15 (by decide); rw [HA.out] at c0; have f0 := H2.out.fz 19; clear hb H))
  have T3 := Lib.hid (H2.out.putN 15 (a + 1)).drew
  have P3 : Hid (Keeps S w (w2.setCell ⟨g, 4 + 15, none⟩ (.int .i64 (a + 1))).drew) := ((Keeps.of_below HB.out).setCell (p := ⟨g, 4 + 15, none⟩) H2.out.bg_ _).drew
  have X3 : Hid (BoxAt (w2.setCell ⟨g, 4 + 15, none⟩ (.int .i64 (a + 1))).drew w.heap.size k x s b c) := X2.out.far (p := ⟨g, 4 + 15, none⟩) (H2.out.g_box X2.out) _
  have Q3 : Hid ((v.set 15 (a + 1)).getD (10 + k) 0 = q) := by rw [← HQ.out]; show _ = _; have := HK.out; simp only [List.getD, List.getElem?_set]; rw [if_neg (by omega)]
  clear c0 f0 HB H2 BB X1 X2 hx
  refine start_ (n := 12) (S := fun W => W.cell? ⟨w.heap.size, 0, none⟩ = some (.int .i64 (k : Int)) ∧ W.cell? ⟨g, 14 + k, none⟩ = some (.int .i64 q)) (ds := [11]) (ba 12 0) (by kernel_rfl) rfl rfl ⟨(blk_cell X3.out 0).trans rfl, (T3.out.cellK k HK.out).trans (by rw [Q3.out])⟩ (fun hHeld => ?_)
  generalize (w2.setCell ⟨g, 4 + 15, none⟩ (.int .i64 (a + 1))).drew = w3 at T3 P3 X3 hHeld ⊢
  have l1 : k < 5 := HK.out
  refine pS (i := 0) (N := some 26) (ba 12 1) rfl rfl ?_
  refine pS (i := 1) (N := some 27) (ba 12 3) rfl rfl ?_
  refine tS hHeld (i := 2) (N := some 28) (ba 12 7) rfl rfl ?_
  refine pS (i := 3) (N := some 29) (ba 12 15) rfl rfl ?_
  refine pS (i := 4) (N := some 30) (ba 12 31) rfl rfl ?_
  refine pS (i := 5) (N := some 31) (ba 12 63) rfl rfl ?_
  refine tS hHeld (i := 6) (N := some 32) (ba 12 127) rfl rfl ?_
  refine pS (i := 7) (N := some 33) (ba 12 255) rfl rfl ?_
  refine pS (i := 8) (N := some 34) (ba 12 511) rfl rfl ?_
  refine pS (i := 9) (N := some 35) (ba 12 1023) rfl rfl ?_
  refine pS (i := 10) (N := some 36) (ba 12 2047) rfl rfl ?_
  have f4 : w3.frozen? ⟨g, 14 + k, none⟩ = false := T3.out.fz (14 + k)
  have c4 : w3.cell? ⟨g, 14 + k, none⟩ = some (.int .i64 q) := (T3.out.cellK k l1).trans (by rw [Q3.out])
  refine last_ (i := 11) (N := none) (ba 12 4095) rfl rfl (by kernel_rfl) (by decide) (fun K hK => ?_)
  refine skip_ (w1 := ?_) (by rfl) rfl ?_ ?_
  rotate_left
  · go_simp
    rfl
  refine hK.out _ _ ?_
  clear hK K
  refine done_ (by kernel_rfl) ?_
  have T4 : Hid (TalAt (w3.setCell ⟨g, 14 + k, none⟩ (.int .i64 (q + 1))) S g bg mb t hi lo (put2 v k (1)) n m) := by
    have e := T3.out.putK k (q + 1)
    rw [← HA.out, ← HQ.out] at e
    rw [← HQ.out]
    exact e
  have P4 := Lib.hid (P3.out.setCell (p := ⟨g, 14 + k, none⟩) T3.out.bg_ (.int .i64 (q + 1)))
  have X4 : Hid (BoxAt (w3.setCell ⟨g, 14 + k, none⟩ (.int .i64 (q + 1))) w.heap.size k x s b c) := X3.out.far (p := ⟨g, 14 + k, none⟩) (T3.out.g_box X3.out) _
  clear f4 c4 T3 P3 X3 Q3 n0 p0 l0 l1 w1 w2
  generalize w3.setCell ⟨g, 14 + k, none⟩ (.int .i64 (q + 1)) = w4 at T4 P4 X4 ⊢
  have c40 : w4.cell? ⟨w.heap.size, 0, none⟩ = some (.int .i64 (k : Int)) := (blk_cell X4.out 0).trans rfl
  rcases (show k = 0 ∨ k = 1 ∨ k = 2 ∨ k = 3 ∨ k = 4 by have := HK.out; omega) with e | e | e | e | e <;> subst e
  · go_wp2
    go_ret
    exact ⟨rfl, ⟨n, bg, mb, t, hi, lo, _, m, Nat.le_succ n, T4.out, HT.out.add0 HLN.out (right_held HX.out) HF.out rfl⟩, P4.out⟩
  · go_upto_region 12 with fail
    clear c40
    have T4d := Lib.hid T4.out.drew
    have P4d := Lib.hid P4.out.drew
    have X4d : Hid (BoxAt w4.drew w.heap.size (1 : Nat) x s b c) := X4.out
    refine start_ (n := 17) (S := fun W => W.cell? ⟨g, 0, none⟩ = some (.pointer (some ⟨bg, 0, none⟩)) ∧ W.cell? ⟨bg, 0, none⟩ = some (.pointer (ptr t)) ∧ W.cell? ⟨w.heap.size, 1, none⟩ = some (.int .i64 x)) (ds := [16]) (ba 17 0) (by kernel_rfl) rfl rfl ⟨T4d.out.c0, T4d.out.cb, (blk_cell X4d.out 1).trans rfl⟩ (fun hHeld => ?_)
    clear T4 P4 X4
    generalize w4.drew = w5 at T4d P4d X4d hHeld ⊢
    refine pS (i := 0) (N := some 41) (ba 17 1) rfl rfl ?_
    refine pS (i := 1) (N := some 42) (ba 17 3) rfl rfl ?_
    refine pS (i := 2) (N := some 43) (ba 17 7) rfl rfl ?_
    refine tS hHeld (i := 3) (N := some 44) (ba 17 15) rfl rfl ?_
    refine pS (i := 4) (N := some 45) (ba 17 31) rfl rfl ?_
    refine pS (i := 5) (N := some 46) (ba 17 63) rfl rfl ?_
    refine pS (i := 6) (N := some 47) (ba 17 127) rfl rfl ?_
    refine tS hHeld (i := 7) (N := some 48) (ba 17 255) rfl rfl ?_
    refine pS (i := 8) (N := some 49) (ba 17 511) rfl rfl ?_
    refine pS (i := 9) (N := some 50) (ba 17 1023) rfl rfl ?_
    refine tS hHeld (i := 10) (N := some 51) (ba 17 2047) rfl rfl ?_
    refine pS (i := 11) (N := some 52) (ba 17 4095) rfl rfl ?_
    refine tS hHeld (i := 12) (N := some 53) (ba 17 8191) rfl rfl ?_
    have HTL : Hid (tot t + 1 ≤ 1099511627776) := by have h1 := row_length t; have h2 := HT.out.row.length_eq; have h3 := numsL_length L; have h4 := HT.out.few; show _ ≤ _; omega
    have HSL : Hid (siz t + 1 ≤ 1099511627776) := by have h1 := siz_tot t HT.out.pos; have h2 := HTL.out; show _ ≤ _; omega
    refine one_ (i := 13) (N := some 54) (ba 17 16383) rfl rfl (by kernel_rfl) (by decide) (fun K hK => ?_)
    refine goes_ Try.func51 (by kernel_rfl) rfl #[.pointer (ptr t), .int .i64 x] (by rfl) rfl rfl (by (try simp only [List.map_toArray, List.map_cons, List.map_nil]); first | done | rfl) ?_
    refine (with_any t x T4d.out.tree T4d.out.nodup HTL.out HSL.out).mono ?_
    rintro e w6 ⟨g2, hg2, rfl, a6, k6⟩
    have A6 := Lib.hid a6
    have K6 := Lib.hid k6
    have G6 := Lib.hid hg2
    clear a6 k6 hg2
    refine ⟨_, rfl, ?_⟩
    refine hK.out _ _ ⟨((blk_kp T4d.out.blk K6.out T4d.out.g_t) 0).trans rfl, ((blk_kp T4d.out.bag K6.out T4d.out.bg_t) 0).trans rfl, ((blk_kp X4d.out K6.out (T4d.out.t_box X4d.out)) 1).trans rfl⟩ (fun hHeld => nS (N := 54) ?_)
    clear hK K
    refine pS (i := 14) (N := some 55) (ba 17 32767) rfl rfl ?_
    refine pS (i := 15) (N := some 56) (ba 17 65535) rfl rfl ?_
    have f6 : w6.frozen? ⟨bg, 0, none⟩ = false := blk_frozen ((K6.out.block bg (blk_lt T4d.out.bag) T4d.out.bg_t).trans T4d.out.bag) 0
    have c6 : w6.cell? ⟨bg, 0, none⟩ = some (.pointer (ptr t)) := ((blk_kp T4d.out.bag K6.out T4d.out.bg_t) 0).trans rfl
    refine last_ (i := 16) (N := none) (ba 17 131071) rfl rfl (by kernel_rfl) (by decide) (fun K hK => ?_)
    refine skip_ (w1 := ?_) (by rfl) rfl ?_ ?_
    rotate_left
    · go_simp
      rfl
    refine hK.out _ _ ?_
    clear hK K
    refine done_ (by kernel_rfl) ?_
    clear f6 c6
    have T7 := Lib.hid ((T4d.out.newTree K6.out A6.out (nodup_ins T4d.out.nodup (fun hb => by have := T4d.out.tree.lt g2 hb; have := G6.out; omega)) (fun b hb => (mem_ins hb).elim (fun e => e ▸ HS.out g2 (Nat.le_trans P4d.out.size G6.out)) (T4d.out.bt b))).drew)
    have P7 := Lib.hid (((P4d.out.trans (K6.out.mono (fun b _ hb => T4d.out.bt b hb))).setCell (p := ⟨bg, 0, none⟩) T4d.out.bbg (.pointer (ptr (ins g2 t x)))).drew)
    have X6 : Hid (BoxAt w6 w.heap.size (1 : Nat) x s b c) := X4d.out.kept K6.out (T4d.out.t_box X4d.out)
    have X7 : Hid (BoxAt (w6.setCell ⟨bg, 0, none⟩ (.pointer (ptr (ins g2 t x)))).drew w.heap.size (1 : Nat) x s b c) := X6.out.far (p := ⟨bg, 0, none⟩) (T4d.out.bg_box X4d.out) _
    go_upto_region 13 with fail
    refine start_ (n := 14) (S := fun W => W.cell? ⟨g, 1, none⟩ = some (.int .i64 hi) ∧ W.cell? ⟨g, 2, none⟩ = some (.int .i64 lo) ∧ W.cell? ⟨w.heap.size, 1, none⟩ = some (.int .i64 x)) (ds := [13]) (ba 14 0) (by kernel_rfl) rfl rfl ⟨T7.out.c1, T7.out.c2, (blk_cell X7.out 1).trans rfl⟩ (fun hHeld => ?_)
    clear T4d P4d X4d X6 A6 K6 HTL HSL
    generalize (w6.setCell ⟨bg, 0, none⟩ (.pointer (ptr (ins g2 t x)))).drew = w7 at T7 P7 X7 hHeld ⊢
    refine pS (i := 0) (N := some 58) (ba 14 1) rfl rfl ?_
    refine pS (i := 1) (N := some 59) (ba 14 3) rfl rfl ?_
    refine pS (i := 2) (N := some 60) (ba 14 7) rfl rfl ?_
    refine pS (i := 3) (N := some 61) (ba 14 15) rfl rfl ?_
    refine tS hHeld (i := 4) (N := some 62) (ba 14 31) rfl rfl ?_
    refine pS (i := 5) (N := some 63) (ba 14 63) rfl rfl ?_
    refine tS hHeld (i := 6) (N := some 64) (ba 14 127) rfl rfl ?_
    have HW : Hid (PG.wide_Add.f 1 hi lo x = some (hiW (numsL ((((1 : Nat) : Int), x, foldS s, b, c) :: L)).sum, loW (numsL ((((1 : Nat) : Int), x, foldS s, b, c) :: L)).sum, 0)) := (add_eq 0 hi lo x).trans (congrArg some (stAddSum (x := (((1 : Nat) : Int), x, foldS s, b, c)) HT.out (right_held HX.out) HF.out rfl))
    generalize hH : hiW (numsL ((((1 : Nat) : Int), x, foldS s, b, c) :: L)).sum = H1 at HW
    generalize hL : loW (numsL ((((1 : Nat) : Int), x, foldS s, b, c) :: L)).sum = L1 at HW
    have HH := Lib.hid hH
    have HL := Lib.hid hL
    clear hH hL
    refine one_ (i := 7) (N := some 65) (ba 14 255) rfl rfl (by kernel_rfl) (by decide) (fun K hK => ?_)
    refine goes_ Try.func48 (by kernel_rfl) rfl #[.agg #[.int .i64 hi, .int .i64 lo], .int .i64 x] (by rfl) rfl rfl (by (try simp only [List.map_toArray, List.map_cons, List.map_nil]); first | done | rfl) ?_
    refine (PG.wide_Add.calls 1 hi lo x H1 L1 0 _ HW.out).mono ?_
    rintro e w8 ⟨rfl, hb8⟩
    have T8 := Lib.hid (T7.out.below hb8)
    have P8 := Lib.hid (P7.out.trans (Keeps.of_below hb8))
    have X8 : Hid (BoxAt w8 w.heap.size (1 : Nat) x s b c) := (hb8.block _ (blk_lt X7.out)).trans X7.out
    clear hb8 T7 P7 X7 HW
    refine ⟨_, rfl, ?_⟩
    refine hK.out _ _ ⟨T8.out.c1, T8.out.c2, (blk_cell X8.out 1).trans rfl⟩ (fun hHeld => nS (N := 65) ?_)
    clear hK K
    refine pS (i := 8) (N := some 57) (ba 14 511) rfl rfl ?_
    refine pS (i := 9) (N := some 66) (ba 14 1023) rfl rfl ?_
    refine pS (i := 10) (N := some 67) (ba 14 2047) rfl rfl ?_
    refine pS (i := 11) (N := some 68) (ba 14 4095) rfl rfl ?_
    refine pS (i := 12) (N := some 69) (ba 14 8191) rfl rfl ?_
    have f8 : w8.frozen? ⟨g, 1, none⟩ = false := T8.out.fz 1
    have f9 : w8.frozen? ⟨g, 2, none⟩ = false := T8.out.fz 2
    have c8 := T8.out.c1
    have c9 := T8.out.c2
    refine last_ (i := 13) (N := none) (ba 14 16383) rfl rfl (by kernel_rfl) (by decide) (fun K hK => ?_)
    refine skip_ (w1 := ?_) (by rfl) rfl ?_ ?_
    rotate_left
    · go_simp
      rfl
    refine hK.out _ _ ?_
    clear hK K
    refine done_ (by kernel_rfl) ?_
    clear f8 f9 c8 c9
    have T9 := Lib.hid (T8.out.putSum H1 L1)
    have P9 := Lib.hid ((P8.out.setCell (p := ⟨g, 1, none⟩) T8.out.bg_ (.int .i64 H1)).setCell (p := ⟨g, 2, none⟩) T8.out.bg_ (.int .i64 L1))
    go_wp2
    go_ret
    exact ⟨rfl, ⟨n, bg, mb, _, H1, L1, _, m, Nat.le_succ n, T9.out, by rw [← HH.out, ← HL.out]; exact HT.out.add1 (x := (((1 : Nat) : Int), x, foldS s, b, c)) HLN.out (right_held HX.out) HF.out rfl g2⟩, P9.out⟩
  · have T4d := Lib.hid T4.out.drew
    have P4d := Lib.hid P4.out.drew
    have X4d : Hid (BoxAt w4.drew w.heap.size (2 : Nat) x s b c) := X4.out
    obtain ⟨f, hf⟩ : ∃ f, foldS s = f := ⟨_, rfl⟩
    have hs : s.size ≤ 255 := (right2 HX.out).1
    have hfs : f.size ≤ maxLen := by rw [← hf, foldS_size]; exact Nat.le_trans hs (by decide)
    obtain ⟨y, hy⟩ : ∃ y, m f = y := ⟨_, rfl⟩
    have hy2 : y ≤ 4096 := by rw [← hy, HT.out.txt]; exact Nat.le_trans List.countP_le_length HT.out.few
    have wy : wrap64 ((y : Int) + 1) = (y : Int) + 1 := wr1 (by omega)
    have HFO := Lib.hid hf
    have HY := Lib.hid hy
    have HFS := Lib.hid hfs
    have HSZ := Lib.hid hs
    have HY2 := Lib.hid hy2
    clear hf hfs hy hy2 hs
    go_upto_region 15 with fail
    clear c40
    have HL : Hid (∀ W, TalAt W S g bg mb t hi lo (put2 v 2 1) n m → BoxAt W w.heap.size (2 : Nat) x s b c → W.cell? ⟨g, 3, none⟩ = some (.map (some mb)) ∧ W.cell? ⟨w.heap.size, 2, none⟩ = some (.string s) ∧ (Instr.lookup 30 (.map (some mb)) (.string f) false).run Try.prog W = .ok (.int .i64 (y : Int)) W) := fun W hW hX => ⟨hW.c3, (blk_cell hX 2).trans rfl, by have := hW.map.look f HFS.out; rwa [HY.out] at this⟩
    refine start_ (n := 10) (S := fun W => W.cell? ⟨g, 3, none⟩ = some (.map (some mb)) ∧ W.cell? ⟨w.heap.size, 2, none⟩ = some (.string s) ∧ (Instr.lookup 30 (.map (some mb)) (.string f) false).run Try.prog W = .ok (.int .i64 (y : Int)) W) (ds := [9]) (ba 10 0) (by kernel_rfl) rfl rfl (HL.out _ T4d.out X4d.out) (fun hHeld => ?_)
    clear T4 P4 X4
    generalize w4.drew = w5 at T4d P4d X4d hHeld ⊢
    refine pS (i := 0) (N := some 72) (ba 10 1) rfl rfl ?_
    refine pS (i := 1) (N := some 73) (ba 10 3) rfl rfl ?_
    refine pS (i := 2) (N := some 74) (ba 10 7) rfl rfl ?_
    refine tS hHeld (i := 3) (N := some 75) (ba 10 15) rfl rfl ?_
    refine pS (i := 4) (N := some 76) (ba 10 31) rfl rfl ?_
    refine tS hHeld (i := 5) (N := some 77) (ba 10 63) rfl rfl ?_
    refine one_ (i := 6) (N := some 78) (ba 10 127) rfl rfl (by kernel_rfl) (by decide) (fun K hK => ?_)
    refine goes_ Try.func34 (by kernel_rfl) rfl #[.string s] (by rfl) rfl rfl (by (try simp only [List.map_toArray, List.map_cons, List.map_nil]); first | done | rfl) ?_
    refine (fold_any s (Nat.le_trans HSZ.out (by decide)) w5).mono ?_
    rintro e w6 ⟨rfl, hb⟩
    rw [HFO.out]
    have T6 := Lib.hid (T4d.out.below hb)
    have P6 := Lib.hid (P4d.out.trans (Keeps.of_below hb))
    have X6 : Hid (BoxAt w6 w.heap.size (2 : Nat) x s b c) := (hb.block _ (blk_lt X4d.out)).trans X4d.out
    clear hb T4d P4d X4d
    refine ⟨_, rfl, ?_⟩
    refine hK.out _ _ (HL.out _ T6.out X6.out) (fun hHeld => nS (N := 78) ?_)
    clear hK K
    refine tS hHeld (i := 7) (N := some 79) (ba 10 255) rfl rfl ?_
    refine pS (i := 8) (N := some 80) (ba 10 511) rfl rfl ?_
    obtain ⟨w7, hput, hm7, hk7⟩ := T6.out.map.put f HFS.out (y + 1) (by have := HY2.out; omega) (by have := HN.out; exact Nat.lt_of_lt_of_le this (by decide))
    rw [Int.natCast_succ] at hput
    have T7 := Lib.hid (T6.out.newMap hm7 hk7)
    have P7 := Lib.hid (P6.out.trans (hk7.mono (fun b _ e => e ▸ T6.out.bmb)))
    clear hm7 hk7
    refine last_ (i := 9) (N := none) (ba 10 1023) rfl rfl (by kernel_rfl) (by decide) (fun K hK => ?_)
    refine skip_ (w1 := ?_) (by rfl) rfl ?_ ?_
    rotate_left
    · go_simp
      rfl
    refine hK.out _ _ ?_
    clear hK K
    refine done_ (by kernel_rfl) ?_
    clear hput
    go_wp2
    go_ret
    exact ⟨rfl, ⟨n + 1, bg, mb, t, hi, lo, _, _, Nat.le_refl _, T7.out, by have e := HT.out.add2 HLN.out (x := (((2 : Nat) : Int), x, foldS s, b, c)) (right_held HX.out) HF.out rfl; rw [HFO.out] at e ⊢; simp only [HY.out] at e; exact e⟩, P7.out⟩
  · have T4d := Lib.hid T4.out.drew
    have P4d := Lib.hid P4.out.drew
    have X4d : Hid (BoxAt w4.drew w.heap.size (3 : Nat) x s b c) := X4.out
    rcases (show b = true ∨ b = false by cases b <;> simp) with e | e <;> subst e
    · obtain ⟨q2, hq2⟩ : ∃ q2, v.getD 1 0 = q2 := ⟨_, rfl⟩
      have w3 : wrap64 (q2 + 1) = q2 + 1 := by rw [← hq2]; exact small_wrap HT.out 1
      have HQ2 := Lib.hid hq2
      clear hq2
      go_upto_region 17 with fail
      clear c40
      refine start_ (n := 13) (S := fun W => W.cell? ⟨w.heap.size, 3, none⟩ = some (.bool true) ∧ W.cell? ⟨g, 4 + 1, none⟩ = some (.int .i64 q2)) (ds := [12]) (ba 13 0) (by kernel_rfl) rfl rfl ⟨(blk_cell X4d.out 3).trans rfl, (tcell T4d.out 1 (by decide)).trans (by rw [put2_lo v 3 1 (by decide), HQ2.out])⟩ (fun hHeld => ?_)
      clear T4 P4 X4
      generalize w4.drew = w5 at T4d P4d X4d hHeld ⊢
      refine pS (i := 0) (N := some 83) (ba 13 1) rfl rfl ?_
      refine pS (i := 1) (N := some 84) (ba 13 3) rfl rfl ?_
      refine tS hHeld (i := 2) (N := some 85) (ba 13 7) rfl rfl ?_
      refine pS (i := 4) (N := some 87) (ba 13 23) rfl rfl ?_
      refine pS (i := 5) (N := some 88) (ba 13 55) rfl rfl ?_
      refine pS (i := 9) (N := some 92) (ba 13 567) rfl rfl ?_
      refine pS (i := 10) (N := some 93) (ba 13 1591) rfl rfl ?_
      refine one_ (i := 3) (N := some 86) (ba 13 1599) rfl rfl (by kernel_rfl) (by decide) (fun K hK => ?_)
      refine goes_ Try.func52 (by kernel_rfl) rfl #[.bool true] (by rfl) rfl rfl (by (try simp only [List.map_toArray, List.map_cons, List.map_nil]); first | done | rfl) ?_
      refine (place_true w5).mono ?_
      rintro e w' ⟨rfl, rfl⟩
      refine ⟨_, rfl, ?_⟩
      refine hK.out _ _ hHeld (fun hHeld => nS (N := 86) ?_)
      clear hK K
      refine pS (i := 6) (N := some 89) (ba 13 1663) rfl rfl ?_
      refine tS hHeld (i := 7) (N := some 90) (ba 13 1791) rfl rfl ?_
      refine pS (i := 8) (N := some 91) (ba 13 2047) rfl rfl ?_
      refine pS (i := 11) (N := some 94) (ba 13 4095) rfl rfl ?_
      have f5 : w5.frozen? ⟨g, 4 + 1, none⟩ = false := T4d.out.fz (4 + 1)
      have c5 : w5.cell? ⟨g, 4 + 1, none⟩ = some (.int .i64 q2) := (tcell T4d.out 1 (by decide)).trans (by rw [put2_lo v 3 1 (by decide), HQ2.out])
      refine last_ (i := 12) (N := none) (ba 13 8191) rfl rfl (by kernel_rfl) (by decide) (fun K hK => ?_)
      refine skip_ (w1 := ?_) (by rfl) rfl ?_ ?_
      rotate_left
      · go_simp
        rfl
      refine hK.out _ _ ?_
      clear hK K
      refine done_ (by kernel_rfl) ?_
      clear f5 c5
      have T6 := Lib.hid (T4d.out.putN 1 (q2 + 1))
      have P6 := Lib.hid (P4d.out.setCell (p := ⟨g, 4 + 1, none⟩) T4d.out.bg_ (.int .i64 (q2 + 1)))
      go_wp2
      go_ret
      exact ⟨rfl, ⟨n, bg, mb, t, hi, lo, _, m, Nat.le_succ n, T6.out, by have e := HT.out.add3 HLN.out (x := (((3 : Nat) : Int), x, foldS s, true, c)) (right_held HX.out) HF.out rfl; unfold put3 at e; rw [← HQ2.out]; exact e⟩, P6.out⟩
    · obtain ⟨q2, hq2⟩ : ∃ q2, v.getD 0 0 = q2 := ⟨_, rfl⟩
      have w3 : wrap64 (q2 + 1) = q2 + 1 := by rw [← hq2]; exact small_wrap HT.out 0
      have HQ2 := Lib.hid hq2
      clear hq2
      go_upto_region 17 with fail
      clear c40
      refine start_ (n := 13) (S := fun W => W.cell? ⟨w.heap.size, 3, none⟩ = some (.bool false) ∧ W.cell? ⟨g, 4 + 0, none⟩ = some (.int .i64 q2)) (ds := [12]) (ba 13 0) (by kernel_rfl) rfl rfl ⟨(blk_cell X4d.out 3).trans rfl, (tcell T4d.out 0 (by decide)).trans (by rw [put2_lo v 3 0 (by decide), HQ2.out])⟩ (fun hHeld => ?_)
      clear T4 P4 X4
      generalize w4.drew = w5 at T4d P4d X4d hHeld ⊢
      refine pS (i := 0) (N := some 83) (ba 13 1) rfl rfl ?_
      refine pS (i := 1) (N := some 84) (ba 13 3) rfl rfl ?_
      refine tS hHeld (i := 2) (N := some 85) (ba 13 7) rfl rfl ?_
      refine pS (i := 4) (N := some 87) (ba 13 23) rfl rfl ?_
      refine pS (i := 5) (N := some 88) (ba 13 55) rfl rfl ?_
      refine pS (i := 9) (N := some 92) (ba 13 567) rfl rfl ?_
      refine pS (i := 10) (N := some 93) (ba 13 1591) rfl rfl ?_
      refine one_ (i := 3) (N := some 86) (ba 13 1599) rfl rfl (by kernel_rfl) (by decide) (fun K hK => ?_)
      refine goes_ Try.func52 (by kernel_rfl) rfl #[.bool false] (by rfl) rfl rfl (by (try simp only [List.map_toArray, List.map_cons, List.map_nil]); first | done | rfl) ?_
      refine (place_false w5).mono ?_
      rintro e w' ⟨rfl, rfl⟩
      refine ⟨_, rfl, ?_⟩
      refine hK.out _ _ hHeld (fun hHeld => nS (N := 86) ?_)
      clear hK K
      refine pS (i := 6) (N := some 89) (ba 13 1663) rfl rfl ?_
      refine tS hHeld (i := 7) (N := some 90) (ba 13 1791) rfl rfl ?_
      refine pS (i := 8) (N := some 91) (ba 13 2047) rfl rfl ?_
      refine pS (i := 11) (N := some 94) (ba 13 4095) rfl rfl ?_
      have f5 : w5.frozen? ⟨g, 4 + 0, none⟩ = false := T4d.out.fz (4 + 0)
      have c5 : w5.cell? ⟨g, 4 + 0, none⟩ = some (.int .i64 q2) := (tcell T4d.out 0 (by decide)).trans (by rw [put2_lo v 3 0 (by decide), HQ2.out])
      refine last_ (i := 12) (N := none) (ba 13 8191) rfl rfl (by kernel_rfl) (by decide) (fun K hK => ?_)
      refine skip_ (w1 := ?_) (by rfl) rfl ?_ ?_
      rotate_left
      · go_simp
        rfl
      refine hK.out _ _ ?_
      clear hK K
      refine done_ (by kernel_rfl) ?_
      clear f5 c5
      have T6 := Lib.hid (T4d.out.putN 0 (q2 + 1))
      have P6 := Lib.hid (P4d.out.setCell (p := ⟨g, 4 + 0, none⟩) T4d.out.bg_ (.int .i64 (q2 + 1)))
      go_wp2
      go_ret
      exact ⟨rfl, ⟨n, bg, mb, t, hi, lo, _, m, Nat.le_succ n, T6.out, by have e := HT.out.add3 HLN.out (x := (((3 : Nat) : Int), x, foldS s, false, c)) (right_held HX.out) HF.out rfl; unfold put3 at e; rw [← HQ2.out]; exact e⟩, P6.out⟩
  · obtain ⟨h1, h2, _⟩ := right4 HX.out
    obtain ⟨j, rfl⟩ : ∃ j : Nat, c = (j : Int) := ⟨c.toNat, by omega⟩
    have hj : j < 8 := by omega
    have T4d := Lib.hid T4.out.drew
    have P4d := Lib.hid P4.out.drew
    have X4d : Hid (BoxAt w4.drew w.heap.size (4 : Nat) x s b (j : Int)) := X4.out
    have n0 : ((j : Int)).toNat = j := Int.toNat_natCast j
    have p0 : (0 : Int) ≤ (j : Int) := Int.natCast_nonneg j
    have l0 : (j : Int) < 8 := by omega
    obtain ⟨q2, hq2⟩ : ∃ q2, v.getD (2 + j) 0 = q2 := ⟨_, rfl⟩
    have w3 : wrap64 (q2 + 1) = q2 + 1 := by rw [← hq2]; exact small_wrap HT.out (2 + j) (by omega)
    have HQ2 := Lib.hid hq2
    have CJ : Hid (∀ W, TalAt W S g bg mb t hi lo (put2 v 4 (1)) n m → W.cell? ⟨g, 6 + j, none⟩ = some (.int .i64 q2)) := fun W hW => by have e := tcell hW (2 + j) (by omega); rw [show 4 + (2 + j) = 6 + j by omega, put2_lo v 4 (2 + j) (by omega), HQ2.out] at e; exact e
    clear hq2 h1 h2
    go_upto_region 19 with fail
    clear c40
    refine start_ (n := 12) (S := fun W => W.cell? ⟨w.heap.size, 4, none⟩ = some (.int .i64 (j : Int)) ∧ W.cell? ⟨g, 6 + j, none⟩ = some (.int .i64 q2)) (ds := [11]) (ba 12 0) (by kernel_rfl) rfl rfl ⟨(blk_cell X4d.out 4).trans rfl, CJ.out _ T4d.out⟩ (fun hHeld => ?_)
    clear T4 P4 X4
    generalize w4.drew = w5 at T4d P4d X4d hHeld ⊢
    have l1 : j < 8 := hj
    refine pS (i := 0) (N := some 97) (ba 12 1) rfl rfl ?_
    refine pS (i := 1) (N := some 98) (ba 12 3) rfl rfl ?_
    refine tS hHeld (i := 2) (N := some 99) (ba 12 7) rfl rfl ?_
    refine pS (i := 3) (N := some 100) (ba 12 15) rfl rfl ?_
    refine pS (i := 4) (N := some 101) (ba 12 31) rfl rfl ?_
    refine pS (i := 5) (N := some 102) (ba 12 63) rfl rfl ?_
    refine tS hHeld (i := 6) (N := some 103) (ba 12 127) rfl rfl ?_
    refine pS (i := 7) (N := some 104) (ba 12 255) rfl rfl ?_
    refine pS (i := 8) (N := some 105) (ba 12 511) rfl rfl ?_
    refine pS (i := 9) (N := some 106) (ba 12 1023) rfl rfl ?_
    refine pS (i := 10) (N := some 107) (ba 12 2047) rfl rfl ?_
    have f5 : w5.frozen? ⟨g, 6 + j, none⟩ = false := T4d.out.fz (6 + j)
    have c5 := CJ.out _ T4d.out
    refine last_ (i := 11) (N := none) (ba 12 4095) rfl rfl (by kernel_rfl) (by decide) (fun K hK => ?_)
    refine skip_ (w1 := ?_) (by rfl) rfl ?_ ?_
    rotate_left
    · go_simp
      rfl
    refine hK.out _ _ ?_
    clear hK K
    refine done_ (by kernel_rfl) ?_
    clear f5 c5
    have T6 : Hid (TalAt (w5.setCell ⟨g, 6 + j, none⟩ (.int .i64 (q2 + 1))) S g bg mb t hi lo ((put2 v 4 (1)).set (2 + j) (q2 + 1)) n m) := by have e := T4d.out.putN (2 + j) (q2 + 1); rwa [show 4 + (2 + j) = 6 + j by omega] at e
    have P6 := Lib.hid (P4d.out.setCell (p := ⟨g, 6 + j, none⟩) T4d.out.bg_ (.int .i64 (q2 + 1)))
    go_wp2
    go_ret
    exact ⟨rfl, ⟨n, bg, mb, t, hi, lo, _, m, Nat.le_succ n, T6.out, by have e := HT.out.add4 HLN.out (x := (((4 : Nat) : Int), x, foldS s, b, (j : Int))) (right_held HX.out) HF.out rfl j rfl hj; unfold put3 at e; rw [← HQ2.out]; exact e⟩, P6.out⟩
end Go.Proofs.Ytjhinakfoejpbaa.T

/- A value is taken out of a tally. No condition stands open. -/
namespace Go.Proofs.Ytjhinakfoejpbaa.T
open Go.RowKit Go.Proofs.Ytjhinakfoejpbaa.WPure Go.Proofs.YtjhinakfoejpbaaW.PrintWords Go.Proofs.YtjhinakfoejpbaaW.PrintLast Go.Proofs.YtjhinakfoejpbaaW.PrintMore
set_option maxHeartbeats 8000000 in
set_option maxRecDepth 100000 in
theorem drop_yes {w : World} {S : Nat → Prop} {g bg mb n : Nat} {t : Tree} {hi lo : Int} {v : List Int} {m : ByteArray → Nat} {L : List Val} (h : TalAt w S g bg mb t hi lo v n m) (k : Nat) (x : Int) (s : ByteArray) (b : Bool) (c : Int) (hst : St (((k : Int), x, foldS s, b, c) :: L) t hi lo v m) (hx : rightB (k : Int) x s b c = true) (hn : n < 1099511627776) (hS : ∀ b, w.heap.size ≤ b → S b) :
    Calls Try.prog 15 #[.pointer (some ⟨g, 0, none⟩), .agg #[.int .i64 (k : Int), .int .i64 x, .string s, .bool b, .int .i64 c]] w fun e w' => e = .returned (.int .i64 0) ∧ Tal w' S g (n + 1) L ∧ Keeps S w w' := by
  have BB : Hid (Below w.heap.size w (w.alloc (.cells #[.int .i64 (k : Int), .int .i64 x, .string s, .bool b, .int .i64 c] 25))) := (Below.refl _ w).alloc (Nat.le_refl _) _
  have X1 : Hid (BoxAt (w.alloc (.cells #[.int .i64 (k : Int), .int .i64 x, .string s, .bool b, .int .i64 c] 25)) w.heap.size k x s b c) := heap_alloc_new w _
  have H := Lib.hid (h.below BB.out)
  have hk5 : k < 5 := by have := kind_range hx; omega
  have ha : v.getD 15 0 = (L.length : Int) + 1 := by rw [hst.vec 15 (by decide), all_slot]; simp
  have hq := hst.vec (10 + k) (by omega)
  have hq2 : (((k : Int), x, foldS s, b, c) :: L).countP (slot (10 + k)) ≤ L.length + 1 := List.countP_le_length
  have hfew : L.length + 1 ≤ 4096 := hst.few
  obtain ⟨a, hae⟩ : ∃ a, v.getD 15 0 = a := ⟨_, rfl⟩
  obtain ⟨q, hqe⟩ : ∃ q, v.getD (10 + k) 0 = q := ⟨_, rfl⟩
  have w1 : wrap64 (a - 1) = a + -1 := by unfold wrap64; omega
  have w2 : wrap64 (q - 1) = q + -1 := by unfold wrap64; omega
  have n0 : ((k : Int)).toNat = k := Int.toNat_natCast k
  have p0 : (0 : Int) ≤ (k : Int) := Int.natCast_nonneg k
  have l0 : (k : Int) < 5 := by omega
  have HS := Lib.hid hS
  have HA := Lib.hid hae
  have HQ := Lib.hid hqe
  have HT := Lib.hid hst
  have HX := Lib.hid hx
  have HLN := Lib.hid h.len
  have HK := Lib.hid hk5
  have HN := Lib.hid hn
  clear h hS ha hae hq hqe hq2 hfew hst hk5 hn
  go_enter Try.func15, Try.ntmps15
  obtain ⟨z, hz⟩ : ∃ z : Int, ((cnt (((k : Int), x, foldS s, b, c) :: L) ((k : Int), x, foldS s, b, c) : Nat) : Int) = z := ⟨_, rfl⟩
  have e2 : (z == 0) = false := beq_eq_false_iff_ne.2 (by rw [← hz, cnt_cons, if_pos rfl]; omega)
  have HO : Hid (∀ W, TalAt W S g bg mb t hi lo v n m → Calls Try.prog 20 #[.pointer (some ⟨g, 0, none⟩), .agg #[.int .i64 (k : Int), .int .i64 x, .string s, .bool b, .int .i64 c]] W fun e w' => e = .returned (.int .i64 z) ∧ Below W.heap.size W w') := fun W hW => by have e := often_yes hW HT.out k x s b c HX.out; rwa [hz] at e
  clear hz
  go_upto_region 9 with (first | (go_at_call 50; refine (made_yes H.out).mono ?_; rintro e w' ⟨rfl, rfl⟩) | (go_at_call 33; refine (check_any k x s b c _).mono ?_; rw [hx]; rintro e w1a ⟨rfl, hb⟩; have HBa := Lib.hid (BB.out.trans (hb.mono (by simp))); have H1a := Lib.hid (H.out.below hb); have X1a := Lib.hid (show BoxAt w1a w.heap.size k x s b c from (hb.block w.heap.size (by simp)).trans X1.out); have za := blk_cell X1a.out 0; have zb := blk_cell X1a.out 1; have zc := blk_cell X1a.out 2; have zd := blk_cell X1a.out 3; have ze := blk_cell X1a.out 4; clear hb H) | (go_at_call 20; refine (HO.out _ H1a.out).mono ?_; rintro e w2 ⟨rfl, hb⟩; have HB := Lib.hid (HBa.out.trans (hb.mono HBa.out.size)); have H2 := Lib.hid (H1a.out.below hb); have X2 := Lib.hid (show BoxAt w2 w.heap.size k x s b c from (hb.block w.heap.size (blk_lt X1a.out)).trans X1a.out); have c0 := tcell H2.out 15 (by decide); rw [HA.out] at c0; have f0 := H2.out.fz 19; clear hb H1a X1a HBa za zb zc zd ze))
  clear HO e2
  have T3 := Lib.hid (H2.out.putN 15 (a + -1)).drew
  have P3 : Hid (Keeps S w (w2.setCell ⟨g, 4 + 15, none⟩ (.int .i64 (a + -1))).drew) := ((Keeps.of_below HB.out).setCell (p := ⟨g, 4 + 15, none⟩) H2.out.bg_ _).drew
  have X3 : Hid (BoxAt (w2.setCell ⟨g, 4 + 15, none⟩ (.int .i64 (a + -1))).drew w.heap.size k x s b c) := X2.out.far (p := ⟨g, 4 + 15, none⟩) (H2.out.g_box X2.out) _
  have Q3 : Hid ((v.set 15 (a + -1)).getD (10 + k) 0 = q) := by rw [← HQ.out]; show _ = _; have := HK.out; simp only [List.getD, List.getElem?_set]; rw [if_neg (by omega)]
  clear c0 f0 HB H2 BB X1 X2 hx
  refine start_ (n := 12) (S := fun W => W.cell? ⟨w.heap.size, 0, none⟩ = some (.int .i64 (k : Int)) ∧ W.cell? ⟨g, 14 + k, none⟩ = some (.int .i64 q)) (ds := [11]) (ba 12 0) (by kernel_rfl) rfl rfl ⟨(blk_cell X3.out 0).trans rfl, (T3.out.cellK k HK.out).trans (by rw [Q3.out])⟩ (fun hHeld => ?_)
  generalize (w2.setCell ⟨g, 4 + 15, none⟩ (.int .i64 (a + -1))).drew = w3 at T3 P3 X3 hHeld ⊢
  have l1 : k < 5 := HK.out
  refine pS (i := 0) (N := some 26) (ba 12 1) rfl rfl ?_
  refine pS (i := 1) (N := some 27) (ba 12 3) rfl rfl ?_
  refine tS hHeld (i := 2) (N := some 28) (ba 12 7) rfl rfl ?_
  refine pS (i := 3) (N := some 29) (ba 12 15) rfl rfl ?_
  refine pS (i := 4) (N := some 30) (ba 12 31) rfl rfl ?_
  refine pS (i := 5) (N := some 31) (ba 12 63) rfl rfl ?_
  refine tS hHeld (i := 6) (N := some 32) (ba 12 127) rfl rfl ?_
  refine pS (i := 7) (N := some 33) (ba 12 255) rfl rfl ?_
  refine pS (i := 8) (N := some 34) (ba 12 511) rfl rfl ?_
  refine pS (i := 9) (N := some 35) (ba 12 1023) rfl rfl ?_
  refine pS (i := 10) (N := some 36) (ba 12 2047) rfl rfl ?_
  have f4 : w3.frozen? ⟨g, 14 + k, none⟩ = false := T3.out.fz (14 + k)
  have c4 : w3.cell? ⟨g, 14 + k, none⟩ = some (.int .i64 q) := (T3.out.cellK k l1).trans (by rw [Q3.out])
  refine last_ (i := 11) (N := none) (ba 12 4095) rfl rfl (by kernel_rfl) (by decide) (fun K hK => ?_)
  refine skip_ (w1 := ?_) (by rfl) rfl ?_ ?_
  rotate_left
  · go_simp
    rfl
  refine hK.out _ _ ?_
  clear hK K
  refine done_ (by kernel_rfl) ?_
  have T4 : Hid (TalAt (w3.setCell ⟨g, 14 + k, none⟩ (.int .i64 (q + -1))) S g bg mb t hi lo (put2 v k (-1)) n m) := by
    have e := T3.out.putK k (q + -1)
    rw [← HA.out, ← HQ.out] at e
    rw [← HQ.out]
    exact e
  have P4 := Lib.hid (P3.out.setCell (p := ⟨g, 14 + k, none⟩) T3.out.bg_ (.int .i64 (q + -1)))
  have X4 : Hid (BoxAt (w3.setCell ⟨g, 14 + k, none⟩ (.int .i64 (q + -1))) w.heap.size k x s b c) := X3.out.far (p := ⟨g, 14 + k, none⟩) (T3.out.g_box X3.out) _
  clear f4 c4 T3 P3 X3 Q3 n0 p0 l0 l1 w1 w2
  generalize w3.setCell ⟨g, 14 + k, none⟩ (.int .i64 (q + -1)) = w4 at T4 P4 X4 ⊢
  have c40 : w4.cell? ⟨w.heap.size, 0, none⟩ = some (.int .i64 (k : Int)) := (blk_cell X4.out 0).trans rfl
  rcases (show k = 0 ∨ k = 1 ∨ k = 2 ∨ k = 3 ∨ k = 4 by have := HK.out; omega) with e | e | e | e | e <;> subst e
  · go_wp2
    go_ret
    exact ⟨rfl, ⟨n, bg, mb, t, hi, lo, _, m, Nat.le_succ n, T4.out, HT.out.drop0 HLN.out rfl⟩, P4.out⟩
  · go_upto_region 12 with fail
    clear c40
    have T4d := Lib.hid T4.out.drew
    have P4d := Lib.hid P4.out.drew
    have X4d : Hid (BoxAt w4.drew w.heap.size (1 : Nat) x s b c) := X4.out
    refine start_ (n := 17) (S := fun W => W.cell? ⟨g, 0, none⟩ = some (.pointer (some ⟨bg, 0, none⟩)) ∧ W.cell? ⟨bg, 0, none⟩ = some (.pointer (ptr t)) ∧ W.cell? ⟨w.heap.size, 1, none⟩ = some (.int .i64 x)) (ds := [16]) (ba 17 0) (by kernel_rfl) rfl rfl ⟨T4d.out.c0, T4d.out.cb, (blk_cell X4d.out 1).trans rfl⟩ (fun hHeld => ?_)
    clear T4 P4 X4
    generalize w4.drew = w5 at T4d P4d X4d hHeld ⊢
    refine pS (i := 0) (N := some 41) (ba 17 1) rfl rfl ?_
    refine pS (i := 1) (N := some 42) (ba 17 3) rfl rfl ?_
    refine pS (i := 2) (N := some 43) (ba 17 7) rfl rfl ?_
    refine tS hHeld (i := 3) (N := some 44) (ba 17 15) rfl rfl ?_
    refine pS (i := 4) (N := some 45) (ba 17 31) rfl rfl ?_
    refine pS (i := 5) (N := some 46) (ba 17 63) rfl rfl ?_
    refine pS (i := 6) (N := some 47) (ba 17 127) rfl rfl ?_
    refine tS hHeld (i := 7) (N := some 48) (ba 17 255) rfl rfl ?_
    refine pS (i := 8) (N := some 49) (ba 17 511) rfl rfl ?_
    refine pS (i := 9) (N := some 50) (ba 17 1023) rfl rfl ?_
    refine tS hHeld (i := 10) (N := some 51) (ba 17 2047) rfl rfl ?_
    refine pS (i := 11) (N := some 52) (ba 17 4095) rfl rfl ?_
    refine tS hHeld (i := 12) (N := some 53) (ba 17 8191) rfl rfl ?_
    have HHAS := Lib.hid (HT.out.has rfl)
    have HTL : Hid (tot t ≤ 1099511627776) := by have h1 := row_length t; have h2 := HT.out.row.length_eq; have h3 := numsL_length ((((1 : Nat) : Int), x, foldS s, b, c) :: L); have h4 := HT.out.few; show _ ≤ _; omega
    have HSL : Hid (siz t ≤ 1099511627776) := by have h1 := siz_tot t HT.out.pos; have h2 := HTL.out; show _ ≤ _; omega
    refine one_ (i := 13) (N := some 54) (ba 17 16383) rfl rfl (by kernel_rfl) (by decide) (fun K hK => ?_)
    refine goes_ Try.func53 (by kernel_rfl) rfl #[.pointer (ptr t), .int .i64 x] (by rfl) rfl rfl (by (try simp only [List.map_toArray, List.map_cons, List.map_nil]); first | done | rfl) ?_
    refine (without_any t x HHAS.out T4d.out.tree T4d.out.nodup HTL.out HSL.out).mono ?_
    rintro e w6 ⟨rfl, a6, k6⟩
    have A6 := Lib.hid a6
    have K6 := Lib.hid k6
    clear a6 k6
    refine ⟨_, rfl, ?_⟩
    refine hK.out _ _ ⟨((blk_kp T4d.out.blk K6.out T4d.out.g_t) 0).trans rfl, ((blk_kp T4d.out.bag K6.out T4d.out.bg_t) 0).trans rfl, ((blk_kp X4d.out K6.out (T4d.out.t_box X4d.out)) 1).trans rfl⟩ (fun hHeld => nS (N := 54) ?_)
    clear hK K
    refine pS (i := 14) (N := some 55) (ba 17 32767) rfl rfl ?_
    refine pS (i := 15) (N := some 56) (ba 17 65535) rfl rfl ?_
    have f6 : w6.frozen? ⟨bg, 0, none⟩ = false := blk_frozen ((K6.out.block bg (blk_lt T4d.out.bag) T4d.out.bg_t).trans T4d.out.bag) 0
    have c6 : w6.cell? ⟨bg, 0, none⟩ = some (.pointer (ptr t)) := ((blk_kp T4d.out.bag K6.out T4d.out.bg_t) 0).trans rfl
    refine last_ (i := 16) (N := none) (ba 17 131071) rfl rfl (by kernel_rfl) (by decide) (fun K hK => ?_)
    refine skip_ (w1 := ?_) (by rfl) rfl ?_ ?_
    rotate_left
    · go_simp
      rfl
    refine hK.out _ _ ?_
    clear hK K
    refine done_ (by kernel_rfl) ?_
    clear f6 c6
    have T7 := Lib.hid ((T4d.out.newTree K6.out A6.out (nodup_del T4d.out.nodup) (fun b hb => T4d.out.bt b (mem_del T4d.out.nodup hb))).drew)
    have P7 := Lib.hid (((P4d.out.trans (K6.out.mono (fun b _ hb => T4d.out.bt b hb))).setCell (p := ⟨bg, 0, none⟩) T4d.out.bbg (.pointer (ptr (del t x)))).drew)
    have X6 : Hid (BoxAt w6 w.heap.size (1 : Nat) x s b c) := X4d.out.kept K6.out (T4d.out.t_box X4d.out)
    have X7 : Hid (BoxAt (w6.setCell ⟨bg, 0, none⟩ (.pointer (ptr (del t x)))).drew w.heap.size (1 : Nat) x s b c) := X6.out.far (p := ⟨bg, 0, none⟩) (T4d.out.bg_box X4d.out) _
    go_upto_region 13 with fail
    refine start_ (n := 14) (S := fun W => W.cell? ⟨g, 1, none⟩ = some (.int .i64 hi) ∧ W.cell? ⟨g, 2, none⟩ = some (.int .i64 lo) ∧ W.cell? ⟨w.heap.size, 1, none⟩ = some (.int .i64 x)) (ds := [13]) (ba 14 0) (by kernel_rfl) rfl rfl ⟨T7.out.c1, T7.out.c2, (blk_cell X7.out 1).trans rfl⟩ (fun hHeld => ?_)
    clear T4d P4d X4d X6 A6 K6 HHAS HTL HSL
    generalize (w6.setCell ⟨bg, 0, none⟩ (.pointer (ptr (del t x)))).drew = w7 at T7 P7 X7 hHeld ⊢
    refine pS (i := 0) (N := some 58) (ba 14 1) rfl rfl ?_
    refine pS (i := 1) (N := some 59) (ba 14 3) rfl rfl ?_
    refine pS (i := 2) (N := some 60) (ba 14 7) rfl rfl ?_
    refine pS (i := 3) (N := some 61) (ba 14 15) rfl rfl ?_
    refine tS hHeld (i := 4) (N := some 62) (ba 14 31) rfl rfl ?_
    refine pS (i := 5) (N := some 63) (ba 14 63) rfl rfl ?_
    refine tS hHeld (i := 6) (N := some 64) (ba 14 127) rfl rfl ?_
    have HW : Hid (PG.wide_Sub.f 1 hi lo x = some (hiW (numsL L).sum, loW (numsL L).sum, 0)) := (sub_eq 0 hi lo x).trans (congrArg some (stSubSum (x := (((1 : Nat) : Int), x, foldS s, b, c)) HT.out rfl))
    generalize hH : hiW (numsL L).sum = H1 at HW
    generalize hL : loW (numsL L).sum = L1 at HW
    have HH := Lib.hid hH
    have HL := Lib.hid hL
    clear hH hL
    refine one_ (i := 7) (N := some 65) (ba 14 255) rfl rfl (by kernel_rfl) (by decide) (fun K hK => ?_)
    refine goes_ Try.func54 (by kernel_rfl) rfl #[.agg #[.int .i64 hi, .int .i64 lo], .int .i64 x] (by rfl) rfl rfl (by (try simp only [List.map_toArray, List.map_cons, List.map_nil]); first | done | rfl) ?_
    refine (PG.wide_Sub.calls 1 hi lo x H1 L1 0 _ HW.out).mono ?_
    rintro e w8 ⟨rfl, hb8⟩
    have T8 := Lib.hid (T7.out.below hb8)
    have P8 := Lib.hid (P7.out.trans (Keeps.of_below hb8))
    have X8 : Hid (BoxAt w8 w.heap.size (1 : Nat) x s b c) := (hb8.block _ (blk_lt X7.out)).trans X7.out
    clear hb8 T7 P7 X7 HW
    refine ⟨_, rfl, ?_⟩
    refine hK.out _ _ ⟨T8.out.c1, T8.out.c2, (blk_cell X8.out 1).trans rfl⟩ (fun hHeld => nS (N := 65) ?_)
    clear hK K
    refine pS (i := 8) (N := some 57) (ba 14 511) rfl rfl ?_
    refine pS (i := 9) (N := some 66) (ba 14 1023) rfl rfl ?_
    refine pS (i := 10) (N := some 67) (ba 14 2047) rfl rfl ?_
    refine pS (i := 11) (N := some 68) (ba 14 4095) rfl rfl ?_
    refine pS (i := 12) (N := some 69) (ba 14 8191) rfl rfl ?_
    have f8 : w8.frozen? ⟨g, 1, none⟩ = false := T8.out.fz 1
    have f9 : w8.frozen? ⟨g, 2, none⟩ = false := T8.out.fz 2
    have c8 := T8.out.c1
    have c9 := T8.out.c2
    refine last_ (i := 13) (N := none) (ba 14 16383) rfl rfl (by kernel_rfl) (by decide) (fun K hK => ?_)
    refine skip_ (w1 := ?_) (by rfl) rfl ?_ ?_
    rotate_left
    · go_simp
      rfl
    refine hK.out _ _ ?_
    clear hK K
    refine done_ (by kernel_rfl) ?_
    clear f8 f9 c8 c9
    have T9 := Lib.hid (T8.out.putSum H1 L1)
    have P9 := Lib.hid ((P8.out.setCell (p := ⟨g, 1, none⟩) T8.out.bg_ (.int .i64 H1)).setCell (p := ⟨g, 2, none⟩) T8.out.bg_ (.int .i64 L1))
    go_wp2
    go_ret
    exact ⟨rfl, ⟨n, bg, mb, _, H1, L1, _, m, Nat.le_succ n, T9.out, by rw [← HH.out, ← HL.out]; exact stDrop1 HT.out HLN.out rfl⟩, P9.out⟩
  · have hs : s.size ≤ 255 := (right2 HX.out).1
    obtain ⟨f, hf⟩ : ∃ f, foldS s = f := ⟨_, rfl⟩
    have hfs : f.size ≤ maxLen := by rw [← hf, foldS_size]; exact Nat.le_trans hs (by decide)
    obtain ⟨y, hy⟩ : ∃ y, m f = y + 1 := by
      obtain ⟨_, hx0, hb0, hc0⟩ := right2 HX.out
      have e := HT.out.often2 f
      rw [cnt_cons, if_pos (by rw [hx0, hb0, hc0, hf]; rfl)] at e
      exact ⟨_, e⟩
    have hy2 : y ≤ 4096 := by have e := HT.out.txt f; have e2 : _ ≤ List.length _ := List.countP_le_length (p := isT f) (l := ((((2 : Nat) : Int), x, foldS s, b, c) :: L)); have := HT.out.few; omega
    have wy : wrap64 (y : Int) = (y : Int) := by unfold wrap64; omega
    have HFO := Lib.hid hf
    have HY := Lib.hid hy
    have HFS := Lib.hid hfs
    have HSZ := Lib.hid hs
    have HY2 := Lib.hid hy2
    clear hf hfs hy hy2 hs
    have T4d := Lib.hid T4.out
    go_upto_region 15 with fail
    have z2 : w4.cell? ⟨w.heap.size, 2, none⟩ = some (.string s) := (blk_cell X4.out 2).trans rfl
    clear c40
    go_upto_region 16 with (go_at_call 34; refine (fold_any s (Nat.le_trans HSZ.out (by decide)) w4).mono ?_; rintro e w6 ⟨rfl, hb⟩; rw [HFO.out]; have T6 := Lib.hid (T4.out.below hb); have P6 := Lib.hid (P4.out.trans (Keeps.of_below hb)); clear hb T4d)
    clear z2 T4 P4 X4
    have l6 : (Instr.lookup 30 (.map (some mb)) (.string f) false).run Try.prog w6 = .ok (.int .i64 ((y : Int) + 1)) w6 := by have := T6.out.map.look f HFS.out; rwa [HY.out, Int.natCast_succ] at this
    have c6 := T6.out.c3
    obtain ⟨w7, hput, hm7, hk7⟩ := T6.out.map.put f HFS.out y (by have := HY2.out; omega) (by have := HN.out; exact Nat.lt_of_lt_of_le this (by decide))
    have T7 := Lib.hid (T6.out.newMap hm7 hk7)
    have P7 := Lib.hid (P6.out.trans (hk7.mono (fun b _ e => e ▸ T6.out.bmb)))
    have c7 := T7.out.c3
    have l7 : (Instr.lookup 30 (.map (some mb)) (.string f) false).run Try.prog w7 = .ok (.int .i64 (y : Int)) w7 := by have := T7.out.map.look f HFS.out; rwa [if_pos rfl] at this
    have HD : Hid (∀ ty, ∃ w8, (Builtin.delete_ #[30, 9] ty #[.map (some mb), .string f]).run Try.prog w7 = .ok (.tuple #[]) w8 ∧ MapAt w8 mb (n + 1) (fun t => if t = f then 0 else if t = f then y else m t) ∧ Keeps (fun k => k = mb) w7 w8) := fun ty => T7.out.map.drop f HFS.out ty
    clear hm7 hk7 T6 P6
    by_cases hy0 : y = 0
    · subst hy0
      have h00 : ((0 : Nat) : Int) = 0 := rfl
      rw [h00] at hput l7
      obtain ⟨w8, hdel, hm8, hk8⟩ := HD.out 0
      have T8 := Lib.hid (T7.out.newMap hm8 hk8)
      have P8 := Lib.hid (P7.out.trans (hk8.mono (fun b _ e => e ▸ T7.out.bmb)))
      clear hm8 hk8 HD h00
      go_wp2
      go_ret
      exact ⟨rfl, ⟨n + 1, bg, mb, t, hi, lo, _, _, Nat.le_refl _, T8.out, by have e := HT.out.drop2 HLN.out rfl; rw [HFO.out] at e; simp only [HY.out, Nat.add_sub_cancel] at e; exact (zero_twice f m) ▸ e⟩, P8.out⟩
    · have e0 : ((y : Int) == 0) = false := beq_eq_false_iff_ne.2 (by omega)
      clear hy0 HD
      go_wp2
      go_ret
      exact ⟨rfl, ⟨n + 1, bg, mb, t, hi, lo, _, _, Nat.le_refl _, T7.out, by have e := HT.out.drop2 HLN.out rfl; rw [HFO.out] at e; simp only [HY.out, Nat.add_sub_cancel] at e; exact e⟩, P7.out⟩
  · have T4d := Lib.hid T4.out.drew
    have P4d := Lib.hid P4.out.drew
    have X4d : Hid (BoxAt w4.drew w.heap.size (3 : Nat) x s b c) := X4.out
    rcases (show b = true ∨ b = false by cases b <;> simp) with e | e <;> subst e
    · obtain ⟨q2, hq2⟩ : ∃ q2, v.getD 1 0 = q2 := ⟨_, rfl⟩
      have w3 : wrap64 (q2 - 1) = q2 + -1 := by rw [← hq2]; exact small_wrap2 HT.out 1
      have HQ2 := Lib.hid hq2
      clear hq2
      go_upto_region 20 with fail
      clear c40
      refine start_ (n := 13) (S := fun W => W.cell? ⟨w.heap.size, 3, none⟩ = some (.bool true) ∧ W.cell? ⟨g, 4 + 1, none⟩ = some (.int .i64 q2)) (ds := [12]) (ba 13 0) (by kernel_rfl) rfl rfl ⟨(blk_cell X4d.out 3).trans rfl, (tcell T4d.out 1 (by decide)).trans (by rw [put2_lo v 3 1 (by decide), HQ2.out])⟩ (fun hHeld => ?_)
      clear T4 P4 X4
      generalize w4.drew = w5 at T4d P4d X4d hHeld ⊢
      refine pS (i := 0) (N := some 96) (ba 13 1) rfl rfl ?_
      refine pS (i := 1) (N := some 97) (ba 13 3) rfl rfl ?_
      refine tS hHeld (i := 2) (N := some 98) (ba 13 7) rfl rfl ?_
      refine pS (i := 4) (N := some 100) (ba 13 23) rfl rfl ?_
      refine pS (i := 5) (N := some 101) (ba 13 55) rfl rfl ?_
      refine pS (i := 9) (N := some 105) (ba 13 567) rfl rfl ?_
      refine pS (i := 10) (N := some 106) (ba 13 1591) rfl rfl ?_
      refine one_ (i := 3) (N := some 99) (ba 13 1599) rfl rfl (by kernel_rfl) (by decide) (fun K hK => ?_)
      refine goes_ Try.func52 (by kernel_rfl) rfl #[.bool true] (by rfl) rfl rfl (by (try simp only [List.map_toArray, List.map_cons, List.map_nil]); first | done | rfl) ?_
      refine (place_true w5).mono ?_
      rintro e w' ⟨rfl, rfl⟩
      refine ⟨_, rfl, ?_⟩
      refine hK.out _ _ hHeld (fun hHeld => nS (N := 99) ?_)
      clear hK K
      refine pS (i := 6) (N := some 102) (ba 13 1663) rfl rfl ?_
      refine tS hHeld (i := 7) (N := some 103) (ba 13 1791) rfl rfl ?_
      refine pS (i := 8) (N := some 104) (ba 13 2047) rfl rfl ?_
      refine pS (i := 11) (N := some 107) (ba 13 4095) rfl rfl ?_
      have f5 : w5.frozen? ⟨g, 4 + 1, none⟩ = false := T4d.out.fz (4 + 1)
      have c5 : w5.cell? ⟨g, 4 + 1, none⟩ = some (.int .i64 q2) := (tcell T4d.out 1 (by decide)).trans (by rw [put2_lo v 3 1 (by decide), HQ2.out])
      refine last_ (i := 12) (N := none) (ba 13 8191) rfl rfl (by kernel_rfl) (by decide) (fun K hK => ?_)
      refine skip_ (w1 := ?_) (by rfl) rfl ?_ ?_
      rotate_left
      · go_simp
        rfl
      refine hK.out _ _ ?_
      clear hK K
      refine done_ (by kernel_rfl) ?_
      clear f5 c5
      have T6 := Lib.hid (T4d.out.putN 1 (q2 + -1))
      have P6 := Lib.hid (P4d.out.setCell (p := ⟨g, 4 + 1, none⟩) T4d.out.bg_ (.int .i64 (q2 + -1)))
      go_wp2
      go_ret
      exact ⟨rfl, ⟨n, bg, mb, t, hi, lo, _, m, Nat.le_succ n, T6.out, by have e := HT.out.drop3 HLN.out rfl; unfold put3 at e; rw [← HQ2.out]; exact e⟩, P6.out⟩
    · obtain ⟨q2, hq2⟩ : ∃ q2, v.getD 0 0 = q2 := ⟨_, rfl⟩
      have w3 : wrap64 (q2 - 1) = q2 + -1 := by rw [← hq2]; exact small_wrap2 HT.out 0
      have HQ2 := Lib.hid hq2
      clear hq2
      go_upto_region 20 with fail
      clear c40
      refine start_ (n := 13) (S := fun W => W.cell? ⟨w.heap.size, 3, none⟩ = some (.bool false) ∧ W.cell? ⟨g, 4 + 0, none⟩ = some (.int .i64 q2)) (ds := [12]) (ba 13 0) (by kernel_rfl) rfl rfl ⟨(blk_cell X4d.out 3).trans rfl, (tcell T4d.out 0 (by decide)).trans (by rw [put2_lo v 3 0 (by decide), HQ2.out])⟩ (fun hHeld => ?_)
      clear T4 P4 X4
      generalize w4.drew = w5 at T4d P4d X4d hHeld ⊢
      refine pS (i := 0) (N := some 96) (ba 13 1) rfl rfl ?_
      refine pS (i := 1) (N := some 97) (ba 13 3) rfl rfl ?_
      refine tS hHeld (i := 2) (N := some 98) (ba 13 7) rfl rfl ?_
      refine pS (i := 4) (N := some 100) (ba 13 23) rfl rfl ?_
      refine pS (i := 5) (N := some 101) (ba 13 55) rfl rfl ?_
      refine pS (i := 9) (N := some 105) (ba 13 567) rfl rfl ?_
      refine pS (i := 10) (N := some 106) (ba 13 1591) rfl rfl ?_
      refine one_ (i := 3) (N := some 99) (ba 13 1599) rfl rfl (by kernel_rfl) (by decide) (fun K hK => ?_)
      refine goes_ Try.func52 (by kernel_rfl) rfl #[.bool false] (by rfl) rfl rfl (by (try simp only [List.map_toArray, List.map_cons, List.map_nil]); first | done | rfl) ?_
      refine (place_false w5).mono ?_
      rintro e w' ⟨rfl, rfl⟩
      refine ⟨_, rfl, ?_⟩
      refine hK.out _ _ hHeld (fun hHeld => nS (N := 99) ?_)
      clear hK K
      refine pS (i := 6) (N := some 102) (ba 13 1663) rfl rfl ?_
      refine tS hHeld (i := 7) (N := some 103) (ba 13 1791) rfl rfl ?_
      refine pS (i := 8) (N := some 104) (ba 13 2047) rfl rfl ?_
      refine pS (i := 11) (N := some 107) (ba 13 4095) rfl rfl ?_
      have f5 : w5.frozen? ⟨g, 4 + 0, none⟩ = false := T4d.out.fz (4 + 0)
      have c5 : w5.cell? ⟨g, 4 + 0, none⟩ = some (.int .i64 q2) := (tcell T4d.out 0 (by decide)).trans (by rw [put2_lo v 3 0 (by decide), HQ2.out])
      refine last_ (i := 12) (N := none) (ba 13 8191) rfl rfl (by kernel_rfl) (by decide) (fun K hK => ?_)
      refine skip_ (w1 := ?_) (by rfl) rfl ?_ ?_
      rotate_left
      · go_simp
        rfl
      refine hK.out _ _ ?_
      clear hK K
      refine done_ (by kernel_rfl) ?_
      clear f5 c5
      have T6 := Lib.hid (T4d.out.putN 0 (q2 + -1))
      have P6 := Lib.hid (P4d.out.setCell (p := ⟨g, 4 + 0, none⟩) T4d.out.bg_ (.int .i64 (q2 + -1)))
      go_wp2
      go_ret
      exact ⟨rfl, ⟨n, bg, mb, t, hi, lo, _, m, Nat.le_succ n, T6.out, by have e := HT.out.drop3 HLN.out rfl; unfold put3 at e; rw [← HQ2.out]; exact e⟩, P6.out⟩
  · obtain ⟨h1, h2, _⟩ := right4 HX.out
    obtain ⟨j, rfl⟩ : ∃ j : Nat, c = (j : Int) := ⟨c.toNat, by omega⟩
    have hj : j < 8 := by omega
    have T4d := Lib.hid T4.out.drew
    have P4d := Lib.hid P4.out.drew
    have X4d : Hid (BoxAt w4.drew w.heap.size (4 : Nat) x s b (j : Int)) := X4.out
    have n0 : ((j : Int)).toNat = j := Int.toNat_natCast j
    have p0 : (0 : Int) ≤ (j : Int) := Int.natCast_nonneg j
    have l0 : (j : Int) < 8 := by omega
    obtain ⟨q2, hq2⟩ : ∃ q2, v.getD (2 + j) 0 = q2 := ⟨_, rfl⟩
    have w3 : wrap64 (q2 - 1) = q2 + -1 := by rw [← hq2]; exact small_wrap2 HT.out (2 + j) (by omega)
    have HQ2 := Lib.hid hq2
    have CJ : Hid (∀ W, TalAt W S g bg mb t hi lo (put2 v 4 (-1)) n m → W.cell? ⟨g, 6 + j, none⟩ = some (.int .i64 q2)) := fun W hW => by have e := tcell hW (2 + j) (by omega); rw [show 4 + (2 + j) = 6 + j by omega, put2_lo v 4 (2 + j) (by omega), HQ2.out] at e; exact e
    clear hq2 h1 h2
    go_upto_region 22 with fail
    clear c40
    refine start_ (n := 12) (S := fun W => W.cell? ⟨w.heap.size, 4, none⟩ = some (.int .i64 (j : Int)) ∧ W.cell? ⟨g, 6 + j, none⟩ = some (.int .i64 q2)) (ds := [11]) (ba 12 0) (by kernel_rfl) rfl rfl ⟨(blk_cell X4d.out 4).trans rfl, CJ.out _ T4d.out⟩ (fun hHeld => ?_)
    clear T4 P4 X4
    generalize w4.drew = w5 at T4d P4d X4d hHeld ⊢
    have l1 : j < 8 := hj
    refine pS (i := 0) (N := some 110) (ba 12 1) rfl rfl ?_
    refine pS (i := 1) (N := some 111) (ba 12 3) rfl rfl ?_
    refine tS hHeld (i := 2) (N := some 112) (ba 12 7) rfl rfl ?_
    refine pS (i := 3) (N := some 113) (ba 12 15) rfl rfl ?_
    refine pS (i := 4) (N := some 114) (ba 12 31) rfl rfl ?_
    refine pS (i := 5) (N := some 115) (ba 12 63) rfl rfl ?_
    refine tS hHeld (i := 6) (N := some 116) (ba 12 127) rfl rfl ?_
    refine pS (i := 7) (N := some 117) (ba 12 255) rfl rfl ?_
    refine pS (i := 8) (N := some 118) (ba 12 511) rfl rfl ?_
    refine pS (i := 9) (N := some 119) (ba 12 1023) rfl rfl ?_
    refine pS (i := 10) (N := some 120) (ba 12 2047) rfl rfl ?_
    have f5 : w5.frozen? ⟨g, 6 + j, none⟩ = false := T4d.out.fz (6 + j)
    have c5 := CJ.out _ T4d.out
    refine last_ (i := 11) (N := none) (ba 12 4095) rfl rfl (by kernel_rfl) (by decide) (fun K hK => ?_)
    refine skip_ (w1 := ?_) (by rfl) rfl ?_ ?_
    rotate_left
    · go_simp
      rfl
    refine hK.out _ _ ?_
    clear hK K
    refine done_ (by kernel_rfl) ?_
    clear f5 c5
    have T6 : Hid (TalAt (w5.setCell ⟨g, 6 + j, none⟩ (.int .i64 (q2 + -1))) S g bg mb t hi lo ((put2 v 4 (-1)).set (2 + j) (q2 + -1)) n m) := by have e := T4d.out.putN (2 + j) (q2 + -1); rwa [show 4 + (2 + j) = 6 + j by omega] at e
    have P6 := Lib.hid (P4d.out.setCell (p := ⟨g, 6 + j, none⟩) T4d.out.bg_ (.int .i64 (q2 + -1)))
    go_wp2
    go_ret
    exact ⟨rfl, ⟨n, bg, mb, t, hi, lo, _, m, Nat.le_succ n, T6.out, by have e := HT.out.drop4 HLN.out rfl j rfl hj; unfold put3 at e; rw [← HQ2.out]; exact e⟩, P6.out⟩
end Go.Proofs.Ytjhinakfoejpbaa.T
