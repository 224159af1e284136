/- The sums of layer wide, num's, and their references: what they come to, in plain numbers. No condition. -/
import Derived.Test.YtbohfpjmglfjeaaPWx
import Derived.Laws.BitsLemmas
import Derived.Laws.Bits64
namespace Go.Proofs.Ytbohfpjmglfjeaa.Knuth

/-- What the correcting loop keeps: q yn1 + r = u, and the true quotient is at most q. -/
structure Inv (B u d yn1 yn0 q r : Nat) : Prop where
  sum : q * yn1 + r = u
  up : u * B + d < (q + 1) * (yn1 * B + yn0)

theorem times_y (B q yn1 yn0 : Nat) : q * (yn1 * B + yn0) = (q * yn1) * B + q * yn0 := by
  rw [Nat.mul_add, Nat.mul_assoc]

theorem test_iff {B u d yn1 yn0 q r : Nat} (h : q * yn1 + r = u) : q * yn0 > B * r + d ↔ u * B + d < q * (yn1 * B + yn0) := by
  rw [times_y, ← h, Nat.add_mul]
  have : r * B = B * r := Nat.mul_comm _ _
  omega

theorem quot {B u d yn1 yn0 q r : Nat} (h : Inv B u d yn1 yn0 q r) (h1 : q * (yn1 * B + yn0) ≤ u * B + d) : (u * B + d) / (yn1 * B + yn0) = q :=
  Nat.div_eq_of_lt_le h1 h.up

theorem quot_of_le {B u d yn1 yn0 q r : Nat} (h : Inv B u d yn1 yn0 q r) (h1 : q ≤ (u * B + d) / (yn1 * B + yn0)) : (u * B + d) / (yn1 * B + yn0) = q :=
  quot h (Nat.le_trans (Nat.mul_le_mul_right _ h1) (Nat.div_mul_le_self _ _))

/-- Behind the loop by its test. -/
theorem done_test {B u d yn1 yn0 q r : Nat} (h : Inv B u d yn1 yn0 q r) (ht : ¬ q * yn0 > B * r + d) : (u * B + d) / (yn1 * B + yn0) = q :=
  quot h (by have := (not_congr (test_iff (d := d) (yn0 := yn0) (B := B) h.sum)).mp ht; omega)

/-- Behind the loop by its break. -/
theorem done_break {B u d yn1 yn0 q r : Nat} (h : Inv B u d yn1 yn0 q r) (hr : B ≤ r) (hq : q ≤ B) (h0 : yn0 ≤ B) : (u * B + d) / (yn1 * B + yn0) = q :=
  quot h (by
    rw [times_y, ← h.sum, Nat.add_mul]
    have h1 : q * yn0 ≤ B * B := Nat.mul_le_mul hq h0
    have h2 : B * B ≤ r * B := Nat.mul_le_mul hr (Nat.le_refl _)
    omega)

theorem next {B u d yn1 yn0 q r : Nat} (h : Inv B u d yn1 yn0 (q + 1) r) (ht : u * B + d < (q + 1) * (yn1 * B + yn0)) : Inv B u d yn1 yn0 q (r + yn1) :=
  ⟨by have := h.sum; rw [Nat.succ_mul] at this; omega, ht⟩

theorem big {B u d yn1 yn0 q : Nat} (hq : B ≤ q) (hu : u < yn1 * B + yn0) (hd : d < B) : u * B + d < q * (yn1 * B + yn0) := by
  have h1 : (u + 1) * B ≤ (yn1 * B + yn0) * q := Nat.mul_le_mul hu hq
  rw [Nat.add_mul] at h1
  rw [Nat.mul_comm q]
  omega

theorem start {B u d yn1 yn0 : Nat} (h1 : 0 < yn1) (hd : d < B) : Inv B u d yn1 yn0 (u / yn1) (u - u / yn1 * yn1) := by
  have hle : u / yn1 * yn1 ≤ u := Nat.div_mul_le_self _ _
  refine ⟨by omega, ?_⟩
  have hlt : u < (u / yn1 + 1) * yn1 := by
    have := Nat.lt_div_mul_add (a := u) h1
    rw [Nat.add_mul]; omega
  have h2 : (u + 1) * B ≤ ((u / yn1 + 1) * yn1) * B := Nat.mul_le_mul hlt (Nat.le_refl _)
  rw [times_y]
  rw [Nat.add_mul] at h2
  have : 0 ≤ (u / yn1 + 1) * yn0 := Nat.zero_le _
  omega

theorem start_le {B u yn1 yn0 : Nat} (h1 : 0 < yn1) (hu : u < yn1 * B + yn0) (h0 : yn0 < 2 * yn1) : u / yn1 ≤ B + 1 := by
  have : u < (B + 2) * yn1 := by
    rw [Nat.add_mul, Nat.mul_comm B]; omega
  have := (Nat.div_lt_iff_lt_mul h1).mpr this
  omega
theorem long (A d B Y : Nat) (hY : 0 < Y) : (A * B + d) / Y = A / Y * B + (A % Y * B + d) / Y ∧ (A * B + d) % Y = (A % Y * B + d) % Y := by
  have hdm := Nat.div_add_mod A Y
  generalize A / Y = q at *
  generalize A % Y = r at *
  have : A * B + d = (r * B + d) + Y * (q * B) := by
    rw [← hdm, Nat.add_mul, Nat.mul_assoc]; omega
  rw [this, Nat.add_mul_div_left _ _ hY, Nat.add_mul_mod_self_left]
  exact ⟨by omega, rfl⟩
end Go.Proofs.Ytbohfpjmglfjeaa.Knuth

namespace Go.Proofs.Ytbohfpjmglfjeaa.WPure
open Go.RowKit Go.Proofs.Ytbohfpjmglfjeaa Go.Proofs.Ytbohfpjmglfjeaa.PW Go.Proofs.YtbohfpjmglfjeaaW.PrintWords Go.Proofs.YtbohfpjmglfjeaaW.PrintLast Go.Proofs.YtbohfpjmglfjeaaW.PrintMore

/-! ### sums: what they come to -/
abbrev right (h l : Int) : Prop := 0 ≤ l ∧ l < 1000000000000000000 ∧ -2147483648 ≤ h ∧ h < 2147483648
abbrev fits (n : Int) : Prop := -1000000000000000000 ≤ n ∧ n ≤ 1000000000000000000
def madeW (h l : Int) : Int × Int × Int :=
  if -2147483648 ≤ h + l / 1000000000000000000 ∧ h + l / 1000000000000000000 < 2147483648 then (h + l / 1000000000000000000, l % 1000000000000000000, 0) else (0, 0, 3)
def checkW (h l : Int) : Int := if right h l then 0 else 2
def addW (h l n : Int) : Int × Int × Int := if right h l ∧ fits n then madeW h (l + n) else (0, 0, 2)
def subW (h l n : Int) : Int × Int × Int := if right h l ∧ fits n then madeW h (l - n) else (0, 0, 2)
def joinW (h l h2 l2 : Int) : Int × Int × Int := if right h l ∧ right h2 l2 then madeW (h + h2) (l + l2) else (0, 0, 2)
def totalW (h l : Int) : Int × Int := if right h l then (if h < -1 ∨ 1 < h ∨ (h = 1 ∧ l ≠ 0) then (0, 3) else (h * 1000000000000000000 + l, 0)) else (0, 2)
def compareW (h l h2 l2 : Int) : Int × Int :=
  if right h l ∧ right h2 l2 then (if h < h2 then (-1, 0) else if h2 < h then (1, 0) else if l < l2 then (-1, 0) else if l2 < l then (1, 0) else (0, 0)) else (0, 2)

theorem check_eq (h l : Int) : wide_Check.f h l = some (checkW h l) := by
  unfold wide_Check.f checkW right
  repeat' split
  all_goals first | rfl | omega
theorem fits_eq (n : Int) : num_Fits.f n = some (decide (fits n)) := by
  unfold num_Fits.f fits
  split
  · congr 1; rw [decide_eq_decide]; omega
  · congr 1; symm; rw [decide_eq_false_iff_not]; omega
theorem fits1_eq (n : Int) : foolscapref01_Fits.f n = some (decide (fits n)) := by
  unfold foolscapref01_Fits.f fits
  split
  · congr 1; rw [decide_eq_decide]; omega
  · congr 1; symm; rw [decide_eq_false_iff_not]; omega
theorem right_eq (h l : Int) : foolscapref03_Right.f h l = some (decide (right h l)) := by
  unfold foolscapref03_Right.f right
  repeat' split
  all_goals first | (congr 1; rw [decide_eq_decide]; omega) | (congr 1; symm; rw [decide_eq_false_iff_not]; omega)

theorem tq (l : Int) (h0 : -1000000000000000000 ≤ l) (h1 : l ≤ 2000000000000000000) :
    (0 ≤ l ∧ Int.tdiv l 1000000000000000000 = l / 1000000000000000000 ∧ Int.tmod l 1000000000000000000 = l % 1000000000000000000) ∨
    (l < 0 ∧ Int.tdiv l 1000000000000000000 = -((-l) / 1000000000000000000) ∧ Int.tmod l 1000000000000000000 = -((-l) % 1000000000000000000)) := by
  by_cases h : 0 ≤ l
  · exact .inl ⟨h, Int.tdiv_eq_ediv_of_nonneg h, Int.tmod_eq_emod_of_nonneg h⟩
  · refine .inr ⟨by omega, ?_, ?_⟩
    · have : l = -(-l) := by omega
      rw [this, Int.neg_tdiv, Int.neg_neg, Int.tdiv_eq_ediv_of_nonneg (by omega)]
    · have : l = -(-l) := by omega
      rw [this, Int.neg_tmod, Int.neg_neg, Int.tmod_eq_emod_of_nonneg (by omega)]

theorem carried_eq (k : Nat) (h l : Int) (h0 : -1000000000000000000 ≤ l) (h1 : l ≤ 2000000000000000000) (h2 : -4294967296 ≤ h) (h3 : h ≤ 4294967296) :
    wide_carried.f (k + 1) h l = some (madeW h l) := by
  have key : ∀ h' l', h' = h + l / 1000000000000000000 → l' = l % 1000000000000000000 → wide_carried.j0 (k + 1) h' l' = some (madeW h l) := by
    intro h' l' e1 e2
    simp only [wide_carried.j0, check_eq, Option.bind_some]
    subst e1 e2
    unfold checkW madeW right
    by_cases hc : -2147483648 ≤ h + l / 1000000000000000000 ∧ h + l / 1000000000000000000 < 2147483648
    · rw [if_pos hc, if_pos (by omega)]
    · rw [if_neg hc, if_neg (by omega)]
  unfold wide_carried.f
  rcases tq l h0 h1 with ⟨ha, e1, e2⟩ | ⟨ha, e1, e2⟩
  · rw [e1, e2, if_neg (by omega)]
    have w1 : wrap64 (l / 1000000000000000000) = l / 1000000000000000000 := by unfold wrap64; omega
    rw [w1]
    have w2 : wrap64 (h + l / 1000000000000000000) = h + l / 1000000000000000000 := by unfold wrap64; omega
    rw [w2]
    exact key _ _ rfl rfl
  · rw [e1, e2]
    have w1 : wrap64 (-((-l) / 1000000000000000000)) = -((-l) / 1000000000000000000) := by unfold wrap64; omega
    rw [w1]
    have w2 : wrap64 (h + -((-l) / 1000000000000000000)) = h + -((-l) / 1000000000000000000) := by unfold wrap64; omega
    rw [w2]
    by_cases hz : -((-l) % 1000000000000000000) < 0
    · rw [if_pos hz]
      exact key _ _ (by unfold wrap64; omega) (by unfold wrap64; omega)
    · rw [if_neg hz]
      exact key _ _ (by omega) (by omega)
theorem add_eq (k : Nat) (h l n : Int) : wide_Add.f (k + 1) h l n = some (addW h l n) := by
  unfold wide_Add.f
  simp only [check_eq, fits_eq, Option.bind_some]
  unfold checkW addW
  by_cases hr : right h l
  · by_cases hf : fits n
    · have w : wrap64 (l + n) = l + n := by unfold wrap64; omega
      rw [if_pos (if_pos hr), if_pos (by simpa using hf), w, carried_eq _ _ _ (by omega) (by omega) (by omega) (by omega), if_pos ⟨hr, hf⟩]; rfl
    · rw [if_pos (if_pos hr), if_neg (by simpa using hf), if_neg (fun h => hf h.2)]
  · rw [if_neg (by rw [if_neg hr]; decide), if_neg (fun h => hr h.1)]
theorem sub_eq (k : Nat) (h l n : Int) : wide_Sub.f (k + 1) h l n = some (subW h l n) := by
  unfold wide_Sub.f
  simp only [check_eq, fits_eq, Option.bind_some]
  unfold checkW subW
  by_cases hr : right h l
  · by_cases hf : fits n
    · have w : wrap64 (l - n) = l - n := by unfold wrap64; omega
      rw [if_pos (if_pos hr), if_pos (by simpa using hf), w, carried_eq _ _ _ (by omega) (by omega) (by omega) (by omega), if_pos ⟨hr, hf⟩]; rfl
    · rw [if_pos (if_pos hr), if_neg (by simpa using hf), if_neg (fun h => hf h.2)]
  · rw [if_neg (by rw [if_neg hr]; decide), if_neg (fun h => hr h.1)]
theorem join_eq (k : Nat) (h l h2 l2 : Int) : wide_Join.f (k + 1) h l h2 l2 = some (joinW h l h2 l2) := by
  unfold wide_Join.f
  simp only [check_eq, Option.bind_some]
  unfold checkW joinW
  by_cases hr : right h l
  · by_cases hf : right h2 l2
    · have w : wrap64 (l + l2) = l + l2 := by unfold wrap64; omega
      have w' : wrap64 (h + h2) = h + h2 := by unfold wrap64; omega
      rw [if_pos (if_pos hr), if_pos (if_pos hf), w, w', carried_eq _ _ _ (by omega) (by omega) (by omega) (by omega), if_pos ⟨hr, hf⟩]; rfl
    · rw [if_pos (if_pos hr), if_neg (by rw [if_neg hf]; decide), if_neg (fun h => hf h.2)]
  · rw [if_neg (by rw [if_neg hr]; decide), if_neg (fun h => hr h.1)]
theorem total_eq (h l : Int) : wide_Total.f h l = some (totalW h l) := by
  unfold wide_Total.f
  simp only [check_eq, Option.bind_some]
  unfold checkW totalW
  by_cases hr : right h l
  · rw [if_pos (if_pos hr), if_pos hr]
    by_cases hc : h < -1 ∨ 1 < h ∨ (h = 1 ∧ l ≠ 0)
    · rw [if_pos hc]
      repeat' split
      all_goals first | rfl | omega
    · rw [if_neg hc]
      have w : wrap64 (wrap64 (h * 1000000000000000000) + l) = h * 1000000000000000000 + l := by unfold wrap64; omega
      rw [w]
      repeat' split
      all_goals first | rfl | omega
  · rw [if_neg (by rw [if_neg hr]; decide), if_neg hr]

/-! ### Compare -/
theorem cmp_eq (a b : Int) : cmp_Compare_int.f a b = some (if a < b then -1 else if b < a then 1 else 0) := by
  unfold cmp_Compare_int.f cmp_isNaN_int.f
  have : (a != a) = false := by simp
  have : (b != b) = false := by simp
  simp only [*, Option.bind_some]
  repeat' split
  all_goals first | rfl | omega | simp_all
theorem or_eq (k : Nat) (a b : Int) : cmp_Or_int.f (k + 3) [a, b] = some (if a = 0 then b else a) := by
  have r0 : rd [a, b] 0 = a := rfl
  have r1 : rd [a, b] 1 = b := rfl
  have w0 : wrap64 (0 + 1) = 1 := by unfold wrap64; decide
  have w1 : wrap64 (1 + 1) = 2 := by unfold wrap64; decide
  unfold cmp_Or_int.f
  rw [show (([a, b] : List Int).length : Int) = 2 from rfl]
  simp only [cmp_Or_int.l0, show (([a, b] : List Int).length : Int) = 2 from rfl, r0, r1, w0, w1]
  by_cases ha : a = 0
  · by_cases hb : b = 0
    · simp [ha, hb]
    · simp [ha, hb]
  · simp [ha]
theorem compare_eq (k : Nat) (h l h2 l2 : Int) : wide_Compare.f (k + 4) h l h2 l2 = some (compareW h l h2 l2) := by
  unfold wide_Compare.f
  simp only [check_eq, Option.bind_some]
  unfold compareW
  by_cases hr : right h l
  · rw [if_pos (by unfold checkW; rw [if_pos hr])]
    by_cases hr2 : right h2 l2
    · rw [if_pos ⟨hr, hr2⟩]
      have e : (checkW h2 l2 != 0) = false := by unfold checkW; rw [if_pos hr2]; rfl
      rw [e]
      simp only [wide_Compare.j0, cmp_eq, Option.bind_some, or_eq]
      rw [if_neg (by decide)]
      by_cases he : h = h2 ∧ l = l2
      · obtain ⟨rfl, rfl⟩ := he
        simp
      · rw [if_neg (by simpa using he)]
        repeat' split
        all_goals first | rfl | omega
    · have e : (checkW h2 l2 != 0) = true := by unfold checkW; rw [if_neg hr2]; rfl
      rw [e, if_neg (fun x => hr2 x.2)]
      rfl
  · rw [if_neg (by unfold checkW; rw [if_neg hr]; decide), if_neg (fun x => hr x.1)]
    rfl

/-! ### words of two -/
theorem words_sub (m l hi lo : Int) (hm : m = 18446744073709551616 * hi + lo) (h0 : 0 ≤ lo) (h1 : lo < 18446744073709551616) (h2 : 0 ≤ l) (h3 : l < 1000000000000000000) (h4 : l ≤ m) (h5 : hi < 4294967296) :
    (hi - ent_sub64c lo l) % 18446744073709551616 = (m - l) / 18446744073709551616 ∧ ent_sub64 lo l = (m - l) % 18446744073709551616 := by
  unfold ent_sub64 ent_sub64c
  split <;> omega
theorem words_add (m l hi lo : Int) (hm : m = 18446744073709551616 * hi + lo) (h0 : 0 ≤ lo) (h1 : lo < 18446744073709551616) (h2 : 0 ≤ l) (h3 : l < 1000000000000000000) (h4 : 0 ≤ hi) (h5 : hi < 4294967296) :
    (hi + ent_add64c lo l) % 18446744073709551616 = (m + l) / 18446744073709551616 ∧ ent_add64 lo l = (m + l) % 18446744073709551616 := by
  unfold ent_add64 ent_add64c
  omega
theorem words_eq (h l : Int) (hr : right h l) :
    wide_words.f h l = some ((if h < 0 then -(h * 1000000000000000000 + l) else h * 1000000000000000000 + l) / 18446744073709551616, (if h < 0 then -(h * 1000000000000000000 + l) else h * 1000000000000000000 + l) % 18446744073709551616) := by
  obtain ⟨h0, h1, h2, h3⟩ := hr
  have m : IntKind.u64.wrap (mx h (wrap64 (-h))) = if h < 0 then -h else h := by
    rw [IntKind.wrap_u64]; unfold mx wrap64; split <;> split <;> omega
  have wl : IntKind.u64.wrap l = l := by rw [IntKind.wrap_u64]; omega
  unfold wide_words.f
  rw [m, wl]
  unfold bits_Mul64.f
  rw [if_pos (by split <;> omega), if_pos (by split <;> omega), if_pos (by omega), if_pos (by omega)]
  simp only [Option.bind_some]
  by_cases hn : h < 0
  · simp only [if_pos hn]
    have e := words_sub (-h * 1000000000000000000) l (-h * 1000000000000000000 / 18446744073709551616) (-h * 1000000000000000000 % 18446744073709551616) (by omega) (by omega) (by omega) h0 h1 (by omega) (by omega)
    rw [IntKind.wrap_u64, e.1, e.2, show -h * 1000000000000000000 - l = -(h * 1000000000000000000 + l) by omega]
  · simp only [if_neg hn]
    have e := words_add (h * 1000000000000000000) l (h * 1000000000000000000 / 18446744073709551616) (h * 1000000000000000000 % 18446744073709551616) (by omega) (by omega) (by omega) h0 h1 (by omega) (by omega)
    rw [IntKind.wrap_u64, e.1, e.2]

theorem wrapn (n : Nat) (h : n < 18446744073709551616) : IntKind.u64.wrap (n : Int) = n := by rw [IntKind.wrap_u64]; omega
theorem wrapz (z : Int) (n : Nat) (e : z = n) (h : n < 18446744073709551616) : IntKind.u64.wrap z = n := by rw [e]; exact wrapn n h

theorem l0_eq (Y s yn1 yn0 u d un0 : Nat) (R : Int × Int) (n : Nat)
    (hY : Y = yn1 * 4294967296 + yn0) (h1 : yn1 < 4294967296) (h0 : yn0 < 4294967296) (hd : d < 4294967296) (hu : u < Y)
    (hk : ∀ k, n ≤ k → bits_Div64.j2 k Y s yn1 yn0 u d un0 (((u * 4294967296 + d) / Y : Nat) : Int) = some R) :
    ∀ m q r k, Knuth.Inv 4294967296 u d yn1 yn0 q r → q ≤ 4294967296 + 1 → r < 4294967296 → 4294967296 ≤ r + m * yn1 → n + 2 * m + 2 ≤ k →
      bits_Div64.l0 k Y s yn1 yn0 u d un0 q r = some R := by
  intro m
  induction m with
  | zero =>
    intro q r k hi hq hr hm hkk
    omega
  | succ m ih =>
    intro q r k hi hq hr hm hkk
    obtain ⟨k, rfl⟩ : ∃ j, k = j + 2 := ⟨k - 2, by omega⟩
    -- the body, once the test is decided
    have body : u * 4294967296 + d < q * Y → bits_Div64.j1 (k + 1) Y s yn1 yn0 u d un0 q r true = some R := by
      intro ht
      obtain ⟨q, rfl⟩ : ∃ j, q = j + 1 := by
        refine ⟨q - 1, ?_⟩
        rcases Nat.eq_zero_or_pos q with h | h
        · subst h; simp at ht
        · omega
      have hi' := Knuth.next hi (by rw [← hY]; exact ht)
      have hlt : (u * 4294967296 + d) / Y < q + 1 := (Nat.div_lt_iff_lt_mul (by omega)).mpr ht
      simp only [bits_Div64.j1]
      rw [if_pos trivial, wrapz _ (r + yn1) (by omega) (by omega), wrapz (((q + 1 : Nat) : Int) - 1) q (by omega) (by omega)]
      by_cases hb : 4294967296 ≤ r + yn1
      · rw [if_pos (by omega)]
        have hQ := Knuth.done_break hi' hb (by omega) (by omega)
        rw [← hY] at hQ
        rw [← hQ]
        exact hk _ (by omega)
      · rw [if_neg (by omega)]
        exact ih q (r + yn1) k hi' (by omega) (by omega) (by rw [Nat.succ_mul] at hm; omega) (by omega)
    simp only [bits_Div64.l0]
    by_cases hb : 4294967296 ≤ q
    · rw [if_pos (by omega)]
      have := Knuth.big (yn1 := yn1) (yn0 := yn0) hb (by rw [← hY]; exact hu) hd
      exact body (by rw [hY]; exact this)
    · rw [if_neg (by omega)]
      have a1 : q * yn0 < 18446744073709551616 := by
        have : q * yn0 ≤ (4294967296 - 1) * (4294967296 - 1) := Nat.mul_le_mul (by omega) (by omega)
        omega
      rw [wrapz _ (q * yn0) (Int.natCast_mul q yn0).symm a1, wrapz (4294967296 * (r : Int)) (4294967296 * r) (by omega) (by omega), wrapz _ (4294967296 * r + d) (by omega) (by omega)]
      by_cases ht : q * yn0 > 4294967296 * r + d
      · rw [decide_eq_true (by omega)]
        rw [Knuth.test_iff hi.sum, ← hY] at ht
        exact body ht
      · rw [decide_eq_false (by omega)]
        simp only [bits_Div64.j1]
        have hQ := Knuth.done_test hi ht
        rw [← hY] at hQ
        rw [if_neg (by decide), ← hQ]
        exact hk _ (by omega)

theorem rem_eq (Y u d : Nat) (hY0 : 0 < Y) (hY : Y < 18446744073709551616) :
    IntKind.u64.wrap (IntKind.u64.wrap (IntKind.u64.wrap ((u : Int) * 4294967296) + (d : Int)) - IntKind.u64.wrap ((((u * 4294967296 + d) / Y : Nat) : Int) * (Y : Int))) = (((u * 4294967296 + d) % Y : Nat) : Int) := by
  have hdm := Nat.div_add_mod (u * 4294967296 + d) Y
  have hlt : (u * 4294967296 + d) % Y < Y := Nat.mod_lt _ hY0
  generalize (u * 4294967296 + d) / Y = Q at *
  generalize (u * 4294967296 + d) % Y = R at *
  have e1 : (Q : Int) * (Y : Int) = ((Y * Q : Nat) : Int) := by rw [Int.natCast_mul, Int.mul_comm]
  rw [e1]
  simp only [IntKind.wrap_u64]
  omega

theorem fin_eq (Y s u d q1 : Nat) (_hd : d < 4294967296) (hu : u < Y) (hY : Y < 18446744073709551616) (hq : q1 < 4294967296) (hQ : (u * 4294967296 + d) / Y < 4294967296) (z : Int) (hz : z = (((u * 4294967296 + d) / Y : Nat) : Int)) :
    (IntKind.u64.wrap (IntKind.u64.wrap ((q1 : Int) * 4294967296) + z), shr .u64 (IntKind.u64.wrap (IntKind.u64.wrap (IntKind.u64.wrap ((u : Int) * 4294967296) + (d : Int)) - IntKind.u64.wrap (z * (Y : Int)))) (s : Int))
      = (((q1 * 4294967296 + (u * 4294967296 + d) / Y : Nat) : Int), (((u * 4294967296 + d) % Y / 2 ^ min s 64 : Nat) : Int)) := by
  have hdm := Nat.div_add_mod (u * 4294967296 + d) Y
  have hlt : (u * 4294967296 + d) % Y < Y := Nat.mod_lt _ (by omega)
  generalize hQQ : (u * 4294967296 + d) / Y = Q at *
  generalize hRR : (u * 4294967296 + d) % Y = R at *
  subst hz
  have e1 : (Q : Int) * (Y : Int) = ((Y * Q : Nat) : Int) := by rw [Int.natCast_mul, Int.mul_comm]
  refine Prod.ext ?_ ?_
  · simp only [IntKind.wrap_u64]
    omega
  · simp only
    rw [e1]
    have e2 : IntKind.u64.wrap (IntKind.u64.wrap (IntKind.u64.wrap ((u : Int) * 4294967296) + (d : Int)) - IntKind.u64.wrap ((Y * Q : Nat) : Int)) = (R : Int) := by
      simp only [IntKind.wrap_u64]
      omega
    rw [e2]
    unfold shr
    rw [show ((s : Int).toNat) = s from rfl, show IntKind.u64.bits = 64 from rfl, Int.natCast_ediv, Int.natCast_pow]
    rfl

theorem l1_eq (Y s yn1 yn0 u d q1 : Nat)
    (hY : Y = yn1 * 4294967296 + yn0) (h1 : yn1 < 4294967296) (h0 : yn0 < 4294967296) (hd : d < 4294967296) (hu : u < Y) (hq1 : q1 < 4294967296) :
    ∀ m q r k, Knuth.Inv 4294967296 u d yn1 yn0 q r → q ≤ 4294967296 + 1 → r < 4294967296 → 4294967296 ≤ r + m * yn1 → 2 * m + 2 ≤ k →
      bits_Div64.l1 k Y s yn1 yn0 d q1 r u q = some (((q1 * 4294967296 + (u * 4294967296 + d) / Y : Nat) : Int), (((u * 4294967296 + d) % Y / 2 ^ min s 64 : Nat) : Int)) := by
  have hY2 : Y < 18446744073709551616 := by omega
  have hQB : (u * 4294967296 + d) / Y < 4294967296 := (Nat.div_lt_iff_lt_mul (by omega)).mpr (by
    have := Knuth.big (yn1 := yn1) (yn0 := yn0) (Nat.le_refl 4294967296) (by rw [← hY]; exact hu) hd
    rw [← hY] at this; exact this)
  have fin : ∀ z : Int, z = (((u * 4294967296 + d) / Y : Nat) : Int) → _ := fun z hz => fin_eq Y s u d q1 hd hu hY2 hq1 hQB z hz
  intro m
  induction m with
  | zero =>
    intro q r k hi hq hr hm hkk
    omega
  | succ m ih =>
    intro q r k hi hq hr hm hkk
    obtain ⟨k, rfl⟩ : ∃ j, k = j + 2 := ⟨k - 2, by omega⟩
    have body : u * 4294967296 + d < q * Y → bits_Div64.j4 (k + 1) Y s yn1 yn0 d q1 r u q true = some (((q1 * 4294967296 + (u * 4294967296 + d) / Y : Nat) : Int), (((u * 4294967296 + d) % Y / 2 ^ min s 64 : Nat) : Int)) := by
      intro ht
      obtain ⟨q, rfl⟩ : ∃ j, q = j + 1 := by
        refine ⟨q - 1, ?_⟩
        rcases Nat.eq_zero_or_pos q with h | h
        · rw [h] at ht; simp at ht
        · omega
      have hi' := Knuth.next hi (by rw [← hY]; exact ht)
      have hlt : (u * 4294967296 + d) / Y < q + 1 := (Nat.div_lt_iff_lt_mul (by omega)).mpr ht
      simp only [bits_Div64.j4]
      rw [if_pos trivial, wrapz _ (r + yn1) (by omega) (by omega), wrapz (((q + 1 : Nat) : Int) - 1) q (by omega) (by omega)]
      by_cases hb : 4294967296 ≤ r + yn1
      · rw [if_pos (by omega), if_pos (by omega)]
        have hQ := Knuth.done_break hi' hb (by omega) (by omega)
        rw [← hY] at hQ
        rw [fin q (by rw [hQ])]
      · rw [if_neg (by omega)]
        exact ih q (r + yn1) k hi' (by omega) (by omega) (by rw [Nat.succ_mul] at hm; omega) (by omega)
    simp only [bits_Div64.l1]
    by_cases hb : 4294967296 ≤ q
    · rw [if_pos (by omega)]
      have := Knuth.big (yn1 := yn1) (yn0 := yn0) hb (by rw [← hY]; exact hu) hd
      exact body (by rw [hY]; exact this)
    · rw [if_neg (by omega)]
      have a1 : q * yn0 < 18446744073709551616 := by
        have : q * yn0 ≤ (4294967296 - 1) * (4294967296 - 1) := Nat.mul_le_mul (by omega) (by omega)
        omega
      rw [wrapz _ (q * yn0) (Int.natCast_mul q yn0).symm a1, wrapz (4294967296 * (r : Int)) (4294967296 * r) (by omega) (by omega), wrapz _ (4294967296 * r + d) (by omega) (by omega)]
      by_cases ht : q * yn0 > 4294967296 * r + d
      · rw [decide_eq_true (by omega)]
        rw [Knuth.test_iff hi.sum, ← hY] at ht
        exact body ht
      · rw [decide_eq_false (by omega)]
        simp only [bits_Div64.j4]
        have hQ := Knuth.done_test hi ht
        rw [← hY] at hQ
        rw [if_neg (by decide), if_pos (by omega), fin q (by rw [hQ])]

theorem start_q (u yn1 yn0 : Nat) (hy : yn1 * 4294967296 + yn0 < 18446744073709551616) (h1 : 2147483648 ≤ yn1) (h0 : yn0 < 4294967296) (hu : u < yn1 * 4294967296 + yn0) :
    u / yn1 ≤ 4294967296 + 1 ∧ u - u / yn1 * yn1 < 4294967296 ∧ u / yn1 * yn1 ≤ u := by
  refine ⟨Knuth.start_le (by omega) hu (by omega), ?_, Nat.div_mul_le_self _ _⟩
  have := Nat.mod_lt u (show yn1 > 0 by omega)
  have := Nat.div_add_mod u yn1
  rw [Nat.mul_comm] at this
  omega

theorem phase2 (Y s yn1 yn0 un0 R Q k : Nat) (hY : Y < 18446744073709551616) (hYe : Y = yn1 * 4294967296 + yn0) (hn1 : yn1 < 4294967296) (hn1' : 2147483648 ≤ yn1) (hn0 : yn0 < 4294967296) (h0 : un0 < 4294967296) (hr : R < Y) (hq : Q < 4294967296) (hk : 10 ≤ k) :
    bits_Div64.l1 k Y s yn1 yn0 un0 Q (IntKind.u64.wrap ((R : Int) - IntKind.u64.wrap (IntKind.u64.wrap (Int.tdiv (R : Int) (yn1 : Int)) * (yn1 : Int)))) R (IntKind.u64.wrap (Int.tdiv (R : Int) (yn1 : Int)))
      = some (((Q * 4294967296 + (R * 4294967296 + un0) / Y : Nat) : Int), (((R * 4294967296 + un0) % Y / 2 ^ min s 64 : Nat) : Int)) := by
  have hs2 := start_q R yn1 yn0 (by omega) hn1' hn0 (by omega)
  have w2 : IntKind.u64.wrap (Int.tdiv (R : Int) (yn1 : Int)) = ((R / yn1 : Nat) : Int) := by
    rw [← Int.ofNat_tdiv]
    exact wrapn _ (by have := hs2.1; omega)
  rw [w2]
  have w3 : IntKind.u64.wrap (((R / yn1 : Nat) : Int) * (yn1 : Int)) = ((R / yn1 * yn1 : Nat) : Int) := wrapz _ _ (by rw [Int.natCast_mul]) (by have := hs2.2.2; omega)
  rw [w3]
  have w4 : IntKind.u64.wrap ((R : Int) - ((R / yn1 * yn1 : Nat) : Int)) = ((R - R / yn1 * yn1 : Nat) : Int) := wrapz _ _ (by have := hs2.2.2; omega) (by omega)
  rw [w4]
  have hup2 := (Knuth.start (u := R) (d := un0) (yn1 := yn1) (yn0 := yn0) (B := 4294967296) (by omega) h0)
  exact l1_eq Y s yn1 yn0 R un0 Q hYe hn1 hn0 h0 hr hq 2 _ _ k hup2 hs2.1 hs2.2.1 (by omega) (by omega)

/-- Behind normalizing: both digits. -/
theorem norm_eq (Y s u un1 un0 : Nat) (hY : Y < 18446744073709551616) (hY2 : 9223372036854775808 ≤ Y) (h1 : un1 < 4294967296) (h0 : un0 < 4294967296) (hu : u < Y) (k : Nat) (hk : 20 ≤ k) :
    bits_Div64.l0 k Y s ((Y / 4294967296 : Nat) : Int) ((Y % 4294967296 : Nat) : Int) u un1 un0 ((u / (Y / 4294967296) : Nat) : Int) ((u - u / (Y / 4294967296) * (Y / 4294967296) : Nat) : Int)
      = some (((((u * 4294967296 + un1) * 4294967296 + un0) / Y : Nat) : Int), ((((u * 4294967296 + un1) * 4294967296 + un0) % Y / 2 ^ min s 64 : Nat) : Int)) := by
  have hYe : Y = Y / 4294967296 * 4294967296 + Y % 4294967296 := by omega
  generalize hy1 : Y / 4294967296 = yn1 at *
  generalize hy0 : Y % 4294967296 = yn0 at *
  have hn1 : yn1 < 4294967296 := by omega
  have hn1' : 2147483648 ≤ yn1 := by omega
  have hn0 : yn0 < 4294967296 := by omega
  have e1 : ((u * 4294967296 + un1) * 4294967296 + un0) / Y = (u * 4294967296 + un1) / Y * 4294967296 + ((u * 4294967296 + un1) % Y * 4294967296 + un0) / Y ∧
      ((u * 4294967296 + un1) * 4294967296 + un0) % Y = ((u * 4294967296 + un1) % Y * 4294967296 + un0) % Y := by
    exact Knuth.long (u * 4294967296 + un1) un0 4294967296 Y (by omega)
  have hs := start_q u yn1 yn0 (by omega) hn1' hn0 (by omega)
  have hr : (u * 4294967296 + un1) % Y < Y := Nat.mod_lt _ (by omega)
  have hq : (u * 4294967296 + un1) / Y < 4294967296 := (Nat.div_lt_iff_lt_mul (by omega)).mpr (by
    have := Knuth.big (yn1 := yn1) (yn0 := yn0) (Nat.le_refl 4294967296) (by rw [← hYe]; exact hu) h1
    rw [← hYe] at this; exact this)
  have hup := (Knuth.start (u := u) (d := un1) (yn1 := yn1) (yn0 := yn0) (B := 4294967296) (by omega) h1)
  refine l0_eq Y s yn1 yn0 u un1 un0 _ 12 hYe hn1 hn0 h1 hu ?_ 2 _ _ k hup hs.1 hs.2.1 ?_ (by omega)
  · intro k hk
    obtain ⟨k, rfl⟩ : ∃ j, k = j + 1 := ⟨k - 1, by omega⟩
    simp only [bits_Div64.j2]
    rw [if_neg (by omega)]
    rw [rem_eq Y u un1 (by omega) hY]
    rw [e1.1, e1.2]
    exact phase2 Y s yn1 yn0 un0 _ _ k hY hYe hn1 hn1' hn0 h0 hr hq (by omega)
  · omega
theorem bitLenAux_spec : ∀ f x, x < 2 ^ f → x < 2 ^ Lib.bitLenAux f x ∧ (0 < x → 0 < Lib.bitLenAux f x ∧ 2 ^ (Lib.bitLenAux f x - 1) ≤ x) ∧ Lib.bitLenAux f x ≤ f := by
  intro f
  induction f with
  | zero => intro x h; simp [Lib.bitLenAux] at *; omega
  | succ f ih =>
    intro x h
    rw [Nat.pow_succ] at h
    simp only [Lib.bitLenAux]
    by_cases hx : x = 0
    · rw [if_pos hx]; simp [hx]
    · rw [if_neg hx]
      obtain ⟨a, b, c⟩ := ih (x / 2) (by omega)
      rw [Nat.add_comm 1, Nat.pow_succ]
      refine ⟨by omega, fun _ => ⟨by omega, ?_⟩, by omega⟩
      rw [Nat.add_sub_cancel]
      by_cases h2 : x / 2 = 0
      · rw [h2]
        have : Lib.bitLenAux f 0 = 0 := by cases f <;> simp [Lib.bitLenAux]
        rw [this]; simp; omega
      · obtain ⟨p, q⟩ := b (by omega)
        obtain ⟨n, hn⟩ : ∃ n, Lib.bitLenAux f (x / 2) = n + 1 := ⟨Lib.bitLenAux f (x / 2) - 1, by omega⟩
        rw [hn] at q ⊢
        rw [Nat.add_sub_cancel] at q
        rw [Nat.pow_succ]; omega
theorem bitLen_spec (x : Nat) (h : x < 18446744073709551616) : x < 2 ^ Lib.bitLen x ∧ (0 < x → 0 < Lib.bitLen x ∧ 2 ^ (Lib.bitLen x - 1) ≤ x) ∧ Lib.bitLen x ≤ 64 := bitLenAux_spec 64 x h

theorem andmask (x : Nat) (h : x < 18446744073709551616) : Go.bits .and .u64 (x : Int) 4294967295 = ((x % 4294967296 : Nat) : Int) := by
  have := bits_mask .u64 64 (by decide) (fun n h0 h1 => by rw [IntKind.wrap_u64]; omega) 32 (by decide) (x : Int) (by omega) (by omega)
  rw [show ((2 : Int) ^ 32 - 1) = 4294967295 by decide, show ((2 : Int) ^ 32) = 4294967296 by decide] at this
  rw [this]; omega

theorem last_eq (Y s U W k : Nat) (hY : Y < 18446744073709551616) (hY2 : 9223372036854775808 ≤ Y) (hU : U < Y) (hW : W < 18446744073709551616) (hk : 20 ≤ k) :
    (if ((Y : Int) / 4294967296) = 0 then none else bits_Div64.l0 k Y s ((Y : Int) / 4294967296) ((Y % 4294967296 : Nat) : Int) U ((W : Int) / 4294967296) ((W % 4294967296 : Nat) : Int) (IntKind.u64.wrap (Int.tdiv (U : Int) ((Y : Int) / 4294967296)))
        (IntKind.u64.wrap ((U : Int) - IntKind.u64.wrap (IntKind.u64.wrap (Int.tdiv (U : Int) ((Y : Int) / 4294967296)) * ((Y : Int) / 4294967296)))))
      = some ((((U * 18446744073709551616 + W) / Y : Nat) : Int), (((U * 18446744073709551616 + W) % Y / 2 ^ min s 64 : Nat) : Int)) := by
  rw [if_neg (by omega)]
  have eY : (Y : Int) / 4294967296 = ((Y / 4294967296 : Nat) : Int) := by omega
  have eW : (W : Int) / 4294967296 = ((W / 4294967296 : Nat) : Int) := by omega
  have hs := start_q U (Y / 4294967296) (Y % 4294967296) (by omega) (by omega) (by omega) (by omega)
  rw [eY, eW, ← Int.ofNat_tdiv, wrapn _ (by have := hs.1; omega),
    wrapz (((U / (Y / 4294967296) : Nat) : Int) * ((Y / 4294967296 : Nat) : Int)) (U / (Y / 4294967296) * (Y / 4294967296)) (by rw [Int.natCast_mul]) (by have := hs.2.2; omega),
    wrapz _ (U - U / (Y / 4294967296) * (Y / 4294967296)) (by have := hs.2.2; omega) (by omega)]
  have e : U * 18446744073709551616 + W = (U * 4294967296 + W / 4294967296) * 4294967296 + W % 4294967296 := by omega
  rw [e]
  exact norm_eq Y s U (W / 4294967296) (W % 4294967296) hY hY2 (by omega) (by omega) hU k hk

theorem div64_eq (hi lo y k : Nat) (h1 : hi < y) (hy : y < 18446744073709551616) (hlo : lo < 18446744073709551616) (hk : 20 ≤ k) :
    bits_Div64.f k hi lo y = some ((((hi * 18446744073709551616 + lo) / y : Nat) : Int), (((hi * 18446744073709551616 + lo) % y : Nat) : Int)) := by
  unfold bits_Div64.f
  rw [if_neg (by omega), if_neg (by omega)]
  by_cases h0 : hi = 0
  · rw [if_pos (by omega), h0, Nat.zero_mul, Nat.zero_add, ← Int.ofNat_tdiv, wrapn _ (Nat.lt_of_le_of_lt (Nat.div_le_self _ _) hlo), Int.ofNat_tmod]
  · rw [if_neg (by omega)]
    unfold bits_LeadingZeros64.f bits_Len64.f
    rw [if_pos (by omega), if_pos (by omega)]
    simp only [Option.bind_some, Int.toNat_natCast]
    obtain ⟨hL1, hL2, hL3⟩ := bitLen_spec y hy
    obtain ⟨hL4, hL5⟩ := hL2 (by omega)
    generalize Lib.bitLen y = L at *
    obtain ⟨s, rfl⟩ : ∃ s, L = 64 - s := ⟨64 - L, by omega⟩
    have hs : s ≤ 63 := by omega
    have w0 : wrap64 (64 - ((64 - s : Nat) : Int)) = (s : Int) := by unfold wrap64; omega
    have w1 : IntKind.u64.wrap (s : Int) = (s : Int) := wrapn s (by omega)
    have w2 : IntKind.u64.wrap (64 - (s : Int)) = ((64 - s : Nat) : Int) := wrapz _ _ (by omega) (by omega)
    rw [w0, w1, w2, if_pos (by omega), if_pos (by omega)]
    -- powers
    have p64 : 2 ^ (64 - s) * 2 ^ s = 18446744073709551616 := by rw [← Nat.pow_add]; rw [show 64 - s + s = 64 by omega]
    have p63 : 2 ^ (64 - s - 1) * 2 ^ s = 9223372036854775808 := by rw [← Nat.pow_add]; rw [show 64 - s - 1 + s = 63 by omega]
    have ps : 0 < 2 ^ s := Nat.two_pow_pos s
    have pl : 0 < 2 ^ (64 - s) := Nat.two_pow_pos _
    have hYlt : y * 2 ^ s < 18446744073709551616 := by rw [← p64]; exact Nat.mul_lt_mul_of_pos_right hL1 ps
    have hYge : 9223372036854775808 ≤ y * 2 ^ s := by rw [← p63]; exact Nat.mul_le_mul_right _ hL5
    have hhi : (hi + 1) * 2 ^ s ≤ y * 2 ^ s := Nat.mul_le_mul_right _ h1
    have hlq : lo / 2 ^ (64 - s) < 2 ^ s := by
      rw [Nat.div_lt_iff_lt_mul pl, Nat.mul_comm, p64]; exact hlo
    rw [Nat.add_mul, Nat.one_mul] at hhi
    have sh : ∀ x : Nat, shl .u64 (x : Int) (s : Int) = ((x * 2 ^ s % 18446744073709551616 : Nat) : Int) := by
      intro x
      unfold shl
      rw [IntKind.wrap_u64, show ((s : Int).toNat) = s from rfl, show IntKind.u64.bits = 64 from rfl, Nat.min_eq_left (by omega)]
      have : ((2 : Int) ^ s) = ((2 ^ s : Nat) : Int) := by simp
      rw [this, ← Int.natCast_mul]; omega
    have sr : shr .u64 (lo : Int) ((64 - s : Nat) : Int) = ((lo / 2 ^ (64 - s) : Nat) : Int) := by
      unfold shr
      rw [show (((64 - s : Nat) : Int).toNat) = 64 - s from rfl, show IntKind.u64.bits = 64 from rfl, Nat.min_eq_left (by omega)]
      simp
    rw [sh y, sh hi, sh lo, sr, Nat.mod_eq_of_lt hYlt, Nat.mod_eq_of_lt (a := hi * 2 ^ s) (by omega)]
    have hor : Go.bits .or .u64 ((hi * 2 ^ s : Nat) : Int) ((lo / 2 ^ (64 - s) : Nat) : Int) = ((hi * 2 ^ s + lo / 2 ^ (64 - s) : Nat) : Int) := by
      have hlq2 : lo / 2 ^ (64 - s) < 18446744073709551616 := Nat.lt_of_le_of_lt (Nat.div_le_self _ _) hlo
      have hhi2 : hi * 2 ^ s < 18446744073709551616 := by omega
      have hm : hi * 2 ^ s % 2 ^ s = 0 := Nat.mul_mod_left _ _
      have := bits_join .u64 64 (by decide) (fun n h0 h1 => by rw [IntKind.wrap_u64]; omega) s ((hi * 2 ^ s : Nat) : Int) ((lo / 2 ^ (64 - s) : Nat) : Int) (Int.natCast_nonneg _)
        (by exact_mod_cast hm) (by exact_mod_cast hhi2) (Int.natCast_nonneg _) (by exact_mod_cast hlq) (by exact_mod_cast hlq2)
      rw [this, Int.natCast_add]
    rw [hor, andmask _ hYlt, andmask _ (Nat.mod_lt _ (by omega))]
    -- the low word
    have hun : lo * 2 ^ s = lo / 2 ^ (64 - s) * 18446744073709551616 + lo * 2 ^ s % 18446744073709551616 := by
      have e : lo * 2 ^ s / 18446744073709551616 = lo / 2 ^ (64 - s) := by rw [← p64, Nat.mul_div_mul_right _ _ ps]
      rw [← e]; omega
    have hU : (hi * 18446744073709551616 + lo) * 2 ^ s = (hi * 2 ^ s + lo / 2 ^ (64 - s)) * 18446744073709551616 + lo * 2 ^ s % 18446744073709551616 := by
      rw [Nat.add_mul, Nat.add_mul, hun]
      have : hi * 18446744073709551616 * 2 ^ s = hi * 2 ^ s * 18446744073709551616 := by rw [Nat.mul_right_comm]
      omega
    have hfin : (hi * 18446744073709551616 + lo) / y = (hi * 18446744073709551616 + lo) * 2 ^ s / (y * 2 ^ s) ∧ (hi * 18446744073709551616 + lo) % y = (hi * 18446744073709551616 + lo) * 2 ^ s % (y * 2 ^ s) / 2 ^ min s 64 := by
      rw [Nat.mul_div_mul_right _ _ ps, Nat.mul_mod_mul_right, Nat.min_eq_left (by omega), Nat.mul_div_cancel _ ps]
      exact ⟨rfl, rfl⟩
    rw [hfin.1, hfin.2, hU]
    have hW : lo * 2 ^ s % 18446744073709551616 < 18446744073709551616 := Nat.mod_lt _ (by omega)
    exact last_eq (y * 2 ^ s) s (hi * 2 ^ s + lo / 2 ^ (64 - s)) (lo * 2 ^ s % 18446744073709551616) k hYlt hYge (by omega) hW hk

/-! ### Mean -/
def meanN (s c : Nat) : Nat := if s % c > c - s % c ∨ (s % c = c - s % c ∧ s / c % 2 = 1) then s / c + 1 else s / c
def sizeW (h l : Int) : Nat := (h * 1000000000000000000 + l).natAbs
def meanW (h l c : Int) : Int := if h < 0 then -(meanN (sizeW h l) c.toNat : Nat) else (meanN (sizeW h l) c.toNat : Nat)

theorem and1 (x : Nat) (h : x < 18446744073709551616) : Go.bits .and .u64 (x : Int) 1 = ((x % 2 : Nat) : Int) := by
  have := bits_mask .u64 64 (by decide) (fun n h0 h1 => by rw [IntKind.wrap_u64]; omega) 1 (by decide) (x : Int) (by omega) (by omega)
  rw [show ((2 : Int) ^ 1 - 1) = 1 by decide, show ((2 : Int) ^ 1) = 2 by decide] at this
  rw [this]; omega

theorem meanN_le (s c : Nat) (hc : 0 < c) (h : s ≤ c * 1000000000000000000) : meanN s c ≤ 1000000000000000000 := by
  have hdm := Nat.div_add_mod s c
  have hlt := Nat.mod_lt s hc
  have hq : s / c ≤ 1000000000000000000 := by
    have := (Nat.div_le_div_right (c := c) h)
    rwa [Nat.mul_div_cancel_left _ hc] at this
  unfold meanN
  by_cases he : s / c = 1000000000000000000
  · have : s % c = 0 := by
      rw [he] at hdm; omega
    rw [if_neg (by omega)]; omega
  · split <;> omega

theorem w64_small (M : Nat) (h : M ≤ 1000000000000000000) : wrap64 (M : Int) = M ∧ wrap64 (-(M : Int)) = -M := by
  unfold wrap64; omega

theorem mean_eq (h l c : Int) (k : Nat) (hr : right h l) (h1 : 1 ≤ c) (h2 : c ≤ 2147483648) (hs : (sizeW h l : Int) ≤ c * 1000000000000000000) (hk : 40 ≤ k) :
    wide_Mean.f k h l c = some (meanW h l c, 0) := by
  obtain ⟨k, rfl⟩ : ∃ j, k = j + 3 := ⟨k - 3, by omega⟩
  obtain ⟨c, rfl⟩ : ∃ n : Nat, c = n := ⟨c.toNat, by omega⟩
  obtain ⟨S, hS⟩ : ∃ S, S = sizeW h l := ⟨_, rfl⟩
  have eS : (if h < 0 then -(h * 1000000000000000000 + l) else h * 1000000000000000000 + l) = (S : Int) := by
    rw [hS]; unfold sizeW; obtain ⟨a, b, p, q⟩ := hr; split <;> omega
  have hm := meanN_le S c (by omega) (by rw [hS]; omega)
  have hSc : S ≤ c * 1000000000000000000 := by rw [hS]; omega
  have hq : S / c ≤ 1000000000000000000 := by
    have := (Nat.div_le_div_right (c := c) hSc)
    rwa [Nat.mul_div_cancel_left _ (by omega)] at this
  have hrlt := Nat.mod_lt S (show c > 0 by omega)
  unfold wide_Mean.f
  simp only [check_eq, Option.bind_some]
  rw [if_pos (by unfold checkW; rw [if_pos hr]), if_neg (by omega), decide_eq_false (by omega)]
  simp only [wide_Mean.j0]
  rw [if_neg (by decide), words_eq h l hr, eS]
  simp only [Option.bind_some]
  have wc : IntKind.u64.wrap (c : Int) = (c : Int) := wrapn c (by omega)
  rw [wc, if_neg (by
    have : S / 18446744073709551616 < c := by rw [Nat.div_lt_iff_lt_mul (by omega)]; omega
    omega)]
  have e1 : (S : Int) / 18446744073709551616 = ((S / 18446744073709551616 : Nat) : Int) := by omega
  have e2 : (S : Int) % 18446744073709551616 = ((S % 18446744073709551616 : Nat) : Int) := by omega
  rw [e1, e2, div64_eq _ _ c _ (by rw [Nat.div_lt_iff_lt_mul (by omega)]; omega) (by omega) (Nat.mod_lt _ (by omega)) (by omega)]
  have e3 : S / 18446744073709551616 * 18446744073709551616 + S % 18446744073709551616 = S := by omega
  rw [e3]
  simp only [Option.bind_some]
  have wr : IntKind.u64.wrap ((c : Int) - ((S % c : Nat) : Int)) = ((c - S % c : Nat) : Int) := wrapz _ _ (by omega) (by omega)
  rw [wr, and1 _ (by omega)]
  have last : ∀ q : Nat, q = meanN S c → wide_Mean.j2 (k + 1) (q : Int) h l = some (meanW h l c, 0) := by
    intro M hM
    simp only [wide_Mean.j2]
    rw [if_neg (by omega)]
    unfold meanW
    rw [← hS, show ((c : Int).toNat) = c from rfl, ← hM]
    have hM2 := w64_small M (hM ▸ hm)
    rw [hM2.1, hM2.2]
    split <;> rfl
  have wq : IntKind.u64.wrap (((S / c : Nat) : Int) + 1) = ((S / c + 1 : Nat) : Int) := wrapz _ _ (by omega) (by omega)
  have yes : (S % c > c - S % c ∨ (S % c = c - S % c ∧ S / c % 2 = 1)) → wide_Mean.j1 (k + 2) ((S / c : Nat) : Int) true h l = some (meanW h l c, 0) := by
    intro hy
    simp only [wide_Mean.j1]
    rw [if_pos trivial, wq]
    exact last _ (by unfold meanN; rw [if_pos hy])
  have no : ¬ (S % c > c - S % c ∨ (S % c = c - S % c ∧ S / c % 2 = 1)) → wide_Mean.j1 (k + 2) ((S / c : Nat) : Int) false h l = some (meanW h l c, 0) := by
    intro hy
    simp only [wide_Mean.j1]
    rw [if_neg (by decide)]
    exact last _ (by unfold meanN; rw [if_neg hy])
  by_cases c1 : S % c > c - S % c
  · rw [if_pos (by omega)]; exact yes (.inl c1)
  · rw [if_neg (by omega)]
    by_cases c2 : S % c = c - S % c
    · rw [if_pos (by omega)]
      by_cases c3 : S / c % 2 = 1
      · rw [c3]; exact yes (.inr ⟨c2, c3⟩)
      · rw [show S / c % 2 = 0 by omega]; exact no (by omega)
    · rw [if_neg (by omega)]; exact no (by omega)

def meanO (h l c : Int) : Option (Int × Int) := if right h l ∧ 1 ≤ c ∧ c ≤ 2147483648 ∧ (sizeW h l : Int) ≤ c * 1000000000000000000 then some (meanW h l c, 0) else none
theorem meanO_eq {h l c : Int} {r : Int × Int} (e : meanO h l c = some r) : wide_Mean.f 100 h l c = some r := by
  unfold meanO at e
  split at e
  · rename_i hc
    rw [← e]
    exact mean_eq h l c 100 hc.1 hc.2.1 hc.2.2.1 hc.2.2.2 (by decide)
  · exact absurd e (by simp)

theorem lives_eq (k : Nat) (hk : 40 ≤ k) : foolscaplaw03_lives.f k = some true := by
  obtain ⟨k, rfl⟩ : ∃ j, k = j + 1 := ⟨k - 1, by omega⟩
  unfold foolscaplaw03_lives.f
  simp only [add_eq, sub_eq, Option.bind_some]
  rw [show addW 0 0 1000000000000000000 = (1, 0, 0) by decide, show subW 0 0 1 = (-1, 999999999999999999, 0) by decide]
  simp only [total_eq, Option.bind_some]
  rw [show totalW (-1) 999999999999999999 = (-1, 0) by decide, show totalW 1 1 = (0, 3) by decide,
    mean_eq 0 5 2 _ (by decide) (by decide) (by decide) (by decide) hk, show meanW 0 5 2 = 2 by decide]
  rfl

/-! ### the references -/
theorem made1_eq (k : Nat) (h l : Int) (h0 : 0 ≤ l) (h1 : l ≤ 2000000000000000000) (h2 : -4294967296 ≤ h) (h3 : h ≤ 4294967296) (hk : 5 ≤ k) :
    foolscapref03_made.l1 k h l = some (madeW h l) := by
  obtain ⟨k, rfl⟩ : ∃ j, k = j + 3 := ⟨k - 3, by omega⟩
  have fin : ∀ j h' l', 0 ≤ l' → l' < 1000000000000000000 → h' = h + l / 1000000000000000000 → l' = l % 1000000000000000000 → foolscapref03_made.l1 (j + 1) h' l' = some (madeW h l) := by
    intro j h' l' a b e1 e2
    simp only [foolscapref03_made.l1, right_eq, Option.bind_some]
    rw [if_neg (by omega)]
    unfold madeW
    by_cases hc : -2147483648 ≤ h + l / 1000000000000000000 ∧ h + l / 1000000000000000000 < 2147483648
    · rw [if_pos hc, if_pos (by rw [decide_eq_true_iff]; unfold right; omega), e1, e2]
    · rw [if_neg hc, if_neg (by rw [decide_eq_true_iff]; unfold right; omega)]
  by_cases c1 : l ≥ 1000000000000000000
  · rw [foolscapref03_made.l1, if_pos c1]
    have w1 : wrap64 (h + 1) = h + 1 := by unfold wrap64; omega
    have w2 : wrap64 (l - 1000000000000000000) = l - 1000000000000000000 := by unfold wrap64; omega
    rw [w1, w2]
    by_cases c2 : l - 1000000000000000000 ≥ 1000000000000000000
    · rw [foolscapref03_made.l1, if_pos c2]
      have w3 : wrap64 (h + 1 + 1) = h + 1 + 1 := by unfold wrap64; omega
      have w4 : wrap64 (l - 1000000000000000000 - 1000000000000000000) = l - 1000000000000000000 - 1000000000000000000 := by unfold wrap64; omega
      rw [w3, w4]
      exact fin k _ _ (by omega) (by omega) (by omega) (by omega)
    · exact fin (k + 1) _ _ (by omega) (by omega) (by omega) (by omega)
  · exact fin (k + 2) _ _ (by omega) (by omega) (by omega) (by omega)
theorem made_shift (h l : Int) : madeW (h - 1) (l + 1000000000000000000) = madeW h l := by
  unfold madeW
  have e1 : h - 1 + (l + 1000000000000000000) / 1000000000000000000 = h + l / 1000000000000000000 := by omega
  have e2 : (l + 1000000000000000000) % 1000000000000000000 = l % 1000000000000000000 := by omega
  rw [e1, e2]
theorem made_eq (k : Nat) (h l : Int) (h0 : -1000000000000000000 ≤ l) (h1 : l ≤ 2000000000000000000) (h2 : -4294967296 ≤ h) (h3 : h ≤ 4294967295) (hk : 10 ≤ k) :
    foolscapref03_made.f k h l = some (madeW h l) := by
  obtain ⟨k, rfl⟩ : ∃ j, k = j + 2 := ⟨k - 2, by omega⟩
  unfold foolscapref03_made.f
  rw [foolscapref03_made.l0]
  by_cases c : l < 0
  · rw [if_pos c]
    have w1 : wrap64 (h - 1) = h - 1 := by unfold wrap64; omega
    have w2 : wrap64 (l + 1000000000000000000) = l + 1000000000000000000 := by unfold wrap64; omega
    rw [w1, w2, foolscapref03_made.l0, if_neg (by omega), ← made_shift h l]
    by_cases hb : -4294967296 ≤ h - 1
    · exact made1_eq k _ _ (by omega) (by omega) hb (by omega) (by omega)
    · obtain ⟨k, rfl⟩ : ∃ j, k = j + 2 := ⟨k - 2, by omega⟩
      have e : l + 1000000000000000000 < 1000000000000000000 := by omega
      rw [foolscapref03_made.l1, if_neg (by omega), right_eq]
      simp only [Option.bind_some]
      unfold madeW
      rw [if_neg (by rw [decide_eq_true_iff]; unfold right; omega), if_neg (by omega)]
  · rw [if_neg c]
    exact made1_eq (k + 1) _ _ (by omega) h1 h2 (by omega) (by omega)
theorem radd_eq (k : Nat) (h l n : Int) (hk : 10 ≤ k) : foolscapref03_Add.f k h l n = some (addW h l n) := by
  unfold foolscapref03_Add.f
  simp only [right_eq, fits1_eq, Option.bind_some]
  unfold addW
  by_cases hr : right h l
  · by_cases hf : fits n
    · have w : wrap64 (l + n) = l + n := by unfold wrap64; omega
      rw [if_pos (by simpa using hr), if_pos (by simpa using hf), w, made_eq _ _ _ (by omega) (by omega) (by omega) (by omega) hk, if_pos ⟨hr, hf⟩]; rfl
    · rw [if_pos (by simpa using hr), if_neg (by simpa using hf), if_neg (fun h => hf h.2)]
  · rw [if_neg (by simpa using hr), if_neg (fun h => hr h.1)]
theorem rsub_eq (k : Nat) (h l n : Int) (hk : 10 ≤ k) : foolscapref03_Sub.f k h l n = some (subW h l n) := by
  unfold foolscapref03_Sub.f
  simp only [right_eq, fits1_eq, Option.bind_some]
  unfold subW
  by_cases hr : right h l
  · by_cases hf : fits n
    · have w : wrap64 (l - n) = l - n := by unfold wrap64; omega
      rw [if_pos (by simpa using hr), if_pos (by simpa using hf), w, made_eq _ _ _ (by omega) (by omega) (by omega) (by omega) hk, if_pos ⟨hr, hf⟩]; rfl
    · rw [if_pos (by simpa using hr), if_neg (by simpa using hf), if_neg (fun h => hf h.2)]
  · rw [if_neg (by simpa using hr), if_neg (fun h => hr h.1)]
theorem rjoin_eq (k : Nat) (h l h2 l2 : Int) (hk : 10 ≤ k) : foolscapref03_Join.f k h l h2 l2 = some (joinW h l h2 l2) := by
  unfold foolscapref03_Join.f
  simp only [right_eq, Option.bind_some]
  unfold joinW
  by_cases hr : right h l
  · by_cases hf : right h2 l2
    · have w : wrap64 (l + l2) = l + l2 := by unfold wrap64; omega
      have w' : wrap64 (h + h2) = h + h2 := by unfold wrap64; omega
      rw [if_pos (by simpa using hr), if_pos (by simpa using hf), w, w', made_eq _ _ _ (by omega) (by omega) (by omega) (by omega) hk, if_pos ⟨hr, hf⟩]; rfl
    · rw [if_pos (by simpa using hr), if_neg (by simpa using hf), if_neg (fun h => hf h.2)]
  · rw [if_neg (by simpa using hr), if_neg (fun h => hr h.1)]
theorem rcheck_eq (h l : Int) : foolscapref03_Check.f h l = some (checkW h l) := by
  unfold foolscapref03_Check.f checkW
  simp only [right_eq, Option.bind_some]
  by_cases hr : right h l
  · rw [if_pos (by simpa using hr), if_pos hr]
  · rw [if_neg (by simpa using hr), if_neg hr]
theorem rcompare_eq (k : Nat) (h l h2 l2 : Int) (hk : 10 ≤ k) : foolscapref03_Compare.f k h l h2 l2 = some (compareW h l h2 l2) := by
  obtain ⟨k, rfl⟩ : ∃ j, k = j + 1 := ⟨k - 1, by omega⟩
  unfold foolscapref03_Compare.f
  simp only [right_eq, Option.bind_some]
  unfold compareW
  by_cases hr : right h l
  · rw [if_pos (by simpa using hr)]
    by_cases hr2 : right h2 l2
    · rw [if_pos ⟨hr, hr2⟩, decide_eq_true hr2]
      simp only [foolscapref03_Compare.j0]
      rw [if_neg (by decide)]
      by_cases he : h = h2 ∧ l = l2
      · obtain ⟨rfl, rfl⟩ := he
        simp
      · rw [if_neg (by simpa using he)]
        repeat' split
        all_goals first | rfl | omega
    · rw [decide_eq_false hr2, if_neg (fun x => hr2 x.2)]
      rfl
  · rw [if_neg (by simpa using hr), if_neg (fun x => hr x.1)]
    rfl
/-! ### numbers -/
def naddN (a b : Int) : Int × Int := if fits a ∧ fits b then (if fits (a + b) then (a + b, 0) else (0, 3)) else (0, 2)
theorem nadd_eq (a b : Int) : num_Add.f a b = some (naddN a b) := by
  unfold num_Add.f num_told.f
  simp only [fits_eq, Option.bind_some]
  unfold naddN
  by_cases ha : fits a
  · by_cases hb : fits b
    · have w : wrap64 (a + b) = a + b := by unfold wrap64; omega
      rw [if_pos (by simpa using ha), if_pos (by simpa using hb), w, if_pos (show fits a ∧ fits b from ⟨ha, hb⟩)]
      by_cases hc : fits (a + b)
      · rw [if_pos (show decide (fits (a + b)) = true from decide_eq_true hc), if_pos hc]; rfl
      · rw [if_neg (show ¬ decide (fits (a + b)) = true by rw [decide_eq_true_iff]; exact hc), if_neg hc]; rfl
    · rw [if_pos (by simpa using ha), if_neg (by simpa using hb), if_neg (fun h => hb h.2)]
  · rw [if_neg (by simpa using ha), if_neg (fun h => ha h.1)]

/-! ### sums by their values -/
abbrev inW (s : Int) : Prop := -2147483648000000000000000000 ≤ s ∧ s < 2147483648000000000000000000
abbrev hiW (s : Int) : Int := s / 1000000000000000000
abbrev loW (s : Int) : Int := s % 1000000000000000000
theorem right_rep (s : Int) (h : inW s) : right (hiW s) (loW s) := by unfold right hiW loW inW at *; omega
theorem rep_of (h l : Int) (hr : right h l) : inW (h * 1000000000000000000 + l) ∧ hiW (h * 1000000000000000000 + l) = h ∧ loW (h * 1000000000000000000 + l) = l := by
  unfold right hiW loW inW at *; omega
theorem rep_inj {s t : Int} (h1 : hiW s = hiW t) (h2 : loW s = loW t) : s = t := by unfold hiW loW at *; omega
theorem madeW_rep (h l : Int) : madeW h l = if inW (h * 1000000000000000000 + l) then (hiW (h * 1000000000000000000 + l), loW (h * 1000000000000000000 + l), 0) else (0, 0, 3) := by
  unfold madeW
  have e1 : hiW (h * 1000000000000000000 + l) = h + l / 1000000000000000000 := by unfold hiW; omega
  have e2 : loW (h * 1000000000000000000 + l) = l % 1000000000000000000 := by unfold loW; omega
  rw [e1, e2]
  by_cases c : inW (h * 1000000000000000000 + l)
  · rw [if_pos c, if_pos (by unfold inW at c; omega)]
  · rw [if_neg c, if_neg (by unfold inW at c; omega)]
theorem addW_rep (s n : Int) (h : inW s) : addW (hiW s) (loW s) n = if fits n then (if inW (s + n) then (hiW (s + n), loW (s + n), 0) else (0, 0, 3)) else (0, 0, 2) := by
  unfold addW
  have hr := right_rep s h
  have e : hiW s * 1000000000000000000 + (loW s + n) = s + n := by unfold hiW loW; omega
  by_cases c : fits n
  · rw [if_pos ⟨hr, c⟩, if_pos c, madeW_rep, e]
  · rw [if_neg (fun x => c x.2), if_neg c]
theorem subW_rep (s n : Int) (h : inW s) : subW (hiW s) (loW s) n = if fits n then (if inW (s - n) then (hiW (s - n), loW (s - n), 0) else (0, 0, 3)) else (0, 0, 2) := by
  unfold subW
  have hr := right_rep s h
  have e : hiW s * 1000000000000000000 + (loW s - n) = s - n := by unfold hiW loW; omega
  by_cases c : fits n
  · rw [if_pos ⟨hr, c⟩, if_pos c, madeW_rep, e]
  · rw [if_neg (fun x => c x.2), if_neg c]
theorem totalW_rep (s : Int) (h : inW s) : totalW (hiW s) (loW s) = if fits s then (s, 0) else (0, 3) := by
  unfold totalW
  rw [if_pos (right_rep s h)]
  have e : hiW s * 1000000000000000000 + loW s = s := by unfold hiW loW; omega
  rw [e]
  by_cases c : fits s
  · rw [if_pos c, if_neg (by unfold fits hiW loW at *; omega)]
  · by_cases c2 : s = 1000000000000000000 ∨ (-2000000000000000000 < s ∧ s < 2000000000000000000)
    · by_cases c3 : hiW s < -1 ∨ 1 < hiW s ∨ (hiW s = 1 ∧ loW s ≠ 0)
      · rw [if_pos c3, if_neg c]
      · exfalso; unfold fits hiW loW at *; omega
    · rw [if_neg c, if_pos (by unfold fits hiW loW at *; omega)]
theorem compareW_rep (s t : Int) (h : inW s) (h' : inW t) : compareW (hiW s) (loW s) (hiW t) (loW t) = if s < t then (-1, 0) else if t < s then (1, 0) else (0, 0) := by
  unfold compareW
  rw [if_pos ⟨right_rep s h, right_rep t h'⟩]
  unfold hiW loW
  repeat' split
  all_goals first | rfl | omega
theorem meanO_rep (s c : Int) (h : inW s) (h1 : 1 ≤ c) (h2 : c ≤ 2147483648) (h3 : -(c * 1000000000000000000) ≤ s) (h4 : s ≤ c * 1000000000000000000) :
    meanO (hiW s) (loW s) c = some (if s < 0 then -((meanN s.natAbs c.toNat : Nat) : Int) else ((meanN s.natAbs c.toNat : Nat) : Int), 0) := by
  unfold meanO meanW sizeW
  have e : hiW s * 1000000000000000000 + loW s = s := by unfold hiW loW; omega
  rw [e, if_pos ⟨right_rep s h, h1, h2, by omega⟩]
  by_cases c : s < 0
  · rw [if_pos c, if_pos (by unfold hiW; omega)]
  · rw [if_neg c, if_neg (by unfold hiW; omega)]
end Go.Proofs.Ytbohfpjmglfjeaa.WPure
