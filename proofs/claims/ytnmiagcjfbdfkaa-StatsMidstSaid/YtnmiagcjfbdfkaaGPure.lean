/- What the printed functions of layers wide and stats come to, in plain numbers. -/
import Derived.Test.YtnmiagcjfbdfkaaPGx
import Derived.Laws.BitsLemmas
import Derived.Laws.Bits64
set_option linter.unusedVariables false
set_option linter.unusedSimpArgs false

namespace Go.Proofs.Ytnmiagcjfbdfkaa.Knuth

/-- What the correcting loop keeps: q yn1 + r = u, and the true quotient is at most q. -/
structure Inv (B u d yn1 yn0 q r : Nat) : Prop where
  sum : q * yn1 + r = u
  up : u * B + d < (q + 1) * (yn1 * B + yn0)

theorem times_y (B q yn1 yn0 : Nat) : q * (yn1 * B + yn0) = (q * yn1) * B + q * yn0 := by
  rw [Nat.mul_add, Nat.mul_assoc]

theorem test_iff {B u d yn1 yn0 q r : Nat} (h : q * yn1 + r = u) : q * yn0 > B * r + d ↔ u * B + d < q * (yn1 * B + yn0) := by
  rw [times_y, ← h, Nat.add_mul]
  have : r * B = B * r := Nat.mul_comm _ _
  omega

theorem quot {B u d yn1 yn0 q r : Nat} (h : Inv B u d yn1 yn0 q r) (h1 : q * (yn1 * B + yn0) ≤ u * B + d) : (u * B + d) / (yn1 * B + yn0) = q :=
  Nat.div_eq_of_lt_le h1 h.up

theorem quot_of_le {B u d yn1 yn0 q r : Nat} (h : Inv B u d yn1 yn0 q r) (h1 : q ≤ (u * B + d) / (yn1 * B + yn0)) : (u * B + d) / (yn1 * B + yn0) = q :=
  quot h (Nat.le_trans (Nat.mul_le_mul_right _ h1) (Nat.div_mul_le_self _ _))

/-- Behind the loop by its test. -/
theorem done_test {B u d yn1 yn0 q r : Nat} (h : Inv B u d yn1 yn0 q r) (ht : ¬ q * yn0 > B * r + d) : (u * B + d) / (yn1 * B + yn0) = q :=
  quot h (by have := (not_congr (test_iff (d := d) (yn0 := yn0) (B := B) h.sum)).mp ht; omega)

/-- Behind the loop by its break. -/
theorem done_break {B u d yn1 yn0 q r : Nat} (h : Inv B u d yn1 yn0 q r) (hr : B ≤ r) (hq : q ≤ B) (h0 : yn0 ≤ B) : (u * B + d) / (yn1 * B + yn0) = q :=
  quot h (by
    rw [times_y, ← h.sum, Nat.add_mul]
    have h1 : q * yn0 ≤ B * B := Nat.mul_le_mul hq h0
    have h2 : B * B ≤ r * B := Nat.mul_le_mul hr (Nat.le_refl _)
    omega)

theorem next {B u d yn1 yn0 q r : Nat} (h : Inv B u d yn1 yn0 (q + 1) r) (ht : u * B + d < (q + 1) * (yn1 * B + yn0)) : Inv B u d yn1 yn0 q (r + yn1) :=
  ⟨by have := h.sum; rw [Nat.succ_mul] at this; omega, ht⟩

theorem big {B u d yn1 yn0 q : Nat} (hq : B ≤ q) (hu : u < yn1 * B + yn0) (hd : d < B) : u * B + d < q * (yn1 * B + yn0) := by
  have h1 : (u + 1) * B ≤ (yn1 * B + yn0) * q := Nat.mul_le_mul hu hq
  rw [Nat.add_mul] at h1
  rw [Nat.mul_comm q]
  omega

theorem start {B u d yn1 yn0 : Nat} (h1 : 0 < yn1) (hd : d < B) : Inv B u d yn1 yn0 (u / yn1) (u - u / yn1 * yn1) := by
  have hle : u / yn1 * yn1 ≤ u := Nat.div_mul_le_self _ _
  refine ⟨by omega, ?_⟩
  have hlt : u < (u / yn1 + 1) * yn1 := by
    have := Nat.lt_div_mul_add (a := u) h1
    rw [Nat.add_mul]; omega
  have h2 : (u + 1) * B ≤ ((u / yn1 + 1) * yn1) * B := Nat.mul_le_mul hlt (Nat.le_refl _)
  rw [times_y]
  rw [Nat.add_mul] at h2
  have : 0 ≤ (u / yn1 + 1) * yn0 := Nat.zero_le _
  omega

theorem start_le {B u yn1 yn0 : Nat} (h1 : 0 < yn1) (hu : u < yn1 * B + yn0) (h0 : yn0 < 2 * yn1) : u / yn1 ≤ B + 1 := by
  have : u < (B + 2) * yn1 := by
    rw [Nat.add_mul, Nat.mul_comm B]; omega
  have := (Nat.div_lt_iff_lt_mul h1).mpr this
  omega
theorem long (A d B Y : Nat) (hY : 0 < Y) : (A * B + d) / Y = A / Y * B + (A % Y * B + d) / Y ∧ (A * B + d) % Y = (A % Y * B + d) % Y := by
  have hdm := Nat.div_add_mod A Y
  generalize A / Y = q at *
  generalize A % Y = r at *
  have : A * B + d = (r * B + d) + Y * (q * B) := by
    rw [← hdm, Nat.add_mul, Nat.mul_assoc]; omega
  rw [this, Nat.add_mul_div_left _ _ hY, Nat.add_mul_mod_self_left]
  exact ⟨by omega, rfl⟩
end Go.Proofs.Ytnmiagcjfbdfkaa.Knuth

namespace Go.Proofs.Ytnmiagcjfbdfkaa.WPure
open Go.RowKit Go.Proofs.Ytnmiagcjfbdfkaa Go.Proofs.Ytnmiagcjfbdfkaa.PG Go.Proofs.YtnmiagcjfbdfkaaW.PrintWords Go.Proofs.YtnmiagcjfbdfkaaW.PrintLast Go.Proofs.YtnmiagcjfbdfkaaW.PrintMore

/-! ### sums: what they come to -/
abbrev right (h l : Int) : Prop := 0 ≤ l ∧ l < 1000000000000000000 ∧ -2147483648 ≤ h ∧ h < 2147483648
abbrev fits (n : Int) : Prop := -1000000000000000000 ≤ n ∧ n ≤ 1000000000000000000
def madeW (h l : Int) : Int × Int × Int :=
  if -2147483648 ≤ h + l / 1000000000000000000 ∧ h + l / 1000000000000000000 < 2147483648 then (h + l / 1000000000000000000, l % 1000000000000000000, 0) else (0, 0, 3)
def checkW (h l : Int) : Int := if right h l then 0 else 2
def addW (h l n : Int) : Int × Int × Int := if right h l ∧ fits n then madeW h (l + n) else (0, 0, 2)
def subW (h l n : Int) : Int × Int × Int := if right h l ∧ fits n then madeW h (l - n) else (0, 0, 2)
def joinW (h l h2 l2 : Int) : Int × Int × Int := if right h l ∧ right h2 l2 then madeW (h + h2) (l + l2) else (0, 0, 2)
def totalW (h l : Int) : Int × Int := if right h l then (if h < -1 ∨ 1 < h ∨ (h = 1 ∧ l ≠ 0) then (0, 3) else (h * 1000000000000000000 + l, 0)) else (0, 2)
def compareW (h l h2 l2 : Int) : Int × Int :=
  if right h l ∧ right h2 l2 then (if h < h2 then (-1, 0) else if h2 < h then (1, 0) else if l < l2 then (-1, 0) else if l2 < l then (1, 0) else (0, 0)) else (0, 2)

theorem check_eq (h l : Int) : wide_Check.f h l = some (checkW h l) := by
  unfold wide_Check.f checkW right
  repeat' split
  all_goals first | rfl | omega
theorem fits_eq (n : Int) : num_Fits.f n = some (decide (fits n)) := by
  unfold num_Fits.f fits
  split
  · congr 1; rw [decide_eq_decide]; omega
  · congr 1; symm; rw [decide_eq_false_iff_not]; omega
theorem tq (l : Int) (h0 : -1000000000000000000 ≤ l) (h1 : l ≤ 2000000000000000000) :
    (0 ≤ l ∧ Int.tdiv l 1000000000000000000 = l / 1000000000000000000 ∧ Int.tmod l 1000000000000000000 = l % 1000000000000000000) ∨
    (l < 0 ∧ Int.tdiv l 1000000000000000000 = -((-l) / 1000000000000000000) ∧ Int.tmod l 1000000000000000000 = -((-l) % 1000000000000000000)) := by
  by_cases h : 0 ≤ l
  · exact .inl ⟨h, Int.tdiv_eq_ediv_of_nonneg h, Int.tmod_eq_emod_of_nonneg h⟩
  · refine .inr ⟨by omega, ?_, ?_⟩
    · have : l = -(-l) := by omega
      rw [this, Int.neg_tdiv, Int.neg_neg, Int.tdiv_eq_ediv_of_nonneg (by omega)]
    · have : l = -(-l) := by omega
      rw [this, Int.neg_tmod, Int.neg_neg, Int.tmod_eq_emod_of_nonneg (by omega)]

theorem carried_eq (k : Nat) (h l : Int) (h0 : -1000000000000000000 ≤ l) (h1 : l ≤ 2000000000000000000) (h2 : -4294967296 ≤ h) (h3 : h ≤ 4294967296) :
    wide_carried.f (k + 1) h l = some (madeW h l) := by
  have key : ∀ h' l', h' = h + l / 1000000000000000000 → l' = l % 1000000000000000000 → wide_carried.j0 (k + 1) h' l' = some (madeW h l) := by
    intro h' l' e1 e2
    simp only [wide_carried.j0, check_eq, Option.bind_some]
    subst e1 e2
    unfold checkW madeW right
    by_cases hc : -2147483648 ≤ h + l / 1000000000000000000 ∧ h + l / 1000000000000000000 < 2147483648
    · rw [if_pos hc, if_pos (by omega)]
    · rw [if_neg hc, if_neg (by omega)]
  unfold wide_carried.f
  rcases tq l h0 h1 with ⟨ha, e1, e2⟩ | ⟨ha, e1, e2⟩
  · rw [e1, e2, if_neg (by omega)]
    have w1 : wrap64 (l / 1000000000000000000) = l / 1000000000000000000 := by unfold wrap64; omega
    rw [w1]
    have w2 : wrap64 (h + l / 1000000000000000000) = h + l / 1000000000000000000 := by unfold wrap64; omega
    rw [w2]
    exact key _ _ rfl rfl
  · rw [e1, e2]
    have w1 : wrap64 (-((-l) / 1000000000000000000)) = -((-l) / 1000000000000000000) := by unfold wrap64; omega
    rw [w1]
    have w2 : wrap64 (h + -((-l) / 1000000000000000000)) = h + -((-l) / 1000000000000000000) := by unfold wrap64; omega
    rw [w2]
    by_cases hz : -((-l) % 1000000000000000000) < 0
    · rw [if_pos hz]
      exact key _ _ (by unfold wrap64; omega) (by unfold wrap64; omega)
    · rw [if_neg hz]
      exact key _ _ (by omega) (by omega)
theorem add_eq (k : Nat) (h l n : Int) : wide_Add.f (k + 1) h l n = some (addW h l n) := by
  unfold wide_Add.f
  simp only [check_eq, fits_eq, Option.bind_some]
  unfold checkW addW
  by_cases hr : right h l
  · by_cases hf : fits n
    · have w : wrap64 (l + n) = l + n := by unfold wrap64; omega
      rw [if_pos (if_pos hr), if_pos (by simpa using hf), w, carried_eq _ _ _ (by omega) (by omega) (by omega) (by omega), if_pos ⟨hr, hf⟩]; rfl
    · rw [if_pos (if_pos hr), if_neg (by simpa using hf), if_neg (fun h => hf h.2)]
  · rw [if_neg (by rw [if_neg hr]; decide), if_neg (fun h => hr h.1)]
theorem total_eq (h l : Int) : wide_Total.f h l = some (totalW h l) := by
  unfold wide_Total.f
  simp only [check_eq, Option.bind_some]
  unfold checkW totalW
  by_cases hr : right h l
  · rw [if_pos (if_pos hr), if_pos hr]
    by_cases hc : h < -1 ∨ 1 < h ∨ (h = 1 ∧ l ≠ 0)
    · rw [if_pos hc]
      repeat' split
      all_goals first | rfl | omega
    · rw [if_neg hc]
      have w : wrap64 (wrap64 (h * 1000000000000000000) + l) = h * 1000000000000000000 + l := by unfold wrap64; omega
      rw [w]
      repeat' split
      all_goals first | rfl | omega
  · rw [if_neg (by rw [if_neg hr]; decide), if_neg hr]

/-! ### Compare -/
/-! ### words of two -/
theorem words_sub (m l hi lo : Int) (hm : m = 18446744073709551616 * hi + lo) (h0 : 0 ≤ lo) (h1 : lo < 18446744073709551616) (h2 : 0 ≤ l) (h3 : l < 1000000000000000000) (h4 : l ≤ m) (h5 : hi < 4294967296) :
    (hi - ent_sub64c lo l) % 18446744073709551616 = (m - l) / 18446744073709551616 ∧ ent_sub64 lo l = (m - l) % 18446744073709551616 := by
  unfold ent_sub64 ent_sub64c
  split <;> omega
theorem words_add (m l hi lo : Int) (hm : m = 18446744073709551616 * hi + lo) (h0 : 0 ≤ lo) (h1 : lo < 18446744073709551616) (h2 : 0 ≤ l) (h3 : l < 1000000000000000000) (h4 : 0 ≤ hi) (h5 : hi < 4294967296) :
    (hi + ent_add64c lo l) % 18446744073709551616 = (m + l) / 18446744073709551616 ∧ ent_add64 lo l = (m + l) % 18446744073709551616 := by
  unfold ent_add64 ent_add64c
  omega
theorem words_eq (h l : Int) (hr : right h l) :
    wide_words.f h l = some ((if h < 0 then -(h * 1000000000000000000 + l) else h * 1000000000000000000 + l) / 18446744073709551616, (if h < 0 then -(h * 1000000000000000000 + l) else h * 1000000000000000000 + l) % 18446744073709551616) := by
  obtain ⟨h0, h1, h2, h3⟩ := hr
  have m : IntKind.u64.wrap (mx h (wrap64 (-h))) = if h < 0 then -h else h := by
    rw [IntKind.wrap_u64]; unfold mx wrap64; split <;> split <;> omega
  have wl : IntKind.u64.wrap l = l := by rw [IntKind.wrap_u64]; omega
  unfold wide_words.f
  rw [m, wl]
  unfold bits_Mul64.f
  rw [if_pos (by split <;> omega), if_pos (by split <;> omega), if_pos (by omega), if_pos (by omega)]
  simp only [Option.bind_some]
  by_cases hn : h < 0
  · simp only [if_pos hn]
    have e := words_sub (-h * 1000000000000000000) l (-h * 1000000000000000000 / 18446744073709551616) (-h * 1000000000000000000 % 18446744073709551616) (by omega) (by omega) (by omega) h0 h1 (by omega) (by omega)
    rw [IntKind.wrap_u64, e.1, e.2, show -h * 1000000000000000000 - l = -(h * 1000000000000000000 + l) by omega]
  · simp only [if_neg hn]
    have e := words_add (h * 1000000000000000000) l (h * 1000000000000000000 / 18446744073709551616) (h * 1000000000000000000 % 18446744073709551616) (by omega) (by omega) (by omega) h0 h1 (by omega) (by omega)
    rw [IntKind.wrap_u64, e.1, e.2]

theorem wrapn (n : Nat) (h : n < 18446744073709551616) : IntKind.u64.wrap (n : Int) = n := by rw [IntKind.wrap_u64]; omega
theorem wrapz (z : Int) (n : Nat) (e : z = n) (h : n < 18446744073709551616) : IntKind.u64.wrap z = n := by rw [e]; exact wrapn n h

theorem l0_eq (Y s yn1 yn0 u d un0 : Nat) (R : Int × Int) (n : Nat)
    (hY : Y = yn1 * 4294967296 + yn0) (h1 : yn1 < 4294967296) (h0 : yn0 < 4294967296) (hd : d < 4294967296) (hu : u < Y)
    (hk : ∀ k, n ≤ k → bits_Div64.j2 k Y s yn1 yn0 u d un0 (((u * 4294967296 + d) / Y : Nat) : Int) = some R) :
    ∀ m q r k, Knuth.Inv 4294967296 u d yn1 yn0 q r → q ≤ 4294967296 + 1 → r < 4294967296 → 4294967296 ≤ r + m * yn1 → n + 2 * m + 2 ≤ k →
      bits_Div64.l0 k Y s yn1 yn0 u d un0 q r = some R := by
  intro m
  induction m with
  | zero =>
    intro q r k hi hq hr hm hkk
    omega
  | succ m ih =>
    intro q r k hi hq hr hm hkk
    obtain ⟨k, rfl⟩ : ∃ j, k = j + 2 := ⟨k - 2, by omega⟩
    -- the body, once the test is decided
    have body : u * 4294967296 + d < q * Y → bits_Div64.j1 (k + 1) Y s yn1 yn0 u d un0 q r true = some R := by
      intro ht
      obtain ⟨q, rfl⟩ : ∃ j, q = j + 1 := by
        refine ⟨q - 1, ?_⟩
        rcases Nat.eq_zero_or_pos q with h | h
        · subst h; simp at ht
        · omega
      have hi' := Knuth.next hi (by rw [← hY]; exact ht)
      have hlt : (u * 4294967296 + d) / Y < q + 1 := (Nat.div_lt_iff_lt_mul (by omega)).mpr ht
      simp only [bits_Div64.j1]
      rw [if_pos trivial, wrapz _ (r + yn1) (by omega) (by omega), wrapz (((q + 1 : Nat) : Int) - 1) q (by omega) (by omega)]
      by_cases hb : 4294967296 ≤ r + yn1
      · rw [if_pos (by omega)]
        have hQ := Knuth.done_break hi' hb (by omega) (by omega)
        rw [← hY] at hQ
        rw [← hQ]
        exact hk _ (by omega)
      · rw [if_neg (by omega)]
        exact ih q (r + yn1) k hi' (by omega) (by omega) (by rw [Nat.succ_mul] at hm; omega) (by omega)
    simp only [bits_Div64.l0]
    by_cases hb : 4294967296 ≤ q
    · rw [if_pos (by omega)]
      have := Knuth.big (yn1 := yn1) (yn0 := yn0) hb (by rw [← hY]; exact hu) hd
      exact body (by rw [hY]; exact this)
    · rw [if_neg (by omega)]
      have a1 : q * yn0 < 18446744073709551616 := by
        have : q * yn0 ≤ (4294967296 - 1) * (4294967296 - 1) := Nat.mul_le_mul (by omega) (by omega)
        omega
      rw [wrapz _ (q * yn0) (Int.natCast_mul q yn0).symm a1, wrapz (4294967296 * (r : Int)) (4294967296 * r) (by omega) (by omega), wrapz _ (4294967296 * r + d) (by omega) (by omega)]
      by_cases ht : q * yn0 > 4294967296 * r + d
      · rw [decide_eq_true (by omega)]
        rw [Knuth.test_iff hi.sum, ← hY] at ht
        exact body ht
      · rw [decide_eq_false (by omega)]
        simp only [bits_Div64.j1]
        have hQ := Knuth.done_test hi ht
        rw [← hY] at hQ
        rw [if_neg (by decide), ← hQ]
        exact hk _ (by omega)

theorem rem_eq (Y u d : Nat) (hY0 : 0 < Y) (hY : Y < 18446744073709551616) :
    IntKind.u64.wrap (IntKind.u64.wrap (IntKind.u64.wrap ((u : Int) * 4294967296) + (d : Int)) - IntKind.u64.wrap ((((u * 4294967296 + d) / Y : Nat) : Int) * (Y : Int))) = (((u * 4294967296 + d) % Y : Nat) : Int) := by
  have hdm := Nat.div_add_mod (u * 4294967296 + d) Y
  have hlt : (u * 4294967296 + d) % Y < Y := Nat.mod_lt _ hY0
  generalize (u * 4294967296 + d) / Y = Q at *
  generalize (u * 4294967296 + d) % Y = R at *
  have e1 : (Q : Int) * (Y : Int) = ((Y * Q : Nat) : Int) := by rw [Int.natCast_mul, Int.mul_comm]
  rw [e1]
  simp only [IntKind.wrap_u64]
  omega

theorem fin_eq (Y s u d q1 : Nat) (_hd : d < 4294967296) (hu : u < Y) (hY : Y < 18446744073709551616) (hq : q1 < 4294967296) (hQ : (u * 4294967296 + d) / Y < 4294967296) (z : Int) (hz : z = (((u * 4294967296 + d) / Y : Nat) : Int)) :
    (IntKind.u64.wrap (IntKind.u64.wrap ((q1 : Int) * 4294967296) + z), shr .u64 (IntKind.u64.wrap (IntKind.u64.wrap (IntKind.u64.wrap ((u : Int) * 4294967296) + (d : Int)) - IntKind.u64.wrap (z * (Y : Int)))) (s : Int))
      = (((q1 * 4294967296 + (u * 4294967296 + d) / Y : Nat) : Int), (((u * 4294967296 + d) % Y / 2 ^ min s 64 : Nat) : Int)) := by
  have hdm := Nat.div_add_mod (u * 4294967296 + d) Y
  have hlt : (u * 4294967296 + d) % Y < Y := Nat.mod_lt _ (by omega)
  generalize hQQ : (u * 4294967296 + d) / Y = Q at *
  generalize hRR : (u * 4294967296 + d) % Y = R at *
  subst hz
  have e1 : (Q : Int) * (Y : Int) = ((Y * Q : Nat) : Int) := by rw [Int.natCast_mul, Int.mul_comm]
  refine Prod.ext ?_ ?_
  · simp only [IntKind.wrap_u64]
    omega
  · simp only
    rw [e1]
    have e2 : IntKind.u64.wrap (IntKind.u64.wrap (IntKind.u64.wrap ((u : Int) * 4294967296) + (d : Int)) - IntKind.u64.wrap ((Y * Q : Nat) : Int)) = (R : Int) := by
      simp only [IntKind.wrap_u64]
      omega
    rw [e2]
    unfold shr
    rw [show ((s : Int).toNat) = s from rfl, show IntKind.u64.bits = 64 from rfl, Int.natCast_ediv, Int.natCast_pow]
    rfl

theorem l1_eq (Y s yn1 yn0 u d q1 : Nat)
    (hY : Y = yn1 * 4294967296 + yn0) (h1 : yn1 < 4294967296) (h0 : yn0 < 4294967296) (hd : d < 4294967296) (hu : u < Y) (hq1 : q1 < 4294967296) :
    ∀ m q r k, Knuth.Inv 4294967296 u d yn1 yn0 q r → q ≤ 4294967296 + 1 → r < 4294967296 → 4294967296 ≤ r + m * yn1 → 2 * m + 2 ≤ k →
      bits_Div64.l1 k Y s yn1 yn0 d q1 r u q = some (((q1 * 4294967296 + (u * 4294967296 + d) / Y : Nat) : Int), (((u * 4294967296 + d) % Y / 2 ^ min s 64 : Nat) : Int)) := by
  have hY2 : Y < 18446744073709551616 := by omega
  have hQB : (u * 4294967296 + d) / Y < 4294967296 := (Nat.div_lt_iff_lt_mul (by omega)).mpr (by
    have := Knuth.big (yn1 := yn1) (yn0 := yn0) (Nat.le_refl 4294967296) (by rw [← hY]; exact hu) hd
    rw [← hY] at this; exact this)
  have fin : ∀ z : Int, z = (((u * 4294967296 + d) / Y : Nat) : Int) → _ := fun z hz => fin_eq Y s u d q1 hd hu hY2 hq1 hQB z hz
  intro m
  induction m with
  | zero =>
    intro q r k hi hq hr hm hkk
    omega
  | succ m ih =>
    intro q r k hi hq hr hm hkk
    obtain ⟨k, rfl⟩ : ∃ j, k = j + 2 := ⟨k - 2, by omega⟩
    have body : u * 4294967296 + d < q * Y → bits_Div64.j4 (k + 1) Y s yn1 yn0 d q1 r u q true = some (((q1 * 4294967296 + (u * 4294967296 + d) / Y : Nat) : Int), (((u * 4294967296 + d) % Y / 2 ^ min s 64 : Nat) : Int)) := by
      intro ht
      obtain ⟨q, rfl⟩ : ∃ j, q = j + 1 := by
        refine ⟨q - 1, ?_⟩
        rcases Nat.eq_zero_or_pos q with h | h
        · rw [h] at ht; simp at ht
        · omega
      have hi' := Knuth.next hi (by rw [← hY]; exact ht)
      have hlt : (u * 4294967296 + d) / Y < q + 1 := (Nat.div_lt_iff_lt_mul (by omega)).mpr ht
      simp only [bits_Div64.j4]
      rw [if_pos trivial, wrapz _ (r + yn1) (by omega) (by omega), wrapz (((q + 1 : Nat) : Int) - 1) q (by omega) (by omega)]
      by_cases hb : 4294967296 ≤ r + yn1
      · rw [if_pos (by omega), if_pos (by omega)]
        have hQ := Knuth.done_break hi' hb (by omega) (by omega)
        rw [← hY] at hQ
        rw [fin q (by rw [hQ])]
      · rw [if_neg (by omega)]
        exact ih q (r + yn1) k hi' (by omega) (by omega) (by rw [Nat.succ_mul] at hm; omega) (by omega)
    simp only [bits_Div64.l1]
    by_cases hb : 4294967296 ≤ q
    · rw [if_pos (by omega)]
      have := Knuth.big (yn1 := yn1) (yn0 := yn0) hb (by rw [← hY]; exact hu) hd
      exact body (by rw [hY]; exact this)
    · rw [if_neg (by omega)]
      have a1 : q * yn0 < 18446744073709551616 := by
        have : q * yn0 ≤ (4294967296 - 1) * (4294967296 - 1) := Nat.mul_le_mul (by omega) (by omega)
        omega
      rw [wrapz _ (q * yn0) (Int.natCast_mul q yn0).symm a1, wrapz (4294967296 * (r : Int)) (4294967296 * r) (by omega) (by omega), wrapz _ (4294967296 * r + d) (by omega) (by omega)]
      by_cases ht : q * yn0 > 4294967296 * r + d
      · rw [decide_eq_true (by omega)]
        rw [Knuth.test_iff hi.sum, ← hY] at ht
        exact body ht
      · rw [decide_eq_false (by omega)]
        simp only [bits_Div64.j4]
        have hQ := Knuth.done_test hi ht
        rw [← hY] at hQ
        rw [if_neg (by decide), if_pos (by omega), fin q (by rw [hQ])]

theorem start_q (u yn1 yn0 : Nat) (hy : yn1 * 4294967296 + yn0 < 18446744073709551616) (h1 : 2147483648 ≤ yn1) (h0 : yn0 < 4294967296) (hu : u < yn1 * 4294967296 + yn0) :
    u / yn1 ≤ 4294967296 + 1 ∧ u - u / yn1 * yn1 < 4294967296 ∧ u / yn1 * yn1 ≤ u := by
  refine ⟨Knuth.start_le (by omega) hu (by omega), ?_, Nat.div_mul_le_self _ _⟩
  have := Nat.mod_lt u (show yn1 > 0 by omega)
  have := Nat.div_add_mod u yn1
  rw [Nat.mul_comm] at this
  omega

theorem phase2 (Y s yn1 yn0 un0 R Q k : Nat) (hY : Y < 18446744073709551616) (hYe : Y = yn1 * 4294967296 + yn0) (hn1 : yn1 < 4294967296) (hn1' : 2147483648 ≤ yn1) (hn0 : yn0 < 4294967296) (h0 : un0 < 4294967296) (hr : R < Y) (hq : Q < 4294967296) (hk : 10 ≤ k) :
    bits_Div64.l1 k Y s yn1 yn0 un0 Q (IntKind.u64.wrap ((R : Int) - IntKind.u64.wrap (IntKind.u64.wrap (Int.tdiv (R : Int) (yn1 : Int)) * (yn1 : Int)))) R (IntKind.u64.wrap (Int.tdiv (R : Int) (yn1 : Int)))
      = some (((Q * 4294967296 + (R * 4294967296 + un0) / Y : Nat) : Int), (((R * 4294967296 + un0) % Y / 2 ^ min s 64 : Nat) : Int)) := by
  have hs2 := start_q R yn1 yn0 (by omega) hn1' hn0 (by omega)
  have w2 : IntKind.u64.wrap (Int.tdiv (R : Int) (yn1 : Int)) = ((R / yn1 : Nat) : Int) := by
    rw [← Int.ofNat_tdiv]
    exact wrapn _ (by have := hs2.1; omega)
  rw [w2]
  have w3 : IntKind.u64.wrap (((R / yn1 : Nat) : Int) * (yn1 : Int)) = ((R / yn1 * yn1 : Nat) : Int) := wrapz _ _ (by rw [Int.natCast_mul]) (by have := hs2.2.2; omega)
  rw [w3]
  have w4 : IntKind.u64.wrap ((R : Int) - ((R / yn1 * yn1 : Nat) : Int)) = ((R - R / yn1 * yn1 : Nat) : Int) := wrapz _ _ (by have := hs2.2.2; omega) (by omega)
  rw [w4]
  have hup2 := (Knuth.start (u := R) (d := un0) (yn1 := yn1) (yn0 := yn0) (B := 4294967296) (by omega) h0)
  exact l1_eq Y s yn1 yn0 R un0 Q hYe hn1 hn0 h0 hr hq 2 _ _ k hup2 hs2.1 hs2.2.1 (by omega) (by omega)

/-- Behind normalizing: both digits. -/
theorem norm_eq (Y s u un1 un0 : Nat) (hY : Y < 18446744073709551616) (hY2 : 9223372036854775808 ≤ Y) (h1 : un1 < 4294967296) (h0 : un0 < 4294967296) (hu : u < Y) (k : Nat) (hk : 20 ≤ k) :
    bits_Div64.l0 k Y s ((Y / 4294967296 : Nat) : Int) ((Y % 4294967296 : Nat) : Int) u un1 un0 ((u / (Y / 4294967296) : Nat) : Int) ((u - u / (Y / 4294967296) * (Y / 4294967296) : Nat) : Int)
      = some (((((u * 4294967296 + un1) * 4294967296 + un0) / Y : Nat) : Int), ((((u * 4294967296 + un1) * 4294967296 + un0) % Y / 2 ^ min s 64 : Nat) : Int)) := by
  have hYe : Y = Y / 4294967296 * 4294967296 + Y % 4294967296 := by omega
  generalize hy1 : Y / 4294967296 = yn1 at *
  generalize hy0 : Y % 4294967296 = yn0 at *
  have hn1 : yn1 < 4294967296 := by omega
  have hn1' : 2147483648 ≤ yn1 := by omega
  have hn0 : yn0 < 4294967296 := by omega
  have e1 : ((u * 4294967296 + un1) * 4294967296 + un0) / Y = (u * 4294967296 + un1) / Y * 4294967296 + ((u * 4294967296 + un1) % Y * 4294967296 + un0) / Y ∧
      ((u * 4294967296 + un1) * 4294967296 + un0) % Y = ((u * 4294967296 + un1) % Y * 4294967296 + un0) % Y := by
    exact Knuth.long (u * 4294967296 + un1) un0 4294967296 Y (by omega)
  have hs := start_q u yn1 yn0 (by omega) hn1' hn0 (by omega)
  have hr : (u * 4294967296 + un1) % Y < Y := Nat.mod_lt _ (by omega)
  have hq : (u * 4294967296 + un1) / Y < 4294967296 := (Nat.div_lt_iff_lt_mul (by omega)).mpr (by
    have := Knuth.big (yn1 := yn1) (yn0 := yn0) (Nat.le_refl 4294967296) (by rw [← hYe]; exact hu) h1
    rw [← hYe] at this; exact this)
  have hup := (Knuth.start (u := u) (d := un1) (yn1 := yn1) (yn0 := yn0) (B := 4294967296) (by omega) h1)
  refine l0_eq Y s yn1 yn0 u un1 un0 _ 12 hYe hn1 hn0 h1 hu ?_ 2 _ _ k hup hs.1 hs.2.1 ?_ (by omega)
  · intro k hk
    obtain ⟨k, rfl⟩ : ∃ j, k = j + 1 := ⟨k - 1, by omega⟩
    simp only [bits_Div64.j2]
    rw [if_neg (by omega)]
    rw [rem_eq Y u un1 (by omega) hY]
    rw [e1.1, e1.2]
    exact phase2 Y s yn1 yn0 un0 _ _ k hY hYe hn1 hn1' hn0 h0 hr hq (by omega)
  · omega
theorem bitLenAux_spec : ∀ f x, x < 2 ^ f → x < 2 ^ Lib.bitLenAux f x ∧ (0 < x → 0 < Lib.bitLenAux f x ∧ 2 ^ (Lib.bitLenAux f x - 1) ≤ x) ∧ Lib.bitLenAux f x ≤ f := by
  intro f
  induction f with
  | zero => intro x h; simp [Lib.bitLenAux] at *; omega
  | succ f ih =>
    intro x h
    rw [Nat.pow_succ] at h
    simp only [Lib.bitLenAux]
    by_cases hx : x = 0
    · rw [if_pos hx]; simp [hx]
    · rw [if_neg hx]
      obtain ⟨a, b, c⟩ := ih (x / 2) (by omega)
      rw [Nat.add_comm 1, Nat.pow_succ]
      refine ⟨by omega, fun _ => ⟨by omega, ?_⟩, by omega⟩
      rw [Nat.add_sub_cancel]
      by_cases h2 : x / 2 = 0
      · rw [h2]
        have : Lib.bitLenAux f 0 = 0 := by cases f <;> simp [Lib.bitLenAux]
        rw [this]; simp; omega
      · obtain ⟨p, q⟩ := b (by omega)
        obtain ⟨n, hn⟩ : ∃ n, Lib.bitLenAux f (x / 2) = n + 1 := ⟨Lib.bitLenAux f (x / 2) - 1, by omega⟩
        rw [hn] at q ⊢
        rw [Nat.add_sub_cancel] at q
        rw [Nat.pow_succ]; omega
theorem bitLen_spec (x : Nat) (h : x < 18446744073709551616) : x < 2 ^ Lib.bitLen x ∧ (0 < x → 0 < Lib.bitLen x ∧ 2 ^ (Lib.bitLen x - 1) ≤ x) ∧ Lib.bitLen x ≤ 64 := bitLenAux_spec 64 x h

theorem andmask (x : Nat) (h : x < 18446744073709551616) : Go.bits .and .u64 (x : Int) 4294967295 = ((x % 4294967296 : Nat) : Int) := by
  have := bits_mask .u64 64 (by decide) (fun n h0 h1 => by rw [IntKind.wrap_u64]; omega) 32 (by decide) (x : Int) (by omega) (by omega)
  rw [show ((2 : Int) ^ 32 - 1) = 4294967295 by decide, show ((2 : Int) ^ 32) = 4294967296 by decide] at this
  rw [this]; omega

theorem last_eq (Y s U W k : Nat) (hY : Y < 18446744073709551616) (hY2 : 9223372036854775808 ≤ Y) (hU : U < Y) (hW : W < 18446744073709551616) (hk : 20 ≤ k) :
    (if ((Y : Int) / 4294967296) = 0 then none else bits_Div64.l0 k Y s ((Y : Int) / 4294967296) ((Y % 4294967296 : Nat) : Int) U ((W : Int) / 4294967296) ((W % 4294967296 : Nat) : Int) (IntKind.u64.wrap (Int.tdiv (U : Int) ((Y : Int) / 4294967296)))
        (IntKind.u64.wrap ((U : Int) - IntKind.u64.wrap (IntKind.u64.wrap (Int.tdiv (U : Int) ((Y : Int) / 4294967296)) * ((Y : Int) / 4294967296)))))
      = some ((((U * 18446744073709551616 + W) / Y : Nat) : Int), (((U * 18446744073709551616 + W) % Y / 2 ^ min s 64 : Nat) : Int)) := by
  rw [if_neg (by omega)]
  have eY : (Y : Int) / 4294967296 = ((Y / 4294967296 : Nat) : Int) := by omega
  have eW : (W : Int) / 4294967296 = ((W / 4294967296 : Nat) : Int) := by omega
  have hs := start_q U (Y / 4294967296) (Y % 4294967296) (by omega) (by omega) (by omega) (by omega)
  rw [eY, eW, ← Int.ofNat_tdiv, wrapn _ (by have := hs.1; omega),
    wrapz (((U / (Y / 4294967296) : Nat) : Int) * ((Y / 4294967296 : Nat) : Int)) (U / (Y / 4294967296) * (Y / 4294967296)) (by rw [Int.natCast_mul]) (by have := hs.2.2; omega),
    wrapz _ (U - U / (Y / 4294967296) * (Y / 4294967296)) (by have := hs.2.2; omega) (by omega)]
  have e : U * 18446744073709551616 + W = (U * 4294967296 + W / 4294967296) * 4294967296 + W % 4294967296 := by omega
  rw [e]
  exact norm_eq Y s U (W / 4294967296) (W % 4294967296) hY hY2 (by omega) (by omega) hU k hk

theorem div64_eq (hi lo y k : Nat) (h1 : hi < y) (hy : y < 18446744073709551616) (hlo : lo < 18446744073709551616) (hk : 20 ≤ k) :
    bits_Div64.f k hi lo y = some ((((hi * 18446744073709551616 + lo) / y : Nat) : Int), (((hi * 18446744073709551616 + lo) % y : Nat) : Int)) := by
  unfold bits_Div64.f
  rw [if_neg (by omega), if_neg (by omega)]
  by_cases h0 : hi = 0
  · rw [if_pos (by omega), h0, Nat.zero_mul, Nat.zero_add, ← Int.ofNat_tdiv, wrapn _ (Nat.lt_of_le_of_lt (Nat.div_le_self _ _) hlo), Int.ofNat_tmod]
  · rw [if_neg (by omega)]
    unfold bits_LeadingZeros64.f bits_Len64.f
    rw [if_pos (by omega), if_pos (by omega)]
    simp only [Option.bind_some, Int.toNat_natCast]
    obtain ⟨hL1, hL2, hL3⟩ := bitLen_spec y hy
    obtain ⟨hL4, hL5⟩ := hL2 (by omega)
    generalize Lib.bitLen y = L at *
    obtain ⟨s, rfl⟩ : ∃ s, L = 64 - s := ⟨64 - L, by omega⟩
    have hs : s ≤ 63 := by omega
    have w0 : wrap64 (64 - ((64 - s : Nat) : Int)) = (s : Int) := by unfold wrap64; omega
    have w1 : IntKind.u64.wrap (s : Int) = (s : Int) := wrapn s (by omega)
    have w2 : IntKind.u64.wrap (64 - (s : Int)) = ((64 - s : Nat) : Int) := wrapz _ _ (by omega) (by omega)
    rw [w0, w1, w2, if_pos (by omega), if_pos (by omega)]
    -- powers
    have p64 : 2 ^ (64 - s) * 2 ^ s = 18446744073709551616 := by rw [← Nat.pow_add]; rw [show 64 - s + s = 64 by omega]
    have p63 : 2 ^ (64 - s - 1) * 2 ^ s = 9223372036854775808 := by rw [← Nat.pow_add]; rw [show 64 - s - 1 + s = 63 by omega]
    have ps : 0 < 2 ^ s := Nat.two_pow_pos s
    have pl : 0 < 2 ^ (64 - s) := Nat.two_pow_pos _
    have hYlt : y * 2 ^ s < 18446744073709551616 := by rw [← p64]; exact Nat.mul_lt_mul_of_pos_right hL1 ps
    have hYge : 9223372036854775808 ≤ y * 2 ^ s := by rw [← p63]; exact Nat.mul_le_mul_right _ hL5
    have hhi : (hi + 1) * 2 ^ s ≤ y * 2 ^ s := Nat.mul_le_mul_right _ h1
    have hlq : lo / 2 ^ (64 - s) < 2 ^ s := by
      rw [Nat.div_lt_iff_lt_mul pl, Nat.mul_comm, p64]; exact hlo
    rw [Nat.add_mul, Nat.one_mul] at hhi
    have sh : ∀ x : Nat, shl .u64 (x : Int) (s : Int) = ((x * 2 ^ s % 18446744073709551616 : Nat) : Int) := by
      intro x
      unfold shl
      rw [IntKind.wrap_u64, show ((s : Int).toNat) = s from rfl, show IntKind.u64.bits = 64 from rfl, Nat.min_eq_left (by omega)]
      have : ((2 : Int) ^ s) = ((2 ^ s : Nat) : Int) := by simp
      rw [this, ← Int.natCast_mul]; omega
    have sr : shr .u64 (lo : Int) ((64 - s : Nat) : Int) = ((lo / 2 ^ (64 - s) : Nat) : Int) := by
      unfold shr
      rw [show (((64 - s : Nat) : Int).toNat) = 64 - s from rfl, show IntKind.u64.bits = 64 from rfl, Nat.min_eq_left (by omega)]
      simp
    rw [sh y, sh hi, sh lo, sr, Nat.mod_eq_of_lt hYlt, Nat.mod_eq_of_lt (a := hi * 2 ^ s) (by omega)]
    have hor : Go.bits .or .u64 ((hi * 2 ^ s : Nat) : Int) ((lo / 2 ^ (64 - s) : Nat) : Int) = ((hi * 2 ^ s + lo / 2 ^ (64 - s) : Nat) : Int) := by
      have hlq2 : lo / 2 ^ (64 - s) < 18446744073709551616 := Nat.lt_of_le_of_lt (Nat.div_le_self _ _) hlo
      have hhi2 : hi * 2 ^ s < 18446744073709551616 := by omega
      have hm : hi * 2 ^ s % 2 ^ s = 0 := Nat.mul_mod_left _ _
      have := bits_join .u64 64 (by decide) (fun n h0 h1 => by rw [IntKind.wrap_u64]; omega) s ((hi * 2 ^ s : Nat) : Int) ((lo / 2 ^ (64 - s) : Nat) : Int) (Int.natCast_nonneg _)
        (by exact_mod_cast hm) (by exact_mod_cast hhi2) (Int.natCast_nonneg _) (by exact_mod_cast hlq) (by exact_mod_cast hlq2)
      rw [this, Int.natCast_add]
    rw [hor, andmask _ hYlt, andmask _ (Nat.mod_lt _ (by omega))]
    -- the low word
    have hun : lo * 2 ^ s = lo / 2 ^ (64 - s) * 18446744073709551616 + lo * 2 ^ s % 18446744073709551616 := by
      have e : lo * 2 ^ s / 18446744073709551616 = lo / 2 ^ (64 - s) := by rw [← p64, Nat.mul_div_mul_right _ _ ps]
      rw [← e]; omega
    have hU : (hi * 18446744073709551616 + lo) * 2 ^ s = (hi * 2 ^ s + lo / 2 ^ (64 - s)) * 18446744073709551616 + lo * 2 ^ s % 18446744073709551616 := by
      rw [Nat.add_mul, Nat.add_mul, hun]
      have : hi * 18446744073709551616 * 2 ^ s = hi * 2 ^ s * 18446744073709551616 := by rw [Nat.mul_right_comm]
      omega
    have hfin : (hi * 18446744073709551616 + lo) / y = (hi * 18446744073709551616 + lo) * 2 ^ s / (y * 2 ^ s) ∧ (hi * 18446744073709551616 + lo) % y = (hi * 18446744073709551616 + lo) * 2 ^ s % (y * 2 ^ s) / 2 ^ min s 64 := by
      rw [Nat.mul_div_mul_right _ _ ps, Nat.mul_mod_mul_right, Nat.min_eq_left (by omega), Nat.mul_div_cancel _ ps]
      exact ⟨rfl, rfl⟩
    rw [hfin.1, hfin.2, hU]
    have hW : lo * 2 ^ s % 18446744073709551616 < 18446744073709551616 := Nat.mod_lt _ (by omega)
    exact last_eq (y * 2 ^ s) s (hi * 2 ^ s + lo / 2 ^ (64 - s)) (lo * 2 ^ s % 18446744073709551616) k hYlt hYge (by omega) hW hk

/-! ### Mean -/
def meanN (s c : Nat) : Nat := if s % c > c - s % c ∨ (s % c = c - s % c ∧ s / c % 2 = 1) then s / c + 1 else s / c
def sizeW (h l : Int) : Nat := (h * 1000000000000000000 + l).natAbs
def meanW (h l c : Int) : Int := if h < 0 then -(meanN (sizeW h l) c.toNat : Nat) else (meanN (sizeW h l) c.toNat : Nat)

theorem and1 (x : Nat) (h : x < 18446744073709551616) : Go.bits .and .u64 (x : Int) 1 = ((x % 2 : Nat) : Int) := by
  have := bits_mask .u64 64 (by decide) (fun n h0 h1 => by rw [IntKind.wrap_u64]; omega) 1 (by decide) (x : Int) (by omega) (by omega)
  rw [show ((2 : Int) ^ 1 - 1) = 1 by decide, show ((2 : Int) ^ 1) = 2 by decide] at this
  rw [this]; omega

theorem meanN_le (s c : Nat) (hc : 0 < c) (h : s ≤ c * 1000000000000000000) : meanN s c ≤ 1000000000000000000 := by
  have hdm := Nat.div_add_mod s c
  have hlt := Nat.mod_lt s hc
  have hq : s / c ≤ 1000000000000000000 := by
    have := (Nat.div_le_div_right (c := c) h)
    rwa [Nat.mul_div_cancel_left _ hc] at this
  unfold meanN
  by_cases he : s / c = 1000000000000000000
  · have : s % c = 0 := by
      rw [he] at hdm; omega
    rw [if_neg (by omega)]; omega
  · split <;> omega

theorem w64_small (M : Nat) (h : M ≤ 1000000000000000000) : wrap64 (M : Int) = M ∧ wrap64 (-(M : Int)) = -M := by
  unfold wrap64; omega

theorem mean_eq (h l c : Int) (k : Nat) (hr : right h l) (h1 : 1 ≤ c) (h2 : c ≤ 2147483648) (hs : (sizeW h l : Int) ≤ c * 1000000000000000000) (hk : 40 ≤ k) :
    wide_Mean.f k h l c = some (meanW h l c, 0) := by
  obtain ⟨k, rfl⟩ : ∃ j, k = j + 3 := ⟨k - 3, by omega⟩
  obtain ⟨c, rfl⟩ : ∃ n : Nat, c = n := ⟨c.toNat, by omega⟩
  obtain ⟨S, hS⟩ : ∃ S, S = sizeW h l := ⟨_, rfl⟩
  have eS : (if h < 0 then -(h * 1000000000000000000 + l) else h * 1000000000000000000 + l) = (S : Int) := by
    rw [hS]; unfold sizeW; obtain ⟨a, b, p, q⟩ := hr; split <;> omega
  have hm := meanN_le S c (by omega) (by rw [hS]; omega)
  have hSc : S ≤ c * 1000000000000000000 := by rw [hS]; omega
  have hq : S / c ≤ 1000000000000000000 := by
    have := (Nat.div_le_div_right (c := c) hSc)
    rwa [Nat.mul_div_cancel_left _ (by omega)] at this
  have hrlt := Nat.mod_lt S (show c > 0 by omega)
  unfold wide_Mean.f
  simp only [check_eq, Option.bind_some]
  rw [if_pos (by unfold checkW; rw [if_pos hr]), if_neg (by omega), decide_eq_false (by omega)]
  simp only [wide_Mean.j0]
  rw [if_neg (by decide), words_eq h l hr, eS]
  simp only [Option.bind_some]
  have wc : IntKind.u64.wrap (c : Int) = (c : Int) := wrapn c (by omega)
  rw [wc, if_neg (by
    have : S / 18446744073709551616 < c := by rw [Nat.div_lt_iff_lt_mul (by omega)]; omega
    omega)]
  have e1 : (S : Int) / 18446744073709551616 = ((S / 18446744073709551616 : Nat) : Int) := by omega
  have e2 : (S : Int) % 18446744073709551616 = ((S % 18446744073709551616 : Nat) : Int) := by omega
  rw [e1, e2, div64_eq _ _ c _ (by rw [Nat.div_lt_iff_lt_mul (by omega)]; omega) (by omega) (Nat.mod_lt _ (by omega)) (by omega)]
  have e3 : S / 18446744073709551616 * 18446744073709551616 + S % 18446744073709551616 = S := by omega
  rw [e3]
  simp only [Option.bind_some]
  have wr : IntKind.u64.wrap ((c : Int) - ((S % c : Nat) : Int)) = ((c - S % c : Nat) : Int) := wrapz _ _ (by omega) (by omega)
  rw [wr, and1 _ (by omega)]
  have last : ∀ q : Nat, q = meanN S c → wide_Mean.j2 (k + 1) (q : Int) h l = some (meanW h l c, 0) := by
    intro M hM
    simp only [wide_Mean.j2]
    rw [if_neg (by omega)]
    unfold meanW
    rw [← hS, show ((c : Int).toNat) = c from rfl, ← hM]
    have hM2 := w64_small M (hM ▸ hm)
    rw [hM2.1, hM2.2]
    split <;> rfl
  have wq : IntKind.u64.wrap (((S / c : Nat) : Int) + 1) = ((S / c + 1 : Nat) : Int) := wrapz _ _ (by omega) (by omega)
  have yes : (S % c > c - S % c ∨ (S % c = c - S % c ∧ S / c % 2 = 1)) → wide_Mean.j1 (k + 2) ((S / c : Nat) : Int) true h l = some (meanW h l c, 0) := by
    intro hy
    simp only [wide_Mean.j1]
    rw [if_pos trivial, wq]
    exact last _ (by unfold meanN; rw [if_pos hy])
  have no : ¬ (S % c > c - S % c ∨ (S % c = c - S % c ∧ S / c % 2 = 1)) → wide_Mean.j1 (k + 2) ((S / c : Nat) : Int) false h l = some (meanW h l c, 0) := by
    intro hy
    simp only [wide_Mean.j1]
    rw [if_neg (by decide)]
    exact last _ (by unfold meanN; rw [if_neg hy])
  by_cases c1 : S % c > c - S % c
  · rw [if_pos (by omega)]; exact yes (.inl c1)
  · rw [if_neg (by omega)]
    by_cases c2 : S % c = c - S % c
    · rw [if_pos (by omega)]
      by_cases c3 : S / c % 2 = 1
      · rw [c3]; exact yes (.inr ⟨c2, c3⟩)
      · rw [show S / c % 2 = 0 by omega]; exact no (by omega)
    · rw [if_neg (by omega)]; exact no (by omega)

def meanO (h l c : Int) : Option (Int × Int) := if right h l ∧ 1 ≤ c ∧ c ≤ 2147483648 ∧ (sizeW h l : Int) ≤ c * 1000000000000000000 then some (meanW h l c, 0) else none
theorem meanO_eq {h l c : Int} {r : Int × Int} (e : meanO h l c = some r) : wide_Mean.f 100 h l c = some r := by
  unfold meanO at e
  split at e
  · rename_i hc
    rw [← e]
    exact mean_eq h l c 100 hc.1 hc.2.1 hc.2.2.1 hc.2.2.2 (by decide)
  · exact absurd e (by simp)

/-! ### the references -/
/-! ### numbers -/
def naddN (a b : Int) : Int × Int := if fits a ∧ fits b then (if fits (a + b) then (a + b, 0) else (0, 3)) else (0, 2)
theorem nadd_eq (a b : Int) : num_Add.f a b = some (naddN a b) := by
  unfold num_Add.f num_told.f
  simp only [fits_eq, Option.bind_some]
  unfold naddN
  by_cases ha : fits a
  · by_cases hb : fits b
    · have w : wrap64 (a + b) = a + b := by unfold wrap64; omega
      rw [if_pos (by simpa using ha), if_pos (by simpa using hb), w, if_pos (show fits a ∧ fits b from ⟨ha, hb⟩)]
      by_cases hc : fits (a + b)
      · rw [if_pos (show decide (fits (a + b)) = true from decide_eq_true hc), if_pos hc]; rfl
      · rw [if_neg (show ¬ decide (fits (a + b)) = true by rw [decide_eq_true_iff]; exact hc), if_neg hc]; rfl
    · rw [if_pos (by simpa using ha), if_neg (by simpa using hb), if_neg (fun h => hb h.2)]
  · rw [if_neg (by simpa using ha), if_neg (fun h => ha h.1)]

/-! ### sums by their values -/
abbrev inW (s : Int) : Prop := -2147483648000000000000000000 ≤ s ∧ s < 2147483648000000000000000000
abbrev hiW (s : Int) : Int := s / 1000000000000000000
abbrev loW (s : Int) : Int := s % 1000000000000000000
theorem right_rep (s : Int) (h : inW s) : right (hiW s) (loW s) := by unfold right hiW loW inW at *; omega
theorem rep_of (h l : Int) (hr : right h l) : inW (h * 1000000000000000000 + l) ∧ hiW (h * 1000000000000000000 + l) = h ∧ loW (h * 1000000000000000000 + l) = l := by
  unfold right hiW loW inW at *; omega
theorem rep_inj {s t : Int} (h1 : hiW s = hiW t) (h2 : loW s = loW t) : s = t := by unfold hiW loW at *; omega
theorem madeW_rep (h l : Int) : madeW h l = if inW (h * 1000000000000000000 + l) then (hiW (h * 1000000000000000000 + l), loW (h * 1000000000000000000 + l), 0) else (0, 0, 3) := by
  unfold madeW
  have e1 : hiW (h * 1000000000000000000 + l) = h + l / 1000000000000000000 := by unfold hiW; omega
  have e2 : loW (h * 1000000000000000000 + l) = l % 1000000000000000000 := by unfold loW; omega
  rw [e1, e2]
  by_cases c : inW (h * 1000000000000000000 + l)
  · rw [if_pos c, if_pos (by unfold inW at c; omega)]
  · rw [if_neg c, if_neg (by unfold inW at c; omega)]
theorem addW_rep (s n : Int) (h : inW s) : addW (hiW s) (loW s) n = if fits n then (if inW (s + n) then (hiW (s + n), loW (s + n), 0) else (0, 0, 3)) else (0, 0, 2) := by
  unfold addW
  have hr := right_rep s h
  have e : hiW s * 1000000000000000000 + (loW s + n) = s + n := by unfold hiW loW; omega
  by_cases c : fits n
  · rw [if_pos ⟨hr, c⟩, if_pos c, madeW_rep, e]
  · rw [if_neg (fun x => c x.2), if_neg c]
theorem subW_rep (s n : Int) (h : inW s) : subW (hiW s) (loW s) n = if fits n then (if inW (s - n) then (hiW (s - n), loW (s - n), 0) else (0, 0, 3)) else (0, 0, 2) := by
  unfold subW
  have hr := right_rep s h
  have e : hiW s * 1000000000000000000 + (loW s - n) = s - n := by unfold hiW loW; omega
  by_cases c : fits n
  · rw [if_pos ⟨hr, c⟩, if_pos c, madeW_rep, e]
  · rw [if_neg (fun x => c x.2), if_neg c]
theorem totalW_rep (s : Int) (h : inW s) : totalW (hiW s) (loW s) = if fits s then (s, 0) else (0, 3) := by
  unfold totalW
  rw [if_pos (right_rep s h)]
  have e : hiW s * 1000000000000000000 + loW s = s := by unfold hiW loW; omega
  rw [e]
  by_cases c : fits s
  · rw [if_pos c, if_neg (by unfold fits hiW loW at *; omega)]
  · by_cases c2 : s = 1000000000000000000 ∨ (-2000000000000000000 < s ∧ s < 2000000000000000000)
    · by_cases c3 : hiW s < -1 ∨ 1 < hiW s ∨ (hiW s = 1 ∧ loW s ≠ 0)
      · rw [if_pos c3, if_neg c]
      · exfalso; unfold fits hiW loW at *; omega
    · rw [if_neg c, if_pos (by unfold fits hiW loW at *; omega)]
theorem compareW_rep (s t : Int) (h : inW s) (h' : inW t) : compareW (hiW s) (loW s) (hiW t) (loW t) = if s < t then (-1, 0) else if t < s then (1, 0) else (0, 0) := by
  unfold compareW
  rw [if_pos ⟨right_rep s h, right_rep t h'⟩]
  unfold hiW loW
  repeat' split
  all_goals first | rfl | omega
theorem meanO_rep (s c : Int) (h : inW s) (h1 : 1 ≤ c) (h2 : c ≤ 2147483648) (h3 : -(c * 1000000000000000000) ≤ s) (h4 : s ≤ c * 1000000000000000000) :
    meanO (hiW s) (loW s) c = some (if s < 0 then -((meanN s.natAbs c.toNat : Nat) : Int) else ((meanN s.natAbs c.toNat : Nat) : Int), 0) := by
  unfold meanO meanW sizeW
  have e : hiW s * 1000000000000000000 + loW s = s := by unfold hiW loW; omega
  rw [e, if_pos ⟨right_rep s h, h1, h2, by omega⟩]
  by_cases c : s < 0
  · rw [if_pos c, if_pos (by unfold hiW; omega)]
  · rw [if_neg c, if_neg (by unfold hiW; omega)]
end Go.Proofs.Ytnmiagcjfbdfkaa.WPure


namespace Go.Proofs.Ytnmiagcjfbdfkaa.SA
open Go.RowKit Go.Proofs.Ytnmiagcjfbdfkaa Go.Proofs.Ytnmiagcjfbdfkaa.PG Go.Proofs.Ytnmiagcjfbdfkaa.WPure Go.Proofs.YtnmiagcjfbdfkaaW.PrintWords Go.Proofs.YtnmiagcjfbdfkaaW.PrintLast Go.Proofs.YtnmiagcjfbdfkaaW.PrintMore

/-! ### numbers that may be handed in -/
abbrev good (l : List Int) : Prop := l.length ≤ 4096 ∧ ∀ x ∈ l, fits x
theorem w1 (i : Nat) (h : i < 4611686018427387904) : wrap64 ((i : Int) + 1) = ((i + 1 : Nat) : Int) := by unfold wrap64; omega
theorem rd_nat (x : List Int) (i : Nat) : rd x (i : Int) = x.getD i 0 := by unfold rd; rw [Int.toNat_natCast]
theorem getD_lt (x : List Int) (i : Nat) (h : i < x.length) : x.getD i 0 = x[i] := by rw [List.getD, List.getElem?_eq_getElem h]; rfl
theorem drop_cons (x : List Int) (i : Nat) (h : i < x.length) : x.drop i = x.getD i 0 :: x.drop (i + 1) := by rw [getD_lt x i h]; exact List.drop_eq_getElem_cons h
theorem mem_getD (x : List Int) (i : Nat) (h : i < x.length) : x.getD i 0 ∈ x := by rw [getD_lt x i h]; exact List.getElem_mem h

theorem bad1 (n : Int) : stats_good_1.f n = some (!decide (fits n)) := by
  unfold stats_good_1.f; rw [fits_eq]; rfl
theorem find_eq (l : List Int) (hl : l.length < 4611686018427387904) : ∀ n k i, i + n = l.length → n + 1 ≤ k →
    ∃ t, slices_IndexFunc_int_int_at_stats_good_1.l0 k l (l.length : Int) (i : Int) = some t ∧ (0 ≤ t ↔ ¬ ∀ x ∈ l.drop i, fits x) := by
  intro n
  induction n with
  | zero =>
    intro k i hi hk
    obtain ⟨k, rfl⟩ : ∃ q, k = q + 1 := ⟨k - 1, by omega⟩
    refine ⟨-1, ?_, ?_⟩
    · rw [slices_IndexFunc_int_int_at_stats_good_1.l0, if_neg (by omega)]
    · rw [List.drop_eq_nil_of_le (by omega)]; simp
  | succ n ih =>
    intro k i hi hk
    obtain ⟨k, rfl⟩ : ∃ q, k = q + 1 := ⟨k - 1, by omega⟩
    rw [slices_IndexFunc_int_int_at_stats_good_1.l0, if_pos (by omega), if_pos (by omega), if_pos (by omega), bad1, Option.bind_some, rd_nat, drop_cons l i (by omega)]
    by_cases c : fits (l.getD i 0)
    · rw [if_neg (by simpa using c), w1 i (by omega)]
      obtain ⟨t, e, h⟩ := ih k (i + 1) (by omega) (by omega)
      refine ⟨t, e, h.trans ?_⟩
      simp only [List.mem_cons, forall_eq_or_imp]
      exact ⟨fun z y => z y.2, fun z y => z ⟨c, y⟩⟩
    · rw [if_pos (by rw [decide_eq_false c]; rfl)]
      refine ⟨i, rfl, ?_⟩
      simp only [List.mem_cons, forall_eq_or_imp]
      exact ⟨fun _ y => c y.1, fun _ => by omega⟩
theorem good_eq (l : List Int) (k : Nat) (hk : l.length + 1 ≤ k) : stats_good.f k l = some (decide (good l)) := by
  unfold stats_good.f
  by_cases c : l.length ≤ 4096
  · rw [if_pos (by omega)]
    unfold slices_ContainsFunc_int_int_at_stats_good_1.f slices_IndexFunc_int_int_at_stats_good_1.f
    obtain ⟨t, e, h⟩ := find_eq l (by omega) l.length k 0 (by omega) hk
    rw [show ((0 : Nat) : Int) = 0 from rfl] at e
    rw [e]
    simp only [Option.bind_some]
    rw [List.drop_zero] at h
    by_cases c2 : ∀ x ∈ l, fits x
    · rw [decide_eq_true (show good l from ⟨c, c2⟩), decide_eq_false (fun z => h.mp z c2)]; rfl
    · rw [decide_eq_false (show ¬ good l from fun z => c2 z.2), decide_eq_true (show t ≥ 0 from h.mpr c2)]; rfl
  · rw [if_neg (by omega), decide_eq_false (fun z => c z.1)]

/-! ### sums -/
theorem sum_le (l : List Int) (h : ∀ x ∈ l, fits x) : -(l.length * 1000000000000000000 : Int) ≤ l.sum ∧ l.sum ≤ (l.length : Int) * 1000000000000000000 := by
  induction l with
  | nil => simp
  | cons a l ih =>
    have h1 := ih (fun x hx => h x (List.mem_cons_of_mem _ hx))
    have h2 : fits a := h a (List.mem_cons_self)
    unfold fits at h2
    rw [List.sum_cons, List.length_cons]
    omega
theorem tot_eq (l : List Int) (hg : good l) : ∀ n k i (s : Int), i + n = l.length → n + 2 ≤ k → -(i * 1000000000000000000 : Int) ≤ s → s ≤ (i : Int) * 1000000000000000000 →
    stats_total.l0 k l (l.length : Int) (i : Int) (hiW s) (loW s) = some (hiW (s + (l.drop i).sum), loW (s + (l.drop i).sum)) := by
  intro n
  have hl := hg.1
  induction n with
  | zero =>
    intro k i s hi hk h0 h1
    obtain ⟨k, rfl⟩ : ∃ q, k = q + 1 := ⟨k - 1, by omega⟩
    rw [stats_total.l0, if_neg (by omega), List.drop_eq_nil_of_le (by omega), List.sum_nil, Int.add_zero]
  | succ n ih =>
    intro k i s hi hk h0 h1
    obtain ⟨k, rfl⟩ : ∃ q, k = q + 1 + 1 := ⟨k - 2, by omega⟩
    have hf := hg.2 _ (mem_getD l i (by omega))
    have hin : inW s := by unfold inW; omega
    have hin2 : inW (s + l.getD i 0) := by unfold inW; unfold fits at hf; omega
    rw [stats_total.l0, if_pos (by omega), if_pos (by omega), if_pos (by omega), rd_nat, add_eq, addW_rep s _ hin, if_pos hf, if_pos hin2, Option.bind_some, w1 i (by omega)]
    have := ih (k + 1) (i + 1) (s + l.getD i 0) (by omega) (by omega) (by unfold fits at hf; omega) (by unfold fits at hf; omega)
    rw [this, drop_cons l i (by omega), List.sum_cons, Int.add_assoc]
theorem total_good (l : List Int) (hg : good l) (k : Nat) (hk : l.length + 2 ≤ k) : stats_total.f k l = some (hiW l.sum, loW l.sum) := by
  unfold stats_total.f
  have := tot_eq l hg l.length k 0 0 (by omega) hk (by omega) (by omega)
  rw [List.drop_zero, Int.zero_add] at this
  exact this
def sumN (l : List Int) : Int × Int := if good l ∧ fits l.sum then (l.sum, 0) else (0, 5)
theorem inW_sum (l : List Int) (hg : good l) : inW l.sum := by
  have h := sum_le l hg.2
  have hl := hg.1
  unfold inW; omega
theorem sum_eq (l : List Int) (k : Nat) (hk : l.length + 2 ≤ k) : stats_Sum.f k l = some (sumN l) := by
  unfold stats_Sum.f sumN
  rw [good_eq l k (by omega), Option.bind_some]
  by_cases hg : good l
  · rw [if_pos (decide_eq_true hg), total_good l hg k hk, Option.bind_some, total_eq, Option.bind_some, totalW_rep _ (inW_sum l hg)]
    by_cases c : fits l.sum
    · rw [if_pos c, if_pos (show good l ∧ fits l.sum from ⟨hg, c⟩)]; rfl
    · rw [if_neg c, if_neg (show ¬ (good l ∧ fits l.sum) from fun z => c z.2)]; rfl
  · rw [if_neg (by simpa using hg), if_neg (fun z => hg z.1)]
def meanV (s : Int) (c : Nat) : Int := if s < 0 then -((meanN s.natAbs c : Nat) : Int) else ((meanN s.natAbs c : Nat) : Int)
def avgN (l : List Int) : Int × Int := if good l then (if l.length = 0 then (0, 1) else (meanV l.sum l.length, 0)) else (0, 5)
theorem mean_good (l : List Int) (hg : good l) (h0 : l.length ≠ 0) (k : Nat) (hk : 40 ≤ k) : wide_Mean.f k (hiW l.sum) (loW l.sum) (l.length : Int) = some (meanV l.sum l.length, 0) := by
  have h := sum_le l hg.2
  have hl := hg.1
  have e : hiW l.sum * 1000000000000000000 + loW l.sum = l.sum := by unfold hiW loW; omega
  rw [mean_eq _ _ _ _ (right_rep _ (inW_sum l hg)) (by omega) (by omega) (by unfold sizeW; rw [e]; omega) hk]
  unfold meanW meanV sizeW
  rw [e, Int.toNat_natCast]
  by_cases c : l.sum < 0
  · rw [if_pos c, if_pos (by unfold hiW; omega)]
  · rw [if_neg c, if_neg (by unfold hiW; omega)]
theorem avg_eq (l : List Int) (k : Nat) (hk : l.length + 40 ≤ k) : stats_Mean.f k l = some (avgN l) := by
  unfold stats_Mean.f avgN
  rw [good_eq l k (by omega), Option.bind_some]
  by_cases hg : good l
  · rw [if_pos (decide_eq_true hg), if_pos hg]
    by_cases c : l.length = 0
    · rw [if_pos (by omega), if_pos c]
    · rw [if_neg (by omega), if_neg c, total_good l hg k (by omega), Option.bind_some, mean_good l hg c k (by omega)]; rfl
  · rw [if_neg (by simpa using hg), if_neg hg]
end Go.Proofs.Ytnmiagcjfbdfkaa.SA

namespace Go.Proofs.Ytnmiagcjfbdfkaa.SB
open Go.RowKit Go.Proofs.Ytnmiagcjfbdfkaa Go.Proofs.Ytnmiagcjfbdfkaa.PG Go.Proofs.Ytnmiagcjfbdfkaa.WPure Go.Proofs.Ytnmiagcjfbdfkaa.SA Go.Proofs.YtnmiagcjfbdfkaaW.PrintWords Go.Proofs.YtnmiagcjfbdfkaaW.PrintLast Go.Proofs.YtnmiagcjfbdfkaaW.PrintMore

/-! ### the k-th -/
/-- v stands at the place i (from 0 on), were the numbers in order. -/
abbrev Kth (l : List Int) (i : Nat) (v : Int) : Prop := l.countP (· < v) ≤ i ∧ i < l.countP (· ≤ v)
theorem count_le {p q : Int → Bool} (l : List Int) (h : ∀ x ∈ l, p x = true → q x = true) : l.countP p ≤ l.countP q := List.countP_mono_left h
theorem Kth.one {l : List Int} {i : Nat} {v u : Int} (h : Kth l i v) (h' : Kth l i u) : v = u := by
  rcases Int.lt_trichotomy v u with z | z | z
  · have := count_le (p := (· ≤ v)) (q := (· < u)) l (fun x _ hx => by simp at *; omega)
    have := h.2; have := h'.1; omega
  · exact z
  · have := count_le (p := (· ≤ u)) (q := (· < v)) l (fun x _ hx => by simp at *; omega)
    have := h'.2; have := h.1; omega
theorem Kth.perm {l m : List Int} (hp : l.Perm m) {i : Nat} {v : Int} (h : Kth l i v) : Kth m i v := by
  unfold Kth at *; rw [← hp.countP_eq, ← hp.countP_eq]; exact h
theorem Kth.mem {l : List Int} {i : Nat} {v : Int} (h : Kth l i v) : v ∈ l := by
  apply Classical.byContradiction
  intro hn
  have := count_le (p := (· ≤ v)) (q := (· < v)) l (fun x hx hxv => by
    simp at *
    have : x ≠ v := fun e => hn (e ▸ hx)
    omega)
  have := h.1; have := h.2; omega
def kthN (l : List Int) (i : Nat) : Int := (l.find? fun v => decide (Kth l i v)).getD 0
theorem kthN_eq {l : List Int} {i : Nat} {v : Int} (h : Kth l i v) : kthN l i = v := by
  unfold kthN
  cases e : l.find? fun v => decide (Kth l i v) with
  | none => exact absurd (decide_eq_true h) (by simpa using List.find?_eq_none.mp e v h.mem)
  | some u => exact Kth.one (by simpa using List.find?_some e) h

/-! ### parted -/
theorem set_get (x : List Int) (j : Nat) (v : Int) (i : Nat) : (x.set j v).getD i 0 = if j = i ∧ i < x.length then v else x.getD i 0 := by
  rw [List.getD, List.getD, List.getElem?_set]
  by_cases c : j = i
  · subst c
    by_cases c2 : j < x.length
    · simp [c2]
    · simp [c2]
  · simp [c]
theorem swap_perm (x : List Int) (i j : Nat) (hi : i < x.length) (hj : j < x.length) : ((x.set i (x.getD j 0)).set j (x.getD i 0)).Perm x := by
  rw [getD_lt x i hi, getD_lt x j hj]
  exact List.set_set_perm hi hj
theorem swap_get (x : List Int) (i j q : Nat) (hi : i < x.length) (hj : j < x.length) : ((x.set i (x.getD j 0)).set j (x.getD i 0)).getD q 0 = if j = q then x.getD i 0 else if i = q then x.getD j 0 else x.getD q 0 := by
  rw [set_get, set_get, List.length_set]
  by_cases c : j = q
  · rw [if_pos ⟨c, by omega⟩, if_pos c]
  · rw [if_neg (fun z => c z.1), if_neg c]
    by_cases c2 : i = q
    · rw [if_pos ⟨c2, by omega⟩, if_pos c2]
    · rw [if_neg (fun z => c2 z.1), if_neg c2]
structure Inv (b : Int) (x : List Int) (low at_ high : Nat) : Prop where
  h1 : low ≤ at_
  h2 : at_ ≤ high
  h3 : high ≤ x.length
  lo : ∀ i, i < low → x.getD i 0 < b
  mid : ∀ i, low ≤ i → i < at_ → x.getD i 0 = b
  hi : ∀ i, high ≤ i → i < x.length → b < x.getD i 0
theorem part_eq (b : Int) : ∀ n k (x : List Int) (low at_ high : Nat), high - at_ = n → n + 1 ≤ k → x.length < 4611686018427387904 → Inv b x low at_ high →
    ∃ lo hi y, stats_parted_int.l0 k x b (low : Int) (at_ : Int) (high : Int) = some (((lo : Nat) : Int), ((hi : Nat) : Int), y) ∧ y.Perm x ∧ Inv b y lo hi hi := by
  intro n
  induction n with
  | zero =>
    intro k x low at_ high hn hk hl I
    obtain ⟨k, rfl⟩ : ∃ q, k = q + 1 := ⟨k - 1, by omega⟩
    have h2 := I.h2
    obtain rfl : at_ = high := by omega
    exact ⟨low, at_, x, by rw [stats_parted_int.l0, if_neg (by omega)], List.Perm.refl _, I⟩
  | succ n ih =>
    intro k x low at_ high hn hk hl I
    obtain ⟨k, rfl⟩ : ∃ q, k = q + 1 := ⟨k - 1, by omega⟩
    have h1 := I.h1; have h2 := I.h2; have h3 := I.h3
    rw [stats_parted_int.l0, if_pos (by omega), if_pos (by omega), if_pos (by omega)]
    simp only [rd_nat]
    by_cases c : x.getD at_ 0 < b
    · rw [if_pos c, if_pos (by omega), if_pos (by omega), w1 low (by omega), w1 at_ (by omega), Int.toNat_natCast, Int.toNat_natCast]
      have hs := swap_get x low at_
      have hl2 : ((x.set low (x.getD at_ 0)).set at_ (x.getD low 0)).length = x.length := by simp
      obtain ⟨lo, hi, y, e, hp, J⟩ := ih k ((x.set low (x.getD at_ 0)).set at_ (x.getD low 0)) (low + 1) (at_ + 1) high (by omega) (by omega) (by omega) ⟨by omega, by omega, by omega, by
          intro i hi
          rw [hs i (by omega) (by omega)]
          by_cases c1 : at_ = i
          · rw [if_pos c1]; have : low = at_ := by omega
            rw [this]; exact c
          · rw [if_neg c1]
            by_cases c2 : low = i
            · rw [if_pos c2]; exact c
            · rw [if_neg c2]; exact I.lo i (by omega), by
          intro i hi hi2
          rw [hs i (by omega) (by omega)]
          by_cases c1 : at_ = i
          · rw [if_pos c1]; exact I.mid low (by omega) (by omega)
          · rw [if_neg c1, if_neg (by omega)]; exact I.mid i (by omega) (by omega), by
          intro i hi hi2
          rw [hs i (by omega) (by omega), if_neg (by omega), if_neg (by omega)]
          exact I.hi i hi (by omega)⟩
      exact ⟨lo, hi, y, e, hp.trans (swap_perm x low at_ (by omega) (by omega)), J⟩
    · rw [if_neg c]
      by_cases c2 : x.getD at_ 0 > b
      · have w : wrap64 ((high : Int) - 1) = ((high - 1 : Nat) : Int) := by unfold wrap64; omega
        rw [if_pos c2, w, if_pos (by omega), if_pos (by omega), rd_nat, Int.toNat_natCast, Int.toNat_natCast]
        have hs := swap_get x (high - 1) at_
        have hl2 : ((x.set (high - 1) (x.getD at_ 0)).set at_ (x.getD (high - 1) 0)).length = x.length := by simp
        obtain ⟨lo, hi, y, e, hp, J⟩ := ih k ((x.set (high - 1) (x.getD at_ 0)).set at_ (x.getD (high - 1) 0)) low at_ (high - 1) (by omega) (by omega) (by omega) ⟨by omega, by omega, by omega, by
            intro i hi
            rw [hs i (by omega) (by omega), if_neg (by omega), if_neg (by omega)]
            exact I.lo i (by omega), by
            intro i hi hi2
            rw [hs i (by omega) (by omega), if_neg (by omega), if_neg (by omega)]
            exact I.mid i (by omega) (by omega), by
            intro i hi hi2
            rw [hs i (by omega) (by omega)]
            by_cases c1 : at_ = i
            · rw [if_pos c1]; have : high - 1 = at_ := by omega
              rw [this]; exact c2
            · rw [if_neg c1]
              by_cases c3 : high - 1 = i
              · rw [if_pos c3]; exact c2
              · rw [if_neg c3]; exact I.hi i (by omega) (by omega)⟩
        exact ⟨lo, hi, y, e, hp.trans (swap_perm x (high - 1) at_ (by omega) (by omega)), J⟩
      · rw [if_neg c2, w1 at_ (by omega)]
        exact ih k x low (at_ + 1) high (by omega) (by omega) hl ⟨by omega, by omega, h3, I.lo, fun i hi hi2 => by
          by_cases c3 : i = at_
          · subst c3; omega
          · exact I.mid i hi (by omega), I.hi⟩
theorem parted_eq (b : Int) (x : List Int) (k : Nat) (hk : x.length + 1 ≤ k) (hl : x.length < 4611686018427387904) :
    ∃ lo hi y, stats_parted_int.f k x b = some (((lo : Nat) : Int), ((hi : Nat) : Int), y) ∧ y.Perm x ∧ Inv b y lo hi hi :=
  part_eq b x.length k x 0 0 x.length (by omega) hk hl ⟨by omega, by omega, by omega, fun i h => absurd h (by omega), fun i h h' => absurd h' (by omega), fun i h h' => absurd h' (by omega)⟩
end Go.Proofs.Ytnmiagcjfbdfkaa.SB

namespace Go.Proofs.Ytnmiagcjfbdfkaa.SC
open Go.RowKit Go.Proofs.Ytnmiagcjfbdfkaa Go.Proofs.Ytnmiagcjfbdfkaa.PG Go.Proofs.Ytnmiagcjfbdfkaa.WPure Go.Proofs.Ytnmiagcjfbdfkaa.SA Go.Proofs.Ytnmiagcjfbdfkaa.SB Go.Proofs.YtnmiagcjfbdfkaaW.PrintWords Go.Proofs.YtnmiagcjfbdfkaaW.PrintLast Go.Proofs.YtnmiagcjfbdfkaaW.PrintMore

theorem take_all {p : Int → Prop} (y : List Int) (lo : Nat) (h : ∀ i, i < lo → i < y.length → p (y.getD i 0)) : ∀ z ∈ y.take lo, p z := by
  intro z hz
  obtain ⟨i, hi, e⟩ := List.mem_iff_getElem.mp hz
  rw [List.length_take] at hi
  have := h i (by omega) (by omega)
  rw [getD_lt y i (by omega)] at this
  rw [← e, List.getElem_take]
  exact this
theorem drop_all {p : Int → Prop} (y : List Int) (lo : Nat) (h : ∀ i, lo ≤ i → i < y.length → p (y.getD i 0)) : ∀ z ∈ y.drop lo, p z := by
  intro z hz
  obtain ⟨i, hi, e⟩ := List.mem_iff_getElem.mp hz
  rw [List.length_drop] at hi
  have := h (lo + i) (by omega) (by omega)
  rw [getD_lt y (lo + i) (by omega)] at this
  rw [← e, List.getElem_drop]
  exact this
theorem count_split (p : Int → Bool) (y : List Int) (n : Nat) : y.countP p = (y.take n).countP p + (y.drop n).countP p := by
  rw [← List.countP_append, List.take_append_drop]
theorem count_zero {p : Int → Bool} {l : List Int} (h : ∀ z ∈ l, p z = false) : l.countP p = 0 := by
  rw [List.countP_eq_zero]; intro a ha; rw [h a ha]; simp
theorem count_len {p : Int → Bool} {l : List Int} (h : ∀ z ∈ l, p z = true) : l.countP p = l.length := by
  rw [List.countP_eq_length]; exact h
section
variable {b : Int} {y : List Int} {lo hi : Nat}
theorem below (I : Inv b y lo hi hi) : ∀ z ∈ y.take lo, z < b := take_all y lo (fun i h _ => I.lo i h)
theorem notbelow (I : Inv b y lo hi hi) : ∀ z ∈ y.drop lo, b ≤ z := drop_all y lo (fun i h h' => by
  by_cases c : i < hi
  · rw [I.mid i h c]; exact Int.le_refl _
  · exact Int.le_of_lt (I.hi i (by omega) h'))
theorem notabove (I : Inv b y lo hi hi) : ∀ z ∈ y.take hi, z ≤ b := take_all y hi (fun i h _ => by
  by_cases c : i < lo
  · exact Int.le_of_lt (I.lo i c)
  · rw [I.mid i (by omega) h]; exact Int.le_refl _)
theorem above (I : Inv b y lo hi hi) : ∀ z ∈ y.drop hi, b < z := drop_all y hi (fun i h h' => I.hi i h h')
theorem kth_low (I : Inv b y lo hi hi) {i : Nat} {v : Int} (h : Kth (y.take lo) i v) : Kth y i v := by
  have hv := below I v h.mem
  refine ⟨?_, ?_⟩
  · rw [count_split _ y lo, count_zero (l := y.drop lo) (fun z hz => by have := notbelow I z hz; simp; omega)]; exact h.1
  · rw [count_split _ y lo]; exact Nat.lt_of_lt_of_le h.2 (Nat.le_add_right _ _)
theorem kth_high (I : Inv b y lo hi hi) {i : Nat} {v : Int} (hi2 : hi ≤ i) (h : Kth (y.drop hi) (i - hi) v) : Kth y i v := by
  have hv := above I v h.mem
  have h3 := I.h3
  have hl : (y.take hi).length = hi := by rw [List.length_take]; omega
  refine ⟨?_, ?_⟩
  · rw [count_split _ y hi, count_len (l := y.take hi) (fun z hz => by have := notabove I z hz; simp; omega), hl]; have := h.1; omega
  · rw [count_split _ y hi, count_len (l := y.take hi) (fun z hz => by have := notabove I z hz; simp; omega), hl]; have := h.2; omega
theorem kth_mid (I : Inv b y lo hi hi) {i : Nat} (h1 : lo ≤ i) (h2 : i < hi) : Kth y i b := by
  have h3 := I.h3
  have hl : (y.take hi).length = hi := by rw [List.length_take]; omega
  refine ⟨?_, ?_⟩
  · rw [count_split _ y lo, count_zero (l := y.drop lo) (fun z hz => by have := notbelow I z hz; simp; omega)]
    have : (y.take lo).countP (· < b) ≤ (y.take lo).length := List.countP_le_length
    rw [List.length_take] at this; omega
  · rw [count_split _ y hi, count_len (l := y.take hi) (fun z hz => by have := notabove I z hz; simp; omega), hl]; omega
theorem has_mid (I : Inv b y lo hi hi) (h : b ∈ y) : lo < hi := by
  obtain ⟨i, hi2, e⟩ := List.mem_iff_getElem.mp h
  rw [← getD_lt y i hi2] at e
  by_cases c : i < lo
  · have := I.lo i c; omega
  · by_cases c2 : i < hi
    · omega
    · have := I.hi i (by omega) hi2; omega
end
theorem mx_mem {x : List Int} {a b : Int} (h : a ∈ x) (h' : b ∈ x) : mx a b ∈ x := by unfold mx; split <;> assumption
theorem mn_mem {x : List Int} {a b : Int} (h : a ∈ x) (h' : b ∈ x) : mn a b ∈ x := by unfold mn; split <;> assumption
theorem one_kth (x : List Int) (h : x.length = 1) : Kth x 0 (x.getD 0 0) := by
  obtain ⟨a, rfl⟩ := List.length_eq_one_iff.mp h
  constructor <;> simp
theorem kth_l0 : ∀ n k (p x q : List Int) (i : Nat), x.length ≤ n → i < x.length → x.length < 4611686018427387904 → n + x.length + 2 ≤ k →
    ∃ v r, stats_kth_int.l0 k p x q (i : Int) = some (v, r) ∧ Kth x i v ∧ r.Perm (p ++ x ++ q) := by
  intro n
  induction n with
  | zero => intro k p x q i h h'; omega
  | succ n ih =>
    intro k p x q i hn hi hl hk
    obtain ⟨k, rfl⟩ : ∃ q, k = q + 1 := ⟨k - 1, by omega⟩
    rw [stats_kth_int.l0]
    by_cases c : x.length = 1
    · rw [if_neg (by omega), if_pos (by omega)]
      refine ⟨_, _, rfl, ?_, List.Perm.refl _⟩
      have : i = 0 := by omega
      rw [this, show (0 : Int) = ((0 : Nat) : Int) from rfl, rd_nat]
      exact one_kth x c
    · have w2 : wrap64 ((x.length : Int) / 2) = ((x.length / 2 : Nat) : Int) := by unfold wrap64; omega
      have w3 : wrap64 ((x.length : Int) - 1) = ((x.length - 1 : Nat) : Int) := by unfold wrap64; omega
      rw [if_pos (by omega), if_pos (by omega), w2, w3, if_pos (by omega), if_pos (by omega), if_pos (by omega), if_pos (by omega)]
      have hb : mx (mn (rd x 0) (rd x ((x.length / 2 : Nat) : Int))) (mn (mx (rd x 0) (rd x ((x.length / 2 : Nat) : Int))) (rd x ((x.length - 1 : Nat) : Int))) ∈ x := by
        have e0 : rd x 0 ∈ x := by rw [show (0 : Int) = ((0 : Nat) : Int) from rfl, rd_nat]; exact mem_getD x 0 (by omega)
        have e1 : rd x ((x.length / 2 : Nat) : Int) ∈ x := by rw [rd_nat]; exact mem_getD x _ (by omega)
        have e2 : rd x ((x.length - 1 : Nat) : Int) ∈ x := by rw [rd_nat]; exact mem_getD x _ (by omega)
        exact mx_mem (mn_mem e0 e1) (mn_mem (mx_mem e0 e1) e2)
      generalize mx (mn (rd x 0) (rd x ((x.length / 2 : Nat) : Int))) (mn (mx (rd x 0) (rd x ((x.length / 2 : Nat) : Int))) (rd x ((x.length - 1 : Nat) : Int))) = b at hb
      obtain ⟨lo, hi2, y, e, hp, I⟩ := parted_eq b x k (by omega) hl
      rw [e, Option.bind_some]
      have hm := has_mid I (hp.mem_iff.mpr hb)
      have hly := hp.length_eq
      have h3 := I.h3
      simp only [Int.toNat_natCast]
      by_cases c1 : i < lo
      · rw [if_pos (by omega), if_pos (by omega), if_pos (by omega)]
        have hlt : (y.take lo).length = lo := by rw [List.length_take]; omega
        obtain ⟨v, r, e2, hv, hr⟩ := ih k p (y.take lo) (y.drop lo ++ q) i (by omega) (by omega) (by omega) (by omega)
        refine ⟨v, r, e2, (kth_low I hv).perm hp, hr.trans ?_⟩
        rw [List.append_assoc p, ← List.append_assoc (y.take lo), List.take_append_drop, List.append_assoc p]
        exact List.Perm.append_left p (List.Perm.append_right q hp)
      · rw [if_neg (by omega)]
        by_cases c2 : i < hi2
        · rw [if_pos (by omega)]
          refine ⟨b, _, rfl, (kth_mid I (by omega) c2).perm hp, ?_⟩
          exact List.Perm.append_right q (List.Perm.append_left p hp)
        · rw [if_neg (by omega), if_pos (by omega), if_pos (by omega)]
          have hlt : (y.drop hi2).length = y.length - hi2 := by rw [List.length_drop]
          have w4 : wrap64 ((i : Int) - (hi2 : Int)) = ((i - hi2 : Nat) : Int) := by unfold wrap64; omega
          rw [w4]
          obtain ⟨v, r, e2, hv, hr⟩ := ih k (p ++ y.take hi2) (y.drop hi2) q (i - hi2) (by omega) (by omega) (by omega) (by omega)
          refine ⟨v, r, e2, (kth_high I (by omega) hv).perm hp, hr.trans ?_⟩
          rw [List.append_assoc p, List.take_append_drop]
          exact List.Perm.append_right q (List.Perm.append_left p hp)
theorem kth_eq (l : List Int) (i : Nat) (h : i < l.length) (hl : l.length < 4611686018427387904) (k : Nat) (hk : 2 * l.length + 2 ≤ k) :
    ∃ r, stats_kth_int.f k l (i : Int) = some (kthN l i, r) ∧ r.Perm l ∧ Kth l i (kthN l i) := by
  obtain ⟨v, r, e, hv, hr⟩ := kth_l0 l.length k [] l [] i (Nat.le_refl _) h hl (by omega)
  rw [kthN_eq hv]
  exact ⟨r, e, by simpa using hr, hv⟩
theorem kth_is (l : List Int) (i : Nat) (h : i < l.length) (hl : l.length < 4611686018427387904) : Kth l i (kthN l i) := (kth_eq l i h hl _ (Nat.le_refl _)).choose_spec.2.2
theorem kth_perm {l m : List Int} (hp : l.Perm m) (i : Nat) (h : i < l.length) (hl : l.length < 4611686018427387904) : kthN l i = kthN m i :=
  (kthN_eq ((kth_is l i h hl).perm hp)).symm
theorem clone_eq (l : List Int) (hl : l.length ≤ 4096) : slices_Clone_int_int.f l = some l := by
  unfold slices_Clone_int_int.f; rw [if_pos (by omega)]
def smallN (l : List Int) (a : Int) : Int × Int := if good l ∧ 1 ≤ a ∧ a ≤ l.length then (kthN l (a - 1).toNat, 0) else (0, 5)
theorem small_eq (l : List Int) (a : Int) (k : Nat) (hk : 2 * l.length + 4 ≤ k) : stats_Small.f k l a = some (smallN l a) := by
  unfold stats_Small.f smallN
  obtain ⟨k, rfl⟩ : ∃ q, k = q + 1 := ⟨k - 1, by omega⟩
  rw [good_eq l (k + 1) (by omega), Option.bind_some]
  by_cases hg : good l
  · rw [if_pos (decide_eq_true hg)]
    by_cases c : 1 ≤ a ∧ a ≤ l.length
    · rw [if_neg (by omega), if_pos ⟨hg, c⟩, stats_Small.j0, if_neg (by simp; omega), clone_eq l hg.1, Option.bind_some]
      have w : wrap64 (a - 1) = (((a - 1).toNat : Nat) : Int) := by have := hg.1; unfold wrap64; omega
      obtain ⟨r, e, _⟩ := kth_eq l (a - 1).toNat (by omega) (by have := hg.1; omega) k (by omega)
      rw [w, e]; rfl
    · rw [if_neg (show ¬ (good l ∧ 1 ≤ a ∧ a ≤ l.length) from fun z => c z.2)]
      by_cases c2 : a < 1
      · rw [if_pos c2, stats_Small.j0, if_pos rfl]
      · rw [if_neg c2, stats_Small.j0, if_pos (by simp; omega)]
  · rw [if_neg (by simpa using hg), if_neg (fun z => hg z.1), stats_Small.j0, if_pos rfl]
def largeN (l : List Int) (a : Int) : Int × Int := if good l ∧ 1 ≤ a ∧ a ≤ l.length then (kthN l (l.length - a).toNat, 0) else (0, 5)
theorem large_eq (l : List Int) (a : Int) (k : Nat) (hk : 2 * l.length + 4 ≤ k) : stats_Large.f k l a = some (largeN l a) := by
  unfold stats_Large.f largeN
  by_cases c1 : a < 1
  · rw [if_pos c1, if_neg (by omega)]
  · rw [if_neg c1]
    by_cases c2 : a > (l.length : Int)
    · rw [if_pos c2, if_neg (by omega)]
    · rw [if_neg c2, small_eq l _ k hk, Option.bind_some]
      unfold smallN
      by_cases hg : good l
      · have w : wrap64 (wrap64 ((l.length : Int) + 1) - a) = l.length + 1 - a := by have := hg.1; unfold wrap64; omega
        rw [w, if_pos (show good l ∧ 1 ≤ (l.length : Int) + 1 - a ∧ (l.length : Int) + 1 - a ≤ l.length from ⟨hg, by omega, by omega⟩), if_pos (show good l ∧ 1 ≤ a ∧ a ≤ l.length from ⟨hg, by omega, by omega⟩)]
        rw [show (l.length : Int) + 1 - a - 1 = l.length - a by omega]
      · rw [if_neg (fun z => hg z.1), if_neg (fun z => hg z.1)]
def medN (l : List Int) : Int × Int := if good l ∧ l.length ≠ 0 then (if l.length % 2 = 1 then (kthN l (l.length / 2), 0) else (meanV (kthN l (l.length / 2 - 1) + kthN l (l.length / 2)) 2, 0)) else (0, 5)
theorem avg_two (a b : Int) (ha : fits a) (hb : fits b) : avgN [a, b] = (meanV (a + b) 2, 0) := by
  unfold avgN
  rw [if_pos (show good [a, b] from ⟨by simp, fun x hx => by
    rcases List.mem_cons.mp hx with e | e
    · rw [e]; exact ha
    · rw [List.mem_singleton.mp e]; exact hb⟩), if_neg (by simp)]
  simp
theorem med_eq (l : List Int) (k : Nat) (hk : 2 * l.length + 60 ≤ k) : stats_Median.f k l = some (medN l) := by
  unfold stats_Median.f medN
  obtain ⟨k, rfl⟩ : ∃ q, k = q + 1 := ⟨k - 1, by omega⟩
  rw [good_eq l (k + 1) (by omega), Option.bind_some]
  by_cases hg : good l
  · rw [if_pos (decide_eq_true hg)]
    have hl := hg.1
    by_cases c : l.length = 0
    · rw [if_neg (fun z => z.2 c), stats_Median.j0, if_pos (by simp [c])]
    · have w : wrap64 ((l.length : Int) / 2) = ((l.length / 2 : Nat) : Int) := by unfold wrap64; omega
      rw [if_pos (show good l ∧ l.length ≠ 0 from ⟨hg, c⟩), stats_Median.j0, if_neg (by simpa using c), clone_eq l hl, Option.bind_some, w]
      obtain ⟨r, e, hr, hv⟩ := kth_eq l (l.length / 2) (by omega) (by omega) k (by omega)
      rw [e, Option.bind_some]
      by_cases c2 : l.length % 2 = 1
      · rw [if_pos (by omega), if_pos c2]
      · have w2 : wrap64 (((l.length / 2 : Nat) : Int) - 1) = ((l.length / 2 - 1 : Nat) : Int) := by unfold wrap64; omega
        have hlr := hr.length_eq
        obtain ⟨r2, e2, hr2, hv2⟩ := kth_eq r (l.length / 2 - 1) (by omega) (by omega) k (by omega)
        rw [if_neg (by omega), if_neg c2, w2, e2, Option.bind_some, kth_perm hr _ (by omega) (by omega)]
        have hv3 := kth_is l (l.length / 2 - 1) (by omega) (by omega)
        rw [avg_eq _ k (by simp; omega), Option.bind_some, avg_two _ _ (hg.2 _ hv3.mem) (hg.2 _ hv.mem)]
  · rw [if_neg (by simpa using hg), if_neg (fun z => hg z.1), stats_Median.j0, if_pos rfl]
end Go.Proofs.Ytnmiagcjfbdfkaa.SC

namespace Go.Proofs.Ytnmiagcjfbdfkaa.SD
open Go.RowKit Go.Proofs.Ytnmiagcjfbdfkaa Go.Proofs.Ytnmiagcjfbdfkaa.PG Go.Proofs.Ytnmiagcjfbdfkaa.WPure Go.Proofs.Ytnmiagcjfbdfkaa.SA Go.Proofs.Ytnmiagcjfbdfkaa.SB Go.Proofs.Ytnmiagcjfbdfkaa.SC Go.Proofs.YtnmiagcjfbdfkaaW.PrintWords Go.Proofs.YtnmiagcjfbdfkaaW.PrintLast Go.Proofs.YtnmiagcjfbdfkaaW.PrintMore

/-! ### ends -/
theorem max_l0 (l : List Int) (hl : l.length < 4611686018427387904) : ∀ n k i (m : Int), i + n = l.length → n + 1 ≤ k → m ∈ l → (∀ z ∈ l.take i, z ≤ m) →
    ∃ v, slices_Max_int_int.l0 k l m (i : Int) = some v ∧ v ∈ l ∧ ∀ z ∈ l, z ≤ v := by
  intro n
  induction n with
  | zero =>
    intro k i m hi hk hm h
    obtain ⟨k, rfl⟩ : ∃ q, k = q + 1 := ⟨k - 1, by omega⟩
    rw [slices_Max_int_int.l0, if_neg (by omega)]
    exact ⟨m, rfl, hm, by rwa [List.take_of_length_le (by omega)] at h⟩
  | succ n ih =>
    intro k i m hi hk hm h
    obtain ⟨k, rfl⟩ : ∃ q, k = q + 1 := ⟨k - 1, by omega⟩
    rw [slices_Max_int_int.l0, if_pos (by omega), if_pos (by omega), rd_nat, w1 i (by omega)]
    refine ih k (i + 1) _ (by omega) (by omega) (mx_mem hm (mem_getD l i (by omega))) ?_
    intro z hz
    rw [List.take_add_one, List.getElem?_eq_getElem (by omega), ← getD_lt l i (by omega)] at hz
    rcases List.mem_append.mp hz with hz | hz
    · have := h z hz; unfold mx; split <;> omega
    · have : z = l.getD i 0 := by simpa using hz
      rw [this]; unfold mx; split <;> omega
theorem min_l0 (l : List Int) (hl : l.length < 4611686018427387904) : ∀ n k i (m : Int), i + n = l.length → n + 1 ≤ k → m ∈ l → (∀ z ∈ l.take i, m ≤ z) →
    ∃ v, slices_Min_int_int.l0 k l m (i : Int) = some v ∧ v ∈ l ∧ ∀ z ∈ l, v ≤ z := by
  intro n
  induction n with
  | zero =>
    intro k i m hi hk hm h
    obtain ⟨k, rfl⟩ : ∃ q, k = q + 1 := ⟨k - 1, by omega⟩
    rw [slices_Min_int_int.l0, if_neg (by omega)]
    exact ⟨m, rfl, hm, by rwa [List.take_of_length_le (by omega)] at h⟩
  | succ n ih =>
    intro k i m hi hk hm h
    obtain ⟨k, rfl⟩ : ∃ q, k = q + 1 := ⟨k - 1, by omega⟩
    rw [slices_Min_int_int.l0, if_pos (by omega), if_pos (by omega), rd_nat, w1 i (by omega)]
    refine ih k (i + 1) _ (by omega) (by omega) (mn_mem hm (mem_getD l i (by omega))) ?_
    intro z hz
    rw [List.take_add_one, List.getElem?_eq_getElem (by omega), ← getD_lt l i (by omega)] at hz
    rcases List.mem_append.mp hz with hz | hz
    · have := h z hz; unfold mn; split <;> omega
    · have : z = l.getD i 0 := by simpa using hz
      rw [this]; unfold mn; split <;> omega
theorem count_mem_lt {l : List Int} {v : Int} (h : v ∈ l) {p : Int → Bool} (hp : p v = false) : l.countP p < l.length := by
  have h1 : l.countP p ≤ l.length := List.countP_le_length
  have h2 : l.countP p ≠ l.length := fun e => by
    have := (List.countP_eq_length.mp e) v h
    rw [hp] at this; exact absurd this (by simp)
  omega
theorem kth_max {l : List Int} {v : Int} (h : v ∈ l) (h' : ∀ z ∈ l, z ≤ v) : Kth l (l.length - 1) v := by
  have h1 := count_mem_lt h (p := (· < v)) (by simp)
  have h2 : l.countP (· ≤ v) = l.length := count_len (fun z hz => by simpa using h' z hz)
  exact ⟨by omega, by omega⟩
theorem kth_min {l : List Int} {v : Int} (h : v ∈ l) (h' : ∀ z ∈ l, v ≤ z) : Kth l 0 v := by
  have h1 : l.countP (· < v) = 0 := count_zero (fun z hz => by have := h' z hz; simp; omega)
  have h2 : 0 < l.countP (· ≤ v) := List.countP_pos_iff.mpr ⟨v, h, by simp⟩
  exact ⟨by omega, h2⟩
def grN (l : List Int) : Int × Int := if good l then (if l.length = 0 then (0, 0) else (kthN l (l.length - 1), 0)) else (0, 5)
def leN (l : List Int) : Int × Int := if good l then (if l.length = 0 then (0, 0) else (kthN l 0, 0)) else (0, 5)
theorem gr_eq (l : List Int) (k : Nat) (hk : l.length + 2 ≤ k) : stats_Greatest.f k l = some (grN l) := by
  unfold stats_Greatest.f grN
  rw [good_eq l k (by omega), Option.bind_some]
  by_cases hg : good l
  · have hl := hg.1
    rw [if_pos (decide_eq_true hg), if_pos hg]
    by_cases c : l.length = 0
    · rw [if_pos (by omega), if_pos c]
    · rw [if_neg (by omega), if_neg c]
      unfold slices_Max_int_int.f
      rw [if_neg (by omega), if_pos (by omega)]
      obtain ⟨v, e, hv, hm⟩ := max_l0 l (by omega) (l.length - 1) k 1 (rd l 0) (by omega) (by omega) (by rw [show (0 : Int) = ((0 : Nat) : Int) from rfl, rd_nat]; exact mem_getD l 0 (by omega)) (by
        intro z hz
        obtain ⟨a, m, rfl⟩ : ∃ a m, l = a :: m := by
          cases l with
          | nil => exact absurd rfl c
          | cons a m => exact ⟨a, m, rfl⟩
        have : z = a := by simpa using hz
        rw [this]; simp [rd])
      rw [show ((1 : Nat) : Int) = 1 from rfl] at e
      rw [e, Option.bind_some, kthN_eq (kth_max hv hm)]
  · rw [if_neg (by simpa using hg), if_neg hg]
theorem le_eq (l : List Int) (k : Nat) (hk : l.length + 2 ≤ k) : stats_Least.f k l = some (leN l) := by
  unfold stats_Least.f leN
  rw [good_eq l k (by omega), Option.bind_some]
  by_cases hg : good l
  · have hl := hg.1
    rw [if_pos (decide_eq_true hg), if_pos hg]
    by_cases c : l.length = 0
    · rw [if_pos (by omega), if_pos c]
    · rw [if_neg (by omega), if_neg c]
      unfold slices_Min_int_int.f
      rw [if_neg (by omega), if_pos (by omega)]
      obtain ⟨v, e, hv, hm⟩ := min_l0 l (by omega) (l.length - 1) k 1 (rd l 0) (by omega) (by omega) (by rw [show (0 : Int) = ((0 : Nat) : Int) from rfl, rd_nat]; exact mem_getD l 0 (by omega)) (by
        intro z hz
        obtain ⟨a, m, rfl⟩ : ∃ a m, l = a :: m := by
          cases l with
          | nil => exact absurd rfl c
          | cons a m => exact ⟨a, m, rfl⟩
        have : z = a := by simpa using hz
        rw [this]; simp [rd])
      rw [show ((1 : Nat) : Int) = 1 from rfl] at e
      rw [e, Option.bind_some, kthN_eq (kth_min hv hm)]
  · rw [if_neg (by simpa using hg), if_neg hg]

/-! ### the place -/
theorem index_l0 (l : List Int) (v : Int) (hl : l.length < 4611686018427387904) : ∀ n k i, i + n = l.length → n + 1 ≤ k →
    ∃ t, slices_Index_int_int.l0 k l v (l.length : Int) (i : Int) = some t ∧ (0 ≤ t ↔ v ∈ l.drop i) := by
  intro n
  induction n with
  | zero =>
    intro k i hi hk
    obtain ⟨k, rfl⟩ : ∃ q, k = q + 1 := ⟨k - 1, by omega⟩
    refine ⟨-1, by rw [slices_Index_int_int.l0, if_neg (by omega)], ?_⟩
    rw [List.drop_eq_nil_of_le (by omega)]; simp
  | succ n ih =>
    intro k i hi hk
    obtain ⟨k, rfl⟩ : ∃ q, k = q + 1 := ⟨k - 1, by omega⟩
    rw [slices_Index_int_int.l0, if_pos (by omega), if_pos (by omega), if_pos (by omega), rd_nat, drop_cons l i (by omega)]
    by_cases c : v = l.getD i 0
    · rw [if_pos c]; exact ⟨i, rfl, fun _ => by rw [← c]; exact List.mem_cons_self, fun _ => by omega⟩
    · rw [if_neg c, w1 i (by omega)]
      obtain ⟨t, e, h⟩ := ih k (i + 1) (by omega) (by omega)
      exact ⟨t, e, h.trans ⟨List.mem_cons_of_mem _, fun z => (List.mem_cons.mp z).resolve_left c⟩⟩
theorem contains_eq (l : List Int) (v : Int) (hl : l.length < 4611686018427387904) (k : Nat) (hk : l.length + 1 ≤ k) : slices_Contains_int_int.f k l v = some (decide (v ∈ l)) := by
  unfold slices_Contains_int_int.f slices_Index_int_int.f
  obtain ⟨t, e, h⟩ := index_l0 l v hl l.length k 0 (by omega) hk
  rw [show ((0 : Nat) : Int) = 0 from rfl] at e
  rw [e, Option.bind_some]
  rw [List.drop_zero] at h
  congr 1; rw [decide_eq_decide]; exact h
abbrev ahead (n : Int) (up : Bool) (x : Int) : Bool := if up then decide (x < n) else decide (n < x)
theorem rank_l0 (l : List Int) (n : Int) (up : Bool) (hl : l.length ≤ 4096) : ∀ m k i (c : Nat), i + m = l.length → m + 1 ≤ k → c ≤ i →
    stats_Rank.l0 k n up (c : Int) l (l.length : Int) (i : Int) = some ((((c + (l.drop i).countP (ahead n up) : Nat) : Int) + 1) * 1000000, 0) := by
  intro m
  induction m with
  | zero =>
    intro k i c hi hk hc
    obtain ⟨k, rfl⟩ : ∃ q, k = q + 1 := ⟨k - 1, by omega⟩
    rw [stats_Rank.l0, if_neg (by omega), List.drop_eq_nil_of_le (by omega), List.countP_nil, Nat.add_zero]
    have w : wrap64 (wrap64 ((c : Int) + 1) * 1000000) = ((c : Int) + 1) * 1000000 := by
      have : wrap64 ((c : Int) + 1) = (c : Int) + 1 := by unfold wrap64; omega
      rw [this]; unfold wrap64; omega
    rw [w]
  | succ m ih =>
    intro k i c hi hk hc
    obtain ⟨k, rfl⟩ : ∃ q, k = q + 1 := ⟨k - 1, by omega⟩
    rw [stats_Rank.l0, if_pos (by omega), if_pos (by omega), if_pos (by omega), rd_nat, drop_cons l i (by omega), List.countP_cons, w1 i (by omega)]
    generalize l.getD i 0 = x
    by_cases c1 : x = n
    · have ha : ahead n up x = false := by unfold ahead; subst c1; cases up <;> simp
      rw [if_pos c1, ih k (i + 1) c (by omega) (by omega) (by omega), ha]; simp
    · rw [if_neg c1]
      by_cases c2 : ((decide (x < n)) == up) = true
      · have ha : ahead n up x = true := by
          unfold ahead
          cases up
          · simp at c2 ⊢; omega
          · simp at c2 ⊢; omega
        rw [if_pos c2, w1 c (by omega), ih k (i + 1) (c + 1) (by omega) (by omega) (by omega), ha, if_pos rfl]
        congr 3; push_cast; omega
      · have ha : ahead n up x = false := by
          unfold ahead
          cases up
          · simp at c2 ⊢; omega
          · simp at c2 ⊢; omega
        rw [if_neg c2, ih k (i + 1) c (by omega) (by omega) (by omega), ha]; simp
def rankN (n : Int) (l : List Int) (up : Bool) : Int × Int := if good l ∧ fits n then (if n ∈ l then (((l.countP (ahead n up) : Nat) + 1 : Int) * 1000000, 0) else (0, 6)) else (0, 5)
theorem rank_eq (n : Int) (l : List Int) (up : Bool) (k : Nat) (hk : l.length + 3 ≤ k) : stats_Rank.f k n l up = some (rankN n l up) := by
  unfold stats_Rank.f rankN
  obtain ⟨k, rfl⟩ : ∃ q, k = q + 1 := ⟨k - 1, by omega⟩
  rw [good_eq l (k + 1) (by omega), Option.bind_some]
  by_cases hg : good l
  · have hl := hg.1
    rw [if_pos (decide_eq_true hg), fits_eq, Option.bind_some]
    by_cases hf : fits n
    · rw [if_pos (show good l ∧ fits n from ⟨hg, hf⟩), stats_Rank.j0, decide_eq_true hf, if_neg (by simp), contains_eq l n (by omega) k (by omega), Option.bind_some]
      by_cases hm : n ∈ l
      · rw [if_pos (decide_eq_true hm), if_pos hm]
        have := rank_l0 l n up hl l.length k 0 0 (by omega) (by omega) (by omega)
        rw [List.drop_zero, Nat.zero_add] at this
        exact this
      · rw [if_neg (by simpa using hm), if_neg hm]
    · rw [if_neg (fun z => hf z.2), stats_Rank.j0, decide_eq_false hf, Bool.not_false, if_pos rfl]
  · rw [if_neg (by simpa using hg), if_neg (fun z => hg z.1), stats_Rank.j0, if_pos rfl]
def modeN (l : List Int) : Int × Int := if good l then (if (l.foldl (stats_Mode.step l) (1, 0)).1 = 1 then (0, 6) else ((l.foldl (stats_Mode.step l) (1, 0)).2, 0)) else (0, 5)
theorem mode_eq (l : List Int) (k : Nat) (hk : l.length + 1 ≤ k) : stats_Mode.f k l = some (modeN l) := by
  unfold stats_Mode.f modeN
  rw [good_eq l k hk, Option.bind_some]
  by_cases hg : good l
  · rw [if_pos (decide_eq_true hg), if_pos hg, if_pos (show l.length ≤ 4096 ∧ _ from ⟨hg.1, hg.2⟩)]
    split <;> rfl
  · rw [if_neg (by simpa using hg), if_neg hg]

/-! ### told with some rounds -/
theorem sum_x (l : List Int) {r : Int × Int} (h : some (sumN l) = some r) : ∃ k, stats_Sum.f k l = some r := ⟨_, (sum_eq l _ (Nat.le_refl _)).trans h⟩
theorem avg_x (l : List Int) {r : Int × Int} (h : some (avgN l) = some r) : ∃ k, stats_Mean.f k l = some r := ⟨_, (avg_eq l _ (Nat.le_refl _)).trans h⟩
theorem med_x (l : List Int) {r : Int × Int} (h : some (medN l) = some r) : ∃ k, stats_Median.f k l = some r := ⟨_, (med_eq l _ (Nat.le_refl _)).trans h⟩
theorem small_x (l : List Int) (a : Int) {r : Int × Int} (h : some (smallN l a) = some r) : ∃ k, stats_Small.f k l a = some r := ⟨_, (small_eq l a _ (Nat.le_refl _)).trans h⟩
theorem large_x (l : List Int) (a : Int) {r : Int × Int} (h : some (largeN l a) = some r) : ∃ k, stats_Large.f k l a = some r := ⟨_, (large_eq l a _ (Nat.le_refl _)).trans h⟩
theorem gr_x (l : List Int) {r : Int × Int} (h : some (grN l) = some r) : ∃ k, stats_Greatest.f k l = some r := ⟨_, (gr_eq l _ (Nat.le_refl _)).trans h⟩
theorem le_x (l : List Int) {r : Int × Int} (h : some (leN l) = some r) : ∃ k, stats_Least.f k l = some r := ⟨_, (le_eq l _ (Nat.le_refl _)).trans h⟩
theorem rank_x (n : Int) (l : List Int) (up : Bool) {r : Int × Int} (h : some (rankN n l up) = some r) : ∃ k, stats_Rank.f k n l up = some r := ⟨_, (rank_eq n l up _ (Nat.le_refl _)).trans h⟩
theorem mode_x (l : List Int) {r : Int × Int} (h : some (modeN l) = some r) : ∃ k, stats_Mode.f k l = some r := ⟨_, (mode_eq l _ (Nat.le_refl _)).trans h⟩
end Go.Proofs.Ytnmiagcjfbdfkaa.SD
