/- Mean and midst lie between the ends; half of the numbers at least are not above the midst, and half not below. The law in plain numbers. -/
import Derived.Test.YtnmiagcjfbdfkaaPStatsBetweenx
import Derived.Test.YtnmiagcjfbdfkaaGPure
set_option linter.unusedVariables false
namespace Go.Proofs.Ytnmiagcjfbdfkaa.Pure
open Go Go.RowKit WPure SA SB SC SD
open Go.Proofs.YtnmiagcjfbdfkaaW.PrintWords Go.Proofs.YtnmiagcjfbdfkaaW.PrintLast Go.Proofs.YtnmiagcjfbdfkaaW.PrintMore
theorem meanN_up (S c b : Nat) (hc : 0 < c) (h : S ≤ c * b) : meanN S c ≤ b := by
  have hdm := Nat.div_add_mod S c
  have hlt := Nat.mod_lt S hc
  have hq : S / c ≤ b := by
    have := (Nat.div_le_div_right (c := c) h)
    rwa [Nat.mul_div_cancel_left _ hc] at this
  unfold meanN
  by_cases he : S / c = b
  · have : S % c = 0 := by rw [he] at hdm; omega
    rw [if_neg (by omega)]; omega
  · split <;> omega
theorem meanN_dn (S c a : Nat) (hc : 0 < c) (h : c * a ≤ S) : a ≤ meanN S c := by
  have hq : a ≤ S / c := by rw [Nat.le_div_iff_mul_le hc, Nat.mul_comm]; exact h
  unfold meanN
  split <;> omega
theorem nat_of_mul_le {c : Nat} {b s : Int} (hb : 0 ≤ b) (h : s ≤ c * b) : s.toNat ≤ c * b.toNat := by
  obtain ⟨n, rfl⟩ := Int.eq_ofNat_of_zero_le hb
  rw [Int.toNat_natCast]
  have : ((c * n : Nat) : Int) = (c : Int) * (n : Int) := Int.natCast_mul c n
  omega
theorem nat_of_le_mul {c : Nat} {b s : Int} (hb : 0 ≤ b) (hs : 0 ≤ s) (h : c * b ≤ s) : c * b.toNat ≤ s.toNat := by
  obtain ⟨n, rfl⟩ := Int.eq_ofNat_of_zero_le hb
  rw [Int.toNat_natCast]
  have : ((c * n : Nat) : Int) = (c : Int) * (n : Int) := Int.natCast_mul c n
  omega
theorem neg_of_mul_neg {c : Nat} (hc : 0 < c) {b s : Int} (hs : s < 0) (h : (c : Int) * b ≤ s) : b < 0 := by
  by_cases hb : 0 ≤ b
  · have := Int.mul_nonneg (show (0 : Int) ≤ c by omega) hb
    omega
  · omega
theorem nonneg_of_mul {c : Nat} (hc : 0 < c) {b s : Int} (hs : 0 ≤ s) (h : s ≤ (c : Int) * b) : 0 ≤ b := by
  by_cases hb : 0 ≤ b
  · exact hb
  · have : (c : Int) * b < 0 := Int.mul_neg_of_pos_of_neg (by omega) (by omega)
    omega
theorem meanI_between (s low high : Int) (c : Nat) (hc : 0 < c) (h1 : c * low ≤ s) (h2 : s ≤ c * high) : low ≤ meanV s c ∧ meanV s c ≤ high := by
  unfold meanV
  by_cases hs : s < 0
  · rw [if_pos hs]
    have hl := neg_of_mul_neg hc hs h1
    have e1 : (-s) ≤ c * (-low) := by rw [Int.mul_neg]; omega
    have u := meanN_up (-s).toNat c (-low).toNat hc (nat_of_mul_le (by omega) e1)
    have es : (-s).toNat = s.natAbs := by omega
    rw [es] at u
    refine ⟨by omega, ?_⟩
    by_cases hh : 0 ≤ high
    · omega
    · have e2 : c * (-high) ≤ -s := by rw [Int.mul_neg]; omega
      have d := meanN_dn (-s).toNat c (-high).toNat hc (nat_of_le_mul (by omega) (by omega) e2)
      rw [es] at d
      omega
  · rw [if_neg hs]
    have hh := nonneg_of_mul hc (by omega) h2
    have u := meanN_up s.toNat c high.toNat hc (nat_of_mul_le hh h2)
    have es : s.toNat = s.natAbs := by omega
    rw [es] at u
    refine ⟨?_, by omega⟩
    by_cases hl : low ≤ 0
    · omega
    · have d := meanN_dn s.toNat c low.toNat hc (nat_of_le_mul (by omega) (by omega) h1)
      rw [es] at d
      omega


theorem kth_ends {l : List Int} (hl : l.length < 4611686018427387904) (i : Nat) (h : i < l.length) : kthN l 0 ≤ kthN l i ∧ kthN l i ≤ kthN l (l.length - 1) := by
  have h0 := kth_is l 0 (by omega) hl
  have h1 := kth_is l i h hl
  have h2 := kth_is l (l.length - 1) (by omega) hl
  have a0 : ∀ z ∈ l, kthN l 0 ≤ z := by
    intro z hz
    apply Classical.byContradiction
    intro c
    have : 0 < l.countP (· < kthN l 0) := List.countP_pos_iff.mpr ⟨z, hz, by simp; omega⟩
    have := h0.1; omega
  have a2 : ∀ z ∈ l, z ≤ kthN l (l.length - 1) := by
    intro z hz
    apply Classical.byContradiction
    intro c
    have := count_mem_lt hz (p := (· ≤ kthN l (l.length - 1))) (by simp; omega)
    have := h2.2; omega
  exact ⟨a0 _ h1.mem, a2 _ h1.mem⟩
theorem kth_low_all {l : List Int} (hl : l.length < 4611686018427387904) (h : 0 < l.length) : ∀ z ∈ l, kthN l 0 ≤ z := by
  intro z hz
  have h0 := kth_is l 0 h hl
  apply Classical.byContradiction
  intro c
  have : 0 < l.countP (· < kthN l 0) := List.countP_pos_iff.mpr ⟨z, hz, by simp; omega⟩
  have := h0.1; omega
theorem kth_high_all {l : List Int} (hl : l.length < 4611686018427387904) (h : 0 < l.length) : ∀ z ∈ l, z ≤ kthN l (l.length - 1) := by
  intro z hz
  have h2 := kth_is l (l.length - 1) (by omega) hl
  apply Classical.byContradiction
  intro c
  have := count_mem_lt hz (p := (· ≤ kthN l (l.length - 1))) (by simp; omega)
  have := h2.2; omega
theorem sum_between (l : List Int) (a b : Int) (h : ∀ z ∈ l, a ≤ z ∧ z ≤ b) : (l.length : Int) * a ≤ l.sum ∧ l.sum ≤ (l.length : Int) * b := by
  induction l with
  | nil => simp
  | cons x l ih =>
    have h1 := ih (fun z hz => h z (List.mem_cons_of_mem _ hz))
    have h2 := h x List.mem_cons_self
    have e : ∀ c : Int, ((x :: l).length : Int) * c = (l.length : Int) * c + c := by intro c; rw [List.length_cons]; push_cast; rw [Int.add_mul, Int.one_mul]
    rw [e, e, List.sum_cons]
    omega
theorem count_not (l : List Int) (v : Int) : l.countP (v ≤ ·) = l.length - l.countP (· < v) := by
  induction l with
  | nil => rfl
  | cons x l ih =>
    have hc : l.countP (· < v) ≤ l.length := List.countP_le_length
    rw [List.countP_cons, List.countP_cons, ih, List.length_cons]
    by_cases c : x < v
    · simp [c, show ¬ v ≤ x by omega]
    · simp [c, show v ≤ x by omega]; omega
/-- What the midst is. -/
def midV (l : List Int) : Int := if l.length % 2 = 1 then kthN l (l.length / 2) else meanV (kthN l (l.length / 2 - 1) + kthN l (l.length / 2)) 2
theorem kth_le (l : List Int) (hl : l.length < 4611686018427387904) (i : Nat) (h : i + 1 < l.length) : kthN l i ≤ kthN l (i + 1) := by
  have h1 := kth_is l i (by omega) hl
  have h2 := kth_is l (i + 1) h hl
  apply Classical.byContradiction
  intro c
  have := count_le (p := (· ≤ kthN l (i + 1))) (q := (· < kthN l i)) l (fun x _ hx => by simp at *; omega)
  have := h1.1; have := h2.2; omega
theorem mid_between (l : List Int) (hl : l.length < 4611686018427387904) (h : 0 < l.length) :
    kthN l 0 ≤ midV l ∧ midV l ≤ kthN l (l.length - 1) ∧ l.length ≤ 2 * l.countP (· ≤ midV l) ∧ l.length ≤ 2 * l.countP (midV l ≤ ·) := by
  unfold midV
  have hm := kth_is l (l.length / 2) (by omega) hl
  by_cases c : l.length % 2 = 1
  · simp only [if_pos c]
    have e := kth_ends hl (l.length / 2) (by omega)
    refine ⟨e.1, e.2, ?_, ?_⟩
    · have := hm.2; omega
    · rw [count_not]; have := hm.1; omega
  · simp only [if_neg c]
    have h1 := kth_is l (l.length / 2 - 1) (by omega) hl
    have hle := kth_le l hl (l.length / 2 - 1) (by omega)
    rw [show l.length / 2 - 1 + 1 = l.length / 2 by omega] at hle
    have e0 := kth_ends hl (l.length / 2 - 1) (by omega)
    have e1 := kth_ends hl (l.length / 2) (by omega)
    have mb := meanI_between (kthN l (l.length / 2 - 1) + kthN l (l.length / 2)) (kthN l (l.length / 2 - 1)) (kthN l (l.length / 2)) 2 (by omega) (by omega) (by omega)
    generalize meanV (kthN l (l.length / 2 - 1) + kthN l (l.length / 2)) 2 = v at mb
    refine ⟨by omega, by omega, ?_, ?_⟩
    · have := count_le (p := (· ≤ kthN l (l.length / 2 - 1))) (q := (· ≤ v)) l (fun x _ hx => by simp at *; omega)
      have := h1.2; omega
    · have := count_le (p := (kthN l (l.length / 2) ≤ ·)) (q := (v ≤ ·)) l (fun x _ hx => by simp at *; omega)
      rw [count_not] at this
      have := hm.1; omega
open PStatsBetween in
theorem bet_l0 (l : List Int) (lo hi mean mid : Int) (hl : l.length ≤ 2000) (h1 : ∀ z ∈ l, lo ≤ z ∧ z ≤ hi) (h2 : lo ≤ mean ∧ mean ≤ hi) (h3 : lo ≤ mid ∧ mid ≤ hi)
    (h4 : l.length ≤ 2 * l.countP (· ≤ mid)) (h5 : l.length ≤ 2 * l.countP (mid ≤ ·)) : ∀ n k i (u o : Nat), i + n = l.length → 2 * n + 1 ≤ k → u ≤ i → o ≤ i →
    u + (l.drop i).countP (· ≤ mid) = l.countP (· ≤ mid) → o + (l.drop i).countP (mid ≤ ·) = l.countP (mid ≤ ·) →
    foolscaplaw16_StatsBetween.l0 k l lo hi 0 mean 0 mid 0 (u : Int) (o : Int) (i : Int) = some true := by
  intro n
  induction n with
  | zero =>
    intro k i u o hi2 hk hu ho eu eo
    obtain ⟨k, rfl⟩ : ∃ q, k = q + 1 := ⟨k - 1, by omega⟩
    rw [List.drop_eq_nil_of_le (by omega), List.countP_nil] at eu eo
    have w1' : wrap64 (2 * (u : Int)) = 2 * u := by unfold wrap64; omega
    have w2' : wrap64 (2 * (o : Int)) = 2 * o := by unfold wrap64; omega
    rw [foolscaplaw16_StatsBetween.l0, if_neg (by omega), if_pos rfl, if_pos rfl, if_pos rfl, if_pos (by omega), if_pos (by omega), if_pos (by omega), if_pos (by omega), w1', w2', if_pos (by omega), if_pos (by omega)]
    rfl
  | succ n ih =>
    intro k i u o hi2 hk hu ho eu eo
    obtain ⟨k, rfl⟩ : ∃ q, k = q + 1 + 1 := ⟨k - 2, by omega⟩
    have hz := h1 _ (mem_getD l i (by omega))
    rw [drop_cons l i (by omega), List.countP_cons] at eu eo
    rw [foolscaplaw16_StatsBetween.l0, if_pos (by omega), if_pos (by omega), rd_nat]
    have key : ∀ u' : Nat, u' ≤ i + 1 → u' + (l.drop (i + 1)).countP (· ≤ mid) = l.countP (· ≤ mid) → foolscaplaw16_StatsBetween.j2 (k + 1) l lo hi 0 mean 0 mid 0 (u' : Int) (o : Int) (i : Int) = some true := by
      intro u' hu' eu'
      rw [foolscaplaw16_StatsBetween.j2, if_pos (by omega), if_pos (by omega), rd_nat, w1 i (by omega)]
      by_cases c : l.getD i 0 ≥ mid
      · rw [if_pos c, if_neg (by omega), if_neg (by omega), w1 o (by omega)]
        exact ih k (i + 1) u' (o + 1) (by omega) (by omega) hu' (by omega) eu' (by rw [if_pos (by simpa using c)] at eo; omega)
      · rw [if_neg c, if_neg (by omega), if_neg (by omega)]
        exact ih k (i + 1) u' o (by omega) (by omega) hu' (by omega) eu' (by rw [if_neg (by simpa using c)] at eo; omega)
    by_cases c : l.getD i 0 ≤ mid
    · rw [if_pos c, w1 u (by omega)]
      exact key (u + 1) (by omega) (by rw [if_pos (by simpa using c)] at eu; omega)
    · rw [if_neg c]
      exact key u (by omega) (by rw [if_neg (by simpa using c)] at eu; omega)
open PStatsBetween in
theorem StatsBetween : foolscaplaw16_StatsBetween.Pure := by
  intro l _ h _
  refine ⟨5000, ?_⟩
  unfold foolscaplaw16_StatsBetween.f
  by_cases c : (l.length : Int) = 0
  · rw [if_pos c]; rfl
  · rw [if_neg c]
    by_cases c1 : (l.length : Int) > 2000
    · rw [decide_eq_true c1]; rfl
    · rw [decide_eq_false c1, show (5000 : Nat) = 4999 + 1 from rfl, foolscaplaw16_StatsBetween.j0, if_neg (by decide)]
      unfold stats_Least.f stats_Greatest.f stats_Mean.f stats_Median.f
      simp only [Option.bind_some]
      unfold leN grN avgN medN
      by_cases hg : good l
      · have hlt : l.length < 4611686018427387904 := by omega
        have mb := mid_between l hlt (by omega)
        have lb := kth_low_all hlt (by omega)
        have ub := kth_high_all hlt (by omega)
        have sb := sum_between l _ _ (fun z hz => ⟨lb z hz, ub z hz⟩)
        have ab := meanI_between l.sum _ _ l.length (by omega) sb.1 sb.2
        have em : (if l.length % 2 = 1 then (kthN l (l.length / 2), (0 : Int)) else (meanV (kthN l (l.length / 2 - 1) + kthN l (l.length / 2)) 2, 0)) = (midV l, 0) := by
          unfold midV; split <;> rfl
        simp only [if_pos hg, if_neg (show ¬ l.length = 0 by omega), if_pos (show good l ∧ l.length ≠ 0 from ⟨hg, by omega⟩), em, if_true]
        exact bet_l0 l _ _ _ _ (by omega) (fun z hz => ⟨lb z hz, ub z hz⟩) ab ⟨mb.1, mb.2.1⟩ mb.2.2.1 mb.2.2.2 l.length 4999 0 0 0 (by omega) (by omega) (by omega) (by omega) (by rw [List.drop_zero, Nat.zero_add]) (by rw [List.drop_zero, Nat.zero_add])
      · simp only [if_neg hg, if_neg (show ¬ (good l ∧ l.length ≠ 0) from fun z => hg z.1)]
        rfl
end Go.Proofs.Ytnmiagcjfbdfkaa.Pure
