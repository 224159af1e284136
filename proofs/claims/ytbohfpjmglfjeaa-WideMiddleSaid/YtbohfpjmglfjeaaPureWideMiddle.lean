/- The mean lies between the least and the greatest; of equal numbers it is theirs: the law in plain numbers. No condition. -/
import Derived.Test.YtbohfpjmglfjeaaPWideMiddlex
namespace Go.Proofs.Ytbohfpjmglfjeaa.Pure
open Go.RowKit Go.Proofs.Ytbohfpjmglfjeaa.PWideMiddle Go.Proofs.YtbohfpjmglfjeaaW.PrintWords Go.Proofs.YtbohfpjmglfjeaaW.PrintLast Go.Proofs.YtbohfpjmglfjeaaW.PrintMore
open WPure

theorem meanN_up (S c b : Nat) (hc : 0 < c) (h : S ≤ c * b) : meanN S c ≤ b := by
  have hdm := Nat.div_add_mod S c
  have hlt := Nat.mod_lt S hc
  have hq : S / c ≤ b := by
    have := (Nat.div_le_div_right (c := c) h)
    rwa [Nat.mul_div_cancel_left _ hc] at this
  unfold meanN
  by_cases he : S / c = b
  · have : S % c = 0 := by rw [he] at hdm; omega
    rw [if_neg (by omega)]; omega
  · split <;> omega
theorem meanN_dn (S c a : Nat) (hc : 0 < c) (h : c * a ≤ S) : a ≤ meanN S c := by
  have hq : a ≤ S / c := by rw [Nat.le_div_iff_mul_le hc, Nat.mul_comm]; exact h
  unfold meanN
  split <;> omega
def meanI (s : Int) (c : Nat) : Int := if s < 0 then -((meanN s.natAbs c : Nat) : Int) else ((meanN s.natAbs c : Nat) : Int)
theorem nat_of_mul_le {c : Nat} {b s : Int} (hb : 0 ≤ b) (h : s ≤ c * b) : s.toNat ≤ c * b.toNat := by
  obtain ⟨n, rfl⟩ := Int.eq_ofNat_of_zero_le hb
  rw [Int.toNat_natCast]
  have : ((c * n : Nat) : Int) = (c : Int) * (n : Int) := Int.natCast_mul c n
  omega
theorem nat_of_le_mul {c : Nat} {b s : Int} (hb : 0 ≤ b) (hs : 0 ≤ s) (h : c * b ≤ s) : c * b.toNat ≤ s.toNat := by
  obtain ⟨n, rfl⟩ := Int.eq_ofNat_of_zero_le hb
  rw [Int.toNat_natCast]
  have : ((c * n : Nat) : Int) = (c : Int) * (n : Int) := Int.natCast_mul c n
  omega
theorem neg_of_mul_neg {c : Nat} (hc : 0 < c) {b s : Int} (hs : s < 0) (h : (c : Int) * b ≤ s) : b < 0 := by
  by_cases hb : 0 ≤ b
  · have := Int.mul_nonneg (show (0 : Int) ≤ c by omega) hb
    omega
  · omega
theorem nonneg_of_mul {c : Nat} (hc : 0 < c) {b s : Int} (hs : 0 ≤ s) (h : s ≤ (c : Int) * b) : 0 ≤ b := by
  by_cases hb : 0 ≤ b
  · exact hb
  · have : (c : Int) * b < 0 := Int.mul_neg_of_pos_of_neg (by omega) (by omega)
    omega
theorem meanI_between (s low high : Int) (c : Nat) (hc : 0 < c) (h1 : c * low ≤ s) (h2 : s ≤ c * high) : low ≤ meanI s c ∧ meanI s c ≤ high := by
  unfold meanI
  by_cases hs : s < 0
  · rw [if_pos hs]
    have hl := neg_of_mul_neg hc hs h1
    have e1 : (-s) ≤ c * (-low) := by rw [Int.mul_neg]; omega
    have u := meanN_up (-s).toNat c (-low).toNat hc (nat_of_mul_le (by omega) e1)
    have es : (-s).toNat = s.natAbs := by omega
    rw [es] at u
    refine ⟨by omega, ?_⟩
    by_cases hh : 0 ≤ high
    · omega
    · have e2 : c * (-high) ≤ -s := by rw [Int.mul_neg]; omega
      have d := meanN_dn (-s).toNat c (-high).toNat hc (nat_of_le_mul (by omega) (by omega) e2)
      rw [es] at d
      omega
  · rw [if_neg hs]
    have hh := nonneg_of_mul hc (by omega) h2
    have u := meanN_up s.toNat c high.toNat hc (nat_of_mul_le hh h2)
    have es : s.toNat = s.natAbs := by omega
    rw [es] at u
    refine ⟨?_, by omega⟩
    by_cases hl : low ≤ 0
    · omega
    · have d := meanN_dn s.toNat c low.toNat hc (nat_of_le_mul (by omega) (by omega) h1)
      rw [es] at d
      omega

theorem wrap_step {i : Int} {m : Nat} (h0 : 0 ≤ i) (h : i < m) (hm : m ≤ 200) : wrap64 (i + 1) = i + 1 := by unfold wrap64; omega
theorem mul_step (i x : Int) : (i + 1) * x = i * x + x := by rw [Int.add_mul, Int.one_mul]

theorem mid_l1 (n : Int) (times : Nat) (ht : 1 ≤ times) (ht2 : times ≤ 200) (d : Nat) : ∀ (k : Nat) (i : Int), 0 ≤ i → i ≤ times → (times : Int) - i = d → d < k → (fits n ∨ i = 0) →
    foolscaplaw03_WideMiddle.l1 k n times i (hiW (i * n)) (loW (i * n)) = some true := by
  induction d with
  | zero =>
    intro k i h0 h1 hd hk hf
    obtain ⟨k, rfl⟩ : ∃ m, k = m + 1 := ⟨k - 1, by omega⟩
    have hi : i = times := by omega
    have hfn : fits n := by rcases hf with hf | hf
                            · exact hf
                            · omega
    simp only [foolscaplaw03_WideMiddle.l1]
    rw [if_neg (by omega)]
    subst hi
    have b1 : ((times : Int) * n ≤ times * 1000000000000000000) := Int.mul_le_mul_of_nonneg_left hfn.2 (by omega)
    have b2 : (times : Int) * -1000000000000000000 ≤ times * n := Int.mul_le_mul_of_nonneg_left hfn.1 (by omega)
    have hin : inW ((times : Int) * n) := by unfold inW; omega
    unfold wide_Mean.f foolscaplaw03_lives.f
    rw [meanO_rep _ _ hin (by omega) (by omega) (by omega) (by omega)]
    simp only [Option.bind_some]
    have hb := meanI_between ((times : Int) * n) n n times (by omega) (Int.le_refl _) (Int.le_refl _)
    unfold meanI at hb
    rw [show ((times : Int).toNat) = times from rfl, if_pos (by omega), if_pos trivial]
  | succ d ih =>
    intro k i h0 h1 hd hk hf
    obtain ⟨k, rfl⟩ : ∃ m, k = m + 1 := ⟨k - 1, by omega⟩
    simp only [foolscaplaw03_WideMiddle.l1]
    rw [if_pos (by omega)]
    unfold wide_Add.f num_Fits.f foolscaplaw03_lives.f
    simp only [Option.bind_some]
    by_cases hfn : fits n
    · have b1 : (i * n ≤ i * 1000000000000000000) := Int.mul_le_mul_of_nonneg_left hfn.2 h0
      have b2 : i * -1000000000000000000 ≤ i * n := Int.mul_le_mul_of_nonneg_left hfn.1 h0
      have hin : inW (i * n) := by unfold inW; omega
      have hin2 : inW (i * n + n) := by unfold inW; unfold fits at hfn; omega
      rw [addW_rep _ _ hin, if_pos hfn, if_pos hin2]
      simp only
      rw [if_pos trivial, wrap_step h0 (m := times) (by omega) ht2, ← mul_step]
      exact ih k (i + 1) (by omega) (by omega) (by omega) (by omega) (.inl hfn)
    · have hi : i = 0 := by rcases hf with hf | hf
                            · exact absurd hf hfn
                            · exact hf
      subst hi
      rw [Int.zero_mul, addW_rep 0 n (by unfold inW; omega), if_neg hfn]
      simp [hfn]

theorem mid_l0 (l : List Int) (n : Int) (times : Nat) (hl : 1 ≤ l.length) (hl2 : l.length ≤ 200) (ht : 1 ≤ times) (ht2 : times ≤ 200) (d : Nat) : ∀ (k : Nat) (low high i s : Int), 0 ≤ i → i ≤ l.length → (l.length : Int) - i = d → d + times + 5 < k →
    i * low ≤ s → s ≤ i * high → i * -1000000000000000000 ≤ s → s ≤ i * 1000000000000000000 →
    foolscaplaw03_WideMiddle.l0 k l n times low high i (hiW s) (loW s) 0 0 = some true := by
  induction d with
  | zero =>
    intro k low high i s h0 h1 hd hk a1 a2 a3 a4
    obtain ⟨k, rfl⟩ : ∃ m, k = m + 2 := ⟨k - 2, by omega⟩
    have hi : i = l.length := by omega
    simp only [foolscaplaw03_WideMiddle.l0]
    rw [if_neg (by omega)]
    subst hi
    have hin : inW s := by unfold inW; omega
    unfold wide_Mean.f
    rw [meanO_rep _ _ hin (by omega) (by omega) (by omega) (by omega)]
    simp only [Option.bind_some]
    have hb := meanI_between s low high l.length (by omega) a1 a2
    unfold meanI at hb
    rw [show ((l.length : Int).toNat) = l.length from rfl, if_pos trivial, if_neg (by omega), decide_eq_false (by omega)]
    simp only [foolscaplaw03_WideMiddle.j2]
    rw [if_neg (by decide)]
    have := mid_l1 n times ht ht2 times k 0 (by omega) (by omega) (by omega) (by omega) (.inr rfl)
    rw [Int.zero_mul] at this
    exact this
  | succ d ih =>
    intro k low high i s h0 h1 hd hk a1 a2 a3 a4
    obtain ⟨k, rfl⟩ : ∃ m, k = m + 1 := ⟨k - 1, by omega⟩
    simp only [foolscaplaw03_WideMiddle.l0]
    rw [if_pos (by omega), if_pos h0]
    unfold wide_Add.f num_Fits.f foolscaplaw03_lives.f
    simp only [Option.bind_some]
    generalize rd l i = x
    have hin : inW s := by unfold inW; omega
    rw [addW_rep _ _ hin]
    by_cases hf : fits x
    · have hin2 : inW (s + x) := by unfold inW; unfold fits at hf; omega
      rw [if_pos hf, if_pos hin2]
      simp only
      rw [if_pos trivial, wrap_step h0 (m := l.length) (by omega) hl2]
      have m1 : i * mn low x ≤ i * low := Int.mul_le_mul_of_nonneg_left (by unfold mn; split <;> omega) h0
      have m2 : i * high ≤ i * mx high x := Int.mul_le_mul_of_nonneg_left (by unfold mx; split <;> omega) h0
      have m3 : mn low x ≤ x := by unfold mn; split <;> omega
      have m4 : x ≤ mx high x := by unfold mx; split <;> omega
      refine ih k _ _ (i + 1) (s + x) (by omega) (by omega) (by omega) (by omega) ?_ ?_ ?_ ?_
      · rw [mul_step]; omega
      · rw [mul_step]; omega
      · rw [mul_step]; unfold fits at hf; omega
      · rw [mul_step]; unfold fits at hf; omega
    · rw [if_neg hf]
      simp [hf]

theorem WideMiddle : foolscaplaw03_WideMiddle.Pure := by
  intro l n times _ _ _ _ _
  refine ⟨1000, ?_⟩
  unfold foolscaplaw03_WideMiddle.f
  have triv : foolscaplaw03_WideMiddle.j0 1000 l n times true = some true := by
    simp [foolscaplaw03_WideMiddle.j0, foolscaplaw03_lives.f]
  by_cases h1 : (l.length : Int) = 0
  · rw [if_pos h1]; exact triv
  · rw [if_neg h1]
    by_cases h2 : (l.length : Int) > 200
    · rw [if_pos h2]; exact triv
    · rw [if_neg h2]
      by_cases h3 : times < 1
      · rw [if_pos h3]; exact triv
      · rw [if_neg h3]
        by_cases h4 : times > 200
        · rw [decide_eq_true h4]; exact triv
        · rw [decide_eq_false h4]
          obtain ⟨t, rfl⟩ := Int.eq_ofNat_of_zero_le (show 0 ≤ times by omega)
          rw [show (1000 : Nat) = 999 + 1 from rfl, foolscaplaw03_WideMiddle.j0, if_neg (by decide), if_pos (by omega)]
          have := mid_l0 l n t (by omega) (by omega) (by omega) (by omega) l.length 999 (rd l 0) (rd l 0) 0 0 (by omega) (by omega) (by omega) (by omega) (by omega) (by omega) (by omega) (by omega)
          exact this
end Go.Proofs.Ytbohfpjmglfjeaa.Pure
