/- What is rounded up or down is less than a step off, on its side; what is a multiple stays. The law in plain numbers. No condition. -/
import Derived.Test.YtbgiehmpdligdaaPMathsNearx
import Derived.Test.YtbgiehmpdligdaaGPure
set_option linter.unusedVariables false
namespace Go.Proofs.Ytbgiehmpdligdaa.Pure
open Go Go.RowKit MA MB
open Go.Proofs.YtbgiehmpdligdaaW.PrintWords Go.Proofs.YtbgiehmpdligdaaW.PrintLast Go.Proofs.YtbgiehmpdligdaaW.PrintMore
theorem wfi {a : Int} (h : (Lit.int .i64 a).wf = true) : -9223372036854775808 ≤ a ∧ a < 9223372036854775808 := by
  simp [Lit.wf, IntKind.min, IntKind.max, IntKind.bits, IntKind.signed] at h
  omega
theorem near_to (x0 x2 x7 x8 x9 : Int) : ∀ (j k : Nat) (x i : Int), i + j = 6 → -100 ≤ i → 0 ≤ x → x * 10 ^ j ≤ 1000000000000000000 → PMathsNear.foolscaplaw15_MathsNear.l0 (k + j) x0 x2 x7 x8 x9 x i = PMathsNear.foolscaplaw15_MathsNear.l0 k x0 x2 x7 x8 x9 (x * 10 ^ j) 6 := by
  intro j
  induction j with
  | zero =>
    intro k x i hi _ _ _
    have : i = 6 := by omega
    subst this
    rw [Int.pow_zero, Int.mul_one]; rfl
  | succ j ih =>
    intro k x i hi hl hx hb
    have e : x * 10 ^ (j + 1) = 10 * x * 10 ^ j := by rw [Int.pow_succ, Int.mul_comm (10 ^ j) 10, ← Int.mul_assoc, Int.mul_comm x 10]
    have hp : (1 : Int) ≤ 10 ^ j := by
      have : (0 : Int) < 10 ^ j := Int.pow_pos (by decide)
      omega
    have hx2 : 10 * x ≤ 10 * x * 10 ^ j := by
      have := Int.mul_le_mul_of_nonneg_left hp (show (0 : Int) ≤ 10 * x by omega)
      omega
    rw [e] at hb ⊢
    have w1 : wrap64 (10 * x) = 10 * x := by unfold wrap64; omega
    have w2 : wrap64 (i + 1) = i + 1 := by unfold wrap64; omega
    rw [show k + (j + 1) = (k + j) + 1 by omega]
    simp only [PMathsNear.foolscaplaw15_MathsNear.l0]
    rw [if_pos (show i < 6 by omega), w1, w2]
    exact ih k (10 * x) (i + 1) (by omega) (by omega) (by omega) hb
theorem nsize (n : Int) (h1 : -9223372036854775808 < n) (h2 : n < 9223372036854775808) : PMathsNear.foolscaplaw15_size.f n = some (n.natAbs : Int) := by
  unfold PMathsNear.foolscaplaw15_size.f; rw [size_eq n h1 h2]
/-- What is left of a multiple. -/
theorem tmod_sub (n s : Int) : Int.tmod (n - Int.tmod n s) s = 0 := by
  have h := Int.tmod_add_mul_tdiv n s
  have e : n - Int.tmod n s = s * Int.tdiv n s := by omega
  rw [e, Int.mul_tmod_right]
theorem tmod_sub_add (n s : Int) : Int.tmod (n - Int.tmod n s + s) s = 0 := by
  have h := Int.tmod_add_mul_tdiv n s
  have e : n - Int.tmod n s + s = s * (Int.tdiv n s + 1) := by rw [Int.mul_add, Int.mul_one]; omega
  rw [e, Int.mul_tmod_right]
theorem tmod_sub_sub (n s : Int) : Int.tmod (n - Int.tmod n s - s) s = 0 := by
  have h := Int.tmod_add_mul_tdiv n s
  have e : n - Int.tmod n s - s = s * (Int.tdiv n s - 1) := by rw [Int.mul_sub, Int.mul_one]; omega
  rw [e, Int.mul_tmod_right]
theorem tmod_abs (x s : Int) : Int.tmod x s.natAbs = Int.tmod x s := by
  rcases Int.natAbs_eq s with h | h
  · rw [← h]
  · have : (s.natAbs : Int) = -s := by omega
    rw [this, Int.tmod_neg]
theorem near_facts {n st : Int} (u : Bool) (h : (nearN n st u).2 = 0) (h0 : n ≠ 0) : fits n ∧ fits st ∧ st ≠ 0 ∧ Int.tmod (nearN n st u).1 st = 0 ∧ (if u = true then n ≤ (nearN n st u).1 ∧ (nearN n st u).1 - n < st.natAbs else (nearN n st u).1 ≤ n ∧ n - (nearN n st u).1 < st.natAbs) := by
  unfold nearN at *
  by_cases c : ¬ fits n ∨ ¬ fits st
  · rw [if_pos c] at h; exact absurd h (by decide)
  rw [if_neg c] at h ⊢
  have hf : fits n := Decidable.not_not.1 fun z => c (.inl z)
  have hf2 : fits st := Decidable.not_not.1 fun z => c (.inr z)
  rw [if_neg h0] at h ⊢
  by_cases c2 : st = 0
  · rw [if_pos c2] at h; exact absurd h (by decide)
  rw [if_neg c2] at h ⊢
  by_cases c3 : n > 0 ∧ st < 0
  · rw [if_pos c3] at h; exact absurd h (by decide)
  rw [if_neg c3] at h ⊢
  refine ⟨hf, hf2, c2, ?_⟩
  have hs : 0 < (st.natAbs : Int) := by omega
  obtain ⟨t1, t2, t3, t4⟩ := tm (n := n) hs
  by_cases c4 : Int.tmod n st.natAbs = 0
  · rw [if_pos c4, ← tmod_abs]
    refine ⟨c4, ?_⟩
    dsimp only
    split <;> omega
  rw [if_neg c4] at h ⊢
  cases u
  · rw [if_neg (show ¬ (false = true ∧ n > 0) by simp)] at h ⊢
    by_cases c5 : n < 0
    · rw [if_pos (show false = false ∧ n < 0 from ⟨rfl, c5⟩)] at h ⊢
      have hh : fits (n - Int.tmod n st.natAbs - st.natAbs) := Decidable.not_not.1 fun z => by unfold toldN at h; rw [if_neg z] at h; exact absurd h (by decide)
      rw [told_ok hh, ← tmod_abs]
      refine ⟨tmod_sub_sub _ _, ?_⟩
      rw [if_neg (by decide)]
      have := t4 (by omega)
      dsimp only; omega
    · rw [if_neg (show ¬ (false = false ∧ n < 0) from fun z => c5 z.2)] at h ⊢
      rw [← tmod_abs]
      refine ⟨tmod_sub _ _, ?_⟩
      rw [if_neg (by decide)]
      have := t3 (by omega)
      dsimp only; omega
  · rw [if_neg (show ¬ (true = false ∧ n < 0) by simp)] at h ⊢
    by_cases c5 : n > 0
    · rw [if_pos (show true = true ∧ n > 0 from ⟨rfl, c5⟩)] at h ⊢
      have hh : fits (n - Int.tmod n st.natAbs + st.natAbs) := Decidable.not_not.1 fun z => by unfold toldN at h; rw [if_neg z] at h; exact absurd h (by decide)
      rw [told_ok hh, ← tmod_abs]
      refine ⟨tmod_sub_add _ _, ?_⟩
      rw [if_pos rfl]
      have := t3 (by omega)
      dsimp only; omega
    · rw [if_neg (show ¬ (true = true ∧ n > 0) from fun z => c5 z.2)] at h ⊢
      rw [← tmod_abs]
      refine ⟨tmod_sub _ _, ?_⟩
      rw [if_pos rfl]
      have := t4 (by omega)
      dsimp only; omega
theorem near_j1 (n st : Int) (hst : -9223372036854775808 ≤ st ∧ st < 9223372036854775808) (k : Nat) : PMathsNear.foolscaplaw15_MathsNear.j1 (k + 2) n st = some true := by
  simp only [PMathsNear.foolscaplaw15_MathsNear.j1, PMathsNear.foolscaplaw15_MathsNear.j2, PMathsNear.maths_Floor.f, PMathsNear.maths_Ceiling.f, PMathsNear.foolscaplaw15_lives.f, Option.bind_some]
  have tail : (if (nearN n st true).2 = 0 then if n = 0 then some true else if (nearN n st true).1 ≥ n then (PMathsNear.foolscaplaw15_size.f st).bind fun t117 => if wrap64 ((nearN n st true).1 - n) < t117 then if st = 0 then none else if Int.tmod (nearN n st true).1 st = 0 then some true else none else none else none else some true) = some true := by
    by_cases c1 : (nearN n st true).2 = 0
    · rw [if_pos c1]
      by_cases c0 : n = 0
      · rw [if_pos c0]
      · obtain ⟨f1, f2, f3, f4, f5⟩ := near_facts true c1 c0
        rw [if_pos rfl] at f5
        have := f1.1; have := f1.2; have := f2.1; have := f2.2
        have w : wrap64 ((nearN n st true).1 - n) = (nearN n st true).1 - n := by unfold wrap64; omega
        rw [if_neg c0, if_pos f5.1, nsize st (by omega) (by omega), Option.bind_some, w, if_pos f5.2, if_neg f3, if_pos f4]
    · rw [if_neg c1]
  rw [if_neg (show ¬ false = true by decide), tail]
  by_cases c1 : (nearN n st false).2 = 0
  · rw [if_pos c1]
    by_cases c0 : n = 0
    · rw [if_pos c0]
    · obtain ⟨f1, f2, f3, f4, f5⟩ := near_facts false c1 c0
      rw [if_neg (by decide)] at f5
      have := f1.1; have := f1.2; have := f2.1; have := f2.2
      have w : wrap64 (n - (nearN n st false).1) = n - (nearN n st false).1 := by unfold wrap64; omega
      rw [if_neg c0, if_neg (by omega), nsize st (by omega) (by omega), Option.bind_some, w, if_neg (by omega), if_neg f3, f4, if_neg (by decide)]
  · rw [if_neg c1]
theorem MathsNear : PMathsNear.foolscaplaw15_MathsNear.Pure := by
  intro n p st _ _ h3
  have hst := wfi h3
  refine ⟨60, ?_⟩
  unfold PMathsNear.foolscaplaw15_MathsNear.f PMathsNear.maths_Up.f PMathsNear.maths_Down.f
  simp only [Option.bind_some]
  by_cases c : (downN n p).2 = 0
  · rw [if_pos c]
    have hd : fits n ∧ stepOf p ≠ 0 := Decidable.not_not.1 fun z => by unfold downN at c; rw [if_neg z] at c; exact absurd c (by decide)
    obtain ⟨s0, s1, s2⟩ := step_range p
    have hp : ¬ (p < -12 ∨ 6 < p) := fun z => hd.2 (s2.2 z)
    have es : stepOf p = 1 * 10 ^ (6 - p).toNat := by unfold stepOf; rw [if_neg hp, Int.one_mul]
    have hk : (60 : Nat) = (60 - (6 - p).toNat) + (6 - p).toNat := by omega
    rw [hk, near_to _ _ _ _ _ _ _ _ _ (by omega) (by omega) (by decide) (by rw [← es]; exact s1), ← es]
    obtain ⟨k, hk2⟩ : ∃ k, 60 - (6 - p).toNat = k + 3 := ⟨57 - (6 - p).toNat, by omega⟩
    rw [hk2]
    have hs : 0 < stepOf p := by omega
    obtain ⟨t1, t2, t3, t4⟩ := tm (n := n) hs
    have ⟨f1, f2⟩ := hd.1
    have ed : (downN n p).1 = n - Int.tmod n (stepOf p) := by unfold downN; rw [if_pos hd]
    rw [ed]
    simp only [PMathsNear.foolscaplaw15_MathsNear.l0]
    have z1 : (n - Int.tmod n (stepOf p)).natAbs ≤ n.natAbs := by
      rcases Int.le_total 0 n with z | z
      · have := t3 z; omega
      · have := t4 z; omega
    have w1 : wrap64 (n - (n - Int.tmod n (stepOf p))) = Int.tmod n (stepOf p) := by unfold wrap64; omega
    rw [if_neg (show ¬ (6 : Int) < 6 by decide), nsize (n - Int.tmod n (stepOf p)) (by omega) (by omega), nsize n (by omega) (by omega)]
    simp only [Option.bind_some]
    rw [if_neg (by omega), w1, nsize _ (by omega) (by omega), Option.bind_some, if_neg (by omega), if_neg (by omega), if_pos (tmod_sub _ _)]
    have jj := near_j1 n st hst k
    by_cases c2 : (upN n p).2 = 0
    · rw [if_pos c2]
      have hu : Int.tmod (upN n p).1 (stepOf p) = 0 ∧ n.natAbs ≤ (upN n p).1.natAbs ∧ ((upN n p).1 - n).natAbs < (stepOf p).natAbs ∧ fits (upN n p).1 ∧ (Int.tmod n (stepOf p) = 0 → (upN n p).1 = n) := by
        refine ⟨?_, ?_, ?_, up_range n p, ?_⟩
        all_goals unfold upN at c2 ⊢
        all_goals rw [if_pos hd] at c2 ⊢
        all_goals by_cases c3 : Int.tmod n (stepOf p) = 0
        all_goals first | rw [if_pos c3] | rw [if_neg c3] at c2 ⊢
        all_goals first
          | exact c3
          | exact Nat.le_refl _
          | (intro; rfl)
          | (dsimp only; omega)
          | (exact fun z => absurd z c3)
          | skip
        all_goals have hh : fits (n - Int.tmod n (stepOf p) + if n < 0 then -stepOf p else stepOf p) := Decidable.not_not.1 fun z => by unfold toldN at c2; rw [if_neg z] at c2; exact absurd c2 (by decide)
        all_goals rw [told_ok hh]
        all_goals by_cases c4 : n < 0
        all_goals first | rw [if_pos c4] | rw [if_neg c4]
        all_goals first
          | exact tmod_sub_sub _ _
          | exact tmod_sub_add _ _
          | (have := t4 (by omega); dsimp only; omega)
          | (have := t3 (by omega); dsimp only; omega)
      obtain ⟨u1, u2, u3, u4, u5⟩ := hu
      have := u4.1; have := u4.2
      have w2 : wrap64 ((upN n p).1 - n) = (upN n p).1 - n := by unfold wrap64; omega
      rw [nsize (upN n p).1 (by omega) (by omega), Option.bind_some, if_neg (by omega), w2, nsize _ (by omega) (by omega), Option.bind_some, if_neg (by omega), if_pos u1, jj]
      by_cases c4 : n - Int.tmod n (stepOf p) = n
      · rw [if_pos c4, if_pos (u5 (by omega))]
      · rw [if_neg c4]
    · rw [if_neg c2, jj]
      by_cases c4 : n - Int.tmod n (stepOf p) = n
      · rw [if_pos c4]
        have : (upN n p).1 = n := by
          unfold upN; rw [if_pos hd, if_pos (show Int.tmod n (stepOf p) = 0 by omega)]
        rw [if_pos this]
      · rw [if_neg c4]
  · rw [if_neg c]
    exact near_j1 n st hst 58
end Go.Proofs.Ytbgiehmpdligdaa.Pure
