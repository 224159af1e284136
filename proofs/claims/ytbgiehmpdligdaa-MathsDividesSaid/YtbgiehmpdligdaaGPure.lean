/- Chapter 15: what the printed functions come to, in plain numbers. -/
import Derived.Laws.BitsLemmas
import Derived.Laws.Bits64
import Derived.Laws.Bits64b
import Derived.Lib.BitFns
import Derived.Test.YtbgiehmpdligdaaPGx
set_option linter.unusedSimpArgs false
set_option linter.unusedVariables false
namespace Go.Proofs.Ytbgiehmpdligdaa.MA
open Go Go.RowKit Go.Proofs.Ytbgiehmpdligdaa.PG
open Go.Proofs.YtbgiehmpdligdaaW.PrintWords Go.Proofs.YtbgiehmpdligdaaW.PrintMore

def fits (n : Int) : Prop := -1000000000000000000 ≤ n ∧ n ≤ 1000000000000000000
instance (n : Int) : Decidable (fits n) := inferInstanceAs (Decidable (_ ∧ _))
theorem fits_eq (n : Int) : num_Fits.f n = some (decide (fits n)) := by
  unfold num_Fits.f
  by_cases h : n ≥ -1000000000000000000
  · rw [if_pos h]; exact congrArg some (decide_eq_decide.2 ⟨fun z => ⟨h, z⟩, fun z => z.2⟩)
  · rw [if_neg h]; exact congrArg some (decide_eq_false (fun z : fits n => h z.1)).symm
theorem rfits_eq (n : Int) : foolscapref01_Fits.f n = some (decide (fits n)) := by
  unfold foolscapref01_Fits.f
  by_cases h : n ≥ -1000000000000000000
  · rw [if_pos h]; exact congrArg some (decide_eq_decide.2 ⟨fun z => ⟨h, z⟩, fun z => z.2⟩)
  · rw [if_neg h]; exact congrArg some (decide_eq_false (fun z : fits n => h z.1)).symm
theorem size_eq (n : Int) (h1 : -9223372036854775808 < n) (h2 : n < 9223372036854775808) : mx n (wrap64 (-n)) = (n.natAbs : Int) := by
  unfold mx wrap64; split <;> omega
theorem msize_eq (n : Int) (h1 : -9223372036854775808 < n) (h2 : n < 9223372036854775808) : maths_size.f n = some (n.natAbs : Int) := by
  unfold maths_size.f; rw [size_eq n h1 h2]
theorem rsize_eq (n : Int) (h1 : -9223372036854775808 < n) (h2 : n < 9223372036854775808) : foolscapref01_Size.f n = some (n.natAbs : Int) := by
  unfold foolscapref01_Size.f; rw [size_eq n h1 h2]
def toldN (n : Int) : Int × Int := if fits n then (n, 0) else (0, 5)
theorem told_eq (n : Int) : maths_told.f n = some (toldN n) := by
  unfold maths_told.f toldN
  rw [fits_eq, Option.bind_some]
  by_cases h : fits n
  · rw [decide_eq_true h, if_pos rfl, if_pos h]
  · rw [decide_eq_false h, if_neg (by decide), if_neg h]
theorem rtold_eq (n : Int) : foolscapref15_told.f n = some (toldN n) := by
  unfold foolscapref15_told.f toldN
  rw [rfits_eq, Option.bind_some]
  by_cases h : fits n
  · rw [decide_eq_true h, if_pos rfl, if_pos h]
  · rw [decide_eq_false h, if_neg (by decide), if_neg h]

/-- How long a step of so many places is; 0: there are none. -/
def stepOf (p : Int) : Int := if p < -12 ∨ 6 < p then 0 else 10 ^ (6 - p).toNat
theorem places {p : Int} (h1 : -12 ≤ p) (h2 : p ≤ 6) : p = -12 ∨ p = -11 ∨ p = -10 ∨ p = -9 ∨ p = -8 ∨ p = -7 ∨ p = -6 ∨ p = -5 ∨ p = -4 ∨ p = -3 ∨ p = -2 ∨ p = -1 ∨ p = 0 ∨ p = 1 ∨ p = 2 ∨ p = 3 ∨ p = 4 ∨ p = 5 ∨ p = 6 := by omega
theorem steps_eq (p : Int) : maths_steps.f 100 p = some (stepOf p) := by
  by_cases c1 : p < -12
  · unfold maths_steps.f stepOf
    rw [if_pos c1, if_pos (.inl c1)]; rfl
  · by_cases c2 : p > 6
    · unfold maths_steps.f stepOf
      rw [if_neg c1, decide_eq_true c2, if_pos (.inr c2)]; rfl
    · rcases places (by omega) (by omega : p ≤ 6) with h | h | h | h | h | h | h | h | h | h | h | h | h | h | h | h | h | h | h
      all_goals subst h; decide +kernel
theorem to_eq {p : Int} (h1 : -12 ≤ p) (h2 : p ≤ 6) : foolscapref15_to.f 100 p = some (stepOf p) := by
  rcases places h1 h2 with h | h | h | h | h | h | h | h | h | h | h | h | h | h | h | h | h | h | h
  all_goals subst h; decide +kernel
theorem to_eq' {p : Int} (h1 : -12 ≤ p) (h2 : p ≤ 6) : foolscapref15_to.f 99 p = some (stepOf p) := by
  rcases places h1 h2 with h | h | h | h | h | h | h | h | h | h | h | h | h | h | h | h | h | h | h
  all_goals subst h; decide +kernel
theorem step_range (p : Int) : 0 ≤ stepOf p ∧ stepOf p ≤ 1000000000000000000 ∧ (stepOf p = 0 ↔ p < -12 ∨ 6 < p) := by
  by_cases c : p < -12 ∨ 6 < p
  · unfold stepOf; rw [if_pos c]; exact ⟨by decide, by decide, ⟨fun _ => c, fun _ => rfl⟩⟩
  · rcases places (p := p) (by omega) (by omega) with h | h | h | h | h | h | h | h | h | h | h | h | h | h | h | h | h | h | h
    all_goals subst h; decide +kernel

theorem tm {n s : Int} (hs : 0 < s) : -s < Int.tmod n s ∧ Int.tmod n s < s ∧ (0 ≤ n → 0 ≤ Int.tmod n s ∧ Int.tmod n s ≤ n) ∧ (n ≤ 0 → Int.tmod n s ≤ 0 ∧ n ≤ Int.tmod n s) := by
  have key : ∀ m : Int, 0 ≤ m → 0 ≤ Int.tmod m s ∧ Int.tmod m s ≤ m ∧ Int.tmod m s < s := by
    intro m hm
    have e : Int.tmod m s = m % s := Int.tmod_eq_emod_of_nonneg hm
    rw [e]
    refine ⟨Int.emod_nonneg _ (by omega), ?_, Int.emod_lt_of_pos _ hs⟩
    obtain ⟨m', rfl⟩ := Int.eq_ofNat_of_zero_le hm
    obtain ⟨s', rfl⟩ := Int.eq_ofNat_of_zero_le (Int.le_of_lt hs)
    exact_mod_cast Nat.mod_le m' s'
  rcases Int.le_total 0 n with h | h
  · obtain ⟨a, b, c⟩ := key n h
    exact ⟨by omega, c, fun _ => ⟨a, b⟩, fun h' => by omega⟩
  · obtain ⟨a, b, c⟩ := key (-n) (by omega)
    rw [Int.neg_tmod] at a b c
    exact ⟨by omega, by omega, fun h' => by omega, fun _ => by omega⟩

/-! ### P15.2, P15.3 -/
def downN (n p : Int) : Int × Int := if fits n ∧ stepOf p ≠ 0 then (n - Int.tmod n (stepOf p), 0) else (0, 5)
def upN (n p : Int) : Int × Int := if fits n ∧ stepOf p ≠ 0 then (if Int.tmod n (stepOf p) = 0 then (n, 0) else toldN (n - Int.tmod n (stepOf p) + (if n < 0 then -stepOf p else stepOf p))) else (0, 5)
theorem sub_wrap {n s : Int} (hn : fits n) (hs : 0 < s) : wrap64 (n - Int.tmod n s) = n - Int.tmod n s := by
  obtain ⟨a, b, c, d⟩ := tm (n := n) hs
  obtain ⟨h1, h2⟩ := hn
  unfold wrap64
  rcases Int.le_total 0 n with h | h
  · have := c h; omega
  · have := d h; omega
theorem down_eq (n p : Int) : maths_Down.f 100 n p = some (downN n p) := by
  unfold maths_Down.f maths_with_int_at_maths_Down_1.f maths_Down_1.f downN
  rw [steps_eq, Option.bind_some, fits_eq, Option.bind_some]
  obtain ⟨s0, s1, s2⟩ := step_range p
  by_cases h : fits n
  · rw [decide_eq_true h, if_pos rfl]
    by_cases c : stepOf p = 0
    · rw [if_pos c, if_neg (fun z => z.2 c)]; rfl
    · rw [if_neg c, if_pos ⟨h, c⟩, sub_wrap h (by omega)]; rfl
  · rw [decide_eq_false h, if_neg (by decide), if_neg (fun z => h z.1)]; rfl
theorem rdown_eq (n p : Int) : foolscapref15_Down.f 100 n p = some (downN n p) := by
  unfold foolscapref15_Down.f downN
  rw [rfits_eq, Option.bind_some]
  obtain ⟨s0, s1, s2⟩ := step_range p
  by_cases h : fits n
  · rw [decide_eq_true h, if_pos rfl]
    by_cases c1 : p < -12
    · rw [if_pos c1, if_neg (fun z => z.2 (s2.2 (.inl c1)))]
    · rw [if_neg c1]
      by_cases c2 : p > 6
      · rw [if_pos c2, if_neg (fun z => z.2 (s2.2 (.inr c2)))]
      · have c : stepOf p ≠ 0 := fun z => by have := s2.1 z; omega
        rw [if_neg c2, to_eq (by omega) (by omega), Option.bind_some, if_neg c, if_pos ⟨h, c⟩, sub_wrap h (by omega)]
  · rw [decide_eq_false h, if_neg (by decide), if_neg (fun z => h z.1)]
theorem away_eq (n by_ side : Int) (h1 : -2000000000000000000 ≤ n) (h2 : n ≤ 2000000000000000000) (h3 : 0 ≤ by_) (h4 : by_ ≤ 1000000000000000000) : maths_away.f n by_ side = some (toldN (n + (if side < 0 then -by_ else by_))) := by
  unfold maths_away.f
  rw [told_eq, told_eq]
  have w1 : wrap64 (n + wrap64 (-by_)) = n + -by_ := by unfold wrap64; omega
  have w2 : wrap64 (n + by_) = n + by_ := by unfold wrap64; omega
  rw [w1, w2]
  split <;> rfl
theorem up_eq (n p : Int) : maths_Up.f 100 n p = some (upN n p) := by
  unfold maths_Up.f maths_with_int_at_maths_Up_1.f maths_Up_1.f upN
  rw [steps_eq, Option.bind_some, fits_eq, Option.bind_some]
  obtain ⟨s0, s1, s2⟩ := step_range p
  by_cases h : fits n
  · rw [decide_eq_true h, if_pos rfl]
    by_cases c : stepOf p = 0
    · rw [if_pos c, if_neg (fun z => z.2 c)]; rfl
    · have hs : 0 < stepOf p := by omega
      obtain ⟨a, b, d, e⟩ := tm (n := n) hs
      have ⟨f1, f2⟩ := h
      rw [if_neg c, if_pos (show fits n ∧ stepOf p ≠ 0 from ⟨h, c⟩), sub_wrap h hs, away_eq _ _ _ (by omega) (by omega) (by omega) (by omega)]
      by_cases c2 : Int.tmod n (stepOf p) = 0
      · rw [if_pos c2, if_pos c2]; rfl
      · rw [if_neg c2, if_neg c2]; rfl
  · rw [decide_eq_false h, if_neg (by decide), if_neg (fun z => h z.1)]; rfl
theorem rup_eq (n p : Int) : foolscapref15_Up.f 100 n p = some (upN n p) := by
  unfold foolscapref15_Up.f
  rw [rdown_eq, Option.bind_some]
  unfold upN downN
  obtain ⟨s0, s1, s2⟩ := step_range p
  by_cases h : fits n ∧ stepOf p ≠ 0
  · rw [if_pos h, if_pos h]
    have hs : 0 < stepOf p := by omega
    obtain ⟨a, b, d, e⟩ := tm (n := n) hs
    have ⟨f1, f2⟩ := h.1
    have hp : -12 ≤ p ∧ p ≤ 6 := by
      have : ¬ (p < -12 ∨ 6 < p) := fun z => h.2 (s2.2 z)
      omega
    simp only [if_true, foolscapref15_Up.j0]
    rw [to_eq' hp.1 hp.2, Option.bind_some, Option.bind_some, rtold_eq, rtold_eq, Option.bind_some, Option.bind_some]
    by_cases c2 : Int.tmod n (stepOf p) = 0
    · rw [c2, Int.sub_zero, beq_self_eq_true, if_pos rfl, if_pos rfl]
    · have hb : (n - Int.tmod n (stepOf p) == n) = false := by rw [beq_eq_false_iff_ne]; omega
      rw [hb, if_neg (by decide), if_neg c2]
      have w1 : wrap64 (n - Int.tmod n (stepOf p) - stepOf p) = n - Int.tmod n (stepOf p) + -stepOf p := by unfold wrap64; omega
      have w2 : wrap64 (n - Int.tmod n (stepOf p) + stepOf p) = n - Int.tmod n (stepOf p) + stepOf p := by unfold wrap64; omega
      rw [w1, w2]
      split <;> rfl
  · rw [if_neg h, if_neg h]; rfl
/-- Away from 0 to numbers that leave so much when halved. -/
def parN (n : Int) (odd : Bool) : Int × Int := if (upN n 0).2 = 0 then (if (decide (Int.tmod (Int.tdiv (upN n 0).1 1000000) 2 = 0) = !odd) then upN n 0 else toldN ((upN n 0).1 + (if n < 0 then -1000000 else 1000000))) else upN n 0
theorem told_range (x : Int) : fits (toldN x).1 := by
  unfold toldN
  split
  · assumption
  · exact ⟨by decide, by decide⟩
theorem up_range (n p : Int) : fits (upN n p).1 := by
  unfold upN
  split
  · split
    · rename_i h _; exact h.1
    · exact told_range _
  · exact ⟨by decide, by decide⟩
theorem tdiv_wrap {n : Int} (h : fits n) : wrap64 (Int.tdiv n 1000000) = Int.tdiv n 1000000 := by
  obtain ⟨h1, h2⟩ := h
  have e : (Int.tdiv n 1000000).natAbs = n.natAbs / 1000000 := Int.natAbs_tdiv n 1000000
  unfold wrap64; omega
theorem half_cases (x : Int) : Int.tmod x 2 = 0 ∨ Int.tmod x 2 = 1 ∨ Int.tmod x 2 = -1 := by
  have e : (Int.tmod x 2).natAbs = x.natAbs % 2 := Int.natAbs_tmod x 2
  omega
theorem parity_eq (n : Int) (odd : Bool) : maths_parity.f 100 n (if odd = true then 1 else 0) = some (parN n odd) := by
  unfold maths_parity.f parN
  rw [up_eq, Option.bind_some]
  have ⟨u1, u2⟩ := up_range n 0
  have hc := half_cases (Int.tdiv (upN n 0).1 1000000)
  rw [tdiv_wrap (up_range n 0), msize_eq _ (by omega) (by omega), Option.bind_some, away_eq _ _ _ (by omega) (by omega) (by decide) (by decide)]
  by_cases c : (upN n 0).2 = 0
  · rw [if_pos c, if_pos c]
    rcases half_cases (Int.tdiv (upN n 0).1 1000000) with h | h | h <;> rw [h] <;> cases odd <;> rfl
  · rw [if_neg c, if_neg c]
theorem even_eq (n : Int) : maths_Even.f 100 n = some (parN n false) := by
  unfold maths_Even.f
  have := parity_eq n false
  rw [if_neg (by decide)] at this
  rw [this]; rfl
theorem odd_eq (n : Int) : maths_Odd.f 100 n = some (parN n true) := by
  unfold maths_Odd.f
  have := parity_eq n true
  rw [if_pos rfl] at this
  rw [this]; rfl
theorem reven_eq (n : Int) : foolscapref15_Even.f 100 n = some (parN n false) := by
  unfold foolscapref15_Even.f parN
  rw [rup_eq, Option.bind_some]
  have ⟨u1, u2⟩ := up_range n 0
  have w1 : wrap64 ((upN n 0).1 - 1000000) = (upN n 0).1 + -1000000 := by unfold wrap64; omega
  have w2 : wrap64 ((upN n 0).1 + 1000000) = (upN n 0).1 + 1000000 := by unfold wrap64; omega
  simp only [foolscapref15_Even.j0]
  rw [tdiv_wrap (up_range n 0), w1, w2, rtold_eq, rtold_eq]
  by_cases c : (upN n 0).2 = 0
  · rw [if_pos c, if_pos c]
    rcases half_cases (Int.tdiv (upN n 0).1 1000000) with h | h | h <;> rw [h] <;> by_cases d : n < 0 <;> simp [d]
  · rw [if_neg c, if_neg c]; rfl
theorem rodd_eq (n : Int) : foolscapref15_Odd.f 100 n = some (parN n true) := by
  unfold foolscapref15_Odd.f parN
  rw [rup_eq, Option.bind_some]
  have ⟨u1, u2⟩ := up_range n 0
  have w1 : wrap64 ((upN n 0).1 - 1000000) = (upN n 0).1 + -1000000 := by unfold wrap64; omega
  have w2 : wrap64 ((upN n 0).1 + 1000000) = (upN n 0).1 + 1000000 := by unfold wrap64; omega
  simp only [foolscapref15_Odd.j0]
  rw [tdiv_wrap (up_range n 0), w1, w2, rtold_eq, rtold_eq]
  by_cases c : (upN n 0).2 = 0
  · rw [if_pos c, if_pos c]
    rcases half_cases (Int.tdiv (upN n 0).1 1000000) with h | h | h <;> rw [h] <;> by_cases d : n < 0 <;> simp [d]
  · rw [if_neg c, if_neg c]; rfl
def absN (n : Int) : Int × Int := if fits n then ((n.natAbs : Int), 0) else (0, 5)
def signN (n : Int) : Int × Int := if fits n then ((if n < 0 then -1000000 else if n > 0 then 1000000 else 0), 0) else (0, 5)
theorem abs_eq (n : Int) : maths_Abs.f n = some (absN n) := by
  unfold maths_Abs.f maths_with_int_at_maths_Abs_1.f maths_Abs_1.f absN
  rw [fits_eq, Option.bind_some]
  by_cases h : fits n
  · have ⟨h1, h2⟩ := h
    rw [decide_eq_true h, if_pos rfl, if_pos h, msize_eq n (by omega) (by omega)]; rfl
  · rw [decide_eq_false h, if_neg (by decide), if_neg h]; rfl
theorem rabs_eq (n : Int) : foolscapref15_Abs.f n = some (absN n) := by
  unfold foolscapref15_Abs.f absN
  rw [rfits_eq, Option.bind_some]
  by_cases h : fits n
  · have ⟨h1, h2⟩ := h
    rw [decide_eq_true h, if_pos rfl, if_pos h, rsize_eq n (by omega) (by omega)]; rfl
  · rw [decide_eq_false h, if_neg (by decide), if_neg h]
theorem sign_eq (n : Int) : maths_Sign.f n = some (signN n) := by
  unfold maths_Sign.f maths_with_int_at_maths_Sign_1.f maths_Sign_1.f signN
  rw [fits_eq, Option.bind_some]
  by_cases h : fits n
  · rw [decide_eq_true h, if_pos rfl, if_pos h]
    simp only [Option.bind_some]
    congr 2
    unfold mx mn
    repeat' split
    all_goals omega
  · rw [decide_eq_false h, if_neg (by decide), if_neg h]; rfl
theorem rsign_eq (n : Int) : foolscapref15_Sign.f n = some (signN n) := by
  unfold foolscapref15_Sign.f signN
  rw [rfits_eq, Option.bind_some]
  by_cases h : fits n
  · rw [decide_eq_true h, if_pos rfl, if_pos h]
    repeat' split
    all_goals first | rfl | omega
  · rw [decide_eq_false h, if_neg (by decide), if_neg h]
end Go.Proofs.Ytbgiehmpdligdaa.MA
namespace Go.Proofs.Ytbgiehmpdligdaa.MB
open Go Go.RowKit Go.Proofs.Ytbgiehmpdligdaa.PG MA
open Go.Proofs.YtbgiehmpdligdaaW.PrintWords Go.Proofs.YtbgiehmpdligdaaW.PrintMore

/-! ### P15.4, P15.5 -/
def nearN (n st : Int) (up : Bool) : Int × Int :=
  if ¬ fits n ∨ ¬ fits st then (0, 5) else if n = 0 then (0, 0) else if st = 0 then (0, 1) else if n > 0 ∧ st < 0 then (0, 5)
  else if Int.tmod n st.natAbs = 0 then (n, 0) else if up = true ∧ n > 0 then toldN (n - Int.tmod n st.natAbs + st.natAbs) else if up = false ∧ n < 0 then toldN (n - Int.tmod n st.natAbs - st.natAbs) else (n - Int.tmod n st.natAbs, 0)
theorem told_ok {x : Int} (h : fits x) : toldN x = (x, 0) := if_pos h
theorem multiple_eq (n st : Int) (up : Bool) : maths_multiple.f 100 n st up = some (nearN n st up) := by
  unfold maths_multiple.f nearN
  rw [fits_eq, fits_eq, Option.bind_some, Option.bind_some]
  simp only [maths_multiple.j0, maths_multiple.j1, maths_multiple.j2]
  by_cases h1 : fits n
  · by_cases h2 : fits st
    · rw [decide_eq_true h1, decide_eq_true h2, if_pos rfl, if_neg (show ¬ (¬ fits n ∨ ¬ fits st) from fun z => z.elim (· h1) (· h2))]
      rw [if_neg (by decide)]
      by_cases c0 : n = 0
      · rw [if_pos c0, if_pos c0]
      rw [if_neg c0, if_neg c0]
      by_cases c1 : st = 0
      · rw [if_pos c1, if_pos c1]
      rw [if_neg c1, if_neg c1]
      obtain ⟨a1, a2⟩ := h1
      obtain ⟨b1, b2⟩ := h2
      have hs : 0 < (st.natAbs : Int) := by omega
      obtain ⟨t1, t2, t3, t4⟩ := tm (n := n) hs
      rw [msize_eq st (by omega) (by omega)]
      simp only [Option.bind_some]
      rw [if_neg (show ¬ (st.natAbs : Int) = 0 by omega)]
      have w1 : wrap64 (n - Int.tmod n st.natAbs) = n - Int.tmod n st.natAbs := sub_wrap ⟨a1, a2⟩ hs
      have w2 : wrap64 (n - Int.tmod n st.natAbs + st.natAbs) = n - Int.tmod n st.natAbs + st.natAbs := by unfold wrap64; omega
      have w3 : wrap64 (n - Int.tmod n st.natAbs - st.natAbs) = n - Int.tmod n st.natAbs - st.natAbs := by unfold wrap64; omega
      rw [w1, w2, w3, told_eq, told_eq]
      simp only [Option.bind_some]
      by_cases c2 : n > 0 <;> by_cases c3 : st < 0 <;> by_cases c4 : Int.tmod n st.natAbs = 0 <;> by_cases c5 : n < 0 <;> cases up
      all_goals first
        | (exfalso; omega)
        | (simp [c2, c3, c4, c5]; done)
    · rw [decide_eq_true h1, decide_eq_false h2, if_pos rfl, if_pos (show ¬ fits n ∨ ¬ fits st from .inr h2)]; rfl
  · rw [decide_eq_false h1, if_neg (by decide), if_pos (show ¬ fits n ∨ ¬ fits st from .inl h1)]; rfl
theorem ceil_eq (n st : Int) : maths_Ceiling.f 100 n st = some (nearN n st true) := by
  unfold maths_Ceiling.f; rw [multiple_eq]; rfl
theorem floor_eq (n st : Int) : maths_Floor.f 100 n st = some (nearN n st false) := by
  unfold maths_Floor.f; rw [multiple_eq]; rfl
theorem rceil_eq (n st : Int) : foolscapref15_Ceiling.f 100 n st = some (nearN n st true) := by
  unfold foolscapref15_Ceiling.f nearN
  rw [rfits_eq, rfits_eq, Option.bind_some, Option.bind_some]
  simp only [foolscapref15_Ceiling.j0, foolscapref15_Ceiling.j1]
  by_cases h1 : fits n
  · by_cases h2 : fits st
    · rw [decide_eq_true h1, decide_eq_true h2, if_pos rfl, if_neg (show ¬ (¬ fits n ∨ ¬ fits st) from fun z => z.elim (· h1) (· h2))]
      rw [if_neg (by decide)]
      by_cases c0 : n = 0
      · rw [if_pos c0, if_pos c0]
      rw [if_neg c0, if_neg c0]
      by_cases c1 : st = 0
      · rw [if_pos c1, if_pos c1]
      rw [if_neg c1, if_neg c1]
      have H1 := h1
      obtain ⟨a1, a2⟩ := h1
      obtain ⟨b1, b2⟩ := h2
      have hs : 0 < (st.natAbs : Int) := by omega
      obtain ⟨t1, t2, t3, t4⟩ := tm (n := n) hs
      rw [rsize_eq st (by omega) (by omega)]
      simp only [Option.bind_some]
      rw [if_neg (show ¬ (st.natAbs : Int) = 0 by omega)]
      have w1 : wrap64 (n - Int.tmod n st.natAbs) = n - Int.tmod n st.natAbs := sub_wrap ⟨a1, a2⟩ hs
      have w2 : wrap64 (n - wrap64 (Int.tmod n st.natAbs - st.natAbs)) = n - Int.tmod n st.natAbs + st.natAbs := by unfold wrap64; omega
      rw [w1, w2, rtold_eq, rtold_eq]
      simp only [Option.bind_some]
      have last : (if Int.tmod n st.natAbs > 0 then some ((toldN (n - Int.tmod n st.natAbs + st.natAbs)).1, (toldN (n - Int.tmod n st.natAbs + st.natAbs)).2) else some ((toldN (n - Int.tmod n st.natAbs)).1, (toldN (n - Int.tmod n st.natAbs)).2)) = some (if Int.tmod n st.natAbs = 0 then (n, 0) else if true = true ∧ n > 0 then toldN (n - Int.tmod n st.natAbs + st.natAbs) else if true = false ∧ n < 0 then toldN (n - Int.tmod n st.natAbs - st.natAbs) else (n - Int.tmod n st.natAbs, (0 : Int))) := by
        by_cases c4 : Int.tmod n st.natAbs = 0
        · rw [if_neg (by omega), if_pos c4, c4, Int.sub_zero, told_ok H1]
        · rw [if_neg c4]
          by_cases c2 : n > 0
          · have := t3 (by omega)
            rw [if_pos (by omega), if_pos ⟨rfl, c2⟩]
          · have := t4 (by omega)
            rw [if_neg (by omega), if_neg (fun z => c2 z.2), if_neg (by simp), told_ok (show fits (n - Int.tmod n st.natAbs) from ⟨by omega, by omega⟩)]
      rw [last]
      by_cases c2 : n > 0
      · rw [if_pos c2]
        by_cases c3 : st < 0
        · rw [decide_eq_true c3, if_pos rfl, if_pos ⟨c2, c3⟩]
        · rw [decide_eq_false c3, if_neg (by decide), if_neg (fun z : n > 0 ∧ st < 0 => c3 z.2)]; try simp
      · rw [if_neg c2, if_neg (by decide), if_neg (fun z : n > 0 ∧ st < 0 => c2 z.1)]; try simp
    · rw [decide_eq_true h1, decide_eq_false h2, if_pos rfl, if_pos (show ¬ fits n ∨ ¬ fits st from .inr h2)]; rfl
  · rw [decide_eq_false h1, if_neg (by decide), if_pos (show ¬ fits n ∨ ¬ fits st from .inl h1)]; rfl
theorem rfloor_eq (n st : Int) : foolscapref15_Floor.f 100 n st = some (nearN n st false) := by
  unfold foolscapref15_Floor.f nearN
  rw [rfits_eq, rfits_eq, Option.bind_some, Option.bind_some]
  simp only [foolscapref15_Floor.j0, foolscapref15_Floor.j1]
  by_cases h1 : fits n
  · by_cases h2 : fits st
    · rw [decide_eq_true h1, decide_eq_true h2, if_pos rfl, if_neg (show ¬ (¬ fits n ∨ ¬ fits st) from fun z => z.elim (· h1) (· h2))]
      rw [if_neg (by decide)]
      by_cases c0 : n = 0
      · rw [if_pos c0, if_pos c0]
      rw [if_neg c0, if_neg c0]
      by_cases c1 : st = 0
      · rw [if_pos c1, if_pos c1]
      rw [if_neg c1, if_neg c1]
      have H1 := h1
      obtain ⟨a1, a2⟩ := h1
      obtain ⟨b1, b2⟩ := h2
      have hs : 0 < (st.natAbs : Int) := by omega
      obtain ⟨t1, t2, t3, t4⟩ := tm (n := n) hs
      rw [rsize_eq st (by omega) (by omega)]
      simp only [Option.bind_some]
      rw [if_neg (show ¬ (st.natAbs : Int) = 0 by omega)]
      have w1 : wrap64 (n - Int.tmod n st.natAbs) = n - Int.tmod n st.natAbs := sub_wrap ⟨a1, a2⟩ hs
      have w2 : wrap64 (n - wrap64 (Int.tmod n st.natAbs + st.natAbs)) = n - Int.tmod n st.natAbs - st.natAbs := by unfold wrap64; omega
      rw [w1, w2, rtold_eq, rtold_eq]
      simp only [Option.bind_some]
      have last : (if Int.tmod n st.natAbs < 0 then some ((toldN (n - Int.tmod n st.natAbs - st.natAbs)).1, (toldN (n - Int.tmod n st.natAbs - st.natAbs)).2) else some ((toldN (n - Int.tmod n st.natAbs)).1, (toldN (n - Int.tmod n st.natAbs)).2)) = some (if Int.tmod n st.natAbs = 0 then (n, 0) else if false = true ∧ n > 0 then toldN (n - Int.tmod n st.natAbs + st.natAbs) else if false = false ∧ n < 0 then toldN (n - Int.tmod n st.natAbs - st.natAbs) else (n - Int.tmod n st.natAbs, (0 : Int))) := by
        by_cases c4 : Int.tmod n st.natAbs = 0
        · rw [if_neg (by omega), if_pos c4, c4, Int.sub_zero, told_ok H1]
        · rw [if_neg c4, if_neg (show ¬ (false = true ∧ n > 0) by simp)]
          by_cases c2 : n < 0
          · have := t4 (by omega)
            rw [if_pos (by omega), if_pos ⟨rfl, c2⟩]
          · have := t3 (by omega)
            rw [if_neg (by omega), if_neg (fun z => c2 z.2), told_ok (show fits (n - Int.tmod n st.natAbs) from ⟨by omega, by omega⟩)]
      rw [last]
      by_cases c2 : n > 0
      · rw [if_pos c2]
        by_cases c3 : st < 0
        · rw [decide_eq_true c3, if_pos rfl, if_pos ⟨c2, c3⟩]
        · rw [decide_eq_false c3, if_neg (by decide), if_neg (fun z : n > 0 ∧ st < 0 => c3 z.2)]; try simp
      · rw [if_neg c2, if_neg (by decide), if_neg (fun z : n > 0 ∧ st < 0 => c2 z.1)]; try simp
    · rw [decide_eq_true h1, decide_eq_false h2, if_pos rfl, if_pos (show ¬ fits n ∨ ¬ fits st from .inr h2)]; rfl
  · rw [decide_eq_false h1, if_neg (by decide), if_pos (show ¬ fits n ∨ ¬ fits st from .inl h1)]; rfl
def quotN (n st : Int) : Int × Int := if ¬ fits n ∨ ¬ fits st then (0, 5) else if st = 0 then (0, 1) else if ((Int.tdiv n st).natAbs : Int) > 1000000000000 then (0, 5) else (Int.tdiv n st * 1000000, 0)
theorem quot_facts {n st : Int} (h : fits n) : wrap64 (Int.tdiv n st) = Int.tdiv n st ∧ -1000000000000000000 ≤ Int.tdiv n st ∧ Int.tdiv n st ≤ 1000000000000000000 := by
  obtain ⟨h1, h2⟩ := h
  have e : (Int.tdiv n st).natAbs = n.natAbs / st.natAbs := Int.natAbs_tdiv n st
  have := Nat.div_le_self n.natAbs st.natAbs
  refine ⟨?_, ?_, ?_⟩
  · unfold wrap64; omega
  · omega
  · omega
theorem quot_eq (n st : Int) : maths_Quotient.f 100 n st = some (quotN n st) := by
  unfold maths_Quotient.f quotN
  rw [fits_eq, fits_eq, Option.bind_some, Option.bind_some]
  simp only [maths_Quotient.j0]
  by_cases h1 : fits n
  · obtain ⟨q1, q2, q3⟩ := quot_facts (st := st) h1
    rw [q1, msize_eq _ (by omega) (by omega), Option.bind_some]
    by_cases h2 : fits st
    · rw [decide_eq_true h1, decide_eq_true h2, if_pos rfl, if_neg (show ¬ (¬ fits n ∨ ¬ fits st) from fun z => z.elim (· h1) (· h2)), if_neg (by decide)]
      by_cases c1 : st = 0
      · rw [if_pos c1, if_pos c1]
      rw [if_neg c1, if_neg c1]
      by_cases c2 : ((Int.tdiv n st).natAbs : Int) > 1000000000000
      · rw [if_pos c2, if_pos c2]
      · have w : wrap64 (Int.tdiv n st * 1000000) = Int.tdiv n st * 1000000 := by unfold wrap64; omega
        rw [if_neg c2, if_neg c2, w]
    · rw [decide_eq_true h1, decide_eq_false h2, if_pos rfl, if_pos (show ¬ fits n ∨ ¬ fits st from .inr h2)]; rfl
  · rw [decide_eq_false h1, if_neg (by decide), if_pos (show ¬ fits n ∨ ¬ fits st from .inl h1)]; rfl
theorem rquot_eq (n st : Int) : foolscapref15_Quotient.f 100 n st = some (quotN n st) := by
  unfold foolscapref15_Quotient.f quotN
  rw [rfits_eq, rfits_eq, Option.bind_some, Option.bind_some]
  simp only [foolscapref15_Quotient.j0]
  by_cases h1 : fits n
  · obtain ⟨q1, q2, q3⟩ := quot_facts (st := st) h1
    rw [q1, rsize_eq _ (by omega) (by omega), Option.bind_some]
    by_cases h2 : fits st
    · rw [decide_eq_true h1, decide_eq_true h2, if_pos rfl, if_neg (show ¬ (¬ fits n ∨ ¬ fits st) from fun z => z.elim (· h1) (· h2)), if_neg (by decide)]
      by_cases c1 : st = 0
      · rw [if_pos c1, if_pos c1]
      rw [if_neg c1, if_neg c1]
      by_cases c2 : ((Int.tdiv n st).natAbs : Int) > 1000000000000
      · rw [if_pos c2, if_pos c2]
      · have w : wrap64 (Int.tdiv n st * 1000000) = Int.tdiv n st * 1000000 := by unfold wrap64; omega
        rw [if_neg c2, if_neg c2, w]
    · rw [decide_eq_true h1, decide_eq_false h2, if_pos rfl, if_pos (show ¬ fits n ∨ ¬ fits st from .inr h2)]; rfl
  · rw [decide_eq_false h1, if_neg (by decide), if_pos (show ¬ fits n ∨ ¬ fits st from .inl h1)]; rfl

theorem lives_eq : foolscaplaw15_lives.f 100 = some true := by decide +kernel
end Go.Proofs.Ytbgiehmpdligdaa.MB
