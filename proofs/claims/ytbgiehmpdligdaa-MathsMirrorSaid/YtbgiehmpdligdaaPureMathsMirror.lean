/- Rounding does not hang on the sign; what is rounded down on the one side is rounded up on the other. The law in plain numbers. No condition. -/
import Derived.Test.YtbgiehmpdligdaaPMathsMirrorx
import Derived.Test.YtbgiehmpdligdaaGPure
set_option linter.unusedVariables false
namespace Go.Proofs.Ytbgiehmpdligdaa.Pure
open Go Go.RowKit MA MB
open Go.Proofs.YtbgiehmpdligdaaW.PrintWords Go.Proofs.YtbgiehmpdligdaaW.PrintLast Go.Proofs.YtbgiehmpdligdaaW.PrintMore
theorem wfi {a : Int} (h : (Lit.int .i64 a).wf = true) : -9223372036854775808 ≤ a ∧ a < 9223372036854775808 := by
  simp [Lit.wf, IntKind.min, IntKind.max, IntKind.bits, IntKind.signed] at h
  omega
theorem told_neg (x : Int) : toldN (-x) = (-(toldN x).1, (toldN x).2) := by
  unfold toldN
  by_cases h : fits x
  · rw [if_pos h, if_pos (show fits (-x) from ⟨by have := h.2; omega, by have := h.1; omega⟩)]
  · rw [if_neg h, if_neg (fun z : fits (-x) => h ⟨by have := z.2; omega, by have := z.1; omega⟩)]; rfl
theorem fits_neg {x : Int} (h : fits x) : fits (-x) := ⟨by have := h.2; omega, by have := h.1; omega⟩
theorem up_neg {n : Int} (p : Int) (h : fits n) (h0 : n ≠ 0) : upN (-n) p = (-(upN n p).1, (upN n p).2) := by
  unfold upN
  by_cases c : stepOf p ≠ 0
  · rw [if_pos (show fits (-n) ∧ stepOf p ≠ 0 from ⟨fits_neg h, c⟩), if_pos (show fits n ∧ stepOf p ≠ 0 from ⟨h, c⟩), Int.neg_tmod]
    by_cases c1 : Int.tmod n (stepOf p) = 0
    · rw [if_pos c1, if_pos (show -Int.tmod n (stepOf p) = 0 by omega)]
    · rw [if_neg c1, if_neg (show ¬ -Int.tmod n (stepOf p) = 0 by omega), ← told_neg]
      congr 1
      by_cases c2 : n < 0
      · rw [if_pos c2, if_neg (by omega)]; omega
      · rw [if_neg c2, if_pos (by omega)]; omega
  · rw [if_neg (fun z => c z.2), if_neg (fun z => c z.2)]; rfl
theorem par_neg {n : Int} (o : Bool) (h : fits n) (h0 : n ≠ 0) : parN (-n) o = (-(parN n o).1, (parN n o).2) := by
  unfold parN
  rw [up_neg 0 h h0]
  dsimp only
  rw [Int.neg_tdiv, Int.neg_tmod]
  by_cases c : (upN n 0).2 = 0
  · rw [if_pos c, if_pos c]
    by_cases c1 : Int.tmod (Int.tdiv (upN n 0).1 1000000) 2 = 0
    · rw [decide_eq_true c1, decide_eq_true (show -Int.tmod (Int.tdiv (upN n 0).1 1000000) 2 = 0 by omega)]
      split
      · rfl
      · rw [← told_neg]; congr 1
        by_cases c2 : n < 0
        · rw [if_pos c2, if_neg (by omega)]; omega
        · rw [if_neg c2, if_pos (by omega)]; omega
    · rw [decide_eq_false c1, decide_eq_false (show ¬ -Int.tmod (Int.tdiv (upN n 0).1 1000000) 2 = 0 by omega)]
      split
      · rfl
      · rw [← told_neg]; congr 1
        by_cases c2 : n < 0
        · rw [if_pos c2, if_neg (by omega)]; omega
        · rw [if_neg c2, if_pos (by omega)]; omega
  · rw [if_neg c, if_neg c]
theorem near_neg {n st : Int} (h : fits n) (h0 : n ≠ 0) (hs : 1 ≤ st) (hf : fits st) : nearN n st false = (-(nearN (-n) st true).1, (nearN (-n) st true).2) := by
  unfold nearN
  have hn := fits_neg h
  rw [if_neg (show ¬ (¬ fits n ∨ ¬ fits st) from fun z => z.elim (· h) (· hf)), if_neg (show ¬ (¬ fits (-n) ∨ ¬ fits st) from fun z => z.elim (· hn) (· hf)), if_neg h0, if_neg (show ¬ -n = 0 by omega), if_neg (show ¬ st = 0 by omega), if_neg (show ¬ st = 0 by omega), if_neg (show ¬ (n > 0 ∧ st < 0) by omega), if_neg (show ¬ (-n > 0 ∧ st < 0) by omega), Int.neg_tmod]
  by_cases c1 : Int.tmod n st.natAbs = 0
  · rw [if_pos c1, if_pos (show -Int.tmod n st.natAbs = 0 by omega)]; simp
  · rw [if_neg c1, if_neg (show ¬ -Int.tmod n st.natAbs = 0 by omega), if_neg (show ¬ (false = true ∧ n > 0) by simp)]
    by_cases c2 : n < 0
    · rw [if_pos (show false = false ∧ n < 0 from ⟨rfl, c2⟩), if_pos (show true = true ∧ -n > 0 from ⟨rfl, by omega⟩)]
      have := told_neg (-n - -Int.tmod n st.natAbs + st.natAbs)
      rw [← this]; congr 1; omega
    · rw [if_neg (show ¬ (false = false ∧ n < 0) from fun z => c2 z.2), if_neg (show ¬ (true = true ∧ -n > 0) by omega), if_neg (show ¬ (true = false ∧ -n < 0) by simp)]
      dsimp only
      congr 1; omega
theorem wneg {x : Int} (h : fits x) : wrap64 (-x) = -x := by have := h.1; have := h.2; unfold wrap64; omega
theorem par_range (n : Int) (o : Bool) : fits (parN n o).1 := by
  unfold parN
  repeat' split
  all_goals first | exact up_range n 0 | exact told_range _
theorem near_range (n st : Int) (u : Bool) (h : fits n) : fits (nearN n st u).1 := by
  unfold nearN
  by_cases c : ¬ fits n ∨ ¬ fits st
  · rw [if_pos c]; exact ⟨by decide, by decide⟩
  rw [if_neg c]
  by_cases c1 : n = 0
  · rw [if_pos c1]; exact ⟨by decide, by decide⟩
  rw [if_neg c1]
  by_cases c2 : st = 0
  · rw [if_pos c2]; exact ⟨by decide, by decide⟩
  rw [if_neg c2]
  have hs : 0 < (st.natAbs : Int) := by omega
  obtain ⟨t1, t2, t3, t4⟩ := tm (n := n) hs
  repeat' split
  all_goals first
    | exact ⟨by decide, by decide⟩
    | exact told_range _
    | exact h
    | (have := h.1; have := h.2; exact ⟨by dsimp only; omega, by dsimp only; omega⟩)
theorem MathsMirror : PMathsMirror.foolscaplaw15_MathsMirror.Pure := by
  intro n p st _ _ _
  refine ⟨1, ?_⟩
  unfold PMathsMirror.foolscaplaw15_MathsMirror.f
  simp only [PMathsMirror.foolscaplaw15_MathsMirror.j0, PMathsMirror.num_Fits.f, PMathsMirror.maths_Up.f, PMathsMirror.maths_Even.f, PMathsMirror.maths_Floor.f, PMathsMirror.maths_Ceiling.f, PMathsMirror.foolscaplaw15_lives.f, Option.bind_some]
  by_cases h : fits n
  · rw [decide_eq_true h, if_pos rfl]
    by_cases c0 : n = 0
    · rw [if_pos c0, if_pos trivial]
    rw [if_neg c0]
    by_cases c1 : st < 1
    · rw [if_pos c1, if_pos trivial]
    rw [if_neg c1]
    by_cases c2 : fits st
    · rw [decide_eq_true c2, if_neg (by decide), wneg h]
      have e1 := up_neg p h c0
      have e2 := par_neg false h c0
      have e3 := near_neg h c0 (by omega) c2
      rw [e1, e2, e3]
      dsimp only
      have f1 : wrap64 (- -(upN n p).1) = (upN n p).1 := by have := wneg (fits_neg (up_range n p)); omega
      have f2 : wrap64 (- -(parN n false).1) = (parN n false).1 := by have := wneg (fits_neg (par_range n false)); omega
      have f3 : wrap64 (-(nearN (-n) st true).1) = -(nearN (-n) st true).1 := wneg (near_range _ _ _ (fits_neg h))
      rw [f1, f2, f3]
      simp
    · rw [decide_eq_false c2, if_pos (by decide)]
  · rw [decide_eq_false h, if_neg (by decide), if_pos trivial]
end Go.Proofs.Ytbgiehmpdligdaa.Pure
