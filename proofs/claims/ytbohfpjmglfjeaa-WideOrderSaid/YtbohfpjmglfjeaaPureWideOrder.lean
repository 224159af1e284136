/- Sums stand in order: the law in plain numbers. No condition. -/
import Derived.Test.YtbohfpjmglfjeaaPWideOrderx
namespace Go.Proofs.Ytbohfpjmglfjeaa.Pure
open Go.RowKit Go.Proofs.Ytbohfpjmglfjeaa.PWideOrder Go.Proofs.YtbohfpjmglfjeaaW.PrintWords Go.Proofs.YtbohfpjmglfjeaaW.PrintLast
open WPure
theorem WideOrder0 (h l h2 l2 n : Int) : foolscaplaw03_WideOrder.f 1 h l h2 l2 n = some true := by
  have fin : foolscaplaw03_WideOrder.j0 1 n false h l = some true := by
    simp only [foolscaplaw03_WideOrder.j0, wide_Add.f, Option.bind_some, wide_Compare.f, foolscaplaw03_lives.f]
    rw [if_neg (by decide)]
    by_cases hg : (addW h l n).2.2 = 0
    · rw [if_pos hg]
      have hrf : right h l ∧ fits n := by
        unfold addW at hg
        by_cases c : right h l ∧ fits n
        · exact c
        · rw [if_neg c] at hg; exact absurd hg (by decide)
      obtain ⟨hr, hf⟩ := hrf
      obtain ⟨hin, e1, e2⟩ := rep_of h l hr
      generalize h * 1000000000000000000 + l = s at *
      subst e1 e2
      rw [addW_rep s n hin, if_pos hf] at hg ⊢
      by_cases c : inW (s + n)
      · rw [if_pos c] at hg ⊢
        simp only
        rw [compareW_rep s (s + n) hin c]
        have t1 : (s < s + n) ↔ 0 < n := by omega
        have t2 : (s + n < s) ↔ n < 0 := by omega
        by_cases p : 0 < n
        · rw [if_pos (t1.mpr p)]
          have : ¬ n < 0 := by omega
          simp [p, this]
        · rw [if_neg (fun x => p (t1.mp x))]
          by_cases q : n < 0
          · rw [if_pos (t2.mpr q)]
            simp [p, q]
          · rw [if_neg (fun x => q (t2.mp x))]
            simp [p, q]
      · rw [if_neg c] at hg; exact absurd hg (by decide)
    · rw [if_neg hg]
  unfold foolscaplaw03_WideOrder.f wide_Compare.f
  simp only [Option.bind_some]
  by_cases hr : right h l ∧ right h2 l2
  · obtain ⟨i1, e1, e2⟩ := rep_of h l hr.1
    obtain ⟨i2, e3, e4⟩ := rep_of h2 l2 hr.2
    generalize h * 1000000000000000000 + l = s at *
    generalize h2 * 1000000000000000000 + l2 = t at *
    rw [← e1, ← e2, ← e3, ← e4, compareW_rep s t i1 i2, compareW_rep t s i2 i1]
    rw [← e1, ← e2] at fin
    have w1 : wrap64 (-1) = -1 := by unfold wrap64; decide
    have w2 : wrap64 1 = 1 := by unfold wrap64; decide
    have w3 : wrap64 0 = 0 := by unfold wrap64; decide
    by_cases p : s < t
    · have q : ¬ t < s := by omega
      have ne : (hiW s == hiW t && (loW s == loW t)) = false := by
        rw [Bool.and_eq_false_iff]
        by_cases x : hiW s = hiW t
        · right
          rw [beq_eq_false_iff_ne]
          intro y
          have := rep_inj x y
          omega
        · left; simpa using x
      simp [p, q, w1, ne, fin]
    · by_cases q : t < s
      · have ne : (hiW s == hiW t && (loW s == loW t)) = false := by
          rw [Bool.and_eq_false_iff]
          by_cases x : hiW s = hiW t
          · right
            rw [beq_eq_false_iff_ne]
            intro y
            have := rep_inj x y
            omega
          · left; simpa using x
        simp [p, q, w2, ne, fin]
      · have : s = t := by omega
        subst this
        simp [w3, fin]
  · have a1 : compareW h l h2 l2 = (0, 2) := by unfold compareW; rw [if_neg hr]
    have a2 : compareW h2 l2 h l = (0, 2) := by unfold compareW; rw [if_neg (fun x => hr ⟨x.2, x.1⟩)]
    have w3 : wrap64 0 = 0 := by unfold wrap64; decide
    rw [a1, a2]
    simp [w3, fin]
theorem WideOrder (h l h2 l2 n : Int) (_ : (Lit.int .i64 h).wf = true) (_ : (Lit.int .i64 l).wf = true) (_ : (Lit.int .i64 h2).wf = true) (_ : (Lit.int .i64 l2).wf = true) (_ : (Lit.int .i64 n).wf = true) : ∃ k, foolscaplaw03_WideOrder.f k h l h2 l2 n = some true := ⟨1, WideOrder0 h l h2 l2 n⟩
end Go.Proofs.Ytbohfpjmglfjeaa.Pure
