/- The root's square is the number, but for what rounding takes; a greater number has no less a root. The law in plain numbers. No condition. -/
import Derived.Test.YtbgiehmpdligdaaPMathsRootx
import Derived.Test.YtbgiehmpdligdaaHPure
set_option linter.unusedVariables false
namespace Go.Proofs.Ytbgiehmpdligdaa.Pure
open Go Go.RowKit MA MB MC ME MF
open Go.Proofs.YtbgiehmpdligdaaW.PrintWords Go.Proofs.YtbgiehmpdligdaaW.PrintLast Go.Proofs.YtbgiehmpdligdaaW.PrintMore
theorem wfi {a : Int} (h : (Lit.int .i64 a).wf = true) : -9223372036854775808 ≤ a ∧ a < 9223372036854775808 := by
  simp [Lit.wf, IntKind.min, IntKind.max, IntKind.bits, IntKind.signed] at h
  omega
theorem root_sz {r : Nat} (h : r ≤ 1000000000000) (s n : Nat) (h1 : s ≤ n + r / 1000000 + 1) (h2 : n ≤ s + r / 1000000 + 1) (hn : n ≤ 1000000000000000000) (hs : s ≤ 1000000000000000000) :
    ¬ ((mx (wrap64 ((s : Int) - (n : Int))) (wrap64 (-(wrap64 ((s : Int) - (n : Int)))))) > (wrap64 ((wrap64 (Int.tdiv (r : Int) 1000000)) + 1))) := by
  have e : Int.tdiv (r : Int) 1000000 = ((r / 1000000 : Nat) : Int) := by rw [Int.tdiv_eq_ediv_of_nonneg (by omega)]; rfl
  have w1 : wrap64 ((r / 1000000 : Nat) : Int) = ((r / 1000000 : Nat) : Int) := wrap_n (by omega)
  have w2 : wrap64 (((r / 1000000 : Nat) : Int) + 1) = ((r / 1000000 + 1 : Nat) : Int) := wrap_n (x := r / 1000000 + 1) (by omega)
  have w3 : wrap64 ((s : Int) - (n : Int)) = (s : Int) - (n : Int) := by clear w1 w2 e; unfold wrap64; omega
  rw [e, w1, w2, w3]
  clear e w1 w2 w3
  rw [size_eq _ (by omega) (by omega)]
  omega
theorem MathsRoot : PMathsRoot.foolscaplaw15_MathsRoot.Pure := by
  intro n m _ _
  refine ⟨1, ?_⟩
  unfold PMathsRoot.foolscaplaw15_MathsRoot.f
  simp only [PMathsRoot.foolscaplaw15_MathsRoot.j0, PMathsRoot.maths_Root.f, PMathsRoot.num_Mul.f, PMathsRoot.num_Fits.f, PMathsRoot.foolscaplaw15_size.f, PMathsRoot.foolscaplaw15_lives.f, Option.bind_some]
  by_cases hn : fits n ∧ 0 ≤ n
  · obtain ⟨⟨ha, hb⟩, hc⟩ := hn
    obtain ⟨N, rfl⟩ := Int.eq_ofNat_of_zero_le hc
    have hN : N ≤ 1000000000000000000 := by omega
    have en : rootN (N : Int) = ((rnd (N * 1000000) : Int), 0) := if_pos ⟨⟨ha, hb⟩, hc⟩
    rw [en]
    dsimp only
    rw [if_pos rfl]
    have hr := rnd_le (W := N * 1000000) (by omega)
    obtain ⟨g1, g2⟩ := rnd_near (W := N * 1000000) (by omega)
    obtain ⟨d1, d2⟩ := sq_div g1 g2
    have hsq : rdiv (rnd (N * 1000000) * rnd (N * 1000000)) 1000000 ≤ 1000000000000000000 := by
      have h1 := Nat.mul_le_mul hr hr
      have h2 := MC.rdiv_mono (y := 1000000) (by decide) h1
      have h3 : rdiv (1000000000000 * 1000000000000) 1000000 = 1000000000000000000 := by decide +kernel
      omega
    have hmono : (N : Int) ≤ m → fits m → rnd (N * 1000000) ≤ rnd (m.natAbs * 1000000) := by
      intro h1 h2
      have := h2.2
      exact rnd_mono (by omega) (by omega)
    clear g1 g2
    obtain ⟨r, hrr⟩ : ∃ r, rnd (N * 1000000) = r := ⟨_, rfl⟩
    rw [hrr] at hr d1 d2 hsq hmono ⊢
    clear hrr en
    have hm : mulC (r : Int) (r : Int) = some ((rdiv (r * r) 1000000 : Int), 0) := by
      unfold mulC
      simp only [Int.natAbs_natCast]
      rw [if_pos ⟨⟨⟨by omega, by omega⟩, ⟨by omega, by omega⟩⟩, hsq⟩]
      unfold sgn
      rw [if_neg (by simp)]
    rw [hm, Option.bind_some]
    dsimp only
    rw [if_neg (show ¬ (r : Int) < 0 by omega), if_pos rfl, decide_eq_false (root_sz hr _ N d1 d2 (by omega) hsq), if_neg (by decide)]
    by_cases hm2 : fits m ∧ 0 ≤ m
    · have em : rootN m = ((rnd (m.natAbs * 1000000) : Int), 0) := if_pos hm2
      rw [em]
      dsimp only
      rw [if_pos rfl]
      by_cases c : (N : Int) > m
      · rw [if_pos c]
      · have := hmono (by omega) hm2.1
        rw [if_neg c, if_pos (by omega)]
    · have em : rootN m = (0, 5) := if_neg hm2
      rw [em]; rfl
  · have en : rootN n = (0, 5) := if_neg hn
    rw [en]
    dsimp only
    rw [if_neg (by decide), if_pos rfl, if_pos rfl]
    by_cases c : n < 0
    · rw [if_pos c]
    · rw [if_neg c, decide_eq_false (fun z => hn ⟨z, by omega⟩), if_neg (by decide)]
end Go.Proofs.Ytbgiehmpdligdaa.Pure
