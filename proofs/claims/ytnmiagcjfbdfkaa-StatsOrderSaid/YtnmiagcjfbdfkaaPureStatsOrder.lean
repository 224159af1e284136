/- Sum, mean, ends, midst and places do not hang on the order of the numbers. The law in plain numbers. -/
import Derived.Test.YtnmiagcjfbdfkaaPStatsOrderx
import Derived.Test.YtnmiagcjfbdfkaaGPure
set_option linter.unusedVariables false
namespace Go.Proofs.Ytnmiagcjfbdfkaa.Pure
open Go Go.RowKit WPure SA SB SC SD
open Go.Proofs.YtnmiagcjfbdfkaaW.PrintWords Go.Proofs.YtnmiagcjfbdfkaaW.PrintLast Go.Proofs.YtnmiagcjfbdfkaaW.PrintMore
theorem sum_perm {l m : List Int} (h : l.Perm m) : l.sum = m.sum := by
  induction h with
  | nil => rfl
  | cons x _ ih => rw [List.sum_cons, List.sum_cons, ih]
  | swap x y l => simp only [List.sum_cons]; omega
  | trans _ _ a b => exact a.trans b
theorem good_perm {l m : List Int} (h : l.Perm m) : good l ↔ good m := by
  unfold good
  rw [h.length_eq]
  exact ⟨fun z => ⟨z.1, fun x hx => z.2 x (h.mem_iff.mpr hx)⟩, fun z => ⟨z.1, fun x hx => z.2 x (h.mem_iff.mp hx)⟩⟩
theorem sumN_perm {l m : List Int} (h : l.Perm m) : sumN l = sumN m := by
  unfold sumN
  rw [sum_perm h]
  by_cases g : good l ∧ fits m.sum
  · rw [if_pos g, if_pos ⟨(good_perm h).mp g.1, g.2⟩]
  · rw [if_neg g, if_neg (fun z => g ⟨(good_perm h).mpr z.1, z.2⟩)]
theorem avgN_perm {l m : List Int} (h : l.Perm m) : avgN l = avgN m := by
  unfold avgN
  by_cases g : good l
  · have gm := (good_perm h).mp g
    rw [if_pos g, if_pos gm, sum_perm h, h.length_eq]
  · have gm : ¬ good m := fun z => g ((good_perm h).mpr z)
    rw [if_neg g, if_neg gm]
theorem medN_perm {l m : List Int} (h : l.Perm m) : medN l = medN m := by
  unfold medN
  have hl := h.length_eq
  by_cases g : good l ∧ l.length ≠ 0
  · have := g.1.1
    have := g.2
    have gm : good m ∧ m.length ≠ 0 := ⟨(good_perm h).mp g.1, by omega⟩
    rw [if_pos g, if_pos gm, ← hl]
    rw [kth_perm h (l.length / 2) (by omega) (by omega), kth_perm h (l.length / 2 - 1) (by omega) (by omega)]
  · have gm : ¬ (good m ∧ m.length ≠ 0) := fun z => g ⟨(good_perm h).mpr z.1, by omega⟩
    rw [if_neg g, if_neg gm]
theorem smallN_perm {l m : List Int} (h : l.Perm m) (a : Int) : smallN l a = smallN m a := by
  unfold smallN
  have hl := h.length_eq
  by_cases g : good l ∧ 1 ≤ a ∧ a ≤ l.length
  · have := g.1.1
    have := g.2
    have gm : good m ∧ 1 ≤ a ∧ a ≤ m.length := ⟨(good_perm h).mp g.1, by omega, by omega⟩
    rw [if_pos g, if_pos gm, kth_perm h _ (by omega) (by omega)]
  · have gm : ¬ (good m ∧ 1 ≤ a ∧ a ≤ m.length) := fun z => g ⟨(good_perm h).mpr z.1, by omega, by omega⟩
    rw [if_neg g, if_neg gm]
theorem place (x : Int) (n : Nat) (h0 : 0 < n) (h : n ≤ 2000) : ∃ p : Nat, p < n ∧ wrap64 (Int.tmod (IntKind.u64.wrap x) (IntKind.u64.wrap (n : Int))) = (p : Int) := by
  have e : IntKind.u64.wrap (n : Int) = n := by rw [IntKind.wrap_u64]; omega
  rw [e]
  have e2 : 0 ≤ IntKind.u64.wrap x := by rw [IntKind.wrap_u64]; omega
  generalize IntKind.u64.wrap x = y at e2
  rw [Int.tmod_eq_emod_of_nonneg e2]
  have h1 := Int.emod_nonneg y (show (n : Int) ≠ 0 by omega)
  have h2 := Int.emod_lt_of_pos y (show (0 : Int) < n by omega)
  generalize y % (n : Int) = z at h1 h2
  exact ⟨z.toNat, by omega, by unfold wrap64; omega⟩
theorem turned_l0 (l : List Int) (i j : Int) (hl : l.length ≤ 2000) : ∀ t k, t ≤ l.length → t + 1 ≤ k →
    ∃ m, PStatsOrder.foolscaplaw16_turned.l0 k l i j (l.drop t).reverse ((t : Int) - 1) = some m ∧ m.Perm l := by
  intro t
  induction t with
  | zero =>
    intro k ht hk
    obtain ⟨k, rfl⟩ : ∃ q, k = q + 1 := ⟨k - 1, by omega⟩
    rw [PStatsOrder.foolscaplaw16_turned.l0, if_neg (by omega), List.drop_zero]
    by_cases c : (l.length : Int) > 0
    · rw [if_pos c]
      obtain ⟨p, hp, ep⟩ := place i l.length (by omega) hl
      obtain ⟨q, hq, eq⟩ := place j l.length (by omega) hl
      have e : IntKind.u64.wrap (l.length : Int) = l.length := by rw [IntKind.wrap_u64]; omega
      have hr : l.reverse.length = l.length := List.length_reverse
      rw [ep, eq, e, if_neg (by omega), if_pos (by omega), if_pos (by omega), if_pos (by omega), if_pos (by omega), rd_nat, rd_nat, Int.toNat_natCast, Int.toNat_natCast]
      exact ⟨_, rfl, (swap_perm l.reverse p q (by omega) (by omega)).trans (List.reverse_perm l)⟩
    · rw [if_neg c]; exact ⟨_, rfl, List.reverse_perm l⟩
  | succ t ih =>
    intro k ht hk
    obtain ⟨k, rfl⟩ : ∃ q, k = q + 1 := ⟨k - 1, by omega⟩
    have e : ((t + 1 : Nat) : Int) - 1 = (t : Int) := by omega
    have w : wrap64 ((t : Int) - 1) = (t : Int) - 1 := by unfold wrap64; omega
    rw [PStatsOrder.foolscaplaw16_turned.l0, e, if_pos (by omega), if_pos (by omega), if_pos (by omega), if_pos (by rw [List.length_reverse, List.length_drop]; omega), rd_nat, w]
    have := ih k (by omega) (by omega)
    rw [drop_cons l t (by omega), List.reverse_cons] at this
    exact this
theorem turned_eq (l : List Int) (i j : Int) (hl : l.length ≤ 2000) : ∃ m, PStatsOrder.foolscaplaw16_turned.f 3000 l i j = some m ∧ m.Perm l := by
  unfold PStatsOrder.foolscaplaw16_turned.f
  have w : wrap64 ((l.length : Int) - 1) = (l.length : Int) - 1 := by unfold wrap64; omega
  have := turned_l0 l i j hl l.length 3000 (Nat.le_refl _) (by omega)
  rw [List.drop_length, List.reverse_nil] at this
  rw [w]; exact this
theorem StatsOrder : PStatsOrder.foolscaplaw16_StatsOrder.Pure := by
  intro l i j a _ h _ _ _ _
  refine ⟨3000, ?_⟩
  unfold PStatsOrder.foolscaplaw16_StatsOrder.f
  by_cases c : (l.length : Int) > 2000
  · rw [if_pos c]; rfl
  · rw [if_neg c]
    obtain ⟨m, e, hp⟩ := turned_eq l i j (by omega)
    rw [e]
    unfold PStatsOrder.stats_Sum.f PStatsOrder.stats_Mean.f PStatsOrder.stats_Median.f PStatsOrder.stats_Small.f PStatsOrder.foolscaplaw16_lives.f
    simp only [Option.bind_some]
    rw [sumN_perm hp, avgN_perm hp, medN_perm hp, smallN_perm hp a]
    simp only [if_true]
end Go.Proofs.Ytnmiagcjfbdfkaa.Pure
