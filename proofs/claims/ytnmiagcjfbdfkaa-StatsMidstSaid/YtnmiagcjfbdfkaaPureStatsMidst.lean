/- Any numbers have the least, the greatest, the midst and the most frequent one that the document says, or none. The law in plain numbers. -/
import Derived.Test.YtnmiagcjfbdfkaaPStatsMidstx
import Derived.Test.YtnmiagcjfbdfkaaGPure
set_option linter.unusedVariables false
namespace Go.Proofs.Ytnmiagcjfbdfkaa.Pure
open Go.RowKit WPure SA SB SC SD
open Go.Proofs.YtnmiagcjfbdfkaaW.PrintWords Go.Proofs.YtnmiagcjfbdfkaaW.PrintLast Go.Proofs.YtnmiagcjfbdfkaaW.PrintMore
open PStatsMidst
theorem own_eq (l : List Int) (h : l.length < 17592186044416) : foolscaplaw16_own.f l = some l := by
  unfold foolscaplaw16_own.f
  rw [Option.bind_some, if_pos (by rw [List.length_nil]; omega), List.nil_append]
theorem same_l0 (l : List Int) (hl : l.length < 4611686018427387904) : ∀ n k i, i + n = l.length → n + 1 ≤ k → foolscaplaw16_same.l0 k l l (i : Int) = some true := by
  intro n
  induction n with
  | zero =>
    intro k i hi hk
    obtain ⟨k, rfl⟩ : ∃ q, k = q + 1 := ⟨k - 1, by omega⟩
    rw [foolscaplaw16_same.l0, if_neg (by omega)]
  | succ n ih =>
    intro k i hi hk
    obtain ⟨k, rfl⟩ : ∃ q, k = q + 1 := ⟨k - 1, by omega⟩
    rw [foolscaplaw16_same.l0, if_pos (by omega), if_pos (by omega), if_pos (by omega), if_pos rfl, w1 i (by omega)]
    exact ih k (i + 1) (by omega) (by omega)
theorem same_eq (l : List Int) (hl : l.length < 4611686018427387904) (k : Nat) (hk : l.length + 1 ≤ k) : foolscaplaw16_same.f k l l = some true := by
  unfold foolscaplaw16_same.f
  rw [if_pos rfl]
  exact same_l0 l hl l.length k 0 (by omega) hk
theorem midst_j0 (l : List Int) (hl : l.length < 17592186044416) : foolscaplaw16_StatsMidst.j0 (l.length + 2) l false = some true := by
  rw [foolscaplaw16_StatsMidst.j0, if_neg (by decide), own_eq l hl]
  unfold stats_Least.f stats_Greatest.f stats_Median.f stats_Mode.f foolscapref16_Least.f foolscapref16_Greatest.f foolscapref16_Median.f foolscapref16_Mode.f
  simp only [Option.bind_some, if_true]
  rw [same_eq l (by omega) _ (Nat.le_refl _)]
  rfl
theorem StatsMidst : foolscaplaw16_StatsMidst.Pure := by
  intro l _ h _
  refine ⟨l.length + 2, ?_⟩
  have hl : l.length < 17592186044416 := by omega
  unfold foolscaplaw16_StatsMidst.f
  by_cases c : (l.length : Int) > 300
  · rw [if_pos c]
    by_cases c2 : (l.length : Int) ≤ 4096
    · rw [decide_eq_true c2]; rfl
    · rw [decide_eq_false c2]; exact midst_j0 l hl
  · rw [if_neg c]; exact midst_j0 l hl
end Go.Proofs.Ytnmiagcjfbdfkaa.Pure
