/- A number more makes the sum that much greater, as long as it fits; it has a place among the numbers, once it is there. The law in plain numbers. -/
import Derived.Test.YtnmiagcjfbdfkaaPStatsGrowsx
import Derived.Test.YtnmiagcjfbdfkaaGPure
set_option linter.unusedVariables false
namespace Go.Proofs.Ytnmiagcjfbdfkaa.Pure
open Go Go.RowKit WPure SA SB SC SD
open Go.Proofs.YtnmiagcjfbdfkaaW.PrintWords Go.Proofs.YtnmiagcjfbdfkaaW.PrintLast Go.Proofs.YtnmiagcjfbdfkaaW.PrintMore
open PStatsGrows
theorem own_eq (l : List Int) (h : l.length < 17592186044416) : foolscaplaw16_own.f l = some l := by
  unfold foolscaplaw16_own.f
  rw [Option.bind_some, if_pos (by rw [List.length_nil]; omega), List.nil_append]
theorem sum_snoc (l : List Int) (n : Int) : (l ++ [n]).sum = l.sum + n := by
  induction l with
  | nil => simp
  | cons a l ih => rw [List.cons_append, List.sum_cons, List.sum_cons, ih, Int.add_assoc]
theorem good_snoc (l : List Int) (n : Int) (h : l.length ≤ 2000) : good (l ++ [n]) ↔ good l ∧ fits n := by
  unfold good
  rw [List.length_append, List.length_singleton]
  constructor
  · intro z
    exact ⟨⟨by omega, fun x hx => z.2 x (List.mem_append_left _ hx)⟩, z.2 n (by simp)⟩
  · intro z
    refine ⟨by omega, fun x hx => ?_⟩
    rcases List.mem_append.mp hx with hx | hx
    · exact z.1.2 x hx
    · rw [List.mem_singleton.mp hx]; exact z.2
theorem count_two (l : List Int) (n : Int) : l.countP (SD.ahead n true) + l.countP (SD.ahead n false) ≤ l.length := by
  induction l with
  | nil => simp
  | cons x l ih =>
    rw [List.countP_cons, List.countP_cons, List.length_cons]
    by_cases c : x < n
    · simp [SD.ahead, c, show ¬ n < x by omega] at *; omega
    · simp [SD.ahead, c] at *; split <;> omega
theorem count_snoc (l : List Int) (n : Int) (up : Bool) : (l ++ [n]).countP (SD.ahead n up) = l.countP (SD.ahead n up) := by
  rw [List.countP_append]; cases up <;> simp [SD.ahead]
theorem grows_j1 (k : Nat) (l : List Int) (hl : l.length ≤ 2000) (u o : Nat) (h : u + o ≤ l.length) (b : Bool) :
    foolscaplaw16_StatsGrows.j1 (k + 1) l (((u : Nat) + 1 : Int) * 1000000) (((o : Nat) + 1 : Int) * 1000000) b = some true := by
  rw [foolscaplaw16_StatsGrows.j1]
  cases b
  · have e1 : wrap64 (((u : Nat) + 1 : Int) * 1000000 + ((o : Nat) + 1 : Int) * 1000000) = ((u : Nat) + 1 : Int) * 1000000 + ((o : Nat) + 1 : Int) * 1000000 := by unfold wrap64; omega
    have e2 : wrap64 ((l.length : Int) + 2) = (l.length : Int) + 2 := by unfold wrap64; omega
    have e3 : wrap64 (((l.length : Int) + 2) * 1000000) = ((l.length : Int) + 2) * 1000000 := by unfold wrap64; omega
    rw [if_neg (by decide), if_pos (by omega), if_pos (by omega), e1, e2, e3, if_pos (by omega)]
    rfl
  · rw [if_pos rfl]; rfl
theorem grows_j0 (k : Nat) (l : List Int) (hl : l.length ≤ 2000) (n e : Int) : foolscaplaw16_StatsGrows.j0 (k + 2) l n e false = some true := by
  rw [foolscaplaw16_StatsGrows.j0, if_neg (by decide), own_eq l (by omega)]
  simp only [Option.bind_some]
  rw [if_pos (by omega)]
  unfold stats_Rank.f
  simp only [Option.bind_some]
  rw [if_pos (by omega)]
  unfold rankN
  by_cases g : good (l ++ [n]) ∧ fits n
  · have c1 : good (l ++ [n]) ∧ fits n := g
    simp only [if_pos c1, if_pos (show n ∈ l ++ [n] by simp), count_snoc, if_true]
    have h2 := count_two l n
    by_cases c : e = 5
    · rw [if_pos c]; exact grows_j1 k l hl _ _ h2 _
    · rw [if_neg c]; exact grows_j1 k l hl _ _ h2 _
  · simp only [if_neg g]
    by_cases c : e = 5
    · rw [if_pos c]; rfl
    · rw [if_neg c]; rfl
theorem StatsGrows : foolscaplaw16_StatsGrows.Pure := by
  intro l n _ h _ _
  refine ⟨10, ?_⟩
  unfold foolscaplaw16_StatsGrows.f
  by_cases c : (l.length : Int) > 2000
  · rw [if_pos c]; rfl
  · have hl : l.length ≤ 2000 := by omega
    rw [if_neg c, own_eq l (by omega)]
    unfold stats_Sum.f num_Add.f num_Fits.f
    simp only [Option.bind_some]
    rw [if_pos (by omega)]
    have gs := good_snoc l n hl
    have ss := sum_snoc l n
    have j := grows_j0 8 l hl n
    by_cases g : good l ∧ fits l.sum
    · have e1 : sumN l = (l.sum, 0) := by unfold sumN; rw [if_pos g]
      rw [e1]
      simp only [if_true]
      by_cases f : fits n
      · rw [decide_eq_true f, if_pos rfl]
        by_cases f2 : fits (l.sum + n)
        · have e2 : sumN (l ++ [n]) = (l.sum + n, 0) := by
            unfold sumN; rw [if_pos (show good (l ++ [n]) ∧ fits (l ++ [n]).sum from ⟨gs.mpr ⟨g.1, f⟩, by rw [ss]; exact f2⟩), ss]
          have e3 : naddN l.sum n = (l.sum + n, 0) := by unfold naddN; rw [if_pos ⟨g.2, f⟩, if_pos f2]
          rw [e2, e3]
          simpa using j 0
        · have e2 : sumN (l ++ [n]) = (0, 5) := by
            unfold sumN; rw [if_neg (show ¬ (good (l ++ [n]) ∧ fits (l ++ [n]).sum) from fun z => f2 (by have := z.2; rwa [ss] at this))]
          have e3 : naddN l.sum n = (0, 3) := by unfold naddN; rw [if_pos ⟨g.2, f⟩, if_neg f2]
          rw [e2, e3]
          simpa using j 0
      · have e2 : sumN (l ++ [n]) = (0, 5) := by
          unfold sumN; rw [if_neg (show ¬ (good (l ++ [n]) ∧ fits (l ++ [n]).sum) from fun z => f (gs.mp z.1).2)]
        rw [decide_eq_false f, e2]
        simpa using j 0
    · have e1 : sumN l = (0, 5) := by unfold sumN; rw [if_neg g]
      rw [e1]
      have := j 5
      by_cases z : (sumN (l ++ [n])).2 = 0
      · simpa [z] using this
      · simpa [z] using this
end Go.Proofs.Ytnmiagcjfbdfkaa.Pure
