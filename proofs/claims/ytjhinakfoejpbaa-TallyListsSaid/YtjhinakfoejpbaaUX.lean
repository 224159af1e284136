/- A tally of numbers tells what is told of their list. No condition stands open. -/
import Derived.Test.YtjhinakfoejpbaaJ7
import Derived.Test.YtjhinakfoejpbaaSP
set_option linter.unusedVariables false
set_option linter.unusedSimpArgs false
namespace Go.Proofs.Ytjhinakfoejpbaa.T
open Go.RowKit Go.Proofs.Ytjhinakfoejpbaa.WPure Go.Proofs.Ytjhinakfoejpbaa.SA Go.Proofs.Ytjhinakfoejpbaa.SB Go.Proofs.Ytjhinakfoejpbaa.SC Go.Proofs.Ytjhinakfoejpbaa.SD Go.Proofs.YtjhinakfoejpbaaW.PrintWords Go.Proofs.YtjhinakfoejpbaaW.PrintLast Go.Proofs.YtjhinakfoejpbaaW.PrintMore
section
variable {w : World} {A : Option Addr} {cap : Nat} {l : List Int} (hr : ReadsInt w .i64 A l.length l) (hc : l.length ≤ cap)
include hr hc
theorem csum {r : Int × Int} (e : sumN l = r) : Calls Try.prog 26 #[.slice A l.length cap] w fun e w' => e = .returned (.tuple #[.int .i64 r.1, .int .i64 r.2]) ∧ Below w.heap.size w w' := by
  obtain ⟨k, hk⟩ := sum_x l (r := r) (congrArg some e)
  exact PS.stats_Sum.calls k A cap l r.1 r.2 w (Kd.C_of_reads (d := (0 : Int)) (h1 := fun _ => rfl) hr) hc hk
theorem cmean {r : Int × Int} (e : avgN l = r) : Calls Try.prog 27 #[.slice A l.length cap] w fun e w' => e = .returned (.tuple #[.int .i64 r.1, .int .i64 r.2]) ∧ Below w.heap.size w w' := by
  obtain ⟨k, hk⟩ := avg_x l (r := r) (congrArg some e)
  exact PS.stats_Mean.calls k A cap l r.1 r.2 w (Kd.C_of_reads (d := (0 : Int)) (h1 := fun _ => rfl) hr) hc hk
theorem cmed {r : Int × Int} (e : medN l = r) : Calls Try.prog 28 #[.slice A l.length cap] w fun e w' => e = .returned (.tuple #[.int .i64 r.1, .int .i64 r.2]) ∧ Below w.heap.size w w' := by
  obtain ⟨k, hk⟩ := med_x l (r := r) (congrArg some e)
  exact PS.stats_Median.calls k A cap l r.1 r.2 w (Kd.C_of_reads (d := (0 : Int)) (h1 := fun _ => rfl) hr) hc hk
theorem csmall (a : Int) {r : Int × Int} (e : smallN l a = r) : Calls Try.prog 29 #[.slice A l.length cap, .int .i64 a] w fun e w' => e = .returned (.tuple #[.int .i64 r.1, .int .i64 r.2]) ∧ Below w.heap.size w w' := by
  obtain ⟨k, hk⟩ := small_x l a (r := r) (congrArg some e)
  exact PS.stats_Small.calls k A cap l a r.1 r.2 w (Kd.C_of_reads (d := (0 : Int)) (h1 := fun _ => rfl) hr) hc hk
theorem cleast {r : Int × Int} (e : leN l = r) : Calls Try.prog 30 #[.slice A l.length cap] w fun e w' => e = .returned (.tuple #[.int .i64 r.1, .int .i64 r.2]) ∧ Below w.heap.size w w' := by
  obtain ⟨k, hk⟩ := le_x l (r := r) (congrArg some e)
  exact PS.stats_Least.calls k A cap l r.1 r.2 w (Kd.C_of_reads (d := (0 : Int)) (h1 := fun _ => rfl) hr) hc hk
theorem cgreat {r : Int × Int} (e : grN l = r) : Calls Try.prog 32 #[.slice A l.length cap] w fun e w' => e = .returned (.tuple #[.int .i64 r.1, .int .i64 r.2]) ∧ Below w.heap.size w w' := by
  obtain ⟨k, hk⟩ := gr_x l (r := r) (congrArg some e)
  exact PS.stats_Greatest.calls k A cap l r.1 r.2 w (Kd.C_of_reads (d := (0 : Int)) (h1 := fun _ => rfl) hr) hc hk
end
theorem mean_twice (v : Int) : meanV (v + v) 2 = v := by
  have hm : meanN (v.natAbs + v.natAbs) 2 = v.natAbs := by
    unfold meanN
    rw [if_neg (by omega)]
    omega
  unfold meanV
  rw [show (v + v).natAbs = v.natAbs + v.natAbs by omega, hm]
  split <;> omega
/-- what a tally of the numbers of a list tells -/
structure Same (l : List Int) (k : Int) : Prop where
  sum : toldR (numsV l) (sumR (numsV l)) = sumN l
  mean : toldR (numsV l) (meanR (numsV l)) = avgN l
  mid : toldR (numsV l) (midR (numsV l)) = medN l
  small : toldR (numsV l) (smallR (numsV l) k) = smallN l k
  least : toldR (numsV l) (endR (numsV l) 0) = leN l
  great : toldR (numsV l) (endR (numsV l) ((numsL (numsV l)).length - 1)) = grN l
theorem same (l : List Int) (hg : good l) (k : Int) : Same l k := by
  refine ⟨?_, ?_, ?_, ?_, ?_, ?_⟩
  · rw [told_numsV]
    unfold sumR sumN
    rw [numsL_numsV]
    by_cases h : fits l.sum
    · rw [if_pos h, if_pos ⟨hg, h⟩]
    · rw [if_neg h, if_neg (fun z => h z.2)]
  · rw [told_numsV]
    unfold meanR avgN
    rw [numsL_numsV, if_pos hg]
  · rw [told_numsV]
    unfold midR medN
    rw [numsL_numsV]
    by_cases h : l.length = 0
    · rw [if_pos h, if_neg (fun z => z.2 h)]
    · rw [if_neg h, if_pos ⟨hg, h⟩]
      by_cases o : l.length % 2 = 1
      · rw [if_pos o, show (l.length - 1) / 2 = l.length / 2 by omega, mean_twice]
      · rw [if_neg o, show (l.length - 1) / 2 = l.length / 2 - 1 by omega]
  · rw [told_numsV]
    unfold smallR smallN
    rw [numsL_numsV]
    by_cases h : 1 ≤ k ∧ k ≤ l.length
    · rw [if_pos h, if_pos ⟨hg, h⟩]
    · rw [if_neg h, if_neg (fun z => h z.2)]
  · rw [told_numsV]
    unfold endR leN
    rw [numsL_numsV, if_pos hg]
  · rw [told_numsV]
    unfold endR grN
    rw [numsL_numsV, if_pos hg]
theorem numsV_append (l m : List Int) : numsV (l ++ m) = numsV l ++ numsV m := List.map_append
theorem add_snoc {l : List Int} {i : Nat} {x : Int} (h : l[i]? = some x) (hx : fits x) (hi : i < 4096) : addE (numsV (l.take i)) (numV x) = 0 ∧ (addL (numsV (l.take i)) (numV x)).Perm (numsV (l.take (i + 1))) := by
  have e := add_numV (a := x) hx (l := l.take i) (by rw [List.length_take]; omega)
  refine ⟨e.1, ?_⟩
  rw [e.2, List.take_add_one, h, Option.toList_some, numsV_append]
  exact (List.perm_append_comm (l₁ := numsV [x]) (l₂ := numsV (l.take i)))
theorem fitsB_yes {x : Int} (h : fits x) : fitsB x = true := by
  unfold fits at h
  unfold fitsB
  rw [decide_eq_true h.1, decide_eq_true h.2]
  rfl
theorem fitsB_no {x : Int} (h : ¬ fits x) : fitsB x = false := by
  unfold fits at h
  unfold fitsB
  by_cases h1 : -1000000000000000000 ≤ x
  · rw [decide_eq_true h1, Bool.true_and]
    exact decide_eq_false (fun h2 => h ⟨h1, h2⟩)
  · rw [decide_eq_false h1]
    rfl
theorem add_not_fit {l : List Int} {x : Int} (hx : ¬ fits x) : addE (numsV l) (numV x) = 2 ∧ addL (numsV l) (numV x) = numsV l := by
  have e := ok_numV' hx
  constructor
  · unfold addE
    rw [if_neg (by rw [e]; decide)]
  · unfold addL
    rw [if_neg (fun z => by rw [e] at z; exact absurd z.1 (by decide))]
end Go.Proofs.Ytjhinakfoejpbaa.T
