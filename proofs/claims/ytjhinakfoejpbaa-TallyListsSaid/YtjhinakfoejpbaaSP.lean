/- Chapter 16's functions in plain numbers. No condition stands open. -/
import Derived.Test.YtjhinakfoejpbaaJ3
import Derived.Test.YtjhinakfoejpbaaPSx
set_option linter.unusedVariables false
set_option linter.unusedSimpArgs false
namespace Go.Proofs.Ytjhinakfoejpbaa.SA
open Go.RowKit Go.Proofs.Ytjhinakfoejpbaa Go.Proofs.Ytjhinakfoejpbaa.PS Go.Proofs.Ytjhinakfoejpbaa.WPure Go.Proofs.YtjhinakfoejpbaaW.PrintWords Go.Proofs.YtjhinakfoejpbaaW.PrintLast Go.Proofs.YtjhinakfoejpbaaW.PrintMore

theorem fits_eq (n : Int) : num_Fits.f n = some (decide (fits n)) := rfl
theorem addS (h l n : Int) : wide_Add.f h l n = some (addW h l n) := rfl
theorem totS (h l : Int) : wide_Total.f h l = some (totalW h l) := rfl
/-! ### numbers that may be handed in -/
abbrev good (l : List Int) : Prop := l.length ≤ 4096 ∧ ∀ x ∈ l, fits x
theorem w1 (i : Nat) (h : i < 4611686018427387904) : wrap64 ((i : Int) + 1) = ((i + 1 : Nat) : Int) := by unfold wrap64; omega
theorem rd_nat (x : List Int) (i : Nat) : rd x (i : Int) = x.getD i 0 := by unfold rd; rw [Int.toNat_natCast]
theorem mem_getD (x : List Int) (i : Nat) (h : i < x.length) : x.getD i 0 ∈ x := by rw [getD_lt x i h]; exact List.getElem_mem h

theorem bad1 (n : Int) : stats_good_1.f n = some (!decide (fits n)) := by
  unfold stats_good_1.f; rw [fits_eq]; rfl
theorem find_eq (l : List Int) (hl : l.length < 4611686018427387904) : ∀ n k i, i + n = l.length → n + 1 ≤ k →
    ∃ t, slices_IndexFunc_int_int_at_stats_good_1.l0 k l (l.length : Int) (i : Int) = some t ∧ (0 ≤ t ↔ ¬ ∀ x ∈ l.drop i, fits x) := by
  intro n
  induction n with
  | zero =>
    intro k i hi hk
    obtain ⟨k, rfl⟩ : ∃ q, k = q + 1 := ⟨k - 1, by omega⟩
    refine ⟨-1, ?_, ?_⟩
    · rw [slices_IndexFunc_int_int_at_stats_good_1.l0, if_neg (by omega)]
    · rw [List.drop_eq_nil_of_le (by omega)]; simp
  | succ n ih =>
    intro k i hi hk
    obtain ⟨k, rfl⟩ : ∃ q, k = q + 1 := ⟨k - 1, by omega⟩
    rw [slices_IndexFunc_int_int_at_stats_good_1.l0, if_pos (by omega), if_pos (by omega), if_pos (by omega), bad1, Option.bind_some, rd_nat, drop_cons l i (by omega)]
    by_cases c : fits (l.getD i 0)
    · rw [if_neg (by simpa using c), w1 i (by omega)]
      obtain ⟨t, e, h⟩ := ih k (i + 1) (by omega) (by omega)
      refine ⟨t, e, h.trans ?_⟩
      simp only [List.mem_cons, forall_eq_or_imp]
      exact ⟨fun z y => z y.2, fun z y => z ⟨c, y⟩⟩
    · rw [if_pos (by rw [decide_eq_false c]; rfl)]
      refine ⟨i, rfl, ?_⟩
      simp only [List.mem_cons, forall_eq_or_imp]
      exact ⟨fun _ y => c y.1, fun _ => by omega⟩
theorem good_eq (l : List Int) (k : Nat) (hk : l.length + 1 ≤ k) : stats_good.f k l = some (decide (good l)) := by
  unfold stats_good.f
  by_cases c : l.length ≤ 4096
  · rw [if_pos (by omega)]
    unfold slices_ContainsFunc_int_int_at_stats_good_1.f slices_IndexFunc_int_int_at_stats_good_1.f
    obtain ⟨t, e, h⟩ := find_eq l (by omega) l.length k 0 (by omega) hk
    rw [show ((0 : Nat) : Int) = 0 from rfl] at e
    rw [e]
    simp only [Option.bind_some]
    rw [List.drop_zero] at h
    by_cases c2 : ∀ x ∈ l, fits x
    · rw [decide_eq_true (show good l from ⟨c, c2⟩), decide_eq_false (fun z => h.mp z c2)]; rfl
    · rw [decide_eq_false (show ¬ good l from fun z => c2 z.2), decide_eq_true (show t ≥ 0 from h.mpr c2)]; rfl
  · rw [if_neg (by omega), decide_eq_false (fun z => c z.1)]

/-! ### sums -/
theorem sum_le (l : List Int) (h : ∀ x ∈ l, fits x) : -(l.length * 1000000000000000000 : Int) ≤ l.sum ∧ l.sum ≤ (l.length : Int) * 1000000000000000000 := by
  induction l with
  | nil => simp
  | cons a l ih =>
    have h1 := ih (fun x hx => h x (List.mem_cons_of_mem _ hx))
    have h2 : fits a := h a (List.mem_cons_self)
    unfold fits at h2
    rw [List.sum_cons, List.length_cons]
    omega
theorem tot_eq (l : List Int) (hg : good l) : ∀ n k i (s : Int), i + n = l.length → n + 2 ≤ k → -(i * 1000000000000000000 : Int) ≤ s → s ≤ (i : Int) * 1000000000000000000 →
    stats_total.l0 k l (l.length : Int) (i : Int) (hiW s) (loW s) = some (hiW (s + (l.drop i).sum), loW (s + (l.drop i).sum)) := by
  intro n
  have hl := hg.1
  induction n with
  | zero =>
    intro k i s hi hk h0 h1
    obtain ⟨k, rfl⟩ : ∃ q, k = q + 1 := ⟨k - 1, by omega⟩
    rw [stats_total.l0, if_neg (by omega), List.drop_eq_nil_of_le (by omega), List.sum_nil, Int.add_zero]
  | succ n ih =>
    intro k i s hi hk h0 h1
    obtain ⟨k, rfl⟩ : ∃ q, k = q + 1 + 1 := ⟨k - 2, by omega⟩
    have hf := hg.2 _ (mem_getD l i (by omega))
    have hin : inW s := by unfold inW; omega
    have hin2 : inW (s + l.getD i 0) := by unfold inW; unfold fits at hf; omega
    rw [stats_total.l0, if_pos (by omega), if_pos (by omega), if_pos (by omega), rd_nat, addS, addW_rep s _ hin, if_pos hf, if_pos hin2, Option.bind_some, w1 i (by omega)]
    have := ih (k + 1) (i + 1) (s + l.getD i 0) (by omega) (by omega) (by unfold fits at hf; omega) (by unfold fits at hf; omega)
    rw [this, drop_cons l i (by omega), List.sum_cons, Int.add_assoc]
theorem total_good (l : List Int) (hg : good l) (k : Nat) (hk : l.length + 2 ≤ k) : stats_total.f k l = some (hiW l.sum, loW l.sum) := by
  unfold stats_total.f
  have := tot_eq l hg l.length k 0 0 (by omega) hk (by omega) (by omega)
  rw [List.drop_zero, Int.zero_add] at this
  exact this
def sumN (l : List Int) : Int × Int := if good l ∧ fits l.sum then (l.sum, 0) else (0, 5)
theorem inW_sum (l : List Int) (hg : good l) : inW l.sum := by
  have h := sum_le l hg.2
  have hl := hg.1
  unfold inW; omega
theorem sum_eq (l : List Int) (k : Nat) (hk : l.length + 2 ≤ k) : stats_Sum.f k l = some (sumN l) := by
  unfold stats_Sum.f sumN
  rw [good_eq l k (by omega), Option.bind_some]
  by_cases hg : good l
  · rw [if_pos (decide_eq_true hg), total_good l hg k hk, Option.bind_some, totS, Option.bind_some, totalW_rep _ (inW_sum l hg)]
    by_cases c : fits l.sum
    · rw [if_pos c, if_pos (show good l ∧ fits l.sum from ⟨hg, c⟩)]; rfl
    · rw [if_neg c, if_neg (show ¬ (good l ∧ fits l.sum) from fun z => c z.2)]; rfl
  · rw [if_neg (by simpa using hg), if_neg (fun z => hg z.1)]
def avgN (l : List Int) : Int × Int := if good l then (if l.length = 0 then (0, 1) else (meanV l.sum l.length, 0)) else (0, 5)
theorem mean_good (l : List Int) (hg : good l) (h0 : l.length ≠ 0) : wide_Mean.f (hiW l.sum) (loW l.sum) (l.length : Int) = some (meanV l.sum l.length, 0) := by
  have h := sum_le l hg.2
  have hl := hg.1
  have e := meanO_rep l.sum (l.length : Int) (inW_sum l hg) (by omega) (by omega) (by omega) (by omega)
  rw [Int.toNat_natCast] at e
  exact e
theorem avg_eq (l : List Int) (k : Nat) (hk : l.length + 40 ≤ k) : stats_Mean.f k l = some (avgN l) := by
  unfold stats_Mean.f avgN
  rw [good_eq l k (by omega), Option.bind_some]
  by_cases hg : good l
  · rw [if_pos (decide_eq_true hg), if_pos hg]
    by_cases c : l.length = 0
    · rw [if_pos (by omega), if_pos c]
    · rw [if_neg (by omega), if_neg c, total_good l hg k (by omega), Option.bind_some, mean_good l hg c]; rfl
  · rw [if_neg (by simpa using hg), if_neg hg]
end Go.Proofs.Ytjhinakfoejpbaa.SA

namespace Go.Proofs.Ytjhinakfoejpbaa.SB
open Go.RowKit Go.Proofs.Ytjhinakfoejpbaa Go.Proofs.Ytjhinakfoejpbaa.PS Go.Proofs.Ytjhinakfoejpbaa.WPure Go.Proofs.Ytjhinakfoejpbaa.SA Go.Proofs.YtjhinakfoejpbaaW.PrintWords Go.Proofs.YtjhinakfoejpbaaW.PrintLast Go.Proofs.YtjhinakfoejpbaaW.PrintMore

/-! ### the k-th -/
/-! ### parted -/
theorem set_get (x : List Int) (j : Nat) (v : Int) (i : Nat) : (x.set j v).getD i 0 = if j = i ∧ i < x.length then v else x.getD i 0 := by
  rw [List.getD, List.getD, List.getElem?_set]
  by_cases c : j = i
  · subst c
    by_cases c2 : j < x.length
    · simp [c2]
    · simp [c2]
  · simp [c]
theorem swap_perm (x : List Int) (i j : Nat) (hi : i < x.length) (hj : j < x.length) : ((x.set i (x.getD j 0)).set j (x.getD i 0)).Perm x := by
  rw [getD_lt x i hi, getD_lt x j hj]
  exact List.set_set_perm hi hj
theorem swap_get (x : List Int) (i j q : Nat) (hi : i < x.length) (hj : j < x.length) : ((x.set i (x.getD j 0)).set j (x.getD i 0)).getD q 0 = if j = q then x.getD i 0 else if i = q then x.getD j 0 else x.getD q 0 := by
  rw [set_get, set_get, List.length_set]
  by_cases c : j = q
  · rw [if_pos ⟨c, by omega⟩, if_pos c]
  · rw [if_neg (fun z => c z.1), if_neg c]
    by_cases c2 : i = q
    · rw [if_pos ⟨c2, by omega⟩, if_pos c2]
    · rw [if_neg (fun z => c2 z.1), if_neg c2]
structure Inv (b : Int) (x : List Int) (low at_ high : Nat) : Prop where
  h1 : low ≤ at_
  h2 : at_ ≤ high
  h3 : high ≤ x.length
  lo : ∀ i, i < low → x.getD i 0 < b
  mid : ∀ i, low ≤ i → i < at_ → x.getD i 0 = b
  hi : ∀ i, high ≤ i → i < x.length → b < x.getD i 0
theorem part_eq (b : Int) : ∀ n k (x : List Int) (low at_ high : Nat), high - at_ = n → n + 1 ≤ k → x.length < 4611686018427387904 → Inv b x low at_ high →
    ∃ lo hi y, stats_parted_int.l0 k x b (low : Int) (at_ : Int) (high : Int) = some (((lo : Nat) : Int), ((hi : Nat) : Int), y) ∧ y.Perm x ∧ Inv b y lo hi hi := by
  intro n
  induction n with
  | zero =>
    intro k x low at_ high hn hk hl I
    obtain ⟨k, rfl⟩ : ∃ q, k = q + 1 := ⟨k - 1, by omega⟩
    have h2 := I.h2
    obtain rfl : at_ = high := by omega
    exact ⟨low, at_, x, by rw [stats_parted_int.l0, if_neg (by omega)], List.Perm.refl _, I⟩
  | succ n ih =>
    intro k x low at_ high hn hk hl I
    obtain ⟨k, rfl⟩ : ∃ q, k = q + 1 := ⟨k - 1, by omega⟩
    have h1 := I.h1; have h2 := I.h2; have h3 := I.h3
    rw [stats_parted_int.l0, if_pos (by omega), if_pos (by omega), if_pos (by omega)]
    simp only [rd_nat]
    by_cases c : x.getD at_ 0 < b
    · rw [if_pos c, if_pos (by omega), if_pos (by omega), w1 low (by omega), w1 at_ (by omega), Int.toNat_natCast, Int.toNat_natCast]
      have hs := swap_get x low at_
      have hl2 : ((x.set low (x.getD at_ 0)).set at_ (x.getD low 0)).length = x.length := by simp
      obtain ⟨lo, hi, y, e, hp, J⟩ := ih k ((x.set low (x.getD at_ 0)).set at_ (x.getD low 0)) (low + 1) (at_ + 1) high (by omega) (by omega) (by omega) ⟨by omega, by omega, by omega, by
          intro i hi
          rw [hs i (by omega) (by omega)]
          by_cases c1 : at_ = i
          · rw [if_pos c1]; have : low = at_ := by omega
            rw [this]; exact c
          · rw [if_neg c1]
            by_cases c2 : low = i
            · rw [if_pos c2]; exact c
            · rw [if_neg c2]; exact I.lo i (by omega), by
          intro i hi hi2
          rw [hs i (by omega) (by omega)]
          by_cases c1 : at_ = i
          · rw [if_pos c1]; exact I.mid low (by omega) (by omega)
          · rw [if_neg c1, if_neg (by omega)]; exact I.mid i (by omega) (by omega), by
          intro i hi hi2
          rw [hs i (by omega) (by omega), if_neg (by omega), if_neg (by omega)]
          exact I.hi i hi (by omega)⟩
      exact ⟨lo, hi, y, e, hp.trans (swap_perm x low at_ (by omega) (by omega)), J⟩
    · rw [if_neg c]
      by_cases c2 : x.getD at_ 0 > b
      · have w : wrap64 ((high : Int) - 1) = ((high - 1 : Nat) : Int) := by unfold wrap64; omega
        rw [if_pos c2, w, if_pos (by omega), if_pos (by omega), rd_nat, Int.toNat_natCast, Int.toNat_natCast]
        have hs := swap_get x (high - 1) at_
        have hl2 : ((x.set (high - 1) (x.getD at_ 0)).set at_ (x.getD (high - 1) 0)).length = x.length := by simp
        obtain ⟨lo, hi, y, e, hp, J⟩ := ih k ((x.set (high - 1) (x.getD at_ 0)).set at_ (x.getD (high - 1) 0)) low at_ (high - 1) (by omega) (by omega) (by omega) ⟨by omega, by omega, by omega, by
            intro i hi
            rw [hs i (by omega) (by omega), if_neg (by omega), if_neg (by omega)]
            exact I.lo i (by omega), by
            intro i hi hi2
            rw [hs i (by omega) (by omega), if_neg (by omega), if_neg (by omega)]
            exact I.mid i (by omega) (by omega), by
            intro i hi hi2
            rw [hs i (by omega) (by omega)]
            by_cases c1 : at_ = i
            · rw [if_pos c1]; have : high - 1 = at_ := by omega
              rw [this]; exact c2
            · rw [if_neg c1]
              by_cases c3 : high - 1 = i
              · rw [if_pos c3]; exact c2
              · rw [if_neg c3]; exact I.hi i (by omega) (by omega)⟩
        exact ⟨lo, hi, y, e, hp.trans (swap_perm x (high - 1) at_ (by omega) (by omega)), J⟩
      · rw [if_neg c2, w1 at_ (by omega)]
        exact ih k x low (at_ + 1) high (by omega) (by omega) hl ⟨by omega, by omega, h3, I.lo, fun i hi hi2 => by
          by_cases c3 : i = at_
          · subst c3; omega
          · exact I.mid i hi (by omega), I.hi⟩
theorem parted_eq (b : Int) (x : List Int) (k : Nat) (hk : x.length + 1 ≤ k) (hl : x.length < 4611686018427387904) :
    ∃ lo hi y, stats_parted_int.f k x b = some (((lo : Nat) : Int), ((hi : Nat) : Int), y) ∧ y.Perm x ∧ Inv b y lo hi hi :=
  part_eq b x.length k x 0 0 x.length (by omega) hk hl ⟨by omega, by omega, by omega, fun i h => absurd h (by omega), fun i h h' => absurd h' (by omega), fun i h h' => absurd h' (by omega)⟩
end Go.Proofs.Ytjhinakfoejpbaa.SB

namespace Go.Proofs.Ytjhinakfoejpbaa.SC
open Go.RowKit Go.Proofs.Ytjhinakfoejpbaa Go.Proofs.Ytjhinakfoejpbaa.PS Go.Proofs.Ytjhinakfoejpbaa.WPure Go.Proofs.Ytjhinakfoejpbaa.SA Go.Proofs.Ytjhinakfoejpbaa.SB Go.Proofs.YtjhinakfoejpbaaW.PrintWords Go.Proofs.YtjhinakfoejpbaaW.PrintLast Go.Proofs.YtjhinakfoejpbaaW.PrintMore

theorem take_all {p : Int → Prop} (y : List Int) (lo : Nat) (h : ∀ i, i < lo → i < y.length → p (y.getD i 0)) : ∀ z ∈ y.take lo, p z := by
  intro z hz
  obtain ⟨i, hi, e⟩ := List.mem_iff_getElem.mp hz
  rw [List.length_take] at hi
  have := h i (by omega) (by omega)
  rw [getD_lt y i (by omega)] at this
  rw [← e, List.getElem_take]
  exact this
theorem drop_all {p : Int → Prop} (y : List Int) (lo : Nat) (h : ∀ i, lo ≤ i → i < y.length → p (y.getD i 0)) : ∀ z ∈ y.drop lo, p z := by
  intro z hz
  obtain ⟨i, hi, e⟩ := List.mem_iff_getElem.mp hz
  rw [List.length_drop] at hi
  have := h (lo + i) (by omega) (by omega)
  rw [getD_lt y (lo + i) (by omega)] at this
  rw [← e, List.getElem_drop]
  exact this
section
variable {b : Int} {y : List Int} {lo hi : Nat}
theorem below (I : Inv b y lo hi hi) : ∀ z ∈ y.take lo, z < b := take_all y lo (fun i h _ => I.lo i h)
theorem notbelow (I : Inv b y lo hi hi) : ∀ z ∈ y.drop lo, b ≤ z := drop_all y lo (fun i h h' => by
  by_cases c : i < hi
  · rw [I.mid i h c]; exact Int.le_refl _
  · exact Int.le_of_lt (I.hi i (by omega) h'))
theorem notabove (I : Inv b y lo hi hi) : ∀ z ∈ y.take hi, z ≤ b := take_all y hi (fun i h _ => by
  by_cases c : i < lo
  · exact Int.le_of_lt (I.lo i c)
  · rw [I.mid i (by omega) h]; exact Int.le_refl _)
theorem above (I : Inv b y lo hi hi) : ∀ z ∈ y.drop hi, b < z := drop_all y hi (fun i h h' => I.hi i h h')
theorem kth_low (I : Inv b y lo hi hi) {i : Nat} {v : Int} (h : Kth (y.take lo) i v) : Kth y i v := by
  have hv := below I v h.mem
  refine ⟨?_, ?_⟩
  · rw [count_split _ y lo, count_zero (l := y.drop lo) (fun z hz => by have := notbelow I z hz; simp; omega)]; exact h.1
  · rw [count_split _ y lo]; exact Nat.lt_of_lt_of_le h.2 (Nat.le_add_right _ _)
theorem kth_high (I : Inv b y lo hi hi) {i : Nat} {v : Int} (hi2 : hi ≤ i) (h : Kth (y.drop hi) (i - hi) v) : Kth y i v := by
  have hv := above I v h.mem
  have h3 := I.h3
  have hl : (y.take hi).length = hi := by rw [List.length_take]; omega
  refine ⟨?_, ?_⟩
  · rw [count_split _ y hi, count_len (l := y.take hi) (fun z hz => by have := notabove I z hz; simp; omega), hl]; have := h.1; omega
  · rw [count_split _ y hi, count_len (l := y.take hi) (fun z hz => by have := notabove I z hz; simp; omega), hl]; have := h.2; omega
theorem kth_mid (I : Inv b y lo hi hi) {i : Nat} (h1 : lo ≤ i) (h2 : i < hi) : Kth y i b := by
  have h3 := I.h3
  have hl : (y.take hi).length = hi := by rw [List.length_take]; omega
  refine ⟨?_, ?_⟩
  · rw [count_split _ y lo, count_zero (l := y.drop lo) (fun z hz => by have := notbelow I z hz; simp; omega)]
    have : (y.take lo).countP (· < b) ≤ (y.take lo).length := List.countP_le_length
    rw [List.length_take] at this; omega
  · rw [count_split _ y hi, count_len (l := y.take hi) (fun z hz => by have := notabove I z hz; simp; omega), hl]; omega
theorem has_mid (I : Inv b y lo hi hi) (h : b ∈ y) : lo < hi := by
  obtain ⟨i, hi2, e⟩ := List.mem_iff_getElem.mp h
  rw [← getD_lt y i hi2] at e
  by_cases c : i < lo
  · have := I.lo i c; omega
  · by_cases c2 : i < hi
    · omega
    · have := I.hi i (by omega) hi2; omega
end
theorem mx_mem {x : List Int} {a b : Int} (h : a ∈ x) (h' : b ∈ x) : mx a b ∈ x := by unfold mx; split <;> assumption
theorem mn_mem {x : List Int} {a b : Int} (h : a ∈ x) (h' : b ∈ x) : mn a b ∈ x := by unfold mn; split <;> assumption
theorem one_kth (x : List Int) (h : x.length = 1) : Kth x 0 (x.getD 0 0) := by
  obtain ⟨a, rfl⟩ := List.length_eq_one_iff.mp h
  constructor <;> simp
theorem kth_l0 : ∀ n k (p x q : List Int) (i : Nat), x.length ≤ n → i < x.length → x.length < 4611686018427387904 → n + x.length + 2 ≤ k →
    ∃ v r, stats_kth_int.l0 k p x q (i : Int) = some (v, r) ∧ Kth x i v ∧ r.Perm (p ++ x ++ q) := by
  intro n
  induction n with
  | zero => intro k p x q i h h'; omega
  | succ n ih =>
    intro k p x q i hn hi hl hk
    obtain ⟨k, rfl⟩ : ∃ q, k = q + 1 := ⟨k - 1, by omega⟩
    rw [stats_kth_int.l0]
    by_cases c : x.length = 1
    · rw [if_neg (by omega), if_pos (by omega)]
      refine ⟨_, _, rfl, ?_, List.Perm.refl _⟩
      have : i = 0 := by omega
      rw [this, show (0 : Int) = ((0 : Nat) : Int) from rfl, rd_nat]
      exact one_kth x c
    · have w2 : wrap64 ((x.length : Int) / 2) = ((x.length / 2 : Nat) : Int) := by unfold wrap64; omega
      have w3 : wrap64 ((x.length : Int) - 1) = ((x.length - 1 : Nat) : Int) := by unfold wrap64; omega
      rw [if_pos (by omega), if_pos (by omega), w2, w3, if_pos (by omega), if_pos (by omega), if_pos (by omega), if_pos (by omega)]
      have hb : mx (mn (rd x 0) (rd x ((x.length / 2 : Nat) : Int))) (mn (mx (rd x 0) (rd x ((x.length / 2 : Nat) : Int))) (rd x ((x.length - 1 : Nat) : Int))) ∈ x := by
        have e0 : rd x 0 ∈ x := by rw [show (0 : Int) = ((0 : Nat) : Int) from rfl, rd_nat]; exact mem_getD x 0 (by omega)
        have e1 : rd x ((x.length / 2 : Nat) : Int) ∈ x := by rw [rd_nat]; exact mem_getD x _ (by omega)
        have e2 : rd x ((x.length - 1 : Nat) : Int) ∈ x := by rw [rd_nat]; exact mem_getD x _ (by omega)
        exact mx_mem (mn_mem e0 e1) (mn_mem (mx_mem e0 e1) e2)
      generalize mx (mn (rd x 0) (rd x ((x.length / 2 : Nat) : Int))) (mn (mx (rd x 0) (rd x ((x.length / 2 : Nat) : Int))) (rd x ((x.length - 1 : Nat) : Int))) = b at hb
      obtain ⟨lo, hi2, y, e, hp, I⟩ := parted_eq b x k (by omega) hl
      rw [e, Option.bind_some]
      have hm := has_mid I (hp.mem_iff.mpr hb)
      have hly := hp.length_eq
      have h3 := I.h3
      simp only [Int.toNat_natCast]
      by_cases c1 : i < lo
      · rw [if_pos (by omega), if_pos (by omega), if_pos (by omega)]
        have hlt : (y.take lo).length = lo := by rw [List.length_take]; omega
        obtain ⟨v, r, e2, hv, hr⟩ := ih k p (y.take lo) (y.drop lo ++ q) i (by omega) (by omega) (by omega) (by omega)
        refine ⟨v, r, e2, (kth_low I hv).perm hp, hr.trans ?_⟩
        rw [List.append_assoc p, ← List.append_assoc (y.take lo), List.take_append_drop, List.append_assoc p]
        exact List.Perm.append_left p (List.Perm.append_right q hp)
      · rw [if_neg (by omega)]
        by_cases c2 : i < hi2
        · rw [if_pos (by omega)]
          refine ⟨b, _, rfl, (kth_mid I (by omega) c2).perm hp, ?_⟩
          exact List.Perm.append_right q (List.Perm.append_left p hp)
        · rw [if_neg (by omega), if_pos (by omega), if_pos (by omega)]
          have hlt : (y.drop hi2).length = y.length - hi2 := by rw [List.length_drop]
          have w4 : wrap64 ((i : Int) - (hi2 : Int)) = ((i - hi2 : Nat) : Int) := by unfold wrap64; omega
          rw [w4]
          obtain ⟨v, r, e2, hv, hr⟩ := ih k (p ++ y.take hi2) (y.drop hi2) q (i - hi2) (by omega) (by omega) (by omega) (by omega)
          refine ⟨v, r, e2, (kth_high I (by omega) hv).perm hp, hr.trans ?_⟩
          rw [List.append_assoc p, List.take_append_drop]
          exact List.Perm.append_right q (List.Perm.append_left p hp)
theorem kth_eq (l : List Int) (i : Nat) (h : i < l.length) (hl : l.length < 4611686018427387904) (k : Nat) (hk : 2 * l.length + 2 ≤ k) :
    ∃ r, stats_kth_int.f k l (i : Int) = some (kthN l i, r) ∧ r.Perm l ∧ Kth l i (kthN l i) := by
  obtain ⟨v, r, e, hv, hr⟩ := kth_l0 l.length k [] l [] i (Nat.le_refl _) h hl (by omega)
  rw [kthN_eq hv]
  exact ⟨r, e, by simpa using hr, hv⟩
theorem kth_is (l : List Int) (i : Nat) (h : i < l.length) (hl : l.length < 4611686018427387904) : Kth l i (kthN l i) := (kth_eq l i h hl _ (Nat.le_refl _)).choose_spec.2.2
theorem kth_perm {l m : List Int} (hp : l.Perm m) (i : Nat) (h : i < l.length) (hl : l.length < 4611686018427387904) : kthN l i = kthN m i :=
  (kthN_eq ((kth_is l i h hl).perm hp)).symm
theorem clone_eq (l : List Int) (hl : l.length ≤ 4096) : slices_Clone_int_int.f l = some l := by
  unfold slices_Clone_int_int.f; rw [if_pos (by omega)]
def smallN (l : List Int) (a : Int) : Int × Int := if good l ∧ 1 ≤ a ∧ a ≤ l.length then (kthN l (a - 1).toNat, 0) else (0, 5)
theorem small_eq (l : List Int) (a : Int) (k : Nat) (hk : 2 * l.length + 4 ≤ k) : stats_Small.f k l a = some (smallN l a) := by
  unfold stats_Small.f smallN
  obtain ⟨k, rfl⟩ : ∃ q, k = q + 1 := ⟨k - 1, by omega⟩
  rw [good_eq l (k + 1) (by omega), Option.bind_some]
  by_cases hg : good l
  · rw [if_pos (decide_eq_true hg)]
    by_cases c : 1 ≤ a ∧ a ≤ l.length
    · rw [if_neg (by omega), if_pos ⟨hg, c⟩, stats_Small.j0, if_neg (by simp; omega), clone_eq l hg.1, Option.bind_some]
      have w : wrap64 (a - 1) = (((a - 1).toNat : Nat) : Int) := by have := hg.1; unfold wrap64; omega
      obtain ⟨r, e, _⟩ := kth_eq l (a - 1).toNat (by omega) (by have := hg.1; omega) k (by omega)
      rw [w, e]; rfl
    · rw [if_neg (show ¬ (good l ∧ 1 ≤ a ∧ a ≤ l.length) from fun z => c z.2)]
      by_cases c2 : a < 1
      · rw [if_pos c2, stats_Small.j0, if_pos rfl]
      · rw [if_neg c2, stats_Small.j0, if_pos (by simp; omega)]
  · rw [if_neg (by simpa using hg), if_neg (fun z => hg z.1), stats_Small.j0, if_pos rfl]
def medN (l : List Int) : Int × Int := if good l ∧ l.length ≠ 0 then (if l.length % 2 = 1 then (kthN l (l.length / 2), 0) else (meanV (kthN l (l.length / 2 - 1) + kthN l (l.length / 2)) 2, 0)) else (0, 5)
theorem avg_two (a b : Int) (ha : fits a) (hb : fits b) : avgN [a, b] = (meanV (a + b) 2, 0) := by
  unfold avgN
  rw [if_pos (show good [a, b] from ⟨by simp, fun x hx => by
    rcases List.mem_cons.mp hx with e | e
    · rw [e]; exact ha
    · rw [List.mem_singleton.mp e]; exact hb⟩), if_neg (by simp)]
  simp
theorem med_eq (l : List Int) (k : Nat) (hk : 2 * l.length + 60 ≤ k) : stats_Median.f k l = some (medN l) := by
  unfold stats_Median.f medN
  obtain ⟨k, rfl⟩ : ∃ q, k = q + 1 := ⟨k - 1, by omega⟩
  rw [good_eq l (k + 1) (by omega), Option.bind_some]
  by_cases hg : good l
  · rw [if_pos (decide_eq_true hg)]
    have hl := hg.1
    by_cases c : l.length = 0
    · rw [if_neg (fun z => z.2 c), stats_Median.j0, if_pos (by simp [c])]
    · have w : wrap64 ((l.length : Int) / 2) = ((l.length / 2 : Nat) : Int) := by unfold wrap64; omega
      rw [if_pos (show good l ∧ l.length ≠ 0 from ⟨hg, c⟩), stats_Median.j0, if_neg (by simpa using c), clone_eq l hl, Option.bind_some, w]
      obtain ⟨r, e, hr, hv⟩ := kth_eq l (l.length / 2) (by omega) (by omega) k (by omega)
      rw [e, Option.bind_some]
      by_cases c2 : l.length % 2 = 1
      · rw [if_pos (by omega), if_pos c2]
      · have w2 : wrap64 (((l.length / 2 : Nat) : Int) - 1) = ((l.length / 2 - 1 : Nat) : Int) := by unfold wrap64; omega
        have hlr := hr.length_eq
        obtain ⟨r2, e2, hr2, hv2⟩ := kth_eq r (l.length / 2 - 1) (by omega) (by omega) k (by omega)
        rw [if_neg (by omega), if_neg c2, w2, e2, Option.bind_some, kth_perm hr _ (by omega) (by omega)]
        have hv3 := kth_is l (l.length / 2 - 1) (by omega) (by omega)
        rw [avg_eq _ k (by simp; omega), Option.bind_some, avg_two _ _ (hg.2 _ hv3.mem) (hg.2 _ hv.mem)]
  · rw [if_neg (by simpa using hg), if_neg (fun z => hg z.1), stats_Median.j0, if_pos rfl]
end Go.Proofs.Ytjhinakfoejpbaa.SC

namespace Go.Proofs.Ytjhinakfoejpbaa.SD
open Go.RowKit Go.Proofs.Ytjhinakfoejpbaa Go.Proofs.Ytjhinakfoejpbaa.PS Go.Proofs.Ytjhinakfoejpbaa.WPure Go.Proofs.Ytjhinakfoejpbaa.SA Go.Proofs.Ytjhinakfoejpbaa.SB Go.Proofs.Ytjhinakfoejpbaa.SC Go.Proofs.YtjhinakfoejpbaaW.PrintWords Go.Proofs.YtjhinakfoejpbaaW.PrintLast Go.Proofs.YtjhinakfoejpbaaW.PrintMore

/-! ### ends -/
theorem max_l0 (l : List Int) (hl : l.length < 4611686018427387904) : ∀ n k i (m : Int), i + n = l.length → n + 1 ≤ k → m ∈ l → (∀ z ∈ l.take i, z ≤ m) →
    ∃ v, slices_Max_int_int.l0 k l m (i : Int) = some v ∧ v ∈ l ∧ ∀ z ∈ l, z ≤ v := by
  intro n
  induction n with
  | zero =>
    intro k i m hi hk hm h
    obtain ⟨k, rfl⟩ : ∃ q, k = q + 1 := ⟨k - 1, by omega⟩
    rw [slices_Max_int_int.l0, if_neg (by omega)]
    exact ⟨m, rfl, hm, by rwa [List.take_of_length_le (by omega)] at h⟩
  | succ n ih =>
    intro k i m hi hk hm h
    obtain ⟨k, rfl⟩ : ∃ q, k = q + 1 := ⟨k - 1, by omega⟩
    rw [slices_Max_int_int.l0, if_pos (by omega), if_pos (by omega), rd_nat, w1 i (by omega)]
    refine ih k (i + 1) _ (by omega) (by omega) (mx_mem hm (mem_getD l i (by omega))) ?_
    intro z hz
    rw [List.take_add_one, List.getElem?_eq_getElem (by omega), ← getD_lt l i (by omega)] at hz
    rcases List.mem_append.mp hz with hz | hz
    · have := h z hz; unfold mx; split <;> omega
    · have : z = l.getD i 0 := by simpa using hz
      rw [this]; unfold mx; split <;> omega
theorem min_l0 (l : List Int) (hl : l.length < 4611686018427387904) : ∀ n k i (m : Int), i + n = l.length → n + 1 ≤ k → m ∈ l → (∀ z ∈ l.take i, m ≤ z) →
    ∃ v, slices_Min_int_int.l0 k l m (i : Int) = some v ∧ v ∈ l ∧ ∀ z ∈ l, v ≤ z := by
  intro n
  induction n with
  | zero =>
    intro k i m hi hk hm h
    obtain ⟨k, rfl⟩ : ∃ q, k = q + 1 := ⟨k - 1, by omega⟩
    rw [slices_Min_int_int.l0, if_neg (by omega)]
    exact ⟨m, rfl, hm, by rwa [List.take_of_length_le (by omega)] at h⟩
  | succ n ih =>
    intro k i m hi hk hm h
    obtain ⟨k, rfl⟩ : ∃ q, k = q + 1 := ⟨k - 1, by omega⟩
    rw [slices_Min_int_int.l0, if_pos (by omega), if_pos (by omega), rd_nat, w1 i (by omega)]
    refine ih k (i + 1) _ (by omega) (by omega) (mn_mem hm (mem_getD l i (by omega))) ?_
    intro z hz
    rw [List.take_add_one, List.getElem?_eq_getElem (by omega), ← getD_lt l i (by omega)] at hz
    rcases List.mem_append.mp hz with hz | hz
    · have := h z hz; unfold mn; split <;> omega
    · have : z = l.getD i 0 := by simpa using hz
      rw [this]; unfold mn; split <;> omega
theorem count_mem_lt {l : List Int} {v : Int} (h : v ∈ l) {p : Int → Bool} (hp : p v = false) : l.countP p < l.length := by
  have h1 : l.countP p ≤ l.length := List.countP_le_length
  have h2 : l.countP p ≠ l.length := fun e => by
    have := (List.countP_eq_length.mp e) v h
    rw [hp] at this; exact absurd this (by simp)
  omega
theorem kth_max {l : List Int} {v : Int} (h : v ∈ l) (h' : ∀ z ∈ l, z ≤ v) : Kth l (l.length - 1) v := by
  have h1 := count_mem_lt h (p := (· < v)) (by simp)
  have h2 : l.countP (· ≤ v) = l.length := count_len (fun z hz => by simpa using h' z hz)
  exact ⟨by omega, by omega⟩
theorem kth_min {l : List Int} {v : Int} (h : v ∈ l) (h' : ∀ z ∈ l, v ≤ z) : Kth l 0 v := by
  have h1 : l.countP (· < v) = 0 := count_zero (fun z hz => by have := h' z hz; simp; omega)
  have h2 : 0 < l.countP (· ≤ v) := List.countP_pos_iff.mpr ⟨v, h, by simp⟩
  exact ⟨by omega, h2⟩
def grN (l : List Int) : Int × Int := if good l then (if l.length = 0 then (0, 0) else (kthN l (l.length - 1), 0)) else (0, 5)
def leN (l : List Int) : Int × Int := if good l then (if l.length = 0 then (0, 0) else (kthN l 0, 0)) else (0, 5)
theorem gr_eq (l : List Int) (k : Nat) (hk : l.length + 2 ≤ k) : stats_Greatest.f k l = some (grN l) := by
  unfold stats_Greatest.f grN
  rw [good_eq l k (by omega), Option.bind_some]
  by_cases hg : good l
  · have hl := hg.1
    rw [if_pos (decide_eq_true hg), if_pos hg]
    by_cases c : l.length = 0
    · rw [if_pos (by omega), if_pos c]
    · rw [if_neg (by omega), if_neg c]
      unfold slices_Max_int_int.f
      rw [if_neg (by omega), if_pos (by omega)]
      obtain ⟨v, e, hv, hm⟩ := max_l0 l (by omega) (l.length - 1) k 1 (rd l 0) (by omega) (by omega) (by rw [show (0 : Int) = ((0 : Nat) : Int) from rfl, rd_nat]; exact mem_getD l 0 (by omega)) (by
        intro z hz
        obtain ⟨a, m, rfl⟩ : ∃ a m, l = a :: m := by
          cases l with
          | nil => exact absurd rfl c
          | cons a m => exact ⟨a, m, rfl⟩
        have : z = a := by simpa using hz
        rw [this]; simp [rd])
      rw [show ((1 : Nat) : Int) = 1 from rfl] at e
      rw [e, Option.bind_some, kthN_eq (kth_max hv hm)]
  · rw [if_neg (by simpa using hg), if_neg hg]
theorem le_eq (l : List Int) (k : Nat) (hk : l.length + 2 ≤ k) : stats_Least.f k l = some (leN l) := by
  unfold stats_Least.f leN
  rw [good_eq l k (by omega), Option.bind_some]
  by_cases hg : good l
  · have hl := hg.1
    rw [if_pos (decide_eq_true hg), if_pos hg]
    by_cases c : l.length = 0
    · rw [if_pos (by omega), if_pos c]
    · rw [if_neg (by omega), if_neg c]
      unfold slices_Min_int_int.f
      rw [if_neg (by omega), if_pos (by omega)]
      obtain ⟨v, e, hv, hm⟩ := min_l0 l (by omega) (l.length - 1) k 1 (rd l 0) (by omega) (by omega) (by rw [show (0 : Int) = ((0 : Nat) : Int) from rfl, rd_nat]; exact mem_getD l 0 (by omega)) (by
        intro z hz
        obtain ⟨a, m, rfl⟩ : ∃ a m, l = a :: m := by
          cases l with
          | nil => exact absurd rfl c
          | cons a m => exact ⟨a, m, rfl⟩
        have : z = a := by simpa using hz
        rw [this]; simp [rd])
      rw [show ((1 : Nat) : Int) = 1 from rfl] at e
      rw [e, Option.bind_some, kthN_eq (kth_min hv hm)]
  · rw [if_neg (by simpa using hg), if_neg hg]

/-! ### the place -/
theorem sum_x (l : List Int) {r : Int × Int} (h : some (sumN l) = some r) : ∃ k, stats_Sum.f k l = some r := ⟨_, (sum_eq l _ (Nat.le_refl _)).trans h⟩
theorem avg_x (l : List Int) {r : Int × Int} (h : some (avgN l) = some r) : ∃ k, stats_Mean.f k l = some r := ⟨_, (avg_eq l _ (Nat.le_refl _)).trans h⟩
theorem med_x (l : List Int) {r : Int × Int} (h : some (medN l) = some r) : ∃ k, stats_Median.f k l = some r := ⟨_, (med_eq l _ (Nat.le_refl _)).trans h⟩
theorem small_x (l : List Int) (a : Int) {r : Int × Int} (h : some (smallN l a) = some r) : ∃ k, stats_Small.f k l a = some r := ⟨_, (small_eq l a _ (Nat.le_refl _)).trans h⟩
theorem gr_x (l : List Int) {r : Int × Int} (h : some (grN l) = some r) : ∃ k, stats_Greatest.f k l = some r := ⟨_, (gr_eq l _ (Nat.le_refl _)).trans h⟩
theorem le_x (l : List Int) {r : Int × Int} (h : some (leN l) = some r) : ∃ k, stats_Least.f k l = some r := ⟨_, (le_eq l _ (Nat.le_refl _)).trans h⟩
end Go.Proofs.Ytjhinakfoejpbaa.SD
