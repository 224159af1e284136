/- Lists of numbers: what is told of them. No condition stands open. -/
import Derived.Test.YtjhinakfoejpbaaJ7
import Derived.Test.YtjhinakfoejpbaaPRx
set_option linter.unusedVariables false
set_option linter.unusedSimpArgs false
/- Lists of numbers: what is told of them. No condition stands open. -/
namespace Go.Proofs.Ytjhinakfoejpbaa.SN
open Go.RowKit Go.Proofs.Ytjhinakfoejpbaa Go.Proofs.Ytjhinakfoejpbaa.WPure Go.Proofs.YtjhinakfoejpbaaW.PrintWords Go.Proofs.YtjhinakfoejpbaaW.PrintLast Go.Proofs.YtjhinakfoejpbaaW.PrintMore
abbrev good (l : List Int) : Prop := l.length ≤ 4096 ∧ ∀ x ∈ l, fits x
theorem w1 (i : Nat) (h : i < 4611686018427387904) : wrap64 ((i : Int) + 1) = ((i + 1 : Nat) : Int) := by unfold wrap64; omega
theorem rd_nat (x : List Int) (i : Nat) : rd x (i : Int) = x.getD i 0 := by unfold rd; rw [Int.toNat_natCast]
theorem mem_getD (x : List Int) (i : Nat) (h : i < x.length) : x.getD i 0 ∈ x := by rw [getD_lt x i h]; exact List.getElem_mem h

theorem sum_le (l : List Int) (h : ∀ x ∈ l, fits x) : -(l.length * 1000000000000000000 : Int) ≤ l.sum ∧ l.sum ≤ (l.length : Int) * 1000000000000000000 := by
  induction l with
  | nil => simp
  | cons a l ih =>
    have h1 := ih (fun x hx => h x (List.mem_cons_of_mem _ hx))
    have h2 : fits a := h a (List.mem_cons_self)
    unfold fits at h2
    rw [List.sum_cons, List.length_cons]
    omega
def sumN (l : List Int) : Int × Int := if good l ∧ fits l.sum then (l.sum, 0) else (0, 5)
theorem inW_sum (l : List Int) (hg : good l) : inW l.sum := by
  have h := sum_le l hg.2
  have hl := hg.1
  unfold inW; omega
def avgN (l : List Int) : Int × Int := if good l then (if l.length = 0 then (0, 1) else (meanV l.sum l.length, 0)) else (0, 5)
def smallN (l : List Int) (a : Int) : Int × Int := if good l ∧ 1 ≤ a ∧ a ≤ l.length then (kthN l (a - 1).toNat, 0) else (0, 5)
def medN (l : List Int) : Int × Int := if good l ∧ l.length ≠ 0 then (if l.length % 2 = 1 then (kthN l (l.length / 2), 0) else (meanV (kthN l (l.length / 2 - 1) + kthN l (l.length / 2)) 2, 0)) else (0, 5)
def grN (l : List Int) : Int × Int := if good l then (if l.length = 0 then (0, 0) else (kthN l (l.length - 1), 0)) else (0, 5)
def leN (l : List Int) : Int × Int := if good l then (if l.length = 0 then (0, 0) else (kthN l 0, 0)) else (0, 5)
end Go.Proofs.Ytjhinakfoejpbaa.SN

/- Chapter 16's document functions, in plain numbers. No condition stands open. -/
namespace Go.Proofs.Ytjhinakfoejpbaa.SR
open Go.RowKit Go.Proofs.Ytjhinakfoejpbaa Go.Proofs.Ytjhinakfoejpbaa.PR Go.Proofs.Ytjhinakfoejpbaa.WPure Go.Proofs.Ytjhinakfoejpbaa.SN Go.Proofs.YtjhinakfoejpbaaW.PrintWords Go.Proofs.YtjhinakfoejpbaaW.PrintLast Go.Proofs.YtjhinakfoejpbaaW.PrintMore
theorem kth_is (l : List Int) (i : Nat) (h : i < l.length) (hl : l.length < 4611686018427387904) : Kth l i (kthN l i) := by
  have hp : (l.mergeSort (fun a b => decide (a ≤ b))).Perm l := List.mergeSort_perm l _
  have hs : Up (l.mergeSort (fun a b => decide (a ≤ b))) := (List.pairwise_mergeSort (le := fun a b => decide (a ≤ b)) (fun a b c h1 h2 => by simp at *; omega) (fun a b => by simp; omega) l).imp (fun {a b} h => by simpa using h)
  have e := (kth_up _ hs i (by rw [hp.length_eq]; exact h)).perm hp
  rwa [kthN_eq e]
theorem rfits_eq (n : Int) : foolscapref01_Fits.f n = some (decide (fits n)) := by
  unfold foolscapref01_Fits.f fits
  split
  · congr 1; rw [decide_eq_decide]; omega
  · congr 1; symm; rw [decide_eq_false_iff_not]; omega
theorem rgood_l0 (l : List Int) (hl : l.length ≤ 4096) : ∀ n k i, i + n = l.length → n + 1 ≤ k → foolscapref16_good.l0 k l (i : Int) = some (decide (∀ x ∈ l.drop i, fits x)) := by
  intro n
  induction n with
  | zero =>
    intro k i hi hk
    obtain ⟨k, rfl⟩ : ∃ q, k = q + 1 := ⟨k - 1, by omega⟩
    rw [foolscapref16_good.l0, if_neg (by omega), List.drop_eq_nil_of_le (by omega)]
    simp
  | succ n ih =>
    intro k i hi hk
    obtain ⟨k, rfl⟩ : ∃ q, k = q + 1 := ⟨k - 1, by omega⟩
    rw [foolscapref16_good.l0, if_pos (by omega), if_pos (by omega), rd_nat, rfits_eq, Option.bind_some, drop_cons l i (by omega)]
    by_cases c : fits (l.getD i 0)
    · rw [if_pos (decide_eq_true c), w1 i (by omega), ih k (i + 1) (by omega) (by omega)]
      congr 1; rw [decide_eq_decide]; simp only [List.mem_cons, forall_eq_or_imp]
      exact ⟨fun z => ⟨c, z⟩, fun z => z.2⟩
    · rw [decide_eq_false c, if_neg (by decide), decide_eq_false (fun z => c (z _ List.mem_cons_self))]
theorem rgood_eq (l : List Int) (k : Nat) (hk : l.length + 1 ≤ k) : foolscapref16_good.f k l = some (decide (good l)) := by
  unfold foolscapref16_good.f
  by_cases c : l.length ≤ 4096
  · rw [if_neg (by omega)]
    have := rgood_l0 l c l.length k 0 (by omega) hk
    rw [List.drop_zero] at this
    rw [show (0 : Int) = ((0 : Nat) : Int) from rfl, this]
    congr 1; rw [decide_eq_decide]; exact ⟨fun z => ⟨c, z⟩, fun z => z.2⟩
  · rw [if_pos (by omega), decide_eq_false (fun z => c z.1)]

/-! ### numbers in order -/
theorem get_mid (a : List Int) (h : Int) (b : List Int) : (a ++ h :: b).getD a.length 0 = h := by
  rw [List.getD, List.getElem?_append_right (Nat.le_refl _), Nat.sub_self]; rfl
theorem set_mid (a : List Int) (h v : Int) (b : List Int) : (a ++ h :: b).set a.length v = a ++ v :: b := by
  rw [List.set_append_right _ _ (Nat.le_refl _), Nat.sub_self]; rfl
theorem ins (x0 : List Int) (i : Nat) (hi : i < x0.length) (hl : x0.length ≤ 4096) : ∀ n (a : List Int) (h : Int) (b : List Int), a.length = n → n + b.length ≤ 4096 → Up (a ++ b) → (∀ z ∈ b, x0.getD i 0 < z) →
    ∃ c res, (∀ j, foolscapref16_Rising.l1 (c + j) x0 (a ++ h :: b) (i : Int) (a.length : Int) = foolscapref16_Rising.l0 j x0 res ((i + 1 : Nat) : Int)) ∧ Up res ∧ res.Perm (a ++ x0.getD i 0 :: b) := by
  intro n
  induction n with
  | zero =>
    intro a h b ha hb hu hz
    have e : a = [] := List.length_eq_zero_iff.mp ha
    subst e
    refine ⟨1, x0.getD i 0 :: b, fun j => ?_, ?_, List.Perm.refl _⟩
    · rw [Nat.add_comm, foolscapref16_Rising.l1, if_neg (by simp), if_pos (by omega), if_pos (by omega), if_pos (by simp), if_pos (by simp), rd_nat, w1 i (by omega)]
      rfl
    · exact List.pairwise_cons.mpr ⟨fun z hz2 => Int.le_of_lt (hz z hz2), hu⟩
  | succ n ih =>
    intro a h b ha hb hu hz
    obtain ⟨a', d, rfl⟩ : ∃ a' d, a = a' ++ [d] := by
      rcases List.eq_nil_or_concat a with e | ⟨a', d, e⟩
      · subst e; simp at ha
      · exact ⟨a', d, by rw [e, List.concat_eq_append]⟩
    have ha' : a'.length = n := by rw [List.length_append, List.length_singleton] at ha; omega
    have eL : (a' ++ [d]).length = n + 1 := ha
    have w : wrap64 ((((n + 1 : Nat)) : Int) - 1) = (n : Int) := by unfold wrap64; omega
    have g : (a' ++ [d] ++ h :: b).getD n 0 = d := by
      rw [List.append_assoc, ← ha']; exact get_mid a' d _
    have lt : (a' ++ [d] ++ h :: b).length = n + 2 + b.length := by simp; omega
    by_cases c : d > x0.getD i 0
    · have su : Up (a' ++ d :: b) := by rw [show a' ++ d :: b = a' ++ [d] ++ b by simp]; exact hu
      have db : ∀ z ∈ d :: b, x0.getD i 0 < z := fun z hz2 => by
        rcases List.mem_cons.mp hz2 with e | e
        · rw [e]; exact c
        · exact hz z e
      obtain ⟨cc, res, h1, h2, h3⟩ := ih a' d (d :: b) ha' (by rw [List.length_cons]; omega) su db
      refine ⟨cc + 1, res, fun j => ?_, h2, h3.trans ?_⟩
      · rw [show cc + 1 + j = (cc + j) + 1 by omega, foolscapref16_Rising.l1, eL, if_pos (by omega), w, if_pos (by omega), if_pos (by omega), if_pos (by omega), if_pos (by omega), rd_nat, rd_nat, g, if_pos c, if_pos (by omega), if_pos (by omega), Int.toNat_natCast]
        rw [← eL, set_mid (a' ++ [d]) h d b, ← h1 j, ha', List.append_assoc]
        rfl
      · rw [List.append_assoc]
        exact List.Perm.append_left a' (List.Perm.swap d (x0.getD i 0) b)
    · refine ⟨1, a' ++ [d] ++ x0.getD i 0 :: b, fun j => ?_, ?_, List.Perm.refl _⟩
      · rw [Nat.add_comm, foolscapref16_Rising.l1, eL, if_pos (by omega), w, if_pos (by omega), if_pos (by omega), if_pos (by omega), if_pos (by omega), rd_nat, rd_nat, g, if_neg c, if_pos (by omega), if_pos (by omega), Int.toNat_natCast, w1 i (by omega)]
        rw [← eL, set_mid (a' ++ [d]) h _ b]
      · obtain ⟨p1, p2, p3⟩ := List.pairwise_append.mp hu
        refine List.pairwise_append.mpr ⟨p1, List.pairwise_cons.mpr ⟨fun z hz2 => Int.le_of_lt (hz z hz2), p2⟩, fun u hu2 z hz2 => ?_⟩
        rcases List.mem_cons.mp hz2 with e | e
        · rw [e]
          rcases List.mem_append.mp hu2 with q | q
          · have := (List.pairwise_append.mp p1).2.2 u q d (by simp)
            omega
          · rw [List.mem_singleton.mp q]; omega
        · exact p3 u hu2 z e
theorem rise_l0 (x0 : List Int) (hl : x0.length ≤ 4096) : ∀ n i (s : List Int), i + n = x0.length → s.length = i → Up s →
    ∃ k r, foolscapref16_Rising.l0 k x0 s (i : Int) = some r ∧ Up r ∧ r.Perm (s ++ x0.drop i) := by
  intro n
  induction n with
  | zero =>
    intro i s hi hs hu
    exact ⟨1, s, by rw [foolscapref16_Rising.l0, if_neg (by omega)], hu, by rw [List.drop_eq_nil_of_le (by omega), List.append_nil]⟩
  | succ n ih =>
    intro i s hi hs hu
    obtain ⟨c, res, h1, h2, h3⟩ := ins x0 i (by omega) hl s.length s 0 [] rfl (by simp; omega) (by rw [List.append_nil]; exact hu) (by simp)
    have hrl : res.length = i + 1 := by rw [h3.length_eq]; simp; omega
    obtain ⟨k, r, e, hu2, hp⟩ := ih (i + 1) res (by omega) hrl h2
    refine ⟨c + k + 1, r, ?_, hu2, hp.trans ?_⟩
    · rw [foolscapref16_Rising.l0, if_pos (by omega), if_pos (by omega)]
      rw [h1 k]; exact e
    · rw [drop_cons x0 i (by omega)]
      have := List.Perm.append_right (x0.drop (i + 1)) h3
      rw [List.append_assoc] at this
      exact this
theorem rise_eq (l : List Int) (hl : l.length ≤ 4096) : ∃ k r, foolscapref16_Rising.f k l = some r ∧ Up r ∧ r.Perm l := by
  obtain ⟨k, r, e, h1, h2⟩ := rise_l0 l hl l.length 0 [] (by omega) rfl List.Pairwise.nil
  exact ⟨k, r, e, h1, by simpa using h2⟩
/-- The numbers in order, with rounds enough for what else is asked. -/
theorem rise_at (l : List Int) (hl : l.length ≤ 4096) : ∃ k r, l.length + 10 ≤ k ∧ foolscapref16_Rising.f k l = some r ∧ Up r ∧ r.Perm l := by
  obtain ⟨k, r, e, h1, h2⟩ := rise_eq l hl
  exact ⟨k + (l.length + 10), r, by omega, at_rounds (g := fun k => foolscapref16_Rising.f k l) (foolscapref16_Rising.mono l) (Nat.le_add_right _ _) e, h1, h2⟩
theorem rsmall_x (l : List Int) (a : Int) {r : Int × Int} (h : some (smallN l a) = some r) : ∃ k, foolscapref16_Small.f k l a = some r := by
  rw [← h]
  unfold smallN
  by_cases hg : good l
  · obtain ⟨k, s, hk, e, hu, hp⟩ := rise_at l hg.1
    have hl := hg.1
    have hs := hp.length_eq
    refine ⟨k, ?_⟩
    unfold foolscapref16_Small.f
    rw [rgood_eq l k (by omega), Option.bind_some, if_pos (decide_eq_true hg)]
    by_cases c : 1 ≤ a ∧ a ≤ l.length
    · have w : wrap64 (a - 1) = (((a - 1).toNat : Nat) : Int) := by unfold wrap64; omega
      rw [if_neg (by omega), if_neg (by omega), e, Option.bind_some, w, if_pos (by omega), if_pos (by omega), rd_nat, kthN_up hu hp _ (by omega), if_pos (show good l ∧ 1 ≤ a ∧ a ≤ l.length from ⟨hg, c⟩)]
    · rw [if_neg (show ¬ (good l ∧ 1 ≤ a ∧ a ≤ l.length) from fun z => c z.2)]
      by_cases c2 : a < 1
      · rw [if_pos c2]
      · rw [if_neg c2, if_pos (by omega)]
  · refine ⟨l.length + 1, ?_⟩
    unfold foolscapref16_Small.f
    rw [rgood_eq l _ (Nat.le_refl _), Option.bind_some, if_neg (by simpa using hg), if_neg (fun z => hg z.1)]
theorem fits1_eq (n : Int) : foolscapref01_Fits.f n = some (decide (fits n)) := by
  unfold foolscapref01_Fits.f fits
  split
  · congr 1; rw [decide_eq_decide]; omega
  · congr 1; symm; rw [decide_eq_false_iff_not]; omega
theorem right_eq (h l : Int) : foolscapref03_Right.f h l = some (decide (right h l)) := by
  unfold foolscapref03_Right.f right
  repeat' split
  all_goals first | (congr 1; rw [decide_eq_decide]; omega) | (congr 1; symm; rw [decide_eq_false_iff_not]; omega)

theorem made1_eq (k : Nat) (h l : Int) (h0 : 0 ≤ l) (h1 : l ≤ 2000000000000000000) (h2 : -4294967296 ≤ h) (h3 : h ≤ 4294967296) (hk : 5 ≤ k) :
    foolscapref03_made.l1 k h l = some (madeW h l) := by
  obtain ⟨k, rfl⟩ : ∃ j, k = j + 3 := ⟨k - 3, by omega⟩
  have fin : ∀ j h' l', 0 ≤ l' → l' < 1000000000000000000 → h' = h + l / 1000000000000000000 → l' = l % 1000000000000000000 → foolscapref03_made.l1 (j + 1) h' l' = some (madeW h l) := by
    intro j h' l' a b e1 e2
    simp only [foolscapref03_made.l1, right_eq, Option.bind_some]
    rw [if_neg (by omega)]
    unfold madeW
    by_cases hc : -2147483648 ≤ h + l / 1000000000000000000 ∧ h + l / 1000000000000000000 < 2147483648
    · rw [if_pos hc, if_pos (by rw [decide_eq_true_iff]; unfold right; omega), e1, e2]
    · rw [if_neg hc, if_neg (by rw [decide_eq_true_iff]; unfold right; omega)]
  by_cases c1 : l ≥ 1000000000000000000
  · rw [foolscapref03_made.l1, if_pos c1]
    have w1 : wrap64 (h + 1) = h + 1 := by unfold wrap64; omega
    have w2 : wrap64 (l - 1000000000000000000) = l - 1000000000000000000 := by unfold wrap64; omega
    rw [w1, w2]
    by_cases c2 : l - 1000000000000000000 ≥ 1000000000000000000
    · rw [foolscapref03_made.l1, if_pos c2]
      have w3 : wrap64 (h + 1 + 1) = h + 1 + 1 := by unfold wrap64; omega
      have w4 : wrap64 (l - 1000000000000000000 - 1000000000000000000) = l - 1000000000000000000 - 1000000000000000000 := by unfold wrap64; omega
      rw [w3, w4]
      exact fin k _ _ (by omega) (by omega) (by omega) (by omega)
    · exact fin (k + 1) _ _ (by omega) (by omega) (by omega) (by omega)
  · exact fin (k + 2) _ _ (by omega) (by omega) (by omega) (by omega)
theorem made_shift (h l : Int) : madeW (h - 1) (l + 1000000000000000000) = madeW h l := by
  unfold madeW
  have e1 : h - 1 + (l + 1000000000000000000) / 1000000000000000000 = h + l / 1000000000000000000 := by omega
  have e2 : (l + 1000000000000000000) % 1000000000000000000 = l % 1000000000000000000 := by omega
  rw [e1, e2]
theorem made_eq (k : Nat) (h l : Int) (h0 : -1000000000000000000 ≤ l) (h1 : l ≤ 2000000000000000000) (h2 : -4294967296 ≤ h) (h3 : h ≤ 4294967295) (hk : 10 ≤ k) :
    foolscapref03_made.f k h l = some (madeW h l) := by
  obtain ⟨k, rfl⟩ : ∃ j, k = j + 2 := ⟨k - 2, by omega⟩
  unfold foolscapref03_made.f
  rw [foolscapref03_made.l0]
  by_cases c : l < 0
  · rw [if_pos c]
    have w1 : wrap64 (h - 1) = h - 1 := by unfold wrap64; omega
    have w2 : wrap64 (l + 1000000000000000000) = l + 1000000000000000000 := by unfold wrap64; omega
    rw [w1, w2, foolscapref03_made.l0, if_neg (by omega), ← made_shift h l]
    by_cases hb : -4294967296 ≤ h - 1
    · exact made1_eq k _ _ (by omega) (by omega) hb (by omega) (by omega)
    · obtain ⟨k, rfl⟩ : ∃ j, k = j + 2 := ⟨k - 2, by omega⟩
      have e : l + 1000000000000000000 < 1000000000000000000 := by omega
      rw [foolscapref03_made.l1, if_neg (by omega), right_eq]
      simp only [Option.bind_some]
      unfold madeW
      rw [if_neg (by rw [decide_eq_true_iff]; unfold right; omega), if_neg (by omega)]
  · rw [if_neg c]
    exact made1_eq (k + 1) _ _ (by omega) h1 h2 (by omega) (by omega)
theorem radd_eq (k : Nat) (h l n : Int) (hk : 10 ≤ k) : foolscapref03_Add.f k h l n = some (addW h l n) := by
  unfold foolscapref03_Add.f
  simp only [right_eq, fits1_eq, Option.bind_some]
  unfold addW
  by_cases hr : right h l
  · by_cases hf : fits n
    · have w : wrap64 (l + n) = l + n := by unfold wrap64; omega
      rw [if_pos (by simpa using hr), if_pos (by simpa using hf), w, made_eq _ _ _ (by omega) (by omega) (by omega) (by omega) hk, if_pos ⟨hr, hf⟩]; rfl
    · rw [if_pos (by simpa using hr), if_neg (by simpa using hf), if_neg (fun h => hf h.2)]
  · rw [if_neg (by simpa using hr), if_neg (fun h => hr h.1)]

/-! ### sums, the document's -/
theorem rtot (l : List Int) (hg : good l) : ∀ n k i (s : Int), i + n = l.length → n + 12 ≤ k → -(i * 1000000000000000000 : Int) ≤ s → s ≤ (i : Int) * 1000000000000000000 →
    foolscapref16_total.l0 k l (i : Int) (hiW s) (loW s) = some (hiW (s + (l.drop i).sum), loW (s + (l.drop i).sum)) := by
  intro n
  have hl := hg.1
  induction n with
  | zero =>
    intro k i s hi hk h0 h1
    obtain ⟨k, rfl⟩ : ∃ q, k = q + 1 := ⟨k - 1, by omega⟩
    rw [foolscapref16_total.l0, if_neg (by omega), List.drop_eq_nil_of_le (by omega), List.sum_nil, Int.add_zero]
  | succ n ih =>
    intro k i s hi hk h0 h1
    obtain ⟨k, rfl⟩ : ∃ q, k = q + 1 := ⟨k - 1, by omega⟩
    have hf := hg.2 _ (mem_getD l i (by omega))
    have hin : inW s := by unfold inW; omega
    have hin2 : inW (s + l.getD i 0) := by unfold inW; unfold fits at hf; omega
    rw [foolscapref16_total.l0, if_pos (by omega), if_pos (by omega), rd_nat, radd_eq _ _ _ _ (by omega), addW_rep s _ hin, if_pos hf, if_pos hin2, Option.bind_some, w1 i (by omega)]
    have := ih k (i + 1) (s + l.getD i 0) (by omega) (by omega) (by unfold fits at hf; omega) (by unfold fits at hf; omega)
    rw [this, drop_cons l i (by omega), List.sum_cons, Int.add_assoc]
theorem rtotal_good (l : List Int) (hg : good l) (k : Nat) (hk : l.length + 12 ≤ k) : foolscapref16_total.f k l = some (hiW l.sum, loW l.sum) := by
  unfold foolscapref16_total.f
  have := rtot l hg l.length k 0 0 (by omega) hk (by omega) (by omega)
  rw [List.drop_zero, Int.zero_add] at this
  exact this

/-! ### the mean of two, the document's: digit by digit -/
theorem digit (k : Nat) (x7 Q D d hh ll : Int) (hD : 0 < D) (hd : Int.tmod (wrap64 (Int.tdiv x7 D)) 10 = d) (h0 : 0 ≤ d) (h9 : d ≤ 9) (hQ : 0 ≤ Q) (hQ2 : Q ≤ 200000000000000000) :
    foolscapref03_Mean.l0 (k + 1) 2 x7 (Q / 2) (Q % 2) D hh ll = foolscapref03_Mean.l0 k 2 x7 ((10 * Q + d) / 2) ((10 * Q + d) % 2) (wrap64 (Int.tdiv D 10)) hh ll := by
  rw [foolscapref03_Mean.l0, if_pos (by omega), if_neg (by omega), if_neg (by omega), hd]
  have e1 : wrap64 (10 * (Q / 2)) = 10 * (Q / 2) := by unfold wrap64; omega
  have e2 : wrap64 (10 * (Q % 2)) = 10 * (Q % 2) := by unfold wrap64; omega
  have e3 : wrap64 (10 * (Q % 2) + d) = 10 * (Q % 2) + d := by unfold wrap64; omega
  rw [e1, e2, e3, Int.tdiv_eq_ediv_of_nonneg (show 0 ≤ 10 * (Q % 2) + d by omega), Int.tmod_eq_emod_of_nonneg (show 0 ≤ 10 * (Q % 2) + d by omega)]
  have e4 : wrap64 ((10 * (Q % 2) + d) / 2) = (10 * (Q % 2) + d) / 2 := by unfold wrap64; omega
  rw [e4]
  have e5 : wrap64 (10 * (Q / 2) + (10 * (Q % 2) + d) / 2) = (10 * Q + d) / 2 := by unfold wrap64; omega
  have e6 : (10 * (Q % 2) + d) % 2 = (10 * Q + d) % 2 := by omega
  rw [e5, e6]
theorem dig (x7 D : Int) (h0 : 0 ≤ x7) (h1 : x7 < 1000000000000000000) (hD : 0 < D) : Int.tmod (wrap64 (Int.tdiv x7 D)) 10 = x7 / D % 10 := by
  rw [Int.tdiv_eq_ediv_of_nonneg h0]
  have a := Int.ediv_nonneg h0 (Int.le_of_lt hD)
  have b : x7 / D ≤ x7 := Int.ediv_le_self _ h0
  generalize x7 / D = y at a b
  have w : wrap64 y = y := by unfold wrap64; omega
  rw [w, Int.tmod_eq_emod_of_nonneg a]
theorem dg0 (k : Nat) (N x7 h hh ll : Int) (hN : N = h * 1000000000000000000 + x7) (h0 : 0 ≤ x7) (h1 : x7 < 1000000000000000000) (h2 : 0 ≤ h) (h3 : N ≤ 2000000000000000000) :
    foolscapref03_Mean.l0 (k + 1) 2 x7 (N / 1000000000000000000 / 2) (N / 1000000000000000000 % 2) 100000000000000000 hh ll = foolscapref03_Mean.l0 k 2 x7 (N / 100000000000000000 / 2) (N / 100000000000000000 % 2) 10000000000000000 hh ll := by
  rw [digit k x7 (N / 1000000000000000000) 100000000000000000 _ hh ll (by omega) (dig x7 100000000000000000 h0 h1 (by omega)) (by omega) (by omega) (by omega) (by omega), show 10 * (N / 1000000000000000000) + x7 / 100000000000000000 % 10 = N / 100000000000000000 by omega, show wrap64 (Int.tdiv 100000000000000000 10) = 10000000000000000 by decide +kernel]
theorem dg1 (k : Nat) (N x7 h hh ll : Int) (hN : N = h * 1000000000000000000 + x7) (h0 : 0 ≤ x7) (h1 : x7 < 1000000000000000000) (h2 : 0 ≤ h) (h3 : N ≤ 2000000000000000000) :
    foolscapref03_Mean.l0 (k + 1) 2 x7 (N / 100000000000000000 / 2) (N / 100000000000000000 % 2) 10000000000000000 hh ll = foolscapref03_Mean.l0 k 2 x7 (N / 10000000000000000 / 2) (N / 10000000000000000 % 2) 1000000000000000 hh ll := by
  rw [digit k x7 (N / 100000000000000000) 10000000000000000 _ hh ll (by omega) (dig x7 10000000000000000 h0 h1 (by omega)) (by omega) (by omega) (by omega) (by omega), show 10 * (N / 100000000000000000) + x7 / 10000000000000000 % 10 = N / 10000000000000000 by omega, show wrap64 (Int.tdiv 10000000000000000 10) = 1000000000000000 by decide +kernel]
theorem dg2 (k : Nat) (N x7 h hh ll : Int) (hN : N = h * 1000000000000000000 + x7) (h0 : 0 ≤ x7) (h1 : x7 < 1000000000000000000) (h2 : 0 ≤ h) (h3 : N ≤ 2000000000000000000) :
    foolscapref03_Mean.l0 (k + 1) 2 x7 (N / 10000000000000000 / 2) (N / 10000000000000000 % 2) 1000000000000000 hh ll = foolscapref03_Mean.l0 k 2 x7 (N / 1000000000000000 / 2) (N / 1000000000000000 % 2) 100000000000000 hh ll := by
  rw [digit k x7 (N / 10000000000000000) 1000000000000000 _ hh ll (by omega) (dig x7 1000000000000000 h0 h1 (by omega)) (by omega) (by omega) (by omega) (by omega), show 10 * (N / 10000000000000000) + x7 / 1000000000000000 % 10 = N / 1000000000000000 by omega, show wrap64 (Int.tdiv 1000000000000000 10) = 100000000000000 by decide +kernel]
theorem dg3 (k : Nat) (N x7 h hh ll : Int) (hN : N = h * 1000000000000000000 + x7) (h0 : 0 ≤ x7) (h1 : x7 < 1000000000000000000) (h2 : 0 ≤ h) (h3 : N ≤ 2000000000000000000) :
    foolscapref03_Mean.l0 (k + 1) 2 x7 (N / 1000000000000000 / 2) (N / 1000000000000000 % 2) 100000000000000 hh ll = foolscapref03_Mean.l0 k 2 x7 (N / 100000000000000 / 2) (N / 100000000000000 % 2) 10000000000000 hh ll := by
  rw [digit k x7 (N / 1000000000000000) 100000000000000 _ hh ll (by omega) (dig x7 100000000000000 h0 h1 (by omega)) (by omega) (by omega) (by omega) (by omega), show 10 * (N / 1000000000000000) + x7 / 100000000000000 % 10 = N / 100000000000000 by omega, show wrap64 (Int.tdiv 100000000000000 10) = 10000000000000 by decide +kernel]
theorem dg4 (k : Nat) (N x7 h hh ll : Int) (hN : N = h * 1000000000000000000 + x7) (h0 : 0 ≤ x7) (h1 : x7 < 1000000000000000000) (h2 : 0 ≤ h) (h3 : N ≤ 2000000000000000000) :
    foolscapref03_Mean.l0 (k + 1) 2 x7 (N / 100000000000000 / 2) (N / 100000000000000 % 2) 10000000000000 hh ll = foolscapref03_Mean.l0 k 2 x7 (N / 10000000000000 / 2) (N / 10000000000000 % 2) 1000000000000 hh ll := by
  rw [digit k x7 (N / 100000000000000) 10000000000000 _ hh ll (by omega) (dig x7 10000000000000 h0 h1 (by omega)) (by omega) (by omega) (by omega) (by omega), show 10 * (N / 100000000000000) + x7 / 10000000000000 % 10 = N / 10000000000000 by omega, show wrap64 (Int.tdiv 10000000000000 10) = 1000000000000 by decide +kernel]
theorem dg5 (k : Nat) (N x7 h hh ll : Int) (hN : N = h * 1000000000000000000 + x7) (h0 : 0 ≤ x7) (h1 : x7 < 1000000000000000000) (h2 : 0 ≤ h) (h3 : N ≤ 2000000000000000000) :
    foolscapref03_Mean.l0 (k + 1) 2 x7 (N / 10000000000000 / 2) (N / 10000000000000 % 2) 1000000000000 hh ll = foolscapref03_Mean.l0 k 2 x7 (N / 1000000000000 / 2) (N / 1000000000000 % 2) 100000000000 hh ll := by
  rw [digit k x7 (N / 10000000000000) 1000000000000 _ hh ll (by omega) (dig x7 1000000000000 h0 h1 (by omega)) (by omega) (by omega) (by omega) (by omega), show 10 * (N / 10000000000000) + x7 / 1000000000000 % 10 = N / 1000000000000 by omega, show wrap64 (Int.tdiv 1000000000000 10) = 100000000000 by decide +kernel]
theorem dg6 (k : Nat) (N x7 h hh ll : Int) (hN : N = h * 1000000000000000000 + x7) (h0 : 0 ≤ x7) (h1 : x7 < 1000000000000000000) (h2 : 0 ≤ h) (h3 : N ≤ 2000000000000000000) :
    foolscapref03_Mean.l0 (k + 1) 2 x7 (N / 1000000000000 / 2) (N / 1000000000000 % 2) 100000000000 hh ll = foolscapref03_Mean.l0 k 2 x7 (N / 100000000000 / 2) (N / 100000000000 % 2) 10000000000 hh ll := by
  rw [digit k x7 (N / 1000000000000) 100000000000 _ hh ll (by omega) (dig x7 100000000000 h0 h1 (by omega)) (by omega) (by omega) (by omega) (by omega), show 10 * (N / 1000000000000) + x7 / 100000000000 % 10 = N / 100000000000 by omega, show wrap64 (Int.tdiv 100000000000 10) = 10000000000 by decide +kernel]
theorem dg7 (k : Nat) (N x7 h hh ll : Int) (hN : N = h * 1000000000000000000 + x7) (h0 : 0 ≤ x7) (h1 : x7 < 1000000000000000000) (h2 : 0 ≤ h) (h3 : N ≤ 2000000000000000000) :
    foolscapref03_Mean.l0 (k + 1) 2 x7 (N / 100000000000 / 2) (N / 100000000000 % 2) 10000000000 hh ll = foolscapref03_Mean.l0 k 2 x7 (N / 10000000000 / 2) (N / 10000000000 % 2) 1000000000 hh ll := by
  rw [digit k x7 (N / 100000000000) 10000000000 _ hh ll (by omega) (dig x7 10000000000 h0 h1 (by omega)) (by omega) (by omega) (by omega) (by omega), show 10 * (N / 100000000000) + x7 / 10000000000 % 10 = N / 10000000000 by omega, show wrap64 (Int.tdiv 10000000000 10) = 1000000000 by decide +kernel]
theorem dg8 (k : Nat) (N x7 h hh ll : Int) (hN : N = h * 1000000000000000000 + x7) (h0 : 0 ≤ x7) (h1 : x7 < 1000000000000000000) (h2 : 0 ≤ h) (h3 : N ≤ 2000000000000000000) :
    foolscapref03_Mean.l0 (k + 1) 2 x7 (N / 10000000000 / 2) (N / 10000000000 % 2) 1000000000 hh ll = foolscapref03_Mean.l0 k 2 x7 (N / 1000000000 / 2) (N / 1000000000 % 2) 100000000 hh ll := by
  rw [digit k x7 (N / 10000000000) 1000000000 _ hh ll (by omega) (dig x7 1000000000 h0 h1 (by omega)) (by omega) (by omega) (by omega) (by omega), show 10 * (N / 10000000000) + x7 / 1000000000 % 10 = N / 1000000000 by omega, show wrap64 (Int.tdiv 1000000000 10) = 100000000 by decide +kernel]
theorem dg9 (k : Nat) (N x7 h hh ll : Int) (hN : N = h * 1000000000000000000 + x7) (h0 : 0 ≤ x7) (h1 : x7 < 1000000000000000000) (h2 : 0 ≤ h) (h3 : N ≤ 2000000000000000000) :
    foolscapref03_Mean.l0 (k + 1) 2 x7 (N / 1000000000 / 2) (N / 1000000000 % 2) 100000000 hh ll = foolscapref03_Mean.l0 k 2 x7 (N / 100000000 / 2) (N / 100000000 % 2) 10000000 hh ll := by
  rw [digit k x7 (N / 1000000000) 100000000 _ hh ll (by omega) (dig x7 100000000 h0 h1 (by omega)) (by omega) (by omega) (by omega) (by omega), show 10 * (N / 1000000000) + x7 / 100000000 % 10 = N / 100000000 by omega, show wrap64 (Int.tdiv 100000000 10) = 10000000 by decide +kernel]
theorem dg10 (k : Nat) (N x7 h hh ll : Int) (hN : N = h * 1000000000000000000 + x7) (h0 : 0 ≤ x7) (h1 : x7 < 1000000000000000000) (h2 : 0 ≤ h) (h3 : N ≤ 2000000000000000000) :
    foolscapref03_Mean.l0 (k + 1) 2 x7 (N / 100000000 / 2) (N / 100000000 % 2) 10000000 hh ll = foolscapref03_Mean.l0 k 2 x7 (N / 10000000 / 2) (N / 10000000 % 2) 1000000 hh ll := by
  rw [digit k x7 (N / 100000000) 10000000 _ hh ll (by omega) (dig x7 10000000 h0 h1 (by omega)) (by omega) (by omega) (by omega) (by omega), show 10 * (N / 100000000) + x7 / 10000000 % 10 = N / 10000000 by omega, show wrap64 (Int.tdiv 10000000 10) = 1000000 by decide +kernel]
theorem dg11 (k : Nat) (N x7 h hh ll : Int) (hN : N = h * 1000000000000000000 + x7) (h0 : 0 ≤ x7) (h1 : x7 < 1000000000000000000) (h2 : 0 ≤ h) (h3 : N ≤ 2000000000000000000) :
    foolscapref03_Mean.l0 (k + 1) 2 x7 (N / 10000000 / 2) (N / 10000000 % 2) 1000000 hh ll = foolscapref03_Mean.l0 k 2 x7 (N / 1000000 / 2) (N / 1000000 % 2) 100000 hh ll := by
  rw [digit k x7 (N / 10000000) 1000000 _ hh ll (by omega) (dig x7 1000000 h0 h1 (by omega)) (by omega) (by omega) (by omega) (by omega), show 10 * (N / 10000000) + x7 / 1000000 % 10 = N / 1000000 by omega, show wrap64 (Int.tdiv 1000000 10) = 100000 by decide +kernel]
theorem dg12 (k : Nat) (N x7 h hh ll : Int) (hN : N = h * 1000000000000000000 + x7) (h0 : 0 ≤ x7) (h1 : x7 < 1000000000000000000) (h2 : 0 ≤ h) (h3 : N ≤ 2000000000000000000) :
    foolscapref03_Mean.l0 (k + 1) 2 x7 (N / 1000000 / 2) (N / 1000000 % 2) 100000 hh ll = foolscapref03_Mean.l0 k 2 x7 (N / 100000 / 2) (N / 100000 % 2) 10000 hh ll := by
  rw [digit k x7 (N / 1000000) 100000 _ hh ll (by omega) (dig x7 100000 h0 h1 (by omega)) (by omega) (by omega) (by omega) (by omega), show 10 * (N / 1000000) + x7 / 100000 % 10 = N / 100000 by omega, show wrap64 (Int.tdiv 100000 10) = 10000 by decide +kernel]
theorem dg13 (k : Nat) (N x7 h hh ll : Int) (hN : N = h * 1000000000000000000 + x7) (h0 : 0 ≤ x7) (h1 : x7 < 1000000000000000000) (h2 : 0 ≤ h) (h3 : N ≤ 2000000000000000000) :
    foolscapref03_Mean.l0 (k + 1) 2 x7 (N / 100000 / 2) (N / 100000 % 2) 10000 hh ll = foolscapref03_Mean.l0 k 2 x7 (N / 10000 / 2) (N / 10000 % 2) 1000 hh ll := by
  rw [digit k x7 (N / 100000) 10000 _ hh ll (by omega) (dig x7 10000 h0 h1 (by omega)) (by omega) (by omega) (by omega) (by omega), show 10 * (N / 100000) + x7 / 10000 % 10 = N / 10000 by omega, show wrap64 (Int.tdiv 10000 10) = 1000 by decide +kernel]
theorem dg14 (k : Nat) (N x7 h hh ll : Int) (hN : N = h * 1000000000000000000 + x7) (h0 : 0 ≤ x7) (h1 : x7 < 1000000000000000000) (h2 : 0 ≤ h) (h3 : N ≤ 2000000000000000000) :
    foolscapref03_Mean.l0 (k + 1) 2 x7 (N / 10000 / 2) (N / 10000 % 2) 1000 hh ll = foolscapref03_Mean.l0 k 2 x7 (N / 1000 / 2) (N / 1000 % 2) 100 hh ll := by
  rw [digit k x7 (N / 10000) 1000 _ hh ll (by omega) (dig x7 1000 h0 h1 (by omega)) (by omega) (by omega) (by omega) (by omega), show 10 * (N / 10000) + x7 / 1000 % 10 = N / 1000 by omega, show wrap64 (Int.tdiv 1000 10) = 100 by decide +kernel]
theorem dg15 (k : Nat) (N x7 h hh ll : Int) (hN : N = h * 1000000000000000000 + x7) (h0 : 0 ≤ x7) (h1 : x7 < 1000000000000000000) (h2 : 0 ≤ h) (h3 : N ≤ 2000000000000000000) :
    foolscapref03_Mean.l0 (k + 1) 2 x7 (N / 1000 / 2) (N / 1000 % 2) 100 hh ll = foolscapref03_Mean.l0 k 2 x7 (N / 100 / 2) (N / 100 % 2) 10 hh ll := by
  rw [digit k x7 (N / 1000) 100 _ hh ll (by omega) (dig x7 100 h0 h1 (by omega)) (by omega) (by omega) (by omega) (by omega), show 10 * (N / 1000) + x7 / 100 % 10 = N / 100 by omega, show wrap64 (Int.tdiv 100 10) = 10 by decide +kernel]
theorem dg16 (k : Nat) (N x7 h hh ll : Int) (hN : N = h * 1000000000000000000 + x7) (h0 : 0 ≤ x7) (h1 : x7 < 1000000000000000000) (h2 : 0 ≤ h) (h3 : N ≤ 2000000000000000000) :
    foolscapref03_Mean.l0 (k + 1) 2 x7 (N / 100 / 2) (N / 100 % 2) 10 hh ll = foolscapref03_Mean.l0 k 2 x7 (N / 10 / 2) (N / 10 % 2) 1 hh ll := by
  rw [digit k x7 (N / 100) 10 _ hh ll (by omega) (dig x7 10 h0 h1 (by omega)) (by omega) (by omega) (by omega) (by omega), show 10 * (N / 100) + x7 / 10 % 10 = N / 10 by omega, show wrap64 (Int.tdiv 10 10) = 1 by decide +kernel]
theorem dg17 (k : Nat) (N x7 h hh ll : Int) (hN : N = h * 1000000000000000000 + x7) (h0 : 0 ≤ x7) (h1 : x7 < 1000000000000000000) (h2 : 0 ≤ h) (h3 : N ≤ 2000000000000000000) :
    foolscapref03_Mean.l0 (k + 1) 2 x7 (N / 10 / 2) (N / 10 % 2) 1 hh ll = foolscapref03_Mean.l0 k 2 x7 (N / 1 / 2) (N / 1 % 2) 0 hh ll := by
  rw [digit k x7 (N / 10) 1 _ hh ll (by omega) (dig x7 1 h0 h1 (by omega)) (by omega) (by omega) (by omega) (by omega), show 10 * (N / 10) + x7 / 1 % 10 = N / 1 by omega, show wrap64 (Int.tdiv 1 10) = 0 by decide +kernel]
theorem digits (k : Nat) (N x7 h hh ll : Int) (hN : N = h * 1000000000000000000 + x7) (h0 : 0 ≤ x7) (h1 : x7 < 1000000000000000000) (h2 : 0 ≤ h) (h3 : N ≤ 2000000000000000000) :
    foolscapref03_Mean.l0 (k + 18) 2 x7 (h / 2) (h % 2) 100000000000000000 hh ll = foolscapref03_Mean.l0 k 2 x7 (N / 2) (N % 2) 0 hh ll := by
  have e : h = N / 1000000000000000000 := by omega
  rw [show h / 2 = N / 1000000000000000000 / 2 by rw [← e], show h % 2 = N / 1000000000000000000 % 2 by rw [← e]]
  rw [dg0 (k + 17) N x7 h hh ll hN h0 h1 h2 h3]
  rw [dg1 (k + 16) N x7 h hh ll hN h0 h1 h2 h3]
  rw [dg2 (k + 15) N x7 h hh ll hN h0 h1 h2 h3]
  rw [dg3 (k + 14) N x7 h hh ll hN h0 h1 h2 h3]
  rw [dg4 (k + 13) N x7 h hh ll hN h0 h1 h2 h3]
  rw [dg5 (k + 12) N x7 h hh ll hN h0 h1 h2 h3]
  rw [dg6 (k + 11) N x7 h hh ll hN h0 h1 h2 h3]
  rw [dg7 (k + 10) N x7 h hh ll hN h0 h1 h2 h3]
  rw [dg8 (k + 9) N x7 h hh ll hN h0 h1 h2 h3]
  rw [dg9 (k + 8) N x7 h hh ll hN h0 h1 h2 h3]
  rw [dg10 (k + 7) N x7 h hh ll hN h0 h1 h2 h3]
  rw [dg11 (k + 6) N x7 h hh ll hN h0 h1 h2 h3]
  rw [dg12 (k + 5) N x7 h hh ll hN h0 h1 h2 h3]
  rw [dg13 (k + 4) N x7 h hh ll hN h0 h1 h2 h3]
  rw [dg14 (k + 3) N x7 h hh ll hN h0 h1 h2 h3]
  rw [dg15 (k + 2) N x7 h hh ll hN h0 h1 h2 h3]
  rw [dg16 (k + 1) N x7 h hh ll hN h0 h1 h2 h3]
  rw [dg17 k N x7 h hh ll hN h0 h1 h2 h3]
  rw [Int.ediv_one]
theorem mean_last (k : Nat) (N x7 hh ll : Int) (h0 : 0 ≤ N) (h3 : N ≤ 2000000000000000000) :
    foolscapref03_Mean.l0 (k + 3) 2 x7 (N / 2) (N % 2) 0 hh ll = some (if hh < 0 then -((meanN N.toNat 2 : Nat) : Int) else ((meanN N.toNat 2 : Nat) : Int), 0) := by
  have hM : ∀ (k : Nat) (M : Int), 0 ≤ M → M ≤ 1000000000000000000 → foolscapref03_Mean.j3 (k + 1) M hh ll = some (if hh < 0 then -M else M, 0) := by
    intro k M hM0 hM1
    rw [foolscapref03_Mean.j3, if_neg (by omega)]
    have w : wrap64 (-M) = -M := by unfold wrap64; omega
    split
    · rw [w]
    · rfl
  obtain ⟨n, rfl⟩ := Int.eq_ofNat_of_zero_le h0
  rw [Int.toNat_natCast, foolscapref03_Mean.l0, if_neg (by omega)]
  have wh : wrap64 (2 - ((n : Int) % 2)) = 2 - (n : Int) % 2 := by unfold wrap64; omega
  rw [wh, if_neg (show ¬ (n : Int) % 2 > 2 - (n : Int) % 2 by omega)]
  unfold meanN
  by_cases c : n % 2 = 1
  · rw [if_pos (show (n : Int) % 2 = 2 - (n : Int) % 2 by omega)]
    have et : Int.tmod ((n : Int) / 2) 2 = ((n / 2 % 2 : Nat) : Int) := by
      rw [Int.tmod_eq_emod_of_nonneg (by omega)]; omega
    rw [et]
    by_cases c2 : n / 2 % 2 = 1
    · have en : (if n % 2 > 2 - n % 2 ∨ (n % 2 = 2 - n % 2 ∧ n / 2 % 2 = 1) then n / 2 + 1 else n / 2) = n / 2 + 1 := if_pos (Or.inr ⟨by omega, c2⟩)
      rw [en, c2, foolscapref03_Mean.j2, if_pos (by decide)]
      have w : wrap64 ((n : Int) / 2 + 1) = ((n / 2 + 1 : Nat) : Int) := by unfold wrap64; omega
      rw [w]
      exact hM k ((n / 2 + 1 : Nat) : Int) (by omega) (by omega)
    · have c3 : n / 2 % 2 = 0 := by omega
      have en : (if n % 2 > 2 - n % 2 ∨ (n % 2 = 2 - n % 2 ∧ n / 2 % 2 = 1) then n / 2 + 1 else n / 2) = n / 2 := if_neg (by omega)
      rw [en, c3, foolscapref03_Mean.j2, if_neg (by decide), show (n : Int) / 2 = ((n / 2 : Nat) : Int) by omega]
      exact hM k ((n / 2 : Nat) : Int) (by omega) (by omega)
  · have en : (if n % 2 > 2 - n % 2 ∨ (n % 2 = 2 - n % 2 ∧ n / 2 % 2 = 1) then n / 2 + 1 else n / 2) = n / 2 := if_neg (by omega)
    rw [en, if_neg (show ¬ (n : Int) % 2 = 2 - (n : Int) % 2 by omega), foolscapref03_Mean.j2, if_neg (by decide), show (n : Int) / 2 = ((n / 2 : Nat) : Int) by omega]
    exact hM k ((n / 2 : Nat) : Int) (by omega) (by omega)
theorem rmean_two (s : Int) (h0 : -2000000000000000000 ≤ s) (h1 : s ≤ 2000000000000000000) (k : Nat) (hk : 40 ≤ k) : foolscapref03_Mean.f k (hiW s) (loW s) 2 = some (meanV s 2, 0) := by
  obtain ⟨k, rfl⟩ : ∃ q, k = q + 3 + 18 + 1 := ⟨k - 22, by omega⟩
  unfold foolscapref03_Mean.f
  rw [right_eq, Option.bind_some, if_pos (decide_eq_true (right_rep s (by unfold inW; omega))), if_neg (by decide), decide_eq_false (by decide), foolscapref03_Mean.j0, if_neg (by decide)]
  have e : hiW s * 1000000000000000000 + loW s = s := by unfold hiW loW; omega
  have key : ∀ a b : Int, foolscapref03_size.f (hiW s) (loW s) = some (a, b) → 0 ≤ a → a ≤ 2 → 0 ≤ b → b < 1000000000000000000 → (s.natAbs : Int) = a * 1000000000000000000 + b →
      ((foolscapref03_size.f (hiW s) (loW s)).bind fun bt128 => (if (2 : Int) = 0 then (none) else (if (wrap64 (Int.tdiv bt128.1 2)) > 1 then (some (0, 3)) else (foolscapref03_Mean.l0 (k + 3 + 18) 2 bt128.2 (wrap64 (Int.tdiv bt128.1 2)) (Int.tmod bt128.1 2) 100000000000000000 (hiW s) (loW s))))) = some (meanV s 2, 0) := by
    intro a b es ha ha2 hb hb2 hn
    rw [es, Option.bind_some, if_neg (by decide)]
    have t1 : wrap64 (Int.tdiv a 2) = a / 2 := by rw [Int.tdiv_eq_ediv_of_nonneg ha]; unfold wrap64; omega
    have t2 : Int.tmod a 2 = a % 2 := by rw [Int.tmod_eq_emod_of_nonneg ha]
    simp only [t1, t2]
    rw [if_neg (by omega), digits (k + 3) (s.natAbs : Int) b a (hiW s) (loW s) hn hb hb2 ha (by omega), mean_last k _ b _ _ (by omega) (by omega), Int.toNat_natCast]
    unfold meanV
    by_cases c : s < 0
    · rw [if_pos c, if_pos (by unfold hiW; omega)]
    · rw [if_neg c, if_neg (by unfold hiW; omega)]
  by_cases c : hiW s ≥ 0
  · exact key (hiW s) (loW s) (by unfold foolscapref03_size.f; rw [if_pos c]) c (by unfold hiW; omega) (by unfold loW; omega) (by unfold loW; omega) (by unfold hiW loW at *; omega)
  · by_cases c2 : loW s = 0
    · have w : wrap64 (-hiW s) = -hiW s := by unfold hiW wrap64; omega
      exact key (-hiW s) 0 (by unfold foolscapref03_size.f; rw [if_neg c, if_pos c2, w]) (by omega) (by unfold hiW; omega) (by omega) (by omega) (by unfold hiW loW at *; omega)
    · have w : wrap64 (-hiW s) = -hiW s := by unfold hiW wrap64; omega
      have w2 : wrap64 (-hiW s - 1) = -hiW s - 1 := by unfold hiW wrap64; omega
      have w3 : wrap64 (1000000000000000000 - loW s) = 1000000000000000000 - loW s := by unfold loW wrap64; omega
      exact key (-hiW s - 1) (1000000000000000000 - loW s) (by unfold foolscapref03_size.f; rw [if_neg c, if_neg c2, w, w2, w3]) (by omega) (by unfold hiW; omega) (by unfold loW; omega) (by unfold loW at *; omega) (by unfold hiW loW at *; omega)
theorem ravg_two (a b : Int) (ha : fits a) (hb : fits b) (k : Nat) (hk : 60 ≤ k) : foolscapref16_Mean.f k [a, b] = some (meanV (a + b) 2, 0) := by
  have hg : good [a, b] := ⟨by simp, fun x hx => by
    rcases List.mem_cons.mp hx with e | e
    · rw [e]; exact ha
    · rw [List.mem_singleton.mp e]; exact hb⟩
  unfold foolscapref16_Mean.f
  rw [rgood_eq _ k (by simp; omega), Option.bind_some, if_pos (decide_eq_true hg), if_neg (by simp), rtotal_good _ hg k (by simp; omega), Option.bind_some]
  have es : [a, b].sum = a + b := by simp
  have el : (([a, b] : List Int).length : Int) = 2 := by simp
  rw [es, el, rmean_two (a + b) (by unfold fits at *; omega) (by unfold fits at *; omega) k (by omega)]
  rfl

/-! ### ends, midst, the most frequent -/
theorem rleast_x (l : List Int) {r : Int × Int} (h : some (leN l) = some r) : ∃ k, foolscapref16_Least.f k l = some r := by
  rw [← h]
  unfold leN
  by_cases hg : good l
  · obtain ⟨k, s, hk, e, hu, hp⟩ := rise_at l hg.1
    have hs := hp.length_eq
    refine ⟨k, ?_⟩
    unfold foolscapref16_Least.f
    rw [rgood_eq l k (by omega), Option.bind_some, if_pos (decide_eq_true hg), if_pos hg]
    by_cases c : l.length = 0
    · rw [if_pos (by omega), if_pos c]
    · rw [if_neg (by omega), if_neg c, e, Option.bind_some, if_pos (by omega), show (0 : Int) = ((0 : Nat) : Int) from rfl, rd_nat, kthN_up hu hp _ (by omega)]
  · refine ⟨l.length + 1, ?_⟩
    unfold foolscapref16_Least.f
    rw [rgood_eq l _ (Nat.le_refl _), Option.bind_some, if_neg (by simpa using hg), if_neg hg]
theorem rgreat_x (l : List Int) {r : Int × Int} (h : some (grN l) = some r) : ∃ k, foolscapref16_Greatest.f k l = some r := by
  rw [← h]
  unfold grN
  by_cases hg : good l
  · obtain ⟨k, s, hk, e, hu, hp⟩ := rise_at l hg.1
    have hs := hp.length_eq
    have hl := hg.1
    refine ⟨k, ?_⟩
    unfold foolscapref16_Greatest.f
    rw [rgood_eq l k (by omega), Option.bind_some, if_pos (decide_eq_true hg), if_pos hg]
    by_cases c : l.length = 0
    · rw [if_pos (by omega), if_pos c]
    · have w : wrap64 ((l.length : Int) - 1) = ((l.length - 1 : Nat) : Int) := by unfold wrap64; omega
      rw [if_neg (by omega), if_neg c, e, Option.bind_some, w, if_pos (by omega), if_pos (by omega), rd_nat, kthN_up hu hp _ (by omega)]
  · refine ⟨l.length + 1, ?_⟩
    unfold foolscapref16_Greatest.f
    rw [rgood_eq l _ (Nat.le_refl _), Option.bind_some, if_neg (by simpa using hg), if_neg hg]
theorem rmed_x (l : List Int) {r : Int × Int} (h : some (medN l) = some r) : ∃ k, foolscapref16_Median.f k l = some r := by
  rw [← h]
  unfold medN
  by_cases hg : good l
  · obtain ⟨k0, s, hk0, e0, hu, hp⟩ := rise_at l hg.1
    have e : foolscapref16_Rising.f (k0 + 60) l = some s := at_rounds (g := fun k => foolscapref16_Rising.f k l) (foolscapref16_Rising.mono l) (Nat.le_add_right _ _) e0
    have hs := hp.length_eq
    have hl := hg.1
    refine ⟨k0 + 60 + 1, ?_⟩
    unfold foolscapref16_Median.f
    rw [rgood_eq l _ (by omega), Option.bind_some, if_pos (decide_eq_true hg)]
    by_cases c : l.length = 0
    · rw [if_neg (show ¬ (good l ∧ l.length ≠ 0) from fun z => z.2 c), foolscapref16_Median.j0, if_pos (by simp [c])]
    · have w : wrap64 ((l.length : Int) / 2) = ((l.length / 2 : Nat) : Int) := by unfold wrap64; omega
      rw [if_pos (show good l ∧ l.length ≠ 0 from ⟨hg, c⟩), foolscapref16_Median.j0, if_neg (by simpa using c), e, Option.bind_some, w]
      by_cases c2 : l.length % 2 = 1
      · rw [if_pos (by omega), if_pos c2, if_pos (by omega), if_pos (by omega), rd_nat, kthN_up hu hp _ (by omega)]
      · have w2 : wrap64 (((l.length / 2 : Nat) : Int) - 1) = ((l.length / 2 - 1 : Nat) : Int) := by unfold wrap64; omega
        rw [if_neg (by omega), if_neg c2, w2, if_pos (by omega), if_pos (by omega), if_pos (by omega), if_pos (by omega), rd_nat, rd_nat, kthN_up hu hp _ (by omega), kthN_up hu hp _ (by omega)]
        have m1 := (kth_is l (l.length / 2 - 1) (by omega) (by omega)).mem
        have m2 := (kth_is l (l.length / 2) (by omega) (by omega)).mem
        rw [ravg_two _ _ (hg.2 _ m1) (hg.2 _ m2) _ (by omega), Option.bind_some]
  · refine ⟨l.length + 2, ?_⟩
    unfold foolscapref16_Median.f
    rw [rgood_eq l _ (by omega), Option.bind_some, if_neg (by simpa using hg), if_neg (show ¬ (good l ∧ l.length ≠ 0) from fun z => hg z.1), foolscapref16_Median.j0, if_pos rfl]
end Go.Proofs.Ytjhinakfoejpbaa.SR

/- The document's sum and mean, in plain numbers. No condition stands open. -/
namespace Go.Proofs.Ytjhinakfoejpbaa.SR
open Go.RowKit Go.Proofs.Ytjhinakfoejpbaa Go.Proofs.Ytjhinakfoejpbaa.PR Go.Proofs.Ytjhinakfoejpbaa.WPure Go.Proofs.Ytjhinakfoejpbaa.SN Go.Proofs.YtjhinakfoejpbaaW.PrintWords Go.Proofs.YtjhinakfoejpbaaW.PrintLast Go.Proofs.YtjhinakfoejpbaaW.PrintMore
theorem rtotal_eq (h l : Int) : foolscapref03_Total.f h l = some (totalW h l) := by
  unfold foolscapref03_Total.f
  simp only [right_eq, Option.bind_some]
  unfold totalW
  by_cases hr : right h l
  · rw [if_pos (by simpa using hr), if_pos hr]
    obtain ⟨a, b, c, d⟩ := hr
    by_cases hc : h < -1 ∨ 1 < h ∨ (h = 1 ∧ l ≠ 0)
    · rw [if_pos hc]
      repeat' split
      all_goals first | rfl | omega
    · rw [if_neg hc]
      have w : wrap64 (wrap64 (h * 1000000000000000000) + l) = h * 1000000000000000000 + l := by unfold wrap64; omega
      rw [w]
      repeat' split
      all_goals first | rfl | omega
  · rw [if_neg (by simpa using hr), if_neg hr]
--END
theorem rsum_x (l : List Int) {r : Int × Int} (h : some (sumN l) = some r) : ∃ k, foolscapref16_Sum.f k l = some r := by
  rw [← h]
  refine ⟨l.length + 40, ?_⟩
  unfold foolscapref16_Sum.f sumN
  rw [rgood_eq l _ (by omega), Option.bind_some]
  by_cases hg : good l
  · rw [if_pos (decide_eq_true hg), rtotal_good l hg _ (by omega), Option.bind_some, rtotal_eq, Option.bind_some, totalW_rep _ (inW_sum l hg)]
    by_cases c : fits l.sum
    · rw [if_pos c, if_pos (show good l ∧ fits l.sum from ⟨hg, c⟩)]
      rfl
    · rw [if_neg c, if_neg (show ¬ (good l ∧ fits l.sum) from fun z => c z.2)]
      rfl
  · rw [if_neg (by simpa using hg), if_neg (fun z => hg z.1)]
/-! ### the mean, digit by digit -/
def pw (j : Nat) : Nat := if j = 0 then 0 else 10 ^ (j - 1)
theorem pw_succ (j : Nat) : pw (j + 1) = 10 ^ j := by unfold pw; rw [if_neg (by omega), Nat.add_sub_cancel]
theorem pw_half (j : Nat) : 10 ^ j / 10 = pw j := by
  cases j with
  | zero => rfl
  | succ j => rw [pw_succ, Nat.pow_succ, Nat.mul_div_cancel _ (by decide)]
theorem digit_of (h b j : Nat) (hj : j < 18) : (h * 10 ^ 18 + b) / 10 ^ j % 10 = b / 10 ^ j % 10 := by
  have e : h * 10 ^ 18 + b = b + 10 ^ j * (10 * (h * 10 ^ (17 - j))) := by
    have e2 : (10 : Nat) ^ 18 = 10 ^ j * (10 * 10 ^ (17 - j)) := by
      rw [Nat.mul_comm 10 (10 ^ (17 - j)), ← Nat.pow_succ, ← Nat.pow_add]
      congr 1
      omega
    rw [e2]
    rw [Nat.add_comm]
    congr 1
    rw [Nat.mul_left_comm, Nat.mul_left_comm h 10]
  rw [e, Nat.add_mul_div_left _ _ (Nat.pow_pos (by decide)), Nat.add_mul_mod_self_left]
theorem next_of (N c j : Nat) (hc : 0 < c) (d : Nat) (hd : N / 10 ^ j % 10 = d) : 10 * (N / 10 ^ (j + 1) / c) + (10 * (N / 10 ^ (j + 1) % c) + d) / c = N / 10 ^ j / c ∧ (10 * (N / 10 ^ (j + 1) % c) + d) % c = N / 10 ^ j % c := by
  have e1 : N / 10 ^ (j + 1) = N / 10 ^ j / 10 := by rw [Nat.pow_succ, Nat.div_div_eq_div_mul]
  rw [e1]
  generalize N / 10 ^ j = M at hd ⊢
  have e2 : M = 10 * (M / 10) + d := by omega
  generalize M / 10 = P at e2 ⊢
  subst e2
  have e3 : 10 * P + d = (10 * (P % c) + d) + c * (10 * (P / c)) := by
    have := Nat.div_add_mod P c
    generalize P / c = q at this ⊢
    generalize P % c = r at this ⊢
    subst this
    rw [Nat.mul_add, Nat.mul_left_comm 10 c q]
    omega
  constructor
  · conv => rhs; rw [e3, Nat.add_mul_div_left _ _ hc]
    omega
  · conv => rhs; rw [e3, Nat.add_mul_mod_self_left]
theorem wn {n : Nat} (h : n ≤ 4611686018427387904) : wrap64 (n : Int) = (n : Int) := by unfold wrap64; omega
theorem td (a b : Nat) : Int.tdiv (a : Int) (b : Int) = ((a / b : Nat) : Int) := by rw [Int.tdiv_eq_ediv_of_nonneg (Int.natCast_nonneg a), Int.natCast_ediv]
theorem tm (a b : Nat) : Int.tmod (a : Int) (b : Int) = ((a % b : Nat) : Int) := by rw [Int.tmod_eq_emod_of_nonneg (Int.natCast_nonneg a), Int.natCast_emod]
theorem ten (n : Nat) : (10 : Int) * (n : Int) = ((10 * n : Nat) : Int) := (Int.natCast_mul 10 n).symm
theorem plus (a b : Nat) : (a : Int) + (b : Int) = ((a + b : Nat) : Int) := (Int.natCast_add a b).symm
theorem mean_step (k c b p Q R q2 r2 pn d : Nat) (hh ll : Int) (hc : 0 < c) (hp : 0 < p) (e1 : b / p ≤ 4611686018427387904) (hd : b / p % 10 = d) (e2 : 10 * R ≤ 4611686018427387904) (e3 : 10 * R + d ≤ 4611686018427387904) (e4 : (10 * R + d) / c ≤ 4611686018427387904) (e5 : 10 * Q ≤ 4611686018427387904) (h1 : 10 * Q + (10 * R + d) / c = q2) (h2 : (10 * R + d) % c = r2) (hq : q2 ≤ 4611686018427387904) (hpn : p / 10 = pn) (e6 : pn ≤ 4611686018427387904) :
    foolscapref03_Mean.l0 (k + 1) (c : Int) (b : Int) (Q : Int) (R : Int) (p : Int) hh ll = foolscapref03_Mean.l0 k (c : Int) (b : Int) (q2 : Int) (r2 : Int) (pn : Int) hh ll := by
  have hp1 : (p : Int) > 0 := Int.natCast_pos.2 hp
  have hp2 : ¬ (p : Int) = 0 := fun e => by rw [e] at hp1; exact absurd hp1 (by decide)
  have hc2 : ¬ (c : Int) = 0 := fun e => by have h := Int.natCast_pos.2 hc; rw [e] at h; exact absurd h (by decide)
  have t2 : Int.tmod ((b / p : Nat) : Int) 10 = ((d : Nat) : Int) := by rw [← hd]; exact tm (b / p) 10
  have t9 : Int.tdiv (p : Int) 10 = (pn : Int) := by rw [← hpn]; exact td p 10
  rw [foolscapref03_Mean.l0, if_pos hp1, if_neg hp2, if_neg hc2, td b p, wn e1, t2, ten R, wn e2, plus, wn e3, td, wn e4, ten Q, wn e5, plus, h1, wn hq, tm, h2, t9, wn e6]
theorem q_le {N c p : Nat} (hc : 0 < c) (hp : 0 < p) (hN : N ≤ c * 1000000000000000000) : N / p / c ≤ 1000000000000000000 := by
  rw [Nat.div_div_eq_div_mul, Nat.mul_comm p c, ← Nat.div_div_eq_div_mul]
  refine Nat.le_trans (Nat.div_le_self _ _) ?_
  exact Nat.div_le_of_le_mul hN
theorem mean_digits (N b c : Nat) (hc : 0 < c) (hc2 : c ≤ 4096) (hN : N ≤ c * 1000000000000000000) (hb : b ≤ 1000000000000000000) (hD : ∀ j, j < 18 → N / 10 ^ j % 10 = b / 10 ^ j % 10) (hh ll : Int) : ∀ j, j ≤ 18 → ∀ k,
    foolscapref03_Mean.l0 (k + j) (c : Int) (b : Int) ((N / 10 ^ j / c : Nat) : Int) ((N / 10 ^ j % c : Nat) : Int) ((pw j : Nat) : Int) hh ll = foolscapref03_Mean.l0 k (c : Int) (b : Int) ((N / c : Nat) : Int) ((N % c : Nat) : Int) 0 hh ll
  | 0, _, k => by simp [pw]
  | j + 1, hj, k => by
    have ih := mean_digits N b c hc hc2 hN hb hD hh ll j (by omega) k
    have hp : 0 < (10 : Nat) ^ j := Nat.pow_pos (by decide)
    have hd := hD j (by omega)
    obtain ⟨n1, n2⟩ := next_of N c j hc (b / 10 ^ j % 10) hd
    have hq := q_le hc hp hN
    have hr : N / 10 ^ (j + 1) % c < c := Nat.mod_lt _ hc
    have hdd : b / 10 ^ j % 10 < 10 := Nat.mod_lt _ (by decide)
    have hbj : b / 10 ^ j ≤ b := Nat.div_le_self _ _
    have hpj : (10 : Nat) ^ j ≤ 100000000000000000 := Nat.le_trans (Nat.pow_le_pow_right (by decide) (show j ≤ 17 by omega)) (by decide)
    have hpw : pw j ≤ 100000000000000000 := by rw [← pw_half]; exact Nat.le_trans (Nat.div_le_self _ _) hpj
    rw [pw_succ, show k + (j + 1) = (k + j) + 1 by omega]
    refine (mean_step (k + j) c b (10 ^ j) _ _ _ _ (pw j) _ hh ll hc hp (Nat.le_trans hbj (Nat.le_trans hb (by decide))) rfl ?_ ?_ ?_ ?_ n1 n2 ?_ (pw_half j) (Nat.le_trans hpw (by decide))).trans ih
    · generalize N / 10 ^ (j + 1) % c = R at hr
      clear ih n1 n2 hq hD hN hd hdd hbj hpj hpw hp
      omega
    · generalize N / 10 ^ (j + 1) % c = R at hr ⊢
      generalize b / 10 ^ j % 10 = d at hdd ⊢
      clear ih n1 n2 hq hD hN hd hbj hpj hpw hp
      omega
    · refine Nat.le_trans (Nat.div_le_self _ _) ?_
      generalize N / 10 ^ (j + 1) % c = R at hr ⊢
      generalize b / 10 ^ j % 10 = d at hdd ⊢
      clear ih n1 n2 hq hD hN hd hbj hpj hpw hp
      omega
    · refine Nat.le_trans (Nat.le_trans (Nat.le_add_right _ _) (Nat.le_of_eq n1)) (Nat.le_trans hq (by decide))
    · exact Nat.le_trans hq (by decide)
theorem last_j3 (k M : Nat) (hh ll : Int) (hM : M ≤ 1000000000000000000) : foolscapref03_Mean.j3 (k + 1) (M : Int) hh ll = some (if hh < 0 then -((M : Nat) : Int) else ((M : Nat) : Int), 0) := by
  rw [foolscapref03_Mean.j3, if_neg (by omega)]
  have w : wrap64 (-(M : Int)) = -(M : Int) := by unfold wrap64; omega
  split
  · rw [w]
  · rfl
theorem last_j2 (k q : Nat) (up : Bool) (hh ll : Int) (hM : (if up = true then q + 1 else q) ≤ 1000000000000000000) : foolscapref03_Mean.j2 (k + 2) (q : Int) up hh ll = some (if hh < 0 then -(((if up = true then q + 1 else q : Nat)) : Int) else (((if up = true then q + 1 else q : Nat)) : Int), 0) := by
  rw [foolscapref03_Mean.j2]
  cases up with
  | false =>
    rw [if_neg (by decide : ¬ (false = true))] at hM
    rw [if_neg (by decide : ¬ (false = true)), last_j3 k q hh ll hM]
    rfl
  | true =>
    rw [if_pos rfl] at hM
    have w : wrap64 ((q : Int) + 1) = ((q + 1 : Nat) : Int) := by unfold wrap64; omega
    rw [if_pos rfl, w, last_j3 k (q + 1) hh ll hM]
    rfl
theorem mean_end (k c b q r : Nat) (hh ll : Int) (hc : 0 < c) (hc2 : c ≤ 4096) (hr : r < c) (up : Bool) (hup : up = decide (r > c - r ∨ (r = c - r ∧ q % 2 = 1))) (hM : (if up = true then q + 1 else q) ≤ 1000000000000000000) :
    foolscapref03_Mean.l0 (k + 3) (c : Int) (b : Int) (q : Int) (r : Int) 0 hh ll = some (if hh < 0 then -(((if up = true then q + 1 else q : Nat)) : Int) else (((if up = true then q + 1 else q : Nat)) : Int), 0) := by
  rw [foolscapref03_Mean.l0, if_neg (by decide)]
  have w : wrap64 ((c : Int) - (r : Int)) = ((c - r : Nat) : Int) := by unfold wrap64; omega
  rw [w]
  by_cases h1 : r > c - r
  · have e : up = true := by rw [hup]; exact decide_eq_true (.inl h1)
    rw [if_pos (by omega), ← last_j2 k q up hh ll hM, e]
  · rw [if_neg (by omega)]
    by_cases h2 : r = c - r
    · rw [if_pos (by omega)]
      have e : (Int.tmod (q : Int) 2 == 1) = up := by
        rw [hup, show Int.tmod (q : Int) 2 = ((q % 2 : Nat) : Int) from tm q 2]
        rw [Bool.eq_iff_iff, decide_eq_true_iff, beq_iff_eq]
        omega
      rw [e, last_j2 k q up hh ll hM]
    · rw [if_neg (by omega)]
      have e : up = false := by rw [hup]; exact decide_eq_false (by omega)
      rw [← last_j2 k q up hh ll hM, e]
theorem mean_nat (N c : Nat) : meanN N c = if (decide (N % c > c - N % c ∨ (N % c = c - N % c ∧ N / c % 2 = 1))) = true then N / c + 1 else N / c := by
  unfold meanN
  by_cases h : N % c > c - N % c ∨ (N % c = c - N % c ∧ N / c % 2 = 1)
  · rw [if_pos h, if_pos (decide_eq_true h)]
  · rw [if_neg h, if_neg (by rw [decide_eq_true_iff]; exact h)]
theorem mean_all (a b c : Nat) (hh ll : Int) (hc : 0 < c) (hc2 : c ≤ 4096) (hb : b < 1000000000000000000) (hN : a * 1000000000000000000 + b ≤ c * 1000000000000000000) (k : Nat) :
    foolscapref03_Mean.l0 (k + 3 + 18) (c : Int) (b : Int) ((a / c : Nat) : Int) ((a % c : Nat) : Int) 100000000000000000 hh ll = some (if hh < 0 then -((meanN (a * 1000000000000000000 + b) c : Nat) : Int) else ((meanN (a * 1000000000000000000 + b) c : Nat) : Int), 0) := by
  have e0 : (a * 1000000000000000000 + b) / 10 ^ 18 = a := by
    have : (10 : Nat) ^ 18 = 1000000000000000000 := by decide
    rw [this]
    omega
  have hD : ∀ j, j < 18 → (a * 1000000000000000000 + b) / 10 ^ j % 10 = b / 10 ^ j % 10 := fun j hj => digit_of a b j hj
  have hm := meanN_le (a * 1000000000000000000 + b) c hc hN
  generalize hNN : a * 1000000000000000000 + b = N at hN e0 hD hm ⊢
  have h := mean_digits N b c hc hc2 hN (Nat.le_of_lt hb) hD hh ll 18 (Nat.le_refl _) (k + 3)
  rw [e0] at h
  have hp : ((pw 18 : Nat) : Int) = 100000000000000000 := by decide
  rw [hp] at h
  rw [h]
  have hr : N % c < c := Nat.mod_lt _ hc
  rw [mean_nat] at hm ⊢
  exact mean_end k c b (N / c) (N % c) hh ll hc hc2 hr _ rfl hm
theorem rmean (s : Int) (c : Nat) (hc : 0 < c) (hc2 : c ≤ 4096) (h0 : -((c : Int) * 1000000000000000000) ≤ s) (h1 : s ≤ (c : Int) * 1000000000000000000) (k : Nat) : foolscapref03_Mean.f (k + 3 + 18 + 1) (hiW s) (loW s) (c : Int) = some (meanV s c, 0) := by
  unfold foolscapref03_Mean.f
  have hin : inW s := by unfold inW; omega
  have e : hiW s * 1000000000000000000 + loW s = s := by unfold hiW loW; omega
  have hl0 : 0 ≤ loW s ∧ loW s < 1000000000000000000 := by unfold loW; omega
  rw [right_eq, Option.bind_some, if_pos (decide_eq_true (right_rep s hin)), if_neg (by omega), decide_eq_false (by omega), foolscapref03_Mean.j0, if_neg (by decide)]
  have key : ∀ a b : Nat, foolscapref03_size.f (hiW s) (loW s) = some ((a : Int), (b : Int)) → b < 1000000000000000000 → s.natAbs = a * 1000000000000000000 + b →
      ((foolscapref03_size.f (hiW s) (loW s)).bind fun bt130 => (if (c : Int) = 0 then (none) else (if (wrap64 (Int.tdiv bt130.1 (c : Int))) > 1 then (some (0, 3)) else (foolscapref03_Mean.l0 (k + 3 + 18) (c : Int) bt130.2 (wrap64 (Int.tdiv bt130.1 (c : Int))) (Int.tmod bt130.1 (c : Int)) 100000000000000000 (hiW s) (loW s))))) = some (meanV s c, 0) := by
    intro a b es hb hn
    have hN : a * 1000000000000000000 + b ≤ c * 1000000000000000000 := by omega
    have ha : a ≤ c := by omega
    have hac : a / c ≤ 1 := Nat.div_le_of_le_mul (by omega)
    rw [es, Option.bind_some, if_neg (by omega)]
    show (if (wrap64 (Int.tdiv (a : Int) (c : Int))) > 1 then (some (0, 3)) else (foolscapref03_Mean.l0 (k + 3 + 18) (c : Int) (b : Int) (wrap64 (Int.tdiv (a : Int) (c : Int))) (Int.tmod (a : Int) (c : Int)) 100000000000000000 (hiW s) (loW s))) = _
    rw [td, wn (Nat.le_trans hac (by decide)), tm, if_neg (by omega), mean_all a b c (hiW s) (loW s) hc hc2 hb hN k, ← hn]
    unfold meanV
    by_cases q : s < 0
    · rw [if_pos q, if_pos (by unfold hiW; omega)]
    · rw [if_neg q, if_neg (by unfold hiW; omega)]
  have hup : hiW s ≤ 4096 ∧ -4097 ≤ hiW s := by unfold hiW; omega
  generalize hH : hiW s = H at e hup key ⊢
  generalize hL : loW s = L at e hl0 key ⊢
  by_cases q : H ≥ 0
  · obtain ⟨a, rfl⟩ := Int.eq_ofNat_of_zero_le q
    obtain ⟨b, rfl⟩ := Int.eq_ofNat_of_zero_le hl0.1
    exact key a b (by unfold foolscapref03_size.f; rw [if_pos q]) (by omega) (by omega)
  · by_cases q2 : L = 0
    · have w : wrap64 (-H) = -H := by unfold wrap64; omega
      obtain ⟨a, ha⟩ := Int.eq_ofNat_of_zero_le (show 0 ≤ -H by omega)
      exact key a 0 (by unfold foolscapref03_size.f; rw [if_neg q, if_pos q2, w, ha]; rfl) (by decide) (by omega)
    · have w : wrap64 (-H) = -H := by unfold wrap64; omega
      have w2 : wrap64 (-H - 1) = -H - 1 := by unfold wrap64; omega
      have w3 : wrap64 (1000000000000000000 - L) = 1000000000000000000 - L := by unfold wrap64; omega
      obtain ⟨a, ha⟩ := Int.eq_ofNat_of_zero_le (show 0 ≤ -H - 1 by omega)
      obtain ⟨b, hb⟩ := Int.eq_ofNat_of_zero_le (show 0 ≤ 1000000000000000000 - L by omega)
      exact key a b (by unfold foolscapref03_size.f; rw [if_neg q, if_neg q2, w, w2, w3, ha, hb]) (by omega) (by omega)
theorem ravg_x (l : List Int) {r : Int × Int} (h : some (avgN l) = some r) : ∃ k, foolscapref16_Mean.f k l = some r := by
  rw [← h]
  refine ⟨l.length + 3 + 18 + 1, ?_⟩
  unfold foolscapref16_Mean.f avgN
  rw [rgood_eq l _ (by omega), Option.bind_some]
  by_cases hg : good l
  · rw [if_pos (decide_eq_true hg), if_pos hg]
    by_cases c : l.length = 0
    · rw [if_pos (by omega), if_pos c]
    · have hs := sum_le l hg.2
      rw [if_neg (by omega), if_neg c, rtotal_good l hg _ (by omega), Option.bind_some, rmean l.sum l.length (by omega) hg.1 (by omega) (by omega) l.length]
      rfl
  · rw [if_neg (by simpa using hg), if_neg hg]
end Go.Proofs.Ytjhinakfoejpbaa.SR
