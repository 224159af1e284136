/- What the document's answers of chapter 16 come to, in plain numbers. -/
import Derived.Test.YtnmiagcjfbdfkaaGPure
import Derived.Test.YtnmiagcjfbdfkaaPVx
set_option linter.unusedVariables false
set_option linter.unusedSimpArgs false
namespace Go.Proofs.Ytnmiagcjfbdfkaa.SV
open Go.RowKit Go.Proofs.Ytnmiagcjfbdfkaa Go.Proofs.Ytnmiagcjfbdfkaa.PV Go.Proofs.Ytnmiagcjfbdfkaa.WPure Go.Proofs.Ytnmiagcjfbdfkaa.SA Go.Proofs.Ytnmiagcjfbdfkaa.SB Go.Proofs.Ytnmiagcjfbdfkaa.SC Go.Proofs.Ytnmiagcjfbdfkaa.SD Go.Proofs.YtnmiagcjfbdfkaaW.PrintWords Go.Proofs.YtnmiagcjfbdfkaaW.PrintLast Go.Proofs.YtnmiagcjfbdfkaaW.PrintMore

theorem rfits_eq (n : Int) : foolscapref01_Fits.f n = some (decide (fits n)) := by
  unfold foolscapref01_Fits.f fits
  split
  · congr 1; rw [decide_eq_decide]; omega
  · congr 1; symm; rw [decide_eq_false_iff_not]; omega
theorem rgood_l0 (l : List Int) (hl : l.length ≤ 4096) : ∀ n k i, i + n = l.length → n + 1 ≤ k → foolscapref16_good.l0 k l (i : Int) = some (decide (∀ x ∈ l.drop i, fits x)) := by
  intro n
  induction n with
  | zero =>
    intro k i hi hk
    obtain ⟨k, rfl⟩ : ∃ q, k = q + 1 := ⟨k - 1, by omega⟩
    rw [foolscapref16_good.l0, if_neg (by omega), List.drop_eq_nil_of_le (by omega)]
    simp
  | succ n ih =>
    intro k i hi hk
    obtain ⟨k, rfl⟩ : ∃ q, k = q + 1 := ⟨k - 1, by omega⟩
    rw [foolscapref16_good.l0, if_pos (by omega), if_pos (by omega), rd_nat, rfits_eq, Option.bind_some, drop_cons l i (by omega)]
    by_cases c : fits (l.getD i 0)
    · rw [if_pos (decide_eq_true c), w1 i (by omega), ih k (i + 1) (by omega) (by omega)]
      congr 1; rw [decide_eq_decide]; simp only [List.mem_cons, forall_eq_or_imp]
      exact ⟨fun z => ⟨c, z⟩, fun z => z.2⟩
    · rw [decide_eq_false c, if_neg (by decide), decide_eq_false (fun z => c (z _ List.mem_cons_self))]
theorem rgood_eq (l : List Int) (k : Nat) (hk : l.length + 1 ≤ k) : foolscapref16_good.f k l = some (decide (good l)) := by
  unfold foolscapref16_good.f
  by_cases c : l.length ≤ 4096
  · rw [if_neg (by omega)]
    have := rgood_l0 l c l.length k 0 (by omega) hk
    rw [List.drop_zero] at this
    rw [show (0 : Int) = ((0 : Nat) : Int) from rfl, this]
    congr 1; rw [decide_eq_decide]; exact ⟨fun z => ⟨c, z⟩, fun z => z.2⟩
  · rw [if_pos (by omega), decide_eq_false (fun z => c z.1)]

/-! ### numbers in order -/
abbrev Up (l : List Int) : Prop := l.Pairwise (· ≤ ·)
theorem get_mid (a : List Int) (h : Int) (b : List Int) : (a ++ h :: b).getD a.length 0 = h := by
  rw [List.getD, List.getElem?_append_right (Nat.le_refl _), Nat.sub_self]; rfl
theorem set_mid (a : List Int) (h v : Int) (b : List Int) : (a ++ h :: b).set a.length v = a ++ v :: b := by
  rw [List.set_append_right _ _ (Nat.le_refl _), Nat.sub_self]; rfl
theorem ins (x0 : List Int) (i : Nat) (hi : i < x0.length) (hl : x0.length ≤ 4096) : ∀ n (a : List Int) (h : Int) (b : List Int), a.length = n → n + b.length ≤ 4096 → Up (a ++ b) → (∀ z ∈ b, x0.getD i 0 < z) →
    ∃ c res, (∀ j, foolscapref16_Rising.l1 (c + j) x0 (a ++ h :: b) (i : Int) (a.length : Int) = foolscapref16_Rising.l0 j x0 res ((i + 1 : Nat) : Int)) ∧ Up res ∧ res.Perm (a ++ x0.getD i 0 :: b) := by
  intro n
  induction n with
  | zero =>
    intro a h b ha hb hu hz
    have e : a = [] := List.length_eq_zero_iff.mp ha
    subst e
    refine ⟨1, x0.getD i 0 :: b, fun j => ?_, ?_, List.Perm.refl _⟩
    · rw [Nat.add_comm, foolscapref16_Rising.l1, if_neg (by simp), if_pos (by omega), if_pos (by omega), if_pos (by simp), if_pos (by simp), rd_nat, w1 i (by omega)]
      rfl
    · exact List.pairwise_cons.mpr ⟨fun z hz2 => Int.le_of_lt (hz z hz2), hu⟩
  | succ n ih =>
    intro a h b ha hb hu hz
    obtain ⟨a', d, rfl⟩ : ∃ a' d, a = a' ++ [d] := by
      rcases List.eq_nil_or_concat a with e | ⟨a', d, e⟩
      · subst e; simp at ha
      · exact ⟨a', d, by rw [e, List.concat_eq_append]⟩
    have ha' : a'.length = n := by rw [List.length_append, List.length_singleton] at ha; omega
    have eL : (a' ++ [d]).length = n + 1 := ha
    have w : wrap64 ((((n + 1 : Nat)) : Int) - 1) = (n : Int) := by unfold wrap64; omega
    have g : (a' ++ [d] ++ h :: b).getD n 0 = d := by
      rw [List.append_assoc, ← ha']; exact get_mid a' d _
    have lt : (a' ++ [d] ++ h :: b).length = n + 2 + b.length := by simp; omega
    by_cases c : d > x0.getD i 0
    · have su : Up (a' ++ d :: b) := by rw [show a' ++ d :: b = a' ++ [d] ++ b by simp]; exact hu
      have db : ∀ z ∈ d :: b, x0.getD i 0 < z := fun z hz2 => by
        rcases List.mem_cons.mp hz2 with e | e
        · rw [e]; exact c
        · exact hz z e
      obtain ⟨cc, res, h1, h2, h3⟩ := ih a' d (d :: b) ha' (by rw [List.length_cons]; omega) su db
      refine ⟨cc + 1, res, fun j => ?_, h2, h3.trans ?_⟩
      · rw [show cc + 1 + j = (cc + j) + 1 by omega, foolscapref16_Rising.l1, eL, if_pos (by omega), w, if_pos (by omega), if_pos (by omega), if_pos (by omega), if_pos (by omega), rd_nat, rd_nat, g, if_pos c, if_pos (by omega), if_pos (by omega), Int.toNat_natCast]
        rw [← eL, set_mid (a' ++ [d]) h d b, ← h1 j, ha', List.append_assoc]
        rfl
      · rw [List.append_assoc]
        exact List.Perm.append_left a' (List.Perm.swap d (x0.getD i 0) b)
    · refine ⟨1, a' ++ [d] ++ x0.getD i 0 :: b, fun j => ?_, ?_, List.Perm.refl _⟩
      · rw [Nat.add_comm, foolscapref16_Rising.l1, eL, if_pos (by omega), w, if_pos (by omega), if_pos (by omega), if_pos (by omega), if_pos (by omega), rd_nat, rd_nat, g, if_neg c, if_pos (by omega), if_pos (by omega), Int.toNat_natCast, w1 i (by omega)]
        rw [← eL, set_mid (a' ++ [d]) h _ b]
      · obtain ⟨p1, p2, p3⟩ := List.pairwise_append.mp hu
        refine List.pairwise_append.mpr ⟨p1, List.pairwise_cons.mpr ⟨fun z hz2 => Int.le_of_lt (hz z hz2), p2⟩, fun u hu2 z hz2 => ?_⟩
        rcases List.mem_cons.mp hz2 with e | e
        · rw [e]
          rcases List.mem_append.mp hu2 with q | q
          · have := (List.pairwise_append.mp p1).2.2 u q d (by simp)
            omega
          · rw [List.mem_singleton.mp q]; omega
        · exact p3 u hu2 z e
theorem rise_l0 (x0 : List Int) (hl : x0.length ≤ 4096) : ∀ n i (s : List Int), i + n = x0.length → s.length = i → Up s →
    ∃ k r, foolscapref16_Rising.l0 k x0 s (i : Int) = some r ∧ Up r ∧ r.Perm (s ++ x0.drop i) := by
  intro n
  induction n with
  | zero =>
    intro i s hi hs hu
    exact ⟨1, s, by rw [foolscapref16_Rising.l0, if_neg (by omega)], hu, by rw [List.drop_eq_nil_of_le (by omega), List.append_nil]⟩
  | succ n ih =>
    intro i s hi hs hu
    obtain ⟨c, res, h1, h2, h3⟩ := ins x0 i (by omega) hl s.length s 0 [] rfl (by simp; omega) (by rw [List.append_nil]; exact hu) (by simp)
    have hrl : res.length = i + 1 := by rw [h3.length_eq]; simp; omega
    obtain ⟨k, r, e, hu2, hp⟩ := ih (i + 1) res (by omega) hrl h2
    refine ⟨c + k + 1, r, ?_, hu2, hp.trans ?_⟩
    · rw [foolscapref16_Rising.l0, if_pos (by omega), if_pos (by omega)]
      rw [h1 k]; exact e
    · rw [drop_cons x0 i (by omega)]
      have := List.Perm.append_right (x0.drop (i + 1)) h3
      rw [List.append_assoc] at this
      exact this
theorem rise_eq (l : List Int) (hl : l.length ≤ 4096) : ∃ k r, foolscapref16_Rising.f k l = some r ∧ Up r ∧ r.Perm l := by
  obtain ⟨k, r, e, h1, h2⟩ := rise_l0 l hl l.length 0 [] (by omega) rfl List.Pairwise.nil
  exact ⟨k, r, e, h1, by simpa using h2⟩
theorem kth_up (r : List Int) (hu : Up r) (i : Nat) (h : i < r.length) : Kth r i (r.getD i 0) := by
  have e := List.take_append_drop i r
  have d := drop_cons r i h
  have hu2 : Up (r.take i ++ r.getD i 0 :: r.drop (i + 1)) := by rw [← d, e]; exact hu
  obtain ⟨p1, p2, p3⟩ := List.pairwise_append.mp hu2
  have p4 := (List.pairwise_cons.mp p2).1
  refine ⟨?_, ?_⟩
  · rw [count_split _ r i, count_zero (l := r.drop i) (fun z hz => by
      rw [d] at hz
      rcases List.mem_cons.mp hz with q | q
      · rw [q]; exact decide_eq_false (Int.lt_irrefl _)
      · have := p4 z q; exact decide_eq_false (by omega))]
    have : (r.take i).countP (· < r.getD i 0) ≤ (r.take i).length := List.countP_le_length
    rw [List.length_take] at this; omega
  · rw [count_split _ r i, count_len (l := r.take i) (fun z hz => decide_eq_true (p3 z hz (r.getD i 0) List.mem_cons_self)), List.length_take, d, List.countP_cons, if_pos (by simp)]
    omega
theorem kthN_up {l r : List Int} (hu : Up r) (hp : r.Perm l) (i : Nat) (h : i < l.length) : r.getD i 0 = kthN l i :=
  (kthN_eq ((kth_up r hu i (by rw [hp.length_eq]; exact h)).perm hp)).symm
/-- The numbers in order, with rounds enough for what else is asked. -/
theorem rise_at (l : List Int) (hl : l.length ≤ 4096) : ∃ k r, l.length + 10 ≤ k ∧ foolscapref16_Rising.f k l = some r ∧ Up r ∧ r.Perm l := by
  obtain ⟨k, r, e, h1, h2⟩ := rise_eq l hl
  exact ⟨k + (l.length + 10), r, by omega, at_rounds (g := fun k => foolscapref16_Rising.f k l) (foolscapref16_Rising.mono l) (Nat.le_add_right _ _) e, h1, h2⟩
--O
theorem often_l0 (l : List Int) (n : Int) (hl : l.length ≤ 4096) : ∀ m k i (c : Nat), i + m = l.length → m + 1 ≤ k → c ≤ i →
    foolscapref16_often.l0 k l n (c : Int) (i : Int) = some ((c + (l.drop i).count n : Nat) : Int) := by
  intro m
  induction m with
  | zero =>
    intro k i c hi hk hc
    obtain ⟨k, rfl⟩ : ∃ q, k = q + 1 := ⟨k - 1, by omega⟩
    rw [foolscapref16_often.l0, if_neg (by omega), List.drop_eq_nil_of_le (by omega), List.count_nil, Nat.add_zero]
  | succ m ih =>
    intro k i c hi hk hc
    obtain ⟨k, rfl⟩ : ∃ q, k = q + 1 := ⟨k - 1, by omega⟩
    rw [foolscapref16_often.l0, if_pos (by omega), if_pos (by omega), rd_nat, drop_cons l i (by omega), List.count_cons, w1 i (by omega)]
    by_cases e : l.getD i 0 = n
    · rw [if_pos e, w1 c (by omega), ih k (i + 1) (c + 1) (by omega) (by omega) (by omega), if_pos (by simpa using e)]
      congr 2; omega
    · rw [if_neg e, ih k (i + 1) c (by omega) (by omega) (by omega), if_neg (by simpa using e)]
      rfl
theorem often_eq (l : List Int) (n : Int) (hl : l.length ≤ 4096) (k : Nat) (hk : l.length + 1 ≤ k) : foolscapref16_often.f k l n = some ((l.count n : Nat) : Int) := by
  unfold foolscapref16_often.f
  have := often_l0 l n hl l.length k 0 0 (by omega) hk (by omega)
  rw [List.drop_zero, Nat.zero_add] at this
  exact this
theorem fits1_eq (n : Int) : foolscapref01_Fits.f n = some (decide (fits n)) := by
  unfold foolscapref01_Fits.f fits
  split
  · congr 1; rw [decide_eq_decide]; omega
  · congr 1; symm; rw [decide_eq_false_iff_not]; omega
theorem right_eq (h l : Int) : foolscapref03_Right.f h l = some (decide (right h l)) := by
  unfold foolscapref03_Right.f right
  repeat' split
  all_goals first | (congr 1; rw [decide_eq_decide]; omega) | (congr 1; symm; rw [decide_eq_false_iff_not]; omega)

theorem made1_eq (k : Nat) (h l : Int) (h0 : 0 ≤ l) (h1 : l ≤ 2000000000000000000) (h2 : -4294967296 ≤ h) (h3 : h ≤ 4294967296) (hk : 5 ≤ k) :
    foolscapref03_made.l1 k h l = some (madeW h l) := by
  obtain ⟨k, rfl⟩ : ∃ j, k = j + 3 := ⟨k - 3, by omega⟩
  have fin : ∀ j h' l', 0 ≤ l' → l' < 1000000000000000000 → h' = h + l / 1000000000000000000 → l' = l % 1000000000000000000 → foolscapref03_made.l1 (j + 1) h' l' = some (madeW h l) := by
    intro j h' l' a b e1 e2
    simp only [foolscapref03_made.l1, right_eq, Option.bind_some]
    rw [if_neg (by omega)]
    unfold madeW
    by_cases hc : -2147483648 ≤ h + l / 1000000000000000000 ∧ h + l / 1000000000000000000 < 2147483648
    · rw [if_pos hc, if_pos (by rw [decide_eq_true_iff]; unfold right; omega), e1, e2]
    · rw [if_neg hc, if_neg (by rw [decide_eq_true_iff]; unfold right; omega)]
  by_cases c1 : l ≥ 1000000000000000000
  · rw [foolscapref03_made.l1, if_pos c1]
    have w1 : wrap64 (h + 1) = h + 1 := by unfold wrap64; omega
    have w2 : wrap64 (l - 1000000000000000000) = l - 1000000000000000000 := by unfold wrap64; omega
    rw [w1, w2]
    by_cases c2 : l - 1000000000000000000 ≥ 1000000000000000000
    · rw [foolscapref03_made.l1, if_pos c2]
      have w3 : wrap64 (h + 1 + 1) = h + 1 + 1 := by unfold wrap64; omega
      have w4 : wrap64 (l - 1000000000000000000 - 1000000000000000000) = l - 1000000000000000000 - 1000000000000000000 := by unfold wrap64; omega
      rw [w3, w4]
      exact fin k _ _ (by omega) (by omega) (by omega) (by omega)
    · exact fin (k + 1) _ _ (by omega) (by omega) (by omega) (by omega)
  · exact fin (k + 2) _ _ (by omega) (by omega) (by omega) (by omega)
theorem made_shift (h l : Int) : madeW (h - 1) (l + 1000000000000000000) = madeW h l := by
  unfold madeW
  have e1 : h - 1 + (l + 1000000000000000000) / 1000000000000000000 = h + l / 1000000000000000000 := by omega
  have e2 : (l + 1000000000000000000) % 1000000000000000000 = l % 1000000000000000000 := by omega
  rw [e1, e2]
theorem made_eq (k : Nat) (h l : Int) (h0 : -1000000000000000000 ≤ l) (h1 : l ≤ 2000000000000000000) (h2 : -4294967296 ≤ h) (h3 : h ≤ 4294967295) (hk : 10 ≤ k) :
    foolscapref03_made.f k h l = some (madeW h l) := by
  obtain ⟨k, rfl⟩ : ∃ j, k = j + 2 := ⟨k - 2, by omega⟩
  unfold foolscapref03_made.f
  rw [foolscapref03_made.l0]
  by_cases c : l < 0
  · rw [if_pos c]
    have w1 : wrap64 (h - 1) = h - 1 := by unfold wrap64; omega
    have w2 : wrap64 (l + 1000000000000000000) = l + 1000000000000000000 := by unfold wrap64; omega
    rw [w1, w2, foolscapref03_made.l0, if_neg (by omega), ← made_shift h l]
    by_cases hb : -4294967296 ≤ h - 1
    · exact made1_eq k _ _ (by omega) (by omega) hb (by omega) (by omega)
    · obtain ⟨k, rfl⟩ : ∃ j, k = j + 2 := ⟨k - 2, by omega⟩
      have e : l + 1000000000000000000 < 1000000000000000000 := by omega
      rw [foolscapref03_made.l1, if_neg (by omega), right_eq]
      simp only [Option.bind_some]
      unfold madeW
      rw [if_neg (by rw [decide_eq_true_iff]; unfold right; omega), if_neg (by omega)]
  · rw [if_neg c]
    exact made1_eq (k + 1) _ _ (by omega) h1 h2 (by omega) (by omega)
theorem radd_eq (k : Nat) (h l n : Int) (hk : 10 ≤ k) : foolscapref03_Add.f k h l n = some (addW h l n) := by
  unfold foolscapref03_Add.f
  simp only [right_eq, fits1_eq, Option.bind_some]
  unfold addW
  by_cases hr : right h l
  · by_cases hf : fits n
    · have w : wrap64 (l + n) = l + n := by unfold wrap64; omega
      rw [if_pos (by simpa using hr), if_pos (by simpa using hf), w, made_eq _ _ _ (by omega) (by omega) (by omega) (by omega) hk, if_pos ⟨hr, hf⟩]; rfl
    · rw [if_pos (by simpa using hr), if_neg (by simpa using hf), if_neg (fun h => hf h.2)]
  · rw [if_neg (by simpa using hr), if_neg (fun h => hr h.1)]

/-! ### sums, the document's -/
theorem rtot (l : List Int) (hg : good l) : ∀ n k i (s : Int), i + n = l.length → n + 12 ≤ k → -(i * 1000000000000000000 : Int) ≤ s → s ≤ (i : Int) * 1000000000000000000 →
    foolscapref16_total.l0 k l (i : Int) (hiW s) (loW s) = some (hiW (s + (l.drop i).sum), loW (s + (l.drop i).sum)) := by
  intro n
  have hl := hg.1
  induction n with
  | zero =>
    intro k i s hi hk h0 h1
    obtain ⟨k, rfl⟩ : ∃ q, k = q + 1 := ⟨k - 1, by omega⟩
    rw [foolscapref16_total.l0, if_neg (by omega), List.drop_eq_nil_of_le (by omega), List.sum_nil, Int.add_zero]
  | succ n ih =>
    intro k i s hi hk h0 h1
    obtain ⟨k, rfl⟩ : ∃ q, k = q + 1 := ⟨k - 1, by omega⟩
    have hf := hg.2 _ (mem_getD l i (by omega))
    have hin : inW s := by unfold inW; omega
    have hin2 : inW (s + l.getD i 0) := by unfold inW; unfold fits at hf; omega
    rw [foolscapref16_total.l0, if_pos (by omega), if_pos (by omega), rd_nat, radd_eq _ _ _ _ (by omega), addW_rep s _ hin, if_pos hf, if_pos hin2, Option.bind_some, w1 i (by omega)]
    have := ih k (i + 1) (s + l.getD i 0) (by omega) (by omega) (by unfold fits at hf; omega) (by unfold fits at hf; omega)
    rw [this, drop_cons l i (by omega), List.sum_cons, Int.add_assoc]
theorem rtotal_good (l : List Int) (hg : good l) (k : Nat) (hk : l.length + 12 ≤ k) : foolscapref16_total.f k l = some (hiW l.sum, loW l.sum) := by
  unfold foolscapref16_total.f
  have := rtot l hg l.length k 0 0 (by omega) hk (by omega) (by omega)
  rw [List.drop_zero, Int.zero_add] at this
  exact this

/-! ### the mean of two, the document's: digit by digit -/
theorem digit (k : Nat) (x7 Q D d hh ll : Int) (hD : 0 < D) (hd : Int.tmod (wrap64 (Int.tdiv x7 D)) 10 = d) (h0 : 0 ≤ d) (h9 : d ≤ 9) (hQ : 0 ≤ Q) (hQ2 : Q ≤ 200000000000000000) :
    foolscapref03_Mean.l0 (k + 1) 2 x7 (Q / 2) (Q % 2) D hh ll = foolscapref03_Mean.l0 k 2 x7 ((10 * Q + d) / 2) ((10 * Q + d) % 2) (wrap64 (Int.tdiv D 10)) hh ll := by
  rw [foolscapref03_Mean.l0, if_pos (by omega), if_neg (by omega), if_neg (by omega), hd]
  have e1 : wrap64 (10 * (Q / 2)) = 10 * (Q / 2) := by unfold wrap64; omega
  have e2 : wrap64 (10 * (Q % 2)) = 10 * (Q % 2) := by unfold wrap64; omega
  have e3 : wrap64 (10 * (Q % 2) + d) = 10 * (Q % 2) + d := by unfold wrap64; omega
  rw [e1, e2, e3, Int.tdiv_eq_ediv_of_nonneg (show 0 ≤ 10 * (Q % 2) + d by omega), Int.tmod_eq_emod_of_nonneg (show 0 ≤ 10 * (Q % 2) + d by omega)]
  have e4 : wrap64 ((10 * (Q % 2) + d) / 2) = (10 * (Q % 2) + d) / 2 := by unfold wrap64; omega
  rw [e4]
  have e5 : wrap64 (10 * (Q / 2) + (10 * (Q % 2) + d) / 2) = (10 * Q + d) / 2 := by unfold wrap64; omega
  have e6 : (10 * (Q % 2) + d) % 2 = (10 * Q + d) % 2 := by omega
  rw [e5, e6]
theorem dig (x7 D : Int) (h0 : 0 ≤ x7) (h1 : x7 < 1000000000000000000) (hD : 0 < D) : Int.tmod (wrap64 (Int.tdiv x7 D)) 10 = x7 / D % 10 := by
  rw [Int.tdiv_eq_ediv_of_nonneg h0]
  have a := Int.ediv_nonneg h0 (Int.le_of_lt hD)
  have b : x7 / D ≤ x7 := Int.ediv_le_self _ h0
  generalize x7 / D = y at a b
  have w : wrap64 y = y := by unfold wrap64; omega
  rw [w, Int.tmod_eq_emod_of_nonneg a]
theorem dg0 (k : Nat) (N x7 h hh ll : Int) (hN : N = h * 1000000000000000000 + x7) (h0 : 0 ≤ x7) (h1 : x7 < 1000000000000000000) (h2 : 0 ≤ h) (h3 : N ≤ 2000000000000000000) :
    foolscapref03_Mean.l0 (k + 1) 2 x7 (N / 1000000000000000000 / 2) (N / 1000000000000000000 % 2) 100000000000000000 hh ll = foolscapref03_Mean.l0 k 2 x7 (N / 100000000000000000 / 2) (N / 100000000000000000 % 2) 10000000000000000 hh ll := by
  rw [digit k x7 (N / 1000000000000000000) 100000000000000000 _ hh ll (by omega) (dig x7 100000000000000000 h0 h1 (by omega)) (by omega) (by omega) (by omega) (by omega), show 10 * (N / 1000000000000000000) + x7 / 100000000000000000 % 10 = N / 100000000000000000 by omega, show wrap64 (Int.tdiv 100000000000000000 10) = 10000000000000000 by decide +kernel]
theorem dg1 (k : Nat) (N x7 h hh ll : Int) (hN : N = h * 1000000000000000000 + x7) (h0 : 0 ≤ x7) (h1 : x7 < 1000000000000000000) (h2 : 0 ≤ h) (h3 : N ≤ 2000000000000000000) :
    foolscapref03_Mean.l0 (k + 1) 2 x7 (N / 100000000000000000 / 2) (N / 100000000000000000 % 2) 10000000000000000 hh ll = foolscapref03_Mean.l0 k 2 x7 (N / 10000000000000000 / 2) (N / 10000000000000000 % 2) 1000000000000000 hh ll := by
  rw [digit k x7 (N / 100000000000000000) 10000000000000000 _ hh ll (by omega) (dig x7 10000000000000000 h0 h1 (by omega)) (by omega) (by omega) (by omega) (by omega), show 10 * (N / 100000000000000000) + x7 / 10000000000000000 % 10 = N / 10000000000000000 by omega, show wrap64 (Int.tdiv 10000000000000000 10) = 1000000000000000 by decide +kernel]
theorem dg2 (k : Nat) (N x7 h hh ll : Int) (hN : N = h * 1000000000000000000 + x7) (h0 : 0 ≤ x7) (h1 : x7 < 1000000000000000000) (h2 : 0 ≤ h) (h3 : N ≤ 2000000000000000000) :
    foolscapref03_Mean.l0 (k + 1) 2 x7 (N / 10000000000000000 / 2) (N / 10000000000000000 % 2) 1000000000000000 hh ll = foolscapref03_Mean.l0 k 2 x7 (N / 1000000000000000 / 2) (N / 1000000000000000 % 2) 100000000000000 hh ll := by
  rw [digit k x7 (N / 10000000000000000) 1000000000000000 _ hh ll (by omega) (dig x7 1000000000000000 h0 h1 (by omega)) (by omega) (by omega) (by omega) (by omega), show 10 * (N / 10000000000000000) + x7 / 1000000000000000 % 10 = N / 1000000000000000 by omega, show wrap64 (Int.tdiv 1000000000000000 10) = 100000000000000 by decide +kernel]
theorem dg3 (k : Nat) (N x7 h hh ll : Int) (hN : N = h * 1000000000000000000 + x7) (h0 : 0 ≤ x7) (h1 : x7 < 1000000000000000000) (h2 : 0 ≤ h) (h3 : N ≤ 2000000000000000000) :
    foolscapref03_Mean.l0 (k + 1) 2 x7 (N / 1000000000000000 / 2) (N / 1000000000000000 % 2) 100000000000000 hh ll = foolscapref03_Mean.l0 k 2 x7 (N / 100000000000000 / 2) (N / 100000000000000 % 2) 10000000000000 hh ll := by
  rw [digit k x7 (N / 1000000000000000) 100000000000000 _ hh ll (by omega) (dig x7 100000000000000 h0 h1 (by omega)) (by omega) (by omega) (by omega) (by omega), show 10 * (N / 1000000000000000) + x7 / 100000000000000 % 10 = N / 100000000000000 by omega, show wrap64 (Int.tdiv 100000000000000 10) = 10000000000000 by decide +kernel]
theorem dg4 (k : Nat) (N x7 h hh ll : Int) (hN : N = h * 1000000000000000000 + x7) (h0 : 0 ≤ x7) (h1 : x7 < 1000000000000000000) (h2 : 0 ≤ h) (h3 : N ≤ 2000000000000000000) :
    foolscapref03_Mean.l0 (k + 1) 2 x7 (N / 100000000000000 / 2) (N / 100000000000000 % 2) 10000000000000 hh ll = foolscapref03_Mean.l0 k 2 x7 (N / 10000000000000 / 2) (N / 10000000000000 % 2) 1000000000000 hh ll := by
  rw [digit k x7 (N / 100000000000000) 10000000000000 _ hh ll (by omega) (dig x7 10000000000000 h0 h1 (by omega)) (by omega) (by omega) (by omega) (by omega), show 10 * (N / 100000000000000) + x7 / 10000000000000 % 10 = N / 10000000000000 by omega, show wrap64 (Int.tdiv 10000000000000 10) = 1000000000000 by decide +kernel]
theorem dg5 (k : Nat) (N x7 h hh ll : Int) (hN : N = h * 1000000000000000000 + x7) (h0 : 0 ≤ x7) (h1 : x7 < 1000000000000000000) (h2 : 0 ≤ h) (h3 : N ≤ 2000000000000000000) :
    foolscapref03_Mean.l0 (k + 1) 2 x7 (N / 10000000000000 / 2) (N / 10000000000000 % 2) 1000000000000 hh ll = foolscapref03_Mean.l0 k 2 x7 (N / 1000000000000 / 2) (N / 1000000000000 % 2) 100000000000 hh ll := by
  rw [digit k x7 (N / 10000000000000) 1000000000000 _ hh ll (by omega) (dig x7 1000000000000 h0 h1 (by omega)) (by omega) (by omega) (by omega) (by omega), show 10 * (N / 10000000000000) + x7 / 1000000000000 % 10 = N / 1000000000000 by omega, show wrap64 (Int.tdiv 1000000000000 10) = 100000000000 by decide +kernel]
theorem dg6 (k : Nat) (N x7 h hh ll : Int) (hN : N = h * 1000000000000000000 + x7) (h0 : 0 ≤ x7) (h1 : x7 < 1000000000000000000) (h2 : 0 ≤ h) (h3 : N ≤ 2000000000000000000) :
    foolscapref03_Mean.l0 (k + 1) 2 x7 (N / 1000000000000 / 2) (N / 1000000000000 % 2) 100000000000 hh ll = foolscapref03_Mean.l0 k 2 x7 (N / 100000000000 / 2) (N / 100000000000 % 2) 10000000000 hh ll := by
  rw [digit k x7 (N / 1000000000000) 100000000000 _ hh ll (by omega) (dig x7 100000000000 h0 h1 (by omega)) (by omega) (by omega) (by omega) (by omega), show 10 * (N / 1000000000000) + x7 / 100000000000 % 10 = N / 100000000000 by omega, show wrap64 (Int.tdiv 100000000000 10) = 10000000000 by decide +kernel]
theorem dg7 (k : Nat) (N x7 h hh ll : Int) (hN : N = h * 1000000000000000000 + x7) (h0 : 0 ≤ x7) (h1 : x7 < 1000000000000000000) (h2 : 0 ≤ h) (h3 : N ≤ 2000000000000000000) :
    foolscapref03_Mean.l0 (k + 1) 2 x7 (N / 100000000000 / 2) (N / 100000000000 % 2) 10000000000 hh ll = foolscapref03_Mean.l0 k 2 x7 (N / 10000000000 / 2) (N / 10000000000 % 2) 1000000000 hh ll := by
  rw [digit k x7 (N / 100000000000) 10000000000 _ hh ll (by omega) (dig x7 10000000000 h0 h1 (by omega)) (by omega) (by omega) (by omega) (by omega), show 10 * (N / 100000000000) + x7 / 10000000000 % 10 = N / 10000000000 by omega, show wrap64 (Int.tdiv 10000000000 10) = 1000000000 by decide +kernel]
theorem dg8 (k : Nat) (N x7 h hh ll : Int) (hN : N = h * 1000000000000000000 + x7) (h0 : 0 ≤ x7) (h1 : x7 < 1000000000000000000) (h2 : 0 ≤ h) (h3 : N ≤ 2000000000000000000) :
    foolscapref03_Mean.l0 (k + 1) 2 x7 (N / 10000000000 / 2) (N / 10000000000 % 2) 1000000000 hh ll = foolscapref03_Mean.l0 k 2 x7 (N / 1000000000 / 2) (N / 1000000000 % 2) 100000000 hh ll := by
  rw [digit k x7 (N / 10000000000) 1000000000 _ hh ll (by omega) (dig x7 1000000000 h0 h1 (by omega)) (by omega) (by omega) (by omega) (by omega), show 10 * (N / 10000000000) + x7 / 1000000000 % 10 = N / 1000000000 by omega, show wrap64 (Int.tdiv 1000000000 10) = 100000000 by decide +kernel]
theorem dg9 (k : Nat) (N x7 h hh ll : Int) (hN : N = h * 1000000000000000000 + x7) (h0 : 0 ≤ x7) (h1 : x7 < 1000000000000000000) (h2 : 0 ≤ h) (h3 : N ≤ 2000000000000000000) :
    foolscapref03_Mean.l0 (k + 1) 2 x7 (N / 1000000000 / 2) (N / 1000000000 % 2) 100000000 hh ll = foolscapref03_Mean.l0 k 2 x7 (N / 100000000 / 2) (N / 100000000 % 2) 10000000 hh ll := by
  rw [digit k x7 (N / 1000000000) 100000000 _ hh ll (by omega) (dig x7 100000000 h0 h1 (by omega)) (by omega) (by omega) (by omega) (by omega), show 10 * (N / 1000000000) + x7 / 100000000 % 10 = N / 100000000 by omega, show wrap64 (Int.tdiv 100000000 10) = 10000000 by decide +kernel]
theorem dg10 (k : Nat) (N x7 h hh ll : Int) (hN : N = h * 1000000000000000000 + x7) (h0 : 0 ≤ x7) (h1 : x7 < 1000000000000000000) (h2 : 0 ≤ h) (h3 : N ≤ 2000000000000000000) :
    foolscapref03_Mean.l0 (k + 1) 2 x7 (N / 100000000 / 2) (N / 100000000 % 2) 10000000 hh ll = foolscapref03_Mean.l0 k 2 x7 (N / 10000000 / 2) (N / 10000000 % 2) 1000000 hh ll := by
  rw [digit k x7 (N / 100000000) 10000000 _ hh ll (by omega) (dig x7 10000000 h0 h1 (by omega)) (by omega) (by omega) (by omega) (by omega), show 10 * (N / 100000000) + x7 / 10000000 % 10 = N / 10000000 by omega, show wrap64 (Int.tdiv 10000000 10) = 1000000 by decide +kernel]
theorem dg11 (k : Nat) (N x7 h hh ll : Int) (hN : N = h * 1000000000000000000 + x7) (h0 : 0 ≤ x7) (h1 : x7 < 1000000000000000000) (h2 : 0 ≤ h) (h3 : N ≤ 2000000000000000000) :
    foolscapref03_Mean.l0 (k + 1) 2 x7 (N / 10000000 / 2) (N / 10000000 % 2) 1000000 hh ll = foolscapref03_Mean.l0 k 2 x7 (N / 1000000 / 2) (N / 1000000 % 2) 100000 hh ll := by
  rw [digit k x7 (N / 10000000) 1000000 _ hh ll (by omega) (dig x7 1000000 h0 h1 (by omega)) (by omega) (by omega) (by omega) (by omega), show 10 * (N / 10000000) + x7 / 1000000 % 10 = N / 1000000 by omega, show wrap64 (Int.tdiv 1000000 10) = 100000 by decide +kernel]
theorem dg12 (k : Nat) (N x7 h hh ll : Int) (hN : N = h * 1000000000000000000 + x7) (h0 : 0 ≤ x7) (h1 : x7 < 1000000000000000000) (h2 : 0 ≤ h) (h3 : N ≤ 2000000000000000000) :
    foolscapref03_Mean.l0 (k + 1) 2 x7 (N / 1000000 / 2) (N / 1000000 % 2) 100000 hh ll = foolscapref03_Mean.l0 k 2 x7 (N / 100000 / 2) (N / 100000 % 2) 10000 hh ll := by
  rw [digit k x7 (N / 1000000) 100000 _ hh ll (by omega) (dig x7 100000 h0 h1 (by omega)) (by omega) (by omega) (by omega) (by omega), show 10 * (N / 1000000) + x7 / 100000 % 10 = N / 100000 by omega, show wrap64 (Int.tdiv 100000 10) = 10000 by decide +kernel]
theorem dg13 (k : Nat) (N x7 h hh ll : Int) (hN : N = h * 1000000000000000000 + x7) (h0 : 0 ≤ x7) (h1 : x7 < 1000000000000000000) (h2 : 0 ≤ h) (h3 : N ≤ 2000000000000000000) :
    foolscapref03_Mean.l0 (k + 1) 2 x7 (N / 100000 / 2) (N / 100000 % 2) 10000 hh ll = foolscapref03_Mean.l0 k 2 x7 (N / 10000 / 2) (N / 10000 % 2) 1000 hh ll := by
  rw [digit k x7 (N / 100000) 10000 _ hh ll (by omega) (dig x7 10000 h0 h1 (by omega)) (by omega) (by omega) (by omega) (by omega), show 10 * (N / 100000) + x7 / 10000 % 10 = N / 10000 by omega, show wrap64 (Int.tdiv 10000 10) = 1000 by decide +kernel]
theorem dg14 (k : Nat) (N x7 h hh ll : Int) (hN : N = h * 1000000000000000000 + x7) (h0 : 0 ≤ x7) (h1 : x7 < 1000000000000000000) (h2 : 0 ≤ h) (h3 : N ≤ 2000000000000000000) :
    foolscapref03_Mean.l0 (k + 1) 2 x7 (N / 10000 / 2) (N / 10000 % 2) 1000 hh ll = foolscapref03_Mean.l0 k 2 x7 (N / 1000 / 2) (N / 1000 % 2) 100 hh ll := by
  rw [digit k x7 (N / 10000) 1000 _ hh ll (by omega) (dig x7 1000 h0 h1 (by omega)) (by omega) (by omega) (by omega) (by omega), show 10 * (N / 10000) + x7 / 1000 % 10 = N / 1000 by omega, show wrap64 (Int.tdiv 1000 10) = 100 by decide +kernel]
theorem dg15 (k : Nat) (N x7 h hh ll : Int) (hN : N = h * 1000000000000000000 + x7) (h0 : 0 ≤ x7) (h1 : x7 < 1000000000000000000) (h2 : 0 ≤ h) (h3 : N ≤ 2000000000000000000) :
    foolscapref03_Mean.l0 (k + 1) 2 x7 (N / 1000 / 2) (N / 1000 % 2) 100 hh ll = foolscapref03_Mean.l0 k 2 x7 (N / 100 / 2) (N / 100 % 2) 10 hh ll := by
  rw [digit k x7 (N / 1000) 100 _ hh ll (by omega) (dig x7 100 h0 h1 (by omega)) (by omega) (by omega) (by omega) (by omega), show 10 * (N / 1000) + x7 / 100 % 10 = N / 100 by omega, show wrap64 (Int.tdiv 100 10) = 10 by decide +kernel]
theorem dg16 (k : Nat) (N x7 h hh ll : Int) (hN : N = h * 1000000000000000000 + x7) (h0 : 0 ≤ x7) (h1 : x7 < 1000000000000000000) (h2 : 0 ≤ h) (h3 : N ≤ 2000000000000000000) :
    foolscapref03_Mean.l0 (k + 1) 2 x7 (N / 100 / 2) (N / 100 % 2) 10 hh ll = foolscapref03_Mean.l0 k 2 x7 (N / 10 / 2) (N / 10 % 2) 1 hh ll := by
  rw [digit k x7 (N / 100) 10 _ hh ll (by omega) (dig x7 10 h0 h1 (by omega)) (by omega) (by omega) (by omega) (by omega), show 10 * (N / 100) + x7 / 10 % 10 = N / 10 by omega, show wrap64 (Int.tdiv 10 10) = 1 by decide +kernel]
theorem dg17 (k : Nat) (N x7 h hh ll : Int) (hN : N = h * 1000000000000000000 + x7) (h0 : 0 ≤ x7) (h1 : x7 < 1000000000000000000) (h2 : 0 ≤ h) (h3 : N ≤ 2000000000000000000) :
    foolscapref03_Mean.l0 (k + 1) 2 x7 (N / 10 / 2) (N / 10 % 2) 1 hh ll = foolscapref03_Mean.l0 k 2 x7 (N / 1 / 2) (N / 1 % 2) 0 hh ll := by
  rw [digit k x7 (N / 10) 1 _ hh ll (by omega) (dig x7 1 h0 h1 (by omega)) (by omega) (by omega) (by omega) (by omega), show 10 * (N / 10) + x7 / 1 % 10 = N / 1 by omega, show wrap64 (Int.tdiv 1 10) = 0 by decide +kernel]
theorem digits (k : Nat) (N x7 h hh ll : Int) (hN : N = h * 1000000000000000000 + x7) (h0 : 0 ≤ x7) (h1 : x7 < 1000000000000000000) (h2 : 0 ≤ h) (h3 : N ≤ 2000000000000000000) :
    foolscapref03_Mean.l0 (k + 18) 2 x7 (h / 2) (h % 2) 100000000000000000 hh ll = foolscapref03_Mean.l0 k 2 x7 (N / 2) (N % 2) 0 hh ll := by
  have e : h = N / 1000000000000000000 := by omega
  rw [show h / 2 = N / 1000000000000000000 / 2 by rw [← e], show h % 2 = N / 1000000000000000000 % 2 by rw [← e]]
  rw [dg0 (k + 17) N x7 h hh ll hN h0 h1 h2 h3]
  rw [dg1 (k + 16) N x7 h hh ll hN h0 h1 h2 h3]
  rw [dg2 (k + 15) N x7 h hh ll hN h0 h1 h2 h3]
  rw [dg3 (k + 14) N x7 h hh ll hN h0 h1 h2 h3]
  rw [dg4 (k + 13) N x7 h hh ll hN h0 h1 h2 h3]
  rw [dg5 (k + 12) N x7 h hh ll hN h0 h1 h2 h3]
  rw [dg6 (k + 11) N x7 h hh ll hN h0 h1 h2 h3]
  rw [dg7 (k + 10) N x7 h hh ll hN h0 h1 h2 h3]
  rw [dg8 (k + 9) N x7 h hh ll hN h0 h1 h2 h3]
  rw [dg9 (k + 8) N x7 h hh ll hN h0 h1 h2 h3]
  rw [dg10 (k + 7) N x7 h hh ll hN h0 h1 h2 h3]
  rw [dg11 (k + 6) N x7 h hh ll hN h0 h1 h2 h3]
  rw [dg12 (k + 5) N x7 h hh ll hN h0 h1 h2 h3]
  rw [dg13 (k + 4) N x7 h hh ll hN h0 h1 h2 h3]
  rw [dg14 (k + 3) N x7 h hh ll hN h0 h1 h2 h3]
  rw [dg15 (k + 2) N x7 h hh ll hN h0 h1 h2 h3]
  rw [dg16 (k + 1) N x7 h hh ll hN h0 h1 h2 h3]
  rw [dg17 k N x7 h hh ll hN h0 h1 h2 h3]
  rw [Int.ediv_one]
theorem mean_last (k : Nat) (N x7 hh ll : Int) (h0 : 0 ≤ N) (h3 : N ≤ 2000000000000000000) :
    foolscapref03_Mean.l0 (k + 3) 2 x7 (N / 2) (N % 2) 0 hh ll = some (if hh < 0 then -((meanN N.toNat 2 : Nat) : Int) else ((meanN N.toNat 2 : Nat) : Int), 0) := by
  have hM : ∀ (k : Nat) (M : Int), 0 ≤ M → M ≤ 1000000000000000000 → foolscapref03_Mean.j3 (k + 1) M hh ll = some (if hh < 0 then -M else M, 0) := by
    intro k M hM0 hM1
    rw [foolscapref03_Mean.j3, if_neg (by omega)]
    have w : wrap64 (-M) = -M := by unfold wrap64; omega
    split
    · rw [w]
    · rfl
  obtain ⟨n, rfl⟩ := Int.eq_ofNat_of_zero_le h0
  rw [Int.toNat_natCast, foolscapref03_Mean.l0, if_neg (by omega)]
  have wh : wrap64 (2 - ((n : Int) % 2)) = 2 - (n : Int) % 2 := by unfold wrap64; omega
  rw [wh, if_neg (show ¬ (n : Int) % 2 > 2 - (n : Int) % 2 by omega)]
  unfold meanN
  by_cases c : n % 2 = 1
  · rw [if_pos (show (n : Int) % 2 = 2 - (n : Int) % 2 by omega)]
    have et : Int.tmod ((n : Int) / 2) 2 = ((n / 2 % 2 : Nat) : Int) := by
      rw [Int.tmod_eq_emod_of_nonneg (by omega)]; omega
    rw [et]
    by_cases c2 : n / 2 % 2 = 1
    · have en : (if n % 2 > 2 - n % 2 ∨ (n % 2 = 2 - n % 2 ∧ n / 2 % 2 = 1) then n / 2 + 1 else n / 2) = n / 2 + 1 := if_pos (Or.inr ⟨by omega, c2⟩)
      rw [en, c2, foolscapref03_Mean.j2, if_pos (by decide)]
      have w : wrap64 ((n : Int) / 2 + 1) = ((n / 2 + 1 : Nat) : Int) := by unfold wrap64; omega
      rw [w]
      exact hM k ((n / 2 + 1 : Nat) : Int) (by omega) (by omega)
    · have c3 : n / 2 % 2 = 0 := by omega
      have en : (if n % 2 > 2 - n % 2 ∨ (n % 2 = 2 - n % 2 ∧ n / 2 % 2 = 1) then n / 2 + 1 else n / 2) = n / 2 := if_neg (by omega)
      rw [en, c3, foolscapref03_Mean.j2, if_neg (by decide), show (n : Int) / 2 = ((n / 2 : Nat) : Int) by omega]
      exact hM k ((n / 2 : Nat) : Int) (by omega) (by omega)
  · have en : (if n % 2 > 2 - n % 2 ∨ (n % 2 = 2 - n % 2 ∧ n / 2 % 2 = 1) then n / 2 + 1 else n / 2) = n / 2 := if_neg (by omega)
    rw [en, if_neg (show ¬ (n : Int) % 2 = 2 - (n : Int) % 2 by omega), foolscapref03_Mean.j2, if_neg (by decide), show (n : Int) / 2 = ((n / 2 : Nat) : Int) by omega]
    exact hM k ((n / 2 : Nat) : Int) (by omega) (by omega)
theorem rmean_two (s : Int) (h0 : -2000000000000000000 ≤ s) (h1 : s ≤ 2000000000000000000) (k : Nat) (hk : 40 ≤ k) : foolscapref03_Mean.f k (hiW s) (loW s) 2 = some (meanV s 2, 0) := by
  obtain ⟨k, rfl⟩ : ∃ q, k = q + 3 + 18 + 1 := ⟨k - 22, by omega⟩
  unfold foolscapref03_Mean.f
  rw [right_eq, Option.bind_some, if_pos (decide_eq_true (right_rep s (by unfold inW; omega))), if_neg (by decide), decide_eq_false (by decide), foolscapref03_Mean.j0, if_neg (by decide)]
  have e : hiW s * 1000000000000000000 + loW s = s := by unfold hiW loW; omega
  have key : ∀ a b : Int, foolscapref03_size.f (hiW s) (loW s) = some (a, b) → 0 ≤ a → a ≤ 2 → 0 ≤ b → b < 1000000000000000000 → (s.natAbs : Int) = a * 1000000000000000000 + b →
      ((foolscapref03_size.f (hiW s) (loW s)).bind fun bt128 => (if (2 : Int) = 0 then (none) else (if (wrap64 (Int.tdiv bt128.1 2)) > 1 then (some (0, 3)) else (foolscapref03_Mean.l0 (k + 3 + 18) 2 bt128.2 (wrap64 (Int.tdiv bt128.1 2)) (Int.tmod bt128.1 2) 100000000000000000 (hiW s) (loW s))))) = some (meanV s 2, 0) := by
    intro a b es ha ha2 hb hb2 hn
    rw [es, Option.bind_some, if_neg (by decide)]
    have t1 : wrap64 (Int.tdiv a 2) = a / 2 := by rw [Int.tdiv_eq_ediv_of_nonneg ha]; unfold wrap64; omega
    have t2 : Int.tmod a 2 = a % 2 := by rw [Int.tmod_eq_emod_of_nonneg ha]
    simp only [t1, t2]
    rw [if_neg (by omega), digits (k + 3) (s.natAbs : Int) b a (hiW s) (loW s) hn hb hb2 ha (by omega), mean_last k _ b _ _ (by omega) (by omega), Int.toNat_natCast]
    unfold meanV
    by_cases c : s < 0
    · rw [if_pos c, if_pos (by unfold hiW; omega)]
    · rw [if_neg c, if_neg (by unfold hiW; omega)]
  by_cases c : hiW s ≥ 0
  · exact key (hiW s) (loW s) (by unfold foolscapref03_size.f; rw [if_pos c]) c (by unfold hiW; omega) (by unfold loW; omega) (by unfold loW; omega) (by unfold hiW loW at *; omega)
  · by_cases c2 : loW s = 0
    · have w : wrap64 (-hiW s) = -hiW s := by unfold hiW wrap64; omega
      exact key (-hiW s) 0 (by unfold foolscapref03_size.f; rw [if_neg c, if_pos c2, w]) (by omega) (by unfold hiW; omega) (by omega) (by omega) (by unfold hiW loW at *; omega)
    · have w : wrap64 (-hiW s) = -hiW s := by unfold hiW wrap64; omega
      have w2 : wrap64 (-hiW s - 1) = -hiW s - 1 := by unfold hiW wrap64; omega
      have w3 : wrap64 (1000000000000000000 - loW s) = 1000000000000000000 - loW s := by unfold loW wrap64; omega
      exact key (-hiW s - 1) (1000000000000000000 - loW s) (by unfold foolscapref03_size.f; rw [if_neg c, if_neg c2, w, w2, w3]) (by omega) (by unfold hiW; omega) (by unfold loW; omega) (by unfold loW at *; omega) (by unfold hiW loW at *; omega)
theorem ravg_two (a b : Int) (ha : fits a) (hb : fits b) (k : Nat) (hk : 60 ≤ k) : foolscapref16_Mean.f k [a, b] = some (meanV (a + b) 2, 0) := by
  have hg : good [a, b] := ⟨by simp, fun x hx => by
    rcases List.mem_cons.mp hx with e | e
    · rw [e]; exact ha
    · rw [List.mem_singleton.mp e]; exact hb⟩
  unfold foolscapref16_Mean.f
  rw [rgood_eq _ k (by simp; omega), Option.bind_some, if_pos (decide_eq_true hg), if_neg (by simp), rtotal_good _ hg k (by simp; omega), Option.bind_some]
  have es : [a, b].sum = a + b := by simp
  have el : (([a, b] : List Int).length : Int) = 2 := by simp
  rw [es, el, rmean_two (a + b) (by unfold fits at *; omega) (by unfold fits at *; omega) k (by omega)]
  rfl

/-! ### ends, midst, the most frequent -/
theorem rleast_x (l : List Int) {r : Int × Int} (h : some (leN l) = some r) : ∃ k, foolscapref16_Least.f k l = some r := by
  rw [← h]
  unfold leN
  by_cases hg : good l
  · obtain ⟨k, s, hk, e, hu, hp⟩ := rise_at l hg.1
    have hs := hp.length_eq
    refine ⟨k, ?_⟩
    unfold foolscapref16_Least.f
    rw [rgood_eq l k (by omega), Option.bind_some, if_pos (decide_eq_true hg), if_pos hg]
    by_cases c : l.length = 0
    · rw [if_pos (by omega), if_pos c]
    · rw [if_neg (by omega), if_neg c, e, Option.bind_some, if_pos (by omega), show (0 : Int) = ((0 : Nat) : Int) from rfl, rd_nat, kthN_up hu hp _ (by omega)]
  · refine ⟨l.length + 1, ?_⟩
    unfold foolscapref16_Least.f
    rw [rgood_eq l _ (Nat.le_refl _), Option.bind_some, if_neg (by simpa using hg), if_neg hg]
theorem rgreat_x (l : List Int) {r : Int × Int} (h : some (grN l) = some r) : ∃ k, foolscapref16_Greatest.f k l = some r := by
  rw [← h]
  unfold grN
  by_cases hg : good l
  · obtain ⟨k, s, hk, e, hu, hp⟩ := rise_at l hg.1
    have hs := hp.length_eq
    have hl := hg.1
    refine ⟨k, ?_⟩
    unfold foolscapref16_Greatest.f
    rw [rgood_eq l k (by omega), Option.bind_some, if_pos (decide_eq_true hg), if_pos hg]
    by_cases c : l.length = 0
    · rw [if_pos (by omega), if_pos c]
    · have w : wrap64 ((l.length : Int) - 1) = ((l.length - 1 : Nat) : Int) := by unfold wrap64; omega
      rw [if_neg (by omega), if_neg c, e, Option.bind_some, w, if_pos (by omega), if_pos (by omega), rd_nat, kthN_up hu hp _ (by omega)]
  · refine ⟨l.length + 1, ?_⟩
    unfold foolscapref16_Greatest.f
    rw [rgood_eq l _ (Nat.le_refl _), Option.bind_some, if_neg (by simpa using hg), if_neg hg]
theorem rmed_x (l : List Int) {r : Int × Int} (h : some (medN l) = some r) : ∃ k, foolscapref16_Median.f k l = some r := by
  rw [← h]
  unfold medN
  by_cases hg : good l
  · obtain ⟨k0, s, hk0, e0, hu, hp⟩ := rise_at l hg.1
    have e : foolscapref16_Rising.f (k0 + 60) l = some s := at_rounds (g := fun k => foolscapref16_Rising.f k l) (foolscapref16_Rising.mono l) (Nat.le_add_right _ _) e0
    have hs := hp.length_eq
    have hl := hg.1
    refine ⟨k0 + 60 + 1, ?_⟩
    unfold foolscapref16_Median.f
    rw [rgood_eq l _ (by omega), Option.bind_some, if_pos (decide_eq_true hg)]
    by_cases c : l.length = 0
    · rw [if_neg (show ¬ (good l ∧ l.length ≠ 0) from fun z => z.2 c), foolscapref16_Median.j0, if_pos (by simp [c])]
    · have w : wrap64 ((l.length : Int) / 2) = ((l.length / 2 : Nat) : Int) := by unfold wrap64; omega
      rw [if_pos (show good l ∧ l.length ≠ 0 from ⟨hg, c⟩), foolscapref16_Median.j0, if_neg (by simpa using c), e, Option.bind_some, w]
      by_cases c2 : l.length % 2 = 1
      · rw [if_pos (by omega), if_pos c2, if_pos (by omega), if_pos (by omega), rd_nat, kthN_up hu hp _ (by omega)]
      · have w2 : wrap64 (((l.length / 2 : Nat) : Int) - 1) = ((l.length / 2 - 1 : Nat) : Int) := by unfold wrap64; omega
        rw [if_neg (by omega), if_neg c2, w2, if_pos (by omega), if_pos (by omega), if_pos (by omega), if_pos (by omega), rd_nat, rd_nat, kthN_up hu hp _ (by omega), kthN_up hu hp _ (by omega)]
        have m1 := (kth_is l (l.length / 2 - 1) (by omega) (by omega)).mem
        have m2 := (kth_is l (l.length / 2) (by omega) (by omega)).mem
        rw [ravg_two _ _ (hg.2 _ m1) (hg.2 _ m2) _ (by omega), Option.bind_some]
  · refine ⟨l.length + 2, ?_⟩
    unfold foolscapref16_Median.f
    rw [rgood_eq l _ (by omega), Option.bind_some, if_neg (by simpa using hg), if_neg (show ¬ (good l ∧ l.length ≠ 0) from fun z => hg z.1), foolscapref16_Median.j0, if_pos rfl]
theorem rmode_l0 (l : List Int) (hl : l.length ≤ 4096) : ∀ m k i, i + m = l.length → m + l.length + 2 ≤ k → ∀ p : Int × Int, 1 ≤ p.1 →
    foolscapref16_Mode.l0 k l p.1 p.2 (i : Int) = some (if ((l.drop i).foldl (PG.stats_Mode.step l) p).1 = 1 then (0, 6) else (((l.drop i).foldl (PG.stats_Mode.step l) p).2, 0)) := by
  intro m
  induction m with
  | zero =>
    intro k i hi hk p hp
    obtain ⟨k, rfl⟩ : ∃ q, k = q + 1 := ⟨k - 1, by omega⟩
    rw [foolscapref16_Mode.l0, if_neg (by omega), List.drop_eq_nil_of_le (by omega), List.foldl_nil]
    by_cases c : p.1 = 1
    · rw [if_pos (by omega), if_pos c]
    · rw [if_neg (by omega), if_neg c]
  | succ m ih =>
    intro k i hi hk p hp
    obtain ⟨k, rfl⟩ : ∃ q, k = q + 1 := ⟨k - 1, by omega⟩
    rw [foolscapref16_Mode.l0, if_pos (by omega), if_pos (by omega), rd_nat, often_eq l _ hl k (by omega), Option.bind_some, w1 i (by omega), drop_cons l i (by omega), List.foldl_cons]
    by_cases c : ((l.count (l.getD i 0) : Nat) : Int) > p.1
    · rw [if_pos c]
      have es : PG.stats_Mode.step l p (l.getD i 0) = (((l.count (l.getD i 0) : Nat) : Int), l.getD i 0) := by unfold PG.stats_Mode.step; rw [if_pos c]
      rw [es]
      exact ih k (i + 1) (by omega) (by omega) (((l.count (l.getD i 0) : Nat) : Int), l.getD i 0) (by show (1 : Int) ≤ ((l.count (l.getD i 0) : Nat) : Int); omega)
    · rw [if_neg c]
      have es : PG.stats_Mode.step l p (l.getD i 0) = p := by unfold PG.stats_Mode.step; rw [if_neg c]
      rw [es]
      exact ih k (i + 1) (by omega) (by omega) p hp
theorem rmode_x (l : List Int) {r : Int × Int} (h : some (modeN l) = some r) : ∃ k, foolscapref16_Mode.f k l = some r := by
  rw [← h]
  refine ⟨2 * l.length + 3, ?_⟩
  unfold foolscapref16_Mode.f modeN
  rw [rgood_eq l _ (by omega), Option.bind_some]
  by_cases hg : good l
  · rw [if_pos (decide_eq_true hg), if_pos hg]
    have := rmode_l0 l hg.1 l.length (2 * l.length + 3) 0 (by omega) (by omega) (1, 0) (by decide)
    rw [List.drop_zero] at this
    exact this
  · rw [if_neg (by simpa using hg), if_neg hg]
--E
end Go.Proofs.Ytnmiagcjfbdfkaa.SV
