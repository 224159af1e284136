/- What the document's answers of chapter 16 come to, in plain numbers. -/
import Derived.Test.YtnmiagcjfbdfkaaGPure
import Derived.Test.YtnmiagcjfbdfkaaPQx
set_option linter.unusedVariables false
set_option linter.unusedSimpArgs false
namespace Go.Proofs.Ytnmiagcjfbdfkaa.SQ
open Go.RowKit Go.Proofs.Ytnmiagcjfbdfkaa Go.Proofs.Ytnmiagcjfbdfkaa.PQ Go.Proofs.Ytnmiagcjfbdfkaa.WPure Go.Proofs.Ytnmiagcjfbdfkaa.SA Go.Proofs.Ytnmiagcjfbdfkaa.SB Go.Proofs.Ytnmiagcjfbdfkaa.SC Go.Proofs.Ytnmiagcjfbdfkaa.SD Go.Proofs.YtnmiagcjfbdfkaaW.PrintWords Go.Proofs.YtnmiagcjfbdfkaaW.PrintLast Go.Proofs.YtnmiagcjfbdfkaaW.PrintMore

theorem rfits_eq (n : Int) : foolscapref01_Fits.f n = some (decide (fits n)) := by
  unfold foolscapref01_Fits.f fits
  split
  · congr 1; rw [decide_eq_decide]; omega
  · congr 1; symm; rw [decide_eq_false_iff_not]; omega
theorem rgood_l0 (l : List Int) (hl : l.length ≤ 4096) : ∀ n k i, i + n = l.length → n + 1 ≤ k → foolscapref16_good.l0 k l (i : Int) = some (decide (∀ x ∈ l.drop i, fits x)) := by
  intro n
  induction n with
  | zero =>
    intro k i hi hk
    obtain ⟨k, rfl⟩ : ∃ q, k = q + 1 := ⟨k - 1, by omega⟩
    rw [foolscapref16_good.l0, if_neg (by omega), List.drop_eq_nil_of_le (by omega)]
    simp
  | succ n ih =>
    intro k i hi hk
    obtain ⟨k, rfl⟩ : ∃ q, k = q + 1 := ⟨k - 1, by omega⟩
    rw [foolscapref16_good.l0, if_pos (by omega), if_pos (by omega), rd_nat, rfits_eq, Option.bind_some, drop_cons l i (by omega)]
    by_cases c : fits (l.getD i 0)
    · rw [if_pos (decide_eq_true c), w1 i (by omega), ih k (i + 1) (by omega) (by omega)]
      congr 1; rw [decide_eq_decide]; simp only [List.mem_cons, forall_eq_or_imp]
      exact ⟨fun z => ⟨c, z⟩, fun z => z.2⟩
    · rw [decide_eq_false c, if_neg (by decide), decide_eq_false (fun z => c (z _ List.mem_cons_self))]
theorem rgood_eq (l : List Int) (k : Nat) (hk : l.length + 1 ≤ k) : foolscapref16_good.f k l = some (decide (good l)) := by
  unfold foolscapref16_good.f
  by_cases c : l.length ≤ 4096
  · rw [if_neg (by omega)]
    have := rgood_l0 l c l.length k 0 (by omega) hk
    rw [List.drop_zero] at this
    rw [show (0 : Int) = ((0 : Nat) : Int) from rfl, this]
    congr 1; rw [decide_eq_decide]; exact ⟨fun z => ⟨c, z⟩, fun z => z.2⟩
  · rw [if_pos (by omega), decide_eq_false (fun z => c z.1)]

/-! ### numbers in order -/
abbrev Up (l : List Int) : Prop := l.Pairwise (· ≤ ·)
theorem get_mid (a : List Int) (h : Int) (b : List Int) : (a ++ h :: b).getD a.length 0 = h := by
  rw [List.getD, List.getElem?_append_right (Nat.le_refl _), Nat.sub_self]; rfl
theorem set_mid (a : List Int) (h v : Int) (b : List Int) : (a ++ h :: b).set a.length v = a ++ v :: b := by
  rw [List.set_append_right _ _ (Nat.le_refl _), Nat.sub_self]; rfl
theorem ins (x0 : List Int) (i : Nat) (hi : i < x0.length) (hl : x0.length ≤ 4096) : ∀ n (a : List Int) (h : Int) (b : List Int), a.length = n → n + b.length ≤ 4096 → Up (a ++ b) → (∀ z ∈ b, x0.getD i 0 < z) →
    ∃ c res, (∀ j, foolscapref16_Rising.l1 (c + j) x0 (a ++ h :: b) (i : Int) (a.length : Int) = foolscapref16_Rising.l0 j x0 res ((i + 1 : Nat) : Int)) ∧ Up res ∧ res.Perm (a ++ x0.getD i 0 :: b) := by
  intro n
  induction n with
  | zero =>
    intro a h b ha hb hu hz
    have e : a = [] := List.length_eq_zero_iff.mp ha
    subst e
    refine ⟨1, x0.getD i 0 :: b, fun j => ?_, ?_, List.Perm.refl _⟩
    · rw [Nat.add_comm, foolscapref16_Rising.l1, if_neg (by simp), if_pos (by omega), if_pos (by omega), if_pos (by simp), if_pos (by simp), rd_nat, w1 i (by omega)]
      rfl
    · exact List.pairwise_cons.mpr ⟨fun z hz2 => Int.le_of_lt (hz z hz2), hu⟩
  | succ n ih =>
    intro a h b ha hb hu hz
    obtain ⟨a', d, rfl⟩ : ∃ a' d, a = a' ++ [d] := by
      rcases List.eq_nil_or_concat a with e | ⟨a', d, e⟩
      · subst e; simp at ha
      · exact ⟨a', d, by rw [e, List.concat_eq_append]⟩
    have ha' : a'.length = n := by rw [List.length_append, List.length_singleton] at ha; omega
    have eL : (a' ++ [d]).length = n + 1 := ha
    have w : wrap64 ((((n + 1 : Nat)) : Int) - 1) = (n : Int) := by unfold wrap64; omega
    have g : (a' ++ [d] ++ h :: b).getD n 0 = d := by
      rw [List.append_assoc, ← ha']; exact get_mid a' d _
    have lt : (a' ++ [d] ++ h :: b).length = n + 2 + b.length := by simp; omega
    by_cases c : d > x0.getD i 0
    · have su : Up (a' ++ d :: b) := by rw [show a' ++ d :: b = a' ++ [d] ++ b by simp]; exact hu
      have db : ∀ z ∈ d :: b, x0.getD i 0 < z := fun z hz2 => by
        rcases List.mem_cons.mp hz2 with e | e
        · rw [e]; exact c
        · exact hz z e
      obtain ⟨cc, res, h1, h2, h3⟩ := ih a' d (d :: b) ha' (by rw [List.length_cons]; omega) su db
      refine ⟨cc + 1, res, fun j => ?_, h2, h3.trans ?_⟩
      · rw [show cc + 1 + j = (cc + j) + 1 by omega, foolscapref16_Rising.l1, eL, if_pos (by omega), w, if_pos (by omega), if_pos (by omega), if_pos (by omega), if_pos (by omega), rd_nat, rd_nat, g, if_pos c, if_pos (by omega), if_pos (by omega), Int.toNat_natCast]
        rw [← eL, set_mid (a' ++ [d]) h d b, ← h1 j, ha', List.append_assoc]
        rfl
      · rw [List.append_assoc]
        exact List.Perm.append_left a' (List.Perm.swap d (x0.getD i 0) b)
    · refine ⟨1, a' ++ [d] ++ x0.getD i 0 :: b, fun j => ?_, ?_, List.Perm.refl _⟩
      · rw [Nat.add_comm, foolscapref16_Rising.l1, eL, if_pos (by omega), w, if_pos (by omega), if_pos (by omega), if_pos (by omega), if_pos (by omega), rd_nat, rd_nat, g, if_neg c, if_pos (by omega), if_pos (by omega), Int.toNat_natCast, w1 i (by omega)]
        rw [← eL, set_mid (a' ++ [d]) h _ b]
      · obtain ⟨p1, p2, p3⟩ := List.pairwise_append.mp hu
        refine List.pairwise_append.mpr ⟨p1, List.pairwise_cons.mpr ⟨fun z hz2 => Int.le_of_lt (hz z hz2), p2⟩, fun u hu2 z hz2 => ?_⟩
        rcases List.mem_cons.mp hz2 with e | e
        · rw [e]
          rcases List.mem_append.mp hu2 with q | q
          · have := (List.pairwise_append.mp p1).2.2 u q d (by simp)
            omega
          · rw [List.mem_singleton.mp q]; omega
        · exact p3 u hu2 z e
theorem rise_l0 (x0 : List Int) (hl : x0.length ≤ 4096) : ∀ n i (s : List Int), i + n = x0.length → s.length = i → Up s →
    ∃ k r, foolscapref16_Rising.l0 k x0 s (i : Int) = some r ∧ Up r ∧ r.Perm (s ++ x0.drop i) := by
  intro n
  induction n with
  | zero =>
    intro i s hi hs hu
    exact ⟨1, s, by rw [foolscapref16_Rising.l0, if_neg (by omega)], hu, by rw [List.drop_eq_nil_of_le (by omega), List.append_nil]⟩
  | succ n ih =>
    intro i s hi hs hu
    obtain ⟨c, res, h1, h2, h3⟩ := ins x0 i (by omega) hl s.length s 0 [] rfl (by simp; omega) (by rw [List.append_nil]; exact hu) (by simp)
    have hrl : res.length = i + 1 := by rw [h3.length_eq]; simp; omega
    obtain ⟨k, r, e, hu2, hp⟩ := ih (i + 1) res (by omega) hrl h2
    refine ⟨c + k + 1, r, ?_, hu2, hp.trans ?_⟩
    · rw [foolscapref16_Rising.l0, if_pos (by omega), if_pos (by omega)]
      rw [h1 k]; exact e
    · rw [drop_cons x0 i (by omega)]
      have := List.Perm.append_right (x0.drop (i + 1)) h3
      rw [List.append_assoc] at this
      exact this
theorem rise_eq (l : List Int) (hl : l.length ≤ 4096) : ∃ k r, foolscapref16_Rising.f k l = some r ∧ Up r ∧ r.Perm l := by
  obtain ⟨k, r, e, h1, h2⟩ := rise_l0 l hl l.length 0 [] (by omega) rfl List.Pairwise.nil
  exact ⟨k, r, e, h1, by simpa using h2⟩
theorem kth_up (r : List Int) (hu : Up r) (i : Nat) (h : i < r.length) : Kth r i (r.getD i 0) := by
  have e := List.take_append_drop i r
  have d := drop_cons r i h
  have hu2 : Up (r.take i ++ r.getD i 0 :: r.drop (i + 1)) := by rw [← d, e]; exact hu
  obtain ⟨p1, p2, p3⟩ := List.pairwise_append.mp hu2
  have p4 := (List.pairwise_cons.mp p2).1
  refine ⟨?_, ?_⟩
  · rw [count_split _ r i, count_zero (l := r.drop i) (fun z hz => by
      rw [d] at hz
      rcases List.mem_cons.mp hz with q | q
      · rw [q]; exact decide_eq_false (Int.lt_irrefl _)
      · have := p4 z q; exact decide_eq_false (by omega))]
    have : (r.take i).countP (· < r.getD i 0) ≤ (r.take i).length := List.countP_le_length
    rw [List.length_take] at this; omega
  · rw [count_split _ r i, count_len (l := r.take i) (fun z hz => decide_eq_true (p3 z hz (r.getD i 0) List.mem_cons_self)), List.length_take, d, List.countP_cons, if_pos (by simp)]
    omega
theorem kthN_up {l r : List Int} (hu : Up r) (hp : r.Perm l) (i : Nat) (h : i < l.length) : r.getD i 0 = kthN l i :=
  (kthN_eq ((kth_up r hu i (by rw [hp.length_eq]; exact h)).perm hp)).symm
/-- The numbers in order, with rounds enough for what else is asked. -/
theorem rise_at (l : List Int) (hl : l.length ≤ 4096) : ∃ k r, l.length + 10 ≤ k ∧ foolscapref16_Rising.f k l = some r ∧ Up r ∧ r.Perm l := by
  obtain ⟨k, r, e, h1, h2⟩ := rise_eq l hl
  exact ⟨k + (l.length + 10), r, by omega, at_rounds (g := fun k => foolscapref16_Rising.f k l) (foolscapref16_Rising.mono l) (Nat.le_add_right _ _) e, h1, h2⟩
--Q
theorem rsmall_x (l : List Int) (a : Int) {r : Int × Int} (h : some (smallN l a) = some r) : ∃ k, foolscapref16_Small.f k l a = some r := by
  rw [← h]
  unfold smallN
  by_cases hg : good l
  · obtain ⟨k, s, hk, e, hu, hp⟩ := rise_at l hg.1
    have hl := hg.1
    have hs := hp.length_eq
    refine ⟨k, ?_⟩
    unfold foolscapref16_Small.f
    rw [rgood_eq l k (by omega), Option.bind_some, if_pos (decide_eq_true hg)]
    by_cases c : 1 ≤ a ∧ a ≤ l.length
    · have w : wrap64 (a - 1) = (((a - 1).toNat : Nat) : Int) := by unfold wrap64; omega
      rw [if_neg (by omega), if_neg (by omega), e, Option.bind_some, w, if_pos (by omega), if_pos (by omega), rd_nat, kthN_up hu hp _ (by omega), if_pos (show good l ∧ 1 ≤ a ∧ a ≤ l.length from ⟨hg, c⟩)]
    · rw [if_neg (show ¬ (good l ∧ 1 ≤ a ∧ a ≤ l.length) from fun z => c z.2)]
      by_cases c2 : a < 1
      · rw [if_pos c2]
      · rw [if_neg c2, if_pos (by omega)]
  · refine ⟨l.length + 1, ?_⟩
    unfold foolscapref16_Small.f
    rw [rgood_eq l _ (Nat.le_refl _), Option.bind_some, if_neg (by simpa using hg), if_neg (fun z => hg z.1)]
theorem rlarge_x (l : List Int) (a : Int) {r : Int × Int} (h : some (largeN l a) = some r) : ∃ k, foolscapref16_Large.f k l a = some r := by
  rw [← h]
  unfold largeN
  by_cases hg : good l
  · obtain ⟨k, s, hk, e, hu, hp⟩ := rise_at l hg.1
    have hl := hg.1
    have hs := hp.length_eq
    refine ⟨k, ?_⟩
    unfold foolscapref16_Large.f
    rw [rgood_eq l k (by omega), Option.bind_some, if_pos (decide_eq_true hg)]
    by_cases c : 1 ≤ a ∧ a ≤ l.length
    · have w : wrap64 ((l.length : Int) - a) = ((((l.length : Int) - a).toNat : Nat) : Int) := by unfold wrap64; omega
      rw [if_neg (by omega), if_neg (by omega), e, Option.bind_some, w, if_pos (by omega), if_pos (by omega), rd_nat, kthN_up hu hp _ (by omega), if_pos (show good l ∧ 1 ≤ a ∧ a ≤ l.length from ⟨hg, c⟩)]
    · rw [if_neg (show ¬ (good l ∧ 1 ≤ a ∧ a ≤ l.length) from fun z => c z.2)]
      by_cases c2 : a < 1
      · rw [if_pos c2]
      · rw [if_neg c2, if_pos (by omega)]
  · refine ⟨l.length + 1, ?_⟩
    unfold foolscapref16_Large.f
    rw [rgood_eq l _ (Nat.le_refl _), Option.bind_some, if_neg (by simpa using hg), if_neg (fun z => hg z.1)]
--O
theorem often_l0 (l : List Int) (n : Int) (hl : l.length ≤ 4096) : ∀ m k i (c : Nat), i + m = l.length → m + 1 ≤ k → c ≤ i →
    foolscapref16_often.l0 k l n (c : Int) (i : Int) = some ((c + (l.drop i).count n : Nat) : Int) := by
  intro m
  induction m with
  | zero =>
    intro k i c hi hk hc
    obtain ⟨k, rfl⟩ : ∃ q, k = q + 1 := ⟨k - 1, by omega⟩
    rw [foolscapref16_often.l0, if_neg (by omega), List.drop_eq_nil_of_le (by omega), List.count_nil, Nat.add_zero]
  | succ m ih =>
    intro k i c hi hk hc
    obtain ⟨k, rfl⟩ : ∃ q, k = q + 1 := ⟨k - 1, by omega⟩
    rw [foolscapref16_often.l0, if_pos (by omega), if_pos (by omega), rd_nat, drop_cons l i (by omega), List.count_cons, w1 i (by omega)]
    by_cases e : l.getD i 0 = n
    · rw [if_pos e, w1 c (by omega), ih k (i + 1) (c + 1) (by omega) (by omega) (by omega), if_pos (by simpa using e)]
      congr 2; omega
    · rw [if_neg e, ih k (i + 1) c (by omega) (by omega) (by omega), if_neg (by simpa using e)]
      rfl
theorem often_eq (l : List Int) (n : Int) (hl : l.length ≤ 4096) (k : Nat) (hk : l.length + 1 ≤ k) : foolscapref16_often.f k l n = some ((l.count n : Nat) : Int) := by
  unfold foolscapref16_often.f
  have := often_l0 l n hl l.length k 0 0 (by omega) hk (by omega)
  rw [List.drop_zero, Nat.zero_add] at this
  exact this
--R
theorem rrank_l0 (l : List Int) (n : Int) (up : Bool) (hl : l.length ≤ 4096) : ∀ m k i (c : Nat), i + m = l.length → m + 1 ≤ k → c ≤ i →
    foolscapref16_Rank.l0 k n l up ((c : Int) + 1) (i : Int) = some ((((c + (l.drop i).countP (SD.ahead n up) : Nat) : Int) + 1) * 1000000, 0) := by
  intro m
  induction m with
  | zero =>
    intro k i c hi hk hc
    obtain ⟨k, rfl⟩ : ∃ q, k = q + 1 := ⟨k - 1, by omega⟩
    rw [foolscapref16_Rank.l0, if_neg (by omega), List.drop_eq_nil_of_le (by omega), List.countP_nil, Nat.add_zero]
    have w : wrap64 (((c : Int) + 1) * 1000000) = ((c : Int) + 1) * 1000000 := by unfold wrap64; omega
    rw [w]
  | succ m ih =>
    intro k i c hi hk hc
    obtain ⟨k, rfl⟩ : ∃ q, k = q + 1 := ⟨k - 1, by omega⟩
    have w2 : wrap64 ((c : Int) + 1 + 1) = ((c + 1 : Nat) : Int) + 1 := by unfold wrap64; omega
    have hA : ∀ (q : Bool), SD.ahead n up (l.getD i 0) = q → (c + (l.drop i).countP (SD.ahead n up)) = (if q then c + 1 else c) + (l.drop (i + 1)).countP (SD.ahead n up) := by
      intro q hq
      rw [drop_cons l i (by omega), List.countP_cons, hq]
      cases q <;> simp <;> omega
    rw [foolscapref16_Rank.l0, if_pos (by omega)]
    cases up
    · rw [if_neg (by decide), if_pos (by omega), rd_nat, w1 i (by omega)]
      by_cases c2 : l.getD i 0 > n
      · rw [if_pos c2, w2, ih k (i + 1) (c + 1) (by omega) (by omega) (by omega), hA true (by simpa [SD.ahead] using c2)]; rfl
      · rw [if_neg c2, ih k (i + 1) c (by omega) (by omega) (by omega), hA false (by simpa [SD.ahead] using c2)]; rfl
    · rw [if_pos rfl, if_pos (by omega), rd_nat, w1 i (by omega)]
      by_cases c2 : l.getD i 0 < n
      · rw [if_pos c2, w2, ih k (i + 1) (c + 1) (by omega) (by omega) (by omega), hA true (by simpa [SD.ahead] using c2)]; rfl
      · rw [if_neg c2, ih k (i + 1) c (by omega) (by omega) (by omega), hA false (by simpa [SD.ahead] using c2)]; rfl
theorem rrank_x (n : Int) (l : List Int) (up : Bool) {r : Int × Int} (h : some (rankN n l up) = some r) : ∃ k, foolscapref16_Rank.f k n l up = some r := by
  rw [← h]
  refine ⟨l.length + 3, ?_⟩
  unfold foolscapref16_Rank.f rankN
  rw [rgood_eq l _ (by omega), Option.bind_some]
  by_cases hg : good l
  · have hl := hg.1
    rw [if_pos (decide_eq_true hg), rfits_eq, Option.bind_some]
    by_cases hf : fits n
    · rw [if_pos (show good l ∧ fits n from ⟨hg, hf⟩), foolscapref16_Rank.j0, decide_eq_true hf, if_neg (by simp), often_eq l n hl _ (by omega), Option.bind_some]
      by_cases hm : n ∈ l
      · have := List.count_pos_iff.mpr hm
        rw [if_neg (by omega), if_pos hm]
        have := rrank_l0 l n up hl l.length (l.length + 2) 0 0 (by omega) (by omega) (by omega)
        rw [List.drop_zero, Nat.zero_add] at this
        exact this
      · have := List.count_eq_zero.mpr hm
        rw [if_pos (by omega), if_neg hm]
    · rw [if_neg (fun z => hf z.2), foolscapref16_Rank.j0, decide_eq_false hf, Bool.not_false, if_pos rfl]
  · rw [if_neg (by simpa using hg), if_neg (fun z => hg z.1), foolscapref16_Rank.j0, if_pos rfl]
--E
end Go.Proofs.Ytnmiagcjfbdfkaa.SQ
