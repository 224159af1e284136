/- Whatever numbers are added and taken away again: the sum is as it was. The law in plain numbers. No condition. -/
import Derived.Test.YtbohfpjmglfjeaaPWideExactx
namespace Go.Proofs.Ytbohfpjmglfjeaa.Pure
open Go.RowKit Go.Proofs.Ytbohfpjmglfjeaa.PWideExact Go.Proofs.YtbohfpjmglfjeaaW.PrintWords Go.Proofs.YtbohfpjmglfjeaaW.PrintLast
open WPure

def sumTo (f : Nat → Int) : Nat → Int
  | 0 => 0
  | n + 1 => sumTo f n + f n
theorem sumTo_congr (f g : Nat → Int) (n : Nat) (h : ∀ j, j < n → f j = g j) : sumTo f n = sumTo g n := by
  induction n with
  | zero => rfl
  | succ n ih => simp only [sumTo]; rw [ih (fun j hj => h j (by omega)), h n (by omega)]
theorem sumTo_front (f : Nat → Int) (n : Nat) : sumTo f (n + 1) = f 0 + sumTo (fun j => f (j + 1)) n := by
  induction n with
  | zero => simp [sumTo]
  | succ n ih => rw [sumTo, ih]; simp only [sumTo]; omega
theorem sumTo_turn (f : Nat → Int) (n : Nat) : sumTo (fun j => f (n - 1 - j)) n = sumTo f n := by
  induction n with
  | zero => rfl
  | succ n ih =>
    rw [sumTo_front, sumTo, ← ih]
    have : sumTo (fun j => f (n + 1 - 1 - (j + 1))) n = sumTo (fun j => f (n - 1 - j)) n := sumTo_congr _ _ n (fun j hj => by
      show f (n + 1 - 1 - (j + 1)) = f (n - 1 - j)
      congr 1; omega)
    rw [this]
    simp only [Nat.add_sub_cancel, Nat.sub_zero]
    omega

theorem add_fail {s n : Int} (h : inW s) (hne : (addW (hiW s) (loW s) n).2.2 ≠ 0) : ((addW (hiW s) (loW s) n).1 == 0 && ((addW (hiW s) (loW s) n).2.1 == 0)) = true := by
  rw [addW_rep s n h] at hne ⊢
  by_cases c : fits n
  · rw [if_pos c] at hne ⊢
    by_cases d : inW (s + n)
    · rw [if_pos d] at hne; exact absurd rfl hne
    · rw [if_neg d]; rfl
  · rw [if_neg c]; rfl
theorem add_ok {s n : Int} (h : inW s) (he : (addW (hiW s) (loW s) n).2.2 = 0) : fits n ∧ inW (s + n) ∧ addW (hiW s) (loW s) n = (hiW (s + n), loW (s + n), 0) := by
  rw [addW_rep s n h] at he ⊢
  by_cases c : fits n
  · rw [if_pos c] at he ⊢
    by_cases d : inW (s + n)
    · rw [if_pos d]; exact ⟨c, d, rfl⟩
    · rw [if_neg d] at he; exact absurd he (by decide)
  · rw [if_neg c] at he; exact absurd he (by decide)

theorem succ_w (i n : Nat) (h : i < n) (hn : n ≤ 200) : wrap64 ((i : Int) + 1) = ((i + 1 : Nat) : Int) := by unfold wrap64; omega
theorem back_w (i n : Nat) (h : i < n) (hn : n ≤ 200) : wrap64 (wrap64 ((n : Int) - 1) - i) = ((n - 1 - i : Nat) : Int) := by unfold wrap64; omega
theorem fits_next {l : List Int} {i : Nat} (hf : ∀ j, j < i → fits (rd l (j : Nat))) (h : fits (rd l (i : Nat))) : ∀ j, j < i + 1 → fits (rd l (j : Nat)) := fun j hj => by
  rcases Nat.lt_succ_iff_lt_or_eq.mp hj with h1 | h1
  · exact hf j h1
  · rw [h1]; exact h
theorem ex_l1 (l : List Int) (s0 : Int) (hl : l.length ≤ 200) (hf : ∀ j, j < l.length → fits (rd l (j : Nat))) (d : Nat) : ∀ (k i : Nat), i + d = l.length → d < k →
    inW (s0 + sumTo (fun j => rd l (j : Nat)) l.length - sumTo (fun j => rd l (j : Nat)) i) →
    foolscaplaw03_WideExact.l1 k l i (hiW s0) (loW s0) (hiW (s0 + sumTo (fun j => rd l (j : Nat)) l.length - sumTo (fun j => rd l (j : Nat)) i)) (loW (s0 + sumTo (fun j => rd l (j : Nat)) l.length - sumTo (fun j => rd l (j : Nat)) i)) = some true := by
  induction d with
  | zero =>
    intro k i hi hk hin
    obtain ⟨k, rfl⟩ : ∃ m, k = m + 1 := ⟨k - 1, by omega⟩
    have e : i = l.length := by omega
    rw [foolscaplaw03_WideExact.l1, if_neg (by omega), e]
    have : s0 + sumTo (fun j => rd l (j : Nat)) l.length - sumTo (fun j => rd l (j : Nat)) l.length = s0 := by omega
    rw [this]
    simp [foolscaplaw03_lives.f]
  | succ d ih =>
    intro k i hi hk hin
    obtain ⟨k, rfl⟩ : ∃ m, k = m + 1 := ⟨k - 1, by omega⟩
    rw [foolscaplaw03_WideExact.l1, if_pos (by omega), if_pos (by omega)]
    unfold wide_Sub.f foolscaplaw03_lives.f
    simp only [Option.bind_some]
    have hst : s0 + sumTo (fun j => rd l (j : Nat)) l.length - sumTo (fun j => rd l (j : Nat)) (i + 1) = s0 + sumTo (fun j => rd l (j : Nat)) l.length - sumTo (fun j => rd l (j : Nat)) i - rd l (i : Nat) := by
      rw [sumTo]; omega
    have := ih k (i + 1) (by omega) (by omega)
    rw [hst] at this
    generalize s0 + sumTo (fun j => rd l (j : Nat)) l.length - sumTo (fun j => rd l (j : Nat)) i = t at *
    rw [subW_rep t _ hin, if_pos (hf i (by omega))]
    by_cases c : inW (t - rd l (i : Nat))
    · rw [if_pos c]
      have w := succ_w i l.length (by omega) hl
      rw [w]
      have := this c
      simpa using this
    · rw [if_neg c]
      simp

theorem ex_l0 (l : List Int) (s0 : Int) (hl : l.length ≤ 200) (d : Nat) : ∀ (k i : Nat), i + d = l.length → 2 * d + l.length + 10 < k →
    (∀ j, j < i → fits (rd l (j : Nat))) →
    inW (s0 + sumTo (fun j => rd l (j : Nat)) i) → inW (s0 + sumTo (fun j => rd l ((l.length - 1 - j : Nat) : Int)) i) →
    foolscaplaw03_WideExact.l0 k l i (hiW s0) (loW s0) (hiW (s0 + sumTo (fun j => rd l (j : Nat)) i)) (loW (s0 + sumTo (fun j => rd l (j : Nat)) i))
      (hiW (s0 + sumTo (fun j => rd l ((l.length - 1 - j : Nat) : Int)) i)) (loW (s0 + sumTo (fun j => rd l ((l.length - 1 - j : Nat) : Int)) i)) = some true := by
  induction d with
  | zero =>
    intro k i hi hk hf a b
    obtain ⟨k, rfl⟩ : ∃ m, k = m + 1 := ⟨k - 1, by omega⟩
    obtain rfl : l.length = i := by omega
    have hturn := sumTo_turn (fun j => rd l (j : Nat)) l.length
    rw [foolscaplaw03_WideExact.l0, if_neg (by omega), hturn]
    have := ex_l1 l s0 hl hf l.length k 0 (by omega) (by omega)
    simp only [sumTo, Int.sub_zero] at this
    simpa using this a
  | succ d ih =>
    intro k i hi hk hf a b
    obtain ⟨k, rfl⟩ : ∃ m, k = m + 2 := ⟨k - 2, by omega⟩
    rw [foolscaplaw03_WideExact.l0, if_pos (by omega), if_pos (by omega)]
    unfold wide_Add.f
    simp only [Option.bind_some]
    have w := back_w i l.length (by omega) hl
    rw [w, if_pos (by omega), if_pos (by omega)]
    have nx := ih k (i + 1) (by omega) (by omega)
    simp only [sumTo, ← Int.add_assoc] at nx
    generalize s0 + sumTo (fun j => rd l (j : Nat)) i = x at *
    generalize s0 + sumTo (fun j => rd l ((l.length - 1 - j : Nat) : Int)) i = y at *
    have err : (addW (hiW x) (loW x) (rd l (i : Nat))).2.2 ≠ 0 ∨ (addW (hiW y) (loW y) (rd l ((l.length - 1 - i : Nat) : Int))).2.2 ≠ 0 →
        foolscaplaw03_WideExact.j2 (k + 1) l i (addW (hiW x) (loW x) (rd l (i : Nat))).2.2 (addW (hiW y) (loW y) (rd l ((l.length - 1 - i : Nat) : Int))).2.2 true (hiW s0) (loW s0) (addW (hiW x) (loW x) (rd l (i : Nat))).1 (addW (hiW x) (loW x) (rd l (i : Nat))).2.1 (addW (hiW y) (loW y) (rd l ((l.length - 1 - i : Nat) : Int))).1 (addW (hiW y) (loW y) (rd l ((l.length - 1 - i : Nat) : Int))).2.1 = some true := by
      intro _
      rw [foolscaplaw03_WideExact.j2, if_pos rfl]
      unfold foolscaplaw03_lives.f
      simp only [Option.bind_some]
      by_cases c1 : (addW (hiW x) (loW x) (rd l (i : Nat))).2.2 = 0
      · rw [if_pos c1]
        by_cases c2 : (addW (hiW y) (loW y) (rd l ((l.length - 1 - i : Nat) : Int))).2.2 = 0
        · rw [if_pos c2]
        · rw [if_neg c2, if_pos (add_fail b c2)]
      · rw [if_neg c1, if_pos (add_fail a c1)]
        by_cases c2 : (addW (hiW y) (loW y) (rd l ((l.length - 1 - i : Nat) : Int))).2.2 = 0
        · rw [if_pos c2]
        · rw [if_neg c2, if_pos (add_fail b c2)]
    by_cases c1 : (addW (hiW x) (loW x) (rd l (i : Nat))).2.2 = 0
    · rw [if_pos c1]
      by_cases c2 : (addW (hiW y) (loW y) (rd l ((l.length - 1 - i : Nat) : Int))).2.2 = 0
      · obtain ⟨f1, i1, e1⟩ := add_ok a c1
        obtain ⟨_, i2, e2⟩ := add_ok b c2
        rw [e1, e2]
        simp only
        rw [foolscaplaw03_WideExact.j2, if_neg (by decide)]
        have w2 := succ_w i l.length (by omega) hl
        rw [w2]
        exact nx (fits_next hf f1) i1 i2
      · rw [show ((addW (hiW y) (loW y) (rd l ((l.length - 1 - i : Nat) : Int))).2.2 != 0) = true by simpa using c2]
        exact err (.inr c2)
    · rw [if_neg c1]
      exact err (.inl c1)

theorem WideExact (h l0 : Int) (l : List Int) (_ : (Lit.int .i64 h).wf = true) (_ : (Lit.int .i64 l0).wf = true) (_ : l.length ≤ maxLen) (_ : l.length * 8 ≤ 140737488351232) (_ : ∀ x ∈ l, (Lit.int .i64 x).wf = true) :
    ∃ k, foolscaplaw03_WideExact.f k h l0 l = some true := by
  refine ⟨1000, ?_⟩
  unfold foolscaplaw03_WideExact.f wide_Check.f
  simp only [Option.bind_some]
  have triv : foolscaplaw03_WideExact.j0 1000 l true h l0 = some true := by
    simp [foolscaplaw03_WideExact.j0, foolscaplaw03_lives.f]
  unfold checkW
  by_cases hr : right h l0
  · rw [if_pos (by rw [if_pos hr])]
    by_cases hl : (l.length : Int) > 200
    · rw [decide_eq_true hl]; exact triv
    · rw [decide_eq_false hl, show (1000 : Nat) = 999 + 1 from rfl, foolscaplaw03_WideExact.j0, if_neg (by decide)]
      obtain ⟨i1, e1, e2⟩ := rep_of h l0 hr
      generalize h * 1000000000000000000 + l0 = s at *
      have := ex_l0 l s (by omega) l.length 999 0 (by omega) (by omega) (fun j hj => by omega)
      simp only [sumTo, Int.add_zero] at this
      rw [← e1, ← e2]
      simpa using this i1 i1
  · rw [if_neg (by rw [if_neg hr]; decide)]
    exact triv
end Go.Proofs.Ytbohfpjmglfjeaa.Pure
