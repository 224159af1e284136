import Derived.Test.YtoegeljjfhbpeaaPGx
set_option linter.unusedVariables false
set_option linter.unusedSimpArgs false
namespace Go.Proofs.Ytoegeljjfhbpeaa.J
open Go.RowKit Go.Proofs.YtoegeljjfhbpeaaW.PrintWords Go.Proofs.YtoegeljjfhbpeaaW.PrintLast Go.Proofs.YtoegeljjfhbpeaaW.PrintMore Go.Proofs.Ytoegeljjfhbpeaa.PG

/-! the sum of bytes -/
def bitN (n : Nat) : Nat := if n % 2 = 1 then (n / 2) ^^^ 2197175160 else n / 2
def bitsN : Nat → Nat → Nat
  | 0, r => r
  | k + 1, r => bitsN k (bitN r)
def stepN (r : Nat) (c : Int) : Nat := bitsN 8 (r ^^^ (c % 4294967296).toNat)
def sumN (l : List Int) : Nat := l.foldl stepN 4294967295 ^^^ 4294967295
def sumOf (l : List Int) : Int := (sumN l : Int)

theorem bitN_lt {n : Nat} (h : n < 4294967296) : bitN n < 4294967296 := by
  unfold bitN
  split
  · exact Nat.xor_lt_two_pow (n := 32) (by omega) (by omega)
  · omega
theorem bitsN_lt : ∀ (k : Nat) {n : Nat}, n < 4294967296 → bitsN k n < 4294967296
  | 0, _, h => h
  | k + 1, _, h => bitsN_lt k (bitN_lt h)
theorem stepN_lt {r : Nat} (h : r < 4294967296) (c : Int) : stepN r c < 4294967296 :=
  bitsN_lt 8 (Nat.xor_lt_two_pow (n := 32) h (by omega))
theorem fold_lt (l : List Int) {r : Nat} (h : r < 4294967296) : l.foldl stepN r < 4294967296 := by
  induction l generalizing r with
  | nil => exact h
  | cons c l ih => exact ih (stepN_lt h c)
theorem sumN_lt (l : List Int) : sumN l < 4294967296 := Nat.xor_lt_two_pow (n := 32) (fold_lt l (by omega)) (by omega)
theorem sumOf_range (l : List Int) : 0 ≤ sumOf l ∧ sumOf l ≤ 4294967295 := by
  have := sumN_lt l
  unfold sumOf
  omega

theorem xor32 (a b : Nat) (ha : a < 4294967296) (hb : b < 4294967296) : Go.bits .xor .u32 (a : Int) (b : Int) = ((a ^^^ b : Nat) : Int) := by
  have hx : a ^^^ b < 2 ^ 32 := Nat.xor_lt_two_pow (by omega) (by omega)
  have h1 : (BitVec.ofInt 32 (a : Int)).toNat = a := by
    rw [BitVec.ofInt_natCast, BitVec.toNat_ofNat]; exact Nat.mod_eq_of_lt (by omega)
  have h2 : (BitVec.ofInt 32 (b : Int)).toNat = b := by
    rw [BitVec.ofInt_natCast, BitVec.toNat_ofNat]; exact Nat.mod_eq_of_lt (by omega)
  show IntKind.u32.wrap ((BitVec.ofInt 32 (a : Int) ^^^ BitVec.ofInt 32 (b : Int)).toNat : Int) = _
  rw [BitVec.toNat_xor, h1, h2, IntKind.wrap_u32]
  omega
theorem wraps_u32 (n : Int) (h₀ : 0 ≤ n) (h₁ : n < 2 ^ 32) : IntKind.u32.wrap n = n := by rw [IntKind.wrap_u32]; omega
theorem and32 (a b : Nat) (ha : a < 4294967296) (hb : b < 4294967296) : Go.bits .and .u32 (a : Int) (b : Int) = ((a &&& b : Nat) : Int) :=
  (bits_nat .u32 32 (by decide) wraps_u32 a b (by omega) (by omega)).1
theorem and1 (a : Nat) (ha : a < 4294967296) : Go.bits .and .u32 (a : Int) 1 = ((a % 2 : Nat) : Int) := by
  have h := and32 a 1 ha (by omega)
  rw [Nat.and_one_is_mod] at h
  exact h
theorem all32 (b : Nat) (hb : b < 4294967296) : 4294967295 &&& b = b := by
  have h := Nat.and_two_pow_sub_one_eq_mod b 32
  rw [Nat.and_comm] at h
  have : b % 2 ^ 32 = b := Nat.mod_eq_of_lt (by omega)
  rw [this] at h
  exact h
/-- the code's turn -/
theorem turn_code (a : Nat) (ha : a < 4294967296) :
    Go.bits .xor .u32 ((a : Int) / 2) (Go.bits .and .u32 ((-(Go.bits .and .u32 (a : Int) 1)) % 4294967296) 2197175160) = ((bitN a : Nat) : Int) := by
  rw [and1 a ha]
  have hd : (a : Int) / 2 = ((a / 2 : Nat) : Int) := by omega
  rw [hd]
  unfold bitN
  rcases Nat.mod_two_eq_zero_or_one a with h | h
  · rw [h, if_neg (by omega)]
    have e : (-((0 : Nat) : Int)) % 4294967296 = ((0 : Nat) : Int) := by omega
    rw [e]
    have h1 := and32 0 2197175160 (by omega) (by omega)
    have h2 : Go.bits .and .u32 ((0 : Nat) : Int) 2197175160 = ((0 : Nat) : Int) := by rw [Nat.zero_and] at h1; exact h1
    rw [h2, xor32 (a / 2) 0 (by omega) (by omega), Nat.xor_zero]
  · rw [h, if_pos rfl]
    have e : (-((1 : Nat) : Int)) % 4294967296 = ((4294967295 : Nat) : Int) := by omega
    rw [e]
    have h1 := and32 4294967295 2197175160 (by omega) (by omega)
    have h2 : Go.bits .and .u32 ((4294967295 : Nat) : Int) 2197175160 = ((2197175160 : Nat) : Int) := by rw [all32 _ (by omega)] at h1; exact h1
    rw [h2, xor32 (a / 2) 2197175160 (by omega) (by omega)]
theorem into (a : Nat) (c : Int) (ha : a < 4294967296) : Go.bits .xor .u32 (a : Int) (c % 4294967296) = ((a ^^^ (c % 4294967296).toNat : Nat) : Int) := by
  have h := xor32 a (c % 4294967296).toNat ha (by omega)
  have e : (((c % 4294967296).toNat : Nat) : Int) = c % 4294967296 := by omega
  rw [e] at h
  exact h
theorem outof (a : Nat) (ha : a < 4294967296) : Go.bits .xor .u32 4294967295 (a : Int) = ((a ^^^ 4294967295 : Nat) : Int) := by
  have h := xor32 4294967295 a (by omega) ha
  rw [Nat.xor_comm] at h
  exact h
theorem wrap_succ {i : Int} (h0 : 0 ≤ i) (h1 : i ≤ 140737488355328) : wrap64 (i + 1) = i + 1 := by unfold wrap64; omega

/-- the code's inner loop -/
theorem sum_l1 (l : List Int) (x8 x9 : Int) : ∀ (d k : Nat) (a j : Nat), a < 4294967296 → j + d = 8 →
    journal_Sum.l1 (k + d + 1) (a : Int) l x8 x9 (j : Int) = journal_Sum.l0 k ((bitsN d a : Nat) : Int) l x8 (wrap64 (x9 + 1))
  | 0, k, a, j, ha, hj => by
    simp only [journal_Sum.l1, Nat.add_zero]
    rw [if_neg (by omega)]
    rfl
  | d + 1, k, a, j, ha, hj => by
    rw [show k + (d + 1) + 1 = (k + d + 1) + 1 by omega]
    rw [journal_Sum.l1]
    rw [if_pos (by omega), turn_code a ha, wrap_succ (by omega) (by omega)]
    have h := sum_l1 l x8 x9 d k (bitN a) (j + 1) (bitN_lt ha) (by omega)
    exact h
theorem sum_l0 (l : List Int) (hl : l.length ≤ 140737488355328) : ∀ (d k a i : Nat), a < 4294967296 → i + d = l.length →
    journal_Sum.l0 (k + 10 * d + 1) (a : Int) l (l.length : Int) (i : Int) = some ((((l.drop i).foldl stepN a ^^^ 4294967295 : Nat) : Nat) : Int)
  | 0, k, a, i, ha, hi => by
    simp only [journal_Sum.l0, Nat.mul_zero, Nat.add_zero]
    rw [if_neg (by omega), outof a ha, List.drop_eq_nil_of_le (by omega)]
    rfl
  | d + 1, k, a, i, ha, hi => by
    rw [show k + 10 * (d + 1) + 1 = ((k + 10 * d + 1) + 8 + 1) + 1 by omega]
    rw [journal_Sum.l0]
    rw [if_pos (by omega), if_pos (by omega), if_pos (by omega), into a _ ha]
    have h := sum_l1 l (l.length : Int) (i : Int) 8 (k + 10 * d + 1) (a ^^^ (rd l i % 4294967296).toNat) 0 (Nat.xor_lt_two_pow (n := 32) ha (by omega)) (by omega)
    rw [show ((0 : Nat) : Int) = 0 from rfl] at h
    rw [h, wrap_succ (by omega) (by omega)]
    have hlt : i < l.length := by omega
    have h2 := sum_l0 l hl d k (stepN a (rd l i)) (i + 1) (stepN_lt ha _) (by omega)
    rw [List.drop_eq_getElem_cons hlt, List.foldl_cons]
    have e : rd l (i : Int) = l[i] := by unfold rd; simp [hlt]
    rw [e] at h2 ⊢
    exact h2
theorem sum_eq (l : List Int) (hl : l.length ≤ 140737488355328) : journal_Sum.f (10 * l.length + 1) l = some (sumOf l) := by
  have h := sum_l0 l hl l.length 0 4294967295 0 (by omega) (by omega)
  rw [Nat.zero_add, List.drop_zero] at h
  exact h

/-- the document's turn -/
theorem turn_ref_odd (a : Nat) (ha : a < 4294967296) (h : a % 2 = 1) : Go.bits .xor .u32 ((a : Int) / 2) 2197175160 = ((bitN a : Nat) : Int) := by
  have hd : (a : Int) / 2 = ((a / 2 : Nat) : Int) := by omega
  unfold bitN
  rw [hd, if_pos h]
  exact xor32 (a / 2) 2197175160 (by omega) (by omega)
theorem turn_ref_even (a : Nat) (h : a % 2 = 0) : (a : Int) / 2 = ((bitN a : Nat) : Int) := by
  unfold bitN
  rw [if_neg (by omega)]
  omega
theorem rsum_l1 (l : List Int) (x4 : Int) : ∀ (d k : Nat) (a j : Nat), a < 4294967296 → j + d = 8 →
    foolscapref31_Sum.l1 (k + d + 1) l (a : Int) x4 (j : Int) = foolscapref31_Sum.l0 k l ((bitsN d a : Nat) : Int) (wrap64 (x4 + 1))
  | 0, k, a, j, ha, hj => by
    simp only [foolscapref31_Sum.l1, Nat.add_zero]
    rw [if_neg (by omega)]
    rfl
  | d + 1, k, a, j, ha, hj => by
    rw [show k + (d + 1) + 1 = (k + d + 1) + 1 by omega]
    rw [foolscapref31_Sum.l1]
    rw [if_pos (by omega), and1 a ha, wrap_succ (by omega) (by omega)]
    have h := rsum_l1 l x4 d k (bitN a) (j + 1) (bitN_lt ha) (by omega)
    rcases Nat.mod_two_eq_zero_or_one a with e | e
    · rw [e, if_neg (by omega), turn_ref_even a e]
      exact h
    · rw [e, if_pos (by rfl), turn_ref_odd a ha e]
      exact h
theorem rsum_l0 (l : List Int) (hl : l.length ≤ 140737488355328) : ∀ (d k a i : Nat), a < 4294967296 → i + d = l.length →
    foolscapref31_Sum.l0 (k + 10 * d + 1) l (a : Int) (i : Int) = some ((((l.drop i).foldl stepN a ^^^ 4294967295 : Nat) : Nat) : Int)
  | 0, k, a, i, ha, hi => by
    simp only [foolscapref31_Sum.l0, Nat.mul_zero, Nat.add_zero]
    rw [if_neg (by omega), outof a ha, List.drop_eq_nil_of_le (by omega)]
    rfl
  | d + 1, k, a, i, ha, hi => by
    rw [show k + 10 * (d + 1) + 1 = ((k + 10 * d + 1) + 8 + 1) + 1 by omega]
    rw [foolscapref31_Sum.l0]
    rw [if_pos (by omega), if_pos (by omega), into a _ ha]
    have h := rsum_l1 l (i : Int) 8 (k + 10 * d + 1) (a ^^^ (rd l i % 4294967296).toNat) 0 (Nat.xor_lt_two_pow (n := 32) ha (by omega)) (by omega)
    rw [show ((0 : Nat) : Int) = 0 from rfl] at h
    rw [h, wrap_succ (by omega) (by omega)]
    have hlt : i < l.length := by omega
    have h2 := rsum_l0 l hl d k (stepN a (rd l i)) (i + 1) (stepN_lt ha _) (by omega)
    rw [List.drop_eq_getElem_cons hlt, List.foldl_cons]
    have e : rd l (i : Int) = l[i] := by unfold rd; simp [hlt]
    rw [e] at h2 ⊢
    exact h2
theorem rsum_eq (l : List Int) (hl : l.length ≤ 140737488355328) : foolscapref31_Sum.f (10 * l.length + 1) l = some (sumOf l) := by
  have h := rsum_l0 l hl l.length 0 4294967295 0 (by omega) (by omega)
  rw [Nat.zero_add, List.drop_zero] at h
  exact h

/-! one byte turned turns the sum -/
theorem xor_r {a b c : Nat} (h : a ^^^ c = b ^^^ c) : a = b := by
  have h2 : (a ^^^ c) ^^^ c = (b ^^^ c) ^^^ c := by rw [h]
  rwa [Nat.xor_assoc, Nat.xor_assoc, Nat.xor_self, Nat.xor_zero, Nat.xor_zero] at h2
theorem xor_l {a b c : Nat} (h : c ^^^ a = c ^^^ b) : a = b := xor_r (c := c) (by rw [Nat.xor_comm a, Nat.xor_comm b]; exact h)
theorem bitN_inj {a b : Nat} (ha : a < 4294967296) (hb : b < 4294967296) (h : bitN a = bitN b) : a = b := by
  have top : ∀ n, n < 4294967296 → (bitN n).testBit 31 = decide (n % 2 = 1) := by
    intro n hn
    unfold bitN
    have hlow : (n / 2).testBit 31 = false := Nat.testBit_lt_two_pow (by omega)
    split
    · rename_i h1
      rw [Nat.testBit_xor, hlow, h1]
      decide
    · rename_i h1
      rw [hlow]
      simp [h1]
  have hp : decide (a % 2 = 1) = decide (b % 2 = 1) := by rw [← top a ha, ← top b hb, h]
  unfold bitN at h
  by_cases h1 : a % 2 = 1
  · have h2 : b % 2 = 1 := by simpa [h1] using hp
    rw [if_pos h1, if_pos h2] at h
    have h3 : a / 2 = b / 2 := xor_r h
    omega
  · have h2 : ¬ b % 2 = 1 := by simpa [h1] using hp
    rw [if_neg h1, if_neg h2] at h
    omega
theorem bitsN_inj : ∀ (k : Nat) {a b : Nat}, a < 4294967296 → b < 4294967296 → bitsN k a = bitsN k b → a = b
  | 0, _, _, _, _, h => h
  | k + 1, _, _, ha, hb, h => bitN_inj ha hb (bitsN_inj k (bitN_lt ha) (bitN_lt hb) h)
theorem stepN_inj {a b : Nat} (ha : a < 4294967296) (hb : b < 4294967296) (c : Int) (h : stepN a c = stepN b c) : a = b :=
  xor_r (bitsN_inj 8 (Nat.xor_lt_two_pow (n := 32) ha (by omega)) (Nat.xor_lt_two_pow (n := 32) hb (by omega)) h)
theorem stepN_inj2 {a : Nat} (ha : a < 4294967296) {c d : Int} (hc : 0 ≤ c ∧ c ≤ 255) (hd : 0 ≤ d ∧ d ≤ 255) (h : stepN a c = stepN a d) : c = d := by
  have := xor_l (bitsN_inj 8 (Nat.xor_lt_two_pow (n := 32) ha (by omega)) (Nat.xor_lt_two_pow (n := 32) ha (by omega)) h)
  omega
theorem fold_inj (l : List Int) {a b : Nat} (ha : a < 4294967296) (hb : b < 4294967296) (h : l.foldl stepN a = l.foldl stepN b) : a = b := by
  induction l generalizing a b with
  | nil => exact h
  | cons c l ih => exact stepN_inj ha hb c (ih (stepN_lt ha c) (stepN_lt hb c) h)
theorem sumOf_turn (p q : List Int) {c d : Int} (hc : 0 ≤ c ∧ c ≤ 255) (hd : 0 ≤ d ∧ d ≤ 255) (h : sumOf (p ++ c :: q) = sumOf (p ++ d :: q)) : c = d := by
  have h1 : sumN (p ++ c :: q) = sumN (p ++ d :: q) := Int.ofNat.inj h
  unfold sumN at h1
  have h2 := xor_r h1
  rw [List.foldl_append, List.foldl_append, List.foldl_cons, List.foldl_cons] at h2
  have hp : p.foldl stepN 4294967295 < 4294967296 := fold_lt p (by omega)
  exact stepN_inj2 hp hc hd (fold_inj q (stepN_lt hp _) (stepN_lt hp _) h2)
end Go.Proofs.Ytoegeljjfhbpeaa.J
