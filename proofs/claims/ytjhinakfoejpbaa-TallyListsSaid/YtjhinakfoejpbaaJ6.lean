/- A tally of numbers. No condition stands open. -/
import Derived.Test.YtjhinakfoejpbaaJ5
set_option linter.unusedVariables false
set_option linter.unusedSimpArgs false
/- A tally of numbers; how high it may be. No condition stands open. -/
namespace Go.Proofs.Ytjhinakfoejpbaa.T
open Go.RowKit Go.Proofs.Ytjhinakfoejpbaa.WPure Go.Proofs.YtjhinakfoejpbaaW.PrintWords Go.Proofs.YtjhinakfoejpbaaW.PrintLast Go.Proofs.YtjhinakfoejpbaaW.PrintMore
/-- the values of numbers -/
def numsV (l : List Int) : List Val := l.map numV
theorem numsL_numsV (l : List Int) : numsL (numsV l) = l := by
  induction l with
  | nil => rfl
  | cons a l ih =>
    show numsL (numV a :: numsV l) = _
    rw [numsL_cons, if_pos rfl, ih]
theorem fault_numsV (l : List Int) : faultR (numsV l) = 0 := by
  have e : ∀ c, c < 8 → ((((numsV l).countP (slot (2 + c)) : Nat) : Int)) = 0 := fun c hc => by
    have z : (numsV l).countP (slot (2 + c)) = 0 := List.countP_eq_zero.2 (fun x hx => by
      obtain ⟨a, _, rfl⟩ := List.mem_map.1 hx
      unfold slot
      rw [decide_eq_true_iff]
      show ¬ (2 + c = 15 ∨ ((2 + c : Nat) : Int) = 10 + 1 ∨ ((1 : Int) = 3 ∧ _) ∨ ((1 : Int) = 4 ∧ _))
      omega)
    rw [z]
    rfl
  have z : faultR (numsV l) = leastF (fun _ => 0) 0 8 := leastF_congr 8 0 (fun j _ hj => e j (by omega))
  rw [z]
  rfl
theorem told_numsV (l : List Int) (r : Int × Int) : toldR (numsV l) r = r := toldR_no (fault_numsV l) r
theorem ok_numV {a : Int} (h : fits a) : okV (numV a) = true := by
  show rightB 1 a ⟨#[]⟩ false 0 = true
  unfold fits at h
  simp [rightB, fitsB, h.1, h.2]
  rfl
theorem ok_numV' {a : Int} (h : ¬ fits a) : okV (numV a) = false := by
  show rightB 1 a ⟨#[]⟩ false 0 = false
  unfold fits at h
  simp [rightB, fitsB]
  omega
theorem held_numV (a : Int) : held (numV a) = numV a := rfl
theorem add_numV {a : Int} (h : fits a) {l : List Int} (hl : l.length < 4096) : addE (numsV l) (numV a) = 0 ∧ addL (numsV l) (numV a) = numsV (a :: l) := add_oks (L := numsV l) (ok_numV h) (by unfold numsV; rw [List.length_map]; exact hl)
theorem kind_numsV (l : List Int) : kindR (numsV l) 1 = l.length := by
  unfold kindR
  rw [← numsL_len, numsL_numsV]
theorem below_numsV (l : List Int) (x : Int) : belowR (numsV l) x = l.countP fun a => decide (a < x) := by
  unfold belowR
  rw [numsL_numsV]
theorem often_numsV (l : List Int) {x : Int} (h : fits x) : oftenR (numsV l) (numV x) = l.count x := by
  unfold oftenR
  rw [if_pos (ok_numV h), held_numV]
  induction l with
  | nil => rfl
  | cons a l ih =>
    show cnt (numV a :: numsV l) (numV x) = _
    rw [cnt_cons, ih, List.count_cons]
    by_cases e : a = x
    · subst e
      rw [if_pos rfl, if_pos (by simp)]
    · rw [if_neg (fun z => e (congrArg (fun y : Val => y.2.1) z)), if_neg (by simpa using e)]
theorem small_numsV (l : List Int) (k : Nat) (h1 : 1 ≤ k) (h2 : k ≤ l.length) : toldR (numsV l) (smallR (numsV l) (k : Int)) = (kthN l (k - 1), 0) := by
  rw [told_numsV]
  unfold smallR
  rw [numsL_numsV, if_pos ⟨by omega, by omega⟩, show ((k : Int) - 1).toNat = k - 1 by omega]
section
variable {w : World} {S : Nat → Prop} {g n : Nat} {L : List Val}
theorem Tal.kth (h : Tal w S g n L) {i : Nat} (hi : i < (numsL L).length) : Kth (numsL L) i (kthN (numsL L) i) := by
  obtain ⟨t, _, _, hs, hp, _⟩ := h.height
  have e := (kth_up (row t) (row_sorted hs) i (by rw [hp.length_eq]; exact hi)).perm hp
  rwa [kthN_eq e]
theorem kth_rise {l : List Int} {i j : Nat} {u v : Int} (hu : Kth l i u) (hv : Kth l j v) (h : i ≤ j) : u ≤ v := by
  rcases Int.lt_or_le v u with z | z
  · have e : l.countP (fun a => decide (a ≤ v)) ≤ l.countP (fun a => decide (a < u)) := List.countP_mono_left (fun x _ hx => by simp at *; omega)
    have h1 := hu.1
    have h2 := hv.2
    exact absurd (Nat.lt_of_lt_of_le h2 (Nat.le_trans e h1)) (by omega)
  · exact z
theorem countP_le_lt (l : List Int) (v : Int) : l.countP (fun a => decide (a ≤ v)) = l.countP (fun a => decide (a < v)) + l.count v := by
  induction l with
  | nil => rfl
  | cons a l ih =>
    rw [List.countP_cons, List.countP_cons, List.count_cons, ih]
    rcases Int.lt_trichotomy a v with z | z | z
    · rw [if_pos (by simp; omega), if_pos (by simpa using z), if_neg (by simp; omega)]
      omega
    · subst z
      rw [if_pos (by simp), if_neg (by simp), if_pos (by simp)]
      omega
    · rw [if_neg (by simp; omega), if_neg (by simp; omega), if_neg (by simp; omega)]
      omega
end
/-! how high -/
def bits : Nat → Nat → Nat
  | 0, _ => 0
  | f + 1, n => if n = 0 then 0 else bits f (n / 2) + 1
theorem bits_lt : ∀ f n, n ≤ f → n < 2 ^ bits f n
  | 0, n, h => by
    obtain rfl : n = 0 := by omega
    decide
  | f + 1, n, h => by
    unfold bits
    by_cases e : n = 0
    · rw [if_pos e]
      subst e
      decide
    · rw [if_neg e, Nat.pow_succ]
      have := bits_lt f (n / 2) (by omega)
      omega
theorem bits_le : ∀ f n, bits f n ≤ f
  | 0, _ => Nat.le_refl _
  | f + 1, n => by
    unfold bits
    split
    · exact Nat.zero_le _
    · exact Nat.succ_le_succ (bits_le f _)
theorem tall_l0 : ∀ f n (h : Nat), n ≤ f → n ≤ 1099511627776 → h + 3 * f ≤ 1099511627776 → PG.foolscapref20_Tall.l0 (f + 1) (n : Int) (h : Int) = some (((h + 3 * bits f n : Nat)) : Int)
  | 0, n, h, hn, h1, h2 => by
    obtain rfl : n = 0 := by omega
    rw [PG.foolscapref20_Tall.l0, if_neg (by omega)]
    rfl
  | f + 1, n, h, hn, h1, h2 => by
    rw [PG.foolscapref20_Tall.l0]
    unfold bits
    by_cases e : n = 0
    · rw [if_neg (by omega), if_pos e]
      rfl
    · rw [if_pos (by omega), if_neg e]
      rw [show wrap64 (Int.tdiv (n : Int) 2) = ((n / 2 : Nat) : Int) by
        unfold wrap64
        rw [Int.tdiv_eq_ediv_of_nonneg (by omega)]
        omega, show wrap64 ((h : Int) + 3) = ((h + 3 : Nat) : Int) by unfold wrap64; omega]
      rw [tall_l0 f (n / 2) (h + 3) (by omega) (by omega) (by omega)]
      congr 2
      omega
def tallN (n : Nat) : Nat := 2 + 3 * bits n n
theorem tall_any (n : Nat) (hn : n ≤ 1000000) (w : World) : Calls Try.prog 36 #[.int .i64 (n : Int)] w fun e w' => e = .returned (.int .i64 (tallN n : Nat)) ∧ Below w.heap.size w w' := by
  have e := PG.foolscapref20_Tall.calls (n + 1) (n : Int) _ w (tall_l0 n n 2 (Nat.le_refl _) (by omega) (by omega))
  exact e.mono fun e w' ⟨he, hd⟩ => ⟨he, hd.below⟩
theorem high_tall {t : Tree} (h : Bal t) {n : Nat} (hn : siz t ≤ n) : highT t ≤ tallN n := by
  have e := high_bits h (bits n n) (by have := bits_lt n n (Nat.le_refl _); omega)
  unfold tallN
  omega
end Go.Proofs.Ytjhinakfoejpbaa.T
