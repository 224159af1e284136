/- What the statements' own words short and frames tell, in closed form. No condition stands open. -/
import Derived.Test.YtoegeljjfhbpeaaPHx
import Derived.Test.YtoegeljjfhbpeaaJ3
set_option linter.unusedVariables false
namespace Go.Proofs.Ytoegeljjfhbpeaa.J
open Go.RowKit Go.Proofs.YtoegeljjfhbpeaaW.PrintWords Go.Proofs.YtoegeljjfhbpeaaW.PrintLast Go.Proofs.YtoegeljjfhbpeaaW.PrintMore Go.Proofs.Ytoegeljjfhbpeaa.PG Go.Proofs.Ytoegeljjfhbpeaa.PH

/-! short, frames: closed -/
def shortL (l : List ByteArray) : Bool := decide (l.length ≤ 40) && l.all (fun s => decide (s.size ≤ 1000))
theorem short_iff (l : List ByteArray) : shortL l = true ↔ l.length ≤ 40 ∧ ∀ s ∈ l, s.size ≤ 1000 := by
  unfold shortL
  simp
theorem rd_at (l : List ByteArray) (i : Nat) (h : i < l.length) : rdOf ByteArray.empty l (i : Int) = l[i] := by simp [rdOf, List.getD, h]
theorem short_l (l : List ByteArray) : ∀ (d k i : Nat), i + d = 40 → d < k → i ≤ l.length → foolscaplaw31_short.l0 k l (i : Int) = some (decide (l.length ≤ 40) && (l.drop i).all (fun s => decide (s.size ≤ 1000)))
  | 0, k, i, h, hk, hi => by
    obtain ⟨k, rfl⟩ : ∃ j, k = j + 1 := ⟨k - 1, by omega⟩
    obtain rfl : i = 40 := by omega
    unfold foolscaplaw31_short.l0
    rcases Nat.lt_or_ge 40 l.length with h3 | h3
    · rw [if_pos (by omega), if_pos (by omega), decide_eq_false (by omega), Bool.false_and]
    · rw [if_neg (by omega), decide_eq_true (by omega), List.drop_eq_nil_of_le (by omega)]
      rfl
  | d + 1, k, i, h, hk, hi => by
    obtain ⟨k, rfl⟩ : ∃ j, k = j + 1 := ⟨k - 1, by omega⟩
    unfold foolscaplaw31_short.l0
    rcases Nat.lt_or_ge i l.length with h3 | h3
    · rw [if_pos (by omega), if_neg (by omega), if_pos (by omega), rd_at l i h3, List.drop_eq_getElem_cons h3, List.all_cons]
      by_cases hs : l[i].size ≤ 1000
      · rw [if_neg (by omega), wrap_succ (by omega) (by omega), show ((i : Int) + 1) = ((i + 1 : Nat) : Int) by omega, short_l l d k (i + 1) (by omega) (by omega) (by omega), decide_eq_true hs, Bool.true_and]
      · rw [if_pos (by omega), decide_eq_false hs, Bool.false_and, Bool.and_false]
    · rw [if_neg (by omega), decide_eq_true (by omega), List.drop_eq_nil_of_le (by omega)]
      rfl
theorem short_eq (l : List ByteArray) : foolscaplaw31_short.f 41 l = some (shortL l) := by
  have h := short_l l 40 41 0 rfl (by omega) (Nat.zero_le _)
  rw [List.drop_zero] at h
  exact h
theorem frame_f (n : Nat) (s : ByteArray) (hn : n ≤ 2147483647) (hs : s.size ≤ 65536) : PH.journal_Frame.f (n : Int) s = some (frameL (n : Int) (bytesOf s), 0) := by
  unfold PH.journal_Frame.f
  rw [if_pos (by omega), if_neg (by omega), if_neg (by omega)]
theorem frames_l (l : List ByteArray) (hl : l.length ≤ 2147483647) (hs : ∀ s ∈ l, s.size ≤ 65536) : ∀ (d k i : Nat) (b : List Int), i + d = l.length → d < k → b.length + (framesG i ((l.drop i).map bytesOf)).length < 140737488355328 →
    foolscaplaw31_frames.l0 k l b (i : Int) = some (b ++ framesG i ((l.drop i).map bytesOf))
  | 0, k, i, b, h, hk, hb => by
    obtain ⟨k, rfl⟩ : ∃ j, k = j + 1 := ⟨k - 1, by omega⟩
    unfold foolscaplaw31_frames.l0
    rw [if_neg (by omega), List.drop_eq_nil_of_le (by omega)]
    simp [framesG]
  | d + 1, k, i, b, h, hk, hb => by
    obtain ⟨k, rfl⟩ : ∃ j, k = j + 1 := ⟨k - 1, by omega⟩
    have h3 : i < l.length := by omega
    rw [List.drop_eq_getElem_cons h3, List.map_cons] at hb ⊢
    simp only [framesG, List.length_append] at hb ⊢
    unfold foolscaplaw31_frames.l0
    rw [if_pos (by omega), if_pos (by omega), rd_at l i h3, frame_f i _ (by omega) (hs _ (List.getElem_mem h3))]
    simp only [Option.bind_some]
    rw [if_pos (by omega), wrap_succ (by omega) (by omega), show ((i : Int) + 1) = ((i + 1 : Nat) : Int) by omega, frames_l l hl hs d k (i + 1) _ (by omega) (by omega) (by rw [List.length_append]; omega), List.append_assoc]
theorem framesG_max : ∀ (l : List (List Int)) (n : Nat), (∀ s ∈ l, s.length ≤ 1000) → (framesG n l).length ≤ 1008 * l.length
  | [], _, _ => Nat.zero_le _
  | s :: l, n, h => by
    simp only [framesG, List.length_append, frameL_len, List.length_cons]
    have h1 := h s (List.mem_cons_self ..)
    have h2 := framesG_max l (n + 1) (fun x hx => h x (List.mem_cons_of_mem _ hx))
    omega
theorem short_max {l : List ByteArray} (h : shortL l = true) (n : Nat) : (framesG n (l.map bytesOf)).length ≤ 40320 := by
  obtain ⟨h1, h2⟩ := (short_iff l).1 h
  have h3 := framesG_max (l.map bytesOf) n (fun s hs => by
    obtain ⟨x, hx, rfl⟩ := List.mem_map.1 hs
    rw [bytesOf_length]
    exact h2 x hx)
  rw [List.length_map] at h3
  omega
theorem frames_eq (l : List ByteArray) (h : shortL l = true) : foolscaplaw31_frames.f 41 l = some (framesG 0 (l.map bytesOf)) := by
  obtain ⟨h1, h2⟩ := (short_iff l).1 h
  have hf := frames_l l (by omega) (fun s hs => by have := h2 s hs; omega) l.length 41 0 [] (by omega) (by omega) (by
    have := short_max h 0
    rw [List.drop_zero, List.length_nil]
    omega)
  rw [List.drop_zero] at hf
  exact hf
end Go.Proofs.Ytoegeljjfhbpeaa.J
