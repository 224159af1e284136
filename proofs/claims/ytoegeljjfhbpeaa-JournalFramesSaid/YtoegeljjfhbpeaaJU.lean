import Derived.Test.YtoegeljjfhbpeaaJS
import Derived.Test.YtoegeljjfhbpeaaPGx
set_option linter.unusedVariables false
set_option linter.unusedSimpArgs false
namespace Go.Proofs.Ytoegeljjfhbpeaa.J
open Go.RowKit Go.Proofs.YtoegeljjfhbpeaaW.PrintWords Go.Proofs.YtoegeljjfhbpeaaW.PrintLast Go.Proofs.YtoegeljjfhbpeaaW.PrintMore Go.Proofs.Ytoegeljjfhbpeaa.PG

theorem same_l (a b : List ByteArray) (hl : a.length = b.length) (hm : a.length ≤ 140737488355328) : ∀ (d k i : Nat), i + d = a.length → d < k → foolscapref31_Same.l0 k a b (i : Int) = some (decide (a.drop i = b.drop i))
  | 0, k, i, h, hk => by
    obtain ⟨k, rfl⟩ : ∃ j, k = j + 1 := ⟨k - 1, by omega⟩
    unfold foolscapref31_Same.l0
    rw [if_neg (by omega), List.drop_eq_nil_of_le (by omega), List.drop_eq_nil_of_le (by omega)]
    rfl
  | d + 1, k, i, h, hk => by
    obtain ⟨k, rfl⟩ : ∃ j, k = j + 1 := ⟨k - 1, by omega⟩
    have ia : i < a.length := by omega
    have ib : i < b.length := by omega
    unfold foolscapref31_Same.l0
    rw [if_pos (by omega), if_pos (by omega), if_pos (by omega)]
    have ea : rdOf ByteArray.empty a (i : Int) = a[i] := by simp [rdOf, List.getD, ia]
    have eb : rdOf ByteArray.empty b (i : Int) = b[i] := by simp [rdOf, List.getD, ib]
    have key : (a.drop i = b.drop i) ↔ (a[i] = b[i] ∧ a.drop (i + 1) = b.drop (i + 1)) := by
      rw [List.drop_eq_getElem_cons ia, List.drop_eq_getElem_cons ib]
      constructor
      · intro h
        injection h with h1 h2
        exact ⟨h1, h2⟩
      · rintro ⟨h1, h2⟩
        rw [h1, h2]
    rw [ea, eb, wrap_succ (by omega) (by omega), show ((i : Int) + 1) = ((i + 1 : Nat) : Int) by omega, same_l a b hl hm d k (i + 1) (by omega) (by omega)]
    by_cases e : a[i] = b[i]
    · rw [if_pos (by rw [e])]
      exact congrArg some (decide_eq_decide.2 ⟨fun h => key.2 ⟨e, h⟩, fun h => (key.1 h).2⟩)
    · rw [if_neg (fun h => e (toList_inj h))]
      exact congrArg some (decide_eq_false (fun h => e (key.1 h).1)).symm
theorem same_eq (a b : List ByteArray) (hm : a.length ≤ 140737488355328) : foolscapref31_Same.f (a.length + 1) a b = some (decide (a = b)) := by
  unfold foolscapref31_Same.f
  by_cases hl : a.length = b.length
  · rw [if_pos (by omega)]
    have h := same_l a b hl hm a.length (a.length + 1) 0 (by omega) (by omega)
    simpa using h
  · rw [if_neg (by omega)]
    simp
    intro e
    exact hl (by rw [e])
abbrev ReadsS (w : World) (A : Option Addr) (n : Nat) (xs : List ByteArray) : Prop := ReadsOf Value.string ByteArray.empty w A n xs
theorem own_rdS {w : World} {base n : Nat} {v : Value} {xs : List ByteArray} (h : w.ownsRow base 9 1 v n (xs.map Value.string)) : ∃ A c, v = .slice A n c ∧ n ≤ c ∧ ReadsS w A n xs := own_reads_of_le (enc := Value.string) (d := ByteArray.empty) h
theorem same_any (A : Option Addr) (n c : Nat) (a : List ByteArray) (B : Option Addr) (m d : Nat) (b : List ByteArray) (w : World) (hA : ReadsS w A n a) (hc : n ≤ c) (hB : ReadsS w B m b) (hd : m ≤ d) (hm : n ≤ 140737488355328) :
    Calls Try.prog 17 #[.slice A n c, .slice B m d] w fun e w' => e = .returned (.bool (decide (a = b))) ∧ Below w.heap.size w w' := by
  have e1 := hA.1
  have e2 := hB.1
  subst e1 e2
  exact (foolscapref31_Same.calls (a.length + 1) A c a B d b _ w (Kd.C_of_reads (d := ByteArray.empty) hA) hc (Kd.C_of_reads (d := ByteArray.empty) hB) hd (same_eq a b hm)).mono fun e w' ⟨he, hd⟩ => ⟨he, hd.below⟩
end Go.Proofs.Ytoegeljjfhbpeaa.J
