/- Rows of values. No condition stands open. -/
import Derived.Test.YtjhinakfoejpbaaJ6
import Derived.Test.YtjhinakfoejpbaaJ4
import Derived.Deep.Slices
set_option linter.unusedVariables false
set_option linter.unusedSimpArgs false
/- The values of a row that are right, as they are held. No condition stands open. -/
namespace Go.Proofs.Ytjhinakfoejpbaa.T
open Go.RowKit Go.Proofs.Ytjhinakfoejpbaa.WPure Go.Proofs.YtjhinakfoejpbaaW.PrintWords Go.Proofs.YtjhinakfoejpbaaW.PrintLast Go.Proofs.YtjhinakfoejpbaaW.PrintMore
def okH (l : List Val) : List Val := (l.filter okV).map held
/-- a value of a row, as it is loaded -/
theorem VRow.at {w : World} {A : Option Addr} {n : Nat} {l : List Val} (h : VRow w A n l) {i : Nat} (hi : i < n) : ∃ ad x, A = some ad ∧ l[i]? = some x ∧ w.cell? (ad.add (i * 5)) = some (.int .i64 x.1) ∧ w.cell? ⟨(ad.add (i * 5)).block, (ad.add (i * 5)).off + 1, none⟩ = some (.int .i64 x.2.1) ∧ w.cell? ⟨(ad.add (i * 5)).block, (ad.add (i * 5)).off + 2, none⟩ = some (.string x.2.2.1) ∧ w.cell? ⟨(ad.add (i * 5)).block, (ad.add (i * 5)).off + 3, none⟩ = some (.bool x.2.2.2.1) ∧ w.cell? ⟨(ad.add (i * 5)).block, (ad.add (i * 5)).off + 4, none⟩ = some (.int .i64 x.2.2.2.2) := by
  obtain ⟨ad, e, hc⟩ := h.2.2 (by omega)
  have hi2 : i < l.length := by rw [h.1]; exact hi
  obtain ⟨c0, c1, c2, c3, c4⟩ := hc i _ (List.getElem?_eq_getElem hi2)
  rw [add_field _ _ _ (by decide)] at c1 c2 c3 c4
  exact ⟨ad, _, e, List.getElem?_eq_getElem hi2, c0, c1, c2, c3, c4⟩
section
variable {w : World} {S : Nat → Prop} {g n : Nat} {L : List Val} (h : Tal w S g n L)
include h
theorem Tal.sumEq {r : Int × Int} (e : toldR L (sumR L) = r) : Calls Try.prog 9 #[.pointer (some ⟨g, 0, none⟩)] w fun e w' => e = .returned (.tuple #[.int .i64 r.1, .int .i64 r.2]) ∧ Below w.heap.size w w' := e ▸ h.sum
theorem Tal.medianEq {r : Int × Int} (e : toldR L (midR L) = r) : Calls Try.prog 12 #[.pointer (some ⟨g, 0, none⟩)] w fun e w' => e = .returned (.tuple #[.int .i64 r.1, .int .i64 r.2]) ∧ Below w.heap.size w w' := e ▸ h.median
theorem Tal.smallEq (k : Int) {r : Int × Int} (e : toldR L (smallR L k) = r) : Calls Try.prog 11 #[.pointer (some ⟨g, 0, none⟩), .int .i64 k] w fun e w' => e = .returned (.tuple #[.int .i64 r.1, .int .i64 r.2]) ∧ Below w.heap.size w w' := e ▸ h.small k
theorem Tal.meanEq {r : Int × Int} (e : toldR L (meanR L) = r) : Calls Try.prog 10 #[.pointer (some ⟨g, 0, none⟩)] w fun e w' => e = .returned (.tuple #[.int .i64 r.1, .int .i64 r.2]) ∧ Below w.heap.size w w' := e ▸ h.mean
theorem Tal.leastEq {r : Int × Int} (e : toldR L (endR L 0) = r) : Calls Try.prog 13 #[.pointer (some ⟨g, 0, none⟩)] w fun e w' => e = .returned (.tuple #[.int .i64 r.1, .int .i64 r.2]) ∧ Below w.heap.size w w' := e ▸ h.least
theorem Tal.greatestEq {r : Int × Int} (e : toldR L (endR L ((numsL L).length - 1)) = r) : Calls Try.prog 31 #[.pointer (some ⟨g, 0, none⟩)] w fun e w' => e = .returned (.tuple #[.int .i64 r.1, .int .i64 r.2]) ∧ Below w.heap.size w w' := e ▸ h.greatest
theorem Tal.faultEq (m : Nat) (e : faultR L = m) : Calls Try.prog 18 #[.pointer (some ⟨g, 0, none⟩)] w fun e w' => e = .returned (.int .i64 (m : Int)) ∧ w = w' := e ▸ h.fault
theorem Tal.belowEq (x : Int) (m : Nat) (e : belowR L x = m) : Calls Try.prog 19 #[.pointer (some ⟨g, 0, none⟩), .int .i64 x] w fun e w' => e = .returned (.int .i64 (m : Int)) ∧ Below w.heap.size w w' := e ▸ h.belows x
end
end Go.Proofs.Ytjhinakfoejpbaa.T

/- Rows of values that are handed in, opened. No condition stands open. -/
namespace Go.Proofs.Ytjhinakfoejpbaa.T
open Go.ChangeShapes Go.WideShapes Go.ChangeAt Go.RowKit Go.Joins Go.Deep
section
variable {H : Type} {enc : TypeId × Value → H} {w : World} {base : Nat} {spare : Nat → Bool} {held : Bool}
theorem each_list {α : Type} {p : Nat → α → Prop} : ∀ (n : Nat), (∀ i, i < n → ∃ x, p i x) → ∃ l : List α, l.length = n ∧ ∀ j x, l[j]? = some x → p j x
  | 0, _ => ⟨[], rfl, fun j x h => by simp at h⟩
  | n + 1, h => by
    obtain ⟨l, hl, hp⟩ := each_list n (fun i hi => h i (by omega))
    obtain ⟨x, hx⟩ := h n (Nat.lt_succ_self n)
    refine ⟨l ++ [x], by simp [hl], fun j y hj => ?_⟩
    rcases Nat.lt_or_ge j l.length with q | q
    · rw [List.getElem?_append_left q] at hj
      exact hp j y hj
    · have e : j = n := by
        have := (List.getElem?_eq_some_iff.1 hj).1
        rw [List.length_append, List.length_singleton] at this
        omega
      subst e
      rw [List.getElem?_append_right q, hl] at hj
      simp at hj
      exact hj ▸ hx
theorem slice_len {t e : TypeId} {a : Option Addr} {len cap : Nat} {d : DataW H} {p : List MemPlace} (ht : Try.prog.underlying t = some (.slice e)) (h : DataW.Trod enc Try.prog w base spare held t (.slice a len cap) d p) : len ≤ 9223372036854775807 ∧ (0 < len → ∃ ad, a = some ad ∧ ∀ i, i < len → ∃ cs n x, w.cells? base (ad.add (i * Try.prog.cellsOf e)) (Try.prog.cellsOf e) = some cs ∧ DataW.trod enc Try.prog w base spare held n e cs = some x) := by
  obtain ⟨fuel, hf⟩ := h
  rcases open_slice ht hf with ⟨hcs, _⟩ | ⟨a', len', cap', m, n, D, Pl, hcs, hb, hl, hm, hmm, _, hx⟩
  · simp [Value.cells] at hcs
    obtain ⟨rfl, rfl, rfl⟩ := hcs
    exact ⟨by omega, fun h => absurd h (by omega)⟩
  · simp [Value.cells] at hcs
    obtain ⟨rfl, rfl, rfl⟩ := hcs
    have hlm : len ≤ m := by rw [hmm]; split <;> omega
    refine ⟨by simp only [maxLen] at hm; omega, fun _ => ⟨a', rfl, fun i hi => ?_⟩⟩
    obtain ⟨cs, h1, h2⟩ := hx i (by omega)
    exact ⟨cs, n, _, h1, h2⟩
end
end Go.Proofs.Ytjhinakfoejpbaa.T
