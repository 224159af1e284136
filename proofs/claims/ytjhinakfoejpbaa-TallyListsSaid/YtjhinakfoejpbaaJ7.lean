/- Rows of values. No condition stands open. -/
import Derived.Test.YtjhinakfoejpbaaJ6
import Derived.Test.YtjhinakfoejpbaaJ4
import Derived.Deep.Slices
set_option linter.unusedVariables false
set_option linter.unusedSimpArgs false
/- The values of a row that are right, as they are held. No condition stands open. -/
namespace Go.Proofs.Ytjhinakfoejpbaa.T
open Go.RowKit Go.Proofs.Ytjhinakfoejpbaa.WPure Go.Proofs.YtjhinakfoejpbaaW.PrintWords Go.Proofs.YtjhinakfoejpbaaW.PrintLast Go.Proofs.YtjhinakfoejpbaaW.PrintMore
def okH (l : List Val) : List Val := (l.filter okV).map held
theorem okH_nil : okH [] = [] := rfl
theorem okH_cons (x : Val) (l : List Val) : okH (x :: l) = if okV x = true then held x :: okH l else okH l := by
  unfold okH
  rw [List.filter_cons]
  split
  · rw [List.map_cons]
  · rfl
theorem okH_append (l m : List Val) : okH (l ++ m) = okH l ++ okH m := by
  unfold okH
  rw [List.filter_append, List.map_append]
theorem okH_len (l : List Val) : (okH l).length ≤ l.length := by
  unfold okH
  rw [List.length_map]
  exact List.length_filter_le _ _
theorem okH_snoc {l : List Val} {i : Nat} {x : Val} (h : l[i]? = some x) : (addL (okH (l.take i)) x).Perm (okH (l.take (i + 1))) ∨ 4096 ≤ (okH (l.take i)).length := by
  rw [List.take_add_one, h]
  show _ ∨ _
  by_cases hf : (okH (l.take i)).length < 4096
  · refine .inl ?_
    rw [Option.toList_some, okH_append, okH_cons, okH_nil]
    unfold addL
    by_cases hx : okV x = true
    · rw [if_pos ⟨hx, hf⟩, if_pos hx]
      exact (List.perm_append_comm (l₁ := [held x]) (l₂ := okH (l.take i)))
    · rw [if_neg (fun z => hx z.1), if_neg hx, List.append_nil]
  · exact .inr (by omega)
theorem drop_at {l : List Val} {i : Nat} {x : Val} (h : l[i]? = some x) : l.drop i = x :: l.drop (i + 1) := by
  obtain ⟨hi, e⟩ := List.getElem?_eq_some_iff.1 h
  rw [List.drop_eq_getElem_cons hi, e]
theorem add_front {l : List Val} {i : Nat} {x : Val} (h : l[i]? = some x) {B : List Val} (hf : (okH (l.drop (i + 1)) ++ B).length < 4096) : addL (okH (l.drop (i + 1)) ++ B) x = okH (l.drop i) ++ B := by
  rw [drop_at h, okH_cons]
  unfold addL
  by_cases hx : okV x = true
  · rw [if_pos ⟨hx, hf⟩, if_pos hx]
    rfl
  · rw [if_neg (fun z => hx z.1), if_neg hx]
theorem add_back {m : List Val} {i : Nat} {y : Val} (h : m[i]? = some y) {A : List Val} (hf : (A ++ okH (m.drop (i + 1))).length < 4096) : (addL (A ++ okH (m.drop (i + 1))) y).Perm (A ++ okH (m.drop i)) := by
  rw [drop_at h, okH_cons]
  unfold addL
  by_cases hx : okV y = true
  · rw [if_pos ⟨hx, hf⟩, if_pos hx]
    exact List.perm_middle.symm
  · rw [if_neg (fun z => hx z.1), if_neg hx]
theorem drop_back {m : List Val} {i : Nat} {y : Val} (h : m[i]? = some y) (hy : okV y = true) {A : List Val} : dropE (A ++ okH (m.drop i)) y = 0 ∧ (dropL (A ++ okH (m.drop i)) y).Perm (A ++ okH (m.drop (i + 1))) := by
  rw [drop_at h, okH_cons, if_pos hy]
  have hm : (A ++ held y :: okH (m.drop (i + 1))).Perm (held y :: (A ++ okH (m.drop (i + 1)))) := List.perm_middle
  have hc : cnt (A ++ held y :: okH (m.drop (i + 1))) (held y) ≠ 0 := by
    rw [cnt_perm hm, cnt_cons, if_pos rfl]
    omega
  constructor
  · unfold dropE
    rw [if_pos hy, if_neg hc]
  · unfold dropL
    rw [if_pos ⟨hy, hc⟩]
    exact ((takeOut_perm hc).symm.trans hm).cons_inv
theorem drop_skip {m : List Val} {i : Nat} {y : Val} (h : m[i]? = some y) (hy : okV y = false) {A : List Val} : A ++ okH (m.drop i) = A ++ okH (m.drop (i + 1)) := by
  rw [drop_at h, okH_cons, if_neg (by rw [hy]; decide)]
/-- a value of a row, as it is loaded -/
theorem VRow.at {w : World} {A : Option Addr} {n : Nat} {l : List Val} (h : VRow w A n l) {i : Nat} (hi : i < n) : ∃ ad x, A = some ad ∧ l[i]? = some x ∧ w.cell? (ad.add (i * 5)) = some (.int .i64 x.1) ∧ w.cell? ⟨(ad.add (i * 5)).block, (ad.add (i * 5)).off + 1, none⟩ = some (.int .i64 x.2.1) ∧ w.cell? ⟨(ad.add (i * 5)).block, (ad.add (i * 5)).off + 2, none⟩ = some (.string x.2.2.1) ∧ w.cell? ⟨(ad.add (i * 5)).block, (ad.add (i * 5)).off + 3, none⟩ = some (.bool x.2.2.2.1) ∧ w.cell? ⟨(ad.add (i * 5)).block, (ad.add (i * 5)).off + 4, none⟩ = some (.int .i64 x.2.2.2.2) := by
  obtain ⟨ad, e, hc⟩ := h.2.2 (by omega)
  have hi2 : i < l.length := by rw [h.1]; exact hi
  obtain ⟨c0, c1, c2, c3, c4⟩ := hc i _ (List.getElem?_eq_getElem hi2)
  rw [add_field _ _ _ (by decide)] at c1 c2 c3 c4
  exact ⟨ad, _, e, List.getElem?_eq_getElem hi2, c0, c1, c2, c3, c4⟩
section
variable {w : World} {S : Nat → Prop} {g n : Nat} {L : List Val} (h : Tal w S g n L)
include h
theorem Tal.sumEq {r : Int × Int} (e : toldR L (sumR L) = r) : Calls Try.prog 9 #[.pointer (some ⟨g, 0, none⟩)] w fun e w' => e = .returned (.tuple #[.int .i64 r.1, .int .i64 r.2]) ∧ Below w.heap.size w w' := e ▸ h.sum
theorem Tal.medianEq {r : Int × Int} (e : toldR L (midR L) = r) : Calls Try.prog 12 #[.pointer (some ⟨g, 0, none⟩)] w fun e w' => e = .returned (.tuple #[.int .i64 r.1, .int .i64 r.2]) ∧ Below w.heap.size w w' := e ▸ h.median
theorem Tal.smallEq (k : Int) {r : Int × Int} (e : toldR L (smallR L k) = r) : Calls Try.prog 11 #[.pointer (some ⟨g, 0, none⟩), .int .i64 k] w fun e w' => e = .returned (.tuple #[.int .i64 r.1, .int .i64 r.2]) ∧ Below w.heap.size w w' := e ▸ h.small k
theorem Tal.meanEq {r : Int × Int} (e : toldR L (meanR L) = r) : Calls Try.prog 10 #[.pointer (some ⟨g, 0, none⟩)] w fun e w' => e = .returned (.tuple #[.int .i64 r.1, .int .i64 r.2]) ∧ Below w.heap.size w w' := e ▸ h.mean
theorem Tal.leastEq {r : Int × Int} (e : toldR L (endR L 0) = r) : Calls Try.prog 13 #[.pointer (some ⟨g, 0, none⟩)] w fun e w' => e = .returned (.tuple #[.int .i64 r.1, .int .i64 r.2]) ∧ Below w.heap.size w w' := e ▸ h.least
theorem Tal.greatestEq {r : Int × Int} (e : toldR L (endR L ((numsL L).length - 1)) = r) : Calls Try.prog 31 #[.pointer (some ⟨g, 0, none⟩)] w fun e w' => e = .returned (.tuple #[.int .i64 r.1, .int .i64 r.2]) ∧ Below w.heap.size w w' := e ▸ h.greatest
theorem Tal.faultEq (m : Nat) (e : faultR L = m) : Calls Try.prog 18 #[.pointer (some ⟨g, 0, none⟩)] w fun e w' => e = .returned (.int .i64 (m : Int)) ∧ w = w' := e ▸ h.fault
theorem Tal.belowEq (x : Int) (m : Nat) (e : belowR L x = m) : Calls Try.prog 19 #[.pointer (some ⟨g, 0, none⟩), .int .i64 x] w fun e w' => e = .returned (.int .i64 (m : Int)) ∧ Below w.heap.size w w' := e ▸ h.belows x
end
end Go.Proofs.Ytjhinakfoejpbaa.T

/- Rows of values that are handed in, opened. No condition stands open. -/
namespace Go.Proofs.Ytjhinakfoejpbaa.T
open Go.ChangeShapes Go.WideShapes Go.ChangeAt Go.RowKit Go.Joins Go.Deep
section
variable {H : Type} {enc : TypeId × Value → H} {w : World} {base : Nat} {spare : Nat → Bool} {held : Bool}
theorem list5 {α : Type} {l : List α} (h : l.length = 5) : ∃ a b c d e, l = [a, b, c, d, e] := by
  match l, h with
  | [a, b, c, d, e], _ => exact ⟨a, b, c, d, e, rfl⟩
theorem each_list {α : Type} {p : Nat → α → Prop} : ∀ (n : Nat), (∀ i, i < n → ∃ x, p i x) → ∃ l : List α, l.length = n ∧ ∀ j x, l[j]? = some x → p j x
  | 0, _ => ⟨[], rfl, fun j x h => by simp at h⟩
  | n + 1, h => by
    obtain ⟨l, hl, hp⟩ := each_list n (fun i hi => h i (by omega))
    obtain ⟨x, hx⟩ := h n (Nat.lt_succ_self n)
    refine ⟨l ++ [x], by simp [hl], fun j y hj => ?_⟩
    rcases Nat.lt_or_ge j l.length with q | q
    · rw [List.getElem?_append_left q] at hj
      exact hp j y hj
    · have e : j = n := by
        have := (List.getElem?_eq_some_iff.1 hj).1
        rw [List.length_append, List.length_singleton] at this
        omega
      subst e
      rw [List.getElem?_append_right q, hl] at hj
      simp at hj
      exact hj ▸ hx
theorem slice_len {t e : TypeId} {a : Option Addr} {len cap : Nat} {d : DataW H} {p : List MemPlace} (ht : Try.prog.underlying t = some (.slice e)) (h : DataW.Trod enc Try.prog w base spare held t (.slice a len cap) d p) : len ≤ 9223372036854775807 ∧ (0 < len → ∃ ad, a = some ad ∧ ∀ i, i < len → ∃ cs n x, w.cells? base (ad.add (i * Try.prog.cellsOf e)) (Try.prog.cellsOf e) = some cs ∧ DataW.trod enc Try.prog w base spare held n e cs = some x) := by
  obtain ⟨fuel, hf⟩ := h
  rcases open_slice ht hf with ⟨hcs, _⟩ | ⟨a', len', cap', m, n, D, Pl, hcs, hb, hl, hm, hmm, _, hx⟩
  · simp [Value.cells] at hcs
    obtain ⟨rfl, rfl, rfl⟩ := hcs
    exact ⟨by omega, fun h => absurd h (by omega)⟩
  · simp [Value.cells] at hcs
    obtain ⟨rfl, rfl, rfl⟩ := hcs
    have hlm : len ≤ m := by rw [hmm]; split <;> omega
    refine ⟨by simp only [maxLen] at hm; omega, fun _ => ⟨a', rfl, fun i hi => ?_⟩⟩
    obtain ⟨cs, h1, h2⟩ := hx i (by omega)
    exact ⟨cs, n, _, h1, h2⟩
theorem open_vals {a : Option Addr} {len cap : Nat} {d : DataW H} {p : List MemPlace} (h : DataW.Trod enc Try.prog w base spare held 55 (.slice a len cap) d p) : ∃ l, VRow w a len l := by
  obtain ⟨hm, hx⟩ := slice_len Try.underlying55 h
  rcases Nat.eq_zero_or_pos len with h0 | h0
  · subst h0
    exact ⟨[], rfl, hm, fun z => absurd z (by omega)⟩
  · obtain ⟨ad, rfl, hx2⟩ := hx h0
    obtain ⟨l, hl, hp⟩ := each_list (α := Val) (p := fun j x => w.cell? (ad.add (j * 5)) = some (.int .i64 x.1) ∧ w.cell? (ad.add (j * 5 + 1)) = some (.int .i64 x.2.1) ∧ w.cell? (ad.add (j * 5 + 2)) = some (.string x.2.2.1) ∧ w.cell? (ad.add (j * 5 + 3)) = some (.bool x.2.2.2.1) ∧ w.cell? (ad.add (j * 5 + 4)) = some (.int .i64 x.2.2.2.2)) len (fun i hi => by
      obtain ⟨cs, n, x, h1, h2⟩ := hx2 i hi
      rw [cells25] at h1
      obtain ⟨_, hlen, hcell⟩ := World.cells?_some h1
      obtain ⟨c0, c1, c2, c3, c4, rfl⟩ := list5 hlen
      obtain ⟨k, n, s, b, c, rfl, rfl, rfl, rfl, rfl⟩ := trod_val h2
      have e0 := hcell 0 (by omega)
      have e1 := hcell 1 (by omega)
      have e2 := hcell 2 (by omega)
      have e3 := hcell 3 (by omega)
      have e4 := hcell 4 (by omega)
      rw [Go.Proofs.YtjhinakfoejpbaaW.PrintWords.add_add] at e0 e1 e2 e3 e4
      exact ⟨(k, n, s, b, c), e0, e1, e2, e3, e4⟩)
    exact ⟨l, hl, hm, fun _ => ⟨ad, rfl, hp⟩⟩
end
end Go.Proofs.Ytjhinakfoejpbaa.T
