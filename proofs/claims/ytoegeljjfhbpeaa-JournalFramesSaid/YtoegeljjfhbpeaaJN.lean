import Derived.Test.YtoegeljjfhbpeaaJM
set_option linter.unusedVariables false
set_option linter.unusedSimpArgs false
namespace Go.Proofs.Ytoegeljjfhbpeaa.J
open Go.RowKit Go.Proofs.YtoegeljjfhbpeaaW.PrintWords Go.Proofs.YtoegeljjfhbpeaaW.PrintLast Go.Proofs.YtoegeljjfhbpeaaW.PrintMore

theorem TapeAt.new (w : World) (base : Nat) (h : base ≤ w.heap.size) : TapeAt (w.alloc (.cells #[.bool true, .slice none 0 0, .int .i64 0] 66)) base w.heap.size (.slice none 0 0) [] 0 :=
  ⟨heap_alloc_new w _, h, TRow.nil _ _, Nat.le_refl _, by intro x hx; simp at hx⟩
theorem newTape_any (w : World) : Calls Try.prog 20 #[] w fun e w' => e = .returned (.pointer (some ⟨w.heap.size, 0, none⟩)) ∧ w' = w.alloc (.cells #[.bool true, .slice none 0 0, .int .i64 0] 66) := by
  go_enter Try.func20, Try.ntmps20
  go_wp2
  go_ret
  exact ⟨rfl, rfl⟩

/-- block lg is a log of the tape g -/
structure LogAt (w : World) (base lg g : Nat) (lv : Value) (ls : List ByteArray) (safe : Nat) : Prop where
  blk : w.heap[lg]? = some (.cells #[.pointer (some ⟨g, 0, none⟩), lv, .int .i64 (safe : Int)] 68 (0, 0))
  base_le : base ≤ lg
  row : w.ownsRow base 9 1 lv ls.length (ls.map Value.string)
theorem own_block {w : World} {base t : Nat} {v : Value} {n : Nat} {xs : List Value} (h : w.ownsRow base t 1 v n xs) (k : Nat) (hk : v.ownBlock = some k) : base ≤ k ∧ k < w.heap.size ∧ ∃ cur, w.heap[k]? = some (.cells cur t (0, 0)) := by
  rcases h.2 with ⟨rfl, _⟩ | ⟨g, cap, cur, rfl, hb, hh, _⟩
  · simp [Value.ownBlock] at hk
  · have : g = k := by simpa [Value.ownBlock] using hk
    subst this
    exact ⟨hb, (Array.getElem?_eq_some_iff.1 hh).1, cur, hh⟩
theorem own_kept {w w' : World} {base t : Nat} {v : Value} {n : Nat} {xs : List Value} (h : w.ownsRow base t 1 v n xs) (hk : ∀ k, v.ownBlock = some k → w'.heap[k]? = w.heap[k]?) : w'.ownsRow base t 1 v n xs := by
  refine ⟨h.1, ?_⟩
  rcases h.2 with h2 | ⟨g, cap, cur, rfl, hb, hh, r⟩
  · exact .inl h2
  · exact .inr ⟨g, cap, cur, rfl, hb, (hk g (by simp [Value.ownBlock])).trans hh, r⟩
theorem LogAt.lt {w : World} {base lg g : Nat} {lv : Value} {ls : List ByteArray} {safe : Nat} (h : LogAt w base lg g lv ls safe) : lg < w.heap.size := blk_lt h.blk
theorem LogAt.kept {w w' : World} {base lg g : Nat} {lv : Value} {ls : List ByteArray} {safe : Nat} (h : LogAt w base lg g lv ls safe) {S : Nat → Prop} (hk : Keeps S w w') (hg : ¬ S lg) (hv : ∀ k, lv.ownBlock = some k → ¬ S k) : LogAt w' base lg g lv ls safe :=
  ⟨(hk.block lg h.lt hg).trans h.blk, h.base_le, own_kept h.row (fun k e => hk.block k (own_block h.row k e).2.1 (hv k e))⟩
theorem made_yes (lg g : Nat) (w : World) (h : w.cell? ⟨lg, 0, none⟩ = some (.pointer (some ⟨g, 0, none⟩))) : Calls Try.prog 42 #[.pointer (some ⟨lg, 0, none⟩)] w fun e w' => e = .returned (.bool true) ∧ w = w' := by
  go_enter Try.func42, Try.ntmps42
  go_wp2
  go_ret
  exact ⟨rfl, rfl⟩
theorem made_no (lg : Nat) (w : World) (h : w.cell? ⟨lg, 0, none⟩ = some (.pointer none)) : Calls Try.prog 42 #[.pointer (some ⟨lg, 0, none⟩)] w fun e w' => e = .returned (.bool false) ∧ w = w' := by
  go_enter Try.func42, Try.ntmps42
  go_wp2
  go_ret
  exact ⟨rfl, rfl⟩
theorem made_nil (w : World) : Calls Try.prog 42 #[.pointer none] w fun e w' => e = .returned (.bool false) ∧ w = w' := by
  go_enter Try.func42, Try.ntmps42
  go_wp2
  go_ret
  exact ⟨rfl, rfl⟩
end Go.Proofs.Ytoegeljjfhbpeaa.J
