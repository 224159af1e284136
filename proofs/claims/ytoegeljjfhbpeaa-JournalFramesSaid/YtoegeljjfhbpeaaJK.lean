import Derived.Test.YtoegeljjfhbpeaaJG
import Derived.Deep.AppendSrc
set_option linter.unusedVariables false
set_option linter.unusedSimpArgs false
namespace Go.Proofs.Ytoegeljjfhbpeaa.J
open Go.RowKit Go.Proofs.YtoegeljjfhbpeaaW.PrintWords Go.Proofs.YtoegeljjfhbpeaaW.PrintLast Go.Proofs.YtoegeljjfhbpeaaW.PrintMore

/-! blocks outside S lie as they lay -/
structure Keeps (S : Nat → Prop) (w w' : World) : Prop where
  os : w'.os = w.os
  tape : w'.tape = w.tape
  output : w'.output = w.output
  size : w.heap.size ≤ w'.heap.size
  block : ∀ k, k < w.heap.size → ¬ S k → w'.heap[k]? = w.heap[k]?
theorem Keeps.refl (S : Nat → Prop) (w : World) : Keeps S w w := ⟨rfl, rfl, rfl, Nat.le_refl _, fun _ _ _ => rfl⟩
theorem Keeps.trans {S : Nat → Prop} {a b c : World} (h : Keeps S a b) (k : Keeps S b c) : Keeps S a c :=
  ⟨k.os.trans h.os, k.tape.trans h.tape, k.output.trans h.output, Nat.le_trans h.size k.size, fun i hi hs => (k.block i (Nat.lt_of_lt_of_le hi h.size) hs).trans (h.block i hi hs)⟩
theorem Keeps.mono {S S' : Nat → Prop} {a b : World} (h : Keeps S a b) (hs : ∀ k, k < a.heap.size → S k → S' k) : Keeps S' a b := ⟨h.os, h.tape, h.output, h.size, fun i hi hn => h.block i hi (fun hk => hn (hs i hi hk))⟩
/-- S's blocks that are new since a are free -/
theorem Keeps.trans' {S S' : Nat → Prop} {a b c : World} (h : Keeps S a b) (k : Keeps S' b c) (hs : ∀ i, i < a.heap.size → S' i → S i) : Keeps S a c :=
  ⟨k.os.trans h.os, k.tape.trans h.tape, k.output.trans h.output, Nat.le_trans h.size k.size, fun i hi hn => (k.block i (Nat.lt_of_lt_of_le hi h.size) (fun hk => hn (hs i hi hk))).trans (h.block i hi hn)⟩
theorem Keeps.of_below {S : Nat → Prop} {a b : World} (h : Below a.heap.size a b) : Keeps S a b := ⟨h.os, h.tape, h.output, h.size, fun i hi _ => h.block i hi⟩
theorem Keeps.below {S : Nat → Prop} {a b : World} (h : Keeps S a b) {B : Nat} (hB : B ≤ a.heap.size) (hs : ∀ k, S k → B ≤ k) : Below B a b := ⟨h.os, h.tape, h.output, h.size, fun i hi => h.block i (by omega) (fun hk => by have := hs i hk; omega)⟩
theorem Keeps.of_grown {a b : World} {row : Option Nat} (h : a.grownBy b row) : Keeps (fun k => row = some k) a b := ⟨h.os, h.tape, h.output, h.size, fun i hi hn => h.block i hi (fun e => hn e.symm)⟩
theorem Keeps.setCell {S : Nat → Prop} {a b : World} (h : Keeps S a b) {p : Addr} (hp : S p.block) (u : Value) : Keeps S a (b.setCell p u) :=
  h.trans ⟨rfl, rfl, rfl, by simp [World.setCell], fun i _ hn => Below.heap_setCell _ _ _ _ (fun e => hn (e ▸ hp))⟩
theorem Keeps.drewN {S : Nat → Prop} {a b : World} (h : Keeps S a b) (n : Nat) : Keeps S a (b.drewN n) := h.trans (Keeps.of_below (pw_below_drewN (Below.refl _ _) n))
theorem Keeps.drew {S : Nat → Prop} {a b : World} (h : Keeps S a b) : Keeps S a b.drew := h.trans (Keeps.of_below ((Below.refl _ _).drew))
theorem Keeps.alloc {S : Nat → Prop} {a b : World} (h : Keeps S a b) (o : Obj) : Keeps S a (b.alloc o) := h.trans (Keeps.of_below ((Below.refl _ _).alloc (Nat.le_refl _) _))

/-! a tape's bytes: a row whose capacity may be less than its block's cells -/
def TRow (w : World) (base : Nat) (v : Value) (xs : List Int) : Prop :=
  (v = .slice none 0 0 ∧ xs = []) ∨ ∃ g cap cur, v = .slice (some ⟨g, 0, none⟩) xs.length cap ∧ base ≤ g ∧ w.heap[g]? = some (.cells cur 5 (0, 0)) ∧ xs.length ≤ cap ∧ cap ≤ cur.size ∧ cap ≤ maxLen ∧ cur.toList.take xs.length = nums .u8 xs
theorem TRow.nil (w : World) (base : Nat) : TRow w base (.slice none 0 0) [] := .inl ⟨rfl, rfl⟩
theorem TRow.of_own {w : World} {base : Nat} {v : Value} {xs : List Int} (h : w.ownsRow base 5 1 v xs.length (nums .u8 xs)) : TRow w base v xs := by
  rcases h.2 with ⟨rfl, h0⟩ | ⟨g, cap, cur, rfl, hb, hh, hnc, hcm, hcs, ht⟩
  · exact .inl ⟨rfl, List.eq_nil_of_length_eq_zero h0⟩
  · rw [Nat.mul_one] at hcs ht
    exact .inr ⟨g, cap, cur, rfl, hb, hh, hnc, by omega, hcm, ht⟩
theorem TRow.own {w : World} {base : Nat} {v : Value} {xs : List Int} (h : TRow w base v xs) (k : Nat) (hk : v.ownBlock = some k) : base ≤ k ∧ k < w.heap.size ∧ ∃ cur, w.heap[k]? = some (.cells cur 5 (0, 0)) := by
  rcases h with ⟨rfl, _⟩ | ⟨g, cap, cur, rfl, hb, hh, _⟩
  · simp [Value.ownBlock] at hk
  · have : g = k := by simpa [Value.ownBlock] using hk
    subst this
    exact ⟨hb, (Array.getElem?_eq_some_iff.1 hh).1, cur, hh⟩
theorem TRow.kept {w w' : World} {base : Nat} {v : Value} {xs : List Int} (h : TRow w base v xs) (hk : ∀ k, v.ownBlock = some k → w'.heap[k]? = w.heap[k]?) : TRow w' base v xs := by
  rcases h with h | ⟨g, cap, cur, rfl, hb, hh, r⟩
  · exact .inl h
  · exact .inr ⟨g, cap, cur, rfl, hb, (hk g (by simp [Value.ownBlock])).trans hh, r⟩
theorem TRow.reads {w : World} {base : Nat} {v : Value} {xs : List Int} (h : TRow w base v xs) : ∃ A c, v = .slice A xs.length c ∧ xs.length ≤ c ∧ ReadsInt w .u8 A xs.length xs := by
  rcases h with ⟨rfl, rfl⟩ | ⟨g, cap, cur, rfl, hb, hh, hnc, hcs, hcm, ht⟩
  · exact ⟨none, 0, rfl, Nat.le_refl _, rfl, by simp, fun h => absurd h (by simp)⟩
  · refine ⟨_, cap, rfl, hnc, rfl, by simp only [maxLen] at hcm; omega, fun hp => ⟨_, rfl, fun j hj => ?_⟩⟩
    rw [add_plain, cell_of_row w g j cur 5 (0, 0) hh]
    have h1 : (cur.toList.take xs.length)[j]? = (nums .u8 xs)[j]? := by rw [ht]
    rw [List.getElem?_take, if_pos hj] at h1
    rw [← Array.getElem?_toList, h1]
    simp [nums, hj]
/-- append onto such a row -/
theorem TRow.append {w : World} {base : Nat} {v : Value} {xs ys : List Int} (h : TRow w base v xs) (hbase : base ≤ w.heap.size) (t : TypeId) (x : Value) (hx : Src Try.prog 1 t x ys.length (nums .u8 ys) w) (hl : xs.length + ys.length ≤ 140737488355328) (ty : TypeId) :
    ∃ v' w', (Builtin.append_ #[22, t] ty #[v, x]).run Try.prog w = .ok v' w' ∧ TRow w' base v' (xs ++ ys) ∧ Keeps (fun k => v.ownBlock = some k) w w' ∧ (v'.ownBlock = v.ownBlock ∨ v'.ownBlock = some w.heap.size) := by
  obtain ⟨i0, hi, hz0, hz1, hz2⟩ := info_parts info5
  have hx' : Src Try.prog i0.size t x ys.length (nums .u8 ys) w := by rw [hz1]; exact hx
  have grows : ∀ (A : Option Addr) (cap : Nat), v = .slice A xs.length cap → cap < xs.length + ys.length → (Builtin.firstCells i0.size xs.length (.slice A xs.length cap)).run Try.prog w.drew = .ok (nums .u8 xs).toArray w.drew →
      ∃ v' w', (Builtin.append_ #[22, t] ty #[v, x]).run Try.prog w = .ok v' w' ∧ TRow w' base v' (xs ++ ys) ∧ Keeps (fun k => v.ownBlock = some k) w w' ∧ (v'.ownBlock = v.ownBlock ∨ v'.ownBlock = some w.heap.size) := by
    intro A cap hv hcap hold
    have hr := run_append_grow_src (P := Try.prog) w 22 t ty 5 i0 (.int .u8 0) Try.underlying22 hi hz0 A xs.length cap (nums .u8 xs) hold x ys.length (nums .u8 ys) hx' hcap (by omega) (growslice_fits hcap (by rw [hz2]; omega))
    have hge := grownCap_ge w (xs.length + ys.length) cap 5
    have hmx := grownCap_le_maxLen w (xs.length + ys.length) cap 5 (by unfold maxLen; omega)
    refine ⟨_, _, by rw [hv]; exact hr, .inr ⟨w.heap.size, _, _, by rw [List.length_append], hbase, heap_alloc_new w.drew _, by rw [List.length_append]; exact hge, ?_, hmx, ?_⟩, Keeps.alloc (Keeps.drew (Keeps.refl _ _)) _, .inr (by simp [Value.ownBlock])⟩
    · simp [size_zeroCells, nums, Value.cells]
      omega
    · simp [nums]
      rw [← List.append_assoc]
      exact List.take_left' (by simp)
  by_cases hroom : ∃ g cap, v = .slice (some ⟨g, 0, none⟩) xs.length cap ∧ xs.length + ys.length ≤ cap
  · obtain ⟨g, cap, hv, hroom⟩ := hroom
    rcases h with ⟨e, _⟩ | ⟨g', cap', cur, e, hb, hh, hnc, hcs, hcm, ht⟩
    · rw [e] at hv
      cases hv
    · rw [hv] at e
      injection e with e1 _ e2
      injection e1 with e1
      injection e1 with e1
      subst e1 e2
      have hcell : ∀ j, j < (nums .u8 ys).length → (w.cell? ⟨g, 0 + xs.length * i0.size + j, none⟩).isSome = true := by
        intro j hj
        rw [cell_of_row w g _ cur 5 (0, 0) hh, hz1]
        rw [nums_length] at hj
        simp
        omega
      have hr := run_append_room_src (P := Try.prog) w 22 t ty 5 i0 Try.underlying22 hi g 0 xs.length cap x ys.length (nums .u8 ys) hx' hroom hcell (fun j _ => blk_frozen hh _)
      rw [hz1, Nat.zero_add, Nat.mul_one] at hr
      obtain ⟨cur', h3, h4, h5⟩ := setCells_row (nums .u8 ys) xs.length w cur hh (by rw [nums_length]; omega)
      obtain ⟨s1, s2, s3, s4⟩ := setCells_same g (nums .u8 ys) xs.length w
      refine ⟨_, _, by rw [hv]; exact hr, .inr ⟨g, cap, cur', by rw [List.length_append], hb, h3, by rw [List.length_append]; exact hroom, by omega, hcm, ?_⟩, ⟨s1, s2, s3, by rw [s4]; exact Nat.le_refl _, fun k _ hk => setCells_far (nums .u8 ys) _ k (fun he => hk (by rw [hv, he]; simp [Value.ownBlock]))⟩, .inl (by rw [hv]; rfl)⟩
      rw [h5, ht, nums_append]
      exact List.take_left' (by rw [List.length_append, List.length_append, nums_length, nums_length])
  · rcases h with ⟨e, rfl⟩ | ⟨g, cap, cur, e, hb, hh, hnc, hcs, hcm, ht⟩
    · rcases Nat.eq_zero_or_pos ys.length with h0 | h0
      · have ey : ys = [] := List.eq_nil_of_length_eq_zero h0
        subst ey
        refine ⟨v, w, ?_, .inl ⟨e, rfl⟩, Keeps.refl _ _, .inl rfl⟩
        rw [e]
        have hl0 := hx'.len
        have hc0 := hx'.cells
        simp only [List.length_nil] at hl0 hc0
        have hc1 : (Builtin.firstCells i0.size 0 x).run Try.prog w = .ok #[] w := hc0
        rcases hx'.kind with ⟨e', hk⟩ | hk <;> simp [Builtin.append_, run_underlying Try.underlying22, run_underlying hk, sizeOf, typeInfo, hi, hl0, hc1]
      · exact grows none 0 e (by simpa using h0) (run_firstCells_none w.drew i0.size 0 0 0)
    · refine grows (some ⟨g, 0, none⟩) cap e ?_ ?_
      · rcases Nat.lt_or_ge cap (xs.length + ys.length) with h | h
        · exact h
        · exact absurd ⟨g, cap, e, h⟩ hroom
      · refine run_firstCells_some w.drew i0.size xs.length ⟨g, 0, none⟩ xs.length cap (nums .u8 xs) (by rw [nums_length, hz1, Nat.mul_one]) (fun j u hu => ?_)
        have hc : w.drew.cell? ((⟨g, 0, none⟩ : Addr).add j) = w.cell? ⟨g, j, none⟩ := by rw [add_plain]; rfl
        rw [hc, cell_of_row w g j cur 5 (0, 0) hh]
        have hj : j < xs.length := by
          have := (List.getElem?_eq_some_iff.1 hu).1
          rwa [nums_length] at this
        rw [← ht, List.getElem?_take, if_pos hj] at hu
        rw [← Array.getElem?_toList]
        exact hu
end Go.Proofs.Ytoegeljjfhbpeaa.J
