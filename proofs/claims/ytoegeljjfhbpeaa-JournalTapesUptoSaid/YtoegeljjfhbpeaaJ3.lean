/- Contracts of tapes, and what Scan tells of frames in plain Lean. No condition stands open. -/
import Derived.Test.YtoegeljjfhbpeaaJ2
import Derived.Deep.AppendSrc
import Derived.Lib.SliceRun
set_option linter.unusedVariables false
set_option linter.unusedSimpArgs false
namespace Go.Proofs.Ytoegeljjfhbpeaa.J
open Go.RowKit Go.Proofs.YtoegeljjfhbpeaaW.PrintWords Go.Proofs.YtoegeljjfhbpeaaW.PrintLast Go.Proofs.YtoegeljjfhbpeaaW.PrintMore

/-! blocks outside S lie as they lay -/
structure Keeps (S : Nat → Prop) (w w' : World) : Prop where
  os : w'.os = w.os
  tape : w'.tape = w.tape
  output : w'.output = w.output
  size : w.heap.size ≤ w'.heap.size
  block : ∀ k, k < w.heap.size → ¬ S k → w'.heap[k]? = w.heap[k]?
theorem Keeps.refl (S : Nat → Prop) (w : World) : Keeps S w w := ⟨rfl, rfl, rfl, Nat.le_refl _, fun _ _ _ => rfl⟩
theorem Keeps.trans {S : Nat → Prop} {a b c : World} (h : Keeps S a b) (k : Keeps S b c) : Keeps S a c :=
  ⟨k.os.trans h.os, k.tape.trans h.tape, k.output.trans h.output, Nat.le_trans h.size k.size, fun i hi hs => (k.block i (Nat.lt_of_lt_of_le hi h.size) hs).trans (h.block i hi hs)⟩
theorem Keeps.mono {S S' : Nat → Prop} {a b : World} (h : Keeps S a b) (hs : ∀ k, k < a.heap.size → S k → S' k) : Keeps S' a b := ⟨h.os, h.tape, h.output, h.size, fun i hi hn => h.block i hi (fun hk => hn (hs i hi hk))⟩
/-- S's blocks that are new since a are free -/
theorem Keeps.trans' {S S' : Nat → Prop} {a b c : World} (h : Keeps S a b) (k : Keeps S' b c) (hs : ∀ i, i < a.heap.size → S' i → S i) : Keeps S a c :=
  ⟨k.os.trans h.os, k.tape.trans h.tape, k.output.trans h.output, Nat.le_trans h.size k.size, fun i hi hn => (k.block i (Nat.lt_of_lt_of_le hi h.size) (fun hk => hn (hs i hi hk))).trans (h.block i hi hn)⟩
theorem Keeps.of_below {S : Nat → Prop} {a b : World} (h : Below a.heap.size a b) : Keeps S a b := ⟨h.os, h.tape, h.output, h.size, fun i hi _ => h.block i hi⟩
theorem Keeps.below {S : Nat → Prop} {a b : World} (h : Keeps S a b) {B : Nat} (hB : B ≤ a.heap.size) (hs : ∀ k, S k → B ≤ k) : Below B a b := ⟨h.os, h.tape, h.output, h.size, fun i hi => h.block i (by omega) (fun hk => by have := hs i hk; omega)⟩
theorem Keeps.of_grown {a b : World} {row : Option Nat} (h : a.grownBy b row) : Keeps (fun k => row = some k) a b := ⟨h.os, h.tape, h.output, h.size, fun i hi hn => h.block i hi (fun e => hn e.symm)⟩
theorem Keeps.setCell {S : Nat → Prop} {a b : World} (h : Keeps S a b) {p : Addr} (hp : S p.block) (u : Value) : Keeps S a (b.setCell p u) :=
  h.trans ⟨rfl, rfl, rfl, by simp [World.setCell], fun i _ hn => Below.heap_setCell _ _ _ _ (fun e => hn (e ▸ hp))⟩
theorem Keeps.drewN {S : Nat → Prop} {a b : World} (h : Keeps S a b) (n : Nat) : Keeps S a (b.drewN n) := h.trans (Keeps.of_below (pw_below_drewN (Below.refl _ _) n))
theorem Keeps.drew {S : Nat → Prop} {a b : World} (h : Keeps S a b) : Keeps S a b.drew := h.trans (Keeps.of_below ((Below.refl _ _).drew))
theorem Keeps.alloc {S : Nat → Prop} {a b : World} (h : Keeps S a b) (o : Obj) : Keeps S a (b.alloc o) := h.trans (Keeps.of_below ((Below.refl _ _).alloc (Nat.le_refl _) _))

/-! a tape's bytes: a row whose capacity may be less than its block's cells -/
def TRow (w : World) (base : Nat) (v : Value) (xs : List Int) : Prop :=
  (v = .slice none 0 0 ∧ xs = []) ∨ ∃ g cap cur, v = .slice (some ⟨g, 0, none⟩) xs.length cap ∧ base ≤ g ∧ w.heap[g]? = some (.cells cur 5 (0, 0)) ∧ xs.length ≤ cap ∧ cap ≤ cur.size ∧ cap ≤ maxLen ∧ cur.toList.take xs.length = nums .u8 xs
theorem TRow.nil (w : World) (base : Nat) : TRow w base (.slice none 0 0) [] := .inl ⟨rfl, rfl⟩
theorem TRow.of_own {w : World} {base : Nat} {v : Value} {xs : List Int} (h : w.ownsRow base 5 1 v xs.length (nums .u8 xs)) : TRow w base v xs := by
  rcases h.2 with ⟨rfl, h0⟩ | ⟨g, cap, cur, rfl, hb, hh, hnc, hcm, hcs, ht⟩
  · exact .inl ⟨rfl, List.eq_nil_of_length_eq_zero h0⟩
  · rw [Nat.mul_one] at hcs ht
    exact .inr ⟨g, cap, cur, rfl, hb, hh, hnc, by omega, hcm, ht⟩
theorem TRow.own {w : World} {base : Nat} {v : Value} {xs : List Int} (h : TRow w base v xs) (k : Nat) (hk : v.ownBlock = some k) : base ≤ k ∧ k < w.heap.size ∧ ∃ cur, w.heap[k]? = some (.cells cur 5 (0, 0)) := by
  rcases h with ⟨rfl, _⟩ | ⟨g, cap, cur, rfl, hb, hh, _⟩
  · simp [Value.ownBlock] at hk
  · have : g = k := by simpa [Value.ownBlock] using hk
    subst this
    exact ⟨hb, (Array.getElem?_eq_some_iff.1 hh).1, cur, hh⟩
theorem TRow.kept {w w' : World} {base : Nat} {v : Value} {xs : List Int} (h : TRow w base v xs) (hk : ∀ k, v.ownBlock = some k → w'.heap[k]? = w.heap[k]?) : TRow w' base v xs := by
  rcases h with h | ⟨g, cap, cur, rfl, hb, hh, r⟩
  · exact .inl h
  · exact .inr ⟨g, cap, cur, rfl, hb, (hk g (by simp [Value.ownBlock])).trans hh, r⟩
theorem TRow.reads {w : World} {base : Nat} {v : Value} {xs : List Int} (h : TRow w base v xs) : ∃ A c, v = .slice A xs.length c ∧ xs.length ≤ c ∧ ReadsInt w .u8 A xs.length xs := by
  rcases h with ⟨rfl, rfl⟩ | ⟨g, cap, cur, rfl, hb, hh, hnc, hcs, hcm, ht⟩
  · exact ⟨none, 0, rfl, Nat.le_refl _, rfl, by simp, fun h => absurd h (by simp)⟩
  · refine ⟨_, cap, rfl, hnc, rfl, by simp only [maxLen] at hcm; omega, fun hp => ⟨_, rfl, fun j hj => ?_⟩⟩
    rw [add_plain, cell_of_row w g j cur 5 (0, 0) hh]
    have h1 : (cur.toList.take xs.length)[j]? = (nums .u8 xs)[j]? := by rw [ht]
    rw [List.getElem?_take, if_pos hj] at h1
    rw [← Array.getElem?_toList, h1]
    simp [nums, hj]
/-- append onto such a row -/
theorem TRow.append {w : World} {base : Nat} {v : Value} {xs ys : List Int} (h : TRow w base v xs) (hbase : base ≤ w.heap.size) (t : TypeId) (x : Value) (hx : Src Try.prog 1 t x ys.length (nums .u8 ys) w) (hl : xs.length + ys.length ≤ 140737488355328) (ty : TypeId) :
    ∃ v' w', (Builtin.append_ #[22, t] ty #[v, x]).run Try.prog w = .ok v' w' ∧ TRow w' base v' (xs ++ ys) ∧ Keeps (fun k => v.ownBlock = some k) w w' ∧ (v'.ownBlock = v.ownBlock ∨ v'.ownBlock = some w.heap.size) := by
  obtain ⟨i0, hi, hz0, hz1, hz2⟩ := info_parts info5
  have hx' : Src Try.prog i0.size t x ys.length (nums .u8 ys) w := by rw [hz1]; exact hx
  have grows : ∀ (A : Option Addr) (cap : Nat), v = .slice A xs.length cap → cap < xs.length + ys.length → (Builtin.firstCells i0.size xs.length (.slice A xs.length cap)).run Try.prog w.drew = .ok (nums .u8 xs).toArray w.drew →
      ∃ v' w', (Builtin.append_ #[22, t] ty #[v, x]).run Try.prog w = .ok v' w' ∧ TRow w' base v' (xs ++ ys) ∧ Keeps (fun k => v.ownBlock = some k) w w' ∧ (v'.ownBlock = v.ownBlock ∨ v'.ownBlock = some w.heap.size) := by
    intro A cap hv hcap hold
    have hr := run_append_grow_src (P := Try.prog) w 22 t ty 5 i0 (.int .u8 0) Try.underlying22 hi hz0 A xs.length cap (nums .u8 xs) hold x ys.length (nums .u8 ys) hx' hcap (by omega) (growslice_fits hcap (by rw [hz2]; omega))
    have hge := grownCap_ge w (xs.length + ys.length) cap 5
    have hmx := grownCap_le_maxLen w (xs.length + ys.length) cap 5 (by unfold maxLen; omega)
    refine ⟨_, _, by rw [hv]; exact hr, .inr ⟨w.heap.size, _, _, by rw [List.length_append], hbase, heap_alloc_new w.drew _, by rw [List.length_append]; exact hge, ?_, hmx, ?_⟩, Keeps.alloc (Keeps.drew (Keeps.refl _ _)) _, .inr (by simp [Value.ownBlock])⟩
    · simp [size_zeroCells, nums, Value.cells]
      omega
    · simp [nums]
      rw [← List.append_assoc]
      exact List.take_left' (by simp)
  by_cases hroom : ∃ g cap, v = .slice (some ⟨g, 0, none⟩) xs.length cap ∧ xs.length + ys.length ≤ cap
  · obtain ⟨g, cap, hv, hroom⟩ := hroom
    rcases h with ⟨e, _⟩ | ⟨g', cap', cur, e, hb, hh, hnc, hcs, hcm, ht⟩
    · rw [e] at hv
      cases hv
    · rw [hv] at e
      injection e with e1 _ e2
      injection e1 with e1
      injection e1 with e1
      subst e1 e2
      have hcell : ∀ j, j < (nums .u8 ys).length → (w.cell? ⟨g, 0 + xs.length * i0.size + j, none⟩).isSome = true := by
        intro j hj
        rw [cell_of_row w g _ cur 5 (0, 0) hh, hz1]
        rw [nums_length] at hj
        simp
        omega
      have hr := run_append_room_src (P := Try.prog) w 22 t ty 5 i0 Try.underlying22 hi g 0 xs.length cap x ys.length (nums .u8 ys) hx' hroom hcell (fun j _ => blk_frozen hh _)
      rw [hz1, Nat.zero_add, Nat.mul_one] at hr
      obtain ⟨cur', h3, h4, h5⟩ := setCells_row (nums .u8 ys) xs.length w cur hh (by rw [nums_length]; omega)
      obtain ⟨s1, s2, s3, s4⟩ := setCells_same g (nums .u8 ys) xs.length w
      refine ⟨_, _, by rw [hv]; exact hr, .inr ⟨g, cap, cur', by rw [List.length_append], hb, h3, by rw [List.length_append]; exact hroom, by omega, hcm, ?_⟩, ⟨s1, s2, s3, by rw [s4]; exact Nat.le_refl _, fun k _ hk => setCells_far (nums .u8 ys) _ k (fun he => hk (by rw [hv, he]; simp [Value.ownBlock]))⟩, .inl (by rw [hv]; rfl)⟩
      rw [h5, ht, nums_append]
      exact List.take_left' (by rw [List.length_append, List.length_append, nums_length, nums_length])
  · rcases h with ⟨e, rfl⟩ | ⟨g, cap, cur, e, hb, hh, hnc, hcs, hcm, ht⟩
    · rcases Nat.eq_zero_or_pos ys.length with h0 | h0
      · have ey : ys = [] := List.eq_nil_of_length_eq_zero h0
        subst ey
        refine ⟨v, w, ?_, .inl ⟨e, rfl⟩, Keeps.refl _ _, .inl rfl⟩
        rw [e]
        have hl0 := hx'.len
        have hc0 := hx'.cells
        simp only [List.length_nil] at hl0 hc0
        have hc1 : (Builtin.firstCells i0.size 0 x).run Try.prog w = .ok #[] w := hc0
        rcases hx'.kind with ⟨e', hk⟩ | hk <;> simp [Builtin.append_, run_underlying Try.underlying22, run_underlying hk, sizeOf, typeInfo, hi, hl0, hc1]
      · exact grows none 0 e (by simpa using h0) (run_firstCells_none w.drew i0.size 0 0 0)
    · refine grows (some ⟨g, 0, none⟩) cap e ?_ ?_
      · rcases Nat.lt_or_ge cap (xs.length + ys.length) with h | h
        · exact h
        · exact absurd ⟨g, cap, e, h⟩ hroom
      · refine run_firstCells_some w.drew i0.size xs.length ⟨g, 0, none⟩ xs.length cap (nums .u8 xs) (by rw [nums_length, hz1, Nat.mul_one]) (fun j u hu => ?_)
        have hc : w.drew.cell? ((⟨g, 0, none⟩ : Addr).add j) = w.cell? ⟨g, j, none⟩ := by rw [add_plain]; rfl
        rw [hc, cell_of_row w g j cur 5 (0, 0) hh]
        have hj : j < xs.length := by
          have := (List.getElem?_eq_some_iff.1 hu).1
          rwa [nums_length] at this
        rw [← ht, List.getElem?_take, if_pos hj] at hu
        rw [← Array.getElem?_toList]
        exact hu
end Go.Proofs.Ytoegeljjfhbpeaa.J
namespace Go.Proofs.Ytoegeljjfhbpeaa.J
open Go.RowKit Go.Proofs.YtoegeljjfhbpeaaW.PrintWords Go.Proofs.YtoegeljjfhbpeaaW.PrintLast Go.Proofs.YtoegeljjfhbpeaaW.PrintMore

/-- block g is a tape: its bytes, and how many of them stay -/
structure TapeAt (w : World) (base g : Nat) (v : Value) (xs : List Int) (sure : Nat) : Prop where
  blk : w.heap[g]? = some (.cells #[.bool true, v, .int .i64 (sure : Int)] 66 (0, 0))
  base_le : base ≤ g
  row : TRow w base v xs
  sure_le : sure ≤ xs.length
  bytes : Bytes xs
theorem TapeAt.lt {w : World} {base g : Nat} {v : Value} {xs : List Int} {sure : Nat} (h : TapeAt w base g v xs sure) : g < w.heap.size := blk_lt h.blk
theorem TapeAt.ne {w : World} {base g : Nat} {v : Value} {xs : List Int} {sure : Nat} (h : TapeAt w base g v xs sure) : v.ownBlock ≠ some g := by
  intro e
  obtain ⟨_, _, cur, hc⟩ := h.row.own g e
  rw [h.blk] at hc
  cases hc
theorem TapeAt.kept {w w' : World} {base g : Nat} {v : Value} {xs : List Int} {sure : Nat} (h : TapeAt w base g v xs sure) {S : Nat → Prop} (hk : Keeps S w w') (hg : ¬ S g) (hv : ∀ k, v.ownBlock = some k → ¬ S k) : TapeAt w' base g v xs sure :=
  ⟨(hk.block g h.lt hg).trans h.blk, h.base_le, h.row.kept (fun k e => hk.block k (h.row.own k e).2.1 (hv k e)), h.sure_le, h.bytes⟩
theorem Src.of_reads {w : World} {A : Option Addr} {n c : Nat} {ys : List Int} (h : ReadsInt w .u8 A n ys) : Src Try.prog 1 22 (.slice A n c) ys.length (nums .u8 ys) w := by
  have hl := h.1
  subst hl
  cases A with
  | none =>
    have h0 : ys.length = 0 := by
      rcases Nat.eq_zero_or_pos ys.length with z | z
      · exact z
      · obtain ⟨ad, e, _⟩ := h.2.2 z
        cases e
    have e0 : ys = [] := List.eq_nil_of_length_eq_zero h0
    subst e0
    exact Src.ofNil w Try.underlying22 c
  | some a =>
    refine Src.ofSlice w Try.underlying22 a ys.length c (nums .u8 ys) (by rw [nums_length, Nat.mul_one]) (fun j u hu => ?_) (fun u hu => by obtain ⟨_, _, rfl⟩ := List.mem_map.1 hu; rfl)
    have hj : j < ys.length := by
      have := (List.getElem?_eq_some_iff.1 hu).1
      rwa [nums_length] at this
    obtain ⟨ad, e, hc⟩ := h.2.2 (by omega)
    injection e with e
    subst e
    rw [hc j hj]
    rw [← hu]
    simp [nums, hj]

theorem TRow.far {w : World} {base g : Nat} {v u : Value} {xs : List Int} {s : Nat} (hb : w.heap[g]? = some (.cells #[.bool true, u, .int .i64 (s : Int)] 66 (0, 0))) (hr : TRow w base v xs) (j : Nat) (x : Value) : TRow (w.setCell ⟨g, j, none⟩ x) base v xs :=
  hr.kept (fun k e => by
    obtain ⟨_, _, cur, hc⟩ := hr.own k e
    refine Below.heap_setCell _ _ _ _ ?_
    rintro rfl
    rw [hb] at hc
    cases hc)
theorem TapeAt.put1 {w : World} {base g : Nat} {v u : Value} {xs : List Int} {sure : Nat} (hb : w.heap[g]? = some (.cells #[.bool true, u, .int .i64 (sure : Int)] 66 (0, 0))) (hbase : base ≤ g) (hr : TRow w base v xs) (hs : sure ≤ xs.length) (hby : Bytes xs) :
    TapeAt (w.setCell ⟨g, 1, none⟩ v) base g v xs sure :=
  ⟨blk_set hb 1 v, hbase, hr.far hb 1 v, hs, hby⟩
theorem TapeAt.put2 {w : World} {base g : Nat} {v : Value} {xs : List Int} {s sure : Nat} (hb : w.heap[g]? = some (.cells #[.bool true, v, .int .i64 (s : Int)] 66 (0, 0))) (hbase : base ≤ g) (hr : TRow w base v xs) (hs : sure ≤ xs.length) (hby : Bytes xs) :
    TapeAt (w.setCell ⟨g, 2, none⟩ (.int .i64 (sure : Int))) base g v xs sure :=
  ⟨blk_set hb 2 _, hbase, hr.far hb 2 _, hs, hby⟩

theorem is_yes (g : Nat) (w : World) (h : w.cell? ⟨g, 0, none⟩ = some (.bool true)) : Calls Try.prog 41 #[.pointer (some ⟨g, 0, none⟩)] w fun e w' => e = .returned (.bool true) ∧ w = w' := by
  go_enter Try.func41, Try.ntmps41
  go_wp2
  go_ret
  exact ⟨rfl, rfl⟩
theorem is_no (g : Nat) (w : World) (h : w.cell? ⟨g, 0, none⟩ = some (.bool false)) : Calls Try.prog 41 #[.pointer (some ⟨g, 0, none⟩)] w fun e w' => e = .returned (.bool false) ∧ w = w' := by
  go_enter Try.func41, Try.ntmps41
  go_wp2
  go_ret
  exact ⟨rfl, rfl⟩
theorem is_nil (w : World) : Calls Try.prog 41 #[.pointer none] w fun e w' => e = .returned (.bool false) ∧ w = w' := by
  go_enter Try.func41, Try.ntmps41
  go_wp2
  go_ret
  exact ⟨rfl, rfl⟩

set_option maxHeartbeats 1000000 in
theorem append_any {w : World} {base g : Nat} {v : Value} {xs : List Int} {sure : Nat} (T : TapeAt w base g v xs sure) (A : Option Addr) (n c : Nat) (ys : List Int) (hR : ReadsInt w .u8 A n ys) (hy : Bytes ys) (hl : xs.length + ys.length ≤ 140737488355328) (hbase : base ≤ w.heap.size) :
    Calls Try.prog 27 #[.pointer (some ⟨g, 0, none⟩), .slice A n c] w fun e w' => e = .returned (.int .i64 0) ∧ ∃ v', TapeAt w' base g v' (xs ++ ys) sure ∧ Keeps (fun k => k = g ∨ v.ownBlock = some k) w w' ∧ (v'.ownBlock = v.ownBlock ∨ v'.ownBlock = some w.heap.size) := by
  obtain ⟨v', w1, hrun, hrow, hk1, hat⟩ := T.row.append hbase 22 _ (Src.of_reads (c := c) hR) hl 22
  obtain ⟨A0, c0, rfl, _, _⟩ := T.row.reads
  obtain ⟨A1, c1, rfl, _, _⟩ := hrow.reads
  have hb1 : w1.heap[g]? = some (.cells #[.bool true, .slice A0 xs.length c0, .int .i64 (sure : Int)] 66 (0, 0)) := (hk1.block g T.lt (fun e => T.ne e)).trans T.blk
  have z0 : w.cell? ⟨g, 0, none⟩ = some (.bool true) := by rw [blk_cell T.blk]; rfl
  have z1 : w.cell? ⟨g, 1, none⟩ = some (.slice A0 xs.length c0) := by rw [blk_cell T.blk]; rfl
  have y1 : w1.cell? ⟨g, 1, none⟩ = some (.slice A0 xs.length c0) := by rw [blk_cell hb1]; rfl
  have f1 : w1.frozen? ⟨g, 1, none⟩ = false := blk_frozen hb1 1
  have HT := Lib.hid T
  have HK := Lib.hid hk1
  have HW := Lib.hid hrow
  have HA := Lib.hid hat
  have HB := Lib.hid hb1
  have HY := Lib.hid hy
  clear T hk1 hrow hat hb1 hR hy
  go_enter Try.func27, Try.ntmps27
  go_wp2_with (first | (go_at_call 41; refine (is_yes g _ z0).mono ?_; rintro e w' ⟨rfl, rfl⟩) | (at_builtin; refine Lib.wpList_append_run _ rfl _ _ _ _ rfl _ _ rfl rfl _ _ hrun ?_))
  go_ret
  refine ⟨rfl, _, ?_, ?_, HA.out⟩
  · have h := TapeAt.put1 HB.out HT.out.base_le HW.out (by rw [List.length_append]; have := HT.out.sure_le; omega) (HT.out.bytes.append HY.out)
    rw [List.length_append] at h ⊢
    exact h
  · exact (HK.out.mono (fun k _ e => .inr e)).setCell (.inl rfl) _

set_option maxHeartbeats 1000000 in
theorem sync_any {w : World} {base g : Nat} {v : Value} {xs : List Int} {sure : Nat} (T : TapeAt w base g v xs sure) :
    Calls Try.prog 28 #[.pointer (some ⟨g, 0, none⟩)] w fun e w' => e = .returned (.int .i64 0) ∧ TapeAt w' base g v xs xs.length ∧ Keeps (fun k => k = g) w w' := by
  obtain ⟨A0, c0, rfl, _, _⟩ := T.row.reads
  have z0 : w.cell? ⟨g, 0, none⟩ = some (.bool true) := by rw [blk_cell T.blk]; rfl
  have z1 : w.cell? ⟨g, 1, none⟩ = some (.slice A0 xs.length c0) := by rw [blk_cell T.blk]; rfl
  have z2 : w.cell? ⟨g, 2, none⟩ = some (.int .i64 (sure : Int)) := by rw [blk_cell T.blk]; rfl
  have f2 : w.frozen? ⟨g, 2, none⟩ = false := blk_frozen T.blk 2
  have HT := Lib.hid T
  clear T
  go_enter Try.func28, Try.ntmps28
  go_wp2_with (first | (go_at_call 41; refine (is_yes g _ z0).mono ?_; rintro e w' ⟨rfl, rfl⟩))
  go_ret
  exact ⟨rfl, TapeAt.put2 HT.out.blk HT.out.base_le HT.out.row (Nat.le_refl _) HT.out.bytes, (Keeps.refl (fun k => k = g) _).setCell (p := ⟨g, 2, none⟩) rfl _⟩

set_option maxHeartbeats 1000000 in
theorem cut_bad {w : World} {base g : Nat} {v : Value} {xs : List Int} {sure : Nat} (T : TapeAt w base g v xs sure) (n : Int) (hn : n < 0 ∨ (xs.length : Int) < n) :
    Calls Try.prog 32 #[.pointer (some ⟨g, 0, none⟩), .int .i64 n] w fun e w' => e = .returned (.int .i64 2) ∧ w = w' := by
  obtain ⟨A0, c0, rfl, _, _⟩ := T.row.reads
  have z0 : w.cell? ⟨g, 0, none⟩ = some (.bool true) := by rw [blk_cell T.blk]; rfl
  have z1 : w.cell? ⟨g, 1, none⟩ = some (.slice A0 xs.length c0) := by rw [blk_cell T.blk]; rfl
  clear T
  rcases hn with hn | hn
  · go_enter Try.func32, Try.ntmps32
    go_wp2_with (first | (go_at_call 41; refine (is_yes g _ z0).mono ?_; rintro e w' ⟨rfl, rfl⟩))
    go_ret
    exact ⟨rfl, rfl⟩
  · have hn0 : ¬ n < 0 := by omega
    go_enter Try.func32, Try.ntmps32
    go_wp2_with (first | (go_at_call 41; refine (is_yes g _ z0).mono ?_; rintro e w' ⟨rfl, rfl⟩))
    go_ret
    exact ⟨rfl, rfl⟩

theorem TRow.cut {w : World} {base : Nat} {A : Option Addr} {c : Nat} {xs : List Int} (h : TRow w base (.slice A xs.length c) xs) (n : Nat) (hn : n ≤ xs.length) : TRow w base (.slice A n n) (xs.take n) := by
  have hl : (xs.take n).length = n := by rw [List.length_take]; omega
  rcases h with ⟨e, h0⟩ | ⟨g, cap, cur, e, hb, hh, hnc, hcs, hcm, ht⟩
  · injection e with e1 e2 e3
    subst e1
    have hx : xs.length = 0 := by rw [h0]; rfl
    have h0n : n = 0 := by omega
    subst h0n
    exact .inl ⟨rfl, by simp⟩
  · injection e with e1 _ e3
    subst e1 e3
    refine .inr ⟨g, n, cur, by rw [hl], hb, hh, by rw [hl]; exact Nat.le_refl _, by omega, by omega, ?_⟩
    rw [hl]
    have h2 : (cur.toList.take xs.length).take n = (nums .u8 xs).take n := by rw [ht]
    rw [List.take_take, Nat.min_eq_left hn] at h2
    rw [h2]
    simp [nums, List.map_take]
set_option maxHeartbeats 1000000 in
theorem cut_any {w : World} {base g : Nat} {v : Value} {xs : List Int} {sure : Nat} (T : TapeAt w base g v xs sure) (n : Nat) (hn : n ≤ xs.length) (hm : xs.length ≤ 140737488355328) :
    Calls Try.prog 32 #[.pointer (some ⟨g, 0, none⟩), .int .i64 (n : Int)] w fun e w' => e = .returned (.int .i64 0) ∧ ∃ v', TapeAt w' base g v' (xs.take n) (min sure n) ∧ Keeps (fun k => k = g) w w' ∧ v'.ownBlock = v.ownBlock := by
  obtain ⟨A0, c0, rfl, hc0, _⟩ := T.row.reads
  have z0 : w.cell? ⟨g, 0, none⟩ = some (.bool true) := by rw [blk_cell T.blk]; rfl
  have z1 : w.cell? ⟨g, 1, none⟩ = some (.slice A0 xs.length c0) := by rw [blk_cell T.blk]; rfl
  have z2 : w.cell? ⟨g, 2, none⟩ = some (.int .i64 (sure : Int)) := by rw [blk_cell T.blk]; rfl
  have f1 : w.frozen? ⟨g, 1, none⟩ = false := blk_frozen T.blk 1
  have f2 : w.frozen? ⟨g, 2, none⟩ = false := blk_frozen T.blk 2
  have HT := Lib.hid T
  have hd1 : decide ((n : Int) < 0) = false := by simp
  have hd2 : decide ((xs.length : Int) < (n : Int)) = false := by simpa using hn
  clear T
  go_enter Try.func32, Try.ntmps32
  go_wp2_with (first | (go_at_call 41; refine (is_yes g _ z0).mono ?_; rintro e w' ⟨rfl, rfl⟩))
  all_goals
    go_ret
  · rename_i h
    rw [Nat.min_eq_right (Nat.le_of_lt h)]
    have hb1 := blk_set HT.out.blk 1 (.slice A0 n n)
    refine ⟨rfl, _, TapeAt.put2 hb1 HT.out.base_le ((HT.out.row.cut n hn).far HT.out.blk 1 _) (by rw [List.length_take]; omega) (HT.out.bytes.take n), ((Keeps.refl (fun k => k = g) _).setCell (p := ⟨g, 1, none⟩) rfl _).setCell (p := ⟨g, 2, none⟩) rfl _, ?_⟩
    cases A0 <;> rfl
  · rename_i h
    rw [Nat.min_eq_left (by omega)]
    have hb1 := blk_set HT.out.blk 1 (.slice A0 n n)
    refine ⟨rfl, _, TapeAt.put2 hb1 HT.out.base_le ((HT.out.row.cut n hn).far HT.out.blk 1 _) (by rw [List.length_take]; omega) (HT.out.bytes.take n), ((Keeps.refl (fun k => k = g) _).setCell (p := ⟨g, 1, none⟩) rfl _).setCell (p := ⟨g, 2, none⟩) rfl _, ?_⟩
    cases A0 <;> rfl

set_option maxHeartbeats 1000000 in
theorem loose_any {w : World} {base g : Nat} {v : Value} {xs : List Int} {sure : Nat} (T : TapeAt w base g v xs sure) (hm : xs.length ≤ 140737488355328) :
    Calls Try.prog 34 #[.pointer (some ⟨g, 0, none⟩)] w fun e w' => e = .returned (.int .i64 ((xs.length : Int) - (sure : Int))) ∧ Below w.heap.size w w' := by
  obtain ⟨A0, c0, rfl, _, _⟩ := T.row.reads
  have z0 : w.cell? ⟨g, 0, none⟩ = some (.bool true) := by rw [blk_cell T.blk]; rfl
  have z1 : w.cell? ⟨g, 1, none⟩ = some (.slice A0 xs.length c0) := by rw [blk_cell T.blk]; rfl
  have z2 : w.cell? ⟨g, 2, none⟩ = some (.int .i64 (sure : Int)) := by rw [blk_cell T.blk]; rfl
  have hs := T.sure_le
  clear T
  go_enter Try.func34, Try.ntmps34
  go_wp2_with (first | (go_at_call 41; refine (is_yes g _ z0).mono ?_; rintro e w' ⟨rfl, rfl⟩))
  have hw : IntKind.i64.wrap ((xs.length : Int) - (sure : Int)) = (xs.length : Int) - (sure : Int) := IntWalk.i64_in _ (by omega)
  go_quiet (fail)
  go_wp2
  go_ret
  exact ⟨rfl, pw_below_drewN (Below.refl _ _) nq⟩
set_option maxHeartbeats 1000000 in
theorem clone_any (A : Option Addr) (n c : Nat) (xs : List Int) (w : World) (hR : ReadsInt w .u8 A n xs) (hm : n ≤ 140737488355328) :
    Calls Try.prog 43 #[.slice A n c] w fun e w' => ∃ v, e = .returned v ∧ w'.ownsRow w.heap.size 5 1 v n (nums .u8 xs) ∧ Below w.heap.size w w' := by
  have q22 : ∀ (w : World) (a : Option Addr) (n c n' c' : Nat), (binOp .eql 22 (.slice a n c) (.slice none n' c')).run Try.prog w = .ok (.bool a.isNone) w := fun w a n c n' c' => Lib.run_eql_slice_nil w _ _ a n c n' c' Try.underlying22
  have HR := Lib.hid hR
  have HL : Hid (xs.length = n) := hR.1
  clear hR
  cases A with
  | none =>
    have h0 : n = 0 := by
      rcases Nat.eq_zero_or_pos n with z | z
      · exact z
      · obtain ⟨ad, e, _⟩ := HR.out.2.2 z
        cases e
    have e0 : Hid (xs = []) := List.eq_nil_of_length_eq_zero (by rw [HL.out, h0])
    have H00 := Lib.hid h0
    clear h0
    go_enter Try.func43, Try.ntmps43
    go_wp2
    go_ret
    refine ⟨_, rfl, ?_, Below.refl _ _⟩
    rw [H00.out, e0.out]
    exact World.ownsRow_nil _ _ _ _
  | some a =>
    go_enter Try.func43, Try.ntmps43
    go_wp2_with (at_builtin; refine print_append_row (w0 := w) w.heap.size rfl (.tmp 5) (.tmp 6) 22 5 .u8 1 rfl Try.underlying22 info5 (by omega) _ [] xs (some a) n c rfl rfl (World.ownsRow_made w #[] 0 (Nat.le_refl _) (Nat.zero_le _) (by simp)) (HR.out.below ((Below.refl _ _).alloc (Nat.le_refl _) _)) ((Below.refl _ _).alloc (Nat.le_refl _) _) (by simp) (by simp; exact hm) ?_; rintro v2 w2 hown2 hb2 hg2 hat2; have O2 := Lib.hid hown2; have B2 := Lib.hid hb2; clear hown2 hb2 hg2 hat2)
    go_ret
    refine ⟨_, rfl, ?_, B2.out⟩
    have h := O2.out
    rw [List.nil_append, HL.out] at h
    exact h
theorem bytes_any {w : World} {base g : Nat} {v : Value} {xs : List Int} {sure : Nat} (T : TapeAt w base g v xs sure) (hm : xs.length ≤ 140737488355328) :
    Calls Try.prog 33 #[.pointer (some ⟨g, 0, none⟩)] w fun e w' => ∃ v, e = .returned v ∧ w'.ownsRow w.heap.size 5 1 v xs.length (nums .u8 xs) ∧ Below w.heap.size w w' := by
  obtain ⟨A0, c0, rfl, _, hr⟩ := T.row.reads
  have z0 : w.cell? ⟨g, 0, none⟩ = some (.bool true) := by rw [blk_cell T.blk]; rfl
  have z1 : w.cell? ⟨g, 1, none⟩ = some (.slice A0 xs.length c0) := by rw [blk_cell T.blk]; rfl
  have HR := Lib.hid hr
  clear T hr
  go_enter Try.func33, Try.ntmps33
  go_wp2_with (first | (go_at_call 41; refine (is_yes g _ z0).mono ?_; rintro e w' ⟨rfl, rfl⟩) | (go_at_call 43; refine (clone_any A0 xs.length c0 xs _ HR.out hm).mono ?_; rintro e w2 ⟨v2, rfl, hown2, hb2⟩; have O2 := Lib.hid hown2; have B2 := Lib.hid hb2; clear hown2 hb2))
  go_ret
  exact ⟨_, rfl, O2.out, B2.out⟩
end Go.Proofs.Ytoegeljjfhbpeaa.J
namespace Go.Proofs.Ytoegeljjfhbpeaa.J
open Go.RowKit Go.Proofs.YtoegeljjfhbpeaaW.PrintWords Go.Proofs.YtoegeljjfhbpeaaW.PrintLast Go.Proofs.YtoegeljjfhbpeaaW.PrintMore

theorem TRow.set {w : World} {base g n c : Nat} {xs : List Int} (h : TRow w base (.slice (some ⟨g, 0, none⟩) n c) xs) (j : Nat) (y : Int) : TRow (w.setCell ⟨g, j, none⟩ (.int .u8 y)) base (.slice (some ⟨g, 0, none⟩) n c) (xs.set j y) := by
  rcases h with ⟨e, _⟩ | ⟨g', cap, cur, e, hb, hh, hnc, hcs, hcm, ht⟩
  · cases e
  · injection e with e1 e2 e3
    injection e1 with e1
    injection e1 with e1
    subst e1 e2 e3
    refine .inr ⟨g, c, cur.setIfInBounds j (.int .u8 y), by rw [List.length_set], hb, blk_set hh j _, by rw [List.length_set]; exact hnc, by rw [Array.size_setIfInBounds]; exact hcs, hcm, ?_⟩
    rw [Array.toList_setIfInBounds, List.length_set, List.take_set, ht]
    simp [nums, List.map_set]
theorem xor_byte (x y : Int) : 0 ≤ Go.bits .xor .u8 x y ∧ Go.bits .xor .u8 x y ≤ 255 := by
  show 0 ≤ IntKind.u8.wrap _ ∧ IntKind.u8.wrap _ ≤ 255
  rw [IntKind.wrap_u8]
  omega
theorem Bytes.set {l : List Int} (h : Bytes l) (j : Nat) {y : Int} (hy : 0 ≤ y ∧ y ≤ 255) : Bytes (l.set j y) := fun x hx => by
  rcases List.mem_or_eq_of_mem_set hx with hx | rfl
  · exact h x hx
  · exact hy
/-- what a crash leaves of a tape's bytes: kp loose ones, one of them turned -/
def crashed (xs : List Int) (sure kp : Nat) (at_ by_ : Int) : List Int :=
  if 0 ≤ at_ ∧ at_ < (kp : Int) then (xs.take (sure + kp)).set (sure + at_.toNat) (Go.bits .xor .u8 ((xs.take (sure + kp)).getD (sure + at_.toNat) 0) by_) else xs.take (sure + kp)
def keptOf (len sure : Nat) (keep : Int) : Nat := (max 0 (min keep ((len : Int) - (sure : Int)))).toNat
set_option maxHeartbeats 2000000 in
theorem crash_any {w : World} {base g : Nat} {v : Value} {xs : List Int} {sure : Nat} (T : TapeAt w base g v xs sure) (hm : xs.length ≤ 140737488355328) (hbase : base ≤ w.heap.size) (keep at_ by_ : Int) (hk0 : -9223372036854775808 ≤ keep) (hk1 : keep ≤ 9223372036854775807) (hy : 0 ≤ by_ ∧ by_ ≤ 255) :
    Calls Try.prog 24 #[.pointer (some ⟨g, 0, none⟩), .int .i64 keep, .int .i64 at_, .int .u8 by_] w fun e w' => e = .returned (.tuple #[]) ∧ ∃ v', TapeAt w' base g v' (crashed xs sure (keptOf xs.length sure keep) at_ by_) (sure + keptOf xs.length sure keep) ∧ Keeps (fun k => k = g) w w' ∧ (∀ k, v'.ownBlock = some k → w.heap.size ≤ k) := by
  obtain ⟨A0, c0, rfl, hc0, hr⟩ := T.row.reads
  have z0 : w.cell? ⟨g, 0, none⟩ = some (.bool true) := by rw [blk_cell T.blk]; rfl
  have z1 : w.cell? ⟨g, 1, none⟩ = some (.slice A0 xs.length c0) := by rw [blk_cell T.blk]; rfl
  have z2 : w.cell? ⟨g, 2, none⟩ = some (.int .i64 (sure : Int)) := by rw [blk_cell T.blk]; rfl
  have hs := T.sure_le
  have HT := Lib.hid T
  have HRR := Lib.hid hr
  clear T hr
  go_enter Try.func24, Try.ntmps24
  go_wp2_with (first | (go_at_call 41; refine (is_yes g _ z0).mono ?_; rintro e w' ⟨rfl, rfl⟩))
  have hw : IntKind.i64.wrap ((xs.length : Int) - (sure : Int)) = (xs.length : Int) - (sure : Int) := IntWalk.i64_in _ (by omega)
  go_quiet (fail)
  clear hw
  obtain ⟨mn, hmn⟩ : ∃ mn : Int, (if (xs.length : Int) - (sure : Int) < keep then (xs.length : Int) - (sure : Int) else keep) = mn := ⟨_, rfl⟩
  rw [hmn]
  obtain ⟨kp, hkp⟩ : ∃ kp : Nat, (if 0 < mn then mn else 0) = (kp : Int) := ⟨(if 0 < mn then mn else 0).toNat, by split <;> omega⟩
  rw [hkp]
  have hkl : kp ≤ xs.length - sure := by
    have h1 := hmn
    have h2 := hkp
    split at h1 <;> split at h2 <;> omega
  have HMN := Lib.hid hmn
  have HKP := Lib.hid hkp
  clear hmn hkp
  obtain ⟨wq, hwq⟩ : ∃ wq, w.drewN nq = wq := ⟨_, rfl⟩
  have HKq : Hid (Keeps (fun k => k = g) w wq) := by rw [← hwq]; exact (Keeps.refl _ _).drewN nq
  have HRq : Hid (ReadsInt wq .u8 A0 xs.length xs) := by rw [← hwq]; exact HRR.out.below (pw_below_drewN (Below.refl _ _) nq)
  have HBq : Hid (wq.heap[g]? = some (.cells #[.bool true, .slice A0 xs.length c0, .int .i64 (sure : Int)] 66 (0, 0))) := by rw [← hwq]; exact HT.out.blk
  have z1 : wq.cell? ⟨g, 1, none⟩ = some (.slice A0 xs.length c0) := by rw [← hwq]; exact z1
  have z2 : wq.cell? ⟨g, 2, none⟩ = some (.int .i64 (sure : Int)) := by rw [← hwq]; exact z2
  rw [hwq]
  clear hwq
  go_wp2
  have hn : sure + kp ≤ xs.length := by omega
  obtain ⟨i0, hi, hz0, hz1, hz2⟩ := info_parts info5
  have hcut : ∀ W : World, (Instr.slice 22 (.slice A0 xs.length c0) none (some (.int .i64 ((sure : Int) + (kp : Int)))) none).run Try.prog W = .ok (.slice A0 (sure + kp) c0) W := fun W => by
    have h := cut_to (P := Try.prog) 22 5 .i64 Try.underlying22 hi A0 xs.length c0 ((sure : Int) + (kp : Int)) (by omega) (by omega) hc0 W
    rw [show ((sure : Int) + (kp : Int)).toNat = sure + kp by omega] at h
    exact h
  have hR : Hid (ReadsInt wq.drew .u8 A0 (sure + kp) (xs.take (sure + kp))) := by
    have h2 : ReadsInt wq .u8 A0 xs.length xs := HRq.out
    exact ReadsOf.take_ (enc := Value.int .u8) (d := 0) h2 (sure + kp) hn
  have hN : Hid (sure + kp ≤ 140737488355328) := by show _ ≤ _; omega
  have hBq : Hid (wq.heap[g]? = some (.cells #[.bool true, .slice A0 xs.length c0, .int .i64 (sure : Int)] 66 (0, 0))) := HBq.out
  have hlt : Hid (g < wq.heap.size) := blk_lt hBq.out
  have hw : IntKind.i64.wrap ((sure : Int) + (kp : Int)) = (sure : Int) + (kp : Int) := IntWalk.i64_in _ (by omega)
  go_region_with (go_at_call 43; refine (clone_any A0 (sure + kp) c0 (xs.take (sure + kp)) _ hR.out hN.out).mono ?_; rintro e w2 ⟨v2, rfl, hown2, hb2⟩; have B2 : Hid (Below wq.heap.size wq w2) := ((Below.refl _ wq).drew).trans hb2; have O2 := Lib.hid hown2; obtain ⟨A2, c2, rfl, _, _⟩ := own_rd hown2; have G2 : Hid (w2.heap[g]? = some (.cells #[.bool true, .slice A0 xs.length c0, .int .i64 (sure : Int)] 66 (0, 0))) := (B2.out.block g hlt.out).trans hBq.out; have y1 : w2.cell? ⟨g, 1, none⟩ = some (.slice A0 xs.length c0) := (blk_cell G2.out 1).trans rfl; have f1 : w2.frozen? ⟨g, 1, none⟩ = false := blk_frozen G2.out 1; clear hown2 hb2)
  all_goals
    have HKK : Hid (keptOf xs.length sure keep = kp) := by
      show _ = _
      have h1 := HMN.out
      have h2 := HKP.out
      unfold keptOf
      split at h1 <;> split at h2 <;> omega
    have hrow2 : Hid (TRow w2 base (.slice A2 (sure + kp) c2) (xs.take (sure + kp))) := by
      have e : (xs.take (sure + kp)).length = sure + kp := by rw [List.length_take]; omega
      have h := own_weaken O2.out (base' := base) (Nat.le_trans hbase HKq.out.size)
      refine TRow.of_own ?_
      rw [e]
      exact h
    have hnew : Hid (∀ k, (Value.slice A2 (sure + kp) c2).ownBlock = some k → w.heap.size ≤ k) := fun k e => Nat.le_trans HKq.out.size (own_base O2.out k e)
    have hlen2 : Hid ((xs.take (sure + kp)).length = sure + kp) := by show _ = _; rw [List.length_take]; omega
    have T3 : Hid (TapeAt (w2.setCell ⟨g, 1, none⟩ (.slice A2 (sure + kp) c2)) base g (.slice A2 (sure + kp) c2) (xs.take (sure + kp)) sure) := TapeAt.put1 G2.out HT.out.base_le hrow2.out (by rw [hlen2.out]; omega) (HT.out.bytes.take _)
    have K3 : Hid (Keeps (fun k => k = g) w (w2.setCell ⟨g, 1, none⟩ (.slice A2 (sure + kp) c2))) := (HKq.out.trans (Keeps.of_below B2.out)).setCell (p := ⟨g, 1, none⟩) rfl _
    generalize w2.setCell ⟨g, 1, none⟩ (.slice A2 (sure + kp) c2) = w3 at T3 K3 ⊢
    clear hw hcut y1 f1 z1 z2
    have z1 : w3.cell? ⟨g, 1, none⟩ = some (.slice A2 (sure + kp) c2) := (blk_cell T3.out.blk 1).trans rfl
    have z2 : w3.cell? ⟨g, 2, none⟩ = some (.int .i64 (sure : Int)) := (blk_cell T3.out.blk 2).trans rfl
    have f2 : w3.frozen? ⟨g, 2, none⟩ = false := blk_frozen T3.out.blk 2
    have hcast : Hid ((sure : Int) + (kp : Int) = ((sure + kp : Nat) : Int)) := by show _ = _; omega
    by_cases ha : 0 ≤ at_
    · by_cases hak : at_ < (kp : Int)
      · obtain ⟨t, rfl⟩ := Int.eq_ofNat_of_zero_le ha
        have d1 : decide ((t : Int) < (kp : Int)) = true := by simpa using hak
        have htk : t < kp := by omega
        obtain ⟨g2, hA2, hh2⟩ : ∃ g2, A2 = some ⟨g2, 0, none⟩ ∧ ∃ cur, w3.heap[g2]? = some (.cells cur 5 (0, 0)) ∧ sure + kp ≤ cur.size ∧ cur.toList.take (sure + kp) = nums .u8 (xs.take (sure + kp)) := by
          rcases T3.out.row with ⟨e, h0⟩ | ⟨g2, cap, cur, e, _, hh, hnc, hcs, _, ht⟩
          · have := hlen2.out
            rw [h0] at this
            simp at this
            omega
          · injection e with e1 e2
            rw [hlen2.out] at ht hnc
            exact ⟨g2, e1, cur, hh, by omega, ht⟩
        subst hA2
        obtain ⟨cur, hh2, hcs2, htk2⟩ := hh2
        have hjl : Hid (sure + t < (xs.take (sure + kp)).length) := by show _ < _; rw [hlen2.out]; omega
        obtain ⟨x, hx⟩ : ∃ x, (xs.take (sure + kp)).getD (sure + t) 0 = x := ⟨_, rfl⟩
        have cb : w3.cell? ⟨g2, sure + t, none⟩ = some (.int .u8 x) := by
          rw [cell_of_row w3 g2 (sure + t) cur 5 (0, 0) hh2, ← Array.getElem?_toList]
          have h1 : (cur.toList.take (sure + kp))[sure + t]? = (nums .u8 (xs.take (sure + kp)))[sure + t]? := by rw [htk2]
          rw [List.getElem?_take, if_pos (by omega)] at h1
          rw [h1, ← hx]
          have := hjl.out
          rw [hlen2.out] at this
          simp [nums, List.getD, List.getElem?_take, show t < kp by omega]
          have h2 : sure + t < xs.length := by omega
          simp [h2]
        have fb : w3.frozen? ⟨g2, sure + t, none⟩ = false := blk_frozen hh2 _
        have hne : ¬ g2 = g := by
          rintro rfl
          have h1 := T3.out.blk
          rw [hh2] at h1
          cases h1
        have hne' : ¬ g = g2 := fun e => hne e.symm
        have HX := Lib.hid hx
        have HH2 := Lib.hid hh2
        clear hx hh2 hcs2 htk2
        have HTK := Lib.hid htk
        clear htk
        go_wp2
        have n1 : ((sure : Int) + (t : Int)).toNat = sure + t := by omega
        have p1 : (0 : Int) ≤ (sure : Int) + (t : Int) := by omega
        have l1 : (sure : Int) + (t : Int) < (sure : Int) + (kp : Int) := by have := HTK.out; omega
        have w1 : IntKind.i64.wrap ((sure : Int) + (t : Int)) = (sure : Int) + (t : Int) := IntWalk.i64_in _ (by have := HTK.out; omega)
        go_region
        clear w1 n1 p1 l1 cb fb
        have hT4 : Hid (TapeAt (w3.setCell ⟨g2, sure + t, none⟩ (.int .u8 (Go.bits .xor .u8 x by_))).drew base g (.slice (some ⟨g2, 0, none⟩) (sure + kp) c2) ((xs.take (sure + kp)).set (sure + t) (Go.bits .xor .u8 x by_)) sure) :=
          ⟨(Below.heap_setCell w3 ⟨g2, sure + t, none⟩ _ g hne').trans T3.out.blk, T3.out.base_le, T3.out.row.set (sure + t) _, by rw [List.length_set]; exact T3.out.sure_le, T3.out.bytes.set _ (xor_byte _ _)⟩
        have hK4 : Hid (Keeps (fun k => k = g) w (w3.setCell ⟨g2, sure + t, none⟩ (.int .u8 (Go.bits .xor .u8 x by_))).drew) :=
          (K3.out.trans' (S' := fun k => k = g2) ((Keeps.refl (fun k => k = g2) _).setCell (p := ⟨g2, sure + t, none⟩) rfl _) (fun i hi e => absurd (hnew.out g2 (by simp [Value.ownBlock])) (by subst e; omega))).drew
        generalize (w3.setCell ⟨g2, sure + t, none⟩ (.int .u8 (Go.bits .xor .u8 x by_))).drew = w4 at hT4 hK4 ⊢
        clear z1 z2 f2 hne hne'
        have z1 : w4.cell? ⟨g, 1, none⟩ = some (.slice (some ⟨g2, 0, none⟩) (sure + kp) c2) := (blk_cell hT4.out.blk 1).trans rfl
        have z2 : w4.cell? ⟨g, 2, none⟩ = some (.int .i64 (sure : Int)) := (blk_cell hT4.out.blk 2).trans rfl
        have f2 : w4.frozen? ⟨g, 2, none⟩ = false := blk_frozen hT4.out.blk 2
        go_wp2
        go_end0
        rw [hcast.out]
        refine ⟨rfl, .slice (some ⟨g2, 0, none⟩) (sure + kp) c2, ?_, hK4.out.setCell (p := ⟨g, 2, none⟩) rfl _, hnew.out⟩
        rw [HKK.out]
        have hcr : crashed xs sure kp (t : Int) by_ = (xs.take (sure + kp)).set (sure + t) (Go.bits .xor .u8 x by_) := by
          unfold crashed
          rw [if_pos ⟨by omega, by have := HTK.out; omega⟩, Int.toNat_natCast, HX.out]
        rw [hcr]
        exact TapeAt.put2 hT4.out.blk HT.out.base_le hT4.out.row (by rw [List.length_set, hlen2.out]; exact Nat.le_refl _) hT4.out.bytes
      · have d1 : decide (at_ < (kp : Int)) = false := by simp; omega
        have d0 : decide (0 ≤ at_) = true := by simp; omega
        go_wp2
        go_end0
        rw [hcast.out]
        refine ⟨rfl, .slice A2 (sure + kp) c2, ?_, K3.out.setCell (p := ⟨g, 2, none⟩) rfl _, hnew.out⟩
        rw [HKK.out]
        unfold crashed
        rw [if_neg (by omega)]
        exact TapeAt.put2 T3.out.blk HT.out.base_le T3.out.row (by rw [hlen2.out]; exact Nat.le_refl _) T3.out.bytes
    · have d0 : decide (0 ≤ at_) = false := by simp; omega
      go_wp2
      go_end0
      rw [hcast.out]
      refine ⟨rfl, .slice A2 (sure + kp) c2, ?_, K3.out.setCell (p := ⟨g, 2, none⟩) rfl _, hnew.out⟩
      rw [HKK.out]
      unfold crashed
      rw [if_neg (by omega)]
      exact TapeAt.put2 T3.out.blk HT.out.base_le T3.out.row (by rw [hlen2.out]; exact Nat.le_refl _) T3.out.bytes
end Go.Proofs.Ytoegeljjfhbpeaa.J
namespace Go.Proofs.Ytoegeljjfhbpeaa.J
open Go.RowKit Go.Proofs.YtoegeljjfhbpeaaW.PrintWords Go.Proofs.YtoegeljjfhbpeaaW.PrintLast Go.Proofs.YtoegeljjfhbpeaaW.PrintMore

theorem TapeAt.new (w : World) (base : Nat) (h : base ≤ w.heap.size) : TapeAt (w.alloc (.cells #[.bool true, .slice none 0 0, .int .i64 0] 66)) base w.heap.size (.slice none 0 0) [] 0 :=
  ⟨heap_alloc_new w _, h, TRow.nil _ _, Nat.le_refl _, by intro x hx; simp at hx⟩
theorem newTape_any (w : World) : Calls Try.prog 20 #[] w fun e w' => e = .returned (.pointer (some ⟨w.heap.size, 0, none⟩)) ∧ w' = w.alloc (.cells #[.bool true, .slice none 0 0, .int .i64 0] 66) := by
  go_enter Try.func20, Try.ntmps20
  go_wp2
  go_ret
  exact ⟨rfl, rfl⟩

/-- block lg is a log of the tape g -/
structure LogAt (w : World) (base lg g : Nat) (lv : Value) (ls : List ByteArray) (safe : Nat) : Prop where
  blk : w.heap[lg]? = some (.cells #[.pointer (some ⟨g, 0, none⟩), lv, .int .i64 (safe : Int)] 68 (0, 0))
  base_le : base ≤ lg
  row : w.ownsRow base 9 1 lv ls.length (ls.map Value.string)
theorem own_block {w : World} {base t : Nat} {v : Value} {n : Nat} {xs : List Value} (h : w.ownsRow base t 1 v n xs) (k : Nat) (hk : v.ownBlock = some k) : base ≤ k ∧ k < w.heap.size ∧ ∃ cur, w.heap[k]? = some (.cells cur t (0, 0)) := by
  rcases h.2 with ⟨rfl, _⟩ | ⟨g, cap, cur, rfl, hb, hh, _⟩
  · simp [Value.ownBlock] at hk
  · have : g = k := by simpa [Value.ownBlock] using hk
    subst this
    exact ⟨hb, (Array.getElem?_eq_some_iff.1 hh).1, cur, hh⟩
theorem own_kept {w w' : World} {base t : Nat} {v : Value} {n : Nat} {xs : List Value} (h : w.ownsRow base t 1 v n xs) (hk : ∀ k, v.ownBlock = some k → w'.heap[k]? = w.heap[k]?) : w'.ownsRow base t 1 v n xs := by
  refine ⟨h.1, ?_⟩
  rcases h.2 with h2 | ⟨g, cap, cur, rfl, hb, hh, r⟩
  · exact .inl h2
  · exact .inr ⟨g, cap, cur, rfl, hb, (hk g (by simp [Value.ownBlock])).trans hh, r⟩
theorem LogAt.lt {w : World} {base lg g : Nat} {lv : Value} {ls : List ByteArray} {safe : Nat} (h : LogAt w base lg g lv ls safe) : lg < w.heap.size := blk_lt h.blk
theorem LogAt.kept {w w' : World} {base lg g : Nat} {lv : Value} {ls : List ByteArray} {safe : Nat} (h : LogAt w base lg g lv ls safe) {S : Nat → Prop} (hk : Keeps S w w') (hg : ¬ S lg) (hv : ∀ k, lv.ownBlock = some k → ¬ S k) : LogAt w' base lg g lv ls safe :=
  ⟨(hk.block lg h.lt hg).trans h.blk, h.base_le, own_kept h.row (fun k e => hk.block k (own_block h.row k e).2.1 (hv k e))⟩
theorem made_yes (lg g : Nat) (w : World) (h : w.cell? ⟨lg, 0, none⟩ = some (.pointer (some ⟨g, 0, none⟩))) : Calls Try.prog 42 #[.pointer (some ⟨lg, 0, none⟩)] w fun e w' => e = .returned (.bool true) ∧ w = w' := by
  go_enter Try.func42, Try.ntmps42
  go_wp2
  go_ret
  exact ⟨rfl, rfl⟩
theorem made_no (lg : Nat) (w : World) (h : w.cell? ⟨lg, 0, none⟩ = some (.pointer none)) : Calls Try.prog 42 #[.pointer (some ⟨lg, 0, none⟩)] w fun e w' => e = .returned (.bool false) ∧ w = w' := by
  go_enter Try.func42, Try.ntmps42
  go_wp2
  go_ret
  exact ⟨rfl, rfl⟩
theorem made_nil (w : World) : Calls Try.prog 42 #[.pointer none] w fun e w' => e = .returned (.bool false) ∧ w = w' := by
  go_enter Try.func42, Try.ntmps42
  go_wp2
  go_ret
  exact ⟨rfl, rfl⟩
end Go.Proofs.Ytoegeljjfhbpeaa.J
namespace Go.Proofs.Ytoegeljjfhbpeaa.J
open Go.RowKit

/-! frames, one behind the other, and what Scan tells of them -/
def framesG : Nat → List (List Int) → List Int
  | _, [] => []
  | n, s :: l => frameL (n : Int) s ++ framesG (n + 1) l
def endsG : Nat → List (List Int) → List (List Int × Nat)
  | _, [] => []
  | a, s :: l => (s, a + 8 + s.length) :: endsG (a + 8 + s.length) l
def Fine (l : List (List Int)) : Prop := ∀ s ∈ l, Bytes s ∧ s.length ≤ 65536
theorem Fine.head {s : List Int} {l : List (List Int)} (h : Fine (s :: l)) : Bytes s ∧ s.length ≤ 65536 := h s (List.mem_cons_self ..)
theorem Fine.tail {s : List Int} {l : List (List Int)} (h : Fine (s :: l)) : Fine l := fun x hx => h x (List.mem_cons_of_mem _ hx)
theorem frameL_len (n : Int) (s : List Int) : (frameL n s).length = 8 + s.length := by
  unfold frameL
  rw [List.length_append, List.length_append]
  rfl
theorem frameL_head (n : Int) (s t : List Int) (hs : s.length ≤ 65536) : headNum (frameL n s ++ t) = (s.length : Int) := by
  unfold frameL headNum four byt
  simp only [List.cons_append, List.nil_append, List.getD_cons_zero, List.getD_cons_succ]
  omega
theorem frameL_drop4 (n : Int) (s t : List Int) : ((frameL n s ++ t).drop 4).take 4 = lineSum n s := by
  unfold frameL four lineSum low4
  rfl
theorem frameL_drop8 (n : Int) (s t : List Int) : (frameL n s ++ t).drop 8 = s ++ t := by
  unfold frameL four lineSum low4
  rfl
theorem frameL_drop (n : Int) (s t : List Int) : (frameL n s ++ t).drop (8 + s.length) = t := by
  rw [← List.drop_drop, frameL_drop8]
  exact List.drop_left' rfl
theorem front_frame (n : Nat) (s t : List Int) (hs : s.length ≤ 65536) : front n (frameL (n : Int) s ++ t) = some s := by
  have hh := frameL_head n s t hs
  have hl := frameL_len n s
  unfold front
  rw [if_pos (by rw [List.length_append]; omega), hh, if_pos (by rw [List.length_append]; omega), Int.toNat_natCast, frameL_drop8, List.take_left' rfl, frameL_drop4, if_pos rfl]
/-- a frame that is cut off is none -/
theorem front_cut (n : Nat) (s u v : List Int) (hs : s.length ≤ 65536) (h : frameL (n : Int) s = u ++ v) (hv : v ≠ []) : front n u = none := by
  have hl := frameL_len n s
  have hvl : 0 < v.length := List.length_pos_iff.2 hv
  rw [h, List.length_append] at hl
  unfold front
  split
  · rename_i h8
    have hh : headNum u = (s.length : Int) := by
      have h1 := frameL_head n s [] hs
      rw [List.append_nil, h] at h1
      rw [← h1]
      unfold headNum byt
      have e : ∀ j, j < 8 → (u ++ v).getD j 0 = u.getD j 0 := fun j hj => by
        rw [List.getD_eq_getElem?_getD, List.getD_eq_getElem?_getD, List.getElem?_append_left (by omega)]
      rw [e 0 (by omega), e 1 (by omega), e 2 (by omega), e 3 (by omega)]
    rw [hh, if_neg (by omega)]
  · rfl
theorem front_nil (n : Nat) : front n [] = none := rfl
theorem framesG_append : ∀ (l m : List (List Int)) (n : Nat), framesG n (l ++ m) = framesG n l ++ framesG (n + l.length) m
  | [], m, n => rfl
  | s :: l, m, n => by
    simp only [List.cons_append, framesG, List.length_cons]
    rw [framesG_append l m (n + 1), List.append_assoc, show n + 1 + l.length = n + (l.length + 1) by omega]
theorem framesG_bytes : ∀ (l : List (List Int)) (n : Nat), Fine l → Bytes (framesG n l)
  | [], n, _ => by intro x hx; simp [framesG] at hx
  | s :: l, n, h => by
    simp only [framesG]
    exact (frameL_bytes _ h.head.1).append (framesG_bytes l (n + 1) h.tail)
theorem framesG_len : ∀ (l : List (List Int)) (n m : Nat), (framesG n l).length = (framesG m l).length
  | [], _, _ => rfl
  | s :: l, n, m => by
    simp only [framesG, List.length_append, frameL_len]
    rw [framesG_len l (n + 1) (m + 1)]
theorem framesG_ge : ∀ (l : List (List Int)) (n : Nat), 8 * l.length ≤ (framesG n l).length
  | [], _ => Nat.le_refl _
  | s :: l, n => by
    simp only [framesG, List.length_append, frameL_len, List.length_cons]
    have := framesG_ge l (n + 1)
    omega
theorem scanG_frames : ∀ (l : List (List Int)) (k n a : Nat) (b t : List Int), Fine l → b.drop a = framesG n l ++ t → l.length ≤ k → scanG k n a b = endsG a l ++ scanG (k - l.length) (n + l.length) (a + (framesG n l).length) b ∧ b.drop (a + (framesG n l).length) = t
  | [], k, n, a, b, t, _, h, hk => ⟨rfl, h⟩
  | s :: l, k, n, a, b, t, hf, h, hk => by
    simp only [framesG, List.append_assoc] at h
    obtain ⟨k, rfl⟩ : ∃ j, k = j + 1 := ⟨k - 1, by rw [List.length_cons] at hk; omega⟩
    have h1 : front n (b.drop a) = some s := by rw [h]; exact front_frame n s _ hf.head.2
    have h2 : b.drop (a + 8 + s.length) = framesG (n + 1) l ++ t := by
      rw [Nat.add_assoc, ← List.drop_drop, h, frameL_drop]
    obtain ⟨e1, e2⟩ := scanG_frames l k (n + 1) (a + 8 + s.length) b t hf.tail h2 (by rw [List.length_cons] at hk; omega)
    have hlen : a + (framesG n (s :: l)).length = a + 8 + s.length + (framesG (n + 1) l).length := by
      simp only [framesG, List.length_append, frameL_len]
      omega
    refine ⟨?_, by rw [hlen]; exact e2⟩
    rw [scanG_some h1, e1, hlen, List.length_cons, show k + 1 - (l.length + 1) = k - l.length by omega, show n + 1 + l.length = n + (l.length + 1) by omega]
    rfl
/-- frames and, behind them, what is none -/
theorem scan_frames (l : List (List Int)) (t : List Int) (hf : Fine l) (ht : front l.length t = none) : scanL (framesG 0 l ++ t) = endsG 0 l := by
  have hk : l.length ≤ (framesG 0 l ++ t).length + 1 := by
    have := framesG_ge l 0
    rw [List.length_append]
    omega
  obtain ⟨h1, h2⟩ := scanG_frames l _ 0 0 (framesG 0 l ++ t) t hf rfl hk
  unfold scanL
  rw [h1, scanG_none (by rw [h2, Nat.zero_add]; exact ht), List.append_nil]
theorem endsG_fst : ∀ (l : List (List Int)) (a : Nat), (endsG a l).map (·.1) = l
  | [], _ => rfl
  | s :: l, a => by simp only [endsG, List.map_cons]; rw [endsG_fst l]
theorem endsG_last : ∀ (l : List (List Int)) (s : List Int) (n a : Nat), endOf ((s, a) :: endsG a l) = a + (framesG n l).length
  | [], _, _, a => rfl
  | s' :: l, s, n, a => by
    have h := endsG_last l s' (n + 1) (a + 8 + s'.length)
    unfold endOf at h ⊢
    simp only [endsG, List.getLast?_cons_cons]
    rw [h]
    simp only [framesG, List.length_append, frameL_len]
    omega
theorem endOf_ends (l : List (List Int)) : endOf (endsG 0 l) = (framesG 0 l).length := by
  cases l with
  | nil => rfl
  | cons s l =>
    simp only [endsG]
    rw [endsG_last l s 1]
    simp only [framesG, List.length_append, frameL_len]
/-- frames that are cut off: some of them, and what is none -/
theorem take_frames : ∀ (l : List (List Int)) (n c : Nat), Fine l → c ≤ (framesG n l).length → ∃ m u, m ≤ l.length ∧ (framesG n l).take c = framesG n (l.take m) ++ u ∧ front (n + m) u = none ∧ (framesG n (l.take m)).length ≤ c ∧ (m = l.length ∨ c < (framesG n (l.take (m + 1))).length)
  | [], n, c, _, hc => ⟨0, [], Nat.le_refl _, by simp [framesG], rfl, Nat.zero_le _, .inl rfl⟩
  | s :: l, n, c, hf, hc => by
    simp only [framesG, List.length_append] at hc ⊢
    have hl := frameL_len n s
    rcases Nat.lt_or_ge c (frameL (n : Int) s).length with h | h
    · refine ⟨0, (frameL (n : Int) s).take c, Nat.zero_le _, ?_, ?_, Nat.zero_le _, .inr ?_⟩
      · rw [List.take_append_of_le_length (Nat.le_of_lt h)]
        rfl
      · refine front_cut n s _ ((frameL (n : Int) s).drop c) hf.head.2 (List.take_append_drop c _).symm ?_
        intro e
        have := congrArg List.length e
        rw [List.length_drop] at this
        simp at this
        omega
      · simp only [Nat.zero_add, List.take_succ_cons, List.take_zero, framesG, List.append_nil]
        exact h
    · obtain ⟨m, u, h1, h2, h3, h4, h5⟩ := take_frames l (n + 1) (c - (frameL (n : Int) s).length) hf.tail (by omega)
      refine ⟨m + 1, u, by rw [List.length_cons]; omega, ?_, by rw [show n + (m + 1) = n + 1 + m by omega]; exact h3, ?_, ?_⟩
      · rw [List.take_append, List.take_of_length_le h, h2, List.take_succ_cons]
        simp only [framesG, List.append_assoc]
      · simp only [List.take_succ_cons, framesG, List.length_append]
        omega
      · rcases h5 with h5 | h5
        · exact .inl (by rw [List.length_cons, h5])
        · refine .inr ?_
          simp only [List.take_succ_cons, framesG, List.length_append] at h5 ⊢
          omega
theorem scanG_end : ∀ (k n a : Nat) (b : List Int), a ≤ b.length → ∀ x ∈ scanG k n a b, x.2 ≤ b.length
  | 0, _, _, _, _, x, hx => by simp [scanG] at hx
  | k + 1, n, a, b, h, x, hx => by
    cases hf : front n (b.drop a) with
    | none => rw [scanG_none hf] at hx; simp at hx
    | some s =>
      rw [scanG_some hf] at hx
      have hb : a + 8 + s.length ≤ b.length := by
        unfold front at hf
        split at hf
        · split at hf
          · split at hf
            · injection hf with hf
              rename_i h1 h2 h3
              subst hf
              rw [List.length_take, List.length_drop, List.length_drop]
              rw [List.length_drop] at h1 h2
              omega
            · cases hf
          · cases hf
        · cases hf
      rcases List.mem_cons.1 hx with rfl | hx
      · exact hb
      · exact scanG_end k (n + 1) _ b hb x hx
theorem endOf_le (b : List Int) : endOf (scanL b) ≤ b.length := by
  unfold endOf
  split
  · exact Nat.zero_le _
  · rename_i x hx
    exact scanG_end _ _ _ b (Nat.zero_le _) x (List.mem_of_getLast? hx)
/-- what Scan tells are the frames at the front -/
theorem front_some {n : Nat} {b s : List Int} (hb : Bytes b) (h : front n b = some s) : ∃ t, b = frameL (n : Int) s ++ t ∧ Bytes s ∧ s.length ≤ 65536 := by
  unfold front at h
  split at h
  · rename_i h8
    split at h
    · rename_i h1
      split at h
      · rename_i h2
        injection h with h
        have hd := getD_byte hb
        have hn0 : 0 ≤ headNum b := by unfold headNum; have := hd 0; have := hd 1; have := hd 2; have := hd 3; omega
        obtain ⟨L, hL⟩ : ∃ L : Nat, headNum b = L := ⟨(headNum b).toNat, by omega⟩
        have hl : s.length = L := by rw [← h, hL, List.length_take, List.length_drop]; omega
        have e := (frame_eq (n : Int) b hb 0 L (by omega) (by rw [List.drop_zero]; exact hL)).2 (by rw [Nat.zero_add, Nat.zero_add, ← Int.toNat_natCast L, ← hL, h]; rw [h] at h2; exact h2)
        rw [Nat.zero_add, List.drop_zero, show ((b.drop 8).take L) = s by rw [← h, hL]; rfl] at e
        refine ⟨b.drop (8 + L), by rw [e]; exact (List.take_append_drop _ _).symm, by rw [← h]; exact (hb.drop 8).take _, by omega⟩
      · cases h
    · cases h
  · cases h
end Go.Proofs.Ytoegeljjfhbpeaa.J
