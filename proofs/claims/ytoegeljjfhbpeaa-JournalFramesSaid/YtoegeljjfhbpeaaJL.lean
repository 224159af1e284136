import Derived.Test.YtoegeljjfhbpeaaJK
import Derived.Test.YtoegeljjfhbpeaaJH
import Derived.Lib.SliceRun
set_option linter.unusedVariables false
set_option linter.unusedSimpArgs false
namespace Go.Proofs.Ytoegeljjfhbpeaa.J
open Go.RowKit Go.Proofs.YtoegeljjfhbpeaaW.PrintWords Go.Proofs.YtoegeljjfhbpeaaW.PrintLast Go.Proofs.YtoegeljjfhbpeaaW.PrintMore

/-- block g is a tape: its bytes, and how many of them stay -/
structure TapeAt (w : World) (base g : Nat) (v : Value) (xs : List Int) (sure : Nat) : Prop where
  blk : w.heap[g]? = some (.cells #[.bool true, v, .int .i64 (sure : Int)] 66 (0, 0))
  base_le : base ≤ g
  row : TRow w base v xs
  sure_le : sure ≤ xs.length
  bytes : Bytes xs
theorem TapeAt.lt {w : World} {base g : Nat} {v : Value} {xs : List Int} {sure : Nat} (h : TapeAt w base g v xs sure) : g < w.heap.size := blk_lt h.blk
theorem TapeAt.ne {w : World} {base g : Nat} {v : Value} {xs : List Int} {sure : Nat} (h : TapeAt w base g v xs sure) : v.ownBlock ≠ some g := by
  intro e
  obtain ⟨_, _, cur, hc⟩ := h.row.own g e
  rw [h.blk] at hc
  cases hc
theorem TapeAt.kept {w w' : World} {base g : Nat} {v : Value} {xs : List Int} {sure : Nat} (h : TapeAt w base g v xs sure) {S : Nat → Prop} (hk : Keeps S w w') (hg : ¬ S g) (hv : ∀ k, v.ownBlock = some k → ¬ S k) : TapeAt w' base g v xs sure :=
  ⟨(hk.block g h.lt hg).trans h.blk, h.base_le, h.row.kept (fun k e => hk.block k (h.row.own k e).2.1 (hv k e)), h.sure_le, h.bytes⟩
theorem Src.of_reads {w : World} {A : Option Addr} {n c : Nat} {ys : List Int} (h : ReadsInt w .u8 A n ys) : Src Try.prog 1 22 (.slice A n c) ys.length (nums .u8 ys) w := by
  have hl := h.1
  subst hl
  cases A with
  | none =>
    have h0 : ys.length = 0 := by
      rcases Nat.eq_zero_or_pos ys.length with z | z
      · exact z
      · obtain ⟨ad, e, _⟩ := h.2.2 z
        cases e
    have e0 : ys = [] := List.eq_nil_of_length_eq_zero h0
    subst e0
    exact Src.ofNil w Try.underlying22 c
  | some a =>
    refine Src.ofSlice w Try.underlying22 a ys.length c (nums .u8 ys) (by rw [nums_length, Nat.mul_one]) (fun j u hu => ?_) (fun u hu => by obtain ⟨_, _, rfl⟩ := List.mem_map.1 hu; rfl)
    have hj : j < ys.length := by
      have := (List.getElem?_eq_some_iff.1 hu).1
      rwa [nums_length] at this
    obtain ⟨ad, e, hc⟩ := h.2.2 (by omega)
    injection e with e
    subst e
    rw [hc j hj]
    rw [← hu]
    simp [nums, hj]

theorem TRow.far {w : World} {base g : Nat} {v u : Value} {xs : List Int} {s : Nat} (hb : w.heap[g]? = some (.cells #[.bool true, u, .int .i64 (s : Int)] 66 (0, 0))) (hr : TRow w base v xs) (j : Nat) (x : Value) : TRow (w.setCell ⟨g, j, none⟩ x) base v xs :=
  hr.kept (fun k e => by
    obtain ⟨_, _, cur, hc⟩ := hr.own k e
    refine Below.heap_setCell _ _ _ _ ?_
    rintro rfl
    rw [hb] at hc
    cases hc)
theorem TapeAt.put1 {w : World} {base g : Nat} {v u : Value} {xs : List Int} {sure : Nat} (hb : w.heap[g]? = some (.cells #[.bool true, u, .int .i64 (sure : Int)] 66 (0, 0))) (hbase : base ≤ g) (hr : TRow w base v xs) (hs : sure ≤ xs.length) (hby : Bytes xs) :
    TapeAt (w.setCell ⟨g, 1, none⟩ v) base g v xs sure :=
  ⟨blk_set hb 1 v, hbase, hr.far hb 1 v, hs, hby⟩
theorem TapeAt.put2 {w : World} {base g : Nat} {v : Value} {xs : List Int} {s sure : Nat} (hb : w.heap[g]? = some (.cells #[.bool true, v, .int .i64 (s : Int)] 66 (0, 0))) (hbase : base ≤ g) (hr : TRow w base v xs) (hs : sure ≤ xs.length) (hby : Bytes xs) :
    TapeAt (w.setCell ⟨g, 2, none⟩ (.int .i64 (sure : Int))) base g v xs sure :=
  ⟨blk_set hb 2 _, hbase, hr.far hb 2 _, hs, hby⟩

theorem is_yes (g : Nat) (w : World) (h : w.cell? ⟨g, 0, none⟩ = some (.bool true)) : Calls Try.prog 41 #[.pointer (some ⟨g, 0, none⟩)] w fun e w' => e = .returned (.bool true) ∧ w = w' := by
  go_enter Try.func41, Try.ntmps41
  go_wp2
  go_ret
  exact ⟨rfl, rfl⟩
theorem is_no (g : Nat) (w : World) (h : w.cell? ⟨g, 0, none⟩ = some (.bool false)) : Calls Try.prog 41 #[.pointer (some ⟨g, 0, none⟩)] w fun e w' => e = .returned (.bool false) ∧ w = w' := by
  go_enter Try.func41, Try.ntmps41
  go_wp2
  go_ret
  exact ⟨rfl, rfl⟩
theorem is_nil (w : World) : Calls Try.prog 41 #[.pointer none] w fun e w' => e = .returned (.bool false) ∧ w = w' := by
  go_enter Try.func41, Try.ntmps41
  go_wp2
  go_ret
  exact ⟨rfl, rfl⟩

set_option maxHeartbeats 1000000 in
theorem append_any {w : World} {base g : Nat} {v : Value} {xs : List Int} {sure : Nat} (T : TapeAt w base g v xs sure) (A : Option Addr) (n c : Nat) (ys : List Int) (hR : ReadsInt w .u8 A n ys) (hy : Bytes ys) (hl : xs.length + ys.length ≤ 140737488355328) (hbase : base ≤ w.heap.size) :
    Calls Try.prog 27 #[.pointer (some ⟨g, 0, none⟩), .slice A n c] w fun e w' => e = .returned (.int .i64 0) ∧ ∃ v', TapeAt w' base g v' (xs ++ ys) sure ∧ Keeps (fun k => k = g ∨ v.ownBlock = some k) w w' ∧ (v'.ownBlock = v.ownBlock ∨ v'.ownBlock = some w.heap.size) := by
  obtain ⟨v', w1, hrun, hrow, hk1, hat⟩ := T.row.append hbase 22 _ (Src.of_reads (c := c) hR) hl 22
  obtain ⟨A0, c0, rfl, _, _⟩ := T.row.reads
  obtain ⟨A1, c1, rfl, _, _⟩ := hrow.reads
  have hb1 : w1.heap[g]? = some (.cells #[.bool true, .slice A0 xs.length c0, .int .i64 (sure : Int)] 66 (0, 0)) := (hk1.block g T.lt (fun e => T.ne e)).trans T.blk
  have z0 : w.cell? ⟨g, 0, none⟩ = some (.bool true) := by rw [blk_cell T.blk]; rfl
  have z1 : w.cell? ⟨g, 1, none⟩ = some (.slice A0 xs.length c0) := by rw [blk_cell T.blk]; rfl
  have y1 : w1.cell? ⟨g, 1, none⟩ = some (.slice A0 xs.length c0) := by rw [blk_cell hb1]; rfl
  have f1 : w1.frozen? ⟨g, 1, none⟩ = false := blk_frozen hb1 1
  have HT := Lib.hid T
  have HK := Lib.hid hk1
  have HW := Lib.hid hrow
  have HA := Lib.hid hat
  have HB := Lib.hid hb1
  have HY := Lib.hid hy
  clear T hk1 hrow hat hb1 hR hy
  go_enter Try.func27, Try.ntmps27
  go_wp2_with (first | (go_at_call 41; refine (is_yes g _ z0).mono ?_; rintro e w' ⟨rfl, rfl⟩) | (at_builtin; refine Lib.wpList_append_run _ rfl _ _ _ _ rfl _ _ rfl rfl _ _ hrun ?_))
  go_ret
  refine ⟨rfl, _, ?_, ?_, HA.out⟩
  · have h := TapeAt.put1 HB.out HT.out.base_le HW.out (by rw [List.length_append]; have := HT.out.sure_le; omega) (HT.out.bytes.append HY.out)
    rw [List.length_append] at h ⊢
    exact h
  · exact (HK.out.mono (fun k _ e => .inr e)).setCell (.inl rfl) _

set_option maxHeartbeats 1000000 in
theorem sync_any {w : World} {base g : Nat} {v : Value} {xs : List Int} {sure : Nat} (T : TapeAt w base g v xs sure) :
    Calls Try.prog 28 #[.pointer (some ⟨g, 0, none⟩)] w fun e w' => e = .returned (.int .i64 0) ∧ TapeAt w' base g v xs xs.length ∧ Keeps (fun k => k = g) w w' := by
  obtain ⟨A0, c0, rfl, _, _⟩ := T.row.reads
  have z0 : w.cell? ⟨g, 0, none⟩ = some (.bool true) := by rw [blk_cell T.blk]; rfl
  have z1 : w.cell? ⟨g, 1, none⟩ = some (.slice A0 xs.length c0) := by rw [blk_cell T.blk]; rfl
  have z2 : w.cell? ⟨g, 2, none⟩ = some (.int .i64 (sure : Int)) := by rw [blk_cell T.blk]; rfl
  have f2 : w.frozen? ⟨g, 2, none⟩ = false := blk_frozen T.blk 2
  have HT := Lib.hid T
  clear T
  go_enter Try.func28, Try.ntmps28
  go_wp2_with (first | (go_at_call 41; refine (is_yes g _ z0).mono ?_; rintro e w' ⟨rfl, rfl⟩))
  go_ret
  exact ⟨rfl, TapeAt.put2 HT.out.blk HT.out.base_le HT.out.row (Nat.le_refl _) HT.out.bytes, (Keeps.refl (fun k => k = g) _).setCell (p := ⟨g, 2, none⟩) rfl _⟩

set_option maxHeartbeats 1000000 in
theorem cut_bad {w : World} {base g : Nat} {v : Value} {xs : List Int} {sure : Nat} (T : TapeAt w base g v xs sure) (n : Int) (hn : n < 0 ∨ (xs.length : Int) < n) :
    Calls Try.prog 32 #[.pointer (some ⟨g, 0, none⟩), .int .i64 n] w fun e w' => e = .returned (.int .i64 2) ∧ w = w' := by
  obtain ⟨A0, c0, rfl, _, _⟩ := T.row.reads
  have z0 : w.cell? ⟨g, 0, none⟩ = some (.bool true) := by rw [blk_cell T.blk]; rfl
  have z1 : w.cell? ⟨g, 1, none⟩ = some (.slice A0 xs.length c0) := by rw [blk_cell T.blk]; rfl
  clear T
  rcases hn with hn | hn
  · go_enter Try.func32, Try.ntmps32
    go_wp2_with (first | (go_at_call 41; refine (is_yes g _ z0).mono ?_; rintro e w' ⟨rfl, rfl⟩))
    go_ret
    exact ⟨rfl, rfl⟩
  · have hn0 : ¬ n < 0 := by omega
    go_enter Try.func32, Try.ntmps32
    go_wp2_with (first | (go_at_call 41; refine (is_yes g _ z0).mono ?_; rintro e w' ⟨rfl, rfl⟩))
    go_ret
    exact ⟨rfl, rfl⟩

theorem TRow.cut {w : World} {base : Nat} {A : Option Addr} {c : Nat} {xs : List Int} (h : TRow w base (.slice A xs.length c) xs) (n : Nat) (hn : n ≤ xs.length) : TRow w base (.slice A n n) (xs.take n) := by
  have hl : (xs.take n).length = n := by rw [List.length_take]; omega
  rcases h with ⟨e, h0⟩ | ⟨g, cap, cur, e, hb, hh, hnc, hcs, hcm, ht⟩
  · injection e with e1 e2 e3
    subst e1
    have hx : xs.length = 0 := by rw [h0]; rfl
    have h0n : n = 0 := by omega
    subst h0n
    exact .inl ⟨rfl, by simp⟩
  · injection e with e1 _ e3
    subst e1 e3
    refine .inr ⟨g, n, cur, by rw [hl], hb, hh, by rw [hl]; exact Nat.le_refl _, by omega, by omega, ?_⟩
    rw [hl]
    have h2 : (cur.toList.take xs.length).take n = (nums .u8 xs).take n := by rw [ht]
    rw [List.take_take, Nat.min_eq_left hn] at h2
    rw [h2]
    simp [nums, List.map_take]
set_option maxHeartbeats 1000000 in
theorem cut_any {w : World} {base g : Nat} {v : Value} {xs : List Int} {sure : Nat} (T : TapeAt w base g v xs sure) (n : Nat) (hn : n ≤ xs.length) (hm : xs.length ≤ 140737488355328) :
    Calls Try.prog 32 #[.pointer (some ⟨g, 0, none⟩), .int .i64 (n : Int)] w fun e w' => e = .returned (.int .i64 0) ∧ ∃ v', TapeAt w' base g v' (xs.take n) (min sure n) ∧ Keeps (fun k => k = g) w w' ∧ v'.ownBlock = v.ownBlock := by
  obtain ⟨A0, c0, rfl, hc0, _⟩ := T.row.reads
  have z0 : w.cell? ⟨g, 0, none⟩ = some (.bool true) := by rw [blk_cell T.blk]; rfl
  have z1 : w.cell? ⟨g, 1, none⟩ = some (.slice A0 xs.length c0) := by rw [blk_cell T.blk]; rfl
  have z2 : w.cell? ⟨g, 2, none⟩ = some (.int .i64 (sure : Int)) := by rw [blk_cell T.blk]; rfl
  have f1 : w.frozen? ⟨g, 1, none⟩ = false := blk_frozen T.blk 1
  have f2 : w.frozen? ⟨g, 2, none⟩ = false := blk_frozen T.blk 2
  have HT := Lib.hid T
  have hd1 : decide ((n : Int) < 0) = false := by simp
  have hd2 : decide ((xs.length : Int) < (n : Int)) = false := by simpa using hn
  clear T
  go_enter Try.func32, Try.ntmps32
  go_wp2_with (first | (go_at_call 41; refine (is_yes g _ z0).mono ?_; rintro e w' ⟨rfl, rfl⟩))
  all_goals
    go_ret
  · rename_i h
    rw [Nat.min_eq_right (Nat.le_of_lt h)]
    have hb1 := blk_set HT.out.blk 1 (.slice A0 n n)
    refine ⟨rfl, _, TapeAt.put2 hb1 HT.out.base_le ((HT.out.row.cut n hn).far HT.out.blk 1 _) (by rw [List.length_take]; omega) (HT.out.bytes.take n), ((Keeps.refl (fun k => k = g) _).setCell (p := ⟨g, 1, none⟩) rfl _).setCell (p := ⟨g, 2, none⟩) rfl _, ?_⟩
    cases A0 <;> rfl
  · rename_i h
    rw [Nat.min_eq_left (by omega)]
    have hb1 := blk_set HT.out.blk 1 (.slice A0 n n)
    refine ⟨rfl, _, TapeAt.put2 hb1 HT.out.base_le ((HT.out.row.cut n hn).far HT.out.blk 1 _) (by rw [List.length_take]; omega) (HT.out.bytes.take n), ((Keeps.refl (fun k => k = g) _).setCell (p := ⟨g, 1, none⟩) rfl _).setCell (p := ⟨g, 2, none⟩) rfl _, ?_⟩
    cases A0 <;> rfl

set_option maxHeartbeats 1000000 in
theorem loose_any {w : World} {base g : Nat} {v : Value} {xs : List Int} {sure : Nat} (T : TapeAt w base g v xs sure) (hm : xs.length ≤ 140737488355328) :
    Calls Try.prog 34 #[.pointer (some ⟨g, 0, none⟩)] w fun e w' => e = .returned (.int .i64 ((xs.length : Int) - (sure : Int))) ∧ Below w.heap.size w w' := by
  obtain ⟨A0, c0, rfl, _, _⟩ := T.row.reads
  have z0 : w.cell? ⟨g, 0, none⟩ = some (.bool true) := by rw [blk_cell T.blk]; rfl
  have z1 : w.cell? ⟨g, 1, none⟩ = some (.slice A0 xs.length c0) := by rw [blk_cell T.blk]; rfl
  have z2 : w.cell? ⟨g, 2, none⟩ = some (.int .i64 (sure : Int)) := by rw [blk_cell T.blk]; rfl
  have hs := T.sure_le
  clear T
  go_enter Try.func34, Try.ntmps34
  go_wp2_with (first | (go_at_call 41; refine (is_yes g _ z0).mono ?_; rintro e w' ⟨rfl, rfl⟩))
  have hw : IntKind.i64.wrap ((xs.length : Int) - (sure : Int)) = (xs.length : Int) - (sure : Int) := IntWalk.i64_in _ (by omega)
  go_quiet (fail)
  go_wp2
  go_ret
  exact ⟨rfl, pw_below_drewN (Below.refl _ _) nq⟩
set_option maxHeartbeats 1000000 in
theorem clone_any (A : Option Addr) (n c : Nat) (xs : List Int) (w : World) (hR : ReadsInt w .u8 A n xs) (hm : n ≤ 140737488355328) :
    Calls Try.prog 43 #[.slice A n c] w fun e w' => ∃ v, e = .returned v ∧ w'.ownsRow w.heap.size 5 1 v n (nums .u8 xs) ∧ Below w.heap.size w w' := by
  have q22 : ∀ (w : World) (a : Option Addr) (n c n' c' : Nat), (binOp .eql 22 (.slice a n c) (.slice none n' c')).run Try.prog w = .ok (.bool a.isNone) w := fun w a n c n' c' => Lib.run_eql_slice_nil w _ _ a n c n' c' Try.underlying22
  have HR := Lib.hid hR
  have HL : Hid (xs.length = n) := hR.1
  clear hR
  cases A with
  | none =>
    have h0 : n = 0 := by
      rcases Nat.eq_zero_or_pos n with z | z
      · exact z
      · obtain ⟨ad, e, _⟩ := HR.out.2.2 z
        cases e
    have e0 : Hid (xs = []) := List.eq_nil_of_length_eq_zero (by rw [HL.out, h0])
    have H00 := Lib.hid h0
    clear h0
    go_enter Try.func43, Try.ntmps43
    go_wp2
    go_ret
    refine ⟨_, rfl, ?_, Below.refl _ _⟩
    rw [H00.out, e0.out]
    exact World.ownsRow_nil _ _ _ _
  | some a =>
    go_enter Try.func43, Try.ntmps43
    go_wp2_with (at_builtin; refine print_append_row (w0 := w) w.heap.size rfl (.tmp 5) (.tmp 6) 22 5 .u8 1 rfl Try.underlying22 info5 (by omega) _ [] xs (some a) n c rfl rfl (World.ownsRow_made w #[] 0 (Nat.le_refl _) (Nat.zero_le _) (by simp)) (HR.out.below ((Below.refl _ _).alloc (Nat.le_refl _) _)) ((Below.refl _ _).alloc (Nat.le_refl _) _) (by simp) (by simp; exact hm) ?_; rintro v2 w2 hown2 hb2 hg2 hat2; have O2 := Lib.hid hown2; have B2 := Lib.hid hb2; clear hown2 hb2 hg2 hat2)
    go_ret
    refine ⟨_, rfl, ?_, B2.out⟩
    have h := O2.out
    rw [List.nil_append, HL.out] at h
    exact h
theorem bytes_any {w : World} {base g : Nat} {v : Value} {xs : List Int} {sure : Nat} (T : TapeAt w base g v xs sure) (hm : xs.length ≤ 140737488355328) :
    Calls Try.prog 33 #[.pointer (some ⟨g, 0, none⟩)] w fun e w' => ∃ v, e = .returned v ∧ w'.ownsRow w.heap.size 5 1 v xs.length (nums .u8 xs) ∧ Below w.heap.size w w' := by
  obtain ⟨A0, c0, rfl, _, hr⟩ := T.row.reads
  have z0 : w.cell? ⟨g, 0, none⟩ = some (.bool true) := by rw [blk_cell T.blk]; rfl
  have z1 : w.cell? ⟨g, 1, none⟩ = some (.slice A0 xs.length c0) := by rw [blk_cell T.blk]; rfl
  have HR := Lib.hid hr
  clear T hr
  go_enter Try.func33, Try.ntmps33
  go_wp2_with (first | (go_at_call 41; refine (is_yes g _ z0).mono ?_; rintro e w' ⟨rfl, rfl⟩) | (go_at_call 43; refine (clone_any A0 xs.length c0 xs _ HR.out hm).mono ?_; rintro e w2 ⟨v2, rfl, hown2, hb2⟩; have O2 := Lib.hid hown2; have B2 := Lib.hid hb2; clear hown2 hb2))
  go_ret
  exact ⟨_, rfl, O2.out, B2.out⟩
end Go.Proofs.Ytoegeljjfhbpeaa.J
