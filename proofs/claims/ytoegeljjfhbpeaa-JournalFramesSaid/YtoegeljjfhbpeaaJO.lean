import Derived.Test.YtoegeljjfhbpeaaJN
import Derived.Test.YtoegeljjfhbpeaaJQ
import Derived.Test.YtoegeljjfhbpeaaShelf
set_option linter.unusedVariables false
set_option linter.unusedSimpArgs false
namespace Go.Proofs.Ytoegeljjfhbpeaa.J
open Go.RowKit Go.Proofs.YtoegeljjfhbpeaaW.PrintWords Go.Proofs.YtoegeljjfhbpeaaW.PrintLast Go.Proofs.YtoegeljjfhbpeaaW.PrintMore

/-- the lines that Scan tells -/
def told (b : List Int) : List ByteArray := (scanL b).map (fun x => strOfNums x.1)
theorem told_line (b : List Int) : (scanL b).map lineV = (told b).map Value.string := by
  unfold told
  rw [List.map_map]
  rfl
theorem told_length (b : List Int) : (told b).length = (scanL b).length := List.length_map ..
set_option maxHeartbeats 2000000 in
theorem open_any {w : World} {base g : Nat} {v : Value} {xs : List Int} {sure : Nat} (T : TapeAt w base g v xs sure) (hm : xs.length ≤ 70368744177664) (hbase : base ≤ w.heap.size) :
    Calls Try.prog 21 #[.pointer (some ⟨g, 0, none⟩)] w fun e w' => ∃ lg lv v', e = .returned (.tuple #[.pointer (some ⟨lg, 0, none⟩), .int .i64 0]) ∧ TapeAt w' base g v' (xs.take (endOf (scanL xs))) (endOf (scanL xs)) ∧ LogAt w' base lg g lv (told xs) (told xs).length ∧
      Keeps (fun k => k = g) w w' ∧ w.heap.size ≤ lg ∧ v'.ownBlock = v.ownBlock ∧ (∀ k, lv.ownBlock = some k → w.heap.size ≤ k) := by
  obtain ⟨A0, c0, rfl, hc0, hr⟩ := T.row.reads
  have z0 : w.cell? ⟨g, 0, none⟩ = some (.bool true) := by rw [blk_cell T.blk]; rfl
  have z1 : w.cell? ⟨g, 1, none⟩ = some (.slice A0 xs.length c0) := by rw [blk_cell T.blk]; rfl
  have HT := Lib.hid T
  have HR := Lib.hid hr
  obtain ⟨n, hn⟩ : ∃ n, endOf (scanL xs) = n := ⟨_, rfl⟩
  have hnl : n ≤ xs.length := by rw [← hn]; exact endOf_le xs
  have HN := Lib.hid hn
  clear T hr
  go_enter Try.func21, Try.ntmps21
  go_wp2_with (first | (go_at_call 41; refine (is_yes g _ z0).mono ?_; rintro e w' ⟨rfl, rfl⟩) | (go_at_call 15; refine (scan_any A0 xs.length c0 xs _ HT.out.bytes HR.out hc0 hm).mono ?_; rintro e w2 ⟨lv, rfl, ho, hb⟩; rw [HN.out]; rw [told_line, ← told_length] at ho; obtain ⟨A1, c1, rfl, _⟩ := own_sl ho; have B2 := Lib.hid hb; have O2 := Lib.hid ho; have T2 : Hid (TapeAt w2 base g (.slice A0 xs.length c0) xs sure) := HT.out.kept (Keeps.of_below (S := fun _ => False) hb) (fun h => h) (fun _ _ h => h); clear hb ho) | (go_at_call 32; refine (cut_any T2.out n hnl (by omega)).mono ?_; rintro e w3 ⟨rfl, v3, t3, k3, e3⟩; have T3 := Lib.hid t3; have K3 := Lib.hid k3; have E3 := Lib.hid e3; clear t3 k3 e3) | (go_at_call 28; refine (sync_any T3.out).mono ?_; rintro e w4 ⟨rfl, t4, k4⟩; have T4 := Lib.hid t4; have K4 := Lib.hid k4; clear t4 k4))
  go_ret2
  have hlen : Hid ((xs.take n).length = n) := by show _ = _; rw [List.length_take]; omega
  have hlt : Hid (g < w4.heap.size) := T4.out.lt
  have KA := Lib.hid (Keeps.alloc (K4.out) (.cells #[.pointer (some ⟨g, 0, none⟩), .slice A1 (told xs).length c1, .int .i64 ((told xs).length : Int)] 68))
  have K3A := Lib.hid (K3.out.trans KA.out)
  have hle : Hid (w.heap.size ≤ w4.heap.size) := Nat.le_trans (Nat.le_trans B2.out.size K3.out.size) K4.out.size
  refine ⟨w4.heap.size, _, v3, rfl, ?_, ⟨heap_alloc_new w4 _, Nat.le_trans hbase hle.out, ?_⟩, (Keeps.of_below B2.out).trans K3A.out, hle.out, E3.out, ?_⟩
  · rw [HN.out]
    have h := T4.out.kept ((Keeps.refl (fun _ => False) w4).alloc (.cells #[.pointer (some ⟨g, 0, none⟩), .slice A1 (told xs).length c1, .int .i64 ((told xs).length : Int)] 68)) (fun h => h) (fun _ _ h => h)
    rw [hlen.out] at h
    exact h
  · refine own_weaken (own_kept O2.out (fun k e => K3A.out.block k (own_block O2.out k e).2.1 ?_)) hbase
    rintro rfl
    have h := (own_block O2.out k e).1
    have := HT.out.lt
    omega
  · intro k e
    exact (own_block O2.out k e).1

theorem blk_ne {w : World} {a b : Nat} {c d : Array Value} {s t : TypeId} (h : w.heap[a]? = some (.cells c s (0, 0))) (k : w.heap[b]? = some (.cells d t (0, 0))) (hst : s ≠ t) : a ≠ b := by
  rintro rfl
  rw [h] at k
  injection k with k
  injection k with _ k2
  exact hst k2
/-- a tape and its log -/
structure Both (w : World) (base g lg : Nat) (v lv : Value) (xs : List Int) (sure : Nat) (ls : List ByteArray) (safe : Nat) : Prop where
  tape : TapeAt w base g v xs sure
  log : LogAt w base lg g lv ls safe
theorem Both.lg_g {w : World} {base g lg : Nat} {v lv : Value} {xs : List Int} {sure : Nat} {ls : List ByteArray} {safe : Nat} (h : Both w base g lg v lv xs sure ls safe) : lg ≠ g := blk_ne h.log.blk h.tape.blk (by decide)
theorem Both.v_lg {w : World} {base g lg : Nat} {v lv : Value} {xs : List Int} {sure : Nat} {ls : List ByteArray} {safe : Nat} (h : Both w base g lg v lv xs sure ls safe) : v.ownBlock ≠ some lg := fun e => by
  obtain ⟨_, _, cur, hc⟩ := h.tape.row.own lg e
  exact blk_ne h.log.blk hc (by decide) rfl
theorem Both.lv_g {w : World} {base g lg : Nat} {v lv : Value} {xs : List Int} {sure : Nat} {ls : List ByteArray} {safe : Nat} (h : Both w base g lg v lv xs sure ls safe) : lv.ownBlock ≠ some g := fun e => by
  obtain ⟨_, _, cur, hc⟩ := own_block h.log.row g e
  exact blk_ne h.tape.blk hc (by decide) rfl
theorem Both.lv_lg {w : World} {base g lg : Nat} {v lv : Value} {xs : List Int} {sure : Nat} {ls : List ByteArray} {safe : Nat} (h : Both w base g lg v lv xs sure ls safe) : lv.ownBlock ≠ some lg := fun e => by
  obtain ⟨_, _, cur, hc⟩ := own_block h.log.row lg e
  exact blk_ne h.log.blk hc (by decide) rfl
theorem Both.v_lv {w : World} {base g lg : Nat} {v lv : Value} {xs : List Int} {sure : Nat} {ls : List ByteArray} {safe : Nat} (h : Both w base g lg v lv xs sure ls safe) (k : Nat) (e : v.ownBlock = some k) : lv.ownBlock ≠ some k := fun e' => by
  obtain ⟨_, _, cur, hc⟩ := own_block h.log.row k e'
  obtain ⟨_, _, cur', hc'⟩ := h.tape.row.own k e
  exact blk_ne hc hc' (by decide) rfl
theorem LogAt.put2 {w : World} {base lg g : Nat} {lv : Value} {ls : List ByteArray} {s : Nat} (h : LogAt w base lg g lv ls s) (hne : lv.ownBlock ≠ some lg) (safe : Nat) : LogAt (w.setCell ⟨lg, 2, none⟩ (.int .i64 (safe : Int))) base lg g lv ls safe :=
  ⟨blk_set h.blk 2 _, h.base_le, own_kept h.row (fun k e => Below.heap_setCell _ _ _ _ (fun e2 => hne (e.trans (congrArg some e2))))⟩
set_option maxHeartbeats 1000000 in
theorem logSync_any {w : World} {base g lg : Nat} {v lv : Value} {xs : List Int} {sure : Nat} {ls : List ByteArray} {safe : Nat} (T : Both w base g lg v lv xs sure ls safe) :
    Calls Try.prog 22 #[.pointer (some ⟨lg, 0, none⟩)] w fun e w' => e = .returned (.int .i64 0) ∧ Both w' base g lg v lv xs xs.length ls ls.length ∧ Keeps (fun k => k = g ∨ k = lg) w w' := by
  obtain ⟨A1, c1, rfl, _⟩ := own_sl T.log.row
  have z0 : w.cell? ⟨lg, 0, none⟩ = some (.pointer (some ⟨g, 0, none⟩)) := by rw [blk_cell T.log.blk]; rfl
  have z1 : w.cell? ⟨lg, 1, none⟩ = some (.slice A1 ls.length c1) := by rw [blk_cell T.log.blk]; rfl
  have z2 : w.cell? ⟨lg, 2, none⟩ = some (.int .i64 (safe : Int)) := by rw [blk_cell T.log.blk]; rfl
  have f2 : w.frozen? ⟨lg, 2, none⟩ = false := blk_frozen T.log.blk 2
  have HT := Lib.hid T
  have L2 := Lib.hid (T.log.put2 T.lv_lg ls.length)
  have K2 := Lib.hid ((Keeps.refl (fun k => k = lg) w).setCell (p := ⟨lg, 2, none⟩) rfl (.int .i64 (ls.length : Int)))
  have T2 := Lib.hid (T.tape.kept K2.out T.lg_g.symm (fun k e e2 => T.v_lg (e2 ▸ e)))
  have y0 : (w.setCell ⟨lg, 2, none⟩ (.int .i64 (ls.length : Int))).cell? ⟨lg, 0, none⟩ = some (.pointer (some ⟨g, 0, none⟩)) := by rw [blk_cell L2.out.blk]; rfl
  clear T
  go_enter Try.func22, Try.ntmps22
  go_wp2_with (first | (go_at_call 42; refine (made_yes lg g _ z0).mono ?_; rintro e w' ⟨rfl, rfl⟩) | (go_at_call 28; refine (sync_any T2.out).mono ?_; rintro e w4 ⟨rfl, t4, k4⟩; have T4 := Lib.hid t4; have K4 := Lib.hid k4; clear t4 k4))
  go_ret
  refine ⟨rfl, ⟨T4.out, ?_⟩, ?_⟩
  · exact L2.out.kept K4.out HT.out.lg_g (fun k e e2 => HT.out.lv_g (e2 ▸ e))
  · exact (K2.out.mono (fun _ _ h => .inr h)).trans (K4.out.mono (fun _ _ h => .inl h))
theorem safe_any {w : World} {base g lg : Nat} {lv : Value} {ls : List ByteArray} {safe : Nat} (L : LogAt w base lg g lv ls safe) :
    Calls Try.prog 26 #[.pointer (some ⟨lg, 0, none⟩)] w fun e w' => e = .returned (.int .i64 (safe : Int)) ∧ w' = w := by
  have z0 : w.cell? ⟨lg, 0, none⟩ = some (.pointer (some ⟨g, 0, none⟩)) := by rw [blk_cell L.blk]; rfl
  have z2 : w.cell? ⟨lg, 2, none⟩ = some (.int .i64 (safe : Int)) := by rw [blk_cell L.blk]; rfl
  go_enter Try.func26, Try.ntmps26
  go_wp2_with (first | (go_at_call 42; refine (made_yes lg g _ z0).mono ?_; rintro e w' ⟨rfl, rfl⟩))
  go_ret
  exact ⟨rfl, rfl⟩
/-- a row of lines is cloned -/
theorem cloneS_any {w : World} {base : Nat} {lv : Value} {ls : List ByteArray} (h : w.ownsRow base 9 1 lv ls.length (ls.map Value.string)) (hm : ls.length * 16 ≤ 140737488355328) :
    Calls Try.prog 44 #[lv] w fun e w' => ∃ v, e = .returned v ∧ w'.ownsRow w.heap.size 9 1 v ls.length (ls.map Value.string) ∧ Below w.heap.size w w' := by
  rcases h.2 with ⟨rfl, h0⟩ | ⟨g, cap, cur, rfl, hb, hh, hnc, hcm, hcs, ht⟩
  · have e0 : ls = [] := List.eq_nil_of_length_eq_zero h0
    subst e0
    exact (Try.slices_Clone_string_nil 0 0 w).mono fun e w' ⟨he, hw⟩ => ⟨_, he, World.ownsRow_nil _ _ _ _, hw ▸ Below.refl _ _⟩
  · have hc := h.cells (g := g) rfl
    refine (Try.slices_Clone_string g 0 ls.length cap ls w (Nat.le_refl _) hm (fun j hj => ?_)).mono fun e w' ⟨v, he, ho, _, hb⟩ => ⟨v, he, ?_, hb⟩
    · have h1 := hc j (.string (ls.getD j ByteArray.empty)) (by simp [List.getD, hj])
      rw [add_plain] at h1
      simpa using h1
    · rw [List.take_length] at ho
      exact ho
theorem lines_any {w : World} {base g lg : Nat} {lv : Value} {ls : List ByteArray} {safe : Nat} (L : LogAt w base lg g lv ls safe) (hm : ls.length * 16 ≤ 140737488355328) :
    Calls Try.prog 25 #[.pointer (some ⟨lg, 0, none⟩)] w fun e w' => ∃ v, e = .returned v ∧ w'.ownsRow w.heap.size 9 1 v ls.length (ls.map Value.string) ∧ Below w.heap.size w w' := by
  have HL := Lib.hid L
  obtain ⟨A1, c1, rfl, _⟩ := own_sl L.row
  have z0 : w.cell? ⟨lg, 0, none⟩ = some (.pointer (some ⟨g, 0, none⟩)) := by rw [blk_cell L.blk]; rfl
  have z1 : w.cell? ⟨lg, 1, none⟩ = some (.slice A1 ls.length c1) := by rw [blk_cell L.blk]; rfl
  clear L
  go_enter Try.func25, Try.ntmps25
  go_wp2_with (first | (go_at_call 42; refine (made_yes lg g _ z0).mono ?_; rintro e w' ⟨rfl, rfl⟩) | (go_at_call 44; refine (cloneS_any HL.out.row hm).mono ?_; rintro e w2 ⟨v2, rfl, hown2, hb2⟩; have O2 := Lib.hid hown2; have B2 := Lib.hid hb2; clear hown2 hb2))
  go_ret
  exact ⟨_, rfl, O2.out, B2.out⟩
end Go.Proofs.Ytoegeljjfhbpeaa.J
