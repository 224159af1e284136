/- Contracts of logs, of no tape and no log, and the document's examples. No condition stands open. -/
import Derived.Test.YtoegeljjfhbpeaaJ3
import Derived.Test.YtoegeljjfhbpeaaShelf
import Derived.Test.YtoegeljjfhbpeaaPGx
import Derived.Lib.SlBytesConst
set_option linter.unusedVariables false
set_option linter.unusedSimpArgs false
namespace Go.Proofs.Ytoegeljjfhbpeaa.J
open Go.RowKit Go.Proofs.YtoegeljjfhbpeaaW.PrintWords Go.Proofs.YtoegeljjfhbpeaaW.PrintLast Go.Proofs.YtoegeljjfhbpeaaW.PrintMore

/-- the lines that Scan tells -/
def told (b : List Int) : List ByteArray := (scanL b).map (fun x => strOfNums x.1)
theorem told_line (b : List Int) : (scanL b).map lineV = (told b).map Value.string := by
  unfold told
  rw [List.map_map]
  rfl
theorem told_length (b : List Int) : (told b).length = (scanL b).length := List.length_map ..
set_option maxHeartbeats 2000000 in
theorem open_any {w : World} {base g : Nat} {v : Value} {xs : List Int} {sure : Nat} (T : TapeAt w base g v xs sure) (hm : xs.length ≤ 70368744177664) (hbase : base ≤ w.heap.size) :
    Calls Try.prog 21 #[.pointer (some ⟨g, 0, none⟩)] w fun e w' => ∃ lg lv v', e = .returned (.tuple #[.pointer (some ⟨lg, 0, none⟩), .int .i64 0]) ∧ TapeAt w' base g v' (xs.take (endOf (scanL xs))) (endOf (scanL xs)) ∧ LogAt w' base lg g lv (told xs) (told xs).length ∧
      Keeps (fun k => k = g) w w' ∧ w.heap.size ≤ lg ∧ v'.ownBlock = v.ownBlock ∧ (∀ k, lv.ownBlock = some k → w.heap.size ≤ k) := by
  obtain ⟨A0, c0, rfl, hc0, hr⟩ := T.row.reads
  have z0 : w.cell? ⟨g, 0, none⟩ = some (.bool true) := by rw [blk_cell T.blk]; rfl
  have z1 : w.cell? ⟨g, 1, none⟩ = some (.slice A0 xs.length c0) := by rw [blk_cell T.blk]; rfl
  have HT := Lib.hid T
  have HR := Lib.hid hr
  obtain ⟨n, hn⟩ : ∃ n, endOf (scanL xs) = n := ⟨_, rfl⟩
  have hnl : n ≤ xs.length := by rw [← hn]; exact endOf_le xs
  have HN := Lib.hid hn
  clear T hr
  go_enter Try.func21, Try.ntmps21
  go_wp2_with (first | (go_at_call 41; refine (is_yes g _ z0).mono ?_; rintro e w' ⟨rfl, rfl⟩) | (go_at_call 15; refine (scan_any A0 xs.length c0 xs _ HT.out.bytes HR.out hc0 hm).mono ?_; rintro e w2 ⟨lv, rfl, ho, hb⟩; rw [HN.out]; rw [told_line, ← told_length] at ho; obtain ⟨A1, c1, rfl, _⟩ := own_sl ho; have B2 := Lib.hid hb; have O2 := Lib.hid ho; have T2 : Hid (TapeAt w2 base g (.slice A0 xs.length c0) xs sure) := HT.out.kept (Keeps.of_below (S := fun _ => False) hb) (fun h => h) (fun _ _ h => h); clear hb ho) | (go_at_call 32; refine (cut_any T2.out n hnl (by omega)).mono ?_; rintro e w3 ⟨rfl, v3, t3, k3, e3⟩; have T3 := Lib.hid t3; have K3 := Lib.hid k3; have E3 := Lib.hid e3; clear t3 k3 e3) | (go_at_call 28; refine (sync_any T3.out).mono ?_; rintro e w4 ⟨rfl, t4, k4⟩; have T4 := Lib.hid t4; have K4 := Lib.hid k4; clear t4 k4))
  go_ret2
  have hlen : Hid ((xs.take n).length = n) := by show _ = _; rw [List.length_take]; omega
  have hlt : Hid (g < w4.heap.size) := T4.out.lt
  have KA := Lib.hid (Keeps.alloc (K4.out) (.cells #[.pointer (some ⟨g, 0, none⟩), .slice A1 (told xs).length c1, .int .i64 ((told xs).length : Int)] 68))
  have K3A := Lib.hid (K3.out.trans KA.out)
  have hle : Hid (w.heap.size ≤ w4.heap.size) := Nat.le_trans (Nat.le_trans B2.out.size K3.out.size) K4.out.size
  refine ⟨w4.heap.size, _, v3, rfl, ?_, ⟨heap_alloc_new w4 _, Nat.le_trans hbase hle.out, ?_⟩, (Keeps.of_below B2.out).trans K3A.out, hle.out, E3.out, ?_⟩
  · rw [HN.out]
    have h := T4.out.kept ((Keeps.refl (fun _ => False) w4).alloc (.cells #[.pointer (some ⟨g, 0, none⟩), .slice A1 (told xs).length c1, .int .i64 ((told xs).length : Int)] 68)) (fun h => h) (fun _ _ h => h)
    rw [hlen.out] at h
    exact h
  · refine own_weaken (own_kept O2.out (fun k e => K3A.out.block k (own_block O2.out k e).2.1 ?_)) hbase
    rintro rfl
    have h := (own_block O2.out k e).1
    have := HT.out.lt
    omega
  · intro k e
    exact (own_block O2.out k e).1

theorem blk_ne {w : World} {a b : Nat} {c d : Array Value} {s t : TypeId} (h : w.heap[a]? = some (.cells c s (0, 0))) (k : w.heap[b]? = some (.cells d t (0, 0))) (hst : s ≠ t) : a ≠ b := by
  rintro rfl
  rw [h] at k
  injection k with k
  injection k with _ k2
  exact hst k2
/-- a tape and its log -/
structure Both (w : World) (base g lg : Nat) (v lv : Value) (xs : List Int) (sure : Nat) (ls : List ByteArray) (safe : Nat) : Prop where
  tape : TapeAt w base g v xs sure
  log : LogAt w base lg g lv ls safe
theorem Both.lg_g {w : World} {base g lg : Nat} {v lv : Value} {xs : List Int} {sure : Nat} {ls : List ByteArray} {safe : Nat} (h : Both w base g lg v lv xs sure ls safe) : lg ≠ g := blk_ne h.log.blk h.tape.blk (by decide)
theorem Both.v_lg {w : World} {base g lg : Nat} {v lv : Value} {xs : List Int} {sure : Nat} {ls : List ByteArray} {safe : Nat} (h : Both w base g lg v lv xs sure ls safe) : v.ownBlock ≠ some lg := fun e => by
  obtain ⟨_, _, cur, hc⟩ := h.tape.row.own lg e
  exact blk_ne h.log.blk hc (by decide) rfl
theorem Both.lv_g {w : World} {base g lg : Nat} {v lv : Value} {xs : List Int} {sure : Nat} {ls : List ByteArray} {safe : Nat} (h : Both w base g lg v lv xs sure ls safe) : lv.ownBlock ≠ some g := fun e => by
  obtain ⟨_, _, cur, hc⟩ := own_block h.log.row g e
  exact blk_ne h.tape.blk hc (by decide) rfl
theorem Both.lv_lg {w : World} {base g lg : Nat} {v lv : Value} {xs : List Int} {sure : Nat} {ls : List ByteArray} {safe : Nat} (h : Both w base g lg v lv xs sure ls safe) : lv.ownBlock ≠ some lg := fun e => by
  obtain ⟨_, _, cur, hc⟩ := own_block h.log.row lg e
  exact blk_ne h.log.blk hc (by decide) rfl
theorem Both.v_lv {w : World} {base g lg : Nat} {v lv : Value} {xs : List Int} {sure : Nat} {ls : List ByteArray} {safe : Nat} (h : Both w base g lg v lv xs sure ls safe) (k : Nat) (e : v.ownBlock = some k) : lv.ownBlock ≠ some k := fun e' => by
  obtain ⟨_, _, cur, hc⟩ := own_block h.log.row k e'
  obtain ⟨_, _, cur', hc'⟩ := h.tape.row.own k e
  exact blk_ne hc hc' (by decide) rfl
theorem LogAt.put2 {w : World} {base lg g : Nat} {lv : Value} {ls : List ByteArray} {s : Nat} (h : LogAt w base lg g lv ls s) (hne : lv.ownBlock ≠ some lg) (safe : Nat) : LogAt (w.setCell ⟨lg, 2, none⟩ (.int .i64 (safe : Int))) base lg g lv ls safe :=
  ⟨blk_set h.blk 2 _, h.base_le, own_kept h.row (fun k e => Below.heap_setCell _ _ _ _ (fun e2 => hne (e.trans (congrArg some e2))))⟩
set_option maxHeartbeats 1000000 in
theorem logSync_any {w : World} {base g lg : Nat} {v lv : Value} {xs : List Int} {sure : Nat} {ls : List ByteArray} {safe : Nat} (T : Both w base g lg v lv xs sure ls safe) :
    Calls Try.prog 22 #[.pointer (some ⟨lg, 0, none⟩)] w fun e w' => e = .returned (.int .i64 0) ∧ Both w' base g lg v lv xs xs.length ls ls.length ∧ Keeps (fun k => k = g ∨ k = lg) w w' := by
  obtain ⟨A1, c1, rfl, _⟩ := own_sl T.log.row
  have z0 : w.cell? ⟨lg, 0, none⟩ = some (.pointer (some ⟨g, 0, none⟩)) := by rw [blk_cell T.log.blk]; rfl
  have z1 : w.cell? ⟨lg, 1, none⟩ = some (.slice A1 ls.length c1) := by rw [blk_cell T.log.blk]; rfl
  have z2 : w.cell? ⟨lg, 2, none⟩ = some (.int .i64 (safe : Int)) := by rw [blk_cell T.log.blk]; rfl
  have f2 : w.frozen? ⟨lg, 2, none⟩ = false := blk_frozen T.log.blk 2
  have HT := Lib.hid T
  have L2 := Lib.hid (T.log.put2 T.lv_lg ls.length)
  have K2 := Lib.hid ((Keeps.refl (fun k => k = lg) w).setCell (p := ⟨lg, 2, none⟩) rfl (.int .i64 (ls.length : Int)))
  have T2 := Lib.hid (T.tape.kept K2.out T.lg_g.symm (fun k e e2 => T.v_lg (e2 ▸ e)))
  have y0 : (w.setCell ⟨lg, 2, none⟩ (.int .i64 (ls.length : Int))).cell? ⟨lg, 0, none⟩ = some (.pointer (some ⟨g, 0, none⟩)) := by rw [blk_cell L2.out.blk]; rfl
  clear T
  go_enter Try.func22, Try.ntmps22
  go_wp2_with (first | (go_at_call 42; refine (made_yes lg g _ z0).mono ?_; rintro e w' ⟨rfl, rfl⟩) | (go_at_call 28; refine (sync_any T2.out).mono ?_; rintro e w4 ⟨rfl, t4, k4⟩; have T4 := Lib.hid t4; have K4 := Lib.hid k4; clear t4 k4))
  go_ret
  refine ⟨rfl, ⟨T4.out, ?_⟩, ?_⟩
  · exact L2.out.kept K4.out HT.out.lg_g (fun k e e2 => HT.out.lv_g (e2 ▸ e))
  · exact (K2.out.mono (fun _ _ h => .inr h)).trans (K4.out.mono (fun _ _ h => .inl h))
theorem safe_any {w : World} {base g lg : Nat} {lv : Value} {ls : List ByteArray} {safe : Nat} (L : LogAt w base lg g lv ls safe) :
    Calls Try.prog 26 #[.pointer (some ⟨lg, 0, none⟩)] w fun e w' => e = .returned (.int .i64 (safe : Int)) ∧ w' = w := by
  have z0 : w.cell? ⟨lg, 0, none⟩ = some (.pointer (some ⟨g, 0, none⟩)) := by rw [blk_cell L.blk]; rfl
  have z2 : w.cell? ⟨lg, 2, none⟩ = some (.int .i64 (safe : Int)) := by rw [blk_cell L.blk]; rfl
  go_enter Try.func26, Try.ntmps26
  go_wp2_with (first | (go_at_call 42; refine (made_yes lg g _ z0).mono ?_; rintro e w' ⟨rfl, rfl⟩))
  go_ret
  exact ⟨rfl, rfl⟩
/-- a row of lines is cloned -/
theorem cloneS_any {w : World} {base : Nat} {lv : Value} {ls : List ByteArray} (h : w.ownsRow base 9 1 lv ls.length (ls.map Value.string)) (hm : ls.length * 16 ≤ 140737488355328) :
    Calls Try.prog 44 #[lv] w fun e w' => ∃ v, e = .returned v ∧ w'.ownsRow w.heap.size 9 1 v ls.length (ls.map Value.string) ∧ Below w.heap.size w w' := by
  rcases h.2 with ⟨rfl, h0⟩ | ⟨g, cap, cur, rfl, hb, hh, hnc, hcm, hcs, ht⟩
  · have e0 : ls = [] := List.eq_nil_of_length_eq_zero h0
    subst e0
    exact (Try.slices_Clone_string_nil 0 0 w).mono fun e w' ⟨he, hw⟩ => ⟨_, he, World.ownsRow_nil _ _ _ _, hw ▸ Below.refl _ _⟩
  · have hc := h.cells (g := g) rfl
    refine (Try.slices_Clone_string g 0 ls.length cap ls w (Nat.le_refl _) hm (fun j hj => ?_)).mono fun e w' ⟨v, he, ho, _, hb⟩ => ⟨v, he, ?_, hb⟩
    · have h1 := hc j (.string (ls.getD j ByteArray.empty)) (by simp [List.getD, hj])
      rw [add_plain] at h1
      simpa using h1
    · rw [List.take_length] at ho
      exact ho
theorem lines_any {w : World} {base g lg : Nat} {lv : Value} {ls : List ByteArray} {safe : Nat} (L : LogAt w base lg g lv ls safe) (hm : ls.length * 16 ≤ 140737488355328) :
    Calls Try.prog 25 #[.pointer (some ⟨lg, 0, none⟩)] w fun e w' => ∃ v, e = .returned v ∧ w'.ownsRow w.heap.size 9 1 v ls.length (ls.map Value.string) ∧ Below w.heap.size w w' := by
  have HL := Lib.hid L
  obtain ⟨A1, c1, rfl, _⟩ := own_sl L.row
  have z0 : w.cell? ⟨lg, 0, none⟩ = some (.pointer (some ⟨g, 0, none⟩)) := by rw [blk_cell L.blk]; rfl
  have z1 : w.cell? ⟨lg, 1, none⟩ = some (.slice A1 ls.length c1) := by rw [blk_cell L.blk]; rfl
  clear L
  go_enter Try.func25, Try.ntmps25
  go_wp2_with (first | (go_at_call 42; refine (made_yes lg g _ z0).mono ?_; rintro e w' ⟨rfl, rfl⟩) | (go_at_call 44; refine (cloneS_any HL.out.row hm).mono ?_; rintro e w2 ⟨v2, rfl, hown2, hb2⟩; have O2 := Lib.hid hown2; have B2 := Lib.hid hb2; clear hown2 hb2))
  go_ret
  exact ⟨_, rfl, O2.out, B2.out⟩
end Go.Proofs.Ytoegeljjfhbpeaa.J
namespace Go.Proofs.Ytoegeljjfhbpeaa.J
open Go.RowKit Go.Proofs.YtoegeljjfhbpeaaW.PrintWords Go.Proofs.YtoegeljjfhbpeaaW.PrintLast Go.Proofs.YtoegeljjfhbpeaaW.PrintMore

set_option maxHeartbeats 2000000 in
theorem add_any {w : World} {base g lg : Nat} {v lv : Value} {xs : List Int} {sure : Nat} {ls : List ByteArray} {safe : Nat} (T : Both w base g lg v lv xs sure ls safe) (s : ByteArray) (hbase : base ≤ w.heap.size) (hs : s.size ≤ 65536) (hl : ls.length ≤ 2147483647) (hx : xs.length ≤ 70368744177664) :
    Calls Try.prog 23 #[.pointer (some ⟨lg, 0, none⟩), .string s] w fun e w' => e = .returned (.tuple #[.int .i64 (ls.length : Int), .int .i64 0]) ∧ ∃ v' lv', Both w' base g lg v' lv' (xs ++ frameL (ls.length : Int) (bytesOf s)) sure (ls ++ [s]) safe ∧
      Keeps (fun k => k = g ∨ k = lg ∨ v.ownBlock = some k ∨ lv.ownBlock = some k) w w' ∧ (∀ k, v'.ownBlock = some k → v.ownBlock = some k ∨ w.heap.size ≤ k) ∧ (∀ k, lv'.ownBlock = some k → lv.ownBlock = some k ∨ w.heap.size ≤ k) := by
  obtain ⟨A1, c1, rfl, _⟩ := own_sl T.log.row
  have z0 : w.cell? ⟨lg, 0, none⟩ = some (.pointer (some ⟨g, 0, none⟩)) := by rw [blk_cell T.log.blk]; rfl
  have z1 : w.cell? ⟨lg, 1, none⟩ = some (.slice A1 ls.length c1) := by rw [blk_cell T.log.blk]; rfl
  have HT := Lib.hid T
  have FB : Hid (Bytes (frameL (ls.length : Int) (bytesOf s))) := frameL_bytes _ (bytesOf_bytes s)
  have FL : Hid ((frameL (ls.length : Int) (bytesOf s)).length = 8 + s.size) := by show _ = _; rw [frameL_len, bytesOf_length]
  have HX := Lib.hid hx
  have HS := Lib.hid hs
  clear T hx hs
  go_enter Try.func23, Try.ntmps23
  go_wp2_with (first | (go_at_call 42; refine (made_yes lg g _ z0).mono ?_; rintro e w' ⟨rfl, rfl⟩) | (go_at_call 10; refine (frame_any (ls.length : Int) s _ (by omega) (by omega) HS.out).mono ?_; rintro e w2 ⟨fv, rfl, ho, hb⟩; obtain ⟨Af, cf, rfl, hcf, hrf⟩ := own_rd ho; have RF := Lib.hid hrf; have B2 := Lib.hid hb; have T2 : Hid (TapeAt w2 base g v xs sure) := HT.out.tape.kept (Keeps.of_below (S := fun _ => False) hb) (fun h => h) (fun _ _ h => h); have L2 : Hid (LogAt w2 base lg g (.slice A1 ls.length c1) ls safe) := HT.out.log.kept (Keeps.of_below (S := fun _ => False) hb) (fun h => h) (fun _ _ h => h); have y0 : w2.cell? ⟨lg, 0, none⟩ = some (.pointer (some ⟨g, 0, none⟩)) := (blk_cell L2.out.blk 0).trans rfl; clear hb ho hrf) | (go_at_call 27; refine (append_any T2.out Af _ cf (frameL (ls.length : Int) (bytesOf s)) RF.out FB.out (by have := HX.out; have := FL.out; have := HS.out; omega) (Nat.le_trans hbase B2.out.size)).mono ?_; rintro e w3 ⟨rfl, v3, t3, k3, e3⟩; have T3 := Lib.hid t3; have K3 := Lib.hid k3; have E3 := Lib.hid e3; have L3 : Hid (LogAt w3 base lg g (.slice A1 ls.length c1) ls safe) := L2.out.kept k3 (fun h => h.elim HT.out.lg_g HT.out.v_lg) (fun k e h => h.elim (fun h => HT.out.lv_g (h ▸ e)) (fun h => HT.out.v_lv k h e)); have y1 : w3.cell? ⟨lg, 1, none⟩ = some (.slice A1 ls.length c1) := (blk_cell L3.out.blk 1).trans rfl; clear t3 k3 e3) | (at_builtin; refine print_append (w0 := w3) base rfl (.tmp 35) (.tmp 37) 32 9 (.string ByteArray.empty) 16 rfl Try.underlying32 info9 rfl (by omega) _ (ls.map Value.string) (.string s) rfl rfl rfl (by rw [List.length_map]; exact L3.out.row) (Below.refl _ _) (Nat.le_trans (Nat.le_trans hbase B2.out.size) K3.out.size) (by rw [List.length_map]; omega) ?_; rintro v5 w5 hown5 _ hg5 hat5; obtain ⟨A5, c5, rfl, _⟩ := own_sl hown5; have O5 := Lib.hid hown5; have K5 : Hid (Keeps (fun k => (Value.slice A1 ls.length c1).ownBlock = some k) w3 w5) := Keeps.of_grown hg5; have A5h : Hid ((Value.slice A5 (ls.map Value.string ++ [Value.string s]).length c5).ownBlock = (Value.slice A1 ls.length c1).ownBlock ∨ ∃ b, (Value.slice A5 (ls.map Value.string ++ [Value.string s]).length c5).ownBlock = some b ∧ w3.heap.size ≤ b) := hat5; have b5 : Hid (w5.heap[lg]? = some (.cells #[.pointer (some ⟨g, 0, none⟩), .slice A1 ls.length c1, .int .i64 (safe : Int)] 68 (0, 0))) := (K5.out.block lg L3.out.lt HT.out.lv_lg).trans L3.out.blk; have y5 : w5.cell? ⟨lg, 1, none⟩ = some (.slice A1 ls.length c1) := (blk_cell b5.out 1).trans rfl; have f5 : w5.frozen? ⟨lg, 1, none⟩ = false := blk_frozen b5.out 1; clear hown5 hg5 hat5))
  go_ret2
  have B5 : Hid (LogAt (w5.setCell ⟨lg, 1, none⟩ (.slice A5 (ls.length + 1) c5)) base lg g (.slice A5 (ls.length + 1) c5) (ls ++ [s]) safe) := by
    have e : (ls.map Value.string ++ [Value.string s]).length = ls.length + 1 := by simp
    have h := O5.out
    rw [e] at h
    have hne : (Value.slice A5 (ls.length + 1) c5).ownBlock ≠ some lg := fun e => by
      obtain ⟨_, _, cur, hc⟩ := own_block h lg e
      exact blk_ne b5.out hc (by decide) rfl
    refine ⟨blk_set b5.out 1 _, HT.out.log.base_le, ?_⟩
    rw [List.length_append, List.map_append]
    exact own_kept h (fun k e => Below.heap_setCell _ _ _ _ (fun e2 => hne (e.trans (congrArg some e2))))
  have hsz := Lib.hid (Nat.le_trans B2.out.size K3.out.size)
  have hv3 : Hid (∀ k, v3.ownBlock = some k → v.ownBlock = some k ∨ w.heap.size ≤ k) := fun k e => by
    rcases E3.out with h | h
    · exact .inl (h ▸ e)
    · rw [h] at e
      injection e with e
      exact .inr (e ▸ B2.out.size)
  refine ⟨rfl, v3, _, ⟨?_, B5.out⟩, ?_, hv3.out, ?_⟩
  · have K5' := (K5.out.mono (S' := fun k => k = lg ∨ (Value.slice A1 ls.length c1).ownBlock = some k) (fun _ _ h => .inr h)).setCell (p := ⟨lg, 1, none⟩) (.inl rfl) (.slice A5 (ls.length + 1) c5)
    refine T3.out.kept K5' (fun h => h.elim (fun h => HT.out.lg_g h.symm) HT.out.lv_g) (fun k e h => ?_)
    rcases h with rfl | h
    · obtain ⟨_, _, cur, hc⟩ := T3.out.row.own _ e
      exact blk_ne L3.out.blk hc (by decide) rfl
    · obtain ⟨_, _, cur, hc⟩ := T3.out.row.own _ e
      obtain ⟨_, _, cur', hc'⟩ := own_block L3.out.row _ h
      exact blk_ne hc hc' (by decide) rfl
  · refine (((Keeps.of_below B2.out).trans (K3.out.mono ?_)).trans (K5.out.mono ?_)).setCell (.inr (.inl rfl)) _
    · rintro k _ (h | h)
      · exact .inl h
      · exact .inr (.inr (.inl h))
    · exact fun k _ h => .inr (.inr (.inr h))
  · intro k e
    have e' : (Value.slice A5 (ls.map Value.string ++ [Value.string s]).length c5).ownBlock = some k := by rw [show (ls.map Value.string ++ [Value.string s]).length = ls.length + 1 by simp]; exact e
    rcases A5h.out with h | ⟨b, h, hb⟩
    · exact .inl (h ▸ e')
    · rw [h] at e'
      injection e' with e'
      exact .inr (e' ▸ Nat.le_trans hsz.out hb)
end Go.Proofs.Ytoegeljjfhbpeaa.J
namespace Go.Proofs.Ytoegeljjfhbpeaa.J
open Go.RowKit Go.Proofs.YtoegeljjfhbpeaaW.PrintWords Go.Proofs.YtoegeljjfhbpeaaW.PrintLast Go.Proofs.YtoegeljjfhbpeaaW.PrintMore

/-- no tape, or one that nothing made -/
def NoTape (w : World) (p : Option Addr) : Prop := p = none ∨ ∃ g, p = some ⟨g, 0, none⟩ ∧ w.cell? ⟨g, 0, none⟩ = some (.bool false)
def NoLog (w : World) (p : Option Addr) : Prop := p = none ∨ ∃ g, p = some ⟨g, 0, none⟩ ∧ w.cell? ⟨g, 0, none⟩ = some (.pointer none)
theorem NoTape.below {w w' : World} {p : Option Addr} (h : NoTape w p) (hb : Below w.heap.size w w') : NoTape w' p := by
  rcases h with h | ⟨g, h, hc⟩
  · exact .inl h
  · exact .inr ⟨g, h, (hb.cell (p := ⟨g, 0, none⟩) (World.block_lt_of_cell? w _ hc)).trans hc⟩
theorem NoLog.below {w w' : World} {p : Option Addr} (h : NoLog w p) (hb : Below w.heap.size w w') : NoLog w' p := by
  rcases h with h | ⟨g, h, hc⟩
  · exact .inl h
  · exact .inr ⟨g, h, (hb.cell (p := ⟨g, 0, none⟩) (World.block_lt_of_cell? w _ hc)).trans hc⟩
theorem is_not {w : World} {p : Option Addr} (h : NoTape w p) : Calls Try.prog 41 #[.pointer p] w fun e w' => e = .returned (.bool false) ∧ w = w' := by
  rcases h with rfl | ⟨g, rfl, hc⟩
  · exact is_nil w
  · exact is_no g w hc
theorem made_not {w : World} {p : Option Addr} (h : NoLog w p) : Calls Try.prog 42 #[.pointer p] w fun e w' => e = .returned (.bool false) ∧ w = w' := by
  rcases h with rfl | ⟨g, rfl, hc⟩
  · exact made_nil w
  · exact made_no g w hc
theorem open_not {w : World} {p : Option Addr} (h : NoTape w p) : Calls Try.prog 21 #[.pointer p] w fun e w' => e = .returned (.tuple #[.pointer none, .int .i64 1]) ∧ w = w' := by
  go_enter Try.func21, Try.ntmps21
  go_wp2_with (first | (go_at_call 41; refine (is_not h).mono ?_; rintro e w' ⟨rfl, rfl⟩))
  go_ret2
  exact ⟨rfl, rfl⟩
theorem bytes_not {w : World} {p : Option Addr} (h : NoTape w p) : Calls Try.prog 33 #[.pointer p] w fun e w' => e = .returned (.slice none 0 0) ∧ w = w' := by
  go_enter Try.func33, Try.ntmps33
  go_wp2_with (first | (go_at_call 41; refine (is_not h).mono ?_; rintro e w' ⟨rfl, rfl⟩))
  go_ret
  exact ⟨rfl, rfl⟩
theorem append_not {w : World} {p : Option Addr} (h : NoTape w p) (A : Option Addr) (n c : Nat) : Calls Try.prog 27 #[.pointer p, .slice A n c] w fun e w' => e = .returned (.int .i64 1) ∧ w = w' := by
  go_enter Try.func27, Try.ntmps27
  go_wp2_with (first | (go_at_call 41; refine (is_not h).mono ?_; rintro e w' ⟨rfl, rfl⟩))
  go_ret
  exact ⟨rfl, rfl⟩
theorem sync_not {w : World} {p : Option Addr} (h : NoTape w p) : Calls Try.prog 28 #[.pointer p] w fun e w' => e = .returned (.int .i64 1) ∧ w = w' := by
  go_enter Try.func28, Try.ntmps28
  go_wp2_with (first | (go_at_call 41; refine (is_not h).mono ?_; rintro e w' ⟨rfl, rfl⟩))
  go_ret
  exact ⟨rfl, rfl⟩
theorem cut_not {w : World} {p : Option Addr} (h : NoTape w p) (n : Int) : Calls Try.prog 32 #[.pointer p, .int .i64 n] w fun e w' => e = .returned (.int .i64 1) ∧ w = w' := by
  go_enter Try.func32, Try.ntmps32
  go_wp2_with (first | (go_at_call 41; refine (is_not h).mono ?_; rintro e w' ⟨rfl, rfl⟩))
  go_ret
  exact ⟨rfl, rfl⟩
theorem crash_not {w : World} {p : Option Addr} (h : NoTape w p) (k a : Int) (b : Int) : Calls Try.prog 24 #[.pointer p, .int .i64 k, .int .i64 a, .int .u8 b] w fun e w' => e = .returned (.tuple #[]) ∧ w = w' := by
  go_enter Try.func24, Try.ntmps24
  go_wp2_with (first | (go_at_call 41; refine (is_not h).mono ?_; rintro e w' ⟨rfl, rfl⟩))
  refine bodyPost_ret (results_none rfl _ _ _) rfl ?_
  exact ⟨rfl, rfl⟩
theorem loose_not {w : World} {p : Option Addr} (h : NoTape w p) : Calls Try.prog 34 #[.pointer p] w fun e w' => e = .returned (.int .i64 0) ∧ w = w' := by
  go_enter Try.func34, Try.ntmps34
  go_wp2_with (first | (go_at_call 41; refine (is_not h).mono ?_; rintro e w' ⟨rfl, rfl⟩))
  go_ret
  exact ⟨rfl, rfl⟩
theorem add_not {w : World} {p : Option Addr} (h : NoLog w p) (s : ByteArray) : Calls Try.prog 23 #[.pointer p, .string s] w fun e w' => e = .returned (.tuple #[.int .i64 0, .int .i64 1]) ∧ w = w' := by
  go_enter Try.func23, Try.ntmps23
  go_wp2_with (first | (go_at_call 42; refine (made_not h).mono ?_; rintro e w' ⟨rfl, rfl⟩))
  go_ret2
  exact ⟨rfl, rfl⟩
theorem logSync_not {w : World} {p : Option Addr} (h : NoLog w p) : Calls Try.prog 22 #[.pointer p] w fun e w' => e = .returned (.int .i64 1) ∧ w = w' := by
  go_enter Try.func22, Try.ntmps22
  go_wp2_with (first | (go_at_call 42; refine (made_not h).mono ?_; rintro e w' ⟨rfl, rfl⟩))
  go_ret
  exact ⟨rfl, rfl⟩
theorem lines_not {w : World} {p : Option Addr} (h : NoLog w p) : Calls Try.prog 25 #[.pointer p] w fun e w' => e = .returned (.slice none 0 0) ∧ w = w' := by
  go_enter Try.func25, Try.ntmps25
  go_wp2_with (first | (go_at_call 42; refine (made_not h).mono ?_; rintro e w' ⟨rfl, rfl⟩))
  go_ret
  exact ⟨rfl, rfl⟩
theorem safe_not {w : World} {p : Option Addr} (h : NoLog w p) : Calls Try.prog 26 #[.pointer p] w fun e w' => e = .returned (.int .i64 0) ∧ w = w' := by
  go_enter Try.func26, Try.ntmps26
  go_wp2_with (first | (go_at_call 42; refine (made_not h).mono ?_; rintro e w' ⟨rfl, rfl⟩))
  go_ret
  exact ⟨rfl, rfl⟩
end Go.Proofs.Ytoegeljjfhbpeaa.J
namespace Go.Proofs.Ytoegeljjfhbpeaa.J
open Go.RowKit Go.Proofs.YtoegeljjfhbpeaaW.PrintWords Go.Proofs.YtoegeljjfhbpeaaW.PrintLast Go.Proofs.YtoegeljjfhbpeaaW.PrintMore Go.Proofs.Ytoegeljjfhbpeaa.PG

theorem same_l (a b : List ByteArray) (hl : a.length = b.length) (hm : a.length ≤ 140737488355328) : ∀ (d k i : Nat), i + d = a.length → d < k → foolscapref31_Same.l0 k a b (i : Int) = some (decide (a.drop i = b.drop i))
  | 0, k, i, h, hk => by
    obtain ⟨k, rfl⟩ : ∃ j, k = j + 1 := ⟨k - 1, by omega⟩
    unfold foolscapref31_Same.l0
    rw [if_neg (by omega), List.drop_eq_nil_of_le (by omega), List.drop_eq_nil_of_le (by omega)]
    rfl
  | d + 1, k, i, h, hk => by
    obtain ⟨k, rfl⟩ : ∃ j, k = j + 1 := ⟨k - 1, by omega⟩
    have ia : i < a.length := by omega
    have ib : i < b.length := by omega
    unfold foolscapref31_Same.l0
    rw [if_pos (by omega), if_pos (by omega), if_pos (by omega)]
    have ea : rdOf ByteArray.empty a (i : Int) = a[i] := by simp [rdOf, List.getD, ia]
    have eb : rdOf ByteArray.empty b (i : Int) = b[i] := by simp [rdOf, List.getD, ib]
    have key : (a.drop i = b.drop i) ↔ (a[i] = b[i] ∧ a.drop (i + 1) = b.drop (i + 1)) := by
      rw [List.drop_eq_getElem_cons ia, List.drop_eq_getElem_cons ib]
      constructor
      · intro h
        injection h with h1 h2
        exact ⟨h1, h2⟩
      · rintro ⟨h1, h2⟩
        rw [h1, h2]
    rw [ea, eb, wrap_succ (by omega) (by omega), show ((i : Int) + 1) = ((i + 1 : Nat) : Int) by omega, same_l a b hl hm d k (i + 1) (by omega) (by omega)]
    by_cases e : a[i] = b[i]
    · rw [if_pos (by rw [e])]
      exact congrArg some (decide_eq_decide.2 ⟨fun h => key.2 ⟨e, h⟩, fun h => (key.1 h).2⟩)
    · rw [if_neg (fun h => e (toList_inj h))]
      exact congrArg some (decide_eq_false (fun h => e (key.1 h).1)).symm
theorem same_eq (a b : List ByteArray) (hm : a.length ≤ 140737488355328) : foolscapref31_Same.f (a.length + 1) a b = some (decide (a = b)) := by
  unfold foolscapref31_Same.f
  by_cases hl : a.length = b.length
  · rw [if_pos (by omega)]
    have h := same_l a b hl hm a.length (a.length + 1) 0 (by omega) (by omega)
    simpa using h
  · rw [if_neg (by omega)]
    simp
    intro e
    exact hl (by rw [e])
abbrev ReadsS (w : World) (A : Option Addr) (n : Nat) (xs : List ByteArray) : Prop := ReadsOf Value.string ByteArray.empty w A n xs
theorem own_rdS {w : World} {base n : Nat} {v : Value} {xs : List ByteArray} (h : w.ownsRow base 9 1 v n (xs.map Value.string)) : ∃ A c, v = .slice A n c ∧ n ≤ c ∧ ReadsS w A n xs := own_reads_of_le (enc := Value.string) (d := ByteArray.empty) h
theorem same_any (A : Option Addr) (n c : Nat) (a : List ByteArray) (B : Option Addr) (m d : Nat) (b : List ByteArray) (w : World) (hA : ReadsS w A n a) (hc : n ≤ c) (hB : ReadsS w B m b) (hd : m ≤ d) (hm : n ≤ 140737488355328) :
    Calls Try.prog 17 #[.slice A n c, .slice B m d] w fun e w' => e = .returned (.bool (decide (a = b))) ∧ Below w.heap.size w w' := by
  have e1 := hA.1
  have e2 := hB.1
  subst e1 e2
  exact (foolscapref31_Same.calls (a.length + 1) A c a B d b _ w (Kd.C_of_reads (d := ByteArray.empty) hA) hc (Kd.C_of_reads (d := ByteArray.empty) hB) hd (same_eq a b hm)).mono fun e w' ⟨he, hd⟩ => ⟨he, hd.below⟩
end Go.Proofs.Ytoegeljjfhbpeaa.J
namespace Go.Proofs.Ytoegeljjfhbpeaa.J
open Go.RowKit Go.Proofs.YtoegeljjfhbpeaaW.PrintWords Go.Proofs.YtoegeljjfhbpeaaW.PrintLast Go.Proofs.YtoegeljjfhbpeaaW.PrintMore

theorem frame0 : frameL 0 (bytesOf { data := #[] }) = [0, 0, 0, 0, 138, 178, 40, 140] := by kernel_rfl
theorem scan0 : scanL ([0, 0, 0, 0, 138, 178, 40, 140] ++ [255]) = [([], 8)] := by kernel_rfl
theorem end0 : endOf [(([] : List Int), 8)] = 8 := rfl
theorem byt0 : Bytes ([0, 0, 0, 0, 138, 178, 40, 140] ++ [255]) := by unfold Bytes; decide
theorem Both.below {w w' : World} {base g lg : Nat} {v lv : Value} {xs : List Int} {sure : Nat} {ls : List ByteArray} {safe : Nat} (T : Both w base g lg v lv xs sure ls safe) (hb : base ≤ w.heap.size) {S : Nat → Prop} (hS : ∀ k, S k → k = g ∨ k = lg ∨ v.ownBlock = some k ∨ lv.ownBlock = some k) (h : Keeps S w w') : Below base w w' :=
  h.below hb (fun k hk => by
    rcases hS k hk with rfl | rfl | e | e
    · exact T.tape.base_le
    · exact T.log.base_le
    · exact (T.tape.row.own k e).1
    · exact (own_block T.log.row k e).1)
theorem TapeAt.below {w w' : World} {base g : Nat} {v : Value} {xs : List Int} {sure : Nat} (T : TapeAt w base g v xs sure) (hb : base ≤ w.heap.size) {S : Nat → Prop} (hS : ∀ k, S k → k = g ∨ v.ownBlock = some k) (h : Keeps S w w') : Below base w w' :=
  h.below hb (fun k hk => by
    rcases hS k hk with rfl | e
    · exact T.base_le
    · exact (T.row.own k e).1)
theorem frameA : frameL 0 (bytesOf { data := #[97] }) = [0, 0, 0, 1, 219, 19, 120, 199, 97] := by kernel_rfl
theorem frameB : frameL 1 (bytesOf { data := #[98] }) = [0, 0, 0, 1, 88, 120, 138, 199, 98] := by kernel_rfl
theorem scanA : scanL [0, 0, 0, 1, 219, 19, 120, 199, 97, 0, 0, 0] = [([97], 9)] := by kernel_rfl
theorem toldA : told [0, 0, 0, 1, 219, 19, 120, 199, 97, 0, 0, 0] = [{ data := #[97] }] := by unfold told; rw [scanA]; rfl
theorem keptA : keptOf ([0, 0, 0, 1, 219, 19, 120, 199, 97, 0, 0, 0, 1, 88, 120, 138, 199, 98] : List Int).length 9 3 = 3 := by kernel_rfl
theorem crashA : crashed [0, 0, 0, 1, 219, 19, 120, 199, 97, 0, 0, 0, 1, 88, 120, 138, 199, 98] 9 3 (-1) 0 = [0, 0, 0, 1, 219, 19, 120, 199, 97, 0, 0, 0] := by kernel_rfl
theorem strF : strOfNums [0, 0, 0, 0, 138, 178, 40, 140] = { data := #[0, 0, 0, 0, 138, 178, 40, 140] } := rfl
theorem reads_marked (w : World) (l : List Int) (hl : l.length ≤ 9223372036854775807) (t : TypeId) (fr : Nat × Nat) : ReadsInt (w.alloc (.cells (nums .u8 l).toArray t fr)) .u8 (some ⟨w.heap.size, 0, none⟩) l.length l :=
  ⟨rfl, hl, fun _ => ⟨_, rfl, fun j hj => by
    rw [add_plain, World.cell?_alloc_mark]
    simp [nums, List.getD, hj]⟩⟩
theorem reads_one (w : World) (s : ByteArray) : ReadsS (w.alloc (.cells #[.string s] 9)) (some ⟨w.heap.size, 0, none⟩) 1 [s] :=
  ⟨rfl, by decide, fun _ => ⟨_, rfl, fun j hj => by
    obtain rfl : j = 0 := by omega
    rw [add_plain, World.cell?_alloc_mark]
    rfl⟩⟩
theorem readS_own {w W : World} {base n c : Nat} {A : Option Addr} (h : w.ownsRow base 9 1 (.slice A n c) n ([([], 8)].map lineV)) (hW : Below w.heap.size w W) : ReadsS W A n [ByteArray.empty] := by
  obtain ⟨A', c', e, _, hr⟩ := own_rdS (xs := [ByteArray.empty]) h
  injection e with e1 _ _
  subst e1
  exact hr.below hW
theorem sameE : decide ([ByteArray.empty] = [({ data := #[] } : ByteArray)]) = true := rfl
theorem sameA : decide ([({ data := #[97] } : ByteArray)] = [({ data := #[97] } : ByteArray)]) = true := rfl
theorem sum9 : sumOf [49, 50, 51, 52, 53, 54, 55, 56, 57] = 3808858755 := by kernel_rfl
set_option maxHeartbeats 4000000 in
theorem lives_any (w : World) : Calls Try.prog 14 #[] w fun e w' => e = .returned (.bool true) ∧ Below w.heap.size w w' := by
  have F0 := frame_any 0 { data := #[] } w (by omega) (by omega) (by decide)
  rw [frame0] at F0
  have HF0 := Lib.hid F0
  clear F0
  have kc := fun (w : World) (C : Array Value) (n c : Nat) => Lib.run_convert_bytes_const (P := Try.prog) w 22 5 C n c Try.underlying22 Try.underlying5
  go_enter Try.func14, Try.ntmps14
  go_wp2_with (first | (go_at_call 10; refine HF0.out.mono ?_; rintro e w1 ⟨fv, rfl, ho, hb⟩; have O1 := Lib.hid ho; obtain ⟨Af, cf, rfl, hcf, hrf⟩ := own_rd ho; have R1 := Lib.hid hrf; have B1 := Lib.hid hb; clear ho hb hrf) | (at_builtin; refine print_append_row (w0 := w1) w1.heap.size rfl (.tmp 17) (.tmp 18) 22 5 .u8 1 rfl Try.underlying22 info5 (by omega) _ [] [0, 0, 0, 0, 138, 178, 40, 140] Af 8 cf rfl rfl (World.ownsRow_made w1 #[] 0 (Nat.le_refl _) (Nat.zero_le _) (by simp)) (R1.out.below ((Below.refl _ _).alloc (Nat.le_refl _) _)) ((Below.refl _ _).alloc (Nat.le_refl _) _) (by simp) (by decide) ?_; rintro v2 w2 hown2 hb2 hg2 hat2; have O2 := Lib.hid hown2; have B2 := Lib.hid hb2; clear hown2 hb2 hg2 hat2) | (at_builtin; refine print_append_num (w0 := w2) w1.heap.size rfl (.tmp 19) (.tmp 20) 22 5 .u8 1 rfl Try.underlying22 info5 (by omega) _ [0, 0, 0, 0, 138, 178, 40, 140] 255 rfl rfl O2.out (Below.refl _ _) B2.out.size (by decide) ?_; rintro v3 w3 hown3 hb3 hg3 hat3; have O3 := Lib.hid hown3; have B3 := Lib.hid hb3; clear hown3 hb3 hg3 hat3; obtain ⟨A3, c3, rfl, hc3, hr3⟩ := own_rd O3.out; have R3 := Lib.hid hr3; clear hr3) | (go_at_call 15; refine (scan_any A3 9 c3 ([0, 0, 0, 0, 138, 178, 40, 140] ++ [255]) w3 byt0 R3.out hc3 (by decide)).mono ?_; rw [scan0, end0]; rintro e w4 ⟨lv, rfl, ho4, hb4⟩; obtain ⟨A4, c4, rfl, hc4⟩ := own_sl ho4; have O4 := Lib.hid ho4; have rdS4 : Hid (∀ W, Below w4.heap.size w4 W → ReadsS W A4 1 [ByteArray.empty]) := fun W hW => readS_own O4.out hW; have B4 : Hid (Below w1.heap.size w1 w4) := (B2.out.trans B3.out).trans (hb4.mono (Nat.le_trans B2.out.size B3.out.size)); clear ho4 hb4) | (go_at_call 20; refine (newTape_any w4).mono ?_; rintro e w5 ⟨rfl, rfl⟩; have T5 := Lib.hid (TapeAt.new w4 w4.heap.size (Nat.le_refl _)); have B5 : Hid (Below w4.heap.size w4 (w4.alloc (.cells #[.bool true, .slice none 0 0, .int .i64 0] 66))) := (Below.refl _ _).alloc (Nat.le_refl _) _; generalize w4.alloc (.cells #[.bool true, .slice none 0 0, .int .i64 0] 66) = w5 at T5 B5 ⊢) | (go_at_call 21; refine (open_any T5.out (by decide) B5.out.size).mono ?_; rintro e w6 ⟨lg, lv6, v6, rfl, t6, l6, k6, hlg6, hv6, hlv6⟩; have T6 : Hid (Both w6 w4.heap.size w4.heap.size lg v6 lv6 [] 0 [] 0) := ⟨t6, l6⟩; have B6 := Lib.hid (B5.out.trans (T5.out.below B5.out.size (fun _ h => .inl h) k6)); clear t6 l6 k6 hv6 hlv6 T5) | (go_at_call 23; refine (add_any T6.out { data := #[97] } B6.out.size (by decide) (by decide) (by decide)).mono ?_; rintro e w7 ⟨rfl, v7, lv7, t7, k7, _, _⟩; have T7 : Hid (Both w7 w4.heap.size w4.heap.size lg v7 lv7 [0, 0, 0, 1, 219, 19, 120, 199, 97] 0 [{ data := #[97] }] 0) := by { have h : Both w7 w4.heap.size w4.heap.size lg v7 lv7 (frameL 0 (bytesOf { data := #[97] })) 0 [{ data := #[97] }] 0 := t7; rw [frameA] at h; exact h }; have B7 := Lib.hid (B6.out.trans (T6.out.below B6.out.size (fun _ h => h) k7)); clear t7 k7 T6) | (go_at_call 22; refine (logSync_any T7.out).mono ?_; rintro e w8 ⟨rfl, t8, k8⟩; have T8 : Hid (Both w8 w4.heap.size w4.heap.size lg v7 lv7 [0, 0, 0, 1, 219, 19, 120, 199, 97] 9 [{ data := #[97] }] 1) := t8; have B8 := Lib.hid (B7.out.trans (T7.out.below B7.out.size (fun k h => h.elim .inl (fun h => .inr (.inl h))) k8)); clear t8 k8 T7) | (go_at_call 23; refine (add_any T8.out { data := #[98] } B8.out.size (by decide) (by decide) (by decide)).mono ?_; rintro e w9 ⟨rfl, v9, lv9, t9, k9, _, _⟩; have T9 : Hid (TapeAt w9 w4.heap.size w4.heap.size v9 [0, 0, 0, 1, 219, 19, 120, 199, 97, 0, 0, 0, 1, 88, 120, 138, 199, 98] 9) := by { have h : TapeAt w9 w4.heap.size w4.heap.size v9 ([0, 0, 0, 1, 219, 19, 120, 199, 97] ++ frameL 1 (bytesOf { data := #[98] })) 9 := t9.tape; rw [frameB] at h; exact h }; have B9 := Lib.hid (B8.out.trans (T8.out.below B8.out.size (fun _ h => h) k9)); clear t9 k9 T8) | (go_at_call 24; refine (crash_any T9.out (by decide) B9.out.size 3 (-1) 0 (by decide) (by decide) (by decide)).mono ?_; rintro e w10 ⟨rfl, v10, t10, k10, _⟩; have T10 : Hid (TapeAt w10 w4.heap.size w4.heap.size v10 [0, 0, 0, 1, 219, 19, 120, 199, 97, 0, 0, 0] 12) := by { rw [keptA, crashA] at t10; exact t10 }; have B10 := Lib.hid (B9.out.trans (T9.out.below B9.out.size (fun _ h => .inl h) k10)); clear t10 k10 T9) | (go_at_call 21; refine (open_any T10.out (by decide) B10.out.size).mono ?_; rintro e w11 ⟨lgy, lv11, v11, rfl, t11, l11, k11, hlg11, hv11, hlv11⟩; have L11 : Hid (LogAt w11 w4.heap.size lgy w4.heap.size lv11 [{ data := #[97] }] 1) := by { have h := l11; rw [toldA] at h; exact h }; have B11 := Lib.hid (B10.out.trans (T10.out.below B10.out.size (fun _ h => .inl h) k11)); clear t11 l11 k11 hv11 hlv11 T10) | (go_at_call 12; refine (Sum_any (some ⟨w11.heap.size, 0, none⟩) 9 9 [49, 50, 51, 52, 53, 54, 55, 56, 57] _ rfl (reads_marked w11 [49, 50, 51, 52, 53, 54, 55, 56, 57] (by decide) 5 (9, 10)) (by decide) (by decide)).mono ?_; rw [sum9]; rintro e w12 ⟨rfl, hb12⟩; have B1112 : Hid (Below w11.heap.size w11 w12) := ((Below.refl _ w11).alloc (Nat.le_refl _) _).trans (hb12.mono (by rw [World.size_alloc]; exact Nat.le_succ _)); have B12 : Hid (Below w4.heap.size w4 w12) := (B11.out.alloc B11.out.size _).trans (hb12.mono (by rw [World.size_alloc]; exact Nat.le_succ_of_le B11.out.size)); have hcv : (convert 22 9 (.slice Af 8 cf)).run Try.prog w12 = .ok (.string { data := #[0, 0, 0, 0, 138, 178, 40, 140] }) w12 := by { rw [← strF]; exact conv_str _ _ _ _ _ (R1.out.below (B4.out.trans (B12.out.mono B4.out.size))) }; clear hb12) | (go_at_call 17; refine (same_any A4 1 c4 [ByteArray.empty] (some ⟨w12.heap.size, 0, none⟩) 1 1 [{ data := #[] }] _ (rdS4.out _ (B12.out.alloc B12.out.size _)) hc4 (reads_one w12 { data := #[] }) (Nat.le_refl _) (by decide)).mono ?_; rw [sameE]; rintro e w13 ⟨rfl, hb13⟩; have B13 : Hid (Below w4.heap.size w4 w13) := (B12.out.alloc B12.out.size _).trans (hb13.mono (by rw [World.size_alloc]; exact Nat.le_succ_of_le B12.out.size)); have L13 : Hid (LogAt w13 w4.heap.size lgy w4.heap.size lv11 [{ data := #[97] }] 1) := L11.out.kept (Keeps.of_below (S := fun _ => False) (((B1112.out.alloc B1112.out.size _)).trans (hb13.mono (by rw [World.size_alloc]; exact Nat.le_succ_of_le B1112.out.size)))) (fun h => h) (fun _ _ h => h); clear hcv rdS4 hb13) | (go_at_call 25; refine (lines_any L13.out (by decide)).mono ?_; rintro e w14 ⟨lv14, rfl, ho14, hb14⟩; obtain ⟨A14, c14, rfl, hc14, hr14⟩ := own_rdS ho14; have R14 := Lib.hid hr14; have B14 : Hid (Below w4.heap.size w4 w14) := B13.out.trans (hb14.mono B13.out.size); clear ho14 hb14 hr14) | (go_at_call 17; refine (same_any A14 1 c14 [{ data := #[97] }] (some ⟨w14.heap.size, 0, none⟩) 1 1 [{ data := #[97] }] _ (R14.out.below ((Below.refl _ w14).alloc (Nat.le_refl _) _)) hc14 (reads_one w14 { data := #[97] }) (Nat.le_refl _) (by decide)).mono ?_; rw [sameA]; rintro e w15 ⟨rfl, hb15⟩; have B15 : Hid (Below w4.heap.size w4 w15) := (B14.out.alloc B14.out.size _).trans (hb15.mono (by rw [World.size_alloc]; exact Nat.le_succ_of_le B14.out.size)); clear hb15))
  go_ret
  exact ⟨rfl, B1.out.trans ((B4.out.trans (B15.out.mono B4.out.size)).mono B1.out.size)⟩
end Go.Proofs.Ytoegeljjfhbpeaa.J
