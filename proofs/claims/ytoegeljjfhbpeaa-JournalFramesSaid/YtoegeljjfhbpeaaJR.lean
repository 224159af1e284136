import Derived.Test.YtoegeljjfhbpeaaJO
set_option linter.unusedVariables false
set_option linter.unusedSimpArgs false
namespace Go.Proofs.Ytoegeljjfhbpeaa.J
open Go.RowKit Go.Proofs.YtoegeljjfhbpeaaW.PrintWords Go.Proofs.YtoegeljjfhbpeaaW.PrintLast Go.Proofs.YtoegeljjfhbpeaaW.PrintMore

set_option maxHeartbeats 2000000 in
theorem add_any {w : World} {base g lg : Nat} {v lv : Value} {xs : List Int} {sure : Nat} {ls : List ByteArray} {safe : Nat} (T : Both w base g lg v lv xs sure ls safe) (s : ByteArray) (hbase : base ≤ w.heap.size) (hs : s.size ≤ 65536) (hl : ls.length ≤ 2147483647) (hx : xs.length ≤ 70368744177664) :
    Calls Try.prog 23 #[.pointer (some ⟨lg, 0, none⟩), .string s] w fun e w' => e = .returned (.tuple #[.int .i64 (ls.length : Int), .int .i64 0]) ∧ ∃ v' lv', Both w' base g lg v' lv' (xs ++ frameL (ls.length : Int) (bytesOf s)) sure (ls ++ [s]) safe ∧
      Keeps (fun k => k = g ∨ k = lg ∨ v.ownBlock = some k ∨ lv.ownBlock = some k) w w' ∧ (∀ k, v'.ownBlock = some k → v.ownBlock = some k ∨ w.heap.size ≤ k) ∧ (∀ k, lv'.ownBlock = some k → lv.ownBlock = some k ∨ w.heap.size ≤ k) := by
  obtain ⟨A1, c1, rfl, _⟩ := own_sl T.log.row
  have z0 : w.cell? ⟨lg, 0, none⟩ = some (.pointer (some ⟨g, 0, none⟩)) := by rw [blk_cell T.log.blk]; rfl
  have z1 : w.cell? ⟨lg, 1, none⟩ = some (.slice A1 ls.length c1) := by rw [blk_cell T.log.blk]; rfl
  have HT := Lib.hid T
  have FB : Hid (Bytes (frameL (ls.length : Int) (bytesOf s))) := frameL_bytes _ (bytesOf_bytes s)
  have FL : Hid ((frameL (ls.length : Int) (bytesOf s)).length = 8 + s.size) := by show _ = _; rw [frameL_len, bytesOf_length]
  have HX := Lib.hid hx
  have HS := Lib.hid hs
  clear T hx hs
  go_enter Try.func23, Try.ntmps23
  go_wp2_with (first | (go_at_call 42; refine (made_yes lg g _ z0).mono ?_; rintro e w' ⟨rfl, rfl⟩) | (go_at_call 10; refine (frame_any (ls.length : Int) s _ (by omega) (by omega) HS.out).mono ?_; rintro e w2 ⟨fv, rfl, ho, hb⟩; obtain ⟨Af, cf, rfl, hcf, hrf⟩ := own_rd ho; have RF := Lib.hid hrf; have B2 := Lib.hid hb; have T2 : Hid (TapeAt w2 base g v xs sure) := HT.out.tape.kept (Keeps.of_below (S := fun _ => False) hb) (fun h => h) (fun _ _ h => h); have L2 : Hid (LogAt w2 base lg g (.slice A1 ls.length c1) ls safe) := HT.out.log.kept (Keeps.of_below (S := fun _ => False) hb) (fun h => h) (fun _ _ h => h); have y0 : w2.cell? ⟨lg, 0, none⟩ = some (.pointer (some ⟨g, 0, none⟩)) := (blk_cell L2.out.blk 0).trans rfl; clear hb ho hrf) | (go_at_call 27; refine (append_any T2.out Af _ cf (frameL (ls.length : Int) (bytesOf s)) RF.out FB.out (by have := HX.out; have := FL.out; have := HS.out; omega) (Nat.le_trans hbase B2.out.size)).mono ?_; rintro e w3 ⟨rfl, v3, t3, k3, e3⟩; have T3 := Lib.hid t3; have K3 := Lib.hid k3; have E3 := Lib.hid e3; have L3 : Hid (LogAt w3 base lg g (.slice A1 ls.length c1) ls safe) := L2.out.kept k3 (fun h => h.elim HT.out.lg_g HT.out.v_lg) (fun k e h => h.elim (fun h => HT.out.lv_g (h ▸ e)) (fun h => HT.out.v_lv k h e)); have y1 : w3.cell? ⟨lg, 1, none⟩ = some (.slice A1 ls.length c1) := (blk_cell L3.out.blk 1).trans rfl; clear t3 k3 e3) | (at_builtin; refine print_append (w0 := w3) base rfl (.tmp 35) (.tmp 37) 32 9 (.string ByteArray.empty) 16 rfl Try.underlying32 info9 rfl (by omega) _ (ls.map Value.string) (.string s) rfl rfl rfl (by rw [List.length_map]; exact L3.out.row) (Below.refl _ _) (Nat.le_trans (Nat.le_trans hbase B2.out.size) K3.out.size) (by rw [List.length_map]; omega) ?_; rintro v5 w5 hown5 _ hg5 hat5; obtain ⟨A5, c5, rfl, _⟩ := own_sl hown5; have O5 := Lib.hid hown5; have K5 : Hid (Keeps (fun k => (Value.slice A1 ls.length c1).ownBlock = some k) w3 w5) := Keeps.of_grown hg5; have A5h : Hid ((Value.slice A5 (ls.map Value.string ++ [Value.string s]).length c5).ownBlock = (Value.slice A1 ls.length c1).ownBlock ∨ ∃ b, (Value.slice A5 (ls.map Value.string ++ [Value.string s]).length c5).ownBlock = some b ∧ w3.heap.size ≤ b) := hat5; have b5 : Hid (w5.heap[lg]? = some (.cells #[.pointer (some ⟨g, 0, none⟩), .slice A1 ls.length c1, .int .i64 (safe : Int)] 68 (0, 0))) := (K5.out.block lg L3.out.lt HT.out.lv_lg).trans L3.out.blk; have y5 : w5.cell? ⟨lg, 1, none⟩ = some (.slice A1 ls.length c1) := (blk_cell b5.out 1).trans rfl; have f5 : w5.frozen? ⟨lg, 1, none⟩ = false := blk_frozen b5.out 1; clear hown5 hg5 hat5))
  go_ret2
  have B5 : Hid (LogAt (w5.setCell ⟨lg, 1, none⟩ (.slice A5 (ls.length + 1) c5)) base lg g (.slice A5 (ls.length + 1) c5) (ls ++ [s]) safe) := by
    have e : (ls.map Value.string ++ [Value.string s]).length = ls.length + 1 := by simp
    have h := O5.out
    rw [e] at h
    have hne : (Value.slice A5 (ls.length + 1) c5).ownBlock ≠ some lg := fun e => by
      obtain ⟨_, _, cur, hc⟩ := own_block h lg e
      exact blk_ne b5.out hc (by decide) rfl
    refine ⟨blk_set b5.out 1 _, HT.out.log.base_le, ?_⟩
    rw [List.length_append, List.map_append]
    exact own_kept h (fun k e => Below.heap_setCell _ _ _ _ (fun e2 => hne (e.trans (congrArg some e2))))
  have hsz := Lib.hid (Nat.le_trans B2.out.size K3.out.size)
  have hv3 : Hid (∀ k, v3.ownBlock = some k → v.ownBlock = some k ∨ w.heap.size ≤ k) := fun k e => by
    rcases E3.out with h | h
    · exact .inl (h ▸ e)
    · rw [h] at e
      injection e with e
      exact .inr (e ▸ B2.out.size)
  refine ⟨rfl, v3, _, ⟨?_, B5.out⟩, ?_, hv3.out, ?_⟩
  · have K5' := (K5.out.mono (S' := fun k => k = lg ∨ (Value.slice A1 ls.length c1).ownBlock = some k) (fun _ _ h => .inr h)).setCell (p := ⟨lg, 1, none⟩) (.inl rfl) (.slice A5 (ls.length + 1) c5)
    refine T3.out.kept K5' (fun h => h.elim (fun h => HT.out.lg_g h.symm) HT.out.lv_g) (fun k e h => ?_)
    rcases h with rfl | h
    · obtain ⟨_, _, cur, hc⟩ := T3.out.row.own _ e
      exact blk_ne L3.out.blk hc (by decide) rfl
    · obtain ⟨_, _, cur, hc⟩ := T3.out.row.own _ e
      obtain ⟨_, _, cur', hc'⟩ := own_block L3.out.row _ h
      exact blk_ne hc hc' (by decide) rfl
  · refine (((Keeps.of_below B2.out).trans (K3.out.mono ?_)).trans (K5.out.mono ?_)).setCell (.inr (.inl rfl)) _
    · rintro k _ (h | h)
      · exact .inl h
      · exact .inr (.inr (.inl h))
    · exact fun k _ h => .inr (.inr (.inr h))
  · intro k e
    have e' : (Value.slice A5 (ls.map Value.string ++ [Value.string s]).length c5).ownBlock = some k := by rw [show (ls.map Value.string ++ [Value.string s]).length = ls.length + 1 by simp]; exact e
    rcases A5h.out with h | ⟨b, h, hb⟩
    · exact .inl (h ▸ e')
    · rw [h] at e'
      injection e' with e'
      exact .inr (e' ▸ Nat.le_trans hsz.out hb)
end Go.Proofs.Ytoegeljjfhbpeaa.J
