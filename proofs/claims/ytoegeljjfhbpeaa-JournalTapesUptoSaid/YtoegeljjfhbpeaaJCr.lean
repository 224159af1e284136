/- Crash of the document's tape, in closed form. No condition stands open. -/
import Derived.Test.YtoegeljjfhbpeaaJ4
import Derived.Test.YtoegeljjfhbpeaaWGuard
set_option linter.unusedVariables false
set_option linter.unusedSimpArgs false
namespace Go.Proofs.Ytoegeljjfhbpeaa.J
open Go.RowKit Go.Proofs.YtoegeljjfhbpeaaW.PrintWords Go.Proofs.YtoegeljjfhbpeaaW.PrintLast Go.Proofs.YtoegeljjfhbpeaaW.PrintMore
set_option format.width 180
theorem bw_cell (w : World) (s : ByteArray) (j : Nat) (hj : j < s.size) : (Lib.bytesWorld w 5 s).cell? ⟨w.heap.size, j, none⟩ = some (.int .u8 (byt (bytesOf s) j)) := by
  rw [Lib.bytesWorld_cell w 5 s j hj]
  have hd2 : j < s.data.size := hj
  simp [byt, bytesOf, List.getD, Array.getElem?_eq_getElem hd2]
theorem bw_frozen (w : World) (s : ByteArray) (j : Nat) (hj : j < s.size) : (Lib.bytesWorld w 5 s).frozen? ⟨w.heap.size, j, none⟩ = false := by
  have h1 := Lib.bytesWorld_at_new w 5 s
  have h2 := Lib.bytesWorld_cell w 5 s j hj
  rw [cell_of_row _ _ _ _ _ _ h1] at h2
  have h3 : j < (Lib.bytesCells w 5 s).size := (Array.getElem?_eq_some_iff.1 h2).1
  simp only [World.frozen?, h1]
  simp
  omega
theorem reads_set {w : World} {g n : Nat} {cs : Array Value} {t : TypeId} {fr : Nat × Nat} {xs : List Int} (hh : w.heap[g]? = some (.cells cs t fr)) (h : ∀ j, j < n → w.cell? ⟨g, j, none⟩ = some (.int .u8 (byt xs j))) (hl : xs.length = n) (hn : n ≤ 9223372036854775807) (i : Nat) (hi : i < n) (y : Int) :
    ReadsInt (w.setCell ⟨g, i, none⟩ (.int .u8 y)).drew .u8 (some ⟨g, 0, none⟩) n (xs.set i y) := by
  have h2 : (w.setCell ⟨g, i, none⟩ (.int .u8 y)).drew.heap[g]? = some (.cells (cs.setIfInBounds i (.int .u8 y)) t fr) := by
    show (w.setCell ⟨g, i, none⟩ (.int .u8 y)).heap[g]? = _
    simp [World.setCell, Array.getElem?_modify, hh]
  refine ⟨by rw [List.length_set]; exact hl, hn, fun _ => ⟨_, rfl, fun j hj => ?_⟩⟩
  rw [add_plain, cell_of_row _ _ _ _ _ _ h2]
  have h3 := h j hj
  rw [cell_of_row _ _ _ _ _ _ hh] at h3
  rw [Array.getElem?_setIfInBounds]
  by_cases e : i = j
  · subst e
    rw [if_pos rfl, if_pos (Array.getElem?_eq_some_iff.1 h3).1]
    simp [List.getD, hl, hi]
  · rw [if_neg e, h3]
    simp [byt, List.getD, e]
theorem bytesOf_extract (B : ByteArray) (n : Nat) : bytesOf (B.extract 0 n) = (bytesOf B).take n := by
  simp [bytesOf, ByteArray.data_extract, List.map_take]
set_option maxHeartbeats 2000000 in
theorem rcrash_any (B : ByteArray) (su : Nat) (hs : su ≤ B.size) (hm : B.size ≤ 140737488355328) (keep at_ by_ : Int) (hk0 : -9223372036854775808 ≤ keep) (hk1 : keep ≤ 9223372036854775807) (hy : 0 ≤ by_ ∧ by_ ≤ 255) (w : World) :
    Calls Try.prog 35 #[.agg #[.string B, .int .i64 (su : Int)], .int .i64 keep, .int .i64 at_, .int .u8 by_] w fun e w' => e = .returned (.agg #[.string (strOfNums (crashed (bytesOf B) su (keptOf (bytesOf B).length su keep) at_ by_)), .int .i64 ((su + keptOf (bytesOf B).length su keep : Nat) : Int)]) ∧ Below w.heap.size w w' := by
  obtain ⟨kp, hkp, hkk⟩ : ∃ kp : Nat, max 0 (min keep ((B.size : Int) - (su : Int))) = (kp : Int) ∧ keptOf (bytesOf B).length su keep = kp := ⟨keptOf (bytesOf B).length su keep, by rw [bytesOf_length]; unfold keptOf; omega, rfl⟩
  rw [hkk]
  have hkl : su + kp ≤ B.size := by omega
  have hn : ((su : Int) + (kp : Int)).toNat = su + kp := by omega
  have hcast : Hid ((su : Int) + (kp : Int) = ((su + kp : Nat) : Int)) := by show _ = _; omega
  obtain ⟨C, hC⟩ : ∃ C, B.extract 0 (su + kp) = C := ⟨_, rfl⟩
  have hCs : C.size = su + kp := by rw [← hC, ByteArray.size_extract]; omega
  have hCb : bytesOf C = (bytesOf B).take (su + kp) := by rw [← hC]; exact bytesOf_extract B _
  have hconv := fun w => Lib.run_convert_string_bytes (P := Try.prog) w 9 22 5 C Try.underlying9 Try.underlying22 Try.underlying5
  have hu55 := Try.underlying55
  have hw : IntKind.i64.wrap ((B.size : Int) - (su : Int)) = (B.size : Int) - (su : Int) := IntWalk.i64_in _ (by omega)
  have hw2 : IntKind.i64.wrap ((su : Int) + (kp : Int)) = (su : Int) + (kp : Int) := IntWalk.i64_in _ (by omega)
  have hw3 : IntKind.i64.wrap ((su : Int) + (kp : Int) - (su : Int)) = (kp : Int) := by rw [IntWalk.i64_in _ (by omega)]; omega
  have HK := Lib.hid hkl
  have HCS := Lib.hid hCs
  obtain ⟨wa, hwa⟩ : ∃ wa, (w.alloc (.cells #[.string B, .int .i64 (su : Int)] 55)).alloc (.cells #[.string ⟨#[]⟩, .int .i64 0] 55) = wa := ⟨_, rfl⟩
  have hza : wa.heap.size = w.heap.size + 1 + 1 := by rw [← hwa]; simp
  have Ba : Below w.heap.size w wa := by rw [← hwa]; exact ((Below.refl _ w).alloc (Nat.le_refl _) _).alloc (by simp) _
  have hp : wa.heap[w.heap.size]? = some (.cells #[.string B, .int .i64 (su : Int)] 55 (0, 0)) := by
    rw [← hwa]
    exact (((Below.refl _ _).alloc (Nat.le_refl _) _).block _ (by simp)).trans (heap_alloc_new w _)
  have hr : wa.heap[w.heap.size + 1]? = some (.cells #[.string ⟨#[]⟩, .int .i64 0] 55 (0, 0)) := by
    rw [← hwa]
    have h := heap_alloc_new (w.alloc (.cells #[.string B, .int .i64 (su : Int)] 55)) (.cells #[.string ⟨#[]⟩, .int .i64 0] 55)
    rw [World.size_alloc] at h
    exact h
  obtain ⟨w2, hw2e⟩ : ∃ w2, Lib.bytesWorld wa 5 C = w2 := ⟨_, rfl⟩
  have B2 : Hid (Below w.heap.size w w2) := by rw [← hw2e]; exact Ba.trans ((conv_below wa C).mono Ba.size)
  have P2 : Hid (w2.heap[w.heap.size]? = some (.cells #[.string B, .int .i64 (su : Int)] 55 (0, 0))) := by rw [← hw2e]; exact (Lib.bytesWorld_at_old wa 5 C _ (by omega)).trans hp
  have R2 : Hid (w2.heap[w.heap.size + 1]? = some (.cells #[.string ⟨#[]⟩, .int .i64 0] 55 (0, 0))) := by rw [← hw2e]; exact (Lib.bytesWorld_at_old wa 5 C _ (by omega)).trans hr
  have RD2 : Hid (ReadsInt w2 .u8 (some ⟨wa.heap.size, 0, none⟩) C.size (bytesOf C)) := by rw [← hw2e]; exact conv_reads wa C (by omega)
  have CB2 : Hid (∀ j, j < C.size → w2.cell? ⟨wa.heap.size, j, none⟩ = some (.int .u8 (byt (bytesOf C) j))) := by rw [← hw2e]; exact bw_cell wa C
  have FB2 : Hid (∀ j, j < C.size → w2.frozen? ⟨wa.heap.size, j, none⟩ = false) := by rw [← hw2e]; exact bw_frozen wa C
  have BH2 : Hid (w2.heap[wa.heap.size]? = some (.cells (Lib.bytesCells wa 5 C) 5 ((Lib.bytesCells wa 5 C).size, (Lib.bytesCells wa 5 C).size + 1))) := by rw [← hw2e]; exact Lib.bytesWorld_at_new wa 5 C
  have Hza := Lib.hid hza
  have z1 : w2.cell? ⟨w.heap.size, 1, none⟩ = some (.int .i64 (su : Int)) := (blk_cell P2.out 1).trans rfl
  have y0 : wa.cell? ⟨w.heap.size, 0, none⟩ = some (.string B) := (blk_cell hp 0).trans rfl
  have y1 : wa.cell? ⟨w.heap.size, 1, none⟩ = some (.int .i64 (su : Int)) := (blk_cell hp 1).trans rfl
  go_enter Try.func35, Try.ntmps35
  go_upto_region 3 with fail
  clear hwa hw2e hza Ba hp hr hkp y0 y1
  have rb : w2.cell? ⟨w.heap.size + 1, 0, none⟩ = some (.string ⟨#[]⟩) := (blk_cell R2.out 0).trans rfl
  have rf0 : w2.frozen? ⟨w.heap.size + 1, 0, none⟩ = false := blk_frozen R2.out 0
  have rf1 : w2.frozen? ⟨w.heap.size + 1, 1, none⟩ = false := blk_frozen R2.out 1
  rw [Hza.out] at RD2 CB2 FB2 BH2
  have hcv : (convert 22 9 (.slice (some ⟨w.heap.size + 1 + 1, 0, none⟩) (su + kp) (grownCap wa (su + kp) 0 5))).run Try.prog w2 = .ok (.string (strOfNums (bytesOf C))) w2 := conv_str _ _ _ _ _ (by have h := RD2.out; rw [HCS.out] at h; exact h)
  have rb1 : w2.cell? ⟨w.heap.size + 1, 1, none⟩ = some (.int .i64 0) := (blk_cell R2.out 1).trans rfl
  by_cases ha : 0 ≤ at_
  · by_cases hak : at_ < (kp : Int)
    · obtain ⟨t, rfl⟩ := Int.eq_ofNat_of_zero_le ha
      have d0 : decide (0 ≤ (t : Int)) = true := decide_eq_true ha
      have d1 : decide ((t : Int) < (kp : Int)) = true := decide_eq_true hak
      have htk : t < kp := by omega
      obtain ⟨x, hx⟩ : ∃ x, byt (bytesOf C) (su + t) = x := ⟨_, rfl⟩
      have cb : w2.cell? ⟨w.heap.size + 1 + 1, su + t, none⟩ = some (.int .u8 x) := (CB2.out (su + t) (by rw [HCS.out]; omega)).trans (by rw [hx])
      have fb : w2.frozen? ⟨w.heap.size + 1 + 1, su + t, none⟩ = false := FB2.out (su + t) (by rw [HCS.out]; omega)
      have n1 : ((su : Int) + (t : Int)).toNat = su + t := by omega
      have p1 : (0 : Int) ≤ (su : Int) + (t : Int) := by omega
      have l1 : (su : Int) + (t : Int) < (su : Int) + (kp : Int) := by omega
      have w1 : IntKind.i64.wrap ((su : Int) + (t : Int)) = (su : Int) + (t : Int) := IntWalk.i64_in _ (by omega)
      go_wp2
      go_region
      clear cb fb n1 p1 l1 w1 rb rb1 rf0 rf1 z1 hcv
      have B4 : Hid (Below w.heap.size w (w2.setCell ⟨w.heap.size + 1 + 1, su + t, none⟩ (.int .u8 (Go.bits .xor .u8 x by_))).drew) := (B2.out.setCell (p := ⟨w.heap.size + 1 + 1, su + t, none⟩) (Nat.le_succ_of_le (Nat.le_succ _)) _).drew
      have R4 : Hid ((w2.setCell ⟨w.heap.size + 1 + 1, su + t, none⟩ (.int .u8 (Go.bits .xor .u8 x by_))).drew.heap[w.heap.size + 1]? = some (.cells #[.string ⟨#[]⟩, .int .i64 0] 55 (0, 0))) := (Below.heap_setCell w2 ⟨w.heap.size + 1 + 1, su + t, none⟩ _ (w.heap.size + 1) (by simp)).trans R2.out
      have RD4 : Hid (ReadsInt (w2.setCell ⟨w.heap.size + 1 + 1, su + t, none⟩ (.int .u8 (Go.bits .xor .u8 x by_))).drew .u8 (some ⟨w.heap.size + 1 + 1, 0, none⟩) (su + kp) (((bytesOf B).take (su + kp)).set (su + t) (Go.bits .xor .u8 x by_))) := by
        rw [← hCb]
        exact reads_set BH2.out (fun j hj => CB2.out j (by rw [HCS.out]; exact hj)) (by rw [bytesOf_length, HCS.out]) (by omega) (su + t) (by omega) _
      generalize (w2.setCell ⟨w.heap.size + 1 + 1, su + t, none⟩ (.int .u8 (Go.bits .xor .u8 x by_))).drew = w4 at B4 R4 RD4 ⊢
      have rb : w4.cell? ⟨w.heap.size + 1, 0, none⟩ = some (.string ⟨#[]⟩) := (blk_cell R4.out 0).trans rfl
      have rb1 : w4.cell? ⟨w.heap.size + 1, 1, none⟩ = some (.int .i64 0) := (blk_cell R4.out 1).trans rfl
      have rf0 : w4.frozen? ⟨w.heap.size + 1, 0, none⟩ = false := blk_frozen R4.out 0
      have rf1 : w4.frozen? ⟨w.heap.size + 1, 1, none⟩ = false := blk_frozen R4.out 1
      have hcv : (convert 22 9 (.slice (some ⟨w.heap.size + 1 + 1, 0, none⟩) (su + kp) (grownCap wa (su + kp) 0 5))).run Try.prog w4 = .ok (.string (strOfNums (((bytesOf B).take (su + kp)).set (su + t) (Go.bits .xor .u8 x by_)))) w4 := conv_str _ _ _ _ _ RD4.out
      go_wp2
      refine bodyPost_ret (results_cell_row rfl _ _ (w.heap.size + 1) 55 #[.string (strOfNums (((bytesOf B).take (su + kp)).set (su + t) (Go.bits .xor .u8 x by_))), .int .i64 ((su : Int) + (kp : Int))] (0, 0) _ rfl (by refine blk_put (cs := #[.string (strOfNums (((bytesOf B).take (su + kp)).set (su + t) (Go.bits .xor .u8 x by_))), .int .i64 0]) ?_ 1 _ rfl; refine blk_put (cs := #[.string (⟨#[]⟩ : ByteArray), .int .i64 0]) ?_ 0 _ rfl; exact R4.out) Try.underlying55 rfl (by kernel_rfl)) rfl ?_
      rw [hcast.out]
      refine ⟨?_, (B4.out.setCell (p := ⟨w.heap.size + 1, 0, none⟩) (Nat.le_succ _) _).setCell (p := ⟨w.heap.size + 1, 1, none⟩) (Nat.le_succ _) _⟩
      unfold crashed
      rw [if_pos ⟨ha, hak⟩, Int.toNat_natCast, ← hx, hCb]
      rfl
    · have d0 : decide (0 ≤ at_) = true := decide_eq_true ha
      have d1 : decide (at_ < (kp : Int)) = false := decide_eq_false hak
      go_wp2
      refine bodyPost_ret (results_cell_row rfl _ _ (w.heap.size + 1) 55 #[.string (strOfNums ((bytesOf B).take (su + kp))), .int .i64 ((su : Int) + (kp : Int))] (0, 0) _ rfl (by refine blk_put (cs := #[.string (strOfNums ((bytesOf B).take (su + kp))), .int .i64 0]) ?_ 1 _ rfl; refine blk_put (cs := #[.string (⟨#[]⟩ : ByteArray), .int .i64 0]) ?_ 0 _ rfl; exact R2.out) Try.underlying55 rfl (by kernel_rfl)) rfl ?_
      rw [hcast.out]
      refine ⟨?_, (B2.out.setCell (p := ⟨w.heap.size + 1, 0, none⟩) (Nat.le_succ _) _).setCell (p := ⟨w.heap.size + 1, 1, none⟩) (Nat.le_succ _) _⟩
      unfold crashed
      rw [if_neg (by omega)]

  · have d0 : decide (0 ≤ at_) = false := decide_eq_false ha
    go_wp2
    refine bodyPost_ret (results_cell_row rfl _ _ (w.heap.size + 1) 55 #[.string (strOfNums ((bytesOf B).take (su + kp))), .int .i64 ((su : Int) + (kp : Int))] (0, 0) _ rfl (by refine blk_put (cs := #[.string (strOfNums ((bytesOf B).take (su + kp))), .int .i64 0]) ?_ 1 _ rfl; refine blk_put (cs := #[.string (⟨#[]⟩ : ByteArray), .int .i64 0]) ?_ 0 _ rfl; exact R2.out) Try.underlying55 rfl (by kernel_rfl)) rfl ?_
    rw [hcast.out]
    refine ⟨?_, (B2.out.setCell (p := ⟨w.heap.size + 1, 0, none⟩) (Nat.le_succ _) _).setCell (p := ⟨w.heap.size + 1, 1, none⟩) (Nat.le_succ _) _⟩
    unfold crashed
    rw [if_neg (by omega)]
end Go.Proofs.Ytoegeljjfhbpeaa.J
