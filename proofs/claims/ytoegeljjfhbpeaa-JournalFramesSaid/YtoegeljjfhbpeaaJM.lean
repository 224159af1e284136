import Derived.Test.YtoegeljjfhbpeaaJL
set_option linter.unusedVariables false
set_option linter.unusedSimpArgs false
namespace Go.Proofs.Ytoegeljjfhbpeaa.J
open Go.RowKit Go.Proofs.YtoegeljjfhbpeaaW.PrintWords Go.Proofs.YtoegeljjfhbpeaaW.PrintLast Go.Proofs.YtoegeljjfhbpeaaW.PrintMore

theorem TRow.set {w : World} {base g n c : Nat} {xs : List Int} (h : TRow w base (.slice (some ⟨g, 0, none⟩) n c) xs) (j : Nat) (y : Int) : TRow (w.setCell ⟨g, j, none⟩ (.int .u8 y)) base (.slice (some ⟨g, 0, none⟩) n c) (xs.set j y) := by
  rcases h with ⟨e, _⟩ | ⟨g', cap, cur, e, hb, hh, hnc, hcs, hcm, ht⟩
  · cases e
  · injection e with e1 e2 e3
    injection e1 with e1
    injection e1 with e1
    subst e1 e2 e3
    refine .inr ⟨g, c, cur.setIfInBounds j (.int .u8 y), by rw [List.length_set], hb, blk_set hh j _, by rw [List.length_set]; exact hnc, by rw [Array.size_setIfInBounds]; exact hcs, hcm, ?_⟩
    rw [Array.toList_setIfInBounds, List.length_set, List.take_set, ht]
    simp [nums, List.map_set]
theorem xor_byte (x y : Int) : 0 ≤ Go.bits .xor .u8 x y ∧ Go.bits .xor .u8 x y ≤ 255 := by
  show 0 ≤ IntKind.u8.wrap _ ∧ IntKind.u8.wrap _ ≤ 255
  rw [IntKind.wrap_u8]
  omega
theorem Bytes.set {l : List Int} (h : Bytes l) (j : Nat) {y : Int} (hy : 0 ≤ y ∧ y ≤ 255) : Bytes (l.set j y) := fun x hx => by
  rcases List.mem_or_eq_of_mem_set hx with hx | rfl
  · exact h x hx
  · exact hy
/-- what a crash leaves of a tape's bytes: kp loose ones, one of them turned -/
def crashed (xs : List Int) (sure kp : Nat) (at_ by_ : Int) : List Int :=
  if 0 ≤ at_ ∧ at_ < (kp : Int) then (xs.take (sure + kp)).set (sure + at_.toNat) (Go.bits .xor .u8 ((xs.take (sure + kp)).getD (sure + at_.toNat) 0) by_) else xs.take (sure + kp)
def keptOf (len sure : Nat) (keep : Int) : Nat := (max 0 (min keep ((len : Int) - (sure : Int)))).toNat
set_option maxHeartbeats 2000000 in
theorem crash_any {w : World} {base g : Nat} {v : Value} {xs : List Int} {sure : Nat} (T : TapeAt w base g v xs sure) (hm : xs.length ≤ 140737488355328) (hbase : base ≤ w.heap.size) (keep at_ by_ : Int) (hk0 : -9223372036854775808 ≤ keep) (hk1 : keep ≤ 9223372036854775807) (hy : 0 ≤ by_ ∧ by_ ≤ 255) :
    Calls Try.prog 24 #[.pointer (some ⟨g, 0, none⟩), .int .i64 keep, .int .i64 at_, .int .u8 by_] w fun e w' => e = .returned (.tuple #[]) ∧ ∃ v', TapeAt w' base g v' (crashed xs sure (keptOf xs.length sure keep) at_ by_) (sure + keptOf xs.length sure keep) ∧ Keeps (fun k => k = g) w w' ∧ (∀ k, v'.ownBlock = some k → w.heap.size ≤ k) := by
  obtain ⟨A0, c0, rfl, hc0, hr⟩ := T.row.reads
  have z0 : w.cell? ⟨g, 0, none⟩ = some (.bool true) := by rw [blk_cell T.blk]; rfl
  have z1 : w.cell? ⟨g, 1, none⟩ = some (.slice A0 xs.length c0) := by rw [blk_cell T.blk]; rfl
  have z2 : w.cell? ⟨g, 2, none⟩ = some (.int .i64 (sure : Int)) := by rw [blk_cell T.blk]; rfl
  have hs := T.sure_le
  have HT := Lib.hid T
  have HRR := Lib.hid hr
  clear T hr
  go_enter Try.func24, Try.ntmps24
  go_wp2_with (first | (go_at_call 41; refine (is_yes g _ z0).mono ?_; rintro e w' ⟨rfl, rfl⟩))
  have hw : IntKind.i64.wrap ((xs.length : Int) - (sure : Int)) = (xs.length : Int) - (sure : Int) := IntWalk.i64_in _ (by omega)
  go_quiet (fail)
  clear hw
  obtain ⟨mn, hmn⟩ : ∃ mn : Int, (if (xs.length : Int) - (sure : Int) < keep then (xs.length : Int) - (sure : Int) else keep) = mn := ⟨_, rfl⟩
  rw [hmn]
  obtain ⟨kp, hkp⟩ : ∃ kp : Nat, (if 0 < mn then mn else 0) = (kp : Int) := ⟨(if 0 < mn then mn else 0).toNat, by split <;> omega⟩
  rw [hkp]
  have hkl : kp ≤ xs.length - sure := by
    have h1 := hmn
    have h2 := hkp
    split at h1 <;> split at h2 <;> omega
  have HMN := Lib.hid hmn
  have HKP := Lib.hid hkp
  clear hmn hkp
  obtain ⟨wq, hwq⟩ : ∃ wq, w.drewN nq = wq := ⟨_, rfl⟩
  have HKq : Hid (Keeps (fun k => k = g) w wq) := by rw [← hwq]; exact (Keeps.refl _ _).drewN nq
  have HRq : Hid (ReadsInt wq .u8 A0 xs.length xs) := by rw [← hwq]; exact HRR.out.below (pw_below_drewN (Below.refl _ _) nq)
  have HBq : Hid (wq.heap[g]? = some (.cells #[.bool true, .slice A0 xs.length c0, .int .i64 (sure : Int)] 66 (0, 0))) := by rw [← hwq]; exact HT.out.blk
  have z1 : wq.cell? ⟨g, 1, none⟩ = some (.slice A0 xs.length c0) := by rw [← hwq]; exact z1
  have z2 : wq.cell? ⟨g, 2, none⟩ = some (.int .i64 (sure : Int)) := by rw [← hwq]; exact z2
  rw [hwq]
  clear hwq
  go_wp2
  have hn : sure + kp ≤ xs.length := by omega
  obtain ⟨i0, hi, hz0, hz1, hz2⟩ := info_parts info5
  have hcut : ∀ W : World, (Instr.slice 22 (.slice A0 xs.length c0) none (some (.int .i64 ((sure : Int) + (kp : Int)))) none).run Try.prog W = .ok (.slice A0 (sure + kp) c0) W := fun W => by
    have h := cut_to (P := Try.prog) 22 5 .i64 Try.underlying22 hi A0 xs.length c0 ((sure : Int) + (kp : Int)) (by omega) (by omega) hc0 W
    rw [show ((sure : Int) + (kp : Int)).toNat = sure + kp by omega] at h
    exact h
  have hR : Hid (ReadsInt wq.drew .u8 A0 (sure + kp) (xs.take (sure + kp))) := by
    have h2 : ReadsInt wq .u8 A0 xs.length xs := HRq.out
    exact ReadsOf.take_ (enc := Value.int .u8) (d := 0) h2 (sure + kp) hn
  have hN : Hid (sure + kp ≤ 140737488355328) := by show _ ≤ _; omega
  have hBq : Hid (wq.heap[g]? = some (.cells #[.bool true, .slice A0 xs.length c0, .int .i64 (sure : Int)] 66 (0, 0))) := HBq.out
  have hlt : Hid (g < wq.heap.size) := blk_lt hBq.out
  have hw : IntKind.i64.wrap ((sure : Int) + (kp : Int)) = (sure : Int) + (kp : Int) := IntWalk.i64_in _ (by omega)
  go_region_with (go_at_call 43; refine (clone_any A0 (sure + kp) c0 (xs.take (sure + kp)) _ hR.out hN.out).mono ?_; rintro e w2 ⟨v2, rfl, hown2, hb2⟩; have B2 : Hid (Below wq.heap.size wq w2) := ((Below.refl _ wq).drew).trans hb2; have O2 := Lib.hid hown2; obtain ⟨A2, c2, rfl, _, _⟩ := own_rd hown2; have G2 : Hid (w2.heap[g]? = some (.cells #[.bool true, .slice A0 xs.length c0, .int .i64 (sure : Int)] 66 (0, 0))) := (B2.out.block g hlt.out).trans hBq.out; have y1 : w2.cell? ⟨g, 1, none⟩ = some (.slice A0 xs.length c0) := (blk_cell G2.out 1).trans rfl; have f1 : w2.frozen? ⟨g, 1, none⟩ = false := blk_frozen G2.out 1; clear hown2 hb2)
  all_goals
    have HKK : Hid (keptOf xs.length sure keep = kp) := by
      show _ = _
      have h1 := HMN.out
      have h2 := HKP.out
      unfold keptOf
      split at h1 <;> split at h2 <;> omega
    have hrow2 : Hid (TRow w2 base (.slice A2 (sure + kp) c2) (xs.take (sure + kp))) := by
      have e : (xs.take (sure + kp)).length = sure + kp := by rw [List.length_take]; omega
      have h := own_weaken O2.out (base' := base) (Nat.le_trans hbase HKq.out.size)
      refine TRow.of_own ?_
      rw [e]
      exact h
    have hnew : Hid (∀ k, (Value.slice A2 (sure + kp) c2).ownBlock = some k → w.heap.size ≤ k) := fun k e => Nat.le_trans HKq.out.size (own_base O2.out k e)
    have hlen2 : Hid ((xs.take (sure + kp)).length = sure + kp) := by show _ = _; rw [List.length_take]; omega
    have T3 : Hid (TapeAt (w2.setCell ⟨g, 1, none⟩ (.slice A2 (sure + kp) c2)) base g (.slice A2 (sure + kp) c2) (xs.take (sure + kp)) sure) := TapeAt.put1 G2.out HT.out.base_le hrow2.out (by rw [hlen2.out]; omega) (HT.out.bytes.take _)
    have K3 : Hid (Keeps (fun k => k = g) w (w2.setCell ⟨g, 1, none⟩ (.slice A2 (sure + kp) c2))) := (HKq.out.trans (Keeps.of_below B2.out)).setCell (p := ⟨g, 1, none⟩) rfl _
    generalize w2.setCell ⟨g, 1, none⟩ (.slice A2 (sure + kp) c2) = w3 at T3 K3 ⊢
    clear hw hcut y1 f1 z1 z2
    have z1 : w3.cell? ⟨g, 1, none⟩ = some (.slice A2 (sure + kp) c2) := (blk_cell T3.out.blk 1).trans rfl
    have z2 : w3.cell? ⟨g, 2, none⟩ = some (.int .i64 (sure : Int)) := (blk_cell T3.out.blk 2).trans rfl
    have f2 : w3.frozen? ⟨g, 2, none⟩ = false := blk_frozen T3.out.blk 2
    have hcast : Hid ((sure : Int) + (kp : Int) = ((sure + kp : Nat) : Int)) := by show _ = _; omega
    by_cases ha : 0 ≤ at_
    · by_cases hak : at_ < (kp : Int)
      · obtain ⟨t, rfl⟩ := Int.eq_ofNat_of_zero_le ha
        have d1 : decide ((t : Int) < (kp : Int)) = true := by simpa using hak
        have htk : t < kp := by omega
        obtain ⟨g2, hA2, hh2⟩ : ∃ g2, A2 = some ⟨g2, 0, none⟩ ∧ ∃ cur, w3.heap[g2]? = some (.cells cur 5 (0, 0)) ∧ sure + kp ≤ cur.size ∧ cur.toList.take (sure + kp) = nums .u8 (xs.take (sure + kp)) := by
          rcases T3.out.row with ⟨e, h0⟩ | ⟨g2, cap, cur, e, _, hh, hnc, hcs, _, ht⟩
          · have := hlen2.out
            rw [h0] at this
            simp at this
            omega
          · injection e with e1 e2
            rw [hlen2.out] at ht hnc
            exact ⟨g2, e1, cur, hh, by omega, ht⟩
        subst hA2
        obtain ⟨cur, hh2, hcs2, htk2⟩ := hh2
        have hjl : Hid (sure + t < (xs.take (sure + kp)).length) := by show _ < _; rw [hlen2.out]; omega
        obtain ⟨x, hx⟩ : ∃ x, (xs.take (sure + kp)).getD (sure + t) 0 = x := ⟨_, rfl⟩
        have cb : w3.cell? ⟨g2, sure + t, none⟩ = some (.int .u8 x) := by
          rw [cell_of_row w3 g2 (sure + t) cur 5 (0, 0) hh2, ← Array.getElem?_toList]
          have h1 : (cur.toList.take (sure + kp))[sure + t]? = (nums .u8 (xs.take (sure + kp)))[sure + t]? := by rw [htk2]
          rw [List.getElem?_take, if_pos (by omega)] at h1
          rw [h1, ← hx]
          have := hjl.out
          rw [hlen2.out] at this
          simp [nums, List.getD, List.getElem?_take, show t < kp by omega]
          have h2 : sure + t < xs.length := by omega
          simp [h2]
        have fb : w3.frozen? ⟨g2, sure + t, none⟩ = false := blk_frozen hh2 _
        have hne : ¬ g2 = g := by
          rintro rfl
          have h1 := T3.out.blk
          rw [hh2] at h1
          cases h1
        have hne' : ¬ g = g2 := fun e => hne e.symm
        have HX := Lib.hid hx
        have HH2 := Lib.hid hh2
        clear hx hh2 hcs2 htk2
        have HTK := Lib.hid htk
        clear htk
        go_wp2
        have n1 : ((sure : Int) + (t : Int)).toNat = sure + t := by omega
        have p1 : (0 : Int) ≤ (sure : Int) + (t : Int) := by omega
        have l1 : (sure : Int) + (t : Int) < (sure : Int) + (kp : Int) := by have := HTK.out; omega
        have w1 : IntKind.i64.wrap ((sure : Int) + (t : Int)) = (sure : Int) + (t : Int) := IntWalk.i64_in _ (by have := HTK.out; omega)
        go_region
        clear w1 n1 p1 l1 cb fb
        have hT4 : Hid (TapeAt (w3.setCell ⟨g2, sure + t, none⟩ (.int .u8 (Go.bits .xor .u8 x by_))).drew base g (.slice (some ⟨g2, 0, none⟩) (sure + kp) c2) ((xs.take (sure + kp)).set (sure + t) (Go.bits .xor .u8 x by_)) sure) :=
          ⟨(Below.heap_setCell w3 ⟨g2, sure + t, none⟩ _ g hne').trans T3.out.blk, T3.out.base_le, T3.out.row.set (sure + t) _, by rw [List.length_set]; exact T3.out.sure_le, T3.out.bytes.set _ (xor_byte _ _)⟩
        have hK4 : Hid (Keeps (fun k => k = g) w (w3.setCell ⟨g2, sure + t, none⟩ (.int .u8 (Go.bits .xor .u8 x by_))).drew) :=
          (K3.out.trans' (S' := fun k => k = g2) ((Keeps.refl (fun k => k = g2) _).setCell (p := ⟨g2, sure + t, none⟩) rfl _) (fun i hi e => absurd (hnew.out g2 (by simp [Value.ownBlock])) (by subst e; omega))).drew
        generalize (w3.setCell ⟨g2, sure + t, none⟩ (.int .u8 (Go.bits .xor .u8 x by_))).drew = w4 at hT4 hK4 ⊢
        clear z1 z2 f2 hne hne'
        have z1 : w4.cell? ⟨g, 1, none⟩ = some (.slice (some ⟨g2, 0, none⟩) (sure + kp) c2) := (blk_cell hT4.out.blk 1).trans rfl
        have z2 : w4.cell? ⟨g, 2, none⟩ = some (.int .i64 (sure : Int)) := (blk_cell hT4.out.blk 2).trans rfl
        have f2 : w4.frozen? ⟨g, 2, none⟩ = false := blk_frozen hT4.out.blk 2
        go_wp2
        go_end0
        rw [hcast.out]
        refine ⟨rfl, .slice (some ⟨g2, 0, none⟩) (sure + kp) c2, ?_, hK4.out.setCell (p := ⟨g, 2, none⟩) rfl _, hnew.out⟩
        rw [HKK.out]
        have hcr : crashed xs sure kp (t : Int) by_ = (xs.take (sure + kp)).set (sure + t) (Go.bits .xor .u8 x by_) := by
          unfold crashed
          rw [if_pos ⟨by omega, by have := HTK.out; omega⟩, Int.toNat_natCast, HX.out]
        rw [hcr]
        exact TapeAt.put2 hT4.out.blk HT.out.base_le hT4.out.row (by rw [List.length_set, hlen2.out]; exact Nat.le_refl _) hT4.out.bytes
      · have d1 : decide (at_ < (kp : Int)) = false := by simp; omega
        have d0 : decide (0 ≤ at_) = true := by simp; omega
        go_wp2
        go_end0
        rw [hcast.out]
        refine ⟨rfl, .slice A2 (sure + kp) c2, ?_, K3.out.setCell (p := ⟨g, 2, none⟩) rfl _, hnew.out⟩
        rw [HKK.out]
        unfold crashed
        rw [if_neg (by omega)]
        exact TapeAt.put2 T3.out.blk HT.out.base_le T3.out.row (by rw [hlen2.out]; exact Nat.le_refl _) T3.out.bytes
    · have d0 : decide (0 ≤ at_) = false := by simp; omega
      go_wp2
      go_end0
      rw [hcast.out]
      refine ⟨rfl, .slice A2 (sure + kp) c2, ?_, K3.out.setCell (p := ⟨g, 2, none⟩) rfl _, hnew.out⟩
      rw [HKK.out]
      unfold crashed
      rw [if_neg (by omega)]
      exact TapeAt.put2 T3.out.blk HT.out.base_le T3.out.row (by rw [hlen2.out]; exact Nat.le_refl _) T3.out.bytes
end Go.Proofs.Ytoegeljjfhbpeaa.J
