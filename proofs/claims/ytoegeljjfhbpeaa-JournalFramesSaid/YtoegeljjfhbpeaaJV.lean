import Derived.Test.YtoegeljjfhbpeaaJU
import Derived.Lib.SlBytesConst
set_option linter.unusedVariables false
set_option linter.unusedSimpArgs false
namespace Go.Proofs.Ytoegeljjfhbpeaa.J
open Go.RowKit Go.Proofs.YtoegeljjfhbpeaaW.PrintWords Go.Proofs.YtoegeljjfhbpeaaW.PrintLast Go.Proofs.YtoegeljjfhbpeaaW.PrintMore

theorem frame0 : frameL 0 (bytesOf { data := #[] }) = [0, 0, 0, 0, 138, 178, 40, 140] := by kernel_rfl
theorem scan0 : scanL ([0, 0, 0, 0, 138, 178, 40, 140] ++ [255]) = [([], 8)] := by kernel_rfl
theorem end0 : endOf [(([] : List Int), 8)] = 8 := rfl
theorem byt0 : Bytes ([0, 0, 0, 0, 138, 178, 40, 140] ++ [255]) := by unfold Bytes; decide
theorem Both.below {w w' : World} {base g lg : Nat} {v lv : Value} {xs : List Int} {sure : Nat} {ls : List ByteArray} {safe : Nat} (T : Both w base g lg v lv xs sure ls safe) (hb : base ≤ w.heap.size) {S : Nat → Prop} (hS : ∀ k, S k → k = g ∨ k = lg ∨ v.ownBlock = some k ∨ lv.ownBlock = some k) (h : Keeps S w w') : Below base w w' :=
  h.below hb (fun k hk => by
    rcases hS k hk with rfl | rfl | e | e
    · exact T.tape.base_le
    · exact T.log.base_le
    · exact (T.tape.row.own k e).1
    · exact (own_block T.log.row k e).1)
theorem TapeAt.below {w w' : World} {base g : Nat} {v : Value} {xs : List Int} {sure : Nat} (T : TapeAt w base g v xs sure) (hb : base ≤ w.heap.size) {S : Nat → Prop} (hS : ∀ k, S k → k = g ∨ v.ownBlock = some k) (h : Keeps S w w') : Below base w w' :=
  h.below hb (fun k hk => by
    rcases hS k hk with rfl | e
    · exact T.base_le
    · exact (T.row.own k e).1)
theorem frameA : frameL 0 (bytesOf { data := #[97] }) = [0, 0, 0, 1, 219, 19, 120, 199, 97] := by kernel_rfl
theorem frameB : frameL 1 (bytesOf { data := #[98] }) = [0, 0, 0, 1, 88, 120, 138, 199, 98] := by kernel_rfl
theorem scanA : scanL [0, 0, 0, 1, 219, 19, 120, 199, 97, 0, 0, 0] = [([97], 9)] := by kernel_rfl
theorem toldA : told [0, 0, 0, 1, 219, 19, 120, 199, 97, 0, 0, 0] = [{ data := #[97] }] := by unfold told; rw [scanA]; rfl
theorem keptA : keptOf ([0, 0, 0, 1, 219, 19, 120, 199, 97, 0, 0, 0, 1, 88, 120, 138, 199, 98] : List Int).length 9 3 = 3 := by kernel_rfl
theorem crashA : crashed [0, 0, 0, 1, 219, 19, 120, 199, 97, 0, 0, 0, 1, 88, 120, 138, 199, 98] 9 3 (-1) 0 = [0, 0, 0, 1, 219, 19, 120, 199, 97, 0, 0, 0] := by kernel_rfl
theorem strF : strOfNums [0, 0, 0, 0, 138, 178, 40, 140] = { data := #[0, 0, 0, 0, 138, 178, 40, 140] } := rfl
theorem reads_marked (w : World) (l : List Int) (hl : l.length ≤ 9223372036854775807) (t : TypeId) (fr : Nat × Nat) : ReadsInt (w.alloc (.cells (nums .u8 l).toArray t fr)) .u8 (some ⟨w.heap.size, 0, none⟩) l.length l :=
  ⟨rfl, hl, fun _ => ⟨_, rfl, fun j hj => by
    rw [add_plain, World.cell?_alloc_mark]
    simp [nums, List.getD, hj]⟩⟩
theorem reads_one (w : World) (s : ByteArray) : ReadsS (w.alloc (.cells #[.string s] 9)) (some ⟨w.heap.size, 0, none⟩) 1 [s] :=
  ⟨rfl, by decide, fun _ => ⟨_, rfl, fun j hj => by
    obtain rfl : j = 0 := by omega
    rw [add_plain, World.cell?_alloc_mark]
    rfl⟩⟩
theorem readS_own {w W : World} {base n c : Nat} {A : Option Addr} (h : w.ownsRow base 9 1 (.slice A n c) n ([([], 8)].map lineV)) (hW : Below w.heap.size w W) : ReadsS W A n [ByteArray.empty] := by
  obtain ⟨A', c', e, _, hr⟩ := own_rdS (xs := [ByteArray.empty]) h
  injection e with e1 _ _
  subst e1
  exact hr.below hW
theorem sameE : decide ([ByteArray.empty] = [({ data := #[] } : ByteArray)]) = true := rfl
theorem sameA : decide ([({ data := #[97] } : ByteArray)] = [({ data := #[97] } : ByteArray)]) = true := rfl
theorem sum9 : sumOf [49, 50, 51, 52, 53, 54, 55, 56, 57] = 3808858755 := by kernel_rfl
set_option maxHeartbeats 4000000 in
theorem lives_any (w : World) : Calls Try.prog 14 #[] w fun e w' => e = .returned (.bool true) ∧ Below w.heap.size w w' := by
  have F0 := frame_any 0 { data := #[] } w (by omega) (by omega) (by decide)
  rw [frame0] at F0
  have HF0 := Lib.hid F0
  clear F0
  have kc := fun (w : World) (C : Array Value) (n c : Nat) => Lib.run_convert_bytes_const (P := Try.prog) w 22 5 C n c Try.underlying22 Try.underlying5
  go_enter Try.func14, Try.ntmps14
  go_wp2_with (first | (go_at_call 10; refine HF0.out.mono ?_; rintro e w1 ⟨fv, rfl, ho, hb⟩; have O1 := Lib.hid ho; obtain ⟨Af, cf, rfl, hcf, hrf⟩ := own_rd ho; have R1 := Lib.hid hrf; have B1 := Lib.hid hb; clear ho hb hrf) | (at_builtin; refine print_append_row (w0 := w1) w1.heap.size rfl (.tmp 17) (.tmp 18) 22 5 .u8 1 rfl Try.underlying22 info5 (by omega) _ [] [0, 0, 0, 0, 138, 178, 40, 140] Af 8 cf rfl rfl (World.ownsRow_made w1 #[] 0 (Nat.le_refl _) (Nat.zero_le _) (by simp)) (R1.out.below ((Below.refl _ _).alloc (Nat.le_refl _) _)) ((Below.refl _ _).alloc (Nat.le_refl _) _) (by simp) (by decide) ?_; rintro v2 w2 hown2 hb2 hg2 hat2; have O2 := Lib.hid hown2; have B2 := Lib.hid hb2; clear hown2 hb2 hg2 hat2) | (at_builtin; refine print_append_num (w0 := w2) w1.heap.size rfl (.tmp 19) (.tmp 20) 22 5 .u8 1 rfl Try.underlying22 info5 (by omega) _ [0, 0, 0, 0, 138, 178, 40, 140] 255 rfl rfl O2.out (Below.refl _ _) B2.out.size (by decide) ?_; rintro v3 w3 hown3 hb3 hg3 hat3; have O3 := Lib.hid hown3; have B3 := Lib.hid hb3; clear hown3 hb3 hg3 hat3; obtain ⟨A3, c3, rfl, hc3, hr3⟩ := own_rd O3.out; have R3 := Lib.hid hr3; clear hr3) | (go_at_call 15; refine (scan_any A3 9 c3 ([0, 0, 0, 0, 138, 178, 40, 140] ++ [255]) w3 byt0 R3.out hc3 (by decide)).mono ?_; rw [scan0, end0]; rintro e w4 ⟨lv, rfl, ho4, hb4⟩; obtain ⟨A4, c4, rfl, hc4⟩ := own_sl ho4; have O4 := Lib.hid ho4; have rdS4 : Hid (∀ W, Below w4.heap.size w4 W → ReadsS W A4 1 [ByteArray.empty]) := fun W hW => readS_own O4.out hW; have B4 : Hid (Below w1.heap.size w1 w4) := (B2.out.trans B3.out).trans (hb4.mono (Nat.le_trans B2.out.size B3.out.size)); clear ho4 hb4) | (go_at_call 20; refine (newTape_any w4).mono ?_; rintro e w5 ⟨rfl, rfl⟩; have T5 := Lib.hid (TapeAt.new w4 w4.heap.size (Nat.le_refl _)); have B5 : Hid (Below w4.heap.size w4 (w4.alloc (.cells #[.bool true, .slice none 0 0, .int .i64 0] 66))) := (Below.refl _ _).alloc (Nat.le_refl _) _; generalize w4.alloc (.cells #[.bool true, .slice none 0 0, .int .i64 0] 66) = w5 at T5 B5 ⊢) | (go_at_call 21; refine (open_any T5.out (by decide) B5.out.size).mono ?_; rintro e w6 ⟨lg, lv6, v6, rfl, t6, l6, k6, hlg6, hv6, hlv6⟩; have T6 : Hid (Both w6 w4.heap.size w4.heap.size lg v6 lv6 [] 0 [] 0) := ⟨t6, l6⟩; have B6 := Lib.hid (B5.out.trans (T5.out.below B5.out.size (fun _ h => .inl h) k6)); clear t6 l6 k6 hv6 hlv6 T5) | (go_at_call 23; refine (add_any T6.out { data := #[97] } B6.out.size (by decide) (by decide) (by decide)).mono ?_; rintro e w7 ⟨rfl, v7, lv7, t7, k7, _, _⟩; have T7 : Hid (Both w7 w4.heap.size w4.heap.size lg v7 lv7 [0, 0, 0, 1, 219, 19, 120, 199, 97] 0 [{ data := #[97] }] 0) := by { have h : Both w7 w4.heap.size w4.heap.size lg v7 lv7 (frameL 0 (bytesOf { data := #[97] })) 0 [{ data := #[97] }] 0 := t7; rw [frameA] at h; exact h }; have B7 := Lib.hid (B6.out.trans (T6.out.below B6.out.size (fun _ h => h) k7)); clear t7 k7 T6) | (go_at_call 22; refine (logSync_any T7.out).mono ?_; rintro e w8 ⟨rfl, t8, k8⟩; have T8 : Hid (Both w8 w4.heap.size w4.heap.size lg v7 lv7 [0, 0, 0, 1, 219, 19, 120, 199, 97] 9 [{ data := #[97] }] 1) := t8; have B8 := Lib.hid (B7.out.trans (T7.out.below B7.out.size (fun k h => h.elim .inl (fun h => .inr (.inl h))) k8)); clear t8 k8 T7) | (go_at_call 23; refine (add_any T8.out { data := #[98] } B8.out.size (by decide) (by decide) (by decide)).mono ?_; rintro e w9 ⟨rfl, v9, lv9, t9, k9, _, _⟩; have T9 : Hid (TapeAt w9 w4.heap.size w4.heap.size v9 [0, 0, 0, 1, 219, 19, 120, 199, 97, 0, 0, 0, 1, 88, 120, 138, 199, 98] 9) := by { have h : TapeAt w9 w4.heap.size w4.heap.size v9 ([0, 0, 0, 1, 219, 19, 120, 199, 97] ++ frameL 1 (bytesOf { data := #[98] })) 9 := t9.tape; rw [frameB] at h; exact h }; have B9 := Lib.hid (B8.out.trans (T8.out.below B8.out.size (fun _ h => h) k9)); clear t9 k9 T8) | (go_at_call 24; refine (crash_any T9.out (by decide) B9.out.size 3 (-1) 0 (by decide) (by decide) (by decide)).mono ?_; rintro e w10 ⟨rfl, v10, t10, k10, _⟩; have T10 : Hid (TapeAt w10 w4.heap.size w4.heap.size v10 [0, 0, 0, 1, 219, 19, 120, 199, 97, 0, 0, 0] 12) := by { rw [keptA, crashA] at t10; exact t10 }; have B10 := Lib.hid (B9.out.trans (T9.out.below B9.out.size (fun _ h => .inl h) k10)); clear t10 k10 T9) | (go_at_call 21; refine (open_any T10.out (by decide) B10.out.size).mono ?_; rintro e w11 ⟨lgy, lv11, v11, rfl, t11, l11, k11, hlg11, hv11, hlv11⟩; have L11 : Hid (LogAt w11 w4.heap.size lgy w4.heap.size lv11 [{ data := #[97] }] 1) := by { have h := l11; rw [toldA] at h; exact h }; have B11 := Lib.hid (B10.out.trans (T10.out.below B10.out.size (fun _ h => .inl h) k11)); clear t11 l11 k11 hv11 hlv11 T10) | (go_at_call 12; refine (Sum_any (some ⟨w11.heap.size, 0, none⟩) 9 9 [49, 50, 51, 52, 53, 54, 55, 56, 57] _ rfl (reads_marked w11 [49, 50, 51, 52, 53, 54, 55, 56, 57] (by decide) 5 (9, 10)) (by decide) (by decide)).mono ?_; rw [sum9]; rintro e w12 ⟨rfl, hb12⟩; have B1112 : Hid (Below w11.heap.size w11 w12) := ((Below.refl _ w11).alloc (Nat.le_refl _) _).trans (hb12.mono (by rw [World.size_alloc]; exact Nat.le_succ _)); have B12 : Hid (Below w4.heap.size w4 w12) := (B11.out.alloc B11.out.size _).trans (hb12.mono (by rw [World.size_alloc]; exact Nat.le_succ_of_le B11.out.size)); have hcv : (convert 22 9 (.slice Af 8 cf)).run Try.prog w12 = .ok (.string { data := #[0, 0, 0, 0, 138, 178, 40, 140] }) w12 := by { rw [← strF]; exact conv_str _ _ _ _ _ (R1.out.below (B4.out.trans (B12.out.mono B4.out.size))) }; clear hb12) | (go_at_call 17; refine (same_any A4 1 c4 [ByteArray.empty] (some ⟨w12.heap.size, 0, none⟩) 1 1 [{ data := #[] }] _ (rdS4.out _ (B12.out.alloc B12.out.size _)) hc4 (reads_one w12 { data := #[] }) (Nat.le_refl _) (by decide)).mono ?_; rw [sameE]; rintro e w13 ⟨rfl, hb13⟩; have B13 : Hid (Below w4.heap.size w4 w13) := (B12.out.alloc B12.out.size _).trans (hb13.mono (by rw [World.size_alloc]; exact Nat.le_succ_of_le B12.out.size)); have L13 : Hid (LogAt w13 w4.heap.size lgy w4.heap.size lv11 [{ data := #[97] }] 1) := L11.out.kept (Keeps.of_below (S := fun _ => False) (((B1112.out.alloc B1112.out.size _)).trans (hb13.mono (by rw [World.size_alloc]; exact Nat.le_succ_of_le B1112.out.size)))) (fun h => h) (fun _ _ h => h); clear hcv rdS4 hb13) | (go_at_call 25; refine (lines_any L13.out (by decide)).mono ?_; rintro e w14 ⟨lv14, rfl, ho14, hb14⟩; obtain ⟨A14, c14, rfl, hc14, hr14⟩ := own_rdS ho14; have R14 := Lib.hid hr14; have B14 : Hid (Below w4.heap.size w4 w14) := B13.out.trans (hb14.mono B13.out.size); clear ho14 hb14 hr14) | (go_at_call 17; refine (same_any A14 1 c14 [{ data := #[97] }] (some ⟨w14.heap.size, 0, none⟩) 1 1 [{ data := #[97] }] _ (R14.out.below ((Below.refl _ w14).alloc (Nat.le_refl _) _)) hc14 (reads_one w14 { data := #[97] }) (Nat.le_refl _) (by decide)).mono ?_; rw [sameA]; rintro e w15 ⟨rfl, hb15⟩; have B15 : Hid (Below w4.heap.size w4 w15) := (B14.out.alloc B14.out.size _).trans (hb15.mono (by rw [World.size_alloc]; exact Nat.le_succ_of_le B14.out.size)); clear hb15))
  go_ret
  exact ⟨rfl, B1.out.trans ((B4.out.trans (B15.out.mono B4.out.size)).mono B1.out.size)⟩
end Go.Proofs.Ytoegeljjfhbpeaa.J
