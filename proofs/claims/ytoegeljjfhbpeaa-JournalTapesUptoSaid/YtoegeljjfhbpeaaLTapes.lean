/- JournalTapes: for any bytes, a mebibyte at most, and any numbers the call returns true, and nothing that lay there is turned. -/
import Derived.Test.YtoegeljjfhbpeaaJT2
import Derived.Test.YtoegeljjfhbpeaaJW
set_option linter.unusedVariables false
set_option linter.unusedSimpArgs false
namespace Go.Proofs.Ytoegeljjfhbpeaa.J
open Go.RowKit Go.Proofs.YtoegeljjfhbpeaaW.PrintWords Go.Proofs.YtoegeljjfhbpeaaW.PrintLast Go.Proofs.YtoegeljjfhbpeaaW.PrintMore
theorem wfb {a : Int} (h : (Lit.int .u8 a).wf = true) : 0 ≤ a ∧ a ≤ 255 := by
  simp [Lit.wf, IntKind.min, IntKind.max, IntKind.bits, IntKind.signed] at h
  omega
theorem wfi {a : Int} (h : (Lit.int .i64 a).wf = true) : -9223372036854775808 ≤ a ∧ a ≤ 9223372036854775807 := by
  simp [Lit.wf, IntKind.min, IntKind.max, IntKind.bits, IntKind.signed] at h
  omega
theorem bytes_wf {l : List Int} (h : ∀ n ∈ l, (Lit.int .u8 n).wf = true) : Bytes l := fun x hx => wfb (h x hx)
set_option maxHeartbeats 8000000 in
theorem tapes_any (A A1 : Option Addr) (len cap len1 cap1 : Nat) (xs ys : List Int) (cut keep at_ by_ : Int) (w : World) (hbx : Bytes xs) (hby : Bytes ys) (hRx : ReadsInt w .u8 A len xs) (hRy : ReadsInt w .u8 A1 len1 ys) (hm : len ≤ 1048576) (hm1 : len1 ≤ 1048576)
    (hk0 : -9223372036854775808 ≤ keep) (hk1 : keep ≤ 9223372036854775807) (hyy : 0 ≤ by_ ∧ by_ ≤ 255) :
    Calls Try.prog 8 #[.slice A len cap, .slice A1 len1 cap1, .int .i64 cut, .int .i64 keep, .int .i64 at_, .int .u8 by_] w fun e w' => e = .returned (.bool true) ∧ Below w.heap.size w w' := by
  have hl := hRx.1
  subst hl
  have hl1 := hRy.1
  subst hl1
  have HX := Lib.hid hRx
  have HY := Lib.hid hRy
  have HBX := Lib.hid hbx
  have HBY := Lib.hid hby
  have HM := Lib.hid hm
  have HM1 := Lib.hid hm1
  have hu55 := Try.underlying55
  obtain ⟨X, hX⟩ : ∃ X, xs ++ ys = X := ⟨_, rfl⟩
  have HXE := Lib.hid hX
  have HXB : Hid (Bytes X) := by rw [← hX]; exact hbx.append hby
  have HXL : Hid (X.length ≤ 2097152) := by show _ ≤ _; rw [← hX, List.length_append]; omega
  have HXS : Hid (xs.length ≤ X.length) := by show _ ≤ _; rw [← hX, List.length_append]; omega
  obtain ⟨e0, Z, z, hcut⟩ : ∃ e0 Z z, cutOf X xs.length cut = (e0, Z, z) := ⟨_, _, _, rfl⟩
  have HCUT := Lib.hid hcut
  obtain ⟨hz1, hz2, hz3⟩ := cutOf_facts cut HXS.out HXB.out
  rw [hcut] at hz1 hz2 hz3
  have HZ1 : Hid (z ≤ Z.length) := hz1
  have HZ2 : Hid (Z.length ≤ X.length) := hz2
  have HZ3 : Hid (Bytes Z) := hz3
  clear hRx hRy hbx hby hm hm1 hX hcut hz1 hz2 hz3
  go_enter Try.func8, Try.ntmps8
  go_upto_region 4 with (go_at_call 20; refine (newTape_any w).mono ?_; rintro e w1 ⟨rfl, rfl⟩; have T1 := Lib.hid (TapeAt.new w w.heap.size (Nat.le_refl _)); have B1 : Hid (Below w.heap.size w (w.alloc (.cells #[.bool true, .slice none 0 0, .int .i64 0] 66))) := (Below.refl _ w).alloc (Nat.le_refl _) _; have S1 : Hid ((w.alloc (.cells #[.bool true, .slice none 0 0, .int .i64 0] 66)).heap.size = w.heap.size + 1) := World.size_alloc _ _; generalize w.alloc (.cells #[.bool true, .slice none 0 0, .int .i64 0] 66) = w1 at T1 B1 S1 ⊢)
  have T2 : Hid (TapeAt (w1.alloc (.cells #[.string ⟨#[]⟩, .int .i64 0] 55)) w.heap.size w.heap.size (.slice none 0 0) [] 0) := T1.out.kept ((Keeps.refl (fun _ => False) w1).alloc _) (fun h => h) (fun _ _ h => h)
  have M2 : Hid ((w1.alloc (.cells #[.string ⟨#[]⟩, .int .i64 0] 55)).heap[w1.heap.size]? = some (.cells #[.string ⟨#[]⟩, .int .i64 0] 55 (0, 0))) := heap_alloc_new w1 _
  have B2 : Hid (Below w.heap.size w (w1.alloc (.cells #[.string ⟨#[]⟩, .int .i64 0] 55))) := B1.out.alloc B1.out.size _
  have HMB : Hid (w.heap.size ≤ w1.heap.size) := B1.out.size
  generalize w1.alloc (.cells #[.string ⟨#[]⟩, .int .i64 0] 55) = w2 at T2 M2 B2 ⊢
  obtain ⟨mb, hmb⟩ : ∃ mb, w1.heap.size = mb := ⟨_, rfl⟩
  obtain ⟨g, hg⟩ : ∃ g, w.heap.size = g := ⟨_, rfl⟩
  rw [hmb] at M2 HMB ⊢
  have HG := Lib.hid hg
  clear T1 B1 S1 hmb hg
  go_upto_region 7 with (first | (go_at_call 27; refine (append_any T2.out A xs.length cap xs (HX.out.below B2.out) HBX.out (by have := HM.out; simp; omega) B2.out.size).mono ?_; rintro e w3 ⟨rfl, v3, t3, k3, _⟩; have T3 : Hid (TapeAt w3 w.heap.size w.heap.size v3 xs 0) := t3; have M3 := Lib.hid (box_kept T2.out M2.out k3 (fun k h => h)); have B3 := Lib.hid (B2.out.trans (T2.out.below B2.out.size (fun k h => h) k3)); clear t3 k3 T2 M2) | (go_at_call 28; refine (sync_any T3.out).mono ?_; rintro e w4 ⟨rfl, t4, k4⟩; have T4 := Lib.hid t4; have M4 := Lib.hid (box_kept T3.out M3.out k4 (fun k h => .inl h)); have B4 := Lib.hid (B3.out.trans (T3.out.below B3.out.size (fun k h => .inl h) k4)); clear t4 k4 T3 M3) | (go_at_call 27; refine (append_any T4.out A1 ys.length cap1 ys (HY.out.below B4.out) HBY.out (by have := HM.out; have := HM1.out; omega) B4.out.size).mono ?_; rintro e w5 ⟨rfl, v5, t5, k5, _⟩; rw [HXE.out] at t5; have T5 := Lib.hid t5; have M5 := Lib.hid (box_kept T4.out M4.out k5 (fun k h => h)); have B5 := Lib.hid (B4.out.trans (T4.out.below B4.out.size (fun k h => h) k5)); clear t5 k5 T4 M4))
  have CX : Hid (∀ W, Below w.heap.size w W → (convert 22 9 (.slice A xs.length cap)).run Try.prog W = .ok (.string (strOfNums xs)) W) := fun W hW => conv_str _ _ _ _ _ (HX.out.below hW)
  have CY : Hid (∀ W, Below w.heap.size w W → (convert 22 9 (.slice A1 ys.length cap1)).run Try.prog W = .ok (.string (strOfNums ys)) W) := fun W hW => conv_str _ _ _ _ _ (HY.out.below hW)
  have M5d : Hid (w5.drew.heap[mb]? = some (.cells #[.string ⟨#[]⟩, .int .i64 0] 55 (0, 0))) := M5.out
  have B5d : Hid (Below w.heap.size w w5.drew) := B5.out.drew
  have T5d : Hid (TapeAt w5.drew w.heap.size w.heap.size v5 X xs.length) := T5.out.kept ((Keeps.refl (fun _ => False) w5).drew) (fun h => h) (fun _ _ h => h)
  refine start_ (n := 9) (S := fun w' => (convert 22 9 (.slice A xs.length cap)).run Try.prog w' = .ok (.string (strOfNums xs)) w' ∧ (convert 22 9 (.slice A1 ys.length cap1)).run Try.prog w' = .ok (.string (strOfNums ys)) w' ∧ w'.cell? ⟨mb, 0, none⟩ = some (.string ⟨#[]⟩) ∧ w'.cell? ⟨mb, 1, none⟩ = some (.int .i64 0)) (ds := [8]) #[false, false, false, false, false, false, false, false, false] (by kernel_rfl) rfl rfl ⟨CX.out _ B5d.out, CY.out _ B5d.out, (blk_cell M5d.out 0).trans rfl, (blk_cell M5d.out 1).trans rfl⟩ (fun hHeld => ?_)
  generalize w5.drew = w6 at M5d B5d T5d hHeld ⊢
  refine take_ (i := 0) (N := some 30) (v := ?_) (a' := ?_) #[true, false, false, false, false, false, false, false, false] rfl rfl (by kernel_rfl) (fun _ _ _ h => h) (Or.inl ⟨by rfl, ?_⟩) hHeld ?_ ?_
  rotate_left
  · rintro w' ⟨s0, s1, s2, s3⟩
    go_simp
    with_reducible rfl
  rotate_left
  · simp only [Act.put, List.setIfInBounds_toArray, List.set_cons_zero, List.set_cons_succ, i64_w, i32_w]
    rfl
  refine pure_ (i := 1) (N := some 31) (v := ?_) (a' := ?_) #[true, true, false, false, false, false, false, false, false] rfl rfl (by kernel_rfl) (fun _ _ _ h => h) (Or.inl ⟨by rfl, ?_⟩) ?_ ?_
  rotate_left
  · intro w'
    go_simp
    with_reducible rfl
  rotate_left
  · simp only [Act.put, List.setIfInBounds_toArray, List.set_cons_zero, List.set_cons_succ, i64_w, i32_w]
    rfl
  refine take_ (i := 2) (N := some 32) (v := ?_) (a' := ?_) #[true, true, true, false, false, false, false, false, false] rfl rfl (by kernel_rfl) (fun _ _ _ h => h) (Or.inl ⟨by rfl, ?_⟩) hHeld ?_ ?_
  rotate_left
  · rintro w' ⟨s0, s1, s2, s3⟩
    go_simp
    with_reducible rfl
  rotate_left
  · simp only [Act.put, List.setIfInBounds_toArray, List.set_cons_zero, List.set_cons_succ, i64_w, i32_w]
    rfl
  refine pure_ (i := 5) (N := some 35) (v := ?_) (a' := ?_) #[true, true, true, false, false, true, false, false, false] rfl rfl (by kernel_rfl) (fun _ _ _ h => h) (Or.inl ⟨by rfl, ?_⟩) ?_ ?_
  rotate_left
  · intro w'
    go_simp
    with_reducible rfl
  rotate_left
  · simp only [Act.put, List.setIfInBounds_toArray, List.set_cons_zero, List.set_cons_succ, i64_w, i32_w]
    rfl
  refine take_ (i := 6) (N := some 36) (v := ?_) (a' := ?_) #[true, true, true, false, false, true, true, false, false] rfl rfl (by kernel_rfl) (fun _ _ _ h => h) (Or.inl ⟨by rfl, ?_⟩) hHeld ?_ ?_
  rotate_left
  · rintro w' ⟨s0, s1, s2, s3⟩
    go_simp
    with_reducible rfl
  rotate_left
  · simp only [Act.put, List.setIfInBounds_toArray, List.set_cons_zero, List.set_cons_succ, i64_w, i32_w]
    rfl
  have Mw6 := M5d
  have Bw6 := B5d
  have Tw6 := T5d
  clear M5d T5d
  refine one_ (i := 3) (N := some 33) #[true, true, true, true, false, true, true, false, false] rfl rfl (by kernel_rfl) (by decide) (fun K hK => ?_)
  refine goes_ Try.func29 (by kernel_rfl) rfl #[.agg #[.string ⟨#[]⟩, .int .i64 0], .string (strOfNums xs)] (by rfl) rfl rfl (by (try simp only [List.map_toArray, List.map_cons, List.map_nil]); first | done | rfl) ?_
  refine (rappend_nil xs w6 (by have := HM.out; omega)).mono ?_
  rintro e w7 ⟨rfl, hb⟩
  have Mw7 : Hid (w7.heap[mb]? = some (.cells #[.string ⟨#[]⟩, .int .i64 0] 55 (0, 0))) := (hb.block mb (blk_lt Mw6.out)).trans Mw6.out
  have Bw7 := Lib.hid (Bw6.out.trans (hb.mono Bw6.out.size))
  have Tw7 : Hid (TapeAt w7 w.heap.size w.heap.size v5 X xs.length) := Tw6.out.kept (Keeps.of_below (S := fun _ => False) hb) (fun h => h) (fun _ _ h => h)
  clear hb Mw6 Tw6
  refine ⟨_, rfl, ?_⟩
  refine hK.out _ _ ⟨CX.out _ Bw7.out, CY.out _ Bw7.out, (blk_cell Mw7.out 0).trans rfl, (blk_cell Mw7.out 1).trans rfl⟩ (fun hHeld => ?_)
  clear hK K
  refine norm_ (a' := ?_) ?_ ?_
  rotate_left
  · show Act.put _ (some 33) _ = _
    simp only [Act.put, List.setIfInBounds_toArray, List.set_cons_zero, List.set_cons_succ, i64_w, i32_w]
    rfl
  refine one_ (i := 4) (N := some 34) #[true, true, true, true, true, true, true, false, false] rfl rfl (by kernel_rfl) (by decide) (fun K hK => ?_)
  refine goes_ Try.func30 (by kernel_rfl) rfl #[.agg #[.string (strOfNums xs), .int .i64 0]] (by rfl) rfl rfl (by (try simp only [List.map_toArray, List.map_cons, List.map_nil]); first | done | rfl) ?_
  refine (rsync_0 xs w7).mono ?_
  rintro e w8 ⟨rfl, hb⟩
  have Mw8 : Hid (w8.heap[mb]? = some (.cells #[.string ⟨#[]⟩, .int .i64 0] 55 (0, 0))) := (hb.block mb (blk_lt Mw7.out)).trans Mw7.out
  have Bw8 := Lib.hid (Bw7.out.trans (hb.mono Bw7.out.size))
  have Tw8 : Hid (TapeAt w8 w.heap.size w.heap.size v5 X xs.length) := Tw7.out.kept (Keeps.of_below (S := fun _ => False) hb) (fun h => h) (fun _ _ h => h)
  clear hb Mw7 Tw7
  refine ⟨_, rfl, ?_⟩
  refine hK.out _ _ ⟨CX.out _ Bw8.out, CY.out _ Bw8.out, (blk_cell Mw8.out 0).trans rfl, (blk_cell Mw8.out 1).trans rfl⟩ (fun hHeld => ?_)
  clear hK K
  refine norm_ (a' := ?_) ?_ ?_
  rotate_left
  · show Act.put _ (some 34) _ = _
    simp only [Act.put, List.setIfInBounds_toArray, List.set_cons_zero, List.set_cons_succ, i64_w, i32_w]
    rfl
  refine one_ (i := 7) (N := some 37) #[true, true, true, true, true, true, true, true, false] rfl rfl (by kernel_rfl) (by decide) (fun K hK => ?_)
  refine goes_ Try.func29 (by kernel_rfl) rfl #[.agg #[.string (strOfNums xs), .int .i64 (xs.length : Int)], .string (strOfNums ys)] (by rfl) rfl rfl (by (try simp only [List.map_toArray, List.map_cons, List.map_nil]); first | done | rfl) ?_
  refine (rappend_all xs ys xs.length w8 (by have := HM.out; have := HM1.out; omega)).mono ?_
  rintro e w9 ⟨rfl, hb⟩
  have Mw9 : Hid (w9.heap[mb]? = some (.cells #[.string ⟨#[]⟩, .int .i64 0] 55 (0, 0))) := (hb.block mb (blk_lt Mw8.out)).trans Mw8.out
  have Bw9 := Lib.hid (Bw8.out.trans (hb.mono Bw8.out.size))
  have Tw9 : Hid (TapeAt w9 w.heap.size w.heap.size v5 X xs.length) := Tw8.out.kept (Keeps.of_below (S := fun _ => False) hb) (fun h => h) (fun _ _ h => h)
  clear hb Mw8 Tw8
  refine ⟨_, rfl, ?_⟩
  refine hK.out _ _ ⟨CX.out _ Bw9.out, CY.out _ Bw9.out, (blk_cell Mw9.out 0).trans rfl, (blk_cell Mw9.out 1).trans rfl⟩ (fun hHeld => ?_)
  clear hK K
  refine norm_ (a' := ?_) ?_ ?_
  rotate_left
  · show Act.put _ (some 37) _ = _
    simp only [Act.put, List.setIfInBounds_toArray, List.set_cons_zero, List.set_cons_succ, i64_w, i32_w]
    rfl
  have nf0 : w9.frozen? ⟨mb, 0, none⟩ = false := blk_frozen Mw9.out 0
  have nf1 : w9.frozen? ⟨mb, 1, none⟩ = false := blk_frozen Mw9.out 1
  have n0 : w9.cell? ⟨mb, 0, none⟩ = some (.string ⟨#[]⟩) := (blk_cell Mw9.out 0).trans rfl
  have n1 : w9.cell? ⟨mb, 1, none⟩ = some (.int .i64 0) := (blk_cell Mw9.out 1).trans rfl
  refine last_ (i := 8) (N := none) #[true, true, true, true, true, true, true, true, true] rfl rfl (by kernel_rfl) (by decide) (fun K hK => ?_)
  refine skip_ (w1 := ?_) (by rfl) rfl ?_ ?_
  rotate_left
  · go_simp
    rfl
  refine hK.out _ _ ?_
  clear hK K
  refine done_ (by kernel_rfl) ?_
  obtain rfl := HXE.out
  have M10 : Hid (((w9.setCell ⟨mb, 0, none⟩ (.string (strOfNums (xs ++ ys)))).setCell ⟨mb, 1, none⟩ (.int .i64 (xs.length : Int))).heap[mb]? = some (.cells #[.string (strOfNums (xs ++ ys)), .int .i64 (xs.length : Int)] 55 (0, 0))) := blk_put (cs := #[.string (strOfNums (xs ++ ys)), .int .i64 0]) (blk_put (cs := #[.string ⟨#[]⟩, .int .i64 0]) Mw9.out 0 _ rfl) 1 _ rfl
  have T10 : Hid (TapeAt ((w9.setCell ⟨mb, 0, none⟩ (.string (strOfNums (xs ++ ys)))).setCell ⟨mb, 1, none⟩ (.int .i64 (xs.length : Int))) w.heap.size w.heap.size v5 (xs ++ ys) xs.length) := (Tw9.out.put_box Mw9.out 0 _).put_box (blk_put (cs := #[.string ⟨#[]⟩, .int .i64 0]) Mw9.out 0 _ rfl) 1 _
  have B10 : Hid (Below w.heap.size w ((w9.setCell ⟨mb, 0, none⟩ (.string (strOfNums (xs ++ ys)))).setCell ⟨mb, 1, none⟩ (.int .i64 (xs.length : Int)))) := (Bw9.out.setCell (p := ⟨mb, 0, none⟩) HMB.out _).setCell (p := ⟨mb, 1, none⟩) HMB.out _
  generalize (w9.setCell ⟨mb, 0, none⟩ (.string (strOfNums (xs ++ ys)))).setCell ⟨mb, 1, none⟩ (.int .i64 (xs.length : Int)) = w10 at M10 T10 B10 ⊢
  clear Mw9 Tw9 n0 n1 nf0 nf1
  have p0 : w10.cell? ⟨mb, 0, none⟩ = some (.string (strOfNums (xs ++ ys))) := (blk_cell M10.out 0).trans rfl
  have p1 : w10.cell? ⟨mb, 1, none⟩ = some (.int .i64 (xs.length : Int)) := (blk_cell M10.out 1).trans rfl
  go_upto_region 9 with (go_at_call 31; have h31 := rcut_all (xs ++ ys) xs.length cut w10 (Nat.le_trans HXL.out (by decide)); rw [HCUT.out] at h31; refine h31.mono ?_; clear h31; rintro e w11 ⟨rfl, hb⟩; have B11 := Lib.hid (B10.out.trans (hb.mono B10.out.size)); have T11 : Hid (TapeAt w11 w.heap.size w.heap.size v5 (xs ++ ys) xs.length) := T10.out.kept (Keeps.of_below (S := fun _ => False) hb) (fun h => h) (fun _ _ h => h); clear hb T10 M10)
  have N12 : Hid ((w11.alloc (.cells #[.string (strOfNums Z), .int .i64 (z : Int)] 55)).heap[w11.heap.size]? = some (.cells #[.string (strOfNums Z), .int .i64 (z : Int)] 55 (0, 0))) := heap_alloc_new w11 _
  have T12 : Hid (TapeAt (w11.alloc (.cells #[.string (strOfNums Z), .int .i64 (z : Int)] 55)) w.heap.size w.heap.size v5 (xs ++ ys) xs.length) := T11.out.kept ((Keeps.refl (fun _ => False) w11).alloc _) (fun h => h) (fun _ _ h => h)
  have B12 : Hid (Below w.heap.size w (w11.alloc (.cells #[.string (strOfNums Z), .int .i64 (z : Int)] 55))) := B11.out.alloc B11.out.size _
  have HNB : Hid (w.heap.size ≤ w11.heap.size) := B11.out.size
  generalize w11.alloc (.cells #[.string (strOfNums Z), .int .i64 (z : Int)] 55) = w12 at N12 T12 B12 ⊢
  obtain ⟨nb, hnb⟩ : ∃ nb, w11.heap.size = nb := ⟨_, rfl⟩
  rw [hnb] at N12 HNB ⊢
  clear T11 hnb p0 p1
  go_upto_region 10 with (go_at_call 32; have h32 := cut_all T12.out cut (Nat.le_trans HXL.out (by decide)); rw [HCUT.out] at h32; refine h32.mono ?_; clear h32; rintro e w13 ⟨rfl, v13, t13, k13, _⟩; have T13 := Lib.hid t13; have N13 := Lib.hid (box_kept T12.out N12.out k13 (fun k h => .inl h)); have B13 := Lib.hid (B12.out.trans (T12.out.below B12.out.size (fun k h => .inl h) k13)); clear t13 k13 T12 N12)
  have HZ64 : Hid (Z.length ≤ 2097152) := Nat.le_trans HZ2.out HXL.out
  have hzs : (strOfNums Z).size = Z.length := str_size Z
  have hzw : wrap64 ((Z.length : Int) - (z : Int)) = (Z.length : Int) - (z : Int) := by have := HZ64.out; have := HZ1.out; unfold wrap64; omega
  have N14 : Hid (w13.drew.heap[nb]? = some (.cells #[.string (strOfNums Z), .int .i64 (z : Int)] 55 (0, 0))) := N13.out
  have B14 : Hid (Below w.heap.size w w13.drew) := B13.out.drew
  have T14 : Hid (TapeAt w13.drew w.heap.size w.heap.size v13 Z z) := T13.out.kept ((Keeps.refl (fun _ => False) w13).drew) (fun h => h) (fun _ _ h => h)
  clear T13 N13
  refine start_ (n := 22) (S := fun w' => w'.cell? ⟨nb, 0, none⟩ = some (.string (strOfNums Z)) ∧ w'.cell? ⟨nb, 1, none⟩ = some (.int .i64 (z : Int))) (ds := []) #[false, false, false, false, false, false, false, false, false, false, false, false, false, false, false, false, false, false, false, false, false, false] (by kernel_rfl) rfl rfl ⟨(blk_cell N14.out 0).trans rfl, (blk_cell N14.out 1).trans rfl⟩ (fun hHeld => ?_)
  generalize w13.drew = w14 at N14 B14 T14 hHeld ⊢
  refine pure_ (i := 0) (N := some 47) (v := ?_) (a' := ?_) #[true, false, false, false, false, false, false, false, false, false, false, false, false, false, false, false, false, false, false, false, false, false] rfl rfl (by kernel_rfl) (fun _ _ _ h => h) (Or.inl ⟨by rfl, ?_⟩) ?_ ?_
  rotate_left
  · intro w'
    go_simp
    with_reducible rfl
  rotate_left
  · simp only [Act.put, List.setIfInBounds_toArray, List.set_cons_zero, List.set_cons_succ, i64_w, i32_w]
    rfl
  refine pure_ (i := 1) (N := some 48) (v := ?_) (a' := ?_) #[true, true, false, false, false, false, false, false, false, false, false, false, false, false, false, false, false, false, false, false, false, false] rfl rfl (by kernel_rfl) (fun _ _ _ h => h) (Or.inl ⟨by rfl, ?_⟩) ?_ ?_
  rotate_left
  · intro w'
    go_simp
    with_reducible rfl
  rotate_left
  · simp only [Act.put, List.setIfInBounds_toArray, List.set_cons_zero, List.set_cons_succ, i64_w, i32_w]
    rfl
  refine pure_ (i := 2) (N := some 49) (v := ?_) (a' := ?_) #[true, true, true, false, false, false, false, false, false, false, false, false, false, false, false, false, false, false, false, false, false, false] rfl rfl (by kernel_rfl) (fun _ _ _ h => h) (Or.inl ⟨by rfl, ?_⟩) ?_ ?_
  rotate_left
  · intro w'
    go_simp
    with_reducible rfl
  rotate_left
  · simp only [Act.put, List.setIfInBounds_toArray, List.set_cons_zero, List.set_cons_succ, i64_w, i32_w]
    rfl
  refine pure_ (i := 3) (N := some 50) (v := ?_) (a' := ?_) #[true, true, true, true, false, false, false, false, false, false, false, false, false, false, false, false, false, false, false, false, false, false] rfl rfl (by kernel_rfl) (fun _ _ _ h => h) (Or.inl ⟨by rfl, ?_⟩) ?_ ?_
  rotate_left
  · intro w'
    go_simp
    with_reducible rfl
  rotate_left
  · simp only [Act.put, List.setIfInBounds_toArray, List.set_cons_zero, List.set_cons_succ, i64_w, i32_w]
    rfl
  refine pure_ (i := 4) (N := some 51) (v := ?_) (a' := ?_) #[true, true, true, true, true, false, false, false, false, false, false, false, false, false, false, false, false, false, false, false, false, false] rfl rfl (by kernel_rfl) (fun _ _ _ h => h) (Or.inl ⟨by rfl, ?_⟩) ?_ ?_
  rotate_left
  · intro w'
    go_simp
    with_reducible rfl
  rotate_left
  · simp only [Act.put, List.setIfInBounds_toArray, List.set_cons_zero, List.set_cons_succ, i64_w, i32_w]
    rfl
  refine pure_ (i := 7) (N := some 54) (v := ?_) (a' := ?_) #[true, true, true, true, true, false, false, true, false, false, false, false, false, false, false, false, false, false, false, false, false, false] rfl rfl (by kernel_rfl) (fun _ _ _ h => h) (Or.inl ⟨by rfl, ?_⟩) ?_ ?_
  rotate_left
  · intro w'
    go_simp
    with_reducible rfl
  rotate_left
  · simp only [Act.put, List.setIfInBounds_toArray, List.set_cons_zero, List.set_cons_succ, i64_w, i32_w]
    rfl
  refine take_ (i := 8) (N := some 55) (v := ?_) (a' := ?_) #[true, true, true, true, true, false, false, true, true, false, false, false, false, false, false, false, false, false, false, false, false, false] rfl rfl (by kernel_rfl) (fun _ _ _ h => h) (Or.inl ⟨by rfl, ?_⟩) hHeld ?_ ?_
  rotate_left
  · rintro w' ⟨s0, s1⟩
    go_simp
    with_reducible rfl
  rotate_left
  · simp only [Act.put, List.setIfInBounds_toArray, List.set_cons_zero, List.set_cons_succ, i64_w, i32_w]
    rfl
  refine one_ (i := 5) (N := some 52) #[true, true, true, true, true, true, false, true, true, false, false, false, false, false, false, false, false, false, false, false, false, false] rfl rfl (by kernel_rfl) (by decide) (fun K hK => ?_)
  refine goes_ Try.func33 (by kernel_rfl) rfl #[.pointer (some ⟨w.heap.size, 0, none⟩)] (by rfl) rfl rfl (by (try simp only [List.map_toArray, List.map_cons, List.map_nil]); first | done | rfl) ?_
  refine (bytes_any T14.out (Nat.le_trans HZ64.out (by decide))).mono ?_
  rintro e w15 ⟨v15, rfl, ho, hb⟩
  obtain ⟨A15, c15, rfl, hc15, hr15⟩ := own_rd ho
  have N15 : Hid (w15.heap[nb]? = some (.cells #[.string (strOfNums Z), .int .i64 (z : Int)] 55 (0, 0))) := (hb.block nb (blk_lt N14.out)).trans N14.out
  have B15 := Lib.hid (B14.out.trans (hb.mono B14.out.size))
  have T15 : Hid (TapeAt w15 w.heap.size w.heap.size v13 Z z) := T14.out.kept (Keeps.of_below (S := fun _ => False) hb) (fun h => h) (fun _ _ h => h)
  have hcv : (convert 22 9 (.slice A15 Z.length c15)).run Try.prog w15 = .ok (.string (strOfNums Z)) w15 := conv_str _ _ _ _ _ hr15
  clear ho hb hr15 N14 T14
  refine ⟨_, rfl, ?_⟩
  refine hK.out _ _ ⟨(blk_cell N15.out 0).trans rfl, (blk_cell N15.out 1).trans rfl⟩ (fun hHeld => ?_)
  clear hK K
  refine norm_ (a' := ?_) ?_ ?_
  rotate_left
  · show Act.put _ (some 52) _ = _
    simp only [Act.put, List.setIfInBounds_toArray, List.set_cons_zero, List.set_cons_succ, i64_w, i32_w]
    rfl
  refine one_ (i := 6) (N := some 53) #[true, true, true, true, true, true, true, true, true, false, false, false, false, false, false, false, false, false, false, false, false, false] rfl rfl (by kernel_rfl) (by decide) (fun K hK => ?_)
  refine value_ (v := .string (strOfNums Z)) (w1 := w15) (by rfl) rfl (by go_simp) ?_
  refine hK.out _ _ ⟨(blk_cell N15.out 0).trans rfl, (blk_cell N15.out 1).trans rfl⟩ (fun hHeld => ?_)
  clear hK K hcv
  refine norm_ (a' := ?_) ?_ ?_
  rotate_left
  · show Act.put _ (some 53) _ = _
    simp only [Act.put, List.setIfInBounds_toArray, List.set_cons_zero, List.set_cons_succ, i64_w, i32_w]
    rfl
  refine pure_ (i := 9) (N := some 56) (v := ?_) (a' := ?_) #[true, true, true, true, true, true, true, true, true, true, false, false, false, false, false, false, false, false, false, false, false, false] rfl rfl (by kernel_rfl) (fun _ _ _ h => h) (Or.inl ⟨by rfl, ?_⟩) ?_ ?_
  rotate_left
  · intro w'
    go_simp
    with_reducible rfl
  rotate_left
  · simp only [Act.put, List.setIfInBounds_toArray, List.set_cons_zero, List.set_cons_succ, i64_w, i32_w]
    rfl
  refine pure_ (i := 10) (N := some 57) (v := ?_) (a' := ?_) #[true, true, true, true, true, true, true, true, true, true, true, false, false, false, false, false, false, false, false, false, false, false] rfl rfl (by kernel_rfl) (fun _ _ _ h => h) (Or.inl ⟨by rfl, ?_⟩) ?_ ?_
  rotate_left
  · intro w'
    go_simp
    with_reducible rfl
  rotate_left
  · simp only [Act.put, List.setIfInBounds_toArray, List.set_cons_zero, List.set_cons_succ, i64_w, i32_w]
    rfl
  refine pure_ (i := 11) (N := some 58) (v := ?_) (a' := ?_) #[true, true, true, true, true, true, true, true, true, true, true, true, false, false, false, false, false, false, false, false, false, false] rfl rfl (by kernel_rfl) (fun _ _ _ h => h) (Or.inl ⟨by rfl, ?_⟩) ?_ ?_
  rotate_left
  · intro w'
    go_simp
    with_reducible rfl
  rotate_left
  · simp only [Act.put, List.setIfInBounds_toArray, List.set_cons_zero, List.set_cons_succ, i64_w, i32_w]
    rfl
  refine pure_ (i := 12) (N := some 59) (v := ?_) (a' := ?_) #[true, true, true, true, true, true, true, true, true, true, true, true, true, false, false, false, false, false, false, false, false, false] rfl rfl (by kernel_rfl) (fun _ _ _ h => h) (Or.inl ⟨by rfl, ?_⟩) ?_ ?_
  rotate_left
  · intro w'
    go_simp
    with_reducible rfl
  rotate_left
  · simp only [Act.put, List.setIfInBounds_toArray, List.set_cons_zero, List.set_cons_succ, i64_w, i32_w]
    rfl
  refine pure_ (i := 14) (N := some 61) (v := ?_) (a' := ?_) #[true, true, true, true, true, true, true, true, true, true, true, true, true, false, true, false, false, false, false, false, false, false] rfl rfl (by kernel_rfl) (fun _ _ _ h => h) (Or.inl ⟨by rfl, ?_⟩) ?_ ?_
  rotate_left
  · intro w'
    go_simp
    with_reducible rfl
  rotate_left
  · simp only [Act.put, List.setIfInBounds_toArray, List.set_cons_zero, List.set_cons_succ, i64_w, i32_w]
    rfl
  refine take_ (i := 15) (N := some 62) (v := ?_) (a' := ?_) #[true, true, true, true, true, true, true, true, true, true, true, true, true, false, true, true, false, false, false, false, false, false] rfl rfl (by kernel_rfl) (fun _ _ _ h => h) (Or.inl ⟨by rfl, ?_⟩) hHeld ?_ ?_
  rotate_left
  · rintro w' ⟨s0, s1⟩
    go_simp
    with_reducible rfl
  rotate_left
  · simp only [Act.put, List.setIfInBounds_toArray, List.set_cons_zero, List.set_cons_succ, i64_w, i32_w]
    rfl
  refine pure_ (i := 16) (N := some 63) (v := ?_) (a' := ?_) #[true, true, true, true, true, true, true, true, true, true, true, true, true, false, true, true, true, false, false, false, false, false] rfl rfl (by kernel_rfl) (fun _ _ _ h => h) (Or.inl ⟨by rfl, ?_⟩) ?_ ?_
  rotate_left
  · intro w'
    go_simp
    with_reducible rfl
  rotate_left
  · simp only [Act.put, List.setIfInBounds_toArray, List.set_cons_zero, List.set_cons_succ, i64_w, i32_w]
    rfl
  refine pure_ (i := 17) (N := some 64) (v := ?_) (a' := ?_) #[true, true, true, true, true, true, true, true, true, true, true, true, true, false, true, true, true, true, false, false, false, false] rfl rfl (by kernel_rfl) (fun _ _ _ h => h) (Or.inl ⟨by rfl, ?_⟩) ?_ ?_
  rotate_left
  · intro w'
    go_simp
    with_reducible rfl
  rotate_left
  · simp only [Act.put, List.setIfInBounds_toArray, List.set_cons_zero, List.set_cons_succ, i64_w, i32_w]
    rfl
  refine take_ (i := 18) (N := some 65) (v := ?_) (a' := ?_) #[true, true, true, true, true, true, true, true, true, true, true, true, true, false, true, true, true, true, true, false, false, false] rfl rfl (by kernel_rfl) (fun _ _ _ h => h) (Or.inl ⟨by rfl, ?_⟩) hHeld ?_ ?_
  rotate_left
  · rintro w' ⟨s0, s1⟩
    go_simp
    with_reducible rfl
  rotate_left
  · simp only [Act.put, List.setIfInBounds_toArray, List.set_cons_zero, List.set_cons_succ, i64_w, i32_w]
    rfl
  refine pure_ (i := 19) (N := some 66) (v := ?_) (a' := ?_) #[true, true, true, true, true, true, true, true, true, true, true, true, true, false, true, true, true, true, true, true, false, false] rfl rfl (by kernel_rfl) (fun _ _ _ h => h) (Or.inl ⟨by rfl, ?_⟩) ?_ ?_
  rotate_left
  · intro w'
    go_simp
    with_reducible rfl
  rotate_left
  · simp only [Act.put, List.setIfInBounds_toArray, List.set_cons_zero, List.set_cons_succ, i64_w, i32_w]
    rfl
  refine one_ (i := 13) (N := some 60) #[true, true, true, true, true, true, true, true, true, true, true, true, true, true, true, true, true, true, true, true, false, false] rfl rfl (by kernel_rfl) (by decide) (fun K hK => ?_)
  refine goes_ Try.func34 (by kernel_rfl) rfl #[.pointer (some ⟨w.heap.size, 0, none⟩)] (by rfl) rfl rfl (by (try simp only [List.map_toArray, List.map_cons, List.map_nil]); first | done | rfl) ?_
  refine (loose_any T15.out (Nat.le_trans HZ64.out (by decide))).mono ?_
  rintro e w16 ⟨rfl, hb⟩
  have N16 : Hid (w16.heap[nb]? = some (.cells #[.string (strOfNums Z), .int .i64 (z : Int)] 55 (0, 0))) := (hb.block nb (blk_lt N15.out)).trans N15.out
  have B16 := Lib.hid (B15.out.trans (hb.mono B15.out.size))
  have T16 : Hid (TapeAt w16 w.heap.size w.heap.size v13 Z z) := T15.out.kept (Keeps.of_below (S := fun _ => False) hb) (fun h => h) (fun _ _ h => h)
  clear hb N15 T15
  refine ⟨_, rfl, ?_⟩
  refine hK.out _ _ ⟨(blk_cell N16.out 0).trans rfl, (blk_cell N16.out 1).trans rfl⟩ (fun hHeld => ?_)
  clear hK K
  refine norm_ (a' := ?_) ?_ ?_
  rotate_left
  · show Act.put _ (some 60) _ = _
    simp only [Act.put, List.setIfInBounds_toArray, List.set_cons_zero, List.set_cons_succ, i64_w, i32_w]
    rfl
  refine pure_ (i := 20) (N := some 67) (v := ?_) (a' := ?_) #[true, true, true, true, true, true, true, true, true, true, true, true, true, true, true, true, true, true, true, true, true, false] rfl rfl (by kernel_rfl) (fun _ _ _ h => h) (Or.inl ⟨by rfl, ?_⟩) ?_ ?_
  rotate_left
  · intro w'
    go_simp
    with_reducible rfl
  rotate_left
  · simp only [Act.put, List.setIfInBounds_toArray, List.set_cons_zero, List.set_cons_succ, i64_w, i32_w]
    rfl
  refine pure_ (i := 21) (N := some 68) (v := ?_) (a' := ?_) #[true, true, true, true, true, true, true, true, true, true, true, true, true, true, true, true, true, true, true, true, true, true] rfl rfl (by kernel_rfl) (fun _ _ _ h => h) (Or.inl ⟨by rfl, ?_⟩) ?_ ?_
  rotate_left
  · intro w'
    go_simp
    with_reducible rfl
  rotate_left
  · simp only [Act.put, List.setIfInBounds_toArray, List.set_cons_zero, List.set_cons_succ, i64_w, i32_w]
    rfl
  refine done_ (by kernel_rfl) ?_
  obtain ⟨V, hV⟩ : ∃ V, crashed Z z (keptOf Z.length z keep) at_ by_ = V := ⟨_, rfl⟩
  obtain ⟨kv, hkv⟩ : ∃ kv, z + keptOf Z.length z keep = kv := ⟨_, rfl⟩
  have HV := Lib.hid hV
  have HKV := Lib.hid hkv
  have hvl : V.length = kv := by rw [← hV, ← hkv]; exact crashed_length keep at_ by_ HZ1.out
  have HVL := Lib.hid hvl
  have HV64 : Hid (V.length ≤ 2097152) := by
    show _ ≤ _
    have h1 := keptOf_le Z.length z keep HZ1.out
    have h2 := HZ64.out
    rw [hvl, ← hkv]
    omega
  have hlo : ((V.length : Int) - (kv : Int)) = 0 := by omega
  clear hV hkv hvl hzs hzw
  go_upto_region 13 with (go_at_call 24; have h24 := crash_any T16.out (Nat.le_trans HZ64.out (by decide)) B16.out.size keep at_ by_ hk0 hk1 hyy; rw [HV.out, HKV.out] at h24; refine h24.mono ?_; clear h24; rintro e w17 ⟨rfl, v17, t17, k17, _⟩; have T17 := Lib.hid t17; have N17 := Lib.hid (box_kept T16.out N16.out k17 (fun k h => .inl h)); have B17 := Lib.hid (B16.out.trans (T16.out.below B16.out.size (fun k h => .inl h) k17)); clear t17 k17 T16 N16)
  have p0 : w17.cell? ⟨nb, 0, none⟩ = some (.string (strOfNums Z)) := (blk_cell N17.out 0).trans rfl
  have p1 : w17.cell? ⟨nb, 1, none⟩ = some (.int .i64 (z : Int)) := (blk_cell N17.out 1).trans rfl
  go_upto_region 14 with (go_at_call 35; have h35 := rcrash_all Z z HZ3.out HZ1.out (Nat.le_trans HZ64.out (by decide)) keep at_ by_ hk0 hk1 hyy w17; rw [HV.out, HKV.out] at h35; refine h35.mono ?_; clear h35; rintro e w18 ⟨rfl, hb⟩; have N18 : Hid (w18.heap[nb]? = some (.cells #[.string (strOfNums Z), .int .i64 (z : Int)] 55 (0, 0))) := (hb.block nb (blk_lt N17.out)).trans N17.out; have B18 := Lib.hid (B17.out.trans (hb.mono B17.out.size)); have T18 : Hid (TapeAt w18 w.heap.size w.heap.size v17 V kv) := T17.out.kept (Keeps.of_below (S := fun _ => False) hb) (fun h => h) (fun _ _ h => h); have q0 : w18.cell? ⟨nb, 0, none⟩ = some (.string (strOfNums Z)) := (blk_cell N18.out 0).trans rfl; have q1 : w18.cell? ⟨nb, 1, none⟩ = some (.int .i64 (z : Int)) := (blk_cell N18.out 1).trans rfl; have qf0 : w18.frozen? ⟨nb, 0, none⟩ = false := blk_frozen N18.out 0; have qf1 : w18.frozen? ⟨nb, 1, none⟩ = false := blk_frozen N18.out 1; clear hb N17 T17)
  clear p0 p1 q0 q1 qf0 qf1
  have N19 : Hid (((w18.setCell ⟨nb, 0, none⟩ (.string (strOfNums V))).setCell ⟨nb, 1, none⟩ (.int .i64 (kv : Int))).heap[nb]? = some (.cells #[.string (strOfNums V), .int .i64 (kv : Int)] 55 (0, 0))) := blk_put (cs := #[.string (strOfNums V), .int .i64 (z : Int)]) (blk_put (cs := #[.string (strOfNums Z), .int .i64 (z : Int)]) N18.out 0 _ rfl) 1 _ rfl
  have T19 : Hid (TapeAt ((w18.setCell ⟨nb, 0, none⟩ (.string (strOfNums V))).setCell ⟨nb, 1, none⟩ (.int .i64 (kv : Int))) w.heap.size w.heap.size v17 V kv) := (T18.out.put_box N18.out 0 _).put_box (blk_put (cs := #[.string (strOfNums Z), .int .i64 (z : Int)]) N18.out 0 _ rfl) 1 _
  have B19 : Hid (Below w.heap.size w ((w18.setCell ⟨nb, 0, none⟩ (.string (strOfNums V))).setCell ⟨nb, 1, none⟩ (.int .i64 (kv : Int)))) := (B18.out.setCell (p := ⟨nb, 0, none⟩) HNB.out _).setCell (p := ⟨nb, 1, none⟩) HNB.out _
  generalize (w18.setCell ⟨nb, 0, none⟩ (.string (strOfNums V))).setCell ⟨nb, 1, none⟩ (.int .i64 (kv : Int)) = w19 at N19 T19 B19 ⊢
  clear N18 T18
  have N20 : Hid (w19.drew.heap[nb]? = some (.cells #[.string (strOfNums V), .int .i64 (kv : Int)] 55 (0, 0))) := N19.out
  have B20 : Hid (Below w.heap.size w w19.drew) := B19.out.drew
  have T20 : Hid (TapeAt w19.drew w.heap.size w.heap.size v17 V kv) := T19.out.kept ((Keeps.refl (fun _ => False) w19).drew) (fun h => h) (fun _ _ h => h)
  clear T19 N19
  refine start_ (n := 15) (S := fun w' => w'.cell? ⟨nb, 0, none⟩ = some (.string (strOfNums V)) ∧ w'.cell? ⟨nb, 1, none⟩ = some (.int .i64 (kv : Int))) (ds := []) #[false, false, false, false, false, false, false, false, false, false, false, false, false, false, false] (by kernel_rfl) rfl rfl ⟨(blk_cell N20.out 0).trans rfl, (blk_cell N20.out 1).trans rfl⟩ (fun hHeld => ?_)
  generalize w19.drew = w20 at N20 B20 T20 hHeld ⊢
  refine pure_ (i := 0) (N := some 79) (v := ?_) (a' := ?_) #[true, false, false, false, false, false, false, false, false, false, false, false, false, false, false] rfl rfl (by kernel_rfl) (fun _ _ _ h => h) (Or.inl ⟨by rfl, ?_⟩) ?_ ?_
  rotate_left
  · intro w'
    go_simp
    with_reducible rfl
  rotate_left
  · simp only [Act.put, List.setIfInBounds_toArray, List.set_cons_zero, List.set_cons_succ, i64_w, i32_w]
    rfl
  refine pure_ (i := 3) (N := some 82) (v := ?_) (a' := ?_) #[true, false, false, true, false, false, false, false, false, false, false, false, false, false, false] rfl rfl (by kernel_rfl) (fun _ _ _ h => h) (Or.inl ⟨by rfl, ?_⟩) ?_ ?_
  rotate_left
  · intro w'
    go_simp
    with_reducible rfl
  rotate_left
  · simp only [Act.put, List.setIfInBounds_toArray, List.set_cons_zero, List.set_cons_succ, i64_w, i32_w]
    rfl
  refine take_ (i := 4) (N := some 83) (v := ?_) (a' := ?_) #[true, false, false, true, true, false, false, false, false, false, false, false, false, false, false] rfl rfl (by kernel_rfl) (fun _ _ _ h => h) (Or.inl ⟨by rfl, ?_⟩) hHeld ?_ ?_
  rotate_left
  · rintro w' ⟨s0, s1⟩
    go_simp
    with_reducible rfl
  rotate_left
  · simp only [Act.put, List.setIfInBounds_toArray, List.set_cons_zero, List.set_cons_succ, i64_w, i32_w]
    rfl
  refine one_ (i := 1) (N := some 80) #[true, true, false, true, true, false, false, false, false, false, false, false, false, false, false] rfl rfl (by kernel_rfl) (by decide) (fun K hK => ?_)
  refine goes_ Try.func33 (by kernel_rfl) rfl #[.pointer (some ⟨w.heap.size, 0, none⟩)] (by rfl) rfl rfl (by (try simp only [List.map_toArray, List.map_cons, List.map_nil]); first | done | rfl) ?_
  refine (bytes_any T20.out (Nat.le_trans HV64.out (by decide))).mono ?_
  rintro e w21 ⟨v21, rfl, ho, hb⟩
  obtain ⟨A21, c21, rfl, hc21, hr21⟩ := own_rd ho
  have N21 : Hid (w21.heap[nb]? = some (.cells #[.string (strOfNums V), .int .i64 (kv : Int)] 55 (0, 0))) := (hb.block nb (blk_lt N20.out)).trans N20.out
  have B21 := Lib.hid (B20.out.trans (hb.mono B20.out.size))
  have T21 : Hid (TapeAt w21 w.heap.size w.heap.size v17 V kv) := T20.out.kept (Keeps.of_below (S := fun _ => False) hb) (fun h => h) (fun _ _ h => h)
  have hcv : (convert 22 9 (.slice A21 V.length c21)).run Try.prog w21 = .ok (.string (strOfNums V)) w21 := conv_str _ _ _ _ _ hr21
  clear ho hb hr21 N20 T20
  refine ⟨_, rfl, ?_⟩
  refine hK.out _ _ ⟨(blk_cell N21.out 0).trans rfl, (blk_cell N21.out 1).trans rfl⟩ (fun hHeld => ?_)
  clear hK K
  refine norm_ (a' := ?_) ?_ ?_
  rotate_left
  · show Act.put _ (some 80) _ = _
    simp only [Act.put, List.setIfInBounds_toArray, List.set_cons_zero, List.set_cons_succ, i64_w, i32_w]
    rfl
  refine one_ (i := 2) (N := some 81) #[true, true, true, true, true, false, false, false, false, false, false, false, false, false, false] rfl rfl (by kernel_rfl) (by decide) (fun K hK => ?_)
  refine value_ (v := .string (strOfNums V)) (w1 := w21) (by rfl) rfl (by go_simp) ?_
  refine hK.out _ _ ⟨(blk_cell N21.out 0).trans rfl, (blk_cell N21.out 1).trans rfl⟩ (fun hHeld => ?_)
  clear hK K hcv
  refine norm_ (a' := ?_) ?_ ?_
  rotate_left
  · show Act.put _ (some 81) _ = _
    simp only [Act.put, List.setIfInBounds_toArray, List.set_cons_zero, List.set_cons_succ, i64_w, i32_w]
    rfl
  refine pure_ (i := 5) (N := some 84) (v := ?_) (a' := ?_) #[true, true, true, true, true, true, false, false, false, false, false, false, false, false, false] rfl rfl (by kernel_rfl) (fun _ _ _ h => h) (Or.inl ⟨by rfl, ?_⟩) ?_ ?_
  rotate_left
  · intro w'
    go_simp
    with_reducible rfl
  rotate_left
  · simp only [Act.put, List.setIfInBounds_toArray, List.set_cons_zero, List.set_cons_succ, i64_w, i32_w]
    rfl
  refine pure_ (i := 6) (N := some 85) (v := ?_) (a' := ?_) #[true, true, true, true, true, true, true, false, false, false, false, false, false, false, false] rfl rfl (by kernel_rfl) (fun _ _ _ h => h) (Or.inl ⟨by rfl, ?_⟩) ?_ ?_
  rotate_left
  · intro w'
    go_simp
    with_reducible rfl
  rotate_left
  · simp only [Act.put, List.setIfInBounds_toArray, List.set_cons_zero, List.set_cons_succ, i64_w, i32_w]
    rfl
  refine pure_ (i := 7) (N := some 86) (v := ?_) (a' := ?_) #[true, true, true, true, true, true, true, true, false, false, false, false, false, false, false] rfl rfl (by kernel_rfl) (fun _ _ _ h => h) (Or.inl ⟨by rfl, ?_⟩) ?_ ?_
  rotate_left
  · intro w'
    go_simp
    with_reducible rfl
  rotate_left
  · simp only [Act.put, List.setIfInBounds_toArray, List.set_cons_zero, List.set_cons_succ, i64_w, i32_w]
    rfl
  refine one_ (i := 8) (N := some 87) #[true, true, true, true, true, true, true, true, true, false, false, false, false, false, false] rfl rfl (by kernel_rfl) (by decide) (fun K hK => ?_)
  refine goes_ Try.func34 (by kernel_rfl) rfl #[.pointer (some ⟨w.heap.size, 0, none⟩)] (by rfl) rfl rfl (by (try simp only [List.map_toArray, List.map_cons, List.map_nil]); first | done | rfl) ?_
  refine (loose_any T21.out (Nat.le_trans HV64.out (by decide))).mono ?_
  rintro e w22 ⟨rfl, hb⟩
  have N22 : Hid (w22.heap[nb]? = some (.cells #[.string (strOfNums V), .int .i64 (kv : Int)] 55 (0, 0))) := (hb.block nb (blk_lt N21.out)).trans N21.out
  have B22 := Lib.hid (B21.out.trans (hb.mono B21.out.size))
  clear hb N21 T21
  refine ⟨_, rfl, ?_⟩
  refine hK.out _ _ ⟨(blk_cell N22.out 0).trans rfl, (blk_cell N22.out 1).trans rfl⟩ (fun hHeld => ?_)
  clear hK K
  refine norm_ (a' := ?_) ?_ ?_
  rotate_left
  · show Act.put _ (some 87) _ = _
    simp only [Act.put, List.setIfInBounds_toArray, List.set_cons_zero, List.set_cons_succ, i64_w, i32_w]
    rfl
  refine pure_ (i := 9) (N := some 88) (v := ?_) (a' := ?_) #[true, true, true, true, true, true, true, true, true, true, false, false, false, false, false] rfl rfl (by kernel_rfl) (fun _ _ _ h => h) (Or.inl ⟨by rfl, ?_⟩) ?_ ?_
  rotate_left
  · intro w'
    go_simp
    with_reducible rfl
  rotate_left
  · simp only [Act.put, List.setIfInBounds_toArray, List.set_cons_zero, List.set_cons_succ, i64_w, i32_w]
    rfl
  refine pure_ (i := 10) (N := some 89) (v := ?_) (a' := ?_) #[true, true, true, true, true, true, true, true, true, true, true, false, false, false, false] rfl rfl (by kernel_rfl) (fun _ _ _ h => h) (Or.inl ⟨by rfl, ?_⟩) ?_ ?_
  rotate_left
  · intro w'
    go_simp
    with_reducible rfl
  rotate_left
  · simp only [Act.put, List.setIfInBounds_toArray, List.set_cons_zero, List.set_cons_succ, i64_w, i32_w]
    rfl
  refine pure_ (i := 11) (N := some 90) (v := ?_) (a' := ?_) #[true, true, true, true, true, true, true, true, true, true, true, true, false, false, false] rfl rfl (by kernel_rfl) (fun _ _ _ h => h) (Or.inl ⟨by rfl, ?_⟩) ?_ ?_
  rotate_left
  · intro w'
    go_simp
    with_reducible rfl
  rotate_left
  · simp only [Act.put, List.setIfInBounds_toArray, List.set_cons_zero, List.set_cons_succ, i64_w, i32_w]
    rfl
  refine one_ (i := 12) (N := some 91) #[true, true, true, true, true, true, true, true, true, true, true, true, true, false, false] rfl rfl (by kernel_rfl) (by decide) (fun K hK => ?_)
  refine goes_ Try.func14 (by kernel_rfl) rfl #[] (by rfl) rfl rfl (by (try simp only [List.map_toArray, List.map_cons, List.map_nil]); first | done | rfl) ?_
  refine (lives_any w22).mono ?_
  rintro e w23 ⟨rfl, hb⟩
  have N23 : Hid (w23.heap[nb]? = some (.cells #[.string (strOfNums V), .int .i64 (kv : Int)] 55 (0, 0))) := (hb.block nb (blk_lt N22.out)).trans N22.out
  have B23 := Lib.hid (B22.out.trans (hb.mono B22.out.size))
  clear hb N22
  refine ⟨_, rfl, ?_⟩
  refine hK.out _ _ ⟨(blk_cell N23.out 0).trans rfl, (blk_cell N23.out 1).trans rfl⟩ (fun hHeld => ?_)
  clear hK K
  refine norm_ (a' := ?_) ?_ ?_
  rotate_left
  · show Act.put _ (some 91) _ = _
    simp only [Act.put, List.setIfInBounds_toArray, List.set_cons_zero, List.set_cons_succ, i64_w, i32_w]
    rfl
  refine pure_ (i := 13) (N := some 92) (v := ?_) (a' := ?_) #[true, true, true, true, true, true, true, true, true, true, true, true, true, true, false] rfl rfl (by kernel_rfl) (fun _ _ _ h => h) (Or.inl ⟨by rfl, ?_⟩) ?_ ?_
  rotate_left
  · intro w'
    go_simp
    with_reducible rfl
  rotate_left
  · simp only [Act.put, List.setIfInBounds_toArray, List.set_cons_zero, List.set_cons_succ, i64_w, i32_w]
    rfl
  refine pure_ (i := 14) (N := some 12) (v := ?_) (a' := ?_) #[true, true, true, true, true, true, true, true, true, true, true, true, true, true, true] rfl rfl (by kernel_rfl) (fun _ _ _ h => h) (Or.inl ⟨by rfl, ?_⟩) ?_ ?_
  rotate_left
  · intro w'
    go_simp
    with_reducible rfl
  rotate_left
  · simp only [Act.put, List.setIfInBounds_toArray, List.set_cons_zero, List.set_cons_succ, i64_w, i32_w]
    rfl
  refine done_ (by kernel_rfl) ?_
  go_wp2
  go_ret
  exact ⟨rfl, B23.out⟩
end Go.Proofs.Ytoegeljjfhbpeaa.J
