/- TallyOften: whatever is handed in, the call returns true, and nothing that lay there is turned. No condition stands open beyond what it reads. -/
import Derived.Test.YtjhinakfoejpbaaJ5
set_option linter.unusedVariables false
set_option linter.unusedSimpArgs false
namespace Go.Proofs.Ytjhinakfoejpbaa.T
open Go.RowKit Go.Proofs.Ytjhinakfoejpbaa.WPure Go.Proofs.YtjhinakfoejpbaaW.PrintWords Go.Proofs.YtjhinakfoejpbaaW.PrintLast Go.Proofs.YtjhinakfoejpbaaW.PrintMore
theorem BoxAt.below3 {w w' : World} {q : Nat} {k x : Int} {s : ByteArray} {b : Bool} {c : Int} (h : BoxAt w q k x s b c) (hb : Below w.heap.size w w') : BoxAt w' q k x s b c := (hb.block q (blk_lt h)).trans h
set_option maxHeartbeats 4000000 in
set_option maxRecDepth 100000 in
theorem often_out (k x : Int) (s : ByteArray) (b : Bool) (c : Int) (nn : Int) (k2 x2 : Int) (s2 : ByteArray) (b2 : Bool) (c2 : Int) (w : World) (hn : nn < 0 ∨ 100 < nn ∨ rightB k x s b c = false) : Calls Try.prog 6 #[.agg #[.int .i64 k, .int .i64 x, .string s, .bool b, .int .i64 c], .int .i64 nn, .agg #[.int .i64 k2, .int .i64 x2, .string s2, .bool b2, .int .i64 c2]] w fun e w' => e = .returned (.bool true) ∧ Below w.heap.size w w' := by
  have HB : Hid (Below w.heap.size w ((w.alloc (.cells #[.int .i64 k, .int .i64 x, .string s, .bool b, .int .i64 c] 25)).alloc (.cells #[.int .i64 k2, .int .i64 x2, .string s2, .bool b2, .int .i64 c2] 25))) := box2 w _ _
  have X1 : Hid (BoxAt ((w.alloc (.cells #[.int .i64 k, .int .i64 x, .string s, .bool b, .int .i64 c] 25)).alloc (.cells #[.int .i64 k2, .int .i64 x2, .string s2, .bool b2, .int .i64 c2] 25)) w.heap.size k x s b c) := blk_alloc (heap_alloc_new w _) _
  by_cases h0 : nn < 0
  · have d0 : decide (nn < 0) = true := decide_eq_true h0
    clear hn X1
    go_enter Try.func6, Try.ntmps6
    go_wp2_with (go_at_call 22; refine (lives_any _).mono ?_; rintro e w5 ⟨rfl, hb⟩; have n0_ := Lib.hid (HB.out.trans (hb.mono HB.out.size)); clear HB hb; have HB := n0_; clear n0_)
    go_ret
    exact ⟨rfl, HB.out⟩
  · have d0 : decide (nn < 0) = false := decide_eq_false h0
    by_cases h1 : 100 < nn
    · have d1 : decide (100 < nn) = true := decide_eq_true h1
      clear hn X1
      go_enter Try.func6, Try.ntmps6
      go_wp2_with (go_at_call 22; refine (lives_any _).mono ?_; rintro e w5 ⟨rfl, hb⟩; have n0_ := Lib.hid (HB.out.trans (hb.mono HB.out.size)); clear HB hb; have HB := n0_; clear n0_)
      go_ret
      exact ⟨rfl, HB.out⟩
    · have d1 : decide (100 < nn) = false := decide_eq_false h1
      have h2 : rightB k x s b c = false := hn.resolve_left h0 |>.resolve_left h1
      have z0 := blk_cell X1.out 0; have z1 := blk_cell X1.out 1; have z2 := blk_cell X1.out 2; have z3 := blk_cell X1.out 3; have z4 := blk_cell X1.out 4
      clear hn X1
      go_enter Try.func6, Try.ntmps6
      go_wp2_with (first | (go_at_call 33; refine (check_any k x s b c _).mono ?_; rw [h2]; rintro e w5 ⟨rfl, hb⟩; have n0_ := Lib.hid (HB.out.trans (hb.mono HB.out.size)); clear HB hb; have HB := n0_; clear n0_) | (go_at_call 22; refine (lives_any _).mono ?_; rintro e w5 ⟨rfl, hb⟩; have n0_ := Lib.hid (HB.out.trans (hb.mono HB.out.size)); clear HB hb; have HB := n0_; clear n0_))
      go_ret
      exact ⟨rfl, HB.out⟩
set_option maxHeartbeats 8000000 in
set_option maxRecDepth 100000 in
theorem often_main (k x : Int) (s : ByteArray) (b : Bool) (c : Int) (j : Nat) (k2 x2 : Int) (s2 : ByteArray) (b2 : Bool) (c2 : Int) (w : World) (hj : j ≤ 100) (hx : rightB k x s b c = true) (al : Bool) (hal : alikeB (k, x, s, b, c) (k2, x2, s2, b2, c2) = al) : Calls Try.prog 6 #[.agg #[.int .i64 k, .int .i64 x, .string s, .bool b, .int .i64 c], .int .i64 (j : Int), .agg #[.int .i64 k2, .int .i64 x2, .string s2, .bool b2, .int .i64 c2]] w fun e w' => e = .returned (.bool true) ∧ Below w.heap.size w w' := by
  have HB : Hid (Below w.heap.size w ((w.alloc (.cells #[.int .i64 k, .int .i64 x, .string s, .bool b, .int .i64 c] 25)).alloc (.cells #[.int .i64 k2, .int .i64 x2, .string s2, .bool b2, .int .i64 c2] 25))) := box2 w _ _
  have X1 : Hid (BoxAt ((w.alloc (.cells #[.int .i64 k, .int .i64 x, .string s, .bool b, .int .i64 c] 25)).alloc (.cells #[.int .i64 k2, .int .i64 x2, .string s2, .bool b2, .int .i64 c2] 25)) w.heap.size k x s b c) := blk_alloc (heap_alloc_new w _) _
  have X2 : Hid (BoxAt ((w.alloc (.cells #[.int .i64 k, .int .i64 x, .string s, .bool b, .int .i64 c] 25)).alloc (.cells #[.int .i64 k2, .int .i64 x2, .string s2, .bool b2, .int .i64 c2] 25)) (w.heap.size + 1) k2 x2 s2 b2 c2) := by
    have e := heap_alloc_new (w.alloc (.cells #[.int .i64 k, .int .i64 x, .string s, .bool b, .int .i64 c] 25)) (.cells #[.int .i64 k2, .int .i64 x2, .string s2, .bool b2, .int .i64 c2] 25)
    rwa [World.size_alloc] at e
  have HL : Hid (w.heap.size + 2 ≤ ((w.alloc (.cells #[.int .i64 k, .int .i64 x, .string s, .bool b, .int .i64 c] 25)).alloc (.cells #[.int .i64 k2, .int .i64 x2, .string s2, .bool b2, .int .i64 c2] 25)).heap.size) := by show _ ≤ _; simp
  have z0 := blk_cell X1.out 0; have z1 := blk_cell X1.out 1; have z2 := blk_cell X1.out 2; have z3 := blk_cell X1.out 3; have z4 := blk_cell X1.out 4
  obtain ⟨f, hf⟩ : ∃ f, foldS s = f := ⟨_, rfl⟩
  obtain ⟨h, hh⟩ : ∃ h : Val, (k, x, f, b, c) = h := ⟨_, rfl⟩
  have hhe : held (k, x, s, b, c) = h := by rw [← hh, ← hf]; rfl
  have HS : Hid (s.size ≤ 255) := small_S hx
  have HF := Lib.hid hf
  have OV : Hid (okV (k, x, s, b, c) = true) := hx
  have OF : Hid (okV (k, x, f, b, c) = true) := by have e := right_held hx; rw [hf] at e; exact e
  have R1 : Hid (∀ m, oftenR (List.replicate m h) (k, x, s, b, c) = m) := fun m => by have e := often_rep (v := (k, x, s, b, c)) hx m; rw [hhe] at e; exact e
  have R2 : Hid (∀ m, oftenR (List.replicate m h) (k, x, f, b, c) = m) := fun m => by have e := often_rep2 (v := (k, x, s, b, c)) hx m; rw [hhe, ← hh] at e; rw [← hh]; exact e
  have R3 : Hid (al = false → ∀ m, oftenR (List.replicate m h) (k2, x2, s2, b2, c2) = 0) := fun ha m => by have e := often_rep3 (v := (k, x, s, b, c)) hx (hal.trans ha) m; rw [hhe] at e; exact e
  have R4 : Hid (∀ m, kindR (List.replicate m h) k = m) := fun m => kind_rep (by rw [← hh]) m
  have R5 : Hid (∀ m, m < 4096 → addE (List.replicate m h) (k, x, s, b, c) = 0 ∧ addL (List.replicate m h) (k, x, s, b, c) = List.replicate (m + 1) h) := fun m hm => by have e := add_rep (v := (k, x, s, b, c)) hx hm; rw [hhe] at e; exact e
  have R6 : Hid (∀ m, dropE (List.replicate (m + 1) h) (k, x, f, b, c) = 0 ∧ dropL (List.replicate (m + 1) h) (k, x, f, b, c) = List.replicate m h) := fun m => by have e := drop_rep (v := (k, x, s, b, c)) hx m; rw [hhe, ← hh] at e; rw [← hh]; exact e
  have R7 : Hid (dropE (List.replicate 0 h) (k, x, s, b, c) = 8 ∧ dropL (List.replicate 0 h) (k, x, s, b, c) = List.replicate 0 h) := by have e := drop_rep0 (v := (k, x, s, b, c)) hx; rw [hhe] at e; exact e
  have AL := Lib.hid hal
  have HJ := Lib.hid hj
  have d0 : decide ((j : Int) < 0) = false := decide_eq_false (by omega)
  have d1 : decide (100 < (j : Int)) = false := decide_eq_false (by omega)
  have d2 : ¬ 100 < j := by omega
  clear hf hh hhe hal hj
  go_enter Try.func6, Try.ntmps6
  go_upto_region 4 with (first | (go_at_call 33; refine (check_any k x s b c _).mono ?_; rw [hx]; rintro e w1 ⟨rfl, hb⟩; have n0_ := Lib.hid (HB.out.trans (hb.mono HB.out.size)); have n1_ := Lib.hid (X1.out.below3 hb); have n2_ := Lib.hid (X2.out.below3 hb); have n3_ : Hid (w.heap.size + 2 ≤ w1.heap.size) := Nat.le_trans HL.out hb.size; clear HB X1 X2 HL hb z0 z1 z2 z3 z4; have HB := n0_; have X1 := n1_; have X2 := n2_; have HL := n3_; clear n0_ n1_ n2_ n3_) | (go_at_call 23; refine (Tal.new w1).mono ?_; rintro e w2 ⟨rfl, ht, hb⟩; have H := Lib.hid ht; have HBB : Hid (w1.heap.size ≤ w2.heap.size) := hb.size; have n0_ := Lib.hid (HB.out.trans (hb.mono HB.out.size)); have n1_ := Lib.hid (X1.out.below3 hb); have n2_ := Lib.hid (X2.out.below3 hb); clear HB X1 X2 hb ht; have HB := n0_; have X1 := n1_; have X2 := n2_; clear n0_ n1_ n2_))
  obtain ⟨g, hg⟩ : ∃ g, w1.heap.size + 2 = g := ⟨_, rfl⟩
  obtain ⟨B, hB⟩ : ∃ B, w1.heap.size = B := ⟨_, rfl⟩
  rw [hg] at H ⊢
  rw [hB] at H HL HBB
  clear hg hB hx d0 d1 d2
  go_wp2
  go_loopg [8] j (fun kq v wr => ∃ i : Nat, v = .int .i64 (i : Int) ∧ Hid (i + kq = j) ∧ Hid (Tal wr (fun q => B ≤ q) g i (List.replicate i h)) ∧ Hid (BoxAt wr w.heap.size k x s b c) ∧ Hid (BoxAt wr (w.heap.size + 1) k2 x2 s2 b2 c2) ∧ Hid (Below w.heap.size w wr) ∧ Hid (B ≤ wr.heap.size))
  case atStart => exact ⟨0, rfl, (Nat.zero_add j : 0 + j = j), H, X1, X2, HB, HBB⟩
  case round =>
    clear H X1 X2 HB HBB
    obtain ⟨i, rfl, hi, H, X1, X2, HB, HBB⟩ := hrel
    by_cases hlt : i < j
    · have l0 : (i : Int) < (j : Int) := by omega
      have l1 : i < j := hlt
      have wi : wrap64 ((i : Int) + 1) = (i : Int) + 1 := by have := HJ.out; unfold wrap64; omega
      have z0 := blk_cell X1.out 0; have z1 := blk_cell X1.out 1; have z2 := blk_cell X1.out 2; have z3 := blk_cell X1.out 3; have z4 := blk_cell X1.out 4
      have HI := Lib.hid hlt
      clear hlt
      go_wp2_with (go_at_call 14; refine (H.out.add (k, x, s, b, c) (by have := HI.out; have := HJ.out; omega) (fun q hq => Nat.le_trans HBB.out hq)).mono ?_; rw [(R5.out i (by have := HI.out; have := HJ.out; omega)).1, (R5.out i (by have := HI.out; have := HJ.out; omega)).2]; rintro e w3 ⟨rfl, ht, hk⟩; have H3 := Lib.hid ht; have X3 := Lib.hid (X1.out.kept hk (by have := HL.out; show ¬ _ ≤ _; omega)); have Y3 := Lib.hid (X2.out.kept hk (by have := HL.out; show ¬ _ ≤ _; omega)); have HB3 : Hid (Below w.heap.size w w3) := HB.out.trans (hk.below HB.out.size (fun q hq => by have := HL.out; omega)); have HBB3 : Hid (B ≤ w3.heap.size) := Nat.le_trans HBB.out hk.size; clear ht hk)
      go_roundg (gk - 1)
      case measure => have := hi.out; have := HI.out; omega
      case rel => exact ⟨i + 1, congrArg _ wi, (by have := hi.out; have := HI.out; omega : i + 1 + (gk - 1) = j), H3, X3, Y3, HB3, HBB3⟩
    · have e : i = j := by have := hi.out; omega
      have l1 : ¬ i < j := hlt
      subst e
      clear hi hlt
      have z0 := blk_cell X1.out 0; have z1 := blk_cell X1.out 1; have z2 := blk_cell X1.out 2; have z3 := blk_cell X1.out 3; have z4 := blk_cell X1.out 4
      go_upto_region 12 with fail
      have HA : Hid (Below wr.heap.size wr (wr.alloc (.cells #[.int .i64 k, .int .i64 x, .string s, .bool b, .int .i64 c] 25))) := (Below.refl _ _).alloc (Nat.le_refl _) _
      have H5 : Hid (Tal (wr.alloc (.cells #[.int .i64 k, .int .i64 x, .string s, .bool b, .int .i64 c] 25)) (fun q => B ≤ q ∧ q ≠ wr.heap.size) g i (List.replicate i h)) := (H.out.narrow (S' := fun q => B ≤ q ∧ q ≠ wr.heap.size) (fun q h1 h2 => ⟨h1, Nat.ne_of_lt h2⟩)).below HA.out
      have X5 := Lib.hid (X1.out.below3 HA.out)
      have Y5 := Lib.hid (X2.out.below3 HA.out)
      have V5 : Hid (BoxAt (wr.alloc (.cells #[.int .i64 k, .int .i64 x, .string s, .bool b, .int .i64 c] 25)) wr.heap.size k x s b c) := heap_alloc_new wr _
      have HB5 := Lib.hid (HB.out.trans (HA.out.mono HB.out.size))
      have HS5 : Hid (wr.heap.size + 1 ≤ (wr.alloc (.cells #[.int .i64 k, .int .i64 x, .string s, .bool b, .int .i64 c] 25)).heap.size) := by show _ ≤ _; simp
      clear H X1 X2 HB HA z0 z1 z2 z3 z4
      generalize wr.alloc (.cells #[.int .i64 k, .int .i64 x, .string s, .bool b, .int .i64 c] 25) = w5 at H5 X5 Y5 V5 HB5 HS5 ⊢
      generalize wr.heap.size = q9 at H5 V5 HS5 HBB ⊢
      have z2 : w5.cell? ⟨w.heap.size, 2, none⟩ = some (.string s) := (blk_cell X5.out 2).trans rfl
      go_upto_region 13 with (go_at_call 34; refine (fold_any s (Nat.le_trans HS.out (by decide)) w5).mono ?_; rintro e w6 ⟨rfl, hb⟩; rw [HF.out]; have H6 := Lib.hid (H5.out.below hb); have X6 := Lib.hid (X5.out.below3 hb); have Y6 := Lib.hid (Y5.out.below3 hb); have V6 := Lib.hid (V5.out.below3 hb); have HB6 := Lib.hid (HB5.out.trans (hb.mono HB5.out.size)); have HS6 : Hid (q9 + 1 ≤ w6.heap.size) := Nat.le_trans HS5.out hb.size; have f9 : w6.frozen? ⟨q9, 2, none⟩ = false := blk_frozen V6.out 2; have c9 : w6.cell? ⟨q9, 2, none⟩ = some (.string s) := (blk_cell V6.out 2).trans rfl; clear hb H5 X5 Y5 V5 HB5 HS5 z2)
      clear f9 c9
      have H : Hid (Tal (w6.setCell ⟨q9, 2, none⟩ (.string f)) (fun q => B ≤ q ∧ q ≠ q9) g i (List.replicate i h)) := H6.out.kept ((Keeps.refl (fun q => q = q9) w6).setCell (p := ⟨q9, 2, none⟩) rfl _) (fun q h1 _ e => h1.2 e)
      have X1 : Hid (BoxAt (w6.setCell ⟨q9, 2, none⟩ (.string f)) w.heap.size k x s b c) := X6.out.far (p := ⟨q9, 2, none⟩) (by have := HBB.out; have := HL.out; show _ ≠ q9; omega) _
      have X2 : Hid (BoxAt (w6.setCell ⟨q9, 2, none⟩ (.string f)) (w.heap.size + 1) k2 x2 s2 b2 c2) := Y6.out.far (p := ⟨q9, 2, none⟩) (by have := HBB.out; have := HL.out; show _ ≠ q9; omega) _
      have X9 : Hid (BoxAt (w6.setCell ⟨q9, 2, none⟩ (.string f)) q9 k x f b c) := blk_put V6.out 2 _ rfl
      have HB : Hid (Below w.heap.size w (w6.setCell ⟨q9, 2, none⟩ (.string f))) := HB6.out.setCell (p := ⟨q9, 2, none⟩) (by have := HBB.out; have := HL.out; show _ ≤ q9; omega) _
      have HQ : Hid (q9 + 1 ≤ (w6.setCell ⟨q9, 2, none⟩ (.string f)).heap.size) := by rw [show (w6.setCell ⟨q9, 2, none⟩ (.string f)).heap.size = w6.heap.size by simp [World.setCell]]; exact HS6
      clear H6 X6 Y6 V6 HB6 HS6
      generalize w6.setCell ⟨q9, 2, none⟩ (.string f) = w7 at H X1 X2 X9 HB HQ ⊢
      have z0 := blk_cell X1.out 0; have z1 := blk_cell X1.out 1; have z2 := blk_cell X1.out 2; have z3 := blk_cell X1.out 3; have z4 := blk_cell X1.out 4
      have y0 := blk_cell X2.out 0; have y1 := blk_cell X2.out 1; have y2 := blk_cell X2.out 2; have y3 := blk_cell X2.out 3; have y4 := blk_cell X2.out 4
      have v0 := blk_cell X9.out 0; have v1 := blk_cell X9.out 1; have v2 := blk_cell X9.out 2; have v3 := blk_cell X9.out 3; have v4 := blk_cell X9.out 4
      have HQ' := HQ
      clear HQ
      have FA : Hid True := trivial
      have FB : Hid True := trivial
      cases al
      · have r3 := R3.out rfl
        go_upto_region 15 with (first | (go_at_call 20; have _q := FA; clear _q FA; refine (H.out.oftenEq (k, x, s, b, c) i (R1.out i)).mono ?_; rintro e w8 ⟨rfl, hb⟩; have n6_ := Lib.hid hb.size; have n0_ := Lib.hid (HB.out.trans (hb.mono HB.out.size)); have n1_ := Lib.hid (H.out.below hb); have n2_ := Lib.hid (X1.out.below3 hb); have n3_ := Lib.hid (X2.out.below3 hb); have n4_ := Lib.hid (X9.out.below3 hb); clear H HB X1 X2 X9 hb z0 z1 z2 z3 z4 y0 y1 y2 y3 y4 v0 v1 v2 v3 v4; have H := n1_; have n5_ : Hid (q9 + 1 ≤ w8.heap.size) := Nat.le_trans HQ'.out n6_.out; clear HQ'; have HQ' := n5_; clear n5_ n6_; have HB := n0_; have X1 := n2_; have X2 := n3_; have X9 := n4_; clear n0_ n1_ n2_ n3_ n4_; have z0 := blk_cell X1.out 0; have z1 := blk_cell X1.out 1; have z2 := blk_cell X1.out 2; have z3 := blk_cell X1.out 3; have z4 := blk_cell X1.out 4; have y0 := blk_cell X2.out 0; have y1 := blk_cell X2.out 1; have y2 := blk_cell X2.out 2; have y3 := blk_cell X2.out 3; have y4 := blk_cell X2.out 4; have v0 := blk_cell X9.out 0; have v1 := blk_cell X9.out 1; have v2 := blk_cell X9.out 2; have v3 := blk_cell X9.out 3; have v4 := blk_cell X9.out 4) | (go_at_call 20; have _q := FB; clear _q FB; refine (H.out.oftenEq (k, x, f, b, c) i (R2.out i)).mono ?_; rintro e w8 ⟨rfl, hb⟩; have n6_ := Lib.hid hb.size; have n0_ := Lib.hid (HB.out.trans (hb.mono HB.out.size)); have n1_ := Lib.hid (H.out.below hb); have n2_ := Lib.hid (X1.out.below3 hb); have n3_ := Lib.hid (X2.out.below3 hb); have n4_ := Lib.hid (X9.out.below3 hb); clear H HB X1 X2 X9 hb z0 z1 z2 z3 z4 y0 y1 y2 y3 y4 v0 v1 v2 v3 v4; have H := n1_; have n5_ : Hid (q9 + 1 ≤ w8.heap.size) := Nat.le_trans HQ'.out n6_.out; clear HQ'; have HQ' := n5_; clear n5_ n6_; have HB := n0_; have X1 := n2_; have X2 := n3_; have X9 := n4_; clear n0_ n1_ n2_ n3_ n4_; have z0 := blk_cell X1.out 0; have z1 := blk_cell X1.out 1; have z2 := blk_cell X1.out 2; have z3 := blk_cell X1.out 3; have z4 := blk_cell X1.out 4; have y0 := blk_cell X2.out 0; have y1 := blk_cell X2.out 1; have y2 := blk_cell X2.out 2; have y3 := blk_cell X2.out 3; have y4 := blk_cell X2.out 4; have v0 := blk_cell X9.out 0; have v1 := blk_cell X9.out 1; have v2 := blk_cell X9.out 2; have v3 := blk_cell X9.out 3; have v4 := blk_cell X9.out 4) | (go_at_call 20; refine (H.out.oftenEq (k2, x2, s2, b2, c2) 0 (r3 i)).mono ?_; rintro e w8 ⟨rfl, hb⟩; have n6_ := Lib.hid hb.size; have n0_ := Lib.hid (HB.out.trans (hb.mono HB.out.size)); have n1_ := Lib.hid (H.out.below hb); have n2_ := Lib.hid (X1.out.below3 hb); have n3_ := Lib.hid (X2.out.below3 hb); have n4_ := Lib.hid (X9.out.below3 hb); clear H HB X1 X2 X9 hb z0 z1 z2 z3 z4 y0 y1 y2 y3 y4 v0 v1 v2 v3 v4; have H := n1_; have n5_ : Hid (q9 + 1 ≤ w8.heap.size) := Nat.le_trans HQ'.out n6_.out; clear HQ'; have HQ' := n5_; clear n5_ n6_; have HB := n0_; have X1 := n2_; have X2 := n3_; have X9 := n4_; clear n0_ n1_ n2_ n3_ n4_; have z0 := blk_cell X1.out 0; have z1 := blk_cell X1.out 1; have z2 := blk_cell X1.out 2; have z3 := blk_cell X1.out 3; have z4 := blk_cell X1.out 4; have y0 := blk_cell X2.out 0; have y1 := blk_cell X2.out 1; have y2 := blk_cell X2.out 2; have y3 := blk_cell X2.out 3; have y4 := blk_cell X2.out 4; have v0 := blk_cell X9.out 0; have v1 := blk_cell X9.out 1; have v2 := blk_cell X9.out 2; have v3 := blk_cell X9.out 3; have v4 := blk_cell X9.out 4) | (go_at_call 16; refine (H.out.countEq k i (R4.out i)).mono ?_; rintro e w8 ⟨rfl, rfl⟩) | (go_at_call 17; refine (H.out.allEq i (List.length_replicate)).mono ?_; rintro e w8 ⟨rfl, rfl⟩) | (go_at_call 35; refine (alikeEq AL.out _).mono ?_; rintro e w8 ⟨rfl, hb⟩; have n6_ := Lib.hid hb.size; have n0_ := Lib.hid (HB.out.trans (hb.mono HB.out.size)); have n1_ := Lib.hid (H.out.below hb); have n2_ := Lib.hid (X1.out.below3 hb); have n3_ := Lib.hid (X2.out.below3 hb); have n4_ := Lib.hid (X9.out.below3 hb); clear H HB X1 X2 X9 hb z0 z1 z2 z3 z4 y0 y1 y2 y3 y4 v0 v1 v2 v3 v4; have H := n1_; have n5_ : Hid (q9 + 1 ≤ w8.heap.size) := Nat.le_trans HQ'.out n6_.out; clear HQ'; have HQ' := n5_; clear n5_ n6_; have HB := n0_; have X1 := n2_; have X2 := n3_; have X9 := n4_; clear n0_ n1_ n2_ n3_ n4_; have z0 := blk_cell X1.out 0; have z1 := blk_cell X1.out 1; have z2 := blk_cell X1.out 2; have z3 := blk_cell X1.out 3; have z4 := blk_cell X1.out 4; have y0 := blk_cell X2.out 0; have y1 := blk_cell X2.out 1; have y2 := blk_cell X2.out 2; have y3 := blk_cell X2.out 3; have y4 := blk_cell X2.out 4; have v0 := blk_cell X9.out 0; have v1 := blk_cell X9.out 1; have v2 := blk_cell X9.out 2; have v3 := blk_cell X9.out 3; have v4 := blk_cell X9.out 4))
        clear r3 y0 y1 y2 y3 y4 z0 z1 z2 z3 z4 AL R3
        clear X2
        go_wp2
        go_loopg [10] i (fun kq v wr => ∃ m : Nat, v = .int .i64 (m : Int) ∧ Hid (m + kq = i) ∧ Hid (Tal wr (fun q => B ≤ q ∧ q ≠ q9) g (i + m) (List.replicate kq h)) ∧ Hid (BoxAt wr w.heap.size k x s b c) ∧ Hid (BoxAt wr q9 k x f b c) ∧ Hid (Below w.heap.size w wr) ∧ Hid (q9 + 1 ≤ wr.heap.size))
        case atStart => exact ⟨0, rfl, (Nat.zero_add i : 0 + i = i), H, X1, X9, HB, HQ'⟩
        case round =>
          clear H X1 X9 HB HQ' v0 v1 v2 v3 v4
          obtain ⟨m, rfl, hi, H, X1, X9, HB, HQ'⟩ := hrel
          by_cases hlt : m < i
          · have l0 : (m : Int) < (i : Int) := by omega
            have l2 : m < i := hlt
            have wi : wrap64 ((m : Int) + 1) = (m : Int) + 1 := by have := HJ.out; unfold wrap64; omega
            have v0 := blk_cell X9.out 0; have v1 := blk_cell X9.out 1; have v2 := blk_cell X9.out 2; have v3 := blk_cell X9.out 3; have v4 := blk_cell X9.out 4
            obtain ⟨d, hd⟩ : ∃ d, gk = d + 1 := ⟨gk - 1, by have := hi.out; omega⟩
            have HD := Lib.hid hd
            have HI := Lib.hid hlt
            have H3 : Hid (Tal wr (fun q => B ≤ q ∧ q ≠ q9) g (i + m) (List.replicate (d + 1) h)) := by rw [← HD.out]; exact H
            clear hlt hd H
            go_wp2_with (go_at_call 15; refine (H3.out.dropEq (k, x, f, b, c) (by have := HI.out; have := HJ.out; omega) (fun q hq => ⟨by have := HBB.out; have := HQ'.out; omega, by have := HQ'.out; omega⟩) (R6.out d)).mono ?_; rintro e w9 ⟨rfl, ht, hk⟩; have H9 := Lib.hid ht; have X3 := Lib.hid (X1.out.kept hk (fun z => by have := HL.out; have := z.1; omega)); have Y3 := Lib.hid (X9.out.kept hk (fun z => z.2 rfl)); have HB3 : Hid (Below w.heap.size w w9) := HB.out.trans (hk.below HB.out.size (fun q hq => by have := HL.out; have := hq.1; omega)); have HQ3 : Hid (q9 + 1 ≤ w9.heap.size) := Nat.le_trans HQ'.out hk.size; clear ht hk)
            go_roundg d
            case measure => have := HD.out; omega
            case rel => exact ⟨m + 1, congrArg _ wi, (by have := hi.out; have := HD.out; omega : m + 1 + d = i), H9, X3, Y3, HB3, HQ3⟩
          · have e : m = i := by have := hi.out; omega
            have l2 : ¬ m < i := hlt
            have e0 : gk = 0 := by have := hi.out; omega
            have H3 : Hid (Tal wr (fun q => B ≤ q ∧ q ≠ q9) g (i + m) (List.replicate 0 h)) := by rw [← e0]; exact H
            subst e
            clear hi hlt e0 H
            have z0 := blk_cell X1.out 0; have z1 := blk_cell X1.out 1; have z2 := blk_cell X1.out 2; have z3 := blk_cell X1.out 3; have z4 := blk_cell X1.out 4
            have FC : Hid True := trivial
            have R8 : Hid (oftenR (List.replicate 0 h) (k, x, s, b, c) = 0) := R1.out 0
            go_wp2_with (first | (go_at_call 15; refine (H3.out.dropEq (k, x, s, b, c) (by have := HJ.out; omega) (fun q hq => ⟨by have := HBB.out; have := HQ'.out; omega, by have := HQ'.out; omega⟩) R7.out).mono ?_; rintro e w9 ⟨rfl, ht, hk⟩; have H9 := Lib.hid ht; have n2_ := Lib.hid (X1.out.kept hk (fun z => by have := HL.out; have := z.1; omega)); have n0_ : Hid (Below w.heap.size w w9) := HB.out.trans (hk.below HB.out.size (fun q hq => by have := HL.out; have := hq.1; omega)); clear ht hk H3 X1 HB z0 z1 z2 z3 z4; have X1 := n2_; have HB := n0_; clear n0_ n2_; have z0 := blk_cell X1.out 0; have z1 := blk_cell X1.out 1; have z2 := blk_cell X1.out 2; have z3 := blk_cell X1.out 3; have z4 := blk_cell X1.out 4) | (go_at_call 17; refine (H9.out.allEq 0 rfl).mono ?_; rintro e w8 ⟨rfl, rfl⟩) | (go_at_call 20; refine (H9.out.oftenEq (k, x, s, b, c) 0 R8.out).mono ?_; rintro e w8 ⟨rfl, hb⟩; have n0_ := Lib.hid (HB.out.trans (hb.mono HB.out.size)); clear HB hb z0 z1 z2 z3 z4; have HB := n0_; clear n0_) | (go_at_call 22; refine (lives_any _).mono ?_; rintro e w5 ⟨rfl, hb⟩; have n0_ := Lib.hid (HB.out.trans (hb.mono HB.out.size)); clear HB hb; have HB := n0_; clear n0_))
            go_ret
            exact ⟨rfl, HB.out⟩
      · go_upto_region 15 with (first | (go_at_call 20; have _q := FA; clear _q FA; refine (H.out.oftenEq (k, x, s, b, c) i (R1.out i)).mono ?_; rintro e w8 ⟨rfl, hb⟩; have n6_ := Lib.hid hb.size; have n0_ := Lib.hid (HB.out.trans (hb.mono HB.out.size)); have n1_ := Lib.hid (H.out.below hb); have n2_ := Lib.hid (X1.out.below3 hb); have n3_ := Lib.hid (X2.out.below3 hb); have n4_ := Lib.hid (X9.out.below3 hb); clear H HB X1 X2 X9 hb z0 z1 z2 z3 z4 y0 y1 y2 y3 y4 v0 v1 v2 v3 v4; have H := n1_; have n5_ : Hid (q9 + 1 ≤ w8.heap.size) := Nat.le_trans HQ'.out n6_.out; clear HQ'; have HQ' := n5_; clear n5_ n6_; have HB := n0_; have X1 := n2_; have X2 := n3_; have X9 := n4_; clear n0_ n1_ n2_ n3_ n4_; have z0 := blk_cell X1.out 0; have z1 := blk_cell X1.out 1; have z2 := blk_cell X1.out 2; have z3 := blk_cell X1.out 3; have z4 := blk_cell X1.out 4; have y0 := blk_cell X2.out 0; have y1 := blk_cell X2.out 1; have y2 := blk_cell X2.out 2; have y3 := blk_cell X2.out 3; have y4 := blk_cell X2.out 4; have v0 := blk_cell X9.out 0; have v1 := blk_cell X9.out 1; have v2 := blk_cell X9.out 2; have v3 := blk_cell X9.out 3; have v4 := blk_cell X9.out 4) | (go_at_call 20; have _q := FB; clear _q FB; refine (H.out.oftenEq (k, x, f, b, c) i (R2.out i)).mono ?_; rintro e w8 ⟨rfl, hb⟩; have n6_ := Lib.hid hb.size; have n0_ := Lib.hid (HB.out.trans (hb.mono HB.out.size)); have n1_ := Lib.hid (H.out.below hb); have n2_ := Lib.hid (X1.out.below3 hb); have n3_ := Lib.hid (X2.out.below3 hb); have n4_ := Lib.hid (X9.out.below3 hb); clear H HB X1 X2 X9 hb z0 z1 z2 z3 z4 y0 y1 y2 y3 y4 v0 v1 v2 v3 v4; have H := n1_; have n5_ : Hid (q9 + 1 ≤ w8.heap.size) := Nat.le_trans HQ'.out n6_.out; clear HQ'; have HQ' := n5_; clear n5_ n6_; have HB := n0_; have X1 := n2_; have X2 := n3_; have X9 := n4_; clear n0_ n1_ n2_ n3_ n4_; have z0 := blk_cell X1.out 0; have z1 := blk_cell X1.out 1; have z2 := blk_cell X1.out 2; have z3 := blk_cell X1.out 3; have z4 := blk_cell X1.out 4; have y0 := blk_cell X2.out 0; have y1 := blk_cell X2.out 1; have y2 := blk_cell X2.out 2; have y3 := blk_cell X2.out 3; have y4 := blk_cell X2.out 4; have v0 := blk_cell X9.out 0; have v1 := blk_cell X9.out 1; have v2 := blk_cell X9.out 2; have v3 := blk_cell X9.out 3; have v4 := blk_cell X9.out 4) | (go_at_call 16; refine (H.out.countEq k i (R4.out i)).mono ?_; rintro e w8 ⟨rfl, rfl⟩) | (go_at_call 17; refine (H.out.allEq i (List.length_replicate)).mono ?_; rintro e w8 ⟨rfl, rfl⟩) | (go_at_call 35; refine (alikeEq AL.out _).mono ?_; rintro e w8 ⟨rfl, hb⟩; have n6_ := Lib.hid hb.size; have n0_ := Lib.hid (HB.out.trans (hb.mono HB.out.size)); have n1_ := Lib.hid (H.out.below hb); have n2_ := Lib.hid (X1.out.below3 hb); have n3_ := Lib.hid (X2.out.below3 hb); have n4_ := Lib.hid (X9.out.below3 hb); clear H HB X1 X2 X9 hb z0 z1 z2 z3 z4 y0 y1 y2 y3 y4 v0 v1 v2 v3 v4; have H := n1_; have n5_ : Hid (q9 + 1 ≤ w8.heap.size) := Nat.le_trans HQ'.out n6_.out; clear HQ'; have HQ' := n5_; clear n5_ n6_; have HB := n0_; have X1 := n2_; have X2 := n3_; have X9 := n4_; clear n0_ n1_ n2_ n3_ n4_; have z0 := blk_cell X1.out 0; have z1 := blk_cell X1.out 1; have z2 := blk_cell X1.out 2; have z3 := blk_cell X1.out 3; have z4 := blk_cell X1.out 4; have y0 := blk_cell X2.out 0; have y1 := blk_cell X2.out 1; have y2 := blk_cell X2.out 2; have y3 := blk_cell X2.out 3; have y4 := blk_cell X2.out 4; have v0 := blk_cell X9.out 0; have v1 := blk_cell X9.out 1; have v2 := blk_cell X9.out 2; have v3 := blk_cell X9.out 3; have v4 := blk_cell X9.out 4))
        clear y0 y1 y2 y3 y4 z0 z1 z2 z3 z4 AL R3
        clear X2
        go_wp2
        go_loopg [10] i (fun kq v wr => ∃ m : Nat, v = .int .i64 (m : Int) ∧ Hid (m + kq = i) ∧ Hid (Tal wr (fun q => B ≤ q ∧ q ≠ q9) g (i + m) (List.replicate kq h)) ∧ Hid (BoxAt wr w.heap.size k x s b c) ∧ Hid (BoxAt wr q9 k x f b c) ∧ Hid (Below w.heap.size w wr) ∧ Hid (q9 + 1 ≤ wr.heap.size))
        case atStart => exact ⟨0, rfl, (Nat.zero_add i : 0 + i = i), H, X1, X9, HB, HQ'⟩
        case round =>
          clear H X1 X9 HB HQ' v0 v1 v2 v3 v4
          obtain ⟨m, rfl, hi, H, X1, X9, HB, HQ'⟩ := hrel
          by_cases hlt : m < i
          · have l0 : (m : Int) < (i : Int) := by omega
            have l2 : m < i := hlt
            have wi : wrap64 ((m : Int) + 1) = (m : Int) + 1 := by have := HJ.out; unfold wrap64; omega
            have v0 := blk_cell X9.out 0; have v1 := blk_cell X9.out 1; have v2 := blk_cell X9.out 2; have v3 := blk_cell X9.out 3; have v4 := blk_cell X9.out 4
            obtain ⟨d, hd⟩ : ∃ d, gk = d + 1 := ⟨gk - 1, by have := hi.out; omega⟩
            have HD := Lib.hid hd
            have HI := Lib.hid hlt
            have H3 : Hid (Tal wr (fun q => B ≤ q ∧ q ≠ q9) g (i + m) (List.replicate (d + 1) h)) := by rw [← HD.out]; exact H
            clear hlt hd H
            go_wp2_with (go_at_call 15; refine (H3.out.dropEq (k, x, f, b, c) (by have := HI.out; have := HJ.out; omega) (fun q hq => ⟨by have := HBB.out; have := HQ'.out; omega, by have := HQ'.out; omega⟩) (R6.out d)).mono ?_; rintro e w9 ⟨rfl, ht, hk⟩; have H9 := Lib.hid ht; have X3 := Lib.hid (X1.out.kept hk (fun z => by have := HL.out; have := z.1; omega)); have Y3 := Lib.hid (X9.out.kept hk (fun z => z.2 rfl)); have HB3 : Hid (Below w.heap.size w w9) := HB.out.trans (hk.below HB.out.size (fun q hq => by have := HL.out; have := hq.1; omega)); have HQ3 : Hid (q9 + 1 ≤ w9.heap.size) := Nat.le_trans HQ'.out hk.size; clear ht hk)
            go_roundg d
            case measure => have := HD.out; omega
            case rel => exact ⟨m + 1, congrArg _ wi, (by have := hi.out; have := HD.out; omega : m + 1 + d = i), H9, X3, Y3, HB3, HQ3⟩
          · have e : m = i := by have := hi.out; omega
            have l2 : ¬ m < i := hlt
            have e0 : gk = 0 := by have := hi.out; omega
            have H3 : Hid (Tal wr (fun q => B ≤ q ∧ q ≠ q9) g (i + m) (List.replicate 0 h)) := by rw [← e0]; exact H
            subst e
            clear hi hlt e0 H
            have z0 := blk_cell X1.out 0; have z1 := blk_cell X1.out 1; have z2 := blk_cell X1.out 2; have z3 := blk_cell X1.out 3; have z4 := blk_cell X1.out 4
            have FC : Hid True := trivial
            have R8 : Hid (oftenR (List.replicate 0 h) (k, x, s, b, c) = 0) := R1.out 0
            go_wp2_with (first | (go_at_call 15; refine (H3.out.dropEq (k, x, s, b, c) (by have := HJ.out; omega) (fun q hq => ⟨by have := HBB.out; have := HQ'.out; omega, by have := HQ'.out; omega⟩) R7.out).mono ?_; rintro e w9 ⟨rfl, ht, hk⟩; have H9 := Lib.hid ht; have n2_ := Lib.hid (X1.out.kept hk (fun z => by have := HL.out; have := z.1; omega)); have n0_ : Hid (Below w.heap.size w w9) := HB.out.trans (hk.below HB.out.size (fun q hq => by have := HL.out; have := hq.1; omega)); clear ht hk H3 X1 HB z0 z1 z2 z3 z4; have X1 := n2_; have HB := n0_; clear n0_ n2_; have z0 := blk_cell X1.out 0; have z1 := blk_cell X1.out 1; have z2 := blk_cell X1.out 2; have z3 := blk_cell X1.out 3; have z4 := blk_cell X1.out 4) | (go_at_call 17; refine (H9.out.allEq 0 rfl).mono ?_; rintro e w8 ⟨rfl, rfl⟩) | (go_at_call 20; refine (H9.out.oftenEq (k, x, s, b, c) 0 R8.out).mono ?_; rintro e w8 ⟨rfl, hb⟩; have n0_ := Lib.hid (HB.out.trans (hb.mono HB.out.size)); clear HB hb z0 z1 z2 z3 z4; have HB := n0_; clear n0_) | (go_at_call 22; refine (lives_any _).mono ?_; rintro e w5 ⟨rfl, hb⟩; have n0_ := Lib.hid (HB.out.trans (hb.mono HB.out.size)); clear HB hb; have HB := n0_; clear n0_))
            go_ret
            exact ⟨rfl, HB.out⟩
theorem often_law (k x : Int) (s : ByteArray) (b : Bool) (c : Int) (nn : Int) (k2 x2 : Int) (s2 : ByteArray) (b2 : Bool) (c2 : Int) (w : World) : Calls Try.prog 6 #[.agg #[.int .i64 k, .int .i64 x, .string s, .bool b, .int .i64 c], .int .i64 nn, .agg #[.int .i64 k2, .int .i64 x2, .string s2, .bool b2, .int .i64 c2]] w fun e w' => e = .returned (.bool true) ∧ Below w.heap.size w w' := by
  by_cases h : nn < 0 ∨ 100 < nn ∨ rightB k x s b c = false
  · exact often_out k x s b c nn k2 x2 s2 b2 c2 w h
  · obtain ⟨j, rfl⟩ : ∃ j : Nat, nn = (j : Int) := ⟨nn.toNat, by omega⟩
    refine often_main k x s b c j k2 x2 s2 b2 c2 w (by omega) ?_ _ rfl
    cases e : rightB k x s b c
    · exact absurd (.inr (.inr e)) h
    · rfl
end Go.Proofs.Ytjhinakfoejpbaa.T
