/- Values that are alike; a value, many times. No condition stands open. -/
import Derived.Test.YtjhinakfoejpbaaJ4
import Derived.Test.YtjhinakfoejpbaaPGx1
set_option linter.unusedVariables false
set_option linter.unusedSimpArgs false
/- Values that are alike. No condition stands open. -/
namespace Go.Proofs.Ytjhinakfoejpbaa.T
open Go.RowKit Go.Proofs.Ytjhinakfoejpbaa.WPure Go.Proofs.YtjhinakfoejpbaaW.PrintWords Go.Proofs.YtjhinakfoejpbaaW.PrintLast Go.Proofs.YtjhinakfoejpbaaW.PrintMore
attribute [local go_sem high] PG.eqA25
def alikeB (x y : Val) : Bool := okV x && (okV y && decide (held x = held y))
theorem beq_held (k x : Int) (s : ByteArray) (b : Bool) (c : Int) (k2 x2 : Int) (s2 : ByteArray) (b2 : Bool) (c2 : Int) : (k == k2 && (x == x2 && (s.toList == s2.toList && (b == b2 && c == c2)))) = decide ((k, x, s, b, c) = (k2, x2, s2, b2, c2)) := by
  rw [Bool.eq_iff_iff, decide_eq_true_iff]
  simp only [Bool.and_eq_true, beq_iff_eq, Prod.mk.injEq]
  constructor
  · rintro ⟨h1, h2, h3, h4, h5⟩
    exact ⟨h1, h2, toList_inj h3, h4, h5⟩
  · rintro ⟨h1, h2, h3, h4, h5⟩
    exact ⟨h1, h2, by rw [h3], h4, h5⟩
set_option maxHeartbeats 4000000 in
set_option maxRecDepth 100000 in
theorem alike_bad (k x : Int) (s : ByteArray) (b : Bool) (c : Int) (k2 x2 : Int) (s2 : ByteArray) (b2 : Bool) (c2 : Int) (hx : ¬ (rightB k x s b c = true ∧ rightB k2 x2 s2 b2 c2 = true)) (w : World) : Calls Try.prog 35 #[.agg #[.int .i64 k, .int .i64 x, .string s, .bool b, .int .i64 c], .agg #[.int .i64 k2, .int .i64 x2, .string s2, .bool b2, .int .i64 c2]] w fun e w' => e = .returned (.bool false) ∧ Below w.heap.size w w' := by
  have HB : Hid (Below w.heap.size w ((w.alloc (.cells #[.int .i64 k, .int .i64 x, .string s, .bool b, .int .i64 c] 25)).alloc (.cells #[.int .i64 k2, .int .i64 x2, .string s2, .bool b2, .int .i64 c2] 25))) := box2 w _ _
  have X2 : Hid (BoxAt ((w.alloc (.cells #[.int .i64 k, .int .i64 x, .string s, .bool b, .int .i64 c] 25)).alloc (.cells #[.int .i64 k2, .int .i64 x2, .string s2, .bool b2, .int .i64 c2] 25)) (w.heap.size + 1) k2 x2 s2 b2 c2) := by
    have e := heap_alloc_new (w.alloc (.cells #[.int .i64 k, .int .i64 x, .string s, .bool b, .int .i64 c] 25)) (.cells #[.int .i64 k2, .int .i64 x2, .string s2, .bool b2, .int .i64 c2] 25)
    rwa [World.size_alloc] at e
  cases h1 : rightB k x s b c
  · clear hx
    go_enter Try.func35, Try.ntmps35
    go_wp2_with (go_at_call 33; refine (check_any k x s b c _).mono ?_; rw [h1]; rintro e w2 ⟨rfl, hb⟩; have n0_ := Lib.hid (HB.out.trans (hb.mono HB.out.size)); clear HB hb; have HB := n0_; clear n0_)
    go_ret
    exact ⟨rfl, HB.out⟩
  · have h2 : rightB k2 x2 s2 b2 c2 = false := by
      cases h : rightB k2 x2 s2 b2 c2
      · rfl
      · exact absurd ⟨h1, h⟩ hx
    clear hx
    have FLAG : Hid True := trivial
    go_enter Try.func35, Try.ntmps35
    go_wp2_with (first | (go_at_call 33; have _q := FLAG; clear _q FLAG; refine (check_any k x s b c _).mono ?_; rw [h1]; rintro e w2 ⟨rfl, hb⟩; have n2_ : Hid (BoxAt w2 (w.heap.size + 1) k2 x2 s2 b2 c2) := (hb.block _ (blk_lt X2.out)).trans X2.out; have z0 := blk_cell n2_.out 0; have z1 := blk_cell n2_.out 1; have z2 := blk_cell n2_.out 2; have z3 := blk_cell n2_.out 3; have z4 := blk_cell n2_.out 4; clear X2; have X2 := n2_; clear n2_; have n0_ := Lib.hid (HB.out.trans (hb.mono HB.out.size)); clear HB hb; have HB := n0_; clear n0_) | (go_at_call 33; refine (check_any k2 x2 s2 b2 c2 _).mono ?_; rw [h2]; rintro e w2 ⟨rfl, hb⟩; have n0_ := Lib.hid (HB.out.trans (hb.mono HB.out.size)); clear HB hb; have HB := n0_; clear n0_))
    go_ret
    exact ⟨rfl, HB.out⟩
theorem small_S {k x : Int} {s : ByteArray} {b : Bool} {c : Int} (h : rightB k x s b c = true) : s.size ≤ 255 := by
  have e := okK (y := (k, x, s, b, c)) h
  have z : ∀ t : ByteArray, t = ⟨#[]⟩ → t.size ≤ 255 := fun t ht => by subst ht; decide
  rcases e with ⟨_, e⟩ | ⟨_, e⟩ | ⟨e0, e⟩ | ⟨_, e⟩ | ⟨_, e, _⟩
  · exact z s (congrArg (fun y : Val => y.2.2.1) e)
  · exact z s (congrArg (fun y : Val => y.2.2.1) e)
  · have e1 : k = 2 := e0
    subst e1
    exact (right2 h).1
  · exact z s (congrArg (fun y : Val => y.2.2.1) e)
  · exact z s (congrArg (fun y : Val => y.2.2.1) e)
set_option maxHeartbeats 8000000 in
set_option maxRecDepth 100000 in
theorem alike_ok (k x : Int) (s : ByteArray) (b : Bool) (c : Int) (k2 x2 : Int) (s2 : ByteArray) (b2 : Bool) (c2 : Int) (h1 : rightB k x s b c = true) (h2 : rightB k2 x2 s2 b2 c2 = true) (w : World) : Calls Try.prog 35 #[.agg #[.int .i64 k, .int .i64 x, .string s, .bool b, .int .i64 c], .agg #[.int .i64 k2, .int .i64 x2, .string s2, .bool b2, .int .i64 c2]] w fun e w' => e = .returned (.bool (decide ((k, x, foldS s, b, c) = (k2, x2, foldS s2, b2, c2)))) ∧ Below w.heap.size w w' := by
  have HB : Hid (Below w.heap.size w ((w.alloc (.cells #[.int .i64 k, .int .i64 x, .string s, .bool b, .int .i64 c] 25)).alloc (.cells #[.int .i64 k2, .int .i64 x2, .string s2, .bool b2, .int .i64 c2] 25))) := box2 w _ _
  have X1 : Hid (BoxAt ((w.alloc (.cells #[.int .i64 k, .int .i64 x, .string s, .bool b, .int .i64 c] 25)).alloc (.cells #[.int .i64 k2, .int .i64 x2, .string s2, .bool b2, .int .i64 c2] 25)) w.heap.size k x s b c) := blk_alloc (heap_alloc_new w _) _
  have X2 : Hid (BoxAt ((w.alloc (.cells #[.int .i64 k, .int .i64 x, .string s, .bool b, .int .i64 c] 25)).alloc (.cells #[.int .i64 k2, .int .i64 x2, .string s2, .bool b2, .int .i64 c2] 25)) (w.heap.size + 1) k2 x2 s2 b2 c2) := by
    have e := heap_alloc_new (w.alloc (.cells #[.int .i64 k, .int .i64 x, .string s, .bool b, .int .i64 c] 25)) (.cells #[.int .i64 k2, .int .i64 x2, .string s2, .bool b2, .int .i64 c2] 25)
    rwa [World.size_alloc] at e
  obtain ⟨f1, hf1⟩ : ∃ f, foldS s = f := ⟨_, rfl⟩
  obtain ⟨f2, hf2⟩ : ∃ f, foldS s2 = f := ⟨_, rfl⟩
  have HF1 := Lib.hid hf1
  have HF2 := Lib.hid hf2
  have HS1 : Hid (s.size ≤ 255) := small_S h1
  have HS2 : Hid (s2.size ≤ 255) := small_S h2
  rw [hf1, hf2, ← beq_held]
  clear hf1 hf2
  have FLAG : Hid True := trivial
  go_enter Try.func35, Try.ntmps35
  go_upto_region 3 with (first | (go_at_call 33; have _q := FLAG; clear _q FLAG; refine (check_any k x s b c _).mono ?_; rw [h1]; rintro e w2 ⟨rfl, hb⟩; have n0_ := Lib.hid (HB.out.trans (hb.mono HB.out.size)); have n1_ : Hid (BoxAt w2 w.heap.size k x s b c) := (hb.block _ (blk_lt X1.out)).trans X1.out; have n2_ : Hid (BoxAt w2 (w.heap.size + 1) k2 x2 s2 b2 c2) := (hb.block _ (blk_lt X2.out)).trans X2.out; clear HB hb X1 X2; have HB := n0_; have X1 := n1_; have X2 := n2_; clear n0_ n1_ n2_; have z0 := blk_cell X2.out 0; have z1 := blk_cell X2.out 1; have z2 := blk_cell X2.out 2; have z3 := blk_cell X2.out 3; have z4 := blk_cell X2.out 4; clear h1) | (go_at_call 33; refine (check_any k2 x2 s2 b2 c2 _).mono ?_; rw [h2]; rintro e w3 ⟨rfl, hb⟩; have n0_ := Lib.hid (HB.out.trans (hb.mono HB.out.size)).drew; have n1_ : Hid (BoxAt w3.drew w.heap.size k x s b c) := (hb.block _ (blk_lt X1.out)).trans X1.out; have n2_ : Hid (BoxAt w3.drew (w.heap.size + 1) k2 x2 s2 b2 c2) := (hb.block _ (blk_lt X2.out)).trans X2.out; clear HB hb X1 X2 z0 z1 z2 z3 z4; have HB := n0_; have X1 := n1_; have X2 := n2_; clear n0_ n1_ n2_))
  clear h2
  have HNE : Hid (w.heap.size + 1 ≠ w.heap.size) := by show _ ≠ _; omega
  have HQ1 : Hid (w.heap.size ≤ w.heap.size) := Nat.le_refl _
  have HQ2 : Hid (w.heap.size ≤ w.heap.size + 1) := Nat.le_succ _
  refine start_ (n := 10) (S := fun W => W.cell? ⟨w.heap.size, 2, none⟩ = some (.string s) ∧ W.cell? ⟨w.heap.size + 1, 2, none⟩ = some (.string s2)) (ds := [7, 9]) #[false, false, false, false, false, false, false, false, false, false] (by kernel_rfl) rfl rfl ⟨(blk_cell X1.out 2).trans rfl, (blk_cell X2.out 2).trans rfl⟩ (fun hHeld => ?_)
  generalize w3.drew = w4 at X1 X2 HB hHeld ⊢
  refine pure_ (i := 0) (N := some 13) (v := ?_) (a' := ?_) #[true, false, false, false, false, false, false, false, false, false] rfl rfl (by kernel_rfl) (fun _ _ _ h => h) (Or.inl ⟨by rfl, ?_⟩) ?_ ?_
  rotate_left
  · intro w'
    go_simp
    with_reducible rfl
  rotate_left
  · simp only [Act.put, List.setIfInBounds_toArray, List.set_cons_zero, List.set_cons_succ, i64_w, i32_w]
    rfl
  refine take_ (i := 1) (N := some 14) (v := ?_) (a' := ?_) #[true, true, false, false, false, false, false, false, false, false] rfl rfl (by kernel_rfl) (fun _ _ _ h => h) (Or.inl ⟨by rfl, ?_⟩) hHeld ?_ ?_
  rotate_left
  · rintro w' ⟨s0, s1⟩
    go_simp
    with_reducible rfl
  rotate_left
  · simp only [Act.put, List.setIfInBounds_toArray, List.set_cons_zero, List.set_cons_succ, i64_w, i32_w]
    rfl
  refine pure_ (i := 3) (N := some 16) (v := ?_) (a' := ?_) #[true, true, false, true, false, false, false, false, false, false] rfl rfl (by kernel_rfl) (fun _ _ _ h => h) (Or.inl ⟨by rfl, ?_⟩) ?_ ?_
  rotate_left
  · intro w'
    go_simp
    with_reducible rfl
  rotate_left
  · simp only [Act.put, List.setIfInBounds_toArray, List.set_cons_zero, List.set_cons_succ, i64_w, i32_w]
    rfl
  refine take_ (i := 4) (N := some 17) (v := ?_) (a' := ?_) #[true, true, false, true, true, false, false, false, false, false] rfl rfl (by kernel_rfl) (fun _ _ _ h => h) (Or.inl ⟨by rfl, ?_⟩) hHeld ?_ ?_
  rotate_left
  · rintro w' ⟨s0, s1⟩
    go_simp
    with_reducible rfl
  rotate_left
  · simp only [Act.put, List.setIfInBounds_toArray, List.set_cons_zero, List.set_cons_succ, i64_w, i32_w]
    rfl
  refine one_ (i := 2) (N := some 15) #[true, true, true, true, true, false, false, false, false, false] rfl rfl (by kernel_rfl) (by decide) (fun K hK => ?_)
  refine goes_ Try.func34 (by kernel_rfl) rfl #[.string s] (by rfl) rfl rfl (by (try simp only [List.map_toArray, List.map_cons, List.map_nil]); first | done | rfl) ?_
  refine (fold_any s (Nat.le_trans HS1.out (by decide)) w4).mono ?_
  rintro e w5 ⟨rfl, hb⟩
  rw [HF1.out]
  have Y1 : Hid (BoxAt w5 w.heap.size k x s b c) := (hb.block _ (blk_lt X1.out)).trans X1.out
  have Y2 : Hid (BoxAt w5 (w.heap.size + 1) k2 x2 s2 b2 c2) := (hb.block _ (blk_lt X2.out)).trans X2.out
  have HB5 := Lib.hid (HB.out.trans (hb.mono HB.out.size))
  clear hb
  refine ⟨_, rfl, ?_⟩
  refine hK.out _ _ ⟨(blk_cell Y1.out 2).trans rfl, (blk_cell Y2.out 2).trans rfl⟩ (fun hHeld => ?_)
  clear hK K
  refine norm_ (a' := ?_) ?_ ?_
  rotate_left
  · show Act.put _ (some 15) _ = _
    simp only [Act.put, List.setIfInBounds_toArray, List.set_cons_zero, List.set_cons_succ, i64_w, i32_w]
    rfl
  refine pure_ (i := 6) (N := some 19) (v := ?_) (a' := ?_) #[true, true, true, true, true, false, true, false, false, false] rfl rfl (by kernel_rfl) (fun _ _ _ h => h) (Or.inl ⟨by rfl, ?_⟩) ?_ ?_
  rotate_left
  · intro w'
    go_simp
    with_reducible rfl
  rotate_left
  · simp only [Act.put, List.setIfInBounds_toArray, List.set_cons_zero, List.set_cons_succ, i64_w, i32_w]
    rfl
  refine one_ (i := 5) (N := some 18) #[true, true, true, true, true, true, true, false, false, false] rfl rfl (by kernel_rfl) (by decide) (fun K hK => ?_)
  refine goes_ Try.func34 (by kernel_rfl) rfl #[.string s2] (by rfl) rfl rfl (by (try simp only [List.map_toArray, List.map_cons, List.map_nil]); first | done | rfl) ?_
  refine (fold_any s2 (Nat.le_trans HS2.out (by decide)) w5).mono ?_
  rintro e w6 ⟨rfl, hb⟩
  rw [HF2.out]
  have Z1 : Hid (BoxAt w6 w.heap.size k x s b c) := (hb.block _ (blk_lt Y1.out)).trans Y1.out
  have Z2 : Hid (BoxAt w6 (w.heap.size + 1) k2 x2 s2 b2 c2) := (hb.block _ (blk_lt Y2.out)).trans Y2.out
  have HB6 := Lib.hid (HB5.out.trans (hb.mono HB5.out.size))
  clear hb
  refine ⟨_, rfl, ?_⟩
  refine hK.out _ _ ⟨(blk_cell Z1.out 2).trans rfl, (blk_cell Z2.out 2).trans rfl⟩ (fun hHeld => ?_)
  clear hK K
  refine norm_ (a' := ?_) ?_ ?_
  rotate_left
  · show Act.put _ (some 18) _ = _
    simp only [Act.put, List.setIfInBounds_toArray, List.set_cons_zero, List.set_cons_succ, i64_w, i32_w]
    rfl
  have f6 : w6.frozen? ⟨w.heap.size, 2, none⟩ = false := blk_frozen Z1.out 2
  have c6 : w6.cell? ⟨w.heap.size, 2, none⟩ = some (.string s) := (blk_cell Z1.out 2).trans rfl
  refine last_ (i := 7) (N := none) #[true, true, true, true, true, true, true, true, false, false] rfl rfl (by kernel_rfl) (by decide) (fun K hK => ?_)
  refine skip_ (w1 := ?_) (by rfl) rfl ?_ ?_
  rotate_left
  · go_simp
    rfl
  refine hK.out _ _ ?_
  clear hK K
  clear f6 c6
  have U1 : Hid (BoxAt (w6.setCell ⟨w.heap.size, 2, none⟩ (.string f1)) w.heap.size k x f1 b c) := blk_put Z1.out 2 _ rfl
  have U2 : Hid (BoxAt (w6.setCell ⟨w.heap.size, 2, none⟩ (.string f1)) (w.heap.size + 1) k2 x2 s2 b2 c2) := Z2.out.far (p := ⟨w.heap.size, 2, none⟩) HNE.out _
  have HB7 := Lib.hid (HB6.out.setCell (p := ⟨w.heap.size, 2, none⟩) HQ1.out (.string f1))
  generalize w6.setCell ⟨w.heap.size, 2, none⟩ (.string f1) = w7 at U1 U2 HB7 ⊢
  refine pure_ (i := 8) (N := some 20) (v := ?_) (a' := ?_) #[true, true, true, true, true, true, true, true, true, false] rfl rfl (by kernel_rfl) (fun _ _ _ h => h) (Or.inl ⟨by rfl, ?_⟩) ?_ ?_
  rotate_left
  · intro w'
    go_simp
    with_reducible rfl
  rotate_left
  · simp only [Act.put, List.setIfInBounds_toArray, List.set_cons_zero, List.set_cons_succ, i64_w, i32_w]
    rfl
  have f7 : w7.frozen? ⟨w.heap.size + 1, 2, none⟩ = false := blk_frozen U2.out 2
  have c7 : w7.cell? ⟨w.heap.size + 1, 2, none⟩ = some (.string s2) := (blk_cell U2.out 2).trans rfl
  refine last_ (i := 9) (N := none) #[true, true, true, true, true, true, true, true, true, true] rfl rfl (by kernel_rfl) (by decide) (fun K hK => ?_)
  refine skip_ (w1 := ?_) (by rfl) rfl ?_ ?_
  rotate_left
  · go_simp
    rfl
  refine hK.out _ _ ?_
  clear hK K
  refine done_ (by kernel_rfl) ?_
  clear f7 c7
  have V1 : Hid (BoxAt (w7.setCell ⟨w.heap.size + 1, 2, none⟩ (.string f2)) w.heap.size k x f1 b c) := U1.out.far (p := ⟨w.heap.size + 1, 2, none⟩) HNE.out.symm _
  have V2 : Hid (BoxAt (w7.setCell ⟨w.heap.size + 1, 2, none⟩ (.string f2)) (w.heap.size + 1) k2 x2 f2 b2 c2) := blk_put U2.out 2 _ rfl
  have HB8 := Lib.hid (HB7.out.setCell (p := ⟨w.heap.size + 1, 2, none⟩) HQ2.out (.string f2))
  generalize w7.setCell ⟨w.heap.size + 1, 2, none⟩ (.string f2) = w8 at V1 V2 HB8 ⊢
  have y0 := blk_cell V1.out 0
  have y1 := blk_cell V1.out 1
  have y2 := blk_cell V1.out 2
  have y3 := blk_cell V1.out 3
  have y4 := blk_cell V1.out 4
  have z0 := blk_cell V2.out 0
  have z1 := blk_cell V2.out 1
  have z2 := blk_cell V2.out 2
  have z3 := blk_cell V2.out 3
  have z4 := blk_cell V2.out 4
  go_wp2
  go_ret
  exact ⟨rfl, HB8.out⟩
theorem alike_any (x y : Val) (w : World) : Calls Try.prog 35 #[vv x, vv y] w fun e w' => e = .returned (.bool (alikeB x y)) ∧ Below w.heap.size w w' := by
  obtain ⟨k, n, s, b, c⟩ := x
  obtain ⟨k2, n2, s2, b2, c2⟩ := y
  by_cases h : rightB k n s b c = true ∧ rightB k2 n2 s2 b2 c2 = true
  · have e := alike_ok k n s b c k2 n2 s2 b2 c2 h.1 h.2 w
    have e2 : alikeB (k, n, s, b, c) (k2, n2, s2, b2, c2) = decide ((k, n, foldS s, b, c) = (k2, n2, foldS s2, b2, c2)) := by
      show (rightB k n s b c && (rightB k2 n2 s2 b2 c2 && _)) = _
      rw [h.1, h.2]
      rfl
    rwa [e2]
  · have e := alike_bad k n s b c k2 n2 s2 b2 c2 h w
    have e2 : alikeB (k, n, s, b, c) (k2, n2, s2, b2, c2) = false := by
      show (rightB k n s b c && (rightB k2 n2 s2 b2 c2 && _)) = _
      cases h1 : rightB k n s b c
      · rfl
      · cases h2 : rightB k2 n2 s2 b2 c2
        · rfl
        · exact absurd ⟨h1, h2⟩ h
    rwa [e2]
end Go.Proofs.Ytjhinakfoejpbaa.T

/- A value, many times. No condition stands open. -/
namespace Go.Proofs.Ytjhinakfoejpbaa.T
open Go.RowKit Go.Proofs.Ytjhinakfoejpbaa.WPure Go.Proofs.YtjhinakfoejpbaaW.PrintWords Go.Proofs.YtjhinakfoejpbaaW.PrintLast Go.Proofs.YtjhinakfoejpbaaW.PrintMore
theorem up_up (c : Int) : up (up c) = up c := by
  unfold up
  by_cases h : 97 ≤ c ∧ c ≤ 122
  · rw [if_pos h, if_neg (by omega)]
  · rw [if_neg h, if_neg h]
theorem up_byte {c : Int} (h : 0 ≤ c ∧ c ≤ 255) : 0 ≤ up c ∧ up c ≤ 255 := by
  unfold up
  split <;> omega
theorem bytes_back {l : List Int} (h : ∀ x ∈ l, 0 ≤ x ∧ x ≤ 255) : bytesOf (strOfNums l) = l := by
  unfold bytesOf strOfNums
  simp only [List.map_map]
  conv => rhs; rw [← List.map_id l]
  apply List.map_congr_left
  intro x hx
  have := h x hx
  simp only [Function.comp, id]
  rw [UInt8.toNat_ofNat']
  omega
theorem fold_fold (s : ByteArray) : foldS (foldS s) = foldS s := by
  unfold foldS
  rw [bytes_back (fun x hx => by
    obtain ⟨y, hy, rfl⟩ := List.mem_map.1 hx
    exact up_byte (bytesOf_bytes s y hy)), List.map_map]
  congr 1
  apply List.map_congr_left
  intro x _
  exact up_up x
theorem held_held (x : Val) : held (held x) = held x := by
  unfold held
  simp only [fold_fold]
theorem ok_held {x : Val} (h : okV x = true) : okV (held x) = true := right_held h
theorem cnt_rep (h : Val) (n : Nat) : cnt (List.replicate n h) h = n := by
  induction n with
  | zero => rfl
  | succ n ih => rw [List.replicate_succ, cnt_cons, if_pos rfl, ih]
theorem cnt_rep_ne {h y : Val} (e : h ≠ y) (n : Nat) : cnt (List.replicate n h) y = 0 := by
  induction n with
  | zero => rfl
  | succ n ih => rw [List.replicate_succ, cnt_cons, if_neg e, ih]
theorem often_rep {v : Val} (hv : okV v = true) (n : Nat) : oftenR (List.replicate n (held v)) v = n := by
  unfold oftenR
  rw [if_pos hv, cnt_rep]
theorem often_rep2 {v : Val} (hv : okV v = true) (n : Nat) : oftenR (List.replicate n (held v)) (held v) = n := by
  unfold oftenR
  rw [if_pos (ok_held hv), held_held, cnt_rep]
theorem often_rep3 {v o : Val} (hv : okV v = true) (h : alikeB v o = false) (n : Nat) : oftenR (List.replicate n (held v)) o = 0 := by
  unfold oftenR
  by_cases ho : okV o = true
  · rw [if_pos ho]
    refine cnt_rep_ne (fun e => ?_) n
    unfold alikeB at h
    rw [hv, ho, decide_eq_true e] at h
    cases h
  · rw [if_neg ho]
theorem kind_rep {h : Val} {k : Int} (e : h.1 = k) (n : Nat) : kindR (List.replicate n h) k = n := by
  unfold kindR
  rw [List.countP_replicate, if_pos (decide_eq_true e)]
theorem add_rep {v : Val} (hv : okV v = true) {n : Nat} (hn : n < 4096) : addE (List.replicate n (held v)) v = 0 ∧ addL (List.replicate n (held v)) v = List.replicate (n + 1) (held v) := by
  have e := add_oks (L := List.replicate n (held v)) hv (by rw [List.length_replicate]; exact hn)
  exact ⟨e.1, e.2.trans (List.replicate_succ).symm⟩
theorem drop_rep {v : Val} (hv : okV v = true) (n : Nat) : dropE (List.replicate (n + 1) (held v)) (held v) = 0 ∧ dropL (List.replicate (n + 1) (held v)) (held v) = List.replicate n (held v) := by
  have e : cnt (List.replicate (n + 1) (held v)) (held v) ≠ 0 := by rw [cnt_rep]; omega
  constructor
  · unfold dropE
    rw [if_pos (ok_held hv), held_held, if_neg e]
  · unfold dropL
    rw [held_held, if_pos ⟨ok_held hv, e⟩, List.replicate_succ]
    exact if_pos rfl
theorem drop_rep0 {v : Val} (hv : okV v = true) : dropE (List.replicate 0 (held v)) v = 8 ∧ dropL (List.replicate 0 (held v)) v = List.replicate 0 (held v) := by
  constructor
  · unfold dropE
    rw [if_pos hv, if_pos (show cnt (List.replicate 0 (held v)) (held v) = 0 from rfl)]
  · unfold dropL
    rw [if_neg (fun z => z.2 rfl)]
section
variable {w : World} {S : Nat → Prop} {g n : Nat} {L : List Val}
theorem Tal.oftenEq (h : Tal w S g n L) (x : Val) (m : Nat) (e : oftenR L x = m) : Calls Try.prog 20 #[.pointer (some ⟨g, 0, none⟩), vv x] w fun e w' => e = .returned (.int .i64 (m : Int)) ∧ Below w.heap.size w w' := e ▸ h.often x
theorem Tal.countEq (h : Tal w S g n L) (k : Int) (m : Nat) (e : kindR L k = m) : Calls Try.prog 16 #[.pointer (some ⟨g, 0, none⟩), .int .i64 k] w fun e w' => e = .returned (.int .i64 (m : Int)) ∧ w = w' := e ▸ h.count k
theorem Tal.allEq (h : Tal w S g n L) (m : Nat) (e : L.length = m) : Calls Try.prog 17 #[.pointer (some ⟨g, 0, none⟩)] w fun e w' => e = .returned (.int .i64 (m : Int)) ∧ w = w' := e ▸ h.all
theorem Tal.addEq (h : Tal w S g n L) (x : Val) (hn : n < 1099511627776) (hS : ∀ b, w.heap.size ≤ b → S b) {r : Int} {M : List Val} (e : addE L x = r ∧ addL L x = M) : Calls Try.prog 14 #[.pointer (some ⟨g, 0, none⟩), vv x] w fun e w' => e = .returned (.int .i64 r) ∧ Tal w' S g (n + 1) M ∧ Keeps S w w' := e.1 ▸ e.2 ▸ h.add x hn hS
theorem Tal.dropEq (h : Tal w S g n L) (x : Val) (hn : n < 1099511627776) (hS : ∀ b, w.heap.size ≤ b → S b) {r : Int} {M : List Val} (e : dropE L x = r ∧ dropL L x = M) : Calls Try.prog 15 #[.pointer (some ⟨g, 0, none⟩), vv x] w fun e w' => e = .returned (.int .i64 r) ∧ Tal w' S g (n + 1) M ∧ Keeps S w w' := e.1 ▸ e.2 ▸ h.drop x hn hS
end
theorem alikeEq {x y : Val} {r : Bool} (e : alikeB x y = r) (w : World) : Calls Try.prog 35 #[vv x, vv y] w fun e w' => e = .returned (.bool r) ∧ Below w.heap.size w w' := e ▸ alike_any x y w
end Go.Proofs.Ytjhinakfoejpbaa.T
