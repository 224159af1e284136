/- The document's tally, asked. No condition stands open. -/
import Derived.Test.YtjhinakfoejpbaaJ7
import Derived.Test.YtjhinakfoejpbaaZS
import Derived.Test.YtjhinakfoejpbaaK1
set_option linter.unusedVariables false
set_option linter.unusedSimpArgs false
/- The document's Right and held. No condition stands open. -/
namespace Go.Proofs.Ytjhinakfoejpbaa.T
open Go.RowKit Go.Proofs.Ytjhinakfoejpbaa.WPure Go.Proofs.YtjhinakfoejpbaaW.PrintWords Go.Proofs.YtjhinakfoejpbaaW.PrintLast Go.Proofs.YtjhinakfoejpbaaW.PrintMore
attribute [local go_sem high] PG.eqA25
theorem fits92_any (n : Int) (w : World) : Calls Try.prog 92 #[.int .i64 n] w fun e w' => e = .returned (.bool (fitsB n)) ∧ w = w' := by
  by_cases h1 : -1000000000000000000 ≤ n
  · have d1 : decide (-1000000000000000000 ≤ n) = true := decide_eq_true h1
    have e1 : fitsB n = decide (n ≤ 1000000000000000000) := by unfold fitsB; rw [d1, Bool.true_and]
    rw [e1]
    clear h1 e1
    go_enter Try.func92, Try.ntmps92
    go_wp2
    go_ret
    exact ⟨rfl, rfl⟩
  · have d1 : decide (-1000000000000000000 ≤ n) = false := decide_eq_false h1
    have e1 : fitsB n = false := by unfold fitsB; rw [d1, Bool.false_and]
    rw [e1]
    clear h1 e1
    go_enter Try.func92, Try.ntmps92
    go_wp2
    go_ret
    exact ⟨rfl, rfl⟩
theorem isE (s : ByteArray) : s.toList.isEmpty = decide (s.size = 0) := by
  by_cases h : s.size = 0
  · rw [decide_eq_true h, noS h]; simp
  · rw [decide_eq_false h, fullS h]
theorem beq0 (x : Int) : (x == 0) = decide (x = 0) := by rw [Bool.eq_iff_iff]; simp
theorem rR0 (x : Int) (s : ByteArray) (b : Bool) (c : Int) : rightB 0 x s b c = (x == 0 && (s.toList.isEmpty && (!b && c == 0))) := by
  rw [isE, beq0, beq0]; rfl
theorem rR1 {x : Int} (s : ByteArray) (b : Bool) (c : Int) (h : fitsB x = true) : rightB 1 x s b c = (s.toList.isEmpty && (!b && c == 0)) := by
  rw [isE, beq0, show rightB 1 x s b c = (fitsB x && (decide (s.size = 0) && (!b && decide (c = 0)))) from rfl, h, Bool.true_and]
theorem rR1n {x : Int} (s : ByteArray) (b : Bool) (c : Int) (h : fitsB x = false) : rightB 1 x s b c = false := by
  rw [show rightB 1 x s b c = (fitsB x && (decide (s.size = 0) && (!b && decide (c = 0)))) from rfl, h, Bool.false_and]
theorem rR2 {x : Int} (s : ByteArray) (b : Bool) (c : Int) (h : s.size ≤ 255) : rightB 2 x s b c = (x == 0 && (!b && c == 0)) := by
  rw [beq0, beq0, show rightB 2 x s b c = (decide (s.size ≤ 255) && (decide (x = 0) && (!b && decide (c = 0)))) from rfl, decide_eq_true h, Bool.true_and]
theorem rR2n {x : Int} (s : ByteArray) (b : Bool) (c : Int) (h : ¬ s.size ≤ 255) : rightB 2 x s b c = false := by
  rw [show rightB 2 x s b c = (decide (s.size ≤ 255) && (decide (x = 0) && (!b && decide (c = 0)))) from rfl, decide_eq_false h, Bool.false_and]
theorem rR3 (x : Int) (s : ByteArray) (b : Bool) (c : Int) : rightB 3 x s b c = (x == 0 && (s.toList.isEmpty && c == 0)) := by
  rw [isE, beq0, beq0]; rfl
theorem rR4e (x : Int) (s : ByteArray) (b : Bool) (c : Int) : rightB 4 x s b c = (decide (0 < c) && (decide (c ≤ 7) && (decide (x = 0) && (decide (s.size = 0) && !b)))) := rfl
theorem rR4 (x : Int) (s : ByteArray) (b : Bool) {c : Int} (h : 1 ≤ c) (h7 : c ≤ 7) : rightB 4 x s b c = (x == 0 && (s.toList.isEmpty && !b)) := by
  rw [isE, beq0, rR4e, decide_eq_true (by omega : 0 < c), decide_eq_true h7, Bool.true_and, Bool.true_and]
theorem rR4n (x : Int) (s : ByteArray) (b : Bool) {c : Int} (h : ¬ 1 ≤ c) : rightB 4 x s b c = false := by
  rw [rR4e, decide_eq_false (by omega : ¬ 0 < c), Bool.false_and]
theorem rR4m (x : Int) (s : ByteArray) (b : Bool) {c : Int} (h : ¬ c ≤ 7) : rightB 4 x s b c = false := by
  rw [rR4e, decide_eq_false h, Bool.false_and, Bool.and_false]
theorem rRo {k : Int} (x : Int) (s : ByteArray) (b : Bool) (c : Int) (h0 : ¬ k = 0) (h1 : ¬ k = 1) (h2 : ¬ k = 2) (h3 : ¬ k = 3) (h4 : ¬ k = 4) : rightB k x s b c = false := by
  unfold rightB
  rw [if_neg h0, if_neg h1, if_neg h2, if_neg h3, if_neg h4]
set_option maxHeartbeats 4000000 in
set_option maxRecDepth 100000 in
theorem rt0 (x : Int) (s : ByteArray) (b : Bool) (c : Int) (w : World) : Calls Try.prog 67 #[.agg #[.int .i64 0, .int .i64 x, .string s, .bool b, .int .i64 c]] w fun e w' => e = .returned (.bool (rightB 0 x s b c)) ∧ Below w.heap.size w w' := by
  have BB : Hid (Below w.heap.size w (w.alloc (.cells #[.int .i64 0, .int .i64 x, .string s, .bool b, .int .i64 c] 25))) := (Below.refl _ w).alloc (Nat.le_refl _) _
  have hu25 := Try.underlying25
  rw [rR0]
  go_enter Try.func67, Try.ntmps67
  go_wp2
  go_ret
  exact ⟨rfl, BB.out⟩
set_option maxHeartbeats 4000000 in
set_option maxRecDepth 100000 in
theorem rt1 (x : Int) (s : ByteArray) (b : Bool) (c : Int) (h : fitsB x = true) (w : World) : Calls Try.prog 67 #[.agg #[.int .i64 1, .int .i64 x, .string s, .bool b, .int .i64 c]] w fun e w' => e = .returned (.bool (rightB 1 x s b c)) ∧ Below w.heap.size w w' := by
  have BB : Hid (Below w.heap.size w (w.alloc (.cells #[.int .i64 1, .int .i64 x, .string s, .bool b, .int .i64 c] 25))) := (Below.refl _ w).alloc (Nat.le_refl _) _
  have hu25 := Try.underlying25
  rw [rR1 s b c h]
  go_enter Try.func67, Try.ntmps67
  go_wp2_with (go_at_call 92; refine (fits92_any x _).mono ?_; rw [h]; rintro e w' ⟨rfl, rfl⟩)
  go_ret
  exact ⟨rfl, BB.out⟩
set_option maxHeartbeats 4000000 in
set_option maxRecDepth 100000 in
theorem rt1n (x : Int) (s : ByteArray) (b : Bool) (c : Int) (h : fitsB x = false) (w : World) : Calls Try.prog 67 #[.agg #[.int .i64 1, .int .i64 x, .string s, .bool b, .int .i64 c]] w fun e w' => e = .returned (.bool (rightB 1 x s b c)) ∧ Below w.heap.size w w' := by
  have BB : Hid (Below w.heap.size w (w.alloc (.cells #[.int .i64 1, .int .i64 x, .string s, .bool b, .int .i64 c] 25))) := (Below.refl _ w).alloc (Nat.le_refl _) _
  have hu25 := Try.underlying25
  rw [rR1n s b c h]
  go_enter Try.func67, Try.ntmps67
  go_wp2_with (go_at_call 92; refine (fits92_any x _).mono ?_; rw [h]; rintro e w' ⟨rfl, rfl⟩)
  go_ret
  exact ⟨rfl, BB.out⟩
set_option maxHeartbeats 4000000 in
set_option maxRecDepth 100000 in
theorem rt2 (x : Int) (s : ByteArray) (b : Bool) (c : Int) (h : s.size ≤ 255) (w : World) : Calls Try.prog 67 #[.agg #[.int .i64 2, .int .i64 x, .string s, .bool b, .int .i64 c]] w fun e w' => e = .returned (.bool (rightB 2 x s b c)) ∧ Below w.heap.size w w' := by
  have BB : Hid (Below w.heap.size w (w.alloc (.cells #[.int .i64 2, .int .i64 x, .string s, .bool b, .int .i64 c] 25))) := (Below.refl _ w).alloc (Nat.le_refl _) _
  have hu25 := Try.underlying25
  rw [rR2 s b c h]
  have h2 : (s.size : Int) ≤ 255 := by omega
  go_enter Try.func67, Try.ntmps67
  go_wp2
  go_ret
  exact ⟨rfl, BB.out⟩
set_option maxHeartbeats 4000000 in
set_option maxRecDepth 100000 in
theorem rt2n (x : Int) (s : ByteArray) (b : Bool) (c : Int) (h : ¬ s.size ≤ 255) (w : World) : Calls Try.prog 67 #[.agg #[.int .i64 2, .int .i64 x, .string s, .bool b, .int .i64 c]] w fun e w' => e = .returned (.bool (rightB 2 x s b c)) ∧ Below w.heap.size w w' := by
  have BB : Hid (Below w.heap.size w (w.alloc (.cells #[.int .i64 2, .int .i64 x, .string s, .bool b, .int .i64 c] 25))) := (Below.refl _ w).alloc (Nat.le_refl _) _
  have hu25 := Try.underlying25
  rw [rR2n s b c h]
  have h2 : ¬ (s.size : Int) ≤ 255 := by omega
  go_enter Try.func67, Try.ntmps67
  go_wp2
  go_ret
  exact ⟨rfl, BB.out⟩
set_option maxHeartbeats 4000000 in
set_option maxRecDepth 100000 in
theorem rt3 (x : Int) (s : ByteArray) (b : Bool) (c : Int) (w : World) : Calls Try.prog 67 #[.agg #[.int .i64 3, .int .i64 x, .string s, .bool b, .int .i64 c]] w fun e w' => e = .returned (.bool (rightB 3 x s b c)) ∧ Below w.heap.size w w' := by
  have BB : Hid (Below w.heap.size w (w.alloc (.cells #[.int .i64 3, .int .i64 x, .string s, .bool b, .int .i64 c] 25))) := (Below.refl _ w).alloc (Nat.le_refl _) _
  have hu25 := Try.underlying25
  rw [rR3]
  go_enter Try.func67, Try.ntmps67
  go_wp2
  go_ret
  exact ⟨rfl, BB.out⟩
set_option maxHeartbeats 4000000 in
set_option maxRecDepth 100000 in
theorem rt4 (x : Int) (s : ByteArray) (b : Bool) (c : Int) (h : 1 ≤ c) (h7 : c ≤ 7) (w : World) : Calls Try.prog 67 #[.agg #[.int .i64 4, .int .i64 x, .string s, .bool b, .int .i64 c]] w fun e w' => e = .returned (.bool (rightB 4 x s b c)) ∧ Below w.heap.size w w' := by
  have BB : Hid (Below w.heap.size w (w.alloc (.cells #[.int .i64 4, .int .i64 x, .string s, .bool b, .int .i64 c] 25))) := (Below.refl _ w).alloc (Nat.le_refl _) _
  have hu25 := Try.underlying25
  rw [rR4 x s b h h7]
  have d1 : decide (1 ≤ c) = true := decide_eq_true h
  have d2 : decide (c ≤ 7) = true := decide_eq_true h7
  clear h h7
  go_enter Try.func67, Try.ntmps67
  go_wp2
  go_ret
  exact ⟨rfl, BB.out⟩
set_option maxHeartbeats 4000000 in
set_option maxRecDepth 100000 in
theorem rt4n (x : Int) (s : ByteArray) (b : Bool) (c : Int) (h : ¬ 1 ≤ c) (w : World) : Calls Try.prog 67 #[.agg #[.int .i64 4, .int .i64 x, .string s, .bool b, .int .i64 c]] w fun e w' => e = .returned (.bool (rightB 4 x s b c)) ∧ Below w.heap.size w w' := by
  have BB : Hid (Below w.heap.size w (w.alloc (.cells #[.int .i64 4, .int .i64 x, .string s, .bool b, .int .i64 c] 25))) := (Below.refl _ w).alloc (Nat.le_refl _) _
  have hu25 := Try.underlying25
  rw [rR4n x s b h]
  have d1 : decide (1 ≤ c) = false := decide_eq_false h
  clear h
  go_enter Try.func67, Try.ntmps67
  go_wp2
  go_ret
  exact ⟨rfl, BB.out⟩
set_option maxHeartbeats 4000000 in
set_option maxRecDepth 100000 in
theorem rt4m (x : Int) (s : ByteArray) (b : Bool) (c : Int) (h : 1 ≤ c) (h7 : ¬ c ≤ 7) (w : World) : Calls Try.prog 67 #[.agg #[.int .i64 4, .int .i64 x, .string s, .bool b, .int .i64 c]] w fun e w' => e = .returned (.bool (rightB 4 x s b c)) ∧ Below w.heap.size w w' := by
  have BB : Hid (Below w.heap.size w (w.alloc (.cells #[.int .i64 4, .int .i64 x, .string s, .bool b, .int .i64 c] 25))) := (Below.refl _ w).alloc (Nat.le_refl _) _
  have hu25 := Try.underlying25
  rw [rR4m x s b h7]
  have d1 : decide (1 ≤ c) = true := decide_eq_true h
  have d2 : decide (c ≤ 7) = false := decide_eq_false h7
  clear h h7
  go_enter Try.func67, Try.ntmps67
  go_wp2
  go_ret
  exact ⟨rfl, BB.out⟩
set_option maxHeartbeats 4000000 in
set_option maxRecDepth 100000 in
theorem rto (k : Int) (x : Int) (s : ByteArray) (b : Bool) (c : Int) (h0 : ¬ k = 0) (h1 : ¬ k = 1) (h2 : ¬ k = 2) (h3 : ¬ k = 3) (h4 : ¬ k = 4) (w : World) : Calls Try.prog 67 #[.agg #[.int .i64 k, .int .i64 x, .string s, .bool b, .int .i64 c]] w fun e w' => e = .returned (.bool (rightB k x s b c)) ∧ Below w.heap.size w w' := by
  have BB : Hid (Below w.heap.size w (w.alloc (.cells #[.int .i64 k, .int .i64 x, .string s, .bool b, .int .i64 c] 25))) := (Below.refl _ w).alloc (Nat.le_refl _) _
  have hu25 := Try.underlying25
  rw [rRo x s b c h0 h1 h2 h3 h4]
  have e0 : (k == 0) = false := beq_eq_false_iff_ne.2 h0
  have e1 : (k == 1) = false := beq_eq_false_iff_ne.2 h1
  have e2 : (k == 2) = false := beq_eq_false_iff_ne.2 h2
  have e3 : (k == 3) = false := beq_eq_false_iff_ne.2 h3
  have e4 : (k == 4) = false := beq_eq_false_iff_ne.2 h4
  clear h0 h1 h2 h3 h4
  go_enter Try.func67, Try.ntmps67
  go_wp2
  go_ret
  exact ⟨rfl, BB.out⟩
theorem docRight (y : Val) (w : World) : Calls Try.prog 67 #[vv y] w fun e w' => e = .returned (.bool (okV y)) ∧ Below w.heap.size w w' := by
  obtain ⟨k, x, s, b, c⟩ := y
  show Calls Try.prog 67 #[.agg #[.int .i64 k, .int .i64 x, .string s, .bool b, .int .i64 c]] w fun e w' => e = .returned (.bool (rightB k x s b c)) ∧ Below w.heap.size w w'
  by_cases h0 : k = 0
  · subst h0; exact rt0 x s b c w
  by_cases h1 : k = 1
  · subst h1
    cases h : fitsB x
    · exact rt1n x s b c h w
    · exact rt1 x s b c h w
  by_cases h2 : k = 2
  · subst h2
    by_cases h : s.size ≤ 255
    · exact rt2 x s b c h w
    · exact rt2n x s b c h w
  by_cases h3 : k = 3
  · subst h3; exact rt3 x s b c w
  by_cases h4 : k = 4
  · subst h4
    by_cases h : 1 ≤ c
    · by_cases h7 : c ≤ 7
      · exact rt4 x s b c h h7 w
      · exact rt4m x s b c h h7 w
    · exact rt4n x s b c h w
  exact rto k x s b c h0 h1 h2 h3 h4 w
set_option maxHeartbeats 4000000 in
set_option maxRecDepth 100000 in
theorem docHeld (k x : Int) (s : ByteArray) (b : Bool) (c : Int) (hs : s.size ≤ 255) (w : World) : Calls Try.prog 68 #[.agg #[.int .i64 k, .int .i64 x, .string s, .bool b, .int .i64 c]] w fun e w' => e = .returned (.agg #[.int .i64 k, .int .i64 x, .string (foldS s), .bool b, .int .i64 c]) ∧ Below w.heap.size w w' := by
  have hu25 := Try.underlying25
  have HB : Hid (Below w.heap.size w ((w.alloc (.cells #[.int .i64 k, .int .i64 x, .string s, .bool b, .int .i64 c] 25)).alloc (.cells #[.int .i64 0, .int .i64 0, .string ⟨#[]⟩, .bool false, .int .i64 0] 25))) := box2 w _ _
  have X1 : Hid (BoxAt ((w.alloc (.cells #[.int .i64 k, .int .i64 x, .string s, .bool b, .int .i64 c] 25)).alloc (.cells #[.int .i64 0, .int .i64 0, .string ⟨#[]⟩, .bool false, .int .i64 0] 25)) w.heap.size k x s b c) := blk_alloc (heap_alloc_new w _) _
  have X2 : Hid (BoxAt ((w.alloc (.cells #[.int .i64 k, .int .i64 x, .string s, .bool b, .int .i64 c] 25)).alloc (.cells #[.int .i64 0, .int .i64 0, .string ⟨#[]⟩, .bool false, .int .i64 0] 25)) (w.heap.size + 1) 0 0 ⟨#[]⟩ false 0) := by
    have e := heap_alloc_new (w.alloc (.cells #[.int .i64 k, .int .i64 x, .string s, .bool b, .int .i64 c] 25)) (.cells #[.int .i64 0, .int .i64 0, .string ⟨#[]⟩, .bool false, .int .i64 0] 25)
    rwa [World.size_alloc] at e
  go_enter Try.func68, Try.ntmps68
  go_wp2_with (go_at_call 93; refine (refFold_any s (by omega) _).mono ?_; rintro e w2 ⟨rfl, hb⟩; have n0_ := Lib.hid (HB.out.trans (hb.mono HB.out.size)); have n1_ : Hid (BoxAt w2 w.heap.size k x s b c) := (hb.block _ (blk_lt X1.out)).trans X1.out; have n2_ : Hid (BoxAt w2 (w.heap.size + 1) 0 0 ⟨#[]⟩ false 0) := (hb.block _ (blk_lt X2.out)).trans X2.out; clear HB hb X1 X2; have HB := n0_; have X1 := n1_; have X2 := n2_; clear n0_ n1_ n2_; have z0 := blk_cell X1.out 0; have z1 := blk_cell X1.out 1; have z2 := blk_cell X1.out 2; have z3 := blk_cell X1.out 3; have z4 := blk_cell X1.out 4; have y0 := blk_cell X2.out 0; have y1 := blk_cell X2.out 1; have y2 := blk_cell X2.out 2; have y3 := blk_cell X2.out 3; have y4 := blk_cell X2.out 4; have f2 := blk_frozen X1.out 2; have q0 := blk_frozen X2.out 0; have q1 := blk_frozen X2.out 1; have q2 := blk_frozen X2.out 2; have q3 := blk_frozen X2.out 3; have q4 := blk_frozen X2.out 4)
  have e0 := blk_put X1.out 2 (.string (foldS s)) rfl
  have HQ1 : Hid (w.heap.size ≤ w.heap.size) := Nat.le_refl _
  have HQ2 : Hid (w.heap.size ≤ w.heap.size + 1) := Nat.le_succ _
  have e1 : (w2.setCell ⟨w.heap.size, 2, none⟩ (.string (foldS s))).heap[w.heap.size + 1]? = some (.cells #[.int .i64 0, .int .i64 0, .string ⟨#[]⟩, .bool false, .int .i64 0] 25 (0, 0)) := by
    exact blk_far X2.out (Nat.succ_ne_self _) _
  refine bodyPost_ret (results_cell_row rfl _ _ (w.heap.size + 1) 25 #[.int .i64 k, .int .i64 x, .string (foldS s), .bool b, .int .i64 c] (0, 0) _ rfl (blk_put (blk_put (blk_put (blk_put (blk_put e1 0 (.int .i64 k) rfl) 1 (.int .i64 x) rfl) 2 (.string (foldS s)) rfl) 3 (.bool b) rfl) 4 (.int .i64 c) rfl) Try.underlying25 rfl (by kernel_rfl)) rfl ?_
  exact ⟨rfl, (((((HB.out.setCell (Nat.le_refl _) _).setCell (Nat.le_succ _) _).setCell (Nat.le_succ _) _).setCell (Nat.le_succ _) _).setCell (Nat.le_succ _) _).setCell (Nat.le_succ _) _⟩
end Go.Proofs.Ytjhinakfoejpbaa.T

/- The document's tally, looked at. No condition stands open. -/
namespace Go.Proofs.Ytjhinakfoejpbaa.T
open Go.RowKit Go.Proofs.Ytjhinakfoejpbaa.WPure Go.Proofs.YtjhinakfoejpbaaW.PrintWords Go.Proofs.YtjhinakfoejpbaaW.PrintLast Go.Proofs.YtjhinakfoejpbaaW.PrintMore
attribute [local go_sem high] PG.eqA25
/-- a list's count by index -/
theorem cp_succ {α : Type} {l : List α} {i : Nat} {x : α} (h : l[i]? = some x) (p : α → Bool) : (l.take (i + 1)).countP p = (l.take i).countP p + if p x then 1 else 0 := by
  rw [List.take_add_one, h, List.countP_append]
  simp [List.countP_cons]
theorem cp_le {α : Type} (l : List α) (p : α → Bool) (i : Nat) : (l.take i).countP p ≤ i := Nat.le_trans List.countP_le_length (by rw [List.length_take]; omega)
abbrev boxD (w : World) (A : Option Addr) (n cap : Nat) : World := w.alloc (.cells #[.slice A n cap] 64)
theorem boxD_below (w : World) (A : Option Addr) (n cap : Nat) : Below w.heap.size w (boxD w A n cap) := (Below.refl _ w).alloc (Nat.le_refl _) _
theorem boxD_cell (w : World) (A : Option Addr) (n cap : Nat) : (boxD w A n cap).cell? ⟨w.heap.size, 0, none⟩ = some (.slice A n cap) := blk_cell (heap_alloc_new w _) 0
def cntK (l : List Val) (k : Int) : Nat := l.countP fun y => y.1 == k
set_option maxHeartbeats 4000000 in
set_option maxRecDepth 100000 in
theorem docCount {w : World} {A : Option Addr} {n cap : Nat} {l : List Val} (h : VRow w A n l) (hl : n ≤ 4096) (k : Int) : Calls Try.prog 75 #[.agg #[.slice A n cap], .int .i64 k] w fun e w' => e = .returned (.int .i64 (cntK l k : Nat)) ∧ Below w.heap.size w w' := by
  have H : Hid (VRow (boxD w A n cap) A n l) := h.below (boxD_below w A n cap)
  have HB : Hid (Below w.heap.size w (boxD w A n cap)) := boxD_below w A n cap
  have z0 := boxD_cell w A n cap
  have HL := Lib.hid hl
  have hu55 := Try.underlying55
  have hu64 := Try.underlying64
  have hu25 := Try.underlying25
  clear h hl
  go_enter Try.func75, Try.ntmps75
  go_upto_region 3 with fail
  go_loopg [5, 6] n (fun kq v5 v6 wr => ∃ i : Nat, v6 = .int .i64 (i : Int) ∧ v5 = .int .i64 (((l.take i).countP fun y => y.1 == k : Nat) : Int) ∧ Hid (i + kq = n) ∧ wr = boxD w A n cap)
  case atStart => exact ⟨0, rfl, rfl, (Nat.zero_add n : 0 + n = n), rfl⟩
  case round =>
    obtain ⟨i, rfl, rfl, hi, rfl⟩ := hrel
    by_cases hlt : i < n
    · obtain ⟨ad, x, rfl, hx, c0, c1, c2, c3, c4⟩ := H.out.at hlt
      have n0 : ((i : Int)).toNat = i := Int.toNat_natCast i
      have p0 : (0 : Int) ≤ (i : Int) := Int.natCast_nonneg i
      have l0 : (i : Int) < (n : Int) := by omega
      have d0 : decide ((i : Int) < (n : Int)) = true := decide_eq_true l0
      have d1 : i < n := hlt
      have wi : wrap64 ((i : Int) + 1) = (i : Int) + 1 := by have := HL.out; unfold wrap64; omega
      have HC := Lib.hid (cp_succ hx fun y => y.1 == k)
      obtain ⟨m, hm⟩ : ∃ m, ((l.take i).countP fun y => y.1 == k) = m := ⟨_, rfl⟩
      have hm2 : m ≤ i := by rw [← hm]; exact cp_le _ _ _
      rw [hm] at HC ⊢
      have wm : wrap64 ((m : Int) + 1) = (m : Int) + 1 := by have := HL.out; unfold wrap64; omega
      clear hx hm hm2 hlt
      cases e : x.1 == k
      · rw [e] at HC
        have e2 : (x.1 == k) = false := e
        go_wp2
        go_roundg (gk - 1)
        case measure => have := hi.out; omega
        case rel => exact ⟨i + 1, congrArg _ wi, congrArg (fun z : Nat => Value.int .i64 (z : Int)) HC.out.symm, (by have := hi.out; omega : i + 1 + (gk - 1) = n), rfl⟩
      · rw [e] at HC
        have e2 : (x.1 == k) = true := e
        go_wp2
        go_roundg (gk - 1)
        case measure => have := hi.out; omega
        case rel => exact ⟨i + 1, rfl, congrArg (fun z : Nat => Value.int .i64 (z : Int)) HC.out.symm, (by have := hi.out; omega : i + 1 + (gk - 1) = n), rfl⟩
    · have e : i = n := by have := hi.out; omega
      have d0 : decide ((i : Int) < (n : Int)) = false := decide_eq_false (by omega)
      have d1 : ¬ i < n := hlt
      have HT2 : Hid ((l.take i).countP (fun y => y.1 == k) = cntK l k) := by
        show _ = _
        rw [e, ← H.out.1, List.take_length]; rfl
      obtain ⟨m, hm⟩ : ∃ m, ((l.take i).countP fun y => y.1 == k) = m := ⟨_, rfl⟩
      rw [hm] at HT2 ⊢
      clear hi hlt e hm
      go_wp2
      go_ret
      exact ⟨congrArg (fun z : Nat => Ending.returned (.int .i64 (z : Int))) HT2.out, HB.out⟩
/-- the least code so far -/
def fStep (a c : Int) : Int := if 0 < c ∧ (a = 0 ∨ c < a) then c else a
def fltD (l : List Val) : Int := l.foldl (fun a y => fStep a y.2.2.2.2) 0
theorem flt_succ {l : List Val} {i : Nat} {x : Val} (h : l[i]? = some x) : fltD (l.take (i + 1)) = fStep (fltD (l.take i)) x.2.2.2.2 := by
  unfold fltD
  rw [List.take_add_one, h, List.foldl_append]
  rfl
set_option maxHeartbeats 4000000 in
set_option maxRecDepth 100000 in
theorem docFault {w : World} {A : Option Addr} {n cap : Nat} {l : List Val} (h : VRow w A n l) (hl : n ≤ 4096) : Calls Try.prog 76 #[.agg #[.slice A n cap]] w fun e w' => e = .returned (.int .i64 (fltD l)) ∧ Below w.heap.size w w' := by
  have H : Hid (VRow (boxD w A n cap) A n l) := h.below (boxD_below w A n cap)
  have HB : Hid (Below w.heap.size w (boxD w A n cap)) := boxD_below w A n cap
  have z0 := boxD_cell w A n cap
  have HL := Lib.hid hl
  have hu55 := Try.underlying55
  have hu64 := Try.underlying64
  have hu25 := Try.underlying25
  clear h hl
  go_enter Try.func76, Try.ntmps76
  go_upto_region 3 with fail
  go_loopg [3, 4, 5] n (fun kq v3 v4 v5 wr => ∃ i : Nat, v4 = .int .i64 (i : Int) ∧ v3 = .int .i64 (fltD (l.take i)) ∧ Hid (i + kq = n) ∧ wr = boxD w A n cap)
  case atStart => exact ⟨0, rfl, rfl, (Nat.zero_add n : 0 + n = n), rfl⟩
  case round =>
    obtain ⟨i, rfl, rfl, hi, rfl⟩ := hrel
    by_cases hlt : i < n
    · obtain ⟨ad, x, rfl, hx, c0, c1, c2, c3, c4⟩ := H.out.at hlt
      have n0 : ((i : Int)).toNat = i := Int.toNat_natCast i
      have p0 : (0 : Int) ≤ (i : Int) := Int.natCast_nonneg i
      have l0 : (i : Int) < (n : Int) := by omega
      have d0 : decide ((i : Int) < (n : Int)) = true := decide_eq_true l0
      have d1 : i < n := hlt
      have wi : wrap64 ((i : Int) + 1) = (i : Int) + 1 := by have := HL.out; unfold wrap64; omega
      have HC := Lib.hid (flt_succ hx)
      obtain ⟨a, ha⟩ : ∃ a, fltD (l.take i) = a := ⟨_, rfl⟩
      obtain ⟨c, hc⟩ : ∃ c, x.2.2.2.2 = c := ⟨_, rfl⟩
      rw [ha] at HC ⊢
      rw [hc] at HC c4
      clear hx ha hc hlt
      by_cases h1 : 0 < c
      · have e1 : decide (0 < c) = true := decide_eq_true h1
        by_cases h2 : a = 0
        · have HR : Hid (fltD (l.take (i + 1)) = c) := HC.out.trans (if_pos ⟨h1, .inl h2⟩)
          have e2 : (a == 0) = true := beq_iff_eq.2 h2
          clear h1 h2 HC
          go_wp2
          go_roundg (gk - 1)
          case measure => have := hi.out; omega
          case rel => exact ⟨i + 1, congrArg _ wi, congrArg _ HR.out.symm, (by have := hi.out; omega : i + 1 + (gk - 1) = n), rfl⟩
        · have e2 : (a == 0) = false := beq_eq_false_iff_ne.2 h2
          by_cases h3 : c < a
          · have HR : Hid (fltD (l.take (i + 1)) = c) := HC.out.trans (if_pos ⟨h1, .inr h3⟩)
            have e3 : decide (c < a) = true := decide_eq_true h3
            clear h1 h2 h3 HC
            go_wp2
            go_roundg (gk - 1)
            case measure => have := hi.out; omega
            case rel => exact ⟨i + 1, congrArg _ wi, congrArg _ HR.out.symm, (by have := hi.out; omega : i + 1 + (gk - 1) = n), rfl⟩
          · have HR : Hid (fltD (l.take (i + 1)) = a) := HC.out.trans (if_neg fun z => z.2.elim h2 h3)
            have e3 : decide (c < a) = false := decide_eq_false h3
            clear h1 h2 h3 HC
            go_wp2
            go_roundg (gk - 1)
            case measure => have := hi.out; omega
            case rel => exact ⟨i + 1, congrArg _ wi, congrArg _ HR.out.symm, (by have := hi.out; omega : i + 1 + (gk - 1) = n), rfl⟩
      · have HR : Hid (fltD (l.take (i + 1)) = a) := HC.out.trans (if_neg fun z => h1 z.1)
        have e1 : decide (0 < c) = false := decide_eq_false h1
        clear h1 HC
        go_wp2
        go_roundg (gk - 1)
        case measure => have := hi.out; omega
        case rel => exact ⟨i + 1, congrArg _ wi, congrArg _ HR.out.symm, (by have := hi.out; omega : i + 1 + (gk - 1) = n), rfl⟩
    · have e : i = n := by have := hi.out; omega
      have d0 : decide ((i : Int) < (n : Int)) = false := decide_eq_false (by omega)
      have d1 : ¬ i < n := hlt
      have HT2 : Hid (fltD (l.take i) = fltD l) := by
        show _ = _
        rw [e, ← H.out.1, List.take_length]
      obtain ⟨m, hm⟩ : ∃ m, fltD (l.take i) = m := ⟨_, rfl⟩
      rw [hm] at HT2 ⊢
      clear hi hlt e hm
      go_wp2
      go_ret
      exact ⟨congrArg (fun z : Int => Ending.returned (.int .i64 z)) HT2.out, HB.out⟩
end Go.Proofs.Ytjhinakfoejpbaa.T

/- The document's tally: how often a value is there; its numbers. No condition stands open. -/
namespace Go.Proofs.Ytjhinakfoejpbaa.T
open Go.RowKit Go.Proofs.Ytjhinakfoejpbaa.WPure Go.Proofs.YtjhinakfoejpbaaW.PrintWords Go.Proofs.YtjhinakfoejpbaaW.PrintLast Go.Proofs.YtjhinakfoejpbaaW.PrintMore
attribute [local go_sem high] PG.eqA25
theorem nums_succ {l : List Val} {i : Nat} {x : Val} (h : l[i]? = some x) : numsL (l.take (i + 1)) = numsL (l.take i) ++ (if x.1 == 1 then [x.2.1] else []) := by
  unfold numsL
  rw [List.take_add_one, h, List.filterMap_append]
  congr 1
  by_cases e : x.1 = 1
  · simp [e]
  · simp [e]
theorem info3' : (Try.prog.info? 3).map (fun i => (i.zero, i.size, i.bytes)) = some (some (.int .i64 0), 1, 8) := by kernel_rfl
set_option maxHeartbeats 4000000 in
set_option maxRecDepth 100000 in
theorem docNums {w : World} {A : Option Addr} {n cap : Nat} {l : List Val} (h : VRow w A n l) (hl : n ≤ 4096) : Calls Try.prog 95 #[.agg #[.slice A n cap]] w fun e w' => ∃ B cp, e = .returned (.slice B (numsL l).length cp) ∧ Kd.C (Kd.int .i64) w' B (numsL l).length (numsL l) ∧ (numsL l).length ≤ cp ∧ Below w.heap.size w w' := by
  have H : Hid (VRow (boxD w A n cap) A n l) := h.below (boxD_below w A n cap)
  have HB : Hid (Below w.heap.size w (boxD w A n cap)) := boxD_below w A n cap
  have z0 := boxD_cell w A n cap
  have HL := Lib.hid hl
  have hu55 := Try.underlying55
  have hu64 := Try.underlying64
  have hu25 := Try.underlying25
  clear h hl
  go_enter Try.func95, Try.ntmps95
  go_upto_region 3 with fail
  go_loopg [3, 4] n (fun kq v3 v4 wr => ∃ i : Nat, v4 = .int .i64 (i : Int) ∧ Hid (i + kq = n) ∧ Hid (Kd.R (Kd.int .i64) 3 wr (w.heap.size + 1) (fun _ => True) v3 (numsL (l.take i))) ∧ Hid (Below (w.heap.size + 1) (boxD w A n cap) wr))
  case atStart => exact ⟨0, rfl, (Nat.zero_add n : 0 + n = n), Kd.R_nil _ _ _ _ _, Below.refl _ _⟩
  case round =>
    obtain ⟨i, rfl, hi, HR, HB2⟩ := hrel
    have z1 : wr.cell? ⟨w.heap.size, 0, none⟩ = some (.slice A n cap) := pw_cell_below (w := boxD w A n cap) (HB2.out.mono (by simp)) z0
    by_cases hlt : i < n
    · obtain ⟨ad, x, rfl, hx, c0, c1, c2, c3, c4⟩ := (H.out.below (HB2.out.mono (by simp))).at hlt
      have n0 : ((i : Int)).toNat = i := Int.toNat_natCast i
      have p0 : (0 : Int) ≤ (i : Int) := Int.natCast_nonneg i
      have l0 : (i : Int) < (n : Int) := by omega
      have d0 : decide ((i : Int) < (n : Int)) = true := decide_eq_true l0
      have d1 : i < n := hlt
      have wi : wrap64 ((i : Int) + 1) = (i : Int) + 1 := by have := HL.out; unfold wrap64; omega
      have HC := Lib.hid (nums_succ hx)
      obtain ⟨xs, hxs⟩ : ∃ xs, numsL (l.take i) = xs := ⟨_, rfl⟩
      have hxl : Hid (xs.length ≤ 4096) := by
        have h1 : xs.length ≤ (l.take i).length := by rw [← hxs]; exact List.length_filterMap_le _ _
        rw [List.length_take] at h1
        have := HL.out
        show _ ≤ _
        omega
      rw [hxs] at HC HR
      obtain ⟨Ao, co, eo⟩ := Kd.R_slice HR.out
      subst eo
      clear hx hxs hlt
      cases e : x.1 == 1
      · have HN : Hid (numsL (l.take (i + 1)) = xs) := by rw [HC.out, e]; exact List.append_nil _
        clear HC
        go_wp2
        go_roundg (gk - 1)
        case measure => have := hi.out; omega
        case rel => exact ⟨i + 1, congrArg _ wi, (by have := hi.out; omega : i + 1 + (gk - 1) = n), by rw [HN.out]; exact HR, HB2⟩
      · have HN : Hid (numsL (l.take (i + 1)) = xs ++ [x.2.1]) := by rw [HC.out, e]; rfl
        clear HC
        go_wp2_with ((with_reducible refine gate_builtin (b := .append) (xs := #[.tmp 19, .tmp 26]) rfl ?_); at_builtin; refine Kd.R_append (Kd.int .i64) (w0 := boxD w (some ad) n cap) (w.heap.size + 1) rfl (.tmp 19) (.tmp 26) 48 3 (.int .i64 0) 8 rfl Try.underlying48 info3' rfl (by decide) (by omega) (.slice Ao xs.length co) xs x.2.1 [.int .i64 x.2.1] (fun _ => True) (fun _ => False) rfl rfl rfl (fun _ hk => hk.elim) (fun _ _ => trivial) HR.out HB2.out (by have := HB2.out.size; rwa [World.size_alloc] at this) (by have := hxl.out; omega) ?_; intro v1 w1 ho hb hg hat; have HR1 := Lib.hid ho; have HB3 := Lib.hid hb; clear ho hb hg hat)
        go_roundg (gk - 1)
        case measure => have := hi.out; omega
        case rel => exact ⟨i + 1, congrArg _ wi, (by have := hi.out; omega : i + 1 + (gk - 1) = n), by rw [HN.out]; exact HR1, HB3⟩
    · have e : i = n := by have := hi.out; omega
      have d0 : decide ((i : Int) < (n : Int)) = false := decide_eq_false (by omega)
      have d1 : ¬ i < n := hlt
      have HT2 : Hid (numsL (l.take i) = numsL l) := by
        show _ = _
        rw [e, ← H.out.1, List.take_length]
      rw [HT2.out] at HR
      obtain ⟨Ao, co, eo, ho1, ho2⟩ := Kd.R_reads HR.out
      subst eo
      have HO1 := Lib.hid ho1
      have HO2 := Lib.hid ho2
      have HB3 : Hid (Below w.heap.size w wr) := HB.out.trans (HB2.out.mono (Nat.le_succ _))
      clear hi hlt e HT2 HR ho1 ho2
      go_wp2
      go_ret
      exact ⟨Ao, co, rfl, HO2.out, HO1.out, HB3.out⟩
end Go.Proofs.Ytjhinakfoejpbaa.T

/- The document's tally: what it tells of its numbers. No condition stands open. -/
namespace Go.Proofs.Ytjhinakfoejpbaa.T
open Go.RowKit Go.Proofs.Ytjhinakfoejpbaa Go.Proofs.Ytjhinakfoejpbaa.WPure Go.Proofs.YtjhinakfoejpbaaW.PrintWords Go.Proofs.YtjhinakfoejpbaaW.PrintLast Go.Proofs.YtjhinakfoejpbaaW.PrintMore
/-- a pair of numbers -/
abbrev pairV (r : Int × Int) : Value := .tuple #[.int .i64 r.1, .int .i64 r.2]
def toldD (l : List Val) (r : Int × Int) : Int × Int := if fltD l = 0 then r else (0, fltD l)
set_option maxHeartbeats 4000000 in
set_option maxRecDepth 100000 in
theorem docTold {w : World} {A : Option Addr} {n cap : Nat} {l : List Val} (h : VRow w A n l) (hl : n ≤ 4096) (a c : Int) : Calls Try.prog 96 #[.agg #[.slice A n cap], .int .i64 a, .int .i64 c] w fun e w' => e = .returned (pairV (toldD l (a, c))) ∧ Below w.heap.size w w' := by
  have H : Hid (VRow (boxD w A n cap) A n l) := h.below (boxD_below w A n cap)
  have HB : Hid (Below w.heap.size w (boxD w A n cap)) := boxD_below w A n cap
  have z0 := boxD_cell w A n cap
  have HL := Lib.hid hl
  have hu55 := Try.underlying55
  have hu64 := Try.underlying64
  clear h hl
  obtain ⟨f, hf⟩ : ∃ f, fltD l = f := ⟨_, rfl⟩
  have HF : Hid (∀ W, VRow W A n l → Calls Try.prog 76 #[.agg #[.slice A n cap]] W fun e w' => e = .returned (.int .i64 f) ∧ Below W.heap.size W w') := fun W hW => by rw [← hf]; exact docFault hW HL.out
  unfold toldD
  rw [hf]
  clear hf
  by_cases h0 : f = 0
  · rw [if_pos h0]
    have e0 : (f == 0) = true := beq_iff_eq.2 h0
    clear h0
    go_enter Try.func96, Try.ntmps96
    go_wp2_with (go_at_call 76; refine (HF.out _ H.out).mono ?_; rintro e w2 ⟨rfl, hb⟩; have HB2 := Lib.hid (HB.out.trans (hb.mono (by simp))); clear hb)
    go_ret2
    exact ⟨rfl, HB2.out⟩
  · rw [if_neg h0]
    have e0 : (f == 0) = false := beq_eq_false_iff_ne.2 h0
    clear h0
    go_enter Try.func96, Try.ntmps96
    go_wp2_with (go_at_call 76; refine (HF.out _ H.out).mono ?_; rintro e w2 ⟨rfl, hb⟩; have HB2 := Lib.hid (HB.out.trans (hb.mono (by simp))); clear hb)
    go_ret2
    exact ⟨rfl, HB2.out⟩
set_option maxHeartbeats 4000000 in
set_option maxRecDepth 100000 in
theorem docSum {w : World} {A : Option Addr} {n cap : Nat} {l : List Val} (h : VRow w A n l) (hl : n ≤ 4096) : Calls Try.prog 69 #[.agg #[.slice A n cap]] w fun e w' => e = .returned (pairV (toldD l (SN.sumN (numsL l)))) ∧ Below w.heap.size w w' := by
  have H : Hid (VRow (boxD w A n cap) A n l) := h.below (boxD_below w A n cap)
  have HB : Hid (Below w.heap.size w (boxD w A n cap)) := boxD_below w A n cap
  have z0 := boxD_cell w A n cap
  have HL := Lib.hid hl
  have hu55 := Try.underlying55
  have hu64 := Try.underlying64
  obtain ⟨⟨a, c⟩, hac⟩ : ∃ r, SN.sumN (numsL l) = r := ⟨_, rfl⟩
  obtain ⟨q, hq⟩ := SR.rsum_x (numsL l) (r := (a, c)) (congrArg some hac)
  have HQ := Lib.hid hq
  rw [hac]
  clear h hl hac hq
  go_enter Try.func69, Try.ntmps69
  go_wp2_with (first | (go_at_call 95; refine (docNums H.out HL.out).mono ?_; rintro e w2 ⟨B, cp, rfl, hC, hc, hb⟩; have n0_ := Lib.hid (HB.out.trans (hb.mono (by simp))); have n1_ := Lib.hid (H.out.below hb); have n2_ := pw_cell_below hb z0; have HC := Lib.hid hC; have HCC := Lib.hid hc; clear HB H z0 hb hC hc; have HB := n0_; have H := n1_; have z0 := n2_; clear n0_ n1_ n2_) | (go_at_call 94; refine (PR.foolscapref16_Sum.calls q B cp (numsL l) a c _ HC.out HCC.out HQ.out).mono ?_; rintro e w3 ⟨rfl, hb⟩; have n0_ := Lib.hid (HB.out.trans (hb.mono HB.out.size)); have n1_ := Lib.hid (H.out.below hb); have n2_ := pw_cell_below hb z0; clear HB H z0 hb HC; have HB := n0_; have H := n1_; have z0 := n2_; clear n0_ n1_ n2_) | (go_at_call 96; refine (docTold H.out HL.out a c).mono ?_; rintro e w4 ⟨rfl, hb⟩; have n0_ := Lib.hid (HB.out.trans (hb.mono HB.out.size)); clear HB H z0 hb; have HB := n0_; clear n0_))
  go_ret2
  exact ⟨rfl, HB.out⟩
set_option maxHeartbeats 4000000 in
set_option maxRecDepth 100000 in
theorem docMean {w : World} {A : Option Addr} {n cap : Nat} {l : List Val} (h : VRow w A n l) (hl : n ≤ 4096) : Calls Try.prog 70 #[.agg #[.slice A n cap]] w fun e w' => e = .returned (pairV (toldD l (SN.avgN (numsL l)))) ∧ Below w.heap.size w w' := by
  have H : Hid (VRow (boxD w A n cap) A n l) := h.below (boxD_below w A n cap)
  have HB : Hid (Below w.heap.size w (boxD w A n cap)) := boxD_below w A n cap
  have z0 := boxD_cell w A n cap
  have HL := Lib.hid hl
  have hu55 := Try.underlying55
  have hu64 := Try.underlying64
  obtain ⟨⟨a, c⟩, hac⟩ : ∃ r, SN.avgN (numsL l) = r := ⟨_, rfl⟩
  obtain ⟨q, hq⟩ := SR.ravg_x (numsL l) (r := (a, c)) (congrArg some hac)
  have HQ := Lib.hid hq
  rw [hac]
  clear h hl hac hq
  go_enter Try.func70, Try.ntmps70
  go_wp2_with (first | (go_at_call 95; refine (docNums H.out HL.out).mono ?_; rintro e w2 ⟨B, cp, rfl, hC, hc, hb⟩; have n0_ := Lib.hid (HB.out.trans (hb.mono (by simp))); have n1_ := Lib.hid (H.out.below hb); have n2_ := pw_cell_below hb z0; have HC := Lib.hid hC; have HCC := Lib.hid hc; clear HB H z0 hb hC hc; have HB := n0_; have H := n1_; have z0 := n2_; clear n0_ n1_ n2_) | (go_at_call 97; refine (PR.foolscapref16_Mean.calls q B cp (numsL l) a c _ HC.out HCC.out HQ.out).mono ?_; rintro e w3 ⟨rfl, hb⟩; have n0_ := Lib.hid (HB.out.trans (hb.mono HB.out.size)); have n1_ := Lib.hid (H.out.below hb); have n2_ := pw_cell_below hb z0; clear HB H z0 hb HC; have HB := n0_; have H := n1_; have z0 := n2_; clear n0_ n1_ n2_) | (go_at_call 96; refine (docTold H.out HL.out a c).mono ?_; rintro e w4 ⟨rfl, hb⟩; have n0_ := Lib.hid (HB.out.trans (hb.mono HB.out.size)); clear HB H z0 hb; have HB := n0_; clear n0_))
  go_ret2
  exact ⟨rfl, HB.out⟩
set_option maxHeartbeats 4000000 in
set_option maxRecDepth 100000 in
theorem docLeast {w : World} {A : Option Addr} {n cap : Nat} {l : List Val} (h : VRow w A n l) (hl : n ≤ 4096) : Calls Try.prog 71 #[.agg #[.slice A n cap]] w fun e w' => e = .returned (pairV (toldD l (SN.leN (numsL l)))) ∧ Below w.heap.size w w' := by
  have H : Hid (VRow (boxD w A n cap) A n l) := h.below (boxD_below w A n cap)
  have HB : Hid (Below w.heap.size w (boxD w A n cap)) := boxD_below w A n cap
  have z0 := boxD_cell w A n cap
  have HL := Lib.hid hl
  have hu55 := Try.underlying55
  have hu64 := Try.underlying64
  obtain ⟨⟨a, c⟩, hac⟩ : ∃ r, SN.leN (numsL l) = r := ⟨_, rfl⟩
  obtain ⟨q, hq⟩ := SR.rleast_x (numsL l) (r := (a, c)) (congrArg some hac)
  have HQ := Lib.hid hq
  rw [hac]
  clear h hl hac hq
  go_enter Try.func71, Try.ntmps71
  go_wp2_with (first | (go_at_call 95; refine (docNums H.out HL.out).mono ?_; rintro e w2 ⟨B, cp, rfl, hC, hc, hb⟩; have n0_ := Lib.hid (HB.out.trans (hb.mono (by simp))); have n1_ := Lib.hid (H.out.below hb); have n2_ := pw_cell_below hb z0; have HC := Lib.hid hC; have HCC := Lib.hid hc; clear HB H z0 hb hC hc; have HB := n0_; have H := n1_; have z0 := n2_; clear n0_ n1_ n2_) | (go_at_call 98; refine (PR.foolscapref16_Least.calls q B cp (numsL l) a c _ HC.out HCC.out HQ.out).mono ?_; rintro e w3 ⟨rfl, hb⟩; have n0_ := Lib.hid (HB.out.trans (hb.mono HB.out.size)); have n1_ := Lib.hid (H.out.below hb); have n2_ := pw_cell_below hb z0; clear HB H z0 hb HC; have HB := n0_; have H := n1_; have z0 := n2_; clear n0_ n1_ n2_) | (go_at_call 96; refine (docTold H.out HL.out a c).mono ?_; rintro e w4 ⟨rfl, hb⟩; have n0_ := Lib.hid (HB.out.trans (hb.mono HB.out.size)); clear HB H z0 hb; have HB := n0_; clear n0_))
  go_ret2
  exact ⟨rfl, HB.out⟩
set_option maxHeartbeats 4000000 in
set_option maxRecDepth 100000 in
theorem docGreatest {w : World} {A : Option Addr} {n cap : Nat} {l : List Val} (h : VRow w A n l) (hl : n ≤ 4096) : Calls Try.prog 72 #[.agg #[.slice A n cap]] w fun e w' => e = .returned (pairV (toldD l (SN.grN (numsL l)))) ∧ Below w.heap.size w w' := by
  have H : Hid (VRow (boxD w A n cap) A n l) := h.below (boxD_below w A n cap)
  have HB : Hid (Below w.heap.size w (boxD w A n cap)) := boxD_below w A n cap
  have z0 := boxD_cell w A n cap
  have HL := Lib.hid hl
  have hu55 := Try.underlying55
  have hu64 := Try.underlying64
  obtain ⟨⟨a, c⟩, hac⟩ : ∃ r, SN.grN (numsL l) = r := ⟨_, rfl⟩
  obtain ⟨q, hq⟩ := SR.rgreat_x (numsL l) (r := (a, c)) (congrArg some hac)
  have HQ := Lib.hid hq
  rw [hac]
  clear h hl hac hq
  go_enter Try.func72, Try.ntmps72
  go_wp2_with (first | (go_at_call 95; refine (docNums H.out HL.out).mono ?_; rintro e w2 ⟨B, cp, rfl, hC, hc, hb⟩; have n0_ := Lib.hid (HB.out.trans (hb.mono (by simp))); have n1_ := Lib.hid (H.out.below hb); have n2_ := pw_cell_below hb z0; have HC := Lib.hid hC; have HCC := Lib.hid hc; clear HB H z0 hb hC hc; have HB := n0_; have H := n1_; have z0 := n2_; clear n0_ n1_ n2_) | (go_at_call 99; refine (PR.foolscapref16_Greatest.calls q B cp (numsL l) a c _ HC.out HCC.out HQ.out).mono ?_; rintro e w3 ⟨rfl, hb⟩; have n0_ := Lib.hid (HB.out.trans (hb.mono HB.out.size)); have n1_ := Lib.hid (H.out.below hb); have n2_ := pw_cell_below hb z0; clear HB H z0 hb HC; have HB := n0_; have H := n1_; have z0 := n2_; clear n0_ n1_ n2_) | (go_at_call 96; refine (docTold H.out HL.out a c).mono ?_; rintro e w4 ⟨rfl, hb⟩; have n0_ := Lib.hid (HB.out.trans (hb.mono HB.out.size)); clear HB H z0 hb; have HB := n0_; clear n0_))
  go_ret2
  exact ⟨rfl, HB.out⟩
set_option maxHeartbeats 4000000 in
set_option maxRecDepth 100000 in
theorem docMedian {w : World} {A : Option Addr} {n cap : Nat} {l : List Val} (h : VRow w A n l) (hl : n ≤ 4096) : Calls Try.prog 73 #[.agg #[.slice A n cap]] w fun e w' => e = .returned (pairV (toldD l (SN.medN (numsL l)))) ∧ Below w.heap.size w w' := by
  have H : Hid (VRow (boxD w A n cap) A n l) := h.below (boxD_below w A n cap)
  have HB : Hid (Below w.heap.size w (boxD w A n cap)) := boxD_below w A n cap
  have z0 := boxD_cell w A n cap
  have HL := Lib.hid hl
  have hu55 := Try.underlying55
  have hu64 := Try.underlying64
  obtain ⟨⟨a, c⟩, hac⟩ : ∃ r, SN.medN (numsL l) = r := ⟨_, rfl⟩
  obtain ⟨q, hq⟩ := SR.rmed_x (numsL l) (r := (a, c)) (congrArg some hac)
  have HQ := Lib.hid hq
  rw [hac]
  clear h hl hac hq
  go_enter Try.func73, Try.ntmps73
  go_wp2_with (first | (go_at_call 95; refine (docNums H.out HL.out).mono ?_; rintro e w2 ⟨B, cp, rfl, hC, hc, hb⟩; have n0_ := Lib.hid (HB.out.trans (hb.mono (by simp))); have n1_ := Lib.hid (H.out.below hb); have n2_ := pw_cell_below hb z0; have HC := Lib.hid hC; have HCC := Lib.hid hc; clear HB H z0 hb hC hc; have HB := n0_; have H := n1_; have z0 := n2_; clear n0_ n1_ n2_) | (go_at_call 100; refine (PR.foolscapref16_Median.calls q B cp (numsL l) a c _ HC.out HCC.out HQ.out).mono ?_; rintro e w3 ⟨rfl, hb⟩; have n0_ := Lib.hid (HB.out.trans (hb.mono HB.out.size)); have n1_ := Lib.hid (H.out.below hb); have n2_ := pw_cell_below hb z0; clear HB H z0 hb HC; have HB := n0_; have H := n1_; have z0 := n2_; clear n0_ n1_ n2_) | (go_at_call 96; refine (docTold H.out HL.out a c).mono ?_; rintro e w4 ⟨rfl, hb⟩; have n0_ := Lib.hid (HB.out.trans (hb.mono HB.out.size)); clear HB H z0 hb; have HB := n0_; clear n0_))
  go_ret2
  exact ⟨rfl, HB.out⟩
set_option maxHeartbeats 4000000 in
set_option maxRecDepth 100000 in
theorem docSmall {w : World} {A : Option Addr} {n cap : Nat} {l : List Val} (h : VRow w A n l) (hl : n ≤ 4096) (k : Int) : Calls Try.prog 74 #[.agg #[.slice A n cap], .int .i64 k] w fun e w' => e = .returned (pairV (toldD l (SN.smallN (numsL l) k))) ∧ Below w.heap.size w w' := by
  have H : Hid (VRow (boxD w A n cap) A n l) := h.below (boxD_below w A n cap)
  have HB : Hid (Below w.heap.size w (boxD w A n cap)) := boxD_below w A n cap
  have z0 := boxD_cell w A n cap
  have HL := Lib.hid hl
  have hu55 := Try.underlying55
  have hu64 := Try.underlying64
  obtain ⟨⟨a, c⟩, hac⟩ : ∃ r, SN.smallN (numsL l) k = r := ⟨_, rfl⟩
  obtain ⟨q, hq⟩ := SR.rsmall_x (numsL l) k (r := (a, c)) (congrArg some hac)
  have HQ := Lib.hid hq
  rw [hac]
  clear h hl hac hq
  go_enter Try.func74, Try.ntmps74
  go_wp2_with (first | (go_at_call 95; refine (docNums H.out HL.out).mono ?_; rintro e w2 ⟨B, cp, rfl, hC, hc, hb⟩; have n0_ := Lib.hid (HB.out.trans (hb.mono (by simp))); have n1_ := Lib.hid (H.out.below hb); have n2_ := pw_cell_below hb z0; have HC := Lib.hid hC; have HCC := Lib.hid hc; clear HB H z0 hb hC hc; have HB := n0_; have H := n1_; have z0 := n2_; clear n0_ n1_ n2_) | (go_at_call 101; refine (PR.foolscapref16_Small.calls q B cp (numsL l) k a c _ HC.out HCC.out HQ.out).mono ?_; rintro e w3 ⟨rfl, hb⟩; have n0_ := Lib.hid (HB.out.trans (hb.mono HB.out.size)); have n1_ := Lib.hid (H.out.below hb); have n2_ := pw_cell_below hb z0; clear HB H z0 hb HC; have HB := n0_; have H := n1_; have z0 := n2_; clear n0_ n1_ n2_) | (go_at_call 96; refine (docTold H.out HL.out a c).mono ?_; rintro e w4 ⟨rfl, hb⟩; have n0_ := Lib.hid (HB.out.trans (hb.mono HB.out.size)); clear HB H z0 hb; have HB := n0_; clear n0_))
  go_ret2
  exact ⟨rfl, HB.out⟩
end Go.Proofs.Ytjhinakfoejpbaa.T

/- The document's tally: how many numbers are below one, how many different ones there are. No condition stands open. -/
namespace Go.Proofs.Ytjhinakfoejpbaa.T
open Go.RowKit Go.Proofs.Ytjhinakfoejpbaa Go.Proofs.Ytjhinakfoejpbaa.WPure Go.Proofs.YtjhinakfoejpbaaW.PrintWords Go.Proofs.YtjhinakfoejpbaaW.PrintLast Go.Proofs.YtjhinakfoejpbaaW.PrintMore
theorem ints_at {w : World} {B : Option Addr} {l : List Int} (h : Kd.C (Kd.int .i64) w B l.length l) {i : Nat} (hi : i < l.length) : ∃ ad x, B = some ad ∧ l[i]? = some x ∧ w.cell? (ad.add i) = some (.int .i64 x) := by
  obtain ⟨ad, c, e, hl, hK, hc⟩ := Kd.C_get h 0 (i : Int) (by omega) (by omega)
  have hK2 : c = [.int .i64 (l.getD i 0)] := hK
  subst hK2
  have h2 := hc 0 _ rfl
  have e2 : ((i : Int).toNat * 1 + 0) = i := by omega
  rw [show (Kd.int .i64).sz = 1 from rfl, e2] at h2
  rw [List.getD_eq_getElem?_getD, List.getElem?_eq_getElem hi, Option.getD_some] at h2
  exact ⟨ad, _, e, List.getElem?_eq_getElem hi, h2⟩
theorem nums_few {l : List Val} {n : Nat} (h : l.length = n) (hl : n ≤ 4096) : (numsL l).length ≤ 4096 := by
  have := List.length_filterMap_le (fun x : Val => if x.1 = 1 then some x.2.1 else none) l
  unfold numsL
  omega
set_option maxHeartbeats 4000000 in
set_option maxRecDepth 100000 in
theorem docBelow {w : World} {A : Option Addr} {n cap : Nat} {l : List Val} (h : VRow w A n l) (hl : n ≤ 4096) (a : Int) : Calls Try.prog 77 #[.agg #[.slice A n cap], .int .i64 a] w fun e w' => e = .returned (.int .i64 (belowR l a : Nat)) ∧ Below w.heap.size w w' := by
  have H : Hid (VRow (boxD w A n cap) A n l) := h.below (boxD_below w A n cap)
  have HB : Hid (Below w.heap.size w (boxD w A n cap)) := boxD_below w A n cap
  have z0 := boxD_cell w A n cap
  have HL := Lib.hid hl
  have HF : Hid ((numsL l).length ≤ 4096) := nums_few h.1 hl
  have hu55 := Try.underlying55
  have hu64 := Try.underlying64
  have hu48 := Try.underlying48
  clear h hl
  unfold belowR
  obtain ⟨xs, hxs⟩ : ∃ xs, numsL l = xs := ⟨_, rfl⟩
  have HN : Hid (∀ W, VRow W A n l → Calls Try.prog 95 #[.agg #[.slice A n cap]] W fun e w' => ∃ B cp, e = .returned (.slice B xs.length cp) ∧ Kd.C (Kd.int .i64) w' B xs.length xs ∧ xs.length ≤ cp ∧ Below W.heap.size W w') := fun W hW => by rw [← hxs]; exact docNums hW HL.out
  rw [hxs] at HF ⊢
  clear hxs
  go_enter Try.func77, Try.ntmps77
  go_upto_region 4 with (go_at_call 95; refine (HN.out _ H.out).mono ?_; rintro e w2 ⟨B, cp, rfl, hC, hc, hb⟩; have n0_ := Lib.hid (HB.out.trans (hb.mono (by simp))); have HC := Lib.hid hC; clear HB H z0 hb hC hc; have HB := n0_; clear n0_)
  go_loopg [5, 7] xs.length (fun kq v5 v7 wr => ∃ i : Nat, v7 = .int .i64 (i : Int) ∧ v5 = .int .i64 (((xs.take i).countP fun y => decide (y < a) : Nat) : Int) ∧ Hid (i + kq = xs.length) ∧ wr = w2)
  case atStart => exact ⟨0, rfl, rfl, (Nat.zero_add _ : 0 + xs.length = xs.length), rfl⟩
  case round =>
    obtain ⟨i, rfl, rfl, hi, rfl⟩ := hrel
    by_cases hlt : i < xs.length
    · obtain ⟨ad, x, rfl, hx, c0⟩ := ints_at HC.out hlt
      have n0 : ((i : Int)).toNat = i := Int.toNat_natCast i
      have p0 : (0 : Int) ≤ (i : Int) := Int.natCast_nonneg i
      have l0 : (i : Int) < (xs.length : Int) := by omega
      have d0 : decide ((i : Int) < (xs.length : Int)) = true := decide_eq_true l0
      have d1 : i < xs.length := hlt
      have wi : wrap64 ((i : Int) + 1) = (i : Int) + 1 := by have := HF.out; unfold wrap64; omega
      have HC2 := Lib.hid (cp_succ hx fun y => decide (y < a))
      obtain ⟨m, hm⟩ : ∃ m, ((xs.take i).countP fun y => decide (y < a)) = m := ⟨_, rfl⟩
      have hm2 : m ≤ i := by rw [← hm]; exact cp_le _ _ _
      rw [hm] at HC2 ⊢
      have wm : wrap64 ((m : Int) + 1) = (m : Int) + 1 := by have := HF.out; unfold wrap64; omega
      clear hx hm hm2 hlt
      cases e : decide (x < a)
      · rw [e] at HC2
        go_wp2
        go_roundg (gk - 1)
        case measure => have := hi.out; omega
        case rel => exact ⟨i + 1, congrArg _ wi, congrArg (fun z : Nat => Value.int .i64 (z : Int)) HC2.out.symm, (by have := hi.out; omega : i + 1 + (gk - 1) = xs.length), rfl⟩
      · rw [e] at HC2
        go_wp2
        go_roundg (gk - 1)
        case measure => have := hi.out; omega
        case rel => exact ⟨i + 1, by first | rfl | exact congrArg _ wi, congrArg (fun z : Nat => Value.int .i64 (z : Int)) HC2.out.symm, (by have := hi.out; omega : i + 1 + (gk - 1) = xs.length), rfl⟩
    · have e : i = xs.length := by have := hi.out; omega
      have d0 : decide ((i : Int) < (xs.length : Int)) = false := decide_eq_false (by omega)
      have d1 : ¬ i < xs.length := hlt
      have HT2 : Hid ((xs.take i).countP (fun y => decide (y < a)) = xs.countP (fun y => decide (y < a))) := by
        show _ = _
        rw [e, List.take_length]
      obtain ⟨m, hm⟩ : ∃ m, ((xs.take i).countP fun y => decide (y < a)) = m := ⟨_, rfl⟩
      rw [hm] at HT2 ⊢
      clear hi hlt e hm
      go_wp2
      go_ret
      exact ⟨congrArg (fun z : Nat => Ending.returned (.int .i64 (z : Int))) HT2.out, HB.out⟩
end Go.Proofs.Ytjhinakfoejpbaa.T

/- The document's tally: how many different numbers there are. No condition stands open. -/
namespace Go.Proofs.Ytjhinakfoejpbaa.T
open Go.RowKit Go.Proofs.Ytjhinakfoejpbaa Go.Proofs.Ytjhinakfoejpbaa.WPure Go.Proofs.YtjhinakfoejpbaaW.PrintWords Go.Proofs.YtjhinakfoejpbaaW.PrintLast Go.Proofs.YtjhinakfoejpbaaW.PrintMore
/-- how often a list changes, and once for its first -/
def unl : List Int → Nat
  | [] => 0
  | [_] => 1
  | a :: b :: l => (if a = b then 0 else 1) + unl (b :: l)
theorem unl_snoc (a b : Int) : ∀ l : List Int, unl (l ++ [a, b]) = unl (l ++ [a]) + (if a = b then 0 else 1)
  | [] => by simp only [List.nil_append, unl]; omega
  | [c] => by
    have h := unl_snoc a b []
    simp only [List.nil_append, List.cons_append, unl] at h ⊢
    omega
  | c :: d :: l => by
    have h := unl_snoc a b (d :: l)
    simp only [List.cons_append, unl] at h ⊢
    omega
theorem unl_le : ∀ l : List Int, unl l ≤ l.length
  | [] => Nat.le_refl _
  | [_] => Nat.le_refl _
  | a :: b :: l => by
    have h := unl_le (b :: l)
    simp only [unl, List.length_cons] at h ⊢
    split <;> omega
theorem unl_first {l : List Int} {x : Int} (h : l[0]? = some x) : unl (l.take 1) = 1 := by
  cases l with
  | nil => simp at h
  | cons a l => rfl
theorem unl_next {l : List Int} {i i' : Nat} {x y : Int} (e : i' = i + 1) (hx : l[i]? = some x) (hy : l[i']? = some y) : unl (l.take (i' + 1)) = unl (l.take i') + if x = y then 0 else 1 := by
  subst e
  rw [List.take_add_one, hy, List.take_add_one, hx, Option.toList_some, Option.toList_some, List.append_assoc]
  exact unl_snoc x y _
set_option maxHeartbeats 4000000 in
set_option maxRecDepth 100000 in
theorem docUnlike {w : World} {A : Option Addr} {n cap : Nat} {l : List Val} (h : VRow w A n l) (hl : n ≤ 4096) : ∃ r, Up r ∧ r.Perm (numsL l) ∧ Calls Try.prog 79 #[.agg #[.slice A n cap]] w fun e w' => e = .returned (.int .i64 (unl r : Nat)) ∧ Below w.heap.size w w' := by
  have H : Hid (VRow (boxD w A n cap) A n l) := h.below (boxD_below w A n cap)
  have HB : Hid (Below w.heap.size w (boxD w A n cap)) := boxD_below w A n cap
  have z0 := boxD_cell w A n cap
  have HL := Lib.hid hl
  have HF := nums_few h.1 hl
  have hu55 := Try.underlying55
  have hu64 := Try.underlying64
  have hu48 := Try.underlying48
  clear h hl
  obtain ⟨q, xs, hq, hup, hpm⟩ := SR.rise_eq (numsL l) HF
  have HX : Hid (xs.length ≤ 4096) := by rw [hpm.length_eq]; exact HF
  have HQ := Lib.hid hq
  refine ⟨xs, hup, hpm, ?_⟩
  clear hq hup hpm HF
  go_enter Try.func79, Try.ntmps79
  go_upto_region 4 with (first | (go_at_call 95; refine (docNums H.out HL.out).mono ?_; rintro e w2 ⟨B, cp, rfl, hC, hc, hb⟩; have n0_ := Lib.hid (HB.out.trans (hb.mono (by simp))); have HC := Lib.hid hC; have HCC := Lib.hid hc; clear HB H z0 hb hC hc; have HB := n0_; clear n0_) | (go_at_call 102; refine (PR.foolscapref16_Rising.calls q B cp (numsL l) xs _ HC.out HCC.out HQ.out).mono ?_; rintro e w3 ⟨v0, rfl, hR, hb⟩; have n0_ := Lib.hid (HB.out.trans (hb.mono HB.out.size)); have HR := Lib.hid hR; clear HB hb HC hR; have HB := n0_; clear n0_))
  obtain ⟨Ao, co, eo, ho1, ho2⟩ := Kd.R_reads HR.out
  subst eo
  have HC := Lib.hid ho2
  clear HR ho1 ho2
  go_loopg [4, 5] xs.length (fun kq v4 v5 wr => ∃ i : Nat, v5 = .int .i64 (i : Int) ∧ v4 = .int .i64 ((unl (xs.take i) : Nat) : Int) ∧ Hid (i + kq = xs.length) ∧ Hid (Below w.heap.size w wr) ∧ Hid (Kd.C (Kd.int .i64) wr Ao xs.length xs))
  case atStart => exact ⟨0, rfl, rfl, (Nat.zero_add _ : 0 + xs.length = xs.length), HB, HC⟩
  case round =>
    clear HB HC
    obtain ⟨i, rfl, rfl, hi, HB, HC⟩ := hrel
    by_cases hlt : i < xs.length
    · obtain ⟨ad, x, rfl, hx, c0⟩ := ints_at HC.out hlt
      have n0 : ((i : Int)).toNat = i := Int.toNat_natCast i
      have p0 : (0 : Int) ≤ (i : Int) := Int.natCast_nonneg i
      have l0 : (i : Int) < (xs.length : Int) := by omega
      have d0 : decide ((i : Int) < (xs.length : Int)) = true := decide_eq_true l0
      have d1 : i < xs.length := hlt
      have wi : wrap64 ((i : Int) + 1) = (i : Int) + 1 := by have := HX.out; unfold wrap64; omega
      rcases Nat.eq_zero_or_pos i with h0 | h0
      · subst h0
        have HC2 := Lib.hid (unl_first hx)
        clear hx hlt
        go_wp2
        go_quiet (fail)
        go_wp2
        go_roundg (gk - 1)
        case measure => have := hi.out; omega
        case rel => exact ⟨1, rfl, (by rw [HC2.out]; exact congrArg (Value.int .i64) (show wrap64 (((unl [] : Nat) : Int) + 1) = ((1 : Nat) : Int) by unfold wrap64; decide)), (by have := hi.out; omega : 1 + (gk - 1) = xs.length), pw_below_drewN HB.out _, Kd.C_drewN HC.out _⟩
      · obtain ⟨j, hj⟩ : ∃ j, i = j + 1 := ⟨i - 1, by omega⟩
        obtain ⟨ad', y, e', hy, c1⟩ := ints_at HC.out (i := j) (by omega)
        obtain rfl := Option.some.inj e'
        have HC2 := Lib.hid (unl_next hj hy hx)
        obtain ⟨m, hm⟩ : ∃ m, unl (xs.take i) = m := ⟨_, rfl⟩
        have hm2 : m ≤ i := by rw [← hm]; exact Nat.le_trans (unl_le _) (by rw [List.length_take]; omega)
        rw [hm] at HC2 ⊢
        have wm : wrap64 ((m : Int) + 1) = (m : Int) + 1 := by have := HX.out; unfold wrap64; omega
        have e0 : ((i : Int) == 0) = false := beq_eq_false_iff_ne.2 (by omega)
        have wj : wrap64 ((i : Int) - 1) = (j : Int) := by have := HX.out; unfold wrap64; omega
        have n1 : ((j : Int)).toNat = j := Int.toNat_natCast j
        have p1 : (0 : Int) ≤ (j : Int) := Int.natCast_nonneg j
        have l1 : (j : Int) < (xs.length : Int) := by omega
        have l2 : j < xs.length := by omega
        clear hx hy hm hm2 hlt h0 hj
        by_cases e : y = x
        · rw [if_pos e] at HC2
          have e1 : (x == y) = true := beq_iff_eq.2 e.symm
          have e2 : (y == x) = true := beq_iff_eq.2 e
          clear e
          go_wp2
          go_quiet (fail)
          go_wp2
          go_roundg (gk - 1)
          case measure => have := hi.out; omega
          case rel => exact ⟨i + 1, congrArg _ wi, congrArg (fun z : Nat => Value.int .i64 (z : Int)) HC2.out.symm, (by have := hi.out; omega : i + 1 + (gk - 1) = xs.length), pw_below_drewN HB.out _, Kd.C_drewN HC.out _⟩
        · rw [if_neg e] at HC2
          have e1 : (x == y) = false := beq_eq_false_iff_ne.2 (fun z => e z.symm)
          have e2 : (y == x) = false := beq_eq_false_iff_ne.2 e
          clear e
          go_wp2
          go_quiet (fail)
          go_wp2
          go_roundg (gk - 1)
          case measure => have := hi.out; omega
          case rel => exact ⟨i + 1, by first | rfl | exact congrArg _ wi, (congrArg _ wm).trans (congrArg (fun z : Nat => Value.int .i64 (z : Int)) HC2.out.symm), (by have := hi.out; omega : i + 1 + (gk - 1) = xs.length), pw_below_drewN HB.out _, Kd.C_drewN HC.out _⟩
    · have e : i = xs.length := by have := hi.out; omega
      have d0 : decide ((i : Int) < (xs.length : Int)) = false := decide_eq_false (by omega)
      have d1 : ¬ i < xs.length := hlt
      have HT2 : Hid (unl (xs.take i) = unl xs) := by
        show _ = _
        rw [e, List.take_length]
      obtain ⟨m, hm⟩ : ∃ m, unl (xs.take i) = m := ⟨_, rfl⟩
      rw [hm] at HT2 ⊢
      clear hi hlt e hm
      go_wp2
      go_ret
      exact ⟨congrArg (fun z : Nat => Ending.returned (.int .i64 (z : Int))) HT2.out, HB.out⟩
end Go.Proofs.Ytjhinakfoejpbaa.T

/- The document's tally: how often a value is there. No condition stands open. -/
namespace Go.Proofs.Ytjhinakfoejpbaa.T
open Go.RowKit Go.Proofs.Ytjhinakfoejpbaa Go.Proofs.Ytjhinakfoejpbaa.WPure Go.Proofs.YtjhinakfoejpbaaW.PrintWords Go.Proofs.YtjhinakfoejpbaaW.PrintLast Go.Proofs.YtjhinakfoejpbaaW.PrintMore
attribute [local go_sem high] PG.eqA25
set_option maxHeartbeats 4000000 in
set_option maxRecDepth 100000 in
theorem docOften_no {w : World} {A : Option Addr} {n cap : Nat} {l : List Val} (h : VRow w A n l) (hl : n ≤ 4096) (k x : Int) (s : ByteArray) (b : Bool) (c : Int) (hx : okV (k, x, s, b, c) = false) : Calls Try.prog 78 #[.agg #[.slice A n cap], .agg #[.int .i64 k, .int .i64 x, .string s, .bool b, .int .i64 c]] w fun e w' => e = .returned (.int .i64 0) ∧ Below w.heap.size w w' := by
  have HB : Hid (Below w.heap.size w ((w.alloc (.cells #[.slice A n cap] 64)).alloc (.cells #[.int .i64 k, .int .i64 x, .string s, .bool b, .int .i64 c] 25))) := box2 w _ _
  have z0 : ((w.alloc (.cells #[.slice A n cap] 64)).alloc (.cells #[.int .i64 k, .int .i64 x, .string s, .bool b, .int .i64 c] 25)).cell? ⟨w.heap.size, 0, none⟩ = some (.slice A n cap) := blk_cell (blk_alloc (heap_alloc_new w _) _) 0
  have HL := Lib.hid hl
  have hu55 := Try.underlying55
  have hu64 := Try.underlying64
  have hu25 := Try.underlying25
  have HR : Hid (∀ W, Calls Try.prog 67 #[.agg #[.int .i64 k, .int .i64 x, .string s, .bool b, .int .i64 c]] W fun e w' => e = .returned (.bool false) ∧ Below W.heap.size W w') := fun W => by have e := docRight (k, x, s, b, c) W; rwa [hx] at e
  clear h hl hx
  by_cases hn : 0 < n
  · have d0 : decide ((0 : Int) < (n : Int)) = true := decide_eq_true (by omega)
    have d1 : (0 : Int) < (n : Int) := by omega
    clear hn
    go_enter Try.func78, Try.ntmps78
    go_upto_region 3 with fail
    go_loopg [5, 6] 0 (fun kq v5 v6 wr => v5 = .int .i64 0 ∧ v6 = .int .i64 0 ∧ wr = (w.alloc (.cells #[.slice A n cap] 64)).alloc (.cells #[.int .i64 k, .int .i64 x, .string s, .bool b, .int .i64 c] 25))
    case atStart => exact ⟨rfl, rfl, rfl⟩
    case round =>
      obtain ⟨rfl, rfl, rfl⟩ := hrel
      go_wp2_with (go_at_call 67; refine (HR.out _).mono ?_; rintro e w2 ⟨rfl, hb⟩; have HB2 := Lib.hid (HB.out.trans (hb.mono HB.out.size)); clear hb)
      go_ret
      exact ⟨rfl, HB2.out⟩
  · have d0 : decide ((0 : Int) < (n : Int)) = false := decide_eq_false (by omega)
    have e0 : n = 0 := by omega
    subst e0
    clear hn
    go_enter Try.func78, Try.ntmps78
    go_upto_region 3 with fail
    go_loopg [5, 6] 0 (fun kq v5 v6 wr => v5 = .int .i64 0 ∧ v6 = .int .i64 0 ∧ wr = (w.alloc (.cells #[.slice A 0 cap] 64)).alloc (.cells #[.int .i64 k, .int .i64 x, .string s, .bool b, .int .i64 c] 25))
    case atStart => exact ⟨rfl, rfl, rfl⟩
    case round =>
      obtain ⟨rfl, rfl, rfl⟩ := hrel
      go_wp2
      go_ret
      exact ⟨rfl, HB.out⟩
set_option maxHeartbeats 8000000 in
set_option maxRecDepth 100000 in
theorem docOften_yes {w : World} {A : Option Addr} {n cap : Nat} {l : List Val} (h : VRow w A n l) (hl : n ≤ 4096) (k x : Int) (s : ByteArray) (b : Bool) (c : Int) (hx : okV (k, x, s, b, c) = true) : Calls Try.prog 78 #[.agg #[.slice A n cap], .agg #[.int .i64 k, .int .i64 x, .string s, .bool b, .int .i64 c]] w fun e w' => e = .returned (.int .i64 (cnt l (k, x, foldS s, b, c) : Nat)) ∧ Below w.heap.size w w' := by
  have HB : Hid (Below w.heap.size w ((w.alloc (.cells #[.slice A n cap] 64)).alloc (.cells #[.int .i64 k, .int .i64 x, .string s, .bool b, .int .i64 c] 25))) := box2 w _ _
  have z0 : ((w.alloc (.cells #[.slice A n cap] 64)).alloc (.cells #[.int .i64 k, .int .i64 x, .string s, .bool b, .int .i64 c] 25)).cell? ⟨w.heap.size, 0, none⟩ = some (.slice A n cap) := blk_cell (blk_alloc (heap_alloc_new w _) _) 0
  have X1 : Hid (BoxAt ((w.alloc (.cells #[.slice A n cap] 64)).alloc (.cells #[.int .i64 k, .int .i64 x, .string s, .bool b, .int .i64 c] 25)) (w.heap.size + 1) k x s b c) := by
    have e := heap_alloc_new (w.alloc (.cells #[.slice A n cap] 64)) (.cells #[.int .i64 k, .int .i64 x, .string s, .bool b, .int .i64 c] 25)
    rwa [World.size_alloc] at e
  have H : Hid (VRow ((w.alloc (.cells #[.slice A n cap] 64)).alloc (.cells #[.int .i64 k, .int .i64 x, .string s, .bool b, .int .i64 c] 25)) A n l) := h.below HB.out
  have HL := Lib.hid hl
  have hu55 := Try.underlying55
  have hu64 := Try.underlying64
  have hu25 := Try.underlying25
  have HS : Hid (s.size ≤ 255) := small_S hx
  have HR : Hid (∀ W, Calls Try.prog 67 #[.agg #[.int .i64 k, .int .i64 x, .string s, .bool b, .int .i64 c]] W fun e w' => e = .returned (.bool true) ∧ Below W.heap.size W w') := fun W => by have e := docRight (k, x, s, b, c) W; rwa [hx] at e
  clear h hl hx
  obtain ⟨f, hf⟩ : ∃ f, foldS s = f := ⟨_, rfl⟩
  have HF : Hid (∀ W, Calls Try.prog 68 #[.agg #[.int .i64 k, .int .i64 x, .string s, .bool b, .int .i64 c]] W fun e w' => e = .returned (.agg #[.int .i64 k, .int .i64 x, .string f, .bool b, .int .i64 c]) ∧ Below W.heap.size W w') := fun W => by have e := docHeld k x s b c HS.out W; rwa [hf] at e
  rw [hf]
  clear hf
  go_enter Try.func78, Try.ntmps78
  go_upto_region 3 with fail
  generalize ((w.alloc (.cells #[.slice A n cap] 64)).alloc (.cells #[.int .i64 k, .int .i64 x, .string s, .bool b, .int .i64 c] 25)) = W0 at HB z0 X1 H ⊢
  go_loopg [5, 6] n (fun kq v5 v6 wr => ∃ i : Nat, v6 = .int .i64 (i : Int) ∧ v5 = .int .i64 ((cnt (l.take i) (k, x, f, b, c) : Nat) : Int) ∧ Hid (i + kq = n) ∧ Hid (Below W0.heap.size W0 wr))
  case atStart => exact ⟨0, rfl, rfl, (Nat.zero_add n : 0 + n = n), Below.refl _ _⟩
  case round =>
    obtain ⟨i, rfl, rfl, hi, HB2⟩ := hrel
    have z1 := pw_cell_below HB2.out z0
    have Y1 : Hid (BoxAt wr (w.heap.size + 1) k x s b c) := (HB2.out.block _ (blk_lt X1.out)).trans X1.out
    have y0 := blk_cell Y1.out 0
    have y1 := blk_cell Y1.out 1
    have y2 := blk_cell Y1.out 2
    have y3 := blk_cell Y1.out 3
    have y4 := blk_cell Y1.out 4
    by_cases hlt : i < n
    · obtain ⟨ad, y, rfl, hy, c0, c1, c2_, c3, c4⟩ := (H.out.below HB2.out).at hlt
      obtain ⟨k2, x2, s2, b2, c2⟩ := y
      have n0 : ((i : Int)).toNat = i := Int.toNat_natCast i
      have p0 : (0 : Int) ≤ (i : Int) := Int.natCast_nonneg i
      have l0 : (i : Int) < (n : Int) := by omega
      have d0 : decide ((i : Int) < (n : Int)) = true := decide_eq_true l0
      have d1 : i < n := hlt
      have wi : wrap64 ((i : Int) + 1) = (i : Int) + 1 := by have := HL.out; unfold wrap64; omega
      have HC := Lib.hid (cp_succ hy fun y => decide (y = (k, x, f, b, c)))
      obtain ⟨m, hm⟩ : ∃ m, cnt (l.take i) (k, x, f, b, c) = m := ⟨_, rfl⟩
      have hm2 : m ≤ i := by rw [← hm]; exact cp_le _ _ _
      have HC2 : Hid (cnt (l.take (i + 1)) (k, x, f, b, c) = m + if decide (((k2, x2, s2, b2, c2) : Val) = (k, x, f, b, c)) = true then 1 else 0) := by rw [← hm]; exact HC.out
      rw [hm]
      have wm : wrap64 ((m : Int) + 1) = (m : Int) + 1 := by have := HL.out; unfold wrap64; omega
      clear hy hm hm2 hlt HC
      go_upto_region 5 with (go_at_call 67; refine (HR.out _).mono ?_; rintro e w2 ⟨rfl, hb⟩; have hbd := hb.drew; have HB3 : Hid (Below W0.heap.size W0 w2.drew) := HB2.out.trans (hbd.mono HB2.out.size); replace z1 := pw_cell_below hbd z1; replace y0 := pw_cell_below hbd y0; replace y1 := pw_cell_below hbd y1; replace y2 := pw_cell_below hbd y2; replace y3 := pw_cell_below hbd y3; replace y4 := pw_cell_below hbd y4; replace c0 := pw_cell_below hbd c0; replace c1 := pw_cell_below hbd c1; replace c2_ := pw_cell_below hbd c2_; replace c3 := pw_cell_below hbd c3; replace c4 := pw_cell_below hbd c4; clear hb hbd HB2 Y1)
      refine start_ (n := 8) (S := fun W => W.cell? ⟨w.heap.size, 0, none⟩ = some (.slice (some ad) n cap) ∧ W.cell? ⟨w.heap.size + 1, 0, none⟩ = some (.int .i64 k) ∧ W.cell? ⟨w.heap.size + 1, 1, none⟩ = some (.int .i64 x) ∧ W.cell? ⟨w.heap.size + 1, 2, none⟩ = some (.string s) ∧ W.cell? ⟨w.heap.size + 1, 3, none⟩ = some (.bool b) ∧ W.cell? ⟨w.heap.size + 1, 4, none⟩ = some (.int .i64 c) ∧ W.cell? (ad.add (i * 5)) = some (.int .i64 k2) ∧ W.cell? ⟨(ad.add (i * 5)).block, (ad.add (i * 5)).off + 1, none⟩ = some (.int .i64 x2) ∧ W.cell? ⟨(ad.add (i * 5)).block, (ad.add (i * 5)).off + 2, none⟩ = some (.string s2) ∧ W.cell? ⟨(ad.add (i * 5)).block, (ad.add (i * 5)).off + 3, none⟩ = some (.bool b2) ∧ W.cell? ⟨(ad.add (i * 5)).block, (ad.add (i * 5)).off + 4, none⟩ = some (.int .i64 c2)) (ds := []) (ba 8 0) (by kernel_rfl) rfl rfl ⟨z1, y0, y1, y2, y3, y4, c0, c1, c2_, c3, c4⟩ (fun hHeld => ?_)
      generalize w2.drew = w3 at z1 y0 y1 y2 y3 y4 c0 c1 c2_ c3 c4 HB3 hHeld ⊢
      refine pS (i := 0) (N := some 18) (ba 8 1) rfl rfl ?_
      refine tS hHeld (i := 1) (N := some 19) (ba 8 3) rfl rfl ?_
      refine pS (i := 2) (N := some 20) (ba 8 7) rfl rfl ?_
      refine pS (i := 3) (N := some 21) (ba 8 15) rfl rfl ?_
      refine tS hHeld (i := 4) (N := some 22) (ba 8 31) rfl rfl ?_
      refine tS hHeld (i := 5) (N := some 23) (ba 8 63) rfl rfl ?_
      refine one_ (i := 6) (N := some 24) (ba 8 127) rfl rfl (by kernel_rfl) (by decide) (fun K hK => ?_)
      refine goes_ Try.func68 (by kernel_rfl) rfl #[.agg #[.int .i64 k, .int .i64 x, .string s, .bool b, .int .i64 c]] (by rfl) rfl rfl (by (try simp only [List.map_toArray, List.map_cons, List.map_nil]); first | done | rfl) ?_
      refine (HF.out w3).mono ?_
      rintro e w4 ⟨rfl, hb⟩
      replace z1 := pw_cell_below hb z1
      replace y0 := pw_cell_below hb y0
      replace y1 := pw_cell_below hb y1
      replace y2 := pw_cell_below hb y2
      replace y3 := pw_cell_below hb y3
      replace y4 := pw_cell_below hb y4
      replace c0 := pw_cell_below hb c0
      replace c1 := pw_cell_below hb c1
      replace c2_ := pw_cell_below hb c2_
      replace c3 := pw_cell_below hb c3
      replace c4 := pw_cell_below hb c4
      have HB4 := Lib.hid (HB3.out.trans (hb.mono HB3.out.size))
      clear hb
      refine ⟨_, rfl, ?_⟩
      refine hK.out _ _ ⟨z1, y0, y1, y2, y3, y4, c0, c1, c2_, c3, c4⟩ (fun hHeld => nS (N := 24) ?_)
      clear hK K
      refine pS (i := 7) (N := some 25) (ba 8 255) rfl rfl ?_
      refine done_ (by kernel_rfl) ?_
      obtain ⟨q, hq⟩ : ∃ q, (k2 == k && (x2 == x && (s2.toList == f.toList && (b2 == b && c2 == c)))) = q := ⟨_, rfl⟩
      rw [hq]
      rw [← beq_held, hq] at HC2
      clear hq
      cases q
      · go_wp2
        go_roundg (gk - 1)
        case measure => have := hi.out; omega
        case rel => exact ⟨i + 1, congrArg _ wi, congrArg (fun z : Nat => Value.int .i64 (z : Int)) HC2.out.symm, (by have := hi.out; omega : i + 1 + (gk - 1) = n), HB4⟩
      · go_wp2
        go_roundg (gk - 1)
        case measure => have := hi.out; omega
        case rel => exact ⟨i + 1, by first | rfl | exact congrArg _ wi, by first | exact congrArg (fun z : Nat => Value.int .i64 (z : Int)) HC2.out.symm | exact (congrArg _ wm).trans (congrArg (fun z : Nat => Value.int .i64 (z : Int)) HC2.out.symm), (by have := hi.out; omega : i + 1 + (gk - 1) = n), HB4⟩
    · have e : i = n := by have := hi.out; omega
      have d0 : decide ((i : Int) < (n : Int)) = false := decide_eq_false (by omega)
      have d1 : ¬ i < n := hlt
      have HT2 : Hid (cnt (l.take i) (k, x, f, b, c) = cnt l (k, x, f, b, c)) := by
        show _ = _
        rw [e, ← H.out.1, List.take_length]
      obtain ⟨m, hm⟩ : ∃ m, cnt (l.take i) (k, x, f, b, c) = m := ⟨_, rfl⟩
      rw [hm] at HT2 ⊢
      clear hi hlt e hm
      go_wp2
      go_ret
      exact ⟨congrArg (fun z : Nat => Ending.returned (.int .i64 (z : Int))) HT2.out, HB.out.trans (HB2.out.mono HB.out.size)⟩
end Go.Proofs.Ytjhinakfoejpbaa.T

/- What the document tells is what the tally tells. No condition stands open. -/
namespace Go.Proofs.Ytjhinakfoejpbaa.T
open Go.RowKit Go.Proofs.Ytjhinakfoejpbaa Go.Proofs.Ytjhinakfoejpbaa.WPure Go.Proofs.YtjhinakfoejpbaaW.PrintWords Go.Proofs.YtjhinakfoejpbaaW.PrintLast Go.Proofs.YtjhinakfoejpbaaW.PrintMore
theorem leastF_is (f : Nat → Int) : ∀ n i, (leastF f i n = 0 ∧ ∀ j, i ≤ j → j < i + n → ¬ 0 < f j) ∨ (i ≤ leastF f i n ∧ leastF f i n < i + n ∧ 0 < f (leastF f i n) ∧ ∀ j, i ≤ j → j < leastF f i n → ¬ 0 < f j)
  | 0, i => .inl ⟨rfl, fun j h1 h2 => by omega⟩
  | n + 1, i => by
    unfold leastF
    by_cases h : 0 < f i
    · rw [if_pos h]
      exact .inr ⟨Nat.le_refl _, by omega, h, fun j h1 h2 => by omega⟩
    · rw [if_neg h]
      rcases leastF_is f n (i + 1) with ⟨h1, h2⟩ | ⟨h1, h2, h3, h4⟩
      · refine .inl ⟨h1, fun j a b => ?_⟩
        rcases Nat.eq_or_lt_of_le a with e | e
        · exact e ▸ h
        · exact h2 j (by omega) (by omega)
      · refine .inr ⟨by omega, by omega, h3, fun j a b => ?_⟩
        rcases Nat.eq_or_lt_of_le a with e | e
        · exact e ▸ h
        · exact h4 j (by omega) b
theorem fold_is (l : List Val) : ∀ a : Int, 0 ≤ a → (l.foldl (fun a y => fStep a y.2.2.2.2) a = a ∧ ∀ y ∈ l, 0 < y.2.2.2.2 → 0 < a ∧ a ≤ y.2.2.2.2) ∨ (0 < l.foldl (fun a y => fStep a y.2.2.2.2) a ∧ (0 < a → l.foldl (fun a y => fStep a y.2.2.2.2) a ≤ a) ∧ (∃ y ∈ l, y.2.2.2.2 = l.foldl (fun a y => fStep a y.2.2.2.2) a) ∧ ∀ y ∈ l, 0 < y.2.2.2.2 → l.foldl (fun a y => fStep a y.2.2.2.2) a ≤ y.2.2.2.2) := by
  induction l with
  | nil => exact fun a _ => .inl ⟨rfl, fun y h => absurd h List.not_mem_nil⟩
  | cons x l ih =>
    intro a ha
    rw [List.foldl_cons]
    by_cases hc : 0 < x.2.2.2.2 ∧ (a = 0 ∨ x.2.2.2.2 < a)
    · rw [show fStep a x.2.2.2.2 = x.2.2.2.2 from if_pos hc]
      rcases ih x.2.2.2.2 (by omega) with ⟨h1, h2⟩ | ⟨h1, h2, ⟨y, hy, e⟩, h4⟩
      · refine .inr ⟨by rw [h1]; exact hc.1, fun h => by rw [h1]; omega, ⟨x, List.mem_cons_self, h1.symm⟩, fun y hy hp => ?_⟩
        rw [h1]
        rcases List.mem_cons.1 hy with rfl | hy
        · exact Int.le_refl _
        · exact (h2 y hy hp).2
      · refine .inr ⟨h1, fun h => by have := h2 hc.1; omega, ⟨y, List.mem_cons_of_mem _ hy, e⟩, fun z hz hp => ?_⟩
        rcases List.mem_cons.1 hz with rfl | hz
        · exact h2 hc.1
        · exact h4 z hz hp
    · rw [show fStep a x.2.2.2.2 = a from if_neg hc]
      rcases ih a ha with ⟨h1, h2⟩ | ⟨h1, h2, ⟨y, hy, e⟩, h4⟩
      · refine .inl ⟨h1, fun y hy hp => ?_⟩
        rcases List.mem_cons.1 hy with rfl | hy
        · omega
        · exact h2 y hy hp
      · refine .inr ⟨h1, h2, ⟨y, List.mem_cons_of_mem _ hy, e⟩, fun z hz hp => ?_⟩
        rcases List.mem_cons.1 hz with rfl | hz
        · have : 0 < a ∧ a ≤ z.2.2.2.2 := by omega
          have := h2 this.1
          omega
        · exact h4 z hz hp
theorem code_is {x : Val} (h : okV x = true) : (0 < x.2.2.2.2 ∧ x.2.2.2.2 < 8 ∧ x.1 = 4) ∨ (x.2.2.2.2 = 0 ∧ x.1 ≠ 4) := by
  rcases okK h with ⟨e0, e⟩ | ⟨e0, e⟩ | ⟨e0, e⟩ | ⟨e0, e⟩ | ⟨e0, e⟩
  · exact .inr ⟨congrArg (fun y : Val => y.2.2.2.2) e, by omega⟩
  · exact .inr ⟨congrArg (fun y : Val => y.2.2.2.2) e, by omega⟩
  · exact .inr ⟨congrArg (fun y : Val => y.2.2.2.2) e, by omega⟩
  · exact .inr ⟨congrArg (fun y : Val => y.2.2.2.2) e, by omega⟩
  · exact .inl ⟨by omega, by omega, e0⟩
theorem slot_code {x : Val} (h : okV x = true) (c : Nat) (hc : c < 8) : slot (2 + c) x = true ↔ (0 < x.2.2.2.2 ∧ x.2.2.2.2 = (c : Int)) := by
  unfold slot
  rw [decide_eq_true_iff]
  have h1 := code_is h
  have h2 := okK h
  constructor
  · rintro (e | e | ⟨_, e⟩ | ⟨e1, e2⟩)
    · omega
    · omega
    · split at e <;> omega
    · omega
  · rintro ⟨e1, e2⟩
    exact .inr (.inr (.inr ⟨by omega, by omega⟩))
theorem flt_eq {l : List Val} (hok : ∀ x ∈ l, okV x = true) : fltD l = (faultR l : Int) := by
  have hp : ∀ c, c < 8 → (0 < ((l.countP (slot (2 + c)) : Nat) : Int) ↔ ∃ y ∈ l, 0 < y.2.2.2.2 ∧ y.2.2.2.2 = (c : Int)) := by
    intro c hc
    rw [show (0 < ((l.countP (slot (2 + c)) : Nat) : Int)) ↔ 0 < l.countP (slot (2 + c)) by omega, List.countP_pos_iff]
    constructor
    · rintro ⟨y, hy, e⟩
      exact ⟨y, hy, (slot_code (hok y hy) c hc).1 e⟩
    · rintro ⟨y, hy, e⟩
      exact ⟨y, hy, (slot_code (hok y hy) c hc).2 e⟩
  have h1 := fold_is l 0 (Int.le_refl _)
  have h2 := leastF_is (fun c => ((l.countP (slot (2 + c)) : Nat) : Int)) 8 0
  show l.foldl (fun a y => fStep a y.2.2.2.2) 0 = ((leastF (fun c => ((l.countP (slot (2 + c)) : Nat) : Int)) 0 8 : Nat) : Int)
  generalize l.foldl (fun a y => fStep a y.2.2.2.2) 0 = F at h1 ⊢
  generalize leastF (fun c => ((l.countP (slot (2 + c)) : Nat) : Int)) 0 8 = M at h2 ⊢
  rcases h1 with ⟨a1, a2⟩ | ⟨a1, _, ⟨y, hy, e⟩, a4⟩
  · rcases h2 with ⟨b1, b2⟩ | ⟨b1, b2, b3, b4⟩
    · omega
    · obtain ⟨z, hz, e1, e2⟩ := (hp M (by omega)).1 b3
      have := a2 z hz e1
      omega
  · have hy8 := code_is (hok y hy)
    have hF : 0 < ((l.countP (slot (2 + F.toNat)) : Nat) : Int) := (hp F.toNat (by omega)).2 ⟨y, hy, by omega, by omega⟩
    rcases h2 with ⟨b1, b2⟩ | ⟨b1, b2, b3, b4⟩
    · exact absurd hF (b2 F.toNat (by omega) (by omega))
    · obtain ⟨z, hz, e1, e2⟩ := (hp M (by omega)).1 b3
      have h3 := a4 z hz e1
      rcases Nat.lt_or_ge F.toNat M with q | q
      · exact absurd hF (b4 F.toNat (by omega) q)
      · omega
theorem told_eq {l : List Val} (hok : ∀ x ∈ l, okV x = true) (r : Int × Int) : toldD l r = toldR l r := by
  unfold toldD toldR
  rw [flt_eq hok]
  by_cases h : faultR l = 0
  · rw [if_pos h, if_pos (by omega)]
  · rw [if_neg h, if_neg (by omega)]
theorem nums_good {l : List Val} (hok : ∀ x ∈ l, okV x = true) (hl : l.length ≤ 4096) : SN.good (numsL l) := by
  refine ⟨nums_few rfl hl, fun a ha => ?_⟩
  unfold numsL at ha
  obtain ⟨x, hx, e⟩ := List.mem_filterMap.1 ha
  by_cases h1 : x.1 = 1
  · rw [if_pos h1] at e
    obtain rfl := Option.some.inj e
    have h2 := hok x hx
    obtain ⟨k, n, s, b, c⟩ := x
    obtain rfl : k = 1 := h1
    have h3 := right1 h2
    have h4 := h3.1
    unfold fits
    simpa [fitsB] using h4
  · rw [if_neg h1] at e
    exact absurd e (by simp)
theorem mean_twice (v : Int) : meanV (v + v) 2 = v := by
  have hm : meanN (v.natAbs + v.natAbs) 2 = v.natAbs := by
    unfold meanN
    rw [if_neg (by omega)]
    omega
  unfold meanV
  rw [show (v + v).natAbs = v.natAbs + v.natAbs by omega, hm]
  split <;> omega
section
variable {l : List Val} (hg : SN.good (numsL l))
include hg
theorem sumE : SN.sumN (numsL l) = sumR l := by
  unfold sumR SN.sumN
  by_cases h : fits (numsL l).sum
  · rw [if_pos h, if_pos ⟨hg, h⟩]
  · rw [if_neg h, if_neg (fun z => h z.2)]
theorem meanE : SN.avgN (numsL l) = meanR l := by
  unfold meanR SN.avgN
  rw [if_pos hg]
theorem leastE : SN.leN (numsL l) = endR l 0 := by
  unfold endR SN.leN
  rw [if_pos hg]
theorem greatE : SN.grN (numsL l) = endR l ((numsL l).length - 1) := by
  unfold endR SN.grN
  rw [if_pos hg]
theorem smallE (k : Int) : SN.smallN (numsL l) k = smallR l k := by
  unfold smallR SN.smallN
  by_cases h : 1 ≤ k ∧ k ≤ (numsL l).length
  · rw [if_pos h, if_pos ⟨hg, h⟩]
  · rw [if_neg h, if_neg (fun z => h z.2)]
theorem midE : SN.medN (numsL l) = midR l := by
  unfold midR SN.medN
  by_cases h : (numsL l).length = 0
  · rw [if_pos h, if_neg (fun z => z.2 h)]
  · rw [if_neg h, if_pos ⟨hg, h⟩]
    by_cases o : (numsL l).length % 2 = 1
    · rw [if_pos o, show ((numsL l).length - 1) / 2 = (numsL l).length / 2 by omega, mean_twice]
    · rw [if_neg o, show ((numsL l).length - 1) / 2 = (numsL l).length / 2 - 1 by omega]
end
end Go.Proofs.Ytjhinakfoejpbaa.T

/- How many different numbers there are: a tree's knots. No condition stands open. -/
namespace Go.Proofs.Ytjhinakfoejpbaa.T
open Go.RowKit Go.Proofs.Ytjhinakfoejpbaa Go.Proofs.Ytjhinakfoejpbaa.WPure Go.Proofs.YtjhinakfoejpbaaW.PrintWords Go.Proofs.YtjhinakfoejpbaaW.PrintLast Go.Proofs.YtjhinakfoejpbaaW.PrintMore
theorem unl_card : ∀ (r : List Int), Up r → ∀ K : List Int, K.Nodup → (∀ x, x ∈ K ↔ x ∈ r) → unl r = K.length
  | [], _, K, _, h => by
    cases K with
    | nil => rfl
    | cons a K => exact absurd ((h a).1 List.mem_cons_self) List.not_mem_nil
  | [a], _, K, hn, h => by
    have ha := (h a).2 List.mem_cons_self
    have hp := List.perm_cons_erase ha
    have he : K.erase a = [] := by
      cases e : K.erase a with
      | nil => rfl
      | cons b L =>
        have hb : b ∈ K.erase a := by rw [e]; exact List.mem_cons_self
        have h1 := (List.Nodup.mem_erase_iff hn).1 hb
        have h2 := List.mem_singleton.1 ((h b).1 h1.2)
        exact absurd h2 h1.1
    rw [hp.length_eq, he]
    rfl
  | a :: b :: r, hu, K, hn, h => by
    have hu2 := (List.pairwise_cons.1 hu).2
    have hu1 := (List.pairwise_cons.1 hu).1
    by_cases e : a = b
    · rw [show unl (a :: b :: r) = (if a = b then 0 else 1) + unl (b :: r) from rfl, if_pos e, Nat.zero_add]
      refine unl_card (b :: r) hu2 K hn (fun x => ?_)
      rw [h x, List.mem_cons, e]
      constructor
      · rintro (z | z)
        · rw [z]; exact List.mem_cons_self
        · exact z
      · exact .inr
    · rw [show unl (a :: b :: r) = (if a = b then 0 else 1) + unl (b :: r) from rfl, if_neg e]
      have ha := (h a).2 List.mem_cons_self
      have hp := List.perm_cons_erase ha
      rw [hp.length_eq, List.length_cons, Nat.add_comm 1]
      refine congrArg (· + 1) (unl_card (b :: r) hu2 _ (hn.erase a) (fun x => ?_))
      rw [List.Nodup.mem_erase_iff hn, h x, List.mem_cons (a := x) (b := a)]
      have hab : a < b := by have := hu1 b List.mem_cons_self; omega
      have hlow : ∀ z ∈ b :: r, a < z := fun z hz => by
        rcases List.mem_cons.1 hz with rfl | hz2
        · exact hab
        · have := (List.pairwise_cons.1 hu2).1 z hz2
          omega
      constructor
      · rintro ⟨z1, z2 | z2⟩
        · exact absurd z2 z1
        · exact z2
      · intro z
        have := hlow x z
        exact ⟨by omega, .inr z⟩
theorem keys_mem : ∀ {t : Tree}, Pos t → ∀ x, x ∈ keys t ↔ x ∈ row t
  | .nil, _, x => Iff.rfl
  | .nd k l y n r, h, x => by
    have hl := keys_mem h.1 x
    have hr := keys_mem h.2.1 x
    have hn := h.2.2
    simp only [keys, row, List.mem_append, List.mem_cons, List.mem_replicate, hl, hr]
    constructor
    · rintro (z | z | z)
      · exact .inl z
      · exact .inr (.inl ⟨by omega, z⟩)
      · exact .inr (.inr z)
    · rintro (z | ⟨_, z⟩ | z)
      · exact .inl z
      · exact .inr (.inl z)
      · exact .inr (.inr z)
theorem keys_len : ∀ t : Tree, (keys t).length = siz t
  | .nil => rfl
  | .nd k l y n r => by
    simp only [keys, siz, List.length_append, List.length_cons, keys_len l, keys_len r]
    omega
theorem unl_siz {t : Tree} (hp : Pos t) (hs : Srt t) {r : List Int} (hu : Up r) (hr : r.Perm (row t)) : unl r = siz t := by
  rw [← keys_len]
  refine unl_card r hu _ (hs.imp (fun h e => by omega)) (fun x => ?_)
  rw [keys_mem hp, hr.mem_iff]
theorem high_zero (t : Tree) : highT t = 0 ↔ siz t = 0 := by
  cases t with
  | nil => exact Iff.rfl
  | nd k l y n r => simp only [highT, siz]; omega
end Go.Proofs.Ytjhinakfoejpbaa.T
