/- Values, texts, the tally's memory. No condition stands open. -/
import Derived.Test.YtjhinakfoejpbaaJ1
import Derived.Test.YtjhinakfoejpbaaZS
import Derived.Laws.BytesArg
import Derived.Lib.ConvBytes
import Derived.Deep.LoopGhost
import Derived.Lib.OthersKept
import Derived.Maps.OwnSet
import Derived.Maps.OwnOps
set_option linter.unusedVariables false
set_option linter.unusedSimpArgs false
/- Which values are right. No condition stands open. -/
namespace Go.Proofs.Ytjhinakfoejpbaa.T
open Go.RowKit Go.Proofs.YtjhinakfoejpbaaW.PrintWords Go.Proofs.YtjhinakfoejpbaaW.PrintLast Go.Proofs.YtjhinakfoejpbaaW.PrintMore

theorem noS {s : ByteArray} (h : s.size = 0) : s = ⟨#[]⟩ := by
  apply ByteArray.ext
  exact Array.eq_empty_of_size_eq_zero h
theorem toList_inj {x y : ByteArray} (h : x.toList = y.toList) : x = y := by
  rw [ByteArray.toList_eq, ByteArray.toList_eq] at h
  obtain ⟨⟨x⟩⟩ := x
  obtain ⟨⟨y⟩⟩ := y
  simp at h
  rw [h]
theorem fullS {s : ByteArray} (h : ¬ s.size = 0) : s.toList.isEmpty = false := by
  cases e : s.toList.isEmpty with
  | false => rfl
  | true =>
    exfalso
    apply h
    have e2 := List.isEmpty_iff.1 e
    rw [ByteArray.toList_eq] at e2
    have e3 : s.data.toList.length = 0 := by rw [e2]; rfl
    rw [Array.length_toList] at e3
    exact e3
def fitsB (n : Int) : Bool := decide (-1000000000000000000 ≤ n) && decide (n ≤ 1000000000000000000)
theorem fits_any (n : Int) (w : World) : Calls Try.prog 25 #[.int .i64 n] w fun e w' => e = .returned (.bool (fitsB n)) ∧ w = w' := by
  by_cases h1 : -1000000000000000000 ≤ n
  · have d1 : decide (-1000000000000000000 ≤ n) = true := decide_eq_true h1
    have e1 : fitsB n = decide (n ≤ 1000000000000000000) := by unfold fitsB; rw [d1, Bool.true_and]
    rw [e1]
    clear h1 e1
    go_enter Try.func25, Try.ntmps25
    go_wp2
    go_ret
    exact ⟨rfl, rfl⟩
  · have d1 : decide (-1000000000000000000 ≤ n) = false := decide_eq_false h1
    have e1 : fitsB n = false := by unfold fitsB; rw [d1, Bool.false_and]
    rw [e1]
    clear h1 e1
    go_enter Try.func25, Try.ntmps25
    go_wp2
    go_ret
    exact ⟨rfl, rfl⟩
def rightB (k n : Int) (s : ByteArray) (b : Bool) (c : Int) : Bool :=
  if k = 0 then decide (n = 0) && (decide (s.size = 0) && (!b && decide (c = 0)))
  else if k = 1 then fitsB n && (decide (s.size = 0) && (!b && decide (c = 0)))
  else if k = 2 then decide (s.size ≤ 255) && (decide (n = 0) && (!b && decide (c = 0)))
  else if k = 3 then decide (n = 0) && (decide (s.size = 0) && decide (c = 0))
  else if k = 4 then decide (0 < c) && (decide (c ≤ 7) && (decide (n = 0) && (decide (s.size = 0) && !b)))
  else false
theorem box2 (w : World) (a b : Obj) : Below w.heap.size w ((w.alloc a).alloc b) := ((Below.refl _ w).alloc (Nat.le_refl _) _).alloc (by simp) _
set_option maxHeartbeats 4000000 in
set_option maxRecDepth 100000 in
theorem check0_n (n : Int) (s : ByteArray) (b : Bool) (c : Int) (h : ¬ n = 0) (w : World) : Calls Try.prog 33 #[.agg #[.int .i64 0, .int .i64 n, .string s, .bool b, .int .i64 c]] w fun e w' => e = .returned (.int .i64 2) ∧ Below w.heap.size w w' := by
  have hu25 := Try.underlying25
  have e1 : (0 == n) = false := beq_eq_false_iff_ne.2 (fun e => h e.symm)
  have e2 : (n == 0) = false := beq_eq_false_iff_ne.2 h
  go_enter Try.func33, Try.ntmps33
  go_wp2
  go_ret
  exact ⟨rfl, (by repeat (first | exact Below.refl _ _ | (refine Below.setCell ?_ (by simp) _) | (refine Below.alloc ?_ (by simp) _) | refine Below.drew ?_))⟩
set_option maxHeartbeats 4000000 in
set_option maxRecDepth 100000 in
theorem check0_s (s : ByteArray) (b : Bool) (c : Int) (h : ¬ s.size = 0) (w : World) : Calls Try.prog 33 #[.agg #[.int .i64 0, .int .i64 0, .string s, .bool b, .int .i64 c]] w fun e w' => e = .returned (.int .i64 2) ∧ Below w.heap.size w w' := by
  have hu25 := Try.underlying25
  have e1 := fullS h
  go_enter Try.func33, Try.ntmps33
  go_wp2
  go_ret
  exact ⟨rfl, (by repeat (first | exact Below.refl _ _ | (refine Below.setCell ?_ (by simp) _) | (refine Below.alloc ?_ (by simp) _) | refine Below.drew ?_))⟩
set_option maxHeartbeats 4000000 in
set_option maxRecDepth 100000 in
theorem check0_b (c : Int) (w : World) : Calls Try.prog 33 #[.agg #[.int .i64 0, .int .i64 0, .string ⟨#[]⟩, .bool true, .int .i64 c]] w fun e w' => e = .returned (.int .i64 2) ∧ Below w.heap.size w w' := by
  have hu25 := Try.underlying25
  go_enter Try.func33, Try.ntmps33
  go_wp2
  go_ret
  exact ⟨rfl, (by repeat (first | exact Below.refl _ _ | (refine Below.setCell ?_ (by simp) _) | (refine Below.alloc ?_ (by simp) _) | refine Below.drew ?_))⟩
set_option maxHeartbeats 4000000 in
set_option maxRecDepth 100000 in
theorem check0_c (c : Int) (h : ¬ c = 0) (w : World) : Calls Try.prog 33 #[.agg #[.int .i64 0, .int .i64 0, .string ⟨#[]⟩, .bool false, .int .i64 c]] w fun e w' => e = .returned (.int .i64 2) ∧ Below w.heap.size w w' := by
  have hu25 := Try.underlying25
  have e1 : (0 == c) = false := beq_eq_false_iff_ne.2 (fun e => h e.symm)
  have e2 : (c == 0) = false := beq_eq_false_iff_ne.2 h
  go_enter Try.func33, Try.ntmps33
  go_wp2
  go_ret
  exact ⟨rfl, (by repeat (first | exact Below.refl _ _ | (refine Below.setCell ?_ (by simp) _) | (refine Below.alloc ?_ (by simp) _) | refine Below.drew ?_))⟩
set_option maxHeartbeats 4000000 in
set_option maxRecDepth 100000 in
theorem check0_ok (w : World) : Calls Try.prog 33 #[.agg #[.int .i64 0, .int .i64 0, .string ⟨#[]⟩, .bool false, .int .i64 0]] w fun e w' => e = .returned (.int .i64 0) ∧ Below w.heap.size w w' := by
  have hu25 := Try.underlying25
  go_enter Try.func33, Try.ntmps33
  go_wp2
  go_ret
  exact ⟨rfl, (by repeat (first | exact Below.refl _ _ | (refine Below.setCell ?_ (by simp) _) | (refine Below.alloc ?_ (by simp) _) | refine Below.drew ?_))⟩
set_option maxHeartbeats 4000000 in
set_option maxRecDepth 100000 in
theorem check2_l (n : Int) (s : ByteArray) (b : Bool) (c : Int) (h : ¬ s.size ≤ 255) (w : World) : Calls Try.prog 33 #[.agg #[.int .i64 2, .int .i64 n, .string s, .bool b, .int .i64 c]] w fun e w' => e = .returned (.int .i64 2) ∧ Below w.heap.size w w' := by
  have hu25 := Try.underlying25
  have d1 : decide ((s.size : Int) ≤ 255) = false := decide_eq_false (by omega)
  have d2 : ¬ s.size ≤ 255 := h
  clear h
  go_enter Try.func33, Try.ntmps33
  go_upto_region 8 with fail
  go_region
  all_goals go_wp2
  all_goals go_ret
  all_goals exact ⟨rfl, (by repeat (first | exact Below.refl _ _ | (refine Below.setCell ?_ (by simp) _) | (refine Below.alloc ?_ (by simp) _) | refine Below.drew ?_))⟩
set_option maxHeartbeats 4000000 in
set_option maxRecDepth 100000 in
theorem check2_n (n : Int) (s : ByteArray) (b : Bool) (c : Int) (hs : s.size ≤ 255) (h : ¬ n = 0) (w : World) : Calls Try.prog 33 #[.agg #[.int .i64 2, .int .i64 n, .string s, .bool b, .int .i64 c]] w fun e w' => e = .returned (.int .i64 2) ∧ Below w.heap.size w w' := by
  have hu25 := Try.underlying25
  have d1 : decide ((s.size : Int) ≤ 255) = true := decide_eq_true (by omega)
  have e1 : (0 == n) = false := beq_eq_false_iff_ne.2 (fun e => h e.symm)
  have e2 : (n == 0) = false := beq_eq_false_iff_ne.2 h
  go_enter Try.func33, Try.ntmps33
  go_upto_region 8 with fail
  go_region
  all_goals go_wp2
  all_goals go_ret
  all_goals exact ⟨rfl, (by repeat (first | exact Below.refl _ _ | (refine Below.setCell ?_ (by simp) _) | (refine Below.alloc ?_ (by simp) _) | refine Below.drew ?_))⟩
set_option maxHeartbeats 4000000 in
set_option maxRecDepth 100000 in
theorem check2_b (s : ByteArray) (c : Int) (hs : s.size ≤ 255) (w : World) : Calls Try.prog 33 #[.agg #[.int .i64 2, .int .i64 0, .string s, .bool true, .int .i64 c]] w fun e w' => e = .returned (.int .i64 2) ∧ Below w.heap.size w w' := by
  have hu25 := Try.underlying25
  have d1 : decide ((s.size : Int) ≤ 255) = true := decide_eq_true (by omega)
  go_enter Try.func33, Try.ntmps33
  go_upto_region 8 with fail
  go_region
  all_goals go_wp2
  all_goals go_ret
  all_goals exact ⟨rfl, (by repeat (first | exact Below.refl _ _ | (refine Below.setCell ?_ (by simp) _) | (refine Below.alloc ?_ (by simp) _) | refine Below.drew ?_))⟩
set_option maxHeartbeats 4000000 in
set_option maxRecDepth 100000 in
theorem check2_c (s : ByteArray) (c : Int) (hs : s.size ≤ 255) (h : ¬ c = 0) (w : World) : Calls Try.prog 33 #[.agg #[.int .i64 2, .int .i64 0, .string s, .bool false, .int .i64 c]] w fun e w' => e = .returned (.int .i64 2) ∧ Below w.heap.size w w' := by
  have hu25 := Try.underlying25
  have d1 : decide ((s.size : Int) ≤ 255) = true := decide_eq_true (by omega)
  have e1 : (0 == c) = false := beq_eq_false_iff_ne.2 (fun e => h e.symm)
  have e2 : (c == 0) = false := beq_eq_false_iff_ne.2 h
  go_enter Try.func33, Try.ntmps33
  go_upto_region 8 with fail
  go_region
  all_goals go_wp2
  all_goals go_ret
  all_goals exact ⟨rfl, (by repeat (first | exact Below.refl _ _ | (refine Below.setCell ?_ (by simp) _) | (refine Below.alloc ?_ (by simp) _) | refine Below.drew ?_))⟩
set_option maxHeartbeats 4000000 in
set_option maxRecDepth 100000 in
theorem check2_ok (s : ByteArray) (hs : s.size ≤ 255) (w : World) : Calls Try.prog 33 #[.agg #[.int .i64 2, .int .i64 0, .string s, .bool false, .int .i64 0]] w fun e w' => e = .returned (.int .i64 0) ∧ Below w.heap.size w w' := by
  have hu25 := Try.underlying25
  have d1 : decide ((s.size : Int) ≤ 255) = true := decide_eq_true (by omega)
  go_enter Try.func33, Try.ntmps33
  go_upto_region 8 with fail
  go_region
  all_goals go_wp2
  all_goals go_ret
  all_goals exact ⟨rfl, (by repeat (first | exact Below.refl _ _ | (refine Below.setCell ?_ (by simp) _) | (refine Below.alloc ?_ (by simp) _) | refine Below.drew ?_))⟩
set_option maxHeartbeats 4000000 in
set_option maxRecDepth 100000 in
theorem check3_n (n : Int) (s : ByteArray) (b : Bool) (c : Int) (h : ¬ n = 0) (w : World) : Calls Try.prog 33 #[.agg #[.int .i64 3, .int .i64 n, .string s, .bool b, .int .i64 c]] w fun e w' => e = .returned (.int .i64 2) ∧ Below w.heap.size w w' := by
  have hu25 := Try.underlying25
  have e1 : (0 == n) = false := beq_eq_false_iff_ne.2 (fun e => h e.symm)
  have e2 : (n == 0) = false := beq_eq_false_iff_ne.2 h
  go_enter Try.func33, Try.ntmps33
  go_wp2
  go_ret
  exact ⟨rfl, (by repeat (first | exact Below.refl _ _ | (refine Below.setCell ?_ (by simp) _) | (refine Below.alloc ?_ (by simp) _) | refine Below.drew ?_))⟩
set_option maxHeartbeats 4000000 in
set_option maxRecDepth 100000 in
theorem check3_s (s : ByteArray) (b : Bool) (c : Int) (h : ¬ s.size = 0) (w : World) : Calls Try.prog 33 #[.agg #[.int .i64 3, .int .i64 0, .string s, .bool b, .int .i64 c]] w fun e w' => e = .returned (.int .i64 2) ∧ Below w.heap.size w w' := by
  have hu25 := Try.underlying25
  have e1 := fullS h
  go_enter Try.func33, Try.ntmps33
  go_wp2
  go_ret
  exact ⟨rfl, (by repeat (first | exact Below.refl _ _ | (refine Below.setCell ?_ (by simp) _) | (refine Below.alloc ?_ (by simp) _) | refine Below.drew ?_))⟩
set_option maxHeartbeats 4000000 in
set_option maxRecDepth 100000 in
theorem check3_c (b : Bool) (c : Int) (h : ¬ c = 0) (w : World) : Calls Try.prog 33 #[.agg #[.int .i64 3, .int .i64 0, .string ⟨#[]⟩, .bool b, .int .i64 c]] w fun e w' => e = .returned (.int .i64 2) ∧ Below w.heap.size w w' := by
  have hu25 := Try.underlying25
  have e1 : (0 == c) = false := beq_eq_false_iff_ne.2 (fun e => h e.symm)
  have e2 : (c == 0) = false := beq_eq_false_iff_ne.2 h
  go_enter Try.func33, Try.ntmps33
  go_wp2
  go_ret
  exact ⟨rfl, (by repeat (first | exact Below.refl _ _ | (refine Below.setCell ?_ (by simp) _) | (refine Below.alloc ?_ (by simp) _) | refine Below.drew ?_))⟩
set_option maxHeartbeats 4000000 in
set_option maxRecDepth 100000 in
theorem check3_ok (b : Bool) (w : World) : Calls Try.prog 33 #[.agg #[.int .i64 3, .int .i64 0, .string ⟨#[]⟩, .bool b, .int .i64 0]] w fun e w' => e = .returned (.int .i64 0) ∧ Below w.heap.size w w' := by
  have hu25 := Try.underlying25
  go_enter Try.func33, Try.ntmps33
  go_wp2
  go_ret
  exact ⟨rfl, (by repeat (first | exact Below.refl _ _ | (refine Below.setCell ?_ (by simp) _) | (refine Below.alloc ?_ (by simp) _) | refine Below.drew ?_))⟩
set_option maxHeartbeats 4000000 in
set_option maxRecDepth 100000 in
theorem check4_0 (n : Int) (s : ByteArray) (b : Bool) (c : Int) (h : ¬ 0 < c) (w : World) : Calls Try.prog 33 #[.agg #[.int .i64 4, .int .i64 n, .string s, .bool b, .int .i64 c]] w fun e w' => e = .returned (.int .i64 2) ∧ Below w.heap.size w w' := by
  have hu25 := Try.underlying25
  have d1 : decide (0 < c) = false := decide_eq_false h
  clear h
  go_enter Try.func33, Try.ntmps33
  go_upto_region 12 with fail
  go_region
  all_goals go_wp2
  all_goals go_ret
  all_goals exact ⟨rfl, (by repeat (first | exact Below.refl _ _ | (refine Below.setCell ?_ (by simp) _) | (refine Below.alloc ?_ (by simp) _) | refine Below.drew ?_))⟩
set_option maxHeartbeats 4000000 in
set_option maxRecDepth 100000 in
theorem check4_7 (n : Int) (s : ByteArray) (b : Bool) (c : Int) (h1 : 0 < c) (h : ¬ c ≤ 7) (w : World) : Calls Try.prog 33 #[.agg #[.int .i64 4, .int .i64 n, .string s, .bool b, .int .i64 c]] w fun e w' => e = .returned (.int .i64 2) ∧ Below w.heap.size w w' := by
  have hu25 := Try.underlying25
  have d1 : decide (0 < c) = true := decide_eq_true h1
  have d2 : decide (c ≤ 7) = false := decide_eq_false h
  clear h1 h
  go_enter Try.func33, Try.ntmps33
  go_upto_region 12 with fail
  go_region
  all_goals go_wp2
  all_goals go_ret
  all_goals exact ⟨rfl, (by repeat (first | exact Below.refl _ _ | (refine Below.setCell ?_ (by simp) _) | (refine Below.alloc ?_ (by simp) _) | refine Below.drew ?_))⟩
set_option maxHeartbeats 4000000 in
set_option maxRecDepth 100000 in
theorem check4_n (n : Int) (s : ByteArray) (b : Bool) (c : Int) (h1 : 0 < c) (h2 : c ≤ 7) (h : ¬ n = 0) (w : World) : Calls Try.prog 33 #[.agg #[.int .i64 4, .int .i64 n, .string s, .bool b, .int .i64 c]] w fun e w' => e = .returned (.int .i64 2) ∧ Below w.heap.size w w' := by
  have hu25 := Try.underlying25
  have d1 : decide (0 < c) = true := decide_eq_true h1
  have d2 : decide (c ≤ 7) = true := decide_eq_true h2
  have e1 : (0 == n) = false := beq_eq_false_iff_ne.2 (fun e => h e.symm)
  have e2 : (n == 0) = false := beq_eq_false_iff_ne.2 h
  clear h1 h2
  go_enter Try.func33, Try.ntmps33
  go_upto_region 12 with fail
  go_region
  all_goals go_wp2
  all_goals go_ret
  all_goals exact ⟨rfl, (by repeat (first | exact Below.refl _ _ | (refine Below.setCell ?_ (by simp) _) | (refine Below.alloc ?_ (by simp) _) | refine Below.drew ?_))⟩
set_option maxHeartbeats 4000000 in
set_option maxRecDepth 100000 in
theorem check4_s (s : ByteArray) (b : Bool) (c : Int) (h1 : 0 < c) (h2 : c ≤ 7) (h : ¬ s.size = 0) (w : World) : Calls Try.prog 33 #[.agg #[.int .i64 4, .int .i64 0, .string s, .bool b, .int .i64 c]] w fun e w' => e = .returned (.int .i64 2) ∧ Below w.heap.size w w' := by
  have hu25 := Try.underlying25
  have d1 : decide (0 < c) = true := decide_eq_true h1
  have d2 : decide (c ≤ 7) = true := decide_eq_true h2
  have e1 := fullS h
  clear h1 h2
  go_enter Try.func33, Try.ntmps33
  go_upto_region 12 with fail
  go_region
  all_goals go_wp2
  all_goals go_ret
  all_goals exact ⟨rfl, (by repeat (first | exact Below.refl _ _ | (refine Below.setCell ?_ (by simp) _) | (refine Below.alloc ?_ (by simp) _) | refine Below.drew ?_))⟩
set_option maxHeartbeats 4000000 in
set_option maxRecDepth 100000 in
theorem check4_b (c : Int) (h1 : 0 < c) (h2 : c ≤ 7) (w : World) : Calls Try.prog 33 #[.agg #[.int .i64 4, .int .i64 0, .string ⟨#[]⟩, .bool true, .int .i64 c]] w fun e w' => e = .returned (.int .i64 2) ∧ Below w.heap.size w w' := by
  have hu25 := Try.underlying25
  have d1 : decide (0 < c) = true := decide_eq_true h1
  have d2 : decide (c ≤ 7) = true := decide_eq_true h2
  clear h1 h2
  go_enter Try.func33, Try.ntmps33
  go_upto_region 12 with fail
  go_region
  all_goals go_wp2
  all_goals go_ret
  all_goals exact ⟨rfl, (by repeat (first | exact Below.refl _ _ | (refine Below.setCell ?_ (by simp) _) | (refine Below.alloc ?_ (by simp) _) | refine Below.drew ?_))⟩
set_option maxHeartbeats 4000000 in
set_option maxRecDepth 100000 in
theorem check4_ok (c : Int) (h1 : 0 < c) (h2 : c ≤ 7) (w : World) : Calls Try.prog 33 #[.agg #[.int .i64 4, .int .i64 0, .string ⟨#[]⟩, .bool false, .int .i64 c]] w fun e w' => e = .returned (.int .i64 0) ∧ Below w.heap.size w w' := by
  have hu25 := Try.underlying25
  have d1 : decide (0 < c) = true := decide_eq_true h1
  have d2 : decide (c ≤ 7) = true := decide_eq_true h2
  clear h1 h2
  go_enter Try.func33, Try.ntmps33
  go_upto_region 12 with fail
  go_region
  all_goals go_wp2
  all_goals go_ret
  all_goals exact ⟨rfl, (by repeat (first | exact Below.refl _ _ | (refine Below.setCell ?_ (by simp) _) | (refine Below.alloc ?_ (by simp) _) | refine Below.drew ?_))⟩
set_option maxHeartbeats 4000000 in
set_option maxRecDepth 100000 in
theorem check1_f (n : Int) (s : ByteArray) (b : Bool) (c : Int) (hf : fitsB n = false) (w : World) : Calls Try.prog 33 #[.agg #[.int .i64 1, .int .i64 n, .string s, .bool b, .int .i64 c]] w fun e w' => e = .returned (.int .i64 2) ∧ Below w.heap.size w w' := by
  have hu25 := Try.underlying25
  have HF : Hid (∀ w, Calls Try.prog 25 #[.int .i64 n] w fun e w' => e = .returned (.bool false) ∧ w = w') := fun w => by have h := fits_any n w; rw [hf] at h; exact h
  clear hf
  go_enter Try.func33, Try.ntmps33
  go_upto_region 6 with fail
  go_region_with (go_at_call 25; refine (HF.out _).mono ?_; rintro e w' ⟨rfl, rfl⟩)
  all_goals go_wp2
  all_goals go_ret
  all_goals exact ⟨rfl, (by repeat (first | exact Below.refl _ _ | (refine Below.setCell ?_ (by simp) _) | (refine Below.alloc ?_ (by simp) _) | refine Below.drew ?_))⟩
set_option maxHeartbeats 4000000 in
set_option maxRecDepth 100000 in
theorem check1_s (n : Int) (s : ByteArray) (b : Bool) (c : Int) (hf : fitsB n = true) (h : ¬ s.size = 0) (w : World) : Calls Try.prog 33 #[.agg #[.int .i64 1, .int .i64 n, .string s, .bool b, .int .i64 c]] w fun e w' => e = .returned (.int .i64 2) ∧ Below w.heap.size w w' := by
  have hu25 := Try.underlying25
  have e1 := fullS h
  have HF : Hid (∀ w, Calls Try.prog 25 #[.int .i64 n] w fun e w' => e = .returned (.bool true) ∧ w = w') := fun w => by have h := fits_any n w; rw [hf] at h; exact h
  clear hf
  go_enter Try.func33, Try.ntmps33
  go_upto_region 6 with fail
  go_region_with (go_at_call 25; refine (HF.out _).mono ?_; rintro e w' ⟨rfl, rfl⟩)
  all_goals go_wp2
  all_goals go_ret
  all_goals exact ⟨rfl, (by repeat (first | exact Below.refl _ _ | (refine Below.setCell ?_ (by simp) _) | (refine Below.alloc ?_ (by simp) _) | refine Below.drew ?_))⟩
set_option maxHeartbeats 4000000 in
set_option maxRecDepth 100000 in
theorem check1_b (n : Int) (c : Int) (hf : fitsB n = true) (w : World) : Calls Try.prog 33 #[.agg #[.int .i64 1, .int .i64 n, .string ⟨#[]⟩, .bool true, .int .i64 c]] w fun e w' => e = .returned (.int .i64 2) ∧ Below w.heap.size w w' := by
  have hu25 := Try.underlying25
  have HF : Hid (∀ w, Calls Try.prog 25 #[.int .i64 n] w fun e w' => e = .returned (.bool true) ∧ w = w') := fun w => by have h := fits_any n w; rw [hf] at h; exact h
  clear hf
  go_enter Try.func33, Try.ntmps33
  go_upto_region 6 with fail
  go_region_with (go_at_call 25; refine (HF.out _).mono ?_; rintro e w' ⟨rfl, rfl⟩)
  all_goals go_wp2
  all_goals go_ret
  all_goals exact ⟨rfl, (by repeat (first | exact Below.refl _ _ | (refine Below.setCell ?_ (by simp) _) | (refine Below.alloc ?_ (by simp) _) | refine Below.drew ?_))⟩
set_option maxHeartbeats 4000000 in
set_option maxRecDepth 100000 in
theorem check1_c (n : Int) (c : Int) (hf : fitsB n = true) (h : ¬ c = 0) (w : World) : Calls Try.prog 33 #[.agg #[.int .i64 1, .int .i64 n, .string ⟨#[]⟩, .bool false, .int .i64 c]] w fun e w' => e = .returned (.int .i64 2) ∧ Below w.heap.size w w' := by
  have hu25 := Try.underlying25
  have e1 : (0 == c) = false := beq_eq_false_iff_ne.2 (fun e => h e.symm)
  have e2 : (c == 0) = false := beq_eq_false_iff_ne.2 h
  have HF : Hid (∀ w, Calls Try.prog 25 #[.int .i64 n] w fun e w' => e = .returned (.bool true) ∧ w = w') := fun w => by have h := fits_any n w; rw [hf] at h; exact h
  clear hf
  go_enter Try.func33, Try.ntmps33
  go_upto_region 6 with fail
  go_region_with (go_at_call 25; refine (HF.out _).mono ?_; rintro e w' ⟨rfl, rfl⟩)
  all_goals go_wp2
  all_goals go_ret
  all_goals exact ⟨rfl, (by repeat (first | exact Below.refl _ _ | (refine Below.setCell ?_ (by simp) _) | (refine Below.alloc ?_ (by simp) _) | refine Below.drew ?_))⟩
set_option maxHeartbeats 4000000 in
set_option maxRecDepth 100000 in
theorem check1_ok (n : Int) (hf : fitsB n = true) (w : World) : Calls Try.prog 33 #[.agg #[.int .i64 1, .int .i64 n, .string ⟨#[]⟩, .bool false, .int .i64 0]] w fun e w' => e = .returned (.int .i64 0) ∧ Below w.heap.size w w' := by
  have hu25 := Try.underlying25
  have HF : Hid (∀ w, Calls Try.prog 25 #[.int .i64 n] w fun e w' => e = .returned (.bool true) ∧ w = w') := fun w => by have h := fits_any n w; rw [hf] at h; exact h
  clear hf
  go_enter Try.func33, Try.ntmps33
  go_upto_region 6 with fail
  go_region_with (go_at_call 25; refine (HF.out _).mono ?_; rintro e w' ⟨rfl, rfl⟩)
  all_goals go_wp2
  all_goals go_ret
  all_goals exact ⟨rfl, (by repeat (first | exact Below.refl _ _ | (refine Below.setCell ?_ (by simp) _) | (refine Below.alloc ?_ (by simp) _) | refine Below.drew ?_))⟩
set_option maxHeartbeats 4000000 in
set_option maxRecDepth 100000 in
theorem check_no (k n : Int) (s : ByteArray) (b : Bool) (c : Int) (h0 : ¬ k = 0) (h1 : ¬ k = 1) (h2 : ¬ k = 2) (h3 : ¬ k = 3) (h4 : ¬ k = 4) (w : World) : Calls Try.prog 33 #[.agg #[.int .i64 k, .int .i64 n, .string s, .bool b, .int .i64 c]] w fun e w' => e = .returned (.int .i64 2) ∧ Below w.heap.size w w' := by
  have hu25 := Try.underlying25
  have k0 : (k == 0) = false := beq_eq_false_iff_ne.2 h0
  have k1 : (k == 1) = false := beq_eq_false_iff_ne.2 h1
  have k2 : (k == 2) = false := beq_eq_false_iff_ne.2 h2
  have k3 : (k == 3) = false := beq_eq_false_iff_ne.2 h3
  have k4 : (k == 4) = false := beq_eq_false_iff_ne.2 h4
  go_enter Try.func33, Try.ntmps33
  go_wp2
  go_ret
  exact ⟨rfl, (by repeat (first | exact Below.refl _ _ | (refine Below.setCell ?_ (by simp) _) | (refine Below.alloc ?_ (by simp) _) | refine Below.drew ?_))⟩
theorem check_any (k n : Int) (s : ByteArray) (b : Bool) (c : Int) (w : World) : Calls Try.prog 33 #[.agg #[.int .i64 k, .int .i64 n, .string s, .bool b, .int .i64 c]] w fun e w' => e = .returned (.int .i64 (if rightB k n s b c = true then 0 else 2)) ∧ Below w.heap.size w w' := by
  unfold rightB
  by_cases h0 : k = 0
  · subst h0
    rw [if_pos rfl]
    by_cases hn : n = 0
    · subst hn
      by_cases hs : s.size = 0
      · obtain rfl := noS hs
        cases b
        · by_cases hc : c = 0
          · subst hc
            exact check0_ok w
          · have e := check0_c c hc w
            simpa [hc] using e
        · simpa using check0_b c w
      · simpa [hs] using check0_s s b c hs w
    · simpa [hn] using check0_n n s b c hn w
  · rw [if_neg h0]
    by_cases h1 : k = 1
    · subst h1
      rw [if_pos rfl]
      cases hf : fitsB n
      · simpa using check1_f n s b c hf w
      · by_cases hs : s.size = 0
        · obtain rfl := noS hs
          cases b
          · by_cases hc : c = 0
            · subst hc
              exact check1_ok n hf w
            · simpa [hc] using check1_c n c hf hc w
          · simpa using check1_b n c hf w
        · simpa [hs] using check1_s n s b c hf hs w
    · rw [if_neg h1]
      by_cases h2 : k = 2
      · subst h2
        rw [if_pos rfl]
        by_cases hs : s.size ≤ 255
        · by_cases hn : n = 0
          · subst hn
            cases b
            · by_cases hc : c = 0
              · subst hc
                simpa [hs] using check2_ok s hs w
              · simpa [hs, hc] using check2_c s c hs hc w
            · simpa [hs] using check2_b s c hs w
          · simpa [hs, hn] using check2_n n s b c hs hn w
        · simpa [hs] using check2_l n s b c hs w
      · rw [if_neg h2]
        by_cases h3 : k = 3
        · subst h3
          rw [if_pos rfl]
          by_cases hn : n = 0
          · subst hn
            by_cases hs : s.size = 0
            · obtain rfl := noS hs
              by_cases hc : c = 0
              · subst hc
                exact check3_ok b w
              · simpa [hc] using check3_c b c hc w
            · simpa [hs] using check3_s s b c hs w
          · simpa [hn] using check3_n n s b c hn w
        · rw [if_neg h3]
          by_cases h4 : k = 4
          · subst h4
            rw [if_pos rfl]
            by_cases hc1 : 0 < c
            · by_cases hc2 : c ≤ 7
              · by_cases hn : n = 0
                · subst hn
                  by_cases hs : s.size = 0
                  · obtain rfl := noS hs
                    cases b
                    · have e : (decide (0 < c) && (decide (c ≤ 7) && (decide ((0 : Int) = 0) && (decide ((⟨#[]⟩ : ByteArray).size = 0) && !false)))) = true := by rw [decide_eq_true hc1, decide_eq_true hc2]; rfl
                      rw [if_pos e]
                      exact check4_ok c hc1 hc2 w
                    · simpa [hc1, hc2] using check4_b c hc1 hc2 w
                  · simpa [hs] using check4_s s b c hc1 hc2 hs w
                · simpa [hn] using check4_n n s b c hc1 hc2 hn w
              · simpa [hc2] using check4_7 n s b c hc1 hc2 w
            · simpa [hc1] using check4_0 n s b c hc1 w
          · rw [if_neg h4]
            simpa using check_no k n s b c h0 h1 h2 h3 h4 w
end Go.Proofs.Ytjhinakfoejpbaa.T

/- Small letters become great ones: what is shared by the code's Fold and the document's. No condition stands open. -/
namespace Go.Proofs.Ytjhinakfoejpbaa.T
open Go.RowKit Go.Proofs.YtjhinakfoejpbaaW.PrintWords Go.Proofs.YtjhinakfoejpbaaW.PrintLast Go.Proofs.YtjhinakfoejpbaaW.PrintMore

def up (c : Int) : Int := if 97 ≤ c ∧ c ≤ 122 then c - 32 else c

def foldS (s : ByteArray) : ByteArray := strOfNums ((bytesOf s).map up)
/-- a byte below 128 is a rune of its own -/
theorem dec_small (s : ByteArray) (i : Nat) (h : (s.get! i).toNat < 128) : Utf8.decode s i = ((s.get! i).toNat, 1) := by
  unfold Utf8.decode
  simp only [Nat.add_zero]
  rw [if_pos h]
/-- any other byte opens a rune of 128 or more, of bytes of 128 or more -/
theorem dec_great (s : ByteArray) (i : Nat) (hi : i < s.size) (h : ¬ (s.get! i).toNat < 128) : 128 ≤ (Utf8.decode s i).1 ∧ 1 ≤ (Utf8.decode s i).2 ∧ ∀ k, k < (Utf8.decode s i).2 → 128 ≤ (s.get! (i + k)).toNat ∧ i + k < s.size := by
  have one : ∀ k, k < 1 → 128 ≤ (s.get! (i + k)).toNat ∧ i + k < s.size := fun k hk => by
    obtain rfl : k = 0 := by omega
    exact ⟨by rw [Nat.add_zero]; omega, hi⟩
  unfold Utf8.decode
  simp only [Nat.add_zero]
  rw [if_neg h]
  have e0 : Utf8.runeError = 65533 := rfl
  rw [e0]
  split
  · rename_i h1
    split
    · rename_i h2
      refine ⟨h2, Nat.le_add_left 1 1, fun k hk => ?_⟩
      simp only [Bool.and_eq_true, decide_eq_true_eq, beq_iff_eq] at h1
      have : k = 0 ∨ k = 1 := by omega
      rcases this with rfl | rfl
      · exact one 0 (by decide)
      · exact ⟨by omega, h1.2.1⟩
    · exact ⟨by decide, by decide, one⟩
  · split
    · rename_i h1
      split
      · rename_i h2
        simp only [Bool.and_eq_true, decide_eq_true_eq, beq_iff_eq] at h1 h2
        refine ⟨by have := h2.1; omega, Nat.le_add_left 1 2, fun k hk => ?_⟩
        have : k = 0 ∨ k = 1 ∨ k = 2 := by omega
        rcases this with rfl | rfl | rfl
        · exact one 0 (by decide)
        · exact ⟨by omega, by omega⟩
        · exact ⟨by omega, by omega⟩
      · exact ⟨by decide, by decide, one⟩
    · split
      · rename_i h1
        split
        · rename_i h2
          simp only [Bool.and_eq_true, decide_eq_true_eq, beq_iff_eq] at h1 h2
          refine ⟨by have := h2.1; omega, Nat.le_add_left 1 3, fun k hk => ?_⟩
          have : k = 0 ∨ k = 1 ∨ k = 2 ∨ k = 3 := by omega
          rcases this with rfl | rfl | rfl | rfl
          · exact one 0 (by decide)
          · exact ⟨by omega, by omega⟩
          · exact ⟨by omega, by omega⟩
          · exact ⟨by omega, by omega⟩
        · exact ⟨by decide, by decide, one⟩
      · exact ⟨by decide, by decide, one⟩
/-- the first p bytes are turned -/
def upTo (l : List Int) (p : Nat) : List Int := (l.take p).map up ++ l.drop p
theorem upTo_all (l : List Int) : upTo l l.length = l.map up := by simp [upTo]
theorem upTo_length (l : List Int) (p : Nat) : (upTo l p).length = l.length := by
  simp only [upTo, List.length_append, List.length_map, List.length_take, List.length_drop]
  omega
theorem upTo_succ {l : List Int} {p : Nat} (h : p < l.length) : upTo l (p + 1) = (upTo l p).set p (up l[p]) := by
  have e1 : l.drop p = l[p] :: l.drop (p + 1) := (List.drop_eq_getElem_cons h)
  have hl : ((l.take p).map up).length = p := by rw [List.length_map, List.length_take]; omega
  unfold upTo
  rw [List.take_add_one, List.getElem?_eq_getElem h, e1, List.set_append_right _ _ (by rw [hl]; exact Nat.le_refl _), hl, Nat.sub_self, List.map_append, List.append_assoc]
  rfl
theorem upTo_at {l : List Int} {p : Nat} (h : p < l.length) : (upTo l p).getD p 0 = l[p] := by
  have hl : ((l.take p).map up).length = p := by rw [List.length_map, List.length_take]; omega
  unfold upTo
  rw [List.getD, List.getElem?_append_right (by rw [hl]; exact Nat.le_refl _), hl, Nat.sub_self]
  simp [List.getElem?_drop, h]
theorem upTo_same {l : List Int} {p : Nat} (h : p < l.length) (hu : up l[p] = l[p]) : upTo l (p + 1) = upTo l p := by
  rw [upTo_succ h, hu]
  apply List.ext_getElem?
  intro j
  rw [List.getElem?_set]
  by_cases e : p = j
  · subst e
    rw [if_pos rfl, if_pos (by rw [upTo_length]; exact h)]
    have := upTo_at h
    rw [List.getD, List.getElem?_eq_getElem (by rw [upTo_length]; exact h)] at this
    rw [List.getElem?_eq_getElem (by rw [upTo_length]; exact h)]
    exact congrArg some this.symm
  · rw [if_neg e]
theorem upTo_skip {l : List Int} : ∀ (k p : Nat), p + k ≤ l.length → (∀ j (h : j < l.length), p ≤ j → j < p + k → 128 ≤ l[j]) → upTo l (p + k) = upTo l p
  | 0, p, _, _ => rfl
  | k + 1, p, h, hj => by
    rw [show p + (k + 1) = p + k + 1 by omega, upTo_same (by omega) ?_]
    · exact upTo_skip k p (by omega) (fun j h1 h2 h3 => hj j h1 h2 (by omega))
    · have := hj (p + k) (by omega) (by omega) (by omega)
      unfold up
      rw [if_neg (by omega)]
end Go.Proofs.Ytjhinakfoejpbaa.T

/- A text as a row of bytes, and back. No condition stands open. -/
namespace Go.Proofs.Ytjhinakfoejpbaa.T
open Go.RowKit Go.Proofs.YtjhinakfoejpbaaW.PrintWords Go.Proofs.YtjhinakfoejpbaaW.PrintLast Go.Proofs.YtjhinakfoejpbaaW.PrintMore

theorem conv_str (w : World) (A : Option Addr) (n c : Nat) (xs : List Int) (h : ReadsInt w .u8 A n xs) : (convert 89 9 (.slice A n c)).run Try.prog w = .ok (.string (strOfNums xs)) w := by
  cases A with
  | none =>
    have h0 : n = 0 := by
      rcases Nat.eq_zero_or_pos n with z | z
      · exact z
      · obtain ⟨ad, e, _⟩ := h.2.2 z
        cases e
    have e0 : xs = [] := List.eq_nil_of_length_eq_zero (by rw [h.1, h0])
    rw [e0]
    exact run_convert_bytes_nil w 89 5 Try.underlying89 Try.underlying5 n c 9 Try.underlying9
  | some a =>
    have hl : (loadCells a n).run Try.prog w = .ok (xs.map (Value.int .u8)).toArray w := by
      have := run_loadCells_list (P := Try.prog) w a (xs.map (Value.int .u8)) (fun j v hj => by
        have hjl : j < xs.length := by
          rcases Nat.lt_or_ge j xs.length with h | h
          · exact h
          · simp [List.getElem?_eq_none (show (xs.map (Value.int .u8)).length ≤ j by simpa using h)] at hj
        obtain ⟨ad, e, hc⟩ := h.2.2 (by have := h.1; omega)
        injection e with e
        subst e
        rw [hc j (by have := h.1; omega)]
        simp [List.getElem?_eq_getElem hjl] at hj
        subst hj
        simp [List.getD, List.getElem?_eq_getElem hjl])
      simpa [h.1] using this
    rw [run_convert_bytes_string w 89 9 5 _ n c Try.underlying89 Try.underlying5 Try.underlying9, run_bytesToString w _ n c xs hl, foldl_push_bytes]
    simp [strOfNums, ByteArray.empty, ByteArray.emptyWithCapacity]
    rfl
/-- block bb holds the bytes L -/
def BRow (w : World) (bb n : Nat) (L : List Int) : Prop := ∃ cs : Array Value, ∃ fr : Nat × Nat, w.heap[bb]? = some (.cells cs 5 fr) ∧ n ≤ fr.1 ∧ L.length = n ∧ ∀ j, j < n → cs[j]? = some (.int .u8 (L.getD j 0))
theorem BRow.cell {w : World} {bb n : Nat} {L : List Int} (h : BRow w bb n L) (j : Nat) (hj : j < n) : w.cell? ⟨bb, j, none⟩ = some (.int .u8 (L.getD j 0)) := by
  obtain ⟨cs, fr, hh, _, _, hc⟩ := h
  rw [cell_of_row _ _ _ _ _ _ hh]
  exact hc j hj
theorem BRow.frozen {w : World} {bb n : Nat} {L : List Int} (h : BRow w bb n L) (j : Nat) (hj : j < n) : w.frozen? ⟨bb, j, none⟩ = false := by
  obtain ⟨cs, fr, hh, hf, _, hc⟩ := h
  simp only [World.frozen?, hh]
  simp
  omega
theorem BRow.put {w : World} {bb n : Nat} {L : List Int} (h : BRow w bb n L) (i : Nat) (hi : i < n) (y : Int) : BRow (w.setCell ⟨bb, i, none⟩ (.int .u8 y)) bb n (L.set i y) := by
  obtain ⟨cs, fr, hh, hf, hl, hc⟩ := h
  refine ⟨cs.setIfInBounds i (.int .u8 y), fr, by simp [World.setCell, Array.getElem?_modify, hh], hf, by rw [List.length_set]; exact hl, fun j hj => ?_⟩
  have h3 := hc j hj
  rw [Array.getElem?_setIfInBounds]
  by_cases e : i = j
  · subst e
    rw [if_pos rfl, if_pos (Array.getElem?_eq_some_iff.1 h3).1]
    simp [List.getD, hl, hi]
  · rw [if_neg e, h3]
    simp [List.getD, e]
theorem BRow.other {w w' : World} {bb n : Nat} {L : List Int} (h : BRow w bb n L) (e : w'.heap[bb]? = w.heap[bb]?) : BRow w' bb n L := by
  obtain ⟨cs, fr, hh, r⟩ := h
  exact ⟨cs, fr, e.trans hh, r⟩
theorem BRow.lt {w : World} {bb n : Nat} {L : List Int} (h : BRow w bb n L) : bb < w.heap.size := by
  obtain ⟨cs, fr, hh, r⟩ := h
  exact blk_lt hh
theorem BRow.reads {w : World} {bb n : Nat} {L : List Int} (h : BRow w bb n L) (hn : n ≤ 9223372036854775807) : ReadsInt w .u8 (some ⟨bb, 0, none⟩) n L := by
  obtain ⟨cs, fr, hh, hf, hl, hc⟩ := h
  exact ⟨hl, hn, fun _ => ⟨_, rfl, fun j hj => by rw [add_plain, cell_of_row _ _ _ _ _ _ hh]; exact hc j hj⟩⟩
theorem BRow.made (w : World) (s : ByteArray) : BRow (Lib.bytesWorld w 5 s) w.heap.size s.size (bytesOf s) := by
  have h1 := Lib.bytesWorld_at_new w 5 s
  refine ⟨_, _, h1, ?_, bytesOf_length s, fun j hj => ?_⟩
  · rcases Nat.eq_zero_or_pos s.size with h | h
    · omega
    · have h2 := Lib.bytesWorld_cell w 5 s (s.size - 1) (by omega)
      rw [cell_of_row _ _ _ _ _ _ h1] at h2
      have h3 := (Array.getElem?_eq_some_iff.1 h2).1
      show s.size ≤ (Lib.bytesCells w 5 s).size
      omega
  · have h2 := Lib.bytesWorld_cell w 5 s j hj
    rw [cell_of_row _ _ _ _ _ _ h1] at h2
    rw [h2]
    have hd2 : j < s.data.size := hj
    simp [bytesOf, List.getD, Array.getElem?_eq_getElem hd2]
end Go.Proofs.Ytjhinakfoejpbaa.T

/- The document's Fold. No condition stands open. -/
namespace Go.Proofs.Ytjhinakfoejpbaa.T
open Go.RowKit Go.Proofs.YtjhinakfoejpbaaW.PrintWords Go.Proofs.YtjhinakfoejpbaaW.PrintLast Go.Proofs.YtjhinakfoejpbaaW.PrintMore

theorem byteAt {l : List Int} (hb : ∀ x ∈ l, 0 ≤ x ∧ x ≤ 255) {i : Nat} (h : i < l.length) : 0 ≤ l[i] ∧ l[i] ≤ 255 := hb _ (List.getElem_mem h)
theorem bytesOf_bytes (s : ByteArray) : ∀ x ∈ bytesOf s, 0 ≤ x ∧ x ≤ 255 := by
  intro x hx
  simp only [bytesOf, List.mem_map] at hx
  obtain ⟨b, _, rfl⟩ := hx
  have := b.toNat_lt
  omega
theorem u8a {c : Int} (h1 : 97 ≤ c) (h2 : c ≤ 122) : IntKind.u8.wrap (c - 97) = c - 97 ∧ IntKind.u8.wrap (c - 97 + 65) = c - 32 := by
  rw [IntKind.wrap_u8, IntKind.wrap_u8]
  omega
theorem wsucc {i : Nat} (h : i ≤ 1099511627776) : wrap64 ((i : Int) + 1) = (i : Int) + 1 := by unfold wrap64; omega
set_option maxHeartbeats 4000000 in
set_option maxRecDepth 100000 in
theorem refFold_any (s : ByteArray) (hs : s.size ≤ 1099511627776) (w : World) : Calls Try.prog 93 #[.string s] w fun e w' => e = .returned (.string (foldS s)) ∧ Below w.heap.size w w' := by
  have hconv := fun w => Lib.run_convert_string_bytes (P := Try.prog) w 9 89 5 s Try.underlying9 Try.underlying89 Try.underlying5
  have B1 : Hid (Below w.heap.size w (Lib.bytesWorld w 5 s)) := ⟨rfl, rfl, rfl, by rw [Lib.bytesWorld_size]; omega, fun k hk => Lib.bytesWorld_at_old w 5 s k hk⟩
  have R1 : Hid (BRow (Lib.bytesWorld w 5 s) w.heap.size s.size (bytesOf s)) := BRow.made w s
  obtain ⟨l, hl⟩ : ∃ l, bytesOf s = l := ⟨_, rfl⟩
  have HL := Lib.hid hl
  have hll : Hid (l.length = s.size) := by rw [← hl]; exact bytesOf_length s
  have hlb : Hid (∀ x ∈ l, 0 ≤ x ∧ x ≤ 255) := by rw [← hl]; exact bytesOf_bytes s
  rw [hl] at R1
  have HS := Lib.hid hs
  clear hl hs
  go_enter Try.func93, Try.ntmps93
  go_wp2
  obtain ⟨cp, hcp⟩ : ∃ cp, grownCap w s.size 0 5 = cp := ⟨_, rfl⟩
  rw [hcp]
  clear hcp hconv
  generalize Lib.bytesWorld w 5 s = w1 at B1 R1 ⊢
  go_loopg [4] s.size (fun kq v wr => ∃ i : Nat, v = .int .i64 (i : Int) ∧ Hid (i ≤ s.size) ∧ Hid (s.size - i ≤ kq) ∧ Hid (BRow wr w.heap.size s.size (upTo l i)) ∧ Hid (Below w.heap.size w wr))
  case atStart => exact ⟨0, rfl, Nat.zero_le _, Nat.le_refl _, R1, B1⟩
  case round =>
    clear B1 R1
    obtain ⟨i, rfl, hi, hk, hR, hB⟩ := hrel
    rcases Nat.lt_or_ge i s.size with h | h
    · have hil : i < l.length := by rw [hll.out]; exact h
      obtain ⟨c, hc⟩ : ∃ c, l[i] = c := ⟨_, rfl⟩
      have hc255 := byteAt hlb.out hil
      rw [hc] at hc255
      have cb : wr.cell? ⟨w.heap.size, i, none⟩ = some (.int .u8 c) := by rw [hR.out.cell i h, upTo_at hil, hc]
      have fb := hR.out.frozen i h
      have n0 : ((i : Int)).toNat = i := Int.toNat_natCast i
      have p0 : (0 : Int) ≤ (i : Int) := Int.natCast_nonneg i
      have l0 : (i : Int) < (s.size : Int) := by omega
      have dl : decide ((i : Int) < (s.size : Int)) = true := decide_eq_true l0
      have ws := wsucc (i := i) (by have := HS.out; omega)
      have h2 : i < s.size := h
      have HI := Lib.hid hil
      have HC : Hid (∀ h : i < l.length, l[i] = c) := fun _ => hc
      by_cases h97 : 97 ≤ c
      · have d1 : decide (97 ≤ c) = true := decide_eq_true h97
        by_cases h122 : c ≤ 122
        · have d2 : decide (c ≤ 122) = true := decide_eq_true h122
          obtain ⟨u1, u2⟩ := u8a h97 h122
          have hup : Hid (up c = c - 32) := if_pos ⟨h97, h122⟩
          clear h97 h122 hc255 hil hc
          go_wp2
          go_roundg (s.size - (i + 1))
          case measure => have := hk.out; omega
          case rel => exact ⟨i + 1, by rw [ws]; rfl, h2, Nat.le_refl _, by rw [upTo_succ HI.out, HC.out HI.out, hup.out]; exact hR.out.put i h2 _, hB.out.setCell (p := ⟨w.heap.size, i, none⟩) (Nat.le_refl _) _⟩
        · have d2 : decide (c ≤ 122) = false := decide_eq_false h122
          have hup : Hid (up c = c) := if_neg (fun h => h122 h.2)
          clear h97 h122 hc255 hil hc
          go_wp2
          go_roundg (s.size - (i + 1))
          case measure => have := hk.out; omega
          case rel => exact ⟨i + 1, by rw [ws]; rfl, h2, Nat.le_refl _, by rw [upTo_same HI.out (by rw [HC.out HI.out]; exact hup.out)]; exact hR, hB⟩
      · have d1 : decide (97 ≤ c) = false := decide_eq_false h97
        have hup : Hid (up c = c) := if_neg (fun h => h97 h.1)
        clear h97 hc255 hil hc
        go_wp2
        go_roundg (s.size - (i + 1))
        case measure => have := hk.out; omega
        case rel => exact ⟨i + 1, by rw [ws]; rfl, h2, Nat.le_refl _, by rw [upTo_same HI.out (by rw [HC.out HI.out]; exact hup.out)]; exact hR, hB⟩
    · obtain rfl : i = s.size := by have := hi.out; omega
      have dl : decide ((s.size : Int) < (s.size : Int)) = false := decide_eq_false (by omega)
      have hcv : (convert 89 9 (.slice (some ⟨w.heap.size, 0, none⟩) s.size cp)).run Try.prog wr = .ok (.string (strOfNums (upTo l s.size))) wr := conv_str _ _ _ _ _ (hR.out.reads (by have := HS.out; omega))
      have hfin : Hid (strOfNums (upTo l s.size) = foldS s) := by show _ = _; unfold foldS; rw [HL.out, ← hll.out, upTo_all]
      clear h
      go_wp2
      go_ret
      exact ⟨by rw [hfin.out]; rfl, hB.out⟩
end Go.Proofs.Ytjhinakfoejpbaa.T

/- The code's Fold. No condition stands open. -/
namespace Go.Proofs.Ytjhinakfoejpbaa.T
open Go.RowKit Go.Proofs.YtjhinakfoejpbaaW.PrintWords Go.Proofs.YtjhinakfoejpbaaW.PrintLast Go.Proofs.YtjhinakfoejpbaaW.PrintMore
theorem get_at (s : ByteArray) {l : List Int} (hl : bytesOf s = l) {i : Nat} (h : i < l.length) : l[i] = ((s.get! i).toNat : Int) := by
  subst hl
  have hd : i < s.data.size := by rw [bytesOf_length] at h; exact h
  simp [bytesOf, ByteArray.get!, Array.getElem!_eq_getD, hd, getElem!_pos, Array.getElem?_eq_getElem hd]
set_option maxHeartbeats 4000000 in
set_option maxRecDepth 100000 in
theorem fold_any (s : ByteArray) (hs : s.size ≤ 1099511627776) (w : World) : Calls Try.prog 34 #[.string s] w fun e w' => e = .returned (.string (foldS s)) ∧ Below w.heap.size w w' := by
  have hconv := fun w => Lib.run_convert_string_bytes (P := Try.prog) w 9 89 5 s Try.underlying9 Try.underlying89 Try.underlying5
  have B1 : Hid (Below w.heap.size w (Lib.bytesWorld w 5 s)) := ⟨rfl, rfl, rfl, by rw [Lib.bytesWorld_size]; omega, fun k hk => Lib.bytesWorld_at_old w 5 s k hk⟩
  have R1 : Hid (BRow (Lib.bytesWorld w 5 s) w.heap.size s.size (bytesOf s)) := BRow.made w s
  have Z1 : Hid ((Lib.bytesWorld w 5 s).heap.size = w.heap.size + 1) := Lib.bytesWorld_size w 5 s
  obtain ⟨l, hl⟩ : ∃ l, bytesOf s = l := ⟨_, rfl⟩
  have HL := Lib.hid hl
  have hll : Hid (l.length = s.size) := by rw [← hl]; exact bytesOf_length s
  have hlb : Hid (∀ x ∈ l, 0 ≤ x ∧ x ≤ 255) := by rw [← hl]; exact bytesOf_bytes s
  rw [hl] at R1
  have HS := Lib.hid hs
  clear hl hs
  go_enter Try.func34, Try.ntmps34
  go_wp2
  obtain ⟨cp, hcp⟩ : ∃ cp, grownCap w s.size 0 5 = cp := ⟨_, rfl⟩
  rw [hcp]
  clear hcp hconv
  generalize Lib.bytesWorld w 5 s = w1 at B1 R1 Z1 ⊢
  have I2 : Hid ((w1.iter s 0).heap[w1.heap.size]? = some (.stringIter s 0)) := heap_alloc_new w1 _
  have R2 : Hid (BRow (w1.iter s 0) w.heap.size s.size (upTo l 0)) := R1.out.other (((Below.refl _ w1).alloc (Nat.le_refl _) (.stringIter s 0)).block _ R1.out.lt)
  have B2 : Hid (Below w.heap.size w (w1.iter s 0)) := B1.out.alloc B1.out.size _
  generalize w1.iter s 0 = w2 at I2 R2 B2 ⊢
  have HIT : Hid (w1.heap.size = w.heap.size + 1) := Z1.out
  rw [Z1.out] at I2 ⊢
  clear B1 R1 Z1 HIT
  go_loopg [] s.size (fun kq wr => ∃ p : Nat, Hid (p ≤ s.size) ∧ Hid (s.size - p ≤ kq) ∧ Hid (wr.heap[w.heap.size + 1]? = some (.stringIter s p)) ∧ Hid (BRow wr w.heap.size s.size (upTo l p)) ∧ Hid (Below w.heap.size w wr))
  case atStart => exact ⟨0, Nat.zero_le _, Nat.le_refl _, I2, R2, B2⟩
  case round =>
    clear I2 R2 B2
    obtain ⟨p, hp, hk, hI, hR, hB⟩ := hrel
    rcases Nat.lt_or_ge p s.size with h | h
    · have hil : p < l.length := by rw [hll.out]; exact h
      have hg := get_at s HL.out hil
      have hnx := Lib.run_next_any_at (P := Try.prog) wr (w.heap.size + 1) s p 0 hI.out h
      have BI : Hid (∀ q, Below w.heap.size w (wr.iterAt (w.heap.size + 1) s q)) := fun q => Lib.below_iterAt hB.out (Nat.le_succ _) s q
      have RI : Hid (∀ q, BRow (wr.iterAt (w.heap.size + 1) s q) w.heap.size s.size (upTo l p)) := fun q => hR.out.other (Lib.iterAt_other wr _ _ s q (by omega))
      have II : Hid (∀ q, (wr.iterAt (w.heap.size + 1) s q).heap[w.heap.size + 1]? = some (.stringIter s q)) := fun q => Lib.iterAt_heap wr _ s p q hI.out
      by_cases h128 : (s.get! p).toNat < 128
      · obtain ⟨c, hc⟩ : ∃ c, (s.get! p).toNat = c := ⟨_, rfl⟩
        rw [dec_small s p h128, hc] at hnx
        rw [hc] at hg h128
        have HG : Hid (∀ h : p < l.length, l[p] = (c : Int)) := fun _ => hg
        have HI := Lib.hid hil
        have cb : (wr.iterAt (w.heap.size + 1) s (p + 1)).cell? ⟨w.heap.size, p, none⟩ = some (.int .u8 (c : Int)) := by rw [(RI.out (p + 1)).cell p h, upTo_at hil, hg]
        have fb := (RI.out (p + 1)).frozen p h
        have n0 : ((p : Int)).toNat = p := Int.toNat_natCast p
        have p0 : (0 : Int) ≤ (p : Int) := Int.natCast_nonneg p
        have l0 : (p : Int) < (s.size : Int) := by omega
        have h2 : p < s.size := h
        by_cases h97 : 97 ≤ c
        · have d1 : decide (97 ≤ (c : Int)) = true := decide_eq_true (by omega)
          have d1' : (97 : Nat) ≤ c := h97
          by_cases h122 : c ≤ 122
          · have d2 : decide ((c : Int) ≤ 122) = true := decide_eq_true (by omega)
            have u1 : IntKind.u8.wrap ((c : Int) - 32) = (c : Int) - 32 := by rw [IntKind.wrap_u8]; omega
            have hup : Hid (up (c : Int) = (c : Int) - 32) := if_pos ⟨by omega, by omega⟩
            clear hil hg hc
            go_wp2
            go_roundg (s.size - (p + 1))
            case measure => have := hk.out; omega
            case rel => exact ⟨p + 1, h2, Nat.le_refl _, (Below.heap_setCell _ _ _ _ (by simp)).trans (II.out (p + 1)), by rw [upTo_succ HI.out, HG.out HI.out, hup.out]; exact (RI.out (p + 1)).put p h2 _, (BI.out (p + 1)).setCell (p := ⟨w.heap.size, p, none⟩) (Nat.le_refl _) _⟩
          · have d2 : decide ((c : Int) ≤ 122) = false := decide_eq_false (by omega)
            have hup : Hid (up (c : Int) = (c : Int)) := if_neg (fun h => h122 (by omega))
            clear hil hg hc
            go_wp2
            go_roundg (s.size - (p + 1))
            case measure => have := hk.out; omega
            case rel => exact ⟨p + 1, h2, Nat.le_refl _, II.out (p + 1), by rw [upTo_same HI.out (by rw [HG.out HI.out]; exact hup.out)]; exact RI.out (p + 1), BI.out (p + 1)⟩
        · have d1 : decide (97 ≤ (c : Int)) = false := decide_eq_false (by omega)
          have hup : Hid (up (c : Int) = (c : Int)) := if_neg (fun h => h97 (by omega))
          clear hil hg hc
          go_wp2
          go_roundg (s.size - (p + 1))
          case measure => have := hk.out; omega
          case rel => exact ⟨p + 1, h2, Nat.le_refl _, II.out (p + 1), by rw [upTo_same HI.out (by rw [HG.out HI.out]; exact hup.out)]; exact RI.out (p + 1), BI.out (p + 1)⟩
      · obtain ⟨g1, g2, g3⟩ := dec_great s p h h128
        generalize Utf8.decode s p = d at hnx g1 g2 g3
        obtain ⟨c, k⟩ := d
        have hsk : Hid (upTo l (p + k) = upTo l p) := upTo_skip k p (by have := (g3 (k - 1) (by omega)).2; rw [hll.out]; omega) (fun j hj h1 h2 => by
          have e := (g3 (j - p) (by omega)).1
          rw [show p + (j - p) = j by omega] at e
          rw [get_at s HL.out hj]
          omega)
        have hpk : Hid (p + k ≤ s.size) := by have := (g3 (k - 1) (by omega)).2; show _ ≤ _; omega
        have d1 : decide (97 ≤ (c : Int)) = true := decide_eq_true (by omega)
        have d2 : decide ((c : Int) ≤ 122) = false := decide_eq_false (by omega)
        have d3 : (97 : Nat) ≤ c := by omega
        have d4 : ¬ c ≤ 122 := by omega
        have HK2 := Lib.hid g2
        clear g1 g2 g3 hg h128 hil
        go_wp2
        go_roundg (s.size - (p + k))
        case measure => have := hk.out; have := HK2.out; omega
        case rel => exact ⟨p + k, hpk.out, Nat.le_refl _, II.out (p + k), by rw [hsk.out]; exact RI.out (p + k), BI.out (p + k)⟩
    · obtain rfl : p = s.size := by have := hp.out; omega
      have hnx := Lib.run_next_end_at (P := Try.prog) wr (w.heap.size + 1) s s.size 0 hI.out (Nat.lt_irrefl _)
      have hcv : (convert 89 9 (.slice (some ⟨w.heap.size, 0, none⟩) s.size cp)).run Try.prog wr = .ok (.string (strOfNums (upTo l s.size))) wr := conv_str _ _ _ _ _ (hR.out.reads (by have := HS.out; omega))
      have hfin : Hid (strOfNums (upTo l s.size) = foldS s) := by show _ = _; unfold foldS; rw [HL.out, ← hll.out, upTo_all]
      clear h
      go_wp2
      go_ret
      exact ⟨by rw [hfin.out]; rfl, hB.out⟩
end Go.Proofs.Ytjhinakfoejpbaa.T

/- A tally as it lies in memory. No condition stands open. -/
namespace Go.Proofs.Ytjhinakfoejpbaa.T
open Go.RowKit Go.Proofs.YtjhinakfoejpbaaW.PrintWords Go.Proofs.YtjhinakfoejpbaaW.PrintLast Go.Proofs.YtjhinakfoejpbaaW.PrintMore

/-- a tally's cells: its bag, the sum, the map, and sixteen numbers: truths 0-1, faults 2-9, kinds 10-14, all 15 -/
def tcells (bg : Nat) (hi lo : Int) (mb : Nat) (v : List Int) : Array Value := (.pointer (some ⟨bg, 0, none⟩) :: .int .i64 hi :: .int .i64 lo :: .map (some mb) :: nums .i64 v).toArray
/-- how often the texts are in the map of block mb, of at most n entries -/
def MapAt (w : World) (mb n : Nat) (m : ByteArray → Nat) : Prop :=
  ∃ D : DataW Unit, w.ownsMap Try.prog 9 (plainElem Try.prog 3) mb n D ∧ Maps.IsMap D ∧ ∀ s : ByteArray, s.size ≤ maxLen → D.atKey (.string s.data.toList) (.lit (.int .i64 0)) = .lit (.int .i64 (m s : Int))
theorem zero3 (w : World) : (zeroValue 3).run Try.prog w = .ok (.int .i64 0) w := by kernel_rfl
theorem lit_inj {a b : Int} (h : (DataW.lit (.int .i64 a) : DataW Unit) = .lit (.int .i64 b)) : a = b := by
  injection h with h
  injection h with _ h
theorem MapAt.look {w : World} {mb n : Nat} {m : ByteArray → Nat} (h : MapAt w mb n m) (s : ByteArray) (hs : s.size ≤ maxLen) : (Instr.lookup 30 (.map (some mb)) (.string s) false).run Try.prog w = .ok (.int .i64 (m s : Int)) w := by
  obtain ⟨D, ho, hi, hd⟩ := h
  obtain ⟨c, hrun, hat, hw⟩ := ho.lookup_int (Maps.string_keyed Try.underlying9) Try.underlying30 Try.underlying3 (zero3 w) (Go.WideMaps.keyOf_string_mk Try.underlying9 hs)
  rw [hd s hs] at hat


  rw [hrun, lit_inj hat]
theorem key_ne {s t : ByteArray} (h : ¬ t = s) : (Lit.string t.data.toList) ≠ .string s.data.toList := fun e => by
  injection e with e
  exact h (ByteArray.ext (Array.toList_inj.1 e))
theorem wfn {c : Nat} (h : c ≤ 1099511627776) : (Lit.int .i64 (c : Int)).wf = true := Go.WalkArith.wf_i64 (by omega)
theorem MapAt.put {w : World} {mb n : Nat} {m : ByteArray → Nat} (h : MapAt w mb n m) (s : ByteArray) (hs : s.size ≤ maxLen) (c : Nat) (hc : c ≤ 1099511627776) (hn : n < maxLen) :
    ∃ w', (Instr.mapUpdate 30 (.map (some mb)) (.string s) (.int .i64 (c : Int))).run Try.prog w = .ok () w' ∧ MapAt w' mb (n + 1) (fun t => if t = s then c else m t) ∧ Keeps (fun k => k = mb) w w' := by
  obtain ⟨D, ho, hi, hd⟩ := h
  obtain ⟨w', hrun, ho2, hg⟩ := ho.update (Maps.string_keyed Try.underlying9) Try.underlying30 hn (Go.WideMaps.keyOf_string_mk Try.underlying9 hs) (plainElem_int Try.underlying3 (wfn hc))
  refine ⟨w', hrun, ⟨_, ho2, hi.put _ _, fun t ht => ?_⟩, (Keeps.of_grown hg).mono (fun k _ e => (Option.some.inj e).symm)⟩
  show _ = DataW.lit (.int .i64 ((if t = s then c else m t : Nat) : Int))
  by_cases e : t = s
  · subst e
    rw [if_pos rfl, Maps.atKey_put_same hi (by exact trivial)]
  · rw [if_neg e, Maps.atKey_put_other (key_ne e), hd t ht]
theorem MapAt.drop {w : World} {mb n : Nat} {m : ByteArray → Nat} (h : MapAt w mb n m) (s : ByteArray) (hs : s.size ≤ maxLen) (ty : TypeId) :
    ∃ w', (Builtin.delete_ #[30, 9] ty #[.map (some mb), .string s]).run Try.prog w = .ok (.tuple #[]) w' ∧ MapAt w' mb n (fun t => if t = s then 0 else m t) ∧ Keeps (fun k => k = mb) w w' := by
  obtain ⟨D, ho, hi, hd⟩ := h
  obtain ⟨w', hrun, ho2, ht⟩ := ho.drop (Maps.string_keyed Try.underlying9) Try.underlying30 (Go.WideMaps.keyOf_string_mk Try.underlying9 hs) ty
  refine ⟨w', hrun, ⟨_, ho2, hi.del _, fun t ht => ?_⟩, ?_⟩
  · show _ = DataW.lit (.int .i64 ((if t = s then 0 else m t : Nat) : Int))
    by_cases e : t = s
    · subst e
      rw [if_pos rfl, Maps.atKey_del_same]
      rfl
    · rw [if_neg e, Maps.atKey_del_other (key_ne e), hd t ht]
  · exact (Keeps.of_grown ht.grown).mono (fun k _ e => (Option.some.inj e).symm)
theorem MapAt.kept {w w' : World} {mb n : Nat} {m : ByteArray → Nat} (h : MapAt w mb n m) (e : w'.heap[mb]? = w.heap[mb]?) : MapAt w' mb n m := by
  obtain ⟨D, ⟨es, ck, hb, r⟩, hi, hd⟩ := h
  exact ⟨D, ⟨es, ck, e.trans hb, r⟩, hi, hd⟩
structure TalAt (w : World) (S : Nat → Prop) (g bg mb : Nat) (t : Tree) (hi lo : Int) (v : List Int) (n : Nat) (m : ByteArray → Nat) : Prop where
  blk : w.heap[g]? = some (.cells (tcells bg hi lo mb v) 35 (0, 0))
  len : v.length = 16
  bag : BagAt w bg t
  tree : At w t
  nodup : (blocks t).Nodup
  map : MapAt w mb n m
  bg_ : S g
  bbg : S bg
  bmb : S mb
  bt : ∀ b ∈ blocks t, S b
theorem tcell {w : World} {S : Nat → Prop} {g bg mb : Nat} {t : Tree} {hi lo : Int} {v : List Int} {n : Nat} {m : ByteArray → Nat} (h : TalAt w S g bg mb t hi lo v n m) (i : Nat) (hi16 : i < 16) : w.cell? ⟨g, 4 + i, none⟩ = some (.int .i64 (v.getD i 0)) := by
  rw [cell_of_row _ _ _ _ _ _ h.blk]
  have hl := h.len
  have e : (tcells bg hi lo mb v)[4 + i]? = (nums .i64 v)[i]? := by
    unfold tcells
    rw [List.getElem?_toArray]
    rw [show 4 + i = i + 1 + 1 + 1 + 1 by omega]
    rfl
  rw [e]
  simp [nums, List.getD, show i < v.length by omega]
theorem tcells_put (bg : Nat) (hi lo : Int) (mb : Nat) (v : List Int) (i : Nat) (x : Int) : (tcells bg hi lo mb v).setIfInBounds (4 + i) (.int .i64 x) = tcells bg hi lo mb (v.set i x) := by
  unfold tcells
  rw [List.setIfInBounds_toArray, show 4 + i = i + 1 + 1 + 1 + 1 by omega]
  simp [nums, List.map_set]
theorem cells_ne {w : World} {a b : Nat} {cs ds : Array Value} {s t : TypeId} (h : w.heap[a]? = some (.cells cs s (0, 0))) (k : w.heap[b]? = some (.cells ds t (0, 0))) (hst : s ≠ t) : a ≠ b := by
  rintro rfl
  rw [h] at k
  injection k with k
  injection k with _ k2
  exact hst k2
theorem MapAt.ne {w : World} {mb n : Nat} {m : ByteArray → Nat} (h : MapAt w mb n m) {a : Nat} {cs : Array Value} {s : TypeId} (k : w.heap[a]? = some (.cells cs s (0, 0))) : a ≠ mb := by
  rintro rfl
  obtain ⟨D, ⟨es, ck, hb, _⟩, _⟩ := h
  rw [hb] at k
  cases k
section
variable {w : World} {S : Nat → Prop} {g bg mb : Nat} {t : Tree} {hi lo : Int} {v : List Int} {n : Nat} {m : ByteArray → Nat} (h : TalAt w S g bg mb t hi lo v n m)
include h
theorem TalAt.g_bg : g ≠ bg := cells_ne h.blk h.bag (by decide)
theorem TalAt.g_mb : g ≠ mb := h.map.ne h.blk
theorem TalAt.bg_mb : bg ≠ mb := h.map.ne h.bag
theorem TalAt.g_t : g ∉ blocks t := fun e => by
  obtain ⟨cs, hc⟩ := h.tree.typed g e
  exact cells_ne h.blk hc (by decide) rfl
theorem TalAt.bg_t : bg ∉ blocks t := fun e => by
  obtain ⟨cs, hc⟩ := h.tree.typed bg e
  exact cells_ne h.bag hc (by decide) rfl
theorem TalAt.mb_t : mb ∉ blocks t := fun e => by
  obtain ⟨cs, hc⟩ := h.tree.typed mb e
  exact h.map.ne hc rfl
theorem TalAt.kept {w' : World} {S' : Nat → Prop} (k : Keeps S' w w') (h1 : ¬ S' g) (h2 : ¬ S' bg) (h3 : ¬ S' mb) (h4 : ∀ b ∈ blocks t, ¬ S' b) : TalAt w' S g bg mb t hi lo v n m :=
  ⟨(k.block g (blk_lt h.blk) h1).trans h.blk, h.len, (k.block bg (blk_lt h.bag) h2).trans h.bag, At.kept k h.tree h4, h.nodup, h.map.kept (k.block mb (by obtain ⟨D, ho, _⟩ := h.map; exact ho.lt) h3), h.bg_, h.bbg, h.bmb, h.bt⟩
theorem TalAt.below {w' : World} (k : Below w.heap.size w w') : TalAt w' S g bg mb t hi lo v n m := h.kept (Keeps.of_below (S := fun _ => False) k) (fun h => h) (fun h => h) (fun h => h) (fun _ _ h => h)
theorem TalAt.putN (i : Nat) (x : Int) : TalAt (w.setCell ⟨g, 4 + i, none⟩ (.int .i64 x)) S g bg mb t hi lo (v.set i x) n m := by
  have k : Keeps (fun k => k = g) w (w.setCell ⟨g, 4 + i, none⟩ (.int .i64 x)) := (Keeps.refl (fun k => k = g) w).setCell (p := ⟨g, 4 + i, none⟩) rfl _
  exact ⟨(blk_set h.blk (4 + i) _).trans (by rw [tcells_put]), by rw [List.length_set]; exact h.len, (k.block bg (blk_lt h.bag) (fun e => h.g_bg e.symm)).trans h.bag, At.kept k h.tree (fun b hb e => h.g_t (e ▸ hb)), h.nodup, h.map.kept (k.block mb (by obtain ⟨D, ho, _⟩ := h.map; exact ho.lt) (fun e => h.g_mb e.symm)), h.bg_, h.bbg, h.bmb, h.bt⟩
end
theorem TalAt.fz {w : World} {S : Nat → Prop} {g bg mb : Nat} {t : Tree} {hi lo : Int} {v : List Int} {n : Nat} {m : ByteArray → Nat} (h : TalAt w S g bg mb t hi lo v n m) (i : Nat) : w.frozen? ⟨g, i, none⟩ = false := blk_frozen h.blk i
end Go.Proofs.Ytjhinakfoejpbaa.T

/- What is asked of a tally at once. No condition stands open. -/
namespace Go.Proofs.Ytjhinakfoejpbaa.T
open Go.RowKit Go.Proofs.YtjhinakfoejpbaaW.PrintWords Go.Proofs.YtjhinakfoejpbaaW.PrintLast Go.Proofs.YtjhinakfoejpbaaW.PrintMore

section
variable {w : World} {S : Nat → Prop} {g bg mb : Nat} {t : Tree} {hi lo : Int} {v : List Int} {n : Nat} {m : ByteArray → Nat} (h : TalAt w S g bg mb t hi lo v n m)
include h
theorem TalAt.c0 : w.cell? ⟨g, 0, none⟩ = some (.pointer (some ⟨bg, 0, none⟩)) := (blk_cell h.blk 0).trans rfl
theorem made_yes : Calls Try.prog 50 #[.pointer (some ⟨g, 0, none⟩)] w fun e w' => e = .returned (.bool true) ∧ w = w' := by
  have z0 := h.c0
  clear h
  go_enter Try.func50, Try.ntmps50
  go_wp2
  go_ret
  exact ⟨rfl, rfl⟩
theorem all_any : Calls Try.prog 17 #[.pointer (some ⟨g, 0, none⟩)] w fun e w' => e = .returned (.int .i64 (v.getD 15 0)) ∧ w = w' := by
  have z : w.cell? ⟨g, 19, none⟩ = some (.int .i64 (v.getD 15 0)) := tcell h 15 (by decide)
  have H := Lib.hid h
  clear h
  go_enter Try.func17, Try.ntmps17
  go_wp2_with (go_at_call 50; refine (made_yes H.out).mono ?_; rintro e w' ⟨rfl, rfl⟩)
  go_ret
  exact ⟨rfl, rfl⟩
theorem tbelow_any (x : Int) (hm : tot t ≤ 1099511627776) : Calls Try.prog 19 #[.pointer (some ⟨g, 0, none⟩), .int .i64 x] w fun e w' => e = .returned (.int .i64 (belowT t x : Int)) ∧ Below w.heap.size w w' := by
  have z0 := h.c0
  have H := Lib.hid h
  clear h
  go_enter Try.func19, Try.ntmps19
  go_wp2_with (first | (go_at_call 50; refine (made_yes H.out).mono ?_; rintro e w' ⟨rfl, rfl⟩) | (go_at_call 55; refine (below_any H.out.bag H.out.tree x hm).mono ?_; rintro e w2 ⟨rfl, hb⟩; have HB := Lib.hid hb; clear hb))
  go_ret
  exact ⟨rfl, HB.out⟩
theorem theight_any (hm : siz t ≤ 1099511627776) : Calls Try.prog 21 #[.pointer (some ⟨g, 0, none⟩)] w fun e w' => e = .returned (.int .i64 (highT t : Int)) ∧ Below w.heap.size w w' := by
  have z0 := h.c0
  have b0 : w.cell? ⟨bg, 0, none⟩ = some (.pointer (ptr t)) := (blk_cell h.bag 0).trans rfl
  have H := Lib.hid h
  clear h
  go_enter Try.func21, Try.ntmps21
  go_wp2_with (first | (go_at_call 50; refine (made_yes H.out).mono ?_; rintro e w' ⟨rfl, rfl⟩) | (go_at_call 57; refine (height_any t H.out.tree hm).mono ?_; rintro e w2 ⟨rfl, hb⟩; have HB := Lib.hid hb; clear hb))
  go_ret
  exact ⟨rfl, HB.out⟩
end
theorem new_any (w : World) : Calls Try.prog 23 #[] w fun e w' => e = .returned (.pointer (some ⟨w.heap.size + 2, 0, none⟩)) ∧ TalAt w' (fun b => w.heap.size ≤ b) (w.heap.size + 2) w.heap.size (w.heap.size + 1) .nil 0 0 (List.replicate 16 0) 0 (fun _ => 0) ∧ Below w.heap.size w w' := by
  have hmm := @run_makeMap Try.prog
  obtain ⟨w1, hw1⟩ : ∃ w1, w.alloc (.cells #[.pointer none] 80) = w1 := ⟨_, rfl⟩
  have z1 : w1.heap.size = w.heap.size + 1 := by rw [← hw1]; exact World.size_alloc _ _
  have b1 : w1.heap[w.heap.size]? = some (.cells #[.pointer none] 80 (0, 0)) := by rw [← hw1]; exact heap_alloc_new w _
  have B1 : Below w.heap.size w w1 := by rw [← hw1]; exact (Below.refl _ w).alloc (Nat.le_refl _) _
  have z2 : (w1.alloc (.map #[] 0)).heap.size = w.heap.size + 2 := by rw [World.size_alloc, z1]
  have b2 : (w1.alloc (.map #[] 0)).heap[w.heap.size]? = some (.cells #[.pointer none] 80 (0, 0)) := (((Below.refl _ w1).alloc (Nat.le_refl _) (.map #[] 0)).block _ (by omega)).trans b1
  have B2 : Below w.heap.size w (w1.alloc (.map #[] 0)) := B1.alloc B1.size _
  have m2 : MapAt (w1.alloc (.map #[] 0)) (w.heap.size + 1) 0 (fun _ => 0) := ⟨.map [], by rw [← z1]; exact World.ownsMap_made _ _ _ _, ⟨[], rfl⟩, fun _ _ => rfl⟩
  have m3 : MapAt ((w1.alloc (.map #[] 0)).alloc (.cells (tcells w.heap.size 0 0 (w.heap.size + 1) (List.replicate 16 0)) 35)) (w.heap.size + 1) 0 (fun _ => 0) := m2.kept (((Below.refl _ _).alloc (Nat.le_refl _) _).block _ (by omega))
  have b3 := (((Below.refl _ (w1.alloc (.map #[] 0))).alloc (Nat.le_refl _) (.cells (tcells w.heap.size 0 0 (w.heap.size + 1) (List.replicate 16 0)) 35)).block _ (by omega)).trans b2
  have g3 := heap_alloc_new (w1.alloc (.map #[] 0)) (.cells (tcells w.heap.size 0 0 (w.heap.size + 1) (List.replicate 16 0)) 35)
  rw [z2] at g3
  have fin : TalAt ((w1.alloc (.map #[] 0)).alloc (.cells (tcells w.heap.size 0 0 (w.heap.size + 1) (List.replicate 16 0)) 35)) (fun b => w.heap.size ≤ b) (w.heap.size + 2) w.heap.size (w.heap.size + 1) .nil 0 0 (List.replicate 16 0) 0 (fun _ => 0) :=
    ⟨g3, rfl, b3, trivial, List.nodup_nil, m3, Nat.le_add_right _ _, Nat.le_refl _, Nat.le_add_right _ _, fun b hb => by cases hb⟩
  have BF := B2.alloc B2.size (.cells (tcells w.heap.size 0 0 (w.heap.size + 1) (List.replicate 16 0)) 35)
  have FIN := Lib.hid fin
  have BFH := Lib.hid BF
  rw [← hw1] at FIN BFH
  clear hw1 z1 b1 B1 z2 b2 B2 m2 m3 b3 g3 fin BF
  go_enter Try.func23, Try.ntmps23
  go_wp2
  go_ret
  exact ⟨rfl, FIN.out, BFH.out⟩
theorem count_k (w : World) (S : Nat → Prop) (g bg mb : Nat) (t : Tree) (hi lo : Int) (v : List Int) (n : Nat) (m : ByteArray → Nat) (h : TalAt w S g bg mb t hi lo v n m) (k : Nat) (hk : k < 5) : Calls Try.prog 16 #[.pointer (some ⟨g, 0, none⟩), .int .i64 (k : Int)] w fun e w' => e = .returned (.int .i64 (v.getD (10 + k) 0)) ∧ w = w' := by
  have z : w.cell? ⟨g, 14 + k, none⟩ = some (.int .i64 (v.getD (10 + k) 0)) := by have e := tcell h (10 + k) (by omega); rwa [show 4 + (10 + k) = 14 + k by omega] at e
  have H := Lib.hid h
  have d1 : decide ((k : Int) < 0) = false := decide_eq_false (by omega)
  have d2 : decide (4 < (k : Int)) = false := decide_eq_false (by omega)
  have d3 : ¬ 4 < k := by omega
  have n0 : ((k : Int)).toNat = k := Int.toNat_natCast k
  have p0 : (0 : Int) ≤ (k : Int) := Int.natCast_nonneg k
  have l0 : (k : Int) < 5 := by omega
  have l1 : k < 5 := hk
  clear h
  go_enter Try.func16, Try.ntmps16
  go_wp2_with (go_at_call 50; refine (made_yes H.out).mono ?_; rintro e w' ⟨rfl, rfl⟩)
  go_ret
  exact ⟨rfl, rfl⟩
end Go.Proofs.Ytjhinakfoejpbaa.T

/- A truth's place, and what is no tally. No condition stands open. -/
namespace Go.Proofs.Ytjhinakfoejpbaa.T
open Go.RowKit Go.Proofs.YtjhinakfoejpbaaW.PrintWords Go.Proofs.YtjhinakfoejpbaaW.PrintLast Go.Proofs.YtjhinakfoejpbaaW.PrintMore
theorem place_any (b : Bool) (w : World) : Calls Try.prog 52 #[.bool b] w fun e w' => e = .returned (.int .i64 (if b = true then 1 else 0)) ∧ w = w' := by
  cases b
  · go_enter Try.func52, Try.ntmps52
    go_wp2
    go_ret
    exact ⟨rfl, rfl⟩
  · go_enter Try.func52, Try.ntmps52
    go_wp2
    go_ret
    exact ⟨rfl, rfl⟩
end Go.Proofs.Ytjhinakfoejpbaa.T

/- How often a value is in a tally. No condition stands open. -/
namespace Go.Proofs.Ytjhinakfoejpbaa.T
open Go.RowKit Go.Proofs.YtjhinakfoejpbaaW.PrintWords Go.Proofs.YtjhinakfoejpbaaW.PrintLast Go.Proofs.YtjhinakfoejpbaaW.PrintMore
theorem foldS_size (s : ByteArray) : (foldS s).size = s.size := by
  unfold foldS
  rw [strOfNums_size, List.length_map, bytesOf_length]
section
variable {w : World} {S : Nat → Prop} {g bg mb : Nat} {t : Tree} {hi lo : Int} {v : List Int} {n : Nat} {m : ByteArray → Nat}
set_option maxHeartbeats 4000000 in
set_option maxRecDepth 100000 in
theorem often_1 (h : TalAt w S g bg mb t hi lo v n m) (x : Int) (s : ByteArray) (b : Bool) (c : Int) (hx : rightB 1 x s b c = true) : Calls Try.prog 20 #[.pointer (some ⟨g, 0, none⟩), .agg #[.int .i64 1, .int .i64 x, .string s, .bool b, .int .i64 c]] w fun e w' => e = .returned (.int .i64 (oftenT t x : Int)) ∧ Below w.heap.size w w' := by
  have BB : Hid (Below w.heap.size w (w.alloc (.cells #[.int .i64 1, .int .i64 x, .string s, .bool b, .int .i64 c] 25))) := (Below.refl _ w).alloc (Nat.le_refl _) _
  have H := Lib.hid (h.below BB.out)
  clear h
  go_enter Try.func20, Try.ntmps20
  go_wp2_with (first | (go_at_call 50; refine (made_yes H.out).mono ?_; rintro e w' ⟨rfl, rfl⟩) | (go_at_call 33; refine (check_any 1 x s b c _).mono ?_; rw [hx]; rintro e w2 ⟨rfl, hb⟩; have HB := Lib.hid (BB.out.trans (hb.mono (by simp))); have H2 := Lib.hid (H.out.below hb); have z0 := H2.out.c0; have z1 := hb.cell (p := ⟨w.heap.size, 0, none⟩) (by simp); have z2 := hb.cell (p := ⟨w.heap.size, 1, none⟩) (by simp); clear hb H))
  have HO : Hid (∀ W, Below w2.heap.size w2 W → Calls Try.prog 56 #[.pointer (some ⟨bg, 0, none⟩), .int .i64 x] W fun e w' => e = .returned (.int .i64 (oftenT t x : Int)) ∧ W = w') := fun W hW => often_any (H2.out.below hW).bag (H2.out.below hW).tree x
  clear H2 hx BB
  go_region_with (go_at_call 56; refine (HO.out _ (by repeat (first | exact Below.refl _ _ | refine Below.drew ?_))).mono ?_; rintro e w' ⟨rfl, rfl⟩)
  all_goals go_wp2
  all_goals go_ret
  all_goals exact ⟨rfl, by repeat (first | exact HB.out | refine Below.drew ?_)⟩
set_option maxHeartbeats 4000000 in
set_option maxRecDepth 100000 in
theorem often_3 (h : TalAt w S g bg mb t hi lo v n m) (x : Int) (s : ByteArray) (b : Bool) (c : Int) (hx : rightB 3 x s b c = true) : Calls Try.prog 20 #[.pointer (some ⟨g, 0, none⟩), .agg #[.int .i64 3, .int .i64 x, .string s, .bool b, .int .i64 c]] w fun e w' => e = .returned (.int .i64 (v.getD (if b = true then 1 else 0) 0)) ∧ Below w.heap.size w w' := by
  have BB : Hid (Below w.heap.size w (w.alloc (.cells #[.int .i64 3, .int .i64 x, .string s, .bool b, .int .i64 c] 25))) := (Below.refl _ w).alloc (Nat.le_refl _) _
  have H := Lib.hid (h.below BB.out)
  clear h
  go_enter Try.func20, Try.ntmps20
  go_wp2_with (first | (go_at_call 50; refine (made_yes H.out).mono ?_; rintro e w' ⟨rfl, rfl⟩) | (go_at_call 33; refine (check_any 3 x s b c _).mono ?_; rw [hx]; rintro e w2 ⟨rfl, hb⟩; have HB := Lib.hid (BB.out.trans (hb.mono (by simp))); have H2 := Lib.hid (H.out.below hb); have c0 := tcell H2.out 0 (by decide); have c1 := tcell H2.out 1 (by decide); have z1 := hb.cell (p := ⟨w.heap.size, 0, none⟩) (by simp); have z2 := hb.cell (p := ⟨w.heap.size, 3, none⟩) (by simp); clear hb H))
  clear H2 hx BB
  cases b <;> (
    go_region_with (go_at_call 52; refine (place_any _ _).mono ?_; rintro e w' ⟨rfl, rfl⟩)
    all_goals go_wp2
    all_goals go_ret
    all_goals exact ⟨rfl, by repeat (first | exact HB.out | refine Below.drew ?_)⟩)
set_option maxHeartbeats 4000000 in
set_option maxRecDepth 100000 in
theorem often_0 (h : TalAt w S g bg mb t hi lo v n m) (x : Int) (s : ByteArray) (b : Bool) (c : Int) (hx : rightB 0 x s b c = true) : Calls Try.prog 20 #[.pointer (some ⟨g, 0, none⟩), .agg #[.int .i64 0, .int .i64 x, .string s, .bool b, .int .i64 c]] w fun e w' => e = .returned (.int .i64 (v.getD 10 0)) ∧ Below w.heap.size w w' := by
  have BB : Hid (Below w.heap.size w (w.alloc (.cells #[.int .i64 0, .int .i64 x, .string s, .bool b, .int .i64 c] 25))) := (Below.refl _ w).alloc (Nat.le_refl _) _
  have H := Lib.hid (h.below BB.out)
  clear h
  go_enter Try.func20, Try.ntmps20
  go_wp2_with (first | (go_at_call 50; refine (made_yes H.out).mono ?_; rintro e w' ⟨rfl, rfl⟩) | (go_at_call 33; refine (check_any 0 x s b c _).mono ?_; rw [hx]; rintro e w2 ⟨rfl, hb⟩; have HB := Lib.hid (BB.out.trans (hb.mono (by simp))); have H2 := Lib.hid (H.out.below hb); have c0 := tcell H2.out 10 (by decide); have z1 := hb.cell (p := ⟨w.heap.size, 0, none⟩) (by simp); clear hb H))
  clear H2 hx BB
  go_ret
  exact ⟨rfl, HB.out⟩
set_option maxHeartbeats 4000000 in
set_option maxRecDepth 100000 in
theorem often_no (h : TalAt w S g bg mb t hi lo v n m) (k x : Int) (s : ByteArray) (b : Bool) (c : Int) (hx : rightB k x s b c = false) : Calls Try.prog 20 #[.pointer (some ⟨g, 0, none⟩), .agg #[.int .i64 k, .int .i64 x, .string s, .bool b, .int .i64 c]] w fun e w' => e = .returned (.int .i64 0) ∧ Below w.heap.size w w' := by
  have BB : Hid (Below w.heap.size w (w.alloc (.cells #[.int .i64 k, .int .i64 x, .string s, .bool b, .int .i64 c] 25))) := (Below.refl _ w).alloc (Nat.le_refl _) _
  have H := Lib.hid (h.below BB.out)
  clear h
  go_enter Try.func20, Try.ntmps20
  go_wp2_with (first | (go_at_call 50; refine (made_yes H.out).mono ?_; rintro e w' ⟨rfl, rfl⟩) | (go_at_call 33; refine (check_any k x s b c _).mono ?_; rw [hx]; rintro e w2 ⟨rfl, hb⟩; have HB := Lib.hid (BB.out.trans (hb.mono (by simp))); clear hb H))
  clear hx BB
  go_ret
  exact ⟨rfl, HB.out⟩
set_option maxHeartbeats 4000000 in
set_option maxRecDepth 100000 in
theorem often_2 (h : TalAt w S g bg mb t hi lo v n m) (x : Int) (s : ByteArray) (b : Bool) (c : Int) (hx : rightB 2 x s b c = true) (hs : s.size ≤ 1099511627776) : Calls Try.prog 20 #[.pointer (some ⟨g, 0, none⟩), .agg #[.int .i64 2, .int .i64 x, .string s, .bool b, .int .i64 c]] w fun e w' => e = .returned (.int .i64 (m (foldS s) : Int)) ∧ Below w.heap.size w w' := by
  have BB : Hid (Below w.heap.size w (w.alloc (.cells #[.int .i64 2, .int .i64 x, .string s, .bool b, .int .i64 c] 25))) := (Below.refl _ w).alloc (Nat.le_refl _) _
  have H := Lib.hid (h.below BB.out)
  clear h
  go_enter Try.func20, Try.ntmps20
  go_wp2_with (first | (go_at_call 50; refine (made_yes H.out).mono ?_; rintro e w' ⟨rfl, rfl⟩) | (go_at_call 33; refine (check_any 2 x s b c _).mono ?_; rw [hx]; rintro e w2 ⟨rfl, hb⟩; have HB := Lib.hid (BB.out.trans (hb.mono (by simp))); have H2 := Lib.hid (H.out.below hb); have z0 : w2.cell? ⟨g, 3, none⟩ = some (.map (some mb)) := (blk_cell H2.out.blk 3).trans rfl; have z1 := hb.cell (p := ⟨w.heap.size, 0, none⟩) (by simp); have z2 := hb.cell (p := ⟨w.heap.size, 2, none⟩) (by simp); have HW : Hid (w.heap.size < w2.heap.size) := Nat.lt_of_lt_of_le (by simp) hb.size; clear hb H))
  --OFTEN2
  obtain ⟨f, hf⟩ : ∃ f, foldS s = f := ⟨_, rfl⟩
  have hfs : f.size ≤ maxLen := by rw [← hf, foldS_size]; exact Nat.le_trans hs (by decide)
  have HF := Lib.hid hf
  have HL : Hid (∀ W, Below w2.heap.size w2 W → W.cell? ⟨g, 3, none⟩ = some (.map (some mb)) ∧ W.cell? ⟨w.heap.size, 2, none⟩ = some (.string s) ∧ (Instr.lookup 30 (.map (some mb)) (.string f) false).run Try.prog W = .ok (.int .i64 (m f : Int)) W) := fun W hW => ⟨(blk_cell (H2.out.below hW).blk 3).trans rfl, (hW.cell (p := ⟨w.heap.size, 2, none⟩) (by have := HB.out.size; have := HW.out; show _ < _; omega)).trans (z2.trans (blk_cell (heap_alloc_new w _) 2)), (H2.out.below hW).map.look f hfs⟩
  have B2 : Hid (Below w2.heap.size w2 w2.drew) := (Below.refl _ _).drew
  have BW := Lib.hid HB.out.drew
  
  clear z0 z1 z2 H2 hx BB hf hfs HB HW
  refine start_ (n := 9) (S := fun W => W.cell? ⟨g, 3, none⟩ = some (.map (some mb)) ∧ W.cell? ⟨w.heap.size, 2, none⟩ = some (.string s) ∧ (Instr.lookup 30 (.map (some mb)) (.string f) false).run Try.prog W = .ok (.int .i64 (m f : Int)) W) (ds := []) (ba 9 0) (by kernel_rfl) rfl rfl (HL.out _ B2.out) (fun hHeld => ?_)
  generalize w2.drew = w3 at B2 BW hHeld ⊢
  refine pS (i := 0) (N := some 26) (ba 9 1) rfl rfl ?_
  refine pS (i := 1) (N := some 27) (ba 9 3) rfl rfl ?_
  refine pS (i := 2) (N := some 28) (ba 9 7) rfl rfl ?_
  refine tS hHeld (i := 3) (N := some 29) (ba 9 15) rfl rfl ?_
  refine pS (i := 4) (N := some 30) (ba 9 31) rfl rfl ?_
  refine tS hHeld (i := 5) (N := some 31) (ba 9 63) rfl rfl ?_
  refine one_ (i := 6) (N := some 32) (ba 9 127) rfl rfl (by kernel_rfl) (by decide) (fun K hK => ?_)
  refine goes_ Try.func34 (by kernel_rfl) rfl #[.string s] (by rfl) rfl rfl (by (try simp only [List.map_toArray, List.map_cons, List.map_nil]); first | done | rfl) ?_
  refine (fold_any s hs w3).mono ?_
  rintro e w4 ⟨rfl, hb⟩
  rw [HF.out]
  have HLW : Hid (Below w2.heap.size w2 w4) := B2.out.trans (hb.mono B2.out.size)
  have BW2 := Lib.hid (BW.out.trans (hb.mono BW.out.size))
  clear hb
  refine ⟨_, rfl, ?_⟩
  refine hK.out _ _ (HL.out _ HLW.out) (fun hHeld => nS (N := 32) ?_)
  clear hK K
  refine tS hHeld (i := 7) (N := some 33) (ba 9 255) rfl rfl ?_
  refine pS (i := 8) (N := some 4) (ba 9 511) rfl rfl ?_
  refine done_ (by kernel_rfl) ?_
  go_wp2
  go_ret
  exact ⟨by rw [HF.out]; rfl, BW2.out⟩
end
end Go.Proofs.Ytjhinakfoejpbaa.T

/- The least code of faults in a tally. No condition stands open. -/
namespace Go.Proofs.Ytjhinakfoejpbaa.T
open Go.RowKit Go.Proofs.YtjhinakfoejpbaaW.PrintWords Go.Proofs.YtjhinakfoejpbaaW.PrintLast Go.Proofs.YtjhinakfoejpbaaW.PrintMore
def leastF (f : Nat → Int) : Nat → Nat → Nat
  | _, 0 => 0
  | i, n + 1 => if 0 < f i then i else leastF f (i + 1) n
def eight (a0 a1 a2 a3 a4 a5 a6 a7 : Int) : Nat → Int
  | 0 => a0 | 1 => a1 | 2 => a2 | 3 => a3 | 4 => a4 | 5 => a5 | 6 => a6 | _ => a7
theorem leastF_congr {f g : Nat → Int} : ∀ n i, (∀ j, i ≤ j → j < i + n → f j = g j) → leastF f i n = leastF g i n
  | 0, _, _ => rfl
  | n + 1, i, h => by
    unfold leastF
    rw [h i (Nat.le_refl _) (by omega), leastF_congr n (i + 1) (fun j h1 h2 => h j (by omega) (by omega))]
set_option maxHeartbeats 4000000 in
set_option maxRecDepth 100000 in
theorem fault_8 {w : World} {S : Nat → Prop} {g bg mb : Nat} {t : Tree} {hi lo : Int} {v : List Int} {n : Nat} {m : ByteArray → Nat} (h : TalAt w S g bg mb t hi lo v n m) (a0 a1 a2 a3 a4 a5 a6 a7 : Int) (h0 : v.getD 2 0 = a0) (h1 : v.getD 3 0 = a1) (h2 : v.getD 4 0 = a2) (h3 : v.getD 5 0 = a3) (h4 : v.getD 6 0 = a4) (h5 : v.getD 7 0 = a5) (h6 : v.getD 8 0 = a6) (h7 : v.getD 9 0 = a7) :
    Calls Try.prog 18 #[.pointer (some ⟨g, 0, none⟩)] w fun e w' => e = .returned (.int .i64 (leastF (eight a0 a1 a2 a3 a4 a5 a6 a7) 0 8 : Nat)) ∧ w = w' := by
  have c2 := tcell h 2 (by decide)
  have c3 := tcell h 3 (by decide)
  have c4 := tcell h 4 (by decide)
  have c5 := tcell h 5 (by decide)
  have c6 := tcell h 6 (by decide)
  have c7 := tcell h 7 (by decide)
  have c8 := tcell h 8 (by decide)
  have c9 := tcell h 9 (by decide)
  rw [h0] at c2
  rw [h1] at c3
  rw [h2] at c4
  rw [h3] at c5
  rw [h4] at c6
  rw [h5] at c7
  rw [h6] at c8
  rw [h7] at c9
  have H := Lib.hid h
  clear h h0 h1 h2 h3 h4 h5 h6 h7
  go_enter Try.func18, Try.ntmps18
  go_wp2_with (go_at_call 50; refine (made_yes H.out).mono ?_; rintro e w' ⟨rfl, rfl⟩)
  have ix0 : ∀ w, (Instr.index 32 (.agg #[.int .i64 a0, .int .i64 a1, .int .i64 a2, .int .i64 a3, .int .i64 a4, .int .i64 a5, .int .i64 a6, .int .i64 a7]) (.int .i64 0)).run Try.prog w = .ok (.int .i64 a0) w := fun _ => rfl
  have ix1 : ∀ w, (Instr.index 32 (.agg #[.int .i64 a0, .int .i64 a1, .int .i64 a2, .int .i64 a3, .int .i64 a4, .int .i64 a5, .int .i64 a6, .int .i64 a7]) (.int .i64 1)).run Try.prog w = .ok (.int .i64 a1) w := fun _ => rfl
  have ix2 : ∀ w, (Instr.index 32 (.agg #[.int .i64 a0, .int .i64 a1, .int .i64 a2, .int .i64 a3, .int .i64 a4, .int .i64 a5, .int .i64 a6, .int .i64 a7]) (.int .i64 2)).run Try.prog w = .ok (.int .i64 a2) w := fun _ => rfl
  have ix3 : ∀ w, (Instr.index 32 (.agg #[.int .i64 a0, .int .i64 a1, .int .i64 a2, .int .i64 a3, .int .i64 a4, .int .i64 a5, .int .i64 a6, .int .i64 a7]) (.int .i64 3)).run Try.prog w = .ok (.int .i64 a3) w := fun _ => rfl
  have ix4 : ∀ w, (Instr.index 32 (.agg #[.int .i64 a0, .int .i64 a1, .int .i64 a2, .int .i64 a3, .int .i64 a4, .int .i64 a5, .int .i64 a6, .int .i64 a7]) (.int .i64 4)).run Try.prog w = .ok (.int .i64 a4) w := fun _ => rfl
  have ix5 : ∀ w, (Instr.index 32 (.agg #[.int .i64 a0, .int .i64 a1, .int .i64 a2, .int .i64 a3, .int .i64 a4, .int .i64 a5, .int .i64 a6, .int .i64 a7]) (.int .i64 5)).run Try.prog w = .ok (.int .i64 a5) w := fun _ => rfl
  have ix6 : ∀ w, (Instr.index 32 (.agg #[.int .i64 a0, .int .i64 a1, .int .i64 a2, .int .i64 a3, .int .i64 a4, .int .i64 a5, .int .i64 a6, .int .i64 a7]) (.int .i64 6)).run Try.prog w = .ok (.int .i64 a6) w := fun _ => rfl
  have ix7 : ∀ w, (Instr.index 32 (.agg #[.int .i64 a0, .int .i64 a1, .int .i64 a2, .int .i64 a3, .int .i64 a4, .int .i64 a5, .int .i64 a6, .int .i64 a7]) (.int .i64 7)).run Try.prog w = .ok (.int .i64 a7) w := fun _ => rfl
  clear c2 c3 c4 c5 c6 c7 c8 c9 H
  go_loopg [12] 8 (fun kq v wr => ∃ k : Nat, v = .int .i64 (k : Int) ∧ Hid (k + kq = 8) ∧ Hid (leastF (eight a0 a1 a2 a3 a4 a5 a6 a7) 0 8 = leastF (eight a0 a1 a2 a3 a4 a5 a6 a7) k kq) ∧ w = wr)
  case atStart => exact ⟨0, rfl, (rfl : 0 + 8 = 8), (rfl : leastF _ 0 8 = _), rfl⟩
  case round =>
    obtain ⟨k, rfl, hk, hO, rfl⟩ := hrel
    rcases (show k = 8 ∨ k < 8 by have := hk.out; omega) with e8 | hlt
    · have e0 : leastF (eight a0 a1 a2 a3 a4 a5 a6 a7) 0 8 = 0 := by
        have e1 := hO.out
        have e2 := hk.out
        rw [show (gk : Nat) = 0 by omega] at e1
        exact e1
      have HE := Lib.hid e0
      clear hk hO e0
      subst e8
      go_wp2
      go_ret
      exact ⟨by rw [HE.out]; rfl, rfl⟩
    · have step : ∀ j, k = j → j < 8 → ∃ q, Hid (gk = q + 1) ∧ Hid (j + 1 + q = 8) ∧ Hid (leastF (eight a0 a1 a2 a3 a4 a5 a6 a7) 0 8 = if 0 < eight a0 a1 a2 a3 a4 a5 a6 a7 j then j else leastF (eight a0 a1 a2 a3 a4 a5 a6 a7) (j + 1) q) := fun j e hj => by
        have e1 := hO.out
        have e2 := hk.out
        refine ⟨7 - j, (by omega : gk = 7 - j + 1), (by omega : j + 1 + (7 - j) = 8), ?_⟩
        rw [show (gk : Nat) = 7 - j + 1 by omega, e] at e1
        exact e1
      rcases (show k = 0 ∨ k = 1 ∨ k = 2 ∨ k = 3 ∨ k = 4 ∨ k = 5 ∨ k = 6 ∨ k = 7 by omega) with e | e | e | e | e | e | e | e
      · obtain ⟨q, hq, hq8, hs⟩ := step 0 e (by decide)
        subst e
        clear step hk hO hlt ix1 ix2 ix3 ix4 ix5 ix6 ix7
        by_cases hp : 0 < a0
        · have d1 : decide (0 < a0) = true := decide_eq_true hp
          have HE : Hid (leastF (eight a0 a1 a2 a3 a4 a5 a6 a7) 0 8 = 0) := hs.out.trans (if_pos hp)
          clear hs hp
          go_wp2
          go_ret
          exact ⟨by rw [HE.out]; rfl, rfl⟩
        · have d1 : decide (0 < a0) = false := decide_eq_false hp
          have HE : Hid (leastF (eight a0 a1 a2 a3 a4 a5 a6 a7) 0 8 = leastF (eight a0 a1 a2 a3 a4 a5 a6 a7) 1 q) := hs.out.trans (if_neg hp)
          clear hs hp
          go_wp2
          go_roundg q
          case measure => have := hq.out; omega
          case rel => exact ⟨1, rfl, hq8, HE, rfl⟩
      · obtain ⟨q, hq, hq8, hs⟩ := step 1 e (by decide)
        subst e
        clear step hk hO hlt ix0 ix2 ix3 ix4 ix5 ix6 ix7
        by_cases hp : 0 < a1
        · have d1 : decide (0 < a1) = true := decide_eq_true hp
          have HE : Hid (leastF (eight a0 a1 a2 a3 a4 a5 a6 a7) 0 8 = 1) := hs.out.trans (if_pos hp)
          clear hs hp
          go_wp2
          go_ret
          exact ⟨by rw [HE.out]; rfl, rfl⟩
        · have d1 : decide (0 < a1) = false := decide_eq_false hp
          have HE : Hid (leastF (eight a0 a1 a2 a3 a4 a5 a6 a7) 0 8 = leastF (eight a0 a1 a2 a3 a4 a5 a6 a7) 2 q) := hs.out.trans (if_neg hp)
          clear hs hp
          go_wp2
          go_roundg q
          case measure => have := hq.out; omega
          case rel => exact ⟨2, rfl, hq8, HE, rfl⟩
      · obtain ⟨q, hq, hq8, hs⟩ := step 2 e (by decide)
        subst e
        clear step hk hO hlt ix0 ix1 ix3 ix4 ix5 ix6 ix7
        by_cases hp : 0 < a2
        · have d1 : decide (0 < a2) = true := decide_eq_true hp
          have HE : Hid (leastF (eight a0 a1 a2 a3 a4 a5 a6 a7) 0 8 = 2) := hs.out.trans (if_pos hp)
          clear hs hp
          go_wp2
          go_ret
          exact ⟨by rw [HE.out]; rfl, rfl⟩
        · have d1 : decide (0 < a2) = false := decide_eq_false hp
          have HE : Hid (leastF (eight a0 a1 a2 a3 a4 a5 a6 a7) 0 8 = leastF (eight a0 a1 a2 a3 a4 a5 a6 a7) 3 q) := hs.out.trans (if_neg hp)
          clear hs hp
          go_wp2
          go_roundg q
          case measure => have := hq.out; omega
          case rel => exact ⟨3, rfl, hq8, HE, rfl⟩
      · obtain ⟨q, hq, hq8, hs⟩ := step 3 e (by decide)
        subst e
        clear step hk hO hlt ix0 ix1 ix2 ix4 ix5 ix6 ix7
        by_cases hp : 0 < a3
        · have d1 : decide (0 < a3) = true := decide_eq_true hp
          have HE : Hid (leastF (eight a0 a1 a2 a3 a4 a5 a6 a7) 0 8 = 3) := hs.out.trans (if_pos hp)
          clear hs hp
          go_wp2
          go_ret
          exact ⟨by rw [HE.out]; rfl, rfl⟩
        · have d1 : decide (0 < a3) = false := decide_eq_false hp
          have HE : Hid (leastF (eight a0 a1 a2 a3 a4 a5 a6 a7) 0 8 = leastF (eight a0 a1 a2 a3 a4 a5 a6 a7) 4 q) := hs.out.trans (if_neg hp)
          clear hs hp
          go_wp2
          go_roundg q
          case measure => have := hq.out; omega
          case rel => exact ⟨4, rfl, hq8, HE, rfl⟩
      · obtain ⟨q, hq, hq8, hs⟩ := step 4 e (by decide)
        subst e
        clear step hk hO hlt ix0 ix1 ix2 ix3 ix5 ix6 ix7
        by_cases hp : 0 < a4
        · have d1 : decide (0 < a4) = true := decide_eq_true hp
          have HE : Hid (leastF (eight a0 a1 a2 a3 a4 a5 a6 a7) 0 8 = 4) := hs.out.trans (if_pos hp)
          clear hs hp
          go_wp2
          go_ret
          exact ⟨by rw [HE.out]; rfl, rfl⟩
        · have d1 : decide (0 < a4) = false := decide_eq_false hp
          have HE : Hid (leastF (eight a0 a1 a2 a3 a4 a5 a6 a7) 0 8 = leastF (eight a0 a1 a2 a3 a4 a5 a6 a7) 5 q) := hs.out.trans (if_neg hp)
          clear hs hp
          go_wp2
          go_roundg q
          case measure => have := hq.out; omega
          case rel => exact ⟨5, rfl, hq8, HE, rfl⟩
      · obtain ⟨q, hq, hq8, hs⟩ := step 5 e (by decide)
        subst e
        clear step hk hO hlt ix0 ix1 ix2 ix3 ix4 ix6 ix7
        by_cases hp : 0 < a5
        · have d1 : decide (0 < a5) = true := decide_eq_true hp
          have HE : Hid (leastF (eight a0 a1 a2 a3 a4 a5 a6 a7) 0 8 = 5) := hs.out.trans (if_pos hp)
          clear hs hp
          go_wp2
          go_ret
          exact ⟨by rw [HE.out]; rfl, rfl⟩
        · have d1 : decide (0 < a5) = false := decide_eq_false hp
          have HE : Hid (leastF (eight a0 a1 a2 a3 a4 a5 a6 a7) 0 8 = leastF (eight a0 a1 a2 a3 a4 a5 a6 a7) 6 q) := hs.out.trans (if_neg hp)
          clear hs hp
          go_wp2
          go_roundg q
          case measure => have := hq.out; omega
          case rel => exact ⟨6, rfl, hq8, HE, rfl⟩
      · obtain ⟨q, hq, hq8, hs⟩ := step 6 e (by decide)
        subst e
        clear step hk hO hlt ix0 ix1 ix2 ix3 ix4 ix5 ix7
        by_cases hp : 0 < a6
        · have d1 : decide (0 < a6) = true := decide_eq_true hp
          have HE : Hid (leastF (eight a0 a1 a2 a3 a4 a5 a6 a7) 0 8 = 6) := hs.out.trans (if_pos hp)
          clear hs hp
          go_wp2
          go_ret
          exact ⟨by rw [HE.out]; rfl, rfl⟩
        · have d1 : decide (0 < a6) = false := decide_eq_false hp
          have HE : Hid (leastF (eight a0 a1 a2 a3 a4 a5 a6 a7) 0 8 = leastF (eight a0 a1 a2 a3 a4 a5 a6 a7) 7 q) := hs.out.trans (if_neg hp)
          clear hs hp
          go_wp2
          go_roundg q
          case measure => have := hq.out; omega
          case rel => exact ⟨7, rfl, hq8, HE, rfl⟩
      · obtain ⟨q, hq, hq8, hs⟩ := step 7 e (by decide)
        subst e
        clear step hk hO hlt ix0 ix1 ix2 ix3 ix4 ix5 ix6
        by_cases hp : 0 < a7
        · have d1 : decide (0 < a7) = true := decide_eq_true hp
          have HE : Hid (leastF (eight a0 a1 a2 a3 a4 a5 a6 a7) 0 8 = 7) := hs.out.trans (if_pos hp)
          clear hs hp
          go_wp2
          go_ret
          exact ⟨by rw [HE.out]; rfl, rfl⟩
        · have d1 : decide (0 < a7) = false := decide_eq_false hp
          have HE : Hid (leastF (eight a0 a1 a2 a3 a4 a5 a6 a7) 0 8 = leastF (eight a0 a1 a2 a3 a4 a5 a6 a7) 8 q) := hs.out.trans (if_neg hp)
          clear hs hp
          go_wp2
          go_roundg q
          case measure => have := hq.out; omega
          case rel => exact ⟨8, rfl, hq8, HE, rfl⟩
end Go.Proofs.Ytjhinakfoejpbaa.T
