import Derived.Test.YtoegeljjfhbpeaaJD
import Derived.RangeFuncNested
import Derived.RangeFuncBound
import Derived.RangeFuncCalls
import Derived.RangeFuncLeaves
import Derived.Shelf.Abstract
import Derived.Shelf.RegionOpen
import Derived.OwnWalkIn
import Derived.TacticsInMore
import Derived.LoopNIn
import Derived.LoopIn
import Derived.Laws.Cover3
import Derived.IntWalk
set_option linter.unusedVariables false
set_option linter.unusedSimpArgs false
namespace Go.Proofs.Ytoegeljjfhbpeaa.J
open Go.RowKit Go.Proofs.YtoegeljjfhbpeaaW.PrintWords Go.Proofs.YtoegeljjfhbpeaaW.PrintLast Go.Proofs.YtoegeljjfhbpeaaW.PrintMore Go.Shelf
attribute [local go_sem] Oper.semAt_some

def byt (b : List Int) (j : Nat) : Int := b.getD j 0
def headNum (b : List Int) : Int := byt b 0 * 16777216 + byt b 1 * 65536 + byt b 2 * 256 + byt b 3
/-- the line of the n-th frame, if it stands at the front -/
def front (n : Nat) (b : List Int) : Option (List Int) :=
  if 8 ≤ b.length then (if headNum b ≤ 65536 ∧ headNum b ≤ (b.length : Int) - 8 then (if (b.drop 4).take 4 = lineSum n ((b.drop 8).take (headNum b).toNat) then some ((b.drop 8).take (headNum b).toNat) else none) else none) else none
def scanG : Nat → Nat → Nat → List Int → List (List Int × Nat)
  | 0, _, _, _ => []
  | k + 1, n, at_, b => match front n (b.drop at_) with
    | none => []
    | some s => (s, at_ + 8 + s.length) :: scanG k (n + 1) (at_ + 8 + s.length) b

theorem getD_byte {b : List Int} (h : ∀ x ∈ b, 0 ≤ x ∧ x ≤ 255) (j : Nat) : 0 ≤ byt b j ∧ byt b j ≤ 255 := by
  unfold byt
  rcases Nat.lt_or_ge j b.length with hj | hj
  · rw [List.getD_eq_getElem?_getD, List.getElem?_eq_getElem hj]
    exact h _ (List.getElem_mem hj)
  · rw [List.getD_eq_getElem?_getD, List.getElem?_eq_none hj]
    exact ⟨by decide, by decide⟩
theorem arr_neq (a0 a1 a2 a3 b0 b1 b2 b3 : Int) (w : World) : (binOp .neq 71 (.agg #[.int .u8 a0, .int .u8 a1, .int .u8 a2, .int .u8 a3]) (.agg #[.int .u8 b0, .int .u8 b1, .int .u8 b2, .int .u8 b3])).run Try.prog w = .ok (.bool (!(a0 == b0 && (a1 == b1 && (a2 == b2 && a3 == b3))))) w := by
  have hm : Op.maxDepth = (Op.maxDepth - 2) + 1 + 1 := by decide
  have e5 : ∀ (x y : Int), (Op.equalIn ((Op.maxDepth - 2) + 1) 5 (.int .u8 x) (.int .u8 y)).run Try.prog w = .ok (x == y) w := by
    intro x y
    simp [Op.equalIn, run_underlying Try.underlying5]
  have z5 := Try.sizeOf5
  simp [binOp, Op.equal]
  rw [hm, Op.equalIn]
  simp [run_underlying Try.underlying71, z5, part]
  have l4 : List.range' 0 4 = [0, 1, 2, 3] := rfl
  have q5 := Try.isAgg5
  rw [l4]
  by_cases h0 : a0 = b0
  · by_cases h1 : a1 = b1
    · by_cases h2 : a2 = b2
      · by_cases h3 : a3 = b3
        · simp [List.forIn_cons, q5, e5, h0, h1, h2, h3]
        · simp [List.forIn_cons, q5, e5, h0, h1, h2, h3]
      · simp [List.forIn_cons, q5, e5, h0, h1, h2]
    · simp [List.forIn_cons, q5, e5, h0, h1]
  · simp [List.forIn_cons, q5, e5, h0]
theorem guard71 : Try.prog.eqGuardType Try.prog.depth 71 = false := by kernel_rfl
theorem arr_guard (o1 o2 : Operand) (xs ys : Array Value) (w : World) : (eqGuard .neq 71 o1 o2 (.agg xs) (.agg ys)).run Try.prog w = .ok () w := by
  simp [eqGuard, guard71]
theorem take4 (b : List Int) (a : Nat) (h : a + 4 ≤ b.length) : (b.drop a).take 4 = [byt b a, byt b (a + 1), byt b (a + 2), byt b (a + 3)] := by
  apply List.ext_getElem
  · rw [List.length_take, List.length_drop]
    show min 4 (b.length - a) = 4
    omega
  · intro i h1 h2
    have hi : i < 4 := h2
    rw [List.getElem_take, List.getElem_drop]
    obtain rfl | rfl | rfl | rfl : i = 0 ∨ i = 1 ∨ i = 2 ∨ i = 3 := by omega
    all_goals simp [byt, List.getD, show a < b.length by omega, show a + 1 < b.length by omega, show a + 2 < b.length by omega, show a + 3 < b.length by omega]
theorem neq_front (b : List Int) (a : Nat) (h : a + 8 ≤ b.length) (n : Int) (s : List Int) :
    ∃ r : Bool, (∀ W : World, (binOp .neq 71 (.agg #[.int .u8 (byt b (a + 4)), .int .u8 (byt b (a + 5)), .int .u8 (byt b (a + 6)), .int .u8 (byt b (a + 7))]) (u8s (lineSum n s))).run Try.prog W = .ok (.bool r) W) ∧ (r = false ↔ (b.drop (a + 4)).take 4 = lineSum n s) := by
  refine ⟨_, fun W => arr_neq _ _ _ _ _ _ _ _ W, ?_⟩
  rw [take4 b (a + 4) (by omega)]
  show _ ↔ [byt b (a + 4), byt b (a + 5), byt b (a + 6), byt b (a + 7)] = low4 _
  simp [low4]
theorem mid_s (A : Option Addr) (len cap : Nat) (b : List Int) (hlen : b.length = len) (hlc : len ≤ cap) (a L : Nat) (h : a + 8 + L ≤ len) :
    ∃ As, (∀ W : World, (Instr.slice 22 (.slice A len cap) (some (.int .i64 ((a : Int) + 8))) (some (.int .i64 ((a : Int) + 8 + (L : Int)))) none).run Try.prog W = .ok (.slice As L (cap - (a + 8))) W) ∧
      ∀ w, ReadsInt w .u8 A len b → ReadsInt w .u8 As L ((b.drop (a + 8)).take L) := by
  obtain ⟨i0, hi, hz0, hz1, hz2⟩ := info_parts info5
  subst hlen
  obtain ⟨As, h1, h2, _⟩ := print_mid_int (P := Try.prog) (k := .u8) 22 5 Try.underlying22 hi hz1 A cap b ((a : Int) + 8) ((a : Int) + 8 + (L : Int)) (by omega) (by omega) (by omega) hlc
  have e1 : ((a : Int) + 8).toNat = a + 8 := by omega
  have e2 : ((a : Int) + 8 + (L : Int)).toNat = a + 8 + L := by omega
  have e3 : ((b.take (a + 8 + L)).drop (a + 8)).length = L := by rw [List.length_drop, List.length_take]; omega
  have e4 : (b.take (a + 8 + L)).drop (a + 8) = (b.drop (a + 8)).take L := by rw [List.drop_take, show a + 8 + L - (a + 8) = L by omega]
  rw [e1, e2, e3] at h1 h2
  rw [e4] at h2
  exact ⟨As, h1, h2⟩
theorem conv_str (w : World) (A : Option Addr) (n c : Nat) (xs : List Int) (h : ReadsInt w .u8 A n xs) : (convert 22 9 (.slice A n c)).run Try.prog w = .ok (.string (strOfNums xs)) w := by
  cases A with
  | none =>
    have h0 : n = 0 := by
      rcases Nat.eq_zero_or_pos n with z | z
      · exact z
      · obtain ⟨ad, e, _⟩ := h.2.2 z
        cases e
    have e0 : xs = [] := List.eq_nil_of_length_eq_zero (by rw [h.1, h0])
    rw [e0]
    exact run_convert_bytes_nil w 22 5 Try.underlying22 Try.underlying5 n c 9 Try.underlying9
  | some a =>
    have hl : (loadCells a n).run Try.prog w = .ok (xs.map (Value.int .u8)).toArray w := by
      have := run_loadCells_list (P := Try.prog) w a (xs.map (Value.int .u8)) (fun j v hj => by
        have hjl : j < xs.length := by
          rcases Nat.lt_or_ge j xs.length with h | h
          · exact h
          · simp [List.getElem?_eq_none (show (xs.map (Value.int .u8)).length ≤ j by simpa using h)] at hj
        obtain ⟨ad, e, hc⟩ := h.2.2 (by have := h.1; omega)
        injection e with e
        subst e
        rw [hc j (by have := h.1; omega)]
        simp [List.getElem?_eq_getElem hjl] at hj
        subst hj
        simp [List.getD, List.getElem?_eq_getElem hjl])
      simpa [h.1] using this
    rw [run_convert_bytes_string w 22 9 5 _ n c Try.underlying22 Try.underlying5 Try.underlying9, run_bytesToString w _ n c xs hl, foldl_push_bytes]
    simp [strOfNums, ByteArray.empty, ByteArray.emptyWithCapacity]
    rfl
theorem headNum_drop (b : List Int) (a : Nat) : headNum (b.drop a) = byt b a * 16777216 + byt b (a + 1) * 65536 + byt b (a + 2) * 256 + byt b (a + 3) := by
  simp [headNum, byt, List.getD, List.getElem?_drop]
theorem front_short (n : Nat) (b : List Int) (a : Nat) (h : b.length < a + 8) : front n (b.drop a) = none := by
  unfold front
  rw [if_neg (by rw [List.length_drop]; omega)]
theorem front_yes (n : Nat) (b : List Int) (a L : Nat) (h8 : a + 8 ≤ b.length) (hL : headNum (b.drop a) = (L : Int)) (h1 : L ≤ 65536) (h2 : L + a + 8 ≤ b.length) (h : (b.drop (a + 4)).take 4 = lineSum n ((b.drop (a + 8)).take L)) :
    front n (b.drop a) = some ((b.drop (a + 8)).take L) := by
  unfold front
  rw [if_pos (by rw [List.length_drop]; omega), hL, if_pos (by rw [List.length_drop]; omega), List.drop_drop, List.drop_drop, Int.toNat_natCast, if_pos h]
theorem front_no (n : Nat) (b : List Int) (a L : Nat) (h8 : a + 8 ≤ b.length) (hL : headNum (b.drop a) = (L : Int)) (h : ¬ (L ≤ 65536 ∧ L + a + 8 ≤ b.length)) : front n (b.drop a) = none := by
  unfold front
  rw [if_pos (by rw [List.length_drop]; omega), hL, if_neg (by rw [List.length_drop]; omega)]
theorem front_ne (n : Nat) (b : List Int) (a L : Nat) (h8 : a + 8 ≤ b.length) (hL : headNum (b.drop a) = (L : Int)) (h1 : L ≤ 65536) (h2 : L + a + 8 ≤ b.length) (h : ¬ (b.drop (a + 4)).take 4 = lineSum n ((b.drop (a + 8)).take L)) :
    front n (b.drop a) = none := by
  unfold front
  rw [if_pos (by rw [List.length_drop]; omega), hL, if_pos (by rw [List.length_drop]; omega), List.drop_drop, List.drop_drop, Int.toNat_natCast, if_neg h]
theorem scanG_none {k n a : Nat} {b : List Int} (h : front n (b.drop a) = none) : scanG k n a b = [] := by
  cases k with
  | zero => rfl
  | succ k => simp only [scanG]; rw [h]
theorem scanG_some {k n a : Nat} {b s : List Int} (h : front n (b.drop a) = some s) : scanG (k + 1) n a b = (s, a + 8 + s.length) :: scanG k (n + 1) (a + 8 + s.length) b := by
  simp only [scanG]; rw [h]
theorem mid_4 (bb off len cap : Nat) (hlc : len ≤ cap) (a : Nat) (h : a + 8 ≤ len) : ∀ W : World, (Instr.slice 22 (.slice (some ⟨bb, off, none⟩) len cap) (some (.int .i64 ((a : Int) + 4))) (some (.int .i64 ((a : Int) + 8))) none).run Try.prog W = .ok (.slice (some ⟨bb, off + (a + 4), none⟩) 4 (cap - (a + 4))) W := by
  intro W
  obtain ⟨i0, hi, hz0, hz1, hz2⟩ := info_parts info5
  have hel : Try.prog.elem 22 = 5 := by simp [Program.elem, Try.underlying22]
  have hu : Try.prog.underlying 22 = some (.slice (Try.prog.elem 22)) := by rw [hel]; exact Try.underlying22
  rw [run_slice_lh W 22 (some ⟨bb, off, none⟩) len cap hu .i64 .i64 ((a : Int) + 4) ((a : Int) + 8) (by omega) (by omega) (by omega), hel]
  have e1 : ((a : Int) + 4).toNat = a + 4 := by omega
  have e2 : ((a : Int) + 8).toNat = a + 8 := by omega
  have e3 : a + 8 - (a + 4) = 4 := by omega
  have e4 : ¬ cap = a + 4 := by omega
  simp [sizeOf, typeInfo, hi, hz1, sliced, Result.andThen, e1, e2, e3, e4, add_at]
/-- what lay below n₀, and the block Bs, lie as they lay -/
structure KB (n₀ Bs : Nat) (A B : World) : Prop where
  below : Below n₀ A B
  box : B.heap[Bs]? = A.heap[Bs]?
theorem KB.refl (n₀ Bs : Nat) (A : World) : KB n₀ Bs A A := ⟨Below.refl _ _, rfl⟩
theorem KB.trans {n₀ Bs : Nat} {A B C : World} (h : KB n₀ Bs A B) (k : KB n₀ Bs B C) : KB n₀ Bs A C := ⟨h.below.trans k.below, k.box.trans h.box⟩
theorem KB.size {n₀ Bs : Nat} {A B : World} (h : KB n₀ Bs A B) : A.heap.size ≤ B.heap.size := h.below.size
theorem KB.cell {n₀ Bs : Nat} {A B : World} (h : KB n₀ Bs A B) {p : Addr} (hp : p.block < n₀) : B.cell? p = A.cell? p := h.below.cell hp
theorem KB.cellB {n₀ Bs : Nat} {A B : World} (h : KB n₀ Bs A B) : B.cell? ⟨Bs, 0, none⟩ = A.cell? ⟨Bs, 0, none⟩ := World.cell?_of_block h.box
theorem KB.of {n₀ Bs : Nat} {A B : World} (h : Below A.heap.size A B) (h1 : n₀ ≤ A.heap.size) (h2 : Bs < A.heap.size) : KB n₀ Bs A B := ⟨h.mono h1, h.block Bs h2⟩
set_option maxRecDepth 100000 in
set_option maxHeartbeats 2000000 in
theorem frames1_in (m : Nat) (hm : 2 ≤ m) (l Bs n₀ bb off len cap : Nat) (b : List Int) (hb0 : ∀ x ∈ b, 0 ≤ x ∧ x ≤ 255) (hlen : b.length = len) (hl8 : 8 ≤ len) (hreach : len ≤ 140737488351232) (hlc : len ≤ cap) (hbb : bb < n₀) (J Jx : List (List Int × Nat) → World → Prop) (hJa : ∀ s W W', J s W → Below W.heap.size W W' → J s W')
    (hY : ∀ pre x W, J pre W → pre.length < (scanG (len + 1) 0 0 b).length → YieldAt Fence.wide (m - 1) Try.prog l #[.string (strOfNums x.1), .int .i64 (x.2 : Int)] W fun e W' =>
      (e = .returned (.bool true) ∧ J (pre ++ [x]) W' ∧ KB n₀ Bs W W') ∨ (e = .returned (.bool false) ∧ Jx (pre ++ [x]) W'))
    (W : World) (hn₀ : n₀ ≤ W.heap.size) (hBs0 : Bs < W.heap.size) (hBs : W.cell? ⟨Bs, 0, none⟩ = some (.slice (some ⟨bb, off, none⟩) len cap)) (hc : ∀ j, j < len → W.cell? ⟨bb, off + j, none⟩ = some (.int .u8 (byt b j))) (h0 : J [] W) :
    CallsIn Fence.wide m Try.prog 47 #[.func (.yield l) #[] #[], .pointer (some ⟨Bs, 0, none⟩)] W fun e W' => (∃ v, e = .returned v) ∧
      ((∃ ys, ys = scanG (len + 1) 0 0 b ∧ J ys W') ∨ (∃ pre, pre <+: scanG (len + 1) 0 0 b ∧ Jx pre W')) := by
  have HC := Lib.hid hc
  have HB := Lib.hid hBs
  have HL := Lib.hid hlen
  have H0 := Lib.hid hb0
  clear hc hBs hlen hb0
  refine callsIn_of_wp Try.func47 rfl trivial ?_ rfl
  simp only [Try.ntmps47, List.size_toArray, List.length_cons, List.length_nil, Nat.reduceAdd, Nat.reduceSub, Array.replicate_succ, Array.replicate_zero, List.push_toArray, List.append_toArray, List.nil_append, List.cons_append]
  have hat : ∀ (w : World) (x : Option Addr) (c : Nat), (Instr.arrayAt 71 (.slice x 4 c)).run Try.prog w = .ok (.pointer x) w := fun w x c => run_arrayAt w 71 _ 4 _ 4 c Try.underlying71 (Nat.le_refl _)
  gi_wp2
  gi_loopw [3, 4] (fun at_ n wr => ∃ (pre rest : List (List Int × Nat)) (k a : Nat), n = .int .i64 (pre.length : Int) ∧ at_ = .int .i64 (a : Int) ∧ a ≤ len ∧ 8 * pre.length ≤ a ∧ scanG (len + 1) 0 0 b = pre ++ rest ∧ rest = scanG k pre.length a b ∧ len < k + a ∧ J pre wr ∧ KB n₀ Bs W wr)
    (fun at_ _ _ => len - (intOf at_).toNat)
  case atStart => exact ⟨[], _, len + 1, 0, rfl, rfl, by omega, by simp, rfl, rfl, by omega, h0, KB.refl _ _ _⟩
  case round =>
    obtain ⟨pre, rest, k, a, rfl, rfl, ha, hp8, hS, hrest, hk, hJ, hbel⟩ := hrel
    have hcb : wr.cell? ⟨Bs, 0, none⟩ = some (.slice (some ⟨bb, off, none⟩) len cap) := hbel.cellB.trans HB.out
    by_cases h8 : a + 8 ≤ len
    · have c0 : wr.cell? ⟨bb, off + a, none⟩ = some (.int .u8 (byt b a)) := (hbel.cell (p := ⟨bb, off + a, none⟩) hbb).trans (HC.out a (by omega))
      have c1 : wr.cell? ⟨bb, off + a + 1, none⟩ = some (.int .u8 (byt b (a + 1))) := (hbel.cell (p := ⟨bb, off + a + 1, none⟩) hbb).trans (HC.out (a + 1) (by omega))
      have c2 : wr.cell? ⟨bb, off + a + 2, none⟩ = some (.int .u8 (byt b (a + 2))) := (hbel.cell (p := ⟨bb, off + a + 2, none⟩) hbb).trans (HC.out (a + 2) (by omega))
      have c3 : wr.cell? ⟨bb, off + a + 3, none⟩ = some (.int .u8 (byt b (a + 3))) := (hbel.cell (p := ⟨bb, off + a + 3, none⟩) hbb).trans (HC.out (a + 3) (by omega))
      have hr0 : ∀ j, 0 ≤ byt b j ∧ byt b j ≤ 255 := fun j => getD_byte H0.out j
      have HR := Lib.hid hr0
      clear hr0
      have hsz : n₀ ≤ wr.heap.size := Nat.le_trans hn₀ hbel.size
      have hBsz : Bs < wr.heap.size := Nat.lt_of_lt_of_le hBs0 hbel.size
      obtain ⟨L, hL⟩ : ∃ L : Nat, byt b a * 16777216 + byt b (a + 1) * 65536 + byt b (a + 2) * 256 + byt b (a + 3) = (L : Int) := by
        have g0 := HR.out a
        have g1 := HR.out (a + 1)
        have g2 := HR.out (a + 2)
        have g3 := HR.out (a + 3)
        exact ⟨(byt b a * 16777216 + byt b (a + 1) * 65536 + byt b (a + 2) * 256 + byt b (a + 3)).toNat, by omega⟩
      have HLn := Lib.hid hL
      clear hL
      by_cases hv : L ≤ 65536 ∧ L + a + 8 ≤ len
      · obtain ⟨hv1, hv2⟩ := hv
        obtain ⟨As, hmid, hmidr⟩ := mid_s (some ⟨bb, off, none⟩) len cap b HL.out hlc a L (by omega)
        have HMR := Lib.hid hmidr
        clear hmidr
        obtain ⟨r, hneq, hrr⟩ := neq_front b a (by rw [HL.out]; omega) (pre.length : Int) ((b.drop (a + 8)).take L)
        have HRR := Lib.hid hrr
        have hgd : ∀ W : World, (eqGuard .neq 71 (.tmp 48) (.tmp 51) (.agg #[.int .u8 (byt b (a + 4)), .int .u8 (byt b (a + 5)), .int .u8 (byt b (a + 6)), .int .u8 (byt b (a + 7))]) (u8s (lineSum (pre.length : Int) ((b.drop (a + 8)).take L)))).run Try.prog W = .ok () W := fun W => arr_guard _ _ _ _ W
        clear hrr
        have hmid4 := mid_4 bb off len cap hlc a h8
        have hd1 : decide (65536 < (L : Int)) = false := by simp; omega
        have hd2 : decide ((len : Int) - (a : Int) - 8 < (L : Int)) = false := by simp; omega
        gi_wp2_with (first | (refine ⟨trivial, fun _ => by omega, ?_⟩; refine (callsIn_wide.2 (number_any _ _ _ _ _ (HR.out a) (HR.out (a + 1)) (HR.out (a + 2)) (HR.out (a + 3)))).mono ?_; rintro e w1 ⟨rfl, hb1⟩; rw [HLn.out]; have hB1 := Lib.hid (KB.of hb1 hsz hBsz); have hJ1 := hJa _ _ _ hJ hb1; have hcb1 : w1.cell? ⟨Bs, 0, none⟩ = some (.slice (some ⟨bb, off, none⟩) len cap) := hB1.out.cellB.trans hcb; have hz1 : wr.heap.size ≤ w1.heap.size := hb1.size; clear hb1))
        have hBW : KB n₀ Bs W w1 := hbel.trans hB1.out
        have c4 : w1.cell? ⟨bb, off + (a + 4), none⟩ = some (.int .u8 (byt b (a + 4))) := (hBW.cell (p := ⟨bb, off + (a + 4), none⟩) hbb).trans (HC.out (a + 4) (by omega))
        have c5 : w1.cell? ⟨bb, off + (a + 4) + 1, none⟩ = some (.int .u8 (byt b (a + 5))) := (hBW.cell (p := ⟨bb, off + (a + 4) + 1, none⟩) hbb).trans (HC.out (a + 5) (by omega))
        have c6 : w1.cell? ⟨bb, off + (a + 4) + 2, none⟩ = some (.int .u8 (byt b (a + 6))) := (hBW.cell (p := ⟨bb, off + (a + 4) + 2, none⟩) hbb).trans (HC.out (a + 6) (by omega))
        have c7 : w1.cell? ⟨bb, off + (a + 4) + 3, none⟩ = some (.int .u8 (byt b (a + 7))) := (hBW.cell (p := ⟨bb, off + (a + 4) + 3, none⟩) hbb).trans (HC.out (a + 7) (by omega))
        have Rs : Hid (ReadsInt w1 .u8 As L ((b.drop (a + 8)).take L)) := by
          refine HMR.out _ ⟨HL.out, by omega, fun _ => ⟨_, rfl, fun j hj => ?_⟩⟩
          rw [add_at]
          exact (hBW.cell (p := ⟨bb, off + j, none⟩) hbb).trans (HC.out j hj)
        have HBW := Lib.hid hBW
        clear hBW
        have mx : Try.prog.follows .mixedOrders = true := by kernel_rfl
        have Rd : Hid (ReadsInt w1.drew .u8 As L ((b.drop (a + 8)).take L)) := Rs
        have hp0 : Hid (0 ≤ (pre.length : Int)) := by show (0 : Int) ≤ _; omega
        have hp1 : Hid ((pre.length : Int) ≤ 9223372036854775807) := by show _ ≤ (9223372036854775807 : Int); omega
        have hL9 : Hid (L ≤ 140737488355320) := by show _ ≤ 140737488355320; omega
        have hN : Hid (n₀ ≤ w1.heap.size) := Nat.le_trans hsz hz1
        have hNB : Hid (Bs < w1.heap.size) := Nat.lt_of_lt_of_le hBsz hz1
        have h1m : Hid (1 ≤ m) := by show 1 ≤ m; omega
        have hw4 : IntKind.i64.wrap ((a : Int) + 4) = (a : Int) + 4 := IntWalk.i64_in _ (by omega)
        have hw8 : IntKind.i64.wrap ((a : Int) + 8) = (a : Int) + 8 := IntWalk.i64_in _ (by omega)
        gi_region_with_o (refine ⟨trivial, fun _ => h1m.out, ?_⟩; refine (callsIn_wide.2 (sum_any (pre.length : Int) As L _ ((b.drop (a + 8)).take L) _ hp0.out hp1.out Rd.out.1 hL9.out Rd.out)).mono ?_; rintro e w2 ⟨rfl, hb2q⟩; have hb2 : Below w1.heap.size w1 w2 := ((Below.refl _ w1).drew).trans hb2q; clear hb2q; have B2 : Hid (KB n₀ Bs w1 w2) := KB.of hb2 hN.out hNB.out; have k4 : w2.cell? ⟨bb, off + (a + 4), none⟩ = some (.int .u8 (byt b (a + 4))) := (B2.out.cell (p := ⟨bb, off + (a + 4), none⟩) hbb).trans c4; have k5 : w2.cell? ⟨bb, off + (a + 4) + 1, none⟩ = some (.int .u8 (byt b (a + 5))) := (B2.out.cell (p := ⟨bb, off + (a + 4) + 1, none⟩) hbb).trans c5; have k6 : w2.cell? ⟨bb, off + (a + 4) + 2, none⟩ = some (.int .u8 (byt b (a + 6))) := (B2.out.cell (p := ⟨bb, off + (a + 4) + 2, none⟩) hbb).trans c6; have k7 : w2.cell? ⟨bb, off + (a + 4) + 3, none⟩ = some (.int .u8 (byt b (a + 7))) := (B2.out.cell (p := ⟨bb, off + (a + 4) + 3, none⟩) hbb).trans c7; have kb : w2.cell? ⟨Bs, 0, none⟩ = some (.slice (some ⟨bb, off, none⟩) len cap) := B2.out.cellB.trans hcb1; have hJ2 := hJa _ _ _ hJ1 hb2; have hz2 : w1.heap.size ≤ w2.heap.size := hb2.size; clear hb2)
        all_goals
          clear hw4 hw8 c0 c1 c2 c3 c4 c5 c6 c7 k4 k5 k6 k7 hgd hneq hmid hmid4
          have hcv : (convert 22 9 (.slice As L (cap - (a + 8)))).run Try.prog w2 = .ok (.string (strOfNums ((b.drop (a + 8)).take L))) w2 := conv_str _ _ _ _ _ (HMR.out w2 ⟨HL.out, by omega, fun _ => ⟨_, rfl, fun j hj => by rw [add_at]; exact ((HBW.out.trans B2.out).cell (p := ⟨bb, off + j, none⟩) hbb).trans (HC.out j hj)⟩⟩)
          have hhn : Hid (headNum (b.drop a) = (L : Int)) := (headNum_drop b a).trans HLn.out
          cases r with
          | true =>
            gi_wp2
            refine bodyPost_ret (results_none rfl _ _ _) rfl ?_
            refine ⟨⟨_, rfl⟩, .inl ⟨pre, ?_, hJ2⟩⟩
            rw [hS, hrest, scanG_none (front_ne _ b a L (by rw [HL.out]; exact h8) hhn.out hv1 (by rw [HL.out]; exact hv2) (fun e => by have := HRR.out.2 e; cases this)), List.append_nil]
          | false =>
            have hsl : Hid (((b.drop (a + 8)).take L).length = L) := Rs.out.1
            have hfy : Hid (front pre.length (b.drop a) = some ((b.drop (a + 8)).take L)) := front_yes _ b a L (by rw [HL.out]; exact h8) hhn.out hv1 (by rw [HL.out]; exact hv2) (HRR.out.1 rfl)
            obtain ⟨k', rfl⟩ : ∃ k', k = k' + 1 := ⟨k - 1, by omega⟩
            have hr1 : Hid (rest = ((b.drop (a + 8)).take L, a + 8 + L) :: scanG k' (pre.length + 1) (a + 8 + L) b) := by
              show _ = _
              rw [hrest, scanG_some hfy.out, hsl.out]
            have hlt : Hid (pre.length < (scanG (len + 1) 0 0 b).length) := by show _ < _; rw [hS, hr1.out]; simp
            obtain ⟨fn, tmps, assign, body, hy, hR⟩ := hY pre ((b.drop (a + 8)).take L, a + 8 + L) w2 hJ2 hlt.out
            dsimp only at hy
            have hcast : ((a + 8 + L : Nat) : Int) = (a : Int) + (8 + (L : Int)) := by omega
            rw [hcast] at hy
            have HSS := Lib.hid hS
            clear hcast hS hrest
            gi_wp2
            refine ⟨fun _ => h1m.out, hR.mono ?_⟩
            rintro e W3 (⟨rfl, hJ3, hk3⟩ | ⟨rfl, hJx3⟩)
            · gi_wp2
              go_roundw
              case rel => exact ⟨pre ++ [((b.drop (a + 8)).take L, a + 8 + L)], scanG k' (pre.length + 1) (a + 8 + L) b, k', a + 8 + L, by simp, congrArg (Value.int .i64) (by omega), by omega, by rw [List.length_append, List.length_singleton]; omega, by rw [HSS.out, hr1.out, List.append_assoc]; rfl, by rw [List.length_append, List.length_singleton], by omega, hJ3, ((HBW.out.trans B2.out)).trans hk3⟩
              case measure => simp [intOf]; omega
            · gi_wp2
              refine bodyPost_ret (results_none rfl _ _ _) rfl ?_
              exact ⟨⟨_, rfl⟩, .inr ⟨pre ++ [((b.drop (a + 8)).take L, a + 8 + L)], ⟨scanG k' (pre.length + 1) (a + 8 + L) b, by rw [HSS.out, hr1.out]; simp⟩, hJx3⟩⟩
      · have hfn : Hid (scanG k pre.length a b = []) := scanG_none (front_no _ b a L (by rw [HL.out]; exact h8) ((headNum_drop b a).trans HLn.out) (by rw [HL.out]; exact hv))
        by_cases hv1 : L ≤ 65536
        · have hv2 : ¬ (L + a + 8 ≤ len) := fun h => hv ⟨hv1, h⟩
          have hd1 : decide (65536 < (L : Int)) = false := by simp; omega
          have hd2 : decide ((len : Int) - (a : Int) - 8 < (L : Int)) = true := by simp; omega
          clear hv
          gi_wp2_with (first | (refine ⟨trivial, fun _ => by omega, ?_⟩; refine (callsIn_wide.2 (number_any _ _ _ _ _ (HR.out a) (HR.out (a + 1)) (HR.out (a + 2)) (HR.out (a + 3)))).mono ?_; rintro e w1 ⟨rfl, hb1⟩; rw [HLn.out]; have hB1 := Lib.hid (KB.of hb1 hsz hBsz); have hJ1 := hJa _ _ _ hJ hb1; have hcb1 : w1.cell? ⟨Bs, 0, none⟩ = some (.slice (some ⟨bb, off, none⟩) len cap) := hB1.out.cellB.trans hcb; have hz1 : wr.heap.size ≤ w1.heap.size := hb1.size; clear hb1))
          refine bodyPost_ret (results_none rfl _ _ _) rfl ?_
          refine ⟨⟨_, rfl⟩, .inl ⟨pre, ?_, hJ1⟩⟩
          rw [hS, hrest, hfn.out, List.append_nil]
        · have hd1 : decide (65536 < (L : Int)) = true := by simp; omega
          clear hv
          gi_wp2_with (first | (refine ⟨trivial, fun _ => by omega, ?_⟩; refine (callsIn_wide.2 (number_any _ _ _ _ _ (HR.out a) (HR.out (a + 1)) (HR.out (a + 2)) (HR.out (a + 3)))).mono ?_; rintro e w1 ⟨rfl, hb1⟩; rw [HLn.out]; have hB1 := Lib.hid (KB.of hb1 hsz hBsz); have hJ1 := hJa _ _ _ hJ hb1; have hcb1 : w1.cell? ⟨Bs, 0, none⟩ = some (.slice (some ⟨bb, off, none⟩) len cap) := hB1.out.cellB.trans hcb; have hz1 : wr.heap.size ≤ w1.heap.size := hb1.size; clear hb1))
          refine bodyPost_ret (results_none rfl _ _ _) rfl ?_
          refine ⟨⟨_, rfl⟩, .inl ⟨pre, ?_, hJ1⟩⟩
          rw [hS, hrest, hfn.out, List.append_nil]
    · gi_wp2
      go_end0
      refine ⟨⟨_, rfl⟩, .inl ⟨pre, ?_, hJ⟩⟩
      rw [hS, hrest, scanG_none (front_short _ b a (by rw [HL.out]; omega)), List.append_nil]
end Go.Proofs.Ytoegeljjfhbpeaa.J
