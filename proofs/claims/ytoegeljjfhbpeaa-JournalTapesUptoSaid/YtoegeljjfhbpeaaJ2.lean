/- Contracts of Scan, of the code and of the document. No condition stands open. -/
import Derived.Test.YtoegeljjfhbpeaaJ1
import Derived.RangeFuncNested
import Derived.RangeFuncBound
import Derived.RangeFuncCalls
import Derived.RangeFuncLeaves
import Derived.Shelf.Abstract
import Derived.Shelf.RegionOpen
import Derived.OwnWalkIn
import Derived.TacticsInMore
import Derived.LoopNIn
import Derived.LoopIn
import Derived.Laws.Cover3
import Derived.IntWalk
import Derived.Maps.AppendAt
set_option linter.unusedVariables false
set_option linter.unusedSimpArgs false
namespace Go.Proofs.Ytoegeljjfhbpeaa.J
open Go.RowKit Go.Proofs.YtoegeljjfhbpeaaW.PrintWords Go.Proofs.YtoegeljjfhbpeaaW.PrintLast Go.Proofs.YtoegeljjfhbpeaaW.PrintMore Go.Shelf
attribute [local go_sem] Oper.semAt_some

def byt (b : List Int) (j : Nat) : Int := b.getD j 0
def headNum (b : List Int) : Int := byt b 0 * 16777216 + byt b 1 * 65536 + byt b 2 * 256 + byt b 3
/-- the line of the n-th frame, if it stands at the front -/
def front (n : Nat) (b : List Int) : Option (List Int) :=
  if 8 ≤ b.length then (if headNum b ≤ 65536 ∧ headNum b ≤ (b.length : Int) - 8 then (if (b.drop 4).take 4 = lineSum n ((b.drop 8).take (headNum b).toNat) then some ((b.drop 8).take (headNum b).toNat) else none) else none) else none
def scanG : Nat → Nat → Nat → List Int → List (List Int × Nat)
  | 0, _, _, _ => []
  | k + 1, n, at_, b => match front n (b.drop at_) with
    | none => []
    | some s => (s, at_ + 8 + s.length) :: scanG k (n + 1) (at_ + 8 + s.length) b

theorem getD_byte {b : List Int} (h : ∀ x ∈ b, 0 ≤ x ∧ x ≤ 255) (j : Nat) : 0 ≤ byt b j ∧ byt b j ≤ 255 := by
  unfold byt
  rcases Nat.lt_or_ge j b.length with hj | hj
  · rw [List.getD_eq_getElem?_getD, List.getElem?_eq_getElem hj]
    exact h _ (List.getElem_mem hj)
  · rw [List.getD_eq_getElem?_getD, List.getElem?_eq_none hj]
    exact ⟨by decide, by decide⟩
theorem arr_neq (a0 a1 a2 a3 b0 b1 b2 b3 : Int) (w : World) : (binOp .neq 71 (.agg #[.int .u8 a0, .int .u8 a1, .int .u8 a2, .int .u8 a3]) (.agg #[.int .u8 b0, .int .u8 b1, .int .u8 b2, .int .u8 b3])).run Try.prog w = .ok (.bool (!(a0 == b0 && (a1 == b1 && (a2 == b2 && a3 == b3))))) w := by
  have hm : Op.maxDepth = (Op.maxDepth - 2) + 1 + 1 := by decide
  have e5 : ∀ (x y : Int), (Op.equalIn ((Op.maxDepth - 2) + 1) 5 (.int .u8 x) (.int .u8 y)).run Try.prog w = .ok (x == y) w := by
    intro x y
    simp [Op.equalIn, run_underlying Try.underlying5]
  have z5 := Try.sizeOf5
  simp [binOp, Op.equal]
  rw [hm, Op.equalIn]
  simp [run_underlying Try.underlying71, z5, part]
  have l4 : List.range' 0 4 = [0, 1, 2, 3] := rfl
  have q5 := Try.isAgg5
  rw [l4]
  by_cases h0 : a0 = b0
  · by_cases h1 : a1 = b1
    · by_cases h2 : a2 = b2
      · by_cases h3 : a3 = b3
        · simp [List.forIn_cons, q5, e5, h0, h1, h2, h3]
        · simp [List.forIn_cons, q5, e5, h0, h1, h2, h3]
      · simp [List.forIn_cons, q5, e5, h0, h1, h2]
    · simp [List.forIn_cons, q5, e5, h0, h1]
  · simp [List.forIn_cons, q5, e5, h0]
theorem guard71 : Try.prog.eqGuardType Try.prog.depth 71 = false := by kernel_rfl
theorem arr_guard (o1 o2 : Operand) (xs ys : Array Value) (w : World) : (eqGuard .neq 71 o1 o2 (.agg xs) (.agg ys)).run Try.prog w = .ok () w := by
  simp [eqGuard, guard71]
theorem take4 (b : List Int) (a : Nat) (h : a + 4 ≤ b.length) : (b.drop a).take 4 = [byt b a, byt b (a + 1), byt b (a + 2), byt b (a + 3)] := by
  apply List.ext_getElem
  · rw [List.length_take, List.length_drop]
    show min 4 (b.length - a) = 4
    omega
  · intro i h1 h2
    have hi : i < 4 := h2
    rw [List.getElem_take, List.getElem_drop]
    obtain rfl | rfl | rfl | rfl : i = 0 ∨ i = 1 ∨ i = 2 ∨ i = 3 := by omega
    all_goals simp [byt, List.getD, show a < b.length by omega, show a + 1 < b.length by omega, show a + 2 < b.length by omega, show a + 3 < b.length by omega]
theorem neq_front (b : List Int) (a : Nat) (h : a + 8 ≤ b.length) (n : Int) (s : List Int) :
    ∃ r : Bool, (∀ W : World, (binOp .neq 71 (.agg #[.int .u8 (byt b (a + 4)), .int .u8 (byt b (a + 5)), .int .u8 (byt b (a + 6)), .int .u8 (byt b (a + 7))]) (u8s (lineSum n s))).run Try.prog W = .ok (.bool r) W) ∧ (r = false ↔ (b.drop (a + 4)).take 4 = lineSum n s) := by
  refine ⟨_, fun W => arr_neq _ _ _ _ _ _ _ _ W, ?_⟩
  rw [take4 b (a + 4) (by omega)]
  show _ ↔ [byt b (a + 4), byt b (a + 5), byt b (a + 6), byt b (a + 7)] = low4 _
  simp [low4]
theorem mid_s (A : Option Addr) (len cap : Nat) (b : List Int) (hlen : b.length = len) (hlc : len ≤ cap) (a L : Nat) (h : a + 8 + L ≤ len) :
    ∃ As, (∀ W : World, (Instr.slice 22 (.slice A len cap) (some (.int .i64 ((a : Int) + 8))) (some (.int .i64 ((a : Int) + 8 + (L : Int)))) none).run Try.prog W = .ok (.slice As L (cap - (a + 8))) W) ∧
      ∀ w, ReadsInt w .u8 A len b → ReadsInt w .u8 As L ((b.drop (a + 8)).take L) := by
  obtain ⟨i0, hi, hz0, hz1, hz2⟩ := info_parts info5
  subst hlen
  obtain ⟨As, h1, h2, _⟩ := print_mid_int (P := Try.prog) (k := .u8) 22 5 Try.underlying22 hi hz1 A cap b ((a : Int) + 8) ((a : Int) + 8 + (L : Int)) (by omega) (by omega) (by omega) hlc
  have e1 : ((a : Int) + 8).toNat = a + 8 := by omega
  have e2 : ((a : Int) + 8 + (L : Int)).toNat = a + 8 + L := by omega
  have e3 : ((b.take (a + 8 + L)).drop (a + 8)).length = L := by rw [List.length_drop, List.length_take]; omega
  have e4 : (b.take (a + 8 + L)).drop (a + 8) = (b.drop (a + 8)).take L := by rw [List.drop_take, show a + 8 + L - (a + 8) = L by omega]
  rw [e1, e2, e3] at h1 h2
  rw [e4] at h2
  exact ⟨As, h1, h2⟩
theorem conv_str (w : World) (A : Option Addr) (n c : Nat) (xs : List Int) (h : ReadsInt w .u8 A n xs) : (convert 22 9 (.slice A n c)).run Try.prog w = .ok (.string (strOfNums xs)) w := by
  cases A with
  | none =>
    have h0 : n = 0 := by
      rcases Nat.eq_zero_or_pos n with z | z
      · exact z
      · obtain ⟨ad, e, _⟩ := h.2.2 z
        cases e
    have e0 : xs = [] := List.eq_nil_of_length_eq_zero (by rw [h.1, h0])
    rw [e0]
    exact run_convert_bytes_nil w 22 5 Try.underlying22 Try.underlying5 n c 9 Try.underlying9
  | some a =>
    have hl : (loadCells a n).run Try.prog w = .ok (xs.map (Value.int .u8)).toArray w := by
      have := run_loadCells_list (P := Try.prog) w a (xs.map (Value.int .u8)) (fun j v hj => by
        have hjl : j < xs.length := by
          rcases Nat.lt_or_ge j xs.length with h | h
          · exact h
          · simp [List.getElem?_eq_none (show (xs.map (Value.int .u8)).length ≤ j by simpa using h)] at hj
        obtain ⟨ad, e, hc⟩ := h.2.2 (by have := h.1; omega)
        injection e with e
        subst e
        rw [hc j (by have := h.1; omega)]
        simp [List.getElem?_eq_getElem hjl] at hj
        subst hj
        simp [List.getD, List.getElem?_eq_getElem hjl])
      simpa [h.1] using this
    rw [run_convert_bytes_string w 22 9 5 _ n c Try.underlying22 Try.underlying5 Try.underlying9, run_bytesToString w _ n c xs hl, foldl_push_bytes]
    simp [strOfNums, ByteArray.empty, ByteArray.emptyWithCapacity]
    rfl
theorem headNum_drop (b : List Int) (a : Nat) : headNum (b.drop a) = byt b a * 16777216 + byt b (a + 1) * 65536 + byt b (a + 2) * 256 + byt b (a + 3) := by
  simp [headNum, byt, List.getD, List.getElem?_drop]
theorem front_short (n : Nat) (b : List Int) (a : Nat) (h : b.length < a + 8) : front n (b.drop a) = none := by
  unfold front
  rw [if_neg (by rw [List.length_drop]; omega)]
theorem front_yes (n : Nat) (b : List Int) (a L : Nat) (h8 : a + 8 ≤ b.length) (hL : headNum (b.drop a) = (L : Int)) (h1 : L ≤ 65536) (h2 : L + a + 8 ≤ b.length) (h : (b.drop (a + 4)).take 4 = lineSum n ((b.drop (a + 8)).take L)) :
    front n (b.drop a) = some ((b.drop (a + 8)).take L) := by
  unfold front
  rw [if_pos (by rw [List.length_drop]; omega), hL, if_pos (by rw [List.length_drop]; omega), List.drop_drop, List.drop_drop, Int.toNat_natCast, if_pos h]
theorem front_no (n : Nat) (b : List Int) (a L : Nat) (h8 : a + 8 ≤ b.length) (hL : headNum (b.drop a) = (L : Int)) (h : ¬ (L ≤ 65536 ∧ L + a + 8 ≤ b.length)) : front n (b.drop a) = none := by
  unfold front
  rw [if_pos (by rw [List.length_drop]; omega), hL, if_neg (by rw [List.length_drop]; omega)]
theorem front_ne (n : Nat) (b : List Int) (a L : Nat) (h8 : a + 8 ≤ b.length) (hL : headNum (b.drop a) = (L : Int)) (h1 : L ≤ 65536) (h2 : L + a + 8 ≤ b.length) (h : ¬ (b.drop (a + 4)).take 4 = lineSum n ((b.drop (a + 8)).take L)) :
    front n (b.drop a) = none := by
  unfold front
  rw [if_pos (by rw [List.length_drop]; omega), hL, if_pos (by rw [List.length_drop]; omega), List.drop_drop, List.drop_drop, Int.toNat_natCast, if_neg h]
theorem scanG_none {k n a : Nat} {b : List Int} (h : front n (b.drop a) = none) : scanG k n a b = [] := by
  cases k with
  | zero => rfl
  | succ k => simp only [scanG]; rw [h]
theorem scanG_some {k n a : Nat} {b s : List Int} (h : front n (b.drop a) = some s) : scanG (k + 1) n a b = (s, a + 8 + s.length) :: scanG k (n + 1) (a + 8 + s.length) b := by
  simp only [scanG]; rw [h]
theorem mid_4 (bb off len cap : Nat) (hlc : len ≤ cap) (a : Nat) (h : a + 8 ≤ len) : ∀ W : World, (Instr.slice 22 (.slice (some ⟨bb, off, none⟩) len cap) (some (.int .i64 ((a : Int) + 4))) (some (.int .i64 ((a : Int) + 8))) none).run Try.prog W = .ok (.slice (some ⟨bb, off + (a + 4), none⟩) 4 (cap - (a + 4))) W := by
  intro W
  obtain ⟨i0, hi, hz0, hz1, hz2⟩ := info_parts info5
  have hel : Try.prog.elem 22 = 5 := by simp [Program.elem, Try.underlying22]
  have hu : Try.prog.underlying 22 = some (.slice (Try.prog.elem 22)) := by rw [hel]; exact Try.underlying22
  rw [run_slice_lh W 22 (some ⟨bb, off, none⟩) len cap hu .i64 .i64 ((a : Int) + 4) ((a : Int) + 8) (by omega) (by omega) (by omega), hel]
  have e1 : ((a : Int) + 4).toNat = a + 4 := by omega
  have e2 : ((a : Int) + 8).toNat = a + 8 := by omega
  have e3 : a + 8 - (a + 4) = 4 := by omega
  have e4 : ¬ cap = a + 4 := by omega
  simp [sizeOf, typeInfo, hi, hz1, sliced, Result.andThen, e1, e2, e3, e4, add_at]
/-- what lay below n₀, and the block Bs, lie as they lay -/
structure KB (n₀ Bs : Nat) (A B : World) : Prop where
  below : Below n₀ A B
  box : B.heap[Bs]? = A.heap[Bs]?
theorem KB.refl (n₀ Bs : Nat) (A : World) : KB n₀ Bs A A := ⟨Below.refl _ _, rfl⟩
theorem KB.trans {n₀ Bs : Nat} {A B C : World} (h : KB n₀ Bs A B) (k : KB n₀ Bs B C) : KB n₀ Bs A C := ⟨h.below.trans k.below, k.box.trans h.box⟩
theorem KB.size {n₀ Bs : Nat} {A B : World} (h : KB n₀ Bs A B) : A.heap.size ≤ B.heap.size := h.below.size
theorem KB.cell {n₀ Bs : Nat} {A B : World} (h : KB n₀ Bs A B) {p : Addr} (hp : p.block < n₀) : B.cell? p = A.cell? p := h.below.cell hp
theorem KB.cellB {n₀ Bs : Nat} {A B : World} (h : KB n₀ Bs A B) : B.cell? ⟨Bs, 0, none⟩ = A.cell? ⟨Bs, 0, none⟩ := World.cell?_of_block h.box
theorem KB.of {n₀ Bs : Nat} {A B : World} (h : Below A.heap.size A B) (h1 : n₀ ≤ A.heap.size) (h2 : Bs < A.heap.size) : KB n₀ Bs A B := ⟨h.mono h1, h.block Bs h2⟩
set_option maxRecDepth 100000 in
set_option maxHeartbeats 2000000 in
theorem frames1_in (m : Nat) (hm : 2 ≤ m) (l Bs n₀ bb off len cap : Nat) (b : List Int) (hb0 : ∀ x ∈ b, 0 ≤ x ∧ x ≤ 255) (hlen : b.length = len) (hl8 : 8 ≤ len) (hreach : len ≤ 140737488351232) (hlc : len ≤ cap) (hbb : bb < n₀) (J Jx : List (List Int × Nat) → World → Prop) (hJa : ∀ s W W', J s W → Below W.heap.size W W' → J s W')
    (hY : ∀ pre x W, J pre W → pre.length < (scanG (len + 1) 0 0 b).length → YieldAt Fence.wide (m - 1) Try.prog l #[.string (strOfNums x.1), .int .i64 (x.2 : Int)] W fun e W' =>
      (e = .returned (.bool true) ∧ J (pre ++ [x]) W' ∧ KB n₀ Bs W W') ∨ (e = .returned (.bool false) ∧ Jx (pre ++ [x]) W'))
    (W : World) (hn₀ : n₀ ≤ W.heap.size) (hBs0 : Bs < W.heap.size) (hBs : W.cell? ⟨Bs, 0, none⟩ = some (.slice (some ⟨bb, off, none⟩) len cap)) (hc : ∀ j, j < len → W.cell? ⟨bb, off + j, none⟩ = some (.int .u8 (byt b j))) (h0 : J [] W) :
    CallsIn Fence.wide m Try.prog 47 #[.func (.yield l) #[] #[], .pointer (some ⟨Bs, 0, none⟩)] W fun e W' => (∃ v, e = .returned v) ∧
      ((∃ ys, ys = scanG (len + 1) 0 0 b ∧ J ys W') ∨ (∃ pre, pre <+: scanG (len + 1) 0 0 b ∧ Jx pre W')) := by
  have HC := Lib.hid hc
  have HB := Lib.hid hBs
  have HL := Lib.hid hlen
  have H0 := Lib.hid hb0
  clear hc hBs hlen hb0
  refine callsIn_of_wp Try.func47 rfl trivial ?_ rfl
  simp only [Try.ntmps47, List.size_toArray, List.length_cons, List.length_nil, Nat.reduceAdd, Nat.reduceSub, Array.replicate_succ, Array.replicate_zero, List.push_toArray, List.append_toArray, List.nil_append, List.cons_append]
  have hat : ∀ (w : World) (x : Option Addr) (c : Nat), (Instr.arrayAt 71 (.slice x 4 c)).run Try.prog w = .ok (.pointer x) w := fun w x c => run_arrayAt w 71 _ 4 _ 4 c Try.underlying71 (Nat.le_refl _)
  gi_wp2
  gi_loopw [3, 4] (fun at_ n wr => ∃ (pre rest : List (List Int × Nat)) (k a : Nat), n = .int .i64 (pre.length : Int) ∧ at_ = .int .i64 (a : Int) ∧ a ≤ len ∧ 8 * pre.length ≤ a ∧ scanG (len + 1) 0 0 b = pre ++ rest ∧ rest = scanG k pre.length a b ∧ len < k + a ∧ J pre wr ∧ KB n₀ Bs W wr)
    (fun at_ _ _ => len - (intOf at_).toNat)
  case atStart => exact ⟨[], _, len + 1, 0, rfl, rfl, by omega, by simp, rfl, rfl, by omega, h0, KB.refl _ _ _⟩
  case round =>
    obtain ⟨pre, rest, k, a, rfl, rfl, ha, hp8, hS, hrest, hk, hJ, hbel⟩ := hrel
    have hcb : wr.cell? ⟨Bs, 0, none⟩ = some (.slice (some ⟨bb, off, none⟩) len cap) := hbel.cellB.trans HB.out
    by_cases h8 : a + 8 ≤ len
    · have c0 : wr.cell? ⟨bb, off + a, none⟩ = some (.int .u8 (byt b a)) := (hbel.cell (p := ⟨bb, off + a, none⟩) hbb).trans (HC.out a (by omega))
      have c1 : wr.cell? ⟨bb, off + a + 1, none⟩ = some (.int .u8 (byt b (a + 1))) := (hbel.cell (p := ⟨bb, off + a + 1, none⟩) hbb).trans (HC.out (a + 1) (by omega))
      have c2 : wr.cell? ⟨bb, off + a + 2, none⟩ = some (.int .u8 (byt b (a + 2))) := (hbel.cell (p := ⟨bb, off + a + 2, none⟩) hbb).trans (HC.out (a + 2) (by omega))
      have c3 : wr.cell? ⟨bb, off + a + 3, none⟩ = some (.int .u8 (byt b (a + 3))) := (hbel.cell (p := ⟨bb, off + a + 3, none⟩) hbb).trans (HC.out (a + 3) (by omega))
      have hr0 : ∀ j, 0 ≤ byt b j ∧ byt b j ≤ 255 := fun j => getD_byte H0.out j
      have HR := Lib.hid hr0
      clear hr0
      have hsz : n₀ ≤ wr.heap.size := Nat.le_trans hn₀ hbel.size
      have hBsz : Bs < wr.heap.size := Nat.lt_of_lt_of_le hBs0 hbel.size
      obtain ⟨L, hL⟩ : ∃ L : Nat, byt b a * 16777216 + byt b (a + 1) * 65536 + byt b (a + 2) * 256 + byt b (a + 3) = (L : Int) := by
        have g0 := HR.out a
        have g1 := HR.out (a + 1)
        have g2 := HR.out (a + 2)
        have g3 := HR.out (a + 3)
        exact ⟨(byt b a * 16777216 + byt b (a + 1) * 65536 + byt b (a + 2) * 256 + byt b (a + 3)).toNat, by omega⟩
      have HLn := Lib.hid hL
      clear hL
      by_cases hv : L ≤ 65536 ∧ L + a + 8 ≤ len
      · obtain ⟨hv1, hv2⟩ := hv
        obtain ⟨As, hmid, hmidr⟩ := mid_s (some ⟨bb, off, none⟩) len cap b HL.out hlc a L (by omega)
        have HMR := Lib.hid hmidr
        clear hmidr
        obtain ⟨r, hneq, hrr⟩ := neq_front b a (by rw [HL.out]; omega) (pre.length : Int) ((b.drop (a + 8)).take L)
        have HRR := Lib.hid hrr
        have hgd : ∀ W : World, (eqGuard .neq 71 (.tmp 48) (.tmp 51) (.agg #[.int .u8 (byt b (a + 4)), .int .u8 (byt b (a + 5)), .int .u8 (byt b (a + 6)), .int .u8 (byt b (a + 7))]) (u8s (lineSum (pre.length : Int) ((b.drop (a + 8)).take L)))).run Try.prog W = .ok () W := fun W => arr_guard _ _ _ _ W
        clear hrr
        have hmid4 := mid_4 bb off len cap hlc a h8
        have hd1 : decide (65536 < (L : Int)) = false := by simp; omega
        have hd2 : decide ((len : Int) - (a : Int) - 8 < (L : Int)) = false := by simp; omega
        gi_wp2_with (first | (refine ⟨trivial, fun _ => by omega, ?_⟩; refine (callsIn_wide.2 (number_any _ _ _ _ _ (HR.out a) (HR.out (a + 1)) (HR.out (a + 2)) (HR.out (a + 3)))).mono ?_; rintro e w1 ⟨rfl, hb1⟩; rw [HLn.out]; have hB1 := Lib.hid (KB.of hb1 hsz hBsz); have hJ1 := hJa _ _ _ hJ hb1; have hcb1 : w1.cell? ⟨Bs, 0, none⟩ = some (.slice (some ⟨bb, off, none⟩) len cap) := hB1.out.cellB.trans hcb; have hz1 : wr.heap.size ≤ w1.heap.size := hb1.size; clear hb1))
        have hBW : KB n₀ Bs W w1 := hbel.trans hB1.out
        have c4 : w1.cell? ⟨bb, off + (a + 4), none⟩ = some (.int .u8 (byt b (a + 4))) := (hBW.cell (p := ⟨bb, off + (a + 4), none⟩) hbb).trans (HC.out (a + 4) (by omega))
        have c5 : w1.cell? ⟨bb, off + (a + 4) + 1, none⟩ = some (.int .u8 (byt b (a + 5))) := (hBW.cell (p := ⟨bb, off + (a + 4) + 1, none⟩) hbb).trans (HC.out (a + 5) (by omega))
        have c6 : w1.cell? ⟨bb, off + (a + 4) + 2, none⟩ = some (.int .u8 (byt b (a + 6))) := (hBW.cell (p := ⟨bb, off + (a + 4) + 2, none⟩) hbb).trans (HC.out (a + 6) (by omega))
        have c7 : w1.cell? ⟨bb, off + (a + 4) + 3, none⟩ = some (.int .u8 (byt b (a + 7))) := (hBW.cell (p := ⟨bb, off + (a + 4) + 3, none⟩) hbb).trans (HC.out (a + 7) (by omega))
        have Rs : Hid (ReadsInt w1 .u8 As L ((b.drop (a + 8)).take L)) := by
          refine HMR.out _ ⟨HL.out, by omega, fun _ => ⟨_, rfl, fun j hj => ?_⟩⟩
          rw [add_at]
          exact (hBW.cell (p := ⟨bb, off + j, none⟩) hbb).trans (HC.out j hj)
        have HBW := Lib.hid hBW
        clear hBW
        have mx : Try.prog.follows .mixedOrders = true := by kernel_rfl
        have Rd : Hid (ReadsInt w1.drew .u8 As L ((b.drop (a + 8)).take L)) := Rs
        have hp0 : Hid (0 ≤ (pre.length : Int)) := by show (0 : Int) ≤ _; omega
        have hp1 : Hid ((pre.length : Int) ≤ 9223372036854775807) := by show _ ≤ (9223372036854775807 : Int); omega
        have hL9 : Hid (L ≤ 140737488355320) := by show _ ≤ 140737488355320; omega
        have hN : Hid (n₀ ≤ w1.heap.size) := Nat.le_trans hsz hz1
        have hNB : Hid (Bs < w1.heap.size) := Nat.lt_of_lt_of_le hBsz hz1
        have h1m : Hid (1 ≤ m) := by show 1 ≤ m; omega
        have hw4 : IntKind.i64.wrap ((a : Int) + 4) = (a : Int) + 4 := IntWalk.i64_in _ (by omega)
        have hw8 : IntKind.i64.wrap ((a : Int) + 8) = (a : Int) + 8 := IntWalk.i64_in _ (by omega)
        gi_region_with_o (refine ⟨trivial, fun _ => h1m.out, ?_⟩; refine (callsIn_wide.2 (sum_any (pre.length : Int) As L _ ((b.drop (a + 8)).take L) _ hp0.out hp1.out Rd.out.1 hL9.out Rd.out)).mono ?_; rintro e w2 ⟨rfl, hb2q⟩; have hb2 : Below w1.heap.size w1 w2 := ((Below.refl _ w1).drew).trans hb2q; clear hb2q; have B2 : Hid (KB n₀ Bs w1 w2) := KB.of hb2 hN.out hNB.out; have k4 : w2.cell? ⟨bb, off + (a + 4), none⟩ = some (.int .u8 (byt b (a + 4))) := (B2.out.cell (p := ⟨bb, off + (a + 4), none⟩) hbb).trans c4; have k5 : w2.cell? ⟨bb, off + (a + 4) + 1, none⟩ = some (.int .u8 (byt b (a + 5))) := (B2.out.cell (p := ⟨bb, off + (a + 4) + 1, none⟩) hbb).trans c5; have k6 : w2.cell? ⟨bb, off + (a + 4) + 2, none⟩ = some (.int .u8 (byt b (a + 6))) := (B2.out.cell (p := ⟨bb, off + (a + 4) + 2, none⟩) hbb).trans c6; have k7 : w2.cell? ⟨bb, off + (a + 4) + 3, none⟩ = some (.int .u8 (byt b (a + 7))) := (B2.out.cell (p := ⟨bb, off + (a + 4) + 3, none⟩) hbb).trans c7; have kb : w2.cell? ⟨Bs, 0, none⟩ = some (.slice (some ⟨bb, off, none⟩) len cap) := B2.out.cellB.trans hcb1; have hJ2 := hJa _ _ _ hJ1 hb2; have hz2 : w1.heap.size ≤ w2.heap.size := hb2.size; clear hb2)
        all_goals
          clear hw4 hw8 c0 c1 c2 c3 c4 c5 c6 c7 k4 k5 k6 k7 hgd hneq hmid hmid4
          have hcv : (convert 22 9 (.slice As L (cap - (a + 8)))).run Try.prog w2 = .ok (.string (strOfNums ((b.drop (a + 8)).take L))) w2 := conv_str _ _ _ _ _ (HMR.out w2 ⟨HL.out, by omega, fun _ => ⟨_, rfl, fun j hj => by rw [add_at]; exact ((HBW.out.trans B2.out).cell (p := ⟨bb, off + j, none⟩) hbb).trans (HC.out j hj)⟩⟩)
          have hhn : Hid (headNum (b.drop a) = (L : Int)) := (headNum_drop b a).trans HLn.out
          cases r with
          | true =>
            gi_wp2
            refine bodyPost_ret (results_none rfl _ _ _) rfl ?_
            refine ⟨⟨_, rfl⟩, .inl ⟨pre, ?_, hJ2⟩⟩
            rw [hS, hrest, scanG_none (front_ne _ b a L (by rw [HL.out]; exact h8) hhn.out hv1 (by rw [HL.out]; exact hv2) (fun e => by have := HRR.out.2 e; cases this)), List.append_nil]
          | false =>
            have hsl : Hid (((b.drop (a + 8)).take L).length = L) := Rs.out.1
            have hfy : Hid (front pre.length (b.drop a) = some ((b.drop (a + 8)).take L)) := front_yes _ b a L (by rw [HL.out]; exact h8) hhn.out hv1 (by rw [HL.out]; exact hv2) (HRR.out.1 rfl)
            obtain ⟨k', rfl⟩ : ∃ k', k = k' + 1 := ⟨k - 1, by omega⟩
            have hr1 : Hid (rest = ((b.drop (a + 8)).take L, a + 8 + L) :: scanG k' (pre.length + 1) (a + 8 + L) b) := by
              show _ = _
              rw [hrest, scanG_some hfy.out, hsl.out]
            have hlt : Hid (pre.length < (scanG (len + 1) 0 0 b).length) := by show _ < _; rw [hS, hr1.out]; simp
            obtain ⟨fn, tmps, assign, body, hy, hR⟩ := hY pre ((b.drop (a + 8)).take L, a + 8 + L) w2 hJ2 hlt.out
            dsimp only at hy
            have hcast : ((a + 8 + L : Nat) : Int) = (a : Int) + (8 + (L : Int)) := by omega
            rw [hcast] at hy
            have HSS := Lib.hid hS
            clear hcast hS hrest
            gi_wp2
            refine ⟨fun _ => h1m.out, hR.mono ?_⟩
            rintro e W3 (⟨rfl, hJ3, hk3⟩ | ⟨rfl, hJx3⟩)
            · gi_wp2
              go_roundw
              case rel => exact ⟨pre ++ [((b.drop (a + 8)).take L, a + 8 + L)], scanG k' (pre.length + 1) (a + 8 + L) b, k', a + 8 + L, by simp, congrArg (Value.int .i64) (by omega), by omega, by rw [List.length_append, List.length_singleton]; omega, by rw [HSS.out, hr1.out, List.append_assoc]; rfl, by rw [List.length_append, List.length_singleton], by omega, hJ3, ((HBW.out.trans B2.out)).trans hk3⟩
              case measure => simp [intOf]; omega
            · gi_wp2
              refine bodyPost_ret (results_none rfl _ _ _) rfl ?_
              exact ⟨⟨_, rfl⟩, .inr ⟨pre ++ [((b.drop (a + 8)).take L, a + 8 + L)], ⟨scanG k' (pre.length + 1) (a + 8 + L) b, by rw [HSS.out, hr1.out]; simp⟩, hJx3⟩⟩
      · have hfn : Hid (scanG k pre.length a b = []) := scanG_none (front_no _ b a L (by rw [HL.out]; exact h8) ((headNum_drop b a).trans HLn.out) (by rw [HL.out]; exact hv))
        by_cases hv1 : L ≤ 65536
        · have hv2 : ¬ (L + a + 8 ≤ len) := fun h => hv ⟨hv1, h⟩
          have hd1 : decide (65536 < (L : Int)) = false := by simp; omega
          have hd2 : decide ((len : Int) - (a : Int) - 8 < (L : Int)) = true := by simp; omega
          clear hv
          gi_wp2_with (first | (refine ⟨trivial, fun _ => by omega, ?_⟩; refine (callsIn_wide.2 (number_any _ _ _ _ _ (HR.out a) (HR.out (a + 1)) (HR.out (a + 2)) (HR.out (a + 3)))).mono ?_; rintro e w1 ⟨rfl, hb1⟩; rw [HLn.out]; have hB1 := Lib.hid (KB.of hb1 hsz hBsz); have hJ1 := hJa _ _ _ hJ hb1; have hcb1 : w1.cell? ⟨Bs, 0, none⟩ = some (.slice (some ⟨bb, off, none⟩) len cap) := hB1.out.cellB.trans hcb; have hz1 : wr.heap.size ≤ w1.heap.size := hb1.size; clear hb1))
          refine bodyPost_ret (results_none rfl _ _ _) rfl ?_
          refine ⟨⟨_, rfl⟩, .inl ⟨pre, ?_, hJ1⟩⟩
          rw [hS, hrest, hfn.out, List.append_nil]
        · have hd1 : decide (65536 < (L : Int)) = true := by simp; omega
          clear hv
          gi_wp2_with (first | (refine ⟨trivial, fun _ => by omega, ?_⟩; refine (callsIn_wide.2 (number_any _ _ _ _ _ (HR.out a) (HR.out (a + 1)) (HR.out (a + 2)) (HR.out (a + 3)))).mono ?_; rintro e w1 ⟨rfl, hb1⟩; rw [HLn.out]; have hB1 := Lib.hid (KB.of hb1 hsz hBsz); have hJ1 := hJa _ _ _ hJ hb1; have hcb1 : w1.cell? ⟨Bs, 0, none⟩ = some (.slice (some ⟨bb, off, none⟩) len cap) := hB1.out.cellB.trans hcb; have hz1 : wr.heap.size ≤ w1.heap.size := hb1.size; clear hb1))
          refine bodyPost_ret (results_none rfl _ _ _) rfl ?_
          refine ⟨⟨_, rfl⟩, .inl ⟨pre, ?_, hJ1⟩⟩
          rw [hS, hrest, hfn.out, List.append_nil]
    · gi_wp2
      go_end0
      refine ⟨⟨_, rfl⟩, .inl ⟨pre, ?_, hJ⟩⟩
      rw [hS, hrest, scanG_none (front_short _ b a (by rw [HL.out]; omega)), List.append_nil]
end Go.Proofs.Ytoegeljjfhbpeaa.J
namespace Go.Proofs.Ytoegeljjfhbpeaa.J
open Go.RowKit Go.Proofs.YtoegeljjfhbpeaaW.PrintWords Go.Proofs.YtoegeljjfhbpeaaW.PrintLast Go.Proofs.YtoegeljjfhbpeaaW.PrintMore Go.Shelf
attribute [local go_sem] Oper.semAt_some

theorem spot {w : World} {a : Addr} {v : Value} (h : w.cell? a = some v) : ∃ b off, a = ⟨b, off, none⟩ := by
  obtain ⟨b, off, s⟩ := a
  cases s with
  | none => exact ⟨b, off, rfl⟩
  | some s =>
    exfalso
    simp [World.cell?] at h
    split at h <;> exact absurd h (by simp)
def scanL (b : List Int) : List (List Int × Nat) := scanG (b.length + 1) 0 0 b
def endOf (l : List (List Int × Nat)) : Nat := match l.getLast? with | none => 0 | some x => x.2
def lineV (x : List Int × Nat) : Value := .string (strOfNums x.1)
def frEnc (x : List Int × Nat) : Array Value := #[.string (strOfNums x.1), .int .i64 (x.2 : Int)]

theorem endOf_snoc (l : List (List Int × Nat)) (x : List Int × Nat) : endOf (l ++ [x]) = x.2 := by unfold endOf; simp
theorem frames_in (m : Nat) (A : Option Addr) (len cap : Nat) (w : World) :
    CallsIn Fence.wide m Try.prog 40 #[.slice A len cap] w fun e w' => e = .returned (.func (.func 47) #[] #[.pointer (some ⟨w.heap.size, 0, none⟩)]) ∧ w' = w.alloc (.cells #[.slice A len cap] 22) := by
  refine callsIn_of_wp Try.func40 rfl trivial ?_ rfl
  simp only [Try.ntmps40, List.size_toArray, List.length_cons, List.length_nil, Nat.reduceAdd, Nat.reduceSub, Array.replicate_succ, Array.replicate_zero, List.push_toArray, List.append_toArray, List.nil_append, List.cons_append]
  gi_wp2
  go_ret
  exact ⟨rfl, rfl⟩
set_option maxRecDepth 100000 in
theorem frames1_short (m : Nat) (l Bs len cap : Nat) (A : Option Addr) (h8 : len < 8) (J : List (List Int × Nat) → World → Prop) (W : World) (hBs : W.cell? ⟨Bs, 0, none⟩ = some (.slice A len cap)) (h0 : J [] W) :
    CallsIn Fence.wide m Try.prog 47 #[.func (.yield l) #[] #[], .pointer (some ⟨Bs, 0, none⟩)] W fun e W' => (∃ v, e = .returned v) ∧ J [] W' := by
  refine callsIn_of_wp Try.func47 rfl trivial ?_ rfl
  simp only [Try.ntmps47, List.size_toArray, List.length_cons, List.length_nil, Nat.reduceAdd, Nat.reduceSub, Array.replicate_succ, Array.replicate_zero, List.push_toArray, List.append_toArray, List.nil_append, List.cons_append]
  gi_wp2
  gi_loopw [3, 4] (fun at_ n wr => n = .int .i64 0 ∧ at_ = .int .i64 0 ∧ wr = W) (fun at_ _ _ => 0)
  case atStart => exact ⟨rfl, rfl, rfl⟩
  case round =>
    obtain ⟨rfl, rfl, rfl⟩ := hrel
    gi_wp2
    go_end0
    exact ⟨⟨_, rfl⟩, h0⟩
theorem frames_stops (m : Nat) (hm : 2 ≤ m) (Bs n₀ len cap : Nat) (A : Option Addr) (b : List Int) (w : World) (hb0 : ∀ x ∈ b, 0 ≤ x ∧ x ≤ 255) (hR : ReadsInt w .u8 A len b) (hlc : len ≤ cap) (hreach : len ≤ 140737488351232) (hn₀ : n₀ ≤ w.heap.size) (hBs : Bs < w.heap.size)
    (hA : ∀ a, A = some a → 0 < len → a.block < n₀) (hc : w.cell? ⟨Bs, 0, none⟩ = some (.slice A len cap)) :
    SeqStopsK Fence.wide m Try.prog 47 #[.pointer (some ⟨Bs, 0, none⟩)] frEnc (KB n₀ Bs) (fun ys => ys = scanL b) (fun pre => pre <+: scanL b) (scanL b).length w := fun l J Jx W hW hJ _ hY h0 => by
  have hc' := (hW.cell (p := ⟨Bs, 0, none⟩) hBs).trans hc
  have hlen := hR.1
  rcases Nat.lt_or_ge len 8 with h8 | h8
  · have hs : scanL b = [] := scanG_none (front_short 0 b 0 (by omega))
    rw [hs]
    exact (frames1_short m l Bs len cap A h8 J W hc' h0).mono fun e W' ⟨he, hj⟩ => ⟨he, .inl ⟨_, rfl, hj⟩⟩
  · obtain ⟨ad, rfl, hcell⟩ := hR.2.2 (by omega)
    have hblk := hA ad rfl (by omega)
    have hc0 := hcell 0 (by omega)
    obtain ⟨bb, off, e⟩ := spot hc0
    obtain ⟨bb', off', s'⟩ := ad
    have : s' = none := by
      cases s' with
      | none => rfl
      | some s => simp [Addr.add] at e
    subst this
    subst hlen
    refine frames1_in m hm l Bs n₀ bb' off' b.length cap b hb0 rfl h8 hreach hlc hblk J Jx (fun s W1 W2 hs hb => hJ s W1 W2 none hs ⟨hb.os, hb.tape, hb.output, hb.size, fun k hk _ => hb.block k hk⟩ (fun r e => by cases e)) hY W (Nat.le_trans hn₀ hW.size) (Nat.lt_of_lt_of_le hBs hW.size) hc' (fun j hj => ?_) h0
    rw [← add_at]
    exact (hW.cell (World.block_lt_of_cell? w _ (hcell j hj))).trans (hcell j hj)

theorem info9 : (Try.prog.info? 9).map (fun i => (i.zero, i.size, i.bytes)) = some (some (.string ByteArray.empty), 1, 16) := by kernel_rfl
theorem scanG_len : ∀ (k n a : Nat) (b : List Int), a ≤ b.length → 8 * (scanG k n a b).length + a ≤ b.length
  | 0, _, a, b, h => by simpa [scanG] using h
  | k + 1, n, a, b, h => by
    cases hf : front n (b.drop a) with
    | none => rw [scanG_none hf]; simpa using h
    | some s =>
      rw [scanG_some hf]
      have hb : a + 8 + s.length ≤ b.length := by
        unfold front at hf
        split at hf
        · split at hf
          · split at hf
            · injection hf with hf
              rename_i h1 h2 h3
              subst hf
              rw [List.length_take, List.length_drop, List.length_drop]
              rw [List.length_drop] at h1 h2
              omega
            · cases hf
          · cases hf
        · cases hf
      have := scanG_len k (n + 1) (a + 8 + s.length) b hb
      rw [List.length_cons]
      omega
theorem scanL_len (b : List Int) : 8 * (scanL b).length ≤ b.length := by
  have := scanG_len (b.length + 1) 0 0 b (Nat.zero_le _)
  unfold scanL
  omega
set_option maxRecDepth 100000 in
set_option maxHeartbeats 2000000 in
theorem scan_any (A : Option Addr) (len cap : Nat) (b : List Int) (w : World) (hb0 : ∀ x ∈ b, 0 ≤ x ∧ x ≤ 255) (hR : ReadsInt w .u8 A len b) (hlc : len ≤ cap) (hreach : len ≤ 70368744177664) :
    Calls Try.prog 15 #[.slice A len cap] w fun e w' => ∃ v, e = .returned (.tuple #[v, .int .i64 (endOf (scanL b) : Int)]) ∧ w'.ownsRow w.heap.size 9 1 v (scanL b).length ((scanL b).map lineV) ∧ Below w.heap.size w w' := by
  obtain ⟨i0, hi, hz0, hz1, hz2⟩ := info_parts info9
  have HR := Lib.hid hR
  have H0 := Lib.hid hb0
  clear hR hb0
  refine (callsIn_wide (n := 6)).1 ?_
  refine callsIn_of_wp_marks Try.func15 rfl trivial ?_ rfl
  simp only [Try.ntmps15, List.size_toArray, List.length_cons, List.length_nil, Nat.reduceAdd, Nat.reduceSub, Array.replicate_succ, Array.replicate_zero, List.push_toArray, List.append_toArray, List.nil_append, List.cons_append]
  gi_wp2_with (refine ⟨trivial, ?_⟩; refine (frames_in _ _ _ _ _).mono ?_; rintro e w' ⟨rfl, rfl⟩)
  have bO := Boxed.new w 32 (.slice none 0 0)
  have bE := Boxed.new (w.alloc (.cells #[.slice none 0 0] 32)) 3 (.int .i64 0)
  have bN := Boxed.new ((w.alloc (.cells #[.slice none 0 0] 32)).alloc (.cells #[.int .i64 0] 3)) 22 (.slice A len cap)
  rw [World.size_alloc] at bE
  rw [World.size_alloc, World.size_alloc] at bN
  have hB0 : Below w.heap.size w (((w.alloc (.cells #[.slice none 0 0] 32)).alloc (.cells #[.int .i64 0] 3)).alloc (.cells #[.slice A len cap] 22)) := (((Below.refl _ w).alloc (Nat.le_refl _) _).alloc (by simp) _).alloc (by simp; omega) _
  have hAb : ∀ a, A = some a → 0 < len → a.block < w.heap.size := by
    rintro a rfl hp
    obtain ⟨ad, e, hc⟩ := HR.out.2.2 hp
    injection e with e
    subst e
    have h := World.block_lt_of_cell? w _ (hc 0 hp)
    simpa [Addr.add] using h
  have hcnt : ∀ pre : List (List Int × Nat), pre.length < (scanL b).length → (pre.length + 1) * 16 ≤ 140737488355328 := fun pre h => by
    have := scanL_len b
    have := HR.out.1
    omega
  refine wpIn_rangeFunc_ownG rfl (by omega) (gf := 47) (lb := #[.pointer (some ⟨w.heap.size + 1 + 1, 0, none⟩)]) rfl trivial (enters_of Try.func47 (by kernel_rfl) rfl)
    (frames_stops (6 - 1) (by omega) (w.heap.size + 1 + 1) w.heap.size len cap A b _ H0.out (HR.out.below hB0) hlc (by omega) (by simp; omega) (by simp) hAb bN.cell)
    KB.trans (fun W l o o' hl hW hc hk => ?_) (Below.refl _ _) (fun _ => rfl)
    (fun pre W => (∃ v, Boxed W w.heap.size 32 v ∧ W.ownsRow w.heap.size 9 1 v pre.length (pre.map lineV) ∧ True) ∧ Boxed W (w.heap.size + 1) 3 (.int .i64 (endOf pre : Int)) ∧ Boxed W (w.heap.size + 1 + 1) 22 (.slice A len cap) ∧ Below w.heap.size w W)
    (fun _ _ _ => False)
    (OwnFrom.and (Own.from (holdsRow_own w.heap.size w.heap.size 32 9 1 (fun pre : List (List Int × Nat) => pre.length) (fun pre => pre.map lineV) (fun pre v => True)) _) (OwnFrom.and (Own.from (boxed_own (w.heap.size + 1) 3 (fun pre : List (List Int × Nat) => .int .i64 (endOf pre : Int))) _) (OwnFrom.and (Own.from (boxed_own (w.heap.size + 1 + 1) 22 (fun pre : List (List Int × Nat) => .slice A len cap)) _) (ownFrom_below (Nat.le_refl _) (by simp; omega)))))
    (fun _ _ _ _ _ hs _ _ => hs)
    ⟨⟨_, (bO.alloc _).alloc _, World.ownsRow_nil _ _ _ _, trivial⟩, bE.alloc _, bN, hB0⟩
    (fun x => { tmps := #[.slice A len cap, undef, .slice none 0 0, .int .i64 0, .pointer (some ⟨w.heap.size, 0, none⟩), .pointer (some ⟨w.heap.size + 1, 0, none⟩), .string (strOfNums x.1), .int .i64 (x.2 : Int), .slice A len cap, .func (.func 47) #[] #[.pointer (some ⟨w.heap.size + 1 + 1, 0, none⟩)], .string (strOfNums x.1), .int .i64 (x.2 : Int), undef, undef, undef, undef, undef, undef, undef], defers := [] }) ?assign ?body ?done ?stop
  · have hne : w.heap.size + 1 + 1 ≠ l := by simp at hl; omega
    exact ⟨belowK_b (w := w) (Nat.le_refl _) W l o o' (by simp at hl; omega) hW hc hk, World.putObj_heap_other hne⟩
  case assign =>
    intro l x W K hK
    unfold frEnc
    gi_wp2
    exact hK
  case body =>
    rintro l pre x W ⟨⟨v, hv, hrow, _⟩, he, hbx, hB⟩ hlt
    have hc := hv.cell
    have hcn := hcnt pre hlt
    have hpl : pre.length + 1 ≤ maxLen := by unfold maxLen; omega
    have hlx := Lib.hid hlt
    clear hlt
    gi_wp2_with (gi_at_builtin; refine wpListIn_append_own _ rfl _ _ 32 rfl w.heap.size 9 i0 (.string ByteArray.empty) 1 16 Try.underlying32 hi hz0 hz1 hz2 rfl (by decide) _ _ _ rfl (hrow.alloc _) ⟨W.heap.size, 0, none⟩ 1 1 [.string (strOfNums x.1)] rfl rfl (cell_one_new _ _ _) (by simp [Value.oneCell']) (by omega) (by omega) (by have := hB.size; simp; omega) ?_; intro v' w1 hown' hgrow _; obtain ⟨g', cap', rfl⟩ := ownsRow_succ hown'; obtain ⟨hv1, hv2, hr2, hk2, hb2⟩ := hv.appended (by decide) hrow hB.size (Nat.le_refl _) hown' hgrow; have hc1 := hv1.cell; have hf1 := hv1.frozen; have he1 := (he.alloc (.cells #[.string (strOfNums x.1)] 9)).kept hgrow (he.not_row (by decide) hrow); have hbx1 := (hbx.alloc (.cells #[.string (strOfNums x.1)] 9)).kept hgrow (hbx.not_row (by decide) hrow); have hce := he1.cell; have hfe := he1.frozen)
    have he2 := he1.other (B' := w.heap.size) (by omega) (.slice (some ⟨g', 0, none⟩) (pre.length + 1) cap')
    have hbx2 := hbx1.other (B' := w.heap.size) (by omega) (.slice (some ⟨g', 0, none⟩) (pre.length + 1) cap')
    refine ⟨(hk2.trans (KeepsOthers.setCell _ _ _)).from _, ⟨hb2.setCell (p := ⟨w.heap.size + 1, 0, none⟩) (by show w.heap.size ≤ w.heap.size + 1; omega) _, ?_⟩, ⟨⟨_, hv2.other (by omega) _, ?_, trivial⟩, ?_, hbx2.other (by omega) _, ?_⟩⟩
    · exact ((hbx2.other (B' := w.heap.size + 1) (by omega) (.int .i64 (x.2 : Int))).trans hbx.symm)
    · rw [List.length_append, List.map_append]
      exact ownsRow_setCell_other (by simpa [lineV] using hr2) (fun e => (he2.not_row (by decide) hr2) e.symm) _
    · rw [endOf_snoc]
      exact he2.set _
    · exact hB.trans (hb2.setCell (p := ⟨w.heap.size + 1, 0, none⟩) (by show w.heap.size ≤ w.heap.size + 1; omega) _)
  case done =>
    rintro D ys W hD rfl ⟨⟨v, hv, hrow, _⟩, he, hbx, hB⟩ hK
    have hc := hv.cell
    have hce := he.cell
    gi_wp2
    gi_quiet (fail)
    rename_i nq
    gi_wp2
    refine ⟨by simp, .inl ⟨_, _, rfl, run_takeDeferred hK, ?_⟩⟩
    refine ⟨_, results_tmp2 rfl _ _ _, v, rfl, ownsRow_putObj hrow _ hK rfl, (pw_below_drewN hB nq).trans (belowK_b (w := w) (Nat.le_refl _) (W.drewN nq) D _ _ (by simp at hD; omega) hK rfl rfl)⟩
  case stop =>
    rintro D c pre W _ _ h _
    exact h.elim
end Go.Proofs.Ytoegeljjfhbpeaa.J
namespace Go.Proofs.Ytoegeljjfhbpeaa.J
open Go.RowKit Go.Proofs.YtoegeljjfhbpeaaW.PrintWords Go.Proofs.YtoegeljjfhbpeaaW.PrintLast Go.Proofs.YtoegeljjfhbpeaaW.PrintMore

def Bytes (l : List Int) : Prop := ∀ x ∈ l, 0 ≤ x ∧ x ≤ 255
theorem Bytes.append {l m : List Int} (h : Bytes l) (k : Bytes m) : Bytes (l ++ m) := fun x hx => (List.mem_append.1 hx).elim (h x) (k x)
theorem Bytes.drop {l : List Int} (h : Bytes l) (n : Nat) : Bytes (l.drop n) := fun x hx => h x (List.mem_of_mem_drop hx)
theorem Bytes.take {l : List Int} (h : Bytes l) (n : Nat) : Bytes (l.take n) := fun x hx => h x (List.mem_of_mem_take hx)
theorem four_bytes (n : Int) : Bytes (four n) := by
  intro x hx
  simp only [four, List.mem_cons, List.not_mem_nil, or_false] at hx
  rcases hx with rfl | rfl | rfl | rfl <;> omega
theorem low4_bytes (n : Int) (h0 : 0 ≤ n) (h1 : n ≤ 4294967295) : Bytes (low4 n) := by
  intro x hx
  simp only [low4, List.mem_cons, List.not_mem_nil, or_false] at hx
  rcases hx with rfl | rfl | rfl | rfl <;> omega
theorem lineSum_bytes (n : Int) (s : List Int) : Bytes (lineSum n s) := low4_bytes _ (sumOf_range _).1 (sumOf_range _).2
theorem frameL_bytes (n : Int) {s : List Int} (h : Bytes s) : Bytes (frameL n s) := ((four_bytes _).append (lineSum_bytes _ _)).append h
theorem bytesOf_bytes (s : ByteArray) : Bytes (bytesOf s) := by
  intro x hx
  obtain ⟨b, _, rfl⟩ := List.mem_map.1 hx
  have := b.toNat_lt
  omega
theorem bytesOf_str {l : List Int} (h : Bytes l) : bytesOf (strOfNums l) = l := by
  unfold bytesOf
  rw [strOfNums_data, List.map_map]
  conv => rhs; rw [← List.map_id l]
  apply List.map_congr_left
  intro x hx
  have := h x hx
  simp [UInt8.toNat_ofNat]
  omega
theorem strOfNums_inj {l m : List Int} (h : Bytes l) (k : Bytes m) (e : strOfNums l = strOfNums m) : l = m := by rw [← bytesOf_str h, ← bytesOf_str k, e]
theorem str_bytesOf (s : ByteArray) : strOfNums (bytesOf s) = s := by
  unfold strOfNums bytesOf
  rw [List.map_map]
  have e : ((fun n : Int => UInt8.ofNat n.toNat) ∘ fun b : UInt8 => (b.toNat : Int)) = id := by
    funext b
    simp
  rw [e, List.map_id]

theorem own_sl {w : World} {base : Nat} {v : Value} {n : Nat} {xs : List Value} (h : w.ownsRow base 9 1 v n xs) : ∃ A c, v = .slice A n c ∧ n ≤ c := by
  obtain ⟨A, c, rfl⟩ := own_slice h
  exact ⟨A, c, rfl, own_le h⟩
theorem num_wrap {x y z u : Int} (hx : 0 ≤ x ∧ x ≤ 255) (hy : 0 ≤ y ∧ y ≤ 255) (hz : 0 ≤ z ∧ z ≤ 255) (hu : 0 ≤ u ∧ u ≤ 255) :
    wrap64 (wrap64 (wrap64 (wrap64 (wrap64 x * 16777216) + wrap64 (wrap64 y * 65536)) + wrap64 (wrap64 z * 256)) + wrap64 u) = x * 16777216 + y * 65536 + z * 256 + u := by
  have e : ∀ n : Int, 0 ≤ n → n ≤ 9223372036854775807 → wrap64 n = n := fun n h0 h1 => by unfold wrap64; omega
  rw [e x (by omega) (by omega), e y (by omega) (by omega), e z (by omega) (by omega), e u (by omega) (by omega), e (x * 16777216) (by omega) (by omega), e (y * 65536) (by omega) (by omega), e (z * 256) (by omega) (by omega), e (x * 16777216 + y * 65536) (by omega) (by omega), e (x * 16777216 + y * 65536 + z * 256) (by omega) (by omega), e (x * 16777216 + y * 65536 + z * 256 + u) (by omega) (by omega)]
theorem mid_g (A : Option Addr) (len cap : Nat) (b : List Int) (hlen : b.length = len) (hlc : len ≤ cap) (xi yi : Int) (x y : Nat) (hx : xi = x) (hy : yi = y) (hxy : x ≤ y) (hyl : y ≤ len) :
    ∃ As, (∀ W : World, (Instr.slice 22 (.slice A len cap) (some (.int .i64 xi)) (some (.int .i64 yi)) none).run Try.prog W = .ok (.slice As (y - x) (cap - x)) W) ∧
      ∀ w, ReadsInt w .u8 A len b → ReadsInt w .u8 As (y - x) ((b.drop x).take (y - x)) := by
  obtain ⟨i0, hi, hz0, hz1, hz2⟩ := info_parts info5
  subst hlen hx hy
  obtain ⟨As, h1, h2, _⟩ := print_mid_int (P := Try.prog) (k := .u8) 22 5 Try.underlying22 hi hz1 A cap b (x : Int) (y : Int) (by omega) (by omega) (by omega) hlc
  have e1 : ((x : Int)).toNat = x := by omega
  have e2 : ((y : Int)).toNat = y := by omega
  have e3 : ((b.take y).drop x).length = y - x := by rw [List.length_drop, List.length_take]; omega
  have e4 : (b.take y).drop x = (b.drop x).take (y - x) := by rw [List.drop_take]
  rw [e1, e2, e3] at h1 h2
  rw [e4] at h2
  exact ⟨As, h1, h2⟩
theorem take8 (b : List Int) (a L : Nat) (h : a + 8 + L ≤ b.length) : (b.drop a).take (8 + L) = (b.drop a).take 4 ++ (b.drop (a + 4)).take 4 ++ (b.drop (a + 8)).take L := by
  rw [show 8 + L = 4 + (4 + L) by omega, List.take_add, List.drop_drop, List.take_add, List.drop_drop, List.append_assoc]
theorem four_head (b : List Int) (hb : Bytes b) (a L : Nat) (h : a + 4 ≤ b.length) (hL : headNum (b.drop a) = (L : Int)) : four (L : Int) = (b.drop a).take 4 := by
  rw [headNum_drop] at hL
  rw [take4 b a h]
  have g0 := getD_byte hb a
  have g1 := getD_byte hb (a + 1)
  have g2 := getD_byte hb (a + 2)
  have g3 := getD_byte hb (a + 3)
  unfold four
  rw [← hL]
  congr 1
  · omega
  · congr 1
    · omega
    · congr 1
      · omega
      · congr 1
        omega
theorem frame_eq (n : Int) (b : List Int) (hb : Bytes b) (a L : Nat) (h : a + 8 + L ≤ b.length) (hL : headNum (b.drop a) = (L : Int)) :
    frameL n ((b.drop (a + 8)).take L) = (b.drop a).take (8 + L) ↔ (b.drop (a + 4)).take 4 = lineSum n ((b.drop (a + 8)).take L) := by
  have hl : ((b.drop (a + 8)).take L).length = L := by rw [List.length_take, List.length_drop]; omega
  rw [take8 b a L h]
  unfold frameL
  rw [hl, four_head b hb a L (by omega) hL]
  constructor
  · intro e
    have e1 := List.append_cancel_right e
    exact (List.append_cancel_left e1).symm
  · intro e
    rw [e]
theorem str_eq {l m : List Int} (h : l = m) : ((strOfNums l).toList == (strOfNums m).toList) = true ∧ ((strOfNums l).toList != (strOfNums m).toList) = false := by
  subst h
  exact ⟨beq_self_eq_true _, bne_self_eq_false _⟩
theorem toList_inj {x y : ByteArray} (h : x.toList = y.toList) : x = y := by
  rw [ByteArray.toList_eq, ByteArray.toList_eq] at h
  obtain ⟨⟨x⟩⟩ := x
  obtain ⟨⟨y⟩⟩ := y
  simp at h
  rw [h]
theorem str_ne {l m : List Int} (hl : Bytes l) (hm : Bytes m) (h : ¬ l = m) : ((strOfNums l).toList == (strOfNums m).toList) = false ∧ ((strOfNums l).toList != (strOfNums m).toList) = true := by
  have hn : ¬ (strOfNums l).toList = (strOfNums m).toList := fun e => h (strOfNums_inj hl hm (toList_inj e))
  exact ⟨beq_eq_false_iff_ne.2 hn, bne_iff_ne.2 hn⟩
theorem rscan_short (A : Option Addr) (len cap : Nat) (w : World) (h8 : len < 8) :
    Calls Try.prog 16 #[.slice A len cap] w fun e w' => e = .returned (.tuple #[.slice none 0 0, .int .i64 0]) ∧ Below w.heap.size w w' := by
  go_enter Try.func16, Try.ntmps16
  go_wp2
  go_loop [4, 5] (fun v at_ => v = .slice none 0 0 ∧ at_ = .int .i64 0) (fun _ _ => 0)
  case atStart => exact ⟨rfl, rfl⟩
  case round =>
    obtain ⟨rfl, rfl⟩ := hrel
    go_wp2
    go_ret2
    exact ⟨rfl, Below.refl _ _⟩
set_option maxRecDepth 100000 in
set_option maxHeartbeats 4000000 in
theorem rscan8 (bb off len cap : Nat) (b : List Int) (w : World) (hb0 : Bytes b) (hlen : b.length = len) (h8l : 8 ≤ len) (hlc : len ≤ cap) (hreach : len ≤ 17179869176) (hbb : bb < w.heap.size)
    (hc : ∀ j, j < len → w.cell? ⟨bb, off + j, none⟩ = some (.int .u8 (byt b j))) :
    Calls Try.prog 16 #[.slice (some ⟨bb, off, none⟩) len cap] w fun e w' => ∃ v, e = .returned (.tuple #[v, .int .i64 (endOf (scanL b) : Int)]) ∧ w'.ownsRow w.heap.size 9 1 v (scanL b).length ((scanL b).map lineV) ∧ Below w.heap.size w w' := by
  have HC := Lib.hid hc
  have H0 := Lib.hid hb0
  have HL := Lib.hid hlen
  clear hc hb0 hlen
  go_enter Try.func16, Try.ntmps16
  go_wp2
  go_loopw [4, 5] (fun v at_ wr => ∃ (pre rest : List (List Int × Nat)) (k a : Nat), at_ = .int .i64 (a : Int) ∧ wr.ownsRow w.heap.size 9 1 v pre.length (pre.map lineV) ∧ a ≤ len ∧ 8 * pre.length ≤ a ∧ scanL b = pre ++ rest ∧ rest = scanG k pre.length a b ∧ len < k + a ∧ endOf pre = a ∧ Below w.heap.size w wr) (fun _ at_ _ => len - (intOf at_).toNat)
  case atStart => exact ⟨[], _, len + 1, 0, rfl, World.ownsRow_nil _ _ _ _, by omega, by simp, rfl, by rw [← HL.out]; rfl, by omega, rfl, Below.refl _ _⟩
  case round =>
    obtain ⟨pre, rest, k, a, rfl, hown, ha, hp8, hS, hrest, hk, hend, hbel⟩ := hrel
    obtain ⟨Ao, co, rfl, hco⟩ := own_sl hown
    have HOn := Lib.hid hown
    have HB := Lib.hid hbel
    have HS := Lib.hid hS
    have HRs := Lib.hid hrest
    have HE := Lib.hid hend
    clear hown hbel hS hrest hend
    by_cases h8 : a + 8 ≤ len
    · have c0 : wr.cell? ⟨bb, off + a, none⟩ = some (.int .u8 (byt b a)) := (HB.out.cell (p := ⟨bb, off + a, none⟩) hbb).trans (HC.out a (by omega))
      have c1 : wr.cell? ⟨bb, off + (a + 1), none⟩ = some (.int .u8 (byt b (a + 1))) := (HB.out.cell (p := ⟨bb, off + (a + 1), none⟩) hbb).trans (HC.out (a + 1) (by omega))
      have c2 : wr.cell? ⟨bb, off + (a + 2), none⟩ = some (.int .u8 (byt b (a + 2))) := (HB.out.cell (p := ⟨bb, off + (a + 2), none⟩) hbb).trans (HC.out (a + 2) (by omega))
      have c3 : wr.cell? ⟨bb, off + (a + 3), none⟩ = some (.int .u8 (byt b (a + 3))) := (HB.out.cell (p := ⟨bb, off + (a + 3), none⟩) hbb).trans (HC.out (a + 3) (by omega))
      have hr0 : ∀ j, 0 ≤ byt b j ∧ byt b j ≤ 255 := fun j => getD_byte H0.out j
      have HRg := Lib.hid hr0
      clear hr0
      go_wp2
      have n1 : ((a : Int) + 1).toNat = a + 1 := by omega
      have n2 : ((a : Int) + 2).toNat = a + 2 := by omega
      have n3 : ((a : Int) + 3).toNat = a + 3 := by omega
      have p0 : (0 : Int) ≤ (a : Int) := by omega
      have p1 : (0 : Int) ≤ (a : Int) + 1 := by omega
      have p2 : (0 : Int) ≤ (a : Int) + 2 := by omega
      have p3 : (0 : Int) ≤ (a : Int) + 3 := by omega
      have l0 : (a : Int) < (len : Int) := by omega
      have l1 : (a : Int) + 1 < (len : Int) := by omega
      have l2 : (a : Int) + 2 < (len : Int) := by omega
      have l3 : (a : Int) + 3 < (len : Int) := by omega
      have w1 : IntKind.i64.wrap ((a : Int) + 1) = (a : Int) + 1 := IntWalk.i64_in _ (by omega)
      have w2 : IntKind.i64.wrap ((a : Int) + 2) = (a : Int) + 2 := IntWalk.i64_in _ (by omega)
      have w3 : IntKind.i64.wrap ((a : Int) + 3) = (a : Int) + 3 := IntWalk.i64_in _ (by omega)
      go_quiet (fail)
      clear w1 w2 w3 n1 n2 n3 p0 p1 p2 p3 l0 l1 l2 l3 c0 c1 c2 c3
      obtain ⟨L, hL⟩ : ∃ L : Nat, byt b a * 16777216 + byt b (a + 1) * 65536 + byt b (a + 2) * 256 + byt b (a + 3) = (L : Int) := by
        have g0 := HRg.out a
        have g1 := HRg.out (a + 1)
        have g2 := HRg.out (a + 2)
        have g3 := HRg.out (a + 3)
        exact ⟨(byt b a * 16777216 + byt b (a + 1) * 65536 + byt b (a + 2) * 256 + byt b (a + 3)).toNat, by omega⟩
      have hw6 := num_wrap (HRg.out a) (HRg.out (a + 1)) (HRg.out (a + 2)) (HRg.out (a + 3))
      rw [hL] at hw6
      rw [hw6]
      have HLn := Lib.hid hL
      clear hL hw6
      obtain ⟨wq, hwq⟩ : ∃ wq, wr.drewN nq = wq := ⟨_, rfl⟩
      have HBq : Hid (Below w.heap.size w wq) := by rw [← hwq]; exact pw_below_drewN HB.out nq
      have HOq : Hid (wq.ownsRow w.heap.size 9 1 (.slice Ao pre.length co) pre.length (pre.map lineV)) := by rw [← hwq]; exact pw_own_below HOn.out (pw_below_drewN (Below.refl _ _) nq)
      rw [hwq]
      clear hwq HOn HB
      have hhn : Hid (headNum (b.drop a) = (L : Int)) := (headNum_drop b a).trans HLn.out
      by_cases hv : L ≤ 65536 ∧ L + a + 8 ≤ len
      · obtain ⟨hv1, hv2⟩ := hv
        have hd1 : decide (65536 < (L : Int)) = false := by simp; omega
        have hd2 : decide ((len : Int) - (a : Int) - 8 < (L : Int)) = false := by simp; omega
        obtain ⟨As, hmid, hmidr⟩ := mid_s (some ⟨bb, off, none⟩) len cap b HL.out hlc a L (by omega)
        have HMR := Lib.hid hmidr
        clear hmidr
        obtain ⟨Af, hmidf, hmidfr⟩ := mid_g (some ⟨bb, off, none⟩) len cap b HL.out hlc (a : Int) ((a : Int) + 8 + (L : Int)) a (a + 8 + L) rfl (by omega) (by omega) (by omega)
        have HMF := Lib.hid hmidfr
        clear hmidfr
        rw [show a + 8 + L - a = 8 + L by omega] at hmidf HMF
        have Rb : ∀ W, Below w.heap.size w W → ReadsInt W .u8 (some ⟨bb, off, none⟩) len b := fun W hW => ⟨HL.out, by omega, fun _ => ⟨_, rfl, fun j hj => by rw [add_at]; exact (hW.cell (p := ⟨bb, off + j, none⟩) hbb).trans (HC.out j hj)⟩⟩
        have HRb := Lib.hid Rb
        clear Rb
        have hcv : (convert 22 9 (.slice As L (cap - (a + 8)))).run Try.prog wq = .ok (.string (strOfNums ((b.drop (a + 8)).take L))) wq := conv_str _ _ _ _ _ (HMR.out wq (HRb.out wq HBq.out))
        have hsl : Hid (((b.drop (a + 8)).take L).length = L) := (HMR.out wq (HRb.out wq HBq.out)).1
        have hby : Hid (Bytes ((b.drop (a + 8)).take L)) := (H0.out.drop _).take _
        go_wp2_with (go_at_call 11; refine (rframe_any (pre.length : Int) (strOfNums ((b.drop (a + 8)).take L)) _ (by omega) (by omega) (by rw [strOfNums_size, hsl.out]; exact hv1)).mono ?_; rintro e w1 ⟨vf, rfl, hof, hb1⟩; have hB1 := Lib.hid (HBq.out.trans (hb1.mono HBq.out.size)); have hO1 := Lib.hid (pw_own_below HOq.out hb1); rw [bytesOf_str hby.out] at hof; obtain ⟨A1, c1, rfl, hc1, hr1⟩ := own_rd hof; have R1 := Lib.hid hr1; have hcf : ∀ q : Nat, (convert 22 9 (.slice A1 (frameL (pre.length : Int) ((b.drop (a + 8)).take L)).length c1)).run Try.prog (w1.drewN q) = .ok (.string (strOfNums (frameL (pre.length : Int) ((b.drop (a + 8)).take L)))) (w1.drewN q) := fun q => conv_str _ _ _ _ _ (R1.out.below (pw_below_drewN (Below.refl _ _) q)); have hcg : ∀ q : Nat, (convert 22 9 (.slice Af (8 + L) (cap - a))).run Try.prog (w1.drewN q) = .ok (.string (strOfNums ((b.drop a).take (8 + L)))) (w1.drewN q) := fun q => conv_str _ _ _ _ _ (HMF.out (w1.drewN q) (HRb.out (w1.drewN q) (pw_below_drewN hB1.out q))); clear hb1 hof hr1)
        have hfe := frame_eq (pre.length : Int) b H0.out a L (by rw [HL.out]; omega) hhn.out
        have HFE := Lib.hid hfe
        clear hfe hmid hcv
        have hw8 : IntKind.i64.wrap ((a : Int) + 8) = (a : Int) + 8 := IntWalk.i64_in _ (by omega)
        have hwL : IntKind.i64.wrap ((a : Int) + 8 + (L : Int)) = (a : Int) + 8 + (L : Int) := IntWalk.i64_in _ (by omega)
        by_cases hq : frameL (pre.length : Int) ((b.drop (a + 8)).take L) = (b.drop a).take (8 + L)
        · obtain ⟨hq1, hq2⟩ := str_eq hq
          have HQ := Lib.hid hq
          clear hq
          go_quiet (fail)
          clear hw8 hwL hcf hcg hq1 hq2 hmidf
          obtain ⟨wz, hwz⟩ : ∃ wz, w1.drewN nq = wz := ⟨_, rfl⟩
          have HBz : Hid (Below w.heap.size w wz) := by rw [← hwz]; exact pw_below_drewN hB1.out nq
          have HOz : Hid (wz.ownsRow w.heap.size 9 1 (.slice Ao pre.length co) (pre.map lineV).length (pre.map lineV)) := by rw [← hwz, List.length_map]; exact pw_own_below hO1.out (pw_below_drewN (Below.refl _ _) nq)
          rw [hwz]
          clear hwz hB1 hO1 R1
          have hfy : Hid (front pre.length (b.drop a) = some ((b.drop (a + 8)).take L)) := front_yes _ b a L (by rw [HL.out]; exact h8) hhn.out hv1 (by rw [HL.out]; exact hv2) (HFE.out.1 HQ.out)
          obtain ⟨k', rfl⟩ : ∃ k', k = k' + 1 := ⟨k - 1, by omega⟩
          have hr1 : Hid (rest = ((b.drop (a + 8)).take L, a + 8 + L) :: scanG k' (pre.length + 1) (a + 8 + L) b) := by
            show _ = _
            rw [HRs.out, scanG_some hfy.out, hsl.out]
          have hcnt : (pre.length + 1) * 16 ≤ 140737488355328 := by omega
          have hzz := HBz.out.size
          go_wp2_with (at_builtin; refine print_append (w0 := w) w.heap.size rfl (.tmp 82) (.tmp 84) 32 9 (.string ByteArray.empty) 16 rfl Try.underlying32 info9 rfl (by omega) _ (pre.map lineV) (.string (strOfNums ((b.drop (a + 8)).take L))) rfl rfl rfl HOz.out HBz.out hzz (by rw [List.length_map]; exact hcnt) ?_; rintro v5 w5 hown5 hb5 hg5 hat5; have O5 := Lib.hid hown5; have B5 := Lib.hid hb5; clear hown5 hb5 hg5 hat5)
          go_roundw
          case rel => exact ⟨pre ++ [((b.drop (a + 8)).take L, a + 8 + L)], scanG k' (pre.length + 1) (a + 8 + L) b, k', a + 8 + L, congrArg (Value.int .i64) (by omega), by have h := O5.out; rw [List.length_append, List.length_map] at h; rw [List.length_append, List.map_append]; exact h, by omega, by rw [List.length_append, List.length_singleton]; omega, by rw [HS.out, hr1.out, List.append_assoc]; rfl, by rw [List.length_append, List.length_singleton], by omega, endOf_snoc _ _, B5.out⟩
          case measure => simp [intOf]; omega
        · obtain ⟨hq1, hq2⟩ := str_ne (frameL_bytes _ hby.out) ((H0.out.drop _).take _) hq
          have HQ := Lib.hid hq
          clear hq
          go_quiet (fail)
          clear hw8 hwL
          go_wp2
          go_ret2
          have hs0 : scanL b = pre := by rw [HS.out, HRs.out, scanG_none (front_ne _ b a L (by rw [HL.out]; exact h8) hhn.out hv1 (by rw [HL.out]; exact hv2) (fun e => HQ.out (HFE.out.2 e))), List.append_nil]
          refine ⟨.slice Ao pre.length co, ?_, ?_, pw_below_drewN hB1.out nq⟩
          · rw [hs0, HE.out]
            rfl
          · rw [hs0]
            exact pw_own_below hO1.out (pw_below_drewN (Below.refl _ _) nq)
      · have hs0 : Hid (scanL b = pre) := by show _ = _; rw [HS.out, HRs.out, scanG_none (front_no _ b a L (by rw [HL.out]; exact h8) hhn.out (by rw [HL.out]; exact hv)), List.append_nil]
        by_cases hv1 : L ≤ 65536
        · have hv2 : ¬ (L + a + 8 ≤ len) := fun h => hv ⟨hv1, h⟩
          have hd1 : decide (65536 < (L : Int)) = false := by simp; omega
          have hd2 : decide ((len : Int) - (a : Int) - 8 < (L : Int)) = true := by simp; omega
          clear hv
          go_wp2
          go_ret2
          refine ⟨.slice Ao pre.length co, ?_, ?_, HBq.out⟩
          · rw [hs0.out, HE.out]
            rfl
          · rw [hs0.out]
            exact HOq.out
        · have hd1 : decide (65536 < (L : Int)) = true := by simp; omega
          clear hv
          go_wp2
          go_ret2
          refine ⟨.slice Ao pre.length co, ?_, ?_, HBq.out⟩
          · rw [hs0.out, HE.out]
            rfl
          · rw [hs0.out]
            exact HOq.out
    · go_wp2
      go_ret2
      have hs0 : scanL b = pre := by rw [HS.out, HRs.out, scanG_none (front_short _ b a (by rw [HL.out]; omega)), List.append_nil]
      refine ⟨.slice Ao pre.length co, ?_, ?_, HB.out⟩
      · rw [hs0, HE.out]
        rfl
      · rw [hs0]
        exact HOn.out

/-- an address of a row that is read, laid open -/
theorem reads_at {w : World} {A : Option Addr} {len : Nat} {b : List Int} (hR : ReadsInt w .u8 A len b) (hp : 0 < len) : ∃ bb off, A = some ⟨bb, off, none⟩ ∧ bb < w.heap.size ∧ ∀ j, j < len → w.cell? ⟨bb, off + j, none⟩ = some (.int .u8 (byt b j)) := by
  obtain ⟨ad, rfl, hcell⟩ := hR.2.2 hp
  have hc0 := hcell 0 hp
  obtain ⟨bb, off, e⟩ := spot hc0
  obtain ⟨bb', off', s'⟩ := ad
  have : s' = none := by
    cases s' with
    | none => rfl
    | some s => simp [Addr.add] at e
  subst this
  refine ⟨bb', off', rfl, ?_, fun j hj => ?_⟩
  · have h := World.block_lt_of_cell? w _ hc0
    simpa [Addr.add] using h
  · rw [← add_at]
    exact hcell j hj
theorem rscan_any (A : Option Addr) (len cap : Nat) (b : List Int) (w : World) (hb0 : Bytes b) (hR : ReadsInt w .u8 A len b) (hlc : len ≤ cap) (hreach : len ≤ 17179869176) :
    Calls Try.prog 16 #[.slice A len cap] w fun e w' => ∃ v, e = .returned (.tuple #[v, .int .i64 (endOf (scanL b) : Int)]) ∧ w'.ownsRow w.heap.size 9 1 v (scanL b).length ((scanL b).map lineV) ∧ Below w.heap.size w w' := by
  rcases Nat.lt_or_ge len 8 with h8 | h8
  · have hs : scanL b = [] := scanG_none (front_short 0 b 0 (by have := hR.1; omega))
    rw [hs]
    exact (rscan_short A len cap w h8).mono fun e w' ⟨he, hb⟩ => ⟨_, he, World.ownsRow_nil _ _ _ _, hb⟩
  · obtain ⟨bb, off, rfl, hbb, hc⟩ := reads_at hR (by omega)
    exact rscan8 bb off len cap b w hb0 hR.1 h8 hlc hreach hbb hc
end Go.Proofs.Ytoegeljjfhbpeaa.J
