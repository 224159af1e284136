/- Contracts of the journal's frames: of the code and of the document, and the sum of bytes in plain Lean. No condition stands open. -/
import Derived.Test.YtoegeljjfhbpeaaPGx
import Derived.Shelf.Abstract
import Derived.Lib.AppendZerosOnto
import Derived.Deep.AppendSrc
import Derived.Lib.AppendZeros
import Derived.Lib.Hide
import Derived.Deep.QuietTactic
import Derived.BigQuiet
import Derived.StillTailTactics
import Derived.Deep.RegionWith
import Derived.Lib.ConvBytes
set_option linter.unusedVariables false
set_option linter.unusedSimpArgs false
namespace Go.Proofs.Ytoegeljjfhbpeaa.J
open Go.RowKit Go.Proofs.YtoegeljjfhbpeaaW.PrintWords Go.Proofs.YtoegeljjfhbpeaaW.PrintLast Go.Proofs.YtoegeljjfhbpeaaW.PrintMore

def arr4 (a b c d : Int) : Nat → Array Value
  | 0 => #[.int .u8 0, .int .u8 0, .int .u8 0, .int .u8 0]
  | 1 => #[.int .u8 a, .int .u8 0, .int .u8 0, .int .u8 0]
  | 2 => #[.int .u8 a, .int .u8 b, .int .u8 0, .int .u8 0]
  | 3 => #[.int .u8 a, .int .u8 b, .int .u8 c, .int .u8 0]
  | _ => #[.int .u8 a, .int .u8 b, .int .u8 c, .int .u8 d]
set_option maxHeartbeats 1000000 in
theorem high_any (n : Int) (w : World) (h0 : 0 ≤ n) (h1 : n ≤ 9223372036854775807) :
    Calls Try.prog 36 #[.int .i64 n] w fun e w' => e = .returned (.agg #[.int .u8 ((n / 16777216) % 256), .int .u8 ((n / 65536) % 256), .int .u8 ((n / 256) % 256), .int .u8 (n % 256)]) ∧ Below w.heap.size w w' := by
  go_enter Try.func36, Try.ntmps36
  go_wp2
  go_loopw [5] (fun i wr => ∃ k : Nat, k ≤ 4 ∧ i = .int .i64 k ∧ wr = (w.alloc (.cells (arr4 0 0 0 0 0) 71)).alloc (.cells (arr4 ((n / 16777216) % 256) ((n / 65536) % 256) ((n / 256) % 256) (n % 256) k) 71)) (fun i _ => 4 - (intOf i).toNat)
  case atStart => exact ⟨0, by omega, rfl, rfl⟩
  case round =>
    obtain ⟨k, hk, rfl, rfl⟩ := hrel
    obtain rfl | rfl | rfl | rfl | rfl : k = 0 ∨ k = 1 ∨ k = 2 ∨ k = 3 ∨ k = 4 := by omega
    · simp only [arr4]
      go_wp2
      go_roundw
      case rel => exact ⟨1, by omega, by simp, by simp [arr4]⟩
      case measure => simp [intOf]
    · simp only [arr4]
      go_wp2
      go_roundw
      case rel => exact ⟨2, by omega, by simp, by simp [arr4]⟩
      case measure => simp [intOf]
    · simp only [arr4]
      go_wp2
      go_roundw
      case rel => exact ⟨3, by omega, by simp, by simp [arr4]⟩
      case measure => simp [intOf]
    · simp only [arr4]
      go_wp2
      go_roundw
      case rel => exact ⟨4, by omega, by simp, by simp [arr4]⟩
      case measure => simp [intOf]
    · simp only [arr4]
      go_wp2
      exact bodyPost_ret (v := .agg #[.int .u8 ((n / 16777216) % 256), .int .u8 ((n / 65536) % 256), .int .u8 ((n / 256) % 256), .int .u8 (n % 256)]) (by simp [results, Try.results36, go_sem]) rfl ⟨rfl, ((((Below.refl _ _).alloc (Nat.le_refl _) _).alloc (by simp) _))⟩
set_option maxHeartbeats 1000000 in
theorem low_any (n : Int) (w : World) (h0 : 0 ≤ n) (h1 : n ≤ 4294967295) :
    Calls Try.prog 45 #[.int .u32 n] w fun e w' => e = .returned (.agg #[.int .u8 (n % 256), .int .u8 ((n / 256) % 256), .int .u8 ((n / 65536) % 256), .int .u8 (n / 16777216)]) ∧ Below w.heap.size w w' := by
  go_enter Try.func45, Try.ntmps45
  go_wp2
  go_loopw [5] (fun i wr => ∃ k : Nat, k ≤ 4 ∧ i = .int .i64 k ∧ wr = (w.alloc (.cells (arr4 0 0 0 0 0) 71)).alloc (.cells (arr4 (n % 256) ((n / 256) % 256) ((n / 65536) % 256) (n / 16777216) k) 71)) (fun i _ => 4 - (intOf i).toNat)
  case atStart => exact ⟨0, by omega, rfl, rfl⟩
  case round =>
    obtain ⟨k, hk, rfl, rfl⟩ := hrel
    obtain rfl | rfl | rfl | rfl | rfl : k = 0 ∨ k = 1 ∨ k = 2 ∨ k = 3 ∨ k = 4 := by omega
    · simp only [arr4]
      go_wp2
      go_roundw
      case rel => exact ⟨1, by omega, by simp, by simp [arr4]⟩
      case measure => simp [intOf]
    · simp only [arr4]
      go_wp2
      go_roundw
      case rel => exact ⟨2, by omega, by simp, by simp [arr4]⟩
      case measure => simp [intOf]
    · simp only [arr4]
      go_wp2
      go_roundw
      case rel => exact ⟨3, by omega, by simp, by simp [arr4]⟩
      case measure => simp [intOf]
    · simp only [arr4]
      go_wp2
      go_roundw
      case rel => exact ⟨4, by omega, by simp, by simp [arr4]⟩
      case measure => simp [intOf]
    · simp only [arr4]
      go_wp2
      exact bodyPost_ret (v := .agg #[.int .u8 (n % 256), .int .u8 ((n / 256) % 256), .int .u8 ((n / 65536) % 256), .int .u8 (n / 16777216)]) (by simp [results, Try.results45, go_sem]) rfl ⟨rfl, ((((Below.refl _ _).alloc (Nat.le_refl _) _).alloc (by simp) _))⟩

theorem wraps_i64 (n : Int) (h₀ : 0 ≤ n) (h₁ : n < 2 ^ 62) : IntKind.i64.wrap n = n := by rw [IntKind.wrap_i64]; omega
theorem or_low (x c : Int) (h0 : 0 ≤ x) (h1 : x ≤ 16777215) (hc0 : 0 ≤ c) (hc1 : c ≤ 255) : Go.bits .or .i64 (x * 256) c = x * 256 + c :=
  bits_join .i64 62 (by decide) wraps_i64 8 (x * 256) c (by omega) (by omega) (by omega) hc0 (by omega) (by omega)
set_option maxHeartbeats 1000000 in
theorem number_any (a b c d : Int) (w : World) (ha : 0 ≤ a ∧ a ≤ 255) (hb : 0 ≤ b ∧ b ≤ 255) (hc : 0 ≤ c ∧ c ≤ 255) (hd : 0 ≤ d ∧ d ≤ 255) :
    Calls Try.prog 48 #[.agg #[.int .u8 a, .int .u8 b, .int .u8 c, .int .u8 d]] w fun e w' => e = .returned (.int .i64 (a * 16777216 + b * 65536 + c * 256 + d)) ∧ Below w.heap.size w w' := by
  obtain ⟨ha0, ha1⟩ := ha
  obtain ⟨hb0, hb1⟩ := hb
  obtain ⟨hc0, hc1⟩ := hc
  obtain ⟨hd0, hd1⟩ := hd
  have i0 : ∀ w, (Instr.index 71 (.agg #[.int .u8 a, .int .u8 b, .int .u8 c, .int .u8 d]) (.int .i64 0)).run Try.prog w = .ok (.int .u8 a) w := fun _ => rfl
  have i1 : ∀ w, (Instr.index 71 (.agg #[.int .u8 a, .int .u8 b, .int .u8 c, .int .u8 d]) (.int .i64 1)).run Try.prog w = .ok (.int .u8 b) w := fun _ => rfl
  have i2 : ∀ w, (Instr.index 71 (.agg #[.int .u8 a, .int .u8 b, .int .u8 c, .int .u8 d]) (.int .i64 2)).run Try.prog w = .ok (.int .u8 c) w := fun _ => rfl
  have i3 : ∀ w, (Instr.index 71 (.agg #[.int .u8 a, .int .u8 b, .int .u8 c, .int .u8 d]) (.int .i64 3)).run Try.prog w = .ok (.int .u8 d) w := fun _ => rfl
  have o0 : Hid (Go.bits .or .i64 0 a = a) := by have h := or_low 0 a (by omega) (by omega) ha0 ha1; rw [Int.zero_mul, Int.zero_add] at h; exact h
  have o1 : Hid (Go.bits .or .i64 (a * 256) b = a * 256 + b) := or_low a b (by omega) (by omega) hb0 hb1
  have o2 : Hid (Go.bits .or .i64 ((a * 256 + b) * 256) c = a * 65536 + b * 256 + c) := by have h := or_low (a * 256 + b) c (by omega) (by omega) hc0 hc1; rw [Hid, h]; omega
  have o3 : Hid (Go.bits .or .i64 ((a * 65536 + b * 256 + c) * 256) d = a * 16777216 + b * 65536 + c * 256 + d) := by have h := or_low (a * 65536 + b * 256 + c) d (by omega) (by omega) hd0 hd1; rw [Hid, h]; omega
  go_enter Try.func48, Try.ntmps48
  go_wp2
  go_loop [3, 7] (fun n i => ∃ k : Nat, k ≤ 4 ∧ i = .int .i64 k ∧ n = .int .i64 (match k with | 0 => 0 | 1 => a | 2 => a * 256 + b | 3 => a * 65536 + b * 256 + c | _ => a * 16777216 + b * 65536 + c * 256 + d)) (fun _ i => 4 - (intOf i).toNat)
  case atStart => exact ⟨0, by omega, rfl, rfl⟩
  case round =>
    obtain ⟨k, hk, rfl, rfl⟩ := hrel
    obtain rfl | rfl | rfl | rfl | rfl : k = 0 ∨ k = 1 ∨ k = 2 ∨ k = 3 ∨ k = 4 := by omega
    · simp only []
      go_wp2
      go_round
      case rel => exact ⟨1, by omega, by simp, congrArg (Value.int .i64) o0.out⟩
      case measure => simp [intOf]
    · simp only []
      go_wp2
      go_round
      case rel => exact ⟨2, by omega, by simp, congrArg (Value.int .i64) o1.out⟩
      case measure => simp [intOf]
    · simp only []
      go_wp2
      go_round
      case rel => exact ⟨3, by omega, by simp, congrArg (Value.int .i64) o2.out⟩
      case measure => simp [intOf]
    · simp only []
      go_wp2
      go_round
      case rel => exact ⟨4, by omega, by simp, congrArg (Value.int .i64) o3.out⟩
      case measure => simp [intOf]
    · go_wp2
      go_ret
      exact ⟨rfl, (Below.refl _ _).alloc (Nat.le_refl _) _⟩
end Go.Proofs.Ytoegeljjfhbpeaa.J
namespace Go.Proofs.Ytoegeljjfhbpeaa.J
open Go.RowKit Go.Proofs.YtoegeljjfhbpeaaW.PrintWords Go.Proofs.YtoegeljjfhbpeaaW.PrintLast Go.Proofs.YtoegeljjfhbpeaaW.PrintMore

theorem info5 : (Try.prog.info? 5).map (fun i => (i.zero, i.size, i.bytes)) = some (some (.int .u8 0), 1, 1) := by kernel_rfl
/-- slices.Grow of no row, by n. -/
theorem grow_nil (n : Nat) (h0 : 0 < n) (hbig : n ≤ 140737488355328) (w : World) :
    Calls Try.prog 46 #[.slice none 0 0, .int .i64 n] w fun e w' => ∃ v, e = .returned v ∧ w'.ownsRow w.heap.size 5 1 v 0 [] ∧ Below w.heap.size w w' := by
  obtain ⟨i0, hi, hz0, hz1, hz2⟩ := info_parts info5
  have hrz : ∀ ty, (Builtin.append_ #[22, 3] ty #[.slice none 0 0, .int .i64 (n : Int)]).run Try.prog w =
      .ok (.slice (some ⟨w.heap.size, 0, none⟩) n (grownCap w n 0 5)) (w.drew.alloc (.cells (#[] ++ Builtin.zeroCells (Value.int .u8 0).cells n ++ Builtin.zeroCells (Value.int .u8 0).cells (grownCap w n 0 5 - n)) 5)) := fun ty => by
    have h := Lib.run_append_grow_zeros w 22 3 ty 5 i0 (.int .u8 0) .i64 .i64 Try.underlying22 Try.underlying3 hi hz0 none 0 0 [] (run_firstCells_none w.drew i0.size 0 0 0) n h0 (by omega) (by omega) (by omega)
      (by rw [hz2]; omega) (growslice_fits (by omega) (by rw [hz2]; omega))
    simp only [Nat.zero_add] at h
    exact h
  have hGn : n ≤ grownCap w n 0 5 := grownCap_ge w _ _ _
  have hGm : grownCap w n 0 5 ≤ maxLen := grownCap_le_maxLen w n 0 5 (by unfold maxLen; omega)
  have hG64 : grownCap w n 0 5 ≤ 9223372036854775807 := by unfold maxLen at hGm; omega
  obtain ⟨G, hG⟩ : ∃ G, grownCap w n 0 5 = G := ⟨_, rfl⟩
  rw [hG] at hrz hGn hGm hG64
  clear hG
  have hown : Hid ((w.drew.alloc (.cells (#[] ++ Builtin.zeroCells (Value.int .u8 0).cells n ++ Builtin.zeroCells (Value.int .u8 0).cells (G - n)) 5)).ownsRow w.heap.size 5 1 (.slice (some ⟨w.heap.size, 0, none⟩) 0 G) 0 []) := by
    have := World.ownsRow_made (base := w.heap.size) (e := 5) (size := 1) w.drew (#[] ++ Builtin.zeroCells (Value.int .u8 0).cells n ++ Builtin.zeroCells (Value.int .u8 0).cells (G - n)) G (Nat.le_refl _) hGm (by simp [size_zeroCells, Value.cells]; omega)
    exact this
  obtain ⟨wn, hwn⟩ : ∃ wn, w.drew.alloc (.cells (#[] ++ Builtin.zeroCells (Value.int .u8 0).cells n ++ Builtin.zeroCells (Value.int .u8 0).cells (G - n)) 5) = wn := ⟨_, rfl⟩
  rw [hwn] at hrz hown
  have hbel : Hid (Below w.heap.size w wn) := by rw [← hwn]; exact ((Below.refl _ _).drew).alloc (Nat.le_refl _) _
  clear hwn
  go_enter Try.func46, Try.ntmps46
  go_wp2_with (at_builtin; refine Lib.wpList_append_run _ rfl _ _ _ _ rfl _ _ rfl rfl _ _ (hrz _) ?_)
  go_ret
  exact ⟨_, rfl, hown.out, hbel.out⟩

def cat3 (x y z : List Int) : Nat → List Int
  | 0 => []
  | 1 => x
  | 2 => x ++ y
  | _ => x ++ y ++ z
/-- slices.Concat of three rows of bytes (not all empty). -/
theorem concat_any (B : Nat) (x y z : List Int) (Ax Ay Az : Option Addr) (nx ny nz cx cy cz : Nat) (w : World) (hx : x.length = nx) (hy : y.length = ny) (hz : z.length = nz)
    (h0 : w.cell? ⟨B, 0, none⟩ = some (.slice Ax nx cx)) (h1 : w.cell? ⟨B, 1, none⟩ = some (.slice Ay ny cy)) (h2 : w.cell? ⟨B, 2, none⟩ = some (.slice Az nz cz))
    (rx : ReadsInt w .u8 Ax nx x) (ry : ReadsInt w .u8 Ay ny y) (rz : ReadsInt w .u8 Az nz z)
    (hpos : 0 < nx) (hbig : nx + ny + nz ≤ 140737488355328) :
    Calls Try.prog 38 #[.slice (some ⟨B, 0, none⟩) 3 3] w fun e w' => ∃ v, e = .returned v ∧ w'.ownsRow w.heap.size 5 1 v (x ++ y ++ z).length (nums .u8 (x ++ y ++ z)) ∧ Below w.heap.size w w' := by
  have Rx := Lib.hid rx
  have Ry := Lib.hid ry
  have Rz := Lib.hid rz
  have Hx := Lib.hid hx
  have Hy := Lib.hid hy
  have Hz := Lib.hid hz
  clear rx ry rz hx hy hz
  go_enter Try.func38, Try.ntmps38
  go_wp2
  go_loop [3, 11] (fun s i => ∃ k : Nat, k ≤ 3 ∧ i = .int .i64 k ∧ s = .int .i64 (match k with | 0 => 0 | 1 => (nx : Int) | 2 => (nx : Int) + ny | _ => (nx : Int) + ny + nz)) (fun _ i => 3 - (intOf i).toNat)
  case atStart => exact ⟨0, by omega, rfl, rfl⟩
  case round =>
    obtain ⟨k, hk, rfl, rfl⟩ := hrel
    obtain rfl | rfl | rfl | rfl : k = 0 ∨ k = 1 ∨ k = 2 ∨ k = 3 := by omega
    · simp only []
      go_wp2
      go_round
      case rel => exact ⟨1, by omega, by simp, by simp⟩
      case measure => simp [intOf]
    · simp only []
      go_wp2
      go_round
      case rel => exact ⟨2, by omega, by simp, by simp⟩
      case measure => simp [intOf]
    · simp only []
      go_wp2
      go_round
      case rel => exact ⟨3, by omega, by simp, by simp⟩
      case measure => simp [intOf]
    · simp only []
      rw [show ((3 : Nat) : Int) = 3 from rfl]
      go_wp2_with (go_at_call 46; rw [show (nx : Int) + ny + nz = ((nx + ny + nz : Nat) : Int) by omega]; refine (grow_nil (nx + ny + nz) (by omega) (by omega) _).mono ?_; rintro e w1 ⟨v, rfl, hown, hb⟩)
      have Hb := Lib.hid hb
      have Ho := Lib.hid hown
      have H0 := Lib.hid h0
      have H1 := Lib.hid h1
      have H2 := Lib.hid h2
      clear hb hown h0 h1 h2
      go_loopw [6, 8, 27] (fun v _ i wr => ∃ k : Nat, k ≤ 3 ∧ i = .int .i64 k ∧ wr.ownsRow w.heap.size 5 1 v (cat3 x y z k).length (nums .u8 (cat3 x y z k)) ∧ Below w.heap.size w wr) (fun _ _ i _ => 3 - (intOf i).toNat)
      case atStart => exact ⟨0, by omega, rfl, Ho.out, Hb.out⟩
      case round =>
        obtain ⟨k, hk, rfl, hown, hb⟩ := hrel
        have hsz := hb.size
        have Hb := Lib.hid hb
        have Ho := Lib.hid hown
        have c0 : wr.cell? ⟨B, 0, none⟩ = some (.slice Ax nx cx) := pw_cell_below hb H0.out
        have c1 : wr.cell? ⟨B, 1, none⟩ = some (.slice Ay ny cy) := pw_cell_below hb H1.out
        have c2 : wr.cell? ⟨B, 2, none⟩ = some (.slice Az nz cz) := pw_cell_below hb H2.out
        have hlx := Hx.out
        have hly := Hy.out
        have hlz := Hz.out
        have Lx := Lib.hid hlx
        have Ly := Lib.hid hly
        have Lz := Lib.hid hlz
        clear hb hown hlx hly hlz
        obtain rfl | rfl | rfl | rfl : k = 0 ∨ k = 1 ∨ k = 2 ∨ k = 3 := by omega
        · go_wp2_with (at_builtin; refine print_append_row (w0 := w) w.heap.size rfl _ _ 22 5 .u8 1 rfl Try.underlying22 info5 (by omega) _ (cat3 x y z 0) x Ax nx cx rfl rfl Ho.out (Rx.out.below Hb.out) Hb.out hsz (by simp [cat3]; omega) ?_; rintro v1 w2 hown1 hb1 hg1 hat1)
          go_roundw
          case rel => exact ⟨1, by omega, by simp, by simpa [cat3] using hown1, hb1⟩
          case measure => simp [intOf]
        · go_wp2_with (at_builtin; refine print_append_row (w0 := w) w.heap.size rfl _ _ 22 5 .u8 1 rfl Try.underlying22 info5 (by omega) _ (cat3 x y z 1) y Ay ny cy rfl rfl Ho.out (Ry.out.below Hb.out) Hb.out hsz (by simp only [cat3]; have := Lx.out; omega) ?_; rintro v1 w2 hown1 hb1 hg1 hat1)
          go_roundw
          case rel => exact ⟨2, by omega, by simp, by simpa [cat3] using hown1, hb1⟩
          case measure => simp [intOf]
        · go_wp2_with (at_builtin; refine print_append_row (w0 := w) w.heap.size rfl _ _ 22 5 .u8 1 rfl Try.underlying22 info5 (by omega) _ (cat3 x y z 2) z Az nz cz rfl rfl Ho.out (Rz.out.below Hb.out) Hb.out hsz (by simp only [cat3, List.length_append]; have := Lx.out; have := Ly.out; omega) ?_; rintro v1 w2 hown1 hb1 hg1 hat1)
          go_roundw
          case rel => exact ⟨3, by omega, by simp, by simpa [cat3] using hown1, hb1⟩
          case measure => simp [intOf]
        · rw [show ((3 : Nat) : Int) = 3 from rfl]
          go_wp2
          go_ret
          exact ⟨_, rfl, Ho.out, Hb.out⟩
end Go.Proofs.Ytoegeljjfhbpeaa.J
namespace Go.Proofs.Ytoegeljjfhbpeaa.J
open Go.RowKit Go.Proofs.YtoegeljjfhbpeaaW.PrintWords Go.Proofs.YtoegeljjfhbpeaaW.PrintLast Go.Proofs.YtoegeljjfhbpeaaW.PrintMore Go.Proofs.Ytoegeljjfhbpeaa.PG

/-! the sum of bytes -/
def bitN (n : Nat) : Nat := if n % 2 = 1 then (n / 2) ^^^ 2197175160 else n / 2
def bitsN : Nat → Nat → Nat
  | 0, r => r
  | k + 1, r => bitsN k (bitN r)
def stepN (r : Nat) (c : Int) : Nat := bitsN 8 (r ^^^ (c % 4294967296).toNat)
def sumN (l : List Int) : Nat := l.foldl stepN 4294967295 ^^^ 4294967295
def sumOf (l : List Int) : Int := (sumN l : Int)

theorem bitN_lt {n : Nat} (h : n < 4294967296) : bitN n < 4294967296 := by
  unfold bitN
  split
  · exact Nat.xor_lt_two_pow (n := 32) (by omega) (by omega)
  · omega
theorem bitsN_lt : ∀ (k : Nat) {n : Nat}, n < 4294967296 → bitsN k n < 4294967296
  | 0, _, h => h
  | k + 1, _, h => bitsN_lt k (bitN_lt h)
theorem stepN_lt {r : Nat} (h : r < 4294967296) (c : Int) : stepN r c < 4294967296 :=
  bitsN_lt 8 (Nat.xor_lt_two_pow (n := 32) h (by omega))
theorem fold_lt (l : List Int) {r : Nat} (h : r < 4294967296) : l.foldl stepN r < 4294967296 := by
  induction l generalizing r with
  | nil => exact h
  | cons c l ih => exact ih (stepN_lt h c)
theorem sumN_lt (l : List Int) : sumN l < 4294967296 := Nat.xor_lt_two_pow (n := 32) (fold_lt l (by omega)) (by omega)
theorem sumOf_range (l : List Int) : 0 ≤ sumOf l ∧ sumOf l ≤ 4294967295 := by
  have := sumN_lt l
  unfold sumOf
  omega

theorem xor32 (a b : Nat) (ha : a < 4294967296) (hb : b < 4294967296) : Go.bits .xor .u32 (a : Int) (b : Int) = ((a ^^^ b : Nat) : Int) := by
  have hx : a ^^^ b < 2 ^ 32 := Nat.xor_lt_two_pow (by omega) (by omega)
  have h1 : (BitVec.ofInt 32 (a : Int)).toNat = a := by
    rw [BitVec.ofInt_natCast, BitVec.toNat_ofNat]; exact Nat.mod_eq_of_lt (by omega)
  have h2 : (BitVec.ofInt 32 (b : Int)).toNat = b := by
    rw [BitVec.ofInt_natCast, BitVec.toNat_ofNat]; exact Nat.mod_eq_of_lt (by omega)
  show IntKind.u32.wrap ((BitVec.ofInt 32 (a : Int) ^^^ BitVec.ofInt 32 (b : Int)).toNat : Int) = _
  rw [BitVec.toNat_xor, h1, h2, IntKind.wrap_u32]
  omega
theorem wraps_u32 (n : Int) (h₀ : 0 ≤ n) (h₁ : n < 2 ^ 32) : IntKind.u32.wrap n = n := by rw [IntKind.wrap_u32]; omega
theorem and32 (a b : Nat) (ha : a < 4294967296) (hb : b < 4294967296) : Go.bits .and .u32 (a : Int) (b : Int) = ((a &&& b : Nat) : Int) :=
  (bits_nat .u32 32 (by decide) wraps_u32 a b (by omega) (by omega)).1
theorem and1 (a : Nat) (ha : a < 4294967296) : Go.bits .and .u32 (a : Int) 1 = ((a % 2 : Nat) : Int) := by
  have h := and32 a 1 ha (by omega)
  rw [Nat.and_one_is_mod] at h
  exact h
theorem all32 (b : Nat) (hb : b < 4294967296) : 4294967295 &&& b = b := by
  have h := Nat.and_two_pow_sub_one_eq_mod b 32
  rw [Nat.and_comm] at h
  have : b % 2 ^ 32 = b := Nat.mod_eq_of_lt (by omega)
  rw [this] at h
  exact h
/-- the code's turn -/
theorem turn_code (a : Nat) (ha : a < 4294967296) :
    Go.bits .xor .u32 ((a : Int) / 2) (Go.bits .and .u32 ((-(Go.bits .and .u32 (a : Int) 1)) % 4294967296) 2197175160) = ((bitN a : Nat) : Int) := by
  rw [and1 a ha]
  have hd : (a : Int) / 2 = ((a / 2 : Nat) : Int) := by omega
  rw [hd]
  unfold bitN
  rcases Nat.mod_two_eq_zero_or_one a with h | h
  · rw [h, if_neg (by omega)]
    have e : (-((0 : Nat) : Int)) % 4294967296 = ((0 : Nat) : Int) := by omega
    rw [e]
    have h1 := and32 0 2197175160 (by omega) (by omega)
    have h2 : Go.bits .and .u32 ((0 : Nat) : Int) 2197175160 = ((0 : Nat) : Int) := by rw [Nat.zero_and] at h1; exact h1
    rw [h2, xor32 (a / 2) 0 (by omega) (by omega), Nat.xor_zero]
  · rw [h, if_pos rfl]
    have e : (-((1 : Nat) : Int)) % 4294967296 = ((4294967295 : Nat) : Int) := by omega
    rw [e]
    have h1 := and32 4294967295 2197175160 (by omega) (by omega)
    have h2 : Go.bits .and .u32 ((4294967295 : Nat) : Int) 2197175160 = ((2197175160 : Nat) : Int) := by rw [all32 _ (by omega)] at h1; exact h1
    rw [h2, xor32 (a / 2) 2197175160 (by omega) (by omega)]
theorem into (a : Nat) (c : Int) (ha : a < 4294967296) : Go.bits .xor .u32 (a : Int) (c % 4294967296) = ((a ^^^ (c % 4294967296).toNat : Nat) : Int) := by
  have h := xor32 a (c % 4294967296).toNat ha (by omega)
  have e : (((c % 4294967296).toNat : Nat) : Int) = c % 4294967296 := by omega
  rw [e] at h
  exact h
theorem outof (a : Nat) (ha : a < 4294967296) : Go.bits .xor .u32 4294967295 (a : Int) = ((a ^^^ 4294967295 : Nat) : Int) := by
  have h := xor32 4294967295 a (by omega) ha
  rw [Nat.xor_comm] at h
  exact h
theorem wrap_succ {i : Int} (h0 : 0 ≤ i) (h1 : i ≤ 140737488355328) : wrap64 (i + 1) = i + 1 := by unfold wrap64; omega

/-- the code's inner loop -/
theorem sum_l1 (l : List Int) (x8 x9 : Int) : ∀ (d k : Nat) (a j : Nat), a < 4294967296 → j + d = 8 →
    journal_Sum.l1 (k + d + 1) (a : Int) l x8 x9 (j : Int) = journal_Sum.l0 k ((bitsN d a : Nat) : Int) l x8 (wrap64 (x9 + 1))
  | 0, k, a, j, ha, hj => by
    simp only [journal_Sum.l1, Nat.add_zero]
    rw [if_neg (by omega)]
    rfl
  | d + 1, k, a, j, ha, hj => by
    rw [show k + (d + 1) + 1 = (k + d + 1) + 1 by omega]
    rw [journal_Sum.l1]
    rw [if_pos (by omega), turn_code a ha, wrap_succ (by omega) (by omega)]
    have h := sum_l1 l x8 x9 d k (bitN a) (j + 1) (bitN_lt ha) (by omega)
    exact h
theorem sum_l0 (l : List Int) (hl : l.length ≤ 140737488355328) : ∀ (d k a i : Nat), a < 4294967296 → i + d = l.length →
    journal_Sum.l0 (k + 10 * d + 1) (a : Int) l (l.length : Int) (i : Int) = some ((((l.drop i).foldl stepN a ^^^ 4294967295 : Nat) : Nat) : Int)
  | 0, k, a, i, ha, hi => by
    simp only [journal_Sum.l0, Nat.mul_zero, Nat.add_zero]
    rw [if_neg (by omega), outof a ha, List.drop_eq_nil_of_le (by omega)]
    rfl
  | d + 1, k, a, i, ha, hi => by
    rw [show k + 10 * (d + 1) + 1 = ((k + 10 * d + 1) + 8 + 1) + 1 by omega]
    rw [journal_Sum.l0]
    rw [if_pos (by omega), if_pos (by omega), if_pos (by omega), into a _ ha]
    have h := sum_l1 l (l.length : Int) (i : Int) 8 (k + 10 * d + 1) (a ^^^ (rd l i % 4294967296).toNat) 0 (Nat.xor_lt_two_pow (n := 32) ha (by omega)) (by omega)
    rw [show ((0 : Nat) : Int) = 0 from rfl] at h
    rw [h, wrap_succ (by omega) (by omega)]
    have hlt : i < l.length := by omega
    have h2 := sum_l0 l hl d k (stepN a (rd l i)) (i + 1) (stepN_lt ha _) (by omega)
    rw [List.drop_eq_getElem_cons hlt, List.foldl_cons]
    have e : rd l (i : Int) = l[i] := by unfold rd; simp [hlt]
    rw [e] at h2 ⊢
    exact h2
theorem sum_eq (l : List Int) (hl : l.length ≤ 140737488355328) : journal_Sum.f (10 * l.length + 1) l = some (sumOf l) := by
  have h := sum_l0 l hl l.length 0 4294967295 0 (by omega) (by omega)
  rw [Nat.zero_add, List.drop_zero] at h
  exact h

/-- the document's turn -/
theorem turn_ref_odd (a : Nat) (ha : a < 4294967296) (h : a % 2 = 1) : Go.bits .xor .u32 ((a : Int) / 2) 2197175160 = ((bitN a : Nat) : Int) := by
  have hd : (a : Int) / 2 = ((a / 2 : Nat) : Int) := by omega
  unfold bitN
  rw [hd, if_pos h]
  exact xor32 (a / 2) 2197175160 (by omega) (by omega)
theorem turn_ref_even (a : Nat) (h : a % 2 = 0) : (a : Int) / 2 = ((bitN a : Nat) : Int) := by
  unfold bitN
  rw [if_neg (by omega)]
  omega
theorem rsum_l1 (l : List Int) (x4 : Int) : ∀ (d k : Nat) (a j : Nat), a < 4294967296 → j + d = 8 →
    foolscapref31_Sum.l1 (k + d + 1) l (a : Int) x4 (j : Int) = foolscapref31_Sum.l0 k l ((bitsN d a : Nat) : Int) (wrap64 (x4 + 1))
  | 0, k, a, j, ha, hj => by
    simp only [foolscapref31_Sum.l1, Nat.add_zero]
    rw [if_neg (by omega)]
    rfl
  | d + 1, k, a, j, ha, hj => by
    rw [show k + (d + 1) + 1 = (k + d + 1) + 1 by omega]
    rw [foolscapref31_Sum.l1]
    rw [if_pos (by omega), and1 a ha, wrap_succ (by omega) (by omega)]
    have h := rsum_l1 l x4 d k (bitN a) (j + 1) (bitN_lt ha) (by omega)
    rcases Nat.mod_two_eq_zero_or_one a with e | e
    · rw [e, if_neg (by omega), turn_ref_even a e]
      exact h
    · rw [e, if_pos (by rfl), turn_ref_odd a ha e]
      exact h
theorem rsum_l0 (l : List Int) (hl : l.length ≤ 140737488355328) : ∀ (d k a i : Nat), a < 4294967296 → i + d = l.length →
    foolscapref31_Sum.l0 (k + 10 * d + 1) l (a : Int) (i : Int) = some ((((l.drop i).foldl stepN a ^^^ 4294967295 : Nat) : Nat) : Int)
  | 0, k, a, i, ha, hi => by
    simp only [foolscapref31_Sum.l0, Nat.mul_zero, Nat.add_zero]
    rw [if_neg (by omega), outof a ha, List.drop_eq_nil_of_le (by omega)]
    rfl
  | d + 1, k, a, i, ha, hi => by
    rw [show k + 10 * (d + 1) + 1 = ((k + 10 * d + 1) + 8 + 1) + 1 by omega]
    rw [foolscapref31_Sum.l0]
    rw [if_pos (by omega), if_pos (by omega), into a _ ha]
    have h := rsum_l1 l (i : Int) 8 (k + 10 * d + 1) (a ^^^ (rd l i % 4294967296).toNat) 0 (Nat.xor_lt_two_pow (n := 32) ha (by omega)) (by omega)
    rw [show ((0 : Nat) : Int) = 0 from rfl] at h
    rw [h, wrap_succ (by omega) (by omega)]
    have hlt : i < l.length := by omega
    have h2 := rsum_l0 l hl d k (stepN a (rd l i)) (i + 1) (stepN_lt ha _) (by omega)
    rw [List.drop_eq_getElem_cons hlt, List.foldl_cons]
    have e : rd l (i : Int) = l[i] := by unfold rd; simp [hlt]
    rw [e] at h2 ⊢
    exact h2
theorem rsum_eq (l : List Int) (hl : l.length ≤ 140737488355328) : foolscapref31_Sum.f (10 * l.length + 1) l = some (sumOf l) := by
  have h := rsum_l0 l hl l.length 0 4294967295 0 (by omega) (by omega)
  rw [Nat.zero_add, List.drop_zero] at h
  exact h

/-! one byte turned turns the sum -/
theorem xor_r {a b c : Nat} (h : a ^^^ c = b ^^^ c) : a = b := by
  have h2 : (a ^^^ c) ^^^ c = (b ^^^ c) ^^^ c := by rw [h]
  rwa [Nat.xor_assoc, Nat.xor_assoc, Nat.xor_self, Nat.xor_zero, Nat.xor_zero] at h2
theorem xor_l {a b c : Nat} (h : c ^^^ a = c ^^^ b) : a = b := xor_r (c := c) (by rw [Nat.xor_comm a, Nat.xor_comm b]; exact h)
theorem bitN_inj {a b : Nat} (ha : a < 4294967296) (hb : b < 4294967296) (h : bitN a = bitN b) : a = b := by
  have top : ∀ n, n < 4294967296 → (bitN n).testBit 31 = decide (n % 2 = 1) := by
    intro n hn
    unfold bitN
    have hlow : (n / 2).testBit 31 = false := Nat.testBit_lt_two_pow (by omega)
    split
    · rename_i h1
      rw [Nat.testBit_xor, hlow, h1]
      decide
    · rename_i h1
      rw [hlow]
      simp [h1]
  have hp : decide (a % 2 = 1) = decide (b % 2 = 1) := by rw [← top a ha, ← top b hb, h]
  unfold bitN at h
  by_cases h1 : a % 2 = 1
  · have h2 : b % 2 = 1 := by simpa [h1] using hp
    rw [if_pos h1, if_pos h2] at h
    have h3 : a / 2 = b / 2 := xor_r h
    omega
  · have h2 : ¬ b % 2 = 1 := by simpa [h1] using hp
    rw [if_neg h1, if_neg h2] at h
    omega
theorem bitsN_inj : ∀ (k : Nat) {a b : Nat}, a < 4294967296 → b < 4294967296 → bitsN k a = bitsN k b → a = b
  | 0, _, _, _, _, h => h
  | k + 1, _, _, ha, hb, h => bitN_inj ha hb (bitsN_inj k (bitN_lt ha) (bitN_lt hb) h)
theorem stepN_inj {a b : Nat} (ha : a < 4294967296) (hb : b < 4294967296) (c : Int) (h : stepN a c = stepN b c) : a = b :=
  xor_r (bitsN_inj 8 (Nat.xor_lt_two_pow (n := 32) ha (by omega)) (Nat.xor_lt_two_pow (n := 32) hb (by omega)) h)
theorem stepN_inj2 {a : Nat} (ha : a < 4294967296) {c d : Int} (hc : 0 ≤ c ∧ c ≤ 255) (hd : 0 ≤ d ∧ d ≤ 255) (h : stepN a c = stepN a d) : c = d := by
  have := xor_l (bitsN_inj 8 (Nat.xor_lt_two_pow (n := 32) ha (by omega)) (Nat.xor_lt_two_pow (n := 32) ha (by omega)) h)
  omega
theorem fold_inj (l : List Int) {a b : Nat} (ha : a < 4294967296) (hb : b < 4294967296) (h : l.foldl stepN a = l.foldl stepN b) : a = b := by
  induction l generalizing a b with
  | nil => exact h
  | cons c l ih => exact stepN_inj ha hb c (ih (stepN_lt ha c) (stepN_lt hb c) h)
theorem sumOf_turn (p q : List Int) {c d : Int} (hc : 0 ≤ c ∧ c ≤ 255) (hd : 0 ≤ d ∧ d ≤ 255) (h : sumOf (p ++ c :: q) = sumOf (p ++ d :: q)) : c = d := by
  have h1 : sumN (p ++ c :: q) = sumN (p ++ d :: q) := Int.ofNat.inj h
  unfold sumN at h1
  have h2 := xor_r h1
  rw [List.foldl_append, List.foldl_append, List.foldl_cons, List.foldl_cons] at h2
  have hp : p.foldl stepN 4294967295 < 4294967296 := fold_lt p (by omega)
  exact stepN_inj2 hp hc hd (fold_inj q (stepN_lt hp _) (stepN_lt hp _) h2)
end Go.Proofs.Ytoegeljjfhbpeaa.J
namespace Go.Proofs.Ytoegeljjfhbpeaa.J
open Go.RowKit Go.Proofs.YtoegeljjfhbpeaaW.PrintWords Go.Proofs.YtoegeljjfhbpeaaW.PrintLast Go.Proofs.YtoegeljjfhbpeaaW.PrintMore

def four (n : Int) : List Int := [(n / 16777216) % 256, (n / 65536) % 256, (n / 256) % 256, n % 256]
def low4 (n : Int) : List Int := [n % 256, (n / 256) % 256, (n / 65536) % 256, n / 16777216]
def lineSum (n : Int) (s : List Int) : List Int := low4 (sumOf (four (s.length : Int) ++ four n ++ s))
theorem bcell {w W : World} (hb : Below w.heap.size w W) : (∀ b o, b < w.heap.size → W.cell? ⟨b, o, none⟩ = w.cell? ⟨b, o, none⟩) ∧ (∀ b o, b < w.heap.size → W.frozen? ⟨b, o, none⟩ = w.frozen? ⟨b, o, none⟩) :=
  ⟨fun b o h => hb.cell (p := ⟨b, o, none⟩) h, fun b o h => hb.frozen (p := ⟨b, o, none⟩) h⟩
def u8s (l : List Int) : Value := .agg ((nums .u8 l).toArray)

theorem reads_arr (w : World) (l : List Int) (n : Nat) (hn : l.length = n) (hn2 : n ≤ 9223372036854775807) (t : TypeId) (cs : Array Value) (hcs : cs = (nums .u8 l).toArray) : ReadsInt (w.alloc (.cells cs t)) .u8 (some ⟨w.heap.size, 0, none⟩) n l :=
  ⟨hn, hn2, fun _ => ⟨_, rfl, fun j hj => by
    have hlt : j < l.length := by omega
    rw [add_plain, cell_of_row _ _ _ _ _ _ (heap_alloc_new w _), hcs]
    simp [nums, hlt]⟩⟩
/-- four cells of a block that a world has, all free -/
structure Four4 (w : World) (b : Nat) : Prop where
  c : ∀ j, j < 4 → ∃ v, w.cell? ⟨b, j, none⟩ = some v
  f : ∀ j, w.frozen? ⟨b, j, none⟩ = false
theorem Four4.new (w : World) (t : TypeId) (a b c d : Value) : Four4 (w.alloc (.cells #[a, b, c, d] t)) w.heap.size :=
  ⟨fun j hj => by
    rw [cell_of_row _ _ _ _ _ _ (heap_alloc_new w _)]
    obtain rfl | rfl | rfl | rfl : j = 0 ∨ j = 1 ∨ j = 2 ∨ j = 3 := by omega
    all_goals exact ⟨_, rfl⟩, fun j => frozen_of_row _ _ _ _ _ (heap_alloc_new w _)⟩
theorem Four4.below {w W : World} {B b : Nat} (h : Four4 w b) (hb : Below B w W) (hlt : b < B) : Four4 W b :=
  ⟨fun j hj => by obtain ⟨v, hv⟩ := h.c j hj; exact ⟨v, (hb.cell (p := ⟨b, j, none⟩) hlt).trans hv⟩, fun j => (hb.frozen (p := ⟨b, j, none⟩) hlt).trans (h.f j)⟩

theorem own_rd {w : World} {base n : Nat} {v : Value} {xs : List Int} (h : w.ownsRow base 5 1 v n (nums .u8 xs)) : ∃ A c, v = .slice A n c ∧ n ≤ c ∧ ReadsInt w .u8 A n xs := own_reads_of_le (enc := Value.int .u8) (d := 0) h
theorem Sum_any (A : Option Addr) (n c : Nat) (l : List Int) (w : World) (hn : l.length = n) (hR : ReadsInt w .u8 A n l) (hc : n ≤ c) (hl : n ≤ 140737488355328) :
    Calls Try.prog 12 #[.slice A n c] w fun e w' => e = .returned (.int .u32 (sumOf l)) ∧ Below w.heap.size w w' := by
  subst hn
  exact (PG.journal_Sum.calls _ A c l _ w (Kd.C_of_reads (d := (0 : Int)) (h1 := fun _ => rfl) hR) hc (sum_eq l hl)).mono fun e w' ⟨he, hd⟩ => ⟨he, hd.below⟩

set_option maxHeartbeats 1000000 in
theorem sum_any (n : Int) (A : Option Addr) (len c : Nat) (xs : List Int) (w : World) (h0 : 0 ≤ n) (h1 : n ≤ 9223372036854775807) (hl : xs.length = len) (hlen : len ≤ 140737488355320) (hR : ReadsInt w .u8 A len xs) :
    Calls Try.prog 37 #[.int .i64 n, .slice A len c] w fun e w' => e = .returned (u8s (lineSum n xs)) ∧ Below w.heap.size w w' := by
  have HR := Lib.hid hR
  have HL := Lib.hid hl
  clear hR hl
  go_enter Try.func37, Try.ntmps37
  go_wp2_with (go_at_call 36; refine (high_any _ _ (by omega) (by omega)).mono ?_; rintro e w1 ⟨rfl, hb⟩)
  rename_i wa hba _ _
  go_still_tail 3, (by kernel_rfl)
  have hz1 : w.heap.size + 1 ≤ w1.heap.size := by have h1 := hba.size; have h2 := hb.size; rw [World.size_alloc] at h1; omega
  have hB1 : Below (w.heap.size + 1) (w.alloc (.cells #[.int .u8 0, .int .u8 0, .int .u8 0, .int .u8 0] 71)) w1 := by
    have h1 := hba.size
    rw [World.size_alloc] at hba h1
    exact hba.trans (hb.mono h1)
  clear hba hb
  have hbel : Below (w.heap.size + 1) w1 ((w1.alloc (.cells (nums .u8 (four (len : Int))).toArray 71)).alloc (.cells (nums .u8 (four n)).toArray 71)).drew := (((Below.refl _ _).alloc hz1 _).alloc (by simp; omega) _).drew
  have r1 : ReadsInt ((w1.alloc (.cells (nums .u8 (four (len : Int))).toArray 71)).alloc (.cells (nums .u8 (four n)).toArray 71)).drew .u8 (some ⟨w1.heap.size, 0, none⟩) 4 (four (len : Int)) := (reads_arr w1 (four (len : Int)) 4 rfl (by omega) 71 _ rfl).below ((((Below.refl _ _).alloc (Nat.le_refl _) _)).drew)
  have r2 : ReadsInt ((w1.alloc (.cells (nums .u8 (four (len : Int))).toArray 71)).alloc (.cells (nums .u8 (four n)).toArray 71)).drew .u8 (some ⟨w1.heap.size + 1, 0, none⟩) 4 (four n) := by
    have h := reads_arr (w1.alloc (.cells (nums .u8 (four (len : Int))).toArray 71)) (four n) 4 rfl (by omega) 71 _ rfl
    rw [World.size_alloc] at h
    exact h.below ((Below.refl _ _).drew)
  have f0 : Four4 ((w1.alloc (.cells (nums .u8 (four (len : Int))).toArray 71)).alloc (.cells (nums .u8 (four n)).toArray 71)).drew w.heap.size := ((Four4.new w 71 _ _ _ _).below hB1 (by omega)).below hbel (by omega)
  have r3 : ReadsInt ((w1.alloc (.cells (nums .u8 (four (len : Int))).toArray 71)).alloc (.cells (nums .u8 (four n)).toArray 71)).drew .u8 A len xs := HR.out.below (((((Below.refl _ _).alloc (Nat.le_refl _) _).trans (hB1.mono (by omega)))).trans (hbel.mono (by omega)))
  have bW : Below w.heap.size w ((w1.alloc (.cells (nums .u8 (four (len : Int))).toArray 71)).alloc (.cells (nums .u8 (four n)).toArray 71)).drew := ((((Below.refl _ _).alloc (Nat.le_refl _) _).trans (hB1.mono (by omega)))).trans (hbel.mono (by omega))
  change wpList _ _ _ _ _ ((w1.alloc (.cells (nums .u8 (four (len : Int))).toArray 71)).alloc (.cells (nums .u8 (four n)).toArray 71)).drew
  generalize ((w1.alloc (.cells (nums .u8 (four (len : Int))).toArray 71)).alloc (.cells (nums .u8 (four n)).toArray 71)).drew = W at r1 r2 r3 f0 bW hbel ⊢
  have hsz : w.heap.size + 1 ≤ W.heap.size := Nat.le_trans hz1 hbel.size
  have R1 := Lib.hid r1
  have R2 := Lib.hid r2
  have R3 := Lib.hid r3
  have F0 := Lib.hid f0
  have BW := Lib.hid bW
  clear hB1 hbel r1 r2 r3 f0 bW HR
  go_wp2_with (first | (go_at_call 38; refine (concat_any W.heap.size (four (len : Int)) (four n) xs (some ⟨w1.heap.size, 0, none⟩) (some ⟨w1.heap.size + 1, 0, none⟩) A 4 4 len 4 4 c _ rfl rfl HL.out (by rw [cell_of_row _ _ _ _ _ _ (heap_alloc_new W _)]; rfl) (by rw [cell_of_row _ _ _ _ _ _ (heap_alloc_new W _)]; rfl) (by rw [cell_of_row _ _ _ _ _ _ (heap_alloc_new W _)]; rfl) (R1.out.below ((Below.refl _ _).alloc (Nat.le_refl _) _)) (R2.out.below ((Below.refl _ _).alloc (Nat.le_refl _) _)) (R3.out.below ((Below.refl _ _).alloc (Nat.le_refl _) _)) (by omega) (by omega)).mono ?_; rintro e w2 ⟨v, rfl, hown, hb⟩))
  have hsz2 : w.heap.size + 1 ≤ w2.heap.size := by have h := hb.size; rw [World.size_alloc] at h; omega
  have B2 : Hid (Below (w.heap.size + 1) W w2) := (((Below.refl _ _).alloc hsz _).trans (hb.mono (by rw [World.size_alloc]; omega)))
  obtain ⟨A2, c2, rfl, hle, r2⟩ := own_rd hown
  have R4 := Lib.hid r2
  clear hb hown r2
  refine (Sum_any A2 _ c2 _ w2 rfl R4.out hle (by rw [List.length_append, List.length_append, HL.out]; simp [four]; omega)).mono ?_
  rintro e w3 ⟨rfl, hb3⟩
  have hs := sumOf_range (four (len : Int) ++ four n ++ xs)
  have hs0 : 0 ≤ sumOf (four (len : Int) ++ four n ++ xs) := hs.1
  have hs1 : sumOf (four (len : Int) ++ four n ++ xs) ≤ 4294967295 := hs.2
  have B3 : Hid (Below (w.heap.size + 1) W w3) := B2.out.trans (hb3.mono hsz2)
  have hsz3 : w.heap.size + 1 ≤ w3.heap.size := Nat.le_trans hsz2 hb3.size
  clear hb3 hs B2 hle
  obtain ⟨sm, hsm⟩ : ∃ sm, sumOf (four (len : Int) ++ four n ++ xs) = sm := ⟨_, rfl⟩
  rw [hsm] at hs0 hs1 ⊢
  have HS := Lib.hid hsm
  clear hsm
  go_wp2_with (go_at_call 45; refine (low_any _ _ hs0 hs1).mono ?_; rintro e w4 ⟨rfl, hb4⟩; have F4 := (F0.out.below B3.out (by omega)).below (hb4.mono hsz3) (by omega); obtain ⟨y0, g0⟩ := F4.c 0 (by omega); obtain ⟨y1, g1⟩ := F4.c 1 (by omega); obtain ⟨y2, g2⟩ := F4.c 2 (by omega); obtain ⟨y3, g3⟩ := F4.c 3 (by omega); have q0 := F4.f 0; have q1 := F4.f 1; have q2 := F4.f 2; have q3 := F4.f 3; have B4 := Lib.hid ((BW.out.trans (B3.out.mono (Nat.le_succ _))).trans (hb4.mono (Nat.le_trans (Nat.le_succ _) hsz3))); clear hb4 F4)
  refine bodyPost_ret (v := .agg #[.int .u8 (sm % 256), .int .u8 (sm / 256 % 256), .int .u8 (sm / 65536 % 256), .int .u8 (sm / 16777216)]) (by simp [results, Try.results37, go_sem, g0, g1, g2, g3]) rfl ⟨?_, ?_⟩
  · have e : lineSum n xs = low4 sm := by unfold lineSum; rw [HL.out, HS.out]
    rw [e]
    rfl
  · exact (((B4.out.setCell (p := ⟨w.heap.size, 0, none⟩) (Nat.le_refl _) _).setCell (p := ⟨w.heap.size, 1, none⟩) (Nat.le_refl _) _).setCell (p := ⟨w.heap.size, 2, none⟩) (Nat.le_refl _) _).setCell (p := ⟨w.heap.size, 3, none⟩) (Nat.le_refl _) _
end Go.Proofs.Ytoegeljjfhbpeaa.J
namespace Go.Proofs.Ytoegeljjfhbpeaa.J
open Go.RowKit Go.Proofs.YtoegeljjfhbpeaaW.PrintWords Go.Proofs.YtoegeljjfhbpeaaW.PrintLast Go.Proofs.YtoegeljjfhbpeaaW.PrintMore

def frameL (n : Int) (s : List Int) : List Int := four (s.length : Int) ++ lineSum n s ++ s

theorem frame_arg (n : Int) (s : ByteArray) (w : World) (h : n < 0 ∨ 2147483647 < n) (hs : s.size ≤ 140737488351232) :
    Calls Try.prog 10 #[.int .i64 n, .string s] w fun e w' => e = .returned (.tuple #[.slice none 0 0, .int .i64 2]) ∧ Below w.heap.size w w' := by
  rcases h with h | h
  · go_enter Try.func10, Try.ntmps10
    go_wp2
    go_ret2
    exact ⟨rfl, Below.refl _ _⟩
  · have h' : ¬ n < 0 := by omega
    go_enter Try.func10, Try.ntmps10
    go_wp2
    go_ret2
    exact ⟨rfl, Below.refl _ _⟩
theorem frame_big (n : Int) (s : ByteArray) (w : World) (h0 : 0 ≤ n) (h1 : n ≤ 2147483647) (hs : s.size ≤ 140737488351232) (hb : 65536 < s.size) :
    Calls Try.prog 10 #[.int .i64 n, .string s] w fun e w' => e = .returned (.tuple #[.slice none 0 0, .int .i64 7]) ∧ Below w.heap.size w w' := by
  go_enter Try.func10, Try.ntmps10
  go_wp2
  go_ret2
  exact ⟨rfl, Below.refl _ _⟩
theorem conv_below (w : World) (s : ByteArray) : Below w.heap.size w (Lib.bytesWorld w 5 s) :=
  ⟨rfl, rfl, rfl, by rw [Lib.bytesWorld_size]; omega, fun k hk => Lib.bytesWorld_at_old w 5 s k hk⟩
theorem conv_reads (w : World) (s : ByteArray) (hs : s.size ≤ 9223372036854775807) : ReadsInt (Lib.bytesWorld w 5 s) .u8 (some ⟨w.heap.size, 0, none⟩) s.size (bytesOf s) :=
  ⟨bytesOf_length s, hs, fun _ => ⟨_, rfl, fun j hj => by
    rw [add_plain, Lib.bytesWorld_cell w 5 s j hj]
    have hd : j < s.data.toList.length := by simpa using hj
    have hd2 : j < s.data.size := hj
    simp [bytesOf, List.getD, hd2, Array.getElem?_eq_getElem hd2]⟩⟩
theorem low4_len (n : Int) (s : List Int) : (lineSum n s).length = 4 := rfl
set_option maxHeartbeats 1000000 in
theorem frame_any (n : Int) (s : ByteArray) (w : World) (h0 : 0 ≤ n) (h1 : n ≤ 2147483647) (hs : s.size ≤ 65536) :
    Calls Try.prog 10 #[.int .i64 n, .string s] w fun e w' => ∃ v, e = .returned (.tuple #[v, .int .i64 0]) ∧ w'.ownsRow w.heap.size 5 1 v (frameL n (bytesOf s)).length (nums .u8 (frameL n (bytesOf s))) ∧ Below w.heap.size w w' := by
  have hconv := fun w => Lib.run_convert_string_bytes (P := Try.prog) w 9 22 5 s Try.underlying9 Try.underlying22 Try.underlying5
  go_enter Try.func10, Try.ntmps10
  go_wp2_with (first | (go_at_call 36; refine (high_any _ _ (by omega) (by omega)).mono ?_; rintro e w1 ⟨rfl, hb⟩))
  have hz1 := hb.size
  refine (sum_any n (some ⟨w1.heap.size, 0, none⟩) s.size _ (bytesOf s) _ h0 (by omega) (bytesOf_length s) (by omega) (conv_reads w1 s (by omega))).mono ?_
  rintro e w2 ⟨rfl, hb2⟩
  have hz2 : w1.heap.size ≤ w2.heap.size := Nat.le_trans (conv_below w1 s).size hb2.size
  have hB : Below w.heap.size w w2 := (hb.trans ((conv_below w1 s).mono hz1)).trans (hb2.mono (by rw [Lib.bytesWorld_size]; omega))
  clear hb hb2
  have HS := Lib.hid hs
  have hlsum : lineSum n (bytesOf s) = low4 (sumOf (four ((bytesOf s).length : Int) ++ four n ++ bytesOf s)) := rfl
  obtain ⟨sm, hsm⟩ : ∃ sm, sumOf (four ((bytesOf s).length : Int) ++ four n ++ bytesOf s) = sm := ⟨_, rfl⟩
  rw [hsm] at hlsum
  have hfr : frameL n (bytesOf s) = four (s.size : Int) ++ low4 sm ++ bytesOf s := by unfold frameL; rw [hlsum, bytesOf_length]
  have HF := Lib.hid hfr
  rw [hlsum]
  simp only [u8s, low4, nums, List.map_cons, List.map_nil]
  clear hlsum hsm hfr
  go_wp2
  have R1 : Hid (ReadsInt ((w2.alloc (.cells (nums .u8 (four (s.size : Int))).toArray 71)).alloc (.cells (nums .u8 (low4 sm)).toArray 71)) .u8 (some ⟨w2.heap.size, 0, none⟩) 4 (four (s.size : Int))) := (reads_arr w2 (four (s.size : Int)) 4 rfl (by omega) 71 _ rfl).below ((((Below.refl _ _).alloc (Nat.le_refl _) _)))
  have R2 : Hid (ReadsInt ((w2.alloc (.cells (nums .u8 (four (s.size : Int))).toArray 71)).alloc (.cells (nums .u8 (low4 sm)).toArray 71)) .u8 (some ⟨w2.heap.size + 1, 0, none⟩) 4 (low4 sm)) := by
    have h := reads_arr (w2.alloc (.cells (nums .u8 (four (s.size : Int))).toArray 71)) (low4 sm) 4 rfl (by omega) 71 _ rfl
    rw [World.size_alloc] at h
    exact h
  have BW : Hid (Below w.heap.size w ((w2.alloc (.cells (nums .u8 (four (s.size : Int))).toArray 71)).alloc (.cells (nums .u8 (low4 sm)).toArray 71))) := (hB.alloc (by omega) _).alloc (by rw [World.size_alloc]; omega) _
  change Code.wp _ _ _ _ ((w2.alloc (.cells (nums .u8 (four (s.size : Int))).toArray 71)).alloc (.cells (nums .u8 (low4 sm)).toArray 71))
  generalize (w2.alloc (.cells (nums .u8 (four (s.size : Int))).toArray 71)).alloc (.cells (nums .u8 (low4 sm)).toArray 71) = W at R1 R2 BW ⊢
  clear hB
  have X1 : Hid (Below W.heap.size W (Lib.bytesWorld W.drew 5 s)) := ((Below.refl _ W).drew).trans (conv_below W.drew s)
  have X2 : Hid ((Lib.bytesWorld W.drew 5 s).heap.size = W.heap.size + 1) := Lib.bytesWorld_size W.drew 5 s
  have X3 : Hid (ReadsInt (Lib.bytesWorld W.drew 5 s) .u8 (some ⟨W.heap.size, 0, none⟩) s.size (bytesOf s)) := conv_reads W.drew s (by omega)
  go_region_with (go_at_call 38; refine (concat_any _ (four (s.size : Int)) (low4 sm) (bytesOf s) (some ⟨w2.heap.size, 0, none⟩) (some ⟨w2.heap.size + 1, 0, none⟩) (some ⟨W.heap.size, 0, none⟩) 4 4 s.size 4 4 _ _ rfl rfl (bytesOf_length s) (by rw [cell_of_row _ _ _ _ _ _ (heap_alloc_new _ _)]; rfl) (by rw [cell_of_row _ _ _ _ _ _ (heap_alloc_new _ _)]; rfl) (by rw [cell_of_row _ _ _ _ _ _ (heap_alloc_new _ _)]; rfl) (R1.out.below (X1.out.alloc (by rw [X2.out]; omega) _)) (R2.out.below (X1.out.alloc (by rw [X2.out]; omega) _)) (X3.out.below ((Below.refl _ _).alloc (Nat.le_refl _) _)) (by omega) (by omega)).mono ?_; rintro e w3 ⟨v, rfl, hown, hb⟩)
  have hz3 : w.heap.size ≤ ((Lib.bytesWorld W.drew 5 s).alloc (Obj.cells #[Value.slice (some { block := w2.heap.size, off := 0 }) 4 4, Value.slice (some { block := w2.heap.size + 1, off := 0 }) 4 4, Value.slice (some { block := W.heap.size, off := 0 }) s.size (grownCap W.drew s.size 0 5)] 22)).heap.size := by
    have h1 := BW.out.size
    have h2 := X1.out.size
    rw [World.size_alloc]
    omega
  have HO := Lib.hid (own_weaken hown hz3)
  have HB := Lib.hid ((BW.out.trans ((X1.out.alloc (by rw [X2.out]; omega) _).mono BW.out.size)).trans (hb.mono hz3))
  clear hown hb hz3
  go_wp2
  go_ret2
  refine ⟨v, rfl, ?_, HB.out⟩
  rw [HF.out]
  exact HO.out
end Go.Proofs.Ytoegeljjfhbpeaa.J
namespace Go.Proofs.Ytoegeljjfhbpeaa.J
open Go.RowKit Go.Proofs.YtoegeljjfhbpeaaW.PrintWords Go.Proofs.YtoegeljjfhbpeaaW.PrintLast Go.Proofs.YtoegeljjfhbpeaaW.PrintMore Go.Proofs.Ytoegeljjfhbpeaa.PG

theorem rframe_arg (n : Int) (s : ByteArray) (w : World) (h : n < 0 ∨ 2147483647 < n) (hs : s.size ≤ 140737488351232) :
    Calls Try.prog 11 #[.int .i64 n, .string s] w fun e w' => e = .returned (.tuple #[.slice none 0 0, .int .i64 2]) ∧ Below w.heap.size w w' := by
  rcases h with h | h
  · go_enter Try.func11, Try.ntmps11
    go_wp2
    go_ret2
    exact ⟨rfl, Below.refl _ _⟩
  · have h' : ¬ n < 0 := by omega
    go_enter Try.func11, Try.ntmps11
    go_wp2
    go_ret2
    exact ⟨rfl, Below.refl _ _⟩
theorem rframe_big (n : Int) (s : ByteArray) (w : World) (h0 : 0 ≤ n) (h1 : n ≤ 2147483647) (hs : s.size ≤ 140737488351232) (hb : 65536 < s.size) :
    Calls Try.prog 11 #[.int .i64 n, .string s] w fun e w' => e = .returned (.tuple #[.slice none 0 0, .int .i64 7]) ∧ Below w.heap.size w w' := by
  go_enter Try.func11, Try.ntmps11
  go_wp2
  go_ret2
  exact ⟨rfl, Below.refl _ _⟩
theorem four_any (n : Int) (w : World) : Calls Try.prog 39 #[.int .i64 n] w fun e w' => ∃ v, e = .returned v ∧ w'.ownsRow w.heap.size 5 1 v 4 (nums .u8 (four n)) ∧ Below w.heap.size w w' :=
  (foolscapref31_Four.calls n (four n) w rfl).mono fun e w' ⟨v, he, hR, hb⟩ => by
    have h := Kd.own_of_R (enc := Value.int .u8) hR
    exact ⟨v, he, h, hb⟩
theorem rSum_any (A : Option Addr) (n c : Nat) (l : List Int) (w : World) (hn : l.length = n) (hR : ReadsInt w .u8 A n l) (hc : n ≤ c) (hl : n ≤ 140737488355328) :
    Calls Try.prog 13 #[.slice A n c] w fun e w' => e = .returned (.int .u32 (sumOf l)) ∧ Below w.heap.size w w' := by
  subst hn
  exact (PG.foolscapref31_Sum.calls _ A c l _ w (Kd.C_of_reads (d := (0 : Int)) (h1 := fun _ => rfl) hR) hc (rsum_eq l hl)).mono fun e w' ⟨he, hd⟩ => ⟨he, hd.below⟩
set_option maxHeartbeats 1000000 in
theorem rframe_any (n : Int) (s : ByteArray) (w : World) (h0 : 0 ≤ n) (h1 : n ≤ 2147483647) (hs : s.size ≤ 65536) :
    Calls Try.prog 11 #[.int .i64 n, .string s] w fun e w' => ∃ v, e = .returned (.tuple #[v, .int .i64 0]) ∧ w'.ownsRow w.heap.size 5 1 v (frameL n (bytesOf s)).length (nums .u8 (frameL n (bytesOf s))) ∧ Below w.heap.size w w' := by
  go_enter Try.func11, Try.ntmps11
  go_wp2_with (first
    | (go_at_call 39; (with_reducible refine (four_any (s.size : Int) _).mono ?_); rintro e w1 ⟨vl, rfl, hown, hb⟩; obtain ⟨A1, c1, rfl, hc1, hr1⟩ := own_rd hown; have O1 := Lib.hid hown; have B1 := Lib.hid hb; have R1 := Lib.hid hr1; have S1 : w.heap.size ≤ w1.heap.size := hb.size; clear hown hb hr1 hc1)
    | (at_builtin; refine print_append_row (w0 := w1) w1.heap.size rfl (.tmp 21) (.tmp 22) 22 5 .u8 1 rfl Try.underlying22 info5 (by omega) _ [] (four (s.size : Int)) A1 4 c1 rfl rfl (World.ownsRow_made w1 #[] 0 (Nat.le_refl _) (Nat.zero_le _) (by simp)) (R1.out.below ((Below.refl _ _).alloc (Nat.le_refl _) _)) ((Below.refl _ _).alloc (Nat.le_refl _) _) (by simp) (by simp) ?_; rintro v2 w2 hown2 hb2 hg2 hat2; have O2 := Lib.hid hown2; have B2 := Lib.hid hb2; have S2 : w1.heap.size ≤ w2.heap.size := hb2.size; clear hown2 hb2 hg2 hat2)
    | (go_at_call 39; (with_reducible refine (four_any n _).mono ?_); rintro e w3 ⟨vn, rfl, hown3, hb3⟩; obtain ⟨A3, c3, rfl, hc3, hr3⟩ := own_rd hown3; have B3 := Lib.hid hb3; have R3 := Lib.hid hr3; have S3 : w2.heap.size ≤ w3.heap.size := hb3.size; clear hown3 hb3 hr3 hc3)
    | (at_builtin; refine print_append_row (w0 := w1) w1.heap.size rfl (.tmp 23) (.tmp 25) 22 5 .u8 1 rfl Try.underlying22 info5 (by omega) _ (four (s.size : Int)) (four n) A3 4 c3 rfl rfl (pw_own_below O2.out B3.out) R3.out (B2.out.trans (B3.out.mono S2)) (by omega) (by simp [four]) ?_; rintro v4 w4 hown4 hb4 hg4 hat4; have O4 := Lib.hid hown4; have B4 := Lib.hid hb4; have S4 : w1.heap.size ≤ w4.heap.size := hb4.size; clear hown4 hb4 hg4 hat4)
    | (at_builtin; refine print_append_str (w0 := w1) w1.heap.size rfl (.tmp 26) (.tmp 27) 22 9 5 rfl Try.underlying22 Try.underlying9 info5 _ (four (s.size : Int) ++ four n) s rfl rfl O4.out B4.out S4 (by simp [four]; omega) ?_; rintro v5 w5 hown5 hb5 hg5; obtain ⟨A5, c5, rfl, hc5, hr5⟩ := own_rd hown5; have B5 := Lib.hid hb5; have R5 := Lib.hid hr5; have C5 := Lib.hid hc5; have S5 : w1.heap.size ≤ w5.heap.size := hb5.size; clear hown5 hb5 hg5 hr5 hc5))
  refine (rSum_any A5 _ c5 (four (s.size : Int) ++ four n ++ bytesOf s) w5 (by simp) (by simpa using R5.out) (by simpa using C5.out) (by rw [bytesOf_length]; simp [four]; omega)).mono ?_
  rintro e w6 ⟨rfl, hb6⟩
  have B6 := Lib.hid (B5.out.trans (hb6.mono S5))
  have S6 : w1.heap.size ≤ w6.heap.size := Nat.le_trans S5 hb6.size
  have hs := sumOf_range (four (s.size : Int) ++ four n ++ bytesOf s)
  have hs0 : 0 ≤ sumOf (four (s.size : Int) ++ four n ++ bytesOf s) := hs.1
  have hs1 : sumOf (four (s.size : Int) ++ four n ++ bytesOf s) ≤ 4294967295 := hs.2
  have HF : Hid (frameL n (bytesOf s) = four (s.size : Int) ++ low4 (sumOf (four (s.size : Int) ++ four n ++ bytesOf s)) ++ bytesOf s) := by show _ = _; unfold frameL lineSum; rw [bytesOf_length]
  clear hs hb6 O1 O2 O4 R3 R5 B2 B3 B4 B5 C5 S2 S3 S4
  obtain ⟨sm, hsm⟩ : ∃ sm, sumOf (four (s.size : Int) ++ four n ++ bytesOf s) = sm := ⟨_, rfl⟩
  rw [hsm] at hs0 hs1 HF ⊢
  clear hsm
  have hr6 : Hid (ReadsInt w6 .u8 A1 4 (four (s.size : Int))) := R1.out.below B6.out
  clear R1
  go_wp2_with (first
    | (at_builtin; refine print_append_row (w0 := w6) w6.heap.size rfl (.tmp 30) (.tmp 31) 22 5 .u8 1 rfl Try.underlying22 info5 (by omega) _ [] (four (s.size : Int)) A1 4 c1 rfl rfl (World.ownsRow_made w6 #[] 0 (Nat.le_refl _) (Nat.zero_le _) (by simp)) (hr6.out.below ((Below.refl _ _).alloc (Nat.le_refl _) _)) ((Below.refl _ _).alloc (Nat.le_refl _) _) (by simp) (by simp) ?_; rintro v7 w7 hown7 hb7 hg7 hat7; have O7 := Lib.hid hown7; have B7 := Lib.hid hb7; have S7 : w6.heap.size ≤ w7.heap.size := hb7.size; clear hown7 hb7 hg7 hat7)
    | (at_builtin; refine print_append_row (w0 := w6) w6.heap.size rfl (.tmp 33) (.tmp 45) 22 5 .u8 1 rfl Try.underlying22 info5 (by omega) _ (four (s.size : Int)) (low4 sm) (some ⟨w7.heap.size, 0, none⟩) 4 4 rfl rfl (O7.out.alloc _) (reads_arr w7 (low4 sm) 4 rfl (by omega) 5 _ rfl) (B7.out.alloc S7 _) (by simp; omega) (by simp [four]) ?_; rintro v8 w8 hown8 hb8 hg8 hat8; have O8 := Lib.hid hown8; have B8 := Lib.hid hb8; have S8 : w6.heap.size ≤ w8.heap.size := hb8.size; clear hown8 hb8 hg8 hat8)
    | (at_builtin; refine print_append_str (w0 := w6) w6.heap.size rfl (.tmp 47) (.tmp 48) 22 9 5 rfl Try.underlying22 Try.underlying9 info5 _ (four (s.size : Int) ++ low4 sm) s rfl rfl O8.out B8.out S8 (by simp [four, low4]; omega) ?_; rintro v9 w9 hown9 hb9 hg9; have O9 := Lib.hid hown9; have B9 := Lib.hid hb9; clear hown9 hb9 hg9))
  go_ret2
  have S16 : w.heap.size ≤ w6.heap.size := Nat.le_trans S1 S6
  refine ⟨v9, rfl, ?_, ?_⟩
  · rw [HF.out]
    exact own_weaken O9.out S16
  · exact (B1.out.trans (B6.out.mono S1)).trans (B9.out.mono S16)
end Go.Proofs.Ytoegeljjfhbpeaa.J
