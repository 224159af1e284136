import Derived.Test.YtoegeljjfhbpeaaJA
import Derived.Lib.AppendZerosOnto
import Derived.Deep.AppendSrc
import Derived.Lib.AppendZeros
import Derived.Lib.Hide
set_option linter.unusedVariables false
set_option linter.unusedSimpArgs false
namespace Go.Proofs.Ytoegeljjfhbpeaa.J
open Go.RowKit Go.Proofs.YtoegeljjfhbpeaaW.PrintWords Go.Proofs.YtoegeljjfhbpeaaW.PrintLast Go.Proofs.YtoegeljjfhbpeaaW.PrintMore

theorem info5 : (Try.prog.info? 5).map (fun i => (i.zero, i.size, i.bytes)) = some (some (.int .u8 0), 1, 1) := by kernel_rfl
/-- slices.Grow of no row, by n. -/
theorem grow_nil (n : Nat) (h0 : 0 < n) (hbig : n ≤ 140737488355328) (w : World) :
    Calls Try.prog 46 #[.slice none 0 0, .int .i64 n] w fun e w' => ∃ v, e = .returned v ∧ w'.ownsRow w.heap.size 5 1 v 0 [] ∧ Below w.heap.size w w' := by
  obtain ⟨i0, hi, hz0, hz1, hz2⟩ := info_parts info5
  have hrz : ∀ ty, (Builtin.append_ #[22, 3] ty #[.slice none 0 0, .int .i64 (n : Int)]).run Try.prog w =
      .ok (.slice (some ⟨w.heap.size, 0, none⟩) n (grownCap w n 0 5)) (w.drew.alloc (.cells (#[] ++ Builtin.zeroCells (Value.int .u8 0).cells n ++ Builtin.zeroCells (Value.int .u8 0).cells (grownCap w n 0 5 - n)) 5)) := fun ty => by
    have h := Lib.run_append_grow_zeros w 22 3 ty 5 i0 (.int .u8 0) .i64 .i64 Try.underlying22 Try.underlying3 hi hz0 none 0 0 [] (run_firstCells_none w.drew i0.size 0 0 0) n h0 (by omega) (by omega) (by omega)
      (by rw [hz2]; omega) (growslice_fits (by omega) (by rw [hz2]; omega))
    simp only [Nat.zero_add] at h
    exact h
  have hGn : n ≤ grownCap w n 0 5 := grownCap_ge w _ _ _
  have hGm : grownCap w n 0 5 ≤ maxLen := grownCap_le_maxLen w n 0 5 (by unfold maxLen; omega)
  have hG64 : grownCap w n 0 5 ≤ 9223372036854775807 := by unfold maxLen at hGm; omega
  obtain ⟨G, hG⟩ : ∃ G, grownCap w n 0 5 = G := ⟨_, rfl⟩
  rw [hG] at hrz hGn hGm hG64
  clear hG
  have hown : Hid ((w.drew.alloc (.cells (#[] ++ Builtin.zeroCells (Value.int .u8 0).cells n ++ Builtin.zeroCells (Value.int .u8 0).cells (G - n)) 5)).ownsRow w.heap.size 5 1 (.slice (some ⟨w.heap.size, 0, none⟩) 0 G) 0 []) := by
    have := World.ownsRow_made (base := w.heap.size) (e := 5) (size := 1) w.drew (#[] ++ Builtin.zeroCells (Value.int .u8 0).cells n ++ Builtin.zeroCells (Value.int .u8 0).cells (G - n)) G (Nat.le_refl _) hGm (by simp [size_zeroCells, Value.cells]; omega)
    exact this
  obtain ⟨wn, hwn⟩ : ∃ wn, w.drew.alloc (.cells (#[] ++ Builtin.zeroCells (Value.int .u8 0).cells n ++ Builtin.zeroCells (Value.int .u8 0).cells (G - n)) 5) = wn := ⟨_, rfl⟩
  rw [hwn] at hrz hown
  have hbel : Hid (Below w.heap.size w wn) := by rw [← hwn]; exact ((Below.refl _ _).drew).alloc (Nat.le_refl _) _
  clear hwn
  go_enter Try.func46, Try.ntmps46
  go_wp2_with (at_builtin; refine Lib.wpList_append_run _ rfl _ _ _ _ rfl _ _ rfl rfl _ _ (hrz _) ?_)
  go_ret
  exact ⟨_, rfl, hown.out, hbel.out⟩

def cat3 (x y z : List Int) : Nat → List Int
  | 0 => []
  | 1 => x
  | 2 => x ++ y
  | _ => x ++ y ++ z
/-- slices.Concat of three rows of bytes (not all empty). -/
theorem concat_any (B : Nat) (x y z : List Int) (Ax Ay Az : Option Addr) (nx ny nz cx cy cz : Nat) (w : World) (hx : x.length = nx) (hy : y.length = ny) (hz : z.length = nz)
    (h0 : w.cell? ⟨B, 0, none⟩ = some (.slice Ax nx cx)) (h1 : w.cell? ⟨B, 1, none⟩ = some (.slice Ay ny cy)) (h2 : w.cell? ⟨B, 2, none⟩ = some (.slice Az nz cz))
    (rx : ReadsInt w .u8 Ax nx x) (ry : ReadsInt w .u8 Ay ny y) (rz : ReadsInt w .u8 Az nz z)
    (hpos : 0 < nx) (hbig : nx + ny + nz ≤ 140737488355328) :
    Calls Try.prog 38 #[.slice (some ⟨B, 0, none⟩) 3 3] w fun e w' => ∃ v, e = .returned v ∧ w'.ownsRow w.heap.size 5 1 v (x ++ y ++ z).length (nums .u8 (x ++ y ++ z)) ∧ Below w.heap.size w w' := by
  have Rx := Lib.hid rx
  have Ry := Lib.hid ry
  have Rz := Lib.hid rz
  have Hx := Lib.hid hx
  have Hy := Lib.hid hy
  have Hz := Lib.hid hz
  clear rx ry rz hx hy hz
  go_enter Try.func38, Try.ntmps38
  go_wp2
  go_loop [3, 11] (fun s i => ∃ k : Nat, k ≤ 3 ∧ i = .int .i64 k ∧ s = .int .i64 (match k with | 0 => 0 | 1 => (nx : Int) | 2 => (nx : Int) + ny | _ => (nx : Int) + ny + nz)) (fun _ i => 3 - (intOf i).toNat)
  case atStart => exact ⟨0, by omega, rfl, rfl⟩
  case round =>
    obtain ⟨k, hk, rfl, rfl⟩ := hrel
    obtain rfl | rfl | rfl | rfl : k = 0 ∨ k = 1 ∨ k = 2 ∨ k = 3 := by omega
    · simp only []
      go_wp2
      go_round
      case rel => exact ⟨1, by omega, by simp, by simp⟩
      case measure => simp [intOf]
    · simp only []
      go_wp2
      go_round
      case rel => exact ⟨2, by omega, by simp, by simp⟩
      case measure => simp [intOf]
    · simp only []
      go_wp2
      go_round
      case rel => exact ⟨3, by omega, by simp, by simp⟩
      case measure => simp [intOf]
    · simp only []
      rw [show ((3 : Nat) : Int) = 3 from rfl]
      go_wp2_with (go_at_call 46; rw [show (nx : Int) + ny + nz = ((nx + ny + nz : Nat) : Int) by omega]; refine (grow_nil (nx + ny + nz) (by omega) (by omega) _).mono ?_; rintro e w1 ⟨v, rfl, hown, hb⟩)
      have Hb := Lib.hid hb
      have Ho := Lib.hid hown
      have H0 := Lib.hid h0
      have H1 := Lib.hid h1
      have H2 := Lib.hid h2
      clear hb hown h0 h1 h2
      go_loopw [6, 8, 27] (fun v _ i wr => ∃ k : Nat, k ≤ 3 ∧ i = .int .i64 k ∧ wr.ownsRow w.heap.size 5 1 v (cat3 x y z k).length (nums .u8 (cat3 x y z k)) ∧ Below w.heap.size w wr) (fun _ _ i _ => 3 - (intOf i).toNat)
      case atStart => exact ⟨0, by omega, rfl, Ho.out, Hb.out⟩
      case round =>
        obtain ⟨k, hk, rfl, hown, hb⟩ := hrel
        have hsz := hb.size
        have Hb := Lib.hid hb
        have Ho := Lib.hid hown
        have c0 : wr.cell? ⟨B, 0, none⟩ = some (.slice Ax nx cx) := pw_cell_below hb H0.out
        have c1 : wr.cell? ⟨B, 1, none⟩ = some (.slice Ay ny cy) := pw_cell_below hb H1.out
        have c2 : wr.cell? ⟨B, 2, none⟩ = some (.slice Az nz cz) := pw_cell_below hb H2.out
        have hlx := Hx.out
        have hly := Hy.out
        have hlz := Hz.out
        have Lx := Lib.hid hlx
        have Ly := Lib.hid hly
        have Lz := Lib.hid hlz
        clear hb hown hlx hly hlz
        obtain rfl | rfl | rfl | rfl : k = 0 ∨ k = 1 ∨ k = 2 ∨ k = 3 := by omega
        · go_wp2_with (at_builtin; refine print_append_row (w0 := w) w.heap.size rfl _ _ 22 5 .u8 1 rfl Try.underlying22 info5 (by omega) _ (cat3 x y z 0) x Ax nx cx rfl rfl Ho.out (Rx.out.below Hb.out) Hb.out hsz (by simp [cat3]; omega) ?_; rintro v1 w2 hown1 hb1 hg1 hat1)
          go_roundw
          case rel => exact ⟨1, by omega, by simp, by simpa [cat3] using hown1, hb1⟩
          case measure => simp [intOf]
        · go_wp2_with (at_builtin; refine print_append_row (w0 := w) w.heap.size rfl _ _ 22 5 .u8 1 rfl Try.underlying22 info5 (by omega) _ (cat3 x y z 1) y Ay ny cy rfl rfl Ho.out (Ry.out.below Hb.out) Hb.out hsz (by simp only [cat3]; have := Lx.out; omega) ?_; rintro v1 w2 hown1 hb1 hg1 hat1)
          go_roundw
          case rel => exact ⟨2, by omega, by simp, by simpa [cat3] using hown1, hb1⟩
          case measure => simp [intOf]
        · go_wp2_with (at_builtin; refine print_append_row (w0 := w) w.heap.size rfl _ _ 22 5 .u8 1 rfl Try.underlying22 info5 (by omega) _ (cat3 x y z 2) z Az nz cz rfl rfl Ho.out (Rz.out.below Hb.out) Hb.out hsz (by simp only [cat3, List.length_append]; have := Lx.out; have := Ly.out; omega) ?_; rintro v1 w2 hown1 hb1 hg1 hat1)
          go_roundw
          case rel => exact ⟨3, by omega, by simp, by simpa [cat3] using hown1, hb1⟩
          case measure => simp [intOf]
        · rw [show ((3 : Nat) : Int) = 3 from rfl]
          go_wp2
          go_ret
          exact ⟨_, rfl, Ho.out, Hb.out⟩
end Go.Proofs.Ytoegeljjfhbpeaa.J
