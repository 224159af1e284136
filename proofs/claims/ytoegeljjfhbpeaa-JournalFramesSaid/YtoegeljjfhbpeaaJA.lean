import Derived.Test.YtoegeljjfhbpeaaPGx
import Derived.Shelf.Abstract
set_option linter.unusedVariables false
set_option linter.unusedSimpArgs false
namespace Go.Proofs.Ytoegeljjfhbpeaa.J
open Go.RowKit Go.Proofs.YtoegeljjfhbpeaaW.PrintWords Go.Proofs.YtoegeljjfhbpeaaW.PrintLast Go.Proofs.YtoegeljjfhbpeaaW.PrintMore

def arr4 (a b c d : Int) : Nat → Array Value
  | 0 => #[.int .u8 0, .int .u8 0, .int .u8 0, .int .u8 0]
  | 1 => #[.int .u8 a, .int .u8 0, .int .u8 0, .int .u8 0]
  | 2 => #[.int .u8 a, .int .u8 b, .int .u8 0, .int .u8 0]
  | 3 => #[.int .u8 a, .int .u8 b, .int .u8 c, .int .u8 0]
  | _ => #[.int .u8 a, .int .u8 b, .int .u8 c, .int .u8 d]
set_option maxHeartbeats 1000000 in
theorem high_any (n : Int) (w : World) (h0 : 0 ≤ n) (h1 : n ≤ 9223372036854775807) :
    Calls Try.prog 36 #[.int .i64 n] w fun e w' => e = .returned (.agg #[.int .u8 ((n / 16777216) % 256), .int .u8 ((n / 65536) % 256), .int .u8 ((n / 256) % 256), .int .u8 (n % 256)]) ∧ Below w.heap.size w w' := by
  go_enter Try.func36, Try.ntmps36
  go_wp2
  go_loopw [5] (fun i wr => ∃ k : Nat, k ≤ 4 ∧ i = .int .i64 k ∧ wr = (w.alloc (.cells (arr4 0 0 0 0 0) 71)).alloc (.cells (arr4 ((n / 16777216) % 256) ((n / 65536) % 256) ((n / 256) % 256) (n % 256) k) 71)) (fun i _ => 4 - (intOf i).toNat)
  case atStart => exact ⟨0, by omega, rfl, rfl⟩
  case round =>
    obtain ⟨k, hk, rfl, rfl⟩ := hrel
    obtain rfl | rfl | rfl | rfl | rfl : k = 0 ∨ k = 1 ∨ k = 2 ∨ k = 3 ∨ k = 4 := by omega
    · simp only [arr4]
      go_wp2
      go_roundw
      case rel => exact ⟨1, by omega, by simp, by simp [arr4]⟩
      case measure => simp [intOf]
    · simp only [arr4]
      go_wp2
      go_roundw
      case rel => exact ⟨2, by omega, by simp, by simp [arr4]⟩
      case measure => simp [intOf]
    · simp only [arr4]
      go_wp2
      go_roundw
      case rel => exact ⟨3, by omega, by simp, by simp [arr4]⟩
      case measure => simp [intOf]
    · simp only [arr4]
      go_wp2
      go_roundw
      case rel => exact ⟨4, by omega, by simp, by simp [arr4]⟩
      case measure => simp [intOf]
    · simp only [arr4]
      go_wp2
      exact bodyPost_ret (v := .agg #[.int .u8 ((n / 16777216) % 256), .int .u8 ((n / 65536) % 256), .int .u8 ((n / 256) % 256), .int .u8 (n % 256)]) (by simp [results, Try.results36, go_sem]) rfl ⟨rfl, ((((Below.refl _ _).alloc (Nat.le_refl _) _).alloc (by simp) _))⟩
set_option maxHeartbeats 1000000 in
theorem low_any (n : Int) (w : World) (h0 : 0 ≤ n) (h1 : n ≤ 4294967295) :
    Calls Try.prog 45 #[.int .u32 n] w fun e w' => e = .returned (.agg #[.int .u8 (n % 256), .int .u8 ((n / 256) % 256), .int .u8 ((n / 65536) % 256), .int .u8 (n / 16777216)]) ∧ Below w.heap.size w w' := by
  go_enter Try.func45, Try.ntmps45
  go_wp2
  go_loopw [5] (fun i wr => ∃ k : Nat, k ≤ 4 ∧ i = .int .i64 k ∧ wr = (w.alloc (.cells (arr4 0 0 0 0 0) 71)).alloc (.cells (arr4 (n % 256) ((n / 256) % 256) ((n / 65536) % 256) (n / 16777216) k) 71)) (fun i _ => 4 - (intOf i).toNat)
  case atStart => exact ⟨0, by omega, rfl, rfl⟩
  case round =>
    obtain ⟨k, hk, rfl, rfl⟩ := hrel
    obtain rfl | rfl | rfl | rfl | rfl : k = 0 ∨ k = 1 ∨ k = 2 ∨ k = 3 ∨ k = 4 := by omega
    · simp only [arr4]
      go_wp2
      go_roundw
      case rel => exact ⟨1, by omega, by simp, by simp [arr4]⟩
      case measure => simp [intOf]
    · simp only [arr4]
      go_wp2
      go_roundw
      case rel => exact ⟨2, by omega, by simp, by simp [arr4]⟩
      case measure => simp [intOf]
    · simp only [arr4]
      go_wp2
      go_roundw
      case rel => exact ⟨3, by omega, by simp, by simp [arr4]⟩
      case measure => simp [intOf]
    · simp only [arr4]
      go_wp2
      go_roundw
      case rel => exact ⟨4, by omega, by simp, by simp [arr4]⟩
      case measure => simp [intOf]
    · simp only [arr4]
      go_wp2
      exact bodyPost_ret (v := .agg #[.int .u8 (n % 256), .int .u8 ((n / 256) % 256), .int .u8 ((n / 65536) % 256), .int .u8 (n / 16777216)]) (by simp [results, Try.results45, go_sem]) rfl ⟨rfl, ((((Below.refl _ _).alloc (Nat.le_refl _) _).alloc (by simp) _))⟩

theorem wraps_i64 (n : Int) (h₀ : 0 ≤ n) (h₁ : n < 2 ^ 62) : IntKind.i64.wrap n = n := by rw [IntKind.wrap_i64]; omega
theorem or_low (x c : Int) (h0 : 0 ≤ x) (h1 : x ≤ 16777215) (hc0 : 0 ≤ c) (hc1 : c ≤ 255) : Go.bits .or .i64 (x * 256) c = x * 256 + c :=
  bits_join .i64 62 (by decide) wraps_i64 8 (x * 256) c (by omega) (by omega) (by omega) hc0 (by omega) (by omega)
set_option maxHeartbeats 1000000 in
theorem number_any (a b c d : Int) (w : World) (ha : 0 ≤ a ∧ a ≤ 255) (hb : 0 ≤ b ∧ b ≤ 255) (hc : 0 ≤ c ∧ c ≤ 255) (hd : 0 ≤ d ∧ d ≤ 255) :
    Calls Try.prog 48 #[.agg #[.int .u8 a, .int .u8 b, .int .u8 c, .int .u8 d]] w fun e w' => e = .returned (.int .i64 (a * 16777216 + b * 65536 + c * 256 + d)) ∧ Below w.heap.size w w' := by
  obtain ⟨ha0, ha1⟩ := ha
  obtain ⟨hb0, hb1⟩ := hb
  obtain ⟨hc0, hc1⟩ := hc
  obtain ⟨hd0, hd1⟩ := hd
  have i0 : ∀ w, (Instr.index 71 (.agg #[.int .u8 a, .int .u8 b, .int .u8 c, .int .u8 d]) (.int .i64 0)).run Try.prog w = .ok (.int .u8 a) w := fun _ => rfl
  have i1 : ∀ w, (Instr.index 71 (.agg #[.int .u8 a, .int .u8 b, .int .u8 c, .int .u8 d]) (.int .i64 1)).run Try.prog w = .ok (.int .u8 b) w := fun _ => rfl
  have i2 : ∀ w, (Instr.index 71 (.agg #[.int .u8 a, .int .u8 b, .int .u8 c, .int .u8 d]) (.int .i64 2)).run Try.prog w = .ok (.int .u8 c) w := fun _ => rfl
  have i3 : ∀ w, (Instr.index 71 (.agg #[.int .u8 a, .int .u8 b, .int .u8 c, .int .u8 d]) (.int .i64 3)).run Try.prog w = .ok (.int .u8 d) w := fun _ => rfl
  have o0 : Hid (Go.bits .or .i64 0 a = a) := by have h := or_low 0 a (by omega) (by omega) ha0 ha1; rw [Int.zero_mul, Int.zero_add] at h; exact h
  have o1 : Hid (Go.bits .or .i64 (a * 256) b = a * 256 + b) := or_low a b (by omega) (by omega) hb0 hb1
  have o2 : Hid (Go.bits .or .i64 ((a * 256 + b) * 256) c = a * 65536 + b * 256 + c) := by have h := or_low (a * 256 + b) c (by omega) (by omega) hc0 hc1; rw [Hid, h]; omega
  have o3 : Hid (Go.bits .or .i64 ((a * 65536 + b * 256 + c) * 256) d = a * 16777216 + b * 65536 + c * 256 + d) := by have h := or_low (a * 65536 + b * 256 + c) d (by omega) (by omega) hd0 hd1; rw [Hid, h]; omega
  go_enter Try.func48, Try.ntmps48
  go_wp2
  go_loop [3, 7] (fun n i => ∃ k : Nat, k ≤ 4 ∧ i = .int .i64 k ∧ n = .int .i64 (match k with | 0 => 0 | 1 => a | 2 => a * 256 + b | 3 => a * 65536 + b * 256 + c | _ => a * 16777216 + b * 65536 + c * 256 + d)) (fun _ i => 4 - (intOf i).toNat)
  case atStart => exact ⟨0, by omega, rfl, rfl⟩
  case round =>
    obtain ⟨k, hk, rfl, rfl⟩ := hrel
    obtain rfl | rfl | rfl | rfl | rfl : k = 0 ∨ k = 1 ∨ k = 2 ∨ k = 3 ∨ k = 4 := by omega
    · simp only []
      go_wp2
      go_round
      case rel => exact ⟨1, by omega, by simp, congrArg (Value.int .i64) o0.out⟩
      case measure => simp [intOf]
    · simp only []
      go_wp2
      go_round
      case rel => exact ⟨2, by omega, by simp, congrArg (Value.int .i64) o1.out⟩
      case measure => simp [intOf]
    · simp only []
      go_wp2
      go_round
      case rel => exact ⟨3, by omega, by simp, congrArg (Value.int .i64) o2.out⟩
      case measure => simp [intOf]
    · simp only []
      go_wp2
      go_round
      case rel => exact ⟨4, by omega, by simp, congrArg (Value.int .i64) o3.out⟩
      case measure => simp [intOf]
    · go_wp2
      go_ret
      exact ⟨rfl, (Below.refl _ _).alloc (Nat.le_refl _) _⟩
end Go.Proofs.Ytoegeljjfhbpeaa.J
