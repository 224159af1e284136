/- JournalNil: whatever is handed in, the call returns true, and nothing that lay there is turned. No condition stands open beyond what it reads. -/
import Derived.Test.YtoegeljjfhbpeaaJ4
set_option linter.unusedVariables false
set_option linter.unusedSimpArgs false
namespace Go.Proofs.Ytoegeljjfhbpeaa.J
open Go.RowKit Go.Proofs.YtoegeljjfhbpeaaW.PrintWords Go.Proofs.YtoegeljjfhbpeaaW.PrintLast Go.Proofs.YtoegeljjfhbpeaaW.PrintMore

set_option maxHeartbeats 4000000 in
theorem nil_false (s : ByteArray) (n : Int) (w : World) : Calls Try.prog 9 #[.string s, .int .i64 n, .bool false] w fun e w' => e = .returned (.bool true) ∧ Below w.heap.size w w' := by
  have hconv := fun w => Lib.run_convert_string_bytes (P := Try.prog) w 9 22 5 s Try.underlying9 Try.underlying22 Try.underlying5
  have hT : ∀ W, NoTape W none := fun _ => .inl rfl
  have hL : ∀ W, NoLog W none := fun _ => .inl rfl
  have HB := Lib.hid (conv_below w s)
  go_enter Try.func9, Try.ntmps9
  go_wp2_with (first | (go_at_call 21; refine (open_not (hT _)).mono ?_; rintro e w1 ⟨rfl, rfl⟩) | (go_at_call 24; refine (crash_not (hT _) _ _ _).mono ?_; rintro e w1 ⟨rfl, rfl⟩) | (go_at_call 23; refine (add_not (hL _) _).mono ?_; rintro e w1 ⟨rfl, rfl⟩) | (go_at_call 33; refine (bytes_not (hT _)).mono ?_; rintro e w1 ⟨rfl, rfl⟩) | (go_at_call 27; refine (append_not (hT _) _ _ _).mono ?_; rintro e w1 ⟨rfl, rfl⟩) | (go_at_call 28; refine (sync_not (hT _)).mono ?_; rintro e w1 ⟨rfl, rfl⟩) | (go_at_call 32; refine (cut_not (hT _) _).mono ?_; rintro e w1 ⟨rfl, rfl⟩) | (go_at_call 34; refine (loose_not (hT _)).mono ?_; rintro e w1 ⟨rfl, rfl⟩) | (go_at_call 22; refine (logSync_not (hL _)).mono ?_; rintro e w1 ⟨rfl, rfl⟩) | (go_at_call 25; refine (lines_not (hL _)).mono ?_; rintro e w1 ⟨rfl, rfl⟩) | (go_at_call 26; refine (safe_not (hL _)).mono ?_; rintro e w1 ⟨rfl, rfl⟩) | (go_at_call 14; refine (lives_any _).mono ?_; rintro e w9 ⟨rfl, hb9⟩; have B9 := Lib.hid hb9; clear hb9))
  go_ret
  exact ⟨rfl, HB.out.trans (B9.out.mono HB.out.size)⟩
set_option maxHeartbeats 4000000 in
theorem nil_true (s : ByteArray) (n : Int) (w : World) : Calls Try.prog 9 #[.string s, .int .i64 n, .bool true] w fun e w' => e = .returned (.bool true) ∧ Below w.heap.size w w' := by
  have hconv := fun w => Lib.run_convert_string_bytes (P := Try.prog) w 9 22 5 s Try.underlying9 Try.underlying22 Try.underlying5
  have hT : ∀ W, NoTape W none := fun _ => .inl rfl
  have hL : ∀ W, NoLog W none := fun _ => .inl rfl
  obtain ⟨w2, hw2⟩ : ∃ w2, (w.alloc (.cells #[.bool false, .slice none 0 0, .int .i64 0] 66)).alloc (.cells #[.pointer none, .slice none 0 0, .int .i64 0] 68) = w2 := ⟨_, rfl⟩
  have HB2 : Hid (Below w.heap.size w w2) := by rw [← hw2]; exact ((Below.refl _ w).alloc (Nat.le_refl _) _).alloc (by simp) _
  have HB3 := Lib.hid (conv_below w2 s)
  have hT2 : Hid (NoTape w2 (some ⟨w.heap.size, 0, none⟩)) := .inr ⟨_, rfl, by
    rw [← hw2]
    have b1 := heap_alloc_new w (.cells #[.bool false, .slice none 0 0, .int .i64 0] 66)
    exact (((Below.refl _ _).alloc (Nat.le_refl _) _).cell (p := ⟨w.heap.size, 0, none⟩) (blk_lt b1)).trans ((blk_cell b1 0).trans rfl)⟩
  have hL2 : Hid (NoLog w2 (some ⟨w.heap.size + 1, 0, none⟩)) := .inr ⟨_, rfl, by
    rw [← hw2]
    have b1 := heap_alloc_new (w.alloc (.cells #[.bool false, .slice none 0 0, .int .i64 0] 66)) (.cells #[.pointer none, .slice none 0 0, .int .i64 0] 68)
    rw [World.size_alloc] at b1
    exact (blk_cell b1 0).trans rfl⟩
  have hT3 : Hid (NoTape (Lib.bytesWorld w2 5 s) (some ⟨w.heap.size, 0, none⟩)) := hT2.out.below HB3.out
  have hL3 : Hid (NoLog (Lib.bytesWorld w2 5 s) (some ⟨w.heap.size + 1, 0, none⟩)) := hL2.out.below HB3.out
  go_enter Try.func9, Try.ntmps9
  go_wp2_with (first | (go_at_call 21; refine (open_not (hT _)).mono ?_; rintro e w1 ⟨rfl, rfl⟩) | (go_at_call 24; refine (crash_not hT2.out _ _ _).mono ?_; rintro e w1 ⟨rfl, rfl⟩) | (go_at_call 23; refine (add_not hL2.out _).mono ?_; rintro e w1 ⟨rfl, rfl⟩) | (go_at_call 33; refine (bytes_not hT2.out).mono ?_; rintro e w1 ⟨rfl, rfl⟩) | (go_at_call 27; refine (append_not hT3.out _ _ _).mono ?_; rintro e w1 ⟨rfl, rfl⟩) | (go_at_call 28; refine (sync_not hT3.out).mono ?_; rintro e w1 ⟨rfl, rfl⟩) | (go_at_call 32; refine (cut_not hT3.out _).mono ?_; rintro e w1 ⟨rfl, rfl⟩) | (go_at_call 34; refine (loose_not hT3.out).mono ?_; rintro e w1 ⟨rfl, rfl⟩) | (go_at_call 22; refine (logSync_not hL3.out).mono ?_; rintro e w1 ⟨rfl, rfl⟩) | (go_at_call 25; refine (lines_not hL3.out).mono ?_; rintro e w1 ⟨rfl, rfl⟩) | (go_at_call 26; refine (safe_not hL3.out).mono ?_; rintro e w1 ⟨rfl, rfl⟩) | (go_at_call 14; refine (lives_any _).mono ?_; rintro e w9 ⟨rfl, hb9⟩; have B9 := Lib.hid hb9; clear hb9))
  go_ret
  exact ⟨rfl, HB2.out.trans ((HB3.out.trans (B9.out.mono HB3.out.size)).mono HB2.out.size)⟩
theorem nil_any (s : ByteArray) (n : Int) (made : Bool) (w : World) : Calls Try.prog 9 #[.string s, .int .i64 n, .bool made] w fun e w' => e = .returned (.bool true) ∧ Below w.heap.size w w' := by
  cases made
  · exact nil_false s n w
  · exact nil_true s n w
end Go.Proofs.Ytoegeljjfhbpeaa.J
