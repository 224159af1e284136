import Derived.Test.YtoegeljjfhbpeaaJD
set_option linter.unusedVariables false
set_option linter.unusedSimpArgs false
namespace Go.Proofs.Ytoegeljjfhbpeaa.J
open Go.RowKit Go.Proofs.YtoegeljjfhbpeaaW.PrintWords Go.Proofs.YtoegeljjfhbpeaaW.PrintLast Go.Proofs.YtoegeljjfhbpeaaW.PrintMore Go.Proofs.Ytoegeljjfhbpeaa.PG

theorem rframe_arg (n : Int) (s : ByteArray) (w : World) (h : n < 0 ∨ 2147483647 < n) (hs : s.size ≤ 140737488351232) :
    Calls Try.prog 11 #[.int .i64 n, .string s] w fun e w' => e = .returned (.tuple #[.slice none 0 0, .int .i64 2]) ∧ Below w.heap.size w w' := by
  rcases h with h | h
  · go_enter Try.func11, Try.ntmps11
    go_wp2
    go_ret2
    exact ⟨rfl, Below.refl _ _⟩
  · have h' : ¬ n < 0 := by omega
    go_enter Try.func11, Try.ntmps11
    go_wp2
    go_ret2
    exact ⟨rfl, Below.refl _ _⟩
theorem rframe_big (n : Int) (s : ByteArray) (w : World) (h0 : 0 ≤ n) (h1 : n ≤ 2147483647) (hs : s.size ≤ 140737488351232) (hb : 65536 < s.size) :
    Calls Try.prog 11 #[.int .i64 n, .string s] w fun e w' => e = .returned (.tuple #[.slice none 0 0, .int .i64 7]) ∧ Below w.heap.size w w' := by
  go_enter Try.func11, Try.ntmps11
  go_wp2
  go_ret2
  exact ⟨rfl, Below.refl _ _⟩
theorem four_any (n : Int) (w : World) : Calls Try.prog 39 #[.int .i64 n] w fun e w' => ∃ v, e = .returned v ∧ w'.ownsRow w.heap.size 5 1 v 4 (nums .u8 (four n)) ∧ Below w.heap.size w w' :=
  (foolscapref31_Four.calls n (four n) w rfl).mono fun e w' ⟨v, he, hR, hb⟩ => by
    have h := Kd.own_of_R (enc := Value.int .u8) hR
    exact ⟨v, he, h, hb⟩
theorem rSum_any (A : Option Addr) (n c : Nat) (l : List Int) (w : World) (hn : l.length = n) (hR : ReadsInt w .u8 A n l) (hc : n ≤ c) (hl : n ≤ 140737488355328) :
    Calls Try.prog 13 #[.slice A n c] w fun e w' => e = .returned (.int .u32 (sumOf l)) ∧ Below w.heap.size w w' := by
  subst hn
  exact (PG.foolscapref31_Sum.calls _ A c l _ w (Kd.C_of_reads (d := (0 : Int)) (h1 := fun _ => rfl) hR) hc (rsum_eq l hl)).mono fun e w' ⟨he, hd⟩ => ⟨he, hd.below⟩
set_option maxHeartbeats 1000000 in
theorem rframe_any (n : Int) (s : ByteArray) (w : World) (h0 : 0 ≤ n) (h1 : n ≤ 2147483647) (hs : s.size ≤ 65536) :
    Calls Try.prog 11 #[.int .i64 n, .string s] w fun e w' => ∃ v, e = .returned (.tuple #[v, .int .i64 0]) ∧ w'.ownsRow w.heap.size 5 1 v (frameL n (bytesOf s)).length (nums .u8 (frameL n (bytesOf s))) ∧ Below w.heap.size w w' := by
  go_enter Try.func11, Try.ntmps11
  go_wp2_with (first
    | (go_at_call 39; (with_reducible refine (four_any (s.size : Int) _).mono ?_); rintro e w1 ⟨vl, rfl, hown, hb⟩; obtain ⟨A1, c1, rfl, hc1, hr1⟩ := own_rd hown; have O1 := Lib.hid hown; have B1 := Lib.hid hb; have R1 := Lib.hid hr1; have S1 : w.heap.size ≤ w1.heap.size := hb.size; clear hown hb hr1 hc1)
    | (at_builtin; refine print_append_row (w0 := w1) w1.heap.size rfl (.tmp 21) (.tmp 22) 22 5 .u8 1 rfl Try.underlying22 info5 (by omega) _ [] (four (s.size : Int)) A1 4 c1 rfl rfl (World.ownsRow_made w1 #[] 0 (Nat.le_refl _) (Nat.zero_le _) (by simp)) (R1.out.below ((Below.refl _ _).alloc (Nat.le_refl _) _)) ((Below.refl _ _).alloc (Nat.le_refl _) _) (by simp) (by simp) ?_; rintro v2 w2 hown2 hb2 hg2 hat2; have O2 := Lib.hid hown2; have B2 := Lib.hid hb2; have S2 : w1.heap.size ≤ w2.heap.size := hb2.size; clear hown2 hb2 hg2 hat2)
    | (go_at_call 39; (with_reducible refine (four_any n _).mono ?_); rintro e w3 ⟨vn, rfl, hown3, hb3⟩; obtain ⟨A3, c3, rfl, hc3, hr3⟩ := own_rd hown3; have B3 := Lib.hid hb3; have R3 := Lib.hid hr3; have S3 : w2.heap.size ≤ w3.heap.size := hb3.size; clear hown3 hb3 hr3 hc3)
    | (at_builtin; refine print_append_row (w0 := w1) w1.heap.size rfl (.tmp 23) (.tmp 25) 22 5 .u8 1 rfl Try.underlying22 info5 (by omega) _ (four (s.size : Int)) (four n) A3 4 c3 rfl rfl (pw_own_below O2.out B3.out) R3.out (B2.out.trans (B3.out.mono S2)) (by omega) (by simp [four]) ?_; rintro v4 w4 hown4 hb4 hg4 hat4; have O4 := Lib.hid hown4; have B4 := Lib.hid hb4; have S4 : w1.heap.size ≤ w4.heap.size := hb4.size; clear hown4 hb4 hg4 hat4)
    | (at_builtin; refine print_append_str (w0 := w1) w1.heap.size rfl (.tmp 26) (.tmp 27) 22 9 5 rfl Try.underlying22 Try.underlying9 info5 _ (four (s.size : Int) ++ four n) s rfl rfl O4.out B4.out S4 (by simp [four]; omega) ?_; rintro v5 w5 hown5 hb5 hg5; obtain ⟨A5, c5, rfl, hc5, hr5⟩ := own_rd hown5; have B5 := Lib.hid hb5; have R5 := Lib.hid hr5; have C5 := Lib.hid hc5; have S5 : w1.heap.size ≤ w5.heap.size := hb5.size; clear hown5 hb5 hg5 hr5 hc5))
  refine (rSum_any A5 _ c5 (four (s.size : Int) ++ four n ++ bytesOf s) w5 (by simp) (by simpa using R5.out) (by simpa using C5.out) (by rw [bytesOf_length]; simp [four]; omega)).mono ?_
  rintro e w6 ⟨rfl, hb6⟩
  have B6 := Lib.hid (B5.out.trans (hb6.mono S5))
  have S6 : w1.heap.size ≤ w6.heap.size := Nat.le_trans S5 hb6.size
  have hs := sumOf_range (four (s.size : Int) ++ four n ++ bytesOf s)
  have hs0 : 0 ≤ sumOf (four (s.size : Int) ++ four n ++ bytesOf s) := hs.1
  have hs1 : sumOf (four (s.size : Int) ++ four n ++ bytesOf s) ≤ 4294967295 := hs.2
  have HF : Hid (frameL n (bytesOf s) = four (s.size : Int) ++ low4 (sumOf (four (s.size : Int) ++ four n ++ bytesOf s)) ++ bytesOf s) := by show _ = _; unfold frameL lineSum; rw [bytesOf_length]
  clear hs hb6 O1 O2 O4 R3 R5 B2 B3 B4 B5 C5 S2 S3 S4
  obtain ⟨sm, hsm⟩ : ∃ sm, sumOf (four (s.size : Int) ++ four n ++ bytesOf s) = sm := ⟨_, rfl⟩
  rw [hsm] at hs0 hs1 HF ⊢
  clear hsm
  have hr6 : Hid (ReadsInt w6 .u8 A1 4 (four (s.size : Int))) := R1.out.below B6.out
  clear R1
  go_wp2_with (first
    | (at_builtin; refine print_append_row (w0 := w6) w6.heap.size rfl (.tmp 30) (.tmp 31) 22 5 .u8 1 rfl Try.underlying22 info5 (by omega) _ [] (four (s.size : Int)) A1 4 c1 rfl rfl (World.ownsRow_made w6 #[] 0 (Nat.le_refl _) (Nat.zero_le _) (by simp)) (hr6.out.below ((Below.refl _ _).alloc (Nat.le_refl _) _)) ((Below.refl _ _).alloc (Nat.le_refl _) _) (by simp) (by simp) ?_; rintro v7 w7 hown7 hb7 hg7 hat7; have O7 := Lib.hid hown7; have B7 := Lib.hid hb7; have S7 : w6.heap.size ≤ w7.heap.size := hb7.size; clear hown7 hb7 hg7 hat7)
    | (at_builtin; refine print_append_row (w0 := w6) w6.heap.size rfl (.tmp 33) (.tmp 45) 22 5 .u8 1 rfl Try.underlying22 info5 (by omega) _ (four (s.size : Int)) (low4 sm) (some ⟨w7.heap.size, 0, none⟩) 4 4 rfl rfl (O7.out.alloc _) (reads_arr w7 (low4 sm) 4 rfl (by omega) 5 _ rfl) (B7.out.alloc S7 _) (by simp; omega) (by simp [four]) ?_; rintro v8 w8 hown8 hb8 hg8 hat8; have O8 := Lib.hid hown8; have B8 := Lib.hid hb8; have S8 : w6.heap.size ≤ w8.heap.size := hb8.size; clear hown8 hb8 hg8 hat8)
    | (at_builtin; refine print_append_str (w0 := w6) w6.heap.size rfl (.tmp 47) (.tmp 48) 22 9 5 rfl Try.underlying22 Try.underlying9 info5 _ (four (s.size : Int) ++ low4 sm) s rfl rfl O8.out B8.out S8 (by simp [four, low4]; omega) ?_; rintro v9 w9 hown9 hb9 hg9; have O9 := Lib.hid hown9; have B9 := Lib.hid hb9; clear hown9 hb9 hg9))
  go_ret2
  have S16 : w.heap.size ≤ w6.heap.size := Nat.le_trans S1 S6
  refine ⟨v9, rfl, ?_, ?_⟩
  · rw [HF.out]
    exact own_weaken O9.out S16
  · exact (B1.out.trans (B6.out.mono S1)).trans (B9.out.mono S16)
end Go.Proofs.Ytoegeljjfhbpeaa.J
