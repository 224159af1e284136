import Derived.Test.YtoegeljjfhbpeaaJC
import Derived.Deep.RegionWith
import Derived.Lib.ConvBytes
set_option linter.unusedVariables false
set_option linter.unusedSimpArgs false
namespace Go.Proofs.Ytoegeljjfhbpeaa.J
open Go.RowKit Go.Proofs.YtoegeljjfhbpeaaW.PrintWords Go.Proofs.YtoegeljjfhbpeaaW.PrintLast Go.Proofs.YtoegeljjfhbpeaaW.PrintMore

def frameL (n : Int) (s : List Int) : List Int := four (s.length : Int) ++ lineSum n s ++ s

theorem frame_arg (n : Int) (s : ByteArray) (w : World) (h : n < 0 ∨ 2147483647 < n) (hs : s.size ≤ 140737488351232) :
    Calls Try.prog 10 #[.int .i64 n, .string s] w fun e w' => e = .returned (.tuple #[.slice none 0 0, .int .i64 2]) ∧ Below w.heap.size w w' := by
  rcases h with h | h
  · go_enter Try.func10, Try.ntmps10
    go_wp2
    go_ret2
    exact ⟨rfl, Below.refl _ _⟩
  · have h' : ¬ n < 0 := by omega
    go_enter Try.func10, Try.ntmps10
    go_wp2
    go_ret2
    exact ⟨rfl, Below.refl _ _⟩
theorem frame_big (n : Int) (s : ByteArray) (w : World) (h0 : 0 ≤ n) (h1 : n ≤ 2147483647) (hs : s.size ≤ 140737488351232) (hb : 65536 < s.size) :
    Calls Try.prog 10 #[.int .i64 n, .string s] w fun e w' => e = .returned (.tuple #[.slice none 0 0, .int .i64 7]) ∧ Below w.heap.size w w' := by
  go_enter Try.func10, Try.ntmps10
  go_wp2
  go_ret2
  exact ⟨rfl, Below.refl _ _⟩
theorem conv_below (w : World) (s : ByteArray) : Below w.heap.size w (Lib.bytesWorld w 5 s) :=
  ⟨rfl, rfl, rfl, by rw [Lib.bytesWorld_size]; omega, fun k hk => Lib.bytesWorld_at_old w 5 s k hk⟩
theorem conv_reads (w : World) (s : ByteArray) (hs : s.size ≤ 9223372036854775807) : ReadsInt (Lib.bytesWorld w 5 s) .u8 (some ⟨w.heap.size, 0, none⟩) s.size (bytesOf s) :=
  ⟨bytesOf_length s, hs, fun _ => ⟨_, rfl, fun j hj => by
    rw [add_plain, Lib.bytesWorld_cell w 5 s j hj]
    have hd : j < s.data.toList.length := by simpa using hj
    have hd2 : j < s.data.size := hj
    simp [bytesOf, List.getD, hd2, Array.getElem?_eq_getElem hd2]⟩⟩
theorem low4_len (n : Int) (s : List Int) : (lineSum n s).length = 4 := rfl
set_option maxHeartbeats 1000000 in
theorem frame_any (n : Int) (s : ByteArray) (w : World) (h0 : 0 ≤ n) (h1 : n ≤ 2147483647) (hs : s.size ≤ 65536) :
    Calls Try.prog 10 #[.int .i64 n, .string s] w fun e w' => ∃ v, e = .returned (.tuple #[v, .int .i64 0]) ∧ w'.ownsRow w.heap.size 5 1 v (frameL n (bytesOf s)).length (nums .u8 (frameL n (bytesOf s))) ∧ Below w.heap.size w w' := by
  have hconv := fun w => Lib.run_convert_string_bytes (P := Try.prog) w 9 22 5 s Try.underlying9 Try.underlying22 Try.underlying5
  go_enter Try.func10, Try.ntmps10
  go_wp2_with (first | (go_at_call 36; refine (high_any _ _ (by omega) (by omega)).mono ?_; rintro e w1 ⟨rfl, hb⟩))
  have hz1 := hb.size
  refine (sum_any n (some ⟨w1.heap.size, 0, none⟩) s.size _ (bytesOf s) _ h0 (by omega) (bytesOf_length s) (by omega) (conv_reads w1 s (by omega))).mono ?_
  rintro e w2 ⟨rfl, hb2⟩
  have hz2 : w1.heap.size ≤ w2.heap.size := Nat.le_trans (conv_below w1 s).size hb2.size
  have hB : Below w.heap.size w w2 := (hb.trans ((conv_below w1 s).mono hz1)).trans (hb2.mono (by rw [Lib.bytesWorld_size]; omega))
  clear hb hb2
  have HS := Lib.hid hs
  have hlsum : lineSum n (bytesOf s) = low4 (sumOf (four ((bytesOf s).length : Int) ++ four n ++ bytesOf s)) := rfl
  obtain ⟨sm, hsm⟩ : ∃ sm, sumOf (four ((bytesOf s).length : Int) ++ four n ++ bytesOf s) = sm := ⟨_, rfl⟩
  rw [hsm] at hlsum
  have hfr : frameL n (bytesOf s) = four (s.size : Int) ++ low4 sm ++ bytesOf s := by unfold frameL; rw [hlsum, bytesOf_length]
  have HF := Lib.hid hfr
  rw [hlsum]
  simp only [u8s, low4, nums, List.map_cons, List.map_nil]
  clear hlsum hsm hfr
  go_wp2
  have R1 : Hid (ReadsInt ((w2.alloc (.cells (nums .u8 (four (s.size : Int))).toArray 71)).alloc (.cells (nums .u8 (low4 sm)).toArray 71)) .u8 (some ⟨w2.heap.size, 0, none⟩) 4 (four (s.size : Int))) := (reads_arr w2 (four (s.size : Int)) 4 rfl (by omega) 71 _ rfl).below ((((Below.refl _ _).alloc (Nat.le_refl _) _)))
  have R2 : Hid (ReadsInt ((w2.alloc (.cells (nums .u8 (four (s.size : Int))).toArray 71)).alloc (.cells (nums .u8 (low4 sm)).toArray 71)) .u8 (some ⟨w2.heap.size + 1, 0, none⟩) 4 (low4 sm)) := by
    have h := reads_arr (w2.alloc (.cells (nums .u8 (four (s.size : Int))).toArray 71)) (low4 sm) 4 rfl (by omega) 71 _ rfl
    rw [World.size_alloc] at h
    exact h
  have BW : Hid (Below w.heap.size w ((w2.alloc (.cells (nums .u8 (four (s.size : Int))).toArray 71)).alloc (.cells (nums .u8 (low4 sm)).toArray 71))) := (hB.alloc (by omega) _).alloc (by rw [World.size_alloc]; omega) _
  change Code.wp _ _ _ _ ((w2.alloc (.cells (nums .u8 (four (s.size : Int))).toArray 71)).alloc (.cells (nums .u8 (low4 sm)).toArray 71))
  generalize (w2.alloc (.cells (nums .u8 (four (s.size : Int))).toArray 71)).alloc (.cells (nums .u8 (low4 sm)).toArray 71) = W at R1 R2 BW ⊢
  clear hB
  have X1 : Hid (Below W.heap.size W (Lib.bytesWorld W.drew 5 s)) := ((Below.refl _ W).drew).trans (conv_below W.drew s)
  have X2 : Hid ((Lib.bytesWorld W.drew 5 s).heap.size = W.heap.size + 1) := Lib.bytesWorld_size W.drew 5 s
  have X3 : Hid (ReadsInt (Lib.bytesWorld W.drew 5 s) .u8 (some ⟨W.heap.size, 0, none⟩) s.size (bytesOf s)) := conv_reads W.drew s (by omega)
  go_region_with (go_at_call 38; refine (concat_any _ (four (s.size : Int)) (low4 sm) (bytesOf s) (some ⟨w2.heap.size, 0, none⟩) (some ⟨w2.heap.size + 1, 0, none⟩) (some ⟨W.heap.size, 0, none⟩) 4 4 s.size 4 4 _ _ rfl rfl (bytesOf_length s) (by rw [cell_of_row _ _ _ _ _ _ (heap_alloc_new _ _)]; rfl) (by rw [cell_of_row _ _ _ _ _ _ (heap_alloc_new _ _)]; rfl) (by rw [cell_of_row _ _ _ _ _ _ (heap_alloc_new _ _)]; rfl) (R1.out.below (X1.out.alloc (by rw [X2.out]; omega) _)) (R2.out.below (X1.out.alloc (by rw [X2.out]; omega) _)) (X3.out.below ((Below.refl _ _).alloc (Nat.le_refl _) _)) (by omega) (by omega)).mono ?_; rintro e w3 ⟨v, rfl, hown, hb⟩)
  have hz3 : w.heap.size ≤ ((Lib.bytesWorld W.drew 5 s).alloc (Obj.cells #[Value.slice (some { block := w2.heap.size, off := 0 }) 4 4, Value.slice (some { block := w2.heap.size + 1, off := 0 }) 4 4, Value.slice (some { block := W.heap.size, off := 0 }) s.size (grownCap W.drew s.size 0 5)] 22)).heap.size := by
    have h1 := BW.out.size
    have h2 := X1.out.size
    rw [World.size_alloc]
    omega
  have HO := Lib.hid (own_weaken hown hz3)
  have HB := Lib.hid ((BW.out.trans ((X1.out.alloc (by rw [X2.out]; omega) _).mono BW.out.size)).trans (hb.mono hz3))
  clear hown hb hz3
  go_wp2
  go_ret2
  refine ⟨v, rfl, ?_, HB.out⟩
  rw [HF.out]
  exact HO.out
end Go.Proofs.Ytoegeljjfhbpeaa.J
