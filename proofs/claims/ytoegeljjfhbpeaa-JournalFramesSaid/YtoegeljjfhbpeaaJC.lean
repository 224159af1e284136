import Derived.Test.YtoegeljjfhbpeaaJB
import Derived.Test.YtoegeljjfhbpeaaJP
import Derived.Deep.QuietTactic
import Derived.BigQuiet
import Derived.StillTailTactics
set_option linter.unusedVariables false
set_option linter.unusedSimpArgs false
namespace Go.Proofs.Ytoegeljjfhbpeaa.J
open Go.RowKit Go.Proofs.YtoegeljjfhbpeaaW.PrintWords Go.Proofs.YtoegeljjfhbpeaaW.PrintLast Go.Proofs.YtoegeljjfhbpeaaW.PrintMore

def four (n : Int) : List Int := [(n / 16777216) % 256, (n / 65536) % 256, (n / 256) % 256, n % 256]
def low4 (n : Int) : List Int := [n % 256, (n / 256) % 256, (n / 65536) % 256, n / 16777216]
def lineSum (n : Int) (s : List Int) : List Int := low4 (sumOf (four (s.length : Int) ++ four n ++ s))
theorem bcell {w W : World} (hb : Below w.heap.size w W) : (∀ b o, b < w.heap.size → W.cell? ⟨b, o, none⟩ = w.cell? ⟨b, o, none⟩) ∧ (∀ b o, b < w.heap.size → W.frozen? ⟨b, o, none⟩ = w.frozen? ⟨b, o, none⟩) :=
  ⟨fun b o h => hb.cell (p := ⟨b, o, none⟩) h, fun b o h => hb.frozen (p := ⟨b, o, none⟩) h⟩
def u8s (l : List Int) : Value := .agg ((nums .u8 l).toArray)

theorem reads_arr (w : World) (l : List Int) (n : Nat) (hn : l.length = n) (hn2 : n ≤ 9223372036854775807) (t : TypeId) (cs : Array Value) (hcs : cs = (nums .u8 l).toArray) : ReadsInt (w.alloc (.cells cs t)) .u8 (some ⟨w.heap.size, 0, none⟩) n l :=
  ⟨hn, hn2, fun _ => ⟨_, rfl, fun j hj => by
    have hlt : j < l.length := by omega
    rw [add_plain, cell_of_row _ _ _ _ _ _ (heap_alloc_new w _), hcs]
    simp [nums, hlt]⟩⟩
/-- four cells of a block that a world has, all free -/
structure Four4 (w : World) (b : Nat) : Prop where
  c : ∀ j, j < 4 → ∃ v, w.cell? ⟨b, j, none⟩ = some v
  f : ∀ j, w.frozen? ⟨b, j, none⟩ = false
theorem Four4.new (w : World) (t : TypeId) (a b c d : Value) : Four4 (w.alloc (.cells #[a, b, c, d] t)) w.heap.size :=
  ⟨fun j hj => by
    rw [cell_of_row _ _ _ _ _ _ (heap_alloc_new w _)]
    obtain rfl | rfl | rfl | rfl : j = 0 ∨ j = 1 ∨ j = 2 ∨ j = 3 := by omega
    all_goals exact ⟨_, rfl⟩, fun j => frozen_of_row _ _ _ _ _ (heap_alloc_new w _)⟩
theorem Four4.below {w W : World} {B b : Nat} (h : Four4 w b) (hb : Below B w W) (hlt : b < B) : Four4 W b :=
  ⟨fun j hj => by obtain ⟨v, hv⟩ := h.c j hj; exact ⟨v, (hb.cell (p := ⟨b, j, none⟩) hlt).trans hv⟩, fun j => (hb.frozen (p := ⟨b, j, none⟩) hlt).trans (h.f j)⟩

theorem own_rd {w : World} {base n : Nat} {v : Value} {xs : List Int} (h : w.ownsRow base 5 1 v n (nums .u8 xs)) : ∃ A c, v = .slice A n c ∧ n ≤ c ∧ ReadsInt w .u8 A n xs := own_reads_of_le (enc := Value.int .u8) (d := 0) h
theorem Sum_any (A : Option Addr) (n c : Nat) (l : List Int) (w : World) (hn : l.length = n) (hR : ReadsInt w .u8 A n l) (hc : n ≤ c) (hl : n ≤ 140737488355328) :
    Calls Try.prog 12 #[.slice A n c] w fun e w' => e = .returned (.int .u32 (sumOf l)) ∧ Below w.heap.size w w' := by
  subst hn
  exact (PG.journal_Sum.calls _ A c l _ w (Kd.C_of_reads (d := (0 : Int)) (h1 := fun _ => rfl) hR) hc (sum_eq l hl)).mono fun e w' ⟨he, hd⟩ => ⟨he, hd.below⟩

set_option maxHeartbeats 1000000 in
theorem sum_any (n : Int) (A : Option Addr) (len c : Nat) (xs : List Int) (w : World) (h0 : 0 ≤ n) (h1 : n ≤ 9223372036854775807) (hl : xs.length = len) (hlen : len ≤ 140737488355320) (hR : ReadsInt w .u8 A len xs) :
    Calls Try.prog 37 #[.int .i64 n, .slice A len c] w fun e w' => e = .returned (u8s (lineSum n xs)) ∧ Below w.heap.size w w' := by
  have HR := Lib.hid hR
  have HL := Lib.hid hl
  clear hR hl
  go_enter Try.func37, Try.ntmps37
  go_wp2_with (go_at_call 36; refine (high_any _ _ (by omega) (by omega)).mono ?_; rintro e w1 ⟨rfl, hb⟩)
  rename_i wa hba _ _
  go_still_tail 3, (by kernel_rfl)
  have hz1 : w.heap.size + 1 ≤ w1.heap.size := by have h1 := hba.size; have h2 := hb.size; rw [World.size_alloc] at h1; omega
  have hB1 : Below (w.heap.size + 1) (w.alloc (.cells #[.int .u8 0, .int .u8 0, .int .u8 0, .int .u8 0] 71)) w1 := by
    have h1 := hba.size
    rw [World.size_alloc] at hba h1
    exact hba.trans (hb.mono h1)
  clear hba hb
  have hbel : Below (w.heap.size + 1) w1 ((w1.alloc (.cells (nums .u8 (four (len : Int))).toArray 71)).alloc (.cells (nums .u8 (four n)).toArray 71)).drew := (((Below.refl _ _).alloc hz1 _).alloc (by simp; omega) _).drew
  have r1 : ReadsInt ((w1.alloc (.cells (nums .u8 (four (len : Int))).toArray 71)).alloc (.cells (nums .u8 (four n)).toArray 71)).drew .u8 (some ⟨w1.heap.size, 0, none⟩) 4 (four (len : Int)) := (reads_arr w1 (four (len : Int)) 4 rfl (by omega) 71 _ rfl).below ((((Below.refl _ _).alloc (Nat.le_refl _) _)).drew)
  have r2 : ReadsInt ((w1.alloc (.cells (nums .u8 (four (len : Int))).toArray 71)).alloc (.cells (nums .u8 (four n)).toArray 71)).drew .u8 (some ⟨w1.heap.size + 1, 0, none⟩) 4 (four n) := by
    have h := reads_arr (w1.alloc (.cells (nums .u8 (four (len : Int))).toArray 71)) (four n) 4 rfl (by omega) 71 _ rfl
    rw [World.size_alloc] at h
    exact h.below ((Below.refl _ _).drew)
  have f0 : Four4 ((w1.alloc (.cells (nums .u8 (four (len : Int))).toArray 71)).alloc (.cells (nums .u8 (four n)).toArray 71)).drew w.heap.size := ((Four4.new w 71 _ _ _ _).below hB1 (by omega)).below hbel (by omega)
  have r3 : ReadsInt ((w1.alloc (.cells (nums .u8 (four (len : Int))).toArray 71)).alloc (.cells (nums .u8 (four n)).toArray 71)).drew .u8 A len xs := HR.out.below (((((Below.refl _ _).alloc (Nat.le_refl _) _).trans (hB1.mono (by omega)))).trans (hbel.mono (by omega)))
  have bW : Below w.heap.size w ((w1.alloc (.cells (nums .u8 (four (len : Int))).toArray 71)).alloc (.cells (nums .u8 (four n)).toArray 71)).drew := ((((Below.refl _ _).alloc (Nat.le_refl _) _).trans (hB1.mono (by omega)))).trans (hbel.mono (by omega))
  change wpList _ _ _ _ _ ((w1.alloc (.cells (nums .u8 (four (len : Int))).toArray 71)).alloc (.cells (nums .u8 (four n)).toArray 71)).drew
  generalize ((w1.alloc (.cells (nums .u8 (four (len : Int))).toArray 71)).alloc (.cells (nums .u8 (four n)).toArray 71)).drew = W at r1 r2 r3 f0 bW hbel ⊢
  have hsz : w.heap.size + 1 ≤ W.heap.size := Nat.le_trans hz1 hbel.size
  have R1 := Lib.hid r1
  have R2 := Lib.hid r2
  have R3 := Lib.hid r3
  have F0 := Lib.hid f0
  have BW := Lib.hid bW
  clear hB1 hbel r1 r2 r3 f0 bW HR
  go_wp2_with (first | (go_at_call 38; refine (concat_any W.heap.size (four (len : Int)) (four n) xs (some ⟨w1.heap.size, 0, none⟩) (some ⟨w1.heap.size + 1, 0, none⟩) A 4 4 len 4 4 c _ rfl rfl HL.out (by rw [cell_of_row _ _ _ _ _ _ (heap_alloc_new W _)]; rfl) (by rw [cell_of_row _ _ _ _ _ _ (heap_alloc_new W _)]; rfl) (by rw [cell_of_row _ _ _ _ _ _ (heap_alloc_new W _)]; rfl) (R1.out.below ((Below.refl _ _).alloc (Nat.le_refl _) _)) (R2.out.below ((Below.refl _ _).alloc (Nat.le_refl _) _)) (R3.out.below ((Below.refl _ _).alloc (Nat.le_refl _) _)) (by omega) (by omega)).mono ?_; rintro e w2 ⟨v, rfl, hown, hb⟩))
  have hsz2 : w.heap.size + 1 ≤ w2.heap.size := by have h := hb.size; rw [World.size_alloc] at h; omega
  have B2 : Hid (Below (w.heap.size + 1) W w2) := (((Below.refl _ _).alloc hsz _).trans (hb.mono (by rw [World.size_alloc]; omega)))
  obtain ⟨A2, c2, rfl, hle, r2⟩ := own_rd hown
  have R4 := Lib.hid r2
  clear hb hown r2
  refine (Sum_any A2 _ c2 _ w2 rfl R4.out hle (by rw [List.length_append, List.length_append, HL.out]; simp [four]; omega)).mono ?_
  rintro e w3 ⟨rfl, hb3⟩
  have hs := sumOf_range (four (len : Int) ++ four n ++ xs)
  have hs0 : 0 ≤ sumOf (four (len : Int) ++ four n ++ xs) := hs.1
  have hs1 : sumOf (four (len : Int) ++ four n ++ xs) ≤ 4294967295 := hs.2
  have B3 : Hid (Below (w.heap.size + 1) W w3) := B2.out.trans (hb3.mono hsz2)
  have hsz3 : w.heap.size + 1 ≤ w3.heap.size := Nat.le_trans hsz2 hb3.size
  clear hb3 hs B2 hle
  obtain ⟨sm, hsm⟩ : ∃ sm, sumOf (four (len : Int) ++ four n ++ xs) = sm := ⟨_, rfl⟩
  rw [hsm] at hs0 hs1 ⊢
  have HS := Lib.hid hsm
  clear hsm
  go_wp2_with (go_at_call 45; refine (low_any _ _ hs0 hs1).mono ?_; rintro e w4 ⟨rfl, hb4⟩; have F4 := (F0.out.below B3.out (by omega)).below (hb4.mono hsz3) (by omega); obtain ⟨y0, g0⟩ := F4.c 0 (by omega); obtain ⟨y1, g1⟩ := F4.c 1 (by omega); obtain ⟨y2, g2⟩ := F4.c 2 (by omega); obtain ⟨y3, g3⟩ := F4.c 3 (by omega); have q0 := F4.f 0; have q1 := F4.f 1; have q2 := F4.f 2; have q3 := F4.f 3; have B4 := Lib.hid ((BW.out.trans (B3.out.mono (Nat.le_succ _))).trans (hb4.mono (Nat.le_trans (Nat.le_succ _) hsz3))); clear hb4 F4)
  refine bodyPost_ret (v := .agg #[.int .u8 (sm % 256), .int .u8 (sm / 256 % 256), .int .u8 (sm / 65536 % 256), .int .u8 (sm / 16777216)]) (by simp [results, Try.results37, go_sem, g0, g1, g2, g3]) rfl ⟨?_, ?_⟩
  · have e : lineSum n xs = low4 sm := by unfold lineSum; rw [HL.out, HS.out]
    rw [e]
    rfl
  · exact (((B4.out.setCell (p := ⟨w.heap.size, 0, none⟩) (Nat.le_refl _) _).setCell (p := ⟨w.heap.size, 1, none⟩) (Nat.le_refl _) _).setCell (p := ⟨w.heap.size, 2, none⟩) (Nat.le_refl _) _).setCell (p := ⟨w.heap.size, 3, none⟩) (Nat.le_refl _) _
end Go.Proofs.Ytoegeljjfhbpeaa.J
