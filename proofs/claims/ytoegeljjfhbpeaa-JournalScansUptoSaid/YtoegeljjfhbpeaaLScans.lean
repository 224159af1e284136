/- JournalScans: of any bytes, a mebibyte at most, the call returns true, and nothing that lay there is turned. -/
import Derived.Test.YtoegeljjfhbpeaaJW
set_option linter.unusedVariables false
set_option linter.unusedSimpArgs false
namespace Go.Proofs.Ytoegeljjfhbpeaa.J
open Go.RowKit Go.Proofs.YtoegeljjfhbpeaaW.PrintWords Go.Proofs.YtoegeljjfhbpeaaW.PrintLast Go.Proofs.YtoegeljjfhbpeaaW.PrintMore

theorem bytes_wf {l : List Int} (h : ∀ n ∈ l, (Lit.int .u8 n).wf = true) : Bytes l := fun x hx => by
  have h1 := h x hx
  simp [Lit.wf, IntKind.min, IntKind.max, IntKind.bits, IntKind.signed] at h1
  omega
set_option maxHeartbeats 4000000 in
theorem scans_any (A : Option Addr) (len cap : Nat) (b : List Int) (w : World) (hb0 : Bytes b) (hR : ReadsInt w .u8 A len b) (hc : len ≤ cap) (hm : len ≤ 1048576) :
    Calls Try.prog 4 #[.slice A len cap] w fun e w' => e = .returned (.bool true) ∧ Below w.heap.size w w' := by
  have hl := hR.1
  subst hl
  have HR := Lib.hid hR
  have HB := Lib.hid hb0
  have HM := Lib.hid hm
  have HC := Lib.hid hc
  obtain ⟨e0, he0⟩ : ∃ e0 : Nat, endOf (scanL b) = e0 := ⟨_, rfl⟩
  have HE := Lib.hid he0
  obtain ⟨L, hL⟩ : ∃ L, told b = L := ⟨_, rfl⟩
  have HL := Lib.hid hL
  have HLm : Hid (L.length ≤ 140737488355328) := by
    show _ ≤ _
    rw [← hL, told_length]
    exact Nat.le_trans (Nat.le_trans (Nat.le_mul_of_pos_left _ (by decide : 0 < 8)) (scanL_len b)) (Nat.le_trans hm (by decide))
  clear hR hb0 hm hc he0 hL
  go_enter Try.func4, Try.ntmps4
  go_wp2_with (first | (at_builtin; refine print_append_row (w0 := w) w.heap.size rfl _ _ 22 5 .u8 1 rfl Try.underlying22 info5 (by omega) _ [] b A b.length cap rfl rfl (World.ownsRow_made w #[] 0 (Nat.le_refl _) (Nat.zero_le _) (by simp)) (HR.out.below ((Below.refl _ _).alloc (Nat.le_refl _) _)) ((Below.refl _ _).alloc (Nat.le_refl _) _) (by simp) (by rw [List.length_nil, Nat.zero_add, Nat.mul_one]; exact Nat.le_trans HM.out (by decide)) ?_; rintro v1 w1 hown1 hb1 _ _; rw [List.nil_append] at hown1; obtain ⟨A1, c1, rfl, hc1, hr1⟩ := own_rd hown1; have R1 := Lib.hid hr1; have HC1 := Lib.hid hc1; have B1 := Lib.hid hb1; clear hown1 hb1 hr1 hc1) | (go_at_call 15; have h15 := scan_any A1 b.length c1 b w1 HB.out R1.out HC1.out (Nat.le_trans HM.out (by decide)); rw [told_line, ← told_length, HE.out, HL.out] at h15; refine h15.mono ?_; clear h15; rintro e w2 ⟨v2, rfl, ho2, hb2⟩; obtain ⟨A2, c2, rfl, hc2, hr2⟩ := own_rdS ho2; have R2 := Lib.hid hr2; have HC2 := Lib.hid hc2; have B2 := Lib.hid (B1.out.trans (hb2.mono B1.out.size)); clear ho2 hb2 hr2 hc2) | (go_at_call 16; have h16 := rscan_any A b.length cap b w2 HB.out (HR.out.below B2.out) HC.out (Nat.le_trans HM.out (by decide)); rw [told_line, ← told_length, HE.out, HL.out] at h16; refine h16.mono ?_; clear h16; rintro e w3 ⟨v3, rfl, ho3, hb3⟩; obtain ⟨A3, c3, rfl, hc3, hr3⟩ := own_rdS ho3; have R3 := Lib.hid hr3; have HC3 := Lib.hid hc3; have R2b := Lib.hid (R2.out.below hb3); have B3 := Lib.hid (B2.out.trans (hb3.mono B2.out.size)); clear ho3 hb3 hr3 hc3) | (go_at_call 17; have h17 := same_any A2 L.length c2 L A3 L.length c3 L w3 R2b.out HC2.out R3.out HC3.out HLm.out; rw [decide_eq_true (rfl : L = L)] at h17; refine h17.mono ?_; clear h17; rintro e w4 ⟨rfl, hb4⟩; have B4 := Lib.hid (B3.out.trans (hb4.mono B3.out.size)); clear hb4) | (go_at_call 14; refine (lives_any _).mono ?_; rintro e w5 ⟨rfl, hb5⟩; have B5 := Lib.hid (B4.out.trans (hb5.mono B4.out.size)); clear hb5))
  go_ret
  exact ⟨rfl, B5.out⟩
end Go.Proofs.Ytoegeljjfhbpeaa.J
