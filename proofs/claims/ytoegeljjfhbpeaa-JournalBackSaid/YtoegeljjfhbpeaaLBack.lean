/- JournalBack: whatever is handed in, the call returns true, and nothing that lay there is turned. No condition stands open beyond what it reads. -/
import Derived.Test.YtoegeljjfhbpeaaJY
set_option linter.unusedVariables false
set_option linter.unusedSimpArgs false
namespace Go.Proofs.Ytoegeljjfhbpeaa.J
open Go.RowKit Go.Proofs.YtoegeljjfhbpeaaW.PrintWords Go.Proofs.YtoegeljjfhbpeaaW.PrintLast Go.Proofs.YtoegeljjfhbpeaaW.PrintMore

/-- the place of the cut -/
theorem cut_at (n : Int) (len : Nat) (hl : len ≤ 140737488355328) : ∃ c : Nat, c ≤ len ∧ wrap64 ((IntKind.u64.wrap n).tmod (IntKind.u64.wrap (wrap64 ((len : Int) + 1)))) = (c : Int) ∧ ¬ IntKind.u64.wrap (wrap64 ((len : Int) + 1)) = 0 := by
  have h1 : wrap64 ((len : Int) + 1) = (len : Int) + 1 := by unfold wrap64; omega
  have h2 : IntKind.u64.wrap ((len : Int) + 1) = (len : Int) + 1 := by rw [IntKind.wrap_u64]; omega
  have h3 : 0 ≤ IntKind.u64.wrap n := by rw [IntKind.wrap_u64]; omega
  rw [h1, h2, Int.tmod_eq_emod_of_nonneg h3]
  have h4 := Int.emod_nonneg (IntKind.u64.wrap n) (show (len : Int) + 1 ≠ 0 by omega)
  have h5 := Int.emod_lt_of_pos (IntKind.u64.wrap n) (show 0 < (len : Int) + 1 by omega)
  refine ⟨(IntKind.u64.wrap n % ((len : Int) + 1)).toNat, by omega, ?_, by omega⟩
  unfold wrap64
  omega
set_option maxHeartbeats 4000000 in
theorem back_any (A : Option Addr) (len cap : Nat) (l : List ByteArray) (n : Int) (w : World) (hR : ReadsS w A len l) (hc : len ≤ cap) :
    Calls Try.prog 5 #[.slice A len cap, .int .i64 n] w fun e w' => e = .returned (.bool true) ∧ Below w.heap.size w w' := by
  have hl := hR.1
  subst hl
  have HR := Lib.hid hR
  clear hR
  by_cases hs : shortL l = true
  · have hF := fine_of_short hs
    have HF := Lib.hid hF
    have HS := Lib.hid hs
    have hmax := short_max hs 0
    obtain ⟨F, hFe⟩ : ∃ F, framesB l = F := ⟨_, rfl⟩
    have hFl : Hid (F.length ≤ 40320) := by rw [← hFe]; exact hmax
    obtain ⟨T1, T2⟩ := scan_lines hF [] rfl
    rw [List.append_nil] at T1 T2
    rw [hFe] at T1 T2
    have HT1 := Lib.hid T1
    have HT2 := Lib.hid T2
    have HFE := Lib.hid hFe
    have HB := Lib.hid (framesB_bytes hF)
    rw [hFe] at HB
    have hl40 := ((short_iff l).1 hs).1
    clear T1 T2 hFe hs hF hmax
    obtain ⟨c, hcl, hcw, hcz⟩ := cut_at n F.length (by have := hFl.out; omega)
    obtain ⟨m, hm1, hm2, hm3, hm4, hm5, _⟩ := scan_cut HF.out c (by rw [HFE.out]; exact hcl)
    rw [HFE.out] at hm2 hm3
    obtain ⟨e0, he0⟩ : ∃ e0, (framesB (l.take m)).length = e0 := ⟨_, rfl⟩
    rw [he0] at hm3 hm4
    have HM2 := Lib.hid hm2
    have HM3 := Lib.hid hm3
    have HE0 := Lib.hid he0
    have hlm : Hid ((l.take m).length = m) := by show _ = _; rw [List.length_take]; omega
    obtain ⟨i9, hi9, _, _, _⟩ := info_parts info9
    have kcut : ∀ W : World, (Instr.slice 32 (.slice A l.length cap) none (some (.int .i64 (m : Int))) none).run Try.prog W = .ok (.slice A m cap) W := fun W => by
      have h := cut_to (P := Try.prog) 32 9 .i64 Try.underlying32 hi9 A l.length cap (m : Int) (by omega) (by omega) hc W
      rw [Int.toNat_natCast] at h
      exact h
    have d1 : decide ((m : Int) ≤ (l.length : Int)) = true := by simp; omega
    have d2 : decide ((e0 : Int) ≤ (c : Int)) = true := by simp; omega
    have hRt : Hid (∀ W, Below w.heap.size w W → ReadsS W A m (l.take m)) := fun W hW => ReadsOf.take_ (enc := Value.string) (d := ByteArray.empty) (HR.out.below hW) m hm1
    clear hm2 hm3 he0
    rcases Nat.lt_or_ge m l.length with hml | hml
    · have hm6 : c < (framesB (l.take (m + 1))).length := by rcases hm5 with h | h; omega; exact h
      obtain ⟨e1, he1⟩ : ∃ e1, (framesB (l.take (m + 1))).length = e1 := ⟨_, rfl⟩
      rw [he1] at hm6
      have HE1 := Lib.hid he1
      have kcut2 : ∀ W : World, (Instr.slice 32 (.slice A l.length cap) none (some (.int .i64 (wrap64 ((m : Int) + 1)))) none).run Try.prog W = .ok (.slice A (m + 1) cap) W := fun W => by
        have h := cut_to (P := Try.prog) 32 9 .i64 Try.underlying32 hi9 A l.length cap ((m + 1 : Nat) : Int) (by omega) (by omega) hc W
        rw [Int.toNat_natCast] at h
        rw [show wrap64 ((m : Int) + 1) = ((m + 1 : Nat) : Int) by unfold wrap64; omega]
        exact h
      have d3 : decide ((c : Int) < (e1 : Int)) = true := by simp; omega
      have d4 : ((m : Int) == (l.length : Int)) = false := by simp; omega
      have hRt1 : Hid (∀ W, Below w.heap.size w W → ReadsS W A (m + 1) (l.take (m + 1))) := fun W hW => ReadsOf.take_ (enc := Value.string) (d := ByteArray.empty) (HR.out.below hW) (m + 1) hml
      clear he1 hm5
      go_enter Try.func5, Try.ntmps5
      go_wp2_with (first | (go_at_call 18; refine (short_any A l.length cap l _ HR.out hc).mono ?_; rw [HS.out]; rintro e w1 ⟨rfl, hb1⟩; have B1 := Lib.hid hb1; have R11 := HR.out.below B1.out; clear hb1) | (go_at_call 19; refine (frames_any A l.length cap l w1 R11 hc HS.out).mono ?_; rw [HFE.out]; rintro e w2 ⟨v2, rfl, ho2, hb2⟩; obtain ⟨A2, c2, rfl, hc2, hr2⟩ := own_rd ho2; have R2 := Lib.hid hr2; clear R11; have B2 := Lib.hid (B1.out.trans (hb2.mono B1.out.size)); clear ho2 hb2 hr2) | (go_at_call 15; refine (scan_any A2 F.length c2 F w2 HB.out R2.out hc2 (by have := hFl.out; omega)).mono ?_; rw [told_line, ← told_length, HT1.out, HT2.out]; rintro e w3 ⟨v3, rfl, ho3, hb3⟩; obtain ⟨A3, c3, rfl, hc3, hr3⟩ := own_rdS ho3; have R3 := Lib.hid hr3; have B23 := Lib.hid hb3; have R2b := R2; clear R2; have B3 := Lib.hid (B2.out.trans (hb3.mono B2.out.size)); clear ho3 hb3 hr3) | (go_at_call 17; refine (same_any A3 l.length c3 l A l.length cap l w3 R3.out hc3 (HR.out.below B3.out) hc (by omega)).mono ?_; rw [decide_eq_true (rfl : l = l)]; rintro e w4 ⟨rfl, hb4⟩; have B34 := Lib.hid hb4; have R3b := R3; clear R3; have B4 := Lib.hid (B3.out.trans (hb4.mono B3.out.size)); have R24 : Hid (ReadsInt w4 .u8 A2 c (F.take c)) := ReadsOf.take_ (enc := Value.int .u8) (d := (0 : Int)) (R2b.out.below (B23.out.trans (B34.out.mono B23.out.size))) c hcl; clear hb4) | (go_at_call 15; refine (scan_any A2 c c2 (F.take c) w4 (HB.out.take c) R24.out (Nat.le_trans hcl hc2) (by have := hFl.out; omega)).mono ?_; rw [told_line, ← told_length, HM2.out, HM3.out, hlm.out]; rintro e w5 ⟨v5, rfl, ho5, hb5⟩; obtain ⟨A5, c5, rfl, hc5, hr5⟩ := own_rdS ho5; have R5 := Lib.hid hr5; have B5 := Lib.hid (B4.out.trans (hb5.mono B4.out.size)); clear ho5 hb5 hr5 R24) | (go_at_call 17; refine (same_any A5 m c5 (l.take m) A m cap (l.take m) w5 R5.out hc5 (hRt.out w5 B5.out) (by omega) (by omega)).mono ?_; rw [decide_eq_true (rfl : l.take m = l.take m)]; rintro e w6 ⟨rfl, hb6⟩; have B6 := Lib.hid (B5.out.trans (hb6.mono B5.out.size)); have G6 := B6; clear hb6 R5) | (go_at_call 19; refine (frames_any A m cap (l.take m) w6 (hRt.out w6 G6.out) (by omega) (short_take HS.out m)).mono ?_; rw [HE0.out]; rintro e w7 ⟨v7, rfl, ho7, hb7⟩; obtain ⟨A7, c7, rfl, _, _⟩ := own_rd ho7; have B7 := Lib.hid (G6.out.trans (hb7.mono G6.out.size)); clear ho7 hb7 G6) | (go_at_call 19; refine (frames_any A (m + 1) cap (l.take (m + 1)) w7 (hRt1.out w7 B7.out) (by omega) (short_take HS.out (m + 1))).mono ?_; rw [HE1.out]; rintro e w8 ⟨v8, rfl, ho8, hb8⟩; obtain ⟨A8, c8, rfl, _, _⟩ := own_rd ho8; have B8 := Lib.hid (B7.out.trans (hb8.mono B7.out.size)); clear ho8 hb8) | (go_at_call 14; refine (lives_any _).mono ?_; rintro e w9 ⟨rfl, hb9⟩; have B9 := Lib.hid (B8.out.trans (hb9.mono B8.out.size)); clear hb9))
      go_ret
      exact ⟨rfl, B9.out⟩
    · have d4 : ((m : Int) == (l.length : Int)) = true := by simp; omega
      clear hm5
      go_enter Try.func5, Try.ntmps5
      go_wp2_with (first | (go_at_call 18; refine (short_any A l.length cap l _ HR.out hc).mono ?_; rw [HS.out]; rintro e w1 ⟨rfl, hb1⟩; have B1 := Lib.hid hb1; have R11 := HR.out.below B1.out; clear hb1) | (go_at_call 19; refine (frames_any A l.length cap l w1 R11 hc HS.out).mono ?_; rw [HFE.out]; rintro e w2 ⟨v2, rfl, ho2, hb2⟩; obtain ⟨A2, c2, rfl, hc2, hr2⟩ := own_rd ho2; have R2 := Lib.hid hr2; clear R11; have B2 := Lib.hid (B1.out.trans (hb2.mono B1.out.size)); clear ho2 hb2 hr2) | (go_at_call 15; refine (scan_any A2 F.length c2 F w2 HB.out R2.out hc2 (by have := hFl.out; omega)).mono ?_; rw [told_line, ← told_length, HT1.out, HT2.out]; rintro e w3 ⟨v3, rfl, ho3, hb3⟩; obtain ⟨A3, c3, rfl, hc3, hr3⟩ := own_rdS ho3; have R3 := Lib.hid hr3; have B23 := Lib.hid hb3; have R2b := R2; clear R2; have B3 := Lib.hid (B2.out.trans (hb3.mono B2.out.size)); clear ho3 hb3 hr3) | (go_at_call 17; refine (same_any A3 l.length c3 l A l.length cap l w3 R3.out hc3 (HR.out.below B3.out) hc (by omega)).mono ?_; rw [decide_eq_true (rfl : l = l)]; rintro e w4 ⟨rfl, hb4⟩; have B34 := Lib.hid hb4; have R3b := R3; clear R3; have B4 := Lib.hid (B3.out.trans (hb4.mono B3.out.size)); have R24 : Hid (ReadsInt w4 .u8 A2 c (F.take c)) := ReadsOf.take_ (enc := Value.int .u8) (d := (0 : Int)) (R2b.out.below (B23.out.trans (B34.out.mono B23.out.size))) c hcl; clear hb4) | (go_at_call 15; refine (scan_any A2 c c2 (F.take c) w4 (HB.out.take c) R24.out (Nat.le_trans hcl hc2) (by have := hFl.out; omega)).mono ?_; rw [told_line, ← told_length, HM2.out, HM3.out, hlm.out]; rintro e w5 ⟨v5, rfl, ho5, hb5⟩; obtain ⟨A5, c5, rfl, hc5, hr5⟩ := own_rdS ho5; have R5 := Lib.hid hr5; have B5 := Lib.hid (B4.out.trans (hb5.mono B4.out.size)); clear ho5 hb5 hr5 R24) | (go_at_call 17; refine (same_any A5 m c5 (l.take m) A m cap (l.take m) w5 R5.out hc5 (hRt.out w5 B5.out) (by omega) (by omega)).mono ?_; rw [decide_eq_true (rfl : l.take m = l.take m)]; rintro e w6 ⟨rfl, hb6⟩; have B6 := Lib.hid (B5.out.trans (hb6.mono B5.out.size)); have G6 := B6; clear hb6 R5) | (go_at_call 19; refine (frames_any A m cap (l.take m) w6 (hRt.out w6 G6.out) (by omega) (short_take HS.out m)).mono ?_; rw [HE0.out]; rintro e w7 ⟨v7, rfl, ho7, hb7⟩; obtain ⟨A7, c7, rfl, _, _⟩ := own_rd ho7; have B7 := Lib.hid (G6.out.trans (hb7.mono G6.out.size)); clear ho7 hb7 G6) | (go_at_call 14; refine (lives_any _).mono ?_; rintro e w9 ⟨rfl, hb9⟩; have B9 := Lib.hid (B7.out.trans (hb9.mono B7.out.size)); clear hb9))
      go_ret
      exact ⟨rfl, B9.out⟩
  · have hs' : shortL l = false := by simpa using hs
    go_enter Try.func5, Try.ntmps5
    go_wp2_with (first | (go_at_call 18; refine (short_any A l.length cap l _ HR.out hc).mono ?_; rw [hs']; rintro e w1 ⟨rfl, hb1⟩; have B1 := Lib.hid hb1; clear hb1) | (go_at_call 14; refine (lives_any _).mono ?_; rintro e w2 ⟨rfl, hb2⟩; have B2 := Lib.hid (B1.out.trans (hb2.mono B1.out.size)); clear hb2))
    go_ret
    exact ⟨rfl, B2.out⟩
end Go.Proofs.Ytoegeljjfhbpeaa.J
