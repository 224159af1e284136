/- JournalFound: whatever is handed in, the call returns true, and nothing that lay there is turned. No condition stands open beyond what it reads. -/
import Derived.Test.YtoegeljjfhbpeaaJZ
set_option linter.unusedVariables false
set_option linter.unusedSimpArgs false
namespace Go.Proofs.Ytoegeljjfhbpeaa.J
open Go.RowKit Go.Proofs.YtoegeljjfhbpeaaW.PrintWords Go.Proofs.YtoegeljjfhbpeaaW.PrintLast Go.Proofs.YtoegeljjfhbpeaaW.PrintMore

theorem wfb {a : Int} (h : (Lit.int .u8 a).wf = true) : 0 ≤ a ∧ a ≤ 255 := by
  simp [Lit.wf, IntKind.min, IntKind.max, IntKind.bits, IntKind.signed] at h
  omega
theorem mod_at (n : Int) (d : Nat) (h0 : 0 < d) (hl : d ≤ 140737488355328) : ∃ c : Nat, c < d ∧ wrap64 ((IntKind.u64.wrap n).tmod (IntKind.u64.wrap (d : Int))) = (c : Int) ∧ ¬ IntKind.u64.wrap (d : Int) = 0 := by
  have h2 : IntKind.u64.wrap (d : Int) = (d : Int) := by rw [IntKind.wrap_u64]; omega
  have h3 : 0 ≤ IntKind.u64.wrap n := by rw [IntKind.wrap_u64]; omega
  rw [h2, Int.tmod_eq_emod_of_nonneg h3]
  have h4 := Int.emod_nonneg (IntKind.u64.wrap n) (show (d : Int) ≠ 0 by omega)
  have h5 := Int.emod_lt_of_pos (IntKind.u64.wrap n) (show 0 < (d : Int) by omega)
  refine ⟨(IntKind.u64.wrap n % (d : Int)).toNat, by omega, ?_, by omega⟩
  unfold wrap64
  omega
theorem at_wrap (e j : Nat) (h : e + j ≤ 140737488355328) : wrap64 (wrap64 ((e : Int) + 4) + (j : Int)) = ((e + (4 + j) : Nat) : Int) := by
  unfold wrap64
  omega
theorem reads_atS {w : World} {A : Option Addr} {len : Nat} {b : List ByteArray} (hR : ReadsS w A len b) (hp : 0 < len) : ∃ bb off, A = some ⟨bb, off, none⟩ ∧ bb < w.heap.size ∧ ∀ j, j < len → w.cell? ⟨bb, off + j, none⟩ = some (.string (b.getD j ByteArray.empty)) := by
  obtain ⟨ad, rfl, hcell⟩ := hR.2.2 hp
  have hc0 := hcell 0 hp
  obtain ⟨bb, off, e⟩ := spot hc0
  obtain ⟨bb', off', s'⟩ := ad
  have : s' = none := by
    cases s' with
    | none => rfl
    | some s => simp [Addr.add] at e
  subst this
  refine ⟨bb', off', rfl, ?_, fun j hj => ?_⟩
  · have h := World.block_lt_of_cell? w _ hc0
    simpa [Addr.add] using h
  · rw [← add_at]
    exact hcell j hj
theorem own_read4 {w : World} {base n c : Nat} {A : Option Addr} {xs : List Int} (h : w.ownsRow base 5 1 (.slice A n c) n (nums .u8 xs)) : ReadsInt w .u8 A n xs := by
  obtain ⟨A', c', e, _, hr⟩ := own_rd h
  injection e with e1 _ _
  subst e1
  exact hr
set_option maxHeartbeats 4000000 in
theorem found_any (A : Option Addr) (len cap : Nat) (l : List ByteArray) (which n by_ : Int) (w : World) (hR : ReadsS w A len l) (hc : len ≤ cap) (hby : 0 ≤ by_ ∧ by_ ≤ 255) :
    Calls Try.prog 6 #[.slice A len cap, .int .i64 which, .int .i64 n, .int .u8 by_] w fun e w' => e = .returned (.bool true) ∧ Below w.heap.size w w' := by
  have hl := hR.1
  subst hl
  have HR := Lib.hid hR
  clear hR
  by_cases hs : shortL l = true
  · by_cases hl0 : l.length = 0
    · obtain rfl : l = [] := List.eq_nil_of_length_eq_zero hl0
      have HR0 : Hid (ReadsS w A 0 []) := HR.out
      have hc0 : Hid (0 ≤ cap) := Nat.zero_le _
      clear hc hl0
      show Calls Try.prog 6 #[.slice A 0 cap, .int .i64 which, .int .i64 n, .int .u8 by_] w _
      go_enter Try.func6, Try.ntmps6
      go_wp2_with (first | (go_at_call 18; refine (short_any A 0 cap [] _ HR0.out hc0.out).mono ?_; rw [hs]; rintro e w1 ⟨rfl, hb1⟩; have B1 := Lib.hid hb1; clear hb1) | (go_at_call 14; refine (lives_any _).mono ?_; rintro e w2 ⟨rfl, hb2⟩; have B2 := Lib.hid (B1.out.trans (hb2.mono B1.out.size)); clear hb2))
      go_ret
      exact ⟨rfl, B2.out⟩
    · have d0 : ((l.length : Int) == 0) = false := beq_eq_false_iff_ne.2 (by omega)
      by_cases hb0 : by_ = 0
      · subst hb0
        go_enter Try.func6, Try.ntmps6
        go_wp2_with (first | (go_at_call 18; refine (short_any A l.length cap l _ HR.out hc).mono ?_; rw [hs]; rintro e w1 ⟨rfl, hb1⟩; have B1 := Lib.hid hb1; clear hb1) | (go_at_call 14; refine (lives_any _).mono ?_; rintro e w2 ⟨rfl, hb2⟩; have B2 := Lib.hid (B1.out.trans (hb2.mono B1.out.size)); clear hb2))
        go_ret
        exact ⟨rfl, B2.out⟩
      · have d1 : (by_ == 0) = false := beq_eq_false_iff_ne.2 hb0
        have HF := Lib.hid (fine_of_short hs)
        have HS := Lib.hid hs
        obtain ⟨k, hkl, hkw, hkz⟩ := mod_at which l.length (by omega) (by have := ((short_iff l).1 hs).1; omega)
        rw [show IntKind.u64.wrap (l.length : Int) = (l.length : Int) by rw [IntKind.wrap_u64]; have := ((short_iff l).1 hs).1; omega] at hkw hkz
        obtain ⟨bb, off, rfl, hbb, hcell⟩ := reads_atS HR.out (by omega)
        have HC := Lib.hid hcell
        obtain ⟨s, hsk⟩ : ∃ s, l.getD k ByteArray.empty = s := ⟨_, rfl⟩
        have hsz : s.size ≤ 1000 := by
          rw [← hsk]
          exact ((short_iff l).1 hs).2 _ (by simp [List.getD, hkl])
        obtain ⟨j, hjl, hjw, hjz⟩ := mod_at n (s.size + 4) (by omega) (by omega)
        rw [show IntKind.u64.wrap ((s.size + 4 : Nat) : Int) = (s.size : Int) + 4 by rw [IntKind.wrap_u64]; omega] at hjw hjz
        have HJW := Lib.hid hjw
        clear hjw
        obtain ⟨F, hFe⟩ : ∃ F, framesB l = F := ⟨_, rfl⟩
        have hFl : Hid (F.length ≤ 40320) := by rw [← hFe]; exact short_max hs 0
        obtain ⟨e0, he0⟩ : ∃ e0, (framesB (l.take k)).length = e0 := ⟨_, rfl⟩
        have HB := Lib.hid (framesB_bytes HF.out)
        rw [hFe] at HB
        obtain ⟨x, hx⟩ : ∃ x, byt F (e0 + (4 + j)) = x := ⟨_, rfl⟩
        have hx255 : 0 ≤ x ∧ x ≤ 255 := by rw [← hx]; exact getD_byte HB.out _
        obtain ⟨hat, ht1, ht2⟩ := scan_turned HF.out k hkl j (by rw [hsk]; exact hjl) (Go.bits .xor .u8 x by_) (xor_byte _ _) (by
          rw [hFe, he0]
          show _ ≠ byt F (e0 + (4 + j))
          rw [hx]
          exact xor_ne hx255 hby hb0)
        rw [hFe, he0] at hat ht1 ht2
        obtain ⟨a, ha⟩ : ∃ a, e0 + (4 + j) = a := ⟨_, rfl⟩
        rw [ha] at hat ht1 ht2 hx
        have hwa : wrap64 (wrap64 ((e0 : Int) + 4) + wrap64 ((IntKind.u64.wrap n).tmod ((s.size : Int) + 4))) = (a : Int) := by
          rw [HJW.out, ← ha]
          exact at_wrap e0 j (by have := hFl.out; omega)
        have d2 : decide ((F.length : Int) ≤ (a : Int)) = false := decide_eq_false (Int.not_le.2 (Int.ofNat_lt.2 hat))
        have d3 : ¬ F.length ≤ a := Nat.not_le.2 hat
        obtain ⟨c, hce⟩ : ∃ c, Go.bits .xor .u8 x by_ = c := ⟨_, rfl⟩
        have hc255 : Hid (0 ≤ c ∧ c ≤ 255) := by rw [← hce]; exact xor_byte _ _
        rw [hce] at ht1 ht2
        have p1 : (0 : Int) ≤ (a : Int) := Int.natCast_nonneg a
        have l1 : (a : Int) < (F.length : Int) := Int.ofNat_lt.2 hat
        have n1 : ((a : Int)).toNat = a := Int.toNat_natCast a
        have HT1 := Lib.hid ht1
        have HT2 := Lib.hid ht2
        have HFE := Lib.hid hFe
        have HE0 := Lib.hid he0
        have HX := Lib.hid hx
        have hl40 := ((short_iff l).1 hs).1
        obtain ⟨i9, hi9, _, _, _⟩ := info_parts info9
        have kcut : ∀ W : World, (Instr.slice 32 (.slice (some ⟨bb, off, none⟩) l.length cap) none (some (.int .i64 (k : Int))) none).run Try.prog W = .ok (.slice (some ⟨bb, off, none⟩) k cap) W := fun W => by
          have h := cut_to (P := Try.prog) 32 9 .i64 Try.underlying32 hi9 (some ⟨bb, off, none⟩) l.length cap (k : Int) (by omega) (by omega) hc W
          rw [Int.toNat_natCast] at h
          exact h
        have hRt : Hid (∀ W, Below w.heap.size w W → ReadsS W (some ⟨bb, off, none⟩) k (l.take k)) := fun W hW => ReadsOf.take_ (enc := Value.string) (d := ByteArray.empty) (HR.out.below hW) k (by omega)
        have hlk : Hid ((l.take k).length = k) := List.length_take_of_le (Nat.le_of_lt hkl)
        have hk47 : Hid (k ≤ 140737488355328) := Nat.le_trans (Nat.le_of_lt hkl) (Nat.le_trans hl40 (by decide))
        have hkc : Hid (k ≤ cap) := Nat.le_trans (Nat.le_of_lt hkl) hc
        have HCk : Hid (∀ W, Below w.heap.size w W → W.cell? ⟨bb, off + k, none⟩ = some (.string s)) := fun W hW => by
          rw [(hW.cell (p := ⟨bb, off + k, none⟩) hbb), HC.out k hkl, hsk]
        clear hs hcell hFe he0 ht1 ht2 hx hsk ha
        go_enter Try.func6, Try.ntmps6
        go_wp2_with (first | (go_at_call 18; refine (short_any (some ⟨bb, off, none⟩) l.length cap l _ HR.out hc).mono ?_; rw [HS.out]; rintro e w1 ⟨rfl, hb1⟩; have B1 := Lib.hid hb1; have G1 := B1; clear hb1) | (go_at_call 19; refine (frames_any (some ⟨bb, off, none⟩) k cap (l.take k) w1 (hRt.out w1 G1.out) hkc.out (short_take HS.out k)).mono ?_; rw [HE0.out]; rintro e w2 ⟨v2, rfl, ho2, hb2⟩; obtain ⟨A2, c2, rfl, _, _⟩ := own_rd ho2; have B2 := Lib.hid (G1.out.trans (hb2.mono G1.out.size)); clear ho2 hb2 G1) | (go_at_call 19; refine (frames_any (some ⟨bb, off, none⟩) l.length cap l w2 (HR.out.below B2.out) hc HS.out).mono ?_; rw [HFE.out]; rintro e w3 ⟨v3, rfl, ho3, hb3⟩; obtain ⟨g3, c3, rfl, hg3, hgl3⟩ := ho3.form (Nat.lt_of_le_of_lt (Nat.zero_le a) hat); have hc3 := Lib.hid (own_le ho3); have O3 := Lib.hid ho3; have hcb := (own_at ho3 (a : Int) p1 l1).1; have fb := (own_at ho3 (a : Int) p1 l1).2; rw [n1] at hcb fb; have cb : w3.cell? ⟨g3, a, none⟩ = some (.int .u8 x) := hcb.trans (by rw [← HX.out]; rfl); clear hcb; have O4 : Hid ((w3.setCell ⟨g3, a, none⟩ (.int .u8 c)).ownsRow w2.heap.size 5 1 (.slice (some ⟨g3, 0, none⟩) F.length c3) F.length (nums .u8 (F.set a c))) := (by { have h := (own_store ho3 (a : Int) c).1; rw [n1] at h; exact h }); have HG3 := Lib.hid hg3; have B3 := Lib.hid (B2.out.trans (hb3.mono B2.out.size)); have hck := HCk.out w3 B3.out; have B4 : Hid (Below w.heap.size w (w3.setCell ⟨g3, a, none⟩ (.int .u8 c))) := B3.out.setCell (p := ⟨g3, a, none⟩) (Nat.le_trans B2.out.size hg3) _; clear ho3 hb3 hg3) | (go_at_call 15; refine (scan_any (some ⟨g3, 0, none⟩) F.length c3 (F.set a c) _ (HB.out.set a hc255.out) (own_read4 O4.out) hc3.out (by have := hFl.out; omega)).mono ?_; rw [told_line, ← told_length, HT1.out, HT2.out, hlk.out]; rintro e w5 ⟨v5, rfl, ho5, hb5⟩; obtain ⟨A5, c5, rfl, hc5, hr5⟩ := own_rdS ho5; have R5 := Lib.hid hr5; have B5 := Lib.hid (B4.out.trans (hb5.mono B4.out.size)); clear ho5 hb5 hr5 cb fb hck) | (go_at_call 17; refine (same_any A5 k c5 (l.take k) (some ⟨bb, off, none⟩) k cap (l.take k) w5 R5.out hc5 (hRt.out w5 B5.out) hkc.out hk47.out).mono ?_; rw [decide_eq_true (rfl : l.take k = l.take k)]; rintro e w6 ⟨rfl, hb6⟩; have B6 := Lib.hid (B5.out.trans (hb6.mono B5.out.size)); clear hb6) | (go_at_call 14; refine (lives_any _).mono ?_; rintro e w9 ⟨rfl, hb9⟩; have B9 := Lib.hid (B6.out.trans (hb9.mono B6.out.size)); clear hb9))
        go_ret
        exact ⟨rfl, B9.out⟩
  · have hs' : shortL l = false := by simpa using hs
    go_enter Try.func6, Try.ntmps6
    go_wp2_with (first | (go_at_call 18; refine (short_any A l.length cap l _ HR.out hc).mono ?_; rw [hs']; rintro e w1 ⟨rfl, hb1⟩; have B1 := Lib.hid hb1; clear hb1) | (go_at_call 14; refine (lives_any _).mono ?_; rintro e w2 ⟨rfl, hb2⟩; have B2 := Lib.hid (B1.out.trans (hb2.mono B1.out.size)); clear hb2))
    go_ret
    exact ⟨rfl, B2.out⟩
end Go.Proofs.Ytoegeljjfhbpeaa.J
