/- JournalSafe: whatever is handed in, the call returns true, and nothing that lay there is turned. No condition stands open beyond what it reads. -/
import Derived.Test.YtoegeljjfhbpeaaJW
import Derived.Test.YtoegeljjfhbpeaaWGuard
set_option linter.unusedVariables false
set_option linter.unusedSimpArgs false
namespace Go.Proofs.Ytoegeljjfhbpeaa.J
open Go.RowKit Go.Proofs.YtoegeljjfhbpeaaW.PrintWords Go.Proofs.YtoegeljjfhbpeaaW.PrintLast Go.Proofs.YtoegeljjfhbpeaaW.PrintMore

theorem cut_at (n : Int) (len : Nat) (hl : len ≤ 140737488355328) : ∃ c : Nat, c ≤ len ∧ wrap64 ((IntKind.u64.wrap n).tmod (IntKind.u64.wrap (wrap64 ((len : Int) + 1)))) = (c : Int) ∧ ¬ IntKind.u64.wrap (wrap64 ((len : Int) + 1)) = 0 := by
  have h1 : wrap64 ((len : Int) + 1) = (len : Int) + 1 := by unfold wrap64; omega
  have h2 : IntKind.u64.wrap ((len : Int) + 1) = (len : Int) + 1 := by rw [IntKind.wrap_u64]; omega
  have h3 : 0 ≤ IntKind.u64.wrap n := by rw [IntKind.wrap_u64]; omega
  rw [h1, h2, Int.tmod_eq_emod_of_nonneg h3]
  have h4 := Int.emod_nonneg (IntKind.u64.wrap n) (show (len : Int) + 1 ≠ 0 by omega)
  have h5 := Int.emod_lt_of_pos (IntKind.u64.wrap n) (show 0 < (len : Int) + 1 by omega)
  refine ⟨(IntKind.u64.wrap n % ((len : Int) + 1)).toNat, by omega, ?_, by omega⟩
  unfold wrap64
  omega
theorem wfi {a : Int} (h : (Lit.int .i64 a).wf = true) : -9223372036854775808 ≤ a ∧ a ≤ 9223372036854775807 := by
  simp [Lit.wf, IntKind.min, IntKind.max, IntKind.bits, IntKind.signed] at h
  omega
theorem rdS_of {w : World} {base n c : Nat} {A : Option Addr} {xs : List ByteArray} (h : w.ownsRow base 9 1 (.slice A n c) n (xs.map Value.string)) : ReadsS w A n xs := by
  obtain ⟨A', c', e, _, hr⟩ := own_rdS h
  injection e with e1 _ _
  subst e1
  exact hr
theorem reads_atS {w : World} {A : Option Addr} {len : Nat} {b : List ByteArray} (hR : ReadsS w A len b) (hp : 0 < len) : ∃ bb off, A = some ⟨bb, off, none⟩ ∧ bb < w.heap.size ∧ ∀ j, j < len → w.cell? ⟨bb, off + j, none⟩ = some (.string (b.getD j ByteArray.empty)) := by
  obtain ⟨ad, rfl, hcell⟩ := hR.2.2 hp
  have hc0 := hcell 0 hp
  obtain ⟨bb, off, e⟩ := spot hc0
  obtain ⟨bb', off', s'⟩ := ad
  have : s' = none := by
    cases s' with
    | none => rfl
    | some s => simp [Addr.add] at e
  subst this
  refine ⟨bb', off', rfl, ?_, fun j hj => ?_⟩
  · have h := World.block_lt_of_cell? w _ hc0
    simpa [Addr.add] using h
  · rw [← add_at]
    exact hcell j hj
theorem len_wrap (n : Nat) (h : n ≤ 140737488355328) : IntKind.u64.wrap (wrap64 ((n : Int) + 1)) = (n : Int) + 1 := by
  have h1 : wrap64 ((n : Int) + 1) = (n : Int) + 1 := by unfold wrap64; omega
  rw [h1, IntKind.wrap_u64]
  omega
theorem safe_measure {i n : Nat} (hw : wrap64 ((i : Int) + 1) = (i : Int) + 1) (hi : i < n) : n - (intOf (Value.int IntKind.i64 (wrap64 ((i : Int) + 1)))).toNat < n - (intOf (Value.int IntKind.i64 (i : Int))).toNat := by
  rw [hw]
  show n - ((i : Int) + 1).toNat < n - ((i : Int)).toNat
  omega
set_option maxRecDepth 100000 in
set_option maxHeartbeats 8000000 in
theorem safe_law (A : Option Addr) (len cap : Nat) (l : List ByteArray) (safe keep : Int) (more : ByteArray) (w : World) (hR : ReadsS w A len l) (hc : len ≤ cap) (hk0 : -9223372036854775808 ≤ keep) (hk1 : keep ≤ 9223372036854775807) :
    Calls Try.prog 7 #[.slice A len cap, .int .i64 safe, .int .i64 keep, .string more] w fun e w' => e = .returned (.bool true) ∧ Below w.heap.size w w' := by
  have hl := hR.1
  subst hl
  have HR := Lib.hid hR
  clear hR
  by_cases hs : shortL l = true
  · by_cases hm : more.size ≤ 1000
    · have dm : decide ((1000 : Int) < (more.size : Int)) = false := decide_eq_false (by omega)
      have HS := Lib.hid hs
      have HF := Lib.hid (fine_of_short hs)
      have HM := Lib.hid hm
      have hl40 := ((short_iff l).1 hs).1
      obtain ⟨n, hnl, hnw, hnz⟩ := cut_at safe l.length (by omega)
      have hq : IntKind.u64.wrap (wrap64 ((l.length : Int) + 1)) = (l.length : Int) + 1 := len_wrap l.length (by omega)
      rw [hq] at hnw hnz
      clear hq
      clear hs hm
      go_enter Try.func7, Try.ntmps7
      go_wp2_with (first | (go_at_call 18; refine (short_any A l.length cap l _ HR.out hc).mono ?_; rw [HS.out]; rintro e w1 ⟨rfl, hb1⟩; have B1 := Lib.hid hb1; clear hb1) | (go_at_call 20; refine (newTape_any w1).mono ?_; rintro e w2 ⟨rfl, rfl⟩; have T2 := Lib.hid (TapeAt.new w1 w.heap.size B1.out.size); have B2 : Hid (Below w.heap.size w (w1.alloc (.cells #[.bool true, .slice none 0 0, .int .i64 0] 66))) := B1.out.alloc B1.out.size _; generalize w1.alloc (.cells #[.bool true, .slice none 0 0, .int .i64 0] 66) = w2 at T2 B2 ⊢) | (go_at_call 21; refine (open_any T2.out (by decide) B2.out.size).mono ?_; rintro e w3 ⟨lg, lv3, v3, rfl, t3, l3, k3, hlg3, hv3, hlv3⟩; have T3 : Hid (Both w3 w.heap.size w1.heap.size lg v3 lv3 [] 0 [] 0) := ⟨t3, l3⟩; have B3 := Lib.hid (B2.out.trans (T2.out.below B2.out.size (fun _ h => .inl h) k3)); clear t3 l3 k3 hv3 hlv3 T2))
      obtain ⟨g, hg⟩ : ∃ g, w1.heap.size = g := ⟨_, rfl⟩
      rw [hg] at T3 ⊢
      rw [hnw]
      clear hnw hnz
      go_loopw [13] (fun x wr => ∃ (i : Nat) (v lv : Value) (su sf : Nat), x = .int .i64 (i : Int) ∧ i ≤ l.length ∧ Both wr w.heap.size g lg v lv (framesB (l.take i)) su (l.take i) sf ∧ su = (if n < i then (framesB (l.take n)).length else 0) ∧ Below w.heap.size w wr) (fun x _ => l.length - (intOf x).toNat)
      case atStart => exact ⟨0, v3, lv3, 0, 0, rfl, Nat.zero_le _, T3.out, (if_neg (Nat.not_lt_zero n)).symm, B3.out⟩
      case round =>
        obtain ⟨i, v, lv, su, sf, rfl, hil, hT, hsu, hB⟩ := hrel
        have TW := Lib.hid hT
        have BW := Lib.hid hB
        have HSU := Lib.hid hsu
        clear hT hB hsu
        rcases Nat.lt_or_ge i l.length with hi | hi
        · have dl : decide ((i : Int) < (l.length : Int)) = true := decide_eq_true (by omega)
          obtain ⟨bb, off, rfl, hbb, hcell⟩ := reads_atS HR.out (by omega)
          obtain ⟨s, hse⟩ : ∃ s, l[i] = s := ⟨_, rfl⟩
          have hgd : l.getD i ByteArray.empty = s := by simp [List.getD, hi, hse]
          have hCI : Hid (∀ W, Below w.heap.size w W → W.cell? ⟨bb, off + i, none⟩ = some (.string s)) := fun W hW => by rw [hW.cell (p := ⟨bb, off + i, none⟩) hbb, hcell i hi, hgd]
          have hs64 : s.size ≤ 65536 := by
            have := ((short_iff l).1 HS.out).2 s (by rw [← hse]; exact List.getElem_mem hi)
            omega
          have hti : (l.take i).length = i := by rw [List.length_take]; omega
          have hi31 : (l.take i).length ≤ 2147483647 := by omega
          have hx64 : (framesB (l.take i)).length ≤ 70368744177664 := Nat.le_trans (short_max (short_take HS.out i) 0) (by decide)
          have hfr : framesB (l.take (i + 1)) = framesB (l.take i) ++ frameL (i : Int) (bytesOf s) := by rw [framesB_take l i hi, hse]
          have htk : l.take (i + 1) = l.take i ++ [s] := by rw [List.take_add_one, List.getElem?_eq_getElem hi, hse]; rfl
          have p0 : (0 : Int) ≤ (i : Int) := by omega
          have l0 : (i : Int) < (l.length : Int) := by omega
          have n0 : ((i : Int)).toNat = i := by omega
          have Wi : Hid (wrap64 ((i : Int) + 1) = (i : Int) + 1) := by { show _ = _; unfold wrap64; omega }
          clear hcell
          have Hs64 := Lib.hid hs64
          have Hi31 := Lib.hid hi31
          have Hx64 := Lib.hid hx64
          have Hfr := Lib.hid hfr
          have Htk := Lib.hid htk
          have Hti := Lib.hid hti
          have Hse := Lib.hid hse
          have H40 := Lib.hid hl40
          clear hs64 hi31 hx64 hfr htk hti hgd hl40
          by_cases hin : i = n
          · have Hsn : Hid ((framesB (l.take i)).length = if n < i + 1 then (framesB (l.take n)).length else 0) := by { show _ = _; rw [if_pos (by omega), hin] }
            have dn : ((i : Int) == (n : Int)) = true := beq_iff_eq.2 (by omega)
            clear hin
            have wi := Wi.out
            go_wp2_with (first | (go_at_call 22; refine (logSync_any TW.out).mono ?_; rintro e w4 ⟨rfl, t4, k4⟩; have T4 := Lib.hid t4; have B4 := Lib.hid (BW.out.trans (TW.out.below BW.out.size (fun k h => h.elim .inl (fun h => .inr (.inl h))) k4)); have cI := hCI.out w4 B4.out; clear t4 k4) | (go_at_call 23; refine (add_any T4.out s B4.out.size Hs64.out Hi31.out Hx64.out).mono ?_; rintro e w5 ⟨rfl, v5, lv5, t5, k5, _, _⟩; have T5 : Hid (Both w5 w.heap.size g lg v5 lv5 (framesB (l.take (i + 1))) (framesB (l.take i)).length (l.take (i + 1)) i) := by { have h := t5; rw [Hti.out] at h; rw [Hfr.out, Htk.out]; exact h }; have B5 := Lib.hid (B4.out.trans (T4.out.below B4.out.size (fun _ h => h) k5)); clear t5 k5))
            clear wi
            go_roundw
            case rel => exact ⟨i + 1, v5, lv5, _, _, congrArg (Value.int .i64) (Wi.out.trans (Int.natCast_succ i).symm), hi, T5.out, Hsn.out, B5.out⟩
            case measure => exact safe_measure Wi.out hi
          · have Hsn : Hid (su = if n < i + 1 then (framesB (l.take n)).length else 0) := by { show _ = _; rw [HSU.out]; by_cases h : n < i; rw [if_pos h, if_pos (by omega)]; rw [if_neg h, if_neg (by omega)] }
            have dn : ((i : Int) == (n : Int)) = false := beq_eq_false_iff_ne.2 (by omega)
            have wi := Wi.out
            have cI := hCI.out wr BW.out
            go_wp2_with ((go_at_call 23; refine (add_any TW.out s BW.out.size Hs64.out Hi31.out Hx64.out).mono ?_; rintro e w5 ⟨rfl, v5, lv5, t5, k5, _, _⟩; have T5 : Hid (Both w5 w.heap.size g lg v5 lv5 (framesB (l.take (i + 1))) su (l.take (i + 1)) sf) := by { have h := t5; rw [Hti.out] at h; rw [Hfr.out, Htk.out]; exact h }; have B5 := Lib.hid (BW.out.trans (TW.out.below BW.out.size (fun _ h => h) k5)); clear t5 k5))
            clear wi
            go_roundw
            case rel => exact ⟨i + 1, v5, lv5, _, _, congrArg (Value.int .i64) (Wi.out.trans (Int.natCast_succ i).symm), hi, T5.out, Hsn.out, B5.out⟩
            case measure => exact safe_measure Wi.out hi
        · obtain rfl : i = l.length := by omega
          have dl : decide ((l.length : Int) < (l.length : Int)) = false := decide_eq_false (by omega)
          rw [List.take_length] at TW
          obtain ⟨i9, hi9, _, _, _⟩ := info_parts info9
          have F40 : Hid ((framesB l).length ≤ 40320) := short_max HS.out 0
          by_cases hin : n = l.length
          · have dn : ((l.length : Int) == (n : Int)) = true := beq_iff_eq.2 (by omega)
            obtain ⟨c, m, lm, G, H, hcc, hlm, hta0, hnm, hml, hG, hto, hen, hta, hhh, hH, htm, hem⟩ := safe_facts HS.out n (framesB l).length keep more HM.out hnl (Nat.le_refl _) (by rw [hin, List.take_length]; exact Nat.le_refl _)
            have HFc : Hid (((framesB l).take c).length ≤ 70368744177664) := by show _ ≤ _; rw [List.length_take]; exact Nat.le_trans (Nat.min_le_right _ _) (Nat.le_trans F40.out (by decide))
            obtain ⟨F, hF⟩ : ∃ F, framesB l = F := ⟨_, rfl⟩
            rw [hF] at TW F40 HFc hcc hto hen hta
            clear hin
            have HCC := Lib.hid hcc
            have HLM := Lib.hid hlm
            have HG40 := Lib.hid hG
            have HTO := Lib.hid hto
            have HEN := Lib.hid hen
            have HTA := Lib.hid hta
            have HHH := Lib.hid hhh
            have H50 := Lib.hid hH
            have HTM := Lib.hid htm
            have HEM := Lib.hid hem
            have hRt : Hid (∀ W, Below w.heap.size w W → ReadsS W A m lm) := fun W hW => by
              rw [← hta0]
              exact ReadsOf.take_ (enc := Value.string) (d := ByteArray.empty) (HR.out.below hW) m hml
            have kcut : ∀ W : World, (Instr.slice 32 (.slice A l.length cap) none (some (.int .i64 (m : Int))) none).run Try.prog W = .ok (.slice A m cap) W := fun W => by
              have h := cut_to (P := Try.prog) 32 9 .i64 Try.underlying32 hi9 A l.length cap (m : Int) (by omega) (by omega) hc W
              rw [Int.toNat_natCast] at h
              exact h
            have Hmc : Hid (m ≤ cap) := Nat.le_trans hml hc
            have Hm40 : Hid (m ≤ 40) := Nat.le_trans hml hl40
            have d1 : decide ((m : Int) < (n : Int)) = false := decide_eq_false (Int.not_lt.2 (Int.ofNat_le.2 hnm))
            have d2 : decide ((l.length : Int) < (m : Int)) = false := decide_eq_false (Int.not_lt.2 (Int.ofNat_le.2 hml))
            have d3 : ¬ m < n := Nat.not_lt.2 hnm
            have d4 : ¬ l.length < m := Nat.not_lt.2 hml
            have HLP : Hid ((lm ++ [more]).length = m + 1) := by show _ = _; rw [List.length_append, hlm]; rfl
            clear hcc hlm hta0 hnm hml hG hto hen hta hhh hH htm hem
            go_wp2_with (first | (go_at_call 22; refine (logSync_any TW.out).mono ?_; rintro e w9 ⟨rfl, t9, k9⟩; have T9 := Lib.hid t9; have B9 := Lib.hid (BW.out.trans (TW.out.below BW.out.size (fun k h => h.elim .inl (fun h => .inr (.inl h))) k9)); clear t9 k9 TW) | (go_at_call 24; refine (crash_any T9.out.tape (Nat.le_trans F40.out (by decide)) B9.out.size keep (-1) 0 hk0 hk1 (by decide)).mono ?_; rintro e w10 ⟨rfl, v10, t10, k10, _⟩; have T10 : Hid (TapeAt w10 w.heap.size g v10 (F.take c) c) := by { rw [crashed_none, HCC.out] at t10; exact t10 }; have B10 := Lib.hid (B9.out.trans (T9.out.tape.below B9.out.size (fun _ h => .inl h) k10)); clear t10 k10 T9) | (go_at_call 21; refine (open_any T10.out (HFc.out) B10.out.size).mono ?_; rintro e w11 ⟨lgy, lv11, v11, rfl, t11, l11, k11, hlg11, hv11, hlv11⟩; have T11 : Hid (Both w11 w.heap.size g lgy v11 lv11 G G.length lm m) := by { rw [HEN.out, HTA.out] at t11; rw [HTO.out, HLM.out] at l11; exact ⟨t11, l11⟩ }; have B11 := Lib.hid (B10.out.trans (T10.out.below B10.out.size (fun _ h => .inl h) k11)); clear t11 l11 k11 hlg11 hv11 hlv11 T10) | (go_at_call 25; refine (lines_any T11.out.log (by rw [HLM.out]; exact Nat.le_trans (Nat.mul_le_mul_right 16 Hm40.out) (by decide))).mono ?_; rintro e w12 ⟨v12, rfl, ho12, hb12⟩; rw [HLM.out] at ho12; obtain ⟨A12, c12, rfl, hc12, hr12⟩ := own_rdS ho12; have O12 := Lib.hid ho12; have Hc12 := Lib.hid hc12; have B12 := Lib.hid (B11.out.trans (hb12.mono B11.out.size)); have T12 := Lib.hid (T11.out.kept_below hb12); have P11 : Hid (∀ k, (k = g ∨ k = lgy ∨ v11.ownBlock = some k ∨ lv11.ownBlock = some k) → k < w11.heap.size) := T11.out.touched; clear ho12 hb12 hr12 hc12 T11) | (go_at_call 17; have h17 := same_any A12 m c12 lm A m cap lm w12 (rdS_of O12.out) Hc12.out (hRt.out w12 B12.out) Hmc.out (Nat.le_trans Hm40.out (by decide)); rw [decide_eq_true (rfl : lm = lm)] at h17; refine h17.mono ?_; clear h17; rintro e w13 ⟨rfl, hb13⟩; have O13 : Hid (w13.ownsRow w11.heap.size 9 1 (.slice A12 m c12) m (lm.map Value.string)) := own_past O12.out (Keeps.of_below (S := fun _ => False) hb13) (fun _ h => h.elim); have B13 := Lib.hid (B12.out.trans (hb13.mono B12.out.size)); have T13 := Lib.hid (T12.out.kept_below hb13); clear hb13 T12 O12) | (go_at_call 26; refine (safe_any T13.out.log).mono ?_; rintro e w' ⟨rfl, rfl⟩) | (go_at_call 23; have h23 := add_any T13.out more B13.out.size (Nat.le_trans HM.out (by decide)) (by rw [HLM.out]; exact Nat.le_trans Hm40.out (by decide)) (Nat.le_trans HG40.out (by decide)); rw [HLM.out, HHH.out] at h23; refine h23.mono ?_; clear h23; rintro e w14 ⟨rfl, v14, lv14, t14, k14, _, _⟩; have T14 : Hid (Both w14 w.heap.size g lgy v14 lv14 H G.length (lm ++ [more]) m) := t14; have O14 : Hid (w14.ownsRow w11.heap.size 9 1 (.slice A12 m c12) m (lm.map Value.string)) := own_past O13.out k14 P11.out; have B14 := Lib.hid (B13.out.trans (T13.out.below B13.out.size (fun _ h => h) k14)); clear t14 k14 T13 O13) | (go_at_call 22; refine (logSync_any T14.out).mono ?_; rintro e w15 ⟨rfl, t15, k15⟩; have T15 : Hid (TapeAt w15 w.heap.size g v14 H H.length) := t15.tape; have O15 : Hid (w15.ownsRow w11.heap.size 9 1 (.slice A12 m c12) m (lm.map Value.string)) := own_past O14.out k15 (fun k h => P11.out k (h.elim .inl (fun h => .inr (.inl h)))); have B15 := Lib.hid (B14.out.trans (T14.out.below B14.out.size (fun k h => h.elim .inl (fun h => .inr (.inl h))) k15)); clear t15 k15 T14 O14) | (go_at_call 24; refine (crash_any T15.out (Nat.le_trans H50.out (by decide)) B15.out.size 0 (-1) 0 (by decide) (by decide) (by decide)).mono ?_; rintro e w16 ⟨rfl, v16, t16, k16, _⟩; have T16 : Hid (TapeAt w16 w.heap.size g v16 H H.length) := by { rw [keptOf_zero, crashed_none, Nat.add_zero, List.take_length] at t16; exact t16 }; have O16 : Hid (w16.ownsRow w11.heap.size 9 1 (.slice A12 m c12) m (lm.map Value.string)) := own_past O15.out k16 (fun k h => P11.out k (.inl h)); have B16 := Lib.hid (B15.out.trans (T15.out.below B15.out.size (fun _ h => .inl h) k16)); clear t16 k16 T15 O15) | (go_at_call 21; refine (open_any T16.out (Nat.le_trans H50.out (by decide)) B16.out.size).mono ?_; rintro e w17 ⟨lgz, lv17, v17, rfl, t17, l17, k17, hlg17, hv17, hlv17⟩; have L17 : Hid (LogAt w17 w.heap.size lgz g lv17 (lm ++ [more]) (m + 1)) := by { rw [HTM.out, HLP.out] at l17; exact l17 }; have O17 : Hid (w17.ownsRow w11.heap.size 9 1 (.slice A12 m c12) m (lm.map Value.string)) := own_past O16.out k17 (fun k h => P11.out k (.inl h)); have B17 := Lib.hid (B16.out.trans (T16.out.below B16.out.size (fun _ h => .inl h) k17)); clear t17 l17 k17 hlg17 hv17 hlv17 T16 O16) | (go_at_call 25; refine (lines_any L17.out (by rw [HLP.out]; exact Nat.le_trans (Nat.mul_le_mul_right 16 (Nat.succ_le_succ Hm40.out)) (by decide))).mono ?_; rintro e w18 ⟨v18, rfl, ho18, hb18⟩; rw [HLP.out] at ho18; obtain ⟨A18, c18, rfl, hc18, hr18⟩ := own_rdS ho18; have R18 := Lib.hid hr18; have Hc18 := Lib.hid hc18; have B18 := Lib.hid (B17.out.trans (hb18.mono B17.out.size)); have R12 : Hid (ReadsS w18 A12 m lm) := rdS_of (own_past O17.out (Keeps.of_below (S := fun _ => False) hb18) (fun _ h => h.elim)); clear ho18 hb18 hr18 hc18 L17 O17) | (at_builtin; refine gate_guard (by rfl) ?_; refine print_appendS0 (w0 := w18) w18.heap.size rfl _ _ rfl _ lm A12 m c12 rfl rfl (World.ownsRow_made w18 #[] 0 (Nat.le_refl _) (Nat.zero_le _) (by simp)) (R12.out.below ((Below.refl _ _).alloc (Nat.le_refl _) _)) ((Below.refl _ _).alloc (Nat.le_refl _) _) (by simp) (Nat.le_trans (Nat.mul_le_mul_right 16 Hm40.out) (by decide)) ?_; intro A19 c19 w19 hown19 hb19; have O19 := Lib.hid hown19; have B19 := Lib.hid hb19; clear hown19 hb19) | (at_builtin; refine gate_guard (by rfl) ?_; refine print_append (w0 := w18) w18.heap.size rfl _ _ 32 9 (.string ByteArray.empty) 16 rfl Try.underlying32 info9 rfl (by decide) _ (lm.map Value.string) (.string more) rfl rfl rfl (by rw [List.length_map, HLM.out]; exact O19.out) B19.out B19.out.size (by rw [List.length_map, HLM.out]; exact Nat.le_trans (Nat.mul_le_mul_right 16 (Nat.succ_le_succ Hm40.out)) (by decide)) ?_; rintro v20 w20 hown20 hb20 _ _; have hown20' : w20.ownsRow w18.heap.size 9 1 v20 (m + 1) ((lm ++ [more]).map Value.string) := by { have h := hown20; rw [List.length_append, List.length_map, HLM.out] at h; rw [List.map_append]; exact h }; obtain ⟨A20, c20, rfl, hc20, hr20⟩ := own_rdS hown20'; have R20 := Lib.hid hr20; have Hc20 := Lib.hid hc20; have B20 : Hid (Below w.heap.size w w20) := B18.out.trans (hb20.mono B18.out.size); have R18b : Hid (ReadsS w20 A18 (m + 1) (lm ++ [more])) := R18.out.below hb20; clear hown20 hown20' hb20 hr20 hc20) | (go_at_call 17; have h17 := same_any A18 (m + 1) c18 (lm ++ [more]) A20 (m + 1) c20 (lm ++ [more]) w20 R18b.out Hc18.out R20.out Hc20.out (Nat.le_trans (Nat.succ_le_succ Hm40.out) (by decide)); rw [decide_eq_true (rfl : lm ++ [more] = lm ++ [more])] at h17; refine h17.mono ?_; clear h17; rintro e w21 ⟨rfl, hb21⟩; have B21 := Lib.hid (B20.out.trans (hb21.mono B20.out.size)); clear hb21) | (go_at_call 14; refine (lives_any _).mono ?_; rintro e w22 ⟨rfl, hb22⟩; have B22 := Lib.hid (B21.out.trans (hb22.mono B21.out.size)); clear hb22))
            go_ret
            exact ⟨rfl, B22.out⟩
          · have dn : ((l.length : Int) == (n : Int)) = false := beq_eq_false_iff_ne.2 (by omega)
            have hsu : su = (framesB (l.take n)).length := by rw [HSU.out, if_pos (by omega)]
            obtain ⟨c, m, lm, G, H, hcc, hlm, hta0, hnm, hml, hG, hto, hen, hta, hhh, hH, htm, hem⟩ := safe_facts HS.out n su keep more HM.out hnl TW.out.tape.sure_le (by rw [hsu]; exact Nat.le_refl _)
            have HFc : Hid (((framesB l).take c).length ≤ 70368744177664) := by show _ ≤ _; rw [List.length_take]; exact Nat.le_trans (Nat.min_le_right _ _) (Nat.le_trans F40.out (by decide))
            obtain ⟨F, hF⟩ : ∃ F, framesB l = F := ⟨_, rfl⟩
            rw [hF] at TW F40 HFc hcc hto hen hta
            clear hin hsu
            have T9 := TW
            have B9 := BW
            have HCC := Lib.hid hcc
            have HLM := Lib.hid hlm
            have HG40 := Lib.hid hG
            have HTO := Lib.hid hto
            have HEN := Lib.hid hen
            have HTA := Lib.hid hta
            have HHH := Lib.hid hhh
            have H50 := Lib.hid hH
            have HTM := Lib.hid htm
            have HEM := Lib.hid hem
            have hRt : Hid (∀ W, Below w.heap.size w W → ReadsS W A m lm) := fun W hW => by
              rw [← hta0]
              exact ReadsOf.take_ (enc := Value.string) (d := ByteArray.empty) (HR.out.below hW) m hml
            have kcut : ∀ W : World, (Instr.slice 32 (.slice A l.length cap) none (some (.int .i64 (m : Int))) none).run Try.prog W = .ok (.slice A m cap) W := fun W => by
              have h := cut_to (P := Try.prog) 32 9 .i64 Try.underlying32 hi9 A l.length cap (m : Int) (by omega) (by omega) hc W
              rw [Int.toNat_natCast] at h
              exact h
            have Hmc : Hid (m ≤ cap) := Nat.le_trans hml hc
            have Hm40 : Hid (m ≤ 40) := Nat.le_trans hml hl40
            have d1 : decide ((m : Int) < (n : Int)) = false := decide_eq_false (Int.not_lt.2 (Int.ofNat_le.2 hnm))
            have d2 : decide ((l.length : Int) < (m : Int)) = false := decide_eq_false (Int.not_lt.2 (Int.ofNat_le.2 hml))
            have d3 : ¬ m < n := Nat.not_lt.2 hnm
            have d4 : ¬ l.length < m := Nat.not_lt.2 hml
            have HLP : Hid ((lm ++ [more]).length = m + 1) := by show _ = _; rw [List.length_append, hlm]; rfl
            clear hcc hlm hta0 hnm hml hG hto hen hta hhh hH htm hem
            go_wp2_with (first | (go_at_call 24; refine (crash_any T9.out.tape (Nat.le_trans F40.out (by decide)) B9.out.size keep (-1) 0 hk0 hk1 (by decide)).mono ?_; rintro e w10 ⟨rfl, v10, t10, k10, _⟩; have T10 : Hid (TapeAt w10 w.heap.size g v10 (F.take c) c) := by { rw [crashed_none, HCC.out] at t10; exact t10 }; have B10 := Lib.hid (B9.out.trans (T9.out.tape.below B9.out.size (fun _ h => .inl h) k10)); clear t10 k10 T9) | (go_at_call 21; refine (open_any T10.out (HFc.out) B10.out.size).mono ?_; rintro e w11 ⟨lgy, lv11, v11, rfl, t11, l11, k11, hlg11, hv11, hlv11⟩; have T11 : Hid (Both w11 w.heap.size g lgy v11 lv11 G G.length lm m) := by { rw [HEN.out, HTA.out] at t11; rw [HTO.out, HLM.out] at l11; exact ⟨t11, l11⟩ }; have B11 := Lib.hid (B10.out.trans (T10.out.below B10.out.size (fun _ h => .inl h) k11)); clear t11 l11 k11 hlg11 hv11 hlv11 T10) | (go_at_call 25; refine (lines_any T11.out.log (by rw [HLM.out]; exact Nat.le_trans (Nat.mul_le_mul_right 16 Hm40.out) (by decide))).mono ?_; rintro e w12 ⟨v12, rfl, ho12, hb12⟩; rw [HLM.out] at ho12; obtain ⟨A12, c12, rfl, hc12, hr12⟩ := own_rdS ho12; have O12 := Lib.hid ho12; have Hc12 := Lib.hid hc12; have B12 := Lib.hid (B11.out.trans (hb12.mono B11.out.size)); have T12 := Lib.hid (T11.out.kept_below hb12); have P11 : Hid (∀ k, (k = g ∨ k = lgy ∨ v11.ownBlock = some k ∨ lv11.ownBlock = some k) → k < w11.heap.size) := T11.out.touched; clear ho12 hb12 hr12 hc12 T11) | (go_at_call 17; have h17 := same_any A12 m c12 lm A m cap lm w12 (rdS_of O12.out) Hc12.out (hRt.out w12 B12.out) Hmc.out (Nat.le_trans Hm40.out (by decide)); rw [decide_eq_true (rfl : lm = lm)] at h17; refine h17.mono ?_; clear h17; rintro e w13 ⟨rfl, hb13⟩; have O13 : Hid (w13.ownsRow w11.heap.size 9 1 (.slice A12 m c12) m (lm.map Value.string)) := own_past O12.out (Keeps.of_below (S := fun _ => False) hb13) (fun _ h => h.elim); have B13 := Lib.hid (B12.out.trans (hb13.mono B12.out.size)); have T13 := Lib.hid (T12.out.kept_below hb13); clear hb13 T12 O12) | (go_at_call 26; refine (safe_any T13.out.log).mono ?_; rintro e w' ⟨rfl, rfl⟩) | (go_at_call 23; have h23 := add_any T13.out more B13.out.size (Nat.le_trans HM.out (by decide)) (by rw [HLM.out]; exact Nat.le_trans Hm40.out (by decide)) (Nat.le_trans HG40.out (by decide)); rw [HLM.out, HHH.out] at h23; refine h23.mono ?_; clear h23; rintro e w14 ⟨rfl, v14, lv14, t14, k14, _, _⟩; have T14 : Hid (Both w14 w.heap.size g lgy v14 lv14 H G.length (lm ++ [more]) m) := t14; have O14 : Hid (w14.ownsRow w11.heap.size 9 1 (.slice A12 m c12) m (lm.map Value.string)) := own_past O13.out k14 P11.out; have B14 := Lib.hid (B13.out.trans (T13.out.below B13.out.size (fun _ h => h) k14)); clear t14 k14 T13 O13) | (go_at_call 22; refine (logSync_any T14.out).mono ?_; rintro e w15 ⟨rfl, t15, k15⟩; have T15 : Hid (TapeAt w15 w.heap.size g v14 H H.length) := t15.tape; have O15 : Hid (w15.ownsRow w11.heap.size 9 1 (.slice A12 m c12) m (lm.map Value.string)) := own_past O14.out k15 (fun k h => P11.out k (h.elim .inl (fun h => .inr (.inl h)))); have B15 := Lib.hid (B14.out.trans (T14.out.below B14.out.size (fun k h => h.elim .inl (fun h => .inr (.inl h))) k15)); clear t15 k15 T14 O14) | (go_at_call 24; refine (crash_any T15.out (Nat.le_trans H50.out (by decide)) B15.out.size 0 (-1) 0 (by decide) (by decide) (by decide)).mono ?_; rintro e w16 ⟨rfl, v16, t16, k16, _⟩; have T16 : Hid (TapeAt w16 w.heap.size g v16 H H.length) := by { rw [keptOf_zero, crashed_none, Nat.add_zero, List.take_length] at t16; exact t16 }; have O16 : Hid (w16.ownsRow w11.heap.size 9 1 (.slice A12 m c12) m (lm.map Value.string)) := own_past O15.out k16 (fun k h => P11.out k (.inl h)); have B16 := Lib.hid (B15.out.trans (T15.out.below B15.out.size (fun _ h => .inl h) k16)); clear t16 k16 T15 O15) | (go_at_call 21; refine (open_any T16.out (Nat.le_trans H50.out (by decide)) B16.out.size).mono ?_; rintro e w17 ⟨lgz, lv17, v17, rfl, t17, l17, k17, hlg17, hv17, hlv17⟩; have L17 : Hid (LogAt w17 w.heap.size lgz g lv17 (lm ++ [more]) (m + 1)) := by { rw [HTM.out, HLP.out] at l17; exact l17 }; have O17 : Hid (w17.ownsRow w11.heap.size 9 1 (.slice A12 m c12) m (lm.map Value.string)) := own_past O16.out k17 (fun k h => P11.out k (.inl h)); have B17 := Lib.hid (B16.out.trans (T16.out.below B16.out.size (fun _ h => .inl h) k17)); clear t17 l17 k17 hlg17 hv17 hlv17 T16 O16) | (go_at_call 25; refine (lines_any L17.out (by rw [HLP.out]; exact Nat.le_trans (Nat.mul_le_mul_right 16 (Nat.succ_le_succ Hm40.out)) (by decide))).mono ?_; rintro e w18 ⟨v18, rfl, ho18, hb18⟩; rw [HLP.out] at ho18; obtain ⟨A18, c18, rfl, hc18, hr18⟩ := own_rdS ho18; have R18 := Lib.hid hr18; have Hc18 := Lib.hid hc18; have B18 := Lib.hid (B17.out.trans (hb18.mono B17.out.size)); have R12 : Hid (ReadsS w18 A12 m lm) := rdS_of (own_past O17.out (Keeps.of_below (S := fun _ => False) hb18) (fun _ h => h.elim)); clear ho18 hb18 hr18 hc18 L17 O17) | (at_builtin; refine gate_guard (by rfl) ?_; refine print_appendS0 (w0 := w18) w18.heap.size rfl _ _ rfl _ lm A12 m c12 rfl rfl (World.ownsRow_made w18 #[] 0 (Nat.le_refl _) (Nat.zero_le _) (by simp)) (R12.out.below ((Below.refl _ _).alloc (Nat.le_refl _) _)) ((Below.refl _ _).alloc (Nat.le_refl _) _) (by simp) (Nat.le_trans (Nat.mul_le_mul_right 16 Hm40.out) (by decide)) ?_; intro A19 c19 w19 hown19 hb19; have O19 := Lib.hid hown19; have B19 := Lib.hid hb19; clear hown19 hb19) | (at_builtin; refine gate_guard (by rfl) ?_; refine print_append (w0 := w18) w18.heap.size rfl _ _ 32 9 (.string ByteArray.empty) 16 rfl Try.underlying32 info9 rfl (by decide) _ (lm.map Value.string) (.string more) rfl rfl rfl (by rw [List.length_map, HLM.out]; exact O19.out) B19.out B19.out.size (by rw [List.length_map, HLM.out]; exact Nat.le_trans (Nat.mul_le_mul_right 16 (Nat.succ_le_succ Hm40.out)) (by decide)) ?_; rintro v20 w20 hown20 hb20 _ _; have hown20' : w20.ownsRow w18.heap.size 9 1 v20 (m + 1) ((lm ++ [more]).map Value.string) := by { have h := hown20; rw [List.length_append, List.length_map, HLM.out] at h; rw [List.map_append]; exact h }; obtain ⟨A20, c20, rfl, hc20, hr20⟩ := own_rdS hown20'; have R20 := Lib.hid hr20; have Hc20 := Lib.hid hc20; have B20 : Hid (Below w.heap.size w w20) := B18.out.trans (hb20.mono B18.out.size); have R18b : Hid (ReadsS w20 A18 (m + 1) (lm ++ [more])) := R18.out.below hb20; clear hown20 hown20' hb20 hr20 hc20) | (go_at_call 17; have h17 := same_any A18 (m + 1) c18 (lm ++ [more]) A20 (m + 1) c20 (lm ++ [more]) w20 R18b.out Hc18.out R20.out Hc20.out (Nat.le_trans (Nat.succ_le_succ Hm40.out) (by decide)); rw [decide_eq_true (rfl : lm ++ [more] = lm ++ [more])] at h17; refine h17.mono ?_; clear h17; rintro e w21 ⟨rfl, hb21⟩; have B21 := Lib.hid (B20.out.trans (hb21.mono B20.out.size)); clear hb21) | (go_at_call 14; refine (lives_any _).mono ?_; rintro e w22 ⟨rfl, hb22⟩; have B22 := Lib.hid (B21.out.trans (hb22.mono B21.out.size)); clear hb22))
            go_ret
            exact ⟨rfl, B22.out⟩
    · have dm : decide ((1000 : Int) < (more.size : Int)) = true := decide_eq_true (by omega)
      go_enter Try.func7, Try.ntmps7
      go_wp2_with (first | (go_at_call 18; refine (short_any A l.length cap l _ HR.out hc).mono ?_; rw [hs]; rintro e w1 ⟨rfl, hb1⟩; have B1 := Lib.hid hb1; clear hb1) | (go_at_call 14; refine (lives_any _).mono ?_; rintro e w2 ⟨rfl, hb2⟩; have B2 := Lib.hid (B1.out.trans (hb2.mono B1.out.size)); clear hb2))
      go_ret
      exact ⟨rfl, B2.out⟩
  · have hs' : shortL l = false := by simpa using hs
    go_enter Try.func7, Try.ntmps7
    go_wp2_with (first | (go_at_call 18; refine (short_any A l.length cap l _ HR.out hc).mono ?_; rw [hs']; rintro e w1 ⟨rfl, hb1⟩; have B1 := Lib.hid hb1; clear hb1) | (go_at_call 14; refine (lives_any _).mono ?_; rintro e w2 ⟨rfl, hb2⟩; have B2 := Lib.hid (B1.out.trans (hb2.mono B1.out.size)); clear hb2))
    go_ret
    exact ⟨rfl, B2.out⟩
end Go.Proofs.Ytoegeljjfhbpeaa.J
