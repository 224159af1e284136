/- Every call of a tally, by the list of what it holds. No condition stands open. -/
import Derived.Test.YtjhinakfoejpbaaJ3
import Derived.Test.YtjhinakfoejpbaaZS
import Derived.WalkKit
import Derived.ProofKit
import Derived.OpenShut
import Derived.ShutString
import Derived.ChangeOld
import Derived.Below
import Derived.SizedLaws
import Derived.Lib.SmallJoins
set_option linter.unusedVariables false
set_option linter.unusedSimpArgs false
/- What is asked of a tally's numbers: the fault, the sum. No condition stands open. -/
namespace Go.Proofs.Ytjhinakfoejpbaa.T
open Go.RowKit Go.Proofs.Ytjhinakfoejpbaa.WPure Go.Proofs.YtjhinakfoejpbaaW.PrintWords Go.Proofs.YtjhinakfoejpbaaW.PrintLast Go.Proofs.YtjhinakfoejpbaaW.PrintMore
/-- the least code of faults -/
def faultR (L : List Val) : Nat := leastF (fun c => ((L.countP (slot (2 + c)) : Nat) : Int)) 0 8
/-- what is told, if there is no fault -/
def toldR (L : List Val) (r : Int × Int) : Int × Int := if faultR L = 0 then r else (0, (faultR L : Int))
theorem toldR_no {L : List Val} (h : faultR L = 0) (r : Int × Int) : toldR L r = r := if_pos h
theorem toldR_yes {L : List Val} (h : faultR L ≠ 0) (r : Int × Int) : toldR L r = (0, (faultR L : Int)) := if_neg h
def sumR (L : List Val) : Int × Int := if fits (numsL L).sum then ((numsL L).sum, 0) else (0, 5)
section
variable {w : World} {S : Nat → Prop} {g bg mb n : Nat} {t : Tree} {hi lo : Int} {v : List Int} {m : ByteArray → Nat} {L : List Val}
theorem fault_any (h : TalAt w S g bg mb t hi lo v n m) (hst : St L t hi lo v m) : Calls Try.prog 18 #[.pointer (some ⟨g, 0, none⟩)] w fun e w' => e = .returned (.int .i64 (faultR L : Nat)) ∧ w = w' := by
  have e := fault_8 h _ _ _ _ _ _ _ _ rfl rfl rfl rfl rfl rfl rfl rfl
  have e2 : leastF (eight (v.getD 2 0) (v.getD 3 0) (v.getD 4 0) (v.getD 5 0) (v.getD 6 0) (v.getD 7 0) (v.getD 8 0) (v.getD 9 0)) 0 8 = faultR L := by
    refine leastF_congr 8 0 (fun j _ hj => ?_)
    rw [← hst.vec (2 + j) (by omega)]
    rcases (show j = 0 ∨ j = 1 ∨ j = 2 ∨ j = 3 ∨ j = 4 ∨ j = 5 ∨ j = 6 ∨ j = 7 by omega) with rfl | rfl | rfl | rfl | rfl | rfl | rfl | rfl <;> rfl
  rwa [e2] at e
/-- the sum, of the closure -/
theorem sum_in (h : TalAt w S g bg mb t hi lo v n m) (hst : St L t hi lo v m) (a : Addr) (ha : w.cell? a = some (.pointer (some ⟨g, 0, none⟩))) : Calls Try.prog 41 #[.pointer (some a)] w fun e w' => e = .returned (.tuple #[.int .i64 (sumR L).1, .int .i64 (sumR L).2]) ∧ Below w.heap.size w w' := by
  have hu29 := Try.underlying29
  have c1 := h.c1
  have c2 := h.c2
  have hw := hst.inW
  have HW : Hid (PG.wide_Total.f hi lo = some (totalW hi lo)) := total_eq hi lo
  have htot : totalW hi lo = if fits (numsL L).sum then ((numsL L).sum, 0) else (0, 3) := by rw [hst.hi, hst.lo]; exact totalW_rep _ hw
  unfold sumR
  by_cases hf : fits (numsL L).sum
  · rw [if_pos hf] at htot
    rw [if_pos hf]
    rw [htot] at HW
    generalize (numsL L).sum = s at HW ⊢
    clear h hst hw htot hf
    go_enter Try.func41, Try.ntmps41
    go_wp2_with (go_at_call 42; refine (PG.wide_Total.calls hi lo s 0 _ HW.out).mono ?_; rintro e w2 ⟨rfl, hb⟩; have HB := Lib.hid hb; clear hb)
    go_ret2
    exact ⟨rfl, HB.out⟩
  · rw [if_neg hf] at htot
    rw [if_neg hf]
    rw [htot] at HW
    clear h hst hw htot hf
    go_enter Try.func41, Try.ntmps41
    go_wp2_with (go_at_call 42; refine (PG.wide_Total.calls hi lo 0 3 _ HW.out).mono ?_; rintro e w2 ⟨rfl, hb⟩; have HB := Lib.hid hb; clear hb)
    go_ret2
    exact ⟨rfl, HB.out⟩
/-- asked, where there is a fault -/
theorem asked_bad (h : TalAt w S g bg mb t hi lo v n m) (hst : St L t hi lo v m) (hf : faultR L ≠ 0) (d : Value) : Calls Try.prog 40 #[.pointer (some ⟨g, 0, none⟩), d] w fun e w' => e = .returned (.tuple #[.int .i64 0, .int .i64 (faultR L : Nat)]) ∧ w = w' := by
  have e0 : (((faultR L : Nat) : Int) == 0) = false := beq_eq_false_iff_ne.2 (by omega)
  have HF : Hid (Calls Try.prog 18 #[.pointer (some ⟨g, 0, none⟩)] w fun e w' => e = .returned (.int .i64 (faultR L : Nat)) ∧ w = w') := fault_any h hst
  have H := Lib.hid h
  generalize faultR L = z at HF e0 ⊢
  clear hf h hst
  go_enter Try.func40, Try.ntmps40
  go_wp2_with (first | (go_at_call 50; refine (made_yes H.out).mono ?_; rintro e w' ⟨rfl, rfl⟩) | (go_at_call 18; refine HF.out.mono ?_; rintro e w' ⟨rfl, rfl⟩))
  go_ret2
  exact ⟨rfl, rfl⟩
theorem asked_41 (h : TalAt w S g bg mb t hi lo v n m) (hst : St L t hi lo v m) (hf : faultR L = 0) (a : Addr) (r1 r2 : Int) (hc : Calls Try.prog 41 #[.pointer (some a)] w fun e w' => e = .returned (.tuple #[.int .i64 r1, .int .i64 r2]) ∧ Below w.heap.size w w') : Calls Try.prog 40 #[.pointer (some ⟨g, 0, none⟩), .func (.func 41) #[] #[.pointer (some a)]] w fun e w' => e = .returned (.tuple #[.int .i64 r1, .int .i64 r2]) ∧ Below w.heap.size w w' := by
  have HF : Hid (Calls Try.prog 18 #[.pointer (some ⟨g, 0, none⟩)] w fun e w' => e = .returned (.int .i64 (0 : Nat)) ∧ w = w') := by have e := fault_any h hst; rwa [hf] at e
  have H := Lib.hid h
  have HC := Lib.hid hc
  clear hf h hst hc
  go_enter Try.func40, Try.ntmps40
  go_wp2_with (first | (go_at_call 50; refine (made_yes H.out).mono ?_; rintro e w' ⟨rfl, rfl⟩) | (go_at_call 18; refine HF.out.mono ?_; rintro e w' ⟨rfl, rfl⟩) | (go_at_call 41; refine HC.out.mono ?_; rintro e w2 ⟨rfl, hb⟩; have HB := Lib.hid hb; clear hb))
  go_ret2
  exact ⟨rfl, HB.out⟩
theorem asked_43 (h : TalAt w S g bg mb t hi lo v n m) (hst : St L t hi lo v m) (hf : faultR L = 0) (a : Addr) (r1 r2 : Int) (hc : Calls Try.prog 43 #[.pointer (some a)] w fun e w' => e = .returned (.tuple #[.int .i64 r1, .int .i64 r2]) ∧ Below w.heap.size w w') : Calls Try.prog 40 #[.pointer (some ⟨g, 0, none⟩), .func (.func 43) #[] #[.pointer (some a)]] w fun e w' => e = .returned (.tuple #[.int .i64 r1, .int .i64 r2]) ∧ Below w.heap.size w w' := by
  have HF : Hid (Calls Try.prog 18 #[.pointer (some ⟨g, 0, none⟩)] w fun e w' => e = .returned (.int .i64 (0 : Nat)) ∧ w = w') := by have e := fault_any h hst; rwa [hf] at e
  have H := Lib.hid h
  have HC := Lib.hid hc
  clear hf h hst hc
  go_enter Try.func40, Try.ntmps40
  go_wp2_with (first | (go_at_call 50; refine (made_yes H.out).mono ?_; rintro e w' ⟨rfl, rfl⟩) | (go_at_call 18; refine HF.out.mono ?_; rintro e w' ⟨rfl, rfl⟩) | (go_at_call 43; refine HC.out.mono ?_; rintro e w2 ⟨rfl, hb⟩; have HB := Lib.hid hb; clear hb))
  go_ret2
  exact ⟨rfl, HB.out⟩
theorem asked_45 (h : TalAt w S g bg mb t hi lo v n m) (hst : St L t hi lo v m) (hf : faultR L = 0) (a b : Addr) (r1 r2 : Int) (hc : Calls Try.prog 45 #[.pointer (some a), .pointer (some b)] w fun e w' => e = .returned (.tuple #[.int .i64 r1, .int .i64 r2]) ∧ Below w.heap.size w w') : Calls Try.prog 40 #[.pointer (some ⟨g, 0, none⟩), .func (.func 45) #[] #[.pointer (some a), .pointer (some b)]] w fun e w' => e = .returned (.tuple #[.int .i64 r1, .int .i64 r2]) ∧ Below w.heap.size w w' := by
  have HF : Hid (Calls Try.prog 18 #[.pointer (some ⟨g, 0, none⟩)] w fun e w' => e = .returned (.int .i64 (0 : Nat)) ∧ w = w') := by have e := fault_any h hst; rwa [hf] at e
  have H := Lib.hid h
  have HC := Lib.hid hc
  clear hf h hst hc
  go_enter Try.func40, Try.ntmps40
  go_wp2_with (first | (go_at_call 50; refine (made_yes H.out).mono ?_; rintro e w' ⟨rfl, rfl⟩) | (go_at_call 18; refine HF.out.mono ?_; rintro e w' ⟨rfl, rfl⟩) | (go_at_call 45; refine HC.out.mono ?_; rintro e w2 ⟨rfl, hb⟩; have HB := Lib.hid hb; clear hb))
  go_ret2
  exact ⟨rfl, HB.out⟩
theorem asked_47 (h : TalAt w S g bg mb t hi lo v n m) (hst : St L t hi lo v m) (hf : faultR L = 0) (a : Addr) (r1 r2 : Int) (hc : Calls Try.prog 47 #[.pointer (some a)] w fun e w' => e = .returned (.tuple #[.int .i64 r1, .int .i64 r2]) ∧ Below w.heap.size w w') : Calls Try.prog 40 #[.pointer (some ⟨g, 0, none⟩), .func (.func 47) #[] #[.pointer (some a)]] w fun e w' => e = .returned (.tuple #[.int .i64 r1, .int .i64 r2]) ∧ Below w.heap.size w w' := by
  have HF : Hid (Calls Try.prog 18 #[.pointer (some ⟨g, 0, none⟩)] w fun e w' => e = .returned (.int .i64 (0 : Nat)) ∧ w = w') := by have e := fault_any h hst; rwa [hf] at e
  have H := Lib.hid h
  have HC := Lib.hid hc
  clear hf h hst hc
  go_enter Try.func40, Try.ntmps40
  go_wp2_with (first | (go_at_call 50; refine (made_yes H.out).mono ?_; rintro e w' ⟨rfl, rfl⟩) | (go_at_call 18; refine HF.out.mono ?_; rintro e w' ⟨rfl, rfl⟩) | (go_at_call 47; refine HC.out.mono ?_; rintro e w2 ⟨rfl, hb⟩; have HB := Lib.hid hb; clear hb))
  go_ret2
  exact ⟨rfl, HB.out⟩
theorem asked_85 (h : TalAt w S g bg mb t hi lo v n m) (hst : St L t hi lo v m) (hf : faultR L = 0) (a b : Addr) (r1 r2 : Int) (hc : Calls Try.prog 85 #[.pointer (some a), .pointer (some b)] w fun e w' => e = .returned (.tuple #[.int .i64 r1, .int .i64 r2]) ∧ Below w.heap.size w w') : Calls Try.prog 40 #[.pointer (some ⟨g, 0, none⟩), .func (.func 85) #[] #[.pointer (some a), .pointer (some b)]] w fun e w' => e = .returned (.tuple #[.int .i64 r1, .int .i64 r2]) ∧ Below w.heap.size w w' := by
  have HF : Hid (Calls Try.prog 18 #[.pointer (some ⟨g, 0, none⟩)] w fun e w' => e = .returned (.int .i64 (0 : Nat)) ∧ w = w') := by have e := fault_any h hst; rwa [hf] at e
  have H := Lib.hid h
  have HC := Lib.hid hc
  clear hf h hst hc
  go_enter Try.func40, Try.ntmps40
  go_wp2_with (first | (go_at_call 50; refine (made_yes H.out).mono ?_; rintro e w' ⟨rfl, rfl⟩) | (go_at_call 18; refine HF.out.mono ?_; rintro e w' ⟨rfl, rfl⟩) | (go_at_call 85; refine HC.out.mono ?_; rintro e w2 ⟨rfl, hb⟩; have HB := Lib.hid hb; clear hb))
  go_ret2
  exact ⟨rfl, HB.out⟩
end
end Go.Proofs.Ytjhinakfoejpbaa.T

/- What is asked of a tally's numbers: sum, mean, ends, midst, the k-th. No condition stands open. -/
namespace Go.Proofs.Ytjhinakfoejpbaa.T
open Go.RowKit Go.Proofs.Ytjhinakfoejpbaa.WPure Go.Proofs.YtjhinakfoejpbaaW.PrintWords Go.Proofs.YtjhinakfoejpbaaW.PrintLast Go.Proofs.YtjhinakfoejpbaaW.PrintMore
theorem numsL_len : ∀ L : List Val, (numsL L).length = L.countP fun y => decide (y.1 = 1)
  | [] => rfl
  | y :: L => by
    have ih := numsL_len L
    rw [numsL_cons, List.countP_cons]
    by_cases h : y.1 = 1
    · rw [if_pos h, if_pos (decide_eq_true h), List.length_cons, ih]
    · rw [if_neg h, if_neg (by rw [decide_eq_true_iff]; exact h), ih, Nat.add_zero]
def meanR (L : List Val) : Int × Int := if (numsL L).length = 0 then (0, 1) else (meanV (numsL L).sum (numsL L).length, 0)
def endR (L : List Val) (i : Nat) : Int × Int := if (numsL L).length = 0 then (0, 0) else (kthN (numsL L) i, 0)
def smallR (L : List Val) (k : Int) : Int × Int := if 1 ≤ k ∧ k ≤ (numsL L).length then (kthN (numsL L) (k - 1).toNat, 0) else (0, 5)
def midR (L : List Val) : Int × Int := if (numsL L).length = 0 then (0, 5) else (meanV (kthN (numsL L) (((numsL L).length - 1) / 2) + kthN (numsL L) ((numsL L).length / 2)) 2, 0)
section
variable {w : World} {S : Nat → Prop} {g bg mb n : Nat} {t : Tree} {hi lo : Int} {v : List Int} {m : ByteArray → Nat} {L : List Val}
theorem St.count1 (hst : St L t hi lo v m) : v.getD 11 0 = (((numsL L).length : Nat) : Int) := by
  have e := hst.kinds 1 (by decide)
  rw [numsL_len]
  exact e
theorem St.tot (hst : St L t hi lo v m) : T.tot t = (numsL L).length := by rw [← row_length, hst.row.length_eq]
theorem St.at (hst : St L t hi lo v m) {i : Nat} (h : i < (numsL L).length) : atT t i = kthN (numsL L) i := by
  have h1 := at_row t i (by rw [hst.tot]; exact h)
  have h2 := kthN_up (row_sorted hst.srt) hst.row i h
  rw [List.getD, h1] at h2
  exact h2
theorem sum_any (h : TalAt w S g bg mb t hi lo v n m) (hst : St L t hi lo v m) : Calls Try.prog 9 #[.pointer (some ⟨g, 0, none⟩)] w fun e w' => e = .returned (.tuple #[.int .i64 (toldR L (sumR L)).1, .int .i64 (toldR L (sumR L)).2]) ∧ Below w.heap.size w w' := by
  have BB : Hid (Below w.heap.size w (w.alloc (.cells #[.pointer (some ⟨g, 0, none⟩)] 26))) := (Below.refl _ w).alloc (Nat.le_refl _) _
  have h1 := h.below BB.out
  have c1 : (w.alloc (.cells #[.pointer (some ⟨g, 0, none⟩)] 26)).cell? ⟨w.heap.size, 0, none⟩ = some (.pointer (some ⟨g, 0, none⟩)) := (blk_cell (heap_alloc_new w _) 0).trans rfl
  have HC : Hid (Calls Try.prog 40 #[.pointer (some ⟨g, 0, none⟩), .func (.func 41) #[] #[.pointer (some ⟨w.heap.size, 0, none⟩)]] (w.alloc (.cells #[.pointer (some ⟨g, 0, none⟩)] 26)) fun e w' => e = .returned (.tuple #[.int .i64 (toldR L (sumR L)).1, .int .i64 (toldR L (sumR L)).2]) ∧ Below (w.alloc (.cells #[.pointer (some ⟨g, 0, none⟩)] 26)).heap.size (w.alloc (.cells #[.pointer (some ⟨g, 0, none⟩)] 26)) w') := by
    by_cases hf : faultR L = 0
    · rw [toldR_no hf]
      exact asked_41 h1 hst hf _ _ _ (sum_in h1 hst _ c1)
    · rw [toldR_yes hf]
      exact (asked_bad h1 hst hf _).mono (fun e w' ⟨he, hw⟩ => ⟨he, hw ▸ Below.refl _ _⟩)
  generalize toldR L (sumR L) = r at HC ⊢
  clear h hst h1 c1
  go_enter Try.func9, Try.ntmps9
  go_wp2_with (go_at_call 40; refine HC.out.mono ?_; rintro e w2 ⟨rfl, hb⟩; have HB := Lib.hid (BB.out.trans (hb.mono BB.out.size)); clear hb)
  go_ret2
  exact ⟨rfl, HB.out⟩
set_option maxHeartbeats 4000000 in
set_option maxRecDepth 100000 in
theorem mean_in (h : TalAt w S g bg mb t hi lo v n m) (hst : St L t hi lo v m) (a : Addr) (ha : w.cell? a = some (.pointer (some ⟨g, 0, none⟩))) : Calls Try.prog 43 #[.pointer (some a)] w fun e w' => e = .returned (.tuple #[.int .i64 (meanR L).1, .int .i64 (meanR L).2]) ∧ Below w.heap.size w w' := by
  have hu29 := Try.underlying29
  have c1 := h.c1
  have c2 := h.c2
  have c3 : w.cell? ⟨g, 15, none⟩ = some (.int .i64 (v.getD 11 0)) := tcell h 11 (by decide)
  rw [hst.count1] at c3
  unfold meanR
  by_cases hz : (numsL L).length = 0
  · rw [if_pos hz]
    rw [hz] at c3
    clear h hst hz c1 c2
    go_enter Try.func43, Try.ntmps43
    go_wp2
    go_ret2
    exact ⟨rfl, Below.refl _ _⟩
  · rw [if_neg hz]
    have e0 : ((((numsL L).length : Nat) : Int) == 0) = false := beq_eq_false_iff_ne.2 (by omega)
    have hs := sum_fit (nums_fit hst.ok)
    have hl : (numsL L).length ≤ 4096 := Nat.le_trans (numsL_length L) hst.few
    have HM : Hid (PG.wide_Mean.f 100 hi lo (((numsL L).length : Nat) : Int) = some (meanV (numsL L).sum (numsL L).length, 0)) := by
      rw [hst.hi, hst.lo]
      have e := meanO_eq (meanO_rep (numsL L).sum (((numsL L).length : Nat) : Int) hst.inW (by omega) (by omega) hs.1 hs.2)
      rwa [Int.toNat_natCast] at e
    generalize meanV (numsL L).sum (numsL L).length = r at HM ⊢
    generalize (((numsL L).length : Nat) : Int) = z at HM e0 c3
    clear h hst hz hs hl
    go_enter Try.func43, Try.ntmps43
    go_wp2
    go_region_with (go_at_call 44; refine (PG.wide_Mean.calls 100 hi lo z r 0 _ HM.out).mono ?_; rintro e w2 ⟨rfl, hb⟩; have HB := Lib.hid hb; clear hb)
    all_goals go_wp2
    all_goals go_ret2
    all_goals exact ⟨rfl, by first | exact HB.out | exact (Below.refl _ _).drew.trans HB.out⟩
end
end Go.Proofs.Ytjhinakfoejpbaa.T

/- What is asked of a tally's numbers: mean, the k-th, the ends. No condition stands open. -/
namespace Go.Proofs.Ytjhinakfoejpbaa.T
open Go.RowKit Go.Proofs.Ytjhinakfoejpbaa.WPure Go.Proofs.YtjhinakfoejpbaaW.PrintWords Go.Proofs.YtjhinakfoejpbaaW.PrintLast Go.Proofs.YtjhinakfoejpbaaW.PrintMore
section
variable {w : World} {S : Nat → Prop} {g bg mb n : Nat} {t : Tree} {hi lo : Int} {v : List Int} {m : ByteArray → Nat} {L : List Val}
theorem mean_any (h : TalAt w S g bg mb t hi lo v n m) (hst : St L t hi lo v m) : Calls Try.prog 10 #[.pointer (some ⟨g, 0, none⟩)] w fun e w' => e = .returned (.tuple #[.int .i64 (toldR L (meanR L)).1, .int .i64 (toldR L (meanR L)).2]) ∧ Below w.heap.size w w' := by
  have BB : Hid (Below w.heap.size w (w.alloc (.cells #[.pointer (some ⟨g, 0, none⟩)] 26))) := (Below.refl _ w).alloc (Nat.le_refl _) _
  have h1 := h.below BB.out
  have c1 : (w.alloc (.cells #[.pointer (some ⟨g, 0, none⟩)] 26)).cell? ⟨w.heap.size, 0, none⟩ = some (.pointer (some ⟨g, 0, none⟩)) := (blk_cell (heap_alloc_new w _) 0).trans rfl
  have HC : Hid (Calls Try.prog 40 #[.pointer (some ⟨g, 0, none⟩), .func (.func 43) #[] #[.pointer (some ⟨w.heap.size, 0, none⟩)]] (w.alloc (.cells #[.pointer (some ⟨g, 0, none⟩)] 26)) fun e w' => e = .returned (.tuple #[.int .i64 (toldR L (meanR L)).1, .int .i64 (toldR L (meanR L)).2]) ∧ Below (w.alloc (.cells #[.pointer (some ⟨g, 0, none⟩)] 26)).heap.size (w.alloc (.cells #[.pointer (some ⟨g, 0, none⟩)] 26)) w') := by
    by_cases hf : faultR L = 0
    · rw [toldR_no hf]
      exact asked_43 h1 hst hf _ _ _ (mean_in h1 hst _ c1)
    · rw [toldR_yes hf]
      exact (asked_bad h1 hst hf _).mono (fun e w' ⟨he, hw⟩ => ⟨he, hw ▸ Below.refl _ _⟩)
  generalize toldR L (meanR L) = r at HC ⊢
  clear h hst h1 c1
  go_enter Try.func10, Try.ntmps10
  go_wp2_with (go_at_call 40; refine HC.out.mono ?_; rintro e w2 ⟨rfl, hb⟩; have HB := Lib.hid (BB.out.trans (hb.mono BB.out.size)); clear hb)
  go_ret2
  exact ⟨rfl, HB.out⟩
set_option maxHeartbeats 4000000 in
set_option maxRecDepth 100000 in
theorem end_in (h : TalAt w S g bg mb t hi lo v n m) (hst : St L t hi lo v m) (i : Int) (hi0 : (numsL L).length ≠ 0 → 0 ≤ i ∧ i < (numsL L).length) (a b : Addr) (ha : w.cell? a = some (.pointer (some ⟨g, 0, none⟩))) (hb : w.cell? b = some (.int .i64 i)) : Calls Try.prog 85 #[.pointer (some a), .pointer (some b)] w fun e w' => e = .returned (.tuple #[.int .i64 (endR L i.toNat).1, .int .i64 (endR L i.toNat).2]) ∧ Below w.heap.size w w' := by
  have c0 := h.c0
  have c3 : w.cell? ⟨g, 15, none⟩ = some (.int .i64 (v.getD 11 0)) := tcell h 11 (by decide)
  rw [hst.count1] at c3
  unfold endR
  by_cases hz : (numsL L).length = 0
  · rw [if_pos hz]
    rw [hz] at c3
    clear h hst hz c0
    go_enter Try.func85, Try.ntmps85
    go_wp2
    go_ret2
    exact ⟨rfl, Below.refl _ _⟩
  · rw [if_neg hz]
    obtain ⟨p0, p1⟩ := hi0 hz
    obtain ⟨j, rfl⟩ : ∃ j : Nat, i = (j : Int) := ⟨i.toNat, by omega⟩
    have hj : j < (numsL L).length := by omega
    have e0 : ((((numsL L).length : Nat) : Int) == 0) = false := beq_eq_false_iff_ne.2 (by omega)
    have hl : (numsL L).length ≤ 4096 := Nat.le_trans (numsL_length L) hst.few
    have HA : Hid (∀ W, Below w.heap.size w W → Calls Try.prog 46 #[.pointer (some ⟨bg, 0, none⟩), .int .i64 (j : Int)] W fun e w' => e = .returned (.int .i64 (kthN (numsL L) j)) ∧ W = w') := fun W hW => by
      have e := at_any (h.below hW).bag (h.below hW).tree j (by rw [hst.tot]; exact hj) (by rw [hst.tot]; omega)
      rwa [hst.at hj] at e
    rw [Int.toNat_natCast]
    generalize kthN (numsL L) j = r at HA ⊢
    generalize (((numsL L).length : Nat) : Int) = z at e0 c3
    clear h hst hz hl hj p0 p1 hi0
    go_enter Try.func85, Try.ntmps85
    go_wp2
    go_region_with (go_at_call 46; refine (HA.out _ (by repeat (first | exact Below.refl _ _ | refine Below.drew ?_))).mono ?_; rintro e w2 ⟨rfl, rfl⟩)
    all_goals go_wp2
    all_goals go_ret2
    all_goals exact ⟨rfl, by repeat (first | exact Below.refl _ _ | refine Below.drew ?_)⟩
theorem end_any (h : TalAt w S g bg mb t hi lo v n m) (hst : St L t hi lo v m) (i : Int) (hi0 : (numsL L).length ≠ 0 → 0 ≤ i ∧ i < (numsL L).length) : Calls Try.prog 49 #[.pointer (some ⟨g, 0, none⟩), .int .i64 i] w fun e w' => e = .returned (.tuple #[.int .i64 (toldR L (endR L i.toNat)).1, .int .i64 (toldR L (endR L i.toNat)).2]) ∧ Below w.heap.size w w' := by
  obtain ⟨w1, hw1⟩ : ∃ w1, (w.alloc (.cells #[.pointer (some ⟨g, 0, none⟩)] 26)).alloc (.cells #[.int .i64 i] 3) = w1 := ⟨_, rfl⟩
  have BB : Hid (Below w.heap.size w w1) := hw1 ▸ box2 w _ _
  have h1 := h.below BB.out
  have b0 := heap_alloc_new w (.cells #[.pointer (some ⟨g, 0, none⟩)] 26)
  have c1 : w1.cell? ⟨w.heap.size, 0, none⟩ = some (.pointer (some ⟨g, 0, none⟩)) := hw1 ▸ (blk_cell (blk_alloc b0 _) 0).trans rfl
  have c2 : w1.cell? ⟨w.heap.size + 1, 0, none⟩ = some (.int .i64 i) := by
    have b1 := heap_alloc_new (w.alloc (.cells #[.pointer (some ⟨g, 0, none⟩)] 26)) (.cells #[.int .i64 i] 3)
    rw [World.size_alloc] at b1
    exact hw1 ▸ (blk_cell b1 0).trans rfl
  have HC : Hid (Calls Try.prog 40 #[.pointer (some ⟨g, 0, none⟩), .func (.func 85) #[] #[.pointer (some ⟨w.heap.size, 0, none⟩), .pointer (some ⟨w.heap.size + 1, 0, none⟩)]] w1 fun e w' => e = .returned (.tuple #[.int .i64 (toldR L (endR L i.toNat)).1, .int .i64 (toldR L (endR L i.toNat)).2]) ∧ Below w1.heap.size w1 w') := by
    by_cases hf : faultR L = 0
    · rw [toldR_no hf]
      exact asked_85 h1 hst hf _ _ _ _ (end_in h1 hst i hi0 _ _ c1 c2)
    · rw [toldR_yes hf]
      exact (asked_bad h1 hst hf _).mono (fun e w' ⟨he, hw⟩ => ⟨he, hw ▸ Below.refl _ _⟩)
  generalize toldR L (endR L i.toNat) = r at HC ⊢
  clear h hst h1 c2 b0 hi0
  subst hw1
  go_enter Try.func49, Try.ntmps49
  go_wp2_with (go_at_call 40; refine HC.out.mono ?_; rintro e w2 ⟨rfl, hb⟩; have HB := Lib.hid (BB.out.trans (hb.mono BB.out.size)); clear hb)
  go_ret2
  exact ⟨rfl, HB.out⟩
theorem least_any (h : TalAt w S g bg mb t hi lo v n m) (hst : St L t hi lo v m) : Calls Try.prog 13 #[.pointer (some ⟨g, 0, none⟩)] w fun e w' => e = .returned (.tuple #[.int .i64 (toldR L (endR L 0)).1, .int .i64 (toldR L (endR L 0)).2]) ∧ Below w.heap.size w w' := by
  have HC : Hid (Calls Try.prog 49 #[.pointer (some ⟨g, 0, none⟩), .int .i64 0] w fun e w' => e = .returned (.tuple #[.int .i64 (toldR L (endR L 0)).1, .int .i64 (toldR L (endR L 0)).2]) ∧ Below w.heap.size w w') := end_any h hst 0 (fun _ => by omega)
  generalize toldR L (endR L 0) = r at HC ⊢
  clear h hst
  go_enter Try.func13, Try.ntmps13
  go_wp2_with (go_at_call 49; refine HC.out.mono ?_; rintro e w2 ⟨rfl, hb⟩; have HB := Lib.hid hb; clear hb)
  go_ret2
  exact ⟨rfl, HB.out⟩
theorem greatest_any (h : TalAt w S g bg mb t hi lo v n m) (hst : St L t hi lo v m) : Calls Try.prog 31 #[.pointer (some ⟨g, 0, none⟩)] w fun e w' => e = .returned (.tuple #[.int .i64 (toldR L (endR L ((numsL L).length - 1))).1, .int .i64 (toldR L (endR L ((numsL L).length - 1))).2]) ∧ Below w.heap.size w w' := by
  have hl : (numsL L).length ≤ 4096 := Nat.le_trans (numsL_length L) hst.few
  have HK : Hid (Calls Try.prog 16 #[.pointer (some ⟨g, 0, none⟩), .int .i64 1] w fun e w' => e = .returned (.int .i64 (((numsL L).length : Nat) : Int)) ∧ w = w') := by
    have e := count_k w S g bg mb t hi lo v n m h 1 (by decide)
    rw [show 10 + 1 = 11 from rfl, hst.count1] at e
    exact e
  have w1 : wrap64 ((((numsL L).length : Nat) : Int) - 1) = (((numsL L).length : Nat) : Int) - 1 := by unfold wrap64; omega
  have HC : Hid (Calls Try.prog 49 #[.pointer (some ⟨g, 0, none⟩), .int .i64 ((((numsL L).length : Nat) : Int) - 1)] w fun e w' => e = .returned (.tuple #[.int .i64 (toldR L (endR L ((numsL L).length - 1))).1, .int .i64 (toldR L (endR L ((numsL L).length - 1))).2]) ∧ Below w.heap.size w w') := by
    have e := end_any h hst ((((numsL L).length : Nat) : Int) - 1) (fun hne => by omega)
    rwa [show ((((numsL L).length : Nat) : Int) - 1).toNat = (numsL L).length - 1 by omega] at e
  generalize toldR L (endR L ((numsL L).length - 1)) = r at HC ⊢
  generalize (((numsL L).length : Nat) : Int) = z at HC HK w1
  clear h hst hl
  go_enter Try.func31, Try.ntmps31
  go_wp2_with (first | (go_at_call 49; refine HC.out.mono ?_; rintro e w2 ⟨rfl, hb⟩; have HB := Lib.hid hb; clear hb) | (go_at_call 16; refine HK.out.mono ?_; rintro e w2 ⟨rfl, rfl⟩))
  go_ret2
  exact ⟨rfl, HB.out⟩
end
end Go.Proofs.Ytjhinakfoejpbaa.T

/- What is asked of a tally's numbers: the k-th, and the one in the midst. No condition stands open. -/
namespace Go.Proofs.Ytjhinakfoejpbaa.T
open Go.RowKit Go.Proofs.Ytjhinakfoejpbaa.WPure Go.Proofs.YtjhinakfoejpbaaW.PrintWords Go.Proofs.YtjhinakfoejpbaaW.PrintLast Go.Proofs.YtjhinakfoejpbaaW.PrintMore
section
variable {w : World} {S : Nat → Prop} {g bg mb n : Nat} {t : Tree} {hi lo : Int} {v : List Int} {m : ByteArray → Nat} {L : List Val}
set_option maxHeartbeats 4000000 in
set_option maxRecDepth 100000 in
theorem small_in (h : TalAt w S g bg mb t hi lo v n m) (hst : St L t hi lo v m) (k : Int) (a b : Addr) (hb : w.cell? a = some (.int .i64 k)) (ha : w.cell? b = some (.pointer (some ⟨g, 0, none⟩))) : Calls Try.prog 45 #[.pointer (some a), .pointer (some b)] w fun e w' => e = .returned (.tuple #[.int .i64 (smallR L k).1, .int .i64 (smallR L k).2]) ∧ Below w.heap.size w w' := by
  have c0 := h.c0
  have c3 : w.cell? ⟨g, 15, none⟩ = some (.int .i64 (v.getD 11 0)) := tcell h 11 (by decide)
  rw [hst.count1] at c3
  unfold smallR
  have hl : (numsL L).length ≤ 4096 := Nat.le_trans (numsL_length L) hst.few
  by_cases h1 : 1 ≤ k
  · by_cases h2 : k ≤ (numsL L).length
    · rw [if_pos ⟨h1, h2⟩]
      obtain ⟨j, rfl⟩ : ∃ j : Nat, k = (j : Int) + 1 := ⟨(k - 1).toNat, by omega⟩
      have d1 : decide ((j : Int) + 1 < 1) = false := decide_eq_false (by omega)
      have d1' : decide ((j : Int) < 0) = false := decide_eq_false (by omega)
      have d2 : decide ((((numsL L).length : Nat) : Int) < (j : Int) + 1) = false := decide_eq_false (by omega)
      have hj : j < (numsL L).length := by omega
      have e1 : (j : Int) + 1 - 1 = j := by omega
      have wj : wrap64 (j : Int) = (j : Int) := by unfold wrap64; omega
      have HA : Hid (∀ W, Below w.heap.size w W → Calls Try.prog 46 #[.pointer (some ⟨bg, 0, none⟩), .int .i64 (j : Int)] W fun e w' => e = .returned (.int .i64 (kthN (numsL L) j)) ∧ W = w') := fun W hW => by
        have e := at_any (h.below hW).bag (h.below hW).tree j (by rw [hst.tot]; exact hj) (by rw [hst.tot]; omega)
        rwa [hst.at hj] at e
      rw [e1, Int.toNat_natCast]
      generalize kthN (numsL L) j = r at HA ⊢
      generalize (((numsL L).length : Nat) : Int) = z at d2 c3
      clear h hst hl hj h1 h2
      go_enter Try.func45, Try.ntmps45
      go_upto_region 1 with fail
      have B1 : Hid (Below w.heap.size w w.drew) := (Below.refl _ _).drew
      have F1 : Hid ((fun W => W.cell? a = some (.int .i64 ((j : Int) + 1)) ∧ W.cell? b = some (.pointer (some ⟨g, 0, none⟩)) ∧ W.cell? ⟨g, 15, none⟩ = some (.int .i64 z) ∧ W.cell? ⟨g, 0, none⟩ = some (.pointer (some ⟨bg, 0, none⟩))) w.drew) := ⟨hb, ha, c3, c0⟩
      refine start_ (n := 11) (S := fun W => W.cell? a = some (.int .i64 ((j : Int) + 1)) ∧ W.cell? b = some (.pointer (some ⟨g, 0, none⟩)) ∧ W.cell? ⟨g, 15, none⟩ = some (.int .i64 z) ∧ W.cell? ⟨g, 0, none⟩ = some (.pointer (some ⟨bg, 0, none⟩))) (ds := []) (ba 11 0) (by kernel_rfl) rfl rfl F1.out (fun hHeld => ?_)
      clear hb ha c3 c0
      generalize w.drew = w1 at B1 F1 hHeld ⊢
      refine tS hHeld (i := 0) (N := some 4) (ba 11 1) rfl rfl ?_
      refine pS (i := 1) (N := some 5) (ba 11 3) rfl rfl ?_
      refine pS (i := 2) (N := some 6) (ba 11 7) rfl rfl ?_
      refine tS hHeld (i := 3) (N := some 7) (ba 11 15) rfl rfl ?_
      refine tS hHeld (i := 4) (N := some 8) (ba 11 31) rfl rfl ?_
      refine pS (i := 5) (N := some 9) (ba 11 63) rfl rfl ?_
      refine pS (i := 6) (N := some 10) (ba 11 127) rfl rfl ?_
      refine pS (i := 7) (N := some 11) (ba 11 255) rfl rfl ?_
      refine tS hHeld (i := 8) (N := some 12) (ba 11 511) rfl rfl ?_
      refine pS (i := 9) (N := some 13) (ba 11 1023) rfl rfl ?_
      refine pS (i := 10) (N := some 14) (ba 11 2047) rfl rfl ?_
      refine done_ (by kernel_rfl) ?_
      go_upto_region 3 with fail
      have B3 : Hid (Below w.heap.size w w1.drew) := B1.out.drew
      have F3 : Hid ((fun W => W.cell? a = some (.int .i64 ((j : Int) + 1)) ∧ W.cell? b = some (.pointer (some ⟨g, 0, none⟩)) ∧ W.cell? ⟨g, 15, none⟩ = some (.int .i64 z) ∧ W.cell? ⟨g, 0, none⟩ = some (.pointer (some ⟨bg, 0, none⟩))) w1.drew) := F1.out
      refine start_ (n := 9) (S := fun W => W.cell? a = some (.int .i64 ((j : Int) + 1)) ∧ W.cell? b = some (.pointer (some ⟨g, 0, none⟩)) ∧ W.cell? ⟨g, 15, none⟩ = some (.int .i64 z) ∧ W.cell? ⟨g, 0, none⟩ = some (.pointer (some ⟨bg, 0, none⟩))) (ds := []) (ba 9 0) (by kernel_rfl) rfl rfl F3.out (fun hHeld => ?_)
      clear F1 B1
      generalize w1.drew = w3 at B3 F3 hHeld ⊢
      refine tS hHeld (i := 0) (N := some 15) (ba 9 1) rfl rfl ?_
      refine pS (i := 1) (N := some 16) (ba 9 3) rfl rfl ?_
      refine pS (i := 2) (N := some 17) (ba 9 7) rfl rfl ?_
      refine tS hHeld (i := 3) (N := some 18) (ba 9 15) rfl rfl ?_
      refine tS hHeld (i := 4) (N := some 19) (ba 9 31) rfl rfl ?_
      refine pS (i := 5) (N := some 20) (ba 9 63) rfl rfl ?_
      refine one_ (i := 6) (N := some 21) (ba 9 127) rfl rfl (by kernel_rfl) (by decide) (fun K hK => ?_)
      refine goes_ Try.func46 (by kernel_rfl) rfl #[.pointer (some ⟨bg, 0, none⟩), .int .i64 (wrap64 (j : Int))] (by rfl) rfl rfl (by (try simp only [List.map_toArray, List.map_cons, List.map_nil]); first | done | rfl) ?_
      rw [wj]
      refine (HA.out _ B3.out).mono ?_
      rintro e w' ⟨rfl, rfl⟩
      refine ⟨_, rfl, ?_⟩
      refine hK.out _ _ F3.out (fun hHeld => nS (N := 21) ?_)
      clear hK K
      refine pS (i := 7) (N := some 2) (ba 9 255) rfl rfl ?_
      refine pS (i := 8) (N := some 3) (ba 9 511) rfl rfl ?_
      refine done_ (by kernel_rfl) ?_
      go_wp2
      go_ret2
      exact ⟨rfl, B3.out⟩
    · rw [if_neg (fun z => h2 z.2)]
      have d1 : decide (k < 1) = false := decide_eq_false (by omega)
      have d2 : decide ((((numsL L).length : Nat) : Int) < k) = true := decide_eq_true (by omega)
      generalize (((numsL L).length : Nat) : Int) = z at d2 c3
      clear h hst hl h1 h2
      go_enter Try.func45, Try.ntmps45
      go_upto_region 1 with fail
      have B1 : Hid (Below w.heap.size w w.drew) := (Below.refl _ _).drew
      have F1 : Hid ((fun W => W.cell? a = some (.int .i64 k) ∧ W.cell? b = some (.pointer (some ⟨g, 0, none⟩)) ∧ W.cell? ⟨g, 15, none⟩ = some (.int .i64 z) ∧ W.cell? ⟨g, 0, none⟩ = some (.pointer (some ⟨bg, 0, none⟩))) w.drew) := ⟨hb, ha, c3, c0⟩
      refine start_ (n := 11) (S := fun W => W.cell? a = some (.int .i64 k) ∧ W.cell? b = some (.pointer (some ⟨g, 0, none⟩)) ∧ W.cell? ⟨g, 15, none⟩ = some (.int .i64 z) ∧ W.cell? ⟨g, 0, none⟩ = some (.pointer (some ⟨bg, 0, none⟩))) (ds := []) (ba 11 0) (by kernel_rfl) rfl rfl F1.out (fun hHeld => ?_)
      clear hb ha c3 c0
      generalize w.drew = w1 at B1 F1 hHeld ⊢
      refine tS hHeld (i := 0) (N := some 4) (ba 11 1) rfl rfl ?_
      refine pS (i := 1) (N := some 5) (ba 11 3) rfl rfl ?_
      refine pS (i := 2) (N := some 6) (ba 11 7) rfl rfl ?_
      refine tS hHeld (i := 3) (N := some 7) (ba 11 15) rfl rfl ?_
      refine tS hHeld (i := 4) (N := some 8) (ba 11 31) rfl rfl ?_
      refine pS (i := 5) (N := some 9) (ba 11 63) rfl rfl ?_
      refine pS (i := 6) (N := some 10) (ba 11 127) rfl rfl ?_
      refine pS (i := 7) (N := some 11) (ba 11 255) rfl rfl ?_
      refine tS hHeld (i := 8) (N := some 12) (ba 11 511) rfl rfl ?_
      refine pS (i := 9) (N := some 13) (ba 11 1023) rfl rfl ?_
      refine pS (i := 10) (N := some 14) (ba 11 2047) rfl rfl ?_
      refine done_ (by kernel_rfl) ?_
      go_wp2
      go_ret2
      exact ⟨rfl, B1.out⟩
  · rw [if_neg (fun z => h1 z.1)]
    have d1 : decide (k < 1) = true := decide_eq_true (by omega)
    clear h hst hl h1 c0
    go_enter Try.func45, Try.ntmps45
    go_wp2
    go_region_with fail
    all_goals go_wp2
    all_goals go_ret2
    all_goals exact ⟨rfl, by repeat (first | exact Below.refl _ _ | refine Below.drew ?_)⟩
theorem small_any (h : TalAt w S g bg mb t hi lo v n m) (hst : St L t hi lo v m) (k : Int) : Calls Try.prog 11 #[.pointer (some ⟨g, 0, none⟩), .int .i64 k] w fun e w' => e = .returned (.tuple #[.int .i64 (toldR L (smallR L k)).1, .int .i64 (toldR L (smallR L k)).2]) ∧ Below w.heap.size w w' := by
  obtain ⟨w1, hw1⟩ : ∃ w1, (w.alloc (.cells #[.pointer (some ⟨g, 0, none⟩)] 26)).alloc (.cells #[.int .i64 k] 3) = w1 := ⟨_, rfl⟩
  have BB : Hid (Below w.heap.size w w1) := hw1 ▸ box2 w _ _
  have h1 := h.below BB.out
  have b0 := heap_alloc_new w (.cells #[.pointer (some ⟨g, 0, none⟩)] 26)
  have c1 : w1.cell? ⟨w.heap.size, 0, none⟩ = some (.pointer (some ⟨g, 0, none⟩)) := hw1 ▸ (blk_cell (blk_alloc b0 _) 0).trans rfl
  have c2 : w1.cell? ⟨w.heap.size + 1, 0, none⟩ = some (.int .i64 k) := by
    have b1 := heap_alloc_new (w.alloc (.cells #[.pointer (some ⟨g, 0, none⟩)] 26)) (.cells #[.int .i64 k] 3)
    rw [World.size_alloc] at b1
    exact hw1 ▸ (blk_cell b1 0).trans rfl
  have HC : Hid (Calls Try.prog 40 #[.pointer (some ⟨g, 0, none⟩), .func (.func 45) #[] #[.pointer (some ⟨w.heap.size + 1, 0, none⟩), .pointer (some ⟨w.heap.size, 0, none⟩)]] w1 fun e w' => e = .returned (.tuple #[.int .i64 (toldR L (smallR L k)).1, .int .i64 (toldR L (smallR L k)).2]) ∧ Below w1.heap.size w1 w') := by
    by_cases hf : faultR L = 0
    · rw [toldR_no hf]
      exact asked_45 h1 hst hf _ _ _ _ (small_in h1 hst k _ _ c2 c1)
    · rw [toldR_yes hf]
      exact (asked_bad h1 hst hf _).mono (fun e w' ⟨he, hw⟩ => ⟨he, hw ▸ Below.refl _ _⟩)
  generalize toldR L (smallR L k) = r at HC ⊢
  clear h hst h1 c2 b0
  subst hw1
  go_enter Try.func11, Try.ntmps11
  go_wp2_with (go_at_call 40; refine HC.out.mono ?_; rintro e w2 ⟨rfl, hb⟩; have HB := Lib.hid (BB.out.trans (hb.mono BB.out.size)); clear hb)
  go_ret2
  exact ⟨rfl, HB.out⟩
end
end Go.Proofs.Ytjhinakfoejpbaa.T

/- The number in the midst of a tally. No condition stands open. -/
namespace Go.Proofs.Ytjhinakfoejpbaa.T
open Go.RowKit Go.Proofs.Ytjhinakfoejpbaa.WPure Go.Proofs.YtjhinakfoejpbaaW.PrintWords Go.Proofs.YtjhinakfoejpbaaW.PrintLast Go.Proofs.YtjhinakfoejpbaaW.PrintMore
theorem kth_in {l : List Int} {i : Nat} (h : i < l.length) (hf : ∀ n ∈ l, fits n) (t : Tree) (hs : Srt t) (hp : (row t).Perm l) : fits (kthN l i) := by
  have h1 := at_row t i (by rw [← row_length, hp.length_eq]; exact h)
  have h2 := kthN_up (row_sorted hs) hp i h
  rw [List.getD, h1] at h2
  have h3 : atT t i ∈ row t := List.mem_of_getElem? h1
  have h4 := hf _ (hp.mem_iff.1 h3)
  exact h2 ▸ h4
theorem add_zero_w (a : Int) (ha : fits a) : PG.wide_Add.f 1 0 0 a = some (hiW a, loW a, 0) := by
  rw [add_eq]
  have e := addW_rep 0 a (by decide)
  rw [if_pos ha, Int.zero_add, if_pos (by unfold fits at ha; unfold WPure.inW; omega)] at e
  exact congrArg some e
theorem add_two_w (a b : Int) (ha : fits a) (hb : fits b) : PG.wide_Add.f 1 (hiW a) (loW a) b = some (hiW (a + b), loW (a + b), 0) := by
  rw [add_eq, addW_rep a b (by unfold fits at ha; unfold WPure.inW; omega), if_pos hb, if_pos (by unfold fits at ha hb; unfold WPure.inW; omega)]
theorem mean_two_w (a b : Int) (ha : fits a) (hb : fits b) : PG.wide_Mean.f 100 (hiW (a + b)) (loW (a + b)) 2 = some (meanV (a + b) 2, 0) := by
  unfold fits at ha hb
  exact meanO_eq (meanO_rep (a + b) 2 (by unfold WPure.inW; omega) (by omega) (by omega) (by omega) (by omega))
section
variable {w : World} {S : Nat → Prop} {g bg mb n : Nat} {t : Tree} {hi lo : Int} {v : List Int} {m : ByteArray → Nat} {L : List Val}
set_option maxHeartbeats 4000000 in
set_option maxRecDepth 100000 in
theorem mid_in (h : TalAt w S g bg mb t hi lo v n m) (hst : St L t hi lo v m) (a : Addr) (ha : w.cell? a = some (.pointer (some ⟨g, 0, none⟩))) : Calls Try.prog 47 #[.pointer (some a)] w fun e w' => e = .returned (.tuple #[.int .i64 (midR L).1, .int .i64 (midR L).2]) ∧ Below w.heap.size w w' := by
  have hu29 := Try.underlying29
  have c0 := h.c0
  have c3 : w.cell? ⟨g, 15, none⟩ = some (.int .i64 (v.getD 11 0)) := tcell h 11 (by decide)
  rw [hst.count1] at c3
  unfold midR
  by_cases hz : (numsL L).length = 0
  · rw [if_pos hz]
    rw [hz] at c3
    clear h hst hz c0
    go_enter Try.func47, Try.ntmps47
    go_wp2
    go_ret2
    exact ⟨rfl, Below.refl _ _⟩
  · rw [if_neg hz]
    have hl : (numsL L).length ≤ 4096 := Nat.le_trans (numsL_length L) hst.few
    have HA0 : ∀ (j : Nat) W, j < (numsL L).length → Below w.heap.size w W → Calls Try.prog 46 #[.pointer (some ⟨bg, 0, none⟩), .int .i64 (j : Int)] W fun e w' => e = .returned (.int .i64 (kthN (numsL L) j)) ∧ W = w' := fun j W hj hW => by
      have e := at_any (h.below hW).bag (h.below hW).tree j (by rw [hst.tot]; exact hj) (by rw [hst.tot]; omega)
      rwa [hst.at hj] at e
    have e0 : ((((numsL L).length : Nat) : Int) == 0) = false := beq_eq_false_iff_ne.2 (by omega)
    obtain ⟨c, hc⟩ : ∃ c, (numsL L).length = c := ⟨_, rfl⟩
    rw [hc] at hl hz c3 e0 HA0 ⊢
    have q1 : wrap64 (Int.tdiv (wrap64 ((c : Int) - 1)) 2) = (((c - 1) / 2 : Nat) : Int) := by
      rw [show wrap64 ((c : Int) - 1) = (((c - 1 : Nat)) : Int) by unfold wrap64; omega]
      unfold wrap64
      rw [Int.tdiv_eq_ediv_of_nonneg (by omega)]
      omega
    have q2 : wrap64 (Int.tdiv (c : Int) 2) = ((c / 2 : Nat) : Int) := by
      unfold wrap64
      rw [Int.tdiv_eq_ediv_of_nonneg (by omega)]
      omega
    have HA : Hid (∀ W, Below w.heap.size w W → _) := fun W hW => HA0 ((c - 1) / 2) W (by omega) hW
    have HA2 : Hid (∀ W, Below w.heap.size w W → _) := fun W hW => HA0 (c / 2) W (by omega) hW
    have f1 : fits (kthN (numsL L) ((c - 1) / 2)) := kth_in (by omega) (nums_fit hst.ok) t hst.srt hst.row
    have f2 : fits (kthN (numsL L) (c / 2)) := kth_in (by omega) (nums_fit hst.ok) t hst.srt hst.row
    generalize kthN (numsL L) ((c - 1) / 2) = r1 at HA f1 ⊢
    generalize kthN (numsL L) (c / 2) = r2 at HA2 f2 ⊢
    have M1 := Lib.hid (add_zero_w r1 f1)
    have M2 := Lib.hid (add_two_w r1 r2 f1 f2)
    have M3 := Lib.hid (mean_two_w r1 r2 f1 f2)
    generalize hiW r1 = h1 at M1 M2
    generalize loW r1 = l1 at M1 M2
    generalize meanV (r1 + r2) 2 = r at M3 ⊢
    generalize hiW (r1 + r2) = h2 at M2 M3
    generalize loW (r1 + r2) = l2 at M2 M3
    generalize (((c - 1) / 2 : Nat) : Int) = z1 at q1 HA
    generalize ((c / 2 : Nat) : Int) = z2 at q2 HA2
    generalize (c : Int) = z at e0 c3 q1 q2
    clear h hst hl HA0 hz hc f1 f2 c
    go_enter Try.func47, Try.ntmps47
    go_upto_region 4 with fail
    have B1 : Hid (Below w.heap.size w w.drew) := (Below.refl _ _).drew
    have F1 : Hid ((fun W => W.cell? a = some (.pointer (some ⟨g, 0, none⟩)) ∧ W.cell? ⟨g, 0, none⟩ = some (.pointer (some ⟨bg, 0, none⟩))) w.drew) := ⟨ha, c0⟩
    refine start_ (n := 17) (S := fun W => W.cell? a = some (.pointer (some ⟨g, 0, none⟩)) ∧ W.cell? ⟨g, 0, none⟩ = some (.pointer (some ⟨bg, 0, none⟩))) (ds := []) (ba 17 0) (by kernel_rfl) rfl rfl F1.out (fun hHeld => ?_)
    clear ha c0 c3
    generalize w.drew = w1 at B1 F1 hHeld ⊢
    refine tS hHeld (i := 0) (N := some 17) (ba 17 1) rfl rfl ?_
    refine pS (i := 1) (N := some 18) (ba 17 3) rfl rfl ?_
    refine pS (i := 2) (N := some 19) (ba 17 7) rfl rfl ?_
    refine tS hHeld (i := 3) (N := some 20) (ba 17 15) rfl rfl ?_
    refine pS (i := 4) (N := some 21) (ba 17 31) rfl rfl ?_
    refine pS (i := 5) (N := some 22) (ba 17 63) rfl rfl ?_
    refine pS (i := 6) (N := some 23) (ba 17 127) rfl rfl ?_
    refine tS hHeld (i := 8) (N := some 25) (ba 17 383) rfl rfl ?_
    refine pS (i := 9) (N := some 26) (ba 17 895) rfl rfl ?_
    refine pS (i := 10) (N := some 27) (ba 17 1919) rfl rfl ?_
    refine tS hHeld (i := 11) (N := some 28) (ba 17 3967) rfl rfl ?_
    refine pS (i := 12) (N := some 29) (ba 17 8063) rfl rfl ?_
    refine pS (i := 13) (N := some 30) (ba 17 16255) rfl rfl ?_
    refine one_ (i := 7) (N := some 24) (ba 17 16383) rfl rfl (by kernel_rfl) (by decide) (fun K hK => ?_)
    refine goes_ Try.func46 (by kernel_rfl) rfl #[.pointer (some ⟨bg, 0, none⟩), .int .i64 (wrap64 (Int.tdiv (wrap64 (z - 1)) 2))] (by rfl) rfl rfl (by (try simp only [List.map_toArray, List.map_cons, List.map_nil]); first | done | rfl) ?_
    rw [q1]
    refine (HA.out _ B1.out).mono ?_
    rintro e w' ⟨rfl, rfl⟩
    refine ⟨_, rfl, ?_⟩
    refine hK.out _ _ F1.out (fun hHeld => nS (N := 24) ?_)
    clear hK K
    refine one_ (i := 14) (N := some 31) (ba 17 32767) rfl rfl (by kernel_rfl) (by decide) (fun K hK => ?_)
    refine goes_ Try.func46 (by kernel_rfl) rfl #[.pointer (some ⟨bg, 0, none⟩), .int .i64 (wrap64 (Int.tdiv z 2))] (by rfl) rfl rfl (by (try simp only [List.map_toArray, List.map_cons, List.map_nil]); first | done | rfl) ?_
    rw [q2]
    refine (HA2.out _ B1.out).mono ?_
    rintro e w' ⟨rfl, rfl⟩
    refine ⟨_, rfl, ?_⟩
    refine hK.out _ _ F1.out (fun hHeld => nS (N := 31) ?_)
    clear hK K
    refine pS (i := 15) (N := some 4) (ba 17 65535) rfl rfl ?_
    refine pS (i := 16) (N := some 5) (ba 17 131071) rfl rfl ?_
    refine done_ (by kernel_rfl) ?_
    go_upto_region 6 with (go_at_call 48; refine (PG.wide_Add.calls 1 0 0 r1 h1 l1 0 _ M1.out).mono ?_; rintro e w2 ⟨rfl, hb⟩; have B2 := Lib.hid (B1.out.trans (hb.mono B1.out.size)); clear hb M1)
    have X3 := Lib.hid (heap_alloc_new w2 (.cells #[.int .i64 h1, .int .i64 l1] 29))
    have B3 : Hid (Below w.heap.size w (w2.alloc (.cells #[.int .i64 h1, .int .i64 l1] 29))) := B2.out.alloc B2.out.size _
    have HQ : Hid (w.heap.size ≤ w2.heap.size) := B2.out.size
    generalize w2.alloc (.cells #[.int .i64 h1, .int .i64 l1] 29) = w3 at X3 B3 ⊢
    generalize w2.heap.size = q at X3 HQ ⊢
    have z0 : w3.cell? ⟨q, 0, none⟩ = some (.int .i64 h1) := (blk_cell X3.out 0).trans rfl
    have z1 : w3.cell? ⟨q, 1, none⟩ = some (.int .i64 l1) := (blk_cell X3.out 1).trans rfl
    clear B2
    go_upto_region 7 with (go_at_call 48; refine (PG.wide_Add.calls 1 h1 l1 r2 h2 l2 0 _ M2.out).mono ?_; rintro e w4 ⟨rfl, hb⟩; have X4 := Lib.hid (blk_below X3.out hb); have B4 := Lib.hid (B3.out.trans (hb.mono B3.out.size)); have z2 : w4.cell? ⟨q, 0, none⟩ = some (.int .i64 h1) := (blk_cell X4.out 0).trans rfl; have z3 : w4.cell? ⟨q, 1, none⟩ = some (.int .i64 l1) := (blk_cell X4.out 1).trans rfl; have f0 : w4.frozen? ⟨q, 0, none⟩ = false := blk_frozen X4.out 0; have f1 : w4.frozen? ⟨q, 1, none⟩ = false := blk_frozen X4.out 1; clear hb z0 z1 M2)
    have B5 : Hid (Below w.heap.size w ((w4.setCell ⟨q, 0, none⟩ (.int .i64 h2)).setCell ⟨q, 1, none⟩ (.int .i64 l2))) := (B4.out.setCell (p := ⟨q, 0, none⟩) HQ.out _).setCell (p := ⟨q, 1, none⟩) HQ.out _
    have X5 := Lib.hid (blk_set (blk_set X4.out 0 (.int .i64 h2)) 1 (.int .i64 l2))
    generalize (w4.setCell ⟨q, 0, none⟩ (.int .i64 h2)).setCell ⟨q, 1, none⟩ (.int .i64 l2) = w5 at B5 X5 ⊢
    have z4 : w5.cell? ⟨q, 0, none⟩ = some (.int .i64 h2) := (blk_cell X5.out 0).trans rfl
    have z5 : w5.cell? ⟨q, 1, none⟩ = some (.int .i64 l2) := (blk_cell X5.out 1).trans rfl
    clear X3 B3 z2 z3 f0 f1 X4 B4
    go_wp2_with (go_at_call 44; refine (PG.wide_Mean.calls 100 h2 l2 2 r 0 _ M3.out).mono ?_; rintro e w6 ⟨rfl, hb⟩; have B6 := Lib.hid (B5.out.trans (hb.mono B5.out.size)); clear hb)
    go_ret2
    exact ⟨rfl, B6.out⟩
theorem mid_any (h : TalAt w S g bg mb t hi lo v n m) (hst : St L t hi lo v m) : Calls Try.prog 12 #[.pointer (some ⟨g, 0, none⟩)] w fun e w' => e = .returned (.tuple #[.int .i64 (toldR L (midR L)).1, .int .i64 (toldR L (midR L)).2]) ∧ Below w.heap.size w w' := by
  have BB : Hid (Below w.heap.size w (w.alloc (.cells #[.pointer (some ⟨g, 0, none⟩)] 26))) := (Below.refl _ w).alloc (Nat.le_refl _) _
  have h1 := h.below BB.out
  have c1 : (w.alloc (.cells #[.pointer (some ⟨g, 0, none⟩)] 26)).cell? ⟨w.heap.size, 0, none⟩ = some (.pointer (some ⟨g, 0, none⟩)) := (blk_cell (heap_alloc_new w _) 0).trans rfl
  have HC : Hid (Calls Try.prog 40 #[.pointer (some ⟨g, 0, none⟩), .func (.func 47) #[] #[.pointer (some ⟨w.heap.size, 0, none⟩)]] (w.alloc (.cells #[.pointer (some ⟨g, 0, none⟩)] 26)) fun e w' => e = .returned (.tuple #[.int .i64 (toldR L (midR L)).1, .int .i64 (toldR L (midR L)).2]) ∧ Below (w.alloc (.cells #[.pointer (some ⟨g, 0, none⟩)] 26)).heap.size (w.alloc (.cells #[.pointer (some ⟨g, 0, none⟩)] 26)) w') := by
    by_cases hf : faultR L = 0
    · rw [toldR_no hf]
      exact asked_47 h1 hst hf _ _ _ (mid_in h1 hst _ c1)
    · rw [toldR_yes hf]
      exact (asked_bad h1 hst hf _).mono (fun e w' ⟨he, hw⟩ => ⟨he, hw ▸ Below.refl _ _⟩)
  generalize toldR L (midR L) = r at HC ⊢
  clear h hst h1 c1
  go_enter Try.func12, Try.ntmps12
  go_wp2_with (go_at_call 40; refine HC.out.mono ?_; rintro e w2 ⟨rfl, hb⟩; have HB := Lib.hid (BB.out.trans (hb.mono BB.out.size)); clear hb)
  go_ret2
  exact ⟨rfl, HB.out⟩
end
end Go.Proofs.Ytjhinakfoejpbaa.T

/- Of no tally, and of one that nothing made: every call. No condition stands open. -/
namespace Go.Proofs.Ytjhinakfoejpbaa.T
open Go.RowKit Go.Proofs.Ytjhinakfoejpbaa.WPure Go.Proofs.YtjhinakfoejpbaaW.PrintWords Go.Proofs.YtjhinakfoejpbaaW.PrintLast Go.Proofs.YtjhinakfoejpbaaW.PrintMore
/-- no tally, or one that nothing made -/
def NoTal (w : World) (p : Option Addr) : Prop := p = none ∨ ∃ g, p = some ⟨g, 0, none⟩ ∧ w.cell? ⟨g, 0, none⟩ = some (.pointer none)
theorem NoTal.below {w w' : World} {p : Option Addr} (h : NoTal w p) (hb : Below w.heap.size w w') : NoTal w' p := by
  rcases h with h | ⟨g, h, hc⟩
  · exact .inl h
  · exact .inr ⟨g, h, (hb.cell (World.block_lt_of_cell? w _ hc)).trans hc⟩
end Go.Proofs.Ytjhinakfoejpbaa.T

/- A tally by the list of what it holds: every call. No condition stands open. -/
namespace Go.Proofs.Ytjhinakfoejpbaa.T
open Go.RowKit Go.Proofs.Ytjhinakfoejpbaa.WPure Go.Proofs.YtjhinakfoejpbaaW.PrintWords Go.Proofs.YtjhinakfoejpbaaW.PrintLast Go.Proofs.YtjhinakfoejpbaaW.PrintMore
/-- x taken out once -/
def takeOut (x : Val) : List Val → List Val
  | [] => []
  | y :: l => if y = x then l else y :: takeOut x l
theorem takeOut_perm {x : Val} : ∀ {L : List Val}, cnt L x ≠ 0 → L.Perm (x :: takeOut x L)
  | [], h => absurd rfl h
  | y :: l, h => by
    by_cases e : y = x
    · subst e
      rw [show takeOut y (y :: l) = l from if_pos rfl]
    · rw [cnt_cons, if_neg e, Nat.add_zero] at h
      simp only [takeOut]
      rw [if_neg e]
      exact ((takeOut_perm h).cons y).trans (.swap _ _ _)
def addE (L : List Val) (x : Val) : Int := if okV x = true then (if L.length < 4096 then 0 else 7) else 2
def addL (L : List Val) (x : Val) : List Val := if okV x = true ∧ L.length < 4096 then held x :: L else L
def dropE (L : List Val) (x : Val) : Int := if okV x = true then (if cnt L (held x) = 0 then 8 else 0) else 2
def dropL (L : List Val) (x : Val) : List Val := if okV x = true ∧ cnt L (held x) ≠ 0 then takeOut (held x) L else L
def oftenR (L : List Val) (x : Val) : Nat := if okV x = true then cnt L (held x) else 0
def kindR (L : List Val) (k : Int) : Nat := L.countP fun y => decide (y.1 = k)
def belowR (L : List Val) (n : Int) : Nat := (numsL L).countP fun a => decide (a < n)
/-- a value as it is handed over -/
abbrev vv (x : Val) : Value := .agg #[.int .i64 x.1, .int .i64 x.2.1, .string x.2.2.1, .bool x.2.2.2.1, .int .i64 x.2.2.2.2]
section
variable {w : World} {S : Nat → Prop} {g bg mb n : Nat} {t : Tree} {hi lo : Int} {v : List Int} {m : ByteArray → Nat} {L : List Val}
theorem count_out (h : TalAt w S g bg mb t hi lo v n m) (k : Int) (hk : k < 0 ∨ 4 < k) : Calls Try.prog 16 #[.pointer (some ⟨g, 0, none⟩), .int .i64 k] w fun e w' => e = .returned (.int .i64 0) ∧ w = w' := by
  have H := Lib.hid h
  clear h
  by_cases h0 : k < 0
  · have d1 : decide (k < 0) = true := decide_eq_true h0
    clear hk
    go_enter Try.func16, Try.ntmps16
    go_wp2_with (go_at_call 50; refine (made_yes H.out).mono ?_; rintro e w' ⟨rfl, rfl⟩)
    go_ret
    exact ⟨rfl, rfl⟩
  · have d1 : decide (k < 0) = false := decide_eq_false h0
    have d2 : decide (4 < k) = true := decide_eq_true (by omega)
    clear hk h0
    go_enter Try.func16, Try.ntmps16
    go_wp2_with (go_at_call 50; refine (made_yes H.out).mono ?_; rintro e w' ⟨rfl, rfl⟩)
    go_ret
    exact ⟨rfl, rfl⟩
theorem add_bad (h : TalAt w S g bg mb t hi lo v n m) (k x : Int) (s : ByteArray) (b : Bool) (c : Int) (hx : rightB k x s b c = false) : Calls Try.prog 14 #[.pointer (some ⟨g, 0, none⟩), .agg #[.int .i64 k, .int .i64 x, .string s, .bool b, .int .i64 c]] w fun e w' => e = .returned (.int .i64 2) ∧ Below w.heap.size w w' := by
  have BB : Hid (Below w.heap.size w (w.alloc (.cells #[.int .i64 k, .int .i64 x, .string s, .bool b, .int .i64 c] 25))) := (Below.refl _ w).alloc (Nat.le_refl _) _
  have H := Lib.hid (h.below BB.out)
  clear h
  go_enter Try.func14, Try.ntmps14
  go_wp2_with (first | (go_at_call 50; refine (made_yes H.out).mono ?_; rintro e w' ⟨rfl, rfl⟩) | (go_at_call 33; refine (check_any k x s b c _).mono ?_; rw [hx]; rintro e w2 ⟨rfl, hb⟩; have HB := Lib.hid (BB.out.trans (hb.mono (by simp))); clear hb H))
  go_ret
  exact ⟨rfl, HB.out⟩
theorem add_big (h : TalAt w S g bg mb t hi lo v n m) (k x : Int) (s : ByteArray) (b : Bool) (c : Int) (hx : rightB k x s b c = true) (hf : 4096 ≤ v.getD 15 0) : Calls Try.prog 14 #[.pointer (some ⟨g, 0, none⟩), .agg #[.int .i64 k, .int .i64 x, .string s, .bool b, .int .i64 c]] w fun e w' => e = .returned (.int .i64 7) ∧ Below w.heap.size w w' := by
  have BB : Hid (Below w.heap.size w (w.alloc (.cells #[.int .i64 k, .int .i64 x, .string s, .bool b, .int .i64 c] 25))) := (Below.refl _ w).alloc (Nat.le_refl _) _
  have H := Lib.hid (h.below BB.out)
  obtain ⟨a, ha⟩ : ∃ a, v.getD 15 0 = a := ⟨_, rfl⟩
  rw [ha] at hf
  have HA := Lib.hid ha
  have d1 : decide (4096 ≤ a) = true := decide_eq_true hf
  clear h hf ha
  go_enter Try.func14, Try.ntmps14
  go_wp2_with (first | (go_at_call 50; refine (made_yes H.out).mono ?_; rintro e w' ⟨rfl, rfl⟩) | (go_at_call 33; refine (check_any k x s b c _).mono ?_; rw [hx]; rintro e w2 ⟨rfl, hb⟩; have HB := Lib.hid (BB.out.trans (hb.mono (by simp))); have H2 := H.out.below hb; have c0 : w2.cell? ⟨g, 19, none⟩ = some (.int .i64 (v.getD 15 0)) := tcell H2 15 (by decide); rw [HA.out] at c0; clear hb H H2))
  go_ret
  exact ⟨rfl, HB.out⟩
theorem drop_bad (h : TalAt w S g bg mb t hi lo v n m) (k x : Int) (s : ByteArray) (b : Bool) (c : Int) (hx : rightB k x s b c = false) : Calls Try.prog 15 #[.pointer (some ⟨g, 0, none⟩), .agg #[.int .i64 k, .int .i64 x, .string s, .bool b, .int .i64 c]] w fun e w' => e = .returned (.int .i64 2) ∧ Below w.heap.size w w' := by
  have BB : Hid (Below w.heap.size w (w.alloc (.cells #[.int .i64 k, .int .i64 x, .string s, .bool b, .int .i64 c] 25))) := (Below.refl _ w).alloc (Nat.le_refl _) _
  have H := Lib.hid (h.below BB.out)
  clear h
  go_enter Try.func15, Try.ntmps15
  go_wp2_with (first | (go_at_call 50; refine (made_yes H.out).mono ?_; rintro e w' ⟨rfl, rfl⟩) | (go_at_call 33; refine (check_any k x s b c _).mono ?_; rw [hx]; rintro e w2 ⟨rfl, hb⟩; have HB := Lib.hid (BB.out.trans (hb.mono (by simp))); clear hb H))
  go_ret
  exact ⟨rfl, HB.out⟩
theorem drop_none (h : TalAt w S g bg mb t hi lo v n m) (hst : St L t hi lo v m) (k x : Int) (s : ByteArray) (b : Bool) (c : Int) (hx : rightB k x s b c = true) (hf : cnt L (k, x, foldS s, b, c) = 0) : Calls Try.prog 15 #[.pointer (some ⟨g, 0, none⟩), .agg #[.int .i64 k, .int .i64 x, .string s, .bool b, .int .i64 c]] w fun e w' => e = .returned (.int .i64 8) ∧ Below w.heap.size w w' := by
  have BB : Hid (Below w.heap.size w (w.alloc (.cells #[.int .i64 k, .int .i64 x, .string s, .bool b, .int .i64 c] 25))) := (Below.refl _ w).alloc (Nat.le_refl _) _
  have H := Lib.hid (h.below BB.out)
  have X1 : Hid (BoxAt (w.alloc (.cells #[.int .i64 k, .int .i64 x, .string s, .bool b, .int .i64 c] 25)) w.heap.size k x s b c) := heap_alloc_new w _
  have HO : Hid (∀ W, TalAt W S g bg mb t hi lo v n m → Calls Try.prog 20 #[.pointer (some ⟨g, 0, none⟩), .agg #[.int .i64 k, .int .i64 x, .string s, .bool b, .int .i64 c]] W fun e w' => e = .returned (.int .i64 0) ∧ Below W.heap.size W w') := fun W hW => by have e := often_yes hW hst k x s b c hx; rwa [hf] at e
  clear h hst hf
  go_enter Try.func15, Try.ntmps15
  go_wp2_with (first | (go_at_call 50; refine (made_yes H.out).mono ?_; rintro e w' ⟨rfl, rfl⟩) | (go_at_call 33; refine (check_any k x s b c _).mono ?_; rw [hx]; rintro e w1a ⟨rfl, hb⟩; have HBa := Lib.hid (BB.out.trans (hb.mono (by simp))); have H1a := Lib.hid (H.out.below hb); have X1a := Lib.hid (show BoxAt w1a w.heap.size k x s b c from (hb.block w.heap.size (by simp)).trans X1.out); have za := blk_cell X1a.out 0; have zb := blk_cell X1a.out 1; have zc := blk_cell X1a.out 2; have zd := blk_cell X1a.out 3; have ze := blk_cell X1a.out 4; clear hb H) | (go_at_call 20; refine (HO.out _ H1a.out).mono ?_; rintro e w2 ⟨rfl, hb⟩; have HB := Lib.hid (HBa.out.trans (hb.mono HBa.out.size)); clear hb))
  go_ret
  exact ⟨rfl, HB.out⟩
end
/-! ### by the list -/
section
variable {w : World} {S : Nat → Prop} {g n : Nat} {L : List Val}
theorem Tal.perm {M : List Val} (h : Tal w S g n L) (p : L.Perm M) : Tal w S g n M := by
  obtain ⟨n', bg, mb, t, hi, lo, v, m, hn, ht, hs⟩ := h
  exact ⟨n', bg, mb, t, hi, lo, v, m, hn, ht, hs.perm p⟩
theorem Tal.more {n2 : Nat} (h : Tal w S g n L) (hn2 : n ≤ n2) : Tal w S g n2 L := by
  obtain ⟨n', bg, mb, t, hi, lo, v, m, hn, ht, hs⟩ := h
  exact ⟨n', bg, mb, t, hi, lo, v, m, Nat.le_trans hn hn2, ht, hs⟩
theorem Tal.kept {w' : World} {S' : Nat → Prop} (h : Tal w S g n L) (k : Keeps S' w w') (hd : ∀ b, S b → b < w.heap.size → ¬ S' b) : Tal w' S g n L := by
  obtain ⟨n', bg, mb, t, hi, lo, v, m, hn, ht, hs⟩ := h
  exact ⟨n', bg, mb, t, hi, lo, v, m, hn, ht.kept k (hd g ht.bg_ (blk_lt ht.blk)) (hd bg ht.bbg (blk_lt ht.bag)) (hd mb ht.bmb (by obtain ⟨D, ho, _⟩ := ht.map; exact ho.lt)) (fun b hb => hd b (ht.bt b hb) (ht.tree.lt b hb)), hs⟩
theorem Tal.below {w' : World} (h : Tal w S g n L) (k : Below w.heap.size w w') : Tal w' S g n L := h.kept (Keeps.of_below (S := fun _ => False) k) (fun _ _ _ h => h)
theorem Tal.narrow (h : Tal w S g n L) {S' : Nat → Prop} (hS : ∀ b, S b → b < w.heap.size → S' b) : Tal w S' g n L := by
  obtain ⟨n', bg, mb, t, hi, lo, v, m, hn, ht, hs⟩ := h
  exact ⟨n', bg, mb, t, hi, lo, v, m, hn, ⟨ht.blk, ht.len, ht.bag, ht.tree, ht.nodup, ht.map, hS g ht.bg_ (blk_lt ht.blk), hS bg ht.bbg (blk_lt ht.bag), hS mb ht.bmb (by obtain ⟨D, ho, _⟩ := ht.map; exact ho.lt), fun b hb => hS b (ht.bt b hb) (ht.tree.lt b hb)⟩, hs⟩
theorem Tal.few (h : Tal w S g n L) : L.length ≤ 4096 := by
  obtain ⟨n', bg, mb, t, hi, lo, v, m, hn, ht, hs⟩ := h
  exact hs.few
theorem Tal.ok (h : Tal w S g n L) : ∀ x ∈ L, okV x = true := by
  obtain ⟨n', bg, mb, t, hi, lo, v, m, hn, ht, hs⟩ := h
  exact hs.ok
theorem Tal.new (w : World) : Calls Try.prog 23 #[] w fun e w' => e = .returned (.pointer (some ⟨w.heap.size + 2, 0, none⟩)) ∧ Tal w' (fun b => w.heap.size ≤ b) (w.heap.size + 2) 0 [] ∧ Below w.heap.size w w' :=
  (new_any w).mono fun e w' ⟨he, ht, hb⟩ => ⟨he, ⟨0, _, _, .nil, 0, 0, _, _, Nat.le_refl _, ht, nil_st⟩, hb⟩
theorem Tal.add (h : Tal w S g n L) (x : Val) (hn : n < 1099511627776) (hS : ∀ b, w.heap.size ≤ b → S b) : Calls Try.prog 14 #[.pointer (some ⟨g, 0, none⟩), vv x] w fun e w' => e = .returned (.int .i64 (addE L x)) ∧ Tal w' S g (n + 1) (addL L x) ∧ Keeps S w w' := by
  have h0 := h
  obtain ⟨n', bg, mb, t, hi, lo, v, m, hn', ht, hs⟩ := h
  obtain ⟨k, y, s, b, c⟩ := x
  unfold addE addL
  by_cases hx : okV (k, y, s, b, c) = true
  · rw [if_pos hx]
    by_cases hf : L.length < 4096
    · rw [if_pos hf, if_pos ⟨hx, hf⟩]
      obtain ⟨j, rfl⟩ : ∃ j : Nat, k = (j : Int) := ⟨k.toNat, by have := kind_range hx; omega⟩
      exact (add_yes ht j y s b c hs hx hf (by omega) hS).mono fun e w' ⟨he, hT, hK⟩ => ⟨he, hT.more (by omega), hK⟩
    · rw [if_neg hf, if_neg (fun z => hf z.2)]
      have hv := hs.vec 15 (by decide)
      rw [all_slot] at hv
      exact (add_big ht k y s b c hx (by omega)).mono fun e w' ⟨he, hb⟩ => ⟨he, (h0.below hb).more (Nat.le_succ n), Keeps.of_below hb⟩
  · rw [if_neg hx, if_neg (fun z => hx z.1)]
    exact (add_bad ht k y s b c ((Bool.not_eq_true _).mp hx)).mono fun e w' ⟨he, hb⟩ => ⟨he, (h0.below hb).more (Nat.le_succ n), Keeps.of_below hb⟩
theorem Tal.drop (h : Tal w S g n L) (x : Val) (hn : n < 1099511627776) (hS : ∀ b, w.heap.size ≤ b → S b) : Calls Try.prog 15 #[.pointer (some ⟨g, 0, none⟩), vv x] w fun e w' => e = .returned (.int .i64 (dropE L x)) ∧ Tal w' S g (n + 1) (dropL L x) ∧ Keeps S w w' := by
  have h0 := h
  obtain ⟨n', bg, mb, t, hi, lo, v, m, hn', ht, hs⟩ := h
  obtain ⟨k, y, s, b, c⟩ := x
  unfold dropE dropL
  by_cases hx : okV (k, y, s, b, c) = true
  · rw [if_pos hx]
    by_cases hf : cnt L (held (k, y, s, b, c)) = 0
    · rw [if_pos hf, if_neg (fun z => z.2 hf)]
      exact (drop_none ht hs k y s b c hx hf).mono fun e w' ⟨he, hb⟩ => ⟨he, (h0.below hb).more (Nat.le_succ n), Keeps.of_below hb⟩
    · rw [if_neg hf, if_pos ⟨hx, hf⟩]
      obtain ⟨j, rfl⟩ : ∃ j : Nat, k = (j : Int) := ⟨k.toNat, by have := kind_range hx; omega⟩
      exact (drop_yes ht j y s b c (hs.perm (takeOut_perm hf)) hx (by omega) hS).mono fun e w' ⟨he, hT, hK⟩ => ⟨he, hT.more (by omega), hK⟩
  · rw [if_neg hx, if_neg (fun z => hx z.1)]
    exact (drop_bad ht k y s b c ((Bool.not_eq_true _).mp hx)).mono fun e w' ⟨he, hb⟩ => ⟨he, (h0.below hb).more (Nat.le_succ n), Keeps.of_below hb⟩
section
variable (h : Tal w S g n L)
include h
theorem Tal.often (x : Val) : Calls Try.prog 20 #[.pointer (some ⟨g, 0, none⟩), vv x] w fun e w' => e = .returned (.int .i64 (oftenR L x : Nat)) ∧ Below w.heap.size w w' := by
  obtain ⟨n', bg, mb, t, hi, lo, v, m, hn', ht, hs⟩ := h
  obtain ⟨k, y, s, b, c⟩ := x
  unfold oftenR
  by_cases hx : okV (k, y, s, b, c) = true
  · rw [if_pos hx]
    exact often_yes ht hs k y s b c hx
  · rw [if_neg hx]
    exact often_no ht k y s b c ((Bool.not_eq_true _).mp hx)
theorem Tal.count (k : Int) : Calls Try.prog 16 #[.pointer (some ⟨g, 0, none⟩), .int .i64 k] w fun e w' => e = .returned (.int .i64 (kindR L k : Nat)) ∧ w = w' := by
  obtain ⟨n', bg, mb, t, hi, lo, v, m, hn', ht, hs⟩ := h
  by_cases hk : k < 0 ∨ 4 < k
  · have e : kindR L k = 0 := List.countP_eq_zero.2 (fun x hx => by
      have := okK (hs.ok x hx)
      rw [decide_eq_true_iff]
      omega)
    rw [e]
    exact count_out ht k hk
  · obtain ⟨j, rfl⟩ : ∃ j : Nat, k = (j : Int) := ⟨k.toNat, by omega⟩
    have e := count_k w S g bg mb t hi lo v n' m ht j (by omega)
    rwa [hs.kinds j (by omega)] at e
theorem Tal.all : Calls Try.prog 17 #[.pointer (some ⟨g, 0, none⟩)] w fun e w' => e = .returned (.int .i64 (L.length : Nat)) ∧ w = w' := by
  obtain ⟨n', bg, mb, t, hi, lo, v, m, hn', ht, hs⟩ := h
  have e := all_any ht
  rwa [hs.vec 15 (by decide), all_slot] at e
theorem Tal.fault : Calls Try.prog 18 #[.pointer (some ⟨g, 0, none⟩)] w fun e w' => e = .returned (.int .i64 (faultR L : Nat)) ∧ w = w' := by
  obtain ⟨n', bg, mb, t, hi, lo, v, m, hn', ht, hs⟩ := h
  exact fault_any ht hs
theorem Tal.belows (x : Int) : Calls Try.prog 19 #[.pointer (some ⟨g, 0, none⟩), .int .i64 x] w fun e w' => e = .returned (.int .i64 (belowR L x : Nat)) ∧ Below w.heap.size w w' := by
  obtain ⟨n', bg, mb, t, hi, lo, v, m, hn', ht, hs⟩ := h
  have h1 := hs.tot
  have h2 := numsL_length L
  have h3 := hs.few
  have e := tbelow_any ht x (by omega)
  rwa [below_row x hs.srt, hs.row.countP_eq] at e
theorem Tal.height : ∃ t, Bal t ∧ Pos t ∧ Srt t ∧ (row t).Perm (numsL L) ∧ Calls Try.prog 21 #[.pointer (some ⟨g, 0, none⟩)] w fun e w' => e = .returned (.int .i64 (highT t : Nat)) ∧ Below w.heap.size w w' := by
  obtain ⟨n', bg, mb, t, hi, lo, v, m, hn', ht, hs⟩ := h
  have h1 := hs.tot
  have h2 := numsL_length L
  have h3 := hs.few
  have h4 := siz_tot t hs.pos
  exact ⟨t, hs.bal, hs.pos, hs.srt, hs.row, theight_any ht (by omega)⟩
theorem Tal.sum : Calls Try.prog 9 #[.pointer (some ⟨g, 0, none⟩)] w fun e w' => e = .returned (.tuple #[.int .i64 (toldR L (sumR L)).1, .int .i64 (toldR L (sumR L)).2]) ∧ Below w.heap.size w w' := by
  obtain ⟨n', bg, mb, t, hi, lo, v, m, hn', ht, hs⟩ := h
  exact sum_any ht hs
theorem Tal.mean : Calls Try.prog 10 #[.pointer (some ⟨g, 0, none⟩)] w fun e w' => e = .returned (.tuple #[.int .i64 (toldR L (meanR L)).1, .int .i64 (toldR L (meanR L)).2]) ∧ Below w.heap.size w w' := by
  obtain ⟨n', bg, mb, t, hi, lo, v, m, hn', ht, hs⟩ := h
  exact mean_any ht hs
theorem Tal.small (k : Int) : Calls Try.prog 11 #[.pointer (some ⟨g, 0, none⟩), .int .i64 k] w fun e w' => e = .returned (.tuple #[.int .i64 (toldR L (smallR L k)).1, .int .i64 (toldR L (smallR L k)).2]) ∧ Below w.heap.size w w' := by
  obtain ⟨n', bg, mb, t, hi, lo, v, m, hn', ht, hs⟩ := h
  exact small_any ht hs k
theorem Tal.median : Calls Try.prog 12 #[.pointer (some ⟨g, 0, none⟩)] w fun e w' => e = .returned (.tuple #[.int .i64 (toldR L (midR L)).1, .int .i64 (toldR L (midR L)).2]) ∧ Below w.heap.size w w' := by
  obtain ⟨n', bg, mb, t, hi, lo, v, m, hn', ht, hs⟩ := h
  exact mid_any ht hs
theorem Tal.least : Calls Try.prog 13 #[.pointer (some ⟨g, 0, none⟩)] w fun e w' => e = .returned (.tuple #[.int .i64 (toldR L (endR L 0)).1, .int .i64 (toldR L (endR L 0)).2]) ∧ Below w.heap.size w w' := by
  obtain ⟨n', bg, mb, t, hi, lo, v, m, hn', ht, hs⟩ := h
  exact least_any ht hs
theorem Tal.greatest : Calls Try.prog 31 #[.pointer (some ⟨g, 0, none⟩)] w fun e w' => e = .returned (.tuple #[.int .i64 (toldR L (endR L ((numsL L).length - 1))).1, .int .i64 (toldR L (endR L ((numsL L).length - 1))).2]) ∧ Below w.heap.size w w' := by
  obtain ⟨n', bg, mb, t, hi, lo, v, m, hn', ht, hs⟩ := h
  exact greatest_any ht hs
end
end
end Go.Proofs.Ytjhinakfoejpbaa.T

/- A row of values; a tally of it. No condition stands open. -/
namespace Go.Proofs.Ytjhinakfoejpbaa.T
open Go.RowKit Go.Proofs.Ytjhinakfoejpbaa.WPure Go.Proofs.YtjhinakfoejpbaaW.PrintWords Go.Proofs.YtjhinakfoejpbaaW.PrintLast Go.Proofs.YtjhinakfoejpbaaW.PrintMore
/-- a row of values -/
def VRow (w : World) (A : Option Addr) (n : Nat) (l : List Val) : Prop :=
  l.length = n ∧ n ≤ 9223372036854775807 ∧ (0 < n → ∃ ad, A = some ad ∧ ∀ j x, l[j]? = some x → w.cell? (ad.add (j * 5)) = some (.int .i64 x.1) ∧ w.cell? (ad.add (j * 5 + 1)) = some (.int .i64 x.2.1) ∧ w.cell? (ad.add (j * 5 + 2)) = some (.string x.2.2.1) ∧ w.cell? (ad.add (j * 5 + 3)) = some (.bool x.2.2.2.1) ∧ w.cell? (ad.add (j * 5 + 4)) = some (.int .i64 x.2.2.2.2))
theorem VRow.below {w w' : World} {A : Option Addr} {n : Nat} {l : List Val} (h : VRow w A n l) (hb : Below w.heap.size w w') : VRow w' A n l :=
  ⟨h.1, h.2.1, fun hn => by
    obtain ⟨ad, e, hc⟩ := h.2.2 hn
    refine ⟨ad, e, fun j x hj => ?_⟩
    obtain ⟨h0, h1, h2, h3, h4⟩ := hc j x hj
    exact ⟨pw_cell_below hb h0, pw_cell_below hb h1, pw_cell_below hb h2, pw_cell_below hb h3, pw_cell_below hb h4⟩⟩
theorem add_oks {L : List Val} {x : Val} (hx : okV x = true) (hf : L.length < 4096) : addE L x = 0 ∧ addL L x = held x :: L := ⟨by unfold addE; rw [if_pos hx, if_pos hf], by unfold addL; rw [if_pos ⟨hx, hf⟩]⟩
/-- the values of a row, the last one first -/
def heldR (l : List Val) : List Val := (l.map held).reverse
theorem heldR_take {l : List Val} {i : Nat} {x : Val} (h : l[i]? = some x) : heldR (l.take (i + 1)) = held x :: heldR (l.take i) := by
  unfold heldR
  rw [List.take_add_one, h]
  simp
theorem heldR_len (l : List Val) : (heldR l).length = l.length := by simp [heldR]
set_option maxHeartbeats 4000000 in
set_option maxRecDepth 100000 in
theorem of_any {w : World} {A : Option Addr} {n cap : Nat} {l : List Val} (h : VRow w A n l) (hok : ∀ x ∈ l, okV x = true) (hl : n ≤ 4096) : Calls Try.prog 58 #[.slice A n cap] w fun e w' => ∃ g, e = .returned (.pointer (some ⟨g, 0, none⟩)) ∧ Tal w' (fun b => w.heap.size ≤ b) g n (heldR l) ∧ Below w.heap.size w w' := by
  have H := Lib.hid h
  have HO := Lib.hid hok
  have HL := Lib.hid hl
  have hu55 := Try.underlying55
  clear h hok hl
  go_enter Try.func58, Try.ntmps58
  go_wp2_with (go_at_call 23; refine (Tal.new w).mono ?_; rintro e w1 ⟨rfl, ht, hb⟩; have T1 := Lib.hid ht; have B1 := Lib.hid hb; clear ht hb)
  have T2 : Hid (Tal w1 (fun b => w.heap.size ≤ b) (w.heap.size + 2) 0 (heldR (l.take 0))) := T1.out
  obtain ⟨g, hg⟩ : ∃ g, w.heap.size + 2 = g := ⟨_, rfl⟩
  rw [hg] at T2 ⊢
  clear T1 hg
  go_loopg [4] n (fun kq v wr => ∃ i : Nat, v = .int .i64 (i : Int) ∧ Hid (i + kq = n) ∧ Hid (Tal wr (fun b => w.heap.size ≤ b) g i (heldR (l.take i))) ∧ Hid (Below w.heap.size w wr))
  case atStart => exact ⟨0, rfl, (Nat.zero_add n : 0 + n = n), T2, B1⟩
  case round =>
    clear T2 B1
    obtain ⟨i, rfl, hi, hT, hB⟩ := hrel
    by_cases hlt : i < n
    · have hi2 : i < l.length := by have := H.out.1; omega
      obtain ⟨x, hx⟩ : ∃ x, l[i]? = some x := ⟨_, List.getElem?_eq_getElem hi2⟩
      obtain ⟨ad, rfl, hc⟩ := (H.out.below hB.out).2.2 (by omega)
      obtain ⟨c0, c1, c2, c3, c4⟩ := hc i x hx
      rw [add_field _ _ _ (by decide)] at c1 c2 c3 c4
      have n0 : ((i : Int)).toNat = i := Int.toNat_natCast i
      have p0 : (0 : Int) ≤ (i : Int) := Int.natCast_nonneg i
      have l0 : (i : Int) < (n : Int) := by omega
      have d0 : decide ((i : Int) < (n : Int)) = true := decide_eq_true l0
      have d1 : i < n := hlt
      have wi : wrap64 ((i : Int) + 1) = (i : Int) + 1 := by have := H.out.2.1; unfold wrap64; omega
      have hxo := HO.out x (List.mem_of_getElem? hx)
      have hf : (heldR (l.take i)).length < 4096 := by rw [heldR_len, List.length_take]; have := HL.out; omega
      have HE : Hid (addE (heldR (l.take i)) x = 0 ∧ addL (heldR (l.take i)) x = heldR (l.take (i + 1))) := ⟨(add_oks hxo hf).1, (add_oks hxo hf).2.trans (heldR_take hx).symm⟩
      have HLN := Lib.hid hlt
      have HI : Hid (i < 4096) := by have := HL.out; show _ < _; omega
      clear hc hx hi2 hxo hf hlt
      go_wp2_with (go_at_call 14; refine (hT.out.add x (Nat.lt_trans HI.out (by decide)) (fun b hb => Nat.le_trans hB.out.size hb)).mono ?_; rw [HE.out.1, HE.out.2]; rintro e w2 ⟨rfl, ht, hk⟩; have T3 := Lib.hid ht; have B3 : Hid (Below w.heap.size w w2) := hB.out.trans (hk.below hB.out.size (fun k hk => hk)); clear ht hk)
      go_roundg (gk - 1)
      case measure => have := hi.out; have := HLN.out; omega
      case rel => exact ⟨i + 1, congrArg _ wi, (by have := hi.out; have := HLN.out; omega : i + 1 + (gk - 1) = n), T3, B3⟩
    · have e : i = n := by have := hi.out; omega
      have d0 : decide ((i : Int) < (n : Int)) = false := decide_eq_false (by omega)
      have d1 : ¬ i < n := hlt
      have HT2 : Hid (Tal wr (fun b => w.heap.size ≤ b) g n (heldR l)) := by have h2 := hT.out; rw [e, ← H.out.1, List.take_length, H.out.1] at h2; exact h2
      clear hT hi hlt H e
      go_wp2
      go_ret
      exact ⟨g, rfl, HT2.out, hB.out⟩
end Go.Proofs.Ytjhinakfoejpbaa.T

/- The document's examples. No condition stands open. -/
namespace Go.Proofs.Ytjhinakfoejpbaa.T
open Go.RowKit Go.Proofs.Ytjhinakfoejpbaa.WPure Go.Proofs.YtjhinakfoejpbaaW.PrintWords Go.Proofs.YtjhinakfoejpbaaW.PrintLast Go.Proofs.YtjhinakfoejpbaaW.PrintMore
abbrev numV (n : Int) : Val := (1, n, ⟨#[]⟩, false, 0)
theorem number_any (n : Int) (w : World) : Calls Try.prog 24 #[.int .i64 n] w fun e w' => e = .returned (.agg #[.int .i64 1, .int .i64 n, .string ⟨#[]⟩, .bool false, .int .i64 0]) ∧ Below w.heap.size w w' := PG.foolscaplaw20_number.calls n _ _ _ _ _ w rfl
theorem text_any (s : ByteArray) (w : World) : Calls Try.prog 59 #[.string s] w fun e w' => e = .returned (.agg #[.int .i64 2, .int .i64 0, .string s, .bool false, .int .i64 0]) ∧ Below w.heap.size w w' := PG.foolscaplaw20_text.calls s _ _ _ _ _ w rfl
theorem faultv_any (n : Int) (w : World) : Calls Try.prog 60 #[.int .i64 n] w fun e w' => e = .returned (.agg #[.int .i64 4, .int .i64 0, .string ⟨#[]⟩, .bool false, .int .i64 n]) ∧ Below w.heap.size w w' := PG.foolscaplaw20_fault.calls n _ _ _ _ _ w rfl
def LI : List Val := [numV 5, numV 1, (2, 0, ⟨#[120]⟩, false, 0), numV 1, (3, 0, ⟨#[]⟩, true, 0)]
def L0 : List Val := [(3, 0, ⟨#[]⟩, true, 0), numV 1, (2, 0, ⟨#[88]⟩, false, 0), numV 1, numV 5]
def L1 : List Val := (4, 0, ⟨#[]⟩, false, 6) :: L0
def L2 : List Val := [(3, 0, ⟨#[]⟩, true, 0), numV 1, (2, 0, ⟨#[88]⟩, false, 0), numV 1]
theorem li_ok : ∀ x ∈ LI, okV x = true := by decide +kernel
theorem li_held : heldR LI = L0 := by decide +kernel
structure T0 (w : World) (S : Nat → Prop) (g n : Nat) : Prop where
  h : Tal w S g n L0
structure T1 (w : World) (S : Nat → Prop) (g n : Nat) : Prop where
  h : Tal w S g n L1
structure T2 (w : World) (S : Nat → Prop) (g n : Nat) : Prop where
  h : Tal w S g n L2
section
variable {w w' : World} {S : Nat → Prop} {g n : Nat}
theorem T0.below (h : T0 w S g n) (k : Below w.heap.size w w') : T0 w' S g n := ⟨h.h.below k⟩
theorem T1.below (h : T1 w S g n) (k : Below w.heap.size w w') : T1 w' S g n := ⟨h.h.below k⟩
theorem T2.below (h : T2 w S g n) (k : Below w.heap.size w w') : T2 w' S g n := ⟨h.h.below k⟩
theorem live1 (h : T0 w S g n) : Calls Try.prog 9 #[.pointer (some ⟨g, 0, none⟩)] w fun e w' => e = .returned (.tuple #[.int .i64 7, .int .i64 0]) ∧ Below w.heap.size w w' := by
  have e := h.h.sum
  rwa [show toldR L0 (sumR L0) = (7, 0) by decide +kernel] at e
theorem live2 (h : T0 w S g n) : Calls Try.prog 12 #[.pointer (some ⟨g, 0, none⟩)] w fun e w' => e = .returned (.tuple #[.int .i64 1, .int .i64 0]) ∧ Below w.heap.size w w' := by
  have e := h.h.median
  rwa [show toldR L0 (midR L0) = (1, 0) by decide +kernel] at e
theorem live3 (h : T0 w S g n) : Calls Try.prog 11 #[.pointer (some ⟨g, 0, none⟩), .int .i64 3] w fun e w' => e = .returned (.tuple #[.int .i64 5, .int .i64 0]) ∧ Below w.heap.size w w' := by
  have e := h.h.small 3
  rwa [show toldR L0 (smallR L0 3) = (5, 0) by decide +kernel] at e
theorem live4 (h : T0 w S g n) : Calls Try.prog 17 #[.pointer (some ⟨g, 0, none⟩)] w fun e w' => e = .returned (.int .i64 5) ∧ w = w' := h.h.all
theorem live5 (h : T0 w S g n) : Calls Try.prog 16 #[.pointer (some ⟨g, 0, none⟩), .int .i64 1] w fun e w' => e = .returned (.int .i64 3) ∧ w = w' := by
  have e := h.h.count 1
  rwa [show kindR L0 1 = 3 by decide +kernel] at e
theorem live6 (h : T0 w S g n) : Calls Try.prog 19 #[.pointer (some ⟨g, 0, none⟩), .int .i64 5] w fun e w' => e = .returned (.int .i64 2) ∧ Below w.heap.size w w' := by
  have e := h.h.belows 5
  rwa [show belowR L0 5 = 2 by decide +kernel] at e
theorem live7 (h : T0 w S g n) : Calls Try.prog 20 #[.pointer (some ⟨g, 0, none⟩), .agg #[.int .i64 1, .int .i64 1, .string ⟨#[]⟩, .bool false, .int .i64 0]] w fun e w' => e = .returned (.int .i64 2) ∧ Below w.heap.size w w' := by
  have e := h.h.often (numV 1)
  rwa [show oftenR L0 (numV 1) = 2 by decide +kernel] at e
theorem live8 (h : T0 w S g n) (hn : n < 1099511627776) (hS : ∀ b, w.heap.size ≤ b → S b) : Calls Try.prog 14 #[.pointer (some ⟨g, 0, none⟩), .agg #[.int .i64 4, .int .i64 0, .string ⟨#[]⟩, .bool false, .int .i64 6]] w fun e w' => e = .returned (.int .i64 0) ∧ T1 w' S g (n + 1) ∧ Keeps S w w' := by
  have e := h.h.add (4, 0, ⟨#[]⟩, false, 6) hn hS
  rw [show addE L0 (4, 0, ⟨#[]⟩, false, 6) = 0 by decide +kernel, show addL L0 (4, 0, ⟨#[]⟩, false, 6) = L1 by decide +kernel] at e
  exact e.mono fun _ _ ⟨h1, h2, h3⟩ => ⟨h1, ⟨h2⟩, h3⟩
theorem live9 (h : T1 w S g n) : Calls Try.prog 9 #[.pointer (some ⟨g, 0, none⟩)] w fun e w' => e = .returned (.tuple #[.int .i64 0, .int .i64 6]) ∧ Below w.heap.size w w' := by
  have e := h.h.sum
  rwa [show toldR L1 (sumR L1) = (0, 6) by decide +kernel] at e
theorem live10 (h : T1 w S g n) (hn : n < 1099511627776) (hS : ∀ b, w.heap.size ≤ b → S b) : Calls Try.prog 15 #[.pointer (some ⟨g, 0, none⟩), .agg #[.int .i64 4, .int .i64 0, .string ⟨#[]⟩, .bool false, .int .i64 6]] w fun e w' => e = .returned (.int .i64 0) ∧ T0 w' S g (n + 1) ∧ Keeps S w w' := by
  have e := h.h.drop (4, 0, ⟨#[]⟩, false, 6) hn hS
  rw [show dropE L1 (4, 0, ⟨#[]⟩, false, 6) = 0 by decide +kernel, show dropL L1 (4, 0, ⟨#[]⟩, false, 6) = L0 by decide +kernel] at e
  exact e.mono fun _ _ ⟨h1, h2, h3⟩ => ⟨h1, ⟨h2⟩, h3⟩
theorem live11 (h : T0 w S g n) (hn : n < 1099511627776) (hS : ∀ b, w.heap.size ≤ b → S b) : Calls Try.prog 15 #[.pointer (some ⟨g, 0, none⟩), .agg #[.int .i64 1, .int .i64 5, .string ⟨#[]⟩, .bool false, .int .i64 0]] w fun e w' => e = .returned (.int .i64 0) ∧ T2 w' S g (n + 1) ∧ Keeps S w w' := by
  have e := h.h.drop (numV 5) hn hS
  rw [show dropE L0 (numV 5) = 0 by decide +kernel, show dropL L0 (numV 5) = L2 by decide +kernel] at e
  exact e.mono fun _ _ ⟨h1, h2, h3⟩ => ⟨h1, ⟨h2⟩, h3⟩
theorem live12 (h : T2 w S g n) : Calls Try.prog 31 #[.pointer (some ⟨g, 0, none⟩)] w fun e w' => e = .returned (.tuple #[.int .i64 1, .int .i64 0]) ∧ Below w.heap.size w w' := by
  have e := h.h.greatest
  rwa [show toldR L2 (endR L2 ((numsL L2).length - 1)) = (1, 0) by decide +kernel] at e
end
theorem li_row {w : World} {q : Nat} (h : w.heap[q]? = some (.cells #[.int .i64 1, .int .i64 5, .string ⟨#[]⟩, .bool false, .int .i64 0, .int .i64 1, .int .i64 1, .string ⟨#[]⟩, .bool false, .int .i64 0, .int .i64 2, .int .i64 0, .string ⟨#[120]⟩, .bool false, .int .i64 0, .int .i64 1, .int .i64 1, .string ⟨#[]⟩, .bool false, .int .i64 0, .int .i64 3, .int .i64 0, .string ⟨#[]⟩, .bool true, .int .i64 0] 25 (0, 0))) : VRow w (some ⟨q, 0, none⟩) 5 LI := by
  refine ⟨rfl, by decide, fun _ => ⟨_, rfl, fun j x hj => ?_⟩⟩
  simp only [add_plain, blk_cell h]
  rcases j with _ | _ | _ | _ | _ | j
  all_goals first | (obtain rfl := Option.some.inj hj; exact ⟨rfl, rfl, rfl, rfl, rfl⟩) | cases hj
set_option maxHeartbeats 4000000 in
set_option maxRecDepth 100000 in
theorem lives_any (w : World) : Calls Try.prog 22 #[] w fun e w' => e = .returned (.bool true) ∧ Below w.heap.size w w' := by
  have hu25 := Try.underlying25
  have hu55 := Try.underlying55
  have HB := Lib.hid (Below.refl w.heap.size w)
  go_enter Try.func22, Try.ntmps22
  go_upto_region 2 with (first | (go_at_call 24; refine (number_any _ _).mono ?_; rintro e w' ⟨rfl, hb⟩; have n0_ := Lib.hid (HB.out.trans (hb.mono HB.out.size)); clear HB hb; have HB := n0_; clear n0_) | (go_at_call 59; refine (text_any _ _).mono ?_; rintro e w' ⟨rfl, hb⟩; have n0_ := Lib.hid (HB.out.trans (hb.mono HB.out.size)); clear HB hb; have HB := n0_; clear n0_))
  refine (of_any (li_row (heap_alloc_new _ _)) li_ok (by decide)).mono ?_
  rintro e w2 ⟨g, rfl, ht, hb⟩
  have B1 := HB.out.alloc HB.out.size (.cells #[.int .i64 1, .int .i64 5, .string ⟨#[]⟩, .bool false, .int .i64 0, .int .i64 1, .int .i64 1, .string ⟨#[]⟩, .bool false, .int .i64 0, .int .i64 2, .int .i64 0, .string ⟨#[120]⟩, .bool false, .int .i64 0, .int .i64 1, .int .i64 1, .string ⟨#[]⟩, .bool false, .int .i64 0, .int .i64 3, .int .i64 0, .string ⟨#[]⟩, .bool true, .int .i64 0] 25)
  rw [li_held] at ht
  have H := Lib.hid (T0.mk (ht.narrow (S' := fun b => w.heap.size ≤ b) (fun b h1 _ => Nat.le_trans B1.size h1)))
  have n0_ := Lib.hid (B1.trans (hb.mono B1.size))
  clear HB ht hb B1
  have HB := n0_
  clear n0_
  go_upto_region 12 with (first | (go_at_call 24; refine (number_any _ _).mono ?_; rintro e w5 ⟨rfl, hb⟩; have n0_ := Lib.hid (HB.out.trans (hb.mono HB.out.size)); have n1_ := Lib.hid (H.out.below hb); clear H HB hb; have H := n1_; have HB := n0_; clear n0_ n1_) | (go_at_call 60; refine (faultv_any _ _).mono ?_; rintro e w5 ⟨rfl, hb⟩; have n0_ := Lib.hid (HB.out.trans (hb.mono HB.out.size)); have n1_ := Lib.hid (H.out.below hb); clear H HB hb; have H := n1_; have HB := n0_; clear n0_ n1_) | (go_at_call 9; refine (live1 H.out).mono ?_; rintro e w5 ⟨rfl, hb⟩; have n0_ := Lib.hid (HB.out.trans (hb.mono HB.out.size)); have n1_ := Lib.hid (H.out.below hb); clear H HB hb; have H := n1_; have HB := n0_; clear n0_ n1_) | (go_at_call 9; refine (live9 H.out).mono ?_; rintro e w5 ⟨rfl, hb⟩; have n0_ := Lib.hid (HB.out.trans (hb.mono HB.out.size)); have n1_ := Lib.hid (H.out.below hb); clear H HB hb; have H := n1_; have HB := n0_; clear n0_ n1_) | (go_at_call 12; refine (live2 H.out).mono ?_; rintro e w5 ⟨rfl, hb⟩; have n0_ := Lib.hid (HB.out.trans (hb.mono HB.out.size)); have n1_ := Lib.hid (H.out.below hb); clear H HB hb; have H := n1_; have HB := n0_; clear n0_ n1_) | (go_at_call 11; refine (live3 H.out).mono ?_; rintro e w5 ⟨rfl, hb⟩; have n0_ := Lib.hid (HB.out.trans (hb.mono HB.out.size)); have n1_ := Lib.hid (H.out.below hb); clear H HB hb; have H := n1_; have HB := n0_; clear n0_ n1_) | (go_at_call 17; refine (live4 H.out).mono ?_; rintro e w5 ⟨rfl, rfl⟩) | (go_at_call 16; refine (live5 H.out).mono ?_; rintro e w5 ⟨rfl, rfl⟩) | (go_at_call 19; refine (live6 H.out).mono ?_; rintro e w5 ⟨rfl, hb⟩; have n0_ := Lib.hid (HB.out.trans (hb.mono HB.out.size)); have n1_ := Lib.hid (H.out.below hb); clear H HB hb; have H := n1_; have HB := n0_; clear n0_ n1_) | (go_at_call 20; refine (live7 H.out).mono ?_; rintro e w5 ⟨rfl, hb⟩; have n0_ := Lib.hid (HB.out.trans (hb.mono HB.out.size)); have n1_ := Lib.hid (H.out.below hb); clear H HB hb; have H := n1_; have HB := n0_; clear n0_ n1_) | (go_at_call 14; refine (live8 H.out (by decide) (fun b hb => Nat.le_trans HB.out.size hb)).mono ?_; rintro e w5 ⟨rfl, ht, hk⟩; have n0_ := Lib.hid (HB.out.trans (hk.below HB.out.size (fun k hk => hk))); have n1_ := Lib.hid ht; clear H HB ht hk; have H := n1_; have HB := n0_; clear n0_ n1_) | (go_at_call 15; refine (live10 H.out (by decide) (fun b hb => Nat.le_trans HB.out.size hb)).mono ?_; rintro e w5 ⟨rfl, ht, hk⟩; have n0_ := Lib.hid (HB.out.trans (hk.below HB.out.size (fun k hk => hk))); have n1_ := Lib.hid ht; clear H HB ht hk; have H := n1_; have HB := n0_; clear n0_ n1_) | (go_at_call 15; refine (live11 H.out (by decide) (fun b hb => Nat.le_trans HB.out.size hb)).mono ?_; rintro e w5 ⟨rfl, ht, hk⟩; have n0_ := Lib.hid (HB.out.trans (hk.below HB.out.size (fun k hk => hk))); have n1_ := Lib.hid ht; clear H HB ht hk; have H := n1_; have HB := n0_; clear n0_ n1_) | (go_at_call 31; refine (live12 H.out).mono ?_; rintro e w5 ⟨rfl, hb⟩; have n0_ := Lib.hid (HB.out.trans (hb.mono HB.out.size)); have n1_ := Lib.hid (H.out.below hb); clear H HB hb; have H := n1_; have HB := n0_; clear n0_ n1_))
  clear H hu25 hu55
  go_wp2
  go_ret
  exact ⟨rfl, HB.out⟩
end Go.Proofs.Ytjhinakfoejpbaa.T

/- Values that are handed in, opened. No condition stands open. -/
namespace Go.Proofs.Ytjhinakfoejpbaa.T
open Go.ChangeShapes Go.WideShapes Go.ChangeAt Go.RowKit Go.Joins
theorem array5 {α : Type} {cs : Array α} (h : cs.size = 5) : ∃ c0 c1 c2 c3 c4, cs = #[c0, c1, c2, c3, c4] := by
  obtain ⟨l⟩ := cs
  match l, h with
  | [c0, c1, c2, c3, c4], _ => exact ⟨c0, c1, c2, c3, c4, rfl⟩
theorem cells25 : Try.prog.cellsOf 25 = 5 := by kernel_rfl
theorem cells22 : Try.prog.cellsOf 22 = 1 := by kernel_rfl
theorem cells3 : Try.prog.cellsOf 3 = 1 := by kernel_rfl
theorem cells9 : Try.prog.cellsOf 9 = 1 := by kernel_rfl
theorem cells4 : Try.prog.cellsOf 4 = 1 := by kernel_rfl
theorem cells23 : Try.prog.cellsOf 23 = 1 := by kernel_rfl
section
variable {H : Type} {enc : TypeId × Value → H} {w : World} {base : Nat} {spare : Nat → Bool} {held : Bool}
theorem trod_struct5 {P : Program} {t : TypeId} {f0 f1 f2 f3 f4 : Field} {fuel : Nat} {cs : List Value} {x : DataW H × List MemPlace} (ht : P.underlying t = some (.struct #[f0, f1, f2, f3, f4])) (h : DataW.trod enc P w base spare held fuel t cs = some x) :
    ∃ y0 y1 y2 y3 y4 n, DataW.trod enc P w base spare held n f0.type ((cs.drop f0.offset).take (P.cellsOf f0.type)) = some y0 ∧ DataW.trod enc P w base spare held n f1.type ((cs.drop f1.offset).take (P.cellsOf f1.type)) = some y1 ∧ DataW.trod enc P w base spare held n f2.type ((cs.drop f2.offset).take (P.cellsOf f2.type)) = some y2 ∧
      DataW.trod enc P w base spare held n f3.type ((cs.drop f3.offset).take (P.cellsOf f3.type)) = some y3 ∧ DataW.trod enc P w base spare held n f4.type ((cs.drop f4.offset).take (P.cellsOf f4.type)) = some y4 := by
  obtain ⟨xs, n, _, rfl, hl, hlen, hf⟩ := DataW.trod_struct ht h
  match xs, hlen with
  | [y0, y1, y2, y3, y4], _ => exact ⟨y0, y1, y2, y3, y4, n, by simpa using hf 0 f0 rfl, by simpa using hf 1 f1 rfl, by simpa using hf 2 f2 rfl, by simpa using hf 3 f3 rfl, by simpa using hf 4 f4 rfl⟩
theorem trod_val {fuel : Nat} {c0 c1 c2 c3 c4 : Value} {x : DataW H × List MemPlace} (h : DataW.trod enc Try.prog w base spare held fuel 25 [c0, c1, c2, c3, c4] = some x) :
    ∃ (k n : Int) (s : ByteArray) (b : Bool) (c : Int), c0 = .int .i64 k ∧ c1 = .int .i64 n ∧ c2 = .string s ∧ c3 = .bool b ∧ c4 = .int .i64 c := by
  obtain ⟨y0, y1, y2, y3, y4, n, h0, h1, h2, h3, h4⟩ := trod_struct5 Try.underlying25 h
  obtain ⟨k, q0, _⟩ := DataW.trod_int Try.underlying22 h0
  obtain ⟨n1, q1, _⟩ := DataW.trod_int Try.underlying3 h1
  obtain ⟨s, q2, _⟩ := DataW.trod_string Try.underlying9 h2
  obtain ⟨b, q3, _⟩ := DataW.trod_bool Try.underlying4 h3
  obtain ⟨c, q4, _⟩ := DataW.trod_int Try.underlying23 h4
  simp only [cells22, cells3, cells9, cells4, cells23] at q0 q1 q2 q3 q4
  exact ⟨k, n1, s, b, c, by simpa using q0, by simpa using q1, by simpa using q2, by simpa using q3, by simpa using q4⟩
set_option maxRecDepth 100000 in
theorem open_val {r : Reach} {b0 : Nat} {v : Value} {d : DataW H} {p : List MemPlace} (hv : Value.okWide Try.prog w r b0 25 v) (h : DataW.Trod enc Try.prog w base spare held 25 v d p) :
    ∃ (k n : Int) (s : ByteArray) (b : Bool) (c : Int), v = .agg #[.int .i64 k, .int .i64 n, .string s, .bool b, .int .i64 c] := by
  obtain ⟨cs, rfl, hsz⟩ := okWide_struct Try.underlying25 hv
  obtain ⟨c0, c1, c2, c3, c4, rfl⟩ := array5 (hsz.trans cells25)
  obtain ⟨fuel, hf⟩ := h
  obtain ⟨k, n, s, b, c, rfl, rfl, rfl, rfl, rfl⟩ := trod_val hf
  exact ⟨k, n, s, b, c, rfl⟩
end
end Go.Proofs.Ytjhinakfoejpbaa.T
