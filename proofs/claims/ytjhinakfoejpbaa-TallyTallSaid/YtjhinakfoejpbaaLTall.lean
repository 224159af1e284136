/- TallyTall: whatever is handed in, the call returns true, and nothing that lay there is turned. No condition stands open beyond what it reads. -/
import Derived.Test.YtjhinakfoejpbaaJ6
set_option linter.unusedVariables false
set_option linter.unusedSimpArgs false
namespace Go.Proofs.Ytjhinakfoejpbaa.T
open Go.RowKit Go.Proofs.Ytjhinakfoejpbaa.WPure Go.Proofs.YtjhinakfoejpbaaW.PrintWords Go.Proofs.YtjhinakfoejpbaaW.PrintLast Go.Proofs.YtjhinakfoejpbaaW.PrintMore
set_option maxHeartbeats 4000000 in
set_option maxRecDepth 100000 in
theorem tall_out (nn by_ : Int) (w : World) (hn : nn < 0 ∨ 2000 < nn) : Calls Try.prog 7 #[.int .i64 nn, .int .i64 by_] w fun e w' => e = .returned (.bool true) ∧ Below w.heap.size w w' := by
  by_cases h0 : nn < 0
  · have d0 : decide (nn < 0) = true := decide_eq_true h0
    clear hn
    go_enter Try.func7, Try.ntmps7
    go_wp2_with (go_at_call 22; refine (lives_any _).mono ?_; rintro e w5 ⟨rfl, hb⟩; have HB := Lib.hid hb; clear hb)
    go_ret
    exact ⟨rfl, HB.out⟩
  · have d0 : decide (nn < 0) = false := decide_eq_false h0
    have d1 : decide (2000 < nn) = true := decide_eq_true (hn.resolve_left h0)
    clear hn
    go_enter Try.func7, Try.ntmps7
    go_wp2_with (go_at_call 22; refine (lives_any _).mono ?_; rintro e w5 ⟨rfl, hb⟩; have HB := Lib.hid hb; clear hb)
    go_ret
    exact ⟨rfl, HB.out⟩
set_option maxHeartbeats 8000000 in
set_option maxRecDepth 100000 in
theorem tall_main (j : Nat) (by_ : Int) (w : World) (hj : j ≤ 2000) : Calls Try.prog 7 #[.int .i64 (j : Int), .int .i64 by_] w fun e w' => e = .returned (.bool true) ∧ Below w.heap.size w w' := by
  have HJ := Lib.hid hj
  have d0 : decide ((j : Int) < 0) = false := decide_eq_false (by omega)
  have d1 : decide (2000 < (j : Int)) = false := decide_eq_false (by omega)
  have d2 : ¬ 2000 < j := by omega
  clear hj
  go_enter Try.func7, Try.ntmps7
  go_upto_region 4 with (go_at_call 23; refine (Tal.new w).mono ?_; rintro e w2 ⟨rfl, ht, hb⟩; have H := Lib.hid ht; have HB := Lib.hid hb; clear ht hb)
  obtain ⟨g, hg⟩ : ∃ g, w.heap.size + 2 = g := ⟨_, rfl⟩
  rw [hg] at H ⊢
  clear hg d0 d1 d2
  go_upto_region 8 with fail
  obtain ⟨st, hst⟩ : ∃ st, wrap64 (wrap64 ((IntKind.u64.wrap by_).tmod 1000) * 2) = st := ⟨_, rfl⟩
  have HST : Hid (0 ≤ st ∧ st ≤ 1998) := by
    have e : 0 ≤ IntKind.u64.wrap by_ ∧ IntKind.u64.wrap by_ < 18446744073709551616 := by rw [IntKind.wrap_u64]; omega
    generalize IntKind.u64.wrap by_ = u at hst e
    have h1 : 0 ≤ u.tmod 1000 ∧ u.tmod 1000 < 1000 := by rw [Int.tmod_eq_emod_of_nonneg e.1]; omega
    generalize u.tmod 1000 = r at hst h1
    unfold wrap64 at hst
    show 0 ≤ st ∧ st ≤ 1998
    omega
  rw [hst]
  clear hst
  go_wp2
  go_loopg [6, 8] j (fun kq v6 v8 wr => ∃ (i : Nat) (a : Int) (l : List Int), v6 = .int .i64 a ∧ v8 = .int .i64 (i : Int) ∧ Hid (i + kq = j) ∧ Hid (0 ≤ a ∧ a < 2003) ∧ Hid (l.length = i) ∧ Hid (∀ z ∈ l, 0 ≤ z ∧ z < 2003) ∧ Hid (Tal wr (fun b => w.heap.size ≤ b) g i (numsV l)) ∧ Hid (Below w.heap.size w wr))
  case atStart => exact ⟨0, 0, [], rfl, rfl, (Nat.zero_add j : 0 + j = j), (by decide : (0 : Int) ≤ 0 ∧ (0 : Int) < 2003), (rfl : ([] : List Int).length = 0), (fun z h => absurd h List.not_mem_nil : ∀ z ∈ ([] : List Int), 0 ≤ z ∧ z < 2003), H, HB⟩
  case round =>
    clear H HB
    obtain ⟨i, a, l, rfl, rfl, hi, ha, hl, hz, H, HB⟩ := hrel
    by_cases hlt : i < j
    · have l0 : (i : Int) < (j : Int) := by omega
      have l1 : i < j := hlt
      have wi : wrap64 ((i : Int) + 1) = (i : Int) + 1 := by have := HJ.out; unfold wrap64; omega
      have wa1 : wrap64 (a + st) = a + st := by have := ha.out; have := HST.out; unfold wrap64; omega
      have wa2 : wrap64 (a + st + 1) = a + st + 1 := by have := ha.out; have := HST.out; unfold wrap64; omega
      obtain ⟨a2, ha2⟩ : ∃ a2, Int.tmod (a + st + 1) 2003 = a2 := ⟨_, rfl⟩
      have HA2 : Hid (0 ≤ a2 ∧ a2 < 2003) := by
        have h1 := ha.out
        have h2 := HST.out
        rw [Int.tmod_eq_emod_of_nonneg (by omega)] at ha2
        show 0 ≤ a2 ∧ a2 < 2003
        omega
      have HI := Lib.hid hlt
      clear hlt
      go_wp2_with (first | (go_at_call 24; refine (number_any a2 _).mono ?_; rintro e w3 ⟨rfl, hb⟩; have n0_ := Lib.hid (HB.out.trans (hb.mono HB.out.size)); have n1_ := Lib.hid (H.out.below hb); clear H HB hb; have H := n1_; have HB := n0_; clear n0_ n1_) | (go_at_call 14; refine (H.out.addEq (numV a2) (by have := HI.out; have := HJ.out; omega) (fun q hq => Nat.le_trans HB.out.size hq) (add_numV (by have := HA2.out; unfold fits; omega) (by have := hl.out; have := HI.out; have := HJ.out; omega))).mono ?_; rintro e w4 ⟨rfl, ht, hk⟩; have H4 := Lib.hid ht; have HB4 : Hid (Below w.heap.size w w4) := HB.out.trans (hk.below HB.out.size (fun q hq => hq)); clear ht hk))
      go_roundg (gk - 1)
      case measure => have := hi.out; have := HI.out; omega
      case rel => exact ⟨i + 1, a2, a2 :: l, rfl, congrArg _ wi, (by have := hi.out; have := HI.out; omega : i + 1 + (gk - 1) = j), HA2, congrArg (· + 1) hl.out, fun z h => (List.mem_cons.1 h).elim (fun e => e ▸ HA2.out) (hz.out z), H4, HB4⟩
    · have e : i = j := by have := hi.out; omega
      have l1 : ¬ i < j := hlt
      subst e
      clear hi hlt
      obtain ⟨t, h1, h2, h3, h4, h5⟩ := H.out.height
      have hsz : siz t ≤ i := by have e1 := siz_tot t h2; have e2 := row_length t; have e3 := h4.length_eq; rw [numsL_numsV, hl.out] at e3; omega
      have hta := high_tall h1 hsz
      obtain ⟨ht, hht⟩ : ∃ ht, highT t = ht := ⟨_, rfl⟩
      obtain ⟨tn, htn⟩ : ∃ tn, tallN i = tn := ⟨_, rfl⟩
      rw [hht] at h5 hta
      rw [htn] at hta
      have HC := Lib.hid h5
      have HTN : Hid (∀ w, Calls Try.prog 36 #[.int .i64 (i : Int)] w fun e w' => e = .returned (.int .i64 (tn : Int)) ∧ Below w.heap.size w w') := fun w => by have e := tall_any i (by have := HJ.out; omega) w; rwa [htn] at e
      have d3 : ¬ tn < ht := by omega
      clear h1 h2 h3 h4 h5 hsz hta hht htn t
      go_upto_region 16 with (first | (go_at_call 21; refine HC.out.mono ?_; rintro e w3 ⟨rfl, hb⟩; have n0_ := Lib.hid (HB.out.trans (hb.mono HB.out.size)); have n1_ := Lib.hid (H.out.below hb); clear H HB hb HC; have H := n1_; have HB := n0_; clear n0_ n1_) | (go_at_call 36; refine (HTN.out _).mono ?_; rintro e w3 ⟨rfl, hb⟩; have n0_ := Lib.hid (HB.out.trans (hb.mono HB.out.size)); have n1_ := Lib.hid (H.out.below hb); clear H HB hb HTN; have H := n1_; have HB := n0_; clear n0_ n1_) | (go_at_call 16; refine (H.out.countEq 1 i ((kind_numsV l).trans hl.out)).mono ?_; rintro e w3 ⟨rfl, rfl⟩))
      clear d3 l1
      go_wp2
      obtain ⟨N, hN⟩ : ∃ N : Int, (i : Int) = N := ⟨_, rfl⟩
      rw [hN]
      have HN := Lib.hid hN
      clear hN
      have KM : Hid (∀ m, m < i → Kth l m (kthN l m)) := fun m hm => by
        have e := H.out.kth (i := m) (by rw [numsL_numsV, hl.out]; exact hm)
        rwa [numsL_numsV] at e
      go_loopg [9, 10] i (fun kq v9 v10 wr => ∃ (k : Nat) (z u : Int), v9 = .int .i64 u ∧ v10 = .int .i64 z ∧ Hid (z = (k : Int) + 1) ∧ Hid (i - k ≤ kq) ∧ Hid (∀ m, k ≤ m → m < i → u ≤ kthN l m) ∧ Hid (Tal wr (fun b => w.heap.size ≤ b) g i (numsV l)) ∧ Hid (Below w.heap.size w wr))
      case atStart => exact ⟨0, 1, -1, rfl, rfl, (rfl : (1 : Int) = ((0 : Nat) : Int) + 1), Nat.le_refl _, (fun m _ hm => by have := hz.out _ (KM.out m hm).mem; omega : ∀ m, 0 ≤ m → m < i → -1 ≤ kthN l m), H, HB⟩
      case round =>
        clear H HB
        obtain ⟨k, z, u, rfl, rfl, hzk, hk, hu, H, HB⟩ := hrel
        by_cases hlt : z ≤ N
        · have d0 : decide (z ≤ N) = true := decide_eq_true hlt
          have hki : k < i := by have := hzk.out; have := HN.out; omega
          obtain ⟨x, hx⟩ : ∃ x, kthN l k = x := ⟨_, rfl⟩
          have hK := KM.out k hki
          rw [hx] at hK
          have hxb := hz.out x hK.mem
          obtain ⟨b1, hb1⟩ : ∃ b1 : Int, ((l.countP (fun a => decide (a < x)) : Nat) : Int) = b1 := ⟨_, rfl⟩
          obtain ⟨c1, hc1⟩ : ∃ c1 : Int, ((l.count x : Nat) : Int) = c1 := ⟨_, rfl⟩
          have hle := countP_le_lt l x
          have hK1 := hK.1
          have hK2 := hK.2
          rw [hle] at hK2
          have hc2 : l.count x ≤ l.length := List.count_le_length
          have hll := hl.out
          have hjj := HJ.out
          have hzz := hzk.out
          have hNN := HN.out
          have d1 : decide (x < u) = false := decide_eq_false (by have := hu.out k (Nat.le_refl _) hki; rw [hx] at this; omega)
          have wk : wrap64 (z - 1) = z - 1 := by unfold wrap64; omega
          have d2 : decide (z - 1 < b1) = false := decide_eq_false (by omega)
          have wb : wrap64 (b1 + c1) = b1 + c1 := by unfold wrap64; omega
          have d3 : decide (b1 + c1 < z) = false := decide_eq_false (by omega)
          have w1 : wrap64 (z + 1) = z + 1 := by unfold wrap64; omega
          obtain ⟨q, hq⟩ : ∃ q, Int.tdiv N 50 = q := ⟨_, rfl⟩
          have hq2 : 0 ≤ q ∧ q ≤ 40 := by rw [Int.tdiv_eq_ediv_of_nonneg (by omega)] at hq; omega
          have wq : wrap64 q = q := by unfold wrap64; omega
          have w2 : wrap64 (z + 1 + q) = z + 1 + q := by unfold wrap64; omega
          have HSM : Hid (∀ W, Tal W (fun b => w.heap.size ≤ b) g i (numsV l) → Calls Try.prog 11 #[.pointer (some ⟨g, 0, none⟩), .int .i64 z] W fun e w' => e = .returned (.tuple #[.int .i64 x, .int .i64 0]) ∧ Below W.heap.size W w') := fun W hW => by
            have e := hW.small ((k + 1 : Nat) : Int)
            rw [small_numsV l (k + 1) (by omega) (by omega), Nat.add_sub_cancel, hx, show ((k + 1 : Nat) : Int) = z by omega] at e
            exact e
          have HBL : Hid (∀ W, Tal W (fun b => w.heap.size ≤ b) g i (numsV l) → Calls Try.prog 19 #[.pointer (some ⟨g, 0, none⟩), .int .i64 x] W fun e w' => e = .returned (.int .i64 b1) ∧ Below W.heap.size W w') := fun W hW => by
            have e := hW.belows x
            rwa [below_numsV, hb1] at e
          have HOF : Hid (∀ W, Tal W (fun b => w.heap.size ≤ b) g i (numsV l) → Calls Try.prog 20 #[.pointer (some ⟨g, 0, none⟩), .agg #[.int .i64 1, .int .i64 x, .string ⟨#[]⟩, .bool false, .int .i64 0]] W fun e w' => e = .returned (.int .i64 c1) ∧ Below W.heap.size W w') := fun W hW => by
            have e := hW.often (numV x)
            rwa [often_numsV l (by unfold fits; omega), hc1] at e
          have HQ := Lib.hid hq2
          have HKI := Lib.hid hki
          have HX := Lib.hid hx
          clear hK hxb hb1 hc1 hle hK1 hK2 hc2 hll hjj hzz hNN hlt hki hq2 hx
          go_wp2_with (first | (go_at_call 11; refine (HSM.out _ H.out).mono ?_; rintro e w3 ⟨rfl, hb⟩; have n0_ := Lib.hid (HB.out.trans (hb.mono HB.out.size)); have n1_ := Lib.hid (H.out.below hb); clear H HB hb; have H := n1_; have HB := n0_; clear n0_ n1_) | (go_at_call 19; refine (HBL.out _ H.out).mono ?_; rintro e w3 ⟨rfl, hb⟩; have n0_ := Lib.hid (HB.out.trans (hb.mono HB.out.size)); have n1_ := Lib.hid (H.out.below hb); clear H HB hb; have H := n1_; have HB := n0_; clear n0_ n1_) | (go_at_call 24; refine (number_any x _).mono ?_; rintro e w3 ⟨rfl, hb⟩; have n0_ := Lib.hid (HB.out.trans (hb.mono HB.out.size)); have n1_ := Lib.hid (H.out.below hb); clear H HB hb; have H := n1_; have HB := n0_; clear n0_ n1_) | (go_at_call 20; refine (HOF.out _ H.out).mono ?_; rintro e w3 ⟨rfl, hb⟩; have n0_ := Lib.hid (HB.out.trans (hb.mono HB.out.size)); have n1_ := Lib.hid (H.out.below hb); clear H HB hb; have H := n1_; have HB := n0_; clear n0_ n1_))
          go_roundg (i - (k + 1 + q.toNat))
          case measure => have := hk.out; have := HKI.out; omega
          case rel => exact ⟨k + 1 + q.toNat, z + 1 + q, x, rfl, congrArg _ w2, (by have := hzk.out; have := HQ.out; omega : z + 1 + q = ((k + 1 + q.toNat : Nat) : Int) + 1), Nat.le_refl _, (fun m h1 h2 => by have e := kth_rise (KM.out k HKI.out) (KM.out m h2) (by omega); rwa [HX.out] at e : ∀ m, k + 1 + q.toNat ≤ m → m < i → x ≤ kthN l m), H, HB⟩
        · have d0 : decide (z ≤ N) = false := decide_eq_false hlt
          clear hlt
          go_wp2_with (go_at_call 22; refine (lives_any _).mono ?_; rintro e w5 ⟨rfl, hb⟩; have n0_ := Lib.hid (HB.out.trans (hb.mono HB.out.size)); clear HB hb; have HB := n0_; clear n0_)
          go_ret
          exact ⟨rfl, HB.out⟩
theorem tall_law (nn by_ : Int) (w : World) : Calls Try.prog 7 #[.int .i64 nn, .int .i64 by_] w fun e w' => e = .returned (.bool true) ∧ Below w.heap.size w w' := by
  by_cases h : nn < 0 ∨ 2000 < nn
  · exact tall_out nn by_ w h
  · obtain ⟨j, rfl⟩ : ∃ j : Nat, nn = (j : Int) := ⟨nn.toNat, by omega⟩
    exact tall_main j by_ w (by omega)
end Go.Proofs.Ytjhinakfoejpbaa.T
