/- TallyLists: whatever is handed in, the call returns true, and nothing that lay there is turned. No condition stands open beyond what it reads. -/
import Derived.Test.YtjhinakfoejpbaaUX
set_option linter.unusedVariables false
set_option linter.unusedSimpArgs false
namespace Go.Proofs.Ytjhinakfoejpbaa.T
open Go.RowKit Go.Proofs.Ytjhinakfoejpbaa.WPure Go.Proofs.Ytjhinakfoejpbaa.SA Go.Proofs.Ytjhinakfoejpbaa.SB Go.Proofs.Ytjhinakfoejpbaa.SC Go.Proofs.Ytjhinakfoejpbaa.SD Go.Proofs.YtjhinakfoejpbaaW.PrintWords Go.Proofs.YtjhinakfoejpbaaW.PrintLast Go.Proofs.YtjhinakfoejpbaaW.PrintMore
set_option maxHeartbeats 4000000 in
set_option maxRecDepth 100000 in
theorem lists_out (A : Option Addr) (l : List Int) (cap : Nat) (k : Int) (w : World) (hn : 1000 < l.length) : Calls Try.prog 4 #[.slice A l.length cap, .int .i64 k] w fun e w' => e = .returned (.bool true) ∧ Below w.heap.size w w' := by
  have HB := Lib.hid (Below.refl w.heap.size w)
  generalize l.length = n at hn ⊢
  go_enter Try.func4, Try.ntmps4
  go_wp2_with (go_at_call 22; refine (lives_any _).mono ?_; rintro e w5 ⟨rfl, hb⟩; have n0_ := Lib.hid (HB.out.trans (hb.mono HB.out.size)); clear HB hb; have HB := n0_; clear n0_)
  go_ret
  exact ⟨rfl, HB.out⟩
set_option maxHeartbeats 8000000 in
set_option maxRecDepth 100000 in
theorem lists_main (A : Option Addr) (l : List Int) (cap : Nat) (k : Int) (w : World) (hr : ReadsInt w .i64 A l.length l) (hc : l.length ≤ cap) (hn : l.length ≤ 1000) : Calls Try.prog 4 #[.slice A l.length cap, .int .i64 k] w fun e w' => e = .returned (.bool true) ∧ Below w.heap.size w w' := by
  have HR := Lib.hid hr
  have HC := Lib.hid hc
  have hu48 := Try.underlying48
  obtain ⟨n, hln⟩ : ∃ n, l.length = n := ⟨_, rfl⟩
  have HLN := Lib.hid hln
  have d0 : ¬ 1000 < n := by omega
  have HN : Hid (n ≤ 1000) := by show n ≤ 1000; omega
  rw [hln]
  clear hr hc hn hln
  go_enter Try.func4, Try.ntmps4
  go_upto_region 4 with (go_at_call 23; refine (Tal.new w).mono ?_; rintro e w2 ⟨rfl, ht, hb⟩; have H := Lib.hid ht; have HB := Lib.hid hb; clear ht hb)
  obtain ⟨g, hg⟩ : ∃ g, w.heap.size + 2 = g := ⟨_, rfl⟩
  rw [hg] at H ⊢
  clear hg
  go_wp2
  go_loopg [6] n (fun kq v wr => ∃ i : Nat, v = .int .i64 (i : Int) ∧ Hid (i + kq = n) ∧ Hid (∀ z ∈ l.take i, fits z) ∧ Hid (Tal wr (fun b => w.heap.size ≤ b) g i (numsV (l.take i))) ∧ Hid (Below w.heap.size w wr))
  case atStart => exact ⟨0, rfl, (Nat.zero_add n : 0 + n = n), (fun z h => absurd h List.not_mem_nil : ∀ z ∈ l.take 0, fits z), H, HB⟩
  case round =>
    clear H HB
    obtain ⟨i, rfl, hi, hz, H, HB⟩ := hrel
    by_cases hlt : i < n
    · obtain ⟨ad, hA, hcell⟩ := (HR.out.below HB.out).2.2 (by have := HLN.out; omega)
      subst hA
      have c0 := hcell i (by have := HLN.out; omega)
      have hxl : l[i]? = some (l.getD i 0) := by
        have hil : i < l.length := by have := HLN.out; omega
        rw [List.getD, List.getElem?_eq_getElem hil]
        rfl
      generalize l.getD i 0 = x at c0 hxl
      have n0 : ((i : Int)).toNat = i := Int.toNat_natCast i
      have p0 : (0 : Int) ≤ (i : Int) := Int.natCast_nonneg i
      have l0 : (i : Int) < (n : Int) := by omega
      have l1 : i < n := hlt
      have wi : wrap64 ((i : Int) + 1) = (i : Int) + 1 := by have := HN.out; unfold wrap64; omega
      have HI := Lib.hid hlt
      have C0 : Hid (∀ W, Below w.heap.size w W → W.cell? (ad.add i) = some (.int .i64 x)) := fun W hW => by
        obtain ⟨ad', e, hcell'⟩ := (HR.out.below hW).2.2 (by have := HLN.out; omega)
        have e2 : ad = ad' := Option.some.inj e
        subst e2
        have e3 := hcell' i (by have := HLN.out; omega)
        rwa [List.getD, hxl] at e3
      clear hcell hlt c0
      by_cases hx : fits x
      · have HF : Hid (∀ w, Calls Try.prog 25 #[.int .i64 x] w fun e w' => e = .returned (.bool true) ∧ w = w') := fun w => by
          have e := fits_any x w
          rwa [fitsB_yes hx] at e
        have HAD : Hid (addE (numsV (l.take i)) (numV x) = 0 ∧ (addL (numsV (l.take i)) (numV x)).Perm (numsV (l.take (i + 1)))) := add_snoc hxl hx (by have := HI.out; have := HN.out; omega)
        have HZ : Hid (∀ z ∈ l.take (i + 1), fits z) := fun z h => by
          rw [List.take_add_one, hxl, Option.toList_some] at h
          exact (List.mem_append.1 h).elim (hz.out z) (fun q => (List.mem_singleton.1 q) ▸ hx)
        have c0 := C0.out _ HB.out
        clear hx hxl
        go_wp2_with (first | (go_at_call 24; refine (number_any x _).mono ?_; rintro e w3 ⟨rfl, hb⟩; have n0_ := Lib.hid (HB.out.trans (hb.mono HB.out.size)); have n1_ := Lib.hid (H.out.below hb); clear H HB hb c0; have H := n1_; have HB := n0_; clear n0_ n1_) | (go_at_call 14; refine (H.out.add (numV x) (by have := HI.out; have := HN.out; omega) (fun q hq => Nat.le_trans HB.out.size hq)).mono ?_; rw [HAD.out.1]; rintro e w4 ⟨rfl, ht, hk⟩; have H4 := Lib.hid (ht.perm HAD.out.2); have HB4 : Hid (Below w.heap.size w w4) := HB.out.trans (hk.below HB.out.size (fun q hq => hq)); clear ht hk; have c0 := C0.out _ HB4.out) | (go_at_call 25; refine (HF.out _).mono ?_; rintro e w5 ⟨rfl, rfl⟩))
        go_roundg (gk - 1)
        case measure => have := hi.out; have := HI.out; omega
        case rel => exact ⟨i + 1, by first | exact congrArg _ wi | rfl, (by have := hi.out; have := HI.out; omega : i + 1 + (gk - 1) = n), HZ, H4, HB4⟩
      · have HF : Hid (∀ w, Calls Try.prog 25 #[.int .i64 x] w fun e w' => e = .returned (.bool false) ∧ w = w') := fun w => by
          have e := fits_any x w
          rwa [fitsB_no hx] at e
        have HAD : Hid (addE (numsV (l.take i)) (numV x) = 2 ∧ addL (numsV (l.take i)) (numV x) = numsV (l.take i)) := add_not_fit hx
        have c0 := C0.out _ HB.out
        clear hx hxl
        go_wp2_with (first | (go_at_call 24; refine (number_any x _).mono ?_; rintro e w3 ⟨rfl, hb⟩; have n0_ := Lib.hid (HB.out.trans (hb.mono HB.out.size)); have n1_ := Lib.hid (H.out.below hb); clear H HB hb c0; have H := n1_; have HB := n0_; clear n0_ n1_) | (go_at_call 14; refine (H.out.add (numV x) (by have := HI.out; have := HN.out; omega) (fun q hq => Nat.le_trans HB.out.size hq)).mono ?_; rw [HAD.out.1]; rintro e w4 ⟨rfl, ht, hk⟩; have n0_ : Hid (Below w.heap.size w w4) := HB.out.trans (hk.below HB.out.size (fun q hq => hq)); clear ht hk H HB; have HB := n0_; clear n0_; have c0 := C0.out _ HB.out) | (go_at_call 25; refine (HF.out _).mono ?_; rintro e w5 ⟨rfl, rfl⟩) | (go_at_call 22; refine (lives_any _).mono ?_; rintro e w5 ⟨rfl, hb⟩; have n0_ := Lib.hid (HB.out.trans (hb.mono HB.out.size)); clear HB hb; have HB := n0_; clear n0_))
        go_ret
        exact ⟨rfl, HB.out⟩
    · have e : i = n := by have := hi.out; omega
      have l1 : ¬ i < n := hlt
      have HT : Hid (l.take i = l) := by show _ = _; rw [e, ← HLN.out, List.take_length]
      have hgood : good l := ⟨by have := HLN.out; have := HN.out; omega, by have h := hz.out; rwa [HT.out] at h⟩
      have H2 : Hid (Tal wr (fun b => w.heap.size ≤ b) g i (numsV l)) := by have h := H.out; rwa [HT.out] at h
      have sm := same l hgood k
      have HR2 := Lib.hid (HR.out.below HB.out)
      clear H HT hz hi hlt HR
      have H := H2
      have HR := HR2
      clear H2 HR2
      obtain ⟨r1, e1⟩ : ∃ r, sumN l = r := ⟨_, rfl⟩
      obtain ⟨r2, e2⟩ : ∃ r, avgN l = r := ⟨_, rfl⟩
      obtain ⟨r3, e3⟩ : ∃ r, medN l = r := ⟨_, rfl⟩
      obtain ⟨r4, e4⟩ : ∃ r, smallN l k = r := ⟨_, rfl⟩
      obtain ⟨r5, e5⟩ : ∃ r, leN l = r := ⟨_, rfl⟩
      obtain ⟨r6, e6⟩ : ∃ r, grN l = r := ⟨_, rfl⟩
      have G1 := Lib.hid e1
      have G2 := Lib.hid e2
      have G3 := Lib.hid e3
      have G4 := Lib.hid e4
      have G5 := Lib.hid e5
      have G6 := Lib.hid e6
      have E1 := Lib.hid (sm.sum.trans e1)
      have E2 := Lib.hid (sm.mean.trans e2)
      have E3 := Lib.hid (sm.mid.trans e3)
      have E4 := Lib.hid (sm.small.trans e4)
      have E5 := Lib.hid (sm.least.trans e5)
      have E6 := Lib.hid (sm.great.trans e6)
      subst e
      have HLE := HLN.out
      subst HLE
      clear e1 e2 e3 e4 e5 e6 sm hgood HLN
      go_upto_region 26 with (first | (go_at_call 9; refine (H.out.sumEq E1.out).mono ?_; rintro e w8 ⟨rfl, hb⟩; have n0_ := Lib.hid (HB.out.trans (hb.mono HB.out.size)); have n1_ := Lib.hid (H.out.below hb); have n2_ := Lib.hid (HR.out.below hb); clear H HB HR hb; have H := n1_; have HB := n0_; have HR := n2_; clear n0_ n1_ n2_) | (go_at_call 26; refine (csum HR.out HC.out G1.out).mono ?_; rintro e w8 ⟨rfl, hb⟩; have n0_ := Lib.hid (HB.out.trans (hb.mono HB.out.size)); have n1_ := Lib.hid (H.out.below hb); have n2_ := Lib.hid (HR.out.below hb); clear H HB HR hb; have H := n1_; have HB := n0_; have HR := n2_; clear n0_ n1_ n2_) | (go_at_call 10; refine (H.out.meanEq E2.out).mono ?_; rintro e w8 ⟨rfl, hb⟩; have n0_ := Lib.hid (HB.out.trans (hb.mono HB.out.size)); have n1_ := Lib.hid (H.out.below hb); have n2_ := Lib.hid (HR.out.below hb); clear H HB HR hb; have H := n1_; have HB := n0_; have HR := n2_; clear n0_ n1_ n2_) | (go_at_call 27; refine (cmean HR.out HC.out G2.out).mono ?_; rintro e w8 ⟨rfl, hb⟩; have n0_ := Lib.hid (HB.out.trans (hb.mono HB.out.size)); have n1_ := Lib.hid (H.out.below hb); have n2_ := Lib.hid (HR.out.below hb); clear H HB HR hb; have H := n1_; have HB := n0_; have HR := n2_; clear n0_ n1_ n2_) | (go_at_call 12; refine (H.out.medianEq E3.out).mono ?_; rintro e w8 ⟨rfl, hb⟩; have n0_ := Lib.hid (HB.out.trans (hb.mono HB.out.size)); have n1_ := Lib.hid (H.out.below hb); have n2_ := Lib.hid (HR.out.below hb); clear H HB HR hb; have H := n1_; have HB := n0_; have HR := n2_; clear n0_ n1_ n2_) | (go_at_call 28; refine (cmed HR.out HC.out G3.out).mono ?_; rintro e w8 ⟨rfl, hb⟩; have n0_ := Lib.hid (HB.out.trans (hb.mono HB.out.size)); have n1_ := Lib.hid (H.out.below hb); have n2_ := Lib.hid (HR.out.below hb); clear H HB HR hb; have H := n1_; have HB := n0_; have HR := n2_; clear n0_ n1_ n2_) | (go_at_call 11; refine (H.out.smallEq k E4.out).mono ?_; rintro e w8 ⟨rfl, hb⟩; have n0_ := Lib.hid (HB.out.trans (hb.mono HB.out.size)); have n1_ := Lib.hid (H.out.below hb); have n2_ := Lib.hid (HR.out.below hb); clear H HB HR hb; have H := n1_; have HB := n0_; have HR := n2_; clear n0_ n1_ n2_) | (go_at_call 29; refine (csmall HR.out HC.out k G4.out).mono ?_; rintro e w8 ⟨rfl, hb⟩; have n0_ := Lib.hid (HB.out.trans (hb.mono HB.out.size)); have n1_ := Lib.hid (H.out.below hb); have n2_ := Lib.hid (HR.out.below hb); clear H HB HR hb; have H := n1_; have HB := n0_; have HR := n2_; clear n0_ n1_ n2_) | (go_at_call 13; refine (H.out.leastEq E5.out).mono ?_; rintro e w8 ⟨rfl, hb⟩; have n0_ := Lib.hid (HB.out.trans (hb.mono HB.out.size)); have n1_ := Lib.hid (H.out.below hb); have n2_ := Lib.hid (HR.out.below hb); clear H HB HR hb; have H := n1_; have HB := n0_; have HR := n2_; clear n0_ n1_ n2_) | (go_at_call 30; refine (cleast HR.out HC.out G5.out).mono ?_; rintro e w8 ⟨rfl, hb⟩; have n0_ := Lib.hid (HB.out.trans (hb.mono HB.out.size)); have n1_ := Lib.hid (H.out.below hb); have n2_ := Lib.hid (HR.out.below hb); clear H HB HR hb; have H := n1_; have HB := n0_; have HR := n2_; clear n0_ n1_ n2_) | (go_at_call 31; refine (H.out.greatestEq E6.out).mono ?_; rintro e w8 ⟨rfl, hb⟩; have n0_ := Lib.hid (HB.out.trans (hb.mono HB.out.size)); have n1_ := Lib.hid (H.out.below hb); have n2_ := Lib.hid (HR.out.below hb); clear H HB HR hb; have H := n1_; have HB := n0_; have HR := n2_; clear n0_ n1_ n2_) | (go_at_call 32; refine (cgreat HR.out HC.out G6.out).mono ?_; rintro e w8 ⟨rfl, hb⟩; have n0_ := Lib.hid (HB.out.trans (hb.mono HB.out.size)); have n1_ := Lib.hid (H.out.below hb); have n2_ := Lib.hid (HR.out.below hb); clear H HB HR hb; have H := n1_; have HB := n0_; have HR := n2_; clear n0_ n1_ n2_) | (go_at_call 22; refine (lives_any _).mono ?_; rintro e w5 ⟨rfl, hb⟩; have n0_ := Lib.hid (HB.out.trans (hb.mono HB.out.size)); clear HB hb; have HB := n0_; clear n0_))
      go_wp2_with (first | (go_at_call 9; refine (H.out.sumEq E1.out).mono ?_; rintro e w8 ⟨rfl, hb⟩; have n0_ := Lib.hid (HB.out.trans (hb.mono HB.out.size)); have n1_ := Lib.hid (H.out.below hb); have n2_ := Lib.hid (HR.out.below hb); clear H HB HR hb; have H := n1_; have HB := n0_; have HR := n2_; clear n0_ n1_ n2_) | (go_at_call 26; refine (csum HR.out HC.out G1.out).mono ?_; rintro e w8 ⟨rfl, hb⟩; have n0_ := Lib.hid (HB.out.trans (hb.mono HB.out.size)); have n1_ := Lib.hid (H.out.below hb); have n2_ := Lib.hid (HR.out.below hb); clear H HB HR hb; have H := n1_; have HB := n0_; have HR := n2_; clear n0_ n1_ n2_) | (go_at_call 10; refine (H.out.meanEq E2.out).mono ?_; rintro e w8 ⟨rfl, hb⟩; have n0_ := Lib.hid (HB.out.trans (hb.mono HB.out.size)); have n1_ := Lib.hid (H.out.below hb); have n2_ := Lib.hid (HR.out.below hb); clear H HB HR hb; have H := n1_; have HB := n0_; have HR := n2_; clear n0_ n1_ n2_) | (go_at_call 27; refine (cmean HR.out HC.out G2.out).mono ?_; rintro e w8 ⟨rfl, hb⟩; have n0_ := Lib.hid (HB.out.trans (hb.mono HB.out.size)); have n1_ := Lib.hid (H.out.below hb); have n2_ := Lib.hid (HR.out.below hb); clear H HB HR hb; have H := n1_; have HB := n0_; have HR := n2_; clear n0_ n1_ n2_) | (go_at_call 12; refine (H.out.medianEq E3.out).mono ?_; rintro e w8 ⟨rfl, hb⟩; have n0_ := Lib.hid (HB.out.trans (hb.mono HB.out.size)); have n1_ := Lib.hid (H.out.below hb); have n2_ := Lib.hid (HR.out.below hb); clear H HB HR hb; have H := n1_; have HB := n0_; have HR := n2_; clear n0_ n1_ n2_) | (go_at_call 28; refine (cmed HR.out HC.out G3.out).mono ?_; rintro e w8 ⟨rfl, hb⟩; have n0_ := Lib.hid (HB.out.trans (hb.mono HB.out.size)); have n1_ := Lib.hid (H.out.below hb); have n2_ := Lib.hid (HR.out.below hb); clear H HB HR hb; have H := n1_; have HB := n0_; have HR := n2_; clear n0_ n1_ n2_) | (go_at_call 11; refine (H.out.smallEq k E4.out).mono ?_; rintro e w8 ⟨rfl, hb⟩; have n0_ := Lib.hid (HB.out.trans (hb.mono HB.out.size)); have n1_ := Lib.hid (H.out.below hb); have n2_ := Lib.hid (HR.out.below hb); clear H HB HR hb; have H := n1_; have HB := n0_; have HR := n2_; clear n0_ n1_ n2_) | (go_at_call 29; refine (csmall HR.out HC.out k G4.out).mono ?_; rintro e w8 ⟨rfl, hb⟩; have n0_ := Lib.hid (HB.out.trans (hb.mono HB.out.size)); have n1_ := Lib.hid (H.out.below hb); have n2_ := Lib.hid (HR.out.below hb); clear H HB HR hb; have H := n1_; have HB := n0_; have HR := n2_; clear n0_ n1_ n2_) | (go_at_call 13; refine (H.out.leastEq E5.out).mono ?_; rintro e w8 ⟨rfl, hb⟩; have n0_ := Lib.hid (HB.out.trans (hb.mono HB.out.size)); have n1_ := Lib.hid (H.out.below hb); have n2_ := Lib.hid (HR.out.below hb); clear H HB HR hb; have H := n1_; have HB := n0_; have HR := n2_; clear n0_ n1_ n2_) | (go_at_call 30; refine (cleast HR.out HC.out G5.out).mono ?_; rintro e w8 ⟨rfl, hb⟩; have n0_ := Lib.hid (HB.out.trans (hb.mono HB.out.size)); have n1_ := Lib.hid (H.out.below hb); have n2_ := Lib.hid (HR.out.below hb); clear H HB HR hb; have H := n1_; have HB := n0_; have HR := n2_; clear n0_ n1_ n2_) | (go_at_call 31; refine (H.out.greatestEq E6.out).mono ?_; rintro e w8 ⟨rfl, hb⟩; have n0_ := Lib.hid (HB.out.trans (hb.mono HB.out.size)); have n1_ := Lib.hid (H.out.below hb); have n2_ := Lib.hid (HR.out.below hb); clear H HB HR hb; have H := n1_; have HB := n0_; have HR := n2_; clear n0_ n1_ n2_) | (go_at_call 32; refine (cgreat HR.out HC.out G6.out).mono ?_; rintro e w8 ⟨rfl, hb⟩; have n0_ := Lib.hid (HB.out.trans (hb.mono HB.out.size)); have n1_ := Lib.hid (H.out.below hb); have n2_ := Lib.hid (HR.out.below hb); clear H HB HR hb; have H := n1_; have HB := n0_; have HR := n2_; clear n0_ n1_ n2_) | (go_at_call 22; refine (lives_any _).mono ?_; rintro e w5 ⟨rfl, hb⟩; have n0_ := Lib.hid (HB.out.trans (hb.mono HB.out.size)); clear HB hb; have HB := n0_; clear n0_))
      go_ret
      exact ⟨rfl, HB.out⟩
theorem lists_law (A : Option Addr) (l : List Int) (cap : Nat) (k : Int) (w : World) (hr : ReadsInt w .i64 A l.length l) (hc : l.length ≤ cap) : Calls Try.prog 4 #[.slice A l.length cap, .int .i64 k] w fun e w' => e = .returned (.bool true) ∧ Below w.heap.size w w' := by
  by_cases h : 1000 < l.length
  · exact lists_out A l cap k w h
  · exact lists_main A l cap k w hr hc (by omega)
theorem lists_law2 (A : Option Addr) (n cap : Nat) (l : List Int) (k : Int) (w : World) (hl : n = l.length) (hr : ReadsInt w .i64 A l.length l) (hc : l.length ≤ cap) : Calls Try.prog 4 #[.slice A n cap, .int .i64 k] w fun e w' => e = .returned (.bool true) ∧ Below w.heap.size w w' := by
  subst hl
  exact lists_law A l cap k w hr hc
end Go.Proofs.Ytjhinakfoejpbaa.T
