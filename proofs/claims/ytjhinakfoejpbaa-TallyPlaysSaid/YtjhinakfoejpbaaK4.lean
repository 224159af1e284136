/- The law's alike. No condition stands open. -/
import Derived.Test.YtjhinakfoejpbaaK3
import Derived.Test.YtjhinakfoejpbaaZS
set_option linter.unusedVariables false
set_option linter.unusedSimpArgs false
/- What the law's alike tells: true. No condition stands open beyond what it reads. -/
namespace Go.Proofs.Ytjhinakfoejpbaa.T
open Go.RowKit Go.Proofs.Ytjhinakfoejpbaa Go.Proofs.Ytjhinakfoejpbaa.WPure Go.Proofs.YtjhinakfoejpbaaW.PrintWords Go.Proofs.YtjhinakfoejpbaaW.PrintLast Go.Proofs.YtjhinakfoejpbaaW.PrintMore
theorem bne_self_eq_false' (x : Int) : (x != x) = false := by simp
/-- how many different numbers there are: the same number in the tally's tree and in the document's list -/
theorem unlike_any {w0 w : World} {S : Nat → Prop} {g u : Nat} {A : Option Addr} {n cap : Nat} {l : List Val} (hT : Tal w0 S g u l) (hV : VRow w A n l) (hl : n ≤ 4096) : ∃ nu : Nat, nu ≤ 1000000 ∧ (∀ W, VRow W A n l → Calls Try.prog 79 #[dt A n cap] W fun e w' => e = .returned (.int .i64 (nu : Int)) ∧ Below W.heap.size W w') ∧ ∀ W, Tal W S g u l → ∃ h : Nat, h ≤ tallN nu ∧ ((h : Int) == 0) = ((nu : Int) == 0) ∧ Calls Try.prog 21 #[.pointer (some ⟨g, 0, none⟩)] W fun e w' => e = .returned (.int .i64 (h : Int)) ∧ Below W.heap.size W w' := by
  obtain ⟨t, hb, hp, hs, hr, _⟩ := hT.height
  have hsz : siz t ≤ 4096 := by
    have e1 := siz_tot t hp
    have e2 := row_length t
    have e3 := hr.length_eq
    have e4 := nums_few hV.1 hl
    omega
  obtain ⟨r, hu, hq, _⟩ := docUnlike (cap := cap) hV hl
  have er := unl_siz hp hs hu (hq.trans hr.symm)
  refine ⟨siz t, by omega, fun W hW => ?_, fun W hW => ?_⟩
  · obtain ⟨r2, hu2, hq2, hc2⟩ := docUnlike (cap := cap) hW hl
    rwa [unl_siz hp hs hu2 (hq2.trans hr.symm)] at hc2
  · obtain ⟨t2, hb2, hp2, hs2, hr2, hc2⟩ := hW.height
    have e2 : siz t2 = siz t := (unl_siz hp2 hs2 hu (hq.trans hr2.symm)).symm.trans er
    have hz := high_zero t2
    refine ⟨highT t2, high_tall hb2 (by omega), ?_, hc2⟩
    rw [Bool.eq_iff_iff, beq_iff_eq, beq_iff_eq]
    omega
set_option maxHeartbeats 8000000 in
set_option maxRecDepth 100000 in
theorem same_any {w : World} {S : Nat → Prop} {g u : Nat} {A : Option Addr} {n cap : Nat} {l : List Val} (hT : Tal w S g u l) (hV : VRow w A n l) (k a : Int) (v : Val) : Calls Try.prog 39 #[.pointer (some ⟨g, 0, none⟩), dt A n cap, .int .i64 k, .int .i64 a, vv v] w fun e w' => e = .returned (.bool true) ∧ Below w.heap.size w w' := by
  have hok := hT.ok
  have hl := hT.few
  have HB : Hid (Below w.heap.size w ((w.alloc (.cells #[.slice A n cap] 64)).alloc (.cells #[.int .i64 v.1, .int .i64 v.2.1, .string v.2.2.1, .bool v.2.2.2.1, .int .i64 v.2.2.2.2] 25))) := box2 w _ _
  have H := Lib.hid (hT.below HB.out)
  have HV := Lib.hid hV
  have HL : Hid (n ≤ 4096) := by rw [hV.1] at hl; exact hl
  have z0 : ((w.alloc (.cells #[.slice A n cap] 64)).alloc (.cells #[.int .i64 v.1, .int .i64 v.2.1, .string v.2.2.1, .bool v.2.2.2.1, .int .i64 v.2.2.2.2] 25)).cell? ⟨w.heap.size, 0, none⟩ = some (.slice A n cap) := blk_cell (blk_alloc (heap_alloc_new w _) _) 0
  have X1 : Hid (BoxAt ((w.alloc (.cells #[.slice A n cap] 64)).alloc (.cells #[.int .i64 v.1, .int .i64 v.2.1, .string v.2.2.1, .bool v.2.2.2.1, .int .i64 v.2.2.2.2] 25)) (w.heap.size + 1) v.1 v.2.1 v.2.2.1 v.2.2.2.1 v.2.2.2.2) := by
    have e := heap_alloc_new (w.alloc (.cells #[.slice A n cap] 64)) (.cells #[.int .i64 v.1, .int .i64 v.2.1, .string v.2.2.1, .bool v.2.2.2.1, .int .i64 v.2.2.2.2] 25)
    rwa [World.size_alloc] at e
  have HB0 := HB
  have hu55 := Try.underlying55
  have hu64 := Try.underlying64
  have hu25 := Try.underlying25
  have HOK := Lib.hid hok
  obtain ⟨r1, e1⟩ : ∃ r, toldR l (sumR l) = r := ⟨_, rfl⟩
  have E1 := Lib.hid e1
  have G1 := Lib.hid ((sumT hok hl).trans e1)
  have p1 : (r1.1 != r1.1) = false := bne_self_eq_false' _
  have q1 : (r1.2 != r1.2) = false := bne_self_eq_false' _
  obtain ⟨r2, e2⟩ : ∃ r, toldR l (meanR l) = r := ⟨_, rfl⟩
  have E2 := Lib.hid e2
  have G2 := Lib.hid ((meanT hok hl).trans e2)
  have p2 : (r2.1 != r2.1) = false := bne_self_eq_false' _
  have q2 : (r2.2 != r2.2) = false := bne_self_eq_false' _
  obtain ⟨r3, e3⟩ : ∃ r, toldR l (endR l 0) = r := ⟨_, rfl⟩
  have E3 := Lib.hid e3
  have G3 := Lib.hid ((leastT hok hl).trans e3)
  have p3 : (r3.1 != r3.1) = false := bne_self_eq_false' _
  have q3 : (r3.2 != r3.2) = false := bne_self_eq_false' _
  obtain ⟨r4, e4⟩ : ∃ r, toldR l (endR l ((numsL l).length - 1)) = r := ⟨_, rfl⟩
  have E4 := Lib.hid e4
  have G4 := Lib.hid ((greatT hok hl).trans e4)
  have p4 : (r4.1 != r4.1) = false := bne_self_eq_false' _
  have q4 : (r4.2 != r4.2) = false := bne_self_eq_false' _
  obtain ⟨r5, e5⟩ : ∃ r, toldR l (midR l) = r := ⟨_, rfl⟩
  have E5 := Lib.hid e5
  have G5 := Lib.hid ((midT hok hl).trans e5)
  have p5 : (r5.1 != r5.1) = false := bne_self_eq_false' _
  have q5 : (r5.2 != r5.2) = false := bne_self_eq_false' _
  obtain ⟨r6, e6⟩ : ∃ r, toldR l (smallR l k) = r := ⟨_, rfl⟩
  have E6 := Lib.hid e6
  have G6 := Lib.hid ((smallT hok hl k).trans e6)
  have p6 : (r6.1 != r6.1) = false := bne_self_eq_false' _
  have q6 : (r6.2 != r6.2) = false := bne_self_eq_false' _
  clear hT hV hok hl e1 e2 e3 e4 e5 e6
  go_enter Try.func39, Try.ntmps39
  go_upto_region 1 with fail
  generalize hW1 : ((w.alloc (.cells #[.slice A n cap] 64)).alloc (.cells #[.int .i64 v.1, .int .i64 v.2.1, .string v.2.2.1, .bool v.2.2.2.1, .int .i64 v.2.2.2.2] 25)) = W1 at HB HB0 H z0 X1 ⊢
  clear hW1 HB
  have HB := Lib.hid (Below.refl W1.heap.size W1)
  have Z0 := Lib.hid z0
  go_upto_region 15 with (first | (go_at_call 9; refine (H.out.sumEq E1.out).mono ?_; rintro e w8 ⟨rfl, hb⟩; have n0_ := Lib.hid (HB.out.trans (hb.mono HB.out.size)); have n1_ := Lib.hid (H.out.below hb); have n2_ := pw_cell_below hb z0; clear H HB z0 hb; have H := n1_; have HB := n0_; have z0 := n2_; clear n0_ n1_ n2_) | (go_at_call 69; refine (docSumEq (HV.out.below (HB0.out.trans (HB.out.mono HB0.out.size))) HL.out G1.out).mono ?_; rintro e w8 ⟨rfl, hb⟩; have n0_ := Lib.hid (HB.out.trans (hb.mono HB.out.size)); have n1_ := Lib.hid (H.out.below hb); have n2_ := pw_cell_below hb z0; clear H HB z0 hb; have H := n1_; have HB := n0_; have z0 := n2_; clear n0_ n1_ n2_) | (go_at_call 10; refine (H.out.meanEq E2.out).mono ?_; rintro e w8 ⟨rfl, hb⟩; have n0_ := Lib.hid (HB.out.trans (hb.mono HB.out.size)); have n1_ := Lib.hid (H.out.below hb); have n2_ := pw_cell_below hb z0; clear H HB z0 hb; have H := n1_; have HB := n0_; have z0 := n2_; clear n0_ n1_ n2_) | (go_at_call 70; refine (docMeanEq (HV.out.below (HB0.out.trans (HB.out.mono HB0.out.size))) HL.out G2.out).mono ?_; rintro e w8 ⟨rfl, hb⟩; have n0_ := Lib.hid (HB.out.trans (hb.mono HB.out.size)); have n1_ := Lib.hid (H.out.below hb); have n2_ := pw_cell_below hb z0; clear H HB z0 hb; have H := n1_; have HB := n0_; have z0 := n2_; clear n0_ n1_ n2_) | (go_at_call 13; refine (H.out.leastEq E3.out).mono ?_; rintro e w8 ⟨rfl, hb⟩; have n0_ := Lib.hid (HB.out.trans (hb.mono HB.out.size)); have n1_ := Lib.hid (H.out.below hb); have n2_ := pw_cell_below hb z0; clear H HB z0 hb; have H := n1_; have HB := n0_; have z0 := n2_; clear n0_ n1_ n2_) | (go_at_call 71; refine (docLeastEq (HV.out.below (HB0.out.trans (HB.out.mono HB0.out.size))) HL.out G3.out).mono ?_; rintro e w8 ⟨rfl, hb⟩; have n0_ := Lib.hid (HB.out.trans (hb.mono HB.out.size)); have n1_ := Lib.hid (H.out.below hb); have n2_ := pw_cell_below hb z0; clear H HB z0 hb; have H := n1_; have HB := n0_; have z0 := n2_; clear n0_ n1_ n2_) | (go_at_call 31; refine (H.out.greatestEq E4.out).mono ?_; rintro e w8 ⟨rfl, hb⟩; have n0_ := Lib.hid (HB.out.trans (hb.mono HB.out.size)); have n1_ := Lib.hid (H.out.below hb); have n2_ := pw_cell_below hb z0; clear H HB z0 hb; have H := n1_; have HB := n0_; have z0 := n2_; clear n0_ n1_ n2_) | (go_at_call 72; refine (docGreatestEq (HV.out.below (HB0.out.trans (HB.out.mono HB0.out.size))) HL.out G4.out).mono ?_; rintro e w8 ⟨rfl, hb⟩; have n0_ := Lib.hid (HB.out.trans (hb.mono HB.out.size)); have n1_ := Lib.hid (H.out.below hb); have n2_ := pw_cell_below hb z0; clear H HB z0 hb; have H := n1_; have HB := n0_; have z0 := n2_; clear n0_ n1_ n2_) | (go_at_call 12; refine (H.out.medianEq E5.out).mono ?_; rintro e w8 ⟨rfl, hb⟩; have n0_ := Lib.hid (HB.out.trans (hb.mono HB.out.size)); have n1_ := Lib.hid (H.out.below hb); have n2_ := pw_cell_below hb z0; clear H HB z0 hb; have H := n1_; have HB := n0_; have z0 := n2_; clear n0_ n1_ n2_) | (go_at_call 73; refine (docMedianEq (HV.out.below (HB0.out.trans (HB.out.mono HB0.out.size))) HL.out G5.out).mono ?_; rintro e w8 ⟨rfl, hb⟩; have n0_ := Lib.hid (HB.out.trans (hb.mono HB.out.size)); have n1_ := Lib.hid (H.out.below hb); have n2_ := pw_cell_below hb z0; clear H HB z0 hb; have H := n1_; have HB := n0_; have z0 := n2_; clear n0_ n1_ n2_) | (go_at_call 11; refine (H.out.smallEq k E6.out).mono ?_; rintro e w8 ⟨rfl, hb⟩; have n0_ := Lib.hid (HB.out.trans (hb.mono HB.out.size)); have n1_ := Lib.hid (H.out.below hb); have n2_ := pw_cell_below hb z0; clear H HB z0 hb; have H := n1_; have HB := n0_; have z0 := n2_; clear n0_ n1_ n2_) | (go_at_call 74; refine (docSmallEq (HV.out.below (HB0.out.trans (HB.out.mono HB0.out.size))) HL.out k G6.out).mono ?_; rintro e w8 ⟨rfl, hb⟩; have n0_ := Lib.hid (HB.out.trans (hb.mono HB.out.size)); have n1_ := Lib.hid (H.out.below hb); have n2_ := pw_cell_below hb z0; clear H HB z0 hb; have H := n1_; have HB := n0_; have z0 := n2_; clear n0_ n1_ n2_))
  clear G1 G2 G3 G4 G5 G6 E1 E2 E3 E4 E5 E6 p1 p2 p3 p4 p5 p6 q1 q2 q3 q4 q5 q6
  go_wp2
  go_loopg [35] 6 (fun kq v35 wr => ∃ j : Nat, v35 = .int .i64 (j : Int) ∧ Hid (j + kq = 6) ∧ Hid (Tal wr S g u l) ∧ Hid (Below W1.heap.size W1 wr))
  case atStart => exact ⟨0, rfl, (rfl : 0 + 6 = 6), H, HB⟩
  case round =>
    clear H HB z0
    obtain ⟨j, rfl, hj, H, HB⟩ := hrel
    by_cases hlt : j ≤ 5
    · have d0 : decide ((j : Int) ≤ 5) = true := decide_eq_true (by omega)
      have d1 : (j : Int) ≤ 5 := by omega
      have wj : wrap64 ((j : Int) + 1) = (j : Int) + 1 := by unfold wrap64; omega
      obtain ⟨m, hm⟩ : ∃ m, kindR l (j : Int) = m := ⟨_, rfl⟩
      have HM := Lib.hid hm
      have HC1 : Hid (∀ W, Tal W S g u l → Calls Try.prog 16 #[.pointer (some ⟨g, 0, none⟩), .int .i64 (j : Int)] W fun e w' => e = .returned (.int .i64 (m : Int)) ∧ W = w') := fun W hW => by rw [← hm]; exact hW.count (j : Int)
      have pm : ((m : Int) != (m : Int)) = false := bne_self_eq_false' _
      clear hm
      go_upto_region 18 with fail
      replace H := Lib.hid (H.out.below (Below.refl wr.heap.size wr).drew)
      replace HB := Lib.hid HB.out.drew
      have z0 := pw_cell_below HB.out Z0.out
      have y0 : wr.drew.cell? ⟨w.heap.size + 1, 0, none⟩ = some (.int .i64 v.1) := pw_cell_below HB.out (blk_cell X1.out 0)
      refine start_ (n := 7) (S := fun W => W.cell? ⟨w.heap.size, 0, none⟩ = some (.slice A n cap) ∧ W.cell? ⟨w.heap.size + 1, 0, none⟩ = some (.int .i64 v.1)) (ds := []) (ba 7 0) (by kernel_rfl) rfl rfl ⟨z0, y0⟩ (fun hHeld => ?_)
      generalize wr.drew = w3 at z0 y0 H HB hHeld ⊢
      refine pS (i := 0) (N := some 160) (ba 7 1) rfl rfl ?_
      refine pS (i := 1) (N := some 161) (ba 7 3) rfl rfl ?_
      refine tS hHeld (i := 3) (N := some 163) (ba 7 11) rfl rfl ?_
      refine pS (i := 4) (N := some 164) (ba 7 27) rfl rfl ?_
      refine one_ (i := 2) (N := some 162) (ba 7 31) rfl rfl (by kernel_rfl) (by decide) (fun K hK => ?_)
      refine goes_ Try.func16 (by kernel_rfl) rfl #[.pointer (some ⟨g, 0, none⟩), .int .i64 (j : Int)] (by rfl) rfl rfl (by (try simp only [List.map_toArray, List.map_cons, List.map_nil]); first | done | rfl) ?_
      refine (HC1.out w3 H.out).mono ?_
      rintro e w4 ⟨rfl, rfl⟩
      refine ⟨_, rfl, ?_⟩
      refine hK.out _ _ ⟨z0, y0⟩ (fun hHeld => nS (N := 162) ?_)
      clear hK K
      refine one_ (i := 5) (N := some 165) (ba 7 63) rfl rfl (by kernel_rfl) (by decide) (fun K hK => ?_)
      refine goes_ Try.func75 (by kernel_rfl) rfl #[dt A n cap, .int .i64 (j : Int)] (by rfl) rfl rfl (by (try simp only [List.map_toArray, List.map_cons, List.map_nil]); first | done | rfl) ?_
      refine (docCountEq (HV.out.below (HB0.out.trans (HB.out.mono HB0.out.size))) HL.out (j : Int) HM.out).mono ?_
      rintro e w5 ⟨rfl, hb⟩
      replace z0 := pw_cell_below hb z0
      replace y0 := pw_cell_below hb y0
      have H5 := Lib.hid (H.out.below hb)
      have HB5 := Lib.hid (HB.out.trans (hb.mono HB.out.size))
      clear hb
      refine ⟨_, rfl, ?_⟩
      refine hK.out _ _ ⟨z0, y0⟩ (fun hHeld => nS (N := 165) ?_)
      clear hK K
      refine pS (i := 6) (N := some 166) (ba 7 127) rfl rfl ?_
      refine done_ (by kernel_rfl) ?_
      go_wp2
      go_roundg (gk - 1)
      case measure => have := hj.out; omega
      case rel => exact ⟨j + 1, by first | rfl | exact congrArg _ wj, (by have := hj.out; omega : j + 1 + (gk - 1) = 6), H5, HB5⟩
    · have e : j = 6 := by have := hj.out; omega
      subst e
      clear hj hlt
      have z0 := pw_cell_below HB.out Z0.out
      have X2 : Hid (BoxAt wr (w.heap.size + 1) v.1 v.2.1 v.2.2.1 v.2.2.2.1 v.2.2.2.2) := (HB.out.block _ (blk_lt X1.out)).trans X1.out
      replace H := Lib.hid (H.out.below (Below.refl wr.heap.size wr).drew)
      replace HB := Lib.hid HB.out.drew
      have HALL : Hid (∀ W, Tal W S g u l → Calls Try.prog 17 #[.pointer (some ⟨g, 0, none⟩)] W fun e w' => e = .returned (.int .i64 (n : Int)) ∧ W = w') := fun W hW => by have e := hW.all; rwa [HV.out.1] at e
      obtain ⟨mf, hmf⟩ : ∃ m, faultR l = m := ⟨_, rfl⟩
      have MF := Lib.hid hmf
      obtain ⟨mb, hmb⟩ : ∃ m, belowR l a = m := ⟨_, rfl⟩
      have MB := Lib.hid hmb
      obtain ⟨mo, hmo⟩ : ∃ m, oftenR l v = m := ⟨_, rfl⟩
      have MO := Lib.hid hmo
      have HOF : Hid (∀ W, Tal W S g u l → Calls Try.prog 20 #[.pointer (some ⟨g, 0, none⟩), vv v] W fun e w' => e = .returned (.int .i64 (mo : Int)) ∧ Below W.heap.size W w') := fun W hW => by rw [← hmo]; exact hW.often v
      obtain ⟨nu, hnu, hun, hhi⟩ := unlike_any (cap := cap) H.out HV.out HL.out
      have HNU := Lib.hid hnu
      have HUN := Lib.hid hun
      have HHI := Lib.hid hhi
      have pn : ((n : Int) == (n : Int)) = true := beq_self_eq_true _
      have pf : ((mf : Int) == (mf : Int)) = true := beq_self_eq_true _
      have pb : ((mb : Int) == (mb : Int)) = true := beq_self_eq_true _
      have po : ((mo : Int) == (mo : Int)) = true := beq_self_eq_true _
      clear hmf hmb hmo hnu hun hhi
      go_upto_region 20 with fail
      replace z0 := pw_cell_below (Below.refl wr.heap.size wr).drew z0
      have y0 : wr.drew.cell? ⟨w.heap.size + 1, 0, none⟩ = some (.int .i64 v.1) := pw_cell_below (Below.refl wr.heap.size wr).drew (blk_cell X2.out 0)
      have y1 : wr.drew.cell? ⟨w.heap.size + 1, 1, none⟩ = some (.int .i64 v.2.1) := pw_cell_below (Below.refl wr.heap.size wr).drew (blk_cell X2.out 1)
      have y2 : wr.drew.cell? ⟨w.heap.size + 1, 2, none⟩ = some (.string v.2.2.1) := pw_cell_below (Below.refl wr.heap.size wr).drew (blk_cell X2.out 2)
      have y3 : wr.drew.cell? ⟨w.heap.size + 1, 3, none⟩ = some (.bool v.2.2.2.1) := pw_cell_below (Below.refl wr.heap.size wr).drew (blk_cell X2.out 3)
      have y4 : wr.drew.cell? ⟨w.heap.size + 1, 4, none⟩ = some (.int .i64 v.2.2.2.2) := pw_cell_below (Below.refl wr.heap.size wr).drew (blk_cell X2.out 4)
      refine start_ (n := 49) (S := fun W => W.cell? ⟨w.heap.size, 0, none⟩ = some (.slice A n cap) ∧ W.cell? ⟨w.heap.size + 1, 0, none⟩ = some (.int .i64 v.1) ∧ W.cell? ⟨w.heap.size + 1, 1, none⟩ = some (.int .i64 v.2.1) ∧ W.cell? ⟨w.heap.size + 1, 2, none⟩ = some (.string v.2.2.1) ∧ W.cell? ⟨w.heap.size + 1, 3, none⟩ = some (.bool v.2.2.2.1) ∧ W.cell? ⟨w.heap.size + 1, 4, none⟩ = some (.int .i64 v.2.2.2.2)) (ds := []) (ba 49 0) (by kernel_rfl) rfl rfl ⟨z0, y0, y1, y2, y3, y4⟩ (fun hHeld => ?_)
      generalize wr.drew = w3 at z0 y0 y1 y2 y3 y4 H HB hHeld ⊢
      refine pS (i := 0) (N := some 167) (ba 49 1) rfl rfl ?_
      refine pS (i := 2) (N := some 169) (ba 49 5) rfl rfl ?_
      refine tS hHeld (i := 3) (N := some 170) (ba 49 13) rfl rfl ?_
      refine pS (i := 4) (N := some 171) (ba 49 29) rfl rfl ?_
      refine one_ (i := 1) (N := some 168) (ba 49 31) rfl rfl (by kernel_rfl) (by decide) (fun K hK => ?_)
      refine goes_ Try.func17 (by kernel_rfl) rfl #[.pointer (some ⟨g, 0, none⟩)] (by rfl) rfl rfl (by (try simp only [List.map_toArray, List.map_cons, List.map_nil]); first | done | rfl) ?_
      refine (HALL.out _ H.out).mono ?_
      rintro e w_ ⟨rfl, rfl⟩
      refine ⟨_, rfl, ?_⟩
      refine hK.out _ _ ⟨z0, y0, y1, y2, y3, y4⟩ (fun hHeld => nS (N := 168) ?_)
      clear hK K
      refine pS (i := 5) (N := some 172) (ba 49 63) rfl rfl ?_
      refine pS (i := 6) (N := some 173) (ba 49 127) rfl rfl ?_
      refine pS (i := 7) (N := some 174) (ba 49 255) rfl rfl ?_
      refine tS hHeld (i := 9) (N := some 176) (ba 49 767) rfl rfl ?_
      refine one_ (i := 8) (N := some 175) (ba 49 1023) rfl rfl (by kernel_rfl) (by decide) (fun K hK => ?_)
      refine goes_ Try.func18 (by kernel_rfl) rfl #[.pointer (some ⟨g, 0, none⟩)] (by rfl) rfl rfl (by (try simp only [List.map_toArray, List.map_cons, List.map_nil]); first | done | rfl) ?_
      refine (H.out.faultEq mf MF.out).mono ?_
      rintro e w_ ⟨rfl, rfl⟩
      refine ⟨_, rfl, ?_⟩
      refine hK.out _ _ ⟨z0, y0, y1, y2, y3, y4⟩ (fun hHeld => nS (N := 175) ?_)
      clear hK K
      refine one_ (i := 10) (N := some 177) (ba 49 2047) rfl rfl (by kernel_rfl) (by decide) (fun K hK => ?_)
      refine goes_ Try.func76 (by kernel_rfl) rfl #[dt A n cap] (by rfl) rfl rfl (by (try simp only [List.map_toArray, List.map_cons, List.map_nil]); first | done | rfl) ?_
      refine (docFaultEq (HV.out.below (HB0.out.trans (HB.out.mono HB0.out.size))) HL.out HOK.out MF.out).mono ?_
      rintro e w4 ⟨rfl, hb⟩
      replace z0 := pw_cell_below hb z0
      replace y0 := pw_cell_below hb y0
      replace y1 := pw_cell_below hb y1
      replace y2 := pw_cell_below hb y2
      replace y3 := pw_cell_below hb y3
      replace y4 := pw_cell_below hb y4
      replace H := Lib.hid (H.out.below hb)
      replace HB := Lib.hid (HB.out.trans (hb.mono HB.out.size))
      clear hb
      refine ⟨_, rfl, ?_⟩
      refine hK.out _ _ ⟨z0, y0, y1, y2, y3, y4⟩ (fun hHeld => nS (N := 177) ?_)
      clear hK K
      refine pS (i := 11) (N := some 178) (ba 49 4095) rfl rfl ?_
      refine pS (i := 12) (N := some 179) (ba 49 8191) rfl rfl ?_
      refine pS (i := 13) (N := some 180) (ba 49 16383) rfl rfl ?_
      refine pS (i := 14) (N := some 181) (ba 49 32767) rfl rfl ?_
      refine pS (i := 15) (N := some 182) (ba 49 65535) rfl rfl ?_
      refine tS hHeld (i := 17) (N := some 184) (ba 49 196607) rfl rfl ?_
      refine pS (i := 18) (N := some 185) (ba 49 458751) rfl rfl ?_
      refine one_ (i := 16) (N := some 183) (ba 49 524287) rfl rfl (by kernel_rfl) (by decide) (fun K hK => ?_)
      refine goes_ Try.func19 (by kernel_rfl) rfl #[.pointer (some ⟨g, 0, none⟩), .int .i64 a] (by rfl) rfl rfl (by (try simp only [List.map_toArray, List.map_cons, List.map_nil]); first | done | rfl) ?_
      refine (H.out.belowEq a mb MB.out).mono ?_
      rintro e w5 ⟨rfl, hb⟩
      replace z0 := pw_cell_below hb z0
      replace y0 := pw_cell_below hb y0
      replace y1 := pw_cell_below hb y1
      replace y2 := pw_cell_below hb y2
      replace y3 := pw_cell_below hb y3
      replace y4 := pw_cell_below hb y4
      replace H := Lib.hid (H.out.below hb)
      replace HB := Lib.hid (HB.out.trans (hb.mono HB.out.size))
      clear hb
      refine ⟨_, rfl, ?_⟩
      refine hK.out _ _ ⟨z0, y0, y1, y2, y3, y4⟩ (fun hHeld => nS (N := 183) ?_)
      clear hK K
      refine one_ (i := 19) (N := some 186) (ba 49 1048575) rfl rfl (by kernel_rfl) (by decide) (fun K hK => ?_)
      refine goes_ Try.func77 (by kernel_rfl) rfl #[dt A n cap, .int .i64 a] (by rfl) rfl rfl (by (try simp only [List.map_toArray, List.map_cons, List.map_nil]); first | done | rfl) ?_
      refine (docBelowEq (HV.out.below (HB0.out.trans (HB.out.mono HB0.out.size))) HL.out a MB.out).mono ?_
      rintro e w6 ⟨rfl, hb⟩
      replace z0 := pw_cell_below hb z0
      replace y0 := pw_cell_below hb y0
      replace y1 := pw_cell_below hb y1
      replace y2 := pw_cell_below hb y2
      replace y3 := pw_cell_below hb y3
      replace y4 := pw_cell_below hb y4
      replace H := Lib.hid (H.out.below hb)
      replace HB := Lib.hid (HB.out.trans (hb.mono HB.out.size))
      clear hb
      refine ⟨_, rfl, ?_⟩
      refine hK.out _ _ ⟨z0, y0, y1, y2, y3, y4⟩ (fun hHeld => nS (N := 186) ?_)
      clear hK K
      refine pS (i := 20) (N := some 187) (ba 49 2097151) rfl rfl ?_
      refine pS (i := 21) (N := some 188) (ba 49 4194303) rfl rfl ?_
      refine pS (i := 22) (N := some 189) (ba 49 8388607) rfl rfl ?_
      refine pS (i := 23) (N := some 190) (ba 49 16777215) rfl rfl ?_
      refine tS hHeld (i := 24) (N := some 191) (ba 49 33554431) rfl rfl ?_
      refine tS hHeld (i := 26) (N := some 193) (ba 49 100663295) rfl rfl ?_
      refine tS hHeld (i := 27) (N := some 194) (ba 49 234881023) rfl rfl ?_
      refine one_ (i := 25) (N := some 192) (ba 49 268435455) rfl rfl (by kernel_rfl) (by decide) (fun K hK => ?_)
      refine goes_ Try.func20 (by kernel_rfl) rfl #[.pointer (some ⟨g, 0, none⟩), vv v] (by rfl) rfl rfl (by (try simp only [List.map_toArray, List.map_cons, List.map_nil]); first | done | rfl) ?_
      refine (HOF.out _ H.out).mono ?_
      rintro e w7 ⟨rfl, hb⟩
      replace z0 := pw_cell_below hb z0
      replace y0 := pw_cell_below hb y0
      replace y1 := pw_cell_below hb y1
      replace y2 := pw_cell_below hb y2
      replace y3 := pw_cell_below hb y3
      replace y4 := pw_cell_below hb y4
      replace H := Lib.hid (H.out.below hb)
      replace HB := Lib.hid (HB.out.trans (hb.mono HB.out.size))
      clear hb
      refine ⟨_, rfl, ?_⟩
      refine hK.out _ _ ⟨z0, y0, y1, y2, y3, y4⟩ (fun hHeld => nS (N := 192) ?_)
      clear hK K
      refine one_ (i := 28) (N := some 195) (ba 49 536870911) rfl rfl (by kernel_rfl) (by decide) (fun K hK => ?_)
      refine goes_ Try.func78 (by kernel_rfl) rfl #[dt A n cap, vv v] (by rfl) rfl rfl (by (try simp only [List.map_toArray, List.map_cons, List.map_nil]); first | done | rfl) ?_
      refine (docOftenEq (HV.out.below (HB0.out.trans (HB.out.mono HB0.out.size))) HL.out v MO.out).mono ?_
      rintro e w8 ⟨rfl, hb⟩
      replace z0 := pw_cell_below hb z0
      replace y0 := pw_cell_below hb y0
      replace y1 := pw_cell_below hb y1
      replace y2 := pw_cell_below hb y2
      replace y3 := pw_cell_below hb y3
      replace y4 := pw_cell_below hb y4
      replace H := Lib.hid (H.out.below hb)
      replace HB := Lib.hid (HB.out.trans (hb.mono HB.out.size))
      clear hb
      refine ⟨_, rfl, ?_⟩
      refine hK.out _ _ ⟨z0, y0, y1, y2, y3, y4⟩ (fun hHeld => nS (N := 195) ?_)
      clear hK K
      refine pS (i := 29) (N := some 196) (ba 49 1073741823) rfl rfl ?_
      refine pS (i := 30) (N := some 197) (ba 49 2147483647) rfl rfl ?_
      refine pS (i := 31) (N := some 198) (ba 49 4294967295) rfl rfl ?_
      refine pS (i := 32) (N := some 199) (ba 49 8589934591) rfl rfl ?_
      refine tS hHeld (i := 34) (N := some 201) (ba 49 25769803775) rfl rfl ?_
      obtain ⟨h1, hh1, hz1, hcall1⟩ := HHI.out _ H.out
      have dh1 : (h1 : Int) ≤ (tallN nu : Int) := by omega
      have HCL1 := Lib.hid hcall1
      clear hcall1 hz1 hh1
      refine one_ (i := 33) (N := some 200) (ba 49 34359738367) rfl rfl (by kernel_rfl) (by decide) (fun K hK => ?_)
      refine goes_ Try.func21 (by kernel_rfl) rfl #[.pointer (some ⟨g, 0, none⟩)] (by rfl) rfl rfl (by (try simp only [List.map_toArray, List.map_cons, List.map_nil]); first | done | rfl) ?_
      refine (HCL1.out).mono ?_
      rintro e w9 ⟨rfl, hb⟩
      replace z0 := pw_cell_below hb z0
      replace y0 := pw_cell_below hb y0
      replace y1 := pw_cell_below hb y1
      replace y2 := pw_cell_below hb y2
      replace y3 := pw_cell_below hb y3
      replace y4 := pw_cell_below hb y4
      replace H := Lib.hid (H.out.below hb)
      replace HB := Lib.hid (HB.out.trans (hb.mono HB.out.size))
      clear hb
      refine ⟨_, rfl, ?_⟩
      refine hK.out _ _ ⟨z0, y0, y1, y2, y3, y4⟩ (fun hHeld => nS (N := 200) ?_)
      clear hK K
      refine one_ (i := 35) (N := some 202) (ba 49 68719476735) rfl rfl (by kernel_rfl) (by decide) (fun K hK => ?_)
      refine goes_ Try.func79 (by kernel_rfl) rfl #[dt A n cap] (by rfl) rfl rfl (by (try simp only [List.map_toArray, List.map_cons, List.map_nil]); first | done | rfl) ?_
      refine (HUN.out _ (HV.out.below (HB0.out.trans (HB.out.mono HB0.out.size)))).mono ?_
      rintro e w10 ⟨rfl, hb⟩
      replace z0 := pw_cell_below hb z0
      replace y0 := pw_cell_below hb y0
      replace y1 := pw_cell_below hb y1
      replace y2 := pw_cell_below hb y2
      replace y3 := pw_cell_below hb y3
      replace y4 := pw_cell_below hb y4
      replace H := Lib.hid (H.out.below hb)
      replace HB := Lib.hid (HB.out.trans (hb.mono HB.out.size))
      clear hb
      refine ⟨_, rfl, ?_⟩
      refine hK.out _ _ ⟨z0, y0, y1, y2, y3, y4⟩ (fun hHeld => nS (N := 202) ?_)
      clear hK K
      refine one_ (i := 36) (N := some 203) (ba 49 137438953471) rfl rfl (by kernel_rfl) (by decide) (fun K hK => ?_)
      refine goes_ Try.func36 (by kernel_rfl) rfl #[.int .i64 (nu : Int)] (by rfl) rfl rfl (by (try simp only [List.map_toArray, List.map_cons, List.map_nil]); first | done | rfl) ?_
      refine (tall_any nu HNU.out _).mono ?_
      rintro e w11 ⟨rfl, hb⟩
      replace z0 := pw_cell_below hb z0
      replace y0 := pw_cell_below hb y0
      replace y1 := pw_cell_below hb y1
      replace y2 := pw_cell_below hb y2
      replace y3 := pw_cell_below hb y3
      replace y4 := pw_cell_below hb y4
      replace H := Lib.hid (H.out.below hb)
      replace HB := Lib.hid (HB.out.trans (hb.mono HB.out.size))
      clear hb
      refine ⟨_, rfl, ?_⟩
      refine hK.out _ _ ⟨z0, y0, y1, y2, y3, y4⟩ (fun hHeld => nS (N := 203) ?_)
      clear hK K
      refine pS (i := 37) (N := some 204) (ba 49 274877906943) rfl rfl ?_
      refine pS (i := 38) (N := some 205) (ba 49 549755813887) rfl rfl ?_
      refine pS (i := 39) (N := some 206) (ba 49 1099511627775) rfl rfl ?_
      refine pS (i := 40) (N := some 207) (ba 49 2199023255551) rfl rfl ?_
      refine tS hHeld (i := 43) (N := some 210) (ba 49 10995116277759) rfl rfl ?_
      obtain ⟨h2, hh2, hz2, hcall2⟩ := HHI.out _ H.out
      have HCL2 := Lib.hid hcall2
      clear hcall2 hh2
      refine one_ (i := 41) (N := some 208) (ba 49 13194139533311) rfl rfl (by kernel_rfl) (by decide) (fun K hK => ?_)
      refine goes_ Try.func21 (by kernel_rfl) rfl #[.pointer (some ⟨g, 0, none⟩)] (by rfl) rfl rfl (by (try simp only [List.map_toArray, List.map_cons, List.map_nil]); first | done | rfl) ?_
      refine (HCL2.out).mono ?_
      rintro e w12 ⟨rfl, hb⟩
      replace z0 := pw_cell_below hb z0
      replace y0 := pw_cell_below hb y0
      replace y1 := pw_cell_below hb y1
      replace y2 := pw_cell_below hb y2
      replace y3 := pw_cell_below hb y3
      replace y4 := pw_cell_below hb y4
      replace H := Lib.hid (H.out.below hb)
      replace HB := Lib.hid (HB.out.trans (hb.mono HB.out.size))
      clear hb
      refine ⟨_, rfl, ?_⟩
      refine hK.out _ _ ⟨z0, y0, y1, y2, y3, y4⟩ (fun hHeld => nS (N := 208) ?_)
      clear hK K
      refine pS (i := 42) (N := some 209) (ba 49 17592186044415) rfl rfl ?_
      refine one_ (i := 44) (N := some 211) (ba 49 35184372088831) rfl rfl (by kernel_rfl) (by decide) (fun K hK => ?_)
      refine goes_ Try.func79 (by kernel_rfl) rfl #[dt A n cap] (by rfl) rfl rfl (by (try simp only [List.map_toArray, List.map_cons, List.map_nil]); first | done | rfl) ?_
      refine (HUN.out _ (HV.out.below (HB0.out.trans (HB.out.mono HB0.out.size)))).mono ?_
      rintro e w13 ⟨rfl, hb⟩
      replace z0 := pw_cell_below hb z0
      replace y0 := pw_cell_below hb y0
      replace y1 := pw_cell_below hb y1
      replace y2 := pw_cell_below hb y2
      replace y3 := pw_cell_below hb y3
      replace y4 := pw_cell_below hb y4
      replace H := Lib.hid (H.out.below hb)
      replace HB := Lib.hid (HB.out.trans (hb.mono HB.out.size))
      clear hb
      refine ⟨_, rfl, ?_⟩
      refine hK.out _ _ ⟨z0, y0, y1, y2, y3, y4⟩ (fun hHeld => nS (N := 211) ?_)
      clear hK K
      refine pS (i := 45) (N := some 212) (ba 49 70368744177663) rfl rfl ?_
      refine pS (i := 46) (N := some 213) (ba 49 140737488355327) rfl rfl ?_
      refine pS (i := 47) (N := some 214) (ba 49 281474976710655) rfl rfl ?_
      refine pS (i := 48) (N := some 10) (ba 49 562949953421311) rfl rfl ?_
      refine done_ (by kernel_rfl) ?_
      go_wp2
      go_ret
      exact ⟨rfl, HB0.out.trans (HB.out.mono HB0.out.size)⟩
end Go.Proofs.Ytjhinakfoejpbaa.T
