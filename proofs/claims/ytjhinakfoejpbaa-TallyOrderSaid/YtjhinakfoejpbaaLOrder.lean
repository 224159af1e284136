/- TallyOrder: whatever is handed in, the call returns true, and nothing that lay there is turned. No condition stands open beyond what it reads. -/
import Derived.Test.YtjhinakfoejpbaaJ7
set_option linter.unusedVariables false
set_option linter.unusedSimpArgs false
namespace Go.Proofs.Ytjhinakfoejpbaa.T
open Go.RowKit Go.Proofs.Ytjhinakfoejpbaa.WPure Go.Proofs.YtjhinakfoejpbaaW.PrintWords Go.Proofs.YtjhinakfoejpbaaW.PrintLast Go.Proofs.YtjhinakfoejpbaaW.PrintMore
set_option maxHeartbeats 4000000 in
set_option maxRecDepth 100000 in
theorem order_out (A : Option Addr) (n cap : Nat) (A2 : Option Addr) (n2 cap2 : Nat) (k : Int) (w : World) (hn : 200 < n ∨ 200 < n2) : Calls Try.prog 5 #[.slice A n cap, .slice A2 n2 cap2, .int .i64 k] w fun e w' => e = .returned (.bool true) ∧ Below w.heap.size w w' := by
  have HB := Lib.hid (Below.refl w.heap.size w)
  by_cases h0 : 200 < n
  · clear hn
    go_enter Try.func5, Try.ntmps5
    go_wp2_with (go_at_call 22; refine (lives_any _).mono ?_; rintro e w5 ⟨rfl, hb⟩; have n0_ := Lib.hid (HB.out.trans (hb.mono HB.out.size)); clear HB hb; have HB := n0_; clear n0_)
    go_ret
    exact ⟨rfl, HB.out⟩
  · have h1 : 200 < n2 := hn.resolve_left h0
    clear hn
    go_enter Try.func5, Try.ntmps5
    go_wp2_with (go_at_call 22; refine (lives_any _).mono ?_; rintro e w5 ⟨rfl, hb⟩; have n0_ := Lib.hid (HB.out.trans (hb.mono HB.out.size)); clear HB hb; have HB := n0_; clear n0_)
    go_ret
    exact ⟨rfl, HB.out⟩
set_option maxHeartbeats 8000000 in
set_option maxRecDepth 100000 in
theorem order_main (A : Option Addr) (n cap : Nat) (l : List Val) (A2 : Option Addr) (n2 cap2 : Nat) (l2 : List Val) (k : Int) (w : World) (h : VRow w A n l) (h2 : VRow w A2 n2 l2) (hn : n ≤ 200) (hn2 : n2 ≤ 200) : Calls Try.prog 5 #[.slice A n cap, .slice A2 n2 cap2, .int .i64 k] w fun e w' => e = .returned (.bool true) ∧ Below w.heap.size w w' := by
  have HV := Lib.hid h
  have HV2 := Lib.hid h2
  have HN := Lib.hid hn
  have HN2 := Lib.hid hn2
  have hu55 := Try.underlying55
  have d0 : ¬ 200 < n := by omega
  have d1 : ¬ 200 < n2 := by omega
  have FA : Hid True := trivial
  clear h h2 hn hn2
  go_enter Try.func5, Try.ntmps5
  go_upto_region 4 with (first | (go_at_call 23; have _q := FA; clear _q FA; refine (Tal.new w).mono ?_; rintro e w1 ⟨rfl, ht, hb⟩; have Ht := Lib.hid ht; have HB1 := Lib.hid hb; clear ht hb) | (go_at_call 23; refine (Tal.new w1).mono ?_; rintro e w2 ⟨rfl, ht, hb⟩; have Hu := Lib.hid ht; have HB2 := Lib.hid hb; clear ht hb))
  obtain ⟨gt, hgt⟩ : ∃ g, w.heap.size + 2 = g := ⟨_, rfl⟩
  obtain ⟨gu, hgu⟩ : ∃ g, w1.heap.size + 2 = g := ⟨_, rfl⟩
  rw [hgt] at Ht ⊢
  rw [hgu] at Hu ⊢
  clear hgt hgu
  obtain ⟨B1, hB1⟩ : ∃ B, w1.heap.size = B := ⟨_, rfl⟩
  obtain ⟨B2, hB2⟩ : ∃ B, w2.heap.size = B := ⟨_, rfl⟩
  have T0 : Hid (Tal w2 (fun b => w.heap.size ≤ b ∧ b < B1 ∨ B2 ≤ b) gt 0 []) := (Ht.out.narrow (S' := (fun b => w.heap.size ≤ b ∧ b < B1 ∨ B2 ≤ b)) (fun b q1 q2 => .inl ⟨q1, by rw [← hB1]; exact q2⟩)).below HB2.out
  have U0 : Hid (Tal w2 (fun b => B1 ≤ b ∧ b < B2) gu 0 []) := Hu.out.narrow (S' := (fun b => B1 ≤ b ∧ b < B2)) (fun b q1 q2 => ⟨by rw [← hB1]; exact q1, by rw [← hB2]; exact q2⟩)
  have HB : Hid (Below w.heap.size w w2) := HB1.out.trans (HB2.out.mono HB1.out.size)
  have HBB : Hid (w.heap.size ≤ B1 ∧ B1 ≤ B2) := ⟨by rw [← hB1]; exact HB1.out.size, by rw [← hB1, ← hB2]; exact HB2.out.size⟩
  have HBC : Hid (B2 ≤ w2.heap.size) := Nat.le_of_eq hB2.symm
  clear Ht Hu HB1 HB2 hB1 hB2 d0 d1
  go_wp2
  go_loopg [9] n (fun kq v wr => ∃ i : Nat, v = .int .i64 (i : Int) ∧ Hid (i + kq = n) ∧ Hid (Tal wr (fun b => w.heap.size ≤ b ∧ b < B1 ∨ B2 ≤ b) gt i (okH (l.take i))) ∧ Hid (Tal wr (fun b => B1 ≤ b ∧ b < B2) gu 0 []) ∧ Hid (Below w.heap.size w wr) ∧ Hid (B2 ≤ wr.heap.size))
  case atStart => exact ⟨0, rfl, (Nat.zero_add n : 0 + n = n), T0, U0, HB, HBC⟩
  case round =>
    clear T0 U0 HB HBC
    obtain ⟨i, rfl, hi, Ht, Hu, HB, HBC⟩ := hrel
    by_cases hlt : i < n
    · obtain ⟨ad, x, rfl, hx, c0, c1, c2, c3, c4⟩ := (HV.out.below HB.out).at hlt
      have n0 : ((i : Int)).toNat = i := Int.toNat_natCast i
      have p0 : (0 : Int) ≤ (i : Int) := Int.natCast_nonneg i
      have l0 : (i : Int) < (n : Int) := by omega
      have l1 : i < n := hlt
      have wi : wrap64 ((i : Int) + 1) = (i : Int) + 1 := by have := HN.out; unfold wrap64; omega
      have HI := Lib.hid hlt
      have HP : Hid ((addL (okH (l.take i)) x).Perm (okH (l.take (i + 1)))) := (okH_snoc hx).resolve_right (by
        have e1 := okH_len (l.take i)
        have e2 : (l.take i).length ≤ i := by
          rw [List.length_take]
          omega
        have e3 := HI.out
        have e4 := HN.out
        omega)
      clear hlt hx
      go_wp2_with (go_at_call 14; refine (Ht.out.add x (by have := HI.out; have := HN.out; omega) (fun b hb => .inr (Nat.le_trans HBC.out hb))).mono ?_; rintro e w3 ⟨rfl, ht, hk⟩; have T3 := Lib.hid (ht.perm HP.out); have U3 := Lib.hid (Hu.out.kept hk (fun b q1 _ q2 => by omega)); have HB3 : Hid (Below w.heap.size w w3) := HB.out.trans (hk.below HB.out.size (fun b q => by have := HBB.out; omega)); have HBC3 : Hid (B2 ≤ w3.heap.size) := Nat.le_trans HBC.out hk.size; clear ht hk)
      go_roundg (gk - 1)
      case measure => have := hi.out; have := HI.out; omega
      case rel => exact ⟨i + 1, rfl, (by have := hi.out; have := HI.out; omega : i + 1 + (gk - 1) = n), T3, U3, HB3, HBC3⟩
    · have e : i = n := by have := hi.out; omega
      have l1 : ¬ i < n := hlt
      have T1 : Hid (Tal wr (fun b => w.heap.size ≤ b ∧ b < B1 ∨ B2 ≤ b) gt n (okH l)) := by have e1 := Ht.out; rw [e, ← HV.out.1, List.take_length, HV.out.1] at e1; exact e1
      obtain ⟨B3, hB3⟩ : ∃ B, wr.heap.size = B := ⟨_, rfl⟩
      have T2 : Hid (Tal wr (fun b => (w.heap.size ≤ b ∧ b < B1 ∨ B2 ≤ b) ∧ b < B3) gt n (okH l)) := T1.out.narrow (S' := (fun b => (w.heap.size ≤ b ∧ b < B1 ∨ B2 ≤ b) ∧ b < B3)) (fun b q1 q2 => ⟨q1, by rw [← hB3]; exact q2⟩)
      have U2 : Hid (Tal wr (fun b => B1 ≤ b ∧ b < B2 ∨ B3 ≤ b) gu 0 []) := Hu.out.narrow (S' := (fun b => B1 ≤ b ∧ b < B2 ∨ B3 ≤ b)) (fun b q1 q2 => .inl q1)
      have HBD : Hid (B3 ≤ wr.heap.size) := Nat.le_of_eq hB3.symm
      have HBE : Hid (B2 ≤ B3) := by rw [← hB3]; exact HBC
      clear hi hlt T1 Ht Hu HBC hB3
      have wn : wrap64 ((n : Int) - 1) = (n : Int) - 1 := by have := HN.out; unfold wrap64; omega
      go_upto_region 11 with fail
      clear l1 e
      have hM : (l2.take n).length = min n n2 := by rw [List.length_take, HV2.out.1]
      obtain ⟨m, hm⟩ : ∃ m, l2.take n = m := ⟨_, rfl⟩
      rw [hm] at hM
      have MAT : Hid (∀ j, j < n → j < n2 → m[j]? = l2[j]?) := fun j h1 _ => by rw [← hm, List.getElem?_take, if_pos h1]
      have HM := Lib.hid hM
      have U3 : Hid (Tal wr (fun b => B1 ≤ b ∧ b < B2 ∨ B3 ≤ b) gu (3 * (n - n)) (okH (l.drop n) ++ okH (m.drop n))) := by
        rw [List.drop_eq_nil_of_le (by rw [HV.out.1]; exact Nat.le_refl _), List.drop_eq_nil_of_le (by rw [hM]; omega), Nat.sub_self]
        exact U2
      clear hm hM U2
      go_loopg [10] n (fun kq v wr => ∃ z : Int, v = .int .i64 z ∧ Hid (z = (kq : Int) - 1) ∧ Hid (kq ≤ n) ∧ Hid (Tal wr (fun b => (w.heap.size ≤ b ∧ b < B1 ∨ B2 ≤ b) ∧ b < B3) gt n (okH l)) ∧ Hid (Tal wr (fun b => B1 ≤ b ∧ b < B2 ∨ B3 ≤ b) gu (3 * (n - kq)) (okH (l.drop kq) ++ okH (m.drop kq))) ∧ Hid (Below w.heap.size w wr) ∧ Hid (B3 ≤ wr.heap.size))
      case atStart => exact ⟨_, rfl, (rfl : (n : Int) - 1 = _), Nat.le_refl n, T2, U3, HB, HBD⟩
      case round =>
        clear T2 U3 HB HBD wn
        obtain ⟨z, rfl, hz, hkn, Ht, Hu, HB, HBD⟩ := hrel
        rcases Nat.eq_zero_or_pos gk with h0 | h0
        · have ez : z = -1 := by have := hz.out; rw [h0] at this; exact this
          have U4 : Hid (Tal wr (fun b => B1 ≤ b ∧ b < B2 ∨ B3 ≤ b) gu (3 * n + 0) (okH l ++ okH (m.drop 0))) := by have e := Hu.out; rw [h0] at e; exact e
          subst ez
          clear hz hkn h0 Hu
          go_wp2
          go_loopg [11] (min n n2) (fun kq v wr => ∃ j : Nat, v = .int .i64 (j : Int) ∧ Hid (j + kq = min n n2) ∧ Hid (Tal wr (fun b => (w.heap.size ≤ b ∧ b < B1 ∨ B2 ≤ b) ∧ b < B3) gt n (okH l)) ∧ Hid (Tal wr (fun b => B1 ≤ b ∧ b < B2 ∨ B3 ≤ b) gu (3 * n + j) (okH l ++ okH (m.drop j))) ∧ Hid (Below w.heap.size w wr) ∧ Hid (B3 ≤ wr.heap.size))
          case atStart => exact ⟨0, rfl, (Nat.zero_add _ : 0 + min n n2 = min n n2), Ht, U4, HB, HBD⟩
          case round =>
            clear Ht U4 HB HBD
            obtain ⟨j, rfl, hj, Ht, Hu, HB, HBD⟩ := hrel
            by_cases hlt : j < n ∧ j < n2
            · obtain ⟨ad, y, hA2, hy, g0, g1, g2, g3, g4⟩ := HV2.out.at hlt.2
              subst hA2
              have G := Lib.hid (And.intro g0 (And.intro g1 (And.intro g2 (And.intro g3 g4))))
              have f0 := pw_cell_below HB.out g0
              have f1 := pw_cell_below HB.out g1
              have f2 := pw_cell_below HB.out g2
              have f3 := pw_cell_below HB.out g3
              have f4 := pw_cell_below HB.out g4
              have n0 : ((j : Int)).toNat = j := Int.toNat_natCast j
              have p0 : (0 : Int) ≤ (j : Int) := Int.natCast_nonneg j
              have l0 : (j : Int) < (n : Int) := by omega
              have l1 : j < n := hlt.1
              have l2' : (j : Int) < (n2 : Int) := by omega
              have l3 : j < n2 := hlt.2
              have hym : m[j]? = some y := (MAT.out j hlt.1 hlt.2).trans hy
              have wj : wrap64 ((j : Int) + 1) = (j : Int) + 1 := by have := HN.out; unfold wrap64; omega
              have HLT := Lib.hid hlt
              clear g0 g1 g2 g3 g4 hlt hy
              by_cases hyo : okV y = true
              · have HDB : Hid (dropE (okH l ++ okH (m.drop j)) y = 0 ∧ (dropL (okH l ++ okH (m.drop j)) y).Perm (okH l ++ okH (m.drop (j + 1)))) := drop_back hym hyo
                have HYO : Hid (rightB y.1 y.2.1 y.2.2.1 y.2.2.2.1 y.2.2.2.2 = true) := hyo
                clear hym hyo
                go_wp2_with (first | (go_at_call 33; refine (check_any y.1 y.2.1 y.2.2.1 y.2.2.2.1 y.2.2.2.2 _).mono ?_; rw [HYO.out]; rintro e w8 ⟨rfl, hb⟩; have HSZ : Hid (_ ≤ w8.heap.size) := hb.size; have n0_ := Lib.hid (HB.out.trans (hb.mono HB.out.size)); have n1_ := Lib.hid (Ht.out.below hb); have n2_ := Lib.hid (Hu.out.below hb); clear Ht Hu HB hb; have Ht := n1_; have Hu := n2_; have HB := n0_; clear n0_ n1_ n2_; clear f0 f1 f2 f3 f4; have f0 := pw_cell_below HB.out G.out.1; have f1 := pw_cell_below HB.out G.out.2.1; have f2 := pw_cell_below HB.out G.out.2.2.1; have f3 := pw_cell_below HB.out G.out.2.2.2.1; have f4 := pw_cell_below HB.out G.out.2.2.2.2; have n3_ : Hid (B3 ≤ w8.heap.size) := Nat.le_trans HBD.out HSZ.out; clear HBD HSZ; have HBD := n3_; clear n3_) | (go_at_call 15; refine (Hu.out.drop y (by have := HLT.out; have := HN.out; omega) (fun b hb => .inr (Nat.le_trans HBD.out hb))).mono ?_; rw [HDB.out.1]; rintro e w9 ⟨rfl, ht, hk⟩; have U6 := Lib.hid (ht.perm HDB.out.2); have T6 := Lib.hid (Ht.out.kept hk (fun b q1 _ q2 => by have := HBB.out; have := HBE.out; omega)); have HB6 : Hid (Below w.heap.size w w9) := HB.out.trans (hk.below HB.out.size (fun b q => by have := HBB.out; have := HBE.out; omega)); have HBD6 : Hid (B3 ≤ w9.heap.size) := Nat.le_trans HBD.out hk.size; clear ht hk))
                go_roundg (gk - 1)
                case measure => have := hj.out; have := HLT.out; omega
                case rel => exact ⟨j + 1, rfl, (by have := hj.out; have := HLT.out; omega : j + 1 + (gk - 1) = min n n2), T6, U6, HB6, HBD6⟩
              · have HYN : Hid (rightB y.1 y.2.1 y.2.2.1 y.2.2.2.1 y.2.2.2.2 = false) := (Bool.not_eq_true _).mp hyo
                have HSK : Hid (okH l ++ okH (m.drop j) = okH l ++ okH (m.drop (j + 1))) := drop_skip hym ((Bool.not_eq_true _).mp hyo)
                have U6 : Hid (Tal wr (fun b => B1 ≤ b ∧ b < B2 ∨ B3 ≤ b) gu (3 * n + j) (okH l ++ okH (m.drop (j + 1)))) := by rw [← HSK.out]; exact Hu
                clear hym hyo Hu HSK
                have Hu := U6
                clear U6
                go_wp2_with (go_at_call 33; refine (check_any y.1 y.2.1 y.2.2.1 y.2.2.2.1 y.2.2.2.2 _).mono ?_; rw [HYN.out]; rintro e w8 ⟨rfl, hb⟩; have HSZ : Hid (_ ≤ w8.heap.size) := hb.size; have n0_ := Lib.hid (HB.out.trans (hb.mono HB.out.size)); have n1_ := Lib.hid (Ht.out.below hb); have n2_ := Lib.hid (Hu.out.below hb); clear Ht Hu HB hb; have Ht := n1_; have Hu := n2_; have HB := n0_; clear n0_ n1_ n2_; have n3_ : Hid (B3 ≤ w8.heap.size) := Nat.le_trans HBD.out HSZ.out; clear HBD HSZ; have HBD := n3_; clear n3_)
                go_roundg (gk - 1)
                case measure => have := hj.out; have := HLT.out; omega
                case rel => exact ⟨j + 1, rfl, (by have := hj.out; have := HLT.out; omega : j + 1 + (gk - 1) = min n n2), Ht, Hu.out.more (Nat.le_succ _), HB, HBD⟩
            · have hjm : j = min n n2 := by have := hj.out; omega
              have U7 : Hid (Tal wr (fun b => B1 ≤ b ∧ b < B2 ∨ B3 ≤ b) gu (3 * n + j) (okH l)) := by
                have e := Hu.out
                rwa [List.drop_eq_nil_of_le (by rw [HM.out]; omega), okH_nil, List.append_nil] at e
              clear Hu
              have Hu := U7
              clear U7
              obtain ⟨r1, e1⟩ : ∃ r, toldR (okH l) (sumR (okH l)) = r := ⟨_, rfl⟩
              obtain ⟨r2, e2⟩ : ∃ r, toldR (okH l) (midR (okH l)) = r := ⟨_, rfl⟩
              obtain ⟨r3, e3⟩ : ∃ r, toldR (okH l) (smallR (okH l) k) = r := ⟨_, rfl⟩
              obtain ⟨m1, e4⟩ : ∃ r, (okH l).length = r := ⟨_, rfl⟩
              obtain ⟨m2, e5⟩ : ∃ r, faultR (okH l) = r := ⟨_, rfl⟩
              obtain ⟨m3, e6⟩ : ∃ r, kindR (okH l) 2 = r := ⟨_, rfl⟩
              have E1 := Lib.hid e1
              have E2 := Lib.hid e2
              have E3 := Lib.hid e3
              have E4 := Lib.hid e4
              have E5 := Lib.hid e5
              have E6 := Lib.hid e6
              clear e1 e2 e3 e4 e5 e6 hj
              have F1 : Hid True := trivial
              have F2 : Hid True := trivial
              have F3 : Hid True := trivial
              have F4 : Hid True := trivial
              have F5 : Hid True := trivial
              have F6 : Hid True := trivial
              have F7 : Hid True := trivial
              have F8 : Hid True := trivial
              have F9 : Hid True := trivial
              have F10 : Hid True := trivial
              have F11 : Hid True := trivial
              have F12 : Hid True := trivial
              by_cases hj2 : j < n2
              · have l3 : j < n2 := hj2
                have l1 : ¬ j < n := by omega
                clear hjm hlt hj2
                go_upto_region 27 with (first | (go_at_call 9; have _q := F1; clear _q F1; refine (Ht.out.sumEq E1.out).mono ?_; rintro e w8 ⟨rfl, hb⟩; have n0_ := Lib.hid (HB.out.trans (hb.mono HB.out.size)); have n1_ := Lib.hid (Ht.out.below hb); have n2_ := Lib.hid (Hu.out.below hb); clear Ht Hu HB hb; have Ht := n1_; have Hu := n2_; have HB := n0_; clear n0_ n1_ n2_) | (go_at_call 9; have _q := F2; clear _q F2; refine (Hu.out.sumEq E1.out).mono ?_; rintro e w8 ⟨rfl, hb⟩; have n0_ := Lib.hid (HB.out.trans (hb.mono HB.out.size)); have n1_ := Lib.hid (Ht.out.below hb); have n2_ := Lib.hid (Hu.out.below hb); clear Ht Hu HB hb; have Ht := n1_; have Hu := n2_; have HB := n0_; clear n0_ n1_ n2_) | (go_at_call 12; have _q := F3; clear _q F3; refine (Ht.out.medianEq E2.out).mono ?_; rintro e w8 ⟨rfl, hb⟩; have n0_ := Lib.hid (HB.out.trans (hb.mono HB.out.size)); have n1_ := Lib.hid (Ht.out.below hb); have n2_ := Lib.hid (Hu.out.below hb); clear Ht Hu HB hb; have Ht := n1_; have Hu := n2_; have HB := n0_; clear n0_ n1_ n2_) | (go_at_call 12; have _q := F4; clear _q F4; refine (Hu.out.medianEq E2.out).mono ?_; rintro e w8 ⟨rfl, hb⟩; have n0_ := Lib.hid (HB.out.trans (hb.mono HB.out.size)); have n1_ := Lib.hid (Ht.out.below hb); have n2_ := Lib.hid (Hu.out.below hb); clear Ht Hu HB hb; have Ht := n1_; have Hu := n2_; have HB := n0_; clear n0_ n1_ n2_) | (go_at_call 11; have _q := F5; clear _q F5; refine (Ht.out.smallEq k E3.out).mono ?_; rintro e w8 ⟨rfl, hb⟩; have n0_ := Lib.hid (HB.out.trans (hb.mono HB.out.size)); have n1_ := Lib.hid (Ht.out.below hb); have n2_ := Lib.hid (Hu.out.below hb); clear Ht Hu HB hb; have Ht := n1_; have Hu := n2_; have HB := n0_; clear n0_ n1_ n2_) | (go_at_call 11; have _q := F6; clear _q F6; refine (Hu.out.smallEq k E3.out).mono ?_; rintro e w8 ⟨rfl, hb⟩; have n0_ := Lib.hid (HB.out.trans (hb.mono HB.out.size)); have n1_ := Lib.hid (Ht.out.below hb); have n2_ := Lib.hid (Hu.out.below hb); clear Ht Hu HB hb; have Ht := n1_; have Hu := n2_; have HB := n0_; clear n0_ n1_ n2_) | (go_at_call 17; have _q := F7; clear _q F7; refine (Ht.out.allEq m1 E4.out).mono ?_; rintro e w8 ⟨rfl, rfl⟩) | (go_at_call 17; have _q := F8; clear _q F8; refine (Hu.out.allEq m1 E4.out).mono ?_; rintro e w8 ⟨rfl, rfl⟩) | (go_at_call 18; have _q := F9; clear _q F9; refine (Ht.out.faultEq m2 E5.out).mono ?_; rintro e w8 ⟨rfl, rfl⟩) | (go_at_call 18; have _q := F10; clear _q F10; refine (Hu.out.faultEq m2 E5.out).mono ?_; rintro e w8 ⟨rfl, rfl⟩) | (go_at_call 16; have _q := F11; clear _q F11; refine (Ht.out.countEq 2 m3 E6.out).mono ?_; rintro e w8 ⟨rfl, rfl⟩) | (go_at_call 16; have _q := F12; clear _q F12; refine (Hu.out.countEq 2 m3 E6.out).mono ?_; rintro e w8 ⟨rfl, rfl⟩) | (go_at_call 22; refine (lives_any _).mono ?_; rintro e w5 ⟨rfl, hb⟩; have n0_ := Lib.hid (HB.out.trans (hb.mono HB.out.size)); clear HB hb; have HB := n0_; clear n0_))
                go_wp2_with (first | (go_at_call 9; have _q := F1; clear _q F1; refine (Ht.out.sumEq E1.out).mono ?_; rintro e w8 ⟨rfl, hb⟩; have n0_ := Lib.hid (HB.out.trans (hb.mono HB.out.size)); have n1_ := Lib.hid (Ht.out.below hb); have n2_ := Lib.hid (Hu.out.below hb); clear Ht Hu HB hb; have Ht := n1_; have Hu := n2_; have HB := n0_; clear n0_ n1_ n2_) | (go_at_call 9; have _q := F2; clear _q F2; refine (Hu.out.sumEq E1.out).mono ?_; rintro e w8 ⟨rfl, hb⟩; have n0_ := Lib.hid (HB.out.trans (hb.mono HB.out.size)); have n1_ := Lib.hid (Ht.out.below hb); have n2_ := Lib.hid (Hu.out.below hb); clear Ht Hu HB hb; have Ht := n1_; have Hu := n2_; have HB := n0_; clear n0_ n1_ n2_) | (go_at_call 12; have _q := F3; clear _q F3; refine (Ht.out.medianEq E2.out).mono ?_; rintro e w8 ⟨rfl, hb⟩; have n0_ := Lib.hid (HB.out.trans (hb.mono HB.out.size)); have n1_ := Lib.hid (Ht.out.below hb); have n2_ := Lib.hid (Hu.out.below hb); clear Ht Hu HB hb; have Ht := n1_; have Hu := n2_; have HB := n0_; clear n0_ n1_ n2_) | (go_at_call 12; have _q := F4; clear _q F4; refine (Hu.out.medianEq E2.out).mono ?_; rintro e w8 ⟨rfl, hb⟩; have n0_ := Lib.hid (HB.out.trans (hb.mono HB.out.size)); have n1_ := Lib.hid (Ht.out.below hb); have n2_ := Lib.hid (Hu.out.below hb); clear Ht Hu HB hb; have Ht := n1_; have Hu := n2_; have HB := n0_; clear n0_ n1_ n2_) | (go_at_call 11; have _q := F5; clear _q F5; refine (Ht.out.smallEq k E3.out).mono ?_; rintro e w8 ⟨rfl, hb⟩; have n0_ := Lib.hid (HB.out.trans (hb.mono HB.out.size)); have n1_ := Lib.hid (Ht.out.below hb); have n2_ := Lib.hid (Hu.out.below hb); clear Ht Hu HB hb; have Ht := n1_; have Hu := n2_; have HB := n0_; clear n0_ n1_ n2_) | (go_at_call 11; have _q := F6; clear _q F6; refine (Hu.out.smallEq k E3.out).mono ?_; rintro e w8 ⟨rfl, hb⟩; have n0_ := Lib.hid (HB.out.trans (hb.mono HB.out.size)); have n1_ := Lib.hid (Ht.out.below hb); have n2_ := Lib.hid (Hu.out.below hb); clear Ht Hu HB hb; have Ht := n1_; have Hu := n2_; have HB := n0_; clear n0_ n1_ n2_) | (go_at_call 17; have _q := F7; clear _q F7; refine (Ht.out.allEq m1 E4.out).mono ?_; rintro e w8 ⟨rfl, rfl⟩) | (go_at_call 17; have _q := F8; clear _q F8; refine (Hu.out.allEq m1 E4.out).mono ?_; rintro e w8 ⟨rfl, rfl⟩) | (go_at_call 18; have _q := F9; clear _q F9; refine (Ht.out.faultEq m2 E5.out).mono ?_; rintro e w8 ⟨rfl, rfl⟩) | (go_at_call 18; have _q := F10; clear _q F10; refine (Hu.out.faultEq m2 E5.out).mono ?_; rintro e w8 ⟨rfl, rfl⟩) | (go_at_call 16; have _q := F11; clear _q F11; refine (Ht.out.countEq 2 m3 E6.out).mono ?_; rintro e w8 ⟨rfl, rfl⟩) | (go_at_call 16; have _q := F12; clear _q F12; refine (Hu.out.countEq 2 m3 E6.out).mono ?_; rintro e w8 ⟨rfl, rfl⟩) | (go_at_call 22; refine (lives_any _).mono ?_; rintro e w5 ⟨rfl, hb⟩; have n0_ := Lib.hid (HB.out.trans (hb.mono HB.out.size)); clear HB hb; have HB := n0_; clear n0_))
                go_ret
                exact ⟨rfl, HB.out⟩
              · have l3 : ¬ j < n2 := hj2
                clear hjm hlt hj2
                go_upto_region 27 with (first | (go_at_call 9; have _q := F1; clear _q F1; refine (Ht.out.sumEq E1.out).mono ?_; rintro e w8 ⟨rfl, hb⟩; have n0_ := Lib.hid (HB.out.trans (hb.mono HB.out.size)); have n1_ := Lib.hid (Ht.out.below hb); have n2_ := Lib.hid (Hu.out.below hb); clear Ht Hu HB hb; have Ht := n1_; have Hu := n2_; have HB := n0_; clear n0_ n1_ n2_) | (go_at_call 9; have _q := F2; clear _q F2; refine (Hu.out.sumEq E1.out).mono ?_; rintro e w8 ⟨rfl, hb⟩; have n0_ := Lib.hid (HB.out.trans (hb.mono HB.out.size)); have n1_ := Lib.hid (Ht.out.below hb); have n2_ := Lib.hid (Hu.out.below hb); clear Ht Hu HB hb; have Ht := n1_; have Hu := n2_; have HB := n0_; clear n0_ n1_ n2_) | (go_at_call 12; have _q := F3; clear _q F3; refine (Ht.out.medianEq E2.out).mono ?_; rintro e w8 ⟨rfl, hb⟩; have n0_ := Lib.hid (HB.out.trans (hb.mono HB.out.size)); have n1_ := Lib.hid (Ht.out.below hb); have n2_ := Lib.hid (Hu.out.below hb); clear Ht Hu HB hb; have Ht := n1_; have Hu := n2_; have HB := n0_; clear n0_ n1_ n2_) | (go_at_call 12; have _q := F4; clear _q F4; refine (Hu.out.medianEq E2.out).mono ?_; rintro e w8 ⟨rfl, hb⟩; have n0_ := Lib.hid (HB.out.trans (hb.mono HB.out.size)); have n1_ := Lib.hid (Ht.out.below hb); have n2_ := Lib.hid (Hu.out.below hb); clear Ht Hu HB hb; have Ht := n1_; have Hu := n2_; have HB := n0_; clear n0_ n1_ n2_) | (go_at_call 11; have _q := F5; clear _q F5; refine (Ht.out.smallEq k E3.out).mono ?_; rintro e w8 ⟨rfl, hb⟩; have n0_ := Lib.hid (HB.out.trans (hb.mono HB.out.size)); have n1_ := Lib.hid (Ht.out.below hb); have n2_ := Lib.hid (Hu.out.below hb); clear Ht Hu HB hb; have Ht := n1_; have Hu := n2_; have HB := n0_; clear n0_ n1_ n2_) | (go_at_call 11; have _q := F6; clear _q F6; refine (Hu.out.smallEq k E3.out).mono ?_; rintro e w8 ⟨rfl, hb⟩; have n0_ := Lib.hid (HB.out.trans (hb.mono HB.out.size)); have n1_ := Lib.hid (Ht.out.below hb); have n2_ := Lib.hid (Hu.out.below hb); clear Ht Hu HB hb; have Ht := n1_; have Hu := n2_; have HB := n0_; clear n0_ n1_ n2_) | (go_at_call 17; have _q := F7; clear _q F7; refine (Ht.out.allEq m1 E4.out).mono ?_; rintro e w8 ⟨rfl, rfl⟩) | (go_at_call 17; have _q := F8; clear _q F8; refine (Hu.out.allEq m1 E4.out).mono ?_; rintro e w8 ⟨rfl, rfl⟩) | (go_at_call 18; have _q := F9; clear _q F9; refine (Ht.out.faultEq m2 E5.out).mono ?_; rintro e w8 ⟨rfl, rfl⟩) | (go_at_call 18; have _q := F10; clear _q F10; refine (Hu.out.faultEq m2 E5.out).mono ?_; rintro e w8 ⟨rfl, rfl⟩) | (go_at_call 16; have _q := F11; clear _q F11; refine (Ht.out.countEq 2 m3 E6.out).mono ?_; rintro e w8 ⟨rfl, rfl⟩) | (go_at_call 16; have _q := F12; clear _q F12; refine (Hu.out.countEq 2 m3 E6.out).mono ?_; rintro e w8 ⟨rfl, rfl⟩) | (go_at_call 22; refine (lives_any _).mono ?_; rintro e w5 ⟨rfl, hb⟩; have n0_ := Lib.hid (HB.out.trans (hb.mono HB.out.size)); clear HB hb; have HB := n0_; clear n0_))
                go_wp2_with (first | (go_at_call 9; have _q := F1; clear _q F1; refine (Ht.out.sumEq E1.out).mono ?_; rintro e w8 ⟨rfl, hb⟩; have n0_ := Lib.hid (HB.out.trans (hb.mono HB.out.size)); have n1_ := Lib.hid (Ht.out.below hb); have n2_ := Lib.hid (Hu.out.below hb); clear Ht Hu HB hb; have Ht := n1_; have Hu := n2_; have HB := n0_; clear n0_ n1_ n2_) | (go_at_call 9; have _q := F2; clear _q F2; refine (Hu.out.sumEq E1.out).mono ?_; rintro e w8 ⟨rfl, hb⟩; have n0_ := Lib.hid (HB.out.trans (hb.mono HB.out.size)); have n1_ := Lib.hid (Ht.out.below hb); have n2_ := Lib.hid (Hu.out.below hb); clear Ht Hu HB hb; have Ht := n1_; have Hu := n2_; have HB := n0_; clear n0_ n1_ n2_) | (go_at_call 12; have _q := F3; clear _q F3; refine (Ht.out.medianEq E2.out).mono ?_; rintro e w8 ⟨rfl, hb⟩; have n0_ := Lib.hid (HB.out.trans (hb.mono HB.out.size)); have n1_ := Lib.hid (Ht.out.below hb); have n2_ := Lib.hid (Hu.out.below hb); clear Ht Hu HB hb; have Ht := n1_; have Hu := n2_; have HB := n0_; clear n0_ n1_ n2_) | (go_at_call 12; have _q := F4; clear _q F4; refine (Hu.out.medianEq E2.out).mono ?_; rintro e w8 ⟨rfl, hb⟩; have n0_ := Lib.hid (HB.out.trans (hb.mono HB.out.size)); have n1_ := Lib.hid (Ht.out.below hb); have n2_ := Lib.hid (Hu.out.below hb); clear Ht Hu HB hb; have Ht := n1_; have Hu := n2_; have HB := n0_; clear n0_ n1_ n2_) | (go_at_call 11; have _q := F5; clear _q F5; refine (Ht.out.smallEq k E3.out).mono ?_; rintro e w8 ⟨rfl, hb⟩; have n0_ := Lib.hid (HB.out.trans (hb.mono HB.out.size)); have n1_ := Lib.hid (Ht.out.below hb); have n2_ := Lib.hid (Hu.out.below hb); clear Ht Hu HB hb; have Ht := n1_; have Hu := n2_; have HB := n0_; clear n0_ n1_ n2_) | (go_at_call 11; have _q := F6; clear _q F6; refine (Hu.out.smallEq k E3.out).mono ?_; rintro e w8 ⟨rfl, hb⟩; have n0_ := Lib.hid (HB.out.trans (hb.mono HB.out.size)); have n1_ := Lib.hid (Ht.out.below hb); have n2_ := Lib.hid (Hu.out.below hb); clear Ht Hu HB hb; have Ht := n1_; have Hu := n2_; have HB := n0_; clear n0_ n1_ n2_) | (go_at_call 17; have _q := F7; clear _q F7; refine (Ht.out.allEq m1 E4.out).mono ?_; rintro e w8 ⟨rfl, rfl⟩) | (go_at_call 17; have _q := F8; clear _q F8; refine (Hu.out.allEq m1 E4.out).mono ?_; rintro e w8 ⟨rfl, rfl⟩) | (go_at_call 18; have _q := F9; clear _q F9; refine (Ht.out.faultEq m2 E5.out).mono ?_; rintro e w8 ⟨rfl, rfl⟩) | (go_at_call 18; have _q := F10; clear _q F10; refine (Hu.out.faultEq m2 E5.out).mono ?_; rintro e w8 ⟨rfl, rfl⟩) | (go_at_call 16; have _q := F11; clear _q F11; refine (Ht.out.countEq 2 m3 E6.out).mono ?_; rintro e w8 ⟨rfl, rfl⟩) | (go_at_call 16; have _q := F12; clear _q F12; refine (Hu.out.countEq 2 m3 E6.out).mono ?_; rintro e w8 ⟨rfl, rfl⟩) | (go_at_call 22; refine (lives_any _).mono ?_; rintro e w5 ⟨rfl, hb⟩; have n0_ := Lib.hid (HB.out.trans (hb.mono HB.out.size)); clear HB hb; have HB := n0_; clear n0_))
                go_ret
                exact ⟨rfl, HB.out⟩
        · obtain ⟨i, hi⟩ : ∃ i, gk = i + 1 := ⟨gk - 1, by omega⟩
          have hin : i < n := by have := hkn.out; omega
          have ez : z = (i : Int) := by have := hz.out; omega
          subst ez
          have Hu' : Hid (Tal wr (fun b => B1 ≤ b ∧ b < B2 ∨ B3 ≤ b) gu (3 * (n - (i + 1))) (okH (l.drop (i + 1)) ++ okH (m.drop (i + 1)))) := by have e := Hu.out; rw [hi] at e; exact e
          obtain ⟨ad, x, hA, hx, c0, c1, c2, c3, c4⟩ := HV.out.at hin
          subst hA
          have f0 := pw_cell_below HB.out c0
          have f1 := pw_cell_below HB.out c1
          have f2 := pw_cell_below HB.out c2
          have f3 := pw_cell_below HB.out c3
          have f4 := pw_cell_below HB.out c4
          have n0 : ((i : Int)).toNat = i := Int.toNat_natCast i
          have p0 : (0 : Int) ≤ (i : Int) := Int.natCast_nonneg i
          have l0 : (i : Int) < (n : Int) := by omega
          have l1 : i < n := hin
          have wi : wrap64 ((i : Int) - 1) = (i : Int) - 1 := by have := HN.out; unfold wrap64; omega
          have hlen : (okH (l.drop (i + 1)) ++ okH (m.drop (i + 1))).length < 4096 := by
            have e1 := okH_len (l.drop (i + 1))
            have e2 := okH_len (m.drop (i + 1))
            have e3 := HV.out.1
            have e4 := HM.out
            have e5 := HN.out
            rw [List.length_append]
            rw [List.length_drop] at e1 e2
            omega
          have HAF : Hid (addL (okH (l.drop (i + 1)) ++ okH (m.drop (i + 1))) x = okH (l.drop i) ++ okH (m.drop (i + 1))) := add_front hx hlen
          have HIN := Lib.hid hin
          have HGK := Lib.hid hi
          have F1 : Hid True := trivial
          clear c0 c1 c2 c3 c4 hx hlen hin hi h0 hz hkn Hu
          by_cases hj : i < n2
          · obtain ⟨ad2, y, hA2, hy, g0, g1, g2, g3, g4⟩ := HV2.out.at hj
            subst hA2
            have G := Lib.hid (And.intro g0 (And.intro g1 (And.intro g2 (And.intro g3 g4))))
            have l2' : (i : Int) < (n2 : Int) := by omega
            have l3 : i < n2 := hj
            have hym : m[i]? = some y := (MAT.out i HIN.out hj).trans hy
            have hlen2 : (okH (l.drop i) ++ okH (m.drop (i + 1))).length < 4096 := by
              have e1 := okH_len (l.drop i)
              have e2 := okH_len (m.drop (i + 1))
              have e3 := HV.out.1
              have e4 := HM.out
              have e5 := HN.out
              rw [List.length_append]
              rw [List.length_drop] at e1 e2
              omega
            have HAB : Hid ((addL (okH (l.drop i) ++ okH (m.drop (i + 1))) y).Perm (okH (l.drop i) ++ okH (m.drop i))) := add_back hym hlen2
            clear g0 g1 g2 g3 g4 hy hym hlen2 hj
            go_wp2_with (first | (go_at_call 14; have _q := F1; clear _q F1; refine (Hu'.out.add x (by have := HIN.out; have := HN.out; omega) (fun b hb => .inr (Nat.le_trans HBD.out hb))).mono ?_; rw [HAF.out]; rintro e w3 ⟨rfl, ht, hk⟩; have U5 := Lib.hid ht; have T5 := Lib.hid (Ht.out.kept hk (fun b q1 _ q2 => by have := HBB.out; have := HBE.out; omega)); have HB5 : Hid (Below w.heap.size w w3) := HB.out.trans (hk.below HB.out.size (fun b q => by have := HBB.out; have := HBE.out; omega)); have HBD5 : Hid (B3 ≤ w3.heap.size) := Nat.le_trans HBD.out hk.size; clear ht hk f0 f1 f2 f3 f4; have f0 := pw_cell_below HB5.out G.out.1; have f1 := pw_cell_below HB5.out G.out.2.1; have f2 := pw_cell_below HB5.out G.out.2.2.1; have f3 := pw_cell_below HB5.out G.out.2.2.2.1; have f4 := pw_cell_below HB5.out G.out.2.2.2.2) | (go_at_call 14; refine (U5.out.add y (by have := HIN.out; have := HN.out; omega) (fun b hb => .inr (Nat.le_trans HBD5.out hb))).mono ?_; rintro e w4 ⟨rfl, ht, hk⟩; have U6 := Lib.hid ((ht.perm HAB.out).more (show 3 * (n - (i + 1)) + 1 + 1 ≤ 3 * (n - i) by have := HIN.out; omega)); have T6 := Lib.hid (T5.out.kept hk (fun b q1 _ q2 => by have := HBB.out; have := HBE.out; omega)); have HB6 : Hid (Below w.heap.size w w4) := HB5.out.trans (hk.below HB5.out.size (fun b q => by have := HBB.out; have := HBE.out; omega)); have HBD6 : Hid (B3 ≤ w4.heap.size) := Nat.le_trans HBD5.out hk.size; clear ht hk))
            go_roundg i
            case measure => have := HGK.out; omega
            case rel => exact ⟨_, rfl, (rfl : (i : Int) - 1 = _), Nat.le_of_lt HIN.out, T6, U6, HB6, HBD6⟩
          · have l3 : ¬ i < n2 := hj
            have HMD : Hid (m.drop (i + 1) = m.drop i) := by
              have e4 := HM.out
              show _ = _
              rw [List.drop_eq_nil_of_le (by omega), List.drop_eq_nil_of_le (by omega)]
            clear hj
            go_wp2_with (go_at_call 14; have _q := F1; clear _q F1; refine (Hu'.out.add x (by have := HIN.out; have := HN.out; omega) (fun b hb => .inr (Nat.le_trans HBD.out hb))).mono ?_; rw [HAF.out, HMD.out]; rintro e w3 ⟨rfl, ht, hk⟩; have U6 := Lib.hid (ht.more (show 3 * (n - (i + 1)) + 1 ≤ 3 * (n - i) by have := HIN.out; omega)); have T6 := Lib.hid (Ht.out.kept hk (fun b q1 _ q2 => by have := HBB.out; have := HBE.out; omega)); have HB6 : Hid (Below w.heap.size w w3) := HB.out.trans (hk.below HB.out.size (fun b q => by have := HBB.out; have := HBE.out; omega)); have HBD6 : Hid (B3 ≤ w3.heap.size) := Nat.le_trans HBD.out hk.size; clear ht hk)
            go_roundg i
            case measure => have := HGK.out; omega
            case rel => exact ⟨_, rfl, (rfl : (i : Int) - 1 = _), Nat.le_of_lt HIN.out, T6, U6, HB6, HBD6⟩
theorem order_law (A : Option Addr) (n cap : Nat) (l : List Val) (A2 : Option Addr) (n2 cap2 : Nat) (l2 : List Val) (k : Int) (w : World) (h : VRow w A n l) (h2 : VRow w A2 n2 l2) : Calls Try.prog 5 #[.slice A n cap, .slice A2 n2 cap2, .int .i64 k] w fun e w' => e = .returned (.bool true) ∧ Below w.heap.size w w' := by
  by_cases e : 200 < n ∨ 200 < n2
  · exact order_out A n cap A2 n2 cap2 k w e
  · exact order_main A n cap l A2 n2 cap2 l2 k w h h2 (by omega) (by omega)
end Go.Proofs.Ytjhinakfoejpbaa.T
