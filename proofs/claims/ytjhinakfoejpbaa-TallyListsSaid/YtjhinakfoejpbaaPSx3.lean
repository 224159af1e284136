-- By wip/tools/printplus.py of this session, over the kit's print; what is by hand in it is this session's own.
import Derived.Test.YtjhinakfoejpbaaPSx0
import Derived.Test.YtjhinakfoejpbaaPSx2
namespace Go.Proofs.Ytjhinakfoejpbaa.PS
open Go.RowKit Go.Proofs.YtjhinakfoejpbaaW.PrintWords Go.Proofs.YtjhinakfoejpbaaW.PrintLast Go.Proofs.YtjhinakfoejpbaaW.PrintMore
attribute [local go_sem] max2_int min2_int max_two min_two max_three min_three max_four min_four   -- for this text's walks alone
set_option linter.unusedVariables false
set_option linter.unusedSimpArgs false

/-! ### stats_kth_int: function 64 -/
set_option maxHeartbeats 8000000 in
set_option maxRecDepth 100000 in
theorem stats_parted_int.win (k : Nat) (P0_ : Nat → Prop) (g cap N cw : Nat) (pre post : List Int) (l0 : List Int) (a1 : Int) (r1 : Int) (r2 : Int) (r3 : List Int) (w0 w : World) (hB : Below w0.heap.size w0 w) (hz0 : 0 < l0.length) (hcw : l0.length ≤ cw) (ho0 : Wn.Wn 3 w w0.heap.size P0_ g cap N pre post l0.length l0) (h : stats_parted_int.f k l0 a1 = some (r1, r2, r3)) :
    Calls Try.prog 91 #[.slice (some ⟨g, pre.length, none⟩) l0.length cw, .int .i64 a1] w fun e w' => e = .returned (.tuple #[.int .i64 r1, .int .i64 r2]) ∧ Wn.Wn 3 w' w0.heap.size (fun k_ => (P0_ k_ ∨ w.heap.size ≤ k_)) g cap N pre post l0.length r3 ∧ Below w0.heap.size w0 w' ∧ Kept w w' (fun k_ => P0_ k_) := by
  have HO0 := Aside0.mk (show Wn.Wn 3 w w0.heap.size (fun k_ => (P0_ k_ ∨ w.heap.size ≤ k_)) g cap N pre post l0.length l0 from Wn.R_mono ho0 (fun k_ hk => (.inl hk)))
  have HK := Aside0.mk (Kept.refl w (fun k_ => P0_ k_))
  have HW0 := Aside0.mk hB.size
  have HB := Aside0.mk hB
  clear hB
  have H : (stats_parted_int.l0 k l0 a1 0 0 (l0.length : Int)) = some (r1, r2, r3) := h
  clear h
  have H' := Aside0.mk H
  clear H
  go_enter Try.func91, Try.ntmps91
  go_wp2
  go_loopg [6, 7, 8] k (fun kq v6 v7 v8 w' => ∃ (x0_1 : List Int) (x6_1 : Int) (x7_1 : Int) (x8_1 : Int), v6 = .int .i64 x6_1 ∧ v7 = .int .i64 x7_1 ∧ v8 = .int .i64 x8_1 ∧ Aside0 (stats_parted_int.l0 kq x0_1 a1 x6_1 x7_1 x8_1 = some (r1, r2, r3)) ∧ Aside0 (kq ≤ k) ∧ Aside0 (Wn.Wn 3 w' w0.heap.size (fun k_ => (P0_ k_ ∨ w.heap.size ≤ k_)) g cap N pre post l0.length x0_1) ∧ Aside0 (Kept w w' (fun k_ => P0_ k_)) ∧ Aside0 (Below w0.heap.size w0 w'))
  case atStart => exact ⟨(l0), (0), (0), ((l0.length : Int)), (by first | rfl | (simp; done) | (simp [*]; done)), (by first | rfl | (simp; done) | (simp [*]; done)), (by first | rfl | (simp; done) | (simp [*]; done)), H', ⟨Nat.le_refl _⟩, ⟨by (with_reducible repeat (first | apply Wn.R_alloc | apply Wn.R_drewN | apply Wn.R_drew)); exact HO0.out⟩, ⟨by repeat (first | (with_reducible first | exact HK.out | apply Kept.alloc | apply Kept.drewN | apply Kept.drew) | exact HK.out)⟩, ⟨by repeat (first | (with_reducible first | exact HB.out | apply below_alloc | apply pw_below_drewN | apply below_drew1) | exact HB.out)⟩⟩
  case round =>
    clear H'
    try clear p2
    obtain ⟨x0_1, x6_1, x7_1, x8_1, rfl, rfl, rfl, HA, HK1, HO_0, HK, HB⟩ := hrel
    have hl0_1 := (Wn.R_reads' HO_0.out).1
    have hz1 : 0 < x0_1.length := by omega
    rw [hl0_1] at HO_0
    (try simp only [hl0_1])
    cases gk with
    | zero => exact absurd HA.out (by simp [stats_parted_int.l0])
    | succ k1 =>
      have H := HA.out
      clear HA
      simp only [stats_parted_int.l0] at H
      by_cases c4 : x7_1 < x8_1
      · rw [if_pos c4] at H
        have c4b0 : decide (x7_1 < x8_1) = true := decide_eq_true c4
        clear c4
        by_cases c5 : 0 ≤ x7_1
        · rw [if_pos c5] at H
          have c5b0 : decide (0 ≤ x7_1) = true := decide_eq_true c5
          clear c5
          by_cases c6 : x7_1 < (x0_1.length : Int)
          · rw [if_pos c6] at H
            have c6b0 : decide (x7_1 < (x0_1.length : Int)) = true := decide_eq_true c6
            clear c6
            by_cases c7 : (rd x0_1 x7_1) < a1
            · rw [if_pos c7] at H
              have c7b0 : decide ((rd x0_1 x7_1) < a1) = true := decide_eq_true c7
              clear c7
              by_cases c8 : 0 ≤ x6_1
              · rw [if_pos c8] at H
                have c8b0 : decide (0 ≤ x6_1) = true := decide_eq_true c8
                clear c8
                by_cases c9 : x6_1 < (x0_1.length : Int)
                · rw [if_pos c9] at H
                  have c9b0 : decide (x6_1 < (x0_1.length : Int)) = true := decide_eq_true c9
                  clear c9
                  obtain ⟨y109, hy109⟩ : ∃ y_ : List Int, y_ = (x0_1.set (x6_1 : Int).toNat (rd x0_1 x7_1)) := ⟨_, rfl⟩
                  replace H : (stats_parted_int.l0 k1 (y109.set (x7_1 : Int).toNat (rd x0_1 x6_1)) a1 (wrap64 (x6_1 + 1)) (wrap64 (x7_1 + 1)) x8_1) = some (r1, r2, r3) := by first | (rw [hy109]; with_reducible exact H) | (have H2_ := (Option.bind_some _ _).symm.trans H; rw [hy109]; with_reducible exact H2_) | (have H2_ := (Option.bind_some _ _).symm.trans H; with_reducible exact H2_) | with_reducible exact H | (rw [hy109]; exact H) | exact H
                  have Ny109 := Aside0.mk hy109
                  clear hy109
                  obtain ⟨y110, hy110⟩ : ∃ y_ : List Int, y_ = (y109.set (x7_1 : Int).toNat (rd x0_1 x6_1)) := ⟨_, rfl⟩
                  replace H : (stats_parted_int.l0 k1 y110 a1 (wrap64 (x6_1 + 1)) (wrap64 (x7_1 + 1)) x8_1) = some (r1, r2, r3) := by first | (rw [hy110]; with_reducible exact H) | (have H2_ := (Option.bind_some _ _).symm.trans H; rw [hy110]; with_reducible exact H2_) | (have H2_ := (Option.bind_some _ _).symm.trans H; with_reducible exact H2_) | with_reducible exact H | (rw [hy110]; exact H) | exact H
                  have Ny110 := Aside0.mk hy110
                  clear hy110
                  have H' := Aside0.mk H
                  clear H
                  have p106 : 0 ≤ (x7_1 : Int) := of_decide_eq_true (by first | (with_reducible assumption) | assumption)
                  have q106 : x7_1 < (x0_1.length : Int) := of_decide_eq_true (by first | (with_reducible assumption) | assumption)
                  obtain ⟨ad106, e106, hx106_0⟩ := Kd.at_int (Wn.R_reads' HO_0.out).2.2 x7_1 p106 q106
                  cases e106
                  rw [Wn.add_off] at hx106_0
                  replace p106 := eq_true p106
                  replace q106 := eq_true q106
                  try go_wp2
                  have n0_ := Aside0.mk (Wn.R_drew HO_0.out)
                  have n1_ := Aside0.mk (Kept.drew HK.out)
                  have n2_ := Aside0.mk (below_drew1 HB.out)
                  clear HO_0
                  clear HK
                  clear HB
                  have HO_0 := n0_
                  have HK := n1_
                  have HB := n2_
                  clear n0_ n1_ n2_
                  have p107 : 0 ≤ (x7_1 : Int) := of_decide_eq_true (by first | (with_reducible assumption) | assumption)
                  have q107 : x7_1 < (x0_1.length : Int) := of_decide_eq_true (by first | (with_reducible assumption) | assumption)
                  obtain ⟨ad107, e107, hx107_0⟩ := Kd.at_int (Wn.R_reads' HO_0.out).2.2 x7_1 p107 q107
                  cases e107
                  rw [Wn.add_off] at hx107_0
                  replace p107 := eq_true p107
                  replace q107 := eq_true q107
                  have p108 : 0 ≤ (x6_1 : Int) := of_decide_eq_true (by first | (with_reducible assumption) | assumption)
                  have q108 : x6_1 < (x0_1.length : Int) := of_decide_eq_true (by first | (with_reducible assumption) | assumption)
                  obtain ⟨ad108, e108, hx108_0⟩ := Kd.at_int (Wn.R_reads' HO_0.out).2.2 x6_1 p108 q108
                  cases e108
                  rw [Wn.add_off] at hx108_0
                  replace p108 := eq_true p108
                  replace q108 := eq_true q108
                  have p10 : 0 ≤ (x6_1 : Int) := of_decide_eq_true (by first | (with_reducible assumption) | assumption)
                  have q10 : (x6_1 : Int) < ((x0_1.length : Int) : Int) := of_decide_eq_true (by first | (with_reducible assumption) | assumption)
                  obtain ⟨gb10, gl10, cl10, HG10⟩ := Wn.R_form HO_0.out hz1
                  have GB10 := Aside0.mk gb10
                  have GG10 := Aside0.mk HG10
                  clear gb10 gl10 HG10
                  have HMgo10 := Aside0.mk (show (P0_ g ∨ w.heap.size ≤ g) from (Wn.R_ok HO_0.out))
                  (first | simp only [Wn.add_off] at hx106_0 | skip)
                  (first | simp only [Wn.add_off] at hx107_0 | skip)
                  (first | simp only [Wn.add_off] at hx108_0 | skip)
                  obtain ⟨hx10_0, hf10_0⟩ := Wn.R_celln HO_0.out (x6_1 : Int) p10 q10
                  replace p10 := eq_true p10
                  replace q10 := eq_true q10
                  have HP13 := Wn.R_putn HO_0.out (x6_1 : Int) (of_eq_true p10) (of_eq_true q10) (rd x0_1 x7_1)
                  rw [← Ny109.out] at HP13
                  have HQ13 := Aside0.mk HP13
                  clear HP13
                  have p11 : 0 ≤ (x7_1 : Int) := of_decide_eq_true (by first | (with_reducible assumption) | assumption)
                  have q11 : (x7_1 : Int) < ((x0_1.length : Int) : Int) := of_decide_eq_true (by first | (with_reducible assumption) | assumption)
                  obtain ⟨hx11_0, hf11_0⟩ := Wn.R_celln HQ13.out (x7_1 : Int) p11 q11
                  replace p11 := eq_true p11
                  replace q11 := eq_true q11
                  have HP14 := Wn.R_putn HQ13.out (x7_1 : Int) (of_eq_true p11) (of_eq_true q11) (rd x0_1 x6_1)
                  rw [← Ny110.out] at HP14
                  have HQ14 := Aside0.mk HP14
                  clear HP14
                  refine start_ (n := 16) (S := fun w' => w'.cell? ⟨g, pre.length + (x7_1).toNat, none⟩ = some (.int .i64 (rd x0_1 x7_1)) ∧ w'.cell? ⟨g, pre.length + (x6_1).toNat, none⟩ = some (.int .i64 (rd x0_1 x6_1))) (ds := [13, 15]) #[false, false, false, false, false, false, false, false, false, false, false, false, false, false, false, false] (by kernel_rfl) rfl rfl ⟨hx107_0, hx108_0⟩ (fun hHeld => ?_); refine with_tabW stats_parted_int.tab5 stats_parted_int.bits5 (fun HT_ HW_ => ?_)
                  generalize wr.drew = w12 at HO_0 HK HB GG10 HQ13 HQ14 hf10_0 hf11_0 hx106_0 hx107_0 hx108_0 hx10_0 hx11_0 hHeld ⊢
                  refine pure_ (i := 0) (N := some 23) (v := ?_) (a' := ?_) #[true, false, false, false, false, false, false, false, false, false, false, false, false, false, false, false] rfl rfl (any_of HT_.out (by kernel_rfl)) (fun _ _ _ h => h) (Or.inl ⟨by rfl, ?_⟩) ?_ ?_
                  rotate_left
                  · intro w'
                    go_simp
                    with_reducible rfl
                  rotate_left
                  · simp only [Act.put, List.setIfInBounds_toArray, List.set_cons_zero, List.set_cons_succ, i64_w, i32_w]
                    rfl
                  refine pure_ (i := 1) (N := some 24) (v := ?_) (a' := ?_) #[true, true, false, false, false, false, false, false, false, false, false, false, false, false, false, false] rfl rfl (any_of HT_.out (by kernel_rfl)) (fun _ _ _ h => h) (Or.inl ⟨by rfl, ?_⟩) ?_ ?_
                  rotate_left
                  · intro w'
                    go_simp
                    with_reducible rfl
                  rotate_left
                  · simp only [Act.put, List.setIfInBounds_toArray, List.set_cons_zero, List.set_cons_succ, i64_w, i32_w]
                    rfl
                  refine pure_ (i := 2) (N := some 25) (v := ?_) (a' := ?_) #[true, true, true, false, false, false, false, false, false, false, false, false, false, false, false, false] rfl rfl (any_of HT_.out (by kernel_rfl)) (fun _ _ _ h => h) (Or.inl ⟨by rfl, ?_⟩) ?_ ?_
                  rotate_left
                  · intro w'
                    go_simp
                    with_reducible rfl
                  rotate_left
                  · simp only [Act.put, List.setIfInBounds_toArray, List.set_cons_zero, List.set_cons_succ, i64_w, i32_w]
                    rfl
                  refine pure_ (i := 3) (N := some 26) (v := ?_) (a' := ?_) #[true, true, true, true, false, false, false, false, false, false, false, false, false, false, false, false] rfl rfl (any_of HT_.out (by kernel_rfl)) (fun _ _ _ h => h) (Or.inl ⟨by rfl, ?_⟩) ?_ ?_
                  rotate_left
                  · intro w'
                    go_simp
                    with_reducible rfl
                  rotate_left
                  · simp only [Act.put, List.setIfInBounds_toArray, List.set_cons_zero, List.set_cons_succ, i64_w, i32_w]
                    rfl
                  refine pure_ (i := 4) (N := some 27) (v := ?_) (a' := ?_) #[true, true, true, true, true, false, false, false, false, false, false, false, false, false, false, false] rfl rfl (any_of HT_.out (by kernel_rfl)) (fun _ _ _ h => h) (Or.inl ⟨by rfl, ?_⟩) ?_ ?_
                  rotate_left
                  · intro w'
                    go_simp
                    with_reducible rfl
                  rotate_left
                  · simp only [Act.put, List.setIfInBounds_toArray, List.set_cons_zero, List.set_cons_succ, i64_w, i32_w]
                    rfl
                  refine pure_ (i := 5) (N := some 28) (v := ?_) (a' := ?_) #[true, true, true, true, true, true, false, false, false, false, false, false, false, false, false, false] rfl rfl (any_of HT_.out (by kernel_rfl)) (fun _ _ _ h => h) (Or.inl ⟨by rfl, ?_⟩) ?_ ?_
                  rotate_left
                  · intro w'
                    go_simp
                    with_reducible rfl
                  rotate_left
                  · simp only [Act.put, List.setIfInBounds_toArray, List.set_cons_zero, List.set_cons_succ, i64_w, i32_w]
                    rfl
                  refine pure_ (i := 6) (N := some 29) (v := ?_) (a' := ?_) #[true, true, true, true, true, true, true, false, false, false, false, false, false, false, false, false] rfl rfl (any_of HT_.out (by kernel_rfl)) (fun _ _ _ h => h) (Or.inl ⟨by rfl, ?_⟩) ?_ ?_
                  rotate_left
                  · intro w'
                    go_simp
                    with_reducible rfl
                  rotate_left
                  · simp only [Act.put, List.setIfInBounds_toArray, List.set_cons_zero, List.set_cons_succ, i64_w, i32_w]
                    rfl
                  refine pure_ (i := 8) (N := some 31) (v := ?_) (a' := ?_) #[true, true, true, true, true, true, true, false, true, false, false, false, false, false, false, false] rfl rfl (any_of HT_.out (by kernel_rfl)) (fun _ _ _ h => h) (Or.inl ⟨by rfl, ?_⟩) ?_ ?_
                  rotate_left
                  · intro w'
                    go_simp
                    with_reducible rfl
                  rotate_left
                  · simp only [Act.put, List.setIfInBounds_toArray, List.set_cons_zero, List.set_cons_succ, i64_w, i32_w]
                    rfl
                  refine pure_ (i := 9) (N := some 32) (v := ?_) (a' := ?_) #[true, true, true, true, true, true, true, false, true, true, false, false, false, false, false, false] rfl rfl (any_of HT_.out (by kernel_rfl)) (fun _ _ _ h => h) (Or.inl ⟨by rfl, ?_⟩) ?_ ?_
                  rotate_left
                  · intro w'
                    go_simp
                    with_reducible rfl
                  rotate_left
                  · simp only [Act.put, List.setIfInBounds_toArray, List.set_cons_zero, List.set_cons_succ, i64_w, i32_w]
                    rfl
                  refine pure_ (i := 10) (N := some 33) (v := ?_) (a' := ?_) #[true, true, true, true, true, true, true, false, true, true, true, false, false, false, false, false] rfl rfl (any_of HT_.out (by kernel_rfl)) (fun _ _ _ h => h) (Or.inl ⟨by rfl, ?_⟩) ?_ ?_
                  rotate_left
                  · intro w'
                    go_simp
                    with_reducible rfl
                  rotate_left
                  · simp only [Act.put, List.setIfInBounds_toArray, List.set_cons_zero, List.set_cons_succ, i64_w, i32_w]
                    rfl
                  refine take_ (i := 7) (N := some 30) (v := ?_) (a' := ?_) #[true, true, true, true, true, true, true, true, true, true, true, false, false, false, false, false] rfl rfl (take_ofW HT_.out HW_.out (by kernel_rfl)) (fun _ _ _ h => h) (Or.inl ⟨by rfl, ?_⟩) hHeld ?_ ?_
                  rotate_left
                  · rintro w' ⟨s0, s1⟩
                    go_simp
                    with_reducible rfl
                  rotate_left
                  · simp only [Act.put, List.setIfInBounds_toArray, List.set_cons_zero, List.set_cons_succ, i64_w, i32_w]
                    rfl
                  refine take_ (i := 11) (N := some 34) (v := ?_) (a' := ?_) #[true, true, true, true, true, true, true, true, true, true, true, true, false, false, false, false] rfl rfl (take_ofW HT_.out HW_.out (by kernel_rfl)) (fun _ _ _ h => h) (Or.inl ⟨by rfl, ?_⟩) hHeld ?_ ?_
                  rotate_left
                  · rintro w' ⟨s0, s1⟩
                    go_simp
                    with_reducible rfl
                  rotate_left
                  · simp only [Act.put, List.setIfInBounds_toArray, List.set_cons_zero, List.set_cons_succ, i64_w, i32_w]
                    rfl
                  refine pure_ (i := 12) (N := some 35) (v := ?_) (a' := ?_) #[true, true, true, true, true, true, true, true, true, true, true, true, true, false, false, false] rfl rfl (any_of HT_.out (by kernel_rfl)) (fun _ _ _ h => h) (Or.inl ⟨by rfl, ?_⟩) ?_ ?_
                  rotate_left
                  · intro w'
                    go_simp
                    with_reducible rfl
                  rotate_left
                  · simp only [Act.put, List.setIfInBounds_toArray, List.set_cons_zero, List.set_cons_succ, i64_w, i32_w]
                    rfl
                  refine last_ (i := 13) (N := none) #[true, true, true, true, true, true, true, true, true, true, true, true, true, true, false, false] rfl rfl (one_of HT_.out (by kernel_rfl)) (by decide) (fun K hK => ?_)
                  refine skip_ (w1 := ?_) (by rfl) rfl ?_ ?_
                  rotate_left
                  · go_simp
                    rfl
                  refine hK.out _ _ ?_
                  clear hK K
                  refine pure_ (i := 14) (N := some 36) (v := ?_) (a' := ?_) #[true, true, true, true, true, true, true, true, true, true, true, true, true, true, true, false] rfl rfl (any_of HT_.out (by kernel_rfl)) (fun _ _ _ h => h) (Or.inl ⟨by rfl, ?_⟩) ?_ ?_
                  rotate_left
                  · intro w'
                    go_simp
                    with_reducible rfl
                  rotate_left
                  · simp only [Act.put, List.setIfInBounds_toArray, List.set_cons_zero, List.set_cons_succ, i64_w, i32_w]
                    rfl
                  refine last_ (i := 15) (N := none) #[true, true, true, true, true, true, true, true, true, true, true, true, true, true, true, true] rfl rfl (one_of HT_.out (by kernel_rfl)) (by decide) (fun K hK => ?_)
                  refine skip_ (w1 := ?_) (by rfl) rfl ?_ ?_
                  rotate_left
                  · go_simp
                    rfl
                  refine hK.out _ _ ?_
                  clear hK K
                  refine done_ (done_of HT_.out (by kernel_rfl)) ?_
                  try go_wp2
                  (try simp only [← hl0_1])
                  go_roundg k1
                  case measure => have := HK1.out; omega
                  case rel => exact ⟨(y110), (wrap64 (x6_1 + 1)), (wrap64 (x7_1 + 1)), (x8_1), (by first | rfl | (simp; done) | (simp [*]; done)), (by first | rfl | (simp; done) | (simp [*]; done)), (by first | rfl | (simp; done) | (simp [*]; done)), H', ⟨by have := HK1.out; omega⟩, ⟨by (try simp only [hl0_1]); (with_reducible repeat (first | apply Wn.R_alloc | apply Wn.R_drewN | apply Wn.R_drew)); exact HQ14.out⟩, ⟨by repeat (first | (with_reducible first | exact HK.out | apply Kept.alloc | apply Kept.drewN | apply Kept.drew | refine Kept.setCell ?_ HMgo10.out _ | refine Kept.setCell ?_ HMgo10.out _) | exact HK.out)⟩, ⟨by repeat (first | (with_reducible first | exact HB.out | apply below_alloc | apply pw_below_drewN | apply below_drew1 | refine below_set ?_ GB10.out | refine below_set ?_ GB10.out) | exact HB.out)⟩⟩
                · rw [if_neg c9] at H
                  exact absurd H (by simp)
              · rw [if_neg c8] at H
                exact absurd H (by simp)
            · rw [if_neg c7] at H
              have c7b0 : decide ((rd x0_1 x7_1) < a1) = false := decide_eq_false c7
              clear c7
              by_cases c15 : (rd x0_1 x7_1) > a1
              · rw [if_pos c15] at H
                have c15b0 : decide (a1 < (rd x0_1 x7_1)) = true := decide_eq_true c15
                clear c15
                obtain ⟨ji16, hji16⟩ : ∃ j_ : Int, (wrap64 (x8_1 - 1)) = j_ := ⟨_, rfl⟩
                replace H : (if 0 ≤ (ji16) then (if (ji16) < (x0_1.length : Int) then (stats_parted_int.l0 k1 ((x0_1.set ((ji16) : Int).toNat (rd x0_1 x7_1)).set (x7_1 : Int).toNat (rd x0_1 (ji16))) a1 x6_1 x7_1 ji16) else (none)) else (none)) = some (r1, r2, r3) := by first | (rw [hji16] at H; exact H) | (simp only [hji16] at H ⊢; exact H)
                have hji16w : (IntKind.i64.wrap (x8_1 - 1)) = ji16 := (i64_w _).trans hji16
                by_cases c17 : 0 ≤ (ji16)
                · rw [if_pos c17] at H
                  have c17b0 : decide (0 ≤ (ji16)) = true := decide_eq_true c17
                  clear c17
                  by_cases c18 : (ji16) < (x0_1.length : Int)
                  · rw [if_pos c18] at H
                    have c18b0 : decide ((ji16) < (x0_1.length : Int)) = true := decide_eq_true c18
                    clear c18
                    obtain ⟨y114, hy114⟩ : ∃ y_ : List Int, y_ = (x0_1.set ((ji16) : Int).toNat (rd x0_1 x7_1)) := ⟨_, rfl⟩
                    replace H : (stats_parted_int.l0 k1 (y114.set (x7_1 : Int).toNat (rd x0_1 (ji16))) a1 x6_1 x7_1 ji16) = some (r1, r2, r3) := by first | (rw [hy114]; with_reducible exact H) | (have H2_ := (Option.bind_some _ _).symm.trans H; rw [hy114]; with_reducible exact H2_) | (have H2_ := (Option.bind_some _ _).symm.trans H; with_reducible exact H2_) | with_reducible exact H | (rw [hy114]; exact H) | exact H
                    have Ny114 := Aside0.mk hy114
                    clear hy114
                    obtain ⟨y115, hy115⟩ : ∃ y_ : List Int, y_ = (y114.set (x7_1 : Int).toNat (rd x0_1 (ji16))) := ⟨_, rfl⟩
                    replace H : (stats_parted_int.l0 k1 y115 a1 x6_1 x7_1 ji16) = some (r1, r2, r3) := by first | (rw [hy115]; with_reducible exact H) | (have H2_ := (Option.bind_some _ _).symm.trans H; rw [hy115]; with_reducible exact H2_) | (have H2_ := (Option.bind_some _ _).symm.trans H; with_reducible exact H2_) | with_reducible exact H | (rw [hy115]; exact H) | exact H
                    have Ny115 := Aside0.mk hy115
                    clear hy115
                    have H' := Aside0.mk H
                    clear H
                    have p106 : 0 ≤ (x7_1 : Int) := of_decide_eq_true (by first | (with_reducible assumption) | assumption)
                    have q106 : x7_1 < (x0_1.length : Int) := of_decide_eq_true (by first | (with_reducible assumption) | assumption)
                    obtain ⟨ad106, e106, hx106_0⟩ := Kd.at_int (Wn.R_reads' HO_0.out).2.2 x7_1 p106 q106
                    cases e106
                    rw [Wn.add_off] at hx106_0
                    replace p106 := eq_true p106
                    replace q106 := eq_true q106
                    have p111 : 0 ≤ (x7_1 : Int) := of_decide_eq_true (by first | (with_reducible assumption) | assumption)
                    have q111 : x7_1 < (x0_1.length : Int) := of_decide_eq_true (by first | (with_reducible assumption) | assumption)
                    obtain ⟨ad111, e111, hx111_0⟩ := Kd.at_int (Wn.R_reads' HO_0.out).2.2 x7_1 p111 q111
                    cases e111
                    rw [Wn.add_off] at hx111_0
                    replace p111 := eq_true p111
                    replace q111 := eq_true q111
                    try go_wp2
                    have n0_ := Aside0.mk (Wn.R_drew HO_0.out)
                    have n1_ := Aside0.mk (Kept.drew HK.out)
                    have n2_ := Aside0.mk (below_drew1 HB.out)
                    clear HO_0
                    clear HK
                    clear HB
                    have HO_0 := n0_
                    have HK := n1_
                    have HB := n2_
                    clear n0_ n1_ n2_
                    have p112 : 0 ≤ (x7_1 : Int) := of_decide_eq_true (by first | (with_reducible assumption) | assumption)
                    have q112 : x7_1 < (x0_1.length : Int) := of_decide_eq_true (by first | (with_reducible assumption) | assumption)
                    obtain ⟨ad112, e112, hx112_0⟩ := Kd.at_int (Wn.R_reads' HO_0.out).2.2 x7_1 p112 q112
                    cases e112
                    rw [Wn.add_off] at hx112_0
                    replace p112 := eq_true p112
                    replace q112 := eq_true q112
                    have p113 : 0 ≤ ((ji16) : Int) := of_decide_eq_true (by first | (with_reducible assumption) | assumption)
                    have q113 : (ji16) < (x0_1.length : Int) := of_decide_eq_true (by first | (with_reducible assumption) | assumption)
                    obtain ⟨ad113, e113, hx113_0⟩ := Kd.at_int (Wn.R_reads' HO_0.out).2.2 (ji16) p113 q113
                    cases e113
                    rw [Wn.add_off] at hx113_0
                    replace p113 := eq_true p113
                    replace q113 := eq_true q113
                    have p19 : 0 ≤ ((ji16) : Int) := of_decide_eq_true (by first | (with_reducible assumption) | assumption)
                    have q19 : ((ji16) : Int) < ((x0_1.length : Int) : Int) := of_decide_eq_true (by first | (with_reducible assumption) | assumption)
                    obtain ⟨gb19, gl19, cl19, HG19⟩ := Wn.R_form HO_0.out hz1
                    have GB19 := Aside0.mk gb19
                    have GG19 := Aside0.mk HG19
                    clear gb19 gl19 HG19
                    have HMgo19 := Aside0.mk (show (P0_ g ∨ w.heap.size ≤ g) from (Wn.R_ok HO_0.out))
                    (first | simp only [Wn.add_off] at hx106_0 | skip)
                    (first | simp only [Wn.add_off] at hx111_0 | skip)
                    (first | simp only [Wn.add_off] at hx112_0 | skip)
                    (first | simp only [Wn.add_off] at hx113_0 | skip)
                    obtain ⟨hx19_0, hf19_0⟩ := Wn.R_celln HO_0.out ((ji16) : Int) p19 q19
                    replace p19 := eq_true p19
                    replace q19 := eq_true q19
                    have HP22 := Wn.R_putn HO_0.out ((ji16) : Int) (of_eq_true p19) (of_eq_true q19) (rd x0_1 x7_1)
                    rw [← Ny114.out] at HP22
                    have HQ22 := Aside0.mk HP22
                    clear HP22
                    have p20 : 0 ≤ (x7_1 : Int) := of_decide_eq_true (by first | (with_reducible assumption) | assumption)
                    have q20 : (x7_1 : Int) < ((x0_1.length : Int) : Int) := of_decide_eq_true (by first | (with_reducible assumption) | assumption)
                    obtain ⟨hx20_0, hf20_0⟩ := Wn.R_celln HQ22.out (x7_1 : Int) p20 q20
                    replace p20 := eq_true p20
                    replace q20 := eq_true q20
                    have HP23 := Wn.R_putn HQ22.out (x7_1 : Int) (of_eq_true p20) (of_eq_true q20) (rd x0_1 (ji16))
                    rw [← Ny115.out] at HP23
                    have HQ23 := Aside0.mk HP23
                    clear HP23
                    refine start_ (n := 16) (S := fun w' => w'.cell? ⟨g, pre.length + (x7_1).toNat, none⟩ = some (.int .i64 (rd x0_1 x7_1)) ∧ w'.cell? ⟨g, pre.length + ((ji16)).toNat, none⟩ = some (.int .i64 (rd x0_1 (ji16)))) (ds := [13, 15]) #[false, false, false, false, false, false, false, false, false, false, false, false, false, false, false, false] (by kernel_rfl) rfl rfl ⟨hx112_0, hx113_0⟩ (fun hHeld => ?_); refine with_tabW stats_parted_int.tab9 stats_parted_int.bits9 (fun HT_ HW_ => ?_)
                    generalize wr.drew = w21 at HO_0 HK HB GG19 HQ22 HQ23 hf19_0 hf20_0 hx106_0 hx111_0 hx112_0 hx113_0 hx19_0 hx20_0 hHeld ⊢
                    refine pure_ (i := 0) (N := some 50) (v := ?_) (a' := ?_) #[true, false, false, false, false, false, false, false, false, false, false, false, false, false, false, false] rfl rfl (any_of HT_.out (by kernel_rfl)) (fun _ _ _ h => h) (Or.inl ⟨by rfl, ?_⟩) ?_ ?_
                    rotate_left
                    · intro w'
                      go_simp
                      with_reducible rfl
                    rotate_left
                    · simp only [Act.put, List.setIfInBounds_toArray, List.set_cons_zero, List.set_cons_succ, i64_w, i32_w]
                      rfl
                    refine pure_ (i := 1) (N := some 51) (v := ?_) (a' := ?_) #[true, true, false, false, false, false, false, false, false, false, false, false, false, false, false, false] rfl rfl (any_of HT_.out (by kernel_rfl)) (fun _ _ _ h => h) (Or.inl ⟨by rfl, ?_⟩) ?_ ?_
                    rotate_left
                    · intro w'
                      go_simp
                      with_reducible rfl
                    rotate_left
                    · simp only [Act.put, List.setIfInBounds_toArray, List.set_cons_zero, List.set_cons_succ, i64_w, i32_w]
                      rfl
                    refine pure_ (i := 2) (N := some 52) (v := ?_) (a' := ?_) #[true, true, true, false, false, false, false, false, false, false, false, false, false, false, false, false] rfl rfl (any_of HT_.out (by kernel_rfl)) (fun _ _ _ h => h) (Or.inl ⟨by rfl, ?_⟩) ?_ ?_
                    rotate_left
                    · intro w'
                      go_simp
                      with_reducible rfl
                    rotate_left
                    · simp only [Act.put, List.setIfInBounds_toArray, List.set_cons_zero, List.set_cons_succ, i64_w, i32_w]
                      rfl
                    refine pure_ (i := 3) (N := some 53) (v := ?_) (a' := ?_) #[true, true, true, true, false, false, false, false, false, false, false, false, false, false, false, false] rfl rfl (any_of HT_.out (by kernel_rfl)) (fun _ _ _ h => h) (Or.inl ⟨by rfl, ?_⟩) ?_ ?_
                    rotate_left
                    · intro w'
                      go_simp
                      with_reducible rfl
                    rotate_left
                    · simp only [Act.put, List.setIfInBounds_toArray, List.set_cons_zero, List.set_cons_succ, i64_w, i32_w]
                      rfl
                    refine pure_ (i := 4) (N := some 54) (v := ?_) (a' := ?_) #[true, true, true, true, true, false, false, false, false, false, false, false, false, false, false, false] rfl rfl (any_of HT_.out (by kernel_rfl)) (fun _ _ _ h => h) (Or.inl ⟨by rfl, ?_⟩) ?_ ?_
                    rotate_left
                    · intro w'
                      go_simp
                      with_reducible rfl
                    rotate_left
                    · simp only [Act.put, List.setIfInBounds_toArray, List.set_cons_zero, List.set_cons_succ, i64_w, i32_w]
                      rfl
                    refine pure_ (i := 5) (N := some 55) (v := ?_) (a' := ?_) #[true, true, true, true, true, true, false, false, false, false, false, false, false, false, false, false] rfl rfl (any_of HT_.out (by kernel_rfl)) (fun _ _ _ h => h) (Or.inl ⟨by rfl, ?_⟩) ?_ ?_
                    rotate_left
                    · intro w'
                      go_simp
                      with_reducible rfl
                    rotate_left
                    · simp only [Act.put, List.setIfInBounds_toArray, List.set_cons_zero, List.set_cons_succ, i64_w, i32_w]
                      rfl
                    refine pure_ (i := 6) (N := some 56) (v := ?_) (a' := ?_) #[true, true, true, true, true, true, true, false, false, false, false, false, false, false, false, false] rfl rfl (any_of HT_.out (by kernel_rfl)) (fun _ _ _ h => h) (Or.inl ⟨by rfl, ?_⟩) ?_ ?_
                    rotate_left
                    · intro w'
                      go_simp
                      with_reducible rfl
                    rotate_left
                    · simp only [Act.put, List.setIfInBounds_toArray, List.set_cons_zero, List.set_cons_succ, i64_w, i32_w]
                      rfl
                    refine pure_ (i := 8) (N := some 58) (v := ?_) (a' := ?_) #[true, true, true, true, true, true, true, false, true, false, false, false, false, false, false, false] rfl rfl (any_of HT_.out (by kernel_rfl)) (fun _ _ _ h => h) (Or.inl ⟨by rfl, ?_⟩) ?_ ?_
                    rotate_left
                    · intro w'
                      go_simp
                      with_reducible rfl
                    rotate_left
                    · simp only [Act.put, List.setIfInBounds_toArray, List.set_cons_zero, List.set_cons_succ, i64_w, i32_w]
                      rfl
                    refine pure_ (i := 9) (N := some 59) (v := ?_) (a' := ?_) #[true, true, true, true, true, true, true, false, true, true, false, false, false, false, false, false] rfl rfl (any_of HT_.out (by kernel_rfl)) (fun _ _ _ h => h) (Or.inl ⟨by rfl, ?_⟩) ?_ ?_
                    rotate_left
                    · intro w'
                      go_simp
                      with_reducible rfl
                    rotate_left
                    · simp only [Act.put, List.setIfInBounds_toArray, List.set_cons_zero, List.set_cons_succ, i64_w, i32_w]
                      rfl
                    refine pure_ (i := 10) (N := some 60) (v := ?_) (a' := ?_) #[true, true, true, true, true, true, true, false, true, true, true, false, false, false, false, false] rfl rfl (any_of HT_.out (by kernel_rfl)) (fun _ _ _ h => h) (Or.inl ⟨by rfl, ?_⟩) ?_ ?_
                    rotate_left
                    · intro w'
                      go_simp
                      with_reducible rfl
                    rotate_left
                    · simp only [Act.put, List.setIfInBounds_toArray, List.set_cons_zero, List.set_cons_succ, i64_w, i32_w]
                      rfl
                    refine take_ (i := 7) (N := some 57) (v := ?_) (a' := ?_) #[true, true, true, true, true, true, true, true, true, true, true, false, false, false, false, false] rfl rfl (take_ofW HT_.out HW_.out (by kernel_rfl)) (fun _ _ _ h => h) (Or.inl ⟨by rfl, ?_⟩) hHeld ?_ ?_
                    rotate_left
                    · rintro w' ⟨s0, s1⟩
                      go_simp
                      with_reducible rfl
                    rotate_left
                    · simp only [Act.put, List.setIfInBounds_toArray, List.set_cons_zero, List.set_cons_succ, i64_w, i32_w]
                      rfl
                    refine take_ (i := 11) (N := some 61) (v := ?_) (a' := ?_) #[true, true, true, true, true, true, true, true, true, true, true, true, false, false, false, false] rfl rfl (take_ofW HT_.out HW_.out (by kernel_rfl)) (fun _ _ _ h => h) (Or.inl ⟨by rfl, ?_⟩) hHeld ?_ ?_
                    rotate_left
                    · rintro w' ⟨s0, s1⟩
                      go_simp
                      with_reducible rfl
                    rotate_left
                    · simp only [Act.put, List.setIfInBounds_toArray, List.set_cons_zero, List.set_cons_succ, i64_w, i32_w]
                      rfl
                    refine pure_ (i := 12) (N := some 62) (v := ?_) (a' := ?_) #[true, true, true, true, true, true, true, true, true, true, true, true, true, false, false, false] rfl rfl (any_of HT_.out (by kernel_rfl)) (fun _ _ _ h => h) (Or.inl ⟨by rfl, ?_⟩) ?_ ?_
                    rotate_left
                    · intro w'
                      go_simp
                      with_reducible rfl
                    rotate_left
                    · simp only [Act.put, List.setIfInBounds_toArray, List.set_cons_zero, List.set_cons_succ, i64_w, i32_w]
                      rfl
                    refine last_ (i := 13) (N := none) #[true, true, true, true, true, true, true, true, true, true, true, true, true, true, false, false] rfl rfl (one_of HT_.out (by kernel_rfl)) (by decide) (fun K hK => ?_)
                    refine skip_ (w1 := ?_) (by rfl) rfl ?_ ?_
                    rotate_left
                    · go_simp
                      rfl
                    refine hK.out _ _ ?_
                    clear hK K
                    refine pure_ (i := 14) (N := some 63) (v := ?_) (a' := ?_) #[true, true, true, true, true, true, true, true, true, true, true, true, true, true, true, false] rfl rfl (any_of HT_.out (by kernel_rfl)) (fun _ _ _ h => h) (Or.inl ⟨by rfl, ?_⟩) ?_ ?_
                    rotate_left
                    · intro w'
                      go_simp
                      with_reducible rfl
                    rotate_left
                    · simp only [Act.put, List.setIfInBounds_toArray, List.set_cons_zero, List.set_cons_succ, i64_w, i32_w]
                      rfl
                    refine last_ (i := 15) (N := none) #[true, true, true, true, true, true, true, true, true, true, true, true, true, true, true, true] rfl rfl (one_of HT_.out (by kernel_rfl)) (by decide) (fun K hK => ?_)
                    refine skip_ (w1 := ?_) (by rfl) rfl ?_ ?_
                    rotate_left
                    · go_simp
                      rfl
                    refine hK.out _ _ ?_
                    clear hK K
                    refine done_ (done_of HT_.out (by kernel_rfl)) ?_
                    try go_wp2
                    (try simp only [← hl0_1])
                    go_roundg k1
                    case measure => have := HK1.out; omega
                    case rel => exact ⟨(y115), (x6_1), (x7_1), (ji16), (by first | rfl | (simp; done) | (simp [*]; done)), (by first | rfl | (simp; done) | (simp [*]; done)), (by first | rfl | (simp; done) | (simp only [← hji16] <;> (first | rfl | simp)) | (simp [*]; done)), H', ⟨by have := HK1.out; omega⟩, ⟨by (try simp only [hl0_1]); (with_reducible repeat (first | apply Wn.R_alloc | apply Wn.R_drewN | apply Wn.R_drew)); exact HQ23.out⟩, ⟨by repeat (first | (with_reducible first | exact HK.out | apply Kept.alloc | apply Kept.drewN | apply Kept.drew | refine Kept.setCell ?_ HMgo19.out _ | refine Kept.setCell ?_ HMgo19.out _) | exact HK.out)⟩, ⟨by repeat (first | (with_reducible first | exact HB.out | apply below_alloc | apply pw_below_drewN | apply below_drew1 | refine below_set ?_ GB19.out | refine below_set ?_ GB19.out) | exact HB.out)⟩⟩
                  · rw [if_neg c18] at H
                    exact absurd H (by simp)
                · rw [if_neg c17] at H
                  exact absurd H (by simp)
              · rw [if_neg c15] at H
                have c15b0 : decide (a1 < (rd x0_1 x7_1)) = false := decide_eq_false c15
                clear c15
                have H' := Aside0.mk H
                clear H
                have p106 : 0 ≤ (x7_1 : Int) := of_decide_eq_true (by first | (with_reducible assumption) | assumption)
                have q106 : x7_1 < (x0_1.length : Int) := of_decide_eq_true (by first | (with_reducible assumption) | assumption)
                obtain ⟨ad106, e106, hx106_0⟩ := Kd.at_int (Wn.R_reads' HO_0.out).2.2 x7_1 p106 q106
                cases e106
                rw [Wn.add_off] at hx106_0
                replace p106 := eq_true p106
                replace q106 := eq_true q106
                have p111 : 0 ≤ (x7_1 : Int) := of_decide_eq_true (by first | (with_reducible assumption) | assumption)
                have q111 : x7_1 < (x0_1.length : Int) := of_decide_eq_true (by first | (with_reducible assumption) | assumption)
                obtain ⟨ad111, e111, hx111_0⟩ := Kd.at_int (Wn.R_reads' HO_0.out).2.2 x7_1 p111 q111
                cases e111
                rw [Wn.add_off] at hx111_0
                replace p111 := eq_true p111
                replace q111 := eq_true q111
                go_wp2
                (try simp only [← hl0_1])
                go_roundg k1
                case measure => have := HK1.out; omega
                case rel => exact ⟨(x0_1), (x6_1), (wrap64 (x7_1 + 1)), (x8_1), (by first | rfl | (simp; done) | (simp [*]; done)), (by first | rfl | (simp; done) | (simp [*]; done)), (by first | rfl | (simp; done) | (simp [*]; done)), H', ⟨by have := HK1.out; omega⟩, ⟨by (try simp only [hl0_1]); (with_reducible repeat (first | apply Wn.R_alloc | apply Wn.R_drewN | apply Wn.R_drew)); exact HO_0.out⟩, ⟨by repeat (first | (with_reducible first | exact HK.out | apply Kept.alloc | apply Kept.drewN | apply Kept.drew) | exact HK.out)⟩, ⟨by repeat (first | (with_reducible first | exact HB.out | apply below_alloc | apply pw_below_drewN | apply below_drew1) | exact HB.out)⟩⟩
          · rw [if_neg c6] at H
            exact absurd H (by simp)
        · rw [if_neg c5] at H
          exact absurd H (by simp)
      · rw [if_neg c4] at H
        have c4b0 : decide (x7_1 < x8_1) = false := decide_eq_false c4
        clear c4
        simp only [Option.some.injEq, Prod.mk.injEq] at H
        obtain ⟨rfl, rfl, rfl⟩ := H
        go_wp2
        go_ret2
        exact ⟨by first | rfl | (simp [errW_none, errW_some] <;> rfl) | (simp [*, errW_none, errW_some] <;> rfl), (by first | exact (by (with_reducible repeat (first | apply Wn.R_alloc | apply Wn.R_drewN | apply Wn.R_drew)); exact HO_0.out) | (simp only [hl0_1]; exact (by (with_reducible repeat (first | apply Wn.R_alloc | apply Wn.R_drewN | apply Wn.R_drew)); exact HO_0.out))), by repeat (first | (with_reducible first | exact HB.out | apply below_alloc | apply pw_below_drewN | apply below_drew1) | exact HB.out), by repeat (first | (with_reducible first | exact HK.out | apply Kept.alloc | apply Kept.drewN | apply Kept.drew) | exact HK.out)⟩

-- NOT PRINTED: function 35 (stats_kth_int)

-- NOT PRINTED: function 36 (slices_Clone_int_int)

-- NOT PRINTED: function 13 (stats_Small)


def stats_kth_int.l0 : Nat → List Int → List Int → List Int → Int → Option (Int × List Int)
  | 0, _, _, _, _ => none
  | k + 1, p, x0, q, x1 => if (x0.length : Int) > 1 then (if 0 < (x0.length : Int) then (if 0 ≤ (wrap64 ((x0.length : Int) / 2)) then (if (wrap64 ((x0.length : Int) / 2)) < (x0.length : Int) then (if 0 ≤ (wrap64 ((x0.length : Int) - 1)) then (if (wrap64 ((x0.length : Int) - 1)) < (x0.length : Int) then ((stats_parted_int.f k x0 (mx (mn (rd x0 0) (rd x0 (wrap64 ((x0.length : Int) / 2)))) (mn (mx (rd x0 0) (rd x0 (wrap64 ((x0.length : Int) / 2)))) (rd x0 (wrap64 ((x0.length : Int) - 1)))))).bind fun bt135 => (if x1 < bt135.1 then (if 0 ≤ bt135.1 then (if bt135.1 ≤ (x0.length : Int) then (stats_kth_int.l0 k p (bt135.2.2.take (bt135.1 : Int).toNat) (bt135.2.2.drop (bt135.1 : Int).toNat ++ q) x1) else (none)) else (none)) else (if x1 < bt135.2.1 then (some ((mx (mn (rd x0 0) (rd x0 (wrap64 ((x0.length : Int) / 2)))) (mn (mx (rd x0 0) (rd x0 (wrap64 ((x0.length : Int) / 2)))) (rd x0 (wrap64 ((x0.length : Int) - 1))))), p ++ bt135.2.2 ++ q)) else (if 0 ≤ bt135.2.1 then (if bt135.2.1 ≤ (x0.length : Int) then (stats_kth_int.l0 k (p ++ bt135.2.2.take (bt135.2.1 : Int).toNat) (bt135.2.2.drop (bt135.2.1 : Int).toNat) q (wrap64 (x1 - bt135.2.1))) else (none)) else (none))))) else (none)) else (none)) else (none)) else (none)) else (none)) else (if 0 < (x0.length : Int) then (some (rd x0 0, p ++ x0 ++ q)) else (none))
def stats_kth_int.f (k : Nat) (l0 : List Int) (a1 : Int) : Option (Int × List Int) := stats_kth_int.l0 k [] l0 [] a1
theorem stats_kth_int.mono_l : ∀ k, (∀ y0 y1 y2 y3, LeO (stats_kth_int.l0 k y0 y1 y2 y3) (stats_kth_int.l0 (k + 1) y0 y1 y2 y3))
  | 0 => fun _ _ _ _ r h => by simp [stats_kth_int.l0] at h
  | k + 1 => by
    have ih0 := stats_kth_int.mono_l k
    · intro y0 y1 y2 y3
      unfold stats_kth_int.l0
      repeat' first
      | (with_reducible exact ih0 _ _ _ _)
      | (with_reducible exact stats_parted_int.mono _ _ _)
      | (with_reducible exact LeO.refl _)
      | (with_reducible exact LeO.none _)
      | (with_reducible refine LeO.ite ?_ ?_)
      | (with_reducible refine LeO.bind ?_ (fun _ => ?_))
      | exact ih0 _ _ _ _
      | exact stats_parted_int.mono _ _ _
      | exact LeO.none _
      | refine LeO.ite ?_ ?_
      | refine LeO.bind ?_ (fun _ => ?_)
theorem stats_kth_int.mono : ∀ a0 a1 k, LeO (stats_kth_int.f k a0 a1) (stats_kth_int.f (k + 1) a0 a1) := by
  intro a0 a1 k
  have ih0 := stats_kth_int.mono_l k
  unfold stats_kth_int.f
  repeat' first
      | (with_reducible exact ih0 _ _ _ _)
      | (with_reducible exact stats_parted_int.mono _ _ _)
      | (with_reducible exact LeO.refl _)
      | (with_reducible exact LeO.none _)
      | (with_reducible refine LeO.ite ?_ ?_)
      | (with_reducible refine LeO.bind ?_ (fun _ => ?_))
      | exact ih0 _ _ _ _
      | exact stats_parted_int.mono _ _ _
      | exact LeO.none _
      | refine LeO.ite ?_ ?_
      | refine LeO.bind ?_ (fun _ => ?_)
set_option maxHeartbeats 8000000 in
set_option maxRecDepth 100000 in
theorem stats_kth_int.calls (k : Nat) (P0_ : Nat → Prop) (u9000_ : Value) (l0 : List Int) (a1 : Int) (r1 : Int) (r2 : List Int) (w0 w : World) (hB : Below w0.heap.size w0 w) (ho0 : Kd.R (Kd.int .i64) 3 w w0.heap.size P0_ u9000_ l0) (h : stats_kth_int.f k l0 a1 = some (r1, r2)) :
    Calls Try.prog 64 #[u9000_, .int .i64 a1] w fun e w' => e = .returned (.int .i64 r1) ∧ Kd.R (Kd.int .i64) 3 w' w0.heap.size (fun k_ => (P0_ k_ ∨ w.heap.size ≤ k_)) u9000_ r2 ∧ Below w0.heap.size w0 w' ∧ Kept w w' (fun k_ => P0_ k_) := by
  have hpos : 0 < l0.length := by
    rcases Nat.eq_zero_or_pos l0.length with z | z
    · obtain rfl := List.eq_nil_of_length_eq_zero z
      exact absurd h (by cases k <;> simp [stats_kth_int.f, stats_kth_int.l0])
    · exact z
  obtain ⟨g, cap, rfl, _, _, _⟩ := Kd.R_form ho0 hpos
  have HO0 := Aside0.mk (show Wn.Wn 3 w w0.heap.size (fun k_ => (P0_ k_ ∨ w.heap.size ≤ k_)) g cap l0.length [] [] l0.length l0 from ⟨rfl, by rw [List.nil_append, List.append_nil]; exact Kd.R_mono ho0 (fun k_ hk => (.inl hk))⟩)
  have HC0 := Aside0.mk (Kd.R_reads' ho0).2.1
  have HK := Aside0.mk (Kept.refl w (fun k_ => P0_ k_))
  have HB := Aside0.mk hB
  clear hB ho0
  have H : (stats_kth_int.l0 k [] l0 [] a1) = some (r1, r2) := h
  clear h
  have H' := Aside0.mk H
  clear H
  go_enter Try.func64, Try.ntmps64
  go_wp2
  repeat (go_quiet (fail); try go_wp2)
  go_loopg [0, 1] k (fun kq v0 v1 w' => ∃ (x0_1 : List Int) (x1_1 : Int) (pr_ po_ : List Int) (cw : Nat), v0 = .slice (some ⟨g, pr_.length, none⟩) x0_1.length cw ∧ v1 = .int .i64 x1_1 ∧ Aside0 (stats_kth_int.l0 kq pr_ x0_1 po_ x1_1 = some (r1, r2)) ∧ Aside0 (kq ≤ k) ∧ Aside0 (Wn.Wn 3 w' w0.heap.size (fun k_ => (P0_ k_ ∨ w.heap.size ≤ k_)) g cap l0.length pr_ po_ x0_1.length x0_1) ∧ Aside0 (x0_1.length ≤ cw) ∧ Aside0 (Kept w w' (fun k_ => P0_ k_)) ∧ Aside0 (Below w0.heap.size w0 w'))
  case atStart => exact ⟨(l0), (a1), [], [], cap, (by first | rfl | (simp; done) | (simp [*]; done)), (by first | rfl | (simp; done) | (simp [*]; done)), H', ⟨Nat.le_refl _⟩, ⟨by (with_reducible repeat (first | apply Wn.R_alloc | apply Wn.R_drewN | apply Wn.R_drew)); exact HO0.out⟩, ⟨HC0.out⟩, ⟨by repeat (first | (with_reducible first | exact HK.out | apply Kept.alloc | apply Kept.drewN | apply Kept.drew) | exact HK.out)⟩, ⟨by repeat (first | (with_reducible first | exact HB.out | apply below_alloc | apply pw_below_drewN | apply below_drew1) | exact HB.out)⟩⟩
  case round =>
    clear H' HO0 HC0 HK HB
    obtain ⟨x0_1, x1_1, pr_, po_, cw, rfl, rfl, HA, HK1, HO_0, HCW, HK, HB⟩ := hrel
    cases gk with
    | zero => exact absurd HA.out (by simp [stats_kth_int.l0])
    | succ k1 =>
      have H := HA.out
      clear HA
      simp only [stats_kth_int.l0] at H
      by_cases c3 : (x0_1.length : Int) > 1
      · rw [if_pos c3] at H
        have c3b0 : decide (1 < (x0_1.length : Int)) = true := decide_eq_true c3
        have c3b1 : decide (1 < x0_1.length) = true := decide_eq_true (by omega)
        clear c3
        by_cases c4 : 0 < (x0_1.length : Int)
        · rw [if_pos c4] at H
          have c4b0 : decide (0 < (x0_1.length : Int)) = true := decide_eq_true c4
          have c4b1 : decide (0 < x0_1.length) = true := decide_eq_true (by omega)
          clear c4
          obtain ⟨ji5, hji5⟩ : ∃ j_ : Int, (wrap64 ((x0_1.length : Int) / 2)) = j_ := ⟨_, rfl⟩
          replace H : (if 0 ≤ (ji5) then (if (ji5) < (x0_1.length : Int) then (if 0 ≤ (wrap64 ((x0_1.length : Int) - 1)) then (if (wrap64 ((x0_1.length : Int) - 1)) < (x0_1.length : Int) then ((stats_parted_int.f k1 x0_1 (mx (mn (rd x0_1 0) (rd x0_1 (ji5))) (mn (mx (rd x0_1 0) (rd x0_1 (ji5))) (rd x0_1 (wrap64 ((x0_1.length : Int) - 1)))))).bind fun bt135 => (if x1_1 < bt135.1 then (if 0 ≤ bt135.1 then (if bt135.1 ≤ (x0_1.length : Int) then (stats_kth_int.l0 k1 pr_ (bt135.2.2.take (bt135.1 : Int).toNat) (bt135.2.2.drop (bt135.1 : Int).toNat ++ po_) x1_1) else (none)) else (none)) else (if x1_1 < bt135.2.1 then (some ((mx (mn (rd x0_1 0) (rd x0_1 (ji5))) (mn (mx (rd x0_1 0) (rd x0_1 (ji5))) (rd x0_1 (wrap64 ((x0_1.length : Int) - 1))))), pr_ ++ bt135.2.2 ++ po_)) else (if 0 ≤ bt135.2.1 then (if bt135.2.1 ≤ (x0_1.length : Int) then (stats_kth_int.l0 k1 (pr_ ++ bt135.2.2.take (bt135.2.1 : Int).toNat) (bt135.2.2.drop (bt135.2.1 : Int).toNat) po_ (wrap64 (x1_1 - bt135.2.1))) else (none)) else (none))))) else (none)) else (none)) else (none)) else (none)) = some (r1, r2) := by first | (rw [hji5] at H; exact H) | (simp only [hji5] at H ⊢; exact H)
          have hji5w : (IntKind.i64.wrap ((x0_1.length : Int) / 2)) = ji5 := (i64_w _).trans hji5
          by_cases c6 : 0 ≤ (ji5)
          · rw [if_pos c6] at H
            have c6b0 : decide (0 ≤ (ji5)) = true := decide_eq_true c6
            clear c6
            by_cases c7 : (ji5) < (x0_1.length : Int)
            · rw [if_pos c7] at H
              have c7b0 : decide ((ji5) < (x0_1.length : Int)) = true := decide_eq_true c7
              clear c7
              obtain ⟨ji8, hji8⟩ : ∃ j_ : Int, (mn (rd x0_1 0) (rd x0_1 (ji5))) = j_ := ⟨_, rfl⟩
              replace H : (if 0 ≤ (wrap64 ((x0_1.length : Int) - 1)) then (if (wrap64 ((x0_1.length : Int) - 1)) < (x0_1.length : Int) then ((stats_parted_int.f k1 x0_1 (mx (ji8) (mn (mx (rd x0_1 0) (rd x0_1 (ji5))) (rd x0_1 (wrap64 ((x0_1.length : Int) - 1)))))).bind fun bt135 => (if x1_1 < bt135.1 then (if 0 ≤ bt135.1 then (if bt135.1 ≤ (x0_1.length : Int) then (stats_kth_int.l0 k1 pr_ (bt135.2.2.take (bt135.1 : Int).toNat) (bt135.2.2.drop (bt135.1 : Int).toNat ++ po_) x1_1) else (none)) else (none)) else (if x1_1 < bt135.2.1 then (some ((mx (ji8) (mn (mx (rd x0_1 0) (rd x0_1 (ji5))) (rd x0_1 (wrap64 ((x0_1.length : Int) - 1))))), pr_ ++ bt135.2.2 ++ po_)) else (if 0 ≤ bt135.2.1 then (if bt135.2.1 ≤ (x0_1.length : Int) then (stats_kth_int.l0 k1 (pr_ ++ bt135.2.2.take (bt135.2.1 : Int).toNat) (bt135.2.2.drop (bt135.2.1 : Int).toNat) po_ (wrap64 (x1_1 - bt135.2.1))) else (none)) else (none))))) else (none)) else (none)) = some (r1, r2) := by first | (rw [hji8] at H; exact H) | (simp only [hji8] at H ⊢; exact H)
              have hji8_ : (if (rd x0_1 (ji5)) < (rd x0_1 0) then (rd x0_1 (ji5)) else (rd x0_1 0)) = ji8 := hji8
              obtain ⟨ji9, hji9⟩ : ∃ j_ : Int, (mx (rd x0_1 0) (rd x0_1 (ji5))) = j_ := ⟨_, rfl⟩
              replace H : (if 0 ≤ (wrap64 ((x0_1.length : Int) - 1)) then (if (wrap64 ((x0_1.length : Int) - 1)) < (x0_1.length : Int) then ((stats_parted_int.f k1 x0_1 (mx (ji8) (mn (ji9) (rd x0_1 (wrap64 ((x0_1.length : Int) - 1)))))).bind fun bt135 => (if x1_1 < bt135.1 then (if 0 ≤ bt135.1 then (if bt135.1 ≤ (x0_1.length : Int) then (stats_kth_int.l0 k1 pr_ (bt135.2.2.take (bt135.1 : Int).toNat) (bt135.2.2.drop (bt135.1 : Int).toNat ++ po_) x1_1) else (none)) else (none)) else (if x1_1 < bt135.2.1 then (some ((mx (ji8) (mn (ji9) (rd x0_1 (wrap64 ((x0_1.length : Int) - 1))))), pr_ ++ bt135.2.2 ++ po_)) else (if 0 ≤ bt135.2.1 then (if bt135.2.1 ≤ (x0_1.length : Int) then (stats_kth_int.l0 k1 (pr_ ++ bt135.2.2.take (bt135.2.1 : Int).toNat) (bt135.2.2.drop (bt135.2.1 : Int).toNat) po_ (wrap64 (x1_1 - bt135.2.1))) else (none)) else (none))))) else (none)) else (none)) = some (r1, r2) := by first | (rw [hji9] at H; exact H) | (simp only [hji9] at H ⊢; exact H)
              have hji9_ : (if (rd x0_1 0) < (rd x0_1 (ji5)) then (rd x0_1 (ji5)) else (rd x0_1 0)) = ji9 := hji9
              obtain ⟨ji10, hji10⟩ : ∃ j_ : Int, (wrap64 ((x0_1.length : Int) - 1)) = j_ := ⟨_, rfl⟩
              replace H : (if 0 ≤ (ji10) then (if (ji10) < (x0_1.length : Int) then ((stats_parted_int.f k1 x0_1 (mx (ji8) (mn (ji9) (rd x0_1 (ji10))))).bind fun bt135 => (if x1_1 < bt135.1 then (if 0 ≤ bt135.1 then (if bt135.1 ≤ (x0_1.length : Int) then (stats_kth_int.l0 k1 pr_ (bt135.2.2.take (bt135.1 : Int).toNat) (bt135.2.2.drop (bt135.1 : Int).toNat ++ po_) x1_1) else (none)) else (none)) else (if x1_1 < bt135.2.1 then (some ((mx (ji8) (mn (ji9) (rd x0_1 (ji10)))), pr_ ++ bt135.2.2 ++ po_)) else (if 0 ≤ bt135.2.1 then (if bt135.2.1 ≤ (x0_1.length : Int) then (stats_kth_int.l0 k1 (pr_ ++ bt135.2.2.take (bt135.2.1 : Int).toNat) (bt135.2.2.drop (bt135.2.1 : Int).toNat) po_ (wrap64 (x1_1 - bt135.2.1))) else (none)) else (none))))) else (none)) else (none)) = some (r1, r2) := by first | (rw [hji10] at H; exact H) | (simp only [hji10] at H ⊢; exact H)
              have hji10w : (IntKind.i64.wrap ((x0_1.length : Int) - 1)) = ji10 := (i64_w _).trans hji10
              by_cases c11 : 0 ≤ (ji10)
              · rw [if_pos c11] at H
                have c11b0 : decide (0 ≤ (ji10)) = true := decide_eq_true c11
                clear c11
                by_cases c12 : (ji10) < (x0_1.length : Int)
                · rw [if_pos c12] at H
                  have c12b0 : decide ((ji10) < (x0_1.length : Int)) = true := decide_eq_true c12
                  clear c12
                  obtain ⟨ji13, hji13⟩ : ∃ j_ : Int, (mn (ji9) (rd x0_1 (ji10))) = j_ := ⟨_, rfl⟩
                  replace H : ((stats_parted_int.f k1 x0_1 (mx (ji8) (ji13))).bind fun bt135 => (if x1_1 < bt135.1 then (if 0 ≤ bt135.1 then (if bt135.1 ≤ (x0_1.length : Int) then (stats_kth_int.l0 k1 pr_ (bt135.2.2.take (bt135.1 : Int).toNat) (bt135.2.2.drop (bt135.1 : Int).toNat ++ po_) x1_1) else (none)) else (none)) else (if x1_1 < bt135.2.1 then (some ((mx (ji8) (ji13)), pr_ ++ bt135.2.2 ++ po_)) else (if 0 ≤ bt135.2.1 then (if bt135.2.1 ≤ (x0_1.length : Int) then (stats_kth_int.l0 k1 (pr_ ++ bt135.2.2.take (bt135.2.1 : Int).toNat) (bt135.2.2.drop (bt135.2.1 : Int).toNat) po_ (wrap64 (x1_1 - bt135.2.1))) else (none)) else (none))))) = some (r1, r2) := by first | (rw [hji13] at H; exact H) | (simp only [hji13] at H ⊢; exact H)
                  have hji13_ : (if (rd x0_1 (ji10)) < (ji9) then (rd x0_1 (ji10)) else (ji9)) = ji13 := hji13
                  obtain ⟨ji14, hji14⟩ : ∃ j_ : Int, (mx (ji8) (ji13)) = j_ := ⟨_, rfl⟩
                  replace H : ((stats_parted_int.f k1 x0_1 (ji14)).bind fun bt135 => (if x1_1 < bt135.1 then (if 0 ≤ bt135.1 then (if bt135.1 ≤ (x0_1.length : Int) then (stats_kth_int.l0 k1 pr_ (bt135.2.2.take (bt135.1 : Int).toNat) (bt135.2.2.drop (bt135.1 : Int).toNat ++ po_) x1_1) else (none)) else (none)) else (if x1_1 < bt135.2.1 then (some (ji14, pr_ ++ bt135.2.2 ++ po_)) else (if 0 ≤ bt135.2.1 then (if bt135.2.1 ≤ (x0_1.length : Int) then (stats_kth_int.l0 k1 (pr_ ++ bt135.2.2.take (bt135.2.1 : Int).toNat) (bt135.2.2.drop (bt135.2.1 : Int).toNat) po_ (wrap64 (x1_1 - bt135.2.1))) else (none)) else (none))))) = some (r1, r2) := by first | (rw [hji14] at H; exact H) | (simp only [hji14] at H ⊢; exact H)
                  have hji14_ : (if (ji8) < (ji13) then (ji13) else (ji8)) = ji14 := hji14
                  replace H := Option.bind_eq_some_iff.mp H
                  obtain ⟨⟨t135, t136, xs3⟩, A150, H⟩ := H
                  replace H : (if x1_1 < t135 then (if 0 ≤ t135 then (if t135 ≤ (x0_1.length : Int) then (stats_kth_int.l0 k1 pr_ (xs3.take (t135 : Int).toNat) (xs3.drop (t135 : Int).toNat ++ po_) x1_1) else (none)) else (none)) else (if x1_1 < t136 then (some (ji14, pr_ ++ xs3 ++ po_)) else (if 0 ≤ t136 then (if t136 ≤ (x0_1.length : Int) then (stats_kth_int.l0 k1 (pr_ ++ xs3.take (t136 : Int).toNat) (xs3.drop (t136 : Int).toNat) po_ (wrap64 (x1_1 - t136))) else (none)) else (none)))) = some (r1, r2) := H
                  have A15 := Aside0.mk A150
                  clear A150
                  by_cases c16 : x1_1 < t135
                  · rw [if_pos c16] at H
                    have c16b0 : decide (x1_1 < t135) = true := decide_eq_true c16
                    clear c16
                    by_cases c17 : 0 ≤ t135
                    · rw [if_pos c17] at H
                      have c17b0 := eq_true c17
                      have c17b1 : decide (0 ≤ t135) = true := decide_eq_true c17
                      clear c17
                      by_cases c18 : t135 ≤ (x0_1.length : Int)
                      · rw [if_pos c18] at H
                        have c18b0 := eq_true c18
                        have c18b1 : decide (t135 ≤ (x0_1.length : Int)) = true := decide_eq_true c18
                        clear c18
                        obtain ⟨y137, hy137⟩ : ∃ y_ : List Int, y_ = (xs3.take (t135 : Int).toNat) := ⟨_, rfl⟩
                        replace H : (stats_kth_int.l0 k1 pr_ y137 (xs3.drop (t135 : Int).toNat ++ po_) x1_1) = some (r1, r2) := by first | (rw [hy137]; with_reducible exact H) | (have H2_ := (Option.bind_some _ _).symm.trans H; rw [hy137]; with_reducible exact H2_) | (have H2_ := (Option.bind_some _ _).symm.trans H; with_reducible exact H2_) | with_reducible exact H | (rw [hy137]; exact H) | exact H
                        have Ny137 := Aside0.mk hy137
                        clear hy137
                        have H' := Aside0.mk H
                        clear H
                        have p130 : 0 ≤ (0 : Int) := (by omega)
                        have q130 : 0 < (x0_1.length : Int) := of_decide_eq_true (by first | (with_reducible assumption) | assumption)
                        obtain ⟨ad130, e130, hx130_0⟩ := Kd.at_int (Wn.R_reads' HO_0.out).2.2 0 p130 q130
                        cases e130
                        have qi130 : (0 < x0_1.length) = True := eq_true (by omega)
                        (try rw [show ((0 : Int)).toNat = 0 from rfl] at hx130_0)
                        (try rw [Addr.add_zero'] at hx130_0)
                        replace p130 := eq_true p130
                        replace q130 := eq_true q130
                        have p131 : 0 ≤ ((ji5) : Int) := of_decide_eq_true (by first | (with_reducible assumption) | assumption)
                        have q131 : (ji5) < (x0_1.length : Int) := of_decide_eq_true (by first | (with_reducible assumption) | assumption)
                        obtain ⟨ad131, e131, hx131_0⟩ := Kd.at_int (Wn.R_reads' HO_0.out).2.2 (ji5) p131 q131
                        cases e131
                        rw [Wn.add_off] at hx131_0
                        replace p131 := eq_true p131
                        replace q131 := eq_true q131
                        have p132 : 0 ≤ (0 : Int) := (by omega)
                        have q132 : 0 < (x0_1.length : Int) := of_decide_eq_true (by first | (with_reducible assumption) | assumption)
                        obtain ⟨ad132, e132, hx132_0⟩ := Kd.at_int (Wn.R_reads' HO_0.out).2.2 0 p132 q132
                        cases e132
                        have qi132 : (0 < x0_1.length) = True := eq_true (by omega)
                        (try rw [show ((0 : Int)).toNat = 0 from rfl] at hx132_0)
                        (try rw [Addr.add_zero'] at hx132_0)
                        replace p132 := eq_true p132
                        replace q132 := eq_true q132
                        have p133 : 0 ≤ ((ji5) : Int) := of_decide_eq_true (by first | (with_reducible assumption) | assumption)
                        have q133 : (ji5) < (x0_1.length : Int) := of_decide_eq_true (by first | (with_reducible assumption) | assumption)
                        obtain ⟨ad133, e133, hx133_0⟩ := Kd.at_int (Wn.R_reads' HO_0.out).2.2 (ji5) p133 q133
                        cases e133
                        rw [Wn.add_off] at hx133_0
                        replace p133 := eq_true p133
                        replace q133 := eq_true q133
                        have p134 : 0 ≤ ((ji10) : Int) := of_decide_eq_true (by first | (with_reducible assumption) | assumption)
                        have q134 : (ji10) < (x0_1.length : Int) := of_decide_eq_true (by first | (with_reducible assumption) | assumption)
                        obtain ⟨ad134, e134, hx134_0⟩ := Kd.at_int (Wn.R_reads' HO_0.out).2.2 (ji10) p134 q134
                        cases e134
                        rw [Wn.add_off] at hx134_0
                        replace p134 := eq_true p134
                        replace q134 := eq_true q134
                        go_wp2_with (first | (go_at_call 91; (refine (stats_parted_int.win k1 (fun k_ => (P0_ k_ ∨ w.heap.size ≤ k_)) g cap l0.length cw pr_ po_ x0_1 ji14 t135 t136 xs3 w0 _ ?side1 ?side2 ?side3 ?side4 A15.out).mono ?_); (case side1 => repeat (first | (with_reducible first | exact HB.out | apply below_alloc | apply pw_below_drewN | apply below_drew1) | exact HB.out)); (case side2 => have h_ : (0 : Int) < (x0_1.length : Int) := of_decide_eq_true (by first | (with_reducible assumption) | assumption); omega); (case side3 => exact HCW.out); (case side4 => (with_reducible repeat (first | apply Wn.R_alloc | apply Wn.R_drewN | apply Wn.R_drew)); exact HO_0.out); rintro e w20 ⟨rfl, hw_, hb_, hk_⟩; have n0_ := Aside0.mk (Wn.R_mono hw_ (fun k_ hk => hk.elim id (fun z_ => .inr (Nat.le_trans (show w.heap.size ≤ _ from (show Kept w _ (fun k_ => P0_ k_) from by repeat (first | (with_reducible first | exact HK.out | apply Kept.alloc | apply Kept.drewN | apply Kept.drew) | exact HK.out)).1) z_)))); have n1_ := Aside0.mk hb_; have n2_ := Aside0.mk (Kept.then_ (show Kept w _ (fun k_ => P0_ k_) from by repeat (first | (with_reducible first | exact HK.out | apply Kept.alloc | apply Kept.drewN | apply Kept.drew) | exact HK.out)) hk_ (fun _ h_ => h_)); clear HO_0 HB HK hw_ hb_ hk_; have HO_0 := n0_; have HB := n1_; have HK := n2_; clear n0_ n1_ n2_; have q21 : (t135 : Int) ≤ ((x0_1.length : Int) : Int) := of_decide_eq_true (by first | (with_reducible assumption) | assumption); have z21 : (0 : Int) ≤ (t135 : Int) := of_decide_eq_true (by first | (with_reducible assumption) | assumption); obtain ⟨i021, hi021, _, hsz21, _⟩ := info_parts info3; have hcut21 := cut_to (P := Try.prog) 48 3 .i64 Try.underlying48 hi021 (some ⟨g, pr_.length, none⟩) x0_1.length cw t135 z21 q21 HCW.out; have hy21 : y137.length = (t135 : Int).toNat := (by rw [Ny137.out, List.length_take]; have := HO_0.out.1; omega); have z141_ := Wn.R_take HO_0.out (t135 : Int).toNat (by omega); rw [← Ny137.out] at z141_; have HO141 := Aside0.mk (Wn.R_len z141_ hy21); clear z141_; rw [← hy21] at hcut21; have HC141 := Aside0.mk (show y137.length ≤ cw from by have := HCW.out; omega); clear hi021 hsz21; have KY21 := Aside0.mk hy21; clear hy21; replace q21 := eq_true q21))
                        repeat (go_quiet (first | (go_at_call 91; (refine (stats_parted_int.win k1 (fun k_ => (P0_ k_ ∨ w.heap.size ≤ k_)) g cap l0.length cw pr_ po_ x0_1 ji14 t135 t136 xs3 w0 _ ?side1 ?side2 ?side3 ?side4 A15.out).mono ?_); (case side1 => repeat (first | (with_reducible first | exact HB.out | apply below_alloc | apply pw_below_drewN | apply below_drew1) | exact HB.out)); (case side2 => have h_ : (0 : Int) < (x0_1.length : Int) := of_decide_eq_true (by first | (with_reducible assumption) | assumption); omega); (case side3 => exact HCW.out); (case side4 => (with_reducible repeat (first | apply Wn.R_alloc | apply Wn.R_drewN | apply Wn.R_drew)); exact HO_0.out); rintro e w20 ⟨rfl, hw_, hb_, hk_⟩; have n0_ := Aside0.mk (Wn.R_mono hw_ (fun k_ hk => hk.elim id (fun z_ => .inr (Nat.le_trans (show w.heap.size ≤ _ from (show Kept w _ (fun k_ => P0_ k_) from by repeat (first | (with_reducible first | exact HK.out | apply Kept.alloc | apply Kept.drewN | apply Kept.drew) | exact HK.out)).1) z_)))); have n1_ := Aside0.mk hb_; have n2_ := Aside0.mk (Kept.then_ (show Kept w _ (fun k_ => P0_ k_) from by repeat (first | (with_reducible first | exact HK.out | apply Kept.alloc | apply Kept.drewN | apply Kept.drew) | exact HK.out)) hk_ (fun _ h_ => h_)); clear HO_0 HB HK hw_ hb_ hk_; have HO_0 := n0_; have HB := n1_; have HK := n2_; clear n0_ n1_ n2_; have q21 : (t135 : Int) ≤ ((x0_1.length : Int) : Int) := of_decide_eq_true (by first | (with_reducible assumption) | assumption); have z21 : (0 : Int) ≤ (t135 : Int) := of_decide_eq_true (by first | (with_reducible assumption) | assumption); obtain ⟨i021, hi021, _, hsz21, _⟩ := info_parts info3; have hcut21 := cut_to (P := Try.prog) 48 3 .i64 Try.underlying48 hi021 (some ⟨g, pr_.length, none⟩) x0_1.length cw t135 z21 q21 HCW.out; have hy21 : y137.length = (t135 : Int).toNat := (by rw [Ny137.out, List.length_take]; have := HO_0.out.1; omega); have z141_ := Wn.R_take HO_0.out (t135 : Int).toNat (by omega); rw [← Ny137.out] at z141_; have HO141 := Aside0.mk (Wn.R_len z141_ hy21); clear z141_; rw [← hy21] at hcut21; have HC141 := Aside0.mk (show y137.length ≤ cw from by have := HCW.out; omega); clear hi021 hsz21; have KY21 := Aside0.mk hy21; clear hy21; replace q21 := eq_true q21)); try go_wp2_with (first | (go_at_call 91; (refine (stats_parted_int.win k1 (fun k_ => (P0_ k_ ∨ w.heap.size ≤ k_)) g cap l0.length cw pr_ po_ x0_1 ji14 t135 t136 xs3 w0 _ ?side1 ?side2 ?side3 ?side4 A15.out).mono ?_); (case side1 => repeat (first | (with_reducible first | exact HB.out | apply below_alloc | apply pw_below_drewN | apply below_drew1) | exact HB.out)); (case side2 => have h_ : (0 : Int) < (x0_1.length : Int) := of_decide_eq_true (by first | (with_reducible assumption) | assumption); omega); (case side3 => exact HCW.out); (case side4 => (with_reducible repeat (first | apply Wn.R_alloc | apply Wn.R_drewN | apply Wn.R_drew)); exact HO_0.out); rintro e w20 ⟨rfl, hw_, hb_, hk_⟩; have n0_ := Aside0.mk (Wn.R_mono hw_ (fun k_ hk => hk.elim id (fun z_ => .inr (Nat.le_trans (show w.heap.size ≤ _ from (show Kept w _ (fun k_ => P0_ k_) from by repeat (first | (with_reducible first | exact HK.out | apply Kept.alloc | apply Kept.drewN | apply Kept.drew) | exact HK.out)).1) z_)))); have n1_ := Aside0.mk hb_; have n2_ := Aside0.mk (Kept.then_ (show Kept w _ (fun k_ => P0_ k_) from by repeat (first | (with_reducible first | exact HK.out | apply Kept.alloc | apply Kept.drewN | apply Kept.drew) | exact HK.out)) hk_ (fun _ h_ => h_)); clear HO_0 HB HK hw_ hb_ hk_; have HO_0 := n0_; have HB := n1_; have HK := n2_; clear n0_ n1_ n2_; have q21 : (t135 : Int) ≤ ((x0_1.length : Int) : Int) := of_decide_eq_true (by first | (with_reducible assumption) | assumption); have z21 : (0 : Int) ≤ (t135 : Int) := of_decide_eq_true (by first | (with_reducible assumption) | assumption); obtain ⟨i021, hi021, _, hsz21, _⟩ := info_parts info3; have hcut21 := cut_to (P := Try.prog) 48 3 .i64 Try.underlying48 hi021 (some ⟨g, pr_.length, none⟩) x0_1.length cw t135 z21 q21 HCW.out; have hy21 : y137.length = (t135 : Int).toNat := (by rw [Ny137.out, List.length_take]; have := HO_0.out.1; omega); have z141_ := Wn.R_take HO_0.out (t135 : Int).toNat (by omega); rw [← Ny137.out] at z141_; have HO141 := Aside0.mk (Wn.R_len z141_ hy21); clear z141_; rw [← hy21] at hcut21; have HC141 := Aside0.mk (show y137.length ≤ cw from by have := HCW.out; omega); clear hi021 hsz21; have KY21 := Aside0.mk hy21; clear hy21; replace q21 := eq_true q21)))
                        go_roundg k1
                        case measure => have := HK1.out; omega
                        case rel => exact ⟨y137, (x1_1), pr_, xs3.drop (t135 : Int).toNat ++ po_, cw, (by first | rfl | (simp; done) | (simp [*]; done)), (by first | rfl | (simp; done) | (simp [*]; done)), H', ⟨by have := HK1.out; omega⟩, ⟨by (with_reducible repeat (first | apply Wn.R_alloc | apply Wn.R_drewN | apply Wn.R_drew)); exact HO141.out⟩, HC141, ⟨by repeat (first | (with_reducible first | exact HK.out | apply Kept.alloc | apply Kept.drewN | apply Kept.drew) | exact HK.out)⟩, ⟨by repeat (first | (with_reducible first | exact HB.out | apply below_alloc | apply pw_below_drewN | apply below_drew1) | exact HB.out)⟩⟩
                      · rw [if_neg c18] at H
                        exact absurd H (by simp)
                    · rw [if_neg c17] at H
                      exact absurd H (by simp)
                  · rw [if_neg c16] at H
                    have c16b0 : decide (x1_1 < t135) = false := decide_eq_false c16
                    clear c16
                    by_cases c22 : x1_1 < t136
                    · rw [if_pos c22] at H
                      have c22b0 : decide (x1_1 < t136) = true := decide_eq_true c22
                      clear c22
                      simp only [Option.some.injEq, Prod.mk.injEq] at H
                      obtain ⟨rfl, rfl⟩ := H
                      have p130 : 0 ≤ (0 : Int) := (by omega)
                      have q130 : 0 < (x0_1.length : Int) := of_decide_eq_true (by first | (with_reducible assumption) | assumption)
                      obtain ⟨ad130, e130, hx130_0⟩ := Kd.at_int (Wn.R_reads' HO_0.out).2.2 0 p130 q130
                      cases e130
                      have qi130 : (0 < x0_1.length) = True := eq_true (by omega)
                      (try rw [show ((0 : Int)).toNat = 0 from rfl] at hx130_0)
                      (try rw [Addr.add_zero'] at hx130_0)
                      replace p130 := eq_true p130
                      replace q130 := eq_true q130
                      have p131 : 0 ≤ ((ji5) : Int) := of_decide_eq_true (by first | (with_reducible assumption) | assumption)
                      have q131 : (ji5) < (x0_1.length : Int) := of_decide_eq_true (by first | (with_reducible assumption) | assumption)
                      obtain ⟨ad131, e131, hx131_0⟩ := Kd.at_int (Wn.R_reads' HO_0.out).2.2 (ji5) p131 q131
                      cases e131
                      rw [Wn.add_off] at hx131_0
                      replace p131 := eq_true p131
                      replace q131 := eq_true q131
                      have p132 : 0 ≤ (0 : Int) := (by omega)
                      have q132 : 0 < (x0_1.length : Int) := of_decide_eq_true (by first | (with_reducible assumption) | assumption)
                      obtain ⟨ad132, e132, hx132_0⟩ := Kd.at_int (Wn.R_reads' HO_0.out).2.2 0 p132 q132
                      cases e132
                      have qi132 : (0 < x0_1.length) = True := eq_true (by omega)
                      (try rw [show ((0 : Int)).toNat = 0 from rfl] at hx132_0)
                      (try rw [Addr.add_zero'] at hx132_0)
                      replace p132 := eq_true p132
                      replace q132 := eq_true q132
                      have p133 : 0 ≤ ((ji5) : Int) := of_decide_eq_true (by first | (with_reducible assumption) | assumption)
                      have q133 : (ji5) < (x0_1.length : Int) := of_decide_eq_true (by first | (with_reducible assumption) | assumption)
                      obtain ⟨ad133, e133, hx133_0⟩ := Kd.at_int (Wn.R_reads' HO_0.out).2.2 (ji5) p133 q133
                      cases e133
                      rw [Wn.add_off] at hx133_0
                      replace p133 := eq_true p133
                      replace q133 := eq_true q133
                      have p134 : 0 ≤ ((ji10) : Int) := of_decide_eq_true (by first | (with_reducible assumption) | assumption)
                      have q134 : (ji10) < (x0_1.length : Int) := of_decide_eq_true (by first | (with_reducible assumption) | assumption)
                      obtain ⟨ad134, e134, hx134_0⟩ := Kd.at_int (Wn.R_reads' HO_0.out).2.2 (ji10) p134 q134
                      cases e134
                      rw [Wn.add_off] at hx134_0
                      replace p134 := eq_true p134
                      replace q134 := eq_true q134
                      go_wp2_with (first | (go_at_call 91; (refine (stats_parted_int.win k1 (fun k_ => (P0_ k_ ∨ w.heap.size ≤ k_)) g cap l0.length cw pr_ po_ x0_1 ji14 t135 t136 xs3 w0 _ ?side1 ?side2 ?side3 ?side4 A15.out).mono ?_); (case side1 => repeat (first | (with_reducible first | exact HB.out | apply below_alloc | apply pw_below_drewN | apply below_drew1) | exact HB.out)); (case side2 => have h_ : (0 : Int) < (x0_1.length : Int) := of_decide_eq_true (by first | (with_reducible assumption) | assumption); omega); (case side3 => exact HCW.out); (case side4 => (with_reducible repeat (first | apply Wn.R_alloc | apply Wn.R_drewN | apply Wn.R_drew)); exact HO_0.out); rintro e w20 ⟨rfl, hw_, hb_, hk_⟩; have n0_ := Aside0.mk (Wn.R_mono hw_ (fun k_ hk => hk.elim id (fun z_ => .inr (Nat.le_trans (show w.heap.size ≤ _ from (show Kept w _ (fun k_ => P0_ k_) from by repeat (first | (with_reducible first | exact HK.out | apply Kept.alloc | apply Kept.drewN | apply Kept.drew) | exact HK.out)).1) z_)))); have n1_ := Aside0.mk hb_; have n2_ := Aside0.mk (Kept.then_ (show Kept w _ (fun k_ => P0_ k_) from by repeat (first | (with_reducible first | exact HK.out | apply Kept.alloc | apply Kept.drewN | apply Kept.drew) | exact HK.out)) hk_ (fun _ h_ => h_)); clear HO_0 HB HK hw_ hb_ hk_; have HO_0 := n0_; have HB := n1_; have HK := n2_; clear n0_ n1_ n2_))
                      repeat (go_quiet (first | (go_at_call 91; (refine (stats_parted_int.win k1 (fun k_ => (P0_ k_ ∨ w.heap.size ≤ k_)) g cap l0.length cw pr_ po_ x0_1 ji14 t135 t136 xs3 w0 _ ?side1 ?side2 ?side3 ?side4 A15.out).mono ?_); (case side1 => repeat (first | (with_reducible first | exact HB.out | apply below_alloc | apply pw_below_drewN | apply below_drew1) | exact HB.out)); (case side2 => have h_ : (0 : Int) < (x0_1.length : Int) := of_decide_eq_true (by first | (with_reducible assumption) | assumption); omega); (case side3 => exact HCW.out); (case side4 => (with_reducible repeat (first | apply Wn.R_alloc | apply Wn.R_drewN | apply Wn.R_drew)); exact HO_0.out); rintro e w20 ⟨rfl, hw_, hb_, hk_⟩; have n0_ := Aside0.mk (Wn.R_mono hw_ (fun k_ hk => hk.elim id (fun z_ => .inr (Nat.le_trans (show w.heap.size ≤ _ from (show Kept w _ (fun k_ => P0_ k_) from by repeat (first | (with_reducible first | exact HK.out | apply Kept.alloc | apply Kept.drewN | apply Kept.drew) | exact HK.out)).1) z_)))); have n1_ := Aside0.mk hb_; have n2_ := Aside0.mk (Kept.then_ (show Kept w _ (fun k_ => P0_ k_) from by repeat (first | (with_reducible first | exact HK.out | apply Kept.alloc | apply Kept.drewN | apply Kept.drew) | exact HK.out)) hk_ (fun _ h_ => h_)); clear HO_0 HB HK hw_ hb_ hk_; have HO_0 := n0_; have HB := n1_; have HK := n2_; clear n0_ n1_ n2_)); try go_wp2_with (first | (go_at_call 91; (refine (stats_parted_int.win k1 (fun k_ => (P0_ k_ ∨ w.heap.size ≤ k_)) g cap l0.length cw pr_ po_ x0_1 ji14 t135 t136 xs3 w0 _ ?side1 ?side2 ?side3 ?side4 A15.out).mono ?_); (case side1 => repeat (first | (with_reducible first | exact HB.out | apply below_alloc | apply pw_below_drewN | apply below_drew1) | exact HB.out)); (case side2 => have h_ : (0 : Int) < (x0_1.length : Int) := of_decide_eq_true (by first | (with_reducible assumption) | assumption); omega); (case side3 => exact HCW.out); (case side4 => (with_reducible repeat (first | apply Wn.R_alloc | apply Wn.R_drewN | apply Wn.R_drew)); exact HO_0.out); rintro e w20 ⟨rfl, hw_, hb_, hk_⟩; have n0_ := Aside0.mk (Wn.R_mono hw_ (fun k_ hk => hk.elim id (fun z_ => .inr (Nat.le_trans (show w.heap.size ≤ _ from (show Kept w _ (fun k_ => P0_ k_) from by repeat (first | (with_reducible first | exact HK.out | apply Kept.alloc | apply Kept.drewN | apply Kept.drew) | exact HK.out)).1) z_)))); have n1_ := Aside0.mk hb_; have n2_ := Aside0.mk (Kept.then_ (show Kept w _ (fun k_ => P0_ k_) from by repeat (first | (with_reducible first | exact HK.out | apply Kept.alloc | apply Kept.drewN | apply Kept.drew) | exact HK.out)) hk_ (fun _ h_ => h_)); clear HO_0 HB HK hw_ hb_ hk_; have HO_0 := n0_; have HB := n1_; have HK := n2_; clear n0_ n1_ n2_)))
                      go_ret
                      exact ⟨by first | rfl | (simp only [← hji5, ← hji8, ← hji9, ← hji10, ← hji13, ← hji14]; first | rfl | (simp [errW_none, errW_some] <;> rfl)) | (simp [errW_none, errW_some] <;> rfl) | (simp [*, errW_none, errW_some] <;> rfl), (show Wn.Wn 3 _ w0.heap.size (fun k_ => (P0_ k_ ∨ w.heap.size ≤ k_)) g cap l0.length pr_ po_ _ _ from by (with_reducible repeat (first | apply Wn.R_alloc | apply Wn.R_drewN | apply Wn.R_drew)); exact HO_0.out).2, by repeat (first | (with_reducible first | exact HB.out | apply below_alloc | apply pw_below_drewN | apply below_drew1) | exact HB.out), by repeat (first | (with_reducible first | exact HK.out | apply Kept.alloc | apply Kept.drewN | apply Kept.drew) | exact HK.out)⟩
                    · rw [if_neg c22] at H
                      have c22b0 : decide (x1_1 < t136) = false := decide_eq_false c22
                      clear c22
                      by_cases c25 : 0 ≤ t136
                      · rw [if_pos c25] at H
                        have c25b0 := eq_true c25
                        have c25b1 : decide (0 ≤ t136) = true := decide_eq_true c25
                        clear c25
                        by_cases c26 : t136 ≤ (x0_1.length : Int)
                        · rw [if_pos c26] at H
                          have c26b0 := eq_true c26
                          have c26b1 : decide (t136 ≤ (x0_1.length : Int)) = true := decide_eq_true c26
                          clear c26
                          obtain ⟨y142, hy142⟩ : ∃ y_ : List Int, y_ = (xs3.drop (t136 : Int).toNat) := ⟨_, rfl⟩
                          replace H : (stats_kth_int.l0 k1 (pr_ ++ xs3.take (t136 : Int).toNat) y142 po_ (wrap64 (x1_1 - t136))) = some (r1, r2) := by first | (rw [hy142]; with_reducible exact H) | (have H2_ := (Option.bind_some _ _).symm.trans H; rw [hy142]; with_reducible exact H2_) | (have H2_ := (Option.bind_some _ _).symm.trans H; with_reducible exact H2_) | with_reducible exact H | (rw [hy142]; exact H) | exact H
                          have Ny142 := Aside0.mk hy142
                          clear hy142
                          have H' := Aside0.mk H
                          clear H
                          have p130 : 0 ≤ (0 : Int) := (by omega)
                          have q130 : 0 < (x0_1.length : Int) := of_decide_eq_true (by first | (with_reducible assumption) | assumption)
                          obtain ⟨ad130, e130, hx130_0⟩ := Kd.at_int (Wn.R_reads' HO_0.out).2.2 0 p130 q130
                          cases e130
                          have qi130 : (0 < x0_1.length) = True := eq_true (by omega)
                          (try rw [show ((0 : Int)).toNat = 0 from rfl] at hx130_0)
                          (try rw [Addr.add_zero'] at hx130_0)
                          replace p130 := eq_true p130
                          replace q130 := eq_true q130
                          have p131 : 0 ≤ ((ji5) : Int) := of_decide_eq_true (by first | (with_reducible assumption) | assumption)
                          have q131 : (ji5) < (x0_1.length : Int) := of_decide_eq_true (by first | (with_reducible assumption) | assumption)
                          obtain ⟨ad131, e131, hx131_0⟩ := Kd.at_int (Wn.R_reads' HO_0.out).2.2 (ji5) p131 q131
                          cases e131
                          rw [Wn.add_off] at hx131_0
                          replace p131 := eq_true p131
                          replace q131 := eq_true q131
                          have p132 : 0 ≤ (0 : Int) := (by omega)
                          have q132 : 0 < (x0_1.length : Int) := of_decide_eq_true (by first | (with_reducible assumption) | assumption)
                          obtain ⟨ad132, e132, hx132_0⟩ := Kd.at_int (Wn.R_reads' HO_0.out).2.2 0 p132 q132
                          cases e132
                          have qi132 : (0 < x0_1.length) = True := eq_true (by omega)
                          (try rw [show ((0 : Int)).toNat = 0 from rfl] at hx132_0)
                          (try rw [Addr.add_zero'] at hx132_0)
                          replace p132 := eq_true p132
                          replace q132 := eq_true q132
                          have p133 : 0 ≤ ((ji5) : Int) := of_decide_eq_true (by first | (with_reducible assumption) | assumption)
                          have q133 : (ji5) < (x0_1.length : Int) := of_decide_eq_true (by first | (with_reducible assumption) | assumption)
                          obtain ⟨ad133, e133, hx133_0⟩ := Kd.at_int (Wn.R_reads' HO_0.out).2.2 (ji5) p133 q133
                          cases e133
                          rw [Wn.add_off] at hx133_0
                          replace p133 := eq_true p133
                          replace q133 := eq_true q133
                          have p134 : 0 ≤ ((ji10) : Int) := of_decide_eq_true (by first | (with_reducible assumption) | assumption)
                          have q134 : (ji10) < (x0_1.length : Int) := of_decide_eq_true (by first | (with_reducible assumption) | assumption)
                          obtain ⟨ad134, e134, hx134_0⟩ := Kd.at_int (Wn.R_reads' HO_0.out).2.2 (ji10) p134 q134
                          cases e134
                          rw [Wn.add_off] at hx134_0
                          replace p134 := eq_true p134
                          replace q134 := eq_true q134
                          go_wp2_with (first | (go_at_call 91; (refine (stats_parted_int.win k1 (fun k_ => (P0_ k_ ∨ w.heap.size ≤ k_)) g cap l0.length cw pr_ po_ x0_1 ji14 t135 t136 xs3 w0 _ ?side1 ?side2 ?side3 ?side4 A15.out).mono ?_); (case side1 => repeat (first | (with_reducible first | exact HB.out | apply below_alloc | apply pw_below_drewN | apply below_drew1) | exact HB.out)); (case side2 => have h_ : (0 : Int) < (x0_1.length : Int) := of_decide_eq_true (by first | (with_reducible assumption) | assumption); omega); (case side3 => exact HCW.out); (case side4 => (with_reducible repeat (first | apply Wn.R_alloc | apply Wn.R_drewN | apply Wn.R_drew)); exact HO_0.out); rintro e w20 ⟨rfl, hw_, hb_, hk_⟩; have n0_ := Aside0.mk (Wn.R_mono hw_ (fun k_ hk => hk.elim id (fun z_ => .inr (Nat.le_trans (show w.heap.size ≤ _ from (show Kept w _ (fun k_ => P0_ k_) from by repeat (first | (with_reducible first | exact HK.out | apply Kept.alloc | apply Kept.drewN | apply Kept.drew) | exact HK.out)).1) z_)))); have n1_ := Aside0.mk hb_; have n2_ := Aside0.mk (Kept.then_ (show Kept w _ (fun k_ => P0_ k_) from by repeat (first | (with_reducible first | exact HK.out | apply Kept.alloc | apply Kept.drewN | apply Kept.drew) | exact HK.out)) hk_ (fun _ h_ => h_)); clear HO_0 HB HK hw_ hb_ hk_; have HO_0 := n0_; have HB := n1_; have HK := n2_; clear n0_ n1_ n2_; have q29 : (t136 : Int) ≤ ((x0_1.length : Int) : Int) := of_decide_eq_true (by first | (with_reducible assumption) | assumption); have q029 : (0 : Int) ≤ (t136 : Int) := of_decide_eq_true (by first | (with_reducible assumption) | assumption); obtain ⟨i029, hi029, _, hsz29, _⟩ := info_parts info3; have hcut29 := cut_from (P := Try.prog) 48 3 .i64 Try.underlying48 hi029 1 hsz29 (some ⟨g, pr_.length, none⟩) x0_1.length cw t136 q029 q29; obtain ⟨A29, hA29⟩ : ∃ A1, A1 = (if cw = (t136 : Int).toNat then (some ⟨g, pr_.length, none⟩) else ((some ⟨g, pr_.length, none⟩) : Option Addr).map (·.add ((t136 : Int).toNat * 1))) := ⟨_, rfl⟩; obtain ⟨c29, hc29⟩ : ∃ c1, c1 = cw - (t136 : Int).toNat := ⟨_, rfl⟩; have hy29 : y142.length = x0_1.length - (t136 : Int).toNat := (by rw [Ny142.out, List.length_drop]; have := HO_0.out.1; omega); have z146_ := Wn.R_cut HO_0.out (t136 : Int).toNat (by omega); rw [← Ny142.out] at z146_; have HO146 := Aside0.mk (Wn.R_len z146_ hy29); clear z146_; have KN29 := Aside0.mk (show ¬ (cw = (t136 : Int).toNat) from fun z_ => by have h0_ : y142.length = 0 := (by rw [hy29]; have := HCW.out; omega); have h1_ := List.eq_nil_of_length_eq_zero h0_; have h2_ := H'.out; rw [h1_] at h2_; exact absurd h2_ (by cases k1 <;> simp [stats_kth_int.l0])); rw [← hy29, ← hA29, ← hc29] at hcut29; have HC146 := Aside0.mk (show y142.length ≤ c29 from by rw [hy29, hc29]; exact Nat.sub_le_sub_right HCW.out _); have HL29 := Aside0.mk (show (pr_ ++ xs3.take (t136 : Int).toNat).length = pr_.length + (t136 : Int).toNat from by rw [List.length_append, List.length_take]; have := HO_0.out.1; omega); have HC29 := Aside0.mk hc29; clear hi029 hsz29 hc29; have KY29 := Aside0.mk hy29; have KA29 := Aside0.mk hA29; clear hy29 hA29; replace q29 := eq_true q29))
                          repeat (go_quiet (first | (go_at_call 91; (refine (stats_parted_int.win k1 (fun k_ => (P0_ k_ ∨ w.heap.size ≤ k_)) g cap l0.length cw pr_ po_ x0_1 ji14 t135 t136 xs3 w0 _ ?side1 ?side2 ?side3 ?side4 A15.out).mono ?_); (case side1 => repeat (first | (with_reducible first | exact HB.out | apply below_alloc | apply pw_below_drewN | apply below_drew1) | exact HB.out)); (case side2 => have h_ : (0 : Int) < (x0_1.length : Int) := of_decide_eq_true (by first | (with_reducible assumption) | assumption); omega); (case side3 => exact HCW.out); (case side4 => (with_reducible repeat (first | apply Wn.R_alloc | apply Wn.R_drewN | apply Wn.R_drew)); exact HO_0.out); rintro e w20 ⟨rfl, hw_, hb_, hk_⟩; have n0_ := Aside0.mk (Wn.R_mono hw_ (fun k_ hk => hk.elim id (fun z_ => .inr (Nat.le_trans (show w.heap.size ≤ _ from (show Kept w _ (fun k_ => P0_ k_) from by repeat (first | (with_reducible first | exact HK.out | apply Kept.alloc | apply Kept.drewN | apply Kept.drew) | exact HK.out)).1) z_)))); have n1_ := Aside0.mk hb_; have n2_ := Aside0.mk (Kept.then_ (show Kept w _ (fun k_ => P0_ k_) from by repeat (first | (with_reducible first | exact HK.out | apply Kept.alloc | apply Kept.drewN | apply Kept.drew) | exact HK.out)) hk_ (fun _ h_ => h_)); clear HO_0 HB HK hw_ hb_ hk_; have HO_0 := n0_; have HB := n1_; have HK := n2_; clear n0_ n1_ n2_; have q29 : (t136 : Int) ≤ ((x0_1.length : Int) : Int) := of_decide_eq_true (by first | (with_reducible assumption) | assumption); have q029 : (0 : Int) ≤ (t136 : Int) := of_decide_eq_true (by first | (with_reducible assumption) | assumption); obtain ⟨i029, hi029, _, hsz29, _⟩ := info_parts info3; have hcut29 := cut_from (P := Try.prog) 48 3 .i64 Try.underlying48 hi029 1 hsz29 (some ⟨g, pr_.length, none⟩) x0_1.length cw t136 q029 q29; obtain ⟨A29, hA29⟩ : ∃ A1, A1 = (if cw = (t136 : Int).toNat then (some ⟨g, pr_.length, none⟩) else ((some ⟨g, pr_.length, none⟩) : Option Addr).map (·.add ((t136 : Int).toNat * 1))) := ⟨_, rfl⟩; obtain ⟨c29, hc29⟩ : ∃ c1, c1 = cw - (t136 : Int).toNat := ⟨_, rfl⟩; have hy29 : y142.length = x0_1.length - (t136 : Int).toNat := (by rw [Ny142.out, List.length_drop]; have := HO_0.out.1; omega); have z146_ := Wn.R_cut HO_0.out (t136 : Int).toNat (by omega); rw [← Ny142.out] at z146_; have HO146 := Aside0.mk (Wn.R_len z146_ hy29); clear z146_; have KN29 := Aside0.mk (show ¬ (cw = (t136 : Int).toNat) from fun z_ => by have h0_ : y142.length = 0 := (by rw [hy29]; have := HCW.out; omega); have h1_ := List.eq_nil_of_length_eq_zero h0_; have h2_ := H'.out; rw [h1_] at h2_; exact absurd h2_ (by cases k1 <;> simp [stats_kth_int.l0])); rw [← hy29, ← hA29, ← hc29] at hcut29; have HC146 := Aside0.mk (show y142.length ≤ c29 from by rw [hy29, hc29]; exact Nat.sub_le_sub_right HCW.out _); have HL29 := Aside0.mk (show (pr_ ++ xs3.take (t136 : Int).toNat).length = pr_.length + (t136 : Int).toNat from by rw [List.length_append, List.length_take]; have := HO_0.out.1; omega); have HC29 := Aside0.mk hc29; clear hi029 hsz29 hc29; have KY29 := Aside0.mk hy29; have KA29 := Aside0.mk hA29; clear hy29 hA29; replace q29 := eq_true q29)); try go_wp2_with (first | (go_at_call 91; (refine (stats_parted_int.win k1 (fun k_ => (P0_ k_ ∨ w.heap.size ≤ k_)) g cap l0.length cw pr_ po_ x0_1 ji14 t135 t136 xs3 w0 _ ?side1 ?side2 ?side3 ?side4 A15.out).mono ?_); (case side1 => repeat (first | (with_reducible first | exact HB.out | apply below_alloc | apply pw_below_drewN | apply below_drew1) | exact HB.out)); (case side2 => have h_ : (0 : Int) < (x0_1.length : Int) := of_decide_eq_true (by first | (with_reducible assumption) | assumption); omega); (case side3 => exact HCW.out); (case side4 => (with_reducible repeat (first | apply Wn.R_alloc | apply Wn.R_drewN | apply Wn.R_drew)); exact HO_0.out); rintro e w20 ⟨rfl, hw_, hb_, hk_⟩; have n0_ := Aside0.mk (Wn.R_mono hw_ (fun k_ hk => hk.elim id (fun z_ => .inr (Nat.le_trans (show w.heap.size ≤ _ from (show Kept w _ (fun k_ => P0_ k_) from by repeat (first | (with_reducible first | exact HK.out | apply Kept.alloc | apply Kept.drewN | apply Kept.drew) | exact HK.out)).1) z_)))); have n1_ := Aside0.mk hb_; have n2_ := Aside0.mk (Kept.then_ (show Kept w _ (fun k_ => P0_ k_) from by repeat (first | (with_reducible first | exact HK.out | apply Kept.alloc | apply Kept.drewN | apply Kept.drew) | exact HK.out)) hk_ (fun _ h_ => h_)); clear HO_0 HB HK hw_ hb_ hk_; have HO_0 := n0_; have HB := n1_; have HK := n2_; clear n0_ n1_ n2_; have q29 : (t136 : Int) ≤ ((x0_1.length : Int) : Int) := of_decide_eq_true (by first | (with_reducible assumption) | assumption); have q029 : (0 : Int) ≤ (t136 : Int) := of_decide_eq_true (by first | (with_reducible assumption) | assumption); obtain ⟨i029, hi029, _, hsz29, _⟩ := info_parts info3; have hcut29 := cut_from (P := Try.prog) 48 3 .i64 Try.underlying48 hi029 1 hsz29 (some ⟨g, pr_.length, none⟩) x0_1.length cw t136 q029 q29; obtain ⟨A29, hA29⟩ : ∃ A1, A1 = (if cw = (t136 : Int).toNat then (some ⟨g, pr_.length, none⟩) else ((some ⟨g, pr_.length, none⟩) : Option Addr).map (·.add ((t136 : Int).toNat * 1))) := ⟨_, rfl⟩; obtain ⟨c29, hc29⟩ : ∃ c1, c1 = cw - (t136 : Int).toNat := ⟨_, rfl⟩; have hy29 : y142.length = x0_1.length - (t136 : Int).toNat := (by rw [Ny142.out, List.length_drop]; have := HO_0.out.1; omega); have z146_ := Wn.R_cut HO_0.out (t136 : Int).toNat (by omega); rw [← Ny142.out] at z146_; have HO146 := Aside0.mk (Wn.R_len z146_ hy29); clear z146_; have KN29 := Aside0.mk (show ¬ (cw = (t136 : Int).toNat) from fun z_ => by have h0_ : y142.length = 0 := (by rw [hy29]; have := HCW.out; omega); have h1_ := List.eq_nil_of_length_eq_zero h0_; have h2_ := H'.out; rw [h1_] at h2_; exact absurd h2_ (by cases k1 <;> simp [stats_kth_int.l0])); rw [← hy29, ← hA29, ← hc29] at hcut29; have HC146 := Aside0.mk (show y142.length ≤ c29 from by rw [hy29, hc29]; exact Nat.sub_le_sub_right HCW.out _); have HL29 := Aside0.mk (show (pr_ ++ xs3.take (t136 : Int).toNat).length = pr_.length + (t136 : Int).toNat from by rw [List.length_append, List.length_take]; have := HO_0.out.1; omega); have HC29 := Aside0.mk hc29; clear hi029 hsz29 hc29; have KY29 := Aside0.mk hy29; have KA29 := Aside0.mk hA29; clear hy29 hA29; replace q29 := eq_true q29)))
                          go_roundg k1
                          case measure => have := HK1.out; omega
                          case rel => exact ⟨y142, (wrap64 (x1_1 - t136)), pr_ ++ xs3.take (t136 : Int).toNat, po_, c29, (by rw [HL29.out, KA29.out, if_neg KN29.out]; simp [Wn.add_off]), (by first | rfl | (simp; done) | (simp [*]; done)), H', ⟨by have := HK1.out; omega⟩, ⟨by (with_reducible repeat (first | apply Wn.R_alloc | apply Wn.R_drewN | apply Wn.R_drew)); exact HO146.out⟩, HC146, ⟨by repeat (first | (with_reducible first | exact HK.out | apply Kept.alloc | apply Kept.drewN | apply Kept.drew) | exact HK.out)⟩, ⟨by repeat (first | (with_reducible first | exact HB.out | apply below_alloc | apply pw_below_drewN | apply below_drew1) | exact HB.out)⟩⟩
                        · rw [if_neg c26] at H
                          exact absurd H (by simp)
                      · rw [if_neg c25] at H
                        exact absurd H (by simp)
                · rw [if_neg c12] at H
                  exact absurd H (by simp)
              · rw [if_neg c11] at H
                exact absurd H (by simp)
            · rw [if_neg c7] at H
              exact absurd H (by simp)
          · rw [if_neg c6] at H
            exact absurd H (by simp)
        · rw [if_neg c4] at H
          exact absurd H (by simp)
      · rw [if_neg c3] at H
        have c3b0 : decide (1 < (x0_1.length : Int)) = false := decide_eq_false c3
        have c3b1 : decide (1 < x0_1.length) = false := decide_eq_false (by omega)
        clear c3
        by_cases c30 : 0 < (x0_1.length : Int)
        · rw [if_pos c30] at H
          have c30b0 : decide (0 < (x0_1.length : Int)) = true := decide_eq_true c30
          have c30b1 : decide (0 < x0_1.length) = true := decide_eq_true (by omega)
          clear c30
          simp only [Option.some.injEq, Prod.mk.injEq] at H
          obtain ⟨rfl, rfl⟩ := H
          have p129 : 0 ≤ (0 : Int) := (by omega)
          have q129 : 0 < (x0_1.length : Int) := of_decide_eq_true (by first | (with_reducible assumption) | assumption)
          obtain ⟨ad129, e129, hx129_0⟩ := Kd.at_int (Wn.R_reads' HO_0.out).2.2 0 p129 q129
          cases e129
          have qi129 : (0 < x0_1.length) = True := eq_true (by omega)
          (try rw [show ((0 : Int)).toNat = 0 from rfl] at hx129_0)
          (try rw [Addr.add_zero'] at hx129_0)
          replace p129 := eq_true p129
          replace q129 := eq_true q129
          go_wp2
          repeat (go_quiet (fail); try go_wp2)
          go_ret
          exact ⟨by first | rfl | (simp only [← hji5, ← hji8, ← hji9, ← hji10, ← hji13, ← hji14]; first | rfl | (simp [errW_none, errW_some] <;> rfl)) | (simp [errW_none, errW_some] <;> rfl) | (simp [*, errW_none, errW_some] <;> rfl), (show Wn.Wn 3 _ w0.heap.size (fun k_ => (P0_ k_ ∨ w.heap.size ≤ k_)) g cap l0.length pr_ po_ _ _ from by (with_reducible repeat (first | apply Wn.R_alloc | apply Wn.R_drewN | apply Wn.R_drew)); exact HO_0.out).2, by repeat (first | (with_reducible first | exact HB.out | apply below_alloc | apply pw_below_drewN | apply below_drew1) | exact HB.out), by repeat (first | (with_reducible first | exact HK.out | apply Kept.alloc | apply Kept.drewN | apply Kept.drew) | exact HK.out)⟩
        · rw [if_neg c30] at H
          exact absurd H (by simp)


end Go.Proofs.Ytjhinakfoejpbaa.PS
