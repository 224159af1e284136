-- By wip/tools/printplus.py of this session, over the kit's print; what is by hand in it is this session's own.
import Derived.Test.YtnmiagcjfbdfkaaPStatsEndsx0
namespace Go.Proofs.Ytnmiagcjfbdfkaa.PStatsEnds
open Go.RowKit Go.Proofs.YtnmiagcjfbdfkaaW.PrintWords Go.Proofs.YtnmiagcjfbdfkaaW.PrintLast Go.Proofs.YtnmiagcjfbdfkaaW.PrintMore
attribute [local go_sem] max2_int min2_int max_two min_two max_three min_three max_four min_four   -- for this text's walks alone
set_option linter.unusedVariables false
set_option linter.unusedSimpArgs false

/-! ### foolscaplaw16_lives: function 9 -/
def foolscaplaw16_lives.f  : Option (Bool) := some (true)
theorem foolscaplaw16_lives.calls  (r : Bool) (w : World) (h : foolscaplaw16_lives.f  = some r) :
    Calls Try.prog 9 #[] w fun e w' => e = .returned (.bool r) ∧ Below w.heap.size w w' :=
  Go.Proofs.Ytnmiagcjfbdfkaa.PG.foolscaplaw16_lives.calls 100 r w (Eq.trans (Go.Proofs.Ytnmiagcjfbdfkaa.PG.foolscaplaw16_lives.one) h)

/-! ### stats_Large: function 11 -/
def stats_Large.f (l0 : List Int) (a1 : Int) : Option (Int × Int) := some (Go.Proofs.Ytnmiagcjfbdfkaa.SC.largeN l0 a1)
theorem stats_Large.calls (A0 : Option Addr) (c0 : Nat) (l0 : List Int) (a1 : Int) (r1 : Int) (r2 : Int) (w : World) (hr0 : Kd.C (Kd.int .i64) w A0 l0.length l0) (hc0 : l0.length ≤ c0) (h : stats_Large.f l0 a1 = some (r1, r2)) :
    Calls Try.prog 11 #[.slice A0 l0.length c0, .int .i64 a1] w fun e w' => e = .returned (.tuple #[.int .i64 r1, .int .i64 r2]) ∧ Below w.heap.size w w' := by
  obtain ⟨k_, hk_⟩ := SD.large_x _ _ h
  exact Go.Proofs.Ytnmiagcjfbdfkaa.PG.stats_Large.calls k_ A0 c0 l0 a1 r1 r2 w hr0 hc0 (hk_)

/-! ### stats_Small: function 13 -/
def stats_Small.f (l0 : List Int) (a1 : Int) : Option (Int × Int) := some (Go.Proofs.Ytnmiagcjfbdfkaa.SC.smallN l0 a1)
theorem stats_Small.calls (A0 : Option Addr) (c0 : Nat) (l0 : List Int) (a1 : Int) (r1 : Int) (r2 : Int) (w : World) (hr0 : Kd.C (Kd.int .i64) w A0 l0.length l0) (hc0 : l0.length ≤ c0) (h : stats_Small.f l0 a1 = some (r1, r2)) :
    Calls Try.prog 13 #[.slice A0 l0.length c0, .int .i64 a1] w fun e w' => e = .returned (.tuple #[.int .i64 r1, .int .i64 r2]) ∧ Below w.heap.size w w' := by
  obtain ⟨k_, hk_⟩ := SD.small_x _ _ h
  exact Go.Proofs.Ytnmiagcjfbdfkaa.PG.stats_Small.calls k_ A0 c0 l0 a1 r1 r2 w hr0 hc0 (hk_)

/-! ### stats_Least: function 24 -/
def stats_Least.f (l0 : List Int) : Option (Int × Int) := some (Go.Proofs.Ytnmiagcjfbdfkaa.SD.leN l0)
theorem stats_Least.calls (A0 : Option Addr) (c0 : Nat) (l0 : List Int) (r1 : Int) (r2 : Int) (w : World) (hr0 : Kd.C (Kd.int .i64) w A0 l0.length l0) (hc0 : l0.length ≤ c0) (h : stats_Least.f l0 = some (r1, r2)) :
    Calls Try.prog 24 #[.slice A0 l0.length c0] w fun e w' => e = .returned (.tuple #[.int .i64 r1, .int .i64 r2]) ∧ Below w.heap.size w w' := by
  obtain ⟨k_, hk_⟩ := SD.le_x _ h
  exact Go.Proofs.Ytnmiagcjfbdfkaa.PG.stats_Least.calls k_ A0 c0 l0 r1 r2 w hr0 hc0 (hk_)

/-! ### stats_Greatest: function 26 -/
def stats_Greatest.f (l0 : List Int) : Option (Int × Int) := some (Go.Proofs.Ytnmiagcjfbdfkaa.SD.grN l0)
theorem stats_Greatest.calls (A0 : Option Addr) (c0 : Nat) (l0 : List Int) (r1 : Int) (r2 : Int) (w : World) (hr0 : Kd.C (Kd.int .i64) w A0 l0.length l0) (hc0 : l0.length ≤ c0) (h : stats_Greatest.f l0 = some (r1, r2)) :
    Calls Try.prog 26 #[.slice A0 l0.length c0] w fun e w' => e = .returned (.tuple #[.int .i64 r1, .int .i64 r2]) ∧ Below w.heap.size w w' := by
  obtain ⟨k_, hk_⟩ := SD.gr_x _ h
  exact Go.Proofs.Ytnmiagcjfbdfkaa.PG.stats_Greatest.calls k_ A0 c0 l0 r1 r2 w hr0 hc0 (hk_)

/-! ### foolscaplaw16_StatsEnds: function 7 -/
def foolscaplaw16_StatsEnds.j0 : Nat → List Int → Int → Bool → Option (Bool)
  | 0, _, _, _ => none
  | k + 1, x0, x1, x29 => if x29 = true then ((foolscaplaw16_lives.f).bind fun t101 => (some t101)) else ((stats_Large.f x0 x1).bind fun bt102 => ((stats_Small.f x0 (wrap64 ((wrap64 ((x0.length : Int) + 1)) - x1))).bind fun bt104 => ((stats_Large.f x0 1).bind fun bt106 => ((stats_Greatest.f x0).bind fun bt108 => ((stats_Small.f x0 1).bind fun bt110 => ((stats_Least.f x0).bind fun bt112 => (if bt102.1 = bt104.1 then (if bt102.2 = bt104.2 then (if bt106.1 = bt108.1 then (if bt106.2 = bt108.2 then (if bt110.1 = bt112.1 then (if bt110.2 = bt112.2 then ((foolscaplaw16_lives.f).bind fun t114 => (some t114)) else (none)) else (none)) else (none)) else (none)) else (none)) else (none))))))))
def foolscaplaw16_StatsEnds.f (k : Nat) (l0 : List Int) (a1 : Int) : Option (Bool) := if (l0.length : Int) > 2000 then (foolscaplaw16_StatsEnds.j0 k l0 a1 true) else (if a1 < 1 then (foolscaplaw16_StatsEnds.j0 k l0 a1 true) else (foolscaplaw16_StatsEnds.j0 k l0 a1 (decide (a1 > (l0.length : Int)))))
theorem foolscaplaw16_StatsEnds.mono_l : ∀ k, (∀ y0 y1 y2, LeO (foolscaplaw16_StatsEnds.j0 k y0 y1 y2) (foolscaplaw16_StatsEnds.j0 (k + 1) y0 y1 y2))
  | 0 => fun _ _ _ r h => by simp [foolscaplaw16_StatsEnds.j0] at h
  | k + 1 => by
    have ih0 := foolscaplaw16_StatsEnds.mono_l k
    · intro y0 y1 y2
      unfold foolscaplaw16_StatsEnds.j0
      repeat' first
      | (with_reducible exact ih0 _ _ _)
      | (with_reducible exact LeO.refl _)
      | (with_reducible exact LeO.none _)
      | (with_reducible refine LeO.ite ?_ ?_)
      | (with_reducible refine LeO.bind ?_ (fun _ => ?_))
      | exact ih0 _ _ _
      | exact LeO.none _
      | refine LeO.ite ?_ ?_
      | refine LeO.bind ?_ (fun _ => ?_)
theorem foolscaplaw16_StatsEnds.mono : ∀ a0 a1 k, LeO (foolscaplaw16_StatsEnds.f k a0 a1) (foolscaplaw16_StatsEnds.f (k + 1) a0 a1) := by
  intro a0 a1 k
  have ih0 := foolscaplaw16_StatsEnds.mono_l k
  unfold foolscaplaw16_StatsEnds.f
  repeat' first
      | (with_reducible exact ih0 _ _ _)
      | (with_reducible exact LeO.refl _)
      | (with_reducible exact LeO.none _)
      | (with_reducible refine LeO.ite ?_ ?_)
      | (with_reducible refine LeO.bind ?_ (fun _ => ?_))
      | exact ih0 _ _ _
      | exact LeO.none _
      | refine LeO.ite ?_ ?_
      | refine LeO.bind ?_ (fun _ => ?_)
set_option maxHeartbeats 8000000 in
set_option maxRecDepth 100000 in
theorem foolscaplaw16_StatsEnds.calls (k : Nat) (A0 : Option Addr) (c0 : Nat) (l0 : List Int) (a1 : Int) (r : Bool) (w : World) (hr0 : Kd.C (Kd.int .i64) w A0 l0.length l0) (hc0 : l0.length ≤ c0) (h : foolscaplaw16_StatsEnds.f k l0 a1 = some r) :
    Calls Try.prog 7 #[.slice A0 l0.length c0, .int .i64 a1] w fun e w' => e = .returned (.bool r) ∧ Below w.heap.size w w' := by
  have HR0 := Aside0.mk hr0
  have HC0 := Aside0.mk hc0
  clear hr0 hc0
  have HB := Aside0.mk (Below.refl w.heap.size w)
  have H : (if (l0.length : Int) > 2000 then (foolscaplaw16_StatsEnds.j0 k l0 a1 true) else (if a1 < 1 then (foolscaplaw16_StatsEnds.j0 k l0 a1 true) else (foolscaplaw16_StatsEnds.j0 k l0 a1 (decide (a1 > (l0.length : Int)))))) = some r := h
  clear h
  have HC3 := Aside0.mk H
  clear H
  go_enter Try.func7, Try.ntmps7
  go_upto_region 1 with (fail)
  go_cut [29] (fun v29 wc => ∃ (kq : Nat) (x29_2 : Bool), v29 = .bool x29_2 ∧ Aside0 (foolscaplaw16_StatsEnds.j0 kq l0 a1 x29_2 = some r) ∧ Aside0 (kq ≤ k) ∧ Aside0 (Below w.heap.size w wc))
  case first =>
    have H := HC3.out
    clear HC3
    by_cases c4 : (l0.length : Int) > 2000
    · rw [if_pos c4] at H
      have c4b0 : decide (2000 < (l0.length : Int)) = true := decide_eq_true c4
      have c4b1 : decide (2000 < l0.length) = true := decide_eq_true (by omega)
      clear c4
      (first | rw [c4b0] | (simp only [i64_w, i32_w]; rw [c4b0]) | skip)
      have H' := Aside0.mk H
      clear H
      go_wp2
      go_meet
      case rel => exact ⟨_, (true), (by first | rfl | (simp; done) | (simp [*]; done)), H', ⟨by first | omega | exact Nat.le_refl _⟩, ⟨by repeat (first | (with_reducible first | exact HB.out | apply below_alloc | apply pw_below_drewN | apply below_drew1) | exact HB.out)⟩⟩
    · rw [if_neg c4] at H
      have c4b0 : decide (2000 < (l0.length : Int)) = false := decide_eq_false c4
      have c4b1 : decide (2000 < l0.length) = false := decide_eq_false (by omega)
      clear c4
      (first | rw [c4b0] | (simp only [i64_w, i32_w]; rw [c4b0]) | skip)
      by_cases c5 : a1 < 1
      · rw [if_pos c5] at H
        have c5b0 : decide (a1 < 1) = true := decide_eq_true c5
        clear c5
        have H' := Aside0.mk H
        clear H
        go_wp2
        go_meet
        case rel => exact ⟨_, (true), (by first | rfl | (simp; done) | (simp [*]; done)), H', ⟨by first | omega | exact Nat.le_refl _⟩, ⟨by repeat (first | (with_reducible first | exact HB.out | apply below_alloc | apply pw_below_drewN | apply below_drew1) | exact HB.out)⟩⟩
      · rw [if_neg c5] at H
        have c5b0 : decide (a1 < 1) = false := decide_eq_false c5
        clear c5
        have H' := Aside0.mk H
        clear H
        go_wp2
        go_meet
        case rel => exact ⟨_, (decide (a1 > (l0.length : Int))), (by first | rfl | (simp; done) | (simp [*]; done)), H', ⟨by first | omega | exact Nat.le_refl _⟩, ⟨by repeat (first | (with_reducible first | exact HB.out | apply below_alloc | apply pw_below_drewN | apply below_drew1) | exact HB.out)⟩⟩
  case rest =>
    clear HC3
    try clear p2
    try clear c4
    try clear c4b0
    try clear c4b1
    try clear c5
    try clear c5b0
    obtain ⟨kq, x29_2, rfl, HA, HJ2, HB⟩ := hcut
    cases kq with
    | zero => exact absurd HA.out (by simp [foolscaplaw16_StatsEnds.j0])
    | succ kj2 =>
      have H := HA.out
      clear HA
      simp only [foolscaplaw16_StatsEnds.j0] at H
      by_cases c6 : x29_2 = true
      · subst c6
        have H1 : ((foolscaplaw16_lives.f).bind fun t101 => (some t101)) = some r := by rw [if_pos rfl] at H; exact H
        clear H
        have H := H1
        clear H1
        replace H := Option.bind_eq_some_iff.mp H
        obtain ⟨t101, A70, H⟩ := H
        replace H : (some t101) = some r := H
        have A7 := Aside0.mk A70
        clear A70
        obtain rfl := Option.some.inj H
        go_wp2_with (first | ((with_reducible refine gate_callee (f := 9) rfl ?_); refine goesL_ (some 30) rfl rfl Try.func9 (by kernel_rfl) rfl #[] rfl (by (try simp only [List.map_toArray, List.map_cons, List.map_nil]); first | done | rfl | (simp only [List.length_drop, List.length_take]; rfl)) ?_; (with_reducible refine (foolscaplaw16_lives.calls  t101 _ A7.out).mono ?_); rintro e w8 ⟨rfl, hb⟩; refine ⟨_, rfl, ?_⟩; have n0_ := Aside0.mk (below_step (by repeat (first | (with_reducible first | exact HB.out | apply below_alloc | apply pw_below_drewN | apply below_drew1) | exact HB.out)) hb); clear HB; have HB := n0_; clear n0_; (try clear hb); (try clear hb2); (try clear hk); (try clear hi)))
        go_ret
        exact ⟨by first | rfl | (simp [errW_none, errW_some] <;> rfl) | (simp [*, errW_none, errW_some] <;> rfl), by repeat (first | (with_reducible first | exact HB.out | apply below_alloc | apply pw_below_drewN | apply below_drew1) | exact HB.out)⟩
      · replace c6 := Bool.eq_false_iff.mpr c6
        subst c6
        have H1 : ((stats_Large.f l0 a1).bind fun bt102 => ((stats_Small.f l0 (wrap64 ((wrap64 ((l0.length : Int) + 1)) - a1))).bind fun bt104 => ((stats_Large.f l0 1).bind fun bt106 => ((stats_Greatest.f l0).bind fun bt108 => ((stats_Small.f l0 1).bind fun bt110 => ((stats_Least.f l0).bind fun bt112 => (if bt102.1 = bt104.1 then (if bt102.2 = bt104.2 then (if bt106.1 = bt108.1 then (if bt106.2 = bt108.2 then (if bt110.1 = bt112.1 then (if bt110.2 = bt112.2 then ((foolscaplaw16_lives.f).bind fun t114 => (some t114)) else (none)) else (none)) else (none)) else (none)) else (none)) else (none)))))))) = some r := by rw [if_neg (show ¬ (false = true) by decide)] at H; exact H
        clear H
        have H := H1
        clear H1
        replace H := Option.bind_eq_some_iff.mp H
        obtain ⟨⟨t102, t103⟩, A90, H⟩ := H
        replace H : ((stats_Small.f l0 (wrap64 ((wrap64 ((l0.length : Int) + 1)) - a1))).bind fun bt104 => ((stats_Large.f l0 1).bind fun bt106 => ((stats_Greatest.f l0).bind fun bt108 => ((stats_Small.f l0 1).bind fun bt110 => ((stats_Least.f l0).bind fun bt112 => (if t102 = bt104.1 then (if t103 = bt104.2 then (if bt106.1 = bt108.1 then (if bt106.2 = bt108.2 then (if bt110.1 = bt112.1 then (if bt110.2 = bt112.2 then ((foolscaplaw16_lives.f).bind fun t114 => (some t114)) else (none)) else (none)) else (none)) else (none)) else (none)) else (none))))))) = some r := H
        have A9 := Aside0.mk A90
        clear A90
        replace H := Option.bind_eq_some_iff.mp H
        obtain ⟨⟨t104, t105⟩, A100, H⟩ := H
        replace H : ((stats_Large.f l0 1).bind fun bt106 => ((stats_Greatest.f l0).bind fun bt108 => ((stats_Small.f l0 1).bind fun bt110 => ((stats_Least.f l0).bind fun bt112 => (if t102 = t104 then (if t103 = t105 then (if bt106.1 = bt108.1 then (if bt106.2 = bt108.2 then (if bt110.1 = bt112.1 then (if bt110.2 = bt112.2 then ((foolscaplaw16_lives.f).bind fun t114 => (some t114)) else (none)) else (none)) else (none)) else (none)) else (none)) else (none)))))) = some r := H
        have A10 := Aside0.mk A100
        clear A100
        replace H := Option.bind_eq_some_iff.mp H
        obtain ⟨⟨t106, t107⟩, A110, H⟩ := H
        replace H : ((stats_Greatest.f l0).bind fun bt108 => ((stats_Small.f l0 1).bind fun bt110 => ((stats_Least.f l0).bind fun bt112 => (if t102 = t104 then (if t103 = t105 then (if t106 = bt108.1 then (if t107 = bt108.2 then (if bt110.1 = bt112.1 then (if bt110.2 = bt112.2 then ((foolscaplaw16_lives.f).bind fun t114 => (some t114)) else (none)) else (none)) else (none)) else (none)) else (none)) else (none))))) = some r := H
        have A11 := Aside0.mk A110
        clear A110
        replace H := Option.bind_eq_some_iff.mp H
        obtain ⟨⟨t108, t109⟩, A120, H⟩ := H
        replace H : ((stats_Small.f l0 1).bind fun bt110 => ((stats_Least.f l0).bind fun bt112 => (if t102 = t104 then (if t103 = t105 then (if t106 = t108 then (if t107 = t109 then (if bt110.1 = bt112.1 then (if bt110.2 = bt112.2 then ((foolscaplaw16_lives.f).bind fun t114 => (some t114)) else (none)) else (none)) else (none)) else (none)) else (none)) else (none)))) = some r := H
        have A12 := Aside0.mk A120
        clear A120
        replace H := Option.bind_eq_some_iff.mp H
        obtain ⟨⟨t110, t111⟩, A130, H⟩ := H
        replace H : ((stats_Least.f l0).bind fun bt112 => (if t102 = t104 then (if t103 = t105 then (if t106 = t108 then (if t107 = t109 then (if t110 = bt112.1 then (if t111 = bt112.2 then ((foolscaplaw16_lives.f).bind fun t114 => (some t114)) else (none)) else (none)) else (none)) else (none)) else (none)) else (none))) = some r := H
        have A13 := Aside0.mk A130
        clear A130
        replace H := Option.bind_eq_some_iff.mp H
        obtain ⟨⟨t112, t113⟩, A140, H⟩ := H
        replace H : (if t102 = t104 then (if t103 = t105 then (if t106 = t108 then (if t107 = t109 then (if t110 = t112 then (if t111 = t113 then ((foolscaplaw16_lives.f).bind fun t114 => (some t114)) else (none)) else (none)) else (none)) else (none)) else (none)) else (none)) = some r := H
        have A14 := Aside0.mk A140
        clear A140
        by_cases c15 : t102 = t104
        · rw [if_pos c15] at H
          have c15b0 : (t102 == t104) = true := beq_iff_eq.mpr c15
          have c15b1 : (t102 != t104) = false := bne_eq_false_iff_eq.mpr c15
          clear c15
          by_cases c16 : t103 = t105
          · rw [if_pos c16] at H
            have c16b0 : (t103 == t105) = true := beq_iff_eq.mpr c16
            have c16b1 : (t103 != t105) = false := bne_eq_false_iff_eq.mpr c16
            clear c16
            by_cases c17 : t106 = t108
            · rw [if_pos c17] at H
              have c17b0 : (t106 == t108) = true := beq_iff_eq.mpr c17
              have c17b1 : (t106 != t108) = false := bne_eq_false_iff_eq.mpr c17
              clear c17
              by_cases c18 : t107 = t109
              · rw [if_pos c18] at H
                have c18b0 : (t107 == t109) = true := beq_iff_eq.mpr c18
                have c18b1 : (t107 != t109) = false := bne_eq_false_iff_eq.mpr c18
                clear c18
                by_cases c19 : t110 = t112
                · rw [if_pos c19] at H
                  have c19b0 : (t110 == t112) = true := beq_iff_eq.mpr c19
                  have c19b1 : (t110 != t112) = false := bne_eq_false_iff_eq.mpr c19
                  clear c19
                  by_cases c20 : t111 = t113
                  · rw [if_pos c20] at H
                    have c20b0 : (t111 == t113) = true := beq_iff_eq.mpr c20
                    have c20b1 : (t111 != t113) = false := bne_eq_false_iff_eq.mpr c20
                    clear c20
                    replace H := Option.bind_eq_some_iff.mp H
                    obtain ⟨t114, A210, H⟩ := H
                    replace H : (some t114) = some r := H
                    have A21 := Aside0.mk A210
                    clear A210
                    obtain rfl := Option.some.inj H
                    go_wp2_with (first | ((with_reducible refine gate_callee (f := 11) rfl ?_); refine goesL_ (some 34) rfl rfl Try.func11 (by kernel_rfl) rfl #[.slice A0 l0.length c0, .int .i64 a1] rfl (by (try simp only [List.map_toArray, List.map_cons, List.map_nil]); first | done | rfl | (simp only [List.length_drop, List.length_take]; rfl)) ?_; (with_reducible refine (stats_Large.calls _ _ l0 a1 t102 t103 _ ?side1 ?side2 A9.out).mono ?_); (case side1 => repeat (first | exact (Kd.C_below HR0.out HB.out) | (with_reducible refine Kd.C_alloc ?_ _) | (with_reducible refine Kd.C_drewN ?_ _) | (with_reducible refine Kd.C_drew ?_))); (case side2 => exact HC0.out); rintro e w22 ⟨rfl, hb⟩; refine ⟨_, rfl, ?_⟩; have n0_ := Aside0.mk (below_step (by repeat (first | (with_reducible first | exact HB.out | apply below_alloc | apply pw_below_drewN | apply below_drew1) | exact HB.out)) hb); clear HB; have HB := n0_; clear n0_; (try clear hb); (try clear hb2); (try clear hk); (try clear hi)) | ((with_reducible refine gate_callee (f := 13) rfl ?_); refine goesL_ (some 44) rfl rfl Try.func13 (by kernel_rfl) rfl #[.slice A0 l0.length c0, .int .i64 (wrap64 ((wrap64 ((l0.length : Int) + 1)) - a1))] rfl (by (try simp only [List.map_toArray, List.map_cons, List.map_nil]); first | done | rfl | (simp only [List.length_drop, List.length_take]; rfl)) ?_; (with_reducible refine (stats_Small.calls _ _ l0 (wrap64 ((wrap64 ((l0.length : Int) + 1)) - a1)) t104 t105 _ ?side1 ?side2 A10.out).mono ?_); (case side1 => repeat (first | exact (Kd.C_below HR0.out HB.out) | (with_reducible refine Kd.C_alloc ?_ _) | (with_reducible refine Kd.C_drewN ?_ _) | (with_reducible refine Kd.C_drew ?_))); (case side2 => exact HC0.out); rintro e w23 ⟨rfl, hb⟩; refine ⟨_, rfl, ?_⟩; have n0_ := Aside0.mk (below_step (by repeat (first | (with_reducible first | exact HB.out | apply below_alloc | apply pw_below_drewN | apply below_drew1) | exact HB.out)) hb); clear HB; have HB := n0_; clear n0_; (try clear hb); (try clear hb2); (try clear hk); (try clear hi)) | ((with_reducible refine gate_callee (f := 11) rfl ?_); refine goesL_ (some 49) rfl rfl Try.func11 (by kernel_rfl) rfl #[.slice A0 l0.length c0, .int .i64 1] rfl (by (try simp only [List.map_toArray, List.map_cons, List.map_nil]); first | done | rfl | (simp only [List.length_drop, List.length_take]; rfl)) ?_; (with_reducible refine (stats_Large.calls _ _ l0 1 t106 t107 _ ?side1 ?side2 A11.out).mono ?_); (case side1 => repeat (first | exact (Kd.C_below HR0.out HB.out) | (with_reducible refine Kd.C_alloc ?_ _) | (with_reducible refine Kd.C_drewN ?_ _) | (with_reducible refine Kd.C_drew ?_))); (case side2 => exact HC0.out); rintro e w24 ⟨rfl, hb⟩; refine ⟨_, rfl, ?_⟩; have n0_ := Aside0.mk (below_step (by repeat (first | (with_reducible first | exact HB.out | apply below_alloc | apply pw_below_drewN | apply below_drew1) | exact HB.out)) hb); clear HB; have HB := n0_; clear n0_; (try clear hb); (try clear hb2); (try clear hk); (try clear hi)) | ((with_reducible refine gate_callee (f := 26) rfl ?_); refine goesL_ (some 54) rfl rfl Try.func26 (by kernel_rfl) rfl #[.slice A0 l0.length c0] rfl (by (try simp only [List.map_toArray, List.map_cons, List.map_nil]); first | done | rfl | (simp only [List.length_drop, List.length_take]; rfl)) ?_; (with_reducible refine (stats_Greatest.calls _ _ l0 t108 t109 _ ?side1 ?side2 A12.out).mono ?_); (case side1 => repeat (first | exact (Kd.C_below HR0.out HB.out) | (with_reducible refine Kd.C_alloc ?_ _) | (with_reducible refine Kd.C_drewN ?_ _) | (with_reducible refine Kd.C_drew ?_))); (case side2 => exact HC0.out); rintro e w25 ⟨rfl, hb⟩; refine ⟨_, rfl, ?_⟩; have n0_ := Aside0.mk (below_step (by repeat (first | (with_reducible first | exact HB.out | apply below_alloc | apply pw_below_drewN | apply below_drew1) | exact HB.out)) hb); clear HB; have HB := n0_; clear n0_; (try clear hb); (try clear hb2); (try clear hk); (try clear hi)) | ((with_reducible refine gate_callee (f := 13) rfl ?_); refine goesL_ (some 59) rfl rfl Try.func13 (by kernel_rfl) rfl #[.slice A0 l0.length c0, .int .i64 1] rfl (by (try simp only [List.map_toArray, List.map_cons, List.map_nil]); first | done | rfl | (simp only [List.length_drop, List.length_take]; rfl)) ?_; (with_reducible refine (stats_Small.calls _ _ l0 1 t110 t111 _ ?side1 ?side2 A13.out).mono ?_); (case side1 => repeat (first | exact (Kd.C_below HR0.out HB.out) | (with_reducible refine Kd.C_alloc ?_ _) | (with_reducible refine Kd.C_drewN ?_ _) | (with_reducible refine Kd.C_drew ?_))); (case side2 => exact HC0.out); rintro e w26 ⟨rfl, hb⟩; refine ⟨_, rfl, ?_⟩; have n0_ := Aside0.mk (below_step (by repeat (first | (with_reducible first | exact HB.out | apply below_alloc | apply pw_below_drewN | apply below_drew1) | exact HB.out)) hb); clear HB; have HB := n0_; clear n0_; (try clear hb); (try clear hb2); (try clear hk); (try clear hi)) | ((with_reducible refine gate_callee (f := 24) rfl ?_); refine goesL_ (some 64) rfl rfl Try.func24 (by kernel_rfl) rfl #[.slice A0 l0.length c0] rfl (by (try simp only [List.map_toArray, List.map_cons, List.map_nil]); first | done | rfl | (simp only [List.length_drop, List.length_take]; rfl)) ?_; (with_reducible refine (stats_Least.calls _ _ l0 t112 t113 _ ?side1 ?side2 A14.out).mono ?_); (case side1 => repeat (first | exact (Kd.C_below HR0.out HB.out) | (with_reducible refine Kd.C_alloc ?_ _) | (with_reducible refine Kd.C_drewN ?_ _) | (with_reducible refine Kd.C_drew ?_))); (case side2 => exact HC0.out); rintro e w27 ⟨rfl, hb⟩; refine ⟨_, rfl, ?_⟩; have n0_ := Aside0.mk (below_step (by repeat (first | (with_reducible first | exact HB.out | apply below_alloc | apply pw_below_drewN | apply below_drew1) | exact HB.out)) hb); clear HB; have HB := n0_; clear n0_; (try clear hb); (try clear hb2); (try clear hk); (try clear hi)) | (go_at_call 9; (with_reducible refine (foolscaplaw16_lives.calls  t114 _ A21.out).mono ?_); rintro e w28 ⟨rfl, hb⟩; have n0_ := Aside0.mk (below_step (by repeat (first | (with_reducible first | exact HB.out | apply below_alloc | apply pw_below_drewN | apply below_drew1) | exact HB.out)) hb); clear HB; have HB := n0_; clear n0_; (try clear hb); (try clear hb2); (try clear hk); (try clear hi)))
                    go_ret
                    exact ⟨by first | rfl | (simp [errW_none, errW_some] <;> rfl) | (simp [*, errW_none, errW_some] <;> rfl), by repeat (first | (with_reducible first | exact HB.out | apply below_alloc | apply pw_below_drewN | apply below_drew1) | exact HB.out)⟩
                  · rw [if_neg c20] at H
                    exact absurd H (by simp)
                · rw [if_neg c19] at H
                  exact absurd H (by simp)
              · rw [if_neg c18] at H
                exact absurd H (by simp)
            · rw [if_neg c17] at H
              exact absurd H (by simp)
          · rw [if_neg c16] at H
            exact absurd H (by simp)
        · rw [if_neg c15] at H
          exact absurd H (by simp)

/-- THE ONE PURE STATEMENT of foolscaplaw16_StatsEnds: yours. -/
def foolscaplaw16_StatsEnds.Pure : Prop := ∀ (l0 : List Int) (a1 : Int), l0.length ≤ maxLen → l0.length * 8 ≤ 140737488351232 → (∀ x ∈ l0, (Lit.int .i64 x).wf = true) → (Lit.int .i64 a1).wf = true → ∃ k, foolscaplaw16_StatsEnds.f k l0 a1 = some true
theorem foolscaplaw16_StatsEnds.walk (P : foolscaplaw16_StatsEnds.Pure) (a0 : Option Addr) (len0 cap0 : Nat) (z0 : List Int) (a1 : Int) (w : World) (w0 : (a0 = none ∧ len0 = 0 ∧ cap0 = 0 ∧ z0 = []) ∨ ∃ x, a0 = some x ∧ len0 ≤ cap0 ∧ cap0 ≤ maxLen ∧ z0.length = cap0 ∧ (∀ i, i < z0.length → w.cell? (x.add i) = some (.int .i64 (z0.getD i 0))) ∧ ∀ n ∈ z0, (Lit.int .i64 n).wf = true) (y0 : len0 * 8 ≤ 140737488351232) (w1 : (Lit.int .i64 a1).wf = true) :
    Calls Try.prog 7 #[.slice a0 len0 cap0, .int .i64 a1] w fun e w' => e = .returned (.bool true) ∧ Below w.heap.size w w' := by
  obtain ⟨l0, rfl, hr0, hm0, hw0, hc0⟩ := ReadsInt.ofRowC w0
  obtain ⟨k, h⟩ := P l0 a1 hm0 y0 hw0 w1
  refine (foolscaplaw16_StatsEnds.calls k _ _ l0 a1 true w (Kd.C_of_reads (d := (0 : Int)) (h1 := fun _ => rfl) hr0) hc0 h).mono ?_
  rintro e w' ⟨rfl, hd⟩
  exact ⟨rfl, hd⟩

end Go.Proofs.Ytnmiagcjfbdfkaa.PStatsEnds
