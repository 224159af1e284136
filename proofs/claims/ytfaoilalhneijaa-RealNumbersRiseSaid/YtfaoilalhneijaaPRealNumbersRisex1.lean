-- By wip/tools/printplus.py of this session, over the kit's print; what is by hand in it is this session's own.
import Derived.Test.YtfaoilalhneijaaPRealNumbersRisex0
namespace Go.Proofs.Ytfaoilalhneijaa.PRealNumbersRise
open Go.RowKit Go.Proofs.YtfaoilalhneijaaW.PrintWords Go.Proofs.YtfaoilalhneijaaW.PrintLast Go.Proofs.YtfaoilalhneijaaW.PrintMore
attribute [local go_sem] max2_int min2_int max_two min_two max_three min_three max_four min_four   -- for this text's walks alone
set_option linter.unusedVariables false
set_option linter.unusedSimpArgs false

/-! ### foolscaplaw02_lives: function 16 -/
def foolscaplaw02_lives.f  : Option (Bool) := some (true)
theorem foolscaplaw02_lives.calls  (r : Bool) (w : World) (h : foolscaplaw02_lives.f  = some r) :
    Calls Try.prog 16 #[] w fun e w' => e = .returned (.bool r) ∧ Below w.heap.size w w' :=
  Go.Proofs.Ytfaoilalhneijaa.PG.foolscaplaw02_lives.calls 300 r w (Eq.trans (FX.lives_eq 100) h)

/-! ### real_To: function 19 -/
def real_To.f (a0 : Int) : Option (Nat × Int) := some (Go.Proofs.Ytfaoilalhneijaa.FTo.toN a0)
theorem real_To.calls (a0 : Int) (r1 : Nat) (r2 : Int) (w : World) (h : real_To.f a0 = some (r1, r2)) :
    Calls Try.prog 19 #[.int .i64 a0] w fun e w' => e = .returned (.tuple #[.float .f64 r1, .int .i64 r2]) ∧ Below w.heap.size w w' :=
  Go.Proofs.Ytfaoilalhneijaa.PG.real_To.calls 300 a0 r1 r2 w (Eq.trans (FTe.to_eq 200 _) h)

-- NOT PRINTED: function 41 (math_Float64bits)

/-! ### foolscaplaw02_bits: function 21 -/
def foolscaplaw02_bits.f (a0 : Nat) : Option (Int) := some (a0 : Int)
set_option maxHeartbeats 8000000 in
set_option maxRecDepth 100000 in
theorem foolscaplaw02_bits.calls (a0 : Nat) (r : Int) (w : World) (h : foolscaplaw02_bits.f a0 = some r) :
    Calls Try.prog 21 #[.float .f64 a0] w fun e w' => e = .returned (.int .u64 r) ∧ Drawn0 w w' := by
  have hent_fbits := hent_fbits
  have H : (some (a0 : Int)) = some r := h
  clear h
  obtain rfl := Option.some.inj H
  go_enter Try.func21, Try.ntmps21
  go_wp2
  go_ret
  exact ⟨by first | rfl | (simp; done) | (simp [*]; done), by repeat (first | exact Drawn0.refl _ | apply Drawn0.step)⟩

/-! ### real_Less: function 24 -/
def real_Less.f (a0 : Nat) (a1 : Nat) : Option (Bool) := Go.Proofs.Ytfaoilalhneijaa.FZ.lessC a0 a1
theorem real_Less.calls (a0 : Nat) (a1 : Nat) (r : Bool) (w : World) (h : real_Less.f a0 a1 = some r) :
    Calls Try.prog 24 #[.float .f64 a0, .float .f64 a1] w fun e w' => e = .returned (.bool r) ∧ Below w.heap.size w w' :=
  Go.Proofs.Ytfaoilalhneijaa.PG.real_Less.calls a0 a1 r w (FZ.less_c h)

/-! ### foolscaplaw02_RealNumbersRise: function 9 -/
def foolscaplaw02_RealNumbersRise.j0 : Nat → Int → Int → Nat → Nat → Bool → Option (Bool)
  | 0, _, _, _, _, _ => none
  | k + 1, x0, x1, x5, x7, x29 => if x29 = true then ((foolscaplaw02_lives.f).bind fun t105 => (some t105)) else (if fle x5 x7 = true then ((real_Less.f x7 x5).bind fun t106 => (if t106 = true then (none) else (if x0 < x1 then ((foolscaplaw02_lives.f).bind fun t107 => (some t107)) else ((foolscaplaw02_bits.f x5).bind fun t108 => ((foolscaplaw02_bits.f x7).bind fun t109 => (if t108 = t109 then ((foolscaplaw02_lives.f).bind fun t110 => (some t110)) else (none))))))) else (none))
def foolscaplaw02_RealNumbersRise.f (k : Nat) (a0 : Int) (a1 : Int) : Option (Bool) := (real_To.f a0).bind fun bt101 => ((real_To.f a1).bind fun bt103 => (if bt101.2 = 0 then (if bt103.2 = 0 then (foolscaplaw02_RealNumbersRise.j0 k a0 a1 bt101.1 bt103.1 (decide (a0 > a1))) else (foolscaplaw02_RealNumbersRise.j0 k a0 a1 bt101.1 bt103.1 true)) else (foolscaplaw02_RealNumbersRise.j0 k a0 a1 bt101.1 bt103.1 true)))
theorem foolscaplaw02_RealNumbersRise.mono_l : ∀ k, (∀ y0 y1 y2 y3 y4, LeO (foolscaplaw02_RealNumbersRise.j0 k y0 y1 y2 y3 y4) (foolscaplaw02_RealNumbersRise.j0 (k + 1) y0 y1 y2 y3 y4))
  | 0 => fun _ _ _ _ _ r h => by simp [foolscaplaw02_RealNumbersRise.j0] at h
  | k + 1 => by
    have ih0 := foolscaplaw02_RealNumbersRise.mono_l k
    · intro y0 y1 y2 y3 y4
      unfold foolscaplaw02_RealNumbersRise.j0
      repeat' first
      | (with_reducible exact ih0 _ _ _ _ _)
      | (with_reducible exact LeO.refl _)
      | (with_reducible exact LeO.none _)
      | (with_reducible refine LeO.ite ?_ ?_)
      | (with_reducible refine LeO.bind ?_ (fun _ => ?_))
      | exact ih0 _ _ _ _ _
      | exact LeO.none _
      | refine LeO.ite ?_ ?_
      | refine LeO.bind ?_ (fun _ => ?_)
theorem foolscaplaw02_RealNumbersRise.mono : ∀ a0 a1 k, LeO (foolscaplaw02_RealNumbersRise.f k a0 a1) (foolscaplaw02_RealNumbersRise.f (k + 1) a0 a1) := by
  intro a0 a1 k
  have ih0 := foolscaplaw02_RealNumbersRise.mono_l k
  unfold foolscaplaw02_RealNumbersRise.f
  repeat' first
      | (with_reducible exact ih0 _ _ _ _ _)
      | (with_reducible exact LeO.refl _)
      | (with_reducible exact LeO.none _)
      | (with_reducible refine LeO.ite ?_ ?_)
      | (with_reducible refine LeO.bind ?_ (fun _ => ?_))
      | exact ih0 _ _ _ _ _
      | exact LeO.none _
      | refine LeO.ite ?_ ?_
      | refine LeO.bind ?_ (fun _ => ?_)
set_option maxHeartbeats 8000000 in
set_option maxRecDepth 100000 in
theorem foolscaplaw02_RealNumbersRise.calls (k : Nat) (a0 : Int) (a1 : Int) (r : Bool) (w : World) (h : foolscaplaw02_RealNumbersRise.f k a0 a1 = some r) :
    Calls Try.prog 9 #[.int .i64 a0, .int .i64 a1] w fun e w' => e = .returned (.bool r) ∧ Below w.heap.size w w' := by
  have HB := Aside0.mk (Below.refl w.heap.size w)
  have H : ((real_To.f a0).bind fun bt101 => ((real_To.f a1).bind fun bt103 => (if bt101.2 = 0 then (if bt103.2 = 0 then (foolscaplaw02_RealNumbersRise.j0 k a0 a1 bt101.1 bt103.1 (decide (a0 > a1))) else (foolscaplaw02_RealNumbersRise.j0 k a0 a1 bt101.1 bt103.1 true)) else (foolscaplaw02_RealNumbersRise.j0 k a0 a1 bt101.1 bt103.1 true)))) = some r := h
  clear h
  replace H := Option.bind_eq_some_iff.mp H
  obtain ⟨⟨t101, t102⟩, A30, H⟩ := H
  replace H : ((real_To.f a1).bind fun bt103 => (if t102 = 0 then (if bt103.2 = 0 then (foolscaplaw02_RealNumbersRise.j0 k a0 a1 t101 bt103.1 (decide (a0 > a1))) else (foolscaplaw02_RealNumbersRise.j0 k a0 a1 t101 bt103.1 true)) else (foolscaplaw02_RealNumbersRise.j0 k a0 a1 t101 bt103.1 true))) = some r := H
  have A3 := Aside0.mk A30
  clear A30
  replace H := Option.bind_eq_some_iff.mp H
  obtain ⟨⟨t103, t104⟩, A40, H⟩ := H
  replace H : (if t102 = 0 then (if t104 = 0 then (foolscaplaw02_RealNumbersRise.j0 k a0 a1 t101 t103 (decide (a0 > a1))) else (foolscaplaw02_RealNumbersRise.j0 k a0 a1 t101 t103 true)) else (foolscaplaw02_RealNumbersRise.j0 k a0 a1 t101 t103 true)) = some r := H
  have A4 := Aside0.mk A40
  clear A40
  have HC5 := Aside0.mk H
  clear H
  go_enter Try.func9, Try.ntmps9
  go_upto_region 3 with (first | ((with_reducible refine gate_callee (f := 19) rfl ?_); refine goesL_ (some 11) rfl rfl Try.func19 (by kernel_rfl) rfl #[.int .i64 a0] rfl (by (try simp only [List.map_toArray, List.map_cons, List.map_nil]); first | done | rfl | (simp only [List.length_drop, List.length_take]; rfl)) ?_; (with_reducible refine (real_To.calls a0 t101 t102 _ A3.out).mono ?_); rintro e w6 ⟨rfl, hb⟩; refine ⟨_, rfl, ?_⟩; have n0_ := Aside0.mk (below_step (by repeat (first | (with_reducible first | exact HB.out | apply below_alloc | apply pw_below_drewN | apply below_drew1) | exact HB.out)) hb); clear HB; have HB := n0_; clear n0_; (try clear hb); (try clear hb2); (try clear hk); (try clear hi)) | ((with_reducible refine gate_callee (f := 19) rfl ?_); refine goesL_ (some 16) rfl rfl Try.func19 (by kernel_rfl) rfl #[.int .i64 a1] rfl (by (try simp only [List.map_toArray, List.map_cons, List.map_nil]); first | done | rfl | (simp only [List.length_drop, List.length_take]; rfl)) ?_; (with_reducible refine (real_To.calls a1 t103 t104 _ A4.out).mono ?_); rintro e w7 ⟨rfl, hb⟩; refine ⟨_, rfl, ?_⟩; have n0_ := Aside0.mk (below_step (by repeat (first | (with_reducible first | exact HB.out | apply below_alloc | apply pw_below_drewN | apply below_drew1) | exact HB.out)) hb); clear HB; have HB := n0_; clear n0_; (try clear hb); (try clear hb2); (try clear hk); (try clear hi)))
  (try simp only [Act.put, List.setIfInBounds_toArray, List.set_cons_zero, List.set_cons_succ])
  go_cut [29] (fun v29 wc => ∃ (kq : Nat) (x29_4 : Bool), v29 = .bool x29_4 ∧ Aside0 (foolscaplaw02_RealNumbersRise.j0 kq a0 a1 t101 t103 x29_4 = some r) ∧ Aside0 (kq ≤ k) ∧ Aside0 (Below w.heap.size w wc))
  case first =>
    have H := HC5.out
    clear HC5
    by_cases c8 : t102 = 0
    · rw [if_pos c8] at H
      have c8b0 : (t102 == 0) = true := beq_iff_eq.mpr c8
      have c8b1 : (t102 != 0) = false := bne_eq_false_iff_eq.mpr c8
      clear c8
      (first | rw [c8b0] | (simp only [i64_w, i32_w]; rw [c8b0]) | skip)
      by_cases c9 : t104 = 0
      · rw [if_pos c9] at H
        have c9b0 : (t104 == 0) = true := beq_iff_eq.mpr c9
        have c9b1 : (t104 != 0) = false := bne_eq_false_iff_eq.mpr c9
        clear c9
        have H' := Aside0.mk H
        clear H
        go_wp2
        go_meet
        case rel => exact ⟨_, (decide (a0 > a1)), (by first | rfl | (simp; done) | (simp [*]; done)), H', ⟨by first | omega | exact Nat.le_refl _⟩, ⟨by repeat (first | (with_reducible first | exact HB.out | apply below_alloc | apply pw_below_drewN | apply below_drew1) | exact HB.out)⟩⟩
      · rw [if_neg c9] at H
        have c9b0 : (t104 == 0) = false := beq_eq_false_iff_ne.mpr c9
        have c9b1 : (t104 != 0) = true := bne_iff_ne.mpr c9
        have H' := Aside0.mk H
        clear H
        go_wp2
        go_meet
        case rel => exact ⟨_, (true), (by first | rfl | (simp; done) | (simp [*]; done)), H', ⟨by first | omega | exact Nat.le_refl _⟩, ⟨by repeat (first | (with_reducible first | exact HB.out | apply below_alloc | apply pw_below_drewN | apply below_drew1) | exact HB.out)⟩⟩
    · rw [if_neg c8] at H
      have c8b0 : (t102 == 0) = false := beq_eq_false_iff_ne.mpr c8
      have c8b1 : (t102 != 0) = true := bne_iff_ne.mpr c8
      (first | rw [c8b0] | (simp only [i64_w, i32_w]; rw [c8b0]) | skip)
      have H' := Aside0.mk H
      clear H
      go_wp2
      go_meet
      case rel => exact ⟨_, (true), (by first | rfl | (simp; done) | (simp [*]; done)), H', ⟨by first | omega | exact Nat.le_refl _⟩, ⟨by repeat (first | (with_reducible first | exact HB.out | apply below_alloc | apply pw_below_drewN | apply below_drew1) | exact HB.out)⟩⟩
  case rest =>
    clear HC5
    try clear c1
    try clear p2
    try clear c8
    try clear c8b0
    try clear c8b1
    try clear c9
    try clear c9b0
    try clear c9b1
    obtain ⟨kq, x29_4, rfl, HA, HJ4, HB⟩ := hcut
    cases kq with
    | zero => exact absurd HA.out (by simp [foolscaplaw02_RealNumbersRise.j0])
    | succ kj4 =>
      have H := HA.out
      clear HA
      simp only [foolscaplaw02_RealNumbersRise.j0] at H
      by_cases c10 : x29_4 = true
      · subst c10
        have H1 : ((foolscaplaw02_lives.f).bind fun t105 => (some t105)) = some r := by rw [if_pos rfl] at H; exact H
        clear H
        have H := H1
        clear H1
        replace H := Option.bind_eq_some_iff.mp H
        obtain ⟨t105, A110, H⟩ := H
        replace H : (some t105) = some r := H
        have A11 := Aside0.mk A110
        clear A110
        obtain rfl := Option.some.inj H
        go_wp2_with (first | ((with_reducible refine gate_callee (f := 16) rfl ?_); refine goesL_ (some 30) rfl rfl Try.func16 (by kernel_rfl) rfl #[] rfl (by (try simp only [List.map_toArray, List.map_cons, List.map_nil]); first | done | rfl | (simp only [List.length_drop, List.length_take]; rfl)) ?_; (with_reducible refine (foolscaplaw02_lives.calls  t105 _ A11.out).mono ?_); rintro e w12 ⟨rfl, hb⟩; refine ⟨_, rfl, ?_⟩; have n0_ := Aside0.mk (below_step (by repeat (first | (with_reducible first | exact HB.out | apply below_alloc | apply pw_below_drewN | apply below_drew1) | exact HB.out)) hb); clear HB; have HB := n0_; clear n0_; (try clear hb); (try clear hb2); (try clear hk); (try clear hi)))
        go_ret
        exact ⟨by first | rfl | (simp [errW_none, errW_some] <;> rfl) | (simp [*, errW_none, errW_some] <;> rfl), by repeat (first | (with_reducible first | exact HB.out | apply below_alloc | apply pw_below_drewN | apply below_drew1) | exact HB.out)⟩
      · replace c10 := Bool.eq_false_iff.mpr c10
        subst c10
        have H1 : (if fle t101 t103 = true then ((real_Less.f t103 t101).bind fun t106 => (if t106 = true then (none) else (if a0 < a1 then ((foolscaplaw02_lives.f).bind fun t107 => (some t107)) else ((foolscaplaw02_bits.f t101).bind fun t108 => ((foolscaplaw02_bits.f t103).bind fun t109 => (if t108 = t109 then ((foolscaplaw02_lives.f).bind fun t110 => (some t110)) else (none))))))) else (none)) = some r := by rw [if_neg (show ¬ (false = true) by decide)] at H; exact H
        clear H
        have H := H1
        clear H1
        by_cases c13 : fle t101 t103 = true
        · rw [if_pos c13] at H
          have c13b0 : fle t101 t103 = true := c13
          clear c13
          replace H := Option.bind_eq_some_iff.mp H
          obtain ⟨t106, A140, H⟩ := H
          replace H : (if t106 = true then (none) else (if a0 < a1 then ((foolscaplaw02_lives.f).bind fun t107 => (some t107)) else ((foolscaplaw02_bits.f t101).bind fun t108 => ((foolscaplaw02_bits.f t103).bind fun t109 => (if t108 = t109 then ((foolscaplaw02_lives.f).bind fun t110 => (some t110)) else (none)))))) = some r := H
          have A14 := Aside0.mk A140
          clear A140
          by_cases c15 : t106 = true
          · subst c15
            have H1 : (none) = some r := by rw [if_pos rfl] at H; exact H
            clear H
            have H := H1
            clear H1
            exact absurd H (by simp)
          · replace c15 := Bool.eq_false_iff.mpr c15
            subst c15
            have H1 : (if a0 < a1 then ((foolscaplaw02_lives.f).bind fun t107 => (some t107)) else ((foolscaplaw02_bits.f t101).bind fun t108 => ((foolscaplaw02_bits.f t103).bind fun t109 => (if t108 = t109 then ((foolscaplaw02_lives.f).bind fun t110 => (some t110)) else (none))))) = some r := by rw [if_neg (show ¬ (false = true) by decide)] at H; exact H
            clear H
            have H := H1
            clear H1
            by_cases c16 : a0 < a1
            · rw [if_pos c16] at H
              have c16b0 : decide (a0 < a1) = true := decide_eq_true c16
              clear c16
              replace H := Option.bind_eq_some_iff.mp H
              obtain ⟨t107, A170, H⟩ := H
              replace H : (some t107) = some r := H
              have A17 := Aside0.mk A170
              clear A170
              obtain rfl := Option.some.inj H
              go_wp2_with (first | (go_at_call 24; (with_reducible refine (real_Less.calls t103 t101 false _ A14.out).mono ?_); rintro e w18 ⟨rfl, hb⟩; have n0_ := Aside0.mk (below_step (by repeat (first | (with_reducible first | exact HB.out | apply below_alloc | apply pw_below_drewN | apply below_drew1) | exact HB.out)) hb); clear HB; have HB := n0_; clear n0_; (try clear hb); (try clear hb2); (try clear hk); (try clear hi)) | (go_at_call 16; (with_reducible refine (foolscaplaw02_lives.calls  t107 _ A17.out).mono ?_); rintro e w19 ⟨rfl, hb⟩; have n0_ := Aside0.mk (below_step (by repeat (first | (with_reducible first | exact HB.out | apply below_alloc | apply pw_below_drewN | apply below_drew1) | exact HB.out)) hb); clear HB; have HB := n0_; clear n0_; (try clear hb); (try clear hb2); (try clear hk); (try clear hi)))
              go_ret
              exact ⟨by first | rfl | (simp [errW_none, errW_some] <;> rfl) | (simp [*, errW_none, errW_some] <;> rfl), by repeat (first | (with_reducible first | exact HB.out | apply below_alloc | apply pw_below_drewN | apply below_drew1) | exact HB.out)⟩
            · rw [if_neg c16] at H
              have c16b0 : decide (a0 < a1) = false := decide_eq_false c16
              clear c16
              replace H := Option.bind_eq_some_iff.mp H
              obtain ⟨t108, A200, H⟩ := H
              replace H : ((foolscaplaw02_bits.f t103).bind fun t109 => (if t108 = t109 then ((foolscaplaw02_lives.f).bind fun t110 => (some t110)) else (none))) = some r := H
              have A20 := Aside0.mk A200
              clear A200
              replace H := Option.bind_eq_some_iff.mp H
              obtain ⟨t109, A210, H⟩ := H
              replace H : (if t108 = t109 then ((foolscaplaw02_lives.f).bind fun t110 => (some t110)) else (none)) = some r := H
              have A21 := Aside0.mk A210
              clear A210
              by_cases c22 : t108 = t109
              · rw [if_pos c22] at H
                have c22b0 : (t108 == t109) = true := beq_iff_eq.mpr c22
                have c22b1 : (t108 != t109) = false := bne_eq_false_iff_eq.mpr c22
                clear c22
                replace H := Option.bind_eq_some_iff.mp H
                obtain ⟨t110, A230, H⟩ := H
                replace H : (some t110) = some r := H
                have A23 := Aside0.mk A230
                clear A230
                obtain rfl := Option.some.inj H
                go_wp2_with (first | (go_at_call 24; (with_reducible refine (real_Less.calls t103 t101 false _ A14.out).mono ?_); rintro e w24 ⟨rfl, hb⟩; have n0_ := Aside0.mk (below_step (by repeat (first | (with_reducible first | exact HB.out | apply below_alloc | apply pw_below_drewN | apply below_drew1) | exact HB.out)) hb); clear HB; have HB := n0_; clear n0_; (try clear hb); (try clear hb2); (try clear hk); (try clear hi)) | (go_at_call 21; (with_reducible refine (foolscaplaw02_bits.calls t101 t108 _ A20.out).mono ?_); rintro e w' ⟨rfl, ⟨nd, rfl⟩⟩) | (go_at_call 21; (with_reducible refine (foolscaplaw02_bits.calls t103 t109 _ A21.out).mono ?_); rintro e w' ⟨rfl, ⟨nd, rfl⟩⟩) | (go_at_call 16; (with_reducible refine (foolscaplaw02_lives.calls  t110 _ A23.out).mono ?_); rintro e w25 ⟨rfl, hb⟩; have n0_ := Aside0.mk (below_step (by repeat (first | (with_reducible first | exact HB.out | apply below_alloc | apply pw_below_drewN | apply below_drew1) | exact HB.out)) hb); clear HB; have HB := n0_; clear n0_; (try clear hb); (try clear hb2); (try clear hk); (try clear hi)))
                go_ret
                exact ⟨by first | rfl | (simp [errW_none, errW_some] <;> rfl) | (simp [*, errW_none, errW_some] <;> rfl), by repeat (first | (with_reducible first | exact HB.out | apply below_alloc | apply pw_below_drewN | apply below_drew1) | exact HB.out)⟩
              · rw [if_neg c22] at H
                exact absurd H (by simp)
        · rw [if_neg c13] at H
          exact absurd H (by simp)

/-- THE ONE PURE STATEMENT of foolscaplaw02_RealNumbersRise: yours. -/
def foolscaplaw02_RealNumbersRise.Pure : Prop := ∀ (a0 : Int) (a1 : Int), (Lit.int .i64 a0).wf = true → (Lit.int .i64 a1).wf = true → ∃ k, foolscaplaw02_RealNumbersRise.f k a0 a1 = some true
theorem foolscaplaw02_RealNumbersRise.walk (P : foolscaplaw02_RealNumbersRise.Pure) (a0 : Int) (a1 : Int) (w : World) (w0 : (Lit.int .i64 a0).wf = true) (w1 : (Lit.int .i64 a1).wf = true) :
    Calls Try.prog 9 #[.int .i64 a0, .int .i64 a1] w fun e w' => e = .returned (.bool true) ∧ Below w.heap.size w w' := by
  obtain ⟨k, h⟩ := P a0 a1 w0 w1
  refine (foolscaplaw02_RealNumbersRise.calls k a0 a1 true w h).mono ?_
  rintro e w' ⟨rfl, hd⟩
  exact ⟨rfl, hd⟩

end Go.Proofs.Ytfaoilalhneijaa.PRealNumbersRise
