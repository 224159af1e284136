-- By wip/tools/printplus.py of this session, over the kit's print; what is by hand in it is this session's own.
import Derived.Test.YtfaoilalhneijaaPRealBackx0
namespace Go.Proofs.Ytfaoilalhneijaa.PRealBack
open Go.RowKit Go.Proofs.YtfaoilalhneijaaW.PrintWords Go.Proofs.YtfaoilalhneijaaW.PrintLast Go.Proofs.YtfaoilalhneijaaW.PrintMore
attribute [local go_sem] max2_int min2_int max_two min_two max_three min_three max_four min_four   -- for this text's walks alone
set_option linter.unusedVariables false
set_option linter.unusedSimpArgs false

/-! ### foolscaplaw02_lives: function 16 -/
def foolscaplaw02_lives.f  : Option (Bool) := some (true)
theorem foolscaplaw02_lives.calls  (r : Bool) (w : World) (h : foolscaplaw02_lives.f  = some r) :
    Calls Try.prog 16 #[] w fun e w' => e = .returned (.bool r) ∧ Below w.heap.size w w' :=
  Go.Proofs.Ytfaoilalhneijaa.PG.foolscaplaw02_lives.calls 300 r w (Eq.trans (FX.lives_eq 100) h)

/-! ### real_Of: function 17 -/
def real_Of.f (a0 : Nat) : Option (Int × Int) := Go.Proofs.Ytfaoilalhneijaa.FZ.ofC a0
theorem real_Of.calls (a0 : Nat) (r1 : Int) (r2 : Int) (w : World) (h : real_Of.f a0 = some (r1, r2)) :
    Calls Try.prog 17 #[.float .f64 a0] w fun e w' => e = .returned (.tuple #[.int .i64 r1, .int .i64 r2]) ∧ Below w.heap.size w w' :=
  Go.Proofs.Ytfaoilalhneijaa.PG.real_Of.calls 300 a0 r1 r2 w (FZ.of_c h)

/-! ### real_To: function 19 -/
def real_To.f (a0 : Int) : Option (Nat × Int) := some (Go.Proofs.Ytfaoilalhneijaa.FTo.toN a0)
theorem real_To.calls (a0 : Int) (r1 : Nat) (r2 : Int) (w : World) (h : real_To.f a0 = some (r1, r2)) :
    Calls Try.prog 19 #[.int .i64 a0] w fun e w' => e = .returned (.tuple #[.float .f64 r1, .int .i64 r2]) ∧ Below w.heap.size w w' :=
  Go.Proofs.Ytfaoilalhneijaa.PG.real_To.calls 300 a0 r1 r2 w (Eq.trans (FTe.to_eq 200 _) h)

-- NOT PRINTED: function 41 (math_Float64bits)

/-! ### foolscaplaw02_bits: function 21 -/
def foolscaplaw02_bits.f (a0 : Nat) : Option (Int) := some (a0 : Int)
set_option maxHeartbeats 8000000 in
set_option maxRecDepth 100000 in
theorem foolscaplaw02_bits.calls (a0 : Nat) (r : Int) (w : World) (h : foolscaplaw02_bits.f a0 = some r) :
    Calls Try.prog 21 #[.float .f64 a0] w fun e w' => e = .returned (.int .u64 r) ∧ Drawn0 w w' := by
  have hent_fbits := hent_fbits
  have H : (some (a0 : Int)) = some r := h
  clear h
  obtain rfl := Option.some.inj H
  go_enter Try.func21, Try.ntmps21
  go_wp2
  go_ret
  exact ⟨by first | rfl | (simp; done) | (simp [*]; done), by repeat (first | exact Drawn0.refl _ | apply Drawn0.step)⟩

/-! ### foolscaplaw02_RealBack: function 7 -/
def foolscaplaw02_RealBack.j0 : Nat → Int → Int → Int → Bool → Option (Bool)
  | 0, _, _, _, _ => none
  | k + 1, x0, x5, x6, x34 => if x34 = true then (if x5 = x0 then (if x6 = 0 then ((foolscaplaw02_lives.f).bind fun t107 => (some t107)) else (none)) else (none)) else (if x6 = 0 then ((foolscaplaw02_lives.f).bind fun t108 => (some t108)) else (if x6 = 3 then ((foolscaplaw02_lives.f).bind fun t109 => (some t109)) else (none)))
def foolscaplaw02_RealBack.f (k : Nat) (a0 : Int) : Option (Bool) := (real_To.f a0).bind fun bt101 => (if bt101.2 = 0 then ((real_Of.f bt101.1).bind fun bt105 => (if a0 ≥ (-8000000000000000) then (foolscaplaw02_RealBack.j0 k a0 bt105.1 bt105.2 (decide (a0 ≤ 8000000000000000))) else (foolscaplaw02_RealBack.j0 k a0 bt105.1 bt105.2 false))) else ((foolscaplaw02_bits.f bt101.1).bind fun t103 => (if t103 = 0 then (if bt101.2 = 2 then ((foolscaplaw02_lives.f).bind fun t104 => (some t104)) else (none)) else (none))))
theorem foolscaplaw02_RealBack.mono_l : ∀ k, (∀ y0 y1 y2 y3, LeO (foolscaplaw02_RealBack.j0 k y0 y1 y2 y3) (foolscaplaw02_RealBack.j0 (k + 1) y0 y1 y2 y3))
  | 0 => fun _ _ _ _ r h => by simp [foolscaplaw02_RealBack.j0] at h
  | k + 1 => by
    have ih0 := foolscaplaw02_RealBack.mono_l k
    · intro y0 y1 y2 y3
      unfold foolscaplaw02_RealBack.j0
      repeat' first
      | (with_reducible exact ih0 _ _ _ _)
      | (with_reducible exact LeO.refl _)
      | (with_reducible exact LeO.none _)
      | (with_reducible refine LeO.ite ?_ ?_)
      | (with_reducible refine LeO.bind ?_ (fun _ => ?_))
      | exact ih0 _ _ _ _
      | exact LeO.none _
      | refine LeO.ite ?_ ?_
      | refine LeO.bind ?_ (fun _ => ?_)
theorem foolscaplaw02_RealBack.mono : ∀ a0 k, LeO (foolscaplaw02_RealBack.f k a0) (foolscaplaw02_RealBack.f (k + 1) a0) := by
  intro a0 k
  have ih0 := foolscaplaw02_RealBack.mono_l k
  unfold foolscaplaw02_RealBack.f
  repeat' first
      | (with_reducible exact ih0 _ _ _ _)
      | (with_reducible exact LeO.refl _)
      | (with_reducible exact LeO.none _)
      | (with_reducible refine LeO.ite ?_ ?_)
      | (with_reducible refine LeO.bind ?_ (fun _ => ?_))
      | exact ih0 _ _ _ _
      | exact LeO.none _
      | refine LeO.ite ?_ ?_
      | refine LeO.bind ?_ (fun _ => ?_)
set_option maxHeartbeats 8000000 in
set_option maxRecDepth 100000 in
theorem foolscaplaw02_RealBack.calls (k : Nat) (a0 : Int) (r : Bool) (w : World) (h : foolscaplaw02_RealBack.f k a0 = some r) :
    Calls Try.prog 7 #[.int .i64 a0] w fun e w' => e = .returned (.bool r) ∧ Below w.heap.size w w' := by
  have HB := Aside0.mk (Below.refl w.heap.size w)
  have H : ((real_To.f a0).bind fun bt101 => (if bt101.2 = 0 then ((real_Of.f bt101.1).bind fun bt105 => (if a0 ≥ (-8000000000000000) then (foolscaplaw02_RealBack.j0 k a0 bt105.1 bt105.2 (decide (a0 ≤ 8000000000000000))) else (foolscaplaw02_RealBack.j0 k a0 bt105.1 bt105.2 false))) else ((foolscaplaw02_bits.f bt101.1).bind fun t103 => (if t103 = 0 then (if bt101.2 = 2 then ((foolscaplaw02_lives.f).bind fun t104 => (some t104)) else (none)) else (none))))) = some r := h
  clear h
  replace H := Option.bind_eq_some_iff.mp H
  obtain ⟨⟨t101, t102⟩, A20, H⟩ := H
  replace H : (if t102 = 0 then ((real_Of.f t101).bind fun bt105 => (if a0 ≥ (-8000000000000000) then (foolscaplaw02_RealBack.j0 k a0 bt105.1 bt105.2 (decide (a0 ≤ 8000000000000000))) else (foolscaplaw02_RealBack.j0 k a0 bt105.1 bt105.2 false))) else ((foolscaplaw02_bits.f t101).bind fun t103 => (if t103 = 0 then (if t102 = 2 then ((foolscaplaw02_lives.f).bind fun t104 => (some t104)) else (none)) else (none)))) = some r := H
  have A2 := Aside0.mk A20
  clear A20
  by_cases c3 : t102 = 0
  · rw [if_pos c3] at H
    have c3b0 : (t102 == 0) = true := beq_iff_eq.mpr c3
    have c3b1 : (t102 != 0) = false := bne_eq_false_iff_eq.mpr c3
    clear c3
    replace H := Option.bind_eq_some_iff.mp H
    obtain ⟨⟨t105, t106⟩, A40, H⟩ := H
    replace H : (if a0 ≥ (-8000000000000000) then (foolscaplaw02_RealBack.j0 k a0 t105 t106 (decide (a0 ≤ 8000000000000000))) else (foolscaplaw02_RealBack.j0 k a0 t105 t106 false)) = some r := H
    have A4 := Aside0.mk A40
    clear A40
    have HC5 := Aside0.mk H
    clear H
    go_enter Try.func7, Try.ntmps7
    go_upto_region 5 with (first | ((with_reducible refine gate_callee (f := 19) rfl ?_); refine goesL_ (some 9) rfl rfl Try.func19 (by kernel_rfl) rfl #[.int .i64 a0] rfl (by (try simp only [List.map_toArray, List.map_cons, List.map_nil]); first | done | rfl | (simp only [List.length_drop, List.length_take]; rfl)) ?_; (with_reducible refine (real_To.calls a0 t101 t102 _ A2.out).mono ?_); rintro e w6 ⟨rfl, hb⟩; refine ⟨_, rfl, ?_⟩; have n0_ := Aside0.mk (below_step (by repeat (first | (with_reducible first | exact HB.out | apply below_alloc | apply pw_below_drewN | apply below_drew1) | exact HB.out)) hb); clear HB; have HB := n0_; clear n0_; (try clear hb); (try clear hb2); (try clear hk); (try clear hi)) | ((with_reducible refine gate_callee (f := 17) rfl ?_); refine goesL_ (some 26) rfl rfl Try.func17 (by kernel_rfl) rfl #[.float .f64 t101] rfl (by (try simp only [List.map_toArray, List.map_cons, List.map_nil]); first | done | rfl | (simp only [List.length_drop, List.length_take]; rfl)) ?_; (with_reducible refine (real_Of.calls t101 t105 t106 _ A4.out).mono ?_); rintro e w7 ⟨rfl, hb⟩; refine ⟨_, rfl, ?_⟩; have n0_ := Aside0.mk (below_step (by repeat (first | (with_reducible first | exact HB.out | apply below_alloc | apply pw_below_drewN | apply below_drew1) | exact HB.out)) hb); clear HB; have HB := n0_; clear n0_; (try clear hb); (try clear hb2); (try clear hk); (try clear hi)))
    (try simp only [Act.put, List.setIfInBounds_toArray, List.set_cons_zero, List.set_cons_succ])
    go_cut [34] (fun v34 wc => ∃ (kq : Nat) (x34_4 : Bool), v34 = .bool x34_4 ∧ Aside0 (foolscaplaw02_RealBack.j0 kq a0 t105 t106 x34_4 = some r) ∧ Aside0 (kq ≤ k) ∧ Aside0 (Below w.heap.size w wc))
    case first =>
      have H := HC5.out
      clear HC5
      by_cases c8 : a0 ≥ (-8000000000000000)
      · rw [if_pos c8] at H
        have c8b0 : decide ((-8000000000000000) ≤ a0) = true := decide_eq_true c8
        clear c8
        (first | rw [c8b0] | (simp only [i64_w, i32_w]; rw [c8b0]) | skip)
        have H' := Aside0.mk H
        clear H
        go_wp2
        go_meet
        case rel => exact ⟨_, (decide (a0 ≤ 8000000000000000)), (by first | rfl | (simp; done) | (simp [*]; done)), H', ⟨by first | omega | exact Nat.le_refl _⟩, ⟨by repeat (first | (with_reducible first | exact HB.out | apply below_alloc | apply pw_below_drewN | apply below_drew1) | exact HB.out)⟩⟩
      · rw [if_neg c8] at H
        have c8b0 : decide ((-8000000000000000) ≤ a0) = false := decide_eq_false c8
        clear c8
        (first | rw [c8b0] | (simp only [i64_w, i32_w]; rw [c8b0]) | skip)
        have H' := Aside0.mk H
        clear H
        go_wp2
        go_meet
        case rel => exact ⟨_, (false), (by first | rfl | (simp; done) | (simp [*]; done)), H', ⟨by first | omega | exact Nat.le_refl _⟩, ⟨by repeat (first | (with_reducible first | exact HB.out | apply below_alloc | apply pw_below_drewN | apply below_drew1) | exact HB.out)⟩⟩
    case rest =>
      clear HC5
      try clear c1
      try clear p2
      try clear c3
      try clear c3b0
      try clear c3b1
      try clear c7
      try clear c8
      try clear c8b0
      obtain ⟨kq, x34_4, rfl, HA, HJ4, HB⟩ := hcut
      cases kq with
      | zero => exact absurd HA.out (by simp [foolscaplaw02_RealBack.j0])
      | succ kj4 =>
        have H := HA.out
        clear HA
        simp only [foolscaplaw02_RealBack.j0] at H
        by_cases c9 : x34_4 = true
        · subst c9
          have H1 : (if t105 = a0 then (if t106 = 0 then ((foolscaplaw02_lives.f).bind fun t107 => (some t107)) else (none)) else (none)) = some r := by rw [if_pos rfl] at H; exact H
          clear H
          have H := H1
          clear H1
          by_cases c10 : t105 = a0
          · rw [if_pos c10] at H
            have c10b0 : (t105 == a0) = true := beq_iff_eq.mpr c10
            have c10b1 : (t105 != a0) = false := bne_eq_false_iff_eq.mpr c10
            clear c10
            by_cases c11 : t106 = 0
            · rw [if_pos c11] at H
              have c11b0 : (t106 == 0) = true := beq_iff_eq.mpr c11
              have c11b1 : (t106 != 0) = false := bne_eq_false_iff_eq.mpr c11
              clear c11
              replace H := Option.bind_eq_some_iff.mp H
              obtain ⟨t107, A120, H⟩ := H
              replace H : (some t107) = some r := H
              have A12 := Aside0.mk A120
              clear A120
              obtain rfl := Option.some.inj H
              go_wp2_with (first | (go_at_call 16; (with_reducible refine (foolscaplaw02_lives.calls  t107 _ A12.out).mono ?_); rintro e w13 ⟨rfl, hb⟩; have n0_ := Aside0.mk (below_step (by repeat (first | (with_reducible first | exact HB.out | apply below_alloc | apply pw_below_drewN | apply below_drew1) | exact HB.out)) hb); clear HB; have HB := n0_; clear n0_; (try clear hb); (try clear hb2); (try clear hk); (try clear hi)))
              go_ret
              exact ⟨by first | rfl | (simp [errW_none, errW_some] <;> rfl) | (simp [*, errW_none, errW_some] <;> rfl), by repeat (first | (with_reducible first | exact HB.out | apply below_alloc | apply pw_below_drewN | apply below_drew1) | exact HB.out)⟩
            · rw [if_neg c11] at H
              exact absurd H (by simp)
          · rw [if_neg c10] at H
            exact absurd H (by simp)
        · replace c9 := Bool.eq_false_iff.mpr c9
          subst c9
          have H1 : (if t106 = 0 then ((foolscaplaw02_lives.f).bind fun t108 => (some t108)) else (if t106 = 3 then ((foolscaplaw02_lives.f).bind fun t109 => (some t109)) else (none))) = some r := by rw [if_neg (show ¬ (false = true) by decide)] at H; exact H
          clear H
          have H := H1
          clear H1
          by_cases c14 : t106 = 0
          · rw [if_pos c14] at H
            have c14b0 : (t106 == 0) = true := beq_iff_eq.mpr c14
            have c14b1 : (t106 != 0) = false := bne_eq_false_iff_eq.mpr c14
            clear c14
            replace H := Option.bind_eq_some_iff.mp H
            obtain ⟨t108, A150, H⟩ := H
            replace H : (some t108) = some r := H
            have A15 := Aside0.mk A150
            clear A150
            obtain rfl := Option.some.inj H
            go_wp2_with (first | (go_at_call 16; (with_reducible refine (foolscaplaw02_lives.calls  t108 _ A15.out).mono ?_); rintro e w16 ⟨rfl, hb⟩; have n0_ := Aside0.mk (below_step (by repeat (first | (with_reducible first | exact HB.out | apply below_alloc | apply pw_below_drewN | apply below_drew1) | exact HB.out)) hb); clear HB; have HB := n0_; clear n0_; (try clear hb); (try clear hb2); (try clear hk); (try clear hi)))
            go_ret
            exact ⟨by first | rfl | (simp [errW_none, errW_some] <;> rfl) | (simp [*, errW_none, errW_some] <;> rfl), by repeat (first | (with_reducible first | exact HB.out | apply below_alloc | apply pw_below_drewN | apply below_drew1) | exact HB.out)⟩
          · rw [if_neg c14] at H
            have c14b0 : (t106 == 0) = false := beq_eq_false_iff_ne.mpr c14
            have c14b1 : (t106 != 0) = true := bne_iff_ne.mpr c14
            by_cases c17 : t106 = 3
            · rw [if_pos c17] at H
              have c17b0 : (t106 == 3) = true := beq_iff_eq.mpr c17
              have c17b1 : (t106 != 3) = false := bne_eq_false_iff_eq.mpr c17
              clear c17
              replace H := Option.bind_eq_some_iff.mp H
              obtain ⟨t109, A180, H⟩ := H
              replace H : (some t109) = some r := H
              have A18 := Aside0.mk A180
              clear A180
              obtain rfl := Option.some.inj H
              go_wp2_with (first | (go_at_call 16; (with_reducible refine (foolscaplaw02_lives.calls  t109 _ A18.out).mono ?_); rintro e w19 ⟨rfl, hb⟩; have n0_ := Aside0.mk (below_step (by repeat (first | (with_reducible first | exact HB.out | apply below_alloc | apply pw_below_drewN | apply below_drew1) | exact HB.out)) hb); clear HB; have HB := n0_; clear n0_; (try clear hb); (try clear hb2); (try clear hk); (try clear hi)))
              go_ret
              exact ⟨by first | rfl | (simp [errW_none, errW_some] <;> rfl) | (simp [*, errW_none, errW_some] <;> rfl), by repeat (first | (with_reducible first | exact HB.out | apply below_alloc | apply pw_below_drewN | apply below_drew1) | exact HB.out)⟩
            · rw [if_neg c17] at H
              exact absurd H (by simp)
  · rw [if_neg c3] at H
    have c3b0 : (t102 == 0) = false := beq_eq_false_iff_ne.mpr c3
    have c3b1 : (t102 != 0) = true := bne_iff_ne.mpr c3
    replace H := Option.bind_eq_some_iff.mp H
    obtain ⟨t103, A200, H⟩ := H
    replace H : (if t103 = 0 then (if t102 = 2 then ((foolscaplaw02_lives.f).bind fun t104 => (some t104)) else (none)) else (none)) = some r := H
    have A20 := Aside0.mk A200
    clear A200
    by_cases c21 : t103 = 0
    · rw [if_pos c21] at H
      have c21b0 : (t103 == 0) = true := beq_iff_eq.mpr c21
      have c21b1 : (t103 != 0) = false := bne_eq_false_iff_eq.mpr c21
      clear c21
      by_cases c22 : t102 = 2
      · rw [if_pos c22] at H
        have c22b0 : (t102 == 2) = true := beq_iff_eq.mpr c22
        have c22b1 : (t102 != 2) = false := bne_eq_false_iff_eq.mpr c22
        clear c22
        replace H := Option.bind_eq_some_iff.mp H
        obtain ⟨t104, A230, H⟩ := H
        replace H : (some t104) = some r := H
        have A23 := Aside0.mk A230
        clear A230
        obtain rfl := Option.some.inj H
        go_enter Try.func7, Try.ntmps7
        go_wp2_with (first | ((with_reducible refine gate_callee (f := 19) rfl ?_); refine goesL_ (some 9) rfl rfl Try.func19 (by kernel_rfl) rfl #[.int .i64 a0] rfl (by (try simp only [List.map_toArray, List.map_cons, List.map_nil]); first | done | rfl | (simp only [List.length_drop, List.length_take]; rfl)) ?_; (with_reducible refine (real_To.calls a0 t101 t102 _ A2.out).mono ?_); rintro e w24 ⟨rfl, hb⟩; refine ⟨_, rfl, ?_⟩; have n0_ := Aside0.mk (below_step (by repeat (first | (with_reducible first | exact HB.out | apply below_alloc | apply pw_below_drewN | apply below_drew1) | exact HB.out)) hb); clear HB; have HB := n0_; clear n0_; (try clear hb); (try clear hb2); (try clear hk); (try clear hi)) | ((with_reducible refine gate_callee (f := 21) rfl ?_); refine goesL_ (some 15) rfl rfl Try.func21 (by kernel_rfl) rfl #[.float .f64 t101] rfl (by (try simp only [List.map_toArray, List.map_cons, List.map_nil]); first | done | rfl | (simp only [List.length_drop, List.length_take]; rfl)) ?_; (with_reducible refine (foolscaplaw02_bits.calls t101 t103 _ A20.out).mono ?_); rintro e w' ⟨rfl, ⟨nd, rfl⟩⟩; refine ⟨_, rfl, ?_⟩) | (go_at_call 16; (with_reducible refine (foolscaplaw02_lives.calls  t104 _ A23.out).mono ?_); rintro e w25 ⟨rfl, hb⟩; have n0_ := Aside0.mk (below_step (by repeat (first | (with_reducible first | exact HB.out | apply below_alloc | apply pw_below_drewN | apply below_drew1) | exact HB.out)) hb); clear HB; have HB := n0_; clear n0_; (try clear hb); (try clear hb2); (try clear hk); (try clear hi)))
        go_ret
        exact ⟨by first | rfl | (simp [errW_none, errW_some] <;> rfl) | (simp [*, errW_none, errW_some] <;> rfl), by repeat (first | (with_reducible first | exact HB.out | apply below_alloc | apply pw_below_drewN | apply below_drew1) | exact HB.out)⟩
      · rw [if_neg c22] at H
        exact absurd H (by simp)
    · rw [if_neg c21] at H
      exact absurd H (by simp)

/-- THE ONE PURE STATEMENT of foolscaplaw02_RealBack: yours. -/
def foolscaplaw02_RealBack.Pure : Prop := ∀ (a0 : Int), (Lit.int .i64 a0).wf = true → ∃ k, foolscaplaw02_RealBack.f k a0 = some true
theorem foolscaplaw02_RealBack.walk (P : foolscaplaw02_RealBack.Pure) (a0 : Int) (w : World) (w0 : (Lit.int .i64 a0).wf = true) :
    Calls Try.prog 7 #[.int .i64 a0] w fun e w' => e = .returned (.bool true) ∧ Below w.heap.size w w' := by
  obtain ⟨k, h⟩ := P a0 w0
  refine (foolscaplaw02_RealBack.calls k a0 true w h).mono ?_
  rintro e w' ⟨rfl, hd⟩
  exact ⟨rfl, hd⟩

end Go.Proofs.Ytfaoilalhneijaa.PRealBack
