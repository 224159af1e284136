-- By wip/tools/printplus.py of this session, over the kit's print; what is by hand in it is this session's own.
import Derived.Test.YtfaoilalhneijaaPRealNextx0
namespace Go.Proofs.Ytfaoilalhneijaa.PRealNext
open Go.RowKit Go.Proofs.YtfaoilalhneijaaW.PrintWords Go.Proofs.YtfaoilalhneijaaW.PrintLast Go.Proofs.YtfaoilalhneijaaW.PrintMore
attribute [local go_sem] max2_int min2_int max_two min_two max_three min_three max_four min_four   -- for this text's walks alone
set_option linter.unusedVariables false
set_option linter.unusedSimpArgs false

-- NOT PRINTED: function 27 (math_Float64frombits)

/-! ### foolscaplaw02_of: function 14 -/
def foolscaplaw02_of.f (a0 : Int) : Option (Nat) := some a0.toNat
set_option maxHeartbeats 8000000 in
set_option maxRecDepth 100000 in
theorem foolscaplaw02_of.calls (a0 : Int) (r : Nat) (w : World) (h : foolscaplaw02_of.f a0 = some r) :
    Calls Try.prog 14 #[.int .u64 a0] w fun e w' => e = .returned (.float .f64 r) ∧ Drawn0 w w' := by
  have hent_ffrom := hent_ffrom
  have H : (some a0.toNat) = some r := h
  clear h
  obtain rfl := Option.some.inj H
  go_enter Try.func14, Try.ntmps14
  go_wp2
  go_ret
  exact ⟨by first | rfl | (simp; done) | (simp [*]; done), by repeat (first | exact Drawn0.refl _ | apply Drawn0.step)⟩

/-! ### foolscaplaw02_lives: function 16 -/
def foolscaplaw02_lives.f  : Option (Bool) := some (true)
theorem foolscaplaw02_lives.calls  (r : Bool) (w : World) (h : foolscaplaw02_lives.f  = some r) :
    Calls Try.prog 16 #[] w fun e w' => e = .returned (.bool r) ∧ Below w.heap.size w w' :=
  Go.Proofs.Ytfaoilalhneijaa.PG.foolscaplaw02_lives.calls 300 r w (Eq.trans (FX.lives_eq 100) h)

/-! ### real_Next: function 22 -/
def real_Next.f (a0 : Nat) : Option (Nat × Int) := Go.Proofs.Ytfaoilalhneijaa.FZ.nextC a0
theorem real_Next.calls (a0 : Nat) (r1 : Nat) (r2 : Int) (w : World) (h : real_Next.f a0 = some (r1, r2)) :
    Calls Try.prog 22 #[.float .f64 a0] w fun e w' => e = .returned (.tuple #[.float .f64 r1, .int .i64 r2]) ∧ Drawn0 w w' :=
  Go.Proofs.Ytfaoilalhneijaa.PG.real_Next.calls 300 a0 r1 r2 w (FZ.next_c h)

/-! ### real_Less: function 24 -/
def real_Less.f (a0 : Nat) (a1 : Nat) : Option (Bool) := Go.Proofs.Ytfaoilalhneijaa.FZ.lessC a0 a1
theorem real_Less.calls (a0 : Nat) (a1 : Nat) (r : Bool) (w : World) (h : real_Less.f a0 a1 = some r) :
    Calls Try.prog 24 #[.float .f64 a0, .float .f64 a1] w fun e w' => e = .returned (.bool r) ∧ Below w.heap.size w w' :=
  Go.Proofs.Ytfaoilalhneijaa.PG.real_Less.calls a0 a1 r w (FZ.less_c h)

/-! ### foolscaplaw02_RealNext: function 11 -/
def foolscaplaw02_RealNext.j0 : Nat → Int → Int → Nat → Bool → Option (Bool)
  | 0, _, _, _, _ => none
  | k + 1, x0, x1, x5, x28 => if x28 = true then (none) else ((foolscaplaw02_of.f x1).bind fun t108 => ((foolscaplaw02_of.f x0).bind fun t109 => (if fgt t108 t109 = true then ((foolscaplaw02_of.f x1).bind fun t110 => (if flt t110 x5 = true then (none) else ((foolscaplaw02_lives.f).bind fun t111 => (some t111)))) else ((foolscaplaw02_lives.f).bind fun t112 => (some t112)))))
def foolscaplaw02_RealNext.f (k : Nat) (a0 : Int) (a1 : Int) : Option (Bool) := (foolscaplaw02_of.f a0).bind fun t101 => ((real_Next.f t101).bind fun bt102 => (if bt102.2 = 0 then ((foolscaplaw02_of.f a0).bind fun t105 => (if fgt bt102.1 t105 = true then ((foolscaplaw02_of.f a0).bind fun t106 => ((real_Less.f t106 bt102.1).bind fun t107 => (foolscaplaw02_RealNext.j0 k a0 a1 bt102.1 (!t107)))) else (foolscaplaw02_RealNext.j0 k a0 a1 bt102.1 true))) else ((foolscaplaw02_lives.f).bind fun t104 => (some t104))))
theorem foolscaplaw02_RealNext.mono_l : ∀ k, (∀ y0 y1 y2 y3, LeO (foolscaplaw02_RealNext.j0 k y0 y1 y2 y3) (foolscaplaw02_RealNext.j0 (k + 1) y0 y1 y2 y3))
  | 0 => fun _ _ _ _ r h => by simp [foolscaplaw02_RealNext.j0] at h
  | k + 1 => by
    have ih0 := foolscaplaw02_RealNext.mono_l k
    · intro y0 y1 y2 y3
      unfold foolscaplaw02_RealNext.j0
      repeat' first
      | (with_reducible exact ih0 _ _ _ _)
      | (with_reducible exact LeO.refl _)
      | (with_reducible exact LeO.none _)
      | (with_reducible refine LeO.ite ?_ ?_)
      | (with_reducible refine LeO.bind ?_ (fun _ => ?_))
      | exact ih0 _ _ _ _
      | exact LeO.none _
      | refine LeO.ite ?_ ?_
      | refine LeO.bind ?_ (fun _ => ?_)
theorem foolscaplaw02_RealNext.mono : ∀ a0 a1 k, LeO (foolscaplaw02_RealNext.f k a0 a1) (foolscaplaw02_RealNext.f (k + 1) a0 a1) := by
  intro a0 a1 k
  have ih0 := foolscaplaw02_RealNext.mono_l k
  unfold foolscaplaw02_RealNext.f
  repeat' first
      | (with_reducible exact ih0 _ _ _ _)
      | (with_reducible exact LeO.refl _)
      | (with_reducible exact LeO.none _)
      | (with_reducible refine LeO.ite ?_ ?_)
      | (with_reducible refine LeO.bind ?_ (fun _ => ?_))
      | exact ih0 _ _ _ _
      | exact LeO.none _
      | refine LeO.ite ?_ ?_
      | refine LeO.bind ?_ (fun _ => ?_)
set_option maxHeartbeats 8000000 in
set_option maxRecDepth 100000 in
theorem foolscaplaw02_RealNext.calls (k : Nat) (a0 : Int) (a1 : Int) (r : Bool) (w : World) (h : foolscaplaw02_RealNext.f k a0 a1 = some r) :
    Calls Try.prog 11 #[.int .u64 a0, .int .u64 a1] w fun e w' => e = .returned (.bool r) ∧ Below w.heap.size w w' := by
  have HB := Aside0.mk (Below.refl w.heap.size w)
  have H : ((foolscaplaw02_of.f a0).bind fun t101 => ((real_Next.f t101).bind fun bt102 => (if bt102.2 = 0 then ((foolscaplaw02_of.f a0).bind fun t105 => (if fgt bt102.1 t105 = true then ((foolscaplaw02_of.f a0).bind fun t106 => ((real_Less.f t106 bt102.1).bind fun t107 => (foolscaplaw02_RealNext.j0 k a0 a1 bt102.1 (!t107)))) else (foolscaplaw02_RealNext.j0 k a0 a1 bt102.1 true))) else ((foolscaplaw02_lives.f).bind fun t104 => (some t104))))) = some r := h
  clear h
  replace H := Option.bind_eq_some_iff.mp H
  obtain ⟨t101, A30, H⟩ := H
  replace H : ((real_Next.f t101).bind fun bt102 => (if bt102.2 = 0 then ((foolscaplaw02_of.f a0).bind fun t105 => (if fgt bt102.1 t105 = true then ((foolscaplaw02_of.f a0).bind fun t106 => ((real_Less.f t106 bt102.1).bind fun t107 => (foolscaplaw02_RealNext.j0 k a0 a1 bt102.1 (!t107)))) else (foolscaplaw02_RealNext.j0 k a0 a1 bt102.1 true))) else ((foolscaplaw02_lives.f).bind fun t104 => (some t104)))) = some r := H
  have A3 := Aside0.mk A30
  clear A30
  replace H := Option.bind_eq_some_iff.mp H
  obtain ⟨⟨t102, t103⟩, A40, H⟩ := H
  replace H : (if t103 = 0 then ((foolscaplaw02_of.f a0).bind fun t105 => (if fgt t102 t105 = true then ((foolscaplaw02_of.f a0).bind fun t106 => ((real_Less.f t106 t102).bind fun t107 => (foolscaplaw02_RealNext.j0 k a0 a1 t102 (!t107)))) else (foolscaplaw02_RealNext.j0 k a0 a1 t102 true))) else ((foolscaplaw02_lives.f).bind fun t104 => (some t104))) = some r := H
  have A4 := Aside0.mk A40
  clear A40
  by_cases c5 : t103 = 0
  · rw [if_pos c5] at H
    have c5b0 : (t103 == 0) = true := beq_iff_eq.mpr c5
    have c5b1 : (t103 != 0) = false := bne_eq_false_iff_eq.mpr c5
    clear c5
    have HC6 := Aside0.mk H
    clear H
    go_enter Try.func11, Try.ntmps11
    go_upto_region 4 with (first | ((with_reducible refine gate_callee (f := 14) rfl ?_); refine goesL_ (some 10) rfl rfl Try.func14 (by kernel_rfl) rfl #[.int .u64 a0] rfl (by (try simp only [List.map_toArray, List.map_cons, List.map_nil]); first | done | rfl | (simp only [List.length_drop, List.length_take]; rfl)) ?_; (with_reducible refine (foolscaplaw02_of.calls a0 t101 _ A3.out).mono ?_); rintro e w' ⟨rfl, ⟨nd, rfl⟩⟩; refine ⟨_, rfl, ?_⟩) | ((with_reducible refine gate_callee (f := 22) rfl ?_); refine goesL_ (some 11) rfl rfl Try.func22 (by kernel_rfl) rfl #[.float .f64 t101] rfl (by (try simp only [List.map_toArray, List.map_cons, List.map_nil]); first | done | rfl | (simp only [List.length_drop, List.length_take]; rfl)) ?_; (with_reducible refine (real_Next.calls t101 t102 t103 _ A4.out).mono ?_); rintro e w' ⟨rfl, ⟨nd, rfl⟩⟩; refine ⟨_, rfl, ?_⟩))
    (try simp only [Act.put, List.setIfInBounds_toArray, List.set_cons_zero, List.set_cons_succ])
    go_cut [28] (fun v28 wc => ∃ (kq : Nat) (x28_5 : Bool), v28 = .bool x28_5 ∧ Aside0 (foolscaplaw02_RealNext.j0 kq a0 a1 t102 x28_5 = some r) ∧ Aside0 (kq ≤ k) ∧ Aside0 (Below w.heap.size w wc))
    case first =>
      have H := HC6.out
      clear HC6
      replace H := Option.bind_eq_some_iff.mp H
      obtain ⟨t105, A70, H⟩ := H
      replace H : (if fgt t102 t105 = true then ((foolscaplaw02_of.f a0).bind fun t106 => ((real_Less.f t106 t102).bind fun t107 => (foolscaplaw02_RealNext.j0 k a0 a1 t102 (!t107)))) else (foolscaplaw02_RealNext.j0 k a0 a1 t102 true)) = some r := H
      have A7 := Aside0.mk A70
      clear A70
      by_cases c8 : fgt t102 t105 = true
      · rw [if_pos c8] at H
        have c8b0 : fgt t102 t105 = true := c8
        clear c8
        (first | rw [c8b0] | (simp only [i64_w, i32_w]; rw [c8b0]) | skip)
        replace H := Option.bind_eq_some_iff.mp H
        obtain ⟨t106, A90, H⟩ := H
        replace H : ((real_Less.f t106 t102).bind fun t107 => (foolscaplaw02_RealNext.j0 k a0 a1 t102 (!t107))) = some r := H
        have A9 := Aside0.mk A90
        clear A90
        replace H := Option.bind_eq_some_iff.mp H
        obtain ⟨t107, A100, H⟩ := H
        replace H : (foolscaplaw02_RealNext.j0 k a0 a1 t102 (!t107)) = some r := H
        have A10 := Aside0.mk A100
        clear A100
        have H' := Aside0.mk H
        clear H
        go_wp2_with (first | ((with_reducible refine gate_callee (f := 14) rfl ?_); refine goesL_ (some 19) rfl rfl Try.func14 (by kernel_rfl) rfl #[.int .u64 a0] rfl (by (try simp only [List.map_toArray, List.map_cons, List.map_nil]); first | done | rfl | (simp only [List.length_drop, List.length_take]; rfl)) ?_; (with_reducible refine (foolscaplaw02_of.calls a0 t105 _ A7.out).mono ?_); rintro e w' ⟨rfl, ⟨nd, rfl⟩⟩; refine ⟨_, rfl, ?_⟩) | (go_at_call 14; (with_reducible refine (foolscaplaw02_of.calls a0 t106 _ A9.out).mono ?_); rintro e w' ⟨rfl, ⟨nd, rfl⟩⟩) | (go_at_call 24; (with_reducible refine (real_Less.calls t106 t102 t107 _ A10.out).mono ?_); rintro e w11 ⟨rfl, hb⟩; have n0_ := Aside0.mk (below_step (by repeat (first | (with_reducible first | exact HB.out | apply below_alloc | apply pw_below_drewN | apply below_drew1) | exact HB.out)) hb); clear HB; have HB := n0_; clear n0_; (try clear hb); (try clear hb2); (try clear hk); (try clear hi)))
        go_meet
        case rel => exact ⟨_, (!t107), (by first | rfl | (simp; done) | (simp [*]; done)), H', ⟨by first | omega | exact Nat.le_refl _⟩, ⟨by repeat (first | (with_reducible first | exact HB.out | apply below_alloc | apply pw_below_drewN | apply below_drew1) | exact HB.out)⟩⟩
      · rw [if_neg c8] at H
        have c8b0 : fgt t102 t105 = false := by simpa using c8
        clear c8
        (first | rw [c8b0] | (simp only [i64_w, i32_w]; rw [c8b0]) | skip)
        have H' := Aside0.mk H
        clear H
        go_wp2_with (first | ((with_reducible refine gate_callee (f := 14) rfl ?_); refine goesL_ (some 19) rfl rfl Try.func14 (by kernel_rfl) rfl #[.int .u64 a0] rfl (by (try simp only [List.map_toArray, List.map_cons, List.map_nil]); first | done | rfl | (simp only [List.length_drop, List.length_take]; rfl)) ?_; (with_reducible refine (foolscaplaw02_of.calls a0 t105 _ A7.out).mono ?_); rintro e w' ⟨rfl, ⟨nd, rfl⟩⟩; refine ⟨_, rfl, ?_⟩))
        go_meet
        case rel => exact ⟨_, (true), (by first | rfl | (simp; done) | (simp [*]; done)), H', ⟨by first | omega | exact Nat.le_refl _⟩, ⟨by repeat (first | (with_reducible first | exact HB.out | apply below_alloc | apply pw_below_drewN | apply below_drew1) | exact HB.out)⟩⟩
    case rest =>
      clear HC6
      try clear c1
      try clear c2
      try clear p2
      try clear c5
      try clear c5b0
      try clear c5b1
      try clear c8
      try clear c8b0
      try clear c11
      obtain ⟨kq, x28_5, rfl, HA, HJ5, HB⟩ := hcut
      cases kq with
      | zero => exact absurd HA.out (by simp [foolscaplaw02_RealNext.j0])
      | succ kj5 =>
        have H := HA.out
        clear HA
        simp only [foolscaplaw02_RealNext.j0] at H
        by_cases c12 : x28_5 = true
        · subst c12
          have H1 : (none) = some r := by rw [if_pos rfl] at H; exact H
          clear H
          have H := H1
          clear H1
          exact absurd H (by simp)
        · replace c12 := Bool.eq_false_iff.mpr c12
          subst c12
          have H1 : ((foolscaplaw02_of.f a1).bind fun t108 => ((foolscaplaw02_of.f a0).bind fun t109 => (if fgt t108 t109 = true then ((foolscaplaw02_of.f a1).bind fun t110 => (if flt t110 t102 = true then (none) else ((foolscaplaw02_lives.f).bind fun t111 => (some t111)))) else ((foolscaplaw02_lives.f).bind fun t112 => (some t112))))) = some r := by rw [if_neg (show ¬ (false = true) by decide)] at H; exact H
          clear H
          have H := H1
          clear H1
          replace H := Option.bind_eq_some_iff.mp H
          obtain ⟨t108, A130, H⟩ := H
          replace H : ((foolscaplaw02_of.f a0).bind fun t109 => (if fgt t108 t109 = true then ((foolscaplaw02_of.f a1).bind fun t110 => (if flt t110 t102 = true then (none) else ((foolscaplaw02_lives.f).bind fun t111 => (some t111)))) else ((foolscaplaw02_lives.f).bind fun t112 => (some t112)))) = some r := H
          have A13 := Aside0.mk A130
          clear A130
          replace H := Option.bind_eq_some_iff.mp H
          obtain ⟨t109, A140, H⟩ := H
          replace H : (if fgt t108 t109 = true then ((foolscaplaw02_of.f a1).bind fun t110 => (if flt t110 t102 = true then (none) else ((foolscaplaw02_lives.f).bind fun t111 => (some t111)))) else ((foolscaplaw02_lives.f).bind fun t112 => (some t112))) = some r := H
          have A14 := Aside0.mk A140
          clear A140
          by_cases c15 : fgt t108 t109 = true
          · rw [if_pos c15] at H
            have c15b0 : fgt t108 t109 = true := c15
            clear c15
            replace H := Option.bind_eq_some_iff.mp H
            obtain ⟨t110, A160, H⟩ := H
            replace H : (if flt t110 t102 = true then (none) else ((foolscaplaw02_lives.f).bind fun t111 => (some t111))) = some r := H
            have A16 := Aside0.mk A160
            clear A160
            by_cases c17 : flt t110 t102 = true
            · rw [if_pos c17] at H
              exact absurd H (by simp)
            · rw [if_neg c17] at H
              have c17b0 : flt t110 t102 = false := by simpa using c17
              clear c17
              replace H := Option.bind_eq_some_iff.mp H
              obtain ⟨t111, A180, H⟩ := H
              replace H : (some t111) = some r := H
              have A18 := Aside0.mk A180
              clear A180
              obtain rfl := Option.some.inj H
              go_wp2_with (first | ((with_reducible refine gate_callee (f := 14) rfl ?_); refine goesL_ (some 30) rfl rfl Try.func14 (by kernel_rfl) rfl #[.int .u64 a1] rfl (by (try simp only [List.map_toArray, List.map_cons, List.map_nil]); first | done | rfl | (simp only [List.length_drop, List.length_take]; rfl)) ?_; (with_reducible refine (foolscaplaw02_of.calls a1 t108 _ A13.out).mono ?_); rintro e w' ⟨rfl, ⟨nd, rfl⟩⟩; refine ⟨_, rfl, ?_⟩) | ((with_reducible refine gate_callee (f := 14) rfl ?_); refine goesL_ (some 32) rfl rfl Try.func14 (by kernel_rfl) rfl #[.int .u64 a0] rfl (by (try simp only [List.map_toArray, List.map_cons, List.map_nil]); first | done | rfl | (simp only [List.length_drop, List.length_take]; rfl)) ?_; (with_reducible refine (foolscaplaw02_of.calls a0 t109 _ A14.out).mono ?_); rintro e w' ⟨rfl, ⟨nd, rfl⟩⟩; refine ⟨_, rfl, ?_⟩) | (go_at_call 14; (with_reducible refine (foolscaplaw02_of.calls a1 t110 _ A16.out).mono ?_); rintro e w' ⟨rfl, ⟨nd, rfl⟩⟩) | (go_at_call 16; (with_reducible refine (foolscaplaw02_lives.calls  t111 _ A18.out).mono ?_); rintro e w19 ⟨rfl, hb⟩; have n0_ := Aside0.mk (below_step (by repeat (first | (with_reducible first | exact HB.out | apply below_alloc | apply pw_below_drewN | apply below_drew1) | exact HB.out)) hb); clear HB; have HB := n0_; clear n0_; (try clear hb); (try clear hb2); (try clear hk); (try clear hi)))
              go_ret
              exact ⟨by first | rfl | (simp [errW_none, errW_some] <;> rfl) | (simp [*, errW_none, errW_some] <;> rfl), by repeat (first | (with_reducible first | exact HB.out | apply below_alloc | apply pw_below_drewN | apply below_drew1) | exact HB.out)⟩
          · rw [if_neg c15] at H
            have c15b0 : fgt t108 t109 = false := by simpa using c15
            clear c15
            replace H := Option.bind_eq_some_iff.mp H
            obtain ⟨t112, A200, H⟩ := H
            replace H : (some t112) = some r := H
            have A20 := Aside0.mk A200
            clear A200
            obtain rfl := Option.some.inj H
            go_wp2_with (first | ((with_reducible refine gate_callee (f := 14) rfl ?_); refine goesL_ (some 30) rfl rfl Try.func14 (by kernel_rfl) rfl #[.int .u64 a1] rfl (by (try simp only [List.map_toArray, List.map_cons, List.map_nil]); first | done | rfl | (simp only [List.length_drop, List.length_take]; rfl)) ?_; (with_reducible refine (foolscaplaw02_of.calls a1 t108 _ A13.out).mono ?_); rintro e w' ⟨rfl, ⟨nd, rfl⟩⟩; refine ⟨_, rfl, ?_⟩) | ((with_reducible refine gate_callee (f := 14) rfl ?_); refine goesL_ (some 32) rfl rfl Try.func14 (by kernel_rfl) rfl #[.int .u64 a0] rfl (by (try simp only [List.map_toArray, List.map_cons, List.map_nil]); first | done | rfl | (simp only [List.length_drop, List.length_take]; rfl)) ?_; (with_reducible refine (foolscaplaw02_of.calls a0 t109 _ A14.out).mono ?_); rintro e w' ⟨rfl, ⟨nd, rfl⟩⟩; refine ⟨_, rfl, ?_⟩) | (go_at_call 16; (with_reducible refine (foolscaplaw02_lives.calls  t112 _ A20.out).mono ?_); rintro e w21 ⟨rfl, hb⟩; have n0_ := Aside0.mk (below_step (by repeat (first | (with_reducible first | exact HB.out | apply below_alloc | apply pw_below_drewN | apply below_drew1) | exact HB.out)) hb); clear HB; have HB := n0_; clear n0_; (try clear hb); (try clear hb2); (try clear hk); (try clear hi)))
            go_ret
            exact ⟨by first | rfl | (simp [errW_none, errW_some] <;> rfl) | (simp [*, errW_none, errW_some] <;> rfl), by repeat (first | (with_reducible first | exact HB.out | apply below_alloc | apply pw_below_drewN | apply below_drew1) | exact HB.out)⟩
  · rw [if_neg c5] at H
    have c5b0 : (t103 == 0) = false := beq_eq_false_iff_ne.mpr c5
    have c5b1 : (t103 != 0) = true := bne_iff_ne.mpr c5
    replace H := Option.bind_eq_some_iff.mp H
    obtain ⟨t104, A220, H⟩ := H
    replace H : (some t104) = some r := H
    have A22 := Aside0.mk A220
    clear A220
    obtain rfl := Option.some.inj H
    go_enter Try.func11, Try.ntmps11
    go_wp2_with (first | ((with_reducible refine gate_callee (f := 14) rfl ?_); refine goesL_ (some 10) rfl rfl Try.func14 (by kernel_rfl) rfl #[.int .u64 a0] rfl (by (try simp only [List.map_toArray, List.map_cons, List.map_nil]); first | done | rfl | (simp only [List.length_drop, List.length_take]; rfl)) ?_; (with_reducible refine (foolscaplaw02_of.calls a0 t101 _ A3.out).mono ?_); rintro e w' ⟨rfl, ⟨nd, rfl⟩⟩; refine ⟨_, rfl, ?_⟩) | ((with_reducible refine gate_callee (f := 22) rfl ?_); refine goesL_ (some 11) rfl rfl Try.func22 (by kernel_rfl) rfl #[.float .f64 t101] rfl (by (try simp only [List.map_toArray, List.map_cons, List.map_nil]); first | done | rfl | (simp only [List.length_drop, List.length_take]; rfl)) ?_; (with_reducible refine (real_Next.calls t101 t102 t103 _ A4.out).mono ?_); rintro e w' ⟨rfl, ⟨nd, rfl⟩⟩; refine ⟨_, rfl, ?_⟩) | ((with_reducible refine gate_callee (f := 16) rfl ?_); refine goesL_ (some 16) rfl rfl Try.func16 (by kernel_rfl) rfl #[] rfl (by (try simp only [List.map_toArray, List.map_cons, List.map_nil]); first | done | rfl | (simp only [List.length_drop, List.length_take]; rfl)) ?_; (with_reducible refine (foolscaplaw02_lives.calls  t104 _ A22.out).mono ?_); rintro e w23 ⟨rfl, hb⟩; refine ⟨_, rfl, ?_⟩; have n0_ := Aside0.mk (below_step (by repeat (first | (with_reducible first | exact HB.out | apply below_alloc | apply pw_below_drewN | apply below_drew1) | exact HB.out)) hb); clear HB; have HB := n0_; clear n0_; (try clear hb); (try clear hb2); (try clear hk); (try clear hi)))
    go_ret
    exact ⟨by first | rfl | (simp [errW_none, errW_some] <;> rfl) | (simp [*, errW_none, errW_some] <;> rfl), by repeat (first | (with_reducible first | exact HB.out | apply below_alloc | apply pw_below_drewN | apply below_drew1) | exact HB.out)⟩

/-- THE ONE PURE STATEMENT of foolscaplaw02_RealNext: yours. -/
def foolscaplaw02_RealNext.Pure : Prop := ∀ (a0 : Int) (a1 : Int), (Lit.int .u64 a0).wf = true → (Lit.int .u64 a1).wf = true → ∃ k, foolscaplaw02_RealNext.f k a0 a1 = some true
theorem foolscaplaw02_RealNext.walk (P : foolscaplaw02_RealNext.Pure) (a0 : Int) (a1 : Int) (w : World) (w0 : (Lit.int .u64 a0).wf = true) (w1 : (Lit.int .u64 a1).wf = true) :
    Calls Try.prog 11 #[.int .u64 a0, .int .u64 a1] w fun e w' => e = .returned (.bool true) ∧ Below w.heap.size w w' := by
  obtain ⟨k, h⟩ := P a0 a1 w0 w1
  refine (foolscaplaw02_RealNext.calls k a0 a1 true w h).mono ?_
  rintro e w' ⟨rfl, hd⟩
  exact ⟨rfl, hd⟩

end Go.Proofs.Ytfaoilalhneijaa.PRealNext
