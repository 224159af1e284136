-- By wip/tools/printplus.py of this session, over the kit's print; what is by hand in it is this session's own.
import Derived.Test.YtfaoilalhneijaaPRealRowsx0
namespace Go.Proofs.Ytfaoilalhneijaa.PRealRows
open Go.RowKit Go.Proofs.YtfaoilalhneijaaW.PrintWords Go.Proofs.YtfaoilalhneijaaW.PrintLast Go.Proofs.YtfaoilalhneijaaW.PrintMore
attribute [local go_sem] max2_int min2_int max_two min_two max_three min_three max_four min_four   -- for this text's walks alone
set_option linter.unusedVariables false
set_option linter.unusedSimpArgs false

-- NOT PRINTED: function 27 (math_Float64frombits)

/-! ### foolscaplaw02_of: function 14 -/
def foolscaplaw02_of.f (a0 : Int) : Option (Nat) := some a0.toNat
set_option maxHeartbeats 8000000 in
set_option maxRecDepth 100000 in
theorem foolscaplaw02_of.calls (a0 : Int) (r : Nat) (w : World) (h : foolscaplaw02_of.f a0 = some r) :
    Calls Try.prog 14 #[.int .u64 a0] w fun e w' => e = .returned (.float .f64 r) ∧ Drawn0 w w' := by
  have hent_ffrom := hent_ffrom
  have H : (some a0.toNat) = some r := h
  clear h
  obtain rfl := Option.some.inj H
  go_enter Try.func14, Try.ntmps14
  go_wp2
  go_ret
  exact ⟨by first | rfl | (simp; done) | (simp [*]; done), by repeat (first | exact Drawn0.refl _ | apply Drawn0.step)⟩

/-! ### foolscaplaw02_lives: function 16 -/
def foolscaplaw02_lives.f  : Option (Bool) := some (true)
theorem foolscaplaw02_lives.calls  (r : Bool) (w : World) (h : foolscaplaw02_lives.f  = some r) :
    Calls Try.prog 16 #[] w fun e w' => e = .returned (.bool r) ∧ Below w.heap.size w w' :=
  Go.Proofs.Ytfaoilalhneijaa.PG.foolscaplaw02_lives.calls 300 r w (Eq.trans (FX.lives_eq 100) h)

-- NOT PRINTED: function 41 (math_Float64bits)

/-! ### foolscaplaw02_bits: function 21 -/
def foolscaplaw02_bits.f (a0 : Nat) : Option (Int) := some (a0 : Int)
set_option maxHeartbeats 8000000 in
set_option maxRecDepth 100000 in
theorem foolscaplaw02_bits.calls (a0 : Nat) (r : Int) (w : World) (h : foolscaplaw02_bits.f a0 = some r) :
    Calls Try.prog 21 #[.float .f64 a0] w fun e w' => e = .returned (.int .u64 r) ∧ Drawn0 w w' := by
  have hent_fbits := hent_fbits
  have H : (some (a0 : Int)) = some r := h
  clear h
  obtain rfl := Option.some.inj H
  go_enter Try.func21, Try.ntmps21
  go_wp2
  go_ret
  exact ⟨by first | rfl | (simp; done) | (simp [*]; done), by repeat (first | exact Drawn0.refl _ | apply Drawn0.step)⟩

/-! ### real_Next: function 22 -/
def real_Next.f (a0 : Nat) : Option (Nat × Int) := Go.Proofs.Ytfaoilalhneijaa.FZ.nextC a0
theorem real_Next.calls (a0 : Nat) (r1 : Nat) (r2 : Int) (w : World) (h : real_Next.f a0 = some (r1, r2)) :
    Calls Try.prog 22 #[.float .f64 a0] w fun e w' => e = .returned (.tuple #[.float .f64 r1, .int .i64 r2]) ∧ Drawn0 w w' :=
  Go.Proofs.Ytfaoilalhneijaa.PG.real_Next.calls 300 a0 r1 r2 w (FZ.next_c h)

/-! ### foolscapref02_Next: function 23 -/
def foolscapref02_Next.f (a0 : Int) : Option (Int × Int) := Go.Proofs.Ytfaoilalhneijaa.FZ.nextI a0
theorem foolscapref02_Next.calls (a0 : Int) (r1 : Int) (r2 : Int) (w : World) (h : foolscapref02_Next.f a0 = some (r1, r2)) :
    Calls Try.prog 23 #[.int .u64 a0] w fun e w' => e = .returned (.tuple #[.int .u64 r1, .int .i64 r2]) ∧ Below w.heap.size w w' :=
  Go.Proofs.Ytfaoilalhneijaa.PG.foolscapref02_Next.calls 300 a0 r1 r2 w (FZ.next_i h)

/-! ### real_Less: function 24 -/
def real_Less.f (a0 : Nat) (a1 : Nat) : Option (Bool) := Go.Proofs.Ytfaoilalhneijaa.FZ.lessC a0 a1
theorem real_Less.calls (a0 : Nat) (a1 : Nat) (r : Bool) (w : World) (h : real_Less.f a0 a1 = some r) :
    Calls Try.prog 24 #[.float .f64 a0, .float .f64 a1] w fun e w' => e = .returned (.bool r) ∧ Below w.heap.size w w' :=
  Go.Proofs.Ytfaoilalhneijaa.PG.real_Less.calls a0 a1 r w (FZ.less_c h)

/-! ### foolscapref02_Less: function 25 -/
def foolscapref02_Less.f (a0 : Int) (a1 : Int) : Option (Bool) := Go.Proofs.Ytfaoilalhneijaa.FZ.lessI a0 a1
theorem foolscapref02_Less.calls (a0 : Int) (a1 : Int) (r : Bool) (w : World) (h : foolscapref02_Less.f a0 a1 = some r) :
    Calls Try.prog 25 #[.int .u64 a0, .int .u64 a1] w fun e w' => e = .returned (.bool r) ∧ Below w.heap.size w w' :=
  Go.Proofs.Ytfaoilalhneijaa.PG.foolscapref02_Less.calls 300 a0 a1 r w (FZ.less_i h)

/-! ### foolscaplaw02_RealRows: function 6 -/
def foolscaplaw02_RealRows.f (a0 : Int) (a1 : Int) : Option (Bool) := (foolscaplaw02_of.f a0).bind fun t101 => ((real_Next.f t101).bind fun bt102 => ((foolscapref02_Next.f a0).bind fun bt104 => ((foolscaplaw02_of.f a0).bind fun t106 => ((foolscaplaw02_of.f a1).bind fun t107 => ((real_Less.f t106 t107).bind fun t108 => ((foolscapref02_Less.f a0 a1).bind fun t109 => (if (t108 == t109) = true then ((foolscaplaw02_bits.f bt102.1).bind fun t110 => (if t110 = bt104.1 then (if bt102.2 = bt104.2 then ((foolscaplaw02_lives.f).bind fun t111 => (some t111)) else (none)) else (if bt102.2 = 0 then (none) else ((foolscaplaw02_bits.f bt102.1).bind fun t112 => (if t112 = 0 then (if bt102.2 = bt104.2 then ((foolscaplaw02_lives.f).bind fun t113 => (some t113)) else (none)) else (none)))))) else (none))))))))
set_option maxHeartbeats 8000000 in
set_option maxRecDepth 100000 in
theorem foolscaplaw02_RealRows.calls (a0 : Int) (a1 : Int) (r : Bool) (w : World) (h : foolscaplaw02_RealRows.f a0 a1 = some r) :
    Calls Try.prog 6 #[.int .u64 a0, .int .u64 a1] w fun e w' => e = .returned (.bool r) ∧ Below w.heap.size w w' := by
  have HB := Aside0.mk (Below.refl w.heap.size w)
  have H : ((foolscaplaw02_of.f a0).bind fun t101 => ((real_Next.f t101).bind fun bt102 => ((foolscapref02_Next.f a0).bind fun bt104 => ((foolscaplaw02_of.f a0).bind fun t106 => ((foolscaplaw02_of.f a1).bind fun t107 => ((real_Less.f t106 t107).bind fun t108 => ((foolscapref02_Less.f a0 a1).bind fun t109 => (if (t108 == t109) = true then ((foolscaplaw02_bits.f bt102.1).bind fun t110 => (if t110 = bt104.1 then (if bt102.2 = bt104.2 then ((foolscaplaw02_lives.f).bind fun t111 => (some t111)) else (none)) else (if bt102.2 = 0 then (none) else ((foolscaplaw02_bits.f bt102.1).bind fun t112 => (if t112 = 0 then (if bt102.2 = bt104.2 then ((foolscaplaw02_lives.f).bind fun t113 => (some t113)) else (none)) else (none)))))) else (none))))))))) = some r := h
  clear h
  replace H := Option.bind_eq_some_iff.mp H
  obtain ⟨t101, A30, H⟩ := H
  replace H : ((real_Next.f t101).bind fun bt102 => ((foolscapref02_Next.f a0).bind fun bt104 => ((foolscaplaw02_of.f a0).bind fun t106 => ((foolscaplaw02_of.f a1).bind fun t107 => ((real_Less.f t106 t107).bind fun t108 => ((foolscapref02_Less.f a0 a1).bind fun t109 => (if (t108 == t109) = true then ((foolscaplaw02_bits.f bt102.1).bind fun t110 => (if t110 = bt104.1 then (if bt102.2 = bt104.2 then ((foolscaplaw02_lives.f).bind fun t111 => (some t111)) else (none)) else (if bt102.2 = 0 then (none) else ((foolscaplaw02_bits.f bt102.1).bind fun t112 => (if t112 = 0 then (if bt102.2 = bt104.2 then ((foolscaplaw02_lives.f).bind fun t113 => (some t113)) else (none)) else (none)))))) else (none)))))))) = some r := H
  have A3 := Aside0.mk A30
  clear A30
  replace H := Option.bind_eq_some_iff.mp H
  obtain ⟨⟨t102, t103⟩, A40, H⟩ := H
  replace H : ((foolscapref02_Next.f a0).bind fun bt104 => ((foolscaplaw02_of.f a0).bind fun t106 => ((foolscaplaw02_of.f a1).bind fun t107 => ((real_Less.f t106 t107).bind fun t108 => ((foolscapref02_Less.f a0 a1).bind fun t109 => (if (t108 == t109) = true then ((foolscaplaw02_bits.f t102).bind fun t110 => (if t110 = bt104.1 then (if t103 = bt104.2 then ((foolscaplaw02_lives.f).bind fun t111 => (some t111)) else (none)) else (if t103 = 0 then (none) else ((foolscaplaw02_bits.f t102).bind fun t112 => (if t112 = 0 then (if t103 = bt104.2 then ((foolscaplaw02_lives.f).bind fun t113 => (some t113)) else (none)) else (none)))))) else (none))))))) = some r := H
  have A4 := Aside0.mk A40
  clear A40
  replace H := Option.bind_eq_some_iff.mp H
  obtain ⟨⟨t104, t105⟩, A50, H⟩ := H
  replace H : ((foolscaplaw02_of.f a0).bind fun t106 => ((foolscaplaw02_of.f a1).bind fun t107 => ((real_Less.f t106 t107).bind fun t108 => ((foolscapref02_Less.f a0 a1).bind fun t109 => (if (t108 == t109) = true then ((foolscaplaw02_bits.f t102).bind fun t110 => (if t110 = t104 then (if t103 = t105 then ((foolscaplaw02_lives.f).bind fun t111 => (some t111)) else (none)) else (if t103 = 0 then (none) else ((foolscaplaw02_bits.f t102).bind fun t112 => (if t112 = 0 then (if t103 = t105 then ((foolscaplaw02_lives.f).bind fun t113 => (some t113)) else (none)) else (none)))))) else (none)))))) = some r := H
  have A5 := Aside0.mk A50
  clear A50
  replace H := Option.bind_eq_some_iff.mp H
  obtain ⟨t106, A60, H⟩ := H
  replace H : ((foolscaplaw02_of.f a1).bind fun t107 => ((real_Less.f t106 t107).bind fun t108 => ((foolscapref02_Less.f a0 a1).bind fun t109 => (if (t108 == t109) = true then ((foolscaplaw02_bits.f t102).bind fun t110 => (if t110 = t104 then (if t103 = t105 then ((foolscaplaw02_lives.f).bind fun t111 => (some t111)) else (none)) else (if t103 = 0 then (none) else ((foolscaplaw02_bits.f t102).bind fun t112 => (if t112 = 0 then (if t103 = t105 then ((foolscaplaw02_lives.f).bind fun t113 => (some t113)) else (none)) else (none)))))) else (none))))) = some r := H
  have A6 := Aside0.mk A60
  clear A60
  replace H := Option.bind_eq_some_iff.mp H
  obtain ⟨t107, A70, H⟩ := H
  replace H : ((real_Less.f t106 t107).bind fun t108 => ((foolscapref02_Less.f a0 a1).bind fun t109 => (if (t108 == t109) = true then ((foolscaplaw02_bits.f t102).bind fun t110 => (if t110 = t104 then (if t103 = t105 then ((foolscaplaw02_lives.f).bind fun t111 => (some t111)) else (none)) else (if t103 = 0 then (none) else ((foolscaplaw02_bits.f t102).bind fun t112 => (if t112 = 0 then (if t103 = t105 then ((foolscaplaw02_lives.f).bind fun t113 => (some t113)) else (none)) else (none)))))) else (none)))) = some r := H
  have A7 := Aside0.mk A70
  clear A70
  replace H := Option.bind_eq_some_iff.mp H
  obtain ⟨t108, A80, H⟩ := H
  replace H : ((foolscapref02_Less.f a0 a1).bind fun t109 => (if (t108 == t109) = true then ((foolscaplaw02_bits.f t102).bind fun t110 => (if t110 = t104 then (if t103 = t105 then ((foolscaplaw02_lives.f).bind fun t111 => (some t111)) else (none)) else (if t103 = 0 then (none) else ((foolscaplaw02_bits.f t102).bind fun t112 => (if t112 = 0 then (if t103 = t105 then ((foolscaplaw02_lives.f).bind fun t113 => (some t113)) else (none)) else (none)))))) else (none))) = some r := H
  have A8 := Aside0.mk A80
  clear A80
  replace H := Option.bind_eq_some_iff.mp H
  obtain ⟨t109, A90, H⟩ := H
  replace H : (if (t108 == t109) = true then ((foolscaplaw02_bits.f t102).bind fun t110 => (if t110 = t104 then (if t103 = t105 then ((foolscaplaw02_lives.f).bind fun t111 => (some t111)) else (none)) else (if t103 = 0 then (none) else ((foolscaplaw02_bits.f t102).bind fun t112 => (if t112 = 0 then (if t103 = t105 then ((foolscaplaw02_lives.f).bind fun t113 => (some t113)) else (none)) else (none)))))) else (none)) = some r := H
  have A9 := Aside0.mk A90
  clear A90
  by_cases c10 : (t108 == t109) = true
  · rw [if_pos c10] at H
    have c10b0 : (t108 == t109) = true := c10
    (try (have c10b1 : decide (t108 = t109) = true := by simpa using c10))
    (try (have c10b2 : (t108 == t109) = true := by simpa using c10))
    clear c10
    replace H := Option.bind_eq_some_iff.mp H
    obtain ⟨t110, A110, H⟩ := H
    replace H : (if t110 = t104 then (if t103 = t105 then ((foolscaplaw02_lives.f).bind fun t111 => (some t111)) else (none)) else (if t103 = 0 then (none) else ((foolscaplaw02_bits.f t102).bind fun t112 => (if t112 = 0 then (if t103 = t105 then ((foolscaplaw02_lives.f).bind fun t113 => (some t113)) else (none)) else (none))))) = some r := H
    have A11 := Aside0.mk A110
    clear A110
    by_cases c12 : t110 = t104
    · rw [if_pos c12] at H
      have c12b0 : (t110 == t104) = true := beq_iff_eq.mpr c12
      have c12b1 : (t110 != t104) = false := bne_eq_false_iff_eq.mpr c12
      clear c12
      by_cases c13 : t103 = t105
      · rw [if_pos c13] at H
        have c13b0 : (t103 == t105) = true := beq_iff_eq.mpr c13
        have c13b1 : (t103 != t105) = false := bne_eq_false_iff_eq.mpr c13
        clear c13
        replace H := Option.bind_eq_some_iff.mp H
        obtain ⟨t111, A140, H⟩ := H
        replace H : (some t111) = some r := H
        have A14 := Aside0.mk A140
        clear A140
        obtain rfl := Option.some.inj H
        go_enter Try.func6, Try.ntmps6
        go_wp2_with (first | ((with_reducible refine gate_callee (f := 14) rfl ?_); refine goesL_ (some 11) rfl rfl Try.func14 (by kernel_rfl) rfl #[.int .u64 a0] rfl (by (try simp only [List.map_toArray, List.map_cons, List.map_nil]); first | done | rfl | (simp only [List.length_drop, List.length_take]; rfl)) ?_; (with_reducible refine (foolscaplaw02_of.calls a0 t101 _ A3.out).mono ?_); rintro e w' ⟨rfl, ⟨nd, rfl⟩⟩; refine ⟨_, rfl, ?_⟩) | ((with_reducible refine gate_callee (f := 22) rfl ?_); refine goesL_ (some 12) rfl rfl Try.func22 (by kernel_rfl) rfl #[.float .f64 t101] rfl (by (try simp only [List.map_toArray, List.map_cons, List.map_nil]); first | done | rfl | (simp only [List.length_drop, List.length_take]; rfl)) ?_; (with_reducible refine (real_Next.calls t101 t102 t103 _ A4.out).mono ?_); rintro e w' ⟨rfl, ⟨nd, rfl⟩⟩; refine ⟨_, rfl, ?_⟩) | ((with_reducible refine gate_callee (f := 23) rfl ?_); refine goesL_ (some 17) rfl rfl Try.func23 (by kernel_rfl) rfl #[.int .u64 a0] rfl (by (try simp only [List.map_toArray, List.map_cons, List.map_nil]); first | done | rfl | (simp only [List.length_drop, List.length_take]; rfl)) ?_; (with_reducible refine (foolscapref02_Next.calls a0 t104 t105 _ A5.out).mono ?_); rintro e w15 ⟨rfl, hb⟩; refine ⟨_, rfl, ?_⟩; have n0_ := Aside0.mk (below_step (by repeat (first | (with_reducible first | exact HB.out | apply below_alloc | apply pw_below_drewN | apply below_drew1) | exact HB.out)) hb); clear HB; have HB := n0_; clear n0_; (try clear hb); (try clear hb2); (try clear hk); (try clear hi)) | ((with_reducible refine gate_callee (f := 14) rfl ?_); refine goesL_ (some 21) rfl rfl Try.func14 (by kernel_rfl) rfl #[.int .u64 a0] rfl (by (try simp only [List.map_toArray, List.map_cons, List.map_nil]); first | done | rfl | (simp only [List.length_drop, List.length_take]; rfl)) ?_; (with_reducible refine (foolscaplaw02_of.calls a0 t106 _ A6.out).mono ?_); rintro e w' ⟨rfl, ⟨nd, rfl⟩⟩; refine ⟨_, rfl, ?_⟩) | ((with_reducible refine gate_callee (f := 14) rfl ?_); refine goesL_ (some 23) rfl rfl Try.func14 (by kernel_rfl) rfl #[.int .u64 a1] rfl (by (try simp only [List.map_toArray, List.map_cons, List.map_nil]); first | done | rfl | (simp only [List.length_drop, List.length_take]; rfl)) ?_; (with_reducible refine (foolscaplaw02_of.calls a1 t107 _ A7.out).mono ?_); rintro e w' ⟨rfl, ⟨nd, rfl⟩⟩; refine ⟨_, rfl, ?_⟩) | ((with_reducible refine gate_callee (f := 24) rfl ?_); refine goesL_ (some 24) rfl rfl Try.func24 (by kernel_rfl) rfl #[.float .f64 t106, .float .f64 t107] rfl (by (try simp only [List.map_toArray, List.map_cons, List.map_nil]); first | done | rfl | (simp only [List.length_drop, List.length_take]; rfl)) ?_; (with_reducible refine (real_Less.calls t106 t107 t108 _ A8.out).mono ?_); rintro e w16 ⟨rfl, hb⟩; refine ⟨_, rfl, ?_⟩; have n0_ := Aside0.mk (below_step (by repeat (first | (with_reducible first | exact HB.out | apply below_alloc | apply pw_below_drewN | apply below_drew1) | exact HB.out)) hb); clear HB; have HB := n0_; clear n0_; (try clear hb); (try clear hb2); (try clear hk); (try clear hi)) | ((with_reducible refine gate_callee (f := 25) rfl ?_); refine goesL_ (some 27) rfl rfl Try.func25 (by kernel_rfl) rfl #[.int .u64 a0, .int .u64 a1] rfl (by (try simp only [List.map_toArray, List.map_cons, List.map_nil]); first | done | rfl | (simp only [List.length_drop, List.length_take]; rfl)) ?_; (with_reducible refine (foolscapref02_Less.calls a0 a1 t109 _ A9.out).mono ?_); rintro e w17 ⟨rfl, hb⟩; refine ⟨_, rfl, ?_⟩; have n0_ := Aside0.mk (below_step (by repeat (first | (with_reducible first | exact HB.out | apply below_alloc | apply pw_below_drewN | apply below_drew1) | exact HB.out)) hb); clear HB; have HB := n0_; clear n0_; (try clear hb); (try clear hb2); (try clear hk); (try clear hi)) | (go_at_call 21; (with_reducible refine (foolscaplaw02_bits.calls t102 t110 _ A11.out).mono ?_); rintro e w' ⟨rfl, ⟨nd, rfl⟩⟩) | (go_at_call 16; (with_reducible refine (foolscaplaw02_lives.calls  t111 _ A14.out).mono ?_); rintro e w18 ⟨rfl, hb⟩; have n0_ := Aside0.mk (below_step (by repeat (first | (with_reducible first | exact HB.out | apply below_alloc | apply pw_below_drewN | apply below_drew1) | exact HB.out)) hb); clear HB; have HB := n0_; clear n0_; (try clear hb); (try clear hb2); (try clear hk); (try clear hi)))
        go_ret
        exact ⟨by first | rfl | (simp [errW_none, errW_some] <;> rfl) | (simp [*, errW_none, errW_some] <;> rfl), by repeat (first | (with_reducible first | exact HB.out | apply below_alloc | apply pw_below_drewN | apply below_drew1) | exact HB.out)⟩
      · rw [if_neg c13] at H
        exact absurd H (by simp)
    · rw [if_neg c12] at H
      have c12b0 : (t110 == t104) = false := beq_eq_false_iff_ne.mpr c12
      have c12b1 : (t110 != t104) = true := bne_iff_ne.mpr c12
      by_cases c19 : t103 = 0
      · rw [if_pos c19] at H
        exact absurd H (by simp)
      · rw [if_neg c19] at H
        have c19b0 : (t103 == 0) = false := beq_eq_false_iff_ne.mpr c19
        have c19b1 : (t103 != 0) = true := bne_iff_ne.mpr c19
        replace H := Option.bind_eq_some_iff.mp H
        obtain ⟨t112, A200, H⟩ := H
        replace H : (if t112 = 0 then (if t103 = t105 then ((foolscaplaw02_lives.f).bind fun t113 => (some t113)) else (none)) else (none)) = some r := H
        have A20 := Aside0.mk A200
        clear A200
        have e_ := Option.some.inj (A20.out.symm.trans A11.out)
        subst e_
        by_cases c21 : t112 = 0
        · rw [if_pos c21] at H
          have c21b0 : (t112 == 0) = true := beq_iff_eq.mpr c21
          have c21b1 : (t112 != 0) = false := bne_eq_false_iff_eq.mpr c21
          clear c21
          by_cases c22 : t103 = t105
          · rw [if_pos c22] at H
            have c22b0 : (t103 == t105) = true := beq_iff_eq.mpr c22
            have c22b1 : (t103 != t105) = false := bne_eq_false_iff_eq.mpr c22
            clear c22
            replace H := Option.bind_eq_some_iff.mp H
            obtain ⟨t113, A230, H⟩ := H
            replace H : (some t113) = some r := H
            have A23 := Aside0.mk A230
            clear A230
            obtain rfl := Option.some.inj H
            go_enter Try.func6, Try.ntmps6
            go_wp2_with (first | ((with_reducible refine gate_callee (f := 14) rfl ?_); refine goesL_ (some 11) rfl rfl Try.func14 (by kernel_rfl) rfl #[.int .u64 a0] rfl (by (try simp only [List.map_toArray, List.map_cons, List.map_nil]); first | done | rfl | (simp only [List.length_drop, List.length_take]; rfl)) ?_; (with_reducible refine (foolscaplaw02_of.calls a0 t101 _ A3.out).mono ?_); rintro e w' ⟨rfl, ⟨nd, rfl⟩⟩; refine ⟨_, rfl, ?_⟩) | ((with_reducible refine gate_callee (f := 22) rfl ?_); refine goesL_ (some 12) rfl rfl Try.func22 (by kernel_rfl) rfl #[.float .f64 t101] rfl (by (try simp only [List.map_toArray, List.map_cons, List.map_nil]); first | done | rfl | (simp only [List.length_drop, List.length_take]; rfl)) ?_; (with_reducible refine (real_Next.calls t101 t102 t103 _ A4.out).mono ?_); rintro e w' ⟨rfl, ⟨nd, rfl⟩⟩; refine ⟨_, rfl, ?_⟩) | ((with_reducible refine gate_callee (f := 23) rfl ?_); refine goesL_ (some 17) rfl rfl Try.func23 (by kernel_rfl) rfl #[.int .u64 a0] rfl (by (try simp only [List.map_toArray, List.map_cons, List.map_nil]); first | done | rfl | (simp only [List.length_drop, List.length_take]; rfl)) ?_; (with_reducible refine (foolscapref02_Next.calls a0 t104 t105 _ A5.out).mono ?_); rintro e w24 ⟨rfl, hb⟩; refine ⟨_, rfl, ?_⟩; have n0_ := Aside0.mk (below_step (by repeat (first | (with_reducible first | exact HB.out | apply below_alloc | apply pw_below_drewN | apply below_drew1) | exact HB.out)) hb); clear HB; have HB := n0_; clear n0_; (try clear hb); (try clear hb2); (try clear hk); (try clear hi)) | ((with_reducible refine gate_callee (f := 14) rfl ?_); refine goesL_ (some 21) rfl rfl Try.func14 (by kernel_rfl) rfl #[.int .u64 a0] rfl (by (try simp only [List.map_toArray, List.map_cons, List.map_nil]); first | done | rfl | (simp only [List.length_drop, List.length_take]; rfl)) ?_; (with_reducible refine (foolscaplaw02_of.calls a0 t106 _ A6.out).mono ?_); rintro e w' ⟨rfl, ⟨nd, rfl⟩⟩; refine ⟨_, rfl, ?_⟩) | ((with_reducible refine gate_callee (f := 14) rfl ?_); refine goesL_ (some 23) rfl rfl Try.func14 (by kernel_rfl) rfl #[.int .u64 a1] rfl (by (try simp only [List.map_toArray, List.map_cons, List.map_nil]); first | done | rfl | (simp only [List.length_drop, List.length_take]; rfl)) ?_; (with_reducible refine (foolscaplaw02_of.calls a1 t107 _ A7.out).mono ?_); rintro e w' ⟨rfl, ⟨nd, rfl⟩⟩; refine ⟨_, rfl, ?_⟩) | ((with_reducible refine gate_callee (f := 24) rfl ?_); refine goesL_ (some 24) rfl rfl Try.func24 (by kernel_rfl) rfl #[.float .f64 t106, .float .f64 t107] rfl (by (try simp only [List.map_toArray, List.map_cons, List.map_nil]); first | done | rfl | (simp only [List.length_drop, List.length_take]; rfl)) ?_; (with_reducible refine (real_Less.calls t106 t107 t108 _ A8.out).mono ?_); rintro e w25 ⟨rfl, hb⟩; refine ⟨_, rfl, ?_⟩; have n0_ := Aside0.mk (below_step (by repeat (first | (with_reducible first | exact HB.out | apply below_alloc | apply pw_below_drewN | apply below_drew1) | exact HB.out)) hb); clear HB; have HB := n0_; clear n0_; (try clear hb); (try clear hb2); (try clear hk); (try clear hi)) | ((with_reducible refine gate_callee (f := 25) rfl ?_); refine goesL_ (some 27) rfl rfl Try.func25 (by kernel_rfl) rfl #[.int .u64 a0, .int .u64 a1] rfl (by (try simp only [List.map_toArray, List.map_cons, List.map_nil]); first | done | rfl | (simp only [List.length_drop, List.length_take]; rfl)) ?_; (with_reducible refine (foolscapref02_Less.calls a0 a1 t109 _ A9.out).mono ?_); rintro e w26 ⟨rfl, hb⟩; refine ⟨_, rfl, ?_⟩; have n0_ := Aside0.mk (below_step (by repeat (first | (with_reducible first | exact HB.out | apply below_alloc | apply pw_below_drewN | apply below_drew1) | exact HB.out)) hb); clear HB; have HB := n0_; clear n0_; (try clear hb); (try clear hb2); (try clear hk); (try clear hi)) | (go_at_call 21; (with_reducible refine (foolscaplaw02_bits.calls t102 t110 _ A11.out).mono ?_); rintro e w' ⟨rfl, ⟨nd, rfl⟩⟩) | (go_at_call 21; (with_reducible refine (foolscaplaw02_bits.calls t102 t112 _ A20.out).mono ?_); rintro e w' ⟨rfl, ⟨nd, rfl⟩⟩) | (go_at_call 16; (with_reducible refine (foolscaplaw02_lives.calls  t113 _ A23.out).mono ?_); rintro e w27 ⟨rfl, hb⟩; have n0_ := Aside0.mk (below_step (by repeat (first | (with_reducible first | exact HB.out | apply below_alloc | apply pw_below_drewN | apply below_drew1) | exact HB.out)) hb); clear HB; have HB := n0_; clear n0_; (try clear hb); (try clear hb2); (try clear hk); (try clear hi)))
            go_ret
            exact ⟨by first | rfl | (simp [errW_none, errW_some] <;> rfl) | (simp [*, errW_none, errW_some] <;> rfl), by repeat (first | (with_reducible first | exact HB.out | apply below_alloc | apply pw_below_drewN | apply below_drew1) | exact HB.out)⟩
          · rw [if_neg c22] at H
            exact absurd H (by simp)
        · rw [if_neg c21] at H
          exact absurd H (by simp)
  · rw [if_neg c10] at H
    exact absurd H (by simp)

/-- THE ONE PURE STATEMENT of foolscaplaw02_RealRows: yours. -/
def foolscaplaw02_RealRows.Pure : Prop := ∀ (a0 : Int) (a1 : Int), (Lit.int .u64 a0).wf = true → (Lit.int .u64 a1).wf = true → foolscaplaw02_RealRows.f a0 a1 = some true
theorem foolscaplaw02_RealRows.walk (P : foolscaplaw02_RealRows.Pure) (a0 : Int) (a1 : Int) (w : World) (w0 : (Lit.int .u64 a0).wf = true) (w1 : (Lit.int .u64 a1).wf = true) :
    Calls Try.prog 6 #[.int .u64 a0, .int .u64 a1] w fun e w' => e = .returned (.bool true) ∧ Below w.heap.size w w' := by
  have h := P a0 a1 w0 w1
  refine (foolscaplaw02_RealRows.calls a0 a1 true w h).mono ?_
  rintro e w' ⟨rfl, hd⟩
  exact ⟨rfl, hd⟩

end Go.Proofs.Ytfaoilalhneijaa.PRealRows
