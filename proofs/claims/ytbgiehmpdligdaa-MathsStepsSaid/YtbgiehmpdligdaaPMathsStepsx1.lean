-- By wip/tools/printplus.py of this session, over the kit's print; what is by hand in it is this session's own.
import Derived.Test.YtbgiehmpdligdaaPMathsStepsx0
namespace Go.Proofs.Ytbgiehmpdligdaa.PMathsSteps
open Go.RowKit Go.Proofs.YtbgiehmpdligdaaW.PrintWords Go.Proofs.YtbgiehmpdligdaaW.PrintLast Go.Proofs.YtbgiehmpdligdaaW.PrintMore
attribute [local go_sem] max2_int min2_int max_two min_two max_three min_three max_four min_four   -- for this text's walks alone
set_option linter.unusedVariables false
set_option linter.unusedSimpArgs false

/-! ### foolscaplaw15_lives: function 18 -/
def foolscaplaw15_lives.f  : Option (Bool) := some (true)
theorem foolscaplaw15_lives.calls  (r : Bool) (w : World) (h : foolscaplaw15_lives.f  = some r) :
    Calls Try.prog 18 #[] w fun e w' => e = .returned (.bool r) ∧ Below w.heap.size w w' :=
  Go.Proofs.Ytbgiehmpdligdaa.PG.foolscaplaw15_lives.calls 100 r w (Eq.trans (MB.lives_eq) h)

/-! ### maths_Floor: function 28 -/
def maths_Floor.f (a0 : Int) (a1 : Int) : Option (Int × Int) := some (Go.Proofs.Ytbgiehmpdligdaa.MB.nearN a0 a1 false)
theorem maths_Floor.calls (a0 : Int) (a1 : Int) (r1 : Int) (r2 : Int) (w : World) (h : maths_Floor.f a0 a1 = some (r1, r2)) :
    Calls Try.prog 28 #[.int .i64 a0, .int .i64 a1] w fun e w' => e = .returned (.tuple #[.int .i64 r1, .int .i64 r2]) ∧ Below w.heap.size w w' :=
  Go.Proofs.Ytbgiehmpdligdaa.PG.maths_Floor.calls 100 a0 a1 r1 r2 w (Eq.trans (MB.floor_eq _ _) h)

/-! ### maths_Ceiling: function 29 -/
def maths_Ceiling.f (a0 : Int) (a1 : Int) : Option (Int × Int) := some (Go.Proofs.Ytbgiehmpdligdaa.MB.nearN a0 a1 true)
theorem maths_Ceiling.calls (a0 : Int) (a1 : Int) (r1 : Int) (r2 : Int) (w : World) (h : maths_Ceiling.f a0 a1 = some (r1, r2)) :
    Calls Try.prog 29 #[.int .i64 a0, .int .i64 a1] w fun e w' => e = .returned (.tuple #[.int .i64 r1, .int .i64 r2]) ∧ Below w.heap.size w w' :=
  Go.Proofs.Ytbgiehmpdligdaa.PG.maths_Ceiling.calls 100 a0 a1 r1 r2 w (Eq.trans (MB.ceil_eq _ _) h)

/-! ### foolscapref15_Ceiling: function 31 -/
def foolscapref15_Ceiling.f (a0 : Int) (a1 : Int) : Option (Int × Int) := some (Go.Proofs.Ytbgiehmpdligdaa.MB.nearN a0 a1 true)
theorem foolscapref15_Ceiling.calls (a0 : Int) (a1 : Int) (r1 : Int) (r2 : Int) (w : World) (h : foolscapref15_Ceiling.f a0 a1 = some (r1, r2)) :
    Calls Try.prog 31 #[.int .i64 a0, .int .i64 a1] w fun e w' => e = .returned (.tuple #[.int .i64 r1, .int .i64 r2]) ∧ Below w.heap.size w w' :=
  Go.Proofs.Ytbgiehmpdligdaa.PG.foolscapref15_Ceiling.calls 100 a0 a1 r1 r2 w (Eq.trans (MB.rceil_eq _ _) h)

/-! ### foolscapref15_Floor: function 32 -/
def foolscapref15_Floor.f (a0 : Int) (a1 : Int) : Option (Int × Int) := some (Go.Proofs.Ytbgiehmpdligdaa.MB.nearN a0 a1 false)
theorem foolscapref15_Floor.calls (a0 : Int) (a1 : Int) (r1 : Int) (r2 : Int) (w : World) (h : foolscapref15_Floor.f a0 a1 = some (r1, r2)) :
    Calls Try.prog 32 #[.int .i64 a0, .int .i64 a1] w fun e w' => e = .returned (.tuple #[.int .i64 r1, .int .i64 r2]) ∧ Below w.heap.size w w' :=
  Go.Proofs.Ytbgiehmpdligdaa.PG.foolscapref15_Floor.calls 100 a0 a1 r1 r2 w (Eq.trans (MB.rfloor_eq _ _) h)

/-! ### maths_Quotient: function 33 -/
def maths_Quotient.f (a0 : Int) (a1 : Int) : Option (Int × Int) := some (Go.Proofs.Ytbgiehmpdligdaa.MB.quotN a0 a1)
theorem maths_Quotient.calls (a0 : Int) (a1 : Int) (r1 : Int) (r2 : Int) (w : World) (h : maths_Quotient.f a0 a1 = some (r1, r2)) :
    Calls Try.prog 33 #[.int .i64 a0, .int .i64 a1] w fun e w' => e = .returned (.tuple #[.int .i64 r1, .int .i64 r2]) ∧ Below w.heap.size w w' :=
  Go.Proofs.Ytbgiehmpdligdaa.PG.maths_Quotient.calls 100 a0 a1 r1 r2 w (Eq.trans (MB.quot_eq _ _) h)

/-! ### foolscapref15_Quotient: function 34 -/
def foolscapref15_Quotient.f (a0 : Int) (a1 : Int) : Option (Int × Int) := some (Go.Proofs.Ytbgiehmpdligdaa.MB.quotN a0 a1)
theorem foolscapref15_Quotient.calls (a0 : Int) (a1 : Int) (r1 : Int) (r2 : Int) (w : World) (h : foolscapref15_Quotient.f a0 a1 = some (r1, r2)) :
    Calls Try.prog 34 #[.int .i64 a0, .int .i64 a1] w fun e w' => e = .returned (.tuple #[.int .i64 r1, .int .i64 r2]) ∧ Below w.heap.size w w' :=
  Go.Proofs.Ytbgiehmpdligdaa.PG.foolscapref15_Quotient.calls 100 a0 a1 r1 r2 w (Eq.trans (MB.rquot_eq _ _) h)

/-! ### foolscaplaw15_MathsSteps: function 10 -/
def foolscaplaw15_MathsSteps.f (a0 : Int) (a1 : Int) : Option (Bool) := (maths_Ceiling.f a0 a1).bind fun bt101 => ((foolscapref15_Ceiling.f a0 a1).bind fun bt103 => ((maths_Floor.f a0 a1).bind fun bt105 => ((foolscapref15_Floor.f a0 a1).bind fun bt107 => ((maths_Quotient.f a0 a1).bind fun bt109 => ((foolscapref15_Quotient.f a0 a1).bind fun bt111 => (if bt101.1 = bt103.1 then (if bt101.2 = bt103.2 then (if bt105.1 = bt107.1 then (if bt105.2 = bt107.2 then (if bt109.1 = bt111.1 then (if bt109.2 = bt111.2 then ((foolscaplaw15_lives.f).bind fun t113 => (some t113)) else (none)) else (none)) else (none)) else (none)) else (none)) else (none)))))))
set_option maxHeartbeats 8000000 in
set_option maxRecDepth 100000 in
theorem foolscaplaw15_MathsSteps.calls (a0 : Int) (a1 : Int) (r : Bool) (w : World) (h : foolscaplaw15_MathsSteps.f a0 a1 = some r) :
    Calls Try.prog 10 #[.int .i64 a0, .int .i64 a1] w fun e w' => e = .returned (.bool r) ∧ Below w.heap.size w w' := by
  have HB := Aside0.mk (Below.refl w.heap.size w)
  have H : ((maths_Ceiling.f a0 a1).bind fun bt101 => ((foolscapref15_Ceiling.f a0 a1).bind fun bt103 => ((maths_Floor.f a0 a1).bind fun bt105 => ((foolscapref15_Floor.f a0 a1).bind fun bt107 => ((maths_Quotient.f a0 a1).bind fun bt109 => ((foolscapref15_Quotient.f a0 a1).bind fun bt111 => (if bt101.1 = bt103.1 then (if bt101.2 = bt103.2 then (if bt105.1 = bt107.1 then (if bt105.2 = bt107.2 then (if bt109.1 = bt111.1 then (if bt109.2 = bt111.2 then ((foolscaplaw15_lives.f).bind fun t113 => (some t113)) else (none)) else (none)) else (none)) else (none)) else (none)) else (none)))))))) = some r := h
  clear h
  replace H := Option.bind_eq_some_iff.mp H
  obtain ⟨⟨t101, t102⟩, A30, H⟩ := H
  replace H : ((foolscapref15_Ceiling.f a0 a1).bind fun bt103 => ((maths_Floor.f a0 a1).bind fun bt105 => ((foolscapref15_Floor.f a0 a1).bind fun bt107 => ((maths_Quotient.f a0 a1).bind fun bt109 => ((foolscapref15_Quotient.f a0 a1).bind fun bt111 => (if t101 = bt103.1 then (if t102 = bt103.2 then (if bt105.1 = bt107.1 then (if bt105.2 = bt107.2 then (if bt109.1 = bt111.1 then (if bt109.2 = bt111.2 then ((foolscaplaw15_lives.f).bind fun t113 => (some t113)) else (none)) else (none)) else (none)) else (none)) else (none)) else (none))))))) = some r := H
  have A3 := Aside0.mk A30
  clear A30
  replace H := Option.bind_eq_some_iff.mp H
  obtain ⟨⟨t103, t104⟩, A40, H⟩ := H
  replace H : ((maths_Floor.f a0 a1).bind fun bt105 => ((foolscapref15_Floor.f a0 a1).bind fun bt107 => ((maths_Quotient.f a0 a1).bind fun bt109 => ((foolscapref15_Quotient.f a0 a1).bind fun bt111 => (if t101 = t103 then (if t102 = t104 then (if bt105.1 = bt107.1 then (if bt105.2 = bt107.2 then (if bt109.1 = bt111.1 then (if bt109.2 = bt111.2 then ((foolscaplaw15_lives.f).bind fun t113 => (some t113)) else (none)) else (none)) else (none)) else (none)) else (none)) else (none)))))) = some r := H
  have A4 := Aside0.mk A40
  clear A40
  replace H := Option.bind_eq_some_iff.mp H
  obtain ⟨⟨t105, t106⟩, A50, H⟩ := H
  replace H : ((foolscapref15_Floor.f a0 a1).bind fun bt107 => ((maths_Quotient.f a0 a1).bind fun bt109 => ((foolscapref15_Quotient.f a0 a1).bind fun bt111 => (if t101 = t103 then (if t102 = t104 then (if t105 = bt107.1 then (if t106 = bt107.2 then (if bt109.1 = bt111.1 then (if bt109.2 = bt111.2 then ((foolscaplaw15_lives.f).bind fun t113 => (some t113)) else (none)) else (none)) else (none)) else (none)) else (none)) else (none))))) = some r := H
  have A5 := Aside0.mk A50
  clear A50
  replace H := Option.bind_eq_some_iff.mp H
  obtain ⟨⟨t107, t108⟩, A60, H⟩ := H
  replace H : ((maths_Quotient.f a0 a1).bind fun bt109 => ((foolscapref15_Quotient.f a0 a1).bind fun bt111 => (if t101 = t103 then (if t102 = t104 then (if t105 = t107 then (if t106 = t108 then (if bt109.1 = bt111.1 then (if bt109.2 = bt111.2 then ((foolscaplaw15_lives.f).bind fun t113 => (some t113)) else (none)) else (none)) else (none)) else (none)) else (none)) else (none)))) = some r := H
  have A6 := Aside0.mk A60
  clear A60
  replace H := Option.bind_eq_some_iff.mp H
  obtain ⟨⟨t109, t110⟩, A70, H⟩ := H
  replace H : ((foolscapref15_Quotient.f a0 a1).bind fun bt111 => (if t101 = t103 then (if t102 = t104 then (if t105 = t107 then (if t106 = t108 then (if t109 = bt111.1 then (if t110 = bt111.2 then ((foolscaplaw15_lives.f).bind fun t113 => (some t113)) else (none)) else (none)) else (none)) else (none)) else (none)) else (none))) = some r := H
  have A7 := Aside0.mk A70
  clear A70
  replace H := Option.bind_eq_some_iff.mp H
  obtain ⟨⟨t111, t112⟩, A80, H⟩ := H
  replace H : (if t101 = t103 then (if t102 = t104 then (if t105 = t107 then (if t106 = t108 then (if t109 = t111 then (if t110 = t112 then ((foolscaplaw15_lives.f).bind fun t113 => (some t113)) else (none)) else (none)) else (none)) else (none)) else (none)) else (none)) = some r := H
  have A8 := Aside0.mk A80
  clear A80
  by_cases c9 : t101 = t103
  · rw [if_pos c9] at H
    have c9b0 : (t101 == t103) = true := beq_iff_eq.mpr c9
    have c9b1 : (t101 != t103) = false := bne_eq_false_iff_eq.mpr c9
    clear c9
    by_cases c10 : t102 = t104
    · rw [if_pos c10] at H
      have c10b0 : (t102 == t104) = true := beq_iff_eq.mpr c10
      have c10b1 : (t102 != t104) = false := bne_eq_false_iff_eq.mpr c10
      clear c10
      by_cases c11 : t105 = t107
      · rw [if_pos c11] at H
        have c11b0 : (t105 == t107) = true := beq_iff_eq.mpr c11
        have c11b1 : (t105 != t107) = false := bne_eq_false_iff_eq.mpr c11
        clear c11
        by_cases c12 : t106 = t108
        · rw [if_pos c12] at H
          have c12b0 : (t106 == t108) = true := beq_iff_eq.mpr c12
          have c12b1 : (t106 != t108) = false := bne_eq_false_iff_eq.mpr c12
          clear c12
          by_cases c13 : t109 = t111
          · rw [if_pos c13] at H
            have c13b0 : (t109 == t111) = true := beq_iff_eq.mpr c13
            have c13b1 : (t109 != t111) = false := bne_eq_false_iff_eq.mpr c13
            clear c13
            by_cases c14 : t110 = t112
            · rw [if_pos c14] at H
              have c14b0 : (t110 == t112) = true := beq_iff_eq.mpr c14
              have c14b1 : (t110 != t112) = false := bne_eq_false_iff_eq.mpr c14
              clear c14
              replace H := Option.bind_eq_some_iff.mp H
              obtain ⟨t113, A150, H⟩ := H
              replace H : (some t113) = some r := H
              have A15 := Aside0.mk A150
              clear A150
              obtain rfl := Option.some.inj H
              go_enter Try.func10, Try.ntmps10
              go_wp2_with (first | ((with_reducible refine gate_callee (f := 29) rfl ?_); refine goesL_ (some 20) rfl rfl Try.func29 (by kernel_rfl) rfl #[.int .i64 a0, .int .i64 a1] rfl (by (try simp only [List.map_toArray, List.map_cons, List.map_nil]); first | done | rfl | (simp only [List.length_drop, List.length_take]; rfl)) ?_; (with_reducible refine (maths_Ceiling.calls a0 a1 t101 t102 _ A3.out).mono ?_); rintro e w16 ⟨rfl, hb⟩; refine ⟨_, rfl, ?_⟩; have n0_ := Aside0.mk (below_step (by repeat (first | (with_reducible first | exact HB.out | apply below_alloc | apply pw_below_drewN | apply below_drew1) | exact HB.out)) hb); clear HB; have HB := n0_; clear n0_; (try clear hb); (try clear hb2); (try clear hk); (try clear hi)) | ((with_reducible refine gate_callee (f := 31) rfl ?_); refine goesL_ (some 26) rfl rfl Try.func31 (by kernel_rfl) rfl #[.int .i64 a0, .int .i64 a1] rfl (by (try simp only [List.map_toArray, List.map_cons, List.map_nil]); first | done | rfl | (simp only [List.length_drop, List.length_take]; rfl)) ?_; (with_reducible refine (foolscapref15_Ceiling.calls a0 a1 t103 t104 _ A4.out).mono ?_); rintro e w17 ⟨rfl, hb⟩; refine ⟨_, rfl, ?_⟩; have n0_ := Aside0.mk (below_step (by repeat (first | (with_reducible first | exact HB.out | apply below_alloc | apply pw_below_drewN | apply below_drew1) | exact HB.out)) hb); clear HB; have HB := n0_; clear n0_; (try clear hb); (try clear hb2); (try clear hk); (try clear hi)) | ((with_reducible refine gate_callee (f := 28) rfl ?_); refine goesL_ (some 32) rfl rfl Try.func28 (by kernel_rfl) rfl #[.int .i64 a0, .int .i64 a1] rfl (by (try simp only [List.map_toArray, List.map_cons, List.map_nil]); first | done | rfl | (simp only [List.length_drop, List.length_take]; rfl)) ?_; (with_reducible refine (maths_Floor.calls a0 a1 t105 t106 _ A5.out).mono ?_); rintro e w18 ⟨rfl, hb⟩; refine ⟨_, rfl, ?_⟩; have n0_ := Aside0.mk (below_step (by repeat (first | (with_reducible first | exact HB.out | apply below_alloc | apply pw_below_drewN | apply below_drew1) | exact HB.out)) hb); clear HB; have HB := n0_; clear n0_; (try clear hb); (try clear hb2); (try clear hk); (try clear hi)) | ((with_reducible refine gate_callee (f := 32) rfl ?_); refine goesL_ (some 38) rfl rfl Try.func32 (by kernel_rfl) rfl #[.int .i64 a0, .int .i64 a1] rfl (by (try simp only [List.map_toArray, List.map_cons, List.map_nil]); first | done | rfl | (simp only [List.length_drop, List.length_take]; rfl)) ?_; (with_reducible refine (foolscapref15_Floor.calls a0 a1 t107 t108 _ A6.out).mono ?_); rintro e w19 ⟨rfl, hb⟩; refine ⟨_, rfl, ?_⟩; have n0_ := Aside0.mk (below_step (by repeat (first | (with_reducible first | exact HB.out | apply below_alloc | apply pw_below_drewN | apply below_drew1) | exact HB.out)) hb); clear HB; have HB := n0_; clear n0_; (try clear hb); (try clear hb2); (try clear hk); (try clear hi)) | ((with_reducible refine gate_callee (f := 33) rfl ?_); refine goesL_ (some 44) rfl rfl Try.func33 (by kernel_rfl) rfl #[.int .i64 a0, .int .i64 a1] rfl (by (try simp only [List.map_toArray, List.map_cons, List.map_nil]); first | done | rfl | (simp only [List.length_drop, List.length_take]; rfl)) ?_; (with_reducible refine (maths_Quotient.calls a0 a1 t109 t110 _ A7.out).mono ?_); rintro e w20 ⟨rfl, hb⟩; refine ⟨_, rfl, ?_⟩; have n0_ := Aside0.mk (below_step (by repeat (first | (with_reducible first | exact HB.out | apply below_alloc | apply pw_below_drewN | apply below_drew1) | exact HB.out)) hb); clear HB; have HB := n0_; clear n0_; (try clear hb); (try clear hb2); (try clear hk); (try clear hi)) | ((with_reducible refine gate_callee (f := 34) rfl ?_); refine goesL_ (some 50) rfl rfl Try.func34 (by kernel_rfl) rfl #[.int .i64 a0, .int .i64 a1] rfl (by (try simp only [List.map_toArray, List.map_cons, List.map_nil]); first | done | rfl | (simp only [List.length_drop, List.length_take]; rfl)) ?_; (with_reducible refine (foolscapref15_Quotient.calls a0 a1 t111 t112 _ A8.out).mono ?_); rintro e w21 ⟨rfl, hb⟩; refine ⟨_, rfl, ?_⟩; have n0_ := Aside0.mk (below_step (by repeat (first | (with_reducible first | exact HB.out | apply below_alloc | apply pw_below_drewN | apply below_drew1) | exact HB.out)) hb); clear HB; have HB := n0_; clear n0_; (try clear hb); (try clear hb2); (try clear hk); (try clear hi)) | (go_at_call 18; (with_reducible refine (foolscaplaw15_lives.calls  t113 _ A15.out).mono ?_); rintro e w22 ⟨rfl, hb⟩; have n0_ := Aside0.mk (below_step (by repeat (first | (with_reducible first | exact HB.out | apply below_alloc | apply pw_below_drewN | apply below_drew1) | exact HB.out)) hb); clear HB; have HB := n0_; clear n0_; (try clear hb); (try clear hb2); (try clear hk); (try clear hi)))
              go_ret
              exact ⟨by first | rfl | (simp [errW_none, errW_some] <;> rfl) | (simp [*, errW_none, errW_some] <;> rfl), by repeat (first | (with_reducible first | exact HB.out | apply below_alloc | apply pw_below_drewN | apply below_drew1) | exact HB.out)⟩
            · rw [if_neg c14] at H
              exact absurd H (by simp)
          · rw [if_neg c13] at H
            exact absurd H (by simp)
        · rw [if_neg c12] at H
          exact absurd H (by simp)
      · rw [if_neg c11] at H
        exact absurd H (by simp)
    · rw [if_neg c10] at H
      exact absurd H (by simp)
  · rw [if_neg c9] at H
    exact absurd H (by simp)

/-- THE ONE PURE STATEMENT of foolscaplaw15_MathsSteps: yours. -/
def foolscaplaw15_MathsSteps.Pure : Prop := ∀ (a0 : Int) (a1 : Int), (Lit.int .i64 a0).wf = true → (Lit.int .i64 a1).wf = true → foolscaplaw15_MathsSteps.f a0 a1 = some true
theorem foolscaplaw15_MathsSteps.walk (P : foolscaplaw15_MathsSteps.Pure) (a0 : Int) (a1 : Int) (w : World) (w0 : (Lit.int .i64 a0).wf = true) (w1 : (Lit.int .i64 a1).wf = true) :
    Calls Try.prog 10 #[.int .i64 a0, .int .i64 a1] w fun e w' => e = .returned (.bool true) ∧ Below w.heap.size w w' := by
  have h := P a0 a1 w0 w1
  refine (foolscaplaw15_MathsSteps.calls a0 a1 true w h).mono ?_
  rintro e w' ⟨rfl, hd⟩
  exact ⟨rfl, hd⟩

end Go.Proofs.Ytbgiehmpdligdaa.PMathsSteps
