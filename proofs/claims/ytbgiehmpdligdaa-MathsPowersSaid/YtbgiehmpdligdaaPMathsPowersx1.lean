-- By wip/tools/printplus.py of this session, over the kit's print; what is by hand in it is this session's own.
import Derived.Test.YtbgiehmpdligdaaPMathsPowersx0
namespace Go.Proofs.Ytbgiehmpdligdaa.PMathsPowers
open Go.RowKit Go.Proofs.YtbgiehmpdligdaaW.PrintWords Go.Proofs.YtbgiehmpdligdaaW.PrintLast Go.Proofs.YtbgiehmpdligdaaW.PrintMore
attribute [local go_sem] max2_int min2_int max_two min_two max_three min_three max_four min_four   -- for this text's walks alone
set_option linter.unusedVariables false
set_option linter.unusedSimpArgs false

/-! ### maths_Power: function 12 -/
def maths_Power.f (a0 : Int) (a1 : Int) : Option (Int × Int) := some (Go.Proofs.Ytbgiehmpdligdaa.MI.powN a0 a1)
theorem maths_Power.calls (a0 : Int) (a1 : Int) (r1 : Int) (r2 : Int) (w : World) (h : maths_Power.f a0 a1 = some (r1, r2)) :
    Calls Try.prog 12 #[.int .i64 a0, .int .i64 a1] w fun e w' => e = .returned (.tuple #[.int .i64 r1, .int .i64 r2]) ∧ Below w.heap.size w w' := by
  obtain ⟨k_, hk_⟩ := MI.power_x _ _ h
  exact Go.Proofs.Ytbgiehmpdligdaa.PW.maths_Power.calls k_ a0 a1 r1 r2 w (hk_)

/-! ### foolscapref15_Power: function 13 -/
def foolscapref15_Power.f (a0 : Int) (a1 : Int) : Option (Int × Int) := some (Go.Proofs.Ytbgiehmpdligdaa.MI.powN a0 a1)
theorem foolscapref15_Power.calls (a0 : Int) (a1 : Int) (r1 : Int) (r2 : Int) (w : World) (h : foolscapref15_Power.f a0 a1 = some (r1, r2)) :
    Calls Try.prog 13 #[.int .i64 a0, .int .i64 a1] w fun e w' => e = .returned (.tuple #[.int .i64 r1, .int .i64 r2]) ∧ Below w.heap.size w w' := by
  obtain ⟨k_, hk_⟩ := MI.rpower_x _ _ h
  exact Go.Proofs.Ytbgiehmpdligdaa.PW.foolscapref15_Power.calls k_ a0 a1 r1 r2 w (hk_)

/-! ### maths_Root: function 14 -/
def maths_Root.f (a0 : Int) : Option (Int × Int) := some (Go.Proofs.Ytbgiehmpdligdaa.ME.rootN a0)
theorem maths_Root.calls (a0 : Int) (r1 : Int) (r2 : Int) (w : World) (h : maths_Root.f a0 = some (r1, r2)) :
    Calls Try.prog 14 #[.int .i64 a0] w fun e w' => e = .returned (.tuple #[.int .i64 r1, .int .i64 r2]) ∧ Below w.heap.size w w' :=
  Go.Proofs.Ytbgiehmpdligdaa.PW.maths_Root.calls 100 a0 r1 r2 w (Eq.trans (ME.root_eq _) h)

/-! ### foolscapref15_Root: function 15 -/
def foolscapref15_Root.f (a0 : Int) : Option (Int × Int) := some (Go.Proofs.Ytbgiehmpdligdaa.ME.rootN a0)
theorem foolscapref15_Root.calls (a0 : Int) (r1 : Int) (r2 : Int) (w : World) (h : foolscapref15_Root.f a0 = some (r1, r2)) :
    Calls Try.prog 15 #[.int .i64 a0] w fun e w' => e = .returned (.tuple #[.int .i64 r1, .int .i64 r2]) ∧ Drawn0 w w' :=
  Go.Proofs.Ytbgiehmpdligdaa.PW.foolscapref15_Root.calls 100 a0 r1 r2 w (Eq.trans (ME.rroot_eq _) h)

/-! ### maths_Fact: function 16 -/
def maths_Fact.f (a0 : Int) : Option (Int × Int) := some (Go.Proofs.Ytbgiehmpdligdaa.MI.factN a0)
theorem maths_Fact.calls (a0 : Int) (r1 : Int) (r2 : Int) (w : World) (h : maths_Fact.f a0 = some (r1, r2)) :
    Calls Try.prog 16 #[.int .i64 a0] w fun e w' => e = .returned (.tuple #[.int .i64 r1, .int .i64 r2]) ∧ Drawn0 w w' :=
  Go.Proofs.Ytbgiehmpdligdaa.PW.maths_Fact.calls 100 a0 r1 r2 w (Eq.trans (MI.fact_eq _) h)

/-! ### foolscapref15_Fact: function 17 -/
def foolscapref15_Fact.f (a0 : Int) : Option (Int × Int) := some (Go.Proofs.Ytbgiehmpdligdaa.MI.factN a0)
theorem foolscapref15_Fact.calls (a0 : Int) (r1 : Int) (r2 : Int) (w : World) (h : foolscapref15_Fact.f a0 = some (r1, r2)) :
    Calls Try.prog 17 #[.int .i64 a0] w fun e w' => e = .returned (.tuple #[.int .i64 r1, .int .i64 r2]) ∧ Drawn0 w w' :=
  Go.Proofs.Ytbgiehmpdligdaa.PW.foolscapref15_Fact.calls 100 a0 r1 r2 w (Eq.trans (MI.rfact_eq _) h)

/-! ### foolscaplaw15_lives: function 18 -/
def foolscaplaw15_lives.f  : Option (Bool) := some (true)
theorem foolscaplaw15_lives.calls  (r : Bool) (w : World) (h : foolscaplaw15_lives.f  = some r) :
    Calls Try.prog 18 #[] w fun e w' => e = .returned (.bool r) ∧ Below w.heap.size w w' :=
  Go.Proofs.Ytbgiehmpdligdaa.PW.foolscaplaw15_lives.calls 100 r w (Eq.trans (MB.lives_eq) h)

/-! ### foolscaplaw15_MathsPowers: function 3 -/
def foolscaplaw15_MathsPowers.f (a0 : Int) (a1 : Int) : Option (Bool) := (maths_Power.f a0 a1).bind fun bt101 => ((foolscapref15_Power.f a0 a1).bind fun bt103 => ((maths_Root.f a0).bind fun bt105 => ((foolscapref15_Root.f a0).bind fun bt107 => ((maths_Fact.f a0).bind fun bt109 => ((foolscapref15_Fact.f a0).bind fun bt111 => (if bt101.1 = bt103.1 then (if bt101.2 = bt103.2 then (if bt105.1 = bt107.1 then (if bt105.2 = bt107.2 then (if bt109.1 = bt111.1 then (if bt109.2 = bt111.2 then ((foolscaplaw15_lives.f).bind fun t113 => (some t113)) else (none)) else (none)) else (none)) else (none)) else (none)) else (none)))))))
set_option maxHeartbeats 8000000 in
set_option maxRecDepth 100000 in
theorem foolscaplaw15_MathsPowers.calls (a0 : Int) (a1 : Int) (r : Bool) (w : World) (h : foolscaplaw15_MathsPowers.f a0 a1 = some r) :
    Calls Try.prog 3 #[.int .i64 a0, .int .i64 a1] w fun e w' => e = .returned (.bool r) ∧ Below w.heap.size w w' := by
  have HB := Aside0.mk (Below.refl w.heap.size w)
  have H : ((maths_Power.f a0 a1).bind fun bt101 => ((foolscapref15_Power.f a0 a1).bind fun bt103 => ((maths_Root.f a0).bind fun bt105 => ((foolscapref15_Root.f a0).bind fun bt107 => ((maths_Fact.f a0).bind fun bt109 => ((foolscapref15_Fact.f a0).bind fun bt111 => (if bt101.1 = bt103.1 then (if bt101.2 = bt103.2 then (if bt105.1 = bt107.1 then (if bt105.2 = bt107.2 then (if bt109.1 = bt111.1 then (if bt109.2 = bt111.2 then ((foolscaplaw15_lives.f).bind fun t113 => (some t113)) else (none)) else (none)) else (none)) else (none)) else (none)) else (none)))))))) = some r := h
  clear h
  replace H := Option.bind_eq_some_iff.mp H
  obtain ⟨⟨t101, t102⟩, A30, H⟩ := H
  replace H : ((foolscapref15_Power.f a0 a1).bind fun bt103 => ((maths_Root.f a0).bind fun bt105 => ((foolscapref15_Root.f a0).bind fun bt107 => ((maths_Fact.f a0).bind fun bt109 => ((foolscapref15_Fact.f a0).bind fun bt111 => (if t101 = bt103.1 then (if t102 = bt103.2 then (if bt105.1 = bt107.1 then (if bt105.2 = bt107.2 then (if bt109.1 = bt111.1 then (if bt109.2 = bt111.2 then ((foolscaplaw15_lives.f).bind fun t113 => (some t113)) else (none)) else (none)) else (none)) else (none)) else (none)) else (none))))))) = some r := H
  have A3 := Aside0.mk A30
  clear A30
  replace H := Option.bind_eq_some_iff.mp H
  obtain ⟨⟨t103, t104⟩, A40, H⟩ := H
  replace H : ((maths_Root.f a0).bind fun bt105 => ((foolscapref15_Root.f a0).bind fun bt107 => ((maths_Fact.f a0).bind fun bt109 => ((foolscapref15_Fact.f a0).bind fun bt111 => (if t101 = t103 then (if t102 = t104 then (if bt105.1 = bt107.1 then (if bt105.2 = bt107.2 then (if bt109.1 = bt111.1 then (if bt109.2 = bt111.2 then ((foolscaplaw15_lives.f).bind fun t113 => (some t113)) else (none)) else (none)) else (none)) else (none)) else (none)) else (none)))))) = some r := H
  have A4 := Aside0.mk A40
  clear A40
  replace H := Option.bind_eq_some_iff.mp H
  obtain ⟨⟨t105, t106⟩, A50, H⟩ := H
  replace H : ((foolscapref15_Root.f a0).bind fun bt107 => ((maths_Fact.f a0).bind fun bt109 => ((foolscapref15_Fact.f a0).bind fun bt111 => (if t101 = t103 then (if t102 = t104 then (if t105 = bt107.1 then (if t106 = bt107.2 then (if bt109.1 = bt111.1 then (if bt109.2 = bt111.2 then ((foolscaplaw15_lives.f).bind fun t113 => (some t113)) else (none)) else (none)) else (none)) else (none)) else (none)) else (none))))) = some r := H
  have A5 := Aside0.mk A50
  clear A50
  replace H := Option.bind_eq_some_iff.mp H
  obtain ⟨⟨t107, t108⟩, A60, H⟩ := H
  replace H : ((maths_Fact.f a0).bind fun bt109 => ((foolscapref15_Fact.f a0).bind fun bt111 => (if t101 = t103 then (if t102 = t104 then (if t105 = t107 then (if t106 = t108 then (if bt109.1 = bt111.1 then (if bt109.2 = bt111.2 then ((foolscaplaw15_lives.f).bind fun t113 => (some t113)) else (none)) else (none)) else (none)) else (none)) else (none)) else (none)))) = some r := H
  have A6 := Aside0.mk A60
  clear A60
  replace H := Option.bind_eq_some_iff.mp H
  obtain ⟨⟨t109, t110⟩, A70, H⟩ := H
  replace H : ((foolscapref15_Fact.f a0).bind fun bt111 => (if t101 = t103 then (if t102 = t104 then (if t105 = t107 then (if t106 = t108 then (if t109 = bt111.1 then (if t110 = bt111.2 then ((foolscaplaw15_lives.f).bind fun t113 => (some t113)) else (none)) else (none)) else (none)) else (none)) else (none)) else (none))) = some r := H
  have A7 := Aside0.mk A70
  clear A70
  replace H := Option.bind_eq_some_iff.mp H
  obtain ⟨⟨t111, t112⟩, A80, H⟩ := H
  replace H : (if t101 = t103 then (if t102 = t104 then (if t105 = t107 then (if t106 = t108 then (if t109 = t111 then (if t110 = t112 then ((foolscaplaw15_lives.f).bind fun t113 => (some t113)) else (none)) else (none)) else (none)) else (none)) else (none)) else (none)) = some r := H
  have A8 := Aside0.mk A80
  clear A80
  by_cases c9 : t101 = t103
  · rw [if_pos c9] at H
    have c9b0 : (t101 == t103) = true := beq_iff_eq.mpr c9
    have c9b1 : (t101 != t103) = false := bne_eq_false_iff_eq.mpr c9
    clear c9
    by_cases c10 : t102 = t104
    · rw [if_pos c10] at H
      have c10b0 : (t102 == t104) = true := beq_iff_eq.mpr c10
      have c10b1 : (t102 != t104) = false := bne_eq_false_iff_eq.mpr c10
      clear c10
      by_cases c11 : t105 = t107
      · rw [if_pos c11] at H
        have c11b0 : (t105 == t107) = true := beq_iff_eq.mpr c11
        have c11b1 : (t105 != t107) = false := bne_eq_false_iff_eq.mpr c11
        clear c11
        by_cases c12 : t106 = t108
        · rw [if_pos c12] at H
          have c12b0 : (t106 == t108) = true := beq_iff_eq.mpr c12
          have c12b1 : (t106 != t108) = false := bne_eq_false_iff_eq.mpr c12
          clear c12
          by_cases c13 : t109 = t111
          · rw [if_pos c13] at H
            have c13b0 : (t109 == t111) = true := beq_iff_eq.mpr c13
            have c13b1 : (t109 != t111) = false := bne_eq_false_iff_eq.mpr c13
            clear c13
            by_cases c14 : t110 = t112
            · rw [if_pos c14] at H
              have c14b0 : (t110 == t112) = true := beq_iff_eq.mpr c14
              have c14b1 : (t110 != t112) = false := bne_eq_false_iff_eq.mpr c14
              clear c14
              replace H := Option.bind_eq_some_iff.mp H
              obtain ⟨t113, A150, H⟩ := H
              replace H : (some t113) = some r := H
              have A15 := Aside0.mk A150
              clear A150
              obtain rfl := Option.some.inj H
              go_enter Try.func3, Try.ntmps3
              go_wp2_with (first | ((with_reducible refine gate_callee (f := 12) rfl ?_); refine goesL_ (some 20) rfl rfl Try.func12 (by kernel_rfl) rfl #[.int .i64 a0, .int .i64 a1] rfl (by (try simp only [List.map_toArray, List.map_cons, List.map_nil]); first | done | rfl | (simp only [List.length_drop, List.length_take]; rfl)) ?_; (with_reducible refine (maths_Power.calls a0 a1 t101 t102 _ A3.out).mono ?_); rintro e w16 ⟨rfl, hb⟩; refine ⟨_, rfl, ?_⟩; have n0_ := Aside0.mk (below_step (by repeat (first | (with_reducible first | exact HB.out | apply below_alloc | apply pw_below_drewN | apply below_drew1) | exact HB.out)) hb); clear HB; have HB := n0_; clear n0_; (try clear hb); (try clear hb2); (try clear hk); (try clear hi)) | ((with_reducible refine gate_callee (f := 13) rfl ?_); refine goesL_ (some 26) rfl rfl Try.func13 (by kernel_rfl) rfl #[.int .i64 a0, .int .i64 a1] rfl (by (try simp only [List.map_toArray, List.map_cons, List.map_nil]); first | done | rfl | (simp only [List.length_drop, List.length_take]; rfl)) ?_; (with_reducible refine (foolscapref15_Power.calls a0 a1 t103 t104 _ A4.out).mono ?_); rintro e w17 ⟨rfl, hb⟩; refine ⟨_, rfl, ?_⟩; have n0_ := Aside0.mk (below_step (by repeat (first | (with_reducible first | exact HB.out | apply below_alloc | apply pw_below_drewN | apply below_drew1) | exact HB.out)) hb); clear HB; have HB := n0_; clear n0_; (try clear hb); (try clear hb2); (try clear hk); (try clear hi)) | ((with_reducible refine gate_callee (f := 14) rfl ?_); refine goesL_ (some 31) rfl rfl Try.func14 (by kernel_rfl) rfl #[.int .i64 a0] rfl (by (try simp only [List.map_toArray, List.map_cons, List.map_nil]); first | done | rfl | (simp only [List.length_drop, List.length_take]; rfl)) ?_; (with_reducible refine (maths_Root.calls a0 t105 t106 _ A5.out).mono ?_); rintro e w18 ⟨rfl, hb⟩; refine ⟨_, rfl, ?_⟩; have n0_ := Aside0.mk (below_step (by repeat (first | (with_reducible first | exact HB.out | apply below_alloc | apply pw_below_drewN | apply below_drew1) | exact HB.out)) hb); clear HB; have HB := n0_; clear n0_; (try clear hb); (try clear hb2); (try clear hk); (try clear hi)) | ((with_reducible refine gate_callee (f := 15) rfl ?_); refine goesL_ (some 36) rfl rfl Try.func15 (by kernel_rfl) rfl #[.int .i64 a0] rfl (by (try simp only [List.map_toArray, List.map_cons, List.map_nil]); first | done | rfl | (simp only [List.length_drop, List.length_take]; rfl)) ?_; (with_reducible refine (foolscapref15_Root.calls a0 t107 t108 _ A6.out).mono ?_); rintro e w' ⟨rfl, ⟨nd, rfl⟩⟩; refine ⟨_, rfl, ?_⟩) | ((with_reducible refine gate_callee (f := 16) rfl ?_); refine goesL_ (some 41) rfl rfl Try.func16 (by kernel_rfl) rfl #[.int .i64 a0] rfl (by (try simp only [List.map_toArray, List.map_cons, List.map_nil]); first | done | rfl | (simp only [List.length_drop, List.length_take]; rfl)) ?_; (with_reducible refine (maths_Fact.calls a0 t109 t110 _ A7.out).mono ?_); rintro e w' ⟨rfl, ⟨nd, rfl⟩⟩; refine ⟨_, rfl, ?_⟩) | ((with_reducible refine gate_callee (f := 17) rfl ?_); refine goesL_ (some 46) rfl rfl Try.func17 (by kernel_rfl) rfl #[.int .i64 a0] rfl (by (try simp only [List.map_toArray, List.map_cons, List.map_nil]); first | done | rfl | (simp only [List.length_drop, List.length_take]; rfl)) ?_; (with_reducible refine (foolscapref15_Fact.calls a0 t111 t112 _ A8.out).mono ?_); rintro e w' ⟨rfl, ⟨nd, rfl⟩⟩; refine ⟨_, rfl, ?_⟩) | (go_at_call 18; (with_reducible refine (foolscaplaw15_lives.calls  t113 _ A15.out).mono ?_); rintro e w19 ⟨rfl, hb⟩; have n0_ := Aside0.mk (below_step (by repeat (first | (with_reducible first | exact HB.out | apply below_alloc | apply pw_below_drewN | apply below_drew1) | exact HB.out)) hb); clear HB; have HB := n0_; clear n0_; (try clear hb); (try clear hb2); (try clear hk); (try clear hi)))
              go_ret
              exact ⟨by first | rfl | (simp [errW_none, errW_some] <;> rfl) | (simp [*, errW_none, errW_some] <;> rfl), by repeat (first | (with_reducible first | exact HB.out | apply below_alloc | apply pw_below_drewN | apply below_drew1) | exact HB.out)⟩
            · rw [if_neg c14] at H
              exact absurd H (by simp)
          · rw [if_neg c13] at H
            exact absurd H (by simp)
        · rw [if_neg c12] at H
          exact absurd H (by simp)
      · rw [if_neg c11] at H
        exact absurd H (by simp)
    · rw [if_neg c10] at H
      exact absurd H (by simp)
  · rw [if_neg c9] at H
    exact absurd H (by simp)

/-- THE ONE PURE STATEMENT of foolscaplaw15_MathsPowers: yours. -/
def foolscaplaw15_MathsPowers.Pure : Prop := ∀ (a0 : Int) (a1 : Int), (Lit.int .i64 a0).wf = true → (Lit.int .i64 a1).wf = true → foolscaplaw15_MathsPowers.f a0 a1 = some true
theorem foolscaplaw15_MathsPowers.walk (P : foolscaplaw15_MathsPowers.Pure) (a0 : Int) (a1 : Int) (w : World) (w0 : (Lit.int .i64 a0).wf = true) (w1 : (Lit.int .i64 a1).wf = true) :
    Calls Try.prog 3 #[.int .i64 a0, .int .i64 a1] w fun e w' => e = .returned (.bool true) ∧ Below w.heap.size w w' := by
  have h := P a0 a1 w0 w1
  refine (foolscaplaw15_MathsPowers.calls a0 a1 true w h).mono ?_
  rintro e w' ⟨rfl, hd⟩
  exact ⟨rfl, hd⟩

end Go.Proofs.Ytbgiehmpdligdaa.PMathsPowers
