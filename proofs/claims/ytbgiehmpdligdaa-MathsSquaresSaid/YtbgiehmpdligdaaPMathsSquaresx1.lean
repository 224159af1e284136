-- By wip/tools/printplus.py of this session, over the kit's print; what is by hand in it is this session's own.
import Derived.Test.YtbgiehmpdligdaaPMathsSquaresx0
namespace Go.Proofs.Ytbgiehmpdligdaa.PMathsSquares
open Go.RowKit Go.Proofs.YtbgiehmpdligdaaW.PrintWords Go.Proofs.YtbgiehmpdligdaaW.PrintLast Go.Proofs.YtbgiehmpdligdaaW.PrintMore
attribute [local go_sem] max2_int min2_int max_two min_two max_three min_three max_four min_four   -- for this text's walks alone
set_option linter.unusedVariables false
set_option linter.unusedSimpArgs false

/-! ### maths_Power: function 12 -/
def maths_Power.f (a0 : Int) (a1 : Int) : Option (Int × Int) := Go.Proofs.Ytbgiehmpdligdaa.MF.pow2C a0 a1
theorem maths_Power.calls (a0 : Int) (a1 : Int) (r1 : Int) (r2 : Int) (w : World) (h : maths_Power.f a0 a1 = some (r1, r2)) :
    Calls Try.prog 12 #[.int .i64 a0, .int .i64 a1] w fun e w' => e = .returned (.tuple #[.int .i64 r1, .int .i64 r2]) ∧ Below w.heap.size w w' :=
  Go.Proofs.Ytbgiehmpdligdaa.PG.maths_Power.calls 100 a0 a1 r1 r2 w (MF.pow2_c h)

/-! ### maths_Root: function 14 -/
def maths_Root.f (a0 : Int) : Option (Int × Int) := some (Go.Proofs.Ytbgiehmpdligdaa.ME.rootN a0)
theorem maths_Root.calls (a0 : Int) (r1 : Int) (r2 : Int) (w : World) (h : maths_Root.f a0 = some (r1, r2)) :
    Calls Try.prog 14 #[.int .i64 a0] w fun e w' => e = .returned (.tuple #[.int .i64 r1, .int .i64 r2]) ∧ Below w.heap.size w w' :=
  Go.Proofs.Ytbgiehmpdligdaa.PG.maths_Root.calls 100 a0 r1 r2 w (Eq.trans (ME.root_eq _) h)

/-! ### foolscaplaw15_lives: function 18 -/
def foolscaplaw15_lives.f  : Option (Bool) := some (true)
theorem foolscaplaw15_lives.calls  (r : Bool) (w : World) (h : foolscaplaw15_lives.f  = some r) :
    Calls Try.prog 18 #[] w fun e w' => e = .returned (.bool r) ∧ Below w.heap.size w w' :=
  Go.Proofs.Ytbgiehmpdligdaa.PG.foolscaplaw15_lives.calls 100 r w (Eq.trans (MB.lives_eq) h)

/-! ### foolscaplaw15_MathsSquares: function 5 -/
def foolscaplaw15_MathsSquares.j0 : Nat → Int → Bool → Option (Bool)
  | 0, _, _ => none
  | k + 1, x0, x12 => if x12 = true then ((foolscaplaw15_lives.f).bind fun t101 => (some t101)) else ((maths_Root.f (wrap64 ((wrap64 (x0 * x0)) * 1000000))).bind fun bt102 => ((maths_Power.f (wrap64 (x0 * 1000000)) 2000000).bind fun bt104 => (if bt102.1 = (wrap64 (x0 * 1000000)) then (if bt102.2 = 0 then (if bt104.1 = (wrap64 ((wrap64 (x0 * x0)) * 1000000)) then (if bt104.2 = 0 then ((foolscaplaw15_lives.f).bind fun t106 => (some t106)) else (none)) else (none)) else (none)) else (none))))
def foolscaplaw15_MathsSquares.f (k : Nat) (a0 : Int) : Option (Bool) := if a0 < 0 then (foolscaplaw15_MathsSquares.j0 k a0 true) else (foolscaplaw15_MathsSquares.j0 k a0 (decide (a0 > 1000000)))
theorem foolscaplaw15_MathsSquares.mono_l : ∀ k, (∀ y0 y1, LeO (foolscaplaw15_MathsSquares.j0 k y0 y1) (foolscaplaw15_MathsSquares.j0 (k + 1) y0 y1))
  | 0 => fun _ _ r h => by simp [foolscaplaw15_MathsSquares.j0] at h
  | k + 1 => by
    have ih0 := foolscaplaw15_MathsSquares.mono_l k
    · intro y0 y1
      unfold foolscaplaw15_MathsSquares.j0
      repeat' first
      | (with_reducible exact ih0 _ _)
      | (with_reducible exact LeO.refl _)
      | (with_reducible exact LeO.none _)
      | (with_reducible refine LeO.ite ?_ ?_)
      | (with_reducible refine LeO.bind ?_ (fun _ => ?_))
      | exact ih0 _ _
      | exact LeO.none _
      | refine LeO.ite ?_ ?_
      | refine LeO.bind ?_ (fun _ => ?_)
theorem foolscaplaw15_MathsSquares.mono : ∀ a0 k, LeO (foolscaplaw15_MathsSquares.f k a0) (foolscaplaw15_MathsSquares.f (k + 1) a0) := by
  intro a0 k
  have ih0 := foolscaplaw15_MathsSquares.mono_l k
  unfold foolscaplaw15_MathsSquares.f
  repeat' first
      | (with_reducible exact ih0 _ _)
      | (with_reducible exact LeO.refl _)
      | (with_reducible exact LeO.none _)
      | (with_reducible refine LeO.ite ?_ ?_)
      | (with_reducible refine LeO.bind ?_ (fun _ => ?_))
      | exact ih0 _ _
      | exact LeO.none _
      | refine LeO.ite ?_ ?_
      | refine LeO.bind ?_ (fun _ => ?_)
set_option maxHeartbeats 8000000 in
set_option maxRecDepth 100000 in
theorem foolscaplaw15_MathsSquares.calls (k : Nat) (a0 : Int) (r : Bool) (w : World) (h : foolscaplaw15_MathsSquares.f k a0 = some r) :
    Calls Try.prog 5 #[.int .i64 a0] w fun e w' => e = .returned (.bool r) ∧ Below w.heap.size w w' := by
  have HB := Aside0.mk (Below.refl w.heap.size w)
  have H : (if a0 < 0 then (foolscaplaw15_MathsSquares.j0 k a0 true) else (foolscaplaw15_MathsSquares.j0 k a0 (decide (a0 > 1000000)))) = some r := h
  clear h
  have HC2 := Aside0.mk H
  clear H
  go_enter Try.func5, Try.ntmps5
  go_upto_region 1 with (fail)
  go_cut [12] (fun v12 wc => ∃ (kq : Nat) (x12_1 : Bool), v12 = .bool x12_1 ∧ Aside0 (foolscaplaw15_MathsSquares.j0 kq a0 x12_1 = some r) ∧ Aside0 (kq ≤ k) ∧ Aside0 (Below w.heap.size w wc))
  case first =>
    have H := HC2.out
    clear HC2
    by_cases c3 : a0 < 0
    · rw [if_pos c3] at H
      have c3b0 : decide (a0 < 0) = true := decide_eq_true c3
      clear c3
      (first | rw [c3b0] | (simp only [i64_w, i32_w]; rw [c3b0]) | skip)
      have H' := Aside0.mk H
      clear H
      go_wp2
      go_meet
      case rel => exact ⟨_, (true), (by first | rfl | (simp; done) | (simp [*]; done)), H', ⟨by first | omega | exact Nat.le_refl _⟩, ⟨by repeat (first | (with_reducible first | exact HB.out | apply below_alloc | apply pw_below_drewN | apply below_drew1) | exact HB.out)⟩⟩
    · rw [if_neg c3] at H
      have c3b0 : decide (a0 < 0) = false := decide_eq_false c3
      clear c3
      (first | rw [c3b0] | (simp only [i64_w, i32_w]; rw [c3b0]) | skip)
      have H' := Aside0.mk H
      clear H
      go_wp2
      go_meet
      case rel => exact ⟨_, (decide (a0 > 1000000)), (by first | rfl | (simp; done) | (simp [*]; done)), H', ⟨by first | omega | exact Nat.le_refl _⟩, ⟨by repeat (first | (with_reducible first | exact HB.out | apply below_alloc | apply pw_below_drewN | apply below_drew1) | exact HB.out)⟩⟩
  case rest =>
    clear HC2
    try clear p2
    try clear c3
    try clear c3b0
    obtain ⟨kq, x12_1, rfl, HA, HJ1, HB⟩ := hcut
    cases kq with
    | zero => exact absurd HA.out (by simp [foolscaplaw15_MathsSquares.j0])
    | succ kj1 =>
      have H := HA.out
      clear HA
      simp only [foolscaplaw15_MathsSquares.j0] at H
      by_cases c4 : x12_1 = true
      · subst c4
        have H1 : ((foolscaplaw15_lives.f).bind fun t101 => (some t101)) = some r := by rw [if_pos rfl] at H; exact H
        clear H
        have H := H1
        clear H1
        replace H := Option.bind_eq_some_iff.mp H
        obtain ⟨t101, A50, H⟩ := H
        replace H : (some t101) = some r := H
        have A5 := Aside0.mk A50
        clear A50
        obtain rfl := Option.some.inj H
        go_wp2_with (first | ((with_reducible refine gate_callee (f := 18) rfl ?_); refine goesL_ (some 13) rfl rfl Try.func18 (by kernel_rfl) rfl #[] rfl (by (try simp only [List.map_toArray, List.map_cons, List.map_nil]); first | done | rfl | (simp only [List.length_drop, List.length_take]; rfl)) ?_; (with_reducible refine (foolscaplaw15_lives.calls  t101 _ A5.out).mono ?_); rintro e w6 ⟨rfl, hb⟩; refine ⟨_, rfl, ?_⟩; have n0_ := Aside0.mk (below_step (by repeat (first | (with_reducible first | exact HB.out | apply below_alloc | apply pw_below_drewN | apply below_drew1) | exact HB.out)) hb); clear HB; have HB := n0_; clear n0_; (try clear hb); (try clear hb2); (try clear hk); (try clear hi)))
        go_ret
        exact ⟨by first | rfl | (simp [errW_none, errW_some] <;> rfl) | (simp [*, errW_none, errW_some] <;> rfl), by repeat (first | (with_reducible first | exact HB.out | apply below_alloc | apply pw_below_drewN | apply below_drew1) | exact HB.out)⟩
      · replace c4 := Bool.eq_false_iff.mpr c4
        subst c4
        have H1 : ((maths_Root.f (wrap64 ((wrap64 (a0 * a0)) * 1000000))).bind fun bt102 => ((maths_Power.f (wrap64 (a0 * 1000000)) 2000000).bind fun bt104 => (if bt102.1 = (wrap64 (a0 * 1000000)) then (if bt102.2 = 0 then (if bt104.1 = (wrap64 ((wrap64 (a0 * a0)) * 1000000)) then (if bt104.2 = 0 then ((foolscaplaw15_lives.f).bind fun t106 => (some t106)) else (none)) else (none)) else (none)) else (none)))) = some r := by rw [if_neg (show ¬ (false = true) by decide)] at H; exact H
        clear H
        have H := H1
        clear H1
        replace H := Option.bind_eq_some_iff.mp H
        obtain ⟨⟨t102, t103⟩, A70, H⟩ := H
        replace H : ((maths_Power.f (wrap64 (a0 * 1000000)) 2000000).bind fun bt104 => (if t102 = (wrap64 (a0 * 1000000)) then (if t103 = 0 then (if bt104.1 = (wrap64 ((wrap64 (a0 * a0)) * 1000000)) then (if bt104.2 = 0 then ((foolscaplaw15_lives.f).bind fun t106 => (some t106)) else (none)) else (none)) else (none)) else (none))) = some r := H
        have A7 := Aside0.mk A70
        clear A70
        replace H := Option.bind_eq_some_iff.mp H
        obtain ⟨⟨t104, t105⟩, A80, H⟩ := H
        replace H : (if t102 = (wrap64 (a0 * 1000000)) then (if t103 = 0 then (if t104 = (wrap64 ((wrap64 (a0 * a0)) * 1000000)) then (if t105 = 0 then ((foolscaplaw15_lives.f).bind fun t106 => (some t106)) else (none)) else (none)) else (none)) else (none)) = some r := H
        have A8 := Aside0.mk A80
        clear A80
        by_cases c9 : t102 = (wrap64 (a0 * 1000000))
        · rw [if_pos c9] at H
          have c9b0 : (t102 == (wrap64 (a0 * 1000000))) = true := beq_iff_eq.mpr c9
          have c9b1 : (t102 != (wrap64 (a0 * 1000000))) = false := bne_eq_false_iff_eq.mpr c9
          clear c9
          by_cases c10 : t103 = 0
          · rw [if_pos c10] at H
            have c10b0 : (t103 == 0) = true := beq_iff_eq.mpr c10
            have c10b1 : (t103 != 0) = false := bne_eq_false_iff_eq.mpr c10
            clear c10
            by_cases c11 : t104 = (wrap64 ((wrap64 (a0 * a0)) * 1000000))
            · rw [if_pos c11] at H
              have c11b0 : (t104 == (wrap64 ((wrap64 (a0 * a0)) * 1000000))) = true := beq_iff_eq.mpr c11
              have c11b1 : (t104 != (wrap64 ((wrap64 (a0 * a0)) * 1000000))) = false := bne_eq_false_iff_eq.mpr c11
              clear c11
              by_cases c12 : t105 = 0
              · rw [if_pos c12] at H
                have c12b0 : (t105 == 0) = true := beq_iff_eq.mpr c12
                have c12b1 : (t105 != 0) = false := bne_eq_false_iff_eq.mpr c12
                clear c12
                replace H := Option.bind_eq_some_iff.mp H
                obtain ⟨t106, A130, H⟩ := H
                replace H : (some t106) = some r := H
                have A13 := Aside0.mk A130
                clear A130
                obtain rfl := Option.some.inj H
                go_wp2_with (first | ((with_reducible refine gate_callee (f := 14) rfl ?_); refine goesL_ (some 19) rfl rfl Try.func14 (by kernel_rfl) rfl #[.int .i64 (wrap64 ((wrap64 (a0 * a0)) * 1000000))] rfl (by (try simp only [List.map_toArray, List.map_cons, List.map_nil]); first | done | rfl | (simp only [List.length_drop, List.length_take]; rfl)) ?_; (with_reducible refine (maths_Root.calls (wrap64 ((wrap64 (a0 * a0)) * 1000000)) t102 t103 _ A7.out).mono ?_); rintro e w14 ⟨rfl, hb⟩; refine ⟨_, rfl, ?_⟩; have n0_ := Aside0.mk (below_step (by repeat (first | (with_reducible first | exact HB.out | apply below_alloc | apply pw_below_drewN | apply below_drew1) | exact HB.out)) hb); clear HB; have HB := n0_; clear n0_; (try clear hb); (try clear hb2); (try clear hk); (try clear hi)) | ((with_reducible refine gate_callee (f := 12) rfl ?_); refine goesL_ (some 25) rfl rfl Try.func12 (by kernel_rfl) rfl #[.int .i64 (wrap64 (a0 * 1000000)), .int .i64 2000000] rfl (by (try simp only [List.map_toArray, List.map_cons, List.map_nil]); first | done | rfl | (simp only [List.length_drop, List.length_take]; rfl)) ?_; (with_reducible refine (maths_Power.calls (wrap64 (a0 * 1000000)) 2000000 t104 t105 _ A8.out).mono ?_); rintro e w15 ⟨rfl, hb⟩; refine ⟨_, rfl, ?_⟩; have n0_ := Aside0.mk (below_step (by repeat (first | (with_reducible first | exact HB.out | apply below_alloc | apply pw_below_drewN | apply below_drew1) | exact HB.out)) hb); clear HB; have HB := n0_; clear n0_; (try clear hb); (try clear hb2); (try clear hk); (try clear hi)) | (go_at_call 18; (with_reducible refine (foolscaplaw15_lives.calls  t106 _ A13.out).mono ?_); rintro e w16 ⟨rfl, hb⟩; have n0_ := Aside0.mk (below_step (by repeat (first | (with_reducible first | exact HB.out | apply below_alloc | apply pw_below_drewN | apply below_drew1) | exact HB.out)) hb); clear HB; have HB := n0_; clear n0_; (try clear hb); (try clear hb2); (try clear hk); (try clear hi)))
                go_ret
                exact ⟨by first | rfl | (simp [errW_none, errW_some] <;> rfl) | (simp [*, errW_none, errW_some] <;> rfl), by repeat (first | (with_reducible first | exact HB.out | apply below_alloc | apply pw_below_drewN | apply below_drew1) | exact HB.out)⟩
              · rw [if_neg c12] at H
                exact absurd H (by simp)
            · rw [if_neg c11] at H
              exact absurd H (by simp)
          · rw [if_neg c10] at H
            exact absurd H (by simp)
        · rw [if_neg c9] at H
          exact absurd H (by simp)

/-- THE ONE PURE STATEMENT of foolscaplaw15_MathsSquares: yours. -/
def foolscaplaw15_MathsSquares.Pure : Prop := ∀ (a0 : Int), (Lit.int .i64 a0).wf = true → ∃ k, foolscaplaw15_MathsSquares.f k a0 = some true
theorem foolscaplaw15_MathsSquares.walk (P : foolscaplaw15_MathsSquares.Pure) (a0 : Int) (w : World) (w0 : (Lit.int .i64 a0).wf = true) :
    Calls Try.prog 5 #[.int .i64 a0] w fun e w' => e = .returned (.bool true) ∧ Below w.heap.size w w' := by
  obtain ⟨k, h⟩ := P a0 w0
  refine (foolscaplaw15_MathsSquares.calls k a0 true w h).mono ?_
  rintro e w' ⟨rfl, hd⟩
  exact ⟨rfl, hd⟩

end Go.Proofs.Ytbgiehmpdligdaa.PMathsSquares
