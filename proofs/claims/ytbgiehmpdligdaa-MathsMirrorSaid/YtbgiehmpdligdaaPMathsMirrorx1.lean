-- By wip/tools/printplus.py of this session, over the kit's print; what is by hand in it is this session's own.
import Derived.Test.YtbgiehmpdligdaaPMathsMirrorx0
namespace Go.Proofs.Ytbgiehmpdligdaa.PMathsMirror
open Go.RowKit Go.Proofs.YtbgiehmpdligdaaW.PrintWords Go.Proofs.YtbgiehmpdligdaaW.PrintLast Go.Proofs.YtbgiehmpdligdaaW.PrintMore
attribute [local go_sem] max2_int min2_int max_two min_two max_three min_three max_four min_four   -- for this text's walks alone
set_option linter.unusedVariables false
set_option linter.unusedSimpArgs false

/-! ### foolscaplaw15_lives: function 18 -/
def foolscaplaw15_lives.f  : Option (Bool) := some (true)
theorem foolscaplaw15_lives.calls  (r : Bool) (w : World) (h : foolscaplaw15_lives.f  = some r) :
    Calls Try.prog 18 #[] w fun e w' => e = .returned (.bool r) ∧ Below w.heap.size w w' :=
  Go.Proofs.Ytbgiehmpdligdaa.PG.foolscaplaw15_lives.calls 100 r w (Eq.trans (MB.lives_eq) h)

/-! ### num_Fits: function 19 -/
def num_Fits.f (a0 : Int) : Option (Bool) := some (decide (Go.Proofs.Ytbgiehmpdligdaa.MA.fits a0))
theorem num_Fits.calls (a0 : Int) (r : Bool) (w : World) (h : num_Fits.f a0 = some r) :
    Calls Try.prog 19 #[.int .i64 a0] w fun e w' => e = .returned (.bool r) ∧ Drawn0 w w' :=
  Go.Proofs.Ytbgiehmpdligdaa.PG.num_Fits.calls a0 r w (Eq.trans (MA.fits_eq _) h)

/-! ### maths_Up: function 26 -/
def maths_Up.f (a0 : Int) (a1 : Int) : Option (Int × Int) := some (Go.Proofs.Ytbgiehmpdligdaa.MA.upN a0 a1)
theorem maths_Up.calls (a0 : Int) (a1 : Int) (r1 : Int) (r2 : Int) (w : World) (h : maths_Up.f a0 a1 = some (r1, r2)) :
    Calls Try.prog 26 #[.int .i64 a0, .int .i64 a1] w fun e w' => e = .returned (.tuple #[.int .i64 r1, .int .i64 r2]) ∧ Drawn0 w w' :=
  Go.Proofs.Ytbgiehmpdligdaa.PG.maths_Up.calls 100 a0 a1 r1 r2 w (Eq.trans (MA.up_eq _ _) h)

/-! ### maths_Floor: function 28 -/
def maths_Floor.f (a0 : Int) (a1 : Int) : Option (Int × Int) := some (Go.Proofs.Ytbgiehmpdligdaa.MB.nearN a0 a1 false)
theorem maths_Floor.calls (a0 : Int) (a1 : Int) (r1 : Int) (r2 : Int) (w : World) (h : maths_Floor.f a0 a1 = some (r1, r2)) :
    Calls Try.prog 28 #[.int .i64 a0, .int .i64 a1] w fun e w' => e = .returned (.tuple #[.int .i64 r1, .int .i64 r2]) ∧ Below w.heap.size w w' :=
  Go.Proofs.Ytbgiehmpdligdaa.PG.maths_Floor.calls 100 a0 a1 r1 r2 w (Eq.trans (MB.floor_eq _ _) h)

/-! ### maths_Ceiling: function 29 -/
def maths_Ceiling.f (a0 : Int) (a1 : Int) : Option (Int × Int) := some (Go.Proofs.Ytbgiehmpdligdaa.MB.nearN a0 a1 true)
theorem maths_Ceiling.calls (a0 : Int) (a1 : Int) (r1 : Int) (r2 : Int) (w : World) (h : maths_Ceiling.f a0 a1 = some (r1, r2)) :
    Calls Try.prog 29 #[.int .i64 a0, .int .i64 a1] w fun e w' => e = .returned (.tuple #[.int .i64 r1, .int .i64 r2]) ∧ Below w.heap.size w w' :=
  Go.Proofs.Ytbgiehmpdligdaa.PG.maths_Ceiling.calls 100 a0 a1 r1 r2 w (Eq.trans (MB.ceil_eq _ _) h)

/-! ### maths_Even: function 30 -/
def maths_Even.f (a0 : Int) : Option (Int × Int) := some (Go.Proofs.Ytbgiehmpdligdaa.MA.parN a0 false)
theorem maths_Even.calls (a0 : Int) (r1 : Int) (r2 : Int) (w : World) (h : maths_Even.f a0 = some (r1, r2)) :
    Calls Try.prog 30 #[.int .i64 a0] w fun e w' => e = .returned (.tuple #[.int .i64 r1, .int .i64 r2]) ∧ Below w.heap.size w w' :=
  Go.Proofs.Ytbgiehmpdligdaa.PG.maths_Even.calls 100 a0 r1 r2 w (Eq.trans (MA.even_eq _) h)

/-! ### foolscaplaw15_MathsMirror: function 9 -/
def foolscaplaw15_MathsMirror.j0 : Nat → Int → Int → Int → Bool → Option (Bool)
  | 0, _, _, _, _ => none
  | k + 1, x0, x1, x2, x34 => if x34 = true then ((foolscaplaw15_lives.f).bind fun t103 => (some t103)) else ((maths_Up.f x0 x1).bind fun bt104 => ((maths_Up.f (wrap64 (-x0)) x1).bind fun bt106 => ((maths_Even.f x0).bind fun bt108 => ((maths_Even.f (wrap64 (-x0))).bind fun bt110 => ((maths_Floor.f x0 x2).bind fun bt112 => ((maths_Ceiling.f (wrap64 (-x0)) x2).bind fun bt114 => (if bt104.1 = (wrap64 (-bt106.1)) then (if bt104.2 = bt106.2 then (if bt108.1 = (wrap64 (-bt110.1)) then (if bt108.2 = bt110.2 then (if bt112.1 = (wrap64 (-bt114.1)) then (if bt112.2 = bt114.2 then ((foolscaplaw15_lives.f).bind fun t116 => (some t116)) else (none)) else (none)) else (none)) else (none)) else (none)) else (none))))))))
def foolscaplaw15_MathsMirror.f (k : Nat) (a0 : Int) (a1 : Int) (a2 : Int) : Option (Bool) := (num_Fits.f a0).bind fun t101 => (if t101 = true then (if a0 = 0 then (foolscaplaw15_MathsMirror.j0 k a0 a1 a2 true) else (if a2 < 1 then (foolscaplaw15_MathsMirror.j0 k a0 a1 a2 true) else ((num_Fits.f a2).bind fun t102 => (foolscaplaw15_MathsMirror.j0 k a0 a1 a2 (!t102))))) else (foolscaplaw15_MathsMirror.j0 k a0 a1 a2 true))
theorem foolscaplaw15_MathsMirror.mono_l : ∀ k, (∀ y0 y1 y2 y3, LeO (foolscaplaw15_MathsMirror.j0 k y0 y1 y2 y3) (foolscaplaw15_MathsMirror.j0 (k + 1) y0 y1 y2 y3))
  | 0 => fun _ _ _ _ r h => by simp [foolscaplaw15_MathsMirror.j0] at h
  | k + 1 => by
    have ih0 := foolscaplaw15_MathsMirror.mono_l k
    · intro y0 y1 y2 y3
      unfold foolscaplaw15_MathsMirror.j0
      repeat' first
      | (with_reducible exact ih0 _ _ _ _)
      | (with_reducible exact LeO.refl _)
      | (with_reducible exact LeO.none _)
      | (with_reducible refine LeO.ite ?_ ?_)
      | (with_reducible refine LeO.bind ?_ (fun _ => ?_))
      | exact ih0 _ _ _ _
      | exact LeO.none _
      | refine LeO.ite ?_ ?_
      | refine LeO.bind ?_ (fun _ => ?_)
theorem foolscaplaw15_MathsMirror.mono : ∀ a0 a1 a2 k, LeO (foolscaplaw15_MathsMirror.f k a0 a1 a2) (foolscaplaw15_MathsMirror.f (k + 1) a0 a1 a2) := by
  intro a0 a1 a2 k
  have ih0 := foolscaplaw15_MathsMirror.mono_l k
  unfold foolscaplaw15_MathsMirror.f
  repeat' first
      | (with_reducible exact ih0 _ _ _ _)
      | (with_reducible exact LeO.refl _)
      | (with_reducible exact LeO.none _)
      | (with_reducible refine LeO.ite ?_ ?_)
      | (with_reducible refine LeO.bind ?_ (fun _ => ?_))
      | exact ih0 _ _ _ _
      | exact LeO.none _
      | refine LeO.ite ?_ ?_
      | refine LeO.bind ?_ (fun _ => ?_)
set_option maxHeartbeats 8000000 in
set_option maxRecDepth 100000 in
theorem foolscaplaw15_MathsMirror.calls (k : Nat) (a0 : Int) (a1 : Int) (a2 : Int) (r : Bool) (w : World) (h : foolscaplaw15_MathsMirror.f k a0 a1 a2 = some r) :
    Calls Try.prog 9 #[.int .i64 a0, .int .i64 a1, .int .i64 a2] w fun e w' => e = .returned (.bool r) ∧ Below w.heap.size w w' := by
  have HB := Aside0.mk (Below.refl w.heap.size w)
  have H : ((num_Fits.f a0).bind fun t101 => (if t101 = true then (if a0 = 0 then (foolscaplaw15_MathsMirror.j0 k a0 a1 a2 true) else (if a2 < 1 then (foolscaplaw15_MathsMirror.j0 k a0 a1 a2 true) else ((num_Fits.f a2).bind fun t102 => (foolscaplaw15_MathsMirror.j0 k a0 a1 a2 (!t102))))) else (foolscaplaw15_MathsMirror.j0 k a0 a1 a2 true))) = some r := h
  clear h
  have HC4 := Aside0.mk H
  clear H
  go_enter Try.func9, Try.ntmps9
  go_upto_region 1 with (fail)
  go_cut [34] (fun v34 wc => ∃ (kq : Nat) (x34_3 : Bool), v34 = .bool x34_3 ∧ Aside0 (foolscaplaw15_MathsMirror.j0 kq a0 a1 a2 x34_3 = some r) ∧ Aside0 (kq ≤ k) ∧ Aside0 (Below w.heap.size w wc))
  case first =>
    have H := HC4.out
    clear HC4
    replace H := Option.bind_eq_some_iff.mp H
    obtain ⟨t101, A50, H⟩ := H
    replace H : (if t101 = true then (if a0 = 0 then (foolscaplaw15_MathsMirror.j0 k a0 a1 a2 true) else (if a2 < 1 then (foolscaplaw15_MathsMirror.j0 k a0 a1 a2 true) else ((num_Fits.f a2).bind fun t102 => (foolscaplaw15_MathsMirror.j0 k a0 a1 a2 (!t102))))) else (foolscaplaw15_MathsMirror.j0 k a0 a1 a2 true)) = some r := H
    have A5 := Aside0.mk A50
    clear A50
    by_cases c6 : t101 = true
    · subst c6
      have H1 : (if a0 = 0 then (foolscaplaw15_MathsMirror.j0 k a0 a1 a2 true) else (if a2 < 1 then (foolscaplaw15_MathsMirror.j0 k a0 a1 a2 true) else ((num_Fits.f a2).bind fun t102 => (foolscaplaw15_MathsMirror.j0 k a0 a1 a2 (!t102))))) = some r := by rw [if_pos rfl] at H; exact H
      clear H
      have H := H1
      clear H1
      by_cases c7 : a0 = 0
      · rw [if_pos c7] at H
        have c7b0 : (a0 == 0) = true := beq_iff_eq.mpr c7
        have c7b1 : (a0 != 0) = false := bne_eq_false_iff_eq.mpr c7
        clear c7
        (first | rw [c7b0] | (simp only [i64_w, i32_w]; rw [c7b0]) | skip)
        have H' := Aside0.mk H
        clear H
        go_wp2_with (first | ((with_reducible refine gate_callee (f := 19) rfl ?_); refine goesL_ (some 20) rfl rfl Try.func19 (by kernel_rfl) rfl #[.int .i64 a0] rfl (by (try simp only [List.map_toArray, List.map_cons, List.map_nil]); first | done | rfl | (simp only [List.length_drop, List.length_take]; rfl)) ?_; (with_reducible refine (num_Fits.calls a0 true _ A5.out).mono ?_); rintro e w' ⟨rfl, ⟨nd, rfl⟩⟩; refine ⟨_, rfl, ?_⟩))
        go_meet
        case rel => exact ⟨_, (true), (by first | rfl | (simp; done) | (simp [*]; done)), H', ⟨by first | omega | exact Nat.le_refl _⟩, ⟨by repeat (first | (with_reducible first | exact HB.out | apply below_alloc | apply pw_below_drewN | apply below_drew1) | exact HB.out)⟩⟩
      · rw [if_neg c7] at H
        have c7b0 : (a0 == 0) = false := beq_eq_false_iff_ne.mpr c7
        have c7b1 : (a0 != 0) = true := bne_iff_ne.mpr c7
        (first | rw [c7b0] | (simp only [i64_w, i32_w]; rw [c7b0]) | skip)
        by_cases c8 : a2 < 1
        · rw [if_pos c8] at H
          have c8b0 : decide (a2 < 1) = true := decide_eq_true c8
          clear c8
          have H' := Aside0.mk H
          clear H
          go_wp2_with (first | ((with_reducible refine gate_callee (f := 19) rfl ?_); refine goesL_ (some 20) rfl rfl Try.func19 (by kernel_rfl) rfl #[.int .i64 a0] rfl (by (try simp only [List.map_toArray, List.map_cons, List.map_nil]); first | done | rfl | (simp only [List.length_drop, List.length_take]; rfl)) ?_; (with_reducible refine (num_Fits.calls a0 true _ A5.out).mono ?_); rintro e w' ⟨rfl, ⟨nd, rfl⟩⟩; refine ⟨_, rfl, ?_⟩))
          go_meet
          case rel => exact ⟨_, (true), (by first | rfl | (simp; done) | (simp [*]; done)), H', ⟨by first | omega | exact Nat.le_refl _⟩, ⟨by repeat (first | (with_reducible first | exact HB.out | apply below_alloc | apply pw_below_drewN | apply below_drew1) | exact HB.out)⟩⟩
        · rw [if_neg c8] at H
          have c8b0 : decide (a2 < 1) = false := decide_eq_false c8
          clear c8
          replace H := Option.bind_eq_some_iff.mp H
          obtain ⟨t102, A90, H⟩ := H
          replace H : (foolscaplaw15_MathsMirror.j0 k a0 a1 a2 (!t102)) = some r := H
          have A9 := Aside0.mk A90
          clear A90
          have H' := Aside0.mk H
          clear H
          go_wp2_with (first | ((with_reducible refine gate_callee (f := 19) rfl ?_); refine goesL_ (some 20) rfl rfl Try.func19 (by kernel_rfl) rfl #[.int .i64 a0] rfl (by (try simp only [List.map_toArray, List.map_cons, List.map_nil]); first | done | rfl | (simp only [List.length_drop, List.length_take]; rfl)) ?_; (with_reducible refine (num_Fits.calls a0 true _ A5.out).mono ?_); rintro e w' ⟨rfl, ⟨nd, rfl⟩⟩; refine ⟨_, rfl, ?_⟩) | (go_at_call 19; (with_reducible refine (num_Fits.calls a2 t102 _ A9.out).mono ?_); rintro e w' ⟨rfl, ⟨nd, rfl⟩⟩))
          go_meet
          case rel => exact ⟨_, (!t102), (by first | rfl | (simp; done) | (simp [*]; done)), H', ⟨by first | omega | exact Nat.le_refl _⟩, ⟨by repeat (first | (with_reducible first | exact HB.out | apply below_alloc | apply pw_below_drewN | apply below_drew1) | exact HB.out)⟩⟩
    · replace c6 := Bool.eq_false_iff.mpr c6
      subst c6
      have H1 : (foolscaplaw15_MathsMirror.j0 k a0 a1 a2 true) = some r := by rw [if_neg (show ¬ (false = true) by decide)] at H; exact H
      clear H
      have H := H1
      clear H1
      have H' := Aside0.mk H
      clear H
      go_wp2_with (first | ((with_reducible refine gate_callee (f := 19) rfl ?_); refine goesL_ (some 20) rfl rfl Try.func19 (by kernel_rfl) rfl #[.int .i64 a0] rfl (by (try simp only [List.map_toArray, List.map_cons, List.map_nil]); first | done | rfl | (simp only [List.length_drop, List.length_take]; rfl)) ?_; (with_reducible refine (num_Fits.calls a0 false _ A5.out).mono ?_); rintro e w' ⟨rfl, ⟨nd, rfl⟩⟩; refine ⟨_, rfl, ?_⟩))
      go_meet
      case rel => exact ⟨_, (true), (by first | rfl | (simp; done) | (simp [*]; done)), H', ⟨by first | omega | exact Nat.le_refl _⟩, ⟨by repeat (first | (with_reducible first | exact HB.out | apply below_alloc | apply pw_below_drewN | apply below_drew1) | exact HB.out)⟩⟩
  case rest =>
    clear HC4
    try clear c1
    try clear p2
    try clear c6
    try clear c7
    try clear c7b0
    try clear c7b1
    try clear c8
    try clear c8b0
    try clear c9
    obtain ⟨kq, x34_3, rfl, HA, HJ3, HB⟩ := hcut
    cases kq with
    | zero => exact absurd HA.out (by simp [foolscaplaw15_MathsMirror.j0])
    | succ kj3 =>
      have H := HA.out
      clear HA
      simp only [foolscaplaw15_MathsMirror.j0] at H
      by_cases c10 : x34_3 = true
      · subst c10
        have H1 : ((foolscaplaw15_lives.f).bind fun t103 => (some t103)) = some r := by rw [if_pos rfl] at H; exact H
        clear H
        have H := H1
        clear H1
        replace H := Option.bind_eq_some_iff.mp H
        obtain ⟨t103, A110, H⟩ := H
        replace H : (some t103) = some r := H
        have A11 := Aside0.mk A110
        clear A110
        obtain rfl := Option.some.inj H
        go_wp2_with (first | ((with_reducible refine gate_callee (f := 18) rfl ?_); refine goesL_ (some 35) rfl rfl Try.func18 (by kernel_rfl) rfl #[] rfl (by (try simp only [List.map_toArray, List.map_cons, List.map_nil]); first | done | rfl | (simp only [List.length_drop, List.length_take]; rfl)) ?_; (with_reducible refine (foolscaplaw15_lives.calls  t103 _ A11.out).mono ?_); rintro e w12 ⟨rfl, hb⟩; refine ⟨_, rfl, ?_⟩; have n0_ := Aside0.mk (below_step (by repeat (first | (with_reducible first | exact HB.out | apply below_alloc | apply pw_below_drewN | apply below_drew1) | exact HB.out)) hb); clear HB; have HB := n0_; clear n0_; (try clear hb); (try clear hb2); (try clear hk); (try clear hi)))
        go_ret
        exact ⟨by first | rfl | (simp [errW_none, errW_some] <;> rfl) | (simp [*, errW_none, errW_some] <;> rfl), by repeat (first | (with_reducible first | exact HB.out | apply below_alloc | apply pw_below_drewN | apply below_drew1) | exact HB.out)⟩
      · replace c10 := Bool.eq_false_iff.mpr c10
        subst c10
        have H1 : ((maths_Up.f a0 a1).bind fun bt104 => ((maths_Up.f (wrap64 (-a0)) a1).bind fun bt106 => ((maths_Even.f a0).bind fun bt108 => ((maths_Even.f (wrap64 (-a0))).bind fun bt110 => ((maths_Floor.f a0 a2).bind fun bt112 => ((maths_Ceiling.f (wrap64 (-a0)) a2).bind fun bt114 => (if bt104.1 = (wrap64 (-bt106.1)) then (if bt104.2 = bt106.2 then (if bt108.1 = (wrap64 (-bt110.1)) then (if bt108.2 = bt110.2 then (if bt112.1 = (wrap64 (-bt114.1)) then (if bt112.2 = bt114.2 then ((foolscaplaw15_lives.f).bind fun t116 => (some t116)) else (none)) else (none)) else (none)) else (none)) else (none)) else (none)))))))) = some r := by rw [if_neg (show ¬ (false = true) by decide)] at H; exact H
        clear H
        have H := H1
        clear H1
        replace H := Option.bind_eq_some_iff.mp H
        obtain ⟨⟨t104, t105⟩, A130, H⟩ := H
        replace H : ((maths_Up.f (wrap64 (-a0)) a1).bind fun bt106 => ((maths_Even.f a0).bind fun bt108 => ((maths_Even.f (wrap64 (-a0))).bind fun bt110 => ((maths_Floor.f a0 a2).bind fun bt112 => ((maths_Ceiling.f (wrap64 (-a0)) a2).bind fun bt114 => (if t104 = (wrap64 (-bt106.1)) then (if t105 = bt106.2 then (if bt108.1 = (wrap64 (-bt110.1)) then (if bt108.2 = bt110.2 then (if bt112.1 = (wrap64 (-bt114.1)) then (if bt112.2 = bt114.2 then ((foolscaplaw15_lives.f).bind fun t116 => (some t116)) else (none)) else (none)) else (none)) else (none)) else (none)) else (none))))))) = some r := H
        have A13 := Aside0.mk A130
        clear A130
        replace H := Option.bind_eq_some_iff.mp H
        obtain ⟨⟨t106, t107⟩, A140, H⟩ := H
        replace H : ((maths_Even.f a0).bind fun bt108 => ((maths_Even.f (wrap64 (-a0))).bind fun bt110 => ((maths_Floor.f a0 a2).bind fun bt112 => ((maths_Ceiling.f (wrap64 (-a0)) a2).bind fun bt114 => (if t104 = (wrap64 (-t106)) then (if t105 = t107 then (if bt108.1 = (wrap64 (-bt110.1)) then (if bt108.2 = bt110.2 then (if bt112.1 = (wrap64 (-bt114.1)) then (if bt112.2 = bt114.2 then ((foolscaplaw15_lives.f).bind fun t116 => (some t116)) else (none)) else (none)) else (none)) else (none)) else (none)) else (none)))))) = some r := H
        have A14 := Aside0.mk A140
        clear A140
        replace H := Option.bind_eq_some_iff.mp H
        obtain ⟨⟨t108, t109⟩, A150, H⟩ := H
        replace H : ((maths_Even.f (wrap64 (-a0))).bind fun bt110 => ((maths_Floor.f a0 a2).bind fun bt112 => ((maths_Ceiling.f (wrap64 (-a0)) a2).bind fun bt114 => (if t104 = (wrap64 (-t106)) then (if t105 = t107 then (if t108 = (wrap64 (-bt110.1)) then (if t109 = bt110.2 then (if bt112.1 = (wrap64 (-bt114.1)) then (if bt112.2 = bt114.2 then ((foolscaplaw15_lives.f).bind fun t116 => (some t116)) else (none)) else (none)) else (none)) else (none)) else (none)) else (none))))) = some r := H
        have A15 := Aside0.mk A150
        clear A150
        replace H := Option.bind_eq_some_iff.mp H
        obtain ⟨⟨t110, t111⟩, A160, H⟩ := H
        replace H : ((maths_Floor.f a0 a2).bind fun bt112 => ((maths_Ceiling.f (wrap64 (-a0)) a2).bind fun bt114 => (if t104 = (wrap64 (-t106)) then (if t105 = t107 then (if t108 = (wrap64 (-t110)) then (if t109 = t111 then (if bt112.1 = (wrap64 (-bt114.1)) then (if bt112.2 = bt114.2 then ((foolscaplaw15_lives.f).bind fun t116 => (some t116)) else (none)) else (none)) else (none)) else (none)) else (none)) else (none)))) = some r := H
        have A16 := Aside0.mk A160
        clear A160
        replace H := Option.bind_eq_some_iff.mp H
        obtain ⟨⟨t112, t113⟩, A170, H⟩ := H
        replace H : ((maths_Ceiling.f (wrap64 (-a0)) a2).bind fun bt114 => (if t104 = (wrap64 (-t106)) then (if t105 = t107 then (if t108 = (wrap64 (-t110)) then (if t109 = t111 then (if t112 = (wrap64 (-bt114.1)) then (if t113 = bt114.2 then ((foolscaplaw15_lives.f).bind fun t116 => (some t116)) else (none)) else (none)) else (none)) else (none)) else (none)) else (none))) = some r := H
        have A17 := Aside0.mk A170
        clear A170
        replace H := Option.bind_eq_some_iff.mp H
        obtain ⟨⟨t114, t115⟩, A180, H⟩ := H
        replace H : (if t104 = (wrap64 (-t106)) then (if t105 = t107 then (if t108 = (wrap64 (-t110)) then (if t109 = t111 then (if t112 = (wrap64 (-t114)) then (if t113 = t115 then ((foolscaplaw15_lives.f).bind fun t116 => (some t116)) else (none)) else (none)) else (none)) else (none)) else (none)) else (none)) = some r := H
        have A18 := Aside0.mk A180
        clear A180
        by_cases c19 : t104 = (wrap64 (-t106))
        · rw [if_pos c19] at H
          have c19b0 : (t104 == (wrap64 (-t106))) = true := beq_iff_eq.mpr c19
          have c19b1 : (t104 != (wrap64 (-t106))) = false := bne_eq_false_iff_eq.mpr c19
          clear c19
          by_cases c20 : t105 = t107
          · rw [if_pos c20] at H
            have c20b0 : (t105 == t107) = true := beq_iff_eq.mpr c20
            have c20b1 : (t105 != t107) = false := bne_eq_false_iff_eq.mpr c20
            clear c20
            by_cases c21 : t108 = (wrap64 (-t110))
            · rw [if_pos c21] at H
              have c21b0 : (t108 == (wrap64 (-t110))) = true := beq_iff_eq.mpr c21
              have c21b1 : (t108 != (wrap64 (-t110))) = false := bne_eq_false_iff_eq.mpr c21
              clear c21
              by_cases c22 : t109 = t111
              · rw [if_pos c22] at H
                have c22b0 : (t109 == t111) = true := beq_iff_eq.mpr c22
                have c22b1 : (t109 != t111) = false := bne_eq_false_iff_eq.mpr c22
                clear c22
                by_cases c23 : t112 = (wrap64 (-t114))
                · rw [if_pos c23] at H
                  have c23b0 : (t112 == (wrap64 (-t114))) = true := beq_iff_eq.mpr c23
                  have c23b1 : (t112 != (wrap64 (-t114))) = false := bne_eq_false_iff_eq.mpr c23
                  clear c23
                  by_cases c24 : t113 = t115
                  · rw [if_pos c24] at H
                    have c24b0 : (t113 == t115) = true := beq_iff_eq.mpr c24
                    have c24b1 : (t113 != t115) = false := bne_eq_false_iff_eq.mpr c24
                    clear c24
                    replace H := Option.bind_eq_some_iff.mp H
                    obtain ⟨t116, A250, H⟩ := H
                    replace H : (some t116) = some r := H
                    have A25 := Aside0.mk A250
                    clear A250
                    obtain rfl := Option.some.inj H
                    go_wp2_with (first | ((with_reducible refine gate_callee (f := 26) rfl ?_); refine goesL_ (some 39) rfl rfl Try.func26 (by kernel_rfl) rfl #[.int .i64 a0, .int .i64 a1] rfl (by (try simp only [List.map_toArray, List.map_cons, List.map_nil]); first | done | rfl | (simp only [List.length_drop, List.length_take]; rfl)) ?_; (with_reducible refine (maths_Up.calls a0 a1 t104 t105 _ A13.out).mono ?_); rintro e w' ⟨rfl, ⟨nd, rfl⟩⟩; refine ⟨_, rfl, ?_⟩) | ((with_reducible refine gate_callee (f := 26) rfl ?_); refine goesL_ (some 46) rfl rfl Try.func26 (by kernel_rfl) rfl #[.int .i64 (wrap64 (-a0)), .int .i64 a1] rfl (by (try simp only [List.map_toArray, List.map_cons, List.map_nil]); first | done | rfl | (simp only [List.length_drop, List.length_take]; rfl)) ?_; (with_reducible refine (maths_Up.calls (wrap64 (-a0)) a1 t106 t107 _ A14.out).mono ?_); rintro e w' ⟨rfl, ⟨nd, rfl⟩⟩; refine ⟨_, rfl, ?_⟩) | ((with_reducible refine gate_callee (f := 30) rfl ?_); refine goesL_ (some 51) rfl rfl Try.func30 (by kernel_rfl) rfl #[.int .i64 a0] rfl (by (try simp only [List.map_toArray, List.map_cons, List.map_nil]); first | done | rfl | (simp only [List.length_drop, List.length_take]; rfl)) ?_; (with_reducible refine (maths_Even.calls a0 t108 t109 _ A15.out).mono ?_); rintro e w26 ⟨rfl, hb⟩; refine ⟨_, rfl, ?_⟩; have n0_ := Aside0.mk (below_step (by repeat (first | (with_reducible first | exact HB.out | apply below_alloc | apply pw_below_drewN | apply below_drew1) | exact HB.out)) hb); clear HB; have HB := n0_; clear n0_; (try clear hb); (try clear hb2); (try clear hk); (try clear hi)) | ((with_reducible refine gate_callee (f := 30) rfl ?_); refine goesL_ (some 57) rfl rfl Try.func30 (by kernel_rfl) rfl #[.int .i64 (wrap64 (-a0))] rfl (by (try simp only [List.map_toArray, List.map_cons, List.map_nil]); first | done | rfl | (simp only [List.length_drop, List.length_take]; rfl)) ?_; (with_reducible refine (maths_Even.calls (wrap64 (-a0)) t110 t111 _ A16.out).mono ?_); rintro e w27 ⟨rfl, hb⟩; refine ⟨_, rfl, ?_⟩; have n0_ := Aside0.mk (below_step (by repeat (first | (with_reducible first | exact HB.out | apply below_alloc | apply pw_below_drewN | apply below_drew1) | exact HB.out)) hb); clear HB; have HB := n0_; clear n0_; (try clear hb); (try clear hb2); (try clear hk); (try clear hi)) | ((with_reducible refine gate_callee (f := 28) rfl ?_); refine goesL_ (some 63) rfl rfl Try.func28 (by kernel_rfl) rfl #[.int .i64 a0, .int .i64 a2] rfl (by (try simp only [List.map_toArray, List.map_cons, List.map_nil]); first | done | rfl | (simp only [List.length_drop, List.length_take]; rfl)) ?_; (with_reducible refine (maths_Floor.calls a0 a2 t112 t113 _ A17.out).mono ?_); rintro e w28 ⟨rfl, hb⟩; refine ⟨_, rfl, ?_⟩; have n0_ := Aside0.mk (below_step (by repeat (first | (with_reducible first | exact HB.out | apply below_alloc | apply pw_below_drewN | apply below_drew1) | exact HB.out)) hb); clear HB; have HB := n0_; clear n0_; (try clear hb); (try clear hb2); (try clear hk); (try clear hi)) | ((with_reducible refine gate_callee (f := 29) rfl ?_); refine goesL_ (some 70) rfl rfl Try.func29 (by kernel_rfl) rfl #[.int .i64 (wrap64 (-a0)), .int .i64 a2] rfl (by (try simp only [List.map_toArray, List.map_cons, List.map_nil]); first | done | rfl | (simp only [List.length_drop, List.length_take]; rfl)) ?_; (with_reducible refine (maths_Ceiling.calls (wrap64 (-a0)) a2 t114 t115 _ A18.out).mono ?_); rintro e w29 ⟨rfl, hb⟩; refine ⟨_, rfl, ?_⟩; have n0_ := Aside0.mk (below_step (by repeat (first | (with_reducible first | exact HB.out | apply below_alloc | apply pw_below_drewN | apply below_drew1) | exact HB.out)) hb); clear HB; have HB := n0_; clear n0_; (try clear hb); (try clear hb2); (try clear hk); (try clear hi)) | (go_at_call 18; (with_reducible refine (foolscaplaw15_lives.calls  t116 _ A25.out).mono ?_); rintro e w30 ⟨rfl, hb⟩; have n0_ := Aside0.mk (below_step (by repeat (first | (with_reducible first | exact HB.out | apply below_alloc | apply pw_below_drewN | apply below_drew1) | exact HB.out)) hb); clear HB; have HB := n0_; clear n0_; (try clear hb); (try clear hb2); (try clear hk); (try clear hi)))
                    go_ret
                    exact ⟨by first | rfl | (simp [errW_none, errW_some] <;> rfl) | (simp [*, errW_none, errW_some] <;> rfl), by repeat (first | (with_reducible first | exact HB.out | apply below_alloc | apply pw_below_drewN | apply below_drew1) | exact HB.out)⟩
                  · rw [if_neg c24] at H
                    exact absurd H (by simp)
                · rw [if_neg c23] at H
                  exact absurd H (by simp)
              · rw [if_neg c22] at H
                exact absurd H (by simp)
            · rw [if_neg c21] at H
              exact absurd H (by simp)
          · rw [if_neg c20] at H
            exact absurd H (by simp)
        · rw [if_neg c19] at H
          exact absurd H (by simp)

/-- THE ONE PURE STATEMENT of foolscaplaw15_MathsMirror: yours. -/
def foolscaplaw15_MathsMirror.Pure : Prop := ∀ (a0 : Int) (a1 : Int) (a2 : Int), (Lit.int .i64 a0).wf = true → (Lit.int .i64 a1).wf = true → (Lit.int .i64 a2).wf = true → ∃ k, foolscaplaw15_MathsMirror.f k a0 a1 a2 = some true
theorem foolscaplaw15_MathsMirror.walk (P : foolscaplaw15_MathsMirror.Pure) (a0 : Int) (a1 : Int) (a2 : Int) (w : World) (w0 : (Lit.int .i64 a0).wf = true) (w1 : (Lit.int .i64 a1).wf = true) (w2 : (Lit.int .i64 a2).wf = true) :
    Calls Try.prog 9 #[.int .i64 a0, .int .i64 a1, .int .i64 a2] w fun e w' => e = .returned (.bool true) ∧ Below w.heap.size w w' := by
  obtain ⟨k, h⟩ := P a0 a1 a2 w0 w1 w2
  refine (foolscaplaw15_MathsMirror.calls k a0 a1 a2 true w h).mono ?_
  rintro e w' ⟨rfl, hd⟩
  exact ⟨rfl, hd⟩

end Go.Proofs.Ytbgiehmpdligdaa.PMathsMirror
