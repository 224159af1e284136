-- By wip/tools/printplus.py of this session, over the kit's print; what is by hand in it is this session's own.
import Derived.Test.YtbgiehmpdligdaaPMathsNearx0
namespace Go.Proofs.Ytbgiehmpdligdaa.PMathsNear
open Go.RowKit Go.Proofs.YtbgiehmpdligdaaW.PrintWords Go.Proofs.YtbgiehmpdligdaaW.PrintLast Go.Proofs.YtbgiehmpdligdaaW.PrintMore
attribute [local go_sem] max2_int min2_int max_two min_two max_three min_three max_four min_four   -- for this text's walks alone
set_option linter.unusedVariables false
set_option linter.unusedSimpArgs false

/-! ### foolscaplaw15_lives: function 18 -/
def foolscaplaw15_lives.f  : Option (Bool) := some (true)
theorem foolscaplaw15_lives.calls  (r : Bool) (w : World) (h : foolscaplaw15_lives.f  = some r) :
    Calls Try.prog 18 #[] w fun e w' => e = .returned (.bool r) ∧ Below w.heap.size w w' :=
  Go.Proofs.Ytbgiehmpdligdaa.PG.foolscaplaw15_lives.calls 100 r w (Eq.trans (MB.lives_eq) h)

/-! ### foolscaplaw15_size: function 21 -/
def foolscaplaw15_size.f (a0 : Int) : Option (Int) := some (mx a0 (wrap64 (-a0)))
set_option maxHeartbeats 8000000 in
set_option maxRecDepth 100000 in
theorem foolscaplaw15_size.calls (a0 : Int) (r : Int) (w : World) (h : foolscaplaw15_size.f a0 = some r) :
    Calls Try.prog 21 #[.int .i64 a0] w fun e w' => e = .returned (.int .i64 r) ∧ Below w.heap.size w w' := by
  have HB := Aside0.mk (Below.refl w.heap.size w)
  have H : (some (mx a0 (wrap64 (-a0)))) = some r := h
  clear h
  obtain ⟨ji2, hji2⟩ : ∃ j_ : Int, (mx a0 (wrap64 (-a0))) = j_ := ⟨_, rfl⟩
  replace H : (some ji2) = some r := by first | (rw [hji2] at H; exact H) | (simp only [hji2] at H ⊢; exact H)
  have hji2_ : (if a0 < (wrap64 (-a0)) then (wrap64 (-a0)) else a0) = ji2 := hji2
  obtain rfl := Option.some.inj H
  go_enter Try.func21, Try.ntmps21
  go_wp2
  go_ret
  exact ⟨by first | rfl | (simp [errW_none, errW_some] <;> rfl) | (simp only [← hji2]; first | rfl | (simp [errW_none, errW_some] <;> rfl)) | (simp [*, errW_none, errW_some] <;> rfl), by repeat (first | (with_reducible first | exact HB.out | apply below_alloc | apply pw_below_drewN | apply below_drew1) | exact HB.out)⟩

/-! ### maths_Up: function 26 -/
def maths_Up.f (a0 : Int) (a1 : Int) : Option (Int × Int) := some (Go.Proofs.Ytbgiehmpdligdaa.MA.upN a0 a1)
theorem maths_Up.calls (a0 : Int) (a1 : Int) (r1 : Int) (r2 : Int) (w : World) (h : maths_Up.f a0 a1 = some (r1, r2)) :
    Calls Try.prog 26 #[.int .i64 a0, .int .i64 a1] w fun e w' => e = .returned (.tuple #[.int .i64 r1, .int .i64 r2]) ∧ Drawn0 w w' :=
  Go.Proofs.Ytbgiehmpdligdaa.PG.maths_Up.calls 100 a0 a1 r1 r2 w (Eq.trans (MA.up_eq _ _) h)

/-! ### maths_Down: function 27 -/
def maths_Down.f (a0 : Int) (a1 : Int) : Option (Int × Int) := some (Go.Proofs.Ytbgiehmpdligdaa.MA.downN a0 a1)
theorem maths_Down.calls (a0 : Int) (a1 : Int) (r1 : Int) (r2 : Int) (w : World) (h : maths_Down.f a0 a1 = some (r1, r2)) :
    Calls Try.prog 27 #[.int .i64 a0, .int .i64 a1] w fun e w' => e = .returned (.tuple #[.int .i64 r1, .int .i64 r2]) ∧ Drawn0 w w' :=
  Go.Proofs.Ytbgiehmpdligdaa.PG.maths_Down.calls 100 a0 a1 r1 r2 w (Eq.trans (MA.down_eq _ _) h)

/-! ### maths_Floor: function 28 -/
def maths_Floor.f (a0 : Int) (a1 : Int) : Option (Int × Int) := some (Go.Proofs.Ytbgiehmpdligdaa.MB.nearN a0 a1 false)
theorem maths_Floor.calls (a0 : Int) (a1 : Int) (r1 : Int) (r2 : Int) (w : World) (h : maths_Floor.f a0 a1 = some (r1, r2)) :
    Calls Try.prog 28 #[.int .i64 a0, .int .i64 a1] w fun e w' => e = .returned (.tuple #[.int .i64 r1, .int .i64 r2]) ∧ Below w.heap.size w w' :=
  Go.Proofs.Ytbgiehmpdligdaa.PG.maths_Floor.calls 100 a0 a1 r1 r2 w (Eq.trans (MB.floor_eq _ _) h)

/-! ### maths_Ceiling: function 29 -/
def maths_Ceiling.f (a0 : Int) (a1 : Int) : Option (Int × Int) := some (Go.Proofs.Ytbgiehmpdligdaa.MB.nearN a0 a1 true)
theorem maths_Ceiling.calls (a0 : Int) (a1 : Int) (r1 : Int) (r2 : Int) (w : World) (h : maths_Ceiling.f a0 a1 = some (r1, r2)) :
    Calls Try.prog 29 #[.int .i64 a0, .int .i64 a1] w fun e w' => e = .returned (.tuple #[.int .i64 r1, .int .i64 r2]) ∧ Below w.heap.size w w' :=
  Go.Proofs.Ytbgiehmpdligdaa.PG.maths_Ceiling.calls 100 a0 a1 r1 r2 w (Eq.trans (MB.ceil_eq _ _) h)

/-! ### foolscaplaw15_MathsNear: function 8 -/
mutual
def foolscaplaw15_MathsNear.j1 : Nat → Int → Int → Option (Bool)
  | 0, _, _ => none
  | k + 1, x0, x2 => (maths_Floor.f x0 x2).bind fun bt111 => ((maths_Ceiling.f x0 x2).bind fun bt113 => (if bt111.2 = 0 then (if x0 = 0 then (foolscaplaw15_MathsNear.j2 k x0 x2 bt113.1 bt113.2 false) else (if bt111.1 > x0 then (foolscaplaw15_MathsNear.j2 k x0 x2 bt113.1 bt113.2 true) else ((foolscaplaw15_size.f x2).bind fun t115 => (if (wrap64 (x0 - bt111.1)) ≥ t115 then (foolscaplaw15_MathsNear.j2 k x0 x2 bt113.1 bt113.2 true) else (if x2 = 0 then (none) else (foolscaplaw15_MathsNear.j2 k x0 x2 bt113.1 bt113.2 ((Int.tmod bt111.1 x2) != 0))))))) else (foolscaplaw15_MathsNear.j2 k x0 x2 bt113.1 bt113.2 false)))
def foolscaplaw15_MathsNear.j2 : Nat → Int → Int → Int → Int → Bool → Option (Bool)
  | 0, _, _, _, _, _ => none
  | k + 1, x0, x2, x15, x16, x128 => if x128 = true then (none) else (if x16 = 0 then (if x0 = 0 then ((foolscaplaw15_lives.f).bind fun t116 => (some t116)) else (if x15 ≥ x0 then ((foolscaplaw15_size.f x2).bind fun t117 => (if (wrap64 (x15 - x0)) < t117 then (if x2 = 0 then (none) else (if (Int.tmod x15 x2) = 0 then ((foolscaplaw15_lives.f).bind fun t118 => (some t118)) else (none))) else (none))) else (none))) else ((foolscaplaw15_lives.f).bind fun t119 => (some t119)))
def foolscaplaw15_MathsNear.l0 : Nat → Int → Int → Int → Int → Int → Int → Int → Option (Bool)
  | 0, _, _, _, _, _, _, _ => none
  | k + 1, x0, x2, x7, x8, x9, x11, x12 => if x12 < 6 then (foolscaplaw15_MathsNear.l0 k x0 x2 x7 x8 x9 (wrap64 (10 * x11)) (wrap64 (x12 + 1))) else ((foolscaplaw15_size.f x9).bind fun t105 => ((foolscaplaw15_size.f x0).bind fun t106 => (if t105 > t106 then (none) else ((foolscaplaw15_size.f (wrap64 (x0 - x9))).bind fun t107 => (if t107 ≥ x11 then (none) else (if x11 = 0 then (none) else (if (Int.tmod x9 x11) = 0 then (if x8 = 0 then ((foolscaplaw15_size.f x7).bind fun t108 => ((foolscaplaw15_size.f x0).bind fun t109 => (if t108 < t109 then (none) else ((foolscaplaw15_size.f (wrap64 (x7 - x0))).bind fun t110 => (if t110 ≥ x11 then (none) else (if (Int.tmod x7 x11) = 0 then (if x9 = x0 then (if x7 = x0 then (foolscaplaw15_MathsNear.j1 k x0 x2) else (none)) else (foolscaplaw15_MathsNear.j1 k x0 x2)) else (none))))))) else (if x9 = x0 then (if x7 = x0 then (foolscaplaw15_MathsNear.j1 k x0 x2) else (none)) else (foolscaplaw15_MathsNear.j1 k x0 x2))) else (none))))))))
end
def foolscaplaw15_MathsNear.f (k : Nat) (a0 : Int) (a1 : Int) (a2 : Int) : Option (Bool) := (maths_Up.f a0 a1).bind fun bt101 => ((maths_Down.f a0 a1).bind fun bt103 => (if bt103.2 = 0 then (foolscaplaw15_MathsNear.l0 k a0 a2 bt101.1 bt101.2 bt103.1 1 a1) else (foolscaplaw15_MathsNear.j1 k a0 a2)))
theorem foolscaplaw15_MathsNear.mono_l : ∀ k, (∀ y0 y1, LeO (foolscaplaw15_MathsNear.j1 k y0 y1) (foolscaplaw15_MathsNear.j1 (k + 1) y0 y1)) ∧ (∀ y0 y1 y2 y3 y4, LeO (foolscaplaw15_MathsNear.j2 k y0 y1 y2 y3 y4) (foolscaplaw15_MathsNear.j2 (k + 1) y0 y1 y2 y3 y4)) ∧ (∀ y0 y1 y2 y3 y4 y5 y6, LeO (foolscaplaw15_MathsNear.l0 k y0 y1 y2 y3 y4 y5 y6) (foolscaplaw15_MathsNear.l0 (k + 1) y0 y1 y2 y3 y4 y5 y6))
  | 0 => ⟨fun _ _ r h => by simp [foolscaplaw15_MathsNear.j1] at h, fun _ _ _ _ _ r h => by simp [foolscaplaw15_MathsNear.j2] at h, fun _ _ _ _ _ _ _ r h => by simp [foolscaplaw15_MathsNear.l0] at h⟩
  | k + 1 => by
    obtain ⟨ih0, ih1, ih2⟩ := foolscaplaw15_MathsNear.mono_l k
    refine ⟨?_, ?_, ?_⟩
    · intro y0 y1
      unfold foolscaplaw15_MathsNear.j1
      repeat' first
      | (with_reducible exact ih0 _ _)
      | (with_reducible exact ih1 _ _ _ _ _)
      | (with_reducible exact ih2 _ _ _ _ _ _ _)
      | (with_reducible exact LeO.refl _)
      | (with_reducible exact LeO.none _)
      | (with_reducible refine LeO.ite ?_ ?_)
      | (with_reducible refine LeO.bind ?_ (fun _ => ?_))
      | exact ih0 _ _
      | exact ih1 _ _ _ _ _
      | exact ih2 _ _ _ _ _ _ _
      | exact LeO.none _
      | refine LeO.ite ?_ ?_
      | refine LeO.bind ?_ (fun _ => ?_)
    · intro y0 y1 y2 y3 y4
      unfold foolscaplaw15_MathsNear.j2
      repeat' first
      | (with_reducible exact ih0 _ _)
      | (with_reducible exact ih1 _ _ _ _ _)
      | (with_reducible exact ih2 _ _ _ _ _ _ _)
      | (with_reducible exact LeO.refl _)
      | (with_reducible exact LeO.none _)
      | (with_reducible refine LeO.ite ?_ ?_)
      | (with_reducible refine LeO.bind ?_ (fun _ => ?_))
      | exact ih0 _ _
      | exact ih1 _ _ _ _ _
      | exact ih2 _ _ _ _ _ _ _
      | exact LeO.none _
      | refine LeO.ite ?_ ?_
      | refine LeO.bind ?_ (fun _ => ?_)
    · intro y0 y1 y2 y3 y4 y5 y6
      unfold foolscaplaw15_MathsNear.l0
      repeat' first
      | (with_reducible exact ih0 _ _)
      | (with_reducible exact ih1 _ _ _ _ _)
      | (with_reducible exact ih2 _ _ _ _ _ _ _)
      | (with_reducible exact LeO.refl _)
      | (with_reducible exact LeO.none _)
      | (with_reducible refine LeO.ite ?_ ?_)
      | (with_reducible refine LeO.bind ?_ (fun _ => ?_))
      | exact ih0 _ _
      | exact ih1 _ _ _ _ _
      | exact ih2 _ _ _ _ _ _ _
      | exact LeO.none _
      | refine LeO.ite ?_ ?_
      | refine LeO.bind ?_ (fun _ => ?_)
theorem foolscaplaw15_MathsNear.mono : ∀ a0 a1 a2 k, LeO (foolscaplaw15_MathsNear.f k a0 a1 a2) (foolscaplaw15_MathsNear.f (k + 1) a0 a1 a2) := by
  intro a0 a1 a2 k
  obtain ⟨ih0, ih1, ih2⟩ := foolscaplaw15_MathsNear.mono_l k
  unfold foolscaplaw15_MathsNear.f
  repeat' first
      | (with_reducible exact ih0 _ _)
      | (with_reducible exact ih1 _ _ _ _ _)
      | (with_reducible exact ih2 _ _ _ _ _ _ _)
      | (with_reducible exact LeO.refl _)
      | (with_reducible exact LeO.none _)
      | (with_reducible refine LeO.ite ?_ ?_)
      | (with_reducible refine LeO.bind ?_ (fun _ => ?_))
      | exact ih0 _ _
      | exact ih1 _ _ _ _ _
      | exact ih2 _ _ _ _ _ _ _
      | exact LeO.none _
      | refine LeO.ite ?_ ?_
      | refine LeO.bind ?_ (fun _ => ?_)
set_option maxHeartbeats 8000000 in
set_option maxRecDepth 100000 in
theorem foolscaplaw15_MathsNear.calls (k : Nat) (a0 : Int) (a1 : Int) (a2 : Int) (r : Bool) (w : World) (h : foolscaplaw15_MathsNear.f k a0 a1 a2 = some r) :
    Calls Try.prog 8 #[.int .i64 a0, .int .i64 a1, .int .i64 a2] w fun e w' => e = .returned (.bool r) ∧ Below w.heap.size w w' := by
  have HB := Aside0.mk (Below.refl w.heap.size w)
  have H : ((maths_Up.f a0 a1).bind fun bt101 => ((maths_Down.f a0 a1).bind fun bt103 => (if bt103.2 = 0 then (foolscaplaw15_MathsNear.l0 k a0 a2 bt101.1 bt101.2 bt103.1 1 a1) else (foolscaplaw15_MathsNear.j1 k a0 a2)))) = some r := h
  clear h
  replace H := Option.bind_eq_some_iff.mp H
  obtain ⟨⟨t101, t102⟩, A40, H⟩ := H
  replace H : ((maths_Down.f a0 a1).bind fun bt103 => (if bt103.2 = 0 then (foolscaplaw15_MathsNear.l0 k a0 a2 t101 t102 bt103.1 1 a1) else (foolscaplaw15_MathsNear.j1 k a0 a2))) = some r := H
  have A4 := Aside0.mk A40
  clear A40
  replace H := Option.bind_eq_some_iff.mp H
  obtain ⟨⟨t103, t104⟩, A50, H⟩ := H
  replace H : (if t104 = 0 then (foolscaplaw15_MathsNear.l0 k a0 a2 t101 t102 t103 1 a1) else (foolscaplaw15_MathsNear.j1 k a0 a2)) = some r := H
  have A5 := Aside0.mk A50
  clear A50
  have HC6 := Aside0.mk H
  clear H
  go_enter Try.func8, Try.ntmps8
  go_upto_if 30 with (first | ((with_reducible refine gate_callee (f := 26) rfl ?_); refine goesL_ (some 20) rfl rfl Try.func26 (by kernel_rfl) rfl #[.int .i64 a0, .int .i64 a1] rfl (by (try simp only [List.map_toArray, List.map_cons, List.map_nil]); first | done | rfl | (simp only [List.length_drop, List.length_take]; rfl)) ?_; (with_reducible refine (maths_Up.calls a0 a1 t101 t102 _ A4.out).mono ?_); rintro e w' ⟨rfl, ⟨nd, rfl⟩⟩; refine ⟨_, rfl, ?_⟩) | ((with_reducible refine gate_callee (f := 27) rfl ?_); refine goesL_ (some 26) rfl rfl Try.func27 (by kernel_rfl) rfl #[.int .i64 a0, .int .i64 a1] rfl (by (try simp only [List.map_toArray, List.map_cons, List.map_nil]); first | done | rfl | (simp only [List.length_drop, List.length_take]; rfl)) ?_; (with_reducible refine (maths_Down.calls a0 a1 t103 t104 _ A5.out).mono ?_); rintro e w' ⟨rfl, ⟨nd, rfl⟩⟩; refine ⟨_, rfl, ?_⟩))
  (try simp only [Act.put, List.setIfInBounds_toArray, List.set_cons_zero, List.set_cons_succ])
  go_cut [] (fun wc => ∃ (kq : Nat), Aside0 (foolscaplaw15_MathsNear.j1 kq a0 a2 = some r) ∧ Aside0 (kq ≤ k) ∧ Aside0 (Below w.heap.size w wc))
  case first =>
    have H := HC6.out
    clear HC6
    by_cases c7 : t104 = 0
    · rw [if_pos c7] at H
      have c7b0 : (t104 == 0) = true := beq_iff_eq.mpr c7
      have c7b1 : (t104 != 0) = false := bne_eq_false_iff_eq.mpr c7
      clear c7
      (first | rw [c7b0] | (simp only [i64_w, i32_w]; rw [c7b0]) | skip)
      have H' := Aside0.mk H
      clear H
      go_wp2
      go_loopg [11, 12] k (fun kq v11 v12 w' => ∃ (x11_1 : Int) (x12_1 : Int), v11 = .int .i64 x11_1 ∧ v12 = .int .i64 x12_1 ∧ Aside0 (foolscaplaw15_MathsNear.l0 kq a0 a2 t101 t102 t103 x11_1 x12_1 = some r) ∧ Aside0 (kq ≤ k) ∧ Aside0 (Below w.heap.size w w'))
      case atStart => exact ⟨(1), (a1), (by first | rfl | (simp; done) | (simp [*]; done)), (by first | rfl | (simp; done) | (simp [*]; done)), H', ⟨Nat.le_refl _⟩, ⟨by repeat (first | (with_reducible first | exact HB.out | apply below_alloc | apply pw_below_drewN | apply below_drew1) | exact HB.out)⟩⟩
      case round =>
        clear H'
        try clear c2
        try clear p2
        try clear c7
        try clear c7b0
        try clear c7b1
        obtain ⟨x11_1, x12_1, rfl, rfl, HA, HK1, HB⟩ := hrel
        cases gk with
        | zero => exact absurd HA.out (by simp [foolscaplaw15_MathsNear.l0])
        | succ k1 =>
          have H := HA.out
          clear HA
          simp only [foolscaplaw15_MathsNear.l0] at H
          by_cases c8 : x12_1 < 6
          · rw [if_pos c8] at H
            have c8b0 : decide (x12_1 < 6) = true := decide_eq_true c8
            clear c8
            have H' := Aside0.mk H
            clear H
            go_wp2
            go_roundg k1
            case measure => have := HK1.out; omega
            case rel => exact ⟨(wrap64 (10 * x11_1)), (wrap64 (x12_1 + 1)), (by first | rfl | (simp; done) | (simp [*]; done)), (by first | rfl | (simp; done) | (simp [*]; done)), H', ⟨by have := HK1.out; omega⟩, ⟨by repeat (first | (with_reducible first | exact HB.out | apply below_alloc | apply pw_below_drewN | apply below_drew1) | exact HB.out)⟩⟩
          · rw [if_neg c8] at H
            have c8b0 : decide (x12_1 < 6) = false := decide_eq_false c8
            clear c8
            replace H := Option.bind_eq_some_iff.mp H
            obtain ⟨t105, A90, H⟩ := H
            replace H : ((foolscaplaw15_size.f a0).bind fun t106 => (if t105 > t106 then (none) else ((foolscaplaw15_size.f (wrap64 (a0 - t103))).bind fun t107 => (if t107 ≥ x11_1 then (none) else (if x11_1 = 0 then (none) else (if (Int.tmod t103 x11_1) = 0 then (if t102 = 0 then ((foolscaplaw15_size.f t101).bind fun t108 => ((foolscaplaw15_size.f a0).bind fun t109 => (if t108 < t109 then (none) else ((foolscaplaw15_size.f (wrap64 (t101 - a0))).bind fun t110 => (if t110 ≥ x11_1 then (none) else (if (Int.tmod t101 x11_1) = 0 then (if t103 = a0 then (if t101 = a0 then (foolscaplaw15_MathsNear.j1 k1 a0 a2) else (none)) else (foolscaplaw15_MathsNear.j1 k1 a0 a2)) else (none))))))) else (if t103 = a0 then (if t101 = a0 then (foolscaplaw15_MathsNear.j1 k1 a0 a2) else (none)) else (foolscaplaw15_MathsNear.j1 k1 a0 a2))) else (none))))))) = some r := H
            have A9 := Aside0.mk A90
            clear A90
            replace H := Option.bind_eq_some_iff.mp H
            obtain ⟨t106, A100, H⟩ := H
            replace H : (if t105 > t106 then (none) else ((foolscaplaw15_size.f (wrap64 (a0 - t103))).bind fun t107 => (if t107 ≥ x11_1 then (none) else (if x11_1 = 0 then (none) else (if (Int.tmod t103 x11_1) = 0 then (if t102 = 0 then ((foolscaplaw15_size.f t101).bind fun t108 => ((foolscaplaw15_size.f a0).bind fun t109 => (if t108 < t109 then (none) else ((foolscaplaw15_size.f (wrap64 (t101 - a0))).bind fun t110 => (if t110 ≥ x11_1 then (none) else (if (Int.tmod t101 x11_1) = 0 then (if t103 = a0 then (if t101 = a0 then (foolscaplaw15_MathsNear.j1 k1 a0 a2) else (none)) else (foolscaplaw15_MathsNear.j1 k1 a0 a2)) else (none))))))) else (if t103 = a0 then (if t101 = a0 then (foolscaplaw15_MathsNear.j1 k1 a0 a2) else (none)) else (foolscaplaw15_MathsNear.j1 k1 a0 a2))) else (none)))))) = some r := H
            have A10 := Aside0.mk A100
            clear A100
            by_cases c11 : t105 > t106
            · rw [if_pos c11] at H
              exact absurd H (by simp)
            · rw [if_neg c11] at H
              have c11b0 : decide (t106 < t105) = false := decide_eq_false c11
              clear c11
              replace H := Option.bind_eq_some_iff.mp H
              obtain ⟨t107, A120, H⟩ := H
              replace H : (if t107 ≥ x11_1 then (none) else (if x11_1 = 0 then (none) else (if (Int.tmod t103 x11_1) = 0 then (if t102 = 0 then ((foolscaplaw15_size.f t101).bind fun t108 => ((foolscaplaw15_size.f a0).bind fun t109 => (if t108 < t109 then (none) else ((foolscaplaw15_size.f (wrap64 (t101 - a0))).bind fun t110 => (if t110 ≥ x11_1 then (none) else (if (Int.tmod t101 x11_1) = 0 then (if t103 = a0 then (if t101 = a0 then (foolscaplaw15_MathsNear.j1 k1 a0 a2) else (none)) else (foolscaplaw15_MathsNear.j1 k1 a0 a2)) else (none))))))) else (if t103 = a0 then (if t101 = a0 then (foolscaplaw15_MathsNear.j1 k1 a0 a2) else (none)) else (foolscaplaw15_MathsNear.j1 k1 a0 a2))) else (none)))) = some r := H
              have A12 := Aside0.mk A120
              clear A120
              by_cases c13 : t107 ≥ x11_1
              · rw [if_pos c13] at H
                exact absurd H (by simp)
              · rw [if_neg c13] at H
                have c13b0 : decide (x11_1 ≤ t107) = false := decide_eq_false c13
                clear c13
                by_cases c14 : x11_1 = 0
                · rw [if_pos c14] at H
                  exact absurd H (by simp)
                · rw [if_neg c14] at H
                  have c14b0 : (x11_1 == 0) = false := beq_eq_false_iff_ne.mpr c14
                  have c14b1 : (x11_1 != 0) = true := bne_iff_ne.mpr c14
                  by_cases c15 : (Int.tmod t103 x11_1) = 0
                  · rw [if_pos c15] at H
                    have c15b0 : ((Int.tmod t103 x11_1) == 0) = true := beq_iff_eq.mpr c15
                    have c15b1 : ((Int.tmod t103 x11_1) != 0) = false := bne_eq_false_iff_eq.mpr c15
                    clear c15
                    by_cases c16 : t102 = 0
                    · rw [if_pos c16] at H
                      have c16b0 : (t102 == 0) = true := beq_iff_eq.mpr c16
                      have c16b1 : (t102 != 0) = false := bne_eq_false_iff_eq.mpr c16
                      clear c16
                      replace H := Option.bind_eq_some_iff.mp H
                      obtain ⟨t108, A170, H⟩ := H
                      replace H : ((foolscaplaw15_size.f a0).bind fun t109 => (if t108 < t109 then (none) else ((foolscaplaw15_size.f (wrap64 (t101 - a0))).bind fun t110 => (if t110 ≥ x11_1 then (none) else (if (Int.tmod t101 x11_1) = 0 then (if t103 = a0 then (if t101 = a0 then (foolscaplaw15_MathsNear.j1 k1 a0 a2) else (none)) else (foolscaplaw15_MathsNear.j1 k1 a0 a2)) else (none)))))) = some r := H
                      have A17 := Aside0.mk A170
                      clear A170
                      replace H := Option.bind_eq_some_iff.mp H
                      obtain ⟨t109, A180, H⟩ := H
                      replace H : (if t108 < t109 then (none) else ((foolscaplaw15_size.f (wrap64 (t101 - a0))).bind fun t110 => (if t110 ≥ x11_1 then (none) else (if (Int.tmod t101 x11_1) = 0 then (if t103 = a0 then (if t101 = a0 then (foolscaplaw15_MathsNear.j1 k1 a0 a2) else (none)) else (foolscaplaw15_MathsNear.j1 k1 a0 a2)) else (none))))) = some r := H
                      have A18 := Aside0.mk A180
                      clear A180
                      by_cases c19 : t108 < t109
                      · rw [if_pos c19] at H
                        exact absurd H (by simp)
                      · rw [if_neg c19] at H
                        have c19b0 : decide (t108 < t109) = false := decide_eq_false c19
                        clear c19
                        replace H := Option.bind_eq_some_iff.mp H
                        obtain ⟨t110, A200, H⟩ := H
                        replace H : (if t110 ≥ x11_1 then (none) else (if (Int.tmod t101 x11_1) = 0 then (if t103 = a0 then (if t101 = a0 then (foolscaplaw15_MathsNear.j1 k1 a0 a2) else (none)) else (foolscaplaw15_MathsNear.j1 k1 a0 a2)) else (none))) = some r := H
                        have A20 := Aside0.mk A200
                        clear A200
                        by_cases c21 : t110 ≥ x11_1
                        · rw [if_pos c21] at H
                          exact absurd H (by simp)
                        · rw [if_neg c21] at H
                          have c21b0 : decide (x11_1 ≤ t110) = false := decide_eq_false c21
                          clear c21
                          by_cases c22 : (Int.tmod t101 x11_1) = 0
                          · rw [if_pos c22] at H
                            have c22b0 : ((Int.tmod t101 x11_1) == 0) = true := beq_iff_eq.mpr c22
                            have c22b1 : ((Int.tmod t101 x11_1) != 0) = false := bne_eq_false_iff_eq.mpr c22
                            clear c22
                            by_cases c23 : t103 = a0
                            · rw [if_pos c23] at H
                              have c23b0 : (t103 == a0) = true := beq_iff_eq.mpr c23
                              have c23b1 : (t103 != a0) = false := bne_eq_false_iff_eq.mpr c23
                              clear c23
                              by_cases c24 : t101 = a0
                              · rw [if_pos c24] at H
                                have c24b0 : (t101 == a0) = true := beq_iff_eq.mpr c24
                                have c24b1 : (t101 != a0) = false := bne_eq_false_iff_eq.mpr c24
                                clear c24
                                have H' := Aside0.mk H
                                clear H
                                go_wp2_with (first | ((with_reducible refine gate_callee (f := 21) rfl ?_); refine goesL_ (some 39) rfl rfl Try.func21 (by kernel_rfl) rfl #[.int .i64 t103] rfl (by (try simp only [List.map_toArray, List.map_cons, List.map_nil]); first | done | rfl | (simp only [List.length_drop, List.length_take]; rfl)) ?_; (with_reducible refine (foolscaplaw15_size.calls t103 t105 _ A9.out).mono ?_); rintro e w25 ⟨rfl, hb⟩; refine ⟨_, rfl, ?_⟩; have n0_ := Aside0.mk (below_step (by repeat (first | (with_reducible first | exact HB.out | apply below_alloc | apply pw_below_drewN | apply below_drew1) | exact HB.out)) hb); clear HB; have HB := n0_; clear n0_; (try clear hb); (try clear hb2); (try clear hk); (try clear hi)) | ((with_reducible refine gate_callee (f := 21) rfl ?_); refine goesL_ (some 41) rfl rfl Try.func21 (by kernel_rfl) rfl #[.int .i64 a0] rfl (by (try simp only [List.map_toArray, List.map_cons, List.map_nil]); first | done | rfl | (simp only [List.length_drop, List.length_take]; rfl)) ?_; (with_reducible refine (foolscaplaw15_size.calls a0 t106 _ A10.out).mono ?_); rintro e w26 ⟨rfl, hb⟩; refine ⟨_, rfl, ?_⟩; have n0_ := Aside0.mk (below_step (by repeat (first | (with_reducible first | exact HB.out | apply below_alloc | apply pw_below_drewN | apply below_drew1) | exact HB.out)) hb); clear HB; have HB := n0_; clear n0_; (try clear hb); (try clear hb2); (try clear hk); (try clear hi)) | (go_at_call 21; (with_reducible refine (foolscaplaw15_size.calls (wrap64 (a0 - t103)) t107 _ A12.out).mono ?_); rintro e w27 ⟨rfl, hb⟩; have n0_ := Aside0.mk (below_step (by repeat (first | (with_reducible first | exact HB.out | apply below_alloc | apply pw_below_drewN | apply below_drew1) | exact HB.out)) hb); clear HB; have HB := n0_; clear n0_; (try clear hb); (try clear hb2); (try clear hk); (try clear hi)) | (go_at_call 21; (with_reducible refine (foolscaplaw15_size.calls t101 t108 _ A17.out).mono ?_); rintro e w28 ⟨rfl, hb⟩; have n0_ := Aside0.mk (below_step (by repeat (first | (with_reducible first | exact HB.out | apply below_alloc | apply pw_below_drewN | apply below_drew1) | exact HB.out)) hb); clear HB; have HB := n0_; clear n0_; (try clear hb); (try clear hb2); (try clear hk); (try clear hi)) | (go_at_call 21; (with_reducible refine (foolscaplaw15_size.calls a0 t109 _ A18.out).mono ?_); rintro e w29 ⟨rfl, hb⟩; have n0_ := Aside0.mk (below_step (by repeat (first | (with_reducible first | exact HB.out | apply below_alloc | apply pw_below_drewN | apply below_drew1) | exact HB.out)) hb); clear HB; have HB := n0_; clear n0_; (try clear hb); (try clear hb2); (try clear hk); (try clear hi)) | (go_at_call 21; (with_reducible refine (foolscaplaw15_size.calls (wrap64 (t101 - a0)) t110 _ A20.out).mono ?_); rintro e w30 ⟨rfl, hb⟩; have n0_ := Aside0.mk (below_step (by repeat (first | (with_reducible first | exact HB.out | apply below_alloc | apply pw_below_drewN | apply below_drew1) | exact HB.out)) hb); clear HB; have HB := n0_; clear n0_; (try clear hb); (try clear hb2); (try clear hk); (try clear hi)))
                                go_meet
                                case rel => exact ⟨_, H', ⟨by have := HK1.out; first | omega | exact Nat.le_refl _⟩, ⟨by repeat (first | (with_reducible first | exact HB.out | apply below_alloc | apply pw_below_drewN | apply below_drew1) | exact HB.out)⟩⟩
                              · rw [if_neg c24] at H
                                exact absurd H (by simp)
                            · rw [if_neg c23] at H
                              have c23b0 : (t103 == a0) = false := beq_eq_false_iff_ne.mpr c23
                              have c23b1 : (t103 != a0) = true := bne_iff_ne.mpr c23
                              have H' := Aside0.mk H
                              clear H
                              go_wp2_with (first | ((with_reducible refine gate_callee (f := 21) rfl ?_); refine goesL_ (some 39) rfl rfl Try.func21 (by kernel_rfl) rfl #[.int .i64 t103] rfl (by (try simp only [List.map_toArray, List.map_cons, List.map_nil]); first | done | rfl | (simp only [List.length_drop, List.length_take]; rfl)) ?_; (with_reducible refine (foolscaplaw15_size.calls t103 t105 _ A9.out).mono ?_); rintro e w31 ⟨rfl, hb⟩; refine ⟨_, rfl, ?_⟩; have n0_ := Aside0.mk (below_step (by repeat (first | (with_reducible first | exact HB.out | apply below_alloc | apply pw_below_drewN | apply below_drew1) | exact HB.out)) hb); clear HB; have HB := n0_; clear n0_; (try clear hb); (try clear hb2); (try clear hk); (try clear hi)) | ((with_reducible refine gate_callee (f := 21) rfl ?_); refine goesL_ (some 41) rfl rfl Try.func21 (by kernel_rfl) rfl #[.int .i64 a0] rfl (by (try simp only [List.map_toArray, List.map_cons, List.map_nil]); first | done | rfl | (simp only [List.length_drop, List.length_take]; rfl)) ?_; (with_reducible refine (foolscaplaw15_size.calls a0 t106 _ A10.out).mono ?_); rintro e w32 ⟨rfl, hb⟩; refine ⟨_, rfl, ?_⟩; have n0_ := Aside0.mk (below_step (by repeat (first | (with_reducible first | exact HB.out | apply below_alloc | apply pw_below_drewN | apply below_drew1) | exact HB.out)) hb); clear HB; have HB := n0_; clear n0_; (try clear hb); (try clear hb2); (try clear hk); (try clear hi)) | (go_at_call 21; (with_reducible refine (foolscaplaw15_size.calls (wrap64 (a0 - t103)) t107 _ A12.out).mono ?_); rintro e w33 ⟨rfl, hb⟩; have n0_ := Aside0.mk (below_step (by repeat (first | (with_reducible first | exact HB.out | apply below_alloc | apply pw_below_drewN | apply below_drew1) | exact HB.out)) hb); clear HB; have HB := n0_; clear n0_; (try clear hb); (try clear hb2); (try clear hk); (try clear hi)) | (go_at_call 21; (with_reducible refine (foolscaplaw15_size.calls t101 t108 _ A17.out).mono ?_); rintro e w34 ⟨rfl, hb⟩; have n0_ := Aside0.mk (below_step (by repeat (first | (with_reducible first | exact HB.out | apply below_alloc | apply pw_below_drewN | apply below_drew1) | exact HB.out)) hb); clear HB; have HB := n0_; clear n0_; (try clear hb); (try clear hb2); (try clear hk); (try clear hi)) | (go_at_call 21; (with_reducible refine (foolscaplaw15_size.calls a0 t109 _ A18.out).mono ?_); rintro e w35 ⟨rfl, hb⟩; have n0_ := Aside0.mk (below_step (by repeat (first | (with_reducible first | exact HB.out | apply below_alloc | apply pw_below_drewN | apply below_drew1) | exact HB.out)) hb); clear HB; have HB := n0_; clear n0_; (try clear hb); (try clear hb2); (try clear hk); (try clear hi)) | (go_at_call 21; (with_reducible refine (foolscaplaw15_size.calls (wrap64 (t101 - a0)) t110 _ A20.out).mono ?_); rintro e w36 ⟨rfl, hb⟩; have n0_ := Aside0.mk (below_step (by repeat (first | (with_reducible first | exact HB.out | apply below_alloc | apply pw_below_drewN | apply below_drew1) | exact HB.out)) hb); clear HB; have HB := n0_; clear n0_; (try clear hb); (try clear hb2); (try clear hk); (try clear hi)))
                              go_meet
                              case rel => exact ⟨_, H', ⟨by have := HK1.out; first | omega | exact Nat.le_refl _⟩, ⟨by repeat (first | (with_reducible first | exact HB.out | apply below_alloc | apply pw_below_drewN | apply below_drew1) | exact HB.out)⟩⟩
                          · rw [if_neg c22] at H
                            exact absurd H (by simp)
                    · rw [if_neg c16] at H
                      have c16b0 : (t102 == 0) = false := beq_eq_false_iff_ne.mpr c16
                      have c16b1 : (t102 != 0) = true := bne_iff_ne.mpr c16
                      by_cases c37 : t103 = a0
                      · rw [if_pos c37] at H
                        have c37b0 : (t103 == a0) = true := beq_iff_eq.mpr c37
                        have c37b1 : (t103 != a0) = false := bne_eq_false_iff_eq.mpr c37
                        clear c37
                        by_cases c38 : t101 = a0
                        · rw [if_pos c38] at H
                          have c38b0 : (t101 == a0) = true := beq_iff_eq.mpr c38
                          have c38b1 : (t101 != a0) = false := bne_eq_false_iff_eq.mpr c38
                          clear c38
                          have H' := Aside0.mk H
                          clear H
                          go_wp2_with (first | ((with_reducible refine gate_callee (f := 21) rfl ?_); refine goesL_ (some 39) rfl rfl Try.func21 (by kernel_rfl) rfl #[.int .i64 t103] rfl (by (try simp only [List.map_toArray, List.map_cons, List.map_nil]); first | done | rfl | (simp only [List.length_drop, List.length_take]; rfl)) ?_; (with_reducible refine (foolscaplaw15_size.calls t103 t105 _ A9.out).mono ?_); rintro e w39 ⟨rfl, hb⟩; refine ⟨_, rfl, ?_⟩; have n0_ := Aside0.mk (below_step (by repeat (first | (with_reducible first | exact HB.out | apply below_alloc | apply pw_below_drewN | apply below_drew1) | exact HB.out)) hb); clear HB; have HB := n0_; clear n0_; (try clear hb); (try clear hb2); (try clear hk); (try clear hi)) | ((with_reducible refine gate_callee (f := 21) rfl ?_); refine goesL_ (some 41) rfl rfl Try.func21 (by kernel_rfl) rfl #[.int .i64 a0] rfl (by (try simp only [List.map_toArray, List.map_cons, List.map_nil]); first | done | rfl | (simp only [List.length_drop, List.length_take]; rfl)) ?_; (with_reducible refine (foolscaplaw15_size.calls a0 t106 _ A10.out).mono ?_); rintro e w40 ⟨rfl, hb⟩; refine ⟨_, rfl, ?_⟩; have n0_ := Aside0.mk (below_step (by repeat (first | (with_reducible first | exact HB.out | apply below_alloc | apply pw_below_drewN | apply below_drew1) | exact HB.out)) hb); clear HB; have HB := n0_; clear n0_; (try clear hb); (try clear hb2); (try clear hk); (try clear hi)) | (go_at_call 21; (with_reducible refine (foolscaplaw15_size.calls (wrap64 (a0 - t103)) t107 _ A12.out).mono ?_); rintro e w41 ⟨rfl, hb⟩; have n0_ := Aside0.mk (below_step (by repeat (first | (with_reducible first | exact HB.out | apply below_alloc | apply pw_below_drewN | apply below_drew1) | exact HB.out)) hb); clear HB; have HB := n0_; clear n0_; (try clear hb); (try clear hb2); (try clear hk); (try clear hi)))
                          go_meet
                          case rel => exact ⟨_, H', ⟨by have := HK1.out; first | omega | exact Nat.le_refl _⟩, ⟨by repeat (first | (with_reducible first | exact HB.out | apply below_alloc | apply pw_below_drewN | apply below_drew1) | exact HB.out)⟩⟩
                        · rw [if_neg c38] at H
                          exact absurd H (by simp)
                      · rw [if_neg c37] at H
                        have c37b0 : (t103 == a0) = false := beq_eq_false_iff_ne.mpr c37
                        have c37b1 : (t103 != a0) = true := bne_iff_ne.mpr c37
                        have H' := Aside0.mk H
                        clear H
                        go_wp2_with (first | ((with_reducible refine gate_callee (f := 21) rfl ?_); refine goesL_ (some 39) rfl rfl Try.func21 (by kernel_rfl) rfl #[.int .i64 t103] rfl (by (try simp only [List.map_toArray, List.map_cons, List.map_nil]); first | done | rfl | (simp only [List.length_drop, List.length_take]; rfl)) ?_; (with_reducible refine (foolscaplaw15_size.calls t103 t105 _ A9.out).mono ?_); rintro e w42 ⟨rfl, hb⟩; refine ⟨_, rfl, ?_⟩; have n0_ := Aside0.mk (below_step (by repeat (first | (with_reducible first | exact HB.out | apply below_alloc | apply pw_below_drewN | apply below_drew1) | exact HB.out)) hb); clear HB; have HB := n0_; clear n0_; (try clear hb); (try clear hb2); (try clear hk); (try clear hi)) | ((with_reducible refine gate_callee (f := 21) rfl ?_); refine goesL_ (some 41) rfl rfl Try.func21 (by kernel_rfl) rfl #[.int .i64 a0] rfl (by (try simp only [List.map_toArray, List.map_cons, List.map_nil]); first | done | rfl | (simp only [List.length_drop, List.length_take]; rfl)) ?_; (with_reducible refine (foolscaplaw15_size.calls a0 t106 _ A10.out).mono ?_); rintro e w43 ⟨rfl, hb⟩; refine ⟨_, rfl, ?_⟩; have n0_ := Aside0.mk (below_step (by repeat (first | (with_reducible first | exact HB.out | apply below_alloc | apply pw_below_drewN | apply below_drew1) | exact HB.out)) hb); clear HB; have HB := n0_; clear n0_; (try clear hb); (try clear hb2); (try clear hk); (try clear hi)) | (go_at_call 21; (with_reducible refine (foolscaplaw15_size.calls (wrap64 (a0 - t103)) t107 _ A12.out).mono ?_); rintro e w44 ⟨rfl, hb⟩; have n0_ := Aside0.mk (below_step (by repeat (first | (with_reducible first | exact HB.out | apply below_alloc | apply pw_below_drewN | apply below_drew1) | exact HB.out)) hb); clear HB; have HB := n0_; clear n0_; (try clear hb); (try clear hb2); (try clear hk); (try clear hi)))
                        go_meet
                        case rel => exact ⟨_, H', ⟨by have := HK1.out; first | omega | exact Nat.le_refl _⟩, ⟨by repeat (first | (with_reducible first | exact HB.out | apply below_alloc | apply pw_below_drewN | apply below_drew1) | exact HB.out)⟩⟩
                  · rw [if_neg c15] at H
                    exact absurd H (by simp)
    · rw [if_neg c7] at H
      have c7b0 : (t104 == 0) = false := beq_eq_false_iff_ne.mpr c7
      have c7b1 : (t104 != 0) = true := bne_iff_ne.mpr c7
      (first | rw [c7b0] | (simp only [i64_w, i32_w]; rw [c7b0]) | skip)
      have H' := Aside0.mk H
      clear H
      go_wp2
      go_meet
      case rel => exact ⟨_, H', ⟨by first | omega | exact Nat.le_refl _⟩, ⟨by repeat (first | (with_reducible first | exact HB.out | apply below_alloc | apply pw_below_drewN | apply below_drew1) | exact HB.out)⟩⟩
  case rest =>
    clear HC6
    try clear c1
    try clear c2
    try clear p2
    try clear c3
    try clear p6
    try clear c7
    try clear c7b0
    try clear c7b1
    try clear c8
    try clear c8b0
    try clear c11
    try clear c11b0
    try clear c13
    try clear c13b0
    try clear c14
    try clear c14b0
    try clear c14b1
    try clear c15
    try clear c15b0
    try clear c15b1
    try clear c16
    try clear c16b0
    try clear c16b1
    try clear c19
    try clear c19b0
    try clear c21
    try clear c21b0
    try clear c22
    try clear c22b0
    try clear c22b1
    try clear c23
    try clear c23b0
    try clear c23b1
    try clear c24
    try clear c24b0
    try clear c24b1
    try clear c26
    try clear c27
    try clear c37
    try clear c37b0
    try clear c37b1
    try clear c38
    try clear c38b0
    try clear c38b1
    try clear p2
    obtain ⟨kq, HA, HJ5, HB⟩ := hcut
    cases kq with
    | zero => exact absurd HA.out (by simp [foolscaplaw15_MathsNear.j1])
    | succ kj5 =>
      have H := HA.out
      clear HA
      simp only [foolscaplaw15_MathsNear.j1] at H
      replace H := Option.bind_eq_some_iff.mp H
      obtain ⟨⟨t111, t112⟩, A450, H⟩ := H
      replace H : ((maths_Ceiling.f a0 a2).bind fun bt113 => (if t112 = 0 then (if a0 = 0 then (foolscaplaw15_MathsNear.j2 kj5 a0 a2 bt113.1 bt113.2 false) else (if t111 > a0 then (foolscaplaw15_MathsNear.j2 kj5 a0 a2 bt113.1 bt113.2 true) else ((foolscaplaw15_size.f a2).bind fun t115 => (if (wrap64 (a0 - t111)) ≥ t115 then (foolscaplaw15_MathsNear.j2 kj5 a0 a2 bt113.1 bt113.2 true) else (if a2 = 0 then (none) else (foolscaplaw15_MathsNear.j2 kj5 a0 a2 bt113.1 bt113.2 ((Int.tmod t111 a2) != 0))))))) else (foolscaplaw15_MathsNear.j2 kj5 a0 a2 bt113.1 bt113.2 false))) = some r := H
      have A45 := Aside0.mk A450
      clear A450
      replace H := Option.bind_eq_some_iff.mp H
      obtain ⟨⟨t113, t114⟩, A460, H⟩ := H
      replace H : (if t112 = 0 then (if a0 = 0 then (foolscaplaw15_MathsNear.j2 kj5 a0 a2 t113 t114 false) else (if t111 > a0 then (foolscaplaw15_MathsNear.j2 kj5 a0 a2 t113 t114 true) else ((foolscaplaw15_size.f a2).bind fun t115 => (if (wrap64 (a0 - t111)) ≥ t115 then (foolscaplaw15_MathsNear.j2 kj5 a0 a2 t113 t114 true) else (if a2 = 0 then (none) else (foolscaplaw15_MathsNear.j2 kj5 a0 a2 t113 t114 ((Int.tmod t111 a2) != 0))))))) else (foolscaplaw15_MathsNear.j2 kj5 a0 a2 t113 t114 false)) = some r := H
      have A46 := Aside0.mk A460
      clear A460
      have HC47 := Aside0.mk H
      clear H
      go_upto_region 13 with (first | ((with_reducible refine gate_callee (f := 28) rfl ?_); refine goesL_ (some 95) rfl rfl Try.func28 (by kernel_rfl) rfl #[.int .i64 a0, .int .i64 a2] rfl (by (try simp only [List.map_toArray, List.map_cons, List.map_nil]); first | done | rfl | (simp only [List.length_drop, List.length_take]; rfl)) ?_; (with_reducible refine (maths_Floor.calls a0 a2 t111 t112 _ A45.out).mono ?_); rintro e w48 ⟨rfl, hb⟩; refine ⟨_, rfl, ?_⟩; have n0_ := Aside0.mk (below_step (by repeat (first | (with_reducible first | exact HB.out | apply below_alloc | apply pw_below_drewN | apply below_drew1) | exact HB.out)) hb); clear HB; have HB := n0_; clear n0_; (try clear hb); (try clear hb2); (try clear hk); (try clear hi)) | ((with_reducible refine gate_callee (f := 29) rfl ?_); refine goesL_ (some 101) rfl rfl Try.func29 (by kernel_rfl) rfl #[.int .i64 a0, .int .i64 a2] rfl (by (try simp only [List.map_toArray, List.map_cons, List.map_nil]); first | done | rfl | (simp only [List.length_drop, List.length_take]; rfl)) ?_; (with_reducible refine (maths_Ceiling.calls a0 a2 t113 t114 _ A46.out).mono ?_); rintro e w49 ⟨rfl, hb⟩; refine ⟨_, rfl, ?_⟩; have n0_ := Aside0.mk (below_step (by repeat (first | (with_reducible first | exact HB.out | apply below_alloc | apply pw_below_drewN | apply below_drew1) | exact HB.out)) hb); clear HB; have HB := n0_; clear n0_; (try clear hb); (try clear hb2); (try clear hk); (try clear hi)))
      (try simp only [Act.put, List.setIfInBounds_toArray, List.set_cons_zero, List.set_cons_succ])
      go_cut [128] (fun v128 wc => ∃ (kq : Nat) (x128_46 : Bool), v128 = .bool x128_46 ∧ Aside0 (foolscaplaw15_MathsNear.j2 kq a0 a2 t113 t114 x128_46 = some r) ∧ Aside0 (kq ≤ kj5) ∧ Aside0 (Below w.heap.size w wc))
      case first =>
        have H := HC47.out
        clear HC47
        by_cases c50 : t112 = 0
        · rw [if_pos c50] at H
          have c50b0 : (t112 == 0) = true := beq_iff_eq.mpr c50
          have c50b1 : (t112 != 0) = false := bne_eq_false_iff_eq.mpr c50
          clear c50
          (first | rw [c50b0] | (simp only [i64_w, i32_w]; rw [c50b0]) | skip)
          by_cases c51 : a0 = 0
          · rw [if_pos c51] at H
            have c51b0 : (a0 == 0) = true := beq_iff_eq.mpr c51
            have c51b1 : (a0 != 0) = false := bne_eq_false_iff_eq.mpr c51
            clear c51
            have H' := Aside0.mk H
            clear H
            go_wp2
            go_meet
            case rel => exact ⟨_, (false), (by first | rfl | (simp; done) | (simp [*]; done)), H', ⟨by have := HJ5.out; first | omega | exact Nat.le_refl _⟩, ⟨by repeat (first | (with_reducible first | exact HB.out | apply below_alloc | apply pw_below_drewN | apply below_drew1) | exact HB.out)⟩⟩
          · rw [if_neg c51] at H
            have c51b0 : (a0 == 0) = false := beq_eq_false_iff_ne.mpr c51
            have c51b1 : (a0 != 0) = true := bne_iff_ne.mpr c51
            by_cases c52 : t111 > a0
            · rw [if_pos c52] at H
              have c52b0 : decide (a0 < t111) = true := decide_eq_true c52
              clear c52
              have H' := Aside0.mk H
              clear H
              go_wp2
              go_meet
              case rel => exact ⟨_, (true), (by first | rfl | (simp; done) | (simp [*]; done)), H', ⟨by have := HJ5.out; first | omega | exact Nat.le_refl _⟩, ⟨by repeat (first | (with_reducible first | exact HB.out | apply below_alloc | apply pw_below_drewN | apply below_drew1) | exact HB.out)⟩⟩
            · rw [if_neg c52] at H
              have c52b0 : decide (a0 < t111) = false := decide_eq_false c52
              clear c52
              replace H := Option.bind_eq_some_iff.mp H
              obtain ⟨t115, A530, H⟩ := H
              replace H : (if (wrap64 (a0 - t111)) ≥ t115 then (foolscaplaw15_MathsNear.j2 kj5 a0 a2 t113 t114 true) else (if a2 = 0 then (none) else (foolscaplaw15_MathsNear.j2 kj5 a0 a2 t113 t114 ((Int.tmod t111 a2) != 0)))) = some r := H
              have A53 := Aside0.mk A530
              clear A530
              by_cases c54 : (wrap64 (a0 - t111)) ≥ t115
              · rw [if_pos c54] at H
                have c54b0 : decide (t115 ≤ (wrap64 (a0 - t111))) = true := decide_eq_true c54
                clear c54
                have H' := Aside0.mk H
                clear H
                go_wp2_with (first | (go_at_call 21; (with_reducible refine (foolscaplaw15_size.calls a2 t115 _ A53.out).mono ?_); rintro e w55 ⟨rfl, hb⟩; have n0_ := Aside0.mk (below_step (by repeat (first | (with_reducible first | exact HB.out | apply below_alloc | apply pw_below_drewN | apply below_drew1) | exact HB.out)) hb); clear HB; have HB := n0_; clear n0_; (try clear hb); (try clear hb2); (try clear hk); (try clear hi)))
                go_meet
                case rel => exact ⟨_, (true), (by first | rfl | (simp; done) | (simp [*]; done)), H', ⟨by have := HJ5.out; first | omega | exact Nat.le_refl _⟩, ⟨by repeat (first | (with_reducible first | exact HB.out | apply below_alloc | apply pw_below_drewN | apply below_drew1) | exact HB.out)⟩⟩
              · rw [if_neg c54] at H
                have c54b0 : decide (t115 ≤ (wrap64 (a0 - t111))) = false := decide_eq_false c54
                clear c54
                by_cases c56 : a2 = 0
                · rw [if_pos c56] at H
                  exact absurd H (by simp)
                · rw [if_neg c56] at H
                  have c56b0 : (a2 == 0) = false := beq_eq_false_iff_ne.mpr c56
                  have c56b1 : (a2 != 0) = true := bne_iff_ne.mpr c56
                  have H' := Aside0.mk H
                  clear H
                  go_wp2_with (first | (go_at_call 21; (with_reducible refine (foolscaplaw15_size.calls a2 t115 _ A53.out).mono ?_); rintro e w57 ⟨rfl, hb⟩; have n0_ := Aside0.mk (below_step (by repeat (first | (with_reducible first | exact HB.out | apply below_alloc | apply pw_below_drewN | apply below_drew1) | exact HB.out)) hb); clear HB; have HB := n0_; clear n0_; (try clear hb); (try clear hb2); (try clear hk); (try clear hi)))
                  go_meet
                  case rel => exact ⟨_, (((Int.tmod t111 a2) != 0)), (by first | rfl | (simp; done) | (simp [*]; done)), H', ⟨by have := HJ5.out; first | omega | exact Nat.le_refl _⟩, ⟨by repeat (first | (with_reducible first | exact HB.out | apply below_alloc | apply pw_below_drewN | apply below_drew1) | exact HB.out)⟩⟩
        · rw [if_neg c50] at H
          have c50b0 : (t112 == 0) = false := beq_eq_false_iff_ne.mpr c50
          have c50b1 : (t112 != 0) = true := bne_iff_ne.mpr c50
          (first | rw [c50b0] | (simp only [i64_w, i32_w]; rw [c50b0]) | skip)
          have H' := Aside0.mk H
          clear H
          go_wp2
          go_meet
          case rel => exact ⟨_, (false), (by first | rfl | (simp; done) | (simp [*]; done)), H', ⟨by have := HJ5.out; first | omega | exact Nat.le_refl _⟩, ⟨by repeat (first | (with_reducible first | exact HB.out | apply below_alloc | apply pw_below_drewN | apply below_drew1) | exact HB.out)⟩⟩
      case rest =>
        clear HC47
        try clear c1
        try clear c2
        try clear p2
        try clear c3
        try clear c5
        try clear p6
        try clear c7
        try clear c7b0
        try clear c7b1
        try clear c8
        try clear c8b0
        try clear c11
        try clear c11b0
        try clear c13
        try clear c13b0
        try clear c14
        try clear c14b0
        try clear c14b1
        try clear c15
        try clear c15b0
        try clear c15b1
        try clear c16
        try clear c16b0
        try clear c16b1
        try clear c19
        try clear c19b0
        try clear c21
        try clear c21b0
        try clear c22
        try clear c22b0
        try clear c22b1
        try clear c23
        try clear c23b0
        try clear c23b1
        try clear c24
        try clear c24b0
        try clear c24b1
        try clear c26
        try clear c27
        try clear c28
        try clear c29
        try clear c37
        try clear c37b0
        try clear c37b1
        try clear c38
        try clear c38b0
        try clear c38b1
        try clear c50
        try clear c50b0
        try clear c50b1
        try clear c51
        try clear c51b0
        try clear c51b1
        try clear c52
        try clear c52b0
        try clear c54
        try clear c54b0
        try clear c56
        try clear c56b0
        try clear c56b1
        try clear p2
        try clear p6
        obtain ⟨kq, x128_46, rfl, HA, HJ46, HB⟩ := hcut
        cases kq with
        | zero => exact absurd HA.out (by simp [foolscaplaw15_MathsNear.j2])
        | succ kj46 =>
          have H := HA.out
          clear HA
          simp only [foolscaplaw15_MathsNear.j2] at H
          by_cases c58 : x128_46 = true
          · subst c58
            have H1 : (none) = some r := by rw [if_pos rfl] at H; exact H
            clear H
            have H := H1
            clear H1
            exact absurd H (by simp)
          · replace c58 := Bool.eq_false_iff.mpr c58
            subst c58
            have H1 : (if t114 = 0 then (if a0 = 0 then ((foolscaplaw15_lives.f).bind fun t116 => (some t116)) else (if t113 ≥ a0 then ((foolscaplaw15_size.f a2).bind fun t117 => (if (wrap64 (t113 - a0)) < t117 then (if a2 = 0 then (none) else (if (Int.tmod t113 a2) = 0 then ((foolscaplaw15_lives.f).bind fun t118 => (some t118)) else (none))) else (none))) else (none))) else ((foolscaplaw15_lives.f).bind fun t119 => (some t119))) = some r := by rw [if_neg (show ¬ (false = true) by decide)] at H; exact H
            clear H
            have H := H1
            clear H1
            by_cases c59 : t114 = 0
            · rw [if_pos c59] at H
              have c59b0 : (t114 == 0) = true := beq_iff_eq.mpr c59
              have c59b1 : (t114 != 0) = false := bne_eq_false_iff_eq.mpr c59
              clear c59
              by_cases c60 : a0 = 0
              · rw [if_pos c60] at H
                have c60b0 : (a0 == 0) = true := beq_iff_eq.mpr c60
                have c60b1 : (a0 != 0) = false := bne_eq_false_iff_eq.mpr c60
                clear c60
                replace H := Option.bind_eq_some_iff.mp H
                obtain ⟨t116, A610, H⟩ := H
                replace H : (some t116) = some r := H
                have A61 := Aside0.mk A610
                clear A610
                obtain rfl := Option.some.inj H
                go_wp2_with (first | (go_at_call 18; (with_reducible refine (foolscaplaw15_lives.calls  t116 _ A61.out).mono ?_); rintro e w62 ⟨rfl, hb⟩; have n0_ := Aside0.mk (below_step (by repeat (first | (with_reducible first | exact HB.out | apply below_alloc | apply pw_below_drewN | apply below_drew1) | exact HB.out)) hb); clear HB; have HB := n0_; clear n0_; (try clear hb); (try clear hb2); (try clear hk); (try clear hi)))
                go_ret
                exact ⟨by first | rfl | (simp [errW_none, errW_some] <;> rfl) | (simp [*, errW_none, errW_some] <;> rfl), by repeat (first | (with_reducible first | exact HB.out | apply below_alloc | apply pw_below_drewN | apply below_drew1) | exact HB.out)⟩
              · rw [if_neg c60] at H
                have c60b0 : (a0 == 0) = false := beq_eq_false_iff_ne.mpr c60
                have c60b1 : (a0 != 0) = true := bne_iff_ne.mpr c60
                by_cases c63 : t113 ≥ a0
                · rw [if_pos c63] at H
                  have c63b0 : decide (a0 ≤ t113) = true := decide_eq_true c63
                  clear c63
                  replace H := Option.bind_eq_some_iff.mp H
                  obtain ⟨t117, A640, H⟩ := H
                  replace H : (if (wrap64 (t113 - a0)) < t117 then (if a2 = 0 then (none) else (if (Int.tmod t113 a2) = 0 then ((foolscaplaw15_lives.f).bind fun t118 => (some t118)) else (none))) else (none)) = some r := H
                  have A64 := Aside0.mk A640
                  clear A640
                  by_cases c65 : (wrap64 (t113 - a0)) < t117
                  · rw [if_pos c65] at H
                    have c65b0 : decide ((wrap64 (t113 - a0)) < t117) = true := decide_eq_true c65
                    clear c65
                    by_cases c66 : a2 = 0
                    · rw [if_pos c66] at H
                      exact absurd H (by simp)
                    · rw [if_neg c66] at H
                      have c66b0 : (a2 == 0) = false := beq_eq_false_iff_ne.mpr c66
                      have c66b1 : (a2 != 0) = true := bne_iff_ne.mpr c66
                      by_cases c67 : (Int.tmod t113 a2) = 0
                      · rw [if_pos c67] at H
                        have c67b0 : ((Int.tmod t113 a2) == 0) = true := beq_iff_eq.mpr c67
                        have c67b1 : ((Int.tmod t113 a2) != 0) = false := bne_eq_false_iff_eq.mpr c67
                        clear c67
                        replace H := Option.bind_eq_some_iff.mp H
                        obtain ⟨t118, A680, H⟩ := H
                        replace H : (some t118) = some r := H
                        have A68 := Aside0.mk A680
                        clear A680
                        obtain rfl := Option.some.inj H
                        go_wp2_with (first | (go_at_call 21; (with_reducible refine (foolscaplaw15_size.calls a2 t117 _ A64.out).mono ?_); rintro e w69 ⟨rfl, hb⟩; have n0_ := Aside0.mk (below_step (by repeat (first | (with_reducible first | exact HB.out | apply below_alloc | apply pw_below_drewN | apply below_drew1) | exact HB.out)) hb); clear HB; have HB := n0_; clear n0_; (try clear hb); (try clear hb2); (try clear hk); (try clear hi)) | (go_at_call 18; (with_reducible refine (foolscaplaw15_lives.calls  t118 _ A68.out).mono ?_); rintro e w70 ⟨rfl, hb⟩; have n0_ := Aside0.mk (below_step (by repeat (first | (with_reducible first | exact HB.out | apply below_alloc | apply pw_below_drewN | apply below_drew1) | exact HB.out)) hb); clear HB; have HB := n0_; clear n0_; (try clear hb); (try clear hb2); (try clear hk); (try clear hi)))
                        go_ret
                        exact ⟨by first | rfl | (simp [errW_none, errW_some] <;> rfl) | (simp [*, errW_none, errW_some] <;> rfl), by repeat (first | (with_reducible first | exact HB.out | apply below_alloc | apply pw_below_drewN | apply below_drew1) | exact HB.out)⟩
                      · rw [if_neg c67] at H
                        exact absurd H (by simp)
                  · rw [if_neg c65] at H
                    exact absurd H (by simp)
                · rw [if_neg c63] at H
                  exact absurd H (by simp)
            · rw [if_neg c59] at H
              have c59b0 : (t114 == 0) = false := beq_eq_false_iff_ne.mpr c59
              have c59b1 : (t114 != 0) = true := bne_iff_ne.mpr c59
              replace H := Option.bind_eq_some_iff.mp H
              obtain ⟨t119, A710, H⟩ := H
              replace H : (some t119) = some r := H
              have A71 := Aside0.mk A710
              clear A710
              obtain rfl := Option.some.inj H
              go_wp2_with (first | (go_at_call 18; (with_reducible refine (foolscaplaw15_lives.calls  t119 _ A71.out).mono ?_); rintro e w72 ⟨rfl, hb⟩; have n0_ := Aside0.mk (below_step (by repeat (first | (with_reducible first | exact HB.out | apply below_alloc | apply pw_below_drewN | apply below_drew1) | exact HB.out)) hb); clear HB; have HB := n0_; clear n0_; (try clear hb); (try clear hb2); (try clear hk); (try clear hi)))
              go_ret
              exact ⟨by first | rfl | (simp [errW_none, errW_some] <;> rfl) | (simp [*, errW_none, errW_some] <;> rfl), by repeat (first | (with_reducible first | exact HB.out | apply below_alloc | apply pw_below_drewN | apply below_drew1) | exact HB.out)⟩

/-- THE ONE PURE STATEMENT of foolscaplaw15_MathsNear: yours. -/
def foolscaplaw15_MathsNear.Pure : Prop := ∀ (a0 : Int) (a1 : Int) (a2 : Int), (Lit.int .i64 a0).wf = true → (Lit.int .i64 a1).wf = true → (Lit.int .i64 a2).wf = true → ∃ k, foolscaplaw15_MathsNear.f k a0 a1 a2 = some true
theorem foolscaplaw15_MathsNear.walk (P : foolscaplaw15_MathsNear.Pure) (a0 : Int) (a1 : Int) (a2 : Int) (w : World) (w0 : (Lit.int .i64 a0).wf = true) (w1 : (Lit.int .i64 a1).wf = true) (w2 : (Lit.int .i64 a2).wf = true) :
    Calls Try.prog 8 #[.int .i64 a0, .int .i64 a1, .int .i64 a2] w fun e w' => e = .returned (.bool true) ∧ Below w.heap.size w w' := by
  obtain ⟨k, h⟩ := P a0 a1 a2 w0 w1 w2
  refine (foolscaplaw15_MathsNear.calls k a0 a1 a2 true w h).mono ?_
  rintro e w' ⟨rfl, hd⟩
  exact ⟨rfl, hd⟩

end Go.Proofs.Ytbgiehmpdligdaa.PMathsNear
