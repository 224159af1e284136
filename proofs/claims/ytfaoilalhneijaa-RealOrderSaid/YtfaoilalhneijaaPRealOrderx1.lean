-- By wip/tools/printplus.py of this session, over the kit's print; what is by hand in it is this session's own.
import Derived.Test.YtfaoilalhneijaaPRealOrderx0
namespace Go.Proofs.Ytfaoilalhneijaa.PRealOrder
open Go.RowKit Go.Proofs.YtfaoilalhneijaaW.PrintWords Go.Proofs.YtfaoilalhneijaaW.PrintLast Go.Proofs.YtfaoilalhneijaaW.PrintMore
attribute [local go_sem] max2_int min2_int max_two min_two max_three min_three max_four min_four   -- for this text's walks alone
set_option linter.unusedVariables false
set_option linter.unusedSimpArgs false

/-! ### real_Kind: function 13 -/
def real_Kind.f (a0 : Nat) : Option (Int) := Go.Proofs.Ytfaoilalhneijaa.FZ.kindC a0
theorem real_Kind.calls (a0 : Nat) (r : Int) (w : World) (h : real_Kind.f a0 = some r) :
    Calls Try.prog 13 #[.float .f64 a0] w fun e w' => e = .returned (.int .i64 r) ∧ Drawn0 w w' :=
  Go.Proofs.Ytfaoilalhneijaa.PG.real_Kind.calls a0 r w (FZ.kind_c h)

-- NOT PRINTED: function 27 (math_Float64frombits)

/-! ### foolscaplaw02_of: function 14 -/
def foolscaplaw02_of.f (a0 : Int) : Option (Nat) := some a0.toNat
set_option maxHeartbeats 8000000 in
set_option maxRecDepth 100000 in
theorem foolscaplaw02_of.calls (a0 : Int) (r : Nat) (w : World) (h : foolscaplaw02_of.f a0 = some r) :
    Calls Try.prog 14 #[.int .u64 a0] w fun e w' => e = .returned (.float .f64 r) ∧ Drawn0 w w' := by
  have hent_ffrom := hent_ffrom
  have H : (some a0.toNat) = some r := h
  clear h
  obtain rfl := Option.some.inj H
  go_enter Try.func14, Try.ntmps14
  go_wp2
  go_ret
  exact ⟨by first | rfl | (simp; done) | (simp [*]; done), by repeat (first | exact Drawn0.refl _ | apply Drawn0.step)⟩

/-! ### foolscaplaw02_lives: function 16 -/
def foolscaplaw02_lives.f  : Option (Bool) := some (true)
theorem foolscaplaw02_lives.calls  (r : Bool) (w : World) (h : foolscaplaw02_lives.f  = some r) :
    Calls Try.prog 16 #[] w fun e w' => e = .returned (.bool r) ∧ Below w.heap.size w w' :=
  Go.Proofs.Ytfaoilalhneijaa.PG.foolscaplaw02_lives.calls 300 r w (Eq.trans (FX.lives_eq 100) h)

/-! ### real_Less: function 24 -/
def real_Less.f (a0 : Nat) (a1 : Nat) : Option (Bool) := Go.Proofs.Ytfaoilalhneijaa.FZ.lessC a0 a1
theorem real_Less.calls (a0 : Nat) (a1 : Nat) (r : Bool) (w : World) (h : real_Less.f a0 a1 = some r) :
    Calls Try.prog 24 #[.float .f64 a0, .float .f64 a1] w fun e w' => e = .returned (.bool r) ∧ Below w.heap.size w w' :=
  Go.Proofs.Ytfaoilalhneijaa.PG.real_Less.calls a0 a1 r w (FZ.less_c h)

/-! ### foolscaplaw02_RealOrder: function 10 -/
mutual
def foolscaplaw02_RealOrder.j0 : Nat → Int → Int → Nat → Nat → Nat → Bool → Option (Bool)
  | 0, _, _, _, _, _, _ => none
  | k + 1, x0, x1, x7, x8, x9, x10 => (real_Less.f x7 x8).bind fun t106 => (if t106 = true then ((real_Less.f x8 x7).bind fun t107 => (if t107 = true then (foolscaplaw02_RealOrder.j1 k x7 x8 x9 true) else ((real_Less.f x7 x7).bind fun t108 => (if t108 = true then (foolscaplaw02_RealOrder.j1 k x7 x8 x9 true) else (if x10 = true then (foolscaplaw02_RealOrder.j1 k x7 x8 x9 false) else (if x0 = x1 then (foolscaplaw02_RealOrder.j1 k x7 x8 x9 false) else ((real_Less.f x7 x8).bind fun t109 => (if t109 = true then (foolscaplaw02_RealOrder.j1 k x7 x8 x9 false) else ((real_Less.f x8 x7).bind fun t110 => (foolscaplaw02_RealOrder.j1 k x7 x8 x9 (!t110))))))))))) else ((real_Less.f x7 x7).bind fun t111 => (if t111 = true then (foolscaplaw02_RealOrder.j1 k x7 x8 x9 true) else (if x10 = true then (foolscaplaw02_RealOrder.j1 k x7 x8 x9 false) else (if x0 = x1 then (foolscaplaw02_RealOrder.j1 k x7 x8 x9 false) else ((real_Less.f x7 x8).bind fun t112 => (if t112 = true then (foolscaplaw02_RealOrder.j1 k x7 x8 x9 false) else ((real_Less.f x8 x7).bind fun t113 => (foolscaplaw02_RealOrder.j1 k x7 x8 x9 (!t113))))))))))
def foolscaplaw02_RealOrder.j1 : Nat → Nat → Nat → Nat → Bool → Option (Bool)
  | 0, _, _, _, _ => none
  | k + 1, x7, x8, x9, x58 => if x58 = true then (none) else ((real_Less.f x7 x8).bind fun t114 => (if t114 = true then ((real_Less.f x8 x9).bind fun t115 => (if t115 = true then ((real_Less.f x7 x9).bind fun t116 => (if t116 = true then ((foolscaplaw02_lives.f).bind fun t117 => (some t117)) else (none))) else ((foolscaplaw02_lives.f).bind fun t118 => (some t118)))) else ((foolscaplaw02_lives.f).bind fun t119 => (some t119))))
end
def foolscaplaw02_RealOrder.f (k : Nat) (a0 : Int) (a1 : Int) (a2 : Int) : Option (Bool) := (foolscaplaw02_of.f a0).bind fun t101 => ((foolscaplaw02_of.f a1).bind fun t102 => ((foolscaplaw02_of.f a2).bind fun t103 => ((real_Kind.f t101).bind fun t104 => (if t104 = 0 then ((real_Kind.f t102).bind fun t105 => (foolscaplaw02_RealOrder.j0 k a0 a1 t101 t102 t103 (t105 == 0))) else (foolscaplaw02_RealOrder.j0 k a0 a1 t101 t102 t103 false)))))
theorem foolscaplaw02_RealOrder.mono_l : ∀ k, (∀ y0 y1 y2 y3 y4 y5, LeO (foolscaplaw02_RealOrder.j0 k y0 y1 y2 y3 y4 y5) (foolscaplaw02_RealOrder.j0 (k + 1) y0 y1 y2 y3 y4 y5)) ∧ (∀ y0 y1 y2 y3, LeO (foolscaplaw02_RealOrder.j1 k y0 y1 y2 y3) (foolscaplaw02_RealOrder.j1 (k + 1) y0 y1 y2 y3))
  | 0 => ⟨fun _ _ _ _ _ _ r h => by simp [foolscaplaw02_RealOrder.j0] at h, fun _ _ _ _ r h => by simp [foolscaplaw02_RealOrder.j1] at h⟩
  | k + 1 => by
    obtain ⟨ih0, ih1⟩ := foolscaplaw02_RealOrder.mono_l k
    refine ⟨?_, ?_⟩
    · intro y0 y1 y2 y3 y4 y5
      unfold foolscaplaw02_RealOrder.j0
      repeat' first
      | (with_reducible exact ih0 _ _ _ _ _ _)
      | (with_reducible exact ih1 _ _ _ _)
      | (with_reducible exact LeO.refl _)
      | (with_reducible exact LeO.none _)
      | (with_reducible refine LeO.ite ?_ ?_)
      | (with_reducible refine LeO.bind ?_ (fun _ => ?_))
      | exact ih0 _ _ _ _ _ _
      | exact ih1 _ _ _ _
      | exact LeO.none _
      | refine LeO.ite ?_ ?_
      | refine LeO.bind ?_ (fun _ => ?_)
    · intro y0 y1 y2 y3
      unfold foolscaplaw02_RealOrder.j1
      repeat' first
      | (with_reducible exact ih0 _ _ _ _ _ _)
      | (with_reducible exact ih1 _ _ _ _)
      | (with_reducible exact LeO.refl _)
      | (with_reducible exact LeO.none _)
      | (with_reducible refine LeO.ite ?_ ?_)
      | (with_reducible refine LeO.bind ?_ (fun _ => ?_))
      | exact ih0 _ _ _ _ _ _
      | exact ih1 _ _ _ _
      | exact LeO.none _
      | refine LeO.ite ?_ ?_
      | refine LeO.bind ?_ (fun _ => ?_)
theorem foolscaplaw02_RealOrder.mono : ∀ a0 a1 a2 k, LeO (foolscaplaw02_RealOrder.f k a0 a1 a2) (foolscaplaw02_RealOrder.f (k + 1) a0 a1 a2) := by
  intro a0 a1 a2 k
  obtain ⟨ih0, ih1⟩ := foolscaplaw02_RealOrder.mono_l k
  unfold foolscaplaw02_RealOrder.f
  repeat' first
      | (with_reducible exact ih0 _ _ _ _ _ _)
      | (with_reducible exact ih1 _ _ _ _)
      | (with_reducible exact LeO.refl _)
      | (with_reducible exact LeO.none _)
      | (with_reducible refine LeO.ite ?_ ?_)
      | (with_reducible refine LeO.bind ?_ (fun _ => ?_))
      | exact ih0 _ _ _ _ _ _
      | exact ih1 _ _ _ _
      | exact LeO.none _
      | refine LeO.ite ?_ ?_
      | refine LeO.bind ?_ (fun _ => ?_)
set_option maxHeartbeats 8000000 in
set_option maxRecDepth 100000 in
theorem foolscaplaw02_RealOrder.calls (k : Nat) (a0 : Int) (a1 : Int) (a2 : Int) (r : Bool) (w : World) (h : foolscaplaw02_RealOrder.f k a0 a1 a2 = some r) :
    Calls Try.prog 10 #[.int .u64 a0, .int .u64 a1, .int .u64 a2] w fun e w' => e = .returned (.bool r) ∧ Below w.heap.size w w' := by
  have HB := Aside0.mk (Below.refl w.heap.size w)
  have H : ((foolscaplaw02_of.f a0).bind fun t101 => ((foolscaplaw02_of.f a1).bind fun t102 => ((foolscaplaw02_of.f a2).bind fun t103 => ((real_Kind.f t101).bind fun t104 => (if t104 = 0 then ((real_Kind.f t102).bind fun t105 => (foolscaplaw02_RealOrder.j0 k a0 a1 t101 t102 t103 (t105 == 0))) else (foolscaplaw02_RealOrder.j0 k a0 a1 t101 t102 t103 false)))))) = some r := h
  clear h
  replace H := Option.bind_eq_some_iff.mp H
  obtain ⟨t101, A40, H⟩ := H
  replace H : ((foolscaplaw02_of.f a1).bind fun t102 => ((foolscaplaw02_of.f a2).bind fun t103 => ((real_Kind.f t101).bind fun t104 => (if t104 = 0 then ((real_Kind.f t102).bind fun t105 => (foolscaplaw02_RealOrder.j0 k a0 a1 t101 t102 t103 (t105 == 0))) else (foolscaplaw02_RealOrder.j0 k a0 a1 t101 t102 t103 false))))) = some r := H
  have A4 := Aside0.mk A40
  clear A40
  replace H := Option.bind_eq_some_iff.mp H
  obtain ⟨t102, A50, H⟩ := H
  replace H : ((foolscaplaw02_of.f a2).bind fun t103 => ((real_Kind.f t101).bind fun t104 => (if t104 = 0 then ((real_Kind.f t102).bind fun t105 => (foolscaplaw02_RealOrder.j0 k a0 a1 t101 t102 t103 (t105 == 0))) else (foolscaplaw02_RealOrder.j0 k a0 a1 t101 t102 t103 false)))) = some r := H
  have A5 := Aside0.mk A50
  clear A50
  replace H := Option.bind_eq_some_iff.mp H
  obtain ⟨t103, A60, H⟩ := H
  replace H : ((real_Kind.f t101).bind fun t104 => (if t104 = 0 then ((real_Kind.f t102).bind fun t105 => (foolscaplaw02_RealOrder.j0 k a0 a1 t101 t102 t103 (t105 == 0))) else (foolscaplaw02_RealOrder.j0 k a0 a1 t101 t102 t103 false))) = some r := H
  have A6 := Aside0.mk A60
  clear A60
  have HC7 := Aside0.mk H
  clear H
  go_enter Try.func10, Try.ntmps10
  go_upto_region 2 with (first | ((with_reducible refine gate_callee (f := 14) rfl ?_); refine goesL_ (some 12) rfl rfl Try.func14 (by kernel_rfl) rfl #[.int .u64 a0] rfl (by (try simp only [List.map_toArray, List.map_cons, List.map_nil]); first | done | rfl | (simp only [List.length_drop, List.length_take]; rfl)) ?_; (with_reducible refine (foolscaplaw02_of.calls a0 t101 _ A4.out).mono ?_); rintro e w' ⟨rfl, ⟨nd, rfl⟩⟩; refine ⟨_, rfl, ?_⟩) | ((with_reducible refine gate_callee (f := 14) rfl ?_); refine goesL_ (some 14) rfl rfl Try.func14 (by kernel_rfl) rfl #[.int .u64 a1] rfl (by (try simp only [List.map_toArray, List.map_cons, List.map_nil]); first | done | rfl | (simp only [List.length_drop, List.length_take]; rfl)) ?_; (with_reducible refine (foolscaplaw02_of.calls a1 t102 _ A5.out).mono ?_); rintro e w' ⟨rfl, ⟨nd, rfl⟩⟩; refine ⟨_, rfl, ?_⟩) | ((with_reducible refine gate_callee (f := 14) rfl ?_); refine goesL_ (some 16) rfl rfl Try.func14 (by kernel_rfl) rfl #[.int .u64 a2] rfl (by (try simp only [List.map_toArray, List.map_cons, List.map_nil]); first | done | rfl | (simp only [List.length_drop, List.length_take]; rfl)) ?_; (with_reducible refine (foolscaplaw02_of.calls a2 t103 _ A6.out).mono ?_); rintro e w' ⟨rfl, ⟨nd, rfl⟩⟩; refine ⟨_, rfl, ?_⟩))
  (try simp only [Act.put, List.setIfInBounds_toArray, List.set_cons_zero, List.set_cons_succ])
  go_cut [10] (fun v10 wc => ∃ (kq : Nat) (x10_6 : Bool), v10 = .bool x10_6 ∧ Aside0 (foolscaplaw02_RealOrder.j0 kq a0 a1 t101 t102 t103 x10_6 = some r) ∧ Aside0 (kq ≤ k) ∧ Aside0 (Below w.heap.size w wc))
  case first =>
    have H := HC7.out
    clear HC7
    replace H := Option.bind_eq_some_iff.mp H
    obtain ⟨t104, A80, H⟩ := H
    replace H : (if t104 = 0 then ((real_Kind.f t102).bind fun t105 => (foolscaplaw02_RealOrder.j0 k a0 a1 t101 t102 t103 (t105 == 0))) else (foolscaplaw02_RealOrder.j0 k a0 a1 t101 t102 t103 false)) = some r := H
    have A8 := Aside0.mk A80
    clear A80
    by_cases c9 : t104 = 0
    · rw [if_pos c9] at H
      have c9b0 : (t104 == 0) = true := beq_iff_eq.mpr c9
      have c9b1 : (t104 != 0) = false := bne_eq_false_iff_eq.mpr c9
      clear c9
      (first | rw [c9b0] | (simp only [i64_w, i32_w]; rw [c9b0]) | skip)
      replace H := Option.bind_eq_some_iff.mp H
      obtain ⟨t105, A100, H⟩ := H
      replace H : (foolscaplaw02_RealOrder.j0 k a0 a1 t101 t102 t103 (t105 == 0)) = some r := H
      have A10 := Aside0.mk A100
      clear A100
      have H' := Aside0.mk H
      clear H
      go_wp2_with (first | ((with_reducible refine gate_callee (f := 13) rfl ?_); refine goesL_ (some 18) rfl rfl Try.func13 (by kernel_rfl) rfl #[.float .f64 t101] rfl (by (try simp only [List.map_toArray, List.map_cons, List.map_nil]); first | done | rfl | (simp only [List.length_drop, List.length_take]; rfl)) ?_; (with_reducible refine (real_Kind.calls t101 t104 _ A8.out).mono ?_); rintro e w' ⟨rfl, ⟨nd, rfl⟩⟩; refine ⟨_, rfl, ?_⟩) | (go_at_call 13; (with_reducible refine (real_Kind.calls t102 t105 _ A10.out).mono ?_); rintro e w' ⟨rfl, ⟨nd, rfl⟩⟩))
      go_meet
      case rel => exact ⟨_, ((t105 == 0)), (by first | rfl | (simp; done) | (simp [*]; done)), H', ⟨by first | omega | exact Nat.le_refl _⟩, ⟨by repeat (first | (with_reducible first | exact HB.out | apply below_alloc | apply pw_below_drewN | apply below_drew1) | exact HB.out)⟩⟩
    · rw [if_neg c9] at H
      have c9b0 : (t104 == 0) = false := beq_eq_false_iff_ne.mpr c9
      have c9b1 : (t104 != 0) = true := bne_iff_ne.mpr c9
      (first | rw [c9b0] | (simp only [i64_w, i32_w]; rw [c9b0]) | skip)
      have H' := Aside0.mk H
      clear H
      go_wp2_with (first | ((with_reducible refine gate_callee (f := 13) rfl ?_); refine goesL_ (some 18) rfl rfl Try.func13 (by kernel_rfl) rfl #[.float .f64 t101] rfl (by (try simp only [List.map_toArray, List.map_cons, List.map_nil]); first | done | rfl | (simp only [List.length_drop, List.length_take]; rfl)) ?_; (with_reducible refine (real_Kind.calls t101 t104 _ A8.out).mono ?_); rintro e w' ⟨rfl, ⟨nd, rfl⟩⟩; refine ⟨_, rfl, ?_⟩))
      go_meet
      case rel => exact ⟨_, (false), (by first | rfl | (simp; done) | (simp [*]; done)), H', ⟨by first | omega | exact Nat.le_refl _⟩, ⟨by repeat (first | (with_reducible first | exact HB.out | apply below_alloc | apply pw_below_drewN | apply below_drew1) | exact HB.out)⟩⟩
  case rest =>
    clear HC7
    try clear c1
    try clear p2
    try clear c9
    try clear c9b0
    try clear c9b1
    try clear c10
    obtain ⟨kq, x10_6, rfl, HA, HJ6, HB⟩ := hcut
    cases kq with
    | zero => exact absurd HA.out (by simp [foolscaplaw02_RealOrder.j0])
    | succ kj6 =>
      have H := HA.out
      clear HA
      simp only [foolscaplaw02_RealOrder.j0] at H
      have HC11 := Aside0.mk H
      clear H
      go_upto_region 3 with (fail)
      go_cut [58] (fun v58 wc => ∃ (kq : Nat) (x58_10 : Bool), v58 = .bool x58_10 ∧ Aside0 (foolscaplaw02_RealOrder.j1 kq t101 t102 t103 x58_10 = some r) ∧ Aside0 (kq ≤ kj6) ∧ Aside0 (Below w.heap.size w wc))
      case first =>
        have H := HC11.out
        clear HC11
        replace H := Option.bind_eq_some_iff.mp H
        obtain ⟨t106, A120, H⟩ := H
        replace H : (if t106 = true then ((real_Less.f t102 t101).bind fun t107 => (if t107 = true then (foolscaplaw02_RealOrder.j1 kj6 t101 t102 t103 true) else ((real_Less.f t101 t101).bind fun t108 => (if t108 = true then (foolscaplaw02_RealOrder.j1 kj6 t101 t102 t103 true) else (if x10_6 = true then (foolscaplaw02_RealOrder.j1 kj6 t101 t102 t103 false) else (if a0 = a1 then (foolscaplaw02_RealOrder.j1 kj6 t101 t102 t103 false) else ((real_Less.f t101 t102).bind fun t109 => (if t109 = true then (foolscaplaw02_RealOrder.j1 kj6 t101 t102 t103 false) else ((real_Less.f t102 t101).bind fun t110 => (foolscaplaw02_RealOrder.j1 kj6 t101 t102 t103 (!t110))))))))))) else ((real_Less.f t101 t101).bind fun t111 => (if t111 = true then (foolscaplaw02_RealOrder.j1 kj6 t101 t102 t103 true) else (if x10_6 = true then (foolscaplaw02_RealOrder.j1 kj6 t101 t102 t103 false) else (if a0 = a1 then (foolscaplaw02_RealOrder.j1 kj6 t101 t102 t103 false) else ((real_Less.f t101 t102).bind fun t112 => (if t112 = true then (foolscaplaw02_RealOrder.j1 kj6 t101 t102 t103 false) else ((real_Less.f t102 t101).bind fun t113 => (foolscaplaw02_RealOrder.j1 kj6 t101 t102 t103 (!t113)))))))))) = some r := H
        have A12 := Aside0.mk A120
        clear A120
        by_cases c13 : t106 = true
        · subst c13
          have H1 : ((real_Less.f t102 t101).bind fun t107 => (if t107 = true then (foolscaplaw02_RealOrder.j1 kj6 t101 t102 t103 true) else ((real_Less.f t101 t101).bind fun t108 => (if t108 = true then (foolscaplaw02_RealOrder.j1 kj6 t101 t102 t103 true) else (if x10_6 = true then (foolscaplaw02_RealOrder.j1 kj6 t101 t102 t103 false) else (if a0 = a1 then (foolscaplaw02_RealOrder.j1 kj6 t101 t102 t103 false) else ((real_Less.f t101 t102).bind fun t109 => (if t109 = true then (foolscaplaw02_RealOrder.j1 kj6 t101 t102 t103 false) else ((real_Less.f t102 t101).bind fun t110 => (foolscaplaw02_RealOrder.j1 kj6 t101 t102 t103 (!t110))))))))))) = some r := by rw [if_pos rfl] at H; exact H
          clear H
          have H := H1
          clear H1
          replace H := Option.bind_eq_some_iff.mp H
          obtain ⟨t107, A140, H⟩ := H
          replace H : (if t107 = true then (foolscaplaw02_RealOrder.j1 kj6 t101 t102 t103 true) else ((real_Less.f t101 t101).bind fun t108 => (if t108 = true then (foolscaplaw02_RealOrder.j1 kj6 t101 t102 t103 true) else (if x10_6 = true then (foolscaplaw02_RealOrder.j1 kj6 t101 t102 t103 false) else (if a0 = a1 then (foolscaplaw02_RealOrder.j1 kj6 t101 t102 t103 false) else ((real_Less.f t101 t102).bind fun t109 => (if t109 = true then (foolscaplaw02_RealOrder.j1 kj6 t101 t102 t103 false) else ((real_Less.f t102 t101).bind fun t110 => (foolscaplaw02_RealOrder.j1 kj6 t101 t102 t103 (!t110)))))))))) = some r := H
          have A14 := Aside0.mk A140
          clear A140
          by_cases c15 : t107 = true
          · subst c15
            have H1 : (foolscaplaw02_RealOrder.j1 kj6 t101 t102 t103 true) = some r := by rw [if_pos rfl] at H; exact H
            clear H
            have H := H1
            clear H1
            have H' := Aside0.mk H
            clear H
            go_wp2_with (first | ((with_reducible refine gate_callee (f := 24) rfl ?_); refine goesL_ (some 27) rfl rfl Try.func24 (by kernel_rfl) rfl #[.float .f64 t101, .float .f64 t102] rfl (by (try simp only [List.map_toArray, List.map_cons, List.map_nil]); first | done | rfl | (simp only [List.length_drop, List.length_take]; rfl)) ?_; (with_reducible refine (real_Less.calls t101 t102 true _ A12.out).mono ?_); rintro e w16 ⟨rfl, hb⟩; refine ⟨_, rfl, ?_⟩; have n0_ := Aside0.mk (below_step (by repeat (first | (with_reducible first | exact HB.out | apply below_alloc | apply pw_below_drewN | apply below_drew1) | exact HB.out)) hb); clear HB; have HB := n0_; clear n0_; (try clear hb); (try clear hb2); (try clear hk); (try clear hi)) | (go_at_call 24; (with_reducible refine (real_Less.calls t102 t101 true _ A14.out).mono ?_); rintro e w17 ⟨rfl, hb⟩; have n0_ := Aside0.mk (below_step (by repeat (first | (with_reducible first | exact HB.out | apply below_alloc | apply pw_below_drewN | apply below_drew1) | exact HB.out)) hb); clear HB; have HB := n0_; clear n0_; (try clear hb); (try clear hb2); (try clear hk); (try clear hi)))
            go_meet
            case rel => exact ⟨_, (true), (by first | rfl | (simp; done) | (simp [*]; done)), H', ⟨by have := HJ6.out; first | omega | exact Nat.le_refl _⟩, ⟨by repeat (first | (with_reducible first | exact HB.out | apply below_alloc | apply pw_below_drewN | apply below_drew1) | exact HB.out)⟩⟩
          · replace c15 := Bool.eq_false_iff.mpr c15
            subst c15
            have H1 : ((real_Less.f t101 t101).bind fun t108 => (if t108 = true then (foolscaplaw02_RealOrder.j1 kj6 t101 t102 t103 true) else (if x10_6 = true then (foolscaplaw02_RealOrder.j1 kj6 t101 t102 t103 false) else (if a0 = a1 then (foolscaplaw02_RealOrder.j1 kj6 t101 t102 t103 false) else ((real_Less.f t101 t102).bind fun t109 => (if t109 = true then (foolscaplaw02_RealOrder.j1 kj6 t101 t102 t103 false) else ((real_Less.f t102 t101).bind fun t110 => (foolscaplaw02_RealOrder.j1 kj6 t101 t102 t103 (!t110))))))))) = some r := by rw [if_neg (show ¬ (false = true) by decide)] at H; exact H
            clear H
            have H := H1
            clear H1
            replace H := Option.bind_eq_some_iff.mp H
            obtain ⟨t108, A180, H⟩ := H
            replace H : (if t108 = true then (foolscaplaw02_RealOrder.j1 kj6 t101 t102 t103 true) else (if x10_6 = true then (foolscaplaw02_RealOrder.j1 kj6 t101 t102 t103 false) else (if a0 = a1 then (foolscaplaw02_RealOrder.j1 kj6 t101 t102 t103 false) else ((real_Less.f t101 t102).bind fun t109 => (if t109 = true then (foolscaplaw02_RealOrder.j1 kj6 t101 t102 t103 false) else ((real_Less.f t102 t101).bind fun t110 => (foolscaplaw02_RealOrder.j1 kj6 t101 t102 t103 (!t110)))))))) = some r := H
            have A18 := Aside0.mk A180
            clear A180
            by_cases c19 : t108 = true
            · subst c19
              have H1 : (foolscaplaw02_RealOrder.j1 kj6 t101 t102 t103 true) = some r := by rw [if_pos rfl] at H; exact H
              clear H
              have H := H1
              clear H1
              have H' := Aside0.mk H
              clear H
              go_wp2_with (first | ((with_reducible refine gate_callee (f := 24) rfl ?_); refine goesL_ (some 27) rfl rfl Try.func24 (by kernel_rfl) rfl #[.float .f64 t101, .float .f64 t102] rfl (by (try simp only [List.map_toArray, List.map_cons, List.map_nil]); first | done | rfl | (simp only [List.length_drop, List.length_take]; rfl)) ?_; (with_reducible refine (real_Less.calls t101 t102 true _ A12.out).mono ?_); rintro e w20 ⟨rfl, hb⟩; refine ⟨_, rfl, ?_⟩; have n0_ := Aside0.mk (below_step (by repeat (first | (with_reducible first | exact HB.out | apply below_alloc | apply pw_below_drewN | apply below_drew1) | exact HB.out)) hb); clear HB; have HB := n0_; clear n0_; (try clear hb); (try clear hb2); (try clear hk); (try clear hi)) | (go_at_call 24; (with_reducible refine (real_Less.calls t102 t101 false _ A14.out).mono ?_); rintro e w21 ⟨rfl, hb⟩; have n0_ := Aside0.mk (below_step (by repeat (first | (with_reducible first | exact HB.out | apply below_alloc | apply pw_below_drewN | apply below_drew1) | exact HB.out)) hb); clear HB; have HB := n0_; clear n0_; (try clear hb); (try clear hb2); (try clear hk); (try clear hi)) | (go_at_call 24; (with_reducible refine (real_Less.calls t101 t101 true _ A18.out).mono ?_); rintro e w22 ⟨rfl, hb⟩; have n0_ := Aside0.mk (below_step (by repeat (first | (with_reducible first | exact HB.out | apply below_alloc | apply pw_below_drewN | apply below_drew1) | exact HB.out)) hb); clear HB; have HB := n0_; clear n0_; (try clear hb); (try clear hb2); (try clear hk); (try clear hi)))
              go_meet
              case rel => exact ⟨_, (true), (by first | rfl | (simp; done) | (simp [*]; done)), H', ⟨by have := HJ6.out; first | omega | exact Nat.le_refl _⟩, ⟨by repeat (first | (with_reducible first | exact HB.out | apply below_alloc | apply pw_below_drewN | apply below_drew1) | exact HB.out)⟩⟩
            · replace c19 := Bool.eq_false_iff.mpr c19
              subst c19
              have H1 : (if x10_6 = true then (foolscaplaw02_RealOrder.j1 kj6 t101 t102 t103 false) else (if a0 = a1 then (foolscaplaw02_RealOrder.j1 kj6 t101 t102 t103 false) else ((real_Less.f t101 t102).bind fun t109 => (if t109 = true then (foolscaplaw02_RealOrder.j1 kj6 t101 t102 t103 false) else ((real_Less.f t102 t101).bind fun t110 => (foolscaplaw02_RealOrder.j1 kj6 t101 t102 t103 (!t110))))))) = some r := by rw [if_neg (show ¬ (false = true) by decide)] at H; exact H
              clear H
              have H := H1
              clear H1
              by_cases c23 : x10_6 = true
              · subst c23
                have H1 : (foolscaplaw02_RealOrder.j1 kj6 t101 t102 t103 false) = some r := by rw [if_pos rfl] at H; exact H
                clear H
                have H := H1
                clear H1
                have H' := Aside0.mk H
                clear H
                go_wp2_with (first | ((with_reducible refine gate_callee (f := 24) rfl ?_); refine goesL_ (some 27) rfl rfl Try.func24 (by kernel_rfl) rfl #[.float .f64 t101, .float .f64 t102] rfl (by (try simp only [List.map_toArray, List.map_cons, List.map_nil]); first | done | rfl | (simp only [List.length_drop, List.length_take]; rfl)) ?_; (with_reducible refine (real_Less.calls t101 t102 true _ A12.out).mono ?_); rintro e w24 ⟨rfl, hb⟩; refine ⟨_, rfl, ?_⟩; have n0_ := Aside0.mk (below_step (by repeat (first | (with_reducible first | exact HB.out | apply below_alloc | apply pw_below_drewN | apply below_drew1) | exact HB.out)) hb); clear HB; have HB := n0_; clear n0_; (try clear hb); (try clear hb2); (try clear hk); (try clear hi)) | (go_at_call 24; (with_reducible refine (real_Less.calls t102 t101 false _ A14.out).mono ?_); rintro e w25 ⟨rfl, hb⟩; have n0_ := Aside0.mk (below_step (by repeat (first | (with_reducible first | exact HB.out | apply below_alloc | apply pw_below_drewN | apply below_drew1) | exact HB.out)) hb); clear HB; have HB := n0_; clear n0_; (try clear hb); (try clear hb2); (try clear hk); (try clear hi)) | (go_at_call 24; (with_reducible refine (real_Less.calls t101 t101 false _ A18.out).mono ?_); rintro e w26 ⟨rfl, hb⟩; have n0_ := Aside0.mk (below_step (by repeat (first | (with_reducible first | exact HB.out | apply below_alloc | apply pw_below_drewN | apply below_drew1) | exact HB.out)) hb); clear HB; have HB := n0_; clear n0_; (try clear hb); (try clear hb2); (try clear hk); (try clear hi)))
                go_meet
                case rel => exact ⟨_, (false), (by first | rfl | (simp; done) | (simp [*]; done)), H', ⟨by have := HJ6.out; first | omega | exact Nat.le_refl _⟩, ⟨by repeat (first | (with_reducible first | exact HB.out | apply below_alloc | apply pw_below_drewN | apply below_drew1) | exact HB.out)⟩⟩
              · replace c23 := Bool.eq_false_iff.mpr c23
                subst c23
                have H1 : (if a0 = a1 then (foolscaplaw02_RealOrder.j1 kj6 t101 t102 t103 false) else ((real_Less.f t101 t102).bind fun t109 => (if t109 = true then (foolscaplaw02_RealOrder.j1 kj6 t101 t102 t103 false) else ((real_Less.f t102 t101).bind fun t110 => (foolscaplaw02_RealOrder.j1 kj6 t101 t102 t103 (!t110)))))) = some r := by rw [if_neg (show ¬ (false = true) by decide)] at H; exact H
                clear H
                have H := H1
                clear H1
                by_cases c27 : a0 = a1
                · rw [if_pos c27] at H
                  have c27b0 : (a0 == a1) = true := beq_iff_eq.mpr c27
                  have c27b1 : (a0 != a1) = false := bne_eq_false_iff_eq.mpr c27
                  clear c27
                  (first | rw [c27b0] | (simp only [i64_w, i32_w]; rw [c27b0]) | skip)
                  have H' := Aside0.mk H
                  clear H
                  go_wp2_with (first | ((with_reducible refine gate_callee (f := 24) rfl ?_); refine goesL_ (some 27) rfl rfl Try.func24 (by kernel_rfl) rfl #[.float .f64 t101, .float .f64 t102] rfl (by (try simp only [List.map_toArray, List.map_cons, List.map_nil]); first | done | rfl | (simp only [List.length_drop, List.length_take]; rfl)) ?_; (with_reducible refine (real_Less.calls t101 t102 true _ A12.out).mono ?_); rintro e w28 ⟨rfl, hb⟩; refine ⟨_, rfl, ?_⟩; have n0_ := Aside0.mk (below_step (by repeat (first | (with_reducible first | exact HB.out | apply below_alloc | apply pw_below_drewN | apply below_drew1) | exact HB.out)) hb); clear HB; have HB := n0_; clear n0_; (try clear hb); (try clear hb2); (try clear hk); (try clear hi)) | (go_at_call 24; (with_reducible refine (real_Less.calls t102 t101 false _ A14.out).mono ?_); rintro e w29 ⟨rfl, hb⟩; have n0_ := Aside0.mk (below_step (by repeat (first | (with_reducible first | exact HB.out | apply below_alloc | apply pw_below_drewN | apply below_drew1) | exact HB.out)) hb); clear HB; have HB := n0_; clear n0_; (try clear hb); (try clear hb2); (try clear hk); (try clear hi)) | (go_at_call 24; (with_reducible refine (real_Less.calls t101 t101 false _ A18.out).mono ?_); rintro e w30 ⟨rfl, hb⟩; have n0_ := Aside0.mk (below_step (by repeat (first | (with_reducible first | exact HB.out | apply below_alloc | apply pw_below_drewN | apply below_drew1) | exact HB.out)) hb); clear HB; have HB := n0_; clear n0_; (try clear hb); (try clear hb2); (try clear hk); (try clear hi)))
                  go_meet
                  case rel => exact ⟨_, (false), (by first | rfl | (simp; done) | (simp [*]; done)), H', ⟨by have := HJ6.out; first | omega | exact Nat.le_refl _⟩, ⟨by repeat (first | (with_reducible first | exact HB.out | apply below_alloc | apply pw_below_drewN | apply below_drew1) | exact HB.out)⟩⟩
                · rw [if_neg c27] at H
                  have c27b0 : (a0 == a1) = false := beq_eq_false_iff_ne.mpr c27
                  have c27b1 : (a0 != a1) = true := bne_iff_ne.mpr c27
                  (first | rw [c27b0] | (simp only [i64_w, i32_w]; rw [c27b0]) | skip)
                  replace H := Option.bind_eq_some_iff.mp H
                  obtain ⟨t109, A310, H⟩ := H
                  replace H : (if t109 = true then (foolscaplaw02_RealOrder.j1 kj6 t101 t102 t103 false) else ((real_Less.f t102 t101).bind fun t110 => (foolscaplaw02_RealOrder.j1 kj6 t101 t102 t103 (!t110)))) = some r := H
                  have A31 := Aside0.mk A310
                  clear A310
                  by_cases c32 : t109 = true
                  · subst c32
                    have H1 : (foolscaplaw02_RealOrder.j1 kj6 t101 t102 t103 false) = some r := by rw [if_pos rfl] at H; exact H
                    clear H
                    have H := H1
                    clear H1
                    have H' := Aside0.mk H
                    clear H
                    go_wp2_with (first | ((with_reducible refine gate_callee (f := 24) rfl ?_); refine goesL_ (some 27) rfl rfl Try.func24 (by kernel_rfl) rfl #[.float .f64 t101, .float .f64 t102] rfl (by (try simp only [List.map_toArray, List.map_cons, List.map_nil]); first | done | rfl | (simp only [List.length_drop, List.length_take]; rfl)) ?_; (with_reducible refine (real_Less.calls t101 t102 true _ A12.out).mono ?_); rintro e w33 ⟨rfl, hb⟩; refine ⟨_, rfl, ?_⟩; have n0_ := Aside0.mk (below_step (by repeat (first | (with_reducible first | exact HB.out | apply below_alloc | apply pw_below_drewN | apply below_drew1) | exact HB.out)) hb); clear HB; have HB := n0_; clear n0_; (try clear hb); (try clear hb2); (try clear hk); (try clear hi)) | (go_at_call 24; (with_reducible refine (real_Less.calls t102 t101 false _ A14.out).mono ?_); rintro e w34 ⟨rfl, hb⟩; have n0_ := Aside0.mk (below_step (by repeat (first | (with_reducible first | exact HB.out | apply below_alloc | apply pw_below_drewN | apply below_drew1) | exact HB.out)) hb); clear HB; have HB := n0_; clear n0_; (try clear hb); (try clear hb2); (try clear hk); (try clear hi)) | (go_at_call 24; (with_reducible refine (real_Less.calls t101 t101 false _ A18.out).mono ?_); rintro e w35 ⟨rfl, hb⟩; have n0_ := Aside0.mk (below_step (by repeat (first | (with_reducible first | exact HB.out | apply below_alloc | apply pw_below_drewN | apply below_drew1) | exact HB.out)) hb); clear HB; have HB := n0_; clear n0_; (try clear hb); (try clear hb2); (try clear hk); (try clear hi)) | (go_at_call 24; (with_reducible refine (real_Less.calls t101 t102 true _ A31.out).mono ?_); rintro e w36 ⟨rfl, hb⟩; have n0_ := Aside0.mk (below_step (by repeat (first | (with_reducible first | exact HB.out | apply below_alloc | apply pw_below_drewN | apply below_drew1) | exact HB.out)) hb); clear HB; have HB := n0_; clear n0_; (try clear hb); (try clear hb2); (try clear hk); (try clear hi)))
                    go_meet
                    case rel => exact ⟨_, (false), (by first | rfl | (simp; done) | (simp [*]; done)), H', ⟨by have := HJ6.out; first | omega | exact Nat.le_refl _⟩, ⟨by repeat (first | (with_reducible first | exact HB.out | apply below_alloc | apply pw_below_drewN | apply below_drew1) | exact HB.out)⟩⟩
                  · replace c32 := Bool.eq_false_iff.mpr c32
                    subst c32
                    have H1 : ((real_Less.f t102 t101).bind fun t110 => (foolscaplaw02_RealOrder.j1 kj6 t101 t102 t103 (!t110))) = some r := by rw [if_neg (show ¬ (false = true) by decide)] at H; exact H
                    clear H
                    have H := H1
                    clear H1
                    replace H := Option.bind_eq_some_iff.mp H
                    obtain ⟨t110, A370, H⟩ := H
                    replace H : (foolscaplaw02_RealOrder.j1 kj6 t101 t102 t103 (!t110)) = some r := H
                    have A37 := Aside0.mk A370
                    clear A370
                    have e_ := Option.some.inj (A37.out.symm.trans A14.out)
                    have H' := Aside0.mk H
                    clear H
                    go_wp2_with (first | ((with_reducible refine gate_callee (f := 24) rfl ?_); refine goesL_ (some 27) rfl rfl Try.func24 (by kernel_rfl) rfl #[.float .f64 t101, .float .f64 t102] rfl (by (try simp only [List.map_toArray, List.map_cons, List.map_nil]); first | done | rfl | (simp only [List.length_drop, List.length_take]; rfl)) ?_; (with_reducible refine (real_Less.calls t101 t102 true _ A12.out).mono ?_); rintro e w38 ⟨rfl, hb⟩; refine ⟨_, rfl, ?_⟩; have n0_ := Aside0.mk (below_step (by repeat (first | (with_reducible first | exact HB.out | apply below_alloc | apply pw_below_drewN | apply below_drew1) | exact HB.out)) hb); clear HB; have HB := n0_; clear n0_; (try clear hb); (try clear hb2); (try clear hk); (try clear hi)) | (go_at_call 24; (with_reducible refine (real_Less.calls t102 t101 false _ A14.out).mono ?_); rintro e w39 ⟨rfl, hb⟩; have n0_ := Aside0.mk (below_step (by repeat (first | (with_reducible first | exact HB.out | apply below_alloc | apply pw_below_drewN | apply below_drew1) | exact HB.out)) hb); clear HB; have HB := n0_; clear n0_; (try clear hb); (try clear hb2); (try clear hk); (try clear hi)) | (go_at_call 24; (with_reducible refine (real_Less.calls t101 t101 false _ A18.out).mono ?_); rintro e w40 ⟨rfl, hb⟩; have n0_ := Aside0.mk (below_step (by repeat (first | (with_reducible first | exact HB.out | apply below_alloc | apply pw_below_drewN | apply below_drew1) | exact HB.out)) hb); clear HB; have HB := n0_; clear n0_; (try clear hb); (try clear hb2); (try clear hk); (try clear hi)) | (go_at_call 24; (with_reducible refine (real_Less.calls t101 t102 false _ A31.out).mono ?_); rintro e w41 ⟨rfl, hb⟩; have n0_ := Aside0.mk (below_step (by repeat (first | (with_reducible first | exact HB.out | apply below_alloc | apply pw_below_drewN | apply below_drew1) | exact HB.out)) hb); clear HB; have HB := n0_; clear n0_; (try clear hb); (try clear hb2); (try clear hk); (try clear hi)) | (go_at_call 24; (with_reducible refine (real_Less.calls t102 t101 t110 _ A37.out).mono ?_); rintro e w42 ⟨rfl, hb⟩; have n0_ := Aside0.mk (below_step (by repeat (first | (with_reducible first | exact HB.out | apply below_alloc | apply pw_below_drewN | apply below_drew1) | exact HB.out)) hb); clear HB; have HB := n0_; clear n0_; (try clear hb); (try clear hb2); (try clear hk); (try clear hi)))
                    go_meet
                    case rel => exact ⟨_, (!t110), (by first | rfl | (simp; done) | (simp [*]; done)), H', ⟨by have := HJ6.out; first | omega | exact Nat.le_refl _⟩, ⟨by repeat (first | (with_reducible first | exact HB.out | apply below_alloc | apply pw_below_drewN | apply below_drew1) | exact HB.out)⟩⟩
        · replace c13 := Bool.eq_false_iff.mpr c13
          subst c13
          have H1 : ((real_Less.f t101 t101).bind fun t111 => (if t111 = true then (foolscaplaw02_RealOrder.j1 kj6 t101 t102 t103 true) else (if x10_6 = true then (foolscaplaw02_RealOrder.j1 kj6 t101 t102 t103 false) else (if a0 = a1 then (foolscaplaw02_RealOrder.j1 kj6 t101 t102 t103 false) else ((real_Less.f t101 t102).bind fun t112 => (if t112 = true then (foolscaplaw02_RealOrder.j1 kj6 t101 t102 t103 false) else ((real_Less.f t102 t101).bind fun t113 => (foolscaplaw02_RealOrder.j1 kj6 t101 t102 t103 (!t113))))))))) = some r := by rw [if_neg (show ¬ (false = true) by decide)] at H; exact H
          clear H
          have H := H1
          clear H1
          replace H := Option.bind_eq_some_iff.mp H
          obtain ⟨t111, A430, H⟩ := H
          replace H : (if t111 = true then (foolscaplaw02_RealOrder.j1 kj6 t101 t102 t103 true) else (if x10_6 = true then (foolscaplaw02_RealOrder.j1 kj6 t101 t102 t103 false) else (if a0 = a1 then (foolscaplaw02_RealOrder.j1 kj6 t101 t102 t103 false) else ((real_Less.f t101 t102).bind fun t112 => (if t112 = true then (foolscaplaw02_RealOrder.j1 kj6 t101 t102 t103 false) else ((real_Less.f t102 t101).bind fun t113 => (foolscaplaw02_RealOrder.j1 kj6 t101 t102 t103 (!t113)))))))) = some r := H
          have A43 := Aside0.mk A430
          clear A430
          by_cases c44 : t111 = true
          · subst c44
            have H1 : (foolscaplaw02_RealOrder.j1 kj6 t101 t102 t103 true) = some r := by rw [if_pos rfl] at H; exact H
            clear H
            have H := H1
            clear H1
            have H' := Aside0.mk H
            clear H
            go_wp2_with (first | ((with_reducible refine gate_callee (f := 24) rfl ?_); refine goesL_ (some 27) rfl rfl Try.func24 (by kernel_rfl) rfl #[.float .f64 t101, .float .f64 t102] rfl (by (try simp only [List.map_toArray, List.map_cons, List.map_nil]); first | done | rfl | (simp only [List.length_drop, List.length_take]; rfl)) ?_; (with_reducible refine (real_Less.calls t101 t102 false _ A12.out).mono ?_); rintro e w45 ⟨rfl, hb⟩; refine ⟨_, rfl, ?_⟩; have n0_ := Aside0.mk (below_step (by repeat (first | (with_reducible first | exact HB.out | apply below_alloc | apply pw_below_drewN | apply below_drew1) | exact HB.out)) hb); clear HB; have HB := n0_; clear n0_; (try clear hb); (try clear hb2); (try clear hk); (try clear hi)) | (go_at_call 24; (with_reducible refine (real_Less.calls t101 t101 true _ A43.out).mono ?_); rintro e w46 ⟨rfl, hb⟩; have n0_ := Aside0.mk (below_step (by repeat (first | (with_reducible first | exact HB.out | apply below_alloc | apply pw_below_drewN | apply below_drew1) | exact HB.out)) hb); clear HB; have HB := n0_; clear n0_; (try clear hb); (try clear hb2); (try clear hk); (try clear hi)))
            go_meet
            case rel => exact ⟨_, (true), (by first | rfl | (simp; done) | (simp [*]; done)), H', ⟨by have := HJ6.out; first | omega | exact Nat.le_refl _⟩, ⟨by repeat (first | (with_reducible first | exact HB.out | apply below_alloc | apply pw_below_drewN | apply below_drew1) | exact HB.out)⟩⟩
          · replace c44 := Bool.eq_false_iff.mpr c44
            subst c44
            have H1 : (if x10_6 = true then (foolscaplaw02_RealOrder.j1 kj6 t101 t102 t103 false) else (if a0 = a1 then (foolscaplaw02_RealOrder.j1 kj6 t101 t102 t103 false) else ((real_Less.f t101 t102).bind fun t112 => (if t112 = true then (foolscaplaw02_RealOrder.j1 kj6 t101 t102 t103 false) else ((real_Less.f t102 t101).bind fun t113 => (foolscaplaw02_RealOrder.j1 kj6 t101 t102 t103 (!t113))))))) = some r := by rw [if_neg (show ¬ (false = true) by decide)] at H; exact H
            clear H
            have H := H1
            clear H1
            by_cases c47 : x10_6 = true
            · subst c47
              have H1 : (foolscaplaw02_RealOrder.j1 kj6 t101 t102 t103 false) = some r := by rw [if_pos rfl] at H; exact H
              clear H
              have H := H1
              clear H1
              have H' := Aside0.mk H
              clear H
              go_wp2_with (first | ((with_reducible refine gate_callee (f := 24) rfl ?_); refine goesL_ (some 27) rfl rfl Try.func24 (by kernel_rfl) rfl #[.float .f64 t101, .float .f64 t102] rfl (by (try simp only [List.map_toArray, List.map_cons, List.map_nil]); first | done | rfl | (simp only [List.length_drop, List.length_take]; rfl)) ?_; (with_reducible refine (real_Less.calls t101 t102 false _ A12.out).mono ?_); rintro e w48 ⟨rfl, hb⟩; refine ⟨_, rfl, ?_⟩; have n0_ := Aside0.mk (below_step (by repeat (first | (with_reducible first | exact HB.out | apply below_alloc | apply pw_below_drewN | apply below_drew1) | exact HB.out)) hb); clear HB; have HB := n0_; clear n0_; (try clear hb); (try clear hb2); (try clear hk); (try clear hi)) | (go_at_call 24; (with_reducible refine (real_Less.calls t101 t101 false _ A43.out).mono ?_); rintro e w49 ⟨rfl, hb⟩; have n0_ := Aside0.mk (below_step (by repeat (first | (with_reducible first | exact HB.out | apply below_alloc | apply pw_below_drewN | apply below_drew1) | exact HB.out)) hb); clear HB; have HB := n0_; clear n0_; (try clear hb); (try clear hb2); (try clear hk); (try clear hi)))
              go_meet
              case rel => exact ⟨_, (false), (by first | rfl | (simp; done) | (simp [*]; done)), H', ⟨by have := HJ6.out; first | omega | exact Nat.le_refl _⟩, ⟨by repeat (first | (with_reducible first | exact HB.out | apply below_alloc | apply pw_below_drewN | apply below_drew1) | exact HB.out)⟩⟩
            · replace c47 := Bool.eq_false_iff.mpr c47
              subst c47
              have H1 : (if a0 = a1 then (foolscaplaw02_RealOrder.j1 kj6 t101 t102 t103 false) else ((real_Less.f t101 t102).bind fun t112 => (if t112 = true then (foolscaplaw02_RealOrder.j1 kj6 t101 t102 t103 false) else ((real_Less.f t102 t101).bind fun t113 => (foolscaplaw02_RealOrder.j1 kj6 t101 t102 t103 (!t113)))))) = some r := by rw [if_neg (show ¬ (false = true) by decide)] at H; exact H
              clear H
              have H := H1
              clear H1
              by_cases c50 : a0 = a1
              · rw [if_pos c50] at H
                have c50b0 : (a0 == a1) = true := beq_iff_eq.mpr c50
                have c50b1 : (a0 != a1) = false := bne_eq_false_iff_eq.mpr c50
                clear c50
                have H' := Aside0.mk H
                clear H
                go_wp2_with (first | ((with_reducible refine gate_callee (f := 24) rfl ?_); refine goesL_ (some 27) rfl rfl Try.func24 (by kernel_rfl) rfl #[.float .f64 t101, .float .f64 t102] rfl (by (try simp only [List.map_toArray, List.map_cons, List.map_nil]); first | done | rfl | (simp only [List.length_drop, List.length_take]; rfl)) ?_; (with_reducible refine (real_Less.calls t101 t102 false _ A12.out).mono ?_); rintro e w51 ⟨rfl, hb⟩; refine ⟨_, rfl, ?_⟩; have n0_ := Aside0.mk (below_step (by repeat (first | (with_reducible first | exact HB.out | apply below_alloc | apply pw_below_drewN | apply below_drew1) | exact HB.out)) hb); clear HB; have HB := n0_; clear n0_; (try clear hb); (try clear hb2); (try clear hk); (try clear hi)) | (go_at_call 24; (with_reducible refine (real_Less.calls t101 t101 false _ A43.out).mono ?_); rintro e w52 ⟨rfl, hb⟩; have n0_ := Aside0.mk (below_step (by repeat (first | (with_reducible first | exact HB.out | apply below_alloc | apply pw_below_drewN | apply below_drew1) | exact HB.out)) hb); clear HB; have HB := n0_; clear n0_; (try clear hb); (try clear hb2); (try clear hk); (try clear hi)))
                go_meet
                case rel => exact ⟨_, (false), (by first | rfl | (simp; done) | (simp [*]; done)), H', ⟨by have := HJ6.out; first | omega | exact Nat.le_refl _⟩, ⟨by repeat (first | (with_reducible first | exact HB.out | apply below_alloc | apply pw_below_drewN | apply below_drew1) | exact HB.out)⟩⟩
              · rw [if_neg c50] at H
                have c50b0 : (a0 == a1) = false := beq_eq_false_iff_ne.mpr c50
                have c50b1 : (a0 != a1) = true := bne_iff_ne.mpr c50
                replace H := Option.bind_eq_some_iff.mp H
                obtain ⟨t112, A530, H⟩ := H
                replace H : (if t112 = true then (foolscaplaw02_RealOrder.j1 kj6 t101 t102 t103 false) else ((real_Less.f t102 t101).bind fun t113 => (foolscaplaw02_RealOrder.j1 kj6 t101 t102 t103 (!t113)))) = some r := H
                have A53 := Aside0.mk A530
                clear A530
                by_cases c54 : t112 = true
                · subst c54
                  have H1 : (foolscaplaw02_RealOrder.j1 kj6 t101 t102 t103 false) = some r := by rw [if_pos rfl] at H; exact H
                  clear H
                  have H := H1
                  clear H1
                  have H' := Aside0.mk H
                  clear H
                  go_wp2_with (first | ((with_reducible refine gate_callee (f := 24) rfl ?_); refine goesL_ (some 27) rfl rfl Try.func24 (by kernel_rfl) rfl #[.float .f64 t101, .float .f64 t102] rfl (by (try simp only [List.map_toArray, List.map_cons, List.map_nil]); first | done | rfl | (simp only [List.length_drop, List.length_take]; rfl)) ?_; (with_reducible refine (real_Less.calls t101 t102 false _ A12.out).mono ?_); rintro e w55 ⟨rfl, hb⟩; refine ⟨_, rfl, ?_⟩; have n0_ := Aside0.mk (below_step (by repeat (first | (with_reducible first | exact HB.out | apply below_alloc | apply pw_below_drewN | apply below_drew1) | exact HB.out)) hb); clear HB; have HB := n0_; clear n0_; (try clear hb); (try clear hb2); (try clear hk); (try clear hi)) | (go_at_call 24; (with_reducible refine (real_Less.calls t101 t101 false _ A43.out).mono ?_); rintro e w56 ⟨rfl, hb⟩; have n0_ := Aside0.mk (below_step (by repeat (first | (with_reducible first | exact HB.out | apply below_alloc | apply pw_below_drewN | apply below_drew1) | exact HB.out)) hb); clear HB; have HB := n0_; clear n0_; (try clear hb); (try clear hb2); (try clear hk); (try clear hi)) | (go_at_call 24; (with_reducible refine (real_Less.calls t101 t102 true _ A53.out).mono ?_); rintro e w57 ⟨rfl, hb⟩; have n0_ := Aside0.mk (below_step (by repeat (first | (with_reducible first | exact HB.out | apply below_alloc | apply pw_below_drewN | apply below_drew1) | exact HB.out)) hb); clear HB; have HB := n0_; clear n0_; (try clear hb); (try clear hb2); (try clear hk); (try clear hi)))
                  go_meet
                  case rel => exact ⟨_, (false), (by first | rfl | (simp; done) | (simp [*]; done)), H', ⟨by have := HJ6.out; first | omega | exact Nat.le_refl _⟩, ⟨by repeat (first | (with_reducible first | exact HB.out | apply below_alloc | apply pw_below_drewN | apply below_drew1) | exact HB.out)⟩⟩
                · replace c54 := Bool.eq_false_iff.mpr c54
                  subst c54
                  have H1 : ((real_Less.f t102 t101).bind fun t113 => (foolscaplaw02_RealOrder.j1 kj6 t101 t102 t103 (!t113))) = some r := by rw [if_neg (show ¬ (false = true) by decide)] at H; exact H
                  clear H
                  have H := H1
                  clear H1
                  replace H := Option.bind_eq_some_iff.mp H
                  obtain ⟨t113, A580, H⟩ := H
                  replace H : (foolscaplaw02_RealOrder.j1 kj6 t101 t102 t103 (!t113)) = some r := H
                  have A58 := Aside0.mk A580
                  clear A580
                  have H' := Aside0.mk H
                  clear H
                  go_wp2_with (first | ((with_reducible refine gate_callee (f := 24) rfl ?_); refine goesL_ (some 27) rfl rfl Try.func24 (by kernel_rfl) rfl #[.float .f64 t101, .float .f64 t102] rfl (by (try simp only [List.map_toArray, List.map_cons, List.map_nil]); first | done | rfl | (simp only [List.length_drop, List.length_take]; rfl)) ?_; (with_reducible refine (real_Less.calls t101 t102 false _ A12.out).mono ?_); rintro e w59 ⟨rfl, hb⟩; refine ⟨_, rfl, ?_⟩; have n0_ := Aside0.mk (below_step (by repeat (first | (with_reducible first | exact HB.out | apply below_alloc | apply pw_below_drewN | apply below_drew1) | exact HB.out)) hb); clear HB; have HB := n0_; clear n0_; (try clear hb); (try clear hb2); (try clear hk); (try clear hi)) | (go_at_call 24; (with_reducible refine (real_Less.calls t101 t101 false _ A43.out).mono ?_); rintro e w60 ⟨rfl, hb⟩; have n0_ := Aside0.mk (below_step (by repeat (first | (with_reducible first | exact HB.out | apply below_alloc | apply pw_below_drewN | apply below_drew1) | exact HB.out)) hb); clear HB; have HB := n0_; clear n0_; (try clear hb); (try clear hb2); (try clear hk); (try clear hi)) | (go_at_call 24; (with_reducible refine (real_Less.calls t101 t102 false _ A53.out).mono ?_); rintro e w61 ⟨rfl, hb⟩; have n0_ := Aside0.mk (below_step (by repeat (first | (with_reducible first | exact HB.out | apply below_alloc | apply pw_below_drewN | apply below_drew1) | exact HB.out)) hb); clear HB; have HB := n0_; clear n0_; (try clear hb); (try clear hb2); (try clear hk); (try clear hi)) | (go_at_call 24; (with_reducible refine (real_Less.calls t102 t101 t113 _ A58.out).mono ?_); rintro e w62 ⟨rfl, hb⟩; have n0_ := Aside0.mk (below_step (by repeat (first | (with_reducible first | exact HB.out | apply below_alloc | apply pw_below_drewN | apply below_drew1) | exact HB.out)) hb); clear HB; have HB := n0_; clear n0_; (try clear hb); (try clear hb2); (try clear hk); (try clear hi)))
                  go_meet
                  case rel => exact ⟨_, (!t113), (by first | rfl | (simp; done) | (simp [*]; done)), H', ⟨by have := HJ6.out; first | omega | exact Nat.le_refl _⟩, ⟨by repeat (first | (with_reducible first | exact HB.out | apply below_alloc | apply pw_below_drewN | apply below_drew1) | exact HB.out)⟩⟩
      case rest =>
        clear HC11
        try clear c1
        try clear c2
        try clear p2
        try clear c3
        try clear c4
        try clear c5
        try clear c9
        try clear c9b0
        try clear c9b1
        try clear c10
        try clear c13
        try clear c14
        try clear c15
        try clear c19
        try clear c23
        try clear c24
        try clear c27
        try clear c27b0
        try clear c27b1
        try clear c32
        try clear c44
        try clear c47
        try clear c50
        try clear c50b0
        try clear c50b1
        try clear c54
        try clear p2
        obtain ⟨kq, x58_10, rfl, HA, HJ10, HB⟩ := hcut
        cases kq with
        | zero => exact absurd HA.out (by simp [foolscaplaw02_RealOrder.j1])
        | succ kj10 =>
          have H := HA.out
          clear HA
          simp only [foolscaplaw02_RealOrder.j1] at H
          by_cases c63 : x58_10 = true
          · subst c63
            have H1 : (none) = some r := by rw [if_pos rfl] at H; exact H
            clear H
            have H := H1
            clear H1
            exact absurd H (by simp)
          · replace c63 := Bool.eq_false_iff.mpr c63
            subst c63
            have H1 : ((real_Less.f t101 t102).bind fun t114 => (if t114 = true then ((real_Less.f t102 t103).bind fun t115 => (if t115 = true then ((real_Less.f t101 t103).bind fun t116 => (if t116 = true then ((foolscaplaw02_lives.f).bind fun t117 => (some t117)) else (none))) else ((foolscaplaw02_lives.f).bind fun t118 => (some t118)))) else ((foolscaplaw02_lives.f).bind fun t119 => (some t119)))) = some r := by rw [if_neg (show ¬ (false = true) by decide)] at H; exact H
            clear H
            have H := H1
            clear H1
            replace H := Option.bind_eq_some_iff.mp H
            obtain ⟨t114, A640, H⟩ := H
            replace H : (if t114 = true then ((real_Less.f t102 t103).bind fun t115 => (if t115 = true then ((real_Less.f t101 t103).bind fun t116 => (if t116 = true then ((foolscaplaw02_lives.f).bind fun t117 => (some t117)) else (none))) else ((foolscaplaw02_lives.f).bind fun t118 => (some t118)))) else ((foolscaplaw02_lives.f).bind fun t119 => (some t119))) = some r := H
            have A64 := Aside0.mk A640
            clear A640
            by_cases c65 : t114 = true
            · subst c65
              have H1 : ((real_Less.f t102 t103).bind fun t115 => (if t115 = true then ((real_Less.f t101 t103).bind fun t116 => (if t116 = true then ((foolscaplaw02_lives.f).bind fun t117 => (some t117)) else (none))) else ((foolscaplaw02_lives.f).bind fun t118 => (some t118)))) = some r := by rw [if_pos rfl] at H; exact H
              clear H
              have H := H1
              clear H1
              replace H := Option.bind_eq_some_iff.mp H
              obtain ⟨t115, A660, H⟩ := H
              replace H : (if t115 = true then ((real_Less.f t101 t103).bind fun t116 => (if t116 = true then ((foolscaplaw02_lives.f).bind fun t117 => (some t117)) else (none))) else ((foolscaplaw02_lives.f).bind fun t118 => (some t118))) = some r := H
              have A66 := Aside0.mk A660
              clear A660
              by_cases c67 : t115 = true
              · subst c67
                have H1 : ((real_Less.f t101 t103).bind fun t116 => (if t116 = true then ((foolscaplaw02_lives.f).bind fun t117 => (some t117)) else (none))) = some r := by rw [if_pos rfl] at H; exact H
                clear H
                have H := H1
                clear H1
                replace H := Option.bind_eq_some_iff.mp H
                obtain ⟨t116, A680, H⟩ := H
                replace H : (if t116 = true then ((foolscaplaw02_lives.f).bind fun t117 => (some t117)) else (none)) = some r := H
                have A68 := Aside0.mk A680
                clear A680
                by_cases c69 : t116 = true
                · subst c69
                  have H1 : ((foolscaplaw02_lives.f).bind fun t117 => (some t117)) = some r := by rw [if_pos rfl] at H; exact H
                  clear H
                  have H := H1
                  clear H1
                  replace H := Option.bind_eq_some_iff.mp H
                  obtain ⟨t117, A700, H⟩ := H
                  replace H : (some t117) = some r := H
                  have A70 := Aside0.mk A700
                  clear A700
                  obtain rfl := Option.some.inj H
                  go_wp2_with (first | ((with_reducible refine gate_callee (f := 24) rfl ?_); refine goesL_ (some 61) rfl rfl Try.func24 (by kernel_rfl) rfl #[.float .f64 t101, .float .f64 t102] rfl (by (try simp only [List.map_toArray, List.map_cons, List.map_nil]); first | done | rfl | (simp only [List.length_drop, List.length_take]; rfl)) ?_; (with_reducible refine (real_Less.calls t101 t102 true _ A64.out).mono ?_); rintro e w71 ⟨rfl, hb⟩; refine ⟨_, rfl, ?_⟩; have n0_ := Aside0.mk (below_step (by repeat (first | (with_reducible first | exact HB.out | apply below_alloc | apply pw_below_drewN | apply below_drew1) | exact HB.out)) hb); clear HB; have HB := n0_; clear n0_; (try clear hb); (try clear hb2); (try clear hk); (try clear hi)) | (go_at_call 24; (with_reducible refine (real_Less.calls t102 t103 true _ A66.out).mono ?_); rintro e w72 ⟨rfl, hb⟩; have n0_ := Aside0.mk (below_step (by repeat (first | (with_reducible first | exact HB.out | apply below_alloc | apply pw_below_drewN | apply below_drew1) | exact HB.out)) hb); clear HB; have HB := n0_; clear n0_; (try clear hb); (try clear hb2); (try clear hk); (try clear hi)) | (go_at_call 24; (with_reducible refine (real_Less.calls t101 t103 true _ A68.out).mono ?_); rintro e w73 ⟨rfl, hb⟩; have n0_ := Aside0.mk (below_step (by repeat (first | (with_reducible first | exact HB.out | apply below_alloc | apply pw_below_drewN | apply below_drew1) | exact HB.out)) hb); clear HB; have HB := n0_; clear n0_; (try clear hb); (try clear hb2); (try clear hk); (try clear hi)) | (go_at_call 16; (with_reducible refine (foolscaplaw02_lives.calls  t117 _ A70.out).mono ?_); rintro e w74 ⟨rfl, hb⟩; have n0_ := Aside0.mk (below_step (by repeat (first | (with_reducible first | exact HB.out | apply below_alloc | apply pw_below_drewN | apply below_drew1) | exact HB.out)) hb); clear HB; have HB := n0_; clear n0_; (try clear hb); (try clear hb2); (try clear hk); (try clear hi)))
                  go_ret
                  exact ⟨by first | rfl | (simp [errW_none, errW_some] <;> rfl) | (simp [*, errW_none, errW_some] <;> rfl), by repeat (first | (with_reducible first | exact HB.out | apply below_alloc | apply pw_below_drewN | apply below_drew1) | exact HB.out)⟩
                · replace c69 := Bool.eq_false_iff.mpr c69
                  subst c69
                  have H1 : (none) = some r := by rw [if_neg (show ¬ (false = true) by decide)] at H; exact H
                  clear H
                  have H := H1
                  clear H1
                  exact absurd H (by simp)
              · replace c67 := Bool.eq_false_iff.mpr c67
                subst c67
                have H1 : ((foolscaplaw02_lives.f).bind fun t118 => (some t118)) = some r := by rw [if_neg (show ¬ (false = true) by decide)] at H; exact H
                clear H
                have H := H1
                clear H1
                replace H := Option.bind_eq_some_iff.mp H
                obtain ⟨t118, A750, H⟩ := H
                replace H : (some t118) = some r := H
                have A75 := Aside0.mk A750
                clear A750
                obtain rfl := Option.some.inj H
                go_wp2_with (first | ((with_reducible refine gate_callee (f := 24) rfl ?_); refine goesL_ (some 61) rfl rfl Try.func24 (by kernel_rfl) rfl #[.float .f64 t101, .float .f64 t102] rfl (by (try simp only [List.map_toArray, List.map_cons, List.map_nil]); first | done | rfl | (simp only [List.length_drop, List.length_take]; rfl)) ?_; (with_reducible refine (real_Less.calls t101 t102 true _ A64.out).mono ?_); rintro e w76 ⟨rfl, hb⟩; refine ⟨_, rfl, ?_⟩; have n0_ := Aside0.mk (below_step (by repeat (first | (with_reducible first | exact HB.out | apply below_alloc | apply pw_below_drewN | apply below_drew1) | exact HB.out)) hb); clear HB; have HB := n0_; clear n0_; (try clear hb); (try clear hb2); (try clear hk); (try clear hi)) | (go_at_call 24; (with_reducible refine (real_Less.calls t102 t103 false _ A66.out).mono ?_); rintro e w77 ⟨rfl, hb⟩; have n0_ := Aside0.mk (below_step (by repeat (first | (with_reducible first | exact HB.out | apply below_alloc | apply pw_below_drewN | apply below_drew1) | exact HB.out)) hb); clear HB; have HB := n0_; clear n0_; (try clear hb); (try clear hb2); (try clear hk); (try clear hi)) | (go_at_call 16; (with_reducible refine (foolscaplaw02_lives.calls  t118 _ A75.out).mono ?_); rintro e w78 ⟨rfl, hb⟩; have n0_ := Aside0.mk (below_step (by repeat (first | (with_reducible first | exact HB.out | apply below_alloc | apply pw_below_drewN | apply below_drew1) | exact HB.out)) hb); clear HB; have HB := n0_; clear n0_; (try clear hb); (try clear hb2); (try clear hk); (try clear hi)))
                go_ret
                exact ⟨by first | rfl | (simp [errW_none, errW_some] <;> rfl) | (simp [*, errW_none, errW_some] <;> rfl), by repeat (first | (with_reducible first | exact HB.out | apply below_alloc | apply pw_below_drewN | apply below_drew1) | exact HB.out)⟩
            · replace c65 := Bool.eq_false_iff.mpr c65
              subst c65
              have H1 : ((foolscaplaw02_lives.f).bind fun t119 => (some t119)) = some r := by rw [if_neg (show ¬ (false = true) by decide)] at H; exact H
              clear H
              have H := H1
              clear H1
              replace H := Option.bind_eq_some_iff.mp H
              obtain ⟨t119, A790, H⟩ := H
              replace H : (some t119) = some r := H
              have A79 := Aside0.mk A790
              clear A790
              obtain rfl := Option.some.inj H
              go_wp2_with (first | ((with_reducible refine gate_callee (f := 24) rfl ?_); refine goesL_ (some 61) rfl rfl Try.func24 (by kernel_rfl) rfl #[.float .f64 t101, .float .f64 t102] rfl (by (try simp only [List.map_toArray, List.map_cons, List.map_nil]); first | done | rfl | (simp only [List.length_drop, List.length_take]; rfl)) ?_; (with_reducible refine (real_Less.calls t101 t102 false _ A64.out).mono ?_); rintro e w80 ⟨rfl, hb⟩; refine ⟨_, rfl, ?_⟩; have n0_ := Aside0.mk (below_step (by repeat (first | (with_reducible first | exact HB.out | apply below_alloc | apply pw_below_drewN | apply below_drew1) | exact HB.out)) hb); clear HB; have HB := n0_; clear n0_; (try clear hb); (try clear hb2); (try clear hk); (try clear hi)) | (go_at_call 16; (with_reducible refine (foolscaplaw02_lives.calls  t119 _ A79.out).mono ?_); rintro e w81 ⟨rfl, hb⟩; have n0_ := Aside0.mk (below_step (by repeat (first | (with_reducible first | exact HB.out | apply below_alloc | apply pw_below_drewN | apply below_drew1) | exact HB.out)) hb); clear HB; have HB := n0_; clear n0_; (try clear hb); (try clear hb2); (try clear hk); (try clear hi)))
              go_ret
              exact ⟨by first | rfl | (simp [errW_none, errW_some] <;> rfl) | (simp [*, errW_none, errW_some] <;> rfl), by repeat (first | (with_reducible first | exact HB.out | apply below_alloc | apply pw_below_drewN | apply below_drew1) | exact HB.out)⟩

/-- THE ONE PURE STATEMENT of foolscaplaw02_RealOrder: yours. -/
def foolscaplaw02_RealOrder.Pure : Prop := ∀ (a0 : Int) (a1 : Int) (a2 : Int), (Lit.int .u64 a0).wf = true → (Lit.int .u64 a1).wf = true → (Lit.int .u64 a2).wf = true → ∃ k, foolscaplaw02_RealOrder.f k a0 a1 a2 = some true
theorem foolscaplaw02_RealOrder.walk (P : foolscaplaw02_RealOrder.Pure) (a0 : Int) (a1 : Int) (a2 : Int) (w : World) (w0 : (Lit.int .u64 a0).wf = true) (w1 : (Lit.int .u64 a1).wf = true) (w2 : (Lit.int .u64 a2).wf = true) :
    Calls Try.prog 10 #[.int .u64 a0, .int .u64 a1, .int .u64 a2] w fun e w' => e = .returned (.bool true) ∧ Below w.heap.size w w' := by
  obtain ⟨k, h⟩ := P a0 a1 a2 w0 w1 w2
  refine (foolscaplaw02_RealOrder.calls k a0 a1 a2 true w h).mono ?_
  rintro e w' ⟨rfl, hd⟩
  exact ⟨rfl, hd⟩

end Go.Proofs.Ytfaoilalhneijaa.PRealOrder
