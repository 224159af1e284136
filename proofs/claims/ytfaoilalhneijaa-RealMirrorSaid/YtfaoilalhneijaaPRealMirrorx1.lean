-- By wip/tools/printplus.py of this session, over the kit's print; what is by hand in it is this session's own.
import Derived.Test.YtfaoilalhneijaaPRealMirrorx0
namespace Go.Proofs.Ytfaoilalhneijaa.PRealMirror
open Go.RowKit Go.Proofs.YtfaoilalhneijaaW.PrintWords Go.Proofs.YtfaoilalhneijaaW.PrintLast Go.Proofs.YtfaoilalhneijaaW.PrintMore
attribute [local go_sem] max2_int min2_int max_two min_two max_three min_three max_four min_four   -- for this text's walks alone
set_option linter.unusedVariables false
set_option linter.unusedSimpArgs false

-- NOT PRINTED: function 27 (math_Float64frombits)

/-! ### foolscaplaw02_of: function 14 -/
def foolscaplaw02_of.f (a0 : Int) : Option (Nat) := some a0.toNat
set_option maxHeartbeats 8000000 in
set_option maxRecDepth 100000 in
theorem foolscaplaw02_of.calls (a0 : Int) (r : Nat) (w : World) (h : foolscaplaw02_of.f a0 = some r) :
    Calls Try.prog 14 #[.int .u64 a0] w fun e w' => e = .returned (.float .f64 r) ∧ Drawn0 w w' := by
  have hent_ffrom := hent_ffrom
  have H : (some a0.toNat) = some r := h
  clear h
  obtain rfl := Option.some.inj H
  go_enter Try.func14, Try.ntmps14
  go_wp2
  go_ret
  exact ⟨by first | rfl | (simp; done) | (simp [*]; done), by repeat (first | exact Drawn0.refl _ | apply Drawn0.step)⟩

/-! ### foolscaplaw02_lives: function 16 -/
def foolscaplaw02_lives.f  : Option (Bool) := some (true)
theorem foolscaplaw02_lives.calls  (r : Bool) (w : World) (h : foolscaplaw02_lives.f  = some r) :
    Calls Try.prog 16 #[] w fun e w' => e = .returned (.bool r) ∧ Below w.heap.size w w' :=
  Go.Proofs.Ytfaoilalhneijaa.PG.foolscaplaw02_lives.calls 300 r w (Eq.trans (FX.lives_eq 100) h)

/-! ### real_Of: function 17 -/
def real_Of.f (a0 : Nat) : Option (Int × Int) := Go.Proofs.Ytfaoilalhneijaa.FZ.ofC a0
theorem real_Of.calls (a0 : Nat) (r1 : Int) (r2 : Int) (w : World) (h : real_Of.f a0 = some (r1, r2)) :
    Calls Try.prog 17 #[.float .f64 a0] w fun e w' => e = .returned (.tuple #[.int .i64 r1, .int .i64 r2]) ∧ Below w.heap.size w w' :=
  Go.Proofs.Ytfaoilalhneijaa.PG.real_Of.calls 300 a0 r1 r2 w (FZ.of_c h)

/-! ### real_To: function 19 -/
def real_To.f (a0 : Int) : Option (Nat × Int) := some (Go.Proofs.Ytfaoilalhneijaa.FTo.toN a0)
theorem real_To.calls (a0 : Int) (r1 : Nat) (r2 : Int) (w : World) (h : real_To.f a0 = some (r1, r2)) :
    Calls Try.prog 19 #[.int .i64 a0] w fun e w' => e = .returned (.tuple #[.float .f64 r1, .int .i64 r2]) ∧ Below w.heap.size w w' :=
  Go.Proofs.Ytfaoilalhneijaa.PG.real_To.calls 300 a0 r1 r2 w (Eq.trans (FTe.to_eq 200 _) h)

-- NOT PRINTED: function 41 (math_Float64bits)

/-! ### foolscaplaw02_bits: function 21 -/
def foolscaplaw02_bits.f (a0 : Nat) : Option (Int) := some (a0 : Int)
set_option maxHeartbeats 8000000 in
set_option maxRecDepth 100000 in
theorem foolscaplaw02_bits.calls (a0 : Nat) (r : Int) (w : World) (h : foolscaplaw02_bits.f a0 = some r) :
    Calls Try.prog 21 #[.float .f64 a0] w fun e w' => e = .returned (.int .u64 r) ∧ Drawn0 w w' := by
  have hent_fbits := hent_fbits
  have H : (some (a0 : Int)) = some r := h
  clear h
  obtain rfl := Option.some.inj H
  go_enter Try.func21, Try.ntmps21
  go_wp2
  go_ret
  exact ⟨by first | rfl | (simp; done) | (simp [*]; done), by repeat (first | exact Drawn0.refl _ | apply Drawn0.step)⟩

/-! ### foolscaplaw02_RealMirror: function 12 -/
mutual
def foolscaplaw02_RealMirror.j0 : Nat → Int → Bool → Option (Bool)
  | 0, _, _ => none
  | k + 1, x1, x34 => if x34 = true then (none) else (if x1 < (-4611686018427387904) then (foolscaplaw02_RealMirror.j1 k x1 true) else (if x1 > 4611686018427387904 then (foolscaplaw02_RealMirror.j1 k x1 true) else (foolscaplaw02_RealMirror.j1 k x1 (x1 == 0))))
def foolscaplaw02_RealMirror.j1 : Nat → Int → Bool → Option (Bool)
  | 0, _, _ => none
  | k + 1, x1, x44 => if x44 = true then ((foolscaplaw02_lives.f).bind fun t107 => (some t107)) else ((real_To.f x1).bind fun bt108 => ((real_To.f (wrap64 (-x1))).bind fun bt110 => (if bt108.2 = bt110.2 then (if bt108.2 = 0 then ((foolscaplaw02_bits.f bt108.1).bind fun t112 => ((foolscaplaw02_bits.f bt110.1).bind fun t113 => (if t112 = (Go.bits .xor .u64 t113 9223372036854775808) then ((foolscaplaw02_lives.f).bind fun t114 => (some t114)) else (none)))) else ((foolscaplaw02_lives.f).bind fun t115 => (some t115))) else (none))))
end
def foolscaplaw02_RealMirror.f (k : Nat) (a0 : Int) (a1 : Int) : Option (Bool) := (foolscaplaw02_of.f a0).bind fun t101 => ((real_Of.f t101).bind fun bt102 => ((foolscaplaw02_of.f (Go.bits .xor .u64 a0 9223372036854775808)).bind fun t104 => ((real_Of.f t104).bind fun bt105 => (if bt102.1 = (wrap64 (-bt105.1)) then (foolscaplaw02_RealMirror.j0 k a1 (bt102.2 != bt105.2)) else (foolscaplaw02_RealMirror.j0 k a1 true)))))
theorem foolscaplaw02_RealMirror.mono_l : ∀ k, (∀ y0 y1, LeO (foolscaplaw02_RealMirror.j0 k y0 y1) (foolscaplaw02_RealMirror.j0 (k + 1) y0 y1)) ∧ (∀ y0 y1, LeO (foolscaplaw02_RealMirror.j1 k y0 y1) (foolscaplaw02_RealMirror.j1 (k + 1) y0 y1))
  | 0 => ⟨fun _ _ r h => by simp [foolscaplaw02_RealMirror.j0] at h, fun _ _ r h => by simp [foolscaplaw02_RealMirror.j1] at h⟩
  | k + 1 => by
    obtain ⟨ih0, ih1⟩ := foolscaplaw02_RealMirror.mono_l k
    refine ⟨?_, ?_⟩
    · intro y0 y1
      unfold foolscaplaw02_RealMirror.j0
      repeat' first
      | (with_reducible exact ih0 _ _)
      | (with_reducible exact ih1 _ _)
      | (with_reducible exact LeO.refl _)
      | (with_reducible exact LeO.none _)
      | (with_reducible refine LeO.ite ?_ ?_)
      | (with_reducible refine LeO.bind ?_ (fun _ => ?_))
      | exact ih0 _ _
      | exact ih1 _ _
      | exact LeO.none _
      | refine LeO.ite ?_ ?_
      | refine LeO.bind ?_ (fun _ => ?_)
    · intro y0 y1
      unfold foolscaplaw02_RealMirror.j1
      repeat' first
      | (with_reducible exact ih0 _ _)
      | (with_reducible exact ih1 _ _)
      | (with_reducible exact LeO.refl _)
      | (with_reducible exact LeO.none _)
      | (with_reducible refine LeO.ite ?_ ?_)
      | (with_reducible refine LeO.bind ?_ (fun _ => ?_))
      | exact ih0 _ _
      | exact ih1 _ _
      | exact LeO.none _
      | refine LeO.ite ?_ ?_
      | refine LeO.bind ?_ (fun _ => ?_)
theorem foolscaplaw02_RealMirror.mono : ∀ a0 a1 k, LeO (foolscaplaw02_RealMirror.f k a0 a1) (foolscaplaw02_RealMirror.f (k + 1) a0 a1) := by
  intro a0 a1 k
  obtain ⟨ih0, ih1⟩ := foolscaplaw02_RealMirror.mono_l k
  unfold foolscaplaw02_RealMirror.f
  repeat' first
      | (with_reducible exact ih0 _ _)
      | (with_reducible exact ih1 _ _)
      | (with_reducible exact LeO.refl _)
      | (with_reducible exact LeO.none _)
      | (with_reducible refine LeO.ite ?_ ?_)
      | (with_reducible refine LeO.bind ?_ (fun _ => ?_))
      | exact ih0 _ _
      | exact ih1 _ _
      | exact LeO.none _
      | refine LeO.ite ?_ ?_
      | refine LeO.bind ?_ (fun _ => ?_)
set_option maxHeartbeats 8000000 in
set_option maxRecDepth 100000 in
theorem foolscaplaw02_RealMirror.calls (k : Nat) (a0 : Int) (a1 : Int) (r : Bool) (w : World) (h : foolscaplaw02_RealMirror.f k a0 a1 = some r) :
    Calls Try.prog 12 #[.int .u64 a0, .int .i64 a1] w fun e w' => e = .returned (.bool r) ∧ Below w.heap.size w w' := by
  have HB := Aside0.mk (Below.refl w.heap.size w)
  have H : ((foolscaplaw02_of.f a0).bind fun t101 => ((real_Of.f t101).bind fun bt102 => ((foolscaplaw02_of.f (Go.bits .xor .u64 a0 9223372036854775808)).bind fun t104 => ((real_Of.f t104).bind fun bt105 => (if bt102.1 = (wrap64 (-bt105.1)) then (foolscaplaw02_RealMirror.j0 k a1 (bt102.2 != bt105.2)) else (foolscaplaw02_RealMirror.j0 k a1 true)))))) = some r := h
  clear h
  replace H := Option.bind_eq_some_iff.mp H
  obtain ⟨t101, A30, H⟩ := H
  replace H : ((real_Of.f t101).bind fun bt102 => ((foolscaplaw02_of.f (Go.bits .xor .u64 a0 9223372036854775808)).bind fun t104 => ((real_Of.f t104).bind fun bt105 => (if bt102.1 = (wrap64 (-bt105.1)) then (foolscaplaw02_RealMirror.j0 k a1 (bt102.2 != bt105.2)) else (foolscaplaw02_RealMirror.j0 k a1 true))))) = some r := H
  have A3 := Aside0.mk A30
  clear A30
  replace H := Option.bind_eq_some_iff.mp H
  obtain ⟨⟨t102, t103⟩, A40, H⟩ := H
  replace H : ((foolscaplaw02_of.f (Go.bits .xor .u64 a0 9223372036854775808)).bind fun t104 => ((real_Of.f t104).bind fun bt105 => (if t102 = (wrap64 (-bt105.1)) then (foolscaplaw02_RealMirror.j0 k a1 (t103 != bt105.2)) else (foolscaplaw02_RealMirror.j0 k a1 true)))) = some r := H
  have A4 := Aside0.mk A40
  clear A40
  replace H := Option.bind_eq_some_iff.mp H
  obtain ⟨t104, A50, H⟩ := H
  replace H : ((real_Of.f t104).bind fun bt105 => (if t102 = (wrap64 (-bt105.1)) then (foolscaplaw02_RealMirror.j0 k a1 (t103 != bt105.2)) else (foolscaplaw02_RealMirror.j0 k a1 true))) = some r := H
  have A5 := Aside0.mk A50
  clear A50
  replace H := Option.bind_eq_some_iff.mp H
  obtain ⟨⟨t105, t106⟩, A60, H⟩ := H
  replace H : (if t102 = (wrap64 (-t105)) then (foolscaplaw02_RealMirror.j0 k a1 (t103 != t106)) else (foolscaplaw02_RealMirror.j0 k a1 true)) = some r := H
  have A6 := Aside0.mk A60
  clear A60
  have HC7 := Aside0.mk H
  clear H
  go_enter Try.func12, Try.ntmps12
  go_upto_region 3 with (first | ((with_reducible refine gate_callee (f := 14) rfl ?_); refine goesL_ (some 15) rfl rfl Try.func14 (by kernel_rfl) rfl #[.int .u64 a0] rfl (by (try simp only [List.map_toArray, List.map_cons, List.map_nil]); first | done | rfl | (simp only [List.length_drop, List.length_take]; rfl)) ?_; (with_reducible refine (foolscaplaw02_of.calls a0 t101 _ A3.out).mono ?_); rintro e w' ⟨rfl, ⟨nd, rfl⟩⟩; refine ⟨_, rfl, ?_⟩) | ((with_reducible refine gate_callee (f := 17) rfl ?_); refine goesL_ (some 16) rfl rfl Try.func17 (by kernel_rfl) rfl #[.float .f64 t101] rfl (by (try simp only [List.map_toArray, List.map_cons, List.map_nil]); first | done | rfl | (simp only [List.length_drop, List.length_take]; rfl)) ?_; (with_reducible refine (real_Of.calls t101 t102 t103 _ A4.out).mono ?_); rintro e w8 ⟨rfl, hb⟩; refine ⟨_, rfl, ?_⟩; have n0_ := Aside0.mk (below_step (by repeat (first | (with_reducible first | exact HB.out | apply below_alloc | apply pw_below_drewN | apply below_drew1) | exact HB.out)) hb); clear HB; have HB := n0_; clear n0_; (try clear hb); (try clear hb2); (try clear hk); (try clear hi)) | ((with_reducible refine gate_callee (f := 14) rfl ?_); refine goesL_ (some 22) rfl rfl Try.func14 (by kernel_rfl) rfl #[.int .u64 (Go.bits .xor .u64 a0 9223372036854775808)] rfl (by (try simp only [List.map_toArray, List.map_cons, List.map_nil]); first | done | rfl | (simp only [List.length_drop, List.length_take]; rfl)) ?_; (with_reducible refine (foolscaplaw02_of.calls (Go.bits .xor .u64 a0 9223372036854775808) t104 _ A5.out).mono ?_); rintro e w' ⟨rfl, ⟨nd, rfl⟩⟩; refine ⟨_, rfl, ?_⟩) | ((with_reducible refine gate_callee (f := 17) rfl ?_); refine goesL_ (some 23) rfl rfl Try.func17 (by kernel_rfl) rfl #[.float .f64 t104] rfl (by (try simp only [List.map_toArray, List.map_cons, List.map_nil]); first | done | rfl | (simp only [List.length_drop, List.length_take]; rfl)) ?_; (with_reducible refine (real_Of.calls t104 t105 t106 _ A6.out).mono ?_); rintro e w9 ⟨rfl, hb⟩; refine ⟨_, rfl, ?_⟩; have n0_ := Aside0.mk (below_step (by repeat (first | (with_reducible first | exact HB.out | apply below_alloc | apply pw_below_drewN | apply below_drew1) | exact HB.out)) hb); clear HB; have HB := n0_; clear n0_; (try clear hb); (try clear hb2); (try clear hk); (try clear hi)))
  (try simp only [Act.put, List.setIfInBounds_toArray, List.set_cons_zero, List.set_cons_succ])
  go_cut [34] (fun v34 wc => ∃ (kq : Nat) (x34_6 : Bool), v34 = .bool x34_6 ∧ Aside0 (foolscaplaw02_RealMirror.j0 kq a1 x34_6 = some r) ∧ Aside0 (kq ≤ k) ∧ Aside0 (Below w.heap.size w wc))
  case first =>
    have H := HC7.out
    clear HC7
    by_cases c10 : t102 = (wrap64 (-t105))
    · rw [if_pos c10] at H
      have c10b0 : (t102 == (wrap64 (-t105))) = true := beq_iff_eq.mpr c10
      have c10b1 : (t102 != (wrap64 (-t105))) = false := bne_eq_false_iff_eq.mpr c10
      clear c10
      (first | rw [c10b0] | (simp only [i64_w, i32_w]; rw [c10b0]) | skip)
      have H' := Aside0.mk H
      clear H
      go_wp2
      go_meet
      case rel => exact ⟨_, ((t103 != t106)), (by first | rfl | (simp; done) | (simp [*]; done)), H', ⟨by first | omega | exact Nat.le_refl _⟩, ⟨by repeat (first | (with_reducible first | exact HB.out | apply below_alloc | apply pw_below_drewN | apply below_drew1) | exact HB.out)⟩⟩
    · rw [if_neg c10] at H
      have c10b0 : (t102 == (wrap64 (-t105))) = false := beq_eq_false_iff_ne.mpr c10
      have c10b1 : (t102 != (wrap64 (-t105))) = true := bne_iff_ne.mpr c10
      (first | rw [c10b0] | (simp only [i64_w, i32_w]; rw [c10b0]) | skip)
      have H' := Aside0.mk H
      clear H
      go_wp2
      go_meet
      case rel => exact ⟨_, (true), (by first | rfl | (simp; done) | (simp [*]; done)), H', ⟨by first | omega | exact Nat.le_refl _⟩, ⟨by repeat (first | (with_reducible first | exact HB.out | apply below_alloc | apply pw_below_drewN | apply below_drew1) | exact HB.out)⟩⟩
  case rest =>
    clear HC7
    try clear c1
    try clear p2
    try clear p6
    try clear c10
    try clear c10b0
    try clear c10b1
    obtain ⟨kq, x34_6, rfl, HA, HJ6, HB⟩ := hcut
    cases kq with
    | zero => exact absurd HA.out (by simp [foolscaplaw02_RealMirror.j0])
    | succ kj6 =>
      have H := HA.out
      clear HA
      simp only [foolscaplaw02_RealMirror.j0] at H
      by_cases c11 : x34_6 = true
      · subst c11
        have H1 : (none) = some r := by rw [if_pos rfl] at H; exact H
        clear H
        have H := H1
        clear H1
        exact absurd H (by simp)
      · replace c11 := Bool.eq_false_iff.mpr c11
        subst c11
        have H1 : (if a1 < (-4611686018427387904) then (foolscaplaw02_RealMirror.j1 kj6 a1 true) else (if a1 > 4611686018427387904 then (foolscaplaw02_RealMirror.j1 kj6 a1 true) else (foolscaplaw02_RealMirror.j1 kj6 a1 (a1 == 0)))) = some r := by rw [if_neg (show ¬ (false = true) by decide)] at H; exact H
        clear H
        have H := H1
        clear H1
        have HC12 := Aside0.mk H
        clear H
        go_upto_region 5 with (fail)
        go_cut [44] (fun v44 wc => ∃ (kq : Nat) (x44_11 : Bool), v44 = .bool x44_11 ∧ Aside0 (foolscaplaw02_RealMirror.j1 kq a1 x44_11 = some r) ∧ Aside0 (kq ≤ kj6) ∧ Aside0 (Below w.heap.size w wc))
        case first =>
          have H := HC12.out
          clear HC12
          by_cases c13 : a1 < (-4611686018427387904)
          · rw [if_pos c13] at H
            have c13b0 : decide (a1 < (-4611686018427387904)) = true := decide_eq_true c13
            clear c13
            (first | rw [c13b0] | (simp only [i64_w, i32_w]; rw [c13b0]) | skip)
            have H' := Aside0.mk H
            clear H
            go_wp2
            go_meet
            case rel => exact ⟨_, (true), (by first | rfl | (simp; done) | (simp [*]; done)), H', ⟨by have := HJ6.out; first | omega | exact Nat.le_refl _⟩, ⟨by repeat (first | (with_reducible first | exact HB.out | apply below_alloc | apply pw_below_drewN | apply below_drew1) | exact HB.out)⟩⟩
          · rw [if_neg c13] at H
            have c13b0 : decide (a1 < (-4611686018427387904)) = false := decide_eq_false c13
            clear c13
            (first | rw [c13b0] | (simp only [i64_w, i32_w]; rw [c13b0]) | skip)
            by_cases c14 : a1 > 4611686018427387904
            · rw [if_pos c14] at H
              have c14b0 : decide (4611686018427387904 < a1) = true := decide_eq_true c14
              clear c14
              have H' := Aside0.mk H
              clear H
              go_wp2
              go_meet
              case rel => exact ⟨_, (true), (by first | rfl | (simp; done) | (simp [*]; done)), H', ⟨by have := HJ6.out; first | omega | exact Nat.le_refl _⟩, ⟨by repeat (first | (with_reducible first | exact HB.out | apply below_alloc | apply pw_below_drewN | apply below_drew1) | exact HB.out)⟩⟩
            · rw [if_neg c14] at H
              have c14b0 : decide (4611686018427387904 < a1) = false := decide_eq_false c14
              clear c14
              have H' := Aside0.mk H
              clear H
              go_wp2
              go_meet
              case rel => exact ⟨_, ((a1 == 0)), (by first | rfl | (simp; done) | (simp [*]; done)), H', ⟨by have := HJ6.out; first | omega | exact Nat.le_refl _⟩, ⟨by repeat (first | (with_reducible first | exact HB.out | apply below_alloc | apply pw_below_drewN | apply below_drew1) | exact HB.out)⟩⟩
        case rest =>
          clear HC12
          try clear c1
          try clear p2
          try clear p6
          try clear c10
          try clear c10b0
          try clear c10b1
          try clear c11
          try clear c12
          try clear c13
          try clear c13b0
          try clear c14
          try clear c14b0
          try clear p2
          try clear p6
          obtain ⟨kq, x44_11, rfl, HA, HJ11, HB⟩ := hcut
          cases kq with
          | zero => exact absurd HA.out (by simp [foolscaplaw02_RealMirror.j1])
          | succ kj11 =>
            have H := HA.out
            clear HA
            simp only [foolscaplaw02_RealMirror.j1] at H
            by_cases c15 : x44_11 = true
            · subst c15
              have H1 : ((foolscaplaw02_lives.f).bind fun t107 => (some t107)) = some r := by rw [if_pos rfl] at H; exact H
              clear H
              have H := H1
              clear H1
              replace H := Option.bind_eq_some_iff.mp H
              obtain ⟨t107, A160, H⟩ := H
              replace H : (some t107) = some r := H
              have A16 := Aside0.mk A160
              clear A160
              obtain rfl := Option.some.inj H
              go_wp2_with (first | ((with_reducible refine gate_callee (f := 16) rfl ?_); refine goesL_ (some 45) rfl rfl Try.func16 (by kernel_rfl) rfl #[] rfl (by (try simp only [List.map_toArray, List.map_cons, List.map_nil]); first | done | rfl | (simp only [List.length_drop, List.length_take]; rfl)) ?_; (with_reducible refine (foolscaplaw02_lives.calls  t107 _ A16.out).mono ?_); rintro e w17 ⟨rfl, hb⟩; refine ⟨_, rfl, ?_⟩; have n0_ := Aside0.mk (below_step (by repeat (first | (with_reducible first | exact HB.out | apply below_alloc | apply pw_below_drewN | apply below_drew1) | exact HB.out)) hb); clear HB; have HB := n0_; clear n0_; (try clear hb); (try clear hb2); (try clear hk); (try clear hi)))
              go_ret
              exact ⟨by first | rfl | (simp [errW_none, errW_some] <;> rfl) | (simp [*, errW_none, errW_some] <;> rfl), by repeat (first | (with_reducible first | exact HB.out | apply below_alloc | apply pw_below_drewN | apply below_drew1) | exact HB.out)⟩
            · replace c15 := Bool.eq_false_iff.mpr c15
              subst c15
              have H1 : ((real_To.f a1).bind fun bt108 => ((real_To.f (wrap64 (-a1))).bind fun bt110 => (if bt108.2 = bt110.2 then (if bt108.2 = 0 then ((foolscaplaw02_bits.f bt108.1).bind fun t112 => ((foolscaplaw02_bits.f bt110.1).bind fun t113 => (if t112 = (Go.bits .xor .u64 t113 9223372036854775808) then ((foolscaplaw02_lives.f).bind fun t114 => (some t114)) else (none)))) else ((foolscaplaw02_lives.f).bind fun t115 => (some t115))) else (none)))) = some r := by rw [if_neg (show ¬ (false = true) by decide)] at H; exact H
              clear H
              have H := H1
              clear H1
              replace H := Option.bind_eq_some_iff.mp H
              obtain ⟨⟨t108, t109⟩, A180, H⟩ := H
              replace H : ((real_To.f (wrap64 (-a1))).bind fun bt110 => (if t109 = bt110.2 then (if t109 = 0 then ((foolscaplaw02_bits.f t108).bind fun t112 => ((foolscaplaw02_bits.f bt110.1).bind fun t113 => (if t112 = (Go.bits .xor .u64 t113 9223372036854775808) then ((foolscaplaw02_lives.f).bind fun t114 => (some t114)) else (none)))) else ((foolscaplaw02_lives.f).bind fun t115 => (some t115))) else (none))) = some r := H
              have A18 := Aside0.mk A180
              clear A180
              replace H := Option.bind_eq_some_iff.mp H
              obtain ⟨⟨t110, t111⟩, A190, H⟩ := H
              replace H : (if t109 = t111 then (if t109 = 0 then ((foolscaplaw02_bits.f t108).bind fun t112 => ((foolscaplaw02_bits.f t110).bind fun t113 => (if t112 = (Go.bits .xor .u64 t113 9223372036854775808) then ((foolscaplaw02_lives.f).bind fun t114 => (some t114)) else (none)))) else ((foolscaplaw02_lives.f).bind fun t115 => (some t115))) else (none)) = some r := H
              have A19 := Aside0.mk A190
              clear A190
              by_cases c20 : t109 = t111
              · rw [if_pos c20] at H
                have c20b0 : (t109 == t111) = true := beq_iff_eq.mpr c20
                have c20b1 : (t109 != t111) = false := bne_eq_false_iff_eq.mpr c20
                clear c20
                by_cases c21 : t109 = 0
                · rw [if_pos c21] at H
                  have c21b0 : (t109 == 0) = true := beq_iff_eq.mpr c21
                  have c21b1 : (t109 != 0) = false := bne_eq_false_iff_eq.mpr c21
                  clear c21
                  replace H := Option.bind_eq_some_iff.mp H
                  obtain ⟨t112, A220, H⟩ := H
                  replace H : ((foolscaplaw02_bits.f t110).bind fun t113 => (if t112 = (Go.bits .xor .u64 t113 9223372036854775808) then ((foolscaplaw02_lives.f).bind fun t114 => (some t114)) else (none))) = some r := H
                  have A22 := Aside0.mk A220
                  clear A220
                  replace H := Option.bind_eq_some_iff.mp H
                  obtain ⟨t113, A230, H⟩ := H
                  replace H : (if t112 = (Go.bits .xor .u64 t113 9223372036854775808) then ((foolscaplaw02_lives.f).bind fun t114 => (some t114)) else (none)) = some r := H
                  have A23 := Aside0.mk A230
                  clear A230
                  by_cases c24 : t112 = (Go.bits .xor .u64 t113 9223372036854775808)
                  · rw [if_pos c24] at H
                    have c24b0 : (t112 == (Go.bits .xor .u64 t113 9223372036854775808)) = true := beq_iff_eq.mpr c24
                    have c24b1 : (t112 != (Go.bits .xor .u64 t113 9223372036854775808)) = false := bne_eq_false_iff_eq.mpr c24
                    clear c24
                    replace H := Option.bind_eq_some_iff.mp H
                    obtain ⟨t114, A250, H⟩ := H
                    replace H : (some t114) = some r := H
                    have A25 := Aside0.mk A250
                    clear A250
                    obtain rfl := Option.some.inj H
                    go_wp2_with (first | ((with_reducible refine gate_callee (f := 19) rfl ?_); refine goesL_ (some 48) rfl rfl Try.func19 (by kernel_rfl) rfl #[.int .i64 a1] rfl (by (try simp only [List.map_toArray, List.map_cons, List.map_nil]); first | done | rfl | (simp only [List.length_drop, List.length_take]; rfl)) ?_; (with_reducible refine (real_To.calls a1 t108 t109 _ A18.out).mono ?_); rintro e w26 ⟨rfl, hb⟩; refine ⟨_, rfl, ?_⟩; have n0_ := Aside0.mk (below_step (by repeat (first | (with_reducible first | exact HB.out | apply below_alloc | apply pw_below_drewN | apply below_drew1) | exact HB.out)) hb); clear HB; have HB := n0_; clear n0_; (try clear hb); (try clear hb2); (try clear hk); (try clear hi)) | ((with_reducible refine gate_callee (f := 19) rfl ?_); refine goesL_ (some 54) rfl rfl Try.func19 (by kernel_rfl) rfl #[.int .i64 (wrap64 (-a1))] rfl (by (try simp only [List.map_toArray, List.map_cons, List.map_nil]); first | done | rfl | (simp only [List.length_drop, List.length_take]; rfl)) ?_; (with_reducible refine (real_To.calls (wrap64 (-a1)) t110 t111 _ A19.out).mono ?_); rintro e w27 ⟨rfl, hb⟩; refine ⟨_, rfl, ?_⟩; have n0_ := Aside0.mk (below_step (by repeat (first | (with_reducible first | exact HB.out | apply below_alloc | apply pw_below_drewN | apply below_drew1) | exact HB.out)) hb); clear HB; have HB := n0_; clear n0_; (try clear hb); (try clear hb2); (try clear hk); (try clear hi)) | (go_at_call 21; (with_reducible refine (foolscaplaw02_bits.calls t108 t112 _ A22.out).mono ?_); rintro e w' ⟨rfl, ⟨nd, rfl⟩⟩) | (go_at_call 21; (with_reducible refine (foolscaplaw02_bits.calls t110 t113 _ A23.out).mono ?_); rintro e w' ⟨rfl, ⟨nd, rfl⟩⟩) | (go_at_call 16; (with_reducible refine (foolscaplaw02_lives.calls  t114 _ A25.out).mono ?_); rintro e w28 ⟨rfl, hb⟩; have n0_ := Aside0.mk (below_step (by repeat (first | (with_reducible first | exact HB.out | apply below_alloc | apply pw_below_drewN | apply below_drew1) | exact HB.out)) hb); clear HB; have HB := n0_; clear n0_; (try clear hb); (try clear hb2); (try clear hk); (try clear hi)))
                    go_ret
                    exact ⟨by first | rfl | (simp [errW_none, errW_some] <;> rfl) | (simp [*, errW_none, errW_some] <;> rfl), by repeat (first | (with_reducible first | exact HB.out | apply below_alloc | apply pw_below_drewN | apply below_drew1) | exact HB.out)⟩
                  · rw [if_neg c24] at H
                    exact absurd H (by simp)
                · rw [if_neg c21] at H
                  have c21b0 : (t109 == 0) = false := beq_eq_false_iff_ne.mpr c21
                  have c21b1 : (t109 != 0) = true := bne_iff_ne.mpr c21
                  replace H := Option.bind_eq_some_iff.mp H
                  obtain ⟨t115, A290, H⟩ := H
                  replace H : (some t115) = some r := H
                  have A29 := Aside0.mk A290
                  clear A290
                  obtain rfl := Option.some.inj H
                  go_wp2_with (first | ((with_reducible refine gate_callee (f := 19) rfl ?_); refine goesL_ (some 48) rfl rfl Try.func19 (by kernel_rfl) rfl #[.int .i64 a1] rfl (by (try simp only [List.map_toArray, List.map_cons, List.map_nil]); first | done | rfl | (simp only [List.length_drop, List.length_take]; rfl)) ?_; (with_reducible refine (real_To.calls a1 t108 t109 _ A18.out).mono ?_); rintro e w30 ⟨rfl, hb⟩; refine ⟨_, rfl, ?_⟩; have n0_ := Aside0.mk (below_step (by repeat (first | (with_reducible first | exact HB.out | apply below_alloc | apply pw_below_drewN | apply below_drew1) | exact HB.out)) hb); clear HB; have HB := n0_; clear n0_; (try clear hb); (try clear hb2); (try clear hk); (try clear hi)) | ((with_reducible refine gate_callee (f := 19) rfl ?_); refine goesL_ (some 54) rfl rfl Try.func19 (by kernel_rfl) rfl #[.int .i64 (wrap64 (-a1))] rfl (by (try simp only [List.map_toArray, List.map_cons, List.map_nil]); first | done | rfl | (simp only [List.length_drop, List.length_take]; rfl)) ?_; (with_reducible refine (real_To.calls (wrap64 (-a1)) t110 t111 _ A19.out).mono ?_); rintro e w31 ⟨rfl, hb⟩; refine ⟨_, rfl, ?_⟩; have n0_ := Aside0.mk (below_step (by repeat (first | (with_reducible first | exact HB.out | apply below_alloc | apply pw_below_drewN | apply below_drew1) | exact HB.out)) hb); clear HB; have HB := n0_; clear n0_; (try clear hb); (try clear hb2); (try clear hk); (try clear hi)) | (go_at_call 16; (with_reducible refine (foolscaplaw02_lives.calls  t115 _ A29.out).mono ?_); rintro e w32 ⟨rfl, hb⟩; have n0_ := Aside0.mk (below_step (by repeat (first | (with_reducible first | exact HB.out | apply below_alloc | apply pw_below_drewN | apply below_drew1) | exact HB.out)) hb); clear HB; have HB := n0_; clear n0_; (try clear hb); (try clear hb2); (try clear hk); (try clear hi)))
                  go_ret
                  exact ⟨by first | rfl | (simp [errW_none, errW_some] <;> rfl) | (simp [*, errW_none, errW_some] <;> rfl), by repeat (first | (with_reducible first | exact HB.out | apply below_alloc | apply pw_below_drewN | apply below_drew1) | exact HB.out)⟩
              · rw [if_neg c20] at H
                exact absurd H (by simp)

/-- THE ONE PURE STATEMENT of foolscaplaw02_RealMirror: yours. -/
def foolscaplaw02_RealMirror.Pure : Prop := ∀ (a0 : Int) (a1 : Int), (Lit.int .u64 a0).wf = true → (Lit.int .i64 a1).wf = true → ∃ k, foolscaplaw02_RealMirror.f k a0 a1 = some true
theorem foolscaplaw02_RealMirror.walk (P : foolscaplaw02_RealMirror.Pure) (a0 : Int) (a1 : Int) (w : World) (w0 : (Lit.int .u64 a0).wf = true) (w1 : (Lit.int .i64 a1).wf = true) :
    Calls Try.prog 12 #[.int .u64 a0, .int .i64 a1] w fun e w' => e = .returned (.bool true) ∧ Below w.heap.size w w' := by
  obtain ⟨k, h⟩ := P a0 a1 w0 w1
  refine (foolscaplaw02_RealMirror.calls k a0 a1 true w h).mono ?_
  rintro e w' ⟨rfl, hd⟩
  exact ⟨rfl, hd⟩

end Go.Proofs.Ytfaoilalhneijaa.PRealMirror
