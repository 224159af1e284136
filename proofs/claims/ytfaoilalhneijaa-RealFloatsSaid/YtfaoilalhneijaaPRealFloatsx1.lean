-- By wip/tools/printplus.py of this session, over the kit's print; what is by hand in it is this session's own.
import Derived.Test.YtfaoilalhneijaaPRealFloatsx0
namespace Go.Proofs.Ytfaoilalhneijaa.PRealFloats
open Go.RowKit Go.Proofs.YtfaoilalhneijaaW.PrintWords Go.Proofs.YtfaoilalhneijaaW.PrintLast Go.Proofs.YtfaoilalhneijaaW.PrintMore
attribute [local go_sem] max2_int min2_int max_two min_two max_three min_three max_four min_four   -- for this text's walks alone
set_option linter.unusedVariables false
set_option linter.unusedSimpArgs false

/-! ### foolscaplaw02_lives: function 16 -/
def foolscaplaw02_lives.f  : Option (Bool) := some (true)
theorem foolscaplaw02_lives.calls  (r : Bool) (w : World) (h : foolscaplaw02_lives.f  = some r) :
    Calls Try.prog 16 #[] w fun e w' => e = .returned (.bool r) ∧ Below w.heap.size w w' :=
  Go.Proofs.Ytfaoilalhneijaa.PG.foolscaplaw02_lives.calls 300 r w (Eq.trans (FX.lives_eq 100) h)

/-! ### real_To: function 19 -/
def real_To.f (a0 : Int) : Option (Nat × Int) := some (Go.Proofs.Ytfaoilalhneijaa.FTo.toN a0)
theorem real_To.calls (a0 : Int) (r1 : Nat) (r2 : Int) (w : World) (h : real_To.f a0 = some (r1, r2)) :
    Calls Try.prog 19 #[.int .i64 a0] w fun e w' => e = .returned (.tuple #[.float .f64 r1, .int .i64 r2]) ∧ Below w.heap.size w w' :=
  Go.Proofs.Ytfaoilalhneijaa.PG.real_To.calls 300 a0 r1 r2 w (Eq.trans (FTe.to_eq 200 _) h)

/-! ### foolscapref02_To: function 20 -/
def foolscapref02_To.f (a0 : Int) : Option (Int × Int) := some (Go.Proofs.Ytfaoilalhneijaa.FTc.toI (Go.Proofs.Ytfaoilalhneijaa.FTo.toN a0))
theorem foolscapref02_To.calls (a0 : Int) (r1 : Int) (r2 : Int) (w : World) (h : foolscapref02_To.f a0 = some (r1, r2)) :
    Calls Try.prog 20 #[.int .i64 a0] w fun e w' => e = .returned (.tuple #[.int .u64 r1, .int .i64 r2]) ∧ Below w.heap.size w w' :=
  Go.Proofs.Ytfaoilalhneijaa.PG.foolscapref02_To.calls 300 a0 r1 r2 w (Eq.trans (FTc.refTo_eq 200 _) h)

-- NOT PRINTED: function 41 (math_Float64bits)

/-! ### foolscaplaw02_bits: function 21 -/
def foolscaplaw02_bits.f (a0 : Nat) : Option (Int) := some (a0 : Int)
set_option maxHeartbeats 8000000 in
set_option maxRecDepth 100000 in
theorem foolscaplaw02_bits.calls (a0 : Nat) (r : Int) (w : World) (h : foolscaplaw02_bits.f a0 = some r) :
    Calls Try.prog 21 #[.float .f64 a0] w fun e w' => e = .returned (.int .u64 r) ∧ Drawn0 w w' := by
  have hent_fbits := hent_fbits
  have H : (some (a0 : Int)) = some r := h
  clear h
  obtain rfl := Option.some.inj H
  go_enter Try.func21, Try.ntmps21
  go_wp2
  go_ret
  exact ⟨by first | rfl | (simp; done) | (simp [*]; done), by repeat (first | exact Drawn0.refl _ | apply Drawn0.step)⟩

/-! ### foolscaplaw02_RealFloats: function 5 -/
def foolscaplaw02_RealFloats.f (a0 : Int) : Option (Bool) := (real_To.f a0).bind fun bt101 => ((foolscapref02_To.f a0).bind fun bt103 => ((foolscaplaw02_bits.f bt101.1).bind fun t105 => (if t105 = bt103.1 then (if bt101.2 = bt103.2 then ((foolscaplaw02_lives.f).bind fun t106 => (some t106)) else (none)) else (none))))
set_option maxHeartbeats 8000000 in
set_option maxRecDepth 100000 in
theorem foolscaplaw02_RealFloats.calls (a0 : Int) (r : Bool) (w : World) (h : foolscaplaw02_RealFloats.f a0 = some r) :
    Calls Try.prog 5 #[.int .i64 a0] w fun e w' => e = .returned (.bool r) ∧ Below w.heap.size w w' := by
  have HB := Aside0.mk (Below.refl w.heap.size w)
  have H : ((real_To.f a0).bind fun bt101 => ((foolscapref02_To.f a0).bind fun bt103 => ((foolscaplaw02_bits.f bt101.1).bind fun t105 => (if t105 = bt103.1 then (if bt101.2 = bt103.2 then ((foolscaplaw02_lives.f).bind fun t106 => (some t106)) else (none)) else (none))))) = some r := h
  clear h
  replace H := Option.bind_eq_some_iff.mp H
  obtain ⟨⟨t101, t102⟩, A20, H⟩ := H
  replace H : ((foolscapref02_To.f a0).bind fun bt103 => ((foolscaplaw02_bits.f t101).bind fun t105 => (if t105 = bt103.1 then (if t102 = bt103.2 then ((foolscaplaw02_lives.f).bind fun t106 => (some t106)) else (none)) else (none)))) = some r := H
  have A2 := Aside0.mk A20
  clear A20
  replace H := Option.bind_eq_some_iff.mp H
  obtain ⟨⟨t103, t104⟩, A30, H⟩ := H
  replace H : ((foolscaplaw02_bits.f t101).bind fun t105 => (if t105 = t103 then (if t102 = t104 then ((foolscaplaw02_lives.f).bind fun t106 => (some t106)) else (none)) else (none))) = some r := H
  have A3 := Aside0.mk A30
  clear A30
  replace H := Option.bind_eq_some_iff.mp H
  obtain ⟨t105, A40, H⟩ := H
  replace H : (if t105 = t103 then (if t102 = t104 then ((foolscaplaw02_lives.f).bind fun t106 => (some t106)) else (none)) else (none)) = some r := H
  have A4 := Aside0.mk A40
  clear A40
  by_cases c5 : t105 = t103
  · rw [if_pos c5] at H
    have c5b0 : (t105 == t103) = true := beq_iff_eq.mpr c5
    have c5b1 : (t105 != t103) = false := bne_eq_false_iff_eq.mpr c5
    clear c5
    by_cases c6 : t102 = t104
    · rw [if_pos c6] at H
      have c6b0 : (t102 == t104) = true := beq_iff_eq.mpr c6
      have c6b1 : (t102 != t104) = false := bne_eq_false_iff_eq.mpr c6
      clear c6
      replace H := Option.bind_eq_some_iff.mp H
      obtain ⟨t106, A70, H⟩ := H
      replace H : (some t106) = some r := H
      have A7 := Aside0.mk A70
      clear A70
      obtain rfl := Option.some.inj H
      go_enter Try.func5, Try.ntmps5
      go_wp2_with (first | ((with_reducible refine gate_callee (f := 19) rfl ?_); refine goesL_ (some 9) rfl rfl Try.func19 (by kernel_rfl) rfl #[.int .i64 a0] rfl (by (try simp only [List.map_toArray, List.map_cons, List.map_nil]); first | done | rfl | (simp only [List.length_drop, List.length_take]; rfl)) ?_; (with_reducible refine (real_To.calls a0 t101 t102 _ A2.out).mono ?_); rintro e w8 ⟨rfl, hb⟩; refine ⟨_, rfl, ?_⟩; have n0_ := Aside0.mk (below_step (by repeat (first | (with_reducible first | exact HB.out | apply below_alloc | apply pw_below_drewN | apply below_drew1) | exact HB.out)) hb); clear HB; have HB := n0_; clear n0_; (try clear hb); (try clear hb2); (try clear hk); (try clear hi)) | ((with_reducible refine gate_callee (f := 20) rfl ?_); refine goesL_ (some 14) rfl rfl Try.func20 (by kernel_rfl) rfl #[.int .i64 a0] rfl (by (try simp only [List.map_toArray, List.map_cons, List.map_nil]); first | done | rfl | (simp only [List.length_drop, List.length_take]; rfl)) ?_; (with_reducible refine (foolscapref02_To.calls a0 t103 t104 _ A3.out).mono ?_); rintro e w9 ⟨rfl, hb⟩; refine ⟨_, rfl, ?_⟩; have n0_ := Aside0.mk (below_step (by repeat (first | (with_reducible first | exact HB.out | apply below_alloc | apply pw_below_drewN | apply below_drew1) | exact HB.out)) hb); clear HB; have HB := n0_; clear n0_; (try clear hb); (try clear hb2); (try clear hk); (try clear hi)) | ((with_reducible refine gate_callee (f := 21) rfl ?_); refine goesL_ (some 18) rfl rfl Try.func21 (by kernel_rfl) rfl #[.float .f64 t101] rfl (by (try simp only [List.map_toArray, List.map_cons, List.map_nil]); first | done | rfl | (simp only [List.length_drop, List.length_take]; rfl)) ?_; (with_reducible refine (foolscaplaw02_bits.calls t101 t105 _ A4.out).mono ?_); rintro e w' ⟨rfl, ⟨nd, rfl⟩⟩; refine ⟨_, rfl, ?_⟩) | (go_at_call 16; (with_reducible refine (foolscaplaw02_lives.calls  t106 _ A7.out).mono ?_); rintro e w10 ⟨rfl, hb⟩; have n0_ := Aside0.mk (below_step (by repeat (first | (with_reducible first | exact HB.out | apply below_alloc | apply pw_below_drewN | apply below_drew1) | exact HB.out)) hb); clear HB; have HB := n0_; clear n0_; (try clear hb); (try clear hb2); (try clear hk); (try clear hi)))
      go_ret
      exact ⟨by first | rfl | (simp [errW_none, errW_some] <;> rfl) | (simp [*, errW_none, errW_some] <;> rfl), by repeat (first | (with_reducible first | exact HB.out | apply below_alloc | apply pw_below_drewN | apply below_drew1) | exact HB.out)⟩
    · rw [if_neg c6] at H
      exact absurd H (by simp)
  · rw [if_neg c5] at H
    exact absurd H (by simp)

/-- THE ONE PURE STATEMENT of foolscaplaw02_RealFloats: yours. -/
def foolscaplaw02_RealFloats.Pure : Prop := ∀ (a0 : Int), (Lit.int .i64 a0).wf = true → foolscaplaw02_RealFloats.f a0 = some true
theorem foolscaplaw02_RealFloats.walk (P : foolscaplaw02_RealFloats.Pure) (a0 : Int) (w : World) (w0 : (Lit.int .i64 a0).wf = true) :
    Calls Try.prog 5 #[.int .i64 a0] w fun e w' => e = .returned (.bool true) ∧ Below w.heap.size w w' := by
  have h := P a0 w0
  refine (foolscaplaw02_RealFloats.calls a0 true w h).mono ?_
  rintro e w' ⟨rfl, hd⟩
  exact ⟨rfl, hd⟩

end Go.Proofs.Ytfaoilalhneijaa.PRealFloats
