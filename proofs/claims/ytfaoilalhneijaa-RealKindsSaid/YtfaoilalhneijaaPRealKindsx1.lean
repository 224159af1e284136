-- By wip/tools/printplus.py of this session, over the kit's print; what is by hand in it is this session's own.
import Derived.Test.YtfaoilalhneijaaPRealKindsx0
namespace Go.Proofs.Ytfaoilalhneijaa.PRealKinds
open Go.RowKit Go.Proofs.YtfaoilalhneijaaW.PrintWords Go.Proofs.YtfaoilalhneijaaW.PrintLast Go.Proofs.YtfaoilalhneijaaW.PrintMore
attribute [local go_sem] max2_int min2_int max_two min_two max_three min_three max_four min_four   -- for this text's walks alone
set_option linter.unusedVariables false
set_option linter.unusedSimpArgs false

/-! ### real_Kind: function 13 -/
def real_Kind.f (a0 : Nat) : Option (Int) := Go.Proofs.Ytfaoilalhneijaa.FZ.kindC a0
theorem real_Kind.calls (a0 : Nat) (r : Int) (w : World) (h : real_Kind.f a0 = some r) :
    Calls Try.prog 13 #[.float .f64 a0] w fun e w' => e = .returned (.int .i64 r) ∧ Drawn0 w w' :=
  Go.Proofs.Ytfaoilalhneijaa.PG.real_Kind.calls a0 r w (FZ.kind_c h)

-- NOT PRINTED: function 27 (math_Float64frombits)

/-! ### foolscaplaw02_of: function 14 -/
def foolscaplaw02_of.f (a0 : Int) : Option (Nat) := some a0.toNat
set_option maxHeartbeats 8000000 in
set_option maxRecDepth 100000 in
theorem foolscaplaw02_of.calls (a0 : Int) (r : Nat) (w : World) (h : foolscaplaw02_of.f a0 = some r) :
    Calls Try.prog 14 #[.int .u64 a0] w fun e w' => e = .returned (.float .f64 r) ∧ Drawn0 w w' := by
  have hent_ffrom := hent_ffrom
  have H : (some a0.toNat) = some r := h
  clear h
  obtain rfl := Option.some.inj H
  go_enter Try.func14, Try.ntmps14
  go_wp2
  go_ret
  exact ⟨by first | rfl | (simp; done) | (simp [*]; done), by repeat (first | exact Drawn0.refl _ | apply Drawn0.step)⟩

/-! ### foolscapref02_Kind: function 15 -/
def foolscapref02_Kind.f (a0 : Int) : Option (Int) := Go.Proofs.Ytfaoilalhneijaa.FZ.kindI a0
theorem foolscapref02_Kind.calls (a0 : Int) (r : Int) (w : World) (h : foolscapref02_Kind.f a0 = some r) :
    Calls Try.prog 15 #[.int .u64 a0] w fun e w' => e = .returned (.int .i64 r) ∧ Below w.heap.size w w' :=
  Go.Proofs.Ytfaoilalhneijaa.PG.foolscapref02_Kind.calls 300 a0 r w (FZ.kind_i h)

/-! ### foolscaplaw02_lives: function 16 -/
def foolscaplaw02_lives.f  : Option (Bool) := some (true)
theorem foolscaplaw02_lives.calls  (r : Bool) (w : World) (h : foolscaplaw02_lives.f  = some r) :
    Calls Try.prog 16 #[] w fun e w' => e = .returned (.bool r) ∧ Below w.heap.size w w' :=
  Go.Proofs.Ytfaoilalhneijaa.PG.foolscaplaw02_lives.calls 300 r w (Eq.trans (FX.lives_eq 100) h)

/-! ### foolscaplaw02_RealKinds: function 3 -/
def foolscaplaw02_RealKinds.f (a0 : Int) : Option (Bool) := (foolscaplaw02_of.f a0).bind fun t101 => ((real_Kind.f t101).bind fun t102 => ((foolscapref02_Kind.f a0).bind fun t103 => (if t102 = t103 then ((foolscaplaw02_lives.f).bind fun t104 => (some t104)) else (none))))
set_option maxHeartbeats 8000000 in
set_option maxRecDepth 100000 in
theorem foolscaplaw02_RealKinds.calls (a0 : Int) (r : Bool) (w : World) (h : foolscaplaw02_RealKinds.f a0 = some r) :
    Calls Try.prog 3 #[.int .u64 a0] w fun e w' => e = .returned (.bool r) ∧ Below w.heap.size w w' := by
  have HB := Aside0.mk (Below.refl w.heap.size w)
  have H : ((foolscaplaw02_of.f a0).bind fun t101 => ((real_Kind.f t101).bind fun t102 => ((foolscapref02_Kind.f a0).bind fun t103 => (if t102 = t103 then ((foolscaplaw02_lives.f).bind fun t104 => (some t104)) else (none))))) = some r := h
  clear h
  replace H := Option.bind_eq_some_iff.mp H
  obtain ⟨t101, A20, H⟩ := H
  replace H : ((real_Kind.f t101).bind fun t102 => ((foolscapref02_Kind.f a0).bind fun t103 => (if t102 = t103 then ((foolscaplaw02_lives.f).bind fun t104 => (some t104)) else (none)))) = some r := H
  have A2 := Aside0.mk A20
  clear A20
  replace H := Option.bind_eq_some_iff.mp H
  obtain ⟨t102, A30, H⟩ := H
  replace H : ((foolscapref02_Kind.f a0).bind fun t103 => (if t102 = t103 then ((foolscaplaw02_lives.f).bind fun t104 => (some t104)) else (none))) = some r := H
  have A3 := Aside0.mk A30
  clear A30
  replace H := Option.bind_eq_some_iff.mp H
  obtain ⟨t103, A40, H⟩ := H
  replace H : (if t102 = t103 then ((foolscaplaw02_lives.f).bind fun t104 => (some t104)) else (none)) = some r := H
  have A4 := Aside0.mk A40
  clear A40
  by_cases c5 : t102 = t103
  · rw [if_pos c5] at H
    have c5b0 : (t102 == t103) = true := beq_iff_eq.mpr c5
    have c5b1 : (t102 != t103) = false := bne_eq_false_iff_eq.mpr c5
    clear c5
    replace H := Option.bind_eq_some_iff.mp H
    obtain ⟨t104, A60, H⟩ := H
    replace H : (some t104) = some r := H
    have A6 := Aside0.mk A60
    clear A60
    obtain rfl := Option.some.inj H
    go_enter Try.func3, Try.ntmps3
    go_wp2_with (first | ((with_reducible refine gate_callee (f := 14) rfl ?_); refine goesL_ (some 4) rfl rfl Try.func14 (by kernel_rfl) rfl #[.int .u64 a0] rfl (by (try simp only [List.map_toArray, List.map_cons, List.map_nil]); first | done | rfl | (simp only [List.length_drop, List.length_take]; rfl)) ?_; (with_reducible refine (foolscaplaw02_of.calls a0 t101 _ A2.out).mono ?_); rintro e w' ⟨rfl, ⟨nd, rfl⟩⟩; refine ⟨_, rfl, ?_⟩) | ((with_reducible refine gate_callee (f := 13) rfl ?_); refine goesL_ (some 5) rfl rfl Try.func13 (by kernel_rfl) rfl #[.float .f64 t101] rfl (by (try simp only [List.map_toArray, List.map_cons, List.map_nil]); first | done | rfl | (simp only [List.length_drop, List.length_take]; rfl)) ?_; (with_reducible refine (real_Kind.calls t101 t102 _ A3.out).mono ?_); rintro e w' ⟨rfl, ⟨nd, rfl⟩⟩; refine ⟨_, rfl, ?_⟩) | ((with_reducible refine gate_callee (f := 15) rfl ?_); refine goesL_ (some 7) rfl rfl Try.func15 (by kernel_rfl) rfl #[.int .u64 a0] rfl (by (try simp only [List.map_toArray, List.map_cons, List.map_nil]); first | done | rfl | (simp only [List.length_drop, List.length_take]; rfl)) ?_; (with_reducible refine (foolscapref02_Kind.calls a0 t103 _ A4.out).mono ?_); rintro e w7 ⟨rfl, hb⟩; refine ⟨_, rfl, ?_⟩; have n0_ := Aside0.mk (below_step (by repeat (first | (with_reducible first | exact HB.out | apply below_alloc | apply pw_below_drewN | apply below_drew1) | exact HB.out)) hb); clear HB; have HB := n0_; clear n0_; (try clear hb); (try clear hb2); (try clear hk); (try clear hi)) | (go_at_call 16; (with_reducible refine (foolscaplaw02_lives.calls  t104 _ A6.out).mono ?_); rintro e w8 ⟨rfl, hb⟩; have n0_ := Aside0.mk (below_step (by repeat (first | (with_reducible first | exact HB.out | apply below_alloc | apply pw_below_drewN | apply below_drew1) | exact HB.out)) hb); clear HB; have HB := n0_; clear n0_; (try clear hb); (try clear hb2); (try clear hk); (try clear hi)))
    go_ret
    exact ⟨by first | rfl | (simp [errW_none, errW_some] <;> rfl) | (simp [*, errW_none, errW_some] <;> rfl), by repeat (first | (with_reducible first | exact HB.out | apply below_alloc | apply pw_below_drewN | apply below_drew1) | exact HB.out)⟩
  · rw [if_neg c5] at H
    exact absurd H (by simp)

/-- THE ONE PURE STATEMENT of foolscaplaw02_RealKinds: yours. -/
def foolscaplaw02_RealKinds.Pure : Prop := ∀ (a0 : Int), (Lit.int .u64 a0).wf = true → foolscaplaw02_RealKinds.f a0 = some true
theorem foolscaplaw02_RealKinds.walk (P : foolscaplaw02_RealKinds.Pure) (a0 : Int) (w : World) (w0 : (Lit.int .u64 a0).wf = true) :
    Calls Try.prog 3 #[.int .u64 a0] w fun e w' => e = .returned (.bool true) ∧ Below w.heap.size w w' := by
  have h := P a0 w0
  refine (foolscaplaw02_RealKinds.calls a0 true w h).mono ?_
  rintro e w' ⟨rfl, hd⟩
  exact ⟨rfl, hd⟩

end Go.Proofs.Ytfaoilalhneijaa.PRealKinds
