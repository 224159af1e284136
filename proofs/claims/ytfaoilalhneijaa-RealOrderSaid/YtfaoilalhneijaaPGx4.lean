-- By wip/tools/printplus.py of this session, over the kit's print; what is by hand in it is this session's own.
import Derived.Test.YtfaoilalhneijaaPGx0
import Derived.Test.YtfaoilalhneijaaPGx1
import Derived.Test.YtfaoilalhneijaaPGx2
import Derived.Test.YtfaoilalhneijaaPGx3
namespace Go.Proofs.Ytfaoilalhneijaa.PG
open Go.RowKit Go.Proofs.YtfaoilalhneijaaW.PrintWords Go.Proofs.YtfaoilalhneijaaW.PrintLast Go.Proofs.YtfaoilalhneijaaW.PrintMore
attribute [local go_sem] max2_int min2_int max_two min_two max_three min_three max_four min_four   -- for this text's walks alone
set_option linter.unusedVariables false
set_option linter.unusedSimpArgs false

/-! ### math_ldexp: function 44 -/
def math_ldexp.f (a0 : Nat) (a1 : Int) : Option (Nat) := if feq a0 0 = true then (some a0) else ((math_IsInf.f a0 0).bind fun t123 => (if t123 = true then (some a0) else ((math_IsNaN.f a0).bind fun t124 => (if t124 = true then (some a0) else ((math_normalize.f a0).bind fun bt125 => (if (wrap64 ((wrap64 (a1 + bt125.2)) + (wrap64 ((Go.bits .and .i64 (wrap64 ((bt125.1 : Int) / 4503599627370496)) 2047) - 1023)))) < (-1075) then ((math_Copysign.f 0 bt125.1).bind fun t127 => (some t127)) else (if (wrap64 ((wrap64 (a1 + bt125.2)) + (wrap64 ((Go.bits .and .i64 (wrap64 ((bt125.1 : Int) / 4503599627370496)) 2047) - 1023)))) > 1023 then (if flt bt125.1 0 = true then ((math_Inf.f (-1)).bind fun t128 => (some t128)) else ((math_Inf.f 1).bind fun t129 => (some t129))) else (if (wrap64 ((wrap64 (a1 + bt125.2)) + (wrap64 ((Go.bits .and .i64 (wrap64 ((bt125.1 : Int) / 4503599627370496)) 2047) - 1023)))) < (-1022) then (if fmulok 4368491638549381120 ((Go.bits .or .u64 (Go.bits .andNot .u64 (bt125.1 : Int) 9218868437227405312) (IntKind.u64.wrap ((IntKind.u64.wrap (wrap64 ((wrap64 ((wrap64 ((wrap64 (a1 + bt125.2)) + (wrap64 ((Go.bits .and .i64 (wrap64 ((bt125.1 : Int) / 4503599627370496)) 2047) - 1023)))) + 53)) + 1023))) * 4503599627370496))).toNat) = true then (some (fmulV 4368491638549381120 ((Go.bits .or .u64 (Go.bits .andNot .u64 (bt125.1 : Int) 9218868437227405312) (IntKind.u64.wrap ((IntKind.u64.wrap (wrap64 ((wrap64 ((wrap64 ((wrap64 (a1 + bt125.2)) + (wrap64 ((Go.bits .and .i64 (wrap64 ((bt125.1 : Int) / 4503599627370496)) 2047) - 1023)))) + 53)) + 1023))) * 4503599627370496))).toNat))) else (none)) else (if fmulok 4607182418800017408 ((Go.bits .or .u64 (Go.bits .andNot .u64 (bt125.1 : Int) 9218868437227405312) (IntKind.u64.wrap ((IntKind.u64.wrap (wrap64 ((wrap64 ((wrap64 (a1 + bt125.2)) + (wrap64 ((Go.bits .and .i64 (wrap64 ((bt125.1 : Int) / 4503599627370496)) 2047) - 1023)))) + 1023))) * 4503599627370496))).toNat) = true then (some (fmulV 4607182418800017408 ((Go.bits .or .u64 (Go.bits .andNot .u64 (bt125.1 : Int) 9218868437227405312) (IntKind.u64.wrap ((IntKind.u64.wrap (wrap64 ((wrap64 ((wrap64 (a1 + bt125.2)) + (wrap64 ((Go.bits .and .i64 (wrap64 ((bt125.1 : Int) / 4503599627370496)) 2047) - 1023)))) + 1023))) * 4503599627370496))).toNat))) else (none))))))))))
set_option maxHeartbeats 8000000 in
set_option maxRecDepth 100000 in
theorem math_ldexp.calls (a0 : Nat) (a1 : Int) (r : Nat) (w : World) (h : math_ldexp.f a0 a1 = some r) :
    Calls Try.prog 44 #[.float .f64 a0, .int .i64 a1] w fun e w' => e = .returned (.float .f64 r) ∧ Drawn0 w w' := by
  have hent_fbits := hent_fbits
  have hent_ffrom := hent_ffrom
  have H : (if feq a0 0 = true then (some a0) else ((math_IsInf.f a0 0).bind fun t123 => (if t123 = true then (some a0) else ((math_IsNaN.f a0).bind fun t124 => (if t124 = true then (some a0) else ((math_normalize.f a0).bind fun bt125 => (if (wrap64 ((wrap64 (a1 + bt125.2)) + (wrap64 ((Go.bits .and .i64 (wrap64 ((bt125.1 : Int) / 4503599627370496)) 2047) - 1023)))) < (-1075) then ((math_Copysign.f 0 bt125.1).bind fun t127 => (some t127)) else (if (wrap64 ((wrap64 (a1 + bt125.2)) + (wrap64 ((Go.bits .and .i64 (wrap64 ((bt125.1 : Int) / 4503599627370496)) 2047) - 1023)))) > 1023 then (if flt bt125.1 0 = true then ((math_Inf.f (-1)).bind fun t128 => (some t128)) else ((math_Inf.f 1).bind fun t129 => (some t129))) else (if (wrap64 ((wrap64 (a1 + bt125.2)) + (wrap64 ((Go.bits .and .i64 (wrap64 ((bt125.1 : Int) / 4503599627370496)) 2047) - 1023)))) < (-1022) then (if fmulok 4368491638549381120 ((Go.bits .or .u64 (Go.bits .andNot .u64 (bt125.1 : Int) 9218868437227405312) (IntKind.u64.wrap ((IntKind.u64.wrap (wrap64 ((wrap64 ((wrap64 ((wrap64 (a1 + bt125.2)) + (wrap64 ((Go.bits .and .i64 (wrap64 ((bt125.1 : Int) / 4503599627370496)) 2047) - 1023)))) + 53)) + 1023))) * 4503599627370496))).toNat) = true then (some (fmulV 4368491638549381120 ((Go.bits .or .u64 (Go.bits .andNot .u64 (bt125.1 : Int) 9218868437227405312) (IntKind.u64.wrap ((IntKind.u64.wrap (wrap64 ((wrap64 ((wrap64 ((wrap64 (a1 + bt125.2)) + (wrap64 ((Go.bits .and .i64 (wrap64 ((bt125.1 : Int) / 4503599627370496)) 2047) - 1023)))) + 53)) + 1023))) * 4503599627370496))).toNat))) else (none)) else (if fmulok 4607182418800017408 ((Go.bits .or .u64 (Go.bits .andNot .u64 (bt125.1 : Int) 9218868437227405312) (IntKind.u64.wrap ((IntKind.u64.wrap (wrap64 ((wrap64 ((wrap64 (a1 + bt125.2)) + (wrap64 ((Go.bits .and .i64 (wrap64 ((bt125.1 : Int) / 4503599627370496)) 2047) - 1023)))) + 1023))) * 4503599627370496))).toNat) = true then (some (fmulV 4607182418800017408 ((Go.bits .or .u64 (Go.bits .andNot .u64 (bt125.1 : Int) 9218868437227405312) (IntKind.u64.wrap ((IntKind.u64.wrap (wrap64 ((wrap64 ((wrap64 (a1 + bt125.2)) + (wrap64 ((Go.bits .and .i64 (wrap64 ((bt125.1 : Int) / 4503599627370496)) 2047) - 1023)))) + 1023))) * 4503599627370496))).toNat))) else (none))))))))))) = some r := h
  clear h
  by_cases c3 : feq a0 0 = true
  · rw [if_pos c3] at H
    have c3b0 : feq a0 0 = true := c3
    clear c3
    obtain rfl := Option.some.inj H
    go_enter Try.func44, Try.ntmps44
    go_wp2
    go_ret
    exact ⟨by first | rfl | (simp; done) | (simp [*]; done), by repeat (first | exact Drawn0.refl _ | apply Drawn0.step)⟩
  · rw [if_neg c3] at H
    have c3b0 : feq a0 0 = false := by simpa using c3
    clear c3
    replace H := Option.bind_eq_some_iff.mp H
    obtain ⟨t123, A40, H⟩ := H
    replace H : (if t123 = true then (some a0) else ((math_IsNaN.f a0).bind fun t124 => (if t124 = true then (some a0) else ((math_normalize.f a0).bind fun bt125 => (if (wrap64 ((wrap64 (a1 + bt125.2)) + (wrap64 ((Go.bits .and .i64 (wrap64 ((bt125.1 : Int) / 4503599627370496)) 2047) - 1023)))) < (-1075) then ((math_Copysign.f 0 bt125.1).bind fun t127 => (some t127)) else (if (wrap64 ((wrap64 (a1 + bt125.2)) + (wrap64 ((Go.bits .and .i64 (wrap64 ((bt125.1 : Int) / 4503599627370496)) 2047) - 1023)))) > 1023 then (if flt bt125.1 0 = true then ((math_Inf.f (-1)).bind fun t128 => (some t128)) else ((math_Inf.f 1).bind fun t129 => (some t129))) else (if (wrap64 ((wrap64 (a1 + bt125.2)) + (wrap64 ((Go.bits .and .i64 (wrap64 ((bt125.1 : Int) / 4503599627370496)) 2047) - 1023)))) < (-1022) then (if fmulok 4368491638549381120 ((Go.bits .or .u64 (Go.bits .andNot .u64 (bt125.1 : Int) 9218868437227405312) (IntKind.u64.wrap ((IntKind.u64.wrap (wrap64 ((wrap64 ((wrap64 ((wrap64 (a1 + bt125.2)) + (wrap64 ((Go.bits .and .i64 (wrap64 ((bt125.1 : Int) / 4503599627370496)) 2047) - 1023)))) + 53)) + 1023))) * 4503599627370496))).toNat) = true then (some (fmulV 4368491638549381120 ((Go.bits .or .u64 (Go.bits .andNot .u64 (bt125.1 : Int) 9218868437227405312) (IntKind.u64.wrap ((IntKind.u64.wrap (wrap64 ((wrap64 ((wrap64 ((wrap64 (a1 + bt125.2)) + (wrap64 ((Go.bits .and .i64 (wrap64 ((bt125.1 : Int) / 4503599627370496)) 2047) - 1023)))) + 53)) + 1023))) * 4503599627370496))).toNat))) else (none)) else (if fmulok 4607182418800017408 ((Go.bits .or .u64 (Go.bits .andNot .u64 (bt125.1 : Int) 9218868437227405312) (IntKind.u64.wrap ((IntKind.u64.wrap (wrap64 ((wrap64 ((wrap64 (a1 + bt125.2)) + (wrap64 ((Go.bits .and .i64 (wrap64 ((bt125.1 : Int) / 4503599627370496)) 2047) - 1023)))) + 1023))) * 4503599627370496))).toNat) = true then (some (fmulV 4607182418800017408 ((Go.bits .or .u64 (Go.bits .andNot .u64 (bt125.1 : Int) 9218868437227405312) (IntKind.u64.wrap ((IntKind.u64.wrap (wrap64 ((wrap64 ((wrap64 (a1 + bt125.2)) + (wrap64 ((Go.bits .and .i64 (wrap64 ((bt125.1 : Int) / 4503599627370496)) 2047) - 1023)))) + 1023))) * 4503599627370496))).toNat))) else (none))))))))) = some r := H
    have A4 := Aside0.mk A40
    clear A40
    by_cases c5 : t123 = true
    · subst c5
      have H1 : (some a0) = some r := by rw [if_pos rfl] at H; exact H
      clear H
      have H := H1
      clear H1
      obtain rfl := Option.some.inj H
      go_enter Try.func44, Try.ntmps44
      go_wp2_with (first | ((with_reducible refine gate_callee (f := 45) rfl ?_); refine goesL_ (some 14) rfl rfl Try.func45 (by kernel_rfl) rfl #[.float .f64 a0, .int .i64 0] rfl (by (try simp only [List.map_toArray, List.map_cons, List.map_nil]); first | done | rfl | (simp only [List.length_drop, List.length_take]; rfl)) ?_; (with_reducible refine (math_IsInf.calls a0 0 true _ A4.out).mono ?_); rintro e w' ⟨rfl, ⟨nd, rfl⟩⟩; refine ⟨_, rfl, ?_⟩))
      go_ret
      exact ⟨by first | rfl | (simp; done) | (simp [*]; done), by repeat (first | exact Drawn0.refl _ | apply Drawn0.step)⟩
    · replace c5 := Bool.eq_false_iff.mpr c5
      subst c5
      have H1 : ((math_IsNaN.f a0).bind fun t124 => (if t124 = true then (some a0) else ((math_normalize.f a0).bind fun bt125 => (if (wrap64 ((wrap64 (a1 + bt125.2)) + (wrap64 ((Go.bits .and .i64 (wrap64 ((bt125.1 : Int) / 4503599627370496)) 2047) - 1023)))) < (-1075) then ((math_Copysign.f 0 bt125.1).bind fun t127 => (some t127)) else (if (wrap64 ((wrap64 (a1 + bt125.2)) + (wrap64 ((Go.bits .and .i64 (wrap64 ((bt125.1 : Int) / 4503599627370496)) 2047) - 1023)))) > 1023 then (if flt bt125.1 0 = true then ((math_Inf.f (-1)).bind fun t128 => (some t128)) else ((math_Inf.f 1).bind fun t129 => (some t129))) else (if (wrap64 ((wrap64 (a1 + bt125.2)) + (wrap64 ((Go.bits .and .i64 (wrap64 ((bt125.1 : Int) / 4503599627370496)) 2047) - 1023)))) < (-1022) then (if fmulok 4368491638549381120 ((Go.bits .or .u64 (Go.bits .andNot .u64 (bt125.1 : Int) 9218868437227405312) (IntKind.u64.wrap ((IntKind.u64.wrap (wrap64 ((wrap64 ((wrap64 ((wrap64 (a1 + bt125.2)) + (wrap64 ((Go.bits .and .i64 (wrap64 ((bt125.1 : Int) / 4503599627370496)) 2047) - 1023)))) + 53)) + 1023))) * 4503599627370496))).toNat) = true then (some (fmulV 4368491638549381120 ((Go.bits .or .u64 (Go.bits .andNot .u64 (bt125.1 : Int) 9218868437227405312) (IntKind.u64.wrap ((IntKind.u64.wrap (wrap64 ((wrap64 ((wrap64 ((wrap64 (a1 + bt125.2)) + (wrap64 ((Go.bits .and .i64 (wrap64 ((bt125.1 : Int) / 4503599627370496)) 2047) - 1023)))) + 53)) + 1023))) * 4503599627370496))).toNat))) else (none)) else (if fmulok 4607182418800017408 ((Go.bits .or .u64 (Go.bits .andNot .u64 (bt125.1 : Int) 9218868437227405312) (IntKind.u64.wrap ((IntKind.u64.wrap (wrap64 ((wrap64 ((wrap64 (a1 + bt125.2)) + (wrap64 ((Go.bits .and .i64 (wrap64 ((bt125.1 : Int) / 4503599627370496)) 2047) - 1023)))) + 1023))) * 4503599627370496))).toNat) = true then (some (fmulV 4607182418800017408 ((Go.bits .or .u64 (Go.bits .andNot .u64 (bt125.1 : Int) 9218868437227405312) (IntKind.u64.wrap ((IntKind.u64.wrap (wrap64 ((wrap64 ((wrap64 (a1 + bt125.2)) + (wrap64 ((Go.bits .and .i64 (wrap64 ((bt125.1 : Int) / 4503599627370496)) 2047) - 1023)))) + 1023))) * 4503599627370496))).toNat))) else (none)))))))) = some r := by rw [if_neg (show ¬ (false = true) by decide)] at H; exact H
      clear H
      have H := H1
      clear H1
      replace H := Option.bind_eq_some_iff.mp H
      obtain ⟨t124, A60, H⟩ := H
      replace H : (if t124 = true then (some a0) else ((math_normalize.f a0).bind fun bt125 => (if (wrap64 ((wrap64 (a1 + bt125.2)) + (wrap64 ((Go.bits .and .i64 (wrap64 ((bt125.1 : Int) / 4503599627370496)) 2047) - 1023)))) < (-1075) then ((math_Copysign.f 0 bt125.1).bind fun t127 => (some t127)) else (if (wrap64 ((wrap64 (a1 + bt125.2)) + (wrap64 ((Go.bits .and .i64 (wrap64 ((bt125.1 : Int) / 4503599627370496)) 2047) - 1023)))) > 1023 then (if flt bt125.1 0 = true then ((math_Inf.f (-1)).bind fun t128 => (some t128)) else ((math_Inf.f 1).bind fun t129 => (some t129))) else (if (wrap64 ((wrap64 (a1 + bt125.2)) + (wrap64 ((Go.bits .and .i64 (wrap64 ((bt125.1 : Int) / 4503599627370496)) 2047) - 1023)))) < (-1022) then (if fmulok 4368491638549381120 ((Go.bits .or .u64 (Go.bits .andNot .u64 (bt125.1 : Int) 9218868437227405312) (IntKind.u64.wrap ((IntKind.u64.wrap (wrap64 ((wrap64 ((wrap64 ((wrap64 (a1 + bt125.2)) + (wrap64 ((Go.bits .and .i64 (wrap64 ((bt125.1 : Int) / 4503599627370496)) 2047) - 1023)))) + 53)) + 1023))) * 4503599627370496))).toNat) = true then (some (fmulV 4368491638549381120 ((Go.bits .or .u64 (Go.bits .andNot .u64 (bt125.1 : Int) 9218868437227405312) (IntKind.u64.wrap ((IntKind.u64.wrap (wrap64 ((wrap64 ((wrap64 ((wrap64 (a1 + bt125.2)) + (wrap64 ((Go.bits .and .i64 (wrap64 ((bt125.1 : Int) / 4503599627370496)) 2047) - 1023)))) + 53)) + 1023))) * 4503599627370496))).toNat))) else (none)) else (if fmulok 4607182418800017408 ((Go.bits .or .u64 (Go.bits .andNot .u64 (bt125.1 : Int) 9218868437227405312) (IntKind.u64.wrap ((IntKind.u64.wrap (wrap64 ((wrap64 ((wrap64 (a1 + bt125.2)) + (wrap64 ((Go.bits .and .i64 (wrap64 ((bt125.1 : Int) / 4503599627370496)) 2047) - 1023)))) + 1023))) * 4503599627370496))).toNat) = true then (some (fmulV 4607182418800017408 ((Go.bits .or .u64 (Go.bits .andNot .u64 (bt125.1 : Int) 9218868437227405312) (IntKind.u64.wrap ((IntKind.u64.wrap (wrap64 ((wrap64 ((wrap64 (a1 + bt125.2)) + (wrap64 ((Go.bits .and .i64 (wrap64 ((bt125.1 : Int) / 4503599627370496)) 2047) - 1023)))) + 1023))) * 4503599627370496))).toNat))) else (none))))))) = some r := H
      have A6 := Aside0.mk A60
      clear A60
      by_cases c7 : t124 = true
      · subst c7
        have H1 : (some a0) = some r := by rw [if_pos rfl] at H; exact H
        clear H
        have H := H1
        clear H1
        obtain rfl := Option.some.inj H
        go_enter Try.func44, Try.ntmps44
        go_wp2_with (first | ((with_reducible refine gate_callee (f := 45) rfl ?_); refine goesL_ (some 14) rfl rfl Try.func45 (by kernel_rfl) rfl #[.float .f64 a0, .int .i64 0] rfl (by (try simp only [List.map_toArray, List.map_cons, List.map_nil]); first | done | rfl | (simp only [List.length_drop, List.length_take]; rfl)) ?_; (with_reducible refine (math_IsInf.calls a0 0 false _ A4.out).mono ?_); rintro e w' ⟨rfl, ⟨nd, rfl⟩⟩; refine ⟨_, rfl, ?_⟩) | (go_at_call 46; (with_reducible refine (math_IsNaN.calls a0 true _ A6.out).mono ?_); rintro e w' ⟨rfl, ⟨nd, rfl⟩⟩))
        go_ret
        exact ⟨by first | rfl | (simp; done) | (simp [*]; done), by repeat (first | exact Drawn0.refl _ | apply Drawn0.step)⟩
      · replace c7 := Bool.eq_false_iff.mpr c7
        subst c7
        have H1 : ((math_normalize.f a0).bind fun bt125 => (if (wrap64 ((wrap64 (a1 + bt125.2)) + (wrap64 ((Go.bits .and .i64 (wrap64 ((bt125.1 : Int) / 4503599627370496)) 2047) - 1023)))) < (-1075) then ((math_Copysign.f 0 bt125.1).bind fun t127 => (some t127)) else (if (wrap64 ((wrap64 (a1 + bt125.2)) + (wrap64 ((Go.bits .and .i64 (wrap64 ((bt125.1 : Int) / 4503599627370496)) 2047) - 1023)))) > 1023 then (if flt bt125.1 0 = true then ((math_Inf.f (-1)).bind fun t128 => (some t128)) else ((math_Inf.f 1).bind fun t129 => (some t129))) else (if (wrap64 ((wrap64 (a1 + bt125.2)) + (wrap64 ((Go.bits .and .i64 (wrap64 ((bt125.1 : Int) / 4503599627370496)) 2047) - 1023)))) < (-1022) then (if fmulok 4368491638549381120 ((Go.bits .or .u64 (Go.bits .andNot .u64 (bt125.1 : Int) 9218868437227405312) (IntKind.u64.wrap ((IntKind.u64.wrap (wrap64 ((wrap64 ((wrap64 ((wrap64 (a1 + bt125.2)) + (wrap64 ((Go.bits .and .i64 (wrap64 ((bt125.1 : Int) / 4503599627370496)) 2047) - 1023)))) + 53)) + 1023))) * 4503599627370496))).toNat) = true then (some (fmulV 4368491638549381120 ((Go.bits .or .u64 (Go.bits .andNot .u64 (bt125.1 : Int) 9218868437227405312) (IntKind.u64.wrap ((IntKind.u64.wrap (wrap64 ((wrap64 ((wrap64 ((wrap64 (a1 + bt125.2)) + (wrap64 ((Go.bits .and .i64 (wrap64 ((bt125.1 : Int) / 4503599627370496)) 2047) - 1023)))) + 53)) + 1023))) * 4503599627370496))).toNat))) else (none)) else (if fmulok 4607182418800017408 ((Go.bits .or .u64 (Go.bits .andNot .u64 (bt125.1 : Int) 9218868437227405312) (IntKind.u64.wrap ((IntKind.u64.wrap (wrap64 ((wrap64 ((wrap64 (a1 + bt125.2)) + (wrap64 ((Go.bits .and .i64 (wrap64 ((bt125.1 : Int) / 4503599627370496)) 2047) - 1023)))) + 1023))) * 4503599627370496))).toNat) = true then (some (fmulV 4607182418800017408 ((Go.bits .or .u64 (Go.bits .andNot .u64 (bt125.1 : Int) 9218868437227405312) (IntKind.u64.wrap ((IntKind.u64.wrap (wrap64 ((wrap64 ((wrap64 (a1 + bt125.2)) + (wrap64 ((Go.bits .and .i64 (wrap64 ((bt125.1 : Int) / 4503599627370496)) 2047) - 1023)))) + 1023))) * 4503599627370496))).toNat))) else (none)))))) = some r := by rw [if_neg (show ¬ (false = true) by decide)] at H; exact H
        clear H
        have H := H1
        clear H1
        replace H := Option.bind_eq_some_iff.mp H
        obtain ⟨⟨t125, t126⟩, A80, H⟩ := H
        replace H : (if (wrap64 ((wrap64 (a1 + t126)) + (wrap64 ((Go.bits .and .i64 (wrap64 ((t125 : Int) / 4503599627370496)) 2047) - 1023)))) < (-1075) then ((math_Copysign.f 0 t125).bind fun t127 => (some t127)) else (if (wrap64 ((wrap64 (a1 + t126)) + (wrap64 ((Go.bits .and .i64 (wrap64 ((t125 : Int) / 4503599627370496)) 2047) - 1023)))) > 1023 then (if flt t125 0 = true then ((math_Inf.f (-1)).bind fun t128 => (some t128)) else ((math_Inf.f 1).bind fun t129 => (some t129))) else (if (wrap64 ((wrap64 (a1 + t126)) + (wrap64 ((Go.bits .and .i64 (wrap64 ((t125 : Int) / 4503599627370496)) 2047) - 1023)))) < (-1022) then (if fmulok 4368491638549381120 ((Go.bits .or .u64 (Go.bits .andNot .u64 (t125 : Int) 9218868437227405312) (IntKind.u64.wrap ((IntKind.u64.wrap (wrap64 ((wrap64 ((wrap64 ((wrap64 (a1 + t126)) + (wrap64 ((Go.bits .and .i64 (wrap64 ((t125 : Int) / 4503599627370496)) 2047) - 1023)))) + 53)) + 1023))) * 4503599627370496))).toNat) = true then (some (fmulV 4368491638549381120 ((Go.bits .or .u64 (Go.bits .andNot .u64 (t125 : Int) 9218868437227405312) (IntKind.u64.wrap ((IntKind.u64.wrap (wrap64 ((wrap64 ((wrap64 ((wrap64 (a1 + t126)) + (wrap64 ((Go.bits .and .i64 (wrap64 ((t125 : Int) / 4503599627370496)) 2047) - 1023)))) + 53)) + 1023))) * 4503599627370496))).toNat))) else (none)) else (if fmulok 4607182418800017408 ((Go.bits .or .u64 (Go.bits .andNot .u64 (t125 : Int) 9218868437227405312) (IntKind.u64.wrap ((IntKind.u64.wrap (wrap64 ((wrap64 ((wrap64 (a1 + t126)) + (wrap64 ((Go.bits .and .i64 (wrap64 ((t125 : Int) / 4503599627370496)) 2047) - 1023)))) + 1023))) * 4503599627370496))).toNat) = true then (some (fmulV 4607182418800017408 ((Go.bits .or .u64 (Go.bits .andNot .u64 (t125 : Int) 9218868437227405312) (IntKind.u64.wrap ((IntKind.u64.wrap (wrap64 ((wrap64 ((wrap64 (a1 + t126)) + (wrap64 ((Go.bits .and .i64 (wrap64 ((t125 : Int) / 4503599627370496)) 2047) - 1023)))) + 1023))) * 4503599627370496))).toNat))) else (none))))) = some r := H
        have A8 := Aside0.mk A80
        clear A80
        by_cases c9 : (wrap64 ((wrap64 (a1 + t126)) + (wrap64 ((Go.bits .and .i64 (wrap64 ((t125 : Int) / 4503599627370496)) 2047) - 1023)))) < (-1075)
        · rw [if_pos c9] at H
          have c9b0 : decide ((wrap64 ((wrap64 (a1 + t126)) + (wrap64 ((Go.bits .and .i64 (wrap64 ((t125 : Int) / 4503599627370496)) 2047) - 1023)))) < (-1075)) = true := decide_eq_true c9
          clear c9
          replace H := Option.bind_eq_some_iff.mp H
          obtain ⟨t127, A100, H⟩ := H
          replace H : (some t127) = some r := H
          have A10 := Aside0.mk A100
          clear A100
          obtain rfl := Option.some.inj H
          go_enter Try.func44, Try.ntmps44
          go_wp2_with (first | ((with_reducible refine gate_callee (f := 45) rfl ?_); refine goesL_ (some 14) rfl rfl Try.func45 (by kernel_rfl) rfl #[.float .f64 a0, .int .i64 0] rfl (by (try simp only [List.map_toArray, List.map_cons, List.map_nil]); first | done | rfl | (simp only [List.length_drop, List.length_take]; rfl)) ?_; (with_reducible refine (math_IsInf.calls a0 0 false _ A4.out).mono ?_); rintro e w' ⟨rfl, ⟨nd, rfl⟩⟩; refine ⟨_, rfl, ?_⟩) | (go_at_call 46; (with_reducible refine (math_IsNaN.calls a0 false _ A6.out).mono ?_); rintro e w' ⟨rfl, ⟨nd, rfl⟩⟩) | ((with_reducible refine gate_callee (f := 47) rfl ?_); refine goesL_ (some 22) rfl rfl Try.func47 (by kernel_rfl) rfl #[.float .f64 a0] rfl (by (try simp only [List.map_toArray, List.map_cons, List.map_nil]); first | done | rfl | (simp only [List.length_drop, List.length_take]; rfl)) ?_; (with_reducible refine (math_normalize.calls a0 t125 t126 _ A8.out).mono ?_); rintro e w' ⟨rfl, ⟨nd, rfl⟩⟩; refine ⟨_, rfl, ?_⟩) | ((with_reducible refine gate_callee (f := 48) rfl ?_); refine goesL_ (some 40) rfl rfl Try.func48 (by kernel_rfl) rfl #[.float .f64 0, .float .f64 t125] rfl (by (try simp only [List.map_toArray, List.map_cons, List.map_nil]); first | done | rfl | (simp only [List.length_drop, List.length_take]; rfl)) ?_; (with_reducible refine (math_Copysign.calls 0 t125 t127 _ A10.out).mono ?_); rintro e w' ⟨rfl, ⟨nd, rfl⟩⟩; refine ⟨_, rfl, ?_⟩))
          go_ret
          exact ⟨by first | rfl | (simp; done) | (simp [*]; done), by repeat (first | exact Drawn0.refl _ | apply Drawn0.step)⟩
        · rw [if_neg c9] at H
          have c9b0 : decide ((wrap64 ((wrap64 (a1 + t126)) + (wrap64 ((Go.bits .and .i64 (wrap64 ((t125 : Int) / 4503599627370496)) 2047) - 1023)))) < (-1075)) = false := decide_eq_false c9
          clear c9
          by_cases c11 : (wrap64 ((wrap64 (a1 + t126)) + (wrap64 ((Go.bits .and .i64 (wrap64 ((t125 : Int) / 4503599627370496)) 2047) - 1023)))) > 1023
          · rw [if_pos c11] at H
            have c11b0 : decide (1023 < (wrap64 ((wrap64 (a1 + t126)) + (wrap64 ((Go.bits .and .i64 (wrap64 ((t125 : Int) / 4503599627370496)) 2047) - 1023))))) = true := decide_eq_true c11
            clear c11
            by_cases c12 : flt t125 0 = true
            · rw [if_pos c12] at H
              have c12b0 : flt t125 0 = true := c12
              clear c12
              replace H := Option.bind_eq_some_iff.mp H
              obtain ⟨t128, A130, H⟩ := H
              replace H : (some t128) = some r := H
              have A13 := Aside0.mk A130
              clear A130
              obtain rfl := Option.some.inj H
              go_enter Try.func44, Try.ntmps44
              go_wp2_with (first | ((with_reducible refine gate_callee (f := 45) rfl ?_); refine goesL_ (some 14) rfl rfl Try.func45 (by kernel_rfl) rfl #[.float .f64 a0, .int .i64 0] rfl (by (try simp only [List.map_toArray, List.map_cons, List.map_nil]); first | done | rfl | (simp only [List.length_drop, List.length_take]; rfl)) ?_; (with_reducible refine (math_IsInf.calls a0 0 false _ A4.out).mono ?_); rintro e w' ⟨rfl, ⟨nd, rfl⟩⟩; refine ⟨_, rfl, ?_⟩) | (go_at_call 46; (with_reducible refine (math_IsNaN.calls a0 false _ A6.out).mono ?_); rintro e w' ⟨rfl, ⟨nd, rfl⟩⟩) | ((with_reducible refine gate_callee (f := 47) rfl ?_); refine goesL_ (some 22) rfl rfl Try.func47 (by kernel_rfl) rfl #[.float .f64 a0] rfl (by (try simp only [List.map_toArray, List.map_cons, List.map_nil]); first | done | rfl | (simp only [List.length_drop, List.length_take]; rfl)) ?_; (with_reducible refine (math_normalize.calls a0 t125 t126 _ A8.out).mono ?_); rintro e w' ⟨rfl, ⟨nd, rfl⟩⟩; refine ⟨_, rfl, ?_⟩) | ((with_reducible refine gate_callee (f := 49) rfl ?_); refine goesL_ (some 45) rfl rfl Try.func49 (by kernel_rfl) rfl #[.int .i64 (-1)] rfl (by (try simp only [List.map_toArray, List.map_cons, List.map_nil]); first | done | rfl | (simp only [List.length_drop, List.length_take]; rfl)) ?_; (with_reducible refine (math_Inf.calls (-1) t128 _ A13.out).mono ?_); rintro e w' ⟨rfl, ⟨nd, rfl⟩⟩; refine ⟨_, rfl, ?_⟩))
              go_ret
              exact ⟨by first | rfl | (simp; done) | (simp [*]; done), by repeat (first | exact Drawn0.refl _ | apply Drawn0.step)⟩
            · rw [if_neg c12] at H
              have c12b0 : flt t125 0 = false := by simpa using c12
              clear c12
              replace H := Option.bind_eq_some_iff.mp H
              obtain ⟨t129, A140, H⟩ := H
              replace H : (some t129) = some r := H
              have A14 := Aside0.mk A140
              clear A140
              obtain rfl := Option.some.inj H
              go_enter Try.func44, Try.ntmps44
              go_wp2_with (first | ((with_reducible refine gate_callee (f := 45) rfl ?_); refine goesL_ (some 14) rfl rfl Try.func45 (by kernel_rfl) rfl #[.float .f64 a0, .int .i64 0] rfl (by (try simp only [List.map_toArray, List.map_cons, List.map_nil]); first | done | rfl | (simp only [List.length_drop, List.length_take]; rfl)) ?_; (with_reducible refine (math_IsInf.calls a0 0 false _ A4.out).mono ?_); rintro e w' ⟨rfl, ⟨nd, rfl⟩⟩; refine ⟨_, rfl, ?_⟩) | (go_at_call 46; (with_reducible refine (math_IsNaN.calls a0 false _ A6.out).mono ?_); rintro e w' ⟨rfl, ⟨nd, rfl⟩⟩) | ((with_reducible refine gate_callee (f := 47) rfl ?_); refine goesL_ (some 22) rfl rfl Try.func47 (by kernel_rfl) rfl #[.float .f64 a0] rfl (by (try simp only [List.map_toArray, List.map_cons, List.map_nil]); first | done | rfl | (simp only [List.length_drop, List.length_take]; rfl)) ?_; (with_reducible refine (math_normalize.calls a0 t125 t126 _ A8.out).mono ?_); rintro e w' ⟨rfl, ⟨nd, rfl⟩⟩; refine ⟨_, rfl, ?_⟩) | ((with_reducible refine gate_callee (f := 49) rfl ?_); refine goesL_ (some 46) rfl rfl Try.func49 (by kernel_rfl) rfl #[.int .i64 1] rfl (by (try simp only [List.map_toArray, List.map_cons, List.map_nil]); first | done | rfl | (simp only [List.length_drop, List.length_take]; rfl)) ?_; (with_reducible refine (math_Inf.calls 1 t129 _ A14.out).mono ?_); rintro e w' ⟨rfl, ⟨nd, rfl⟩⟩; refine ⟨_, rfl, ?_⟩))
              go_ret
              exact ⟨by first | rfl | (simp; done) | (simp [*]; done), by repeat (first | exact Drawn0.refl _ | apply Drawn0.step)⟩
          · rw [if_neg c11] at H
            have c11b0 : decide (1023 < (wrap64 ((wrap64 (a1 + t126)) + (wrap64 ((Go.bits .and .i64 (wrap64 ((t125 : Int) / 4503599627370496)) 2047) - 1023))))) = false := decide_eq_false c11
            clear c11
            by_cases c15 : (wrap64 ((wrap64 (a1 + t126)) + (wrap64 ((Go.bits .and .i64 (wrap64 ((t125 : Int) / 4503599627370496)) 2047) - 1023)))) < (-1022)
            · rw [if_pos c15] at H
              have c15b0 : decide ((wrap64 ((wrap64 (a1 + t126)) + (wrap64 ((Go.bits .and .i64 (wrap64 ((t125 : Int) / 4503599627370496)) 2047) - 1023)))) < (-1022)) = true := decide_eq_true c15
              clear c15
              by_cases c16 : fmulok 4368491638549381120 ((Go.bits .or .u64 (Go.bits .andNot .u64 (t125 : Int) 9218868437227405312) (IntKind.u64.wrap ((IntKind.u64.wrap (wrap64 ((wrap64 ((wrap64 ((wrap64 (a1 + t126)) + (wrap64 ((Go.bits .and .i64 (wrap64 ((t125 : Int) / 4503599627370496)) 2047) - 1023)))) + 53)) + 1023))) * 4503599627370496))).toNat) = true
              · rw [if_pos c16] at H
                have c16b0 : fmulok 4368491638549381120 ((Go.bits .or .u64 (Go.bits .andNot .u64 (t125 : Int) 9218868437227405312) (IntKind.u64.wrap ((IntKind.u64.wrap (wrap64 ((wrap64 ((wrap64 ((wrap64 (a1 + t126)) + (wrap64 ((Go.bits .and .i64 (wrap64 ((t125 : Int) / 4503599627370496)) 2047) - 1023)))) + 53)) + 1023))) * 4503599627370496))).toNat) = true := c16
                clear c16
                obtain rfl := Option.some.inj H
                go_enter Try.func44, Try.ntmps44
                go_wp2_with (first | ((with_reducible refine gate_callee (f := 45) rfl ?_); refine goesL_ (some 14) rfl rfl Try.func45 (by kernel_rfl) rfl #[.float .f64 a0, .int .i64 0] rfl (by (try simp only [List.map_toArray, List.map_cons, List.map_nil]); first | done | rfl | (simp only [List.length_drop, List.length_take]; rfl)) ?_; (with_reducible refine (math_IsInf.calls a0 0 false _ A4.out).mono ?_); rintro e w' ⟨rfl, ⟨nd, rfl⟩⟩; refine ⟨_, rfl, ?_⟩) | (go_at_call 46; (with_reducible refine (math_IsNaN.calls a0 false _ A6.out).mono ?_); rintro e w' ⟨rfl, ⟨nd, rfl⟩⟩) | ((with_reducible refine gate_callee (f := 47) rfl ?_); refine goesL_ (some 22) rfl rfl Try.func47 (by kernel_rfl) rfl #[.float .f64 a0] rfl (by (try simp only [List.map_toArray, List.map_cons, List.map_nil]); first | done | rfl | (simp only [List.length_drop, List.length_take]; rfl)) ?_; (with_reducible refine (math_normalize.calls a0 t125 t126 _ A8.out).mono ?_); rintro e w' ⟨rfl, ⟨nd, rfl⟩⟩; refine ⟨_, rfl, ?_⟩))
                go_ret
                exact ⟨by first | rfl | (simp; done) | (simp [*]; done), by repeat (first | exact Drawn0.refl _ | apply Drawn0.step)⟩
              · rw [if_neg c16] at H
                exact absurd H (by simp)
            · rw [if_neg c15] at H
              have c15b0 : decide ((wrap64 ((wrap64 (a1 + t126)) + (wrap64 ((Go.bits .and .i64 (wrap64 ((t125 : Int) / 4503599627370496)) 2047) - 1023)))) < (-1022)) = false := decide_eq_false c15
              clear c15
              by_cases c17 : fmulok 4607182418800017408 ((Go.bits .or .u64 (Go.bits .andNot .u64 (t125 : Int) 9218868437227405312) (IntKind.u64.wrap ((IntKind.u64.wrap (wrap64 ((wrap64 ((wrap64 (a1 + t126)) + (wrap64 ((Go.bits .and .i64 (wrap64 ((t125 : Int) / 4503599627370496)) 2047) - 1023)))) + 1023))) * 4503599627370496))).toNat) = true
              · rw [if_pos c17] at H
                have c17b0 : fmulok 4607182418800017408 ((Go.bits .or .u64 (Go.bits .andNot .u64 (t125 : Int) 9218868437227405312) (IntKind.u64.wrap ((IntKind.u64.wrap (wrap64 ((wrap64 ((wrap64 (a1 + t126)) + (wrap64 ((Go.bits .and .i64 (wrap64 ((t125 : Int) / 4503599627370496)) 2047) - 1023)))) + 1023))) * 4503599627370496))).toNat) = true := c17
                clear c17
                obtain rfl := Option.some.inj H
                go_enter Try.func44, Try.ntmps44
                go_wp2_with (first | ((with_reducible refine gate_callee (f := 45) rfl ?_); refine goesL_ (some 14) rfl rfl Try.func45 (by kernel_rfl) rfl #[.float .f64 a0, .int .i64 0] rfl (by (try simp only [List.map_toArray, List.map_cons, List.map_nil]); first | done | rfl | (simp only [List.length_drop, List.length_take]; rfl)) ?_; (with_reducible refine (math_IsInf.calls a0 0 false _ A4.out).mono ?_); rintro e w' ⟨rfl, ⟨nd, rfl⟩⟩; refine ⟨_, rfl, ?_⟩) | (go_at_call 46; (with_reducible refine (math_IsNaN.calls a0 false _ A6.out).mono ?_); rintro e w' ⟨rfl, ⟨nd, rfl⟩⟩) | ((with_reducible refine gate_callee (f := 47) rfl ?_); refine goesL_ (some 22) rfl rfl Try.func47 (by kernel_rfl) rfl #[.float .f64 a0] rfl (by (try simp only [List.map_toArray, List.map_cons, List.map_nil]); first | done | rfl | (simp only [List.length_drop, List.length_take]; rfl)) ?_; (with_reducible refine (math_normalize.calls a0 t125 t126 _ A8.out).mono ?_); rintro e w' ⟨rfl, ⟨nd, rfl⟩⟩; refine ⟨_, rfl, ?_⟩))
                go_ret
                exact ⟨by first | rfl | (simp; done) | (simp [*]; done), by repeat (first | exact Drawn0.refl _ | apply Drawn0.step)⟩
              · rw [if_neg c17] at H
                exact absurd H (by simp)

/-! ### math_Ldexp: function 38 -/
def math_Ldexp.f (a0 : Nat) (a1 : Int) : Option (Nat) := (math_ldexp.f a0 a1).bind fun t130 => (some t130)
set_option maxHeartbeats 8000000 in
set_option maxRecDepth 100000 in
theorem math_Ldexp.calls (a0 : Nat) (a1 : Int) (r : Nat) (w : World) (h : math_Ldexp.f a0 a1 = some r) :
    Calls Try.prog 38 #[.float .f64 a0, .int .i64 a1] w fun e w' => e = .returned (.float .f64 r) ∧ Drawn0 w w' := by
  have H : ((math_ldexp.f a0 a1).bind fun t130 => (some t130)) = some r := h
  clear h
  replace H := Option.bind_eq_some_iff.mp H
  obtain ⟨t130, A30, H⟩ := H
  replace H : (some t130) = some r := H
  have A3 := Aside0.mk A30
  clear A30
  obtain rfl := Option.some.inj H
  go_enter Try.func38, Try.ntmps38
  go_wp2_with (first | ((with_reducible refine gate_callee (f := 44) rfl ?_); refine goesL_ (some 10) rfl rfl Try.func44 (by kernel_rfl) rfl #[.float .f64 a0, .int .i64 a1] rfl (by (try simp only [List.map_toArray, List.map_cons, List.map_nil]); first | done | rfl | (simp only [List.length_drop, List.length_take]; rfl)) ?_; (with_reducible refine (math_ldexp.calls a0 a1 t130 _ A3.out).mono ?_); rintro e w' ⟨rfl, ⟨nd, rfl⟩⟩; refine ⟨_, rfl, ?_⟩))
  go_ret
  exact ⟨by first | rfl | (simp; done) | (simp [*]; done), by repeat (first | exact Drawn0.refl _ | apply Drawn0.step)⟩

/-! ### real_To: function 19 -/
def real_To.j0 : Nat → Int → Int → Int → Int → Bool → Option (Nat × Int)
  | 0, _, _, _, _, _ => none
  | k + 1, x0, x6, x8, x10, x73 => if x73 = true then ((math_Ldexp.f (foni (IntKind.u64.wrap (x8 + 1))) (wrap64 (x10 - x6))).bind fun t139 => (if x0 < 0 then (some (fneg t139, 0)) else (some (t139, 0)))) else ((math_Ldexp.f (foni x8) (wrap64 (x10 - x6))).bind fun t140 => (if x0 < 0 then (some (fneg t140, 0)) else (some (t140, 0))))
def real_To.f (k : Nat) (a0 : Int) : Option (Nat × Int) := (num_Fits.f a0).bind fun t131 => (if t131 = true then (if a0 = 0 then (some (0, 0)) else ((bits_LeadingZeros64.f (IntKind.u64.wrap (mx a0 (wrap64 (-a0))))).bind fun t132 => ((real_wide_left.f 0 (IntKind.u64.wrap (mx a0 (wrap64 (-a0)))) (wrap64 (74 - (wrap64 (63 - t132))))).bind fun bt133 => ((bits_Div64.f k bt133.1 bt133.2 1000000).bind fun bt136 => ((bits_Len64.f bt136.1).bind fun t138 => (if 0 ≤ (wrap64 (t138 - 53)) then (if 0 ≤ (wrap64 ((wrap64 (t138 - 53)) - 1)) then (if (Go.bits .and .u64 bt136.1 (IntKind.u64.wrap ((shl .u64 1 (wrap64 (t138 - 53))) - 1))) > (shl .u64 1 (wrap64 ((wrap64 (t138 - 53)) - 1))) then (real_To.j0 k a0 (wrap64 (74 - (wrap64 (63 - t132)))) (shr .u64 bt136.1 (wrap64 (t138 - 53))) (wrap64 (t138 - 53)) true) else (if (Go.bits .and .u64 bt136.1 (IntKind.u64.wrap ((shl .u64 1 (wrap64 (t138 - 53))) - 1))) = (shl .u64 1 (wrap64 ((wrap64 (t138 - 53)) - 1))) then (if bt136.2 > 0 then (real_To.j0 k a0 (wrap64 (74 - (wrap64 (63 - t132)))) (shr .u64 bt136.1 (wrap64 (t138 - 53))) (wrap64 (t138 - 53)) true) else (real_To.j0 k a0 (wrap64 (74 - (wrap64 (63 - t132)))) (shr .u64 bt136.1 (wrap64 (t138 - 53))) (wrap64 (t138 - 53)) ((Go.bits .and .u64 (shr .u64 bt136.1 (wrap64 (t138 - 53))) 1) == 1))) else (real_To.j0 k a0 (wrap64 (74 - (wrap64 (63 - t132)))) (shr .u64 bt136.1 (wrap64 (t138 - 53))) (wrap64 (t138 - 53)) false))) else (none)) else (none))))))) else (some (0, 2)))
theorem real_To.mono_l : ∀ k, (∀ y0 y1 y2 y3 y4, LeO (real_To.j0 k y0 y1 y2 y3 y4) (real_To.j0 (k + 1) y0 y1 y2 y3 y4))
  | 0 => fun _ _ _ _ _ r h => by simp [real_To.j0] at h
  | k + 1 => by
    have ih0 := real_To.mono_l k
    · intro y0 y1 y2 y3 y4
      unfold real_To.j0
      repeat' first
      | (with_reducible exact ih0 _ _ _ _ _)
      | (with_reducible exact bits_Div64.mono _ _ _ _)
      | (with_reducible exact LeO.refl _)
      | (with_reducible exact LeO.none _)
      | (with_reducible refine LeO.ite ?_ ?_)
      | (with_reducible refine LeO.bind ?_ (fun _ => ?_))
      | exact ih0 _ _ _ _ _
      | exact bits_Div64.mono _ _ _ _
      | exact LeO.none _
      | refine LeO.ite ?_ ?_
      | refine LeO.bind ?_ (fun _ => ?_)
theorem real_To.mono : ∀ a0 k, LeO (real_To.f k a0) (real_To.f (k + 1) a0) := by
  intro a0 k
  have ih0 := real_To.mono_l k
  unfold real_To.f
  repeat' first
      | (with_reducible exact ih0 _ _ _ _ _)
      | (with_reducible exact bits_Div64.mono _ _ _ _)
      | (with_reducible exact LeO.refl _)
      | (with_reducible exact LeO.none _)
      | (with_reducible refine LeO.ite ?_ ?_)
      | (with_reducible refine LeO.bind ?_ (fun _ => ?_))
      | exact ih0 _ _ _ _ _
      | exact bits_Div64.mono _ _ _ _
      | exact LeO.none _
      | refine LeO.ite ?_ ?_
      | refine LeO.bind ?_ (fun _ => ?_)
set_option maxHeartbeats 8000000 in
set_option maxRecDepth 100000 in
theorem real_To.calls (k : Nat) (a0 : Int) (r1 : Nat) (r2 : Int) (w : World) (h : real_To.f k a0 = some (r1, r2)) :
    Calls Try.prog 19 #[.int .i64 a0] w fun e w' => e = .returned (.tuple #[.float .f64 r1, .int .i64 r2]) ∧ Below w.heap.size w w' := by
  have hu53 := Try.underlying53
  have HB := Aside0.mk (Below.refl w.heap.size w)
  have H : ((num_Fits.f a0).bind fun t131 => (if t131 = true then (if a0 = 0 then (some (0, 0)) else ((bits_LeadingZeros64.f (IntKind.u64.wrap (mx a0 (wrap64 (-a0))))).bind fun t132 => ((real_wide_left.f 0 (IntKind.u64.wrap (mx a0 (wrap64 (-a0)))) (wrap64 (74 - (wrap64 (63 - t132))))).bind fun bt133 => ((bits_Div64.f k bt133.1 bt133.2 1000000).bind fun bt136 => ((bits_Len64.f bt136.1).bind fun t138 => (if 0 ≤ (wrap64 (t138 - 53)) then (if 0 ≤ (wrap64 ((wrap64 (t138 - 53)) - 1)) then (if (Go.bits .and .u64 bt136.1 (IntKind.u64.wrap ((shl .u64 1 (wrap64 (t138 - 53))) - 1))) > (shl .u64 1 (wrap64 ((wrap64 (t138 - 53)) - 1))) then (real_To.j0 k a0 (wrap64 (74 - (wrap64 (63 - t132)))) (shr .u64 bt136.1 (wrap64 (t138 - 53))) (wrap64 (t138 - 53)) true) else (if (Go.bits .and .u64 bt136.1 (IntKind.u64.wrap ((shl .u64 1 (wrap64 (t138 - 53))) - 1))) = (shl .u64 1 (wrap64 ((wrap64 (t138 - 53)) - 1))) then (if bt136.2 > 0 then (real_To.j0 k a0 (wrap64 (74 - (wrap64 (63 - t132)))) (shr .u64 bt136.1 (wrap64 (t138 - 53))) (wrap64 (t138 - 53)) true) else (real_To.j0 k a0 (wrap64 (74 - (wrap64 (63 - t132)))) (shr .u64 bt136.1 (wrap64 (t138 - 53))) (wrap64 (t138 - 53)) ((Go.bits .and .u64 (shr .u64 bt136.1 (wrap64 (t138 - 53))) 1) == 1))) else (real_To.j0 k a0 (wrap64 (74 - (wrap64 (63 - t132)))) (shr .u64 bt136.1 (wrap64 (t138 - 53))) (wrap64 (t138 - 53)) false))) else (none)) else (none))))))) else (some (0, 2)))) = some (r1, r2) := h
  clear h
  replace H := Option.bind_eq_some_iff.mp H
  obtain ⟨t131, A20, H⟩ := H
  replace H : (if t131 = true then (if a0 = 0 then (some (0, 0)) else ((bits_LeadingZeros64.f (IntKind.u64.wrap (mx a0 (wrap64 (-a0))))).bind fun t132 => ((real_wide_left.f 0 (IntKind.u64.wrap (mx a0 (wrap64 (-a0)))) (wrap64 (74 - (wrap64 (63 - t132))))).bind fun bt133 => ((bits_Div64.f k bt133.1 bt133.2 1000000).bind fun bt136 => ((bits_Len64.f bt136.1).bind fun t138 => (if 0 ≤ (wrap64 (t138 - 53)) then (if 0 ≤ (wrap64 ((wrap64 (t138 - 53)) - 1)) then (if (Go.bits .and .u64 bt136.1 (IntKind.u64.wrap ((shl .u64 1 (wrap64 (t138 - 53))) - 1))) > (shl .u64 1 (wrap64 ((wrap64 (t138 - 53)) - 1))) then (real_To.j0 k a0 (wrap64 (74 - (wrap64 (63 - t132)))) (shr .u64 bt136.1 (wrap64 (t138 - 53))) (wrap64 (t138 - 53)) true) else (if (Go.bits .and .u64 bt136.1 (IntKind.u64.wrap ((shl .u64 1 (wrap64 (t138 - 53))) - 1))) = (shl .u64 1 (wrap64 ((wrap64 (t138 - 53)) - 1))) then (if bt136.2 > 0 then (real_To.j0 k a0 (wrap64 (74 - (wrap64 (63 - t132)))) (shr .u64 bt136.1 (wrap64 (t138 - 53))) (wrap64 (t138 - 53)) true) else (real_To.j0 k a0 (wrap64 (74 - (wrap64 (63 - t132)))) (shr .u64 bt136.1 (wrap64 (t138 - 53))) (wrap64 (t138 - 53)) ((Go.bits .and .u64 (shr .u64 bt136.1 (wrap64 (t138 - 53))) 1) == 1))) else (real_To.j0 k a0 (wrap64 (74 - (wrap64 (63 - t132)))) (shr .u64 bt136.1 (wrap64 (t138 - 53))) (wrap64 (t138 - 53)) false))) else (none)) else (none))))))) else (some (0, 2))) = some (r1, r2) := H
  have A2 := Aside0.mk A20
  clear A20
  by_cases c3 : t131 = true
  · subst c3
    have H1 : (if a0 = 0 then (some (0, 0)) else ((bits_LeadingZeros64.f (IntKind.u64.wrap (mx a0 (wrap64 (-a0))))).bind fun t132 => ((real_wide_left.f 0 (IntKind.u64.wrap (mx a0 (wrap64 (-a0)))) (wrap64 (74 - (wrap64 (63 - t132))))).bind fun bt133 => ((bits_Div64.f k bt133.1 bt133.2 1000000).bind fun bt136 => ((bits_Len64.f bt136.1).bind fun t138 => (if 0 ≤ (wrap64 (t138 - 53)) then (if 0 ≤ (wrap64 ((wrap64 (t138 - 53)) - 1)) then (if (Go.bits .and .u64 bt136.1 (IntKind.u64.wrap ((shl .u64 1 (wrap64 (t138 - 53))) - 1))) > (shl .u64 1 (wrap64 ((wrap64 (t138 - 53)) - 1))) then (real_To.j0 k a0 (wrap64 (74 - (wrap64 (63 - t132)))) (shr .u64 bt136.1 (wrap64 (t138 - 53))) (wrap64 (t138 - 53)) true) else (if (Go.bits .and .u64 bt136.1 (IntKind.u64.wrap ((shl .u64 1 (wrap64 (t138 - 53))) - 1))) = (shl .u64 1 (wrap64 ((wrap64 (t138 - 53)) - 1))) then (if bt136.2 > 0 then (real_To.j0 k a0 (wrap64 (74 - (wrap64 (63 - t132)))) (shr .u64 bt136.1 (wrap64 (t138 - 53))) (wrap64 (t138 - 53)) true) else (real_To.j0 k a0 (wrap64 (74 - (wrap64 (63 - t132)))) (shr .u64 bt136.1 (wrap64 (t138 - 53))) (wrap64 (t138 - 53)) ((Go.bits .and .u64 (shr .u64 bt136.1 (wrap64 (t138 - 53))) 1) == 1))) else (real_To.j0 k a0 (wrap64 (74 - (wrap64 (63 - t132)))) (shr .u64 bt136.1 (wrap64 (t138 - 53))) (wrap64 (t138 - 53)) false))) else (none)) else (none))))))) = some (r1, r2) := by rw [if_pos rfl] at H; exact H
    clear H
    have H := H1
    clear H1
    by_cases c4 : a0 = 0
    · rw [if_pos c4] at H
      have c4b0 : (a0 == 0) = true := beq_iff_eq.mpr c4
      have c4b1 : (a0 != 0) = false := bne_eq_false_iff_eq.mpr c4
      clear c4
      simp only [Option.some.injEq, Prod.mk.injEq] at H
      obtain ⟨rfl, rfl⟩ := H
      go_enter Try.func19, Try.ntmps19
      go_wp2_with (first | ((with_reducible refine gate_callee (f := 34) rfl ?_); refine goesL_ (some 16) rfl rfl Try.func34 (by kernel_rfl) rfl #[.int .i64 a0] rfl (by (try simp only [List.map_toArray, List.map_cons, List.map_nil]); first | done | rfl | (simp only [List.length_drop, List.length_take]; rfl)) ?_; (with_reducible refine (num_Fits.calls a0 true _ A2.out).mono ?_); rintro e w' ⟨rfl, ⟨nd, rfl⟩⟩; refine ⟨_, rfl, ?_⟩))
      go_ret2
      exact ⟨by first | rfl | (simp [errW_none, errW_some] <;> rfl) | (simp [*, errW_none, errW_some] <;> rfl), by repeat (first | (with_reducible first | exact HB.out | apply below_alloc | apply pw_below_drewN | apply below_drew1) | exact HB.out)⟩
    · rw [if_neg c4] at H
      have c4b0 : (a0 == 0) = false := beq_eq_false_iff_ne.mpr c4
      have c4b1 : (a0 != 0) = true := bne_iff_ne.mpr c4
      obtain ⟨ji5, hji5⟩ : ∃ j_ : Int, (mx a0 (wrap64 (-a0))) = j_ := ⟨_, rfl⟩
      replace H : ((bits_LeadingZeros64.f (IntKind.u64.wrap (ji5))).bind fun t132 => ((real_wide_left.f 0 (IntKind.u64.wrap (ji5)) (wrap64 (74 - (wrap64 (63 - t132))))).bind fun bt133 => ((bits_Div64.f k bt133.1 bt133.2 1000000).bind fun bt136 => ((bits_Len64.f bt136.1).bind fun t138 => (if 0 ≤ (wrap64 (t138 - 53)) then (if 0 ≤ (wrap64 ((wrap64 (t138 - 53)) - 1)) then (if (Go.bits .and .u64 bt136.1 (IntKind.u64.wrap ((shl .u64 1 (wrap64 (t138 - 53))) - 1))) > (shl .u64 1 (wrap64 ((wrap64 (t138 - 53)) - 1))) then (real_To.j0 k a0 (wrap64 (74 - (wrap64 (63 - t132)))) (shr .u64 bt136.1 (wrap64 (t138 - 53))) (wrap64 (t138 - 53)) true) else (if (Go.bits .and .u64 bt136.1 (IntKind.u64.wrap ((shl .u64 1 (wrap64 (t138 - 53))) - 1))) = (shl .u64 1 (wrap64 ((wrap64 (t138 - 53)) - 1))) then (if bt136.2 > 0 then (real_To.j0 k a0 (wrap64 (74 - (wrap64 (63 - t132)))) (shr .u64 bt136.1 (wrap64 (t138 - 53))) (wrap64 (t138 - 53)) true) else (real_To.j0 k a0 (wrap64 (74 - (wrap64 (63 - t132)))) (shr .u64 bt136.1 (wrap64 (t138 - 53))) (wrap64 (t138 - 53)) ((Go.bits .and .u64 (shr .u64 bt136.1 (wrap64 (t138 - 53))) 1) == 1))) else (real_To.j0 k a0 (wrap64 (74 - (wrap64 (63 - t132)))) (shr .u64 bt136.1 (wrap64 (t138 - 53))) (wrap64 (t138 - 53)) false))) else (none)) else (none)))))) = some (r1, r2) := by first | (rw [hji5] at H; exact H) | (simp only [hji5] at H ⊢; exact H)
      (try rw [hji5] at A2)
      have hji5_ : (if a0 < (wrap64 (-a0)) then (wrap64 (-a0)) else a0) = ji5 := hji5
      replace H := Option.bind_eq_some_iff.mp H
      obtain ⟨t132, A60, H⟩ := H
      replace H : ((real_wide_left.f 0 (IntKind.u64.wrap (ji5)) (wrap64 (74 - (wrap64 (63 - t132))))).bind fun bt133 => ((bits_Div64.f k bt133.1 bt133.2 1000000).bind fun bt136 => ((bits_Len64.f bt136.1).bind fun t138 => (if 0 ≤ (wrap64 (t138 - 53)) then (if 0 ≤ (wrap64 ((wrap64 (t138 - 53)) - 1)) then (if (Go.bits .and .u64 bt136.1 (IntKind.u64.wrap ((shl .u64 1 (wrap64 (t138 - 53))) - 1))) > (shl .u64 1 (wrap64 ((wrap64 (t138 - 53)) - 1))) then (real_To.j0 k a0 (wrap64 (74 - (wrap64 (63 - t132)))) (shr .u64 bt136.1 (wrap64 (t138 - 53))) (wrap64 (t138 - 53)) true) else (if (Go.bits .and .u64 bt136.1 (IntKind.u64.wrap ((shl .u64 1 (wrap64 (t138 - 53))) - 1))) = (shl .u64 1 (wrap64 ((wrap64 (t138 - 53)) - 1))) then (if bt136.2 > 0 then (real_To.j0 k a0 (wrap64 (74 - (wrap64 (63 - t132)))) (shr .u64 bt136.1 (wrap64 (t138 - 53))) (wrap64 (t138 - 53)) true) else (real_To.j0 k a0 (wrap64 (74 - (wrap64 (63 - t132)))) (shr .u64 bt136.1 (wrap64 (t138 - 53))) (wrap64 (t138 - 53)) ((Go.bits .and .u64 (shr .u64 bt136.1 (wrap64 (t138 - 53))) 1) == 1))) else (real_To.j0 k a0 (wrap64 (74 - (wrap64 (63 - t132)))) (shr .u64 bt136.1 (wrap64 (t138 - 53))) (wrap64 (t138 - 53)) false))) else (none)) else (none))))) = some (r1, r2) := H
      have A6 := Aside0.mk A60
      clear A60
      replace H := Option.bind_eq_some_iff.mp H
      obtain ⟨⟨t133, t134⟩, A70, H⟩ := H
      replace H : ((bits_Div64.f k t133 t134 1000000).bind fun bt136 => ((bits_Len64.f bt136.1).bind fun t138 => (if 0 ≤ (wrap64 (t138 - 53)) then (if 0 ≤ (wrap64 ((wrap64 (t138 - 53)) - 1)) then (if (Go.bits .and .u64 bt136.1 (IntKind.u64.wrap ((shl .u64 1 (wrap64 (t138 - 53))) - 1))) > (shl .u64 1 (wrap64 ((wrap64 (t138 - 53)) - 1))) then (real_To.j0 k a0 (wrap64 (74 - (wrap64 (63 - t132)))) (shr .u64 bt136.1 (wrap64 (t138 - 53))) (wrap64 (t138 - 53)) true) else (if (Go.bits .and .u64 bt136.1 (IntKind.u64.wrap ((shl .u64 1 (wrap64 (t138 - 53))) - 1))) = (shl .u64 1 (wrap64 ((wrap64 (t138 - 53)) - 1))) then (if bt136.2 > 0 then (real_To.j0 k a0 (wrap64 (74 - (wrap64 (63 - t132)))) (shr .u64 bt136.1 (wrap64 (t138 - 53))) (wrap64 (t138 - 53)) true) else (real_To.j0 k a0 (wrap64 (74 - (wrap64 (63 - t132)))) (shr .u64 bt136.1 (wrap64 (t138 - 53))) (wrap64 (t138 - 53)) ((Go.bits .and .u64 (shr .u64 bt136.1 (wrap64 (t138 - 53))) 1) == 1))) else (real_To.j0 k a0 (wrap64 (74 - (wrap64 (63 - t132)))) (shr .u64 bt136.1 (wrap64 (t138 - 53))) (wrap64 (t138 - 53)) false))) else (none)) else (none)))) = some (r1, r2) := H
      have A7 := Aside0.mk A70
      clear A70
      replace H := Option.bind_eq_some_iff.mp H
      obtain ⟨⟨t136, t137⟩, A80, H⟩ := H
      replace H : ((bits_Len64.f t136).bind fun t138 => (if 0 ≤ (wrap64 (t138 - 53)) then (if 0 ≤ (wrap64 ((wrap64 (t138 - 53)) - 1)) then (if (Go.bits .and .u64 t136 (IntKind.u64.wrap ((shl .u64 1 (wrap64 (t138 - 53))) - 1))) > (shl .u64 1 (wrap64 ((wrap64 (t138 - 53)) - 1))) then (real_To.j0 k a0 (wrap64 (74 - (wrap64 (63 - t132)))) (shr .u64 t136 (wrap64 (t138 - 53))) (wrap64 (t138 - 53)) true) else (if (Go.bits .and .u64 t136 (IntKind.u64.wrap ((shl .u64 1 (wrap64 (t138 - 53))) - 1))) = (shl .u64 1 (wrap64 ((wrap64 (t138 - 53)) - 1))) then (if t137 > 0 then (real_To.j0 k a0 (wrap64 (74 - (wrap64 (63 - t132)))) (shr .u64 t136 (wrap64 (t138 - 53))) (wrap64 (t138 - 53)) true) else (real_To.j0 k a0 (wrap64 (74 - (wrap64 (63 - t132)))) (shr .u64 t136 (wrap64 (t138 - 53))) (wrap64 (t138 - 53)) ((Go.bits .and .u64 (shr .u64 t136 (wrap64 (t138 - 53))) 1) == 1))) else (real_To.j0 k a0 (wrap64 (74 - (wrap64 (63 - t132)))) (shr .u64 t136 (wrap64 (t138 - 53))) (wrap64 (t138 - 53)) false))) else (none)) else (none))) = some (r1, r2) := H
      have A8 := Aside0.mk A80
      clear A80
      replace H := Option.bind_eq_some_iff.mp H
      obtain ⟨t138, A90, H⟩ := H
      replace H : (if 0 ≤ (wrap64 (t138 - 53)) then (if 0 ≤ (wrap64 ((wrap64 (t138 - 53)) - 1)) then (if (Go.bits .and .u64 t136 (IntKind.u64.wrap ((shl .u64 1 (wrap64 (t138 - 53))) - 1))) > (shl .u64 1 (wrap64 ((wrap64 (t138 - 53)) - 1))) then (real_To.j0 k a0 (wrap64 (74 - (wrap64 (63 - t132)))) (shr .u64 t136 (wrap64 (t138 - 53))) (wrap64 (t138 - 53)) true) else (if (Go.bits .and .u64 t136 (IntKind.u64.wrap ((shl .u64 1 (wrap64 (t138 - 53))) - 1))) = (shl .u64 1 (wrap64 ((wrap64 (t138 - 53)) - 1))) then (if t137 > 0 then (real_To.j0 k a0 (wrap64 (74 - (wrap64 (63 - t132)))) (shr .u64 t136 (wrap64 (t138 - 53))) (wrap64 (t138 - 53)) true) else (real_To.j0 k a0 (wrap64 (74 - (wrap64 (63 - t132)))) (shr .u64 t136 (wrap64 (t138 - 53))) (wrap64 (t138 - 53)) ((Go.bits .and .u64 (shr .u64 t136 (wrap64 (t138 - 53))) 1) == 1))) else (real_To.j0 k a0 (wrap64 (74 - (wrap64 (63 - t132)))) (shr .u64 t136 (wrap64 (t138 - 53))) (wrap64 (t138 - 53)) false))) else (none)) else (none)) = some (r1, r2) := H
      have A9 := Aside0.mk A90
      clear A90
      obtain ⟨ji10, hji10⟩ : ∃ j_ : Int, (wrap64 (t138 - 53)) = j_ := ⟨_, rfl⟩
      replace H : (if 0 ≤ (ji10) then (if 0 ≤ (wrap64 ((ji10) - 1)) then (if (Go.bits .and .u64 t136 (IntKind.u64.wrap ((shl .u64 1 (ji10)) - 1))) > (shl .u64 1 (wrap64 ((ji10) - 1))) then (real_To.j0 k a0 (wrap64 (74 - (wrap64 (63 - t132)))) (shr .u64 t136 (ji10)) ji10 true) else (if (Go.bits .and .u64 t136 (IntKind.u64.wrap ((shl .u64 1 (ji10)) - 1))) = (shl .u64 1 (wrap64 ((ji10) - 1))) then (if t137 > 0 then (real_To.j0 k a0 (wrap64 (74 - (wrap64 (63 - t132)))) (shr .u64 t136 (ji10)) ji10 true) else (real_To.j0 k a0 (wrap64 (74 - (wrap64 (63 - t132)))) (shr .u64 t136 (ji10)) ji10 ((Go.bits .and .u64 (shr .u64 t136 (ji10)) 1) == 1))) else (real_To.j0 k a0 (wrap64 (74 - (wrap64 (63 - t132)))) (shr .u64 t136 (ji10)) ji10 false))) else (none)) else (none)) = some (r1, r2) := by first | (rw [hji10] at H; exact H) | (simp only [hji10] at H ⊢; exact H)
      (try rw [hji10] at A2)
      (try rw [hji10] at A6)
      (try rw [hji10] at A7)
      (try rw [hji10] at A8)
      (try rw [hji10] at A9)
      have hji10w : (IntKind.i64.wrap (t138 - 53)) = ji10 := (i64_w _).trans hji10
      by_cases c11 : 0 ≤ (ji10)
      · rw [if_pos c11] at H
        have c11b0 := eq_true c11
        have c11b1 : decide (0 ≤ (ji10)) = true := decide_eq_true c11
        clear c11
        obtain ⟨ji12, hji12⟩ : ∃ j_ : Int, (shl .u64 1 (ji10)) = j_ := ⟨_, rfl⟩
        replace H : (if 0 ≤ (wrap64 ((ji10) - 1)) then (if (Go.bits .and .u64 t136 (IntKind.u64.wrap ((ji12) - 1))) > (shl .u64 1 (wrap64 ((ji10) - 1))) then (real_To.j0 k a0 (wrap64 (74 - (wrap64 (63 - t132)))) (shr .u64 t136 (ji10)) ji10 true) else (if (Go.bits .and .u64 t136 (IntKind.u64.wrap ((ji12) - 1))) = (shl .u64 1 (wrap64 ((ji10) - 1))) then (if t137 > 0 then (real_To.j0 k a0 (wrap64 (74 - (wrap64 (63 - t132)))) (shr .u64 t136 (ji10)) ji10 true) else (real_To.j0 k a0 (wrap64 (74 - (wrap64 (63 - t132)))) (shr .u64 t136 (ji10)) ji10 ((Go.bits .and .u64 (shr .u64 t136 (ji10)) 1) == 1))) else (real_To.j0 k a0 (wrap64 (74 - (wrap64 (63 - t132)))) (shr .u64 t136 (ji10)) ji10 false))) else (none)) = some (r1, r2) := by first | (rw [hji12] at H; exact H) | (simp only [hji12] at H ⊢; exact H)
        (try rw [hji12] at A2)
        (try rw [hji12] at A6)
        (try rw [hji12] at A7)
        (try rw [hji12] at A8)
        (try rw [hji12] at A9)
        have hji12_ : (IntKind.u64.wrap (1 * 2 ^ min (ji10).toNat 64)) = ji12 := hji12
        have hji12z : (ji10) ≤ 64 → (IntKind.u64.wrap (1 * 2 ^ (ji10).toNat)) = ji12 := shl_small hji12
        have hji12u : (IntKind.u64.wrap (2 ^ min (ji10).toNat 64)) = ji12 := by have h_ := hji12_; rw [Int.one_mul] at h_; exact h_
        have hji12v : (ji10) ≤ 64 → (IntKind.u64.wrap (2 ^ (ji10).toNat)) = ji12 := fun hle_ => by have h_ := hji12z hle_; rw [Int.one_mul] at h_; exact h_
        have c13b0 := eq_true (of_decide_eq_true (by first | (with_reducible assumption) | assumption) : 0 ≤ (ji10))
        obtain ⟨ji14, hji14⟩ : ∃ j_ : Int, (shr .u64 t136 (ji10)) = j_ := ⟨_, rfl⟩
        replace H : (if 0 ≤ (wrap64 ((ji10) - 1)) then (if (Go.bits .and .u64 t136 (IntKind.u64.wrap ((ji12) - 1))) > (shl .u64 1 (wrap64 ((ji10) - 1))) then (real_To.j0 k a0 (wrap64 (74 - (wrap64 (63 - t132)))) ji14 ji10 true) else (if (Go.bits .and .u64 t136 (IntKind.u64.wrap ((ji12) - 1))) = (shl .u64 1 (wrap64 ((ji10) - 1))) then (if t137 > 0 then (real_To.j0 k a0 (wrap64 (74 - (wrap64 (63 - t132)))) ji14 ji10 true) else (real_To.j0 k a0 (wrap64 (74 - (wrap64 (63 - t132)))) ji14 ji10 ((Go.bits .and .u64 (ji14) 1) == 1))) else (real_To.j0 k a0 (wrap64 (74 - (wrap64 (63 - t132)))) ji14 ji10 false))) else (none)) = some (r1, r2) := by first | (rw [hji14] at H; exact H) | (simp only [hji14] at H ⊢; exact H)
        (try rw [hji14] at A2)
        (try rw [hji14] at A6)
        (try rw [hji14] at A7)
        (try rw [hji14] at A8)
        (try rw [hji14] at A9)
        have hji14_ : (t136 / 2 ^ min (ji10).toNat 64) = ji14 := hji14
        have hji14z : (ji10) ≤ 64 → (t136 / 2 ^ (ji10).toNat) = ji14 := shr_small hji14
        obtain ⟨ji15, hji15⟩ : ∃ j_ : Int, (wrap64 ((ji10) - 1)) = j_ := ⟨_, rfl⟩
        replace H : (if 0 ≤ (ji15) then (if (Go.bits .and .u64 t136 (IntKind.u64.wrap ((ji12) - 1))) > (shl .u64 1 (ji15)) then (real_To.j0 k a0 (wrap64 (74 - (wrap64 (63 - t132)))) ji14 ji10 true) else (if (Go.bits .and .u64 t136 (IntKind.u64.wrap ((ji12) - 1))) = (shl .u64 1 (ji15)) then (if t137 > 0 then (real_To.j0 k a0 (wrap64 (74 - (wrap64 (63 - t132)))) ji14 ji10 true) else (real_To.j0 k a0 (wrap64 (74 - (wrap64 (63 - t132)))) ji14 ji10 ((Go.bits .and .u64 (ji14) 1) == 1))) else (real_To.j0 k a0 (wrap64 (74 - (wrap64 (63 - t132)))) ji14 ji10 false))) else (none)) = some (r1, r2) := by first | (rw [hji15] at H; exact H) | (simp only [hji15] at H ⊢; exact H)
        (try rw [hji15] at A2)
        (try rw [hji15] at A6)
        (try rw [hji15] at A7)
        (try rw [hji15] at A8)
        (try rw [hji15] at A9)
        have hji15w : (IntKind.i64.wrap ((ji10) - 1)) = ji15 := (i64_w _).trans hji15
        by_cases c16 : 0 ≤ (ji15)
        · rw [if_pos c16] at H
          have c16b0 := eq_true c16
          have c16b1 : decide (0 ≤ (ji15)) = true := decide_eq_true c16
          clear c16
          obtain ⟨ji17, hji17⟩ : ∃ j_ : Int, (shl .u64 1 (ji15)) = j_ := ⟨_, rfl⟩
          replace H : (if (Go.bits .and .u64 t136 (IntKind.u64.wrap ((ji12) - 1))) > (ji17) then (real_To.j0 k a0 (wrap64 (74 - (wrap64 (63 - t132)))) ji14 ji10 true) else (if (Go.bits .and .u64 t136 (IntKind.u64.wrap ((ji12) - 1))) = (ji17) then (if t137 > 0 then (real_To.j0 k a0 (wrap64 (74 - (wrap64 (63 - t132)))) ji14 ji10 true) else (real_To.j0 k a0 (wrap64 (74 - (wrap64 (63 - t132)))) ji14 ji10 ((Go.bits .and .u64 (ji14) 1) == 1))) else (real_To.j0 k a0 (wrap64 (74 - (wrap64 (63 - t132)))) ji14 ji10 false))) = some (r1, r2) := by first | (rw [hji17] at H; exact H) | (simp only [hji17] at H ⊢; exact H)
          (try rw [hji17] at A2)
          (try rw [hji17] at A6)
          (try rw [hji17] at A7)
          (try rw [hji17] at A8)
          (try rw [hji17] at A9)
          have hji17_ : (IntKind.u64.wrap (1 * 2 ^ min (ji15).toNat 64)) = ji17 := hji17
          have hji17z : (ji15) ≤ 64 → (IntKind.u64.wrap (1 * 2 ^ (ji15).toNat)) = ji17 := shl_small hji17
          have hji17u : (IntKind.u64.wrap (2 ^ min (ji15).toNat 64)) = ji17 := by have h_ := hji17_; rw [Int.one_mul] at h_; exact h_
          have hji17v : (ji15) ≤ 64 → (IntKind.u64.wrap (2 ^ (ji15).toNat)) = ji17 := fun hle_ => by have h_ := hji17z hle_; rw [Int.one_mul] at h_; exact h_
          have HC18 := Aside0.mk H
          clear H
          go_enter Try.func19, Try.ntmps19
          go_upto_region 14 with (first | ((with_reducible refine gate_callee (f := 34) rfl ?_); refine goesL_ (some 16) rfl rfl Try.func34 (by kernel_rfl) rfl #[.int .i64 a0] rfl (by (try simp only [List.map_toArray, List.map_cons, List.map_nil]); first | done | rfl | (simp only [List.length_drop, List.length_take]; rfl)) ?_; (with_reducible refine (num_Fits.calls a0 true _ A2.out).mono ?_); rintro e w' ⟨rfl, ⟨nd, rfl⟩⟩; refine ⟨_, rfl, ?_⟩) | ((with_reducible refine gate_callee (f := 35) rfl ?_); refine goesL_ (some 27) rfl rfl Try.func35 (by kernel_rfl) rfl #[.int .u64 (IntKind.u64.wrap (ji5))] rfl (by (try simp only [List.map_toArray, List.map_cons, List.map_nil]); first | done | (simp only [hji5]; rfl) | rfl | (simp only [List.length_drop, List.length_take]; rfl)) ?_; (with_reducible refine (bits_LeadingZeros64.calls (IntKind.u64.wrap (ji5)) t132 _ A6.out).mono ?_); rintro e w' ⟨rfl, ⟨nd, rfl⟩⟩; refine ⟨_, rfl, ?_⟩) | ((with_reducible refine gate_callee (f := 31) rfl ?_); refine goesL_ (some 34) rfl rfl Try.func31 (by kernel_rfl) rfl #[.agg #[.int .u64 0, .int .u64 (IntKind.u64.wrap (ji5))], .int .i64 (wrap64 (74 - (wrap64 (63 - t132))))] rfl (by (try simp only [List.map_toArray, List.map_cons, List.map_nil]); first | done | (simp only [hji5]; rfl) | rfl | (simp only [List.length_drop, List.length_take]; rfl)) ?_; (with_reducible refine (real_wide_left.calls 0 (IntKind.u64.wrap (ji5)) (wrap64 (74 - (wrap64 (63 - t132)))) t133 t134 _ A7.out).mono ?_); rintro e w19 ⟨rfl, hb⟩; refine ⟨_, rfl, ?_⟩; have n0_ := Aside0.mk (below_step (by repeat (first | (with_reducible first | exact HB.out | apply below_alloc | apply pw_below_drewN | apply below_drew1) | exact HB.out)) hb); clear HB; have HB := n0_; clear n0_; (try clear hb); (try clear hb2); (try clear hk); (try clear hi)) | ((with_reducible refine gate_dst (N := 7) rfl ?_); refine box_event ?hg (N := 7) ?hd (cs := #[.int .u64 0, .int .u64 0]) (t := 53) ?hr ?_; (case hd => rfl); (case hg => rfl); (case hr => first | (go_simp; done) | (go_simp; rfl)); intro gb135 hg w20 hbox hb; have n0_ := Aside0.mk (below_step (by repeat (first | (with_reducible first | exact HB.out | apply below_alloc | apply pw_below_drewN | apply below_drew1) | exact HB.out)) hb); have n1_ := Aside0.mk (hbox); have n2_ := Aside0.mk ((by rw [hg]; exact (below_size (by repeat (first | (with_reducible first | exact HB.out | apply below_alloc | apply pw_below_drewN | apply below_drew1) | exact HB.out))) : w.heap.size ≤ gb135)); have n3_ := Aside0.mk ((by rw [hg]; exact (below_size (by repeat (first | (with_reducible first | exact HB.out | apply below_alloc | apply pw_below_drewN | apply below_drew1) | exact HB.out))) : w.heap.size ≤ gb135)); clear HB; have HB := n0_; have BK135 := n1_; have GW135 := n2_; have GE135 := n3_; clear n0_ n1_ n2_ n3_; clear hb hbox hg; have hcz21_0 : w20.cell? ⟨gb135, 0, none⟩ = some (.int .u64 0) := (blk_cell BK135.out 0).trans rfl; have hcz21_1 : w20.cell? ⟨gb135, 1, none⟩ = some (.int .u64 0) := (blk_cell BK135.out 1).trans rfl; have hfz21_0 := blk_frozen BK135.out 0; have hfz21_1 := blk_frozen BK135.out 1) | ((with_reducible refine gate_callee (f := 36) rfl ?_); refine goesL_ (some 40) rfl rfl Try.func36 (by kernel_rfl) rfl #[.int .u64 t133, .int .u64 t134, .int .u64 1000000] rfl (by (try simp only [List.map_toArray, List.map_cons, List.map_nil]); first | done | rfl | (simp only [List.length_drop, List.length_take]; rfl)) ?_; (with_reducible refine (bits_Div64.calls k t133 t134 1000000 t136 t137 _ A8.out).mono ?_); rintro e w' ⟨rfl, ⟨nd, rfl⟩⟩; refine ⟨_, rfl, ?_⟩) | ((with_reducible refine gate_callee (f := 37) rfl ?_); refine goesL_ (some 44) rfl rfl Try.func37 (by kernel_rfl) rfl #[.int .u64 t136] rfl (by (try simp only [List.map_toArray, List.map_cons, List.map_nil]); first | done | rfl | (simp only [List.length_drop, List.length_take]; rfl)) ?_; (with_reducible refine (bits_Len64.calls t136 t138 _ A9.out).mono ?_); rintro e w' ⟨rfl, ⟨nd, rfl⟩⟩; refine ⟨_, rfl, ?_⟩))
          (try simp only [Act.put, List.setIfInBounds_toArray, List.set_cons_zero, List.set_cons_succ])
          go_cut [73] (fun v73 wc => ∃ (kq : Nat) (x73_17 : Bool), v73 = .bool x73_17 ∧ Aside0 (real_To.j0 kq a0 (wrap64 (74 - (wrap64 (63 - t132)))) ji14 ji10 x73_17 = some (r1, r2)) ∧ Aside0 (kq ≤ k) ∧ Aside0 (wc.heap[gb135]? = some (.cells #[.int .u64 t133, .int .u64 t134] 53 (0, 0))) ∧ Aside0 (Below w.heap.size w wc))
          case first =>
            have H := HC18.out
            clear HC18
            by_cases c22 : (Go.bits .and .u64 t136 (IntKind.u64.wrap ((ji12) - 1))) > (ji17)
            · rw [if_pos c22] at H
              have c22b0 : decide ((ji17) < (Go.bits .and .u64 t136 (IntKind.u64.wrap ((ji12) - 1)))) = true := decide_eq_true c22
              clear c22
              (first | rw [c22b0] | (simp only [i64_w, i32_w]; rw [c22b0]) | skip)
              have H' := Aside0.mk H
              clear H
              go_wp2
              go_meet
              case rel => exact ⟨_, (true), (by first | rfl | (simp; done) | (simp [*]; done)), H', ⟨by first | omega | exact Nat.le_refl _⟩, ⟨by (with_reducible repeat (first | refine blk_drewN ?_ _ | refine blk_drew ?_ | refine blk_alloc ?_ _)); refine blk_put (cs := #[.int .u64 t133, .int .u64 0]) ?_ 1 _ rfl; (with_reducible repeat (first | refine blk_drewN ?_ _ | refine blk_drew ?_ | refine blk_alloc ?_ _)); refine blk_put (cs := #[.int .u64 0, .int .u64 0]) ?_ 0 _ rfl; (with_reducible repeat (first | refine blk_drewN ?_ _ | refine blk_drew ?_ | refine blk_alloc ?_ _)); exact BK135.out⟩, ⟨by repeat (first | (with_reducible first | exact HB.out | apply below_alloc | apply pw_below_drewN | apply below_drew1 | refine below_set ?_ GE135.out) | exact HB.out)⟩⟩
            · rw [if_neg c22] at H
              have c22b0 : decide ((ji17) < (Go.bits .and .u64 t136 (IntKind.u64.wrap ((ji12) - 1)))) = false := decide_eq_false c22
              clear c22
              (first | rw [c22b0] | (simp only [i64_w, i32_w]; rw [c22b0]) | skip)
              by_cases c23 : (Go.bits .and .u64 t136 (IntKind.u64.wrap ((ji12) - 1))) = (ji17)
              · rw [if_pos c23] at H
                have c23b0 : ((Go.bits .and .u64 t136 (IntKind.u64.wrap ((ji12) - 1))) == (ji17)) = true := beq_iff_eq.mpr c23
                have c23b1 : ((Go.bits .and .u64 t136 (IntKind.u64.wrap ((ji12) - 1))) != (ji17)) = false := bne_eq_false_iff_eq.mpr c23
                clear c23
                by_cases c24 : t137 > 0
                · rw [if_pos c24] at H
                  have c24b0 : decide (0 < t137) = true := decide_eq_true c24
                  clear c24
                  have H' := Aside0.mk H
                  clear H
                  go_wp2
                  go_meet
                  case rel => exact ⟨_, (true), (by first | rfl | (simp; done) | (simp [*]; done)), H', ⟨by first | omega | exact Nat.le_refl _⟩, ⟨by (with_reducible repeat (first | refine blk_drewN ?_ _ | refine blk_drew ?_ | refine blk_alloc ?_ _)); refine blk_put (cs := #[.int .u64 t133, .int .u64 0]) ?_ 1 _ rfl; (with_reducible repeat (first | refine blk_drewN ?_ _ | refine blk_drew ?_ | refine blk_alloc ?_ _)); refine blk_put (cs := #[.int .u64 0, .int .u64 0]) ?_ 0 _ rfl; (with_reducible repeat (first | refine blk_drewN ?_ _ | refine blk_drew ?_ | refine blk_alloc ?_ _)); exact BK135.out⟩, ⟨by repeat (first | (with_reducible first | exact HB.out | apply below_alloc | apply pw_below_drewN | apply below_drew1 | refine below_set ?_ GE135.out) | exact HB.out)⟩⟩
                · rw [if_neg c24] at H
                  have c24b0 : decide (0 < t137) = false := decide_eq_false c24
                  clear c24
                  have H' := Aside0.mk H
                  clear H
                  go_wp2
                  go_meet
                  case rel => exact ⟨_, (((Go.bits .and .u64 (ji14) 1) == 1)), (by first | rfl | (simp; done) | (simp only [← hji14] <;> (first | rfl | simp)) | (simp [*]; done)), H', ⟨by first | omega | exact Nat.le_refl _⟩, ⟨by (with_reducible repeat (first | refine blk_drewN ?_ _ | refine blk_drew ?_ | refine blk_alloc ?_ _)); refine blk_put (cs := #[.int .u64 t133, .int .u64 0]) ?_ 1 _ rfl; (with_reducible repeat (first | refine blk_drewN ?_ _ | refine blk_drew ?_ | refine blk_alloc ?_ _)); refine blk_put (cs := #[.int .u64 0, .int .u64 0]) ?_ 0 _ rfl; (with_reducible repeat (first | refine blk_drewN ?_ _ | refine blk_drew ?_ | refine blk_alloc ?_ _)); exact BK135.out⟩, ⟨by repeat (first | (with_reducible first | exact HB.out | apply below_alloc | apply pw_below_drewN | apply below_drew1 | refine below_set ?_ GE135.out) | exact HB.out)⟩⟩
              · rw [if_neg c23] at H
                have c23b0 : ((Go.bits .and .u64 t136 (IntKind.u64.wrap ((ji12) - 1))) == (ji17)) = false := beq_eq_false_iff_ne.mpr c23
                have c23b1 : ((Go.bits .and .u64 t136 (IntKind.u64.wrap ((ji12) - 1))) != (ji17)) = true := bne_iff_ne.mpr c23
                have H' := Aside0.mk H
                clear H
                go_wp2
                go_meet
                case rel => exact ⟨_, (false), (by first | rfl | (simp; done) | (simp [*]; done)), H', ⟨by first | omega | exact Nat.le_refl _⟩, ⟨by (with_reducible repeat (first | refine blk_drewN ?_ _ | refine blk_drew ?_ | refine blk_alloc ?_ _)); refine blk_put (cs := #[.int .u64 t133, .int .u64 0]) ?_ 1 _ rfl; (with_reducible repeat (first | refine blk_drewN ?_ _ | refine blk_drew ?_ | refine blk_alloc ?_ _)); refine blk_put (cs := #[.int .u64 0, .int .u64 0]) ?_ 0 _ rfl; (with_reducible repeat (first | refine blk_drewN ?_ _ | refine blk_drew ?_ | refine blk_alloc ?_ _)); exact BK135.out⟩, ⟨by repeat (first | (with_reducible first | exact HB.out | apply below_alloc | apply pw_below_drewN | apply below_drew1 | refine below_set ?_ GE135.out) | exact HB.out)⟩⟩
          case rest =>
            clear HC18
            try clear c1
            try clear c2
            try clear p2
            try clear c3
            try clear c4
            try clear c4b0
            try clear c4b1
            try clear p6
            try clear c11
            try clear c11b0
            try clear c11b1
            try clear c13
            try clear c13b0
            try clear c16
            try clear c16b0
            try clear c16b1
            try clear c19
            try clear c22
            try clear c22b0
            try clear c23
            try clear c23b0
            try clear c23b1
            try clear c24
            try clear c24b0
            try clear hcz21_0
            try clear hcz21_1
            try clear hfz21_0
            try clear hfz21_1
            obtain ⟨kq, x73_17, rfl, HA, HJ17, BK135, HB⟩ := hcut
            cases kq with
            | zero => exact absurd HA.out (by simp [real_To.j0])
            | succ kj17 =>
              have H := HA.out
              clear HA
              simp only [real_To.j0] at H
              by_cases c25 : x73_17 = true
              · subst c25
                have H1 : ((math_Ldexp.f (foni (IntKind.u64.wrap (ji14 + 1))) (wrap64 (ji10 - (wrap64 (74 - (wrap64 (63 - t132))))))).bind fun t139 => (if a0 < 0 then (some (fneg t139, 0)) else (some (t139, 0)))) = some (r1, r2) := by rw [if_pos rfl] at H; exact H
                clear H
                have H := H1
                clear H1
                replace H := Option.bind_eq_some_iff.mp H
                obtain ⟨t139, A260, H⟩ := H
                replace H : (if a0 < 0 then (some (fneg t139, 0)) else (some (t139, 0))) = some (r1, r2) := H
                have A26 := Aside0.mk A260
                clear A260
                by_cases c27 : a0 < 0
                · rw [if_pos c27] at H
                  have c27b0 : decide (a0 < 0) = true := decide_eq_true c27
                  clear c27
                  simp only [Option.some.injEq, Prod.mk.injEq] at H
                  obtain ⟨rfl, rfl⟩ := H
                  go_wp2_with (first | ((with_reducible refine gate_callee (f := 38) rfl ?_); refine goesL_ (some 81) rfl rfl Try.func38 (by kernel_rfl) rfl #[.float .f64 (foni (IntKind.u64.wrap (ji14 + 1))), .int .i64 (wrap64 (ji10 - (wrap64 (74 - (wrap64 (63 - t132))))))] rfl (by (try simp only [List.map_toArray, List.map_cons, List.map_nil]); first | done | (simp only [hji10, hji14]; rfl) | rfl | (simp only [List.length_drop, List.length_take]; rfl)) ?_; (with_reducible refine (math_Ldexp.calls (foni (IntKind.u64.wrap (ji14 + 1))) (wrap64 (ji10 - (wrap64 (74 - (wrap64 (63 - t132)))))) t139 _ A26.out).mono ?_); rintro e w' ⟨rfl, ⟨nd, rfl⟩⟩; refine ⟨_, rfl, ?_⟩))
                  go_ret2
                  exact ⟨by first | rfl | (simp [errW_none, errW_some] <;> rfl) | (simp only [← hji5, ← hji10, ← hji12, ← hji14, ← hji15, ← hji17]; first | rfl | (simp [errW_none, errW_some] <;> rfl)) | (simp [*, errW_none, errW_some] <;> rfl), by repeat (first | (with_reducible first | exact HB.out | apply below_alloc | apply pw_below_drewN | apply below_drew1 | refine below_set ?_ GE135.out) | exact HB.out)⟩
                · rw [if_neg c27] at H
                  have c27b0 : decide (a0 < 0) = false := decide_eq_false c27
                  clear c27
                  simp only [Option.some.injEq, Prod.mk.injEq] at H
                  obtain ⟨rfl, rfl⟩ := H
                  go_wp2_with (first | ((with_reducible refine gate_callee (f := 38) rfl ?_); refine goesL_ (some 81) rfl rfl Try.func38 (by kernel_rfl) rfl #[.float .f64 (foni (IntKind.u64.wrap (ji14 + 1))), .int .i64 (wrap64 (ji10 - (wrap64 (74 - (wrap64 (63 - t132))))))] rfl (by (try simp only [List.map_toArray, List.map_cons, List.map_nil]); first | done | (simp only [hji10, hji14]; rfl) | rfl | (simp only [List.length_drop, List.length_take]; rfl)) ?_; (with_reducible refine (math_Ldexp.calls (foni (IntKind.u64.wrap (ji14 + 1))) (wrap64 (ji10 - (wrap64 (74 - (wrap64 (63 - t132)))))) t139 _ A26.out).mono ?_); rintro e w' ⟨rfl, ⟨nd, rfl⟩⟩; refine ⟨_, rfl, ?_⟩))
                  go_ret2
                  exact ⟨by first | rfl | (simp [errW_none, errW_some] <;> rfl) | (simp only [← hji5, ← hji10, ← hji12, ← hji14, ← hji15, ← hji17]; first | rfl | (simp [errW_none, errW_some] <;> rfl)) | (simp [*, errW_none, errW_some] <;> rfl), by repeat (first | (with_reducible first | exact HB.out | apply below_alloc | apply pw_below_drewN | apply below_drew1 | refine below_set ?_ GE135.out) | exact HB.out)⟩
              · replace c25 := Bool.eq_false_iff.mpr c25
                subst c25
                have H1 : ((math_Ldexp.f (foni ji14) (wrap64 (ji10 - (wrap64 (74 - (wrap64 (63 - t132))))))).bind fun t140 => (if a0 < 0 then (some (fneg t140, 0)) else (some (t140, 0)))) = some (r1, r2) := by rw [if_neg (show ¬ (false = true) by decide)] at H; exact H
                clear H
                have H := H1
                clear H1
                replace H := Option.bind_eq_some_iff.mp H
                obtain ⟨t140, A280, H⟩ := H
                replace H : (if a0 < 0 then (some (fneg t140, 0)) else (some (t140, 0))) = some (r1, r2) := H
                have A28 := Aside0.mk A280
                clear A280
                by_cases c29 : a0 < 0
                · rw [if_pos c29] at H
                  have c29b0 : decide (a0 < 0) = true := decide_eq_true c29
                  clear c29
                  simp only [Option.some.injEq, Prod.mk.injEq] at H
                  obtain ⟨rfl, rfl⟩ := H
                  go_wp2_with (first | ((with_reducible refine gate_callee (f := 38) rfl ?_); refine goesL_ (some 81) rfl rfl Try.func38 (by kernel_rfl) rfl #[.float .f64 (foni ji14), .int .i64 (wrap64 (ji10 - (wrap64 (74 - (wrap64 (63 - t132))))))] rfl (by (try simp only [List.map_toArray, List.map_cons, List.map_nil]); first | done | (simp only [hji10, hji14]; rfl) | rfl | (simp only [List.length_drop, List.length_take]; rfl)) ?_; (with_reducible refine (math_Ldexp.calls (foni ji14) (wrap64 (ji10 - (wrap64 (74 - (wrap64 (63 - t132)))))) t140 _ A28.out).mono ?_); rintro e w' ⟨rfl, ⟨nd, rfl⟩⟩; refine ⟨_, rfl, ?_⟩))
                  go_ret2
                  exact ⟨by first | rfl | (simp [errW_none, errW_some] <;> rfl) | (simp only [← hji5, ← hji10, ← hji12, ← hji14, ← hji15, ← hji17]; first | rfl | (simp [errW_none, errW_some] <;> rfl)) | (simp [*, errW_none, errW_some] <;> rfl), by repeat (first | (with_reducible first | exact HB.out | apply below_alloc | apply pw_below_drewN | apply below_drew1 | refine below_set ?_ GE135.out) | exact HB.out)⟩
                · rw [if_neg c29] at H
                  have c29b0 : decide (a0 < 0) = false := decide_eq_false c29
                  clear c29
                  simp only [Option.some.injEq, Prod.mk.injEq] at H
                  obtain ⟨rfl, rfl⟩ := H
                  go_wp2_with (first | ((with_reducible refine gate_callee (f := 38) rfl ?_); refine goesL_ (some 81) rfl rfl Try.func38 (by kernel_rfl) rfl #[.float .f64 (foni ji14), .int .i64 (wrap64 (ji10 - (wrap64 (74 - (wrap64 (63 - t132))))))] rfl (by (try simp only [List.map_toArray, List.map_cons, List.map_nil]); first | done | (simp only [hji10, hji14]; rfl) | rfl | (simp only [List.length_drop, List.length_take]; rfl)) ?_; (with_reducible refine (math_Ldexp.calls (foni ji14) (wrap64 (ji10 - (wrap64 (74 - (wrap64 (63 - t132)))))) t140 _ A28.out).mono ?_); rintro e w' ⟨rfl, ⟨nd, rfl⟩⟩; refine ⟨_, rfl, ?_⟩))
                  go_ret2
                  exact ⟨by first | rfl | (simp [errW_none, errW_some] <;> rfl) | (simp only [← hji5, ← hji10, ← hji12, ← hji14, ← hji15, ← hji17]; first | rfl | (simp [errW_none, errW_some] <;> rfl)) | (simp [*, errW_none, errW_some] <;> rfl), by repeat (first | (with_reducible first | exact HB.out | apply below_alloc | apply pw_below_drewN | apply below_drew1 | refine below_set ?_ GE135.out) | exact HB.out)⟩
        · rw [if_neg c16] at H
          exact absurd H (by simp)
      · rw [if_neg c11] at H
        exact absurd H (by simp)
  · replace c3 := Bool.eq_false_iff.mpr c3
    subst c3
    have H1 : (some (0, 2)) = some (r1, r2) := by rw [if_neg (show ¬ (false = true) by decide)] at H; exact H
    clear H
    have H := H1
    clear H1
    simp only [Option.some.injEq, Prod.mk.injEq] at H
    obtain ⟨rfl, rfl⟩ := H
    go_enter Try.func19, Try.ntmps19
    go_wp2_with (first | ((with_reducible refine gate_callee (f := 34) rfl ?_); refine goesL_ (some 16) rfl rfl Try.func34 (by kernel_rfl) rfl #[.int .i64 a0] rfl (by (try simp only [List.map_toArray, List.map_cons, List.map_nil]); first | done | rfl | (simp only [List.length_drop, List.length_take]; rfl)) ?_; (with_reducible refine (num_Fits.calls a0 false _ A2.out).mono ?_); rintro e w' ⟨rfl, ⟨nd, rfl⟩⟩; refine ⟨_, rfl, ?_⟩))
    go_ret2
    exact ⟨by first | rfl | (simp [errW_none, errW_some] <;> rfl) | (simp [*, errW_none, errW_some] <;> rfl), by repeat (first | (with_reducible first | exact HB.out | apply below_alloc | apply pw_below_drewN | apply below_drew1) | exact HB.out)⟩

/-! ### foolscaplaw02_bits: function 21 -/
def foolscaplaw02_bits.f (a0 : Nat) : Option (Int) := some (a0 : Int)
set_option maxHeartbeats 8000000 in
set_option maxRecDepth 100000 in
theorem foolscaplaw02_bits.calls (a0 : Nat) (r : Int) (w : World) (h : foolscaplaw02_bits.f a0 = some r) :
    Calls Try.prog 21 #[.float .f64 a0] w fun e w' => e = .returned (.int .u64 r) ∧ Drawn0 w w' := by
  have hent_fbits := hent_fbits
  have H : (some (a0 : Int)) = some r := h
  clear h
  obtain rfl := Option.some.inj H
  go_enter Try.func21, Try.ntmps21
  go_wp2
  go_ret
  exact ⟨by first | rfl | (simp; done) | (simp [*]; done), by repeat (first | exact Drawn0.refl _ | apply Drawn0.step)⟩

/-! ### real_Next: function 22 -/
def real_Next.j0 : Nat → Nat → Int → Bool → Option (Nat × Int)
  | 0, _, _, _ => none
  | k + 1, x0, x4, x17 => if x17 = true then (some (0, 2)) else (if x4 = 2 then (some (1, 0)) else (if flt x0 0 = true then (some ((IntKind.u64.wrap ((x0 : Int) - 1)).toNat, 0)) else (some ((IntKind.u64.wrap ((x0 : Int) + 1)).toNat, 0))))
def real_Next.f (k : Nat) (a0 : Nat) : Option (Nat × Int) := (real_Kind.f a0).bind fun t141 => (if t141 = 0 then (real_Next.j0 k a0 t141 true) else (if t141 = 1 then (real_Next.j0 k a0 t141 (fgt a0 0)) else (real_Next.j0 k a0 t141 false)))
theorem real_Next.mono_l : ∀ k, (∀ y0 y1 y2, LeO (real_Next.j0 k y0 y1 y2) (real_Next.j0 (k + 1) y0 y1 y2))
  | 0 => fun _ _ _ r h => by simp [real_Next.j0] at h
  | k + 1 => by
    have ih0 := real_Next.mono_l k
    · intro y0 y1 y2
      unfold real_Next.j0
      repeat' first
      | (with_reducible exact ih0 _ _ _)
      | (with_reducible exact LeO.refl _)
      | (with_reducible exact LeO.none _)
      | (with_reducible refine LeO.ite ?_ ?_)
      | (with_reducible refine LeO.bind ?_ (fun _ => ?_))
      | exact ih0 _ _ _
      | exact LeO.none _
      | refine LeO.ite ?_ ?_
      | refine LeO.bind ?_ (fun _ => ?_)
theorem real_Next.mono : ∀ a0 k, LeO (real_Next.f k a0) (real_Next.f (k + 1) a0) := by
  intro a0 k
  have ih0 := real_Next.mono_l k
  unfold real_Next.f
  repeat' first
      | (with_reducible exact ih0 _ _ _)
      | (with_reducible exact LeO.refl _)
      | (with_reducible exact LeO.none _)
      | (with_reducible refine LeO.ite ?_ ?_)
      | (with_reducible refine LeO.bind ?_ (fun _ => ?_))
      | exact ih0 _ _ _
      | exact LeO.none _
      | refine LeO.ite ?_ ?_
      | refine LeO.bind ?_ (fun _ => ?_)
set_option maxHeartbeats 8000000 in
set_option maxRecDepth 100000 in
theorem real_Next.calls (k : Nat) (a0 : Nat) (r1 : Nat) (r2 : Int) (w : World) (h : real_Next.f k a0 = some (r1, r2)) :
    Calls Try.prog 22 #[.float .f64 a0] w fun e w' => e = .returned (.tuple #[.float .f64 r1, .int .i64 r2]) ∧ Drawn0 w w' := by
  have hent_fbits := hent_fbits
  have hent_ffrom := hent_ffrom
  have H : ((real_Kind.f a0).bind fun t141 => (if t141 = 0 then (real_Next.j0 k a0 t141 true) else (if t141 = 1 then (real_Next.j0 k a0 t141 (fgt a0 0)) else (real_Next.j0 k a0 t141 false)))) = some (r1, r2) := h
  clear h
  replace H := Option.bind_eq_some_iff.mp H
  obtain ⟨t141, A20, H⟩ := H
  replace H : (if t141 = 0 then (real_Next.j0 k a0 t141 true) else (if t141 = 1 then (real_Next.j0 k a0 t141 (fgt a0 0)) else (real_Next.j0 k a0 t141 false))) = some (r1, r2) := H
  have A2 := Aside0.mk A20
  clear A20
  have HC3 := Aside0.mk H
  clear H
  go_enter Try.func22, Try.ntmps22
  go_upto_region 2 with (first | ((with_reducible refine gate_callee (f := 13) rfl ?_); refine goesL_ (some 7) rfl rfl Try.func13 (by kernel_rfl) rfl #[.float .f64 a0] rfl (by (try simp only [List.map_toArray, List.map_cons, List.map_nil]); first | done | rfl | (simp only [List.length_drop, List.length_take]; rfl)) ?_; (with_reducible refine (real_Kind.calls a0 t141 _ A2.out).mono ?_); rintro e w' ⟨rfl, ⟨nd, rfl⟩⟩; refine ⟨_, rfl, ?_⟩))
  (try simp only [Act.put, List.setIfInBounds_toArray, List.set_cons_zero, List.set_cons_succ])
  go_cut [17] (fun v17 wc => ∃ (kq : Nat) (x17_2 : Bool), v17 = .bool x17_2 ∧ Aside0 (real_Next.j0 kq a0 t141 x17_2 = some (r1, r2)) ∧ Aside0 (kq ≤ k) ∧ Drawn0 w wc)
  case first =>
    have H := HC3.out
    clear HC3
    by_cases c4 : t141 = 0
    · rw [if_pos c4] at H
      have c4b0 : (t141 == 0) = true := beq_iff_eq.mpr c4
      have c4b1 : (t141 != 0) = false := bne_eq_false_iff_eq.mpr c4
      clear c4
      (first | rw [c4b0] | (simp only [i64_w, i32_w]; rw [c4b0]) | skip)
      have H' := Aside0.mk H
      clear H
      go_wp2
      go_meet
      case rel => exact ⟨_, (true), (by first | rfl | (simp; done) | (simp [*]; done)), H', ⟨by first | omega | exact Nat.le_refl _⟩, by repeat (first | exact Drawn0.refl _ | apply Drawn0.step)⟩
    · rw [if_neg c4] at H
      have c4b0 : (t141 == 0) = false := beq_eq_false_iff_ne.mpr c4
      have c4b1 : (t141 != 0) = true := bne_iff_ne.mpr c4
      (first | rw [c4b0] | (simp only [i64_w, i32_w]; rw [c4b0]) | skip)
      by_cases c5 : t141 = 1
      · rw [if_pos c5] at H
        have c5b0 : (t141 == 1) = true := beq_iff_eq.mpr c5
        have c5b1 : (t141 != 1) = false := bne_eq_false_iff_eq.mpr c5
        clear c5
        have H' := Aside0.mk H
        clear H
        go_wp2
        go_meet
        case rel => exact ⟨_, ((fgt a0 0)), (by first | rfl | (simp; done) | (simp [*]; done)), H', ⟨by first | omega | exact Nat.le_refl _⟩, by repeat (first | exact Drawn0.refl _ | apply Drawn0.step)⟩
      · rw [if_neg c5] at H
        have c5b0 : (t141 == 1) = false := beq_eq_false_iff_ne.mpr c5
        have c5b1 : (t141 != 1) = true := bne_iff_ne.mpr c5
        have H' := Aside0.mk H
        clear H
        go_wp2
        go_meet
        case rel => exact ⟨_, (false), (by first | rfl | (simp; done) | (simp [*]; done)), H', ⟨by first | omega | exact Nat.le_refl _⟩, by repeat (first | exact Drawn0.refl _ | apply Drawn0.step)⟩
  case rest =>
    clear HC3
    try clear c1
    try clear c2
    try clear p2
    try clear c4
    try clear c4b0
    try clear c4b1
    try clear c5
    try clear c5b0
    try clear c5b1
    obtain ⟨kq, x17_2, rfl, HA, HJ2, ⟨mc2, rfl⟩⟩ := hcut
    cases kq with
    | zero => exact absurd HA.out (by simp [real_Next.j0])
    | succ kj2 =>
      have H := HA.out
      clear HA
      simp only [real_Next.j0] at H
      by_cases c6 : x17_2 = true
      · subst c6
        have H1 : (some (0, 2)) = some (r1, r2) := by rw [if_pos rfl] at H; exact H
        clear H
        have H := H1
        clear H1
        simp only [Option.some.injEq, Prod.mk.injEq] at H
        obtain ⟨rfl, rfl⟩ := H
        go_wp2
        go_ret2
        exact ⟨by first | rfl | (simp; done) | (simp [*]; done), by repeat (first | exact Drawn0.refl _ | apply Drawn0.step)⟩
      · replace c6 := Bool.eq_false_iff.mpr c6
        subst c6
        have H1 : (if t141 = 2 then (some (1, 0)) else (if flt a0 0 = true then (some ((IntKind.u64.wrap ((a0 : Int) - 1)).toNat, 0)) else (some ((IntKind.u64.wrap ((a0 : Int) + 1)).toNat, 0)))) = some (r1, r2) := by rw [if_neg (show ¬ (false = true) by decide)] at H; exact H
        clear H
        have H := H1
        clear H1
        by_cases c7 : t141 = 2
        · rw [if_pos c7] at H
          have c7b0 : (t141 == 2) = true := beq_iff_eq.mpr c7
          have c7b1 : (t141 != 2) = false := bne_eq_false_iff_eq.mpr c7
          clear c7
          simp only [Option.some.injEq, Prod.mk.injEq] at H
          obtain ⟨rfl, rfl⟩ := H
          go_wp2
          go_ret2
          exact ⟨by first | rfl | (simp; done) | (simp [*]; done), by repeat (first | exact Drawn0.refl _ | apply Drawn0.step)⟩
        · rw [if_neg c7] at H
          have c7b0 : (t141 == 2) = false := beq_eq_false_iff_ne.mpr c7
          have c7b1 : (t141 != 2) = true := bne_iff_ne.mpr c7
          by_cases c8 : flt a0 0 = true
          · rw [if_pos c8] at H
            have c8b0 : flt a0 0 = true := c8
            clear c8
            simp only [Option.some.injEq, Prod.mk.injEq] at H
            obtain ⟨rfl, rfl⟩ := H
            go_wp2
            go_ret2
            exact ⟨by first | rfl | (simp; done) | (simp [*]; done), by repeat (first | exact Drawn0.refl _ | apply Drawn0.step)⟩
          · rw [if_neg c8] at H
            have c8b0 : flt a0 0 = false := by simpa using c8
            clear c8
            simp only [Option.some.injEq, Prod.mk.injEq] at H
            obtain ⟨rfl, rfl⟩ := H
            go_wp2
            go_ret2
            exact ⟨by first | rfl | (simp; done) | (simp [*]; done), by repeat (first | exact Drawn0.refl _ | apply Drawn0.step)⟩

/-! ### real_key: function 42 -/
def real_key.f (a0 : Nat) : Option (Int × Int) := (real_Kind.f a0).bind fun t143 => (if t143 = 0 then (some (0, 0)) else (if ((a0 : Int) / 9223372036854775808) = 1 then (some (1, Go.bits .xor .u64 18446744073709551615 (a0 : Int))) else (some (2, (a0 : Int)))))
set_option maxHeartbeats 8000000 in
set_option maxRecDepth 100000 in
theorem real_key.calls (a0 : Nat) (r1 : Int) (r2 : Int) (w : World) (h : real_key.f a0 = some (r1, r2)) :
    Calls Try.prog 42 #[.float .f64 a0] w fun e w' => e = .returned (.agg #[.int .u64 r1, .int .u64 r2]) ∧ Below w.heap.size w w' := by
  have hu52 := Try.underlying52
  have hent_fbits := hent_fbits
  have HB := Aside0.mk (Below.refl w.heap.size w)
  have H : ((real_Kind.f a0).bind fun t143 => (if t143 = 0 then (some (0, 0)) else (if ((a0 : Int) / 9223372036854775808) = 1 then (some (1, Go.bits .xor .u64 18446744073709551615 (a0 : Int))) else (some (2, (a0 : Int)))))) = some (r1, r2) := h
  clear h
  replace H := Option.bind_eq_some_iff.mp H
  obtain ⟨t143, A20, H⟩ := H
  replace H : (if t143 = 0 then (some (0, 0)) else (if ((a0 : Int) / 9223372036854775808) = 1 then (some (1, Go.bits .xor .u64 18446744073709551615 (a0 : Int))) else (some (2, (a0 : Int))))) = some (r1, r2) := H
  have A2 := Aside0.mk A20
  clear A20
  by_cases c3 : t143 = 0
  · rw [if_pos c3] at H
    have c3b0 : (t143 == 0) = true := beq_iff_eq.mpr c3
    have c3b1 : (t143 != 0) = false := bne_eq_false_iff_eq.mpr c3
    clear c3
    simp only [Option.some.injEq, Prod.mk.injEq] at H
    obtain ⟨rfl, rfl⟩ := H
    go_enter Try.func42, Try.ntmps42
    go_wp2_with (first | ((with_reducible refine gate_dst (N := 2) rfl ?_); refine box_event ?hg (N := 2) ?hd (cs := #[.int .u64 0, .int .u64 0]) (t := 52) ?hr ?_; (case hd => rfl); (case hg => rfl); (case hr => first | (go_simp; done) | (go_simp; rfl)); intro gb142 hg w4 hbox hb; have n0_ := Aside0.mk (below_step (by repeat (first | (with_reducible first | exact HB.out | apply below_alloc | apply pw_below_drewN | apply below_drew1) | exact HB.out)) hb); have n1_ := Aside0.mk (hbox); have n2_ := Aside0.mk ((by rw [hg]; exact (below_size (by repeat (first | (with_reducible first | exact HB.out | apply below_alloc | apply pw_below_drewN | apply below_drew1) | exact HB.out))) : w.heap.size ≤ gb142)); have n3_ := Aside0.mk ((by rw [hg]; exact (below_size (by repeat (first | (with_reducible first | exact HB.out | apply below_alloc | apply pw_below_drewN | apply below_drew1) | exact HB.out))) : w.heap.size ≤ gb142)); clear HB; have HB := n0_; have BK142 := n1_; have GW142 := n2_; have GE142 := n3_; clear n0_ n1_ n2_ n3_; clear hb hbox hg) | ((with_reducible refine gate_callee (f := 13) rfl ?_); refine goesL_ (some 8) rfl rfl Try.func13 (by kernel_rfl) rfl #[.float .f64 a0] rfl (by (try simp only [List.map_toArray, List.map_cons, List.map_nil]); first | done | rfl | (simp only [List.length_drop, List.length_take]; rfl)) ?_; (with_reducible refine (real_Kind.calls a0 t143 _ A2.out).mono ?_); rintro e w' ⟨rfl, ⟨nd, rfl⟩⟩; refine ⟨_, rfl, ?_⟩; (try (rw [drewN_self w4]; generalize hq_ : World.drewN w4 _ = w4; have n0_ : Aside0 (w4.heap[gb142]? = some (.cells #[.int .u64 0, .int .u64 0] 52 (0, 0))) := ⟨by rw [← hq_]; exact (by (with_reducible repeat (first | refine blk_drewN ?_ _ | refine blk_drew ?_ | refine blk_alloc ?_ _)); exact BK142.out)⟩; have n1_ : Aside0 (Below w.heap.size w w4) := ⟨by rw [← hq_]; exact (by repeat (first | (with_reducible first | exact HB.out | apply below_alloc | apply pw_below_drewN | apply below_drew1 | refine below_set ?_ GE142.out) | exact HB.out))⟩; clear BK142 HB hq_; have BK142 := n0_; have HB := n1_; clear n0_ n1_)); have hcz5_0 : w4.cell? ⟨gb142, 0, none⟩ = some (.int .u64 0) := (blk_cell BK142.out 0).trans rfl; have hcz5_1 : w4.cell? ⟨gb142, 1, none⟩ = some (.int .u64 0) := (blk_cell BK142.out 1).trans rfl; have hfz5_0 := blk_frozen BK142.out 0; have hfz5_1 := blk_frozen BK142.out 1))
    refine bodyPost_ret (results_cell_row rfl _ _ gb142 52 #[.int .u64 0, .int .u64 0] (0, 0) _ rfl (by (with_reducible repeat (first | refine blk_drewN ?_ _ | refine blk_drew ?_ | refine blk_alloc ?_ _)); refine blk_put (cs := #[.int .u64 0, .int .u64 0]) ?_ 1 _ rfl; (with_reducible repeat (first | refine blk_drewN ?_ _ | refine blk_drew ?_ | refine blk_alloc ?_ _)); refine blk_put (cs := #[.int .u64 0, .int .u64 0]) ?_ 0 _ rfl; (with_reducible repeat (first | refine blk_drewN ?_ _ | refine blk_drew ?_ | refine blk_alloc ?_ _)); exact BK142.out) Try.underlying52 rfl (by kernel_rfl)) rfl ?_
    exact ⟨by first | rfl | (simp [errW_none, errW_some] <;> rfl) | (simp [*, errW_none, errW_some] <;> rfl), by repeat (first | (with_reducible first | exact HB.out | apply below_alloc | apply pw_below_drewN | apply below_drew1 | refine below_set ?_ GE142.out) | exact HB.out)⟩
  · rw [if_neg c3] at H
    have c3b0 : (t143 == 0) = false := beq_eq_false_iff_ne.mpr c3
    have c3b1 : (t143 != 0) = true := bne_iff_ne.mpr c3
    by_cases c6 : ((a0 : Int) / 9223372036854775808) = 1
    · rw [if_pos c6] at H
      have c6b0 : (((a0 : Int) / 9223372036854775808) == 1) = true := beq_iff_eq.mpr c6
      have c6b1 : (((a0 : Int) / 9223372036854775808) != 1) = false := bne_eq_false_iff_eq.mpr c6
      clear c6
      simp only [Option.some.injEq, Prod.mk.injEq] at H
      obtain ⟨rfl, rfl⟩ := H
      go_enter Try.func42, Try.ntmps42
      go_wp2_with (first | ((with_reducible refine gate_dst (N := 2) rfl ?_); refine box_event ?hg (N := 2) ?hd (cs := #[.int .u64 0, .int .u64 0]) (t := 52) ?hr ?_; (case hd => rfl); (case hg => rfl); (case hr => first | (go_simp; done) | (go_simp; rfl)); intro gb142 hg w7 hbox hb; have n0_ := Aside0.mk (below_step (by repeat (first | (with_reducible first | exact HB.out | apply below_alloc | apply pw_below_drewN | apply below_drew1) | exact HB.out)) hb); have n1_ := Aside0.mk (hbox); have n2_ := Aside0.mk ((by rw [hg]; exact (below_size (by repeat (first | (with_reducible first | exact HB.out | apply below_alloc | apply pw_below_drewN | apply below_drew1) | exact HB.out))) : w.heap.size ≤ gb142)); have n3_ := Aside0.mk ((by rw [hg]; exact (below_size (by repeat (first | (with_reducible first | exact HB.out | apply below_alloc | apply pw_below_drewN | apply below_drew1) | exact HB.out))) : w.heap.size ≤ gb142)); clear HB; have HB := n0_; have BK142 := n1_; have GW142 := n2_; have GE142 := n3_; clear n0_ n1_ n2_ n3_; clear hb hbox hg) | ((with_reducible refine gate_callee (f := 13) rfl ?_); refine goesL_ (some 8) rfl rfl Try.func13 (by kernel_rfl) rfl #[.float .f64 a0] rfl (by (try simp only [List.map_toArray, List.map_cons, List.map_nil]); first | done | rfl | (simp only [List.length_drop, List.length_take]; rfl)) ?_; (with_reducible refine (real_Kind.calls a0 t143 _ A2.out).mono ?_); rintro e w' ⟨rfl, ⟨nd, rfl⟩⟩; refine ⟨_, rfl, ?_⟩; (try (rw [drewN_self w7]; generalize hq_ : World.drewN w7 _ = w7; have n0_ : Aside0 (w7.heap[gb142]? = some (.cells #[.int .u64 0, .int .u64 0] 52 (0, 0))) := ⟨by rw [← hq_]; exact (by (with_reducible repeat (first | refine blk_drewN ?_ _ | refine blk_drew ?_ | refine blk_alloc ?_ _)); exact BK142.out)⟩; have n1_ : Aside0 (Below w.heap.size w w7) := ⟨by rw [← hq_]; exact (by repeat (first | (with_reducible first | exact HB.out | apply below_alloc | apply pw_below_drewN | apply below_drew1 | refine below_set ?_ GE142.out) | exact HB.out))⟩; clear BK142 HB hq_; have BK142 := n0_; have HB := n1_; clear n0_ n1_)); have hcz8_0 : w7.cell? ⟨gb142, 0, none⟩ = some (.int .u64 0) := (blk_cell BK142.out 0).trans rfl; have hcz8_1 : w7.cell? ⟨gb142, 1, none⟩ = some (.int .u64 0) := (blk_cell BK142.out 1).trans rfl; have hfz8_0 := blk_frozen BK142.out 0; have hfz8_1 := blk_frozen BK142.out 1))
      refine bodyPost_ret (results_cell_row rfl _ _ gb142 52 #[.int .u64 1, .int .u64 (Go.bits .xor .u64 18446744073709551615 (a0 : Int))] (0, 0) _ rfl (by (with_reducible repeat (first | refine blk_drewN ?_ _ | refine blk_drew ?_ | refine blk_alloc ?_ _)); refine blk_put (cs := #[.int .u64 1, .int .u64 0]) ?_ 1 _ rfl; (with_reducible repeat (first | refine blk_drewN ?_ _ | refine blk_drew ?_ | refine blk_alloc ?_ _)); refine blk_put (cs := #[.int .u64 0, .int .u64 0]) ?_ 0 _ rfl; (with_reducible repeat (first | refine blk_drewN ?_ _ | refine blk_drew ?_ | refine blk_alloc ?_ _)); exact BK142.out) Try.underlying52 rfl (by kernel_rfl)) rfl ?_
      exact ⟨by first | rfl | (simp [errW_none, errW_some] <;> rfl) | (simp [*, errW_none, errW_some] <;> rfl), by repeat (first | (with_reducible first | exact HB.out | apply below_alloc | apply pw_below_drewN | apply below_drew1 | refine below_set ?_ GE142.out) | exact HB.out)⟩
    · rw [if_neg c6] at H
      have c6b0 : (((a0 : Int) / 9223372036854775808) == 1) = false := beq_eq_false_iff_ne.mpr c6
      have c6b1 : (((a0 : Int) / 9223372036854775808) != 1) = true := bne_iff_ne.mpr c6
      simp only [Option.some.injEq, Prod.mk.injEq] at H
      obtain ⟨rfl, rfl⟩ := H
      go_enter Try.func42, Try.ntmps42
      go_wp2_with (first | ((with_reducible refine gate_dst (N := 2) rfl ?_); refine box_event ?hg (N := 2) ?hd (cs := #[.int .u64 0, .int .u64 0]) (t := 52) ?hr ?_; (case hd => rfl); (case hg => rfl); (case hr => first | (go_simp; done) | (go_simp; rfl)); intro gb142 hg w9 hbox hb; have n0_ := Aside0.mk (below_step (by repeat (first | (with_reducible first | exact HB.out | apply below_alloc | apply pw_below_drewN | apply below_drew1) | exact HB.out)) hb); have n1_ := Aside0.mk (hbox); have n2_ := Aside0.mk ((by rw [hg]; exact (below_size (by repeat (first | (with_reducible first | exact HB.out | apply below_alloc | apply pw_below_drewN | apply below_drew1) | exact HB.out))) : w.heap.size ≤ gb142)); have n3_ := Aside0.mk ((by rw [hg]; exact (below_size (by repeat (first | (with_reducible first | exact HB.out | apply below_alloc | apply pw_below_drewN | apply below_drew1) | exact HB.out))) : w.heap.size ≤ gb142)); clear HB; have HB := n0_; have BK142 := n1_; have GW142 := n2_; have GE142 := n3_; clear n0_ n1_ n2_ n3_; clear hb hbox hg) | ((with_reducible refine gate_callee (f := 13) rfl ?_); refine goesL_ (some 8) rfl rfl Try.func13 (by kernel_rfl) rfl #[.float .f64 a0] rfl (by (try simp only [List.map_toArray, List.map_cons, List.map_nil]); first | done | rfl | (simp only [List.length_drop, List.length_take]; rfl)) ?_; (with_reducible refine (real_Kind.calls a0 t143 _ A2.out).mono ?_); rintro e w' ⟨rfl, ⟨nd, rfl⟩⟩; refine ⟨_, rfl, ?_⟩; (try (rw [drewN_self w9]; generalize hq_ : World.drewN w9 _ = w9; have n0_ : Aside0 (w9.heap[gb142]? = some (.cells #[.int .u64 0, .int .u64 0] 52 (0, 0))) := ⟨by rw [← hq_]; exact (by (with_reducible repeat (first | refine blk_drewN ?_ _ | refine blk_drew ?_ | refine blk_alloc ?_ _)); exact BK142.out)⟩; have n1_ : Aside0 (Below w.heap.size w w9) := ⟨by rw [← hq_]; exact (by repeat (first | (with_reducible first | exact HB.out | apply below_alloc | apply pw_below_drewN | apply below_drew1 | refine below_set ?_ GE142.out) | exact HB.out))⟩; clear BK142 HB hq_; have BK142 := n0_; have HB := n1_; clear n0_ n1_)); have hcz10_0 : w9.cell? ⟨gb142, 0, none⟩ = some (.int .u64 0) := (blk_cell BK142.out 0).trans rfl; have hcz10_1 : w9.cell? ⟨gb142, 1, none⟩ = some (.int .u64 0) := (blk_cell BK142.out 1).trans rfl; have hfz10_0 := blk_frozen BK142.out 0; have hfz10_1 := blk_frozen BK142.out 1))
      refine bodyPost_ret (results_cell_row rfl _ _ gb142 52 #[.int .u64 2, .int .u64 (a0 : Int)] (0, 0) _ rfl (by (with_reducible repeat (first | refine blk_drewN ?_ _ | refine blk_drew ?_ | refine blk_alloc ?_ _)); refine blk_put (cs := #[.int .u64 2, .int .u64 0]) ?_ 1 _ rfl; (with_reducible repeat (first | refine blk_drewN ?_ _ | refine blk_drew ?_ | refine blk_alloc ?_ _)); refine blk_put (cs := #[.int .u64 0, .int .u64 0]) ?_ 0 _ rfl; (with_reducible repeat (first | refine blk_drewN ?_ _ | refine blk_drew ?_ | refine blk_alloc ?_ _)); exact BK142.out) Try.underlying52 rfl (by kernel_rfl)) rfl ?_
      exact ⟨by first | rfl | (simp [errW_none, errW_some] <;> rfl) | (simp [*, errW_none, errW_some] <;> rfl), by repeat (first | (with_reducible first | exact HB.out | apply below_alloc | apply pw_below_drewN | apply below_drew1 | refine below_set ?_ GE142.out) | exact HB.out)⟩

/-! ### real_Less: function 24 -/
def real_Less.f (a0 : Nat) (a1 : Nat) : Option (Bool) := (real_key.f a0).bind fun bt144 => ((real_key.f a1).bind fun bt146 => (if bt144.1 < bt146.1 then (some true) else (if bt144.1 = bt146.1 then (some (decide (bt144.2 < bt146.2))) else (some false))))
set_option maxHeartbeats 8000000 in
set_option maxRecDepth 100000 in
theorem real_Less.calls (a0 : Nat) (a1 : Nat) (r : Bool) (w : World) (h : real_Less.f a0 a1 = some r) :
    Calls Try.prog 24 #[.float .f64 a0, .float .f64 a1] w fun e w' => e = .returned (.bool r) ∧ Below w.heap.size w w' := by
  have hu52 := Try.underlying52
  have HB := Aside0.mk (Below.refl w.heap.size w)
  have H : ((real_key.f a0).bind fun bt144 => ((real_key.f a1).bind fun bt146 => (if bt144.1 < bt146.1 then (some true) else (if bt144.1 = bt146.1 then (some (decide (bt144.2 < bt146.2))) else (some false))))) = some r := h
  clear h
  replace H := Option.bind_eq_some_iff.mp H
  obtain ⟨⟨t144, t145⟩, A30, H⟩ := H
  replace H : ((real_key.f a1).bind fun bt146 => (if t144 < bt146.1 then (some true) else (if t144 = bt146.1 then (some (decide (t145 < bt146.2))) else (some false)))) = some r := H
  have A3 := Aside0.mk A30
  clear A30
  replace H := Option.bind_eq_some_iff.mp H
  obtain ⟨⟨t146, t147⟩, A40, H⟩ := H
  replace H : (if t144 < t146 then (some true) else (if t144 = t146 then (some (decide (t145 < t147))) else (some false))) = some r := H
  have A4 := Aside0.mk A40
  clear A40
  by_cases c5 : t144 < t146
  · rw [if_pos c5] at H
    have c5b0 : decide (t144 < t146) = true := decide_eq_true c5
    clear c5
    obtain rfl := Option.some.inj H
    go_enter Try.func24, Try.ntmps24
    go_wp2_with (first | ((with_reducible refine gate_callee (f := 42) rfl ?_); refine goesL_ (some 8) rfl rfl Try.func42 (by kernel_rfl) rfl #[.float .f64 a0] rfl (by (try simp only [List.map_toArray, List.map_cons, List.map_nil]); first | done | rfl | (simp only [List.length_drop, List.length_take]; rfl)) ?_; (with_reducible refine (real_key.calls a0 t144 t145 _ A3.out).mono ?_); rintro e w6 ⟨rfl, hb⟩; refine ⟨_, rfl, ?_⟩; have n0_ := Aside0.mk (below_step (by repeat (first | (with_reducible first | exact HB.out | apply below_alloc | apply pw_below_drewN | apply below_drew1) | exact HB.out)) hb); clear HB; have HB := n0_; clear n0_; (try clear hb); (try clear hb2); (try clear hk); (try clear hi)) | ((with_reducible refine gate_callee (f := 42) rfl ?_); refine goesL_ (some 10) rfl rfl Try.func42 (by kernel_rfl) rfl #[.float .f64 a1] rfl (by (try simp only [List.map_toArray, List.map_cons, List.map_nil]); first | done | rfl | (simp only [List.length_drop, List.length_take]; rfl)) ?_; (with_reducible refine (real_key.calls a1 t146 t147 _ A4.out).mono ?_); rintro e w7 ⟨rfl, hb⟩; refine ⟨_, rfl, ?_⟩; have n0_ := Aside0.mk (below_step (by repeat (first | (with_reducible first | exact HB.out | apply below_alloc | apply pw_below_drewN | apply below_drew1) | exact HB.out)) hb); clear HB; have HB := n0_; clear n0_; (try clear hb); (try clear hb2); (try clear hk); (try clear hi)) | ((with_reducible refine gate_dst (N := 5) rfl ?_); refine box_event ?hg (N := 5) ?hd (cs := #[.int .u64 0, .int .u64 0]) (t := 52) ?hr ?_; (case hd => rfl); (case hg => rfl); (case hr => first | (go_simp; done) | (go_simp; rfl)); intro gb148 hg w8 hbox hb; have n0_ := Aside0.mk (below_step (by repeat (first | (with_reducible first | exact HB.out | apply below_alloc | apply pw_below_drewN | apply below_drew1) | exact HB.out)) hb); have n1_ := Aside0.mk (hbox); have n2_ := Aside0.mk ((by rw [hg]; exact (below_size (by repeat (first | (with_reducible first | exact HB.out | apply below_alloc | apply pw_below_drewN | apply below_drew1) | exact HB.out))) : w.heap.size ≤ gb148)); have n3_ := Aside0.mk ((by rw [hg]; exact (below_size (by repeat (first | (with_reducible first | exact HB.out | apply below_alloc | apply pw_below_drewN | apply below_drew1) | exact HB.out))) : w.heap.size ≤ gb148)); clear HB; have HB := n0_; have BK148 := n1_; have GW148 := n2_; have GE148 := n3_; clear n0_ n1_ n2_ n3_; clear hb hbox hg) | ((with_reducible refine gate_dst (N := 6) rfl ?_); refine box_event ?hg (N := 6) ?hd (cs := #[.int .u64 0, .int .u64 0]) (t := 52) ?hr ?_; (case hd => rfl); (case hg => rfl); (case hr => first | (go_simp; done) | (go_simp; rfl)); intro gb149 hg w9 hbox hb; have n0_ := Aside0.mk (blk_below (g := gb148) (o := .cells #[.int .u64 0, .int .u64 0] 52 (0, 0)) (by (with_reducible repeat (first | refine blk_drewN ?_ _ | refine blk_drew ?_ | refine blk_alloc ?_ _)); exact BK148.out) hb); have n1_ := Aside0.mk (below_step (by repeat (first | (with_reducible first | exact HB.out | apply below_alloc | apply pw_below_drewN | apply below_drew1 | refine below_set ?_ GE148.out) | exact HB.out)) hb); have n2_ := Aside0.mk (hbox); have n3_ := Aside0.mk ((by rw [hg]; exact (below_size (by repeat (first | (with_reducible first | exact HB.out | apply below_alloc | apply pw_below_drewN | apply below_drew1 | refine below_set ?_ GE148.out) | exact HB.out))) : w.heap.size ≤ gb149)); have n4_ := Aside0.mk ((by rw [hg]; exact (below_size (by repeat (first | (with_reducible first | exact HB.out | apply below_alloc | apply pw_below_drewN | apply below_drew1 | refine below_set ?_ GE148.out) | exact HB.out))) : w.heap.size ≤ gb149)); have n5_ := Aside0.mk ((by rw [hg]; exact Nat.ne_of_lt (blk_lt (g := gb148) (o := .cells #[.int .u64 0, .int .u64 0] 52 (0, 0)) (by (with_reducible repeat (first | refine blk_drewN ?_ _ | refine blk_drew ?_ | refine blk_alloc ?_ _)); exact BK148.out)) : gb148 ≠ gb149)); have n6_ := Aside0.mk ((by rw [hg]; exact Nat.ne_of_gt (blk_lt (g := gb148) (o := .cells #[.int .u64 0, .int .u64 0] 52 (0, 0)) (by (with_reducible repeat (first | refine blk_drewN ?_ _ | refine blk_drew ?_ | refine blk_alloc ?_ _)); exact BK148.out)) : gb149 ≠ gb148)); clear BK148; clear HB; have BK148 := n0_; have HB := n1_; have BK149 := n2_; have GW149 := n3_; have GE149 := n4_; have NB148_149 := n5_; have NB149_148 := n6_; clear n0_ n1_ n2_ n3_ n4_ n5_ n6_; clear hb hbox hg; have hnb10 := NB148_149.out; have hnc10 := NB149_148.out; have hcz11_0 : w9.cell? ⟨gb148, 0, none⟩ = some (.int .u64 0) := (blk_cell BK148.out 0).trans rfl; have hcz11_1 : w9.cell? ⟨gb148, 1, none⟩ = some (.int .u64 0) := (blk_cell BK148.out 1).trans rfl; have hfz11_0 := blk_frozen BK148.out 0; have hfz11_1 := blk_frozen BK148.out 1; have hcz12_0 : w9.cell? ⟨gb149, 0, none⟩ = some (.int .u64 0) := (blk_cell BK149.out 0).trans rfl; have hcz12_1 : w9.cell? ⟨gb149, 1, none⟩ = some (.int .u64 0) := (blk_cell BK149.out 1).trans rfl; have hfz12_0 := blk_frozen BK149.out 0; have hfz12_1 := blk_frozen BK149.out 1))
    go_ret
    exact ⟨by first | rfl | (simp [errW_none, errW_some] <;> rfl) | (simp [*, errW_none, errW_some] <;> rfl), by repeat (first | (with_reducible first | exact HB.out | apply below_alloc | apply pw_below_drewN | apply below_drew1 | refine below_set ?_ GE148.out | refine below_set ?_ GE149.out) | exact HB.out)⟩
  · rw [if_neg c5] at H
    have c5b0 : decide (t144 < t146) = false := decide_eq_false c5
    clear c5
    by_cases c13 : t144 = t146
    · rw [if_pos c13] at H
      have c13b0 : (t144 == t146) = true := beq_iff_eq.mpr c13
      have c13b1 : (t144 != t146) = false := bne_eq_false_iff_eq.mpr c13
      clear c13
      obtain rfl := Option.some.inj H
      go_enter Try.func24, Try.ntmps24
      go_wp2_with (first | ((with_reducible refine gate_callee (f := 42) rfl ?_); refine goesL_ (some 8) rfl rfl Try.func42 (by kernel_rfl) rfl #[.float .f64 a0] rfl (by (try simp only [List.map_toArray, List.map_cons, List.map_nil]); first | done | rfl | (simp only [List.length_drop, List.length_take]; rfl)) ?_; (with_reducible refine (real_key.calls a0 t144 t145 _ A3.out).mono ?_); rintro e w14 ⟨rfl, hb⟩; refine ⟨_, rfl, ?_⟩; have n0_ := Aside0.mk (below_step (by repeat (first | (with_reducible first | exact HB.out | apply below_alloc | apply pw_below_drewN | apply below_drew1) | exact HB.out)) hb); clear HB; have HB := n0_; clear n0_; (try clear hb); (try clear hb2); (try clear hk); (try clear hi)) | ((with_reducible refine gate_callee (f := 42) rfl ?_); refine goesL_ (some 10) rfl rfl Try.func42 (by kernel_rfl) rfl #[.float .f64 a1] rfl (by (try simp only [List.map_toArray, List.map_cons, List.map_nil]); first | done | rfl | (simp only [List.length_drop, List.length_take]; rfl)) ?_; (with_reducible refine (real_key.calls a1 t146 t147 _ A4.out).mono ?_); rintro e w15 ⟨rfl, hb⟩; refine ⟨_, rfl, ?_⟩; have n0_ := Aside0.mk (below_step (by repeat (first | (with_reducible first | exact HB.out | apply below_alloc | apply pw_below_drewN | apply below_drew1) | exact HB.out)) hb); clear HB; have HB := n0_; clear n0_; (try clear hb); (try clear hb2); (try clear hk); (try clear hi)) | ((with_reducible refine gate_dst (N := 5) rfl ?_); refine box_event ?hg (N := 5) ?hd (cs := #[.int .u64 0, .int .u64 0]) (t := 52) ?hr ?_; (case hd => rfl); (case hg => rfl); (case hr => first | (go_simp; done) | (go_simp; rfl)); intro gb148 hg w16 hbox hb; have n0_ := Aside0.mk (below_step (by repeat (first | (with_reducible first | exact HB.out | apply below_alloc | apply pw_below_drewN | apply below_drew1) | exact HB.out)) hb); have n1_ := Aside0.mk (hbox); have n2_ := Aside0.mk ((by rw [hg]; exact (below_size (by repeat (first | (with_reducible first | exact HB.out | apply below_alloc | apply pw_below_drewN | apply below_drew1) | exact HB.out))) : w.heap.size ≤ gb148)); have n3_ := Aside0.mk ((by rw [hg]; exact (below_size (by repeat (first | (with_reducible first | exact HB.out | apply below_alloc | apply pw_below_drewN | apply below_drew1) | exact HB.out))) : w.heap.size ≤ gb148)); clear HB; have HB := n0_; have BK148 := n1_; have GW148 := n2_; have GE148 := n3_; clear n0_ n1_ n2_ n3_; clear hb hbox hg) | ((with_reducible refine gate_dst (N := 6) rfl ?_); refine box_event ?hg (N := 6) ?hd (cs := #[.int .u64 0, .int .u64 0]) (t := 52) ?hr ?_; (case hd => rfl); (case hg => rfl); (case hr => first | (go_simp; done) | (go_simp; rfl)); intro gb149 hg w17 hbox hb; have n0_ := Aside0.mk (blk_below (g := gb148) (o := .cells #[.int .u64 0, .int .u64 0] 52 (0, 0)) (by (with_reducible repeat (first | refine blk_drewN ?_ _ | refine blk_drew ?_ | refine blk_alloc ?_ _)); exact BK148.out) hb); have n1_ := Aside0.mk (below_step (by repeat (first | (with_reducible first | exact HB.out | apply below_alloc | apply pw_below_drewN | apply below_drew1 | refine below_set ?_ GE148.out) | exact HB.out)) hb); have n2_ := Aside0.mk (hbox); have n3_ := Aside0.mk ((by rw [hg]; exact (below_size (by repeat (first | (with_reducible first | exact HB.out | apply below_alloc | apply pw_below_drewN | apply below_drew1 | refine below_set ?_ GE148.out) | exact HB.out))) : w.heap.size ≤ gb149)); have n4_ := Aside0.mk ((by rw [hg]; exact (below_size (by repeat (first | (with_reducible first | exact HB.out | apply below_alloc | apply pw_below_drewN | apply below_drew1 | refine below_set ?_ GE148.out) | exact HB.out))) : w.heap.size ≤ gb149)); have n5_ := Aside0.mk ((by rw [hg]; exact Nat.ne_of_lt (blk_lt (g := gb148) (o := .cells #[.int .u64 0, .int .u64 0] 52 (0, 0)) (by (with_reducible repeat (first | refine blk_drewN ?_ _ | refine blk_drew ?_ | refine blk_alloc ?_ _)); exact BK148.out)) : gb148 ≠ gb149)); have n6_ := Aside0.mk ((by rw [hg]; exact Nat.ne_of_gt (blk_lt (g := gb148) (o := .cells #[.int .u64 0, .int .u64 0] 52 (0, 0)) (by (with_reducible repeat (first | refine blk_drewN ?_ _ | refine blk_drew ?_ | refine blk_alloc ?_ _)); exact BK148.out)) : gb149 ≠ gb148)); clear BK148; clear HB; have BK148 := n0_; have HB := n1_; have BK149 := n2_; have GW149 := n3_; have GE149 := n4_; have NB148_149 := n5_; have NB149_148 := n6_; clear n0_ n1_ n2_ n3_ n4_ n5_ n6_; clear hb hbox hg; have hnb18 := NB148_149.out; have hnc18 := NB149_148.out; have hcz19_0 : w17.cell? ⟨gb148, 0, none⟩ = some (.int .u64 0) := (blk_cell BK148.out 0).trans rfl; have hcz19_1 : w17.cell? ⟨gb148, 1, none⟩ = some (.int .u64 0) := (blk_cell BK148.out 1).trans rfl; have hfz19_0 := blk_frozen BK148.out 0; have hfz19_1 := blk_frozen BK148.out 1; have hcz20_0 : w17.cell? ⟨gb149, 0, none⟩ = some (.int .u64 0) := (blk_cell BK149.out 0).trans rfl; have hcz20_1 : w17.cell? ⟨gb149, 1, none⟩ = some (.int .u64 0) := (blk_cell BK149.out 1).trans rfl; have hfz20_0 := blk_frozen BK149.out 0; have hfz20_1 := blk_frozen BK149.out 1))
      go_ret
      exact ⟨by first | rfl | (simp [errW_none, errW_some] <;> rfl) | (simp [*, errW_none, errW_some] <;> rfl), by repeat (first | (with_reducible first | exact HB.out | apply below_alloc | apply pw_below_drewN | apply below_drew1 | refine below_set ?_ GE148.out | refine below_set ?_ GE149.out) | exact HB.out)⟩
    · rw [if_neg c13] at H
      have c13b0 : (t144 == t146) = false := beq_eq_false_iff_ne.mpr c13
      have c13b1 : (t144 != t146) = true := bne_iff_ne.mpr c13
      obtain rfl := Option.some.inj H
      go_enter Try.func24, Try.ntmps24
      go_wp2_with (first | ((with_reducible refine gate_callee (f := 42) rfl ?_); refine goesL_ (some 8) rfl rfl Try.func42 (by kernel_rfl) rfl #[.float .f64 a0] rfl (by (try simp only [List.map_toArray, List.map_cons, List.map_nil]); first | done | rfl | (simp only [List.length_drop, List.length_take]; rfl)) ?_; (with_reducible refine (real_key.calls a0 t144 t145 _ A3.out).mono ?_); rintro e w21 ⟨rfl, hb⟩; refine ⟨_, rfl, ?_⟩; have n0_ := Aside0.mk (below_step (by repeat (first | (with_reducible first | exact HB.out | apply below_alloc | apply pw_below_drewN | apply below_drew1) | exact HB.out)) hb); clear HB; have HB := n0_; clear n0_; (try clear hb); (try clear hb2); (try clear hk); (try clear hi)) | ((with_reducible refine gate_callee (f := 42) rfl ?_); refine goesL_ (some 10) rfl rfl Try.func42 (by kernel_rfl) rfl #[.float .f64 a1] rfl (by (try simp only [List.map_toArray, List.map_cons, List.map_nil]); first | done | rfl | (simp only [List.length_drop, List.length_take]; rfl)) ?_; (with_reducible refine (real_key.calls a1 t146 t147 _ A4.out).mono ?_); rintro e w22 ⟨rfl, hb⟩; refine ⟨_, rfl, ?_⟩; have n0_ := Aside0.mk (below_step (by repeat (first | (with_reducible first | exact HB.out | apply below_alloc | apply pw_below_drewN | apply below_drew1) | exact HB.out)) hb); clear HB; have HB := n0_; clear n0_; (try clear hb); (try clear hb2); (try clear hk); (try clear hi)) | ((with_reducible refine gate_dst (N := 5) rfl ?_); refine box_event ?hg (N := 5) ?hd (cs := #[.int .u64 0, .int .u64 0]) (t := 52) ?hr ?_; (case hd => rfl); (case hg => rfl); (case hr => first | (go_simp; done) | (go_simp; rfl)); intro gb148 hg w23 hbox hb; have n0_ := Aside0.mk (below_step (by repeat (first | (with_reducible first | exact HB.out | apply below_alloc | apply pw_below_drewN | apply below_drew1) | exact HB.out)) hb); have n1_ := Aside0.mk (hbox); have n2_ := Aside0.mk ((by rw [hg]; exact (below_size (by repeat (first | (with_reducible first | exact HB.out | apply below_alloc | apply pw_below_drewN | apply below_drew1) | exact HB.out))) : w.heap.size ≤ gb148)); have n3_ := Aside0.mk ((by rw [hg]; exact (below_size (by repeat (first | (with_reducible first | exact HB.out | apply below_alloc | apply pw_below_drewN | apply below_drew1) | exact HB.out))) : w.heap.size ≤ gb148)); clear HB; have HB := n0_; have BK148 := n1_; have GW148 := n2_; have GE148 := n3_; clear n0_ n1_ n2_ n3_; clear hb hbox hg) | ((with_reducible refine gate_dst (N := 6) rfl ?_); refine box_event ?hg (N := 6) ?hd (cs := #[.int .u64 0, .int .u64 0]) (t := 52) ?hr ?_; (case hd => rfl); (case hg => rfl); (case hr => first | (go_simp; done) | (go_simp; rfl)); intro gb149 hg w24 hbox hb; have n0_ := Aside0.mk (blk_below (g := gb148) (o := .cells #[.int .u64 0, .int .u64 0] 52 (0, 0)) (by (with_reducible repeat (first | refine blk_drewN ?_ _ | refine blk_drew ?_ | refine blk_alloc ?_ _)); exact BK148.out) hb); have n1_ := Aside0.mk (below_step (by repeat (first | (with_reducible first | exact HB.out | apply below_alloc | apply pw_below_drewN | apply below_drew1 | refine below_set ?_ GE148.out) | exact HB.out)) hb); have n2_ := Aside0.mk (hbox); have n3_ := Aside0.mk ((by rw [hg]; exact (below_size (by repeat (first | (with_reducible first | exact HB.out | apply below_alloc | apply pw_below_drewN | apply below_drew1 | refine below_set ?_ GE148.out) | exact HB.out))) : w.heap.size ≤ gb149)); have n4_ := Aside0.mk ((by rw [hg]; exact (below_size (by repeat (first | (with_reducible first | exact HB.out | apply below_alloc | apply pw_below_drewN | apply below_drew1 | refine below_set ?_ GE148.out) | exact HB.out))) : w.heap.size ≤ gb149)); have n5_ := Aside0.mk ((by rw [hg]; exact Nat.ne_of_lt (blk_lt (g := gb148) (o := .cells #[.int .u64 0, .int .u64 0] 52 (0, 0)) (by (with_reducible repeat (first | refine blk_drewN ?_ _ | refine blk_drew ?_ | refine blk_alloc ?_ _)); exact BK148.out)) : gb148 ≠ gb149)); have n6_ := Aside0.mk ((by rw [hg]; exact Nat.ne_of_gt (blk_lt (g := gb148) (o := .cells #[.int .u64 0, .int .u64 0] 52 (0, 0)) (by (with_reducible repeat (first | refine blk_drewN ?_ _ | refine blk_drew ?_ | refine blk_alloc ?_ _)); exact BK148.out)) : gb149 ≠ gb148)); clear BK148; clear HB; have BK148 := n0_; have HB := n1_; have BK149 := n2_; have GW149 := n3_; have GE149 := n4_; have NB148_149 := n5_; have NB149_148 := n6_; clear n0_ n1_ n2_ n3_ n4_ n5_ n6_; clear hb hbox hg; have hnb25 := NB148_149.out; have hnc25 := NB149_148.out; have hcz26_0 : w24.cell? ⟨gb148, 0, none⟩ = some (.int .u64 0) := (blk_cell BK148.out 0).trans rfl; have hcz26_1 : w24.cell? ⟨gb148, 1, none⟩ = some (.int .u64 0) := (blk_cell BK148.out 1).trans rfl; have hfz26_0 := blk_frozen BK148.out 0; have hfz26_1 := blk_frozen BK148.out 1; have hcz27_0 : w24.cell? ⟨gb149, 0, none⟩ = some (.int .u64 0) := (blk_cell BK149.out 0).trans rfl; have hcz27_1 : w24.cell? ⟨gb149, 1, none⟩ = some (.int .u64 0) := (blk_cell BK149.out 1).trans rfl; have hfz27_0 := blk_frozen BK149.out 0; have hfz27_1 := blk_frozen BK149.out 1))
      go_ret
      exact ⟨by first | rfl | (simp [errW_none, errW_some] <;> rfl) | (simp [*, errW_none, errW_some] <;> rfl), by repeat (first | (with_reducible first | exact HB.out | apply below_alloc | apply pw_below_drewN | apply below_drew1 | refine below_set ?_ GE148.out | refine below_set ?_ GE149.out) | exact HB.out)⟩

end Go.Proofs.Ytfaoilalhneijaa.PG
