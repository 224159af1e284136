-- By wip/tools/printplus.py of this session, over the kit's print; what is by hand in it is this session's own.
import Derived.Test.YtbgiehmpdligdaaPMathsDividesx0
namespace Go.Proofs.Ytbgiehmpdligdaa.PMathsDivides
open Go.RowKit Go.Proofs.YtbgiehmpdligdaaW.PrintWords Go.Proofs.YtbgiehmpdligdaaW.PrintLast Go.Proofs.YtbgiehmpdligdaaW.PrintMore
attribute [local go_sem] max2_int min2_int max_two min_two max_three min_three max_four min_four   -- for this text's walks alone
set_option linter.unusedVariables false
set_option linter.unusedSimpArgs false

/-! ### foolscaplaw15_lives: function 18 -/
def foolscaplaw15_lives.f  : Option (Bool) := some (true)
theorem foolscaplaw15_lives.calls  (r : Bool) (w : World) (h : foolscaplaw15_lives.f  = some r) :
    Calls Try.prog 18 #[] w fun e w' => e = .returned (.bool r) ∧ Below w.heap.size w w' :=
  Go.Proofs.Ytbgiehmpdligdaa.PG.foolscaplaw15_lives.calls 100 r w (Eq.trans (MB.lives_eq) h)

/-! ### maths_Gcd: function 22 -/
def maths_Gcd.f (l0 : List Int) : Option (Int × Int) := Go.Proofs.Ytbgiehmpdligdaa.MH.gcdC l0
theorem maths_Gcd.calls (A0 : Option Addr) (c0 : Nat) (l0 : List Int) (r1 : Int) (r2 : Int) (w : World) (hr0 : Kd.C (Kd.int .i64) w A0 l0.length l0) (hc0 : l0.length ≤ c0) (h : maths_Gcd.f l0 = some (r1, r2)) :
    Calls Try.prog 22 #[.slice A0 l0.length c0] w fun e w' => e = .returned (.tuple #[.int .i64 r1, .int .i64 r2]) ∧ Drawn0 w w' := by
  obtain ⟨k_, hk_⟩ := MH.gcd_c h
  exact Go.Proofs.Ytbgiehmpdligdaa.PG.maths_Gcd.calls k_ A0 c0 l0 r1 r2 w hr0 hc0 (hk_)

/-! ### maths_Lcm: function 24 -/
def maths_Lcm.f (l0 : List Int) : Option (Int × Int) := Go.Proofs.Ytbgiehmpdligdaa.MH.lcmC l0
theorem maths_Lcm.calls (A0 : Option Addr) (c0 : Nat) (l0 : List Int) (r1 : Int) (r2 : Int) (w : World) (hr0 : Kd.C (Kd.int .i64) w A0 l0.length l0) (hc0 : l0.length ≤ c0) (h : maths_Lcm.f l0 = some (r1, r2)) :
    Calls Try.prog 24 #[.slice A0 l0.length c0] w fun e w' => e = .returned (.tuple #[.int .i64 r1, .int .i64 r2]) ∧ Below w.heap.size w w' := by
  obtain ⟨k_, hk_⟩ := MH.lcm_c h
  exact Go.Proofs.Ytbgiehmpdligdaa.PG.maths_Lcm.calls k_ A0 c0 l0 r1 r2 w hr0 hc0 (hk_)

/-! ### foolscaplaw15_MathsDivides: function 7 -/
def foolscaplaw15_MathsDivides.j0 : Nat → Int → Int → Int → Bool → Option (Bool)
  | 0, _, _, _, _ => none
  | k + 1, x0, x1, x2, x35 => if x35 = true then ((foolscaplaw15_lives.f).bind fun t101 => (some t101)) else ((maths_Gcd.f (([wrap64 (x0 * 1000000), wrap64 (x1 * 1000000), wrap64 (x2 * 1000000)] : List Int))).bind fun bt105 => ((maths_Lcm.f (([wrap64 (x0 * 1000000), wrap64 (x1 * 1000000)] : List Int))).bind fun bt110 => ((maths_Gcd.f (([wrap64 (x0 * 1000000), wrap64 (x1 * 1000000)] : List Int))).bind fun bt115 => (if bt105.2 = 0 then (if bt110.2 = 0 then (if bt115.2 = 0 then (if bt105.1 < 1000000 then (none) else (if (Int.tmod bt105.1 1000000) = 0 then (if (wrap64 (Int.tdiv bt105.1 1000000)) = 0 then (none) else (if (Int.tmod x0 (wrap64 (Int.tdiv bt105.1 1000000))) = 0 then (if (Int.tmod x1 (wrap64 (Int.tdiv bt105.1 1000000))) = 0 then (if (Int.tmod x2 (wrap64 (Int.tdiv bt105.1 1000000))) = 0 then (if (wrap64 (x0 * 1000000)) = 0 then (none) else (if (Int.tmod bt110.1 (wrap64 (x0 * 1000000))) = 0 then (if (wrap64 (x1 * 1000000)) = 0 then (none) else (if (Int.tmod bt110.1 (wrap64 (x1 * 1000000))) = 0 then (if (wrap64 ((wrap64 (Int.tdiv bt110.1 1000000)) * (wrap64 (Int.tdiv bt115.1 1000000)))) = (wrap64 (x0 * x1)) then ((foolscaplaw15_lives.f).bind fun t117 => (some t117)) else (none)) else (none))) else (none))) else (none)) else (none)) else (none))) else (none))) else (none)) else (none)) else (none)))))
def foolscaplaw15_MathsDivides.f (k : Nat) (a0 : Int) (a1 : Int) (a2 : Int) : Option (Bool) := if a0 < 1 then (foolscaplaw15_MathsDivides.j0 k a0 a1 a2 true) else (if a1 < 1 then (foolscaplaw15_MathsDivides.j0 k a0 a1 a2 true) else (if a2 < 1 then (foolscaplaw15_MathsDivides.j0 k a0 a1 a2 true) else (if a0 > 1000000 then (foolscaplaw15_MathsDivides.j0 k a0 a1 a2 true) else (if a1 > 1000000 then (foolscaplaw15_MathsDivides.j0 k a0 a1 a2 true) else (foolscaplaw15_MathsDivides.j0 k a0 a1 a2 (decide (a2 > 1000000)))))))
theorem foolscaplaw15_MathsDivides.mono_l : ∀ k, (∀ y0 y1 y2 y3, LeO (foolscaplaw15_MathsDivides.j0 k y0 y1 y2 y3) (foolscaplaw15_MathsDivides.j0 (k + 1) y0 y1 y2 y3))
  | 0 => fun _ _ _ _ r h => by simp [foolscaplaw15_MathsDivides.j0] at h
  | k + 1 => by
    have ih0 := foolscaplaw15_MathsDivides.mono_l k
    · intro y0 y1 y2 y3
      unfold foolscaplaw15_MathsDivides.j0
      repeat' first
      | (with_reducible exact ih0 _ _ _ _)
      | (with_reducible exact LeO.refl _)
      | (with_reducible exact LeO.none _)
      | (with_reducible refine LeO.ite ?_ ?_)
      | (with_reducible refine LeO.bind ?_ (fun _ => ?_))
      | exact ih0 _ _ _ _
      | exact LeO.none _
      | refine LeO.ite ?_ ?_
      | refine LeO.bind ?_ (fun _ => ?_)
theorem foolscaplaw15_MathsDivides.mono : ∀ a0 a1 a2 k, LeO (foolscaplaw15_MathsDivides.f k a0 a1 a2) (foolscaplaw15_MathsDivides.f (k + 1) a0 a1 a2) := by
  intro a0 a1 a2 k
  have ih0 := foolscaplaw15_MathsDivides.mono_l k
  unfold foolscaplaw15_MathsDivides.f
  repeat' first
      | (with_reducible exact ih0 _ _ _ _)
      | (with_reducible exact LeO.refl _)
      | (with_reducible exact LeO.none _)
      | (with_reducible refine LeO.ite ?_ ?_)
      | (with_reducible refine LeO.bind ?_ (fun _ => ?_))
      | exact ih0 _ _ _ _
      | exact LeO.none _
      | refine LeO.ite ?_ ?_
      | refine LeO.bind ?_ (fun _ => ?_)
set_option maxHeartbeats 8000000 in
set_option maxRecDepth 100000 in
theorem foolscaplaw15_MathsDivides.calls (k : Nat) (a0 : Int) (a1 : Int) (a2 : Int) (r : Bool) (w : World) (h : foolscaplaw15_MathsDivides.f k a0 a1 a2 = some r) :
    Calls Try.prog 7 #[.int .i64 a0, .int .i64 a1, .int .i64 a2] w fun e w' => e = .returned (.bool r) ∧ Below w.heap.size w w' := by
  have HB := Aside0.mk (Below.refl w.heap.size w)
  have H : (if a0 < 1 then (foolscaplaw15_MathsDivides.j0 k a0 a1 a2 true) else (if a1 < 1 then (foolscaplaw15_MathsDivides.j0 k a0 a1 a2 true) else (if a2 < 1 then (foolscaplaw15_MathsDivides.j0 k a0 a1 a2 true) else (if a0 > 1000000 then (foolscaplaw15_MathsDivides.j0 k a0 a1 a2 true) else (if a1 > 1000000 then (foolscaplaw15_MathsDivides.j0 k a0 a1 a2 true) else (foolscaplaw15_MathsDivides.j0 k a0 a1 a2 (decide (a2 > 1000000)))))))) = some r := h
  clear h
  have HC4 := Aside0.mk H
  clear H
  go_enter Try.func7, Try.ntmps7
  go_upto_region 1 with (fail)
  go_cut [35] (fun v35 wc => ∃ (kq : Nat) (x35_3 : Bool), v35 = .bool x35_3 ∧ Aside0 (foolscaplaw15_MathsDivides.j0 kq a0 a1 a2 x35_3 = some r) ∧ Aside0 (kq ≤ k) ∧ Aside0 (Below w.heap.size w wc))
  case first =>
    have H := HC4.out
    clear HC4
    by_cases c5 : a0 < 1
    · rw [if_pos c5] at H
      have c5b0 : decide (a0 < 1) = true := decide_eq_true c5
      clear c5
      (first | rw [c5b0] | (simp only [i64_w, i32_w]; rw [c5b0]) | skip)
      have H' := Aside0.mk H
      clear H
      go_wp2
      go_meet
      case rel => exact ⟨_, (true), (by first | rfl | (simp; done) | (simp [*]; done)), H', ⟨by first | omega | exact Nat.le_refl _⟩, ⟨by repeat (first | (with_reducible first | exact HB.out | apply below_alloc | apply pw_below_drewN | apply below_drew1) | exact HB.out)⟩⟩
    · rw [if_neg c5] at H
      have c5b0 : decide (a0 < 1) = false := decide_eq_false c5
      clear c5
      (first | rw [c5b0] | (simp only [i64_w, i32_w]; rw [c5b0]) | skip)
      by_cases c6 : a1 < 1
      · rw [if_pos c6] at H
        have c6b0 : decide (a1 < 1) = true := decide_eq_true c6
        clear c6
        have H' := Aside0.mk H
        clear H
        go_wp2
        go_meet
        case rel => exact ⟨_, (true), (by first | rfl | (simp; done) | (simp [*]; done)), H', ⟨by first | omega | exact Nat.le_refl _⟩, ⟨by repeat (first | (with_reducible first | exact HB.out | apply below_alloc | apply pw_below_drewN | apply below_drew1) | exact HB.out)⟩⟩
      · rw [if_neg c6] at H
        have c6b0 : decide (a1 < 1) = false := decide_eq_false c6
        clear c6
        by_cases c7 : a2 < 1
        · rw [if_pos c7] at H
          have c7b0 : decide (a2 < 1) = true := decide_eq_true c7
          clear c7
          have H' := Aside0.mk H
          clear H
          go_wp2
          go_meet
          case rel => exact ⟨_, (true), (by first | rfl | (simp; done) | (simp [*]; done)), H', ⟨by first | omega | exact Nat.le_refl _⟩, ⟨by repeat (first | (with_reducible first | exact HB.out | apply below_alloc | apply pw_below_drewN | apply below_drew1) | exact HB.out)⟩⟩
        · rw [if_neg c7] at H
          have c7b0 : decide (a2 < 1) = false := decide_eq_false c7
          clear c7
          by_cases c8 : a0 > 1000000
          · rw [if_pos c8] at H
            have c8b0 : decide (1000000 < a0) = true := decide_eq_true c8
            clear c8
            have H' := Aside0.mk H
            clear H
            go_wp2
            go_meet
            case rel => exact ⟨_, (true), (by first | rfl | (simp; done) | (simp [*]; done)), H', ⟨by first | omega | exact Nat.le_refl _⟩, ⟨by repeat (first | (with_reducible first | exact HB.out | apply below_alloc | apply pw_below_drewN | apply below_drew1) | exact HB.out)⟩⟩
          · rw [if_neg c8] at H
            have c8b0 : decide (1000000 < a0) = false := decide_eq_false c8
            clear c8
            by_cases c9 : a1 > 1000000
            · rw [if_pos c9] at H
              have c9b0 : decide (1000000 < a1) = true := decide_eq_true c9
              clear c9
              have H' := Aside0.mk H
              clear H
              go_wp2
              go_meet
              case rel => exact ⟨_, (true), (by first | rfl | (simp; done) | (simp [*]; done)), H', ⟨by first | omega | exact Nat.le_refl _⟩, ⟨by repeat (first | (with_reducible first | exact HB.out | apply below_alloc | apply pw_below_drewN | apply below_drew1) | exact HB.out)⟩⟩
            · rw [if_neg c9] at H
              have c9b0 : decide (1000000 < a1) = false := decide_eq_false c9
              clear c9
              have H' := Aside0.mk H
              clear H
              go_wp2
              go_meet
              case rel => exact ⟨_, (decide (a2 > 1000000)), (by first | rfl | (simp; done) | (simp [*]; done)), H', ⟨by first | omega | exact Nat.le_refl _⟩, ⟨by repeat (first | (with_reducible first | exact HB.out | apply below_alloc | apply pw_below_drewN | apply below_drew1) | exact HB.out)⟩⟩
  case rest =>
    clear HC4
    try clear p2
    try clear c5
    try clear c5b0
    try clear c6
    try clear c6b0
    try clear c7
    try clear c7b0
    try clear c8
    try clear c8b0
    try clear c9
    try clear c9b0
    obtain ⟨kq, x35_3, rfl, HA, HJ3, HB⟩ := hcut
    cases kq with
    | zero => exact absurd HA.out (by simp [foolscaplaw15_MathsDivides.j0])
    | succ kj3 =>
      have H := HA.out
      clear HA
      simp only [foolscaplaw15_MathsDivides.j0] at H
      by_cases c10 : x35_3 = true
      · subst c10
        have H1 : ((foolscaplaw15_lives.f).bind fun t101 => (some t101)) = some r := by rw [if_pos rfl] at H; exact H
        clear H
        have H := H1
        clear H1
        replace H := Option.bind_eq_some_iff.mp H
        obtain ⟨t101, A110, H⟩ := H
        replace H : (some t101) = some r := H
        have A11 := Aside0.mk A110
        clear A110
        obtain rfl := Option.some.inj H
        go_wp2_with (first | ((with_reducible refine gate_callee (f := 18) rfl ?_); refine goesL_ (some 36) rfl rfl Try.func18 (by kernel_rfl) rfl #[] rfl (by (try simp only [List.map_toArray, List.map_cons, List.map_nil]); first | done | rfl | (simp only [List.length_drop, List.length_take]; rfl)) ?_; (with_reducible refine (foolscaplaw15_lives.calls  t101 _ A11.out).mono ?_); rintro e w12 ⟨rfl, hb⟩; refine ⟨_, rfl, ?_⟩; have n0_ := Aside0.mk (below_step (by repeat (first | (with_reducible first | exact HB.out | apply below_alloc | apply pw_below_drewN | apply below_drew1) | exact HB.out)) hb); clear HB; have HB := n0_; clear n0_; (try clear hb); (try clear hb2); (try clear hk); (try clear hi)))
        go_ret
        exact ⟨by first | rfl | (simp [errW_none, errW_some] <;> rfl) | (simp [*, errW_none, errW_some] <;> rfl), by repeat (first | (with_reducible first | exact HB.out | apply below_alloc | apply pw_below_drewN | apply below_drew1) | exact HB.out)⟩
      · replace c10 := Bool.eq_false_iff.mpr c10
        subst c10
        have H1 : ((maths_Gcd.f (([wrap64 (a0 * 1000000), wrap64 (a1 * 1000000), wrap64 (a2 * 1000000)] : List Int))).bind fun bt105 => ((maths_Lcm.f (([wrap64 (a0 * 1000000), wrap64 (a1 * 1000000)] : List Int))).bind fun bt110 => ((maths_Gcd.f (([wrap64 (a0 * 1000000), wrap64 (a1 * 1000000)] : List Int))).bind fun bt115 => (if bt105.2 = 0 then (if bt110.2 = 0 then (if bt115.2 = 0 then (if bt105.1 < 1000000 then (none) else (if (Int.tmod bt105.1 1000000) = 0 then (if (wrap64 (Int.tdiv bt105.1 1000000)) = 0 then (none) else (if (Int.tmod a0 (wrap64 (Int.tdiv bt105.1 1000000))) = 0 then (if (Int.tmod a1 (wrap64 (Int.tdiv bt105.1 1000000))) = 0 then (if (Int.tmod a2 (wrap64 (Int.tdiv bt105.1 1000000))) = 0 then (if (wrap64 (a0 * 1000000)) = 0 then (none) else (if (Int.tmod bt110.1 (wrap64 (a0 * 1000000))) = 0 then (if (wrap64 (a1 * 1000000)) = 0 then (none) else (if (Int.tmod bt110.1 (wrap64 (a1 * 1000000))) = 0 then (if (wrap64 ((wrap64 (Int.tdiv bt110.1 1000000)) * (wrap64 (Int.tdiv bt115.1 1000000)))) = (wrap64 (a0 * a1)) then ((foolscaplaw15_lives.f).bind fun t117 => (some t117)) else (none)) else (none))) else (none))) else (none)) else (none)) else (none))) else (none))) else (none)) else (none)) else (none))))) = some r := by rw [if_neg (show ¬ (false = true) by decide)] at H; exact H
        clear H
        have H := H1
        clear H1
        obtain ⟨y102, hy102⟩ : ∃ y_ : List Int, y_ = (([wrap64 (a0 * 1000000), wrap64 (a1 * 1000000), wrap64 (a2 * 1000000)] : List Int)) := ⟨_, rfl⟩
        replace H : ((maths_Gcd.f y102).bind fun bt105 => ((maths_Lcm.f (([wrap64 (a0 * 1000000), wrap64 (a1 * 1000000)] : List Int))).bind fun bt110 => ((maths_Gcd.f (([wrap64 (a0 * 1000000), wrap64 (a1 * 1000000)] : List Int))).bind fun bt115 => (if bt105.2 = 0 then (if bt110.2 = 0 then (if bt115.2 = 0 then (if bt105.1 < 1000000 then (none) else (if (Int.tmod bt105.1 1000000) = 0 then (if (wrap64 (Int.tdiv bt105.1 1000000)) = 0 then (none) else (if (Int.tmod a0 (wrap64 (Int.tdiv bt105.1 1000000))) = 0 then (if (Int.tmod a1 (wrap64 (Int.tdiv bt105.1 1000000))) = 0 then (if (Int.tmod a2 (wrap64 (Int.tdiv bt105.1 1000000))) = 0 then (if (wrap64 (a0 * 1000000)) = 0 then (none) else (if (Int.tmod bt110.1 (wrap64 (a0 * 1000000))) = 0 then (if (wrap64 (a1 * 1000000)) = 0 then (none) else (if (Int.tmod bt110.1 (wrap64 (a1 * 1000000))) = 0 then (if (wrap64 ((wrap64 (Int.tdiv bt110.1 1000000)) * (wrap64 (Int.tdiv bt115.1 1000000)))) = (wrap64 (a0 * a1)) then ((foolscaplaw15_lives.f).bind fun t117 => (some t117)) else (none)) else (none))) else (none))) else (none)) else (none)) else (none))) else (none))) else (none)) else (none)) else (none))))) = some r := by first | (rw [hy102]; with_reducible exact H) | (have H2_ := (Option.bind_some _ _).symm.trans H; rw [hy102]; with_reducible exact H2_) | (have H2_ := (Option.bind_some _ _).symm.trans H; with_reducible exact H2_) | with_reducible exact H | (rw [hy102]; exact H) | exact H
        have Ny102 := Aside0.mk hy102
        clear hy102
        replace H := Option.bind_eq_some_iff.mp H
        obtain ⟨⟨t105, t106⟩, A130, H⟩ := H
        replace H : ((maths_Lcm.f (([wrap64 (a0 * 1000000), wrap64 (a1 * 1000000)] : List Int))).bind fun bt110 => ((maths_Gcd.f (([wrap64 (a0 * 1000000), wrap64 (a1 * 1000000)] : List Int))).bind fun bt115 => (if t106 = 0 then (if bt110.2 = 0 then (if bt115.2 = 0 then (if t105 < 1000000 then (none) else (if (Int.tmod t105 1000000) = 0 then (if (wrap64 (Int.tdiv t105 1000000)) = 0 then (none) else (if (Int.tmod a0 (wrap64 (Int.tdiv t105 1000000))) = 0 then (if (Int.tmod a1 (wrap64 (Int.tdiv t105 1000000))) = 0 then (if (Int.tmod a2 (wrap64 (Int.tdiv t105 1000000))) = 0 then (if (wrap64 (a0 * 1000000)) = 0 then (none) else (if (Int.tmod bt110.1 (wrap64 (a0 * 1000000))) = 0 then (if (wrap64 (a1 * 1000000)) = 0 then (none) else (if (Int.tmod bt110.1 (wrap64 (a1 * 1000000))) = 0 then (if (wrap64 ((wrap64 (Int.tdiv bt110.1 1000000)) * (wrap64 (Int.tdiv bt115.1 1000000)))) = (wrap64 (a0 * a1)) then ((foolscaplaw15_lives.f).bind fun t117 => (some t117)) else (none)) else (none))) else (none))) else (none)) else (none)) else (none))) else (none))) else (none)) else (none)) else (none)))) = some r := H
        have A13 := Aside0.mk A130
        clear A130
        obtain ⟨y107, hy107⟩ : ∃ y_ : List Int, y_ = (([wrap64 (a0 * 1000000), wrap64 (a1 * 1000000)] : List Int)) := ⟨_, rfl⟩
        replace H : ((maths_Lcm.f y107).bind fun bt110 => ((maths_Gcd.f (([wrap64 (a0 * 1000000), wrap64 (a1 * 1000000)] : List Int))).bind fun bt115 => (if t106 = 0 then (if bt110.2 = 0 then (if bt115.2 = 0 then (if t105 < 1000000 then (none) else (if (Int.tmod t105 1000000) = 0 then (if (wrap64 (Int.tdiv t105 1000000)) = 0 then (none) else (if (Int.tmod a0 (wrap64 (Int.tdiv t105 1000000))) = 0 then (if (Int.tmod a1 (wrap64 (Int.tdiv t105 1000000))) = 0 then (if (Int.tmod a2 (wrap64 (Int.tdiv t105 1000000))) = 0 then (if (wrap64 (a0 * 1000000)) = 0 then (none) else (if (Int.tmod bt110.1 (wrap64 (a0 * 1000000))) = 0 then (if (wrap64 (a1 * 1000000)) = 0 then (none) else (if (Int.tmod bt110.1 (wrap64 (a1 * 1000000))) = 0 then (if (wrap64 ((wrap64 (Int.tdiv bt110.1 1000000)) * (wrap64 (Int.tdiv bt115.1 1000000)))) = (wrap64 (a0 * a1)) then ((foolscaplaw15_lives.f).bind fun t117 => (some t117)) else (none)) else (none))) else (none))) else (none)) else (none)) else (none))) else (none))) else (none)) else (none)) else (none)))) = some r := by first | (rw [hy107]; with_reducible exact H) | (have H2_ := (Option.bind_some _ _).symm.trans H; rw [hy107]; with_reducible exact H2_) | (have H2_ := (Option.bind_some _ _).symm.trans H; with_reducible exact H2_) | with_reducible exact H | (rw [hy107]; exact H) | exact H
        have Ny107 := Aside0.mk hy107
        clear hy107
        replace H := Option.bind_eq_some_iff.mp H
        obtain ⟨⟨t110, t111⟩, A140, H⟩ := H
        replace H : ((maths_Gcd.f (([wrap64 (a0 * 1000000), wrap64 (a1 * 1000000)] : List Int))).bind fun bt115 => (if t106 = 0 then (if t111 = 0 then (if bt115.2 = 0 then (if t105 < 1000000 then (none) else (if (Int.tmod t105 1000000) = 0 then (if (wrap64 (Int.tdiv t105 1000000)) = 0 then (none) else (if (Int.tmod a0 (wrap64 (Int.tdiv t105 1000000))) = 0 then (if (Int.tmod a1 (wrap64 (Int.tdiv t105 1000000))) = 0 then (if (Int.tmod a2 (wrap64 (Int.tdiv t105 1000000))) = 0 then (if (wrap64 (a0 * 1000000)) = 0 then (none) else (if (Int.tmod t110 (wrap64 (a0 * 1000000))) = 0 then (if (wrap64 (a1 * 1000000)) = 0 then (none) else (if (Int.tmod t110 (wrap64 (a1 * 1000000))) = 0 then (if (wrap64 ((wrap64 (Int.tdiv t110 1000000)) * (wrap64 (Int.tdiv bt115.1 1000000)))) = (wrap64 (a0 * a1)) then ((foolscaplaw15_lives.f).bind fun t117 => (some t117)) else (none)) else (none))) else (none))) else (none)) else (none)) else (none))) else (none))) else (none)) else (none)) else (none))) = some r := H
        have A14 := Aside0.mk A140
        clear A140
        obtain ⟨y112, hy112⟩ : ∃ y_ : List Int, y_ = (([wrap64 (a0 * 1000000), wrap64 (a1 * 1000000)] : List Int)) := ⟨_, rfl⟩
        replace H : ((maths_Gcd.f y112).bind fun bt115 => (if t106 = 0 then (if t111 = 0 then (if bt115.2 = 0 then (if t105 < 1000000 then (none) else (if (Int.tmod t105 1000000) = 0 then (if (wrap64 (Int.tdiv t105 1000000)) = 0 then (none) else (if (Int.tmod a0 (wrap64 (Int.tdiv t105 1000000))) = 0 then (if (Int.tmod a1 (wrap64 (Int.tdiv t105 1000000))) = 0 then (if (Int.tmod a2 (wrap64 (Int.tdiv t105 1000000))) = 0 then (if (wrap64 (a0 * 1000000)) = 0 then (none) else (if (Int.tmod t110 (wrap64 (a0 * 1000000))) = 0 then (if (wrap64 (a1 * 1000000)) = 0 then (none) else (if (Int.tmod t110 (wrap64 (a1 * 1000000))) = 0 then (if (wrap64 ((wrap64 (Int.tdiv t110 1000000)) * (wrap64 (Int.tdiv bt115.1 1000000)))) = (wrap64 (a0 * a1)) then ((foolscaplaw15_lives.f).bind fun t117 => (some t117)) else (none)) else (none))) else (none))) else (none)) else (none)) else (none))) else (none))) else (none)) else (none)) else (none))) = some r := by first | (rw [hy112]; with_reducible exact H) | (have H2_ := (Option.bind_some _ _).symm.trans H; rw [hy112]; with_reducible exact H2_) | (have H2_ := (Option.bind_some _ _).symm.trans H; with_reducible exact H2_) | with_reducible exact H | (rw [hy112]; exact H) | exact H
        have Ny112 := Aside0.mk hy112
        clear hy112
        replace H := Option.bind_eq_some_iff.mp H
        obtain ⟨⟨t115, t116⟩, A150, H⟩ := H
        replace H : (if t106 = 0 then (if t111 = 0 then (if t116 = 0 then (if t105 < 1000000 then (none) else (if (Int.tmod t105 1000000) = 0 then (if (wrap64 (Int.tdiv t105 1000000)) = 0 then (none) else (if (Int.tmod a0 (wrap64 (Int.tdiv t105 1000000))) = 0 then (if (Int.tmod a1 (wrap64 (Int.tdiv t105 1000000))) = 0 then (if (Int.tmod a2 (wrap64 (Int.tdiv t105 1000000))) = 0 then (if (wrap64 (a0 * 1000000)) = 0 then (none) else (if (Int.tmod t110 (wrap64 (a0 * 1000000))) = 0 then (if (wrap64 (a1 * 1000000)) = 0 then (none) else (if (Int.tmod t110 (wrap64 (a1 * 1000000))) = 0 then (if (wrap64 ((wrap64 (Int.tdiv t110 1000000)) * (wrap64 (Int.tdiv t115 1000000)))) = (wrap64 (a0 * a1)) then ((foolscaplaw15_lives.f).bind fun t117 => (some t117)) else (none)) else (none))) else (none))) else (none)) else (none)) else (none))) else (none))) else (none)) else (none)) else (none)) = some r := H
        have A15 := Aside0.mk A150
        clear A150
        by_cases c16 : t106 = 0
        · rw [if_pos c16] at H
          have c16b0 : (t106 == 0) = true := beq_iff_eq.mpr c16
          have c16b1 : (t106 != 0) = false := bne_eq_false_iff_eq.mpr c16
          clear c16
          by_cases c17 : t111 = 0
          · rw [if_pos c17] at H
            have c17b0 : (t111 == 0) = true := beq_iff_eq.mpr c17
            have c17b1 : (t111 != 0) = false := bne_eq_false_iff_eq.mpr c17
            clear c17
            by_cases c18 : t116 = 0
            · rw [if_pos c18] at H
              have c18b0 : (t116 == 0) = true := beq_iff_eq.mpr c18
              have c18b1 : (t116 != 0) = false := bne_eq_false_iff_eq.mpr c18
              clear c18
              by_cases c19 : t105 < 1000000
              · rw [if_pos c19] at H
                exact absurd H (by simp)
              · rw [if_neg c19] at H
                have c19b0 : decide (t105 < 1000000) = false := decide_eq_false c19
                clear c19
                by_cases c20 : (Int.tmod t105 1000000) = 0
                · rw [if_pos c20] at H
                  have c20b0 : ((Int.tmod t105 1000000) == 0) = true := beq_iff_eq.mpr c20
                  have c20b1 : ((Int.tmod t105 1000000) != 0) = false := bne_eq_false_iff_eq.mpr c20
                  clear c20
                  by_cases c21 : (wrap64 (Int.tdiv t105 1000000)) = 0
                  · rw [if_pos c21] at H
                    exact absurd H (by simp)
                  · rw [if_neg c21] at H
                    have c21b0 : ((wrap64 (Int.tdiv t105 1000000)) == 0) = false := beq_eq_false_iff_ne.mpr c21
                    have c21b1 : ((wrap64 (Int.tdiv t105 1000000)) != 0) = true := bne_iff_ne.mpr c21
                    by_cases c22 : (Int.tmod a0 (wrap64 (Int.tdiv t105 1000000))) = 0
                    · rw [if_pos c22] at H
                      have c22b0 : ((Int.tmod a0 (wrap64 (Int.tdiv t105 1000000))) == 0) = true := beq_iff_eq.mpr c22
                      have c22b1 : ((Int.tmod a0 (wrap64 (Int.tdiv t105 1000000))) != 0) = false := bne_eq_false_iff_eq.mpr c22
                      clear c22
                      by_cases c23 : (Int.tmod a1 (wrap64 (Int.tdiv t105 1000000))) = 0
                      · rw [if_pos c23] at H
                        have c23b0 : ((Int.tmod a1 (wrap64 (Int.tdiv t105 1000000))) == 0) = true := beq_iff_eq.mpr c23
                        have c23b1 : ((Int.tmod a1 (wrap64 (Int.tdiv t105 1000000))) != 0) = false := bne_eq_false_iff_eq.mpr c23
                        clear c23
                        by_cases c24 : (Int.tmod a2 (wrap64 (Int.tdiv t105 1000000))) = 0
                        · rw [if_pos c24] at H
                          have c24b0 : ((Int.tmod a2 (wrap64 (Int.tdiv t105 1000000))) == 0) = true := beq_iff_eq.mpr c24
                          have c24b1 : ((Int.tmod a2 (wrap64 (Int.tdiv t105 1000000))) != 0) = false := bne_eq_false_iff_eq.mpr c24
                          clear c24
                          by_cases c25 : (wrap64 (a0 * 1000000)) = 0
                          · rw [if_pos c25] at H
                            exact absurd H (by simp)
                          · rw [if_neg c25] at H
                            have c25b0 : ((wrap64 (a0 * 1000000)) == 0) = false := beq_eq_false_iff_ne.mpr c25
                            have c25b1 : ((wrap64 (a0 * 1000000)) != 0) = true := bne_iff_ne.mpr c25
                            by_cases c26 : (Int.tmod t110 (wrap64 (a0 * 1000000))) = 0
                            · rw [if_pos c26] at H
                              have c26b0 : ((Int.tmod t110 (wrap64 (a0 * 1000000))) == 0) = true := beq_iff_eq.mpr c26
                              have c26b1 : ((Int.tmod t110 (wrap64 (a0 * 1000000))) != 0) = false := bne_eq_false_iff_eq.mpr c26
                              clear c26
                              by_cases c27 : (wrap64 (a1 * 1000000)) = 0
                              · rw [if_pos c27] at H
                                exact absurd H (by simp)
                              · rw [if_neg c27] at H
                                have c27b0 : ((wrap64 (a1 * 1000000)) == 0) = false := beq_eq_false_iff_ne.mpr c27
                                have c27b1 : ((wrap64 (a1 * 1000000)) != 0) = true := bne_iff_ne.mpr c27
                                by_cases c28 : (Int.tmod t110 (wrap64 (a1 * 1000000))) = 0
                                · rw [if_pos c28] at H
                                  have c28b0 : ((Int.tmod t110 (wrap64 (a1 * 1000000))) == 0) = true := beq_iff_eq.mpr c28
                                  have c28b1 : ((Int.tmod t110 (wrap64 (a1 * 1000000))) != 0) = false := bne_eq_false_iff_eq.mpr c28
                                  clear c28
                                  by_cases c29 : (wrap64 ((wrap64 (Int.tdiv t110 1000000)) * (wrap64 (Int.tdiv t115 1000000)))) = (wrap64 (a0 * a1))
                                  · rw [if_pos c29] at H
                                    have c29b0 : ((wrap64 ((wrap64 (Int.tdiv t110 1000000)) * (wrap64 (Int.tdiv t115 1000000)))) == (wrap64 (a0 * a1))) = true := beq_iff_eq.mpr c29
                                    have c29b1 : ((wrap64 ((wrap64 (Int.tdiv t110 1000000)) * (wrap64 (Int.tdiv t115 1000000)))) != (wrap64 (a0 * a1))) = false := bne_eq_false_iff_eq.mpr c29
                                    clear c29
                                    replace H := Option.bind_eq_some_iff.mp H
                                    obtain ⟨t117, A300, H⟩ := H
                                    replace H : (some t117) = some r := H
                                    have A30 := Aside0.mk A300
                                    clear A300
                                    obtain rfl := Option.some.inj H
                                    go_wp2_with (first | ((with_reducible refine gate_dst (N := 44) rfl ?_); refine Kd.R_lit (Kd.int .i64) _ 3 ?hg (N := 44) ?hd (xs := ([wrap64 (a0 * 1000000), wrap64 (a1 * 1000000), wrap64 (a2 * 1000000)] : List Int)) (inner := [.int .i64 (wrap64 (a0 * 1000000)), .int .i64 (wrap64 (a1 * 1000000)), .int .i64 (wrap64 (a2 * 1000000))]) (ok := fun _ => True) (okp := fun _ => True) ?hr ?hp (fun _ hk => hk) trivial (Below.refl _ _) (Nat.le_refl _) (by simp) ?_; (case hd => rfl); (case hg => rfl); (case hr => first | (go_simp; done) | (go_simp; rfl)); (case hp => exact (Reps.one (show Kd.M (Kd.int .i64) _ _ _ (wrap64 (a0 * 1000000)) [.int .i64 (wrap64 (a0 * 1000000))] from rfl) (Reps.one (show Kd.M (Kd.int .i64) _ _ _ (wrap64 (a1 * 1000000)) [.int .i64 (wrap64 (a1 * 1000000))] from rfl) (Reps.one (show Kd.M (Kd.int .i64) _ _ _ (wrap64 (a2 * 1000000)) [.int .i64 (wrap64 (a2 * 1000000))] from rfl) (Reps.none _ _))))); intro v103 w31 ho32 hb hg_ hnew_; clear hg_ hnew_; (first | rw [← Ny102.out] at ho32 | (simp only [Int.reduceToNat] at ho32; rw [← Ny102.out] at ho32)); have n0_ := Aside0.mk (Kd.R_lower ho32 (below_size (by repeat (first | (with_reducible first | exact HB.out | apply below_alloc | apply pw_below_drewN | apply below_drew1) | exact HB.out)))); have n1_ := Aside0.mk (below_step (by repeat (first | (with_reducible first | exact HB.out | apply below_alloc | apply pw_below_drewN | apply below_drew1) | exact HB.out)) hb); clear HB; have HO104 := n0_; have HB := n1_; clear n0_ n1_; clear hb ho32; obtain ⟨Ao33, co33, eo33⟩ := Kd.R_slice HO104.out; subst eo33) | ((with_reducible refine gate_callee (f := 22) rfl ?_); refine goesL_ (some 45) rfl rfl Try.func22 (by kernel_rfl) rfl #[.slice Ao33 y102.length co33] rfl (by (try simp only [List.map_toArray, List.map_cons, List.map_nil]); first | done | rfl | (simp only [List.length_drop, List.length_take]; rfl)) ?_; (with_reducible refine (maths_Gcd.calls _ _ y102 t105 t106 _ ?side1 ?side2 A13.out).mono ?_); (case side1 => repeat (first | exact (Kd.R_reads' HO104.out).2.2 | (with_reducible refine Kd.C_alloc ?_ _) | (with_reducible refine Kd.C_drewN ?_ _) | (with_reducible refine Kd.C_drew ?_))); (case side2 => exact (Kd.R_reads' HO104.out).2.1); rintro e w' ⟨rfl, ⟨nd, rfl⟩⟩; refine ⟨_, rfl, ?_⟩) | ((with_reducible refine gate_dst (N := 53) rfl ?_); refine Kd.R_lit (Kd.int .i64) _ 3 ?hg (N := 53) ?hd (xs := ([wrap64 (a0 * 1000000), wrap64 (a1 * 1000000)] : List Int)) (inner := [.int .i64 (wrap64 (a0 * 1000000)), .int .i64 (wrap64 (a1 * 1000000))]) (ok := fun _ => True) (okp := fun _ => True) ?hr ?hp (fun _ hk => hk) trivial (Below.refl _ _) (Nat.le_refl _) (by simp) ?_; (case hd => rfl); (case hg => rfl); (case hr => first | (go_simp; done) | (go_simp; rfl)); (case hp => exact (Reps.one (show Kd.M (Kd.int .i64) _ _ _ (wrap64 (a0 * 1000000)) [.int .i64 (wrap64 (a0 * 1000000))] from rfl) (Reps.one (show Kd.M (Kd.int .i64) _ _ _ (wrap64 (a1 * 1000000)) [.int .i64 (wrap64 (a1 * 1000000))] from rfl) (Reps.none _ _)))); intro v108 w34 ho35 hb hg_ hnew_; clear hg_ hnew_; (first | rw [← Ny107.out] at ho35 | (simp only [Int.reduceToNat] at ho35; rw [← Ny107.out] at ho35)); have n0_ := Aside0.mk (Kd.R_elder' (by (with_reducible repeat (first | apply Kd.R_alloc | apply Kd.R_drewN | apply Kd.R_drew)); exact HO104.out) (Kd.R_base ho35) hb); have n1_ := Aside0.mk (Kd.R_lower (Kd.R_new' ho35 (Kd.R_lt (by (with_reducible repeat (first | apply Kd.R_alloc | apply Kd.R_drewN | apply Kd.R_drew)); exact HO104.out))) (below_size (by repeat (first | (with_reducible first | exact HB.out | apply below_alloc | apply pw_below_drewN | apply below_drew1) | exact HB.out)))); have n2_ := Aside0.mk (below_step (by repeat (first | (with_reducible first | exact HB.out | apply below_alloc | apply pw_below_drewN | apply below_drew1) | exact HB.out)) hb); clear HO104; clear HB; have HO104 := n0_; have HO109 := n1_; have HB := n2_; clear n0_ n1_ n2_; clear hb ho35; obtain ⟨Ao36, co36, eo36⟩ := Kd.R_slice HO109.out; subst eo36) | ((with_reducible refine gate_callee (f := 24) rfl ?_); refine goesL_ (some 54) rfl rfl Try.func24 (by kernel_rfl) rfl #[.slice Ao36 y107.length co36] rfl (by (try simp only [List.map_toArray, List.map_cons, List.map_nil]); first | done | rfl | (simp only [List.length_drop, List.length_take]; rfl)) ?_; (with_reducible refine (maths_Lcm.calls _ _ y107 t110 t111 _ ?side1 ?side2 A14.out).mono ?_); (case side1 => repeat (first | exact (Kd.R_reads' HO109.out).2.2 | (with_reducible refine Kd.C_alloc ?_ _) | (with_reducible refine Kd.C_drewN ?_ _) | (with_reducible refine Kd.C_drew ?_))); (case side2 => exact (Kd.R_reads' HO109.out).2.1); rintro e w37 ⟨rfl, hb⟩; refine ⟨_, rfl, ?_⟩; have n0_ := Aside0.mk (Kd.R_below (by (with_reducible repeat (first | apply Kd.R_alloc | apply Kd.R_drewN | apply Kd.R_drew)); exact HO104.out) hb); have n1_ := Aside0.mk (Kd.R_below (by (with_reducible repeat (first | apply Kd.R_alloc | apply Kd.R_drewN | apply Kd.R_drew)); exact HO109.out) hb); have n2_ := Aside0.mk (below_step (by repeat (first | (with_reducible first | exact HB.out | apply below_alloc | apply pw_below_drewN | apply below_drew1) | exact HB.out)) hb); clear HO104; clear HO109; clear HB; have HO104 := n0_; have HO109 := n1_; have HB := n2_; clear n0_ n1_ n2_; (try clear hb); (try clear hb2); (try clear hk); (try clear hi)) | ((with_reducible refine gate_dst (N := 62) rfl ?_); refine Kd.R_lit (Kd.int .i64) _ 3 ?hg (N := 62) ?hd (xs := ([wrap64 (a0 * 1000000), wrap64 (a1 * 1000000)] : List Int)) (inner := [.int .i64 (wrap64 (a0 * 1000000)), .int .i64 (wrap64 (a1 * 1000000))]) (ok := fun _ => True) (okp := fun _ => True) ?hr ?hp (fun _ hk => hk) trivial (Below.refl _ _) (Nat.le_refl _) (by simp) ?_; (case hd => rfl); (case hg => rfl); (case hr => first | (go_simp; done) | (go_simp; rfl)); (case hp => exact (Reps.one (show Kd.M (Kd.int .i64) _ _ _ (wrap64 (a0 * 1000000)) [.int .i64 (wrap64 (a0 * 1000000))] from rfl) (Reps.one (show Kd.M (Kd.int .i64) _ _ _ (wrap64 (a1 * 1000000)) [.int .i64 (wrap64 (a1 * 1000000))] from rfl) (Reps.none _ _)))); intro v113 w38 ho39 hb hg_ hnew_; clear hg_ hnew_; (first | rw [← Ny112.out] at ho39 | (simp only [Int.reduceToNat] at ho39; rw [← Ny112.out] at ho39)); have n0_ := Aside0.mk (Kd.R_elder' (by (with_reducible repeat (first | apply Kd.R_alloc | apply Kd.R_drewN | apply Kd.R_drew)); exact HO104.out) (Kd.R_base ho39) hb); have n1_ := Aside0.mk (Kd.R_elder' (by (with_reducible repeat (first | apply Kd.R_alloc | apply Kd.R_drewN | apply Kd.R_drew)); exact HO109.out) (Kd.R_base ho39) hb); have n2_ := Aside0.mk (Kd.R_lower (Kd.R_new' (Kd.R_new' ho39 (Kd.R_lt (by (with_reducible repeat (first | apply Kd.R_alloc | apply Kd.R_drewN | apply Kd.R_drew)); exact HO104.out))) (Kd.R_lt (by (with_reducible repeat (first | apply Kd.R_alloc | apply Kd.R_drewN | apply Kd.R_drew)); exact HO109.out))) (below_size (by repeat (first | (with_reducible first | exact HB.out | apply below_alloc | apply pw_below_drewN | apply below_drew1) | exact HB.out)))); have n3_ := Aside0.mk (below_step (by repeat (first | (with_reducible first | exact HB.out | apply below_alloc | apply pw_below_drewN | apply below_drew1) | exact HB.out)) hb); clear HO104; clear HO109; clear HB; have HO104 := n0_; have HO109 := n1_; have HO114 := n2_; have HB := n3_; clear n0_ n1_ n2_ n3_; clear hb ho39; obtain ⟨Ao40, co40, eo40⟩ := Kd.R_slice HO114.out; subst eo40) | ((with_reducible refine gate_callee (f := 22) rfl ?_); refine goesL_ (some 63) rfl rfl Try.func22 (by kernel_rfl) rfl #[.slice Ao40 y112.length co40] rfl (by (try simp only [List.map_toArray, List.map_cons, List.map_nil]); first | done | rfl | (simp only [List.length_drop, List.length_take]; rfl)) ?_; (with_reducible refine (maths_Gcd.calls _ _ y112 t115 t116 _ ?side1 ?side2 A15.out).mono ?_); (case side1 => repeat (first | exact (Kd.R_reads' HO114.out).2.2 | (with_reducible refine Kd.C_alloc ?_ _) | (with_reducible refine Kd.C_drewN ?_ _) | (with_reducible refine Kd.C_drew ?_))); (case side2 => exact (Kd.R_reads' HO114.out).2.1); rintro e w' ⟨rfl, ⟨nd, rfl⟩⟩; refine ⟨_, rfl, ?_⟩) | (go_at_call 18; (with_reducible refine (foolscaplaw15_lives.calls  t117 _ A30.out).mono ?_); rintro e w41 ⟨rfl, hb⟩; have n0_ := Aside0.mk (Kd.R_below (by (with_reducible repeat (first | apply Kd.R_alloc | apply Kd.R_drewN | apply Kd.R_drew)); exact HO104.out) hb); have n1_ := Aside0.mk (Kd.R_below (by (with_reducible repeat (first | apply Kd.R_alloc | apply Kd.R_drewN | apply Kd.R_drew)); exact HO109.out) hb); have n2_ := Aside0.mk (Kd.R_below (by (with_reducible repeat (first | apply Kd.R_alloc | apply Kd.R_drewN | apply Kd.R_drew)); exact HO114.out) hb); have n3_ := Aside0.mk (below_step (by repeat (first | (with_reducible first | exact HB.out | apply below_alloc | apply pw_below_drewN | apply below_drew1) | exact HB.out)) hb); clear HO104; clear HO109; clear HO114; clear HB; have HO104 := n0_; have HO109 := n1_; have HO114 := n2_; have HB := n3_; clear n0_ n1_ n2_ n3_; (try clear hb); (try clear hb2); (try clear hk); (try clear hi)))
                                    go_ret
                                    exact ⟨by first | rfl | (simp [errW_none, errW_some] <;> rfl) | (simp [*, errW_none, errW_some] <;> rfl), by repeat (first | (with_reducible first | exact HB.out | apply below_alloc | apply pw_below_drewN | apply below_drew1) | exact HB.out)⟩
                                  · rw [if_neg c29] at H
                                    exact absurd H (by simp)
                                · rw [if_neg c28] at H
                                  exact absurd H (by simp)
                            · rw [if_neg c26] at H
                              exact absurd H (by simp)
                        · rw [if_neg c24] at H
                          exact absurd H (by simp)
                      · rw [if_neg c23] at H
                        exact absurd H (by simp)
                    · rw [if_neg c22] at H
                      exact absurd H (by simp)
                · rw [if_neg c20] at H
                  exact absurd H (by simp)
            · rw [if_neg c18] at H
              exact absurd H (by simp)
          · rw [if_neg c17] at H
            exact absurd H (by simp)
        · rw [if_neg c16] at H
          exact absurd H (by simp)

/-- THE ONE PURE STATEMENT of foolscaplaw15_MathsDivides: yours. -/
def foolscaplaw15_MathsDivides.Pure : Prop := ∀ (a0 : Int) (a1 : Int) (a2 : Int), (Lit.int .i64 a0).wf = true → (Lit.int .i64 a1).wf = true → (Lit.int .i64 a2).wf = true → ∃ k, foolscaplaw15_MathsDivides.f k a0 a1 a2 = some true
theorem foolscaplaw15_MathsDivides.walk (P : foolscaplaw15_MathsDivides.Pure) (a0 : Int) (a1 : Int) (a2 : Int) (w : World) (w0 : (Lit.int .i64 a0).wf = true) (w1 : (Lit.int .i64 a1).wf = true) (w2 : (Lit.int .i64 a2).wf = true) :
    Calls Try.prog 7 #[.int .i64 a0, .int .i64 a1, .int .i64 a2] w fun e w' => e = .returned (.bool true) ∧ Below w.heap.size w w' := by
  obtain ⟨k, h⟩ := P a0 a1 a2 w0 w1 w2
  refine (foolscaplaw15_MathsDivides.calls k a0 a1 a2 true w h).mono ?_
  rintro e w' ⟨rfl, hd⟩
  exact ⟨rfl, hd⟩

end Go.Proofs.Ytbgiehmpdligdaa.PMathsDivides
