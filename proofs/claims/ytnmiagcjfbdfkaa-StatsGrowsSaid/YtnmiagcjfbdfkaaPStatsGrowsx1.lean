-- By wip/tools/printplus.py of this session, over the kit's print; what is by hand in it is this session's own.
import Derived.Test.YtnmiagcjfbdfkaaPStatsGrowsx0
namespace Go.Proofs.Ytnmiagcjfbdfkaa.PStatsGrows
open Go.RowKit Go.Proofs.YtnmiagcjfbdfkaaW.PrintWords Go.Proofs.YtnmiagcjfbdfkaaW.PrintLast Go.Proofs.YtnmiagcjfbdfkaaW.PrintMore
attribute [local go_sem] max2_int min2_int max_two min_two max_three min_three max_four min_four   -- for this text's walks alone
set_option linter.unusedVariables false
set_option linter.unusedSimpArgs false

/-! ### foolscaplaw16_lives: function 9 -/
def foolscaplaw16_lives.f  : Option (Bool) := some (true)
theorem foolscaplaw16_lives.calls  (r : Bool) (w : World) (h : foolscaplaw16_lives.f  = some r) :
    Calls Try.prog 9 #[] w fun e w' => e = .returned (.bool r) ∧ Below w.heap.size w w' :=
  Go.Proofs.Ytnmiagcjfbdfkaa.PG.foolscaplaw16_lives.calls 100 r w (Eq.trans (Go.Proofs.Ytnmiagcjfbdfkaa.PG.foolscaplaw16_lives.one) h)

/-! ### foolscaplaw16_own: function 10 -/
def foolscaplaw16_own.f (l0 : List Int) : Option (List Int) := (some (([] : List Int) : List Int)).bind fun y101 => (if y101.length + l0.length < 17592186044416 then (some (y101 ++ l0)) else (none))
set_option maxHeartbeats 8000000 in
set_option maxRecDepth 100000 in
theorem foolscaplaw16_own.calls (A0 : Option Addr) (c0 : Nat) (l0 : List Int) (r : List Int) (w : World) (hr0 : Kd.C (Kd.int .i64) w A0 l0.length l0) (hc0 : l0.length ≤ c0) (h : foolscaplaw16_own.f l0 = some r) :
    Calls Try.prog 10 #[.slice A0 l0.length c0] w fun e w' => ∃ v0_ : Value, e = .returned (v0_) ∧ Kd.R (Kd.int .i64) 3 w' w.heap.size (fun _ => True) v0_ r ∧ Below w.heap.size w w' := by
  have HR0 := Aside0.mk hr0
  have HC0 := Aside0.mk hc0
  clear hr0 hc0
  have HB := Aside0.mk (Below.refl w.heap.size w)
  have H : ((some (([] : List Int) : List Int)).bind fun y101 => (if y101.length + l0.length < 17592186044416 then (some (y101 ++ l0)) else (none))) = some r := h
  clear h
  obtain ⟨y101, hy101⟩ : ∃ y_ : List Int, y_ = (([] : List Int)) := ⟨_, rfl⟩
  replace H : (if y101.length + l0.length < 17592186044416 then (some (y101 ++ l0)) else (none)) = some r := by first | (rw [hy101]; with_reducible exact H) | (have H2_ := (Option.bind_some _ _).symm.trans H; rw [hy101]; with_reducible exact H2_) | (have H2_ := (Option.bind_some _ _).symm.trans H; with_reducible exact H2_) | with_reducible exact H | (rw [hy101]; exact H) | exact H
  have Ny101 := Aside0.mk hy101
  clear hy101
  by_cases c2 : y101.length + l0.length < 17592186044416
  · rw [if_pos c2] at H
    have LMc2 := Aside0.mk c2
    clear c2
    obtain ⟨y104, hy104⟩ : ∃ y_ : List Int, y_ = (y101 ++ l0) := ⟨_, rfl⟩
    replace H : (some y104) = some r := by first | (rw [hy104]; with_reducible exact H) | (have H2_ := (Option.bind_some _ _).symm.trans H; rw [hy104]; with_reducible exact H2_) | (have H2_ := (Option.bind_some _ _).symm.trans H; with_reducible exact H2_) | with_reducible exact H | (rw [hy104]; exact H) | exact H
    have Ny104 := Aside0.mk hy104
    clear hy104
    obtain rfl := Option.some.inj H
    go_enter Try.func10, Try.ntmps10
    go_wp2_with (first | ((with_reducible refine gate_dst (N := 3) rfl ?_); refine Kd.R_lit (Kd.int .i64) _ 3 ?hg (N := 3) ?hd (xs := ([] : List Int)) (inner := []) (ok := fun _ => True) (okp := fun _ => True) ?hr ?hp (fun _ hk => hk) trivial (Below.refl _ _) (Nat.le_refl _) (by simp) ?_; (case hd => rfl); (case hg => rfl); (case hr => first | (go_simp; done) | (go_simp; rfl)); (case hp => exact (Reps.none _ _)); intro v102 w3 ho4 hb hg_ hnew_; clear hg_ hnew_; (first | rw [← Ny101.out] at ho4 | (simp only [Int.reduceToNat] at ho4; rw [← Ny101.out] at ho4)); have n0_ := Aside0.mk (Kd.R_lower ho4 (below_size (by repeat (first | (with_reducible first | exact HB.out | apply below_alloc | apply pw_below_drewN | apply below_drew1) | exact HB.out)))); have n1_ := Aside0.mk (below_step (by repeat (first | (with_reducible first | exact HB.out | apply below_alloc | apply pw_below_drewN | apply below_drew1) | exact HB.out)) hb); clear HB; have HO103 := n0_; have HB := n1_; clear n0_ n1_; clear hb ho4) | ((with_reducible refine gate_builtin (b := .append) (xs := #[.tmp 3, .tmp 4]) rfl ?_); at_builtin; refine Kd.R_append_rows (Kd.int .i64) (w0 := w) w.heap.size rfl (.tmp 3) (.tmp 4) 22 3 (.int .i64 0) 8 rfl Try.underlying22 info3 rfl (by decide) (by omega) v102 y101 l0 _ _ _ (fun _ => True) (fun _ => False) rfl rfl ?aO ?aR (fun _ _ h => h) (fun _ h => h.elim) ?aF ?aB ?aS ?aL ?_; (case aR => repeat (first | exact (Kd.C_below HR0.out HB.out) | (with_reducible refine Kd.C_alloc ?_ _) | (with_reducible refine Kd.C_drewN ?_ _) | (with_reducible refine Kd.C_drew ?_))); (case aB => exact (by repeat (first | (with_reducible first | exact HB.out | apply below_alloc | apply pw_below_drewN | apply below_drew1) | exact HB.out))); (case aF => exact (fun _ _ => trivial)); (case aO => exact (by (with_reducible repeat (first | apply Kd.R_alloc | apply Kd.R_drewN | apply Kd.R_drew)); exact HO103.out)); (case aS => exact (below_size (by repeat (first | (with_reducible first | exact HB.out | apply below_alloc | apply pw_below_drewN | apply below_drew1) | exact HB.out)))); (case aL => have := LMc2.out; omega); intro v105 w5 ho hb hg hat; rw [← Ny104.out] at ho; have n0_ := Aside0.mk (hb); have n1_ := Aside0.mk (ho); clear HB; clear HO103; have HB := n0_; have HO106 := n1_; clear n0_ n1_; clear ho hb hg hat))
    go_ret
    exact ⟨_, by first | rfl | (simp [errW_none, errW_some] <;> rfl) | (simp [*, errW_none, errW_some] <;> rfl), by (with_reducible repeat (first | apply Kd.R_alloc | apply Kd.R_drewN | apply Kd.R_drew)); exact HO106.out, by repeat (first | (with_reducible first | exact HB.out | apply below_alloc | apply pw_below_drewN | apply below_drew1) | exact HB.out)⟩
  · rw [if_neg c2] at H
    exact absurd H (by simp)

/-! ### stats_Rank: function 15 -/
def stats_Rank.f (a0 : Int) (l1 : List Int) (a2 : Bool) : Option (Int × Int) := some (Go.Proofs.Ytnmiagcjfbdfkaa.SD.rankN a0 l1 a2)
theorem stats_Rank.calls (a0 : Int) (A1 : Option Addr) (c1 : Nat) (l1 : List Int) (a2 : Bool) (r1 : Int) (r2 : Int) (w : World) (hr1 : Kd.C (Kd.int .i64) w A1 l1.length l1) (hc1 : l1.length ≤ c1) (h : stats_Rank.f a0 l1 a2 = some (r1, r2)) :
    Calls Try.prog 15 #[.int .i64 a0, .slice A1 l1.length c1, .bool a2] w fun e w' => e = .returned (.tuple #[.int .i64 r1, .int .i64 r2]) ∧ Drawn0 w w' := by
  obtain ⟨k_, hk_⟩ := SD.rank_x _ _ _ h
  exact Go.Proofs.Ytnmiagcjfbdfkaa.PG.stats_Rank.calls k_ a0 A1 c1 l1 a2 r1 r2 w hr1 hc1 (hk_)

/-! ### stats_Sum: function 19 -/
def stats_Sum.f (l0 : List Int) : Option (Int × Int) := some (Go.Proofs.Ytnmiagcjfbdfkaa.SA.sumN l0)
theorem stats_Sum.calls (A0 : Option Addr) (c0 : Nat) (l0 : List Int) (r1 : Int) (r2 : Int) (w : World) (hr0 : Kd.C (Kd.int .i64) w A0 l0.length l0) (hc0 : l0.length ≤ c0) (h : stats_Sum.f l0 = some (r1, r2)) :
    Calls Try.prog 19 #[.slice A0 l0.length c0] w fun e w' => e = .returned (.tuple #[.int .i64 r1, .int .i64 r2]) ∧ Below w.heap.size w w' := by
  obtain ⟨k_, hk_⟩ := SD.sum_x _ h
  exact Go.Proofs.Ytnmiagcjfbdfkaa.PG.stats_Sum.calls k_ A0 c0 l0 r1 r2 w hr0 hc0 (hk_)

/-! ### num_Add: function 22 -/
def num_Add.f (a0 : Int) (a1 : Int) : Option (Int × Int) := some (Go.Proofs.Ytnmiagcjfbdfkaa.WPure.naddN a0 a1)
theorem num_Add.calls (a0 : Int) (a1 : Int) (r1 : Int) (r2 : Int) (w : World) (h : num_Add.f a0 a1 = some (r1, r2)) :
    Calls Try.prog 22 #[.int .i64 a0, .int .i64 a1] w fun e w' => e = .returned (.tuple #[.int .i64 r1, .int .i64 r2]) ∧ Drawn0 w w' :=
  Go.Proofs.Ytnmiagcjfbdfkaa.PG.num_Add.calls a0 a1 r1 r2 w (Eq.trans (WPure.nadd_eq _ _) h)

/-! ### num_Fits: function 23 -/
def num_Fits.f (a0 : Int) : Option (Bool) := some (decide (Go.Proofs.Ytnmiagcjfbdfkaa.WPure.fits a0))
theorem num_Fits.calls (a0 : Int) (r : Bool) (w : World) (h : num_Fits.f a0 = some r) :
    Calls Try.prog 23 #[.int .i64 a0] w fun e w' => e = .returned (.bool r) ∧ Drawn0 w w' :=
  Go.Proofs.Ytnmiagcjfbdfkaa.PG.num_Fits.calls a0 r w (Eq.trans (WPure.fits_eq _) h)

/-! ### foolscaplaw16_StatsGrows: function 5 -/
mutual
def foolscaplaw16_StatsGrows.j0 : Nat → List Int → Int → Int → Bool → Option (Bool)
  | 0, _, _, _, _ => none
  | k + 1, x0, x1, x6, x64 => if x64 = true then (none) else ((foolscaplaw16_own.f x0).bind fun t121 => (if t121.length < 17592186044416 then ((stats_Rank.f x1 (t121 ++ [x1]) true).bind fun bt127 => ((foolscaplaw16_own.f x0).bind fun t129 => (if t129.length < 17592186044416 then ((stats_Rank.f x1 (t129 ++ [x1]) false).bind fun bt135 => (if x6 = 5 then (foolscaplaw16_StatsGrows.j1 k x0 bt127.1 bt135.1 true) else (if bt127.2 = 0 then (foolscaplaw16_StatsGrows.j1 k x0 bt127.1 bt135.1 (bt135.2 != 0)) else (foolscaplaw16_StatsGrows.j1 k x0 bt127.1 bt135.1 true)))) else (none)))) else (none)))
def foolscaplaw16_StatsGrows.j1 : Nat → List Int → Int → Int → Bool → Option (Bool)
  | 0, _, _, _, _ => none
  | k + 1, x0, x11, x13, x94 => if x94 = true then ((foolscaplaw16_lives.f).bind fun t137 => (some t137)) else (if x11 ≥ 1000000 then (if x13 ≥ 1000000 then (if (wrap64 (x11 + x13)) ≤ (wrap64 ((wrap64 ((x0.length : Int) + 2)) * 1000000)) then ((foolscaplaw16_lives.f).bind fun t138 => (some t138)) else (none)) else (none)) else (none))
end
def foolscaplaw16_StatsGrows.f (k : Nat) (l0 : List Int) (a1 : Int) : Option (Bool) := if (l0.length : Int) > 2000 then ((foolscaplaw16_lives.f).bind fun t107 => (some t107)) else ((stats_Sum.f l0).bind fun bt108 => ((foolscaplaw16_own.f l0).bind fun t110 => (if t110.length < 17592186044416 then ((stats_Sum.f (t110 ++ [a1])).bind fun bt116 => ((num_Add.f bt108.1 a1).bind fun bt118 => (if bt108.2 = 0 then ((num_Fits.f a1).bind fun t120 => (if t120 = true then (if ((bt116.2 == 0) != (bt118.2 == 0)) = true then (foolscaplaw16_StatsGrows.j0 k l0 a1 bt108.2 true) else (if bt116.2 = 0 then (foolscaplaw16_StatsGrows.j0 k l0 a1 bt108.2 (bt116.1 != bt118.1)) else (foolscaplaw16_StatsGrows.j0 k l0 a1 bt108.2 false))) else (if bt116.2 = 0 then (foolscaplaw16_StatsGrows.j0 k l0 a1 bt108.2 (bt116.1 != bt118.1)) else (foolscaplaw16_StatsGrows.j0 k l0 a1 bt108.2 false)))) else (if bt116.2 = 0 then (foolscaplaw16_StatsGrows.j0 k l0 a1 bt108.2 false) else (foolscaplaw16_StatsGrows.j0 k l0 a1 bt108.2 false))))) else (none))))
theorem foolscaplaw16_StatsGrows.mono_l : ∀ k, (∀ y0 y1 y2 y3, LeO (foolscaplaw16_StatsGrows.j0 k y0 y1 y2 y3) (foolscaplaw16_StatsGrows.j0 (k + 1) y0 y1 y2 y3)) ∧ (∀ y0 y1 y2 y3, LeO (foolscaplaw16_StatsGrows.j1 k y0 y1 y2 y3) (foolscaplaw16_StatsGrows.j1 (k + 1) y0 y1 y2 y3))
  | 0 => ⟨fun _ _ _ _ r h => by simp [foolscaplaw16_StatsGrows.j0] at h, fun _ _ _ _ r h => by simp [foolscaplaw16_StatsGrows.j1] at h⟩
  | k + 1 => by
    obtain ⟨ih0, ih1⟩ := foolscaplaw16_StatsGrows.mono_l k
    refine ⟨?_, ?_⟩
    · intro y0 y1 y2 y3
      unfold foolscaplaw16_StatsGrows.j0
      repeat' first
      | (with_reducible exact ih0 _ _ _ _)
      | (with_reducible exact ih1 _ _ _ _)
      | (with_reducible exact LeO.refl _)
      | (with_reducible exact LeO.none _)
      | (with_reducible refine LeO.ite ?_ ?_)
      | (with_reducible refine LeO.bind ?_ (fun _ => ?_))
      | exact ih0 _ _ _ _
      | exact ih1 _ _ _ _
      | exact LeO.none _
      | refine LeO.ite ?_ ?_
      | refine LeO.bind ?_ (fun _ => ?_)
    · intro y0 y1 y2 y3
      unfold foolscaplaw16_StatsGrows.j1
      repeat' first
      | (with_reducible exact ih0 _ _ _ _)
      | (with_reducible exact ih1 _ _ _ _)
      | (with_reducible exact LeO.refl _)
      | (with_reducible exact LeO.none _)
      | (with_reducible refine LeO.ite ?_ ?_)
      | (with_reducible refine LeO.bind ?_ (fun _ => ?_))
      | exact ih0 _ _ _ _
      | exact ih1 _ _ _ _
      | exact LeO.none _
      | refine LeO.ite ?_ ?_
      | refine LeO.bind ?_ (fun _ => ?_)
theorem foolscaplaw16_StatsGrows.mono : ∀ a0 a1 k, LeO (foolscaplaw16_StatsGrows.f k a0 a1) (foolscaplaw16_StatsGrows.f (k + 1) a0 a1) := by
  intro a0 a1 k
  obtain ⟨ih0, ih1⟩ := foolscaplaw16_StatsGrows.mono_l k
  unfold foolscaplaw16_StatsGrows.f
  repeat' first
      | (with_reducible exact ih0 _ _ _ _)
      | (with_reducible exact ih1 _ _ _ _)
      | (with_reducible exact LeO.refl _)
      | (with_reducible exact LeO.none _)
      | (with_reducible refine LeO.ite ?_ ?_)
      | (with_reducible refine LeO.bind ?_ (fun _ => ?_))
      | exact ih0 _ _ _ _
      | exact ih1 _ _ _ _
      | exact LeO.none _
      | refine LeO.ite ?_ ?_
      | refine LeO.bind ?_ (fun _ => ?_)
set_option maxHeartbeats 8000000 in
set_option maxRecDepth 100000 in
theorem foolscaplaw16_StatsGrows.calls (k : Nat) (A0 : Option Addr) (c0 : Nat) (l0 : List Int) (a1 : Int) (r : Bool) (w : World) (hr0 : Kd.C (Kd.int .i64) w A0 l0.length l0) (hc0 : l0.length ≤ c0) (h : foolscaplaw16_StatsGrows.f k l0 a1 = some r) :
    Calls Try.prog 5 #[.slice A0 l0.length c0, .int .i64 a1] w fun e w' => e = .returned (.bool r) ∧ Below w.heap.size w w' := by
  have HR0 := Aside0.mk hr0
  have HC0 := Aside0.mk hc0
  clear hr0 hc0
  have HB := Aside0.mk (Below.refl w.heap.size w)
  have H : (if (l0.length : Int) > 2000 then ((foolscaplaw16_lives.f).bind fun t107 => (some t107)) else ((stats_Sum.f l0).bind fun bt108 => ((foolscaplaw16_own.f l0).bind fun t110 => (if t110.length < 17592186044416 then ((stats_Sum.f (t110 ++ [a1])).bind fun bt116 => ((num_Add.f bt108.1 a1).bind fun bt118 => (if bt108.2 = 0 then ((num_Fits.f a1).bind fun t120 => (if t120 = true then (if ((bt116.2 == 0) != (bt118.2 == 0)) = true then (foolscaplaw16_StatsGrows.j0 k l0 a1 bt108.2 true) else (if bt116.2 = 0 then (foolscaplaw16_StatsGrows.j0 k l0 a1 bt108.2 (bt116.1 != bt118.1)) else (foolscaplaw16_StatsGrows.j0 k l0 a1 bt108.2 false))) else (if bt116.2 = 0 then (foolscaplaw16_StatsGrows.j0 k l0 a1 bt108.2 (bt116.1 != bt118.1)) else (foolscaplaw16_StatsGrows.j0 k l0 a1 bt108.2 false)))) else (if bt116.2 = 0 then (foolscaplaw16_StatsGrows.j0 k l0 a1 bt108.2 false) else (foolscaplaw16_StatsGrows.j0 k l0 a1 bt108.2 false))))) else (none))))) = some r := h
  clear h
  by_cases c3 : (l0.length : Int) > 2000
  · rw [if_pos c3] at H
    have c3b0 : decide (2000 < (l0.length : Int)) = true := decide_eq_true c3
    have c3b1 : decide (2000 < l0.length) = true := decide_eq_true (by omega)
    clear c3
    replace H := Option.bind_eq_some_iff.mp H
    obtain ⟨t107, A40, H⟩ := H
    replace H : (some t107) = some r := H
    have A4 := Aside0.mk A40
    clear A40
    obtain rfl := Option.some.inj H
    go_enter Try.func5, Try.ntmps5
    go_wp2_with (first | ((with_reducible refine gate_callee (f := 9) rfl ?_); refine goesL_ (some 18) rfl rfl Try.func9 (by kernel_rfl) rfl #[] rfl (by (try simp only [List.map_toArray, List.map_cons, List.map_nil]); first | done | rfl | (simp only [List.length_drop, List.length_take]; rfl)) ?_; (with_reducible refine (foolscaplaw16_lives.calls  t107 _ A4.out).mono ?_); rintro e w5 ⟨rfl, hb⟩; refine ⟨_, rfl, ?_⟩; have n0_ := Aside0.mk (below_step (by repeat (first | (with_reducible first | exact HB.out | apply below_alloc | apply pw_below_drewN | apply below_drew1) | exact HB.out)) hb); clear HB; have HB := n0_; clear n0_; (try clear hb); (try clear hb2); (try clear hk); (try clear hi)))
    go_ret
    exact ⟨by first | rfl | (simp [errW_none, errW_some] <;> rfl) | (simp [*, errW_none, errW_some] <;> rfl), by repeat (first | (with_reducible first | exact HB.out | apply below_alloc | apply pw_below_drewN | apply below_drew1) | exact HB.out)⟩
  · rw [if_neg c3] at H
    have c3b0 : decide (2000 < (l0.length : Int)) = false := decide_eq_false c3
    have c3b1 : decide (2000 < l0.length) = false := decide_eq_false (by omega)
    clear c3
    replace H := Option.bind_eq_some_iff.mp H
    obtain ⟨⟨t108, t109⟩, A60, H⟩ := H
    replace H : ((foolscaplaw16_own.f l0).bind fun t110 => (if t110.length < 17592186044416 then ((stats_Sum.f (t110 ++ [a1])).bind fun bt116 => ((num_Add.f t108 a1).bind fun bt118 => (if t109 = 0 then ((num_Fits.f a1).bind fun t120 => (if t120 = true then (if ((bt116.2 == 0) != (bt118.2 == 0)) = true then (foolscaplaw16_StatsGrows.j0 k l0 a1 t109 true) else (if bt116.2 = 0 then (foolscaplaw16_StatsGrows.j0 k l0 a1 t109 (bt116.1 != bt118.1)) else (foolscaplaw16_StatsGrows.j0 k l0 a1 t109 false))) else (if bt116.2 = 0 then (foolscaplaw16_StatsGrows.j0 k l0 a1 t109 (bt116.1 != bt118.1)) else (foolscaplaw16_StatsGrows.j0 k l0 a1 t109 false)))) else (if bt116.2 = 0 then (foolscaplaw16_StatsGrows.j0 k l0 a1 t109 false) else (foolscaplaw16_StatsGrows.j0 k l0 a1 t109 false))))) else (none))) = some r := H
    have A6 := Aside0.mk A60
    clear A60
    replace H := Option.bind_eq_some_iff.mp H
    obtain ⟨t110, A70, H⟩ := H
    replace H : (if t110.length < 17592186044416 then ((stats_Sum.f (t110 ++ [a1])).bind fun bt116 => ((num_Add.f t108 a1).bind fun bt118 => (if t109 = 0 then ((num_Fits.f a1).bind fun t120 => (if t120 = true then (if ((bt116.2 == 0) != (bt118.2 == 0)) = true then (foolscaplaw16_StatsGrows.j0 k l0 a1 t109 true) else (if bt116.2 = 0 then (foolscaplaw16_StatsGrows.j0 k l0 a1 t109 (bt116.1 != bt118.1)) else (foolscaplaw16_StatsGrows.j0 k l0 a1 t109 false))) else (if bt116.2 = 0 then (foolscaplaw16_StatsGrows.j0 k l0 a1 t109 (bt116.1 != bt118.1)) else (foolscaplaw16_StatsGrows.j0 k l0 a1 t109 false)))) else (if bt116.2 = 0 then (foolscaplaw16_StatsGrows.j0 k l0 a1 t109 false) else (foolscaplaw16_StatsGrows.j0 k l0 a1 t109 false))))) else (none)) = some r := H
    have A7 := Aside0.mk A70
    clear A70
    by_cases c8 : t110.length < 17592186044416
    · rw [if_pos c8] at H
      have LMc8 := Aside0.mk c8
      clear c8
      obtain ⟨y113, hy113⟩ : ∃ y_ : List Int, y_ = (t110 ++ [a1]) := ⟨_, rfl⟩
      replace H : ((stats_Sum.f y113).bind fun bt116 => ((num_Add.f t108 a1).bind fun bt118 => (if t109 = 0 then ((num_Fits.f a1).bind fun t120 => (if t120 = true then (if ((bt116.2 == 0) != (bt118.2 == 0)) = true then (foolscaplaw16_StatsGrows.j0 k l0 a1 t109 true) else (if bt116.2 = 0 then (foolscaplaw16_StatsGrows.j0 k l0 a1 t109 (bt116.1 != bt118.1)) else (foolscaplaw16_StatsGrows.j0 k l0 a1 t109 false))) else (if bt116.2 = 0 then (foolscaplaw16_StatsGrows.j0 k l0 a1 t109 (bt116.1 != bt118.1)) else (foolscaplaw16_StatsGrows.j0 k l0 a1 t109 false)))) else (if bt116.2 = 0 then (foolscaplaw16_StatsGrows.j0 k l0 a1 t109 false) else (foolscaplaw16_StatsGrows.j0 k l0 a1 t109 false))))) = some r := by first | (rw [hy113]; with_reducible exact H) | (have H2_ := (Option.bind_some _ _).symm.trans H; rw [hy113]; with_reducible exact H2_) | (have H2_ := (Option.bind_some _ _).symm.trans H; with_reducible exact H2_) | with_reducible exact H | (rw [hy113]; exact H) | exact H
      have Ny113 := Aside0.mk hy113
      clear hy113
      replace H := Option.bind_eq_some_iff.mp H
      obtain ⟨⟨t116, t117⟩, A90, H⟩ := H
      replace H : ((num_Add.f t108 a1).bind fun bt118 => (if t109 = 0 then ((num_Fits.f a1).bind fun t120 => (if t120 = true then (if ((t117 == 0) != (bt118.2 == 0)) = true then (foolscaplaw16_StatsGrows.j0 k l0 a1 t109 true) else (if t117 = 0 then (foolscaplaw16_StatsGrows.j0 k l0 a1 t109 (t116 != bt118.1)) else (foolscaplaw16_StatsGrows.j0 k l0 a1 t109 false))) else (if t117 = 0 then (foolscaplaw16_StatsGrows.j0 k l0 a1 t109 (t116 != bt118.1)) else (foolscaplaw16_StatsGrows.j0 k l0 a1 t109 false)))) else (if t117 = 0 then (foolscaplaw16_StatsGrows.j0 k l0 a1 t109 false) else (foolscaplaw16_StatsGrows.j0 k l0 a1 t109 false)))) = some r := H
      have A9 := Aside0.mk A90
      clear A90
      replace H := Option.bind_eq_some_iff.mp H
      obtain ⟨⟨t118, t119⟩, A100, H⟩ := H
      replace H : (if t109 = 0 then ((num_Fits.f a1).bind fun t120 => (if t120 = true then (if ((t117 == 0) != (t119 == 0)) = true then (foolscaplaw16_StatsGrows.j0 k l0 a1 t109 true) else (if t117 = 0 then (foolscaplaw16_StatsGrows.j0 k l0 a1 t109 (t116 != t118)) else (foolscaplaw16_StatsGrows.j0 k l0 a1 t109 false))) else (if t117 = 0 then (foolscaplaw16_StatsGrows.j0 k l0 a1 t109 (t116 != t118)) else (foolscaplaw16_StatsGrows.j0 k l0 a1 t109 false)))) else (if t117 = 0 then (foolscaplaw16_StatsGrows.j0 k l0 a1 t109 false) else (foolscaplaw16_StatsGrows.j0 k l0 a1 t109 false))) = some r := H
      have A10 := Aside0.mk A100
      clear A100
      have HC11 := Aside0.mk H
      clear H
      go_enter Try.func5, Try.ntmps5
      go_upto_region 6 with (first | ((with_reducible refine gate_callee (f := 19) rfl ?_); refine goesL_ (some 21) rfl rfl Try.func19 (by kernel_rfl) rfl #[.slice A0 l0.length c0] rfl (by (try simp only [List.map_toArray, List.map_cons, List.map_nil]); first | done | rfl | (simp only [List.length_drop, List.length_take]; rfl)) ?_; (with_reducible refine (stats_Sum.calls _ _ l0 t108 t109 _ ?side1 ?side2 A6.out).mono ?_); (case side1 => repeat (first | exact HR0.out | (with_reducible refine Kd.C_alloc ?_ _) | (with_reducible refine Kd.C_drewN ?_ _) | (with_reducible refine Kd.C_drew ?_))); (case side2 => exact HC0.out); rintro e w12 ⟨rfl, hb⟩; refine ⟨_, rfl, ?_⟩; have n0_ := Aside0.mk (below_step (by repeat (first | (with_reducible first | exact HB.out | apply below_alloc | apply pw_below_drewN | apply below_drew1) | exact HB.out)) hb); clear HB; have HB := n0_; clear n0_; (try clear hb); (try clear hb2); (try clear hk); (try clear hi)) | ((with_reducible refine gate_callee (f := 10) rfl ?_); refine goesL_ (some 26) rfl rfl Try.func10 (by kernel_rfl) rfl #[.slice A0 l0.length c0] rfl (by (try simp only [List.map_toArray, List.map_cons, List.map_nil]); first | done | rfl | (simp only [List.length_drop, List.length_take]; rfl)) ?_; (with_reducible refine (foolscaplaw16_own.calls _ _ l0 t110 _ ?side1 ?side2 A7.out).mono ?_); (case side1 => repeat (first | exact (Kd.C_below HR0.out HB.out) | (with_reducible refine Kd.C_alloc ?_ _) | (with_reducible refine Kd.C_drewN ?_ _) | (with_reducible refine Kd.C_drew ?_))); (case side2 => exact HC0.out); rintro e w13 ⟨v111, rfl, ho0, hb⟩; refine ⟨_, rfl, ?_⟩; have n0_ := Aside0.mk (Kd.R_lower ho0 (below_size (by repeat (first | (with_reducible first | exact HB.out | apply below_alloc | apply pw_below_drewN | apply below_drew1) | exact HB.out)))); have n1_ := Aside0.mk (below_step (by repeat (first | (with_reducible first | exact HB.out | apply below_alloc | apply pw_below_drewN | apply below_drew1) | exact HB.out)) hb); clear HB; have HO112 := n0_; have HB := n1_; clear n0_ n1_; (try clear hb); (try clear hb2); (try clear hk); (try clear hi); (try clear ho0)) | ((with_reducible refine gate_builtin (b := .append) (xs := #[.tmp 26, .tmp 28]) rfl ?_); (try (refine gate_guard (by rfl) ?_; dsimp only)); at_builtin; refine Kd.R_append (Kd.int .i64) (w0 := w) w.heap.size rfl (.tmp 26) (.tmp 28) 22 3 (.int .i64 0) 8 rfl Try.underlying22 info3 rfl (by decide) (by omega) v111 t110 a1 [.int .i64 a1] (fun _ => True) (fun _ => False) rfl rfl ?aP (fun _ hk => hk.elim) ?aF ?aO ?aB ?aS ?aL ?_; (case aP => exact rfl); (case aB => exact (by repeat (first | (with_reducible first | exact HB.out | apply below_alloc | apply pw_below_drewN | apply below_drew1) | exact HB.out))); (case aF => exact (fun _ _ => trivial)); (case aO => exact (by (with_reducible repeat (first | apply Kd.R_alloc | apply Kd.R_drewN | apply Kd.R_drew)); exact HO112.out)); (case aS => exact (below_size (by repeat (first | (with_reducible first | exact HB.out | apply below_alloc | apply pw_below_drewN | apply below_drew1) | exact HB.out)))); (case aL => have := LMc8.out; omega); intro v114 w14 ho hb hg hat; rw [← Ny113.out] at ho; have n0_ := Aside0.mk (hb); have n1_ := Aside0.mk (ho); clear HB; clear HO112; have HB := n0_; have HO115 := n1_; clear n0_ n1_; clear ho hb hg hat; obtain ⟨Ao15, co15, eo15⟩ := Kd.R_slice HO115.out; subst eo15) | ((with_reducible refine gate_callee (f := 19) rfl ?_); refine goesL_ (some 30) rfl rfl Try.func19 (by kernel_rfl) rfl #[.slice Ao15 y113.length co15] rfl (by (try simp only [List.map_toArray, List.map_cons, List.map_nil]); first | done | rfl | (simp only [List.length_drop, List.length_take]; rfl)) ?_; (with_reducible refine (stats_Sum.calls _ _ y113 t116 t117 _ ?side1 ?side2 A9.out).mono ?_); (case side1 => repeat (first | exact (Kd.R_reads' HO115.out).2.2 | (with_reducible refine Kd.C_alloc ?_ _) | (with_reducible refine Kd.C_drewN ?_ _) | (with_reducible refine Kd.C_drew ?_))); (case side2 => exact (Kd.R_reads' HO115.out).2.1); rintro e w16 ⟨rfl, hb⟩; refine ⟨_, rfl, ?_⟩; have n0_ := Aside0.mk (Kd.R_below (by (with_reducible repeat (first | apply Kd.R_alloc | apply Kd.R_drewN | apply Kd.R_drew)); exact HO115.out) hb); have n1_ := Aside0.mk (below_step (by repeat (first | (with_reducible first | exact HB.out | apply below_alloc | apply pw_below_drewN | apply below_drew1) | exact HB.out)) hb); clear HO115; clear HB; have HO115 := n0_; have HB := n1_; clear n0_ n1_; (try clear hb); (try clear hb2); (try clear hk); (try clear hi)) | ((with_reducible refine gate_callee (f := 22) rfl ?_); refine goesL_ (some 36) rfl rfl Try.func22 (by kernel_rfl) rfl #[.int .i64 t108, .int .i64 a1] rfl (by (try simp only [List.map_toArray, List.map_cons, List.map_nil]); first | done | rfl | (simp only [List.length_drop, List.length_take]; rfl)) ?_; (with_reducible refine (num_Add.calls t108 a1 t118 t119 _ A10.out).mono ?_); rintro e w' ⟨rfl, ⟨nd, rfl⟩⟩; refine ⟨_, rfl, ?_⟩))
      (try simp only [Act.put, List.setIfInBounds_toArray, List.set_cons_zero, List.set_cons_succ])
      go_cut [64] (fun v64 wc => ∃ (kq : Nat) (x64_10 : Bool), v64 = .bool x64_10 ∧ Aside0 (foolscaplaw16_StatsGrows.j0 kq l0 a1 t109 x64_10 = some r) ∧ Aside0 (kq ≤ k) ∧ Aside0 (Below w.heap.size w wc))
      case first =>
        have H := HC11.out
        clear HC11
        by_cases c17 : t109 = 0
        · rw [if_pos c17] at H
          have c17b0 : (t109 == 0) = true := beq_iff_eq.mpr c17
          have c17b1 : (t109 != 0) = false := bne_eq_false_iff_eq.mpr c17
          clear c17
          (first | rw [c17b0] | (simp only [i64_w, i32_w]; rw [c17b0]) | skip)
          replace H := Option.bind_eq_some_iff.mp H
          obtain ⟨t120, A180, H⟩ := H
          replace H : (if t120 = true then (if ((t117 == 0) != (t119 == 0)) = true then (foolscaplaw16_StatsGrows.j0 k l0 a1 t109 true) else (if t117 = 0 then (foolscaplaw16_StatsGrows.j0 k l0 a1 t109 (t116 != t118)) else (foolscaplaw16_StatsGrows.j0 k l0 a1 t109 false))) else (if t117 = 0 then (foolscaplaw16_StatsGrows.j0 k l0 a1 t109 (t116 != t118)) else (foolscaplaw16_StatsGrows.j0 k l0 a1 t109 false))) = some r := H
          have A18 := Aside0.mk A180
          clear A180
          by_cases c19 : t120 = true
          · subst c19
            have H1 : (if ((t117 == 0) != (t119 == 0)) = true then (foolscaplaw16_StatsGrows.j0 k l0 a1 t109 true) else (if t117 = 0 then (foolscaplaw16_StatsGrows.j0 k l0 a1 t109 (t116 != t118)) else (foolscaplaw16_StatsGrows.j0 k l0 a1 t109 false))) = some r := by rw [if_pos rfl] at H; exact H
            clear H
            have H := H1
            clear H1
            by_cases c20 : ((t117 == 0) != (t119 == 0)) = true
            · rw [if_pos c20] at H
              have c20b0 : ((t117 == 0) != (t119 == 0)) = true := c20
              (try (have c20b1 : decide ((t117 == 0) = (t119 == 0)) = false := by simpa using c20))
              (try (have c20b2 : ((t117 == 0) == (t119 == 0)) = false := by simpa using c20))
              (try (have c20b3 : ¬ ((t117 == 0) = (t119 == 0)) := by simpa using c20))
              clear c20
              have H' := Aside0.mk H
              clear H
              go_wp2_with (first | (go_at_call 23; (with_reducible refine (num_Fits.calls a1 true _ A18.out).mono ?_); rintro e w' ⟨rfl, ⟨nd, rfl⟩⟩))
              go_meet
              case rel => exact ⟨_, (true), (by first | rfl | (simp; done) | (simp [*]; done)), H', ⟨by first | omega | exact Nat.le_refl _⟩, ⟨by repeat (first | (with_reducible first | exact HB.out | apply below_alloc | apply pw_below_drewN | apply below_drew1) | exact HB.out)⟩⟩
            · rw [if_neg c20] at H
              have c20b0 : ((t117 == 0) != (t119 == 0)) = false := by simpa using c20
              (try (have c20b1 : decide ((t117 == 0) = (t119 == 0)) = true := by simpa using c20))
              (try (have c20b2 : ((t117 == 0) == (t119 == 0)) = true := by simpa using c20))
              clear c20
              by_cases c21 : t117 = 0
              · rw [if_pos c21] at H
                have c21b0 : (t117 == 0) = true := beq_iff_eq.mpr c21
                have c21b1 : (t117 != 0) = false := bne_eq_false_iff_eq.mpr c21
                clear c21
                obtain rfl : t119 = 0 := by
                  have z := c20b0
                  rw [c21b0] at z
                  simpa using z
                clear c20b0 c20b1 c20b2
                have H' := Aside0.mk H
                clear H
                go_wp2_with (first | (go_at_call 23; (with_reducible refine (num_Fits.calls a1 true _ A18.out).mono ?_); rintro e w' ⟨rfl, ⟨nd, rfl⟩⟩))
                go_meet
                case rel => exact ⟨_, ((t116 != t118)), (by first | rfl | (simp; done) | (simp [*]; done)), H', ⟨by first | omega | exact Nat.le_refl _⟩, ⟨by repeat (first | (with_reducible first | exact HB.out | apply below_alloc | apply pw_below_drewN | apply below_drew1) | exact HB.out)⟩⟩
              · rw [if_neg c21] at H
                have c21b0 : (t117 == 0) = false := beq_eq_false_iff_ne.mpr c21
                have c21b1 : (t117 != 0) = true := bne_iff_ne.mpr c21
                have c23b0 : (t119 == 0) = false := by
                  have z := c20b0
                  rw [c21b0] at z
                  simpa using z
                clear c20b0 c20b1 c20b2
                have H' := Aside0.mk H
                clear H
                go_wp2_with (first | (go_at_call 23; (with_reducible refine (num_Fits.calls a1 true _ A18.out).mono ?_); rintro e w' ⟨rfl, ⟨nd, rfl⟩⟩))
                go_meet
                case rel => exact ⟨_, (false), (by first | rfl | (simp; done) | (simp [*]; done)), H', ⟨by first | omega | exact Nat.le_refl _⟩, ⟨by repeat (first | (with_reducible first | exact HB.out | apply below_alloc | apply pw_below_drewN | apply below_drew1) | exact HB.out)⟩⟩
          · replace c19 := Bool.eq_false_iff.mpr c19
            subst c19
            have H1 : (if t117 = 0 then (foolscaplaw16_StatsGrows.j0 k l0 a1 t109 (t116 != t118)) else (foolscaplaw16_StatsGrows.j0 k l0 a1 t109 false)) = some r := by rw [if_neg (show ¬ (false = true) by decide)] at H; exact H
            clear H
            have H := H1
            clear H1
            by_cases c22 : t117 = 0
            · rw [if_pos c22] at H
              have c22b0 : (t117 == 0) = true := beq_iff_eq.mpr c22
              have c22b1 : (t117 != 0) = false := bne_eq_false_iff_eq.mpr c22
              clear c22
              have H' := Aside0.mk H
              clear H
              go_wp2_with (first | (go_at_call 23; (with_reducible refine (num_Fits.calls a1 false _ A18.out).mono ?_); rintro e w' ⟨rfl, ⟨nd, rfl⟩⟩))
              go_meet
              case rel => exact ⟨_, ((t116 != t118)), (by first | rfl | (simp; done) | (simp [*]; done)), H', ⟨by first | omega | exact Nat.le_refl _⟩, ⟨by repeat (first | (with_reducible first | exact HB.out | apply below_alloc | apply pw_below_drewN | apply below_drew1) | exact HB.out)⟩⟩
            · rw [if_neg c22] at H
              have c22b0 : (t117 == 0) = false := beq_eq_false_iff_ne.mpr c22
              have c22b1 : (t117 != 0) = true := bne_iff_ne.mpr c22
              have H' := Aside0.mk H
              clear H
              go_wp2_with (first | (go_at_call 23; (with_reducible refine (num_Fits.calls a1 false _ A18.out).mono ?_); rintro e w' ⟨rfl, ⟨nd, rfl⟩⟩))
              go_meet
              case rel => exact ⟨_, (false), (by first | rfl | (simp; done) | (simp [*]; done)), H', ⟨by first | omega | exact Nat.le_refl _⟩, ⟨by repeat (first | (with_reducible first | exact HB.out | apply below_alloc | apply pw_below_drewN | apply below_drew1) | exact HB.out)⟩⟩
        · rw [if_neg c17] at H
          have c17b0 : (t109 == 0) = false := beq_eq_false_iff_ne.mpr c17
          have c17b1 : (t109 != 0) = true := bne_iff_ne.mpr c17
          (first | rw [c17b0] | (simp only [i64_w, i32_w]; rw [c17b0]) | skip)
          by_cases c23 : t117 = 0
          · rw [if_pos c23] at H
            have c23b0 : (t117 == 0) = true := beq_iff_eq.mpr c23
            have c23b1 : (t117 != 0) = false := bne_eq_false_iff_eq.mpr c23
            clear c23
            have H' := Aside0.mk H
            clear H
            go_wp2
            go_meet
            case rel => exact ⟨_, (false), (by first | rfl | (simp; done) | (simp [*]; done)), H', ⟨by first | omega | exact Nat.le_refl _⟩, ⟨by repeat (first | (with_reducible first | exact HB.out | apply below_alloc | apply pw_below_drewN | apply below_drew1) | exact HB.out)⟩⟩
          · rw [if_neg c23] at H
            have c23b0 : (t117 == 0) = false := beq_eq_false_iff_ne.mpr c23
            have c23b1 : (t117 != 0) = true := bne_iff_ne.mpr c23
            have H' := Aside0.mk H
            clear H
            go_wp2
            go_meet
            case rel => exact ⟨_, (false), (by first | rfl | (simp; done) | (simp [*]; done)), H', ⟨by first | omega | exact Nat.le_refl _⟩, ⟨by repeat (first | (with_reducible first | exact HB.out | apply below_alloc | apply pw_below_drewN | apply below_drew1) | exact HB.out)⟩⟩
      case rest =>
        clear HC11
        try clear c1
        try clear c2
        try clear p2
        try clear c3
        try clear c3b0
        try clear c3b1
        try clear c5
        try clear c8
        try clear c9
        try clear c10
        try clear c17
        try clear c17b0
        try clear c17b1
        try clear c19
        try clear c20
        try clear c20b0
        try clear c20b1
        try clear c20b2
        try clear c21
        try clear c21b0
        try clear c21b1
        try clear c22
        try clear c22b0
        try clear c22b1
        try clear c23
        try clear c23b0
        try clear c23b1
        obtain ⟨kq, x64_10, rfl, HA, HJ10, HB⟩ := hcut
        cases kq with
        | zero => exact absurd HA.out (by simp [foolscaplaw16_StatsGrows.j0])
        | succ kj10 =>
          have H := HA.out
          clear HA
          simp only [foolscaplaw16_StatsGrows.j0] at H
          by_cases c24 : x64_10 = true
          · subst c24
            have H1 : (none) = some r := by rw [if_pos rfl] at H; exact H
            clear H
            have H := H1
            clear H1
            exact absurd H (by simp)
          · replace c24 := Bool.eq_false_iff.mpr c24
            subst c24
            have H1 : ((foolscaplaw16_own.f l0).bind fun t121 => (if t121.length < 17592186044416 then ((stats_Rank.f a1 (t121 ++ [a1]) true).bind fun bt127 => ((foolscaplaw16_own.f l0).bind fun t129 => (if t129.length < 17592186044416 then ((stats_Rank.f a1 (t129 ++ [a1]) false).bind fun bt135 => (if t109 = 5 then (foolscaplaw16_StatsGrows.j1 kj10 l0 bt127.1 bt135.1 true) else (if bt127.2 = 0 then (foolscaplaw16_StatsGrows.j1 kj10 l0 bt127.1 bt135.1 (bt135.2 != 0)) else (foolscaplaw16_StatsGrows.j1 kj10 l0 bt127.1 bt135.1 true)))) else (none)))) else (none))) = some r := by rw [if_neg (show ¬ (false = true) by decide)] at H; exact H
            clear H
            have H := H1
            clear H1
            replace H := Option.bind_eq_some_iff.mp H
            obtain ⟨t121, A250, H⟩ := H
            replace H : (if t121.length < 17592186044416 then ((stats_Rank.f a1 (t121 ++ [a1]) true).bind fun bt127 => ((foolscaplaw16_own.f l0).bind fun t129 => (if t129.length < 17592186044416 then ((stats_Rank.f a1 (t129 ++ [a1]) false).bind fun bt135 => (if t109 = 5 then (foolscaplaw16_StatsGrows.j1 kj10 l0 bt127.1 bt135.1 true) else (if bt127.2 = 0 then (foolscaplaw16_StatsGrows.j1 kj10 l0 bt127.1 bt135.1 (bt135.2 != 0)) else (foolscaplaw16_StatsGrows.j1 kj10 l0 bt127.1 bt135.1 true)))) else (none)))) else (none)) = some r := H
            have A25 := Aside0.mk A250
            clear A250
            by_cases c26 : t121.length < 17592186044416
            · rw [if_pos c26] at H
              have LMc26 := Aside0.mk c26
              clear c26
              obtain ⟨y124, hy124⟩ : ∃ y_ : List Int, y_ = (t121 ++ [a1]) := ⟨_, rfl⟩
              replace H : ((stats_Rank.f a1 y124 true).bind fun bt127 => ((foolscaplaw16_own.f l0).bind fun t129 => (if t129.length < 17592186044416 then ((stats_Rank.f a1 (t129 ++ [a1]) false).bind fun bt135 => (if t109 = 5 then (foolscaplaw16_StatsGrows.j1 kj10 l0 bt127.1 bt135.1 true) else (if bt127.2 = 0 then (foolscaplaw16_StatsGrows.j1 kj10 l0 bt127.1 bt135.1 (bt135.2 != 0)) else (foolscaplaw16_StatsGrows.j1 kj10 l0 bt127.1 bt135.1 true)))) else (none)))) = some r := by first | (rw [hy124]; with_reducible exact H) | (have H2_ := (Option.bind_some _ _).symm.trans H; rw [hy124]; with_reducible exact H2_) | (have H2_ := (Option.bind_some _ _).symm.trans H; with_reducible exact H2_) | with_reducible exact H | (rw [hy124]; exact H) | exact H
              have Ny124 := Aside0.mk hy124
              clear hy124
              replace H := Option.bind_eq_some_iff.mp H
              obtain ⟨⟨t127, t128⟩, A270, H⟩ := H
              replace H : ((foolscaplaw16_own.f l0).bind fun t129 => (if t129.length < 17592186044416 then ((stats_Rank.f a1 (t129 ++ [a1]) false).bind fun bt135 => (if t109 = 5 then (foolscaplaw16_StatsGrows.j1 kj10 l0 t127 bt135.1 true) else (if t128 = 0 then (foolscaplaw16_StatsGrows.j1 kj10 l0 t127 bt135.1 (bt135.2 != 0)) else (foolscaplaw16_StatsGrows.j1 kj10 l0 t127 bt135.1 true)))) else (none))) = some r := H
              have A27 := Aside0.mk A270
              clear A270
              replace H := Option.bind_eq_some_iff.mp H
              obtain ⟨t129, A280, H⟩ := H
              replace H : (if t129.length < 17592186044416 then ((stats_Rank.f a1 (t129 ++ [a1]) false).bind fun bt135 => (if t109 = 5 then (foolscaplaw16_StatsGrows.j1 kj10 l0 t127 bt135.1 true) else (if t128 = 0 then (foolscaplaw16_StatsGrows.j1 kj10 l0 t127 bt135.1 (bt135.2 != 0)) else (foolscaplaw16_StatsGrows.j1 kj10 l0 t127 bt135.1 true)))) else (none)) = some r := H
              have A28 := Aside0.mk A280
              clear A280
              by_cases c29 : t129.length < 17592186044416
              · rw [if_pos c29] at H
                have LMc29 := Aside0.mk c29
                clear c29
                obtain ⟨y132, hy132⟩ : ∃ y_ : List Int, y_ = (t129 ++ [a1]) := ⟨_, rfl⟩
                replace H : ((stats_Rank.f a1 y132 false).bind fun bt135 => (if t109 = 5 then (foolscaplaw16_StatsGrows.j1 kj10 l0 t127 bt135.1 true) else (if t128 = 0 then (foolscaplaw16_StatsGrows.j1 kj10 l0 t127 bt135.1 (bt135.2 != 0)) else (foolscaplaw16_StatsGrows.j1 kj10 l0 t127 bt135.1 true)))) = some r := by first | (rw [hy132]; with_reducible exact H) | (have H2_ := (Option.bind_some _ _).symm.trans H; rw [hy132]; with_reducible exact H2_) | (have H2_ := (Option.bind_some _ _).symm.trans H; with_reducible exact H2_) | with_reducible exact H | (rw [hy132]; exact H) | exact H
                have Ny132 := Aside0.mk hy132
                clear hy132
                replace H := Option.bind_eq_some_iff.mp H
                obtain ⟨⟨t135, t136⟩, A300, H⟩ := H
                replace H : (if t109 = 5 then (foolscaplaw16_StatsGrows.j1 kj10 l0 t127 t135 true) else (if t128 = 0 then (foolscaplaw16_StatsGrows.j1 kj10 l0 t127 t135 (t136 != 0)) else (foolscaplaw16_StatsGrows.j1 kj10 l0 t127 t135 true))) = some r := H
                have A30 := Aside0.mk A300
                clear A300
                have HC31 := Aside0.mk H
                clear H
                go_upto_region 10 with (first | ((with_reducible refine gate_callee (f := 10) rfl ?_); refine goesL_ (some 68) rfl rfl Try.func10 (by kernel_rfl) rfl #[.slice A0 l0.length c0] rfl (by (try simp only [List.map_toArray, List.map_cons, List.map_nil]); first | done | rfl | (simp only [List.length_drop, List.length_take]; rfl)) ?_; (with_reducible refine (foolscaplaw16_own.calls _ _ l0 t121 _ ?side1 ?side2 A25.out).mono ?_); (case side1 => repeat (first | exact (Kd.C_below HR0.out HB.out) | (with_reducible refine Kd.C_alloc ?_ _) | (with_reducible refine Kd.C_drewN ?_ _) | (with_reducible refine Kd.C_drew ?_))); (case side2 => exact HC0.out); rintro e w32 ⟨v122, rfl, ho0, hb⟩; refine ⟨_, rfl, ?_⟩; have n0_ := Aside0.mk (Kd.R_lower ho0 (below_size (by repeat (first | (with_reducible first | exact HB.out | apply below_alloc | apply pw_below_drewN | apply below_drew1) | exact HB.out)))); have n1_ := Aside0.mk (below_step (by repeat (first | (with_reducible first | exact HB.out | apply below_alloc | apply pw_below_drewN | apply below_drew1) | exact HB.out)) hb); clear HB; have HO123 := n0_; have HB := n1_; clear n0_ n1_; (try clear hb); (try clear hb2); (try clear hk); (try clear hi); (try clear ho0)) | ((with_reducible refine gate_builtin (b := .append) (xs := #[.tmp 68, .tmp 70]) rfl ?_); (try (refine gate_guard (by rfl) ?_; dsimp only)); at_builtin; refine Kd.R_append (Kd.int .i64) (w0 := w) w.heap.size rfl (.tmp 68) (.tmp 70) 22 3 (.int .i64 0) 8 rfl Try.underlying22 info3 rfl (by decide) (by omega) v122 t121 a1 [.int .i64 a1] (fun _ => True) (fun _ => False) rfl rfl ?aP (fun _ hk => hk.elim) ?aF ?aO ?aB ?aS ?aL ?_; (case aP => exact rfl); (case aB => exact (by repeat (first | (with_reducible first | exact HB.out | apply below_alloc | apply pw_below_drewN | apply below_drew1) | exact HB.out))); (case aF => exact (fun _ _ => trivial)); (case aO => exact (by (with_reducible repeat (first | apply Kd.R_alloc | apply Kd.R_drewN | apply Kd.R_drew)); exact HO123.out)); (case aS => exact (below_size (by repeat (first | (with_reducible first | exact HB.out | apply below_alloc | apply pw_below_drewN | apply below_drew1) | exact HB.out)))); (case aL => have := LMc26.out; omega); intro v125 w33 ho hb hg hat; rw [← Ny124.out] at ho; have n0_ := Aside0.mk (hb); have n1_ := Aside0.mk (ho); clear HB; clear HO123; have HB := n0_; have HO126 := n1_; clear n0_ n1_; clear ho hb hg hat; obtain ⟨Ao34, co34, eo34⟩ := Kd.R_slice HO126.out; subst eo34) | ((with_reducible refine gate_callee (f := 15) rfl ?_); refine goesL_ (some 72) rfl rfl Try.func15 (by kernel_rfl) rfl #[.int .i64 a1, .slice Ao34 y124.length co34, .bool true] rfl (by (try simp only [List.map_toArray, List.map_cons, List.map_nil]); first | done | rfl | (simp only [List.length_drop, List.length_take]; rfl)) ?_; (with_reducible refine (stats_Rank.calls a1 _ _ y124 true t127 t128 _ ?side1 ?side2 A27.out).mono ?_); (case side1 => repeat (first | exact (Kd.R_reads' HO126.out).2.2 | (with_reducible refine Kd.C_alloc ?_ _) | (with_reducible refine Kd.C_drewN ?_ _) | (with_reducible refine Kd.C_drew ?_))); (case side2 => exact (Kd.R_reads' HO126.out).2.1); rintro e w' ⟨rfl, ⟨nd, rfl⟩⟩; refine ⟨_, rfl, ?_⟩) | ((with_reducible refine gate_callee (f := 10) rfl ?_); refine goesL_ (some 78) rfl rfl Try.func10 (by kernel_rfl) rfl #[.slice A0 l0.length c0] rfl (by (try simp only [List.map_toArray, List.map_cons, List.map_nil]); first | done | rfl | (simp only [List.length_drop, List.length_take]; rfl)) ?_; (with_reducible refine (foolscaplaw16_own.calls _ _ l0 t129 _ ?side1 ?side2 A28.out).mono ?_); (case side1 => repeat (first | exact (Kd.C_below HR0.out (by repeat (first | (with_reducible first | exact HB.out | apply below_alloc | apply pw_below_drewN | apply below_drew1) | exact HB.out))) | (with_reducible refine Kd.C_alloc ?_ _) | (with_reducible refine Kd.C_drewN ?_ _) | (with_reducible refine Kd.C_drew ?_))); (case side2 => exact HC0.out); rintro e w35 ⟨v130, rfl, ho0, hb⟩; refine ⟨_, rfl, ?_⟩; have n0_ := Aside0.mk (Kd.R_elder' (by (with_reducible repeat (first | apply Kd.R_alloc | apply Kd.R_drewN | apply Kd.R_drew)); exact HO126.out) (Kd.R_base ho0) hb); have n1_ := Aside0.mk (Kd.R_lower (Kd.R_new' ho0 (Kd.R_lt (by (with_reducible repeat (first | apply Kd.R_alloc | apply Kd.R_drewN | apply Kd.R_drew)); exact HO126.out))) (below_size (by repeat (first | (with_reducible first | exact HB.out | apply below_alloc | apply pw_below_drewN | apply below_drew1) | exact HB.out)))); have n2_ := Aside0.mk (below_step (by repeat (first | (with_reducible first | exact HB.out | apply below_alloc | apply pw_below_drewN | apply below_drew1) | exact HB.out)) hb); clear HO126; clear HB; have HO126 := n0_; have HO131 := n1_; have HB := n2_; clear n0_ n1_ n2_; (try clear hb); (try clear hb2); (try clear hk); (try clear hi); (try clear ho0)) | ((with_reducible refine gate_builtin (b := .append) (xs := #[.tmp 78, .tmp 80]) rfl ?_); (try (refine gate_guard (by rfl) ?_; dsimp only)); at_builtin; refine Kd.R_append (Kd.int .i64) (w0 := w) w.heap.size rfl (.tmp 78) (.tmp 80) 22 3 (.int .i64 0) 8 rfl Try.underlying22 info3 rfl (by decide) (by omega) v130 t129 a1 [.int .i64 a1] (fun k_ => some k_ ≠ (.slice Ao34 y124.length co34 : Value).ownBlock) (fun _ => False) rfl rfl ?aP (fun _ hk => hk.elim) ?aF ?aO ?aB ?aS ?aL ?_; (case aP => exact rfl); (case aB => exact (by repeat (first | (with_reducible first | exact HB.out | apply below_alloc | apply pw_below_drewN | apply below_drew1) | exact HB.out))); (case aF => exact (fun k_ hk => Kd.fresh' (Kd.R_lt (by (with_reducible repeat (first | apply Kd.R_alloc | apply Kd.R_drewN | apply Kd.R_drew)); exact HO126.out)) k_ hk)); (case aO => exact (by (with_reducible repeat (first | apply Kd.R_alloc | apply Kd.R_drewN | apply Kd.R_drew)); exact Kd.R_mono HO131.out (fun _ hk => hk.2))); (case aS => exact (below_size (by repeat (first | (with_reducible first | exact HB.out | apply below_alloc | apply pw_below_drewN | apply below_drew1) | exact HB.out)))); (case aL => have := LMc29.out; omega); intro v133 w36 ho hb hg hat; rw [← Ny132.out] at ho; have n0_ := Aside0.mk (Kd.R_after (ok := (fun _ => True)) (by (with_reducible repeat (first | apply Kd.R_alloc | apply Kd.R_drewN | apply Kd.R_drew)); exact HO126.out) hg hat); have n1_ := Aside0.mk (hb); have n2_ := Aside0.mk (ho); clear HO126; clear HB; clear HO131; have HO126 := n0_; have HB := n1_; have HO134 := n2_; clear n0_ n1_ n2_; clear ho hb hg hat; obtain ⟨Ao37, co37, eo37⟩ := Kd.R_slice HO134.out; subst eo37) | ((with_reducible refine gate_callee (f := 15) rfl ?_); refine goesL_ (some 82) rfl rfl Try.func15 (by kernel_rfl) rfl #[.int .i64 a1, .slice Ao37 y132.length co37, .bool false] rfl (by (try simp only [List.map_toArray, List.map_cons, List.map_nil]); first | done | rfl | (simp only [List.length_drop, List.length_take]; rfl)) ?_; (with_reducible refine (stats_Rank.calls a1 _ _ y132 false t135 t136 _ ?side1 ?side2 A30.out).mono ?_); (case side1 => repeat (first | exact (Kd.R_reads' HO134.out).2.2 | (with_reducible refine Kd.C_alloc ?_ _) | (with_reducible refine Kd.C_drewN ?_ _) | (with_reducible refine Kd.C_drew ?_))); (case side2 => exact (Kd.R_reads' HO134.out).2.1); rintro e w' ⟨rfl, ⟨nd, rfl⟩⟩; refine ⟨_, rfl, ?_⟩))
                (try simp only [Act.put, List.setIfInBounds_toArray, List.set_cons_zero, List.set_cons_succ])
                go_cut [94] (fun v94 wc => ∃ (kq : Nat) (x94_30 : Bool), v94 = .bool x94_30 ∧ Aside0 (foolscaplaw16_StatsGrows.j1 kq l0 t127 t135 x94_30 = some r) ∧ Aside0 (kq ≤ kj10) ∧ Aside0 (Below w.heap.size w wc))
                case first =>
                  have H := HC31.out
                  clear HC31
                  by_cases c38 : t109 = 5
                  · rw [if_pos c38] at H
                    have c38b0 : (t109 == 5) = true := beq_iff_eq.mpr c38
                    have c38b1 : (t109 != 5) = false := bne_eq_false_iff_eq.mpr c38
                    clear c38
                    (first | rw [c38b0] | (simp only [i64_w, i32_w]; rw [c38b0]) | skip)
                    have H' := Aside0.mk H
                    clear H
                    go_wp2
                    go_meet
                    case rel => exact ⟨_, (true), (by first | rfl | (simp; done) | (simp [*]; done)), H', ⟨by have := HJ10.out; first | omega | exact Nat.le_refl _⟩, ⟨by repeat (first | (with_reducible first | exact HB.out | apply below_alloc | apply pw_below_drewN | apply below_drew1) | exact HB.out)⟩⟩
                  · rw [if_neg c38] at H
                    have c38b0 : (t109 == 5) = false := beq_eq_false_iff_ne.mpr c38
                    have c38b1 : (t109 != 5) = true := bne_iff_ne.mpr c38
                    (first | rw [c38b0] | (simp only [i64_w, i32_w]; rw [c38b0]) | skip)
                    by_cases c39 : t128 = 0
                    · rw [if_pos c39] at H
                      have c39b0 : (t128 == 0) = true := beq_iff_eq.mpr c39
                      have c39b1 : (t128 != 0) = false := bne_eq_false_iff_eq.mpr c39
                      clear c39
                      have H' := Aside0.mk H
                      clear H
                      go_wp2
                      go_meet
                      case rel => exact ⟨_, ((t136 != 0)), (by first | rfl | (simp; done) | (simp [*]; done)), H', ⟨by have := HJ10.out; first | omega | exact Nat.le_refl _⟩, ⟨by repeat (first | (with_reducible first | exact HB.out | apply below_alloc | apply pw_below_drewN | apply below_drew1) | exact HB.out)⟩⟩
                    · rw [if_neg c39] at H
                      have c39b0 : (t128 == 0) = false := beq_eq_false_iff_ne.mpr c39
                      have c39b1 : (t128 != 0) = true := bne_iff_ne.mpr c39
                      have H' := Aside0.mk H
                      clear H
                      go_wp2
                      go_meet
                      case rel => exact ⟨_, (true), (by first | rfl | (simp; done) | (simp [*]; done)), H', ⟨by have := HJ10.out; first | omega | exact Nat.le_refl _⟩, ⟨by repeat (first | (with_reducible first | exact HB.out | apply below_alloc | apply pw_below_drewN | apply below_drew1) | exact HB.out)⟩⟩
                case rest =>
                  clear HC31
                  try clear c1
                  try clear c2
                  try clear p2
                  try clear c3
                  try clear c3b0
                  try clear c3b1
                  try clear c5
                  try clear c8
                  try clear c9
                  try clear c10
                  try clear c15
                  try clear c17
                  try clear c17b0
                  try clear c17b1
                  try clear c19
                  try clear c20
                  try clear c20b0
                  try clear c20b1
                  try clear c20b2
                  try clear c21
                  try clear c21b0
                  try clear c21b1
                  try clear c22
                  try clear c22b0
                  try clear c22b1
                  try clear c23
                  try clear c23b0
                  try clear c23b1
                  try clear c24
                  try clear c26
                  try clear c29
                  try clear c38
                  try clear c38b0
                  try clear c38b1
                  try clear c39
                  try clear c39b0
                  try clear c39b1
                  try clear p2
                  obtain ⟨kq, x94_30, rfl, HA, HJ30, HB⟩ := hcut
                  cases kq with
                  | zero => exact absurd HA.out (by simp [foolscaplaw16_StatsGrows.j1])
                  | succ kj30 =>
                    have H := HA.out
                    clear HA
                    simp only [foolscaplaw16_StatsGrows.j1] at H
                    by_cases c40 : x94_30 = true
                    · subst c40
                      have H1 : ((foolscaplaw16_lives.f).bind fun t137 => (some t137)) = some r := by rw [if_pos rfl] at H; exact H
                      clear H
                      have H := H1
                      clear H1
                      replace H := Option.bind_eq_some_iff.mp H
                      obtain ⟨t137, A410, H⟩ := H
                      replace H : (some t137) = some r := H
                      have A41 := Aside0.mk A410
                      clear A410
                      obtain rfl := Option.some.inj H
                      go_wp2_with (first | ((with_reducible refine gate_callee (f := 9) rfl ?_); refine goesL_ (some 95) rfl rfl Try.func9 (by kernel_rfl) rfl #[] rfl (by (try simp only [List.map_toArray, List.map_cons, List.map_nil]); first | done | rfl | (simp only [List.length_drop, List.length_take]; rfl)) ?_; (with_reducible refine (foolscaplaw16_lives.calls  t137 _ A41.out).mono ?_); rintro e w42 ⟨rfl, hb⟩; refine ⟨_, rfl, ?_⟩; have n0_ := Aside0.mk (below_step (by repeat (first | (with_reducible first | exact HB.out | apply below_alloc | apply pw_below_drewN | apply below_drew1) | exact HB.out)) hb); clear HB; have HB := n0_; clear n0_; (try clear hb); (try clear hb2); (try clear hk); (try clear hi)))
                      go_ret
                      exact ⟨by first | rfl | (simp [errW_none, errW_some] <;> rfl) | (simp [*, errW_none, errW_some] <;> rfl), by repeat (first | (with_reducible first | exact HB.out | apply below_alloc | apply pw_below_drewN | apply below_drew1) | exact HB.out)⟩
                    · replace c40 := Bool.eq_false_iff.mpr c40
                      subst c40
                      have H1 : (if t127 ≥ 1000000 then (if t135 ≥ 1000000 then (if (wrap64 (t127 + t135)) ≤ (wrap64 ((wrap64 ((l0.length : Int) + 2)) * 1000000)) then ((foolscaplaw16_lives.f).bind fun t138 => (some t138)) else (none)) else (none)) else (none)) = some r := by rw [if_neg (show ¬ (false = true) by decide)] at H; exact H
                      clear H
                      have H := H1
                      clear H1
                      by_cases c43 : t127 ≥ 1000000
                      · rw [if_pos c43] at H
                        have c43b0 : decide (1000000 ≤ t127) = true := decide_eq_true c43
                        clear c43
                        by_cases c44 : t135 ≥ 1000000
                        · rw [if_pos c44] at H
                          have c44b0 : decide (1000000 ≤ t135) = true := decide_eq_true c44
                          clear c44
                          by_cases c45 : (wrap64 (t127 + t135)) ≤ (wrap64 ((wrap64 ((l0.length : Int) + 2)) * 1000000))
                          · rw [if_pos c45] at H
                            have c45b0 : decide ((wrap64 (t127 + t135)) ≤ (wrap64 ((wrap64 ((l0.length : Int) + 2)) * 1000000))) = true := decide_eq_true c45
                            clear c45
                            replace H := Option.bind_eq_some_iff.mp H
                            obtain ⟨t138, A460, H⟩ := H
                            replace H : (some t138) = some r := H
                            have A46 := Aside0.mk A460
                            clear A460
                            obtain rfl := Option.some.inj H
                            go_wp2_with (first | (go_at_call 9; (with_reducible refine (foolscaplaw16_lives.calls  t138 _ A46.out).mono ?_); rintro e w47 ⟨rfl, hb⟩; have n0_ := Aside0.mk (below_step (by repeat (first | (with_reducible first | exact HB.out | apply below_alloc | apply pw_below_drewN | apply below_drew1) | exact HB.out)) hb); clear HB; have HB := n0_; clear n0_; (try clear hb); (try clear hb2); (try clear hk); (try clear hi)))
                            go_ret
                            exact ⟨by first | rfl | (simp [errW_none, errW_some] <;> rfl) | (simp [*, errW_none, errW_some] <;> rfl), by repeat (first | (with_reducible first | exact HB.out | apply below_alloc | apply pw_below_drewN | apply below_drew1) | exact HB.out)⟩
                          · rw [if_neg c45] at H
                            exact absurd H (by simp)
                        · rw [if_neg c44] at H
                          exact absurd H (by simp)
                      · rw [if_neg c43] at H
                        exact absurd H (by simp)
              · rw [if_neg c29] at H
                exact absurd H (by simp)
            · rw [if_neg c26] at H
              exact absurd H (by simp)
    · rw [if_neg c8] at H
      exact absurd H (by simp)

/-- THE ONE PURE STATEMENT of foolscaplaw16_StatsGrows: yours. -/
def foolscaplaw16_StatsGrows.Pure : Prop := ∀ (l0 : List Int) (a1 : Int), l0.length ≤ maxLen → l0.length * 8 ≤ 140737488351232 → (∀ x ∈ l0, (Lit.int .i64 x).wf = true) → (Lit.int .i64 a1).wf = true → ∃ k, foolscaplaw16_StatsGrows.f k l0 a1 = some true
theorem foolscaplaw16_StatsGrows.walk (P : foolscaplaw16_StatsGrows.Pure) (a0 : Option Addr) (len0 cap0 : Nat) (z0 : List Int) (a1 : Int) (w : World) (w0 : (a0 = none ∧ len0 = 0 ∧ cap0 = 0 ∧ z0 = []) ∨ ∃ x, a0 = some x ∧ len0 ≤ cap0 ∧ cap0 ≤ maxLen ∧ z0.length = cap0 ∧ (∀ i, i < z0.length → w.cell? (x.add i) = some (.int .i64 (z0.getD i 0))) ∧ ∀ n ∈ z0, (Lit.int .i64 n).wf = true) (y0 : len0 * 8 ≤ 140737488351232) (w1 : (Lit.int .i64 a1).wf = true) :
    Calls Try.prog 5 #[.slice a0 len0 cap0, .int .i64 a1] w fun e w' => e = .returned (.bool true) ∧ Below w.heap.size w w' := by
  obtain ⟨l0, rfl, hr0, hm0, hw0, hc0⟩ := ReadsInt.ofRowC w0
  obtain ⟨k, h⟩ := P l0 a1 hm0 y0 hw0 w1
  refine (foolscaplaw16_StatsGrows.calls k _ _ l0 a1 true w (Kd.C_of_reads (d := (0 : Int)) (h1 := fun _ => rfl) hr0) hc0 h).mono ?_
  rintro e w' ⟨rfl, hd⟩
  exact ⟨rfl, hd⟩

end Go.Proofs.Ytnmiagcjfbdfkaa.PStatsGrows
