/- The greatest divisor divides all, and the least multiple is divided by all; of two numbers their product is the product of both. The law in plain numbers. No condition. -/
import Derived.Test.YtbgiehmpdligdaaPMathsDividesx
import Derived.Test.YtbgiehmpdligdaaHPure
set_option linter.unusedVariables false
namespace Go.Proofs.Ytbgiehmpdligdaa.Pure
open Go Go.RowKit MA MB MC ME MF MG MH
open Go.Proofs.YtbgiehmpdligdaaW.PrintWords Go.Proofs.YtbgiehmpdligdaaW.PrintLast Go.Proofs.YtbgiehmpdligdaaW.PrintMore
theorem wfi {a : Int} (h : (Lit.int .i64 a).wf = true) : -9223372036854775808 ≤ a ∧ a < 9223372036854775808 := by
  simp [Lit.wf, IntKind.min, IntKind.max, IntKind.bits, IntKind.signed] at h
  omega
theorem tm_n (a b : Nat) : Int.tmod (a : Int) (b : Int) = ((a % b : Nat) : Int) := by rw [Int.tmod_eq_emod_of_nonneg (by omega)]; rfl
theorem okv_u {A : Nat} (h : A ≤ 1000000) : okv ((A * 1000000 : Nat) : Int) := ⟨⟨by omega, by omega⟩, by omega⟩
theorem whole_u {A : Nat} : ((A * 1000000 : Nat) : Int).toNat / 1000000 = A := by rw [Int.toNat_natCast]; omega
theorem lcm2 {A B : Nat} (ha : 1 ≤ A) (hb : 1 ≤ B) (ha2 : A ≤ 1000000) (hb2 : B ≤ 1000000) : lcmF 1 [A, B] = some (A * (B / Nat.gcd A B)) := by
  obtain ⟨g1, g2, g3, g4⟩ := by_facts ha hb (by omega)
  have hm : A * (B / Nat.gcd A B) ≤ 1000000 * 1000000 := Nat.mul_le_mul ha2 (Nat.le_trans (Nat.div_le_self _ _) hb2)
  have h1 : 1 ≤ 1000000000000 / A := (Nat.le_div_iff_mul_le (by omega)).2 (by omega)
  have h2 : A ≤ 1000000000000 / (B / Nat.gcd A B) := (Nat.le_div_iff_mul_le (by omega)).2 (by omega)
  unfold lcmF
  rw [Nat.gcd_one_left, Nat.div_one, if_neg (by omega), Nat.one_mul]
  unfold lcmF
  rw [if_neg (by omega)]
  rfl
theorem wdu {x : Nat} (h : x ≤ 1000000000000) : wrap64 (Int.tdiv ((x * 1000000 : Nat) : Int) 1000000) = (x : Int) := by
  have := wdiv_n (a := x * 1000000) (b := 1000000) (by omega)
  rw [Nat.mul_div_cancel _ (by decide)] at this; exact this
theorem pos_u {x : Nat} (h : 1 ≤ x) : ¬ ((x * 1000000 : Nat) : Int) = 0 := by omega
theorem ge_u {x : Nat} (h : 1 ≤ x) : ¬ ((x * 1000000 : Nat) : Int) < 1000000 := by omega
theorem MathsDivides : PMathsDivides.foolscaplaw15_MathsDivides.Pure := by
  intro a b c _ _ _
  refine ⟨1, ?_⟩
  unfold PMathsDivides.foolscaplaw15_MathsDivides.f
  simp only [PMathsDivides.foolscaplaw15_MathsDivides.j0, PMathsDivides.maths_Gcd.f, PMathsDivides.maths_Lcm.f, PMathsDivides.foolscaplaw15_lives.f, Option.bind_some]
  by_cases c1 : a < 1
  · rw [if_pos c1, if_pos trivial]
  rw [if_neg c1]
  by_cases c2 : b < 1
  · rw [if_pos c2, if_pos trivial]
  rw [if_neg c2]
  by_cases c3 : c < 1
  · rw [if_pos c3, if_pos trivial]
  rw [if_neg c3]
  by_cases c4 : a > 1000000
  · rw [if_pos c4, if_pos trivial]
  rw [if_neg c4]
  by_cases c5 : b > 1000000
  · rw [if_pos c5, if_pos trivial]
  rw [if_neg c5]
  by_cases c6 : c > 1000000
  · rw [decide_eq_true c6, if_pos rfl]
  rw [decide_eq_false c6, if_neg (by decide)]
  obtain ⟨A, rfl⟩ := Int.eq_ofNat_of_zero_le (show 0 ≤ a by omega)
  obtain ⟨B, rfl⟩ := Int.eq_ofNat_of_zero_le (show 0 ≤ b by omega)
  obtain ⟨C, rfl⟩ := Int.eq_ofNat_of_zero_le (show 0 ≤ c by omega)
  have a1 : 1 ≤ A := by omega
  have a2 : A ≤ 1000000 := by omega
  have b1 : 1 ≤ B := by omega
  have b2 : B ≤ 1000000 := by omega
  have d1 : 1 ≤ C := by omega
  have d2 : C ≤ 1000000 := by omega
  clear c1 c2 c3 c4 c5 c6
  have w1 : ∀ n : Nat, n ≤ 1000000 → wrap64 ((n : Int) * 1000000) = ((n * 1000000 : Nat) : Int) := fun n h => wrap_n (x := n * 1000000) (by omega)
  rw [w1 A a2, w1 B b2, w1 C d2]
  clear w1
  have g3 : gcdC [((A * 1000000 : Nat) : Int), ((B * 1000000 : Nat) : Int), ((C * 1000000 : Nat) : Int)] = some (((Nat.gcd (Nat.gcd A B) C * 1000000 : Nat) : Int), 0) := by
    unfold gcdC gcdN
    rw [if_pos (by simp), if_pos (good_cons.2 ⟨okv_u a2, good_cons.2 ⟨okv_u b2, good_cons.2 ⟨okv_u d2, good_nil⟩⟩⟩)]
    rw [whole_cons, whole_cons, whole_cons, whole_u, whole_u, whole_u]
    unfold gcdF
    show some (((Nat.gcd (Nat.gcd (Nat.gcd 0 A) B) C * 1000000 : Nat) : Int), (0 : Int)) = _
    rw [Nat.gcd_zero_left]
  have g2 : gcdC [((A * 1000000 : Nat) : Int), ((B * 1000000 : Nat) : Int)] = some (((Nat.gcd A B * 1000000 : Nat) : Int), 0) := by
    unfold gcdC gcdN
    rw [if_pos (by simp), if_pos (good_cons.2 ⟨okv_u a2, good_cons.2 ⟨okv_u b2, good_nil⟩⟩)]
    rw [whole_cons, whole_cons, whole_u, whole_u]
    unfold gcdF
    show some (((Nat.gcd (Nat.gcd 0 A) B * 1000000 : Nat) : Int), (0 : Int)) = _
    rw [Nat.gcd_zero_left]
  have l2 : lcmC [((A * 1000000 : Nat) : Int), ((B * 1000000 : Nat) : Int)] = some (((A * (B / Nat.gcd A B) * 1000000 : Nat) : Int), 0) := by
    unfold lcmC lcmN
    rw [if_pos (by simp), if_pos (good_cons.2 ⟨okv_u a2, good_cons.2 ⟨okv_u b2, good_nil⟩⟩)]
    rw [whole_cons, whole_cons, whole_u, whole_u]
    have hn : (0 : Nat) ∉ A :: B :: whole [] := by
      simp [whole]; omega
    rw [if_neg hn]
    show some (toldO (lcmF 1 [A, B])) = _
    rw [lcm2 a1 b1 a2 b2]; rfl
  rw [g3, g2, l2]
  rw [Option.bind_some, Option.bind_some, Option.bind_some]
  dsimp only
  rw [if_pos rfl, if_pos rfl, if_pos rfl]
  clear g3 g2 l2
  obtain ⟨q1, q2, q3, q4⟩ := by_facts a1 b1 (show B ≤ 1000000000000 by omega)
  have q5 := Nat.gcd_dvd_left A B
  have q6 := Nat.gcd_dvd_right A B
  have r1 := Nat.gcd_dvd_left (Nat.gcd A B) C
  have r2 := Nat.gcd_dvd_right (Nat.gcd A B) C
  have r3 : 1 ≤ Nat.gcd (Nat.gcd A B) C := Nat.gcd_pos_of_pos_left _ q1
  have r4 : Nat.gcd (Nat.gcd A B) C ≤ 1000000 := Nat.le_trans (Nat.gcd_le_right _ d1) d2
  have k1 := Nat.dvd_trans r1 q5
  have k2 := Nat.dvd_trans r1 q6
  have e1 : A * (B / Nat.gcd A B) * Nat.gcd A B = A * B := by rw [Nat.mul_assoc, Nat.div_mul_cancel q6]
  have e2 : A * (B / Nat.gcd A B) = B * (A / Nat.gcd A B) := by
    obtain ⟨x, hx⟩ := q5
    obtain ⟨y, hy⟩ := q6
    have h1 : A / Nat.gcd A B = x := by
      conv => lhs; lhs; rw [hx]
      exact Nat.mul_div_cancel_left _ q1
    have h2 : B / Nat.gcd A B = y := by
      conv => lhs; lhs; rw [hy]
      exact Nat.mul_div_cancel_left _ q1
    rw [h1, h2]
    generalize Nat.gcd A B = g at *
    subst hx hy
    rw [Nat.mul_assoc, Nat.mul_assoc, Nat.mul_comm y x]
  have m1 : A * (B / Nat.gcd A B) ≤ 1000000 * 1000000 := Nat.mul_le_mul a2 (Nat.le_trans (Nat.div_le_self _ _) b2)
  have m2 : A * B ≤ 1000000 * 1000000 := Nat.mul_le_mul a2 b2
  have t1 : A * (B / Nat.gcd A B) * 1000000 % (A * 1000000) = 0 := by
    rw [Nat.mul_right_comm]; exact Nat.mul_mod_right _ _
  have t2 : A * (B / Nat.gcd A B) * 1000000 % (B * 1000000) = 0 := by
    rw [e2, Nat.mul_right_comm]; exact Nat.mul_mod_right _ _
  have g4 : Nat.gcd A B ≤ 1000000 := Nat.le_trans q2 b2
  generalize hg : Nat.gcd (Nat.gcd A B) C = G at *
  generalize hd : Nat.gcd A B = D at *
  generalize hl : A * (B / D) = L at *
  have v1 : wrap64 (Int.tdiv ((G * 1000000 : Nat) : Int) 1000000) = (G : Int) := wdu (Nat.le_trans r4 (by decide))
  have v2 : wrap64 (Int.tdiv ((L * 1000000 : Nat) : Int) 1000000) = (L : Int) := wdu (Nat.le_trans m1 (by decide))
  have v3 : wrap64 (Int.tdiv ((D * 1000000 : Nat) : Int) 1000000) = (D : Int) := wdu (Nat.le_trans g4 (by decide))
  have v4 : wrap64 ((L : Int) * (D : Int)) = ((A * B : Nat) : Int) := by rw [← Int.natCast_mul, e1]; exact wrap_n (Nat.lt_of_le_of_lt m2 (by decide))
  have v5 : wrap64 ((A : Int) * (B : Int)) = ((A * B : Nat) : Int) := wrap_n (x := A * B) (Nat.lt_of_le_of_lt m2 (by decide))
  have u1 : Int.tmod ((G * 1000000 : Nat) : Int) 1000000 = 0 := by
    have := tm_n (G * 1000000) 1000000
    rw [Nat.mul_mod_left] at this; exact this
  rw [v1, v2, v3, v4, v5, u1, tm_n, tm_n, tm_n, tm_n, tm_n, t1, t2, Nat.mod_eq_zero_of_dvd k1, Nat.mod_eq_zero_of_dvd k2, Nat.mod_eq_zero_of_dvd r2]
  clear v1 v2 v3 v4 v5 u1
  have x1 : ¬ (G : Int) = 0 := by clear e1 e2 t1 t2 k1 k2 hl hd hg q5 q6 r1 r2; omega
  rw [if_neg (ge_u r3), if_pos rfl, if_neg x1]
  rw [if_pos (show ((0 : Nat) : Int) = 0 from rfl), if_pos (show ((0 : Nat) : Int) = 0 from rfl), if_pos (show ((0 : Nat) : Int) = 0 from rfl), if_neg (pos_u a1), if_pos (show ((0 : Nat) : Int) = 0 from rfl), if_neg (pos_u b1), if_pos (show ((0 : Nat) : Int) = 0 from rfl), if_pos rfl]
end Go.Proofs.Ytbgiehmpdligdaa.Pure
