/- Of two floats that are not alike one is below the other one, but for those that are not numbers; the row goes on. The law in plain numbers. No condition. -/
import Derived.Test.YtfaoilalhneijaaPRealOrderx
import Derived.Test.YtfaoilalhneijaaGPure
namespace Go.Proofs.Ytfaoilalhneijaa.Pure
open Go Go.RowKit FO FB FK FV FL FOf FM FTo FTr FTc FTd FTe FX FY FZ
open Go.Proofs.YtfaoilalhneijaaW.PrintWords Go.Proofs.YtfaoilalhneijaaW.PrintLast
local notation "infR" => (9218868437227405312 : Nat)
theorem wfu {a : Int} (h : (Lit.int .u64 a).wf = true) : 0 ≤ a ∧ a < 18446744073709551616 := by
  simp [Lit.wf, IntKind.min, IntKind.max, IntKind.bits, IntKind.signed] at h
  omega
theorem wfi {a : Int} (h : (Lit.int .i64 a).wf = true) : -9223372036854775808 ≤ a ∧ a < 9223372036854775808 := by
  simp [Lit.wf, IntKind.min, IntKind.max, IntKind.bits, IntKind.signed] at h
  omega
theorem RealOrder : PRealOrder.foolscaplaw02_RealOrder.Pure := by
  intro a b c h g i
  obtain ⟨h0, h1⟩ := wfu h
  obtain ⟨n, rfl⟩ := Int.eq_ofNat_of_zero_le h0
  obtain ⟨g0, g1⟩ := wfu g
  obtain ⟨m, rfl⟩ := Int.eq_ofNat_of_zero_le g0
  obtain ⟨i0, i1⟩ := wfu i
  obtain ⟨l, rfl⟩ := Int.eq_ofNat_of_zero_le i0
  have hn : n < 18446744073709551616 := by omega
  have hm : m < 18446744073709551616 := by omega
  have hl : l < 18446744073709551616 := by omega
  refine ⟨2, ?_⟩
  unfold PRealOrder.foolscaplaw02_RealOrder.f
  simp only [PRealOrder.foolscaplaw02_RealOrder.j0, PRealOrder.foolscaplaw02_RealOrder.j1, PRealOrder.foolscaplaw02_lives.f, PRealOrder.foolscaplaw02_of.f, PRealOrder.real_Kind.f, PRealOrder.real_Less.f, kindC, lessC, Option.bind_some, Int.toNat_natCast, if_pos hn, if_pos hm, if_pos (And.intro hn hm), if_pos (And.intro hm hn), if_pos (And.intro hn hn), if_pos (And.intro hm hl), if_pos (And.intro hn hl), less_irr]
  have last : (if lessN n m = true then if lessN m l = true then if lessN n l = true then some true else none else some true else some true) = some true := by
    split
    · split
      · rename_i z1 z2; rw [less_trans z1 z2]; rfl
      · rfl
    · rfl
  have mid : ∀ none' : Bool, ((¬ (infR < rung n ∧ infR < rung m)) ∨ none' = true) → (if lessN n m = true then
        if lessN m n = true then (if true = true then (none : Option Bool) else if lessN n m = true then if lessN m l = true then if lessN n l = true then some true else none else some true else some true)
        else if false = true then (if true = true then none else if lessN n m = true then if lessN m l = true then if lessN n l = true then some true else none else some true else some true)
        else if none' = true then (if false = true then none else if lessN n m = true then if lessN m l = true then if lessN n l = true then some true else none else some true else some true)
        else if (n : Int) = (m : Int) then (if false = true then none else if lessN n m = true then if lessN m l = true then if lessN n l = true then some true else none else some true else some true)
        else if lessN n m = true then (if false = true then none else if lessN n m = true then if lessN m l = true then if lessN n l = true then some true else none else some true else some true)
        else (if (!lessN m n) = true then none else if lessN n m = true then if lessN m l = true then if lessN n l = true then some true else none else some true else some true)
      else if false = true then (if true = true then none else if lessN n m = true then if lessN m l = true then if lessN n l = true then some true else none else some true else some true)
        else if none' = true then (if false = true then none else if lessN n m = true then if lessN m l = true then if lessN n l = true then some true else none else some true else some true)
        else if (n : Int) = (m : Int) then (if false = true then none else if lessN n m = true then if lessN m l = true then if lessN n l = true then some true else none else some true else some true)
        else if lessN n m = true then (if false = true then none else if lessN n m = true then if lessN m l = true then if lessN n l = true then some true else none else some true else some true)
        else (if (!lessN m n) = true then none else if lessN n m = true then if lessN m l = true then if lessN n l = true then some true else none else some true else some true)) = some true := by
    intro none' hnone
    rw [last]
    cases e1 : lessN n m
    · simp only [Bool.false_eq_true, if_false]
      by_cases e2 : none' = true
      · rw [if_pos e2]
      · rw [if_neg e2]
        by_cases e3 : (n : Int) = (m : Int)
        · rw [if_pos e3]
        · rw [if_neg e3]
          have : lessN m n = true := by
            rcases less_total (show n ≠ m by omega) hn hm (hnone.resolve_right e2) with z | z
            · rw [z] at e1; exact absurd e1 (by decide)
            · exact z
          rw [this]; rfl
    · rw [less_asym e1]; simp
  by_cases c1 : kindN (rung n) = 0
  · rw [if_pos c1]
    refine mid (kindN (rung m) == 0) ?_
    by_cases c2 : kindN (rung m) = 0
    · right; rw [c2]; rfl
    · left; intro z; exact c2 (kindN_zero.2 z.2)
  · rw [if_neg c1]
    exact mid false (.inl fun z => c1 (kindN_zero.2 z.1))
end Go.Proofs.Ytfaoilalhneijaa.Pure
