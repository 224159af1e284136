/- A float with the other sign stands for the number with the other sign; so does a number. The law in plain numbers. No condition. -/
import Derived.Test.YtfaoilalhneijaaPRealMirrorx
import Derived.Test.YtfaoilalhneijaaGPure
namespace Go.Proofs.Ytfaoilalhneijaa.Pure
open Go Go.RowKit FO FB FK FV FL FOf FM FTo FTr FTc FTd FTe FX FY FZ
open Go.Proofs.YtfaoilalhneijaaW.PrintWords Go.Proofs.YtfaoilalhneijaaW.PrintLast
local notation "infR" => (9218868437227405312 : Nat)
theorem wfu {a : Int} (h : (Lit.int .u64 a).wf = true) : 0 ≤ a ∧ a < 18446744073709551616 := by
  simp [Lit.wf, IntKind.min, IntKind.max, IntKind.bits, IntKind.signed] at h
  omega
theorem wfi {a : Int} (h : (Lit.int .i64 a).wf = true) : -9223372036854775808 ≤ a ∧ a < 9223372036854775808 := by
  simp [Lit.wf, IntKind.min, IntKind.max, IntKind.bits, IntKind.signed] at h
  omega
theorem xor_flip (n : Nat) (h : n < 18446744073709551616) : bits .xor .u64 (n : Int) 9223372036854775808 = ((flip n : Nat) : Int) := by
  show IntKind.u64.wrap ((BitVec.ofInt 64 (n : Int) ^^^ 9223372036854775808#64).toNat : Int) = _
  rw [BitVec.toNat_xor, bv_nat n h]
  show IntKind.u64.wrap ((n ^^^ 9223372036854775808 : Nat) : Int) = _
  rw [xor_top n h]
  exact wrap_nat _ (flip_facts h).1
theorem wneg {x : Int} (h1 : -1000000000000000000 ≤ x) (h2 : x ≤ 1000000000000000000) : wrap64 (-x) = -x := by unfold wrap64; omega
theorem RealMirror : PRealMirror.foolscaplaw02_RealMirror.Pure := by
  intro a x h g
  obtain ⟨h0, h1⟩ := wfu h
  obtain ⟨n, rfl⟩ := Int.eq_ofNat_of_zero_le h0
  have hn : n < 18446744073709551616 := by omega
  obtain ⟨m1, m2, m3⟩ := flip_facts hn
  obtain ⟨o1, o2, o3, o4⟩ := of_flip hn
  refine ⟨2, ?_⟩
  unfold PRealMirror.foolscaplaw02_RealMirror.f
  simp only [PRealMirror.foolscaplaw02_RealMirror.j0, PRealMirror.foolscaplaw02_RealMirror.j1, PRealMirror.foolscaplaw02_lives.f, PRealMirror.foolscaplaw02_of.f, PRealMirror.foolscaplaw02_bits.f, PRealMirror.real_Of.f, PRealMirror.real_To.f, ofC, Option.bind_some, xor_flip n hn, Int.toNat_natCast, if_pos hn, if_pos m1]
  rw [wneg (show -1000000000000000000 ≤ (ofN (flip n)).1 by omega) (show (ofN (flip n)).1 ≤ 1000000000000000000 by omega), if_pos o2, if_neg (show ¬ ((ofN n).2 != (ofN (flip n)).2) = true by rw [o1]; simp)]
  by_cases c1 : x < -4611686018427387904
  · rw [if_pos c1, if_pos trivial]
  rw [if_neg c1]
  by_cases c2 : x > 4611686018427387904
  · rw [if_pos c2, if_pos trivial]
  rw [if_neg c2]
  by_cases c3 : x = 0
  · rw [if_pos (by rw [c3]; rfl)]
  rw [if_neg (by rw [beq_iff_eq]; exact c3)]
  have w : wrap64 (-x) = -x := by unfold wrap64; omega
  obtain ⟨t1, t2⟩ := to_flip c3
  rw [w, if_pos t1.symm]
  by_cases c4 : (toN x).2 = 0
  · rw [if_pos c4, t2 c4]
    have hl : (toN (-x)).1 < 18446744073709551616 := by
      have e := toN_ok (n := -x) (by omega)
      exact (toN_facts e.1 e.2).2.2.2.1
    rw [xor_flip _ hl, if_pos rfl]
  · rw [if_neg c4]
end Go.Proofs.Ytfaoilalhneijaa.Pure
