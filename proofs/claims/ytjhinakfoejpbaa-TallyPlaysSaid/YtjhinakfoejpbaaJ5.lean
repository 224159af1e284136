/- Values that are alike; a value, many times. No condition stands open. -/
import Derived.Test.YtjhinakfoejpbaaJ4
import Derived.Test.YtjhinakfoejpbaaZS
import Derived.Test.YtjhinakfoejpbaaPGx1
set_option linter.unusedVariables false
set_option linter.unusedSimpArgs false
/- Values that are alike. No condition stands open. -/
namespace Go.Proofs.Ytjhinakfoejpbaa.T
open Go.RowKit Go.Proofs.Ytjhinakfoejpbaa.WPure Go.Proofs.YtjhinakfoejpbaaW.PrintWords Go.Proofs.YtjhinakfoejpbaaW.PrintLast Go.Proofs.YtjhinakfoejpbaaW.PrintMore
attribute [local go_sem high] PG.eqA25
def alikeB (x y : Val) : Bool := okV x && (okV y && decide (held x = held y))
theorem beq_held (k x : Int) (s : ByteArray) (b : Bool) (c : Int) (k2 x2 : Int) (s2 : ByteArray) (b2 : Bool) (c2 : Int) : (k == k2 && (x == x2 && (s.toList == s2.toList && (b == b2 && c == c2)))) = decide ((k, x, s, b, c) = (k2, x2, s2, b2, c2)) := by
  rw [Bool.eq_iff_iff, decide_eq_true_iff]
  simp only [Bool.and_eq_true, beq_iff_eq, Prod.mk.injEq]
  constructor
  · rintro ⟨h1, h2, h3, h4, h5⟩
    exact ⟨h1, h2, toList_inj h3, h4, h5⟩
  · rintro ⟨h1, h2, h3, h4, h5⟩
    exact ⟨h1, h2, by rw [h3], h4, h5⟩
theorem small_S {k x : Int} {s : ByteArray} {b : Bool} {c : Int} (h : rightB k x s b c = true) : s.size ≤ 255 := by
  have e := okK (y := (k, x, s, b, c)) h
  have z : ∀ t : ByteArray, t = ⟨#[]⟩ → t.size ≤ 255 := fun t ht => by subst ht; decide
  rcases e with ⟨_, e⟩ | ⟨_, e⟩ | ⟨e0, e⟩ | ⟨_, e⟩ | ⟨_, e, _⟩
  · exact z s (congrArg (fun y : Val => y.2.2.1) e)
  · exact z s (congrArg (fun y : Val => y.2.2.1) e)
  · have e1 : k = 2 := e0
    subst e1
    exact (right2 h).1
  · exact z s (congrArg (fun y : Val => y.2.2.1) e)
  · exact z s (congrArg (fun y : Val => y.2.2.1) e)
end Go.Proofs.Ytjhinakfoejpbaa.T

/- A value, many times. No condition stands open. -/
namespace Go.Proofs.Ytjhinakfoejpbaa.T
open Go.RowKit Go.Proofs.Ytjhinakfoejpbaa.WPure Go.Proofs.YtjhinakfoejpbaaW.PrintWords Go.Proofs.YtjhinakfoejpbaaW.PrintLast Go.Proofs.YtjhinakfoejpbaaW.PrintMore
section
variable {w : World} {S : Nat → Prop} {g n : Nat} {L : List Val}
end
end Go.Proofs.Ytjhinakfoejpbaa.T
