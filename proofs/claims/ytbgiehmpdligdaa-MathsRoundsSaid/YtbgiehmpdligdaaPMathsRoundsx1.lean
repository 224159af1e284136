-- By wip/tools/printplus.py of this session, over the kit's print; what is by hand in it is this session's own.
import Derived.Test.YtbgiehmpdligdaaPMathsRoundsx0
namespace Go.Proofs.Ytbgiehmpdligdaa.PMathsRounds
open Go.RowKit Go.Proofs.YtbgiehmpdligdaaW.PrintWords Go.Proofs.YtbgiehmpdligdaaW.PrintLast Go.Proofs.YtbgiehmpdligdaaW.PrintMore
attribute [local go_sem] max2_int min2_int max_two min_two max_three min_three max_four min_four   -- for this text's walks alone
set_option linter.unusedVariables false
set_option linter.unusedSimpArgs false

/-! ### foolscaplaw15_lives: function 18 -/
def foolscaplaw15_lives.f  : Option (Bool) := some (true)
theorem foolscaplaw15_lives.calls  (r : Bool) (w : World) (h : foolscaplaw15_lives.f  = some r) :
    Calls Try.prog 18 #[] w fun e w' => e = .returned (.bool r) ∧ Below w.heap.size w w' :=
  Go.Proofs.Ytbgiehmpdligdaa.PG.foolscaplaw15_lives.calls 100 r w (Eq.trans (MB.lives_eq) h)

/-! ### maths_Up: function 26 -/
def maths_Up.f (a0 : Int) (a1 : Int) : Option (Int × Int) := some (Go.Proofs.Ytbgiehmpdligdaa.MA.upN a0 a1)
theorem maths_Up.calls (a0 : Int) (a1 : Int) (r1 : Int) (r2 : Int) (w : World) (h : maths_Up.f a0 a1 = some (r1, r2)) :
    Calls Try.prog 26 #[.int .i64 a0, .int .i64 a1] w fun e w' => e = .returned (.tuple #[.int .i64 r1, .int .i64 r2]) ∧ Drawn0 w w' :=
  Go.Proofs.Ytbgiehmpdligdaa.PG.maths_Up.calls 100 a0 a1 r1 r2 w (Eq.trans (MA.up_eq _ _) h)

/-! ### maths_Down: function 27 -/
def maths_Down.f (a0 : Int) (a1 : Int) : Option (Int × Int) := some (Go.Proofs.Ytbgiehmpdligdaa.MA.downN a0 a1)
theorem maths_Down.calls (a0 : Int) (a1 : Int) (r1 : Int) (r2 : Int) (w : World) (h : maths_Down.f a0 a1 = some (r1, r2)) :
    Calls Try.prog 27 #[.int .i64 a0, .int .i64 a1] w fun e w' => e = .returned (.tuple #[.int .i64 r1, .int .i64 r2]) ∧ Drawn0 w w' :=
  Go.Proofs.Ytbgiehmpdligdaa.PG.maths_Down.calls 100 a0 a1 r1 r2 w (Eq.trans (MA.down_eq _ _) h)

/-! ### maths_Even: function 30 -/
def maths_Even.f (a0 : Int) : Option (Int × Int) := some (Go.Proofs.Ytbgiehmpdligdaa.MA.parN a0 false)
theorem maths_Even.calls (a0 : Int) (r1 : Int) (r2 : Int) (w : World) (h : maths_Even.f a0 = some (r1, r2)) :
    Calls Try.prog 30 #[.int .i64 a0] w fun e w' => e = .returned (.tuple #[.int .i64 r1, .int .i64 r2]) ∧ Below w.heap.size w w' :=
  Go.Proofs.Ytbgiehmpdligdaa.PG.maths_Even.calls 100 a0 r1 r2 w (Eq.trans (MA.even_eq _) h)

/-! ### foolscapref15_Up: function 35 -/
def foolscapref15_Up.f (a0 : Int) (a1 : Int) : Option (Int × Int) := some (Go.Proofs.Ytbgiehmpdligdaa.MA.upN a0 a1)
theorem foolscapref15_Up.calls (a0 : Int) (a1 : Int) (r1 : Int) (r2 : Int) (w : World) (h : foolscapref15_Up.f a0 a1 = some (r1, r2)) :
    Calls Try.prog 35 #[.int .i64 a0, .int .i64 a1] w fun e w' => e = .returned (.tuple #[.int .i64 r1, .int .i64 r2]) ∧ Drawn0 w w' :=
  Go.Proofs.Ytbgiehmpdligdaa.PG.foolscapref15_Up.calls 100 a0 a1 r1 r2 w (Eq.trans (MA.rup_eq _ _) h)

/-! ### foolscapref15_Down: function 36 -/
def foolscapref15_Down.f (a0 : Int) (a1 : Int) : Option (Int × Int) := some (Go.Proofs.Ytbgiehmpdligdaa.MA.downN a0 a1)
theorem foolscapref15_Down.calls (a0 : Int) (a1 : Int) (r1 : Int) (r2 : Int) (w : World) (h : foolscapref15_Down.f a0 a1 = some (r1, r2)) :
    Calls Try.prog 36 #[.int .i64 a0, .int .i64 a1] w fun e w' => e = .returned (.tuple #[.int .i64 r1, .int .i64 r2]) ∧ Drawn0 w w' :=
  Go.Proofs.Ytbgiehmpdligdaa.PG.foolscapref15_Down.calls 100 a0 a1 r1 r2 w (Eq.trans (MA.rdown_eq _ _) h)

/-! ### foolscapref15_Even: function 37 -/
def foolscapref15_Even.f (a0 : Int) : Option (Int × Int) := some (Go.Proofs.Ytbgiehmpdligdaa.MA.parN a0 false)
theorem foolscapref15_Even.calls (a0 : Int) (r1 : Int) (r2 : Int) (w : World) (h : foolscapref15_Even.f a0 = some (r1, r2)) :
    Calls Try.prog 37 #[.int .i64 a0] w fun e w' => e = .returned (.tuple #[.int .i64 r1, .int .i64 r2]) ∧ Drawn0 w w' :=
  Go.Proofs.Ytbgiehmpdligdaa.PG.foolscapref15_Even.calls 100 a0 r1 r2 w (Eq.trans (MA.reven_eq _) h)

/-! ### maths_Odd: function 38 -/
def maths_Odd.f (a0 : Int) : Option (Int × Int) := some (Go.Proofs.Ytbgiehmpdligdaa.MA.parN a0 true)
theorem maths_Odd.calls (a0 : Int) (r1 : Int) (r2 : Int) (w : World) (h : maths_Odd.f a0 = some (r1, r2)) :
    Calls Try.prog 38 #[.int .i64 a0] w fun e w' => e = .returned (.tuple #[.int .i64 r1, .int .i64 r2]) ∧ Below w.heap.size w w' :=
  Go.Proofs.Ytbgiehmpdligdaa.PG.maths_Odd.calls 100 a0 r1 r2 w (Eq.trans (MA.odd_eq _) h)

/-! ### foolscapref15_Odd: function 39 -/
def foolscapref15_Odd.f (a0 : Int) : Option (Int × Int) := some (Go.Proofs.Ytbgiehmpdligdaa.MA.parN a0 true)
theorem foolscapref15_Odd.calls (a0 : Int) (r1 : Int) (r2 : Int) (w : World) (h : foolscapref15_Odd.f a0 = some (r1, r2)) :
    Calls Try.prog 39 #[.int .i64 a0] w fun e w' => e = .returned (.tuple #[.int .i64 r1, .int .i64 r2]) ∧ Drawn0 w w' :=
  Go.Proofs.Ytbgiehmpdligdaa.PG.foolscapref15_Odd.calls 100 a0 r1 r2 w (Eq.trans (MA.rodd_eq _) h)

/-! ### maths_Abs: function 40 -/
def maths_Abs.f (a0 : Int) : Option (Int × Int) := some (Go.Proofs.Ytbgiehmpdligdaa.MA.absN a0)
theorem maths_Abs.calls (a0 : Int) (r1 : Int) (r2 : Int) (w : World) (h : maths_Abs.f a0 = some (r1, r2)) :
    Calls Try.prog 40 #[.int .i64 a0] w fun e w' => e = .returned (.tuple #[.int .i64 r1, .int .i64 r2]) ∧ Below w.heap.size w w' :=
  Go.Proofs.Ytbgiehmpdligdaa.PG.maths_Abs.calls a0 r1 r2 w (Eq.trans (MA.abs_eq _) h)

/-! ### foolscapref15_Abs: function 41 -/
def foolscapref15_Abs.f (a0 : Int) : Option (Int × Int) := some (Go.Proofs.Ytbgiehmpdligdaa.MA.absN a0)
theorem foolscapref15_Abs.calls (a0 : Int) (r1 : Int) (r2 : Int) (w : World) (h : foolscapref15_Abs.f a0 = some (r1, r2)) :
    Calls Try.prog 41 #[.int .i64 a0] w fun e w' => e = .returned (.tuple #[.int .i64 r1, .int .i64 r2]) ∧ Below w.heap.size w w' :=
  Go.Proofs.Ytbgiehmpdligdaa.PG.foolscapref15_Abs.calls a0 r1 r2 w (Eq.trans (MA.rabs_eq _) h)

/-! ### maths_Sign: function 42 -/
def maths_Sign.f (a0 : Int) : Option (Int × Int) := some (Go.Proofs.Ytbgiehmpdligdaa.MA.signN a0)
theorem maths_Sign.calls (a0 : Int) (r1 : Int) (r2 : Int) (w : World) (h : maths_Sign.f a0 = some (r1, r2)) :
    Calls Try.prog 42 #[.int .i64 a0] w fun e w' => e = .returned (.tuple #[.int .i64 r1, .int .i64 r2]) ∧ Below w.heap.size w w' :=
  Go.Proofs.Ytbgiehmpdligdaa.PG.maths_Sign.calls a0 r1 r2 w (Eq.trans (MA.sign_eq _) h)

/-! ### foolscapref15_Sign: function 43 -/
def foolscapref15_Sign.f (a0 : Int) : Option (Int × Int) := some (Go.Proofs.Ytbgiehmpdligdaa.MA.signN a0)
theorem foolscapref15_Sign.calls (a0 : Int) (r1 : Int) (r2 : Int) (w : World) (h : foolscapref15_Sign.f a0 = some (r1, r2)) :
    Calls Try.prog 43 #[.int .i64 a0] w fun e w' => e = .returned (.tuple #[.int .i64 r1, .int .i64 r2]) ∧ Drawn0 w w' :=
  Go.Proofs.Ytbgiehmpdligdaa.PG.foolscapref15_Sign.calls a0 r1 r2 w (Eq.trans (MA.rsign_eq _) h)

/-! ### foolscaplaw15_MathsRounds: function 11 -/
def foolscaplaw15_MathsRounds.f (a0 : Int) (a1 : Int) : Option (Bool) := (maths_Up.f a0 a1).bind fun bt101 => ((foolscapref15_Up.f a0 a1).bind fun bt103 => ((maths_Down.f a0 a1).bind fun bt105 => ((foolscapref15_Down.f a0 a1).bind fun bt107 => ((maths_Even.f a0).bind fun bt109 => ((foolscapref15_Even.f a0).bind fun bt111 => ((maths_Odd.f a0).bind fun bt113 => ((foolscapref15_Odd.f a0).bind fun bt115 => ((maths_Abs.f a0).bind fun bt117 => ((foolscapref15_Abs.f a0).bind fun bt119 => ((maths_Sign.f a0).bind fun bt121 => ((foolscapref15_Sign.f a0).bind fun bt123 => (if bt101.1 = bt103.1 then (if bt101.2 = bt103.2 then (if bt105.1 = bt107.1 then (if bt105.2 = bt107.2 then (if bt109.1 = bt111.1 then (if bt109.2 = bt111.2 then (if bt113.1 = bt115.1 then (if bt113.2 = bt115.2 then (if bt117.1 = bt119.1 then (if bt117.2 = bt119.2 then (if bt121.1 = bt123.1 then (if bt121.2 = bt123.2 then ((foolscaplaw15_lives.f).bind fun t125 => (some t125)) else (none)) else (none)) else (none)) else (none)) else (none)) else (none)) else (none)) else (none)) else (none)) else (none)) else (none)) else (none)))))))))))))
set_option maxHeartbeats 8000000 in
set_option maxRecDepth 100000 in
theorem foolscaplaw15_MathsRounds.calls (a0 : Int) (a1 : Int) (r : Bool) (w : World) (h : foolscaplaw15_MathsRounds.f a0 a1 = some r) :
    Calls Try.prog 11 #[.int .i64 a0, .int .i64 a1] w fun e w' => e = .returned (.bool r) ∧ Below w.heap.size w w' := by
  have HB := Aside0.mk (Below.refl w.heap.size w)
  have H : ((maths_Up.f a0 a1).bind fun bt101 => ((foolscapref15_Up.f a0 a1).bind fun bt103 => ((maths_Down.f a0 a1).bind fun bt105 => ((foolscapref15_Down.f a0 a1).bind fun bt107 => ((maths_Even.f a0).bind fun bt109 => ((foolscapref15_Even.f a0).bind fun bt111 => ((maths_Odd.f a0).bind fun bt113 => ((foolscapref15_Odd.f a0).bind fun bt115 => ((maths_Abs.f a0).bind fun bt117 => ((foolscapref15_Abs.f a0).bind fun bt119 => ((maths_Sign.f a0).bind fun bt121 => ((foolscapref15_Sign.f a0).bind fun bt123 => (if bt101.1 = bt103.1 then (if bt101.2 = bt103.2 then (if bt105.1 = bt107.1 then (if bt105.2 = bt107.2 then (if bt109.1 = bt111.1 then (if bt109.2 = bt111.2 then (if bt113.1 = bt115.1 then (if bt113.2 = bt115.2 then (if bt117.1 = bt119.1 then (if bt117.2 = bt119.2 then (if bt121.1 = bt123.1 then (if bt121.2 = bt123.2 then ((foolscaplaw15_lives.f).bind fun t125 => (some t125)) else (none)) else (none)) else (none)) else (none)) else (none)) else (none)) else (none)) else (none)) else (none)) else (none)) else (none)) else (none)))))))))))))) = some r := h
  clear h
  replace H := Option.bind_eq_some_iff.mp H
  obtain ⟨⟨t101, t102⟩, A30, H⟩ := H
  replace H : ((foolscapref15_Up.f a0 a1).bind fun bt103 => ((maths_Down.f a0 a1).bind fun bt105 => ((foolscapref15_Down.f a0 a1).bind fun bt107 => ((maths_Even.f a0).bind fun bt109 => ((foolscapref15_Even.f a0).bind fun bt111 => ((maths_Odd.f a0).bind fun bt113 => ((foolscapref15_Odd.f a0).bind fun bt115 => ((maths_Abs.f a0).bind fun bt117 => ((foolscapref15_Abs.f a0).bind fun bt119 => ((maths_Sign.f a0).bind fun bt121 => ((foolscapref15_Sign.f a0).bind fun bt123 => (if t101 = bt103.1 then (if t102 = bt103.2 then (if bt105.1 = bt107.1 then (if bt105.2 = bt107.2 then (if bt109.1 = bt111.1 then (if bt109.2 = bt111.2 then (if bt113.1 = bt115.1 then (if bt113.2 = bt115.2 then (if bt117.1 = bt119.1 then (if bt117.2 = bt119.2 then (if bt121.1 = bt123.1 then (if bt121.2 = bt123.2 then ((foolscaplaw15_lives.f).bind fun t125 => (some t125)) else (none)) else (none)) else (none)) else (none)) else (none)) else (none)) else (none)) else (none)) else (none)) else (none)) else (none)) else (none))))))))))))) = some r := H
  have A3 := Aside0.mk A30
  clear A30
  replace H := Option.bind_eq_some_iff.mp H
  obtain ⟨⟨t103, t104⟩, A40, H⟩ := H
  replace H : ((maths_Down.f a0 a1).bind fun bt105 => ((foolscapref15_Down.f a0 a1).bind fun bt107 => ((maths_Even.f a0).bind fun bt109 => ((foolscapref15_Even.f a0).bind fun bt111 => ((maths_Odd.f a0).bind fun bt113 => ((foolscapref15_Odd.f a0).bind fun bt115 => ((maths_Abs.f a0).bind fun bt117 => ((foolscapref15_Abs.f a0).bind fun bt119 => ((maths_Sign.f a0).bind fun bt121 => ((foolscapref15_Sign.f a0).bind fun bt123 => (if t101 = t103 then (if t102 = t104 then (if bt105.1 = bt107.1 then (if bt105.2 = bt107.2 then (if bt109.1 = bt111.1 then (if bt109.2 = bt111.2 then (if bt113.1 = bt115.1 then (if bt113.2 = bt115.2 then (if bt117.1 = bt119.1 then (if bt117.2 = bt119.2 then (if bt121.1 = bt123.1 then (if bt121.2 = bt123.2 then ((foolscaplaw15_lives.f).bind fun t125 => (some t125)) else (none)) else (none)) else (none)) else (none)) else (none)) else (none)) else (none)) else (none)) else (none)) else (none)) else (none)) else (none)))))))))))) = some r := H
  have A4 := Aside0.mk A40
  clear A40
  replace H := Option.bind_eq_some_iff.mp H
  obtain ⟨⟨t105, t106⟩, A50, H⟩ := H
  replace H : ((foolscapref15_Down.f a0 a1).bind fun bt107 => ((maths_Even.f a0).bind fun bt109 => ((foolscapref15_Even.f a0).bind fun bt111 => ((maths_Odd.f a0).bind fun bt113 => ((foolscapref15_Odd.f a0).bind fun bt115 => ((maths_Abs.f a0).bind fun bt117 => ((foolscapref15_Abs.f a0).bind fun bt119 => ((maths_Sign.f a0).bind fun bt121 => ((foolscapref15_Sign.f a0).bind fun bt123 => (if t101 = t103 then (if t102 = t104 then (if t105 = bt107.1 then (if t106 = bt107.2 then (if bt109.1 = bt111.1 then (if bt109.2 = bt111.2 then (if bt113.1 = bt115.1 then (if bt113.2 = bt115.2 then (if bt117.1 = bt119.1 then (if bt117.2 = bt119.2 then (if bt121.1 = bt123.1 then (if bt121.2 = bt123.2 then ((foolscaplaw15_lives.f).bind fun t125 => (some t125)) else (none)) else (none)) else (none)) else (none)) else (none)) else (none)) else (none)) else (none)) else (none)) else (none)) else (none)) else (none))))))))))) = some r := H
  have A5 := Aside0.mk A50
  clear A50
  replace H := Option.bind_eq_some_iff.mp H
  obtain ⟨⟨t107, t108⟩, A60, H⟩ := H
  replace H : ((maths_Even.f a0).bind fun bt109 => ((foolscapref15_Even.f a0).bind fun bt111 => ((maths_Odd.f a0).bind fun bt113 => ((foolscapref15_Odd.f a0).bind fun bt115 => ((maths_Abs.f a0).bind fun bt117 => ((foolscapref15_Abs.f a0).bind fun bt119 => ((maths_Sign.f a0).bind fun bt121 => ((foolscapref15_Sign.f a0).bind fun bt123 => (if t101 = t103 then (if t102 = t104 then (if t105 = t107 then (if t106 = t108 then (if bt109.1 = bt111.1 then (if bt109.2 = bt111.2 then (if bt113.1 = bt115.1 then (if bt113.2 = bt115.2 then (if bt117.1 = bt119.1 then (if bt117.2 = bt119.2 then (if bt121.1 = bt123.1 then (if bt121.2 = bt123.2 then ((foolscaplaw15_lives.f).bind fun t125 => (some t125)) else (none)) else (none)) else (none)) else (none)) else (none)) else (none)) else (none)) else (none)) else (none)) else (none)) else (none)) else (none)))))))))) = some r := H
  have A6 := Aside0.mk A60
  clear A60
  replace H := Option.bind_eq_some_iff.mp H
  obtain ⟨⟨t109, t110⟩, A70, H⟩ := H
  replace H : ((foolscapref15_Even.f a0).bind fun bt111 => ((maths_Odd.f a0).bind fun bt113 => ((foolscapref15_Odd.f a0).bind fun bt115 => ((maths_Abs.f a0).bind fun bt117 => ((foolscapref15_Abs.f a0).bind fun bt119 => ((maths_Sign.f a0).bind fun bt121 => ((foolscapref15_Sign.f a0).bind fun bt123 => (if t101 = t103 then (if t102 = t104 then (if t105 = t107 then (if t106 = t108 then (if t109 = bt111.1 then (if t110 = bt111.2 then (if bt113.1 = bt115.1 then (if bt113.2 = bt115.2 then (if bt117.1 = bt119.1 then (if bt117.2 = bt119.2 then (if bt121.1 = bt123.1 then (if bt121.2 = bt123.2 then ((foolscaplaw15_lives.f).bind fun t125 => (some t125)) else (none)) else (none)) else (none)) else (none)) else (none)) else (none)) else (none)) else (none)) else (none)) else (none)) else (none)) else (none))))))))) = some r := H
  have A7 := Aside0.mk A70
  clear A70
  replace H := Option.bind_eq_some_iff.mp H
  obtain ⟨⟨t111, t112⟩, A80, H⟩ := H
  replace H : ((maths_Odd.f a0).bind fun bt113 => ((foolscapref15_Odd.f a0).bind fun bt115 => ((maths_Abs.f a0).bind fun bt117 => ((foolscapref15_Abs.f a0).bind fun bt119 => ((maths_Sign.f a0).bind fun bt121 => ((foolscapref15_Sign.f a0).bind fun bt123 => (if t101 = t103 then (if t102 = t104 then (if t105 = t107 then (if t106 = t108 then (if t109 = t111 then (if t110 = t112 then (if bt113.1 = bt115.1 then (if bt113.2 = bt115.2 then (if bt117.1 = bt119.1 then (if bt117.2 = bt119.2 then (if bt121.1 = bt123.1 then (if bt121.2 = bt123.2 then ((foolscaplaw15_lives.f).bind fun t125 => (some t125)) else (none)) else (none)) else (none)) else (none)) else (none)) else (none)) else (none)) else (none)) else (none)) else (none)) else (none)) else (none)))))))) = some r := H
  have A8 := Aside0.mk A80
  clear A80
  replace H := Option.bind_eq_some_iff.mp H
  obtain ⟨⟨t113, t114⟩, A90, H⟩ := H
  replace H : ((foolscapref15_Odd.f a0).bind fun bt115 => ((maths_Abs.f a0).bind fun bt117 => ((foolscapref15_Abs.f a0).bind fun bt119 => ((maths_Sign.f a0).bind fun bt121 => ((foolscapref15_Sign.f a0).bind fun bt123 => (if t101 = t103 then (if t102 = t104 then (if t105 = t107 then (if t106 = t108 then (if t109 = t111 then (if t110 = t112 then (if t113 = bt115.1 then (if t114 = bt115.2 then (if bt117.1 = bt119.1 then (if bt117.2 = bt119.2 then (if bt121.1 = bt123.1 then (if bt121.2 = bt123.2 then ((foolscaplaw15_lives.f).bind fun t125 => (some t125)) else (none)) else (none)) else (none)) else (none)) else (none)) else (none)) else (none)) else (none)) else (none)) else (none)) else (none)) else (none))))))) = some r := H
  have A9 := Aside0.mk A90
  clear A90
  replace H := Option.bind_eq_some_iff.mp H
  obtain ⟨⟨t115, t116⟩, A100, H⟩ := H
  replace H : ((maths_Abs.f a0).bind fun bt117 => ((foolscapref15_Abs.f a0).bind fun bt119 => ((maths_Sign.f a0).bind fun bt121 => ((foolscapref15_Sign.f a0).bind fun bt123 => (if t101 = t103 then (if t102 = t104 then (if t105 = t107 then (if t106 = t108 then (if t109 = t111 then (if t110 = t112 then (if t113 = t115 then (if t114 = t116 then (if bt117.1 = bt119.1 then (if bt117.2 = bt119.2 then (if bt121.1 = bt123.1 then (if bt121.2 = bt123.2 then ((foolscaplaw15_lives.f).bind fun t125 => (some t125)) else (none)) else (none)) else (none)) else (none)) else (none)) else (none)) else (none)) else (none)) else (none)) else (none)) else (none)) else (none)))))) = some r := H
  have A10 := Aside0.mk A100
  clear A100
  replace H := Option.bind_eq_some_iff.mp H
  obtain ⟨⟨t117, t118⟩, A110, H⟩ := H
  replace H : ((foolscapref15_Abs.f a0).bind fun bt119 => ((maths_Sign.f a0).bind fun bt121 => ((foolscapref15_Sign.f a0).bind fun bt123 => (if t101 = t103 then (if t102 = t104 then (if t105 = t107 then (if t106 = t108 then (if t109 = t111 then (if t110 = t112 then (if t113 = t115 then (if t114 = t116 then (if t117 = bt119.1 then (if t118 = bt119.2 then (if bt121.1 = bt123.1 then (if bt121.2 = bt123.2 then ((foolscaplaw15_lives.f).bind fun t125 => (some t125)) else (none)) else (none)) else (none)) else (none)) else (none)) else (none)) else (none)) else (none)) else (none)) else (none)) else (none)) else (none))))) = some r := H
  have A11 := Aside0.mk A110
  clear A110
  replace H := Option.bind_eq_some_iff.mp H
  obtain ⟨⟨t119, t120⟩, A120, H⟩ := H
  replace H : ((maths_Sign.f a0).bind fun bt121 => ((foolscapref15_Sign.f a0).bind fun bt123 => (if t101 = t103 then (if t102 = t104 then (if t105 = t107 then (if t106 = t108 then (if t109 = t111 then (if t110 = t112 then (if t113 = t115 then (if t114 = t116 then (if t117 = t119 then (if t118 = t120 then (if bt121.1 = bt123.1 then (if bt121.2 = bt123.2 then ((foolscaplaw15_lives.f).bind fun t125 => (some t125)) else (none)) else (none)) else (none)) else (none)) else (none)) else (none)) else (none)) else (none)) else (none)) else (none)) else (none)) else (none)))) = some r := H
  have A12 := Aside0.mk A120
  clear A120
  replace H := Option.bind_eq_some_iff.mp H
  obtain ⟨⟨t121, t122⟩, A130, H⟩ := H
  replace H : ((foolscapref15_Sign.f a0).bind fun bt123 => (if t101 = t103 then (if t102 = t104 then (if t105 = t107 then (if t106 = t108 then (if t109 = t111 then (if t110 = t112 then (if t113 = t115 then (if t114 = t116 then (if t117 = t119 then (if t118 = t120 then (if t121 = bt123.1 then (if t122 = bt123.2 then ((foolscaplaw15_lives.f).bind fun t125 => (some t125)) else (none)) else (none)) else (none)) else (none)) else (none)) else (none)) else (none)) else (none)) else (none)) else (none)) else (none)) else (none))) = some r := H
  have A13 := Aside0.mk A130
  clear A130
  replace H := Option.bind_eq_some_iff.mp H
  obtain ⟨⟨t123, t124⟩, A140, H⟩ := H
  replace H : (if t101 = t103 then (if t102 = t104 then (if t105 = t107 then (if t106 = t108 then (if t109 = t111 then (if t110 = t112 then (if t113 = t115 then (if t114 = t116 then (if t117 = t119 then (if t118 = t120 then (if t121 = t123 then (if t122 = t124 then ((foolscaplaw15_lives.f).bind fun t125 => (some t125)) else (none)) else (none)) else (none)) else (none)) else (none)) else (none)) else (none)) else (none)) else (none)) else (none)) else (none)) else (none)) = some r := H
  have A14 := Aside0.mk A140
  clear A140
  by_cases c15 : t101 = t103
  · rw [if_pos c15] at H
    have c15b0 : (t101 == t103) = true := beq_iff_eq.mpr c15
    have c15b1 : (t101 != t103) = false := bne_eq_false_iff_eq.mpr c15
    clear c15
    by_cases c16 : t102 = t104
    · rw [if_pos c16] at H
      have c16b0 : (t102 == t104) = true := beq_iff_eq.mpr c16
      have c16b1 : (t102 != t104) = false := bne_eq_false_iff_eq.mpr c16
      clear c16
      by_cases c17 : t105 = t107
      · rw [if_pos c17] at H
        have c17b0 : (t105 == t107) = true := beq_iff_eq.mpr c17
        have c17b1 : (t105 != t107) = false := bne_eq_false_iff_eq.mpr c17
        clear c17
        by_cases c18 : t106 = t108
        · rw [if_pos c18] at H
          have c18b0 : (t106 == t108) = true := beq_iff_eq.mpr c18
          have c18b1 : (t106 != t108) = false := bne_eq_false_iff_eq.mpr c18
          clear c18
          by_cases c19 : t109 = t111
          · rw [if_pos c19] at H
            have c19b0 : (t109 == t111) = true := beq_iff_eq.mpr c19
            have c19b1 : (t109 != t111) = false := bne_eq_false_iff_eq.mpr c19
            clear c19
            by_cases c20 : t110 = t112
            · rw [if_pos c20] at H
              have c20b0 : (t110 == t112) = true := beq_iff_eq.mpr c20
              have c20b1 : (t110 != t112) = false := bne_eq_false_iff_eq.mpr c20
              clear c20
              by_cases c21 : t113 = t115
              · rw [if_pos c21] at H
                have c21b0 : (t113 == t115) = true := beq_iff_eq.mpr c21
                have c21b1 : (t113 != t115) = false := bne_eq_false_iff_eq.mpr c21
                clear c21
                by_cases c22 : t114 = t116
                · rw [if_pos c22] at H
                  have c22b0 : (t114 == t116) = true := beq_iff_eq.mpr c22
                  have c22b1 : (t114 != t116) = false := bne_eq_false_iff_eq.mpr c22
                  clear c22
                  by_cases c23 : t117 = t119
                  · rw [if_pos c23] at H
                    have c23b0 : (t117 == t119) = true := beq_iff_eq.mpr c23
                    have c23b1 : (t117 != t119) = false := bne_eq_false_iff_eq.mpr c23
                    clear c23
                    by_cases c24 : t118 = t120
                    · rw [if_pos c24] at H
                      have c24b0 : (t118 == t120) = true := beq_iff_eq.mpr c24
                      have c24b1 : (t118 != t120) = false := bne_eq_false_iff_eq.mpr c24
                      clear c24
                      by_cases c25 : t121 = t123
                      · rw [if_pos c25] at H
                        have c25b0 : (t121 == t123) = true := beq_iff_eq.mpr c25
                        have c25b1 : (t121 != t123) = false := bne_eq_false_iff_eq.mpr c25
                        clear c25
                        by_cases c26 : t122 = t124
                        · rw [if_pos c26] at H
                          have c26b0 : (t122 == t124) = true := beq_iff_eq.mpr c26
                          have c26b1 : (t122 != t124) = false := bne_eq_false_iff_eq.mpr c26
                          clear c26
                          replace H := Option.bind_eq_some_iff.mp H
                          obtain ⟨t125, A270, H⟩ := H
                          replace H : (some t125) = some r := H
                          have A27 := Aside0.mk A270
                          clear A270
                          obtain rfl := Option.some.inj H
                          go_enter Try.func11, Try.ntmps11
                          go_wp2_with (first | ((with_reducible refine gate_callee (f := 26) rfl ?_); refine goesL_ (some 32) rfl rfl Try.func26 (by kernel_rfl) rfl #[.int .i64 a0, .int .i64 a1] rfl (by (try simp only [List.map_toArray, List.map_cons, List.map_nil]); first | done | rfl | (simp only [List.length_drop, List.length_take]; rfl)) ?_; (with_reducible refine (maths_Up.calls a0 a1 t101 t102 _ A3.out).mono ?_); rintro e w' ⟨rfl, ⟨nd, rfl⟩⟩; refine ⟨_, rfl, ?_⟩) | ((with_reducible refine gate_callee (f := 35) rfl ?_); refine goesL_ (some 38) rfl rfl Try.func35 (by kernel_rfl) rfl #[.int .i64 a0, .int .i64 a1] rfl (by (try simp only [List.map_toArray, List.map_cons, List.map_nil]); first | done | rfl | (simp only [List.length_drop, List.length_take]; rfl)) ?_; (with_reducible refine (foolscapref15_Up.calls a0 a1 t103 t104 _ A4.out).mono ?_); rintro e w' ⟨rfl, ⟨nd, rfl⟩⟩; refine ⟨_, rfl, ?_⟩) | ((with_reducible refine gate_callee (f := 27) rfl ?_); refine goesL_ (some 44) rfl rfl Try.func27 (by kernel_rfl) rfl #[.int .i64 a0, .int .i64 a1] rfl (by (try simp only [List.map_toArray, List.map_cons, List.map_nil]); first | done | rfl | (simp only [List.length_drop, List.length_take]; rfl)) ?_; (with_reducible refine (maths_Down.calls a0 a1 t105 t106 _ A5.out).mono ?_); rintro e w' ⟨rfl, ⟨nd, rfl⟩⟩; refine ⟨_, rfl, ?_⟩) | ((with_reducible refine gate_callee (f := 36) rfl ?_); refine goesL_ (some 50) rfl rfl Try.func36 (by kernel_rfl) rfl #[.int .i64 a0, .int .i64 a1] rfl (by (try simp only [List.map_toArray, List.map_cons, List.map_nil]); first | done | rfl | (simp only [List.length_drop, List.length_take]; rfl)) ?_; (with_reducible refine (foolscapref15_Down.calls a0 a1 t107 t108 _ A6.out).mono ?_); rintro e w' ⟨rfl, ⟨nd, rfl⟩⟩; refine ⟨_, rfl, ?_⟩) | ((with_reducible refine gate_callee (f := 30) rfl ?_); refine goesL_ (some 55) rfl rfl Try.func30 (by kernel_rfl) rfl #[.int .i64 a0] rfl (by (try simp only [List.map_toArray, List.map_cons, List.map_nil]); first | done | rfl | (simp only [List.length_drop, List.length_take]; rfl)) ?_; (with_reducible refine (maths_Even.calls a0 t109 t110 _ A7.out).mono ?_); rintro e w28 ⟨rfl, hb⟩; refine ⟨_, rfl, ?_⟩; have n0_ := Aside0.mk (below_step (by repeat (first | (with_reducible first | exact HB.out | apply below_alloc | apply pw_below_drewN | apply below_drew1) | exact HB.out)) hb); clear HB; have HB := n0_; clear n0_; (try clear hb); (try clear hb2); (try clear hk); (try clear hi)) | ((with_reducible refine gate_callee (f := 37) rfl ?_); refine goesL_ (some 60) rfl rfl Try.func37 (by kernel_rfl) rfl #[.int .i64 a0] rfl (by (try simp only [List.map_toArray, List.map_cons, List.map_nil]); first | done | rfl | (simp only [List.length_drop, List.length_take]; rfl)) ?_; (with_reducible refine (foolscapref15_Even.calls a0 t111 t112 _ A8.out).mono ?_); rintro e w' ⟨rfl, ⟨nd, rfl⟩⟩; refine ⟨_, rfl, ?_⟩) | ((with_reducible refine gate_callee (f := 38) rfl ?_); refine goesL_ (some 65) rfl rfl Try.func38 (by kernel_rfl) rfl #[.int .i64 a0] rfl (by (try simp only [List.map_toArray, List.map_cons, List.map_nil]); first | done | rfl | (simp only [List.length_drop, List.length_take]; rfl)) ?_; (with_reducible refine (maths_Odd.calls a0 t113 t114 _ A9.out).mono ?_); rintro e w29 ⟨rfl, hb⟩; refine ⟨_, rfl, ?_⟩; have n0_ := Aside0.mk (below_step (by repeat (first | (with_reducible first | exact HB.out | apply below_alloc | apply pw_below_drewN | apply below_drew1) | exact HB.out)) hb); clear HB; have HB := n0_; clear n0_; (try clear hb); (try clear hb2); (try clear hk); (try clear hi)) | ((with_reducible refine gate_callee (f := 39) rfl ?_); refine goesL_ (some 70) rfl rfl Try.func39 (by kernel_rfl) rfl #[.int .i64 a0] rfl (by (try simp only [List.map_toArray, List.map_cons, List.map_nil]); first | done | rfl | (simp only [List.length_drop, List.length_take]; rfl)) ?_; (with_reducible refine (foolscapref15_Odd.calls a0 t115 t116 _ A10.out).mono ?_); rintro e w' ⟨rfl, ⟨nd, rfl⟩⟩; refine ⟨_, rfl, ?_⟩) | ((with_reducible refine gate_callee (f := 40) rfl ?_); refine goesL_ (some 75) rfl rfl Try.func40 (by kernel_rfl) rfl #[.int .i64 a0] rfl (by (try simp only [List.map_toArray, List.map_cons, List.map_nil]); first | done | rfl | (simp only [List.length_drop, List.length_take]; rfl)) ?_; (with_reducible refine (maths_Abs.calls a0 t117 t118 _ A11.out).mono ?_); rintro e w30 ⟨rfl, hb⟩; refine ⟨_, rfl, ?_⟩; have n0_ := Aside0.mk (below_step (by repeat (first | (with_reducible first | exact HB.out | apply below_alloc | apply pw_below_drewN | apply below_drew1) | exact HB.out)) hb); clear HB; have HB := n0_; clear n0_; (try clear hb); (try clear hb2); (try clear hk); (try clear hi)) | ((with_reducible refine gate_callee (f := 41) rfl ?_); refine goesL_ (some 80) rfl rfl Try.func41 (by kernel_rfl) rfl #[.int .i64 a0] rfl (by (try simp only [List.map_toArray, List.map_cons, List.map_nil]); first | done | rfl | (simp only [List.length_drop, List.length_take]; rfl)) ?_; (with_reducible refine (foolscapref15_Abs.calls a0 t119 t120 _ A12.out).mono ?_); rintro e w31 ⟨rfl, hb⟩; refine ⟨_, rfl, ?_⟩; have n0_ := Aside0.mk (below_step (by repeat (first | (with_reducible first | exact HB.out | apply below_alloc | apply pw_below_drewN | apply below_drew1) | exact HB.out)) hb); clear HB; have HB := n0_; clear n0_; (try clear hb); (try clear hb2); (try clear hk); (try clear hi)) | ((with_reducible refine gate_callee (f := 42) rfl ?_); refine goesL_ (some 85) rfl rfl Try.func42 (by kernel_rfl) rfl #[.int .i64 a0] rfl (by (try simp only [List.map_toArray, List.map_cons, List.map_nil]); first | done | rfl | (simp only [List.length_drop, List.length_take]; rfl)) ?_; (with_reducible refine (maths_Sign.calls a0 t121 t122 _ A13.out).mono ?_); rintro e w32 ⟨rfl, hb⟩; refine ⟨_, rfl, ?_⟩; have n0_ := Aside0.mk (below_step (by repeat (first | (with_reducible first | exact HB.out | apply below_alloc | apply pw_below_drewN | apply below_drew1) | exact HB.out)) hb); clear HB; have HB := n0_; clear n0_; (try clear hb); (try clear hb2); (try clear hk); (try clear hi)) | ((with_reducible refine gate_callee (f := 43) rfl ?_); refine goesL_ (some 90) rfl rfl Try.func43 (by kernel_rfl) rfl #[.int .i64 a0] rfl (by (try simp only [List.map_toArray, List.map_cons, List.map_nil]); first | done | rfl | (simp only [List.length_drop, List.length_take]; rfl)) ?_; (with_reducible refine (foolscapref15_Sign.calls a0 t123 t124 _ A14.out).mono ?_); rintro e w' ⟨rfl, ⟨nd, rfl⟩⟩; refine ⟨_, rfl, ?_⟩) | (go_at_call 18; (with_reducible refine (foolscaplaw15_lives.calls  t125 _ A27.out).mono ?_); rintro e w33 ⟨rfl, hb⟩; have n0_ := Aside0.mk (below_step (by repeat (first | (with_reducible first | exact HB.out | apply below_alloc | apply pw_below_drewN | apply below_drew1) | exact HB.out)) hb); clear HB; have HB := n0_; clear n0_; (try clear hb); (try clear hb2); (try clear hk); (try clear hi)))
                          go_ret
                          exact ⟨by first | rfl | (simp [errW_none, errW_some] <;> rfl) | (simp [*, errW_none, errW_some] <;> rfl), by repeat (first | (with_reducible first | exact HB.out | apply below_alloc | apply pw_below_drewN | apply below_drew1) | exact HB.out)⟩
                        · rw [if_neg c26] at H
                          exact absurd H (by simp)
                      · rw [if_neg c25] at H
                        exact absurd H (by simp)
                    · rw [if_neg c24] at H
                      exact absurd H (by simp)
                  · rw [if_neg c23] at H
                    exact absurd H (by simp)
                · rw [if_neg c22] at H
                  exact absurd H (by simp)
              · rw [if_neg c21] at H
                exact absurd H (by simp)
            · rw [if_neg c20] at H
              exact absurd H (by simp)
          · rw [if_neg c19] at H
            exact absurd H (by simp)
        · rw [if_neg c18] at H
          exact absurd H (by simp)
      · rw [if_neg c17] at H
        exact absurd H (by simp)
    · rw [if_neg c16] at H
      exact absurd H (by simp)
  · rw [if_neg c15] at H
    exact absurd H (by simp)

/-- THE ONE PURE STATEMENT of foolscaplaw15_MathsRounds: yours. -/
def foolscaplaw15_MathsRounds.Pure : Prop := ∀ (a0 : Int) (a1 : Int), (Lit.int .i64 a0).wf = true → (Lit.int .i64 a1).wf = true → foolscaplaw15_MathsRounds.f a0 a1 = some true
theorem foolscaplaw15_MathsRounds.walk (P : foolscaplaw15_MathsRounds.Pure) (a0 : Int) (a1 : Int) (w : World) (w0 : (Lit.int .i64 a0).wf = true) (w1 : (Lit.int .i64 a1).wf = true) :
    Calls Try.prog 11 #[.int .i64 a0, .int .i64 a1] w fun e w' => e = .returned (.bool true) ∧ Below w.heap.size w w' := by
  have h := P a0 a1 w0 w1
  refine (foolscaplaw15_MathsRounds.calls a0 a1 true w h).mono ?_
  rintro e w' ⟨rfl, hd⟩
  exact ⟨rfl, hd⟩

end Go.Proofs.Ytbgiehmpdligdaa.PMathsRounds
