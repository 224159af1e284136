/-
  No cell of these rows narrows 'for every input' (looked for: loops, veiled, ifaces, maps, wideKeys, modest, calm, conditions, laid).
  DERIVED. THE GIVEN ROWS OF THIS SEAT. 9 by the template 'for every input the law returns true; each argument reads behind the call as it read before'; 0 by the template 'total and deterministic' (their statements: YtbgiehmpdligdaaTotals.lean).
  GIVEN WITH THE SEED: the statements are not yours to turn. If you find one false, say at which input.
  Laid BY PROGRAM, IN A SANDBOX (cutbox-rows.mjs): the forced cells as the released guide's own fill.sh prints them over the translation 0470ad626fd4f3eb… (all of the seat's roots in one cut). By AI agents, Wed Nov 11 2026. No macro, syntax, notation, axiom, sorry.
-/
import Derived.Test.YtbgiehmpdligdaaChecked
import GoSem.Claim
import GoSem.ClaimJoined
import GoSem.ClaimMapViews
import Derived.JoinedTies
import Derived.KernelRfl
namespace Go.Proofs.Ytbgiehmpdligdaa
/- THE CELL 'sum', in the pinned program and in every row, IS THE sha256 OF THE DUMP (.gsa) THAT YtbgiehmpdligdaaProg.lean LOADS. Nothing in Lean hashes anything: it is a label: what it is worth is what the hold of that sum in a sandbox is worth. -/
noncomputable def Try.pinned : Pinned := { name := "ytbgiehmpdligdaa", sum := "0470ad626fd4f3eb87704f8bbe9ae1e254ccb031a99b798dff679e43180aeef4", checked := Try.checked }
namespace Rows
def none {H : Type} : Left H := { results := [], args := [] }

/-- 'foolscaplaw15.MathsPowers': WHATEVER THE INPUT: true; the input reads as it did. -/
def mathsPowersSpec : ChangeSpec := { name := "mathsPowers", fn := fun _ => fun
  | [d1, d2] => { results := [.lit (.bool true)], args := [d1, d2] }
  | _ => none }
def mathsPowersRow : OpenClaim := { program := "ytbgiehmpdligdaa", sum := "0470ad626fd4f3eb87704f8bbe9ae1e254ccb031a99b798dff679e43180aeef4", func := "foolscap/foolscaplaw15.MathsPowers", spec := "mathsPowers", inPlace := ["math/bits.Add64"], unfollowed := true, recurses := true, named := ["math/bits.divideError", "math/bits.overflowError"], apart := false }
def MathsPowersSaid : Prop := mathsPowersRow.holds Try.pinned (OpenSpec.ofChange mathsPowersSpec)

/-- ITS FALSE NEIGHBOUR: 'it returns false'. Refute it at one input. -/
def mathsPowersWrong : ChangeSpec := { name := "mathsPowers", fn := fun _ => fun
  | [d1, d2] => { results := [.lit (.bool false)], args := [d1, d2] }
  | _ => none }
def MathsPowersWrongFalsely : Prop := mathsPowersRow.holds Try.pinned (OpenSpec.ofChange mathsPowersWrong)

/-- 'foolscaplaw15.MathsRoot': WHATEVER THE INPUT: true; the input reads as it did. -/
def mathsRootSpec : ChangeSpec := { name := "mathsRoot", fn := fun _ => fun
  | [d1, d2] => { results := [.lit (.bool true)], args := [d1, d2] }
  | _ => none }
def mathsRootRow : OpenClaim := { program := "ytbgiehmpdligdaa", sum := "0470ad626fd4f3eb87704f8bbe9ae1e254ccb031a99b798dff679e43180aeef4", func := "foolscap/foolscaplaw15.MathsRoot", spec := "mathsRoot", inPlace := ["math/bits.Add64"], unfollowed := true, recurses := true, named := ["math/bits.divideError", "math/bits.overflowError"], apart := false }
def MathsRootSaid : Prop := mathsRootRow.holds Try.pinned (OpenSpec.ofChange mathsRootSpec)

/-- ITS FALSE NEIGHBOUR: 'it returns false'. Refute it at one input. -/
def mathsRootWrong : ChangeSpec := { name := "mathsRoot", fn := fun _ => fun
  | [d1, d2] => { results := [.lit (.bool false)], args := [d1, d2] }
  | _ => none }
def MathsRootWrongFalsely : Prop := mathsRootRow.holds Try.pinned (OpenSpec.ofChange mathsRootWrong)

/-- 'foolscaplaw15.MathsSquares': WHATEVER THE INPUT: true; the input reads as it did. -/
def mathsSquaresSpec : ChangeSpec := { name := "mathsSquares", fn := fun _ => fun
  | [d] => { results := [.lit (.bool true)], args := [d] }
  | _ => none }
def mathsSquaresRow : OpenClaim := { program := "ytbgiehmpdligdaa", sum := "0470ad626fd4f3eb87704f8bbe9ae1e254ccb031a99b798dff679e43180aeef4", func := "foolscap/foolscaplaw15.MathsSquares", spec := "mathsSquares", inPlace := ["math/bits.Add64"], unfollowed := true, recurses := true, named := ["math/bits.divideError", "math/bits.overflowError"], apart := false }
def MathsSquaresSaid : Prop := mathsSquaresRow.holds Try.pinned (OpenSpec.ofChange mathsSquaresSpec)

/-- ITS FALSE NEIGHBOUR: 'it returns false'. Refute it at one input. -/
def mathsSquaresWrong : ChangeSpec := { name := "mathsSquares", fn := fun _ => fun
  | [d] => { results := [.lit (.bool false)], args := [d] }
  | _ => none }
def MathsSquaresWrongFalsely : Prop := mathsSquaresRow.holds Try.pinned (OpenSpec.ofChange mathsSquaresWrong)

/-- 'foolscaplaw15.MathsLists': WHATEVER THE INPUT: true; the input reads as it did. -/
def mathsListsSpec : ChangeSpec := { name := "mathsLists", fn := fun _ => fun
  | [d] => { results := [.lit (.bool true)], args := [d] }
  | _ => none }
def mathsListsRow : OpenClaim := { program := "ytbgiehmpdligdaa", sum := "0470ad626fd4f3eb87704f8bbe9ae1e254ccb031a99b798dff679e43180aeef4", func := "foolscap/foolscaplaw15.MathsLists", spec := "mathsLists", inPlace := ["math/bits.Add64"], unfollowed := true, recurses := true, named := ["math/bits.divideError", "math/bits.overflowError"], apart := false }
def MathsListsSaid : Prop := mathsListsRow.holds Try.pinned (OpenSpec.ofChange mathsListsSpec)

/-- ITS FALSE NEIGHBOUR: 'it returns false'. Refute it at one input. -/
def mathsListsWrong : ChangeSpec := { name := "mathsLists", fn := fun _ => fun
  | [d] => { results := [.lit (.bool false)], args := [d] }
  | _ => none }
def MathsListsWrongFalsely : Prop := mathsListsRow.holds Try.pinned (OpenSpec.ofChange mathsListsWrong)

/-- 'foolscaplaw15.MathsDivides': WHATEVER THE INPUT: true; the input reads as it did. -/
def mathsDividesSpec : ChangeSpec := { name := "mathsDivides", fn := fun _ => fun
  | [d1, d2, d3] => { results := [.lit (.bool true)], args := [d1, d2, d3] }
  | _ => none }
def mathsDividesRow : OpenClaim := { program := "ytbgiehmpdligdaa", sum := "0470ad626fd4f3eb87704f8bbe9ae1e254ccb031a99b798dff679e43180aeef4", func := "foolscap/foolscaplaw15.MathsDivides", spec := "mathsDivides", inPlace := ["math/bits.Add64"], unfollowed := true, recurses := true, named := ["math/bits.divideError", "math/bits.overflowError"], apart := false }
def MathsDividesSaid : Prop := mathsDividesRow.holds Try.pinned (OpenSpec.ofChange mathsDividesSpec)

/-- ITS FALSE NEIGHBOUR: 'it returns false'. Refute it at one input. -/
def mathsDividesWrong : ChangeSpec := { name := "mathsDivides", fn := fun _ => fun
  | [d1, d2, d3] => { results := [.lit (.bool false)], args := [d1, d2, d3] }
  | _ => none }
def MathsDividesWrongFalsely : Prop := mathsDividesRow.holds Try.pinned (OpenSpec.ofChange mathsDividesWrong)

/-- 'foolscaplaw15.MathsNear': WHATEVER THE INPUT: true; the input reads as it did. -/
def mathsNearSpec : ChangeSpec := { name := "mathsNear", fn := fun _ => fun
  | [d1, d2, d3] => { results := [.lit (.bool true)], args := [d1, d2, d3] }
  | _ => none }
def mathsNearRow : OpenClaim := { program := "ytbgiehmpdligdaa", sum := "0470ad626fd4f3eb87704f8bbe9ae1e254ccb031a99b798dff679e43180aeef4", func := "foolscap/foolscaplaw15.MathsNear", spec := "mathsNear", inPlace := ["math/bits.Add64"], unfollowed := true, recurses := true, named := ["math/bits.divideError", "math/bits.overflowError"], apart := false }
def MathsNearSaid : Prop := mathsNearRow.holds Try.pinned (OpenSpec.ofChange mathsNearSpec)

/-- ITS FALSE NEIGHBOUR: 'it returns false'. Refute it at one input. -/
def mathsNearWrong : ChangeSpec := { name := "mathsNear", fn := fun _ => fun
  | [d1, d2, d3] => { results := [.lit (.bool false)], args := [d1, d2, d3] }
  | _ => none }
def MathsNearWrongFalsely : Prop := mathsNearRow.holds Try.pinned (OpenSpec.ofChange mathsNearWrong)

/-- 'foolscaplaw15.MathsMirror': WHATEVER THE INPUT: true; the input reads as it did. -/
def mathsMirrorSpec : ChangeSpec := { name := "mathsMirror", fn := fun _ => fun
  | [d1, d2, d3] => { results := [.lit (.bool true)], args := [d1, d2, d3] }
  | _ => none }
def mathsMirrorRow : OpenClaim := { program := "ytbgiehmpdligdaa", sum := "0470ad626fd4f3eb87704f8bbe9ae1e254ccb031a99b798dff679e43180aeef4", func := "foolscap/foolscaplaw15.MathsMirror", spec := "mathsMirror", inPlace := ["math/bits.Add64"], unfollowed := true, recurses := true, named := ["math/bits.divideError", "math/bits.overflowError"], apart := false }
def MathsMirrorSaid : Prop := mathsMirrorRow.holds Try.pinned (OpenSpec.ofChange mathsMirrorSpec)

/-- ITS FALSE NEIGHBOUR: 'it returns false'. Refute it at one input. -/
def mathsMirrorWrong : ChangeSpec := { name := "mathsMirror", fn := fun _ => fun
  | [d1, d2, d3] => { results := [.lit (.bool false)], args := [d1, d2, d3] }
  | _ => none }
def MathsMirrorWrongFalsely : Prop := mathsMirrorRow.holds Try.pinned (OpenSpec.ofChange mathsMirrorWrong)

/-- 'foolscaplaw15.MathsSteps': WHATEVER THE INPUT: true; the input reads as it did. -/
def mathsStepsSpec : ChangeSpec := { name := "mathsSteps", fn := fun _ => fun
  | [d1, d2] => { results := [.lit (.bool true)], args := [d1, d2] }
  | _ => none }
def mathsStepsRow : OpenClaim := { program := "ytbgiehmpdligdaa", sum := "0470ad626fd4f3eb87704f8bbe9ae1e254ccb031a99b798dff679e43180aeef4", func := "foolscap/foolscaplaw15.MathsSteps", spec := "mathsSteps", inPlace := ["math/bits.Add64"], unfollowed := true, recurses := true, named := ["math/bits.divideError", "math/bits.overflowError"], apart := false }
def MathsStepsSaid : Prop := mathsStepsRow.holds Try.pinned (OpenSpec.ofChange mathsStepsSpec)

/-- ITS FALSE NEIGHBOUR: 'it returns false'. Refute it at one input. -/
def mathsStepsWrong : ChangeSpec := { name := "mathsSteps", fn := fun _ => fun
  | [d1, d2] => { results := [.lit (.bool false)], args := [d1, d2] }
  | _ => none }
def MathsStepsWrongFalsely : Prop := mathsStepsRow.holds Try.pinned (OpenSpec.ofChange mathsStepsWrong)

/-- 'foolscaplaw15.MathsRounds': WHATEVER THE INPUT: true; the input reads as it did. -/
def mathsRoundsSpec : ChangeSpec := { name := "mathsRounds", fn := fun _ => fun
  | [d1, d2] => { results := [.lit (.bool true)], args := [d1, d2] }
  | _ => none }
def mathsRoundsRow : OpenClaim := { program := "ytbgiehmpdligdaa", sum := "0470ad626fd4f3eb87704f8bbe9ae1e254ccb031a99b798dff679e43180aeef4", func := "foolscap/foolscaplaw15.MathsRounds", spec := "mathsRounds", inPlace := ["math/bits.Add64"], unfollowed := true, recurses := true, named := ["math/bits.divideError", "math/bits.overflowError"], apart := false }
def MathsRoundsSaid : Prop := mathsRoundsRow.holds Try.pinned (OpenSpec.ofChange mathsRoundsSpec)

/-- ITS FALSE NEIGHBOUR: 'it returns false'. Refute it at one input. -/
def mathsRoundsWrong : ChangeSpec := { name := "mathsRounds", fn := fun _ => fun
  | [d1, d2] => { results := [.lit (.bool false)], args := [d1, d2] }
  | _ => none }
def MathsRoundsWrongFalsely : Prop := mathsRoundsRow.holds Try.pinned (OpenSpec.ofChange mathsRoundsWrong)

/- THE SECOND FORM. 'bulk': how many values and letters a reading holds, each counted each time it is reached (what is shared counts as often as it is met; a slice's spare places count too). A statement '..UptoSaid' is the law's where the arguments, and the package variables that the reading takes, are together of bulk at most 1048576: NARROWER than '..Said'. Prove '..Said' where nothing that the law and all that it calls make is longer than what came in: it says more and counts as full. Else prove '..UptoSaid'. A law counts once. -/
mutual
def uptoBulk {H : Type} : DataW H → Nat
  | .lit (.string bytes) => bytes.length + 1
  | .lit _ => 1
  | .nil => 1
  | .ptr d => uptoBulk d + 1
  | .slice elems spare => uptoBulkAll elems + uptoBulkAll spare + 1
  | .agg parts => uptoBulkAll parts + 1
  | .iface _ d => uptoBulk d + 1
  | .map entries => uptoBulkEntries entries + 1
  | .held _ => 1
def uptoBulkAll {H : Type} : List (DataW H) → Nat
  | [] => 0
  | d :: r => uptoBulk d + uptoBulkAll r
def uptoBulkEntries {H : Type} : List (Lit × DataW H) → Nat
  | [] => 0
  | x :: r => uptoBulkEntry x + uptoBulkEntries r
def uptoBulkEntry {H : Type} : Lit × DataW H → Nat
  | (.string bytes, d) => bytes.length + uptoBulk d + 1
  | (_, d) => uptoBulk d + 1
 end
def uptoSmall : (H : Type) → List (DataW H) → Bool := fun _ ds => decide (uptoBulkAll ds ≤ 1048576)
def OpenSpec.upto (s : _root_.Go.ChangeSpec) : _root_.Go.OpenSpec := { _root_.Go.OpenSpec.ofChange s with cond := some uptoSmall }

/-- 'foolscaplaw15.MathsPowers', WHERE WHAT IT READS IS OF BULK AT MOST 1048576: true; the input reads as it did. -/
def mathsPowersUptoRow : OpenClaim := { program := "ytbgiehmpdligdaa", sum := "0470ad626fd4f3eb87704f8bbe9ae1e254ccb031a99b798dff679e43180aeef4", func := "foolscap/foolscaplaw15.MathsPowers", spec := "mathsPowers", inPlace := ["math/bits.Add64"], unfollowed := true, recurses := true, named := ["math/bits.divideError", "math/bits.overflowError"], apart := false, narrowed := true }
def MathsPowersUptoSaid : Prop := mathsPowersUptoRow.holds Try.pinned (OpenSpec.upto mathsPowersSpec)

/-- 'foolscaplaw15.MathsRoot', WHERE WHAT IT READS IS OF BULK AT MOST 1048576: true; the input reads as it did. -/
def mathsRootUptoRow : OpenClaim := { program := "ytbgiehmpdligdaa", sum := "0470ad626fd4f3eb87704f8bbe9ae1e254ccb031a99b798dff679e43180aeef4", func := "foolscap/foolscaplaw15.MathsRoot", spec := "mathsRoot", inPlace := ["math/bits.Add64"], unfollowed := true, recurses := true, named := ["math/bits.divideError", "math/bits.overflowError"], apart := false, narrowed := true }
def MathsRootUptoSaid : Prop := mathsRootUptoRow.holds Try.pinned (OpenSpec.upto mathsRootSpec)

/-- 'foolscaplaw15.MathsSquares', WHERE WHAT IT READS IS OF BULK AT MOST 1048576: true; the input reads as it did. -/
def mathsSquaresUptoRow : OpenClaim := { program := "ytbgiehmpdligdaa", sum := "0470ad626fd4f3eb87704f8bbe9ae1e254ccb031a99b798dff679e43180aeef4", func := "foolscap/foolscaplaw15.MathsSquares", spec := "mathsSquares", inPlace := ["math/bits.Add64"], unfollowed := true, recurses := true, named := ["math/bits.divideError", "math/bits.overflowError"], apart := false, narrowed := true }
def MathsSquaresUptoSaid : Prop := mathsSquaresUptoRow.holds Try.pinned (OpenSpec.upto mathsSquaresSpec)

/-- 'foolscaplaw15.MathsLists', WHERE WHAT IT READS IS OF BULK AT MOST 1048576: true; the input reads as it did. -/
def mathsListsUptoRow : OpenClaim := { program := "ytbgiehmpdligdaa", sum := "0470ad626fd4f3eb87704f8bbe9ae1e254ccb031a99b798dff679e43180aeef4", func := "foolscap/foolscaplaw15.MathsLists", spec := "mathsLists", inPlace := ["math/bits.Add64"], unfollowed := true, recurses := true, named := ["math/bits.divideError", "math/bits.overflowError"], apart := false, narrowed := true }
def MathsListsUptoSaid : Prop := mathsListsUptoRow.holds Try.pinned (OpenSpec.upto mathsListsSpec)

/-- 'foolscaplaw15.MathsDivides', WHERE WHAT IT READS IS OF BULK AT MOST 1048576: true; the input reads as it did. -/
def mathsDividesUptoRow : OpenClaim := { program := "ytbgiehmpdligdaa", sum := "0470ad626fd4f3eb87704f8bbe9ae1e254ccb031a99b798dff679e43180aeef4", func := "foolscap/foolscaplaw15.MathsDivides", spec := "mathsDivides", inPlace := ["math/bits.Add64"], unfollowed := true, recurses := true, named := ["math/bits.divideError", "math/bits.overflowError"], apart := false, narrowed := true }
def MathsDividesUptoSaid : Prop := mathsDividesUptoRow.holds Try.pinned (OpenSpec.upto mathsDividesSpec)

/-- 'foolscaplaw15.MathsNear', WHERE WHAT IT READS IS OF BULK AT MOST 1048576: true; the input reads as it did. -/
def mathsNearUptoRow : OpenClaim := { program := "ytbgiehmpdligdaa", sum := "0470ad626fd4f3eb87704f8bbe9ae1e254ccb031a99b798dff679e43180aeef4", func := "foolscap/foolscaplaw15.MathsNear", spec := "mathsNear", inPlace := ["math/bits.Add64"], unfollowed := true, recurses := true, named := ["math/bits.divideError", "math/bits.overflowError"], apart := false, narrowed := true }
def MathsNearUptoSaid : Prop := mathsNearUptoRow.holds Try.pinned (OpenSpec.upto mathsNearSpec)

/-- 'foolscaplaw15.MathsMirror', WHERE WHAT IT READS IS OF BULK AT MOST 1048576: true; the input reads as it did. -/
def mathsMirrorUptoRow : OpenClaim := { program := "ytbgiehmpdligdaa", sum := "0470ad626fd4f3eb87704f8bbe9ae1e254ccb031a99b798dff679e43180aeef4", func := "foolscap/foolscaplaw15.MathsMirror", spec := "mathsMirror", inPlace := ["math/bits.Add64"], unfollowed := true, recurses := true, named := ["math/bits.divideError", "math/bits.overflowError"], apart := false, narrowed := true }
def MathsMirrorUptoSaid : Prop := mathsMirrorUptoRow.holds Try.pinned (OpenSpec.upto mathsMirrorSpec)

/-- 'foolscaplaw15.MathsSteps', WHERE WHAT IT READS IS OF BULK AT MOST 1048576: true; the input reads as it did. -/
def mathsStepsUptoRow : OpenClaim := { program := "ytbgiehmpdligdaa", sum := "0470ad626fd4f3eb87704f8bbe9ae1e254ccb031a99b798dff679e43180aeef4", func := "foolscap/foolscaplaw15.MathsSteps", spec := "mathsSteps", inPlace := ["math/bits.Add64"], unfollowed := true, recurses := true, named := ["math/bits.divideError", "math/bits.overflowError"], apart := false, narrowed := true }
def MathsStepsUptoSaid : Prop := mathsStepsUptoRow.holds Try.pinned (OpenSpec.upto mathsStepsSpec)

/-- 'foolscaplaw15.MathsRounds', WHERE WHAT IT READS IS OF BULK AT MOST 1048576: true; the input reads as it did. -/
def mathsRoundsUptoRow : OpenClaim := { program := "ytbgiehmpdligdaa", sum := "0470ad626fd4f3eb87704f8bbe9ae1e254ccb031a99b798dff679e43180aeef4", func := "foolscap/foolscaplaw15.MathsRounds", spec := "mathsRounds", inPlace := ["math/bits.Add64"], unfollowed := true, recurses := true, named := ["math/bits.divideError", "math/bits.overflowError"], apart := false, narrowed := true }
def MathsRoundsUptoSaid : Prop := mathsRoundsUptoRow.holds Try.pinned (OpenSpec.upto mathsRoundsSpec)

end Rows
end Go.Proofs.Ytbgiehmpdligdaa
