/-
  No cell of these rows narrows 'for every input' (looked for: loops, veiled, ifaces, maps, wideKeys, modest, calm, conditions, laid).
  DERIVED. THE GIVEN ROWS OF THIS SEAT. 18 by the template 'for every input the law returns true; each argument reads behind the call as it read before'; 0 by the template 'total and deterministic' (their statements: YtffbdmlhncmojaaTotals.lean).
  GIVEN WITH THE SEED: the statements are not yours to turn. If you find one false, say at which input.
  Laid BY PROGRAM, IN A SANDBOX (cutbox-rows.mjs): the forced cells as the released guide's own fill.sh prints them over the translation 123b92bf51138596… (all of the seat's roots in one cut). By AI agents, Wed Nov 11 2026. No macro, syntax, notation, axiom, sorry.
-/
import Derived.Test.YtffbdmlhncmojaaChecked
import GoSem.Claim
import GoSem.ClaimJoined
import GoSem.ClaimMapViews
import Derived.JoinedTies
import Derived.KernelRfl
namespace Go.Proofs.Ytffbdmlhncmojaa
/- THE CELL 'sum', in the pinned program and in every row, IS THE sha256 OF THE DUMP (.gsa) THAT YtffbdmlhncmojaaProg.lean LOADS. Nothing in Lean hashes anything: it is a label: what it is worth is what the hold of that sum in a sandbox is worth. -/
noncomputable def Try.pinned : Pinned := { name := "ytffbdmlhncmojaa", sum := "123b92bf5113859680c0cf8cce1e96166397acf967015b4d7181df5b040bdece", checked := Try.checked }
namespace Rows
def none {H : Type} : Left H := { results := [], args := [] }

/-- 'foolscaplaw03.WideExact': WHATEVER THE INPUT: true; the input reads as it did. -/
def wideExactSpec : ChangeSpec := { name := "wideExact", fn := fun _ => fun
  | [d1, d2] => { results := [.lit (.bool true)], args := [d1, d2] }
  | _ => none }
def wideExactRow : OpenClaim := { program := "ytffbdmlhncmojaa", sum := "123b92bf5113859680c0cf8cce1e96166397acf967015b4d7181df5b040bdece", func := "foolscap/foolscaplaw03.WideExact", spec := "wideExact", inPlace := ["math/bits.Sub64", "math/bits.Add64"], named := ["math/bits.divideError", "math/bits.overflowError"], apart := false }
def WideExactSaid : Prop := wideExactRow.holds Try.pinned (OpenSpec.ofChange wideExactSpec)

/-- ITS FALSE NEIGHBOUR: 'it returns false'. Refute it at one input. -/
def wideExactWrong : ChangeSpec := { name := "wideExact", fn := fun _ => fun
  | [d1, d2] => { results := [.lit (.bool false)], args := [d1, d2] }
  | _ => none }
def WideExactWrongFalsely : Prop := wideExactRow.holds Try.pinned (OpenSpec.ofChange wideExactWrong)

/-- 'foolscaplaw03.WideMiddle': WHATEVER THE INPUT: true; the input reads as it did. -/
def wideMiddleSpec : ChangeSpec := { name := "wideMiddle", fn := fun _ => fun
  | [d1, d2, d3] => { results := [.lit (.bool true)], args := [d1, d2, d3] }
  | _ => none }
def wideMiddleRow : OpenClaim := { program := "ytffbdmlhncmojaa", sum := "123b92bf5113859680c0cf8cce1e96166397acf967015b4d7181df5b040bdece", func := "foolscap/foolscaplaw03.WideMiddle", spec := "wideMiddle", inPlace := ["math/bits.Sub64", "math/bits.Add64"], named := ["math/bits.divideError", "math/bits.overflowError"], apart := false }
def WideMiddleSaid : Prop := wideMiddleRow.holds Try.pinned (OpenSpec.ofChange wideMiddleSpec)

/-- ITS FALSE NEIGHBOUR: 'it returns false'. Refute it at one input. -/
def wideMiddleWrong : ChangeSpec := { name := "wideMiddle", fn := fun _ => fun
  | [d1, d2, d3] => { results := [.lit (.bool false)], args := [d1, d2, d3] }
  | _ => none }
def WideMiddleWrongFalsely : Prop := wideMiddleRow.holds Try.pinned (OpenSpec.ofChange wideMiddleWrong)

/-- 'foolscaplaw03.WideSums': WHATEVER THE INPUT: true; the input reads as it did. -/
def wideSumsSpec : ChangeSpec := { name := "wideSums", fn := fun _ => fun
  | [d1, d2, d3] => { results := [.lit (.bool true)], args := [d1, d2, d3] }
  | _ => none }
def wideSumsRow : OpenClaim := { program := "ytffbdmlhncmojaa", sum := "123b92bf5113859680c0cf8cce1e96166397acf967015b4d7181df5b040bdece", func := "foolscap/foolscaplaw03.WideSums", spec := "wideSums", inPlace := ["math/bits.Sub64", "math/bits.Add64"], named := ["math/bits.divideError", "math/bits.overflowError"], apart := false }
def WideSumsSaid : Prop := wideSumsRow.holds Try.pinned (OpenSpec.ofChange wideSumsSpec)

/-- ITS FALSE NEIGHBOUR: 'it returns false'. Refute it at one input. -/
def wideSumsWrong : ChangeSpec := { name := "wideSums", fn := fun _ => fun
  | [d1, d2, d3] => { results := [.lit (.bool false)], args := [d1, d2, d3] }
  | _ => none }
def WideSumsWrongFalsely : Prop := wideSumsRow.holds Try.pinned (OpenSpec.ofChange wideSumsWrong)

/-- 'foolscaplaw03.WideSmall': WHATEVER THE INPUT: true; the input reads as it did. -/
def wideSmallSpec : ChangeSpec := { name := "wideSmall", fn := fun _ => fun
  | [d1, d2] => { results := [.lit (.bool true)], args := [d1, d2] }
  | _ => none }
def wideSmallRow : OpenClaim := { program := "ytffbdmlhncmojaa", sum := "123b92bf5113859680c0cf8cce1e96166397acf967015b4d7181df5b040bdece", func := "foolscap/foolscaplaw03.WideSmall", spec := "wideSmall", inPlace := ["math/bits.Sub64", "math/bits.Add64"], named := ["math/bits.divideError", "math/bits.overflowError"], apart := false }
def WideSmallSaid : Prop := wideSmallRow.holds Try.pinned (OpenSpec.ofChange wideSmallSpec)

/-- ITS FALSE NEIGHBOUR: 'it returns false'. Refute it at one input. -/
def wideSmallWrong : ChangeSpec := { name := "wideSmall", fn := fun _ => fun
  | [d1, d2] => { results := [.lit (.bool false)], args := [d1, d2] }
  | _ => none }
def WideSmallWrongFalsely : Prop := wideSmallRow.holds Try.pinned (OpenSpec.ofChange wideSmallWrong)

/-- 'foolscaplaw20.TallyNil': WHATEVER THE INPUT: true; the input reads as it did. -/
def tallyNilSpec : ChangeSpec := { name := "tallyNil", fn := fun _ => fun
  | [d1, d2, d3] => { results := [.lit (.bool true)], args := [d1, d2, d3] }
  | _ => none }
def tallyNilRow : OpenClaim := { program := "ytffbdmlhncmojaa", sum := "123b92bf5113859680c0cf8cce1e96166397acf967015b4d7181df5b040bdece", func := "foolscap/foolscaplaw20.TallyNil", spec := "tallyNil", inPlace := ["math/bits.Sub64", "math/bits.Add64"], unfollowed := true, recurses := true, named := ["math/bits.divideError", "math/bits.overflowError"], apart := false }
def TallyNilSaid : Prop := tallyNilRow.holds Try.pinned (OpenSpec.ofChange tallyNilSpec)

/-- ITS FALSE NEIGHBOUR: 'it returns false'. Refute it at one input. -/
def tallyNilWrong : ChangeSpec := { name := "tallyNil", fn := fun _ => fun
  | [d1, d2, d3] => { results := [.lit (.bool false)], args := [d1, d2, d3] }
  | _ => none }
def TallyNilWrongFalsely : Prop := tallyNilRow.holds Try.pinned (OpenSpec.ofChange tallyNilWrong)

/-- 'foolscaplaw03.WideCompares': WHATEVER THE INPUT: true; the input reads as it did. -/
def wideComparesSpec : ChangeSpec := { name := "wideCompares", fn := fun _ => fun
  | [d1, d2] => { results := [.lit (.bool true)], args := [d1, d2] }
  | _ => none }
def wideComparesRow : OpenClaim := { program := "ytffbdmlhncmojaa", sum := "123b92bf5113859680c0cf8cce1e96166397acf967015b4d7181df5b040bdece", func := "foolscap/foolscaplaw03.WideCompares", spec := "wideCompares", inPlace := ["math/bits.Sub64", "math/bits.Add64"], named := ["math/bits.divideError", "math/bits.overflowError"], apart := false }
def WideComparesSaid : Prop := wideComparesRow.holds Try.pinned (OpenSpec.ofChange wideComparesSpec)

/-- ITS FALSE NEIGHBOUR: 'it returns false'. Refute it at one input. -/
def wideComparesWrong : ChangeSpec := { name := "wideCompares", fn := fun _ => fun
  | [d1, d2] => { results := [.lit (.bool false)], args := [d1, d2] }
  | _ => none }
def WideComparesWrongFalsely : Prop := wideComparesRow.holds Try.pinned (OpenSpec.ofChange wideComparesWrong)

/-- 'foolscaplaw03.WideOrder': WHATEVER THE INPUT: true; the input reads as it did. -/
def wideOrderSpec : ChangeSpec := { name := "wideOrder", fn := fun _ => fun
  | [d1, d2, d3] => { results := [.lit (.bool true)], args := [d1, d2, d3] }
  | _ => none }
def wideOrderRow : OpenClaim := { program := "ytffbdmlhncmojaa", sum := "123b92bf5113859680c0cf8cce1e96166397acf967015b4d7181df5b040bdece", func := "foolscap/foolscaplaw03.WideOrder", spec := "wideOrder", inPlace := ["math/bits.Sub64", "math/bits.Add64"], named := ["math/bits.divideError", "math/bits.overflowError"], apart := false }
def WideOrderSaid : Prop := wideOrderRow.holds Try.pinned (OpenSpec.ofChange wideOrderSpec)

/-- ITS FALSE NEIGHBOUR: 'it returns false'. Refute it at one input. -/
def wideOrderWrong : ChangeSpec := { name := "wideOrder", fn := fun _ => fun
  | [d1, d2, d3] => { results := [.lit (.bool false)], args := [d1, d2, d3] }
  | _ => none }
def WideOrderWrongFalsely : Prop := wideOrderRow.holds Try.pinned (OpenSpec.ofChange wideOrderWrong)

/-- 'foolscaplaw20.TallyLists': WHATEVER THE INPUT: true; the input reads as it did. -/
def tallyListsSpec : ChangeSpec := { name := "tallyLists", fn := fun _ => fun
  | [d1, d2] => { results := [.lit (.bool true)], args := [d1, d2] }
  | _ => none }
def tallyListsRow : OpenClaim := { program := "ytffbdmlhncmojaa", sum := "123b92bf5113859680c0cf8cce1e96166397acf967015b4d7181df5b040bdece", func := "foolscap/foolscaplaw20.TallyLists", spec := "tallyLists", inPlace := ["math/bits.Sub64", "math/bits.Add64"], unfollowed := true, recurses := true, named := ["math/bits.divideError", "math/bits.overflowError"], apart := false }
def TallyListsSaid : Prop := tallyListsRow.holds Try.pinned (OpenSpec.ofChange tallyListsSpec)

/-- ITS FALSE NEIGHBOUR: 'it returns false'. Refute it at one input. -/
def tallyListsWrong : ChangeSpec := { name := "tallyLists", fn := fun _ => fun
  | [d1, d2] => { results := [.lit (.bool false)], args := [d1, d2] }
  | _ => none }
def TallyListsWrongFalsely : Prop := tallyListsRow.holds Try.pinned (OpenSpec.ofChange tallyListsWrong)

/-- 'foolscaplaw16.StatsPlaces': WHATEVER THE INPUT: true; the input reads as it did. -/
def statsPlacesSpec : ChangeSpec := { name := "statsPlaces", fn := fun _ => fun
  | [d1, d2, d3, d4] => { results := [.lit (.bool true)], args := [d1, d2, d3, d4] }
  | _ => none }
def statsPlacesRow : OpenClaim := { program := "ytffbdmlhncmojaa", sum := "123b92bf5113859680c0cf8cce1e96166397acf967015b4d7181df5b040bdece", func := "foolscap/foolscaplaw16.StatsPlaces", spec := "statsPlaces", inPlace := ["math/bits.Sub64", "math/bits.Add64"], unfollowed := true, recurses := true, named := ["math/bits.divideError", "math/bits.overflowError"], apart := false }
def StatsPlacesSaid : Prop := statsPlacesRow.holds Try.pinned (OpenSpec.ofChange statsPlacesSpec)

/-- ITS FALSE NEIGHBOUR: 'it returns false'. Refute it at one input. -/
def statsPlacesWrong : ChangeSpec := { name := "statsPlaces", fn := fun _ => fun
  | [d1, d2, d3, d4] => { results := [.lit (.bool false)], args := [d1, d2, d3, d4] }
  | _ => none }
def StatsPlacesWrongFalsely : Prop := statsPlacesRow.holds Try.pinned (OpenSpec.ofChange statsPlacesWrong)

/-- 'foolscaplaw16.StatsOrder': WHATEVER THE INPUT: true; the input reads as it did. -/
def statsOrderSpec : ChangeSpec := { name := "statsOrder", fn := fun _ => fun
  | [d1, d2, d3, d4] => { results := [.lit (.bool true)], args := [d1, d2, d3, d4] }
  | _ => none }
def statsOrderRow : OpenClaim := { program := "ytffbdmlhncmojaa", sum := "123b92bf5113859680c0cf8cce1e96166397acf967015b4d7181df5b040bdece", func := "foolscap/foolscaplaw16.StatsOrder", spec := "statsOrder", inPlace := ["math/bits.Sub64", "math/bits.Add64"], unfollowed := true, recurses := true, named := ["math/bits.divideError", "math/bits.overflowError"], apart := false }
def StatsOrderSaid : Prop := statsOrderRow.holds Try.pinned (OpenSpec.ofChange statsOrderSpec)

/-- ITS FALSE NEIGHBOUR: 'it returns false'. Refute it at one input. -/
def statsOrderWrong : ChangeSpec := { name := "statsOrder", fn := fun _ => fun
  | [d1, d2, d3, d4] => { results := [.lit (.bool false)], args := [d1, d2, d3, d4] }
  | _ => none }
def StatsOrderWrongFalsely : Prop := statsOrderRow.holds Try.pinned (OpenSpec.ofChange statsOrderWrong)

/-- 'foolscaplaw16.StatsGrows': WHATEVER THE INPUT: true; the input reads as it did. -/
def statsGrowsSpec : ChangeSpec := { name := "statsGrows", fn := fun _ => fun
  | [d1, d2] => { results := [.lit (.bool true)], args := [d1, d2] }
  | _ => none }
def statsGrowsRow : OpenClaim := { program := "ytffbdmlhncmojaa", sum := "123b92bf5113859680c0cf8cce1e96166397acf967015b4d7181df5b040bdece", func := "foolscap/foolscaplaw16.StatsGrows", spec := "statsGrows", inPlace := ["math/bits.Sub64", "math/bits.Add64"], unfollowed := true, recurses := true, named := ["math/bits.divideError", "math/bits.overflowError"], apart := false }
def StatsGrowsSaid : Prop := statsGrowsRow.holds Try.pinned (OpenSpec.ofChange statsGrowsSpec)

/-- ITS FALSE NEIGHBOUR: 'it returns false'. Refute it at one input. -/
def statsGrowsWrong : ChangeSpec := { name := "statsGrows", fn := fun _ => fun
  | [d1, d2] => { results := [.lit (.bool false)], args := [d1, d2] }
  | _ => none }
def StatsGrowsWrongFalsely : Prop := statsGrowsRow.holds Try.pinned (OpenSpec.ofChange statsGrowsWrong)

/-- 'foolscaplaw16.StatsMidst': WHATEVER THE INPUT: true; the input reads as it did. -/
def statsMidstSpec : ChangeSpec := { name := "statsMidst", fn := fun _ => fun
  | [d] => { results := [.lit (.bool true)], args := [d] }
  | _ => none }
def statsMidstRow : OpenClaim := { program := "ytffbdmlhncmojaa", sum := "123b92bf5113859680c0cf8cce1e96166397acf967015b4d7181df5b040bdece", func := "foolscap/foolscaplaw16.StatsMidst", spec := "statsMidst", inPlace := ["math/bits.Sub64", "math/bits.Add64"], unfollowed := true, recurses := true, named := ["math/bits.divideError", "math/bits.overflowError"], apart := false }
def StatsMidstSaid : Prop := statsMidstRow.holds Try.pinned (OpenSpec.ofChange statsMidstSpec)

/-- ITS FALSE NEIGHBOUR: 'it returns false'. Refute it at one input. -/
def statsMidstWrong : ChangeSpec := { name := "statsMidst", fn := fun _ => fun
  | [d] => { results := [.lit (.bool false)], args := [d] }
  | _ => none }
def StatsMidstWrongFalsely : Prop := statsMidstRow.holds Try.pinned (OpenSpec.ofChange statsMidstWrong)

/-- 'foolscaplaw16.StatsEnds': WHATEVER THE INPUT: true; the input reads as it did. -/
def statsEndsSpec : ChangeSpec := { name := "statsEnds", fn := fun _ => fun
  | [d1, d2] => { results := [.lit (.bool true)], args := [d1, d2] }
  | _ => none }
def statsEndsRow : OpenClaim := { program := "ytffbdmlhncmojaa", sum := "123b92bf5113859680c0cf8cce1e96166397acf967015b4d7181df5b040bdece", func := "foolscap/foolscaplaw16.StatsEnds", spec := "statsEnds", inPlace := ["math/bits.Sub64", "math/bits.Add64"], unfollowed := true, recurses := true, named := ["math/bits.divideError", "math/bits.overflowError"], apart := false }
def StatsEndsSaid : Prop := statsEndsRow.holds Try.pinned (OpenSpec.ofChange statsEndsSpec)

/-- ITS FALSE NEIGHBOUR: 'it returns false'. Refute it at one input. -/
def statsEndsWrong : ChangeSpec := { name := "statsEnds", fn := fun _ => fun
  | [d1, d2] => { results := [.lit (.bool false)], args := [d1, d2] }
  | _ => none }
def StatsEndsWrongFalsely : Prop := statsEndsRow.holds Try.pinned (OpenSpec.ofChange statsEndsWrong)

/-- 'foolscaplaw16.StatsBetween': WHATEVER THE INPUT: true; the input reads as it did. -/
def statsBetweenSpec : ChangeSpec := { name := "statsBetween", fn := fun _ => fun
  | [d] => { results := [.lit (.bool true)], args := [d] }
  | _ => none }
def statsBetweenRow : OpenClaim := { program := "ytffbdmlhncmojaa", sum := "123b92bf5113859680c0cf8cce1e96166397acf967015b4d7181df5b040bdece", func := "foolscap/foolscaplaw16.StatsBetween", spec := "statsBetween", inPlace := ["math/bits.Sub64", "math/bits.Add64"], unfollowed := true, recurses := true, named := ["math/bits.divideError", "math/bits.overflowError"], apart := false }
def StatsBetweenSaid : Prop := statsBetweenRow.holds Try.pinned (OpenSpec.ofChange statsBetweenSpec)

/-- ITS FALSE NEIGHBOUR: 'it returns false'. Refute it at one input. -/
def statsBetweenWrong : ChangeSpec := { name := "statsBetween", fn := fun _ => fun
  | [d] => { results := [.lit (.bool false)], args := [d] }
  | _ => none }
def StatsBetweenWrongFalsely : Prop := statsBetweenRow.holds Try.pinned (OpenSpec.ofChange statsBetweenWrong)

/-- 'foolscaplaw20.TallyOrder': WHATEVER THE INPUT: true; the input reads as it did. -/
def tallyOrderSpec : ChangeSpec := { name := "tallyOrder", fn := fun _ => fun
  | [d1, d2, d3] => { results := [.lit (.bool true)], args := [d1, d2, d3] }
  | _ => none }
def tallyOrderRow : OpenClaim := { program := "ytffbdmlhncmojaa", sum := "123b92bf5113859680c0cf8cce1e96166397acf967015b4d7181df5b040bdece", func := "foolscap/foolscaplaw20.TallyOrder", spec := "tallyOrder", inPlace := ["math/bits.Sub64", "math/bits.Add64"], unfollowed := true, recurses := true, named := ["math/bits.divideError", "math/bits.overflowError"], apart := false }
def TallyOrderSaid : Prop := tallyOrderRow.holds Try.pinned (OpenSpec.ofChange tallyOrderSpec)

/-- ITS FALSE NEIGHBOUR: 'it returns false'. Refute it at one input. -/
def tallyOrderWrong : ChangeSpec := { name := "tallyOrder", fn := fun _ => fun
  | [d1, d2, d3] => { results := [.lit (.bool false)], args := [d1, d2, d3] }
  | _ => none }
def TallyOrderWrongFalsely : Prop := tallyOrderRow.holds Try.pinned (OpenSpec.ofChange tallyOrderWrong)

/-- 'foolscaplaw20.TallyOften': WHATEVER THE INPUT: true; the input reads as it did. -/
def tallyOftenSpec : ChangeSpec := { name := "tallyOften", fn := fun _ => fun
  | [d1, d2, d3] => { results := [.lit (.bool true)], args := [d1, d2, d3] }
  | _ => none }
def tallyOftenRow : OpenClaim := { program := "ytffbdmlhncmojaa", sum := "123b92bf5113859680c0cf8cce1e96166397acf967015b4d7181df5b040bdece", func := "foolscap/foolscaplaw20.TallyOften", spec := "tallyOften", inPlace := ["math/bits.Sub64", "math/bits.Add64"], unfollowed := true, recurses := true, named := ["math/bits.divideError", "math/bits.overflowError"], apart := false }
def TallyOftenSaid : Prop := tallyOftenRow.holds Try.pinned (OpenSpec.ofChange tallyOftenSpec)

/-- ITS FALSE NEIGHBOUR: 'it returns false'. Refute it at one input. -/
def tallyOftenWrong : ChangeSpec := { name := "tallyOften", fn := fun _ => fun
  | [d1, d2, d3] => { results := [.lit (.bool false)], args := [d1, d2, d3] }
  | _ => none }
def TallyOftenWrongFalsely : Prop := tallyOftenRow.holds Try.pinned (OpenSpec.ofChange tallyOftenWrong)

/-- 'foolscaplaw20.TallyTall': WHATEVER THE INPUT: true; the input reads as it did. -/
def tallyTallSpec : ChangeSpec := { name := "tallyTall", fn := fun _ => fun
  | [d1, d2] => { results := [.lit (.bool true)], args := [d1, d2] }
  | _ => none }
def tallyTallRow : OpenClaim := { program := "ytffbdmlhncmojaa", sum := "123b92bf5113859680c0cf8cce1e96166397acf967015b4d7181df5b040bdece", func := "foolscap/foolscaplaw20.TallyTall", spec := "tallyTall", inPlace := ["math/bits.Sub64", "math/bits.Add64"], unfollowed := true, recurses := true, named := ["math/bits.divideError", "math/bits.overflowError"], apart := false }
def TallyTallSaid : Prop := tallyTallRow.holds Try.pinned (OpenSpec.ofChange tallyTallSpec)

/-- ITS FALSE NEIGHBOUR: 'it returns false'. Refute it at one input. -/
def tallyTallWrong : ChangeSpec := { name := "tallyTall", fn := fun _ => fun
  | [d1, d2] => { results := [.lit (.bool false)], args := [d1, d2] }
  | _ => none }
def TallyTallWrongFalsely : Prop := tallyTallRow.holds Try.pinned (OpenSpec.ofChange tallyTallWrong)

/-- 'foolscaplaw20.TallyPlays': WHATEVER THE INPUT: true; the input reads as it did. -/
def tallyPlaysSpec : ChangeSpec := { name := "tallyPlays", fn := fun _ => fun
  | [d1, d2, d3, d4] => { results := [.lit (.bool true)], args := [d1, d2, d3, d4] }
  | _ => none }
def tallyPlaysRow : OpenClaim := { program := "ytffbdmlhncmojaa", sum := "123b92bf5113859680c0cf8cce1e96166397acf967015b4d7181df5b040bdece", func := "foolscap/foolscaplaw20.TallyPlays", spec := "tallyPlays", inPlace := ["math/bits.Sub64", "math/bits.Add64"], unfollowed := true, recurses := true, named := ["math/bits.divideError", "math/bits.overflowError"], apart := false }
def TallyPlaysSaid : Prop := tallyPlaysRow.holds Try.pinned (OpenSpec.ofChange tallyPlaysSpec)

/-- ITS FALSE NEIGHBOUR: 'it returns false'. Refute it at one input. -/
def tallyPlaysWrong : ChangeSpec := { name := "tallyPlays", fn := fun _ => fun
  | [d1, d2, d3, d4] => { results := [.lit (.bool false)], args := [d1, d2, d3, d4] }
  | _ => none }
def TallyPlaysWrongFalsely : Prop := tallyPlaysRow.holds Try.pinned (OpenSpec.ofChange tallyPlaysWrong)

/- THE SECOND FORM. 'bulk': how many values and letters a reading holds, each counted each time it is reached (what is shared counts as often as it is met; a slice's spare places count too). A statement '..UptoSaid' is the law's where the arguments, and the package variables that the reading takes, are together of bulk at most 1048576: NARROWER than '..Said'. Prove '..Said' where nothing that the law and all that it calls make is longer than what came in: it says more and counts as full. Else prove '..UptoSaid'. A law counts once. -/
mutual
def uptoBulk {H : Type} : DataW H → Nat
  | .lit (.string bytes) => bytes.length + 1
  | .lit _ => 1
  | .nil => 1
  | .ptr d => uptoBulk d + 1
  | .slice elems spare => uptoBulkAll elems + uptoBulkAll spare + 1
  | .agg parts => uptoBulkAll parts + 1
  | .iface _ d => uptoBulk d + 1
  | .map entries => uptoBulkEntries entries + 1
  | .held _ => 1
def uptoBulkAll {H : Type} : List (DataW H) → Nat
  | [] => 0
  | d :: r => uptoBulk d + uptoBulkAll r
def uptoBulkEntries {H : Type} : List (Lit × DataW H) → Nat
  | [] => 0
  | x :: r => uptoBulkEntry x + uptoBulkEntries r
def uptoBulkEntry {H : Type} : Lit × DataW H → Nat
  | (.string bytes, d) => bytes.length + uptoBulk d + 1
  | (_, d) => uptoBulk d + 1
 end
def uptoSmall : (H : Type) → List (DataW H) → Bool := fun _ ds => decide (uptoBulkAll ds ≤ 1048576)
def OpenSpec.upto (s : _root_.Go.ChangeSpec) : _root_.Go.OpenSpec := { _root_.Go.OpenSpec.ofChange s with cond := some uptoSmall }

/-- 'foolscaplaw03.WideExact', WHERE WHAT IT READS IS OF BULK AT MOST 1048576: true; the input reads as it did. -/
def wideExactUptoRow : OpenClaim := { program := "ytffbdmlhncmojaa", sum := "123b92bf5113859680c0cf8cce1e96166397acf967015b4d7181df5b040bdece", func := "foolscap/foolscaplaw03.WideExact", spec := "wideExact", inPlace := ["math/bits.Sub64", "math/bits.Add64"], named := ["math/bits.divideError", "math/bits.overflowError"], apart := false, narrowed := true }
def WideExactUptoSaid : Prop := wideExactUptoRow.holds Try.pinned (OpenSpec.upto wideExactSpec)

/-- 'foolscaplaw03.WideMiddle', WHERE WHAT IT READS IS OF BULK AT MOST 1048576: true; the input reads as it did. -/
def wideMiddleUptoRow : OpenClaim := { program := "ytffbdmlhncmojaa", sum := "123b92bf5113859680c0cf8cce1e96166397acf967015b4d7181df5b040bdece", func := "foolscap/foolscaplaw03.WideMiddle", spec := "wideMiddle", inPlace := ["math/bits.Sub64", "math/bits.Add64"], named := ["math/bits.divideError", "math/bits.overflowError"], apart := false, narrowed := true }
def WideMiddleUptoSaid : Prop := wideMiddleUptoRow.holds Try.pinned (OpenSpec.upto wideMiddleSpec)

/-- 'foolscaplaw03.WideSums', WHERE WHAT IT READS IS OF BULK AT MOST 1048576: true; the input reads as it did. -/
def wideSumsUptoRow : OpenClaim := { program := "ytffbdmlhncmojaa", sum := "123b92bf5113859680c0cf8cce1e96166397acf967015b4d7181df5b040bdece", func := "foolscap/foolscaplaw03.WideSums", spec := "wideSums", inPlace := ["math/bits.Sub64", "math/bits.Add64"], named := ["math/bits.divideError", "math/bits.overflowError"], apart := false, narrowed := true }
def WideSumsUptoSaid : Prop := wideSumsUptoRow.holds Try.pinned (OpenSpec.upto wideSumsSpec)

/-- 'foolscaplaw03.WideSmall', WHERE WHAT IT READS IS OF BULK AT MOST 1048576: true; the input reads as it did. -/
def wideSmallUptoRow : OpenClaim := { program := "ytffbdmlhncmojaa", sum := "123b92bf5113859680c0cf8cce1e96166397acf967015b4d7181df5b040bdece", func := "foolscap/foolscaplaw03.WideSmall", spec := "wideSmall", inPlace := ["math/bits.Sub64", "math/bits.Add64"], named := ["math/bits.divideError", "math/bits.overflowError"], apart := false, narrowed := true }
def WideSmallUptoSaid : Prop := wideSmallUptoRow.holds Try.pinned (OpenSpec.upto wideSmallSpec)

/-- 'foolscaplaw20.TallyNil', WHERE WHAT IT READS IS OF BULK AT MOST 1048576: true; the input reads as it did. -/
def tallyNilUptoRow : OpenClaim := { program := "ytffbdmlhncmojaa", sum := "123b92bf5113859680c0cf8cce1e96166397acf967015b4d7181df5b040bdece", func := "foolscap/foolscaplaw20.TallyNil", spec := "tallyNil", inPlace := ["math/bits.Sub64", "math/bits.Add64"], unfollowed := true, recurses := true, named := ["math/bits.divideError", "math/bits.overflowError"], apart := false, narrowed := true }
def TallyNilUptoSaid : Prop := tallyNilUptoRow.holds Try.pinned (OpenSpec.upto tallyNilSpec)

/-- 'foolscaplaw03.WideCompares', WHERE WHAT IT READS IS OF BULK AT MOST 1048576: true; the input reads as it did. -/
def wideComparesUptoRow : OpenClaim := { program := "ytffbdmlhncmojaa", sum := "123b92bf5113859680c0cf8cce1e96166397acf967015b4d7181df5b040bdece", func := "foolscap/foolscaplaw03.WideCompares", spec := "wideCompares", inPlace := ["math/bits.Sub64", "math/bits.Add64"], named := ["math/bits.divideError", "math/bits.overflowError"], apart := false, narrowed := true }
def WideComparesUptoSaid : Prop := wideComparesUptoRow.holds Try.pinned (OpenSpec.upto wideComparesSpec)

/-- 'foolscaplaw03.WideOrder', WHERE WHAT IT READS IS OF BULK AT MOST 1048576: true; the input reads as it did. -/
def wideOrderUptoRow : OpenClaim := { program := "ytffbdmlhncmojaa", sum := "123b92bf5113859680c0cf8cce1e96166397acf967015b4d7181df5b040bdece", func := "foolscap/foolscaplaw03.WideOrder", spec := "wideOrder", inPlace := ["math/bits.Sub64", "math/bits.Add64"], named := ["math/bits.divideError", "math/bits.overflowError"], apart := false, narrowed := true }
def WideOrderUptoSaid : Prop := wideOrderUptoRow.holds Try.pinned (OpenSpec.upto wideOrderSpec)

/-- 'foolscaplaw20.TallyLists', WHERE WHAT IT READS IS OF BULK AT MOST 1048576: true; the input reads as it did. -/
def tallyListsUptoRow : OpenClaim := { program := "ytffbdmlhncmojaa", sum := "123b92bf5113859680c0cf8cce1e96166397acf967015b4d7181df5b040bdece", func := "foolscap/foolscaplaw20.TallyLists", spec := "tallyLists", inPlace := ["math/bits.Sub64", "math/bits.Add64"], unfollowed := true, recurses := true, named := ["math/bits.divideError", "math/bits.overflowError"], apart := false, narrowed := true }
def TallyListsUptoSaid : Prop := tallyListsUptoRow.holds Try.pinned (OpenSpec.upto tallyListsSpec)

/-- 'foolscaplaw16.StatsPlaces', WHERE WHAT IT READS IS OF BULK AT MOST 1048576: true; the input reads as it did. -/
def statsPlacesUptoRow : OpenClaim := { program := "ytffbdmlhncmojaa", sum := "123b92bf5113859680c0cf8cce1e96166397acf967015b4d7181df5b040bdece", func := "foolscap/foolscaplaw16.StatsPlaces", spec := "statsPlaces", inPlace := ["math/bits.Sub64", "math/bits.Add64"], unfollowed := true, recurses := true, named := ["math/bits.divideError", "math/bits.overflowError"], apart := false, narrowed := true }
def StatsPlacesUptoSaid : Prop := statsPlacesUptoRow.holds Try.pinned (OpenSpec.upto statsPlacesSpec)

/-- 'foolscaplaw16.StatsOrder', WHERE WHAT IT READS IS OF BULK AT MOST 1048576: true; the input reads as it did. -/
def statsOrderUptoRow : OpenClaim := { program := "ytffbdmlhncmojaa", sum := "123b92bf5113859680c0cf8cce1e96166397acf967015b4d7181df5b040bdece", func := "foolscap/foolscaplaw16.StatsOrder", spec := "statsOrder", inPlace := ["math/bits.Sub64", "math/bits.Add64"], unfollowed := true, recurses := true, named := ["math/bits.divideError", "math/bits.overflowError"], apart := false, narrowed := true }
def StatsOrderUptoSaid : Prop := statsOrderUptoRow.holds Try.pinned (OpenSpec.upto statsOrderSpec)

/-- 'foolscaplaw16.StatsGrows', WHERE WHAT IT READS IS OF BULK AT MOST 1048576: true; the input reads as it did. -/
def statsGrowsUptoRow : OpenClaim := { program := "ytffbdmlhncmojaa", sum := "123b92bf5113859680c0cf8cce1e96166397acf967015b4d7181df5b040bdece", func := "foolscap/foolscaplaw16.StatsGrows", spec := "statsGrows", inPlace := ["math/bits.Sub64", "math/bits.Add64"], unfollowed := true, recurses := true, named := ["math/bits.divideError", "math/bits.overflowError"], apart := false, narrowed := true }
def StatsGrowsUptoSaid : Prop := statsGrowsUptoRow.holds Try.pinned (OpenSpec.upto statsGrowsSpec)

/-- 'foolscaplaw16.StatsMidst', WHERE WHAT IT READS IS OF BULK AT MOST 1048576: true; the input reads as it did. -/
def statsMidstUptoRow : OpenClaim := { program := "ytffbdmlhncmojaa", sum := "123b92bf5113859680c0cf8cce1e96166397acf967015b4d7181df5b040bdece", func := "foolscap/foolscaplaw16.StatsMidst", spec := "statsMidst", inPlace := ["math/bits.Sub64", "math/bits.Add64"], unfollowed := true, recurses := true, named := ["math/bits.divideError", "math/bits.overflowError"], apart := false, narrowed := true }
def StatsMidstUptoSaid : Prop := statsMidstUptoRow.holds Try.pinned (OpenSpec.upto statsMidstSpec)

/-- 'foolscaplaw16.StatsEnds', WHERE WHAT IT READS IS OF BULK AT MOST 1048576: true; the input reads as it did. -/
def statsEndsUptoRow : OpenClaim := { program := "ytffbdmlhncmojaa", sum := "123b92bf5113859680c0cf8cce1e96166397acf967015b4d7181df5b040bdece", func := "foolscap/foolscaplaw16.StatsEnds", spec := "statsEnds", inPlace := ["math/bits.Sub64", "math/bits.Add64"], unfollowed := true, recurses := true, named := ["math/bits.divideError", "math/bits.overflowError"], apart := false, narrowed := true }
def StatsEndsUptoSaid : Prop := statsEndsUptoRow.holds Try.pinned (OpenSpec.upto statsEndsSpec)

/-- 'foolscaplaw16.StatsBetween', WHERE WHAT IT READS IS OF BULK AT MOST 1048576: true; the input reads as it did. -/
def statsBetweenUptoRow : OpenClaim := { program := "ytffbdmlhncmojaa", sum := "123b92bf5113859680c0cf8cce1e96166397acf967015b4d7181df5b040bdece", func := "foolscap/foolscaplaw16.StatsBetween", spec := "statsBetween", inPlace := ["math/bits.Sub64", "math/bits.Add64"], unfollowed := true, recurses := true, named := ["math/bits.divideError", "math/bits.overflowError"], apart := false, narrowed := true }
def StatsBetweenUptoSaid : Prop := statsBetweenUptoRow.holds Try.pinned (OpenSpec.upto statsBetweenSpec)

/-- 'foolscaplaw20.TallyOrder', WHERE WHAT IT READS IS OF BULK AT MOST 1048576: true; the input reads as it did. -/
def tallyOrderUptoRow : OpenClaim := { program := "ytffbdmlhncmojaa", sum := "123b92bf5113859680c0cf8cce1e96166397acf967015b4d7181df5b040bdece", func := "foolscap/foolscaplaw20.TallyOrder", spec := "tallyOrder", inPlace := ["math/bits.Sub64", "math/bits.Add64"], unfollowed := true, recurses := true, named := ["math/bits.divideError", "math/bits.overflowError"], apart := false, narrowed := true }
def TallyOrderUptoSaid : Prop := tallyOrderUptoRow.holds Try.pinned (OpenSpec.upto tallyOrderSpec)

/-- 'foolscaplaw20.TallyOften', WHERE WHAT IT READS IS OF BULK AT MOST 1048576: true; the input reads as it did. -/
def tallyOftenUptoRow : OpenClaim := { program := "ytffbdmlhncmojaa", sum := "123b92bf5113859680c0cf8cce1e96166397acf967015b4d7181df5b040bdece", func := "foolscap/foolscaplaw20.TallyOften", spec := "tallyOften", inPlace := ["math/bits.Sub64", "math/bits.Add64"], unfollowed := true, recurses := true, named := ["math/bits.divideError", "math/bits.overflowError"], apart := false, narrowed := true }
def TallyOftenUptoSaid : Prop := tallyOftenUptoRow.holds Try.pinned (OpenSpec.upto tallyOftenSpec)

/-- 'foolscaplaw20.TallyTall', WHERE WHAT IT READS IS OF BULK AT MOST 1048576: true; the input reads as it did. -/
def tallyTallUptoRow : OpenClaim := { program := "ytffbdmlhncmojaa", sum := "123b92bf5113859680c0cf8cce1e96166397acf967015b4d7181df5b040bdece", func := "foolscap/foolscaplaw20.TallyTall", spec := "tallyTall", inPlace := ["math/bits.Sub64", "math/bits.Add64"], unfollowed := true, recurses := true, named := ["math/bits.divideError", "math/bits.overflowError"], apart := false, narrowed := true }
def TallyTallUptoSaid : Prop := tallyTallUptoRow.holds Try.pinned (OpenSpec.upto tallyTallSpec)

/-- 'foolscaplaw20.TallyPlays', WHERE WHAT IT READS IS OF BULK AT MOST 1048576: true; the input reads as it did. -/
def tallyPlaysUptoRow : OpenClaim := { program := "ytffbdmlhncmojaa", sum := "123b92bf5113859680c0cf8cce1e96166397acf967015b4d7181df5b040bdece", func := "foolscap/foolscaplaw20.TallyPlays", spec := "tallyPlays", inPlace := ["math/bits.Sub64", "math/bits.Add64"], unfollowed := true, recurses := true, named := ["math/bits.divideError", "math/bits.overflowError"], apart := false, narrowed := true }
def TallyPlaysUptoSaid : Prop := tallyPlaysUptoRow.holds Try.pinned (OpenSpec.upto tallyPlaysSpec)

end Rows
end Go.Proofs.Ytffbdmlhncmojaa
