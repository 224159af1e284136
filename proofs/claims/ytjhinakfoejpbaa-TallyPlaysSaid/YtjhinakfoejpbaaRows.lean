/-
  No cell of these rows narrows 'for every input' (looked for: loops, veiled, ifaces, maps, wideKeys, modest, calm, conditions, laid).
  DERIVED. THE GIVEN ROWS OF THIS SEAT. 6 by the template 'for every input the law returns true; each argument reads behind the call as it read before'; 0 by the template 'total and deterministic' (their statements: YtjhinakfoejpbaaTotals.lean).
  GIVEN WITH THE SEED: the statements are not yours to turn. If you find one false, say at which input.
  Laid BY PROGRAM, IN A SANDBOX (cutbox-rows.mjs): the forced cells as the released guide's own fill.sh prints them over the translation d70511c1be7e01b2… (all of the seat's roots in one cut). By AI agents, Wed Nov 11 2026. No macro, syntax, notation, axiom, sorry.
-/
import Derived.Test.YtjhinakfoejpbaaChecked
import GoSem.Claim
import GoSem.ClaimJoined
import GoSem.ClaimMapViews
import Derived.JoinedTies
import Derived.KernelRfl
namespace Go.Proofs.Ytjhinakfoejpbaa
/- THE CELL 'sum', in the pinned program and in every row, IS THE sha256 OF THE DUMP (.gsa) THAT YtjhinakfoejpbaaProg.lean LOADS. Nothing in Lean hashes anything: it is a label: what it is worth is what the hold of that sum in a sandbox is worth. -/
noncomputable def Try.pinned : Pinned := { name := "ytjhinakfoejpbaa", sum := "d70511c1be7e01b26723dc4924c7a2be3b76d5f0a71c38cabd87f689d8012867", checked := Try.checked }
namespace Rows
def none {H : Type} : Left H := { results := [], args := [] }

/-- 'foolscaplaw20.TallyNil': WHATEVER THE INPUT: true; the input reads as it did. -/
def tallyNilSpec : ChangeSpec := { name := "tallyNil", fn := fun _ => fun
  | [d1, d2, d3] => { results := [.lit (.bool true)], args := [d1, d2, d3] }
  | _ => none }
def tallyNilRow : OpenClaim := { program := "ytjhinakfoejpbaa", sum := "d70511c1be7e01b26723dc4924c7a2be3b76d5f0a71c38cabd87f689d8012867", func := "foolscap/foolscaplaw20.TallyNil", spec := "tallyNil", inPlace := ["math/bits.Sub64", "math/bits.Add64"], unfollowed := true, recurses := true, named := ["math/bits.divideError", "math/bits.overflowError"], apart := false }
def TallyNilSaid : Prop := tallyNilRow.holds Try.pinned (OpenSpec.ofChange tallyNilSpec)

/-- ITS FALSE NEIGHBOUR: 'it returns false'. Refute it at one input. -/
def tallyNilWrong : ChangeSpec := { name := "tallyNil", fn := fun _ => fun
  | [d1, d2, d3] => { results := [.lit (.bool false)], args := [d1, d2, d3] }
  | _ => none }
def TallyNilWrongFalsely : Prop := tallyNilRow.holds Try.pinned (OpenSpec.ofChange tallyNilWrong)

/-- 'foolscaplaw20.TallyLists': WHATEVER THE INPUT: true; the input reads as it did. -/
def tallyListsSpec : ChangeSpec := { name := "tallyLists", fn := fun _ => fun
  | [d1, d2] => { results := [.lit (.bool true)], args := [d1, d2] }
  | _ => none }
def tallyListsRow : OpenClaim := { program := "ytjhinakfoejpbaa", sum := "d70511c1be7e01b26723dc4924c7a2be3b76d5f0a71c38cabd87f689d8012867", func := "foolscap/foolscaplaw20.TallyLists", spec := "tallyLists", inPlace := ["math/bits.Sub64", "math/bits.Add64"], unfollowed := true, recurses := true, named := ["math/bits.divideError", "math/bits.overflowError"], apart := false }
def TallyListsSaid : Prop := tallyListsRow.holds Try.pinned (OpenSpec.ofChange tallyListsSpec)

/-- ITS FALSE NEIGHBOUR: 'it returns false'. Refute it at one input. -/
def tallyListsWrong : ChangeSpec := { name := "tallyLists", fn := fun _ => fun
  | [d1, d2] => { results := [.lit (.bool false)], args := [d1, d2] }
  | _ => none }
def TallyListsWrongFalsely : Prop := tallyListsRow.holds Try.pinned (OpenSpec.ofChange tallyListsWrong)

/-- 'foolscaplaw20.TallyOrder': WHATEVER THE INPUT: true; the input reads as it did. -/
def tallyOrderSpec : ChangeSpec := { name := "tallyOrder", fn := fun _ => fun
  | [d1, d2, d3] => { results := [.lit (.bool true)], args := [d1, d2, d3] }
  | _ => none }
def tallyOrderRow : OpenClaim := { program := "ytjhinakfoejpbaa", sum := "d70511c1be7e01b26723dc4924c7a2be3b76d5f0a71c38cabd87f689d8012867", func := "foolscap/foolscaplaw20.TallyOrder", spec := "tallyOrder", inPlace := ["math/bits.Sub64", "math/bits.Add64"], unfollowed := true, recurses := true, named := ["math/bits.divideError", "math/bits.overflowError"], apart := false }
def TallyOrderSaid : Prop := tallyOrderRow.holds Try.pinned (OpenSpec.ofChange tallyOrderSpec)

/-- ITS FALSE NEIGHBOUR: 'it returns false'. Refute it at one input. -/
def tallyOrderWrong : ChangeSpec := { name := "tallyOrder", fn := fun _ => fun
  | [d1, d2, d3] => { results := [.lit (.bool false)], args := [d1, d2, d3] }
  | _ => none }
def TallyOrderWrongFalsely : Prop := tallyOrderRow.holds Try.pinned (OpenSpec.ofChange tallyOrderWrong)

/-- 'foolscaplaw20.TallyOften': WHATEVER THE INPUT: true; the input reads as it did. -/
def tallyOftenSpec : ChangeSpec := { name := "tallyOften", fn := fun _ => fun
  | [d1, d2, d3] => { results := [.lit (.bool true)], args := [d1, d2, d3] }
  | _ => none }
def tallyOftenRow : OpenClaim := { program := "ytjhinakfoejpbaa", sum := "d70511c1be7e01b26723dc4924c7a2be3b76d5f0a71c38cabd87f689d8012867", func := "foolscap/foolscaplaw20.TallyOften", spec := "tallyOften", inPlace := ["math/bits.Sub64", "math/bits.Add64"], unfollowed := true, recurses := true, named := ["math/bits.divideError", "math/bits.overflowError"], apart := false }
def TallyOftenSaid : Prop := tallyOftenRow.holds Try.pinned (OpenSpec.ofChange tallyOftenSpec)

/-- ITS FALSE NEIGHBOUR: 'it returns false'. Refute it at one input. -/
def tallyOftenWrong : ChangeSpec := { name := "tallyOften", fn := fun _ => fun
  | [d1, d2, d3] => { results := [.lit (.bool false)], args := [d1, d2, d3] }
  | _ => none }
def TallyOftenWrongFalsely : Prop := tallyOftenRow.holds Try.pinned (OpenSpec.ofChange tallyOftenWrong)

/-- 'foolscaplaw20.TallyTall': WHATEVER THE INPUT: true; the input reads as it did. -/
def tallyTallSpec : ChangeSpec := { name := "tallyTall", fn := fun _ => fun
  | [d1, d2] => { results := [.lit (.bool true)], args := [d1, d2] }
  | _ => none }
def tallyTallRow : OpenClaim := { program := "ytjhinakfoejpbaa", sum := "d70511c1be7e01b26723dc4924c7a2be3b76d5f0a71c38cabd87f689d8012867", func := "foolscap/foolscaplaw20.TallyTall", spec := "tallyTall", inPlace := ["math/bits.Sub64", "math/bits.Add64"], unfollowed := true, recurses := true, named := ["math/bits.divideError", "math/bits.overflowError"], apart := false }
def TallyTallSaid : Prop := tallyTallRow.holds Try.pinned (OpenSpec.ofChange tallyTallSpec)

/-- ITS FALSE NEIGHBOUR: 'it returns false'. Refute it at one input. -/
def tallyTallWrong : ChangeSpec := { name := "tallyTall", fn := fun _ => fun
  | [d1, d2] => { results := [.lit (.bool false)], args := [d1, d2] }
  | _ => none }
def TallyTallWrongFalsely : Prop := tallyTallRow.holds Try.pinned (OpenSpec.ofChange tallyTallWrong)

/-- 'foolscaplaw20.TallyPlays': WHATEVER THE INPUT: true; the input reads as it did. -/
def tallyPlaysSpec : ChangeSpec := { name := "tallyPlays", fn := fun _ => fun
  | [d1, d2, d3, d4] => { results := [.lit (.bool true)], args := [d1, d2, d3, d4] }
  | _ => none }
def tallyPlaysRow : OpenClaim := { program := "ytjhinakfoejpbaa", sum := "d70511c1be7e01b26723dc4924c7a2be3b76d5f0a71c38cabd87f689d8012867", func := "foolscap/foolscaplaw20.TallyPlays", spec := "tallyPlays", inPlace := ["math/bits.Sub64", "math/bits.Add64"], unfollowed := true, recurses := true, named := ["math/bits.divideError", "math/bits.overflowError"], apart := false }
def TallyPlaysSaid : Prop := tallyPlaysRow.holds Try.pinned (OpenSpec.ofChange tallyPlaysSpec)

/-- ITS FALSE NEIGHBOUR: 'it returns false'. Refute it at one input. -/
def tallyPlaysWrong : ChangeSpec := { name := "tallyPlays", fn := fun _ => fun
  | [d1, d2, d3, d4] => { results := [.lit (.bool false)], args := [d1, d2, d3, d4] }
  | _ => none }
def TallyPlaysWrongFalsely : Prop := tallyPlaysRow.holds Try.pinned (OpenSpec.ofChange tallyPlaysWrong)

/- THE SECOND FORM. 'bulk': how many values and letters a reading holds, each counted each time it is reached (what is shared counts as often as it is met; a slice's spare places count too). A statement '..UptoSaid' is the law's where the arguments, and the package variables that the reading takes, are together of bulk at most 1048576: NARROWER than '..Said'. Prove '..Said' where nothing that the law and all that it calls make is longer than what came in: it says more and counts as full. Else prove '..UptoSaid'. A law counts once. -/
mutual
def uptoBulk {H : Type} : DataW H → Nat
  | .lit (.string bytes) => bytes.length + 1
  | .lit _ => 1
  | .nil => 1
  | .ptr d => uptoBulk d + 1
  | .slice elems spare => uptoBulkAll elems + uptoBulkAll spare + 1
  | .agg parts => uptoBulkAll parts + 1
  | .iface _ d => uptoBulk d + 1
  | .map entries => uptoBulkEntries entries + 1
  | .held _ => 1
def uptoBulkAll {H : Type} : List (DataW H) → Nat
  | [] => 0
  | d :: r => uptoBulk d + uptoBulkAll r
def uptoBulkEntries {H : Type} : List (Lit × DataW H) → Nat
  | [] => 0
  | x :: r => uptoBulkEntry x + uptoBulkEntries r
def uptoBulkEntry {H : Type} : Lit × DataW H → Nat
  | (.string bytes, d) => bytes.length + uptoBulk d + 1
  | (_, d) => uptoBulk d + 1
 end
def uptoSmall : (H : Type) → List (DataW H) → Bool := fun _ ds => decide (uptoBulkAll ds ≤ 1048576)
def OpenSpec.upto (s : _root_.Go.ChangeSpec) : _root_.Go.OpenSpec := { _root_.Go.OpenSpec.ofChange s with cond := some uptoSmall }

/-- 'foolscaplaw20.TallyNil', WHERE WHAT IT READS IS OF BULK AT MOST 1048576: true; the input reads as it did. -/
def tallyNilUptoRow : OpenClaim := { program := "ytjhinakfoejpbaa", sum := "d70511c1be7e01b26723dc4924c7a2be3b76d5f0a71c38cabd87f689d8012867", func := "foolscap/foolscaplaw20.TallyNil", spec := "tallyNil", inPlace := ["math/bits.Sub64", "math/bits.Add64"], unfollowed := true, recurses := true, named := ["math/bits.divideError", "math/bits.overflowError"], apart := false, narrowed := true }
def TallyNilUptoSaid : Prop := tallyNilUptoRow.holds Try.pinned (OpenSpec.upto tallyNilSpec)

/-- 'foolscaplaw20.TallyLists', WHERE WHAT IT READS IS OF BULK AT MOST 1048576: true; the input reads as it did. -/
def tallyListsUptoRow : OpenClaim := { program := "ytjhinakfoejpbaa", sum := "d70511c1be7e01b26723dc4924c7a2be3b76d5f0a71c38cabd87f689d8012867", func := "foolscap/foolscaplaw20.TallyLists", spec := "tallyLists", inPlace := ["math/bits.Sub64", "math/bits.Add64"], unfollowed := true, recurses := true, named := ["math/bits.divideError", "math/bits.overflowError"], apart := false, narrowed := true }
def TallyListsUptoSaid : Prop := tallyListsUptoRow.holds Try.pinned (OpenSpec.upto tallyListsSpec)

/-- 'foolscaplaw20.TallyOrder', WHERE WHAT IT READS IS OF BULK AT MOST 1048576: true; the input reads as it did. -/
def tallyOrderUptoRow : OpenClaim := { program := "ytjhinakfoejpbaa", sum := "d70511c1be7e01b26723dc4924c7a2be3b76d5f0a71c38cabd87f689d8012867", func := "foolscap/foolscaplaw20.TallyOrder", spec := "tallyOrder", inPlace := ["math/bits.Sub64", "math/bits.Add64"], unfollowed := true, recurses := true, named := ["math/bits.divideError", "math/bits.overflowError"], apart := false, narrowed := true }
def TallyOrderUptoSaid : Prop := tallyOrderUptoRow.holds Try.pinned (OpenSpec.upto tallyOrderSpec)

/-- 'foolscaplaw20.TallyOften', WHERE WHAT IT READS IS OF BULK AT MOST 1048576: true; the input reads as it did. -/
def tallyOftenUptoRow : OpenClaim := { program := "ytjhinakfoejpbaa", sum := "d70511c1be7e01b26723dc4924c7a2be3b76d5f0a71c38cabd87f689d8012867", func := "foolscap/foolscaplaw20.TallyOften", spec := "tallyOften", inPlace := ["math/bits.Sub64", "math/bits.Add64"], unfollowed := true, recurses := true, named := ["math/bits.divideError", "math/bits.overflowError"], apart := false, narrowed := true }
def TallyOftenUptoSaid : Prop := tallyOftenUptoRow.holds Try.pinned (OpenSpec.upto tallyOftenSpec)

/-- 'foolscaplaw20.TallyTall', WHERE WHAT IT READS IS OF BULK AT MOST 1048576: true; the input reads as it did. -/
def tallyTallUptoRow : OpenClaim := { program := "ytjhinakfoejpbaa", sum := "d70511c1be7e01b26723dc4924c7a2be3b76d5f0a71c38cabd87f689d8012867", func := "foolscap/foolscaplaw20.TallyTall", spec := "tallyTall", inPlace := ["math/bits.Sub64", "math/bits.Add64"], unfollowed := true, recurses := true, named := ["math/bits.divideError", "math/bits.overflowError"], apart := false, narrowed := true }
def TallyTallUptoSaid : Prop := tallyTallUptoRow.holds Try.pinned (OpenSpec.upto tallyTallSpec)

/-- 'foolscaplaw20.TallyPlays', WHERE WHAT IT READS IS OF BULK AT MOST 1048576: true; the input reads as it did. -/
def tallyPlaysUptoRow : OpenClaim := { program := "ytjhinakfoejpbaa", sum := "d70511c1be7e01b26723dc4924c7a2be3b76d5f0a71c38cabd87f689d8012867", func := "foolscap/foolscaplaw20.TallyPlays", spec := "tallyPlays", inPlace := ["math/bits.Sub64", "math/bits.Add64"], unfollowed := true, recurses := true, named := ["math/bits.divideError", "math/bits.overflowError"], apart := false, narrowed := true }
def TallyPlaysUptoSaid : Prop := tallyPlaysUptoRow.holds Try.pinned (OpenSpec.upto tallyPlaysSpec)

end Rows
end Go.Proofs.Ytjhinakfoejpbaa
