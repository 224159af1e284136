/-
  No cell of these rows narrows 'for every input' (looked for: loops, veiled, ifaces, maps, wideKeys, modest, calm, conditions, laid).
  DERIVED. THE GIVEN ROWS OF THIS SEAT. 10 by the template 'for every input the law returns true; each argument reads behind the call as it read before'; 0 by the template 'total and deterministic' (their statements: YtfaoilalhneijaaTotals.lean).
  GIVEN WITH THE SEED: the statements are not yours to turn. If you find one false, say at which input.
  Laid BY PROGRAM, IN A SANDBOX (cutbox-rows.mjs): the forced cells as the released guide's own fill.sh prints them over the translation 2a6bd6f61883b48d… (all of the seat's roots in one cut). By AI agents, Wed Nov 11 2026. No macro, syntax, notation, axiom, sorry.
-/
import Derived.Test.YtfaoilalhneijaaChecked
import GoSem.Claim
import GoSem.ClaimJoined
import GoSem.ClaimMapViews
import Derived.JoinedTies
import Derived.KernelRfl
namespace Go.Proofs.Ytfaoilalhneijaa
/- THE CELL 'sum', in the pinned program and in every row, IS THE sha256 OF THE DUMP (.gsa) THAT YtfaoilalhneijaaProg.lean LOADS. Nothing in Lean hashes anything: it is a label: what it is worth is what the hold of that sum in a sandbox is worth. -/
noncomputable def Try.pinned : Pinned := { name := "ytfaoilalhneijaa", sum := "2a6bd6f61883b48dae4f279443071e38ed94f2119318e69ee53dd17c9b885f44", checked := Try.checked }
namespace Rows
def none {H : Type} : Left H := { results := [], args := [] }

/-- 'foolscaplaw02.RealKinds': WHATEVER THE INPUT: true; the input reads as it did. -/
def realKindsSpec : ChangeSpec := { name := "realKinds", fn := fun _ => fun
  | [d] => { results := [.lit (.bool true)], args := [d] }
  | _ => none }
def realKindsRow : OpenClaim := { program := "ytfaoilalhneijaa", sum := "2a6bd6f61883b48dae4f279443071e38ed94f2119318e69ee53dd17c9b885f44", func := "foolscap/foolscaplaw02.RealKinds", spec := "realKinds", inPlace := ["math.Float64frombits", "math.Float64bits"], named := ["math/bits.divideError", "math/bits.overflowError"], apart := false }
def RealKindsSaid : Prop := realKindsRow.holds Try.pinned (OpenSpec.ofChange realKindsSpec)

/-- ITS FALSE NEIGHBOUR: 'it returns false'. Refute it at one input. -/
def realKindsWrong : ChangeSpec := { name := "realKinds", fn := fun _ => fun
  | [d] => { results := [.lit (.bool false)], args := [d] }
  | _ => none }
def RealKindsWrongFalsely : Prop := realKindsRow.holds Try.pinned (OpenSpec.ofChange realKindsWrong)

/-- 'foolscaplaw02.RealNumbers': WHATEVER THE INPUT: true; the input reads as it did. -/
def realNumbersSpec : ChangeSpec := { name := "realNumbers", fn := fun _ => fun
  | [d] => { results := [.lit (.bool true)], args := [d] }
  | _ => none }
def realNumbersRow : OpenClaim := { program := "ytfaoilalhneijaa", sum := "2a6bd6f61883b48dae4f279443071e38ed94f2119318e69ee53dd17c9b885f44", func := "foolscap/foolscaplaw02.RealNumbers", spec := "realNumbers", inPlace := ["math.Float64frombits", "math.Float64bits"], named := ["math/bits.divideError", "math/bits.overflowError"], apart := false }
def RealNumbersSaid : Prop := realNumbersRow.holds Try.pinned (OpenSpec.ofChange realNumbersSpec)

/-- ITS FALSE NEIGHBOUR: 'it returns false'. Refute it at one input. -/
def realNumbersWrong : ChangeSpec := { name := "realNumbers", fn := fun _ => fun
  | [d] => { results := [.lit (.bool false)], args := [d] }
  | _ => none }
def RealNumbersWrongFalsely : Prop := realNumbersRow.holds Try.pinned (OpenSpec.ofChange realNumbersWrong)

/-- 'foolscaplaw02.RealFloats': WHATEVER THE INPUT: true; the input reads as it did. -/
def realFloatsSpec : ChangeSpec := { name := "realFloats", fn := fun _ => fun
  | [d] => { results := [.lit (.bool true)], args := [d] }
  | _ => none }
def realFloatsRow : OpenClaim := { program := "ytfaoilalhneijaa", sum := "2a6bd6f61883b48dae4f279443071e38ed94f2119318e69ee53dd17c9b885f44", func := "foolscap/foolscaplaw02.RealFloats", spec := "realFloats", inPlace := ["math.Float64bits", "math.Float64frombits"], named := ["math/bits.divideError", "math/bits.overflowError"], apart := false }
def RealFloatsSaid : Prop := realFloatsRow.holds Try.pinned (OpenSpec.ofChange realFloatsSpec)

/-- ITS FALSE NEIGHBOUR: 'it returns false'. Refute it at one input. -/
def realFloatsWrong : ChangeSpec := { name := "realFloats", fn := fun _ => fun
  | [d] => { results := [.lit (.bool false)], args := [d] }
  | _ => none }
def RealFloatsWrongFalsely : Prop := realFloatsRow.holds Try.pinned (OpenSpec.ofChange realFloatsWrong)

/-- 'foolscaplaw02.RealRows': WHATEVER THE INPUT: true; the input reads as it did. -/
def realRowsSpec : ChangeSpec := { name := "realRows", fn := fun _ => fun
  | [d1, d2] => { results := [.lit (.bool true)], args := [d1, d2] }
  | _ => none }
def realRowsRow : OpenClaim := { program := "ytfaoilalhneijaa", sum := "2a6bd6f61883b48dae4f279443071e38ed94f2119318e69ee53dd17c9b885f44", func := "foolscap/foolscaplaw02.RealRows", spec := "realRows", inPlace := ["math.Float64frombits", "math.Float64bits"], named := ["math/bits.divideError", "math/bits.overflowError"], apart := false }
def RealRowsSaid : Prop := realRowsRow.holds Try.pinned (OpenSpec.ofChange realRowsSpec)

/-- ITS FALSE NEIGHBOUR: 'it returns false'. Refute it at one input. -/
def realRowsWrong : ChangeSpec := { name := "realRows", fn := fun _ => fun
  | [d1, d2] => { results := [.lit (.bool false)], args := [d1, d2] }
  | _ => none }
def RealRowsWrongFalsely : Prop := realRowsRow.holds Try.pinned (OpenSpec.ofChange realRowsWrong)

/-- 'foolscaplaw02.RealBack': WHATEVER THE INPUT: true; the input reads as it did. -/
def realBackSpec : ChangeSpec := { name := "realBack", fn := fun _ => fun
  | [d] => { results := [.lit (.bool true)], args := [d] }
  | _ => none }
def realBackRow : OpenClaim := { program := "ytfaoilalhneijaa", sum := "2a6bd6f61883b48dae4f279443071e38ed94f2119318e69ee53dd17c9b885f44", func := "foolscap/foolscaplaw02.RealBack", spec := "realBack", inPlace := ["math.Float64bits", "math.Float64frombits"], named := ["math/bits.divideError", "math/bits.overflowError"], apart := false }
def RealBackSaid : Prop := realBackRow.holds Try.pinned (OpenSpec.ofChange realBackSpec)

/-- ITS FALSE NEIGHBOUR: 'it returns false'. Refute it at one input. -/
def realBackWrong : ChangeSpec := { name := "realBack", fn := fun _ => fun
  | [d] => { results := [.lit (.bool false)], args := [d] }
  | _ => none }
def RealBackWrongFalsely : Prop := realBackRow.holds Try.pinned (OpenSpec.ofChange realBackWrong)

/-- 'foolscaplaw02.RealRises': WHATEVER THE INPUT: true; the input reads as it did. -/
def realRisesSpec : ChangeSpec := { name := "realRises", fn := fun _ => fun
  | [d1, d2] => { results := [.lit (.bool true)], args := [d1, d2] }
  | _ => none }
def realRisesRow : OpenClaim := { program := "ytfaoilalhneijaa", sum := "2a6bd6f61883b48dae4f279443071e38ed94f2119318e69ee53dd17c9b885f44", func := "foolscap/foolscaplaw02.RealRises", spec := "realRises", inPlace := ["math.Float64frombits", "math.Float64bits"], named := ["math/bits.divideError", "math/bits.overflowError"], apart := false }
def RealRisesSaid : Prop := realRisesRow.holds Try.pinned (OpenSpec.ofChange realRisesSpec)

/-- ITS FALSE NEIGHBOUR: 'it returns false'. Refute it at one input. -/
def realRisesWrong : ChangeSpec := { name := "realRises", fn := fun _ => fun
  | [d1, d2] => { results := [.lit (.bool false)], args := [d1, d2] }
  | _ => none }
def RealRisesWrongFalsely : Prop := realRisesRow.holds Try.pinned (OpenSpec.ofChange realRisesWrong)

/-- 'foolscaplaw02.RealNumbersRise': WHATEVER THE INPUT: true; the input reads as it did. -/
def realNumbersRiseSpec : ChangeSpec := { name := "realNumbersRise", fn := fun _ => fun
  | [d1, d2] => { results := [.lit (.bool true)], args := [d1, d2] }
  | _ => none }
def realNumbersRiseRow : OpenClaim := { program := "ytfaoilalhneijaa", sum := "2a6bd6f61883b48dae4f279443071e38ed94f2119318e69ee53dd17c9b885f44", func := "foolscap/foolscaplaw02.RealNumbersRise", spec := "realNumbersRise", inPlace := ["math.Float64bits", "math.Float64frombits"], named := ["math/bits.divideError", "math/bits.overflowError"], apart := false }
def RealNumbersRiseSaid : Prop := realNumbersRiseRow.holds Try.pinned (OpenSpec.ofChange realNumbersRiseSpec)

/-- ITS FALSE NEIGHBOUR: 'it returns false'. Refute it at one input. -/
def realNumbersRiseWrong : ChangeSpec := { name := "realNumbersRise", fn := fun _ => fun
  | [d1, d2] => { results := [.lit (.bool false)], args := [d1, d2] }
  | _ => none }
def RealNumbersRiseWrongFalsely : Prop := realNumbersRiseRow.holds Try.pinned (OpenSpec.ofChange realNumbersRiseWrong)

/-- 'foolscaplaw02.RealOrder': WHATEVER THE INPUT: true; the input reads as it did. -/
def realOrderSpec : ChangeSpec := { name := "realOrder", fn := fun _ => fun
  | [d1, d2, d3] => { results := [.lit (.bool true)], args := [d1, d2, d3] }
  | _ => none }
def realOrderRow : OpenClaim := { program := "ytfaoilalhneijaa", sum := "2a6bd6f61883b48dae4f279443071e38ed94f2119318e69ee53dd17c9b885f44", func := "foolscap/foolscaplaw02.RealOrder", spec := "realOrder", inPlace := ["math.Float64frombits", "math.Float64bits"], named := ["math/bits.divideError", "math/bits.overflowError"], apart := false }
def RealOrderSaid : Prop := realOrderRow.holds Try.pinned (OpenSpec.ofChange realOrderSpec)

/-- ITS FALSE NEIGHBOUR: 'it returns false'. Refute it at one input. -/
def realOrderWrong : ChangeSpec := { name := "realOrder", fn := fun _ => fun
  | [d1, d2, d3] => { results := [.lit (.bool false)], args := [d1, d2, d3] }
  | _ => none }
def RealOrderWrongFalsely : Prop := realOrderRow.holds Try.pinned (OpenSpec.ofChange realOrderWrong)

/-- 'foolscaplaw02.RealNext': WHATEVER THE INPUT: true; the input reads as it did. -/
def realNextSpec : ChangeSpec := { name := "realNext", fn := fun _ => fun
  | [d1, d2] => { results := [.lit (.bool true)], args := [d1, d2] }
  | _ => none }
def realNextRow : OpenClaim := { program := "ytfaoilalhneijaa", sum := "2a6bd6f61883b48dae4f279443071e38ed94f2119318e69ee53dd17c9b885f44", func := "foolscap/foolscaplaw02.RealNext", spec := "realNext", inPlace := ["math.Float64frombits", "math.Float64bits"], named := ["math/bits.divideError", "math/bits.overflowError"], apart := false }
def RealNextSaid : Prop := realNextRow.holds Try.pinned (OpenSpec.ofChange realNextSpec)

/-- ITS FALSE NEIGHBOUR: 'it returns false'. Refute it at one input. -/
def realNextWrong : ChangeSpec := { name := "realNext", fn := fun _ => fun
  | [d1, d2] => { results := [.lit (.bool false)], args := [d1, d2] }
  | _ => none }
def RealNextWrongFalsely : Prop := realNextRow.holds Try.pinned (OpenSpec.ofChange realNextWrong)

/-- 'foolscaplaw02.RealMirror': WHATEVER THE INPUT: true; the input reads as it did. -/
def realMirrorSpec : ChangeSpec := { name := "realMirror", fn := fun _ => fun
  | [d1, d2] => { results := [.lit (.bool true)], args := [d1, d2] }
  | _ => none }
def realMirrorRow : OpenClaim := { program := "ytfaoilalhneijaa", sum := "2a6bd6f61883b48dae4f279443071e38ed94f2119318e69ee53dd17c9b885f44", func := "foolscap/foolscaplaw02.RealMirror", spec := "realMirror", inPlace := ["math.Float64frombits", "math.Float64bits"], named := ["math/bits.divideError", "math/bits.overflowError"], apart := false }
def RealMirrorSaid : Prop := realMirrorRow.holds Try.pinned (OpenSpec.ofChange realMirrorSpec)

/-- ITS FALSE NEIGHBOUR: 'it returns false'. Refute it at one input. -/
def realMirrorWrong : ChangeSpec := { name := "realMirror", fn := fun _ => fun
  | [d1, d2] => { results := [.lit (.bool false)], args := [d1, d2] }
  | _ => none }
def RealMirrorWrongFalsely : Prop := realMirrorRow.holds Try.pinned (OpenSpec.ofChange realMirrorWrong)

/- THE SECOND FORM. 'bulk': how many values and letters a reading holds, each counted each time it is reached (what is shared counts as often as it is met; a slice's spare places count too). A statement '..UptoSaid' is the law's where the arguments, and the package variables that the reading takes, are together of bulk at most 1048576: NARROWER than '..Said'. Prove '..Said' where nothing that the law and all that it calls make is longer than what came in: it says more and counts as full. Else prove '..UptoSaid'. A law counts once. -/
mutual
def uptoBulk {H : Type} : DataW H → Nat
  | .lit (.string bytes) => bytes.length + 1
  | .lit _ => 1
  | .nil => 1
  | .ptr d => uptoBulk d + 1
  | .slice elems spare => uptoBulkAll elems + uptoBulkAll spare + 1
  | .agg parts => uptoBulkAll parts + 1
  | .iface _ d => uptoBulk d + 1
  | .map entries => uptoBulkEntries entries + 1
  | .held _ => 1
def uptoBulkAll {H : Type} : List (DataW H) → Nat
  | [] => 0
  | d :: r => uptoBulk d + uptoBulkAll r
def uptoBulkEntries {H : Type} : List (Lit × DataW H) → Nat
  | [] => 0
  | x :: r => uptoBulkEntry x + uptoBulkEntries r
def uptoBulkEntry {H : Type} : Lit × DataW H → Nat
  | (.string bytes, d) => bytes.length + uptoBulk d + 1
  | (_, d) => uptoBulk d + 1
 end
def uptoSmall : (H : Type) → List (DataW H) → Bool := fun _ ds => decide (uptoBulkAll ds ≤ 1048576)
def OpenSpec.upto (s : _root_.Go.ChangeSpec) : _root_.Go.OpenSpec := { _root_.Go.OpenSpec.ofChange s with cond := some uptoSmall }

/-- 'foolscaplaw02.RealKinds', WHERE WHAT IT READS IS OF BULK AT MOST 1048576: true; the input reads as it did. -/
def realKindsUptoRow : OpenClaim := { program := "ytfaoilalhneijaa", sum := "2a6bd6f61883b48dae4f279443071e38ed94f2119318e69ee53dd17c9b885f44", func := "foolscap/foolscaplaw02.RealKinds", spec := "realKinds", inPlace := ["math.Float64frombits", "math.Float64bits"], named := ["math/bits.divideError", "math/bits.overflowError"], apart := false, narrowed := true }
def RealKindsUptoSaid : Prop := realKindsUptoRow.holds Try.pinned (OpenSpec.upto realKindsSpec)

/-- 'foolscaplaw02.RealNumbers', WHERE WHAT IT READS IS OF BULK AT MOST 1048576: true; the input reads as it did. -/
def realNumbersUptoRow : OpenClaim := { program := "ytfaoilalhneijaa", sum := "2a6bd6f61883b48dae4f279443071e38ed94f2119318e69ee53dd17c9b885f44", func := "foolscap/foolscaplaw02.RealNumbers", spec := "realNumbers", inPlace := ["math.Float64frombits", "math.Float64bits"], named := ["math/bits.divideError", "math/bits.overflowError"], apart := false, narrowed := true }
def RealNumbersUptoSaid : Prop := realNumbersUptoRow.holds Try.pinned (OpenSpec.upto realNumbersSpec)

/-- 'foolscaplaw02.RealFloats', WHERE WHAT IT READS IS OF BULK AT MOST 1048576: true; the input reads as it did. -/
def realFloatsUptoRow : OpenClaim := { program := "ytfaoilalhneijaa", sum := "2a6bd6f61883b48dae4f279443071e38ed94f2119318e69ee53dd17c9b885f44", func := "foolscap/foolscaplaw02.RealFloats", spec := "realFloats", inPlace := ["math.Float64bits", "math.Float64frombits"], named := ["math/bits.divideError", "math/bits.overflowError"], apart := false, narrowed := true }
def RealFloatsUptoSaid : Prop := realFloatsUptoRow.holds Try.pinned (OpenSpec.upto realFloatsSpec)

/-- 'foolscaplaw02.RealRows', WHERE WHAT IT READS IS OF BULK AT MOST 1048576: true; the input reads as it did. -/
def realRowsUptoRow : OpenClaim := { program := "ytfaoilalhneijaa", sum := "2a6bd6f61883b48dae4f279443071e38ed94f2119318e69ee53dd17c9b885f44", func := "foolscap/foolscaplaw02.RealRows", spec := "realRows", inPlace := ["math.Float64frombits", "math.Float64bits"], named := ["math/bits.divideError", "math/bits.overflowError"], apart := false, narrowed := true }
def RealRowsUptoSaid : Prop := realRowsUptoRow.holds Try.pinned (OpenSpec.upto realRowsSpec)

/-- 'foolscaplaw02.RealBack', WHERE WHAT IT READS IS OF BULK AT MOST 1048576: true; the input reads as it did. -/
def realBackUptoRow : OpenClaim := { program := "ytfaoilalhneijaa", sum := "2a6bd6f61883b48dae4f279443071e38ed94f2119318e69ee53dd17c9b885f44", func := "foolscap/foolscaplaw02.RealBack", spec := "realBack", inPlace := ["math.Float64bits", "math.Float64frombits"], named := ["math/bits.divideError", "math/bits.overflowError"], apart := false, narrowed := true }
def RealBackUptoSaid : Prop := realBackUptoRow.holds Try.pinned (OpenSpec.upto realBackSpec)

/-- 'foolscaplaw02.RealRises', WHERE WHAT IT READS IS OF BULK AT MOST 1048576: true; the input reads as it did. -/
def realRisesUptoRow : OpenClaim := { program := "ytfaoilalhneijaa", sum := "2a6bd6f61883b48dae4f279443071e38ed94f2119318e69ee53dd17c9b885f44", func := "foolscap/foolscaplaw02.RealRises", spec := "realRises", inPlace := ["math.Float64frombits", "math.Float64bits"], named := ["math/bits.divideError", "math/bits.overflowError"], apart := false, narrowed := true }
def RealRisesUptoSaid : Prop := realRisesUptoRow.holds Try.pinned (OpenSpec.upto realRisesSpec)

/-- 'foolscaplaw02.RealNumbersRise', WHERE WHAT IT READS IS OF BULK AT MOST 1048576: true; the input reads as it did. -/
def realNumbersRiseUptoRow : OpenClaim := { program := "ytfaoilalhneijaa", sum := "2a6bd6f61883b48dae4f279443071e38ed94f2119318e69ee53dd17c9b885f44", func := "foolscap/foolscaplaw02.RealNumbersRise", spec := "realNumbersRise", inPlace := ["math.Float64bits", "math.Float64frombits"], named := ["math/bits.divideError", "math/bits.overflowError"], apart := false, narrowed := true }
def RealNumbersRiseUptoSaid : Prop := realNumbersRiseUptoRow.holds Try.pinned (OpenSpec.upto realNumbersRiseSpec)

/-- 'foolscaplaw02.RealOrder', WHERE WHAT IT READS IS OF BULK AT MOST 1048576: true; the input reads as it did. -/
def realOrderUptoRow : OpenClaim := { program := "ytfaoilalhneijaa", sum := "2a6bd6f61883b48dae4f279443071e38ed94f2119318e69ee53dd17c9b885f44", func := "foolscap/foolscaplaw02.RealOrder", spec := "realOrder", inPlace := ["math.Float64frombits", "math.Float64bits"], named := ["math/bits.divideError", "math/bits.overflowError"], apart := false, narrowed := true }
def RealOrderUptoSaid : Prop := realOrderUptoRow.holds Try.pinned (OpenSpec.upto realOrderSpec)

/-- 'foolscaplaw02.RealNext', WHERE WHAT IT READS IS OF BULK AT MOST 1048576: true; the input reads as it did. -/
def realNextUptoRow : OpenClaim := { program := "ytfaoilalhneijaa", sum := "2a6bd6f61883b48dae4f279443071e38ed94f2119318e69ee53dd17c9b885f44", func := "foolscap/foolscaplaw02.RealNext", spec := "realNext", inPlace := ["math.Float64frombits", "math.Float64bits"], named := ["math/bits.divideError", "math/bits.overflowError"], apart := false, narrowed := true }
def RealNextUptoSaid : Prop := realNextUptoRow.holds Try.pinned (OpenSpec.upto realNextSpec)

/-- 'foolscaplaw02.RealMirror', WHERE WHAT IT READS IS OF BULK AT MOST 1048576: true; the input reads as it did. -/
def realMirrorUptoRow : OpenClaim := { program := "ytfaoilalhneijaa", sum := "2a6bd6f61883b48dae4f279443071e38ed94f2119318e69ee53dd17c9b885f44", func := "foolscap/foolscaplaw02.RealMirror", spec := "realMirror", inPlace := ["math.Float64frombits", "math.Float64bits"], named := ["math/bits.divideError", "math/bits.overflowError"], apart := false, narrowed := true }
def RealMirrorUptoSaid : Prop := realMirrorUptoRow.holds Try.pinned (OpenSpec.upto realMirrorSpec)

end Rows
end Go.Proofs.Ytfaoilalhneijaa
