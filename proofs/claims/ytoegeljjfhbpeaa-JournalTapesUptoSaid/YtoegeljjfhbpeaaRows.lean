/-
  No cell of these rows narrows 'for every input' (looked for: loops, veiled, ifaces, maps, wideKeys, modest, calm, conditions, laid).
  DERIVED. THE GIVEN ROWS OF THIS SEAT. 7 by the template 'for every input the law returns true; each argument reads behind the call as it read before'; 0 by the template 'total and deterministic' (their statements: YtoegeljjfhbpeaaTotals.lean).
  GIVEN WITH THE SEED: the statements are not yours to turn. If you find one false, say at which input.
  Laid BY PROGRAM, IN A SANDBOX (cutbox-rows.mjs): the forced cells as the released guide's own fill.sh prints them over the translation 74a2326afb1a076f… (all of the seat's roots in one cut). By AI agents, Wed Nov 11 2026. No macro, syntax, notation, axiom, sorry.
-/
import Derived.Test.YtoegeljjfhbpeaaChecked
import GoSem.Claim
import GoSem.ClaimJoined
import GoSem.ClaimMapViews
import Derived.JoinedTies
import Derived.KernelRfl
namespace Go.Proofs.Ytoegeljjfhbpeaa
/- THE CELL 'sum', in the pinned program and in every row, IS THE sha256 OF THE DUMP (.gsa) THAT YtoegeljjfhbpeaaProg.lean LOADS. Nothing in Lean hashes anything: it is a label: what it is worth is what the hold of that sum in a sandbox is worth. -/
noncomputable def Try.pinned : Pinned := { name := "ytoegeljjfhbpeaa", sum := "74a2326afb1a076fd8d10c4a26a0fcc9d00aeb6ded81dcf235031e4b3f4e06d1", checked := Try.checked }
namespace Rows
def none {H : Type} : Left H := { results := [], args := [] }

/-- 'foolscaplaw31.JournalFrames': WHATEVER THE INPUT: true; the input reads as it did. -/
def journalFramesSpec : ChangeSpec := { name := "journalFrames", fn := fun _ => fun
  | [d1, d2, d3] => { results := [.lit (.bool true)], args := [d1, d2, d3] }
  | _ => none }
def journalFramesRow : OpenClaim := { program := "ytoegeljjfhbpeaa", sum := "74a2326afb1a076fd8d10c4a26a0fcc9d00aeb6ded81dcf235031e4b3f4e06d1", func := "foolscap/foolscaplaw31.JournalFrames", spec := "journalFrames", unfollowed := true, recurses := true, apart := false }
def JournalFramesSaid : Prop := journalFramesRow.holds Try.pinned (OpenSpec.ofChange journalFramesSpec)

/-- ITS FALSE NEIGHBOUR: 'it returns false'. Refute it at one input. -/
def journalFramesWrong : ChangeSpec := { name := "journalFrames", fn := fun _ => fun
  | [d1, d2, d3] => { results := [.lit (.bool false)], args := [d1, d2, d3] }
  | _ => none }
def JournalFramesWrongFalsely : Prop := journalFramesRow.holds Try.pinned (OpenSpec.ofChange journalFramesWrong)

/-- 'foolscaplaw31.JournalScans': WHATEVER THE INPUT: true; the input reads as it did. -/
def journalScansSpec : ChangeSpec := { name := "journalScans", fn := fun _ => fun
  | [d] => { results := [.lit (.bool true)], args := [d] }
  | _ => none }
def journalScansRow : OpenClaim := { program := "ytoegeljjfhbpeaa", sum := "74a2326afb1a076fd8d10c4a26a0fcc9d00aeb6ded81dcf235031e4b3f4e06d1", func := "foolscap/foolscaplaw31.JournalScans", spec := "journalScans", unfollowed := true, recurses := true, apart := false }
def JournalScansSaid : Prop := journalScansRow.holds Try.pinned (OpenSpec.ofChange journalScansSpec)

/-- ITS FALSE NEIGHBOUR: 'it returns false'. Refute it at one input. -/
def journalScansWrong : ChangeSpec := { name := "journalScans", fn := fun _ => fun
  | [d] => { results := [.lit (.bool false)], args := [d] }
  | _ => none }
def JournalScansWrongFalsely : Prop := journalScansRow.holds Try.pinned (OpenSpec.ofChange journalScansWrong)

/-- 'foolscaplaw31.JournalBack': WHATEVER THE INPUT: true; the input reads as it did. -/
def journalBackSpec : ChangeSpec := { name := "journalBack", fn := fun _ => fun
  | [d1, d2] => { results := [.lit (.bool true)], args := [d1, d2] }
  | _ => none }
def journalBackRow : OpenClaim := { program := "ytoegeljjfhbpeaa", sum := "74a2326afb1a076fd8d10c4a26a0fcc9d00aeb6ded81dcf235031e4b3f4e06d1", func := "foolscap/foolscaplaw31.JournalBack", spec := "journalBack", unfollowed := true, recurses := true, apart := false }
def JournalBackSaid : Prop := journalBackRow.holds Try.pinned (OpenSpec.ofChange journalBackSpec)

/-- ITS FALSE NEIGHBOUR: 'it returns false'. Refute it at one input. -/
def journalBackWrong : ChangeSpec := { name := "journalBack", fn := fun _ => fun
  | [d1, d2] => { results := [.lit (.bool false)], args := [d1, d2] }
  | _ => none }
def JournalBackWrongFalsely : Prop := journalBackRow.holds Try.pinned (OpenSpec.ofChange journalBackWrong)

/-- 'foolscaplaw31.JournalFound': WHATEVER THE INPUT: true; the input reads as it did. -/
def journalFoundSpec : ChangeSpec := { name := "journalFound", fn := fun _ => fun
  | [d1, d2, d3, d4] => { results := [.lit (.bool true)], args := [d1, d2, d3, d4] }
  | _ => none }
def journalFoundRow : OpenClaim := { program := "ytoegeljjfhbpeaa", sum := "74a2326afb1a076fd8d10c4a26a0fcc9d00aeb6ded81dcf235031e4b3f4e06d1", func := "foolscap/foolscaplaw31.JournalFound", spec := "journalFound", unfollowed := true, recurses := true, apart := false }
def JournalFoundSaid : Prop := journalFoundRow.holds Try.pinned (OpenSpec.ofChange journalFoundSpec)

/-- ITS FALSE NEIGHBOUR: 'it returns false'. Refute it at one input. -/
def journalFoundWrong : ChangeSpec := { name := "journalFound", fn := fun _ => fun
  | [d1, d2, d3, d4] => { results := [.lit (.bool false)], args := [d1, d2, d3, d4] }
  | _ => none }
def JournalFoundWrongFalsely : Prop := journalFoundRow.holds Try.pinned (OpenSpec.ofChange journalFoundWrong)

/-- 'foolscaplaw31.JournalSafe': WHATEVER THE INPUT: true; the input reads as it did. -/
def journalSafeSpec : ChangeSpec := { name := "journalSafe", fn := fun _ => fun
  | [d1, d2, d3, d4] => { results := [.lit (.bool true)], args := [d1, d2, d3, d4] }
  | _ => none }
def journalSafeRow : OpenClaim := { program := "ytoegeljjfhbpeaa", sum := "74a2326afb1a076fd8d10c4a26a0fcc9d00aeb6ded81dcf235031e4b3f4e06d1", func := "foolscap/foolscaplaw31.JournalSafe", spec := "journalSafe", unfollowed := true, recurses := true, apart := false }
def JournalSafeSaid : Prop := journalSafeRow.holds Try.pinned (OpenSpec.ofChange journalSafeSpec)

/-- ITS FALSE NEIGHBOUR: 'it returns false'. Refute it at one input. -/
def journalSafeWrong : ChangeSpec := { name := "journalSafe", fn := fun _ => fun
  | [d1, d2, d3, d4] => { results := [.lit (.bool false)], args := [d1, d2, d3, d4] }
  | _ => none }
def JournalSafeWrongFalsely : Prop := journalSafeRow.holds Try.pinned (OpenSpec.ofChange journalSafeWrong)

/-- 'foolscaplaw31.JournalTapes': WHATEVER THE INPUT: true; the input reads as it did. -/
def journalTapesSpec : ChangeSpec := { name := "journalTapes", fn := fun _ => fun
  | [d1, d2, d3, d4, d5, d6] => { results := [.lit (.bool true)], args := [d1, d2, d3, d4, d5, d6] }
  | _ => none }
def journalTapesRow : OpenClaim := { program := "ytoegeljjfhbpeaa", sum := "74a2326afb1a076fd8d10c4a26a0fcc9d00aeb6ded81dcf235031e4b3f4e06d1", func := "foolscap/foolscaplaw31.JournalTapes", spec := "journalTapes", unfollowed := true, recurses := true, apart := false }
def JournalTapesSaid : Prop := journalTapesRow.holds Try.pinned (OpenSpec.ofChange journalTapesSpec)

/-- ITS FALSE NEIGHBOUR: 'it returns false'. Refute it at one input. -/
def journalTapesWrong : ChangeSpec := { name := "journalTapes", fn := fun _ => fun
  | [d1, d2, d3, d4, d5, d6] => { results := [.lit (.bool false)], args := [d1, d2, d3, d4, d5, d6] }
  | _ => none }
def JournalTapesWrongFalsely : Prop := journalTapesRow.holds Try.pinned (OpenSpec.ofChange journalTapesWrong)

/-- 'foolscaplaw31.JournalNil': WHATEVER THE INPUT: true; the input reads as it did. -/
def journalNilSpec : ChangeSpec := { name := "journalNil", fn := fun _ => fun
  | [d1, d2, d3] => { results := [.lit (.bool true)], args := [d1, d2, d3] }
  | _ => none }
def journalNilRow : OpenClaim := { program := "ytoegeljjfhbpeaa", sum := "74a2326afb1a076fd8d10c4a26a0fcc9d00aeb6ded81dcf235031e4b3f4e06d1", func := "foolscap/foolscaplaw31.JournalNil", spec := "journalNil", unfollowed := true, recurses := true, apart := false }
def JournalNilSaid : Prop := journalNilRow.holds Try.pinned (OpenSpec.ofChange journalNilSpec)

/-- ITS FALSE NEIGHBOUR: 'it returns false'. Refute it at one input. -/
def journalNilWrong : ChangeSpec := { name := "journalNil", fn := fun _ => fun
  | [d1, d2, d3] => { results := [.lit (.bool false)], args := [d1, d2, d3] }
  | _ => none }
def JournalNilWrongFalsely : Prop := journalNilRow.holds Try.pinned (OpenSpec.ofChange journalNilWrong)

/- THE SECOND FORM. 'bulk': how many values and letters a reading holds, each counted each time it is reached (what is shared counts as often as it is met; a slice's spare places count too). A statement '..UptoSaid' is the law's where the arguments, and the package variables that the reading takes, are together of bulk at most 1048576: NARROWER than '..Said'. Prove '..Said' where nothing that the law and all that it calls make is longer than what came in: it says more and counts as full. Else prove '..UptoSaid'. A law counts once. -/
mutual
def uptoBulk {H : Type} : DataW H → Nat
  | .lit (.string bytes) => bytes.length + 1
  | .lit _ => 1
  | .nil => 1
  | .ptr d => uptoBulk d + 1
  | .slice elems spare => uptoBulkAll elems + uptoBulkAll spare + 1
  | .agg parts => uptoBulkAll parts + 1
  | .iface _ d => uptoBulk d + 1
  | .map entries => uptoBulkEntries entries + 1
  | .held _ => 1
def uptoBulkAll {H : Type} : List (DataW H) → Nat
  | [] => 0
  | d :: r => uptoBulk d + uptoBulkAll r
def uptoBulkEntries {H : Type} : List (Lit × DataW H) → Nat
  | [] => 0
  | x :: r => uptoBulkEntry x + uptoBulkEntries r
def uptoBulkEntry {H : Type} : Lit × DataW H → Nat
  | (.string bytes, d) => bytes.length + uptoBulk d + 1
  | (_, d) => uptoBulk d + 1
 end
def uptoSmall : (H : Type) → List (DataW H) → Bool := fun _ ds => decide (uptoBulkAll ds ≤ 1048576)
def OpenSpec.upto (s : _root_.Go.ChangeSpec) : _root_.Go.OpenSpec := { _root_.Go.OpenSpec.ofChange s with cond := some uptoSmall }

/-- 'foolscaplaw31.JournalFrames', WHERE WHAT IT READS IS OF BULK AT MOST 1048576: true; the input reads as it did. -/
def journalFramesUptoRow : OpenClaim := { program := "ytoegeljjfhbpeaa", sum := "74a2326afb1a076fd8d10c4a26a0fcc9d00aeb6ded81dcf235031e4b3f4e06d1", func := "foolscap/foolscaplaw31.JournalFrames", spec := "journalFrames", unfollowed := true, recurses := true, apart := false, narrowed := true }
def JournalFramesUptoSaid : Prop := journalFramesUptoRow.holds Try.pinned (OpenSpec.upto journalFramesSpec)

/-- 'foolscaplaw31.JournalScans', WHERE WHAT IT READS IS OF BULK AT MOST 1048576: true; the input reads as it did. -/
def journalScansUptoRow : OpenClaim := { program := "ytoegeljjfhbpeaa", sum := "74a2326afb1a076fd8d10c4a26a0fcc9d00aeb6ded81dcf235031e4b3f4e06d1", func := "foolscap/foolscaplaw31.JournalScans", spec := "journalScans", unfollowed := true, recurses := true, apart := false, narrowed := true }
def JournalScansUptoSaid : Prop := journalScansUptoRow.holds Try.pinned (OpenSpec.upto journalScansSpec)

/-- 'foolscaplaw31.JournalBack', WHERE WHAT IT READS IS OF BULK AT MOST 1048576: true; the input reads as it did. -/
def journalBackUptoRow : OpenClaim := { program := "ytoegeljjfhbpeaa", sum := "74a2326afb1a076fd8d10c4a26a0fcc9d00aeb6ded81dcf235031e4b3f4e06d1", func := "foolscap/foolscaplaw31.JournalBack", spec := "journalBack", unfollowed := true, recurses := true, apart := false, narrowed := true }
def JournalBackUptoSaid : Prop := journalBackUptoRow.holds Try.pinned (OpenSpec.upto journalBackSpec)

/-- 'foolscaplaw31.JournalFound', WHERE WHAT IT READS IS OF BULK AT MOST 1048576: true; the input reads as it did. -/
def journalFoundUptoRow : OpenClaim := { program := "ytoegeljjfhbpeaa", sum := "74a2326afb1a076fd8d10c4a26a0fcc9d00aeb6ded81dcf235031e4b3f4e06d1", func := "foolscap/foolscaplaw31.JournalFound", spec := "journalFound", unfollowed := true, recurses := true, apart := false, narrowed := true }
def JournalFoundUptoSaid : Prop := journalFoundUptoRow.holds Try.pinned (OpenSpec.upto journalFoundSpec)

/-- 'foolscaplaw31.JournalSafe', WHERE WHAT IT READS IS OF BULK AT MOST 1048576: true; the input reads as it did. -/
def journalSafeUptoRow : OpenClaim := { program := "ytoegeljjfhbpeaa", sum := "74a2326afb1a076fd8d10c4a26a0fcc9d00aeb6ded81dcf235031e4b3f4e06d1", func := "foolscap/foolscaplaw31.JournalSafe", spec := "journalSafe", unfollowed := true, recurses := true, apart := false, narrowed := true }
def JournalSafeUptoSaid : Prop := journalSafeUptoRow.holds Try.pinned (OpenSpec.upto journalSafeSpec)

/-- 'foolscaplaw31.JournalTapes', WHERE WHAT IT READS IS OF BULK AT MOST 1048576: true; the input reads as it did. -/
def journalTapesUptoRow : OpenClaim := { program := "ytoegeljjfhbpeaa", sum := "74a2326afb1a076fd8d10c4a26a0fcc9d00aeb6ded81dcf235031e4b3f4e06d1", func := "foolscap/foolscaplaw31.JournalTapes", spec := "journalTapes", unfollowed := true, recurses := true, apart := false, narrowed := true }
def JournalTapesUptoSaid : Prop := journalTapesUptoRow.holds Try.pinned (OpenSpec.upto journalTapesSpec)

/-- 'foolscaplaw31.JournalNil', WHERE WHAT IT READS IS OF BULK AT MOST 1048576: true; the input reads as it did. -/
def journalNilUptoRow : OpenClaim := { program := "ytoegeljjfhbpeaa", sum := "74a2326afb1a076fd8d10c4a26a0fcc9d00aeb6ded81dcf235031e4b3f4e06d1", func := "foolscap/foolscaplaw31.JournalNil", spec := "journalNil", unfollowed := true, recurses := true, apart := false, narrowed := true }
def JournalNilUptoSaid : Prop := journalNilUptoRow.holds Try.pinned (OpenSpec.upto journalNilSpec)

end Rows
end Go.Proofs.Ytoegeljjfhbpeaa
