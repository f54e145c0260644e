/-
  No cell of these rows narrows 'for every input' (looked for: loops, veiled, ifaces, maps, wideKeys, modest, calm, conditions, laid).
  DERIVED. THE GIVEN ROWS OF THIS SEAT. 16 by the template 'for every input the law returns true; each argument reads behind the call as it read before'; 0 by the template 'total and deterministic' (their statements: YtbofflmmgokkhaaTotals.lean).
  GIVEN WITH THE SEED: the statements are not yours to turn. If you find one false, say at which input.
  Laid BY PROGRAM, IN A SANDBOX (cutbox-rows.mjs): the forced cells as the released guide's own fill.sh prints them over the translation a164eca63c34cb23… (all of the seat's roots in one cut). By AI agents, Wed Nov 11 2026. No macro, syntax, notation, axiom, sorry.
-/
import Derived.Test.YtbofflmmgokkhaaChecked
import GoSem.Claim
import GoSem.ClaimJoined
import GoSem.ClaimMapViews
import Derived.JoinedTies
import Derived.KernelRfl
namespace Go.Proofs.Ytbofflmmgokkhaa
/- THE CELL 'sum', in the pinned program and in every row, IS THE sha256 OF THE DUMP (.gsa) THAT YtbofflmmgokkhaaProg.lean LOADS. Nothing in Lean hashes anything: it is a label: what it is worth is what the hold of that sum in a sandbox is worth. -/
noncomputable def Try.pinned : Pinned := { name := "ytbofflmmgokkhaa", sum := "a164eca63c34cb23208f707ca11d1032672449bf9d6077c0ec164d150c98d25e", checked := Try.checked }
namespace Rows
def none {H : Type} : Left H := { results := [], args := [] }

/-- 'dunnagelaw02.FloorSlices': WHATEVER THE INPUT: true; the input reads as it did. -/
def floorSlicesSpec : ChangeSpec := { name := "floorSlices", fn := fun _ => fun
  | [d1, d2, d3] => { results := [.lit (.bool true)], args := [d1, d2, d3] }
  | _ => none }
def floorSlicesRow : OpenClaim := { program := "ytbofflmmgokkhaa", sum := "a164eca63c34cb23208f707ca11d1032672449bf9d6077c0ec164d150c98d25e", func := "dunnage/dunnagelaw02.FloorSlices", spec := "floorSlices", apart := false }
def FloorSlicesSaid : Prop := floorSlicesRow.holds Try.pinned (OpenSpec.ofChange floorSlicesSpec)

/-- ITS FALSE NEIGHBOUR: 'it returns false'. Refute it at one input. -/
def floorSlicesWrong : ChangeSpec := { name := "floorSlices", fn := fun _ => fun
  | [d1, d2, d3] => { results := [.lit (.bool false)], args := [d1, d2, d3] }
  | _ => none }
def FloorSlicesWrongFalsely : Prop := floorSlicesRow.holds Try.pinned (OpenSpec.ofChange floorSlicesWrong)

/-- 'dunnagelaw02.FloorGeometry': WHATEVER THE INPUT: true; the input reads as it did. -/
def floorGeometrySpec : ChangeSpec := { name := "floorGeometry", fn := fun _ => fun
  | [d1, d2, d3, d4, d5, d6, d7] => { results := [.lit (.bool true)], args := [d1, d2, d3, d4, d5, d6, d7] }
  | _ => none }
def floorGeometryRow : OpenClaim := { program := "ytbofflmmgokkhaa", sum := "a164eca63c34cb23208f707ca11d1032672449bf9d6077c0ec164d150c98d25e", func := "dunnage/dunnagelaw02.FloorGeometry", spec := "floorGeometry", apart := false }
def FloorGeometrySaid : Prop := floorGeometryRow.holds Try.pinned (OpenSpec.ofChange floorGeometrySpec)

/-- ITS FALSE NEIGHBOUR: 'it returns false'. Refute it at one input. -/
def floorGeometryWrong : ChangeSpec := { name := "floorGeometry", fn := fun _ => fun
  | [d1, d2, d3, d4, d5, d6, d7] => { results := [.lit (.bool false)], args := [d1, d2, d3, d4, d5, d6, d7] }
  | _ => none }
def FloorGeometryWrongFalsely : Prop := floorGeometryRow.holds Try.pinned (OpenSpec.ofChange floorGeometryWrong)

/-- 'dunnagelaw02.FloorCells': WHATEVER THE INPUT: true; the input reads as it did. -/
def floorCellsSpec : ChangeSpec := { name := "floorCells", fn := fun _ => fun
  | [d1, d2, d3] => { results := [.lit (.bool true)], args := [d1, d2, d3] }
  | _ => none }
def floorCellsRow : OpenClaim := { program := "ytbofflmmgokkhaa", sum := "a164eca63c34cb23208f707ca11d1032672449bf9d6077c0ec164d150c98d25e", func := "dunnage/dunnagelaw02.FloorCells", spec := "floorCells", unfollowed := true, recurses := true, apart := false }
def FloorCellsSaid : Prop := floorCellsRow.holds Try.pinned (OpenSpec.ofChange floorCellsSpec)

/-- ITS FALSE NEIGHBOUR: 'it returns false'. Refute it at one input. -/
def floorCellsWrong : ChangeSpec := { name := "floorCells", fn := fun _ => fun
  | [d1, d2, d3] => { results := [.lit (.bool false)], args := [d1, d2, d3] }
  | _ => none }
def FloorCellsWrongFalsely : Prop := floorCellsRow.holds Try.pinned (OpenSpec.ofChange floorCellsWrong)

/-- 'dunnagelaw02.FloorText': WHATEVER THE INPUT: true; the input reads as it did. -/
def floorTextSpec : ChangeSpec := { name := "floorText", fn := fun _ => fun
  | [d1, d2] => { results := [.lit (.bool true)], args := [d1, d2] }
  | _ => none }
def floorTextRow : OpenClaim := { program := "ytbofflmmgokkhaa", sum := "a164eca63c34cb23208f707ca11d1032672449bf9d6077c0ec164d150c98d25e", func := "dunnage/dunnagelaw02.FloorText", spec := "floorText", unfollowed := true, recurses := true, apart := false }
def FloorTextSaid : Prop := floorTextRow.holds Try.pinned (OpenSpec.ofChange floorTextSpec)

/-- ITS FALSE NEIGHBOUR: 'it returns false'. Refute it at one input. -/
def floorTextWrong : ChangeSpec := { name := "floorText", fn := fun _ => fun
  | [d1, d2] => { results := [.lit (.bool false)], args := [d1, d2] }
  | _ => none }
def FloorTextWrongFalsely : Prop := floorTextRow.holds Try.pinned (OpenSpec.ofChange floorTextWrong)

/-- 'dunnagelaw02.FloorCoordinates': WHATEVER THE INPUT: true; the input reads as it did. -/
def floorCoordinatesSpec : ChangeSpec := { name := "floorCoordinates", fn := fun _ => fun
  | [d1, d2, d3, d4, d5] => { results := [.lit (.bool true)], args := [d1, d2, d3, d4, d5] }
  | _ => none }
def floorCoordinatesRow : OpenClaim := { program := "ytbofflmmgokkhaa", sum := "a164eca63c34cb23208f707ca11d1032672449bf9d6077c0ec164d150c98d25e", func := "dunnage/dunnagelaw02.FloorCoordinates", spec := "floorCoordinates", unfollowed := true, recurses := true, apart := false }
def FloorCoordinatesSaid : Prop := floorCoordinatesRow.holds Try.pinned (OpenSpec.ofChange floorCoordinatesSpec)

/-- ITS FALSE NEIGHBOUR: 'it returns false'. Refute it at one input. -/
def floorCoordinatesWrong : ChangeSpec := { name := "floorCoordinates", fn := fun _ => fun
  | [d1, d2, d3, d4, d5] => { results := [.lit (.bool false)], args := [d1, d2, d3, d4, d5] }
  | _ => none }
def FloorCoordinatesWrongFalsely : Prop := floorCoordinatesRow.holds Try.pinned (OpenSpec.ofChange floorCoordinatesWrong)

/-- 'dunnagelaw02.FloorTurns': WHATEVER THE INPUT: true; the input reads as it did. -/
def floorTurnsSpec : ChangeSpec := { name := "floorTurns", fn := fun _ => fun
  | [d1, d2, d3, d4, d5] => { results := [.lit (.bool true)], args := [d1, d2, d3, d4, d5] }
  | _ => none }
def floorTurnsRow : OpenClaim := { program := "ytbofflmmgokkhaa", sum := "a164eca63c34cb23208f707ca11d1032672449bf9d6077c0ec164d150c98d25e", func := "dunnage/dunnagelaw02.FloorTurns", spec := "floorTurns", unfollowed := true, recurses := true, apart := false }
def FloorTurnsSaid : Prop := floorTurnsRow.holds Try.pinned (OpenSpec.ofChange floorTurnsSpec)

/-- ITS FALSE NEIGHBOUR: 'it returns false'. Refute it at one input. -/
def floorTurnsWrong : ChangeSpec := { name := "floorTurns", fn := fun _ => fun
  | [d1, d2, d3, d4, d5] => { results := [.lit (.bool false)], args := [d1, d2, d3, d4, d5] }
  | _ => none }
def FloorTurnsWrongFalsely : Prop := floorTurnsRow.holds Try.pinned (OpenSpec.ofChange floorTurnsWrong)

/-- 'dunnagelaw02.FloorRoundTrip': WHATEVER THE INPUT: true; the input reads as it did. -/
def floorRoundTripSpec : ChangeSpec := { name := "floorRoundTrip", fn := fun _ => fun
  | [d1, d2] => { results := [.lit (.bool true)], args := [d1, d2] }
  | _ => none }
def floorRoundTripRow : OpenClaim := { program := "ytbofflmmgokkhaa", sum := "a164eca63c34cb23208f707ca11d1032672449bf9d6077c0ec164d150c98d25e", func := "dunnage/dunnagelaw02.FloorRoundTrip", spec := "floorRoundTrip", unfollowed := true, recurses := true, apart := false }
def FloorRoundTripSaid : Prop := floorRoundTripRow.holds Try.pinned (OpenSpec.ofChange floorRoundTripSpec)

/-- ITS FALSE NEIGHBOUR: 'it returns false'. Refute it at one input. -/
def floorRoundTripWrong : ChangeSpec := { name := "floorRoundTrip", fn := fun _ => fun
  | [d1, d2] => { results := [.lit (.bool false)], args := [d1, d2] }
  | _ => none }
def FloorRoundTripWrongFalsely : Prop := floorRoundTripRow.holds Try.pinned (OpenSpec.ofChange floorRoundTripWrong)

/-- 'dunnagelaw02.FloorSlicePeriod': WHATEVER THE INPUT: true; the input reads as it did. -/
def floorSlicePeriodSpec : ChangeSpec := { name := "floorSlicePeriod", fn := fun _ => fun
  | [d1, d2, d3, d4] => { results := [.lit (.bool true)], args := [d1, d2, d3, d4] }
  | _ => none }
def floorSlicePeriodRow : OpenClaim := { program := "ytbofflmmgokkhaa", sum := "a164eca63c34cb23208f707ca11d1032672449bf9d6077c0ec164d150c98d25e", func := "dunnage/dunnagelaw02.FloorSlicePeriod", spec := "floorSlicePeriod", unfollowed := true, recurses := true, apart := false }
def FloorSlicePeriodSaid : Prop := floorSlicePeriodRow.holds Try.pinned (OpenSpec.ofChange floorSlicePeriodSpec)

/-- ITS FALSE NEIGHBOUR: 'it returns false'. Refute it at one input. -/
def floorSlicePeriodWrong : ChangeSpec := { name := "floorSlicePeriod", fn := fun _ => fun
  | [d1, d2, d3, d4] => { results := [.lit (.bool false)], args := [d1, d2, d3, d4] }
  | _ => none }
def FloorSlicePeriodWrongFalsely : Prop := floorSlicePeriodRow.holds Try.pinned (OpenSpec.ofChange floorSlicePeriodWrong)

/-- 'dunnagelaw02.FloorSliceRuns': WHATEVER THE INPUT: true; the input reads as it did. -/
def floorSliceRunsSpec : ChangeSpec := { name := "floorSliceRuns", fn := fun _ => fun
  | [d1, d2, d3] => { results := [.lit (.bool true)], args := [d1, d2, d3] }
  | _ => none }
def floorSliceRunsRow : OpenClaim := { program := "ytbofflmmgokkhaa", sum := "a164eca63c34cb23208f707ca11d1032672449bf9d6077c0ec164d150c98d25e", func := "dunnage/dunnagelaw02.FloorSliceRuns", spec := "floorSliceRuns", unfollowed := true, recurses := true, apart := false }
def FloorSliceRunsSaid : Prop := floorSliceRunsRow.holds Try.pinned (OpenSpec.ofChange floorSliceRunsSpec)

/-- ITS FALSE NEIGHBOUR: 'it returns false'. Refute it at one input. -/
def floorSliceRunsWrong : ChangeSpec := { name := "floorSliceRuns", fn := fun _ => fun
  | [d1, d2, d3] => { results := [.lit (.bool false)], args := [d1, d2, d3] }
  | _ => none }
def FloorSliceRunsWrongFalsely : Prop := floorSliceRunsRow.holds Try.pinned (OpenSpec.ofChange floorSliceRunsWrong)

/-- 'dunnagelaw02.FloorSliceShares': WHATEVER THE INPUT: true; the input reads as it did. -/
def floorSliceSharesSpec : ChangeSpec := { name := "floorSliceShares", fn := fun _ => fun
  | [d] => { results := [.lit (.bool true)], args := [d] }
  | _ => none }
def floorSliceSharesRow : OpenClaim := { program := "ytbofflmmgokkhaa", sum := "a164eca63c34cb23208f707ca11d1032672449bf9d6077c0ec164d150c98d25e", func := "dunnage/dunnagelaw02.FloorSliceShares", spec := "floorSliceShares", unfollowed := true, recurses := true, apart := false }
def FloorSliceSharesSaid : Prop := floorSliceSharesRow.holds Try.pinned (OpenSpec.ofChange floorSliceSharesSpec)

/-- ITS FALSE NEIGHBOUR: 'it returns false'. Refute it at one input. -/
def floorSliceSharesWrong : ChangeSpec := { name := "floorSliceShares", fn := fun _ => fun
  | [d] => { results := [.lit (.bool false)], args := [d] }
  | _ => none }
def FloorSliceSharesWrongFalsely : Prop := floorSliceSharesRow.holds Try.pinned (OpenSpec.ofChange floorSliceSharesWrong)

/-- 'dunnagelaw02.FloorPartition': WHATEVER THE INPUT: true; the input reads as it did. -/
def floorPartitionSpec : ChangeSpec := { name := "floorPartition", fn := fun _ => fun
  | [d] => { results := [.lit (.bool true)], args := [d] }
  | _ => none }
def floorPartitionRow : OpenClaim := { program := "ytbofflmmgokkhaa", sum := "a164eca63c34cb23208f707ca11d1032672449bf9d6077c0ec164d150c98d25e", func := "dunnage/dunnagelaw02.FloorPartition", spec := "floorPartition", unfollowed := true, recurses := true, apart := false }
def FloorPartitionSaid : Prop := floorPartitionRow.holds Try.pinned (OpenSpec.ofChange floorPartitionSpec)

/-- ITS FALSE NEIGHBOUR: 'it returns false'. Refute it at one input. -/
def floorPartitionWrong : ChangeSpec := { name := "floorPartition", fn := fun _ => fun
  | [d] => { results := [.lit (.bool false)], args := [d] }
  | _ => none }
def FloorPartitionWrongFalsely : Prop := floorPartitionRow.holds Try.pinned (OpenSpec.ofChange floorPartitionWrong)

/-- 'dunnagelaw02.FloorChange': WHATEVER THE INPUT: true; the input reads as it did. -/
def floorChangeSpec : ChangeSpec := { name := "floorChange", fn := fun _ => fun
  | [d1, d2, d3, d4] => { results := [.lit (.bool true)], args := [d1, d2, d3, d4] }
  | _ => none }
def floorChangeRow : OpenClaim := { program := "ytbofflmmgokkhaa", sum := "a164eca63c34cb23208f707ca11d1032672449bf9d6077c0ec164d150c98d25e", func := "dunnage/dunnagelaw02.FloorChange", spec := "floorChange", unfollowed := true, recurses := true, apart := false }
def FloorChangeSaid : Prop := floorChangeRow.holds Try.pinned (OpenSpec.ofChange floorChangeSpec)

/-- ITS FALSE NEIGHBOUR: 'it returns false'. Refute it at one input. -/
def floorChangeWrong : ChangeSpec := { name := "floorChange", fn := fun _ => fun
  | [d1, d2, d3, d4] => { results := [.lit (.bool false)], args := [d1, d2, d3, d4] }
  | _ => none }
def FloorChangeWrongFalsely : Prop := floorChangeRow.holds Try.pinned (OpenSpec.ofChange floorChangeWrong)

/-- 'dunnagelaw02.FloorWalk': WHATEVER THE INPUT: true; the input reads as it did. -/
def floorWalkSpec : ChangeSpec := { name := "floorWalk", fn := fun _ => fun
  | [d1, d2, d3, d4] => { results := [.lit (.bool true)], args := [d1, d2, d3, d4] }
  | _ => none }
def floorWalkRow : OpenClaim := { program := "ytbofflmmgokkhaa", sum := "a164eca63c34cb23208f707ca11d1032672449bf9d6077c0ec164d150c98d25e", func := "dunnage/dunnagelaw02.FloorWalk", spec := "floorWalk", unfollowed := true, recurses := true, apart := false }
def FloorWalkSaid : Prop := floorWalkRow.holds Try.pinned (OpenSpec.ofChange floorWalkSpec)

/-- ITS FALSE NEIGHBOUR: 'it returns false'. Refute it at one input. -/
def floorWalkWrong : ChangeSpec := { name := "floorWalk", fn := fun _ => fun
  | [d1, d2, d3, d4] => { results := [.lit (.bool false)], args := [d1, d2, d3, d4] }
  | _ => none }
def FloorWalkWrongFalsely : Prop := floorWalkRow.holds Try.pinned (OpenSpec.ofChange floorWalkWrong)

/-- 'dunnagelaw02.FloorDistance': WHATEVER THE INPUT: true; the input reads as it did. -/
def floorDistanceSpec : ChangeSpec := { name := "floorDistance", fn := fun _ => fun
  | [d1, d2, d3, d4, d5] => { results := [.lit (.bool true)], args := [d1, d2, d3, d4, d5] }
  | _ => none }
def floorDistanceRow : OpenClaim := { program := "ytbofflmmgokkhaa", sum := "a164eca63c34cb23208f707ca11d1032672449bf9d6077c0ec164d150c98d25e", func := "dunnage/dunnagelaw02.FloorDistance", spec := "floorDistance", unfollowed := true, recurses := true, apart := false }
def FloorDistanceSaid : Prop := floorDistanceRow.holds Try.pinned (OpenSpec.ofChange floorDistanceSpec)

/-- ITS FALSE NEIGHBOUR: 'it returns false'. Refute it at one input. -/
def floorDistanceWrong : ChangeSpec := { name := "floorDistance", fn := fun _ => fun
  | [d1, d2, d3, d4, d5] => { results := [.lit (.bool false)], args := [d1, d2, d3, d4, d5] }
  | _ => none }
def FloorDistanceWrongFalsely : Prop := floorDistanceRow.holds Try.pinned (OpenSpec.ofChange floorDistanceWrong)

/-- 'dunnagelaw02.FloorTransposed': WHATEVER THE INPUT: true; the input reads as it did. -/
def floorTransposedSpec : ChangeSpec := { name := "floorTransposed", fn := fun _ => fun
  | [d1, d2, d3] => { results := [.lit (.bool true)], args := [d1, d2, d3] }
  | _ => none }
def floorTransposedRow : OpenClaim := { program := "ytbofflmmgokkhaa", sum := "a164eca63c34cb23208f707ca11d1032672449bf9d6077c0ec164d150c98d25e", func := "dunnage/dunnagelaw02.FloorTransposed", spec := "floorTransposed", unfollowed := true, recurses := true, apart := false }
def FloorTransposedSaid : Prop := floorTransposedRow.holds Try.pinned (OpenSpec.ofChange floorTransposedSpec)

/-- ITS FALSE NEIGHBOUR: 'it returns false'. Refute it at one input. -/
def floorTransposedWrong : ChangeSpec := { name := "floorTransposed", fn := fun _ => fun
  | [d1, d2, d3] => { results := [.lit (.bool false)], args := [d1, d2, d3] }
  | _ => none }
def FloorTransposedWrongFalsely : Prop := floorTransposedRow.holds Try.pinned (OpenSpec.ofChange floorTransposedWrong)

/-- 'dunnagelaw02.FloorExamples': WHATEVER THE INPUT: true; the input reads as it did. -/
def floorExamplesSpec : ChangeSpec := { name := "floorExamples", fn := fun _ => fun
  | [] => { results := [.lit (.bool true)], args := [] }
  | _ => none }
def floorExamplesRow : OpenClaim := { program := "ytbofflmmgokkhaa", sum := "a164eca63c34cb23208f707ca11d1032672449bf9d6077c0ec164d150c98d25e", func := "dunnage/dunnagelaw02.FloorExamples", spec := "floorExamples", unfollowed := true, recurses := true, apart := false }
def FloorExamplesSaid : Prop := floorExamplesRow.holds Try.pinned (OpenSpec.ofChange floorExamplesSpec)

/-- ITS FALSE NEIGHBOUR: 'it returns false'. Refute it at one input. -/
def floorExamplesWrong : ChangeSpec := { name := "floorExamples", fn := fun _ => fun
  | [] => { results := [.lit (.bool false)], args := [] }
  | _ => none }
def FloorExamplesWrongFalsely : Prop := floorExamplesRow.holds Try.pinned (OpenSpec.ofChange floorExamplesWrong)

/- THE SECOND FORM. 'bulk': how many values and letters a reading holds, each counted each time it is reached (what is shared counts as often as it is met; a slice's spare places count too). A statement '..UptoSaid' is the law's where the arguments, and the package variables that the reading takes, are together of bulk at most 1048576: NARROWER than '..Said'. Prove '..Said' where nothing that the law and all that it calls make is longer than what came in: it says more and counts as full. Else prove '..UptoSaid'. A law counts once. -/
mutual
def uptoBulk {H : Type} : DataW H → Nat
  | .lit (.string bytes) => bytes.length + 1
  | .lit _ => 1
  | .nil => 1
  | .ptr d => uptoBulk d + 1
  | .slice elems spare => uptoBulkAll elems + uptoBulkAll spare + 1
  | .agg parts => uptoBulkAll parts + 1
  | .iface _ d => uptoBulk d + 1
  | .map entries => uptoBulkEntries entries + 1
  | .held _ => 1
def uptoBulkAll {H : Type} : List (DataW H) → Nat
  | [] => 0
  | d :: r => uptoBulk d + uptoBulkAll r
def uptoBulkEntries {H : Type} : List (Lit × DataW H) → Nat
  | [] => 0
  | x :: r => uptoBulkEntry x + uptoBulkEntries r
def uptoBulkEntry {H : Type} : Lit × DataW H → Nat
  | (.string bytes, d) => bytes.length + uptoBulk d + 1
  | (_, d) => uptoBulk d + 1
 end
def uptoSmall : (H : Type) → List (DataW H) → Bool := fun _ ds => decide (uptoBulkAll ds ≤ 1048576)
def OpenSpec.upto (s : _root_.Go.ChangeSpec) : _root_.Go.OpenSpec := { _root_.Go.OpenSpec.ofChange s with cond := some uptoSmall }

/-- 'dunnagelaw02.FloorSlices', WHERE WHAT IT READS IS OF BULK AT MOST 1048576: true; the input reads as it did. -/
def floorSlicesUptoRow : OpenClaim := { program := "ytbofflmmgokkhaa", sum := "a164eca63c34cb23208f707ca11d1032672449bf9d6077c0ec164d150c98d25e", func := "dunnage/dunnagelaw02.FloorSlices", spec := "floorSlices", apart := false, narrowed := true }
def FloorSlicesUptoSaid : Prop := floorSlicesUptoRow.holds Try.pinned (OpenSpec.upto floorSlicesSpec)

/-- 'dunnagelaw02.FloorGeometry', WHERE WHAT IT READS IS OF BULK AT MOST 1048576: true; the input reads as it did. -/
def floorGeometryUptoRow : OpenClaim := { program := "ytbofflmmgokkhaa", sum := "a164eca63c34cb23208f707ca11d1032672449bf9d6077c0ec164d150c98d25e", func := "dunnage/dunnagelaw02.FloorGeometry", spec := "floorGeometry", apart := false, narrowed := true }
def FloorGeometryUptoSaid : Prop := floorGeometryUptoRow.holds Try.pinned (OpenSpec.upto floorGeometrySpec)

/-- 'dunnagelaw02.FloorCells', WHERE WHAT IT READS IS OF BULK AT MOST 1048576: true; the input reads as it did. -/
def floorCellsUptoRow : OpenClaim := { program := "ytbofflmmgokkhaa", sum := "a164eca63c34cb23208f707ca11d1032672449bf9d6077c0ec164d150c98d25e", func := "dunnage/dunnagelaw02.FloorCells", spec := "floorCells", unfollowed := true, recurses := true, apart := false, narrowed := true }
def FloorCellsUptoSaid : Prop := floorCellsUptoRow.holds Try.pinned (OpenSpec.upto floorCellsSpec)

/-- 'dunnagelaw02.FloorText', WHERE WHAT IT READS IS OF BULK AT MOST 1048576: true; the input reads as it did. -/
def floorTextUptoRow : OpenClaim := { program := "ytbofflmmgokkhaa", sum := "a164eca63c34cb23208f707ca11d1032672449bf9d6077c0ec164d150c98d25e", func := "dunnage/dunnagelaw02.FloorText", spec := "floorText", unfollowed := true, recurses := true, apart := false, narrowed := true }
def FloorTextUptoSaid : Prop := floorTextUptoRow.holds Try.pinned (OpenSpec.upto floorTextSpec)

/-- 'dunnagelaw02.FloorCoordinates', WHERE WHAT IT READS IS OF BULK AT MOST 1048576: true; the input reads as it did. -/
def floorCoordinatesUptoRow : OpenClaim := { program := "ytbofflmmgokkhaa", sum := "a164eca63c34cb23208f707ca11d1032672449bf9d6077c0ec164d150c98d25e", func := "dunnage/dunnagelaw02.FloorCoordinates", spec := "floorCoordinates", unfollowed := true, recurses := true, apart := false, narrowed := true }
def FloorCoordinatesUptoSaid : Prop := floorCoordinatesUptoRow.holds Try.pinned (OpenSpec.upto floorCoordinatesSpec)

/-- 'dunnagelaw02.FloorTurns', WHERE WHAT IT READS IS OF BULK AT MOST 1048576: true; the input reads as it did. -/
def floorTurnsUptoRow : OpenClaim := { program := "ytbofflmmgokkhaa", sum := "a164eca63c34cb23208f707ca11d1032672449bf9d6077c0ec164d150c98d25e", func := "dunnage/dunnagelaw02.FloorTurns", spec := "floorTurns", unfollowed := true, recurses := true, apart := false, narrowed := true }
def FloorTurnsUptoSaid : Prop := floorTurnsUptoRow.holds Try.pinned (OpenSpec.upto floorTurnsSpec)

/-- 'dunnagelaw02.FloorRoundTrip', WHERE WHAT IT READS IS OF BULK AT MOST 1048576: true; the input reads as it did. -/
def floorRoundTripUptoRow : OpenClaim := { program := "ytbofflmmgokkhaa", sum := "a164eca63c34cb23208f707ca11d1032672449bf9d6077c0ec164d150c98d25e", func := "dunnage/dunnagelaw02.FloorRoundTrip", spec := "floorRoundTrip", unfollowed := true, recurses := true, apart := false, narrowed := true }
def FloorRoundTripUptoSaid : Prop := floorRoundTripUptoRow.holds Try.pinned (OpenSpec.upto floorRoundTripSpec)

/-- 'dunnagelaw02.FloorSlicePeriod', WHERE WHAT IT READS IS OF BULK AT MOST 1048576: true; the input reads as it did. -/
def floorSlicePeriodUptoRow : OpenClaim := { program := "ytbofflmmgokkhaa", sum := "a164eca63c34cb23208f707ca11d1032672449bf9d6077c0ec164d150c98d25e", func := "dunnage/dunnagelaw02.FloorSlicePeriod", spec := "floorSlicePeriod", unfollowed := true, recurses := true, apart := false, narrowed := true }
def FloorSlicePeriodUptoSaid : Prop := floorSlicePeriodUptoRow.holds Try.pinned (OpenSpec.upto floorSlicePeriodSpec)

/-- 'dunnagelaw02.FloorSliceRuns', WHERE WHAT IT READS IS OF BULK AT MOST 1048576: true; the input reads as it did. -/
def floorSliceRunsUptoRow : OpenClaim := { program := "ytbofflmmgokkhaa", sum := "a164eca63c34cb23208f707ca11d1032672449bf9d6077c0ec164d150c98d25e", func := "dunnage/dunnagelaw02.FloorSliceRuns", spec := "floorSliceRuns", unfollowed := true, recurses := true, apart := false, narrowed := true }
def FloorSliceRunsUptoSaid : Prop := floorSliceRunsUptoRow.holds Try.pinned (OpenSpec.upto floorSliceRunsSpec)

/-- 'dunnagelaw02.FloorSliceShares', WHERE WHAT IT READS IS OF BULK AT MOST 1048576: true; the input reads as it did. -/
def floorSliceSharesUptoRow : OpenClaim := { program := "ytbofflmmgokkhaa", sum := "a164eca63c34cb23208f707ca11d1032672449bf9d6077c0ec164d150c98d25e", func := "dunnage/dunnagelaw02.FloorSliceShares", spec := "floorSliceShares", unfollowed := true, recurses := true, apart := false, narrowed := true }
def FloorSliceSharesUptoSaid : Prop := floorSliceSharesUptoRow.holds Try.pinned (OpenSpec.upto floorSliceSharesSpec)

/-- 'dunnagelaw02.FloorPartition', WHERE WHAT IT READS IS OF BULK AT MOST 1048576: true; the input reads as it did. -/
def floorPartitionUptoRow : OpenClaim := { program := "ytbofflmmgokkhaa", sum := "a164eca63c34cb23208f707ca11d1032672449bf9d6077c0ec164d150c98d25e", func := "dunnage/dunnagelaw02.FloorPartition", spec := "floorPartition", unfollowed := true, recurses := true, apart := false, narrowed := true }
def FloorPartitionUptoSaid : Prop := floorPartitionUptoRow.holds Try.pinned (OpenSpec.upto floorPartitionSpec)

/-- 'dunnagelaw02.FloorChange', WHERE WHAT IT READS IS OF BULK AT MOST 1048576: true; the input reads as it did. -/
def floorChangeUptoRow : OpenClaim := { program := "ytbofflmmgokkhaa", sum := "a164eca63c34cb23208f707ca11d1032672449bf9d6077c0ec164d150c98d25e", func := "dunnage/dunnagelaw02.FloorChange", spec := "floorChange", unfollowed := true, recurses := true, apart := false, narrowed := true }
def FloorChangeUptoSaid : Prop := floorChangeUptoRow.holds Try.pinned (OpenSpec.upto floorChangeSpec)

/-- 'dunnagelaw02.FloorWalk', WHERE WHAT IT READS IS OF BULK AT MOST 1048576: true; the input reads as it did. -/
def floorWalkUptoRow : OpenClaim := { program := "ytbofflmmgokkhaa", sum := "a164eca63c34cb23208f707ca11d1032672449bf9d6077c0ec164d150c98d25e", func := "dunnage/dunnagelaw02.FloorWalk", spec := "floorWalk", unfollowed := true, recurses := true, apart := false, narrowed := true }
def FloorWalkUptoSaid : Prop := floorWalkUptoRow.holds Try.pinned (OpenSpec.upto floorWalkSpec)

/-- 'dunnagelaw02.FloorDistance', WHERE WHAT IT READS IS OF BULK AT MOST 1048576: true; the input reads as it did. -/
def floorDistanceUptoRow : OpenClaim := { program := "ytbofflmmgokkhaa", sum := "a164eca63c34cb23208f707ca11d1032672449bf9d6077c0ec164d150c98d25e", func := "dunnage/dunnagelaw02.FloorDistance", spec := "floorDistance", unfollowed := true, recurses := true, apart := false, narrowed := true }
def FloorDistanceUptoSaid : Prop := floorDistanceUptoRow.holds Try.pinned (OpenSpec.upto floorDistanceSpec)

/-- 'dunnagelaw02.FloorTransposed', WHERE WHAT IT READS IS OF BULK AT MOST 1048576: true; the input reads as it did. -/
def floorTransposedUptoRow : OpenClaim := { program := "ytbofflmmgokkhaa", sum := "a164eca63c34cb23208f707ca11d1032672449bf9d6077c0ec164d150c98d25e", func := "dunnage/dunnagelaw02.FloorTransposed", spec := "floorTransposed", unfollowed := true, recurses := true, apart := false, narrowed := true }
def FloorTransposedUptoSaid : Prop := floorTransposedUptoRow.holds Try.pinned (OpenSpec.upto floorTransposedSpec)

/-- 'dunnagelaw02.FloorExamples', WHERE WHAT IT READS IS OF BULK AT MOST 1048576: true; the input reads as it did. -/
def floorExamplesUptoRow : OpenClaim := { program := "ytbofflmmgokkhaa", sum := "a164eca63c34cb23208f707ca11d1032672449bf9d6077c0ec164d150c98d25e", func := "dunnage/dunnagelaw02.FloorExamples", spec := "floorExamples", unfollowed := true, recurses := true, apart := false, narrowed := true }
def FloorExamplesUptoSaid : Prop := floorExamplesUptoRow.holds Try.pinned (OpenSpec.upto floorExamplesSpec)

end Rows
end Go.Proofs.Ytbofflmmgokkhaa
