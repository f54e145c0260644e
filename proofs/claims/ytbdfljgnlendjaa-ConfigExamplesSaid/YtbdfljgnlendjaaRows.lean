/-
  No cell of these rows narrows 'for every input' (looked for: loops, veiled, ifaces, maps, wideKeys, modest, calm, conditions, laid).
  DERIVED. THE GIVEN ROWS OF THIS SEAT. 16 by the template 'for every input the law returns true; each argument reads behind the call as it read before'; 0 by the template 'total and deterministic' (their statements: YtbdfljgnlendjaaTotals.lean).
  GIVEN WITH THE SEED: the statements are not yours to turn. If you find one false, say at which input.
  Laid BY PROGRAM, IN A SANDBOX (cutbox-rows.mjs): the forced cells as the released guide's own fill.sh prints them over the translation 5e6503fc18551ff1… (all of the seat's roots in one cut). By AI agents, Wed Nov 11 2026. No macro, syntax, notation, axiom, sorry.
-/
import Derived.Test.YtbdfljgnlendjaaChecked
import GoSem.Claim
import GoSem.ClaimJoined
import GoSem.ClaimMapViews
import Derived.JoinedTies
import Derived.KernelRfl
namespace Go.Proofs.Ytbdfljgnlendjaa
/- THE CELL 'sum', in the pinned program and in every row, IS THE sha256 OF THE DUMP (.gsa) THAT YtbdfljgnlendjaaProg.lean LOADS. Nothing in Lean hashes anything: it is a label: what it is worth is what the hold of that sum in a sandbox is worth. -/
noncomputable def Try.pinned : Pinned := { name := "ytbdfljgnlendjaa", sum := "5e6503fc18551ff1fe27c3380e0cad57fdf8a463e7b4a129bbe5236feb0fca2d", checked := Try.checked }
namespace Rows
def none {H : Type} : Left H := { results := [], args := [] }

/-- 'dunnagelaw03.ConfigCompares': WHATEVER THE INPUT: true; the input reads as it did. -/
def configComparesSpec : ChangeSpec := { name := "configCompares", fn := fun _ => fun
  | [d1, d2] => { results := [.lit (.bool true)], args := [d1, d2] }
  | _ => none }
def configComparesRow : OpenClaim := { program := "ytbdfljgnlendjaa", sum := "5e6503fc18551ff1fe27c3380e0cad57fdf8a463e7b4a129bbe5236feb0fca2d", func := "dunnage/dunnagelaw03.ConfigCompares", spec := "configCompares", unfollowed := true, recurses := true, apart := false }
def ConfigComparesSaid : Prop := configComparesRow.holds Try.pinned (OpenSpec.ofChange configComparesSpec)

/-- ITS FALSE NEIGHBOUR: 'it returns false'. Refute it at one input. -/
def configComparesWrong : ChangeSpec := { name := "configCompares", fn := fun _ => fun
  | [d1, d2] => { results := [.lit (.bool false)], args := [d1, d2] }
  | _ => none }
def ConfigComparesWrongFalsely : Prop := configComparesRow.holds Try.pinned (OpenSpec.ofChange configComparesWrong)

/-- 'dunnagelaw03.ConfigTeams': WHATEVER THE INPUT: true; the input reads as it did. -/
def configTeamsSpec : ChangeSpec := { name := "configTeams", fn := fun _ => fun
  | [d1, d2, d3] => { results := [.lit (.bool true)], args := [d1, d2, d3] }
  | _ => none }
def configTeamsRow : OpenClaim := { program := "ytbdfljgnlendjaa", sum := "5e6503fc18551ff1fe27c3380e0cad57fdf8a463e7b4a129bbe5236feb0fca2d", func := "dunnage/dunnagelaw03.ConfigTeams", spec := "configTeams", unfollowed := true, recurses := true, apart := false }
def ConfigTeamsSaid : Prop := configTeamsRow.holds Try.pinned (OpenSpec.ofChange configTeamsSpec)

/-- ITS FALSE NEIGHBOUR: 'it returns false'. Refute it at one input. -/
def configTeamsWrong : ChangeSpec := { name := "configTeams", fn := fun _ => fun
  | [d1, d2, d3] => { results := [.lit (.bool false)], args := [d1, d2, d3] }
  | _ => none }
def ConfigTeamsWrongFalsely : Prop := configTeamsRow.holds Try.pinned (OpenSpec.ofChange configTeamsWrong)

/-- 'dunnagelaw03.ConfigChecks': WHATEVER THE INPUT: true; the input reads as it did. -/
def configChecksSpec : ChangeSpec := { name := "configChecks", fn := fun _ => fun
  | [d1, d2] => { results := [.lit (.bool true)], args := [d1, d2] }
  | _ => none }
def configChecksRow : OpenClaim := { program := "ytbdfljgnlendjaa", sum := "5e6503fc18551ff1fe27c3380e0cad57fdf8a463e7b4a129bbe5236feb0fca2d", func := "dunnage/dunnagelaw03.ConfigChecks", spec := "configChecks", unfollowed := true, recurses := true, apart := false }
def ConfigChecksSaid : Prop := configChecksRow.holds Try.pinned (OpenSpec.ofChange configChecksSpec)

/-- ITS FALSE NEIGHBOUR: 'it returns false'. Refute it at one input. -/
def configChecksWrong : ChangeSpec := { name := "configChecks", fn := fun _ => fun
  | [d1, d2] => { results := [.lit (.bool false)], args := [d1, d2] }
  | _ => none }
def ConfigChecksWrongFalsely : Prop := configChecksRow.holds Try.pinned (OpenSpec.ofChange configChecksWrong)

/-- 'dunnagelaw03.ConfigProjects': WHATEVER THE INPUT: true; the input reads as it did. -/
def configProjectsSpec : ChangeSpec := { name := "configProjects", fn := fun _ => fun
  | [d1, d2] => { results := [.lit (.bool true)], args := [d1, d2] }
  | _ => none }
def configProjectsRow : OpenClaim := { program := "ytbdfljgnlendjaa", sum := "5e6503fc18551ff1fe27c3380e0cad57fdf8a463e7b4a129bbe5236feb0fca2d", func := "dunnage/dunnagelaw03.ConfigProjects", spec := "configProjects", unfollowed := true, recurses := true, apart := false }
def ConfigProjectsSaid : Prop := configProjectsRow.holds Try.pinned (OpenSpec.ofChange configProjectsSpec)

/-- ITS FALSE NEIGHBOUR: 'it returns false'. Refute it at one input. -/
def configProjectsWrong : ChangeSpec := { name := "configProjects", fn := fun _ => fun
  | [d1, d2] => { results := [.lit (.bool false)], args := [d1, d2] }
  | _ => none }
def ConfigProjectsWrongFalsely : Prop := configProjectsRow.holds Try.pinned (OpenSpec.ofChange configProjectsWrong)

/-- 'dunnagelaw03.ConfigEncodes': WHATEVER THE INPUT: true; the input reads as it did. -/
def configEncodesSpec : ChangeSpec := { name := "configEncodes", fn := fun _ => fun
  | [d] => { results := [.lit (.bool true)], args := [d] }
  | _ => none }
def configEncodesRow : OpenClaim := { program := "ytbdfljgnlendjaa", sum := "5e6503fc18551ff1fe27c3380e0cad57fdf8a463e7b4a129bbe5236feb0fca2d", func := "dunnage/dunnagelaw03.ConfigEncodes", spec := "configEncodes", unfollowed := true, recurses := true, apart := false }
def ConfigEncodesSaid : Prop := configEncodesRow.holds Try.pinned (OpenSpec.ofChange configEncodesSpec)

/-- ITS FALSE NEIGHBOUR: 'it returns false'. Refute it at one input. -/
def configEncodesWrong : ChangeSpec := { name := "configEncodes", fn := fun _ => fun
  | [d] => { results := [.lit (.bool false)], args := [d] }
  | _ => none }
def ConfigEncodesWrongFalsely : Prop := configEncodesRow.holds Try.pinned (OpenSpec.ofChange configEncodesWrong)

/-- 'dunnagelaw03.ConfigDecodes': WHATEVER THE INPUT: true; the input reads as it did. -/
def configDecodesSpec : ChangeSpec := { name := "configDecodes", fn := fun _ => fun
  | [d] => { results := [.lit (.bool true)], args := [d] }
  | _ => none }
def configDecodesRow : OpenClaim := { program := "ytbdfljgnlendjaa", sum := "5e6503fc18551ff1fe27c3380e0cad57fdf8a463e7b4a129bbe5236feb0fca2d", func := "dunnage/dunnagelaw03.ConfigDecodes", spec := "configDecodes", unfollowed := true, recurses := true, apart := false }
def ConfigDecodesSaid : Prop := configDecodesRow.holds Try.pinned (OpenSpec.ofChange configDecodesSpec)

/-- ITS FALSE NEIGHBOUR: 'it returns false'. Refute it at one input. -/
def configDecodesWrong : ChangeSpec := { name := "configDecodes", fn := fun _ => fun
  | [d] => { results := [.lit (.bool false)], args := [d] }
  | _ => none }
def ConfigDecodesWrongFalsely : Prop := configDecodesRow.holds Try.pinned (OpenSpec.ofChange configDecodesWrong)

/-- 'dunnagelaw03.ConfigExamples': WHATEVER THE INPUT: true; the input reads as it did. -/
def configExamplesSpec : ChangeSpec := { name := "configExamples", fn := fun _ => fun
  | [] => { results := [.lit (.bool true)], args := [] }
  | _ => none }
def configExamplesRow : OpenClaim := { program := "ytbdfljgnlendjaa", sum := "5e6503fc18551ff1fe27c3380e0cad57fdf8a463e7b4a129bbe5236feb0fca2d", func := "dunnage/dunnagelaw03.ConfigExamples", spec := "configExamples", unfollowed := true, recurses := true, apart := false }
def ConfigExamplesSaid : Prop := configExamplesRow.holds Try.pinned (OpenSpec.ofChange configExamplesSpec)

/-- ITS FALSE NEIGHBOUR: 'it returns false'. Refute it at one input. -/
def configExamplesWrong : ChangeSpec := { name := "configExamples", fn := fun _ => fun
  | [] => { results := [.lit (.bool false)], args := [] }
  | _ => none }
def ConfigExamplesWrongFalsely : Prop := configExamplesRow.holds Try.pinned (OpenSpec.ofChange configExamplesWrong)

/-- 'dunnagelaw03.ConfigOrder': WHATEVER THE INPUT: true; the input reads as it did. -/
def configOrderSpec : ChangeSpec := { name := "configOrder", fn := fun _ => fun
  | [d1, d2, d3, d4, d5] => { results := [.lit (.bool true)], args := [d1, d2, d3, d4, d5] }
  | _ => none }
def configOrderRow : OpenClaim := { program := "ytbdfljgnlendjaa", sum := "5e6503fc18551ff1fe27c3380e0cad57fdf8a463e7b4a129bbe5236feb0fca2d", func := "dunnage/dunnagelaw03.ConfigOrder", spec := "configOrder", unfollowed := true, recurses := true, apart := false }
def ConfigOrderSaid : Prop := configOrderRow.holds Try.pinned (OpenSpec.ofChange configOrderSpec)

/-- ITS FALSE NEIGHBOUR: 'it returns false'. Refute it at one input. -/
def configOrderWrong : ChangeSpec := { name := "configOrder", fn := fun _ => fun
  | [d1, d2, d3, d4, d5] => { results := [.lit (.bool false)], args := [d1, d2, d3, d4, d5] }
  | _ => none }
def ConfigOrderWrongFalsely : Prop := configOrderRow.holds Try.pinned (OpenSpec.ofChange configOrderWrong)

/-- 'dunnagelaw03.ConfigCell': WHATEVER THE INPUT: true; the input reads as it did. -/
def configCellSpec : ChangeSpec := { name := "configCell", fn := fun _ => fun
  | [d1, d2, d3] => { results := [.lit (.bool true)], args := [d1, d2, d3] }
  | _ => none }
def configCellRow : OpenClaim := { program := "ytbdfljgnlendjaa", sum := "5e6503fc18551ff1fe27c3380e0cad57fdf8a463e7b4a129bbe5236feb0fca2d", func := "dunnage/dunnagelaw03.ConfigCell", spec := "configCell", unfollowed := true, recurses := true, apart := false }
def ConfigCellSaid : Prop := configCellRow.holds Try.pinned (OpenSpec.ofChange configCellSpec)

/-- ITS FALSE NEIGHBOUR: 'it returns false'. Refute it at one input. -/
def configCellWrong : ChangeSpec := { name := "configCell", fn := fun _ => fun
  | [d1, d2, d3] => { results := [.lit (.bool false)], args := [d1, d2, d3] }
  | _ => none }
def ConfigCellWrongFalsely : Prop := configCellRow.holds Try.pinned (OpenSpec.ofChange configCellWrong)

/-- 'dunnagelaw03.ConfigSlice': WHATEVER THE INPUT: true; the input reads as it did. -/
def configSliceSpec : ChangeSpec := { name := "configSlice", fn := fun _ => fun
  | [d1, d2, d3] => { results := [.lit (.bool true)], args := [d1, d2, d3] }
  | _ => none }
def configSliceRow : OpenClaim := { program := "ytbdfljgnlendjaa", sum := "5e6503fc18551ff1fe27c3380e0cad57fdf8a463e7b4a129bbe5236feb0fca2d", func := "dunnage/dunnagelaw03.ConfigSlice", spec := "configSlice", unfollowed := true, recurses := true, apart := false }
def ConfigSliceSaid : Prop := configSliceRow.holds Try.pinned (OpenSpec.ofChange configSliceSpec)

/-- ITS FALSE NEIGHBOUR: 'it returns false'. Refute it at one input. -/
def configSliceWrong : ChangeSpec := { name := "configSlice", fn := fun _ => fun
  | [d1, d2, d3] => { results := [.lit (.bool false)], args := [d1, d2, d3] }
  | _ => none }
def ConfigSliceWrongFalsely : Prop := configSliceRow.holds Try.pinned (OpenSpec.ofChange configSliceWrong)

/-- 'dunnagelaw03.ConfigApart': WHATEVER THE INPUT: true; the input reads as it did. -/
def configApartSpec : ChangeSpec := { name := "configApart", fn := fun _ => fun
  | [d1, d2, d3] => { results := [.lit (.bool true)], args := [d1, d2, d3] }
  | _ => none }
def configApartRow : OpenClaim := { program := "ytbdfljgnlendjaa", sum := "5e6503fc18551ff1fe27c3380e0cad57fdf8a463e7b4a129bbe5236feb0fca2d", func := "dunnage/dunnagelaw03.ConfigApart", spec := "configApart", unfollowed := true, recurses := true, apart := false }
def ConfigApartSaid : Prop := configApartRow.holds Try.pinned (OpenSpec.ofChange configApartSpec)

/-- ITS FALSE NEIGHBOUR: 'it returns false'. Refute it at one input. -/
def configApartWrong : ChangeSpec := { name := "configApart", fn := fun _ => fun
  | [d1, d2, d3] => { results := [.lit (.bool false)], args := [d1, d2, d3] }
  | _ => none }
def ConfigApartWrongFalsely : Prop := configApartRow.holds Try.pinned (OpenSpec.ofChange configApartWrong)

/-- 'dunnagelaw03.ConfigRoundTrip': WHATEVER THE INPUT: true; the input reads as it did. -/
def configRoundTripSpec : ChangeSpec := { name := "configRoundTrip", fn := fun _ => fun
  | [d1, d2, d3] => { results := [.lit (.bool true)], args := [d1, d2, d3] }
  | _ => none }
def configRoundTripRow : OpenClaim := { program := "ytbdfljgnlendjaa", sum := "5e6503fc18551ff1fe27c3380e0cad57fdf8a463e7b4a129bbe5236feb0fca2d", func := "dunnage/dunnagelaw03.ConfigRoundTrip", spec := "configRoundTrip", unfollowed := true, recurses := true, apart := false }
def ConfigRoundTripSaid : Prop := configRoundTripRow.holds Try.pinned (OpenSpec.ofChange configRoundTripSpec)

/-- ITS FALSE NEIGHBOUR: 'it returns false'. Refute it at one input. -/
def configRoundTripWrong : ChangeSpec := { name := "configRoundTrip", fn := fun _ => fun
  | [d1, d2, d3] => { results := [.lit (.bool false)], args := [d1, d2, d3] }
  | _ => none }
def ConfigRoundTripWrongFalsely : Prop := configRoundTripRow.holds Try.pinned (OpenSpec.ofChange configRoundTripWrong)

/-- 'dunnagelaw03.ConfigTenants': WHATEVER THE INPUT: true; the input reads as it did. -/
def configTenantsSpec : ChangeSpec := { name := "configTenants", fn := fun _ => fun
  | [d] => { results := [.lit (.bool true)], args := [d] }
  | _ => none }
def configTenantsRow : OpenClaim := { program := "ytbdfljgnlendjaa", sum := "5e6503fc18551ff1fe27c3380e0cad57fdf8a463e7b4a129bbe5236feb0fca2d", func := "dunnage/dunnagelaw03.ConfigTenants", spec := "configTenants", unfollowed := true, recurses := true, apart := false }
def ConfigTenantsSaid : Prop := configTenantsRow.holds Try.pinned (OpenSpec.ofChange configTenantsSpec)

/-- ITS FALSE NEIGHBOUR: 'it returns false'. Refute it at one input. -/
def configTenantsWrong : ChangeSpec := { name := "configTenants", fn := fun _ => fun
  | [d] => { results := [.lit (.bool false)], args := [d] }
  | _ => none }
def ConfigTenantsWrongFalsely : Prop := configTenantsRow.holds Try.pinned (OpenSpec.ofChange configTenantsWrong)

/-- 'dunnagelaw03.ConfigSpots': WHATEVER THE INPUT: true; the input reads as it did. -/
def configSpotsSpec : ChangeSpec := { name := "configSpots", fn := fun _ => fun
  | [d1, d2, d3, d4, d5] => { results := [.lit (.bool true)], args := [d1, d2, d3, d4, d5] }
  | _ => none }
def configSpotsRow : OpenClaim := { program := "ytbdfljgnlendjaa", sum := "5e6503fc18551ff1fe27c3380e0cad57fdf8a463e7b4a129bbe5236feb0fca2d", func := "dunnage/dunnagelaw03.ConfigSpots", spec := "configSpots", unfollowed := true, recurses := true, apart := false }
def ConfigSpotsSaid : Prop := configSpotsRow.holds Try.pinned (OpenSpec.ofChange configSpotsSpec)

/-- ITS FALSE NEIGHBOUR: 'it returns false'. Refute it at one input. -/
def configSpotsWrong : ChangeSpec := { name := "configSpots", fn := fun _ => fun
  | [d1, d2, d3, d4, d5] => { results := [.lit (.bool false)], args := [d1, d2, d3, d4, d5] }
  | _ => none }
def ConfigSpotsWrongFalsely : Prop := configSpotsRow.holds Try.pinned (OpenSpec.ofChange configSpotsWrong)

/-- 'dunnagelaw03.ConfigSpot': WHATEVER THE INPUT: true; the input reads as it did. -/
def configSpotSpec : ChangeSpec := { name := "configSpot", fn := fun _ => fun
  | [d1, d2, d3, d4, d5] => { results := [.lit (.bool true)], args := [d1, d2, d3, d4, d5] }
  | _ => none }
def configSpotRow : OpenClaim := { program := "ytbdfljgnlendjaa", sum := "5e6503fc18551ff1fe27c3380e0cad57fdf8a463e7b4a129bbe5236feb0fca2d", func := "dunnage/dunnagelaw03.ConfigSpot", spec := "configSpot", unfollowed := true, recurses := true, apart := false }
def ConfigSpotSaid : Prop := configSpotRow.holds Try.pinned (OpenSpec.ofChange configSpotSpec)

/-- ITS FALSE NEIGHBOUR: 'it returns false'. Refute it at one input. -/
def configSpotWrong : ChangeSpec := { name := "configSpot", fn := fun _ => fun
  | [d1, d2, d3, d4, d5] => { results := [.lit (.bool false)], args := [d1, d2, d3, d4, d5] }
  | _ => none }
def ConfigSpotWrongFalsely : Prop := configSpotRow.holds Try.pinned (OpenSpec.ofChange configSpotWrong)

/-- 'dunnagelaw03.ConfigProjected': WHATEVER THE INPUT: true; the input reads as it did. -/
def configProjectedSpec : ChangeSpec := { name := "configProjected", fn := fun _ => fun
  | [d1, d2] => { results := [.lit (.bool true)], args := [d1, d2] }
  | _ => none }
def configProjectedRow : OpenClaim := { program := "ytbdfljgnlendjaa", sum := "5e6503fc18551ff1fe27c3380e0cad57fdf8a463e7b4a129bbe5236feb0fca2d", func := "dunnage/dunnagelaw03.ConfigProjected", spec := "configProjected", unfollowed := true, recurses := true, apart := false }
def ConfigProjectedSaid : Prop := configProjectedRow.holds Try.pinned (OpenSpec.ofChange configProjectedSpec)

/-- ITS FALSE NEIGHBOUR: 'it returns false'. Refute it at one input. -/
def configProjectedWrong : ChangeSpec := { name := "configProjected", fn := fun _ => fun
  | [d1, d2] => { results := [.lit (.bool false)], args := [d1, d2] }
  | _ => none }
def ConfigProjectedWrongFalsely : Prop := configProjectedRow.holds Try.pinned (OpenSpec.ofChange configProjectedWrong)

/- THE SECOND FORM. 'bulk': how many values and letters a reading holds, each counted each time it is reached (what is shared counts as often as it is met; a slice's spare places count too). A statement '..UptoSaid' is the law's where the arguments, and the package variables that the reading takes, are together of bulk at most 1048576: NARROWER than '..Said'. Prove '..Said' where nothing that the law and all that it calls make is longer than what came in: it says more and counts as full. Else prove '..UptoSaid'. A law counts once. -/
mutual
def uptoBulk {H : Type} : DataW H → Nat
  | .lit (.string bytes) => bytes.length + 1
  | .lit _ => 1
  | .nil => 1
  | .ptr d => uptoBulk d + 1
  | .slice elems spare => uptoBulkAll elems + uptoBulkAll spare + 1
  | .agg parts => uptoBulkAll parts + 1
  | .iface _ d => uptoBulk d + 1
  | .map entries => uptoBulkEntries entries + 1
  | .held _ => 1
def uptoBulkAll {H : Type} : List (DataW H) → Nat
  | [] => 0
  | d :: r => uptoBulk d + uptoBulkAll r
def uptoBulkEntries {H : Type} : List (Lit × DataW H) → Nat
  | [] => 0
  | x :: r => uptoBulkEntry x + uptoBulkEntries r
def uptoBulkEntry {H : Type} : Lit × DataW H → Nat
  | (.string bytes, d) => bytes.length + uptoBulk d + 1
  | (_, d) => uptoBulk d + 1
 end
def uptoSmall : (H : Type) → List (DataW H) → Bool := fun _ ds => decide (uptoBulkAll ds ≤ 1048576)
def OpenSpec.upto (s : _root_.Go.ChangeSpec) : _root_.Go.OpenSpec := { _root_.Go.OpenSpec.ofChange s with cond := some uptoSmall }

/-- 'dunnagelaw03.ConfigCompares', WHERE WHAT IT READS IS OF BULK AT MOST 1048576: true; the input reads as it did. -/
def configComparesUptoRow : OpenClaim := { program := "ytbdfljgnlendjaa", sum := "5e6503fc18551ff1fe27c3380e0cad57fdf8a463e7b4a129bbe5236feb0fca2d", func := "dunnage/dunnagelaw03.ConfigCompares", spec := "configCompares", unfollowed := true, recurses := true, apart := false, narrowed := true }
def ConfigComparesUptoSaid : Prop := configComparesUptoRow.holds Try.pinned (OpenSpec.upto configComparesSpec)

/-- 'dunnagelaw03.ConfigTeams', WHERE WHAT IT READS IS OF BULK AT MOST 1048576: true; the input reads as it did. -/
def configTeamsUptoRow : OpenClaim := { program := "ytbdfljgnlendjaa", sum := "5e6503fc18551ff1fe27c3380e0cad57fdf8a463e7b4a129bbe5236feb0fca2d", func := "dunnage/dunnagelaw03.ConfigTeams", spec := "configTeams", unfollowed := true, recurses := true, apart := false, narrowed := true }
def ConfigTeamsUptoSaid : Prop := configTeamsUptoRow.holds Try.pinned (OpenSpec.upto configTeamsSpec)

/-- 'dunnagelaw03.ConfigChecks', WHERE WHAT IT READS IS OF BULK AT MOST 1048576: true; the input reads as it did. -/
def configChecksUptoRow : OpenClaim := { program := "ytbdfljgnlendjaa", sum := "5e6503fc18551ff1fe27c3380e0cad57fdf8a463e7b4a129bbe5236feb0fca2d", func := "dunnage/dunnagelaw03.ConfigChecks", spec := "configChecks", unfollowed := true, recurses := true, apart := false, narrowed := true }
def ConfigChecksUptoSaid : Prop := configChecksUptoRow.holds Try.pinned (OpenSpec.upto configChecksSpec)

/-- 'dunnagelaw03.ConfigProjects', WHERE WHAT IT READS IS OF BULK AT MOST 1048576: true; the input reads as it did. -/
def configProjectsUptoRow : OpenClaim := { program := "ytbdfljgnlendjaa", sum := "5e6503fc18551ff1fe27c3380e0cad57fdf8a463e7b4a129bbe5236feb0fca2d", func := "dunnage/dunnagelaw03.ConfigProjects", spec := "configProjects", unfollowed := true, recurses := true, apart := false, narrowed := true }
def ConfigProjectsUptoSaid : Prop := configProjectsUptoRow.holds Try.pinned (OpenSpec.upto configProjectsSpec)

/-- 'dunnagelaw03.ConfigEncodes', WHERE WHAT IT READS IS OF BULK AT MOST 1048576: true; the input reads as it did. -/
def configEncodesUptoRow : OpenClaim := { program := "ytbdfljgnlendjaa", sum := "5e6503fc18551ff1fe27c3380e0cad57fdf8a463e7b4a129bbe5236feb0fca2d", func := "dunnage/dunnagelaw03.ConfigEncodes", spec := "configEncodes", unfollowed := true, recurses := true, apart := false, narrowed := true }
def ConfigEncodesUptoSaid : Prop := configEncodesUptoRow.holds Try.pinned (OpenSpec.upto configEncodesSpec)

/-- 'dunnagelaw03.ConfigDecodes', WHERE WHAT IT READS IS OF BULK AT MOST 1048576: true; the input reads as it did. -/
def configDecodesUptoRow : OpenClaim := { program := "ytbdfljgnlendjaa", sum := "5e6503fc18551ff1fe27c3380e0cad57fdf8a463e7b4a129bbe5236feb0fca2d", func := "dunnage/dunnagelaw03.ConfigDecodes", spec := "configDecodes", unfollowed := true, recurses := true, apart := false, narrowed := true }
def ConfigDecodesUptoSaid : Prop := configDecodesUptoRow.holds Try.pinned (OpenSpec.upto configDecodesSpec)

/-- 'dunnagelaw03.ConfigExamples', WHERE WHAT IT READS IS OF BULK AT MOST 1048576: true; the input reads as it did. -/
def configExamplesUptoRow : OpenClaim := { program := "ytbdfljgnlendjaa", sum := "5e6503fc18551ff1fe27c3380e0cad57fdf8a463e7b4a129bbe5236feb0fca2d", func := "dunnage/dunnagelaw03.ConfigExamples", spec := "configExamples", unfollowed := true, recurses := true, apart := false, narrowed := true }
def ConfigExamplesUptoSaid : Prop := configExamplesUptoRow.holds Try.pinned (OpenSpec.upto configExamplesSpec)

/-- 'dunnagelaw03.ConfigOrder', WHERE WHAT IT READS IS OF BULK AT MOST 1048576: true; the input reads as it did. -/
def configOrderUptoRow : OpenClaim := { program := "ytbdfljgnlendjaa", sum := "5e6503fc18551ff1fe27c3380e0cad57fdf8a463e7b4a129bbe5236feb0fca2d", func := "dunnage/dunnagelaw03.ConfigOrder", spec := "configOrder", unfollowed := true, recurses := true, apart := false, narrowed := true }
def ConfigOrderUptoSaid : Prop := configOrderUptoRow.holds Try.pinned (OpenSpec.upto configOrderSpec)

/-- 'dunnagelaw03.ConfigCell', WHERE WHAT IT READS IS OF BULK AT MOST 1048576: true; the input reads as it did. -/
def configCellUptoRow : OpenClaim := { program := "ytbdfljgnlendjaa", sum := "5e6503fc18551ff1fe27c3380e0cad57fdf8a463e7b4a129bbe5236feb0fca2d", func := "dunnage/dunnagelaw03.ConfigCell", spec := "configCell", unfollowed := true, recurses := true, apart := false, narrowed := true }
def ConfigCellUptoSaid : Prop := configCellUptoRow.holds Try.pinned (OpenSpec.upto configCellSpec)

/-- 'dunnagelaw03.ConfigSlice', WHERE WHAT IT READS IS OF BULK AT MOST 1048576: true; the input reads as it did. -/
def configSliceUptoRow : OpenClaim := { program := "ytbdfljgnlendjaa", sum := "5e6503fc18551ff1fe27c3380e0cad57fdf8a463e7b4a129bbe5236feb0fca2d", func := "dunnage/dunnagelaw03.ConfigSlice", spec := "configSlice", unfollowed := true, recurses := true, apart := false, narrowed := true }
def ConfigSliceUptoSaid : Prop := configSliceUptoRow.holds Try.pinned (OpenSpec.upto configSliceSpec)

/-- 'dunnagelaw03.ConfigApart', WHERE WHAT IT READS IS OF BULK AT MOST 1048576: true; the input reads as it did. -/
def configApartUptoRow : OpenClaim := { program := "ytbdfljgnlendjaa", sum := "5e6503fc18551ff1fe27c3380e0cad57fdf8a463e7b4a129bbe5236feb0fca2d", func := "dunnage/dunnagelaw03.ConfigApart", spec := "configApart", unfollowed := true, recurses := true, apart := false, narrowed := true }
def ConfigApartUptoSaid : Prop := configApartUptoRow.holds Try.pinned (OpenSpec.upto configApartSpec)

/-- 'dunnagelaw03.ConfigRoundTrip', WHERE WHAT IT READS IS OF BULK AT MOST 1048576: true; the input reads as it did. -/
def configRoundTripUptoRow : OpenClaim := { program := "ytbdfljgnlendjaa", sum := "5e6503fc18551ff1fe27c3380e0cad57fdf8a463e7b4a129bbe5236feb0fca2d", func := "dunnage/dunnagelaw03.ConfigRoundTrip", spec := "configRoundTrip", unfollowed := true, recurses := true, apart := false, narrowed := true }
def ConfigRoundTripUptoSaid : Prop := configRoundTripUptoRow.holds Try.pinned (OpenSpec.upto configRoundTripSpec)

/-- 'dunnagelaw03.ConfigTenants', WHERE WHAT IT READS IS OF BULK AT MOST 1048576: true; the input reads as it did. -/
def configTenantsUptoRow : OpenClaim := { program := "ytbdfljgnlendjaa", sum := "5e6503fc18551ff1fe27c3380e0cad57fdf8a463e7b4a129bbe5236feb0fca2d", func := "dunnage/dunnagelaw03.ConfigTenants", spec := "configTenants", unfollowed := true, recurses := true, apart := false, narrowed := true }
def ConfigTenantsUptoSaid : Prop := configTenantsUptoRow.holds Try.pinned (OpenSpec.upto configTenantsSpec)

/-- 'dunnagelaw03.ConfigSpots', WHERE WHAT IT READS IS OF BULK AT MOST 1048576: true; the input reads as it did. -/
def configSpotsUptoRow : OpenClaim := { program := "ytbdfljgnlendjaa", sum := "5e6503fc18551ff1fe27c3380e0cad57fdf8a463e7b4a129bbe5236feb0fca2d", func := "dunnage/dunnagelaw03.ConfigSpots", spec := "configSpots", unfollowed := true, recurses := true, apart := false, narrowed := true }
def ConfigSpotsUptoSaid : Prop := configSpotsUptoRow.holds Try.pinned (OpenSpec.upto configSpotsSpec)

/-- 'dunnagelaw03.ConfigSpot', WHERE WHAT IT READS IS OF BULK AT MOST 1048576: true; the input reads as it did. -/
def configSpotUptoRow : OpenClaim := { program := "ytbdfljgnlendjaa", sum := "5e6503fc18551ff1fe27c3380e0cad57fdf8a463e7b4a129bbe5236feb0fca2d", func := "dunnage/dunnagelaw03.ConfigSpot", spec := "configSpot", unfollowed := true, recurses := true, apart := false, narrowed := true }
def ConfigSpotUptoSaid : Prop := configSpotUptoRow.holds Try.pinned (OpenSpec.upto configSpotSpec)

/-- 'dunnagelaw03.ConfigProjected', WHERE WHAT IT READS IS OF BULK AT MOST 1048576: true; the input reads as it did. -/
def configProjectedUptoRow : OpenClaim := { program := "ytbdfljgnlendjaa", sum := "5e6503fc18551ff1fe27c3380e0cad57fdf8a463e7b4a129bbe5236feb0fca2d", func := "dunnage/dunnagelaw03.ConfigProjected", spec := "configProjected", unfollowed := true, recurses := true, apart := false, narrowed := true }
def ConfigProjectedUptoSaid : Prop := configProjectedUptoRow.holds Try.pinned (OpenSpec.upto configProjectedSpec)

end Rows
end Go.Proofs.Ytbdfljgnlendjaa
