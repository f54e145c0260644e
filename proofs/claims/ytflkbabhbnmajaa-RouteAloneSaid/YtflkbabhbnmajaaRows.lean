/-
  No cell of these rows narrows 'for every input' (looked for: loops, veiled, ifaces, maps, wideKeys, modest, calm, conditions, laid).
  DERIVED. THE GIVEN ROWS OF THIS SEAT. 16 by the template 'for every input the law returns true; each argument reads behind the call as it read before'; 0 by the template 'total and deterministic' (their statements: YtflkbabhbnmajaaTotals.lean).
  GIVEN WITH THE SEED: the statements are not yours to turn. If you find one false, say at which input.
  Laid BY PROGRAM, IN A SANDBOX (cutbox-rows.mjs): the forced cells as the released guide's own fill.sh prints them over the translation f1a93f7d79c86c4c… (all of the seat's roots in one cut). By AI agents, Wed Nov 11 2026. No macro, syntax, notation, axiom, sorry.
-/
import Derived.Test.YtflkbabhbnmajaaChecked
import GoSem.Claim
import GoSem.ClaimJoined
import GoSem.ClaimMapViews
import Derived.JoinedTies
import Derived.KernelRfl
namespace Go.Proofs.Ytflkbabhbnmajaa
/- THE CELL 'sum', in the pinned program and in every row, IS THE sha256 OF THE DUMP (.gsa) THAT YtflkbabhbnmajaaProg.lean LOADS. Nothing in Lean hashes anything: it is a label: what it is worth is what the hold of that sum in a sandbox is worth. -/
noncomputable def Try.pinned : Pinned := { name := "ytflkbabhbnmajaa", sum := "f1a93f7d79c86c4c93960932345ea887bc5a842484a8e1353e126b0424fe86cf", checked := Try.checked }
namespace Rows
def none {H : Type} : Left H := { results := [], args := [] }

/-- 'dunnagelaw04.RouteWalks': WHATEVER THE INPUT: true; the input reads as it did. -/
def routeWalksSpec : ChangeSpec := { name := "routeWalks", fn := fun _ => fun
  | [d1, d2, d3, d4, d5] => { results := [.lit (.bool true)], args := [d1, d2, d3, d4, d5] }
  | _ => none }
def routeWalksRow : OpenClaim := { program := "ytflkbabhbnmajaa", sum := "f1a93f7d79c86c4c93960932345ea887bc5a842484a8e1353e126b0424fe86cf", func := "dunnage/dunnagelaw04.RouteWalks", spec := "routeWalks", unfollowed := true, recurses := true, apart := false }
def RouteWalksSaid : Prop := routeWalksRow.holds Try.pinned (OpenSpec.ofChange routeWalksSpec)

/-- ITS FALSE NEIGHBOUR: 'it returns false'. Refute it at one input. -/
def routeWalksWrong : ChangeSpec := { name := "routeWalks", fn := fun _ => fun
  | [d1, d2, d3, d4, d5] => { results := [.lit (.bool false)], args := [d1, d2, d3, d4, d5] }
  | _ => none }
def RouteWalksWrongFalsely : Prop := routeWalksRow.holds Try.pinned (OpenSpec.ofChange routeWalksWrong)

/-- 'dunnagelaw04.RouteTables': WHATEVER THE INPUT: true; the input reads as it did. -/
def routeTablesSpec : ChangeSpec := { name := "routeTables", fn := fun _ => fun
  | [d1, d2, d3] => { results := [.lit (.bool true)], args := [d1, d2, d3] }
  | _ => none }
def routeTablesRow : OpenClaim := { program := "ytflkbabhbnmajaa", sum := "f1a93f7d79c86c4c93960932345ea887bc5a842484a8e1353e126b0424fe86cf", func := "dunnage/dunnagelaw04.RouteTables", spec := "routeTables", unfollowed := true, recurses := true, apart := false }
def RouteTablesSaid : Prop := routeTablesRow.holds Try.pinned (OpenSpec.ofChange routeTablesSpec)

/-- ITS FALSE NEIGHBOUR: 'it returns false'. Refute it at one input. -/
def routeTablesWrong : ChangeSpec := { name := "routeTables", fn := fun _ => fun
  | [d1, d2, d3] => { results := [.lit (.bool false)], args := [d1, d2, d3] }
  | _ => none }
def RouteTablesWrongFalsely : Prop := routeTablesRow.holds Try.pinned (OpenSpec.ofChange routeTablesWrong)

/-- 'dunnagelaw04.RouteReaches': WHATEVER THE INPUT: true; the input reads as it did. -/
def routeReachesSpec : ChangeSpec := { name := "routeReaches", fn := fun _ => fun
  | [d1, d2, d3, d4, d5] => { results := [.lit (.bool true)], args := [d1, d2, d3, d4, d5] }
  | _ => none }
def routeReachesRow : OpenClaim := { program := "ytflkbabhbnmajaa", sum := "f1a93f7d79c86c4c93960932345ea887bc5a842484a8e1353e126b0424fe86cf", func := "dunnage/dunnagelaw04.RouteReaches", spec := "routeReaches", unfollowed := true, recurses := true, apart := false }
def RouteReachesSaid : Prop := routeReachesRow.holds Try.pinned (OpenSpec.ofChange routeReachesSpec)

/-- ITS FALSE NEIGHBOUR: 'it returns false'. Refute it at one input. -/
def routeReachesWrong : ChangeSpec := { name := "routeReaches", fn := fun _ => fun
  | [d1, d2, d3, d4, d5] => { results := [.lit (.bool false)], args := [d1, d2, d3, d4, d5] }
  | _ => none }
def RouteReachesWrongFalsely : Prop := routeReachesRow.holds Try.pinned (OpenSpec.ofChange routeReachesWrong)

/-- 'dunnagelaw04.RouteTells': WHATEVER THE INPUT: true; the input reads as it did. -/
def routeTellsSpec : ChangeSpec := { name := "routeTells", fn := fun _ => fun
  | [d1, d2, d3, d4, d5] => { results := [.lit (.bool true)], args := [d1, d2, d3, d4, d5] }
  | _ => none }
def routeTellsRow : OpenClaim := { program := "ytflkbabhbnmajaa", sum := "f1a93f7d79c86c4c93960932345ea887bc5a842484a8e1353e126b0424fe86cf", func := "dunnage/dunnagelaw04.RouteTells", spec := "routeTells", unfollowed := true, recurses := true, apart := false }
def RouteTellsSaid : Prop := routeTellsRow.holds Try.pinned (OpenSpec.ofChange routeTellsSpec)

/-- ITS FALSE NEIGHBOUR: 'it returns false'. Refute it at one input. -/
def routeTellsWrong : ChangeSpec := { name := "routeTells", fn := fun _ => fun
  | [d1, d2, d3, d4, d5] => { results := [.lit (.bool false)], args := [d1, d2, d3, d4, d5] }
  | _ => none }
def RouteTellsWrongFalsely : Prop := routeTellsRow.holds Try.pinned (OpenSpec.ofChange routeTellsWrong)

/-- 'dunnagelaw04.RouteApart': WHATEVER THE INPUT: true; the input reads as it did. -/
def routeApartSpec : ChangeSpec := { name := "routeApart", fn := fun _ => fun
  | [d1, d2, d3, d4, d5, d6] => { results := [.lit (.bool true)], args := [d1, d2, d3, d4, d5, d6] }
  | _ => none }
def routeApartRow : OpenClaim := { program := "ytflkbabhbnmajaa", sum := "f1a93f7d79c86c4c93960932345ea887bc5a842484a8e1353e126b0424fe86cf", func := "dunnage/dunnagelaw04.RouteApart", spec := "routeApart", unfollowed := true, recurses := true, apart := false }
def RouteApartSaid : Prop := routeApartRow.holds Try.pinned (OpenSpec.ofChange routeApartSpec)

/-- ITS FALSE NEIGHBOUR: 'it returns false'. Refute it at one input. -/
def routeApartWrong : ChangeSpec := { name := "routeApart", fn := fun _ => fun
  | [d1, d2, d3, d4, d5, d6] => { results := [.lit (.bool false)], args := [d1, d2, d3, d4, d5, d6] }
  | _ => none }
def RouteApartWrongFalsely : Prop := routeApartRow.holds Try.pinned (OpenSpec.ofChange routeApartWrong)

/-- 'dunnagelaw04.RoutePeriod': WHATEVER THE INPUT: true; the input reads as it did. -/
def routePeriodSpec : ChangeSpec := { name := "routePeriod", fn := fun _ => fun
  | [d1, d2, d3, d4, d5] => { results := [.lit (.bool true)], args := [d1, d2, d3, d4, d5] }
  | _ => none }
def routePeriodRow : OpenClaim := { program := "ytflkbabhbnmajaa", sum := "f1a93f7d79c86c4c93960932345ea887bc5a842484a8e1353e126b0424fe86cf", func := "dunnage/dunnagelaw04.RoutePeriod", spec := "routePeriod", unfollowed := true, recurses := true, apart := false }
def RoutePeriodSaid : Prop := routePeriodRow.holds Try.pinned (OpenSpec.ofChange routePeriodSpec)

/-- ITS FALSE NEIGHBOUR: 'it returns false'. Refute it at one input. -/
def routePeriodWrong : ChangeSpec := { name := "routePeriod", fn := fun _ => fun
  | [d1, d2, d3, d4, d5] => { results := [.lit (.bool false)], args := [d1, d2, d3, d4, d5] }
  | _ => none }
def RoutePeriodWrongFalsely : Prop := routePeriodRow.holds Try.pinned (OpenSpec.ofChange routePeriodWrong)

/-- 'dunnagelaw04.RouteRest': WHATEVER THE INPUT: true; the input reads as it did. -/
def routeRestSpec : ChangeSpec := { name := "routeRest", fn := fun _ => fun
  | [d1, d2, d3, d4] => { results := [.lit (.bool true)], args := [d1, d2, d3, d4] }
  | _ => none }
def routeRestRow : OpenClaim := { program := "ytflkbabhbnmajaa", sum := "f1a93f7d79c86c4c93960932345ea887bc5a842484a8e1353e126b0424fe86cf", func := "dunnage/dunnagelaw04.RouteRest", spec := "routeRest", unfollowed := true, recurses := true, apart := false }
def RouteRestSaid : Prop := routeRestRow.holds Try.pinned (OpenSpec.ofChange routeRestSpec)

/-- ITS FALSE NEIGHBOUR: 'it returns false'. Refute it at one input. -/
def routeRestWrong : ChangeSpec := { name := "routeRest", fn := fun _ => fun
  | [d1, d2, d3, d4] => { results := [.lit (.bool false)], args := [d1, d2, d3, d4] }
  | _ => none }
def RouteRestWrongFalsely : Prop := routeRestRow.holds Try.pinned (OpenSpec.ofChange routeRestWrong)

/-- 'dunnagelaw04.RouteWaits': WHATEVER THE INPUT: true; the input reads as it did. -/
def routeWaitsSpec : ChangeSpec := { name := "routeWaits", fn := fun _ => fun
  | [d1, d2, d3, d4] => { results := [.lit (.bool true)], args := [d1, d2, d3, d4] }
  | _ => none }
def routeWaitsRow : OpenClaim := { program := "ytflkbabhbnmajaa", sum := "f1a93f7d79c86c4c93960932345ea887bc5a842484a8e1353e126b0424fe86cf", func := "dunnage/dunnagelaw04.RouteWaits", spec := "routeWaits", unfollowed := true, recurses := true, apart := false }
def RouteWaitsSaid : Prop := routeWaitsRow.holds Try.pinned (OpenSpec.ofChange routeWaitsSpec)

/-- ITS FALSE NEIGHBOUR: 'it returns false'. Refute it at one input. -/
def routeWaitsWrong : ChangeSpec := { name := "routeWaits", fn := fun _ => fun
  | [d1, d2, d3, d4] => { results := [.lit (.bool false)], args := [d1, d2, d3, d4] }
  | _ => none }
def RouteWaitsWrongFalsely : Prop := routeWaitsRow.holds Try.pinned (OpenSpec.ofChange routeWaitsWrong)

/-- 'dunnagelaw04.RouteSounds': WHATEVER THE INPUT: true; the input reads as it did. -/
def routeSoundsSpec : ChangeSpec := { name := "routeSounds", fn := fun _ => fun
  | [d1, d2] => { results := [.lit (.bool true)], args := [d1, d2] }
  | _ => none }
def routeSoundsRow : OpenClaim := { program := "ytflkbabhbnmajaa", sum := "f1a93f7d79c86c4c93960932345ea887bc5a842484a8e1353e126b0424fe86cf", func := "dunnage/dunnagelaw04.RouteSounds", spec := "routeSounds", unfollowed := true, recurses := true, apart := false }
def RouteSoundsSaid : Prop := routeSoundsRow.holds Try.pinned (OpenSpec.ofChange routeSoundsSpec)

/-- ITS FALSE NEIGHBOUR: 'it returns false'. Refute it at one input. -/
def routeSoundsWrong : ChangeSpec := { name := "routeSounds", fn := fun _ => fun
  | [d1, d2] => { results := [.lit (.bool false)], args := [d1, d2] }
  | _ => none }
def RouteSoundsWrongFalsely : Prop := routeSoundsRow.holds Try.pinned (OpenSpec.ofChange routeSoundsWrong)

/-- 'dunnagelaw04.RouteRows': WHATEVER THE INPUT: true; the input reads as it did. -/
def routeRowsSpec : ChangeSpec := { name := "routeRows", fn := fun _ => fun
  | [d1, d2, d3, d4] => { results := [.lit (.bool true)], args := [d1, d2, d3, d4] }
  | _ => none }
def routeRowsRow : OpenClaim := { program := "ytflkbabhbnmajaa", sum := "f1a93f7d79c86c4c93960932345ea887bc5a842484a8e1353e126b0424fe86cf", func := "dunnage/dunnagelaw04.RouteRows", spec := "routeRows", unfollowed := true, recurses := true, apart := false }
def RouteRowsSaid : Prop := routeRowsRow.holds Try.pinned (OpenSpec.ofChange routeRowsSpec)

/-- ITS FALSE NEIGHBOUR: 'it returns false'. Refute it at one input. -/
def routeRowsWrong : ChangeSpec := { name := "routeRows", fn := fun _ => fun
  | [d1, d2, d3, d4] => { results := [.lit (.bool false)], args := [d1, d2, d3, d4] }
  | _ => none }
def RouteRowsWrongFalsely : Prop := routeRowsRow.holds Try.pinned (OpenSpec.ofChange routeRowsWrong)

/-- 'dunnagelaw04.RouteFar': WHATEVER THE INPUT: true; the input reads as it did. -/
def routeFarSpec : ChangeSpec := { name := "routeFar", fn := fun _ => fun
  | [d1, d2, d3, d4] => { results := [.lit (.bool true)], args := [d1, d2, d3, d4] }
  | _ => none }
def routeFarRow : OpenClaim := { program := "ytflkbabhbnmajaa", sum := "f1a93f7d79c86c4c93960932345ea887bc5a842484a8e1353e126b0424fe86cf", func := "dunnage/dunnagelaw04.RouteFar", spec := "routeFar", unfollowed := true, recurses := true, apart := false }
def RouteFarSaid : Prop := routeFarRow.holds Try.pinned (OpenSpec.ofChange routeFarSpec)

/-- ITS FALSE NEIGHBOUR: 'it returns false'. Refute it at one input. -/
def routeFarWrong : ChangeSpec := { name := "routeFar", fn := fun _ => fun
  | [d1, d2, d3, d4] => { results := [.lit (.bool false)], args := [d1, d2, d3, d4] }
  | _ => none }
def RouteFarWrongFalsely : Prop := routeFarRow.holds Try.pinned (OpenSpec.ofChange routeFarWrong)

/-- 'dunnagelaw04.RouteFirst': WHATEVER THE INPUT: true; the input reads as it did. -/
def routeFirstSpec : ChangeSpec := { name := "routeFirst", fn := fun _ => fun
  | [d1, d2, d3, d4, d5] => { results := [.lit (.bool true)], args := [d1, d2, d3, d4, d5] }
  | _ => none }
def routeFirstRow : OpenClaim := { program := "ytflkbabhbnmajaa", sum := "f1a93f7d79c86c4c93960932345ea887bc5a842484a8e1353e126b0424fe86cf", func := "dunnage/dunnagelaw04.RouteFirst", spec := "routeFirst", unfollowed := true, recurses := true, apart := false }
def RouteFirstSaid : Prop := routeFirstRow.holds Try.pinned (OpenSpec.ofChange routeFirstSpec)

/-- ITS FALSE NEIGHBOUR: 'it returns false'. Refute it at one input. -/
def routeFirstWrong : ChangeSpec := { name := "routeFirst", fn := fun _ => fun
  | [d1, d2, d3, d4, d5] => { results := [.lit (.bool false)], args := [d1, d2, d3, d4, d5] }
  | _ => none }
def RouteFirstWrongFalsely : Prop := routeFirstRow.holds Try.pinned (OpenSpec.ofChange routeFirstWrong)

/-- 'dunnagelaw04.RouteShortest': WHATEVER THE INPUT: true; the input reads as it did. -/
def routeShortestSpec : ChangeSpec := { name := "routeShortest", fn := fun _ => fun
  | [d1, d2, d3, d4, d5] => { results := [.lit (.bool true)], args := [d1, d2, d3, d4, d5] }
  | _ => none }
def routeShortestRow : OpenClaim := { program := "ytflkbabhbnmajaa", sum := "f1a93f7d79c86c4c93960932345ea887bc5a842484a8e1353e126b0424fe86cf", func := "dunnage/dunnagelaw04.RouteShortest", spec := "routeShortest", unfollowed := true, recurses := true, apart := false }
def RouteShortestSaid : Prop := routeShortestRow.holds Try.pinned (OpenSpec.ofChange routeShortestSpec)

/-- ITS FALSE NEIGHBOUR: 'it returns false'. Refute it at one input. -/
def routeShortestWrong : ChangeSpec := { name := "routeShortest", fn := fun _ => fun
  | [d1, d2, d3, d4, d5] => { results := [.lit (.bool false)], args := [d1, d2, d3, d4, d5] }
  | _ => none }
def RouteShortestWrongFalsely : Prop := routeShortestRow.holds Try.pinned (OpenSpec.ofChange routeShortestWrong)

/-- 'dunnagelaw04.RouteSpreads': WHATEVER THE INPUT: true; the input reads as it did. -/
def routeSpreadsSpec : ChangeSpec := { name := "routeSpreads", fn := fun _ => fun
  | [d1, d2, d3, d4, d5] => { results := [.lit (.bool true)], args := [d1, d2, d3, d4, d5] }
  | _ => none }
def routeSpreadsRow : OpenClaim := { program := "ytflkbabhbnmajaa", sum := "f1a93f7d79c86c4c93960932345ea887bc5a842484a8e1353e126b0424fe86cf", func := "dunnage/dunnagelaw04.RouteSpreads", spec := "routeSpreads", unfollowed := true, recurses := true, apart := false }
def RouteSpreadsSaid : Prop := routeSpreadsRow.holds Try.pinned (OpenSpec.ofChange routeSpreadsSpec)

/-- ITS FALSE NEIGHBOUR: 'it returns false'. Refute it at one input. -/
def routeSpreadsWrong : ChangeSpec := { name := "routeSpreads", fn := fun _ => fun
  | [d1, d2, d3, d4, d5] => { results := [.lit (.bool false)], args := [d1, d2, d3, d4, d5] }
  | _ => none }
def RouteSpreadsWrongFalsely : Prop := routeSpreadsRow.holds Try.pinned (OpenSpec.ofChange routeSpreadsWrong)

/-- 'dunnagelaw04.RouteLongest': WHATEVER THE INPUT: true; the input reads as it did. -/
def routeLongestSpec : ChangeSpec := { name := "routeLongest", fn := fun _ => fun
  | [d1, d2, d3] => { results := [.lit (.bool true)], args := [d1, d2, d3] }
  | _ => none }
def routeLongestRow : OpenClaim := { program := "ytflkbabhbnmajaa", sum := "f1a93f7d79c86c4c93960932345ea887bc5a842484a8e1353e126b0424fe86cf", func := "dunnage/dunnagelaw04.RouteLongest", spec := "routeLongest", unfollowed := true, recurses := true, apart := false }
def RouteLongestSaid : Prop := routeLongestRow.holds Try.pinned (OpenSpec.ofChange routeLongestSpec)

/-- ITS FALSE NEIGHBOUR: 'it returns false'. Refute it at one input. -/
def routeLongestWrong : ChangeSpec := { name := "routeLongest", fn := fun _ => fun
  | [d1, d2, d3] => { results := [.lit (.bool false)], args := [d1, d2, d3] }
  | _ => none }
def RouteLongestWrongFalsely : Prop := routeLongestRow.holds Try.pinned (OpenSpec.ofChange routeLongestWrong)

/-- 'dunnagelaw04.RouteAlone': WHATEVER THE INPUT: true; the input reads as it did. -/
def routeAloneSpec : ChangeSpec := { name := "routeAlone", fn := fun _ => fun
  | [d1, d2, d3, d4, d5] => { results := [.lit (.bool true)], args := [d1, d2, d3, d4, d5] }
  | _ => none }
def routeAloneRow : OpenClaim := { program := "ytflkbabhbnmajaa", sum := "f1a93f7d79c86c4c93960932345ea887bc5a842484a8e1353e126b0424fe86cf", func := "dunnage/dunnagelaw04.RouteAlone", spec := "routeAlone", unfollowed := true, recurses := true, apart := false }
def RouteAloneSaid : Prop := routeAloneRow.holds Try.pinned (OpenSpec.ofChange routeAloneSpec)

/-- ITS FALSE NEIGHBOUR: 'it returns false'. Refute it at one input. -/
def routeAloneWrong : ChangeSpec := { name := "routeAlone", fn := fun _ => fun
  | [d1, d2, d3, d4, d5] => { results := [.lit (.bool false)], args := [d1, d2, d3, d4, d5] }
  | _ => none }
def RouteAloneWrongFalsely : Prop := routeAloneRow.holds Try.pinned (OpenSpec.ofChange routeAloneWrong)

/- THE SECOND FORM. 'bulk': how many values and letters a reading holds, each counted each time it is reached (what is shared counts as often as it is met; a slice's spare places count too). A statement '..UptoSaid' is the law's where the arguments, and the package variables that the reading takes, are together of bulk at most 1048576: NARROWER than '..Said'. Prove '..Said' where nothing that the law and all that it calls make is longer than what came in: it says more and counts as full. Else prove '..UptoSaid'. A law counts once. -/
mutual
def uptoBulk {H : Type} : DataW H → Nat
  | .lit (.string bytes) => bytes.length + 1
  | .lit _ => 1
  | .nil => 1
  | .ptr d => uptoBulk d + 1
  | .slice elems spare => uptoBulkAll elems + uptoBulkAll spare + 1
  | .agg parts => uptoBulkAll parts + 1
  | .iface _ d => uptoBulk d + 1
  | .map entries => uptoBulkEntries entries + 1
  | .held _ => 1
def uptoBulkAll {H : Type} : List (DataW H) → Nat
  | [] => 0
  | d :: r => uptoBulk d + uptoBulkAll r
def uptoBulkEntries {H : Type} : List (Lit × DataW H) → Nat
  | [] => 0
  | x :: r => uptoBulkEntry x + uptoBulkEntries r
def uptoBulkEntry {H : Type} : Lit × DataW H → Nat
  | (.string bytes, d) => bytes.length + uptoBulk d + 1
  | (_, d) => uptoBulk d + 1
 end
def uptoSmall : (H : Type) → List (DataW H) → Bool := fun _ ds => decide (uptoBulkAll ds ≤ 1048576)
def OpenSpec.upto (s : _root_.Go.ChangeSpec) : _root_.Go.OpenSpec := { _root_.Go.OpenSpec.ofChange s with cond := some uptoSmall }

/-- 'dunnagelaw04.RouteWalks', WHERE WHAT IT READS IS OF BULK AT MOST 1048576: true; the input reads as it did. -/
def routeWalksUptoRow : OpenClaim := { program := "ytflkbabhbnmajaa", sum := "f1a93f7d79c86c4c93960932345ea887bc5a842484a8e1353e126b0424fe86cf", func := "dunnage/dunnagelaw04.RouteWalks", spec := "routeWalks", unfollowed := true, recurses := true, apart := false, narrowed := true }
def RouteWalksUptoSaid : Prop := routeWalksUptoRow.holds Try.pinned (OpenSpec.upto routeWalksSpec)

/-- 'dunnagelaw04.RouteTables', WHERE WHAT IT READS IS OF BULK AT MOST 1048576: true; the input reads as it did. -/
def routeTablesUptoRow : OpenClaim := { program := "ytflkbabhbnmajaa", sum := "f1a93f7d79c86c4c93960932345ea887bc5a842484a8e1353e126b0424fe86cf", func := "dunnage/dunnagelaw04.RouteTables", spec := "routeTables", unfollowed := true, recurses := true, apart := false, narrowed := true }
def RouteTablesUptoSaid : Prop := routeTablesUptoRow.holds Try.pinned (OpenSpec.upto routeTablesSpec)

/-- 'dunnagelaw04.RouteReaches', WHERE WHAT IT READS IS OF BULK AT MOST 1048576: true; the input reads as it did. -/
def routeReachesUptoRow : OpenClaim := { program := "ytflkbabhbnmajaa", sum := "f1a93f7d79c86c4c93960932345ea887bc5a842484a8e1353e126b0424fe86cf", func := "dunnage/dunnagelaw04.RouteReaches", spec := "routeReaches", unfollowed := true, recurses := true, apart := false, narrowed := true }
def RouteReachesUptoSaid : Prop := routeReachesUptoRow.holds Try.pinned (OpenSpec.upto routeReachesSpec)

/-- 'dunnagelaw04.RouteTells', WHERE WHAT IT READS IS OF BULK AT MOST 1048576: true; the input reads as it did. -/
def routeTellsUptoRow : OpenClaim := { program := "ytflkbabhbnmajaa", sum := "f1a93f7d79c86c4c93960932345ea887bc5a842484a8e1353e126b0424fe86cf", func := "dunnage/dunnagelaw04.RouteTells", spec := "routeTells", unfollowed := true, recurses := true, apart := false, narrowed := true }
def RouteTellsUptoSaid : Prop := routeTellsUptoRow.holds Try.pinned (OpenSpec.upto routeTellsSpec)

/-- 'dunnagelaw04.RouteApart', WHERE WHAT IT READS IS OF BULK AT MOST 1048576: true; the input reads as it did. -/
def routeApartUptoRow : OpenClaim := { program := "ytflkbabhbnmajaa", sum := "f1a93f7d79c86c4c93960932345ea887bc5a842484a8e1353e126b0424fe86cf", func := "dunnage/dunnagelaw04.RouteApart", spec := "routeApart", unfollowed := true, recurses := true, apart := false, narrowed := true }
def RouteApartUptoSaid : Prop := routeApartUptoRow.holds Try.pinned (OpenSpec.upto routeApartSpec)

/-- 'dunnagelaw04.RoutePeriod', WHERE WHAT IT READS IS OF BULK AT MOST 1048576: true; the input reads as it did. -/
def routePeriodUptoRow : OpenClaim := { program := "ytflkbabhbnmajaa", sum := "f1a93f7d79c86c4c93960932345ea887bc5a842484a8e1353e126b0424fe86cf", func := "dunnage/dunnagelaw04.RoutePeriod", spec := "routePeriod", unfollowed := true, recurses := true, apart := false, narrowed := true }
def RoutePeriodUptoSaid : Prop := routePeriodUptoRow.holds Try.pinned (OpenSpec.upto routePeriodSpec)

/-- 'dunnagelaw04.RouteRest', WHERE WHAT IT READS IS OF BULK AT MOST 1048576: true; the input reads as it did. -/
def routeRestUptoRow : OpenClaim := { program := "ytflkbabhbnmajaa", sum := "f1a93f7d79c86c4c93960932345ea887bc5a842484a8e1353e126b0424fe86cf", func := "dunnage/dunnagelaw04.RouteRest", spec := "routeRest", unfollowed := true, recurses := true, apart := false, narrowed := true }
def RouteRestUptoSaid : Prop := routeRestUptoRow.holds Try.pinned (OpenSpec.upto routeRestSpec)

/-- 'dunnagelaw04.RouteWaits', WHERE WHAT IT READS IS OF BULK AT MOST 1048576: true; the input reads as it did. -/
def routeWaitsUptoRow : OpenClaim := { program := "ytflkbabhbnmajaa", sum := "f1a93f7d79c86c4c93960932345ea887bc5a842484a8e1353e126b0424fe86cf", func := "dunnage/dunnagelaw04.RouteWaits", spec := "routeWaits", unfollowed := true, recurses := true, apart := false, narrowed := true }
def RouteWaitsUptoSaid : Prop := routeWaitsUptoRow.holds Try.pinned (OpenSpec.upto routeWaitsSpec)

/-- 'dunnagelaw04.RouteSounds', WHERE WHAT IT READS IS OF BULK AT MOST 1048576: true; the input reads as it did. -/
def routeSoundsUptoRow : OpenClaim := { program := "ytflkbabhbnmajaa", sum := "f1a93f7d79c86c4c93960932345ea887bc5a842484a8e1353e126b0424fe86cf", func := "dunnage/dunnagelaw04.RouteSounds", spec := "routeSounds", unfollowed := true, recurses := true, apart := false, narrowed := true }
def RouteSoundsUptoSaid : Prop := routeSoundsUptoRow.holds Try.pinned (OpenSpec.upto routeSoundsSpec)

/-- 'dunnagelaw04.RouteRows', WHERE WHAT IT READS IS OF BULK AT MOST 1048576: true; the input reads as it did. -/
def routeRowsUptoRow : OpenClaim := { program := "ytflkbabhbnmajaa", sum := "f1a93f7d79c86c4c93960932345ea887bc5a842484a8e1353e126b0424fe86cf", func := "dunnage/dunnagelaw04.RouteRows", spec := "routeRows", unfollowed := true, recurses := true, apart := false, narrowed := true }
def RouteRowsUptoSaid : Prop := routeRowsUptoRow.holds Try.pinned (OpenSpec.upto routeRowsSpec)

/-- 'dunnagelaw04.RouteFar', WHERE WHAT IT READS IS OF BULK AT MOST 1048576: true; the input reads as it did. -/
def routeFarUptoRow : OpenClaim := { program := "ytflkbabhbnmajaa", sum := "f1a93f7d79c86c4c93960932345ea887bc5a842484a8e1353e126b0424fe86cf", func := "dunnage/dunnagelaw04.RouteFar", spec := "routeFar", unfollowed := true, recurses := true, apart := false, narrowed := true }
def RouteFarUptoSaid : Prop := routeFarUptoRow.holds Try.pinned (OpenSpec.upto routeFarSpec)

/-- 'dunnagelaw04.RouteFirst', WHERE WHAT IT READS IS OF BULK AT MOST 1048576: true; the input reads as it did. -/
def routeFirstUptoRow : OpenClaim := { program := "ytflkbabhbnmajaa", sum := "f1a93f7d79c86c4c93960932345ea887bc5a842484a8e1353e126b0424fe86cf", func := "dunnage/dunnagelaw04.RouteFirst", spec := "routeFirst", unfollowed := true, recurses := true, apart := false, narrowed := true }
def RouteFirstUptoSaid : Prop := routeFirstUptoRow.holds Try.pinned (OpenSpec.upto routeFirstSpec)

/-- 'dunnagelaw04.RouteShortest', WHERE WHAT IT READS IS OF BULK AT MOST 1048576: true; the input reads as it did. -/
def routeShortestUptoRow : OpenClaim := { program := "ytflkbabhbnmajaa", sum := "f1a93f7d79c86c4c93960932345ea887bc5a842484a8e1353e126b0424fe86cf", func := "dunnage/dunnagelaw04.RouteShortest", spec := "routeShortest", unfollowed := true, recurses := true, apart := false, narrowed := true }
def RouteShortestUptoSaid : Prop := routeShortestUptoRow.holds Try.pinned (OpenSpec.upto routeShortestSpec)

/-- 'dunnagelaw04.RouteSpreads', WHERE WHAT IT READS IS OF BULK AT MOST 1048576: true; the input reads as it did. -/
def routeSpreadsUptoRow : OpenClaim := { program := "ytflkbabhbnmajaa", sum := "f1a93f7d79c86c4c93960932345ea887bc5a842484a8e1353e126b0424fe86cf", func := "dunnage/dunnagelaw04.RouteSpreads", spec := "routeSpreads", unfollowed := true, recurses := true, apart := false, narrowed := true }
def RouteSpreadsUptoSaid : Prop := routeSpreadsUptoRow.holds Try.pinned (OpenSpec.upto routeSpreadsSpec)

/-- 'dunnagelaw04.RouteLongest', WHERE WHAT IT READS IS OF BULK AT MOST 1048576: true; the input reads as it did. -/
def routeLongestUptoRow : OpenClaim := { program := "ytflkbabhbnmajaa", sum := "f1a93f7d79c86c4c93960932345ea887bc5a842484a8e1353e126b0424fe86cf", func := "dunnage/dunnagelaw04.RouteLongest", spec := "routeLongest", unfollowed := true, recurses := true, apart := false, narrowed := true }
def RouteLongestUptoSaid : Prop := routeLongestUptoRow.holds Try.pinned (OpenSpec.upto routeLongestSpec)

/-- 'dunnagelaw04.RouteAlone', WHERE WHAT IT READS IS OF BULK AT MOST 1048576: true; the input reads as it did. -/
def routeAloneUptoRow : OpenClaim := { program := "ytflkbabhbnmajaa", sum := "f1a93f7d79c86c4c93960932345ea887bc5a842484a8e1353e126b0424fe86cf", func := "dunnage/dunnagelaw04.RouteAlone", spec := "routeAlone", unfollowed := true, recurses := true, apart := false, narrowed := true }
def RouteAloneUptoSaid : Prop := routeAloneUptoRow.holds Try.pinned (OpenSpec.upto routeAloneSpec)

end Rows
end Go.Proofs.Ytflkbabhbnmajaa
