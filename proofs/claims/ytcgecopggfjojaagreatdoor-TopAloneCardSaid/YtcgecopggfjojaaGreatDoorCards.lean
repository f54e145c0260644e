/-
  DERIVED. GIVEN WITH THE SEED: THE CARDS: each row of YtcgecopggfjojaaGreatDoorRows.lean that lists a variable, with what it lists TIED to the program's text (the seventh form; the later family's looks); each row that meets fmt, with fmt's text TOLD by the authors' own Lean function (tested against real Go, not proved from fmt's source: count such statements apart). THE CARD IS WHAT COUNTS. Prove the row's statement (the work); the ties are given (YtcgecopggfjojaaGreatDoorTie.lean); close each card by the builder's one call (the guide's Derived/Test/ToyasCard.lean, 'card_holds'). Laid BY PROGRAM, IN A SANDBOX (cutbox-door.mjs). By AI agents, Wed Nov 11 2026. No macro, syntax, notation, axiom, sorry.
-/
import Derived.Test.YtcgecopggfjojaaGreatDoorRows
import GoSem.ClaimSeven
namespace Go.Proofs.YtcgecopggfjojaaGreatDoor
namespace Rows

/-- THE TIED CARD OF 'dunnagetop.TopAlone'. -/
def topAloneCard : Claim7 := { stood := { row := topAloneRow, standIns := [], harness := (true, "97b3ccd0a13b989cd589b2d4d8f27e7c4852b5a9d7c4c4e499f16da9a93c4053"), looks := true }, kinds := [], alts := [], laidByText := true, laidKinds := [.data, .widerDeep], laidTests := true, laidLooks := .later }
def TopAloneCardSaid : Prop := Claim7.holds Tryz.pinned (.plain (OpenSpec.ofChange topAloneSpec)) topAloneCard

/-- THE SECOND FORM's CARD OF 'dunnagetop.TopAlone'. -/
def topAloneUptoCard : Claim7 := { stood := { row := topAloneUptoRow, standIns := [], harness := (true, "97b3ccd0a13b989cd589b2d4d8f27e7c4852b5a9d7c4c4e499f16da9a93c4053"), looks := true }, kinds := [], alts := [], laidByText := true, laidKinds := [.data, .widerDeep], laidTests := true, laidLooks := .later }
def TopAloneUptoCardSaid : Prop := Claim7.holds Tryz.pinned (.plain (OpenSpec.upto topAloneSpec)) topAloneUptoCard
end Rows
end Go.Proofs.YtcgecopggfjojaaGreatDoor
