/- TopAlone: for every input the law returns true, and each argument reads afterwards as it did before; the two package-level variables that it reads start as the program's text lays them (the card ties them). -/
import Derived.Test.YtcgecopggfjojaaGreatDoorLawTopAloneB
import Derived.Test.YtcgecopggfjojaaGreatDoorTie
import Derived.Test.YtcgecopggfjojaaGreatDoorCards
import Derived.SevenTiedAt
set_option maxRecDepth 100000
set_option linter.all false
set_option maxHeartbeats 0
namespace Go.Proofs.YtcgecopggfjojaaGreatDoor
open Go Go.RowKit Go.ChangeShapes Go.WideShapes Go.ChangeAt
theorem topAloneCard_holds:Rows.TopAloneCardSaid:=
 Claim7.holds_tied_plain_at .later [] [.data, .widerDeep] true (true, "97b3ccd0a13b989cd589b2d4d8f27e7c4852b5a9d7c4c4e499f16da9a93c4053") true
  topAlone_holds (fun _ h=>by cases h) K0 (fun _ h=>by cases h) topAlone_row_tie rfl ⟨rfl,rfl⟩ K0 rfl
  (fun f fn hf hfn=>by
   obtain rfl:f=3:=Option.some.inj ((show Tryz.prog.funcNamed "dunnage/dunnagetop.TopAlone" =some 3 from K0).symm.trans hf)|>.symm
   obtain rfl:fn=Tryz.f3:=(Option.some.inj (Tryz.func3.symm.trans hfn)).symm
   exact⟨K0,fun j t ht=>by
    rw[Tryz.params3] at ht
    have ht2:t=28\/t=22\/t=29\/t=3:=by
     rcases j with _|_|_|_|j<;>simp at ht<;>simp[ht]
    rcases ht2 with rfl|rfl|rfl|rfl
    ·exact(show Tryz.prog.wantsStandIn 28=false from K0)
    ·exact(show Tryz.prog.wantsStandIn 22=false from K0)
    ·exact(show Tryz.prog.wantsStandIn 29=false from K0)
    ·exact(show Tryz.prog.wantsStandIn 3=false from K0)⟩)
  K0
end Go.Proofs.YtcgecopggfjojaaGreatDoor
