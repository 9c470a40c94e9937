import Derived.Test.YthngoecanpokhaaGreatDoorZi
import Derived.Test.YthngoecanpokhaaGreatDoorCards
import Derived.Test.YthngoecanpokhaaGreatDoorTie
import Derived.SevenTiedAt
set_option linter.unusedVariables false
set_option linter.unusedSimpArgs false
namespace Go.Proofs.YthngoecanpokhaaGreatDoor
open Go.Proofs.Tryz
open Go.ChangeShapes Go.WideShapes Go.ChangeAt Go.RowKit Yk
theorem aaE:Rows.deriveUnitsRow.wfByText (OpenSpec.ofChange Rows.deriveUnitsSpec)=true:=by kernel_rfl
theorem aaF:Tryz.pinned.checked.prog.mainIs=some ((true, "9bdf1823e5d49ffc62e7b26300fdbeda4c502e774e5ddb60ee68aa2c99b0eee3").1,(true, "9bdf1823e5d49ffc62e7b26300fdbeda4c502e774e5ddb60ee68aa2c99b0eee3").2.toList):=by kernel_rfl
theorem aaG:true=Tryz.pinned.checked.prog.looks []:=by kernel_rfl
theorem aaH:false=Rows.deriveUnitsRow.goesBy prog:=by kernel_rfl
theorem deriveUnits_card:Rows.DeriveUnitsCardSaid:=
 Claim7.holds_tied_plain_at .later [] [.data, .data, .data, .data, .sentinel, .sentinel, .pinned] true (true, "9bdf1823e5d49ffc62e7b26300fdbeda4c502e774e5ddb60ee68aa2c99b0eee3") true ka (λ_ h=>by cases h) aaE (λ_ h=>by cases h) deriveUnits_row_tie rfl ⟨rfl,rfl⟩ aaF rfl
  (λf fn hf hfn=>by
    obtain rfl:f=3:=zbl ((show prog.funcNamed "yardstick/yardsticklaw10.DeriveUnits" =some 3 by kernel_rfl).symm.trans hf)|>.symm
    obtain rfl:fn=f3:=(zbl (func3.symm.trans hfn)).symm
    exact⟨aaG,λj t ht=>by
     rw[params3] at ht;have hm:t∈ [27,3]:=by simpa using zd8 ht
     have hall:([27,3].all λu=> !prog.wantsStandIn u)=true:=by kernel_rfl
     exact(show prog.wantsStandIn t=false by simpa using zaf.1 hall t hm)⟩)
  aaH
#print axioms deriveUnits_card
end Go.Proofs.YthngoecanpokhaaGreatDoor
