import Derived.Test.YtldflkomhbfceaaGreatDoorZi
import Derived.Test.YtldflkomhbfceaaGreatDoorCards
import Derived.Test.YtldflkomhbfceaaGreatDoorTie
import Derived.SevenTiedAt
set_option linter.unusedVariables false
set_option linter.unusedSimpArgs false
namespace Go.Proofs.YtldflkomhbfceaaGreatDoor
open Go.Proofs.Tryz
open Go.ChangeShapes Go.WideShapes Go.ChangeAt Go.RowKit Yk
theorem aub:Rows.procedureNarrowerRow.wfByText (OpenSpec.ofChange Rows.procedureNarrowerSpec)=true:=by kernel_rfl
theorem auc:Tryz.pinned.checked.prog.mainIs=some ((true, "beda82c51995461a6f0bd498ee4aa2662427fad4de2d650e9063b73e8a6001b7").1,(true, "beda82c51995461a6f0bd498ee4aa2662427fad4de2d650e9063b73e8a6001b7").2.toList):=by kernel_rfl
theorem aud:true=Tryz.pinned.checked.prog.looks []:=by kernel_rfl
theorem aue:false=Rows.procedureNarrowerRow.goesBy prog:=by kernel_rfl
theorem procedureNarrower_card:Rows.ProcedureNarrowerCardSaid:=
 Claim7.holds_tied_plain_at .later [] [.data, .data, .data, .data, .sentinel, .sentinel, .sentinel, .pinned] true (true, "beda82c51995461a6f0bd498ee4aa2662427fad4de2d650e9063b73e8a6001b7") true at3 (λ_ h=>by cases h) aub (λ_ h=>by cases h) procedureNarrower_row_tie rfl ⟨rfl,rfl⟩ auc rfl
  (λf fn Z V=>by
    obtain rfl:f=3:=zbk ((show prog.funcNamed "yardstick/yardsticklaw09.ProcedureNarrower" =some 3 by kernel_rfl).symm.trans Z)|>.symm
    obtain rfl:fn=f3:=(zbk (func3.symm.trans V)).symm
    exact⟨aud,λj t Y=>by
     rw[params3] at Y;have hm:t∈ [25,23,26,3,3]:=by simpa using zd3 Y
     have J:([25,23,26,3,3].all λu=> !prog.wantsStandIn u)=true:=by kernel_rfl
     exact(show prog.wantsStandIn t=false by simpa using zaf.1 J t hm)⟩)
  aue
#print axioms procedureNarrower_card
end Go.Proofs.YtldflkomhbfceaaGreatDoor
