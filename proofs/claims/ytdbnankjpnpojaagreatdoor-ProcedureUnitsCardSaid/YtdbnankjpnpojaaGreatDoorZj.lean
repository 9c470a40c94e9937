import Derived.Test.YtdbnankjpnpojaaGreatDoorZi
import Derived.Test.YtdbnankjpnpojaaGreatDoorCards
import Derived.Test.YtdbnankjpnpojaaGreatDoorTie
import Derived.SevenTiedAt
set_option linter.unusedVariables false
set_option linter.unusedSimpArgs false
namespace Go.Proofs.YtdbnankjpnpojaaGreatDoor
open Go.Proofs.Tryz
open Go.ChangeShapes Go.WideShapes Go.ChangeAt Go.RowKit Yk
theorem anj:Rows.procedureUnitsRow.wfByText (OpenSpec.ofChange Rows.procedureUnitsSpec)=true:=by kernel_rfl
theorem ank:Tryz.pinned.checked.prog.mainIs=some ((true, "9f1a36e7de2ab6ccd80b4fab6e2b1b59e4f1fe447ed4ba99ec0d72dc669282af").1,(true, "9f1a36e7de2ab6ccd80b4fab6e2b1b59e4f1fe447ed4ba99ec0d72dc669282af").2.toList):=by kernel_rfl
theorem anl:true=Tryz.pinned.checked.prog.looks []:=by kernel_rfl
theorem anm:false=Rows.procedureUnitsRow.goesBy prog:=by kernel_rfl
theorem procedureUnits_card:Rows.ProcedureUnitsCardSaid:=
 Claim7.holds_tied_plain_at .later [] [.data, .data, .data, .data, .sentinel, .sentinel, .sentinel, .pinned] true (true, "9f1a36e7de2ab6ccd80b4fab6e2b1b59e4f1fe447ed4ba99ec0d72dc669282af") true ana (λ_ h=>by cases h) anj (λ_ h=>by cases h) procedureUnits_row_tie rfl ⟨rfl,rfl⟩ ank rfl
  (λf fn hf hfn=>by
    obtain rfl:f=4:=zbk ((show prog.funcNamed "yardstick/yardsticklaw09.ProcedureUnits" =some 4 by kernel_rfl).symm.trans hf)|>.symm
    obtain rfl:fn=f4:=(zbk (func4.symm.trans hfn)).symm
    exact⟨anl,λj t ht=>by
     rw[params4] at ht;have hm:t∈ [36,40]:=by simpa using zd2 ht
     have hall:([36,40].all λu=> !prog.wantsStandIn u)=true:=by kernel_rfl
     exact(show prog.wantsStandIn t=false by simpa using zaf.1 hall t hm)⟩)
  anm
#print axioms procedureUnits_card
end Go.Proofs.YtdbnankjpnpojaaGreatDoor
