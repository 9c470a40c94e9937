import Derived.Test.YtdbnankjpnpojaaGreatDoorZl
import Derived.Test.YtdbnankjpnpojaaGreatDoorCards
import Derived.Test.YtdbnankjpnpojaaGreatDoorTie
import Derived.SevenTiedAt
set_option linter.unusedVariables false
set_option linter.unusedSimpArgs false
namespace Go.Proofs.YtdbnankjpnpojaaGreatDoor
open Go.Proofs.Tryz
open Go.ChangeShapes Go.WideShapes Go.ChangeAt Go.RowKit Yk
theorem alz:Rows.procedureBeginningsRow.wfByText (OpenSpec.ofChange Rows.procedureBeginningsSpec)=true:=by kernel_rfl
theorem alA:Tryz.pinned.checked.prog.mainIs=some ((true, "9f1a36e7de2ab6ccd80b4fab6e2b1b59e4f1fe447ed4ba99ec0d72dc669282af").1,(true, "9f1a36e7de2ab6ccd80b4fab6e2b1b59e4f1fe447ed4ba99ec0d72dc669282af").2.toList):=by kernel_rfl
theorem alB:true=Tryz.pinned.checked.prog.looks []:=by kernel_rfl
theorem alC:false=Rows.procedureBeginningsRow.goesBy prog:=by kernel_rfl
theorem procedureBeginnings_card:Rows.ProcedureBeginningsCardSaid:=
 Claim7.holds_tied_plain_at .later [] [.data, .data, .data, .data, .sentinel, .sentinel, .sentinel, .pinned] true (true, "9f1a36e7de2ab6ccd80b4fab6e2b1b59e4f1fe447ed4ba99ec0d72dc669282af") true alp (λ_ h=>by cases h) alz (λ_ h=>by cases h) procedureBeginnings_row_tie rfl ⟨rfl,rfl⟩ alA rfl
  (λf fn hf hfn=>by
    obtain rfl:f=5:=zbk ((show prog.funcNamed "yardstick/yardsticklaw09.ProcedureBeginnings" =some 5 by kernel_rfl).symm.trans hf)|>.symm
    obtain rfl:fn=f5:=(zbk (func5.symm.trans hfn)).symm
    exact⟨alB,λj t ht=>by
     rw[params5] at ht;have hm:t∈ [36,3,3,39]:=by simpa using zd2 ht
     have hall:([36,3,3,39].all λu=> !prog.wantsStandIn u)=true:=by kernel_rfl
     exact(show prog.wantsStandIn t=false by simpa using zaf.1 hall t hm)⟩)
  alC
#print axioms procedureBeginnings_card
end Go.Proofs.YtdbnankjpnpojaaGreatDoor
