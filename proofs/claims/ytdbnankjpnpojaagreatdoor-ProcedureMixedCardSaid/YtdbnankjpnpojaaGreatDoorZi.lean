import Derived.Test.YtdbnankjpnpojaaGreatDoorZh
import Derived.Test.YtdbnankjpnpojaaGreatDoorCards
import Derived.Test.YtdbnankjpnpojaaGreatDoorTie
import Derived.SevenTiedAt
set_option linter.unusedVariables false
set_option linter.unusedSimpArgs false
namespace Go.Proofs.YtdbnankjpnpojaaGreatDoor
open Go.Proofs.Tryz
open Go.ChangeShapes Go.WideShapes Go.ChangeAt Go.RowKit Yk
theorem acr:Rows.procedureMixedRow.wfByText (OpenSpec.ofChange Rows.procedureMixedSpec)=true:=by kernel_rfl
theorem acs:Tryz.pinned.checked.prog.mainIs=some ((true, "9f1a36e7de2ab6ccd80b4fab6e2b1b59e4f1fe447ed4ba99ec0d72dc669282af").1,(true, "9f1a36e7de2ab6ccd80b4fab6e2b1b59e4f1fe447ed4ba99ec0d72dc669282af").2.toList):=by kernel_rfl
theorem act:true=Tryz.pinned.checked.prog.looks []:=by kernel_rfl
theorem acu:false=Rows.procedureMixedRow.goesBy prog:=by kernel_rfl
theorem procedureMixed_card:Rows.ProcedureMixedCardSaid:=
 Claim7.holds_tied_plain_at .later [] [.data, .data, .data, .data, .sentinel, .sentinel, .sentinel, .pinned] true (true, "9f1a36e7de2ab6ccd80b4fab6e2b1b59e4f1fe447ed4ba99ec0d72dc669282af") true KX (λ_ h=>by cases h) acr (λ_ h=>by cases h) procedureMixed_row_tie rfl ⟨rfl,rfl⟩ acs rfl
  (λf fn hf hfn=>by
    obtain rfl:f=6:=zbk ((show prog.funcNamed "yardstick/yardsticklaw09.ProcedureMixed" =some 6 by kernel_rfl).symm.trans hf)|>.symm
    obtain rfl:fn=f6:=(zbk (func6.symm.trans hfn)).symm
    exact⟨act,λj t ht=>by
     rw[params6] at ht;have hm:t∈ [3,3,3]:=by simpa using zd2 ht
     have hall:([3,3,3].all λu=> !prog.wantsStandIn u)=true:=by kernel_rfl
     exact(show prog.wantsStandIn t=false by simpa using zaf.1 hall t hm)⟩)
  acu
#print axioms procedureMixed_card
end Go.Proofs.YtdbnankjpnpojaaGreatDoor
