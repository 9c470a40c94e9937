import Derived.Test.YtojcellmcbnmeaaGreatDoorZi
import Derived.Test.YtojcellmcbnmeaaGreatDoorCards
import Derived.Test.YtojcellmcbnmeaaGreatDoorTie
import Derived.SevenTiedAt
set_option linter.unusedVariables false
set_option linter.unusedSimpArgs false
namespace Go.Proofs.YtojcellmcbnmeaaGreatDoor
open Go.Proofs.Tryz
open Go.ChangeShapes Go.WideShapes Go.ChangeAt Go.RowKit Yk
theorem avO:Rows.procedureEncloseMatchesReferenceRow.wfByText (OpenSpec.ofChange Rows.procedureEncloseMatchesReferenceSpec)=true:=by kernel_rfl
theorem avP:Tryz.pinned.checked.prog.mainIs=some ((true, "f0a58288e2341ca13d1d16c4f96fcda781895e810dd174e72271de611c6dd933").1,(true, "f0a58288e2341ca13d1d16c4f96fcda781895e810dd174e72271de611c6dd933").2.toList):=by kernel_rfl
theorem avQ:true=Tryz.pinned.checked.prog.looks []:=by kernel_rfl
theorem avR:false=Rows.procedureEncloseMatchesReferenceRow.goesBy prog:=by kernel_rfl
theorem procedureEncloseMatchesReference_card:Rows.ProcedureEncloseMatchesReferenceCardSaid:=
 Claim7.holds_tied_plain_at .later [] [.data, .data, .data, .data, .sentinel, .sentinel, .sentinel, .pinned] true (true, "f0a58288e2341ca13d1d16c4f96fcda781895e810dd174e72271de611c6dd933") true lm (λ_ h=>by cases h) avO (λ_ h=>by cases h) procedureEncloseMatchesReference_row_tie rfl ⟨rfl,rfl⟩ avP rfl
  (λf fn V J=>by
    obtain rfl:f=3:=zbk ((show prog.funcNamed "yardstick/yardsticklaw09.ProcedureEncloseMatchesReference" =some 3 by kernel_rfl).symm.trans V)|>.symm
    obtain rfl:fn=f3:=(zbk (func3.symm.trans J)).symm
    exact⟨avQ,λj t N=>by
     rw[params3] at N;have Y:t∈ [25,23,3,3]:=by simpa using zd1 N
     have H:([25,23,3,3].all λu=> !prog.wantsStandIn u)=true:=by kernel_rfl
     exact(show prog.wantsStandIn t=false by simpa using zaf.1 H t Y)⟩)
  avR
#print axioms procedureEncloseMatchesReference_card
end Go.Proofs.YtojcellmcbnmeaaGreatDoor
