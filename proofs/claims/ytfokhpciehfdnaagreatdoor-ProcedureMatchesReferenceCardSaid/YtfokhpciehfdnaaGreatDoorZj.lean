import Derived.Test.YtfokhpciehfdnaaGreatDoorZi
import Derived.Test.YtfokhpciehfdnaaGreatDoorCards
import Derived.Test.YtfokhpciehfdnaaGreatDoorTie
import Derived.SevenTiedAt
set_option linter.unusedVariables false
set_option linter.unusedSimpArgs false
namespace Go.Proofs.YtfokhpciehfdnaaGreatDoor
open Go.Proofs.Tryz
open Go.ChangeShapes Go.WideShapes Go.ChangeAt Go.RowKit Yk
theorem art:Rows.procedureMatchesReferenceRow.wfByText (OpenSpec.ofChange Rows.procedureMatchesReferenceSpec)=true:=by kernel_rfl
theorem aru:Tryz.pinned.checked.prog.mainIs=some ((true, "263b350ae1bf2edf788222f1f4bfdec9c798e72baef0bd73e50f49e8d40b6a06").1,(true, "263b350ae1bf2edf788222f1f4bfdec9c798e72baef0bd73e50f49e8d40b6a06").2.toList):=by kernel_rfl
theorem arv:true=Tryz.pinned.checked.prog.looks []:=by kernel_rfl
theorem arw:false=Rows.procedureMatchesReferenceRow.goesBy prog:=by kernel_rfl
theorem procedureMatchesReference_card:Rows.ProcedureMatchesReferenceCardSaid:=
 Claim7.holds_tied_plain_at .later [] [.data, .data, .data, .data, .sentinel, .sentinel, .sentinel, .pinned] true (true, "263b350ae1bf2edf788222f1f4bfdec9c798e72baef0bd73e50f49e8d40b6a06") true arn (λ_ h=>by cases h) art (λ_ h=>by cases h) procedureMatchesReference_row_tie rfl ⟨rfl,rfl⟩ aru rfl
  (λf fn hf hfn=>by
    obtain rfl:f=3:=zbk ((show prog.funcNamed "yardstick/yardsticklaw09.ProcedureMatchesReference" =some 3 by kernel_rfl).symm.trans hf)|>.symm
    obtain rfl:fn=f3:=(zbk (func3.symm.trans hfn)).symm
    exact⟨arv,λj t ht=>by
     rw[params3] at ht;have hm:t∈ [32,36,3,38,39,40]:=by simpa using zd2 ht
     have hall:([32,36,3,38,39,40].all λu=> !prog.wantsStandIn u)=true:=by kernel_rfl
     exact(show prog.wantsStandIn t=false by simpa using zaf.1 hall t hm)⟩)
  arw
#print axioms procedureMatchesReference_card
end Go.Proofs.YtfokhpciehfdnaaGreatDoor
