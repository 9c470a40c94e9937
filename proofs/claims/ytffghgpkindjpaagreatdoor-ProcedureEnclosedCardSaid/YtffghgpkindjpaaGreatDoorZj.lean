import Derived.Test.YtffghgpkindjpaaGreatDoorZi
import Derived.Test.YtffghgpkindjpaaGreatDoorCards
import Derived.Test.YtffghgpkindjpaaGreatDoorTie
import Derived.SevenTiedAt
set_option linter.unusedVariables false
set_option linter.unusedSimpArgs false
namespace Go.Proofs.YtffghgpkindjpaaGreatDoor
open Go.Proofs.Tryz
open Go.ChangeShapes Go.WideShapes Go.ChangeAt Go.RowKit Yk
theorem apg:Rows.procedureEnclosedRow.wfByText (OpenSpec.ofChange Rows.procedureEnclosedSpec)=true:=by kernel_rfl
theorem aph:Tryz.pinned.checked.prog.mainIs=some ((true, "93ca87a67c61f8548cb2612046e247ea843116019f73599101766a00aac2b8cb").1,(true, "93ca87a67c61f8548cb2612046e247ea843116019f73599101766a00aac2b8cb").2.toList):=by kernel_rfl
theorem api:true=Tryz.pinned.checked.prog.looks []:=by kernel_rfl
theorem apj:false=Rows.procedureEnclosedRow.goesBy prog:=by kernel_rfl
theorem procedureEnclosed_card:Rows.ProcedureEnclosedCardSaid:=
 Claim7.holds_tied_plain_at .later [] [.data, .data, .data, .data, .sentinel, .sentinel, .sentinel, .pinned] true (true, "93ca87a67c61f8548cb2612046e247ea843116019f73599101766a00aac2b8cb") true lw (λ_ h=>by cases h) apg (λ_ h=>by cases h) procedureEnclosed_row_tie rfl ⟨rfl,rfl⟩ aph rfl
  (λf fn hf hfn=>by
    obtain rfl:f=3:=zbk ((show prog.funcNamed "yardstick/yardsticklaw09.ProcedureEnclosed" =some 3 by kernel_rfl).symm.trans hf)|>.symm
    obtain rfl:fn=f3:=(zbk (func3.symm.trans hfn)).symm
    exact⟨api,λj t ht=>by
     rw[params3] at ht;have hm:t∈ [25,23,26,3]:=by simpa using zd3 ht
     have hall:([25,23,26,3].all λu=> !prog.wantsStandIn u)=true:=by kernel_rfl
     exact(show prog.wantsStandIn t=false by simpa using zaf.1 hall t hm)⟩)
  apj
#print axioms procedureEnclosed_card
end Go.Proofs.YtffghgpkindjpaaGreatDoor
