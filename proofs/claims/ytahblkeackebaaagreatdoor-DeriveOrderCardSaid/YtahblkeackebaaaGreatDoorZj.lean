import Derived.Test.YtahblkeackebaaaGreatDoorZi
import Derived.Test.YtahblkeackebaaaGreatDoorCards
import Derived.Test.YtahblkeackebaaaGreatDoorTie
import Derived.SevenTiedAt
set_option linter.unusedVariables false
set_option linter.unusedSimpArgs false
namespace Go.Proofs.YtahblkeackebaaaGreatDoor
open Go.ChangeShapes Go.WideShapes Go.ChangeAt Go.RowKit Yk
theorem RF:Rows.deriveOrderRow.wfByText (OpenSpec.ofChange Rows.deriveOrderSpec)=true:=by kernel_rfl
theorem RG:Tryz.pinned.checked.prog.mainIs=some ((true, "6e1de77bf6a58dba9ed16a71bddf5c6d86bd67ef07e22f1af5e2887d58ef3691").1,(true, "6e1de77bf6a58dba9ed16a71bddf5c6d86bd67ef07e22f1af5e2887d58ef3691").2.toList):=by kernel_rfl
theorem RH:true=Tryz.pinned.checked.prog.looks []:=by kernel_rfl
theorem RI:false=Rows.deriveOrderRow.goesBy Tryz.prog:=by kernel_rfl
theorem deriveOrder_card:Rows.DeriveOrderCardSaid:=
 Claim7.holds_tied_plain_at .later [] [.data, .data, .data, .data, .sentinel, .sentinel, .pinned] true (true, "6e1de77bf6a58dba9ed16a71bddf5c6d86bd67ef07e22f1af5e2887d58ef3691") true Rm (fun _ h=>by cases h) RF (fun _ h=>by cases h) deriveOrder_row_tie rfl ⟨rfl,rfl⟩ RG rfl
  (fun f fn hf hfn=>by
    obtain rfl:f=4:=zbl ((show Tryz.prog.funcNamed "yardstick/yardsticklaw10.DeriveOrder" =some 4 by kernel_rfl).symm.trans hf)|>.symm
    obtain rfl:fn=Tryz.f4:=(zbl (Tryz.func4.symm.trans hfn)).symm
    exact ⟨RH,fun j t ht=>by
     rw [Tryz.params4] at ht;have hm:t∈ [27,3,3]:=by simpa using zd9 ht
     have hall:([27,3,3].all fun u=> !Tryz.prog.wantsStandIn u)=true:=by kernel_rfl
     exact (show Tryz.prog.wantsStandIn t=false by simpa using zaf.1 hall t hm)⟩)
  RI
#print axioms deriveOrder_card
end Go.Proofs.YtahblkeackebaaaGreatDoor
