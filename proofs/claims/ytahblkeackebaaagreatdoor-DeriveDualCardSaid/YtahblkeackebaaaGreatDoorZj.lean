import Derived.Test.YtahblkeackebaaaGreatDoorZi
import Derived.Test.YtahblkeackebaaaGreatDoorCards
import Derived.Test.YtahblkeackebaaaGreatDoorTie
import Derived.SevenTiedAt
set_option linter.unusedVariables false
set_option linter.unusedSimpArgs false
namespace Go.Proofs.YtahblkeackebaaaGreatDoor
open Go.ChangeShapes Go.WideShapes Go.ChangeAt Go.RowKit Yk
theorem Ut:Rows.deriveDualRow.wfByText (OpenSpec.ofChange Rows.deriveDualSpec)=true:=by kernel_rfl
theorem Uu:Tryz.pinned.checked.prog.mainIs=some ((true, "6e1de77bf6a58dba9ed16a71bddf5c6d86bd67ef07e22f1af5e2887d58ef3691").1,(true, "6e1de77bf6a58dba9ed16a71bddf5c6d86bd67ef07e22f1af5e2887d58ef3691").2.toList):=by kernel_rfl
theorem Uv:true=Tryz.pinned.checked.prog.looks []:=by kernel_rfl
theorem Uw:false=Rows.deriveDualRow.goesBy Tryz.prog:=by kernel_rfl
theorem deriveDual_card:Rows.DeriveDualCardSaid:=
 Claim7.holds_tied_plain_at .later [] [.data, .data, .data, .data, .sentinel, .sentinel, .pinned] true (true, "6e1de77bf6a58dba9ed16a71bddf5c6d86bd67ef07e22f1af5e2887d58ef3691") true Uk (fun _ h=>by cases h) Ut (fun _ h=>by cases h) deriveDual_row_tie rfl ⟨rfl,rfl⟩ Uu rfl
  (fun f fn hf hfn=>by
    obtain rfl:f=3:=zbl ((show Tryz.prog.funcNamed "yardstick/yardsticklaw10.DeriveDual" =some 3 by kernel_rfl).symm.trans hf)|>.symm
    obtain rfl:fn=Tryz.f3:=(zbl (Tryz.func3.symm.trans hfn)).symm
    exact ⟨Uv,fun j t ht=>by
     rw [Tryz.params3] at ht;have hm:t∈ [27]:=by simpa using zd9 ht
     have hall:([27].all fun u=> !Tryz.prog.wantsStandIn u)=true:=by kernel_rfl
     exact (show Tryz.prog.wantsStandIn t=false by simpa using zaf.1 hall t hm)⟩)
  Uw
#print axioms deriveDual_card
end Go.Proofs.YtahblkeackebaaaGreatDoor
