import Derived.Test.YtahblkeackebaaaGreatDoorZi
import Derived.Test.YtahblkeackebaaaGreatDoorCards
import Derived.Test.YtahblkeackebaaaGreatDoorTie
import Derived.SevenTiedAt
set_option linter.unusedVariables false
set_option linter.unusedSimpArgs false
namespace Go.Proofs.YtahblkeackebaaaGreatDoor
open Go.ChangeShapes Go.WideShapes Go.ChangeAt Go.RowKit Yk
theorem Vp:Rows.deriveDependsRow.wfByText (OpenSpec.ofChange Rows.deriveDependsSpec)=true:=by kernel_rfl
theorem Vq:Tryz.pinned.checked.prog.mainIs=some ((true, "6e1de77bf6a58dba9ed16a71bddf5c6d86bd67ef07e22f1af5e2887d58ef3691").1,(true, "6e1de77bf6a58dba9ed16a71bddf5c6d86bd67ef07e22f1af5e2887d58ef3691").2.toList):=by kernel_rfl
theorem Vr:true=Tryz.pinned.checked.prog.looks []:=by kernel_rfl
theorem Vs:false=Rows.deriveDependsRow.goesBy Tryz.prog:=by kernel_rfl
theorem deriveDepends_card:Rows.DeriveDependsCardSaid:=
 Claim7.holds_tied_plain_at .later [] [.data, .data, .data, .data, .sentinel, .sentinel, .pinned] true (true, "6e1de77bf6a58dba9ed16a71bddf5c6d86bd67ef07e22f1af5e2887d58ef3691") true Vk (fun _ h=>by cases h) Vp (fun _ h=>by cases h) deriveDepends_row_tie rfl ⟨rfl,rfl⟩ Vq rfl
  (fun f fn hf hfn=>by
    obtain rfl:f=5:=zbk ((show Tryz.prog.funcNamed "yardstick/yardsticklaw10.DeriveDepends" =some 5 by kernel_rfl).symm.trans hf)|>.symm
    obtain rfl:fn=Tryz.f5:=(zbk (Tryz.func5.symm.trans hfn)).symm
    exact ⟨Vr,fun j t ht=>by
     rw [Tryz.params5] at ht;have hm:t∈ [27,3,24]:=by simpa using zd8 ht
     have hall:([27,3,24].all fun u=> !Tryz.prog.wantsStandIn u)=true:=by kernel_rfl
     exact (show Tryz.prog.wantsStandIn t=false by simpa using zaf.1 hall t hm)⟩)
  Vs
#print axioms deriveDepends_card
end Go.Proofs.YtahblkeackebaaaGreatDoor
