import Derived.Test.YtenilpdfpmdhmaaGreatDoorZi
import Derived.Test.YtenilpdfpmdhmaaGreatDoorCards
import Derived.Test.YtenilpdfpmdhmaaGreatDoorTie
import Derived.SevenTiedAt
set_option linter.unusedVariables false
set_option linter.unusedSimpArgs false
namespace Go.Proofs.YtenilpdfpmdhmaaGreatDoor
open Go.ChangeShapes Go.WideShapes Go.ChangeAt Go.RowKit Yk
theorem uJ:Rows.deriveRulesRow.wfByText (OpenSpec.ofChange Rows.deriveRulesSpec)=true:=by kernel_rfl
theorem uK:Tryz.pinned.checked.prog.mainIs=some ((true, "4387ad36c9e2fc21052478127ecba499621e5e56e6a9bd7e6d8455581129f433").1,(true, "4387ad36c9e2fc21052478127ecba499621e5e56e6a9bd7e6d8455581129f433").2.toList):=by kernel_rfl
theorem uL:true=Tryz.pinned.checked.prog.looks []:=by kernel_rfl
theorem uM:false=Rows.deriveRulesRow.goesBy Tryz.prog:=by kernel_rfl
theorem deriveRules_card:Rows.DeriveRulesCardSaid:=
 Claim7.holds_tied_plain_at .later [] [.data, .data, .data, .data, .sentinel, .sentinel, .pinned] true (true, "4387ad36c9e2fc21052478127ecba499621e5e56e6a9bd7e6d8455581129f433") true oS (fun _ h=>by cases h) uJ (fun _ h=>by cases h) deriveRules_row_tie rfl ⟨rfl,rfl⟩ uK rfl
  (fun f fn hf hfn=>by
    obtain rfl:f=8:=Option.some.inj ((show Tryz.prog.funcNamed "yardstick/yardsticklaw10.DeriveRules" =some 8 by kernel_rfl).symm.trans hf)|>.symm
    obtain rfl:fn=Tryz.f8:=(Option.some.inj (Tryz.func8.symm.trans hfn)).symm
    exact ⟨uL,fun j t ht=>by
     rw [Tryz.params8] at ht;have hm:t∈ [3,3,35]:=by simpa using Array.mem_of_getElem? ht
     have hall:([3,3,35].all fun u=> !Tryz.prog.wantsStandIn u)=true:=by kernel_rfl
     exact (show Tryz.prog.wantsStandIn t=false by simpa using List.all_eq_true.1 hall t hm)⟩)
  uM
#print axioms deriveRules_card
end Go.Proofs.YtenilpdfpmdhmaaGreatDoor
