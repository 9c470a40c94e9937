import Derived.Test.YtdbpmmihpmbbdaaGreatDoorZi
import Derived.Test.YtdbpmmihpmbbdaaGreatDoorCards
import Derived.Test.YtdbpmmihpmbbdaaGreatDoorTie
import Derived.SevenTiedAt
set_option linter.unusedVariables false
set_option linter.unusedSimpArgs false
namespace Go.Proofs.YtdbpmmihpmbbdaaGreatDoor
open Go.Proofs.Tryz
open Go.ChangeShapes Go.WideShapes Go.ChangeAt Go.RowKit Yk
theorem Yl:Rows.deriveSimplifyRow.wfByText (OpenSpec.ofChange Rows.deriveSimplifySpec)=true:=by kernel_rfl
theorem Ym:Tryz.pinned.checked.prog.mainIs=some ((true, "fca1050af096126ab51dfcb90556a20147d73f6c92a3e15a00d5a03bf2e8c192").1,(true, "fca1050af096126ab51dfcb90556a20147d73f6c92a3e15a00d5a03bf2e8c192").2.toList):=by kernel_rfl
theorem Yn:true=Tryz.pinned.checked.prog.looks []:=by kernel_rfl
theorem Yo:false=Rows.deriveSimplifyRow.goesBy prog:=by kernel_rfl
theorem deriveSimplify_card:Rows.DeriveSimplifyCardSaid:=
 Claim7.holds_tied_plain_at .later [] [.data, .data, .data, .data, .sentinel, .sentinel, .pinned] true (true, "fca1050af096126ab51dfcb90556a20147d73f6c92a3e15a00d5a03bf2e8c192") true XX (λ_ h=>by cases h) Yl (λ_ h=>by cases h) deriveSimplify_row_tie rfl ⟨rfl,rfl⟩ Ym rfl
  (λf fn hf hfn=>by
    obtain rfl:f=3:=zbl ((show prog.funcNamed "yardstick/yardsticklaw10.DeriveSimplify" =some 3 by kernel_rfl).symm.trans hf)|>.symm
    obtain rfl:fn=f3:=(zbl (func3.symm.trans hfn)).symm
    exact⟨Yn,λj t ht=>by
     rw[params3] at ht;have hm:t∈ [27,3]:=by simpa using zd7 ht
     have hall:([27,3].all λu=> !prog.wantsStandIn u)=true:=by kernel_rfl
     exact(show prog.wantsStandIn t=false by simpa using zaf.1 hall t hm)⟩)
  Yo
#print axioms deriveSimplify_card
end Go.Proofs.YtdbpmmihpmbbdaaGreatDoor
