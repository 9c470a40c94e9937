import Derived.Test.YtdjfpjmijhjmpaaGreatDoorZi
import Derived.Test.YtdjfpjmijhjmpaaGreatDoorCards
import Derived.Test.YtdjfpjmijhjmpaaGreatDoorTie
import Derived.SevenTiedAt
set_option linter.unusedVariables false
set_option linter.unusedSimpArgs false
namespace Go.Proofs.YtdjfpjmijhjmpaaGreatDoor
open Go.Proofs.Tryz
open Go.ChangeShapes Go.WideShapes Go.ChangeAt Go.RowKit Yk
theorem aJE:Rows.planTogetherRow.wfByText (OpenSpec.ofChange Rows.planTogetherSpec)=true:=by kernel_rfl
theorem aJF:Tryz.pinned.checked.prog.mainIs=some ((true, "dcea006fbfd642c442db4db7f388d0f54be81f02d623bf586508eb5c2cb9bbf0").1,(true, "dcea006fbfd642c442db4db7f388d0f54be81f02d623bf586508eb5c2cb9bbf0").2.toList):=by kernel_rfl
theorem aJG:true=Tryz.pinned.checked.prog.looks []:=by kernel_rfl
theorem aGW {P:Go.Program} {c:Go.OpenClaim} (h:P.funcs.any Go.Func.goes=false) (N:c.start= .entering):false=c.goesBy P:=by
 have hg: ∀g:Nat,(P.funcs[g]?).any Go.Func.goes=false:=λg=>by
  cases e:P.funcs[g]? with
  |none=>rfl
  |some fn=>
   rw[Array.any_eq_false] at h;obtain⟨H,rfl⟩:=zaq.1 e;simpa using h g H
 have J: ∀f,P.goes f=false:=λf=>by
  unfold Go.Program.goes;rw[h,Bool.and_false,Bool.or_false];simp[hg]
 unfold Go.OpenClaim.goesBy Go.Program.goesAt Go.Program.goesFrom;rw[N];cases P.funcNamed c.func<;>simp[J]
theorem aJH:prog.funcs.any Go.Func.goes=false:=by kernel_rfl
theorem aJI:false=Rows.planTogetherRow.goesBy prog:=aGW aJH rfl
theorem planTogether_card:Rows.PlanTogetherCardSaid:=
 Claim7.holds_tied_plain_at .later [] [.data, .data, .data, .data, .data, .data, .sentinel, .sentinel, .sentinel, .sentinel, .sentinel, .pinned] true (true, "dcea006fbfd642c442db4db7f388d0f54be81f02d623bf586508eb5c2cb9bbf0") true aI5 (λ_ h=>by cases h) aJE (λ_ h=>by cases h) planTogether_row_tie rfl ⟨rfl,rfl⟩ aJF rfl
  (λf fn Y J=>by
    obtain rfl:f=4:=zbj ((show prog.funcNamed "yardstick/yardsticklaw11.PlanTogether" =some 4 by kernel_rfl).symm.trans Y)|>.symm
    obtain rfl:fn=f4:=(zbj (func4.symm.trans J)).symm
    exact⟨aJG,λj t N=>by
     rw[params4] at N;have hm:t∈ [22,22,3,5,40]:=by simpa using zd1 N
     have H:([22,22,3,5,40].all λu=> !prog.wantsStandIn u)=true:=by kernel_rfl
     exact(show prog.wantsStandIn t=false by simpa using zaf.1 H t hm)⟩)
  aJI
#print axioms planTogether_card
end Go.Proofs.YtdjfpjmijhjmpaaGreatDoor
