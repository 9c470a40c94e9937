import Derived.Test.YtdjfpjmijhjmpaaGreatDoorZi
import Derived.Test.YtdjfpjmijhjmpaaGreatDoorCards
import Derived.Test.YtdjfpjmijhjmpaaGreatDoorTie
import Derived.SevenTiedAt
set_option linter.unusedVariables false
set_option linter.unusedSimpArgs false
namespace Go.Proofs.YtdjfpjmijhjmpaaGreatDoor
open Go.Proofs.Tryz
open Go.ChangeShapes Go.WideShapes Go.ChangeAt Go.RowKit Yk
theorem aG6:Rows.planTextMatchesReferenceRow.wfByText (OpenSpec.ofChange Rows.planTextMatchesReferenceSpec)=true:=by kernel_rfl
theorem aG7:Tryz.pinned.checked.prog.mainIs=some ((true, "dcea006fbfd642c442db4db7f388d0f54be81f02d623bf586508eb5c2cb9bbf0").1,(true, "dcea006fbfd642c442db4db7f388d0f54be81f02d623bf586508eb5c2cb9bbf0").2.toList):=by kernel_rfl
theorem aG8:true=Tryz.pinned.checked.prog.looks []:=by kernel_rfl
theorem aGW {P:Go.Program} {c:Go.OpenClaim} (h:P.funcs.any Go.Func.goes=false) (N:c.start= .entering):false=c.goesBy P:=by
 have hg: ∀g:Nat,(P.funcs[g]?).any Go.Func.goes=false:=λg=>by
  cases e:P.funcs[g]? with
  |none=>rfl
  |some fn=>
   rw[Array.any_eq_false] at h;obtain⟨H,rfl⟩:=zaq.1 e;simpa using h g H
 have J: ∀f,P.goes f=false:=λf=>by
  unfold Go.Program.goes;rw[h,Bool.and_false,Bool.or_false];simp[hg]
 unfold Go.OpenClaim.goesBy Go.Program.goesAt Go.Program.goesFrom;rw[N];cases P.funcNamed c.func<;>simp[J]
theorem aG9:prog.funcs.any Go.Func.goes=false:=by kernel_rfl
theorem aHa:false=Rows.planTextMatchesReferenceRow.goesBy prog:=aGW aG9 rfl
theorem planTextMatchesReference_card:Rows.PlanTextMatchesReferenceCardSaid:=
 Claim7.holds_tied_plain_at .later [] [.data, .data, .data, .data, .data, .data, .data, .sentinel, .sentinel, .sentinel, .sentinel, .sentinel, .pinned] true (true, "dcea006fbfd642c442db4db7f388d0f54be81f02d623bf586508eb5c2cb9bbf0") true aG2 (λ_ h=>by cases h) aG6 (λ_ h=>by cases h) planTextMatchesReference_row_tie rfl ⟨rfl,rfl⟩ aG7 rfl
  (λf fn Y J=>by
    obtain rfl:f=3:=zbk ((show prog.funcNamed "yardstick/yardsticklaw11.PlanTextMatchesReference" =some 3 by kernel_rfl).symm.trans Y)|>.symm
    obtain rfl:fn=f3:=(zbk (func3.symm.trans J)).symm
    exact⟨aG8,λj t N=>by
     rw[params3] at N;have hm:t∈ [9,22,3,5]:=by simpa using zd2 N
     have H:([9,22,3,5].all λu=> !prog.wantsStandIn u)=true:=by kernel_rfl
     exact(show prog.wantsStandIn t=false by simpa using zaf.1 H t hm)⟩)
  aHa
#print axioms planTextMatchesReference_card
end Go.Proofs.YtdjfpjmijhjmpaaGreatDoor
