import Derived.Test.YtdjfpjmijhjmpaaGreatDoorZh
import Derived.Test.YtdjfpjmijhjmpaaGreatDoorCards
import Derived.Test.YtdjfpjmijhjmpaaGreatDoorTie
import Derived.SevenTiedAt
set_option linter.unusedVariables false
set_option linter.unusedSimpArgs false
namespace Go.Proofs.YtdjfpjmijhjmpaaGreatDoor
open Go.Proofs.Tryz
open Go.ChangeShapes Go.WideShapes Go.ChangeAt Go.RowKit Yk
theorem aFF:Rows.planRoundTripRow.wfByText (OpenSpec.ofChange Rows.planRoundTripSpec)=true:=by kernel_rfl
theorem aFG:Tryz.pinned.checked.prog.mainIs=some ((true, "dcea006fbfd642c442db4db7f388d0f54be81f02d623bf586508eb5c2cb9bbf0").1,(true, "dcea006fbfd642c442db4db7f388d0f54be81f02d623bf586508eb5c2cb9bbf0").2.toList):=by kernel_rfl
theorem aFH:true=Tryz.pinned.checked.prog.looks []:=by kernel_rfl
theorem aGW {P:Go.Program} {c:Go.OpenClaim} (h:P.funcs.any Go.Func.goes=false) (N:c.start= .entering):false=c.goesBy P:=by
 have hg: ∀g:Nat,(P.funcs[g]?).any Go.Func.goes=false:=λg=>by
  cases e:P.funcs[g]? with
  |none=>rfl
  |some fn=>
   rw[Array.any_eq_false] at h;obtain⟨H,rfl⟩:=zaq.1 e;simpa using h g H
 have J: ∀f,P.goes f=false:=λf=>by
  unfold Go.Program.goes;rw[h,Bool.and_false,Bool.or_false];simp[hg]
 unfold Go.OpenClaim.goesBy Go.Program.goesAt Go.Program.goesFrom;rw[N];cases P.funcNamed c.func<;>simp[J]
theorem aGV:prog.funcs.any Go.Func.goes=false:=by kernel_rfl
theorem aFI:false=Rows.planRoundTripRow.goesBy prog:=aGW aGV rfl
theorem planRoundTrip_card:Rows.PlanRoundTripCardSaid:=
 Claim7.holds_tied_plain_at .later [] [.data, .data, .data, .data, .data, .data, .data, .sentinel, .sentinel, .sentinel, .sentinel, .sentinel, .pinned] true (true, "dcea006fbfd642c442db4db7f388d0f54be81f02d623bf586508eb5c2cb9bbf0") true aFy (λ_ h=>by cases h) aFF (λ_ h=>by cases h) planRoundTrip_row_tie rfl ⟨rfl,rfl⟩ aFG rfl
  (λf fn Y J=>by
    obtain rfl:f=5:=zbk ((show prog.funcNamed "yardstick/yardsticklaw11.PlanRoundTrip" =some 5 by kernel_rfl).symm.trans Y)|>.symm
    obtain rfl:fn=f5:=(zbk (func5.symm.trans J)).symm
    exact⟨aFH,λj t N=>by
     rw[params5] at N;have hm:t∈ [9,22,3,5]:=by simpa using zd1 N
     have H:([9,22,3,5].all λu=> !prog.wantsStandIn u)=true:=by kernel_rfl
     exact(show prog.wantsStandIn t=false by simpa using zaf.1 H t hm)⟩)
  aFI
#print axioms planRoundTrip_card
end Go.Proofs.YtdjfpjmijhjmpaaGreatDoor
