import Derived.Test.YtdjfpjmijhjmpaaGreatDoorZg
import Derived.Test.YtdjfpjmijhjmpaaGreatDoorZh
import Derived.Test.YtdjfpjmijhjmpaaGreatDoorCards
import Derived.Test.YtdjfpjmijhjmpaaGreatDoorTie
import Derived.SevenTiedAt
set_option linter.unusedVariables false
set_option linter.unusedSimpArgs false
set_option maxRecDepth 100000
namespace Go.Proofs.YtdjfpjmijhjmpaaGreatDoor
open Go.Proofs.Tryz
open Go.ChangeShapes Go.WideShapes Go.ChangeAt Go.RowKit Yk
theorem aG1 (os:Os) (started:os.Started) (H:Type) (enc:TypeId×Value->H):
 ReturnsInHanded {} checked os 3 .any (λw args=>(Rows.planTextMatchesReferenceSpec.pre enc prog f3 [] false w args/\laidMetH prog oR w)/\sizedMet enc prog f3 (OpenSpec.ofChange Rows.planTextMatchesReferenceSpec) false w args)
  (Rows.planTextMatchesReferenceSpec.post enc prog f3 false true false false):=by
 refine oQ (C:=checked) (X:=λw _=>laidMetH prog oR w) (λ_ _ _ hh h=>h.of_heap hh) own started (by kernel_rfl) func3
  (ChangeSpec.witness_shaped (enc:=enc) (C:=checked) (os:=os) (X:=λw _=>laidMetH prog oR w) false (World.laidAll prog os oR) #[.string .empty, .slice none 0 0, .int .i64 0, .int .u8 0] 8 (World.laidAll_os _ _ _)
    (World.shaped_of_ZipB (by kernel_rfl) (by kernel_rfl)) (by kernel_rfl) (by kernel_rfl) (by kernel_rfl)
    (by rw[MakeChecks.laidMetH_plain _ _ _ (by kernel_rfl)];exact laidMet_laidAll _ (by kernel_rfl) (by kernel_rfl))) ?_
 intro W base args ds gs before Y hW hL n0;have J: ∀(j:Nat) t v,f3.params[j]? =some t->args[j]? =some v->Value.okWide prog W .any base t v:=Y;have e0:=hW;obtain⟨p,q,a0,hV,rfl,_,_⟩:=hW;have hA:DataW.TrodAll enc prog W 0 (λ_=>true) true f3.params.toList args.toList ds p:=a0;have j0: ∀x∈p,x.block<W.heap.size:=λx hx=>by simpa using e0.lt x (by simp[hx])
 have l0: ∀t∈f3.params.toList,prog.readableRec t=true/\t<prog.types.size:=by
  rw[params3];have g0:([9,22,3,5].all λu=>prog.readableRec u&&decide (u<prog.types.size))=true:=by kernel_rfl
  intro t ht;have:=zaf.1 g0 t (by simpa using ht);simpa using this
 have N:=λW' (hb:Below W.heap.size W W')=>aFQ (by kernel_rfl) hb _ _ _ _ l0 j0 a0;rw[params3] at hA J;obtain⟨v0,z0,d0,o0,p0,q0,i0,rfl,rfl,h0,r0⟩:=trodAll_cons hA;obtain⟨v1,B0,d1,u0,p1,q1,rfl,rfl,rfl,h1,r1⟩:=trodAll_cons r0;obtain⟨v2,C0,d2,w0,p2,q2,rfl,rfl,rfl,h2,r2⟩:=trodAll_cons r1;obtain⟨v3,E0,d3,y0,p3,q3,rfl,rfl,rfl,h3,r3⟩:=trodAll_cons r2;obtain⟨rfl,rfl,rfl⟩:=trodAll_nil r3;obtain rfl:args= #[v0,v1,v2,v3]:=by cases args;simp_all
 obtain⟨rfl,rfl⟩:=trodVars_none hV;obtain⟨x0,rfl,b0⟩:=aGg underlying9 (J 0 9 v0 rfl rfl) h0;obtain⟨x1,L1,rfl,b1,k1,m1⟩:=aEC underlying22 ⟨by kernel_rfl,by kernel_rfl⟩ (J 1 22 v1 rfl rfl) h1;obtain⟨x2,rfl,_,_,w2⟩:=open_int underlying3 (J 2 3 v2 rfl rfl) h2;have b2:=ki w2;obtain⟨x3,rfl,b3⟩:=aF7 underlying5 (J 3 5 v3 rfl rfl) h3;refine Calls.mono (aHi x0 x1 x2 x3 b0 b1 k1 m1 b2 b3 W (aGf n0 hL)) λe W' ⟨he,hb⟩=> ?_;subst he;exact⟨_,rfl,_,_,_, [],_, [],e0,trodAll_mk1 (shut_bool underlying4 _),N W' hb,rfl,hb.frame _,λh=>by cases h⟩
theorem aG2:Rows.PlanTextMatchesReferenceSaid:=
 OpenClaim.holds_of_wide 3 f3 rfl rfl rfl rfl rfl rfl rfl ⟨rfl,rfl,rfl,rfl,rfl⟩ rfl rfl rfl rfl rfl aG4 func3 aG5
  (zdv (by kernel_rfl)) (by unfold Func.isWrapper;first|(rw[if_pos (by decide+kernel)];kernel_rfl)|(rw[if_neg (by decide+kernel)];exact⟨rfl,rfl⟩))
  (λos started H enc _=>aG1 os started H enc)
end Go.Proofs.YtdjfpjmijhjmpaaGreatDoor
