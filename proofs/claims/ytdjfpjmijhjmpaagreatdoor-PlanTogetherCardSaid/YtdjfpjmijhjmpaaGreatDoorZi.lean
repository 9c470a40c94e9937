import Derived.Test.YtdjfpjmijhjmpaaGreatDoorZg
import Derived.Test.YtdjfpjmijhjmpaaGreatDoorZh
import Derived.Test.YtdjfpjmijhjmpaaGreatDoorCards
import Derived.Test.YtdjfpjmijhjmpaaGreatDoorTie
import Derived.SevenTiedAt
set_option linter.unusedVariables false
set_option linter.unusedSimpArgs false
set_option maxRecDepth 100000
namespace Go.Proofs.YtdjfpjmijhjmpaaGreatDoor
open Go.Proofs.Tryz
open Go.ChangeShapes Go.WideShapes Go.ChangeAt Go.RowKit Yk
theorem aI0 (os:Os) (started:os.Started) (H:Type) (enc:TypeId×Value->H):
 ReturnsInHanded {} checked os 4 .any (λw args=>(Rows.planTogetherSpec.pre enc prog f4 [] false w args/\laidMetH prog aIX w)/\sizedMet enc prog f4 (OpenSpec.ofChange Rows.planTogetherSpec) false w args)
  (Rows.planTogetherSpec.post enc prog f4 false true false false):=by
 refine oQ (C:=checked) (X:=λw _=>laidMetH prog aIX w) (λ_ _ _ hh h=>h.of_heap hh) own started (by kernel_rfl) func4
  (ChangeSpec.witness_shaped (enc:=enc) (C:=checked) (os:=os) (X:=λw _=>laidMetH prog aIX w) false (World.laidAll prog os aIX) #[.slice none 0 0, .slice none 0 0, .int .i64 0, .int .u8 0, .agg #[.int .i64 0, .int .i64 0, .int .i64 0, .int .i64 0, .slice none 0 0, .int .i64 0, .int .i64 0, .int .i64 0, .int .i64 0, .int .i64 0, .int .i64 0, .int .i64 0, .int .i64 0, .int .i64 0, .int .i64 0, .int .i64 0, .int .i64 0, .int .i64 0, .int .i64 0, .int .i64 0, .int .i64 0, .int .i64 0, .int .i64 0, .int .i64 0, .int .i64 0, .int .i64 0, .int .i64 0, .int .i64 0, .int .i64 0, .int .i64 0, .int .i64 0, .int .i64 0, .int .i64 0, .int .i64 0, .int .i64 0, .int .i64 0, .int .i64 0, .int .i64 0]] 8 (World.laidAll_os _ _ _)
    (World.shaped_of_ZipB (by kernel_rfl) (by kernel_rfl)) (by kernel_rfl) (by kernel_rfl) (by kernel_rfl)
    (by rw[MakeChecks.laidMetH_plain _ _ _ (by kernel_rfl)];exact laidMet_laidAll _ (by kernel_rfl) (by kernel_rfl))) ?_
 intro W base args ds gs before Y hW hL n0;have J: ∀(j:Nat) t v,f4.params[j]? =some t->args[j]? =some v->Value.okWide prog W .any base t v:=Y;have e0:=hW;obtain⟨p,q,a0,hV,rfl,_,_⟩:=hW;have hA:DataW.TrodAll enc prog W 0 (λ_=>true) true f4.params.toList args.toList ds p:=a0;have j0: ∀x∈p,x.block<W.heap.size:=λx hx=>by simpa using e0.lt x (by simp[hx])
 have l0: ∀t∈f4.params.toList,prog.readableRec t=true/\t<prog.types.size:=by
  rw[params4];have g0:([22,22,3,5,40].all λu=>prog.readableRec u&&decide (u<prog.types.size))=true:=by kernel_rfl
  intro t ht;have:=zaf.1 g0 t (by simpa using ht);simpa using this
 have N:=λW' (hb:Below W.heap.size W W')=>aFQ (by kernel_rfl) hb _ _ _ _ l0 j0 a0;rw[params4] at hA J;obtain⟨v0,B0,d0,o0,p0,q0,i0,rfl,rfl,h0,r0⟩:=trodAll_cons hA;obtain⟨v1,C0,d1,u0,p1,q1,rfl,rfl,rfl,h1,r1⟩:=trodAll_cons r0;obtain⟨v2,E0,d2,w0,p2,q2,rfl,rfl,rfl,h2,r2⟩:=trodAll_cons r1;obtain⟨v3,H0,d3,y0,p3,q3,rfl,rfl,rfl,h3,r3⟩:=trodAll_cons r2;obtain⟨v4,I0,d4,z0,p4,q4,rfl,rfl,rfl,h4,r4⟩:=trodAll_cons r3;obtain⟨rfl,rfl,rfl⟩:=trodAll_nil r4;obtain rfl:args= #[v0,v1,v2,v3,v4]:=by cases args;simp_all
 obtain⟨rfl,rfl⟩:=trodVars_none hV;obtain⟨x0,L0,rfl,b0,k0,m0⟩:=aEC underlying22 ⟨by kernel_rfl,by kernel_rfl⟩ (J 0 22 v0 rfl rfl) h0;obtain⟨x1,L1,rfl,b1,k1,m1⟩:=aEC underlying22 ⟨by kernel_rfl,by kernel_rfl⟩ (J 1 22 v1 rfl rfl) h1;obtain⟨x2,rfl,_,_,w2⟩:=open_int underlying3 (J 2 3 v2 rfl rfl) h2;have b2:=ki w2;obtain⟨x3,rfl,b3⟩:=aF7 underlying5 (J 3 5 v3 rfl rfl) h3;obtain⟨x4,y4,L4,rfl,b4,k4⟩:=aKC underlying40 rfl (by kernel_rfl) (⟨rfl,by kernel_rfl,by kernel_rfl⟩) (⟨rfl,by kernel_rfl,by kernel_rfl⟩) ⟨rfl,by kernel_rfl,underlying36⟩ (⟨rfl,by kernel_rfl,by kernel_rfl⟩) (⟨rfl,by kernel_rfl,by kernel_rfl⟩) (⟨rfl,by kernel_rfl,by kernel_rfl⟩) (⟨rfl,by kernel_rfl,by kernel_rfl⟩) (⟨rfl,by kernel_rfl,by kernel_rfl⟩) ⟨by kernel_rfl,by kernel_rfl⟩ (by kernel_rfl) (J 4 40 v4 rfl rfl) h4;refine Calls.mono (aJh x0 x1 x2 x3 x4 y4 b0 k0 m0 b1 k1 m1 b2 b3 b4 k4 W (aLh n0 hL)) λe W' ⟨he,hb⟩=> ?_;subst he;exact⟨_,rfl,_,_,_, [],_, [],e0,trodAll_mk1 (shut_bool underlying4 _),N W' hb,rfl,hb.frame _,λh=>by cases h⟩
theorem aI5:Rows.PlanTogetherSaid:=
 OpenClaim.holds_of_wide 4 f4 rfl rfl rfl rfl rfl rfl rfl ⟨rfl,rfl,rfl,rfl,rfl⟩ rfl rfl rfl rfl rfl aJC func4 aJD
  (zdu (by kernel_rfl)) (by unfold Func.isWrapper;first|(rw[if_pos (by decide+kernel)];kernel_rfl)|(rw[if_neg (by decide+kernel)];exact⟨rfl,rfl⟩))
  (λos started H enc _=>aI0 os started H enc)
end Go.Proofs.YtdjfpjmijhjmpaaGreatDoor
