import Derived.Test.YtojcellmcbnmeaaGreatDoorZg
import Derived.Test.YtojcellmcbnmeaaGreatDoorZh
import Derived.Test.YtojcellmcbnmeaaGreatDoorCards
import Derived.Test.YtojcellmcbnmeaaGreatDoorTie
import Derived.SevenTiedAt
set_option linter.unusedVariables false
set_option linter.unusedSimpArgs false
set_option maxRecDepth 100000
namespace Go.Proofs.YtojcellmcbnmeaaGreatDoor
open Go.Proofs.Tryz
open Go.ChangeShapes Go.WideShapes Go.ChangeAt Go.RowKit Yk
theorem im (os:Os) (started:os.Started) (H:Type) (enc:TypeId×Value->H):
 ReturnsInHanded {} checked os 3 .any (λw args=>(Rows.procedureEncloseMatchesReferenceSpec.pre enc prog f3 [] false w args/\laidMetH prog oR w)/\sizedMet enc prog f3 (OpenSpec.ofChange Rows.procedureEncloseMatchesReferenceSpec) false w args)
  (Rows.procedureEncloseMatchesReferenceSpec.post enc prog f3 false true false false):=by
 refine oQ (C:=checked) (X:=λw _=>laidMetH prog oR w) (λ_ _ _ hh h=>h.of_heap hh) own started (by kernel_rfl) func3
  (ChangeSpec.witness_shaped (enc:=enc) (C:=checked) (os:=os) (X:=λw _=>laidMetH prog oR w) false (World.laidAll prog os oR) #[.agg #[.int .i64 0, .int .i64 0, .int .i64 0, .int .i64 0, .slice none 0 0], .slice none 0 0, .int .i64 0, .int .i64 0] 8 (World.laidAll_os _ _ _)
    (World.shaped_of_ZipB (by kernel_rfl) (by kernel_rfl)) (by kernel_rfl) (by kernel_rfl) (by kernel_rfl)
    (by rw[MakeChecks.laidMetH_plain _ _ _ (by kernel_rfl)];exact laidMet_laidAll _ (by kernel_rfl) (by kernel_rfl))) ?_
 intro W base args ds gs before V hW hL n0;have J: ∀(j:Nat) t v,f3.params[j]? =some t->args[j]? =some v->Value.okWide prog W .any base t v:=V;have Z:=hW;obtain⟨p,q,Y,hV,rfl,_,_⟩:=hW;have hA:DataW.TrodAll enc prog W 0 (λ_=>true) true f3.params.toList args.toList ds p:=Y;have g0: ∀x∈p,x.block<W.heap.size:=λx hx=>by simpa using Z.lt x (by simp[hx])
 have i0: ∀t∈f3.params.toList,prog.readableRec t=true/\t<prog.types.size:=by
  rw[params3];have a0:([25,23,3,3].all λu=>prog.readableRec u&&decide (u<prog.types.size))=true:=by kernel_rfl
  intro t ht;have:=zaf.1 a0 t (by simpa using ht);simpa using this
 have N:=λW' (hb:Below W.heap.size W W')=>wd (by kernel_rfl) hb _ _ _ _ i0 g0 Y;rw[params3] at hA J;obtain⟨v0,B0,d0,o0,p0,q0,e0,rfl,rfl,h0,r0⟩:=trodAll_cons hA;obtain⟨v1,C0,d1,w0,p1,q1,rfl,rfl,rfl,h1,r1⟩:=trodAll_cons r0;obtain⟨v2,E0,d2,y0,p2,q2,rfl,rfl,rfl,h2,r2⟩:=trodAll_cons r1;obtain⟨v3,H0,d3,z0,p3,q3,rfl,rfl,rfl,h3,r3⟩:=trodAll_cons r2;obtain⟨rfl,rfl,rfl⟩:=trodAll_nil r3;obtain rfl:args= #[v0,v1,v2,v3]:=by cases args;simp_all
 obtain⟨rfl,rfl⟩:=trodVars_none hV;obtain⟨x0,L0,rfl,b0,k0,m0⟩:=amk underlying25 rfl (by kernel_rfl) ⟨rfl,by kernel_rfl,by kernel_rfl⟩ ⟨rfl,by kernel_rfl,by kernel_rfl⟩ ⟨rfl,by kernel_rfl,underlying23⟩ ⟨by kernel_rfl,by kernel_rfl⟩ (by kernel_rfl) (J 0 25 v0 rfl rfl) h0;obtain⟨x1,L1,rfl,b1,k1,m1⟩:=apJ underlying23 ⟨by kernel_rfl,by kernel_rfl⟩ (J 1 23 v1 rfl rfl) h1;obtain⟨x2,rfl,_,_,w2⟩:=open_int underlying3 (J 2 3 v2 rfl rfl) h2;have b2:=ki w2;obtain⟨x3,rfl,_,_,w3⟩:=open_int underlying3 (J 3 3 v3 rfl rfl) h3;have b3:=ki w3;refine Calls.mono (sc x0 x1 x2 x3 b0 k0 m0 b1 k1 m1 b2 b3 W (aho n0 hL)) λe W' ⟨he,hb⟩=> ?_;subst he;exact⟨_,rfl,_,_,_, [],_, [],Z,trodAll_mk1 (shut_bool underlying4 _),N W' hb,rfl,hb.frame _,λh=>by cases h⟩
theorem lm:Rows.ProcedureEncloseMatchesReferenceSaid:=
 OpenClaim.holds_of_wide 3 f3 rfl rfl rfl rfl rfl rfl rfl ⟨rfl,rfl,rfl,rfl,rfl⟩ rfl rfl rfl rfl rfl ad1 func3 ad2
  (zdu (by kernel_rfl)) (by unfold Func.isWrapper;first|(rw[if_pos (by decide+kernel)];kernel_rfl)|(rw[if_neg (by decide+kernel)];exact⟨rfl,rfl⟩))
  (λos started H enc _=>im os started H enc)
end Go.Proofs.YtojcellmcbnmeaaGreatDoor
