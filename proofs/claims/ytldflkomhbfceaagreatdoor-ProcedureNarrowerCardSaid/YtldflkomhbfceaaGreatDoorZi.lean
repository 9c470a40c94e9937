import Derived.Test.YtldflkomhbfceaaGreatDoorZg
import Derived.Test.YtldflkomhbfceaaGreatDoorZh
import Derived.Test.YtldflkomhbfceaaGreatDoorCards
import Derived.Test.YtldflkomhbfceaaGreatDoorTie
import Derived.SevenTiedAt
set_option linter.unusedVariables false
set_option linter.unusedSimpArgs false
set_option maxRecDepth 100000
namespace Go.Proofs.YtldflkomhbfceaaGreatDoor
open Go.Proofs.Tryz
open Go.ChangeShapes Go.WideShapes Go.ChangeAt Go.RowKit Yk
theorem M0 (os:Os) (started:os.Started) (H:Type) (enc:TypeId×Value->H):
 ReturnsInHanded {} checked os 3 .any (λw args=>(Rows.procedureNarrowerSpec.pre enc prog f3 [] false w args/\laidMetH prog oR w)/\sizedMet enc prog f3 (OpenSpec.ofChange Rows.procedureNarrowerSpec) false w args)
  (Rows.procedureNarrowerSpec.post enc prog f3 false true false false):=by
 refine oQ (C:=checked) (X:=λw _=>laidMetH prog oR w) (λ_ _ _ hh h=>h.of_heap hh) own started (by kernel_rfl) func3
  (ChangeSpec.witness_shaped (enc:=enc) (C:=checked) (os:=os) (X:=λw _=>laidMetH prog oR w) false (World.laidAll prog os oR) #[.agg #[.int .i64 0, .int .i64 0, .int .i64 0, .int .i64 0, .slice none 0 0], .slice none 0 0, .slice none 0 0, .int .i64 0, .int .i64 0] 8 (World.laidAll_os _ _ _)
    (World.shaped_of_ZipB (by kernel_rfl) (by kernel_rfl)) (by kernel_rfl) (by kernel_rfl) (by kernel_rfl)
    (by rw[MakeChecks.laidMetH_plain _ _ _ (by kernel_rfl)];exact laidMet_laidAll _ (by kernel_rfl) (by kernel_rfl))) ?_
 intro W base args ds gs before Y hW hL hsh;have J: ∀(j:Nat) t v,f3.params[j]? =some t->args[j]? =some v->Value.okWide prog W .any base t v:=Y;have hW':=hW;obtain⟨p,q,Z,hV,rfl,_,_⟩:=hW;have hA:DataW.TrodAll enc prog W 0 (λ_=>true) true f3.params.toList args.toList ds p:=Z;have hlt: ∀x∈p,x.block<W.heap.size:=λx hx=>by simpa using hW'.lt x (by simp[hx])
 have hrd: ∀t∈f3.params.toList,prog.readableRec t=true/\t<prog.types.size:=by
  rw[params3];have hall:([25,23,26,3,3].all λu=>prog.readableRec u&&decide (u<prog.types.size))=true:=by kernel_rfl
  intro t ht;have:=zaf.1 hall t (by simpa using ht);simpa using this
 have V:=λW' (hb:Below W.heap.size W W')=>wd (by kernel_rfl) hb _ _ _ _ hrd hlt Z;rw[params3] at hA J;obtain⟨v0,vs0,d0,ds0,p0,q0,hargs,rfl,rfl,h0,r0⟩:=trodAll_cons hA;obtain⟨v1,vs1,d1,ds1,p1,q1,rfl,rfl,rfl,h1,r1⟩:=trodAll_cons r0;obtain⟨v2,vs2,d2,ds2,p2,q2,rfl,rfl,rfl,h2,r2⟩:=trodAll_cons r1;obtain⟨v3,vs3,d3,ds3,p3,q3,rfl,rfl,rfl,h3,r3⟩:=trodAll_cons r2;obtain⟨v4,vs4,d4,ds4,p4,q4,rfl,rfl,rfl,h4,r4⟩:=trodAll_cons r3;obtain⟨rfl,rfl,rfl⟩:=trodAll_nil r4;obtain rfl:args= #[v0,v1,v2,v3,v4]:=by cases args;simp_all
 obtain⟨rfl,rfl⟩:=trodVars_none hV;obtain⟨x0,L0,rfl,b0,k0,m0⟩:=amk underlying25 rfl (by kernel_rfl) ⟨rfl,by kernel_rfl,by kernel_rfl⟩ ⟨rfl,by kernel_rfl,by kernel_rfl⟩ ⟨rfl,by kernel_rfl,underlying23⟩ ⟨by kernel_rfl,by kernel_rfl⟩ (by kernel_rfl) (J 0 25 v0 rfl rfl) h0;obtain⟨x1,L1,rfl,b1,k1,m1⟩:=apJ underlying23 ⟨by kernel_rfl,by kernel_rfl⟩ (J 1 23 v1 rfl rfl) h1;obtain⟨x2,L2,rfl,b2,k2,m2⟩:=open_ints underlying26 ⟨by kernel_rfl,by kernel_rfl⟩ (J 2 26 v2 rfl rfl) h2;obtain⟨x3,rfl,_,_,w3⟩:=open_int underlying3 (J 3 3 v3 rfl rfl) h3;have b3:=ki w3;obtain⟨x4,rfl,_,_,w4⟩:=open_int underlying3 (J 4 3 v4 rfl rfl) h4;have b4:=ki w4;refine Calls.mono (at6 x0 x1 x2 x3 x4 b0 k0 m0 b1 k1 m1 b2 k2 m2 b3 b4 W (aho hsh hL)) λe W' ⟨he,hb⟩=> ?_;subst he;exact⟨_,rfl,_,_,_, [],_, [],hW',trodAll_mk1 (shut_bool underlying4 _),V W' hb,rfl,hb.frame _,λh=>by cases h⟩
theorem at3:Rows.ProcedureNarrowerSaid:=
 OpenClaim.holds_of_wide 3 f3 rfl rfl rfl rfl rfl rfl rfl ⟨rfl,rfl,rfl,rfl,rfl⟩ rfl rfl rfl rfl rfl at9 func3 aua
  (zdx (by kernel_rfl)) (by unfold Func.isWrapper;first|(rw[if_pos (by decide+kernel)];kernel_rfl)|(rw[if_neg (by decide+kernel)];exact⟨rfl,rfl⟩))
  (λos started H enc _=>M0 os started H enc)
end Go.Proofs.YtldflkomhbfceaaGreatDoor
