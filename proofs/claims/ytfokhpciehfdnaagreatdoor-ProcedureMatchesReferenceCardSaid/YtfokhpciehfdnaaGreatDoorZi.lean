import Derived.Test.YtfokhpciehfdnaaGreatDoorZg
import Derived.Test.YtfokhpciehfdnaaGreatDoorZh
import Derived.Test.YtfokhpciehfdnaaGreatDoorCards
import Derived.Test.YtfokhpciehfdnaaGreatDoorTie
import Derived.SevenTiedAt
set_option linter.unusedVariables false
set_option linter.unusedSimpArgs false
set_option maxRecDepth 100000
namespace Go.Proofs.YtfokhpciehfdnaaGreatDoor
open Go.Proofs.Tryz
open Go.ChangeShapes Go.WideShapes Go.ChangeAt Go.RowKit Yk
theorem arm (os:Os) (started:os.Started) (H:Type) (enc:TypeId×Value->H):
 ReturnsInHanded {} checked os 3 .any (λw args=>(Rows.procedureMatchesReferenceSpec.pre enc prog f3 [] false w args/\laidMetH prog oR w)/\sizedMet enc prog f3 (OpenSpec.ofChange Rows.procedureMatchesReferenceSpec) false w args)
  (Rows.procedureMatchesReferenceSpec.post enc prog f3 false true false false):=by
 refine oQ (C:=checked) (X:=λw _=>laidMetH prog oR w) (λ_ _ _ hh h=>h.of_heap hh) own started (by kernel_rfl) func3
  (ChangeSpec.witness_shaped (enc:=enc) (C:=checked) (os:=os) (X:=λw _=>laidMetH prog oR w) false (World.laidAll prog os oR) #[.agg #[.int .i64 0, .slice none 0 0, .slice none 0 0, .int .i64 0, .int .i64 0, .int .i64 0, .int .i64 0, .int .i64 0, .int .i64 0, .int .i64 0, .int .i64 0, .int .i64 0, .int .i64 0, .int .i64 0, .int .i64 0, .int .i64 0, .int .i64 0, .string .empty, .string .empty, .string .empty, .string .empty, .int .i64 0, .int .i64 0], .agg #[.int .i64 0, .int .i64 0, .int .i64 0, .int .i64 0, .slice none 0 0], .int .i64 0, .agg #[.int .i64 0, .string .empty, .string .empty, .int .i64 0, .int .i64 0, .int .i64 0, .int .i64 0, .int .i64 0, .int .i64 0, .int .i64 0, .int .i64 0, .int .i64 0, .int .i64 0, .int .i64 0, .int .i64 0, .int .i64 0, .int .i64 0, .string .empty, .string .empty, .string .empty, .string .empty, .int .i64 0, .int .i64 0, .int .i64 0, .int .i64 0, .int .i64 0], .agg #[.int .i64 0, .int .i64 0, .int .i64 0, .int .i64 0], .slice none 0 0] 8 (World.laidAll_os _ _ _)
    (World.shaped_of_ZipB (by kernel_rfl) (by kernel_rfl)) (by kernel_rfl) (by kernel_rfl) (by kernel_rfl)
    (by rw[MakeChecks.laidMetH_plain _ _ _ (by kernel_rfl)];exact laidMet_laidAll _ (by kernel_rfl) (by kernel_rfl))) ?_
 intro W base args ds gs before hval0 hW hL hsh;have hval: ∀(j:Nat) t v,f3.params[j]? =some t->args[j]? =some v->Value.okWide prog W .any base t v:=hval0;have hW':=hW;obtain⟨p,q,hA0,hV,rfl,_,_⟩:=hW;have hA:DataW.TrodAll enc prog W 0 (λ_=>true) true f3.params.toList args.toList ds p:=hA0;have hlt: ∀x∈p,x.block<W.heap.size:=λx hx=>by simpa using hW'.lt x (by simp[hx])
 have hrd: ∀t∈f3.params.toList,prog.readableRec t=true/\t<prog.types.size:=by
  rw[params3];have hall:([32,36,3,38,39,40].all λu=>prog.readableRec u&&decide (u<prog.types.size))=true:=by kernel_rfl
  intro t ht;have:=zaf.1 hall t (by simpa using ht);simpa using this
 have hstay:=λW' (hb:Below W.heap.size W W')=>wd (by kernel_rfl) hb _ _ _ _ hrd hlt hA0;rw[params3] at hA hval;obtain⟨v0,vs0,d0,ds0,p0,q0,hargs,rfl,rfl,h0,r0⟩:=trodAll_cons hA;obtain⟨v1,vs1,d1,ds1,p1,q1,rfl,rfl,rfl,h1,r1⟩:=trodAll_cons r0;obtain⟨v2,vs2,d2,ds2,p2,q2,rfl,rfl,rfl,h2,r2⟩:=trodAll_cons r1;obtain⟨v3,vs3,d3,ds3,p3,q3,rfl,rfl,rfl,h3,r3⟩:=trodAll_cons r2;obtain⟨v4,vs4,d4,ds4,p4,q4,rfl,rfl,rfl,h4,r4⟩:=trodAll_cons r3;obtain⟨v5,vs5,d5,ds5,p5,q5,rfl,rfl,rfl,h5,r5⟩:=trodAll_cons r4;obtain⟨rfl,rfl,rfl⟩:=trodAll_nil r5;obtain rfl:args= #[v0,v1,v2,v3,v4,v5]:=by cases args;simp_all
 obtain⟨rfl,rfl⟩:=trodVars_none hV;obtain⟨x0,L0,M0,rfl,b0,k0,m0⟩:=asy underlying32 rfl (by kernel_rfl) ⟨rfl,by kernel_rfl,by kernel_rfl⟩ ⟨rfl,by kernel_rfl,underlying22⟩ ⟨rfl,by kernel_rfl,underlying23⟩ ⟨rfl,by kernel_rfl,by kernel_rfl⟩ ⟨by kernel_rfl,by kernel_rfl⟩ ⟨by kernel_rfl,by kernel_rfl⟩ (by kernel_rfl) (hval 0 32 v0 rfl rfl) h0;obtain⟨x1,L1,rfl,b1,k1,m1⟩:=amk underlying36 rfl (by kernel_rfl) ⟨rfl,by kernel_rfl,by kernel_rfl⟩ ⟨rfl,by kernel_rfl,by kernel_rfl⟩ ⟨rfl,by kernel_rfl,underlying34⟩ ⟨by kernel_rfl,by kernel_rfl⟩ (by kernel_rfl) (hval 1 36 v1 rfl rfl) h1;obtain⟨x2,rfl,_,_,w2⟩:=open_int underlying3 (hval 2 3 v2 rfl rfl) h2;have b2:=ki w2;obtain⟨x3,rfl,b3⟩:=asx (by kernel_rfl) (by kernel_rfl) (hval 3 38 v3 rfl rfl) h3;obtain⟨x40,x41,x42,x43,rfl,b40,b41,b42,b43⟩:=al9 underlying39 underlying3 (by kernel_rfl) (by kernel_rfl) (hval 4 39 v4 rfl rfl) h4;obtain⟨x5,L5,rfl,b5,k5,m5⟩:=open_ints underlying40 ⟨by kernel_rfl,by kernel_rfl⟩ (hval 5 40 v5 rfl rfl) h5;refine Calls.mono (arp x0 x1 x2 x3 x40 x41 x42 x43 x5 b0 k0 m0 b1 k1 m1 b2 b3 b40 b41 b42 b43 b5 k5 m5 W (aho hsh hL)) λe W' ⟨he,hb⟩=> ?_;subst he;exact⟨_,rfl,_,_,_, [],_, [],hW',trodAll_mk1 (shut_bool underlying4 _),hstay W' hb,rfl,hb.frame _,λh=>by cases h⟩
theorem arn:Rows.ProcedureMatchesReferenceSaid:=
 OpenClaim.holds_of_wide 3 f3 rfl rfl rfl rfl rfl rfl rfl ⟨rfl,rfl,rfl,rfl,rfl⟩ rfl rfl rfl rfl rfl arq func3 ars
  (zdv (by kernel_rfl)) (by unfold Func.isWrapper;first|(rw[if_pos (by decide+kernel)];kernel_rfl)|(rw[if_neg (by decide+kernel)];exact⟨rfl,rfl⟩))
  (λos started H enc _=>arm os started H enc)
end Go.Proofs.YtfokhpciehfdnaaGreatDoor
