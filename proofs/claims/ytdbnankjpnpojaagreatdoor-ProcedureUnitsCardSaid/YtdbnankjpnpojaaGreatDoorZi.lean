import Derived.Test.YtdbnankjpnpojaaGreatDoorZg
import Derived.Test.YtdbnankjpnpojaaGreatDoorZh
import Derived.Test.YtdbnankjpnpojaaGreatDoorCards
import Derived.Test.YtdbnankjpnpojaaGreatDoorTie
import Derived.SevenTiedAt
set_option linter.unusedVariables false
set_option linter.unusedSimpArgs false
set_option maxRecDepth 100000
namespace Go.Proofs.YtdbnankjpnpojaaGreatDoor
open Go.Proofs.Tryz
open Go.ChangeShapes Go.WideShapes Go.ChangeAt Go.RowKit Yk
theorem am7 (os:Os) (started:os.Started) (H:Type) (enc:TypeId×Value->H):
 ReturnsInHanded {} checked os 4 .any (λw args=>(Rows.procedureUnitsSpec.pre enc prog f4 [] false w args/\laidMetH prog oR w)/\sizedMet enc prog f4 (OpenSpec.ofChange Rows.procedureUnitsSpec) false w args)
  (Rows.procedureUnitsSpec.post enc prog f4 false true false false):=by
 refine oQ (C:=checked) (X:=λw _=>laidMetH prog oR w) (λ_ _ _ hh h=>h.of_heap hh) own started (by kernel_rfl) func4
  (ChangeSpec.witness_shaped (enc:=enc) (C:=checked) (os:=os) (X:=λw _=>laidMetH prog oR w) false (World.laidAll prog os oR) #[.agg #[.int .i64 0, .int .i64 0, .int .i64 0, .int .i64 0, .slice none 0 0], .slice none 0 0] 8 (World.laidAll_os _ _ _)
    (World.shaped_of_ZipB (by kernel_rfl) (by kernel_rfl)) (by kernel_rfl) (by kernel_rfl) (by kernel_rfl)
    (by rw[MakeChecks.laidMetH_plain _ _ _ (by kernel_rfl)];exact laidMet_laidAll _ (by kernel_rfl) (by kernel_rfl))) ?_
 intro W base args ds gs before hval0 hW hL hsh;have hval: ∀(j:Nat) t v,f4.params[j]? =some t->args[j]? =some v->Value.okWide prog W .any base t v:=hval0;have hW':=hW;obtain⟨p,q,hA0,hV,rfl,_,_⟩:=hW;have hA:DataW.TrodAll enc prog W 0 (λ_=>true) true f4.params.toList args.toList ds p:=hA0;have hlt: ∀x∈p,x.block<W.heap.size:=λx hx=>by simpa using hW'.lt x (by simp[hx])
 have hrd: ∀t∈f4.params.toList,prog.readableRec t=true/\t<prog.types.size:=by
  rw[params4];have hall:([36,40].all λu=>prog.readableRec u&&decide (u<prog.types.size))=true:=by kernel_rfl
  intro t ht;have:=zaf.1 hall t (by simpa using ht);simpa using this
 have hstay:=λW' (hb:Below W.heap.size W W')=>wd (by kernel_rfl) hb _ _ _ _ hrd hlt hA0;rw[params4] at hA hval;obtain⟨v0,vs0,d0,ds0,p0,q0,hargs,rfl,rfl,h0,r0⟩:=trodAll_cons hA;obtain⟨v1,vs1,d1,ds1,p1,q1,rfl,rfl,rfl,h1,r1⟩:=trodAll_cons r0;obtain⟨rfl,rfl,rfl⟩:=trodAll_nil r1;obtain rfl:args= #[v0,v1]:=by cases args;simp_all
 obtain⟨rfl,rfl⟩:=trodVars_none hV;obtain⟨x0,L0,rfl,b0,k0,m0⟩:=amk underlying36 rfl (by kernel_rfl) ⟨rfl,by kernel_rfl,by kernel_rfl⟩ ⟨rfl,by kernel_rfl,by kernel_rfl⟩ ⟨rfl,by kernel_rfl,underlying34⟩ ⟨by kernel_rfl,by kernel_rfl⟩ (by kernel_rfl) (hval 0 36 v0 rfl rfl) h0;obtain⟨x1,L1,rfl,b1,k1,m1⟩:=open_ints underlying40 ⟨by kernel_rfl,by kernel_rfl⟩ (hval 1 40 v1 rfl rfl) h1;refine Calls.mono (ane x0 x1 b0 k0 m0 b1 k1 m1 W (aho hsh hL)) λe W' ⟨he,hb⟩=> ?_;subst he;exact⟨_,rfl,_,_,_, [],_, [],hW',trodAll_mk1 (shut_bool underlying4 _),hstay W' hb,rfl,hb.frame _,λh=>by cases h⟩
theorem ana:Rows.ProcedureUnitsSaid:=
 OpenClaim.holds_of_wide 4 f4 rfl rfl rfl rfl rfl rfl rfl ⟨rfl,rfl,rfl,rfl,rfl⟩ rfl rfl rfl rfl rfl anh func4 ani
  (zdw (by kernel_rfl)) (by unfold Func.isWrapper;first|(rw[if_pos (by decide+kernel)];kernel_rfl)|(rw[if_neg (by decide+kernel)];exact⟨rfl,rfl⟩))
  (λos started H enc _=>am7 os started H enc)
end Go.Proofs.YtdbnankjpnpojaaGreatDoor
