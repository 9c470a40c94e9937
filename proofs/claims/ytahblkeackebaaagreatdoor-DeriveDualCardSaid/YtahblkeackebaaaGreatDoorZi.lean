import Derived.Test.YtahblkeackebaaaGreatDoorZh
import Derived.Test.YtahblkeackebaaaGreatDoorCards
import Derived.Test.YtahblkeackebaaaGreatDoorTie
import Derived.SevenTiedAt
set_option linter.unusedVariables false
set_option linter.unusedSimpArgs false
set_option maxRecDepth 100000
namespace Go.Proofs.YtahblkeackebaaaGreatDoor
open Go.ChangeShapes Go.WideShapes Go.ChangeAt Go.RowKit Yk
theorem Uh (os:Os) (started:os.Started) (H:Type) (enc:TypeId×Value->H):
 ReturnsInHanded {} Tryz.checked os 3 .any (fun w args=>(Rows.deriveDualSpec.pre enc Tryz.prog Tryz.f3 [] false w args/\laidMetH Tryz.prog oR w)/\sizedMet enc Tryz.prog Tryz.f3 (OpenSpec.ofChange Rows.deriveDualSpec) false w args)
  (Rows.deriveDualSpec.post enc Tryz.prog Tryz.f3 false true false false):=by
 refine oQ (C:=Tryz.checked) (X:=fun w _=>laidMetH Tryz.prog oR w) (fun _ _ _ hh h=>h.of_heap hh) own started (by kernel_rfl) Tryz.func3
  (ChangeSpec.witness_shaped (enc:=enc) (C:=Tryz.checked) (os:=os) (X:=fun w _=>laidMetH Tryz.prog oR w) false (World.laidAll Tryz.prog os oR) #[.agg #[.int .i64 0, .int .i64 0, .int .i64 0, .int .i64 0, .slice none 0 0, .bool false, .int .i64 0, .int .i64 0, .int .i64 0, .int .i64 0, .int .i64 0, .int .i64 0]] 8 (World.laidAll_os _ _ _)
    (World.shaped_of_ZipB (by kernel_rfl) (by kernel_rfl)) (by kernel_rfl) (by kernel_rfl) (by kernel_rfl)
    (by rw [MakeChecks.laidMetH_plain _ _ _ (by kernel_rfl)];exact laidMet_laidAll _ (by kernel_rfl) (by kernel_rfl))) ?_
 intro W base args ds gs before hval0 hW hL hsh;have hval: ∀ (j:Nat) t v,Tryz.f3.params[j]? =some t->args[j]? =some v->Value.okWide Tryz.prog W .any base t v:=hval0;have hW':=hW;obtain ⟨p,q,hA0,hV,rfl,_,_⟩:=hW;have hA:DataW.TrodAll enc Tryz.prog W 0 (fun _=>true) true Tryz.f3.params.toList args.toList ds p:=hA0;have hlt: ∀ x∈p,x.block<W.heap.size:=fun x hx=>by simpa using hW'.lt x (by simp [hx])
 have hrd: ∀ t∈Tryz.f3.params.toList,Tryz.prog.readableRec t=true/\t<Tryz.prog.types.size:=by
  rw [Tryz.params3];have hall:([27].all fun u=>Tryz.prog.readableRec u&&decide (u<Tryz.prog.types.size))=true:=by kernel_rfl
  intro t ht;have:=zaf.1 hall t (by simpa using ht);simpa using this
 have hstay:=fun W' (hb:Below W.heap.size W W')=>wd (by kernel_rfl) hb _ _ _ _ hrd hlt hA0;rw [Tryz.params3] at hA hval;obtain ⟨v0,vs0,d0,ds0,p0,q0,hargs,rfl,rfl,h0,r0⟩:=trodAll_cons hA;obtain ⟨rfl,rfl,rfl⟩:=trodAll_nil r0;obtain rfl:args= #[v0]:=by cases args;simp_all
 obtain ⟨rfl,rfl⟩:=trodVars_none hV;obtain ⟨x0,L0,rfl,b0,k0,m0⟩:=Td Tryz.underlying27 rfl (by kernel_rfl) ⟨rfl,by kernel_rfl,by kernel_rfl⟩ ⟨rfl,by kernel_rfl,by kernel_rfl⟩ ⟨rfl,by kernel_rfl,Tryz.underlying23⟩ ⟨rfl,by kernel_rfl,by kernel_rfl⟩ ⟨rfl,by kernel_rfl,by kernel_rfl⟩ ⟨by kernel_rfl,by kernel_rfl⟩ (by kernel_rfl) (hval 0 27 v0 rfl rfl) h0;refine Calls.mono (Uo x0 b0 k0 m0 W (JW hsh hL)) fun e W' ⟨he,hb⟩=> ?_;subst he;exact ⟨_,rfl,_,_,_, [],_, [],hW',trodAll_mk1 (shut_bool Tryz.underlying4 _),hstay W' hb,rfl,hb.frame _,fun h=>by cases h⟩
theorem Uk:Rows.DeriveDualSaid:=
 OpenClaim.holds_of_wide 3 Tryz.f3 rfl rfl rfl rfl rfl rfl rfl ⟨rfl,rfl,rfl,rfl,rfl⟩ rfl rfl rfl rfl rfl Ur Tryz.func3 Us
  (zdD (by kernel_rfl)) (by unfold Func.isWrapper;first|(rw [if_pos (by decide+kernel)];kernel_rfl)|(rw [if_neg (by decide+kernel)];exact ⟨rfl,rfl⟩))
  (fun os started H enc _=>Uh os started H enc)
end Go.Proofs.YtahblkeackebaaaGreatDoor
