import Derived.Test.YtldflkomhbfceaaGreatDoorZb
import Derived.Scope
import Derived.ArgAppend
import Derived.MapKept
import Derived.Defers
import Derived.Maps.RangeRun
set_option linter.unusedVariables false
set_option linter.unusedSimpArgs false
namespace Go.Sy
open Go.RowKit
section
variable {P:Program} {W0:Base}
def NX (bl:zdP) (nx:Nat):Prop:= ∀i,nx<=i->bl i=none
theorem aum (bo:Bool): ∀(L:List (Nat×Int)) (i:Nat),(dS bo i L).length=L.length
 | [],i=>rfl
 |(k,v)::L,i=>by simp[dS,aum bo L]
theorem uZ (bo:Bool) (k:Nat) (z:Int): ∀(L:List (Nat×Int)) (i:Nat),dS bo i (L++ [(k,z)])=dS bo i L++ [{key:= .int .i64 k,val:=valF bo z,born:=i+L.length}]
 | [],i=>by simp[dS]
 |(J,v)::L,i=>by simp[dS,uZ bo k z L (i+1),zbr,zb3 1]
theorem yh (bo:Bool) (k:Nat) (z J:Int): ∀(L:List (Nat×Int)) (i m:Nat),L[m]? =some (k,J)->dS bo i (L.set m (k,z))=(dS bo i L).modify m (λe=>{e with key:= .int .i64 k,val:=valF bo z})
 | [],i,m,h=>by simp at h
 |(V,v)::L,i,0,h=>by simp at h;obtain⟨rfl,rfl⟩:=h;simp[dS]
 |(V,v)::L,i,m+1,h=>by simp only[zaR,dS,List.modify_succ_cons];rw[yh bo k z J L (i+1) m (by simpa using h)]
theorem nZ (bo:Bool): ∀(L:List (Nat×Int)) (i m:Nat) (k:Nat) (z:Int),L[m]? =some (k,z)->(dS bo i L)[m]? =some {key:= .int .i64 k,val:=valF bo z,born:=i+m}
 | [],i,m,k,z,h=>by simp at h
 |(J,v)::L,i,0,k,z,h=>by simp at h;obtain⟨rfl,rfl⟩:=h;simp[dS]
 |(J,v)::L,i,m+1,k,z,h=>by
  simp only[dS,zcg];rw[nZ bo L (i+1) m k z (by simpa using h),show i+1+m=i+(m+1) by omega]
theorem Vt (k:Nat) (z:Int): ∀(L:List (Nat×Int)) (j:Nat),(∀p∈L,p.1≠k)->d9 (L++ [(k,z)]) j=if j=k then z else d9 L j
 | [],j,_=>by
   simp only[zaM,d9];by_cases h:k=j
   ·subst h;simp
   ·simp[h,Ne.symm h]
 |(V,v)::L,j,h=>by
  have h0:=h _ zbF;simp only[] at h0;simp only[zaO,d9];by_cases J:V=j
  ·subst J;simp[h0]
  ·simp only[if_neg J];exact Vt k z L j λp hp=>h p (zan _ hp)
theorem u5 (k:Nat) (z Z:Int): ∀(L:List (Nat×Int)) (m j:Nat),L[m]? =some (k,Z)->(∀n,n<m-> ∀p,L[n]? =some p->p.1≠k)->d9 (L.set m (k,z)) j=if j=k then z else d9 L j
 | [],m,j,h,_=>by simp at h
 |(V,v)::L,0,j,h,_=>by
  simp at h;obtain⟨rfl,rfl⟩:=h;simp only[zba,d9];by_cases J:V=j
  ·subst J;simp
  ·simp[J,Ne.symm J]
 |(V,v)::L,m+1,j,h,Y=>by
  have h0:=Y 0 (by omega) (V,v) rfl;simp only[] at h0;simp only[zaR,d9];by_cases J:V=j
  ·subst J;simp[h0]
  ·simp only[if_neg J];exact u5 k z Z L m j (by simpa using h) λn hlt p hp=>Y (n+1) (by omega) p (by simpa using hp)
variable {w:World} {t:TypeId}
theorem yi {β:zdM} {b:Nat} {bo:Bool} {L:List (Nat×Int)} {kt et:TypeId} (ht:P.underlying t=some (.map kt et)) (Y:P.underlying kt=some (.int .i64))
 (Z:w.heap[b]? =some (.map (dS bo 0 L).toArray L.length)) (k:Nat) (z:Int):
 ∃L',(Instr.mapUpdate t (.map (some b)) (.int .i64 k) (valF bo z)).run P w= .ok () {w with heap:=w.heap.setIfInBounds b (.map (dS bo 0 L').toArray L'.length)}/\
  (∀j,d9 L' j=if j=k then z else d9 L j)/\(∀p∈L',p∈L\/p=(k,z))/\((L.map (·.1)).Nodup->(L'.map (·.1)).Nodup):=by
 have J:MapKept.IsKey (.int .i64) (.int .i64 (k:Int)):=rfl;rcases lH bo k L 0 0 with ⟨h1,h2,h3⟩|⟨m,z',h1,h2,h3,h4⟩
 ·refine⟨L++ [(k,z)], ?_,λj=>Vt k z L j h2,λp hp=>by simpa using hp,λhn=> ?_⟩
  ·simp[Instr.mapUpdate,run_underlying ht,MapKept.run_getObj_map Z,MapKept.run_checkKey Y J,MapKept.run_findKey Y h1,MapKept.run_setObj_map _ Z,Result.andThen,uZ]
  ·rw[zb8,zcb];refine⟨hn,by simp,λa ha b hb e=> ?_⟩;obtain⟨p,hp,rfl⟩:=zaz.1 ha;simp only[zaK,zc5,zaj] at hb;exact h2 p hp (e.trans hb)
 ·have V:=nZ bo L 0 m k z' h2;have hj':(dS bo 0 L).toArray[m]? =some {key:= .int .i64 k,val:=valF bo z',born:=0+m}:=by simpa using V
  refine⟨L.set m (k,z), ?_,λj=>u5 k z z' L m j h2 h4,λp hp=> ?_,λhn=> ?_⟩
  ·rw[za7] at h1;simp[Instr.mapUpdate,run_underlying ht,MapKept.run_getObj_map Z,MapKept.run_checkKey Y J,MapKept.run_findKey Y h1,V,MapKept.run_keyThatStays J,MapKept.run_setObj_map _ Z,Result.andThen,yh bo k z z' L 0 m h2]
  ·rcases zcM hp with h|h
   ·exact .inl h
   ·exact .inr h
  ·rw[List.map_set];have:(L.map (·.1))[m]? =some k:=by rw[zaL,h2];rfl
   rw[show (L.map (·.1)).set m k=L.map (·.1) from by
    apply List.ext_getElem?;intro j;rw[List.getElem?_set];split
    ·rename_i V;subst V;split
     ·exact this.symm
     ·rename_i V;rw[zad (by simpa using V)]
    ·rfl]
   exact hn
variable {bl:zdP} {nx:Nat} {β:zdM}
theorem Tr.newB (J:NX bl nx) (B:Blk) {L:Loc}:Tr bl nx [nx] β (upd bl nx B) (gp β nx L):=
 have ne: ∀i,bl i≠none->i≠nx:=λi hi e=>hi (J i (by omega))
 ⟨λi C V=>⟨C,by rw[ak (ne i (by rw[V];simp))];exact V,rfl,⟨rfl,rfl⟩, .inl rfl,λ_=>rfl⟩,λi hi=>aC (ne i hi),λi hi h=>by rw[ak (by omega)];exact h⟩
variable {i:Nat} {B:Blk}
theorem Tr.put (hB:bl i=some B) (get:zdQ) :Tr bl nx [i] β (upd bl i {B with get:=get}) β:=by
 refine⟨λj C J=> ?_,λ_ _=>rfl,λj V h=> ?_⟩
 ·by_cases h:j=i
  ·subst h;rw[hB] at J;obtain rfl:B=C:=by simpa using J
   exact⟨_,az _ _ _,rfl,⟨rfl,rfl⟩, .inl rfl,λh=>absurd (zaj.2 rfl) h⟩
  ·exact⟨C,by rw[ak h];exact J,rfl,⟨rfl,rfl⟩, .inl rfl,λ_=>rfl⟩
 ·rw[ak (λe=>by rw[e,hB] at h;cases h)];exact h
theorem lK (J:NX bl nx) (h:Gd bl nx=true): ∀j B,bl j=some B->B.kd.it=false:=by
 intro j B hB;have V:j<nx:=by
  rcases zah j nx with h|h
  ·exact h
  ·rw[J j h] at hB;cases hB
 have:=zaf.1 h j (zaC.2 V);rw[hB] at this;simpa using this
def se (P:Program) (W0:Base) (bl:zdP) (nx:Nat) (β:zdM) (w:World) (s:Result Next) (K:Aft):Prop:=
 (∃v,s= .halt (.panic v) w/\K (.pan v) bl nx [])\/
 ∃β' w' r bl' nx' wl,(s= .ok (.value (r.conc β')) w'\/(s= .ok .skip w'/\r= .val undef))/\K (.ok r) bl' nx' wl/\BC W0 bl' β' w'/\NX bl' nx'/\Live bl' r/\Tr bl nx wl β bl' β'/\nx<=nx'
variable {K:Aft}
theorem vd (hbc:BC W0 bl β w) (hnx:NX bl nx) {k v:SV} (hk:Live bl k) (hv:Live bl v) (h:runX P bl nx (.set t i k v) K):
 se P W0 bl nx β w ((do Instr.mapUpdate t (.map (some (β i).blk)) (k.conc β) (v.conc β);pure Next.skip:Sem Next).run P w) K:=by
 simp only[runX] at h;split at h
 ·rename_i kt et B ht hB;have nxu: ∀C,NX (upd bl i C) nx:=λC j hj=>by rw[ak (λe=>by rw[<-e,hnx j hj] at hB;cases hB)];exact hnx j hj
  have fin: ∀{get o'},B.kd.map=true->(Instr.mapUpdate t (.map (some (β i).blk)) (k.conc β) (v.conc β)).run P w= .ok () {w with heap:=w.heap.setIfInBounds (β i).blk o'}->MapOK β (β i).blk {w with heap:=w.heap.setIfInBounds (β i).blk o'} B.kd get->
   (B.kd.lst=true-> ∀e s,s∈get e->Live bl s)->(∀j D,bl j=some D->D.kd.it=false)->K (.ok (.val undef)) (upd bl i {B with get:=get}) nx [i]->se P W0 bl nx β w ((do Instr.mapUpdate t (.map (some (β i).blk)) (k.conc β) (v.conc β);pure Next.skip:Sem Next).run P w) K:=by
   intro get o' hm hrun hok hl V hK;refine .inr ⟨β,_, .val undef,_,nx, [i], .inr ⟨by rw[zdI,hrun];rfl,rfl⟩,hK,hbc.setMap hB hm hok hl (.inr V),nxu _,λj hj=>by simp[SV.ids] at hj,Tr.put hB get,za0 _⟩
  split at h
  ·rename_i J;obtain⟨m1,m2,m3,m4⟩:=hbc.maps.ok i B hB (by rw[J];rfl);rw[J] at m4;obtain⟨es,e1,e2,e3,e4⟩:=m4;split at h
   ·rename_i l hl;obtain⟨a1,a2,a3⟩:=lG e3 e4 64 0 l (zaA _) hl;split at h
    ·rename_i b c hb hc;obtain⟨hbt,hK⟩:=Xg.1 h;rw[za2] at hbt;obtain⟨V,hbt⟩:=hbt;have V:=lK hnx V;simp only[za2,aB,zdw] at hbt;obtain⟨rfl,hlt⟩:=hbt;obtain⟨d,hd,hkey,_⟩:=js (β:=β) hc;have hf:=pg (β:=β) hd l 0 0 hb;rw[zaZ] at a1;rw[<-a1] at hf;rw[za7] at a2;refine fin (o':= .map (es.push {key:=k.conc β,val:=v.conc β,born:=es.size}) (es.size+1)) (by rw[J];rfl) ?_ ?_ ?_ V hK
     ·simp[Instr.mapUpdate,run_underlying ht,MapKept.run_getObj_map e1,MapKept.run_checkKey hd hkey,MapKept.run_findKey hd hf,MapKept.run_setObj_map _ e1,Result.andThen]
     ·rw[J];refine⟨es.push {key:=k.conc β,val:=v.conc β,born:=es.size},by simpa using (MapKept.heap_set e1).1,by simp;omega,λe he=> ?_,λe he=> ?_⟩
      ·simp only[Array.size_push] at he;unfold J9;rw[bS,a2];by_cases Z:e=es.size
       ·subst Z;exact⟨k,v,by simp,by simp⟩
       ·obtain⟨k',v',k1,k2⟩:=e3 e (by omega);exact⟨k',v',by simp[Z,k1],by rw[Array.getElem?_push,if_neg Z];exact k2⟩
      ·simp only[Array.size_push] at he;unfold J9;rw[bS,a2,zdv (by omega)];exact e4 e (by omega)
     ·intro _ e s hs;unfold J9 at hs;rw[bS] at hs;by_cases Z:e=l.length
      ·simp[Z] at hs;rcases hs with rfl|rfl
       ·exact hk
       ·exact hv
      ·simp[Z] at hs;exact hbc.maps.live i B e s hB (by rw[J];rfl) hs
    ·exact h.elim
   ·exact h.elim
  ·rename_i J;obtain⟨m1,m2,m3,m4⟩:=hbc.maps.ok i B hB (by rw[J];rfl);rw[J] at m4;obtain⟨L,e1,e2⟩:=m4;split at h
   ·rename_i kz vz hu;obtain⟨Y,h⟩:=Xg.1 h;rw[za2] at Y;obtain⟨V,Y⟩:=Y;have V:=lK hnx V;have Y:=zdx Y;obtain⟨L',r1,r2,_⟩:=yi (β:=β) (bo:=false) ht hu e1 kz.toNat vz;refine fin (o':= .map (dS false 0 L').toArray L'.length) (by rw[J];rfl) ?_ ?_ (λe=>by rw[J] at e;cases e) V h
    ·have:((kz.toNat:Int))=kz:=zcd Y;rw[this] at r1;exact r1
    ·rw[J];refine⟨L',(MapKept.heap_set e1).1,λj=> ?_⟩;rw[r2];show (bif Nat.beq j kz.toNat then vz else iG (B.get j))=_;rw[bS,e2];by_cases hj:j=kz.toNat<;>simp[hj]
   ·exact h.elim
  ·rename_i J;obtain⟨m1,m2,m3,m4⟩:=hbc.maps.ok i B hB (by rw[J];rfl);rw[J] at m4;obtain⟨L,e1,e2,e3,e4⟩:=m4;split at h
   ·rename_i kz vb hu;obtain⟨Y,hK⟩:=Xg.1 h;rw[za2] at Y;obtain⟨V,Y⟩:=Y;have V:=lK hnx V;simp only[za2,zdw] at Y;obtain⟨rfl,Y⟩:=Y;obtain⟨L',r1,r2,r3,r4⟩:=yi (β:=β) (bo:=true) ht hu e1 kz.toNat 1;refine fin (o':= .map (dS true 0 L').toArray L'.length) (by rw[J];rfl) ?_ ?_ (λe=>by rw[J] at e;cases e) V hK
    ·have:((kz.toNat:Int))=kz:=zcd Y;rw[this] at r1;exact r1
    ·rw[J];refine⟨L',(MapKept.heap_set e1).1,λj=> ?_,λp hp=> ?_,r4 e4⟩
     ·rw[r2];show (Nat.beq j kz.toNat||su (B.get j))=_;rw[bS,e2];by_cases hj:j=kz.toNat<;>simp[hj]
     ·rcases r3 p hp with h|rfl
      ·exact e3 p h
      ·rfl
   ·exact h.elim
  ·exact h.elim
 ·exact h.elim
theorem Tr.gone (hB:bl i=some B) :Tr bl nx [i] β (upd bl i {B with kd:= .gone}) β:=by
 refine⟨λj C J=> ?_,λ_ _=>rfl,λj V h=> ?_⟩
 ·by_cases h:j=i
  ·subst h;rw[hB] at J;obtain rfl:B=C:=by simpa using J
   exact⟨_,az _ _ _,rfl,⟨rfl,rfl⟩, .inr rfl,λh=>absurd (zaj.2 rfl) h⟩
  ·exact⟨C,by rw[ak h];exact J,rfl,⟨rfl,rfl⟩, .inl rfl,λ_=>rfl⟩
 ·rw[ak (λe=>by rw[e,hB] at h;cases h)];exact h
theorem ve {get:zdQ} {z:Nat} {f:zdT} {k v:Nat->SV} (h1: ∀e,e<z->get e= [.val (.bool (f e)),k e,v e]) (h2: ∀e,z<=e->get e= []):
 ∀(n e:Nat) (l:List (Bool×SV×SV)),e<=z->Ge get n e=some l->e+l.length=z/\ ∀j,e+j<z->l[j]? =some (f (e+j),k (e+j),v (e+j))
 |0,e,l,_,h=>by simp[Ge] at h
 |n+1,e,l,he,h=>by
  simp only[Ge] at h;rcases zah e z with J|Y
  ·rw[h1 e J] at h;simp only[zbE] at h;obtain⟨r,hr,rfl⟩:=h;obtain⟨a1,V⟩:=ve h1 h2 n (e+1) r J hr;refine⟨by simp;omega,λj Z=> ?_⟩;cases j with
   |zero=>rfl
   |succ j=>
    rw[zcg,V j (by omega),show e+1+j=e+(j+1) by omega]
  ·obtain rfl:e=z:=by omega
   rw[h2 _ (za0 _)] at h;simp only[za1] at h;subst h;exact⟨by simp,λj Z=>by omega⟩
theorem wx {F:Nat->SV->zdU}: ∀{l:List (Bool×SV×SV)} {e j:Nat} {k v:SV},Gf l e F->l[j]? =some (true,k,v)->F (e+j) k v
 | [],e,j,k,v,_,h=>by simp at h
 |(b,V,Y)::r,e,0,k,v,h,J=>by
  simp only[zbA,za1,zag] at J;obtain⟨rfl,rfl,rfl⟩:=J;exact h.1
 |(b,V,Y)::r,e,j+1,k,v,h,J=>by
  rw[show e+(j+1)=e+1+j by omega];exact wx h.2 (by simpa using J)
theorem DL (Y:BC W0 bl β w) (hnx:NX bl nx) (h:runX P bl nx (.rng t i) K):
 se P W0 bl nx β w ((do let v <-Instr.range t (.map (some (β i).blk));pure (Next.value v):Sem Next).run P w) K:=by
 have hid:=hnx nx (za0 _);have nx': ∀C,NX (upd bl nx C) (nx+1):=λC j hj=>by rw[ak (by omega)];exact hnx j (by omega)
 simp only[runX] at h;split at h
 ·rename_i kt et B ht hB;have fin: ∀{kd get es J},kd.map=true->w.heap[(β i).blk]? =some (.map es J)->MapOK (gp β nx ⟨w.heap.size,0,0,0,false⟩) w.heap.size (w.alloc (.mapIter (some (β i).blk) J #[] J)) kd get->
   (kd.lst=true-> ∀e s,s∈get e->Live bl s)->K (.ok (.ptr nx 0 0)) (upd bl nx {n:=0,sz:=0,get:=get,kd:=kd}) (nx+1) [nx]->se P W0 bl nx β w ((do let v <-Instr.range t (.map (some (β i).blk));pure (Next.value v):Sem Next).run P w) K:=by
   intro kd get es J hm hb hok hl hK;refine .inr ⟨_,_, .ptr nx 0 0,_,nx+1, [nx], .inl ?_,hK,Y.newObj hid hm hok hl,nx' _,λj hj=> ?_,Tr.newB hnx _,zaT _⟩
   ·rw[zdI,run_range_map w t kt et _ es J ht hb];simp[SV.conc,addr,aA,Result.andThen]
   ·simp only[SV.ids,zaj] at hj;subst hj;rw[az];simp
  split at h
  ·rename_i V;obtain⟨m1,m2,m3,m4⟩:=Y.maps.ok i B hB (by rw[V];rfl);rw[V] at m4;obtain⟨es,e1,e2,e3,e4⟩:=m4;have hlt:=(zaq.1 e1).1;refine fin (kd:= .itL) (get:=rM B.get) rfl e1 ⟨(β i).blk,es.size,es.size,es.size, #[],es,heap_alloc_new _ _,by rw[heap_alloc_old _ _ hlt];exact e1,λx hx=> ?_,za0 _,za0 _,e2,λe Z=> ?_,λe Z=> ?_, .inl rfl⟩ (λ_ e s hs=> ?_) h
   ·obtain⟨j,hj,rfl⟩:=zbR hx;have hj':j<es.size:=by simpa using hj
    obtain⟨k,v,_,k2⟩:=e3 j hj';rw[zcr hj'] at k2;simp only[Array.getElem_toList];rw[zbk k2];exact hj'
   ·obtain⟨k,v,k1,k2⟩:=e3 e Z;have lv: ∀s∈B.get e,s.conc (gp β nx ⟨w.heap.size,0,0,0,false⟩)=s.conc β:=λs hs=>(Y.maps.live i B e s hB (by rw[V];rfl) hs).conc hid;exact⟨k,v,by simp[rM,k1],by rw[lv k (by simp[k1]),lv v (by simp[k1])];exact k2⟩
   ·simp[rM,e4 e Z]
   ·cases e with
    |zero=>simp[rM] at hs
    |succ e=>
    rcases zah e es.size with Z|Z
    ·obtain⟨k,v,k1,k2⟩:=e3 e Z;simp only[rM,k1,zai,zbx,or_false] at hs;rcases hs with rfl|rfl|rfl
     ·intro j hj;simp[SV.ids] at hj
     ·exact Y.maps.live i B e _ hB (by rw[V];rfl) (by simp[k1])
     ·exact Y.maps.live i B e _ hB (by rw[V];rfl) (by simp[k1])
    ·simp[rM,e4 e Z] at hs
  ·rename_i V;obtain⟨m1,m2,m3,m4⟩:=Y.maps.ok i B hB (by rw[V];rfl);rw[V] at m4;obtain⟨L,e1,e2,e3,e4⟩:=m4;have hlt:=(zaq.1 e1).1;refine fin (kd:= .itK) (get:=MU B.get) rfl e1 ⟨(β i).blk,L.length,L.length, #[],L,heap_alloc_new _ _,by rw[heap_alloc_old _ _ hlt];exact e1,rfl,za0 _,e3,e4,λk=> ?_, .inl rfl⟩ (λe=>by cases e) h;show su (B.get k)=true↔_;rw[e2,zdE];have key: ∀(L:List (Nat×Int)),(∀p∈L,p.2=1)->(d9 L k≠0↔ ∃i:Nat,(L.map (·.1))[i]? =some k/\(#[]:Array Nat).contains i=false):=by
    intro L hL
    induction L with
    |nil=>simp[d9]
    |cons p L ih=>
     obtain⟨k',z⟩:=p;have hz:z=1:=hL (k',z) (by simp);subst hz;simp only[d9];by_cases hk:k'=k
     ·rw[if_pos hk];subst hk;exact⟨λ_=>⟨0,rfl,by simp⟩,λ_=>by decide⟩
     ·rw[if_neg hk,ih λp hp=>hL p (zan _ hp)];constructor
      ·rintro⟨j,h1,h2⟩;exact⟨j+1,by simpa using h1,by simp⟩
      ·rintro⟨j,h1,h2⟩;cases j with
       |zero=>simp at h1;exact absurd h1 hk
       |succ j=>exact⟨j,by simpa using h1,by simp⟩
   exact key L e3
  ·exact h.elim
 ·exact h.elim
variable {ty:TypeId}
theorem DM (hbc:BC W0 bl β w) (hnx:NX bl nx) (h:runX P bl nx (.nxt i) K):
 se P W0 bl nx β w ((do let v <-Instr.next ((SV.ptr i 0 0).conc β) false ty;pure (Next.value v):Sem Next).run P w) K:=by
 simp only[runX] at h;split at h
 ·rename_i B hB;have nxu: ∀C,NX (upd bl i C) nx:=λC j Y=>by rw[ak (λe=>by rw[<-e,hnx j Y] at hB;cases hB)];exact hnx j Y
  have hmb: ∀{m J c0 seen es V},B.kd.it=true->w.heap[(β i).blk]? =some (.mapIter (some m) J seen c0)->w.heap[m]? =some (.map es V)->(∀x∈es.toList,x.born<J)->J<=c0->
   ((leftOf es seen).size=0->K (.ok (.tup [.val (.bool false)])) (upd bl i {B with kd:= .gone}) nx [i])->
   (∀e∈(leftOf es seen).toList,∃k v get,k.conc β=e.key/\v.conc β=e.val/\Live bl k/\Live bl v/\K (.ok (.tup [.val (.bool true),k,v])) (upd bl i {B with get:=get}) nx [i]/\(B.kd.lst=true-> ∀e s,s∈get e->Live bl s)/\
     ∀w':World,w'.heap[(β i).blk]? =some (.mapIter (some m) J (seen.push e.born) V)->w'.heap[m]? =some (.map es V)->MapOK β (β i).blk w' B.kd get)->
   se P W0 bl nx β w ((do let v <-Instr.next ((SV.ptr i 0 0).conc β) false ty;pure (Next.value v):Sem Next).run P w) K:=by
   intro m J c0 seen es V hit hr hb hold hsc h0 h1;have hm:=BK.it_map hit;have hoff:=hbc.maps.off i B hB hit;have hptr:(SV.ptr i 0 0).conc β= .pointer (some ⟨(β i).blk,0,none⟩):=by simp[SV.conc,addr,hoff]
   have hne:m≠(β i).blk:=λe=>by rw[e,hr] at hb;cases hb
   rw[hptr];rcases run_next_at (P:=P) w ty (β i).blk m J c0 seen es V hr hb hold hsc with ⟨k0,hrun⟩|⟨e,he,w1,hal,hrun⟩
   ·exact .inr ⟨β,w, .tup [.val (.bool false)],_,nx, [i], .inl (by rw[zdI,hrun];rfl),h0 k0,hbc.kill i rfl,nxu _,λj Y=>by simp[SV.ids,SV.idss] at Y,Tr.gone hB,za0 _⟩
   ·obtain⟨k,v,get,hk,hv,lk,lv,hK,hl,hok⟩:=h1 e he;have hbc1:BC W0 bl β w1:=by
     rcases hal with rfl|rfl
     ·exact hbc
     ·exact hbc.step (zdG _ _).drew
    have hr1:w1.heap[(β i).blk]? =some (.mapIter (some m) J seen c0):=by rcases hal with rfl|rfl<;>exact hr
    have hb1:w1.heap[m]? =some (.map es V):=by rcases hal with rfl|rfl<;>exact hb
    have hset:=MapKept.heap_set (o':= .mapIter (some m) J (seen.push e.born) V) hr1;refine .inr ⟨β,_, .tup [.val (.bool true),k,v],_,nx, [i], .inl (by rw[zdI,hrun];simp[SV.conc,SV.concs,hk,hv,Result.andThen];rfl),hK,hbc1.setMap hB hm (o':= .mapIter (some m) J (seen.push e.born) V) (hok _ hset.1 ((hset.2 m hne).trans hb1)) hl (.inl hit),nxu _,λj Y=> ?_,Tr.put hB get,za0 _⟩;simp only[SV.ids,SV.idss,zbf,zaM,za8] at Y;rcases Y with Y|Y
    ·exact Live.upd lk j Y
    ·exact Live.upd lv j Y
  split at h
  ·rename_i hkd;obtain⟨m1,m2,m3,m4⟩:=hbc.maps.ok i B hB (by rw[hkd];rfl);rw[hkd] at m4;obtain⟨m,J,c0,V,seen,es,e1,e2,e3,e4,e5,e6,e7,e8,e9⟩:=m4;split at h
   ·rename_i l hl;obtain⟨h0,h1⟩:=h;have hex: ∃k v:Nat->SV,∀e,e<es.size->B.get (e+1)= [.val (.bool (!seen.contains e)),k e,v e]/\es[e]? =some {key:=(k e).conc β,val:=(v e).conc β,born:=e}:=by
     refine⟨λe=>((B.get (e+1))[1]?).getD (.val undef),λe=>((B.get (e+1))[2]?).getD (.val undef),λe he=> ?_⟩;obtain⟨k,v,k1,k2⟩:=e7 e he;simp only[k1];exact⟨rfl,k2⟩
    obtain⟨k,v,hkv⟩:=hex;obtain⟨a1,a2⟩:=ve (λe he=>(hkv e he).1) e8 65 0 l (zaA _) hl;refine hmb (by rw[hkd];rfl) e1 e2 e3 e4 (λhz=> ?_) λe he=> ?_
    ·have:l.any (·.1)=false:=by
      rw[List.any_eq_false];intro p hp hpt;obtain⟨j,Y,rfl⟩:=zbR hp;have Z:0+j<es.size:=by omega
      have:=a2 j Z;rw[zaa Y] at this;rw[zbk this] at hpt;have hje:=(hkv (0+j) Z).2;have hmem:=all_seen es seen hz _ (by rw[Array.mem_toList_iff];exact zd3 hje);simp only[] at hmem hpt;rw[hmem] at hpt;cases hpt
     rw[this] at h0;exact h0
    ·obtain⟨hem,hes⟩:=mem_left he;obtain⟨j,Y,rfl⟩:=zbR hem;have Z:j<es.size:=by simpa using Y
     obtain⟨k1,k2⟩:=hkv j Z;have k3:es.toList[j]={key:=(k j).conc β,val:=(v j).conc β,born:=j}:=by
      rw[zcr Z] at k2;simpa using k2
     rw[k3] at hes ⊢;simp only[] at hes;have hlj:=a2 j (by omega);rw[za7,hes] at hlj;have hF:=wx h1 hlj;rw[za7] at hF;have lv:=λe s hs=>hbc.maps.live i B e s hB (by rw[hkd];rfl) hs;refine⟨k j,v j,_,rfl,rfl,lv (j+1) _ (by rw[k1];simp),lv (j+1) _ (by rw[k1];simp),hF,λ_ e s hs=> ?_,λw' q1 q2=> ?_⟩
     ·cases e with
      |zero=>
       simp only[nN,zai,zbx,or_false] at hs;rcases hs with rfl|rfl
       ·exact lv (j+1) _ (by rw[k1];simp)
       ·exact lv (j+1) _ (by rw[k1];simp)
      |succ e=>
      simp only[nN,bS] at hs;by_cases hej:e=j
      ·subst hej;simp only[decide_true,zdu,k1,Nx,zai,zbx,or_false] at hs;rcases hs with rfl|rfl|rfl
       ·intro x hx;simp[SV.ids] at hx
       ·exact lv (e+1) _ (by rw[k1];simp)
       ·exact lv (e+1) _ (by rw[k1];simp)
      ·simp only[hej,decide_false,zdt] at hs;exact lv (e+1) s hs
     ·rw[hkd];refine⟨m,J,V,V,seen.push j,es,q1,q2,e3,e5,e5,e6,λe he=> ?_,λe he=> ?_, .inr ⟨seen,j,k j,v j,rfl,rfl,rfl,k2⟩⟩
      ·obtain⟨p1,p2⟩:=hkv e he;refine⟨k e,v e, ?_,p2⟩;simp only[nN,bS];rw[contains_push];by_cases hej:e=j
       ·subst hej;simp[k1,Nx]
       ·simp[hej,p1]
      ·simp only[nN,bS];rw[zdv (by omega)];exact e8 e he
   ·exact h.elim
  ·rename_i hkd;obtain⟨m1,m2,m3,m4⟩:=hbc.maps.ok i B hB (by rw[hkd];rfl);rw[hkd] at m4;obtain⟨m,J,c0,seen,L,e1,e2,e3,e4,e5,e6,e7,e8⟩:=m4;obtain⟨h0,h1⟩:=h;have hget: ∀(j k:Nat),(L.map (·.1))[j]? =some k->(dS true 0 L)[j]? =some {key:= .int .i64 k,val:= .bool true,born:=j}:=by
    intro j k Y;rw[zaL] at Y;cases hL:L[j]? with
    |none=>rw[hL] at Y;cases Y
    |some p=>
     obtain⟨k',z⟩:=p;rw[hL] at Y;obtain rfl:k'=k:=by simpa using Y
     have hz:z=1:=e5 _ (zal hL);subst hz;have:=nZ true L 0 j k' 1 hL;rw[this,za7];rfl
   have hof: ∀(j:Nat) (x:MapEntry),(dS true 0 L)[j]? =some x-> ∃k,(L.map (·.1))[j]? =some k/\x={key:= .int .i64 k,val:= .bool true,born:=j}:=by
    intro j x hx;cases hL:(L.map (·.1))[j]? with
    |none=>
     rw[List.getElem?_eq_none_iff] at hL;rw[zad (by rw[aum];simpa using hL)] at hx;cases hx
    |some k=>
     rw[hget j k hL] at hx;exact⟨k,rfl,(zbk hx).symm⟩
   refine hmb (by rw[hkd];rfl) e1 e2 (λx hx=> ?_) e4 (λhz=>h0 λk=> ?_) λe he=> ?_
   ·obtain⟨j,Y,rfl⟩:=zbR hx;obtain⟨k,hk,hx⟩:=hof j _ (zaa (by simpa using Y));simp only[List.toList_toArray] at hx ⊢;rw[hx,e3];simpa [aum] using Y
   ·cases hbk:su (B.get (k+1)) with
    |false=>rfl
    |true=>
     obtain⟨j,Y,hs⟩:=(e7 k).1 hbk;have:=all_seen _ seen hz {key:= .int .i64 k,val:= .bool true,born:=j} (by simpa using zal (hget j k Y));simp only[] at this;rw[hs] at this;cases this
   ·obtain⟨hem,hes⟩:=mem_left he;have hem':e∈dS true 0 L:=by simpa using hem
    obtain⟨j,hje⟩:=zby hem';obtain⟨k,hk,hx⟩:=hof j e hje;subst hx;simp only[] at hes;have hbk:su (B.get (k+1))=true:=(e7 k).2 ⟨j,hk,hes⟩;refine⟨.val (.int .i64 k), .val (.bool true),_,rfl,rfl,λx hx=>by simp[SV.ids] at hx,λx hx=>by simp[SV.ids] at hx,h1 (k:Int) (Int.natCast_nonneg _) (by rw[zd4];exact hbk),λ(hl:B.kd.lst=true)=>(by rw[hkd] at hl;cases hl),λw' q1 q2=> ?_⟩;rw[hkd];refine⟨m,J,L.length,seen.push j,L,q1,q2,e3,by rw[e3];exact za0 _,e5,e6,λk'=> ?_, .inr ⟨seen,j,k,rfl,rfl,hk,rfl⟩⟩;show (!Nat.beq k' ((k:Int).toNat)&&su (B.get (k'+1)))=true↔_;rw[zd4,bS,za2,e7];simp only[zap,zdC];constructor
    ·rintro⟨hne,j',Z,hs⟩;refine⟨j',Z, ?_⟩;rw[contains_push,hs,zbi,zdA];rintro rfl;rw[hk] at Z;exact hne (zbk Z).symm
    ·rintro⟨j',Z,hs⟩;rw[contains_push,zbs,zdA] at hs;refine⟨?_,j',Z,hs.1⟩;rintro rfl;have h2:=(List.getElem?_inj (zaV.1 hk).1 e6).1 (hk.trans Z.symm);exact hs.2 h2.symm
  ·exact h.elim
 ·exact h.elim
theorem DN (Y:BC W0 bl β w) (hnx:NX bl nx) (h:runX P bl nx (.ent i) K):
 se P W0 bl nx β w ((do let v <-Instr.entry ((SV.ptr i 0 0).conc β);pure (Next.value v):Sem Next).run P w) K:=by
 simp only[runX] at h;split at h
 ·rename_i B hB;cases hit:B.kd.it with
  |false=>rw[hit] at h;exact h.elim
  |true=>
   rw[hit] at h;simp only[zdu] at h;have hm:=BK.it_map hit;have hoff:=Y.maps.off i B hB hit;have hptr:(SV.ptr i 0 0).conc β= .pointer (some ⟨(β i).blk,0,none⟩):=by simp[SV.conc,addr,hoff]
   rw[hptr];split at h
   ·rename_i k v hg;obtain⟨m1,m2,m3,m4⟩:=Y.maps.ok i B hB hm;have fin: ∀{m V J:Nat} {seen:Array Nat} {es:Array MapEntry} {e:MapEntry},w.heap[(β i).blk]? =some (.mapIter (some m) V (seen.push e.born) J)->w.heap[m]? =some (.map es J)->e∈es.toList->(es.toList.map (·.born)).Nodup->k.conc β=e.key->v.conc β=e.val->Live bl k->Live bl v->
     se P W0 bl nx β w ((do let v <-Instr.entry (.pointer (some ⟨(β i).blk,0,none⟩));pure (Next.value v):Sem Next).run P w) K:=by
     intro m V J seen es e hr hb he hn hk hv lk lv;refine .inr ⟨β,w, .tup [k,v],_,nx, [], .inl ?_,h,Y,hnx,λj hj=> ?_,Tr.refl _ _ _ _,za0 _⟩
     ·rw[zdI,run_entry_at w _ m V seen es J e hr hb he hn];simp[SV.conc,SV.concs,hk,hv,Result.andThen]
     ·simp only[SV.ids,SV.idss,zbf,za8] at hj;rcases hj with hj|hj
      ·exact lk j hj
      ·exact lv j hj
    cases Z:B.kd with
    |itL=>
     rw[Z] at m4;obtain⟨m,V,c0,J,seen,es,e1,e2,e3,e4,e5,e6,e7,e8,e9⟩:=m4;have lv:=λe s hs=>Y.maps.live i B e s hB (by rw[Z];rfl) hs;rcases e9 with e9|⟨s',j,k',v',k1,k2,k3,k4⟩
     ·rw[hg] at e9;cases e9
     ·rw[hg] at k3;simp only[zca,and_true] at k3;obtain⟨rfl,rfl⟩:=k3;subst k1 k2;have hj:j<es.size:=(zaq.1 k4).1;refine fin (e:={key:=k.conc β,val:=v.conc β,born:=j}) e1 e2 (by rw[Array.mem_toList_iff];exact zd3 k4) ?_ rfl rfl (lv 0 _ (by rw[hg];simp)) (lv 0 _ (by rw[hg];simp));have:es.toList.map (·.born)=List.range es.size:=by
       apply zbu (by simp);intro n h1 h2;have hn:n<es.size:=by simpa using h1
       obtain⟨kk,vv,_,q⟩:=e7 n hn;rw[zcr hn] at q;simp only[List.getElem_map,Array.getElem_toList,List.getElem_range];rw[zbk q]
      rw[this];exact List.nodup_range
    |itK=>
     rw[Z] at m4;obtain⟨m,V,c0,seen,L,e1,e2,e3,e4,e5,e6,e7,e8⟩:=m4;rcases e8 with e8|⟨s',j,k',k1,k2,k3,k4⟩
     ·rw[hg] at e8;cases e8
     ·rw[hg] at k4;simp only[zca,and_true] at k4;obtain⟨rfl,rfl⟩:=k4;subst k1 k2;have hel:(dS true 0 L)[j]? =some {key:= .int .i64 k',val:= .bool true,born:=j}:=by
       rw[zaL] at k3;cases hL:L[j]? with
       |none=>rw[hL] at k3;cases k3
       |some p=>
        obtain⟨k2,z⟩:=p;rw[hL] at k3;obtain rfl:k2=k':=by simpa using k3
        have hz:z=1:=e5 _ (zal hL);subst hz;have:=nZ true L 0 j k2 1 hL;rw[this,za7];rfl
      refine fin (e:={key:= .int .i64 k',val:= .bool true,born:=j}) e1 e2 (by simpa using zal hel) ?_ rfl rfl (λx hx=>by simp[SV.ids] at hx) (λx hx=>by simp[SV.ids] at hx);have: ∀(L:List (Nat×Int)) (a:Nat),(dS true a L).map (·.born)=(List.range L.length).map (a+ ·):=by
       intro L
       induction L with
       |nil=>intro a;rfl
       |cons p L ih=>
        intro a;obtain⟨k,v⟩:=p;simp only[dS,zaK,za4,List.range_succ_eq_map,zcu];rw[ih (a+1)];simp only[zaY,zca,true_and];apply zbH;intro x _;simp only[Function.comp];omega
      rw[List.toList_toArray,this];simpa using List.nodup_range
    |_=>rw[Z] at hit;cases hit
   ·exact h.elim
 ·exact h.elim
theorem sf {β:zdM} {t:TypeId} {k:SV} {K:Option SV->Prop} {d:TypeDesc} (V:P.underlying t=some d): ∀(l:List (SV×SV)) (i j:Nat),uU P t k K l->
 ∃r:Option SV,K r/\(∀v,r=some v-> ∃p∈l,p.2=v)/\ ∃q,Instr.findNow d (k.conc β) (pf β i l) j=some q/\q.map (·.2)=r.map (SV.conc β)
 | [],i,j,h=>⟨none,h,λv hv=>(by cases hv),none,rfl,rfl⟩
 |(k',v)::l,i,j,h=>by
  simp only[uU] at h;split at h
  ·rename_i b Z;obtain⟨Y,h1,_,h2⟩:=js (β:=β) Z;rw[V] at h1;obtain rfl:d=Y:=by simpa using h1
   cases b with
   |true=>exact⟨some v,h,λu J=>⟨_,zbF,by simpa using J⟩,some (j,v.conc β),by simp only[pf,Instr.findNow,h2],rfl⟩
   |false=>
    obtain⟨r,k1,k2,q,k3,k4⟩:=sf V l (i+1) (j+1) h;exact⟨r,k1,λu J=>by obtain⟨p,hp,e⟩:=k2 u J;exact⟨p,zan _ hp,e⟩,q,by simp only[pf,Instr.findNow,h2];exact k3,k4⟩
  ·exact h.elim
variable {A:AS} {a:Act} {o:Oper}
theorem Ak (hfr:FR β A a) (hbc:BC W0 A.bl β w) {T:(zdU)->Prop} (J:R4 P A o=some T) {K:zdU} (h:T K):
 o.guard=none/\ ∃s,K s/\(execOp a.eval o).run P w= .ok (.value (s.conc β)) w/\Live A.bl s:=by
 have V: ∀{y:Operand} {s:SV},ev A.tm [] y=some s->a.eval y=s.conc β/\Live A.bl s:=λhe=>bu hfr (G:= []) (λp hp=>by cases hp) he;obtain⟨o1,o2,o3,o4,o5,o6⟩:=o;unfold R4 at J;simp only[] at J;split at J
 ·rename_i t m k ok;split at J
  ·rename_i i k' kt et hm hk ht;split at J
   ·rename_i B z hB hz;have Z:=aaR (P:=P) hz w;split at J
    ·rename_i Y;obtain⟨m1,m2,m3,m4⟩:=hbc.maps.ok i B hB (by rw[Y];rfl);rw[Y] at m4;obtain⟨es,e1,e2,e3,e4⟩:=m4;split at J
     ·rename_i l c hl hc;simp only[za1] at J;subst J;obtain⟨a1,a2,a3⟩:=lG e3 e4 64 0 l (zaA _) hl;rw[zaZ] at a1;obtain⟨d,hd,hkey,_⟩:=js (β:=β) hc;have hck:=λem=>MapKept.run_checkKey (w:=w) hd hkey em 9999;obtain⟨r,k1,k2,q,k3,k4⟩:=sf (β:=β) hd l 0 0 h;rw[<-a1] at k3;have hfk:=MapKept.run_findKey (w:=w) hd k3;refine⟨rfl, ?_⟩;cases r with
      |some v=>
       cases q with
       |none=>simp at k4
       |some q=>
        obtain⟨q1,q2⟩:=q;simp only[zb0,za1] at k4;subst k4;refine⟨_,k1, ?_,iP ?_⟩
        ·rw[iO];simp[execOp,(V hm).1,(V hk).1,Instr.lookup,SV.conc,run_underlying ht,MapKept.run_getObj_map e1,hck,hfk,Result.andThen]
        ·obtain⟨p,hp,rfl⟩:=k2 v rfl;obtain⟨j,hj⟩:=a3 p hp;exact hbc.maps.live i B j p.2 hB (by rw[Y];rfl) (by rw[hj];simp)
      |none=>
       cases q with
       |some q=>simp at k4
       |none=>
        refine⟨_,k1, ?_,iP (ye _ z)⟩;rw[iO,rE];simp[execOp,(V hm).1,(V hk).1,Instr.lookup,SV.conc,run_underlying ht,MapKept.run_getObj_map e1,hck,hfk,Z,Result.andThen]
     ·cases J
    ·cases J
   ·cases J
  ·cases J
 ·cases J
theorem yj {el:TypeId} (J:P.underlying t=some (.slice el)) (d:Nat) (a:Option Addr) (n c m k:Nat) (w:World):(Op.equalIn (d+1) t (.slice a n c) (.slice none m k)).run P w= .ok a.isNone w:=by
 cases a<;>simp[Op.equalIn,run_underlying J]
theorem Ca {ps rs:Array TypeId} {vr:Bool} (J:P.underlying t=some (.func ps rs vr)) (d:Nat) (w:World) (f:Fn) (a b:Array Value):(Op.equalIn (d+1) t (.func f a b) .nilFunc).run P w= .ok false w/\(Op.equalIn (d+1) t .nilFunc .nilFunc).run P w= .ok true w:=by
 constructor<;>simp[Op.equalIn,run_underlying J]
theorem qT {ρ:Operand->Value} {x:Operand} {y v:Value} {yt:TypeId} {c b:Bool} {op:BinOp} {o1:Option Tmp} {o3:TypeId} {o4:String} {o5:Array Edge} {g:Option (Nat×Bool)} (hop:op= .eql/\b=true\/op= .neq/\b=false) (V:ρ x=v) (Y:ρ (.const y)=y)
 (h1: ∀op,eqGuard op ty x (.const y) v y=pure ()) (h2:binOp .eql ty v y=do pure (.bool (<-Op.equal ty v y))) (h3:binOp .neq ty v y=do pure (.bool (!(<-Op.equal ty v y)))) (J:(Op.equal ty v y).run P w= .ok c w):
 (execOp ρ ⟨o1, .binOp op ty x (.const y) yt,o3,o4,o5,g⟩).run P w= .ok (.value (.bool (bif b then c else !c))) w:=by
 show ((do eqGuard op ty x (.const y) (ρ x) (ρ (.const y));binOp op ty (ρ x) (ρ (.const y)):Sem Value)>>=λv=>pure (Next.value v)).run P w=_;rw[V,Y,h1];rcases hop with ⟨rfl,rfl⟩|⟨rfl,rfl⟩
 ·rw[h2];simp[J]
 ·rw[h3];simp[J]
theorem DO (hfr:FR β A a) (Z:BC W0 A.bl β w) (Y:NX A.bl A.nx) {x:XOp} (J:uq A o=some x) (h:runX P A.bl A.nx x K):
 o.guard=none/\se P W0 A.bl A.nx β w ((execOp a.eval o).run P w) K:=by
 have V: ∀{y:Operand} {s:SV},ev A.tm [] y=some s->a.eval y=s.conc β/\Live A.bl s:=λhe=>bu hfr (G:= []) (λp hp=>by cases hp) he;obtain⟨o1,o2,o3,o4,o5,o6⟩:=o;unfold uq at J;simp only[] at J;split at J
 ·split at J
  ·rename_i t v he;simp only[za1] at J;subst J;refine⟨rfl, .inl ⟨_, ?_,h⟩⟩;simp[execOp,(V he).1,SV.conc,Instr.panic,goPanic]
  ·cases J
 ·split at J
  ·rename_i t y _ v he;simp only[za1] at J;subst J;simp only[runX] at h;split at h
   ·exact h.elim
   ·rename_i d hd hu;refine⟨rfl, .inr ⟨β,w, .val (.iface t v),_,_, [], .inl ?_,h,Z,Y,λj hj=>by simp[SV.ids] at hj,Tr.refl _ _ _ _,za0 _⟩⟩;simp only[execOp,(V he).1,SV.conc,Instr.makeInterface,zdI,run_underlying hu,zdH];cases d<;>first|rfl|exact absurd rfl (hd _)
   ·exact h.elim
  ·cases J
 ·rename_i t;simp only[za1] at J;subst J;simp only[runX] at h;split at h
  ·rename_i kd hk;obtain⟨hm,hmi⟩:kd.map=true/\kd.it=false:=by
    unfold Pm at hk;split at hk
    ·split at hk<;>first|(simp only[za1] at hk;subst hk;exact⟨rfl,rfl⟩)|cases hk
    ·cases hk
   refine⟨rfl, .inr ⟨_,_, .mp A.nx,_,_, [A.nx], .inl ?_,h,Z.newMap (Y _ (za0 _)) hm hmi,λj hj=> ?_,λj hj=> ?_,Tr.newB Y _,zaT _⟩⟩
   ·have e:(Instr.makeMap t none).run P w= .ok (.map (some w.heap.size)) (w.alloc (.map #[] 0)):=rfl;simp[execOp,SV.conc,aA,e]
   ·rw[ak (by omega)];exact Y j (by omega)
   ·simp only[SV.ids,zaj] at hj;subst hj;rw[az];simp
  ·exact h.elim
 ·split at J
  ·rename_i t m _ i hm;simp only[za1] at J;subst J;refine⟨rfl, ?_⟩;have r:=DL Z Y h;simp only[execOp,(V hm).1,SV.conc] at r ⊢;exact r
  ·cases J
 ·split at J
  ·rename_i y _ i hm;simp only[za1] at J;subst J;refine⟨rfl, ?_⟩;have r:=DM (ty:=o3) Z Y h;simp only[execOp,(V hm).1] at r ⊢;exact r
  ·cases J
 ·split at J
  ·rename_i y _ i hm;simp only[za1] at J;subst J;refine⟨rfl, ?_⟩;have r:=DN Z Y h;simp only[execOp,(V hm).1] at r ⊢;exact r
  ·cases J
 ·split at J
  ·rename_i t m k v i k' v' hm hk hv;simp only[za1] at J;subst J;refine⟨rfl, ?_⟩;have r:=vd Z Y (V hk).2 (V hv).2 h;simp only[execOp,(V hm).1,(V hk).1,(V hv).1,SV.conc] at r ⊢;exact r
  ·cases J
 ·split at J
  ·rename_i t m k v i k' v' hm hk hv;simp only[za1] at J;subst J;refine⟨rfl, ?_⟩;have r:=vd Z Y (V hk).2 (V hv).2 h;simp only[execOp,(V hm).1,(V hk).1,(V hv).1,SV.conc] at r ⊢;exact r
  ·cases J
 ·rename_i op ty x y yt;have fin: ∀{s:SV} {b f:Bool},ev A.tm [] x=some s->runX P A.bl A.nx (.nil ty b f s) K->B5 y=some f->(op= .eql/\b=true\/op= .neq/\b=false)->(none:Option (Nat×Bool))=none/\se P W0 A.bl A.nx β w ((execOp a.eval ⟨o1, .binOp op ty x (.const y) yt,o3,o4,o5,none⟩).run P w) K:=by
   intro s b f he h hy hop;obtain⟨e1,l1⟩:=V he;have ey:a.eval (.const y)=y:=rfl;have done: ∀{c:Bool},(execOp a.eval ⟨o1, .binOp op ty x (.const y) yt,o3,o4,o5,none⟩).run P w= .ok (.value (.bool c)) w->K (.ok (.val (.bool c))) A.bl A.nx []->se P W0 A.bl A.nx β w ((execOp a.eval ⟨o1, .binOp op ty x (.const y) yt,o3,o4,o5,none⟩).run P w) K:=
    λhr hK=> .inr ⟨β,w, .val (.bool _),_,_, [], .inl hr,hK,Z,Y,λj hj=>by simp[SV.ids] at hj,Tr.refl _ _ _ _,za0 _⟩
   have hyv:(f=false/\ ∃n c,y= .slice none n c)\/(f=true/\y= .nilFunc):=by
    unfold B5 at hy;split at hy
    ·simp only[za1] at hy;exact .inl ⟨hy.symm,_,_,rfl⟩
    ·simp only[za1] at hy;exact .inr ⟨hy.symm,rfl⟩
    ·cases hy
   refine⟨rfl, ?_⟩;simp only[runX] at h;split at h
   ·rename_i el i e n hu;obtain⟨_,m,c,rfl⟩|⟨hf,_⟩:=hyv
    ·split at h
     ·rename_i B hB;obtain⟨hb,h⟩:=Xg.1 h;simp only[za2] at hb;have hnl:=(Z.blk i B hB (λe=>by rw[e] at hb;exact absurd hb.2 (by decide))).nn hb.1;refine done ?_ h;have:=qT (P:=P) (w:=w) (c:=false) (o1:=o1) (o3:=o3) (o4:=o4) (o5:=o5) (yt:=yt) (g:=none) hop e1 ey (by simp only[SV.conc,hnl,zdt];intro op;cases op<;>rfl) (by simp only[SV.conc,hnl,zdt];rfl) (by simp only[SV.conc,hnl,zdt];rfl) (by simp only[SV.conc,hnl,zdt];exact yj hu 9999 _ _ _ _ _ w);rw[this];cases b<;>rfl
     ·exact h.elim
    ·cases hf
   ·rename_i el n c hu;obtain⟨_,m,c',rfl⟩|⟨hf,_⟩:=hyv
    ·refine done ?_ h;have:=qT (P:=P) (w:=w) (c:=true) (o1:=o1) (o3:=o3) (o4:=o4) (o5:=o5) (yt:=yt) (g:=none) hop e1 ey (by intro op;cases op<;>rfl) rfl rfl (yj hu 9999 _ _ _ _ _ w);rw[this];cases b<;>rfl
    ·cases hf
   ·rename_i ps rs vr fn fs cs hu;obtain⟨hf,_⟩|⟨_,rfl⟩:=hyv
    ·cases hf
    ·refine done ?_ h;have:=qT (P:=P) (w:=w) (c:=false) (o1:=o1) (o3:=o3) (o4:=o4) (o5:=o5) (yt:=yt) (g:=none) hop e1 ey (by intro op;cases op<;>rfl) rfl rfl (Ca hu 9999 w _ _ _).1;rw[this];cases b<;>rfl
   ·rename_i ps rs vr hu;obtain⟨hf,_⟩|⟨_,rfl⟩:=hyv
    ·cases hf
    ·refine done ?_ h;have:=qT (P:=P) (w:=w) (c:=true) (o1:=o1) (o3:=o3) (o4:=o4) (o5:=o5) (yt:=yt) (g:=none) hop e1 ey (by intro op;cases op<;>rfl) rfl rfl (Ca hu 9999 w (.func 0) #[] #[]).2;rw[this];cases b<;>rfl
   ·exact h.elim
  split at J
  ·rename_i s f he hy;simp only[za1] at J;subst J;exact fin he h hy (.inl ⟨rfl,rfl⟩)
  ·rename_i s f he hy;simp only[za1] at J;subst J;exact fin he h hy (.inr ⟨rfl,rfl⟩)
  ·cases J
 ·cases J
end
section
variable {P:Program} {W0:Base}
structure Trs (A:AS) (β:Nat->Loc) (A':AS) (β':Nat->Loc):Prop where
 tr:Tr A.bl A.nx A'.wl β A'.bl β'
 wl: ∀i∈A.wl,i∈A'.wl
 nx:A.nx<=A'.nx
 nt:A'.nt=A.nt
theorem Trs.refl (A:AS) (β:zdM):Trs A β A β:=⟨Tr.refl _ _ _ _,λ_ h=>h,za0 _,rfl⟩
variable {A:AS} {β γ:zdM}
theorem Trs.trans {B C:AS} {δ:zdM} (h:Trs A β B γ) (k:Trs B γ C δ):Trs A β C δ:=
 ⟨h.tr.trans k.tr h.nx k.wl (λ_ h=>h),λi hi=>k.wl i (h.wl i hi),zac h.nx k.nx,k.nt.trans h.nt⟩
structure Is (W0:Base) (A:AS) (β:Nat->Loc) (a:Act) (w:World):Prop where
 fr:FR β A a
 bc:BC W0 A.bl β w
 nx:NX A.bl A.nx
 sd:A.sd=W0.sd
def SideOK (P:Program) (W0 B:Base) (A:AS) (β:zdM):Prop:= ∀x t,A.sd.2=some (x,t)->A.bl x≠none/\ ∃d at' b g,A.sd.1=some d/\BAtOK P d at'/\(β x).blk=b/\(β x).off=0/\at' b g t B.w/\B.F b=true/\B.F g=true/\W0.mine b/\W0.mine g
def IsX (P:Program) (W0:Base) (A:AS) (β:zdM) (a:Act) (w:World):Prop:= ∃B,SubB B W0/\(∀b,B.out b->W0.out b)/\Is B A β a w/\SideOK P W0 B A β
variable {B:Base} {A':AS} {β':zdM}
theorem SideOK.step (h:SideOK P W0 B A β) (J:A'.sd=A.sd) (Y: ∀i,A.bl i≠none->A'.bl i≠none/\β' i=β i):SideOK P W0 B A' β':=by
 intro x t V;rw[J] at V ⊢;obtain⟨h1,d,at',b,g,k1,k2,k3,Z,k5⟩:=h x t V;obtain⟨h2,h3⟩:=Y x h1;exact⟨h2,d,at',b,g,k1,k2,by rw[h3];exact k3,by rw[h3];exact Z,k5⟩
variable {a:Act} {w w':World}
theorem IsX.wrap {a':Act} (Z:SubB B W0) (V: ∀b,B.out b->W0.out b) (hs:Is B A β a w) (J:SideOK P W0 B A β) (Y:Is B A' β' a' w') (ht:Trs A β A' β'):IsX P W0 A' β' a' w':=
 ⟨B,Z,V,Y,J.step (Y.sd.trans hs.sd.symm) λi hi=>⟨ht.tr.dom hi,ht.tr.same i hi⟩⟩
theorem Is.x (h:Is W0 A β a w) (V:A.sd.2=none):IsX P W0 A β a w:=
 ⟨W0,SubB.refl W0,λ_ h=>h,h,λx t J=>by rw[V] at J;cases J⟩
theorem IsX.up (h:IsX P W0 A β a w):Is {W0 with sd:=A.sd} A β a w:=by
 obtain⟨B,J,Y,h,_⟩:=h;have k:BC W0 A.bl β w:=h.bc.rebase (J.pres h.bc.below) (λ_ _ _ _ _ V=>J.mine V) (λ_ _ _ _ _ h=>Y _ h);exact⟨h.fr,k.rebase ⟨k.below.os,k.below.tape,k.below.output,k.below.size,k.below.block⟩ (λ_ _ _ _ _ h=>h) (λ_ _ _ _ _ h=>h),h.nx,rfl⟩
def Post (P:Program) (W0:Base) (A:AS) (β:zdM) (K:Exit->zdV):zdZ:=
 λe a w=> ∃A' β',K e A'/\IsX P W0 A' β' a w/\Trs A β A' β'
def Ends (β:zdM):Res->Ending->Prop
 | .ok r,e=>e= .returned (r.conc β)
 | .pan v,e=>e= .panicked [{v:=v,recovered:=false}]
def sg (bl:zdP):Res->Prop
 | .ok r=>Live bl r
 | .pan _=>True
def kn (P:Program) (W0:Base) (inl:Inl):Prop:=
 ∀(f:FuncId) (args:zdN) (bl:zdP) (nx:Nat) (wl:zdL) (K:Aft) (β:zdM) (w:World),
  inl f args bl nx wl K->BC W0 bl β w->NX bl nx->(∀s∈args,Live bl s)->
  V0 P f/\Calls P f (SV.concs β args).toArray w λe w'=> ∃β' r bl' nx' wl',Ends β' r e/\K r bl' nx' wl'/\BC W0 bl' β' w'/\NX bl' nx'/\sg bl' r/\Tr bl nx wl' β bl' β'/\(∀i∈wl,i∈wl')/\nx<=nx'
variable {id:Nat}
theorem NX.apply {bl:zdP} {nx:Nat} (h:NX bl nx) (E:Eff) (hid:id<nx+1) (Z:nx<=id):NX (VO bl id E) (nx+1):=by
 intro i hi;have h0:bl i=none:=h i (by omega);have V:i≠id:=by omega
 have key:(match E.wr with
  |some (i,e,o,cs)=>match bl i with
   |some B=>upd bl i (B.put e o cs)
   |none=>bl
  |none=>bl) i=none:=by
  cases hw:E.wr with
  |none=>exact h0
  |some p=>
   obtain⟨j,e,o,cs⟩:=p;simp only[];cases Y:bl j with
   |none=>exact h0
   |some C=>
    simp only[];have J:i≠j:=λe=>by rw[e,Y] at h0;cases h0
    rw[ak J];exact h0
 unfold VO;cases Z:E.nw with
 |none=>exact key
 |some N=>exact(ak V).trans key
variable {Γ:zdR} {ops:zdS} {o:Oper}
theorem Kg {f:ga} (h:step P Γ ops id o A=some (true,A',f)): ∃E,A'.bl=VO A.bl id E:=by
 obtain⟨D,_,rfl,_⟩:=VV.1 h;exact⟨D.E,rfl⟩
theorem apL (h:FR β A a):FR β (endG A) a:=by
 refine⟨h.defers,h.size, ?_, ?_, ?_⟩
 ·intro t s J;simp only[endG] at J;cases hg:A.og t with
  |true=>rw[hg] at J;simp at J
  |false=>rw[hg] at J;exact h.v t s (by simpa using J)
 ·intro t u b s J;exfalso;simp only[endG] at J;cases hg:A.og t with
  |true=>rw[hg] at J;simp at J
  |false=>
   rw[hg] at J;have:=(h.os t u b s (by simpa using J)).1;rw[hg] at this;cases this
 ·intro t u b s J;exfalso;simp only[endG] at J;cases hg:A.og t with
  |true=>rw[hg] at J;simp at J
  |false=>
   rw[hg] at J;have:=(h.os t u b s (by simpa using J)).1;rw[hg] at this;cases this
theorem FR.frame (h:FR β A a) (nx:Nat) (wl:zdL):FR β {A with nx:=nx,wl:=wl} a:=⟨h.defers,h.size,h.v,h.opt,h.os⟩
theorem Cb {f:zdT}: ∀{n:Nat},rL n f=true-> ∀e,e<n->f e=true
 |0,_,e,J=>by omega
 |k+1,h,e,J=>by
  simp only[rL,za2] at h;by_cases h2:e=k
  ·subst h2;exact h.1
  ·exact Cb h.2 e (by omega)
theorem sh {f:Nat->zdO} {s:Nat}: ∀(m:Nat),(∀i,i<m->(f i).length=s)->((List.range m).flatMap f).length=m*s
 |0,_=>by simp
 |m+1,h=>by
  rw[zd5,zd6,za3,sh m (λi hi=>h i (by omega))];simp[h m (by omega),zaG]
theorem yk {f:Nat->zdO} {s:Nat}: ∀(m:Nat),(∀i,i<m->(f i).length=s)-> ∀{i o:Nat},i<m->o<s->((List.range m).flatMap f)[i*s+o]? =(f i)[o]?
 |0,_,i,o,hi,_=>by omega
 |m+1,h,i,o,hi,Y=>by
  have V:=sh m (λi hi=>h i (by omega));rw[zd5,zd6];by_cases J:i<m
  ·rw[zbB (by rw[V];exact jS J Y)];exact yk m (λi hi=>h i (by omega)) J Y
  ·obtain rfl:i=m:=by omega
   rw[zbY (by rw[V];omega),V];simp
def jh (β:zdM) (get:zdQ) (e m:Nat):zdO:=(List.range m).flatMap λi=>SV.concs β (get (e+i))
variable {get:zdQ} {e m:Nat}
theorem sj {s:Nat} (h: ∀i,i<m->(get (e+i)).length=s):(jh β get e m).length=m*s:=
 sh m λi hi=>by rw[SV.concs_eq,zaB];exact h i hi
theorem sw {s:Nat} (h: ∀i,i<m->(get (e+i)).length=s) {i o:Nat} (hi:i<m) (J:o<s):(jh β get e m)[i*s+o]? =((get (e+i))[o]?).map (SV.conc β):=by
 unfold jh;rw[yk (f:=λi=>SV.concs β (get (e+i))) m (λi hi=>by rw[SV.concs_eq,zaB];exact h i hi) hi J,SV.concs_eq,zaL]
theorem vf {B:Blk} (q:BlkOK β id B w) (hm:e+m<=B.n) (j:Nat) (u:Value) (V:(jh β B.get e m)[j]? =some u):w.cell? ((addr β id e 0).add j)=some u:=by
 have hs: ∀i,i<m->(B.get (e+i)).length=B.sz:=λi hi=>q.len (e+i) (by omega);have Z:j<m*B.sz:=by
  rcases zah j (m*B.sz) with h|h
  ·exact h
  ·rw[zad (by rw[sj hs];exact h)] at V;cases V
 have J:0<B.sz:=by
  rcases zbK B.sz with h|h
  ·rw[h] at Z;omega
  ·exact h
 have hd:j=j / B.sz*B.sz+j%B.sz:=by rw[zay];exact(zcN j B.sz).symm
 have hi:j / B.sz<m:=(zbO J).2 Z;have ho:j%B.sz<B.sz:=zar _ J;rw[hd,sw hs hi ho] at V;cases Y:(B.get (e+j / B.sz))[j%B.sz]? with
 |none=>rw[Y] at V;cases V
 |some x=>
  rw[Y] at V;simp only[zb0,za1] at V;have:=q.val (e+j / B.sz) (by omega) _ x Y;rw[jr,<-V,<-this]
  congr 1
  unfold addr
  congr 1
  rw[q.sz];have:(e+j / B.sz)*B.sz=e*B.sz+j / B.sz*B.sz:=zaG _ _ _;omega
theorem ym {α β:Type} {l:List α} {f g:α->List β} (h: ∀a∈l,f a=g a):l.flatMap f=l.flatMap g:=by
 rw[List.flatMap_def,List.flatMap_def,zbH h]
variable {n:Nat}
theorem DP {B C:Blk} {s:Nat} (hB: ∀k,k<n->(B.get k).length=s) (J: ∀k,k<m->(C.get (e+k)).length=s) (k:Nat) (V:k<n+m):(ald B.get C.get n e k).length=s:=by
 unfold ald;cases h:Nat.blt k n with
 |true=>simp only[zdu];exact hB k (by simpa [zb2] using h)
 |false=>
  have: ¬k<n:=by rw[aB] at h;simpa using h
  simp only[zdt];exact J (k - n) (by omega)
variable {C:zdQ} {k:Nat}
theorem sA {B:zdQ} (h:k<n):ald B C n e k=B k:=by
 unfold ald;rw[aB,zds h];rfl
theorem n7 {B:zdQ} (h: ¬k<n):ald B C n e k=C (e+(k - n)):=by
 unfold ald;rw[aB,zdv h];rfl
theorem Al {A:AS} {β:zdM} {w:World} (hbc:BC W0 A.bl β w) (hnx:NX A.bl A.nx) {t:TypeId} {x y r:SV} {b:Bool} {bl:zdP} {k:zdL}
 (h:S0 P A t x y=some (b,bl,r,k)) (hb:b=true) (ty:TypeId):
 ∃β' w',(Builtin.append_ #[t,t] ty #[x.conc β,y.conc β]).run P w= .ok (r.conc β') w'/\BC W0 bl β' w'/\NX bl (A.nx+1)/\Live bl r/\Tr A.bl A.nx k β bl β':=by
 have hid:A.bl A.nx=none:=hnx _ (za0 _);unfold S0 at h;split at h
 ·rename_i el j e m hu;split at h
  ·rename_i J C hinf hC
   have key:C.kd≠ .gone->(bif Nat.beq C.sz J.size&&Nat.ble 1 J.size&&Nat.ble 1 J.bytes&&(match J.zero with
    |some z=>Nat.beq z.cells.size J.size
    |none=>false) then(match x with
    | .val (.slice none 0 0)=>some (decide (0<m)&&decide (e+m<=C.n)&&decide (m*J.bytes<=140737488355328)&&rL m (λk=>(C.get (e+k)).all SV.one),upd A.bl A.nx {n:=m,sz:=C.sz,get:=λk=>C.get (e+k),kd:= .own},SV.slc A.nx 0 m,([]:zdL))
    | .slc i 0 n=>match A.bl i with
      |some B=>match B.kd with
       | .own=>bif Nat.beq B.sz C.sz&& !Nat.beq i j then
          some (decide (0<m)&&decide (e+m<=C.n)&&decide (n<=B.n)&&decide ((n+m)*J.bytes<=140737488355328)&&rL m (λk=>(C.get (e+k)).all SV.one),
           upd (upd A.bl i {B with kd:= .gone}) A.nx {n:=n+m,sz:=C.sz,get:=ald B.get C.get n e,kd:= .own}, .slc A.nx 0 (n+m), [i]) else none
       |_=>none
      |none=>none
    |_=>none) else none)=some (b,bl,r,k)-> ∃β' w',(Builtin.append_ #[t,t] ty #[x.conc β,(SV.slc j e m).conc β]).run P w= .ok (r.conc β') w'/\BC W0 bl β' w'/\NX bl (A.nx+1)/\Live bl r/\Tr A.bl A.nx k β bl β':=by
    intro hCg h
    cases hc:(Nat.beq C.sz J.size&&Nat.ble 1 J.size&&Nat.ble 1 J.bytes&&(match J.zero with
     |some z=>Nat.beq z.cells.size J.size
     |none=>false)) with
    |false=>rw[hc] at h;cases h
    |true=>
     rw[hc] at h;simp only[zdu] at h;simp only[za2] at hc;obtain⟨⟨⟨c1,c2⟩,c3⟩,c4⟩:=hc;have hsz:=zab c1;have hs1:=zak c2;have hby:=zak c3;obtain⟨z,hz,hzs⟩: ∃z,J.zero=some z/\z.cells.size=J.size:=by
      cases hz:J.zero with
      |none=>rw[hz] at c4;cases c4
      |some z=>rw[hz] at c4;exact⟨z,rfl,zab c4⟩
     have qC:=hbc.blk j C hC hCg;have news:0<m->e+m<=C.n->rL m (λk=>(C.get (e+k)).all SV.one)=true->
      (jh β C.get e m).length=m*J.size/\(∀i u,(jh β C.get e m)[i]? =some u->w.cell? ((addr β j e 0).add i)=some u)/\(∀u∈jh β C.get e m,u.oneCell'=true)/\(SV.slc j e m).conc β= .slice (some (addr β j e 0)) m ((β j).cap - e):=by
      intro h0 h1 h2;have Y: ∀i,i<m->(C.get (e+i)).length=C.sz:=λi hi=>qC.len (e+i) (by omega);refine⟨by rw[sj Y,hsz],λi u hu=>vf qC h1 i u hu, ?_, ?_⟩
      ·intro u hu;unfold jh at hu;simp only[List.mem_flatMap,zaC] at hu;obtain⟨i,hi,hu⟩:=hu;rw[SV.concs_eq] at hu;obtain⟨s,hs',rfl⟩:=zaz.1 hu;have:=Cb h2 i hi;exact SV.one_conc β (zaf.1 this s hs')
      ·have:=qC.le;exact jq (qC.not_nil (e:=e) (by omega)) (.inl (by omega))
     have fresh: ∀(V:zdP),BC W0 V β w->V A.nx=none-> ∀(N:Blk) (w':World) (v':Value),N.kd= .own->N.sz=C.sz->0<N.n->N.nn=true->(∀e,e<N.n->(N.get e).length=C.sz)->
      (∀(e o:Nat) (s:SV),e<N.n->(N.get e)[o]? =some s->Live V s)->w'.ownsRow w.heap.size el J.size v' N.n (jh β N.get 0 N.n)->w.grownBy w' none->
      ∃β',v'=(SV.slc A.nx 0 N.n).conc β'/\BC W0 (upd V A.nx N) β' w'/\ ∀i,V i≠none->β' i=β i:=by
      intro V h0 hid0 N w' v' k1 k2 k3 k4 k5 k6 hown hgr;obtain⟨_,⟨_,h1⟩|⟨g,cap,cur,rfl,hg,hheap,hcap,_,hcur,htake⟩⟩:=hown
      ·omega
      ·have hb:Below w.heap.size w w':=⟨hgr.os,hgr.tape,hgr.output,hgr.size,λk Z=>hgr.block k Z (by simp)⟩;have hcell: ∀i,w'.cell? ⟨g,i,none⟩=cur[i]? :=λi=>by simp[World.cell?,hheap]
       have hlt:g<w'.heap.size:=by
        rcases zah g w'.heap.size with h|h
        ·exact h
        ·rw[zcD h] at hheap;cases hheap
       refine⟨gp β A.nx ⟨g,0,C.sz,cap,false⟩, ?_, ?_,λi hi=>aC λh=>hi (h▸hid0)⟩
       ·rw[jq (by rw[aA]) (.inr rfl)];simp[addr,aA]
       ·refine h0.allocW hid0 k1 (by rw[k2];exact k5) k6 hb (by simp[k2]) hg hlt hcap (λh=>by cases h) (λ_=>rfl) ?_ ?_ ?_
        ·intro i hi;simp only[za7,hcell] at hi ⊢;rw[k2,hsz] at hi;simp[hcur,hi]
        ·intro i hi;simp[World.frozen?,hheap]
        ·intro e' o s he Y;simp only[za7,hcell];have ho:o<C.sz:=by
          rcases zah o C.sz with h'|h'
          ·exact h'
          ·rw[zad (by rw[k5 e' he];exact h')] at Y;cases Y
         have hr:=sw (β:=β) (get:=N.get) (e:=0) (m:=N.n) (s:=C.sz) (λi hi=>by rw[za7];exact k5 i hi) he ho;rw[za7,Y,<-htake] at hr;have hlt2:=jS (n:=N.n) (sz:=C.sz) he ho;rw[zcc (by rw[hsz] at hlt2;rw[hsz];exact hlt2)] at hr;rw[k2];simpa using hr
     have maxb: ∀q,q*J.bytes<=140737488355328->q<=maxLen:=λq hq=>by
      have:q*1<=q*J.bytes:=zb5 _ hby;simp only[maxLen];omega
     have nxup: ∀(V:zdP) (N:Blk),NX V A.nx->NX (upd V A.nx N) (A.nx+1):=λV N h0 i hi=>by
      rw[ak (by omega)];exact h0 i (by omega)
     have liv: ∀(V:zdP) (N:Blk) (n:Nat),Live (upd V A.nx N) (.slc A.nx 0 n):=λV N n i hi=>by
      simp only[SV.ids,zaj] at hi;subst hi;rw[az];simp
     split at h
     ·simp only[za1,zag] at h;obtain⟨rfl,rfl,rfl,rfl⟩:=h;simp only[za2,zdw] at hb;obtain⟨⟨⟨h0,h1⟩,h2⟩,h3⟩:=hb;obtain⟨n1,n2,n3,n4⟩:=news h0 h1 h3;obtain⟨v',w',r1,r2,r3,_⟩:=run_append_own (P:=P) w w.heap.size t ty el J z J.size J.bytes hu hinf hz rfl rfl hzs hs1 (.slice none 0 0) 0 [] (World.ownsRow_nil w _ el J.size) (addr β j e 0) m ((β j).cap - e) _ n1 n2 n3 (by rw[za7];exact maxb m h2) (by rw[za7];exact h2) (za0 _);rw[n4];rw[za7,zaM] at r2;obtain⟨β',e1,e2,e3⟩:=fresh A.bl hbc hid {n:=m,sz:=C.sz,get:=λk=>C.get (e+k),kd:= .own} w' v' rfl rfl h0 rfl (λi hi=>qC.len (e+i) (by simp at hi;omega))
       (λi o s hi Y=>hbc.live j C (e+i) o s hC hCg (by simp at hi;omega) Y) (by
         have:jh β (λk=>C.get (e+k)) 0 m=jh β C.get e m:=by unfold jh;simp
         rw[this];exact r2) r3
      refine⟨β',w', ?_,e2,nxup _ _ hnx,liv _ _ _,⟨λi B hB=>⟨B, ?_,rfl,⟨rfl,rfl⟩, .inl rfl,λ_=>rfl⟩,e3,λi hi h0=> ?_⟩⟩
      ·rw[show (SV.val (.slice none 0 0)).conc β= .slice none 0 0 by rfl,r1,e1]
      ·rw[ak (λh=>by rw[h,hid] at hB;cases hB)];exact hB
      ·rw[ak (by omega)];exact h0
     ·rename_i i n _;split at h
      ·rename_i B hB;split at h
       ·rename_i Z;cases hc:(Nat.beq B.sz C.sz&& !Nat.beq i j) with
        |false=>rw[hc] at h;cases h
        |true=>
         rw[hc] at h;simp only[zdu,za1,zag] at h;obtain⟨rfl,rfl,rfl,rfl⟩:=h;simp only[za2,zap,bS,zdw,zdC] at hc;obtain⟨hBC,hij⟩:=hc;simp only[za2,zdw] at hb;obtain⟨⟨⟨⟨h0,h1⟩,hn⟩,h2⟩,h3⟩:=hb;obtain⟨n1,n2,n3,n4⟩:=news h0 h1 h3;have hng:B.kd≠ .gone:=by rw[Z];simp
         have qB:=hbc.blk i B hB hng;have hne:A.nx≠i:=λh=>by rw[<-h,hid] at hB;cases hB
         have hjl: ∀k,k<n+m->(ald B.get C.get n e k).length=C.sz:=DP (λk Z=>by rw[qB.len k (by omega),hBC]) (λk Z=>qC.len (e+k) (by omega));have hjlive: ∀(k o:Nat) (s:SV),k<n+m->(ald B.get C.get n e k)[o]? =some s->Live A.bl s:=by
          intro k o s Z Y;by_cases hkn:k<n
          ·rw[sA hkn] at Y;exact hbc.live i B k o s hB hng (by omega) Y
          ·rw[n7 hkn] at Y;exact hbc.live j C _ o s hC hCg (by omega) Y
         have htr: ∀β',(∀l,A.bl l≠none->β' l=β l)->Tr A.bl A.nx [i] β (upd (upd A.bl i {B with kd:= .gone}) A.nx {n:=n+m,sz:=C.sz,get:=ald B.get C.get n e,kd:= .own}) β':=by
          intro β' hβ;refine⟨λl D hD=> ?_,hβ,λl hl h0=> ?_⟩
          ·have hl:l≠A.nx:=λh=>by rw[h,hid] at hD;cases hD
           rw[ak hl];by_cases hli:l=i
           ·subst hli;rw[hB] at hD;obtain rfl:B=D:=by simpa using hD
            exact⟨_,az _ _ _,rfl,⟨rfl,rfl⟩, .inr rfl,λh=>absurd (by simp) h⟩
           ·rw[ak hli];exact⟨D,hD,rfl,⟨rfl,rfl⟩, .inl rfl,λ_=>rfl⟩
          ·rw[ak (by omega),ak (λh=>by rw[h,hB] at h0;cases h0)];exact h0
         have hnx':NX (upd A.bl i {B with kd:= .gone}) A.nx:=λl hl=>by
          rw[ak (λh=>by rw[h] at hl;have:=hnx i hl;rw[hB] at this;cases this)];exact hnx l hl
         have hkl:BC W0 (upd A.bl i {B with kd:= .gone}) β w:=hbc.kill i rfl;have hid':upd A.bl i {B with kd:= .gone} A.nx=none:=by rw[ak hne];exact hid
         have grown: ∀v' w',w'.ownsRow w.heap.size el J.size v' (n+m) (jh β B.get 0 n++jh β C.get e m)->w.grownBy w' none->(Builtin.append_ #[t,t] ty #[(SV.slc i 0 n).conc β,(SV.slc j e m).conc β]).run P w= .ok v' w'->
          ∃β' w',(Builtin.append_ #[t,t] ty #[(SV.slc i 0 n).conc β,(SV.slc j e m).conc β]).run P w= .ok ((SV.slc A.nx 0 (n+m)).conc β') w'/\BC W0 (upd (upd A.bl i {B with kd:= .gone}) A.nx {n:=n+m,sz:=C.sz,get:=ald B.get C.get n e,kd:= .own}) β' w'/\NX (upd (upd A.bl i {B with kd:= .gone}) A.nx {n:=n+m,sz:=C.sz,get:=ald B.get C.get n e,kd:= .own}) (A.nx+1)/\Live (upd (upd A.bl i {B with kd:= .gone}) A.nx {n:=n+m,sz:=C.sz,get:=ald B.get C.get n e,kd:= .own}) (.slc A.nx 0 (n+m))/\Tr A.bl A.nx [i] β (upd (upd A.bl i {B with kd:= .gone}) A.nx {n:=n+m,sz:=C.sz,get:=ald B.get C.get n e,kd:= .own}) β':=by
          intro v' w' r2 r3 r1
          obtain⟨β',e1,e2,e3⟩:=fresh _ hkl hid' {n:=n+m,sz:=C.sz,get:=ald B.get C.get n e,kd:= .own} w' v' rfl rfl (by simp;omega) rfl hjl (λk o s Z Y=>(hjlive k o s Z Y).upd) (by
           have:jh β (ald B.get C.get n e) 0 (n+m)=jh β B.get 0 n++jh β C.get e m:=by
            unfold jh;rw[List.range_add,zd6]
            congr 1
            ·apply ym;intro k Z;have hkn:k<n:=by simpa using Z
             rw[za7,sA hkn]
            ·rw[List.flatMap_map];apply ym;intro k Z;rw[za7,n7 (by omega)]
             congr 2;omega
           rw[this];exact r2) r3
          refine⟨β',w',by rw[r1,e1],e2,nxup _ _ hnx',liv _ _ _,htr β' λl hl=>e3 l (BY hl)⟩
         cases hnil:(β i).nil with
         |true=>
          have hcap:=qB.nil hnil;have:=qB.le;obtain rfl:n=0:=by omega
          have ex:(SV.slc i 0 0).conc β= .slice none 0 0:=by simp[SV.conc,hnil,hcap]
          obtain⟨v',w',r1,r2,r3,_⟩:=run_append_own (P:=P) w w.heap.size t ty el J z J.size J.bytes hu hinf hz rfl rfl hzs hs1 (.slice none 0 0) 0 [] (World.ownsRow_nil w _ el J.size) (addr β j e 0) m ((β j).cap - e) _ n1 n2 n3 (maxb _ h2) h2 (za0 _);refine grown v' w' ?_ r3 ?_
          ·have:jh β B.get 0 0= []:=rfl;rw[this];exact r2
          ·rw[ex,n4];exact r1
         |false=>
          have ex:=jq (β:=β) (id:=i) (e:=0) (len:=n) hnil (.inr rfl);by_cases hroom:n+m<=(β i).cap
          ·have hcells: ∀l,l<m*J.size->n*J.size+l<(β i).cap*B.sz:=λl hl=>by
            have h4:(n+m)*B.sz<=(β i).cap*B.sz:=zbm _ hroom;rw[zaG] at h4;rw[<-hsz,<-hBC] at hl ⊢;omega
           have hszi:(β i).sz=J.size:=by rw[qB.sz,hBC,hsz]
           have r1:=run_append_room_cells (P:=P) w t ty el J hu hinf (β i).blk (β i).off n (β i).cap (addr β j e 0) m ((β j).cap - e) _ n1 n2 n3 hroom
            (λl hl=>by
              have:=qB.ex (n*J.size+l) (hcells l (by omega))
              rwa[<-zbr] at this)
            (λl hl=>by
              have:=qB.fr Z (n*J.size+l) (hcells l (by omega))
              rwa[<-zbr] at this)
           have wr:=hbc.writeG hB Z (k:=n*J.size) (vs:=jh β C.get e m) (B':={n:=n+m,sz:=B.sz,get:=ald B.get C.get n e,kd:= .own})
            (by rw[n1];have h4:(n+m)*B.sz<=(β i).cap*B.sz:=zbm _ hroom
                rw[zaG] at h4
                rw[<-hsz,<-hBC];omega) rfl rfl hroom (λ_=>hnil) (λk Z=>by rw[hjl k Z,hBC]) hjlive
            (by
              intro k o s Z Y;have ho:o<C.sz:=by
               rcases zah o C.sz with h'|h'
               ·exact h'
               ·rw[zad (by rw[hjl k Z];exact h')] at Y;cases Y
              rw[n1,<-hsz,hBC];replace Y:(ald B.get C.get n e k)[o]? =some s:=Y;by_cases hkn:k<n
              ·rw[sA hkn] at Y;exact .inr ⟨.inl (jS hkn ho),by omega,Y⟩
              ·rw[n7 hkn] at Y;have hk':k - n<m:=by simp at Z;omega
               have h5:=jS (n:=m) (sz:=C.sz) hk' ho;have h6:k*C.sz=n*C.sz+(k - n)*C.sz:=by rw[<-zaG];congr 1;omega
               refine .inl ⟨by omega,by omega, ?_⟩;rw[show k*C.sz+o - n*C.sz=(k - n)*C.sz+o by omega];rw[sw (λi hi=>qC.len (e+i) (by omega)) hk' ho,Y]
               rfl)
           have rb:=wr.reborn (i:=i) (id:=A.nx) (az _ _ _) rfl (by rw[ak hne];exact hid) (X:={B with kd:= .gone}) rfl;rw[J6] at rb;refine⟨gp β A.nx (β i),_, ?_,by rw[<-hBC];exact rb,nxup _ _ hnx',liv _ _ _,htr _ λl hl=>aC λh=>hl (h▸hid)⟩;rw[ex,n4];rw[show addr β i 0 0=⟨(β i).blk,(β i).off,none⟩ by simp[addr]];rw[zaX];rw[r1]
           congr 1
           rw[jq (by rw[aA];exact hnil) (.inr rfl)];simp[addr,aA]
          ·have hol: ∀k,k<n->(B.get (0+k)).length=J.size:=λk Z=>by rw[za7,qB.len k (by omega),hBC,hsz]
           obtain⟨v',w',r1,r2,r3⟩:=run_append_arg_grows (P:=P) w t ty el J z J.size J.bytes hu hinf hz rfl rfl hzs hs1 (addr β i 0 0) n (β i).cap (jh β B.get 0 n) (sj hol) (λl u hu=>vf qB (by omega) l u hu) (addr β j e 0) m ((β j).cap - e) _ n1 n2 (by omega) (maxb _ h2) h2;refine grown v' w' r2 r3 ?_;rw[ex,n4,zaX];exact r1
       ·cases h
      ·cases h
     ·cases h
   split at h
   ·cases h
   ·rename_i Z;exact key (λe=>Z e) h
  ·cases h
 ·cases h
variable {t:TypeId}
theorem DQ {x y:SV} (h:ac6 A o=some (t,x,y)):o.guard=none/\ ∃c:Call,o.op= .call c/\c.callee= .builtin .append/\c.argTypes= #[t,t]/\evs A.tm [] c.args.toList=some [x,y]:=by
 unfold ac6 at h;split at h
 ·rename_i c hg Z;split at h
  ·rename_i J;split at h
   ·rename_i t1 t2 x1 y1 ht Y;cases V:Nat.beq t1 t2 with
    |false=>rw[V] at h;cases h
    |true=>
     rw[V] at h;simp only[zdu,za1,zag] at h;obtain⟨rfl,rfl,rfl⟩:=h;have:=zab V;subst this;exact⟨hg,c,Z,J,by apply zaW;simpa using ht,Y⟩
   ·cases h
  ·cases h
 ·cases h
variable {inl:Inl} {KP:Value->zdV} {Q:zdZ} {KK:Act->World->Prop}
theorem mP (hinl:kn P W0 inl) {G:List (Nat×Bool)} {T:Aft->Prop} (Z:kQ P Γ inl A o G=some T) {Kn:List Nat->zdV} 
 (h:T (uR A o.dst KP Kn)) (Y:Is W0 A β a w) (hG:DX a G) 
 (hP: ∀v A' w' β',KP v A'->Is W0 A' β' a w'->Trs A β A' β'->Q (pex v) a w')
 (hK: ∀wl A' a' w' β',Kn wl A'->Is W0 A' β' a' w'->Trs A β A' β'->KK a' w'):
 Region.wanted o (yielded ops a.tmps)=true/\o.wp P a w KK Q:=by
 have fin: ∀{β':zdM} {r:SV} {bl:zdP} {nx:Nat} {wl:zdL} {w':World},uR A o.dst KP Kn (.ok r) bl nx wl->BC W0 bl β' w'->NX bl nx->Live bl r->Tr A.bl A.nx wl β bl β'->A.nx<=nx->KK (a.put o.dst (r.conc β')) w':=by
  intro β' r bl nx wl w' hk k1 k2 k3 k4 k6;simp only[uR] at hk;split at hk
  ·rename_i A1 hp;have fr1:=(Y.fr.carry k4).frame nx (wl++A.wl);obtain⟨q1,q2,q3,q4,q5⟩:=FR.putD fr1 k3 hp;refine hK _ A1 _ w' β' hk ⟨q1,by rw[q2];exact k1,by rw[q2,q3];exact k2,(nB hp).trans Y.sd⟩ ⟨?_, ?_, ?_,q4⟩
   ·rw[q2,q5];exact k4.mono λi hi=>by simp[hi]
   ·rw[q5];exact λi hi=>by simp[hi]
   ·rw[q3];exact k6
  ·exact hk.elim
 unfold kQ at Z;split at Z
 ·rename_i x V;simp only[za1] at Z;subst Z;obtain⟨hg,hr⟩:=DO Y.fr Y.bc Y.nx V h;refine⟨by simp[Region.wanted,hg], ?_⟩;unfold Oper.wp;rcases hr with ⟨v,J,hk⟩|⟨β',w',r,bl',nx',wl,J,hk,k1,k2,k3,k4,k5⟩
  ·rw[J];exact hP _ _ w β hk Y (Trs.refl _ _)
  ·have f:=fin hk k1 k2 k3 k4 k5;rcases J with J|⟨J,rfl⟩
   ·rw[J];exact f
   ·rw[J];exact f
 split at Z
 ·rename_i t x y V;simp only[za1] at Z;subst Z;split at h
  ·rename_i b bl r k happ;obtain⟨Z,h⟩:=Xg.1 h;obtain⟨hg,c,hop,hcal,hty,hev⟩:=DQ V;have e1:=(j0 Y.fr (G:= []) (λp hp=>by cases hp) hev).1;obtain⟨β',w',r1,r2,r3,r4,r5⟩:=Al Y.bc Y.nx happ Z o.type;refine⟨by simp[Region.wanted,hg], ?_⟩;have e2:c.args.map a.eval= #[x.conc β,y.conc β]:=by apply zaW;simpa [SV.concs] using e1
   have J:(execOp a.eval o).run P w= .ok (.value (r.conc β')) w':=by
    obtain⟨o1,o2,o3,o4,o5,o6⟩:=o;simp only[] at hop;subst hop;simp only[execOp,resolve,hcal,zdI,zdJ,zdH,invoke,builtin,e2,hty,r1]
   unfold Oper.wp;rw[J];exact fin h r2 r3 r4 (r5.mono λi hi=>by simp[hi]) (zaT _)
  ·exact h.elim
 ·split at Z
  ·rename_i f args V;simp only[za1] at Z;subst Z;unfold po at V;split at V
   ·rename_i c hg ho;split at V
    ·rename_i fo hcal;split at V
     ·rename_i f' args' ht';split at V
      ·simp only[za1,zag] at V;obtain⟨rfl,rfl⟩:=V;refine⟨by simp[Region.wanted,hg], ?_⟩;obtain⟨o1,o2,o3,o4,o5,o6⟩:=o;simp only[] at hg ho;subst hg;subst ho;obtain⟨_,hl⟩:=nU Y.fr hG ht';obtain⟨hcb,hcalls⟩:=hinl f' args' A.bl A.nx [] _ β w h Y.bc Y.nx hl;obtain⟨r1,_⟩:=nR Y.fr hG ht' hcb o3 w;have r2:(execOp a.eval ⟨o1, .call c,o3,o4,o5,none⟩).run P w= .ok (.enter f' (SV.concs β args').toArray) w:=r1;unfold Oper.wp;rw[r2];refine Calls.mono hcalls ?_;rintro e w' ⟨β',r,bl',nx',wl',he,hk,k1,k2,k3,k4,k5,k6⟩;cases r with
       |ok r=>
        obtain rfl:e=_:=he;exact fin hk k1 k2 k3 k4 k6
       |pan v=>
        obtain rfl:e=_:=he;refine hP v _ w' β' hk ⟨(Y.fr.carry k4).frame nx' (wl'++A.wl),k1,k2,Y.sd⟩ ⟨k4.mono λi hi=>by simp[hi],λi hi=>by simp[hi],k6,rfl⟩
      ·cases V
     ·cases V
    ·cases V
   ·cases V
  ·cases Z
variable {b:Bool}
theorem VH {p q:Prop}:ag b p q↔(b=true->p)/\(b=false->q):=by cases b<;>simp[ag]
variable {K:zdV}
theorem aeu (hΓ:GamOK P W0 Γ) (hinl:kn P W0 inl) 
 (hP: ∀v A' w' β',KP v A'->Is W0 A' β' a w'->Trs A β A' β'->Q (pex v) a w') (hK: ∀A' a' w' β',K A'->Is W0 A' β' a' w'->Trs A β A' β'->KK a' w') (h:agn P Γ inl ops KP o A K) (J:Is W0 A β a w):
 if Region.wanted o (yielded ops a.tmps) then o.wp P a w KK Q else KK (a.put o.dst undef) w:=by
 unfold agn at h;split at h
 ·rename_i d Z;split at h
  ·rename_i A1 hp;unfold Gg at Z;split at Z
   ·rename_i c hg ho;split at Z
    ·rename_i f hcal;split at Z
     ·rename_i g first caps as hf ha
      simp only[za1] at Z;subst Z;obtain⟨e1,l1⟩:=bu J.fr (G:= []) (λp hp=>by cases hp) hf;obtain⟨e2,l2⟩:=j0 J.fr (G:= []) (λp hp=>by cases hp) ha;rw[if_pos (by simp[Region.wanted,hg])];have fr1:FR β {A with df:=(g,first++as,caps)::A.df} {a with defers:={target:= .fn (.func g) (SV.concs β caps).toArray,args:=(SV.concs β (first++as)).toArray}::a.defers}:=by
       refine⟨⟨by rw[J.fr.defers.1];rfl,λp hp s V=> ?_⟩,J.fr.size,J.fr.v,J.fr.opt,J.fr.os⟩;rcases zai.1 hp with rfl|hp
       ·simp only[za8] at V;rcases V with (V|V)|V
        ·exact λi hi=>l1 i (by simp only[SV.ids,za8];exact .inl (SV.mem_idss.2 ⟨s,V,hi⟩))
        ·exact l2 s V
        ·exact λi hi=>l1 i (by simp only[SV.ids,za8];exact .inr (SV.mem_idss.2 ⟨s,V,hi⟩))
       ·exact J.fr.defers.2 p hp s V
      obtain⟨q1,q2,q3,q4,q5⟩:=FR.putD fr1 (s:= .val undef) (λi hi=>by simp[SV.ids] at hi) hp;have Y:(execOp a.eval o).run P w= .ok (.defer {target:= .fn (.func g) (SV.concs β caps).toArray,args:=(SV.concs β (first++as)).toArray}) w:=by
       obtain⟨o1,o2,o3,o4,o5,o6⟩:=o;simp only[] at ho;subst ho;have e3:c.args.map a.eval=(SV.concs β as).toArray:=by apply zaW;simpa using e2
       simp[execOp,resolve,hcal,e1,e3,SV.conc,Deferred.ofValue,SV.concs_eq]
      unfold Oper.wp;rw[Y];exact hK A1 _ w β h ⟨q1,by rw[q2];exact J.bc,by rw[q2,q3];exact J.nx,(nB hp).trans J.sd⟩ ⟨by rw[q2,q5];exact Tr.refl _ _ _ _,by rw[q5];exact λ_ h=>h,by rw[q3];exact za0 _,q4⟩
     ·cases Z
    ·cases Z
   ·cases Z
  ·exact h.elim
 split at h
 ·rename_i T hb;obtain⟨hg,v,hk,Y,hl⟩:=Ak J.fr J.bc hb h;rw[if_pos (by simp[Region.wanted,hg])];split at hk
  ·rename_i A1 hp;obtain⟨q1,q2,q3,q4,q5⟩:=FR.putD J.fr hl hp;unfold Oper.wp;rw[Y];exact hK A1 _ w β hk ⟨q1,by rw[q2];exact J.bc,by rw[q2,q3];exact J.nx,(nB hp).trans J.sd⟩ ⟨by rw[q2,q5];exact Tr.refl _ _ _ _,by rw[q5];exact λ_ h=>h,by rw[q3];exact za0 _,q4⟩
  ·exact hk.elim
 split at h
 ·rename_i T hb;obtain⟨r1,r2⟩:=mP hinl (ops:=ops) hb h J (λp hp=>by cases hp) (Q:=Q) (KK:=KK) hP (λwl A' a' w' β' hk his htr=>hK A' a' w' β' hk his htr);rw[if_pos r1];exact r2
 ·split at h
  ·rename_i b A1 f hst;obtain⟨hb,h⟩:=Xg.1 h;subst hb
   exact mO hΓ J.fr J.bc (za0 _) hst (Q:=Q) (K:=KK) (λa' w' β' r1 r2 r3 r4 r5 r6=>by
    obtain⟨E,hE⟩:=Kg hst;refine hK _ a' w' β' h ⟨r1.frame _ _,r2, ?_,(ae3 hst).trans J.sd⟩ ⟨?_, ?_, ?_,r6⟩
    ·show NX A1.bl (A1.nx+1);rw[hE,r4];exact J.nx.apply E (by omega) (za0 _)
    ·exact r3.mono λi hi=>by simp[hi]
    ·intro i hi;simp[r5,hi]
    ·show A.nx<=A1.nx+1
     omega)
  ·exact h.elim
theorem vg {t:Nat} {c:Bool} (h:FR β A a) (ht:A.tm t= .v (.val (.bool c))):FR β (mH A t c) a:=by
 have hv:a.tmps.getD t undef= .bool c:=(h.v t _ ht).1;refine⟨h.defers,h.size,λx s J=> ?_,λx u b s J=> ?_,λx u b s J=> ?_⟩
 ·simp only[mH] at J;rw[bS] at J;by_cases Y:x=t
  ·subst Y;simp only[decide_true,zdu,TV.v.injEq] at J;subst J;exact⟨hv,λi hi=>by simp[SV.ids] at hi⟩
  ·simp only[Y,decide_false,zdt] at J;split at J
   ·rename_i u b s' Z;rw[bS] at J;by_cases V:u=t
    ·subst V;simp only[decide_true,zdu,TV.v.injEq] at J;subst J;obtain⟨h1,h2⟩:=h.opt x u b s' Z;cases b<;>cases c
     ·exact h1 hv
     ·exact⟨h2 (by rw[hv];simp),λi hi=>by simp[SV.ids] at hi⟩
     ·exact⟨h2 (by rw[hv];simp),λi hi=>by simp[SV.ids] at hi⟩
     ·exact h1 hv
    ·simp[V] at J
   ·exact h.v x s (by rw[<-J])
 ·have:A.tm x= .opt u b s:=by
   simp only[mH] at J;rw[bS] at J;by_cases Y:x=t
   ·simp[Y] at J
   ·simp only[Y,decide_false,zdt] at J;split at J
    ·rename_i u' b' s' Z;rw[bS] at J;by_cases V:u'=t
     ·simp[V] at J
     ·simp only[V,decide_false,zdt] at J;rw[Z];exact J
    ·exact J
  exact h.opt x u b s this
 ·have:A.tm x= .opt u b s:=by
   simp only[mH] at J;rw[bS] at J;by_cases Y:x=t
   ·simp[Y] at J
   ·simp only[Y,decide_false,zdt] at J;split at J
    ·rename_i u' b' s' Z;rw[bS] at J;by_cases V:u'=t
     ·simp[V] at J
     ·simp only[V,decide_false,zdt] at J;rw[Z];exact J
    ·exact J
  exact h.os x u b s this
theorem mQ {β:zdM} {a:Act} {w:World}: ∀(k:Nat) (A:AS) (t:Nat) (K:zdV),aaQ k A t K->Is W0 A β a w-> ∃A',K A'/\Is W0 A' β a w/\Trs A β A' β
 |0,A,t,K,h,J=>h.elim
 |k+1,A,t,K,h,J=>by
  simp only[aaQ] at h;split at h
  ·rename_i c V;cases Y:A.lit.any (Nat.beq t) with
   |true=>rw[Y] at h;exact⟨A,h,J,Trs.refl _ _⟩
   |false=>
    rw[Y] at h;obtain⟨h1,h2⟩:=VH.1 h;cases c with
    |true=>exact⟨_,h1 rfl,⟨vg J.fr V,J.bc,J.nx,J.sd⟩,⟨Tr.refl _ _ _ _,λ_ h=>h,za0 _,rfl⟩⟩
    |false=>exact⟨_,h2 rfl,⟨vg J.fr V,J.bc,J.nx,J.sd⟩,⟨Tr.refl _ _ _ _,λ_ h=>h,za0 _,rfl⟩⟩
  ·exact⟨A,h,J,Trs.refl _ _⟩
  ·obtain⟨Z,h1,s1,t1⟩:=mQ k A _ _ h J;obtain⟨A2,h2,s2,t2⟩:=mQ k Z t K h1 s1;exact⟨A2,h2,s2,t1.trans t2⟩
  ·exact h.elim
theorem DS {s:SV} (h:s.conc β= .bool b):s= .val (.bool b):=by
 cases s with
 |val v=>simp[SV.conc] at h;rw[h]
 |_=>simp[SV.conc] at h
theorem FR.side (h:FR β A a) (s:Option BD×Option (Nat×ByteArray)):FR β {A with sd:=s} a:=⟨h.defers,h.size,h.v,h.opt,h.os⟩
theorem adg (J:o.op= .alloc t) {cs:zdN} (Z:xX P t=some cs):
 (execOp a.eval o).run P w= .ok (.value (.pointer (some ⟨w.heap.size,0,none⟩))) (w.alloc (.cells (SV.concs oj cs).toArray t))/\ ∀s∈cs,s.ids= []:=by
 obtain⟨v,Y,V,hi⟩:=pb (P:=P) (β:=oj) w Z;refine⟨?_,hi⟩;obtain⟨dst,op,ty,pos,after,gd⟩:=o;simp only at J;subst J;have e:Sem.run P (do pure (Next.value (Value.pointer (some (<-newVar t v))))) w= .ok (.value (.pointer (some ⟨w.heap.size,0,none⟩))) (w.alloc (.cells (SV.concs oj cs).toArray t)):=by
  simp only[newVar,newRow,V,zdI,run_newObj,zdH,zdJ,World.alloc_eq]
 rw[<-e];simp[execOp,Instr.alloc,Y]
def R5 (B:Base) (w:World) (g:Nat) (s:Option BD×Option (Nat×ByteArray)):Base where
 w:=w
 S:=λk=>(Nat.ble B.w.heap.size k||B.S k)&&Nat.blt k w.heap.size&& !B.F k&& !Nat.beq k g
 F:=λk=>(B.F k||Nat.beq k g)&&Nat.blt k w.heap.size
 hF:=λb hb=>by
  simp only[zav,za2,aB,bS,zdw] at hb;refine⟨hb.2, ?_⟩;rcases hb.1 with h|h
  ·simp[h]
  ·simp[h,bS]
 sd:=s
theorem Base.mine_F (h:B.mine k):B.F k=false:=by
 cases hF:B.F k with
 |false=>rfl
 |true=>
  obtain⟨f1,f2⟩:=B.hF k hF;rcases h with h|h
  ·omega
  ·rw[f2] at h;cases h
variable {g:Nat} {s:Option BD×Option (Nat×ByteArray)}
theorem XA (h:B.mine k) (J:k<w.heap.size) (hg:k≠g):(R5 B w g s).mine k:=by
 refine .inr ?_;have hF:=Base.mine_F h;show ((Nat.ble B.w.heap.size k||B.S k)&&Nat.blt k w.heap.size&& !B.F k&& !Nat.beq k g)=true;simp only[za2,zav,Nat.ble_eq,aB,zdw,hF,bS,zdv hg];exact⟨⟨⟨h,J⟩,rfl⟩,rfl⟩
theorem acR (h:(R5 B w g s).S k=true):B.mine k:=by
 have h:((Nat.ble B.w.heap.size k||B.S k)&&Nat.blt k w.heap.size&& !B.F k&& !Nat.beq k g)=true:=h;simp only[za2,zav,Nat.ble_eq] at h;exact h.1.1.1
theorem adh (h:(R5 B w g s).out k):B.out k:=by
 obtain⟨h1,h2⟩:=h;have J:k<w.heap.size:=by
  rcases zah k w.heap.size with h|h
  ·exact h
  ·exact absurd (.inl h) h1
 have h2:((B.F k||Nat.beq k g)&&Nat.blt k w.heap.size)=false:=h2;rw[aB,zds J,zaQ,zbs] at h2;refine⟨λV=>h1 (XA V J λe=> ?_),h2.1⟩;rw[e,bS] at h2;simp at h2
theorem acS (h:B.out k) (V:k<w.heap.size) (hg:k≠g):(R5 B w g s).out k:=by
 refine⟨λJ=> ?_, ?_⟩
 ·rcases J with J|J
  ·have:w.heap.size<=k:=J;omega
  ·exact h.1 (acR J)
 ·show ((B.F k||Nat.beq k g)&&Nat.blt k w.heap.size)=false;rw[h.2,bS,zdv hg];rfl
theorem Is.side (Z:SubB B W0) (hout: ∀b,B.out b->W0.out b) (hs:Is B A β a w) {b g':Nat} (hb:B.F b=true) (hg:B.F g=true) (hmb:W0.mine b) (hmg:W0.mine g) (hg':g'=g\/w.heap.size<=g')
 (hno: ∀es c,w.heap[b]? ≠some (.map es c)/\w.heap[g]? ≠some (.map es c)) (J:Kept2 b g w w') (s:Option BD×Option (Nat×ByteArray)):
 SubB (R5 B w' g' s) W0/\(∀k,(R5 B w' g' s).out k->W0.out k)/\BC (R5 B w' g' s) A.bl β w':=by
 have hlt: ∀i X,A.bl i=some X->X.kd≠ .gone->(β i).nil=false->(β i).blk<w.heap.size:=λi X V hg Y=>(hs.bc.blk i X V hg).lt Y;have nF: ∀i X,A.bl i=some X->X.kd≠ .gone->(β i).nil=false->B.F (β i).blk=false:=λi X V hg Y=>by
  by_cases ho:X.kd= .old
  ·exact(hs.bc.old i X V ho Y).2
  by_cases hw:X.kd= .own
  ·exact Base.mine_F (hs.bc.own i X V hw Y)
  ·have hm:X.kd.map=true:=by cases J:X.kd<;>first|rfl|exact absurd J hg|exact absurd J ho|exact absurd J hw
   exact Base.mine_F (hs.bc.maps.ok i X V hm).2.2.1
 have hne: ∀{k:Nat},B.F k=false->k<w.heap.size->k≠g':=λ{k} h1 h2 e=>by
  rcases hg' with h|h
  ·rw[e,h,hg] at h1;cases h1
  ·omega
 refine⟨⟨?_,λk hk'=>Z.mine (acR hk')⟩,λk h=>hout k (adh h), ?_⟩
 ·have p:=Z.pres hs.bc.below;refine⟨J.os.trans p.os,J.tape.trans p.tape,J.output.trans p.output,zac p.size J.size,λk h1 h2=> ?_⟩;have nm: ¬W0.mine k:=λh=>by
   rcases h with h|h
   ·omega
   ·rw[h2] at h;cases h
  show w'.heap[k]? =_;rw[J.block k (zam h1 p.size) (λe=>nm (e▸hmb)) (λe=>nm (e▸hmg))];exact p.block k h1 h2
 ·refine hs.bc.hop (Pres.self _) J.size J.block (λi X V hg0 Y=> ?_) hno (λi X V hk0 Y hm=> ?_) (λi X V hk0 Y ho=> ?_)
  ·have:=nF i X V hg0 Y;exact⟨λe=>(by rw[e,hb] at this;cases this),λe=>(by rw[e,hg] at this;cases this)⟩
  ·have hg0:X.kd≠ .gone:=by rcases hk0 with h|h<;>intro e<;>rw[e] at h<;>cases h
   have hl:=hlt i X V hg0 Y;exact XA hm (zam hl J.size) (hne (Base.mine_F hm) hl)
  ·have hl:=hlt i X V (by rw[hk0];simp) Y;exact acS ho (zam hl J.size) (hne ho.2 hl)
theorem aev {ops:zdS} {Q:zdZ} {KK:Act->World->Prop} {o:Oper} {A A1:AS} {a:Act} {w:World} {β:zdM} {d:BD} {bb:Bool} (hx:IsX P W0 A β a w) (V:adW A o=some (d,bb,some A1)) (hbb:bb=true) (hd:ahr P d)
 (hK: ∀a' w' β',IsX P W0 A1 β' a' w'->Trs A β A1 β'->KK a' w'):Region.wanted o (yielded ops a.tmps)=true/\o.wp P a w KK Q:=by
 obtain⟨B,Z,hout,J,hside⟩:=hx;unfold adW at V;split at V
 ·cases V
 rename_i d0 hd0;split at V
 ·
  rename_i t hg hop;cases ht:Nat.beq t d0.tb with
  |false=>rw[ht] at V;cases V
  |true=>
  rw[ht] at V;simp only[zdu,za1,zag] at V;obtain⟨rfl,h2,hp⟩:=V;rw[hbb] at h2;have ht:=zab ht;subst ht;refine⟨by simp[Region.wanted,hg], ?_⟩;have hn:A.sd.2=none:=by
   split at h2
   ·assumption
   ·cases h2
  rw[hn] at h2;simp only[za2] at h2;have hid:=Wi.1 h2.1;obtain⟨dd,hdd⟩:=Option.isSome_iff_exists.1 h2.2;obtain⟨at',Y⟩:=hd;obtain⟨hrun,hcs⟩:=adg (P:=P) (a:=a) (w:=w) hop Y.zero;have hcc:(SV.concs oj [.val (.pointer none), .val (.slice none 0 0)]).toArray= #[.pointer none, .slice none 0 0]:=rfl;rw[hcc] at hrun;unfold Oper.wp;rw[hrun,Oper.upon_value];have hsz:(w.alloc (.cells #[.pointer none, .slice none 0 0] d0.tb)).heap.size=w.heap.size+1:=by simp[World.alloc_eq]
  have hbel:Below w.heap.size w (w.alloc (.cells #[.pointer none, .slice none 0 0] d0.tb)):=(zdG _ _).alloc (za0 _) _;have htr:Tr A.bl A.nx [A.nx] β (upd A.bl A.nx zP) (gp β A.nx ⟨w.heap.size,0,2,1,false⟩):=
   ⟨λi X hX=>⟨X,by rw[ak (λe=>by rw[e,hid] at hX;cases hX)];exact hX,rfl,⟨rfl,rfl⟩, .inl rfl,λ_=>rfl⟩,λi hi=>aC λe=>hi (e▸hid),λi hi h0=>by rw[ak (by omega)];exact h0⟩
  have fr1:=((J.fr.carry htr).frame (A.nx+1) (A.nx::A.wl)).side (some d0,some (A.nx,⟨#[]⟩))
  obtain⟨q1,q2,q3,q4,q5⟩:=FR.putD (s:= .ptr A.nx 0 0) fr1 (λi hi=>by
   simp only[SV.ids,zaj] at hi;subst hi;show upd A.bl A.nx zP A.nx≠none
   rw[az];simp) hp
  have hsd:=nB hp;have hconc:(SV.ptr A.nx 0 0).conc (gp β A.nx ⟨w.heap.size,0,2,1,false⟩)= .pointer (some ⟨w.heap.size,0,none⟩):=by simp[SV.conc,addr,aA]
  rw[hconc] at q1
  have k1:=(J.bc.alloc (id:=A.nx) hid (B:={n:=1,sz:=2,get:=λ_=> [.val (.pointer none), .val (.slice none 0 0)],kd:= .own}) rfl (λ_ _=>rfl) (λe o s _ hs i hi=>by
   have:=zal hs;simp at this;rcases this with rfl|rfl<;>simp[SV.ids] at hi) [.val (.pointer none), .val (.slice none 0 0)] rfl (λe o s he hs=>by
   have:e=0:=by simp at he;exact he
   subst this
   simpa using hs) d0.tb)
  rw[show (SV.concs β [SV.val (.pointer none),SV.val (.slice none 0 0)]).toArray= #[.pointer none, .slice none 0 0] from rfl] at k1;have k2:=k1.kill A.nx (X:=zP) rfl;rw[J6] at k2;have mlt: ∀j X,upd A.bl A.nx zP j=some X->X.kd≠ .gone->(gp β A.nx ⟨w.heap.size,0,2,1,false⟩ j).nil=false->(gp β A.nx ⟨w.heap.size,0,2,1,false⟩ j).blk<w.heap.size:=λj X hX hk hn=>by
   have hj:j≠A.nx:=λe=>by subst e;rw[az] at hX;obtain rfl:zP=X:=by simpa using hX
                          exact hk rfl
   rw[ak hj] at hX;rw[aC hj] at hn ⊢;exact(J.bc.blk j X hX hk).lt hn
  have hat0:=Y.fresh w;refine hK _ _ (gp β A.nx ⟨w.heap.size,0,2,1,false⟩) ⟨R5 B (w.alloc (.cells #[.pointer none, .slice none 0 0] d0.tb)) w.heap.size A1.sd,⟨(Z.pres J.bc.below).step hbel,λk hk=>Z.mine (acR hk)⟩,λk hk=>hout k (adh hk),⟨q1, ?_, ?_,rfl⟩, ?_⟩ ⟨?_, ?_, ?_,q4⟩
  ·rw[q2];refine k2.rebase (Pres.self _) (λj X hX hk hn hm=> ?_) (λj X hX hk hn ho=> ?_)
   ·have hl:=mlt j X hX (by rcases hk with h|h<;>intro e<;>rw[e] at h<;>cases h) hn;exact XA hm (show _<(w.alloc _).heap.size by rw[hsz];exact Nat.lt_succ_of_lt hl) (Nat.ne_of_lt hl)
   ·have hl:=mlt j X hX (by rw[hk];simp) hn;exact acS ho (show _<(w.alloc _).heap.size by rw[hsz];exact Nat.lt_succ_of_lt hl) (Nat.ne_of_lt hl)
  ·rw[q2,q3];show NX (upd A.bl A.nx zP) (A.nx+1);exact λi hi=>by rw[ak (by omega)];exact J.nx i (by omega)
  ·intro x t hx;rw[hsd] at hx ⊢;simp only[za1,zag] at hx;obtain⟨rfl,rfl⟩:=hx;refine⟨by rw[q2];show upd A.bl A.nx zP A.nx≠none;rw[az];simp,d0,at',w.heap.size,w.heap.size,rfl,Y,by rw[aA],by rw[aA],hat0, ?_, ?_, .inl (Z.pres J.bc.below).size, .inl (Z.pres J.bc.below).size⟩<;>
   ·show ((B.F w.heap.size||Nat.beq w.heap.size w.heap.size)&&Nat.blt w.heap.size (w.alloc _).heap.size)=true;rw[bS,aB,hsz];simp
  ·rw[q2,q5];exact htr.mono λi hi=>by
    simp only[zaj] at hi;subst hi;simp
  ·rw[q5];exact λi hi=>by simp[hi]
  ·rw[q3];exact zaT _
 ·
  rename_i c hg hop;split at V
  ·rename_i f args x t htg hsd2;obtain⟨hbl,d1,at',b,g,e1,Y,e3,e4,e5,e6,e7,e8,e9⟩:=hside x t hsd2;rw[hd0] at e1;obtain rfl:d0=d1:=by simpa using e1
   obtain⟨_,hl⟩:=nU J.fr (G:= []) (λp hp=>by cases hp) htg;have same: ∀k,B.F k=true->w.heap[k]? =B.w.heap[k]? :=λk hk=>J.bc.below.block k (B.hF k hk).1 (B.hF k hk).2;have e5':=Y.keep b g t B.w w e5 (same b e6) (same g e7);have hlt:=Y.lt b g t w e5';have hptr:(SV.ptr x 0 0).conc β= .pointer (some ⟨b,0,none⟩):=by simp[SV.conc,addr,e3,e4]
   refine⟨by simp[Region.wanted,hg], ?_⟩;obtain⟨o1,o2,o3,o4,o5,o6⟩:=o;simp only[] at hg hop;subst hg;subst hop;cases hw:Nat.beq f d0.write with
   |true=>
    rw[hw] at V;simp only[zdu] at V;split at V
    ·rename_i i s;simp only[za1,zag] at V;obtain⟨rfl,h2,hp⟩:=V;rw[hbb] at h2;simp only[za2,bS,zdw] at h2;obtain⟨rfl,hsz⟩:=h2;have hfw:=zab hw;subst hfw;obtain⟨r1,_⟩:=nR J.fr (G:= []) (λp hp=>by cases hp) htg Y.cw o3 w;have r2:(execOp a.eval ⟨o1, .call c,o3,o4,o5,none⟩).run P w= .ok (.enter d0.write (SV.concs β [.ptr i 0 0, .val (.string s)]).toArray) w:=r1;rw[show (SV.concs β [.ptr i 0 0, .val (.string s)]).toArray= #[.pointer (some ⟨b,0,none⟩), .string s] by simp only[SV.concs,hptr];rfl] at r2;unfold Oper.wp;rw[r2];refine Calls.mono (Y.write b g t s w e5' hsz) ?_;rintro e w' ⟨rfl,g',h1,h3,hk⟩;have fr1:=J.fr.side (some d0,some (i,t++s));obtain⟨q1,q2,q3,q4,q5⟩:=FR.putD (s:= .tup [.val (.int .i64 s.size), .val .nilIface]) fr1 (λj hj=>by simp[SV.ids,SV.idss] at hj) hp;have hsd:=nB hp;obtain⟨z1,z2,z3⟩:=J.side Z hout e6 e7 e8 e9 h3 hlt.2.2 hk A1.sd;have hlt':=Y.lt b g' _ w' h1;have ht:Trs A β A1 β:=⟨by rw[q2,q5];exact Tr.refl _ _ _ _,by rw[q5];exact λ_ h=>h,by rw[q3];exact za0 _,q4⟩;refine hK _ _ β ⟨R5 B w' g' A1.sd,z1,z2,⟨q1,by rw[q2];exact z3,by rw[q2,q3];exact J.nx,rfl⟩,λx' t' hx'=> ?_⟩ ht;rw[hsd] at hx' ⊢;simp only[za1,zag] at hx';obtain⟨rfl,rfl⟩:=hx';refine⟨by rw[q2];exact hbl,d0,at',b,g',rfl,Y,e3,e4,h1, ?_, ?_,e8, ?_⟩
     ·show ((B.F b||Nat.beq b g')&&Nat.blt b w'.heap.size)=true;rw[e6,aB,zds hlt'.1];rfl
     ·show ((B.F g'||Nat.beq g' g')&&Nat.blt g' w'.heap.size)=true;rw[bS,aB,zds hlt'.2.1];simp
     ·rcases h3 with rfl|h3
      ·exact e9
      ·exact .inl (zac (Z.pres J.bc.below).size h3)
    ·cases V
   |false=>
   rw[hw] at V;simp only[zdt] at V;cases hs':Nat.beq f d0.str with
   |false=>rw[hs'] at V;cases V
   |true=>
    rw[hs'] at V;simp only[zdu] at V;split at V
    ·rename_i i;simp only[za1,zag] at V;obtain⟨rfl,h2,hp⟩:=V;rw[hbb] at h2;simp only[za2,bS,zdw] at h2;obtain⟨rfl,hsz⟩:=h2;have hfw:=zab hs';subst hfw;obtain⟨r1,_⟩:=nR J.fr (G:= []) (λp hp=>by cases hp) htg Y.cs o3 w;have r2:(execOp a.eval ⟨o1, .call c,o3,o4,o5,none⟩).run P w= .ok (.enter d0.str (SV.concs β [.ptr i 0 0]).toArray) w:=r1;rw[show (SV.concs β [.ptr i 0 0]).toArray= #[.pointer (some ⟨b,0,none⟩)] by simp only[SV.concs,hptr]] at r2;unfold Oper.wp;rw[r2];refine Calls.mono (Y.str b g t w e5' hsz) ?_;rintro e w' ⟨rfl,hk⟩;have fr1:=J.fr.side (some d0,none);obtain⟨q1,q2,q3,q4,q5⟩:=FR.putD (s:= .val (.string t)) fr1 (λj hj=>by simp[SV.ids] at hj) hp;have hsd:=nB hp;obtain⟨z1,z2,z3⟩:=J.side Z hout e6 e7 e8 e9 (.inl rfl) hlt.2.2 hk A1.sd;have ht:Trs A β A1 β:=⟨by rw[q2,q5];exact Tr.refl _ _ _ _,by rw[q5];exact λ_ h=>h,by rw[q3];exact za0 _,q4⟩;refine hK _ _ β ⟨R5 B w' g A1.sd,z1,z2,⟨q1,by rw[q2];exact z3,by rw[q2,q3];exact J.nx,rfl⟩,λx' t' hx'=> ?_⟩ ht;rw[hsd] at hx';cases hx'
    ·cases V
  ·cases V
 ·cases V
theorem sB (hΓ:GamOK P W0 Γ) (hinl: ∀B,SubB B W0->kn P B inl) 
 (hP: ∀v A' w' β',KP v A'->IsX P W0 A' β' a w'->Trs A β A' β'->Q (pex v) a w') (hK: ∀A' a' w' β',K A'->IsX P W0 A' β' a' w'->Trs A β A' β'->KK a' w') (h:aeq P Γ inl ops KP o A K) (hs:IsX P W0 A β a w):
 if Region.wanted o (yielded ops a.tmps) then o.wp P a w KK Q else KK (a.put o.dst undef) w:=by
 unfold aeq at h;split at h
 ·rename_i d b r hf;obtain⟨hd,h⟩:=h;obtain⟨hb,h⟩:=Xg.1 h;split at h
  ·rename_i A1 _;obtain⟨k1,k2⟩:=aev (ops:=ops) (Q:=Q) hs hf hb hd (λa' w' β' h1 h2=>hK A1 a' w' β' h h1 h2);rw[if_pos k1];exact k2
  ·exact h.elim
 ·obtain⟨B,J,Y,Z,V⟩:=hs;exact aeu (W0:=B) (hΓ.sub J) (hinl B J) (λv A' w' β' hk h1 h2=>hP v A' w' β' hk (IsX.wrap J Y Z V h1 h2) h2) (λA' a' w' β' hk h1 h2=>hK A' a' w' β' hk (IsX.wrap J Y Z V h1 h2) h2) h Z
theorem sC {Γ:zdR} (hΓ:GamOK P W0 Γ) {inl:Inl} (hinl: ∀B,SubB B W0->kn P B inl) {ops:zdS} {Q:zdZ} {KP:Value->zdV} {K:zdV} {A0:AS} {β0:zdM}
 (hQ: ∀A' Z w' β',K A'->IsX P W0 A' β' Z w'->Trs A0 β0 A' β'->Q .normal Z w') (hP: ∀v A' Z w' β',KP v A'->IsX P W0 A' β' Z w'->Trs A0 β0 A' β'->Q (pex v) Z w'):
 ∀(J:List Oper) (A:AS) (a:Act) (w:World) (β:zdM),mI P Γ inl ops KP J A K->IsX P W0 A β a w->Trs A0 β0 A β->wpList P ops Q J a w
 | [],A,a,w,β,h,hs,ht=>hQ A a w β h hs ht
 |o::J,A,a,w,β,h,hs,ht=>by
  simp only[mI] at h;have go: ∀A' Z w' β',mI P Γ inl ops KP J A' K->IsX P W0 A' β' Z w'->Trs A0 β0 A' β'->wpList P ops Q J Z w':=λA' Z w' β'=>sC hΓ hinl hQ hP J A' Z w' β';unfold wpList;split at h
  ·rename_i t b hgf;obtain⟨B,hsub,hout,hs0,hside0⟩:=hs;obtain⟨A1,h,s1,t1⟩:=mQ (W0:=B) _ _ _ _ h hs0;have x1:IsX P W0 A1 β a w:=IsX.wrap hsub hout hs0 hside0 s1 t1;have ht1:=ht.trans t1;have guard: ∃j,o.guard=some (j,b)/\(ops.toList[j]?).bind (·.dst)=some t:=by
    unfold Gh at hgf;split at hgf
    ·rename_i j b' hg;split at hgf
     ·rename_i t' hj;have:=bG hgf;simp only[za1,zag] at this;obtain⟨rfl,rfl⟩:=this;exact⟨j,hg,hj⟩
     ·cases hgf
    ·cases hgf
   obtain⟨j,hg,hj⟩:=guard;have hw:=ib (a:=a) hg hj
   have skip:(match putD A1 o.dst (.v (.val undef)) with
    |some A'=>mI P Γ inl ops KP J A' K
    |none=>False)->wpList P ops Q J (a.put o.dst undef) w:=by
    intro h;split at h
    ·rename_i A2 hp;obtain⟨q1,q2,q3,q4,q5⟩:=FR.putD s1.fr (s:= .val undef) (λi hi=>by simp[SV.ids] at hi) hp;have t2:Trs A1 β A2 β:=⟨by rw[q2,q5];exact Tr.refl _ _ _ _,by rw[q5];exact λ_ h=>h,by rw[q3];exact za0 _,q4⟩;exact go A2 _ w β h (IsX.wrap hsub hout hs0 hside0 ⟨q1,by rw[q2];exact s1.bc,by rw[q2,q3];exact s1.nx,(nB hp).trans s1.sd⟩ (t1.trans t2)) (ht1.trans t2)
    ·exact h.elim
   unfold wm at h;split at h
   ·rename_i c hc;have hv:a.tmps.getD t undef= .bool c:=(s1.fr.v t _ hc).1;obtain⟨h1,h2⟩:=VH.1 h;by_cases hcb:c=b
    ·subst hcb;have k:=sB hΓ hinl (o:={o with guard:=none}) (ops:=ops) (Q:=Q) (KK:=wpList P ops Q J) (λv A' w' β' hk V Y=>hP v A' a w' β' hk V (ht1.trans Y)) (λA' Z w' β' hk V Y=>go A' Z w' β' hk V (ht1.trans Y)) (h1 (by cases c<;>rfl)) x1;rw[if_pos (by simp[Region.wanted])] at k;rw[if_pos (hw.2 hv)];exact .inl k
    ·rw[if_neg (λe=>hcb (by have:=hw.1 e;rw[hv] at this;simpa using this))];exact skip (h2 (by cases c<;>cases b<;>simp_all))
   ·rename_i s hns hc;have hv:a.tmps.getD t undef=s.conc β:=(s1.fr.v t _ hc).1;rw[if_neg (λe=>by have:=hw.1 e;rw[hv] at this;exact hns _ (by rw[DS this]))];exact skip h
   ·exact h.elim
  ·have k:=sB hΓ hinl (o:=o) (ops:=ops) (Q:=Q) (KK:=wpList P ops Q J) (λv A' w' β' hk V Y=>hP v A' a w' β' hk V (ht.trans Y)) (λA' Z w' β' hk V Y=>go A' Z w' β' hk V (ht.trans Y)) h hs;by_cases hw:Region.wanted o (yielded ops a.tmps)=true
   ·rw[if_pos hw] at k ⊢;exact .inl k
   ·rw[if_neg hw] at k ⊢;exact k
theorem Post.mono {K K':Exit->zdV} (h: ∀e A,K e A->K' e A) (e:Exit) (a:Act) (w:World) (hp:Post P W0 A β K e a w):Post P W0 A β K' e a w:=by
 obtain⟨A',β',h1,h2,h3⟩:=hp;exact⟨A',β',h _ _ h1,h2,h3⟩
theorem Post.from {B:AS} {K:Exit->zdV} (t:Trs A β B γ) (e:Exit) (a:Act) (w:World) (hp:Post P W0 B γ K e a w):Post P W0 A β K e a w:=by
 obtain⟨A',β',h1,h2,h3⟩:=hp;exact⟨A',β',h1,h2,t.trans h3⟩
end
section
variable {P:Program} {W0:Base}
variable {hq:Bool} {Γ:zdR} {tm:Nat->TV} {bl:zdP} {G:List (Nat×Bool)} {id id':Nat} {op:Op} {E:Eff}
theorem GA (J:eff P Γ hq tm bl G id op=some E) (V:E.nw=none):
 eff P Γ hq tm bl G id' op=some E:=by
 cases op with
 |alloc t=>
  exfalso;simp only[eff] at J;split at J
  ·simp only[za1] at J;subst J;cases V
  ·cases J
 |box t x=>
  exfalso;simp only[eff] at J;split at J
  ·cases J
  ·simp only[za1] at J;subst J;cases V
  ·cases J
 |buildSlice t n parts=>
  exfalso;simp only[eff] at J;split at J
  ·split at J
   ·have J:=bG J;split at J
    ·simp only[za1] at J;subst J;cases V
    ·cases J
   ·cases J
  ·cases J
 |slice t x lo hi Y=>cases Y<;>exact J
 |_=>exact J
variable {i:Nat}
theorem GB (J:eff P Γ hq tm bl G id op=some E) (hi:i∈E.rd):bl i≠none:=by
 have V: ∀{o:Option SV},km o=some E->False:=λh=>by obtain⟨s,_,rfl⟩:=cJ h;cases hi
 have Y: ∀{o:Option (Bool×SV)},pY o=some E->False:=λh=>by obtain⟨b,s,_,rfl⟩:=ia h;cases hi
 cases op with
 |lookup t m k ok=>
  simp only[eff] at J;split at J
  ·obtain⟨j,B,_,hB,hr,_,_,_⟩:=lI J;rw[hr] at hi;simp only[zaj] at hi;subst hi;rw[hB];simp
  ·cases J
 |store t x y=>
  exfalso;simp only[eff] at J;split at J
  ·unfold o9 at J;split at J
   ·split at J
    ·split at J
     ·split at J
      ·have J:=bG J;simp only[za1] at J;subst J;cases hi
      ·cases J
     ·cases J
    ·cases J
   ·cases J
  ·cases J
 |box t x=>
  exfalso;simp only[eff] at J;split at J
  ·cases J
  ·simp only[za1] at J;subst J;cases hi
  ·cases J
 |buildSlice t n parts=>
  exfalso;simp only[eff] at J;split at J
  ·split at J
   ·have J:=bG J;split at J
    ·simp only[za1] at J;subst J;cases hi
    ·cases J
   ·cases J
  ·cases J
 |load t x=>
  simp only[eff] at J;split at J
  ·unfold rH at J;split at J
   ·split at J
    ·rename_i B hB
     have key:i=_:=(by
      split at J
      ·cases J
      ·split at J
       ·split at J
        ·simp only[za1] at J;subst J;simpa using hi
        ·cases J
       ·have J:=bG J;simp only[za1] at J;subst J;simpa using hi
       ·cases J)
     rw[key,hB];simp
    ·cases J
   ·cases J
  ·cases J
 |convert s d x=>
  simp only[eff] at J;split at J
  ·split at J
   ·simp only[za1] at J;subst J;cases hi
   ·cases J
  ·split at J
   ·simp only[za1] at J;subst J;cases hi
   ·cases J
  ·split at J
   ·rename_i hB;split at J
    ·split at J
     ·have J:=bG J;simp only[za1] at J;subst J;simp only[zaj] at hi;subst hi;rw[hB];simp
     ·cases J
    ·cases J
   ·cases J
  ·cases J
 |slice t x lo Z mx=>
  cases mx with
  |some m=>simp[eff] at J
  |none=>
   simp only[eff] at J;split at J
   ·split at J
    ·have J:=bG J;simp only[za1] at J;subst J;cases hi
    ·cases J
   ·split at J
    ·rename_i hB _;split at J
     ·cases J
     ·have J:=bG J;simp only[za1] at J;subst J;simp only[zaj] at hi;subst hi;rw[hB];simp
    ·cases J
   ·cases J
 |indexAddr t x y=>
  simp only[eff] at J;split at J
  ·split at J
   ·split at J
    ·simp only[za1] at J;subst J;cases hi
    ·cases J
   ·cases J
  ·split at J
   ·rename_i hB;split at J
    ·cases J
    ·have J:=bG J;simp only[za1] at J;subst J;simp only[zaj] at hi;subst hi;rw[hB];simp
    ·cases J
   ·cases J
  ·cases J
 |index t x y=>
  exfalso;simp only[eff] at J;split at J
  ·split at J
   ·split at J
    ·split at J
     ·have J:=bG J;split at J
      ·simp only[za1] at J;subst J;cases hi
      ·cases J
     ·cases J
    ·split at J
     ·simp only[za1] at J;subst J;cases hi
     ·cases J
    ·cases J
   ·cases J
  ·split at J
   ·simp only[za1] at J;subst J;cases hi
   ·cases J
  ·cases J
 |call c=>
  exfalso;simp only[eff] at J;split at J
  ·split at J
   ·unfold ae2 at J;split at J
    ·split at J
     ·exact V J
     ·cases J
    ·split at J
     ·exact V J
     ·cases J
    ·split at J
     ·exact V J
     ·cases J
    ·cases J
   ·cases J
  ·split at J
   ·split at J
    ·exact Y J
    ·cases J
   ·cases J
 |_=>
  exfalso;simp only[eff] at J
  first
   |exact V J
   |(repeat' (first|(split at J)|(cases J;done)))
    all_goals first
     |exact V J
     |exact Y J
     |(simp only[za1] at J;subst J;cases hi;done)
def RO (D:Dl):Prop:=D.E.wr=none/\D.E.nw=none
variable {D:Dl}
theorem VZ:(aV id D.E).2= []↔RO D:=by
 unfold aV RO;simp only[zd7];constructor
 ·rintro⟨h1,h2⟩;constructor
  ·unfold wrI at h1;split at h1
   ·cases h1
   ·assumption
  ·unfold nwI at h2;split at h2
   ·cases h2
   ·assumption
 ·rintro⟨h1,h2⟩;simp[wrI,nwI,h1,h2]
theorem fh (h:RO D) (id:Nat) (A:AS):app D id A={A with tm:=dI D.d D.tv A.tm,og:=arz (D.key.bind λ_=>D.d) A.og,ok:=arz (D.d.bind λ_=>D.key) A.ok}:=by
 simp[app,VO,h.1,h.2]
variable {ops:zdS} {o:Oper} {A:AS}
theorem Stp.reid (h:Stp P Γ ops id o A D) (J:RO D) (V:A.bl id'=none):Stp P Γ ops id' o A D:=by
 refine⟨h.d,V,h.put, ?_⟩;have src:=h.src;unfold Src at src ⊢;cases hg:o.guard with
 |none=>
  rw[hg] at src;exact⟨src.1,src.2.1,src.2.2.1,GA src.2.2.2 J.2⟩
 |some p=>
  obtain⟨j,b⟩:=p;rw[hg] at src;obtain⟨t,g,h1,h2,h3,h4,h5⟩:=src;exact⟨t,g,h1,h2,h3,GA h4 J.2,h5⟩
theorem Stp.det {D':Dl} (h:Stp P Γ ops id o A D) (k:Stp P Γ ops id o A D'):D=D':=by
 have s1:=h.src;have J:=k.src;have hd:=h.d.trans k.d.symm;obtain⟨d,tv,key,E⟩:=D;obtain⟨d',tv',key',E'⟩:=D';simp only[] at hd s1 J;subst hd;unfold Src at s1 J;cases hg:o.guard with
 |none=>
  rw[hg] at s1 J;obtain⟨Z,a2,a3,a4⟩:=s1;obtain⟨Y,b2,b3,V⟩:=J;simp only[] at*
  rw[a4] at V;obtain rfl:E=E':=by simpa using V
  rw[Z,Y,a2,b2]
 |some p=>
  obtain⟨j,b⟩:=p;rw[hg] at s1 J;obtain⟨t,g,Z,a2,a3,a4,a5,a6,a7,a8⟩:=s1;obtain⟨t',g',Y,b2,b3,V,b5,b6,b7,b8⟩:=J;simp only[] at*
  rw[Z] at Y;obtain rfl:t=t':=by simpa using Y
  rw[a4] at V;obtain rfl:E=E':=by simpa using V
  rw[a2,b2,a8,b8]
variable {t:Nat}
theorem DT (h:Src P Γ ops id o A D) (J:D.key=some t):t∈o.looksAt ops:=by
 unfold Src at h;cases hg:o.guard with
 |none=>rw[hg] at h;rw[h.1] at J;cases J
 |some p=>
  obtain⟨j,b⟩:=p;rw[hg] at h;obtain⟨V,g,k1,k2,_⟩:=h;rw[k2] at J;obtain rfl:V=t:=by simpa using J
  refine zb1 _ ?_;rw[hg];simp at k1 ⊢;exact k1
def kr (A:AS) (d:Option Nat) (r:SV) (bl:zdP) (nx:Nat) (wl:zdL):AS:={A with tm:=dI d (.v r) A.tm,bl:=bl,nx:=nx,wl:=wl}
variable {B A':AS} {d:Option Nat} {s:SV}
theorem Wa:putD B d (.v s)=some A'↔A'={B with tm:=dI d (.v s) B.tm}/\ ∀x,d=some x->x<B.nt/\B.ok x=false:=by
 cases d with
 |none=>simp[putD,dK];exact⟨λh=>h.symm,λh=>h.symm⟩
 |some d=>
  simp only[putD];cases J:(Nat.blt d B.nt&& !B.ok d) with
  |false=>
   simp only[zdt];constructor
   ·intro h;cases h
   ·rintro⟨_,h⟩;have h2:=h d rfl;rw[aB] at J;simp[h2.1,h2.2] at J
  |true=>
   rw[aB] at J;simp only[za2,zdw,zap] at J;simp only[zdu,za1,forall_eq'];constructor
   ·intro h;exact⟨h.symm,J⟩
   ·intro h;exact h.1.symm
variable {r:SV} {nx:Nat} {wl:zdL}
theorem Cc (Y:OS A) (hr:RO D)
 (hd: ∀x,d=some x->A.ok x=false/\x∉o.looksAt ops) (hrd: ∀j∈D.E.rd,bl j=A.bl j):Src P Γ ops id o (kr A d r bl nx wl) D↔Src P Γ ops id o A D:=by
 have hev: ∀x∈o.op.operands,∀G,ev (dI d (.v r) A.tm) G x=ev A.tm G x:=λx hxo G=>Ai (λt e he=>by
  subst e
  exact(hd t he).2 (zbI _ (zcI.2 ⟨.tmp t,by simpa using hxo,rfl⟩))) G
 have hf: ∀i,(i∈D.E.rd\/i∈wrI D.E)->bl i=A.bl i:=λi hi=>by
  rcases hi with hi|hi
  ·exact hrd i hi
  ·simp[wrI,hr.1] at hi
 have V: ∀G,eff P Γ (kr A d r bl nx wl).hq (kr A d r bl nx wl).tm (kr A d r bl nx wl).bl G id o.op=some D.E↔eff P Γ A.hq A.tm A.bl G id o.op=some D.E:=by
  intro G;show eff P Γ A.hq (dI d (.v r) A.tm) bl G id o.op=some D.E↔_;rw[Gw hev];exact⟨λh=>wv h λi hi=>(hf i hi).symm,λh=>wv h λi hi=>hf i hi⟩
 unfold Src;cases hg:o.guard with
 |none=>simp only[V]
 |some p=>
  obtain⟨j,b⟩:=p;have J: ∀t,(ops.toList[j]?).bind (·.dst)=some t->d≠some t:=λt ht he=>by
   refine(hd t he).2 (zb1 _ ?_);rw[hg];simp at ht ⊢;exact ht
  constructor
  ·rintro⟨t,g,h1,h2,h3,h4,h5⟩;refine⟨t,g,h1,h2, ?_, ?_,h5⟩
   ·rw[<-jt Y (λx Z=>(hd x Z).1) 9 t b (J t h1)];exact h3
   ·have:=(V _).1 h4;rw[show Xw (kr A d r bl nx wl).tm 9 t b=Xw A.tm 9 t b from ju Y (λx Z=>(hd x Z).1) 9 t b (J t h1)] at this;exact this
  ·rintro⟨t,g,h1,h2,h3,h4,h5⟩;refine⟨t,g,h1,h2, ?_, ?_,h5⟩
   ·show kO (dI d (.v r) A.tm) 9 t b=_;rw[jt Y (λx Z=>(hd x Z).1) 9 t b (J t h1)];exact h3
   ·rw[show Xw (kr A d r bl nx wl).tm 9 t b=Xw A.tm 9 t b from ju Y (λx Z=>(hd x Z).1) 9 t b (J t h1)];exact(V _).2 h4
variable {v:TV}
theorem DU {e:Option Nat} {u:TV} (h: ∀x,d=some x->e≠some x):dI d v (dI e u tm)=dI e u (dI d v tm):=by
 funext t
 cases d with
 |none=>rfl
 |some x=>
  cases e with
  |none=>rfl
  |some y=>
   have J:x≠y:=λV=>h x rfl (by rw[V]);simp only[di,bS];by_cases h1:t=x
   ·subst h1;simp[J]
   ·simp[h1]
theorem Cd (J:RO D) (id id':Nat) (h: ∀x,D.d=some x->d≠some x):
 app D id (kr A d r bl nx wl)=kr (app D id' A) d r bl nx wl:=by
 rw[fh J,fh J];unfold kr;simp only[DU h]
structure Nice {O:Type} (I:O->Prop) (T:(O->Prop)->Prop):Prop where
 mono: ∀{K K':O->Prop},T K->(∀o,I o->K o->K' o)->T K'
 ne: ¬T (λ_=>False)
variable {O:Type}
theorem Nice.one {I:O->Prop} {o:O} (h:I o):Nice I (λK=>K o):=⟨λJ V=>V o h J,λh=>h⟩
theorem Nice.no {I:O->Prop} {T:(O->Prop)->Prop} (h: ∀K,¬T K):Nice I T:=⟨λJ=>absurd J (h _),h _⟩
theorem Nice.need {I:O->Prop} {T:(O->Prop)->Prop} (h:Nice I T) (b:Bool):Nice I (λK=>af b (T K)):=
 ⟨λJ V=>Xg.2 ⟨(Xg.1 J).1,h.mono (Xg.1 J).2 V⟩,λJ=>h.ne (Xg.1 J).2⟩
theorem Nice.bind {O':Type} {I:O->Prop} {I':O'->Prop} {T:(O->Prop)->Prop} (h:Nice I T) {F:(O'->Prop)->O->Prop} (hF: ∀o,I o->Nice I' (λK=>F K o)):Nice I' (λK=>T (F K)):=
 ⟨λJ Z=>h.mono J λo Y V=>(hF o Y).mono V Z,λJ=>h.ne (h.mono J λo Y V=>(hF o Y).ne V)⟩
theorem Nice.weak {I I':O->Prop} {T:(O->Prop)->Prop} (h:Nice I T) (J: ∀o,I o->I' o):Nice I' T:=⟨λV Y=>h.mono V λo Z=>Y o (J o Z),h.ne⟩
theorem Nice.some {I:O->Prop} {T:(O->Prop)->Prop} (h:Nice I T) {K:O->Prop} (J:T K): ∃o,I o/\K o:=by
 by_cases hh: ∃o,I o/\K o
 ·exact hh
 ·exact absurd (h.mono J λo Y V=>hh ⟨o,Y,V⟩) h.ne
theorem Nice.and {I:O->Prop} {T T':(O->Prop)->Prop} (h:Nice I T) (Y:Nice I T'):Nice I (λK=>T K/\T' K):=⟨λJ V=>⟨h.mono J.1 V,Y.mono J.2 V⟩,λJ=>h.ne J.1⟩
structure Out where
 r:Res
 b:Nat->Option Blk
 n:Nat
 w:List Nat
structure OutI (bl:Nat->Option Blk) (nx:Nat) (wl:List Nat) (o:Out):Prop where
 nxs:NX o.b o.n
 le:nx<=o.n
 keep: ∀j B,bl j=some B->j∉o.w->o.b j=some B
 new: ∀j,j<nx->bl j=none->o.b j=none
 sub: ∀j∈wl,j∈o.w
def NiceT (bl:zdP) (nx:Nat) (wl:zdL) (T:Aft->Prop):Prop:=Nice (OutI bl nx wl) λK=>T λr b n w=>K ⟨r,b,n,w⟩
variable {T:Aft->Prop}
theorem NiceT.mono (h:NiceT bl nx wl T) {K K':Aft} (J:T K) (V: ∀r b n w,OutI bl nx wl ⟨r,b,n,w⟩->K r b n w->K' r b n w):T K':=
 Nice.mono (K:=λo=>K o.r o.b o.n o.w) (K':=λo=>K' o.r o.b o.n o.w) h J λo Y=>V o.r o.b o.n o.w Y
theorem NiceT.some (h:NiceT bl nx wl T) {K:Aft} (J:T K): ∃r b n w,OutI bl nx wl ⟨r,b,n,w⟩/\K r b n w:=by
 obtain⟨o,Y,V⟩:=Nice.some (K:=λo=>K o.r o.b o.n o.w) h J;exact⟨o.r,o.b,o.n,o.w,Y,V⟩
def cF (inl:Inl):Prop:= ∀(f:FuncId) (args:zdN) (bl:zdP) (nx:Nat) (wl:zdL),NX bl nx->NiceT bl nx wl (inl f args bl nx wl)
theorem ano {d:Option Tmp} {K:List Nat->zdV} {r:Res} (h:uR A d noP K r bl nx wl):
 ∃s A',r= .ok s/\putD {A with bl:=bl,nx:=nx,wl:=wl++A.wl} d (.v s)=some A'/\K wl A':=by
 cases r with
 |pan v=>exact h.elim
 |ok s=>
  simp only[uR] at h;split at h
  ·rename_i A' hp;exact⟨s,A',rfl,hp,h⟩
  ·exact h.elim
variable {KP:Value->zdV}
theorem Ce {d:Option Tmp} {K:List Nat->zdV} (hp:putD {A with bl:=bl,nx:=nx,wl:=wl++A.wl} d (.v s)=some A') (h:K wl A'):
 uR A d KP K (.ok s) bl nx wl:=by
 simp only[uR];rw[hp];exact h
variable {b:Bool}
theorem Kh {t:TypeId} {x y:SV} {k:zdL} (V:NX A.bl A.nx) (h:S0 P A t x y=some (b,bl,r,k)):
 NX bl (A.nx+1)/\(∀j B,A.bl j=some B->j∉A.nx::k->bl j=some B)/\ ∀j,j<A.nx->A.bl j=none->bl j=none:=by
 have hid:A.bl A.nx=none:=V _ (za0 _);have dom: ∀{j B},A.bl j=some B->j<A.nx:=λ{j B} hB=>by
  rcases zah j A.nx with h|h
  ·exact h
  ·rw[V j h] at hB;cases hB
 have key: ∃N,(bl=upd A.bl A.nx N/\k= [])\/ ∃i X B,bl=upd (upd A.bl i X) A.nx N/\k= [i]/\A.bl i=some B:=by
  unfold S0 at h;split at h
  ·split at h
   ·split at h
    ·cases h
    ·have h:=bG h;split at h
     ·simp only[za1,zag] at h;exact⟨_, .inl ⟨h.2.1.symm,h.2.2.2.symm⟩⟩
     ·split at h
      ·rename_i B hB;split at h
       ·have h:=bG h;simp only[za1,zag] at h;exact⟨_, .inr ⟨_,_,B,h.2.1.symm,h.2.2.2.symm,hB⟩⟩
       ·cases h
      ·cases h
     ·cases h
   ·cases h
  ·cases h
 obtain⟨N,⟨rfl,rfl⟩|⟨i,X,B,rfl,rfl,hB⟩⟩:=key
 ·refine⟨λj J=>by rw[ak (by omega)];exact V j (by omega),λj B hB J=>by rw[ak (by simpa using J)];exact hB,λj J h0=>by rw[ak (by omega)];exact h0⟩
 ·have hi:=dom hB;refine⟨λj J=>by rw[ak (by omega),ak (by omega)];exact V j (by omega),λj C Y J=> ?_,λj J h0=> ?_⟩
  ·simp only[zai,not_or] at J;rw[ak J.1,ak J.2.1];exact Y
  ·rw[ak (by omega),ak (λe=>by rw[e,hB] at h0;cases h0)];exact h0
theorem vh {F F':Nat->SV->zdU} (hF: ∀e k v,F e k v->F' e k v): ∀{l:List (Bool×SV×SV)} {e:Nat},Gf l e F->Gf l e F'
 | [],_,_=>trivial
 |(b,k,v)::r,e,h=>⟨by
    have h1:=h.1;cases b with
    |true=>exact hF _ _ _ h1
    |false=>trivial,vh hF h.2⟩
theorem DV (V:NX bl nx) (x:XOp):NiceT bl nx [] (runX P bl nx x):=by
 have one: ∀r,OutI bl nx [] ⟨r,bl,nx, []⟩:=λr=>⟨V,za0 _,λ_ _ h _=>h,λ_ _ h=>h,λ_ h=>h⟩;have put: ∀r {i B C},bl i=some B->OutI bl nx [] ⟨r,upd bl i C,nx, [i]⟩:=λr i B C hB=>
  ⟨λj J=>(ak (λe=>by rw[<-e,V j J] at hB;cases hB)).trans (V j J),za0 _,λj D Z J=>(ak (λe=>J (by simp[e]))).trans Z,
    λj J h0=>(ak (λe=>by rw[e,hB] at h0;cases h0)).trans h0,λ_ h=>by cases h⟩
 unfold NiceT;cases x with
 |panic v=>exact Nice.one (one _)
 |iface t v=>
  simp only[runX];split
  ·exact Nice.no λ_ h=>h
  ·exact Nice.one (one _)
  ·exact Nice.no λ_ h=>h
 |mk t=>
  simp only[runX];split
  ·exact Nice.one (o:=(⟨.ok (.mp nx),upd bl nx _,nx+1, [nx]⟩:Out)) ⟨λj (J:nx+1<=j)=>(ak (by omega)).trans (V j (by omega)),zaT _,λj D Z J=>(ak (by simpa using J)).trans Z,
    λj J h0=>(ak (by omega)).trans h0,λ_ h=>by cases h⟩
  ·exact Nice.no λ_ h=>h
 |set t i k v=>
  simp only[runX];split
  ·rename_i kt et B _ hB;split
   ·split
    ·split
     ·exact(Nice.one (o:=(⟨.ok (.val undef),upd bl i _,nx, [i]⟩:Out)) (put _ hB)).need _
     ·exact Nice.no λ_ h=>h
    ·exact Nice.no λ_ h=>h
   ·split
    ·exact(Nice.one (o:=(⟨.ok (.val undef),upd bl i _,nx, [i]⟩:Out)) (put _ hB)).need _
    ·exact Nice.no λ_ h=>h
   ·split
    ·exact(Nice.one (o:=(⟨.ok (.val undef),upd bl i _,nx, [i]⟩:Out)) (put _ hB)).need _
    ·exact Nice.no λ_ h=>h
   ·exact Nice.no λ_ h=>h
  ·exact Nice.no λ_ h=>h
 |rng t i=>
  simp only[runX]
  have mk: ∀B,OutI bl nx [] ⟨.ok (.ptr nx 0 0),upd bl nx B,nx+1, [nx]⟩:=λB=>⟨λj (J:nx+1<=j)=>(ak (by omega)).trans (V j (by omega)),zaT _,λj D Z J=>(ak (by simpa using J)).trans Z,
   λj J h0=>(ak (by omega)).trans h0,λ_ h=>by cases h⟩
  split
  ·split
   ·exact Nice.one (mk _)
   ·exact Nice.one (mk _)
   ·exact Nice.no λ_ h=>h
  ·exact Nice.no λ_ h=>h
 |nxt i=>
  simp only[runX];split
  ·rename_i B hB;split
   ·split
    ·rename_i l hl;refine⟨λ{K K'} Y hm=>⟨?_,vh (λe k v h=>hm _ (put _ hB) h) Y.2⟩,λY=> ?_⟩
     ·have h1:=Y.1;cases ha:l.any (·.1) with
      |true=>exact trivial
      |false=>rw[ha] at h1;exact hm _ (put _ hB) h1
     ·obtain⟨h1,h2⟩:=Y;cases ha:l.any (·.1) with
      |false=>rw[ha] at h1;exact h1
      |true=>
       obtain⟨⟨b,k,v⟩,hp,hb⟩:=zaP.1 ha;obtain⟨j,J⟩:=zby hp;simp only[] at hb;subst hb;exact wx h2 J
    ·exact Nice.no λ_ h=>h
   ·refine⟨λ{K K'} Y hm=>⟨λh=>hm _ (put _ hB) (Y.1 h),λz h0 h1=>hm _ (put _ hB) (Y.2 z h0 h1)⟩,λY=> ?_⟩;refine Y.1 λk=> ?_;cases hb:su (B.get (k+1)) with
    |false=>rfl
    |true=>exact(Y.2 (k:Int) (Int.natCast_nonneg _) (by rw[zd4];exact hb)).elim
   ·exact Nice.no λ_ h=>h
  ·exact Nice.no λ_ h=>h
 |ent i=>
  simp only[runX];split
  ·rename_i B hB;cases B.kd.it with
   |false=>exact Nice.no λ_ h=>h
   |true=>
    simp only[zdu];split
    ·exact Nice.one (one _)
    ·exact Nice.no λ_ h=>h
  ·exact Nice.no λ_ h=>h
 |nil t b f x=>
  simp only[runX];split
  ·split
   ·exact(Nice.one (one _)).need _
   ·exact Nice.no λ_ h=>h
  ·exact Nice.one (one _)
  ·exact Nice.one (one _)
  ·exact Nice.one (one _)
  ·exact Nice.no λ_ h=>h
variable {inl:Inl}
theorem pj (Y:cF inl) (J:NX A.bl A.nx) (h:kQ P Γ inl A o G=some T):NiceT A.bl A.nx [] T:=by
 unfold kQ at h;split at h
 ·simp only[za1] at h;subst h;exact DV J _
 split at h
 ·rename_i t x y _;simp only[za1] at h;subst h;unfold NiceT;simp only[];split
  ·rename_i b bl r k V;obtain⟨Z,n2,n3⟩:=Kh J V;exact Nice.need (Nice.one (o:=(⟨.ok r,bl,A.nx+1,A.nx::k⟩:Out)) ⟨Z,zaT _,n2,n3,λ_ h=>by cases h⟩) _
  ·exact Nice.no λ_ h=>h
 ·split at h
  ·rename_i f args _;simp only[za1] at h;subst h;exact Y f args _ _ _ J
  ·cases h
theorem Cf (h: ∀x∈o.op.operands,∀G,ev B.tm G x=ev A.tm G x):uq B o=uq A o:=by
 unfold uq;cases hg:o.guard with
 |some p=>rfl
 |none=>
  cases J:o.op with
  |panic x=>simp only[h x (by rw[J];simp[Op.operands]) []]
  |makeInterface t x=>simp only[h x (by rw[J];simp[Op.operands]) []]
  |makeMap t r=>cases r<;>rfl
  |range t m=>simp only[h m (by rw[J];simp[Op.operands]) []]
  |entry x=>simp only[h x (by rw[J];simp[Op.operands]) []]
  |next x b=>cases b<;>simp only[h x (by rw[J];simp[Op.operands]) []]
  |insert t m k v=>simp only[h m (by rw[J];simp[Op.operands]) [],h k (by rw[J];simp[Op.operands]) [],h v (by rw[J];simp[Op.operands]) []]
  |mapUpdate t m k v=>simp only[h m (by rw[J];simp[Op.operands]) [],h k (by rw[J];simp[Op.operands]) [],h v (by rw[J];simp[Op.operands]) []]
  |binOp op t x y yt=>
   cases y with
   |const v=>simp only[h x (by rw[J];simp[Op.operands]) []]
   |_=>rfl
  |_=>rfl
theorem Cg (h: ∀x∈o.op.operands,∀G,ev B.tm G x=ev A.tm G x):ac6 B o=ac6 A o:=by
 unfold ac6;cases hg:o.guard with
 |some p=>rfl
 |none=>
  cases V:o.op with
  |call c=>
   simp only[];cases J:c.callee with
   |builtin b=>
    cases b<;>try rfl
    have:evs B.tm [] c.args.toList=evs A.tm [] c.args.toList:=gO λx Y=>h x (by rw[V];simp[Op.operands,Call.operands,J];simpa using Y) [];simp only[this]
   |_=>rfl
  |_=>rfl
theorem sD (h: ∀x∈o.op.operands,∀G,ev B.tm G x=ev A.tm G x) :po Γ B o G=po Γ A o G:=by
 unfold po;cases hg:o.guard with
 |some p=>rfl
 |none=>
  cases J:o.op with
  |call c=>
   simp only[];have:target B.tm G c=target A.tm G c:=nW λx V=>h x (by rw[J];exact V) G;simp only[this]
  |_=>rfl
theorem Ki (h1:B.bl=A.bl) (h2:B.nx=A.nx) (t:TypeId) (x y:SV):S0 P B t x y=S0 P A t x y:=by
 unfold S0;rw[h1,h2]
theorem sE (h: ∀x∈o.op.operands,∀G,ev B.tm G x=ev A.tm G x) (h1:B.bl=A.bl) (h2:B.nx=A.nx) :kQ P Γ inl B o G=kQ P Γ inl A o G:=by
 have e: ∀t x y,S0 P B t x y=S0 P A t x y:=Ki h1 h2;unfold kQ;rw[Cf h,Cg h,sD h,h1,h2];cases uq A o with
 |some v=>rfl
 |none=>
 simp only[];cases ac6 A o with
 |some p=>
  obtain⟨t,x,y⟩:=p;show some _=some _
  congr 1
  funext K
  rw[e t x y]
 |none=>rfl
theorem vi (h: ∀x∈o.op.operands,∀G,ev B.tm G x=ev A.tm G x) :kQ P Γ inl B o G=none↔kQ P Γ inl A o G=none:=by
 unfold kQ;rw[Cf h,Cg h,sD h];cases uq A o with
 |some v=>simp
 |none=>cases ac6 A o with
  |some p=>simp
  |none=>cases po Γ A o G<;>simp
theorem NG (h: ∀x,d=some x->x∉o.looksAt ops): ∀x∈o.op.operands,∀G,ev (dI d v tm) G x=ev tm G x:=λx J G=>Ai (λt e V=>by
 subst e
 exact h t V (zbI _ (zcI.2 ⟨.tmp t,by simpa using J,rfl⟩))) G
def Lk (ops:zdS) (o:Oper) (tm tm':Nat->TV):Prop:=(∀x∈o.op.operands,∀G,ev tm' G x=ev tm G x)/\ ∀j b t,o.guard=some (j,b)->(ops.toList[j]?).bind (·.dst)=some t->tm' t=tm t
theorem XU (h: ∀x,d=some x->x∉o.looksAt ops):Lk ops o tm (dI d v tm):=by
 refine⟨NG h,λj b t hg J=> ?_⟩;have V:t∈o.looksAt ops:=by
  refine zb1 _ ?_;rw[hg];simp at J ⊢;exact J
 exact lJ λe=>h t e V
theorem qf (h:Lk ops o A.tm B.tm):rN B ops o=rN A ops o:=by
 unfold rN;cases hg:o.guard with
 |none=>rfl
 |some p=>
  obtain⟨j,b⟩:=p;simp only[];cases J:(ops.toList[j]?).bind (·.dst) with
  |none=>rfl
  |some t=>simp only[];rw[h.2 j b t hg J]
theorem sG (h:Lk ops o A.tm B.tm) (h1:B.bl=A.bl) (h2:B.nx=A.nx):eK P Γ inl ops B o=eK P Γ inl ops A o:=by
 unfold eK;rw[sE h.1 h1 h2,sE (o:=jU o) h.1 h1 h2,qf h,h1,h2]
theorem fE (h:Lk ops o A.tm B.tm):eK P Γ inl ops B o=none↔eK P Γ inl ops A o=none:=by
 unfold eK;rw[qf h];cases o.guard with
 |none=>exact vi h.1
 |some p=>
  have J:=vi (P:=P) (Γ:=Γ) (inl:=inl) (A:=A) (B:=B) (o:=jU o) h.1 (G:=Gi ops o);simp only[];cases h1:kQ P Γ inl A (jU o) (Gi ops o) with
  |none=>rw[J.2 h1]
  |some T=>
   cases h2:kQ P Γ inl B (jU o) (Gi ops o) with
   |none=>rw[J.1 h2] at h1;cases h1
   |some V=>
    simp only[];cases rN A ops o with
    |none=>simp
    |some g=>simp
theorem fF (J:cF inl) (V:NX A.bl A.nx) (h:eK P Γ inl ops A o=some T):NiceT A.bl A.nx [] T:=by
 unfold eK at h;cases hg:o.guard with
 |none=>rw[hg] at h;exact pj J V h
 |some p=>
  rw[hg] at h;simp only[] at h;split at h
  ·rename_i Z Y;split at h
   ·rename_i g _;simp only[za1] at h;subst h;cases g with
    |true=>exact pj J V Y
    |false=>exact Nice.one (o:=(⟨.ok (.val undef),A.bl,A.nx, []⟩:Out)) ⟨V,za0 _,λ_ _ h _=>h,λ_ _ h=>h,λ_ h=>h⟩
   ·cases h
  ·cases h
variable {β:zdM} {a:Act} {w:World} {Q:zdZ} {KK:Act->World->Prop}
theorem Am (Y:kn P W0 inl) (J:eK P Γ inl ops A o=some T) {Kn:List Nat->zdV} 
 (h:T (uR A o.dst KP Kn)) (Z:Is W0 A β a w) 
 (hP: ∀v A' w' β',KP v A'->Is W0 A' β' a w'->Trs A β A' β'->Q (pex v) a w')
 (hK: ∀wl A' a' w' β',Kn wl A'->Is W0 A' β' a' w'->Trs A β A' β'->KK a' w'):
 if Region.wanted o (yielded ops a.tmps) then o.wp P a w KK Q else KK (a.put o.dst undef) w:=by
 unfold eK at J;cases hg:o.guard with
 |none=>
  rw[hg] at J;obtain⟨r1,r2⟩:=mP Y (ops:=ops) J h Z (λp hp=>by cases hp) hP hK;rw[if_pos r1];exact r2
 |some p=>
  obtain⟨j,b⟩:=p;rw[hg] at J;simp only[] at J;split at J
  ·rename_i T' hT;have V: ∀g,rN A ops o=some g->((Region.wanted o (yielded ops a.tmps)=true)↔g=true):=by
    intro g h1;unfold rN at h1;rw[hg] at h1;simp only[] at h1;split at h1
    ·rename_i t ht;split at h1
     ·rename_i x hx;simp only[za1] at h1;have:=(Z.fr.v t _ hx).1;rw[ib hg ht,this,<-h1];simp[SV.conc]
     ·cases h1
    ·cases h1
   split at J
   ·rename_i g hh;simp only[za1] at J;subst J;cases g with
    |true=>
    obtain⟨_,r2⟩:=mP Y (ops:=ops) (o:=jU o) hT h Z (λp hp=>by
     have hw:=(V _ hh).2 rfl;unfold Gi at hp;rw[hg] at hp;simp only[] at hp;split at hp
     ·rename_i t ht;rw[zaj.1 hp];exact(ib hg ht).1 hw
     ·cases hp) hP hK
    rw[if_pos ((V _ hh).2 rfl)];exact r2
    |false=>
    rw[if_neg (λe=>by have:=(V _ hh).1 e;cases this)];simp only[zdt,uR] at h;split at h
    ·rename_i A1 hp;obtain⟨q1,q2,q3,q4,q5⟩:=FR.putD Z.fr (s:= .val undef) (λi hi=>by simp[SV.ids] at hi) hp;exact hK _ A1 _ w β h ⟨q1,by rw[q2];exact Z.bc,by rw[q2,q3];exact Z.nx,(nB hp).trans Z.sd⟩ ⟨by rw[q2];exact Tr.refl _ _ _ _,by rw[q5];exact λi hi=>by simp[hi],by rw[q3];exact za0 _,q4⟩
    ·exact h.elim
   ·cases J
  ·cases J
variable {pre:Nat->zdL} {h:Nat->Option Hst} {x:Nat} {e:Hst} {ef:Bool} {rd wr:zdL}
theorem ab5 (Y:i∉pre x):okM ops pre (dc h i e) x ef rd wr=okM ops pre h x ef rd wr:=by
 unfold okM;rw[zax];simp only[zaf];have V: ∀y,y∈pre x->dc h i e y=h y:=λy J=>by
  unfold dc;rw[bS,zdv (λ(q:y=i)=>Y (q▸J))];rfl
 constructor
 ·intro hh y J;have:=hh y J;rwa[V y J] at this
 ·intro hh y J;rw[V y J];exact hh y J
theorem qg (h:smallF o=true):kQ P Γ inl A o G=none:=by
 unfold smallF at h;have h1:uq A o=none:=by
  unfold uq;split<;>first|rfl|(simp_all)
 have h2:ac6 A o=none:=by
  unfold ac6;split<;>first|rfl|(simp_all)
 have h3:po Γ A o G=none:=by
  unfold po;split<;>first|rfl|(simp_all)
 unfold kQ;rw[h1,h2,h3]
theorem Ao (h:smallF o=true):eK P Γ inl ops A o=none:=by
 unfold eK;cases o.guard with
 |none=>exact qg h
 |some p=>simp only[];rw[qg (o:=jU o) h]
theorem ab6 (Y:h x=none) (V:okM ops pre (dc h x e) i ef rd wr=true):okM ops pre h i ef rd wr=true:=by
 unfold okM at V ⊢;simp only[zaf] at V ⊢;intro y Z;have:=V y Z;by_cases J:y=x
 ·subst J;rw[Y];simp
 ·have e1:dc h x e y=h y:=by unfold dc;rw[bS,zdv J];rfl
  rwa[e1] at this
variable {ox oi:Oper}
theorem ji (hx:x∈pre i) (h1:ops.toList[x]? =some ox) (h2:ops.toList[i]? =some oi) (V:bK ops.toList ops.size i x=false)
 (J:okM ops pre (dc h x e) i ef rd wr=true):ox.apart ops oi=true/\(ef&&e.ef)=false/\jT wr e.rd=false/\jT e.wr rd=false/\(e.ef=true->smallF ox=false-> ∀j∈rd,j<e.nx):=by
 unfold okM at J;simp only[zaf] at J;have:=J x hx;have e1:dc h x e x=some e:=by unfold dc;rw[bS,zds rfl];rfl
 rw[V,e1,h1,h2] at this;simp only[zbi,za2,zap,zav,zaf,aB,zdw] at this;refine⟨this.1.1.1.1,this.1.1.1.2,this.1.1.2,this.1.2,λY hs j Z=> ?_⟩;rcases this.2 with (h|h)|h
 ·rw[Y] at h;cases h
 ·rw[hs] at h;cases h
 ·exact h j Z
theorem DW {a b:zdL} (h:jT a b=false):jT b a=false:=by
 cases hh:jT b a with
 |false=>rfl
 |true=>
  unfold jT at hh;simp only[zaP] at hh;obtain⟨x,Y,y,Z,V⟩:=hh;have J:=zab V;subst J;exact absurd Y (jw h Z)
theorem DY {j:Nat} {f:Hst} (J:i≠j):dc (dc h i e) j f=dc (dc h j f) i e:=by
 funext y
 simp only[dc,bS];by_cases h1:y=j
 ·subst h1;simp[Ne.symm J]
 ·simp[h1]
variable {K:Bool->List Nat->List Nat->zdV}
theorem eQ (V:eK P Γ inl ops A o=none) (h:opT P Γ inl ops A o KP K):
 ∃D,Stp P Γ ops A.nx o A D/\((RO D/\K false D.E.rd [] (app D A.nx A))\/(¬RO D/\K true D.E.rd (aV A.nx D.E).2 {app D A.nx A with nx:=A.nx+1,wl:=(aV A.nx D.E).2++A.wl})):=by
 unfold opT at h;rw[V] at h;simp only[] at h;split at h
 ·rename_i b A' f Z;obtain⟨V,h⟩:=Xg.1 h;subst V;obtain⟨D,st,rfl,rfl⟩:=VV.1 Z;refine⟨D,st, ?_⟩;split at h
  ·rename_i J;exact .inl ⟨VZ.1 J,h⟩
  ·rename_i j l J;right;rw[J];exact⟨λY=>absurd ((VZ.2 Y).symm.trans J) (by simp),h⟩
 ·exact h.elim
theorem kV (J:eK P Γ inl ops A o=none) (st:Stp P Γ ops A.nx o A D) (V:RO D) (h:K false D.E.rd [] (app D A.nx A)):opT P Γ inl ops A o KP K:=by
 unfold opT;rw[J];simp only[VV.2 ⟨D,st,rfl,rfl⟩];refine Xg.2 ⟨rfl, ?_⟩;rw[VZ.2 V];exact h
theorem wy (V:eK P Γ inl ops A o=none) (st:Stp P Γ ops A.nx o A D) (Y: ¬RO D)
 (h:K true D.E.rd (aV A.nx D.E).2 {app D A.nx A with nx:=A.nx+1,wl:=(aV A.nx D.E).2++A.wl}):opT P Γ inl ops A o KP K:=by
 unfold opT;rw[V];simp only[VV.2 ⟨D,st,rfl,rfl⟩];refine Xg.2 ⟨rfl, ?_⟩;split
 ·rename_i J;exact absurd (VZ.1 J) Y
 ·rename_i j l J;rw[J] at h;exact h
theorem An {f:zdT} (h:arz d f x=false):f x=false:=by
 cases d with
 |none=>exact h
 |some d=>rw[bZ] at h;simp at h;exact h.2
theorem dl {c:Bool} {K:Prop}:af (b&&c) K↔b=true/\c=true/\K:=by
 rw[Xg,za2,and_assoc]
variable {m:Bool}
theorem acT:ckM m ops i false=true:=by unfold ckM;simp
theorem ahs {d:Option Tmp} {K:List Nat->zdV} (h:uR A d KP K (.ok s) bl nx wl):
 ∃A',putD {A with bl:=bl,nx:=nx,wl:=wl++A.wl} d (.v s)=some A'/\K wl A':=by
 simp only[uR] at h;split at h
 ·rename_i A' hp;exact⟨A',hp,h⟩
 ·exact h.elim
variable {KN:Value->zdV}
theorem GC (hinl:cF inl) {R:AS->(Nat->Option Hst)->Prop} (hos:OS A) (hnx:NX A.bl A.nx)
 (hne:x≠i) (hxi:x∈pre i) (hix:i∉pre x) (hx:ops.toList[x]? =some ox) (hi:ops.toList[i]? =some oi) (hb:bK ops.toList ops.size i x=false) (h0:h x=none) (hN:KN=noP\/(∀v A',KN v A'↔KN v (acO A'))/\smallF ox=true/\m=true/\Du ops x i=true/\ox.apart ops oi=true)
 (hm:opT P Γ inl ops A ox KN λef rd wr A1=>af (okM ops pre h x ef rd wr&&ckM m ops x ef) (opT P Γ inl ops A1 oi KN λJ rd' wr' A2=>af (okM ops pre (dc h x ⟨ef,rd,wr,bif ef then A.nx else 0⟩) i J rd' wr'&&ckM m ops i J) (R A2 (dc (dc h x ⟨ef,rd,wr,bif ef then A.nx else 0⟩) i ⟨J,rd',wr',bif J then A1.nx else 0⟩)))):
 opT P Γ inl ops A oi KN λJ rd' wr' A1=>af (okM ops pre h i J rd' wr'&&ckM m ops i J) (opT P Γ inl ops A1 ox KN λef rd wr A2=>af (okM ops pre (dc h i ⟨J,rd',wr',bif J then A.nx else 0⟩) x ef rd wr&&ckM m ops x ef) (R A2 (dc (dc h i ⟨J,rd',wr',bif J then A.nx else 0⟩) x ⟨ef,rd,wr,bif ef then A1.nx else 0⟩))):=by
 have swapH: ∀e e',dc (dc h i e') x e=dc (dc h x e) i e':=λe e'=>DY (Ne.symm hne);have rdom: ∀{B:AS} {id:Nat} {o:Oper} {D:Dl},Stp P Γ ops id o B D-> ∀j∈D.E.rd,B.bl j≠none:=by
  intro B id o D st j hj;have src:=st.src;unfold Src at src;cases hg:o.guard with
  |none=>rw[hg] at src;exact GB src.2.2.2 hj
  |some p=>
   obtain⟨jj,bb⟩:=p;rw[hg] at src;obtain⟨t,g,_,_,_,h4,_⟩:=src;exact GB h4 hj
 cases hbx:eK P Γ inl ops A ox with
 |some T=>
  have hN:KN=noP:=by
   rcases hN with h|⟨_,h,_⟩
   ·exact h
   ·rw[Ao h] at hbx;cases hbx
  subst hN;unfold opT at hm;rw[hbx] at hm;simp only[] at hm;have nT:=fF hinl hnx hbx;obtain⟨r0,b0,n0,w0,I0,h00⟩:=nT.some hm;have each: ∀r b n w,OutI A.bl A.nx [] ⟨r,b,n,w⟩->uR A ox.dst noP (λwl A1=>af (okM ops pre h x true [] wl&&ckM m ops x true) (opT P Γ inl ops A1 oi noP λJ rd' wr' A2=>af (okM ops pre (dc h x ⟨true, [],wl,A.nx⟩) i J rd' wr'&&ckM m ops i J) (R A2 (dc (dc h x ⟨true, [],wl,A.nx⟩) i ⟨J,rd',wr',bif J then A1.nx else 0⟩)))) r b n w-> ∃s D,r= .ok s/\Stp P Γ ops A.nx oi A D/\RO D/\ox.apart ops oi=true/\(∀y,ox.dst=some y->y<A.nt/\A.ok y=false)/\eK P Γ inl ops A oi=none/\okM ops pre h x true [] w=true/\ckM m ops x true=true/\okM ops pre h i false D.E.rd []=true/\
   R (app D n (kr A ox.dst s b n (w++A.wl))) (dc (dc h x ⟨true, [],w,A.nx⟩) i ⟨false,D.E.rd, [],0⟩):=by
   intro r b n w ⟨k1,k2,k3,k4,_⟩ Y;obtain⟨r,Ax,rfl,hp,Y⟩:=ano Y
   ·obtain⟨rfl,hput⟩:=Wa.1 hp;obtain⟨q1,qc,q2⟩:=dl.1 Y;have q2':opT P Γ inl ops (kr A ox.dst r b n (w++A.wl)) oi noP λJ rd' wr' A2=>af (okM ops pre (dc h x ⟨true, [],w,A.nx⟩) i J rd' wr'&&ckM m ops i J) (R A2 (dc (dc h x ⟨true, [],w,A.nx⟩) i ⟨J,rd',wr',bif J then n else 0⟩)):=q2;cases V:eK P Γ inl ops (kr A ox.dst r b n (w++A.wl)) oi with
    |some T'=>
     exfalso;unfold opT at q2';rw[V] at q2';simp only[] at q2';obtain⟨r1,b1,n1,w1,_,this⟩:=(fF hinl (A:=kr A ox.dst r b n (w++A.wl)) k1 V).some q2';obtain⟨_,_,_,_,this⟩:=ano this;obtain⟨o1,_⟩:=dl.1 this;have:=(ji hxi hx hi hb o1).2.1;simp at this
    |none=>
     obtain⟨D,st,⟨hr,hk2⟩|⟨hr,hk2⟩⟩:=eQ V q2'
     ·obtain⟨o1,_,o2⟩:=dl.1 hk2;obtain⟨a1,a2,a3,a4,a5⟩:=ji hxi hx hi hb o1;obtain⟨ap1,ap2,ap3⟩:=Oper.apart_spec a1;have hd: ∀y,ox.dst=some y->A.ok y=false/\y∉oi.looksAt ops:=λy Z=>⟨(hput y Z).2,ap1 y Z⟩;have hrd: ∀j∈D.E.rd,b j=A.bl j:=by
       intro j hj;have hjw:j∉w:=λhw=>jw a4 hw hj;cases hB:A.bl j with
       |some B=>exact k3 j B hB hjw
       |none=>exact absurd (k4 j (a5 rfl (by cases hs:smallF ox with
        |false=>rfl
        |true=>rw[Ao hs] at hbx;cases hbx) j hj) hB) (rdom st j hj)
      have hfn:A.bl n=none:=hnx n k2;have st3:Stp P Γ ops n oi A D:=⟨st.d,hfn,λy Z=>st.put y Z,(Cc (P:=P) (Γ:=Γ) (ops:=ops) (id:=n) (o:=oi) (A:=A) (D:=D) (d:=ox.dst) (r:=r) (bl:=b) (nx:=n) (wl:=w++A.wl) hos hr hd hrd).1 st.src⟩;exact⟨r,D,rfl,st3.reid hr (hnx _ (za0 _)),hr,a1,hput,(fE (XU ap1)).1 V,q1,qc,ab6 h0 o1,o2⟩
     ·obtain⟨o1,_⟩:=dl.1 hk2;have:=(ji hxi hx hi hb o1).2.1;simp at this
  obtain⟨_,D,_,st,hr,a1,hput,V,_,_,hoki,_⟩:=each r0 b0 n0 w0 I0 h00;obtain⟨ap1,ap2,ap3⟩:=Oper.apart_spec a1;refine kV V st hr (dl.2 ⟨hoki,acT, ?_⟩);have hbx':eK P Γ inl ops (app D A.nx A) ox=some T:=by
   rw[<-hbx];rw[fh hr];exact sG (XU λy Z=>ap3 y (by rw[<-st.d];exact Z)) rfl rfl
  rw[opT,hbx'];refine nT.mono hm λr b n w io Y=> ?_;obtain⟨r,D',rfl,st',hr',_,_,_,hokx,hckx,_,hR⟩:=each r b n w io Y;obtain rfl:=st.det st';have hp:putD {app D A.nx A with bl:=b,nx:=n,wl:=w++(app D A.nx A).wl} ox.dst (.v r)=some (kr (app D A.nx A) ox.dst r b n (w++A.wl)):=by
   refine Wa.2 ⟨rfl,λy Z=>⟨(hput y Z).1, ?_⟩⟩;show arz (D.d.bind λ_=>D.key) A.ok y=false;cases h3:D.d with
   |none=>exact(hput y Z).2
   |some e=>
    cases h4:D.key with
    |none=>exact(hput y Z).2
    |some k=>
     have hyk:y≠k:=λe=>ap1 y Z (by rw[e];exact DT st.src h4);simp only[zcG,bZ,bS,(hput y Z).2];simp[hyk]
  refine Ce hp ?_;refine dl.2 ⟨by rw[ab5 hix];exact hokx,hckx, ?_⟩;rw[swapH];rw[Cd hr n A.nx (λy Z e=>ap2 y e (by rw[<-st.d];exact Z))] at hR;exact hR
 |none=>
  obtain⟨Dx,sx,⟨hrx,Y⟩|⟨hrx,Y⟩⟩:=eQ hbx hm
  ·
   obtain⟨hokx,hckx,Y⟩:=dl.1 Y;have hAx:=fh hrx A.nx A;cases V:eK P Γ inl ops (app Dx A.nx A) oi with
   |some T=>
    unfold opT at Y;rw[V] at Y;simp only[] at Y;have hnx':NX (app Dx A.nx A).bl (app Dx A.nx A).nx:=by rw[hAx];exact hnx
    have nT:=fF hinl hnx' V;have ap:ox.apart ops oi=true:=by
     rcases hN with hN|⟨_,_,_,_,hN⟩
     ·subst hN;obtain⟨r0,b0,n0,w0,_,this⟩:=nT.some Y;obtain⟨_,_,_,_,this⟩:=ano this;obtain⟨o1,_⟩:=dl.1 this;exact(ji hxi hx hi hb o1).1
     ·exact hN
    obtain⟨ap1,ap2,ap3⟩:=Oper.apart_spec ap;have hbi':eK P Γ inl ops A oi=some T:=by
     have:=sG (P:=P) (Γ:=Γ) (inl:=inl) (A:=A) (B:=app Dx A.nx A) (o:=oi) (XU λy Z=>ap1 y (by rw[<-sx.d];exact Z)) (by rw[hAx]) (by rw[hAx]);rw[<-this];exact V
    rw[opT,hbi'];refine NiceT.mono (fF hinl hnx hbi') (nT.mono Y λr b n w io Y=>(⟨io,Y⟩:OutI (app Dx A.nx A).bl (app Dx A.nx A).nx [] ⟨r,b,n,w⟩/\_)) λr b n w _ Y=> ?_;obtain⟨⟨k1,k2,k3,k4,_⟩,Y⟩:=Y;cases r with
    |pan v=>
     have Y:KN v {app Dx A.nx A with bl:=b,nx:=n,wl:=w++(app Dx A.nx A).wl}:=Y;show KN v {A with bl:=b,nx:=n,wl:=w++A.wl};rcases hN with h|⟨h,_⟩
     ·rw[h] at Y;exact Y.elim
     ·have h1:=(h _ _).1 Y;refine(h _ _).2 ?_;rw[hAx] at h1;exact h1
    |ok r=>
    obtain⟨A2,hp,Y⟩:=ahs Y
    ·obtain⟨rfl,hput⟩:=Wa.1 hp;obtain⟨o1,oc,hR⟩:=dl.1 Y;obtain⟨a1,a2,a3,a4,_⟩:=ji hxi hx hi hb o1;have hput': ∀y,oi.dst=some y->y<A.nt/\A.ok y=false:=λy Z=>⟨(hput y Z).1,An (hput y Z).2⟩;have hp:putD {A with bl:=b,nx:=n,wl:=w++A.wl} oi.dst (.v r)=some (kr A oi.dst r b n (w++A.wl)):=Wa.2 ⟨rfl,hput'⟩;refine Ce hp ?_;refine dl.2 ⟨ab6 h0 o1,oc, ?_⟩;have hd: ∀y,oi.dst=some y->A.ok y=false/\y∉ox.looksAt ops:=λy Z=>⟨(hput' y Z).2,ap3 y Z⟩;have hrd: ∀j∈Dx.E.rd,b j=A.bl j:=by
      intro j hj;have hjw:j∉w:=λhw=>jw a3 hw hj;cases hB:A.bl j with
      |some B=>exact k3 j B (by rw[hAx];exact hB) hjw
      |none=>exact absurd hB (rdom sx j hj)
     have k2':A.nx<=n:=k2;have sx':Stp P Γ ops n ox (kr A oi.dst r b n (w++A.wl)) Dx:=
      ⟨sx.d,k1 n (za0 _),λy Z=>sx.put y Z,(Cc hos hrx hd hrd).2 (sx.reid hrx (hnx n k2')).src⟩
     refine kV (A:=kr A oi.dst r b n (w++A.wl)) ((fE (XU ap3)).2 hbx) sx' hrx ?_;refine dl.2 ⟨?_,hckx, ?_⟩
     ·rw[ab5 hix];exact hokx
     rw[swapH];show R (app Dx n (kr A oi.dst r b n (w++A.wl))) _;rw[Cd hrx n A.nx (λy Z e=>ap2 y (by rw[<-sx.d];exact Z) e)];exact hR
   |none=>
    obtain⟨Di,si,hki⟩:=eQ V Y;have ap:ox.apart ops oi=true/\jT (aV A.nx Di.E).2 Dx.E.rd=false:=by
     rcases hki with ⟨hr,hki⟩|⟨hr,hki⟩
     ·obtain⟨o1,_⟩:=dl.1 hki;obtain⟨a1,_⟩:=ji hxi hx hi hb o1;exact⟨a1,by rw[VZ.2 hr];rfl⟩
     ·obtain⟨o1,_⟩:=dl.1 hki;obtain⟨a1,_,a3,_⟩:=ji hxi hx hi hb o1;exact⟨a1,a3⟩
    obtain⟨ap1,ap2,ap3⟩:=Oper.apart_spec ap.1;have sx1:=sx.reid (id':=A.nx+1) hrx (hnx _ (by omega));have e1:app Dx (A.nx+1) A=app Dx A.nx A:=by rw[fh hrx,fh hrx]
    have hcl:pZ (aV (A.nx+1) Dx.E) (aV A.nx Di.E)=false:=by
     unfold pZ;rw[VZ.2 hrx];have:jT (aV (A.nx+1) Dx.E).1 (aV A.nx Di.E).2=false:=DW ap.2;rw[this];rfl
    have si':step P Γ ops A.nx oi (app Dx (A.nx+1) A)=some (true,app Di A.nx (app Dx A.nx A),aV A.nx Di.E):=by rw[e1];exact VV.2 ⟨Di,si,rfl,rfl⟩
    obtain⟨A1,c1,c2⟩:=kb hos (VV.2 ⟨Dx,sx1,rfl,rfl⟩) si' ap.1 hcl (by omega);obtain⟨Di',ti,rfl,fi⟩:=VV.1 c1;obtain⟨Dx',tx,ex,fx⟩:=VV.1 c2;have hrx':RO Dx':=VZ.1 (by rw[<-fx];exact VZ.2 hrx);have erd:Dx'.E.rd=Dx.E.rd:=(congrArg Prod.fst fx).symm;have eri:Di'.E.rd=Di.E.rd:=(congrArg Prod.fst fi).symm;have hbi':eK P Γ inl ops A oi=none:=(fE (A:=A) (B:=app Dx A.nx A) (XU λy Z=>ap1 y (by rw[<-sx.d];exact Z))).1 V;have hbx':eK P Γ inl ops (app Di' A.nx A) ox=none:=(fE (A:=A) (B:=app Di' A.nx A) (XU λy Z=>ap3 y (by rw[<-ti.d];exact Z))).2 hbx;rcases hki with ⟨hri,hki⟩|⟨hri,hki⟩
    ·obtain⟨o1,oc,hR⟩:=dl.1 hki;have hri':RO Di':=VZ.1 (by rw[<-fi];exact VZ.2 hri);refine kV hbi' ti hri' (dl.2 ⟨by rw[eri];exact ab6 h0 o1,acT, ?_⟩);have hfr:(app Di' A.nx A).bl A.nx=none:=by rw[fh hri'];exact hnx _ (za0 _)
     refine kV hbx' (tx.reid (id':=A.nx) hrx' hfr) hrx' (dl.2 ⟨by rw[ab5 hix,erd];exact hokx,acT, ?_⟩);rw[swapH,erd,eri];have:app Dx' A.nx (app Di' A.nx A)=app Di A.nx (app Dx A.nx A):=by
      rw[ex,fh hrx',fh hrx']
     show R (app Dx' A.nx (app Di' A.nx A)) _;rw[this];exact hR
    ·obtain⟨o1,oc,hR⟩:=dl.1 hki;have hri': ¬RO Di':=λh=>hri (VZ.1 (by rw[fi];exact VZ.2 h));have ew:(aV A.nx Di'.E).2=(aV A.nx Di.E).2:=by rw[fi]
     refine wy hbi' ti hri' (dl.2 ⟨by rw[eri,ew];exact ab6 h0 o1,oc, ?_⟩);have hbx2:eK P Γ inl ops {app Di' A.nx A with nx:=A.nx+1,wl:=(aV A.nx Di'.E).2++A.wl} ox=none:=(fE (A:=app Di' A.nx A) (B:={app Di' A.nx A with nx:=A.nx+1,wl:=(aV A.nx Di'.E).2++A.wl}) ⟨λ_ _ _=>rfl,λ_ _ _ _ _=>rfl⟩).2 hbx';refine kV (A:={app Di' A.nx A with nx:=A.nx+1,wl:=(aV A.nx Di'.E).2++A.wl}) hbx2 ⟨tx.d,tx.fresh,tx.put,tx.src⟩ hrx' (dl.2 ⟨by rw[ab5 hix,erd];exact hokx,acT, ?_⟩);rw[swapH,erd,eri,ew];have:app Dx' (A.nx+1) {app Di' A.nx A with nx:=A.nx+1,wl:=(aV A.nx Di.E).2++A.wl}={app Di A.nx (app Dx A.nx A) with nx:=A.nx+1,wl:=(aV A.nx Di.E).2++A.wl}:=by
      rw[ex];rfl
     show R (app Dx' (A.nx+1) {app Di' A.nx A with nx:=A.nx+1,wl:=(aV A.nx Di.E).2++A.wl}) _;rw[this];exact hR
  ·
   obtain⟨hokx,hckx,Y⟩:=dl.1 Y;have hnx':NX (VO A.bl A.nx Dx.E) (A.nx+1):=hnx.apply Dx.E (by omega) (za0 _);cases V:eK P Γ inl ops {app Dx A.nx A with nx:=A.nx+1,wl:=(aV A.nx Dx.E).2++A.wl} oi with
   |some T=>
    exfalso;rcases hN with hN|⟨_,_,hm1,hu,_⟩
    ·subst hN;unfold opT at Y;rw[V] at Y;simp only[] at Y;obtain⟨r0,b0,n0,w0,_,this⟩:=(fF hinl (A:={app Dx A.nx A with nx:=A.nx+1,wl:=(aV A.nx Dx.E).2++A.wl}) hnx' V).some Y;obtain⟨_,_,_,_,this⟩:=ano this;obtain⟨o1,_⟩:=dl.1 this;have:=(ji hxi hx hi hb o1).2.1;simp at this
    ·have hns:dz ops i=true:=by
      unfold dz;rw[hi];show (!smallF oi)=true;cases hs:smallF oi with
      |false=>rfl
      |true=>rw[Ao hs] at V;cases V
     have:((List.range ops.size).any λc=>Du ops x c&&dz ops c)=true:=zaP.2 ⟨i,zaC.2 (by
      rcases zah i ops.size with h|h
      ·exact h
      ·rw[zad (by simpa using h)] at hi;cases hi),by rw[hu,hns];rfl⟩
     unfold ckM at hckx;rw[hm1,this] at hckx;cases hckx
   |none=>
    obtain⟨Di,si,⟨hri,hki⟩|⟨hri,hki⟩⟩:=eQ V Y
    ·obtain⟨o1,oc,hR⟩:=dl.1 hki;obtain⟨a1,_,_,a4,_⟩:=ji hxi hx hi hb o1;obtain⟨ap1,ap2,ap3⟩:=Oper.apart_spec a1;have hcl:pZ (aV A.nx Dx.E) (aV (A.nx+1) Di.E)=false:=by
      unfold pZ;rw[VZ.2 hri];have h1:jT (aV A.nx Dx.E).2 (aV (A.nx+1) Di.E).1=false:=a4;have h2: ∀l:zdL,jT l []=false:=λl=>by unfold jT;simp
      rw[h1,h2,h2];rfl
     have si':step P Γ ops (A.nx+1) oi (app Dx A.nx A)=some (true,app Di (A.nx+1) (app Dx A.nx A),aV (A.nx+1) Di.E):=VV.2 ⟨Di,⟨si.d,si.fresh,si.put,si.src⟩,rfl,rfl⟩;obtain⟨A1,c1,c2⟩:=kb hos (VV.2 ⟨Dx,sx,rfl,rfl⟩) si' a1 hcl (by omega);obtain⟨Di',ti,rfl,fi⟩:=VV.1 c1;obtain⟨Dx',tx,ex,fx⟩:=VV.1 c2;have hri':RO Di':=VZ.1 (by rw[<-fi];exact VZ.2 hri);have hrx': ¬RO Dx':=λh=>hrx (VZ.1 (by rw[fx];exact VZ.2 h));have erd:Dx'.E.rd=Dx.E.rd:=(congrArg Prod.fst fx).symm;have eri:Di'.E.rd=Di.E.rd:=(congrArg Prod.fst fi).symm;have ew:(aV A.nx Dx'.E).2=(aV A.nx Dx.E).2:=by rw[fx]
     have hbi':eK P Γ inl ops A oi=none:=(fE (A:=A) (B:={app Dx A.nx A with nx:=A.nx+1,wl:=(aV A.nx Dx.E).2++A.wl}) (XU λy Z=>ap1 y (by rw[<-sx.d];exact Z))).1 V;have hbx':eK P Γ inl ops (app Di' A.nx A) ox=none:=(fE (A:=A) (B:=app Di' A.nx A) (XU λy Z=>ap3 y (by rw[<-ti.d];exact Z))).2 hbx;have e1:app Di' (A.nx+1) A=app Di' A.nx A:=by rw[fh hri',fh hri']
     refine kV hbi' (ti.reid hri' (hnx _ (za0 _))) hri' (dl.2 ⟨by rw[eri];exact ab6 h0 o1,acT, ?_⟩);rw[e1] at tx ex;refine wy hbx' tx hrx' (dl.2 ⟨by rw[ab5 hix,erd];show okM ops pre h x true Dx.E.rd (aV A.nx Dx'.E).2=true;rw[ew];exact hokx,hckx, ?_⟩);rw[swapH,erd,eri];have:({app Dx' A.nx (app Di' A.nx A) with nx:=A.nx+1,wl:=(aV A.nx Dx.E).2++A.wl}:AS)=app Di (A.nx+1) {app Dx A.nx A with nx:=A.nx+1,wl:=(aV A.nx Dx.E).2++A.wl}:=by
      rw[<-ex];rfl
     show R {app Dx' A.nx (app Di' A.nx A) with nx:=A.nx+1,wl:=(aV A.nx Dx'.E).2++A.wl} (dc (dc h x ⟨true,Dx.E.rd,(aV A.nx Dx'.E).2,A.nx⟩) i ⟨false,Di.E.rd, [],0⟩);rw[ew,this];exact hR
    ·exfalso;obtain⟨o1,_⟩:=dl.1 hki;have:=(ji hxi hx hi hb o1).2.1;simp at this
variable {K':Bool->List Nat->List Nat->zdV}
theorem GD (hinl:cF inl) (Z:OS A) (Y:NX A.bl A.nx) (h:opT P Γ inl ops A o KP K)
 (hK: ∀ef rd wr A',K ef rd wr A'->OS A'->NX A'.bl A'.nx->K' ef rd wr A'):opT P Γ inl ops A o KP K':=by
 cases hb:eK P Γ inl ops A o with
 |some T=>
  rw[opT,hb] at h ⊢;refine(fF hinl Y hb).mono h λr b n w io J=> ?_;cases r with
  |pan v=>exact J
  |ok r=>
  simp only[uR] at J ⊢;split at J
  ·rename_i A' hp;obtain⟨rfl,hput⟩:=Wa.1 hp;refine hK _ _ _ _ J ?_ io.nxs;intro t u b' s ht;have V:dI o.dst (.v r) A.tm t= .opt u b' s:=ht;by_cases hd:o.dst=some t
   ·rw[hd,di] at V;simp at V
   ·rw[lJ hd] at V;exact Z t u b' s V
  ·exact J.elim
 |none=>
  obtain⟨D,st,⟨hr,J⟩|⟨hr,J⟩⟩:=eQ hb h
  ·refine kV hb st hr (hK _ _ _ _ J (Z.app st) ?_);rw[fh hr];exact Y
  ·refine wy hb st hr (hK _ _ _ _ J ?_ ?_)
   ·exact λt u b s ht=>Z.app st t u b s ht
   ·exact Y.apply D.E (by omega) (za0 _)
theorem Kj (Y:x≠i) (hx:x<ops.size) (hi:i<ops.size) (Z:bK ops.toList ops.size i x=false) (J:x<i\/bK ops.toList ops.size x i=false):qE ops x=false/\qE ops i=false:=by
 constructor
 ·cases h:qE ops x with
  |false=>rfl
  |true=>
   unfold qE at h;have:=zaf.1 h i (zaC.2 hi);rw[bS,zdv (Ne.symm Y)] at this;by_cases V:i<x
   ·rw[aB,zds V] at this;rcases J with J|J
    ·omega
    ·simp[J] at this
   ·rw[aB,zdv V] at this;simp[Z] at this
 ·cases h:qE ops i with
  |false=>rfl
  |true=>
   unfold qE at h;have:=zaf.1 h x (zaC.2 hx);rw[bS,zdv Y] at this;by_cases V:x<i
   ·rw[aB,zds V] at this;simp[Z] at this
   ·rw[aB,zdv V] at this;rcases J with J|J
    ·omega
    ·simp[J] at this
theorem jx (J:x≠i):dc h i e x=h x:=by
 unfold dc;rw[bS,zdv J];rfl
theorem kW (hi:ops.toList[i]? =some o):i<ops.size:=by
 rcases zah i ops.size with h|h
 ·exact h
 ·rw[zad (by simpa using h)] at hi;cases hi
def Rel (ops:zdS) (pre:Nat->zdL) (x i:Nat):Prop:=x≠i/\x∈pre i/\i∉pre x/\(x<i\/bK ops.toList ops.size x i=false)
def NB (m:Bool) (KN:Value->zdV) (ops:zdS) (x i:Nat):Prop:=KN=noP\/(∀v A',KN v A'↔KN v (acO A'))/\dz ops x=false/\m=true/\Du ops x i=true/\acg ops x i=true
variable {y:Nat}
theorem GL (h:acg ops x y=true): ∃a b,ops.toList[x]? =some a/\ops.toList[y]? =some b/\Oper.apart ops a b=true:=by
 unfold acg at h;split at h
 ·rename_i a b h1 h2;exact⟨a,b,h1,h2,h⟩
 ·cases h
theorem NB.at (h:NB m KN ops x i) (V:ops.toList[x]? =some ox) (hi:ops.toList[i]? =some oi):KN=noP\/(∀v A',KN v A'↔KN v (acO A'))/\smallF ox=true/\m=true/\Du ops x i=true/\ox.apart ops oi=true:=by
 rcases h with h|⟨h1,h2,h3,h4,h5⟩
 ·exact .inl h
 ·refine .inr ⟨h1, ?_,h3,h4, ?_⟩
  ·unfold dz at h2;rw[V] at h2;simpa using h2
  ·obtain⟨a,b,e1,J,Y⟩:=GL h5;rw[V] at e1;rw[hi] at J;obtain rfl:ox=a:=by simpa using e1
   obtain rfl:oi=b:=by simpa using J
   exact Y
theorem iQ {m:Bool} {KN:Value->zdV} {Γ:zdR} {inl:Inl} (J:cF inl) {ops:zdS} {pre:Nat->zdL} {KP:Value->zdV} {K:zdV} {i:Nat} {oi:Oper} (hi:ops.toList[i]? =some oi) {v:zdL}: ∀(u:zdL) (A:AS) (h:Nat->Option Hst),OS A->NX A.bl A.nx->u.Nodup->
 (∀x∈u,Rel ops pre x i/\bK ops.toList ops.size i x=false/\h x=none/\NB m KN ops x i)->eD P Γ inl ops pre m KN KP (u++i::v) A h K->eD P Γ inl ops pre m KN KP (i::(u++v)) A h K
 | [],A,h,_,_,_,_,hm=>hm
 |x::u,A,h,hos,hnx,hnd,hu,hm=>by
  obtain⟨⟨hne,hxi,hix,hlt⟩,hb,h0,hnb⟩:=hu x (by simp);simp only[zaO,eD] at hm;split at hm
  ·exact hm.elim
  ·rename_i ox Y;have Z:=zd8.1 hnd
   have V:=GD J hos hnx hm (K':=λef rd wr A'=>af (okM ops pre h x ef rd wr&&ckM m ops x ef) (eD P Γ inl ops pre m KN KP (i::(u++v)) A' (dc h x ⟨ef,rd,wr,bif ef then A.nx else 0⟩) K)) (λef rd wr A' hk ho hn=>by
    obtain⟨k1,k2⟩:=Xg.1 hk;refine Xg.2 ⟨k1,iQ J hi u A' _ ho hn Z.2 (λy hy=> ?_) k2⟩;obtain⟨a1,a2,a3,a4⟩:=hu y (zan _ hy)
    exact⟨a1,a2,by rw[jx (λe=>Z.1 (by rw[<-e];exact hy))];exact a3,a4⟩)
   simp only[eD] at V ⊢;rw[hi] at V;obtain⟨l1,l2⟩:=Kj hne (kW Y) (kW hi) hb hlt;simp only[zaO,eD,Y,hi,l1,l2,zdt] at V ⊢;exact GC (R:=λA2 h2=>eD P Γ inl ops pre m KN KP (u++v) A2 h2 K) J hos hnx hne hxi hix Y hi hb h0 (NB.at hnb Y hi) V
variable {Kc:Bool->List Nat->List Nat->zdV}
theorem lL (hΓ:GamOK P W0 Γ) (hinl:kn P W0 inl) 
 (h:opT P Γ inl ops A o KP Kc) (Z:Is W0 A β a w) 
 (hP: ∀v A' J w' β',KP v A'->Is W0 A' β' J w'->Trs A β A' β'->Q (pex v) J w')
 (hK: ∀ef rd wr A' J w' β',Kc ef rd wr A'->Is W0 A' β' J w'->Trs A β A' β'->KK J w'):
 if Region.wanted o (yielded ops a.tmps) then o.wp P a w KK Q else KK (a.put o.dst undef) w:=by
 cases hb:eK P Γ inl ops A o with
 |none=>
  obtain⟨D,st,V⟩:=eQ hb h;refine mO hΓ Z.fr Z.bc (za0 _) (VV.2 ⟨D,st,rfl,rfl⟩) (λJ w' β' r1 r2 r3 r4 r5 r6=> ?_);rcases V with ⟨hr,V⟩|⟨hr,V⟩
  ·refine hK _ _ _ _ J w' β' V ⟨r1,r2, ?_,Z.sd⟩ ⟨?_,λi hi=>hi,za0 _,rfl⟩
   ·rw[fh hr];exact Z.nx
   ·rw[VZ.2 hr] at r3;exact r3.mono λi hi=>by cases hi
  ·refine hK _ _ _ _ J w' β' V ⟨r1.frame _ _,r2,Z.nx.apply D.E (by omega) (za0 _),Z.sd⟩ ⟨?_,λi hi=>by simp[hi],by show A.nx<=A.nx+1;omega,rfl⟩;exact r3.mono λi hi=>by simp[hi]
 |some T=>
  rw[opT,hb] at h;exact Am hinl (ops:=ops) hb h Z (Q:=Q) (KK:=KK) (λv A' w' β' V Y htr=>hP v A' a w' β' V Y htr) (λwl A' J w' β' V Y htr=>hK _ _ _ A' J w' β' V Y htr)
theorem Kk (J:mJ ops=true): ∀i o,ops.toList[i]? =some o-> ∀e∈o.after.toList,Region.binds .any e=true->e.on<i:=by
 intro i o V e Z Y;unfold mJ at J;simp only[zaf,zaC] at J;have hi:i<ops.size:=kW V;have:=J i hi;rw[V] at this;simp only[zaf,zav,zap,aB,zdw] at this;rcases this e Z with h|h
 ·rw[Y] at h;cases h
 ·exact h
theorem MW: ∀(l:zdL),l≠ []-> ∃m∈l,∀x∈l,m<=x
 | [],h=>absurd rfl h
 | [a],_=>⟨a,by simp,by simp⟩
 |a::b::l,_=>by
  obtain⟨m,h1,h2⟩:=MW (b::l) (by simp);rcases Nat.le_total a m with h|h
  ·exact⟨a,by simp,λx J=>by
    rcases zai.1 J with rfl|J
    ·exact za0 _
    ·exact zac h (h2 x J)⟩
  ·exact⟨m,zan _ h1,λx J=>by
    rcases zai.1 J with rfl|J
    ·exact h
    ·exact h2 x J⟩
variable {listed:Array Bool}
theorem vj (V:mJ ops=true) {rem:zdL} (hsz:listed.size=ops.size) (J: ∀x,x∈rem↔x<ops.size/\listed.getD x true=false) (hr:Region.ready .any ops listed= []):rem= []:=by
 cases hne:rem with
 |nil=>rfl
 |cons i0 r0=>
  exfalso;obtain⟨i,hi,hmin⟩:=MW rem (by rw[hne];simp);have Y:=(J i).1 hi;have ho: ∃o,ops[i]? =some o:=⟨ops[i],by simp[Y.1]⟩;obtain⟨o,ho⟩:=ho;have:i∈Region.ready .any ops listed:=by
   refine mem_ready.2 ⟨Y.2,o,ho,λe he hb=> ?_⟩;have hlt:=Kk V i o (by simpa using ho) e (by simpa using he) hb;cases hl:listed.getD e.on false with
   |true=>rfl
   |false=>
    have hes:e.on<listed.size:=by omega
    have hun:listed.getD e.on true=false:=by
     rw[<-hl];simp[Array.getD,hes]
    have Z:=(J e.on).2 ⟨by omega,hun⟩;have:=hmin _ Z;omega
  rw[hr] at this;cases this
theorem la (hcl:jY ops listed) (hol:ops.toList[i]? =some o) (J: ∀e∈o.after,Region.binds .any e=true->listed.getD e.on false=true) (hsz:listed.size=ops.size) (hx:x<ops.size) (Y:listed.getD x true=false):bK ops.toList ops.size i x=false:=by
 cases hb:bK ops.toList ops.size i x with
 |false=>rfl
 |true=>
  exfalso
  have hl:=mz hcl _ i x (by simp) (λo' V e he Z=>by
   rw[hol] at V;obtain rfl:o=o':=by simpa using V
   exact J e (by simpa using he) Z) hb
  have hxs:x<listed.size:=by omega
  simp[Array.getD,hxs] at Y hl;rw[Y] at hl;cases hl
variable {u:zdL}
theorem kX (hsz:listed.size=ops.size) {v:zdL} (hol:ops.toList[i]? =some o) (hnd:(u++i::v).Nodup)
 (hrem: ∀x,x∈u++i::v↔x<ops.size/\listed.getD x true=false) (hcl:jY ops listed) (J: ∀e∈o.after,Region.binds .any e=true->listed.getD e.on false=true):
 (∀x,x∈u++v↔x<ops.size/\(listed.setIfInBounds i true).getD x true=false)/\jY ops (listed.setIfInBounds i true)/\ ∀x∈u++v,x≠i:=by
 have hlt:=kW hol;have hn:=zcb.1 hnd;have hiv:i∉v:=(zd8.1 hn.2.1).1;have Z:i∉u:=λh=>hn.2.2 i h i (by simp) rfl;refine⟨λx=> ?_, ?_, ?_⟩
 ·have hm:=hrem x;simp only[za8,zai] at hm ⊢;by_cases Y:x=i
  ·subst Y;constructor
   ·rintro(h|h)
    ·exact absurd h Z
    ·exact absurd h hiv
   ·rintro⟨_,h⟩;have hxs:x<listed.size:=by omega
    simp[Array.getD,hxs] at h
  ·rw[getD_set_ne true (Ne.symm Y),<-hm];constructor
   ·rintro(h|h)
    ·exact .inl h
    ·exact .inr (.inr h)
   ·rintro(h|h|h)
    ·exact .inl h
    ·exact absurd h Y
    ·exact .inr h
 ·intro j hj o' V e he hb;by_cases hji:j=i
  ·subst hji;rw[hol] at V;obtain rfl:o=o':=by simpa using V
   exact getD_set_true (J e (by simpa using he) hb)
  ·rw[getD_set_ne false (Ne.symm hji)] at hj;exact getD_set_true (hcl j hj o' V e he hb)
 ·intro x hx e;subst e;rcases za8.1 hx with h|h
  ·exact Z h
  ·exact hiv h
theorem sH {R:Nat->Nat->Prop} {v:zdL} (h:(u++i::v).Pairwise R):(∀x∈u,R x i)/\(u++v).Pairwise R:=by
 have hp:=zbJ.1 h;exact⟨λx J=>hp.2.2 x J i (by simp),zbJ.2 ⟨hp.1,(zcK.1 hp.2.1).2,λx J y V=>hp.2.2 x J y (zan _ V)⟩⟩
def aiY (m:Bool) (KN:Value->zdV) (ops:zdS) (pre:Nat->zdL) (x y:Nat):Prop:=Rel ops pre x y/\(bK ops.toList ops.size y x=true\/NB m KN ops x y)
theorem acH {l:zdL} (h:l.Pairwise (Rel ops pre)):l.Pairwise (aiY m noP ops pre):=h.imp λh=>⟨h, .inr (.inl rfl)⟩
variable {A0:AS} {β0:zdM}
theorem pi (hΓ:GamOK P W0 Γ) (hinl:kn P W0 inl) (hnice:cF inl) (hback:mJ ops=true) {K:zdV} 
 (hKN: ∀v A' Y w' β',KN v A'->Is W0 A' β' Y w'->Trs A0 β0 A' β'->Q (pex v) Y w')
 (hP: ∀v A' Y w' β',KP v A'->Is W0 A' β' Y w'->Trs A0 β0 A' β'->Q (pex v) Y w') (hQ: ∀A' Y w' β',K A'->Is W0 A' β' Y w'->Trs A0 β0 A' β'->Q .normal Y w'):
 ∀(J:Nat) (listed:Array Bool) (rem:zdL) (A:AS) (a:Act) (w:World) (β:zdM) (h:Nat->Option Hst),listed.size=ops.size->rem.length<=J->rem.Pairwise (aiY m KN ops pre)->(∀x,x∈rem↔x<ops.size/\listed.getD x true=false)->jY ops listed->
  (∀x∈rem,h x=none)->eD P Γ inl ops pre m KN KP rem A h K->Is W0 A β a w->Trs A0 β0 A β->wpAny P .any ops Q J listed a w:=by
 intro J
 induction J with
 |zero=>
  intro listed rem A a w β h hsz hlen hpw V hcl hh hm Z htr;have hnil:rem= []:=zcJ.1 (by omega);subst hnil;refine⟨?_,hQ A a w β hm Z htr⟩;apply zdh.2;intro i hi;obtain⟨hun,o,ho,_⟩:=mem_ready.1 hi;have hlt:i<ops.size:=(zaq.1 ho).1;exact absurd ((V i).2 ⟨hlt,hun⟩) (by simp)
 |succ J ih=>
  intro listed rem A a w β h hsz hlen hpw V hcl hh hm Z htr;refine⟨λhr=> ?_,λi hi=> ?_⟩
  ·obtain rfl:=vj hback hsz V hr;exact hQ A a w β hm Z htr
  ·obtain⟨hun,o,ho,hdeps⟩:=mem_ready.1 hi;have hlt:i<ops.size:=(zaq.1 ho).1;have hol:ops.toList[i]? =some o:=by simpa using ho
   have him:i∈rem:=(V i).2 ⟨hlt,hun⟩;obtain⟨u,v,rfl⟩:=zch him;obtain⟨hmid,hpw'⟩:=sH hpw;have hnd:(u++i::v).Nodup:=hpw.imp λh=>h.1.1;obtain⟨hrem',hcl',hne⟩:=kX hsz hol hnd V hcl hdeps;have hnb: ∀x∈u,Rel ops pre x i/\bK ops.toList ops.size i x=false/\h x=none/\NB m KN ops x i:=by
    intro x hx;have hxm:=(V x).1 (by simp[hx]);have hb:=la hcl hol hdeps hsz hxm.1 hxm.2;refine⟨(hmid x hx).1,hb,hh x (by simp[hx]), ?_⟩;rcases(hmid x hx).2 with h|h
    ·rw[hb] at h;cases h
    ·exact h
   have hm2:=iQ hnice hol u A h Z.fr.toOS Z.nx (zcb.1 hnd).1 hnb hm;simp only[eD,hol] at hm2
   have k:=lL hΓ hinl hm2 Z (Q:=Q) (KK:=wpAny P .any ops Q J (listed.setIfInBounds i true)) (λv A' Y w' β' hk r1 r2=>by
    cases hl:qE ops i with
    |true=>rw[hl] at hk;exact hP v A' Y w' β' hk r1 (htr.trans r2)
    |false=>rw[hl] at hk;exact hKN v A' Y w' β' hk r1 (htr.trans r2)) (λef rd wr A' Y w' β' hk r1 r2=>by
    obtain⟨_,hk⟩:=Xg.1 hk;refine ih (listed.setIfInBounds i true) (u++v) A' Y w' β' _ (by simp[hsz]) (by simp at hlen ⊢;omega) hpw' hrem' hcl' ?_ hk r1 (htr.trans r2);intro x hx;rw[jx (hne x hx)]
    exact hh x (by rcases za8.1 hx with h|h<;>simp[h]))
   unfold wpOp;simp only[ho];by_cases hw:Region.wanted o (yielded ops a.tmps)=true
   ·rw[if_pos hw] at k ⊢;exact .inl k
   ·rw[if_neg hw] at k ⊢;exact k
theorem Kl (Z:eK P Γ inl ops A o=none) (h:opT P Γ inl ops A o KP K) (h':opT P Γ inl ops A o KP K'):
 opT P Γ inl ops A o noP λef rd wr A'=>K ef rd wr A'/\K' ef rd wr A':=by
 obtain⟨D,st,k⟩:=eQ Z h;obtain⟨D',st',V⟩:=eQ Z h';obtain rfl:=st.det st';rcases k with ⟨Y,k⟩|⟨Y,k⟩
 ·rcases V with ⟨_,V⟩|⟨J,_⟩
  ·exact kV Z st Y ⟨k,V⟩
  ·exact absurd Y J
 ·rcases V with ⟨J,_⟩|⟨_,V⟩
  ·exact absurd J Y
  ·exact wy Z st Y ⟨k,V⟩
variable {c:Nat}
theorem DZ (hΓ:GamOK P W0 Γ) (hinl:kn P W0 inl) (hnice:cF inl) {pre':Nat->zdL} (hback:mJ ops=true) {K:zdV} {d:Nat} (hcd:c≠d)
 (hsm: ∀i o,ops.toList[i]? =some o->i≠c->smallF o=true\/bK ops.toList ops.size i c=true\/bK ops.toList ops.size i d=true)
 (hP: ∀v A' a' w' β',KP v A'->Is W0 A' β' a' w'->Trs A0 β0 A' β'->Q (pex v) a' w') (hQ: ∀A' a' w' β',K A'->Is W0 A' β' a' w'->Trs A0 β0 A' β'->Q .normal a' w'):
 ∀(J:Nat) (listed:Array Bool) (rem Z:zdL) (A:AS) (a:Act) (w:World) (β:zdM) (h:Nat->Option Hst),listed.size=ops.size->rem.length<=J->Z.length<=J->c∈rem->d∈rem->
  rem.Pairwise (λx y=>x≠y/\(Rel ops pre x y\/x=c/\y=d))->Z.Pairwise (λx y=>x≠y/\(Rel ops pre' x y\/x=d/\y=c))->(∀x,x∈rem↔x<ops.size/\listed.getD x true=false)->(∀x,x∈Z↔x<ops.size/\listed.getD x true=false)->jY ops listed->
  (∀x∈rem,h x=none)->eD P Γ inl ops pre false noP KP rem A h K->eD P Γ inl ops pre' false noP KP Z A h K->Is W0 A β a w->Trs A0 β0 A β->wpAny P .any ops Q J listed a w:=by
 intro J
 induction J with
 |zero=>
  intro listed rem Z A a w β h hsz hlen hlen' hc hd hpw hpw' Y hrem' hcl hh hm hm' his htr;have hnil:rem= []:=zcJ.1 (by omega);subst hnil;cases hc
 |succ J ih=>
  intro listed rem Z A a w β h hsz hlen hlen' hc hd hpw hpw' Y hrem' hcl hh hm hm' his htr;refine⟨λhr=> ?_,λi hi=> ?_⟩
  ·obtain rfl:=vj hback hsz Y hr;cases hc
  ·obtain⟨hun,o,ho,V⟩:=mem_ready.1 hi;have hlt:i<ops.size:=(zaq.1 ho).1;have hol:ops.toList[i]? =some o:=by simpa using ho
   have him:i∈rem:=(Y i).2 ⟨hlt,hun⟩;have him':i∈Z:=(hrem' i).2 ⟨hlt,hun⟩;have hh': ∀x∈Z,h x=none:=λx hx=>hh x ((Y x).2 ((hrem' x).1 hx));obtain⟨u,v,rfl⟩:=zch him;obtain⟨u',v',rfl⟩:=zch him';obtain⟨hmid,hpwa⟩:=sH hpw;obtain⟨hmid',hpwa'⟩:=sH hpw';have hnd:(u++i::v).Nodup:=hpw.imp λh=>h.1;have hnd':(u'++i::v').Nodup:=hpw'.imp λh=>h.1;obtain⟨hrema,hcla,hne⟩:=kX hsz hol hnd Y hcl V;obtain⟨hrema',_,hne'⟩:=kX hsz hol hnd' hrem' hcl V;have b1:i≠d->eD P Γ inl ops pre false noP KP (i::(u++v)) A h K:=λhid=>by
    refine iQ hnice hol u A h his.fr.toOS his.nx (zcb.1 hnd).1 (λx hx=> ?_) hm;have hxm:=(Y x).1 (by simp[hx]);refine⟨?_,la hcl hol V hsz hxm.1 hxm.2,hh x (by simp[hx]), .inl rfl⟩;rcases(hmid x hx).2 with r|⟨_,r⟩
    ·exact r
    ·exact absurd r hid
   have b2:i≠c->eD P Γ inl ops pre' false noP KP (i::(u'++v')) A h K:=λhid=>by
    refine iQ hnice hol u' A h his.fr.toOS his.nx (zcb.1 hnd').1 (λx hx=> ?_) hm';have hxm:=(hrem' x).1 (by simp[hx]);refine⟨?_,la hcl hol V hsz hxm.1 hxm.2,hh' x (by simp[hx]), .inl rfl⟩;rcases(hmid' x hx).2 with r|⟨_,r⟩
    ·exact r
    ·exact absurd r hid
   have fin:(if Region.wanted o (yielded ops a.tmps) then o.wp P a w (wpAny P .any ops Q J (listed.setIfInBounds i true)) Q else wpAny P .any ops Q J (listed.setIfInBounds i true) (a.put o.dst undef) w)->wpOp P ops Q i (wpAny P .any ops Q J (listed.setIfInBounds i true)) a w:=λk=>by
    unfold wpOp;simp only[ho];by_cases hw:Region.wanted o (yielded ops a.tmps)=true
    ·rw[if_pos hw] at k ⊢;exact .inl k
    ·rw[if_neg hw] at k ⊢;exact k
   refine fin ?_;by_cases hic:i=c
   ·have hm2:=b1 (by rw[hic];exact hcd);simp only[eD,hol] at hm2
    refine lL hΓ hinl hm2 his (λv A' a' w' β' hk r1 r2=>by
     cases hl:qE ops i with
     |true=>rw[hl] at hk;exact hP v A' a' w' β' hk r1 (htr.trans r2)
     |false=>rw[hl] at hk;exact hk.elim) (λef rd wr A' a' w' β' hk r1 r2=> ?_)
    obtain⟨_,hk⟩:=Xg.1 hk;refine pi (m:=false) (KN:=noP) hΓ hinl hnice hback (λ_ _ _ _ _ h=>h.elim) hP hQ J (listed.setIfInBounds i true) (u++v) A' a' w' β' _ (by simp[hsz]) (by simp at hlen ⊢;omega) (acH<|hpwa.imp_of_mem λ{x y} hx hy h=> ?_) hrema hcla ?_ hk r1 (htr.trans r2)
    ·rcases h.2 with h|⟨h,_⟩
     ·exact h
     ·exact absurd (h.trans hic.symm) (hne x hx)
    ·intro x hx;rw[jx (hne x hx)];exact hh x (by rcases za8.1 hx with h|h<;>simp[h])
   by_cases hid:i=d
   ·have hm2:=b2 hic;simp only[eD,hol] at hm2
    refine lL hΓ hinl hm2 his (λv A' a' w' β' hk r1 r2=>by
     cases hl:qE ops i with
     |true=>rw[hl] at hk;exact hP v A' a' w' β' hk r1 (htr.trans r2)
     |false=>rw[hl] at hk;exact hk.elim) (λef rd wr A' a' w' β' hk r1 r2=> ?_)
    obtain⟨_,hk⟩:=Xg.1 hk;refine pi (m:=false) (KN:=noP) hΓ hinl hnice hback (λ_ _ _ _ _ h=>h.elim) hP hQ J (listed.setIfInBounds i true) (u'++v') A' a' w' β' _ (by simp[hsz]) (by simp at hlen' ⊢;omega) (acH<|hpwa'.imp_of_mem λ{x y} hx hy h=> ?_) hrema' hcla ?_ hk r1 (htr.trans r2)
    ·rcases h.2 with h|⟨h,_⟩
     ·exact h
     ·exact absurd (h.trans hid.symm) (hne' x hx)
    ·intro x hx;rw[jx (hne' x hx)];exact hh' x (by rcases za8.1 hx with h|h<;>simp[h])
   have hm2:=b1 hid;have hm2':=b2 hic;simp only[eD,hol] at hm2 hm2';have hsmall:smallF o=true:=by
    rcases hsm i o hol hic with h|h|h
    ·exact h
    ·have hxm:=(Y c).1 hc;rw[la hcl hol V hsz hxm.1 hxm.2] at h;cases h
    ·have hxm:=(Y d).1 hd;rw[la hcl hol V hsz hxm.1 hxm.2] at h;cases h
   have both:=Kl (Ao hsmall) hm2 hm2';refine lL hΓ hinl both his (λv A' a' w' β' hk r1 r2=>hk.elim) (λef rd wr A' a' w' β' hk r1 r2=> ?_);obtain⟨hk,hk'⟩:=hk;obtain⟨_,hk⟩:=Xg.1 hk;obtain⟨_,hk'⟩:=Xg.1 hk';have keep: ∀x,x∈u++i::v->x≠i->x∈u++v:=λx hx hxi=>by
    rcases za8.1 hx with h|h
    ·exact zbI _ h
    ·rcases zai.1 h with h|h
     ·exact absurd h hxi
     ·exact zb1 _ h
   refine ih (listed.setIfInBounds i true) (u++v) (u'++v') A' a' w' β' _ (by simp[hsz]) (by simp at hlen ⊢;omega) (by simp at hlen' ⊢;omega) (keep c hc (Ne.symm hic)) (keep d hd (Ne.symm hid)) hpwa hpwa' hrema hrema' hcla ?_ hk hk' r1 (htr.trans r2);intro x hx;rw[jx (hne x hx)];exact hh x (by rcases za8.1 hx with h|h<;>simp[h])
theorem Ch {r:Nat->zdT} {R:Nat->Nat->Prop} (J: ∀x y,r x y=true->R x y): ∀{l:zdL},pwB r l=true->l.Pairwise R
 | [],_=>List.Pairwise.nil
 |x::l,h=>by
  simp only[pwB,za2,zaf] at h;exact zcK.2 ⟨λy V=>J x y (h.1 y V),Ch J h.2⟩
variable {L:zdL}
theorem Wo:Gl x L=true↔x∈L:=by
 unfold Gl;simp only[zaP,bS,zdw];exact⟨λ⟨y,J,e⟩=>e▸J,λh=>⟨x,h,rfl⟩⟩
variable {p q:Nat}
theorem D0 (h:Nz ops pre p q x y=true):x≠y/\(Rel ops pre x y\/x=p/\y=q):=by
 unfold Nz at h;simp only[za2,zav,zap,bS,zdw,zdC,aB,Wo] at h;obtain⟨⟨⟨h1,h2⟩,h3⟩,h4⟩:=h;refine⟨h4, ?_⟩;rcases h1 with h1|h1
 ·exact .inl ⟨h4,h1,λh=>(by rw[Wo.2 h] at h2;cases h2),h3⟩
 ·exact .inr h1
theorem yn (h:okP ops L p q=true):L.Pairwise (λx y=>x≠y/\(Rel ops (Kb L p q) x y\/x=p/\y=q))/\(∀x,x∈L↔x<ops.size)/\L.length<=ops.size:=by
 unfold okP at h;simp only[za2,zaf,zaC,aB,zdw,Wo] at h;exact⟨Ch (λ_ _=>D0) h.1.1.1,λx=>⟨λJ=>h.1.1.2 x J,λJ=>h.1.2 x J⟩,zak h.2⟩
theorem Ap {d:Nat} (h:Gk ops=some (c,d)):c<ops.size/\d<ops.size/\c≠d/\ ∀i o,ops.toList[i]? =some o->i≠c->smallF o=true\/bK ops.toList ops.size i c=true\/bK ops.toList ops.size i d=true:=by
 unfold Gk at h;split at h
 ·rename_i Y d' hp;have hm:(Y,d')∈Gj ops:=by rw[hp];simp
  cases J:(List.range ops.size).all (λi=>Nat.beq i Y|| !dz ops i||bK ops.toList ops.size i Y||bK ops.toList ops.size i d') with
  |false=>rw[J] at h;cases h
  |true=>
   rw[J] at h;simp only[zdu,za1,zag] at h;obtain⟨rfl,rfl⟩:=h;unfold Gj at hm;obtain⟨c2,h1,h2⟩:=List.mem_flatMap.1 hm;cases V:dz ops c2 with
   |false=>rw[V] at h2;cases h2
   |true=>
    rw[V] at h2;simp only[zdu] at h2;obtain⟨a,h3,h4⟩:=zaz.1 h2;simp only[zag] at h4;obtain⟨rfl,rfl⟩:=h4;obtain⟨h5,h6⟩:=List.mem_filter.1 h3;simp only[za2,zap,bS,zdC] at h6;refine⟨zaC.1 h1,zaC.1 h5,λe=>h6.1.1.1 e.symm,λi o ho Z=> ?_⟩;have:=zaf.1 J i (zaC.2 (kW ho));simp only[bS,zdv Z,zbi,zav] at this;rcases this with (h|h)|h
    ·left;unfold dz at h;rw[ho] at h;simpa using h
    ·exact .inr (.inl h)
    ·exact .inr (.inr h)
 ·cases h
structure FreeS (A:AS) (d:Nat):Prop where
 dead:A.tm d= .dead
 key: ∀t u b s,A.tm t= .opt u b s->u≠d
theorem ee (a:Act) (d:Option Nat) (v:Value) (h:d≠some t):(a.put d v).tmps.getD t undef=a.tmps.getD t undef:=by
 cases d with
 |none=>rfl
 |some d=>
  have J:d≠t:=λe=>h (by rw[e]);simp[Act.put,zdd J]
theorem FR.putFree (V:FR β A a) {d:Nat} (h:FreeS A d) (v:Value):FR β A (a.put (some d) v):=by
 refine⟨V.defers,by simp only[Act.put,zdg];exact V.size,λt s J=> ?_,λt u b s J=> ?_,V.os⟩
 ·rw[ee a (some d) v (λe=>by cases e;rw[h.dead] at J;cases J)];exact V.v t s J
 ·have Y:t≠d:=λe=>by rw[e,h.dead] at J;cases J
  have Z:u≠d:=h.key t u b s J;rw[ee a (some d) v (t:=t) (λe=>Y (zbk e).symm),ee a (some d) v (t:=u) (λe=>Z (zbk e).symm)];exact V.opt t u b s J
theorem FreeS.app (st:Stp P Γ ops id o A D) {d:Nat} (h:FreeS A d) (hd:o.dst≠some d) (hl:d∉o.looksAt ops):FreeS (app D id A) d:=by
 have e:(Go.Sy.app D id A).tm=dI D.d D.tv A.tm:=rfl;have Z:D.d≠some d:=by rw[st.d];exact hd
 refine⟨by rw[e,lJ Z];exact h.dead,λt u b s V=> ?_⟩;rw[e] at V;by_cases Y:D.d=some t
 ·rw[Y,di] at V;have J:=st.src;unfold Src at J;split at J
  ·rw[J.2.1] at V;simp at V
  ·obtain⟨k,g,_,h2,_,_,_,_,_,h1⟩:=J;rw[h1] at V;simp at V;rw[<-V.1];exact λe=>hl (by rw[<-e];exact DT st.src h2)
 ·rw[lJ Y] at V;exact h.key t u b s V
theorem ags (hinl:cF inl) (hnx:NX A.bl A.nx) (h:opT P Γ inl ops A o KP K)
 {F:Nat->Prop} (hF: ∀d,F d->FreeS A d/\o.dst≠some d/\d∉o.looksAt ops):opT P Γ inl ops A o KP λef rd wr A'=>K ef rd wr A'/\ ∀d,F d->FreeS A' d:=by
 cases Z:eK P Γ inl ops A o with
 |some T=>
  rw[opT,Z] at h ⊢;refine(fF hinl hnx Z).mono h λr b n w io V=> ?_;cases r with
  |pan v=>exact V
  |ok r=>
  simp only[uR] at V ⊢;split at V
  ·rename_i A' hp;obtain⟨rfl,hput⟩:=Wa.1 hp;refine⟨V,λd J=> ?_⟩;obtain⟨h1,h2,h3⟩:=hF d J;refine⟨?_,λt u b' s ht=> ?_⟩
   ·show dI o.dst (.v r) A.tm d= .dead;rw[lJ h2];exact h1.dead
   ·have Y:dI o.dst (.v r) A.tm t= .opt u b' s:=ht;by_cases hdt:o.dst=some t
    ·rw[hdt,di] at Y;simp at Y
    ·rw[lJ hdt] at Y;exact h1.key t u b' s Y
  ·exact V.elim
 |none=>
  obtain⟨D,st,⟨hr,V⟩|⟨hr,V⟩⟩:=eQ Z h
  ·exact kV Z st hr ⟨V,λd J=>(hF d J).1.app st (hF d J).2.1 (hF d J).2.2⟩
  ·refine wy Z st hr ⟨V,λd J=> ?_⟩;have:=(hF d J).1.app st (hF d J).2.1 (hF d J).2.2;exact⟨this.dead,this.key⟩
theorem agt {K:Act->World->Prop} (h:o.wp P a w K Q):o.wp P a w (λY w'=>K Y w'/\ ∀t,o.dst≠some t->Y.tmps.getD t undef=a.tmps.getD t undef) Q:=by
 unfold Oper.wp at*
 generalize (execOp a.eval o).run P w=r at*
 cases r with
 |ok n w'=>
  cases n<;>simp only[Oper.upon] at h ⊢ <;>
   first
    |exact⟨h,λt J=>ee _ _ _ J⟩
    |exact⟨h,λt J=>ee {a with defers:=_::a.defers} _ _ J⟩
    |exact Calls.mono h (λe Z V=>by cases e<;>first|exact⟨V,λt J=>ee _ _ _ J⟩|exact V)
    |exact Rows.mono h (λ_ _ V=>⟨V,λt J=>ee _ _ _ J⟩)
 |halt x w'=>cases x<;>simp only[Oper.upon] at h ⊢ <;>exact h
def aht (ops:zdS) (pre:Nat->zdL) (M C:zdL) (x y:Nat):Prop:=x≠y/\(y∈M/\x∈C\/Rel ops pre x y)
structure LateOK (P:Program) (ops:Array Oper) (M C:List Nat):Prop where
 use: ∀i o,i∉M->ops.toList[i]? =some o->(∀c∈C,bK ops.toList ops.size i c=true)\/(∀m∈M,bK ops.toList ops.size i m=false/\ ∃om,ops.toList[m]? =some om/\Oper.apart ops om o=true)
 made: ∀m∈M,∃o t d cs,ops.toList[m]? =some o/\o.guard=none/\o.op= .alloc t/\o.dst=some d/\xX P t=some cs
 free: ∀m∈M,∀m'∈M,bK ops.toList ops.size m m'=false
 two: ∀m∈M,∀m'∈M,m≠m'-> ∀o o',ops.toList[m]? =some o->ops.toList[m']? =some o'->o.dst≠o'.dst
 cm: ∀c∈C,c∉M
structure Pend (P:Program) (ops:Array Oper) (a:Act) (w:World) (m b:Nat):Prop where
 made: ∃o t d cs,ops.toList[m]? =some o/\o.guard=none/\o.op= .alloc t/\o.dst=some d/\xX P t=some cs/\w.heap[b]? =some (.cells (SV.concs oj cs).toArray t (0,0))/\a.tmps.getD d undef= .pointer (some ⟨b,0,none⟩)
theorem adX (β β':zdM) {cs:zdN} (h: ∀s∈cs,s.ids= []):SV.concs β cs=SV.concs β' cs:=
 SV.concs_congr cs λi hi=>by
  obtain⟨s,J,hi⟩:=SV.mem_idss.1 hi;rw[h s J] at hi;cases hi
theorem agu {m b:Nat} (ho:ops.toList[m]? =some o)
 (h:opT P Γ inl ops A o KP Kc) (hs:Is W0 A β a w) (hp:Pend P ops a w m b) (hm:W0.mine b) (hnew: ∀i C,A.bl i=some C->C.kd= .own->(β i).nil=false->(β i).blk≠b):
 ∃ef rd wr A' β',Kc ef rd wr A'/\Is W0 A' β' a w/\Trs A β A' β'/\(∀i C,A'.bl i=some C->A.bl i≠some C->(β' i).blk=b)/\(∀i,A.bl i≠none->β' i=β i):=by
 obtain⟨⟨o',t,d,cs,h1,hg,hop,V,hz,hw,htm⟩⟩:=hp;rw[ho] at h1;simp only[za1] at h1;subst h1;have hb:eK P Γ inl ops A o=none:=Ao (by unfold smallF;rw[hop]);obtain⟨D,st,k⟩:=eQ hb h;obtain⟨v,hv,hc,hi⟩:=pb (P:=P) (β:=β) w hz;have hid:=st.fresh;have hE:D.E={out:= .ptr A.nx 0 0,nw:=some {n:=1,sz:=cs.length,get:=λ_=>cs,kd:= .own}}/\D.tv= .v (.ptr A.nx 0 0)/\D.key=none:=by
  have J:=st.src;unfold Src at J;rw[hg] at J;simp only[] at J;obtain⟨q1,q2,q3,q4⟩:=J;rw[hop] at q4;simp only[eff,hz,za1] at q4;exact⟨q4.symm,by rw[q2,<-q4],q1⟩
 obtain⟨e1,e2,e3⟩:=hE;have Z:(app D A.nx A).bl=upd A.bl A.nx {n:=1,sz:=cs.length,get:=λ_=>cs,kd:= .own}:=by
  show VO A.bl A.nx D.E=_;rw[e1];rfl
 have hdA:=st.put d V;rcases k with ⟨hr,k⟩|⟨hr,k⟩
 ·have hr2:=hr.2;rw[e1] at hr2;cases hr2
 have hbc:=hs.bc.late (id:=A.nx) hid (b:=b) (ty:=t) (cs:=cs) (by rw[adX β oj hi];exact hw) hi hm hnew;refine⟨_,_,_,_,gp β A.nx ⟨b,0,cs.length,1,false⟩,k,⟨?_,by show BC W0 (app D A.nx A).bl _ w;rw[Z];exact hbc, ?_,hs.sd⟩, ?_, ?_, ?_⟩
 ·have tr:=gN hid (za0 A.nx) D.E (β:=β) (β':=gp β A.nx ⟨b,0,cs.length,1,false⟩) (λi hi=>aC λe=>hi (e▸hid));have hc2:FR (gp β A.nx ⟨b,0,cs.length,1,false⟩) {A with bl:=VO A.bl A.nx D.E} a:=hs.fr.carry tr
  have key:=FR.putD (d:=o.dst) (s:= .ptr A.nx 0 0) (A':={A with bl:=VO A.bl A.nx D.E,tm:=dI o.dst (.v (.ptr A.nx 0 0)) A.tm}) hc2 (λi hi=>by
   simp only[SV.ids,zaj] at hi;subst hi;show VO A.bl A.nx D.E A.nx≠none;have:VO A.bl A.nx D.E=(app D A.nx A).bl:=rfl
   rw[this,Z,az];simp) (Wa.2 ⟨rfl,λx hx=>by
    rw[V] at hx;cases hx;exact⟨hdA.1,hdA.2.1⟩⟩)
  have hput:a.put o.dst ((SV.ptr A.nx 0 0).conc (gp β A.nx ⟨b,0,cs.length,1,false⟩))=a:=by
   rw[V];have hlt:d<a.tmps.size:=by rw[hs.fr.size];exact hdA.1
   have:(SV.ptr A.nx 0 0).conc (gp β A.nx ⟨b,0,cs.length,1,false⟩)=a.tmps.getD d undef:=by
    rw[htm];simp[SV.conc,addr,aA]
   rw[this];simp only[Act.put];have:a.tmps.setIfInBounds d (a.tmps.getD d undef)=a.tmps:=by
    apply Array.ext
    ·simp
    ·intro j h1 h2;rw[Array.getElem_setIfInBounds]
     ·split
      ·rename_i e;subst e;simp[Array.getD,h2]
      ·rfl
   rw[this]
  rw[hput] at key;have heq:app D A.nx A={A with bl:=VO A.bl A.nx D.E,tm:=dI o.dst (.v (.ptr A.nx 0 0)) A.tm}:=by
   unfold Go.Sy.app;rw[e2,e3,st.d];simp[fD]
  have:FR (gp β A.nx ⟨b,0,cs.length,1,false⟩) (app D A.nx A) a:=by rw[heq];exact key.1
  exact this.frame _ _
 ·exact hs.nx.apply D.E (by omega) (za0 _)
 ·refine⟨?_,λi hi=>by simp[hi],by show A.nx<=A.nx+1;omega,rfl⟩;exact(gN hid (za0 A.nx) D.E (β:=β) (β':=gp β A.nx ⟨b,0,cs.length,1,false⟩) (λi hi=>aC λe=>hi (e▸hid))).mono λi hi=>by simp[aV,hi]
 ·intro i C hC hne;have Y:(app D A.nx A).bl i=some C:=hC;rw[Z] at Y;by_cases hi:i=A.nx
  ·subst hi;rw[aA]
  ·rw[ak hi] at Y;exact absurd Y hne
 ·intro i hi;exact aC λe=>hi (e▸hid)
theorem Is.up {B:Base} (h:Is B A β a w) (J:SubB B W0) (Z: ∀b,B.out b->W0.out b) (V:B.sd=W0.sd):Is W0 A β a w:=
 ⟨h.fr,h.bc.rebase (J.pres h.bc.below) (λ_ _ _ _ _ Y=>J.mine Y) (λ_ _ _ _ _ h=>Z _ h),h.nx,h.sd.trans V⟩
theorem ab7 {Γ:zdR} {inl:Inl} (hnice:cF inl) {ops:zdS} {pre:Nat->zdL} {KP:Value->zdV} {K:zdV} {a:Act} {w:World} {A0:AS} {β0:zdM}:
 ∀(J:List (Nat×Nat)) (rem:zdL) (A:AS) (β:zdM) (h:Nat->Option Hst),(J.map (·.1)).Nodup->(J.map (·.2)).Nodup->
  (∀p∈J,p.1∈rem/\Pend P ops a w p.1 p.2/\W0.mine p.2/\(∀x∈rem,bK ops.toList ops.size p.1 x=false)/\ ∀i C,A.bl i=some C->C.kd= .own->(β i).nil=false->(β i).blk≠p.2)->
  rem.Pairwise (Rel ops pre)->(∀x∈rem,h x=none)->eD P Γ inl ops pre false noP KP rem A h K->Is W0 A β a w->Trs A0 β0 A β->
  ∃V A' β' h',eD P Γ inl ops pre false noP KP V A' h' K/\Is W0 A' β' a w/\Trs A0 β0 A' β'/\V.Pairwise (Rel ops pre)/\(∀x∈V,h' x=none)/\(∀x,x∈V↔x∈rem/\x∉J.map (·.1))/\V.length+J.length=rem.length
 | [],rem,A,β,h,_,_,_,hpw,hh,hm,Z,htr=>⟨rem,A,β,h,hm,Z,htr,hpw,hh,λx=>by simp,by simp⟩
 |(m,b)::J,rem,A,β,h,hn1,hn2,hp,hpw,hh,hm,Z,htr=>by
  obtain⟨p1,p2,p3,p4,p5⟩:=hp (m,b) (by simp);simp only[zaK] at hn1 hn2;obtain⟨hm1,hn1'⟩:=zd8.1 hn1;obtain⟨hb1,hn2'⟩:=zd8.1 hn2;obtain⟨u,v,rfl⟩:=zch p1;obtain⟨hmid,hpw'⟩:=sH hpw;have hnd:(u++m::v).Nodup:=hpw.imp λh=>h.1;have hnds:=zcb.1 hnd;have hmv:m∉v:=(zd8.1 hnds.2.1).1;have hmu:m∉u:=λh=>hnds.2.2 m h m (by simp) rfl;have hne: ∀x∈u++v,x≠m:=λx Y e=>by
   subst e;rcases za8.1 Y with h|h
   ·exact hmu h
   ·exact hmv h
  obtain⟨o,t,d,cs,ho,_⟩:=p2.made;have hm2:=iQ hnice ho u A h Z.fr.toOS Z.nx hnds.1 (λx Y=>⟨hmid x Y,p4 x (by simp[Y]),hh x (by simp[Y]), .inl rfl⟩) hm;simp only[eD,ho] at hm2;obtain⟨ef,rd,wr,A',β',k1,k2,k3,k4,k5⟩:=agu ho hm2 Z p2 p3 p5;obtain⟨_,k1⟩:=Xg.1 k1;have mem: ∀x,x∈u++v↔x∈u++m::v/\x≠m:=λx=>by
   constructor
   ·intro Y;refine⟨?_,hne x Y⟩;rcases za8.1 Y with h|h
    ·exact zbI _ h
    ·exact zb1 _ (zan _ h)
   ·rintro⟨Y,hxm⟩;rcases za8.1 Y with h|h
    ·exact zbI _ h
    ·rcases zai.1 h with h|h
     ·exact absurd h hxm
     ·exact zb1 _ h
  obtain⟨V,A2,β2,h2,r1,r2,r3,r4,r5,r6,r7⟩:=ab7 hnice J (u++v) A' β' _ hn1' hn2' (λp hpp=>by
   obtain⟨q1,q2,q3,q4,q5⟩:=hp p (zan _ hpp);have hpm:p.1≠m:=λe=>hm1 (by rw[<-e];exact List.mem_map_of_mem hpp);have hpb:p.2≠b:=λe=>hb1 (by rw[<-e];exact List.mem_map_of_mem hpp);refine⟨(mem p.1).2 ⟨q1,hpm⟩,q2,q3,λx Y=>q4 x ((mem x).1 Y).1,λi C hC hk hnl=> ?_⟩;by_cases hA:A.bl i=some C
   ·rw[k5 i (by rw[hA];simp)] at hnl ⊢;exact q5 i C hA hk hnl
   ·rw[k4 i C hC hA];exact Ne.symm hpb) hpw' (λx Y=>by
   rw[jx (hne x Y)]
   exact hh x ((mem x).1 Y).1) k1 k2 (htr.trans k3)
  refine⟨V,A2,β2,h2,r1,r2,r3,r4,r5,λx=> ?_, ?_⟩
  ·rw[r6,mem];simp only[zaK,zai,not_or];exact⟨λ⟨⟨h1,h2⟩,h3⟩=>⟨h1,h2,h3⟩,λ⟨h1,h2,h3⟩=>⟨⟨h1,h2⟩,h3⟩⟩
  ·simp only[za3,za4] at r7 ⊢;omega
theorem adY (hol:ops.toList[i]? =some o) (Z:jY ops listed) (J: ∀e∈o.after,Region.binds .any e=true->listed.getD e.on false=true):jY ops (listed.setIfInBounds i true):=by
 intro j hj o' V e he hb;by_cases Y:j=i
 ·subst Y;rw[hol] at V;obtain rfl:o=o':=by simpa using V
  exact getD_set_true (J e (by simpa using he) hb)
 ·rw[getD_set_ne false (Ne.symm Y)] at hj;exact getD_set_true (Z j hj o' V e he hb)
theorem ae4: ∀{l r:zdL},l.Nodup->(∀x∈l,x∈r)->l.length<=r.length
 | [],r,_,_=>zaA _
 |x::l,r,Y,J=>by
  obtain⟨h1,h2⟩:=zd8.1 Y;have h3:=ae4 (l:=l) (r:=r.erase x) h2 λy V=>(List.mem_erase_of_ne (λe=>h1 (by rw[<-e];exact V))).2 (J y (zan _ V));have h4:=List.length_erase_of_mem (J x (by simp));have h5:=List.length_pos_of_mem (J x (by simp));simp only[za4];omega
def uW (B:Base) (w:World) (ob:Obj):Base where
 w:=w.alloc ob
 S:=λk=>(Nat.ble B.w.heap.size k||B.S k)&&Nat.blt k w.heap.size&& !B.F k
 sd:=B.sd
 F:=λk=>(B.F k&&Nat.blt k w.heap.size)||Nat.beq k w.heap.size
 hF:=λb hb=>by
  have hsz:(w.alloc ob).heap.size=w.heap.size+1:=by simp[World.alloc_eq]
  simp only[zav,za2,aB,bS,zdw] at hb;rw[hsz];refine⟨by omega, ?_⟩;rcases hb with ⟨h1,_⟩|h1
  ·simp[h1]
  ·subst h1;rw[aB,zdv (by omega)];simp
variable {M C:zdL}
theorem aew (hΓ:GamOK P W0 Γ) (hinl: ∀B,SubB B W0->kn P B inl) (hnice:cF inl) (hback:mJ ops=true) (L:LateOK P ops M C) {K:zdV} 
 (hnt: ∀m∈M,∀o d,ops.toList[m]? =some o->o.dst=some d->d<A0.nt)
 (hP: ∀v A' a' w' β',KP v A'->Is W0 A' β' a' w'->Trs A0 β0 A' β'->Q (pex v) a' w') (hQ: ∀A' a' w' β',K A'->Is W0 A' β' a' w'->Trs A0 β0 A' β'->Q .normal a' w'):
 ∀(fuel:Nat) (listed:Array Bool) (rem:zdL) (J:List (Nat×Nat)) (B:Base) (A:AS) (a:Act) (w:World) (β:zdM) (h:Nat->Option Hst),listed.size=ops.size->rem.length<=fuel+J.length->rem.Pairwise (aht ops pre M C)->
  (∀x,x∈rem↔x<ops.size/\(listed.getD x true=false\/x∈J.map (·.1)))->jY ops listed->(∀x∈rem,h x=none)->(J.map (·.1)).Nodup->(J.map (·.2)).Nodup->
  (∀p∈J,p.1∈M/\p.1<ops.size/\listed.getD p.1 true=true/\Pend P ops a w p.1 p.2/\W0.mine p.2/\B.F p.2=true)->SubB B W0->(∀b,B.out b->W0.out b)->B.sd=W0.sd->
  (∀d,(∃m o,m∈M/\m∈rem/\ops.toList[m]? =some o/\o.dst=some d)->FreeS A d)->
  eD P Γ inl ops pre false noP KP rem A h K->Is B A β a w->Trs A0 β0 A β->wpAny P .any ops Q fuel listed a w:=by
 intro fuel;have notIn: ∀(listed:Array Bool) (J:List (Nat×Nat)) (B:Base) (a:Act) (w:World) (c:Nat),(∀p∈J,p.1∈M/\p.1<ops.size/\listed.getD p.1 true=true/\Pend P ops a w p.1 p.2/\W0.mine p.2/\B.F p.2=true)->c∉M->c∉J.map (·.1):=by
  intro listed J B a w c hp hc hm;obtain⟨p,V,rfl⟩:=zaz.1 hm;exact hc (hp p V).1
 have done: ∀(fuel:Nat) (listed:Array Bool) (rem:zdL) (J:List (Nat×Nat)) (B:Base) (A:AS) (a:Act) (w:World) (β:zdM) (h:Nat->Option Hst),listed.size=ops.size->rem.length<=fuel+J.length->rem.Pairwise (aht ops pre M C)->
  (∀x,x∈rem↔x<ops.size/\(listed.getD x true=false\/x∈J.map (·.1)))->jY ops listed->(∀x∈rem,h x=none)->(J.map (·.1)).Nodup->(J.map (·.2)).Nodup->
  (∀p∈J,p.1∈M/\p.1<ops.size/\listed.getD p.1 true=true/\Pend P ops a w p.1 p.2/\W0.mine p.2/\B.F p.2=true)->SubB B W0->(∀b,B.out b->W0.out b)->B.sd=W0.sd->
  eD P Γ inl ops pre false noP KP rem A h K->Is B A β a w->Trs A0 β0 A β->(¬ ∃c∈C,c∈rem)->wpAny P .any ops Q fuel listed a w:=by
  intro fuel listed rem J B A a w β h hsz hlen hpw Y hcl hh hn1 hn2 hp hsub hout hsde hm Z htr hno;have hpw':rem.Pairwise (Rel ops pre):=hpw.imp_of_mem λ{x y} hx hy h=>by
   rcases h.2 with ⟨_,hc⟩|h
   ·exact absurd ⟨x,hc,hx⟩ hno
   ·exact h
  obtain⟨rem',A',β',h',r1,r2,r3,r4,r5,r6,r7⟩:=ab7 (W0:=W0) hnice J rem A β h hn1 hn2 (λp V=>by
   obtain⟨q1,q2,q3,q4,q5,q6⟩:=hp p V;refine⟨(Y p.1).2 ⟨q2, .inr (List.mem_map_of_mem V)⟩,q4,q5,λx hx=> ?_,λi X hX hk hnl e=> ?_⟩
   ·rcases((Y x).1 hx).2 with hu|hm'
    ·cases hb:bK ops.toList ops.size p.1 x with
     |false=>rfl
     |true=>
      exfalso;have hxl:=((Y x).1 hx).1;have hps:p.1<listed.size:=by omega
      have hpl:listed.getD p.1 false=true:=by simp[Array.getD,hps] at q3 ⊢;exact q3
      have hl:=mz hcl _ p.1 x (by simp) (λo' ho' e he hb'=>hcl p.1 hpl o' (by simpa using ho') e he hb') hb;have hxs:x<listed.size:=by omega
      simp[Array.getD,hxs] at hu hl;rw[hu] at hl;cases hl
    ·obtain⟨p',hpp',e⟩:=zaz.1 hm';rw[<-e];exact L.free p.1 q1 p'.1 (hp p' hpp').1
   ·have h1:=Z.bc.own i X hX hk hnl;rw[e] at h1;obtain⟨f1,f2⟩:=B.hF p.2 q6;rcases h1 with h1|h1
    ·omega
    ·rw[f2] at h1;cases h1) hpw' hh hm (Z.up hsub hout hsde) htr
  refine pi (m:=false) (KN:=noP) hΓ (hinl W0 (SubB.refl W0)) hnice hback (λ_ _ _ _ _ h=>h.elim) hP hQ fuel listed rem' A' a w β' h' hsz (by omega) (acH r4) (λx=> ?_) hcl r5 r1 r2 r3;rw[r6,Y];constructor
  ·rintro⟨⟨h1,h2|h2⟩,h3⟩
   ·exact⟨h1,h2⟩
   ·exact absurd h2 h3
  ·rintro⟨h1,h2⟩;refine⟨⟨h1, .inl h2⟩,λhm'=> ?_⟩;obtain⟨p,V,rfl⟩:=zaz.1 hm';rw[(hp p V).2.2.1] at h2;cases h2
 induction fuel with
 |zero=>
  intro listed rem J B A a w β h hsz hlen hpw Y hcl hh hn1 hn2 hp hsub hout hsde hfree hm Z htr;by_cases hc: ∃c∈C,c∈rem
  ·exfalso;obtain⟨c,hcC,hcr⟩:=hc
   have h1:=ae4 (l:=c::J.map (·.1)) (r:=rem) (zd8.2 ⟨notIn listed J B a w c hp (L.cm c hcC),hn1⟩) (λx hx=>by
    rcases zai.1 hx with rfl|hx
    ·exact hcr
    ·obtain⟨p,V,rfl⟩:=zaz.1 hx
     exact(Y p.1).2 ⟨(hp p V).2.1, .inr (List.mem_map_of_mem V)⟩)
   simp at h1 hlen;omega
  ·exact done 0 listed rem J B A a w β h hsz hlen hpw Y hcl hh hn1 hn2 hp hsub hout hsde hm Z htr hc
 |succ fuel ih=>
  intro listed rem J B A a w β h hsz hlen hpw Y hcl hh hn1 hn2 hp hsub hout hsde hfree hm Z htr;by_cases hc: ∃c∈C,c∈rem
  case neg=>exact done (fuel+1) listed rem J B A a w β h hsz hlen hpw Y hcl hh hn1 hn2 hp hsub hout hsde hm Z htr hc
  obtain⟨c,hcC,hcr⟩:=hc;have hcl0:c<ops.size/\listed.getD c true=false:=by
   obtain⟨h1,h2|h2⟩:=(Y c).1 hcr
   ·exact⟨h1,h2⟩
   ·exact absurd h2 (notIn listed J B a w c hp (L.cm c hcC))
  refine⟨λhr=> ?_,λi hi=> ?_⟩
  ·exfalso
   have:=vj hback hsz (rem:=rem.filter λx=> !listed.getD x true) (λx=>by
    rw[List.mem_filter,Y];constructor
    ·rintro⟨⟨h1,_⟩,h2⟩;exact⟨h1,by simpa using h2⟩
    ·rintro⟨h1,h2⟩
     exact⟨⟨h1, .inl h2⟩,by simp[h2]⟩) hr
   have hcm:c∈rem.filter λx=> !listed.getD x true:=List.mem_filter.2 ⟨hcr,by simp[hcl0.2]⟩;rw[this] at hcm;cases hcm
  ·obtain⟨hun,o,ho,hdeps⟩:=mem_ready.1 hi;have hlt:i<ops.size:=(zaq.1 ho).1;have hol:ops.toList[i]? =some o:=by simpa using ho
   have him:i∈rem:=(Y i).2 ⟨hlt, .inl hun⟩;have hnp:i∉J.map (·.1):=λhm'=>by
    obtain⟨p,V,e⟩:=zaz.1 hm';have:=(hp p V).2.2.1;rw[e,hun] at this;cases this
   have hcl':=adY hol hcl hdeps;have hset:(listed.setIfInBounds i true).getD i true=true:=by simp[Array.getD,hsz,hlt]
   by_cases hiM:i∈M
   ·obtain⟨o',t,d,cs,g1,g2,g3,g4,g5⟩:=L.made i hiM;rw[hol] at g1;obtain rfl:o=o':=by simpa using g1
    unfold wpOp;simp only[ho];rw[if_pos (by simp[Region.wanted,g2])];left;unfold Oper.wp;obtain⟨k1,k2⟩:=adg (P:=P) (a:=a) (w:=w) g3 g5;rw[k1,Oper.upon_value];have hsz':(w.alloc (.cells (SV.concs oj cs).toArray t)).heap.size=w.heap.size+1:=by simp[World.alloc_eq]
    have hat:(w.alloc (.cells (SV.concs oj cs).toArray t)).heap[w.heap.size]? =some (.cells (SV.concs oj cs).toArray t (0,0)):=by show (w.heap.push _)[w.heap.size]? =_;simp
    have hbel:Below w.heap.size w (w.alloc (.cells (SV.concs oj cs).toArray t)):=(zdG _ _).alloc (za0 _) _;have hBs:B.w.heap.size<=w.heap.size:=Z.bc.below.size;have hFd:FreeS A d:=hfree d ⟨i,o,hiM,him,hol,g4⟩;have plt: ∀p∈J,p.2<w.heap.size:=λp V=>by
     obtain⟨_,_,_,_,_,_,_,_,_,q,_⟩:=(hp p V).2.2.2.1.made;exact(zaq.1 q).1
    have mlt: ∀j X,A.bl j=some X->X.kd≠ .gone->(β j).nil=false->(β j).blk<w.heap.size:=λj X hX hk hn=>(Z.bc.blk j X hX hk).lt hn;refine ih (listed.setIfInBounds i true) rem ((i,w.heap.size)::J) (uW B w (.cells (SV.concs oj cs).toArray t)) A _ _ β h (by simp[hsz]) (by simp;omega) hpw (λx=> ?_) hcl' hh (by simp only[zaK];exact zd8.2 ⟨hnp,hn1⟩)
     (by
       simp only[zaK];refine zd8.2 ⟨λhm'=> ?_,hn2⟩;obtain⟨p,V,e⟩:=zaz.1 hm';have:=plt p V
       omega) (λp V=> ?_) ⟨?_, ?_⟩ ?_ hsde hfree hm ⟨?_, ?_,Z.nx,Z.sd⟩ htr
    ·rw[Y];simp only[zaK,zai];by_cases hxi:x=i
     ·subst hxi;simp[hlt,hun]
     ·rw[getD_set_ne true (Ne.symm hxi)];simp[hxi]
    ·rcases zai.1 V with rfl|V
     ·refine⟨hiM,hlt,hset,⟨⟨o,t,d,cs,hol,g2,g3,g4,g5,hat, ?_⟩⟩, .inl (zac hsub.1.size hBs), ?_⟩
      ·rw[g4];have hdl:d<a.tmps.size:=by
        rw[Z.fr.size,htr.nt];exact hnt i hiM o d hol g4
       simp[Act.put,hdl]
      ·simp[uW,bS]
     ·obtain⟨q1,q2,q3,⟨q4⟩,q5,q6⟩:=hp p V;obtain⟨o2,t2,d2,cs2,s1,s2,s3,s4,s5,s6,s7⟩:=q4;have hpi:p.1≠i:=λe=>hnp (by rw[<-e];exact List.mem_map_of_mem V);refine⟨q1,q2,by rw[getD_set_ne true (Ne.symm hpi)];exact q3,⟨⟨o2,t2,d2,cs2,s1,s2,s3,s4,s5, ?_, ?_⟩⟩,q5, ?_⟩
      ·rw[hbel.block _ (plt p V)];exact s6
      ·rw[ee _ _ _ (λe=>L.two p.1 q1 i hiM hpi o2 o s1 hol (by rw[s4];exact e.symm))];exact s7
      ·have:=plt p V;simp[uW,q6,aB,this]
    ·exact(hsub.pres Z.bc.below).step hbel
    ·intro b hb;simp only[uW,za2,zav,Nat.ble_eq] at hb
     exact hsub.mine (by
      rcases hb.1.1 with h1|h1
      ·exact .inl h1
      ·exact .inr h1)
    ·intro b hb;obtain⟨b1,b2⟩:=hb;refine hout b ?_;simp only[uW,zbs,bS,zdC] at b2;have hlt':b<w.heap.size:=by
      rcases zah b w.heap.size with h1|h1
      ·exact h1
      ·exfalso;refine b1 (.inl ?_);show (w.alloc _).heap.size<=b;rw[hsz'];have:=b2.2;omega
     have hFb:B.F b=false:=by
      have:=b2.1;rw[aB,zds hlt'] at this;simpa using this
     refine⟨λhm'=>b1 (.inr ?_),hFb⟩;simp only[uW,za2,zav,Nat.ble_eq,aB,zdw,hFb];exact⟨⟨hm',hlt'⟩,rfl⟩
    ·rw[g4];exact Z.fr.putFree hFd _
    ·refine(Z.bc.step hbel).rebase (Pres.self _) (λj X hX hk hn hmine=> ?_) (λj X hX hk hn ho'=> ?_)
     ·have hl:=mlt j X hX (by rcases hk with hk|hk<;>intro e<;>rw[e] at hk<;>cases hk) hn;refine .inr ?_;have hFb:B.F (β j).blk=false:=by
       cases hFF:B.F (β j).blk with
       |false=>rfl
       |true=>
        obtain⟨f1,f2⟩:=B.hF _ hFF;rcases hmine with h1|h1
        ·omega
        ·rw[f2] at h1;cases h1
      simp only[uW,za2,zav,Nat.ble_eq,aB,zdw,hFb];exact⟨⟨hmine,hl⟩,rfl⟩
     ·have hl:=mlt j X hX (by rw[hk];simp) hn;refine⟨λhm'=> ?_, ?_⟩
      ·rcases hm' with h1|h1
       ·have:(w.alloc (.cells (SV.concs oj cs).toArray t)).heap.size<=(β j).blk:=h1;omega
       ·simp only[uW,za2,zav,Nat.ble_eq] at h1;exact ho'.1 h1.1.1
      ·simp only[uW,ho'.2,Bool.false_and,zbi,bS,zdC];omega
   ·obtain⟨u,v,rfl⟩:=zch him;obtain⟨hmid,hpw'⟩:=sH hpw;have hnd:(u++i::v).Nodup:=hpw.imp λh=>h.1;have hnds:=zcb.1 hnd;have hiv:i∉v:=(zd8.1 hnds.2.1).1;have hiu:i∉u:=λh=>hnds.2.2 i h i (by simp) rfl;have mem: ∀x,x∈u++v↔x∈u++i::v/\x≠i:=λx=>by
     constructor
     ·intro hx;rcases za8.1 hx with h|h
      ·exact⟨zbI _ h,λe=>hiu (e▸h)⟩
      ·exact⟨zb1 _ (zan _ h),λe=>hiv (e▸h)⟩
     ·rintro⟨hx,hxm⟩;rcases za8.1 hx with h|h
      ·exact zbI _ h
      ·rcases zai.1 h with h|h
       ·exact absurd h hxm
       ·exact zb1 _ h
    have hfr: ∀m∈M,bK ops.toList ops.size i m=false/\ ∃om,ops.toList[m]? =some om/\Oper.apart ops om o=true:=by
     rcases L.use i o hiM hol with h1|h1
     ·have:=h1 c hcC;rw[la hcl hol hdeps hsz hcl0.1 hcl0.2] at this;cases this
     ·exact h1
    have hm2:=iQ hnice hol u A h Z.fr.toOS Z.nx hnds.1 (λx hx=>by
     refine⟨?_, ?_,hh x (by simp[hx]), .inl rfl⟩
     ·rcases(hmid x hx).2 with ⟨h1,_⟩|h1
      ·exact absurd h1 hiM
      ·exact h1
     ·rcases((Y x).1 (by simp[hx])).2 with h1|h1
      ·exact la hcl hol hdeps hsz ((Y x).1 (by simp[hx])).1 h1
      ·obtain⟨p,V,rfl⟩:=zaz.1 h1
       exact(hfr p.1 (hp p V).1).1) hm
    simp only[eD,hol] at hm2
    have hm3:=ags hnice Z.nx hm2 (F:=λd=> ∃m om,m∈M/\m∈u++i::v/\ops.toList[m]? =some om/\om.dst=some d) (λd hd=>by
     obtain⟨m,om,d1,d2,d3,d4⟩:=hd;obtain⟨_,om',e1,e2⟩:=hfr m d1;rw[d3] at e1;obtain rfl:om=om':=by simpa using e1
     obtain⟨s1,s2,_⟩:=Oper.apart_spec e2
     exact⟨hfree d ⟨m,om,d1,d2,d3,d4⟩,s2 d d4,s1 d d4⟩)
    have fin: ∀a' w',(∃ef rd wr A' β',(af (okM ops pre h i ef rd wr&&ckM false ops i ef) (eD P Γ inl ops pre false noP KP (u++v) A' (dc h i ⟨ef,rd,wr,bif ef then A.nx else 0⟩) K)/\ ∀d,(∃m om,m∈M/\m∈u++i::v/\ops.toList[m]? =some om/\om.dst=some d)->FreeS A' d)/\Is B A' β' a' w'/\Trs A β A' β')->(∀t,o.dst≠some t->a'.tmps.getD t undef=a.tmps.getD t undef)->wpAny P .any ops Q fuel (listed.setIfInBounds i true) a' w':=by
     rintro a' w' ⟨ef,rd,wr,A',β',⟨hk,hf'⟩,his',htr'⟩ hsl;obtain⟨_,hk⟩:=Xg.1 hk;refine ih (listed.setIfInBounds i true) (u++v) J B A' a' w' β' _ (by simp[hsz]) (by simp at hlen ⊢;omega) hpw' (λx=> ?_) hcl' (λx hx=> ?_) hn1 hn2 (λp V=> ?_) hsub hout hsde (λd hd=> ?_) hk his' (htr.trans htr')
     ·rw[mem,Y];by_cases hxi:x=i
      ·subst hxi;simp only[ne_eq,not_true_eq_false,and_false,false_iff,not_and,not_or];exact λ_=>⟨by rw[hset];simp,hnp⟩
      ·rw[getD_set_ne true (Ne.symm hxi)];simp[hxi]
     ·rw[jx ((mem x).1 hx).2];exact hh x ((mem x).1 hx).1
     ·obtain⟨q1,q2,q3,⟨q4⟩,q5,q6⟩:=hp p V;obtain⟨o2,t2,d2,cs2,s1,s2,s3,s4,s5,s6,s7⟩:=q4;have hpi:p.1≠i:=λe=>hnp (by rw[<-e];exact List.mem_map_of_mem V);obtain⟨_,om',e1,e2⟩:=hfr p.1 q1;rw[s1] at e1;obtain rfl:o2=om':=by simpa using e1
      obtain⟨_,a2,_⟩:=Oper.apart_spec e2;obtain⟨f1,f2⟩:=B.hF p.2 q6;refine⟨q1,q2,by rw[getD_set_ne true (Ne.symm hpi)];exact q3,⟨⟨o2,t2,d2,cs2,s1,s2,s3,s4,s5, ?_, ?_⟩⟩,q5,q6⟩
      ·rw[his'.bc.below.block _ f1 f2,<-Z.bc.below.block _ f1 f2];exact s6
      ·rw[hsl d2 (a2 d2 s4)];exact s7
     ·obtain⟨m,om,d1,d2,d3,d4⟩:=hd;exact hf' d ⟨m,om,d1,((mem m).1 d2).1,d3,d4⟩
    have k:=lL (W0:=B) (hΓ.sub hsub) (hinl B hsub) hm3 Z (Q:=Q) (KK:=λa' w'=> ∃ef rd wr A' β',(af (okM ops pre h i ef rd wr&&ckM false ops i ef) (eD P Γ inl ops pre false noP KP (u++v) A' (dc h i ⟨ef,rd,wr,bif ef then A.nx else 0⟩) K)/\ ∀d,(∃m om,m∈M/\m∈u++i::v/\ops.toList[m]? =some om/\om.dst=some d)->FreeS A' d)/\Is B A' β' a' w'/\Trs A β A' β')
     (λv' A' a' w' β' hk r1 r2=>by
       cases hl:qE ops i with
       |true=>rw[hl] at hk;exact hP v' A' a' w' β' hk (r1.up hsub hout hsde) (htr.trans r2)
       |false=>rw[hl] at hk;exact hk.elim) (λef rd wr A' a' w' β' hk r1 r2=>⟨ef,rd,wr,A',β',hk,r1,r2⟩)
    unfold wpOp;simp only[ho];by_cases hw:Region.wanted o (yielded ops a.tmps)=true
    ·rw[if_pos hw] at k ⊢;exact .inl (Oper.wp_mono (λa' w' ⟨h1,h2⟩=>fin a' w' h1 h2) (agt k))
    ·rw[if_neg hw] at k ⊢;exact fin _ _ k (λt ht=>ee _ _ _ ht)
theorem acx {m:Nat} (h:atF ops (adB P) m=true): ∃o t d cs,ops.toList[m]? =some o/\o.guard=none/\o.op= .alloc t/\o.dst=some d/\xX P t=some cs:=by
 unfold atF at h;split at h
 ·rename_i o V;unfold adB at h;split at h
  ·rename_i t d h1 h2 h3;obtain⟨cs,J⟩:=Option.isSome_iff_exists.1 h;exact⟨o,t,d,cs,V,h1,h2,h3,J⟩
  ·cases h
 ·cases h
theorem afI (h:aiV ops pre M C x y=true):aht ops pre M C x y:=by
 unfold aiV at h;simp only[za2,zav,zap,bS,zdw,zdC,aB,Wo] at h;obtain⟨h1,h4⟩:=h;refine⟨h4, ?_⟩;rcases h1 with ⟨h1,h2⟩|⟨⟨h1,h2⟩,h3⟩
 ·exact .inl ⟨h1,h2⟩
 ·exact .inr ⟨h4,h1,λh=>(by rw[Wo.2 h] at h2;cases h2),h3⟩
theorem agv (h:okL P ops A L M C=true):L.Pairwise (aht ops (aiU L M C) M C)/\(∀x,x∈L↔x<ops.size)/\L.length<=ops.size/\LateOK P ops M C/\ ∀m∈M,∀o d,ops.toList[m]? =some o->o.dst=some d->A.ok d=false/\d<A.nt:=by
 unfold okL at h;simp only[za2] at h;obtain⟨⟨⟨⟨⟨⟨h1,h2⟩,h3⟩,h4⟩,h5⟩,h6⟩,h7⟩:=h;simp only[zaf,zaC,aB,zdw,Wo,zav,za2,zap,bS] at h2 h3 h5 h6 h7;have hU: ∀m∈M,∀i,acP ops M i=false->bK ops.toList ops.size i m=false:=λm J i hi=>by
  cases hb:bK ops.toList ops.size i m with
  |false=>rfl
  |true=>
   have:acP ops M i=true:=zaP.2 ⟨m,J,hb⟩;rw[hi] at this;cases this
 refine⟨Ch (λ_ _=>afI) h1,λx=>⟨λhx=>h2 x hx,λhx=>h3 x hx⟩,zak h4,⟨λi o hi Y=> ?_,λm J=>acx (h6 m J).1.1.2,λm J m' V=>hU m' V m (h6 m J).1.1.1,λm J m' V hne o o' Y ho' e=> ?_,λc hc J=> ?_⟩,λm J o d Y hd=> ?_⟩
 ·rcases h5 i (kW Y) with h|h
  ·exact absurd h hi
  ·cases hu:acP ops M i with
   |true=>rw[hu] at h;exact .inl (λc hc=>zaf.1 h c hc)
   |false=>
    rw[hu] at h;refine .inr λm J=>⟨hU m J i hu, ?_⟩;obtain⟨a,b,e1,Z,e3⟩:=GL (zaf.1 h m J);rw[Y] at Z;obtain rfl:o=b:=by simpa using Z
    exact⟨a,e1,e3⟩
 ·rcases(h6 m J).1.2 m' V with h|h
  ·exact hne h
  ·obtain⟨a,b,e1,Z,e3⟩:=GL h;rw[Y] at e1;rw[ho'] at Z;obtain rfl:o=a:=by simpa using e1
   obtain rfl:o'=b:=by simpa using Z
   obtain⟨_,_,_,_,g1,_,_,g4,_⟩:=acx (h6 m J).1.1.2;rw[Y] at g1;simp only[za1] at g1;subst g1;exact(Oper.apart_spec e3).2.1 _ g4 (e▸g4)
 ·have:=h7 c hc;rw[Wo.2 J] at this;cases this
 ·have:=(h6 m J).2;have hdo:aer ops m=some d:=by simp only[aer,Y,zcG,hd]
  rw[hdo] at this;simpa [aB] using this
theorem ab8 (A:AS) (l:zdW) (t:Nat):(acw A l).tm t= .dead\/(acw A l).tm t=A.tm t:=by
 show (bif l.any (isD t) then TV.dead else A.tm t)=TV.dead\/(bif l.any (isD t) then TV.dead else A.tm t)=A.tm t;cases l.any (isD t)
 ·exact .inr rfl
 ·exact .inl rfl
theorem aex {l:zdW} {d:Nat} (h:some d∈l):(acw A l).tm d= .dead:=by
 show (bif l.any (isD d) then TV.dead else A.tm d)=TV.dead;rw[show l.any (isD d)=true from zaP.2 ⟨some d,h,by simp[isD,bS]⟩];rfl
theorem agw (h:Is W0 A β a w) (l:zdW):Is W0 (acw A l) β a w:=by
 refine⟨⟨h.fr.defers,h.fr.size,λt s J=> ?_,λt u b s J=> ?_,λt u b s J=> ?_⟩,h.bc,h.nx,h.sd⟩
 ·rcases ab8 A l t with e|e
  ·rw[e] at J;cases J
  ·rw[e] at J;exact h.fr.v t s J
 ·rcases ab8 A l t with e|e
  ·rw[e] at J;cases J
  ·rw[e] at J;exact h.fr.opt t u b s J
 ·rcases ab8 A l t with e|e
  ·rw[e] at J;cases J
  ·rw[e] at J;exact h.fr.os t u b s J
theorem ahu (h:Is W0 A β a w):Is W0 (acO A) β a w:=
 ⟨⟨h.fr.defers,h.fr.size,(λt s J=>by cases J),(λt u b s J=>by cases J),(λt u b s J=>by cases J)⟩,h.bc,h.nx,h.sd⟩
theorem agx (h:okS ops L=true) (hN: ∀v A',KN v A'↔KN v (acO A')):L.Pairwise (aiY true KN ops (aiW L))/\(∀x,x∈L↔x<ops.size)/\L.length<=ops.size:=by
 unfold okS at h;simp only[za2] at h;obtain⟨⟨⟨h1,h2⟩,h3⟩,h4⟩:=h;simp only[zaf,zaC,aB,zdw,Wo] at h2 h3;refine⟨Ch (λx y h=> ?_) h1,λx=>⟨λV=>h2 x V,λV=>h3 x V⟩,zak h4⟩;unfold akd at h;simp only[za2,zav,zap,bS,zdw,zdC,Wo] at h;obtain⟨⟨⟨⟨k1,k2⟩,k3⟩,Z⟩,J⟩:=h;refine⟨⟨Z,k1,λh=>(by first|exact k2 h|(rw[Wo.2 h] at k2;cases k2)), .inr k3⟩, ?_⟩;cases Y:bK ops.toList ops.size y x with
 |true=>exact .inl rfl
 |false=>
  rw[Y] at J;rcases J with J|⟨J,k6⟩
  ·cases J
  ·exact .inr (.inr ⟨hN,J,rfl,by unfold Du;rw[k3,Y,bS,zdv Z];rfl,k6⟩)
theorem Aq (hΓ:GamOK P W0 Γ) (hmx:P.follows .mixedOrders=true) (Z: ∀B,SubB B W0->kn P B inl) (V:cF inl) {rid:Nat} (J:mJ ops=true) {K:zdV} 
 (hm:Gm P Γ inl ops KP A K) (hs:Is W0 A β a w) (hP: ∀v A' a' w' β',KP v A'->Is W0 A' β' a' w'->Trs A β A' β'->Q (pex v) a' w') (hQ: ∀A' a' w' β',K A'->Is W0 A' β' a' w'->Trs A β A' β'->Q .normal a' w'):(Code.region rid ops true).wp P Q a w:=by
 refine wp_region_any hmx ?_;have hbd:Below w.heap.size w {w with drawn:=w.drawn+1}:=(zdG _ _).drew;have hs':Is W0 A β a {w with drawn:=w.drawn+1}:=⟨hs.fr,hs.bc.step hbd,hs.nx,hs.sd⟩;have Y:jY ops (Array.replicate ops.size false):=by
  intro i hi;exfalso;simp[Array.getD] at hi
 have hl0: ∀x,x<ops.size↔x<ops.size/\(Array.replicate ops.size false).getD x true=false:=by
  intro x;simp[Array.getD]
 unfold Gm at hm;split at hm
 ·split at hm
  case h_2=>
   rename_i m M hM;obtain⟨hk,hm⟩:=Xg.1 hm;obtain⟨p1,p2,p3,p4,p5⟩:=agv hk;refine aew hΓ Z V J p4 (A0:=acw A ((m::M).map (aer ops))) (λx hx o d ho hd=>(p5 x hx o d ho hd).2) (λv A' a' w' β' hk h1 h2=>hP v A' a' w' β' hk h1 ⟨h2.tr,h2.wl,h2.nx,h2.nt⟩) (λA' a' w' β' hk h1 h2=>hQ A' a' w' β' hk h1 ⟨h2.tr,h2.wl,h2.nx,h2.nt⟩)
    ops.size _ _ [] W0 _ a _ β (λ_=>none) (by simp) (by simpa using p3) p1 (λx=>by rw[p2,hl0 x];simp) Y (λ_ _=>rfl) (by simp) (by simp) (λp hp=>by cases hp) (SubB.refl W0) (λb h=>h) rfl (λd hd=> ?_) hm (agw hs' _) (Trs.refl _ _)
   obtain⟨x,o,d1,d2,d3,d4⟩:=hd;refine⟨aex (zaz.2 ⟨x,d1,by simp only[aer,d3,zcG,d4]⟩),λt u b s ht e=> ?_⟩;rcases ab8 A ((m::M).map (aer ops)) t with e2|e2
   ·rw[e2] at ht;cases ht
   ·rw[e2] at ht;have:=(hs'.fr.os t u b s ht).2;rw[e,(p5 x d1 o d d3 d4).1] at this;cases this
  split at hm
  case h_2=>
   obtain⟨hk,hm⟩:=Xg.1 hm;have hinv: ∀v A',(λv A'=>KP v (acO A')) v A'↔(λv A'=>KP v (acO A')) v (acO A'):=λv A'=>Iff.rfl;obtain⟨p1,p2,p3⟩:=agx hk hinv;refine pi (m:=true) hΓ (Z W0 (SubB.refl W0)) V J (λv A' a' w' β' hk h1 h2=>hP v (acO A') a' w' β' hk (ahu h1) ⟨h2.tr,h2.wl,h2.nx,h2.nt⟩) hP hQ ops.size _ _ A a _ β (λ_=>none) (by simp) p3 p1 (λx=>(p2 x).trans (hl0 x)) Y (λ_ _=>rfl) hm hs' (Trs.refl _ _)
  refine pi (m:=false) (KN:=noP) hΓ (Z W0 (SubB.refl W0)) V J (λ_ _ _ _ _ h=>h.elim) hP hQ ops.size _ (List.range ops.size) A a _ β (λ_=>none) (by simp) (by simp) (acH<|List.pairwise_lt_range.imp λ{x y} h=>⟨by omega,zaC.2 h,λh'=>by have:=zaC.1 h';omega, .inl h⟩) ?_ Y (λ_ _=>rfl) hm hs' (Trs.refl _ _);intro x;rw[zaC];exact hl0 x
 ·rename_i c d hcd;obtain⟨hk,hm1,hm2⟩:=Xg.1 hm;simp only[za2] at hk;obtain⟨p1,p2,p3⟩:=yn hk.1;obtain⟨q1,q2,q3⟩:=yn hk.2;have hcd:Gk ops=some (c,d):=by
   unfold aiC at hcd;split at hcd
   ·cases hcd
   ·exact hcd
  obtain⟨s1,s2,s3,s4⟩:=Ap hcd;exact DZ hΓ (Z W0 (SubB.refl W0)) V J s3 s4 hP hQ ops.size _ _ _ A a _ β (λ_=>none) (by simp) p3 q3 ((p2 c).2 s1) ((p2 d).2 s2) p1 q1 (λx=>(p2 x).trans (hl0 x)) (λx=>(q2 x).trans (hl0 x)) Y (λ_ _=>rfl) hm1 hm2 hs' (Trs.refl _ _)
end
section
variable {P:Program} {W0:Base}
theorem vk: ∀{l:List (Nat×SV)} {t:Nat} {s:SV},x6 l t= .v s->(t,s)∈l
 | [],t,s,h=>by simp[x6] at h
 |(u,r)::l,t,s,h=>by
  simp only[x6] at h;cases J:Nat.beq t u with
  |true=>
   rw[J] at h;simp only[zdu,TV.v.injEq] at h;rw[zab J,h];simp
  |false=>rw[J] at h;exact zan _ (vk h)
theorem YC {A:AS} {t:Nat} {s:SV} (h:A.tm t= .v s): ∀{ks:zdL},ks.any (Nat.beq t)=true->(t,s)∈adf A ks
 | [],h0=>by simp at h0
 |u::r,h0=>by
  simp only[zcR,zav] at h0;unfold adf;rcases h0 with h1|h1
  ·have:=zab h1;subst this;rw[h];simp
  ·have J:=YC h (ks:=r) h1;split
   ·exact zan _ J
   ·exact J
variable {A:AS} {l:List (Nat×SV)} {ks:zdL} {t:Nat} {s:SV}
theorem D3 (h:x7 A l ks t= .v s):(t,s)∈l++adf A ks:=by
 unfold x7 at h;split at h
 ·rename_i V h1;simp only[TV.v.injEq] at h;subst h;exact zbI _ (vk h1)
 ·cases J:ks.any (Nat.beq t) with
  |false=>rw[J] at h;simp at h
  |true=>
   rw[J] at h;simp only[zdu] at h;split at h
   ·rename_i V h2;simp only[TV.v.injEq] at h;subst h;exact zb1 _ (YC h2 J)
   ·cases h
theorem aur {u:Nat} {b:Bool} (h:x7 A l ks t= .opt u b s):False:=by
 unfold x7 at h;split at h
 ·simp at h
 ·cases J:ks.any (Nat.beq t) with
  |false=>rw[J] at h;simp at h
  |true=>
   rw[J] at h;simp only[zdu] at h;split at h<;>simp at h
theorem mS {X:Type} {x:X} {bl:zdP}: ∀{l:List (Nat×(X->zdQ))} {i:Nat} {C:Blk},rP bl x l i=some C->
 (∃g B,(i,g)∈l/\bl i=some B/\C={B with get:=B.kd.sel (g x) B.get})\/(i∉l.map (·.1)/\bl i=some C)
 | [],i,C,h=> .inr ⟨by simp,h⟩
 |(j,g)::l,i,C,h=>by
  simp only[rP] at h;cases J:Nat.beq i j with
  |true=>
   rw[J] at h;have:=zab J;subst this;simp only[zdu] at h;split at h
   ·rename_i B hB;simp only[za1] at h;exact .inl ⟨g,B,by simp,hB,h.symm⟩
   ·cases h
  |false=>
   rw[J] at h;rw[bS] at J;rcases mS h with ⟨g',B,h1,h2,h3⟩|⟨h1,h2⟩
   ·exact .inl ⟨g',B,zan _ h1,h2,h3⟩
   ·exact .inr ⟨by simp only[zaK,zai,not_or];exact⟨by simpa using J,h1⟩,h2⟩
theorem vn {X:Type} {x:X} {bl:zdP}: ∀{l:List (Nat×(X->zdQ))} {i:Nat},bl i≠none↔rP bl x l i≠none
 | [],i=>Iff.rfl
 |(j,g)::l,i=>by
  simp only[rP];cases J:Nat.beq i j with
  |true=>simp only[zdu];cases bl i<;>simp
  |false=>simp only[zdt];exact vn
theorem jZ {X:Type} {x:X} {bl:zdP}: ∀{l:List (Nat×(X->zdN))} {i:Nat} {C:Blk},p7 bl x l i=some C->
 (∃g B,(i,g)∈l/\bl i=some B/\C={B with get:=λ_=>g x})\/(i∉l.map (·.1)/\bl i=some C)
 | [],i,C,h=> .inr ⟨by simp,h⟩
 |(j,g)::l,i,C,h=>by
  simp only[p7] at h;cases J:Nat.beq i j with
  |true=>
   rw[J] at h;have:=zab J;subst this;simp only[zdu] at h;split at h
   ·rename_i B hB;simp only[za1] at h;exact .inl ⟨g,B,by simp,hB,h.symm⟩
   ·cases h
  |false=>
   rw[J] at h;rw[bS] at J;rcases jZ h with ⟨g',B,h1,h2,h3⟩|⟨h1,h2⟩
   ·exact .inl ⟨g',B,zan _ h1,h2,h3⟩
   ·exact .inr ⟨by simp only[zaK,zai,not_or];exact⟨by simpa using J,h1⟩,h2⟩
theorem Ws {X:Type} {x:X} {bl:zdP}: ∀{l:List (Nat×(X->zdN))} {i:Nat},bl i≠none↔p7 bl x l i≠none
 | [],i=>Iff.rfl
 |(j,g)::l,i=>by
  simp only[p7];cases J:Nat.beq i j with
  |true=>simp only[zdu];cases bl i<;>simp
  |false=>simp only[zdt];exact Ws
variable {bl:zdP} {i:Nat}
theorem sI {C:Blk} (h:arD bl ks i=some C):(i∈ks/\ ∃B,bl i=some B/\C={B with kd:= .gone})\/(i∉ks/\bl i=some C):=by
 unfold arD at h;cases J:ks.any (Nat.beq i) with
 |true=>
  rw[J] at h;simp only[zaP] at J;obtain⟨j,V,Y⟩:=J;rw[<-zab Y] at V;simp only[zdu] at h;split at h
  ·rename_i B hB;exact .inl ⟨V,B,hB,by simpa using h.symm⟩
  ·cases h
 |false=>
  rw[J] at h;refine .inr ⟨λZ=> ?_,h⟩;have:ks.any (Nat.beq i)=true:=zaP.2 ⟨i,Z,by rw[bS];simp⟩;rw[J] at this;cases this
theorem WB:bl i≠none↔arD bl ks i≠none:=by
 unfold arD;cases ks.any (Nat.beq i) with
 |true=>simp only[zdu];cases bl i<;>simp
 |false=>exact Iff.rfl
theorem yo {X:Type} {x:X}: ∀{l:List (Gr X)} {j:Nat} {C:Blk},grB x l j=some C-> ∃g,l[j]? =some g/\C={n:=g.n x,sz:=g.sz,get:=g.get x,kd:= .own,nn:=false}
 | [],j,C,h=>by cases h
 |g::r,0,C,h=>⟨g,rfl,by simpa [grB] using h.symm⟩
 |g::r,j+1,C,h=>yo (l:=r) h
theorem Wm {X:Type} {x:X}: ∀{l:List (Gr X)} {j:Nat},grB x l j≠none↔j<l.length
 | [],j=>by simp[grB]
 |g::r,0=>by simp[grB]
 |g::r,j+1=>by simp only[grB,za4,Nat.add_lt_add_iff_right];exact Wm
def mh (b:Nat) (rs:zdW) (sz:Nat->Nat) (β:zdM) (i:Nat):Loc:=bif Nat.blt i b then β i else match rs[i - b]? with
 |some (some k)=>β k
 |some none=>⟨0,0,sz (i - b),0,true⟩
 |none=>β i
variable {b:Nat} {rs:zdW} {sz:Nat->Nat} {β:zdM}
theorem bA (h:i<b):mh b rs sz β i=β i:=by
 unfold mh;rw[aB,zds h];rfl
variable {j:Nat}
theorem fG {k:Nat} (h:rs[j]? =some (some k)):mh b rs sz β (b+j)=β k:=by
 unfold mh;rw[aB,zdv (by omega: ¬b+j<b)];simp[h]
theorem fH (h:rs[j]? =some none):mh b rs sz β (b+j)=⟨0,0,sz j,0,true⟩:=by
 unfold mh;rw[aB,zdv (by omega: ¬b+j<b)];simp[h]
mutual
theorem sJ {b:Nat} {rs:List (Option Nat)} {sz:Nat->Nat} {β:Nat->Loc}: ∀{s r:SV},s.ren b rs=some r->r.conc β=s.conc (mh b rs sz β)/\ ∀i∈s.ids,i<b/\i∈r.ids\/(b<=i/\i - b<rs.length)
 | .val v,r,h=>by simp[SV.ren] at h;subst h;simp[SV.conc,SV.ids]
 | .ptr id e o,r,h=>by
   simp only[SV.ren] at h;rw[aB] at h;by_cases hi:id<b
   ·simp[hi] at h;subst h;refine⟨by simp only[SV.conc,addr,bA hi],λi J=> .inl ?_⟩;simp only[SV.ids,zaj] at J ⊢;subst J;exact⟨hi,rfl⟩
   ·simp[hi] at h
 | .mp id,r,h=>by
   simp only[SV.ren] at h;rw[aB] at h;by_cases hi:id<b
   ·simp[hi] at h;subst h;refine⟨by simp only[SV.conc,bA hi],λi J=> .inl ?_⟩;simp only[SV.ids,zaj] at J ⊢;subst J;exact⟨hi,rfl⟩
   ·simp[hi] at h
 | .slc id e len,r,h=>by
   simp only[SV.ren,Pn] at h;rw[aB] at h;by_cases hi:id<b
   ·simp[hi] at h;subst h;refine⟨by simp only[SV.conc,addr,bA hi],λi J=> .inl ?_⟩;simp only[SV.ids,zaj] at J ⊢;subst J;exact⟨hi,rfl⟩
   ·simp only[hi,decide_false,zdt] at h;have hid:id=b+(id - b):=by omega
    split at h
    ·rename_i k Z;simp only[za1] at h;subst h;refine⟨?_,λi J=> .inr ?_⟩
     ·simp only[SV.conc,addr];rw[hid,fG Z]
     ·simp only[SV.ids,zaj] at J;subst J;refine⟨by omega, ?_⟩;rcases zah (i - b) rs.length with Y|Y
      ·exact Y
      ·rw[zad Y] at Z;cases Z
    ·rename_i Z;simp only[za1] at h;subst h;refine⟨?_,λi J=> .inr ?_⟩
     ·simp only[SV.conc];rw[hid,fH Z];simp
     ·simp only[SV.ids,zaj] at J;subst J;refine⟨by omega, ?_⟩;rcases zah (i - b) rs.length with Y|Y
      ·exact Y
      ·rw[zad Y] at Z;cases Z
    ·cases h
 | .agg cs,r,h=>by
   simp only[SV.ren,zbE] at h;obtain⟨rs',h1,rfl⟩:=h;obtain⟨k1,k2⟩:=rens_conc (sz:=sz) (β:=β) h1;exact⟨by simp only[SV.conc,k1],λi hi=>by simp only[SV.ids] at hi ⊢;exact k2 i hi⟩
 | .tup cs,r,h=>by
   simp only[SV.ren,zbE] at h;obtain⟨rs',h1,rfl⟩:=h;obtain⟨k1,k2⟩:=rens_conc (sz:=sz) (β:=β) h1;exact⟨by simp only[SV.conc,k1],λi hi=>by simp only[SV.ids] at hi ⊢;exact k2 i hi⟩
 | .fn f a c,r,h=>by
   simp only[SV.ren] at h;split at h
   ·rename_i a' c' h1 h2;simp only[za1] at h;subst h;obtain⟨k1,k2⟩:=rens_conc (sz:=sz) (β:=β) h1;obtain⟨l1,l2⟩:=rens_conc (sz:=sz) (β:=β) h2;refine⟨by simp only[SV.conc,k1,l1],λi hi=> ?_⟩;simp only[SV.ids,za8] at hi ⊢;rcases hi with hi|hi
    ·rcases k2 i hi with ⟨V,a2⟩|V
     ·exact .inl ⟨V, .inl a2⟩
     ·exact .inr V
    ·rcases l2 i hi with ⟨V,a2⟩|V
     ·exact .inl ⟨V, .inr a2⟩
     ·exact .inr V
   ·cases h
theorem rens_conc {b:Nat} {rs:List (Option Nat)} {sz:Nat->Nat} {β:Nat->Loc}: ∀{s r:List SV},SV.rens b rs s=some r->SV.concs β r=SV.concs (mh b rs sz β) s/\ ∀i∈SV.idss s,i<b/\i∈SV.idss r\/(b<=i/\i - b<rs.length)
 | [],r,h=>by simp[SV.rens] at h;subst h;simp[SV.concs,SV.idss]
 |x::xs,r,h=>by
  simp only[SV.rens] at h;split at h
  ·rename_i y ys h1 h2;simp only[za1] at h;subst h;obtain⟨k1,k2⟩:=sJ (sz:=sz) (β:=β) h1;obtain⟨Y,Z⟩:=rens_conc (sz:=sz) (β:=β) h2;refine⟨by simp only[SV.concs,k1,Y],λi hi=> ?_⟩;simp only[SV.idss,za8] at hi ⊢;rcases hi with hi|hi
   ·rcases k2 i hi with ⟨J,V⟩|J
    ·exact .inl ⟨J, .inl V⟩
    ·exact .inr J
   ·rcases Z i hi with ⟨J,V⟩|J
    ·exact .inl ⟨J, .inr V⟩
    ·exact .inr J
  ·cases h
end
theorem aaJ {b:Nat} {rs:zdW} {A:AS}: ∀{l:List (Nat×SV)},Gn b rs A l-> ∀p∈l,∃r,p.2.ren b rs=some r/\A.tm p.1= .v r
 | [],_,p,hp=>by cases hp
 |(t,s)::l,h,p,hp=>by
  obtain⟨h1,h2⟩:=h;rcases zai.1 hp with rfl|hp
  ·unfold eqO at h1;split at h1
   ·rename_i r J;exact⟨r,J,h1⟩
   ·exact h1.elim
  ·exact aaJ h2 p hp
theorem wA {f:Nat->Prop}: ∀{n:Nat},NC n f-> ∀e,e<n->f e
 |0,_,e,J=>by omega
 |k+1,h,e,J=>by
  by_cases h2:e=k
  ·subst h2;exact h.1
  ·exact wA h.2 e (by omega)
theorem pm {X:Type} {A0 A:AS} {x:X}: ∀{l:List (Nat×(X->zdQ))},Gp A0 A x l-> ∀p∈l,∃B,A.bl p.1=some B/\B.kd≠ .gone/\((B.kd= .itL/\ ∃B0,A0.bl p.1=some B0/\ ∀e,B.get (e+1)=abr (p.2 x) B0.get (e+1))\/(B.kd.map=true/\B.kd.lst=false/\GetEq B.kd B.get (p.2 x))\/(B.kd.map=false/\ ∀e,e<B.n->B.get e=p.2 x e))
 | [],_,p,hp=>by cases hp
 |(i,g)::l,h,p,hp=>by
  obtain⟨h1,h2⟩:=h;rcases zai.1 hp with rfl|hp
  ·split at h1
   ·rename_i B hB;cases J:B.kd with
    |gone=>rw[J] at h1;exact h1.elim
    |mpL=>rw[J] at h1;exact h1.elim
    |itL=>
     rw[J] at h1;simp only[] at h1;split at h1
     ·rename_i B0 V;exact⟨B,hB,by rw[J];simp, .inl ⟨J,B0,V,h1⟩⟩
     ·exact h1.elim
    |itK=>rw[J] at h1;exact⟨B,hB,by rw[J];simp, .inr (.inl ⟨by rw[J];rfl,by rw[J];rfl,by rw[J];exact⟨h1.1, .inl h1.2⟩⟩)⟩
    |mpI=>rw[J] at h1;exact⟨B,hB,by rw[J];simp, .inr (.inl ⟨by rw[J];rfl,by rw[J];rfl,by rw[J];exact h1⟩)⟩
    |mpB=>rw[J] at h1;exact⟨B,hB,by rw[J];simp, .inr (.inl ⟨by rw[J];rfl,by rw[J];rfl,by rw[J];exact h1⟩)⟩
    |own=>rw[J] at h1;exact⟨B,hB,by rw[J];simp, .inr (.inr ⟨by rw[J];rfl,λe Y=>wA h1 e Y⟩)⟩
    |old=>rw[J] at h1;exact⟨B,hB,by rw[J];simp, .inr (.inr ⟨by rw[J];rfl,λe Y=>wA h1 e Y⟩)⟩
   ·exact h1.elim
  ·exact pm h2 p hp
theorem pn {X:Type} {b:Nat} {rs:zdW} {A:AS} {x:X}: ∀{l:List (Nat×(X->zdN))},Gq b rs A x l-> ∀p∈l,∃B cs,A.bl p.1=some B/\SV.rens b rs (p.2 x)=some cs/\B.kd≠ .gone/\B.n=1/\B.get 0=cs
 | [],_,p,hp=>by cases hp
 |(i,g)::l,h,p,hp=>by
  obtain⟨h1,h2⟩:=h;rcases zai.1 hp with rfl|hp
  ·split at h1
   ·rename_i B cs hB J;split at h1
    ·exact h1.elim
    ·rename_i V;obtain⟨h3,h4⟩:=Xg.1 h1;exact⟨B,cs,hB,J,λe=>V e,zab h3,h4⟩
   ·exact h1.elim
  ·exact pn h2 p hp
theorem kU {X:Type} {A:AS} {x:X}: ∀{l:List (Gr X)} {rs:zdW},B7 A x l rs->rs.length=l.length/\ ∀(j:Nat) (g:Gr X),l[j]? =some g->
 (∃i B,rs[j]? =some (some i)/\A.bl i=some B/\B.kd= .own/\B.sz=g.sz/\g.n x<=B.n/\ ∀e,e<g.n x->B.get e=g.get x e)\/(rs[j]? =some none/\g.n x=0)
 | [], [],_=>⟨rfl,λj g h=>by simp at h⟩
 |g::l,some i::rs,h=>by
  obtain⟨h1,h2⟩:=h;obtain⟨h3,h4⟩:=kU h2;refine⟨by simp[h3],λj g' hg=> ?_⟩;cases j with
  |zero=>
   simp only[zbA,za1] at hg;subst hg;left;split at h1
   ·rename_i B hB;split at h1
    ·rename_i J;obtain⟨h5,h6⟩:=Xg.1 h1;simp only[za2,zdw] at h5;exact⟨i,B,by simp,hB,J,zab h5.1,h5.2,h6⟩
    ·exact h1.elim
   ·exact h1.elim
  |succ j=>simpa using h4 j g' (by simpa using hg)
 |g::l,none::rs,h=>by
  obtain⟨h1,h2⟩:=h;obtain⟨h3,h4⟩:=kU h2;refine⟨by simp[h3],λj g' hg=> ?_⟩;cases j with
  |zero=>
   simp only[zbA,za1] at hg;subst hg;exact .inr ⟨by simp,h1⟩
  |succ j=>simpa using h4 j g' (by simpa using hg)
 | [],_::_,h=>h.elim
 |_::_, [],h=>h.elim
variable {l:zdW} {i:Nat}
theorem Wd:i∈ck l↔ ∃j:Nat,l[j]? =some (some i):=by
 induction l with
 |nil=>simp[ck]
 |cons o l V=>
  cases o with
  |some k=>
   simp only[ck,zai,V];constructor
   ·rintro(rfl|⟨j,J⟩)
    ·exact⟨0,by simp⟩
    ·exact⟨j+1,by simpa using J⟩
   ·rintro⟨j,J⟩;cases j with
    |zero=>simp at J;exact .inl J.symm
    |succ j=>exact .inr ⟨j,by simpa using J⟩
  |none=>
   simp only[ck,V];constructor
   ·rintro⟨j,J⟩;exact⟨j+1,by simpa using J⟩
   ·rintro⟨j,J⟩;cases j with
    |zero=>simp at J
    |succ j=>exact⟨j,by simpa using J⟩
theorem sK: ∀{l:zdW},uV (ck l)=true-> ∀{i:Nat} {j k:Nat},l[j]? =some (some i)->l[k]? =some (some i)->j=k
 | [],_,i,j,k,h,_=>by simp at h
 |o::l,J,i,j,k,Y,Z=>by
  have V:uV (ck l)=true:=by
   cases o with
   |some m=>simp only[ck,uV,za2] at J;exact J.2
   |none=>exact J
  have first: ∀{m:Nat},o=some i->l[m]? =some (some i)->False:=by
   intro m ho hm;subst ho;simp only[ck,uV,za2,zap] at J;have:(ck l).any (Nat.beq i)=true:=zaP.2 ⟨i,Wd.2 ⟨m,hm⟩,by rw[bS];simp⟩;rw[J.1] at this;cases this
  cases j with
  |zero=>
   cases k with
   |zero=>rfl
   |succ k=>exact(first (by simpa using Y) (by simpa using Z)).elim
  |succ j=>
   cases k with
   |zero=>exact(first (by simpa using Z) (by simpa using Y)).elim
   |succ k=>
    have:=sK V (i:=i) (j:=j) (k:=k) (by simpa using Y) (by simpa using Z);rw[this]
variable {A:AS} {N:Ann}
theorem sL {x:N.X} (h:i<A.nx):cX A N x i=rP (p7 (arD A.bl (killed A N)) x N.st) x N.bk i:=by
 simp only[cX,aB,zds h,zdu]
theorem od {x:N.X} {j:Nat}:cX A N x (A.nx+j)=grB x N.gr j:=by
 unfold cX;rw[aB,zdv (by omega: ¬A.nx+j<A.nx)];simp
theorem fI {x:N.X} (h:i<A.nx):A.bl i≠none↔cX A N x i≠none:=by
 rw[sL h];exact WB.trans (Ws.trans vn)
theorem ary {x:N.X} {C:Blk} (hi:i<A.nx) (h:cX A N x i=some C):
 ∃B,A.bl i=some B/\C.n=B.n/\C.sz=B.sz/\C.nn=B.nn/\(C.kd=B.kd\/(C.kd= .gone/\i∈killed A N))/\
  ((∃g D,(i,g)∈N.bk/\C.get=C.kd.sel (g x) D/\(D=B.get\/i∈N.st.map (·.1)))\/(i∉N.bk.map (·.1)/\ ∃g,(i,g)∈N.st/\C.get=λ_=>g x)\/(i∉N.bk.map (·.1)/\i∉N.st.map (·.1)/\C.get=B.get/\(i∉killed A N->C=B))):=by
 rw[sL hi] at h;have kl: ∀D,arD A.bl (killed A N) i=some D-> ∃B,A.bl i=some B/\D.n=B.n/\D.sz=B.sz/\D.nn=B.nn/\(D.kd=B.kd\/(D.kd= .gone/\i∈killed A N))/\D.get=B.get/\(i∉killed A N->D=B):=by
  intro D hD;rcases sI hD with ⟨h1,B,h2,rfl⟩|⟨h1,h2⟩
  ·exact⟨B,h2,rfl,rfl,rfl, .inr ⟨rfl,h1⟩,rfl,λh=>absurd h1 h⟩
  ·exact⟨D,h2,rfl,rfl,rfl, .inl rfl,rfl,λ_=>rfl⟩
 rcases mS h with ⟨g,D,h1,h2,rfl⟩|⟨h1,h2⟩
 ·rcases jZ h2 with ⟨g',E,k1,k2,rfl⟩|⟨k1,k2⟩
  ·obtain⟨B,J,V,Y,Z,a5,_⟩:=kl E k2;exact⟨B,J,V,Y,Z,a5, .inl ⟨g,_,h1,rfl, .inr (zaz.2 ⟨_,k1,rfl⟩)⟩⟩
  ·obtain⟨B,J,V,Y,Z,a5,a6,_⟩:=kl D k2;exact⟨B,J,V,Y,Z,a5, .inl ⟨g,_,h1,rfl, .inl a6⟩⟩
 ·rcases jZ h2 with ⟨g',E,k1,k2,rfl⟩|⟨k1,k2⟩
  ·obtain⟨B,J,V,Y,Z,a5,_⟩:=kl E k2;exact⟨B,J,V,Y,Z,a5, .inr (.inl ⟨h1,g',k1,rfl⟩)⟩
  ·obtain⟨B,J,V,Y,Z,a5,a6,a7⟩:=kl C k2;exact⟨B,J,V,Y,Z,a5, .inr (.inr ⟨h1,k1,a6,a7⟩)⟩
variable {β:zdM} {a:Act} {w:World}
theorem Ci (hnx:NX A.bl A.nx) (hlive: ∀(id:Nat) (B:Blk) (e o:Nat) (s:SV),A.bl id=some B->B.kd≠ .gone->e<B.n->(B.get e)[o]? =some s->Live A.bl s)
 (hml: ∀(id:Nat) (B:Blk) (e:Nat) (s:SV),A.bl id=some B->B.kd.lst=true->s∈B.get e->Live A.bl s)
 (N:Ann) (x:N.X) (first:Bool) {A':AS} (Z:Is W0 A' β a w) (hnt:A'.nt=A.nt)
 (hfirst:first=true->A'=A)
 (hkeep: ∀i B,A.bl i=some B-> ∃B',A'.bl i=some B'/\B'.n=B.n/\(B'.sz=B.sz/\B'.nn=B.nn)/\(B'.kd=B.kd\/B'.kd= .gone)/\(i∉N.ids A->B'=B)) (hnew: ∀i,i<A.nx->A.bl i=none->A'.bl i=none)
 (hm:B8 first A A' N x): ∃γ,Is {W0 with sd:=QI A N x} (rQ A N x) γ a w/\(∀i,i<A.nx->γ i=β i)/\(A.sd.2=none\/ ∃i t j,A.sd.2=some (i,t)/\A'.sd.2=some (i,N.sb x)/\j=A'.sd.1/\bdE A.sd.1 j=true):=by
 unfold B8 at hm;split at hm
 ·exact hm.elim
 ·rename_i rs hrs;obtain⟨hd,hmd⟩:=Xg.1 hm;have hside:((A.sd.2=none\/ ∃i t j,A.sd.2=some (i,t)/\A'.sd.2=some (i,N.sb x)/\j=A'.sd.1/\bdE A.sd.1 j=true))/\(Gn A.nx rs A' (N.all A x)/\Gp A A' x N.bk/\Gq A.nx rs A' x N.st/\B7 A' x N.gr rs):=by
   unfold aiD at hmd;split at hmd
   ·rename_i h1 h2;exact⟨.inl h1,hmd⟩
   ·rename_i i t j t' h1 h2;obtain⟨h3,h4,h5⟩:=Xg.1 hmd;simp only[za2,bS,zdw] at h3;obtain⟨rfl,h3⟩:=h3;exact⟨.inr ⟨i,t,_,h1,by rw[h2,h4],rfl,h3⟩,h5⟩
   ·exact hmd.elim
  obtain⟨hside,ht,hb,hc,hg⟩:=hside;simp only[za2] at hd;obtain⟨⟨hdup,hold⟩,hdf⟩:=hd;have hdf:A'.df= []:=by
   split at hdf
   ·assumption
   ·cases hdf
  obtain⟨hlen,hgr⟩:=kU hg
  let sz:Nat->Nat:=λj=>match N.gr[j]? with
   |some g=>g.sz
   |none=>0
  have ldom: ∀i,i<A.nx->A'.bl i≠none->cX A N x i≠none:=λi hi h=>(fI hi).1 λh0=>h (hnew i hi h0);have lold: ∀i,i<A.nx->A.bl i≠none->cX A N x i≠none:=λi hi h=>(fI hi).1 h;have lnew: ∀j,j<rs.length->cX A N x (A.nx+j)≠none:=λj hj=>by rw[od];exact Wm.2 (by omega)
  have key: ∀i C,cX A N x i=some C->C.kd≠ .gone->(i<A.nx/\ ∃B',A'.bl i=some B'/\B'.kd=C.kd/\B'.n=C.n/\B'.sz=C.sz/\B'.nn=C.nn/\i∉killed A N/\
   ((∀e,e<C.n->B'.get e=C.get e/\ ∀s∈C.get e,∀J∈s.ids,J<A.nx/\cX A N x J≠none)\/(C.n=1/\SV.rens A.nx rs (C.get 0)=some (B'.get 0))))\/
   (∃j g,i=A.nx+j/\N.gr[j]? =some g/\C={n:=g.n x,sz:=g.sz,get:=g.get x,kd:= .own,nn:=false}):=by
   intro i C hC hgn;rcases zah i A.nx with hi|hi
   ·left;refine⟨hi, ?_⟩;obtain⟨B,b1,b2,b3,b4,b5,b6⟩:=ary hi hC;have hkd:C.kd=B.kd:=by
     rcases b5 with b5|b5
     ·exact b5
     ·exact absurd b5.1 hgn
    have hnk:i∉killed A N:=by
     intro Y;rw[sL hi] at hC;have g1: ∀D,arD A.bl (killed A N) i=some D->D.kd= .gone:=by
      intro D hD;rcases sI hD with ⟨_,E,_,rfl⟩|⟨h1,_⟩
      ·rfl
      ·exact absurd Y h1
     have g2: ∀D,p7 (arD A.bl (killed A N)) x N.st i=some D->D.kd= .gone:=by
      intro D hD;rcases jZ hD with ⟨_,E,_,h2,rfl⟩|⟨_,h2⟩
      ·exact g1 E h2
      ·exact g1 D h2
     rcases mS hC with ⟨_,E,_,h2,rfl⟩|⟨_,h2⟩
     ·exact hgn (g2 E h2)
     ·exact hgn (g2 C h2)
    obtain⟨B',k1,k2,⟨k3,k3'⟩,k4,k5⟩:=hkeep i B b1;rcases b6 with ⟨g,D,h1,h2,_⟩|⟨h0,g,h1,h2⟩|⟨h0,h1,h2,h3⟩
    ·obtain⟨B'',m1,m2,m3⟩:=pm hb (i,g) h1;simp only[] at m1 m3;rw[k1] at m1;obtain rfl:B'=B'':=by simpa using m1
     have hkd':B'.kd=B.kd:=by
      rcases k4 with k4|k4
      ·exact k4
      ·exact absurd k4 m2
     have m3: ∀e,e<B'.n->B'.get e=g x e/\C.get=g x:=by
      intro e he;rcases m3 with ⟨mm,_⟩|⟨mm,_,_⟩|⟨mm,m3⟩
      ·have:=(Z.bc.maps.ok i B' k1 (by rw[mm];rfl)).1;omega
      ·have:=(Z.bc.maps.ok i B' k1 mm).1;omega
      ·refine⟨m3 e he, ?_⟩;rw[h2,hkd,<-hkd'];cases Y:B'.kd<;>first|rfl|(rw[Y] at mm;cases mm)
     refine⟨B',k1,by rw[hkd',hkd],by rw[k2,b2],by rw[k3,b3],by rw[k3',b4],hnk, .inl λe he=>⟨by have:=m3 e (by rw[k2,<-b2];exact he);rw[this.2];exact this.1,λs Z J V=> ?_⟩⟩;have hcl:=N.clean (i,g) h1 x e;have:J∈SV.idss (g x e):=SV.mem_idss.2 ⟨s,by rw[(m3 e (by rw[k2,<-b2];exact he)).2] at Z;exact Z,V⟩;rw[show SV.idss (g x e)= [] from hcl] at this;cases this
    ·obtain⟨B'',cs,m1,m2,m3,m4,m5⟩:=pn hc (i,g) h1;simp only[] at m1 m2;rw[k1] at m1;obtain rfl:B'=B'':=by simpa using m1
     have hkd':B'.kd=B.kd:=by
      rcases k4 with k4|k4
      ·exact k4
      ·exact absurd k4 m3
     exact⟨B',k1,by rw[hkd',hkd],by rw[k2,b2],by rw[k3,b3],by rw[k3',b4],hnk, .inr ⟨by rw[b2,<-k2,m4],by rw[h2,m5];exact m2⟩⟩
    ·have hni:i∉N.ids A:=by
      unfold Ann.ids;simp only[za8,not_or];exact⟨⟨h0,h1⟩,hnk⟩
     have:=k5 hni;subst this;have hCB:=h3 hnk;subst hCB;refine⟨C,k1,rfl,rfl,rfl,rfl,hnk, .inl λe he=>⟨rfl,λs Z J V=> ?_⟩⟩;obtain⟨o,ho,e1⟩:=zbR Z;have hl:=hlive i C e o s b1 hgn he (by rw[zaa ho,e1]) J V;rcases zah J A.nx with h'|h'
     ·exact⟨h',lold J h' hl⟩
     ·exact absurd (hnx J h') hl
   ·right;obtain⟨j,rfl⟩:=zd9 hi;rw[od] at hC;obtain⟨g,h1,h2⟩:=yo hC;exact⟨j,g,rfl,h1,h2⟩
  have keyM: ∀i C,cX A N x i=some C->C.kd.map=true->i<A.nx/\ ∃B',A'.bl i=some B'/\B'.kd=C.kd/\B'.n=C.n/\GetEq C.kd B'.get C.get/\(C.kd.lst=true-> ∀e s,s∈C.get e->s.ids= []\/ ∃B e',A.bl i=some B/\B.kd.lst=true/\s∈B.get e'):=by
   intro i C hC hm;have hgn:C.kd≠ .gone:=by intro e;rw[e] at hm;cases hm
   rcases key i C hC hgn with ⟨hi,B',k1,k2,k3,_,_,hnk,_⟩|⟨j,g,rfl,hj,rfl⟩
   ·refine⟨hi,B',k1,k2,k3, ?_⟩;obtain⟨B,b1,b2,b3,b4,b5,b6⟩:=ary hi hC;have hkB:B'.kd.map=true:=by rw[k2];exact hm
    have hn0:=(Z.bc.maps.ok i B' k1 hkB).1;rcases b6 with ⟨g,D,h1,h2,hD⟩|⟨h0,g,h1,h2⟩|⟨h0,h1,h2,h3⟩
    ·obtain⟨B'',m1,m2,m3⟩:=pm hb (i,g) h1;simp only[] at m1 m3;rw[k1] at m1;obtain rfl:B'=B'':=by simpa using m1
     rcases m3 with ⟨mk,B0,m4,m5⟩|⟨_,ml,mg⟩|⟨mm,_⟩
     ·rw[b1] at m4;obtain rfl:B=B0:=by simpa using m4
      have hD:D=B.get:=by
       rcases hD with hD|hD
       ·exact hD
       ·obtain⟨⟨i2,g2⟩,hg2,rfl⟩:=zaz.1 hD;obtain⟨B3,cs,l1,_,_,l4,_⟩:=pn hc (i2,g2) hg2;simp only[] at l1;rw[k1] at l1;obtain rfl:B'=B3:=by simpa using l1
        omega
      have hCk:C.kd= .itL:=by rw[<-k2];exact mk
      have hCg:C.get=abr (g x) B.get:=by rw[h2,hCk,hD];rfl
      have hBk:B.kd.lst=true:=by
       rcases b5 with b5|b5
       ·rw[<-b5,hCk];rfl
       ·rw[b5.1] at hCk;cases hCk
      rw[hCk,hCg];refine⟨⟨m5, .inl rfl⟩,λ_ e s hs'=> ?_⟩;cases e with
      |zero=>cases hs'
      |succ e=>
       replace hs':s∈onB (su (g x (e+1))) (B.get (e+1)):=hs';cases hr:B.get (e+1) with
       |nil=>rw[hr] at hs';cases hs'
       |cons y r=>
        rw[hr] at hs';rcases zai.1 hs' with rfl|hs'
        ·exact .inl rfl
        ·exact .inr ⟨B,e+1,b1,hBk,by rw[hr];exact zan _ hs'⟩
     ·have hsel:C.get=g x:=by
       rw[h2,<-k2];cases Y:B'.kd<;>first|rfl|(rw[Y] at ml;cases ml)
      rw[<-k2,hsel];exact⟨mg,λe=>(by rw[ml] at e;cases e)⟩
     ·rw[hkB] at mm;cases mm
    ·obtain⟨B'',cs,m1,m2,m3,m4,m5⟩:=pn hc (i,g) h1;simp only[] at m1;rw[k1] at m1;obtain rfl:B'=B'':=by simpa using m1
     omega
    ·have hni:i∉N.ids A:=by
      unfold Ann.ids;simp only[za8,not_or];exact⟨⟨h0,h1⟩,hnk⟩
     obtain⟨B'',l1,_,_,_,l5⟩:=hkeep i B b1;rw[k1] at l1;obtain rfl:B'=B'':=by simpa using l1
     have e1:=l5 hni;have e2:=h3 hnk;subst e1;subst e2;exact⟨GetEq.refl _ _,λY e s hs'=> .inr ⟨_,e,b1,Y,hs'⟩⟩
   ·cases hm
  have liveM: ∀i C e s,cX A N x i=some C->C.kd.lst=true->s∈C.get e->(∀J∈s.ids,J<A.nx)/\Live (cX A N x) s:=by
   intro i C e s hC Y hse;obtain⟨_,B',_,_,_,_,h6⟩:=keyM i C hC (BK.lst_map Y);have hl:Live A.bl s:=by
    rcases h6 Y e s hse with h0|⟨B,e',q1,q2,q3⟩
    ·intro J V;rw[h0] at V;cases V
    ·exact hml i B e' s q1 q2 q3
   have lt: ∀J∈s.ids,J<A.nx:=λJ V=>by
    rcases zah J A.nx with h|h
    ·exact h
    ·exact absurd (hnx J h) (hl J V)
   exact⟨lt,λJ V=>lold J (lt J V) (hl J V)⟩
  have live_ren: ∀(s r:SV),s.ren A.nx rs=some r->Live A'.bl r->Live (cX A N x) s:=by
   intro s r hr hl i hi;rcases(sJ (sz:=sz) (β:=β) hr).2 i hi with ⟨h1,h2⟩|⟨h1,h2⟩
   ·exact ldom i h1 (hl i h2)
   ·have:=lnew (i - A.nx) h2;rwa[show A.nx+(i - A.nx)=i by omega] at this
  have hsz: ∀j g,N.gr[j]? =some g->sz j=g.sz:=λj g hj=>by simp only[sz,hj]
  have noold: ∀i,i<A.nx->i∉killed A N->i∉ck rs:=by
   intro i hi Y hmem;simp only[zav] at hold;rcases hold with hold|hold
   ·have:=hfirst hold;subst this;apply Y;unfold killed;rw[hrs];exact hmem
   ·have:=zak (zaf.1 hold i hmem);omega
  have hmaps:MapsOK W0 (cX A N x) (mh A.nx rs sz β) w:=by
   refine⟨λi C hC hm=> ?_,λi j C D hC hD hm hm' he=> ?_,λi C e s hC Y hse=>(liveM i C e s hC Y hse).2,λi C hC Y=> ?_⟩
   ·obtain⟨hi,B',k1,k2,k3,k4,_⟩:=keyM i C hC hm;obtain⟨a1,a2,a3,a4⟩:=Z.bc.maps.ok i B' k1 (by rw[k2];exact hm);rw[k2] at a4;rw[bA hi]
    exact⟨by omega,a2,a3,a4.to rfl k4 (λ_ _ _ _ _=>rfl) λY e s hse=>
     SV.conc_congr s λJ V=>bA ((liveM i C e s hC Y hse).1 J V)⟩
   ·obtain⟨hi,B',k1,k2,_⟩:=keyM i C hC hm;obtain⟨hj,D',l1,l2,_⟩:=keyM j D hD hm';rw[bA hi,bA hj] at he;exact Z.bc.maps.inj i j B' D' k1 l1 (by rw[k2];exact hm) (by rw[l2];exact hm') he
   ·obtain⟨hi,B',k1,k2,_⟩:=keyM i C hC (BK.it_map Y);rw[bA hi];exact Z.bc.maps.off i B' k1 (by rw[k2];exact Y)
  refine⟨mh A.nx rs sz β,⟨⟨⟨by rw[Z.fr.defers.1,hdf];rfl,λ_ h=>by cases h⟩,by rw[Z.fr.size,hnt];rfl, ?_, ?_, ?_⟩,BC.rebase (B:=W0) ⟨Z.bc.below, ?_, ?_, ?_, ?_, ?_,hmaps⟩ ⟨Z.bc.below.os,Z.bc.below.tape,Z.bc.below.output,Z.bc.below.size,Z.bc.below.block⟩ (λ_ _ _ _ _ h=>h) (λ_ _ _ _ _ h=>h), ?_,rfl⟩,λi hi=>bA hi,hside⟩
  ·intro t s h;obtain⟨r,h1,h2⟩:=aaJ ht (t,s) (D3 h);obtain⟨k1,k2⟩:=Z.fr.v t r h2;exact⟨k1.trans (sJ h1).1,live_ren s r h1 k2⟩
  ·intro t u b s h;exact(aur h).elim
  ·intro t u b s h;exact(aur h).elim
  ·intro i C hC hgn;rcases key i C hC hgn with ⟨hi,B',k1,k2,k3,k4,k5,_,k6⟩|⟨j,g,rfl,hj,rfl⟩
   ·have q:=Z.bc.blk i B' k1 (by rw[k2];exact hgn);refine⟨by rw[bA hi,q.sz,k4],by rw[bA hi];exact q.lt,by rw[bA hi,<-k3];exact q.le, ?_,by rw[bA hi,<-k4];exact q.ex, ?_, ?_,by rw[bA hi];exact q.nil,by rw[bA hi,<-k5];exact q.nn⟩
    ·intro e he;rcases k6 with k6|⟨c1,c2⟩
     ·rw[<-(k6 e he).1,q.len e (by rw[k3];exact he),k4]
     ·obtain rfl:e=0:=by omega
      have hl:=q.len 0 (by rw[k3];exact he);rw[<-k4,<-hl];have:=congrArg List.length (rens_conc (sz:=sz) (β:=β) c2).1;rw[SV.concs_eq,SV.concs_eq,zaB,zaB] at this;exact this.symm
    ·intro Y j hj;rw[bA hi];rw[bA hi,<-k4] at hj;exact q.fr (by rw[k2];exact Y) j hj
    ·intro e he o s h;have haddr:addr (mh A.nx rs sz β) i e o=addr β i e o:=by unfold addr;rw[bA hi]
     rw[haddr];rcases k6 with k6|⟨c1,c2⟩
     ·obtain⟨g1,g2⟩:=k6 e he;rw[SV.conc_congr s (β:=β) (β':=mh A.nx rs sz β) λJ V=>bA (g2 s (zal h) J V).1];exact q.val e (by rw[k3];exact he) o s (by rw[g1];exact h)
     ·obtain rfl:e=0:=by omega
      have hget:=congrArg (λl:zdO=>l[o]?) (rens_conc (sz:=sz) (β:=β) c2).1;simp only[SV.concs_eq,zaL,h,zb0] at hget;cases hco:(B'.get 0)[o]? with
      |none=>rw[hco] at hget;cases hget
      |some r=>
       rw[hco] at hget;simp only[zb0,za1] at hget;rw[<-hget];exact q.val 0 (by rw[k3];exact he) o r hco
   ·rcases hgr j g hj with ⟨J,B',g1,g2,g3,g4,g5,g6⟩|⟨g1,g2⟩
    ·have q:=Z.bc.blk J B' g2 (by rw[g3];simp);have e1:=fG (b:=A.nx) (sz:=sz) (β:=β) g1;refine⟨by rw[e1,q.sz,g4],by rw[e1];exact q.lt,by rw[e1];exact zac g5 q.le,λe he=>by show (g.get x e).length=g.sz;rw[<-g6 e he,q.len e (zam he g5),g4],by rw[e1];simp only[<-g4];exact q.ex,λ_=>by rw[e1];simp only[<-g4];exact q.fr g3, ?_,by rw[e1];exact q.nil,λh=>by cases h⟩;intro e he o s h;have haddr:addr (mh A.nx rs sz β) (A.nx+j) e o=addr β J e o:=by unfold addr;rw[e1]
     rw[haddr];have hcl:=N.cleanG g (zal hj) x e
     rw[SV.conc_congr s (β:=β) (β':=mh A.nx rs sz β) λk Y=>by
      have:k∈SV.idss (g.get x e):=SV.mem_idss.2 ⟨s,zal h,Y⟩
      rw[hcl] at this;cases this]
     exact q.val e (by simp at he;omega) o s (by rw[g6 e he];exact h)
    ·have e1:=fH (b:=A.nx) (sz:=sz) (β:=β) g1;have e2:(mh A.nx rs sz β (A.nx+j)).nil=true:=by rw[e1]
     have e3:(mh A.nx rs sz β (A.nx+j)).cap=0:=by rw[e1]
     refine⟨by rw[e1];exact hsz j g hj,λh=>absurd (e2.symm.trans h) (by decide), ?_, ?_, ?_, ?_, ?_,λ_=>e3,λh=>nomatch h⟩
     ·simp[g2]
     ·intro e he;simp[g2] at he
     ·intro k Y;rw[e3] at Y;omega
     ·intro _ k Y;rw[e3] at Y;omega
     ·intro e he;simp[g2] at he
  ·intro i C hC Y hn;rcases key i C hC (by rw[Y];simp) with ⟨hi,B',k1,k2,_⟩|⟨j,g,rfl,hj,rfl⟩
   ·rw[bA hi] at hn ⊢;exact Z.bc.own i B' k1 (by rw[k2];exact Y) hn
   ·rcases hgr j g hj with ⟨J,B',g1,g2,g3,_⟩|⟨g1,_⟩
    ·rw[fG g1] at hn ⊢;exact Z.bc.own J B' g2 g3 hn
    ·rw[fH g1] at hn;cases hn
  ·intro i C hC Y hn;rcases key i C hC (by rw[Y];simp) with ⟨hi,B',k1,k2,_⟩|⟨j,g,rfl,hj,rfl⟩
   ·rw[bA hi] at hn ⊢;exact Z.bc.old i B' k1 (by rw[k2];exact Y) hn
   ·cases Y
  ·intro i k C D hC hD hkC hkD hn hn' heq;rcases key i C hC (by rw[hkC];simp) with ⟨hi,B',k1,k2,_,_,_,k6,_⟩|⟨j,g,rfl,hj,rfl⟩<;>rcases key k D hD (by rw[hkD];simp) with ⟨Y,D',l1,l2,_,_,_,l6,_⟩|⟨j',g',rfl,hj',rfl⟩
   ·rw[bA hi] at hn heq;rw[bA Y] at hn' heq;exact Z.bc.inj i k B' D' k1 l1 (by rw[k2];exact hkC) (by rw[l2];exact hkD) hn hn' heq
   ·rcases hgr j' g' hj' with ⟨J,D',g1,g2,g3,_⟩|⟨g1,_⟩
    ·rw[bA hi] at hn heq;rw[fG g1] at hn' heq;have:=Z.bc.inj i J B' D' k1 g2 (by rw[k2];exact hkC) g3 hn hn' heq;subst this;exact absurd (Wd.2 ⟨j',g1⟩) (noold i hi k6)
    ·rw[fH g1] at hn';cases hn'
   ·rcases hgr j g hj with ⟨J,D2,g1,g2,g3,_⟩|⟨g1,_⟩
    ·rw[bA Y] at hn' heq;rw[fG g1] at hn heq;have:=Z.bc.inj J k D2 D' g2 l1 g3 (by rw[l2];exact hkD) hn hn' heq;subst this;exact absurd (Wd.2 ⟨j,g1⟩) (noold J Y l6)
    ·rw[fH g1] at hn;cases hn
   ·rcases hgr j g hj with ⟨i1,D1,g1,g2,g3,_⟩|⟨g1,_⟩
    ·rcases hgr j' g' hj' with ⟨i2,D2,f1,f2,f3,_⟩|⟨f1,_⟩
     ·rw[fG g1] at hn heq;rw[fG f1] at hn' heq;have:=Z.bc.inj i1 i2 D1 D2 g2 f2 g3 f3 hn hn' heq;subst this;rw[sK hdup g1 f1]
     ·rw[fH f1] at hn';cases hn'
    ·rw[fH g1] at hn;cases hn
  ·intro i C e o s hC hgn he h;rcases key i C hC hgn with ⟨hi,B',k1,k2,k3,k4,k5,_,k6⟩|⟨j,g,rfl,hj,rfl⟩
   ·rcases k6 with k6|⟨c1,c2⟩
    ·exact λJ V=>((k6 e he).2 s (zal h) J V).2
    ·obtain rfl:e=0:=by omega
     intro J V;rcases(rens_conc (sz:=sz) (β:=β) c2).2 J (SV.mem_idss.2 ⟨s,zal h,V⟩) with ⟨h1,h2⟩|⟨h1,h2⟩
     ·obtain⟨y,hy,hiy⟩:=SV.mem_idss.1 h2;obtain⟨q,hq,e1⟩:=zbR hy;exact ldom J h1 (Z.bc.live i B' 0 q y k1 (by rw[k2];exact hgn) (by omega) (by rw[zaa hq,e1]) J hiy)
     ·have:=lnew (J - A.nx) h2;rwa[show A.nx+(J - A.nx)=J by omega] at this
   ·intro J V;have hcl:=N.cleanG g (zal hj) x e;have:J∈SV.idss (g.get x e):=SV.mem_idss.2 ⟨s,zal h,V⟩;rw[hcl] at this;cases this
  ·intro i hi;have V:A.nx+N.gr.length<=i:=hi;obtain⟨j,rfl⟩:=zd9 (show A.nx<=i by omega);show cX A N x (A.nx+j)=none;rw[od];cases hgb:grB x N.gr j with
   |none=>rfl
   |some C=>have:=Wm.1 (by rw[hgb];simp:grB x N.gr j≠none);omega
theorem Ar {nx:Nat} {wl ids:zdL} (h:Gs nx wl ids=true) (hi:i∈wl) (Y:i<nx):i∈ids:=by
 unfold Gs at h;simp only[zaf,zav] at h;rcases h i hi with h|h
 ·have:=zak h;omega
 ·simp only[zaP] at h;obtain⟨j,V,J⟩:=h;rw[zab J];exact V
def As (P:Program) (W0:Base) (c:Code) (body:(Exit->zdV)->zdV):Prop:=
 ∀(K:Exit->zdV) (A:AS) (β:zdM) (a:Act) (w:World),body K A->IsX P W0 A β a w->c.wp P (Post P W0 A β K) a w
theorem IsX.frame (h:IsX P W0 A β a w) (wl:zdL):IsX P W0 {A with wl:=wl} β a w:=by
 obtain⟨B,h1,h2,h3,h4⟩:=h;exact⟨B,h1,h2,⟨h3.fr.frame _ _,h3.bc,h3.nx,h3.sd⟩,h4⟩
theorem IsX.endG (h:IsX P W0 A β a w):IsX P W0 (endG A) β a w:=by
 obtain⟨B,h1,h2,h3,h4⟩:=h;exact⟨B,h1,h2,⟨apL h3.fr,h3.bc,h3.nx,h3.sd⟩,h4⟩
theorem adZ: ∀{l:zdN} {o:Nat} {s:SV},l[o]? =some s->gZ l o [s]=l:=by
 intro l o s h;have Y:o<l.length:=by
  rcases zah o l.length with J|J
  ·exact J
  ·rw[zad J] at h;cases h
 apply List.ext_getElem?;intro j;rw[jR (show o+ [s].length<=l.length from Y)];split
 ·rename_i V;obtain rfl:j=o:=by simp at V;omega
  rw[h];simp
 ·rfl
theorem ach {K:zdV}: ∀{l:List (Nat×Nat×Nat×SV)} {A:AS},aes l A K->K A/\ ∀K':zdV,K' A->aes l A K'
 | [],A,h=>⟨h,λK' V=>V⟩
 |(i,e,o,s)::r,A,h=>by
  simp only[aes] at h ⊢;split at h
  ·rename_i B hB;obtain⟨h1,h2⟩:=h;have hp:B.put e o [s]=B:=by
    have:(B.put e o [s]).get=B.get:=by
     funext j
     rw[Blk.put_get];split
     ·rename_i J;subst J;exact adZ h1
     ·rfl
    show ({B with get:=(B.put e o [s]).get}:Blk)=B;rw[this]
   have Y:({A with bl:=upd A.bl i (B.put e o [s])}:AS)=A:=by
    have:upd A.bl i (B.put e o [s])=A.bl:=by
     funext j
     by_cases J:j=i
     ·subst J;rw[az,hp,hB]
     ·rw[ak J]
    rw[this]
   rw[Y] at h2;obtain⟨k1,k2⟩:=ach h2;refine⟨k1,λK' V=> ?_⟩;rw[Y];exact⟨h1,k2 K' V⟩
  ·exact h.elim
theorem ad0 {K:zdV} {l:List (Nat×Nat×Nat×SV)} (h:aes l A K):K A:=(ach h).1
variable {K:Exit->zdV}
theorem yp {c:Code} {body:(Exit->zdV)->zdV} (hb:As P W0 c body) 
 (h:MV body N K A) (hx:IsX P W0 A β a w):(Code.loop c).wp P (Post P W0 A β K) a w:=by
 obtain⟨x0,h1,h2,h4⟩:=h;have h4:=rO h4;obtain⟨B0,hsub0,hout0,hs,hside0⟩:=hx;have toX: ∀{B:Base} {A':AS} {β' γ:zdM} {x:N.X} {a':Act} {w':World},SubB B W0->(∀b,B.out b->W0.out b)->SideOK P W0 B A' β'->Is {B with sd:=QI A N x} (rQ A N x) γ a' w'->(∀i,i<A.nx->γ i=β' i)->(∀i,A.bl i≠none->A'.bl i≠none)->
  (A.sd.2=none\/ ∃i t j,A.sd.2=some (i,t)/\A'.sd.2=some (i,N.sb x)/\j=A'.sd.1/\bdE A.sd.1 j=true)->IsX P W0 (rQ A N x) γ a' w':=by
  intro B A' β' γ x a' w' hsub hout hside his hγ hdom' hor;refine⟨{B with sd:=QI A N x},hsub,hout,his,λi t hi=> ?_⟩;have hi:(QI A N x).2=some (i,t):=hi;rcases hor with V|⟨i0,t0,j,e1,e2,e3,e4⟩
  ·have:QI A N x=A.sd:=by unfold QI;rw[V]
   rw[this,V] at hi;cases hi
  ·have e5:QI A N x=(A.sd.1,some (i0,N.sb x)):=by unfold QI;rw[e1]
   rw[e5] at hi;simp only[za1,zag] at hi;obtain⟨rfl,rfl⟩:=hi;obtain⟨k1,d,at',b,g,k2,k3,Z⟩:=hside i0 _ e2;obtain⟨l1,_⟩:=hside0 i0 _ e1;have hlt:i0<A.nx:=by
    rcases zah i0 A.nx with h|h
    ·exact h
    ·exact absurd (hs.nx i0 h) l1
   have hd:A.sd.1=some d:=by
    rw[e3,k2] at e4;unfold bdE at e4;split at e4
    ·rename_i d1 d2 q1 q2;simp only[za1] at q2;subst q2;simp only[za2,bS,zdw] at e4;rw[q1];obtain⟨a1,a2,a3⟩:=d1;obtain⟨b1,b2,b3⟩:=d;simp only at e4;obtain⟨⟨rfl,rfl⟩,rfl⟩:=e4;rfl
    ·cases e4
   refine⟨?_,d,at',b,g, ?_,k3, ?_⟩
   ·show cX A N x i0≠none;exact(fI hlt).1 l1
   ·show (QI A N x).1=some d;rw[e5];exact hd
   ·rw[hγ i0 hlt];exact Z
 have hdom: ∀{i:Nat} {B:Blk},A.bl i=some B->i<A.nx:=λ{i B} hB=>by
  rcases zah i A.nx with h|h
  ·exact h
  ·rw[hs.nx i h] at hB;cases hB
 have key: ∀(m:Nat) (x:N.X) (a:Act) (w:World) (γ:zdM),N.mu x<m->N.inv x->IsX P W0 (rQ A N x) γ a w->(∀i,i<A.nx->A.bl i≠none->γ i=β i)->
  Code.rounds P c (Post P W0 A β K) m a w:=by
  intro m
  induction m with
  |zero=>intro x a w γ hm;omega
  |succ m ih=>
   intro x a w γ hm hx his hγ;rw[rounds_succ];refine Code.wp_mono ?_ (hb _ _ γ a w (h4 x hx) his);rintro e a' w' ⟨A',γ',hk,his',ht⟩;have Y: ∀i B,A.bl i=some B-> ∃B',A'.bl i=some B'/\B'.n=B.n/\(B'.sz=B.sz/\B'.nn=B.nn)/\(B'.kd=B.kd\/B'.kd= .gone)/\(i∉N.ids A->i∉A'.wl->B'=B):=by
    intro i B hB;have hi:=hdom hB;have hd:cX A N x i≠none:=(fI hi).1 (by rw[hB];simp);cases hC:cX A N x i with
    |none=>exact absurd hC hd
    |some C=>
     obtain⟨B',k1,k2,⟨k3,k3'⟩,Z,k5⟩:=ht.tr.keep i C hC;obtain⟨B0,b1,b2,b3,b4,b5,b6⟩:=ary hi hC;rw[hB] at b1;obtain rfl:B=B0:=by simpa using b1
     refine⟨B',k1,by rw[k2,b2],⟨by rw[k3,b3],by rw[k3',b4]⟩, ?_,λV hw=> ?_⟩
     ·rcases Z with Z|Z
      ·rcases b5 with b5|b5
       ·exact .inl (Z.trans b5)
       ·exact .inr (Z.trans b5.1)
      ·exact .inr Z
     ·unfold Ann.ids at V;simp only[za8,not_or] at V;rcases b6 with ⟨g,_,h1,_,_⟩|⟨_,g,h1,_⟩|⟨_,_,_,h3⟩
      ·exact absurd (zaz.2 ⟨_,h1,rfl⟩) V.1.1
      ·exact absurd (zaz.2 ⟨_,h1,rfl⟩) V.1.2
      ·rw[k5 hw,h3 V.2]
   have hnew: ∀i,i<A.nx->A.bl i=none->A'.bl i=none:=λi hi h0=>ht.tr.new i (show i<A.nx+N.gr.length by omega) (by
    cases hC:cX A N x i with
    |none=>exact hC
    |some C=>exact absurd h0 ((fI hi).2 (by rw[hC];simp)))
   have hsame: ∀i,i<A.nx->A.bl i≠none->γ' i=β i:=λi V hi=>(ht.tr.same i ((fI V).1 hi)).trans (hγ i V hi);have J: ∀e,e≠ .normal->aes N.fix {A' with wl:=N.ids A++A'.wl++A.wl} (K e)->Post P W0 A β K e a' w':=λe _ hk=>by
    have hk:=ad0 hk;refine⟨_,γ',hk,his'.frame _,⟨⟨?_,λi hi=> ?_,hnew⟩,λi hi=>by simp[hi],zac (zda _ _) ht.nx,ht.nt⟩⟩
    ·intro i B hB;obtain⟨B',k1,k2,k3,Z,k5⟩:=Y i B hB;refine⟨B',k1,k2,k3,Z,λhi=> ?_⟩;simp only[za8,not_or] at hi;exact k5 hi.1.1 hi.1.2
    ·cases hB:A.bl i with
     |none=>exact absurd hB hi
     |some B=>exact hsame i (hdom hB) hi
   cases e with
   |normal=>
    obtain⟨g6,x',g1,g2,g3⟩:=Xg.1 hk;obtain⟨B1,hsub1,hout1,his1,hside1⟩:=his'
    obtain⟨δ,d1,d2,d3⟩:=Ci hs.nx hs.bc.live hs.bc.maps.live N x' false his1 ht.nt (λh=>by cases h) (λi B hB=>by
     obtain⟨B',k1,k2,k3,Z,k5⟩:=Y i B hB
     exact⟨B',k1,k2,k3,Z,λV=>k5 V λhw=>V (Ar g6 hw (hdom hB))⟩) hnew g3
    refine ih x' a' w' δ (by omega) g1 (toX hsub1 hout1 hside1 d1 d2 (λi hi=> ?_) d3) λi V hi=>(d2 i V).trans (hsame i V hi);cases hB:A.bl i with
    |none=>exact absurd hB hi
    |some B=>obtain⟨B',k1,_⟩:=Y i B hB;rw[k1];simp
   |exit id=>exact J _ (by simp) hk
   |goto l=>exact J _ (by simp) hk
   |ret=>exact J _ (by simp) hk
   |panic ch=>exact J _ (by simp) hk
   |outgrown=>exact J _ (by simp) hk
 obtain⟨δ,d1,d2,d3⟩:=Ci hs.nx hs.bc.live hs.bc.maps.live N x0 true hs rfl (λ_=>rfl) (λi B hB=>⟨B,hB,rfl,⟨rfl,rfl⟩, .inl rfl,λ_=>rfl⟩) (λ_ _ h=>h) h2;exact wp_loop_rounds (N.mu x0+1) (key _ x0 a w δ (by omega) h1 (toX hsub0 hout0 hside0 d1 d2 (λi hi=>hi) d3) (λi hi _=>d2 i hi))
theorem oe {c:Code} {body:(Exit->zdV)->zdV} (hb:As P W0 c body) {K:Exit->zdV} {A0:AS} {β0:zdM}: ∀(n:Nat) (A:AS) (β:zdM) (a:Act) (w:World),
 mK body n K A->IsX P W0 A β a w->Trs A0 β0 A β->Code.rounds P c (Post P W0 A0 β0 K) n a w
 |0,A,β,a,w,h,_,_=>by simp[mK] at h
 |n+1,A,β,a,w,h,hs,Z=>by
  simp only[mK] at h;rw[rounds_succ];refine Code.wp_mono ?_ (hb _ A β a w h hs);rintro e a' w' ⟨A',β',Y,J,V⟩;cases e with
  |normal=>exact oe hb n A' β' a' w' Y J (Z.trans V)
  |exit id=>exact⟨A',β',Y,J,Z.trans V⟩
  |goto l=>exact⟨A',β',Y,J,Z.trans V⟩
  |ret=>exact⟨A',β',Y,J,Z.trans V⟩
  |panic ch=>exact⟨A',β',Y,J,Z.trans V⟩
  |outgrown=>exact⟨A',β',Y,J,Z.trans V⟩
theorem eV {Γ:zdR} (hΓ:GamOK P W0 Γ) (hmx:P.follows .mixedOrders=true) {inl:Inl} (hinl: ∀B,SubB B W0->kn P B inl) (Y:cF inl) (ann:Nat->Option (AS->Ann)): ∀c:Code,As P W0 c (vc P Γ inl ann c)
 | .skip=>λK A β a w h Z=>wp_skip ⟨A,β,h,Z,Trs.refl _ _⟩
 | .label l=>λK A β a w h Z=>wp_label ⟨A,β,h,Z,Trs.refl _ _⟩
 | .seq x y=>λK A β a w h Z=>by
   refine wp_seq (Code.wp_mono ?_ (eV hΓ hmx hinl Y ann x _ A β a w h Z));rintro e a' w' ⟨A',β',hk,V,ht⟩;cases e with
   |normal=>exact Code.wp_mono (Post.from ht) (eV hΓ hmx hinl Y ann y K A' β' a' w' hk V)
   |exit id=>exact⟨A',β',hk,V,ht⟩
   |goto l=>exact⟨A',β',hk,V,ht⟩
   |ret=>exact⟨A',β',hk,V,ht⟩
   |panic ch=>exact⟨A',β',hk,V,ht⟩
   |outgrown=>exact⟨A',β',hk,V,ht⟩
 | .cond c t f=>λK A β a w h Z=>by
   simp only[vc] at h;split at h
   ·rename_i b hb;obtain⟨e1,_⟩:=bu (IsX.up Z).fr (G:= []) (λp hp=>by cases hp) hb;obtain⟨h1,h2⟩:=VH.1 h;refine wp_cond_split (t:=b) (by simpa [SV.conc] using e1) (λhbt=> ?_) (λhbf=> ?_)
    ·exact eV hΓ hmx hinl Y ann t K A β a w (h1 hbt) Z
    ·exact eV hΓ hmx hinl Y ann f K A β a w (h2 hbf) Z
   ·exact h.elim
 | .block id c=>λK A β a w h Z=>by
   simp only[vc] at h;refine wp_block (Code.wp_mono ?_ (eV hΓ hmx hinl Y ann c _ A β a w h Z));rintro e a' w' ⟨A',β',hk,V,ht⟩;cases e with
   |exit i=>
    simp only[Exit.inBlock] at hk ⊢;by_cases hi:i=id
    ·subst hi;simp at hk;rw[if_pos rfl];exact⟨A',β',hk,V,ht⟩
    ·have:Nat.beq i id=false:=by rw[bS];simpa using hi
     rw[this] at hk;rw[if_neg hi];exact⟨A',β',hk,V,ht⟩
   |normal=>exact⟨A',β',hk,V,ht⟩
   |goto l=>exact⟨A',β',hk,V,ht⟩
   |ret=>exact⟨A',β',hk,V,ht⟩
   |panic ch=>exact⟨A',β',hk,V,ht⟩
   |outgrown=>exact⟨A',β',hk,V,ht⟩
 | .loop c=>λK A β a w h Z=>by
   simp only[vc] at h;split at h
   ·exact wp_loop_rounds 40 (oe (eV hΓ hmx hinl Y ann c) 40 A β a w h Z (Trs.refl _ _))
   ·exact yp (eV hΓ hmx hinl Y ann c) h Z
 | .scope c=>λK A β a w h Z=>by
   simp only[vc] at h;refine wp_scope_straight (Code.wp_mono ?_ (eV hΓ hmx hinl Y ann c _ A β a w h Z));rintro e a' w' ⟨A',β',hk,V,ht⟩;cases e with
   |goto l=>exact hk.elim
   |normal=>exact⟨A',β',hk,V,ht⟩
   |exit id=>exact⟨A',β',hk,V,ht⟩
   |ret=>exact⟨A',β',hk,V,ht⟩
   |panic ch=>exact⟨A',β',hk,V,ht⟩
   |outgrown=>exact⟨A',β',hk,V,ht⟩
 | .exit id=>λK A β a w h Z=>wp_exit ⟨A,β,h,Z,Trs.refl _ _⟩
 | .ret=>λK A β a w h Z=>wp_ret ⟨A,β,h,Z,Trs.refl _ _⟩
 | .region rid ops draw=>λK A β a w h Z=>by
   simp only[vc] at h;cases draw with
   |true=>
    simp only[zdu] at h;cases hbg:Ac Γ A ops.toList with
    |true=>
     rw[hbg] at h;simp only[zdu] at h;obtain⟨hbk,h⟩:=Xg.1 h;rw[asl] at h;obtain⟨B,hsub,hout,Z,hside⟩:=Z;exact Aq (hΓ.sub hsub) hmx (λC hC=>hinl C (hC.trans hsub)) Y hbk h Z (λv A' a' w' β' hk his J=>⟨_,β',hk,(IsX.wrap hsub hout Z hside his J).endG,⟨J.tr,J.wl,J.nx,J.nt⟩⟩) λA' a' w' β' hk his J=>⟨_,β',hk,(IsX.wrap hsub hout Z hside his J).endG,⟨J.tr,J.wl,J.nx,J.nt⟩⟩
    |false=>
    rw[hbg] at h;simp only[zdt] at h;obtain⟨B,hsub,hout,Z,hside⟩:=Z;refine Aj (hΓ.sub hsub) hmx (K:=λA' tr=>K .normal {endG A' with nx:=A.nx+ops.size,wl:=alD tr++A.wl}) h Z.fr Z.bc ?_;intro A' tr a' w' β' hk hfr hbc J h1 h2 h3 h3s h4;have ht:Trs A β {endG A' with nx:=A.nx+ops.size,wl:=alD tr++A.wl} β':=⟨J.mono λi hi=>by simp[hi],λi hi=>by simp[hi],by show A.nx<=A.nx+ops.size;omega,h3⟩;refine⟨_,β',hk,IsX.wrap hsub hout Z hside ⟨(apL hfr).frame _ _,hbc, ?_,h3s.trans Z.sd⟩ ht,ht⟩;exact λi hi=>h4 (λj hj=>Z.nx j (by omega)) i hi
   |false=>
    simp only[zdt] at h;refine wp_region_list (sC hΓ hinl (A0:=A) (β0:=β) ?_ ?_ ops.toList A a w β h Z (Trs.refl _ _))
    ·intro A' a' w' β' hk his J;exact⟨_,β',hk,his.endG,⟨J.tr,J.wl,J.nx,J.nt⟩⟩
    ·intro v A' a' w' β' hk his J;exact⟨_,β',hk,his.endG,⟨J.tr,J.wl,J.nx,J.nt⟩⟩
 | .rangeFunc .. =>λK A β a w h Z=>by simp[vc] at h
 | .goto l=>λK A β a w h Z=>by simp[vc] at h
 | .refuse s=>λK A β a w h Z=>by simp[vc] at h
structure Fr (A A':AS):Prop where
 nxs:NX A'.bl A'.nx
 nx:A.nx<=A'.nx
 wl: ∀j∈A.wl,j∈A'.wl
 keep: ∀j B,A.bl j=some B->j∉A'.wl->A'.bl j=some B
 new: ∀j,j<A.nx->A.bl j=none->A'.bl j=none
theorem Fr.refl (h:NX A.bl A.nx):Fr A A:=⟨h,za0 _,λ_ h=>h,λ_ _ h _=>h,λ_ _ h=>h⟩
theorem Fr.trans {B C:AS} (h:Fr A B) (k:Fr B C):Fr A C:=
 ⟨k.nxs,zac h.nx k.nx,λj J=>k.wl j (h.wl j J),λj D V J=>k.keep j D (h.keep j D V λY=>J (k.wl j Y)) J,λj J h0=>k.new j (zam J h.nx) (h.new j J h0)⟩
def NiceS (A:AS) (T:(Exit->zdV)->Prop):Prop:=Nice (λo:Exit×AS=>Fr A o.2) λK=>T λe A'=>K (e,A')
variable {A1:AS}
theorem NiceS.one (e1:Exit) (h:Fr A A1):NiceS A (λK=>K e1 A1):=Nice.one (o:=(e1,A1)) h
variable {T:(Exit->zdV)->Prop}
theorem NiceS.no (h: ∀K,¬T K):NiceS A T:=Nice.no λK=>h _
theorem NiceS.mono (h:NiceS A T) {K':Exit->zdV} (J:T K) (V: ∀e A',Fr A A'->K e A'->K' e A'):T K':=
 Nice.mono (K:=λo=>K o.1 o.2) (K':=λo=>K' o.1 o.2) h J λo Y=>V o.1 o.2 Y
theorem NiceS.bind (h:NiceS A T) {F:(Exit->zdV)->Exit->zdV} (hF: ∀e J,Fr A J->NiceS J (λK=>F K e J)):NiceS A (λK=>T (F K)):=
 Nice.bind (F:=λK o=>F (λe A'=>K (e,A')) o.1 o.2) h λo Y=>(hF o.1 o.2 Y).weak λo' V=>Y.trans V
theorem NiceS.need (h:NiceS A T) (b:Bool):NiceS A (λK=>af b (T K)):=Nice.need h b
variable {KP:(Exit->zdV)->Value->zdV} {d:Option Tmp}
theorem NiceS.out {T:Aft->Prop} (h:NiceT A.bl A.nx [] T) {F:(Exit->zdV)->List Nat->zdV}
 (Z: ∀v A1,Fr A A1->NiceS A1 (λK=>KP K v A1)) (hF: ∀wl A1,Fr A A1->(∀j∈wl,j∈A1.wl)->NiceS A1 (λK=>F K wl A1)):NiceS A (λK=>T (uR A d (KP K) (F K))):=by
 refine Nice.bind (O:=Out) (F:=λK o=>uR A d (KP λe A'=>K (e,A')) (F λe A'=>K (e,A')) o.r o.b o.n o.w) h λo Y=> ?_;have fr: ∀tm,Fr A ({A with tm:=tm,bl:=o.b,nx:=o.n,wl:=o.w++A.wl}:AS):=λtm=>⟨Y.nxs,Y.le,λj V=>by simp[V],λj B hB V=>Y.keep j B hB λhw=>V (by simp[hw]),Y.new⟩;obtain⟨r,b,n,w⟩:=o;cases r with
 |pan v=>exact Nice.weak (Z v _ (fr A.tm)) λo' J=>(fr A.tm).trans J
 |ok r=>
  simp only[uR];split
  ·rename_i A' hp;obtain⟨rfl,_⟩:=Wa.1 hp;exact Nice.weak (hF w _ (fr _) λj V=>by simp[V]) λo' J=>(fr _).trans J
  ·exact Nice.no λ_ h=>h
theorem j3 (h:Fr A A1):Fr A (endG A1):=⟨h.nxs,h.nx,h.wl,h.keep,h.new⟩
variable {Γ:zdR} {ops:zdS} {o:Oper} {D:Dl}
theorem GE (V:NX A.bl A.nx) (st:Stp P Γ ops A.nx o A D):Fr A {app D A.nx A with nx:=A.nx+1,wl:=(aV A.nx D.E).2++A.wl}:=by
 have tr:=gN (nx:=A.nx) st.fresh (za0 _) D.E (β:=λ_=>⟨0,0,0,0,false⟩) (β':=λ_=>⟨0,0,0,0,false⟩) (λ_ _=>rfl);refine⟨V.apply D.E (by omega) (za0 _),by show A.nx<=A.nx+1;omega,λj J=>by simp[J],λj B hB J=> ?_,λj J h0=>tr.new j J h0⟩;obtain⟨B',h1,_,_,_,h5⟩:=tr.keep j B hB;have:j∉wrI D.E:=λh=>J (by simp[aV,h]);rw[h5 this] at h1;exact h1
theorem Km (J:NX A.bl A.nx) (V:RO D):Fr A (app D A.nx A):=by
 rw[fh V];exact⟨J,za0 _,λ_ h=>h,λ_ _ h _=>h,λ_ _ h=>h⟩
theorem Ck {v:SV} (h:NX A.bl A.nx) (hp:putD A d (.v v)=some A1):Fr A A1:=by
 obtain⟨rfl,_⟩:=Wa.1 hp;exact⟨h,za0 _,λ_ h=>h,λ_ _ h _=>h,λ_ _ h=>h⟩
theorem sM {O:Type} {I:O->Prop} {t:TypeId} {k:SV} {F:(O->Prop)->Option SV->Prop} (hF: ∀r,Nice I λK=>F K r): ∀{l:List (SV×SV)},Nice I (λK=>uU P t k (F K) l)
 | []=>hF none
 |(J,v)::l=>by
  simp only[uU];split
  ·rename_i b _;cases b with
   |true=>exact hF (some v)
   |false=>exact sM hF
  ·exact Nice.no λ_ h=>h
variable {inl:Inl} {F:(Exit->zdV)->zdV}
theorem afJ (Z:cF inl) (h:NX A.bl A.nx) (hF: ∀V,Fr A V->NiceS V (λK=>F K V)):
 NiceS A (λK=>agn P Γ inl ops (λv A'=>K (pex v) (endG A')) o A (F K)):=by
 unfold agn;split
 ·split
  ·rename_i V hp;obtain⟨rfl,_⟩:=Wa.1 hp;exact Nice.weak (hF _ ⟨h,za0 _,λ_ h=>h,λ_ _ h _=>h,λ_ _ h=>h⟩) λo Y=>⟨Y.nxs,Y.nx,Y.wl,Y.keep,Y.new⟩
  ·exact NiceS.no λ_ h=>h
 split
 ·rename_i T J;have pk: ∀{T:(zdU)->Prop},R4 P A o=some T->Nice (λ_:SV=>True) T:=by
   intro T J;unfold R4 at J;split at J
   ·split at J
    ·split at J
     ·split at J
      ·split at J
       ·rename_i l _ _ _;simp only[za1] at J;subst J;exact sM λr=>by
         cases r with
         |none=>exact Nice.one trivial
         |some v=>exact Nice.one trivial
       ·cases J
      ·cases J
     ·cases J
    ·cases J
   ·cases J
  refine Nice.bind (O:=SV) (F:=λ(K:Exit×AS->Prop) s=>match putD A o.dst (.v s) with
   |some A'=>F (λe A'=>K (e,A')) A'
   |none=>False) (pk J) λs _=> ?_
  split
  ·rename_i V hp;have f:=Ck h hp;exact Nice.weak (hF V f) λo Y=>f.trans Y
  ·exact Nice.no λ_ h=>h
 split
 ·rename_i T J;exact NiceS.out (pj Z h J) (KP:=λK v A'=>K (pex v) (endG A')) (F:=λK _ A'=>F K A')
   (λv V fr=>NiceS.one _ (j3 (Fr.refl fr.nxs))) λwl V fr _=>hF V fr
 ·split
  ·rename_i b V f hst;cases b with
   |false=>exact NiceS.no λ_ h=>h
   |true=>
    obtain⟨D,st,rfl,rfl⟩:=VV.1 hst;have fr:=GE h st;exact Nice.weak (hF _ fr) λo Y=>fr.trans Y
  ·exact NiceS.no λ_ h=>h
theorem pp: ∀(k:Nat) (A:AS) (t:Nat) (F:(Exit->zdV)->zdV),NX A.bl A.nx->(∀J,Fr A J->NiceS J (λK=>F K J))->NiceS A (λK=>aaQ k A t (F K))
 |0,A,t,F,h,hF=>NiceS.no λ_ h=>h
 |k+1,A,t,F,h,hF=>by
  have lit: ∀c,Fr A (mH A t c):=λc=>⟨h,za0 _,λ_ h=>h,λ_ _ h _=>h,λ_ _ h=>h⟩;simp only[aaQ];split
  ·rename_i c _;cases A.lit.any (Nat.beq t) with
   |true=>exact hF A (Fr.refl h)
   |false=>
    cases c with
    |true=>exact Nice.weak (hF _ (lit true)) λo Y=>(lit true).trans Y
    |false=>exact Nice.weak (hF _ (lit false)) λo Y=>(lit false).trans Y
  ·exact hF A (Fr.refl h)
  ·rename_i u _ _ _;exact pp k A u (λK A'=>aaQ k A' t (F K)) h λJ fr=>pp k J t F fr.nxs λZ V=>hF Z (fr.trans V)
  ·exact NiceS.no λ_ h=>h
theorem auA {d:BD} {b:Bool} (h:NX A.bl A.nx) (J:adW A o=some (d,b,some A1)):Fr A A1:=by
 have V:=h A.nx (za0 _);unfold adW at J;split at J
 ·cases J
 split at J
 ·rename_i t _ _;revert J;generalize Nat.beq t _=c;cases c with
  |false=>intro J;cases J
  |true=>
   intro J;simp only[zdu,za1,zag] at J;obtain⟨rfl,_⟩:=Wa.1 J.2.2
   exact⟨λi hi=>by
    show upd A.bl A.nx zP i=none;have hi:A.nx+1<=i:=hi;rw[ak (by omega)];exact h i (by omega),zaT _,λj Y=>zan _ Y,λj B hB _=>by
    show upd A.bl A.nx zP j=some B;rw[ak (λe=>by rw[e,V] at hB;cases hB)];exact hB,λj Y h0=>by
    show upd A.bl A.nx zP j=none
    rw[ak (by omega)];exact h0⟩
 ·split at J
  ·rename_i f args x t _ _;have key: ∀{r:SV} {s:Option BD×Option (Nat×ByteArray)},putD {A with sd:=s} o.dst (.v r)=some A1->Fr A A1:=λhp=>by
    obtain⟨rfl,_⟩:=Wa.1 hp;exact⟨h,za0 _,λ_ h=>h,λ_ _ h _=>h,λ_ _ h=>h⟩
   revert J;generalize Nat.beq f _=Z;generalize Nat.beq f _=c2;intro J;cases Z with
   |true=>
    simp only[zdu] at J;split at J
    ·simp only[za1,zag] at J;exact key J.2.2
    ·cases J
   |false=>
   cases c2 with
   |true=>
    simp only[zdu,zdt] at J;split at J
    ·simp only[za1,zag] at J;exact key J.2.2
    ·cases J
   |false=>simp only[zdt] at J;cases J
  ·cases J
 ·cases J
theorem Nice.prop {O:Type} {I:O->Prop} {T:(O->Prop)->Prop} (h:Nice I T) (p:Prop):Nice I (λK=>p/\T K):=⟨λJ V=>⟨J.1,h.mono J.2 V⟩,λJ=>h.ne J.2⟩
theorem vp (V:cF inl) (h:NX A.bl A.nx) (hF: ∀J,Fr A J->NiceS J (λK=>F K J)):
 NiceS A (λK=>aeq P Γ inl ops (λv A'=>K (pex v) (endG A')) o A (F K)):=by
 unfold aeq;split
 ·rename_i d b r Y
  refine Nice.prop (Nice.need (T:=λK=>match r with
   |some A'=>F (λe A'=>K (e,A')) A'
   |none=>False) ?_ b) _
  cases r with
  |none=>exact Nice.no λ_ h=>h
  |some J=>exact Nice.weak (hF J (auA h Y)) λo Z=>(auA h Y).trans Z
 ·exact afJ V h hF
theorem lM {Γ:zdR} {inl:Inl} (V:cF inl) {ops:zdS}: ∀(J:List Oper) (A:AS),NX A.bl A.nx->NiceS A (λK=>mI P Γ inl ops (λv A'=>K (pex v) (endG A')) J A λA'=>K .normal (endG A'))
 | [],A,h=>NiceS.one _ (j3 (Fr.refl h))
 |o::J,A,h=>by
  simp only[mI];split
  ·rename_i t b _;refine pp 9 A t (λK A'=>wm A' t b o.dst (λA'=>aeq P Γ inl ops (λv A'=>K (pex v) (endG A')) {o with guard:=none} A' λA'=>mI P Γ inl ops (λv A'=>K (pex v) (endG A')) J A' λA'=>K .normal (endG A')) λA'=>mI P Γ inl ops (λv A'=>K (pex v) (endG A')) J A' λA'=>K .normal (endG A')) h λA1 fr=> ?_
   have skip:NiceS A1 (λK=>match putD A1 o.dst (.v (.val undef)) with
    |some A'=>mI P Γ inl ops (λv A'=>K (pex v) (endG A')) J A' λA'=>K .normal (endG A')
    |none=>False):=by
    split
    ·rename_i Z hp;have f:=Ck fr.nxs hp;exact Nice.weak (lM V J Z f.nxs) λo io=>f.trans io
    ·exact NiceS.no λ_ h=>h
   unfold wm;split
   ·rename_i c _;cases (bif b then c else !c) with
    |true=>exact vp V fr.nxs (F:=λK A'=>mI P Γ inl ops (λv A'=>K (pex v) (endG A')) J A' λA'=>K .normal (endG A')) λZ Y=>lM V J Z Y.nxs
    |false=>exact skip
   ·exact skip
   ·exact NiceS.no λ_ h=>h
  ·exact vp V h (F:=λK A'=>mI P Γ inl ops (λv A'=>K (pex v) (endG A')) J A' λA'=>K .normal (endG A')) λZ Y=>lM V J Z Y.nxs
theorem yq (V:cF inl) (h:NX A.bl A.nx) {F:(Exit->zdV)->Bool->List Nat->List Nat->zdV}
 (hP: ∀v J,Fr A J->NiceS J (λK=>KP K v J)) (hF: ∀a b c J,Fr A J->NiceS J (λK=>F K a b c J)):NiceS A (λK=>opT P Γ inl ops A o (KP K) (F K)):=by
 unfold opT;split
 ·rename_i T hb;exact NiceS.out (fF V h hb) (KP:=KP) (F:=λK wl A'=>F K true [] wl A') hP λwl J fr _=>hF _ _ _ J fr
 ·split
  ·rename_i b J f Z;cases b with
   |false=>exact NiceS.no λ_ h=>h
   |true=>
    obtain⟨D,st,rfl,rfl⟩:=VV.1 Z;show NiceS A λK=>match (aV A.nx D.E).2 with
     | []=>_
     |j::l=>_
    split
    ·rename_i Y;have fr:=Km h (VZ.1 Y);exact Nice.weak (hF _ _ _ _ fr) λo io=>fr.trans io
    ·rename_i j l Y;have fr:=GE h st;rw[Y] at fr;exact Nice.weak (hF _ _ _ _ fr) λo io=>fr.trans io
  ·exact NiceS.no λ_ h=>h
theorem jy {Γ:zdR} {inl:Inl} (J:cF inl) {ops:zdS} {pre:Nat->zdL} {m:Bool} {KN:(Exit->zdV)->Value->zdV} (Y: ∀v A1,NX A1.bl A1.nx->NiceS A1 (λK=>KN K v A1)): ∀(V:zdL) (A:AS) (h:Nat->Option Hst),NX A.bl A.nx->
 NiceS A (λK=>eD P Γ inl ops pre m (KN K) (λv A'=>K (pex v) (endG A')) V A h λA'=>K .normal (endG A'))
 | [],A,h,Z=>NiceS.one _ (j3 (Fr.refl Z))
 |i::V,A,h,Z=>by
  simp only[eD];split
  ·exact NiceS.no λ_ h=>h
  ·rename_i o ho;cases hl:qE ops i with
   |true=>
    exact yq J Z (KP:=λK v A'=>K (pex v) (endG A')) (λv A1 fr=>NiceS.one _ (j3 (Fr.refl fr.nxs))) λa b c A1 fr=>(jy J Y V A1 _ fr.nxs).need _
   |false=>
    exact yq J Z (KP:=KN) (λv A1 fr=>Y v A1 fr.nxs) λa b c A1 fr=>(jy J Y V A1 _ fr.nxs).need _
theorem ab9: ∀(v:Value) (A1:AS),NX A1.bl A1.nx->NiceS A1 (λK=>noP v A1):=λv A1 _=>NiceS.no λ_ h=>h
theorem NiceS.killed (h:NiceS (acw A l) T):NiceS A T:=by
 unfold NiceS at*
 exact Nice.weak h λo J=>⟨J.nxs,J.nx,J.wl,J.keep,J.new⟩
theorem D4 (J:cF inl) (A:AS) (h:NX A.bl A.nx):NiceS A (λK=>Gm P Γ inl ops (λv A'=>K (pex v) (endG A')) A λA'=>K .normal (endG A')):=by
 unfold Gm;split
 ·split
  ·split
   ·exact jy J (KN:=λ_=>noP) ab9 _ A _ h
   ·exact NiceS.need (jy J (KN:=λK v A'=>K (pex v) (endG (acO A'))) (λv V h1=>NiceS.one _ ⟨h1,za0 _,λ_ h=>h,λ_ _ h _=>h,λ_ _ h=>h⟩) _ A _ h) _
  ·exact NiceS.need (NiceS.killed (jy J (KN:=λ_=>noP) ab9 _ (acw A _) _ h)) _
 ·exact((jy J (KN:=λ_=>noP) ab9 _ A _ h).and (jy J (KN:=λ_=>noP) ab9 _ A _ h)).need _
theorem sN {Γ:zdR} {ops:zdS} {base:Nat} {K:AS->List ga->Prop}: ∀(J:List Oper) (i:Nat) (A:AS) (tr:List ga),rK P Γ ops base J i A tr K->
 ∃A' V,K A' (tr.reverse++V)/\(∀K',K' A' (tr.reverse++V)->rK P Γ ops base J i A tr K')/\A'.nx=A.nx/\A'.wl=A.wl/\(∀j B,A.bl j=some B->j∉alD V->A'.bl j=some B)/\ ∀j,(j<base+i\/base+i+J.length<=j)->A.bl j=none->A'.bl j=none
 | [],i,A,tr,h=>⟨A, [],by simpa [rK] using h,λK' h=>by simpa [rK] using h,rfl,rfl,λ_ _ h _=>h,λ_ _ h=>h⟩
 |o::J,i,A,tr,h=>by
  simp only[rK] at h ⊢;split at h
  ·rename_i b A1 f hs;obtain⟨hb,h⟩:=Xg.1 h;subst hb;obtain⟨A',V,h1,h2,h3,h4,h5,h6⟩:=sN J (i+1) A1 (f::tr) h;obtain⟨D,st,rfl,rfl⟩:=VV.1 hs;have tr':=gN (nx:=base+i) st.fresh (za0 _) D.E (β:=λ_=>⟨0,0,0,0,false⟩) (β':=λ_=>⟨0,0,0,0,false⟩) (λ_ _=>rfl);refine⟨A',aV (base+i) D.E::V,by simpa using h1,λK' hK'=>Xg.2 ⟨rfl,h2 K' (by simpa using hK')⟩,h3,h4,λj B hB Z=> ?_,λj Z h0=> ?_⟩
   ·simp only[alD,za8,not_or] at Z;obtain⟨B',k1,_,_,_,k5⟩:=tr'.keep j B hB;have:j∉wrI D.E:=λh=>Z.1 (by simp[aV,h]);exact h5 j B (by show VO A.bl (base+i) D.E j=some B;rw[k1,k5 this]) Z.2
   ·refine h6 j (by simp only[za4] at Z;omega) ?_;show VO A.bl (base+i) D.E j=none;have hne:j≠base+i:=by simp only[za4] at Z;omega
    rw[jX ?_ ?_]
    ·exact h0
    ·intro Y;have src:=st.src;unfold Src at src;cases hg:o.guard with
     |none=>rw[hg] at src;exact Gy src.2.2.2 Y h0
     |some p=>
      obtain⟨jj,bb⟩:=p;rw[hg] at src;obtain⟨t,g,_,_,_,_,k5,_⟩:=src;simp[wrI,k5] at Y
    ·intro Y;unfold nwI at Y;split at Y
     ·simp at Y;exact hne Y
     ·cases Y
  ·exact h.elim
theorem fQ {Γ:zdR} {inl:Inl} (J:cF inl) (ann:Nat->Option (AS->Ann)): ∀(c:Code) (A:AS),NX A.bl A.nx->NiceS A (λK=>vc P Γ inl ann c K A)
 | .skip,A,h=>NiceS.one .normal (Fr.refl h)
 | .label l,A,h=>NiceS.one .normal (Fr.refl h)
 | .exit id,A,h=>NiceS.one (.exit id) (Fr.refl h)
 | .ret,A,h=>NiceS.one .ret (Fr.refl h)
 | .seq x y,A,h=>NiceS.bind (fQ J ann x A h) (F:=λK e A'=>match e with
    | .normal=>vc P Γ inl ann y K A'
    |e=>K e A') λe A1 fr=>by
   cases e with
   |normal=>exact fQ J ann y A1 fr.nxs
   |_=>exact NiceS.one _ (Fr.refl fr.nxs)
 | .cond c t f,A,h=>by
   simp only[vc];split
   ·rename_i b _;cases b with
    |true=>exact fQ J ann t A h
    |false=>exact fQ J ann f A h
   ·exact NiceS.no λK h=>h
 | .block id c,A,h=>NiceS.bind (fQ J ann c A h) (F:=λK e A'=>match e with
    | .exit i=>bif Nat.beq i id then K .normal A' else K (.exit i) A'
    |e=>K e A') λe A1 fr=>by
   cases e with
   |exit i=>
    simp only[];cases Nat.beq i id with
    |true=>exact NiceS.one _ (Fr.refl fr.nxs)
    |false=>exact NiceS.one _ (Fr.refl fr.nxs)
   |_=>exact NiceS.one _ (Fr.refl fr.nxs)
 | .scope c,A,h=>NiceS.bind (fQ J ann c A h) (F:=λK e A'=>match e with
    | .goto _=>False
    |e=>K e A') λe A1 fr=>by
   cases e with
   |goto l=>exact NiceS.no λK h=>h
   |_=>exact NiceS.one _ (Fr.refl fr.nxs)
 | .loop c,A,h=>by
   simp only[vc];split
   ·have key: ∀n A,NX A.bl A.nx->NiceS A (λK=>mK (vc P Γ inl ann c) n K A):=by
     intro n
     induction n with
     |zero=>intro A _;exact NiceS.no λK h=>h
     |succ n ih=>
      intro A h
      exact NiceS.bind (fQ J ann c A h) (F:=λK e A'=>match e with
       | .normal=>mK (vc P Γ inl ann c) n K A'
       |e=>K e A') λe A1 fr=>by
        cases e with
        |normal=>exact ih A1 fr.nxs
        |_=>exact NiceS.one _ (Fr.refl fr.nxs)
    exact key 40 A h
   ·rename_i N0 _;generalize N0 A=N;have hnxH: ∀x:N.X,NX (rQ A N x).bl (rQ A N x).nx:=by
     intro x i hi;have hi':A.nx+N.gr.length<=i:=hi;obtain⟨j,rfl⟩:=zd9 (show A.nx<=i by omega);show cX A N x (A.nx+j)=none;rw[od];cases hgb:grB x N.gr j with
     |none=>rfl
     |some C=>have:=Wm.1 (by rw[hgb];simp:grB x N.gr j≠none);omega
    have fr: ∀(x:N.X) (A':AS),Fr (rQ A N x) A'->Fr A {A' with wl:=N.ids A++A'.wl++A.wl}:=by
     intro x A' f;have dom: ∀{j B},A.bl j=some B->j<A.nx:=λ{j B} hB=>by
      rcases zah j A.nx with h'|h'
      ·exact h'
      ·rw[h j h'] at hB;cases hB
     refine⟨f.nxs,zac (zda _ _) f.nx,λj Y=>by simp[Y],λj B hB Y=> ?_,λj Y h0=>f.new j (show j<A.nx+N.gr.length by omega) ?_⟩
     ·simp only[za8,not_or] at Y;have hjl:=dom hB;refine f.keep j B ?_ Y.1.2;have hd:cX A N x j≠none:=(fI hjl).1 (by rw[hB];simp);show cX A N x j=some B;cases hC:cX A N x j with
      |none=>exact absurd hC hd
      |some C=>
       obtain⟨B0,b1,_,_,_,_,b6⟩:=ary hjl hC;rw[hB] at b1;obtain rfl:B=B0:=by simpa using b1
       have hn:=Y.1.1;unfold Ann.ids at hn;simp only[za8,not_or] at hn;rcases b6 with ⟨g,_,h1,_,_⟩|⟨_,g,h1,_⟩|⟨_,_,_,h3⟩
       ·exact absurd (zaz.2 ⟨_,h1,rfl⟩) hn.1.1
       ·exact absurd (zaz.2 ⟨_,h1,rfl⟩) hn.1.2
       ·rw[h3 hn.2]
     ·cases hC:cX A N x j with
      |none=>exact hC
      |some C=>exact absurd h0 ((fI Y).2 (by rw[hC];simp))
    have nb:=λx=>fQ (Γ:=Γ) J ann c (rQ A N x) (hnxH x);refine⟨λ{K K'} Z hm=> ?_,λZ=> ?_⟩
    ·obtain⟨x0,i0,m0,V⟩:=Z;refine⟨x0,i0,m0,Ke V λx hx=>(nb x).mono (rO V x hx) λe A' f hk=> ?_⟩;cases e with
     |normal=>exact hk
     |_=>
      have k:=ach hk;exact k.2 _ (hm (_,_) (fr x A' f) k.1)
    ·obtain⟨x0,i0,_,V⟩:=Z;have V:=rO V;have key: ∀m (x:N.X),N.mu x<m->N.inv x->False:=by
      intro m
      induction m with
      |zero=>intro x hm;omega
      |succ m ih=>
       intro x hm hx;refine(nb x).ne ((nb x).mono (V x hx) λe A' _ hk=> ?_);cases e with
       |normal=>
        obtain⟨_,x',g1,g2,_⟩:=Xg.1 hk;exact ih x' (by omega) g1
       |_=>exact ad0 hk
     exact key _ x0 (zcz _) i0
 | .region rid ops draw,A,h=>by
   simp only[vc];cases draw with
   |true=>
    simp only[zdu];cases Ac Γ A ops.toList with
    |true=>
     simp only[zdu];simp only[asl];exact(D4 J A h).need _
    |false=>
     simp only[zdt];refine⟨λ{K K'} Z hm=> ?_,λZ=> ?_⟩
     ·obtain⟨A',trs,h1,h2,h3,h4,h5,h6⟩:=sN ops.toList 0 A [] Z;obtain⟨hb,h1⟩:=Xg.1 h1;refine h2 _ (Xg.2 ⟨hb,hm (.normal,_) ⟨λj Y=>h6 j (.inr (by simpa using Y)) (h j (by have:A.nx+ops.size<=j:=Y;omega)),by show A.nx<=A.nx+ops.size;omega,λj Y=>by simp[Y],λj B hB Y=> ?_,λj Y h0=>h6 j (.inl (by omega)) h0⟩ h1⟩);simp only[za8,not_or] at Y;exact h5 j B hB Y.1
     ·obtain⟨_,_,h1,_⟩:=sN ops.toList 0 A [] Z;exact(Xg.1 h1).2
   |false=>
    simp only[zdt];exact lM J ops.toList A h
 | .rangeFunc ..,A,h=>NiceS.no λK h=>h
 | .goto l,A,h=>NiceS.no λK h=>h
 | .refuse s,A,h=>NiceS.no λK h=>h
end
section
variable {P:Program} {W0:Base}
def VU (P:Program) (W0:Base) (f:FuncId) (k:MCtr):Prop:=
 ∀(bl:zdP) (β:zdM) (w:World) (nx:Nat) (args:zdN) (C:RC),BC W0 bl β w->(∀j B,bl j=some B->B.kd.it=false)->NX bl nx->(∀s∈args,Live bl s)->k bl nx args=some C->C.pre=true->
  Calls P f (SV.concs β args).toArray w λe w'=> ∃x,C.spec x/\ ∃β',Ends β' (C.res x) e/\BC W0 (fv (chB bl (C.ch x)) nx (C.nw x)) β' w'/\(∀i,bl i≠none->β' i=β i)/\sg (fv (chB bl (C.ch x)) nx (C.nw x)) (C.res x)
def pq:Option Value->FrameMode
 |none=> .returning
 |some v=> .panicking [{v:=v,recovered:=false}]
def Wz (P:Program) (W0:Base) (f:FuncId) (k:DCtr):Prop:=
 ∀(m:Option Value) (bl:zdP) (β:zdM) (w:World) (args:zdN) (m':Option Value) (ch:List (Nat×Blk)),BC W0 bl β w->(∀s∈args,Live bl s)->k m bl args=some (true,m',ch)->x8 bl ch=true->
  V0 P f/\CallsD P f (SV.concs β args).toArray (pq m) w λe u' w'=>(∃v,e= .returned v)/\settle u'=pq m'/\BC W0 (chB bl ch) β w'
def Cl (tmps:Array Value):ResultVar->Sem Value
 | .tmp t=>pure (tmps.getD t undef)
 | .cell x t=>do loadVar t (<-asAddr (tmps.getD x undef))
theorem At (fn:Func) (tmps:Array Value):results fn tmps=(do let vs <-fn.results.mapM (Cl tmps);pure (if h:vs.size=1 then vs[0] else .tuple vs)):=by
 unfold results
 congr 2
theorem mT {β:zdM} {A:AS} {a:Act} {w:World} (Y:Is W0 A β a w): ∀(l:List ResultVar) (b:Bool) (r:zdN),ur P A l=some (b,r)->b=true->
 (l.mapM (Cl a.tmps)).run P w= .ok (SV.concs β r) w/\ ∀s∈r,Live A.bl s
 | [],b,r,h,V=>by
   simp only[ur,za1,zag] at h;obtain⟨rfl,rfl⟩:=h;simp[SV.concs]
 | .tmp t::l,b,r,h,V=>by
   simp only[ur] at h;split at h
   ·rename_i s b' r' ht Z;simp only[za1,zag] at h;obtain⟨rfl,rfl⟩:=h;obtain⟨h1,h2⟩:=mT Y l _ r' Z V;obtain⟨k1,k2⟩:=Y.fr.v t s ht;refine⟨?_,λx J=> ?_⟩
    ·simp only[zcC,zdI,Cl,zdJ,zdH,h1,k1,SV.concs]
    ·simp only[zai] at J;rcases J with rfl|J
     ·exact k2
     ·exact h2 x J
   ·cases h
 | .cell x t::l,b,r,h,V=>by
   simp only[ur] at h;split at h
   ·rename_i s b' r' ht Z;split at h
    ·rename_i E hE;simp only[za1,zag] at h;obtain⟨h0,rfl⟩:=h;rw[<-h0] at V;simp only[za2] at V;obtain⟨h1,h2⟩:=mT Y l _ r' Z V.2;obtain⟨k1,k2⟩:=Y.fr.v x s ht;obtain⟨ad,l1,l2,l3,l4,l5⟩:=qe (P:=P) Y.bc hE V.1;refine⟨?_,λx J=> ?_⟩
     ·simp only[zcC,zdI,Cl,k1,l1,asAddr,zdJ,zdH,l2,h1,SV.concs]
     ·simp only[zai] at J;rcases J with rfl|J
      ·exact l3
      ·exact h2 x J
    ·cases h
   ·cases h
variable {β:zdM} {A:AS} {a:Act} {w:World} {b:Bool}
theorem uv (V:Is W0 A β a w) {fn:Func} {r:zdN} (h:ur P A fn.results.toList=some (b,r)) (J:b=true):
 (results fn a.tmps).run P w= .ok ((auq r).conc β) w/\Live A.bl (auq r):=by
 obtain⟨h1,h2⟩:=mT (P:=P) V _ b r h J;refine⟨?_, ?_⟩
 ·rw[At,zdf];simp only[zdI,Sem.run_map,h1,zdH,zdJ]
  congr 1
  cases r with
  |nil=>simp[SV.concs,auq,SV.conc]
  |cons s l=>
   cases l with
   |nil=>simp[SV.concs,auq]
   |cons Z l=>simp[SV.concs,auq,SV.conc]
 ·cases r with
  |nil=>intro i hi;simp[auq,SV.ids,SV.idss] at hi
  |cons s l=>
   cases l with
   |nil=>exact h2 s (by simp)
   |cons Z l=>
    intro i hi;simp only[auq,SV.ids] at hi;obtain⟨x,Y,hi⟩:=SV.mem_idss.1 hi;exact h2 x Y i hi
theorem yu (β:zdM) (args:zdN) (nt:Nat) (bl:zdP) (nx:Nat) (wl:zdL) (hq:Bool) (hl: ∀s∈args,Live bl s):
 FR β (fB args nt bl nx wl hq) {tmps:=(SV.concs β args).toArray++Array.replicate (nt - (SV.concs β args).toArray.size) undef,defers:= []}:=by
 have V:(SV.concs β args).length=args.length:=by rw[SV.concs_eq];simp
 refine⟨⟨rfl,λ_ h=>by cases h⟩, ?_, ?_, ?_, ?_⟩
 ·simp[fB,V];omega
 ·intro t s J;simp only[fB] at J;split at J
  ·rename_i s' Z;simp only[TV.v.injEq] at J;subst J;have hlt:t<args.length:=by
    rcases zah t args.length with h|h
    ·exact h
    ·rw[zad h] at Z;cases Z
   refine⟨?_,hl _ (zal Z)⟩;rw[zcH,Array.getElem?_append_left (by simp[V];exact hlt)];simp[SV.concs_eq,Z]
  ·rename_i Z;cases Y:Nat.blt t nt with
   |false=>rw[Y] at J;simp at J
   |true=>
    rw[Y] at J;simp only[zdu,TV.v.injEq] at J;subst J;have hge:args.length<=t:=by
     rcases zah t args.length with h|h
     ·rw[zaa h] at Z;cases Z
     ·exact h
    have hlt:t<nt:=by simpa [zb2] using Y
    refine⟨?_,λi hi=>by simp[SV.ids] at hi⟩;rw[zcH,Array.getElem?_append_right (by simp[V];exact hge)];have hz:t - (SV.concs β args).toArray.size<nt - (SV.concs β args).toArray.size:=by simp[V];omega
    rw[Array.getElem?_replicate,if_pos hz];rfl
 ·intro t u b s J;simp only[fB] at J;split at J
  ·cases J
  ·cases Y:Nat.blt t nt<;>rw[Y] at J<;>simp at J
 ·intro t u b s J;simp only[fB] at J;split at J
  ·cases J
  ·cases Y:Nat.blt t nt<;>rw[Y] at J<;>simp at J
variable {an:Nat->Option (AS->Ann)}
theorem ae5 (h:FR β A a):FR β (sa an A) a:=by
 unfold sa;split
 ·exact h.side _
 ·exact h
theorem eA (J:Nat->Option (AS->Ann)) (A:AS):(sa J A).bl=A.bl/\(sa J A).nx=A.nx/\(sa J A).wl=A.wl/\(sa J A).nt=A.nt:=by
 unfold sa;split<;>exact⟨rfl,rfl,rfl,rfl⟩
theorem adi (h:A.sd.2=none):(sa an A).sd.2=none:=by
 unfold sa;split
 ·rfl
 ·exact h
theorem Fr.ofBd {A':AS} (h:Fr (sa an A) A'):Fr A A':=by
 obtain⟨J,V,Y,_⟩:=eA an A;exact⟨h.nxs,by rw[<-V];exact h.nx,by rw[<-Y];exact h.wl,by rw[<-J];exact h.keep,by rw[<-J,<-V];exact h.new⟩
variable {W:Base} {s:Option BD×Option (Nat×ByteArray)} {bl:zdP}
theorem BC.sd (h:BC W bl β w):BC {W with sd:=s} bl β w:=
 h.rebase ⟨h.below.os,h.below.tape,h.below.output,h.below.size,h.below.block⟩ (λ_ _ _ _ _ h=>h) (λ_ _ _ _ _ h=>h)
theorem BC.unsd (h:BC {W with sd:=s} bl β w):BC W bl β w:=
 h.rebase ⟨h.below.os,h.below.tape,h.below.output,h.below.size,h.below.block⟩ (λ_ _ _ _ _ h=>h) (λ_ _ _ _ _ h=>h)
theorem SubB.sd (W:Base) (s:Option BD×Option (Nat×ByteArray)):SubB {W with sd:=s} W:=⟨Pres.self W,λ_ h=> .inr h⟩
structure HypD (P:Program) (W0:Base) (ok:FuncId->Bool) (Γ:FuncId->Option Ctr) (Γm:FuncId->Option MCtr) (Δ:FuncId->Option DCtr):Prop where
 gam:GamOK P W0 Γ
 mem: ∀B,SubB B W0-> ∀f k,Γm f=some k->VU P B f k
 dem: ∀B,SubB B W0-> ∀f k,Δ f=some k->Wz P B f k
 ok: ∀f,ok f=true->V0 P f
 mixed:P.follows .mixedOrders=true
variable {ok:FuncId->Bool} {Γ:zdR} {Γm:FuncId->Option MCtr} {Δ:FuncId->Option DCtr}
theorem HypD.sub {P:Program} {W0 B:Base} (h:HypD P W0 ok Γ Γm Δ) (V:SubB B W0):HypD P B ok Γ Γm Δ:=
 ⟨h.gam.sub V,λC J=>h.mem C (J.trans V),λC J=>h.dem C (J.trans V),h.ok,h.mixed⟩
abbrev Hyp (P:Program) (W0:Base) (ok:FuncId->Bool) (Γ:zdR) (Γm:FuncId->Option MCtr):Prop:=HypD P W0 ok Γ Γm λ_=>none
variable {nx:Nat}
theorem D5 (J:NX bl nx) (l:zdX):NX (fv bl nx l) (nx+l.length)/\(∀i,i<nx->fv bl nx l i=bl i)/\ ∀i B,bl i=some B->fv bl nx l i=some B:=by
 have V: ∀i,i<nx->fv bl nx l i=bl i:=λi hi=>by unfold fv;rw[aB,zds hi];rfl
 refine⟨λi hi=> ?_,V,λi B hB=> ?_⟩
 ·unfold fv;rw[aB,zdv (by omega)];simp only[zdt];exact zad (by omega)
 ·rw[V i (by
   rcases zah i nx with h|h
   ·exact h
   ·rw[J i h] at hB;cases hB)]
  exact hB
theorem Ko {a b:BK} (h:Po a b=true):a=b\/a= .gone:=by cases a<;>cases b<;>first|exact .inl rfl|exact .inr rfl|cases h
theorem oh {bl:zdP}: ∀{l:List (Nat×Blk)},x8 bl l=true->(∀i,bl i=none->chB bl l i=none)/\ ∀i C,bl i=some C-> ∃B,chB bl l i=some B/\B.n=C.n/\(B.sz=C.sz/\B.nn=C.nn)/\(B.kd=C.kd\/B.kd= .gone)/\(i∉l.map (·.1)->B=C)
 | [],_=>⟨λ_ h=>h,λi C h=>⟨C,h,rfl,⟨rfl,rfl⟩, .inl rfl,λ_=>rfl⟩⟩
 |(k,D)::r,h=>by
  simp only[x8,za2] at h;obtain⟨h1,h2⟩:=h;obtain⟨k1,k2⟩:=oh h2;cases Y:bl k with
  |none=>rw[Y] at h1;cases h1
  |some C=>
   rw[Y] at h1;simp only[za2,zdB] at h1;obtain⟨⟨⟨a1,a2⟩,a3⟩,a4⟩:=h1;refine⟨λi hi=> ?_,λi Z J=> ?_⟩
   ·have:i≠k:=λe=>by rw[e,Y] at hi;cases hi
    rw[chB,ak this];exact k1 i hi
   ·by_cases V:i=k
    ·subst V;rw[Y] at J;obtain rfl:C=Z:=by simpa using J
     exact⟨D,by rw[chB,az],zab a1,⟨zab a2,a3⟩,Ko a4,λh=>absurd (by simp) h⟩
    ·obtain⟨B,b1,b2,b3,b4,b5⟩:=k2 i Z J;exact⟨B,by rw[chB,ak V];exact b1,b2,b3,b4,λh=>b5 λhm=>h (by simp at hm ⊢;exact .inr hm)⟩
theorem aus (J:NX bl nx) {ch:List (Nat×Blk)} (hc:x8 bl ch=true) (nw:zdX):
 NX (fv (chB bl ch) nx nw) (nx+nw.length)/\(∀i,i<nx->bl i=none->fv (chB bl ch) nx nw i=none)/\ ∀i C,bl i=some C-> ∃B,fv (chB bl ch) nx nw i=some B/\B.n=C.n/\(B.sz=C.sz/\B.nn=C.nn)/\(B.kd=C.kd\/B.kd= .gone)/\(i∉ch.map (·.1)->B=C):=by
 obtain⟨k1,k2⟩:=oh hc;obtain⟨Z,Y,_⟩:=D5 (bl:=chB bl ch) (nx:=nx) (λi hi=>k1 i (J i hi)) nw;refine⟨Z,λi hi h0=>by rw[Y i hi];exact k1 i h0,λi C V=> ?_⟩;have hi:i<nx:=by
  rcases zah i nx with h|h
  ·exact h
  ·rw[J i h] at V;cases V
 rw[Y i hi];exact k2 i C V
variable {l:List ResultVar} {K:Aft}
theorem Wf:ND P l K A↔ ∃r,ur P A l=some (true,r)/\K (.ok (auq r)) A.bl A.nx A.wl:=by
 unfold ND;cases ur P A l with
 |none=>simp
 |some p=>
  obtain⟨b,r⟩:=p;simp only[Xg,za1,zag];constructor
  ·rintro⟨rfl,h⟩;exact⟨r,⟨rfl,rfl⟩,h⟩
  ·rintro⟨J,⟨rfl,rfl⟩,h⟩;exact⟨rfl,h⟩
theorem jz {Δ:FuncId->Option DCtr} {l:List ResultVar}: ∀(Y:List (FuncId×List SV×List SV)) (m:Option Value) (A:AS),NX A.bl A.nx->NiceT A.bl A.nx A.wl (λK=>qF P Δ l K Y m A)
 | [],none,A,h=>by
   have one: ∀r,OutI A.bl A.nx A.wl ⟨r,A.bl,A.nx,A.wl⟩:=λr=>⟨h,za0 _,λ_ _ h _=>h,λ_ _ h=>h,λ_ h=>h⟩;refine⟨λ{K K'} Z hm=> ?_,λZ=> ?_⟩
   ·obtain⟨r,h1,h2⟩:=Wf.1 Z;exact Wf.2 ⟨r,h1,hm _ (one _) h2⟩
   ·obtain⟨r,_,h2⟩:=Wf.1 Z;exact h2
 | [],some v,A,h=>Nice.one (o:=(⟨.pan v,A.bl,A.nx,A.wl⟩:Out)) ⟨h,za0 _,λ_ _ h _=>h,λ_ _ h=>h,λ_ h=>h⟩
 |(f,as,cs)::Y,m,A,h=>by
  unfold NiceT;simp only[qF];split
  ·split
   ·rename_i b m' ch _;cases hb:(b&&x8 A.bl ch) with
    |false=>exact Nice.no λ_ h=>h
    |true=>
     simp only[za2] at hb;obtain⟨k1,k2⟩:=oh hb.2;refine Nice.weak (jz Y m' {A with bl:=chB A.bl ch,wl:=ch.map (·.1)++A.wl} λi hi=>k1 i (h i hi)) λo V=>⟨V.nxs,V.le,λj B hB J=> ?_,λj J h0=>V.new j J (k1 j h0),λj J=>V.sub j (by simp[J])⟩;obtain⟨B',b1,_,_,_,b5⟩:=k2 j B hB;have:=b5 λhm=>J (V.sub j (by simp only[za8];exact .inl hm));subst this;exact V.keep j B' b1 J
   ·exact Nice.no λ_ h=>h
  ·exact Nice.no λ_ h=>h
variable {e:Exit}
theorem V8:gq P Δ l K e A↔((e= .normal\/e= .ret)/\qF P Δ l K A.df none A)\/ ∃v,e=pex v/\qF P Δ l K A.df (some v) A:=by
 cases e with
 |normal=>simp[gq,pex]
 |ret=>simp[gq,pex]
 |panic ch=>
  simp only[gq,pex,Exit.panic.injEq];split
  ·rename_i e;obtain⟨v,r,g⟩:=e;cases r<;>cases g<;>simp
  ·rename_i h;simp only[reduceCtorEq,or_self,false_and,false_or,false_iff,not_exists,not_and];rintro v rfl;exact absurd rfl (h _)
 |_=>simp[gq,pex]
theorem qh (h:NX A.bl A.nx):NiceT A.bl A.nx A.wl (λK=>gq P Δ l K e A):=by
 refine⟨λ{K K'} V hm=> ?_,λV=> ?_⟩
 ·rcases V8.1 V with ⟨J,Y⟩|⟨v,J,Z⟩
  ·exact V8.2 (.inl ⟨J,(jz A.df none A h).mono Y λr b n w=>hm ⟨r,b,n,w⟩⟩)
  ·exact V8.2 (.inr ⟨v,J,(jz A.df (some v) A h).mono Z λr b n w=>hm ⟨r,b,n,w⟩⟩)
 ·rcases V8.1 V with ⟨_,Y⟩|⟨v,_,Z⟩
  ·exact(jz A.df none A h).ne Y
  ·exact(jz A.df (some v) A h).ne Z
theorem mU {W1:Base} (Y: ∀bl β w,BC W0 bl β w->BC W1 bl β w) {Δ:FuncId->Option DCtr} (hΔ: ∀f k,Δ f=some k->Wz P W0 f k) {fn:Func} {K:Aft} {bl0:zdP} {nx0:Nat} {wl0:zdL} {β0:zdM}: ∀(ds:List (FuncId×List SV×List SV)) (m:Option Value) (A:AS) (β:zdM) (a:Act) (w:World),qF P Δ fn.results.toList K ds m A->
 Is W0 A β a w->(∀p∈ds,∀s∈p.2.1++p.2.2,Live A.bl s)->Tr bl0 nx0 A.wl β0 A.bl β->(∀i∈wl0,i∈A.wl)->nx0<=A.nx->
 Leaves P fn a.tmps (λe w'=> ∃V r bl' Z wl',Ends V r e/\K r bl' Z wl'/\BC W1 bl' V w'/\NX bl' Z/\sg bl' r/\Tr bl0 nx0 wl' β0 bl' V/\(∀i∈wl0,i∈wl')/\nx0<=Z) (ds.map (NF β)) (pq m) w
 | [],none,A,β,a,w,h,J,_,ht,hw,hn=>by
   obtain⟨l,hr,hk⟩:=Wf.1 h;obtain⟨r1,r2⟩:=uv J hr rfl;exact⟨_,r1,β, .ok (auq l),A.bl,A.nx,A.wl,rfl,hk,Y _ _ _ J.bc,J.nx,r2,ht,hw,hn⟩
 | [],some v,A,β,a,w,h,J,_,ht,hw,hn=>⟨β, .pan v,A.bl,A.nx,A.wl,rfl,h,Y _ _ _ J.bc,J.nx,trivial,ht,hw,hn⟩
 |(f,as,cs)::ds,m,A,β,a,w,h,J,hl,ht,hw,hn=>by
  simp only[qF] at h;split at h
  ·rename_i k hk;split at h
   ·rename_i b m' ch hc;obtain⟨hb,h2⟩:=Xg.1 h;simp only[za2] at hb;obtain⟨rfl,hch⟩:=hb;obtain⟨hcb,hd⟩:=hΔ f k hk m A.bl β w (as++cs) m' ch J.bc (hl _ zbF) hc hch;obtain⟨k1,k2⟩:=oh hch
    have tr:Tr A.bl A.nx (ch.map (·.1)) β (chB A.bl ch) β:=⟨λi B hB=>by
     obtain⟨B',b1,b2,b3,b4,b5⟩:=k2 i B hB
     exact⟨B',b1,b2,b3,b4,b5⟩,λ_ _=>rfl,λi _ h0=>k1 i h0⟩
    have hinv:(invoke (.fn (.func f) (SV.concs β cs).toArray) (SV.concs β as).toArray).run P w= .ok (.enter f (SV.concs β (as++cs)).toArray) w:=by
     have e:(SV.concs β as).toArray++(SV.concs β cs).toArray=(SV.concs β (as++cs)).toArray:=by simp[SV.concs_eq]
     show (callFunc f ((SV.concs β as).toArray++(SV.concs β cs).toArray)).run P w=_;rw[e];exact hcb _ w
    refine leaves_cons (by cases m<;>simp[pq]) hinv (CallsD.mono hd ?_);rintro e u' w' ⟨⟨v,rfl⟩,hu,hbc⟩;simp only[hu];have:=mU (wl0:=wl0) Y hΔ ds m' {A with bl:=chB A.bl ch,wl:=ch.map (·.1)++A.wl} β a w' h2 ⟨(J.fr.carry tr).frame _ _,hbc,λi hi=>k1 i (J.nx i hi),J.sd⟩
     (λp hp s hs' i hi=>by
       have:=hl p (zan _ hp) s hs' i hi;cases hB:A.bl i with
       |none=>exact absurd hB this
       |some B=>obtain⟨B',b1,_⟩:=k2 i B hB;exact λh0=>by rw[show chB A.bl ch i=none from h0] at b1;cases b1)
     (ht.trans tr hn (λi hi=>by simp[hi]) (λi hi=>by simp[hi])) (λi hi=>by simp[hw i hi]) hn
    exact this
   ·exact h.elim
  ·exact h.elim
theorem D6 {x:SV} {z:Int} (h:NE x=some z):Pp x z=x:=by
 unfold NE at h;split at h
 ·simp only[za1] at h;subst h;rfl
 ·cases h
theorem vt: ∀(l:zdN) (i:Nat) (z:Int),Gu l i=some z->Gt l i z=l
 | [],i,z,h=>by simp[Gu] at h
 |x::l,0,z,h=>by simp only[Gt,D6 h]
 |x::l,i+1,z,h=>by simp only[Gt,vt l i z h]
theorem alT {T:List SV->Bool->Prop} {args:zdN} {i:Nat} {z:Int} (V:Gu args i=some z): ∀{l:List Int},x9 T args i z l-> ∃hq,T args hq
 | [],h=>⟨_,h⟩
 |n::r,h=>by
  obtain⟨h1,h2⟩:=VH.1 h;cases J:(z==n) with
  |true=>
   have:z=n:=by simpa using J
   subst this;have h:=h1 J;rw[vt args i z V] at h;exact⟨_,h⟩
  |false=>exact alT V (h2 J)
variable {args:zdN}
theorem Cm {T:List SV->Bool->Prop} (h:spl b T args): ∃hq,T args hq:=by
 cases b with
 |false=>exact⟨_,h⟩
 |true=>
  simp only[spl] at h;split at h
  ·rename_i z J;exact alT J h
  ·exact h.elim
theorem aaS {O:Type} {I:O->Prop} {T:(O->Prop)->List SV->Bool->Prop} (J: ∀args hq,Nice I λK=>T K args hq):Nice I λK=>spl b (T K) args:=by
 cases b with
 |false=>exact J args false
 |true=>
  simp only[spl];split
  ·rename_i z Y;have key: ∀l:List Int,Nice I λK=>x9 (T K) args 1 z l:=by
    intro l
    induction l with
    |nil=>exact J args true
    |cons n r V=>
     simp only[x9];cases (z==n) with
     |true=>exact J _ false
     |false=>exact V
   exact key _
  ·exact Nice.no λ_ h=>h
variable {wl:zdL}
theorem Z2 (Z:NX bl nx) {C:Option RC}:NiceT bl nx wl (λK=>abC bl nx wl K C):=by
 unfold NiceT;cases C with
 |none=>exact Nice.no λ_ h=>h
 |some C=>
  refine⟨λ{K K'} V Y=> ?_,λV=> ?_⟩
  ·obtain⟨hp,h⟩:=Xg.1 V;refine Xg.2 ⟨hp,λx hx=> ?_⟩;obtain⟨hc,h⟩:=Xg.1 (h x hx);obtain⟨a1,a2,a3⟩:=aus Z hc (C.nw x);refine Xg.2 ⟨hc,Y _ ⟨a1,by show nx<=nx+_;omega,λj B hB J=> ?_,a2,λj J=>by simp[J]⟩ h⟩;obtain⟨B',b1,_,_,_,b5⟩:=a3 j B hB;rw[b5 λY=>J (by simp only[za8];exact .inl Y)] at b1;exact b1
  ·obtain⟨hp,h⟩:=Xg.1 V;obtain⟨x,hx⟩:=C.ex (by rw[za2] at hp;exact hp.2);exact(Xg.1 (h x hx)).2
theorem abq (J:NX bl nx) {k:List SV->Option RC} (args:zdN):NiceT bl nx wl (λK=>abs k bl nx wl K args):=by
 by_cases h: ∃b r,args= .val (.bool b)::r
 ·obtain⟨b,r,rfl⟩:=h;cases b with
  |true=>exact Z2 J
  |false=>exact Z2 J
 ·refine Nice.no λK V=> ?_;unfold abs at V;split at V
  ·exact h ⟨_,_,rfl⟩
  ·exact V
theorem lN (ok:FuncId->Bool) (Γ:zdR) (Γm:FuncId->Option MCtr) (Δ:FuncId->Option DCtr) (ann:zdY): ∀n,cF (wn P ok Γ Γm Δ ann n)
 |0=>λf args bl nx wl V=>Nice.no λ_ h=>h
 |n+1=>λf args bl nx wl V=>by
  unfold NiceT;simp only[wn];cases ok f with
  |false=>exact Nice.no λ_ h=>h
  |true=>
   simp only[zdu];split
   ·rename_i k hk;cases (Γm (f+1073741824)).isSome with
    |false=>exact Z2 V
    |true=>exact abq V args
   ·split
    ·rename_i fn hfn;split
     ·rename_i c hc;refine aaS (T:=λ(K:Out->Prop) args hq=>vc P Γ (wn P ok Γ Γm Δ ann n) (ann f) c (gq P Δ fn.results.toList λr b n w=>K ⟨r,b,n,w⟩) (sa (ann f) (fB args fn.ntmps bl nx wl hq))) λargs hq=> ?_;refine Nice.bind (O:=Exit×AS) (O':=Out) (F:=λ(K:Out->Prop) o=>gq P Δ fn.results.toList (λr b n w=>K ⟨r,b,n,w⟩) o.1 o.2) (fQ (P:=P) (Γ:=Γ) (lN ok Γ Γm Δ ann n) (ann f) c (sa (ann f) (fB args fn.ntmps bl nx wl hq)) (by rw[(eA _ _).1,(eA _ _).2.1];exact V)) λo Y=> ?_;have Y:=Y.ofBd;exact Nice.weak (qh (P:=P) Y.nxs) λo' J=>⟨J.nxs,zac Y.nx J.le,λj B hB Z=>J.keep j B (Y.keep j B hB λhw=>Z (J.sub j hw)) Z,λj Z h0=>J.new j (zam Z Y.nx) (Y.new j Z h0),λj Z=>J.sub j (Y.wl j Z)⟩
     ·exact Nice.no λ_ h=>h
    ·exact Nice.no λ_ h=>h
theorem mV {P:Program} {W0:Base} {ok:FuncId->Bool} {Γ:zdR} {Γm:FuncId->Option MCtr} {Δ:FuncId->Option DCtr} (H:HypD P W0 ok Γ Γm Δ) (ann:zdY): ∀n,kn P W0 (wn P ok Γ Γm Δ ann n)
 |0=>by intro f args bl nx wl K β w h;exact h.elim
 |n+1=>by
  intro f args bl nx wl K β w h hbc hnx hl;simp only[wn] at h;cases hok:ok f with
  |false=>rw[hok] at h;exact h.elim
  |true=>
   rw[hok] at h;simp only[zdu] at h;refine⟨H.ok f hok, ?_⟩;split at h
   ·rename_i k hk;have go: ∀args,(∀s∈args,Live bl s)->abC bl nx wl K (k bl nx args)->Calls P f (SV.concs β args).toArray w λe w'=> ∃β' r bl' J V,Ends β' r e/\K r bl' J V/\BC W0 bl' β' w'/\NX bl' J/\sg bl' r/\Tr bl nx V β bl' β'/\(∀i∈wl,i∈V)/\nx<=J:=by
     intro args hl h;cases hC:k bl nx args with
     |none=>rw[hC] at h;exact h.elim
     |some C=>
     rw[hC] at h;obtain⟨hn,h⟩:=Xg.1 h;rw[za2] at hn;refine Calls.mono (H.mem W0 (SubB.refl W0) f k hk bl β w nx args C hbc (lK hnx hn.1) hnx hl hC hn.2) ?_;rintro e w' ⟨x,hx,β',he,g1,g2,g3⟩;obtain⟨hc,h⟩:=Xg.1 (h x hx);obtain⟨a1,a2,a3⟩:=aus hnx hc (C.nw x);refine⟨β',C.res x,_,_,_,he,h,g1,a1,g3,⟨λi B hB=> ?_,g2,a2⟩,λi hi=>by simp[hi],by omega⟩;obtain⟨B',b1,b2,b3,b4,b5⟩:=a3 i B hB;exact⟨B',b1,b2,b3,b4,λhi=>b5 λhm=>hi (by simp only[za8];exact .inl hm)⟩
    cases hh:(Γm (f+1073741824)).isSome with
    |false=>rw[hh] at h;exact go args hl h
    |true=>
     rw[hh] at h;simp only[] at h;unfold abs at h;split at h
     ·rename_i b r;have hl': ∀c:Bool,∀s∈SV.val (.bool c)::r,Live bl s:=λc s hs=>by
       rcases zai.1 hs with rfl|hs
       ·exact λi hi=>by simp[SV.ids] at hi
       ·exact hl s (zan _ hs)
      obtain⟨h1,h2⟩:=VH.1 h;cases b with
      |true=>exact go _ (hl' true) (h1 rfl)
      |false=>exact go _ (hl' false) (h2 rfl)
     ·exact h.elim
   ·split at h
    ·rename_i fn hfn;split at h
     ·rename_i c hc;have hf:P.funcs[f]? =some fn:=by simpa using hfn
      refine calls_of_wp_defers hf hc ?_;obtain⟨hq,h⟩:=Cm h;obtain⟨b1,b2,b3,_⟩:=eA (ann f) (fB args fn.ntmps bl nx wl hq);have hs:Is {W0 with sd:=(sa (ann f) (fB args fn.ntmps bl nx wl hq)).sd} (sa (ann f) (fB args fn.ntmps bl nx wl hq)) β {tmps:=(SV.concs β args).toArray++Array.replicate (fn.ntmps - (SV.concs β args).toArray.size) undef,defers:= []} w:=
       ⟨ae5 (yu β args fn.ntmps bl nx wl _ hl),by rw[b1];exact hbc.sd,by rw[b1,b2];exact hnx,rfl⟩
      refine Code.wp_mono ?_ (eV (H.gam.sub (SubB.sd _ _)) H.mixed (λB hB=>mV (H.sub (hB.trans (SubB.sd _ _))) ann n) (lN ok Γ Γm Δ ann n) (ann f) c _ _ β _ w h (hs.x (adi rfl)));rintro e a' w' ⟨A',β',hk,Y,ht⟩;have Y:=IsX.up Y;have ht:Trs (fB args fn.ntmps bl nx wl hq) β A' β':=⟨by have:=ht.tr;rw[b1,b2] at this;exact this,by have:=ht.wl;rw[b3] at this;exact this,by have:=ht.nx;rw[b2] at this;exact this,by rw[ht.nt];exact(eA _ _).2.2.2⟩;have fin: ∀m,qF P Δ fn.results.toList K A'.df m A'->Leaves P fn a'.tmps (λe w'=> ∃Z r bl' J V,Ends Z r e/\K r bl' J V/\BC W0 bl' Z w'/\NX bl' J/\sg bl' r/\Tr bl nx V β bl' Z/\(∀i∈wl,i∈V)/\nx<=J) a'.defers (pq m) w':=by
       intro m hm;rw[Y.fr.defers.1];exact mU (λ_ _ _ h=>h.unsd.unsd) (H.dem _ ((SubB.sd _ _).trans (SubB.sd _ _))) A'.df m A' β' a' w' hm Y Y.fr.defers.2 ht.tr ht.wl ht.nx
      rcases V8.1 hk with ⟨he,hr⟩|⟨v,rfl,hv⟩
      ·rcases he with rfl|rfl
       ·exact fin none hr
       ·exact fin none hr
      ·exact fin (some v) hv
     ·exact h.elim
    ·exact h.elim
theorem sO (H:Hyp P W0 ok Γ Γm) (ann:zdY) (n:Nat):kn P W0 (wq P ok Γ Γm ann n):=mV H ann n
def gw:List (FuncId×Ctr)->zdR
 | [],_=>none
 |(g,k)::r,f=>bif Nat.beq f g then some k else gw r f
def gx:List (FuncId×MCtr)->FuncId->Option MCtr
 | [],_=>none
 |(g,k)::r,f=>bif Nat.beq f g then some k else gx r f
def iR (l:List FuncId) (f:FuncId):Bool:=l.any (Nat.beq f)
theorem pt: ∀{l:List (FuncId×Ctr)} {f:FuncId} {k:Ctr},gw l f=some k->(f,k)∈l
 | [],f,k,h=>by cases h
 |(g,c)::r,f,k,h=>by
  simp only[gw] at h;cases J:Nat.beq f g with
  |true=>
   rw[J] at h;simp only[zdu,za1] at h;subst h;rw[zab J];simp
  |false=>rw[J] at h;exact zan _ (pt h)
abbrev _root_.ze0:=List (FuncId×MCtr)
theorem vw: ∀{l:ze0} {f:FuncId} {k:MCtr},gx l f=some k->(f,k)∈l
 | [],f,k,h=>by cases h
 |(g,c)::r,f,k,h=>by
  simp only[gx] at h;cases J:Nat.beq f g with
  |true=>
   rw[J] at h;simp only[zdu,za1] at h;subst h;rw[zab J];simp
  |false=>rw[J] at h;exact zan _ (vw h)
theorem mW {gam:List (FuncId×Ctr)} {gm:ze0} {oks:List FuncId} (Y: ∀p∈gam,CtrOK P W0 p.1 p.2/\V0 P p.1) (Z: ∀B,SubB B W0-> ∀p∈gm,VU P B p.1 p.2) (V: ∀f∈oks,V0 P f) (J:P.follows .mixedOrders=true):
 Hyp P W0 (iR oks) (gw gam) (gx gm) where
 gam:=⟨λf k h=>(Y _ (pt h)).1,λf k h=>(Y _ (pt h)).2⟩
 mem:=λB hB f k h=>Z B hB _ (vw h)
 dem:=λ_ _ _ _ h=>by cases h
 ok:=λf h=>by
  unfold iR at h;simp only[zaP] at h;obtain⟨g,hg,hb⟩:=h;rw[zab hb];exact V g hg
 mixed:=J
theorem abD (h:NX bl nx):fv bl nx []=bl:=by
 funext i
 unfold fv;rw[aB];by_cases hi:i<nx
 ·simp[hi]
 ·simp[hi,h i (by omega)]
theorem abx {w':World} {s:SV} (J:BC W0 bl β w) (V:NX bl nx) (Z:s.ids= []) (Y:Below w.heap.size w w'):BC W0 (fv bl nx []) β w'/\(∀i,bl i≠none->β i=β i)/\Live (fv bl nx []) s:=by
 rw[abD V];exact⟨J.step Y,λ_ _=>rfl,aW Z⟩
theorem sP (w:World) (β:zdM):BC w (λ_=>none) β w where
 below:=Pres.refl _
 blk:=λ_ _ h=>by cases h
 own:=λ_ _ h=>by cases h
 old:=λ_ _ h=>by cases h
 inj:=λ_ _ _ _ h=>by cases h
 live:=λ_ _ _ _ _ h=>by cases h
 maps:=⟨λ_ _ h=>(by cases h),λ_ _ _ _ h=>(by cases h),λ_ _ _ _ h=>(by cases h),λ_ _ h=>by cases h⟩
theorem run_pure (H:Hyp P w ok Γ Γm) (ann:zdY) (n:Nat) (f:FuncId) (args:zdN) (J:SV.idss args= []) (Q:zdU)
 (h:wq P ok Γ Γm ann n f args (λ_=>none) 0 [] (okK λr _ _ _=>r.ids= []/\Q r)):
 Calls P f (SV.concs oj args).toArray w λe w'=> ∃r,e= .returned (r.conc oj)/\r.ids= []/\Q r/\Below w.heap.size w w':=by
 obtain⟨_,h⟩:=sO H ann n f args _ 0 [] _ oj w h (sP w oj) (λ_ _=>rfl) (λs hs i hi=>by
  have:i∈SV.idss args:=SV.mem_idss.2 ⟨s,hs,hi⟩
  rw[J] at this;cases this)
 refine Calls.mono h ?_;rintro e w' ⟨β',r,bl',nx',wl',Z,Y,V,_⟩;cases r with
 |pan v=>exact Y.elim
 |ok r=>
 obtain rfl:e=_:=Z;obtain⟨hi,hq⟩:=Y;exact⟨r,by rw[SV.conc_congr r (β:=oj) (β':=β') (λi h=>by rw[hi] at h;cases h)],hi,hq,V.below.below⟩
end
end Go.Sy
