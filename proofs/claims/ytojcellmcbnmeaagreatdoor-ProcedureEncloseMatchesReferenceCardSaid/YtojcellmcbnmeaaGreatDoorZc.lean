import Derived.Test.YtojcellmcbnmeaaGreatDoorZb
import Derived.Scope
import Derived.ArgAppend
import Derived.MapKept
import Derived.Defers
import Derived.Maps.RangeRun
set_option linter.unusedVariables false
set_option linter.unusedSimpArgs false
namespace Go.Sy
open Go.RowKit
section
variable {P:Program} {W0:Base}
def NX (bl:zdM) (nx:Nat):Prop:= ∀i,nx<=i->bl i=none
theorem aum (bo:Bool): ∀(L:List (Nat×Int)) (i:Nat),(dS bo i L).length=L.length
 | [],i=>rfl
 |(k,v)::L,i=>by simp[dS,aum bo L]
theorem uZ (bo:Bool) (k:Nat) (z:Int): ∀(L:List (Nat×Int)) (i:Nat),dS bo i (L++ [(k,z)])=dS bo i L++ [{key:= .int .i64 k,val:=valF bo z,born:=i+L.length}]
 | [],i=>by simp[dS]
 |(H,v)::L,i=>by simp[dS,uZ bo k z L (i+1),zbr,zb3 1]
theorem yh (bo:Bool) (k:Nat) (z H:Int): ∀(L:List (Nat×Int)) (i m:Nat),L[m]? =some (k,H)->dS bo i (L.set m (k,z))=(dS bo i L).modify m (λe=>{e with key:= .int .i64 k,val:=valF bo z})
 | [],i,m,h=>by simp at h
 |(J,v)::L,i,0,h=>by simp at h;obtain⟨rfl,rfl⟩:=h;simp[dS]
 |(J,v)::L,i,m+1,h=>by simp only[zaR,dS,List.modify_succ_cons];rw[yh bo k z H L (i+1) m (by simpa using h)]
theorem nZ (bo:Bool): ∀(L:List (Nat×Int)) (i m:Nat) (k:Nat) (z:Int),L[m]? =some (k,z)->(dS bo i L)[m]? =some {key:= .int .i64 k,val:=valF bo z,born:=i+m}
 | [],i,m,k,z,h=>by simp at h
 |(H,v)::L,i,0,k,z,h=>by simp at h;obtain⟨rfl,rfl⟩:=h;simp[dS]
 |(H,v)::L,i,m+1,k,z,h=>by
  simp only[dS,zcf];rw[nZ bo L (i+1) m k z (by simpa using h),show i+1+m=i+(m+1) by omega]
theorem Vt (k:Nat) (z:Int): ∀(L:List (Nat×Int)) (j:Nat),(∀p∈L,p.1≠k)->d9 (L++ [(k,z)]) j=if j=k then z else d9 L j
 | [],j,_=>by
   simp only[zaM,d9];by_cases h:k=j
   ·subst h;simp
   ·simp[h,Ne.symm h]
 |(J,v)::L,j,h=>by
  have h0:=h _ zbF;simp only[] at h0;simp only[zaO,d9];by_cases H:J=j
  ·subst H;simp[h0]
  ·simp only[if_neg H];exact Vt k z L j λp hp=>h p (zan _ hp)
theorem u5 (k:Nat) (z V:Int): ∀(L:List (Nat×Int)) (m j:Nat),L[m]? =some (k,V)->(∀n,n<m-> ∀p,L[n]? =some p->p.1≠k)->d9 (L.set m (k,z)) j=if j=k then z else d9 L j
 | [],m,j,h,_=>by simp at h
 |(J,v)::L,0,j,h,_=>by
  simp at h;obtain⟨rfl,rfl⟩:=h;simp only[zba,d9];by_cases H:J=j
  ·subst H;simp
  ·simp[H,Ne.symm H]
 |(J,v)::L,m+1,j,h,N=>by
  have h0:=N 0 (by omega) (J,v) rfl;simp only[] at h0;simp only[zaR,d9];by_cases H:J=j
  ·subst H;simp[h0]
  ·simp only[if_neg H];exact u5 k z V L m j (by simpa using h) λn Y p hp=>N (n+1) (by omega) p (by simpa using hp)
variable {w:World} {t:TypeId}
theorem yi {β:zdJ} {b:Nat} {bo:Bool} {L:List (Nat×Int)} {kt et:TypeId} (ht:P.underlying t=some (.map kt et)) (N:P.underlying kt=some (.int .i64))
 (V:w.heap[b]? =some (.map (dS bo 0 L).toArray L.length)) (k:Nat) (z:Int):
 ∃L',(Instr.mapUpdate t (.map (some b)) (.int .i64 k) (valF bo z)).run P w= .ok () {w with heap:=w.heap.setIfInBounds b (.map (dS bo 0 L').toArray L'.length)}/\
  (∀j,d9 L' j=if j=k then z else d9 L j)/\(∀p∈L',p∈L\/p=(k,z))/\((L.map (·.1)).Nodup->(L'.map (·.1)).Nodup):=by
 have H:MapKept.IsKey (.int .i64) (.int .i64 (k:Int)):=rfl;rcases lH bo k L 0 0 with ⟨h1,h2,h3⟩|⟨m,Y,h1,h2,h3,h4⟩
 ·refine⟨L++ [(k,z)], ?_,λj=>Vt k z L j h2,λp hp=>by simpa using hp,λZ=> ?_⟩
  ·simp[Instr.mapUpdate,run_underlying ht,MapKept.run_getObj_map V,MapKept.run_checkKey N H,MapKept.run_findKey N h1,MapKept.run_setObj_map _ V,Result.andThen,uZ]
  ·rw[zb8,zca];refine⟨Z,by simp,λa ha b hb e=> ?_⟩;obtain⟨p,hp,rfl⟩:=zaz.1 ha;simp only[zaK,zc5,zaj] at hb;exact h2 p hp (e.trans hb)
 ·have J:=nZ bo L 0 m k Y h2;have a0:(dS bo 0 L).toArray[m]? =some {key:= .int .i64 k,val:=valF bo Y,born:=0+m}:=by simpa using J
  refine⟨L.set m (k,z), ?_,λj=>u5 k z Y L m j h2 h4,λp hp=> ?_,λZ=> ?_⟩
  ·rw[za7] at h1;simp[Instr.mapUpdate,run_underlying ht,MapKept.run_getObj_map V,MapKept.run_checkKey N H,MapKept.run_findKey N h1,J,MapKept.run_keyThatStays H,MapKept.run_setObj_map _ V,Result.andThen,yh bo k z Y L 0 m h2]
  ·rcases zcL hp with h|h
   ·exact .inl h
   ·exact .inr h
  ·rw[List.map_set];have:(L.map (·.1))[m]? =some k:=by rw[zaL,h2];rfl
   rw[show (L.map (·.1)).set m k=L.map (·.1) from by
    apply List.ext_getElem?;intro j;rw[List.getElem?_set];split
    ·rename_i J;subst J;split
     ·exact this.symm
     ·rename_i J;rw[zad (by simpa using J)]
    ·rfl]
   exact Z
variable {bl:zdM} {nx:Nat} {β:zdJ}
theorem Tr.newB (H:NX bl nx) (B:Blk) {L:Loc}:Tr bl nx [nx] β (upd bl nx B) (gp β nx L):=
 have ne: ∀i,bl i≠none->i≠nx:=λi hi e=>hi (H i (by omega))
 ⟨λi C J=>⟨C,by rw[ak (ne i (by rw[J];simp))];exact J,rfl,⟨rfl,rfl⟩, .inl rfl,λ_=>rfl⟩,λi hi=>aC (ne i hi),λi hi h=>by rw[ak (by omega)];exact h⟩
variable {i:Nat} {B:Blk}
theorem Tr.put (hB:bl i=some B) (get:zdN) :Tr bl nx [i] β (upd bl i {B with get:=get}) β:=by
 refine⟨λj C H=> ?_,λ_ _=>rfl,λj J h=> ?_⟩
 ·by_cases h:j=i
  ·subst h;rw[hB] at H;obtain rfl:B=C:=by simpa using H
   exact⟨_,az _ _ _,rfl,⟨rfl,rfl⟩, .inl rfl,λh=>absurd (zaj.2 rfl) h⟩
  ·exact⟨C,by rw[ak h];exact H,rfl,⟨rfl,rfl⟩, .inl rfl,λ_=>rfl⟩
 ·rw[ak (λe=>by rw[e,hB] at h;cases h)];exact h
theorem lK (H:NX bl nx) (h:Gd bl nx=true): ∀j B,bl j=some B->B.kd.it=false:=by
 intro j B hB;have J:j<nx:=by
  rcases zah j nx with h|h
  ·exact h
  ·rw[H j h] at hB;cases hB
 have:=zaf.1 h j (zaC.2 J);rw[hB] at this;simpa using this
def se (P:Program) (W0:Base) (bl:zdM) (nx:Nat) (β:zdJ) (w:World) (s:Result Next) (K:Aft):Prop:=
 (∃v,s= .halt (.panic v) w/\K (.pan v) bl nx [])\/
 ∃β' w' r bl' H wl,(s= .ok (.value (r.conc β')) w'\/(s= .ok .skip w'/\r= .val undef))/\K (.ok r) bl' H wl/\BC W0 bl' β' w'/\NX bl' H/\Live bl' r/\Tr bl nx wl β bl' β'/\nx<=H
variable {K:Aft}
theorem vd (Y:BC W0 bl β w) (a0:NX bl nx) {k v:SV} (hk:Live bl k) (hv:Live bl v) (h:runX P bl nx (.set t i k v) K):
 se P W0 bl nx β w ((do Instr.mapUpdate t (.map (some (β i).blk)) (k.conc β) (v.conc β);pure Next.skip:Sem Next).run P w) K:=by
 simp only[runX] at h;split at h
 ·rename_i kt et B ht hB;have n0: ∀C,NX (upd bl i C) nx:=λC j hj=>by rw[ak (λe=>by rw[<-e,a0 j hj] at hB;cases hB)];exact a0 j hj
  have e0: ∀{get o'},B.kd.map=true->(Instr.mapUpdate t (.map (some (β i).blk)) (k.conc β) (v.conc β)).run P w= .ok () {w with heap:=w.heap.setIfInBounds (β i).blk o'}->MapOK β (β i).blk {w with heap:=w.heap.setIfInBounds (β i).blk o'} B.kd get->
   (B.kd.lst=true-> ∀e s,s∈get e->Live bl s)->(∀j D,bl j=some D->D.kd.it=false)->K (.ok (.val undef)) (upd bl i {B with get:=get}) nx [i]->se P W0 bl nx β w ((do Instr.mapUpdate t (.map (some (β i).blk)) (k.conc β) (v.conc β);pure Next.skip:Sem Next).run P w) K:=by
   intro get o' hm i0 m0 hl J hK;refine .inr ⟨β,_, .val undef,_,nx, [i], .inr ⟨by rw[zdF,i0];rfl,rfl⟩,hK,Y.setMap hB hm m0 hl (.inr J),n0 _,λj hj=>by simp[SV.ids] at hj,Tr.put hB get,za0 _⟩
  split at h
  ·rename_i H;obtain⟨m1,m2,m3,m4⟩:=Y.maps.ok i B hB (by rw[H];rfl);rw[H] at m4;obtain⟨es,e1,e2,e3,e4⟩:=m4;split at h
   ·rename_i l hl;obtain⟨a1,a2,a3⟩:=lG e3 e4 64 0 l (zaA _) hl;split at h
    ·rename_i b c hb hc;obtain⟨Z,hK⟩:=Xg.1 h;rw[za2] at Z;obtain⟨J,Z⟩:=Z;have J:=lK a0 J;simp only[za2,aB,zdt] at Z;obtain⟨rfl,o0⟩:=Z;obtain⟨d,hd,g0,_⟩:=js (β:=β) hc;have hf:=pg (β:=β) hd l 0 0 hb;rw[zaZ] at a1;rw[<-a1] at hf;rw[za7] at a2;refine e0 (o':= .map (es.push {key:=k.conc β,val:=v.conc β,born:=es.size}) (es.size+1)) (by rw[H];rfl) ?_ ?_ ?_ J hK
     ·simp[Instr.mapUpdate,run_underlying ht,MapKept.run_getObj_map e1,MapKept.run_checkKey hd g0,MapKept.run_findKey hd hf,MapKept.run_setObj_map _ e1,Result.andThen]
     ·rw[H];refine⟨es.push {key:=k.conc β,val:=v.conc β,born:=es.size},by simpa using (MapKept.heap_set e1).1,by simp;omega,λe he=> ?_,λe he=> ?_⟩
      ·simp only[Array.size_push] at he;unfold J9;rw[bS,a2];by_cases V:e=es.size
       ·subst V;exact⟨k,v,by simp,by simp⟩
       ·obtain⟨k',v',k1,k2⟩:=e3 e (by omega);exact⟨k',v',by simp[V,k1],by rw[Array.getElem?_push,if_neg V];exact k2⟩
      ·simp only[Array.size_push] at he;unfold J9;rw[bS,a2,zds (by omega)];exact e4 e (by omega)
     ·intro _ e s hs;unfold J9 at hs;rw[bS] at hs;by_cases V:e=l.length
      ·simp[V] at hs;rcases hs with rfl|rfl
       ·exact hk
       ·exact hv
      ·simp[V] at hs;exact Y.maps.live i B e s hB (by rw[H];rfl) hs
    ·exact h.elim
   ·exact h.elim
  ·rename_i H;obtain⟨m1,m2,m3,m4⟩:=Y.maps.ok i B hB (by rw[H];rfl);rw[H] at m4;obtain⟨L,e1,e2⟩:=m4;split at h
   ·rename_i kz vz hu;obtain⟨N,h⟩:=Xg.1 h;rw[za2] at N;obtain⟨J,N⟩:=N;have J:=lK a0 J;have N:=zdu N;obtain⟨L',r1,r2,_⟩:=yi (β:=β) (bo:=false) ht hu e1 kz.toNat vz;refine e0 (o':= .map (dS false 0 L').toArray L'.length) (by rw[H];rfl) ?_ ?_ (λe=>by rw[H] at e;cases e) J h
    ·have:((kz.toNat:Int))=kz:=zcc N;rw[this] at r1;exact r1
    ·rw[H];refine⟨L',(MapKept.heap_set e1).1,λj=> ?_⟩;rw[r2];show (bif Nat.beq j kz.toNat then vz else iG (B.get j))=_;rw[bS,e2];by_cases hj:j=kz.toNat<;>simp[hj]
   ·exact h.elim
  ·rename_i H;obtain⟨m1,m2,m3,m4⟩:=Y.maps.ok i B hB (by rw[H];rfl);rw[H] at m4;obtain⟨L,e1,e2,e3,e4⟩:=m4;split at h
   ·rename_i kz vb hu;obtain⟨N,hK⟩:=Xg.1 h;rw[za2] at N;obtain⟨J,N⟩:=N;have J:=lK a0 J;simp only[za2,zdt] at N;obtain⟨rfl,N⟩:=N;obtain⟨L',r1,r2,r3,r4⟩:=yi (β:=β) (bo:=true) ht hu e1 kz.toNat 1;refine e0 (o':= .map (dS true 0 L').toArray L'.length) (by rw[H];rfl) ?_ ?_ (λe=>by rw[H] at e;cases e) J hK
    ·have:((kz.toNat:Int))=kz:=zcc N;rw[this] at r1;exact r1
    ·rw[H];refine⟨L',(MapKept.heap_set e1).1,λj=> ?_,λp hp=> ?_,r4 e4⟩
     ·rw[r2];show (Nat.beq j kz.toNat||su (B.get j))=_;rw[bS,e2];by_cases hj:j=kz.toNat<;>simp[hj]
     ·rcases r3 p hp with h|rfl
      ·exact e3 p h
      ·rfl
   ·exact h.elim
  ·exact h.elim
 ·exact h.elim
theorem Tr.gone (hB:bl i=some B) :Tr bl nx [i] β (upd bl i {B with kd:= .gone}) β:=by
 refine⟨λj C H=> ?_,λ_ _=>rfl,λj J h=> ?_⟩
 ·by_cases h:j=i
  ·subst h;rw[hB] at H;obtain rfl:B=C:=by simpa using H
   exact⟨_,az _ _ _,rfl,⟨rfl,rfl⟩, .inr rfl,λh=>absurd (zaj.2 rfl) h⟩
  ·exact⟨C,by rw[ak h];exact H,rfl,⟨rfl,rfl⟩, .inl rfl,λ_=>rfl⟩
 ·rw[ak (λe=>by rw[e,hB] at h;cases h)];exact h
theorem ve {get:zdN} {z:Nat} {f:zdQ} {k v:Nat->SV} (h1: ∀e,e<z->get e= [.val (.bool (f e)),k e,v e]) (h2: ∀e,z<=e->get e= []):
 ∀(n e:Nat) (l:List (Bool×SV×SV)),e<=z->Ge get n e=some l->e+l.length=z/\ ∀j,e+j<z->l[j]? =some (f (e+j),k (e+j),v (e+j))
 |0,e,l,_,h=>by simp[Ge] at h
 |n+1,e,l,he,h=>by
  simp only[Ge] at h;rcases zah e z with H|N
  ·rw[h1 e H] at h;simp only[zbE] at h;obtain⟨r,Y,rfl⟩:=h;obtain⟨Z,J⟩:=ve h1 h2 n (e+1) r H Y;refine⟨by simp;omega,λj V=> ?_⟩;cases j with
   |zero=>rfl
   |succ j=>
    rw[zcf,J j (by omega),show e+1+j=e+(j+1) by omega]
  ·obtain rfl:e=z:=by omega
   rw[h2 _ (za0 _)] at h;simp only[za1] at h;subst h;exact⟨by simp,λj V=>by omega⟩
theorem wx {F:Nat->SV->zdR}: ∀{l:List (Bool×SV×SV)} {e j:Nat} {k v:SV},Gf l e F->l[j]? =some (true,k,v)->F (e+j) k v
 | [],e,j,k,v,_,h=>by simp at h
 |(b,J,N)::r,e,0,k,v,h,H=>by
  simp only[zbA,za1,zag] at H;obtain⟨rfl,rfl,rfl⟩:=H;exact h.1
 |(b,J,N)::r,e,j+1,k,v,h,H=>by
  rw[show e+(j+1)=e+1+j by omega];exact wx h.2 (by simpa using H)
theorem DL (N:BC W0 bl β w) (e0:NX bl nx) (h:runX P bl nx (.rng t i) K):
 se P W0 bl nx β w ((do let v <-Instr.range t (.map (some (β i).blk));pure (Next.value v):Sem Next).run P w) K:=by
 have hid:=e0 nx (za0 _);have m0: ∀C,NX (upd bl nx C) (nx+1):=λC j Y=>by rw[ak (by omega)];exact e0 j (by omega)
 simp only[runX] at h;split at h
 ·rename_i kt et B ht hB;have g0: ∀{kd get es H},kd.map=true->w.heap[(β i).blk]? =some (.map es H)->MapOK (gp β nx ⟨w.heap.size,0,0,0,false⟩) w.heap.size (w.alloc (.mapIter (some (β i).blk) H #[] H)) kd get->
   (kd.lst=true-> ∀e s,s∈get e->Live bl s)->K (.ok (.ptr nx 0 0)) (upd bl nx {n:=0,sz:=0,get:=get,kd:=kd}) (nx+1) [nx]->se P W0 bl nx β w ((do let v <-Instr.range t (.map (some (β i).blk));pure (Next.value v):Sem Next).run P w) K:=by
   intro kd get es H hm hb i0 hl hK;refine .inr ⟨_,_, .ptr nx 0 0,_,nx+1, [nx], .inl ?_,hK,N.newObj hid hm i0 hl,m0 _,λj Y=> ?_,Tr.newB e0 _,zaT _⟩
   ·rw[zdF,run_range_map w t kt et _ es H ht hb];simp[SV.conc,addr,aA,Result.andThen]
   ·simp only[SV.ids,zaj] at Y;subst Y;rw[az];simp
  split at h
  ·rename_i J;obtain⟨m1,m2,m3,m4⟩:=N.maps.ok i B hB (by rw[J];rfl);rw[J] at m4;obtain⟨es,e1,e2,e3,e4⟩:=m4;have a0:=(zaq.1 e1).1;refine g0 (kd:= .itL) (get:=rM B.get) rfl e1 ⟨(β i).blk,es.size,es.size,es.size, #[],es,heap_alloc_new _ _,by rw[heap_alloc_old _ _ a0];exact e1,λx hx=> ?_,za0 _,za0 _,e2,λe V=> ?_,λe V=> ?_, .inl rfl⟩ (λ_ e s hs=> ?_) h
   ·obtain⟨j,Y,rfl⟩:=zbR hx;have Z:j<es.size:=by simpa using Y
    obtain⟨k,v,_,k2⟩:=e3 j Z;rw[zcq Z] at k2;simp only[Array.getElem_toList];rw[zbk k2];exact Z
   ·obtain⟨k,v,k1,k2⟩:=e3 e V;have lv: ∀s∈B.get e,s.conc (gp β nx ⟨w.heap.size,0,0,0,false⟩)=s.conc β:=λs hs=>(N.maps.live i B e s hB (by rw[J];rfl) hs).conc hid;exact⟨k,v,by simp[rM,k1],by rw[lv k (by simp[k1]),lv v (by simp[k1])];exact k2⟩
   ·simp[rM,e4 e V]
   ·cases e with
    |zero=>simp[rM] at hs
    |succ e=>
    rcases zah e es.size with V|V
    ·obtain⟨k,v,k1,k2⟩:=e3 e V;simp only[rM,k1,zai,zbx,or_false] at hs;rcases hs with rfl|rfl|rfl
     ·intro j Y;simp[SV.ids] at Y
     ·exact N.maps.live i B e _ hB (by rw[J];rfl) (by simp[k1])
     ·exact N.maps.live i B e _ hB (by rw[J];rfl) (by simp[k1])
    ·simp[rM,e4 e V] at hs
  ·rename_i J;obtain⟨m1,m2,m3,m4⟩:=N.maps.ok i B hB (by rw[J];rfl);rw[J] at m4;obtain⟨L,e1,e2,e3,e4⟩:=m4;have a0:=(zaq.1 e1).1;refine g0 (kd:= .itK) (get:=MU B.get) rfl e1 ⟨(β i).blk,L.length,L.length, #[],L,heap_alloc_new _ _,by rw[heap_alloc_old _ _ a0];exact e1,rfl,za0 _,e3,e4,λk=> ?_, .inl rfl⟩ (λe=>by cases e) h;show su (B.get k)=true↔_;rw[e2,zdB];have key: ∀(L:List (Nat×Int)),(∀p∈L,p.2=1)->(d9 L k≠0↔ ∃i:Nat,(L.map (·.1))[i]? =some k/\(#[]:Array Nat).contains i=false):=by
    intro L hL
    induction L with
    |nil=>simp[d9]
    |cons p L ih=>
     obtain⟨k',z⟩:=p;have hz:z=1:=hL (k',z) (by simp);subst hz;simp only[d9];by_cases hk:k'=k
     ·rw[if_pos hk];subst hk;exact⟨λ_=>⟨0,rfl,by simp⟩,λ_=>by decide⟩
     ·rw[if_neg hk,ih λp hp=>hL p (zan _ hp)];constructor
      ·rintro⟨j,h1,h2⟩;exact⟨j+1,by simpa using h1,by simp⟩
      ·rintro⟨j,h1,h2⟩;cases j with
       |zero=>simp at h1;exact absurd h1 hk
       |succ j=>exact⟨j,by simpa using h1,by simp⟩
   exact key L e3
  ·exact h.elim
 ·exact h.elim
variable {ty:TypeId}
theorem DM (a0:BC W0 bl β w) (H0:NX bl nx) (h:runX P bl nx (.nxt i) K):
 se P W0 bl nx β w ((do let v <-Instr.next ((SV.ptr i 0 0).conc β) false ty;pure (Next.value v):Sem Next).run P w) K:=by
 simp only[runX] at h;split at h
 ·rename_i B hB;have O0: ∀C,NX (upd bl i C) nx:=λC j N=>by rw[ak (λe=>by rw[<-e,H0 j N] at hB;cases hB)];exact H0 j N
  have E0: ∀{m H c0 seen es J},B.kd.it=true->w.heap[(β i).blk]? =some (.mapIter (some m) H seen c0)->w.heap[m]? =some (.map es J)->(∀x∈es.toList,x.born<H)->H<=c0->
   ((leftOf es seen).size=0->K (.ok (.tup [.val (.bool false)])) (upd bl i {B with kd:= .gone}) nx [i])->
   (∀e∈(leftOf es seen).toList,∃k v get,k.conc β=e.key/\v.conc β=e.val/\Live bl k/\Live bl v/\K (.ok (.tup [.val (.bool true),k,v])) (upd bl i {B with get:=get}) nx [i]/\(B.kd.lst=true-> ∀e s,s∈get e->Live bl s)/\
     ∀w':World,w'.heap[(β i).blk]? =some (.mapIter (some m) H (seen.push e.born) J)->w'.heap[m]? =some (.map es J)->MapOK β (β i).blk w' B.kd get)->
   se P W0 bl nx β w ((do let v <-Instr.next ((SV.ptr i 0 0).conc β) false ty;pure (Next.value v):Sem Next).run P w) K:=by
   intro m H c0 seen es J hit hr hb M0 Z0 h0 h1;have hm:=BK.it_map hit;have L0:=a0.maps.off i B hB hit;have N0:(SV.ptr i 0 0).conc β= .pointer (some ⟨(β i).blk,0,none⟩):=by simp[SV.conc,addr,L0]
   have y0:m≠(β i).blk:=λe=>by rw[e,hr] at hb;cases hb
   rw[N0];rcases run_next_at (P:=P) w ty (β i).blk m H c0 seen es J hr hb M0 Z0 with ⟨k0,i0⟩|⟨e,he,w1,r0,i0⟩
   ·exact .inr ⟨β,w, .tup [.val (.bool false)],_,nx, [i], .inl (by rw[zdF,i0];rfl),h0 k0,a0.kill i rfl,O0 _,λj N=>by simp[SV.ids,SV.idss] at N,Tr.gone hB,za0 _⟩
   ·obtain⟨k,v,get,hk,hv,lk,lv,hK,hl,U0⟩:=h1 e he;have z0:BC W0 bl β w1:=by
     rcases r0 with rfl|rfl
     ·exact a0
     ·exact a0.step (zdD _ _).drew
    have Y0:w1.heap[(β i).blk]? =some (.mapIter (some m) H seen c0):=by rcases r0 with rfl|rfl<;>exact hr
    have Q0:w1.heap[m]? =some (.map es J):=by rcases r0 with rfl|rfl<;>exact hb
    have q0:=MapKept.heap_set (o':= .mapIter (some m) H (seen.push e.born) J) Y0;refine .inr ⟨β,_, .tup [.val (.bool true),k,v],_,nx, [i], .inl (by rw[zdF,i0];simp[SV.conc,SV.concs,hk,hv,Result.andThen];rfl),hK,z0.setMap hB hm (o':= .mapIter (some m) H (seen.push e.born) J) (U0 _ q0.1 ((q0.2 m y0).trans Q0)) hl (.inl hit),O0 _,λj N=> ?_,Tr.put hB get,za0 _⟩;simp only[SV.ids,SV.idss,zbf,zaM,za8] at N;rcases N with N|N
    ·exact Live.upd lk j N
    ·exact Live.upd lv j N
  split at h
  ·rename_i Y;obtain⟨m1,m2,m3,m4⟩:=a0.maps.ok i B hB (by rw[Y];rfl);rw[Y] at m4;obtain⟨m,H,c0,J,seen,es,e1,e2,e3,e4,e5,e6,e7,e8,e9⟩:=m4;split at h
   ·rename_i l hl;obtain⟨h0,h1⟩:=h;have R0: ∃k v:Nat->SV,∀e,e<es.size->B.get (e+1)= [.val (.bool (!seen.contains e)),k e,v e]/\es[e]? =some {key:=(k e).conc β,val:=(v e).conc β,born:=e}:=by
     refine⟨λe=>((B.get (e+1))[1]?).getD (.val undef),λe=>((B.get (e+1))[2]?).getD (.val undef),λe he=> ?_⟩;obtain⟨k,v,k1,k2⟩:=e7 e he;simp only[k1];exact⟨rfl,k2⟩
    obtain⟨k,v,m0⟩:=R0;obtain⟨a1,a2⟩:=ve (λe he=>(m0 e he).1) e8 65 0 l (zaA _) hl;refine E0 (by rw[Y];rfl) e1 e2 e3 e4 (λhz=> ?_) λe he=> ?_
    ·have:l.any (·.1)=false:=by
      rw[List.any_eq_false];intro p hp n0;obtain⟨j,N,rfl⟩:=zbR hp;have V:0+j<es.size:=by omega
      have:=a2 j V;rw[zaa N] at this;rw[zbk this] at n0;have x0:=(m0 (0+j) V).2;have p0:=all_seen es seen hz _ (by rw[Array.mem_toList_iff];exact zd1 x0);simp only[] at p0 n0;rw[p0] at n0;cases n0
     rw[this] at h0;exact h0
    ·obtain⟨w0,e0⟩:=mem_left he;obtain⟨j,N,rfl⟩:=zbR w0;have V:j<es.size:=by simpa using N
     obtain⟨k1,k2⟩:=m0 j V;have k3:es.toList[j]={key:=(k j).conc β,val:=(v j).conc β,born:=j}:=by
      rw[zcq V] at k2;simpa using k2
     rw[k3] at e0 ⊢;simp only[] at e0;have C0:=a2 j (by omega);rw[za7,e0] at C0;have hF:=wx h1 C0;rw[za7] at hF;have lv:=λe s Z=>a0.maps.live i B e s hB (by rw[Y];rfl) Z;refine⟨k j,v j,_,rfl,rfl,lv (j+1) _ (by rw[k1];simp),lv (j+1) _ (by rw[k1];simp),hF,λ_ e s Z=> ?_,λw' q1 q2=> ?_⟩
     ·cases e with
      |zero=>
       simp only[nN,zai,zbx,or_false] at Z;rcases Z with rfl|rfl
       ·exact lv (j+1) _ (by rw[k1];simp)
       ·exact lv (j+1) _ (by rw[k1];simp)
      |succ e=>
      simp only[nN,bS] at Z;by_cases g0:e=j
      ·subst g0;simp only[decide_true,zdr,k1,Nx,zai,zbx,or_false] at Z;rcases Z with rfl|rfl|rfl
       ·intro x hx;simp[SV.ids] at hx
       ·exact lv (e+1) _ (by rw[k1];simp)
       ·exact lv (e+1) _ (by rw[k1];simp)
      ·simp only[g0,decide_false,zdq] at Z;exact lv (e+1) s Z
     ·rw[Y];refine⟨m,H,J,J,seen.push j,es,q1,q2,e3,e5,e5,e6,λe he=> ?_,λe he=> ?_, .inr ⟨seen,j,k j,v j,rfl,rfl,rfl,k2⟩⟩
      ·obtain⟨p1,p2⟩:=m0 e he;refine⟨k e,v e, ?_,p2⟩;simp only[nN,bS];rw[contains_push];by_cases g0:e=j
       ·subst g0;simp[k1,Nx]
       ·simp[g0,p1]
      ·simp only[nN,bS];rw[zds (by omega)];exact e8 e he
   ·exact h.elim
  ·rename_i Y;obtain⟨m1,m2,m3,m4⟩:=a0.maps.ok i B hB (by rw[Y];rfl);rw[Y] at m4;obtain⟨m,H,c0,seen,L,e1,e2,e3,e4,e5,e6,e7,e8⟩:=m4;obtain⟨h0,h1⟩:=h;have o0: ∀(j k:Nat),(L.map (·.1))[j]? =some k->(dS true 0 L)[j]? =some {key:= .int .i64 k,val:= .bool true,born:=j}:=by
    intro j k N;rw[zaL] at N;cases hL:L[j]? with
    |none=>rw[hL] at N;cases N
    |some p=>
     obtain⟨k',z⟩:=p;rw[hL] at N;obtain rfl:k'=k:=by simpa using N
     have hz:z=1:=e5 _ (zal hL);subst hz;have:=nZ true L 0 j k' 1 hL;rw[this,za7];rfl
   have I0: ∀(j:Nat) (x:MapEntry),(dS true 0 L)[j]? =some x-> ∃k,(L.map (·.1))[j]? =some k/\x={key:= .int .i64 k,val:= .bool true,born:=j}:=by
    intro j x hx;cases hL:(L.map (·.1))[j]? with
    |none=>
     rw[List.getElem?_eq_none_iff] at hL;rw[zad (by rw[aum];simpa using hL)] at hx;cases hx
    |some k=>
     rw[o0 j k hL] at hx;exact⟨k,rfl,(zbk hx).symm⟩
   refine E0 (by rw[Y];rfl) e1 e2 (λx hx=> ?_) e4 (λhz=>h0 λk=> ?_) λe he=> ?_
   ·obtain⟨j,N,rfl⟩:=zbR hx;obtain⟨k,hk,hx⟩:=I0 j _ (zaa (by simpa using N));simp only[List.toList_toArray] at hx ⊢;rw[hx,e3];simpa [aum] using N
   ·cases v0:su (B.get (k+1)) with
    |false=>rfl
    |true=>
     obtain⟨j,N,Z⟩:=(e7 k).1 v0;have:=all_seen _ seen hz {key:= .int .i64 k,val:= .bool true,born:=j} (by simpa using zal (o0 j k N));simp only[] at this;rw[Z] at this;cases this
   ·obtain⟨w0,e0⟩:=mem_left he;have B0:e∈dS true 0 L:=by simpa using w0
    obtain⟨j,x0⟩:=zby B0;obtain⟨k,hk,hx⟩:=I0 j e x0;subst hx;simp only[] at e0;have v0:su (B.get (k+1))=true:=(e7 k).2 ⟨j,hk,e0⟩;refine⟨.val (.int .i64 k), .val (.bool true),_,rfl,rfl,λx hx=>by simp[SV.ids] at hx,λx hx=>by simp[SV.ids] at hx,h1 (k:Int) (Int.natCast_nonneg _) (by rw[zd2];exact v0),λ(hl:B.kd.lst=true)=>(by rw[Y] at hl;cases hl),λw' q1 q2=> ?_⟩;rw[Y];refine⟨m,H,L.length,seen.push j,L,q1,q2,e3,by rw[e3];exact za0 _,e5,e6,λk'=> ?_, .inr ⟨seen,j,k,rfl,rfl,hk,rfl⟩⟩;show (!Nat.beq k' ((k:Int).toNat)&&su (B.get (k'+1)))=true↔_;rw[zd2,bS,za2,e7];simp only[zap,zdz];constructor
    ·rintro⟨y0,j',V,Z⟩;refine⟨j',V, ?_⟩;rw[contains_push,Z,zbi,zdx];rintro rfl;rw[hk] at V;exact y0 (zbk V).symm
    ·rintro⟨j',V,Z⟩;rw[contains_push,zbs,zdx] at Z;refine⟨?_,j',V,Z.1⟩;rintro rfl;have h2:=(List.getElem?_inj (zaV.1 hk).1 e6).1 (hk.trans V.symm);exact Z.2 h2.symm
  ·exact h.elim
 ·exact h.elim
theorem DN (N:BC W0 bl β w) (m0:NX bl nx) (h:runX P bl nx (.ent i) K):
 se P W0 bl nx β w ((do let v <-Instr.entry ((SV.ptr i 0 0).conc β);pure (Next.value v):Sem Next).run P w) K:=by
 simp only[runX] at h;split at h
 ·rename_i B hB;cases hit:B.kd.it with
  |false=>rw[hit] at h;exact h.elim
  |true=>
   rw[hit] at h;simp only[zdr] at h;have hm:=BK.it_map hit;have e0:=N.maps.off i B hB hit;have g0:(SV.ptr i 0 0).conc β= .pointer (some ⟨(β i).blk,0,none⟩):=by simp[SV.conc,addr,e0]
   rw[g0];split at h
   ·rename_i k v hg;obtain⟨m1,m2,m3,m4⟩:=N.maps.ok i B hB hm;have a0: ∀{m J H:Nat} {seen:Array Nat} {es:Array MapEntry} {e:MapEntry},w.heap[(β i).blk]? =some (.mapIter (some m) J (seen.push e.born) H)->w.heap[m]? =some (.map es H)->e∈es.toList->(es.toList.map (·.born)).Nodup->k.conc β=e.key->v.conc β=e.val->Live bl k->Live bl v->
     se P W0 bl nx β w ((do let v <-Instr.entry (.pointer (some ⟨(β i).blk,0,none⟩));pure (Next.value v):Sem Next).run P w) K:=by
     intro m J H seen es e hr hb he hn hk hv lk lv;refine .inr ⟨β,w, .tup [k,v],_,nx, [], .inl ?_,h,N,m0,λj Y=> ?_,Tr.refl _ _ _ _,za0 _⟩
     ·rw[zdF,run_entry_at w _ m J seen es H e hr hb he hn];simp[SV.conc,SV.concs,hk,hv,Result.andThen]
     ·simp only[SV.ids,SV.idss,zbf,za8] at Y;rcases Y with Y|Y
      ·exact lk j Y
      ·exact lv j Y
    cases V:B.kd with
    |itL=>
     rw[V] at m4;obtain⟨m,J,c0,H,seen,es,e1,e2,e3,e4,e5,e6,e7,e8,e9⟩:=m4;have lv:=λe s hs=>N.maps.live i B e s hB (by rw[V];rfl) hs;rcases e9 with e9|⟨s',j,k',v',k1,k2,k3,Z⟩
     ·rw[hg] at e9;cases e9
     ·rw[hg] at k3;simp only[zc9,and_true] at k3;obtain⟨rfl,rfl⟩:=k3;subst k1 k2;have Y:j<es.size:=(zaq.1 Z).1;refine a0 (e:={key:=k.conc β,val:=v.conc β,born:=j}) e1 e2 (by rw[Array.mem_toList_iff];exact zd1 Z) ?_ rfl rfl (lv 0 _ (by rw[hg];simp)) (lv 0 _ (by rw[hg];simp));have:es.toList.map (·.born)=List.range es.size:=by
       apply zbu (by simp);intro n h1 h2;have hn:n<es.size:=by simpa using h1
       obtain⟨kk,vv,_,q⟩:=e7 n hn;rw[zcq hn] at q;simp only[List.getElem_map,Array.getElem_toList,List.getElem_range];rw[zbk q]
      rw[this];exact List.nodup_range
    |itK=>
     rw[V] at m4;obtain⟨m,J,c0,seen,L,e1,e2,e3,e4,e5,e6,e7,e8⟩:=m4;rcases e8 with e8|⟨s',j,k',k1,k2,k3,Z⟩
     ·rw[hg] at e8;cases e8
     ·rw[hg] at Z;simp only[zc9,and_true] at Z;obtain⟨rfl,rfl⟩:=Z;subst k1 k2;have i0:(dS true 0 L)[j]? =some {key:= .int .i64 k',val:= .bool true,born:=j}:=by
       rw[zaL] at k3;cases hL:L[j]? with
       |none=>rw[hL] at k3;cases k3
       |some p=>
        obtain⟨k2,z⟩:=p;rw[hL] at k3;obtain rfl:k2=k':=by simpa using k3
        have hz:z=1:=e5 _ (zal hL);subst hz;have:=nZ true L 0 j k2 1 hL;rw[this,za7];rfl
      refine a0 (e:={key:= .int .i64 k',val:= .bool true,born:=j}) e1 e2 (by simpa using zal i0) ?_ rfl rfl (λx hx=>by simp[SV.ids] at hx) (λx hx=>by simp[SV.ids] at hx);have: ∀(L:List (Nat×Int)) (a:Nat),(dS true a L).map (·.born)=(List.range L.length).map (a+ ·):=by
       intro L
       induction L with
       |nil=>intro a;rfl
       |cons p L ih=>
        intro a;obtain⟨k,v⟩:=p;simp only[dS,zaK,za4,List.range_succ_eq_map,zct];rw[ih (a+1)];simp only[zaY,zc9,true_and];apply zbH;intro x _;simp only[Function.comp];omega
      rw[List.toList_toArray,this];simpa using List.nodup_range
    |_=>rw[V] at hit;cases hit
   ·exact h.elim
 ·exact h.elim
theorem sf {β:zdJ} {t:TypeId} {k:SV} {K:Option SV->Prop} {d:TypeDesc} (J:P.underlying t=some d): ∀(l:List (SV×SV)) (i j:Nat),uU P t k K l->
 ∃r:Option SV,K r/\(∀v,r=some v-> ∃p∈l,p.2=v)/\ ∃q,Instr.findNow d (k.conc β) (pf β i l) j=some q/\q.map (·.2)=r.map (SV.conc β)
 | [],i,j,h=>⟨none,h,λv hv=>(by cases hv),none,rfl,rfl⟩
 |(Z,v)::l,i,j,h=>by
  simp only[uU] at h;split at h
  ·rename_i b V;obtain⟨N,h1,_,h2⟩:=js (β:=β) V;rw[J] at h1;obtain rfl:d=N:=by simpa using h1
   cases b with
   |true=>exact⟨some v,h,λu H=>⟨_,zbF,by simpa using H⟩,some (j,v.conc β),by simp only[pf,Instr.findNow,h2],rfl⟩
   |false=>
    obtain⟨r,k1,k2,q,k3,Y⟩:=sf J l (i+1) (j+1) h;exact⟨r,k1,λu H=>by obtain⟨p,hp,e⟩:=k2 u H;exact⟨p,zan _ hp,e⟩,q,by simp only[pf,Instr.findNow,h2];exact k3,Y⟩
  ·exact h.elim
variable {A:AS} {a:Act} {o:Oper}
theorem Ak (g0:FR β A a) (Y:BC W0 A.bl β w) {T:(zdR)->Prop} (H:R4 P A o=some T) {K:zdR} (h:T K):
 o.guard=none/\ ∃s,K s/\(execOp a.eval o).run P w= .ok (.value (s.conc β)) w/\Live A.bl s:=by
 have J: ∀{y:Operand} {s:SV},ev A.tm [] y=some s->a.eval y=s.conc β/\Live A.bl s:=λhe=>bu g0 (G:= []) (λp hp=>by cases hp) he;obtain⟨o1,o2,o3,o4,o5,o6⟩:=o;unfold R4 at H;simp only[] at H;split at H
 ·rename_i t m k ok;split at H
  ·rename_i i k' kt et hm hk ht;split at H
   ·rename_i B z hB hz;have V:=aaR (P:=P) hz w;split at H
    ·rename_i N;obtain⟨m1,m2,m3,m4⟩:=Y.maps.ok i B hB (by rw[N];rfl);rw[N] at m4;obtain⟨es,e1,e2,e3,e4⟩:=m4;split at H
     ·rename_i l c hl hc;simp only[za1] at H;subst H;obtain⟨a1,a2,a3⟩:=lG e3 e4 64 0 l (zaA _) hl;rw[zaZ] at a1;obtain⟨d,hd,e0,_⟩:=js (β:=β) hc;have Z:=λem=>MapKept.run_checkKey (w:=w) hd e0 em 9999;obtain⟨r,k1,k2,q,k3,k4⟩:=sf (β:=β) hd l 0 0 h;rw[<-a1] at k3;have a0:=MapKept.run_findKey (w:=w) hd k3;refine⟨rfl, ?_⟩;cases r with
      |some v=>
       cases q with
       |none=>simp at k4
       |some q=>
        obtain⟨q1,q2⟩:=q;simp only[zb0,za1] at k4;subst k4;refine⟨_,k1, ?_,iP ?_⟩
        ·rw[iO];simp[execOp,(J hm).1,(J hk).1,Instr.lookup,SV.conc,run_underlying ht,MapKept.run_getObj_map e1,Z,a0,Result.andThen]
        ·obtain⟨p,hp,rfl⟩:=k2 v rfl;obtain⟨j,hj⟩:=a3 p hp;exact Y.maps.live i B j p.2 hB (by rw[N];rfl) (by rw[hj];simp)
      |none=>
       cases q with
       |some q=>simp at k4
       |none=>
        refine⟨_,k1, ?_,iP (ye _ z)⟩;rw[iO,rE];simp[execOp,(J hm).1,(J hk).1,Instr.lookup,SV.conc,run_underlying ht,MapKept.run_getObj_map e1,Z,a0,V,Result.andThen]
     ·cases H
    ·cases H
   ·cases H
  ·cases H
 ·cases H
theorem yj {el:TypeId} (H:P.underlying t=some (.slice el)) (d:Nat) (a:Option Addr) (n c m k:Nat) (w:World):(Op.equalIn (d+1) t (.slice a n c) (.slice none m k)).run P w= .ok a.isNone w:=by
 cases a<;>simp[Op.equalIn,run_underlying H]
theorem Ca {ps rs:Array TypeId} {vr:Bool} (H:P.underlying t=some (.func ps rs vr)) (d:Nat) (w:World) (f:Fn) (a b:Array Value):(Op.equalIn (d+1) t (.func f a b) .nilFunc).run P w= .ok false w/\(Op.equalIn (d+1) t .nilFunc .nilFunc).run P w= .ok true w:=by
 constructor<;>simp[Op.equalIn,run_underlying H]
theorem qT {ρ:Operand->Value} {x:Operand} {y v:Value} {yt:TypeId} {c b:Bool} {op:BinOp} {o1:Option Tmp} {o3:TypeId} {o4:String} {o5:Array Edge} {g:Option (Nat×Bool)} (hop:op= .eql/\b=true\/op= .neq/\b=false) (hv:ρ x=v) (J:ρ (.const y)=y)
 (h1: ∀op,eqGuard op ty x (.const y) v y=pure ()) (h2:binOp .eql ty v y=do pure (.bool (<-Op.equal ty v y))) (h3:binOp .neq ty v y=do pure (.bool (!(<-Op.equal ty v y)))) (H:(Op.equal ty v y).run P w= .ok c w):
 (execOp ρ ⟨o1, .binOp op ty x (.const y) yt,o3,o4,o5,g⟩).run P w= .ok (.value (.bool (bif b then c else !c))) w:=by
 show ((do eqGuard op ty x (.const y) (ρ x) (ρ (.const y));binOp op ty (ρ x) (ρ (.const y)):Sem Value)>>=λv=>pure (Next.value v)).run P w=_;rw[hv,J,h1];rcases hop with ⟨rfl,rfl⟩|⟨rfl,rfl⟩
 ·rw[h2];simp[H]
 ·rw[h3];simp[H]
theorem DO (i0:FR β A a) (V:BC W0 A.bl β w) (N:NX A.bl A.nx) {x:XOp} (H:uq A o=some x) (h:runX P A.bl A.nx x K):
 o.guard=none/\se P W0 A.bl A.nx β w ((execOp a.eval o).run P w) K:=by
 have J: ∀{y:Operand} {s:SV},ev A.tm [] y=some s->a.eval y=s.conc β/\Live A.bl s:=λZ=>bu i0 (G:= []) (λp hp=>by cases hp) Z;obtain⟨o1,o2,o3,o4,o5,o6⟩:=o;unfold uq at H;simp only[] at H;split at H
 ·split at H
  ·rename_i t v Z;simp only[za1] at H;subst H;refine⟨rfl, .inl ⟨_, ?_,h⟩⟩;simp[execOp,(J Z).1,SV.conc,Instr.panic,goPanic]
  ·cases H
 ·split at H
  ·rename_i t y _ v Z;simp only[za1] at H;subst H;simp only[runX] at h;split at h
   ·exact h.elim
   ·rename_i d hd hu;refine⟨rfl, .inr ⟨β,w, .val (.iface t v),_,_, [], .inl ?_,h,V,N,λj hj=>by simp[SV.ids] at hj,Tr.refl _ _ _ _,za0 _⟩⟩;simp only[execOp,(J Z).1,SV.conc,Instr.makeInterface,zdF,run_underlying hu,zdE];cases d<;>first|rfl|exact absurd rfl (hd _)
   ·exact h.elim
  ·cases H
 ·rename_i t;simp only[za1] at H;subst H;simp only[runX] at h;split at h
  ·rename_i kd Y;obtain⟨hm,m0⟩:kd.map=true/\kd.it=false:=by
    unfold Pm at Y;split at Y
    ·split at Y<;>first|(simp only[za1] at Y;subst Y;exact⟨rfl,rfl⟩)|cases Y
    ·cases Y
   refine⟨rfl, .inr ⟨_,_, .mp A.nx,_,_, [A.nx], .inl ?_,h,V.newMap (N _ (za0 _)) hm m0,λj hj=> ?_,λj hj=> ?_,Tr.newB N _,zaT _⟩⟩
   ·have e:(Instr.makeMap t none).run P w= .ok (.map (some w.heap.size)) (w.alloc (.map #[] 0)):=rfl;simp[execOp,SV.conc,aA,e]
   ·rw[ak (by omega)];exact N j (by omega)
   ·simp only[SV.ids,zaj] at hj;subst hj;rw[az];simp
  ·exact h.elim
 ·split at H
  ·rename_i t m _ i hm;simp only[za1] at H;subst H;refine⟨rfl, ?_⟩;have r:=DL V N h;simp only[execOp,(J hm).1,SV.conc] at r ⊢;exact r
  ·cases H
 ·split at H
  ·rename_i y _ i hm;simp only[za1] at H;subst H;refine⟨rfl, ?_⟩;have r:=DM (ty:=o3) V N h;simp only[execOp,(J hm).1] at r ⊢;exact r
  ·cases H
 ·split at H
  ·rename_i y _ i hm;simp only[za1] at H;subst H;refine⟨rfl, ?_⟩;have r:=DN V N h;simp only[execOp,(J hm).1] at r ⊢;exact r
  ·cases H
 ·split at H
  ·rename_i t m k v i k' v' hm Y hv;simp only[za1] at H;subst H;refine⟨rfl, ?_⟩;have r:=vd V N (J Y).2 (J hv).2 h;simp only[execOp,(J hm).1,(J Y).1,(J hv).1,SV.conc] at r ⊢;exact r
  ·cases H
 ·split at H
  ·rename_i t m k v i k' v' hm Y hv;simp only[za1] at H;subst H;refine⟨rfl, ?_⟩;have r:=vd V N (J Y).2 (J hv).2 h;simp only[execOp,(J hm).1,(J Y).1,(J hv).1,SV.conc] at r ⊢;exact r
  ·cases H
 ·rename_i op ty x y yt;have g0: ∀{s:SV} {b f:Bool},ev A.tm [] x=some s->runX P A.bl A.nx (.nil ty b f s) K->B5 y=some f->(op= .eql/\b=true\/op= .neq/\b=false)->(none:Option (Nat×Bool))=none/\se P W0 A.bl A.nx β w ((execOp a.eval ⟨o1, .binOp op ty x (.const y) yt,o3,o4,o5,none⟩).run P w) K:=by
   intro s b f Z h hy hop;obtain⟨e1,l1⟩:=J Z;have ey:a.eval (.const y)=y:=rfl;have done: ∀{c:Bool},(execOp a.eval ⟨o1, .binOp op ty x (.const y) yt,o3,o4,o5,none⟩).run P w= .ok (.value (.bool c)) w->K (.ok (.val (.bool c))) A.bl A.nx []->se P W0 A.bl A.nx β w ((execOp a.eval ⟨o1, .binOp op ty x (.const y) yt,o3,o4,o5,none⟩).run P w) K:=
    λhr hK=> .inr ⟨β,w, .val (.bool _),_,_, [], .inl hr,hK,V,N,λj hj=>by simp[SV.ids] at hj,Tr.refl _ _ _ _,za0 _⟩
   have e0:(f=false/\ ∃n c,y= .slice none n c)\/(f=true/\y= .nilFunc):=by
    unfold B5 at hy;split at hy
    ·simp only[za1] at hy;exact .inl ⟨hy.symm,_,_,rfl⟩
    ·simp only[za1] at hy;exact .inr ⟨hy.symm,rfl⟩
    ·cases hy
   refine⟨rfl, ?_⟩;simp only[runX] at h;split at h
   ·rename_i el i e n hu;obtain⟨_,m,c,rfl⟩|⟨hf,_⟩:=e0
    ·split at h
     ·rename_i B hB;obtain⟨hb,h⟩:=Xg.1 h;simp only[za2] at hb;have a0:=(V.blk i B hB (λe=>by rw[e] at hb;exact absurd hb.2 (by decide))).nn hb.1;refine done ?_ h;have:=qT (P:=P) (w:=w) (c:=false) (o1:=o1) (o3:=o3) (o4:=o4) (o5:=o5) (yt:=yt) (g:=none) hop e1 ey (by simp only[SV.conc,a0,zdq];intro op;cases op<;>rfl) (by simp only[SV.conc,a0,zdq];rfl) (by simp only[SV.conc,a0,zdq];rfl) (by simp only[SV.conc,a0,zdq];exact yj hu 9999 _ _ _ _ _ w);rw[this];cases b<;>rfl
     ·exact h.elim
    ·cases hf
   ·rename_i el n c hu;obtain⟨_,m,c',rfl⟩|⟨hf,_⟩:=e0
    ·refine done ?_ h;have:=qT (P:=P) (w:=w) (c:=true) (o1:=o1) (o3:=o3) (o4:=o4) (o5:=o5) (yt:=yt) (g:=none) hop e1 ey (by intro op;cases op<;>rfl) rfl rfl (yj hu 9999 _ _ _ _ _ w);rw[this];cases b<;>rfl
    ·cases hf
   ·rename_i ps rs vr fn fs cs hu;obtain⟨hf,_⟩|⟨_,rfl⟩:=e0
    ·cases hf
    ·refine done ?_ h;have:=qT (P:=P) (w:=w) (c:=false) (o1:=o1) (o3:=o3) (o4:=o4) (o5:=o5) (yt:=yt) (g:=none) hop e1 ey (by intro op;cases op<;>rfl) rfl rfl (Ca hu 9999 w _ _ _).1;rw[this];cases b<;>rfl
   ·rename_i ps rs vr hu;obtain⟨hf,_⟩|⟨_,rfl⟩:=e0
    ·cases hf
    ·refine done ?_ h;have:=qT (P:=P) (w:=w) (c:=true) (o1:=o1) (o3:=o3) (o4:=o4) (o5:=o5) (yt:=yt) (g:=none) hop e1 ey (by intro op;cases op<;>rfl) rfl rfl (Ca hu 9999 w (.func 0) #[] #[]).2;rw[this];cases b<;>rfl
   ·exact h.elim
  split at H
  ·rename_i s f Z hy;simp only[za1] at H;subst H;exact g0 Z h hy (.inl ⟨rfl,rfl⟩)
  ·rename_i s f Z hy;simp only[za1] at H;subst H;exact g0 Z h hy (.inr ⟨rfl,rfl⟩)
  ·cases H
 ·cases H
end
section
variable {P:Program} {W0:Base}
structure Trs (A:AS) (β:Nat->Loc) (A':AS) (β':Nat->Loc):Prop where
 tr:Tr A.bl A.nx A'.wl β A'.bl β'
 wl: ∀i∈A.wl,i∈A'.wl
 nx:A.nx<=A'.nx
 nt:A'.nt=A.nt
theorem Trs.refl (A:AS) (β:zdJ):Trs A β A β:=⟨Tr.refl _ _ _ _,λ_ h=>h,za0 _,rfl⟩
variable {A:AS} {β γ:zdJ}
theorem Trs.trans {B C:AS} {δ:zdJ} (h:Trs A β B γ) (k:Trs B γ C δ):Trs A β C δ:=
 ⟨h.tr.trans k.tr h.nx k.wl (λ_ h=>h),λi hi=>k.wl i (h.wl i hi),zac h.nx k.nx,k.nt.trans h.nt⟩
structure Is (W0:Base) (A:AS) (β:Nat->Loc) (a:Act) (w:World):Prop where
 fr:FR β A a
 bc:BC W0 A.bl β w
 nx:NX A.bl A.nx
 sd:A.sd=W0.sd
def SideOK (P:Program) (W0 B:Base) (A:AS) (β:zdJ):Prop:= ∀x t,A.sd.2=some (x,t)->A.bl x≠none/\ ∃d at' b g,A.sd.1=some d/\BAtOK P d at'/\(β x).blk=b/\(β x).off=0/\at' b g t B.w/\B.F b=true/\B.F g=true/\W0.mine b/\W0.mine g
def IsX (P:Program) (W0:Base) (A:AS) (β:zdJ) (a:Act) (w:World):Prop:= ∃B,SubB B W0/\(∀b,B.out b->W0.out b)/\Is B A β a w/\SideOK P W0 B A β
variable {B:Base} {A':AS} {β':zdJ}
theorem SideOK.step (h:SideOK P W0 B A β) (H:A'.sd=A.sd) (N: ∀i,A.bl i≠none->A'.bl i≠none/\β' i=β i):SideOK P W0 B A' β':=by
 intro x t J;rw[H] at J ⊢;obtain⟨h1,d,at',b,g,k1,k2,k3,V,Y⟩:=h x t J;obtain⟨h2,h3⟩:=N x h1;exact⟨h2,d,at',b,g,k1,k2,by rw[h3];exact k3,by rw[h3];exact V,Y⟩
variable {a:Act} {w w':World}
theorem IsX.wrap {a':Act} (V:SubB B W0) (J: ∀b,B.out b->W0.out b) (Z:Is B A β a w) (H:SideOK P W0 B A β) (N:Is B A' β' a' w') (Y:Trs A β A' β'):IsX P W0 A' β' a' w':=
 ⟨B,V,J,N,H.step (N.sd.trans Z.sd.symm) λi hi=>⟨Y.tr.dom hi,Y.tr.same i hi⟩⟩
theorem Is.x (h:Is W0 A β a w) (J:A.sd.2=none):IsX P W0 A β a w:=
 ⟨W0,SubB.refl W0,λ_ h=>h,h,λx t H=>by rw[J] at H;cases H⟩
theorem IsX.up (h:IsX P W0 A β a w):Is {W0 with sd:=A.sd} A β a w:=by
 obtain⟨B,H,N,h,_⟩:=h;have k:BC W0 A.bl β w:=h.bc.rebase (H.pres h.bc.below) (λ_ _ _ _ _ J=>H.mine J) (λ_ _ _ _ _ h=>N _ h);exact⟨h.fr,k.rebase ⟨k.below.os,k.below.tape,k.below.output,k.below.size,k.below.block⟩ (λ_ _ _ _ _ h=>h) (λ_ _ _ _ _ h=>h),h.nx,rfl⟩
def Post (P:Program) (W0:Base) (A:AS) (β:zdJ) (K:Exit->zdS):zdW:=
 λe a w=> ∃A' β',K e A'/\IsX P W0 A' β' a w/\Trs A β A' β'
def Ends (β:zdJ):Res->Ending->Prop
 | .ok r,e=>e= .returned (r.conc β)
 | .pan v,e=>e= .panicked [{v:=v,recovered:=false}]
def sg (bl:zdM):Res->Prop
 | .ok r=>Live bl r
 | .pan _=>True
def kn (P:Program) (W0:Base) (inl:Inl):Prop:=
 ∀(f:FuncId) (args:zdK) (bl:zdM) (nx:Nat) (wl:zdI) (K:Aft) (β:zdJ) (w:World),
  inl f args bl nx wl K->BC W0 bl β w->NX bl nx->(∀s∈args,Live bl s)->
  V0 P f/\Calls P f (SV.concs β args).toArray w λe w'=> ∃β' r bl' H J,Ends β' r e/\K r bl' H J/\BC W0 bl' β' w'/\NX bl' H/\sg bl' r/\Tr bl nx J β bl' β'/\(∀i∈wl,i∈J)/\nx<=H
variable {id:Nat}
theorem NX.apply {bl:zdM} {nx:Nat} (h:NX bl nx) (E:Eff) (hid:id<nx+1) (Y:nx<=id):NX (VO bl id E) (nx+1):=by
 intro i hi;have h0:bl i=none:=h i (by omega);have J:i≠id:=by omega
 have key:(match E.wr with
  |some (i,e,o,cs)=>match bl i with
   |some B=>upd bl i (B.put e o cs)
   |none=>bl
  |none=>bl) i=none:=by
  cases Z:E.wr with
  |none=>exact h0
  |some p=>
   obtain⟨j,e,o,cs⟩:=p;simp only[];cases V:bl j with
   |none=>exact h0
   |some C=>
    simp only[];have H:i≠j:=λe=>by rw[e,V] at h0;cases h0
    rw[ak H];exact h0
 unfold VO;cases Y:E.nw with
 |none=>exact key
 |some N=>exact(ak J).trans key
variable {Γ:zdO} {ops:zdP} {o:Oper}
theorem Kg {f:ga} (h:step P Γ ops id o A=some (true,A',f)): ∃E,A'.bl=VO A.bl id E:=by
 obtain⟨D,_,rfl,_⟩:=VV.1 h;exact⟨D.E,rfl⟩
theorem apL (h:FR β A a):FR β (endG A) a:=by
 refine⟨h.defers,h.size, ?_, ?_, ?_⟩
 ·intro t s H;simp only[endG] at H;cases hg:A.og t with
  |true=>rw[hg] at H;simp at H
  |false=>rw[hg] at H;exact h.v t s (by simpa using H)
 ·intro t u b s H;exfalso;simp only[endG] at H;cases hg:A.og t with
  |true=>rw[hg] at H;simp at H
  |false=>
   rw[hg] at H;have:=(h.os t u b s (by simpa using H)).1;rw[hg] at this;cases this
 ·intro t u b s H;exfalso;simp only[endG] at H;cases hg:A.og t with
  |true=>rw[hg] at H;simp at H
  |false=>
   rw[hg] at H;have:=(h.os t u b s (by simpa using H)).1;rw[hg] at this;cases this
theorem FR.frame (h:FR β A a) (nx:Nat) (wl:zdI):FR β {A with nx:=nx,wl:=wl} a:=⟨h.defers,h.size,h.v,h.opt,h.os⟩
theorem Cb {f:zdQ}: ∀{n:Nat},rL n f=true-> ∀e,e<n->f e=true
 |0,_,e,H=>by omega
 |k+1,h,e,H=>by
  simp only[rL,za2] at h;by_cases h2:e=k
  ·subst h2;exact h.1
  ·exact Cb h.2 e (by omega)
theorem sh {f:Nat->zdL} {s:Nat}: ∀(m:Nat),(∀i,i<m->(f i).length=s)->((List.range m).flatMap f).length=m*s
 |0,_=>by simp
 |m+1,h=>by
  rw[zd3,zd4,za3,sh m (λi hi=>h i (by omega))];simp[h m (by omega),zaG]
theorem yk {f:Nat->zdL} {s:Nat}: ∀(m:Nat),(∀i,i<m->(f i).length=s)-> ∀{i o:Nat},i<m->o<s->((List.range m).flatMap f)[i*s+o]? =(f i)[o]?
 |0,_,i,o,hi,_=>by omega
 |m+1,h,i,o,hi,N=>by
  have J:=sh m (λi hi=>h i (by omega));rw[zd3,zd4];by_cases H:i<m
  ·rw[zbB (by rw[J];exact jS H N)];exact yk m (λi hi=>h i (by omega)) H N
  ·obtain rfl:i=m:=by omega
   rw[zbY (by rw[J];omega),J];simp
def jh (β:zdJ) (get:zdN) (e m:Nat):zdL:=(List.range m).flatMap λi=>SV.concs β (get (e+i))
variable {get:zdN} {e m:Nat}
theorem sj {s:Nat} (h: ∀i,i<m->(get (e+i)).length=s):(jh β get e m).length=m*s:=
 sh m λi hi=>by rw[SV.concs_eq,zaB];exact h i hi
theorem sw {s:Nat} (h: ∀i,i<m->(get (e+i)).length=s) {i o:Nat} (hi:i<m) (H:o<s):(jh β get e m)[i*s+o]? =((get (e+i))[o]?).map (SV.conc β):=by
 unfold jh;rw[yk (f:=λi=>SV.concs β (get (e+i))) m (λi hi=>by rw[SV.concs_eq,zaB];exact h i hi) hi H,SV.concs_eq,zaL]
theorem vf {B:Blk} (q:BlkOK β id B w) (hm:e+m<=B.n) (j:Nat) (u:Value) (J:(jh β B.get e m)[j]? =some u):w.cell? ((addr β id e 0).add j)=some u:=by
 have Y: ∀i,i<m->(B.get (e+i)).length=B.sz:=λi hi=>q.len (e+i) (by omega);have V:j<m*B.sz:=by
  rcases zah j (m*B.sz) with h|h
  ·exact h
  ·rw[zad (by rw[sj Y];exact h)] at J;cases J
 have H:0<B.sz:=by
  rcases zbK B.sz with h|h
  ·rw[h] at V;omega
  ·exact h
 have Z:j=j / B.sz*B.sz+j%B.sz:=by rw[zay];exact(zcM j B.sz).symm
 have hi:j / B.sz<m:=(zbO H).2 V;have ho:j%B.sz<B.sz:=zar _ H;rw[Z,sw Y hi ho] at J;cases N:(B.get (e+j / B.sz))[j%B.sz]? with
 |none=>rw[N] at J;cases J
 |some x=>
  rw[N] at J;simp only[zb0,za1] at J;have:=q.val (e+j / B.sz) (by omega) _ x N;rw[jr,<-J,<-this]
  congr 1
  unfold addr
  congr 1
  rw[q.sz];have:(e+j / B.sz)*B.sz=e*B.sz+j / B.sz*B.sz:=zaG _ _ _;omega
theorem ym {α β:Type} {l:List α} {f g:α->List β} (h: ∀a∈l,f a=g a):l.flatMap f=l.flatMap g:=by
 rw[List.flatMap_def,List.flatMap_def,zbH h]
variable {n:Nat}
theorem DP {B C:Blk} {s:Nat} (hB: ∀k,k<n->(B.get k).length=s) (H: ∀k,k<m->(C.get (e+k)).length=s) (k:Nat) (J:k<n+m):(ald B.get C.get n e k).length=s:=by
 unfold ald;cases h:Nat.blt k n with
 |true=>simp only[zdr];exact hB k (by simpa [zb2] using h)
 |false=>
  have: ¬k<n:=by rw[aB] at h;simpa using h
  simp only[zdq];exact H (k - n) (by omega)
variable {C:zdN} {k:Nat}
theorem sA {B:zdN} (h:k<n):ald B C n e k=B k:=by
 unfold ald;rw[aB,zdp h];rfl
theorem n7 {B:zdN} (h: ¬k<n):ald B C n e k=C (e+(k - n)):=by
 unfold ald;rw[aB,zds h];rfl
theorem Al {A:AS} {β:zdJ} {w:World} (i0:BC W0 A.bl β w) (x0:NX A.bl A.nx) {t:TypeId} {x y r:SV} {b:Bool} {bl:zdM} {k:zdI}
 (h:S0 P A t x y=some (b,bl,r,k)) (hb:b=true) (ty:TypeId):
 ∃β' w',(Builtin.append_ #[t,t] ty #[x.conc β,y.conc β]).run P w= .ok (r.conc β') w'/\BC W0 bl β' w'/\NX bl (A.nx+1)/\Live bl r/\Tr A.bl A.nx k β bl β':=by
 have hid:A.bl A.nx=none:=x0 _ (za0 _);unfold S0 at h;split at h
 ·rename_i el j e m hu;split at h
  ·rename_i H C o0 hC
   have key:C.kd≠ .gone->(bif Nat.beq C.sz H.size&&Nat.ble 1 H.size&&Nat.ble 1 H.bytes&&(match H.zero with
    |some z=>Nat.beq z.cells.size H.size
    |none=>false) then(match x with
    | .val (.slice none 0 0)=>some (decide (0<m)&&decide (e+m<=C.n)&&decide (m*H.bytes<=140737488355328)&&rL m (λk=>(C.get (e+k)).all SV.one),upd A.bl A.nx {n:=m,sz:=C.sz,get:=λk=>C.get (e+k),kd:= .own},SV.slc A.nx 0 m,([]:zdI))
    | .slc i 0 n=>match A.bl i with
      |some B=>match B.kd with
       | .own=>bif Nat.beq B.sz C.sz&& !Nat.beq i j then
          some (decide (0<m)&&decide (e+m<=C.n)&&decide (n<=B.n)&&decide ((n+m)*H.bytes<=140737488355328)&&rL m (λk=>(C.get (e+k)).all SV.one),
           upd (upd A.bl i {B with kd:= .gone}) A.nx {n:=n+m,sz:=C.sz,get:=ald B.get C.get n e,kd:= .own}, .slc A.nx 0 (n+m), [i]) else none
       |_=>none
      |none=>none
    |_=>none) else none)=some (b,bl,r,k)-> ∃β' w',(Builtin.append_ #[t,t] ty #[x.conc β,(SV.slc j e m).conc β]).run P w= .ok (r.conc β') w'/\BC W0 bl β' w'/\NX bl (A.nx+1)/\Live bl r/\Tr A.bl A.nx k β bl β':=by
    intro E0 h
    cases hc:(Nat.beq C.sz H.size&&Nat.ble 1 H.size&&Nat.ble 1 H.bytes&&(match H.zero with
     |some z=>Nat.beq z.cells.size H.size
     |none=>false)) with
    |false=>rw[hc] at h;cases h
    |true=>
     rw[hc] at h;simp only[zdr] at h;simp only[za2] at hc;obtain⟨⟨⟨c1,c2⟩,c3⟩,c4⟩:=hc;have e0:=zab c1;have I0:=zak c2;have l1:=zak c3;obtain⟨z,hz,M0⟩: ∃z,H.zero=some z/\z.cells.size=H.size:=by
      cases hz:H.zero with
      |none=>rw[hz] at c4;cases c4
      |some z=>rw[hz] at c4;exact⟨z,rfl,zab c4⟩
     have qC:=i0.blk j C hC E0;have C0:0<m->e+m<=C.n->rL m (λk=>(C.get (e+k)).all SV.one)=true->
      (jh β C.get e m).length=m*H.size/\(∀i u,(jh β C.get e m)[i]? =some u->w.cell? ((addr β j e 0).add i)=some u)/\(∀u∈jh β C.get e m,u.oneCell'=true)/\(SV.slc j e m).conc β= .slice (some (addr β j e 0)) m ((β j).cap - e):=by
      intro h0 h1 h2;have V: ∀i,i<m->(C.get (e+i)).length=C.sz:=λi hi=>qC.len (e+i) (by omega);refine⟨by rw[sj V,e0],λi u hu=>vf qC h1 i u hu, ?_, ?_⟩
      ·intro u hu;unfold jh at hu;simp only[List.mem_flatMap,zaC] at hu;obtain⟨i,hi,hu⟩:=hu;rw[SV.concs_eq] at hu;obtain⟨s,u1,rfl⟩:=zaz.1 hu;have:=Cb h2 i hi;exact SV.one_conc β (zaf.1 this s u1)
      ·have:=qC.le;exact jq (qC.not_nil (e:=e) (by omega)) (.inl (by omega))
     have fresh: ∀(J:zdM),BC W0 J β w->J A.nx=none-> ∀(N:Blk) (w':World) (v':Value),N.kd= .own->N.sz=C.sz->0<N.n->N.nn=true->(∀e,e<N.n->(N.get e).length=C.sz)->
      (∀(e o:Nat) (s:SV),e<N.n->(N.get e)[o]? =some s->Live J s)->w'.ownsRow w.heap.size el H.size v' N.n (jh β N.get 0 N.n)->w.grownBy w' none->
      ∃β',v'=(SV.slc A.nx 0 N.n).conc β'/\BC W0 (upd J A.nx N) β' w'/\ ∀i,J i≠none->β' i=β i:=by
      intro J h0 y0 N w' v' k1 k2 k3 k4 k5 k6 a1 r0;obtain⟨_,⟨_,h1⟩|⟨g,cap,j1,rfl,hg,Z,p0,_,O0,L0⟩⟩:=a1
      ·omega
      ·have hb:Below w.heap.size w w':=⟨r0.os,r0.tape,r0.output,r0.size,λk Y=>r0.block k Y (by simp)⟩;have q0: ∀i,w'.cell? ⟨g,i,none⟩=j1[i]? :=λi=>by simp[World.cell?,Z]
       have p1:g<w'.heap.size:=by
        rcases zah g w'.heap.size with h|h
        ·exact h
        ·rw[zcC h] at Z;cases Z
       refine⟨gp β A.nx ⟨g,0,C.sz,cap,false⟩, ?_, ?_,λi hi=>aC λh=>hi (h▸y0)⟩
       ·rw[jq (by rw[aA]) (.inr rfl)];simp[addr,aA]
       ·refine h0.allocW y0 k1 (by rw[k2];exact k5) k6 hb (by simp[k2]) hg p1 p0 (λh=>by cases h) (λ_=>rfl) ?_ ?_ ?_
        ·intro i hi;simp only[za7,q0] at hi ⊢;rw[k2,e0] at hi;simp[O0,hi]
        ·intro i hi;simp[World.frozen?,Z]
        ·intro e' o s he V;simp only[za7,q0];have ho:o<C.sz:=by
          rcases zah o C.sz with h'|h'
          ·exact h'
          ·rw[zad (by rw[k5 e' he];exact h')] at V;cases V
         have hr:=sw (β:=β) (get:=N.get) (e:=0) (m:=N.n) (s:=C.sz) (λi hi=>by rw[za7];exact k5 i hi) he ho;rw[za7,V,<-L0] at hr;have z0:=jS (n:=N.n) (sz:=C.sz) he ho;rw[zcb (by rw[e0] at z0;rw[e0];exact z0)] at hr;rw[k2];simpa using hr
     have v0: ∀q,q*H.bytes<=140737488355328->q<=maxLen:=λq hq=>by
      have:q*1<=q*H.bytes:=zb5 _ l1;simp only[maxLen];omega
     have w0: ∀(J:zdM) (N:Blk),NX J A.nx->NX (upd J A.nx N) (A.nx+1):=λJ N h0 i hi=>by
      rw[ak (by omega)];exact h0 i (by omega)
     have N0: ∀(J:zdM) (N:Blk) (n:Nat),Live (upd J A.nx N) (.slc A.nx 0 n):=λJ N n i hi=>by
      simp only[SV.ids,zaj] at hi;subst hi;rw[az];simp
     split at h
     ·simp only[za1,zag] at h;obtain⟨rfl,rfl,rfl,rfl⟩:=h;simp only[za2,zdt] at hb;obtain⟨⟨⟨h0,h1⟩,h2⟩,h3⟩:=hb;obtain⟨n1,n2,n3,n4⟩:=C0 h0 h1 h3;obtain⟨v',w',r1,r2,r3,_⟩:=run_append_own (P:=P) w w.heap.size t ty el H z H.size H.bytes hu o0 hz rfl rfl M0 I0 (.slice none 0 0) 0 [] (World.ownsRow_nil w _ el H.size) (addr β j e 0) m ((β j).cap - e) _ n1 n2 n3 (by rw[za7];exact v0 m h2) (by rw[za7];exact h2) (za0 _);rw[n4];rw[za7,zaM] at r2;obtain⟨β',e1,e2,e3⟩:=fresh A.bl i0 hid {n:=m,sz:=C.sz,get:=λk=>C.get (e+k),kd:= .own} w' v' rfl rfl h0 rfl (λi hi=>qC.len (e+i) (by simp at hi;omega))
       (λi o s hi V=>i0.live j C (e+i) o s hC E0 (by simp at hi;omega) V) (by
         have:jh β (λk=>C.get (e+k)) 0 m=jh β C.get e m:=by unfold jh;simp
         rw[this];exact r2) r3
      refine⟨β',w', ?_,e2,w0 _ _ x0,N0 _ _ _,⟨λi B hB=>⟨B, ?_,rfl,⟨rfl,rfl⟩, .inl rfl,λ_=>rfl⟩,e3,λi hi h0=> ?_⟩⟩
      ·rw[show (SV.val (.slice none 0 0)).conc β= .slice none 0 0 by rfl,r1,e1]
      ·rw[ak (λh=>by rw[h,hid] at hB;cases hB)];exact hB
      ·rw[ak (by omega)];exact h0
     ·rename_i i n _;split at h
      ·rename_i B hB;split at h
       ·rename_i Y;cases hc:(Nat.beq B.sz C.sz&& !Nat.beq i j) with
        |false=>rw[hc] at h;cases h
        |true=>
         rw[hc] at h;simp only[zdr,za1,zag] at h;obtain⟨rfl,rfl,rfl,rfl⟩:=h;simp only[za2,zap,bS,zdt,zdz] at hc;obtain⟨g0,w1⟩:=hc;simp only[za2,zdt] at hb;obtain⟨⟨⟨⟨h0,h1⟩,hn⟩,h2⟩,h3⟩:=hb;obtain⟨n1,n2,n3,n4⟩:=C0 h0 h1 h3;have Z0:B.kd≠ .gone:=by rw[Y];simp
         have qB:=i0.blk i B hB Z0;have Y0:A.nx≠i:=λh=>by rw[<-h,hid] at hB;cases hB
         have H0: ∀k,k<n+m->(ald B.get C.get n e k).length=C.sz:=DP (λk Y=>by rw[qB.len k (by omega),g0]) (λk Y=>qC.len (e+k) (by omega));have hjlive: ∀(k o:Nat) (s:SV),k<n+m->(ald B.get C.get n e k)[o]? =some s->Live A.bl s:=by
          intro k o s Y V;by_cases m0:k<n
          ·rw[sA m0] at V;exact i0.live i B k o s hB Z0 (by omega) V
          ·rw[n7 m0] at V;exact i0.live j C _ o s hC E0 (by omega) V
         have b1: ∀β',(∀l,A.bl l≠none->β' l=β l)->Tr A.bl A.nx [i] β (upd (upd A.bl i {B with kd:= .gone}) A.nx {n:=n+m,sz:=C.sz,get:=ald B.get C.get n e,kd:= .own}) β':=by
          intro β' hβ;refine⟨λl D hD=> ?_,hβ,λl hl h0=> ?_⟩
          ·have hl:l≠A.nx:=λh=>by rw[h,hid] at hD;cases hD
           rw[ak hl];by_cases U0:l=i
           ·subst U0;rw[hB] at hD;obtain rfl:B=D:=by simpa using hD
            exact⟨_,az _ _ _,rfl,⟨rfl,rfl⟩, .inr rfl,λh=>absurd (by simp) h⟩
           ·rw[ak U0];exact⟨D,hD,rfl,⟨rfl,rfl⟩, .inl rfl,λ_=>rfl⟩
          ·rw[ak (by omega),ak (λh=>by rw[h,hB] at h0;cases h0)];exact h0
         have B0:NX (upd A.bl i {B with kd:= .gone}) A.nx:=λl hl=>by
          rw[ak (λh=>by rw[h] at hl;have:=x0 i hl;rw[hB] at this;cases this)];exact x0 l hl
         have m1:BC W0 (upd A.bl i {B with kd:= .gone}) β w:=i0.kill i rfl;have Q0:upd A.bl i {B with kd:= .gone} A.nx=none:=by rw[ak Y0];exact hid
         have grown: ∀v' w',w'.ownsRow w.heap.size el H.size v' (n+m) (jh β B.get 0 n++jh β C.get e m)->w.grownBy w' none->(Builtin.append_ #[t,t] ty #[(SV.slc i 0 n).conc β,(SV.slc j e m).conc β]).run P w= .ok v' w'->
          ∃β' w',(Builtin.append_ #[t,t] ty #[(SV.slc i 0 n).conc β,(SV.slc j e m).conc β]).run P w= .ok ((SV.slc A.nx 0 (n+m)).conc β') w'/\BC W0 (upd (upd A.bl i {B with kd:= .gone}) A.nx {n:=n+m,sz:=C.sz,get:=ald B.get C.get n e,kd:= .own}) β' w'/\NX (upd (upd A.bl i {B with kd:= .gone}) A.nx {n:=n+m,sz:=C.sz,get:=ald B.get C.get n e,kd:= .own}) (A.nx+1)/\Live (upd (upd A.bl i {B with kd:= .gone}) A.nx {n:=n+m,sz:=C.sz,get:=ald B.get C.get n e,kd:= .own}) (.slc A.nx 0 (n+m))/\Tr A.bl A.nx [i] β (upd (upd A.bl i {B with kd:= .gone}) A.nx {n:=n+m,sz:=C.sz,get:=ald B.get C.get n e,kd:= .own}) β':=by
          intro v' w' r2 r3 r1
          obtain⟨β',e1,e2,e3⟩:=fresh _ m1 Q0 {n:=n+m,sz:=C.sz,get:=ald B.get C.get n e,kd:= .own} w' v' rfl rfl (by simp;omega) rfl H0 (λk o s Y V=>(hjlive k o s Y V).upd) (by
           have:jh β (ald B.get C.get n e) 0 (n+m)=jh β B.get 0 n++jh β C.get e m:=by
            unfold jh;rw[List.range_add,zd4]
            congr 1
            ·apply ym;intro k Y;have m0:k<n:=by simpa using Y
             rw[za7,sA m0]
            ·rw[List.flatMap_map];apply ym;intro k Y;rw[za7,n7 (by omega)]
             congr 2;omega
           rw[this];exact r2) r3
          refine⟨β',w',by rw[r1,e1],e2,w0 _ _ B0,N0 _ _ _,b1 β' λl hl=>e3 l (BY hl)⟩
         cases n0:(β i).nil with
         |true=>
          have p0:=qB.nil n0;have:=qB.le;obtain rfl:n=0:=by omega
          have ex:(SV.slc i 0 0).conc β= .slice none 0 0:=by simp[SV.conc,n0,p0]
          obtain⟨v',w',r1,r2,r3,_⟩:=run_append_own (P:=P) w w.heap.size t ty el H z H.size H.bytes hu o0 hz rfl rfl M0 I0 (.slice none 0 0) 0 [] (World.ownsRow_nil w _ el H.size) (addr β j e 0) m ((β j).cap - e) _ n1 n2 n3 (v0 _ h2) h2 (za0 _);refine grown v' w' ?_ r3 ?_
          ·have:jh β B.get 0 0= []:=rfl;rw[this];exact r2
          ·rw[ex,n4];exact r1
         |false=>
          have ex:=jq (β:=β) (id:=i) (e:=0) (len:=n) n0 (.inr rfl);by_cases a0:n+m<=(β i).cap
          ·have hcells: ∀l,l<m*H.size->n*H.size+l<(β i).cap*B.sz:=λl hl=>by
            have h4:(n+m)*B.sz<=(β i).cap*B.sz:=zbm _ a0;rw[zaG] at h4;rw[<-e0,<-g0] at hl ⊢;omega
           have v1:(β i).sz=H.size:=by rw[qB.sz,g0,e0]
           have r1:=run_append_room_cells (P:=P) w t ty el H hu o0 (β i).blk (β i).off n (β i).cap (addr β j e 0) m ((β j).cap - e) _ n1 n2 n3 a0
            (λl hl=>by
              have:=qB.ex (n*H.size+l) (hcells l (by omega))
              rwa[<-zbr] at this)
            (λl hl=>by
              have:=qB.fr Y (n*H.size+l) (hcells l (by omega))
              rwa[<-zbr] at this)
           have wr:=i0.writeG hB Y (k:=n*H.size) (vs:=jh β C.get e m) (B':={n:=n+m,sz:=B.sz,get:=ald B.get C.get n e,kd:= .own})
            (by rw[n1];have h4:(n+m)*B.sz<=(β i).cap*B.sz:=zbm _ a0
                rw[zaG] at h4
                rw[<-e0,<-g0];omega) rfl rfl a0 (λ_=>n0) (λk Y=>by rw[H0 k Y,g0]) hjlive
            (by
              intro k o s Y V;have ho:o<C.sz:=by
               rcases zah o C.sz with h'|h'
               ·exact h'
               ·rw[zad (by rw[H0 k Y];exact h')] at V;cases V
              rw[n1,<-e0,g0];replace V:(ald B.get C.get n e k)[o]? =some s:=V;by_cases m0:k<n
              ·rw[sA m0] at V;exact .inr ⟨.inl (jS m0 ho),by omega,V⟩
              ·rw[n7 m0] at V;have R0:k - n<m:=by simp at Y;omega
               have h5:=jS (n:=m) (sz:=C.sz) R0 ho;have h6:k*C.sz=n*C.sz+(k - n)*C.sz:=by rw[<-zaG];congr 1;omega
               refine .inl ⟨by omega,by omega, ?_⟩;rw[show k*C.sz+o - n*C.sz=(k - n)*C.sz+o by omega];rw[sw (λi hi=>qC.len (e+i) (by omega)) R0 ho,V]
               rfl)
           have rb:=wr.reborn (i:=i) (id:=A.nx) (az _ _ _) rfl (by rw[ak Y0];exact hid) (X:={B with kd:= .gone}) rfl;rw[J6] at rb;refine⟨gp β A.nx (β i),_, ?_,by rw[<-g0];exact rb,w0 _ _ B0,N0 _ _ _,b1 _ λl hl=>aC λh=>hl (h▸hid)⟩;rw[ex,n4];rw[show addr β i 0 0=⟨(β i).blk,(β i).off,none⟩ by simp[addr]];rw[zaX];rw[r1]
           congr 1
           rw[jq (by rw[aA];exact n0) (.inr rfl)];simp[addr,aA]
          ·have q1: ∀k,k<n->(B.get (0+k)).length=H.size:=λk Y=>by rw[za7,qB.len k (by omega),g0,e0]
           obtain⟨v',w',r1,r2,r3⟩:=run_append_arg_grows (P:=P) w t ty el H z H.size H.bytes hu o0 hz rfl rfl M0 I0 (addr β i 0 0) n (β i).cap (jh β B.get 0 n) (sj q1) (λl u hu=>vf qB (by omega) l u hu) (addr β j e 0) m ((β j).cap - e) _ n1 n2 (by omega) (v0 _ h2) h2;refine grown v' w' r2 r3 ?_;rw[ex,n4,zaX];exact r1
       ·cases h
      ·cases h
     ·cases h
   split at h
   ·cases h
   ·rename_i Y;exact key (λe=>Y e) h
  ·cases h
 ·cases h
variable {t:TypeId}
theorem DQ {x y:SV} (h:ac6 A o=some (t,x,y)):o.guard=none/\ ∃c:Call,o.op= .call c/\c.callee= .builtin .append/\c.argTypes= #[t,t]/\evs A.tm [] c.args.toList=some [x,y]:=by
 unfold ac6 at h;split at h
 ·rename_i c hg V;split at h
  ·rename_i H;split at h
   ·rename_i t1 t2 Z y1 Y N;cases J:Nat.beq t1 t2 with
    |false=>rw[J] at h;cases h
    |true=>
     rw[J] at h;simp only[zdr,za1,zag] at h;obtain⟨rfl,rfl,rfl⟩:=h;have:=zab J;subst this;exact⟨hg,c,V,H,by apply zaW;simpa using Y,N⟩
   ·cases h
  ·cases h
 ·cases h
variable {inl:Inl} {KP:Value->zdS} {Q:zdW} {KK:Act->World->Prop}
theorem mP (i0:kn P W0 inl) {G:List (Nat×Bool)} {T:Aft->Prop} (V:kQ P Γ inl A o G=some T) {Kn:List Nat->zdS} 
 (h:T (uR A o.dst KP Kn)) (N:Is W0 A β a w) (hG:DX a G) 
 (hP: ∀v A' w' β',KP v A'->Is W0 A' β' a w'->Trs A β A' β'->Q (pex v) a w')
 (hK: ∀wl A' a' w' β',Kn wl A'->Is W0 A' β' a' w'->Trs A β A' β'->KK a' w'):
 Region.wanted o (yielded ops a.tmps)=true/\o.wp P a w KK Q:=by
 have e0: ∀{β':zdJ} {r:SV} {bl:zdM} {nx:Nat} {wl:zdI} {w':World},uR A o.dst KP Kn (.ok r) bl nx wl->BC W0 bl β' w'->NX bl nx->Live bl r->Tr A.bl A.nx wl β bl β'->A.nx<=nx->KK (a.put o.dst (r.conc β')) w':=by
  intro β' r bl nx wl w' Z k1 k2 k3 k4 k6;simp only[uR] at Z;split at Z
  ·rename_i A1 hp;have o0:=(N.fr.carry k4).frame nx (wl++A.wl);obtain⟨q1,q2,q3,q4,q5⟩:=FR.putD o0 k3 hp;refine hK _ A1 _ w' β' Z ⟨q1,by rw[q2];exact k1,by rw[q2,q3];exact k2,(nB hp).trans N.sd⟩ ⟨?_, ?_, ?_,q4⟩
   ·rw[q2,q5];exact k4.mono λi hi=>by simp[hi]
   ·rw[q5];exact λi hi=>by simp[hi]
   ·rw[q3];exact k6
  ·exact Z.elim
 unfold kQ at V;split at V
 ·rename_i x J;simp only[za1] at V;subst V;obtain⟨hg,hr⟩:=DO N.fr N.bc N.nx J h;refine⟨by simp[Region.wanted,hg], ?_⟩;unfold Oper.wp;rcases hr with ⟨v,H,Z⟩|⟨β',w',r,bl',n0,wl,H,Z,k1,k2,k3,k4,k5⟩
  ·rw[H];exact hP _ _ w β Z N (Trs.refl _ _)
  ·have f:=e0 Z k1 k2 k3 k4 k5;rcases H with H|⟨H,rfl⟩
   ·rw[H];exact f
   ·rw[H];exact f
 split at V
 ·rename_i t x y J;simp only[za1] at V;subst V;split at h
  ·rename_i b bl r k g0;obtain⟨V,h⟩:=Xg.1 h;obtain⟨hg,c,hop,a0,r0,q0⟩:=DQ J;have e1:=(j0 N.fr (G:= []) (λp hp=>by cases hp) q0).1;obtain⟨β',w',r1,r2,r3,r4,r5⟩:=Al N.bc N.nx g0 V o.type;refine⟨by simp[Region.wanted,hg], ?_⟩;have e2:c.args.map a.eval= #[x.conc β,y.conc β]:=by apply zaW;simpa [SV.concs] using e1
   have H:(execOp a.eval o).run P w= .ok (.value (r.conc β')) w':=by
    obtain⟨o1,o2,o3,o4,o5,o6⟩:=o;simp only[] at hop;subst hop;simp only[execOp,resolve,a0,zdF,zdG,zdE,invoke,builtin,e2,r0,r1]
   unfold Oper.wp;rw[H];exact e0 h r2 r3 r4 (r5.mono λi hi=>by simp[hi]) (zaT _)
  ·exact h.elim
 ·split at V
  ·rename_i f args J;simp only[za1] at V;subst V;unfold po at J;split at J
   ·rename_i c hg ho;split at J
    ·rename_i fo a0;split at J
     ·rename_i f' Y m0;split at J
      ·simp only[za1,zag] at J;obtain⟨rfl,rfl⟩:=J;refine⟨by simp[Region.wanted,hg], ?_⟩;obtain⟨o1,o2,o3,o4,o5,o6⟩:=o;simp only[] at hg ho;subst hg;subst ho;obtain⟨_,hl⟩:=nU N.fr hG m0;obtain⟨p0,hcalls⟩:=i0 f' Y A.bl A.nx [] _ β w h N.bc N.nx hl;obtain⟨r1,_⟩:=nR N.fr hG m0 p0 o3 w;have r2:(execOp a.eval ⟨o1, .call c,o3,o4,o5,none⟩).run P w= .ok (.enter f' (SV.concs β Y).toArray) w:=r1;unfold Oper.wp;rw[r2];refine Calls.mono hcalls ?_;rintro e w' ⟨β',r,bl',n0,v0,he,Z,k1,k2,k3,k4,k5,k6⟩;cases r with
       |ok r=>
        obtain rfl:e=_:=he;exact e0 Z k1 k2 k3 k4 k6
       |pan v=>
        obtain rfl:e=_:=he;refine hP v _ w' β' Z ⟨(N.fr.carry k4).frame n0 (v0++A.wl),k1,k2,N.sd⟩ ⟨k4.mono λi hi=>by simp[hi],λi hi=>by simp[hi],k6,rfl⟩
      ·cases J
     ·cases J
    ·cases J
   ·cases J
  ·cases V
variable {b:Bool}
theorem VH {p q:Prop}:ag b p q↔(b=true->p)/\(b=false->q):=by cases b<;>simp[ag]
variable {K:zdS}
theorem aeu (hΓ:GamOK P W0 Γ) (e0:kn P W0 inl) 
 (hP: ∀v A' w' β',KP v A'->Is W0 A' β' a w'->Trs A β A' β'->Q (pex v) a w') (hK: ∀A' a' w' β',K A'->Is W0 A' β' a' w'->Trs A β A' β'->KK a' w') (h:agn P Γ inl ops KP o A K) (H:Is W0 A β a w):
 if Region.wanted o (yielded ops a.tmps) then o.wp P a w KK Q else KK (a.put o.dst undef) w:=by
 unfold agn at h;split at h
 ·rename_i d V;split at h
  ·rename_i A1 hp;unfold Gg at V;split at V
   ·rename_i c hg ho;split at V
    ·rename_i f a0;split at V
     ·rename_i g first caps as hf ha
      simp only[za1] at V;subst V;obtain⟨e1,l1⟩:=bu H.fr (G:= []) (λp hp=>by cases hp) hf;obtain⟨e2,l2⟩:=j0 H.fr (G:= []) (λp hp=>by cases hp) ha;rw[if_pos (by simp[Region.wanted,hg])];have g0:FR β {A with df:=(g,first++as,caps)::A.df} {a with defers:={target:= .fn (.func g) (SV.concs β caps).toArray,args:=(SV.concs β (first++as)).toArray}::a.defers}:=by
       refine⟨⟨by rw[H.fr.defers.1];rfl,λp hp s J=> ?_⟩,H.fr.size,H.fr.v,H.fr.opt,H.fr.os⟩;rcases zai.1 hp with rfl|hp
       ·simp only[za8] at J;rcases J with (J|J)|J
        ·exact λi hi=>l1 i (by simp only[SV.ids,za8];exact .inl (SV.mem_idss.2 ⟨s,J,hi⟩))
        ·exact l2 s J
        ·exact λi hi=>l1 i (by simp only[SV.ids,za8];exact .inr (SV.mem_idss.2 ⟨s,J,hi⟩))
       ·exact H.fr.defers.2 p hp s J
      obtain⟨q1,Z,q3,q4,q5⟩:=FR.putD g0 (s:= .val undef) (λi hi=>by simp[SV.ids] at hi) hp;have N:(execOp a.eval o).run P w= .ok (.defer {target:= .fn (.func g) (SV.concs β caps).toArray,args:=(SV.concs β (first++as)).toArray}) w:=by
       obtain⟨o1,o2,o3,o4,o5,o6⟩:=o;simp only[] at ho;subst ho;have e3:c.args.map a.eval=(SV.concs β as).toArray:=by apply zaW;simpa using e2
       simp[execOp,resolve,a0,e1,e3,SV.conc,Deferred.ofValue,SV.concs_eq]
      unfold Oper.wp;rw[N];exact hK A1 _ w β h ⟨q1,by rw[Z];exact H.bc,by rw[Z,q3];exact H.nx,(nB hp).trans H.sd⟩ ⟨by rw[Z,q5];exact Tr.refl _ _ _ _,by rw[q5];exact λ_ h=>h,by rw[q3];exact za0 _,q4⟩
     ·cases V
    ·cases V
   ·cases V
  ·exact h.elim
 split at h
 ·rename_i T hb;obtain⟨hg,v,hk,N,hl⟩:=Ak H.fr H.bc hb h;rw[if_pos (by simp[Region.wanted,hg])];split at hk
  ·rename_i A1 hp;obtain⟨q1,Z,q3,q4,q5⟩:=FR.putD H.fr hl hp;unfold Oper.wp;rw[N];exact hK A1 _ w β hk ⟨q1,by rw[Z];exact H.bc,by rw[Z,q3];exact H.nx,(nB hp).trans H.sd⟩ ⟨by rw[Z,q5];exact Tr.refl _ _ _ _,by rw[q5];exact λ_ h=>h,by rw[q3];exact za0 _,q4⟩
  ·exact hk.elim
 split at h
 ·rename_i T hb;obtain⟨r1,r2⟩:=mP e0 (ops:=ops) hb h H (λp hp=>by cases hp) (Q:=Q) (KK:=KK) hP (λwl A' a' w' β' hk i0 m0=>hK A' a' w' β' hk i0 m0);rw[if_pos r1];exact r2
 ·split at h
  ·rename_i b A1 f Y;obtain⟨hb,h⟩:=Xg.1 h;subst hb
   exact mO hΓ H.fr H.bc (za0 _) Y (Q:=Q) (K:=KK) (λa' w' β' r1 r2 r3 r4 r5 r6=>by
    obtain⟨E,hE⟩:=Kg Y;refine hK _ a' w' β' h ⟨r1.frame _ _,r2, ?_,(ae3 Y).trans H.sd⟩ ⟨?_, ?_, ?_,r6⟩
    ·show NX A1.bl (A1.nx+1);rw[hE,r4];exact H.nx.apply E (by omega) (za0 _)
    ·exact r3.mono λi hi=>by simp[hi]
    ·intro i hi;simp[r5,hi]
    ·show A.nx<=A1.nx+1
     omega)
  ·exact h.elim
theorem vg {t:Nat} {c:Bool} (h:FR β A a) (ht:A.tm t= .v (.val (.bool c))):FR β (mH A t c) a:=by
 have hv:a.tmps.getD t undef= .bool c:=(h.v t _ ht).1;refine⟨h.defers,h.size,λx s H=> ?_,λx u b s H=> ?_,λx u b s H=> ?_⟩
 ·simp only[mH] at H;rw[bS] at H;by_cases N:x=t
  ·subst N;simp only[decide_true,zdr,TV.v.injEq] at H;subst H;exact⟨hv,λi hi=>by simp[SV.ids] at hi⟩
  ·simp only[N,decide_false,zdq] at H;split at H
   ·rename_i u b Y V;rw[bS] at H;by_cases J:u=t
    ·subst J;simp only[decide_true,zdr,TV.v.injEq] at H;subst H;obtain⟨h1,h2⟩:=h.opt x u b Y V;cases b<;>cases c
     ·exact h1 hv
     ·exact⟨h2 (by rw[hv];simp),λi hi=>by simp[SV.ids] at hi⟩
     ·exact⟨h2 (by rw[hv];simp),λi hi=>by simp[SV.ids] at hi⟩
     ·exact h1 hv
    ·simp[J] at H
   ·exact h.v x s (by rw[<-H])
 ·have:A.tm x= .opt u b s:=by
   simp only[mH] at H;rw[bS] at H;by_cases N:x=t
   ·simp[N] at H
   ·simp only[N,decide_false,zdq] at H;split at H
    ·rename_i Z b' Y V;rw[bS] at H;by_cases J:Z=t
     ·simp[J] at H
     ·simp only[J,decide_false,zdq] at H;rw[V];exact H
    ·exact H
  exact h.opt x u b s this
 ·have:A.tm x= .opt u b s:=by
   simp only[mH] at H;rw[bS] at H;by_cases N:x=t
   ·simp[N] at H
   ·simp only[N,decide_false,zdq] at H;split at H
    ·rename_i Z b' Y V;rw[bS] at H;by_cases J:Z=t
     ·simp[J] at H
     ·simp only[J,decide_false,zdq] at H;rw[V];exact H
    ·exact H
  exact h.os x u b s this
theorem mQ {β:zdJ} {a:Act} {w:World}: ∀(k:Nat) (A:AS) (t:Nat) (K:zdS),aaQ k A t K->Is W0 A β a w-> ∃A',K A'/\Is W0 A' β a w/\Trs A β A' β
 |0,A,t,K,h,H=>h.elim
 |k+1,A,t,K,h,H=>by
  simp only[aaQ] at h;split at h
  ·rename_i c J;cases N:A.lit.any (Nat.beq t) with
   |true=>rw[N] at h;exact⟨A,h,H,Trs.refl _ _⟩
   |false=>
    rw[N] at h;obtain⟨h1,h2⟩:=VH.1 h;cases c with
    |true=>exact⟨_,h1 rfl,⟨vg H.fr J,H.bc,H.nx,H.sd⟩,⟨Tr.refl _ _ _ _,λ_ h=>h,za0 _,rfl⟩⟩
    |false=>exact⟨_,h2 rfl,⟨vg H.fr J,H.bc,H.nx,H.sd⟩,⟨Tr.refl _ _ _ _,λ_ h=>h,za0 _,rfl⟩⟩
  ·exact⟨A,h,H,Trs.refl _ _⟩
  ·obtain⟨V,h1,s1,t1⟩:=mQ k A _ _ h H;obtain⟨Y,h2,Z,t2⟩:=mQ k V t K h1 s1;exact⟨Y,h2,Z,t1.trans t2⟩
  ·exact h.elim
theorem DS {s:SV} (h:s.conc β= .bool b):s= .val (.bool b):=by
 cases s with
 |val v=>simp[SV.conc] at h;rw[h]
 |_=>simp[SV.conc] at h
theorem FR.side (h:FR β A a) (s:Option BD×Option (Nat×ByteArray)):FR β {A with sd:=s} a:=⟨h.defers,h.size,h.v,h.opt,h.os⟩
theorem adg (H:o.op= .alloc t) {cs:zdK} (N:xX P t=some cs):
 (execOp a.eval o).run P w= .ok (.value (.pointer (some ⟨w.heap.size,0,none⟩))) (w.alloc (.cells (SV.concs oj cs).toArray t))/\ ∀s∈cs,s.ids= []:=by
 obtain⟨v,hv,J,hi⟩:=pb (P:=P) (β:=oj) w N;refine⟨?_,hi⟩;obtain⟨dst,op,ty,pos,after,V⟩:=o;simp only at H;subst H;have e:Sem.run P (do pure (Next.value (Value.pointer (some (<-newVar t v))))) w= .ok (.value (.pointer (some ⟨w.heap.size,0,none⟩))) (w.alloc (.cells (SV.concs oj cs).toArray t)):=by
  simp only[newVar,newRow,J,zdF,run_newObj,zdE,zdG,World.alloc_eq]
 rw[<-e];simp[execOp,Instr.alloc,hv]
def R5 (B:Base) (w:World) (g:Nat) (s:Option BD×Option (Nat×ByteArray)):Base where
 w:=w
 S:=λk=>(Nat.ble B.w.heap.size k||B.S k)&&Nat.blt k w.heap.size&& !B.F k&& !Nat.beq k g
 F:=λk=>(B.F k||Nat.beq k g)&&Nat.blt k w.heap.size
 hF:=λb H=>by
  simp only[zav,za2,aB,bS,zdt] at H;refine⟨H.2, ?_⟩;rcases H.1 with h|h
  ·simp[h]
  ·simp[h,bS]
 sd:=s
theorem Base.mine_F (h:B.mine k):B.F k=false:=by
 cases hF:B.F k with
 |false=>rfl
 |true=>
  obtain⟨f1,f2⟩:=B.hF k hF;rcases h with h|h
  ·omega
  ·rw[f2] at h;cases h
variable {g:Nat} {s:Option BD×Option (Nat×ByteArray)}
theorem XA (h:B.mine k) (H:k<w.heap.size) (hg:k≠g):(R5 B w g s).mine k:=by
 refine .inr ?_;have hF:=Base.mine_F h;show ((Nat.ble B.w.heap.size k||B.S k)&&Nat.blt k w.heap.size&& !B.F k&& !Nat.beq k g)=true;simp only[za2,zav,Nat.ble_eq,aB,zdt,hF,bS,zds hg];exact⟨⟨⟨h,H⟩,rfl⟩,rfl⟩
theorem acR (h:(R5 B w g s).S k=true):B.mine k:=by
 have h:((Nat.ble B.w.heap.size k||B.S k)&&Nat.blt k w.heap.size&& !B.F k&& !Nat.beq k g)=true:=h;simp only[za2,zav,Nat.ble_eq] at h;exact h.1.1.1
theorem adh (h:(R5 B w g s).out k):B.out k:=by
 obtain⟨h1,h2⟩:=h;have H:k<w.heap.size:=by
  rcases zah k w.heap.size with h|h
  ·exact h
  ·exact absurd (.inl h) h1
 have h2:((B.F k||Nat.beq k g)&&Nat.blt k w.heap.size)=false:=h2;rw[aB,zdp H,zaQ,zbs] at h2;refine⟨λJ=>h1 (XA J H λe=> ?_),h2.1⟩;rw[e,bS] at h2;simp at h2
theorem acS (h:B.out k) (J:k<w.heap.size) (hg:k≠g):(R5 B w g s).out k:=by
 refine⟨λH=> ?_, ?_⟩
 ·rcases H with H|H
  ·have:w.heap.size<=k:=H;omega
  ·exact h.1 (acR H)
 ·show ((B.F k||Nat.beq k g)&&Nat.blt k w.heap.size)=false;rw[h.2,bS,zds hg];rfl
theorem Is.side (V:SubB B W0) (g0: ∀b,B.out b->W0.out b) (hs:Is B A β a w) {b g':Nat} (hb:B.F b=true) (hg:B.F g=true) (n0:W0.mine b) (o0:W0.mine g) (i0:g'=g\/w.heap.size<=g')
 (p0: ∀es c,w.heap[b]? ≠some (.map es c)/\w.heap[g]? ≠some (.map es c)) (H:Kept2 b g w w') (s:Option BD×Option (Nat×ByteArray)):
 SubB (R5 B w' g' s) W0/\(∀k,(R5 B w' g' s).out k->W0.out k)/\BC (R5 B w' g' s) A.bl β w':=by
 have a0: ∀i X,A.bl i=some X->X.kd≠ .gone->(β i).nil=false->(β i).blk<w.heap.size:=λi X J hg N=>(hs.bc.blk i X J hg).lt N;have nF: ∀i X,A.bl i=some X->X.kd≠ .gone->(β i).nil=false->B.F (β i).blk=false:=λi X J hg N=>by
  by_cases ho:X.kd= .old
  ·exact(hs.bc.old i X J ho N).2
  by_cases hw:X.kd= .own
  ·exact Base.mine_F (hs.bc.own i X J hw N)
  ·have hm:X.kd.map=true:=by cases H:X.kd<;>first|rfl|exact absurd H hg|exact absurd H ho|exact absurd H hw
   exact Base.mine_F (hs.bc.maps.ok i X J hm).2.2.1
 have e0: ∀{k:Nat},B.F k=false->k<w.heap.size->k≠g':=λ{k} h1 h2 e=>by
  rcases i0 with h|h
  ·rw[e,h,hg] at h1;cases h1
  ·omega
 refine⟨⟨?_,λk m0=>V.mine (acR m0)⟩,λk h=>g0 k (adh h), ?_⟩
 ·have p:=V.pres hs.bc.below;refine⟨H.os.trans p.os,H.tape.trans p.tape,H.output.trans p.output,zac p.size H.size,λk h1 h2=> ?_⟩;have nm: ¬W0.mine k:=λh=>by
   rcases h with h|h
   ·omega
   ·rw[h2] at h;cases h
  show w'.heap[k]? =_;rw[H.block k (zam h1 p.size) (λe=>nm (e▸n0)) (λe=>nm (e▸o0))];exact p.block k h1 h2
 ·refine hs.bc.hop (Pres.self _) H.size H.block (λi X J Y N=> ?_) p0 (λi X J Z N hm=> ?_) (λi X J Z N ho=> ?_)
  ·have:=nF i X J Y N;exact⟨λe=>(by rw[e,hb] at this;cases this),λe=>(by rw[e,hg] at this;cases this)⟩
  ·have Y:X.kd≠ .gone:=by rcases Z with h|h<;>intro e<;>rw[e] at h<;>cases h
   have hl:=a0 i X J Y N;exact XA hm (zam hl H.size) (e0 (Base.mine_F hm) hl)
  ·have hl:=a0 i X J (by rw[Z];simp) N;exact acS ho (zam hl H.size) (e0 ho.2 hl)
theorem aev {ops:zdP} {Q:zdW} {KK:Act->World->Prop} {o:Oper} {A A1:AS} {a:Act} {w:World} {β:zdJ} {d:BD} {bb:Bool} (hx:IsX P W0 A β a w) (J:adW A o=some (d,bb,some A1)) (q0:bb=true) (hd:ahr P d)
 (hK: ∀a' w' β',IsX P W0 A1 β' a' w'->Trs A β A1 β'->KK a' w'):Region.wanted o (yielded ops a.tmps)=true/\o.wp P a w KK Q:=by
 obtain⟨B,V,g0,H,x0⟩:=hx;unfold adW at J;split at J
 ·cases J
 rename_i d0 N0;split at J
 ·
  rename_i t hg hop;cases ht:Nat.beq t d0.tb with
  |false=>rw[ht] at J;cases J
  |true=>
  rw[ht] at J;simp only[zdr,za1,zag] at J;obtain⟨rfl,h2,hp⟩:=J;rw[q0] at h2;have ht:=zab ht;subst ht;refine⟨by simp[Region.wanted,hg], ?_⟩;have hn:A.sd.2=none:=by
   split at h2
   ·assumption
   ·cases h2
  rw[hn] at h2;simp only[za2] at h2;have hid:=Wi.1 h2.1;obtain⟨dd,Q0⟩:=Option.isSome_iff_exists.1 h2.2;obtain⟨at',N⟩:=hd;obtain⟨o0,O0⟩:=adg (P:=P) (a:=a) (w:=w) hop N.zero;have M0:(SV.concs oj [.val (.pointer none), .val (.slice none 0 0)]).toArray= #[.pointer none, .slice none 0 0]:=rfl;rw[M0] at o0;unfold Oper.wp;rw[o0,Oper.upon_value];have Z:(w.alloc (.cells #[.pointer none, .slice none 0 0] d0.tb)).heap.size=w.heap.size+1:=by simp[World.alloc_eq]
  have B0:Below w.heap.size w (w.alloc (.cells #[.pointer none, .slice none 0 0] d0.tb)):=(zdD _ _).alloc (za0 _) _;have H0:Tr A.bl A.nx [A.nx] β (upd A.bl A.nx zP) (gp β A.nx ⟨w.heap.size,0,2,1,false⟩):=
   ⟨λi X hX=>⟨X,by rw[ak (λe=>by rw[e,hid] at hX;cases hX)];exact hX,rfl,⟨rfl,rfl⟩, .inl rfl,λ_=>rfl⟩,λi hi=>aC λe=>hi (e▸hid),λi hi h0=>by rw[ak (by omega)];exact h0⟩
  have e0:=((H.fr.carry H0).frame (A.nx+1) (A.nx::A.wl)).side (some d0,some (A.nx,⟨#[]⟩))
  obtain⟨q1,q2,q3,q4,q5⟩:=FR.putD (s:= .ptr A.nx 0 0) e0 (λi hi=>by
   simp only[SV.ids,zaj] at hi;subst hi;show upd A.bl A.nx zP A.nx≠none
   rw[az];simp) hp
  have i0:=nB hp;have r0:(SV.ptr A.nx 0 0).conc (gp β A.nx ⟨w.heap.size,0,2,1,false⟩)= .pointer (some ⟨w.heap.size,0,none⟩):=by simp[SV.conc,addr,aA]
  rw[r0] at q1
  have k1:=(H.bc.alloc (id:=A.nx) hid (B:={n:=1,sz:=2,get:=λ_=> [.val (.pointer none), .val (.slice none 0 0)],kd:= .own}) rfl (λ_ _=>rfl) (λe o s _ hs i hi=>by
   have:=zal hs;simp at this;rcases this with rfl|rfl<;>simp[SV.ids] at hi) [.val (.pointer none), .val (.slice none 0 0)] rfl (λe o s he hs=>by
   have:e=0:=by simp at he;exact he
   subst this
   simpa using hs) d0.tb)
  rw[show (SV.concs β [SV.val (.pointer none),SV.val (.slice none 0 0)]).toArray= #[.pointer none, .slice none 0 0] from rfl] at k1;have k2:=k1.kill A.nx (X:=zP) rfl;rw[J6] at k2;have I0: ∀j X,upd A.bl A.nx zP j=some X->X.kd≠ .gone->(gp β A.nx ⟨w.heap.size,0,2,1,false⟩ j).nil=false->(gp β A.nx ⟨w.heap.size,0,2,1,false⟩ j).blk<w.heap.size:=λj X hX Y hn=>by
   have hj:j≠A.nx:=λe=>by subst e;rw[az] at hX;obtain rfl:zP=X:=by simpa using hX
                          exact Y rfl
   rw[ak hj] at hX;rw[aC hj] at hn ⊢;exact(H.bc.blk j X hX Y).lt hn
  have z0:=N.fresh w;refine hK _ _ (gp β A.nx ⟨w.heap.size,0,2,1,false⟩) ⟨R5 B (w.alloc (.cells #[.pointer none, .slice none 0 0] d0.tb)) w.heap.size A1.sd,⟨(V.pres H.bc.below).step B0,λk Y=>V.mine (acR Y)⟩,λk Y=>g0 k (adh Y),⟨q1, ?_, ?_,rfl⟩, ?_⟩ ⟨?_, ?_, ?_,q4⟩
  ·rw[q2];refine k2.rebase (Pres.self _) (λj X hX Y hn hm=> ?_) (λj X hX Y hn ho=> ?_)
   ·have hl:=I0 j X hX (by rcases Y with h|h<;>intro e<;>rw[e] at h<;>cases h) hn;exact XA hm (show _<(w.alloc _).heap.size by rw[Z];exact Nat.lt_succ_of_lt hl) (Nat.ne_of_lt hl)
   ·have hl:=I0 j X hX (by rw[Y];simp) hn;exact acS ho (show _<(w.alloc _).heap.size by rw[Z];exact Nat.lt_succ_of_lt hl) (Nat.ne_of_lt hl)
  ·rw[q2,q3];show NX (upd A.bl A.nx zP) (A.nx+1);exact λi hi=>by rw[ak (by omega)];exact H.nx i (by omega)
  ·intro x t hx;rw[i0] at hx ⊢;simp only[za1,zag] at hx;obtain⟨rfl,rfl⟩:=hx;refine⟨by rw[q2];show upd A.bl A.nx zP A.nx≠none;rw[az];simp,d0,at',w.heap.size,w.heap.size,rfl,N,by rw[aA],by rw[aA],z0, ?_, ?_, .inl (V.pres H.bc.below).size, .inl (V.pres H.bc.below).size⟩<;>
   ·show ((B.F w.heap.size||Nat.beq w.heap.size w.heap.size)&&Nat.blt w.heap.size (w.alloc _).heap.size)=true;rw[bS,aB,Z];simp
  ·rw[q2,q5];exact H0.mono λi hi=>by
    simp only[zaj] at hi;subst hi;simp
  ·rw[q5];exact λi hi=>by simp[hi]
  ·rw[q3];exact zaT _
 ·
  rename_i c hg hop;split at J
  ·rename_i f args x t y0 E0;obtain⟨L0,d1,at',b,g,e1,N,e3,e4,e5,e6,e7,e8,e9⟩:=x0 x t E0;rw[N0] at e1;obtain rfl:d0=d1:=by simpa using e1
   obtain⟨_,hl⟩:=nU H.fr (G:= []) (λp hp=>by cases hp) y0;have same: ∀k,B.F k=true->w.heap[k]? =B.w.heap[k]? :=λk Y=>H.bc.below.block k (B.hF k Y).1 (B.hF k Y).2;have p0:=N.keep b g t B.w w e5 (same b e6) (same g e7);have C0:=N.lt b g t w p0;have n0:(SV.ptr x 0 0).conc β= .pointer (some ⟨b,0,none⟩):=by simp[SV.conc,addr,e3,e4]
   refine⟨by simp[Region.wanted,hg], ?_⟩;obtain⟨o1,o2,o3,o4,o5,o6⟩:=o;simp only[] at hg hop;subst hg;subst hop;cases hw:Nat.beq f d0.write with
   |true=>
    rw[hw] at J;simp only[zdr] at J;split at J
    ·rename_i i s;simp only[za1,zag] at J;obtain⟨rfl,h2,hp⟩:=J;rw[q0] at h2;simp only[za2,bS,zdt] at h2;obtain⟨rfl,Z⟩:=h2;have v0:=zab hw;subst v0;obtain⟨r1,_⟩:=nR H.fr (G:= []) (λp hp=>by cases hp) y0 N.cw o3 w;have r2:(execOp a.eval ⟨o1, .call c,o3,o4,o5,none⟩).run P w= .ok (.enter d0.write (SV.concs β [.ptr i 0 0, .val (.string s)]).toArray) w:=r1;rw[show (SV.concs β [.ptr i 0 0, .val (.string s)]).toArray= #[.pointer (some ⟨b,0,none⟩), .string s] by simp only[SV.concs,n0];rfl] at r2;unfold Oper.wp;rw[r2];refine Calls.mono (N.write b g t s w p0 Z) ?_;rintro e w' ⟨rfl,g',h1,h3,Y⟩;have e0:=H.fr.side (some d0,some (i,t++s));obtain⟨q1,q2,q3,q4,q5⟩:=FR.putD (s:= .tup [.val (.int .i64 s.size), .val .nilIface]) e0 (λj hj=>by simp[SV.ids,SV.idss] at hj) hp;have i0:=nB hp;obtain⟨z1,z2,z3⟩:=H.side V g0 e6 e7 e8 e9 h3 C0.2.2 Y A1.sd;have m0:=N.lt b g' _ w' h1;have ht:Trs A β A1 β:=⟨by rw[q2,q5];exact Tr.refl _ _ _ _,by rw[q5];exact λ_ h=>h,by rw[q3];exact za0 _,q4⟩;refine hK _ _ β ⟨R5 B w' g' A1.sd,z1,z2,⟨q1,by rw[q2];exact z3,by rw[q2,q3];exact H.nx,rfl⟩,λx' t' a0=> ?_⟩ ht;rw[i0] at a0 ⊢;simp only[za1,zag] at a0;obtain⟨rfl,rfl⟩:=a0;refine⟨by rw[q2];exact L0,d0,at',b,g',rfl,N,e3,e4,h1, ?_, ?_,e8, ?_⟩
     ·show ((B.F b||Nat.beq b g')&&Nat.blt b w'.heap.size)=true;rw[e6,aB,zdp m0.1];rfl
     ·show ((B.F g'||Nat.beq g' g')&&Nat.blt g' w'.heap.size)=true;rw[bS,aB,zdp m0.2.1];simp
     ·rcases h3 with rfl|h3
      ·exact e9
      ·exact .inl (zac (V.pres H.bc.below).size h3)
    ·cases J
   |false=>
   rw[hw] at J;simp only[zdq] at J;cases w0:Nat.beq f d0.str with
   |false=>rw[w0] at J;cases J
   |true=>
    rw[w0] at J;simp only[zdr] at J;split at J
    ·rename_i i;simp only[za1,zag] at J;obtain⟨rfl,h2,hp⟩:=J;rw[q0] at h2;simp only[za2,bS,zdt] at h2;obtain⟨rfl,Z⟩:=h2;have v0:=zab w0;subst v0;obtain⟨r1,_⟩:=nR H.fr (G:= []) (λp hp=>by cases hp) y0 N.cs o3 w;have r2:(execOp a.eval ⟨o1, .call c,o3,o4,o5,none⟩).run P w= .ok (.enter d0.str (SV.concs β [.ptr i 0 0]).toArray) w:=r1;rw[show (SV.concs β [.ptr i 0 0]).toArray= #[.pointer (some ⟨b,0,none⟩)] by simp only[SV.concs,n0]] at r2;unfold Oper.wp;rw[r2];refine Calls.mono (N.str b g t w p0 Z) ?_;rintro e w' ⟨rfl,Y⟩;have e0:=H.fr.side (some d0,none);obtain⟨q1,q2,q3,q4,q5⟩:=FR.putD (s:= .val (.string t)) e0 (λj hj=>by simp[SV.ids] at hj) hp;have i0:=nB hp;obtain⟨z1,z2,z3⟩:=H.side V g0 e6 e7 e8 e9 (.inl rfl) C0.2.2 Y A1.sd;have ht:Trs A β A1 β:=⟨by rw[q2,q5];exact Tr.refl _ _ _ _,by rw[q5];exact λ_ h=>h,by rw[q3];exact za0 _,q4⟩;refine hK _ _ β ⟨R5 B w' g A1.sd,z1,z2,⟨q1,by rw[q2];exact z3,by rw[q2,q3];exact H.nx,rfl⟩,λx' t' a0=> ?_⟩ ht;rw[i0] at a0;cases a0
    ·cases J
  ·cases J
 ·cases J
theorem sB (hΓ:GamOK P W0 Γ) (Z: ∀B,SubB B W0->kn P B inl) 
 (hP: ∀v A' w' β',KP v A'->IsX P W0 A' β' a w'->Trs A β A' β'->Q (pex v) a w') (hK: ∀A' Y w' β',K A'->IsX P W0 A' β' Y w'->Trs A β A' β'->KK Y w') (h:aeq P Γ inl ops KP o A K) (hs:IsX P W0 A β a w):
 if Region.wanted o (yielded ops a.tmps) then o.wp P a w KK Q else KK (a.put o.dst undef) w:=by
 unfold aeq at h;split at h
 ·rename_i d b r hf;obtain⟨hd,h⟩:=h;obtain⟨hb,h⟩:=Xg.1 h;split at h
  ·rename_i A1 _;obtain⟨k1,k2⟩:=aev (ops:=ops) (Q:=Q) hs hf hb hd (λY w' β' h1 h2=>hK A1 Y w' β' h h1 h2);rw[if_pos k1];exact k2
  ·exact h.elim
 ·obtain⟨B,H,N,V,J⟩:=hs;exact aeu (W0:=B) (hΓ.sub H) (Z B H) (λv A' w' β' hk h1 h2=>hP v A' w' β' hk (IsX.wrap H N V J h1 h2) h2) (λA' Y w' β' hk h1 h2=>hK A' Y w' β' hk (IsX.wrap H N V J h1 h2) h2) h V
theorem sC {Γ:zdO} (hΓ:GamOK P W0 Γ) {inl:Inl} (Z: ∀B,SubB B W0->kn P B inl) {ops:zdP} {Q:zdW} {KP:Value->zdS} {K:zdS} {A0:AS} {β0:zdJ}
 (hQ: ∀A' V w' β',K A'->IsX P W0 A' β' V w'->Trs A0 β0 A' β'->Q .normal V w') (hP: ∀v A' V w' β',KP v A'->IsX P W0 A' β' V w'->Trs A0 β0 A' β'->Q (pex v) V w'):
 ∀(H:List Oper) (A:AS) (a:Act) (w:World) (β:zdJ),mI P Γ inl ops KP H A K->IsX P W0 A β a w->Trs A0 β0 A β->wpList P ops Q H a w
 | [],A,a,w,β,h,hs,ht=>hQ A a w β h hs ht
 |o::H,A,a,w,β,h,hs,ht=>by
  simp only[mI] at h;have go: ∀A' V w' β',mI P Γ inl ops KP H A' K->IsX P W0 A' β' V w'->Trs A0 β0 A' β'->wpList P ops Q H V w':=λA' V w' β'=>sC hΓ Z hQ hP H A' V w' β';unfold wpList;split at h
  ·rename_i t b Y;obtain⟨B,e0,a0,g0,hside0⟩:=hs;obtain⟨A1,h,s1,t1⟩:=mQ (W0:=B) _ _ _ _ h g0;have x1:IsX P W0 A1 β a w:=IsX.wrap e0 a0 g0 hside0 s1 t1;have i0:=ht.trans t1;have guard: ∃j,o.guard=some (j,b)/\(ops.toList[j]?).bind (·.dst)=some t:=by
    unfold Gh at Y;split at Y
    ·rename_i j b' hg;split at Y
     ·rename_i t' hj;have:=bG Y;simp only[za1,zag] at this;obtain⟨rfl,rfl⟩:=this;exact⟨j,hg,hj⟩
     ·cases Y
    ·cases Y
   obtain⟨j,hg,hj⟩:=guard;have hw:=ib (a:=a) hg hj
   have skip:(match putD A1 o.dst (.v (.val undef)) with
    |some A'=>mI P Γ inl ops KP H A' K
    |none=>False)->wpList P ops Q H (a.put o.dst undef) w:=by
    intro h;split at h
    ·rename_i A2 hp;obtain⟨q1,q2,q3,q4,q5⟩:=FR.putD s1.fr (s:= .val undef) (λi hi=>by simp[SV.ids] at hi) hp;have t2:Trs A1 β A2 β:=⟨by rw[q2,q5];exact Tr.refl _ _ _ _,by rw[q5];exact λ_ h=>h,by rw[q3];exact za0 _,q4⟩;exact go A2 _ w β h (IsX.wrap e0 a0 g0 hside0 ⟨q1,by rw[q2];exact s1.bc,by rw[q2,q3];exact s1.nx,(nB hp).trans s1.sd⟩ (t1.trans t2)) (i0.trans t2)
    ·exact h.elim
   unfold wm at h;split at h
   ·rename_i c hc;have hv:a.tmps.getD t undef= .bool c:=(s1.fr.v t _ hc).1;obtain⟨h1,h2⟩:=VH.1 h;by_cases m0:c=b
    ·subst m0;have k:=sB hΓ Z (o:={o with guard:=none}) (ops:=ops) (Q:=Q) (KK:=wpList P ops Q H) (λv A' w' β' hk J N=>hP v A' a w' β' hk J (i0.trans N)) (λA' V w' β' hk J N=>go A' V w' β' hk J (i0.trans N)) (h1 (by cases c<;>rfl)) x1;rw[if_pos (by simp[Region.wanted])] at k;rw[if_pos (hw.2 hv)];exact .inl k
    ·rw[if_neg (λe=>m0 (by have:=hw.1 e;rw[hv] at this;simpa using this))];exact skip (h2 (by cases c<;>cases b<;>simp_all))
   ·rename_i s n0 hc;have hv:a.tmps.getD t undef=s.conc β:=(s1.fr.v t _ hc).1;rw[if_neg (λe=>by have:=hw.1 e;rw[hv] at this;exact n0 _ (by rw[DS this]))];exact skip h
   ·exact h.elim
  ·have k:=sB hΓ Z (o:=o) (ops:=ops) (Q:=Q) (KK:=wpList P ops Q H) (λv A' w' β' hk J N=>hP v A' a w' β' hk J (ht.trans N)) (λA' V w' β' hk J N=>go A' V w' β' hk J (ht.trans N)) h hs;by_cases hw:Region.wanted o (yielded ops a.tmps)=true
   ·rw[if_pos hw] at k ⊢;exact .inl k
   ·rw[if_neg hw] at k ⊢;exact k
theorem Post.mono {K K':Exit->zdS} (h: ∀e A,K e A->K' e A) (e:Exit) (a:Act) (w:World) (hp:Post P W0 A β K e a w):Post P W0 A β K' e a w:=by
 obtain⟨A',β',h1,h2,h3⟩:=hp;exact⟨A',β',h _ _ h1,h2,h3⟩
theorem Post.from {B:AS} {K:Exit->zdS} (t:Trs A β B γ) (e:Exit) (a:Act) (w:World) (hp:Post P W0 B γ K e a w):Post P W0 A β K e a w:=by
 obtain⟨A',β',h1,h2,h3⟩:=hp;exact⟨A',β',h1,h2,t.trans h3⟩
end
section
variable {P:Program} {W0:Base}
variable {hq:Bool} {Γ:zdO} {tm:Nat->TV} {bl:zdM} {G:List (Nat×Bool)} {id id':Nat} {op:Op} {E:Eff}
theorem GA (H:eff P Γ hq tm bl G id op=some E) (J:E.nw=none):
 eff P Γ hq tm bl G id' op=some E:=by
 cases op with
 |alloc t=>
  exfalso;simp only[eff] at H;split at H
  ·simp only[za1] at H;subst H;cases J
  ·cases H
 |box t x=>
  exfalso;simp only[eff] at H;split at H
  ·cases H
  ·simp only[za1] at H;subst H;cases J
  ·cases H
 |buildSlice t n parts=>
  exfalso;simp only[eff] at H;split at H
  ·split at H
   ·have H:=bG H;split at H
    ·simp only[za1] at H;subst H;cases J
    ·cases H
   ·cases H
  ·cases H
 |slice t x lo hi N=>cases N<;>exact H
 |_=>exact H
variable {i:Nat}
theorem GB (H:eff P Γ hq tm bl G id op=some E) (hi:i∈E.rd):bl i≠none:=by
 have J: ∀{o:Option SV},avY o=some E->False:=λh=>by obtain⟨s,_,rfl⟩:=cJ h;cases hi
 have N: ∀{o:Option (Bool×SV)},pY o=some E->False:=λh=>by obtain⟨b,s,_,rfl⟩:=ia h;cases hi
 cases op with
 |lookup t m k ok=>
  simp only[eff] at H;split at H
  ·obtain⟨j,B,_,hB,Y,_,_,_⟩:=lI H;rw[Y] at hi;simp only[zaj] at hi;subst hi;rw[hB];simp
  ·cases H
 |store t x y=>
  exfalso;simp only[eff] at H;split at H
  ·unfold o9 at H;split at H
   ·split at H
    ·split at H
     ·split at H
      ·have H:=bG H;simp only[za1] at H;subst H;cases hi
      ·cases H
     ·cases H
    ·cases H
   ·cases H
  ·cases H
 |box t x=>
  exfalso;simp only[eff] at H;split at H
  ·cases H
  ·simp only[za1] at H;subst H;cases hi
  ·cases H
 |buildSlice t n parts=>
  exfalso;simp only[eff] at H;split at H
  ·split at H
   ·have H:=bG H;split at H
    ·simp only[za1] at H;subst H;cases hi
    ·cases H
   ·cases H
  ·cases H
 |load t x=>
  simp only[eff] at H;split at H
  ·unfold rH at H;split at H
   ·split at H
    ·rename_i B hB
     have key:i=_:=(by
      split at H
      ·cases H
      ·split at H
       ·split at H
        ·simp only[za1] at H;subst H;simpa using hi
        ·cases H
       ·have H:=bG H;simp only[za1] at H;subst H;simpa using hi
       ·cases H)
     rw[key,hB];simp
    ·cases H
   ·cases H
  ·cases H
 |convert s d x=>
  simp only[eff] at H;split at H
  ·split at H
   ·simp only[za1] at H;subst H;cases hi
   ·cases H
  ·split at H
   ·simp only[za1] at H;subst H;cases hi
   ·cases H
  ·split at H
   ·rename_i hB;split at H
    ·split at H
     ·have H:=bG H;simp only[za1] at H;subst H;simp only[zaj] at hi;subst hi;rw[hB];simp
     ·cases H
    ·cases H
   ·cases H
  ·cases H
 |slice t x lo V Z=>
  cases Z with
  |some m=>simp[eff] at H
  |none=>
   simp only[eff] at H;split at H
   ·split at H
    ·have H:=bG H;simp only[za1] at H;subst H;cases hi
    ·cases H
   ·split at H
    ·rename_i hB _;split at H
     ·cases H
     ·have H:=bG H;simp only[za1] at H;subst H;simp only[zaj] at hi;subst hi;rw[hB];simp
    ·cases H
   ·cases H
 |indexAddr t x y=>
  simp only[eff] at H;split at H
  ·split at H
   ·split at H
    ·simp only[za1] at H;subst H;cases hi
    ·cases H
   ·cases H
  ·split at H
   ·rename_i hB;split at H
    ·cases H
    ·have H:=bG H;simp only[za1] at H;subst H;simp only[zaj] at hi;subst hi;rw[hB];simp
    ·cases H
   ·cases H
  ·cases H
 |index t x y=>
  exfalso;simp only[eff] at H;split at H
  ·split at H
   ·split at H
    ·split at H
     ·have H:=bG H;split at H
      ·simp only[za1] at H;subst H;cases hi
      ·cases H
     ·cases H
    ·split at H
     ·simp only[za1] at H;subst H;cases hi
     ·cases H
    ·cases H
   ·cases H
  ·split at H
   ·simp only[za1] at H;subst H;cases hi
   ·cases H
  ·cases H
 |call c=>
  exfalso;simp only[eff] at H;split at H
  ·split at H
   ·unfold ae2 at H;split at H
    ·split at H
     ·exact J H
     ·cases H
    ·split at H
     ·exact J H
     ·cases H
    ·split at H
     ·exact J H
     ·cases H
    ·cases H
   ·cases H
  ·split at H
   ·split at H
    ·exact N H
    ·cases H
   ·cases H
 |_=>
  exfalso;simp only[eff] at H
  first
   |exact J H
   |(repeat' (first|(split at H)|(cases H;done)))
    all_goals first
     |exact J H
     |exact N H
     |(simp only[za1] at H;subst H;cases hi;done)
def RO (D:Dl):Prop:=D.E.wr=none/\D.E.nw=none
variable {D:Dl}
theorem VZ:(aV id D.E).2= []↔RO D:=by
 unfold aV RO;simp only[zd5];constructor
 ·rintro⟨h1,h2⟩;constructor
  ·unfold wrI at h1;split at h1
   ·cases h1
   ·assumption
  ·unfold nwI at h2;split at h2
   ·cases h2
   ·assumption
 ·rintro⟨h1,h2⟩;simp[wrI,nwI,h1,h2]
theorem fh (h:RO D) (id:Nat) (A:AS):app D id A={A with tm:=dI D.d D.tv A.tm,og:=arz (D.key.bind λ_=>D.d) A.og,ok:=arz (D.d.bind λ_=>D.key) A.ok}:=by
 simp[app,VO,h.1,h.2]
variable {ops:zdP} {o:Oper} {A:AS}
theorem Stp.reid (h:Stp P Γ ops id o A D) (H:RO D) (J:A.bl id'=none):Stp P Γ ops id' o A D:=by
 refine⟨h.d,J,h.put, ?_⟩;have src:=h.src;unfold Src at src ⊢;cases hg:o.guard with
 |none=>
  rw[hg] at src;exact⟨src.1,src.2.1,src.2.2.1,GA src.2.2.2 H.2⟩
 |some p=>
  obtain⟨j,b⟩:=p;rw[hg] at src;obtain⟨t,g,h1,h2,h3,h4,h5⟩:=src;exact⟨t,g,h1,h2,h3,GA h4 H.2,h5⟩
theorem Stp.det {D':Dl} (h:Stp P Γ ops id o A D) (k:Stp P Γ ops id o A D'):D=D':=by
 have s1:=h.src;have H:=k.src;have hd:=h.d.trans k.d.symm;obtain⟨d,tv,key,E⟩:=D;obtain⟨d',e0,a0,E'⟩:=D';simp only[] at hd s1 H;subst hd;unfold Src at s1 H;cases hg:o.guard with
 |none=>
  rw[hg] at s1 H;obtain⟨V,Y,a3,Z⟩:=s1;obtain⟨N,b2,b3,J⟩:=H;simp only[] at*
  rw[Z] at J;obtain rfl:E=E':=by simpa using J
  rw[V,N,Y,b2]
 |some p=>
  obtain⟨j,b⟩:=p;rw[hg] at s1 H;obtain⟨t,g,V,Y,a3,Z,a5,a6,a7,a8⟩:=s1;obtain⟨t',g',N,b2,b3,J,b5,b6,b7,b8⟩:=H;simp only[] at*
  rw[V] at N;obtain rfl:t=t':=by simpa using N
  rw[Z] at J;obtain rfl:E=E':=by simpa using J
  rw[Y,b2,a8,b8]
variable {t:Nat}
theorem DT (h:Src P Γ ops id o A D) (H:D.key=some t):t∈o.looksAt ops:=by
 unfold Src at h;cases hg:o.guard with
 |none=>rw[hg] at h;rw[h.1] at H;cases H
 |some p=>
  obtain⟨j,b⟩:=p;rw[hg] at h;obtain⟨J,g,k1,k2,_⟩:=h;rw[k2] at H;obtain rfl:J=t:=by simpa using H
  refine zb1 _ ?_;rw[hg];simp at k1 ⊢;exact k1
def kr (A:AS) (d:Option Nat) (r:SV) (bl:zdM) (nx:Nat) (wl:zdI):AS:={A with tm:=dI d (.v r) A.tm,bl:=bl,nx:=nx,wl:=wl}
variable {B A':AS} {d:Option Nat} {s:SV}
theorem Wa:putD B d (.v s)=some A'↔A'={B with tm:=dI d (.v s) B.tm}/\ ∀x,d=some x->x<B.nt/\B.ok x=false:=by
 cases d with
 |none=>simp[putD,dK];exact⟨λh=>h.symm,λh=>h.symm⟩
 |some d=>
  simp only[putD];cases H:(Nat.blt d B.nt&& !B.ok d) with
  |false=>
   simp only[zdq];constructor
   ·intro h;cases h
   ·rintro⟨_,h⟩;have h2:=h d rfl;rw[aB] at H;simp[h2.1,h2.2] at H
  |true=>
   rw[aB] at H;simp only[za2,zdt,zap] at H;simp only[zdr,za1,forall_eq'];constructor
   ·intro h;exact⟨h.symm,H⟩
   ·intro h;exact h.1.symm
variable {r:SV} {nx:Nat} {wl:zdI}
theorem Cc (N:OS A) (hr:RO D)
 (Y: ∀x,d=some x->A.ok x=false/\x∉o.looksAt ops) (e0: ∀j∈D.E.rd,bl j=A.bl j):Src P Γ ops id o (kr A d r bl nx wl) D↔Src P Γ ops id o A D:=by
 have a0: ∀x∈o.op.operands,∀G,ev (dI d (.v r) A.tm) G x=ev A.tm G x:=λx g0 G=>Ai (λt e Z=>by
  subst e
  exact(Y t Z).2 (zbI _ (zcH.2 ⟨.tmp t,by simpa using g0,rfl⟩))) G
 have hf: ∀i,(i∈D.E.rd\/i∈wrI D.E)->bl i=A.bl i:=λi hi=>by
  rcases hi with hi|hi
  ·exact e0 i hi
  ·simp[wrI,hr.1] at hi
 have J: ∀G,eff P Γ (kr A d r bl nx wl).hq (kr A d r bl nx wl).tm (kr A d r bl nx wl).bl G id o.op=some D.E↔eff P Γ A.hq A.tm A.bl G id o.op=some D.E:=by
  intro G;show eff P Γ A.hq (dI d (.v r) A.tm) bl G id o.op=some D.E↔_;rw[Gw a0];exact⟨λh=>wv h λi hi=>(hf i hi).symm,λh=>wv h λi hi=>hf i hi⟩
 unfold Src;cases hg:o.guard with
 |none=>simp only[J]
 |some p=>
  obtain⟨j,b⟩:=p;have H: ∀t,(ops.toList[j]?).bind (·.dst)=some t->d≠some t:=λt ht Z=>by
   refine(Y t Z).2 (zb1 _ ?_);rw[hg];simp at ht ⊢;exact ht
  constructor
  ·rintro⟨t,g,h1,h2,h3,h4,h5⟩;refine⟨t,g,h1,h2, ?_, ?_,h5⟩
   ·rw[<-jt N (λx V=>(Y x V).1) 9 t b (H t h1)];exact h3
   ·have:=(J _).1 h4;rw[show Xw (kr A d r bl nx wl).tm 9 t b=Xw A.tm 9 t b from ju N (λx V=>(Y x V).1) 9 t b (H t h1)] at this;exact this
  ·rintro⟨t,g,h1,h2,h3,h4,h5⟩;refine⟨t,g,h1,h2, ?_, ?_,h5⟩
   ·show kO (dI d (.v r) A.tm) 9 t b=_;rw[jt N (λx V=>(Y x V).1) 9 t b (H t h1)];exact h3
   ·rw[show Xw (kr A d r bl nx wl).tm 9 t b=Xw A.tm 9 t b from ju N (λx V=>(Y x V).1) 9 t b (H t h1)];exact(J _).2 h4
variable {v:TV}
theorem DU {e:Option Nat} {u:TV} (h: ∀x,d=some x->e≠some x):dI d v (dI e u tm)=dI e u (dI d v tm):=by
 funext t
 cases d with
 |none=>rfl
 |some x=>
  cases e with
  |none=>rfl
  |some y=>
   have H:x≠y:=λJ=>h x rfl (by rw[J]);simp only[di,bS];by_cases h1:t=x
   ·subst h1;simp[H]
   ·simp[h1]
theorem Cd (H:RO D) (id id':Nat) (h: ∀x,D.d=some x->d≠some x):
 app D id (kr A d r bl nx wl)=kr (app D id' A) d r bl nx wl:=by
 rw[fh H,fh H];unfold kr;simp only[DU h]
structure Nice {O:Type} (I:O->Prop) (T:(O->Prop)->Prop):Prop where
 mono: ∀{K K':O->Prop},T K->(∀o,I o->K o->K' o)->T K'
 ne: ¬T (λ_=>False)
variable {O:Type}
theorem Nice.one {I:O->Prop} {o:O} (h:I o):Nice I (λK=>K o):=⟨λH J=>J o h H,λh=>h⟩
theorem Nice.no {I:O->Prop} {T:(O->Prop)->Prop} (h: ∀K,¬T K):Nice I T:=⟨λH=>absurd H (h _),h _⟩
theorem Nice.need {I:O->Prop} {T:(O->Prop)->Prop} (h:Nice I T) (b:Bool):Nice I (λK=>af b (T K)):=
 ⟨λH J=>Xg.2 ⟨(Xg.1 H).1,h.mono (Xg.1 H).2 J⟩,λH=>h.ne (Xg.1 H).2⟩
theorem Nice.bind {O':Type} {I:O->Prop} {I':O'->Prop} {T:(O->Prop)->Prop} (h:Nice I T) {F:(O'->Prop)->O->Prop} (hF: ∀o,I o->Nice I' (λK=>F K o)):Nice I' (λK=>T (F K)):=
 ⟨λH V=>h.mono H λo N J=>(hF o N).mono J V,λH=>h.ne (h.mono H λo N J=>(hF o N).ne J)⟩
theorem Nice.weak {I I':O->Prop} {T:(O->Prop)->Prop} (h:Nice I T) (H: ∀o,I o->I' o):Nice I' T:=⟨λJ N=>h.mono J λo V=>N o (H o V),h.ne⟩
theorem Nice.some {I:O->Prop} {T:(O->Prop)->Prop} (h:Nice I T) {K:O->Prop} (H:T K): ∃o,I o/\K o:=by
 by_cases hh: ∃o,I o/\K o
 ·exact hh
 ·exact absurd (h.mono H λo N J=>hh ⟨o,N,J⟩) h.ne
theorem Nice.and {I:O->Prop} {T T':(O->Prop)->Prop} (h:Nice I T) (N:Nice I T'):Nice I (λK=>T K/\T' K):=⟨λH J=>⟨h.mono H.1 J,N.mono H.2 J⟩,λH=>h.ne H.1⟩
structure Out where
 r:Res
 b:Nat->Option Blk
 n:Nat
 w:List Nat
structure OutI (bl:Nat->Option Blk) (nx:Nat) (wl:List Nat) (o:Out):Prop where
 nxs:NX o.b o.n
 le:nx<=o.n
 keep: ∀j B,bl j=some B->j∉o.w->o.b j=some B
 new: ∀j,j<nx->bl j=none->o.b j=none
 sub: ∀j∈wl,j∈o.w
def NiceT (bl:zdM) (nx:Nat) (wl:zdI) (T:Aft->Prop):Prop:=Nice (OutI bl nx wl) λK=>T λr b n w=>K ⟨r,b,n,w⟩
variable {T:Aft->Prop}
theorem NiceT.mono (h:NiceT bl nx wl T) {K K':Aft} (H:T K) (J: ∀r b n w,OutI bl nx wl ⟨r,b,n,w⟩->K r b n w->K' r b n w):T K':=
 Nice.mono (K:=λo=>K o.r o.b o.n o.w) (K':=λo=>K' o.r o.b o.n o.w) h H λo N=>J o.r o.b o.n o.w N
theorem NiceT.some (h:NiceT bl nx wl T) {K:Aft} (H:T K): ∃r b n w,OutI bl nx wl ⟨r,b,n,w⟩/\K r b n w:=by
 obtain⟨o,N,J⟩:=Nice.some (K:=λo=>K o.r o.b o.n o.w) h H;exact⟨o.r,o.b,o.n,o.w,N,J⟩
def cF (inl:Inl):Prop:= ∀(f:FuncId) (args:zdK) (bl:zdM) (nx:Nat) (wl:zdI),NX bl nx->NiceT bl nx wl (inl f args bl nx wl)
theorem ano {d:Option Tmp} {K:List Nat->zdS} {r:Res} (h:uR A d noP K r bl nx wl):
 ∃s A',r= .ok s/\putD {A with bl:=bl,nx:=nx,wl:=wl++A.wl} d (.v s)=some A'/\K wl A':=by
 cases r with
 |pan v=>exact h.elim
 |ok s=>
  simp only[uR] at h;split at h
  ·rename_i A' hp;exact⟨s,A',rfl,hp,h⟩
  ·exact h.elim
variable {KP:Value->zdS}
theorem Ce {d:Option Tmp} {K:List Nat->zdS} (hp:putD {A with bl:=bl,nx:=nx,wl:=wl++A.wl} d (.v s)=some A') (h:K wl A'):
 uR A d KP K (.ok s) bl nx wl:=by
 simp only[uR];rw[hp];exact h
variable {b:Bool}
theorem Kh {t:TypeId} {x y:SV} {k:zdI} (J:NX A.bl A.nx) (h:S0 P A t x y=some (b,bl,r,k)):
 NX bl (A.nx+1)/\(∀j B,A.bl j=some B->j∉A.nx::k->bl j=some B)/\ ∀j,j<A.nx->A.bl j=none->bl j=none:=by
 have hid:A.bl A.nx=none:=J _ (za0 _);have dom: ∀{j B},A.bl j=some B->j<A.nx:=λ{j B} hB=>by
  rcases zah j A.nx with h|h
  ·exact h
  ·rw[J j h] at hB;cases hB
 have key: ∃N,(bl=upd A.bl A.nx N/\k= [])\/ ∃i X B,bl=upd (upd A.bl i X) A.nx N/\k= [i]/\A.bl i=some B:=by
  unfold S0 at h;split at h
  ·split at h
   ·split at h
    ·cases h
    ·have h:=bG h;split at h
     ·simp only[za1,zag] at h;exact⟨_, .inl ⟨h.2.1.symm,h.2.2.2.symm⟩⟩
     ·split at h
      ·rename_i B hB;split at h
       ·have h:=bG h;simp only[za1,zag] at h;exact⟨_, .inr ⟨_,_,B,h.2.1.symm,h.2.2.2.symm,hB⟩⟩
       ·cases h
      ·cases h
     ·cases h
   ·cases h
  ·cases h
 obtain⟨N,⟨rfl,rfl⟩|⟨i,X,B,rfl,rfl,hB⟩⟩:=key
 ·refine⟨λj H=>by rw[ak (by omega)];exact J j (by omega),λj B hB H=>by rw[ak (by simpa using H)];exact hB,λj H h0=>by rw[ak (by omega)];exact h0⟩
 ·have hi:=dom hB;refine⟨λj H=>by rw[ak (by omega),ak (by omega)];exact J j (by omega),λj C V H=> ?_,λj H h0=> ?_⟩
  ·simp only[zai,not_or] at H;rw[ak H.1,ak H.2.1];exact V
  ·rw[ak (by omega),ak (λe=>by rw[e,hB] at h0;cases h0)];exact h0
theorem awc {F F':Nat->SV->zdR} (hF: ∀e k v,F e k v->F' e k v): ∀{l:List (Bool×SV×SV)} {e:Nat},Gf l e F->Gf l e F'
 | [],_,_=>trivial
 |(b,k,v)::r,e,h=>⟨by
    have h1:=h.1;cases b with
    |true=>exact hF _ _ _ h1
    |false=>trivial,awc hF h.2⟩
theorem DV (J:NX bl nx) (x:XOp):NiceT bl nx [] (runX P bl nx x):=by
 have one: ∀r,OutI bl nx [] ⟨r,bl,nx, []⟩:=λr=>⟨J,za0 _,λ_ _ h _=>h,λ_ _ h=>h,λ_ h=>h⟩;have put: ∀r {i B C},bl i=some B->OutI bl nx [] ⟨r,upd bl i C,nx, [i]⟩:=λr i B C hB=>
  ⟨λj H=>(ak (λe=>by rw[<-e,J j H] at hB;cases hB)).trans (J j H),za0 _,λj D V H=>(ak (λe=>H (by simp[e]))).trans V,
    λj H h0=>(ak (λe=>by rw[e,hB] at h0;cases h0)).trans h0,λ_ h=>by cases h⟩
 unfold NiceT;cases x with
 |panic v=>exact Nice.one (one _)
 |iface t v=>
  simp only[runX];split
  ·exact Nice.no λ_ h=>h
  ·exact Nice.one (one _)
  ·exact Nice.no λ_ h=>h
 |mk t=>
  simp only[runX];split
  ·exact Nice.one (o:=(⟨.ok (.mp nx),upd bl nx _,nx+1, [nx]⟩:Out)) ⟨λj (H:nx+1<=j)=>(ak (by omega)).trans (J j (by omega)),zaT _,λj D V H=>(ak (by simpa using H)).trans V,
    λj H h0=>(ak (by omega)).trans h0,λ_ h=>by cases h⟩
  ·exact Nice.no λ_ h=>h
 |set t i k v=>
  simp only[runX];split
  ·rename_i kt et B _ hB;split
   ·split
    ·split
     ·exact(Nice.one (o:=(⟨.ok (.val undef),upd bl i _,nx, [i]⟩:Out)) (put _ hB)).need _
     ·exact Nice.no λ_ h=>h
    ·exact Nice.no λ_ h=>h
   ·split
    ·exact(Nice.one (o:=(⟨.ok (.val undef),upd bl i _,nx, [i]⟩:Out)) (put _ hB)).need _
    ·exact Nice.no λ_ h=>h
   ·split
    ·exact(Nice.one (o:=(⟨.ok (.val undef),upd bl i _,nx, [i]⟩:Out)) (put _ hB)).need _
    ·exact Nice.no λ_ h=>h
   ·exact Nice.no λ_ h=>h
  ·exact Nice.no λ_ h=>h
 |rng t i=>
  simp only[runX]
  have mk: ∀B,OutI bl nx [] ⟨.ok (.ptr nx 0 0),upd bl nx B,nx+1, [nx]⟩:=λB=>⟨λj (H:nx+1<=j)=>(ak (by omega)).trans (J j (by omega)),zaT _,λj D V H=>(ak (by simpa using H)).trans V,
   λj H h0=>(ak (by omega)).trans h0,λ_ h=>by cases h⟩
  split
  ·split
   ·exact Nice.one (mk _)
   ·exact Nice.one (mk _)
   ·exact Nice.no λ_ h=>h
  ·exact Nice.no λ_ h=>h
 |nxt i=>
  simp only[runX];split
  ·rename_i B hB;split
   ·split
    ·rename_i l hl;refine⟨λ{K K'} N Y=>⟨?_,awc (λe k v h=>Y _ (put _ hB) h) N.2⟩,λN=> ?_⟩
     ·have h1:=N.1;cases Z:l.any (·.1) with
      |true=>exact trivial
      |false=>rw[Z] at h1;exact Y _ (put _ hB) h1
     ·obtain⟨h1,h2⟩:=N;cases Z:l.any (·.1) with
      |false=>rw[Z] at h1;exact h1
      |true=>
       obtain⟨⟨b,k,v⟩,hp,hb⟩:=zaP.1 Z;obtain⟨j,H⟩:=zby hp;simp only[] at hb;subst hb;exact wx h2 H
    ·exact Nice.no λ_ h=>h
   ·refine⟨λ{K K'} N Y=>⟨λh=>Y _ (put _ hB) (N.1 h),λz h0 h1=>Y _ (put _ hB) (N.2 z h0 h1)⟩,λN=> ?_⟩;refine N.1 λk=> ?_;cases hb:su (B.get (k+1)) with
    |false=>rfl
    |true=>exact(N.2 (k:Int) (Int.natCast_nonneg _) (by rw[zd2];exact hb)).elim
   ·exact Nice.no λ_ h=>h
  ·exact Nice.no λ_ h=>h
 |ent i=>
  simp only[runX];split
  ·rename_i B hB;cases B.kd.it with
   |false=>exact Nice.no λ_ h=>h
   |true=>
    simp only[zdr];split
    ·exact Nice.one (one _)
    ·exact Nice.no λ_ h=>h
  ·exact Nice.no λ_ h=>h
 |nil t b f x=>
  simp only[runX];split
  ·split
   ·exact(Nice.one (one _)).need _
   ·exact Nice.no λ_ h=>h
  ·exact Nice.one (one _)
  ·exact Nice.one (one _)
  ·exact Nice.one (one _)
  ·exact Nice.no λ_ h=>h
variable {inl:Inl}
theorem pj (N:cF inl) (H:NX A.bl A.nx) (h:kQ P Γ inl A o G=some T):NiceT A.bl A.nx [] T:=by
 unfold kQ at h;split at h
 ·simp only[za1] at h;subst h;exact DV H _
 split at h
 ·rename_i t x y _;simp only[za1] at h;subst h;unfold NiceT;simp only[];split
  ·rename_i b bl r k J;obtain⟨V,Y,Z⟩:=Kh H J;exact Nice.need (Nice.one (o:=(⟨.ok r,bl,A.nx+1,A.nx::k⟩:Out)) ⟨V,zaT _,Y,Z,λ_ h=>by cases h⟩) _
  ·exact Nice.no λ_ h=>h
 ·split at h
  ·rename_i f args _;simp only[za1] at h;subst h;exact N f args _ _ _ H
  ·cases h
theorem Cf (h: ∀x∈o.op.operands,∀G,ev B.tm G x=ev A.tm G x):uq B o=uq A o:=by
 unfold uq;cases hg:o.guard with
 |some p=>rfl
 |none=>
  cases H:o.op with
  |panic x=>simp only[h x (by rw[H];simp[Op.operands]) []]
  |makeInterface t x=>simp only[h x (by rw[H];simp[Op.operands]) []]
  |makeMap t r=>cases r<;>rfl
  |range t m=>simp only[h m (by rw[H];simp[Op.operands]) []]
  |entry x=>simp only[h x (by rw[H];simp[Op.operands]) []]
  |next x b=>cases b<;>simp only[h x (by rw[H];simp[Op.operands]) []]
  |insert t m k v=>simp only[h m (by rw[H];simp[Op.operands]) [],h k (by rw[H];simp[Op.operands]) [],h v (by rw[H];simp[Op.operands]) []]
  |mapUpdate t m k v=>simp only[h m (by rw[H];simp[Op.operands]) [],h k (by rw[H];simp[Op.operands]) [],h v (by rw[H];simp[Op.operands]) []]
  |binOp op t x y yt=>
   cases y with
   |const v=>simp only[h x (by rw[H];simp[Op.operands]) []]
   |_=>rfl
  |_=>rfl
theorem Cg (h: ∀x∈o.op.operands,∀G,ev B.tm G x=ev A.tm G x):ac6 B o=ac6 A o:=by
 unfold ac6;cases hg:o.guard with
 |some p=>rfl
 |none=>
  cases J:o.op with
  |call c=>
   simp only[];cases H:c.callee with
   |builtin b=>
    cases b<;>try rfl
    have:evs B.tm [] c.args.toList=evs A.tm [] c.args.toList:=gO λx N=>h x (by rw[J];simp[Op.operands,Call.operands,H];simpa using N) [];simp only[this]
   |_=>rfl
  |_=>rfl
theorem sD (h: ∀x∈o.op.operands,∀G,ev B.tm G x=ev A.tm G x) :po Γ B o G=po Γ A o G:=by
 unfold po;cases hg:o.guard with
 |some p=>rfl
 |none=>
  cases H:o.op with
  |call c=>
   simp only[];have:target B.tm G c=target A.tm G c:=nW λx J=>h x (by rw[H];exact J) G;simp only[this]
  |_=>rfl
theorem Ki (h1:B.bl=A.bl) (h2:B.nx=A.nx) (t:TypeId) (x y:SV):S0 P B t x y=S0 P A t x y:=by
 unfold S0;rw[h1,h2]
theorem sE (h: ∀x∈o.op.operands,∀G,ev B.tm G x=ev A.tm G x) (h1:B.bl=A.bl) (h2:B.nx=A.nx) :kQ P Γ inl B o G=kQ P Γ inl A o G:=by
 have e: ∀t x y,S0 P B t x y=S0 P A t x y:=Ki h1 h2;unfold kQ;rw[Cf h,Cg h,sD h,h1,h2];cases uq A o with
 |some v=>rfl
 |none=>
 simp only[];cases ac6 A o with
 |some p=>
  obtain⟨t,x,y⟩:=p;show some _=some _
  congr 1
  funext K
  rw[e t x y]
 |none=>rfl
theorem vi (h: ∀x∈o.op.operands,∀G,ev B.tm G x=ev A.tm G x) :kQ P Γ inl B o G=none↔kQ P Γ inl A o G=none:=by
 unfold kQ;rw[Cf h,Cg h,sD h];cases uq A o with
 |some v=>simp
 |none=>cases ac6 A o with
  |some p=>simp
  |none=>cases po Γ A o G<;>simp
theorem NG (h: ∀x,d=some x->x∉o.looksAt ops): ∀x∈o.op.operands,∀G,ev (dI d v tm) G x=ev tm G x:=λx H G=>Ai (λt e J=>by
 subst e
 exact h t J (zbI _ (zcH.2 ⟨.tmp t,by simpa using H,rfl⟩))) G
def Lk (ops:zdP) (o:Oper) (tm H:Nat->TV):Prop:=(∀x∈o.op.operands,∀G,ev H G x=ev tm G x)/\ ∀j b t,o.guard=some (j,b)->(ops.toList[j]?).bind (·.dst)=some t->H t=tm t
theorem XU (h: ∀x,d=some x->x∉o.looksAt ops):Lk ops o tm (dI d v tm):=by
 refine⟨NG h,λj b t hg H=> ?_⟩;have J:t∈o.looksAt ops:=by
  refine zb1 _ ?_;rw[hg];simp at H ⊢;exact H
 exact lJ λe=>h t e J
theorem qf (h:Lk ops o A.tm B.tm):rN B ops o=rN A ops o:=by
 unfold rN;cases hg:o.guard with
 |none=>rfl
 |some p=>
  obtain⟨j,b⟩:=p;simp only[];cases H:(ops.toList[j]?).bind (·.dst) with
  |none=>rfl
  |some t=>simp only[];rw[h.2 j b t hg H]
theorem sG (h:Lk ops o A.tm B.tm) (h1:B.bl=A.bl) (h2:B.nx=A.nx):eK P Γ inl ops B o=eK P Γ inl ops A o:=by
 unfold eK;rw[sE h.1 h1 h2,sE (o:=jU o) h.1 h1 h2,qf h,h1,h2]
theorem fE (h:Lk ops o A.tm B.tm):eK P Γ inl ops B o=none↔eK P Γ inl ops A o=none:=by
 unfold eK;rw[qf h];cases o.guard with
 |none=>exact vi h.1
 |some p=>
  have H:=vi (P:=P) (Γ:=Γ) (inl:=inl) (A:=A) (B:=B) (o:=jU o) h.1 (G:=Gi ops o);simp only[];cases h1:kQ P Γ inl A (jU o) (Gi ops o) with
  |none=>rw[H.2 h1]
  |some T=>
   cases h2:kQ P Γ inl B (jU o) (Gi ops o) with
   |none=>rw[H.1 h2] at h1;cases h1
   |some J=>
    simp only[];cases rN A ops o with
    |none=>simp
    |some g=>simp
theorem fF (H:cF inl) (J:NX A.bl A.nx) (h:eK P Γ inl ops A o=some T):NiceT A.bl A.nx [] T:=by
 unfold eK at h;cases hg:o.guard with
 |none=>rw[hg] at h;exact pj H J h
 |some p=>
  rw[hg] at h;simp only[] at h;split at h
  ·rename_i V N;split at h
   ·rename_i g _;simp only[za1] at h;subst h;cases g with
    |true=>exact pj H J N
    |false=>exact Nice.one (o:=(⟨.ok (.val undef),A.bl,A.nx, []⟩:Out)) ⟨J,za0 _,λ_ _ h _=>h,λ_ _ h=>h,λ_ h=>h⟩
   ·cases h
  ·cases h
variable {β:zdJ} {a:Act} {w:World} {Q:zdW} {KK:Act->World->Prop}
theorem Am (N:kn P W0 inl) (H:eK P Γ inl ops A o=some T) {Kn:List Nat->zdS} 
 (h:T (uR A o.dst KP Kn)) (V:Is W0 A β a w) 
 (hP: ∀v A' w' β',KP v A'->Is W0 A' β' a w'->Trs A β A' β'->Q (pex v) a w')
 (Y: ∀wl A' a' w' β',Kn wl A'->Is W0 A' β' a' w'->Trs A β A' β'->KK a' w'):
 if Region.wanted o (yielded ops a.tmps) then o.wp P a w KK Q else KK (a.put o.dst undef) w:=by
 unfold eK at H;cases hg:o.guard with
 |none=>
  rw[hg] at H;obtain⟨r1,r2⟩:=mP N (ops:=ops) H h V (λp hp=>by cases hp) hP Y;rw[if_pos r1];exact r2
 |some p=>
  obtain⟨j,b⟩:=p;rw[hg] at H;simp only[] at H;split at H
  ·rename_i T' hT;have J: ∀g,rN A ops o=some g->((Region.wanted o (yielded ops a.tmps)=true)↔g=true):=by
    intro g h1;unfold rN at h1;rw[hg] at h1;simp only[] at h1;split at h1
    ·rename_i t Z;split at h1
     ·rename_i x hx;simp only[za1] at h1;have:=(V.fr.v t _ hx).1;rw[ib hg Z,this,<-h1];simp[SV.conc]
     ·cases h1
    ·cases h1
   split at H
   ·rename_i g hh;simp only[za1] at H;subst H;cases g with
    |true=>
    obtain⟨_,r2⟩:=mP N (ops:=ops) (o:=jU o) hT h V (λp hp=>by
     have hw:=(J _ hh).2 rfl;unfold Gi at hp;rw[hg] at hp;simp only[] at hp;split at hp
     ·rename_i t Z;rw[zaj.1 hp];exact(ib hg Z).1 hw
     ·cases hp) hP Y
    rw[if_pos ((J _ hh).2 rfl)];exact r2
    |false=>
    rw[if_neg (λe=>by have:=(J _ hh).1 e;cases this)];simp only[zdq,uR] at h;split at h
    ·rename_i A1 hp;obtain⟨q1,q2,q3,q4,q5⟩:=FR.putD V.fr (s:= .val undef) (λi hi=>by simp[SV.ids] at hi) hp;exact Y _ A1 _ w β h ⟨q1,by rw[q2];exact V.bc,by rw[q2,q3];exact V.nx,(nB hp).trans V.sd⟩ ⟨by rw[q2];exact Tr.refl _ _ _ _,by rw[q5];exact λi hi=>by simp[hi],by rw[q3];exact za0 _,q4⟩
    ·exact h.elim
   ·cases H
  ·cases H
variable {pre:Nat->zdI} {h:Nat->Option Hst} {x:Nat} {e:Hst} {ef:Bool} {rd wr:zdI}
theorem ab5 (N:i∉pre x):okM ops pre (dc h i e) x ef rd wr=okM ops pre h x ef rd wr:=by
 unfold okM;rw[zax];simp only[zaf];have J: ∀y,y∈pre x->dc h i e y=h y:=λy H=>by
  unfold dc;rw[bS,zds (λ(q:y=i)=>N (q▸H))];rfl
 constructor
 ·intro hh y H;have:=hh y H;rwa[J y H] at this
 ·intro hh y H;rw[J y H];exact hh y H
theorem qg (h:smallF o=true):kQ P Γ inl A o G=none:=by
 unfold smallF at h;have h1:uq A o=none:=by
  unfold uq;split<;>first|rfl|(simp_all)
 have h2:ac6 A o=none:=by
  unfold ac6;split<;>first|rfl|(simp_all)
 have h3:po Γ A o G=none:=by
  unfold po;split<;>first|rfl|(simp_all)
 unfold kQ;rw[h1,h2,h3]
theorem Ao (h:smallF o=true):eK P Γ inl ops A o=none:=by
 unfold eK;cases o.guard with
 |none=>exact qg h
 |some p=>simp only[];rw[qg (o:=jU o) h]
theorem ab6 (N:h x=none) (J:okM ops pre (dc h x e) i ef rd wr=true):okM ops pre h i ef rd wr=true:=by
 unfold okM at J ⊢;simp only[zaf] at J ⊢;intro y V;have:=J y V;by_cases H:y=x
 ·subst H;rw[N];simp
 ·have e1:dc h x e y=h y:=by unfold dc;rw[bS,zds H];rfl
  rwa[e1] at this
variable {ox oi:Oper}
theorem ji (Z:x∈pre i) (h1:ops.toList[x]? =some ox) (h2:ops.toList[i]? =some oi) (J:bK ops.toList ops.size i x=false)
 (H:okM ops pre (dc h x e) i ef rd wr=true):ox.apart ops oi=true/\(ef&&e.ef)=false/\jT wr e.rd=false/\jT e.wr rd=false/\(e.ef=true->smallF ox=false-> ∀j∈rd,j<e.nx):=by
 unfold okM at H;simp only[zaf] at H;have:=H x Z;have e1:dc h x e x=some e:=by unfold dc;rw[bS,zdp rfl];rfl
 rw[J,e1,h1,h2] at this;simp only[zbi,za2,zap,zav,zaf,aB,zdt] at this;refine⟨this.1.1.1.1,this.1.1.1.2,this.1.1.2,this.1.2,λN Y j V=> ?_⟩;rcases this.2 with (h|h)|h
 ·rw[N] at h;cases h
 ·rw[Y] at h;cases h
 ·exact h j V
theorem DW {a b:zdI} (h:jT a b=false):jT b a=false:=by
 cases hh:jT b a with
 |false=>rfl
 |true=>
  unfold jT at hh;simp only[zaP] at hh;obtain⟨x,N,y,V,J⟩:=hh;have H:=zab J;subst H;exact absurd N (jw h V)
theorem DY {j:Nat} {f:Hst} (H:i≠j):dc (dc h i e) j f=dc (dc h j f) i e:=by
 funext y
 simp only[dc,bS];by_cases h1:y=j
 ·subst h1;simp[Ne.symm H]
 ·simp[h1]
variable {K:Bool->List Nat->List Nat->zdS}
theorem eQ (J:eK P Γ inl ops A o=none) (h:opT P Γ inl ops A o KP K):
 ∃D,Stp P Γ ops A.nx o A D/\((RO D/\K false D.E.rd [] (app D A.nx A))\/(¬RO D/\K true D.E.rd (aV A.nx D.E).2 {app D A.nx A with nx:=A.nx+1,wl:=(aV A.nx D.E).2++A.wl})):=by
 unfold opT at h;rw[J] at h;simp only[] at h;split at h
 ·rename_i b A' f V;obtain⟨J,h⟩:=Xg.1 h;subst J;obtain⟨D,st,rfl,rfl⟩:=VV.1 V;refine⟨D,st, ?_⟩;split at h
  ·rename_i H;exact .inl ⟨VZ.1 H,h⟩
  ·rename_i j l H;right;rw[H];exact⟨λN=>absurd ((VZ.2 N).symm.trans H) (by simp),h⟩
 ·exact h.elim
theorem kV (H:eK P Γ inl ops A o=none) (st:Stp P Γ ops A.nx o A D) (J:RO D) (h:K false D.E.rd [] (app D A.nx A)):opT P Γ inl ops A o KP K:=by
 unfold opT;rw[H];simp only[VV.2 ⟨D,st,rfl,rfl⟩];refine Xg.2 ⟨rfl, ?_⟩;rw[VZ.2 J];exact h
theorem wy (J:eK P Γ inl ops A o=none) (st:Stp P Γ ops A.nx o A D) (N: ¬RO D)
 (h:K true D.E.rd (aV A.nx D.E).2 {app D A.nx A with nx:=A.nx+1,wl:=(aV A.nx D.E).2++A.wl}):opT P Γ inl ops A o KP K:=by
 unfold opT;rw[J];simp only[VV.2 ⟨D,st,rfl,rfl⟩];refine Xg.2 ⟨rfl, ?_⟩;split
 ·rename_i H;exact absurd (VZ.1 H) N
 ·rename_i j l H;rw[H] at h;exact h
theorem An {f:zdQ} (h:arz d f x=false):f x=false:=by
 cases d with
 |none=>exact h
 |some d=>rw[bZ] at h;simp at h;exact h.2
theorem dl {c:Bool} {K:Prop}:af (b&&c) K↔b=true/\c=true/\K:=by
 rw[Xg,za2,and_assoc]
variable {m:Bool}
theorem acT:ckM m ops i false=true:=by unfold ckM;simp
theorem ahs {d:Option Tmp} {K:List Nat->zdS} (h:uR A d KP K (.ok s) bl nx wl):
 ∃A',putD {A with bl:=bl,nx:=nx,wl:=wl++A.wl} d (.v s)=some A'/\K wl A':=by
 simp only[uR] at h;split at h
 ·rename_i A' hp;exact⟨A',hp,h⟩
 ·exact h.elim
variable {KN:Value->zdS}
theorem GC (H0:cF inl) {R:AS->(Nat->Option Hst)->Prop} (j1:OS A) (z0:NX A.bl A.nx)
 (I1:x≠i) (B0:x∈pre i) (R0:i∉pre x) (hx:ops.toList[x]? =some ox) (hi:ops.toList[i]? =some oi) (hb:bK ops.toList ops.size i x=false) (h0:h x=none) (hN:KN=noP\/(∀v A',KN v A'↔KN v (acO A'))/\smallF ox=true/\m=true/\Du ops x i=true/\ox.apart ops oi=true)
 (hm:opT P Γ inl ops A ox KN λef rd wr A1=>af (okM ops pre h x ef rd wr&&ckM m ops x ef) (opT P Γ inl ops A1 oi KN λH i0 m0 A2=>af (okM ops pre (dc h x ⟨ef,rd,wr,bif ef then A.nx else 0⟩) i H i0 m0&&ckM m ops i H) (R A2 (dc (dc h x ⟨ef,rd,wr,bif ef then A.nx else 0⟩) i ⟨H,i0,m0,bif H then A1.nx else 0⟩)))):
 opT P Γ inl ops A oi KN λH i0 m0 A1=>af (okM ops pre h i H i0 m0&&ckM m ops i H) (opT P Γ inl ops A1 ox KN λef rd wr A2=>af (okM ops pre (dc h i ⟨H,i0,m0,bif H then A.nx else 0⟩) x ef rd wr&&ckM m ops x ef) (R A2 (dc (dc h i ⟨H,i0,m0,bif H then A.nx else 0⟩) x ⟨ef,rd,wr,bif ef then A1.nx else 0⟩))):=by
 have x0: ∀e e',dc (dc h i e') x e=dc (dc h x e) i e':=λe e'=>DY (Ne.symm I1);have m1: ∀{B:AS} {id:Nat} {o:Oper} {D:Dl},Stp P Γ ops id o B D-> ∀j∈D.E.rd,B.bl j≠none:=by
  intro B id o D st j hj;have src:=st.src;unfold Src at src;cases hg:o.guard with
  |none=>rw[hg] at src;exact GB src.2.2.2 hj
  |some p=>
   obtain⟨jj,bb⟩:=p;rw[hg] at src;obtain⟨t,g,_,_,_,h4,_⟩:=src;exact GB h4 hj
 cases p0:eK P Γ inl ops A ox with
 |some T=>
  have hN:KN=noP:=by
   rcases hN with h|⟨_,h,_⟩
   ·exact h
   ·rw[Ao h] at p0;cases p0
  subst hN;unfold opT at hm;rw[p0] at hm;simp only[] at hm;have nT:=fF H0 z0 p0;obtain⟨r0,b0,n0,w0,I0,C1⟩:=nT.some hm;have l1: ∀r b n w,OutI A.bl A.nx [] ⟨r,b,n,w⟩->uR A ox.dst noP (λwl A1=>af (okM ops pre h x true [] wl&&ckM m ops x true) (opT P Γ inl ops A1 oi noP λH i0 m0 A2=>af (okM ops pre (dc h x ⟨true, [],wl,A.nx⟩) i H i0 m0&&ckM m ops i H) (R A2 (dc (dc h x ⟨true, [],wl,A.nx⟩) i ⟨H,i0,m0,bif H then A1.nx else 0⟩)))) r b n w-> ∃s D,r= .ok s/\Stp P Γ ops A.nx oi A D/\RO D/\ox.apart ops oi=true/\(∀y,ox.dst=some y->y<A.nt/\A.ok y=false)/\eK P Γ inl ops A oi=none/\okM ops pre h x true [] w=true/\ckM m ops x true=true/\okM ops pre h i false D.E.rd []=true/\
   R (app D n (kr A ox.dst s b n (w++A.wl))) (dc (dc h x ⟨true, [],w,A.nx⟩) i ⟨false,D.E.rd, [],0⟩):=by
   intro r b n w ⟨k1,k2,k3,k4,_⟩ N;obtain⟨r,Ax,rfl,hp,N⟩:=ano N
   ·obtain⟨rfl,Y⟩:=Wa.1 hp;obtain⟨q1,qc,q2⟩:=dl.1 N;have Z0:opT P Γ inl ops (kr A ox.dst r b n (w++A.wl)) oi noP λH i0 m0 A2=>af (okM ops pre (dc h x ⟨true, [],w,A.nx⟩) i H i0 m0&&ckM m ops i H) (R A2 (dc (dc h x ⟨true, [],w,A.nx⟩) i ⟨H,i0,m0,bif H then n else 0⟩)):=q2;cases J:eK P Γ inl ops (kr A ox.dst r b n (w++A.wl)) oi with
    |some T'=>
     exfalso;unfold opT at Z0;rw[J] at Z0;simp only[] at Z0;obtain⟨r1,b1,n1,w1,_,this⟩:=(fF H0 (A:=kr A ox.dst r b n (w++A.wl)) k1 J).some Z0;obtain⟨_,_,_,_,this⟩:=ano this;obtain⟨o1,_⟩:=dl.1 this;have:=(ji B0 hx hi hb o1).2.1;simp at this
    |none=>
     obtain⟨D,st,⟨hr,v1⟩|⟨hr,v1⟩⟩:=eQ J Z0
     ·obtain⟨o1,_,o2⟩:=dl.1 v1;obtain⟨a1,a2,a3,a4,a5⟩:=ji B0 hx hi hb o1;obtain⟨y0,O0,E0⟩:=Oper.apart_spec a1;have hd: ∀y,ox.dst=some y->A.ok y=false/\y∉oi.looksAt ops:=λy V=>⟨(Y y V).2,y0 y V⟩;have x1: ∀j∈D.E.rd,b j=A.bl j:=by
       intro j hj;have u1:j∉w:=λhw=>jw a4 hw hj;cases hB:A.bl j with
       |some B=>exact k3 j B hB u1
       |none=>exact absurd (k4 j (a5 rfl (by cases hs:smallF ox with
        |false=>rfl
        |true=>rw[Ao hs] at p0;cases p0) j hj) hB) (m1 st j hj)
      have D1:A.bl n=none:=z0 n k2;have R1:Stp P Γ ops n oi A D:=⟨st.d,D1,λy V=>st.put y V,(Cc (P:=P) (Γ:=Γ) (ops:=ops) (id:=n) (o:=oi) (A:=A) (D:=D) (d:=ox.dst) (r:=r) (bl:=b) (nx:=n) (wl:=w++A.wl) j1 hr hd x1).1 st.src⟩;exact⟨r,D,rfl,R1.reid hr (z0 _ (za0 _)),hr,a1,Y,(fE (XU y0)).1 J,q1,qc,ab6 h0 o1,o2⟩
     ·obtain⟨o1,_⟩:=dl.1 v1;have:=(ji B0 hx hi hb o1).2.1;simp at this
  obtain⟨_,D,_,st,hr,a1,Y,J,_,_,B1,_⟩:=l1 r0 b0 n0 w0 I0 C1;obtain⟨y0,O0,E0⟩:=Oper.apart_spec a1;refine kV J st hr (dl.2 ⟨B1,acT, ?_⟩);have C0:eK P Γ inl ops (app D A.nx A) ox=some T:=by
   rw[<-p0];rw[fh hr];exact sG (XU λy V=>E0 y (by rw[<-st.d];exact V)) rfl rfl
  rw[opT,C0];refine nT.mono hm λr b n w io N=> ?_;obtain⟨r,D',rfl,O1,U1,_,_,_,q0,e0,_,hR⟩:=l1 r b n w io N;obtain rfl:=st.det O1;have hp:putD {app D A.nx A with bl:=b,nx:=n,wl:=w++(app D A.nx A).wl} ox.dst (.v r)=some (kr (app D A.nx A) ox.dst r b n (w++A.wl)):=by
   refine Wa.2 ⟨rfl,λy V=>⟨(Y y V).1, ?_⟩⟩;show arz (D.d.bind λ_=>D.key) A.ok y=false;cases h3:D.d with
   |none=>exact(Y y V).2
   |some e=>
    cases h4:D.key with
    |none=>exact(Y y V).2
    |some k=>
     have L1:y≠k:=λe=>y0 y V (by rw[e];exact DT st.src h4);simp only[zcF,bZ,bS,(Y y V).2];simp[L1]
  refine Ce hp ?_;refine dl.2 ⟨by rw[ab5 R0];exact q0,e0, ?_⟩;rw[x0];rw[Cd hr n A.nx (λy V e=>O0 y e (by rw[<-st.d];exact V))] at hR;exact hR
 |none=>
  obtain⟨Dx,sx,⟨g0,N⟩|⟨g0,N⟩⟩:=eQ p0 hm
  ·
   obtain⟨q0,e0,N⟩:=dl.1 N;have Q0:=fh g0 A.nx A;cases J:eK P Γ inl ops (app Dx A.nx A) oi with
   |some T=>
    unfold opT at N;rw[J] at N;simp only[] at N;have U0:NX (app Dx A.nx A).bl (app Dx A.nx A).nx:=by rw[Q0];exact z0
    have nT:=fF H0 U0 J;have ap:ox.apart ops oi=true:=by
     rcases hN with hN|⟨_,_,_,_,hN⟩
     ·subst hN;obtain⟨r0,b0,n0,w0,_,this⟩:=nT.some N;obtain⟨_,_,_,_,this⟩:=ano this;obtain⟨o1,_⟩:=dl.1 this;exact(ji B0 hx hi hb o1).1
     ·exact hN
    obtain⟨y0,O0,E0⟩:=Oper.apart_spec ap;have o0:eK P Γ inl ops A oi=some T:=by
     have:=sG (P:=P) (Γ:=Γ) (inl:=inl) (A:=A) (B:=app Dx A.nx A) (o:=oi) (XU λy V=>y0 y (by rw[<-sx.d];exact V)) (by rw[Q0]) (by rw[Q0]);rw[<-this];exact J
    rw[opT,o0];refine NiceT.mono (fF H0 z0 o0) (nT.mono N λr b n w io N=>(⟨io,N⟩:OutI (app Dx A.nx A).bl (app Dx A.nx A).nx [] ⟨r,b,n,w⟩/\_)) λr b n w _ N=> ?_;obtain⟨⟨k1,k2,k3,k4,_⟩,N⟩:=N;cases r with
    |pan v=>
     have N:KN v {app Dx A.nx A with bl:=b,nx:=n,wl:=w++(app Dx A.nx A).wl}:=N;show KN v {A with bl:=b,nx:=n,wl:=w++A.wl};rcases hN with h|⟨h,_⟩
     ·rw[h] at N;exact N.elim
     ·have h1:=(h _ _).1 N;refine(h _ _).2 ?_;rw[Q0] at h1;exact h1
    |ok r=>
    obtain⟨A2,hp,N⟩:=ahs N
    ·obtain⟨rfl,Y⟩:=Wa.1 hp;obtain⟨o1,oc,hR⟩:=dl.1 N;obtain⟨a1,a2,a3,a4,_⟩:=ji B0 hx hi hb o1;have Y0: ∀y,oi.dst=some y->y<A.nt/\A.ok y=false:=λy V=>⟨(Y y V).1,An (Y y V).2⟩;have hp:putD {A with bl:=b,nx:=n,wl:=w++A.wl} oi.dst (.v r)=some (kr A oi.dst r b n (w++A.wl)):=Wa.2 ⟨rfl,Y0⟩;refine Ce hp ?_;refine dl.2 ⟨ab6 h0 o1,oc, ?_⟩;have hd: ∀y,oi.dst=some y->A.ok y=false/\y∉ox.looksAt ops:=λy V=>⟨(Y0 y V).2,E0 y V⟩;have x1: ∀j∈Dx.E.rd,b j=A.bl j:=by
      intro j hj;have u1:j∉w:=λhw=>jw a3 hw hj;cases hB:A.bl j with
      |some B=>exact k3 j B (by rw[Q0];exact hB) u1
      |none=>exact absurd hB (m1 sx j hj)
     have N1:A.nx<=n:=k2;have S1:Stp P Γ ops n ox (kr A oi.dst r b n (w++A.wl)) Dx:=
      ⟨sx.d,k1 n (za0 _),λy V=>sx.put y V,(Cc j1 g0 hd x1).2 (sx.reid g0 (z0 n N1)).src⟩
     refine kV (A:=kr A oi.dst r b n (w++A.wl)) ((fE (XU E0)).2 p0) S1 g0 ?_;refine dl.2 ⟨?_,e0, ?_⟩
     ·rw[ab5 R0];exact q0
     rw[x0];show R (app Dx n (kr A oi.dst r b n (w++A.wl))) _;rw[Cd g0 n A.nx (λy V e=>O0 y (by rw[<-sx.d];exact V) e)];exact hR
   |none=>
    obtain⟨Di,si,Z⟩:=eQ J N;have ap:ox.apart ops oi=true/\jT (aV A.nx Di.E).2 Dx.E.rd=false:=by
     rcases Z with ⟨hr,Z⟩|⟨hr,Z⟩
     ·obtain⟨o1,_⟩:=dl.1 Z;obtain⟨a1,_⟩:=ji B0 hx hi hb o1;exact⟨a1,by rw[VZ.2 hr];rfl⟩
     ·obtain⟨o1,_⟩:=dl.1 Z;obtain⟨a1,_,a3,_⟩:=ji B0 hx hi hb o1;exact⟨a1,a3⟩
    obtain⟨y0,O0,E0⟩:=Oper.apart_spec ap.1;have T1:=sx.reid (id':=A.nx+1) g0 (z0 _ (by omega));have e1:app Dx (A.nx+1) A=app Dx A.nx A:=by rw[fh g0,fh g0]
    have p1:pZ (aV (A.nx+1) Dx.E) (aV A.nx Di.E)=false:=by
     unfold pZ;rw[VZ.2 g0];have:jT (aV (A.nx+1) Dx.E).1 (aV A.nx Di.E).2=false:=DW ap.2;rw[this];rfl
    have y1:step P Γ ops A.nx oi (app Dx (A.nx+1) A)=some (true,app Di A.nx (app Dx A.nx A),aV A.nx Di.E):=by rw[e1];exact VV.2 ⟨Di,si,rfl,rfl⟩
    obtain⟨A1,c1,c2⟩:=kb j1 (VV.2 ⟨Dx,T1,rfl,rfl⟩) y1 ap.1 p1 (by omega);obtain⟨Di',ti,rfl,fi⟩:=VV.1 c1;obtain⟨Dx',tx,ex,fx⟩:=VV.1 c2;have v0:RO Dx':=VZ.1 (by rw[<-fx];exact VZ.2 g0);have L0:Dx'.E.rd=Dx.E.rd:=(congrArg Prod.fst fx).symm;have M0:Di'.E.rd=Di.E.rd:=(congrArg Prod.fst fi).symm;have o0:eK P Γ inl ops A oi=none:=(fE (A:=A) (B:=app Dx A.nx A) (XU λy V=>y0 y (by rw[<-sx.d];exact V))).1 J;have C0:eK P Γ inl ops (app Di' A.nx A) ox=none:=(fE (A:=A) (B:=app Di' A.nx A) (XU λy V=>E0 y (by rw[<-ti.d];exact V))).2 p0;rcases Z with ⟨N0,Z⟩|⟨N0,Z⟩
    ·obtain⟨o1,oc,hR⟩:=dl.1 Z;have a0:RO Di':=VZ.1 (by rw[<-fi];exact VZ.2 N0);refine kV o0 ti a0 (dl.2 ⟨by rw[M0];exact ab6 h0 o1,acT, ?_⟩);have E1:(app Di' A.nx A).bl A.nx=none:=by rw[fh a0];exact z0 _ (za0 _)
     refine kV C0 (tx.reid (id':=A.nx) v0 E1) v0 (dl.2 ⟨by rw[ab5 R0,L0];exact q0,acT, ?_⟩);rw[x0,L0,M0];have:app Dx' A.nx (app Di' A.nx A)=app Di A.nx (app Dx A.nx A):=by
      rw[ex,fh v0,fh v0]
     show R (app Dx' A.nx (app Di' A.nx A)) _;rw[this];exact hR
    ·obtain⟨o1,oc,hR⟩:=dl.1 Z;have a0: ¬RO Di':=λh=>N0 (VZ.1 (by rw[fi];exact VZ.2 h));have ew:(aV A.nx Di'.E).2=(aV A.nx Di.E).2:=by rw[fi]
     refine wy o0 ti a0 (dl.2 ⟨by rw[M0,ew];exact ab6 h0 o1,oc, ?_⟩);have z1:eK P Γ inl ops {app Di' A.nx A with nx:=A.nx+1,wl:=(aV A.nx Di'.E).2++A.wl} ox=none:=(fE (A:=app Di' A.nx A) (B:={app Di' A.nx A with nx:=A.nx+1,wl:=(aV A.nx Di'.E).2++A.wl}) ⟨λ_ _ _=>rfl,λ_ _ _ _ _=>rfl⟩).2 C0;refine kV (A:={app Di' A.nx A with nx:=A.nx+1,wl:=(aV A.nx Di'.E).2++A.wl}) z1 ⟨tx.d,tx.fresh,tx.put,tx.src⟩ v0 (dl.2 ⟨by rw[ab5 R0,L0];exact q0,acT, ?_⟩);rw[x0,L0,M0,ew];have:app Dx' (A.nx+1) {app Di' A.nx A with nx:=A.nx+1,wl:=(aV A.nx Di.E).2++A.wl}={app Di A.nx (app Dx A.nx A) with nx:=A.nx+1,wl:=(aV A.nx Di.E).2++A.wl}:=by
      rw[ex];rfl
     show R (app Dx' (A.nx+1) {app Di' A.nx A with nx:=A.nx+1,wl:=(aV A.nx Di.E).2++A.wl}) _;rw[this];exact hR
  ·
   obtain⟨q0,e0,N⟩:=dl.1 N;have U0:NX (VO A.bl A.nx Dx.E) (A.nx+1):=z0.apply Dx.E (by omega) (za0 _);cases J:eK P Γ inl ops {app Dx A.nx A with nx:=A.nx+1,wl:=(aV A.nx Dx.E).2++A.wl} oi with
   |some T=>
    exfalso;rcases hN with hN|⟨_,_,H1,hu,_⟩
    ·subst hN;unfold opT at N;rw[J] at N;simp only[] at N;obtain⟨r0,b0,n0,w0,_,this⟩:=(fF H0 (A:={app Dx A.nx A with nx:=A.nx+1,wl:=(aV A.nx Dx.E).2++A.wl}) U0 J).some N;obtain⟨_,_,_,_,this⟩:=ano this;obtain⟨o1,_⟩:=dl.1 this;have:=(ji B0 hx hi hb o1).2.1;simp at this
    ·have K1:dz ops i=true:=by
      unfold dz;rw[hi];show (!smallF oi)=true;cases hs:smallF oi with
      |false=>rfl
      |true=>rw[Ao hs] at J;cases J
     have:((List.range ops.size).any λc=>Du ops x c&&dz ops c)=true:=zaP.2 ⟨i,zaC.2 (by
      rcases zah i ops.size with h|h
      ·exact h
      ·rw[zad (by simpa using h)] at hi;cases hi),by rw[hu,K1];rfl⟩
     unfold ckM at e0;rw[H1,this] at e0;cases e0
   |none=>
    obtain⟨Di,si,⟨N0,Z⟩|⟨N0,Z⟩⟩:=eQ J N
    ·obtain⟨o1,oc,hR⟩:=dl.1 Z;obtain⟨a1,_,_,a4,_⟩:=ji B0 hx hi hb o1;obtain⟨y0,O0,E0⟩:=Oper.apart_spec a1;have p1:pZ (aV A.nx Dx.E) (aV (A.nx+1) Di.E)=false:=by
      unfold pZ;rw[VZ.2 N0];have h1:jT (aV A.nx Dx.E).2 (aV (A.nx+1) Di.E).1=false:=a4;have h2: ∀l:zdI,jT l []=false:=λl=>by unfold jT;simp
      rw[h1,h2,h2];rfl
     have y1:step P Γ ops (A.nx+1) oi (app Dx A.nx A)=some (true,app Di (A.nx+1) (app Dx A.nx A),aV (A.nx+1) Di.E):=VV.2 ⟨Di,⟨si.d,si.fresh,si.put,si.src⟩,rfl,rfl⟩;obtain⟨A1,c1,c2⟩:=kb j1 (VV.2 ⟨Dx,sx,rfl,rfl⟩) y1 a1 p1 (by omega);obtain⟨Di',ti,rfl,fi⟩:=VV.1 c1;obtain⟨Dx',tx,ex,fx⟩:=VV.1 c2;have a0:RO Di':=VZ.1 (by rw[<-fi];exact VZ.2 N0);have v0: ¬RO Dx':=λh=>g0 (VZ.1 (by rw[fx];exact VZ.2 h));have L0:Dx'.E.rd=Dx.E.rd:=(congrArg Prod.fst fx).symm;have M0:Di'.E.rd=Di.E.rd:=(congrArg Prod.fst fi).symm;have ew:(aV A.nx Dx'.E).2=(aV A.nx Dx.E).2:=by rw[fx]
     have o0:eK P Γ inl ops A oi=none:=(fE (A:=A) (B:={app Dx A.nx A with nx:=A.nx+1,wl:=(aV A.nx Dx.E).2++A.wl}) (XU λy V=>y0 y (by rw[<-sx.d];exact V))).1 J;have C0:eK P Γ inl ops (app Di' A.nx A) ox=none:=(fE (A:=A) (B:=app Di' A.nx A) (XU λy V=>E0 y (by rw[<-ti.d];exact V))).2 p0;have e1:app Di' (A.nx+1) A=app Di' A.nx A:=by rw[fh a0,fh a0]
     refine kV o0 (ti.reid a0 (z0 _ (za0 _))) a0 (dl.2 ⟨by rw[M0];exact ab6 h0 o1,acT, ?_⟩);rw[e1] at tx ex;refine wy C0 tx v0 (dl.2 ⟨by rw[ab5 R0,L0];show okM ops pre h x true Dx.E.rd (aV A.nx Dx'.E).2=true;rw[ew];exact q0,e0, ?_⟩);rw[x0,L0,M0];have:({app Dx' A.nx (app Di' A.nx A) with nx:=A.nx+1,wl:=(aV A.nx Dx.E).2++A.wl}:AS)=app Di (A.nx+1) {app Dx A.nx A with nx:=A.nx+1,wl:=(aV A.nx Dx.E).2++A.wl}:=by
      rw[<-ex];rfl
     show R {app Dx' A.nx (app Di' A.nx A) with nx:=A.nx+1,wl:=(aV A.nx Dx'.E).2++A.wl} (dc (dc h x ⟨true,Dx.E.rd,(aV A.nx Dx'.E).2,A.nx⟩) i ⟨false,Di.E.rd, [],0⟩);rw[ew,this];exact hR
    ·exfalso;obtain⟨o1,_⟩:=dl.1 Z;have:=(ji B0 hx hi hb o1).2.1;simp at this
variable {K':Bool->List Nat->List Nat->zdS}
theorem GD (Z:cF inl) (V:OS A) (N:NX A.bl A.nx) (h:opT P Γ inl ops A o KP K)
 (hK: ∀ef rd wr A',K ef rd wr A'->OS A'->NX A'.bl A'.nx->K' ef rd wr A'):opT P Γ inl ops A o KP K':=by
 cases Y:eK P Γ inl ops A o with
 |some T=>
  rw[opT,Y] at h ⊢;refine(fF Z N Y).mono h λr b n w io H=> ?_;cases r with
  |pan v=>exact H
  |ok r=>
  simp only[uR] at H ⊢;split at H
  ·rename_i A' hp;obtain⟨rfl,a0⟩:=Wa.1 hp;refine hK _ _ _ _ H ?_ io.nxs;intro t u b' s ht;have J:dI o.dst (.v r) A.tm t= .opt u b' s:=ht;by_cases hd:o.dst=some t
   ·rw[hd,di] at J;simp at J
   ·rw[lJ hd] at J;exact V t u b' s J
  ·exact H.elim
 |none=>
  obtain⟨D,st,⟨hr,H⟩|⟨hr,H⟩⟩:=eQ Y h
  ·refine kV Y st hr (hK _ _ _ _ H (V.app st) ?_);rw[fh hr];exact N
  ·refine wy Y st hr (hK _ _ _ _ H ?_ ?_)
   ·exact λt u b s ht=>V.app st t u b s ht
   ·exact N.apply D.E (by omega) (za0 _)
theorem Kj (N:x≠i) (Y:x<ops.size) (hi:i<ops.size) (V:bK ops.toList ops.size i x=false) (H:x<i\/bK ops.toList ops.size x i=false):qE ops x=false/\qE ops i=false:=by
 constructor
 ·cases h:qE ops x with
  |false=>rfl
  |true=>
   unfold qE at h;have:=zaf.1 h i (zaC.2 hi);rw[bS,zds (Ne.symm N)] at this;by_cases J:i<x
   ·rw[aB,zdp J] at this;rcases H with H|H
    ·omega
    ·simp[H] at this
   ·rw[aB,zds J] at this;simp[V] at this
 ·cases h:qE ops i with
  |false=>rfl
  |true=>
   unfold qE at h;have:=zaf.1 h x (zaC.2 Y);rw[bS,zds N] at this;by_cases J:x<i
   ·rw[aB,zdp J] at this;simp[V] at this
   ·rw[aB,zds J] at this;rcases H with H|H
    ·omega
    ·simp[H] at this
theorem jx (H:x≠i):dc h i e x=h x:=by
 unfold dc;rw[bS,zds H];rfl
theorem kW (hi:ops.toList[i]? =some o):i<ops.size:=by
 rcases zah i ops.size with h|h
 ·exact h
 ·rw[zad (by simpa using h)] at hi;cases hi
def Rel (ops:zdP) (pre:Nat->zdI) (x i:Nat):Prop:=x≠i/\x∈pre i/\i∉pre x/\(x<i\/bK ops.toList ops.size x i=false)
def NB (m:Bool) (KN:Value->zdS) (ops:zdP) (x i:Nat):Prop:=KN=noP\/(∀v A',KN v A'↔KN v (acO A'))/\dz ops x=false/\m=true/\Du ops x i=true/\acg ops x i=true
variable {y:Nat}
theorem GL (h:acg ops x y=true): ∃a b,ops.toList[x]? =some a/\ops.toList[y]? =some b/\Oper.apart ops a b=true:=by
 unfold acg at h;split at h
 ·rename_i a b h1 h2;exact⟨a,b,h1,h2,h⟩
 ·cases h
theorem NB.at (h:NB m KN ops x i) (J:ops.toList[x]? =some ox) (hi:ops.toList[i]? =some oi):KN=noP\/(∀v A',KN v A'↔KN v (acO A'))/\smallF ox=true/\m=true/\Du ops x i=true/\ox.apart ops oi=true:=by
 rcases h with h|⟨h1,h2,h3,h4,h5⟩
 ·exact .inl h
 ·refine .inr ⟨h1, ?_,h3,h4, ?_⟩
  ·unfold dz at h2;rw[J] at h2;simpa using h2
  ·obtain⟨a,b,e1,H,N⟩:=GL h5;rw[J] at e1;rw[hi] at H;obtain rfl:ox=a:=by simpa using e1
   obtain rfl:oi=b:=by simpa using H
   exact N
theorem iQ {m:Bool} {KN:Value->zdS} {Γ:zdO} {inl:Inl} (H:cF inl) {ops:zdP} {pre:Nat->zdI} {KP:Value->zdS} {K:zdS} {i:Nat} {oi:Oper} (hi:ops.toList[i]? =some oi) {v:zdI}: ∀(u:zdI) (A:AS) (h:Nat->Option Hst),OS A->NX A.bl A.nx->u.Nodup->
 (∀x∈u,Rel ops pre x i/\bK ops.toList ops.size i x=false/\h x=none/\NB m KN ops x i)->n5 P Γ inl ops pre m KN KP (u++i::v) A h K->n5 P Γ inl ops pre m KN KP (i::(u++v)) A h K
 | [],A,h,_,_,_,_,Y=>Y
 |x::u,A,h,e0,a0,n0,hu,Y=>by
  obtain⟨⟨Z,o0,g0,i0⟩,hb,h0,m0⟩:=hu x (by simp);simp only[zaO,n5] at Y;split at Y
  ·exact Y.elim
  ·rename_i ox N;have V:=zd6.1 n0
   have J:=GD H e0 a0 Y (K':=λef rd wr A'=>af (okM ops pre h x ef rd wr&&ckM m ops x ef) (n5 P Γ inl ops pre m KN KP (i::(u++v)) A' (dc h x ⟨ef,rd,wr,bif ef then A.nx else 0⟩) K)) (λef rd wr A' hk ho hn=>by
    obtain⟨k1,k2⟩:=Xg.1 hk;refine Xg.2 ⟨k1,iQ H hi u A' _ ho hn V.2 (λy hy=> ?_) k2⟩;obtain⟨a1,a2,a3,a4⟩:=hu y (zan _ hy)
    exact⟨a1,a2,by rw[jx (λe=>V.1 (by rw[<-e];exact hy))];exact a3,a4⟩)
   simp only[n5] at J ⊢;rw[hi] at J;obtain⟨l1,l2⟩:=Kj Z (kW N) (kW hi) hb i0;simp only[zaO,n5,N,hi,l1,l2,zdq] at J ⊢;exact GC (R:=λA2 h2=>n5 P Γ inl ops pre m KN KP (u++v) A2 h2 K) H e0 a0 Z o0 g0 N hi hb h0 (NB.at m0 N hi) J
variable {Kc:Bool->List Nat->List Nat->zdS}
theorem lL (hΓ:GamOK P W0 Γ) (Z:kn P W0 inl) 
 (h:opT P Γ inl ops A o KP Kc) (V:Is W0 A β a w) 
 (hP: ∀v A' H w' β',KP v A'->Is W0 A' β' H w'->Trs A β A' β'->Q (pex v) H w')
 (hK: ∀ef rd wr A' H w' β',Kc ef rd wr A'->Is W0 A' β' H w'->Trs A β A' β'->KK H w'):
 if Region.wanted o (yielded ops a.tmps) then o.wp P a w KK Q else KK (a.put o.dst undef) w:=by
 cases hb:eK P Γ inl ops A o with
 |none=>
  obtain⟨D,st,J⟩:=eQ hb h;refine mO hΓ V.fr V.bc (za0 _) (VV.2 ⟨D,st,rfl,rfl⟩) (λH w' β' r1 r2 r3 r4 r5 r6=> ?_);rcases J with ⟨hr,J⟩|⟨hr,J⟩
  ·refine hK _ _ _ _ H w' β' J ⟨r1,r2, ?_,V.sd⟩ ⟨?_,λi hi=>hi,za0 _,rfl⟩
   ·rw[fh hr];exact V.nx
   ·rw[VZ.2 hr] at r3;exact r3.mono λi hi=>by cases hi
  ·refine hK _ _ _ _ H w' β' J ⟨r1.frame _ _,r2,V.nx.apply D.E (by omega) (za0 _),V.sd⟩ ⟨?_,λi hi=>by simp[hi],by show A.nx<=A.nx+1;omega,rfl⟩;exact r3.mono λi hi=>by simp[hi]
 |some T=>
  rw[opT,hb] at h;exact Am Z (ops:=ops) hb h V (Q:=Q) (KK:=KK) (λv A' w' β' J N Y=>hP v A' a w' β' J N Y) (λwl A' H w' β' J N Y=>hK _ _ _ A' H w' β' J N Y)
theorem Kk (H:mJ ops=true): ∀i o,ops.toList[i]? =some o-> ∀e∈o.after.toList,Region.binds .any e=true->e.on<i:=by
 intro i o J e V N;unfold mJ at H;simp only[zaf,zaC] at H;have hi:i<ops.size:=kW J;have:=H i hi;rw[J] at this;simp only[zaf,zav,zap,aB,zdt] at this;rcases this e V with h|h
 ·rw[N] at h;cases h
 ·exact h
theorem MW: ∀(l:zdI),l≠ []-> ∃m∈l,∀x∈l,m<=x
 | [],h=>absurd rfl h
 | [a],_=>⟨a,by simp,by simp⟩
 |a::b::l,_=>by
  obtain⟨m,h1,h2⟩:=MW (b::l) (by simp);rcases Nat.le_total a m with h|h
  ·exact⟨a,by simp,λx H=>by
    rcases zai.1 H with rfl|H
    ·exact za0 _
    ·exact zac h (h2 x H)⟩
  ·exact⟨m,zan _ h1,λx H=>by
    rcases zai.1 H with rfl|H
    ·exact h
    ·exact h2 x H⟩
variable {listed:Array Bool}
theorem vj (J:mJ ops=true) {rem:zdI} (n0:listed.size=ops.size) (H: ∀x,x∈rem↔x<ops.size/\listed.getD x true=false) (hr:Region.ready .any ops listed= []):rem= []:=by
 cases e0:rem with
 |nil=>rfl
 |cons i0 r0=>
  exfalso;obtain⟨i,hi,Y⟩:=MW rem (by rw[e0];simp);have N:=(H i).1 hi;have Z: ∃o,ops[i]? =some o:=⟨ops[i],by simp[N.1]⟩;obtain⟨o,Z⟩:=Z;have:i∈Region.ready .any ops listed:=by
   refine mem_ready.2 ⟨N.2,o,Z,λe he hb=> ?_⟩;have m0:=Kk J i o (by simpa using Z) e (by simpa using he) hb;cases hl:listed.getD e.on false with
   |true=>rfl
   |false=>
    have a0:e.on<listed.size:=by omega
    have g0:listed.getD e.on true=false:=by
     rw[<-hl];simp[Array.getD,a0]
    have V:=(H e.on).2 ⟨by omega,g0⟩;have:=Y _ V;omega
  rw[hr] at this;cases this
theorem la (Y:jY ops listed) (a0:ops.toList[i]? =some o) (H: ∀e∈o.after,Region.binds .any e=true->listed.getD e.on false=true) (g0:listed.size=ops.size) (hx:x<ops.size) (N:listed.getD x true=false):bK ops.toList ops.size i x=false:=by
 cases hb:bK ops.toList ops.size i x with
 |false=>rfl
 |true=>
  exfalso
  have Z:=mz Y _ i x (by simp) (λo' J e he V=>by
   rw[a0] at J;obtain rfl:o=o':=by simpa using J
   exact H e (by simpa using he) V) hb
  have e0:x<listed.size:=by omega
  simp[Array.getD,e0] at N Z;rw[N] at Z;cases Z
variable {u:zdI}
theorem kX (o0:listed.size=ops.size) {v:zdI} (a0:ops.toList[i]? =some o) (i0:(u++i::v).Nodup)
 (e0: ∀x,x∈u++i::v↔x<ops.size/\listed.getD x true=false) (g0:jY ops listed) (H: ∀e∈o.after,Region.binds .any e=true->listed.getD e.on false=true):
 (∀x,x∈u++v↔x<ops.size/\(listed.setIfInBounds i true).getD x true=false)/\jY ops (listed.setIfInBounds i true)/\ ∀x∈u++v,x≠i:=by
 have n0:=kW a0;have hn:=zca.1 i0;have Y:i∉v:=(zd6.1 hn.2.1).1;have V:i∉u:=λh=>hn.2.2 i h i (by simp) rfl;refine⟨λx=> ?_, ?_, ?_⟩
 ·have hm:=e0 x;simp only[za8,zai] at hm ⊢;by_cases N:x=i
  ·subst N;constructor
   ·rintro(h|h)
    ·exact absurd h V
    ·exact absurd h Y
   ·rintro⟨_,h⟩;have m0:x<listed.size:=by omega
    simp[Array.getD,m0] at h
  ·rw[getD_set_ne true (Ne.symm N),<-hm];constructor
   ·rintro(h|h)
    ·exact .inl h
    ·exact .inr (.inr h)
   ·rintro(h|h|h)
    ·exact .inl h
    ·exact absurd h N
    ·exact .inr h
 ·intro j hj o' J e he hb;by_cases Z:j=i
  ·subst Z;rw[a0] at J;obtain rfl:o=o':=by simpa using J
   exact getD_set_true (H e (by simpa using he) hb)
  ·rw[getD_set_ne false (Ne.symm Z)] at hj;exact getD_set_true (g0 j hj o' J e he hb)
 ·intro x hx e;subst e;rcases za8.1 hx with h|h
  ·exact V h
  ·exact Y h
theorem sH {R:Nat->Nat->Prop} {v:zdI} (h:(u++i::v).Pairwise R):(∀x∈u,R x i)/\(u++v).Pairwise R:=by
 have hp:=zbJ.1 h;exact⟨λx H=>hp.2.2 x H i (by simp),zbJ.2 ⟨hp.1,(zcJ.1 hp.2.1).2,λx H y J=>hp.2.2 x H y (zan _ J)⟩⟩
def aiY (m:Bool) (KN:Value->zdS) (ops:zdP) (pre:Nat->zdI) (x y:Nat):Prop:=Rel ops pre x y/\(bK ops.toList ops.size y x=true\/NB m KN ops x y)
theorem acH {l:zdI} (h:l.Pairwise (Rel ops pre)):l.Pairwise (aiY m noP ops pre):=h.imp λh=>⟨h, .inr (.inl rfl)⟩
variable {A0:AS} {β0:zdJ}
theorem pi (hΓ:GamOK P W0 Γ) (x0:kn P W0 inl) (p0:cF inl) (m0:mJ ops=true) {K:zdS} 
 (H0: ∀v A' N w' β',KN v A'->Is W0 A' β' N w'->Trs A0 β0 A' β'->Q (pex v) N w')
 (hP: ∀v A' N w' β',KP v A'->Is W0 A' β' N w'->Trs A0 β0 A' β'->Q (pex v) N w') (hQ: ∀A' N w' β',K A'->Is W0 A' β' N w'->Trs A0 β0 A' β'->Q .normal N w'):
 ∀(H:Nat) (listed:Array Bool) (rem:zdI) (A:AS) (a:Act) (w:World) (β:zdJ) (h:Nat->Option Hst),listed.size=ops.size->rem.length<=H->rem.Pairwise (aiY m KN ops pre)->(∀x,x∈rem↔x<ops.size/\listed.getD x true=false)->jY ops listed->
  (∀x∈rem,h x=none)->n5 P Γ inl ops pre m KN KP rem A h K->Is W0 A β a w->Trs A0 β0 A β->wpAny P .any ops Q H listed a w:=by
 intro H
 induction H with
 |zero=>
  intro listed rem A a w β h a0 g0 q0 J n0 hh hm V Y;have B0:rem= []:=zcI.1 (by omega);subst B0;refine⟨?_,hQ A a w β hm V Y⟩;apply zdf.2;intro i hi;obtain⟨v0,o,ho,_⟩:=mem_ready.1 hi;have o0:i<ops.size:=(zaq.1 ho).1;exact absurd ((J i).2 ⟨o0,v0⟩) (by simp)
 |succ H ih=>
  intro listed rem A a w β h a0 g0 q0 J n0 hh hm V Y;refine⟨λhr=> ?_,λi hi=> ?_⟩
  ·obtain rfl:=vj m0 a0 J hr;exact hQ A a w β hm V Y
  ·obtain⟨v0,o,ho,Z⟩:=mem_ready.1 hi;have o0:i<ops.size:=(zaq.1 ho).1;have e0:ops.toList[i]? =some o:=by simpa using ho
   have I0:i∈rem:=(J i).2 ⟨o0,v0⟩;obtain⟨u,v,rfl⟩:=zcg I0;obtain⟨i0,C0⟩:=sH q0;have z0:(u++i::v).Nodup:=q0.imp λh=>h.1.1;obtain⟨r0,w0,M0⟩:=kX a0 e0 z0 J n0 Z;have L0: ∀x∈u,Rel ops pre x i/\bK ops.toList ops.size i x=false/\h x=none/\NB m KN ops x i:=by
    intro x hx;have E0:=(J x).1 (by simp[hx]);have hb:=la n0 e0 Z a0 E0.1 E0.2;refine⟨(i0 x hx).1,hb,hh x (by simp[hx]), ?_⟩;rcases(i0 x hx).2 with h|h
    ·rw[hb] at h;cases h
    ·exact h
   have y0:=iQ p0 e0 u A h V.fr.toOS V.nx (zca.1 z0).1 L0 hm;simp only[n5,e0] at y0
   have k:=lL hΓ x0 y0 V (Q:=Q) (KK:=wpAny P .any ops Q H (listed.setIfInBounds i true)) (λv A' N w' β' hk r1 r2=>by
    cases hl:qE ops i with
    |true=>rw[hl] at hk;exact hP v A' N w' β' hk r1 (Y.trans r2)
    |false=>rw[hl] at hk;exact H0 v A' N w' β' hk r1 (Y.trans r2)) (λef rd wr A' N w' β' hk r1 r2=>by
    obtain⟨_,hk⟩:=Xg.1 hk;refine ih (listed.setIfInBounds i true) (u++v) A' N w' β' _ (by simp[a0]) (by simp at g0 ⊢;omega) C0 r0 w0 ?_ hk r1 (Y.trans r2);intro x hx;rw[jx (M0 x hx)]
    exact hh x (by rcases za8.1 hx with h|h<;>simp[h]))
   unfold wpOp;simp only[ho];by_cases hw:Region.wanted o (yielded ops a.tmps)=true
   ·rw[if_pos hw] at k ⊢;exact .inl k
   ·rw[if_neg hw] at k ⊢;exact k
theorem Kl (V:eK P Γ inl ops A o=none) (h:opT P Γ inl ops A o KP K) (Z:opT P Γ inl ops A o KP K'):
 opT P Γ inl ops A o noP λef rd wr A'=>K ef rd wr A'/\K' ef rd wr A':=by
 obtain⟨D,st,k⟩:=eQ V h;obtain⟨D',Y,J⟩:=eQ V Z;obtain rfl:=st.det Y;rcases k with ⟨N,k⟩|⟨N,k⟩
 ·rcases J with ⟨_,J⟩|⟨H,_⟩
  ·exact kV V st N ⟨k,J⟩
  ·exact absurd N H
 ·rcases J with ⟨H,_⟩|⟨_,J⟩
  ·exact absurd H N
  ·exact wy V st N ⟨k,J⟩
variable {c:Nat}
theorem DZ (hΓ:GamOK P W0 Γ) (m0:kn P W0 inl) (i0:cF inl) {pre':Nat->zdI} (p0:mJ ops=true) {K:zdS} {d:Nat} (p1:c≠d)
 (u1: ∀i o,ops.toList[i]? =some o->i≠c->smallF o=true\/bK ops.toList ops.size i c=true\/bK ops.toList ops.size i d=true)
 (hP: ∀v A' a' w' β',KP v A'->Is W0 A' β' a' w'->Trs A0 β0 A' β'->Q (pex v) a' w') (hQ: ∀A' a' w' β',K A'->Is W0 A' β' a' w'->Trs A0 β0 A' β'->Q .normal a' w'):
 ∀(H:Nat) (listed:Array Bool) (rem V:zdI) (A:AS) (a:Act) (w:World) (β:zdJ) (h:Nat->Option Hst),listed.size=ops.size->rem.length<=H->V.length<=H->c∈rem->d∈rem->
  rem.Pairwise (λx y=>x≠y/\(Rel ops pre x y\/x=c/\y=d))->V.Pairwise (λx y=>x≠y/\(Rel ops pre' x y\/x=d/\y=c))->(∀x,x∈rem↔x<ops.size/\listed.getD x true=false)->(∀x,x∈V↔x<ops.size/\listed.getD x true=false)->jY ops listed->
  (∀x∈rem,h x=none)->n5 P Γ inl ops pre false noP KP rem A h K->n5 P Γ inl ops pre' false noP KP V A h K->Is W0 A β a w->Trs A0 β0 A β->wpAny P .any ops Q H listed a w:=by
 intro H
 induction H with
 |zero=>
  intro listed rem V A a w β h e0 y0 r0 hc hd Q0 z0 N a0 q0 hh hm a1 n0 w0;have l1:rem= []:=zcI.1 (by omega);subst l1;cases hc
 |succ H ih=>
  intro listed rem V A a w β h e0 y0 r0 hc hd Q0 z0 N a0 q0 hh hm a1 n0 w0;refine⟨λhr=> ?_,λi hi=> ?_⟩
  ·obtain rfl:=vj p0 e0 N hr;cases hc
  ·obtain⟨m1,o,ho,J⟩:=mem_ready.1 hi;have Z0:i<ops.size:=(zaq.1 ho).1;have Z:ops.toList[i]? =some o:=by simpa using ho
   have q1:i∈rem:=(N i).2 ⟨Z0,m1⟩;have Y0:i∈V:=(a0 i).2 ⟨Z0,m1⟩;have U0: ∀x∈V,h x=none:=λx hx=>hh x ((N x).2 ((a0 x).1 hx));obtain⟨u,v,rfl⟩:=zcg q1;obtain⟨u',v',rfl⟩:=zcg Y0;obtain⟨c1,L0⟩:=sH Q0;obtain⟨N0,B0⟩:=sH z0;have j1:(u++i::v).Nodup:=Q0.imp λh=>h.1;have H0:(u'++i::v').Nodup:=z0.imp λh=>h.1;obtain⟨C0,x0,O0⟩:=kX e0 Z j1 N q0 J;obtain⟨hrema',_,I0⟩:=kX e0 Z H0 a0 q0 J;have b1:i≠d->n5 P Γ inl ops pre false noP KP (i::(u++v)) A h K:=λhid=>by
    refine iQ i0 Z u A h n0.fr.toOS n0.nx (zca.1 j1).1 (λx hx=> ?_) hm;have g0:=(N x).1 (by simp[hx]);refine⟨?_,la q0 Z J e0 g0.1 g0.2,hh x (by simp[hx]), .inl rfl⟩;rcases(c1 x hx).2 with r|⟨_,r⟩
    ·exact r
    ·exact absurd r hid
   have b2:i≠c->n5 P Γ inl ops pre' false noP KP (i::(u'++v')) A h K:=λhid=>by
    refine iQ i0 Z u' A h n0.fr.toOS n0.nx (zca.1 H0).1 (λx hx=> ?_) a1;have g0:=(a0 x).1 (by simp[hx]);refine⟨?_,la q0 Z J e0 g0.1 g0.2,U0 x (by simp[hx]), .inl rfl⟩;rcases(N0 x hx).2 with r|⟨_,r⟩
    ·exact r
    ·exact absurd r hid
   have n1:(if Region.wanted o (yielded ops a.tmps) then o.wp P a w (wpAny P .any ops Q H (listed.setIfInBounds i true)) Q else wpAny P .any ops Q H (listed.setIfInBounds i true) (a.put o.dst undef) w)->wpOp P ops Q i (wpAny P .any ops Q H (listed.setIfInBounds i true)) a w:=λk=>by
    unfold wpOp;simp only[ho];by_cases hw:Region.wanted o (yielded ops a.tmps)=true
    ·rw[if_pos hw] at k ⊢;exact .inl k
    ·rw[if_neg hw] at k ⊢;exact k
   refine n1 ?_;by_cases v0:i=c
   ·have o0:=b1 (by rw[v0];exact p1);simp only[n5,Z] at o0
    refine lL hΓ m0 o0 n0 (λv A' a' w' β' Y r1 r2=>by
     cases hl:qE ops i with
     |true=>rw[hl] at Y;exact hP v A' a' w' β' Y r1 (w0.trans r2)
     |false=>rw[hl] at Y;exact Y.elim) (λef rd wr A' a' w' β' Y r1 r2=> ?_)
    obtain⟨_,Y⟩:=Xg.1 Y;refine pi (m:=false) (KN:=noP) hΓ m0 i0 p0 (λ_ _ _ _ _ h=>h.elim) hP hQ H (listed.setIfInBounds i true) (u++v) A' a' w' β' _ (by simp[e0]) (by simp at y0 ⊢;omega) (acH<|L0.imp_of_mem λ{x y} hx hy h=> ?_) C0 x0 ?_ Y r1 (w0.trans r2)
    ·rcases h.2 with h|⟨h,_⟩
     ·exact h
     ·exact absurd (h.trans v0.symm) (O0 x hx)
    ·intro x hx;rw[jx (O0 x hx)];exact hh x (by rcases za8.1 hx with h|h<;>simp[h])
   by_cases hid:i=d
   ·have o0:=b2 v0;simp only[n5,Z] at o0
    refine lL hΓ m0 o0 n0 (λv A' a' w' β' Y r1 r2=>by
     cases hl:qE ops i with
     |true=>rw[hl] at Y;exact hP v A' a' w' β' Y r1 (w0.trans r2)
     |false=>rw[hl] at Y;exact Y.elim) (λef rd wr A' a' w' β' Y r1 r2=> ?_)
    obtain⟨_,Y⟩:=Xg.1 Y;refine pi (m:=false) (KN:=noP) hΓ m0 i0 p0 (λ_ _ _ _ _ h=>h.elim) hP hQ H (listed.setIfInBounds i true) (u'++v') A' a' w' β' _ (by simp[e0]) (by simp at r0 ⊢;omega) (acH<|B0.imp_of_mem λ{x y} hx hy h=> ?_) hrema' x0 ?_ Y r1 (w0.trans r2)
    ·rcases h.2 with h|⟨h,_⟩
     ·exact h
     ·exact absurd (h.trans hid.symm) (I0 x hx)
    ·intro x hx;rw[jx (I0 x hx)];exact U0 x (by rcases za8.1 hx with h|h<;>simp[h])
   have o0:=b1 hid;have E0:=b2 v0;simp only[n5,Z] at o0 E0;have hsmall:smallF o=true:=by
    rcases u1 i o Z v0 with h|h|h
    ·exact h
    ·have g0:=(N c).1 hc;rw[la q0 Z J e0 g0.1 g0.2] at h;cases h
    ·have g0:=(N d).1 hd;rw[la q0 Z J e0 g0.1 g0.2] at h;cases h
   have R0:=Kl (Ao hsmall) o0 E0;refine lL hΓ m0 R0 n0 (λv A' a' w' β' Y r1 r2=>Y.elim) (λef rd wr A' a' w' β' Y r1 r2=> ?_);obtain⟨Y,M0⟩:=Y;obtain⟨_,Y⟩:=Xg.1 Y;obtain⟨_,M0⟩:=Xg.1 M0;have keep: ∀x,x∈u++i::v->x≠i->x∈u++v:=λx hx v1=>by
    rcases za8.1 hx with h|h
    ·exact zbI _ h
    ·rcases zai.1 h with h|h
     ·exact absurd h v1
     ·exact zb1 _ h
   refine ih (listed.setIfInBounds i true) (u++v) (u'++v') A' a' w' β' _ (by simp[e0]) (by simp at y0 ⊢;omega) (by simp at r0 ⊢;omega) (keep c hc (Ne.symm v0)) (keep d hd (Ne.symm hid)) L0 B0 C0 hrema' x0 ?_ Y M0 r1 (w0.trans r2);intro x hx;rw[jx (O0 x hx)];exact hh x (by rcases za8.1 hx with h|h<;>simp[h])
theorem Ch {r:Nat->zdQ} {R:Nat->Nat->Prop} (H: ∀x y,r x y=true->R x y): ∀{l:zdI},pwB r l=true->l.Pairwise R
 | [],_=>List.Pairwise.nil
 |x::l,h=>by
  simp only[pwB,za2,zaf] at h;exact zcJ.2 ⟨λy J=>H x y (h.1 y J),Ch H h.2⟩
variable {L:zdI}
theorem Wo:Gl x L=true↔x∈L:=by
 unfold Gl;simp only[zaP,bS,zdt];exact⟨λ⟨y,H,e⟩=>e▸H,λh=>⟨x,h,rfl⟩⟩
variable {p q:Nat}
theorem D0 (h:Nz ops pre p q x y=true):x≠y/\(Rel ops pre x y\/x=p/\y=q):=by
 unfold Nz at h;simp only[za2,zav,zap,bS,zdt,zdz,aB,Wo] at h;obtain⟨⟨⟨h1,h2⟩,h3⟩,h4⟩:=h;refine⟨h4, ?_⟩;rcases h1 with h1|h1
 ·exact .inl ⟨h4,h1,λh=>(by rw[Wo.2 h] at h2;cases h2),h3⟩
 ·exact .inr h1
theorem yn (h:okP ops L p q=true):L.Pairwise (λx y=>x≠y/\(Rel ops (Kb L p q) x y\/x=p/\y=q))/\(∀x,x∈L↔x<ops.size)/\L.length<=ops.size:=by
 unfold okP at h;simp only[za2,zaf,zaC,aB,zdt,Wo] at h;exact⟨Ch (λ_ _=>D0) h.1.1.1,λx=>⟨λH=>h.1.1.2 x H,λH=>h.1.2 x H⟩,zak h.2⟩
theorem Ap {d:Nat} (h:Gk ops=some (c,d)):c<ops.size/\d<ops.size/\c≠d/\ ∀i o,ops.toList[i]? =some o->i≠c->smallF o=true\/bK ops.toList ops.size i c=true\/bK ops.toList ops.size i d=true:=by
 unfold Gk at h;split at h
 ·rename_i N Y hp;have Z:(N,Y)∈Gj ops:=by rw[hp];simp
  cases H:(List.range ops.size).all (λi=>Nat.beq i N|| !dz ops i||bK ops.toList ops.size i N||bK ops.toList ops.size i Y) with
  |false=>rw[H] at h;cases h
  |true=>
   rw[H] at h;simp only[zdr,za1,zag] at h;obtain⟨rfl,rfl⟩:=h;unfold Gj at Z;obtain⟨c2,h1,h2⟩:=List.mem_flatMap.1 Z;cases J:dz ops c2 with
   |false=>rw[J] at h2;cases h2
   |true=>
    rw[J] at h2;simp only[zdr] at h2;obtain⟨a,h3,h4⟩:=zaz.1 h2;simp only[zag] at h4;obtain⟨rfl,rfl⟩:=h4;obtain⟨h5,h6⟩:=List.mem_filter.1 h3;simp only[za2,zap,bS,zdz] at h6;refine⟨zaC.1 h1,zaC.1 h5,λe=>h6.1.1.1 e.symm,λi o ho V=> ?_⟩;have:=zaf.1 H i (zaC.2 (kW ho));simp only[bS,zds V,zbi,zav] at this;rcases this with (h|h)|h
    ·left;unfold dz at h;rw[ho] at h;simpa using h
    ·exact .inr (.inl h)
    ·exact .inr (.inr h)
 ·cases h
structure FreeS (A:AS) (d:Nat):Prop where
 dead:A.tm d= .dead
 key: ∀t u b s,A.tm t= .opt u b s->u≠d
theorem ee (a:Act) (d:Option Nat) (v:Value) (h:d≠some t):(a.put d v).tmps.getD t undef=a.tmps.getD t undef:=by
 cases d with
 |none=>rfl
 |some d=>
  have H:d≠t:=λe=>h (by rw[e]);simp[Act.put,zdb H]
theorem FR.putFree (J:FR β A a) {d:Nat} (h:FreeS A d) (v:Value):FR β A (a.put (some d) v):=by
 refine⟨J.defers,by simp only[Act.put,zde];exact J.size,λt s H=> ?_,λt u b s H=> ?_,J.os⟩
 ·rw[ee a (some d) v (λe=>by cases e;rw[h.dead] at H;cases H)];exact J.v t s H
 ·have N:t≠d:=λe=>by rw[e,h.dead] at H;cases H
  have V:u≠d:=h.key t u b s H;rw[ee a (some d) v (t:=t) (λe=>N (zbk e).symm),ee a (some d) v (t:=u) (λe=>V (zbk e).symm)];exact J.opt t u b s H
theorem FreeS.app (st:Stp P Γ ops id o A D) {d:Nat} (h:FreeS A d) (Y:o.dst≠some d) (Z:d∉o.looksAt ops):FreeS (app D id A) d:=by
 have e:(Go.Sy.app D id A).tm=dI D.d D.tv A.tm:=rfl;have V:D.d≠some d:=by rw[st.d];exact Y
 refine⟨by rw[e,lJ V];exact h.dead,λt u b s J=> ?_⟩;rw[e] at J;by_cases N:D.d=some t
 ·rw[N,di] at J;have H:=st.src;unfold Src at H;split at H
  ·rw[H.2.1] at J;simp at J
  ·obtain⟨k,g,_,h2,_,_,_,_,_,h1⟩:=H;rw[h1] at J;simp at J;rw[<-J.1];exact λe=>Z (by rw[<-e];exact DT st.src h2)
 ·rw[lJ N] at J;exact h.key t u b s J
theorem ags (Z:cF inl) (a0:NX A.bl A.nx) (h:opT P Γ inl ops A o KP K)
 {F:Nat->Prop} (hF: ∀d,F d->FreeS A d/\o.dst≠some d/\d∉o.looksAt ops):opT P Γ inl ops A o KP λef rd wr A'=>K ef rd wr A'/\ ∀d,F d->FreeS A' d:=by
 cases V:eK P Γ inl ops A o with
 |some T=>
  rw[opT,V] at h ⊢;refine(fF Z a0 V).mono h λr b n w io J=> ?_;cases r with
  |pan v=>exact J
  |ok r=>
  simp only[uR] at J ⊢;split at J
  ·rename_i A' hp;obtain⟨rfl,e0⟩:=Wa.1 hp;refine⟨J,λd H=> ?_⟩;obtain⟨h1,h2,h3⟩:=hF d H;refine⟨?_,λt u b' s ht=> ?_⟩
   ·show dI o.dst (.v r) A.tm d= .dead;rw[lJ h2];exact h1.dead
   ·have N:dI o.dst (.v r) A.tm t= .opt u b' s:=ht;by_cases Y:o.dst=some t
    ·rw[Y,di] at N;simp at N
    ·rw[lJ Y] at N;exact h1.key t u b' s N
  ·exact J.elim
 |none=>
  obtain⟨D,st,⟨hr,J⟩|⟨hr,J⟩⟩:=eQ V h
  ·exact kV V st hr ⟨J,λd H=>(hF d H).1.app st (hF d H).2.1 (hF d H).2.2⟩
  ·refine wy V st hr ⟨J,λd H=> ?_⟩;have:=(hF d H).1.app st (hF d H).2.1 (hF d H).2.2;exact⟨this.dead,this.key⟩
theorem agt {K:Act->World->Prop} (h:o.wp P a w K Q):o.wp P a w (λN w'=>K N w'/\ ∀t,o.dst≠some t->N.tmps.getD t undef=a.tmps.getD t undef) Q:=by
 unfold Oper.wp at*
 generalize (execOp a.eval o).run P w=r at*
 cases r with
 |ok n w'=>
  cases n<;>simp only[Oper.upon] at h ⊢ <;>
   first
    |exact⟨h,λt H=>ee _ _ _ H⟩
    |exact⟨h,λt H=>ee {a with defers:=_::a.defers} _ _ H⟩
    |exact Calls.mono h (λe V J=>by cases e<;>first|exact⟨J,λt H=>ee _ _ _ H⟩|exact J)
    |exact Rows.mono h (λ_ _ J=>⟨J,λt H=>ee _ _ _ H⟩)
 |halt x w'=>cases x<;>simp only[Oper.upon] at h ⊢ <;>exact h
def aht (ops:zdP) (pre:Nat->zdI) (M C:zdI) (x y:Nat):Prop:=x≠y/\(y∈M/\x∈C\/Rel ops pre x y)
structure LateOK (P:Program) (ops:Array Oper) (M C:List Nat):Prop where
 use: ∀i o,i∉M->ops.toList[i]? =some o->(∀c∈C,bK ops.toList ops.size i c=true)\/(∀m∈M,bK ops.toList ops.size i m=false/\ ∃om,ops.toList[m]? =some om/\Oper.apart ops om o=true)
 made: ∀m∈M,∃o t d cs,ops.toList[m]? =some o/\o.guard=none/\o.op= .alloc t/\o.dst=some d/\xX P t=some cs
 free: ∀m∈M,∀m'∈M,bK ops.toList ops.size m m'=false
 two: ∀m∈M,∀m'∈M,m≠m'-> ∀o o',ops.toList[m]? =some o->ops.toList[m']? =some o'->o.dst≠o'.dst
 cm: ∀c∈C,c∉M
structure Pend (P:Program) (ops:Array Oper) (a:Act) (w:World) (m b:Nat):Prop where
 made: ∃o t d cs,ops.toList[m]? =some o/\o.guard=none/\o.op= .alloc t/\o.dst=some d/\xX P t=some cs/\w.heap[b]? =some (.cells (SV.concs oj cs).toArray t (0,0))/\a.tmps.getD d undef= .pointer (some ⟨b,0,none⟩)
theorem adX (β β':zdJ) {cs:zdK} (h: ∀s∈cs,s.ids= []):SV.concs β cs=SV.concs β' cs:=
 SV.concs_congr cs λi hi=>by
  obtain⟨s,H,hi⟩:=SV.mem_idss.1 hi;rw[h s H] at hi;cases hi
theorem agu {m b:Nat} (ho:ops.toList[m]? =some o)
 (h:opT P Γ inl ops A o KP Kc) (hs:Is W0 A β a w) (hp:Pend P ops a w m b) (hm:W0.mine b) (Z: ∀i C,A.bl i=some C->C.kd= .own->(β i).nil=false->(β i).blk≠b):
 ∃ef rd wr A' β',Kc ef rd wr A'/\Is W0 A' β' a w/\Trs A β A' β'/\(∀i C,A'.bl i=some C->A.bl i≠some C->(β' i).blk=b)/\(∀i,A.bl i≠none->β' i=β i):=by
 obtain⟨⟨o',t,d,cs,h1,hg,hop,J,hz,hw,o0⟩⟩:=hp;rw[ho] at h1;simp only[za1] at h1;subst h1;have hb:eK P Γ inl ops A o=none:=Ao (by unfold smallF;rw[hop]);obtain⟨D,st,k⟩:=eQ hb h;obtain⟨v,hv,hc,hi⟩:=pb (P:=P) (β:=β) w hz;have hid:=st.fresh;have hE:D.E={out:= .ptr A.nx 0 0,nw:=some {n:=1,sz:=cs.length,get:=λ_=>cs,kd:= .own}}/\D.tv= .v (.ptr A.nx 0 0)/\D.key=none:=by
  have H:=st.src;unfold Src at H;rw[hg] at H;simp only[] at H;obtain⟨q1,q2,q3,q4⟩:=H;rw[hop] at q4;simp only[eff,hz,za1] at q4;exact⟨q4.symm,by rw[q2,<-q4],q1⟩
 obtain⟨e1,e2,e3⟩:=hE;have V:(app D A.nx A).bl=upd A.bl A.nx {n:=1,sz:=cs.length,get:=λ_=>cs,kd:= .own}:=by
  show VO A.bl A.nx D.E=_;rw[e1];rfl
 have Y:=st.put d J;rcases k with ⟨hr,k⟩|⟨hr,k⟩
 ·have e0:=hr.2;rw[e1] at e0;cases e0
 have g0:=hs.bc.late (id:=A.nx) hid (b:=b) (ty:=t) (cs:=cs) (by rw[adX β oj hi];exact hw) hi hm Z;refine⟨_,_,_,_,gp β A.nx ⟨b,0,cs.length,1,false⟩,k,⟨?_,by show BC W0 (app D A.nx A).bl _ w;rw[V];exact g0, ?_,hs.sd⟩, ?_, ?_, ?_⟩
 ·have tr:=gN hid (za0 A.nx) D.E (β:=β) (β':=gp β A.nx ⟨b,0,cs.length,1,false⟩) (λi hi=>aC λe=>hi (e▸hid));have i0:FR (gp β A.nx ⟨b,0,cs.length,1,false⟩) {A with bl:=VO A.bl A.nx D.E} a:=hs.fr.carry tr
  have key:=FR.putD (d:=o.dst) (s:= .ptr A.nx 0 0) (A':={A with bl:=VO A.bl A.nx D.E,tm:=dI o.dst (.v (.ptr A.nx 0 0)) A.tm}) i0 (λi hi=>by
   simp only[SV.ids,zaj] at hi;subst hi;show VO A.bl A.nx D.E A.nx≠none;have:VO A.bl A.nx D.E=(app D A.nx A).bl:=rfl
   rw[this,V,az];simp) (Wa.2 ⟨rfl,λx hx=>by
    rw[J] at hx;cases hx;exact⟨Y.1,Y.2.1⟩⟩)
  have a0:a.put o.dst ((SV.ptr A.nx 0 0).conc (gp β A.nx ⟨b,0,cs.length,1,false⟩))=a:=by
   rw[J];have p0:d<a.tmps.size:=by rw[hs.fr.size];exact Y.1
   have:(SV.ptr A.nx 0 0).conc (gp β A.nx ⟨b,0,cs.length,1,false⟩)=a.tmps.getD d undef:=by
    rw[o0];simp[SV.conc,addr,aA]
   rw[this];simp only[Act.put];have:a.tmps.setIfInBounds d (a.tmps.getD d undef)=a.tmps:=by
    apply Array.ext
    ·simp
    ·intro j h1 h2;rw[Array.getElem_setIfInBounds]
     ·split
      ·rename_i e;subst e;simp[Array.getD,h2]
      ·rfl
   rw[this]
  rw[a0] at key;have m0:app D A.nx A={A with bl:=VO A.bl A.nx D.E,tm:=dI o.dst (.v (.ptr A.nx 0 0)) A.tm}:=by
   unfold Go.Sy.app;rw[e2,e3,st.d];simp[fD]
  have:FR (gp β A.nx ⟨b,0,cs.length,1,false⟩) (app D A.nx A) a:=by rw[m0];exact key.1
  exact this.frame _ _
 ·exact hs.nx.apply D.E (by omega) (za0 _)
 ·refine⟨?_,λi hi=>by simp[hi],by show A.nx<=A.nx+1;omega,rfl⟩;exact(gN hid (za0 A.nx) D.E (β:=β) (β':=gp β A.nx ⟨b,0,cs.length,1,false⟩) (λi hi=>aC λe=>hi (e▸hid))).mono λi hi=>by simp[aV,hi]
 ·intro i C hC n0;have N:(app D A.nx A).bl i=some C:=hC;rw[V] at N;by_cases hi:i=A.nx
  ·subst hi;rw[aA]
  ·rw[ak hi] at N;exact absurd N n0
 ·intro i hi;exact aC λe=>hi (e▸hid)
theorem Is.up {B:Base} (h:Is B A β a w) (H:SubB B W0) (V: ∀b,B.out b->W0.out b) (J:B.sd=W0.sd):Is W0 A β a w:=
 ⟨h.fr,h.bc.rebase (H.pres h.bc.below) (λ_ _ _ _ _ N=>H.mine N) (λ_ _ _ _ _ h=>V _ h),h.nx,h.sd.trans J⟩
theorem ab7 {Γ:zdO} {inl:Inl} (Z:cF inl) {ops:zdP} {pre:Nat->zdI} {KP:Value->zdS} {K:zdS} {a:Act} {w:World} {A0:AS} {β0:zdJ}:
 ∀(H:List (Nat×Nat)) (rem:zdI) (A:AS) (β:zdJ) (h:Nat->Option Hst),(H.map (·.1)).Nodup->(H.map (·.2)).Nodup->
  (∀p∈H,p.1∈rem/\Pend P ops a w p.1 p.2/\W0.mine p.2/\(∀x∈rem,bK ops.toList ops.size p.1 x=false)/\ ∀i C,A.bl i=some C->C.kd= .own->(β i).nil=false->(β i).blk≠p.2)->
  rem.Pairwise (Rel ops pre)->(∀x∈rem,h x=none)->n5 P Γ inl ops pre false noP KP rem A h K->Is W0 A β a w->Trs A0 β0 A β->
  ∃J A' β' h',n5 P Γ inl ops pre false noP KP J A' h' K/\Is W0 A' β' a w/\Trs A0 β0 A' β'/\J.Pairwise (Rel ops pre)/\(∀x∈J,h' x=none)/\(∀x,x∈J↔x∈rem/\x∉H.map (·.1))/\J.length+H.length=rem.length
 | [],rem,A,β,h,_,_,_,a0,hh,hm,V,g0=>⟨rem,A,β,h,hm,V,g0,a0,hh,λx=>by simp,by simp⟩
 |(m,b)::H,rem,A,β,h,n0,p0,hp,a0,hh,hm,V,g0=>by
  obtain⟨p1,p2,p3,p4,p5⟩:=hp (m,b) (by simp);simp only[zaK] at n0 p0;obtain⟨y0,o0⟩:=zd6.1 n0;obtain⟨x0,q0⟩:=zd6.1 p0;obtain⟨u,v,rfl⟩:=zcg p1;obtain⟨m0,w0⟩:=sH a0;have C0:(u++m::v).Nodup:=a0.imp λh=>h.1;have Y:=zca.1 C0;have B0:m∉v:=(zd6.1 Y.2.1).1;have z0:m∉u:=λh=>Y.2.2 m h m (by simp) rfl;have r0: ∀x∈u++v,x≠m:=λx N e=>by
   subst e;rcases za8.1 N with h|h
   ·exact z0 h
   ·exact B0 h
  obtain⟨o,t,d,cs,ho,_⟩:=p2.made;have i0:=iQ Z ho u A h V.fr.toOS V.nx Y.1 (λx N=>⟨m0 x N,p4 x (by simp[N]),hh x (by simp[N]), .inl rfl⟩) hm;simp only[n5,ho] at i0;obtain⟨ef,rd,wr,A',β',k1,k2,k3,k4,k5⟩:=agu ho i0 V p2 p3 p5;obtain⟨_,k1⟩:=Xg.1 k1;have mem: ∀x,x∈u++v↔x∈u++m::v/\x≠m:=λx=>by
   constructor
   ·intro N;refine⟨?_,r0 x N⟩;rcases za8.1 N with h|h
    ·exact zbI _ h
    ·exact zb1 _ (zan _ h)
   ·rintro⟨N,I0⟩;rcases za8.1 N with h|h
    ·exact zbI _ h
    ·rcases zai.1 h with h|h
     ·exact absurd h I0
     ·exact zb1 _ h
  obtain⟨J,A2,L0,h2,r1,r2,r3,r4,r5,r6,r7⟩:=ab7 Z H (u++v) A' β' _ o0 q0 (λp e0=>by
   obtain⟨q1,q2,q3,q4,q5⟩:=hp p (zan _ e0);have H0:p.1≠m:=λe=>y0 (by rw[<-e];exact List.mem_map_of_mem e0);have E0:p.2≠b:=λe=>x0 (by rw[<-e];exact List.mem_map_of_mem e0);refine⟨(mem p.1).2 ⟨q1,H0⟩,q2,q3,λx N=>q4 x ((mem x).1 N).1,λi C hC hk v0=> ?_⟩;by_cases hA:A.bl i=some C
   ·rw[k5 i (by rw[hA];simp)] at v0 ⊢;exact q5 i C hA hk v0
   ·rw[k4 i C hC hA];exact Ne.symm E0) w0 (λx N=>by
   rw[jx (r0 x N)]
   exact hh x ((mem x).1 N).1) k1 k2 (g0.trans k3)
  refine⟨J,A2,L0,h2,r1,r2,r3,r4,r5,λx=> ?_, ?_⟩
  ·rw[r6,mem];simp only[zaK,zai,not_or];exact⟨λ⟨⟨h1,h2⟩,h3⟩=>⟨h1,h2,h3⟩,λ⟨h1,h2,h3⟩=>⟨⟨h1,h2⟩,h3⟩⟩
  ·simp only[za3,za4] at r7 ⊢;omega
theorem adY (Y:ops.toList[i]? =some o) (V:jY ops listed) (H: ∀e∈o.after,Region.binds .any e=true->listed.getD e.on false=true):jY ops (listed.setIfInBounds i true):=by
 intro j hj o' J e he Z;by_cases N:j=i
 ·subst N;rw[Y] at J;obtain rfl:o=o':=by simpa using J
  exact getD_set_true (H e (by simpa using he) Z)
 ·rw[getD_set_ne false (Ne.symm N)] at hj;exact getD_set_true (V j hj o' J e he Z)
theorem ae4: ∀{l r:zdI},l.Nodup->(∀x∈l,x∈r)->l.length<=r.length
 | [],r,_,_=>zaA _
 |x::l,r,N,H=>by
  obtain⟨h1,h2⟩:=zd6.1 N;have h3:=ae4 (l:=l) (r:=r.erase x) h2 λy J=>(List.mem_erase_of_ne (λe=>h1 (by rw[<-e];exact J))).2 (H y (zan _ J));have h4:=List.length_erase_of_mem (H x (by simp));have h5:=List.length_pos_of_mem (H x (by simp));simp only[za4];omega
def uW (B:Base) (w:World) (N:Obj):Base where
 w:=w.alloc N
 S:=λk=>(Nat.ble B.w.heap.size k||B.S k)&&Nat.blt k w.heap.size&& !B.F k
 sd:=B.sd
 F:=λk=>(B.F k&&Nat.blt k w.heap.size)||Nat.beq k w.heap.size
 hF:=λb J=>by
  have H:(w.alloc N).heap.size=w.heap.size+1:=by simp[World.alloc_eq]
  simp only[zav,za2,aB,bS,zdt] at J;rw[H];refine⟨by omega, ?_⟩;rcases J with ⟨h1,_⟩|h1
  ·simp[h1]
  ·subst h1;rw[aB,zds (by omega)];simp
variable {M C:zdI}
theorem aew (hΓ:GamOK P W0 Γ) (j1: ∀B,SubB B W0->kn P B inl) (q0:cF inl) (C0:mJ ops=true) (L:LateOK P ops M C) {K:zdS} 
 (n2: ∀m∈M,∀o d,ops.toList[m]? =some o->o.dst=some d->d<A0.nt)
 (hP: ∀v A' a' w' β',KP v A'->Is W0 A' β' a' w'->Trs A0 β0 A' β'->Q (pex v) a' w') (hQ: ∀A' a' w' β',K A'->Is W0 A' β' a' w'->Trs A0 β0 A' β'->Q .normal a' w'):
 ∀(Y:Nat) (listed:Array Bool) (rem:zdI) (H:List (Nat×Nat)) (B:Base) (A:AS) (a:Act) (w:World) (β:zdJ) (h:Nat->Option Hst),listed.size=ops.size->rem.length<=Y+H.length->rem.Pairwise (aht ops pre M C)->
  (∀x,x∈rem↔x<ops.size/\(listed.getD x true=false\/x∈H.map (·.1)))->jY ops listed->(∀x∈rem,h x=none)->(H.map (·.1)).Nodup->(H.map (·.2)).Nodup->
  (∀p∈H,p.1∈M/\p.1<ops.size/\listed.getD p.1 true=true/\Pend P ops a w p.1 p.2/\W0.mine p.2/\B.F p.2=true)->SubB B W0->(∀b,B.out b->W0.out b)->B.sd=W0.sd->
  (∀d,(∃m o,m∈M/\m∈rem/\ops.toList[m]? =some o/\o.dst=some d)->FreeS A d)->
  n5 P Γ inl ops pre false noP KP rem A h K->Is B A β a w->Trs A0 β0 A β->wpAny P .any ops Q Y listed a w:=by
 intro Y;have N0: ∀(listed:Array Bool) (H:List (Nat×Nat)) (B:Base) (a:Act) (w:World) (c:Nat),(∀p∈H,p.1∈M/\p.1<ops.size/\listed.getD p.1 true=true/\Pend P ops a w p.1 p.2/\W0.mine p.2/\B.F p.2=true)->c∉M->c∉H.map (·.1):=by
  intro listed H B a w c hp hc hm;obtain⟨p,J,rfl⟩:=zaz.1 hm;exact hc (hp p J).1
 have done: ∀(Y:Nat) (listed:Array Bool) (rem:zdI) (H:List (Nat×Nat)) (B:Base) (A:AS) (a:Act) (w:World) (β:zdJ) (h:Nat->Option Hst),listed.size=ops.size->rem.length<=Y+H.length->rem.Pairwise (aht ops pre M C)->
  (∀x,x∈rem↔x<ops.size/\(listed.getD x true=false\/x∈H.map (·.1)))->jY ops listed->(∀x∈rem,h x=none)->(H.map (·.1)).Nodup->(H.map (·.2)).Nodup->
  (∀p∈H,p.1∈M/\p.1<ops.size/\listed.getD p.1 true=true/\Pend P ops a w p.1 p.2/\W0.mine p.2/\B.F p.2=true)->SubB B W0->(∀b,B.out b->W0.out b)->B.sd=W0.sd->
  n5 P Γ inl ops pre false noP KP rem A h K->Is B A β a w->Trs A0 β0 A β->(¬ ∃c∈C,c∈rem)->wpAny P .any ops Q Y listed a w:=by
  intro Y listed rem H B A a w β h m0 o0 w0 N n0 hh v0 z0 hp Z a0 e0 hm V r0 m2;have M0:rem.Pairwise (Rel ops pre):=w0.imp_of_mem λ{x y} hx hy h=>by
   rcases h.2 with ⟨_,hc⟩|h
   ·exact absurd ⟨x,hc,hx⟩ m2
   ·exact h
  obtain⟨K1,A',β',h',r1,r2,r3,r4,r5,r6,r7⟩:=ab7 (W0:=W0) q0 H rem A β h v0 z0 (λp J=>by
   obtain⟨q1,q2,q3,q4,q5,q6⟩:=hp p J;refine⟨(N p.1).2 ⟨q2, .inr (List.mem_map_of_mem J)⟩,q4,q5,λx hx=> ?_,λi X hX hk l2 e=> ?_⟩
   ·rcases((N x).1 hx).2 with hu|g0
    ·cases hb:bK ops.toList ops.size p.1 x with
     |false=>rfl
     |true=>
      exfalso;have z2:=((N x).1 hx).1;have v2:p.1<listed.size:=by omega
      have p2:listed.getD p.1 false=true:=by simp[Array.getD,v2] at q3 ⊢;exact q3
      have hl:=mz n0 _ p.1 x (by simp) (λo' Z0 e he S1=>n0 p.1 p2 o' (by simpa using Z0) e he S1) hb;have y2:x<listed.size:=by omega
      simp[Array.getD,y2] at hu hl;rw[hu] at hl;cases hl
    ·obtain⟨p',D1,e⟩:=zaz.1 g0;rw[<-e];exact L.free p.1 q1 p'.1 (hp p' D1).1
   ·have h1:=V.bc.own i X hX hk l2;rw[e] at h1;obtain⟨f1,f2⟩:=B.hF p.2 q6;rcases h1 with h1|h1
    ·omega
    ·rw[f2] at h1;cases h1) M0 hh hm (V.up Z a0 e0) r0
  refine pi (m:=false) (KN:=noP) hΓ (j1 W0 (SubB.refl W0)) q0 C0 (λ_ _ _ _ _ h=>h.elim) hP hQ Y listed K1 A' a w β' h' m0 (by omega) (acH r4) (λx=> ?_) n0 r5 r1 r2 r3;rw[r6,N];constructor
  ·rintro⟨⟨h1,h2|h2⟩,h3⟩
   ·exact⟨h1,h2⟩
   ·exact absurd h2 h3
  ·rintro⟨h1,h2⟩;refine⟨⟨h1, .inl h2⟩,λg0=> ?_⟩;obtain⟨p,J,rfl⟩:=zaz.1 g0;rw[(hp p J).2.2.1] at h2;cases h2
 induction Y with
 |zero=>
  intro listed rem H B A a w β h m0 o0 w0 N n0 hh v0 z0 hp Z a0 e0 p0 hm V r0;by_cases hc: ∃c∈C,c∈rem
  ·exfalso;obtain⟨c,Q0,R0⟩:=hc
   have h1:=ae4 (l:=c::H.map (·.1)) (r:=rem) (zd6.2 ⟨N0 listed H B a w c hp (L.cm c Q0),v0⟩) (λx hx=>by
    rcases zai.1 hx with rfl|hx
    ·exact R0
    ·obtain⟨p,J,rfl⟩:=zaz.1 hx
     exact(N p.1).2 ⟨(hp p J).2.1, .inr (List.mem_map_of_mem J)⟩)
   simp at h1 o0;omega
  ·exact done 0 listed rem H B A a w β h m0 o0 w0 N n0 hh v0 z0 hp Z a0 e0 hm V r0 hc
 |succ Y ih=>
  intro listed rem H B A a w β h m0 o0 w0 N n0 hh v0 z0 hp Z a0 e0 p0 hm V r0;by_cases hc: ∃c∈C,c∈rem
  case neg=>exact done (Y+1) listed rem H B A a w β h m0 o0 w0 N n0 hh v0 z0 hp Z a0 e0 hm V r0 hc
  obtain⟨c,Q0,R0⟩:=hc;have H0:c<ops.size/\listed.getD c true=false:=by
   obtain⟨h1,h2|h2⟩:=(N c).1 R0
   ·exact⟨h1,h2⟩
   ·exact absurd h2 (N0 listed H B a w c hp (L.cm c Q0))
  refine⟨λhr=> ?_,λi hi=> ?_⟩
  ·exfalso
   have:=vj C0 m0 (rem:=rem.filter λx=> !listed.getD x true) (λx=>by
    rw[List.mem_filter,N];constructor
    ·rintro⟨⟨h1,_⟩,h2⟩;exact⟨h1,by simpa using h2⟩
    ·rintro⟨h1,h2⟩
     exact⟨⟨h1, .inl h2⟩,by simp[h2]⟩) hr
   have z1:c∈rem.filter λx=> !listed.getD x true:=List.mem_filter.2 ⟨R0,by simp[H0.2]⟩;rw[this] at z1;cases z1
  ·obtain⟨v1,o,ho,x0⟩:=mem_ready.1 hi;have U0:i<ops.size:=(zaq.1 ho).1;have i0:ops.toList[i]? =some o:=by simpa using ho
   have A1:i∈rem:=(N i).2 ⟨U0, .inl v1⟩;have Y0:i∉H.map (·.1):=λg0=>by
    obtain⟨p,J,e⟩:=zaz.1 g0;have:=(hp p J).2.2.1;rw[e,v1] at this;cases this
   have c1:=adY i0 n0 x0;have n1:(listed.setIfInBounds i true).getD i true=true:=by simp[Array.getD,m0,U0]
   by_cases y0:i∈M
   ·obtain⟨o',t,d,cs,g1,g2,g3,g4,g5⟩:=L.made i y0;rw[i0] at g1;obtain rfl:o=o':=by simpa using g1
    unfold wpOp;simp only[ho];rw[if_pos (by simp[Region.wanted,g2])];left;unfold Oper.wp;obtain⟨k1,k2⟩:=adg (P:=P) (a:=a) (w:=w) g3 g5;rw[k1,Oper.upon_value];have E1:(w.alloc (.cells (SV.concs oj cs).toArray t)).heap.size=w.heap.size+1:=by simp[World.alloc_eq]
    have R1:(w.alloc (.cells (SV.concs oj cs).toArray t)).heap[w.heap.size]? =some (.cells (SV.concs oj cs).toArray t (0,0)):=by show (w.heap.push _)[w.heap.size]? =_;simp
    have E0:Below w.heap.size w (w.alloc (.cells (SV.concs oj cs).toArray t)):=(zdD _ _).alloc (za0 _) _;have L1:B.w.heap.size<=w.heap.size:=V.bc.below.size;have O1:FreeS A d:=p0 d ⟨i,o,y0,A1,i0,g4⟩;have x1: ∀p∈H,p.2<w.heap.size:=λp J=>by
     obtain⟨_,_,_,_,_,_,_,_,_,q,_⟩:=(hp p J).2.2.2.1.made;exact(zaq.1 q).1
    have I1: ∀j X,A.bl j=some X->X.kd≠ .gone->(β j).nil=false->(β j).blk<w.heap.size:=λj X hX hk hn=>(V.bc.blk j X hX hk).lt hn;refine ih (listed.setIfInBounds i true) rem ((i,w.heap.size)::H) (uW B w (.cells (SV.concs oj cs).toArray t)) A _ _ β h (by simp[m0]) (by simp;omega) w0 (λx=> ?_) c1 hh (by simp only[zaK];exact zd6.2 ⟨Y0,v0⟩)
     (by
       simp only[zaK];refine zd6.2 ⟨λg0=> ?_,z0⟩;obtain⟨p,J,e⟩:=zaz.1 g0;have:=x1 p J
       omega) (λp J=> ?_) ⟨?_, ?_⟩ ?_ e0 p0 hm ⟨?_, ?_,V.nx,V.sd⟩ r0
    ·rw[N];simp only[zaK,zai];by_cases B0:x=i
     ·subst B0;simp[U0,v1]
     ·rw[getD_set_ne true (Ne.symm B0)];simp[B0]
    ·rcases zai.1 J with rfl|J
     ·refine⟨y0,U0,n1,⟨⟨o,t,d,cs,i0,g2,g3,g4,g5,R1, ?_⟩⟩, .inl (zac Z.1.size L1), ?_⟩
      ·rw[g4];have T1:d<a.tmps.size:=by
        rw[V.fr.size,r0.nt];exact n2 i y0 o d i0 g4
       simp[Act.put,T1]
      ·simp[uW,bS]
     ·obtain⟨q1,q2,q3,⟨q4⟩,q5,q6⟩:=hp p J;obtain⟨o2,t2,d2,p1,s1,s2,s3,s4,s5,s6,s7⟩:=q4;have a1:p.1≠i:=λe=>Y0 (by rw[<-e];exact List.mem_map_of_mem J);refine⟨q1,q2,by rw[getD_set_ne true (Ne.symm a1)];exact q3,⟨⟨o2,t2,d2,p1,s1,s2,s3,s4,s5, ?_, ?_⟩⟩,q5, ?_⟩
      ·rw[E0.block _ (x1 p J)];exact s6
      ·rw[ee _ _ _ (λe=>L.two p.1 q1 i y0 a1 o2 o s1 i0 (by rw[s4];exact e.symm))];exact s7
      ·have:=x1 p J;simp[uW,q6,aB,this]
    ·exact(Z.pres V.bc.below).step E0
    ·intro b hb;simp only[uW,za2,zav,Nat.ble_eq] at hb
     exact Z.mine (by
      rcases hb.1.1 with h1|h1
      ·exact .inl h1
      ·exact .inr h1)
    ·intro b hb;obtain⟨b1,b2⟩:=hb;refine a0 b ?_;simp only[uW,zbs,bS,zdz] at b2;have m1:b<w.heap.size:=by
      rcases zah b w.heap.size with h1|h1
      ·exact h1
      ·exfalso;refine b1 (.inl ?_);show (w.alloc _).heap.size<=b;rw[E1];have:=b2.2;omega
     have O0:B.F b=false:=by
      have:=b2.1;rw[aB,zdp m1] at this;simpa using this
     refine⟨λg0=>b1 (.inr ?_),O0⟩;simp only[uW,za2,zav,Nat.ble_eq,aB,zdt,O0];exact⟨⟨g0,m1⟩,rfl⟩
    ·rw[g4];exact V.fr.putFree O1 _
    ·refine(V.bc.step E0).rebase (Pres.self _) (λj X hX hk hn I0=> ?_) (λj X hX hk hn Z0=> ?_)
     ·have hl:=I1 j X hX (by rcases hk with hk|hk<;>intro e<;>rw[e] at hk<;>cases hk) hn;refine .inr ?_;have O0:B.F (β j).blk=false:=by
       cases N1:B.F (β j).blk with
       |false=>rfl
       |true=>
        obtain⟨f1,f2⟩:=B.hF _ N1;rcases I0 with h1|h1
        ·omega
        ·rw[f2] at h1;cases h1
      simp only[uW,za2,zav,Nat.ble_eq,aB,zdt,O0];exact⟨⟨I0,hl⟩,rfl⟩
     ·have hl:=I1 j X hX (by rw[hk];simp) hn;refine⟨λg0=> ?_, ?_⟩
      ·rcases g0 with h1|h1
       ·have:(w.alloc (.cells (SV.concs oj cs).toArray t)).heap.size<=(β j).blk:=h1;omega
       ·simp only[uW,za2,zav,Nat.ble_eq] at h1;exact Z0.1 h1.1.1
      ·simp only[uW,Z0.2,Bool.false_and,zbi,bS,zdz];omega
   ·obtain⟨u,v,rfl⟩:=zcg A1;obtain⟨C1,M0⟩:=sH w0;have j2:(u++i::v).Nodup:=w0.imp λh=>h.1;have L0:=zca.1 j2;have X1:i∉v:=(zd6.1 L0.2.1).1;have W1:i∉u:=λh=>L0.2.2 i h i (by simp) rfl;have mem: ∀x,x∈u++v↔x∈u++i::v/\x≠i:=λx=>by
     constructor
     ·intro hx;rcases za8.1 hx with h|h
      ·exact⟨zbI _ h,λe=>W1 (e▸h)⟩
      ·exact⟨zb1 _ (zan _ h),λe=>X1 (e▸h)⟩
     ·rintro⟨hx,x2⟩;rcases za8.1 hx with h|h
      ·exact zbI _ h
      ·rcases zai.1 h with h|h
       ·exact absurd h x2
       ·exact zb1 _ h
    have u1: ∀m∈M,bK ops.toList ops.size i m=false/\ ∃om,ops.toList[m]? =some om/\Oper.apart ops om o=true:=by
     rcases L.use i o y0 i0 with h1|h1
     ·have:=h1 c Q0;rw[la n0 i0 x0 m0 H0.1 H0.2] at this;cases this
     ·exact h1
    have B1:=iQ q0 i0 u A h V.fr.toOS V.nx L0.1 (λx hx=>by
     refine⟨?_, ?_,hh x (by simp[hx]), .inl rfl⟩
     ·rcases(C1 x hx).2 with ⟨h1,_⟩|h1
      ·exact absurd h1 y0
      ·exact h1
     ·rcases((N x).1 (by simp[hx])).2 with h1|h1
      ·exact la n0 i0 x0 m0 ((N x).1 (by simp[hx])).1 h1
      ·obtain⟨p,J,rfl⟩:=zaz.1 h1
       exact(u1 p.1 (hp p J).1).1) hm
    simp only[n5,i0] at B1
    have i2:=ags q0 V.nx B1 (F:=λd=> ∃m om,m∈M/\m∈u++i::v/\ops.toList[m]? =some om/\om.dst=some d) (λd hd=>by
     obtain⟨m,om,d1,d2,d3,d4⟩:=hd;obtain⟨_,w1,e1,e2⟩:=u1 m d1;rw[d3] at e1;obtain rfl:om=w1:=by simpa using e1
     obtain⟨s1,s2,_⟩:=Oper.apart_spec e2
     exact⟨p0 d ⟨m,om,d1,d2,d3,d4⟩,s2 d d4,s1 d d4⟩)
    have y1: ∀a' w',(∃ef rd wr A' β',(af (okM ops pre h i ef rd wr&&ckM false ops i ef) (n5 P Γ inl ops pre false noP KP (u++v) A' (dc h i ⟨ef,rd,wr,bif ef then A.nx else 0⟩) K)/\ ∀d,(∃m om,m∈M/\m∈u++i::v/\ops.toList[m]? =some om/\om.dst=some d)->FreeS A' d)/\Is B A' β' a' w'/\Trs A β A' β')->(∀t,o.dst≠some t->a'.tmps.getD t undef=a.tmps.getD t undef)->wpAny P .any ops Q Y (listed.setIfInBounds i true) a' w':=by
     rintro a' w' ⟨ef,rd,wr,A',β',⟨hk,U1⟩,l1,H1⟩ w2;obtain⟨_,hk⟩:=Xg.1 hk;refine ih (listed.setIfInBounds i true) (u++v) H B A' a' w' β' _ (by simp[m0]) (by simp at o0 ⊢;omega) M0 (λx=> ?_) c1 (λx hx=> ?_) v0 z0 (λp J=> ?_) Z a0 e0 (λd hd=> ?_) hk l1 (r0.trans H1)
     ·rw[mem,N];by_cases B0:x=i
      ·subst B0;simp only[ne_eq,not_true_eq_false,and_false,false_iff,not_and,not_or];exact λ_=>⟨by rw[n1];simp,Y0⟩
      ·rw[getD_set_ne true (Ne.symm B0)];simp[B0]
     ·rw[jx ((mem x).1 hx).2];exact hh x ((mem x).1 hx).1
     ·obtain⟨q1,q2,q3,⟨q4⟩,q5,q6⟩:=hp p J;obtain⟨o2,t2,d2,p1,s1,s2,s3,s4,s5,s6,s7⟩:=q4;have a1:p.1≠i:=λe=>Y0 (by rw[<-e];exact List.mem_map_of_mem J);obtain⟨_,w1,e1,e2⟩:=u1 p.1 q1;rw[s1] at e1;obtain rfl:o2=w1:=by simpa using e1
      obtain⟨_,a2,_⟩:=Oper.apart_spec e2;obtain⟨f1,f2⟩:=B.hF p.2 q6;refine⟨q1,q2,by rw[getD_set_ne true (Ne.symm a1)];exact q3,⟨⟨o2,t2,d2,p1,s1,s2,s3,s4,s5, ?_, ?_⟩⟩,q5,q6⟩
      ·rw[l1.bc.below.block _ f1 f2,<-V.bc.below.block _ f1 f2];exact s6
      ·rw[w2 d2 (a2 d2 s4)];exact s7
     ·obtain⟨m,om,d1,d2,d3,d4⟩:=hd;exact U1 d ⟨m,om,d1,((mem m).1 d2).1,d3,d4⟩
    have k:=lL (W0:=B) (hΓ.sub Z) (j1 B Z) i2 V (Q:=Q) (KK:=λa' w'=> ∃ef rd wr A' β',(af (okM ops pre h i ef rd wr&&ckM false ops i ef) (n5 P Γ inl ops pre false noP KP (u++v) A' (dc h i ⟨ef,rd,wr,bif ef then A.nx else 0⟩) K)/\ ∀d,(∃m om,m∈M/\m∈u++i::v/\ops.toList[m]? =some om/\om.dst=some d)->FreeS A' d)/\Is B A' β' a' w'/\Trs A β A' β')
     (λv' A' a' w' β' hk r1 r2=>by
       cases hl:qE ops i with
       |true=>rw[hl] at hk;exact hP v' A' a' w' β' hk (r1.up Z a0 e0) (r0.trans r2)
       |false=>rw[hl] at hk;exact hk.elim) (λef rd wr A' a' w' β' hk r1 r2=>⟨ef,rd,wr,A',β',hk,r1,r2⟩)
    unfold wpOp;simp only[ho];by_cases hw:Region.wanted o (yielded ops a.tmps)=true
    ·rw[if_pos hw] at k ⊢;exact .inl (Oper.wp_mono (λa' w' ⟨h1,h2⟩=>y1 a' w' h1 h2) (agt k))
    ·rw[if_neg hw] at k ⊢;exact y1 _ _ k (λt ht=>ee _ _ _ ht)
theorem acx {m:Nat} (h:atF ops (adB P) m=true): ∃o t d cs,ops.toList[m]? =some o/\o.guard=none/\o.op= .alloc t/\o.dst=some d/\xX P t=some cs:=by
 unfold atF at h;split at h
 ·rename_i o J;unfold adB at h;split at h
  ·rename_i t d h1 h2 h3;obtain⟨cs,H⟩:=Option.isSome_iff_exists.1 h;exact⟨o,t,d,cs,J,h1,h2,h3,H⟩
  ·cases h
 ·cases h
theorem afI (h:aiV ops pre M C x y=true):aht ops pre M C x y:=by
 unfold aiV at h;simp only[za2,zav,zap,bS,zdt,zdz,aB,Wo] at h;obtain⟨h1,h4⟩:=h;refine⟨h4, ?_⟩;rcases h1 with ⟨h1,h2⟩|⟨⟨h1,h2⟩,h3⟩
 ·exact .inl ⟨h1,h2⟩
 ·exact .inr ⟨h4,h1,λh=>(by rw[Wo.2 h] at h2;cases h2),h3⟩
theorem agv (h:okL P ops A L M C=true):L.Pairwise (aht ops (aiU L M C) M C)/\(∀x,x∈L↔x<ops.size)/\L.length<=ops.size/\LateOK P ops M C/\ ∀m∈M,∀o d,ops.toList[m]? =some o->o.dst=some d->A.ok d=false/\d<A.nt:=by
 unfold okL at h;simp only[za2] at h;obtain⟨⟨⟨⟨⟨⟨h1,h2⟩,h3⟩,h4⟩,h5⟩,h6⟩,h7⟩:=h;simp only[zaf,zaC,aB,zdt,Wo,zav,za2,zap,bS] at h2 h3 h5 h6 h7;have hU: ∀m∈M,∀i,acP ops M i=false->bK ops.toList ops.size i m=false:=λm H i hi=>by
  cases hb:bK ops.toList ops.size i m with
  |false=>rfl
  |true=>
   have:acP ops M i=true:=zaP.2 ⟨m,H,hb⟩;rw[hi] at this;cases this
 refine⟨Ch (λ_ _=>afI) h1,λx=>⟨λhx=>h2 x hx,λhx=>h3 x hx⟩,zak h4,⟨λi o hi N=> ?_,λm H=>acx (h6 m H).1.1.2,λm H m' J=>hU m' J m (h6 m H).1.1.1,λm H m' J e0 o o' N g0 e=> ?_,λc Z H=> ?_⟩,λm H o d N hd=> ?_⟩
 ·rcases h5 i (kW N) with h|h
  ·exact absurd h hi
  ·cases hu:acP ops M i with
   |true=>rw[hu] at h;exact .inl (λc Z=>zaf.1 h c Z)
   |false=>
    rw[hu] at h;refine .inr λm H=>⟨hU m H i hu, ?_⟩;obtain⟨a,b,e1,V,Y⟩:=GL (zaf.1 h m H);rw[N] at V;obtain rfl:o=b:=by simpa using V
    exact⟨a,e1,Y⟩
 ·rcases(h6 m H).1.2 m' J with h|h
  ·exact e0 h
  ·obtain⟨a,b,e1,V,Y⟩:=GL h;rw[N] at e1;rw[g0] at V;obtain rfl:o=a:=by simpa using e1
   obtain rfl:o'=b:=by simpa using V
   obtain⟨_,_,_,_,g1,_,_,g4,_⟩:=acx (h6 m H).1.1.2;rw[N] at g1;simp only[za1] at g1;subst g1;exact(Oper.apart_spec Y).2.1 _ g4 (e▸g4)
 ·have:=h7 c Z;rw[Wo.2 H] at this;cases this
 ·have:=(h6 m H).2;have a0:aer ops m=some d:=by simp only[aer,N,zcF,hd]
  rw[a0] at this;simpa [aB] using this
theorem ab8 (A:AS) (l:zdT) (t:Nat):(acw A l).tm t= .dead\/(acw A l).tm t=A.tm t:=by
 show (bif l.any (isD t) then TV.dead else A.tm t)=TV.dead\/(bif l.any (isD t) then TV.dead else A.tm t)=A.tm t;cases l.any (isD t)
 ·exact .inr rfl
 ·exact .inl rfl
theorem aex {l:zdT} {d:Nat} (h:some d∈l):(acw A l).tm d= .dead:=by
 show (bif l.any (isD d) then TV.dead else A.tm d)=TV.dead;rw[show l.any (isD d)=true from zaP.2 ⟨some d,h,by simp[isD,bS]⟩];rfl
theorem agw (h:Is W0 A β a w) (l:zdT):Is W0 (acw A l) β a w:=by
 refine⟨⟨h.fr.defers,h.fr.size,λt s H=> ?_,λt u b s H=> ?_,λt u b s H=> ?_⟩,h.bc,h.nx,h.sd⟩
 ·rcases ab8 A l t with e|e
  ·rw[e] at H;cases H
  ·rw[e] at H;exact h.fr.v t s H
 ·rcases ab8 A l t with e|e
  ·rw[e] at H;cases H
  ·rw[e] at H;exact h.fr.opt t u b s H
 ·rcases ab8 A l t with e|e
  ·rw[e] at H;cases H
  ·rw[e] at H;exact h.fr.os t u b s H
theorem ahu (h:Is W0 A β a w):Is W0 (acO A) β a w:=
 ⟨⟨h.fr.defers,h.fr.size,(λt s H=>by cases H),(λt u b s H=>by cases H),(λt u b s H=>by cases H)⟩,h.bc,h.nx,h.sd⟩
theorem agx (h:okS ops L=true) (Y: ∀v A',KN v A'↔KN v (acO A')):L.Pairwise (aiY true KN ops (aiW L))/\(∀x,x∈L↔x<ops.size)/\L.length<=ops.size:=by
 unfold okS at h;simp only[za2] at h;obtain⟨⟨⟨h1,h2⟩,h3⟩,h4⟩:=h;simp only[zaf,zaC,aB,zdt,Wo] at h2 h3;refine⟨Ch (λx y h=> ?_) h1,λx=>⟨λJ=>h2 x J,λJ=>h3 x J⟩,zak h4⟩;unfold akd at h;simp only[za2,zav,zap,bS,zdt,zdz,Wo] at h;obtain⟨⟨⟨⟨k1,k2⟩,k3⟩,V⟩,H⟩:=h;refine⟨⟨V,k1,λh=>(by first|exact k2 h|(rw[Wo.2 h] at k2;cases k2)), .inr k3⟩, ?_⟩;cases N:bK ops.toList ops.size y x with
 |true=>exact .inl rfl
 |false=>
  rw[N] at H;rcases H with H|⟨H,Z⟩
  ·cases H
  ·exact .inr (.inr ⟨Y,H,rfl,by unfold Du;rw[k3,N,bS,zds V];rfl,Z⟩)
theorem Aq (hΓ:GamOK P W0 Γ) (o0:P.follows .mixedOrders=true) (V: ∀B,SubB B W0->kn P B inl) (J:cF inl) {rid:Nat} (H:mJ ops=true) {K:zdS} 
 (hm:Gm P Γ inl ops KP A K) (hs:Is W0 A β a w) (hP: ∀v A' a' w' β',KP v A'->Is W0 A' β' a' w'->Trs A β A' β'->Q (pex v) a' w') (hQ: ∀A' a' w' β',K A'->Is W0 A' β' a' w'->Trs A β A' β'->Q .normal a' w'):(Code.region rid ops true).wp P Q a w:=by
 refine wp_region_any o0 ?_;have i0:Below w.heap.size w {w with drawn:=w.drawn+1}:=(zdD _ _).drew;have e0:Is W0 A β a {w with drawn:=w.drawn+1}:=⟨hs.fr,hs.bc.step i0,hs.nx,hs.sd⟩;have N:jY ops (Array.replicate ops.size false):=by
  intro i hi;exfalso;simp[Array.getD] at hi
 have a0: ∀x,x<ops.size↔x<ops.size/\(Array.replicate ops.size false).getD x true=false:=by
  intro x;simp[Array.getD]
 unfold Gm at hm;split at hm
 ·split at hm
  case h_2=>
   rename_i m M hM;obtain⟨Z,hm⟩:=Xg.1 hm;obtain⟨p1,p2,p3,p4,p5⟩:=agv Z;refine aew hΓ V J H p4 (A0:=acw A ((m::M).map (aer ops))) (λx hx o d ho hd=>(p5 x hx o d ho hd).2) (λv A' a' w' β' Z h1 h2=>hP v A' a' w' β' Z h1 ⟨h2.tr,h2.wl,h2.nx,h2.nt⟩) (λA' a' w' β' Z h1 h2=>hQ A' a' w' β' Z h1 ⟨h2.tr,h2.wl,h2.nx,h2.nt⟩)
    ops.size _ _ [] W0 _ a _ β (λ_=>none) (by simp) (by simpa using p3) p1 (λx=>by rw[p2,a0 x];simp) N (λ_ _=>rfl) (by simp) (by simp) (λp hp=>by cases hp) (SubB.refl W0) (λb h=>h) rfl (λd hd=> ?_) hm (agw e0 _) (Trs.refl _ _)
   obtain⟨x,o,d1,d2,d3,d4⟩:=hd;refine⟨aex (zaz.2 ⟨x,d1,by simp only[aer,d3,zcF,d4]⟩),λt u b s ht e=> ?_⟩;rcases ab8 A ((m::M).map (aer ops)) t with e2|e2
   ·rw[e2] at ht;cases ht
   ·rw[e2] at ht;have:=(e0.fr.os t u b s ht).2;rw[e,(p5 x d1 o d d3 d4).1] at this;cases this
  split at hm
  case h_2=>
   obtain⟨Z,hm⟩:=Xg.1 hm;have g0: ∀v A',(λv A'=>KP v (acO A')) v A'↔(λv A'=>KP v (acO A')) v (acO A'):=λv A'=>Iff.rfl;obtain⟨p1,p2,p3⟩:=agx Z g0;refine pi (m:=true) hΓ (V W0 (SubB.refl W0)) J H (λv A' a' w' β' Z h1 h2=>hP v (acO A') a' w' β' Z (ahu h1) ⟨h2.tr,h2.wl,h2.nx,h2.nt⟩) hP hQ ops.size _ _ A a _ β (λ_=>none) (by simp) p3 p1 (λx=>(p2 x).trans (a0 x)) N (λ_ _=>rfl) hm e0 (Trs.refl _ _)
  refine pi (m:=false) (KN:=noP) hΓ (V W0 (SubB.refl W0)) J H (λ_ _ _ _ _ h=>h.elim) hP hQ ops.size _ (List.range ops.size) A a _ β (λ_=>none) (by simp) (by simp) (acH<|List.pairwise_lt_range.imp λ{x y} h=>⟨by omega,zaC.2 h,λh'=>by have:=zaC.1 h';omega, .inl h⟩) ?_ N (λ_ _=>rfl) hm e0 (Trs.refl _ _);intro x;rw[zaC];exact a0 x
 ·rename_i c d Y;obtain⟨Z,m0,n0⟩:=Xg.1 hm;simp only[za2] at Z;obtain⟨p1,p2,p3⟩:=yn Z.1;obtain⟨q1,q2,q3⟩:=yn Z.2;have Y:Gk ops=some (c,d):=by
   unfold aiC at Y;split at Y
   ·cases Y
   ·exact Y
  obtain⟨s1,s2,s3,s4⟩:=Ap Y;exact DZ hΓ (V W0 (SubB.refl W0)) J H s3 s4 hP hQ ops.size _ _ _ A a _ β (λ_=>none) (by simp) p3 q3 ((p2 c).2 s1) ((p2 d).2 s2) p1 q1 (λx=>(p2 x).trans (a0 x)) (λx=>(q2 x).trans (a0 x)) N (λ_ _=>rfl) m0 n0 e0 (Trs.refl _ _)
end
section
variable {P:Program} {W0:Base}
theorem vk: ∀{l:List (Nat×SV)} {t:Nat} {s:SV},x6 l t= .v s->(t,s)∈l
 | [],t,s,h=>by simp[x6] at h
 |(u,r)::l,t,s,h=>by
  simp only[x6] at h;cases H:Nat.beq t u with
  |true=>
   rw[H] at h;simp only[zdr,TV.v.injEq] at h;rw[zab H,h];simp
  |false=>rw[H] at h;exact zan _ (vk h)
theorem YC {A:AS} {t:Nat} {s:SV} (h:A.tm t= .v s): ∀{ks:zdI},ks.any (Nat.beq t)=true->(t,s)∈adf A ks
 | [],h0=>by simp at h0
 |u::r,h0=>by
  simp only[zcQ,zav] at h0;unfold adf;rcases h0 with h1|h1
  ·have:=zab h1;subst this;rw[h];simp
  ·have H:=YC h (ks:=r) h1;split
   ·exact zan _ H
   ·exact H
variable {A:AS} {l:List (Nat×SV)} {ks:zdI} {t:Nat} {s:SV}
theorem D3 (h:x7 A l ks t= .v s):(t,s)∈l++adf A ks:=by
 unfold x7 at h;split at h
 ·rename_i J h1;simp only[TV.v.injEq] at h;subst h;exact zbI _ (vk h1)
 ·cases H:ks.any (Nat.beq t) with
  |false=>rw[H] at h;simp at h
  |true=>
   rw[H] at h;simp only[zdr] at h;split at h
   ·rename_i J h2;simp only[TV.v.injEq] at h;subst h;exact zb1 _ (YC h2 H)
   ·cases h
theorem aur {u:Nat} {b:Bool} (h:x7 A l ks t= .opt u b s):False:=by
 unfold x7 at h;split at h
 ·simp at h
 ·cases H:ks.any (Nat.beq t) with
  |false=>rw[H] at h;simp at h
  |true=>
   rw[H] at h;simp only[zdr] at h;split at h<;>simp at h
theorem mS {X:Type} {x:X} {bl:zdM}: ∀{l:List (Nat×(X->zdN))} {i:Nat} {C:Blk},rP bl x l i=some C->
 (∃g B,(i,g)∈l/\bl i=some B/\C={B with get:=B.kd.sel (g x) B.get})\/(i∉l.map (·.1)/\bl i=some C)
 | [],i,C,h=> .inr ⟨by simp,h⟩
 |(j,g)::l,i,C,h=>by
  simp only[rP] at h;cases H:Nat.beq i j with
  |true=>
   rw[H] at h;have:=zab H;subst this;simp only[zdr] at h;split at h
   ·rename_i B hB;simp only[za1] at h;exact .inl ⟨g,B,by simp,hB,h.symm⟩
   ·cases h
  |false=>
   rw[H] at h;rw[bS] at H;rcases mS h with ⟨g',B,h1,h2,h3⟩|⟨h1,h2⟩
   ·exact .inl ⟨g',B,zan _ h1,h2,h3⟩
   ·exact .inr ⟨by simp only[zaK,zai,not_or];exact⟨by simpa using H,h1⟩,h2⟩
theorem awd {X:Type} {x:X} {bl:zdM}: ∀{l:List (Nat×(X->zdN))} {i:Nat},bl i≠none↔rP bl x l i≠none
 | [],i=>Iff.rfl
 |(j,g)::l,i=>by
  simp only[rP];cases H:Nat.beq i j with
  |true=>simp only[zdr];cases bl i<;>simp
  |false=>simp only[zdq];exact awd
theorem jZ {X:Type} {x:X} {bl:zdM}: ∀{l:List (Nat×(X->zdK))} {i:Nat} {C:Blk},p7 bl x l i=some C->
 (∃g B,(i,g)∈l/\bl i=some B/\C={B with get:=λ_=>g x})\/(i∉l.map (·.1)/\bl i=some C)
 | [],i,C,h=> .inr ⟨by simp,h⟩
 |(j,g)::l,i,C,h=>by
  simp only[p7] at h;cases H:Nat.beq i j with
  |true=>
   rw[H] at h;have:=zab H;subst this;simp only[zdr] at h;split at h
   ·rename_i B hB;simp only[za1] at h;exact .inl ⟨g,B,by simp,hB,h.symm⟩
   ·cases h
  |false=>
   rw[H] at h;rw[bS] at H;rcases jZ h with ⟨g',B,h1,h2,h3⟩|⟨h1,h2⟩
   ·exact .inl ⟨g',B,zan _ h1,h2,h3⟩
   ·exact .inr ⟨by simp only[zaK,zai,not_or];exact⟨by simpa using H,h1⟩,h2⟩
theorem Ws {X:Type} {x:X} {bl:zdM}: ∀{l:List (Nat×(X->zdK))} {i:Nat},bl i≠none↔p7 bl x l i≠none
 | [],i=>Iff.rfl
 |(j,g)::l,i=>by
  simp only[p7];cases H:Nat.beq i j with
  |true=>simp only[zdr];cases bl i<;>simp
  |false=>simp only[zdq];exact Ws
variable {bl:zdM} {i:Nat}
theorem sI {C:Blk} (h:arD bl ks i=some C):(i∈ks/\ ∃B,bl i=some B/\C={B with kd:= .gone})\/(i∉ks/\bl i=some C):=by
 unfold arD at h;cases H:ks.any (Nat.beq i) with
 |true=>
  rw[H] at h;simp only[zaP] at H;obtain⟨j,J,N⟩:=H;rw[<-zab N] at J;simp only[zdr] at h;split at h
  ·rename_i B hB;exact .inl ⟨J,B,hB,by simpa using h.symm⟩
  ·cases h
 |false=>
  rw[H] at h;refine .inr ⟨λV=> ?_,h⟩;have:ks.any (Nat.beq i)=true:=zaP.2 ⟨i,V,by rw[bS];simp⟩;rw[H] at this;cases this
theorem WB:bl i≠none↔arD bl ks i≠none:=by
 unfold arD;cases ks.any (Nat.beq i) with
 |true=>simp only[zdr];cases bl i<;>simp
 |false=>exact Iff.rfl
theorem yo {X:Type} {x:X}: ∀{l:List (Gr X)} {j:Nat} {C:Blk},grB x l j=some C-> ∃g,l[j]? =some g/\C={n:=g.n x,sz:=g.sz,get:=g.get x,kd:= .own,nn:=false}
 | [],j,C,h=>by cases h
 |g::r,0,C,h=>⟨g,rfl,by simpa [grB] using h.symm⟩
 |g::r,j+1,C,h=>yo (l:=r) h
theorem Wm {X:Type} {x:X}: ∀{l:List (Gr X)} {j:Nat},grB x l j≠none↔j<l.length
 | [],j=>by simp[grB]
 |g::r,0=>by simp[grB]
 |g::r,j+1=>by simp only[grB,za4,Nat.add_lt_add_iff_right];exact Wm
def mh (b:Nat) (rs:zdT) (sz:Nat->Nat) (β:zdJ) (i:Nat):Loc:=bif Nat.blt i b then β i else match rs[i - b]? with
 |some (some k)=>β k
 |some none=>⟨0,0,sz (i - b),0,true⟩
 |none=>β i
variable {b:Nat} {rs:zdT} {sz:Nat->Nat} {β:zdJ}
theorem bA (h:i<b):mh b rs sz β i=β i:=by
 unfold mh;rw[aB,zdp h];rfl
variable {j:Nat}
theorem fG {k:Nat} (h:rs[j]? =some (some k)):mh b rs sz β (b+j)=β k:=by
 unfold mh;rw[aB,zds (by omega: ¬b+j<b)];simp[h]
theorem fH (h:rs[j]? =some none):mh b rs sz β (b+j)=⟨0,0,sz j,0,true⟩:=by
 unfold mh;rw[aB,zds (by omega: ¬b+j<b)];simp[h]
mutual
theorem sJ {b:Nat} {rs:List (Option Nat)} {sz:Nat->Nat} {β:Nat->Loc}: ∀{s r:SV},s.ren b rs=some r->r.conc β=s.conc (mh b rs sz β)/\ ∀i∈s.ids,i<b/\i∈r.ids\/(b<=i/\i - b<rs.length)
 | .val v,r,h=>by simp[SV.ren] at h;subst h;simp[SV.conc,SV.ids]
 | .ptr id e o,r,h=>by
   simp only[SV.ren] at h;rw[aB] at h;by_cases hi:id<b
   ·simp[hi] at h;subst h;refine⟨by simp only[SV.conc,addr,bA hi],λi H=> .inl ?_⟩;simp only[SV.ids,zaj] at H ⊢;subst H;exact⟨hi,rfl⟩
   ·simp[hi] at h
 | .mp id,r,h=>by
   simp only[SV.ren] at h;rw[aB] at h;by_cases hi:id<b
   ·simp[hi] at h;subst h;refine⟨by simp only[SV.conc,bA hi],λi H=> .inl ?_⟩;simp only[SV.ids,zaj] at H ⊢;subst H;exact⟨hi,rfl⟩
   ·simp[hi] at h
 | .slc id e len,r,h=>by
   simp only[SV.ren,Pn] at h;rw[aB] at h;by_cases hi:id<b
   ·simp[hi] at h;subst h;refine⟨by simp only[SV.conc,addr,bA hi],λi H=> .inl ?_⟩;simp only[SV.ids,zaj] at H ⊢;subst H;exact⟨hi,rfl⟩
   ·simp only[hi,decide_false,zdq] at h;have hid:id=b+(id - b):=by omega
    split at h
    ·rename_i k V;simp only[za1] at h;subst h;refine⟨?_,λi H=> .inr ?_⟩
     ·simp only[SV.conc,addr];rw[hid,fG V]
     ·simp only[SV.ids,zaj] at H;subst H;refine⟨by omega, ?_⟩;rcases zah (i - b) rs.length with N|N
      ·exact N
      ·rw[zad N] at V;cases V
    ·rename_i V;simp only[za1] at h;subst h;refine⟨?_,λi H=> .inr ?_⟩
     ·simp only[SV.conc];rw[hid,fH V];simp
     ·simp only[SV.ids,zaj] at H;subst H;refine⟨by omega, ?_⟩;rcases zah (i - b) rs.length with N|N
      ·exact N
      ·rw[zad N] at V;cases V
    ·cases h
 | .agg cs,r,h=>by
   simp only[SV.ren,zbE] at h;obtain⟨Z,h1,rfl⟩:=h;obtain⟨k1,k2⟩:=rens_conc (sz:=sz) (β:=β) h1;exact⟨by simp only[SV.conc,k1],λi hi=>by simp only[SV.ids] at hi ⊢;exact k2 i hi⟩
 | .tup cs,r,h=>by
   simp only[SV.ren,zbE] at h;obtain⟨Z,h1,rfl⟩:=h;obtain⟨k1,k2⟩:=rens_conc (sz:=sz) (β:=β) h1;exact⟨by simp only[SV.conc,k1],λi hi=>by simp only[SV.ids] at hi ⊢;exact k2 i hi⟩
 | .fn f a c,r,h=>by
   simp only[SV.ren] at h;split at h
   ·rename_i a' c' h1 h2;simp only[za1] at h;subst h;obtain⟨k1,k2⟩:=rens_conc (sz:=sz) (β:=β) h1;obtain⟨l1,l2⟩:=rens_conc (sz:=sz) (β:=β) h2;refine⟨by simp only[SV.conc,k1,l1],λi hi=> ?_⟩;simp only[SV.ids,za8] at hi ⊢;rcases hi with hi|hi
    ·rcases k2 i hi with ⟨J,Y⟩|J
     ·exact .inl ⟨J, .inl Y⟩
     ·exact .inr J
    ·rcases l2 i hi with ⟨J,Y⟩|J
     ·exact .inl ⟨J, .inr Y⟩
     ·exact .inr J
   ·cases h
theorem rens_conc {b:Nat} {rs:List (Option Nat)} {sz:Nat->Nat} {β:Nat->Loc}: ∀{s r:List SV},SV.rens b rs s=some r->SV.concs β r=SV.concs (mh b rs sz β) s/\ ∀i∈SV.idss s,i<b/\i∈SV.idss r\/(b<=i/\i - b<rs.length)
 | [],r,h=>by simp[SV.rens] at h;subst h;simp[SV.concs,SV.idss]
 |x::xs,r,h=>by
  simp only[SV.rens] at h;split at h
  ·rename_i y Y h1 h2;simp only[za1] at h;subst h;obtain⟨k1,k2⟩:=sJ (sz:=sz) (β:=β) h1;obtain⟨N,V⟩:=rens_conc (sz:=sz) (β:=β) h2;refine⟨by simp only[SV.concs,k1,N],λi hi=> ?_⟩;simp only[SV.idss,za8] at hi ⊢;rcases hi with hi|hi
   ·rcases k2 i hi with ⟨H,J⟩|H
    ·exact .inl ⟨H, .inl J⟩
    ·exact .inr H
   ·rcases V i hi with ⟨H,J⟩|H
    ·exact .inl ⟨H, .inr J⟩
    ·exact .inr H
  ·cases h
end
theorem aaJ {b:Nat} {rs:zdT} {A:AS}: ∀{l:List (Nat×SV)},Gn b rs A l-> ∀p∈l,∃r,p.2.ren b rs=some r/\A.tm p.1= .v r
 | [],_,p,hp=>by cases hp
 |(t,s)::l,h,p,hp=>by
  obtain⟨h1,h2⟩:=h;rcases zai.1 hp with rfl|hp
  ·unfold eqO at h1;split at h1
   ·rename_i r H;exact⟨r,H,h1⟩
   ·exact h1.elim
  ·exact aaJ h2 p hp
theorem wA {f:Nat->Prop}: ∀{n:Nat},NC n f-> ∀e,e<n->f e
 |0,_,e,H=>by omega
 |k+1,h,e,H=>by
  by_cases h2:e=k
  ·subst h2;exact h.1
  ·exact wA h.2 e (by omega)
theorem pm {X:Type} {A0 A:AS} {x:X}: ∀{l:List (Nat×(X->zdN))},Gp A0 A x l-> ∀p∈l,∃B,A.bl p.1=some B/\B.kd≠ .gone/\((B.kd= .itL/\ ∃B0,A0.bl p.1=some B0/\ ∀e,B.get (e+1)=abr (p.2 x) B0.get (e+1))\/(B.kd.map=true/\B.kd.lst=false/\GetEq B.kd B.get (p.2 x))\/(B.kd.map=false/\ ∀e,e<B.n->B.get e=p.2 x e))
 | [],_,p,hp=>by cases hp
 |(i,g)::l,h,p,hp=>by
  obtain⟨h1,h2⟩:=h;rcases zai.1 hp with rfl|hp
  ·split at h1
   ·rename_i B hB;cases H:B.kd with
    |gone=>rw[H] at h1;exact h1.elim
    |mpL=>rw[H] at h1;exact h1.elim
    |itL=>
     rw[H] at h1;simp only[] at h1;split at h1
     ·rename_i B0 J;exact⟨B,hB,by rw[H];simp, .inl ⟨H,B0,J,h1⟩⟩
     ·exact h1.elim
    |itK=>rw[H] at h1;exact⟨B,hB,by rw[H];simp, .inr (.inl ⟨by rw[H];rfl,by rw[H];rfl,by rw[H];exact⟨h1.1, .inl h1.2⟩⟩)⟩
    |mpI=>rw[H] at h1;exact⟨B,hB,by rw[H];simp, .inr (.inl ⟨by rw[H];rfl,by rw[H];rfl,by rw[H];exact h1⟩)⟩
    |mpB=>rw[H] at h1;exact⟨B,hB,by rw[H];simp, .inr (.inl ⟨by rw[H];rfl,by rw[H];rfl,by rw[H];exact h1⟩)⟩
    |own=>rw[H] at h1;exact⟨B,hB,by rw[H];simp, .inr (.inr ⟨by rw[H];rfl,λe N=>wA h1 e N⟩)⟩
    |old=>rw[H] at h1;exact⟨B,hB,by rw[H];simp, .inr (.inr ⟨by rw[H];rfl,λe N=>wA h1 e N⟩)⟩
   ·exact h1.elim
  ·exact pm h2 p hp
theorem pn {X:Type} {b:Nat} {rs:zdT} {A:AS} {x:X}: ∀{l:List (Nat×(X->zdK))},Gq b rs A x l-> ∀p∈l,∃B cs,A.bl p.1=some B/\SV.rens b rs (p.2 x)=some cs/\B.kd≠ .gone/\B.n=1/\B.get 0=cs
 | [],_,p,hp=>by cases hp
 |(i,g)::l,h,p,hp=>by
  obtain⟨h1,h2⟩:=h;rcases zai.1 hp with rfl|hp
  ·split at h1
   ·rename_i B cs hB H;split at h1
    ·exact h1.elim
    ·rename_i J;obtain⟨h3,h4⟩:=Xg.1 h1;exact⟨B,cs,hB,H,λe=>J e,zab h3,h4⟩
   ·exact h1.elim
  ·exact pn h2 p hp
theorem kU {X:Type} {A:AS} {x:X}: ∀{l:List (Gr X)} {rs:zdT},B7 A x l rs->rs.length=l.length/\ ∀(j:Nat) (g:Gr X),l[j]? =some g->
 (∃i B,rs[j]? =some (some i)/\A.bl i=some B/\B.kd= .own/\B.sz=g.sz/\g.n x<=B.n/\ ∀e,e<g.n x->B.get e=g.get x e)\/(rs[j]? =some none/\g.n x=0)
 | [], [],_=>⟨rfl,λj g h=>by simp at h⟩
 |g::l,some i::rs,h=>by
  obtain⟨h1,h2⟩:=h;obtain⟨h3,h4⟩:=kU h2;refine⟨by simp[h3],λj g' hg=> ?_⟩;cases j with
  |zero=>
   simp only[zbA,za1] at hg;subst hg;left;split at h1
   ·rename_i B hB;split at h1
    ·rename_i H;obtain⟨h5,h6⟩:=Xg.1 h1;simp only[za2,zdt] at h5;exact⟨i,B,by simp,hB,H,zab h5.1,h5.2,h6⟩
    ·exact h1.elim
   ·exact h1.elim
  |succ j=>simpa using h4 j g' (by simpa using hg)
 |g::l,none::rs,h=>by
  obtain⟨h1,h2⟩:=h;obtain⟨h3,h4⟩:=kU h2;refine⟨by simp[h3],λj g' hg=> ?_⟩;cases j with
  |zero=>
   simp only[zbA,za1] at hg;subst hg;exact .inr ⟨by simp,h1⟩
  |succ j=>simpa using h4 j g' (by simpa using hg)
 | [],_::_,h=>h.elim
 |_::_, [],h=>h.elim
variable {l:zdT} {i:Nat}
theorem Wd:i∈ck l↔ ∃j:Nat,l[j]? =some (some i):=by
 induction l with
 |nil=>simp[ck]
 |cons o l J=>
  cases o with
  |some k=>
   simp only[ck,zai,J];constructor
   ·rintro(rfl|⟨j,H⟩)
    ·exact⟨0,by simp⟩
    ·exact⟨j+1,by simpa using H⟩
   ·rintro⟨j,H⟩;cases j with
    |zero=>simp at H;exact .inl H.symm
    |succ j=>exact .inr ⟨j,by simpa using H⟩
  |none=>
   simp only[ck,J];constructor
   ·rintro⟨j,H⟩;exact⟨j+1,by simpa using H⟩
   ·rintro⟨j,H⟩;cases j with
    |zero=>simp at H
    |succ j=>exact⟨j,by simpa using H⟩
theorem sK: ∀{l:zdT},uV (ck l)=true-> ∀{i:Nat} {j k:Nat},l[j]? =some (some i)->l[k]? =some (some i)->j=k
 | [],_,i,j,k,h,_=>by simp at h
 |o::l,H,i,j,k,N,V=>by
  have J:uV (ck l)=true:=by
   cases o with
   |some m=>simp only[ck,uV,za2] at H;exact H.2
   |none=>exact H
  have first: ∀{m:Nat},o=some i->l[m]? =some (some i)->False:=by
   intro m Z Y;subst Z;simp only[ck,uV,za2,zap] at H;have:(ck l).any (Nat.beq i)=true:=zaP.2 ⟨i,Wd.2 ⟨m,Y⟩,by rw[bS];simp⟩;rw[H.1] at this;cases this
  cases j with
  |zero=>
   cases k with
   |zero=>rfl
   |succ k=>exact(first (by simpa using N) (by simpa using V)).elim
  |succ j=>
   cases k with
   |zero=>exact(first (by simpa using V) (by simpa using N)).elim
   |succ k=>
    have:=sK J (i:=i) (j:=j) (k:=k) (by simpa using N) (by simpa using V);rw[this]
variable {A:AS} {N:Ann}
theorem sL {x:N.X} (h:i<A.nx):cX A N x i=rP (p7 (arD A.bl (killed A N)) x N.st) x N.bk i:=by
 simp only[cX,aB,zdp h,zdr]
theorem od {x:N.X} {j:Nat}:cX A N x (A.nx+j)=grB x N.gr j:=by
 unfold cX;rw[aB,zds (by omega: ¬A.nx+j<A.nx)];simp
theorem fI {x:N.X} (h:i<A.nx):A.bl i≠none↔cX A N x i≠none:=by
 rw[sL h];exact WB.trans (Ws.trans awd)
theorem ary {x:N.X} {C:Blk} (hi:i<A.nx) (h:cX A N x i=some C):
 ∃B,A.bl i=some B/\C.n=B.n/\C.sz=B.sz/\C.nn=B.nn/\(C.kd=B.kd\/(C.kd= .gone/\i∈killed A N))/\
  ((∃g D,(i,g)∈N.bk/\C.get=C.kd.sel (g x) D/\(D=B.get\/i∈N.st.map (·.1)))\/(i∉N.bk.map (·.1)/\ ∃g,(i,g)∈N.st/\C.get=λ_=>g x)\/(i∉N.bk.map (·.1)/\i∉N.st.map (·.1)/\C.get=B.get/\(i∉killed A N->C=B))):=by
 rw[sL hi] at h;have kl: ∀D,arD A.bl (killed A N) i=some D-> ∃B,A.bl i=some B/\D.n=B.n/\D.sz=B.sz/\D.nn=B.nn/\(D.kd=B.kd\/(D.kd= .gone/\i∈killed A N))/\D.get=B.get/\(i∉killed A N->D=B):=by
  intro D hD;rcases sI hD with ⟨h1,B,h2,rfl⟩|⟨h1,h2⟩
  ·exact⟨B,h2,rfl,rfl,rfl, .inr ⟨rfl,h1⟩,rfl,λh=>absurd h1 h⟩
  ·exact⟨D,h2,rfl,rfl,rfl, .inl rfl,rfl,λ_=>rfl⟩
 rcases mS h with ⟨g,D,h1,h2,rfl⟩|⟨h1,h2⟩
 ·rcases jZ h2 with ⟨g',E,k1,k2,rfl⟩|⟨k1,k2⟩
  ·obtain⟨B,H,J,V,Y,Z,_⟩:=kl E k2;exact⟨B,H,J,V,Y,Z, .inl ⟨g,_,h1,rfl, .inr (zaz.2 ⟨_,k1,rfl⟩)⟩⟩
  ·obtain⟨B,H,J,V,Y,Z,a6,_⟩:=kl D k2;exact⟨B,H,J,V,Y,Z, .inl ⟨g,_,h1,rfl, .inl a6⟩⟩
 ·rcases jZ h2 with ⟨g',E,k1,k2,rfl⟩|⟨k1,k2⟩
  ·obtain⟨B,H,J,V,Y,Z,_⟩:=kl E k2;exact⟨B,H,J,V,Y,Z, .inr (.inl ⟨h1,g',k1,rfl⟩)⟩
  ·obtain⟨B,H,J,V,Y,Z,a6,a7⟩:=kl C k2;exact⟨B,H,J,V,Y,Z, .inr (.inr ⟨h1,k1,a6,a7⟩)⟩
variable {β:zdJ} {a:Act} {w:World}
theorem Ci (z1:NX A.bl A.nx) (n1: ∀(id:Nat) (B:Blk) (e o:Nat) (s:SV),A.bl id=some B->B.kd≠ .gone->e<B.n->(B.get e)[o]? =some s->Live A.bl s)
 (N1: ∀(id:Nat) (B:Blk) (e:Nat) (s:SV),A.bl id=some B->B.kd.lst=true->s∈B.get e->Live A.bl s)
 (N:Ann) (x:N.X) (first:Bool) {A':AS} (Y:Is W0 A' β a w) (O1:A'.nt=A.nt)
 (hfirst:first=true->A'=A)
 (C0: ∀i B,A.bl i=some B-> ∃B',A'.bl i=some B'/\B'.n=B.n/\(B'.sz=B.sz/\B'.nn=B.nn)/\(B'.kd=B.kd\/B'.kd= .gone)/\(i∉N.ids A->B'=B)) (y1: ∀i,i<A.nx->A.bl i=none->A'.bl i=none)
 (hm:B8 first A A' N x): ∃γ,Is {W0 with sd:=QI A N x} (rQ A N x) γ a w/\(∀i,i<A.nx->γ i=β i)/\(A.sd.2=none\/ ∃i t j,A.sd.2=some (i,t)/\A'.sd.2=some (i,N.sb x)/\j=A'.sd.1/\bdE A.sd.1 j=true):=by
 unfold B8 at hm;split at hm
 ·exact hm.elim
 ·rename_i rs R1;obtain⟨hd,E0⟩:=Xg.1 hm;have v0:((A.sd.2=none\/ ∃i t j,A.sd.2=some (i,t)/\A'.sd.2=some (i,N.sb x)/\j=A'.sd.1/\bdE A.sd.1 j=true))/\(Gn A.nx rs A' (N.all A x)/\Gp A A' x N.bk/\Gq A.nx rs A' x N.st/\B7 A' x N.gr rs):=by
   unfold aiD at E0;split at E0
   ·rename_i h1 h2;exact⟨.inl h1,E0⟩
   ·rename_i i t j t' h1 h2;obtain⟨h3,h4,h5⟩:=Xg.1 E0;simp only[za2,bS,zdt] at h3;obtain⟨rfl,h3⟩:=h3;exact⟨.inr ⟨i,t,_,h1,by rw[h2,h4],rfl,h3⟩,h5⟩
   ·exact E0.elim
  obtain⟨v0,ht,hb,hc,hg⟩:=v0;simp only[za2] at hd;obtain⟨⟨u1,n0⟩,M0⟩:=hd;have M0:A'.df= []:=by
   split at M0
   ·assumption
   ·cases M0
  obtain⟨T1,x0⟩:=kU hg
  let sz:Nat->Nat:=λj=>match N.gr[j]? with
   |some g=>g.sz
   |none=>0
  have O0: ∀i,i<A.nx->A'.bl i≠none->cX A N x i≠none:=λi hi h=>(fI hi).1 λh0=>h (y1 i hi h0);have R0: ∀i,i<A.nx->A.bl i≠none->cX A N x i≠none:=λi hi h=>(fI hi).1 h;have Q0: ∀j,j<rs.length->cX A N x (A.nx+j)≠none:=λj hj=>by rw[od];exact Wm.2 (by omega)
  have key: ∀i C,cX A N x i=some C->C.kd≠ .gone->(i<A.nx/\ ∃B',A'.bl i=some B'/\B'.kd=C.kd/\B'.n=C.n/\B'.sz=C.sz/\B'.nn=C.nn/\i∉killed A N/\
   ((∀e,e<C.n->B'.get e=C.get e/\ ∀s∈C.get e,∀H∈s.ids,H<A.nx/\cX A N x H≠none)\/(C.n=1/\SV.rens A.nx rs (C.get 0)=some (B'.get 0))))\/
   (∃j g,i=A.nx+j/\N.gr[j]? =some g/\C={n:=g.n x,sz:=g.sz,get:=g.get x,kd:= .own,nn:=false}):=by
   intro i C Z e0;rcases zah i A.nx with hi|hi
   ·left;refine⟨hi, ?_⟩;obtain⟨B,b1,b2,b3,b4,b5,b6⟩:=ary hi Z;have j1:C.kd=B.kd:=by
     rcases b5 with b5|b5
     ·exact b5
     ·exact absurd b5.1 e0
    have p0:i∉killed A N:=by
     intro V;rw[sL hi] at Z;have g1: ∀D,arD A.bl (killed A N) i=some D->D.kd= .gone:=by
      intro D hD;rcases sI hD with ⟨_,E,_,rfl⟩|⟨h1,_⟩
      ·rfl
      ·exact absurd V h1
     have g2: ∀D,p7 (arD A.bl (killed A N)) x N.st i=some D->D.kd= .gone:=by
      intro D hD;rcases jZ hD with ⟨_,E,_,h2,rfl⟩|⟨_,h2⟩
      ·exact g1 E h2
      ·exact g1 D h2
     rcases mS Z with ⟨_,E,_,h2,rfl⟩|⟨_,h2⟩
     ·exact e0 (g2 E h2)
     ·exact e0 (g2 C h2)
    obtain⟨B',k1,k2,⟨k3,B1⟩,k4,k5⟩:=C0 i B b1;rcases b6 with ⟨g,D,h1,h2,_⟩|⟨h0,g,h1,h2⟩|⟨h0,h1,h2,h3⟩
    ·obtain⟨o0,m1,m2,m3⟩:=pm hb (i,g) h1;simp only[] at m1 m3;rw[k1] at m1;obtain rfl:B'=o0:=by simpa using m1
     have w0:B'.kd=B.kd:=by
      rcases k4 with k4|k4
      ·exact k4
      ·exact absurd k4 m2
     have m3: ∀e,e<B'.n->B'.get e=g x e/\C.get=g x:=by
      intro e he;rcases m3 with ⟨mm,_⟩|⟨mm,_,_⟩|⟨mm,m3⟩
      ·have:=(Y.bc.maps.ok i B' k1 (by rw[mm];rfl)).1;omega
      ·have:=(Y.bc.maps.ok i B' k1 mm).1;omega
      ·refine⟨m3 e he, ?_⟩;rw[h2,j1,<-w0];cases V:B'.kd<;>first|rfl|(rw[V] at mm;cases mm)
     refine⟨B',k1,by rw[w0,j1],by rw[k2,b2],by rw[k3,b3],by rw[B1,b4],p0, .inl λe he=>⟨by have:=m3 e (by rw[k2,<-b2];exact he);rw[this.2];exact this.1,λs Y H J=> ?_⟩⟩;have z0:=N.clean (i,g) h1 x e;have:H∈SV.idss (g x e):=SV.mem_idss.2 ⟨s,by rw[(m3 e (by rw[k2,<-b2];exact he)).2] at Y;exact Y,J⟩;rw[show SV.idss (g x e)= [] from z0] at this;cases this
    ·obtain⟨o0,cs,m1,m2,m3,m4,m5⟩:=pn hc (i,g) h1;simp only[] at m1 m2;rw[k1] at m1;obtain rfl:B'=o0:=by simpa using m1
     have w0:B'.kd=B.kd:=by
      rcases k4 with k4|k4
      ·exact k4
      ·exact absurd k4 m3
     exact⟨B',k1,by rw[w0,j1],by rw[k2,b2],by rw[k3,b3],by rw[B1,b4],p0, .inr ⟨by rw[b2,<-k2,m4],by rw[h2,m5];exact m2⟩⟩
    ·have r1:i∉N.ids A:=by
      unfold Ann.ids;simp only[za8,not_or];exact⟨⟨h0,h1⟩,p0⟩
     have:=k5 r1;subst this;have E1:=h3 p0;subst E1;refine⟨C,k1,rfl,rfl,rfl,rfl,p0, .inl λe he=>⟨rfl,λs Y H J=> ?_⟩⟩;obtain⟨o,ho,e1⟩:=zbR Y;have hl:=n1 i C e o s b1 e0 he (by rw[zaa ho,e1]) H J;rcases zah H A.nx with h'|h'
     ·exact⟨h',R0 H h' hl⟩
     ·exact absurd (z1 H h') hl
   ·right;obtain⟨j,rfl⟩:=zd7 hi;rw[od] at Z;obtain⟨g,h1,h2⟩:=yo Z;exact⟨j,g,rfl,h1,h2⟩
  have q0: ∀i C,cX A N x i=some C->C.kd.map=true->i<A.nx/\ ∃B',A'.bl i=some B'/\B'.kd=C.kd/\B'.n=C.n/\GetEq C.kd B'.get C.get/\(C.kd.lst=true-> ∀e s,s∈C.get e->s.ids= []\/ ∃B e',A.bl i=some B/\B.kd.lst=true/\s∈B.get e'):=by
   intro i C Z hm;have e0:C.kd≠ .gone:=by intro e;rw[e] at hm;cases hm
   rcases key i C Z e0 with ⟨hi,B',k1,k2,k3,_,_,p0,_⟩|⟨j,g,rfl,hj,rfl⟩
   ·refine⟨hi,B',k1,k2,k3, ?_⟩;obtain⟨B,b1,b2,b3,b4,b5,b6⟩:=ary hi Z;have w1:B'.kd.map=true:=by rw[k2];exact hm
    have U1:=(Y.bc.maps.ok i B' k1 w1).1;rcases b6 with ⟨g,D,h1,h2,hD⟩|⟨h0,g,h1,h2⟩|⟨h0,h1,h2,h3⟩
    ·obtain⟨o0,m1,m2,m3⟩:=pm hb (i,g) h1;simp only[] at m1 m3;rw[k1] at m1;obtain rfl:B'=o0:=by simpa using m1
     rcases m3 with ⟨mk,B0,m4,m5⟩|⟨_,ml,mg⟩|⟨mm,_⟩
     ·rw[b1] at m4;obtain rfl:B=B0:=by simpa using m4
      have hD:D=B.get:=by
       rcases hD with hD|hD
       ·exact hD
       ·obtain⟨⟨i2,g2⟩,I1,rfl⟩:=zaz.1 hD;obtain⟨B3,cs,l1,_,_,l4,_⟩:=pn hc (i2,g2) I1;simp only[] at l1;rw[k1] at l1;obtain rfl:B'=B3:=by simpa using l1
        omega
      have y0:C.kd= .itL:=by rw[<-k2];exact mk
      have H1:C.get=abr (g x) B.get:=by rw[h2,y0,hD];rfl
      have C1:B.kd.lst=true:=by
       rcases b5 with b5|b5
       ·rw[<-b5,y0];rfl
       ·rw[b5.1] at y0;cases y0
      rw[y0,H1];refine⟨⟨m5, .inl rfl⟩,λ_ e s i0=> ?_⟩;cases e with
      |zero=>cases i0
      |succ e=>
       replace i0:s∈onB (su (g x (e+1))) (B.get (e+1)):=i0;cases hr:B.get (e+1) with
       |nil=>rw[hr] at i0;cases i0
       |cons y r=>
        rw[hr] at i0;rcases zai.1 i0 with rfl|i0
        ·exact .inl rfl
        ·exact .inr ⟨B,e+1,b1,C1,by rw[hr];exact zan _ i0⟩
     ·have A1:C.get=g x:=by
       rw[h2,<-k2];cases V:B'.kd<;>first|rfl|(rw[V] at ml;cases ml)
      rw[<-k2,A1];exact⟨mg,λe=>(by rw[ml] at e;cases e)⟩
     ·rw[w1] at mm;cases mm
    ·obtain⟨o0,cs,m1,m2,m3,m4,m5⟩:=pn hc (i,g) h1;simp only[] at m1;rw[k1] at m1;obtain rfl:B'=o0:=by simpa using m1
     omega
    ·have r1:i∉N.ids A:=by
      unfold Ann.ids;simp only[za8,not_or];exact⟨⟨h0,h1⟩,p0⟩
     obtain⟨o0,l1,_,_,_,l5⟩:=C0 i B b1;rw[k1] at l1;obtain rfl:B'=o0:=by simpa using l1
     have e1:=l5 r1;have e2:=h3 p0;subst e1;subst e2;exact⟨GetEq.refl _ _,λV e s i0=> .inr ⟨_,e,b1,V,i0⟩⟩
   ·cases hm
  have I0: ∀i C e s,cX A N x i=some C->C.kd.lst=true->s∈C.get e->(∀H∈s.ids,H<A.nx)/\Live (cX A N x) s:=by
   intro i C e s Z V H0;obtain⟨_,B',_,_,_,_,h6⟩:=q0 i C Z (BK.lst_map V);have hl:Live A.bl s:=by
    rcases h6 V e s H0 with h0|⟨B,e',q1,q2,q3⟩
    ·intro H J;rw[h0] at J;cases J
    ·exact N1 i B e' s q1 q2 q3
   have lt: ∀H∈s.ids,H<A.nx:=λH J=>by
    rcases zah H A.nx with h|h
    ·exact h
    ·exact absurd (z1 H h) (hl H J)
   exact⟨lt,λH J=>R0 H (lt H J) (hl H J)⟩
  have live_ren: ∀(s r:SV),s.ren A.nx rs=some r->Live A'.bl r->Live (cX A N x) s:=by
   intro s r hr hl i hi;rcases(sJ (sz:=sz) (β:=β) hr).2 i hi with ⟨h1,h2⟩|⟨h1,h2⟩
   ·exact O0 i h1 (hl i h2)
   ·have:=Q0 (i - A.nx) h2;rwa[show A.nx+(i - A.nx)=i by omega] at this
  have S1: ∀j g,N.gr[j]? =some g->sz j=g.sz:=λj g hj=>by simp only[sz,hj]
  have L0: ∀i,i<A.nx->i∉killed A N->i∉ck rs:=by
   intro i hi V N0;simp only[zav] at n0;rcases n0 with n0|n0
   ·have:=hfirst n0;subst this;apply V;unfold killed;rw[R1];exact N0
   ·have:=zak (zaf.1 n0 i N0);omega
  have p1:MapsOK W0 (cX A N x) (mh A.nx rs sz β) w:=by
   refine⟨λi C Z hm=> ?_,λi j C D Z hD hm x1 he=> ?_,λi C e s Z V H0=>(I0 i C e s Z V H0).2,λi C Z V=> ?_⟩
   ·obtain⟨hi,B',k1,k2,k3,k4,_⟩:=q0 i C Z hm;obtain⟨a1,a2,a3,a4⟩:=Y.bc.maps.ok i B' k1 (by rw[k2];exact hm);rw[k2] at a4;rw[bA hi]
    exact⟨by omega,a2,a3,a4.to rfl k4 (λ_ _ _ _ _=>rfl) λV e s H0=>
     SV.conc_congr s λH J=>bA ((I0 i C e s Z V H0).1 H J)⟩
   ·obtain⟨hi,B',k1,k2,_⟩:=q0 i C Z hm;obtain⟨hj,D',l1,l2,_⟩:=q0 j D hD x1;rw[bA hi,bA hj] at he;exact Y.bc.maps.inj i j B' D' k1 l1 (by rw[k2];exact hm) (by rw[l2];exact x1) he
   ·obtain⟨hi,B',k1,k2,_⟩:=q0 i C Z (BK.it_map V);rw[bA hi];exact Y.bc.maps.off i B' k1 (by rw[k2];exact V)
  refine⟨mh A.nx rs sz β,⟨⟨⟨by rw[Y.fr.defers.1,M0];rfl,λ_ h=>by cases h⟩,by rw[Y.fr.size,O1];rfl, ?_, ?_, ?_⟩,BC.rebase (B:=W0) ⟨Y.bc.below, ?_, ?_, ?_, ?_, ?_,p1⟩ ⟨Y.bc.below.os,Y.bc.below.tape,Y.bc.below.output,Y.bc.below.size,Y.bc.below.block⟩ (λ_ _ _ _ _ h=>h) (λ_ _ _ _ _ h=>h), ?_,rfl⟩,λi hi=>bA hi,v0⟩
  ·intro t s h;obtain⟨r,h1,h2⟩:=aaJ ht (t,s) (D3 h);obtain⟨k1,k2⟩:=Y.fr.v t r h2;exact⟨k1.trans (sJ h1).1,live_ren s r h1 k2⟩
  ·intro t u b s h;exact(aur h).elim
  ·intro t u b s h;exact(aur h).elim
  ·intro i C Z e0;rcases key i C Z e0 with ⟨hi,B',k1,k2,k3,k4,k5,_,k6⟩|⟨j,g,rfl,hj,rfl⟩
   ·have q:=Y.bc.blk i B' k1 (by rw[k2];exact e0);refine⟨by rw[bA hi,q.sz,k4],by rw[bA hi];exact q.lt,by rw[bA hi,<-k3];exact q.le, ?_,by rw[bA hi,<-k4];exact q.ex, ?_, ?_,by rw[bA hi];exact q.nil,by rw[bA hi,<-k5];exact q.nn⟩
    ·intro e he;rcases k6 with k6|⟨c1,c2⟩
     ·rw[<-(k6 e he).1,q.len e (by rw[k3];exact he),k4]
     ·obtain rfl:e=0:=by omega
      have hl:=q.len 0 (by rw[k3];exact he);rw[<-k4,<-hl];have:=congrArg List.length (rens_conc (sz:=sz) (β:=β) c2).1;rw[SV.concs_eq,SV.concs_eq,zaB,zaB] at this;exact this.symm
    ·intro V j hj;rw[bA hi];rw[bA hi,<-k4] at hj;exact q.fr (by rw[k2];exact V) j hj
    ·intro e he o s h;have r0:addr (mh A.nx rs sz β) i e o=addr β i e o:=by unfold addr;rw[bA hi]
     rw[r0];rcases k6 with k6|⟨c1,c2⟩
     ·obtain⟨g1,g2⟩:=k6 e he;rw[SV.conc_congr s (β:=β) (β':=mh A.nx rs sz β) λH J=>bA (g2 s (zal h) H J).1];exact q.val e (by rw[k3];exact he) o s (by rw[g1];exact h)
     ·obtain rfl:e=0:=by omega
      have m0:=congrArg (λl:zdL=>l[o]?) (rens_conc (sz:=sz) (β:=β) c2).1;simp only[SV.concs_eq,zaL,h,zb0] at m0;cases U0:(B'.get 0)[o]? with
      |none=>rw[U0] at m0;cases m0
      |some r=>
       rw[U0] at m0;simp only[zb0,za1] at m0;rw[<-m0];exact q.val 0 (by rw[k3];exact he) o r U0
   ·rcases x0 j g hj with ⟨H,B',g1,g2,g3,g4,g5,g6⟩|⟨g1,g2⟩
    ·have q:=Y.bc.blk H B' g2 (by rw[g3];simp);have e1:=fG (b:=A.nx) (sz:=sz) (β:=β) g1;refine⟨by rw[e1,q.sz,g4],by rw[e1];exact q.lt,by rw[e1];exact zac g5 q.le,λe he=>by show (g.get x e).length=g.sz;rw[<-g6 e he,q.len e (zam he g5),g4],by rw[e1];simp only[<-g4];exact q.ex,λ_=>by rw[e1];simp only[<-g4];exact q.fr g3, ?_,by rw[e1];exact q.nil,λh=>by cases h⟩;intro e he o s h;have r0:addr (mh A.nx rs sz β) (A.nx+j) e o=addr β H e o:=by unfold addr;rw[e1]
     rw[r0];have z0:=N.cleanG g (zal hj) x e
     rw[SV.conc_congr s (β:=β) (β':=mh A.nx rs sz β) λk V=>by
      have:k∈SV.idss (g.get x e):=SV.mem_idss.2 ⟨s,zal h,V⟩
      rw[z0] at this;cases this]
     exact q.val e (by simp at he;omega) o s (by rw[g6 e he];exact h)
    ·have e1:=fH (b:=A.nx) (sz:=sz) (β:=β) g1;have e2:(mh A.nx rs sz β (A.nx+j)).nil=true:=by rw[e1]
     have e3:(mh A.nx rs sz β (A.nx+j)).cap=0:=by rw[e1]
     refine⟨by rw[e1];exact S1 j g hj,λh=>absurd (e2.symm.trans h) (by decide), ?_, ?_, ?_, ?_, ?_,λ_=>e3,λh=>nomatch h⟩
     ·simp[g2]
     ·intro e he;simp[g2] at he
     ·intro k V;rw[e3] at V;omega
     ·intro _ k V;rw[e3] at V;omega
     ·intro e he;simp[g2] at he
  ·intro i C Z V hn;rcases key i C Z (by rw[V];simp) with ⟨hi,B',k1,k2,_⟩|⟨j,g,rfl,hj,rfl⟩
   ·rw[bA hi] at hn ⊢;exact Y.bc.own i B' k1 (by rw[k2];exact V) hn
   ·rcases x0 j g hj with ⟨H,B',g1,g2,g3,_⟩|⟨g1,_⟩
    ·rw[fG g1] at hn ⊢;exact Y.bc.own H B' g2 g3 hn
    ·rw[fH g1] at hn;cases hn
  ·intro i C Z V hn;rcases key i C Z (by rw[V];simp) with ⟨hi,B',k1,k2,_⟩|⟨j,g,rfl,hj,rfl⟩
   ·rw[bA hi] at hn ⊢;exact Y.bc.old i B' k1 (by rw[k2];exact V) hn
   ·cases V
  ·intro i k C D Z hD Y0 Z0 hn g0 a0;rcases key i C Z (by rw[Y0];simp) with ⟨hi,B',k1,k2,_,_,_,k6,_⟩|⟨j,g,rfl,hj,rfl⟩<;>rcases key k D hD (by rw[Z0];simp) with ⟨V,D',l1,l2,_,_,_,l6,_⟩|⟨j',g',rfl,v1,rfl⟩
   ·rw[bA hi] at hn a0;rw[bA V] at g0 a0;exact Y.bc.inj i k B' D' k1 l1 (by rw[k2];exact Y0) (by rw[l2];exact Z0) hn g0 a0
   ·rcases x0 j' g' v1 with ⟨H,D',g1,g2,g3,_⟩|⟨g1,_⟩
    ·rw[bA hi] at hn a0;rw[fG g1] at g0 a0;have:=Y.bc.inj i H B' D' k1 g2 (by rw[k2];exact Y0) g3 hn g0 a0;subst this;exact absurd (Wd.2 ⟨j',g1⟩) (L0 i hi k6)
    ·rw[fH g1] at g0;cases g0
   ·rcases x0 j g hj with ⟨H,D2,g1,g2,g3,_⟩|⟨g1,_⟩
    ·rw[bA V] at g0 a0;rw[fG g1] at hn a0;have:=Y.bc.inj H k D2 D' g2 l1 g3 (by rw[l2];exact Z0) hn g0 a0;subst this;exact absurd (Wd.2 ⟨j,g1⟩) (L0 H V l6)
    ·rw[fH g1] at hn;cases hn
   ·rcases x0 j g hj with ⟨i1,D1,g1,g2,g3,_⟩|⟨g1,_⟩
    ·rcases x0 j' g' v1 with ⟨i2,D2,f1,f2,f3,_⟩|⟨f1,_⟩
     ·rw[fG g1] at hn a0;rw[fG f1] at g0 a0;have:=Y.bc.inj i1 i2 D1 D2 g2 f2 g3 f3 hn g0 a0;subst this;rw[sK u1 g1 f1]
     ·rw[fH f1] at g0;cases g0
    ·rw[fH g1] at hn;cases hn
  ·intro i C e o s Z e0 he h;rcases key i C Z e0 with ⟨hi,B',k1,k2,k3,k4,k5,_,k6⟩|⟨j,g,rfl,hj,rfl⟩
   ·rcases k6 with k6|⟨c1,c2⟩
    ·exact λH J=>((k6 e he).2 s (zal h) H J).2
    ·obtain rfl:e=0:=by omega
     intro H J;rcases(rens_conc (sz:=sz) (β:=β) c2).2 H (SV.mem_idss.2 ⟨s,zal h,J⟩) with ⟨h1,h2⟩|⟨h1,h2⟩
     ·obtain⟨y,hy,L1⟩:=SV.mem_idss.1 h2;obtain⟨q,hq,e1⟩:=zbR hy;exact O0 H h1 (Y.bc.live i B' 0 q y k1 (by rw[k2];exact e0) (by omega) (by rw[zaa hq,e1]) H L1)
     ·have:=Q0 (H - A.nx) h2;rwa[show A.nx+(H - A.nx)=H by omega] at this
   ·intro H J;have z0:=N.cleanG g (zal hj) x e;have:H∈SV.idss (g.get x e):=SV.mem_idss.2 ⟨s,zal h,J⟩;rw[z0] at this;cases this
  ·intro i hi;have J:A.nx+N.gr.length<=i:=hi;obtain⟨j,rfl⟩:=zd7 (show A.nx<=i by omega);show cX A N x (A.nx+j)=none;rw[od];cases K1:grB x N.gr j with
   |none=>rfl
   |some C=>have:=Wm.1 (by rw[K1];simp:grB x N.gr j≠none);omega
theorem Ar {nx:Nat} {wl ids:zdI} (h:Gs nx wl ids=true) (hi:i∈wl) (N:i<nx):i∈ids:=by
 unfold Gs at h;simp only[zaf,zav] at h;rcases h i hi with h|h
 ·have:=zak h;omega
 ·simp only[zaP] at h;obtain⟨j,J,H⟩:=h;rw[zab H];exact J
def As (P:Program) (W0:Base) (c:Code) (body:(Exit->zdS)->zdS):Prop:=
 ∀(K:Exit->zdS) (A:AS) (β:zdJ) (a:Act) (w:World),body K A->IsX P W0 A β a w->c.wp P (Post P W0 A β K) a w
theorem IsX.frame (h:IsX P W0 A β a w) (wl:zdI):IsX P W0 {A with wl:=wl} β a w:=by
 obtain⟨B,h1,h2,h3,h4⟩:=h;exact⟨B,h1,h2,⟨h3.fr.frame _ _,h3.bc,h3.nx,h3.sd⟩,h4⟩
theorem IsX.endG (h:IsX P W0 A β a w):IsX P W0 (endG A) β a w:=by
 obtain⟨B,h1,h2,h3,h4⟩:=h;exact⟨B,h1,h2,⟨apL h3.fr,h3.bc,h3.nx,h3.sd⟩,h4⟩
theorem adZ: ∀{l:zdK} {o:Nat} {s:SV},l[o]? =some s->gZ l o [s]=l:=by
 intro l o s h;have N:o<l.length:=by
  rcases zah o l.length with H|H
  ·exact H
  ·rw[zad H] at h;cases h
 apply List.ext_getElem?;intro j;rw[jR (show o+ [s].length<=l.length from N)];split
 ·rename_i J;obtain rfl:j=o:=by simp at J;omega
  rw[h];simp
 ·rfl
theorem ach {K:zdS}: ∀{l:List (Nat×Nat×Nat×SV)} {A:AS},aes l A K->K A/\ ∀K':zdS,K' A->aes l A K'
 | [],A,h=>⟨h,λK' J=>J⟩
 |(i,e,o,s)::r,A,h=>by
  simp only[aes] at h ⊢;split at h
  ·rename_i B hB;obtain⟨h1,h2⟩:=h;have hp:B.put e o [s]=B:=by
    have:(B.put e o [s]).get=B.get:=by
     funext j
     rw[Blk.put_get];split
     ·rename_i H;subst H;exact adZ h1
     ·rfl
    show ({B with get:=(B.put e o [s]).get}:Blk)=B;rw[this]
   have N:({A with bl:=upd A.bl i (B.put e o [s])}:AS)=A:=by
    have:upd A.bl i (B.put e o [s])=A.bl:=by
     funext j
     by_cases H:j=i
     ·subst H;rw[az,hp,hB]
     ·rw[ak H]
    rw[this]
   rw[N] at h2;obtain⟨k1,k2⟩:=ach h2;refine⟨k1,λK' J=> ?_⟩;rw[N];exact⟨h1,k2 K' J⟩
  ·exact h.elim
theorem ad0 {K:zdS} {l:List (Nat×Nat×Nat×SV)} (h:aes l A K):K A:=(ach h).1
variable {K:Exit->zdS}
theorem yp {c:Code} {body:(Exit->zdS)->zdS} (hb:As P W0 c body) 
 (h:MV body N K A) (hx:IsX P W0 A β a w):(Code.loop c).wp P (Post P W0 A β K) a w:=by
 obtain⟨x0,h1,h2,h4⟩:=h;have h4:=rO h4;obtain⟨B0,q0,n0,hs,hside0⟩:=hx;have C0: ∀{B:Base} {A':AS} {β' γ:zdJ} {x:N.X} {a':Act} {w':World},SubB B W0->(∀b,B.out b->W0.out b)->SideOK P W0 B A' β'->Is {B with sd:=QI A N x} (rQ A N x) γ a' w'->(∀i,i<A.nx->γ i=β' i)->(∀i,A.bl i≠none->A'.bl i≠none)->
  (A.sd.2=none\/ ∃i t j,A.sd.2=some (i,t)/\A'.sd.2=some (i,N.sb x)/\j=A'.sd.1/\bdE A.sd.1 j=true)->IsX P W0 (rQ A N x) γ a' w':=by
  intro B A' β' γ x a' w' z0 y0 p0 m0 hγ H0 I0;refine⟨{B with sd:=QI A N x},z0,y0,m0,λi t hi=> ?_⟩;have hi:(QI A N x).2=some (i,t):=hi;rcases I0 with J|⟨i0,t0,j,e1,e2,e3,e4⟩
  ·have:QI A N x=A.sd:=by unfold QI;rw[J]
   rw[this,J] at hi;cases hi
  ·have e5:QI A N x=(A.sd.1,some (i0,N.sb x)):=by unfold QI;rw[e1]
   rw[e5] at hi;simp only[za1,zag] at hi;obtain⟨rfl,rfl⟩:=hi;obtain⟨k1,d,at',b,g,k2,k3,Y⟩:=p0 i0 _ e2;obtain⟨l1,_⟩:=hside0 i0 _ e1;have w0:i0<A.nx:=by
    rcases zah i0 A.nx with h|h
    ·exact h
    ·exact absurd (hs.nx i0 h) l1
   have hd:A.sd.1=some d:=by
    rw[e3,k2] at e4;unfold bdE at e4;split at e4
    ·rename_i d1 d2 q1 q2;simp only[za1] at q2;subst q2;simp only[za2,bS,zdt] at e4;rw[q1];obtain⟨a1,a2,a3⟩:=d1;obtain⟨b1,b2,b3⟩:=d;simp only at e4;obtain⟨⟨rfl,rfl⟩,rfl⟩:=e4;rfl
    ·cases e4
   refine⟨?_,d,at',b,g, ?_,k3, ?_⟩
   ·show cX A N x i0≠none;exact(fI w0).1 l1
   ·show (QI A N x).1=some d;rw[e5];exact hd
   ·rw[hγ i0 w0];exact Y
 have Z: ∀{i:Nat} {B:Blk},A.bl i=some B->i<A.nx:=λ{i B} hB=>by
  rcases zah i A.nx with h|h
  ·exact h
  ·rw[hs.nx i h] at hB;cases hB
 have key: ∀(m:Nat) (x:N.X) (a:Act) (w:World) (γ:zdJ),N.mu x<m->N.inv x->IsX P W0 (rQ A N x) γ a w->(∀i,i<A.nx->A.bl i≠none->γ i=β i)->
  Code.rounds P c (Post P W0 A β K) m a w:=by
  intro m
  induction m with
  |zero=>intro x a w γ hm;omega
  |succ m ih=>
   intro x a w γ hm hx m0 hγ;rw[rounds_succ];refine Code.wp_mono ?_ (hb _ _ γ a w (h4 x hx) m0);rintro e a' w' ⟨A',E0,hk,e0,ht⟩;have V: ∀i B,A.bl i=some B-> ∃B',A'.bl i=some B'/\B'.n=B.n/\(B'.sz=B.sz/\B'.nn=B.nn)/\(B'.kd=B.kd\/B'.kd= .gone)/\(i∉N.ids A->i∉A'.wl->B'=B):=by
    intro i B hB;have hi:=Z hB;have hd:cX A N x i≠none:=(fI hi).1 (by rw[hB];simp);cases hC:cX A N x i with
    |none=>exact absurd hC hd
    |some C=>
     obtain⟨B',k1,k2,⟨k3,L0⟩,Y,k5⟩:=ht.tr.keep i C hC;obtain⟨B0,b1,b2,b3,b4,b5,b6⟩:=ary hi hC;rw[hB] at b1;obtain rfl:B=B0:=by simpa using b1
     refine⟨B',k1,by rw[k2,b2],⟨by rw[k3,b3],by rw[L0,b4]⟩, ?_,λJ hw=> ?_⟩
     ·rcases Y with Y|Y
      ·rcases b5 with b5|b5
       ·exact .inl (Y.trans b5)
       ·exact .inr (Y.trans b5.1)
      ·exact .inr Y
     ·unfold Ann.ids at J;simp only[za8,not_or] at J;rcases b6 with ⟨g,_,h1,_,_⟩|⟨_,g,h1,_⟩|⟨_,_,_,h3⟩
      ·exact absurd (zaz.2 ⟨_,h1,rfl⟩) J.1.1
      ·exact absurd (zaz.2 ⟨_,h1,rfl⟩) J.1.2
      ·rw[k5 hw,h3 J.2]
   have g0: ∀i,i<A.nx->A.bl i=none->A'.bl i=none:=λi hi h0=>ht.tr.new i (show i<A.nx+N.gr.length by omega) (by
    cases hC:cX A N x i with
    |none=>exact hC
    |some C=>exact absurd h0 ((fI hi).2 (by rw[hC];simp)))
   have a0: ∀i,i<A.nx->A.bl i≠none->E0 i=β i:=λi J hi=>(ht.tr.same i ((fI J).1 hi)).trans (hγ i J hi);have H: ∀e,e≠ .normal->aes N.fix {A' with wl:=N.ids A++A'.wl++A.wl} (K e)->Post P W0 A β K e a' w':=λe _ hk=>by
    have hk:=ad0 hk;refine⟨_,E0,hk,e0.frame _,⟨⟨?_,λi hi=> ?_,g0⟩,λi hi=>by simp[hi],zac (zd8 _ _) ht.nx,ht.nt⟩⟩
    ·intro i B hB;obtain⟨B',k1,k2,k3,Y,k5⟩:=V i B hB;refine⟨B',k1,k2,k3,Y,λhi=> ?_⟩;simp only[za8,not_or] at hi;exact k5 hi.1.1 hi.1.2
    ·cases hB:A.bl i with
     |none=>exact absurd hB hi
     |some B=>exact a0 i (Z hB) hi
   cases e with
   |normal=>
    obtain⟨g6,x',g1,g2,g3⟩:=Xg.1 hk;obtain⟨B1,r0,o0,v0,hside1⟩:=e0
    obtain⟨δ,d1,d2,d3⟩:=Ci hs.nx hs.bc.live hs.bc.maps.live N x' false v0 ht.nt (λh=>by cases h) (λi B hB=>by
     obtain⟨B',k1,k2,k3,Y,k5⟩:=V i B hB
     exact⟨B',k1,k2,k3,Y,λJ=>k5 J λhw=>J (Ar g6 hw (Z hB))⟩) g0 g3
    refine ih x' a' w' δ (by omega) g1 (C0 r0 o0 hside1 d1 d2 (λi hi=> ?_) d3) λi J hi=>(d2 i J).trans (a0 i J hi);cases hB:A.bl i with
    |none=>exact absurd hB hi
    |some B=>obtain⟨B',k1,_⟩:=V i B hB;rw[k1];simp
   |exit id=>exact H _ (by simp) hk
   |goto l=>exact H _ (by simp) hk
   |ret=>exact H _ (by simp) hk
   |panic ch=>exact H _ (by simp) hk
   |outgrown=>exact H _ (by simp) hk
 obtain⟨δ,d1,d2,d3⟩:=Ci hs.nx hs.bc.live hs.bc.maps.live N x0 true hs rfl (λ_=>rfl) (λi B hB=>⟨B,hB,rfl,⟨rfl,rfl⟩, .inl rfl,λ_=>rfl⟩) (λ_ _ h=>h) h2;exact wp_loop_rounds (N.mu x0+1) (key _ x0 a w δ (by omega) h1 (C0 q0 n0 hside0 d1 d2 (λi hi=>hi) d3) (λi hi _=>d2 i hi))
theorem oe {c:Code} {body:(Exit->zdS)->zdS} (Y:As P W0 c body) {K:Exit->zdS} {A0:AS} {β0:zdJ}: ∀(n:Nat) (A:AS) (β:zdJ) (a:Act) (w:World),
 mK body n K A->IsX P W0 A β a w->Trs A0 β0 A β->Code.rounds P c (Post P W0 A0 β0 K) n a w
 |0,A,β,a,w,h,_,_=>by simp[mK] at h
 |n+1,A,β,a,w,h,hs,V=>by
  simp only[mK] at h;rw[rounds_succ];refine Code.wp_mono ?_ (Y _ A β a w h hs);rintro e Z w' ⟨A',β',N,H,J⟩;cases e with
  |normal=>exact oe Y n A' β' Z w' N H (V.trans J)
  |exit id=>exact⟨A',β',N,H,V.trans J⟩
  |goto l=>exact⟨A',β',N,H,V.trans J⟩
  |ret=>exact⟨A',β',N,H,V.trans J⟩
  |panic ch=>exact⟨A',β',N,H,V.trans J⟩
  |outgrown=>exact⟨A',β',N,H,V.trans J⟩
theorem eV {Γ:zdO} (hΓ:GamOK P W0 Γ) (e0:P.follows .mixedOrders=true) {inl:Inl} (Z: ∀B,SubB B W0->kn P B inl) (N:cF inl) (ann:Nat->Option (AS->Ann)): ∀c:Code,As P W0 c (vc P Γ inl ann c)
 | .skip=>λK A β a w h V=>wp_skip ⟨A,β,h,V,Trs.refl _ _⟩
 | .label l=>λK A β a w h V=>wp_label ⟨A,β,h,V,Trs.refl _ _⟩
 | .seq x y=>λK A β a w h V=>by
   refine wp_seq (Code.wp_mono ?_ (eV hΓ e0 Z N ann x _ A β a w h V));rintro e a' w' ⟨A',β',Y,J,ht⟩;cases e with
   |normal=>exact Code.wp_mono (Post.from ht) (eV hΓ e0 Z N ann y K A' β' a' w' Y J)
   |exit id=>exact⟨A',β',Y,J,ht⟩
   |goto l=>exact⟨A',β',Y,J,ht⟩
   |ret=>exact⟨A',β',Y,J,ht⟩
   |panic ch=>exact⟨A',β',Y,J,ht⟩
   |outgrown=>exact⟨A',β',Y,J,ht⟩
 | .cond c t f=>λK A β a w h V=>by
   simp only[vc] at h;split at h
   ·rename_i b hb;obtain⟨e1,_⟩:=bu (IsX.up V).fr (G:= []) (λp hp=>by cases hp) hb;obtain⟨h1,h2⟩:=VH.1 h;refine wp_cond_split (t:=b) (by simpa [SV.conc] using e1) (λw0=> ?_) (λr0=> ?_)
    ·exact eV hΓ e0 Z N ann t K A β a w (h1 w0) V
    ·exact eV hΓ e0 Z N ann f K A β a w (h2 r0) V
   ·exact h.elim
 | .block id c=>λK A β a w h V=>by
   simp only[vc] at h;refine wp_block (Code.wp_mono ?_ (eV hΓ e0 Z N ann c _ A β a w h V));rintro e a' w' ⟨A',β',Y,J,ht⟩;cases e with
   |exit i=>
    simp only[Exit.inBlock] at Y ⊢;by_cases hi:i=id
    ·subst hi;simp at Y;rw[if_pos rfl];exact⟨A',β',Y,J,ht⟩
    ·have:Nat.beq i id=false:=by rw[bS];simpa using hi
     rw[this] at Y;rw[if_neg hi];exact⟨A',β',Y,J,ht⟩
   |normal=>exact⟨A',β',Y,J,ht⟩
   |goto l=>exact⟨A',β',Y,J,ht⟩
   |ret=>exact⟨A',β',Y,J,ht⟩
   |panic ch=>exact⟨A',β',Y,J,ht⟩
   |outgrown=>exact⟨A',β',Y,J,ht⟩
 | .loop c=>λK A β a w h V=>by
   simp only[vc] at h;split at h
   ·exact wp_loop_rounds 40 (oe (eV hΓ e0 Z N ann c) 40 A β a w h V (Trs.refl _ _))
   ·exact yp (eV hΓ e0 Z N ann c) h V
 | .scope c=>λK A β a w h V=>by
   simp only[vc] at h;refine wp_scope_straight (Code.wp_mono ?_ (eV hΓ e0 Z N ann c _ A β a w h V));rintro e a' w' ⟨A',β',Y,J,ht⟩;cases e with
   |goto l=>exact Y.elim
   |normal=>exact⟨A',β',Y,J,ht⟩
   |exit id=>exact⟨A',β',Y,J,ht⟩
   |ret=>exact⟨A',β',Y,J,ht⟩
   |panic ch=>exact⟨A',β',Y,J,ht⟩
   |outgrown=>exact⟨A',β',Y,J,ht⟩
 | .exit id=>λK A β a w h V=>wp_exit ⟨A,β,h,V,Trs.refl _ _⟩
 | .ret=>λK A β a w h V=>wp_ret ⟨A,β,h,V,Trs.refl _ _⟩
 | .region y0 ops n0=>λK A β a w h V=>by
   simp only[vc] at h;cases n0 with
   |true=>
    simp only[zdr] at h;cases o0:Ac Γ A ops.toList with
    |true=>
     rw[o0] at h;simp only[zdr] at h;obtain⟨v0,h⟩:=Xg.1 h;rw[asl] at h;obtain⟨B,a0,m0,V,g0⟩:=V;exact Aq (hΓ.sub a0) e0 (λC hC=>Z C (hC.trans a0)) N v0 h V (λv A' a' w' β' Y i0 H=>⟨_,β',Y,(IsX.wrap a0 m0 V g0 i0 H).endG,⟨H.tr,H.wl,H.nx,H.nt⟩⟩) λA' a' w' β' Y i0 H=>⟨_,β',Y,(IsX.wrap a0 m0 V g0 i0 H).endG,⟨H.tr,H.wl,H.nx,H.nt⟩⟩
    |false=>
    rw[o0] at h;simp only[zdq] at h;obtain⟨B,a0,m0,V,g0⟩:=V;refine Aj (hΓ.sub a0) e0 (K:=λA' tr=>K .normal {endG A' with nx:=A.nx+ops.size,wl:=alD tr++A.wl}) h V.fr V.bc ?_;intro A' tr a' w' β' Y x0 q0 H h1 h2 h3 p0 h4;have ht:Trs A β {endG A' with nx:=A.nx+ops.size,wl:=alD tr++A.wl} β':=⟨H.mono λi hi=>by simp[hi],λi hi=>by simp[hi],by show A.nx<=A.nx+ops.size;omega,h3⟩;refine⟨_,β',Y,IsX.wrap a0 m0 V g0 ⟨(apL x0).frame _ _,q0, ?_,p0.trans V.sd⟩ ht,ht⟩;exact λi hi=>h4 (λj hj=>V.nx j (by omega)) i hi
   |false=>
    simp only[zdq] at h;refine wp_region_list (sC hΓ Z (A0:=A) (β0:=β) ?_ ?_ ops.toList A a w β h V (Trs.refl _ _))
    ·intro A' a' w' β' Y i0 H;exact⟨_,β',Y,i0.endG,⟨H.tr,H.wl,H.nx,H.nt⟩⟩
    ·intro v A' a' w' β' Y i0 H;exact⟨_,β',Y,i0.endG,⟨H.tr,H.wl,H.nx,H.nt⟩⟩
 | .rangeFunc .. =>λK A β a w h V=>by simp[vc] at h
 | .goto l=>λK A β a w h V=>by simp[vc] at h
 | .refuse s=>λK A β a w h V=>by simp[vc] at h
structure Fr (A A':AS):Prop where
 nxs:NX A'.bl A'.nx
 nx:A.nx<=A'.nx
 wl: ∀j∈A.wl,j∈A'.wl
 keep: ∀j B,A.bl j=some B->j∉A'.wl->A'.bl j=some B
 new: ∀j,j<A.nx->A.bl j=none->A'.bl j=none
theorem Fr.refl (h:NX A.bl A.nx):Fr A A:=⟨h,za0 _,λ_ h=>h,λ_ _ h _=>h,λ_ _ h=>h⟩
theorem Fr.trans {B C:AS} (h:Fr A B) (k:Fr B C):Fr A C:=
 ⟨k.nxs,zac h.nx k.nx,λj H=>k.wl j (h.wl j H),λj D J H=>k.keep j D (h.keep j D J λN=>H (k.wl j N)) H,λj H h0=>k.new j (zam H h.nx) (h.new j H h0)⟩
def NiceS (A:AS) (T:(Exit->zdS)->Prop):Prop:=Nice (λo:Exit×AS=>Fr A o.2) λK=>T λe A'=>K (e,A')
variable {A1:AS}
theorem NiceS.one (e1:Exit) (h:Fr A A1):NiceS A (λK=>K e1 A1):=Nice.one (o:=(e1,A1)) h
variable {T:(Exit->zdS)->Prop}
theorem NiceS.no (h: ∀K,¬T K):NiceS A T:=Nice.no λK=>h _
theorem NiceS.mono (h:NiceS A T) {K':Exit->zdS} (H:T K) (J: ∀e A',Fr A A'->K e A'->K' e A'):T K':=
 Nice.mono (K:=λo=>K o.1 o.2) (K':=λo=>K' o.1 o.2) h H λo N=>J o.1 o.2 N
theorem NiceS.bind (h:NiceS A T) {F:(Exit->zdS)->Exit->zdS} (hF: ∀e H,Fr A H->NiceS H (λK=>F K e H)):NiceS A (λK=>T (F K)):=
 Nice.bind (F:=λK o=>F (λe A'=>K (e,A')) o.1 o.2) h λo N=>(hF o.1 o.2 N).weak λo' J=>N.trans J
theorem NiceS.need (h:NiceS A T) (b:Bool):NiceS A (λK=>af b (T K)):=Nice.need h b
variable {KP:(Exit->zdS)->Value->zdS} {d:Option Tmp}
theorem NiceS.out {T:Aft->Prop} (h:NiceT A.bl A.nx [] T) {F:(Exit->zdS)->List Nat->zdS}
 (V: ∀v A1,Fr A A1->NiceS A1 (λK=>KP K v A1)) (hF: ∀wl A1,Fr A A1->(∀j∈wl,j∈A1.wl)->NiceS A1 (λK=>F K wl A1)):NiceS A (λK=>T (uR A d (KP K) (F K))):=by
 refine Nice.bind (O:=Out) (F:=λK o=>uR A d (KP λe A'=>K (e,A')) (F λe A'=>K (e,A')) o.r o.b o.n o.w) h λo N=> ?_;have fr: ∀tm,Fr A ({A with tm:=tm,bl:=o.b,nx:=o.n,wl:=o.w++A.wl}:AS):=λtm=>⟨N.nxs,N.le,λj J=>by simp[J],λj B hB J=>N.keep j B hB λY=>J (by simp[Y]),N.new⟩;obtain⟨r,b,n,w⟩:=o;cases r with
 |pan v=>exact Nice.weak (V v _ (fr A.tm)) λo' H=>(fr A.tm).trans H
 |ok r=>
  simp only[uR];split
  ·rename_i A' hp;obtain⟨rfl,_⟩:=Wa.1 hp;exact Nice.weak (hF w _ (fr _) λj J=>by simp[J]) λo' H=>(fr _).trans H
  ·exact Nice.no λ_ h=>h
theorem j3 (h:Fr A A1):Fr A (endG A1):=⟨h.nxs,h.nx,h.wl,h.keep,h.new⟩
variable {Γ:zdO} {ops:zdP} {o:Oper} {D:Dl}
theorem GE (J:NX A.bl A.nx) (st:Stp P Γ ops A.nx o A D):Fr A {app D A.nx A with nx:=A.nx+1,wl:=(aV A.nx D.E).2++A.wl}:=by
 have tr:=gN (nx:=A.nx) st.fresh (za0 _) D.E (β:=λ_=>⟨0,0,0,0,false⟩) (β':=λ_=>⟨0,0,0,0,false⟩) (λ_ _=>rfl);refine⟨J.apply D.E (by omega) (za0 _),by show A.nx<=A.nx+1;omega,λj H=>by simp[H],λj B hB H=> ?_,λj H h0=>tr.new j H h0⟩;obtain⟨B',h1,_,_,_,h5⟩:=tr.keep j B hB;have:j∉wrI D.E:=λh=>H (by simp[aV,h]);rw[h5 this] at h1;exact h1
theorem Km (H:NX A.bl A.nx) (J:RO D):Fr A (app D A.nx A):=by
 rw[fh J];exact⟨H,za0 _,λ_ h=>h,λ_ _ h _=>h,λ_ _ h=>h⟩
theorem Ck {v:SV} (h:NX A.bl A.nx) (hp:putD A d (.v v)=some A1):Fr A A1:=by
 obtain⟨rfl,_⟩:=Wa.1 hp;exact⟨h,za0 _,λ_ h=>h,λ_ _ h _=>h,λ_ _ h=>h⟩
theorem sM {O:Type} {I:O->Prop} {t:TypeId} {k:SV} {F:(O->Prop)->Option SV->Prop} (hF: ∀r,Nice I λK=>F K r): ∀{l:List (SV×SV)},Nice I (λK=>uU P t k (F K) l)
 | []=>hF none
 |(H,v)::l=>by
  simp only[uU];split
  ·rename_i b _;cases b with
   |true=>exact hF (some v)
   |false=>exact sM hF
  ·exact Nice.no λ_ h=>h
variable {inl:Inl} {F:(Exit->zdS)->zdS}
theorem afJ (V:cF inl) (h:NX A.bl A.nx) (hF: ∀J,Fr A J->NiceS J (λK=>F K J)):
 NiceS A (λK=>agn P Γ inl ops (λv A'=>K (pex v) (endG A')) o A (F K)):=by
 unfold agn;split
 ·split
  ·rename_i J hp;obtain⟨rfl,_⟩:=Wa.1 hp;exact Nice.weak (hF _ ⟨h,za0 _,λ_ h=>h,λ_ _ h _=>h,λ_ _ h=>h⟩) λo N=>⟨N.nxs,N.nx,N.wl,N.keep,N.new⟩
  ·exact NiceS.no λ_ h=>h
 split
 ·rename_i T H;have Z: ∀{T:(zdR)->Prop},R4 P A o=some T->Nice (λ_:SV=>True) T:=by
   intro T H;unfold R4 at H;split at H
   ·split at H
    ·split at H
     ·split at H
      ·split at H
       ·rename_i l _ _ _;simp only[za1] at H;subst H;exact sM λr=>by
         cases r with
         |none=>exact Nice.one trivial
         |some v=>exact Nice.one trivial
       ·cases H
      ·cases H
     ·cases H
    ·cases H
   ·cases H
  refine Nice.bind (O:=SV) (F:=λ(K:Exit×AS->Prop) s=>match putD A o.dst (.v s) with
   |some A'=>F (λe A'=>K (e,A')) A'
   |none=>False) (Z H) λs _=> ?_
  split
  ·rename_i J hp;have f:=Ck h hp;exact Nice.weak (hF J f) λo N=>f.trans N
  ·exact Nice.no λ_ h=>h
 split
 ·rename_i T H;exact NiceS.out (pj V h H) (KP:=λK v A'=>K (pex v) (endG A')) (F:=λK _ A'=>F K A')
   (λv J fr=>NiceS.one _ (j3 (Fr.refl fr.nxs))) λwl J fr _=>hF J fr
 ·split
  ·rename_i b J f Y;cases b with
   |false=>exact NiceS.no λ_ h=>h
   |true=>
    obtain⟨D,st,rfl,rfl⟩:=VV.1 Y;have fr:=GE h st;exact Nice.weak (hF _ fr) λo N=>fr.trans N
  ·exact NiceS.no λ_ h=>h
theorem pp: ∀(k:Nat) (A:AS) (t:Nat) (F:(Exit->zdS)->zdS),NX A.bl A.nx->(∀H,Fr A H->NiceS H (λK=>F K H))->NiceS A (λK=>aaQ k A t (F K))
 |0,A,t,F,h,hF=>NiceS.no λ_ h=>h
 |k+1,A,t,F,h,hF=>by
  have lit: ∀c,Fr A (mH A t c):=λc=>⟨h,za0 _,λ_ h=>h,λ_ _ h _=>h,λ_ _ h=>h⟩;simp only[aaQ];split
  ·rename_i c _;cases A.lit.any (Nat.beq t) with
   |true=>exact hF A (Fr.refl h)
   |false=>
    cases c with
    |true=>exact Nice.weak (hF _ (lit true)) λo N=>(lit true).trans N
    |false=>exact Nice.weak (hF _ (lit false)) λo N=>(lit false).trans N
  ·exact hF A (Fr.refl h)
  ·rename_i u _ _ _;exact pp k A u (λK A'=>aaQ k A' t (F K)) h λH fr=>pp k H t F fr.nxs λV J=>hF V (fr.trans J)
  ·exact NiceS.no λ_ h=>h
theorem auA {d:BD} {b:Bool} (h:NX A.bl A.nx) (H:adW A o=some (d,b,some A1)):Fr A A1:=by
 have J:=h A.nx (za0 _);unfold adW at H;split at H
 ·cases H
 split at H
 ·rename_i t _ _;revert H;generalize Nat.beq t _=c;cases c with
  |false=>intro H;cases H
  |true=>
   intro H;simp only[zdr,za1,zag] at H;obtain⟨rfl,_⟩:=Wa.1 H.2.2
   exact⟨λi hi=>by
    show upd A.bl A.nx zP i=none;have hi:A.nx+1<=i:=hi;rw[ak (by omega)];exact h i (by omega),zaT _,λj N=>zan _ N,λj B hB _=>by
    show upd A.bl A.nx zP j=some B;rw[ak (λe=>by rw[e,J] at hB;cases hB)];exact hB,λj N h0=>by
    show upd A.bl A.nx zP j=none
    rw[ak (by omega)];exact h0⟩
 ·split at H
  ·rename_i f args x t _ _;have key: ∀{r:SV} {s:Option BD×Option (Nat×ByteArray)},putD {A with sd:=s} o.dst (.v r)=some A1->Fr A A1:=λhp=>by
    obtain⟨rfl,_⟩:=Wa.1 hp;exact⟨h,za0 _,λ_ h=>h,λ_ _ h _=>h,λ_ _ h=>h⟩
   revert H;generalize Nat.beq f _=V;generalize Nat.beq f _=c2;intro H;cases V with
   |true=>
    simp only[zdr] at H;split at H
    ·simp only[za1,zag] at H;exact key H.2.2
    ·cases H
   |false=>
   cases c2 with
   |true=>
    simp only[zdr,zdq] at H;split at H
    ·simp only[za1,zag] at H;exact key H.2.2
    ·cases H
   |false=>simp only[zdq] at H;cases H
  ·cases H
 ·cases H
theorem Nice.prop {O:Type} {I:O->Prop} {T:(O->Prop)->Prop} (h:Nice I T) (p:Prop):Nice I (λK=>p/\T K):=⟨λH J=>⟨H.1,h.mono H.2 J⟩,λH=>h.ne H.2⟩
theorem vp (J:cF inl) (h:NX A.bl A.nx) (hF: ∀H,Fr A H->NiceS H (λK=>F K H)):
 NiceS A (λK=>aeq P Γ inl ops (λv A'=>K (pex v) (endG A')) o A (F K)):=by
 unfold aeq;split
 ·rename_i d b r N
  refine Nice.prop (Nice.need (T:=λK=>match r with
   |some A'=>F (λe A'=>K (e,A')) A'
   |none=>False) ?_ b) _
  cases r with
  |none=>exact Nice.no λ_ h=>h
  |some H=>exact Nice.weak (hF H (auA h N)) λo V=>(auA h N).trans V
 ·exact afJ J h hF
theorem lM {Γ:zdO} {inl:Inl} (J:cF inl) {ops:zdP}: ∀(H:List Oper) (A:AS),NX A.bl A.nx->NiceS A (λK=>mI P Γ inl ops (λv A'=>K (pex v) (endG A')) H A λA'=>K .normal (endG A'))
 | [],A,h=>NiceS.one _ (j3 (Fr.refl h))
 |o::H,A,h=>by
  simp only[mI];split
  ·rename_i t b _;refine pp 9 A t (λK A'=>wm A' t b o.dst (λA'=>aeq P Γ inl ops (λv A'=>K (pex v) (endG A')) {o with guard:=none} A' λA'=>mI P Γ inl ops (λv A'=>K (pex v) (endG A')) H A' λA'=>K .normal (endG A')) λA'=>mI P Γ inl ops (λv A'=>K (pex v) (endG A')) H A' λA'=>K .normal (endG A')) h λY fr=> ?_
   have skip:NiceS Y (λK=>match putD Y o.dst (.v (.val undef)) with
    |some A'=>mI P Γ inl ops (λv A'=>K (pex v) (endG A')) H A' λA'=>K .normal (endG A')
    |none=>False):=by
    split
    ·rename_i V hp;have f:=Ck fr.nxs hp;exact Nice.weak (lM J H V f.nxs) λo Z=>f.trans Z
    ·exact NiceS.no λ_ h=>h
   unfold wm;split
   ·rename_i c _;cases (bif b then c else !c) with
    |true=>exact vp J fr.nxs (F:=λK A'=>mI P Γ inl ops (λv A'=>K (pex v) (endG A')) H A' λA'=>K .normal (endG A')) λV N=>lM J H V N.nxs
    |false=>exact skip
   ·exact skip
   ·exact NiceS.no λ_ h=>h
  ·exact vp J h (F:=λK A'=>mI P Γ inl ops (λv A'=>K (pex v) (endG A')) H A' λA'=>K .normal (endG A')) λV N=>lM J H V N.nxs
theorem yq (J:cF inl) (h:NX A.bl A.nx) {F:(Exit->zdS)->Bool->List Nat->List Nat->zdS}
 (Z: ∀v H,Fr A H->NiceS H (λK=>KP K v H)) (hF: ∀a b c H,Fr A H->NiceS H (λK=>F K a b c H)):NiceS A (λK=>opT P Γ inl ops A o (KP K) (F K)):=by
 unfold opT;split
 ·rename_i T hb;exact NiceS.out (fF J h hb) (KP:=KP) (F:=λK wl A'=>F K true [] wl A') Z λwl H fr _=>hF _ _ _ H fr
 ·split
  ·rename_i b H f V;cases b with
   |false=>exact NiceS.no λ_ h=>h
   |true=>
    obtain⟨D,st,rfl,rfl⟩:=VV.1 V;show NiceS A λK=>match (aV A.nx D.E).2 with
     | []=>_
     |j::l=>_
    split
    ·rename_i N;have fr:=Km h (VZ.1 N);exact Nice.weak (hF _ _ _ _ fr) λo Y=>fr.trans Y
    ·rename_i j l N;have fr:=GE h st;rw[N] at fr;exact Nice.weak (hF _ _ _ _ fr) λo Y=>fr.trans Y
  ·exact NiceS.no λ_ h=>h
theorem jy {Γ:zdO} {inl:Inl} (H:cF inl) {ops:zdP} {pre:Nat->zdI} {m:Bool} {KN:(Exit->zdS)->Value->zdS} (N: ∀v A1,NX A1.bl A1.nx->NiceS A1 (λK=>KN K v A1)): ∀(J:zdI) (A:AS) (h:Nat->Option Hst),NX A.bl A.nx->
 NiceS A (λK=>n5 P Γ inl ops pre m (KN K) (λv A'=>K (pex v) (endG A')) J A h λA'=>K .normal (endG A'))
 | [],A,h,V=>NiceS.one _ (j3 (Fr.refl V))
 |i::J,A,h,V=>by
  simp only[n5];split
  ·exact NiceS.no λ_ h=>h
  ·rename_i o Z;cases Y:qE ops i with
   |true=>
    exact yq H V (KP:=λK v A'=>K (pex v) (endG A')) (λv A1 fr=>NiceS.one _ (j3 (Fr.refl fr.nxs))) λa b c A1 fr=>(jy H N J A1 _ fr.nxs).need _
   |false=>
    exact yq H V (KP:=KN) (λv A1 fr=>N v A1 fr.nxs) λa b c A1 fr=>(jy H N J A1 _ fr.nxs).need _
theorem ab9: ∀(v:Value) (A1:AS),NX A1.bl A1.nx->NiceS A1 (λK=>noP v A1):=λv A1 _=>NiceS.no λ_ h=>h
theorem NiceS.killed (h:NiceS (acw A l) T):NiceS A T:=by
 unfold NiceS at*
 exact Nice.weak h λo H=>⟨H.nxs,H.nx,H.wl,H.keep,H.new⟩
theorem D4 (H:cF inl) (A:AS) (h:NX A.bl A.nx):NiceS A (λK=>Gm P Γ inl ops (λv A'=>K (pex v) (endG A')) A λA'=>K .normal (endG A')):=by
 unfold Gm;split
 ·split
  ·split
   ·exact jy H (KN:=λ_=>noP) ab9 _ A _ h
   ·exact NiceS.need (jy H (KN:=λK v A'=>K (pex v) (endG (acO A'))) (λv J h1=>NiceS.one _ ⟨h1,za0 _,λ_ h=>h,λ_ _ h _=>h,λ_ _ h=>h⟩) _ A _ h) _
  ·exact NiceS.need (NiceS.killed (jy H (KN:=λ_=>noP) ab9 _ (acw A _) _ h)) _
 ·exact((jy H (KN:=λ_=>noP) ab9 _ A _ h).and (jy H (KN:=λ_=>noP) ab9 _ A _ h)).need _
theorem sN {Γ:zdO} {ops:zdP} {base:Nat} {K:AS->List ga->Prop}: ∀(H:List Oper) (i:Nat) (A:AS) (tr:List ga),rK P Γ ops base H i A tr K->
 ∃A' J,K A' (tr.reverse++J)/\(∀K',K' A' (tr.reverse++J)->rK P Γ ops base H i A tr K')/\A'.nx=A.nx/\A'.wl=A.wl/\(∀j B,A.bl j=some B->j∉alD J->A'.bl j=some B)/\ ∀j,(j<base+i\/base+i+H.length<=j)->A.bl j=none->A'.bl j=none
 | [],i,A,tr,h=>⟨A, [],by simpa [rK] using h,λK' h=>by simpa [rK] using h,rfl,rfl,λ_ _ h _=>h,λ_ _ h=>h⟩
 |o::H,i,A,tr,h=>by
  simp only[rK] at h ⊢;split at h
  ·rename_i b A1 f hs;obtain⟨hb,h⟩:=Xg.1 h;subst hb;obtain⟨A',J,h1,h2,h3,h4,h5,h6⟩:=sN H (i+1) A1 (f::tr) h;obtain⟨D,st,rfl,rfl⟩:=VV.1 hs;have a0:=gN (nx:=base+i) st.fresh (za0 _) D.E (β:=λ_=>⟨0,0,0,0,false⟩) (β':=λ_=>⟨0,0,0,0,false⟩) (λ_ _=>rfl);refine⟨A',aV (base+i) D.E::J,by simpa using h1,λK' Y=>Xg.2 ⟨rfl,h2 K' (by simpa using Y)⟩,h3,h4,λj B hB V=> ?_,λj V h0=> ?_⟩
   ·simp only[alD,za8,not_or] at V;obtain⟨B',k1,_,_,_,k5⟩:=a0.keep j B hB;have:j∉wrI D.E:=λh=>V.1 (by simp[aV,h]);exact h5 j B (by show VO A.bl (base+i) D.E j=some B;rw[k1,k5 this]) V.2
   ·refine h6 j (by simp only[za4] at V;omega) ?_;show VO A.bl (base+i) D.E j=none;have Z:j≠base+i:=by simp only[za4] at V;omega
    rw[jX ?_ ?_]
    ·exact h0
    ·intro N;have src:=st.src;unfold Src at src;cases hg:o.guard with
     |none=>rw[hg] at src;exact Gy src.2.2.2 N h0
     |some p=>
      obtain⟨jj,bb⟩:=p;rw[hg] at src;obtain⟨t,g,_,_,_,_,k5,_⟩:=src;simp[wrI,k5] at N
    ·intro N;unfold nwI at N;split at N
     ·simp at N;exact Z N
     ·cases N
  ·exact h.elim
theorem fQ {Γ:zdO} {inl:Inl} (H:cF inl) (ann:Nat->Option (AS->Ann)): ∀(c:Code) (A:AS),NX A.bl A.nx->NiceS A (λK=>vc P Γ inl ann c K A)
 | .skip,A,h=>NiceS.one .normal (Fr.refl h)
 | .label l,A,h=>NiceS.one .normal (Fr.refl h)
 | .exit id,A,h=>NiceS.one (.exit id) (Fr.refl h)
 | .ret,A,h=>NiceS.one .ret (Fr.refl h)
 | .seq x y,A,h=>NiceS.bind (fQ H ann x A h) (F:=λK e A'=>match e with
    | .normal=>vc P Γ inl ann y K A'
    |e=>K e A') λe Z fr=>by
   cases e with
   |normal=>exact fQ H ann y Z fr.nxs
   |_=>exact NiceS.one _ (Fr.refl fr.nxs)
 | .cond c t f,A,h=>by
   simp only[vc];split
   ·rename_i b _;cases b with
    |true=>exact fQ H ann t A h
    |false=>exact fQ H ann f A h
   ·exact NiceS.no λK h=>h
 | .block id c,A,h=>NiceS.bind (fQ H ann c A h) (F:=λK e A'=>match e with
    | .exit i=>bif Nat.beq i id then K .normal A' else K (.exit i) A'
    |e=>K e A') λe Z fr=>by
   cases e with
   |exit i=>
    simp only[];cases Nat.beq i id with
    |true=>exact NiceS.one _ (Fr.refl fr.nxs)
    |false=>exact NiceS.one _ (Fr.refl fr.nxs)
   |_=>exact NiceS.one _ (Fr.refl fr.nxs)
 | .scope c,A,h=>NiceS.bind (fQ H ann c A h) (F:=λK e A'=>match e with
    | .goto _=>False
    |e=>K e A') λe Z fr=>by
   cases e with
   |goto l=>exact NiceS.no λK h=>h
   |_=>exact NiceS.one _ (Fr.refl fr.nxs)
 | .loop c,A,h=>by
   simp only[vc];split
   ·have key: ∀n A,NX A.bl A.nx->NiceS A (λK=>mK (vc P Γ inl ann c) n K A):=by
     intro n
     induction n with
     |zero=>intro A _;exact NiceS.no λK h=>h
     |succ n ih=>
      intro A h
      exact NiceS.bind (fQ H ann c A h) (F:=λK e A'=>match e with
       | .normal=>mK (vc P Γ inl ann c) n K A'
       |e=>K e A') λe Z fr=>by
        cases e with
        |normal=>exact ih Z fr.nxs
        |_=>exact NiceS.one _ (Fr.refl fr.nxs)
    exact key 40 A h
   ·rename_i N0 _;generalize N0 A=N;have g0: ∀x:N.X,NX (rQ A N x).bl (rQ A N x).nx:=by
     intro x i hi;have o0:A.nx+N.gr.length<=i:=hi;obtain⟨j,rfl⟩:=zd7 (show A.nx<=i by omega);show cX A N x (A.nx+j)=none;rw[od];cases n0:grB x N.gr j with
     |none=>rfl
     |some C=>have:=Wm.1 (by rw[n0];simp:grB x N.gr j≠none);omega
    have fr: ∀(x:N.X) (A':AS),Fr (rQ A N x) A'->Fr A {A' with wl:=N.ids A++A'.wl++A.wl}:=by
     intro x A' f;have dom: ∀{j B},A.bl j=some B->j<A.nx:=λ{j B} hB=>by
      rcases zah j A.nx with h'|h'
      ·exact h'
      ·rw[h j h'] at hB;cases hB
     refine⟨f.nxs,zac (zd8 _ _) f.nx,λj V=>by simp[V],λj B hB V=> ?_,λj V h0=>f.new j (show j<A.nx+N.gr.length by omega) ?_⟩
     ·simp only[za8,not_or] at V;have e0:=dom hB;refine f.keep j B ?_ V.1.2;have hd:cX A N x j≠none:=(fI e0).1 (by rw[hB];simp);show cX A N x j=some B;cases hC:cX A N x j with
      |none=>exact absurd hC hd
      |some C=>
       obtain⟨B0,b1,_,_,_,_,b6⟩:=ary e0 hC;rw[hB] at b1;obtain rfl:B=B0:=by simpa using b1
       have hn:=V.1.1;unfold Ann.ids at hn;simp only[za8,not_or] at hn;rcases b6 with ⟨g,_,h1,_,_⟩|⟨_,g,h1,_⟩|⟨_,_,_,h3⟩
       ·exact absurd (zaz.2 ⟨_,h1,rfl⟩) hn.1.1
       ·exact absurd (zaz.2 ⟨_,h1,rfl⟩) hn.1.2
       ·rw[h3 hn.2]
     ·cases hC:cX A N x j with
      |none=>exact hC
      |some C=>exact absurd h0 ((fI V).2 (by rw[hC];simp))
    have nb:=λx=>fQ (Γ:=Γ) H ann c (rQ A N x) (g0 x);refine⟨λ{K K'} Y hm=> ?_,λY=> ?_⟩
    ·obtain⟨x0,i0,m0,J⟩:=Y;refine⟨x0,i0,m0,Ke J λx hx=>(nb x).mono (rO J x hx) λe A' f hk=> ?_⟩;cases e with
     |normal=>exact hk
     |_=>
      have k:=ach hk;exact k.2 _ (hm (_,_) (fr x A' f) k.1)
    ·obtain⟨x0,i0,_,J⟩:=Y;have J:=rO J;have key: ∀m (x:N.X),N.mu x<m->N.inv x->False:=by
      intro m
      induction m with
      |zero=>intro x hm;omega
      |succ m ih=>
       intro x hm hx;refine(nb x).ne ((nb x).mono (J x hx) λe A' _ hk=> ?_);cases e with
       |normal=>
        obtain⟨_,x',g1,g2,_⟩:=Xg.1 hk;exact ih x' (by omega) g1
       |_=>exact ad0 hk
     exact key _ x0 (zcy _) i0
 | .region p0 ops a0,A,h=>by
   simp only[vc];cases a0 with
   |true=>
    simp only[zdr];cases Ac Γ A ops.toList with
    |true=>
     simp only[zdr];simp only[asl];exact(D4 H A h).need _
    |false=>
     simp only[zdq];refine⟨λ{K K'} Y hm=> ?_,λY=> ?_⟩
     ·obtain⟨A',q0,h1,h2,h3,h4,h5,h6⟩:=sN ops.toList 0 A [] Y;obtain⟨hb,h1⟩:=Xg.1 h1;refine h2 _ (Xg.2 ⟨hb,hm (.normal,_) ⟨λj V=>h6 j (.inr (by simpa using V)) (h j (by have:A.nx+ops.size<=j:=V;omega)),by show A.nx<=A.nx+ops.size;omega,λj V=>by simp[V],λj B hB V=> ?_,λj V h0=>h6 j (.inl (by omega)) h0⟩ h1⟩);simp only[za8,not_or] at V;exact h5 j B hB V.1
     ·obtain⟨_,_,h1,_⟩:=sN ops.toList 0 A [] Y;exact(Xg.1 h1).2
   |false=>
    simp only[zdq];exact lM H ops.toList A h
 | .rangeFunc ..,A,h=>NiceS.no λK h=>h
 | .goto l,A,h=>NiceS.no λK h=>h
 | .refuse s,A,h=>NiceS.no λK h=>h
end
section
variable {P:Program} {W0:Base}
def VU (P:Program) (W0:Base) (f:FuncId) (k:MCtr):Prop:=
 ∀(bl:zdM) (β:zdJ) (w:World) (nx:Nat) (args:zdK) (C:RC),BC W0 bl β w->(∀j B,bl j=some B->B.kd.it=false)->NX bl nx->(∀s∈args,Live bl s)->k bl nx args=some C->C.pre=true->
  Calls P f (SV.concs β args).toArray w λe w'=> ∃x,C.spec x/\ ∃β',Ends β' (C.res x) e/\BC W0 (fv (chB bl (C.ch x)) nx (C.nw x)) β' w'/\(∀i,bl i≠none->β' i=β i)/\sg (fv (chB bl (C.ch x)) nx (C.nw x)) (C.res x)
def pq:Option Value->FrameMode
 |none=> .returning
 |some v=> .panicking [{v:=v,recovered:=false}]
def Wz (P:Program) (W0:Base) (f:FuncId) (k:DCtr):Prop:=
 ∀(m:Option Value) (bl:zdM) (β:zdJ) (w:World) (args:zdK) (m':Option Value) (ch:List (Nat×Blk)),BC W0 bl β w->(∀s∈args,Live bl s)->k m bl args=some (true,m',ch)->x8 bl ch=true->
  V0 P f/\CallsD P f (SV.concs β args).toArray (pq m) w λe H w'=>(∃v,e= .returned v)/\settle H=pq m'/\BC W0 (chB bl ch) β w'
def Cl (tmps:Array Value):ResultVar->Sem Value
 | .tmp t=>pure (tmps.getD t undef)
 | .cell x t=>do loadVar t (<-asAddr (tmps.getD x undef))
theorem At (fn:Func) (tmps:Array Value):results fn tmps=(do let vs <-fn.results.mapM (Cl tmps);pure (if h:vs.size=1 then vs[0] else .tuple vs)):=by
 unfold results
 congr 2
theorem mT {β:zdJ} {A:AS} {a:Act} {w:World} (N:Is W0 A β a w): ∀(l:List ResultVar) (b:Bool) (r:zdK),ur P A l=some (b,r)->b=true->
 (l.mapM (Cl a.tmps)).run P w= .ok (SV.concs β r) w/\ ∀s∈r,Live A.bl s
 | [],b,r,h,J=>by
   simp only[ur,za1,zag] at h;obtain⟨rfl,rfl⟩:=h;simp[SV.concs]
 | .tmp t::l,b,r,h,J=>by
   simp only[ur] at h;split at h
   ·rename_i s b' Z Y V;simp only[za1,zag] at h;obtain⟨rfl,rfl⟩:=h;obtain⟨h1,h2⟩:=mT N l _ Z V J;obtain⟨k1,k2⟩:=N.fr.v t s Y;refine⟨?_,λx H=> ?_⟩
    ·simp only[zcB,zdF,Cl,zdG,zdE,h1,k1,SV.concs]
    ·simp only[zai] at H;rcases H with rfl|H
     ·exact k2
     ·exact h2 x H
   ·cases h
 | .cell x t::l,b,r,h,J=>by
   simp only[ur] at h;split at h
   ·rename_i s b' Z Y V;split at h
    ·rename_i E hE;simp only[za1,zag] at h;obtain⟨h0,rfl⟩:=h;rw[<-h0] at J;simp only[za2] at J;obtain⟨h1,h2⟩:=mT N l _ Z V J.2;obtain⟨k1,k2⟩:=N.fr.v x s Y;obtain⟨ad,l1,l2,l3,l4,l5⟩:=qe (P:=P) N.bc hE J.1;refine⟨?_,λx H=> ?_⟩
     ·simp only[zcB,zdF,Cl,k1,l1,asAddr,zdG,zdE,l2,h1,SV.concs]
     ·simp only[zai] at H;rcases H with rfl|H
      ·exact l3
      ·exact h2 x H
    ·cases h
   ·cases h
variable {β:zdJ} {A:AS} {a:Act} {w:World} {b:Bool}
theorem uv (J:Is W0 A β a w) {fn:Func} {r:zdK} (h:ur P A fn.results.toList=some (b,r)) (H:b=true):
 (results fn a.tmps).run P w= .ok ((auq r).conc β) w/\Live A.bl (auq r):=by
 obtain⟨h1,h2⟩:=mT (P:=P) J _ b r h H;refine⟨?_, ?_⟩
 ·rw[At,zdd];simp only[zdF,Sem.run_map,h1,zdE,zdG]
  congr 1
  cases r with
  |nil=>simp[SV.concs,auq,SV.conc]
  |cons s l=>
   cases l with
   |nil=>simp[SV.concs,auq]
   |cons V l=>simp[SV.concs,auq,SV.conc]
 ·cases r with
  |nil=>intro i hi;simp[auq,SV.ids,SV.idss] at hi
  |cons s l=>
   cases l with
   |nil=>exact h2 s (by simp)
   |cons V l=>
    intro i hi;simp only[auq,SV.ids] at hi;obtain⟨x,N,hi⟩:=SV.mem_idss.1 hi;exact h2 x N i hi
theorem yu (β:zdJ) (args:zdK) (nt:Nat) (bl:zdM) (nx:Nat) (wl:zdI) (hq:Bool) (hl: ∀s∈args,Live bl s):
 FR β (fB args nt bl nx wl hq) {tmps:=(SV.concs β args).toArray++Array.replicate (nt - (SV.concs β args).toArray.size) undef,defers:= []}:=by
 have J:(SV.concs β args).length=args.length:=by rw[SV.concs_eq];simp
 refine⟨⟨rfl,λ_ h=>by cases h⟩, ?_, ?_, ?_, ?_⟩
 ·simp[fB,J];omega
 ·intro t s H;simp only[fB] at H;split at H
  ·rename_i s' V;simp only[TV.v.injEq] at H;subst H;have Y:t<args.length:=by
    rcases zah t args.length with h|h
    ·exact h
    ·rw[zad h] at V;cases V
   refine⟨?_,hl _ (zal V)⟩;rw[zcG,Array.getElem?_append_left (by simp[J];exact Y)];simp[SV.concs_eq,V]
  ·rename_i V;cases N:Nat.blt t nt with
   |false=>rw[N] at H;simp at H
   |true=>
    rw[N] at H;simp only[zdr,TV.v.injEq] at H;subst H;have Z:args.length<=t:=by
     rcases zah t args.length with h|h
     ·rw[zaa h] at V;cases V
     ·exact h
    have Y:t<nt:=by simpa [zb2] using N
    refine⟨?_,λi hi=>by simp[SV.ids] at hi⟩;rw[zcG,Array.getElem?_append_right (by simp[J];exact Z)];have hz:t - (SV.concs β args).toArray.size<nt - (SV.concs β args).toArray.size:=by simp[J];omega
    rw[Array.getElem?_replicate,if_pos hz];rfl
 ·intro t u b s H;simp only[fB] at H;split at H
  ·cases H
  ·cases N:Nat.blt t nt<;>rw[N] at H<;>simp at H
 ·intro t u b s H;simp only[fB] at H;split at H
  ·cases H
  ·cases N:Nat.blt t nt<;>rw[N] at H<;>simp at H
variable {an:Nat->Option (AS->Ann)}
theorem ae5 (h:FR β A a):FR β (sa an A) a:=by
 unfold sa;split
 ·exact h.side _
 ·exact h
theorem eA (H:Nat->Option (AS->Ann)) (A:AS):(sa H A).bl=A.bl/\(sa H A).nx=A.nx/\(sa H A).wl=A.wl/\(sa H A).nt=A.nt:=by
 unfold sa;split<;>exact⟨rfl,rfl,rfl,rfl⟩
theorem adi (h:A.sd.2=none):(sa an A).sd.2=none:=by
 unfold sa;split
 ·rfl
 ·exact h
theorem Fr.ofBd {A':AS} (h:Fr (sa an A) A'):Fr A A':=by
 obtain⟨H,J,N,_⟩:=eA an A;exact⟨h.nxs,by rw[<-J];exact h.nx,by rw[<-N];exact h.wl,by rw[<-H];exact h.keep,by rw[<-H,<-J];exact h.new⟩
variable {W:Base} {s:Option BD×Option (Nat×ByteArray)} {bl:zdM}
theorem BC.sd (h:BC W bl β w):BC {W with sd:=s} bl β w:=
 h.rebase ⟨h.below.os,h.below.tape,h.below.output,h.below.size,h.below.block⟩ (λ_ _ _ _ _ h=>h) (λ_ _ _ _ _ h=>h)
theorem BC.unsd (h:BC {W with sd:=s} bl β w):BC W bl β w:=
 h.rebase ⟨h.below.os,h.below.tape,h.below.output,h.below.size,h.below.block⟩ (λ_ _ _ _ _ h=>h) (λ_ _ _ _ _ h=>h)
theorem SubB.sd (W:Base) (s:Option BD×Option (Nat×ByteArray)):SubB {W with sd:=s} W:=⟨Pres.self W,λ_ h=> .inr h⟩
structure HypD (P:Program) (W0:Base) (ok:FuncId->Bool) (Γ:FuncId->Option Ctr) (Γm:FuncId->Option MCtr) (Δ:FuncId->Option DCtr):Prop where
 gam:GamOK P W0 Γ
 mem: ∀B,SubB B W0-> ∀f k,Γm f=some k->VU P B f k
 dem: ∀B,SubB B W0-> ∀f k,Δ f=some k->Wz P B f k
 ok: ∀f,ok f=true->V0 P f
 mixed:P.follows .mixedOrders=true
variable {ok:FuncId->Bool} {Γ:zdO} {Γm:FuncId->Option MCtr} {Δ:FuncId->Option DCtr}
theorem HypD.sub {P:Program} {W0 B:Base} (h:HypD P W0 ok Γ Γm Δ) (J:SubB B W0):HypD P B ok Γ Γm Δ:=
 ⟨h.gam.sub J,λC H=>h.mem C (H.trans J),λC H=>h.dem C (H.trans J),h.ok,h.mixed⟩
abbrev Hyp (P:Program) (W0:Base) (ok:FuncId->Bool) (Γ:zdO) (Γm:FuncId->Option MCtr):Prop:=HypD P W0 ok Γ Γm λ_=>none
variable {nx:Nat}
theorem D5 (H:NX bl nx) (l:zdU):NX (fv bl nx l) (nx+l.length)/\(∀i,i<nx->fv bl nx l i=bl i)/\ ∀i B,bl i=some B->fv bl nx l i=some B:=by
 have J: ∀i,i<nx->fv bl nx l i=bl i:=λi hi=>by unfold fv;rw[aB,zdp hi];rfl
 refine⟨λi hi=> ?_,J,λi B hB=> ?_⟩
 ·unfold fv;rw[aB,zds (by omega)];simp only[zdq];exact zad (by omega)
 ·rw[J i (by
   rcases zah i nx with h|h
   ·exact h
   ·rw[H i h] at hB;cases hB)]
  exact hB
theorem Ko {a b:BK} (h:Po a b=true):a=b\/a= .gone:=by cases a<;>cases b<;>first|exact .inl rfl|exact .inr rfl|cases h
theorem oh {bl:zdM}: ∀{l:List (Nat×Blk)},x8 bl l=true->(∀i,bl i=none->chB bl l i=none)/\ ∀i C,bl i=some C-> ∃B,chB bl l i=some B/\B.n=C.n/\(B.sz=C.sz/\B.nn=C.nn)/\(B.kd=C.kd\/B.kd= .gone)/\(i∉l.map (·.1)->B=C)
 | [],_=>⟨λ_ h=>h,λi C h=>⟨C,h,rfl,⟨rfl,rfl⟩, .inl rfl,λ_=>rfl⟩⟩
 |(k,D)::r,h=>by
  simp only[x8,za2] at h;obtain⟨h1,h2⟩:=h;obtain⟨k1,k2⟩:=oh h2;cases N:bl k with
  |none=>rw[N] at h1;cases h1
  |some C=>
   rw[N] at h1;simp only[za2,zdy] at h1;obtain⟨⟨⟨Z,a2⟩,a3⟩,a4⟩:=h1;refine⟨λi hi=> ?_,λi V H=> ?_⟩
   ·have:i≠k:=λe=>by rw[e,N] at hi;cases hi
    rw[chB,ak this];exact k1 i hi
   ·by_cases J:i=k
    ·subst J;rw[N] at H;obtain rfl:C=V:=by simpa using H
     exact⟨D,by rw[chB,az],zab Z,⟨zab a2,a3⟩,Ko a4,λh=>absurd (by simp) h⟩
    ·obtain⟨B,b1,b2,b3,b4,b5⟩:=k2 i V H;exact⟨B,by rw[chB,ak J];exact b1,b2,b3,b4,λh=>b5 λY=>h (by simp at Y ⊢;exact .inr Y)⟩
theorem aus (H:NX bl nx) {ch:List (Nat×Blk)} (Y:x8 bl ch=true) (nw:zdU):
 NX (fv (chB bl ch) nx nw) (nx+nw.length)/\(∀i,i<nx->bl i=none->fv (chB bl ch) nx nw i=none)/\ ∀i C,bl i=some C-> ∃B,fv (chB bl ch) nx nw i=some B/\B.n=C.n/\(B.sz=C.sz/\B.nn=C.nn)/\(B.kd=C.kd\/B.kd= .gone)/\(i∉ch.map (·.1)->B=C):=by
 obtain⟨k1,k2⟩:=oh Y;obtain⟨V,N,_⟩:=D5 (bl:=chB bl ch) (nx:=nx) (λi hi=>k1 i (H i hi)) nw;refine⟨V,λi hi h0=>by rw[N i hi];exact k1 i h0,λi C J=> ?_⟩;have hi:i<nx:=by
  rcases zah i nx with h|h
  ·exact h
  ·rw[H i h] at J;cases J
 rw[N i hi];exact k2 i C J
variable {l:List ResultVar} {K:Aft}
theorem Wf:ND P l K A↔ ∃r,ur P A l=some (true,r)/\K (.ok (auq r)) A.bl A.nx A.wl:=by
 unfold ND;cases ur P A l with
 |none=>simp
 |some p=>
  obtain⟨b,r⟩:=p;simp only[Xg,za1,zag];constructor
  ·rintro⟨rfl,h⟩;exact⟨r,⟨rfl,rfl⟩,h⟩
  ·rintro⟨H,⟨rfl,rfl⟩,h⟩;exact⟨rfl,h⟩
theorem jz {Δ:FuncId->Option DCtr} {l:List ResultVar}: ∀(N:List (FuncId×List SV×List SV)) (m:Option Value) (A:AS),NX A.bl A.nx->NiceT A.bl A.nx A.wl (λK=>qF P Δ l K N m A)
 | [],none,A,h=>by
   have one: ∀r,OutI A.bl A.nx A.wl ⟨r,A.bl,A.nx,A.wl⟩:=λr=>⟨h,za0 _,λ_ _ h _=>h,λ_ _ h=>h,λ_ h=>h⟩;refine⟨λ{K K'} V Y=> ?_,λV=> ?_⟩
   ·obtain⟨r,h1,h2⟩:=Wf.1 V;exact Wf.2 ⟨r,h1,Y _ (one _) h2⟩
   ·obtain⟨r,_,h2⟩:=Wf.1 V;exact h2
 | [],some v,A,h=>Nice.one (o:=(⟨.pan v,A.bl,A.nx,A.wl⟩:Out)) ⟨h,za0 _,λ_ _ h _=>h,λ_ _ h=>h,λ_ h=>h⟩
 |(f,as,cs)::N,m,A,h=>by
  unfold NiceT;simp only[qF];split
  ·split
   ·rename_i b m' ch _;cases Z:(b&&x8 A.bl ch) with
    |false=>exact Nice.no λ_ h=>h
    |true=>
     simp only[za2] at Z;obtain⟨k1,k2⟩:=oh Z.2;refine Nice.weak (jz N m' {A with bl:=chB A.bl ch,wl:=ch.map (·.1)++A.wl} λi hi=>k1 i (h i hi)) λo J=>⟨J.nxs,J.le,λj B hB H=> ?_,λj H h0=>J.new j H (k1 j h0),λj H=>J.sub j (by simp[H])⟩;obtain⟨B',b1,_,_,_,b5⟩:=k2 j B hB;have:=b5 λY=>H (J.sub j (by simp only[za8];exact .inl Y));subst this;exact J.keep j B' b1 H
   ·exact Nice.no λ_ h=>h
  ·exact Nice.no λ_ h=>h
variable {e:Exit}
theorem V8:gq P Δ l K e A↔((e= .normal\/e= .ret)/\qF P Δ l K A.df none A)\/ ∃v,e=pex v/\qF P Δ l K A.df (some v) A:=by
 cases e with
 |normal=>simp[gq,pex]
 |ret=>simp[gq,pex]
 |panic ch=>
  simp only[gq,pex,Exit.panic.injEq];split
  ·rename_i e;obtain⟨v,r,g⟩:=e;cases r<;>cases g<;>simp
  ·rename_i h;simp only[reduceCtorEq,or_self,false_and,false_or,false_iff,not_exists,not_and];rintro v rfl;exact absurd rfl (h _)
 |_=>simp[gq,pex]
theorem qh (h:NX A.bl A.nx):NiceT A.bl A.nx A.wl (λK=>gq P Δ l K e A):=by
 refine⟨λ{K K'} J V=> ?_,λJ=> ?_⟩
 ·rcases V8.1 J with ⟨H,N⟩|⟨v,H,hv⟩
  ·exact V8.2 (.inl ⟨H,(jz A.df none A h).mono N λr b n w=>V ⟨r,b,n,w⟩⟩)
  ·exact V8.2 (.inr ⟨v,H,(jz A.df (some v) A h).mono hv λr b n w=>V ⟨r,b,n,w⟩⟩)
 ·rcases V8.1 J with ⟨_,N⟩|⟨v,_,hv⟩
  ·exact(jz A.df none A h).ne N
  ·exact(jz A.df (some v) A h).ne hv
theorem mU {W1:Base} (N: ∀bl β w,BC W0 bl β w->BC W1 bl β w) {Δ:FuncId->Option DCtr} (hΔ: ∀f k,Δ f=some k->Wz P W0 f k) {fn:Func} {K:Aft} {bl0:zdM} {nx0:Nat} {wl0:zdI} {β0:zdJ}: ∀(ds:List (FuncId×List SV×List SV)) (m:Option Value) (A:AS) (β:zdJ) (a:Act) (w:World),qF P Δ fn.results.toList K ds m A->
 Is W0 A β a w->(∀p∈ds,∀s∈p.2.1++p.2.2,Live A.bl s)->Tr bl0 nx0 A.wl β0 A.bl β->(∀i∈wl0,i∈A.wl)->nx0<=A.nx->
 Leaves P fn a.tmps (λe w'=> ∃J r bl' V Y,Ends J r e/\K r bl' V Y/\BC W1 bl' J w'/\NX bl' V/\sg bl' r/\Tr bl0 nx0 Y β0 bl' J/\(∀i∈wl0,i∈Y)/\nx0<=V) (ds.map (NF β)) (pq m) w
 | [],none,A,β,a,w,h,H,_,ht,hw,Z=>by
   obtain⟨l,hr,hk⟩:=Wf.1 h;obtain⟨r1,r2⟩:=uv H hr rfl;exact⟨_,r1,β, .ok (auq l),A.bl,A.nx,A.wl,rfl,hk,N _ _ _ H.bc,H.nx,r2,ht,hw,Z⟩
 | [],some v,A,β,a,w,h,H,_,ht,hw,Z=>⟨β, .pan v,A.bl,A.nx,A.wl,rfl,h,N _ _ _ H.bc,H.nx,trivial,ht,hw,Z⟩
 |(f,as,cs)::ds,m,A,β,a,w,h,H,hl,ht,hw,Z=>by
  simp only[qF] at h;split at h
  ·rename_i k hk;split at h
   ·rename_i b m' ch hc;obtain⟨hb,h2⟩:=Xg.1 h;simp only[za2] at hb;obtain⟨rfl,a0⟩:=hb;obtain⟨i0,hd⟩:=hΔ f k hk m A.bl β w (as++cs) m' ch H.bc (hl _ zbF) hc a0;obtain⟨k1,k2⟩:=oh a0
    have tr:Tr A.bl A.nx (ch.map (·.1)) β (chB A.bl ch) β:=⟨λi B hB=>by
     obtain⟨B',b1,b2,b3,b4,b5⟩:=k2 i B hB
     exact⟨B',b1,b2,b3,b4,b5⟩,λ_ _=>rfl,λi _ h0=>k1 i h0⟩
    have e0:(invoke (.fn (.func f) (SV.concs β cs).toArray) (SV.concs β as).toArray).run P w= .ok (.enter f (SV.concs β (as++cs)).toArray) w:=by
     have e:(SV.concs β as).toArray++(SV.concs β cs).toArray=(SV.concs β (as++cs)).toArray:=by simp[SV.concs_eq]
     show (callFunc f ((SV.concs β as).toArray++(SV.concs β cs).toArray)).run P w=_;rw[e];exact i0 _ w
    refine leaves_cons (by cases m<;>simp[pq]) e0 (CallsD.mono hd ?_);rintro e u' w' ⟨⟨v,rfl⟩,hu,g0⟩;simp only[hu];have:=mU (wl0:=wl0) N hΔ ds m' {A with bl:=chB A.bl ch,wl:=ch.map (·.1)++A.wl} β a w' h2 ⟨(H.fr.carry tr).frame _ _,g0,λi hi=>k1 i (H.nx i hi),H.sd⟩
     (λp hp s m0 i hi=>by
       have:=hl p (zan _ hp) s m0 i hi;cases hB:A.bl i with
       |none=>exact absurd hB this
       |some B=>obtain⟨B',b1,_⟩:=k2 i B hB;exact λh0=>by rw[show chB A.bl ch i=none from h0] at b1;cases b1)
     (ht.trans tr Z (λi hi=>by simp[hi]) (λi hi=>by simp[hi])) (λi hi=>by simp[hw i hi]) Z
    exact this
   ·exact h.elim
  ·exact h.elim
theorem D6 {x:SV} {z:Int} (h:NE x=some z):Pp x z=x:=by
 unfold NE at h;split at h
 ·simp only[za1] at h;subst h;rfl
 ·cases h
theorem vt: ∀(l:zdK) (i:Nat) (z:Int),Gu l i=some z->Gt l i z=l
 | [],i,z,h=>by simp[Gu] at h
 |x::l,0,z,h=>by simp only[Gt,D6 h]
 |x::l,i+1,z,h=>by simp only[Gt,vt l i z h]
theorem alT {T:List SV->Bool->Prop} {args:zdK} {i:Nat} {z:Int} (J:Gu args i=some z): ∀{l:List Int},x9 T args i z l-> ∃hq,T args hq
 | [],h=>⟨_,h⟩
 |n::r,h=>by
  obtain⟨h1,h2⟩:=VH.1 h;cases H:(z==n) with
  |true=>
   have:z=n:=by simpa using H
   subst this;have h:=h1 H;rw[vt args i z J] at h;exact⟨_,h⟩
  |false=>exact alT J (h2 H)
variable {args:zdK}
theorem Cm {T:List SV->Bool->Prop} (h:spl b T args): ∃hq,T args hq:=by
 cases b with
 |false=>exact⟨_,h⟩
 |true=>
  simp only[spl] at h;split at h
  ·rename_i z H;exact alT H h
  ·exact h.elim
theorem aaS {O:Type} {I:O->Prop} {T:(O->Prop)->List SV->Bool->Prop} (H: ∀args hq,Nice I λK=>T K args hq):Nice I λK=>spl b (T K) args:=by
 cases b with
 |false=>exact H args false
 |true=>
  simp only[spl];split
  ·rename_i z N;have key: ∀l:List Int,Nice I λK=>x9 (T K) args 1 z l:=by
    intro l
    induction l with
    |nil=>exact H args true
    |cons n r J=>
     simp only[x9];cases (z==n) with
     |true=>exact H _ false
     |false=>exact J
   exact key _
  ·exact Nice.no λ_ h=>h
variable {wl:zdI}
theorem Z2 (V:NX bl nx) {C:Option RC}:NiceT bl nx wl (λK=>abC bl nx wl K C):=by
 unfold NiceT;cases C with
 |none=>exact Nice.no λ_ h=>h
 |some C=>
  refine⟨λ{K K'} J N=> ?_,λJ=> ?_⟩
  ·obtain⟨hp,h⟩:=Xg.1 J;refine Xg.2 ⟨hp,λx Y=> ?_⟩;obtain⟨hc,h⟩:=Xg.1 (h x Y);obtain⟨a1,a2,a3⟩:=aus V hc (C.nw x);refine Xg.2 ⟨hc,N _ ⟨a1,by show nx<=nx+_;omega,λj B hB H=> ?_,a2,λj H=>by simp[H]⟩ h⟩;obtain⟨B',Z,_,_,_,b5⟩:=a3 j B hB;rw[b5 λN=>H (by simp only[za8];exact .inl N)] at Z;exact Z
  ·obtain⟨hp,h⟩:=Xg.1 J;obtain⟨x,Y⟩:=C.ex (by rw[za2] at hp;exact hp.2);exact(Xg.1 (h x Y)).2
theorem abq (H:NX bl nx) {k:List SV->Option RC} (args:zdK):NiceT bl nx wl (λK=>abs k bl nx wl K args):=by
 by_cases h: ∃b r,args= .val (.bool b)::r
 ·obtain⟨b,r,rfl⟩:=h;cases b with
  |true=>exact Z2 H
  |false=>exact Z2 H
 ·refine Nice.no λK J=> ?_;unfold abs at J;split at J
  ·exact h ⟨_,_,rfl⟩
  ·exact J
theorem lN (ok:FuncId->Bool) (Γ:zdO) (Γm:FuncId->Option MCtr) (Δ:FuncId->Option DCtr) (ann:zdV): ∀n,cF (wn P ok Γ Γm Δ ann n)
 |0=>λf args bl nx wl J=>Nice.no λ_ h=>h
 |n+1=>λf args bl nx wl J=>by
  unfold NiceT;simp only[wn];cases ok f with
  |false=>exact Nice.no λ_ h=>h
  |true=>
   simp only[zdr];split
   ·rename_i k hk;cases (Γm (f+1073741824)).isSome with
    |false=>exact Z2 J
    |true=>exact abq J args
   ·split
    ·rename_i fn Y;split
     ·rename_i c hc;refine aaS (T:=λ(K:Out->Prop) args hq=>vc P Γ (wn P ok Γ Γm Δ ann n) (ann f) c (gq P Δ fn.results.toList λr b n w=>K ⟨r,b,n,w⟩) (sa (ann f) (fB args fn.ntmps bl nx wl hq))) λargs hq=> ?_;refine Nice.bind (O:=Exit×AS) (O':=Out) (F:=λ(K:Out->Prop) o=>gq P Δ fn.results.toList (λr b n w=>K ⟨r,b,n,w⟩) o.1 o.2) (fQ (P:=P) (Γ:=Γ) (lN ok Γ Γm Δ ann n) (ann f) c (sa (ann f) (fB args fn.ntmps bl nx wl hq)) (by rw[(eA _ _).1,(eA _ _).2.1];exact J)) λo N=> ?_;have N:=N.ofBd;exact Nice.weak (qh (P:=P) N.nxs) λo' H=>⟨H.nxs,zac N.nx H.le,λj B hB V=>H.keep j B (N.keep j B hB λZ=>V (H.sub j Z)) V,λj V h0=>H.new j (zam V N.nx) (N.new j V h0),λj V=>H.sub j (N.wl j V)⟩
     ·exact Nice.no λ_ h=>h
    ·exact Nice.no λ_ h=>h
theorem mV {P:Program} {W0:Base} {ok:FuncId->Bool} {Γ:zdO} {Γm:FuncId->Option MCtr} {Δ:FuncId->Option DCtr} (H:HypD P W0 ok Γ Γm Δ) (ann:zdV): ∀n,kn P W0 (wn P ok Γ Γm Δ ann n)
 |0=>by intro f args bl nx wl K β w h;exact h.elim
 |n+1=>by
  intro f args bl nx wl K β w h g0 Z hl;simp only[wn] at h;cases e0:ok f with
  |false=>rw[e0] at h;exact h.elim
  |true=>
   rw[e0] at h;simp only[zdr] at h;refine⟨H.ok f e0, ?_⟩;split at h
   ·rename_i k hk;have go: ∀args,(∀s∈args,Live bl s)->abC bl nx wl K (k bl nx args)->Calls P f (SV.concs β args).toArray w λe w'=> ∃β' r bl' J N,Ends β' r e/\K r bl' J N/\BC W0 bl' β' w'/\NX bl' J/\sg bl' r/\Tr bl nx N β bl' β'/\(∀i∈wl,i∈N)/\nx<=J:=by
     intro args hl h;cases hC:k bl nx args with
     |none=>rw[hC] at h;exact h.elim
     |some C=>
     rw[hC] at h;obtain⟨hn,h⟩:=Xg.1 h;rw[za2] at hn;refine Calls.mono (H.mem W0 (SubB.refl W0) f k hk bl β w nx args C g0 (lK Z hn.1) Z hl hC hn.2) ?_;rintro e w' ⟨x,hx,β',he,g1,g2,g3⟩;obtain⟨hc,h⟩:=Xg.1 (h x hx);obtain⟨a1,a2,a3⟩:=aus Z hc (C.nw x);refine⟨β',C.res x,_,_,_,he,h,g1,a1,g3,⟨λi B hB=> ?_,g2,a2⟩,λi hi=>by simp[hi],by omega⟩;obtain⟨B',b1,b2,b3,b4,b5⟩:=a3 i B hB;exact⟨B',b1,b2,b3,b4,λhi=>b5 λhm=>hi (by simp only[za8];exact .inl hm)⟩
    cases hh:(Γm (f+1073741824)).isSome with
    |false=>rw[hh] at h;exact go args hl h
    |true=>
     rw[hh] at h;simp only[] at h;unfold abs at h;split at h
     ·rename_i b r;have i0: ∀c:Bool,∀s∈SV.val (.bool c)::r,Live bl s:=λc s hs=>by
       rcases zai.1 hs with rfl|hs
       ·exact λi hi=>by simp[SV.ids] at hi
       ·exact hl s (zan _ hs)
      obtain⟨h1,h2⟩:=VH.1 h;cases b with
      |true=>exact go _ (i0 true) (h1 rfl)
      |false=>exact go _ (i0 false) (h2 rfl)
     ·exact h.elim
   ·split at h
    ·rename_i fn m0;split at h
     ·rename_i c hc;have hf:P.funcs[f]? =some fn:=by simpa using m0
      refine calls_of_wp_defers hf hc ?_;obtain⟨hq,h⟩:=Cm h;obtain⟨b1,b2,b3,_⟩:=eA (ann f) (fB args fn.ntmps bl nx wl hq);have hs:Is {W0 with sd:=(sa (ann f) (fB args fn.ntmps bl nx wl hq)).sd} (sa (ann f) (fB args fn.ntmps bl nx wl hq)) β {tmps:=(SV.concs β args).toArray++Array.replicate (fn.ntmps - (SV.concs β args).toArray.size) undef,defers:= []} w:=
       ⟨ae5 (yu β args fn.ntmps bl nx wl _ hl),by rw[b1];exact g0.sd,by rw[b1,b2];exact Z,rfl⟩
      refine Code.wp_mono ?_ (eV (H.gam.sub (SubB.sd _ _)) H.mixed (λB hB=>mV (H.sub (hB.trans (SubB.sd _ _))) ann n) (lN ok Γ Γm Δ ann n) (ann f) c _ _ β _ w h (hs.x (adi rfl)));rintro e a' w' ⟨A',β',hk,V,ht⟩;have V:=IsX.up V;have ht:Trs (fB args fn.ntmps bl nx wl hq) β A' β':=⟨by have:=ht.tr;rw[b1,b2] at this;exact this,by have:=ht.wl;rw[b3] at this;exact this,by have:=ht.nx;rw[b2] at this;exact this,by rw[ht.nt];exact(eA _ _).2.2.2⟩;have a0: ∀m,qF P Δ fn.results.toList K A'.df m A'->Leaves P fn a'.tmps (λe w'=> ∃Y r bl' J N,Ends Y r e/\K r bl' J N/\BC W0 bl' Y w'/\NX bl' J/\sg bl' r/\Tr bl nx N β bl' Y/\(∀i∈wl,i∈N)/\nx<=J) a'.defers (pq m) w':=by
       intro m hm;rw[V.fr.defers.1];exact mU (λ_ _ _ h=>h.unsd.unsd) (H.dem _ ((SubB.sd _ _).trans (SubB.sd _ _))) A'.df m A' β' a' w' hm V V.fr.defers.2 ht.tr ht.wl ht.nx
      rcases V8.1 hk with ⟨he,hr⟩|⟨v,rfl,hv⟩
      ·rcases he with rfl|rfl
       ·exact a0 none hr
       ·exact a0 none hr
      ·exact a0 (some v) hv
     ·exact h.elim
    ·exact h.elim
theorem sO (H:Hyp P W0 ok Γ Γm) (ann:zdV) (n:Nat):kn P W0 (wq P ok Γ Γm ann n):=mV H ann n
def gw:List (FuncId×Ctr)->zdO
 | [],_=>none
 |(g,k)::r,f=>bif Nat.beq f g then some k else gw r f
def gx:List (FuncId×MCtr)->FuncId->Option MCtr
 | [],_=>none
 |(g,k)::r,f=>bif Nat.beq f g then some k else gx r f
def iR (l:List FuncId) (f:FuncId):Bool:=l.any (Nat.beq f)
theorem pt: ∀{l:List (FuncId×Ctr)} {f:FuncId} {k:Ctr},gw l f=some k->(f,k)∈l
 | [],f,k,h=>by cases h
 |(g,c)::r,f,k,h=>by
  simp only[gw] at h;cases H:Nat.beq f g with
  |true=>
   rw[H] at h;simp only[zdr,za1] at h;subst h;rw[zab H];simp
  |false=>rw[H] at h;exact zan _ (pt h)
abbrev _root_.zdX:=List (FuncId×MCtr)
theorem vw: ∀{l:zdX} {f:FuncId} {k:MCtr},gx l f=some k->(f,k)∈l
 | [],f,k,h=>by cases h
 |(g,c)::r,f,k,h=>by
  simp only[gx] at h;cases H:Nat.beq f g with
  |true=>
   rw[H] at h;simp only[zdr,za1] at h;subst h;rw[zab H];simp
  |false=>rw[H] at h;exact zan _ (vw h)
theorem mW {gam:List (FuncId×Ctr)} {gm:zdX} {oks:List FuncId} (N: ∀p∈gam,CtrOK P W0 p.1 p.2/\V0 P p.1) (V: ∀B,SubB B W0-> ∀p∈gm,VU P B p.1 p.2) (J: ∀f∈oks,V0 P f) (H:P.follows .mixedOrders=true):
 Hyp P W0 (iR oks) (gw gam) (gx gm) where
 gam:=⟨λf k h=>(N _ (pt h)).1,λf k h=>(N _ (pt h)).2⟩
 mem:=λB hB f k h=>V B hB _ (vw h)
 dem:=λ_ _ _ _ h=>by cases h
 ok:=λf h=>by
  unfold iR at h;simp only[zaP] at h;obtain⟨g,hg,Y⟩:=h;rw[zab Y];exact J g hg
 mixed:=H
theorem abD (h:NX bl nx):fv bl nx []=bl:=by
 funext i
 unfold fv;rw[aB];by_cases hi:i<nx
 ·simp[hi]
 ·simp[hi,h i (by omega)]
theorem abx {w':World} {s:SV} (H:BC W0 bl β w) (J:NX bl nx) (V:s.ids= []) (N:Below w.heap.size w w'):BC W0 (fv bl nx []) β w'/\(∀i,bl i≠none->β i=β i)/\Live (fv bl nx []) s:=by
 rw[abD J];exact⟨H.step N,λ_ _=>rfl,aW V⟩
theorem sP (w:World) (β:zdJ):BC w (λ_=>none) β w where
 below:=Pres.refl _
 blk:=λ_ _ h=>by cases h
 own:=λ_ _ h=>by cases h
 old:=λ_ _ h=>by cases h
 inj:=λ_ _ _ _ h=>by cases h
 live:=λ_ _ _ _ _ h=>by cases h
 maps:=⟨λ_ _ h=>(by cases h),λ_ _ _ _ h=>(by cases h),λ_ _ _ _ h=>(by cases h),λ_ _ h=>by cases h⟩
theorem run_pure (H:Hyp P w ok Γ Γm) (ann:zdV) (n:Nat) (f:FuncId) (args:zdK) (J:SV.idss args= []) (Q:zdR)
 (h:wq P ok Γ Γm ann n f args (λ_=>none) 0 [] (okK λr _ _ _=>r.ids= []/\Q r)):
 Calls P f (SV.concs oj args).toArray w λe w'=> ∃r,e= .returned (r.conc oj)/\r.ids= []/\Q r/\Below w.heap.size w w':=by
 obtain⟨_,h⟩:=sO H ann n f args _ 0 [] _ oj w h (sP w oj) (λ_ _=>rfl) (λs Z i hi=>by
  have:i∈SV.idss args:=SV.mem_idss.2 ⟨s,Z,hi⟩
  rw[J] at this;cases this)
 refine Calls.mono h ?_;rintro e w' ⟨β',r,bl',a0,e0,Y,V,N,_⟩;cases r with
 |pan v=>exact V.elim
 |ok r=>
 obtain rfl:e=_:=Y;obtain⟨hi,hq⟩:=V;exact⟨r,by rw[SV.conc_congr r (β:=oj) (β':=β') (λi h=>by rw[hi] at h;cases h)],hi,hq,N.below.below⟩
end
end Go.Sy
