import Derived.Test.YtdjfpjmijhjmpaaGreatDoorZb
import Derived.Scope
import Derived.ArgAppend
import Derived.MapKept
import Derived.Defers
import Derived.Maps.RangeRun
set_option linter.unusedVariables false
set_option linter.unusedSimpArgs false
namespace Go.Sy
open Go.RowKit
section
variable {P:Program} {W0:Base}
def NX (bl:zdL) (nx:Nat):Prop:= ∀i,nx<=i->bl i=none
theorem aum (bo:Bool): ∀(L:List (Nat×Int)) (i:Nat),(dS bo i L).length=L.length
 | [],i=>rfl
 |(k,v)::L,i=>by simp[dS,aum bo L]
theorem uZ (bo:Bool) (k:Nat) (z:Int): ∀(L:List (Nat×Int)) (i:Nat),dS bo i (L++ [(k,z)])=dS bo i L++ [{key:= .int .i64 k,val:=valF bo z,born:=i+L.length}]
 | [],i=>by simp[dS]
 |(H,v)::L,i=>by simp[dS,uZ bo k z L (i+1),zbq,zb3 1]
theorem yh (bo:Bool) (k:Nat) (z H:Int): ∀(L:List (Nat×Int)) (i m:Nat),L[m]? =some (k,H)->dS bo i (L.set m (k,z))=(dS bo i L).modify m (λe=>{e with key:= .int .i64 k,val:=valF bo z})
 | [],i,m,h=>by simp at h
 |(J,v)::L,i,0,h=>by simp at h;obtain⟨rfl,rfl⟩:=h;simp[dS]
 |(J,v)::L,i,m+1,h=>by simp only[zaR,dS,List.modify_succ_cons];rw[yh bo k z H L (i+1) m (by simpa using h)]
theorem nZ (bo:Bool): ∀(L:List (Nat×Int)) (i m:Nat) (k:Nat) (z:Int),L[m]? =some (k,z)->(dS bo i L)[m]? =some {key:= .int .i64 k,val:=valF bo z,born:=i+m}
 | [],i,m,k,z,h=>by simp at h
 |(H,v)::L,i,0,k,z,h=>by simp at h;obtain⟨rfl,rfl⟩:=h;simp[dS]
 |(H,v)::L,i,m+1,k,z,h=>by
  simp only[dS,zcf];rw[nZ bo L (i+1) m k z (by simpa using h),show i+1+m=i+(m+1) by omega]
theorem Vt (k:Nat) (z:Int): ∀(L:List (Nat×Int)) (j:Nat),(∀p∈L,p.1≠k)->d9 (L++ [(k,z)]) j=if j=k then z else d9 L j
 | [],j,_=>by
   simp only[zaM,d9];by_cases h:k=j
   ·subst h;simp
   ·simp[h,Ne.symm h]
 |(J,v)::L,j,h=>by
  have h0:=h _ zbF;simp only[] at h0;simp only[zaO,d9];by_cases H:J=j
  ·subst H;simp[h0]
  ·simp only[if_neg H];exact Vt k z L j λp hp=>h p (zan _ hp)
theorem aJL (k:Nat) (z Y:Int): ∀(L:List (Nat×Int)) (m j:Nat),L[m]? =some (k,Y)->(∀n,n<m-> ∀p,L[n]? =some p->p.1≠k)->d9 (L.set m (k,z)) j=if j=k then z else d9 L j
 | [],m,j,h,_=>by simp at h
 |(J,v)::L,0,j,h,_=>by
  simp at h;obtain⟨rfl,rfl⟩:=h;simp only[zba,d9];by_cases H:J=j
  ·subst H;simp
  ·simp[H,Ne.symm H]
 |(J,v)::L,m+1,j,h,N=>by
  have h0:=N 0 (by omega) (J,v) rfl;simp only[] at h0;simp only[zaR,d9];by_cases H:J=j
  ·subst H;simp[h0]
  ·simp only[if_neg H];exact aJL k z Y L m j (by simpa using h) λn a0 p hp=>N (n+1) (by omega) p (by simpa using hp)
variable {w:World} {t:TypeId}
theorem yi {β:zdI} {b:Nat} {bo:Bool} {L:List (Nat×Int)} {kt et:TypeId} (ht:P.underlying t=some (.map kt et)) (N:P.underlying kt=some (.int .i64))
 (Y:w.heap[b]? =some (.map (dS bo 0 L).toArray L.length)) (k:Nat) (z:Int):
 ∃L',(Instr.mapUpdate t (.map (some b)) (.int .i64 k) (valF bo z)).run P w= .ok () {w with heap:=w.heap.setIfInBounds b (.map (dS bo 0 L').toArray L'.length)}/\
  (∀j,d9 L' j=if j=k then z else d9 L j)/\(∀p∈L',p∈L\/p=(k,z))/\((L.map (·.1)).Nodup->(L'.map (·.1)).Nodup):=by
 have H:MapKept.IsKey (.int .i64) (.int .i64 (k:Int)):=rfl;rcases lH bo k L 0 0 with ⟨h1,h2,h3⟩|⟨m,z',h1,h2,h3,h4⟩
 ·refine⟨L++ [(k,z)], ?_,λj=>Vt k z L j h2,λp hp=>by simpa using hp,λhn=> ?_⟩
  ·simp[Instr.mapUpdate,run_underlying ht,MapKept.run_getObj_map Y,MapKept.run_checkKey N H,MapKept.run_findKey N h1,MapKept.run_setObj_map _ Y,Result.andThen,uZ]
  ·rw[zb8,zca];refine⟨hn,by simp,λa ha b hb e=> ?_⟩;obtain⟨p,hp,rfl⟩:=zaz.1 ha;simp only[zaK,zc4,zaj] at hb;exact h2 p hp (e.trans hb)
 ·have J:=nZ bo L 0 m k z' h2;have a0:(dS bo 0 L).toArray[m]? =some {key:= .int .i64 k,val:=valF bo z',born:=0+m}:=by simpa using J
  refine⟨L.set m (k,z), ?_,λj=>aJL k z z' L m j h2 h4,λp hp=> ?_,λhn=> ?_⟩
  ·rw[za7] at h1;simp[Instr.mapUpdate,run_underlying ht,MapKept.run_getObj_map Y,MapKept.run_checkKey N H,MapKept.run_findKey N h1,J,MapKept.run_keyThatStays H,MapKept.run_setObj_map _ Y,Result.andThen,yh bo k z z' L 0 m h2]
  ·rcases zcL hp with h|h
   ·exact .inl h
   ·exact .inr h
  ·rw[List.map_set];have:(L.map (·.1))[m]? =some k:=by rw[zaL,h2];rfl
   rw[show (L.map (·.1)).set m k=L.map (·.1) from by
    apply List.ext_getElem?;intro j;rw[List.getElem?_set];split
    ·rename_i J;subst J;split
     ·exact this.symm
     ·rename_i J;rw[zad (by simpa using J)]
    ·rfl]
   exact hn
variable {bl:zdL} {nx:Nat} {β:zdI}
theorem Tr.newB (H:NX bl nx) (B:Blk) {L:Loc}:Tr bl nx [nx] β (upd bl nx B) (gp β nx L):=
 have ne: ∀i,bl i≠none->i≠nx:=λi hi e=>hi (H i (by omega))
 ⟨λi C J=>⟨C,by rw[ak (ne i (by rw[J];simp))];exact J,rfl,⟨rfl,rfl⟩, .inl rfl,λ_=>rfl⟩,λi hi=>aC (ne i hi),λi hi h=>by rw[ak (by omega)];exact h⟩
variable {i:Nat} {B:Blk}
theorem Tr.put (hB:bl i=some B) (get:zdM) :Tr bl nx [i] β (upd bl i {B with get:=get}) β:=by
 refine⟨λj C H=> ?_,λ_ _=>rfl,λj J h=> ?_⟩
 ·by_cases h:j=i
  ·subst h;rw[hB] at H;obtain rfl:B=C:=by simpa using H
   exact⟨_,az _ _ _,rfl,⟨rfl,rfl⟩, .inl rfl,λh=>absurd (zaj.2 rfl) h⟩
  ·exact⟨C,by rw[ak h];exact H,rfl,⟨rfl,rfl⟩, .inl rfl,λ_=>rfl⟩
 ·rw[ak (λe=>by rw[e,hB] at h;cases h)];exact h
theorem lK (H:NX bl nx) (h:Gd bl nx=true): ∀j B,bl j=some B->B.kd.it=false:=by
 intro j B hB;have J:j<nx:=by
  rcases zah j nx with h|h
  ·exact h
  ·rw[H j h] at hB;cases hB
 have:=zaf.1 h j (zaC.2 J);rw[hB] at this;simpa using this
def se (P:Program) (W0:Base) (bl:zdL) (nx:Nat) (β:zdI) (w:World) (s:Result Next) (K:Aft):Prop:=
 (∃v,s= .halt (.panic v) w/\K (.pan v) bl nx [])\/
 ∃β' w' r bl' H wl,(s= .ok (.value (r.conc β')) w'\/(s= .ok .skip w'/\r= .val undef))/\K (.ok r) bl' H wl/\BC W0 bl' β' w'/\NX bl' H/\Live bl' r/\Tr bl nx wl β bl' β'/\nx<=H
variable {K:Aft}
theorem vd (a0:BC W0 bl β w) (g0:NX bl nx) {k v:SV} (hk:Live bl k) (hv:Live bl v) (h:runX P bl nx (.set t i k v) K):
 se P W0 bl nx β w ((do Instr.mapUpdate t (.map (some (β i).blk)) (k.conc β) (v.conc β);pure Next.skip:Sem Next).run P w) K:=by
 simp only[runX] at h;split at h
 ·rename_i kt et B ht hB;have o0: ∀C,NX (upd bl i C) nx:=λC j hj=>by rw[ak (λe=>by rw[<-e,g0 j hj] at hB;cases hB)];exact g0 j hj
  have i0: ∀{get o'},B.kd.map=true->(Instr.mapUpdate t (.map (some (β i).blk)) (k.conc β) (v.conc β)).run P w= .ok () {w with heap:=w.heap.setIfInBounds (β i).blk o'}->MapOK β (β i).blk {w with heap:=w.heap.setIfInBounds (β i).blk o'} B.kd get->
   (B.kd.lst=true-> ∀e s,s∈get e->Live bl s)->(∀j D,bl j=some D->D.kd.it=false)->K (.ok (.val undef)) (upd bl i {B with get:=get}) nx [i]->se P W0 bl nx β w ((do Instr.mapUpdate t (.map (some (β i).blk)) (k.conc β) (v.conc β);pure Next.skip:Sem Next).run P w) K:=by
   intro get o' hm l0 n0 hl J hK;refine .inr ⟨β,_, .val undef,_,nx, [i], .inr ⟨by rw[zdE,l0];rfl,rfl⟩,hK,a0.setMap hB hm n0 hl (.inr J),o0 _,λj hj=>by simp[SV.ids] at hj,Tr.put hB get,za0 _⟩
  split at h
  ·rename_i H;obtain⟨m1,m2,m3,m4⟩:=a0.maps.ok i B hB (by rw[H];rfl);rw[H] at m4;obtain⟨es,e1,e2,e3,e4⟩:=m4;split at h
   ·rename_i l hl;obtain⟨a1,a2,a3⟩:=lG e3 e4 64 0 l (zaA _) hl;split at h
    ·rename_i b c hb hc;obtain⟨e0,hK⟩:=Xg.1 h;rw[za2] at e0;obtain⟨J,e0⟩:=e0;have J:=lK g0 J;simp only[za2,aB,zdt] at e0;obtain⟨rfl,q0⟩:=e0;obtain⟨d,hd,j0,_⟩:=js (β:=β) hc;have hf:=pg (β:=β) hd l 0 0 hb;rw[zaZ] at a1;rw[<-a1] at hf;rw[za7] at a2;refine i0 (o':= .map (es.push {key:=k.conc β,val:=v.conc β,born:=es.size}) (es.size+1)) (by rw[H];rfl) ?_ ?_ ?_ J hK
     ·simp[Instr.mapUpdate,run_underlying ht,MapKept.run_getObj_map e1,MapKept.run_checkKey hd j0,MapKept.run_findKey hd hf,MapKept.run_setObj_map _ e1,Result.andThen]
     ·rw[H];refine⟨es.push {key:=k.conc β,val:=v.conc β,born:=es.size},by simpa using (MapKept.heap_set e1).1,by simp;omega,λe he=> ?_,λe he=> ?_⟩
      ·simp only[Array.size_push] at he;unfold J9;rw[bS,a2];by_cases Y:e=es.size
       ·subst Y;exact⟨k,v,by simp,by simp⟩
       ·obtain⟨k',v',k1,k2⟩:=e3 e (by omega);exact⟨k',v',by simp[Y,k1],by rw[Array.getElem?_push,if_neg Y];exact k2⟩
      ·simp only[Array.size_push] at he;unfold J9;rw[bS,a2,zds (by omega)];exact e4 e (by omega)
     ·intro _ e s hs;unfold J9 at hs;rw[bS] at hs;by_cases Y:e=l.length
      ·simp[Y] at hs;rcases hs with rfl|rfl
       ·exact hk
       ·exact hv
      ·simp[Y] at hs;exact a0.maps.live i B e s hB (by rw[H];rfl) hs
    ·exact h.elim
   ·exact h.elim
  ·rename_i H;obtain⟨m1,m2,m3,m4⟩:=a0.maps.ok i B hB (by rw[H];rfl);rw[H] at m4;obtain⟨L,e1,e2⟩:=m4;split at h
   ·rename_i kz vz hu;obtain⟨N,h⟩:=Xg.1 h;rw[za2] at N;obtain⟨J,N⟩:=N;have J:=lK g0 J;have N:=zdu N;obtain⟨L',r1,r2,_⟩:=yi (β:=β) (bo:=false) ht hu e1 kz.toNat vz;refine i0 (o':= .map (dS false 0 L').toArray L'.length) (by rw[H];rfl) ?_ ?_ (λe=>by rw[H] at e;cases e) J h
    ·have:((kz.toNat:Int))=kz:=zcc N;rw[this] at r1;exact r1
    ·rw[H];refine⟨L',(MapKept.heap_set e1).1,λj=> ?_⟩;rw[r2];show (bif Nat.beq j kz.toNat then vz else iG (B.get j))=_;rw[bS,e2];by_cases hj:j=kz.toNat<;>simp[hj]
   ·exact h.elim
  ·rename_i H;obtain⟨m1,m2,m3,m4⟩:=a0.maps.ok i B hB (by rw[H];rfl);rw[H] at m4;obtain⟨L,e1,e2,e3,e4⟩:=m4;split at h
   ·rename_i kz vb hu;obtain⟨N,hK⟩:=Xg.1 h;rw[za2] at N;obtain⟨J,N⟩:=N;have J:=lK g0 J;simp only[za2,zdt] at N;obtain⟨rfl,N⟩:=N;obtain⟨L',r1,r2,r3,r4⟩:=yi (β:=β) (bo:=true) ht hu e1 kz.toNat 1;refine i0 (o':= .map (dS true 0 L').toArray L'.length) (by rw[H];rfl) ?_ ?_ (λe=>by rw[H] at e;cases e) J hK
    ·have:((kz.toNat:Int))=kz:=zcc N;rw[this] at r1;exact r1
    ·rw[H];refine⟨L',(MapKept.heap_set e1).1,λj=> ?_,λp hp=> ?_,r4 e4⟩
     ·rw[r2];show (Nat.beq j kz.toNat||su (B.get j))=_;rw[bS,e2];by_cases hj:j=kz.toNat<;>simp[hj]
     ·rcases r3 p hp with h|rfl
      ·exact e3 p h
      ·rfl
   ·exact h.elim
  ·exact h.elim
 ·exact h.elim
theorem Tr.gone (hB:bl i=some B) :Tr bl nx [i] β (upd bl i {B with kd:= .gone}) β:=by
 refine⟨λj C H=> ?_,λ_ _=>rfl,λj J h=> ?_⟩
 ·by_cases h:j=i
  ·subst h;rw[hB] at H;obtain rfl:B=C:=by simpa using H
   exact⟨_,az _ _ _,rfl,⟨rfl,rfl⟩, .inr rfl,λh=>absurd (zaj.2 rfl) h⟩
  ·exact⟨C,by rw[ak h];exact H,rfl,⟨rfl,rfl⟩, .inl rfl,λ_=>rfl⟩
 ·rw[ak (λe=>by rw[e,hB] at h;cases h)];exact h
theorem ve {get:zdM} {z:Nat} {f:zdQ} {k v:Nat->SV} (h1: ∀e,e<z->get e= [.val (.bool (f e)),k e,v e]) (h2: ∀e,z<=e->get e= []):
 ∀(n e:Nat) (l:List (Bool×SV×SV)),e<=z->Ge get n e=some l->e+l.length=z/\ ∀j,e+j<z->l[j]? =some (f (e+j),k (e+j),v (e+j))
 |0,e,l,_,h=>by simp[Ge] at h
 |n+1,e,l,he,h=>by
  simp only[Ge] at h;rcases zah e z with H|N
  ·rw[h1 e H] at h;simp only[zbE] at h;obtain⟨r,hr,rfl⟩:=h;obtain⟨a1,J⟩:=ve h1 h2 n (e+1) r H hr;refine⟨by simp;omega,λj Y=> ?_⟩;cases j with
   |zero=>rfl
   |succ j=>
    rw[zcf,J j (by omega),show e+1+j=e+(j+1) by omega]
  ·obtain rfl:e=z:=by omega
   rw[h2 _ (za0 _)] at h;simp only[za1] at h;subst h;exact⟨by simp,λj Y=>by omega⟩
theorem wx {F:Nat->SV->zdR}: ∀{l:List (Bool×SV×SV)} {e j:Nat} {k v:SV},Gf l e F->l[j]? =some (true,k,v)->F (e+j) k v
 | [],e,j,k,v,_,h=>by simp at h
 |(b,J,N)::r,e,0,k,v,h,H=>by
  simp only[zbA,za1,zag] at H;obtain⟨rfl,rfl,rfl⟩:=H;exact h.1
 |(b,J,N)::r,e,j+1,k,v,h,H=>by
  rw[show e+(j+1)=e+1+j by omega];exact wx h.2 (by simpa using H)
theorem DL (N:BC W0 bl β w) (g0:NX bl nx) (h:runX P bl nx (.rng t i) K):
 se P W0 bl nx β w ((do let v <-Instr.range t (.map (some (β i).blk));pure (Next.value v):Sem Next).run P w) K:=by
 have hid:=g0 nx (za0 _);have l0: ∀C,NX (upd bl nx C) (nx+1):=λC j hj=>by rw[ak (by omega)];exact g0 j (by omega)
 simp only[runX] at h;split at h
 ·rename_i kt et B ht hB;have i0: ∀{kd get es H},kd.map=true->w.heap[(β i).blk]? =some (.map es H)->MapOK (gp β nx ⟨w.heap.size,0,0,0,false⟩) w.heap.size (w.alloc (.mapIter (some (β i).blk) H #[] H)) kd get->
   (kd.lst=true-> ∀e s,s∈get e->Live bl s)->K (.ok (.ptr nx 0 0)) (upd bl nx {n:=0,sz:=0,get:=get,kd:=kd}) (nx+1) [nx]->se P W0 bl nx β w ((do let v <-Instr.range t (.map (some (β i).blk));pure (Next.value v):Sem Next).run P w) K:=by
   intro kd get es H hm hb j0 hl hK;refine .inr ⟨_,_, .ptr nx 0 0,_,nx+1, [nx], .inl ?_,hK,N.newObj hid hm j0 hl,l0 _,λj hj=> ?_,Tr.newB g0 _,zaT _⟩
   ·rw[zdE,run_range_map w t kt et _ es H ht hb];simp[SV.conc,addr,aA,Result.andThen]
   ·simp only[SV.ids,zaj] at hj;subst hj;rw[az];simp
  split at h
  ·rename_i J;obtain⟨m1,m2,m3,m4⟩:=N.maps.ok i B hB (by rw[J];rfl);rw[J] at m4;obtain⟨es,Y,e2,e3,e4⟩:=m4;have e0:=(zaq.1 Y).1;refine i0 (kd:= .itL) (get:=rM B.get) rfl Y ⟨(β i).blk,es.size,es.size,es.size, #[],es,heap_alloc_new _ _,by rw[heap_alloc_old _ _ e0];exact Y,λx hx=> ?_,za0 _,za0 _,e2,λe he=> ?_,λe he=> ?_, .inl rfl⟩ (λ_ e s hs=> ?_) h
   ·obtain⟨j,hj,rfl⟩:=zbR hx;have a0:j<es.size:=by simpa using hj
    obtain⟨k,v,_,k2⟩:=e3 j a0;rw[zcq a0] at k2;simp only[Array.getElem_toList];rw[zbj k2];exact a0
   ·obtain⟨k,v,k1,k2⟩:=e3 e he;have lv: ∀s∈B.get e,s.conc (gp β nx ⟨w.heap.size,0,0,0,false⟩)=s.conc β:=λs hs=>(N.maps.live i B e s hB (by rw[J];rfl) hs).conc hid;exact⟨k,v,by simp[rM,k1],by rw[lv k (by simp[k1]),lv v (by simp[k1])];exact k2⟩
   ·simp[rM,e4 e he]
   ·cases e with
    |zero=>simp[rM] at hs
    |succ e=>
    rcases zah e es.size with he|he
    ·obtain⟨k,v,k1,k2⟩:=e3 e he;simp only[rM,k1,zai,zbw,or_false] at hs;rcases hs with rfl|rfl|rfl
     ·intro j hj;simp[SV.ids] at hj
     ·exact N.maps.live i B e _ hB (by rw[J];rfl) (by simp[k1])
     ·exact N.maps.live i B e _ hB (by rw[J];rfl) (by simp[k1])
    ·simp[rM,e4 e he] at hs
  ·rename_i J;obtain⟨m1,m2,m3,m4⟩:=N.maps.ok i B hB (by rw[J];rfl);rw[J] at m4;obtain⟨L,Y,e2,e3,e4⟩:=m4;have e0:=(zaq.1 Y).1;refine i0 (kd:= .itK) (get:=MU B.get) rfl Y ⟨(β i).blk,L.length,L.length, #[],L,heap_alloc_new _ _,by rw[heap_alloc_old _ _ e0];exact Y,rfl,za0 _,e3,e4,λk=> ?_, .inl rfl⟩ (λe=>by cases e) h;show su (B.get k)=true↔_;rw[e2,zdA];have key: ∀(L:List (Nat×Int)),(∀p∈L,p.2=1)->(d9 L k≠0↔ ∃i:Nat,(L.map (·.1))[i]? =some k/\(#[]:Array Nat).contains i=false):=by
    intro L hL
    induction L with
    |nil=>simp[d9]
    |cons p L ih=>
     obtain⟨k',z⟩:=p;have hz:z=1:=hL (k',z) (by simp);subst hz;simp only[d9];by_cases hk:k'=k
     ·rw[if_pos hk];subst hk;exact⟨λ_=>⟨0,rfl,by simp⟩,λ_=>by decide⟩
     ·rw[if_neg hk,ih λp hp=>hL p (zan _ hp)];constructor
      ·rintro⟨j,h1,h2⟩;exact⟨j+1,by simpa using h1,by simp⟩
      ·rintro⟨j,h1,h2⟩;cases j with
       |zero=>simp at h1;exact absurd h1 hk
       |succ j=>exact⟨j,by simpa using h1,by simp⟩
   exact key L e3
  ·exact h.elim
 ·exact h.elim
variable {ty:TypeId}
theorem DM (e0:BC W0 bl β w) (I0:NX bl nx) (h:runX P bl nx (.nxt i) K):
 se P W0 bl nx β w ((do let v <-Instr.next ((SV.ptr i 0 0).conc β) false ty;pure (Next.value v):Sem Next).run P w) K:=by
 simp only[runX] at h;split at h
 ·rename_i B hB;have P0: ∀C,NX (upd bl i C) nx:=λC j N=>by rw[ak (λe=>by rw[<-e,I0 j N] at hB;cases hB)];exact I0 j N
  have H0: ∀{m H c0 seen es J},B.kd.it=true->w.heap[(β i).blk]? =some (.mapIter (some m) H seen c0)->w.heap[m]? =some (.map es J)->(∀x∈es.toList,x.born<H)->H<=c0->
   ((leftOf es seen).size=0->K (.ok (.tup [.val (.bool false)])) (upd bl i {B with kd:= .gone}) nx [i])->
   (∀e∈(leftOf es seen).toList,∃k v get,k.conc β=e.key/\v.conc β=e.val/\Live bl k/\Live bl v/\K (.ok (.tup [.val (.bool true),k,v])) (upd bl i {B with get:=get}) nx [i]/\(B.kd.lst=true-> ∀e s,s∈get e->Live bl s)/\
     ∀w':World,w'.heap[(β i).blk]? =some (.mapIter (some m) H (seen.push e.born) J)->w'.heap[m]? =some (.map es J)->MapOK β (β i).blk w' B.kd get)->
   se P W0 bl nx β w ((do let v <-Instr.next ((SV.ptr i 0 0).conc β) false ty;pure (Next.value v):Sem Next).run P w) K:=by
   intro m H c0 seen es J hit hr hb M0 U0 h0 h1;have hm:=BK.it_map hit;have L0:=e0.maps.off i B hB hit;have N0:(SV.ptr i 0 0).conc β= .pointer (some ⟨(β i).blk,0,none⟩):=by simp[SV.conc,addr,L0]
   have z0:m≠(β i).blk:=λe=>by rw[e,hr] at hb;cases hb
   rw[N0];rcases run_next_at (P:=P) w ty (β i).blk m H c0 seen es J hr hb M0 U0 with ⟨k0,j0⟩|⟨e,he,w1,v0,j0⟩
   ·exact .inr ⟨β,w, .tup [.val (.bool false)],_,nx, [i], .inl (by rw[zdE,j0];rfl),h0 k0,e0.kill i rfl,P0 _,λj N=>by simp[SV.ids,SV.idss] at N,Tr.gone hB,za0 _⟩
   ·obtain⟨k,v,get,hk,hv,lk,lv,hK,hl,T0⟩:=h1 e he;have B0:BC W0 bl β w1:=by
     rcases v0 with rfl|rfl
     ·exact e0
     ·exact e0.step (zdC _ _).drew
    have O0:w1.heap[(β i).blk]? =some (.mapIter (some m) H seen c0):=by rcases v0 with rfl|rfl<;>exact hr
    have Q0:w1.heap[m]? =some (.map es J):=by rcases v0 with rfl|rfl<;>exact hb
    have u0:=MapKept.heap_set (o':= .mapIter (some m) H (seen.push e.born) J) O0;refine .inr ⟨β,_, .tup [.val (.bool true),k,v],_,nx, [i], .inl (by rw[zdE,j0];simp[SV.conc,SV.concs,hk,hv,Result.andThen];rfl),hK,B0.setMap hB hm (o':= .mapIter (some m) H (seen.push e.born) J) (T0 _ u0.1 ((u0.2 m z0).trans Q0)) hl (.inl λ_ _ e=>by rw[O0] at e;cases e),P0 _,λj N=> ?_,Tr.put hB get,za0 _⟩;simp only[SV.ids,SV.idss,zbf,zaM,za8] at N;rcases N with N|N
    ·exact Live.upd lk j N
    ·exact Live.upd lv j N
  split at h
  ·rename_i a0;obtain⟨m1,m2,m3,m4⟩:=e0.maps.ok i B hB (by rw[a0];rfl);rw[a0] at m4;obtain⟨m,H,c0,J,seen,es,e1,e2,e3,e4,e5,e6,e7,e8,e9⟩:=m4;split at h
   ·rename_i l hl;obtain⟨h0,h1⟩:=h;have R0: ∃k v:Nat->SV,∀e,e<es.size->B.get (e+1)= [.val (.bool (!seen.contains e)),k e,v e]/\es[e]? =some {key:=(k e).conc β,val:=(v e).conc β,born:=e}:=by
     refine⟨λe=>((B.get (e+1))[1]?).getD (.val undef),λe=>((B.get (e+1))[2]?).getD (.val undef),λe he=> ?_⟩;obtain⟨k,v,k1,k2⟩:=e7 e he;simp only[k1];exact⟨rfl,k2⟩
    obtain⟨k,v,l0⟩:=R0;obtain⟨a1,a2⟩:=ve (λe he=>(l0 e he).1) e8 65 0 l (zaA _) hl;refine H0 (by rw[a0];rfl) e1 e2 e3 e4 (λhz=> ?_) λe he=> ?_
    ·have:l.any (·.1)=false:=by
      rw[List.any_eq_false];intro p hp n0;obtain⟨j,N,rfl⟩:=zbR hp;have Y:0+j<es.size:=by omega
      have:=a2 j Y;rw[zaa N] at this;rw[zbj this] at n0;have y0:=(l0 (0+j) Y).2;have q0:=all_seen es seen hz _ (by rw[Array.mem_toList_iff];exact zd1 y0);simp only[] at q0 n0;rw[q0] at n0;cases n0
     rw[this] at h0;exact h0
    ·obtain⟨x0,g0⟩:=mem_left he;obtain⟨j,N,rfl⟩:=zbR x0;have Y:j<es.size:=by simpa using N
     obtain⟨k1,k2⟩:=l0 j Y;have k3:es.toList[j]={key:=(k j).conc β,val:=(v j).conc β,born:=j}:=by
      rw[zcq Y] at k2;simpa using k2
     rw[k3] at g0 ⊢;simp only[] at g0;have E0:=a2 j (by omega);rw[za7,g0] at E0;have hF:=wx h1 E0;rw[za7] at hF;have lv:=λe s hs=>e0.maps.live i B e s hB (by rw[a0];rfl) hs;refine⟨k j,v j,_,rfl,rfl,lv (j+1) _ (by rw[k1];simp),lv (j+1) _ (by rw[k1];simp),hF,λ_ e s hs=> ?_,λw' q1 q2=> ?_⟩
     ·cases e with
      |zero=>
       simp only[nN,zai,zbw,or_false] at hs;rcases hs with rfl|rfl
       ·exact lv (j+1) _ (by rw[k1];simp)
       ·exact lv (j+1) _ (by rw[k1];simp)
      |succ e=>
      simp only[nN,bS] at hs;by_cases i0:e=j
      ·subst i0;simp only[decide_true,zdr,k1,Nx,zai,zbw,or_false] at hs;rcases hs with rfl|rfl|rfl
       ·intro x hx;simp[SV.ids] at hx
       ·exact lv (e+1) _ (by rw[k1];simp)
       ·exact lv (e+1) _ (by rw[k1];simp)
      ·simp only[i0,decide_false,zdq] at hs;exact lv (e+1) s hs
     ·rw[a0];refine⟨m,H,J,J,seen.push j,es,q1,q2,e3,e5,e5,e6,λe he=> ?_,λe he=> ?_, .inr ⟨seen,j,k j,v j,rfl,rfl,rfl,k2⟩⟩
      ·obtain⟨p1,p2⟩:=l0 e he;refine⟨k e,v e, ?_,p2⟩;simp only[nN,bS];rw[contains_push];by_cases i0:e=j
       ·subst i0;simp[k1,Nx]
       ·simp[i0,p1]
      ·simp only[nN,bS];rw[zds (by omega)];exact e8 e he
   ·exact h.elim
  ·rename_i a0;obtain⟨m1,m2,m3,m4⟩:=e0.maps.ok i B hB (by rw[a0];rfl);rw[a0] at m4;obtain⟨m,H,c0,seen,L,e1,e2,e3,e4,e5,e6,e7,e8⟩:=m4;obtain⟨h0,h1⟩:=h;have o0: ∀(j k:Nat),(L.map (·.1))[j]? =some k->(dS true 0 L)[j]? =some {key:= .int .i64 k,val:= .bool true,born:=j}:=by
    intro j k N;rw[zaL] at N;cases hL:L[j]? with
    |none=>rw[hL] at N;cases N
    |some p=>
     obtain⟨k',z⟩:=p;rw[hL] at N;obtain rfl:k'=k:=by simpa using N
     have hz:z=1:=e5 _ (zal hL);subst hz;have:=nZ true L 0 j k' 1 hL;rw[this,za7];rfl
   have K0: ∀(j:Nat) (x:MapEntry),(dS true 0 L)[j]? =some x-> ∃k,(L.map (·.1))[j]? =some k/\x={key:= .int .i64 k,val:= .bool true,born:=j}:=by
    intro j x hx;cases hL:(L.map (·.1))[j]? with
    |none=>
     rw[List.getElem?_eq_none_iff] at hL;rw[zad (by rw[aum];simpa using hL)] at hx;cases hx
    |some k=>
     rw[o0 j k hL] at hx;exact⟨k,rfl,(zbj hx).symm⟩
   refine H0 (by rw[a0];rfl) e1 e2 (λx hx=> ?_) e4 (λhz=>h0 λk=> ?_) λe he=> ?_
   ·obtain⟨j,N,rfl⟩:=zbR hx;obtain⟨k,hk,hx⟩:=K0 j _ (zaa (by simpa using N));simp only[List.toList_toArray] at hx ⊢;rw[hx,e3];simpa [aum] using N
   ·cases w0:su (B.get (k+1)) with
    |false=>rfl
    |true=>
     obtain⟨j,N,hs⟩:=(e7 k).1 w0;have:=all_seen _ seen hz {key:= .int .i64 k,val:= .bool true,born:=j} (by simpa using zal (o0 j k N));simp only[] at this;rw[hs] at this;cases this
   ·obtain⟨x0,g0⟩:=mem_left he;have C0:e∈dS true 0 L:=by simpa using x0
    obtain⟨j,y0⟩:=zby C0;obtain⟨k,hk,hx⟩:=K0 j e y0;subst hx;simp only[] at g0;have w0:su (B.get (k+1))=true:=(e7 k).2 ⟨j,hk,g0⟩;refine⟨.val (.int .i64 k), .val (.bool true),_,rfl,rfl,λx hx=>by simp[SV.ids] at hx,λx hx=>by simp[SV.ids] at hx,h1 (k:Int) (Int.natCast_nonneg _) (by rw[zd2];exact w0),λ(hl:B.kd.lst=true)=>(by rw[a0] at hl;cases hl),λw' q1 q2=> ?_⟩;rw[a0];refine⟨m,H,L.length,seen.push j,L,q1,q2,e3,by rw[e3];exact za0 _,e5,e6,λk'=> ?_, .inr ⟨seen,j,k,rfl,rfl,hk,rfl⟩⟩;show (!Nat.beq k' ((k:Int).toNat)&&su (B.get (k'+1)))=true↔_;rw[zd2,bS,za2,e7];simp only[zap,zdy];constructor
    ·rintro⟨z0,j',Y,hs⟩;refine⟨j',Y, ?_⟩;rw[contains_push,hs,zbi,zdw];rintro rfl;rw[hk] at Y;exact z0 (zbj Y).symm
    ·rintro⟨j',Y,hs⟩;rw[contains_push,zbr,zdw] at hs;refine⟨?_,j',Y,hs.1⟩;rintro rfl;have h2:=(List.getElem?_inj (zaV.1 hk).1 e6).1 (hk.trans Y.symm);exact hs.2 h2.symm
  ·exact h.elim
 ·exact h.elim
theorem DN (N:BC W0 bl β w) (j0:NX bl nx) (h:runX P bl nx (.ent i) K):
 se P W0 bl nx β w ((do let v <-Instr.entry ((SV.ptr i 0 0).conc β);pure (Next.value v):Sem Next).run P w) K:=by
 simp only[runX] at h;split at h
 ·rename_i B hB;cases hit:B.kd.it with
  |false=>rw[hit] at h;exact h.elim
  |true=>
   rw[hit] at h;simp only[zdr] at h;have hm:=BK.it_map hit;have e0:=N.maps.off i B hB hit;have g0:(SV.ptr i 0 0).conc β= .pointer (some ⟨(β i).blk,0,none⟩):=by simp[SV.conc,addr,e0]
   rw[g0];split at h
   ·rename_i k v hg;obtain⟨m1,m2,m3,m4⟩:=N.maps.ok i B hB hm;have a0: ∀{m J H:Nat} {seen:Array Nat} {es:Array MapEntry} {e:MapEntry},w.heap[(β i).blk]? =some (.mapIter (some m) J (seen.push e.born) H)->w.heap[m]? =some (.map es H)->e∈es.toList->(es.toList.map (·.born)).Nodup->k.conc β=e.key->v.conc β=e.val->Live bl k->Live bl v->
     se P W0 bl nx β w ((do let v <-Instr.entry (.pointer (some ⟨(β i).blk,0,none⟩));pure (Next.value v):Sem Next).run P w) K:=by
     intro m J H seen es e hr hb he hn hk hv lk lv;refine .inr ⟨β,w, .tup [k,v],_,nx, [], .inl ?_,h,N,j0,λj hj=> ?_,Tr.refl _ _ _ _,za0 _⟩
     ·rw[zdE,run_entry_at w _ m J seen es H e hr hb he hn];simp[SV.conc,SV.concs,hk,hv,Result.andThen]
     ·simp only[SV.ids,SV.idss,zbf,za8] at hj;rcases hj with hj|hj
      ·exact lk j hj
      ·exact lv j hj
    cases Y:B.kd with
    |itL=>
     rw[Y] at m4;obtain⟨m,J,c0,H,seen,es,e1,e2,e3,e4,e5,e6,e7,e8,e9⟩:=m4;have lv:=λe s hs=>N.maps.live i B e s hB (by rw[Y];rfl) hs;rcases e9 with e9|⟨s',j,k',v',k1,k2,k3,k4⟩
     ·rw[hg] at e9;cases e9
     ·rw[hg] at k3;simp only[zc9,and_true] at k3;obtain⟨rfl,rfl⟩:=k3;subst k1 k2;have hj:j<es.size:=(zaq.1 k4).1;refine a0 (e:={key:=k.conc β,val:=v.conc β,born:=j}) e1 e2 (by rw[Array.mem_toList_iff];exact zd1 k4) ?_ rfl rfl (lv 0 _ (by rw[hg];simp)) (lv 0 _ (by rw[hg];simp));have:es.toList.map (·.born)=List.range es.size:=by
       apply zbt (by simp);intro n h1 h2;have hn:n<es.size:=by simpa using h1
       obtain⟨kk,vv,_,q⟩:=e7 n hn;rw[zcq hn] at q;simp only[List.getElem_map,Array.getElem_toList,List.getElem_range];rw[zbj q]
      rw[this];exact List.nodup_range
    |itK=>
     rw[Y] at m4;obtain⟨m,J,c0,seen,L,e1,e2,e3,e4,e5,e6,e7,e8⟩:=m4;rcases e8 with e8|⟨s',j,k',k1,k2,k3,k4⟩
     ·rw[hg] at e8;cases e8
     ·rw[hg] at k4;simp only[zc9,and_true] at k4;obtain⟨rfl,rfl⟩:=k4;subst k1 k2;have i0:(dS true 0 L)[j]? =some {key:= .int .i64 k',val:= .bool true,born:=j}:=by
       rw[zaL] at k3;cases hL:L[j]? with
       |none=>rw[hL] at k3;cases k3
       |some p=>
        obtain⟨k2,z⟩:=p;rw[hL] at k3;obtain rfl:k2=k':=by simpa using k3
        have hz:z=1:=e5 _ (zal hL);subst hz;have:=nZ true L 0 j k2 1 hL;rw[this,za7];rfl
      refine a0 (e:={key:= .int .i64 k',val:= .bool true,born:=j}) e1 e2 (by simpa using zal i0) ?_ rfl rfl (λx hx=>by simp[SV.ids] at hx) (λx hx=>by simp[SV.ids] at hx);have: ∀(L:List (Nat×Int)) (a:Nat),(dS true a L).map (·.born)=(List.range L.length).map (a+ ·):=by
       intro L
       induction L with
       |nil=>intro a;rfl
       |cons p L ih=>
        intro a;obtain⟨k,v⟩:=p;simp only[dS,zaK,za4,List.range_succ_eq_map,zct];rw[ih (a+1)];simp only[zaY,zc9,true_and];apply zbH;intro x _;simp only[Function.comp];omega
      rw[List.toList_toArray,this];simpa using List.nodup_range
    |_=>rw[Y] at hit;cases hit
   ·exact h.elim
 ·exact h.elim
theorem sf {β:zdI} {t:TypeId} {k:SV} {K:Option SV->Prop} {d:TypeDesc} (J:P.underlying t=some d): ∀(l:List (SV×SV)) (i j:Nat),uU P t k K l->
 ∃r:Option SV,K r/\(∀v,r=some v-> ∃p∈l,p.2=v)/\ ∃q,Instr.findNow d (k.conc β) (pf β i l) j=some q/\q.map (·.2)=r.map (SV.conc β)
 | [],i,j,h=>⟨none,h,λv hv=>(by cases hv),none,rfl,rfl⟩
 |(k',v)::l,i,j,h=>by
  simp only[uU] at h;split at h
  ·rename_i b Y;obtain⟨N,h1,_,h2⟩:=js (β:=β) Y;rw[J] at h1;obtain rfl:d=N:=by simpa using h1
   cases b with
   |true=>exact⟨some v,h,λu H=>⟨_,zbF,by simpa using H⟩,some (j,v.conc β),by simp only[pf,Instr.findNow,h2],rfl⟩
   |false=>
    obtain⟨r,k1,k2,q,k3,k4⟩:=sf J l (i+1) (j+1) h;exact⟨r,k1,λu H=>by obtain⟨p,hp,e⟩:=k2 u H;exact⟨p,zan _ hp,e⟩,q,by simp only[pf,Instr.findNow,h2];exact k3,k4⟩
  ·exact h.elim
variable {A:AS} {a:Act} {o:Oper}
theorem Ak (j0:FR β A a) (a0:BC W0 A.bl β w) {T:(zdR)->Prop} (H:R4 P A o=some T) {K:zdR} (h:T K):
 o.guard=none/\ ∃s,K s/\(execOp a.eval o).run P w= .ok (.value (s.conc β)) w/\Live A.bl s:=by
 have J: ∀{y:Operand} {s:SV},ev A.tm [] y=some s->a.eval y=s.conc β/\Live A.bl s:=λhe=>bu j0 (G:= []) (λp hp=>by cases hp) he;obtain⟨o1,o2,o3,o4,o5,o6⟩:=o;unfold R4 at H;simp only[] at H;split at H
 ·rename_i t m k ok;split at H
  ·rename_i i k' kt et hm hk ht;split at H
   ·rename_i B z hB hz;have Y:=aaR (P:=P) hz w;split at H
    ·rename_i N;obtain⟨m1,m2,m3,m4⟩:=a0.maps.ok i B hB (by rw[N];rfl);rw[N] at m4;obtain⟨es,e1,e2,e3,e4⟩:=m4;split at H
     ·rename_i l c hl hc;simp only[za1] at H;subst H;obtain⟨a1,a2,a3⟩:=lG e3 e4 64 0 l (zaA _) hl;rw[zaZ] at a1;obtain⟨d,hd,i0,_⟩:=js (β:=β) hc;have e0:=λem=>MapKept.run_checkKey (w:=w) hd i0 em 9999;obtain⟨r,k1,k2,q,k3,k4⟩:=sf (β:=β) hd l 0 0 h;rw[<-a1] at k3;have g0:=MapKept.run_findKey (w:=w) hd k3;refine⟨rfl, ?_⟩;cases r with
      |some v=>
       cases q with
       |none=>simp at k4
       |some q=>
        obtain⟨q1,q2⟩:=q;simp only[zb0,za1] at k4;subst k4;refine⟨_,k1, ?_,iP ?_⟩
        ·rw[iO];simp[execOp,(J hm).1,(J hk).1,Instr.lookup,SV.conc,run_underlying ht,MapKept.run_getObj_map e1,e0,g0,Result.andThen]
        ·obtain⟨p,hp,rfl⟩:=k2 v rfl;obtain⟨j,hj⟩:=a3 p hp;exact a0.maps.live i B j p.2 hB (by rw[N];rfl) (by rw[hj];simp)
      |none=>
       cases q with
       |some q=>simp at k4
       |none=>
        refine⟨_,k1, ?_,iP (ye _ z)⟩;rw[iO,rE];simp[execOp,(J hm).1,(J hk).1,Instr.lookup,SV.conc,run_underlying ht,MapKept.run_getObj_map e1,e0,g0,Y,Result.andThen]
     ·cases H
    ·cases H
   ·cases H
  ·cases H
 ·cases H
theorem yj {el:TypeId} (H:P.underlying t=some (.slice el)) (d:Nat) (a:Option Addr) (n c m k:Nat) (w:World):(Op.equalIn (d+1) t (.slice a n c) (.slice none m k)).run P w= .ok a.isNone w:=by
 cases a<;>simp[Op.equalIn,run_underlying H]
theorem Ca {ps rs:Array TypeId} {vr:Bool} (H:P.underlying t=some (.func ps rs vr)) (d:Nat) (w:World) (f:Fn) (a b:Array Value):(Op.equalIn (d+1) t (.func f a b) .nilFunc).run P w= .ok false w/\(Op.equalIn (d+1) t .nilFunc .nilFunc).run P w= .ok true w:=by
 constructor<;>simp[Op.equalIn,run_underlying H]
theorem qT {ρ:Operand->Value} {x:Operand} {y v:Value} {yt:TypeId} {c b:Bool} {op:BinOp} {o1:Option Tmp} {o3:TypeId} {o4:String} {o5:Array Edge} {g:Option (Nat×Bool)} (hop:op= .eql/\b=true\/op= .neq/\b=false) (J:ρ x=v) (N:ρ (.const y)=y)
 (h1: ∀op,eqGuard op ty x (.const y) v y=pure ()) (h2:binOp .eql ty v y=do pure (.bool (<-Op.equal ty v y))) (h3:binOp .neq ty v y=do pure (.bool (!(<-Op.equal ty v y)))) (H:(Op.equal ty v y).run P w= .ok c w):
 (execOp ρ ⟨o1, .binOp op ty x (.const y) yt,o3,o4,o5,g⟩).run P w= .ok (.value (.bool (bif b then c else !c))) w:=by
 show ((do eqGuard op ty x (.const y) (ρ x) (ρ (.const y));binOp op ty (ρ x) (ρ (.const y)):Sem Value)>>=λv=>pure (Next.value v)).run P w=_;rw[J,N,h1];rcases hop with ⟨rfl,rfl⟩|⟨rfl,rfl⟩
 ·rw[h2];simp[H]
 ·rw[h3];simp[H]
theorem DO (i0:FR β A a) (Y:BC W0 A.bl β w) (N:NX A.bl A.nx) {x:XOp} (H:uq A o=some x) (h:runX P A.bl A.nx x K):
 o.guard=none/\se P W0 A.bl A.nx β w ((execOp a.eval o).run P w) K:=by
 have J: ∀{y:Operand} {s:SV},ev A.tm [] y=some s->a.eval y=s.conc β/\Live A.bl s:=λhe=>bu i0 (G:= []) (λp hp=>by cases hp) he;obtain⟨o1,o2,o3,o4,o5,o6⟩:=o;unfold uq at H;simp only[] at H;split at H
 ·split at H
  ·rename_i t v he;simp only[za1] at H;subst H;refine⟨rfl, .inl ⟨_, ?_,h⟩⟩;simp[execOp,(J he).1,SV.conc,Instr.panic,goPanic]
  ·cases H
 ·split at H
  ·rename_i t y _ v he;simp only[za1] at H;subst H;simp only[runX] at h;split at h
   ·exact h.elim
   ·rename_i d hd hu;refine⟨rfl, .inr ⟨β,w, .val (.iface t v),_,_, [], .inl ?_,h,Y,N,λj hj=>by simp[SV.ids] at hj,Tr.refl _ _ _ _,za0 _⟩⟩;simp only[execOp,(J he).1,SV.conc,Instr.makeInterface,zdE,run_underlying hu,zdD];cases d<;>first|rfl|exact absurd rfl (hd _)
   ·exact h.elim
  ·cases H
 ·rename_i t;simp only[za1] at H;subst H;simp only[runX] at h;split at h
  ·rename_i kd hk;obtain⟨hm,j0,l0⟩:kd.map=true/\kd.it=false/\kd.loop=false:=by
    unfold Pm at hk;split at hk
    ·split at hk<;>first|(simp only[za1] at hk;subst hk;exact⟨rfl,rfl,rfl⟩)|cases hk
    ·cases hk
   refine⟨rfl, .inr ⟨_,_, .mp A.nx,_,_, [A.nx], .inl ?_,h,Y.newMap (N _ (za0 _)) hm j0 l0,λj hj=> ?_,λj hj=> ?_,Tr.newB N _,zaT _⟩⟩
   ·have e:(Instr.makeMap t none).run P w= .ok (.map (some w.heap.size)) (w.alloc (.map #[] 0)):=rfl;simp[execOp,SV.conc,aA,e]
   ·rw[ak (by omega)];exact N j (by omega)
   ·simp only[SV.ids,zaj] at hj;subst hj;rw[az];simp
  ·exact h.elim
 ·split at H
  ·rename_i t m _ i hm;simp only[za1] at H;subst H;refine⟨rfl, ?_⟩;have r:=DL Y N h;simp only[execOp,(J hm).1,SV.conc] at r ⊢;exact r
  ·cases H
 ·split at H
  ·rename_i y _ i hm;simp only[za1] at H;subst H;refine⟨rfl, ?_⟩;have r:=DM (ty:=o3) Y N h;simp only[execOp,(J hm).1] at r ⊢;exact r
  ·cases H
 ·split at H
  ·rename_i y _ i hm;simp only[za1] at H;subst H;refine⟨rfl, ?_⟩;have r:=DN Y N h;simp only[execOp,(J hm).1] at r ⊢;exact r
  ·cases H
 ·split at H
  ·rename_i t m k v i k' v' hm hk hv;simp only[za1] at H;subst H;refine⟨rfl, ?_⟩;have r:=vd Y N (J hk).2 (J hv).2 h;simp only[execOp,(J hm).1,(J hk).1,(J hv).1,SV.conc] at r ⊢;exact r
  ·cases H
 ·split at H
  ·rename_i t m k v i k' v' hm hk hv;simp only[za1] at H;subst H;refine⟨rfl, ?_⟩;have r:=vd Y N (J hk).2 (J hv).2 h;simp only[execOp,(J hm).1,(J hk).1,(J hv).1,SV.conc] at r ⊢;exact r
  ·cases H
 ·rename_i op ty x y yt;have g0: ∀{s:SV} {b f:Bool},ev A.tm [] x=some s->runX P A.bl A.nx (.nil ty b f s) K->B5 y=some f->(op= .eql/\b=true\/op= .neq/\b=false)->(none:Option (Nat×Bool))=none/\se P W0 A.bl A.nx β w ((execOp a.eval ⟨o1, .binOp op ty x (.const y) yt,o3,o4,o5,none⟩).run P w) K:=by
   intro s b f he h hy hop;obtain⟨e1,l1⟩:=J he;have ey:a.eval (.const y)=y:=rfl;have done: ∀{c:Bool},(execOp a.eval ⟨o1, .binOp op ty x (.const y) yt,o3,o4,o5,none⟩).run P w= .ok (.value (.bool c)) w->K (.ok (.val (.bool c))) A.bl A.nx []->se P W0 A.bl A.nx β w ((execOp a.eval ⟨o1, .binOp op ty x (.const y) yt,o3,o4,o5,none⟩).run P w) K:=
    λhr hK=> .inr ⟨β,w, .val (.bool _),_,_, [], .inl hr,hK,Y,N,λj hj=>by simp[SV.ids] at hj,Tr.refl _ _ _ _,za0 _⟩
   have e0:(f=false/\ ∃n c,y= .slice none n c)\/(f=true/\y= .nilFunc):=by
    unfold B5 at hy;split at hy
    ·simp only[za1] at hy;exact .inl ⟨hy.symm,_,_,rfl⟩
    ·simp only[za1] at hy;exact .inr ⟨hy.symm,rfl⟩
    ·cases hy
   refine⟨rfl, ?_⟩;simp only[runX] at h;split at h
   ·rename_i el i e n hu;obtain⟨_,m,c,rfl⟩|⟨hf,_⟩:=e0
    ·split at h
     ·rename_i B hB;obtain⟨hb,h⟩:=Xg.1 h;simp only[za2] at hb;have a0:=(Y.blk i B hB (λe=>by rw[e] at hb;exact absurd hb.2 (by decide))).nn hb.1;refine done ?_ h;have:=qT (P:=P) (w:=w) (c:=false) (o1:=o1) (o3:=o3) (o4:=o4) (o5:=o5) (yt:=yt) (g:=none) hop e1 ey (by simp only[SV.conc,a0,zdq];intro op;cases op<;>rfl) (by simp only[SV.conc,a0,zdq];rfl) (by simp only[SV.conc,a0,zdq];rfl) (by simp only[SV.conc,a0,zdq];exact yj hu 9999 _ _ _ _ _ w);rw[this];cases b<;>rfl
     ·exact h.elim
    ·cases hf
   ·rename_i el n c hu;obtain⟨_,m,c',rfl⟩|⟨hf,_⟩:=e0
    ·refine done ?_ h;have:=qT (P:=P) (w:=w) (c:=true) (o1:=o1) (o3:=o3) (o4:=o4) (o5:=o5) (yt:=yt) (g:=none) hop e1 ey (by intro op;cases op<;>rfl) rfl rfl (yj hu 9999 _ _ _ _ _ w);rw[this];cases b<;>rfl
    ·cases hf
   ·rename_i ps rs vr fn fs cs hu;obtain⟨hf,_⟩|⟨_,rfl⟩:=e0
    ·cases hf
    ·refine done ?_ h;have:=qT (P:=P) (w:=w) (c:=false) (o1:=o1) (o3:=o3) (o4:=o4) (o5:=o5) (yt:=yt) (g:=none) hop e1 ey (by intro op;cases op<;>rfl) rfl rfl (Ca hu 9999 w _ _ _).1;rw[this];cases b<;>rfl
   ·rename_i ps rs vr hu;obtain⟨hf,_⟩|⟨_,rfl⟩:=e0
    ·cases hf
    ·refine done ?_ h;have:=qT (P:=P) (w:=w) (c:=true) (o1:=o1) (o3:=o3) (o4:=o4) (o5:=o5) (yt:=yt) (g:=none) hop e1 ey (by intro op;cases op<;>rfl) rfl rfl (Ca hu 9999 w (.func 0) #[] #[]).2;rw[this];cases b<;>rfl
   ·exact h.elim
  split at H
  ·rename_i s f he hy;simp only[za1] at H;subst H;exact g0 he h hy (.inl ⟨rfl,rfl⟩)
  ·rename_i s f he hy;simp only[za1] at H;subst H;exact g0 he h hy (.inr ⟨rfl,rfl⟩)
  ·cases H
 ·cases H
end
section
variable {P:Program} {W0:Base}
structure Trs (A:AS) (β:Nat->Loc) (A':AS) (β':Nat->Loc):Prop where
 tr:Tr A.bl A.nx A'.wl β A'.bl β'
 wl: ∀i∈A.wl,i∈A'.wl
 nx:A.nx<=A'.nx
 nt:A'.nt=A.nt
theorem Trs.refl (A:AS) (β:zdI):Trs A β A β:=⟨Tr.refl _ _ _ _,λ_ h=>h,za0 _,rfl⟩
variable {A:AS} {β γ:zdI}
theorem Trs.trans {B C:AS} {δ:zdI} (h:Trs A β B γ) (k:Trs B γ C δ):Trs A β C δ:=
 ⟨h.tr.trans k.tr h.nx k.wl (λ_ h=>h),λi hi=>k.wl i (h.wl i hi),zac h.nx k.nx,k.nt.trans h.nt⟩
structure Is (W0:Base) (A:AS) (β:Nat->Loc) (a:Act) (w:World):Prop where
 fr:FR β A a
 bc:BC W0 A.bl β w
 nx:NX A.bl A.nx
 sd:A.sd=W0.sd
def SideOK (P:Program) (W0 B:Base) (A:AS) (β:zdI):Prop:= ∀x t,A.sd.2=some (x,t)->A.bl x≠none/\ ∃d at' b g,A.sd.1=some d/\BAtOK P d at'/\(β x).blk=b/\(β x).off=0/\at' b g t B.w/\B.F b=true/\B.F g=true/\W0.mine b/\W0.mine g
def IsX (P:Program) (W0:Base) (A:AS) (β:zdI) (a:Act) (w:World):Prop:= ∃B,SubB B W0/\(∀b,B.out b->W0.out b)/\Is B A β a w/\SideOK P W0 B A β
variable {B:Base} {A':AS} {β':zdI}
theorem SideOK.step (h:SideOK P W0 B A β) (H:A'.sd=A.sd) (N: ∀i,A.bl i≠none->A'.bl i≠none/\β' i=β i):SideOK P W0 B A' β':=by
 intro x t J;rw[H] at J ⊢;obtain⟨h1,d,at',b,g,k1,k2,k3,Y,k5⟩:=h x t J;obtain⟨h2,h3⟩:=N x h1;exact⟨h2,d,at',b,g,k1,k2,by rw[h3];exact k3,by rw[h3];exact Y,k5⟩
variable {a:Act} {w w':World}
theorem IsX.wrap {a':Act} (Y:SubB B W0) (J: ∀b,B.out b->W0.out b) (hs:Is B A β a w) (H:SideOK P W0 B A β) (N:Is B A' β' a' w') (ht:Trs A β A' β'):IsX P W0 A' β' a' w':=
 ⟨B,Y,J,N,H.step (N.sd.trans hs.sd.symm) λi hi=>⟨ht.tr.dom hi,ht.tr.same i hi⟩⟩
theorem Is.x (h:Is W0 A β a w) (J:A.sd.2=none):IsX P W0 A β a w:=
 ⟨W0,SubB.refl W0,λ_ h=>h,h,λx t H=>by rw[J] at H;cases H⟩
theorem IsX.up (h:IsX P W0 A β a w):Is {W0 with sd:=A.sd} A β a w:=by
 obtain⟨B,H,N,h,_⟩:=h;have k:BC W0 A.bl β w:=h.bc.rebase (H.pres h.bc.below) (λ_ _ _ _ _ J=>H.mine J) (λ_ _ _ _ _ h=>N _ h);exact⟨h.fr,k.rebase ⟨k.below.os,k.below.tape,k.below.output,k.below.size,k.below.block⟩ (λ_ _ _ _ _ h=>h) (λ_ _ _ _ _ h=>h),h.nx,rfl⟩
def Post (P:Program) (W0:Base) (A:AS) (β:zdI) (K:Exit->zdS):zdN:=
 λe a w=> ∃A' β',K e A'/\IsX P W0 A' β' a w/\Trs A β A' β'
def Ends (β:zdI):Res->Ending->Prop
 | .ok r,e=>e= .returned (r.conc β)
 | .pan v,e=>e= .panicked [{v:=v,recovered:=false}]
def sg (bl:zdL):Res->Prop
 | .ok r=>Live bl r
 | .pan _=>True
def Behind (W0:Base) (β:zdI) (bl:zdL) (nx:Nat) (wl:zdH) (K:Aft) (e:Ending) (w':World):Prop:=
 ∃β' r bl' H J,Ends β' r e/\K r bl' H J/\BC W0 bl' β' w'/\NX bl' H/\sg bl' r/\Tr bl nx J β bl' β'/\(∀i∈wl,i∈J)/\nx<=H
structure InlOK (P:Program) (W0:Base) (inl:Inl):Prop where
 call: ∀(f:FuncId) (args:List SV) (bl:Nat->Option Blk) (nx:Nat) (wl:List Nat) (K:Aft) (β:Nat->Loc) (w:World),
  inl f args bl nx wl K->BC W0 bl β w->NX bl nx->(∀s∈args,Live bl s)->
  Callable P f/\Calls P f (SV.concs β args).toArray w (Behind W0 β bl nx wl K)
 yl: ∀(i:Nat) (args:List SV) (bl:Nat->Option Blk) (nx:Nat) (wl:List Nat) (K:Aft) (β:Nat->Loc) (w:World),
  inl.yl i args bl nx wl K->BC W0 bl β w->NX bl nx->(∀s∈args,Live bl s)->
  ∃fn tmps assign body,(Instr.yield (β i).blk (SV.concs β args).toArray).run P w= .ok (.round (β i).blk fn tmps assign body) w/\
   RoundIn Fence.wide 0 P (β i).blk fn tmps assign body w (Behind W0 β bl nx wl K)
variable {id:Nat}
theorem NX.apply {bl:zdL} {nx:Nat} (h:NX bl nx) (E:Eff) (hid:id<nx+1) (hn:nx<=id):NX (VO bl id E) (nx+1):=by
 intro i hi;have h0:bl i=none:=h i (by omega);have J:i≠id:=by omega
 have key:(match E.wr with
  |some (i,e,o,cs)=>match bl i with
   |some B=>upd bl i (B.put e o cs)
   |none=>bl
  |none=>bl) i=none:=by
  cases hw:E.wr with
  |none=>exact h0
  |some p=>
   obtain⟨j,e,o,cs⟩:=p;simp only[];cases Y:bl j with
   |none=>exact h0
   |some C=>
    simp only[];have H:i≠j:=λe=>by rw[e,Y] at h0;cases h0
    rw[ak H];exact h0
 unfold VO;cases hn:E.nw with
 |none=>exact key
 |some N=>exact(ak J).trans key
variable {Γ:zdP} {ops:zdO} {o:Oper}
theorem Kg {f:li} (h:step P Γ ops id o A=some (true,A',f)): ∃E,A'.bl=VO A.bl id E:=by
 obtain⟨D,_,rfl,_⟩:=VV.1 h;exact⟨D.E,rfl⟩
theorem apL (h:FR β A a):FR β (endG A) a:=by
 refine⟨h.defers,h.size, ?_, ?_, ?_⟩
 ·intro t s H;simp only[endG] at H;cases hg:A.og t with
  |true=>rw[hg] at H;simp at H
  |false=>rw[hg] at H;exact h.v t s (by simpa using H)
 ·intro t u b s H;exfalso;simp only[endG] at H;cases hg:A.og t with
  |true=>rw[hg] at H;simp at H
  |false=>
   rw[hg] at H;have:=(h.os t u b s (by simpa using H)).1;rw[hg] at this;cases this
 ·intro t u b s H;exfalso;simp only[endG] at H;cases hg:A.og t with
  |true=>rw[hg] at H;simp at H
  |false=>
   rw[hg] at H;have:=(h.os t u b s (by simpa using H)).1;rw[hg] at this;cases this
theorem FR.frame (h:FR β A a) (nx:Nat) (wl:zdH):FR β {A with nx:=nx,wl:=wl} a:=⟨h.defers,h.size,h.v,h.opt,h.os⟩
theorem Cb {f:zdQ}: ∀{n:Nat},rL n f=true-> ∀e,e<n->f e=true
 |0,_,e,H=>by omega
 |k+1,h,e,H=>by
  simp only[rL,za2] at h;by_cases h2:e=k
  ·subst h2;exact h.1
  ·exact Cb h.2 e (by omega)
theorem sh {f:Nat->zdK} {s:Nat}: ∀(m:Nat),(∀i,i<m->(f i).length=s)->((List.range m).flatMap f).length=m*s
 |0,_=>by simp
 |m+1,h=>by
  rw[zd3,zd4,za3,sh m (λi hi=>h i (by omega))];simp[h m (by omega),zaG]
theorem yk {f:Nat->zdK} {s:Nat}: ∀(m:Nat),(∀i,i<m->(f i).length=s)-> ∀{i o:Nat},i<m->o<s->((List.range m).flatMap f)[i*s+o]? =(f i)[o]?
 |0,_,i,o,hi,_=>by omega
 |m+1,h,i,o,hi,N=>by
  have J:=sh m (λi hi=>h i (by omega));rw[zd3,zd4];by_cases H:i<m
  ·rw[zbB (by rw[J];exact jS H N)];exact yk m (λi hi=>h i (by omega)) H N
  ·obtain rfl:i=m:=by omega
   rw[zbX (by rw[J];omega),J];simp
def jh (β:zdI) (get:zdM) (e m:Nat):zdK:=(List.range m).flatMap λi=>SV.concs β (get (e+i))
variable {get:zdM} {e m:Nat}
theorem sj {s:Nat} (h: ∀i,i<m->(get (e+i)).length=s):(jh β get e m).length=m*s:=
 sh m λi hi=>by rw[SV.concs_eq,zaB];exact h i hi
theorem sw {s:Nat} (h: ∀i,i<m->(get (e+i)).length=s) {i o:Nat} (hi:i<m) (H:o<s):(jh β get e m)[i*s+o]? =((get (e+i))[o]?).map (SV.conc β):=by
 unfold jh;rw[yk (f:=λi=>SV.concs β (get (e+i))) m (λi hi=>by rw[SV.concs_eq,zaB];exact h i hi) hi H,SV.concs_eq,zaL]
theorem vf {B:Blk} (q:BlkOK β id B w) (hm:e+m<=B.n) (j:Nat) (u:Value) (J:(jh β B.get e m)[j]? =some u):w.cell? ((addr β id e 0).add j)=some u:=by
 have hs: ∀i,i<m->(B.get (e+i)).length=B.sz:=λi hi=>q.len (e+i) (by omega);have Y:j<m*B.sz:=by
  rcases zah j (m*B.sz) with h|h
  ·exact h
  ·rw[zad (by rw[sj hs];exact h)] at J;cases J
 have H:0<B.sz:=by
  rcases zbK B.sz with h|h
  ·rw[h] at Y;omega
  ·exact h
 have hd:j=j / B.sz*B.sz+j%B.sz:=by rw[zay];exact(zcM j B.sz).symm
 have hi:j / B.sz<m:=(zbO H).2 Y;have ho:j%B.sz<B.sz:=zar _ H;rw[hd,sw hs hi ho] at J;cases N:(B.get (e+j / B.sz))[j%B.sz]? with
 |none=>rw[N] at J;cases J
 |some x=>
  rw[N] at J;simp only[zb0,za1] at J;have:=q.val (e+j / B.sz) (by omega) _ x N;rw[jr,<-J,<-this]
  congr 1
  unfold addr
  congr 1
  rw[q.sz];have:(e+j / B.sz)*B.sz=e*B.sz+j / B.sz*B.sz:=zaG _ _ _;omega
theorem ym {α β:Type} {l:List α} {f g:α->List β} (h: ∀a∈l,f a=g a):l.flatMap f=l.flatMap g:=by
 rw[List.flatMap_def,List.flatMap_def,zbH h]
variable {n:Nat}
theorem DP {B C:Blk} {s:Nat} (hB: ∀k,k<n->(B.get k).length=s) (H: ∀k,k<m->(C.get (e+k)).length=s) (k:Nat) (J:k<n+m):(ald B.get C.get n e k).length=s:=by
 unfold ald;cases h:Nat.blt k n with
 |true=>simp only[zdr];exact hB k (by simpa [zb2] using h)
 |false=>
  have: ¬k<n:=by rw[aB] at h;simpa using h
  simp only[zdq];exact H (k - n) (by omega)
variable {C:zdM} {k:Nat}
theorem sA {B:zdM} (h:k<n):ald B C n e k=B k:=by
 unfold ald;rw[aB,zdp h];rfl
theorem n7 {B:zdM} (h: ¬k<n):ald B C n e k=C (e+(k - n)):=by
 unfold ald;rw[aB,zds h];rfl
theorem Al {A:AS} {β:zdI} {w:World} (j0:BC W0 A.bl β w) (y0:NX A.bl A.nx) {t:TypeId} {x y r:SV} {b:Bool} {bl:zdL} {k:zdH}
 (h:S0 P A t x y=some (b,bl,r,k)) (hb:b=true) (ty:TypeId):
 ∃β' w',(Builtin.append_ #[t,t] ty #[x.conc β,y.conc β]).run P w= .ok (r.conc β') w'/\BC W0 bl β' w'/\NX bl (A.nx+1)/\Live bl r/\Tr A.bl A.nx k β bl β':=by
 have hid:A.bl A.nx=none:=y0 _ (za0 _);unfold S0 at h;split at h
 ·rename_i el j e m hu;split at h
  ·rename_i H C o0 hC
   have key:C.kd≠ .gone->(bif Nat.beq C.sz H.size&&Nat.ble 1 H.size&&Nat.ble 1 H.bytes&&(match H.zero with
    |some z=>Nat.beq z.cells.size H.size
    |none=>false) then(match x with
    | .val (.slice none 0 0)=>some (decide (0<m)&&decide (e+m<=C.n)&&decide (m*H.bytes<=140737488355328)&&rL m (λk=>(C.get (e+k)).all SV.one),upd A.bl A.nx {n:=m,sz:=C.sz,get:=λk=>C.get (e+k),kd:= .own},SV.slc A.nx 0 m,([]:zdH))
    | .slc i 0 n=>match A.bl i with
      |some B=>match B.kd with
       | .own=>bif Nat.beq B.sz C.sz&& !Nat.beq i j then
          some (decide (0<m)&&decide (e+m<=C.n)&&decide (n<=B.n)&&decide ((n+m)*H.bytes<=140737488355328)&&rL m (λk=>(C.get (e+k)).all SV.one),
           upd (upd A.bl i {B with kd:= .gone}) A.nx {n:=n+m,sz:=C.sz,get:=ald B.get C.get n e,kd:= .own}, .slc A.nx 0 (n+m), [i]) else none
       |_=>none
      |none=>none
    |_=>none) else none)=some (b,bl,r,k)-> ∃β' w',(Builtin.append_ #[t,t] ty #[x.conc β,(SV.slc j e m).conc β]).run P w= .ok (r.conc β') w'/\BC W0 bl β' w'/\NX bl (A.nx+1)/\Live bl r/\Tr A.bl A.nx k β bl β':=by
    intro H0 h
    cases hc:(Nat.beq C.sz H.size&&Nat.ble 1 H.size&&Nat.ble 1 H.bytes&&(match H.zero with
     |some z=>Nat.beq z.cells.size H.size
     |none=>false)) with
    |false=>rw[hc] at h;cases h
    |true=>
     rw[hc] at h;simp only[zdr] at h;simp only[za2] at hc;obtain⟨⟨⟨c1,c2⟩,c3⟩,c4⟩:=hc;have g0:=zab c1;have K0:=zak c2;have a1:=zak c3;obtain⟨z,hz,M0⟩: ∃z,H.zero=some z/\z.cells.size=H.size:=by
      cases hz:H.zero with
      |none=>rw[hz] at c4;cases c4
      |some z=>rw[hz] at c4;exact⟨z,rfl,zab c4⟩
     have qC:=j0.blk j C hC H0;have E0:0<m->e+m<=C.n->rL m (λk=>(C.get (e+k)).all SV.one)=true->
      (jh β C.get e m).length=m*H.size/\(∀i u,(jh β C.get e m)[i]? =some u->w.cell? ((addr β j e 0).add i)=some u)/\(∀u∈jh β C.get e m,u.oneCell'=true)/\(SV.slc j e m).conc β= .slice (some (addr β j e 0)) m ((β j).cap - e):=by
      intro h0 h1 h2;have J: ∀i,i<m->(C.get (e+i)).length=C.sz:=λi hi=>qC.len (e+i) (by omega);refine⟨by rw[sj J,g0],λi u hu=>vf qC h1 i u hu, ?_, ?_⟩
      ·intro u hu;unfold jh at hu;simp only[List.mem_flatMap,zaC] at hu;obtain⟨i,hi,hu⟩:=hu;rw[SV.concs_eq] at hu;obtain⟨s,q1,rfl⟩:=zaz.1 hu;have:=Cb h2 i hi;exact SV.one_conc β (zaf.1 this s q1)
      ·have:=qC.le;exact jq (qC.not_nil (e:=e) (by omega)) (.inl (by omega))
     have fresh: ∀(bl0:zdL),BC W0 bl0 β w->bl0 A.nx=none-> ∀(N:Blk) (w':World) (v':Value),N.kd= .own->N.sz=C.sz->0<N.n->N.nn=true->(∀e,e<N.n->(N.get e).length=C.sz)->
      (∀(e o:Nat) (s:SV),e<N.n->(N.get e)[o]? =some s->Live bl0 s)->w'.ownsRow w.heap.size el H.size v' N.n (jh β N.get 0 N.n)->w.grownBy w' none->
      ∃β',v'=(SV.slc A.nx 0 N.n).conc β'/\BC W0 (upd bl0 A.nx N) β' w'/\ ∀i,bl0 i≠none->β' i=β i:=by
      intro bl0 h0 z0 N w' v' k1 k2 k3 k4 k5 k6 V0 v0;obtain⟨_,⟨_,h1⟩|⟨g,cap,Z0,rfl,hg,a0,q0,_,O0,L0⟩⟩:=V0
      ·omega
      ·have hb:Below w.heap.size w w':=⟨v0.os,v0.tape,v0.output,v0.size,λk Y=>v0.block k Y (by simp)⟩;have u0: ∀i,w'.cell? ⟨g,i,none⟩=Z0[i]? :=λi=>by simp[World.cell?,a0]
       have j1:g<w'.heap.size:=by
        rcases zah g w'.heap.size with h|h
        ·exact h
        ·rw[zcC h] at a0;cases a0
       refine⟨gp β A.nx ⟨g,0,C.sz,cap,false⟩, ?_, ?_,λi hi=>aC λh=>hi (h▸z0)⟩
       ·rw[jq (by rw[aA]) (.inr rfl)];simp[addr,aA]
       ·refine h0.allocW z0 k1 (by rw[k2];exact k5) k6 hb (by simp[k2]) hg j1 q0 (λh=>by cases h) (λ_=>rfl) ?_ ?_ ?_
        ·intro i hi;simp only[za7,u0] at hi ⊢;rw[k2,g0] at hi;simp[O0,hi]
        ·intro i hi;simp[World.frozen?,a0]
        ·intro e' o s he J;simp only[za7,u0];have ho:o<C.sz:=by
          rcases zah o C.sz with h'|h'
          ·exact h'
          ·rw[zad (by rw[k5 e' he];exact h')] at J;cases J
         have hr:=sw (β:=β) (get:=N.get) (e:=0) (m:=N.n) (s:=C.sz) (λi hi=>by rw[za7];exact k5 i hi) he ho;rw[za7,J,<-L0] at hr;have B0:=jS (n:=N.n) (sz:=C.sz) he ho;rw[zcb (by rw[g0] at B0;rw[g0];exact B0)] at hr;rw[k2];simpa using hr
     have w0: ∀q,q*H.bytes<=140737488355328->q<=maxLen:=λq hq=>by
      have:q*1<=q*H.bytes:=zb5 _ a1;simp only[maxLen];omega
     have x0: ∀(bl0:zdL) (N:Blk),NX bl0 A.nx->NX (upd bl0 A.nx N) (A.nx+1):=λbl0 N h0 i hi=>by
      rw[ak (by omega)];exact h0 i (by omega)
     have N0: ∀(bl0:zdL) (N:Blk) (n:Nat),Live (upd bl0 A.nx N) (.slc A.nx 0 n):=λbl0 N n i hi=>by
      simp only[SV.ids,zaj] at hi;subst hi;rw[az];simp
     split at h
     ·simp only[za1,zag] at h;obtain⟨rfl,rfl,rfl,rfl⟩:=h;simp only[za2,zdt] at hb;obtain⟨⟨⟨h0,h1⟩,h2⟩,h3⟩:=hb;obtain⟨n1,n2,n3,n4⟩:=E0 h0 h1 h3;obtain⟨v',w',r1,r2,r3,_⟩:=run_append_own (P:=P) w w.heap.size t ty el H z H.size H.bytes hu o0 hz rfl rfl M0 K0 (.slice none 0 0) 0 [] (World.ownsRow_nil w _ el H.size) (addr β j e 0) m ((β j).cap - e) _ n1 n2 n3 (by rw[za7];exact w0 m h2) (by rw[za7];exact h2) (za0 _);rw[n4];rw[za7,zaM] at r2;obtain⟨β',e1,e2,e3⟩:=fresh A.bl j0 hid {n:=m,sz:=C.sz,get:=λk=>C.get (e+k),kd:= .own} w' v' rfl rfl h0 rfl (λi hi=>qC.len (e+i) (by simp at hi;omega))
       (λi o s hi J=>j0.live j C (e+i) o s hC H0 (by simp at hi;omega) J) (by
         have:jh β (λk=>C.get (e+k)) 0 m=jh β C.get e m:=by unfold jh;simp
         rw[this];exact r2) r3
      refine⟨β',w', ?_,e2,x0 _ _ y0,N0 _ _ _,⟨λi B hB=>⟨B, ?_,rfl,⟨rfl,rfl⟩, .inl rfl,λ_=>rfl⟩,e3,λi hi h0=> ?_⟩⟩
      ·rw[show (SV.val (.slice none 0 0)).conc β= .slice none 0 0 by rfl,r1,e1]
      ·rw[ak (λh=>by rw[h,hid] at hB;cases hB)];exact hB
      ·rw[ak (by omega)];exact h0
     ·rename_i i n _;split at h
      ·rename_i B hB;split at h
       ·rename_i Y;cases hc:(Nat.beq B.sz C.sz&& !Nat.beq i j) with
        |false=>rw[hc] at h;cases h
        |true=>
         rw[hc] at h;simp only[zdr,za1,zag] at h;obtain⟨rfl,rfl,rfl,rfl⟩:=h;simp only[za2,zap,bS,zdt,zdy] at hc;obtain⟨i0,v1⟩:=hc;simp only[za2,zdt] at hb;obtain⟨⟨⟨⟨h0,h1⟩,hn⟩,h2⟩,h3⟩:=hb;obtain⟨n1,n2,n3,n4⟩:=E0 h0 h1 h3;have U0:B.kd≠ .gone:=by rw[Y];simp
         have qB:=j0.blk i B hB U0;have T0:A.nx≠i:=λh=>by rw[<-h,hid] at hB;cases hB
         have I0: ∀k,k<n+m->(ald B.get C.get n e k).length=C.sz:=DP (λk Y=>by rw[qB.len k (by omega),i0]) (λk Y=>qC.len (e+k) (by omega));have hjlive: ∀(k o:Nat) (s:SV),k<n+m->(ald B.get C.get n e k)[o]? =some s->Live A.bl s:=by
          intro k o s Y J;by_cases l0:k<n
          ·rw[sA l0] at J;exact j0.live i B k o s hB U0 (by omega) J
          ·rw[n7 l0] at J;exact j0.live j C _ o s hC H0 (by omega) J
         have Y0: ∀β',(∀l,A.bl l≠none->β' l=β l)->Tr A.bl A.nx [i] β (upd (upd A.bl i {B with kd:= .gone}) A.nx {n:=n+m,sz:=C.sz,get:=ald B.get C.get n e,kd:= .own}) β':=by
          intro β' hβ;refine⟨λl D hD=> ?_,hβ,λl hl h0=> ?_⟩
          ·have hl:l≠A.nx:=λh=>by rw[h,hid] at hD;cases hD
           rw[ak hl];by_cases R0:l=i
           ·subst R0;rw[hB] at hD;obtain rfl:B=D:=by simpa using hD
            exact⟨_,az _ _ _,rfl,⟨rfl,rfl⟩, .inr rfl,λh=>absurd (by simp) h⟩
           ·rw[ak R0];exact⟨D,hD,rfl,⟨rfl,rfl⟩, .inl rfl,λ_=>rfl⟩
          ·rw[ak (by omega),ak (λh=>by rw[h,hB] at h0;cases h0)];exact h0
         have C0:NX (upd A.bl i {B with kd:= .gone}) A.nx:=λl hl=>by
          rw[ak (λh=>by rw[h] at hl;have:=y0 i hl;rw[hB] at this;cases this)];exact y0 l hl
         have b1:BC W0 (upd A.bl i {B with kd:= .gone}) β w:=j0.kill i rfl;have P0:upd A.bl i {B with kd:= .gone} A.nx=none:=by rw[ak T0];exact hid
         have grown: ∀v' w',w'.ownsRow w.heap.size el H.size v' (n+m) (jh β B.get 0 n++jh β C.get e m)->w.grownBy w' none->(Builtin.append_ #[t,t] ty #[(SV.slc i 0 n).conc β,(SV.slc j e m).conc β]).run P w= .ok v' w'->
          ∃β' w',(Builtin.append_ #[t,t] ty #[(SV.slc i 0 n).conc β,(SV.slc j e m).conc β]).run P w= .ok ((SV.slc A.nx 0 (n+m)).conc β') w'/\BC W0 (upd (upd A.bl i {B with kd:= .gone}) A.nx {n:=n+m,sz:=C.sz,get:=ald B.get C.get n e,kd:= .own}) β' w'/\NX (upd (upd A.bl i {B with kd:= .gone}) A.nx {n:=n+m,sz:=C.sz,get:=ald B.get C.get n e,kd:= .own}) (A.nx+1)/\Live (upd (upd A.bl i {B with kd:= .gone}) A.nx {n:=n+m,sz:=C.sz,get:=ald B.get C.get n e,kd:= .own}) (.slc A.nx 0 (n+m))/\Tr A.bl A.nx [i] β (upd (upd A.bl i {B with kd:= .gone}) A.nx {n:=n+m,sz:=C.sz,get:=ald B.get C.get n e,kd:= .own}) β':=by
          intro v' w' r2 r3 r1
          obtain⟨β',e1,e2,e3⟩:=fresh _ b1 P0 {n:=n+m,sz:=C.sz,get:=ald B.get C.get n e,kd:= .own} w' v' rfl rfl (by simp;omega) rfl I0 (λk o s Y J=>(hjlive k o s Y J).upd) (by
           have:jh β (ald B.get C.get n e) 0 (n+m)=jh β B.get 0 n++jh β C.get e m:=by
            unfold jh;rw[List.range_add,zd4]
            congr 1
            ·apply ym;intro k Y;have l0:k<n:=by simpa using Y
             rw[za7,sA l0]
            ·rw[List.flatMap_map];apply ym;intro k Y;rw[za7,n7 (by omega)]
             congr 2;omega
           rw[this];exact r2) r3
          refine⟨β',w',by rw[r1,e1],e2,x0 _ _ C0,N0 _ _ _,Y0 β' λl hl=>e3 l (BY hl)⟩
         cases n0:(β i).nil with
         |true=>
          have q0:=qB.nil n0;have:=qB.le;obtain rfl:n=0:=by omega
          have ex:(SV.slc i 0 0).conc β= .slice none 0 0:=by simp[SV.conc,n0,q0]
          obtain⟨v',w',r1,r2,r3,_⟩:=run_append_own (P:=P) w w.heap.size t ty el H z H.size H.bytes hu o0 hz rfl rfl M0 K0 (.slice none 0 0) 0 [] (World.ownsRow_nil w _ el H.size) (addr β j e 0) m ((β j).cap - e) _ n1 n2 n3 (w0 _ h2) h2 (za0 _);refine grown v' w' ?_ r3 ?_
          ·have:jh β B.get 0 0= []:=rfl;rw[this];exact r2
          ·rw[ex,n4];exact r1
         |false=>
          have ex:=jq (β:=β) (id:=i) (e:=0) (len:=n) n0 (.inr rfl);by_cases e0:n+m<=(β i).cap
          ·have hcells: ∀l,l<m*H.size->n*H.size+l<(β i).cap*B.sz:=λl hl=>by
            have h4:(n+m)*B.sz<=(β i).cap*B.sz:=zbl _ e0;rw[zaG] at h4;rw[<-g0,<-i0] at hl ⊢;omega
           have u1:(β i).sz=H.size:=by rw[qB.sz,i0,g0]
           have r1:=run_append_room_cells (P:=P) w t ty el H hu o0 (β i).blk (β i).off n (β i).cap (addr β j e 0) m ((β j).cap - e) _ n1 n2 n3 e0
            (λl hl=>by
              have:=qB.ex (n*H.size+l) (hcells l (by omega))
              rwa[<-zbq] at this)
            (λl hl=>by
              have:=qB.fr Y (n*H.size+l) (hcells l (by omega))
              rwa[<-zbq] at this)
           have wr:=j0.writeG hB Y (k:=n*H.size) (vs:=jh β C.get e m) (B':={n:=n+m,sz:=B.sz,get:=ald B.get C.get n e,kd:= .own})
            (by rw[n1];have h4:(n+m)*B.sz<=(β i).cap*B.sz:=zbl _ e0
                rw[zaG] at h4
                rw[<-g0,<-i0];omega) rfl rfl e0 (λ_=>n0) (λk Y=>by rw[I0 k Y,i0]) hjlive
            (by
              intro k o s Y J;have ho:o<C.sz:=by
               rcases zah o C.sz with h'|h'
               ·exact h'
               ·rw[zad (by rw[I0 k Y];exact h')] at J;cases J
              rw[n1,<-g0,i0];replace J:(ald B.get C.get n e k)[o]? =some s:=J;by_cases l0:k<n
              ·rw[sA l0] at J;exact .inr ⟨.inl (jS l0 ho),by omega,J⟩
              ·rw[n7 l0] at J;have Q0:k - n<m:=by simp at Y;omega
               have h5:=jS (n:=m) (sz:=C.sz) Q0 ho;have h6:k*C.sz=n*C.sz+(k - n)*C.sz:=by rw[<-zaG];congr 1;omega
               refine .inl ⟨by omega,by omega, ?_⟩;rw[show k*C.sz+o - n*C.sz=(k - n)*C.sz+o by omega];rw[sw (λi hi=>qC.len (e+i) (by omega)) Q0 ho,J]
               rfl)
           have rb:=wr.reborn (i:=i) (id:=A.nx) (az _ _ _) rfl (by rw[ak T0];exact hid) (X:={B with kd:= .gone}) rfl;rw[J6] at rb;refine⟨gp β A.nx (β i),_, ?_,by rw[<-i0];exact rb,x0 _ _ C0,N0 _ _ _,Y0 _ λl hl=>aC λh=>hl (h▸hid)⟩;rw[ex,n4];rw[show addr β i 0 0=⟨(β i).blk,(β i).off,none⟩ by simp[addr]];rw[zaX];rw[r1]
           congr 1
           rw[jq (by rw[aA];exact n0) (.inr rfl)];simp[addr,aA]
          ·have l1: ∀k,k<n->(B.get (0+k)).length=H.size:=λk Y=>by rw[za7,qB.len k (by omega),i0,g0]
           obtain⟨v',w',r1,r2,r3⟩:=run_append_arg_grows (P:=P) w t ty el H z H.size H.bytes hu o0 hz rfl rfl M0 K0 (addr β i 0 0) n (β i).cap (jh β B.get 0 n) (sj l1) (λl u hu=>vf qB (by omega) l u hu) (addr β j e 0) m ((β j).cap - e) _ n1 n2 (by omega) (w0 _ h2) h2;refine grown v' w' r2 r3 ?_;rw[ex,n4,zaX];exact r1
       ·cases h
      ·cases h
     ·cases h
   split at h
   ·cases h
   ·rename_i Y;exact key (λe=>Y e) h
  ·cases h
 ·cases h
variable {t:TypeId}
theorem DQ {x y:SV} (h:ac6 A o=some (t,x,y)):o.guard=none/\ ∃c:Call,o.op= .call c/\c.callee= .builtin .append/\c.argTypes= #[t,t]/\evs A.tm [] c.args.toList=some [x,y]:=by
 unfold ac6 at h;split at h
 ·rename_i c hg Y;split at h
  ·rename_i H;split at h
   ·rename_i t1 t2 x1 y1 ht N;cases J:Nat.beq t1 t2 with
    |false=>rw[J] at h;cases h
    |true=>
     rw[J] at h;simp only[zdr,za1,zag] at h;obtain⟨rfl,rfl,rfl⟩:=h;have:=zab J;subst this;exact⟨hg,c,Y,H,by apply zaW;simpa using ht,N⟩
   ·cases h
  ·cases h
 ·cases h
variable {inl:Inl} {KP:Value->zdS} {Q:zdN} {KK:Act->World->Prop}
theorem mP (e0:InlOK P W0 inl) {G:List (Nat×Bool)} {T:Aft->Prop} (Y:kQ P Γ inl A o G=some T) {Kn:List Nat->zdS} 
 (h:T (uR A o.dst KP Kn)) (hs:Is W0 A β a w) (hG:DX a G) 
 (hP: ∀v A' w' β',KP v A'->Is W0 A' β' a w'->Trs A β A' β'->Q (pex v) a w')
 (hK: ∀wl A' a' w' β',Kn wl A'->Is W0 A' β' a' w'->Trs A β A' β'->KK a' w'):
 Region.wanted o (yielded ops a.tmps)=true/\o.wpX P a w KK Q:=by
 have g0: ∀{β':zdI} {r:SV} {bl:zdL} {nx:Nat} {wl:zdH} {w':World},uR A o.dst KP Kn (.ok r) bl nx wl->BC W0 bl β' w'->NX bl nx->Live bl r->Tr A.bl A.nx wl β bl β'->A.nx<=nx->KK (a.put o.dst (r.conc β')) w':=by
  intro β' r bl nx wl w' hk k1 k2 k3 k4 k6;simp only[uR] at hk;split at hk
  ·rename_i A1 hp;have n0:=(hs.fr.carry k4).frame nx (wl++A.wl);obtain⟨q1,q2,q3,q4,q5⟩:=FR.putD n0 k3 hp;refine hK _ A1 _ w' β' hk ⟨q1,by rw[q2];exact k1,by rw[q2,q3];exact k2,(nB hp).trans hs.sd⟩ ⟨?_, ?_, ?_,q4⟩
   ·rw[q2,q5];exact k4.mono λi hi=>by simp[hi]
   ·rw[q5];exact λi hi=>by simp[hi]
   ·rw[q3];exact k6
  ·exact hk.elim
 unfold kQ at Y;split at Y
 ·rename_i x J;simp only[za1] at Y;subst Y;obtain⟨hg,hr⟩:=DO hs.fr hs.bc hs.nx J h;refine⟨by simp[Region.wanted,hg], ?_⟩;unfold Oper.wpX;rcases hr with ⟨v,H,hk⟩|⟨β',w',r,bl',l0,wl,H,hk,k1,k2,k3,k4,k5⟩
  ·rw[H];exact hP _ _ w β hk hs (Trs.refl _ _)
  ·have f:=g0 hk k1 k2 k3 k4 k5;rcases H with H|⟨H,rfl⟩
   ·rw[H];exact f
   ·rw[H];exact f
 split at Y
 ·rename_i t x y J;simp only[za1] at Y;subst Y;split at h
  ·rename_i b bl r k i0;obtain⟨Y,h⟩:=Xg.1 h;obtain⟨hg,c,hop,a0,u0,q0⟩:=DQ J;have e1:=(gQ hs.fr (G:= []) (λp hp=>by cases hp) q0).1;obtain⟨β',w',r1,r2,r3,r4,r5⟩:=Al hs.bc hs.nx i0 Y o.type;refine⟨by simp[Region.wanted,hg], ?_⟩;have e2:c.args.map a.eval= #[x.conc β,y.conc β]:=by apply zaW;simpa [SV.concs] using e1
   have H:(execOp a.eval o).run P w= .ok (.value (r.conc β')) w':=by
    obtain⟨o1,o2,o3,o4,o5,o6⟩:=o;simp only[] at hop;subst hop;simp only[execOp,resolve,a0,zdE,zdF,zdD,invoke,builtin,e2,u0,r1]
   unfold Oper.wpX;rw[H];exact g0 h r2 r3 r4 (r5.mono λi hi=>by simp[hi]) (zaT _)
  ·exact h.elim
 ·have out: ∀{e:Ending} {w':World} {K:Aft},Behind W0 β A.bl A.nx [] K e w'->(K=uR A o.dst KP Kn)->(∃v,e= .returned v/\KK (a.put o.dst v) w')\/ ∃v,e= .panicked [{v:=v,recovered:=false}]/\Q (pex v) a w':=by
   rintro e w' K ⟨β',r,bl',l0,v0,he,hk,k1,k2,k3,k4,k5,k6⟩ rfl;cases r with
   |ok r=>
    obtain rfl:e=_:=he;exact .inl ⟨_,rfl,g0 hk k1 k2 k3 k4 k6⟩
   |pan v=>
    obtain rfl:e=_:=he;exact .inr ⟨v,rfl,hP v _ w' β' hk ⟨(hs.fr.carry k4).frame l0 (v0++A.wl),k1,k2,hs.sd⟩ ⟨k4.mono λi hi=>by simp[hi],λi hi=>by simp[hi],k6,rfl⟩⟩
  split at Y
  ·rename_i f args J;simp only[za1] at Y;subst Y;unfold po at J;split at J
   ·rename_i c hg ho;split at J
    ·rename_i fo a0;split at J
     ·rename_i f' N j0;split at J
      ·simp only[za1,zag] at J;obtain⟨rfl,rfl⟩:=J;refine⟨by simp[Region.wanted,hg], ?_⟩;obtain⟨o1,o2,o3,o4,o5,o6⟩:=o;simp only[] at hg ho;subst hg;subst ho;obtain⟨_,hl⟩:=nU hs.fr hG j0;obtain⟨o0,hcalls⟩:=e0.call f' N A.bl A.nx [] _ β w h hs.bc hs.nx hl;obtain⟨r1,_⟩:=nR hs.fr hG j0 o0 o3 w;have r2:(execOp a.eval ⟨o1, .call c,o3,o4,o5,none⟩).run P w= .ok (.enter f' (SV.concs β N).toArray) w:=r1;unfold Oper.wpX;rw[r2];refine Calls.mono hcalls λe w' Y=> ?_;rcases out Y rfl with ⟨v,rfl,k⟩|⟨v,rfl,k⟩
       ·exact k
       ·exact k
      ·cases J
     ·cases J
    ·cases J
   ·cases J
  ·split at Y
   ·rename_i i args J;simp only[za1] at Y;subst Y;unfold B4 at J;split at J
    ·rename_i c hg ho;split at J
     ·rename_i fo a0;split at J
      ·rename_i i' N hf ha;simp only[za1,zag] at J;obtain⟨rfl,rfl⟩:=J;refine⟨by simp[Region.wanted,hg], ?_⟩;obtain⟨e1,l1⟩:=bu hs.fr hG hf;obtain⟨e2,l2⟩:=gQ hs.fr hG ha;obtain⟨fn,tmps,assign,body,hy,hr⟩:=e0.yl i' N A.bl A.nx [] _ β w h hs.bc hs.nx l2;have H:(execOp a.eval o).run P w= .ok (.round (β i').blk fn tmps assign body) w:=by
        obtain⟨o1,o2,o3,o4,o5,o6⟩:=o;simp only[] at ho;subst ho;have e3:c.args.map a.eval=(SV.concs β N).toArray:=by apply zaW;simpa using e2
        simp[execOp,resolve,a0,e1,e3,SV.conc,Deferred.ofValue,SV.concs_eq,invoke,callFunc] at hy ⊢;exact hy
       unfold Oper.wpX;rw[H];refine RoundIn.mono hr λe w' Y=> ?_;rcases out Y rfl with ⟨v,rfl,k⟩|⟨v,rfl,k⟩
       ·exact k
       ·exact k
      ·cases J
     ·cases J
    ·cases J
   ·cases Y
variable {b:Bool}
theorem VH {p q:Prop}:ag b p q↔(b=true->p)/\(b=false->q):=by cases b<;>simp[ag]
variable {K:zdS}
theorem aeu (hΓ:GamOK P W0 Γ) (j0:InlOK P W0 inl) 
 (hP: ∀v A' w' β',KP v A'->Is W0 A' β' a w'->Trs A β A' β'->Q (pex v) a w') (hK: ∀A' a' w' β',K A'->Is W0 A' β' a' w'->Trs A β A' β'->KK a' w') (h:agn P Γ inl ops KP o A K) (H:Is W0 A β a w):
 if Region.wanted o (yielded ops a.tmps) then o.wpX P a w KK Q else KK (a.put o.dst undef) w:=by
 unfold agn at h;split at h
 ·rename_i d N;split at h
  ·rename_i A1 hp;unfold Gg at N;split at N
   ·rename_i c hg ho;split at N
    ·rename_i f g0;split at N
     ·rename_i g first caps as hf ha
      obtain⟨i0,N⟩:Nat.ble yB g=false/\some (g,first++as,caps)=some d:=by
       cases a0:Nat.ble yB g||A.df.any vA with
       |true=>rw[a0] at N;cases N
       |false=>rw[a0] at N;exact⟨(zbr.1 a0).1,N⟩
      simp only[za1] at N;subst N;obtain⟨e1,l1⟩:=bu H.fr (G:= []) (λp hp=>by cases hp) hf;obtain⟨e2,l2⟩:=gQ H.fr (G:= []) (λp hp=>by cases hp) ha;rw[if_pos (by simp[Region.wanted,hg])];have l0:FR β {A with df:=(g,first++as,caps)::A.df} {a with defers:={target:= .fn (.func g) (SV.concs β caps).toArray,args:=(SV.concs β (first++as)).toArray}::a.defers}:=by
       refine⟨⟨by rw[H.fr.defers.1,zaK,NF,show vA (g,first++as,caps)=false from i0];rfl,λp hp=> ?_⟩,H.fr.size,H.fr.v,H.fr.opt,H.fr.os⟩;rcases zai.1 hp with rfl|hp
       ·refine⟨λs J=> ?_,λhm=>by rw[show vA (g,first++as,caps)=false from i0] at hm;cases hm⟩;simp only[za8] at J;rcases J with (J|J)|J
        ·exact λi hi=>l1 i (by simp only[SV.ids,za8];exact .inl (SV.mem_idss.2 ⟨s,J,hi⟩))
        ·exact l2 s J
        ·exact λi hi=>l1 i (by simp only[SV.ids,za8];exact .inr (SV.mem_idss.2 ⟨s,J,hi⟩))
       ·exact H.fr.defers.2 p hp
      obtain⟨q1,q2,q3,q4,q5⟩:=FR.putD l0 (s:= .val undef) (λi hi=>by simp[SV.ids] at hi) hp;have Y:(execOp a.eval o).run P w= .ok (.defer {target:= .fn (.func g) (SV.concs β caps).toArray,args:=(SV.concs β (first++as)).toArray}) w:=by
       obtain⟨o1,o2,o3,o4,o5,o6⟩:=o;simp only[] at ho;subst ho;have e3:c.args.map a.eval=(SV.concs β as).toArray:=by apply zaW;simpa using e2
       simp[execOp,resolve,g0,e1,e3,SV.conc,Deferred.ofValue,SV.concs_eq]
      unfold Oper.wpX;rw[Y];exact hK A1 _ w β h ⟨q1,by rw[q2];exact H.bc,by rw[q2,q3];exact H.nx,(nB hp).trans H.sd⟩ ⟨by rw[q2,q5];exact Tr.refl _ _ _ _,by rw[q5];exact λ_ h=>h,by rw[q3];exact za0 _,q4⟩
     ·cases N
    ·cases N
   ·cases N
  ·exact h.elim
 split at h
 ·rename_i T hb;obtain⟨hg,v,hk,Y,hl⟩:=Ak H.fr H.bc hb h;rw[if_pos (by simp[Region.wanted,hg])];split at hk
  ·rename_i A1 hp;obtain⟨q1,q2,q3,q4,q5⟩:=FR.putD H.fr hl hp;unfold Oper.wpX;rw[Y];exact hK A1 _ w β hk ⟨q1,by rw[q2];exact H.bc,by rw[q2,q3];exact H.nx,(nB hp).trans H.sd⟩ ⟨by rw[q2,q5];exact Tr.refl _ _ _ _,by rw[q5];exact λ_ h=>h,by rw[q3];exact za0 _,q4⟩
  ·exact hk.elim
 split at h
 ·rename_i T hb;obtain⟨r1,r2⟩:=mP j0 (ops:=ops) hb h H (λp hp=>by cases hp) (Q:=Q) (KK:=KK) hP (λwl A' a' w' β' hk n0 o0=>hK A' a' w' β' hk n0 o0);rw[if_pos r1];exact r2
 ·split at h
  ·rename_i b A1 f e0;obtain⟨hb,h⟩:=Xg.1 h;subst hb
   exact mO hΓ H.fr H.bc (za0 _) e0 (Q:=Q) (K:=KK) (λa' w' β' r1 r2 r3 r4 r5 r6=>by
    obtain⟨E,hE⟩:=Kg e0;refine hK _ a' w' β' h ⟨r1.frame _ _,r2, ?_,(ae3 e0).trans H.sd⟩ ⟨?_, ?_, ?_,r6⟩
    ·show NX A1.bl (A1.nx+1);rw[hE,r4];exact H.nx.apply E (by omega) (za0 _)
    ·exact r3.mono λi hi=>by simp[hi]
    ·intro i hi;simp[r5,hi]
    ·show A.nx<=A1.nx+1
     omega)
  ·exact h.elim
theorem vg {t:Nat} {c:Bool} (h:FR β A a) (ht:A.tm t= .v (.val (.bool c))):FR β (mH A t c) a:=by
 have hv:a.tmps.getD t undef= .bool c:=(h.v t _ ht).1;refine⟨h.defers,h.size,λx s H=> ?_,λx u b s H=> ?_,λx u b s H=> ?_⟩
 ·simp only[mH] at H;rw[bS] at H;by_cases N:x=t
  ·subst N;simp only[decide_true,zdr,TV.v.injEq] at H;subst H;exact⟨hv,λi hi=>by simp[SV.ids] at hi⟩
  ·simp only[N,decide_false,zdq] at H;split at H
   ·rename_i u b s' Y;rw[bS] at H;by_cases J:u=t
    ·subst J;simp only[decide_true,zdr,TV.v.injEq] at H;subst H;obtain⟨h1,h2⟩:=h.opt x u b s' Y;cases b<;>cases c
     ·exact h1 hv
     ·exact⟨h2 (by rw[hv];simp),λi hi=>by simp[SV.ids] at hi⟩
     ·exact⟨h2 (by rw[hv];simp),λi hi=>by simp[SV.ids] at hi⟩
     ·exact h1 hv
    ·simp[J] at H
   ·exact h.v x s (by rw[<-H])
 ·have:A.tm x= .opt u b s:=by
   simp only[mH] at H;rw[bS] at H;by_cases N:x=t
   ·simp[N] at H
   ·simp only[N,decide_false,zdq] at H;split at H
    ·rename_i u' b' s' Y;rw[bS] at H;by_cases J:u'=t
     ·simp[J] at H
     ·simp only[J,decide_false,zdq] at H;rw[Y];exact H
    ·exact H
  exact h.opt x u b s this
 ·have:A.tm x= .opt u b s:=by
   simp only[mH] at H;rw[bS] at H;by_cases N:x=t
   ·simp[N] at H
   ·simp only[N,decide_false,zdq] at H;split at H
    ·rename_i u' b' s' Y;rw[bS] at H;by_cases J:u'=t
     ·simp[J] at H
     ·simp only[J,decide_false,zdq] at H;rw[Y];exact H
    ·exact H
  exact h.os x u b s this
theorem mQ {β:zdI} {a:Act} {w:World}: ∀(k:Nat) (A:AS) (t:Nat) (K:zdS),aaQ k A t K->Is W0 A β a w-> ∃A',K A'/\Is W0 A' β a w/\Trs A β A' β
 |0,A,t,K,h,H=>h.elim
 |k+1,A,t,K,h,H=>by
  simp only[aaQ] at h;split at h
  ·rename_i c J;cases N:A.lit.any (Nat.beq t) with
   |true=>rw[N] at h;exact⟨A,h,H,Trs.refl _ _⟩
   |false=>
    rw[N] at h;obtain⟨h1,h2⟩:=VH.1 h;cases c with
    |true=>exact⟨_,h1 rfl,⟨vg H.fr J,H.bc,H.nx,H.sd⟩,⟨Tr.refl _ _ _ _,λ_ h=>h,za0 _,rfl⟩⟩
    |false=>exact⟨_,h2 rfl,⟨vg H.fr J,H.bc,H.nx,H.sd⟩,⟨Tr.refl _ _ _ _,λ_ h=>h,za0 _,rfl⟩⟩
  ·exact⟨A,h,H,Trs.refl _ _⟩
  ·obtain⟨Y,h1,s1,t1⟩:=mQ k A _ _ h H;obtain⟨A2,h2,s2,t2⟩:=mQ k Y t K h1 s1;exact⟨A2,h2,s2,t1.trans t2⟩
  ·exact h.elim
theorem DS {s:SV} (h:s.conc β= .bool b):s= .val (.bool b):=by
 cases s with
 |val v=>simp[SV.conc] at h;rw[h]
 |_=>simp[SV.conc] at h
theorem FR.side (h:FR β A a) (s:Option BD×Option (Nat×ByteArray)):FR β {A with sd:=s} a:=⟨h.defers,h.size,h.v,h.opt,h.os⟩
theorem adg (H:o.op= .alloc t) {cs:zdJ} (Y:xX P t=some cs):
 (execOp a.eval o).run P w= .ok (.value (.pointer (some ⟨w.heap.size,0,none⟩))) (w.alloc (.cells (SV.concs oj cs).toArray t))/\ ∀s∈cs,s.ids= []:=by
 obtain⟨v,N,J,hi⟩:=aIC (P:=P) (β:=oj) w Y;refine⟨?_,hi⟩;obtain⟨dst,op,ty,pos,after,gd⟩:=o;simp only at H;subst H;have e:Sem.run P (do pure (Next.value (Value.pointer (some (<-newVar t v))))) w= .ok (.value (.pointer (some ⟨w.heap.size,0,none⟩))) (w.alloc (.cells (SV.concs oj cs).toArray t)):=by
  simp only[newVar,newRow,J,zdE,run_newObj,zdD,zdF,World.alloc_eq]
 rw[<-e];simp[execOp,Instr.alloc,N]
def R5 (B:Base) (w:World) (g:Nat) (s:Option BD×Option (Nat×ByteArray)):Base where
 w:=w
 S:=λk=>(Nat.ble B.w.heap.size k||B.S k)&&Nat.blt k w.heap.size&& !B.F k&& !Nat.beq k g
 F:=λk=>(B.F k||Nat.beq k g)&&Nat.blt k w.heap.size
 hF:=λb H=>by
  simp only[zav,za2,aB,bS,zdt] at H;refine⟨H.2, ?_⟩;rcases H.1 with h|h
  ·simp[h]
  ·simp[h,bS]
 sd:=s
theorem Base.mine_F (h:B.mine k):B.F k=false:=by
 cases hF:B.F k with
 |false=>rfl
 |true=>
  obtain⟨f1,f2⟩:=B.hF k hF;rcases h with h|h
  ·omega
  ·rw[f2] at h;cases h
variable {g:Nat} {s:Option BD×Option (Nat×ByteArray)}
theorem XA (h:B.mine k) (H:k<w.heap.size) (hg:k≠g):(R5 B w g s).mine k:=by
 refine .inr ?_;have hF:=Base.mine_F h;show ((Nat.ble B.w.heap.size k||B.S k)&&Nat.blt k w.heap.size&& !B.F k&& !Nat.beq k g)=true;simp only[za2,zav,Nat.ble_eq,aB,zdt,hF,bS,zds hg];exact⟨⟨⟨h,H⟩,rfl⟩,rfl⟩
theorem acR (h:(R5 B w g s).S k=true):B.mine k:=by
 have h:((Nat.ble B.w.heap.size k||B.S k)&&Nat.blt k w.heap.size&& !B.F k&& !Nat.beq k g)=true:=h;simp only[za2,zav,Nat.ble_eq] at h;exact h.1.1.1
theorem adh (h:(R5 B w g s).out k):B.out k:=by
 obtain⟨h1,h2⟩:=h;have H:k<w.heap.size:=by
  rcases zah k w.heap.size with h|h
  ·exact h
  ·exact absurd (.inl h) h1
 have h2:((B.F k||Nat.beq k g)&&Nat.blt k w.heap.size)=false:=h2;rw[aB,zdp H,zaQ,zbr] at h2;refine⟨λJ=>h1 (XA J H λe=> ?_),h2.1⟩;rw[e,bS] at h2;simp at h2
theorem acS (h:B.out k) (J:k<w.heap.size) (hg:k≠g):(R5 B w g s).out k:=by
 refine⟨λH=> ?_, ?_⟩
 ·rcases H with H|H
  ·have:w.heap.size<=k:=H;omega
  ·exact h.1 (acR H)
 ·show ((B.F k||Nat.beq k g)&&Nat.blt k w.heap.size)=false;rw[h.2,bS,zds hg];rfl
theorem Is.side (Y:SubB B W0) (j0: ∀b,B.out b->W0.out b) (hs:Is B A β a w) {b g':Nat} (hb:B.F b=true) (hg:B.F g=true) (o0:W0.mine b) (q0:W0.mine g) (l0:g'=g\/w.heap.size<=g')
 (u0: ∀es c,w.heap[b]? ≠some (.map es c)/\w.heap[g]? ≠some (.map es c)) (H:Kept2 b g w w') (s:Option BD×Option (Nat×ByteArray)):
 SubB (R5 B w' g' s) W0/\(∀k,(R5 B w' g' s).out k->W0.out k)/\BC (R5 B w' g' s) A.bl β w':=by
 have g0: ∀i X,A.bl i=some X->X.kd≠ .gone->(β i).nil=false->(β i).blk<w.heap.size:=λi X J hg N=>(hs.bc.blk i X J hg).lt N;have nF: ∀i X,A.bl i=some X->X.kd≠ .gone->(β i).nil=false->B.F (β i).blk=false:=λi X J hg N=>by
  by_cases ho:X.kd.fix=true
  ·exact(hs.bc.old i X J ho N).1.2
  by_cases hw:X.kd= .own
  ·exact Base.mine_F (hs.bc.own i X J hw N)
  ·have hm:X.kd.map=true:=by cases H:X.kd<;>first|rfl|exact absurd H hg|exact absurd (by rw[H];rfl) ho|exact absurd H hw
   exact Base.mine_F (hs.bc.maps.ok i X J hm).2.2.1
 have i0: ∀{k:Nat},B.F k=false->k<w.heap.size->k≠g':=λ{k} h1 h2 e=>by
  rcases l0 with h|h
  ·rw[e,h,hg] at h1;cases h1
  ·omega
 refine⟨⟨?_,λk n0=>Y.mine (acR n0)⟩,λk h=>j0 k (adh h), ?_⟩
 ·have p:=Y.pres hs.bc.below;refine⟨H.os.trans p.os,H.tape.trans p.tape,H.output.trans p.output,zac p.size H.size,λk h1 h2=> ?_⟩;have nm: ¬W0.mine k:=λh=>by
   rcases h with h|h
   ·omega
   ·rw[h2] at h;cases h
  show w'.heap[k]? =_;rw[H.block k (zam h1 p.size) (λe=>nm (e▸o0)) (λe=>nm (e▸q0))];exact p.block k h1 h2
 ·refine hs.bc.hop (Pres.self _) H.size H.block (λi X J a0 N=> ?_) u0 (λi X J e0 N hm=> ?_) (λi X J e0 N ho=> ?_)
  ·have:=nF i X J a0 N;exact⟨λe=>(by rw[e,hb] at this;cases this),λe=>(by rw[e,hg] at this;cases this)⟩
  ·have a0:X.kd≠ .gone:=by rcases e0 with h|h<;>intro e<;>rw[e] at h<;>cases h
   have hl:=g0 i X J a0 N;exact XA hm (zam hl H.size) (i0 (Base.mine_F hm) hl)
  ·have hl:=g0 i X J (BK.fix_ng e0) N;exact acS ho (zam hl H.size) (i0 ho.2 hl)
theorem aev {ops:zdO} {Q:zdN} {KK:Act->World->Prop} {o:Oper} {A A1:AS} {a:Act} {w:World} {β:zdI} {d:BD} {bb:Bool} (hx:IsX P W0 A β a w) (J:adW A o=some (d,bb,some A1)) (u0:bb=true) (hd:ahr P d)
 (hK: ∀a' w' β',IsX P W0 A1 β' a' w'->Trs A β A1 β'->KK a' w'):Region.wanted o (yielded ops a.tmps)=true/\o.wpX P a w KK Q:=by
 obtain⟨B,Y,i0,H,y0⟩:=hx;unfold adW at J;split at J
 ·cases J
 rename_i d0 N0;split at J
 ·
  rename_i t hg hop;cases ht:Nat.beq t d0.tb with
  |false=>rw[ht] at J;cases J
  |true=>
  rw[ht] at J;simp only[zdr,za1,zag] at J;obtain⟨rfl,h2,hp⟩:=J;rw[u0] at h2;have ht:=zab ht;subst ht;refine⟨by simp[Region.wanted,hg], ?_⟩;have hn:A.sd.2=none:=by
   split at h2
   ·assumption
   ·cases h2
  rw[hn] at h2;simp only[za2] at h2;have hid:=Wi.1 h2.1;obtain⟨dd,P0⟩:=Option.isSome_iff_exists.1 h2.2;obtain⟨at',N⟩:=hd;obtain⟨o0,O0⟩:=adg (P:=P) (a:=a) (w:=w) hop N.zero;have M0:(SV.concs oj [.val (.pointer none), .val (.slice none 0 0)]).toArray= #[.pointer none, .slice none 0 0]:=rfl;rw[M0] at o0;unfold Oper.wpX;rw[o0,Oper.uponX_value];have a0:(w.alloc (.cells #[.pointer none, .slice none 0 0] d0.tb)).heap.size=w.heap.size+1:=by simp[World.alloc_eq]
  have C0:Below w.heap.size w (w.alloc (.cells #[.pointer none, .slice none 0 0] d0.tb)):=(zdC _ _).alloc (za0 _) _;have I0:Tr A.bl A.nx [A.nx] β (upd A.bl A.nx zP) (gp β A.nx ⟨w.heap.size,0,2,1,false⟩):=
   ⟨λi X hX=>⟨X,by rw[ak (λe=>by rw[e,hid] at hX;cases hX)];exact hX,rfl,⟨rfl,rfl⟩, .inl rfl,λ_=>rfl⟩,λi hi=>aC λe=>hi (e▸hid),λi hi h0=>by rw[ak (by omega)];exact h0⟩
  have g0:=((H.fr.carry I0).frame (A.nx+1) (A.nx::A.wl)).side (some d0,some (A.nx,⟨#[]⟩))
  obtain⟨q1,q2,q3,q4,q5⟩:=FR.putD (s:= .ptr A.nx 0 0) g0 (λi hi=>by
   simp only[SV.ids,zaj] at hi;subst hi;show upd A.bl A.nx zP A.nx≠none
   rw[az];simp) hp
  have j0:=nB hp;have v0:(SV.ptr A.nx 0 0).conc (gp β A.nx ⟨w.heap.size,0,2,1,false⟩)= .pointer (some ⟨w.heap.size,0,none⟩):=by simp[SV.conc,addr,aA]
  rw[v0] at q1
  have k1:=(H.bc.alloc (id:=A.nx) hid (B:={n:=1,sz:=2,get:=λ_=> [.val (.pointer none), .val (.slice none 0 0)],kd:= .own}) rfl (λ_ _=>rfl) (λe o s _ hs i hi=>by
   have:=zal hs;simp at this;rcases this with rfl|rfl<;>simp[SV.ids] at hi) [.val (.pointer none), .val (.slice none 0 0)] rfl (λe o s he hs=>by
   have:e=0:=by simp at he;exact he
   subst this
   simpa using hs) d0.tb)
  rw[show (SV.concs β [SV.val (.pointer none),SV.val (.slice none 0 0)]).toArray= #[.pointer none, .slice none 0 0] from rfl] at k1;have k2:=k1.kill A.nx (X:=zP) rfl;rw[J6] at k2;have K0: ∀j X,upd A.bl A.nx zP j=some X->X.kd≠ .gone->(gp β A.nx ⟨w.heap.size,0,2,1,false⟩ j).nil=false->(gp β A.nx ⟨w.heap.size,0,2,1,false⟩ j).blk<w.heap.size:=λj X hX hk hn=>by
   have hj:j≠A.nx:=λe=>by subst e;rw[az] at hX;obtain rfl:zP=X:=by simpa using hX
                          exact hk rfl
   rw[ak hj] at hX;rw[aC hj] at hn ⊢;exact(H.bc.blk j X hX hk).lt hn
  have B0:=N.fresh w;refine hK _ _ (gp β A.nx ⟨w.heap.size,0,2,1,false⟩) ⟨R5 B (w.alloc (.cells #[.pointer none, .slice none 0 0] d0.tb)) w.heap.size A1.sd,⟨(Y.pres H.bc.below).step C0,λk hk=>Y.mine (acR hk)⟩,λk hk=>i0 k (adh hk),⟨q1, ?_, ?_,rfl⟩, ?_⟩ ⟨?_, ?_, ?_,q4⟩
  ·rw[q2];refine k2.rebase (Pres.self _) (λj X hX hk hn hm=> ?_) (λj X hX hk hn ho=> ?_)
   ·have hl:=K0 j X hX (by rcases hk with h|h<;>intro e<;>rw[e] at h<;>cases h) hn;exact XA hm (show _<(w.alloc _).heap.size by rw[a0];exact Nat.lt_succ_of_lt hl) (Nat.ne_of_lt hl)
   ·have hl:=K0 j X hX (BK.fix_ng hk) hn;exact acS ho (show _<(w.alloc _).heap.size by rw[a0];exact Nat.lt_succ_of_lt hl) (Nat.ne_of_lt hl)
  ·rw[q2,q3];show NX (upd A.bl A.nx zP) (A.nx+1);exact λi hi=>by rw[ak (by omega)];exact H.nx i (by omega)
  ·intro x t hx;rw[j0] at hx ⊢;simp only[za1,zag] at hx;obtain⟨rfl,rfl⟩:=hx;refine⟨by rw[q2];show upd A.bl A.nx zP A.nx≠none;rw[az];simp,d0,at',w.heap.size,w.heap.size,rfl,N,by rw[aA],by rw[aA],B0, ?_, ?_, .inl (Y.pres H.bc.below).size, .inl (Y.pres H.bc.below).size⟩<;>
   ·show ((B.F w.heap.size||Nat.beq w.heap.size w.heap.size)&&Nat.blt w.heap.size (w.alloc _).heap.size)=true;rw[bS,aB,a0];simp
  ·rw[q2,q5];exact I0.mono λi hi=>by
    simp only[zaj] at hi;subst hi;simp
  ·rw[q5];exact λi hi=>by simp[hi]
  ·rw[q3];exact zaT _
 ·
  rename_i c hg hop;split at J
  ·rename_i f args x t z0 H0;obtain⟨L0,d1,at',b,g,e1,N,e3,e4,e5,e6,e7,e8,e9⟩:=y0 x t H0;rw[N0] at e1;obtain rfl:d0=d1:=by simpa using e1
   obtain⟨_,hl⟩:=nU H.fr (G:= []) (λp hp=>by cases hp) z0;have same: ∀k,B.F k=true->w.heap[k]? =B.w.heap[k]? :=λk hk=>H.bc.below.block k (B.hF k hk).1 (B.hF k hk).2;have q0:=N.keep b g t B.w w e5 (same b e6) (same g e7);have E0:=N.lt b g t w q0;have n0:(SV.ptr x 0 0).conc β= .pointer (some ⟨b,0,none⟩):=by simp[SV.conc,addr,e3,e4]
   refine⟨by simp[Region.wanted,hg], ?_⟩;obtain⟨o1,o2,o3,o4,o5,o6⟩:=o;simp only[] at hg hop;subst hg;subst hop;cases hw:Nat.beq f d0.write with
   |true=>
    rw[hw] at J;simp only[zdr] at J;split at J
    ·rename_i i s;simp only[za1,zag] at J;obtain⟨rfl,h2,hp⟩:=J;rw[u0] at h2;simp only[za2,bS,zdt] at h2;obtain⟨rfl,a0⟩:=h2;have w0:=zab hw;subst w0;obtain⟨r1,_⟩:=nR H.fr (G:= []) (λp hp=>by cases hp) z0 N.cw o3 w;have r2:(execOp a.eval ⟨o1, .call c,o3,o4,o5,none⟩).run P w= .ok (.enter d0.write (SV.concs β [.ptr i 0 0, .val (.string s)]).toArray) w:=r1;rw[show (SV.concs β [.ptr i 0 0, .val (.string s)]).toArray= #[.pointer (some ⟨b,0,none⟩), .string s] by simp only[SV.concs,n0];rfl] at r2;unfold Oper.wpX;rw[r2];refine Calls.mono (N.write b g t s w q0 a0) ?_;rintro e w' ⟨rfl,g',h1,h3,hk⟩;have g0:=H.fr.side (some d0,some (i,t++s));obtain⟨q1,q2,q3,q4,q5⟩:=FR.putD (s:= .tup [.val (.int .i64 s.size), .val .nilIface]) g0 (λj hj=>by simp[SV.ids,SV.idss] at hj) hp;have j0:=nB hp;obtain⟨z1,z2,z3⟩:=H.side Y i0 e6 e7 e8 e9 h3 E0.2.2 hk A1.sd;have l0:=N.lt b g' _ w' h1;have ht:Trs A β A1 β:=⟨by rw[q2,q5];exact Tr.refl _ _ _ _,by rw[q5];exact λ_ h=>h,by rw[q3];exact za0 _,q4⟩;refine hK _ _ β ⟨R5 B w' g' A1.sd,z1,z2,⟨q1,by rw[q2];exact z3,by rw[q2,q3];exact H.nx,rfl⟩,λx' t' e0=> ?_⟩ ht;rw[j0] at e0 ⊢;simp only[za1,zag] at e0;obtain⟨rfl,rfl⟩:=e0;refine⟨by rw[q2];exact L0,d0,at',b,g',rfl,N,e3,e4,h1, ?_, ?_,e8, ?_⟩
     ·show ((B.F b||Nat.beq b g')&&Nat.blt b w'.heap.size)=true;rw[e6,aB,zdp l0.1];rfl
     ·show ((B.F g'||Nat.beq g' g')&&Nat.blt g' w'.heap.size)=true;rw[bS,aB,zdp l0.2.1];simp
     ·rcases h3 with rfl|h3
      ·exact e9
      ·exact .inl (zac (Y.pres H.bc.below).size h3)
    ·cases J
   |false=>
   rw[hw] at J;simp only[zdq] at J;cases x0:Nat.beq f d0.str with
   |false=>rw[x0] at J;cases J
   |true=>
    rw[x0] at J;simp only[zdr] at J;split at J
    ·rename_i i;simp only[za1,zag] at J;obtain⟨rfl,h2,hp⟩:=J;rw[u0] at h2;simp only[za2,bS,zdt] at h2;obtain⟨rfl,a0⟩:=h2;have w0:=zab x0;subst w0;obtain⟨r1,_⟩:=nR H.fr (G:= []) (λp hp=>by cases hp) z0 N.cs o3 w;have r2:(execOp a.eval ⟨o1, .call c,o3,o4,o5,none⟩).run P w= .ok (.enter d0.str (SV.concs β [.ptr i 0 0]).toArray) w:=r1;rw[show (SV.concs β [.ptr i 0 0]).toArray= #[.pointer (some ⟨b,0,none⟩)] by simp only[SV.concs,n0]] at r2;unfold Oper.wpX;rw[r2];refine Calls.mono (N.str b g t w q0 a0) ?_;rintro e w' ⟨rfl,hk⟩;have g0:=H.fr.side (some d0,none);obtain⟨q1,q2,q3,q4,q5⟩:=FR.putD (s:= .val (.string t)) g0 (λj hj=>by simp[SV.ids] at hj) hp;have j0:=nB hp;obtain⟨z1,z2,z3⟩:=H.side Y i0 e6 e7 e8 e9 (.inl rfl) E0.2.2 hk A1.sd;have ht:Trs A β A1 β:=⟨by rw[q2,q5];exact Tr.refl _ _ _ _,by rw[q5];exact λ_ h=>h,by rw[q3];exact za0 _,q4⟩;refine hK _ _ β ⟨R5 B w' g A1.sd,z1,z2,⟨q1,by rw[q2];exact z3,by rw[q2,q3];exact H.nx,rfl⟩,λx' t' e0=> ?_⟩ ht;rw[j0] at e0;cases e0
    ·cases J
  ·cases J
 ·cases J
theorem sB (hΓ:GamOK P W0 Γ) (a0: ∀B,SubB B W0->InlOK P B inl) 
 (hP: ∀v A' w' β',KP v A'->IsX P W0 A' β' a w'->Trs A β A' β'->Q (pex v) a w') (hK: ∀A' a' w' β',K A'->IsX P W0 A' β' a' w'->Trs A β A' β'->KK a' w') (h:aeq P Γ inl ops KP o A K) (hs:IsX P W0 A β a w):
 if Region.wanted o (yielded ops a.tmps) then o.wpX P a w KK Q else KK (a.put o.dst undef) w:=by
 unfold aeq at h;split at h
 ·rename_i d b r hf;obtain⟨hd,h⟩:=h;obtain⟨hb,h⟩:=Xg.1 h;split at h
  ·rename_i A1 _;obtain⟨k1,k2⟩:=aev (ops:=ops) (Q:=Q) hs hf hb hd (λa' w' β' h1 h2=>hK A1 a' w' β' h h1 h2);rw[if_pos k1];exact k2
  ·exact h.elim
 ·obtain⟨B,H,N,Y,J⟩:=hs;exact aeu (W0:=B) (hΓ.sub H) (a0 B H) (λv A' w' β' hk h1 h2=>hP v A' w' β' hk (IsX.wrap H N Y J h1 h2) h2) (λA' a' w' β' hk h1 h2=>hK A' a' w' β' hk (IsX.wrap H N Y J h1 h2) h2) h Y
theorem sC {Γ:zdP} (hΓ:GamOK P W0 Γ) {inl:Inl} (a0: ∀B,SubB B W0->InlOK P B inl) {ops:zdO} {Q:zdN} {KP:Value->zdS} {K:zdS} {A0:AS} {β0:zdI}
 (hQ: ∀A' N w' β',K A'->IsX P W0 A' β' N w'->Trs A0 β0 A' β'->Q .normal N w') (hP: ∀v A' N w' β',KP v A'->IsX P W0 A' β' N w'->Trs A0 β0 A' β'->Q (pex v) N w'):
 ∀(rest:List Oper) (A:AS) (a:Act) (w:World) (β:zdI),mI P Γ inl ops KP rest A K->IsX P W0 A β a w->Trs A0 β0 A β->aFp P ops Q rest a w
 | [],A,a,w,β,h,hs,ht=>hQ A a w β h hs ht
 |o::rest,A,a,w,β,h,hs,ht=>by
  simp only[mI] at h;have go: ∀A' N w' β',mI P Γ inl ops KP rest A' K->IsX P W0 A' β' N w'->Trs A0 β0 A' β'->aFp P ops Q rest N w':=λA' N w' β'=>sC hΓ a0 hQ hP rest A' N w' β';unfold aFp;split at h
  ·rename_i t b Y;obtain⟨B,g0,e0,i0,hside0⟩:=hs;obtain⟨A1,h,s1,t1⟩:=mQ (W0:=B) _ _ _ _ h i0;have x1:IsX P W0 A1 β a w:=IsX.wrap g0 e0 i0 hside0 s1 t1;have j0:=ht.trans t1;have guard: ∃j,o.guard=some (j,b)/\(ops.toList[j]?).bind (·.dst)=some t:=by
    unfold Gh at Y;split at Y
    ·rename_i j b' hg;split at Y
     ·rename_i t' hj;have:=bG Y;simp only[za1,zag] at this;obtain⟨rfl,rfl⟩:=this;exact⟨j,hg,hj⟩
     ·cases Y
    ·cases Y
   obtain⟨j,hg,hj⟩:=guard;have hw:=qn (a:=a) hg hj
   have skip:(match putD A1 o.dst (.v (.val undef)) with
    |some A'=>mI P Γ inl ops KP rest A' K
    |none=>False)->aFp P ops Q rest (a.put o.dst undef) w:=by
    intro h;split at h
    ·rename_i A2 hp;obtain⟨q1,q2,q3,q4,q5⟩:=FR.putD s1.fr (s:= .val undef) (λi hi=>by simp[SV.ids] at hi) hp;have t2:Trs A1 β A2 β:=⟨by rw[q2,q5];exact Tr.refl _ _ _ _,by rw[q5];exact λ_ h=>h,by rw[q3];exact za0 _,q4⟩;exact go A2 _ w β h (IsX.wrap g0 e0 i0 hside0 ⟨q1,by rw[q2];exact s1.bc,by rw[q2,q3];exact s1.nx,(nB hp).trans s1.sd⟩ (t1.trans t2)) (j0.trans t2)
    ·exact h.elim
   unfold wm at h;split at h
   ·rename_i c hc;have hv:a.tmps.getD t undef= .bool c:=(s1.fr.v t _ hc).1;obtain⟨h1,h2⟩:=VH.1 h;by_cases l0:c=b
    ·subst l0;have k:=sB hΓ a0 (o:={o with guard:=none}) (ops:=ops) (Q:=Q) (KK:=aFp P ops Q rest) (λv A' w' β' hk H J=>hP v A' a w' β' hk H (j0.trans J)) (λA' N w' β' hk H J=>go A' N w' β' hk H (j0.trans J)) (h1 (by cases c<;>rfl)) x1;rw[if_pos (by simp[Region.wanted])] at k;rw[if_pos (hw.2 hv)];exact .inl k
    ·rw[if_neg (λe=>l0 (by have:=hw.1 e;rw[hv] at this;simpa using this))];exact skip (h2 (by cases c<;>cases b<;>simp_all))
   ·rename_i s n0 hc;have hv:a.tmps.getD t undef=s.conc β:=(s1.fr.v t _ hc).1;rw[if_neg (λe=>by have:=hw.1 e;rw[hv] at this;exact n0 _ (by rw[DS this]))];exact skip h
   ·exact h.elim
  ·have k:=sB hΓ a0 (o:=o) (ops:=ops) (Q:=Q) (KK:=aFp P ops Q rest) (λv A' w' β' hk H J=>hP v A' a w' β' hk H (ht.trans J)) (λA' N w' β' hk H J=>go A' N w' β' hk H (ht.trans J)) h hs;by_cases hw:Region.wanted o (yielded ops a.tmps)=true
   ·rw[if_pos hw] at k ⊢;exact .inl k
   ·rw[if_neg hw] at k ⊢;exact k
theorem Post.mono {K K':Exit->zdS} (h: ∀e A,K e A->K' e A) (e:Exit) (a:Act) (w:World) (hp:Post P W0 A β K e a w):Post P W0 A β K' e a w:=by
 obtain⟨A',β',h1,h2,h3⟩:=hp;exact⟨A',β',h _ _ h1,h2,h3⟩
theorem Post.from {B:AS} {K:Exit->zdS} (t:Trs A β B γ) (e:Exit) (a:Act) (w:World) (hp:Post P W0 B γ K e a w):Post P W0 A β K e a w:=by
 obtain⟨A',β',h1,h2,h3⟩:=hp;exact⟨A',β',h1,h2,t.trans h3⟩
end
section
variable {P:Program} {W0:Base}
variable {hq:Bool} {Γ:zdP} {tm:Nat->TV} {bl:zdL} {G:List (Nat×Bool)} {id id':Nat} {op:Op} {E:Eff}
theorem GA (H:eff P Γ hq tm bl G id op=some E) (J:E.nw=none):
 eff P Γ hq tm bl G id' op=some E:=by
 cases op with
 |alloc t=>
  exfalso;simp only[eff] at H;split at H
  ·simp only[za1] at H;subst H;cases J
  ·cases H
 |box t x=>
  exfalso;simp only[eff] at H;split at H
  ·cases H
  ·simp only[za1] at H;subst H;cases J
  ·cases H
 |buildSlice t n parts=>
  exfalso;simp only[eff] at H;split at H
  ·split at H
   ·have H:=bG H;split at H
    ·simp only[za1] at H;subst H;cases J
    ·cases H
   ·cases H
  ·cases H
 |slice t x lo hi N=>cases N<;>exact H
 |convert s d x=>
  simp only[eff] at H ⊢;split at H
  ·exact H
  ·split at H
   ·exact H
   ·exfalso;split at H
    ·simp only[za1] at H;subst H;cases J
    ·cases H
   ·cases H
  ·exact H
  ·cases H
 |_=>exact H
variable {i:Nat}
theorem GB (H:eff P Γ hq tm bl G id op=some E) (hi:i∈E.rd):bl i≠none:=by
 have p1: ∀{o:Option SV},avY o=some E->False:=λh=>by obtain⟨s,_,rfl⟩:=cJ h;cases hi
 have J: ∀{o:Option (Bool×SV)},pY o=some E->False:=λh=>by obtain⟨b,s,_,rfl⟩:=ia h;cases hi
 cases op with
 |lookup t m k ok=>
  simp only[eff] at H;split at H
  ·obtain⟨j,B,_,hB,Y,_,_,_⟩:=lI H;rw[Y] at hi;simp only[zaj] at hi;subst hi;rw[hB];simp
  ·cases H
 |store t x y=>
  exfalso;simp only[eff] at H;split at H
  ·unfold o9 at H;split at H
   ·split at H
    ·split at H
     ·split at H
      ·have H:=bG H;simp only[za1] at H;subst H;cases hi
      ·cases H
     ·cases H
    ·cases H
   ·cases H
  ·cases H
 |box t x=>
  exfalso;simp only[eff] at H;split at H
  ·cases H
  ·simp only[za1] at H;subst H;cases hi
  ·cases H
 |buildSlice t n parts=>
  exfalso;simp only[eff] at H;split at H
  ·split at H
   ·have H:=bG H;split at H
    ·simp only[za1] at H;subst H;cases hi
    ·cases H
   ·cases H
  ·cases H
 |load t x=>
  simp only[eff] at H;split at H
  ·unfold rH at H;split at H
   ·split at H
    ·rename_i B hB
     have key:i=_:=(by
      split at H
      ·cases H
      ·split at H
       ·split at H
        ·simp only[za1] at H;subst H;simpa using hi
        ·cases H
       ·have H:=bG H;simp only[za1] at H;subst H;simpa using hi
       ·cases H)
     rw[key,hB];simp
    ·cases H
   ·cases H
  ·cases H
 |convert s d x=>
  simp only[eff] at H;split at H
  ·split at H
   ·simp only[za1] at H;subst H;cases hi
   ·cases H
  ·split at H
   ·simp only[za1] at H;subst H;cases hi
   ·split at H
    ·simp only[za1] at H;subst H;cases hi
    ·cases H
   ·cases H
  ·split at H
   ·rename_i hB;split at H
    ·split at H
     ·have H:=bG H;simp only[za1] at H;subst H;simp only[zaj] at hi;subst hi;rw[hB];simp
     ·cases H
    ·cases H
   ·cases H
  ·cases H
 |slice t x lo N mx=>
  cases mx with
  |some m=>simp[eff] at H
  |none=>
   simp only[eff] at H;split at H
   ·split at H
    ·have H:=bG H;simp only[za1] at H;subst H;cases hi
    ·cases H
   ·split at H
    ·rename_i hB _;split at H
     ·cases H
     ·have H:=bG H;simp only[za1] at H;subst H;simp only[zaj] at hi;subst hi;rw[hB];simp
    ·cases H
   ·cases H
 |indexAddr t x y=>
  simp only[eff] at H;split at H
  ·split at H
   ·split at H
    ·simp only[za1] at H;subst H;cases hi
    ·cases H
   ·cases H
  ·split at H
   ·rename_i hB;split at H
    ·cases H
    ·have H:=bG H;simp only[za1] at H;subst H;simp only[zaj] at hi;subst hi;rw[hB];simp
    ·cases H
   ·cases H
  ·split at H
   ·rename_i hB;split at H
    ·have H:=bG H;simp only[za1] at H;subst H;simp only[zaj] at hi;subst hi;rw[hB];simp
    ·cases H
   ·cases H
  ·cases H
 |index t x y=>
  exfalso;simp only[eff] at H;split at H
  ·split at H
   ·split at H
    ·split at H
     ·have H:=bG H;split at H
      ·simp only[za1] at H;subst H;cases hi
      ·cases H
     ·cases H
    ·split at H
     ·simp only[za1] at H;subst H;cases hi
     ·cases H
    ·cases H
   ·cases H
  ·split at H
   ·simp only[za1] at H;subst H;cases hi
   ·cases H
  ·cases H
 |call c=>
  exfalso;simp only[eff] at H;split at H
  ·split at H
   ·unfold ae2 at H;split at H
    ·split at H
     ·exact p1 H
     ·cases H
    ·split at H
     ·exact p1 H
     ·cases H
    ·split at H
     ·exact p1 H
     ·cases H
    ·cases H
   ·cases H
  ·split at H
   ·split at H
    ·exact J H
    ·cases H
   ·cases H
 |_=>
  exfalso;simp only[eff] at H
  first
   |exact p1 H
   |(repeat' (first|(split at H)|(cases H;done)))
    all_goals first
     |exact p1 H
     |exact J H
     |(simp only[za1] at H;subst H;cases hi;done)
def RO (D:Dl):Prop:=D.E.wr=none/\D.E.nw=none
variable {D:Dl}
theorem VZ:(aV id D.E).2= []↔RO D:=by
 unfold aV RO;simp only[zd5];constructor
 ·rintro⟨h1,h2⟩;constructor
  ·unfold wrI at h1;split at h1
   ·cases h1
   ·assumption
  ·unfold nwI at h2;split at h2
   ·cases h2
   ·assumption
 ·rintro⟨h1,h2⟩;simp[wrI,nwI,h1,h2]
theorem fh (h:RO D) (id:Nat) (A:AS):app D id A={A with tm:=dI D.d D.tv A.tm,og:=arz (D.key.bind λ_=>D.d) A.og,ok:=arz (D.d.bind λ_=>D.key) A.ok}:=by
 simp[app,VO,h.1,h.2]
variable {ops:zdO} {o:Oper} {A:AS}
theorem Stp.reid (h:Stp P Γ ops id o A D) (H:RO D) (J:A.bl id'=none):Stp P Γ ops id' o A D:=by
 refine⟨h.d,J,h.put, ?_⟩;have src:=h.src;unfold Src at src ⊢;cases hg:o.guard with
 |none=>
  rw[hg] at src;exact⟨src.1,src.2.1,src.2.2.1,GA src.2.2.2 H.2⟩
 |some p=>
  obtain⟨j,b⟩:=p;rw[hg] at src;obtain⟨t,g,h1,h2,h3,h4,h5⟩:=src;exact⟨t,g,h1,h2,h3,GA h4 H.2,h5⟩
theorem Stp.det {D':Dl} (h:Stp P Γ ops id o A D) (k:Stp P Γ ops id o A D'):D=D':=by
 have s1:=h.src;have H:=k.src;have hd:=h.d.trans k.d.symm;obtain⟨d,tv,key,E⟩:=D;obtain⟨d',e0,a0,E'⟩:=D';simp only[] at hd s1 H;subst hd;unfold Src at s1 H;cases hg:o.guard with
 |none=>
  rw[hg] at s1 H;obtain⟨Y,a2,a3,a4⟩:=s1;obtain⟨N,b2,b3,J⟩:=H;simp only[] at*
  rw[a4] at J;obtain rfl:E=E':=by simpa using J
  rw[Y,N,a2,b2]
 |some p=>
  obtain⟨j,b⟩:=p;rw[hg] at s1 H;obtain⟨t,g,Y,a2,a3,a4,a5,a6,a7,a8⟩:=s1;obtain⟨t',g',N,b2,b3,J,b5,b6,b7,b8⟩:=H;simp only[] at*
  rw[Y] at N;obtain rfl:t=t':=by simpa using N
  rw[a4] at J;obtain rfl:E=E':=by simpa using J
  rw[a2,b2,a8,b8]
variable {t:Nat}
theorem DT (h:Src P Γ ops id o A D) (H:D.key=some t):t∈o.looksAt ops:=by
 unfold Src at h;cases hg:o.guard with
 |none=>rw[hg] at h;rw[h.1] at H;cases H
 |some p=>
  obtain⟨j,b⟩:=p;rw[hg] at h;obtain⟨J,g,k1,k2,_⟩:=h;rw[k2] at H;obtain rfl:J=t:=by simpa using H
  refine zb1 _ ?_;rw[hg];simp at k1 ⊢;exact k1
def kr (A:AS) (d:Option Nat) (r:SV) (bl:zdL) (nx:Nat) (wl:zdH):AS:={A with tm:=dI d (.v r) A.tm,bl:=bl,nx:=nx,wl:=wl}
variable {B A':AS} {d:Option Nat} {s:SV}
theorem Wa:putD B d (.v s)=some A'↔A'={B with tm:=dI d (.v s) B.tm}/\ ∀x,d=some x->x<B.nt/\B.ok x=false:=by
 cases d with
 |none=>simp[putD,dK];exact⟨λh=>h.symm,λh=>h.symm⟩
 |some d=>
  simp only[putD];cases H:(Nat.blt d B.nt&& !B.ok d) with
  |false=>
   simp only[zdq];constructor
   ·intro h;cases h
   ·rintro⟨_,h⟩;have h2:=h d rfl;rw[aB] at H;simp[h2.1,h2.2] at H
  |true=>
   rw[aB] at H;simp only[za2,zdt,zap] at H;simp only[zdr,za1,forall_eq'];constructor
   ·intro h;exact⟨h.symm,H⟩
   ·intro h;exact h.1.symm
variable {r:SV} {nx:Nat} {wl:zdH}
theorem Cc (N:OS A) (hr:RO D)
 (hd: ∀x,d=some x->A.ok x=false/\x∉o.looksAt ops) (e0: ∀j∈D.E.rd,bl j=A.bl j):Src P Γ ops id o (kr A d r bl nx wl) D↔Src P Γ ops id o A D:=by
 have a0: ∀x∈o.op.operands,∀G,ev (dI d (.v r) A.tm) G x=ev A.tm G x:=λx g0 G=>Ai (λt e he=>by
  subst e
  exact(hd t he).2 (zbI _ (zcH.2 ⟨.tmp t,by simpa using g0,rfl⟩))) G
 have hf: ∀i,(i∈D.E.rd\/i∈wrI D.E)->bl i=A.bl i:=λi hi=>by
  rcases hi with hi|hi
  ·exact e0 i hi
  ·simp[wrI,hr.1] at hi
 have J: ∀G,eff P Γ (kr A d r bl nx wl).hq (kr A d r bl nx wl).tm (kr A d r bl nx wl).bl G id o.op=some D.E↔eff P Γ A.hq A.tm A.bl G id o.op=some D.E:=by
  intro G;show eff P Γ A.hq (dI d (.v r) A.tm) bl G id o.op=some D.E↔_;rw[Gw a0];exact⟨λh=>wv h λi hi=>(hf i hi).symm,λh=>wv h λi hi=>hf i hi⟩
 unfold Src;cases hg:o.guard with
 |none=>simp only[J]
 |some p=>
  obtain⟨j,b⟩:=p;have H: ∀t,(ops.toList[j]?).bind (·.dst)=some t->d≠some t:=λt ht he=>by
   refine(hd t he).2 (zb1 _ ?_);rw[hg];simp at ht ⊢;exact ht
  constructor
  ·rintro⟨t,g,h1,h2,h3,h4,h5⟩;refine⟨t,g,h1,h2, ?_, ?_,h5⟩
   ·rw[<-jt N (λx Y=>(hd x Y).1) 9 t b (H t h1)];exact h3
   ·have:=(J _).1 h4;rw[show Xw (kr A d r bl nx wl).tm 9 t b=Xw A.tm 9 t b from ju N (λx Y=>(hd x Y).1) 9 t b (H t h1)] at this;exact this
  ·rintro⟨t,g,h1,h2,h3,h4,h5⟩;refine⟨t,g,h1,h2, ?_, ?_,h5⟩
   ·show kO (dI d (.v r) A.tm) 9 t b=_;rw[jt N (λx Y=>(hd x Y).1) 9 t b (H t h1)];exact h3
   ·rw[show Xw (kr A d r bl nx wl).tm 9 t b=Xw A.tm 9 t b from ju N (λx Y=>(hd x Y).1) 9 t b (H t h1)];exact(J _).2 h4
variable {v:TV}
theorem DU {e:Option Nat} {u:TV} (h: ∀x,d=some x->e≠some x):dI d v (dI e u tm)=dI e u (dI d v tm):=by
 funext t
 cases d with
 |none=>rfl
 |some x=>
  cases e with
  |none=>rfl
  |some y=>
   have H:x≠y:=λJ=>h x rfl (by rw[J]);simp only[di,bS];by_cases h1:t=x
   ·subst h1;simp[H]
   ·simp[h1]
theorem Cd (H:RO D) (id id':Nat) (h: ∀x,D.d=some x->d≠some x):
 app D id (kr A d r bl nx wl)=kr (app D id' A) d r bl nx wl:=by
 rw[fh H,fh H];unfold kr;simp only[DU h]
structure Nice {O:Type} (I:O->Prop) (T:(O->Prop)->Prop):Prop where
 mono: ∀{K K':O->Prop},T K->(∀o,I o->K o->K' o)->T K'
 ne: ¬T (λ_=>False)
variable {O:Type}
theorem Nice.one {I:O->Prop} {o:O} (h:I o):Nice I (λK=>K o):=⟨λH J=>J o h H,λh=>h⟩
theorem Nice.no {I:O->Prop} {T:(O->Prop)->Prop} (h: ∀K,¬T K):Nice I T:=⟨λH=>absurd H (h _),h _⟩
theorem Nice.need {I:O->Prop} {T:(O->Prop)->Prop} (h:Nice I T) (b:Bool):Nice I (λK=>ah b (T K)):=
 ⟨λH J=>Xg.2 ⟨(Xg.1 H).1,h.mono (Xg.1 H).2 J⟩,λH=>h.ne (Xg.1 H).2⟩
theorem Nice.bind {O':Type} {I:O->Prop} {I':O'->Prop} {T:(O->Prop)->Prop} (h:Nice I T) {F:(O'->Prop)->O->Prop} (hF: ∀o,I o->Nice I' (λK=>F K o)):Nice I' (λK=>T (F K)):=
 ⟨λH Y=>h.mono H λo N J=>(hF o N).mono J Y,λH=>h.ne (h.mono H λo N J=>(hF o N).ne J)⟩
theorem Nice.weak {I I':O->Prop} {T:(O->Prop)->Prop} (h:Nice I T) (H: ∀o,I o->I' o):Nice I' T:=⟨λJ N=>h.mono J λo Y=>N o (H o Y),h.ne⟩
theorem Nice.some {I:O->Prop} {T:(O->Prop)->Prop} (h:Nice I T) {K:O->Prop} (H:T K): ∃o,I o/\K o:=by
 by_cases hh: ∃o,I o/\K o
 ·exact hh
 ·exact absurd (h.mono H λo N J=>hh ⟨o,N,J⟩) h.ne
theorem Nice.and {I:O->Prop} {T T':(O->Prop)->Prop} (h:Nice I T) (N:Nice I T'):Nice I (λK=>T K/\T' K):=⟨λH J=>⟨h.mono H.1 J,N.mono H.2 J⟩,λH=>h.ne H.1⟩
structure Out where
 r:Res
 b:Nat->Option Blk
 n:Nat
 w:List Nat
structure OutI (bl:Nat->Option Blk) (nx:Nat) (wl:List Nat) (o:Out):Prop where
 nxs:NX o.b o.n
 le:nx<=o.n
 keep: ∀j B,bl j=some B->j∉o.w->o.b j=some B
 new: ∀j,j<nx->bl j=none->o.b j=none
 sub: ∀j∈wl,j∈o.w
def NiceT (bl:zdL) (nx:Nat) (wl:zdH) (T:Aft->Prop):Prop:=Nice (OutI bl nx wl) λK=>T λr b n w=>K ⟨r,b,n,w⟩
variable {T:Aft->Prop}
theorem NiceT.mono (h:NiceT bl nx wl T) {K K':Aft} (H:T K) (J: ∀r b n w,OutI bl nx wl ⟨r,b,n,w⟩->K r b n w->K' r b n w):T K':=
 Nice.mono (K:=λo=>K o.r o.b o.n o.w) (K':=λo=>K' o.r o.b o.n o.w) h H λo N=>J o.r o.b o.n o.w N
theorem NiceT.some (h:NiceT bl nx wl T) {K:Aft} (H:T K): ∃r b n w,OutI bl nx wl ⟨r,b,n,w⟩/\K r b n w:=by
 obtain⟨o,N,J⟩:=Nice.some (K:=λo=>K o.r o.b o.n o.w) h H;exact⟨o.r,o.b,o.n,o.w,N,J⟩
def cF (inl:Inl):Prop:=(∀(f:FuncId) (args:zdJ) (bl:zdL) (nx:Nat) (wl:zdH),NX bl nx->NiceT bl nx wl (inl f args bl nx wl))/\ ∀(i:Nat) (args:zdJ) (bl:zdL) (nx:Nat) (wl:zdH),NX bl nx->NiceT bl nx wl (inl.yl i args bl nx wl)
theorem ano {d:Option Tmp} {K:List Nat->zdS} {r:Res} (h:uR A d noP K r bl nx wl):
 ∃s A',r= .ok s/\putD {A with bl:=bl,nx:=nx,wl:=wl++A.wl} d (.v s)=some A'/\K wl A':=by
 cases r with
 |pan v=>exact h.elim
 |ok s=>
  simp only[uR] at h;split at h
  ·rename_i A' hp;exact⟨s,A',rfl,hp,h⟩
  ·exact h.elim
variable {KP:Value->zdS}
theorem Ce {d:Option Tmp} {K:List Nat->zdS} (hp:putD {A with bl:=bl,nx:=nx,wl:=wl++A.wl} d (.v s)=some A') (h:K wl A'):
 uR A d KP K (.ok s) bl nx wl:=by
 simp only[uR];rw[hp];exact h
variable {b:Bool}
theorem Kh {t:TypeId} {x y:SV} {k:zdH} (J:NX A.bl A.nx) (h:S0 P A t x y=some (b,bl,r,k)):
 NX bl (A.nx+1)/\(∀j B,A.bl j=some B->j∉A.nx::k->bl j=some B)/\ ∀j,j<A.nx->A.bl j=none->bl j=none:=by
 have hid:A.bl A.nx=none:=J _ (za0 _);have dom: ∀{j B},A.bl j=some B->j<A.nx:=λ{j B} hB=>by
  rcases zah j A.nx with h|h
  ·exact h
  ·rw[J j h] at hB;cases hB
 have key: ∃N,(bl=upd A.bl A.nx N/\k= [])\/ ∃i X B,bl=upd (upd A.bl i X) A.nx N/\k= [i]/\A.bl i=some B:=by
  unfold S0 at h;split at h
  ·split at h
   ·split at h
    ·cases h
    ·have h:=bG h;split at h
     ·simp only[za1,zag] at h;exact⟨_, .inl ⟨h.2.1.symm,h.2.2.2.symm⟩⟩
     ·split at h
      ·rename_i B hB;split at h
       ·have h:=bG h;simp only[za1,zag] at h;exact⟨_, .inr ⟨_,_,B,h.2.1.symm,h.2.2.2.symm,hB⟩⟩
       ·cases h
      ·cases h
     ·cases h
   ·cases h
  ·cases h
 obtain⟨N,⟨rfl,rfl⟩|⟨i,X,B,rfl,rfl,hB⟩⟩:=key
 ·refine⟨λj H=>by rw[ak (by omega)];exact J j (by omega),λj B hB H=>by rw[ak (by simpa using H)];exact hB,λj H h0=>by rw[ak (by omega)];exact h0⟩
 ·have hi:=dom hB;refine⟨λj H=>by rw[ak (by omega),ak (by omega)];exact J j (by omega),λj C Y H=> ?_,λj H h0=> ?_⟩
  ·simp only[zai,not_or] at H;rw[ak H.1,ak H.2.1];exact Y
  ·rw[ak (by omega),ak (λe=>by rw[e,hB] at h0;cases h0)];exact h0
theorem awc {F F':Nat->SV->zdR} (hF: ∀e k v,F e k v->F' e k v): ∀{l:List (Bool×SV×SV)} {e:Nat},Gf l e F->Gf l e F'
 | [],_,_=>trivial
 |(b,k,v)::r,e,h=>⟨by
    have h1:=h.1;cases b with
    |true=>exact hF _ _ _ h1
    |false=>trivial,awc hF h.2⟩
theorem DV (J:NX bl nx) (x:XOp):NiceT bl nx [] (runX P bl nx x):=by
 have one: ∀r,OutI bl nx [] ⟨r,bl,nx, []⟩:=λr=>⟨J,za0 _,λ_ _ h _=>h,λ_ _ h=>h,λ_ h=>h⟩;have put: ∀r {i B C},bl i=some B->OutI bl nx [] ⟨r,upd bl i C,nx, [i]⟩:=λr i B C hB=>
  ⟨λj H=>(ak (λe=>by rw[<-e,J j H] at hB;cases hB)).trans (J j H),za0 _,λj D Y H=>(ak (λe=>H (by simp[e]))).trans Y,
    λj H h0=>(ak (λe=>by rw[e,hB] at h0;cases h0)).trans h0,λ_ h=>by cases h⟩
 unfold NiceT;cases x with
 |panic v=>exact Nice.one (one _)
 |iface t v=>
  simp only[runX];split
  ·exact Nice.no λ_ h=>h
  ·exact Nice.one (one _)
  ·exact Nice.no λ_ h=>h
 |mk t=>
  simp only[runX];split
  ·exact Nice.one (o:=(⟨.ok (.mp nx),upd bl nx _,nx+1, [nx]⟩:Out)) ⟨λj (H:nx+1<=j)=>(ak (by omega)).trans (J j (by omega)),zaT _,λj D Y H=>(ak (by simpa using H)).trans Y,
    λj H h0=>(ak (by omega)).trans h0,λ_ h=>by cases h⟩
  ·exact Nice.no λ_ h=>h
 |set t i k v=>
  simp only[runX];split
  ·rename_i kt et B _ hB;split
   ·split
    ·split
     ·exact(Nice.one (o:=(⟨.ok (.val undef),upd bl i _,nx, [i]⟩:Out)) (put _ hB)).need _
     ·exact Nice.no λ_ h=>h
    ·exact Nice.no λ_ h=>h
   ·split
    ·exact(Nice.one (o:=(⟨.ok (.val undef),upd bl i _,nx, [i]⟩:Out)) (put _ hB)).need _
    ·exact Nice.no λ_ h=>h
   ·split
    ·exact(Nice.one (o:=(⟨.ok (.val undef),upd bl i _,nx, [i]⟩:Out)) (put _ hB)).need _
    ·exact Nice.no λ_ h=>h
   ·exact Nice.no λ_ h=>h
  ·exact Nice.no λ_ h=>h
 |rng t i=>
  simp only[runX]
  have mk: ∀B,OutI bl nx [] ⟨.ok (.ptr nx 0 0),upd bl nx B,nx+1, [nx]⟩:=λB=>⟨λj (H:nx+1<=j)=>(ak (by omega)).trans (J j (by omega)),zaT _,λj D Y H=>(ak (by simpa using H)).trans Y,
   λj H h0=>(ak (by omega)).trans h0,λ_ h=>by cases h⟩
  split
  ·split
   ·exact Nice.one (mk _)
   ·exact Nice.one (mk _)
   ·exact Nice.no λ_ h=>h
  ·exact Nice.no λ_ h=>h
 |nxt i=>
  simp only[runX];split
  ·rename_i B hB;split
   ·split
    ·rename_i l hl;refine⟨λ{K K'} N hm=>⟨?_,awc (λe k v h=>hm _ (put _ hB) h) N.2⟩,λN=> ?_⟩
     ·have h1:=N.1;cases ha:l.any (·.1) with
      |true=>exact trivial
      |false=>rw[ha] at h1;exact hm _ (put _ hB) h1
     ·obtain⟨h1,h2⟩:=N;cases ha:l.any (·.1) with
      |false=>rw[ha] at h1;exact h1
      |true=>
       obtain⟨⟨b,k,v⟩,hp,hb⟩:=zaP.1 ha;obtain⟨j,H⟩:=zby hp;simp only[] at hb;subst hb;exact wx h2 H
    ·exact Nice.no λ_ h=>h
   ·refine⟨λ{K K'} N hm=>⟨λh=>hm _ (put _ hB) (N.1 h),λz h0 h1=>hm _ (put _ hB) (N.2 z h0 h1)⟩,λN=> ?_⟩;refine N.1 λk=> ?_;cases hb:su (B.get (k+1)) with
    |false=>rfl
    |true=>exact(N.2 (k:Int) (Int.natCast_nonneg _) (by rw[zd2];exact hb)).elim
   ·exact Nice.no λ_ h=>h
  ·exact Nice.no λ_ h=>h
 |ent i=>
  simp only[runX];split
  ·rename_i B hB;cases B.kd.it with
   |false=>exact Nice.no λ_ h=>h
   |true=>
    simp only[zdr];split
    ·exact Nice.one (one _)
    ·exact Nice.no λ_ h=>h
  ·exact Nice.no λ_ h=>h
 |nil t b f x=>
  simp only[runX];split
  ·split
   ·exact(Nice.one (one _)).need _
   ·exact Nice.no λ_ h=>h
  ·exact Nice.one (one _)
  ·exact Nice.one (one _)
  ·exact Nice.one (one _)
  ·exact Nice.no λ_ h=>h
variable {inl:Inl}
theorem pj (J:cF inl) (H:NX A.bl A.nx) (h:kQ P Γ inl A o G=some T):NiceT A.bl A.nx [] T:=by
 unfold kQ at h;split at h
 ·simp only[za1] at h;subst h;exact DV H _
 split at h
 ·rename_i t x y _;simp only[za1] at h;subst h;unfold NiceT;simp only[];split
  ·rename_i b bl r k N;obtain⟨Y,n2,n3⟩:=Kh H N;exact Nice.need (Nice.one (o:=(⟨.ok r,bl,A.nx+1,A.nx::k⟩:Out)) ⟨Y,zaT _,n2,n3,λ_ h=>by cases h⟩) _
  ·exact Nice.no λ_ h=>h
 ·split at h
  ·rename_i f args _;simp only[za1] at h;subst h;exact J.1 f args _ _ _ H
  ·split at h
   ·rename_i i args _;simp only[za1] at h;subst h;exact J.2 i args _ _ _ H
   ·cases h
theorem Cf (h: ∀x∈o.op.operands,∀G,ev B.tm G x=ev A.tm G x):uq B o=uq A o:=by
 unfold uq;cases hg:o.guard with
 |some p=>rfl
 |none=>
  cases H:o.op with
  |panic x=>simp only[h x (by rw[H];simp[Op.operands]) []]
  |makeInterface t x=>simp only[h x (by rw[H];simp[Op.operands]) []]
  |makeMap t r=>cases r<;>rfl
  |range t m=>simp only[h m (by rw[H];simp[Op.operands]) []]
  |entry x=>simp only[h x (by rw[H];simp[Op.operands]) []]
  |next x b=>cases b<;>simp only[h x (by rw[H];simp[Op.operands]) []]
  |insert t m k v=>simp only[h m (by rw[H];simp[Op.operands]) [],h k (by rw[H];simp[Op.operands]) [],h v (by rw[H];simp[Op.operands]) []]
  |mapUpdate t m k v=>simp only[h m (by rw[H];simp[Op.operands]) [],h k (by rw[H];simp[Op.operands]) [],h v (by rw[H];simp[Op.operands]) []]
  |binOp op t x y yt=>
   cases y with
   |const v=>simp only[h x (by rw[H];simp[Op.operands]) []]
   |_=>rfl
  |_=>rfl
theorem Cg (h: ∀x∈o.op.operands,∀G,ev B.tm G x=ev A.tm G x):ac6 B o=ac6 A o:=by
 unfold ac6;cases hg:o.guard with
 |some p=>rfl
 |none=>
  cases J:o.op with
  |call c=>
   simp only[];cases H:c.callee with
   |builtin b=>
    cases b<;>try rfl
    have:evs B.tm [] c.args.toList=evs A.tm [] c.args.toList:=gO λx N=>h x (by rw[J];simp[Op.operands,Call.operands,H];simpa using N) [];simp only[this]
   |_=>rfl
  |_=>rfl
theorem sD (h: ∀x∈o.op.operands,∀G,ev B.tm G x=ev A.tm G x) :po Γ B o G=po Γ A o G:=by
 unfold po;cases hg:o.guard with
 |some p=>rfl
 |none=>
  cases H:o.op with
  |call c=>
   simp only[];have:target B.tm G c=target A.tm G c:=nW λx J=>h x (by rw[H];exact J) G;simp only[this]
  |_=>rfl
theorem azq (h: ∀x∈o.op.operands,∀G,ev B.tm G x=ev A.tm G x) :B4 B o G=B4 A o G:=by
 unfold B4;cases hg:o.guard with
 |some p=>rfl
 |none=>
  cases N:o.op with
  |call c=>
   have h: ∀x∈c.operands,ev B.tm G x=ev A.tm G x:=λx H=>h x (by rw[N];exact H) G;simp only[];split
   ·rename_i f J;rw[h f (by simp[Call.operands,J]),gO λx H=>h x (by simp only[Call.operands,J,za8];first|exact .inr H|exact .inl H|simp_all)]
   ·rfl
  |_=>rfl
theorem Ki (h1:B.bl=A.bl) (h2:B.nx=A.nx) (t:TypeId) (x y:SV):S0 P B t x y=S0 P A t x y:=by
 unfold S0;rw[h1,h2]
theorem sE (h: ∀x∈o.op.operands,∀G,ev B.tm G x=ev A.tm G x) (h1:B.bl=A.bl) (h2:B.nx=A.nx) :kQ P Γ inl B o G=kQ P Γ inl A o G:=by
 have e: ∀t x y,S0 P B t x y=S0 P A t x y:=Ki h1 h2;unfold kQ;rw[Cf h,Cg h,sD h,azq h,h1,h2];cases uq A o with
 |some v=>rfl
 |none=>
 simp only[];cases ac6 A o with
 |some p=>
  obtain⟨t,x,y⟩:=p;show some _=some _
  congr 1
  funext K
  rw[e t x y]
 |none=>rfl
theorem vi (h: ∀x∈o.op.operands,∀G,ev B.tm G x=ev A.tm G x) :kQ P Γ inl B o G=none↔kQ P Γ inl A o G=none:=by
 unfold kQ;rw[Cf h,Cg h,sD h,azq h];cases uq A o with
 |some v=>simp
 |none=>cases ac6 A o with
  |some p=>simp
  |none=>cases po Γ A o G with
   |some p=>simp
   |none=>cases B4 A o G<;>simp
theorem NG (h: ∀x,d=some x->x∉o.looksAt ops): ∀x∈o.op.operands,∀G,ev (dI d v tm) G x=ev tm G x:=λx H G=>Ai (λt e J=>by
 subst e
 exact h t J (zbI _ (zcH.2 ⟨.tmp t,by simpa using H,rfl⟩))) G
def Lk (ops:zdO) (o:Oper) (tm H:Nat->TV):Prop:=(∀x∈o.op.operands,∀G,ev H G x=ev tm G x)/\ ∀j b t,o.guard=some (j,b)->(ops.toList[j]?).bind (·.dst)=some t->H t=tm t
theorem XU (h: ∀x,d=some x->x∉o.looksAt ops):Lk ops o tm (dI d v tm):=by
 refine⟨NG h,λj b t hg H=> ?_⟩;have J:t∈o.looksAt ops:=by
  refine zb1 _ ?_;rw[hg];simp at H ⊢;exact H
 exact lJ λe=>h t e J
theorem qf (h:Lk ops o A.tm B.tm):rN B ops o=rN A ops o:=by
 unfold rN;cases hg:o.guard with
 |none=>rfl
 |some p=>
  obtain⟨j,b⟩:=p;simp only[];cases H:(ops.toList[j]?).bind (·.dst) with
  |none=>rfl
  |some t=>simp only[];rw[h.2 j b t hg H]
theorem sG (h:Lk ops o A.tm B.tm) (h1:B.bl=A.bl) (h2:B.nx=A.nx):eK P Γ inl ops B o=eK P Γ inl ops A o:=by
 unfold eK;rw[sE h.1 h1 h2,sE (o:=jU o) h.1 h1 h2,qf h,h1,h2]
theorem fE (h:Lk ops o A.tm B.tm):eK P Γ inl ops B o=none↔eK P Γ inl ops A o=none:=by
 unfold eK;rw[qf h];cases o.guard with
 |none=>exact vi h.1
 |some p=>
  have H:=vi (P:=P) (Γ:=Γ) (inl:=inl) (A:=A) (B:=B) (o:=jU o) h.1 (G:=Gi ops o);simp only[];cases h1:kQ P Γ inl A (jU o) (Gi ops o) with
  |none=>rw[H.2 h1]
  |some T=>
   cases h2:kQ P Γ inl B (jU o) (Gi ops o) with
   |none=>rw[H.1 h2] at h1;cases h1
   |some J=>
    simp only[];cases rN A ops o with
    |none=>simp
    |some g=>simp
theorem fF (H:cF inl) (J:NX A.bl A.nx) (h:eK P Γ inl ops A o=some T):NiceT A.bl A.nx [] T:=by
 unfold eK at h;cases hg:o.guard with
 |none=>rw[hg] at h;exact pj H J h
 |some p=>
  rw[hg] at h;simp only[] at h;split at h
  ·rename_i Y N;split at h
   ·rename_i g _;simp only[za1] at h;subst h;cases g with
    |true=>exact pj H J N
    |false=>exact Nice.one (o:=(⟨.ok (.val undef),A.bl,A.nx, []⟩:Out)) ⟨J,za0 _,λ_ _ h _=>h,λ_ _ h=>h,λ_ h=>h⟩
   ·cases h
  ·cases h
variable {β:zdI} {a:Act} {w:World} {Q:zdN} {KK:Act->World->Prop}
theorem Am (N:InlOK P W0 inl) (H:eK P Γ inl ops A o=some T) {Kn:List Nat->zdS} 
 (h:T (uR A o.dst KP Kn)) (Y:Is W0 A β a w) 
 (hP: ∀v A' w' β',KP v A'->Is W0 A' β' a w'->Trs A β A' β'->Q (pex v) a w')
 (hK: ∀wl A' a' w' β',Kn wl A'->Is W0 A' β' a' w'->Trs A β A' β'->KK a' w'):
 if Region.wanted o (yielded ops a.tmps) then o.wpX P a w KK Q else KK (a.put o.dst undef) w:=by
 unfold eK at H;cases hg:o.guard with
 |none=>
  rw[hg] at H;obtain⟨r1,r2⟩:=mP N (ops:=ops) H h Y (λp hp=>by cases hp) hP hK;rw[if_pos r1];exact r2
 |some p=>
  obtain⟨j,b⟩:=p;rw[hg] at H;simp only[] at H;split at H
  ·rename_i T' hT;have J: ∀g,rN A ops o=some g->((Region.wanted o (yielded ops a.tmps)=true)↔g=true):=by
    intro g h1;unfold rN at h1;rw[hg] at h1;simp only[] at h1;split at h1
    ·rename_i t ht;split at h1
     ·rename_i x hx;simp only[za1] at h1;have:=(Y.fr.v t _ hx).1;rw[qn hg ht,this,<-h1];simp[SV.conc]
     ·cases h1
    ·cases h1
   split at H
   ·rename_i g hh;simp only[za1] at H;subst H;cases g with
    |true=>
    obtain⟨_,r2⟩:=mP N (ops:=ops) (o:=jU o) hT h Y (λp hp=>by
     have hw:=(J _ hh).2 rfl;unfold Gi at hp;rw[hg] at hp;simp only[] at hp;split at hp
     ·rename_i t ht;rw[zaj.1 hp];exact(qn hg ht).1 hw
     ·cases hp) hP hK
    rw[if_pos ((J _ hh).2 rfl)];exact r2
    |false=>
    rw[if_neg (λe=>by have:=(J _ hh).1 e;cases this)];simp only[zdq,uR] at h;split at h
    ·rename_i A1 hp;obtain⟨q1,q2,q3,q4,q5⟩:=FR.putD Y.fr (s:= .val undef) (λi hi=>by simp[SV.ids] at hi) hp;exact hK _ A1 _ w β h ⟨q1,by rw[q2];exact Y.bc,by rw[q2,q3];exact Y.nx,(nB hp).trans Y.sd⟩ ⟨by rw[q2];exact Tr.refl _ _ _ _,by rw[q5];exact λi hi=>by simp[hi],by rw[q3];exact za0 _,q4⟩
    ·exact h.elim
   ·cases H
  ·cases H
variable {pre:Nat->zdH} {h:Nat->Option Hst} {x:Nat} {e:Hst} {ef:Bool} {rd wr:zdH}
theorem ab5 (N:i∉pre x):okM ops pre (dc h i e) x ef rd wr=okM ops pre h x ef rd wr:=by
 unfold okM;rw[zax];simp only[zaf];have J: ∀y,y∈pre x->dc h i e y=h y:=λy H=>by
  unfold dc;rw[bS,zds (λ(q:y=i)=>N (q▸H))];rfl
 constructor
 ·intro hh y H;have:=hh y H;rwa[J y H] at this
 ·intro hh y H;rw[J y H];exact hh y H
theorem qg (h:smallF o=true):kQ P Γ inl A o G=none:=by
 unfold smallF at h;have h1:uq A o=none:=by
  unfold uq;split<;>first|rfl|(simp_all)
 have h2:ac6 A o=none:=by
  unfold ac6;split<;>first|rfl|(simp_all)
 have h3:po Γ A o G=none:=by
  unfold po;split<;>first|rfl|(simp_all)
 have h4:B4 A o G=none:=by
  unfold B4;split<;>first|rfl|(simp_all)
 unfold kQ;rw[h1,h2,h3,h4]
theorem Ao (h:smallF o=true):eK P Γ inl ops A o=none:=by
 unfold eK;cases o.guard with
 |none=>exact qg h
 |some p=>simp only[];rw[qg (o:=jU o) h]
theorem ab6 (Y:h x=none) (J:okM ops pre (dc h x e) i ef rd wr=true):okM ops pre h i ef rd wr=true:=by
 unfold okM at J ⊢;simp only[zaf] at J ⊢;intro y hy;have:=J y hy;by_cases H:y=x
 ·subst H;rw[Y];simp
 ·have N:dc h x e y=h y:=by unfold dc;rw[bS,zds H];rfl
  rwa[N] at this
variable {ox oi:Oper}
theorem ji (hx:x∈pre i) (h1:ops.toList[x]? =some ox) (h2:ops.toList[i]? =some oi) (N:bK ops.toList ops.size i x=false)
 (H:okM ops pre (dc h x e) i ef rd wr=true):ox.apart ops oi=true/\(ef&&e.ef)=false/\jT wr e.rd=false/\jT e.wr rd=false/\(e.ef=true->smallF ox=false-> ∀j∈rd,j<e.nx):=by
 unfold okM at H;simp only[zaf] at H;have:=H x hx;have J:dc h x e x=some e:=by unfold dc;rw[bS,zdp rfl];rfl
 rw[N,J,h1,h2] at this;simp only[zbi,za2,zap,zav,zaf,aB,zdt] at this;refine⟨this.1.1.1.1,this.1.1.1.2,this.1.1.2,this.1.2,λY hs j hj=> ?_⟩;rcases this.2 with (h|h)|h
 ·rw[Y] at h;cases h
 ·rw[hs] at h;cases h
 ·exact h j hj
theorem DW {a b:zdH} (h:jT a b=false):jT b a=false:=by
 cases hh:jT b a with
 |false=>rfl
 |true=>
  unfold jT at hh;simp only[zaP] at hh;obtain⟨x,N,y,Y,J⟩:=hh;have H:=zab J;subst H;exact absurd N (jw h Y)
theorem DY {j:Nat} {f:Hst} (H:i≠j):dc (dc h i e) j f=dc (dc h j f) i e:=by
 funext y
 simp only[dc,bS];by_cases h1:y=j
 ·subst h1;simp[Ne.symm H]
 ·simp[h1]
variable {K:Bool->List Nat->List Nat->zdS}
theorem eQ (J:eK P Γ inl ops A o=none) (h:opT P Γ inl ops A o KP K):
 ∃D,Stp P Γ ops A.nx o A D/\((RO D/\K false D.E.rd [] (app D A.nx A))\/(¬RO D/\K true D.E.rd (aV A.nx D.E).2 {app D A.nx A with nx:=A.nx+1,wl:=(aV A.nx D.E).2++A.wl})):=by
 unfold opT at h;rw[J] at h;simp only[] at h;split at h
 ·rename_i b A' f Y;obtain⟨J,h⟩:=Xg.1 h;subst J;obtain⟨D,st,rfl,rfl⟩:=VV.1 Y;refine⟨D,st, ?_⟩;split at h
  ·rename_i H;exact .inl ⟨VZ.1 H,h⟩
  ·rename_i j l H;right;rw[H];exact⟨λN=>absurd ((VZ.2 N).symm.trans H) (by simp),h⟩
 ·exact h.elim
theorem kV (H:eK P Γ inl ops A o=none) (st:Stp P Γ ops A.nx o A D) (J:RO D) (h:K false D.E.rd [] (app D A.nx A)):opT P Γ inl ops A o KP K:=by
 unfold opT;rw[H];simp only[VV.2 ⟨D,st,rfl,rfl⟩];refine Xg.2 ⟨rfl, ?_⟩;rw[VZ.2 J];exact h
theorem wy (J:eK P Γ inl ops A o=none) (st:Stp P Γ ops A.nx o A D) (N: ¬RO D)
 (h:K true D.E.rd (aV A.nx D.E).2 {app D A.nx A with nx:=A.nx+1,wl:=(aV A.nx D.E).2++A.wl}):opT P Γ inl ops A o KP K:=by
 unfold opT;rw[J];simp only[VV.2 ⟨D,st,rfl,rfl⟩];refine Xg.2 ⟨rfl, ?_⟩;split
 ·rename_i H;exact absurd (VZ.1 H) N
 ·rename_i j l H;rw[H] at h;exact h
theorem An {f:zdQ} (h:arz d f x=false):f x=false:=by
 cases d with
 |none=>exact h
 |some d=>rw[bZ] at h;simp at h;exact h.2
theorem dl {c:Bool} {K:Prop}:ah (b&&c) K↔b=true/\c=true/\K:=by
 rw[Xg,za2,and_assoc]
variable {m:Bool}
theorem acT:ckM m ops i false=true:=by unfold ckM;simp
theorem ahs {d:Option Tmp} {K:List Nat->zdS} (h:uR A d KP K (.ok s) bl nx wl):
 ∃A',putD {A with bl:=bl,nx:=nx,wl:=wl++A.wl} d (.v s)=some A'/\K wl A':=by
 simp only[uR] at h;split at h
 ·rename_i A' hp;exact⟨A',hp,h⟩
 ·exact h.elim
variable {KN:Value->zdS}
theorem GC (K0:cF inl) {R:AS->(Nat->Option Hst)->Prop} (V0:OS A) (B0:NX A.bl A.nx)
 (F1:x≠i) (C0:x∈pre i) (Q0:i∉pre x) (hx:ops.toList[x]? =some ox) (hi:ops.toList[i]? =some oi) (hb:bK ops.toList ops.size i x=false) (h0:h x=none) (hN:KN=noP\/(∀v A',KN v A'↔KN v (acO A'))/\smallF ox=true/\m=true/\Du ops x i=true/\ox.apart ops oi=true)
 (hm:opT P Γ inl ops A ox KN λef rd wr A1=>ah (okM ops pre h x ef rd wr&&ckM m ops x ef) (opT P Γ inl ops A1 oi KN λH l0 o0 A2=>ah (okM ops pre (dc h x ⟨ef,rd,wr,bif ef then A.nx else 0⟩) i H l0 o0&&ckM m ops i H) (R A2 (dc (dc h x ⟨ef,rd,wr,bif ef then A.nx else 0⟩) i ⟨H,l0,o0,bif H then A1.nx else 0⟩)))):
 opT P Γ inl ops A oi KN λH l0 o0 A1=>ah (okM ops pre h i H l0 o0&&ckM m ops i H) (opT P Γ inl ops A1 ox KN λef rd wr A2=>ah (okM ops pre (dc h i ⟨H,l0,o0,bif H then A.nx else 0⟩) x ef rd wr&&ckM m ops x ef) (R A2 (dc (dc h i ⟨H,l0,o0,bif H then A.nx else 0⟩) x ⟨ef,rd,wr,bif ef then A1.nx else 0⟩))):=by
 have y0: ∀e e',dc (dc h i e') x e=dc (dc h x e) i e':=λe e'=>DY (Ne.symm F1);have Z0: ∀{B:AS} {id:Nat} {o:Oper} {D:Dl},Stp P Γ ops id o B D-> ∀j∈D.E.rd,B.bl j≠none:=by
  intro B id o D st j hj;have src:=st.src;unfold Src at src;cases hg:o.guard with
  |none=>rw[hg] at src;exact GB src.2.2.2 hj
  |some p=>
   obtain⟨jj,bb⟩:=p;rw[hg] at src;obtain⟨t,g,_,_,_,h4,_⟩:=src;exact GB h4 hj
 cases u0:eK P Γ inl ops A ox with
 |some T=>
  have hN:KN=noP:=by
   rcases hN with h|⟨_,h,_⟩
   ·exact h
   ·rw[Ao h] at u0;cases u0
  subst hN;unfold opT at hm;rw[u0] at hm;simp only[] at hm;have nT:=fF K0 B0 u0;obtain⟨r0,b0,n0,w0,I0,B1⟩:=nT.some hm;have Y0: ∀r b n w,OutI A.bl A.nx [] ⟨r,b,n,w⟩->uR A ox.dst noP (λwl A1=>ah (okM ops pre h x true [] wl&&ckM m ops x true) (opT P Γ inl ops A1 oi noP λH l0 o0 A2=>ah (okM ops pre (dc h x ⟨true, [],wl,A.nx⟩) i H l0 o0&&ckM m ops i H) (R A2 (dc (dc h x ⟨true, [],wl,A.nx⟩) i ⟨H,l0,o0,bif H then A1.nx else 0⟩)))) r b n w-> ∃s D,r= .ok s/\Stp P Γ ops A.nx oi A D/\RO D/\ox.apart ops oi=true/\(∀y,ox.dst=some y->y<A.nt/\A.ok y=false)/\eK P Γ inl ops A oi=none/\okM ops pre h x true [] w=true/\ckM m ops x true=true/\okM ops pre h i false D.E.rd []=true/\
   R (app D n (kr A ox.dst s b n (w++A.wl))) (dc (dc h x ⟨true, [],w,A.nx⟩) i ⟨false,D.E.rd, [],0⟩):=by
   intro r b n w ⟨k1,k2,k3,k4,_⟩ N;obtain⟨r,Ax,rfl,hp,N⟩:=ano N
   ·obtain⟨rfl,a0⟩:=Wa.1 hp;obtain⟨q1,qc,q2⟩:=dl.1 N;have U0:opT P Γ inl ops (kr A ox.dst r b n (w++A.wl)) oi noP λH l0 o0 A2=>ah (okM ops pre (dc h x ⟨true, [],w,A.nx⟩) i H l0 o0&&ckM m ops i H) (R A2 (dc (dc h x ⟨true, [],w,A.nx⟩) i ⟨H,l0,o0,bif H then n else 0⟩)):=q2;cases J:eK P Γ inl ops (kr A ox.dst r b n (w++A.wl)) oi with
    |some T'=>
     exfalso;unfold opT at U0;rw[J] at U0;simp only[] at U0;obtain⟨r1,b1,n1,w1,_,this⟩:=(fF K0 (A:=kr A ox.dst r b n (w++A.wl)) k1 J).some U0;obtain⟨_,_,_,_,this⟩:=ano this;obtain⟨o1,_⟩:=dl.1 this;have:=(ji C0 hx hi hb o1).2.1;simp at this
    |none=>
     obtain⟨D,st,⟨hr,u1⟩|⟨hr,u1⟩⟩:=eQ J U0
     ·obtain⟨o1,_,o2⟩:=dl.1 u1;obtain⟨a1,a2,a3,a4,a5⟩:=ji C0 hx hi hb o1;obtain⟨z0,O0,H0⟩:=Oper.apart_spec a1;have hd: ∀y,ox.dst=some y->A.ok y=false/\y∉oi.looksAt ops:=λy Y=>⟨(a0 y Y).2,z0 y Y⟩;have v1: ∀j∈D.E.rd,b j=A.bl j:=by
       intro j hj;have l1:j∉w:=λhw=>jw a4 hw hj;cases hB:A.bl j with
       |some B=>exact k3 j B hB l1
       |none=>exact absurd (k4 j (a5 rfl (by cases hs:smallF ox with
        |false=>rfl
        |true=>rw[Ao hs] at u0;cases u0) j hj) hB) (Z0 st j hj)
      have C1:A.bl n=none:=B0 n k2;have N1:Stp P Γ ops n oi A D:=⟨st.d,C1,λy Y=>st.put y Y,(Cc (P:=P) (Γ:=Γ) (ops:=ops) (id:=n) (o:=oi) (A:=A) (D:=D) (d:=ox.dst) (r:=r) (bl:=b) (nx:=n) (wl:=w++A.wl) V0 hr hd v1).1 st.src⟩;exact⟨r,D,rfl,N1.reid hr (B0 _ (za0 _)),hr,a1,a0,(fE (XU z0)).1 J,q1,qc,ab6 h0 o1,o2⟩
     ·obtain⟨o1,_⟩:=dl.1 u1;have:=(ji C0 hx hi hb o1).2.1;simp at this
  obtain⟨_,D,_,st,hr,a1,a0,J,_,_,z1,_⟩:=Y0 r0 b0 n0 w0 I0 B1;obtain⟨z0,O0,H0⟩:=Oper.apart_spec a1;refine kV J st hr (dl.2 ⟨z1,acT, ?_⟩);have E0:eK P Γ inl ops (app D A.nx A) ox=some T:=by
   rw[<-u0];rw[fh hr];exact sG (XU λy Y=>H0 y (by rw[<-st.d];exact Y)) rfl rfl
  rw[opT,E0];refine nT.mono hm λr b n w io N=> ?_;obtain⟨r,D',rfl,M1,S1,_,_,_,v0,i0,_,hR⟩:=Y0 r b n w io N;obtain rfl:=st.det M1;have hp:putD {app D A.nx A with bl:=b,nx:=n,wl:=w++(app D A.nx A).wl} ox.dst (.v r)=some (kr (app D A.nx A) ox.dst r b n (w++A.wl)):=by
   refine Wa.2 ⟨rfl,λy Y=>⟨(a0 y Y).1, ?_⟩⟩;show arz (D.d.bind λ_=>D.key) A.ok y=false;cases h3:D.d with
   |none=>exact(a0 y Y).2
   |some e=>
    cases h4:D.key with
    |none=>exact(a0 y Y).2
    |some k=>
     have K1:y≠k:=λe=>z0 y Y (by rw[e];exact DT st.src h4);simp only[zcF,bZ,bS,(a0 y Y).2];simp[K1]
  refine Ce hp ?_;refine dl.2 ⟨by rw[ab5 Q0];exact v0,i0, ?_⟩;rw[y0];rw[Cd hr n A.nx (λy Y e=>O0 y e (by rw[<-st.d];exact Y))] at hR;exact hR
 |none=>
  obtain⟨Dx,sx,⟨j0,N⟩|⟨j0,N⟩⟩:=eQ u0 hm
  ·
   obtain⟨v0,i0,N⟩:=dl.1 N;have P0:=fh j0 A.nx A;cases J:eK P Γ inl ops (app Dx A.nx A) oi with
   |some T=>
    unfold opT at N;rw[J] at N;simp only[] at N;have R0:NX (app Dx A.nx A).bl (app Dx A.nx A).nx:=by rw[P0];exact B0
    have nT:=fF K0 R0 J;have ap:ox.apart ops oi=true:=by
     rcases hN with hN|⟨_,_,_,_,hN⟩
     ·subst hN;obtain⟨r0,b0,n0,w0,_,this⟩:=nT.some N;obtain⟨_,_,_,_,this⟩:=ano this;obtain⟨o1,_⟩:=dl.1 this;exact(ji C0 hx hi hb o1).1
     ·exact hN
    obtain⟨z0,O0,H0⟩:=Oper.apart_spec ap;have q0:eK P Γ inl ops A oi=some T:=by
     have:=sG (P:=P) (Γ:=Γ) (inl:=inl) (A:=A) (B:=app Dx A.nx A) (o:=oi) (XU λy Y=>z0 y (by rw[<-sx.d];exact Y)) (by rw[P0]) (by rw[P0]);rw[<-this];exact J
    rw[opT,q0];refine NiceT.mono (fF K0 B0 q0) (nT.mono N λr b n w io N=>(⟨io,N⟩:OutI (app Dx A.nx A).bl (app Dx A.nx A).nx [] ⟨r,b,n,w⟩/\_)) λr b n w _ N=> ?_;obtain⟨⟨k1,k2,k3,k4,_⟩,N⟩:=N;cases r with
    |pan v=>
     have N:KN v {app Dx A.nx A with bl:=b,nx:=n,wl:=w++(app Dx A.nx A).wl}:=N;show KN v {A with bl:=b,nx:=n,wl:=w++A.wl};rcases hN with h|⟨h,_⟩
     ·rw[h] at N;exact N.elim
     ·have h1:=(h _ _).1 N;refine(h _ _).2 ?_;rw[P0] at h1;exact h1
    |ok r=>
    obtain⟨A2,hp,N⟩:=ahs N
    ·obtain⟨rfl,a0⟩:=Wa.1 hp;obtain⟨o1,oc,hR⟩:=dl.1 N;obtain⟨a1,a2,a3,a4,_⟩:=ji C0 hx hi hb o1;have T0: ∀y,oi.dst=some y->y<A.nt/\A.ok y=false:=λy Y=>⟨(a0 y Y).1,An (a0 y Y).2⟩;have hp:putD {A with bl:=b,nx:=n,wl:=w++A.wl} oi.dst (.v r)=some (kr A oi.dst r b n (w++A.wl)):=Wa.2 ⟨rfl,T0⟩;refine Ce hp ?_;refine dl.2 ⟨ab6 h0 o1,oc, ?_⟩;have hd: ∀y,oi.dst=some y->A.ok y=false/\y∉ox.looksAt ops:=λy Y=>⟨(T0 y Y).2,H0 y Y⟩;have v1: ∀j∈Dx.E.rd,b j=A.bl j:=by
      intro j hj;have l1:j∉w:=λhw=>jw a3 hw hj;cases hB:A.bl j with
      |some B=>exact k3 j B (by rw[P0];exact hB) l1
      |none=>exact absurd hB (Z0 sx j hj)
     have L1:A.nx<=n:=k2;have O1:Stp P Γ ops n ox (kr A oi.dst r b n (w++A.wl)) Dx:=
      ⟨sx.d,k1 n (za0 _),λy Y=>sx.put y Y,(Cc V0 j0 hd v1).2 (sx.reid j0 (B0 n L1)).src⟩
     refine kV (A:=kr A oi.dst r b n (w++A.wl)) ((fE (XU H0)).2 u0) O1 j0 ?_;refine dl.2 ⟨?_,i0, ?_⟩
     ·rw[ab5 Q0];exact v0
     rw[y0];show R (app Dx n (kr A oi.dst r b n (w++A.wl))) _;rw[Cd j0 n A.nx (λy Y e=>O0 y (by rw[<-sx.d];exact Y) e)];exact hR
   |none=>
    obtain⟨Di,si,e0⟩:=eQ J N;have ap:ox.apart ops oi=true/\jT (aV A.nx Di.E).2 Dx.E.rd=false:=by
     rcases e0 with ⟨hr,e0⟩|⟨hr,e0⟩
     ·obtain⟨o1,_⟩:=dl.1 e0;obtain⟨a1,_⟩:=ji C0 hx hi hb o1;exact⟨a1,by rw[VZ.2 hr];rfl⟩
     ·obtain⟨o1,_⟩:=dl.1 e0;obtain⟨a1,_,a3,_⟩:=ji C0 hx hi hb o1;exact⟨a1,a3⟩
    obtain⟨z0,O0,H0⟩:=Oper.apart_spec ap.1;have R1:=sx.reid (id':=A.nx+1) j0 (B0 _ (by omega));have e1:app Dx (A.nx+1) A=app Dx A.nx A:=by rw[fh j0,fh j0]
    have j1:pZ (aV (A.nx+1) Dx.E) (aV A.nx Di.E)=false:=by
     unfold pZ;rw[VZ.2 j0];have:jT (aV (A.nx+1) Dx.E).1 (aV A.nx Di.E).2=false:=DW ap.2;rw[this];rfl
    have x1:step P Γ ops A.nx oi (app Dx (A.nx+1) A)=some (true,app Di A.nx (app Dx A.nx A),aV A.nx Di.E):=by rw[e1];exact VV.2 ⟨Di,si,rfl,rfl⟩
    obtain⟨A1,c1,c2⟩:=ayt V0 (VV.2 ⟨Dx,R1,rfl,rfl⟩) x1 ap.1 j1 (by omega);obtain⟨Di',ti,rfl,fi⟩:=VV.1 c1;obtain⟨Dx',tx,ex,fx⟩:=VV.1 c2;have x0:RO Dx':=VZ.1 (by rw[<-fx];exact VZ.2 j0);have L0:Dx'.E.rd=Dx.E.rd:=(congrArg Prod.fst fx).symm;have M0:Di'.E.rd=Di.E.rd:=(congrArg Prod.fst fi).symm;have q0:eK P Γ inl ops A oi=none:=(fE (A:=A) (B:=app Dx A.nx A) (XU λy Y=>z0 y (by rw[<-sx.d];exact Y))).1 J;have E0:eK P Γ inl ops (app Di' A.nx A) ox=none:=(fE (A:=A) (B:=app Di' A.nx A) (XU λy Y=>H0 y (by rw[<-ti.d];exact Y))).2 u0;rcases e0 with ⟨N0,e0⟩|⟨N0,e0⟩
    ·obtain⟨o1,oc,hR⟩:=dl.1 e0;have g0:RO Di':=VZ.1 (by rw[<-fi];exact VZ.2 N0);refine kV q0 ti g0 (dl.2 ⟨by rw[M0];exact ab6 h0 o1,acT, ?_⟩);have D1:(app Di' A.nx A).bl A.nx=none:=by rw[fh g0];exact B0 _ (za0 _)
     refine kV E0 (tx.reid (id':=A.nx) x0 D1) x0 (dl.2 ⟨by rw[ab5 Q0,L0];exact v0,acT, ?_⟩);rw[y0,L0,M0];have:app Dx' A.nx (app Di' A.nx A)=app Di A.nx (app Dx A.nx A):=by
      rw[ex,fh x0,fh x0]
     show R (app Dx' A.nx (app Di' A.nx A)) _;rw[this];exact hR
    ·obtain⟨o1,oc,hR⟩:=dl.1 e0;have g0: ¬RO Di':=λh=>N0 (VZ.1 (by rw[fi];exact VZ.2 h));have ew:(aV A.nx Di'.E).2=(aV A.nx Di.E).2:=by rw[fi]
     refine wy q0 ti g0 (dl.2 ⟨by rw[M0,ew];exact ab6 h0 o1,oc, ?_⟩);have y1:eK P Γ inl ops {app Di' A.nx A with nx:=A.nx+1,wl:=(aV A.nx Di'.E).2++A.wl} ox=none:=(fE (A:=app Di' A.nx A) (B:={app Di' A.nx A with nx:=A.nx+1,wl:=(aV A.nx Di'.E).2++A.wl}) ⟨λ_ _ _=>rfl,λ_ _ _ _ _=>rfl⟩).2 E0;refine kV (A:={app Di' A.nx A with nx:=A.nx+1,wl:=(aV A.nx Di'.E).2++A.wl}) y1 ⟨tx.d,tx.fresh,tx.put,tx.src⟩ x0 (dl.2 ⟨by rw[ab5 Q0,L0];exact v0,acT, ?_⟩);rw[y0,L0,M0,ew];have:app Dx' (A.nx+1) {app Di' A.nx A with nx:=A.nx+1,wl:=(aV A.nx Di.E).2++A.wl}={app Di A.nx (app Dx A.nx A) with nx:=A.nx+1,wl:=(aV A.nx Di.E).2++A.wl}:=by
      rw[ex];rfl
     show R (app Dx' (A.nx+1) {app Di' A.nx A with nx:=A.nx+1,wl:=(aV A.nx Di.E).2++A.wl}) _;rw[this];exact hR
  ·
   obtain⟨v0,i0,N⟩:=dl.1 N;have R0:NX (VO A.bl A.nx Dx.E) (A.nx+1):=B0.apply Dx.E (by omega) (za0 _);cases J:eK P Γ inl ops {app Dx A.nx A with nx:=A.nx+1,wl:=(aV A.nx Dx.E).2++A.wl} oi with
   |some T=>
    exfalso;rcases hN with hN|⟨_,_,E1,hu,_⟩
    ·subst hN;unfold opT at N;rw[J] at N;simp only[] at N;obtain⟨r0,b0,n0,w0,_,this⟩:=(fF K0 (A:={app Dx A.nx A with nx:=A.nx+1,wl:=(aV A.nx Dx.E).2++A.wl}) R0 J).some N;obtain⟨_,_,_,_,this⟩:=ano this;obtain⟨o1,_⟩:=dl.1 this;have:=(ji C0 hx hi hb o1).2.1;simp at this
    ·have H1:dz ops i=true:=by
      unfold dz;rw[hi];show (!smallF oi)=true;cases hs:smallF oi with
      |false=>rfl
      |true=>rw[Ao hs] at J;cases J
     have:((List.range ops.size).any λc=>Du ops x c&&dz ops c)=true:=zaP.2 ⟨i,zaC.2 (by
      rcases zah i ops.size with h|h
      ·exact h
      ·rw[zad (by simpa using h)] at hi;cases hi),by rw[hu,H1];rfl⟩
     unfold ckM at i0;rw[E1,this] at i0;cases i0
   |none=>
    obtain⟨Di,si,⟨N0,e0⟩|⟨N0,e0⟩⟩:=eQ J N
    ·obtain⟨o1,oc,hR⟩:=dl.1 e0;obtain⟨a1,_,_,a4,_⟩:=ji C0 hx hi hb o1;obtain⟨z0,O0,H0⟩:=Oper.apart_spec a1;have j1:pZ (aV A.nx Dx.E) (aV (A.nx+1) Di.E)=false:=by
      unfold pZ;rw[VZ.2 N0];have h1:jT (aV A.nx Dx.E).2 (aV (A.nx+1) Di.E).1=false:=a4;have h2: ∀l:zdH,jT l []=false:=λl=>by unfold jT;simp
      rw[h1,h2,h2];rfl
     have x1:step P Γ ops (A.nx+1) oi (app Dx A.nx A)=some (true,app Di (A.nx+1) (app Dx A.nx A),aV (A.nx+1) Di.E):=VV.2 ⟨Di,⟨si.d,si.fresh,si.put,si.src⟩,rfl,rfl⟩;obtain⟨A1,c1,c2⟩:=ayt V0 (VV.2 ⟨Dx,sx,rfl,rfl⟩) x1 a1 j1 (by omega);obtain⟨Di',ti,rfl,fi⟩:=VV.1 c1;obtain⟨Dx',tx,ex,fx⟩:=VV.1 c2;have g0:RO Di':=VZ.1 (by rw[<-fi];exact VZ.2 N0);have x0: ¬RO Dx':=λh=>j0 (VZ.1 (by rw[fx];exact VZ.2 h));have L0:Dx'.E.rd=Dx.E.rd:=(congrArg Prod.fst fx).symm;have M0:Di'.E.rd=Di.E.rd:=(congrArg Prod.fst fi).symm;have ew:(aV A.nx Dx'.E).2=(aV A.nx Dx.E).2:=by rw[fx]
     have q0:eK P Γ inl ops A oi=none:=(fE (A:=A) (B:={app Dx A.nx A with nx:=A.nx+1,wl:=(aV A.nx Dx.E).2++A.wl}) (XU λy Y=>z0 y (by rw[<-sx.d];exact Y))).1 J;have E0:eK P Γ inl ops (app Di' A.nx A) ox=none:=(fE (A:=A) (B:=app Di' A.nx A) (XU λy Y=>H0 y (by rw[<-ti.d];exact Y))).2 u0;have e1:app Di' (A.nx+1) A=app Di' A.nx A:=by rw[fh g0,fh g0]
     refine kV q0 (ti.reid g0 (B0 _ (za0 _))) g0 (dl.2 ⟨by rw[M0];exact ab6 h0 o1,acT, ?_⟩);rw[e1] at tx ex;refine wy E0 tx x0 (dl.2 ⟨by rw[ab5 Q0,L0];show okM ops pre h x true Dx.E.rd (aV A.nx Dx'.E).2=true;rw[ew];exact v0,i0, ?_⟩);rw[y0,L0,M0];have:({app Dx' A.nx (app Di' A.nx A) with nx:=A.nx+1,wl:=(aV A.nx Dx.E).2++A.wl}:AS)=app Di (A.nx+1) {app Dx A.nx A with nx:=A.nx+1,wl:=(aV A.nx Dx.E).2++A.wl}:=by
      rw[<-ex];rfl
     show R {app Dx' A.nx (app Di' A.nx A) with nx:=A.nx+1,wl:=(aV A.nx Dx'.E).2++A.wl} (dc (dc h x ⟨true,Dx.E.rd,(aV A.nx Dx'.E).2,A.nx⟩) i ⟨false,Di.E.rd, [],0⟩);rw[ew,this];exact hR
    ·exfalso;obtain⟨o1,_⟩:=dl.1 e0;have:=(ji C0 hx hi hb o1).2.1;simp at this
variable {K':Bool->List Nat->List Nat->zdS}
theorem GD (a0:cF inl) (Y:OS A) (N:NX A.bl A.nx) (h:opT P Γ inl ops A o KP K)
 (hK: ∀ef rd wr A',K ef rd wr A'->OS A'->NX A'.bl A'.nx->K' ef rd wr A'):opT P Γ inl ops A o KP K':=by
 cases hb:eK P Γ inl ops A o with
 |some T=>
  rw[opT,hb] at h ⊢;refine(fF a0 N hb).mono h λr b n w io H=> ?_;cases r with
  |pan v=>exact H
  |ok r=>
  simp only[uR] at H ⊢;split at H
  ·rename_i A' hp;obtain⟨rfl,e0⟩:=Wa.1 hp;refine hK _ _ _ _ H ?_ io.nxs;intro t u b' s ht;have J:dI o.dst (.v r) A.tm t= .opt u b' s:=ht;by_cases hd:o.dst=some t
   ·rw[hd,di] at J;simp at J
   ·rw[lJ hd] at J;exact Y t u b' s J
  ·exact H.elim
 |none=>
  obtain⟨D,st,⟨hr,H⟩|⟨hr,H⟩⟩:=eQ hb h
  ·refine kV hb st hr (hK _ _ _ _ H (Y.app st) ?_);rw[fh hr];exact N
  ·refine wy hb st hr (hK _ _ _ _ H ?_ ?_)
   ·exact λt u b s ht=>Y.app st t u b s ht
   ·exact N.apply D.E (by omega) (za0 _)
theorem Kj (N:x≠i) (hx:x<ops.size) (hi:i<ops.size) (Y:bK ops.toList ops.size i x=false) (H:x<i\/bK ops.toList ops.size x i=false):lone ops x=false/\lone ops i=false:=by
 constructor
 ·cases h:lone ops x with
  |false=>rfl
  |true=>
   unfold lone at h;have:=zaf.1 h i (zaC.2 hi);rw[bS,zds (Ne.symm N)] at this;by_cases J:i<x
   ·rw[aB,zdp J] at this;rcases H with H|H
    ·omega
    ·simp[H] at this
   ·rw[aB,zds J] at this;simp[Y] at this
 ·cases h:lone ops i with
  |false=>rfl
  |true=>
   unfold lone at h;have:=zaf.1 h x (zaC.2 hx);rw[bS,zds N] at this;by_cases J:x<i
   ·rw[aB,zdp J] at this;simp[Y] at this
   ·rw[aB,zds J] at this;rcases H with H|H
    ·omega
    ·simp[H] at this
theorem jx (H:x≠i):dc h i e x=h x:=by
 unfold dc;rw[bS,zds H];rfl
theorem kW (hi:ops.toList[i]? =some o):i<ops.size:=by
 rcases zah i ops.size with h|h
 ·exact h
 ·rw[zad (by simpa using h)] at hi;cases hi
def Rel (ops:zdO) (pre:Nat->zdH) (x i:Nat):Prop:=x≠i/\x∈pre i/\i∉pre x/\(x<i\/bK ops.toList ops.size x i=false)
def NB (m:Bool) (KN:Value->zdS) (ops:zdO) (x i:Nat):Prop:=KN=noP\/(∀v A',KN v A'↔KN v (acO A'))/\dz ops x=false/\m=true/\Du ops x i=true/\acg ops x i=true
variable {y:Nat}
theorem GL (h:acg ops x y=true): ∃a b,ops.toList[x]? =some a/\ops.toList[y]? =some b/\Oper.apart ops a b=true:=by
 unfold acg at h;split at h
 ·rename_i a b h1 h2;exact⟨a,b,h1,h2,h⟩
 ·cases h
theorem NB.at (h:NB m KN ops x i) (J:ops.toList[x]? =some ox) (hi:ops.toList[i]? =some oi):KN=noP\/(∀v A',KN v A'↔KN v (acO A'))/\smallF ox=true/\m=true/\Du ops x i=true/\ox.apart ops oi=true:=by
 rcases h with h|⟨h1,h2,h3,h4,h5⟩
 ·exact .inl h
 ·refine .inr ⟨h1, ?_,h3,h4, ?_⟩
  ·unfold dz at h2;rw[J] at h2;simpa using h2
  ·obtain⟨a,b,H,e2,N⟩:=GL h5;rw[J] at H;rw[hi] at e2;obtain rfl:ox=a:=by simpa using H
   obtain rfl:oi=b:=by simpa using e2
   exact N
theorem iQ {m:Bool} {KN:Value->zdS} {Γ:zdP} {inl:Inl} (H:cF inl) {ops:zdO} {pre:Nat->zdH} {KP:Value->zdS} {K:zdS} {i:Nat} {oi:Oper} (hi:ops.toList[i]? =some oi) {v:zdH}: ∀(u:zdH) (A:AS) (h:Nat->Option Hst),OS A->NX A.bl A.nx->u.Nodup->
 (∀x∈u,Rel ops pre x i/\bK ops.toList ops.size i x=false/\h x=none/\NB m KN ops x i)->n5 P Γ inl ops pre m KN KP (u++i::v) A h K->n5 P Γ inl ops pre m KN KP (i::(u++v)) A h K
 | [],A,h,_,_,_,_,hm=>hm
 |x::u,A,h,g0,e0,n0,hu,hm=>by
  obtain⟨⟨a0,o0,i0,j0⟩,hb,h0,l0⟩:=hu x (by simp);simp only[zaO,n5] at hm;split at hm
  ·exact hm.elim
  ·rename_i ox N;have Y:=zd6.1 n0
   have J:=GD H g0 e0 hm (K':=λef rd wr A'=>ah (okM ops pre h x ef rd wr&&ckM m ops x ef) (n5 P Γ inl ops pre m KN KP (i::(u++v)) A' (dc h x ⟨ef,rd,wr,bif ef then A.nx else 0⟩) K)) (λef rd wr A' hk ho hn=>by
    obtain⟨k1,k2⟩:=Xg.1 hk;refine Xg.2 ⟨k1,iQ H hi u A' _ ho hn Y.2 (λy hy=> ?_) k2⟩;obtain⟨a1,a2,a3,a4⟩:=hu y (zan _ hy)
    exact⟨a1,a2,by rw[jx (λe=>Y.1 (by rw[<-e];exact hy))];exact a3,a4⟩)
   simp only[n5] at J ⊢;rw[hi] at J;obtain⟨l1,l2⟩:=Kj a0 (kW N) (kW hi) hb j0;simp only[zaO,n5,N,hi,l1,l2,zdq] at J ⊢;exact GC (R:=λA2 h2=>n5 P Γ inl ops pre m KN KP (u++v) A2 h2 K) H g0 e0 a0 o0 i0 N hi hb h0 (NB.at l0 N hi) J
variable {Kc:Bool->List Nat->List Nat->zdS}
theorem lL (hΓ:GamOK P W0 Γ) (e0:InlOK P W0 inl) 
 (h:opT P Γ inl ops A o KP Kc) (Y:Is W0 A β a w) 
 (hP: ∀v A' H w' β',KP v A'->Is W0 A' β' H w'->Trs A β A' β'->Q (pex v) H w')
 (hK: ∀ef rd wr A' H w' β',Kc ef rd wr A'->Is W0 A' β' H w'->Trs A β A' β'->KK H w'):
 if Region.wanted o (yielded ops a.tmps) then o.wpX P a w KK Q else KK (a.put o.dst undef) w:=by
 cases hb:eK P Γ inl ops A o with
 |none=>
  obtain⟨D,st,J⟩:=eQ hb h;refine mO hΓ Y.fr Y.bc (za0 _) (VV.2 ⟨D,st,rfl,rfl⟩) (λH w' β' r1 r2 r3 r4 r5 r6=> ?_);rcases J with ⟨hr,J⟩|⟨hr,J⟩
  ·refine hK _ _ _ _ H w' β' J ⟨r1,r2, ?_,Y.sd⟩ ⟨?_,λi hi=>hi,za0 _,rfl⟩
   ·rw[fh hr];exact Y.nx
   ·rw[VZ.2 hr] at r3;exact r3.mono λi hi=>by cases hi
  ·refine hK _ _ _ _ H w' β' J ⟨r1.frame _ _,r2,Y.nx.apply D.E (by omega) (za0 _),Y.sd⟩ ⟨?_,λi hi=>by simp[hi],by show A.nx<=A.nx+1;omega,rfl⟩;exact r3.mono λi hi=>by simp[hi]
 |some T=>
  rw[opT,hb] at h;exact Am e0 (ops:=ops) hb h Y (Q:=Q) (KK:=KK) (λv A' w' β' J N a0=>hP v A' a w' β' J N a0) (λwl A' H w' β' J N a0=>hK _ _ _ A' H w' β' J N a0)
theorem Kk (H:mJ ops=true): ∀i o,ops.toList[i]? =some o-> ∀e∈o.after.toList,Region.binds .any e=true->e.on<i:=by
 intro i o J e Y N;unfold mJ at H;simp only[zaf,zaC] at H;have hi:i<ops.size:=kW J;have:=H i hi;rw[J] at this;simp only[zaf,zav,zap,aB,zdt] at this;rcases this e Y with h|h
 ·rw[N] at h;cases h
 ·exact h
theorem MW: ∀(l:zdH),l≠ []-> ∃m∈l,∀x∈l,m<=x
 | [],h=>absurd rfl h
 | [a],_=>⟨a,by simp,by simp⟩
 |a::b::l,_=>by
  obtain⟨m,h1,h2⟩:=MW (b::l) (by simp);rcases Nat.le_total a m with h|h
  ·exact⟨a,by simp,λx H=>by
    rcases zai.1 H with rfl|H
    ·exact za0 _
    ·exact zac h (h2 x H)⟩
  ·exact⟨m,zan _ h1,λx H=>by
    rcases zai.1 H with rfl|H
    ·exact h
    ·exact h2 x H⟩
variable {listed:Array Bool}
theorem vj (J:mJ ops=true) {rem:zdH} (n0:listed.size=ops.size) (H: ∀x,x∈rem↔x<ops.size/\listed.getD x true=false) (hr:Region.ready .any ops listed= []):rem= []:=by
 cases g0:rem with
 |nil=>rfl
 |cons i0 r0=>
  exfalso;obtain⟨i,hi,a0⟩:=MW rem (by rw[g0];simp);have N:=(H i).1 hi;have ho: ∃o,ops[i]? =some o:=⟨ops[i],by simp[N.1]⟩;obtain⟨o,ho⟩:=ho;have:i∈Region.ready .any ops listed:=by
   refine mem_ready.2 ⟨N.2,o,ho,λe he hb=> ?_⟩;have l0:=Kk J i o (by simpa using ho) e (by simpa using he) hb;cases hl:listed.getD e.on false with
   |true=>rfl
   |false=>
    have e0:e.on<listed.size:=by omega
    have j0:listed.getD e.on true=false:=by
     rw[<-hl];simp[Array.getD,e0]
    have Y:=(H e.on).2 ⟨by omega,j0⟩;have:=a0 _ Y;omega
  rw[hr] at this;cases this
theorem la (a0:jY ops listed) (e0:ops.toList[i]? =some o) (H: ∀e∈o.after,Region.binds .any e=true->listed.getD e.on false=true) (i0:listed.size=ops.size) (hx:x<ops.size) (N:listed.getD x true=false):bK ops.toList ops.size i x=false:=by
 cases hb:bK ops.toList ops.size i x with
 |false=>rfl
 |true=>
  exfalso
  have hl:=mz a0 _ i x (by simp) (λo' J e he Y=>by
   rw[e0] at J;obtain rfl:o=o':=by simpa using J
   exact H e (by simpa using he) Y) hb
  have g0:x<listed.size:=by omega
  simp[Array.getD,g0] at N hl;rw[N] at hl;cases hl
variable {u:zdH}
theorem kX (q0:listed.size=ops.size) {v:zdH} (g0:ops.toList[i]? =some o) (l0:(u++i::v).Nodup)
 (i0: ∀x,x∈u++i::v↔x<ops.size/\listed.getD x true=false) (j0:jY ops listed) (H: ∀e∈o.after,Region.binds .any e=true->listed.getD e.on false=true):
 (∀x,x∈u++v↔x<ops.size/\(listed.setIfInBounds i true).getD x true=false)/\jY ops (listed.setIfInBounds i true)/\ ∀x∈u++v,x≠i:=by
 have o0:=kW g0;have hn:=zca.1 l0;have a0:i∉v:=(zd6.1 hn.2.1).1;have Y:i∉u:=λh=>hn.2.2 i h i (by simp) rfl;refine⟨λx=> ?_, ?_, ?_⟩
 ·have hm:=i0 x;simp only[za8,zai] at hm ⊢;by_cases N:x=i
  ·subst N;constructor
   ·rintro(h|h)
    ·exact absurd h Y
    ·exact absurd h a0
   ·rintro⟨_,h⟩;have n0:x<listed.size:=by omega
    simp[Array.getD,n0] at h
  ·rw[getD_set_ne true (Ne.symm N),<-hm];constructor
   ·rintro(h|h)
    ·exact .inl h
    ·exact .inr (.inr h)
   ·rintro(h|h|h)
    ·exact .inl h
    ·exact absurd h N
    ·exact .inr h
 ·intro j hj o' J e he hb;by_cases e0:j=i
  ·subst e0;rw[g0] at J;obtain rfl:o=o':=by simpa using J
   exact getD_set_true (H e (by simpa using he) hb)
  ·rw[getD_set_ne false (Ne.symm e0)] at hj;exact getD_set_true (j0 j hj o' J e he hb)
 ·intro x hx e;subst e;rcases za8.1 hx with h|h
  ·exact Y h
  ·exact a0 h
theorem sH {R:Nat->Nat->Prop} {v:zdH} (h:(u++i::v).Pairwise R):(∀x∈u,R x i)/\(u++v).Pairwise R:=by
 have hp:=zbJ.1 h;exact⟨λx H=>hp.2.2 x H i (by simp),zbJ.2 ⟨hp.1,(zcJ.1 hp.2.1).2,λx H y J=>hp.2.2 x H y (zan _ J)⟩⟩
def aiY (m:Bool) (KN:Value->zdS) (ops:zdO) (pre:Nat->zdH) (x y:Nat):Prop:=Rel ops pre x y/\(bK ops.toList ops.size y x=true\/NB m KN ops x y)
theorem acH {l:zdH} (h:l.Pairwise (Rel ops pre)):l.Pairwise (aiY m noP ops pre):=h.imp λh=>⟨h, .inr (.inl rfl)⟩
variable {A0:AS} {β0:zdI}
theorem pi (hΓ:GamOK P W0 Γ) (z0:InlOK P W0 inl) (u0:cF inl) (n0:mJ ops=true) {K:zdS} 
 (K0: ∀v A' N w' β',KN v A'->Is W0 A' β' N w'->Trs A0 β0 A' β'->Q (pex v) N w')
 (hP: ∀v A' N w' β',KP v A'->Is W0 A' β' N w'->Trs A0 β0 A' β'->Q (pex v) N w') (hQ: ∀A' N w' β',K A'->Is W0 A' β' N w'->Trs A0 β0 A' β'->Q .normal N w'):
 ∀(H:Nat) (listed:Array Bool) (rem:zdH) (A:AS) (a:Act) (w:World) (β:zdI) (h:Nat->Option Hst),listed.size=ops.size->rem.length<=H->rem.Pairwise (aiY m KN ops pre)->(∀x,x∈rem↔x<ops.size/\listed.getD x true=false)->jY ops listed->
  (∀x∈rem,h x=none)->n5 P Γ inl ops pre m KN KP rem A h K->Is W0 A β a w->Trs A0 β0 A β->aFo P .any ops Q H listed a w:=by
 intro H
 induction H with
 |zero=>
  intro listed rem A a w β h g0 j0 v0 J o0 hh hm Y a0;have E0:rem= []:=zcI.1 (by omega);subst E0;refine⟨?_,hQ A a w β hm Y a0⟩;apply zdf.2;intro i hi;obtain⟨x0,o,ho,_⟩:=mem_ready.1 hi;have q0:i<ops.size:=(zaq.1 ho).1;exact absurd ((J i).2 ⟨q0,x0⟩) (by simp)
 |succ H ih=>
  intro listed rem A a w β h g0 j0 v0 J o0 hh hm Y a0;refine⟨λhr=> ?_,λi hi=> ?_⟩
  ·obtain rfl:=vj n0 g0 J hr;exact hQ A a w β hm Y a0
  ·obtain⟨x0,o,ho,e0⟩:=mem_ready.1 hi;have q0:i<ops.size:=(zaq.1 ho).1;have i0:ops.toList[i]? =some o:=by simpa using ho
   have L0:i∈rem:=(J i).2 ⟨q0,x0⟩;obtain⟨u,v,rfl⟩:=zcg L0;obtain⟨l0,H0⟩:=sH v0;have C0:(u++i::v).Nodup:=v0.imp λh=>h.1.1;obtain⟨w0,y0,N0⟩:=kX g0 i0 C0 J o0 e0;have M0: ∀x∈u,Rel ops pre x i/\bK ops.toList ops.size i x=false/\h x=none/\NB m KN ops x i:=by
    intro x hx;have I0:=(J x).1 (by simp[hx]);have hb:=la o0 i0 e0 g0 I0.1 I0.2;refine⟨(l0 x hx).1,hb,hh x (by simp[hx]), ?_⟩;rcases(l0 x hx).2 with h|h
    ·rw[hb] at h;cases h
    ·exact h
   have B0:=iQ u0 i0 u A h Y.fr.toOS Y.nx (zca.1 C0).1 M0 hm;simp only[n5,i0] at B0
   have k:=lL hΓ z0 B0 Y (Q:=Q) (KK:=aFo P .any ops Q H (listed.setIfInBounds i true)) (λv A' N w' β' hk r1 r2=>by
    cases hl:lone ops i with
    |true=>rw[hl] at hk;exact hP v A' N w' β' hk r1 (a0.trans r2)
    |false=>rw[hl] at hk;exact K0 v A' N w' β' hk r1 (a0.trans r2)) (λef rd wr A' N w' β' hk r1 r2=>by
    obtain⟨_,hk⟩:=Xg.1 hk;refine ih (listed.setIfInBounds i true) (u++v) A' N w' β' _ (by simp[g0]) (by simp at j0 ⊢;omega) H0 w0 y0 ?_ hk r1 (a0.trans r2);intro x hx;rw[jx (N0 x hx)]
    exact hh x (by rcases za8.1 hx with h|h<;>simp[h]))
   unfold ayH;simp only[ho];by_cases hw:Region.wanted o (yielded ops a.tmps)=true
   ·rw[if_pos hw] at k ⊢;exact .inl k
   ·rw[if_neg hw] at k ⊢;exact k
theorem Kl (Y:eK P Γ inl ops A o=none) (h:opT P Γ inl ops A o KP K) (h':opT P Γ inl ops A o KP K'):
 opT P Γ inl ops A o noP λef rd wr A'=>K ef rd wr A'/\K' ef rd wr A':=by
 obtain⟨D,st,k⟩:=eQ Y h;obtain⟨D',a0,J⟩:=eQ Y h';obtain rfl:=st.det a0;rcases k with ⟨N,k⟩|⟨N,k⟩
 ·rcases J with ⟨_,J⟩|⟨H,_⟩
  ·exact kV Y st N ⟨k,J⟩
  ·exact absurd N H
 ·rcases J with ⟨H,_⟩|⟨_,J⟩
  ·exact absurd H N
  ·exact wy Y st N ⟨k,J⟩
variable {c:Nat}
theorem DZ (hΓ:GamOK P W0 Γ) (l0:InlOK P W0 inl) (j0:cF inl) {pre':Nat->zdH} (q0:mJ ops=true) {K:zdS} {d:Nat} (j1:c≠d)
 (n1: ∀i o,ops.toList[i]? =some o->i≠c->smallF o=true\/bK ops.toList ops.size i c=true\/bK ops.toList ops.size i d=true)
 (hP: ∀v A' a' w' β',KP v A'->Is W0 A' β' a' w'->Trs A0 β0 A' β'->Q (pex v) a' w') (hQ: ∀A' a' w' β',K A'->Is W0 A' β' a' w'->Trs A0 β0 A' β'->Q .normal a' w'):
 ∀(H:Nat) (listed:Array Bool) (rem Y:zdH) (A:AS) (a:Act) (w:World) (β:zdI) (h:Nat->Option Hst),listed.size=ops.size->rem.length<=H->Y.length<=H->c∈rem->d∈rem->
  rem.Pairwise (λx y=>x≠y/\(Rel ops pre x y\/x=c/\y=d))->Y.Pairwise (λx y=>x≠y/\(Rel ops pre' x y\/x=d/\y=c))->(∀x,x∈rem↔x<ops.size/\listed.getD x true=false)->(∀x,x∈Y↔x<ops.size/\listed.getD x true=false)->jY ops listed->
  (∀x∈rem,h x=none)->n5 P Γ inl ops pre false noP KP rem A h K->n5 P Γ inl ops pre' false noP KP Y A h K->Is W0 A β a w->Trs A0 β0 A β->aFo P .any ops Q H listed a w:=by
 intro H
 induction H with
 |zero=>
  intro listed rem Y A a w β h g0 z0 v0 hc hd P0 B0 N e0 u0 hh hm V0 n0 x0;have a1:rem= []:=zcI.1 (by omega);subst a1;cases hc
 |succ H ih=>
  intro listed rem Y A a w β h g0 z0 v0 hc hd P0 B0 N e0 u0 hh hm V0 n0 x0;refine⟨λhr=> ?_,λi hi=> ?_⟩
  ·obtain rfl:=vj q0 g0 N hr;cases hc
  ·obtain⟨c1,o,ho,J⟩:=mem_ready.1 hi;have U0:i<ops.size:=(zaq.1 ho).1;have a0:ops.toList[i]? =some o:=by simpa using ho
   have l1:i∈rem:=(N i).2 ⟨U0,c1⟩;have T0:i∈Y:=(e0 i).2 ⟨U0,c1⟩;have R0: ∀x∈Y,h x=none:=λx hx=>hh x ((N x).2 ((e0 x).1 hx));obtain⟨u,v,rfl⟩:=zcg l1;obtain⟨u',v',rfl⟩:=zcg T0;obtain⟨Y0,L0⟩:=sH P0;obtain⟨N0,C0⟩:=sH B0;have Z0:(u++i::v).Nodup:=P0.imp λh=>h.1;have I0:(u'++i::v').Nodup:=B0.imp λh=>h.1;obtain⟨E0,y0,O0⟩:=kX g0 a0 Z0 N u0 J;obtain⟨hrema',_,K0⟩:=kX g0 a0 I0 e0 u0 J;have b1:i≠d->n5 P Γ inl ops pre false noP KP (i::(u++v)) A h K:=λhid=>by
    refine iQ j0 a0 u A h n0.fr.toOS n0.nx (zca.1 Z0).1 (λx hx=> ?_) hm;have i0:=(N x).1 (by simp[hx]);refine⟨?_,la u0 a0 J g0 i0.1 i0.2,hh x (by simp[hx]), .inl rfl⟩;rcases(Y0 x hx).2 with r|⟨_,r⟩
    ·exact r
    ·exact absurd r hid
   have b2:i≠c->n5 P Γ inl ops pre' false noP KP (i::(u'++v')) A h K:=λhid=>by
    refine iQ j0 a0 u' A h n0.fr.toOS n0.nx (zca.1 I0).1 (λx hx=> ?_) V0;have i0:=(e0 x).1 (by simp[hx]);refine⟨?_,la u0 a0 J g0 i0.1 i0.2,R0 x (by simp[hx]), .inl rfl⟩;rcases(N0 x hx).2 with r|⟨_,r⟩
    ·exact r
    ·exact absurd r hid
   have e1:(if Region.wanted o (yielded ops a.tmps) then o.wpX P a w (aFo P .any ops Q H (listed.setIfInBounds i true)) Q else aFo P .any ops Q H (listed.setIfInBounds i true) (a.put o.dst undef) w)->ayH P ops Q i (aFo P .any ops Q H (listed.setIfInBounds i true)) a w:=λk=>by
    unfold ayH;simp only[ho];by_cases hw:Region.wanted o (yielded ops a.tmps)=true
    ·rw[if_pos hw] at k ⊢;exact .inl k
    ·rw[if_neg hw] at k ⊢;exact k
   refine e1 ?_;by_cases w0:i=c
   ·have o0:=b1 (by rw[w0];exact j1);simp only[n5,a0] at o0
    refine lL hΓ l0 o0 n0 (λv A' a' w' β' hk r1 r2=>by
     cases hl:lone ops i with
     |true=>rw[hl] at hk;exact hP v A' a' w' β' hk r1 (x0.trans r2)
     |false=>rw[hl] at hk;exact hk.elim) (λef rd wr A' a' w' β' hk r1 r2=> ?_)
    obtain⟨_,hk⟩:=Xg.1 hk;refine pi (m:=false) (KN:=noP) hΓ l0 j0 q0 (λ_ _ _ _ _ h=>h.elim) hP hQ H (listed.setIfInBounds i true) (u++v) A' a' w' β' _ (by simp[g0]) (by simp at z0 ⊢;omega) (acH<|L0.imp_of_mem λ{x y} hx hy h=> ?_) E0 y0 ?_ hk r1 (x0.trans r2)
    ·rcases h.2 with h|⟨h,_⟩
     ·exact h
     ·exact absurd (h.trans w0.symm) (O0 x hx)
    ·intro x hx;rw[jx (O0 x hx)];exact hh x (by rcases za8.1 hx with h|h<;>simp[h])
   by_cases hid:i=d
   ·have o0:=b2 w0;simp only[n5,a0] at o0
    refine lL hΓ l0 o0 n0 (λv A' a' w' β' hk r1 r2=>by
     cases hl:lone ops i with
     |true=>rw[hl] at hk;exact hP v A' a' w' β' hk r1 (x0.trans r2)
     |false=>rw[hl] at hk;exact hk.elim) (λef rd wr A' a' w' β' hk r1 r2=> ?_)
    obtain⟨_,hk⟩:=Xg.1 hk;refine pi (m:=false) (KN:=noP) hΓ l0 j0 q0 (λ_ _ _ _ _ h=>h.elim) hP hQ H (listed.setIfInBounds i true) (u'++v') A' a' w' β' _ (by simp[g0]) (by simp at v0 ⊢;omega) (acH<|C0.imp_of_mem λ{x y} hx hy h=> ?_) hrema' y0 ?_ hk r1 (x0.trans r2)
    ·rcases h.2 with h|⟨h,_⟩
     ·exact h
     ·exact absurd (h.trans hid.symm) (K0 x hx)
    ·intro x hx;rw[jx (K0 x hx)];exact R0 x (by rcases za8.1 hx with h|h<;>simp[h])
   have o0:=b1 hid;have H0:=b2 w0;simp only[n5,a0] at o0 H0;have hsmall:smallF o=true:=by
    rcases n1 i o a0 w0 with h|h|h
    ·exact h
    ·have i0:=(N c).1 hc;rw[la u0 a0 J g0 i0.1 i0.2] at h;cases h
    ·have i0:=(N d).1 hd;rw[la u0 a0 J g0 i0.1 i0.2] at h;cases h
   have Q0:=Kl (Ao hsmall) o0 H0;refine lL hΓ l0 Q0 n0 (λv A' a' w' β' hk r1 r2=>hk.elim) (λef rd wr A' a' w' β' hk r1 r2=> ?_);obtain⟨hk,M0⟩:=hk;obtain⟨_,hk⟩:=Xg.1 hk;obtain⟨_,M0⟩:=Xg.1 M0;have keep: ∀x,x∈u++i::v->x≠i->x∈u++v:=λx hx q1=>by
    rcases za8.1 hx with h|h
    ·exact zbI _ h
    ·rcases zai.1 h with h|h
     ·exact absurd h q1
     ·exact zb1 _ h
   refine ih (listed.setIfInBounds i true) (u++v) (u'++v') A' a' w' β' _ (by simp[g0]) (by simp at z0 ⊢;omega) (by simp at v0 ⊢;omega) (keep c hc (Ne.symm w0)) (keep d hd (Ne.symm hid)) L0 C0 E0 hrema' y0 ?_ hk M0 r1 (x0.trans r2);intro x hx;rw[jx (O0 x hx)];exact hh x (by rcases za8.1 hx with h|h<;>simp[h])
theorem Ch {r:Nat->zdQ} {R:Nat->Nat->Prop} (H: ∀x y,r x y=true->R x y): ∀{l:zdH},pwB r l=true->l.Pairwise R
 | [],_=>List.Pairwise.nil
 |x::l,h=>by
  simp only[pwB,za2,zaf] at h;exact zcJ.2 ⟨λy J=>H x y (h.1 y J),Ch H h.2⟩
variable {L:zdH}
theorem Wo:Gl x L=true↔x∈L:=by
 unfold Gl;simp only[zaP,bS,zdt];exact⟨λ⟨y,H,e⟩=>e▸H,λh=>⟨x,h,rfl⟩⟩
variable {p q:Nat}
theorem D0 (h:Nz ops pre p q x y=true):x≠y/\(Rel ops pre x y\/x=p/\y=q):=by
 unfold Nz at h;simp only[za2,zav,zap,bS,zdt,zdy,aB,Wo] at h;obtain⟨⟨⟨h1,h2⟩,h3⟩,h4⟩:=h;refine⟨h4, ?_⟩;rcases h1 with h1|h1
 ·exact .inl ⟨h4,h1,λh=>(by rw[Wo.2 h] at h2;cases h2),h3⟩
 ·exact .inr h1
theorem yn (h:okP ops L p q=true):L.Pairwise (λx y=>x≠y/\(Rel ops (Kb L p q) x y\/x=p/\y=q))/\(∀x,x∈L↔x<ops.size)/\L.length<=ops.size:=by
 unfold okP at h;simp only[za2,zaf,zaC,aB,zdt,Wo] at h;exact⟨Ch (λ_ _=>D0) h.1.1.1,λx=>⟨λH=>h.1.1.2 x H,λH=>h.1.2 x H⟩,zak h.2⟩
theorem Ap {d:Nat} (h:Gk ops=some (c,d)):c<ops.size/\d<ops.size/\c≠d/\ ∀i o,ops.toList[i]? =some o->i≠c->smallF o=true\/bK ops.toList ops.size i c=true\/bK ops.toList ops.size i d=true:=by
 unfold Gk at h;split at h
 ·rename_i N d' hp;have hm:(N,d')∈Gj ops:=by rw[hp];simp
  cases H:(List.range ops.size).all (λi=>Nat.beq i N|| !dz ops i||bK ops.toList ops.size i N||bK ops.toList ops.size i d') with
  |false=>rw[H] at h;cases h
  |true=>
   rw[H] at h;simp only[zdr,za1,zag] at h;obtain⟨rfl,rfl⟩:=h;unfold Gj at hm;obtain⟨c2,h1,h2⟩:=List.mem_flatMap.1 hm;cases J:dz ops c2 with
   |false=>rw[J] at h2;cases h2
   |true=>
    rw[J] at h2;simp only[zdr] at h2;obtain⟨a,h3,h4⟩:=zaz.1 h2;simp only[zag] at h4;obtain⟨rfl,rfl⟩:=h4;obtain⟨h5,h6⟩:=List.mem_filter.1 h3;simp only[za2,zap,bS,zdy] at h6;refine⟨zaC.1 h1,zaC.1 h5,λe=>h6.1.1.1 e.symm,λi o ho Y=> ?_⟩;have:=zaf.1 H i (zaC.2 (kW ho));simp only[bS,zds Y,zbi,zav] at this;rcases this with (h|h)|h
    ·left;unfold dz at h;rw[ho] at h;simpa using h
    ·exact .inr (.inl h)
    ·exact .inr (.inr h)
 ·cases h
structure FreeS (A:AS) (d:Nat):Prop where
 dead:A.tm d= .dead
 key: ∀t u b s,A.tm t= .opt u b s->u≠d
theorem ee (a:Act) (d:Option Nat) (v:Value) (h:d≠some t):(a.put d v).tmps.getD t undef=a.tmps.getD t undef:=by
 cases d with
 |none=>rfl
 |some d=>
  have H:d≠t:=λe=>h (by rw[e]);simp[Act.put,zdb H]
theorem FR.putFree (J:FR β A a) {d:Nat} (h:FreeS A d) (v:Value):FR β A (a.put (some d) v):=by
 refine⟨J.defers,by simp only[Act.put,zde];exact J.size,λt s H=> ?_,λt u b s H=> ?_,J.os⟩
 ·rw[ee a (some d) v (λe=>by cases e;rw[h.dead] at H;cases H)];exact J.v t s H
 ·have N:t≠d:=λe=>by rw[e,h.dead] at H;cases H
  have Y:u≠d:=h.key t u b s H;rw[ee a (some d) v (t:=t) (λe=>N (zbj e).symm),ee a (some d) v (t:=u) (λe=>Y (zbj e).symm)];exact J.opt t u b s H
theorem FreeS.app (st:Stp P Γ ops id o A D) {d:Nat} (h:FreeS A d) (hd:o.dst≠some d) (hl:d∉o.looksAt ops):FreeS (app D id A) d:=by
 have e:(Go.Sy.app D id A).tm=dI D.d D.tv A.tm:=rfl;have Y:D.d≠some d:=by rw[st.d];exact hd
 refine⟨by rw[e,lJ Y];exact h.dead,λt u b s J=> ?_⟩;rw[e] at J;by_cases N:D.d=some t
 ·rw[N,di] at J;have H:=st.src;unfold Src at H;split at H
  ·rw[H.2.1] at J;simp at J
  ·obtain⟨k,g,_,h2,_,_,_,_,_,h1⟩:=H;rw[h1] at J;simp at J;rw[<-J.1];exact λe=>hl (by rw[<-e];exact DT st.src h2)
 ·rw[lJ N] at J;exact h.key t u b s J
theorem ags (e0:cF inl) (g0:NX A.bl A.nx) (h:opT P Γ inl ops A o KP K)
 {F:Nat->Prop} (hF: ∀d,F d->FreeS A d/\o.dst≠some d/\d∉o.looksAt ops):opT P Γ inl ops A o KP λef rd wr A'=>K ef rd wr A'/\ ∀d,F d->FreeS A' d:=by
 cases Y:eK P Γ inl ops A o with
 |some T=>
  rw[opT,Y] at h ⊢;refine(fF e0 g0 Y).mono h λr b n w io J=> ?_;cases r with
  |pan v=>exact J
  |ok r=>
  simp only[uR] at J ⊢;split at J
  ·rename_i A' hp;obtain⟨rfl,i0⟩:=Wa.1 hp;refine⟨J,λd H=> ?_⟩;obtain⟨h1,h2,h3⟩:=hF d H;refine⟨?_,λt u b' s ht=> ?_⟩
   ·show dI o.dst (.v r) A.tm d= .dead;rw[lJ h2];exact h1.dead
   ·have N:dI o.dst (.v r) A.tm t= .opt u b' s:=ht;by_cases a0:o.dst=some t
    ·rw[a0,di] at N;simp at N
    ·rw[lJ a0] at N;exact h1.key t u b' s N
  ·exact J.elim
 |none=>
  obtain⟨D,st,⟨hr,J⟩|⟨hr,J⟩⟩:=eQ Y h
  ·exact kV Y st hr ⟨J,λd H=>(hF d H).1.app st (hF d H).2.1 (hF d H).2.2⟩
  ·refine wy Y st hr ⟨J,λd H=> ?_⟩;have:=(hF d H).1.app st (hF d H).2.1 (hF d H).2.2;exact⟨this.dead,this.key⟩
theorem agt {K:Act->World->Prop} (h:o.wpX P a w K Q):o.wpX P a w (λY w'=>K Y w'/\ ∀t,o.dst≠some t->Y.tmps.getD t undef=a.tmps.getD t undef) Q:=by
 unfold Oper.wpX at*
 generalize (execOp a.eval o).run P w=r at*
 cases r with
 |ok n w'=>
  cases n<;>simp only[Oper.uponX] at h ⊢ <;>
   first
    |exact⟨h,λt H=>ee _ _ _ H⟩
    |exact⟨h,λt H=>ee {a with defers:=_::a.defers} _ _ H⟩
    |exact Calls.mono h (λe N J=>by cases e<;>first|exact⟨J,λt H=>ee _ _ _ H⟩|exact J)
    |exact Rows.mono h (λ_ _ J=>⟨J,λt H=>ee _ _ _ H⟩)
    |exact RoundIn.mono h (λe N J=>by cases e<;>first|exact⟨J,λt H=>ee _ _ _ H⟩|exact J)
 |halt x w'=>cases x<;>simp only[Oper.uponX] at h ⊢ <;>exact h
def aht (ops:zdO) (pre:Nat->zdH) (M C:zdH) (x y:Nat):Prop:=x≠y/\(y∈M/\x∈C\/Rel ops pre x y)
structure LateOK (P:Program) (ops:Array Oper) (M C:List Nat):Prop where
 use: ∀i o,i∉M->ops.toList[i]? =some o->(∀c∈C,bK ops.toList ops.size i c=true)\/(∀m∈M,bK ops.toList ops.size i m=false/\ ∃om,ops.toList[m]? =some om/\Oper.apart ops om o=true)
 made: ∀m∈M,∃o t d cs,ops.toList[m]? =some o/\o.guard=none/\o.op= .alloc t/\o.dst=some d/\xX P t=some cs
 free: ∀m∈M,∀m'∈M,bK ops.toList ops.size m m'=false
 two: ∀m∈M,∀m'∈M,m≠m'-> ∀o o',ops.toList[m]? =some o->ops.toList[m']? =some o'->o.dst≠o'.dst
 cm: ∀m∈M,m∈C
structure Pend (P:Program) (ops:Array Oper) (a:Act) (w:World) (m b:Nat):Prop where
 made: ∃o t d cs,ops.toList[m]? =some o/\o.guard=none/\o.op= .alloc t/\o.dst=some d/\xX P t=some cs/\w.heap[b]? =some (.cells (SV.concs oj cs).toArray t (0,0))/\a.tmps.getD d undef= .pointer (some ⟨b,0,none⟩)
theorem adX (β β':zdI) {cs:zdJ} (h: ∀s∈cs,s.ids= []):SV.concs β cs=SV.concs β' cs:=
 SV.concs_congr cs λi hi=>by
  obtain⟨s,H,hi⟩:=SV.mem_idss.1 hi;rw[h s H] at hi;cases hi
theorem agu {m b:Nat} (ho:ops.toList[m]? =some o)
 (h:opT P Γ inl ops A o KP Kc) (hs:Is W0 A β a w) (hp:Pend P ops a w m b) (hm:W0.mine b) (e0: ∀i C,A.bl i=some C->C.kd= .own->(β i).nil=false->(β i).blk≠b):
 ∃ef rd wr A' β',Kc ef rd wr A'/\Is W0 A' β' a w/\Trs A β A' β'/\(∀i C,A'.bl i=some C->A.bl i≠some C->(β' i).blk=b)/\(∀i,A.bl i≠none->β' i=β i):=by
 obtain⟨⟨o',t,d,cs,h1,hg,hop,J,hz,hw,q0⟩⟩:=hp;rw[ho] at h1;simp only[za1] at h1;subst h1;have hb:eK P Γ inl ops A o=none:=Ao (by unfold smallF;rw[hop]);obtain⟨D,st,k⟩:=eQ hb h;obtain⟨v,hv,hc,hi⟩:=aIC (P:=P) (β:=β) w hz;have hid:=st.fresh;have hE:D.E={out:= .ptr A.nx 0 0,nw:=some {n:=1,sz:=cs.length,get:=λ_=>cs,kd:= .own}}/\D.tv= .v (.ptr A.nx 0 0)/\D.key=none:=by
  have H:=st.src;unfold Src at H;rw[hg] at H;simp only[] at H;obtain⟨q1,q2,q3,q4⟩:=H;rw[hop] at q4;simp only[eff,hz,za1] at q4;exact⟨q4.symm,by rw[q2,<-q4],q1⟩
 obtain⟨e1,e2,e3⟩:=hE;have Y:(app D A.nx A).bl=upd A.bl A.nx {n:=1,sz:=cs.length,get:=λ_=>cs,kd:= .own}:=by
  show VO A.bl A.nx D.E=_;rw[e1];rfl
 have a0:=st.put d J;rcases k with ⟨hr,k⟩|⟨hr,k⟩
 ·have i0:=hr.2;rw[e1] at i0;cases i0
 have j0:=hs.bc.late (id:=A.nx) hid (b:=b) (ty:=t) (cs:=cs) (by rw[adX β oj hi];exact hw) hi hm e0;refine⟨_,_,_,_,gp β A.nx ⟨b,0,cs.length,1,false⟩,k,⟨?_,by show BC W0 (app D A.nx A).bl _ w;rw[Y];exact j0, ?_,hs.sd⟩, ?_, ?_, ?_⟩
 ·have tr:=gN hid (za0 A.nx) D.E (β:=β) (β':=gp β A.nx ⟨b,0,cs.length,1,false⟩) (λi hi=>aC λe=>hi (e▸hid));have l0:FR (gp β A.nx ⟨b,0,cs.length,1,false⟩) {A with bl:=VO A.bl A.nx D.E} a:=hs.fr.carry tr
  have key:=FR.putD (d:=o.dst) (s:= .ptr A.nx 0 0) (A':={A with bl:=VO A.bl A.nx D.E,tm:=dI o.dst (.v (.ptr A.nx 0 0)) A.tm}) l0 (λi hi=>by
   simp only[SV.ids,zaj] at hi;subst hi;show VO A.bl A.nx D.E A.nx≠none;have:VO A.bl A.nx D.E=(app D A.nx A).bl:=rfl
   rw[this,Y,az];simp) (Wa.2 ⟨rfl,λx hx=>by
    rw[J] at hx;cases hx;exact⟨a0.1,a0.2.1⟩⟩)
  have g0:a.put o.dst ((SV.ptr A.nx 0 0).conc (gp β A.nx ⟨b,0,cs.length,1,false⟩))=a:=by
   rw[J];have u0:d<a.tmps.size:=by rw[hs.fr.size];exact a0.1
   have:(SV.ptr A.nx 0 0).conc (gp β A.nx ⟨b,0,cs.length,1,false⟩)=a.tmps.getD d undef:=by
    rw[q0];simp[SV.conc,addr,aA]
   rw[this];simp only[Act.put];have:a.tmps.setIfInBounds d (a.tmps.getD d undef)=a.tmps:=by
    apply Array.ext
    ·simp
    ·intro j h1 h2;rw[Array.getElem_setIfInBounds]
     ·split
      ·rename_i e;subst e;simp[Array.getD,h2]
      ·rfl
   rw[this]
  rw[g0] at key;have n0:app D A.nx A={A with bl:=VO A.bl A.nx D.E,tm:=dI o.dst (.v (.ptr A.nx 0 0)) A.tm}:=by
   unfold Go.Sy.app;rw[e2,e3,st.d];simp[fD]
  have:FR (gp β A.nx ⟨b,0,cs.length,1,false⟩) (app D A.nx A) a:=by rw[n0];exact key.1
  exact this.frame _ _
 ·exact hs.nx.apply D.E (by omega) (za0 _)
 ·refine⟨?_,λi hi=>by simp[hi],by show A.nx<=A.nx+1;omega,rfl⟩;exact(gN hid (za0 A.nx) D.E (β:=β) (β':=gp β A.nx ⟨b,0,cs.length,1,false⟩) (λi hi=>aC λe=>hi (e▸hid))).mono λi hi=>by simp[aV,hi]
 ·intro i C hC o0;have N:(app D A.nx A).bl i=some C:=hC;rw[Y] at N;by_cases hi:i=A.nx
  ·subst hi;rw[aA]
  ·rw[ak hi] at N;exact absurd N o0
 ·intro i hi;exact aC λe=>hi (e▸hid)
theorem Is.up {B:Base} (h:Is B A β a w) (H:SubB B W0) (Y: ∀b,B.out b->W0.out b) (J:B.sd=W0.sd):Is W0 A β a w:=
 ⟨h.fr,h.bc.rebase (H.pres h.bc.below) (λ_ _ _ _ _ N=>H.mine N) (λ_ _ _ _ _ h=>Y _ h),h.nx,h.sd.trans J⟩
theorem az7 {p:Nat->Prop}: ∀{l:zdH},(∃x∈l,p x)-> ∃u m v,l=u++m::v/\p m/\ ∀x∈u,¬p x
 | [],h=>by obtain⟨x,H,_⟩:=h;cases H
 |y::l,h=>by
  by_cases N:p y
  ·exact⟨[],y,l,rfl,N,λx H=>by cases H⟩
  ·obtain⟨x,H,J⟩:=h;rcases zai.1 H with rfl|H
   ·exact absurd J N
   ·obtain⟨u,m,v,e,h1,h2⟩:=az7 ⟨x,H,J⟩;refine⟨y::u,m,v,by rw[e];rfl,h1,λz Y=> ?_⟩;rcases zai.1 Y with rfl|Y
    ·exact N
    ·exact h2 z Y
def aED (ops:zdO) (pre:Nat->zdH) (S:zdH) (x y:Nat):Prop:=x≠y/\((x∈S/\y∈S)\/Rel ops pre x y)
theorem ab7 {Γ:zdP} {inl:Inl} (i0:cF inl) {ops:zdO} {pre:Nat->zdH} {KP:Value->zdS} {K:zdS} {a:Act} {w:World} {A0:AS} {β0:zdI}:
 ∀(n:Nat) (pend:List (Nat×Nat)) (rem:zdH) (A:AS) (β:zdI) (h:Nat->Option Hst),pend.length=n->(pend.map (·.1)).Nodup->(pend.map (·.2)).Nodup->
  (∀p∈pend,p.1∈rem/\Pend P ops a w p.1 p.2/\W0.mine p.2/\(∀x∈rem,bK ops.toList ops.size p.1 x=false)/\ ∀i C,A.bl i=some C->C.kd= .own->(β i).nil=false->(β i).blk≠p.2)->
  rem.Pairwise (aED ops pre (pend.map (·.1)))->(∀x∈rem,h x=none)->n5 P Γ inl ops pre false noP KP rem A h K->Is W0 A β a w->Trs A0 β0 A β->
  ∃H A' β' h',n5 P Γ inl ops pre false noP KP H A' h' K/\Is W0 A' β' a w/\Trs A0 β0 A' β'/\H.Pairwise (Rel ops pre)/\(∀x∈H,h' x=none)/\(∀x,x∈H↔x∈rem/\x∉pend.map (·.1))/\H.length+pend.length=rem.length
 |0,pend,rem,A,β,h,hl,_,_,_,b1,hh,hm,a0,w0=>by
  have e:pend= []:=zau hl;subst e;exact⟨rem,A,β,h,hm,a0,w0,b1.imp λq=>q.2.resolve_left (λz=>by simp at z),hh,λx=>by simp,by simp⟩
 |n+1,l0,O0,A,β,h,u0,H0,L0,Y,j0,q0,y0,a0,w0=>by
  have Q0: ∃x∈O0,x∈l0.map (·.1):=by
   match l0,u0,Y with
   |q::r,_,Y=>exact⟨q.1,(Y q (by simp)).1,by simp⟩
  obtain⟨u,m,v,rfl,pm,hu⟩:=az7 Q0;obtain⟨⟨m',b⟩,T0,rfl⟩:=zaz.1 pm;obtain⟨s,t,rfl⟩:=zcg T0;have J:(s++(m',b)::t).Perm ((m',b)::(s++t)):=List.perm_middle;have C0:=(J.map (·.1)).nodup_iff.1 H0;have I0:=(J.map (·.2)).nodup_iff.1 L0;have o0: ∀p,p∈s++(m',b)::t↔p=(m',b)\/p∈s++t:=λp=>(J.mem_iff).trans zai;have e0: ∀x,x∈(s++(m',b)::t).map (·.1)↔x=m'\/x∈(s++t).map (·.1):=λx=>((J.map (·.1)).mem_iff).trans (by rw[zaK,zai]);simp only[zaK] at C0 I0;dsimp only at pm hu Y j0 q0 y0 ⊢;have x0:(s++t).length=n:=by
   simp only[za3,za4] at u0 ⊢;omega
  generalize hS:(s++(m',b)::t).map (·.1)=S at*
  obtain⟨p1,p2,p3,p4,p5⟩:=Y (m',b) ((o0 _).2 (.inl rfl));obtain⟨R0,E0⟩:=zd6.1 C0;obtain⟨P0,K0⟩:=zd6.1 I0;obtain⟨B0,N0⟩:=sH j0;have Y0:(u++m'::v).Nodup:=j0.imp λh=>h.1;have g0:=zca.1 Y0;have V0:m'∉v:=(zd6.1 g0.2.1).1;have U0:m'∉u:=λh=>g0.2.2 m' h m' (by simp) rfl;have n0: ∀x∈u++v,x≠m':=λx N e=>by
   subst e;rcases za8.1 N with h|h
   ·exact U0 h
   ·exact V0 h
  obtain⟨o,t',d,cs,ho,_⟩:=p2.made;have z0:=iQ i0 ho u A h a0.fr.toOS a0.nx g0.1 (λx N=>⟨(B0 x N).2.resolve_left (λz=>hu x N z.1),p4 x (by simp[N]),q0 x (by simp[N]), .inl rfl⟩) y0;simp only[n5,ho] at z0;obtain⟨ef,rd,wr,A',β',k1,k2,k3,k4,k5⟩:=agu ho z0 a0 p2 p3 p5;obtain⟨_,k1⟩:=Xg.1 k1;have mem: ∀x,x∈u++v↔x∈u++m'::v/\x≠m':=λx=>by
   constructor
   ·intro N;refine⟨?_,n0 x N⟩;rcases za8.1 N with h|h
    ·exact zbI _ h
    ·exact zb1 _ (zan _ h)
   ·rintro⟨N,c1⟩;rcases za8.1 N with h|h
    ·exact zbI _ h
    ·rcases zai.1 h with h|h
     ·exact absurd h c1
     ·exact zb1 _ h
  obtain⟨H,A2,e1,h2,r1,r2,r3,r4,r5,r6,r7⟩:=ab7 i0 n (s++t) (u++v) A' β' _ x0 E0 K0 (λp v0=>by
   obtain⟨q1,q2,q3,q4,q5⟩:=Y p ((o0 _).2 (.inr v0));have a1:p.1≠m':=λe=>R0 (by rw[<-e];exact List.mem_map_of_mem v0);have Z0:p.2≠b:=λe=>P0 (by rw[<-e];exact List.mem_map_of_mem v0);refine⟨(mem p.1).2 ⟨q1,a1⟩,q2,q3,λx N=>q4 x ((mem x).1 N).1,λi C hC hk M0=> ?_⟩;by_cases hA:A.bl i=some C
   ·rw[k5 i (by rw[hA];simp)] at M0 ⊢;exact q5 i C hA hk M0
   ·rw[k4 i C hC hA];exact Ne.symm Z0) (N0.imp_of_mem λ{x y} N hy q=>⟨q.1,q.2.imp (λz=>⟨((e0 x).1 z.1).resolve_left (n0 x N),((e0 y).1 z.2).resolve_left (n0 y hy)⟩) id⟩) (λx N=>by
   rw[jx (n0 x N)]
   exact q0 x ((mem x).1 N).1) k1 k2 (w0.trans k3)
  refine⟨H,A2,e1,h2,r1,r2,r3,r4,r5,λx=> ?_, ?_⟩
  ·rw[r6,mem,e0];simp only[not_or];exact⟨λ⟨⟨h1,h2⟩,h3⟩=>⟨h1,h2,h3⟩,λ⟨h1,h2,h3⟩=>⟨⟨h1,h2⟩,h3⟩⟩
  ·simp only[za3,za4] at r7 u0 ⊢;omega
theorem adY (a0:ops.toList[i]? =some o) (Y:jY ops listed) (H: ∀e∈o.after,Region.binds .any e=true->listed.getD e.on false=true):jY ops (listed.setIfInBounds i true):=by
 intro j hj o' J e he hb;by_cases N:j=i
 ·subst N;rw[a0] at J;obtain rfl:o=o':=by simpa using J
  exact getD_set_true (H e (by simpa using he) hb)
 ·rw[getD_set_ne false (Ne.symm N)] at hj;exact getD_set_true (Y j hj o' J e he hb)
theorem ae4: ∀{l r:zdH},l.Nodup->(∀x∈l,x∈r)->l.length<=r.length
 | [],r,_,_=>zaA _
 |x::l,r,N,H=>by
  obtain⟨h1,h2⟩:=zd6.1 N;have h3:=ae4 (l:=l) (r:=r.erase x) h2 λy J=>(List.mem_erase_of_ne (λe=>h1 (by rw[<-e];exact J))).2 (H y (zan _ J));have h4:=List.length_erase_of_mem (H x (by simp));have h5:=List.length_pos_of_mem (H x (by simp));simp only[za4];omega
def uW (B:Base) (w:World) (ob:Obj):Base where
 w:=w.alloc ob
 S:=λk=>(Nat.ble B.w.heap.size k||B.S k)&&Nat.blt k w.heap.size&& !B.F k
 sd:=B.sd
 F:=λk=>(B.F k&&Nat.blt k w.heap.size)||Nat.beq k w.heap.size
 hF:=λb J=>by
  have H:(w.alloc ob).heap.size=w.heap.size+1:=by simp[World.alloc_eq]
  simp only[zav,za2,aB,bS,zdt] at J;rw[H];refine⟨by omega, ?_⟩;rcases J with ⟨h1,_⟩|h1
  ·simp[h1]
  ·subst h1;rw[aB,zds (by omega)];simp
variable {M C:zdH}
theorem aew (hΓ:GamOK P W0 Γ) (U0: ∀B,SubB B W0->InlOK P B inl) (u0:cF inl) (H0:mJ ops=true) (L:LateOK P ops M C) {K:zdS} 
 (p2: ∀m∈M,∀o d,ops.toList[m]? =some o->o.dst=some d->d<A0.nt)
 (hP: ∀v A' a' w' β',KP v A'->Is W0 A' β' a' w'->Trs A0 β0 A' β'->Q (pex v) a' w') (hQ: ∀A' a' w' β',K A'->Is W0 A' β' a' w'->Trs A0 β0 A' β'->Q .normal a' w'):
 ∀(Y:Nat) (listed:Array Bool) (rem:zdH) (pend:List (Nat×Nat)) (B:Base) (A:AS) (a:Act) (w:World) (β:zdI) (h:Nat->Option Hst),listed.size=ops.size->rem.length<=Y+pend.length->rem.Pairwise (aht ops pre M C)->
  (∀x,x∈rem↔x<ops.size/\(listed.getD x true=false\/x∈pend.map (·.1)))->jY ops listed->(∀x∈rem,h x=none)->(pend.map (·.1)).Nodup->(pend.map (·.2)).Nodup->
  (∀p∈pend,p.1∈M/\p.1<ops.size/\listed.getD p.1 true=true/\Pend P ops a w p.1 p.2/\W0.mine p.2/\B.F p.2=true)->SubB B W0->(∀b,B.out b->W0.out b)->B.sd=W0.sd->
  (∀d,(∃m o,m∈M/\m∈rem/\ops.toList[m]? =some o/\o.dst=some d)->FreeS A d)->
  n5 P Γ inl ops pre false noP KP rem A h K->Is B A β a w->Trs A0 β0 A β->aFo P .any ops Q Y listed a w:=by
 intro Y;have done: ∀(Y:Nat) (listed:Array Bool) (rem:zdH) (pend:List (Nat×Nat)) (B:Base) (A:AS) (a:Act) (w:World) (β:zdI) (h:Nat->Option Hst),listed.size=ops.size->rem.length<=Y+pend.length->rem.Pairwise (aht ops pre M C)->
  (∀x,x∈rem↔x<ops.size/\(listed.getD x true=false\/x∈pend.map (·.1)))->jY ops listed->(∀x∈rem,h x=none)->(pend.map (·.1)).Nodup->(pend.map (·.2)).Nodup->
  (∀p∈pend,p.1∈M/\p.1<ops.size/\listed.getD p.1 true=true/\Pend P ops a w p.1 p.2/\W0.mine p.2/\B.F p.2=true)->SubB B W0->(∀b,B.out b->W0.out b)->B.sd=W0.sd->
  n5 P Γ inl ops pre false noP KP rem A h K->Is B A β a w->Trs A0 β0 A β->(¬ ∃c∈C,c<ops.size/\listed.getD c true=false)->aFo P .any ops Q Y listed a w:=by
  intro Y listed rem pend B A a w β h l0 o0 y0 H n0 hh x0 C0 hp a0 g0 i0 hm N v0 n2;have F1: ∀x∈rem,x∈C->x∈pend.map (·.1):=λx hx hc=>by
   obtain⟨h1,h2|h2⟩:=(H x).1 hx
   ·exact absurd ⟨x,hc,h1,h2⟩ n2
   ·exact h2
  have M0:rem.Pairwise (aED ops pre (pend.map (·.1))):=y0.imp_of_mem λ{x y} hx hy h=>by
   refine⟨h.1, ?_⟩;rcases h.2 with ⟨z2,hc⟩|h
   ·exact .inl ⟨F1 x hx hc,F1 y hy (L.cm y z2)⟩
   ·exact .inr h
  obtain⟨K1,A',β',h',r1,r2,r3,r4,r5,r6,r7⟩:=ab7 (W0:=W0) u0 pend.length pend rem A β h rfl x0 C0 (λp J=>by
   obtain⟨q1,q2,q3,q4,q5,q6⟩:=hp p J;refine⟨(H p.1).2 ⟨q2, .inr (List.mem_map_of_mem J)⟩,q4,q5,λx hx=> ?_,λi X hX hk m2 e=> ?_⟩
   ·rcases((H x).1 hx).2 with hu|e0
    ·cases hb:bK ops.toList ops.size p.1 x with
     |false=>rfl
     |true=>
      exfalso;have A2:=((H x).1 hx).1;have v2:p.1<listed.size:=by omega
      have u2:listed.getD p.1 false=true:=by simp[Array.getD,v2] at q3 ⊢;exact q3
      have hl:=mz n0 _ p.1 x (by simp) (λo' Q0 e he R1=>n0 p.1 u2 o' (by simpa using Q0) e he R1) hb;have y2:x<listed.size:=by omega
      simp[Array.getD,y2] at hu hl;rw[hu] at hl;cases hl
    ·obtain⟨p',C1,e⟩:=zaz.1 e0;rw[<-e];exact L.free p.1 q1 p'.1 (hp p' C1).1
   ·have h1:=N.bc.own i X hX hk m2;rw[e] at h1;obtain⟨f1,f2⟩:=B.hF p.2 q6;rcases h1 with h1|h1
    ·omega
    ·rw[f2] at h1;cases h1) M0 hh hm (N.up a0 g0 i0) v0
  refine pi (m:=false) (KN:=noP) hΓ (U0 W0 (SubB.refl W0)) u0 H0 (λ_ _ _ _ _ h=>h.elim) hP hQ Y listed K1 A' a w β' h' l0 (by omega) (acH r4) (λx=> ?_) n0 r5 r1 r2 r3;rw[r6,H];constructor
  ·rintro⟨⟨h1,h2|h2⟩,h3⟩
   ·exact⟨h1,h2⟩
   ·exact absurd h2 h3
  ·rintro⟨h1,h2⟩;refine⟨⟨h1, .inl h2⟩,λe0=> ?_⟩;obtain⟨p,J,rfl⟩:=zaz.1 e0;rw[(hp p J).2.2.1] at h2;cases h2
 induction Y with
 |zero=>
  intro listed rem pend B A a w β h l0 o0 y0 H n0 hh x0 C0 hp a0 g0 i0 q0 hm N v0;by_cases hc: ∃c∈C,c<ops.size/\listed.getD c true=false
  ·exfalso;obtain⟨c,w1,T1,y1⟩:=hc;have c1:c∈rem:=(H c).2 ⟨T1, .inl y1⟩;have S1:c∉pend.map (·.1):=λe0=>by
    obtain⟨p,J,e⟩:=zaz.1 e0;have:=(hp p J).2.2.1;rw[e,y1] at this;cases this
   have h1:=ae4 (l:=c::pend.map (·.1)) (r:=rem) (zd6.2 ⟨S1,x0⟩) (λx hx=>by
    rcases zai.1 hx with rfl|hx
    ·exact c1
    ·obtain⟨p,J,rfl⟩:=zaz.1 hx
     exact(H p.1).2 ⟨(hp p J).2.1, .inr (List.mem_map_of_mem J)⟩)
   simp at h1 o0;omega
  ·exact done 0 listed rem pend B A a w β h l0 o0 y0 H n0 hh x0 C0 hp a0 g0 i0 hm N v0 hc
 |succ Y ih=>
  intro listed rem pend B A a w β h l0 o0 y0 H n0 hh x0 C0 hp a0 g0 i0 q0 hm N v0;by_cases hc: ∃c∈C,c<ops.size/\listed.getD c true=false
  case neg=>exact done (Y+1) listed rem pend B A a w β h l0 o0 y0 H n0 hh x0 C0 hp a0 g0 i0 hm N v0 hc
  obtain⟨c,w1,w0⟩:=hc;have c1:c∈rem:=(H c).2 ⟨w0.1, .inl w0.2⟩;refine⟨λhr=> ?_,λi hi=> ?_⟩
  ·exfalso
   have:=vj H0 l0 (rem:=rem.filter λx=> !listed.getD x true) (λx=>by
    rw[List.mem_filter,H];constructor
    ·rintro⟨⟨h1,_⟩,h2⟩;exact⟨h1,by simpa using h2⟩
    ·rintro⟨h1,h2⟩
     exact⟨⟨h1, .inl h2⟩,by simp[h2]⟩) hr
   have x1:c∈rem.filter λx=> !listed.getD x true:=List.mem_filter.2 ⟨c1,by simp[w0.2]⟩;rw[this] at x1;cases x1
  ·obtain⟨l1,o,ho,z0⟩:=mem_ready.1 hi;have O0:i<ops.size:=(zaq.1 ho).1;have j0:ops.toList[i]? =some o:=by simpa using ho
   have z1:i∈rem:=(H i).2 ⟨O0, .inl l1⟩;have P0:i∉pend.map (·.1):=λe0=>by
    obtain⟨p,J,e⟩:=zaz.1 e0;have:=(hp p J).2.2.1;rw[e,l1] at this;cases this
   have T0:=adY j0 n0 z0;have Z0:(listed.setIfInBounds i true).getD i true=true:=by simp[Array.getD,l0,O0]
   by_cases B0:i∈M
   ·obtain⟨o',t,d,cs,g1,g2,g3,g4,g5⟩:=L.made i B0;rw[j0] at g1;obtain rfl:o=o':=by simpa using g1
    unfold ayH;simp only[ho];rw[if_pos (by simp[Region.wanted,g2])];left;unfold Oper.wpX;obtain⟨k1,k2⟩:=adg (P:=P) (a:=a) (w:=w) g3 g5;rw[k1,Oper.uponX_value];have D1:(w.alloc (.cells (SV.concs oj cs).toArray t)).heap.size=w.heap.size+1:=by simp[World.alloc_eq]
    have O1:(w.alloc (.cells (SV.concs oj cs).toArray t)).heap[w.heap.size]? =some (.cells (SV.concs oj cs).toArray t (0,0)):=by show (w.heap.push _)[w.heap.size]? =_;simp
    have I0:Below w.heap.size w (w.alloc (.cells (SV.concs oj cs).toArray t)):=(zdC _ _).alloc (za0 _) _;have L1:B.w.heap.size<=w.heap.size:=N.bc.below.size;have N1:FreeS A d:=q0 d ⟨i,o,B0,z1,j0,g4⟩;have u1: ∀p∈pend,p.2<w.heap.size:=λp J=>by
     obtain⟨_,_,_,_,_,_,_,_,_,q,_⟩:=(hp p J).2.2.2.1.made;exact(zaq.1 q).1
    have H1: ∀j X,A.bl j=some X->X.kd≠ .gone->(β j).nil=false->(β j).blk<w.heap.size:=λj X hX hk hn=>(N.bc.blk j X hX hk).lt hn;refine ih (listed.setIfInBounds i true) rem ((i,w.heap.size)::pend) (uW B w (.cells (SV.concs oj cs).toArray t)) A _ _ β h (by simp[l0]) (by simp;omega) y0 (λx=> ?_) T0 hh (by simp only[zaK];exact zd6.2 ⟨P0,x0⟩)
     (by
       simp only[zaK];refine zd6.2 ⟨λe0=> ?_,C0⟩;obtain⟨p,J,e⟩:=zaz.1 e0;have:=u1 p J
       omega) (λp J=> ?_) ⟨?_, ?_⟩ ?_ i0 q0 hm ⟨?_, ?_,N.nx,N.sd⟩ v0
    ·rw[H];simp only[zaK,zai];by_cases E0:x=i
     ·subst E0;simp[O0,l1]
     ·rw[getD_set_ne true (Ne.symm E0)];simp[E0]
    ·rcases zai.1 J with rfl|J
     ·refine⟨B0,O0,Z0,⟨⟨o,t,d,cs,j0,g2,g3,g4,g5,O1, ?_⟩⟩, .inl (zac a0.1.size L1), ?_⟩
      ·rw[g4];have U1:d<a.tmps.size:=by
        rw[N.fr.size,v0.nt];exact p2 i B0 o d j0 g4
       simp[Act.put,U1]
      ·simp[uW,bS]
     ·obtain⟨q1,q2,q3,⟨q4⟩,q5,q6⟩:=hp p J;obtain⟨o2,t2,d2,a1,s1,s2,s3,s4,s5,s6,s7⟩:=q4;have R0:p.1≠i:=λe=>P0 (by rw[<-e];exact List.mem_map_of_mem J);refine⟨q1,q2,by rw[getD_set_ne true (Ne.symm R0)];exact q3,⟨⟨o2,t2,d2,a1,s1,s2,s3,s4,s5, ?_, ?_⟩⟩,q5, ?_⟩
      ·rw[I0.block _ (u1 p J)];exact s6
      ·rw[ee _ _ _ (λe=>L.two p.1 q1 i B0 R0 o2 o s1 j0 (by rw[s4];exact e.symm))];exact s7
      ·have:=u1 p J;simp[uW,q6,aB,this]
    ·exact(a0.pres N.bc.below).step I0
    ·intro b hb;simp only[uW,za2,zav,Nat.ble_eq] at hb
     exact a0.mine (by
      rcases hb.1.1 with h1|h1
      ·exact .inl h1
      ·exact .inr h1)
    ·intro b hb;obtain⟨b1,b2⟩:=hb;refine g0 b ?_;simp only[uW,zbr,bS,zdy] at b2;have Y0:b<w.heap.size:=by
      rcases zah b w.heap.size with h1|h1
      ·exact h1
      ·exfalso;refine b1 (.inl ?_);show (w.alloc _).heap.size<=b;rw[D1];have:=b2.2;omega
     have N0:B.F b=false:=by
      have:=b2.1;rw[aB,zdp Y0] at this;simpa using this
     refine⟨λe0=>b1 (.inr ?_),N0⟩;simp only[uW,za2,zav,Nat.ble_eq,aB,zdt,N0];exact⟨⟨e0,Y0⟩,rfl⟩
    ·rw[g4];exact N.fr.putFree N1 _
    ·refine(N.bc.step I0).rebase (Pres.self _) (λj X hX hk hn K0=> ?_) (λj X hX hk hn Q0=> ?_)
     ·have hl:=H1 j X hX (by rcases hk with hk|hk<;>intro e<;>rw[e] at hk<;>cases hk) hn;refine .inr ?_;have N0:B.F (β j).blk=false:=by
       cases M1:B.F (β j).blk with
       |false=>rfl
       |true=>
        obtain⟨f1,f2⟩:=B.hF _ M1;rcases K0 with h1|h1
        ·omega
        ·rw[f2] at h1;cases h1
      simp only[uW,za2,zav,Nat.ble_eq,aB,zdt,N0];exact⟨⟨K0,hl⟩,rfl⟩
     ·have hl:=H1 j X hX (BK.fix_ng hk) hn;refine⟨λe0=> ?_, ?_⟩
      ·rcases e0 with h1|h1
       ·have:(w.alloc (.cells (SV.concs oj cs).toArray t)).heap.size<=(β j).blk:=h1;omega
       ·simp only[uW,za2,zav,Nat.ble_eq] at h1;exact Q0.1 h1.1.1
      ·simp only[uW,Q0.2,Bool.false_and,zbi,bS,zdy];omega
   ·obtain⟨u,v,rfl⟩:=zcg z1;obtain⟨B1,M0⟩:=sH y0;have l2:(u++i::v).Nodup:=y0.imp λh=>h.1;have L0:=zca.1 l2;have i2:i∉v:=(zd6.1 L0.2.1).1;have Y1:i∉u:=λh=>L0.2.2 i h i (by simp) rfl;have mem: ∀x,x∈u++v↔x∈u++i::v/\x≠i:=λx=>by
     constructor
     ·intro hx;rcases za8.1 hx with h|h
      ·exact⟨zbI _ h,λe=>Y1 (e▸h)⟩
      ·exact⟨zb1 _ (zan _ h),λe=>i2 (e▸h)⟩
     ·rintro⟨hx,x2⟩;rcases za8.1 hx with h|h
      ·exact zbI _ h
      ·rcases zai.1 h with h|h
       ·exact absurd h x2
       ·exact zb1 _ h
    have j1: ∀m∈M,bK ops.toList ops.size i m=false/\ ∃om,ops.toList[m]? =some om/\Oper.apart ops om o=true:=by
     rcases L.use i o B0 j0 with h1|h1
     ·have:=h1 c w1;rw[la n0 j0 z0 l0 w0.1 w0.2] at this;cases this
     ·exact h1
    have A1:=iQ u0 j0 u A h N.fr.toOS N.nx L0.1 (λx hx=>by
     refine⟨?_, ?_,hh x (by simp[hx]), .inl rfl⟩
     ·rcases(B1 x hx).2 with ⟨h1,_⟩|h1
      ·exact absurd h1 B0
      ·exact h1
     ·rcases((H x).1 (by simp[hx])).2 with h1|h1
      ·exact la n0 j0 z0 l0 ((H x).1 (by simp[hx])).1 h1
      ·obtain⟨p,J,rfl⟩:=zaz.1 h1
       exact(j1 p.1 (hp p J).1).1) hm
    simp only[n5,j0] at A1
    have j2:=ags u0 N.nx A1 (F:=λd=> ∃m om,m∈M/\m∈u++i::v/\ops.toList[m]? =some om/\om.dst=some d) (λd hd=>by
     obtain⟨m,om,d1,d2,d3,d4⟩:=hd;obtain⟨_,n1,e1,e2⟩:=j1 m d1;rw[d3] at e1;obtain rfl:om=n1:=by simpa using e1
     obtain⟨s1,s2,_⟩:=Oper.apart_spec e2
     exact⟨q0 d ⟨m,om,d1,d2,d3,d4⟩,s2 d d4,s1 d d4⟩)
    have v1: ∀a' w',(∃ef rd wr A' β',(ah (okM ops pre h i ef rd wr&&ckM false ops i ef) (n5 P Γ inl ops pre false noP KP (u++v) A' (dc h i ⟨ef,rd,wr,bif ef then A.nx else 0⟩) K)/\ ∀d,(∃m om,m∈M/\m∈u++i::v/\ops.toList[m]? =some om/\om.dst=some d)->FreeS A' d)/\Is B A' β' a' w'/\Trs A β A' β')->(∀t,o.dst≠some t->a'.tmps.getD t undef=a.tmps.getD t undef)->aFo P .any ops Q Y (listed.setIfInBounds i true) a' w':=by
     rintro a' w' ⟨ef,rd,wr,A',β',⟨hk,X1⟩,V0,E1⟩ w2;obtain⟨_,hk⟩:=Xg.1 hk;refine ih (listed.setIfInBounds i true) (u++v) pend B A' a' w' β' _ (by simp[l0]) (by simp at o0 ⊢;omega) M0 (λx=> ?_) T0 (λx hx=> ?_) x0 C0 (λp J=> ?_) a0 g0 i0 (λd hd=> ?_) hk V0 (v0.trans E1)
     ·rw[mem,H];by_cases E0:x=i
      ·subst E0;simp only[ne_eq,not_true_eq_false,and_false,false_iff,not_and,not_or];exact λ_=>⟨by rw[Z0];simp,P0⟩
      ·rw[getD_set_ne true (Ne.symm E0)];simp[E0]
     ·rw[jx ((mem x).1 hx).2];exact hh x ((mem x).1 hx).1
     ·obtain⟨q1,q2,q3,⟨q4⟩,q5,q6⟩:=hp p J;obtain⟨o2,t2,d2,a1,s1,s2,s3,s4,s5,s6,s7⟩:=q4;have R0:p.1≠i:=λe=>P0 (by rw[<-e];exact List.mem_map_of_mem J);obtain⟨_,n1,e1,e2⟩:=j1 p.1 q1;rw[s1] at e1;obtain rfl:o2=n1:=by simpa using e1
      obtain⟨_,a2,_⟩:=Oper.apart_spec e2;obtain⟨f1,f2⟩:=B.hF p.2 q6;refine⟨q1,q2,by rw[getD_set_ne true (Ne.symm R0)];exact q3,⟨⟨o2,t2,d2,a1,s1,s2,s3,s4,s5, ?_, ?_⟩⟩,q5,q6⟩
      ·rw[V0.bc.below.block _ f1 f2,<-N.bc.below.block _ f1 f2];exact s6
      ·rw[w2 d2 (a2 d2 s4)];exact s7
     ·obtain⟨m,om,d1,d2,d3,d4⟩:=hd;exact X1 d ⟨m,om,d1,((mem m).1 d2).1,d3,d4⟩
    have k:=lL (W0:=B) (hΓ.sub a0) (U0 B a0) j2 N (Q:=Q) (KK:=λa' w'=> ∃ef rd wr A' β',(ah (okM ops pre h i ef rd wr&&ckM false ops i ef) (n5 P Γ inl ops pre false noP KP (u++v) A' (dc h i ⟨ef,rd,wr,bif ef then A.nx else 0⟩) K)/\ ∀d,(∃m om,m∈M/\m∈u++i::v/\ops.toList[m]? =some om/\om.dst=some d)->FreeS A' d)/\Is B A' β' a' w'/\Trs A β A' β')
     (λv' A' a' w' β' hk r1 r2=>by
       cases hl:lone ops i with
       |true=>rw[hl] at hk;exact hP v' A' a' w' β' hk (r1.up a0 g0 i0) (v0.trans r2)
       |false=>rw[hl] at hk;exact hk.elim) (λef rd wr A' a' w' β' hk r1 r2=>⟨ef,rd,wr,A',β',hk,r1,r2⟩)
    unfold ayH;simp only[ho];by_cases hw:Region.wanted o (yielded ops a.tmps)=true
    ·rw[if_pos hw] at k ⊢;exact .inl (Oper.wpX_mono (λa' w' ⟨h1,h2⟩=>v1 a' w' h1 h2) (agt k))
    ·rw[if_neg hw] at k ⊢;exact v1 _ _ k (λt ht=>ee _ _ _ ht)
theorem acx {m:Nat} (h:atF ops (adB P) m=true): ∃o t d cs,ops.toList[m]? =some o/\o.guard=none/\o.op= .alloc t/\o.dst=some d/\xX P t=some cs:=by
 unfold atF at h;split at h
 ·rename_i o J;unfold adB at h;split at h
  ·rename_i t d h1 h2 h3;obtain⟨cs,H⟩:=Option.isSome_iff_exists.1 h;exact⟨o,t,d,cs,J,h1,h2,h3,H⟩
  ·cases h
 ·cases h
theorem afI (h:aiV ops pre M C x y=true):aht ops pre M C x y:=by
 unfold aiV at h;simp only[za2,zav,zap,bS,zdt,zdy,aB,Wo] at h;obtain⟨h1,h4⟩:=h;refine⟨h4, ?_⟩;rcases h1 with ⟨h1,h2⟩|⟨⟨h1,h2⟩,h3⟩
 ·exact .inl ⟨h1,h2⟩
 ·exact .inr ⟨h4,h1,λh=>(by rw[Wo.2 h] at h2;cases h2),h3⟩
theorem agv (h:okL P ops A L M C=true):L.Pairwise (aht ops (aiU L M C) M C)/\(∀x,x∈L↔x<ops.size)/\L.length<=ops.size/\LateOK P ops M C/\ ∀m∈M,∀o d,ops.toList[m]? =some o->o.dst=some d->A.ok d=false/\d<A.nt:=by
 unfold okL at h;simp only[za2] at h;obtain⟨⟨⟨⟨⟨⟨h1,h2⟩,h3⟩,h4⟩,h5⟩,h6⟩,h7⟩:=h;simp only[zaf,zaC,aB,zdt,Wo,zav,za2,zap,bS] at h2 h3 h5 h6 h7;have hU: ∀m∈M,∀i,acP ops M i=false->bK ops.toList ops.size i m=false:=λm H i hi=>by
  cases hb:bK ops.toList ops.size i m with
  |false=>rfl
  |true=>
   have:acP ops M i=true:=zaP.2 ⟨m,H,hb⟩;rw[hi] at this;cases this
 refine⟨Ch (λ_ _=>afI) h1,λx=>⟨λhx=>h2 x hx,λhx=>h3 x hx⟩,zak h4,⟨λi o hi N=> ?_,λm H=>acx (h6 m H).1.1.2,λm H m' J=>hU m' J m (h6 m H).1.1.1,λm H m' J e0 o o' N g0 e=> ?_,λm H=> ?_⟩,λm H o d N hd=> ?_⟩
 ·rcases h5 i (kW N) with h|h
  ·exact absurd h hi
  ·cases hu:acP ops M i with
   |true=>rw[hu] at h;exact .inl (λc hc=>zaf.1 h c hc)
   |false=>
    rw[hu] at h;refine .inr λm H=>⟨hU m H i hu, ?_⟩;obtain⟨a,b,Y,e2,e3⟩:=GL (zaf.1 h m H);rw[N] at e2;obtain rfl:o=b:=by simpa using e2
    exact⟨a,Y,e3⟩
 ·rcases(h6 m H).1.2 m' J with h|h
  ·exact e0 h
  ·obtain⟨a,b,Y,e2,e3⟩:=GL h;rw[N] at Y;rw[g0] at e2;obtain rfl:o=a:=by simpa using Y
   obtain rfl:o'=b:=by simpa using e2
   obtain⟨_,_,_,_,g1,_,_,g4,_⟩:=acx (h6 m H).1.1.2;rw[N] at g1;simp only[za1] at g1;subst g1;exact(Oper.apart_spec e3).2.1 _ g4 (e▸g4)
 ·exact h7 m H
 ·have:=(h6 m H).2;have a0:aer ops m=some d:=by simp only[aer,N,zcF,hd]
  rw[a0] at this;simpa [aB] using this
theorem ab8 (A:AS) (l:zdT) (t:Nat):(acw A l).tm t= .dead\/(acw A l).tm t=A.tm t:=by
 show (bif l.any (isD t) then TV.dead else A.tm t)=TV.dead\/(bif l.any (isD t) then TV.dead else A.tm t)=A.tm t;cases l.any (isD t)
 ·exact .inr rfl
 ·exact .inl rfl
theorem aex {l:zdT} {d:Nat} (h:some d∈l):(acw A l).tm d= .dead:=by
 show (bif l.any (isD d) then TV.dead else A.tm d)=TV.dead;rw[show l.any (isD d)=true from zaP.2 ⟨some d,h,by simp[isD,bS]⟩];rfl
theorem agw (h:Is W0 A β a w) (l:zdT):Is W0 (acw A l) β a w:=by
 refine⟨⟨h.fr.defers,h.fr.size,λt s H=> ?_,λt u b s H=> ?_,λt u b s H=> ?_⟩,h.bc,h.nx,h.sd⟩
 ·rcases ab8 A l t with e|e
  ·rw[e] at H;cases H
  ·rw[e] at H;exact h.fr.v t s H
 ·rcases ab8 A l t with e|e
  ·rw[e] at H;cases H
  ·rw[e] at H;exact h.fr.opt t u b s H
 ·rcases ab8 A l t with e|e
  ·rw[e] at H;cases H
  ·rw[e] at H;exact h.fr.os t u b s H
theorem ahu (h:Is W0 A β a w):Is W0 (acO A) β a w:=
 ⟨⟨h.fr.defers,h.fr.size,(λt s H=>by cases H),(λt u b s H=>by cases H),(λt u b s H=>by cases H)⟩,h.bc,h.nx,h.sd⟩
theorem agx (h:okS ops L=true) (hN: ∀v A',KN v A'↔KN v (acO A')):L.Pairwise (aiY true KN ops (aiW L))/\(∀x,x∈L↔x<ops.size)/\L.length<=ops.size:=by
 unfold okS at h;simp only[za2] at h;obtain⟨⟨⟨h1,h2⟩,h3⟩,h4⟩:=h;simp only[zaf,zaC,aB,zdt,Wo] at h2 h3;refine⟨Ch (λx y h=> ?_) h1,λx=>⟨λJ=>h2 x J,λJ=>h3 x J⟩,zak h4⟩;unfold akd at h;simp only[za2,zav,zap,bS,zdt,zdy,Wo] at h;obtain⟨⟨⟨⟨k1,k2⟩,k3⟩,Y⟩,H⟩:=h;refine⟨⟨Y,k1,λh=>(by first|exact k2 h|(rw[Wo.2 h] at k2;cases k2)), .inr k3⟩, ?_⟩;cases N:bK ops.toList ops.size y x with
 |true=>exact .inl rfl
 |false=>
  rw[N] at H;rcases H with H|⟨H,k6⟩
  ·cases H
  ·exact .inr (.inr ⟨hN,H,rfl,by unfold Du;rw[k3,N,bS,zds Y];rfl,k6⟩)
theorem Aq {lt:Bool} (hΓ:GamOK P W0 Γ) (o0:P.follows .mixedOrders=true) (Y: ∀B,SubB B W0->InlOK P B inl) (J:cF inl) {rid:Nat} (H:mJ ops=true) {K:zdS} 
 (hm:Gm lt P Γ inl ops KP A K) (hs:Is W0 A β a w) (hP: ∀v A' a' w' β',KP v A'->Is W0 A' β' a' w'->Trs A β A' β'->Q (pex v) a' w') (hQ: ∀A' a' w' β',K A'->Is W0 A' β' a' w'->Trs A β A' β'->Q .normal a' w') {fb:Frame} (hdf:fb.roundOf=none\/ops.toList.all ln=true):WpB P fb (.region rid ops true) Q a w:=by
 refine WpB.region_any o0 hdf ?_;have j0:Below w.heap.size w {w with drawn:=w.drawn+1}:=(zdC _ _).drew;have g0:Is W0 A β a {w with drawn:=w.drawn+1}:=⟨hs.fr,hs.bc.step j0,hs.nx,hs.sd⟩;have N:jY ops (Array.replicate ops.size false):=by
  intro i hi;exfalso;simp[Array.getD] at hi
 have e0: ∀x,x<ops.size↔x<ops.size/\(Array.replicate ops.size false).getD x true=false:=by
  intro x;simp[Array.getD]
 unfold Gm at hm;split at hm
 ·split at hm
  case h_2=>
   rename_i m M hM;obtain⟨hk,hm⟩:=Xg.1 hm;obtain⟨p1,p2,p3,p4,p5⟩:=agv hk;refine aew hΓ Y J H p4 (A0:=acw A ((m::M).map (aer ops))) (λx hx o d ho hd=>(p5 x hx o d ho hd).2) (λv A' a' w' β' hk h1 h2=>hP v A' a' w' β' hk h1 ⟨h2.tr,h2.wl,h2.nx,h2.nt⟩) (λA' a' w' β' hk h1 h2=>hQ A' a' w' β' hk h1 ⟨h2.tr,h2.wl,h2.nx,h2.nt⟩)
    ops.size _ _ [] W0 _ a _ β (λ_=>none) (by simp) (by simpa using p3) p1 (λx=>by rw[p2,e0 x];simp) N (λ_ _=>rfl) (by simp) (by simp) (λp hp=>by cases hp) (SubB.refl W0) (λb h=>h) rfl (λd hd=> ?_) hm (agw g0 _) (Trs.refl _ _)
   obtain⟨x,o,d1,d2,d3,d4⟩:=hd;refine⟨aex (zaz.2 ⟨x,d1,by simp only[aer,d3,zcF,d4]⟩),λt u b s ht e=> ?_⟩;rcases ab8 A ((m::M).map (aer ops)) t with e2|e2
   ·rw[e2] at ht;cases ht
   ·rw[e2] at ht;have:=(g0.fr.os t u b s ht).2;rw[e,(p5 x d1 o d d3 d4).1] at this;cases this
  split at hm
  case h_2=>
   obtain⟨hk,hm⟩:=Xg.1 hm;have i0: ∀v A',(λv A'=>KP v (acO A')) v A'↔(λv A'=>KP v (acO A')) v (acO A'):=λv A'=>Iff.rfl;obtain⟨p1,p2,p3⟩:=agx hk i0;refine pi (m:=true) hΓ (Y W0 (SubB.refl W0)) J H (λv A' a' w' β' hk h1 h2=>hP v (acO A') a' w' β' hk (ahu h1) ⟨h2.tr,h2.wl,h2.nx,h2.nt⟩) hP hQ ops.size _ _ A a _ β (λ_=>none) (by simp) p3 p1 (λx=>(p2 x).trans (e0 x)) N (λ_ _=>rfl) hm g0 (Trs.refl _ _)
  refine pi (m:=false) (KN:=noP) hΓ (Y W0 (SubB.refl W0)) J H (λ_ _ _ _ _ h=>h.elim) hP hQ ops.size _ (List.range ops.size) A a _ β (λ_=>none) (by simp) (by simp) (acH<|List.pairwise_lt_range.imp λ{x y} h=>⟨by omega,zaC.2 h,λh'=>by have:=zaC.1 h';omega, .inl h⟩) ?_ N (λ_ _=>rfl) hm g0 (Trs.refl _ _);intro x;rw[zaC];exact e0 x
 ·rename_i c d a0;obtain⟨hk,l0,n0⟩:=Xg.1 hm;simp only[za2] at hk;obtain⟨p1,p2,p3⟩:=yn hk.1;obtain⟨q1,q2,q3⟩:=yn hk.2;have a0:Gk ops=some (c,d):=by
   unfold aiC at a0;split at a0
   ·cases a0
   ·exact a0
  obtain⟨s1,s2,s3,s4⟩:=Ap a0;exact DZ hΓ (Y W0 (SubB.refl W0)) J H s3 s4 hP hQ ops.size _ _ _ A a _ β (λ_=>none) (by simp) p3 q3 ((p2 c).2 s1) ((p2 d).2 s2) p1 q1 (λx=>(p2 x).trans (e0 x)) (λx=>(q2 x).trans (e0 x)) N (λ_ _=>rfl) l0 n0 g0 (Trs.refl _ _)
end
section
variable {P:Program} {W0:Base}
theorem vk: ∀{l:List (Nat×SV)} {t:Nat} {s:SV},aJ0 l t= .v s->(t,s)∈l
 | [],t,s,h=>by simp[aJ0] at h
 |(u,r)::l,t,s,h=>by
  simp only[aJ0] at h;cases H:Nat.beq t u with
  |true=>
   rw[H] at h;simp only[zdr,TV.v.injEq] at h;rw[zab H,h];simp
  |false=>rw[H] at h;exact zan _ (vk h)
theorem YC {A:AS} {t:Nat} {s:SV} (h:A.tm t= .v s): ∀{ks:zdH},ks.any (Nat.beq t)=true->(t,s)∈adf A ks
 | [],h0=>by simp at h0
 |u::r,h0=>by
  simp only[zcQ,zav] at h0;unfold adf;rcases h0 with h1|h1
  ·have:=zab h1;subst this;rw[h];simp
  ·have H:=YC h (ks:=r) h1;split
   ·exact zan _ H
   ·exact H
variable {A:AS} {l:List (Nat×SV)} {ks:zdH} {t:Nat} {s:SV}
theorem D3 (h:aJ1 A l ks t= .v s):(t,s)∈l++adf A ks:=by
 unfold aJ1 at h;split at h
 ·rename_i J h1;simp only[TV.v.injEq] at h;subst h;exact zbI _ (vk h1)
 ·cases H:ks.any (Nat.beq t) with
  |false=>rw[H] at h;simp at h
  |true=>
   rw[H] at h;simp only[zdr] at h;split at h
   ·rename_i J h2;simp only[TV.v.injEq] at h;subst h;exact zb1 _ (YC h2 H)
   ·cases h
theorem aur {u:Nat} {b:Bool} (h:aJ1 A l ks t= .opt u b s):False:=by
 unfold aJ1 at h;split at h
 ·simp at h
 ·cases H:ks.any (Nat.beq t) with
  |false=>rw[H] at h;simp at h
  |true=>
   rw[H] at h;simp only[zdr] at h;split at h<;>simp at h
theorem mS {X:Type} {x:X} {bl:zdL}: ∀{l:List (Nat×(X->zdM))} {i:Nat} {C:Blk},rP bl x l i=some C->
 (∃g B,(i,g)∈l/\bl i=some B/\C={B with get:=B.kd.sel (g x) B.get})\/(i∉l.map (·.1)/\bl i=some C)
 | [],i,C,h=> .inr ⟨by simp,h⟩
 |(j,g)::l,i,C,h=>by
  simp only[rP] at h;cases H:Nat.beq i j with
  |true=>
   rw[H] at h;have:=zab H;subst this;simp only[zdr] at h;split at h
   ·rename_i B hB;simp only[za1] at h;exact .inl ⟨g,B,by simp,hB,h.symm⟩
   ·cases h
  |false=>
   rw[H] at h;rw[bS] at H;rcases mS h with ⟨g',B,h1,h2,h3⟩|⟨h1,h2⟩
   ·exact .inl ⟨g',B,zan _ h1,h2,h3⟩
   ·exact .inr ⟨by simp only[zaK,zai,not_or];exact⟨by simpa using H,h1⟩,h2⟩
theorem awd {X:Type} {x:X} {bl:zdL}: ∀{l:List (Nat×(X->zdM))} {i:Nat},bl i≠none↔rP bl x l i≠none
 | [],i=>Iff.rfl
 |(j,g)::l,i=>by
  simp only[rP];cases H:Nat.beq i j with
  |true=>simp only[zdr];cases bl i<;>simp
  |false=>simp only[zdq];exact awd
theorem jZ {X:Type} {x:X} {bl:zdL}: ∀{l:List (Nat×(X->zdJ))} {i:Nat} {C:Blk},p7 bl x l i=some C->
 (∃g B,(i,g)∈l/\bl i=some B/\C={B with get:=λ_=>g x})\/(i∉l.map (·.1)/\bl i=some C)
 | [],i,C,h=> .inr ⟨by simp,h⟩
 |(j,g)::l,i,C,h=>by
  simp only[p7] at h;cases H:Nat.beq i j with
  |true=>
   rw[H] at h;have:=zab H;subst this;simp only[zdr] at h;split at h
   ·rename_i B hB;simp only[za1] at h;exact .inl ⟨g,B,by simp,hB,h.symm⟩
   ·cases h
  |false=>
   rw[H] at h;rw[bS] at H;rcases jZ h with ⟨g',B,h1,h2,h3⟩|⟨h1,h2⟩
   ·exact .inl ⟨g',B,zan _ h1,h2,h3⟩
   ·exact .inr ⟨by simp only[zaK,zai,not_or];exact⟨by simpa using H,h1⟩,h2⟩
theorem Ws {X:Type} {x:X} {bl:zdL}: ∀{l:List (Nat×(X->zdJ))} {i:Nat},bl i≠none↔p7 bl x l i≠none
 | [],i=>Iff.rfl
 |(j,g)::l,i=>by
  simp only[p7];cases H:Nat.beq i j with
  |true=>simp only[zdr];cases bl i<;>simp
  |false=>simp only[zdq];exact Ws
variable {bl:zdL} {i:Nat}
theorem sI {C:Blk} (h:arD bl ks i=some C):(i∈ks/\ ∃B,bl i=some B/\C={B with kd:= .gone})\/(i∉ks/\bl i=some C):=by
 unfold arD at h;cases H:ks.any (Nat.beq i) with
 |true=>
  rw[H] at h;simp only[zaP] at H;obtain⟨j,J,N⟩:=H;rw[<-zab N] at J;simp only[zdr] at h;split at h
  ·rename_i B hB;exact .inl ⟨J,B,hB,by simpa using h.symm⟩
  ·cases h
 |false=>
  rw[H] at h;refine .inr ⟨λY=> ?_,h⟩;have:ks.any (Nat.beq i)=true:=zaP.2 ⟨i,Y,by rw[bS];simp⟩;rw[H] at this;cases this
theorem WB:bl i≠none↔arD bl ks i≠none:=by
 unfold arD;cases ks.any (Nat.beq i) with
 |true=>simp only[zdr];cases bl i<;>simp
 |false=>exact Iff.rfl
theorem yo {X:Type} {x:X}: ∀{l:List (Gr X)} {j:Nat} {C:Blk},grB x l j=some C-> ∃g,l[j]? =some g/\C={n:=g.n x,sz:=g.sz,get:=g.get x,kd:= .own,nn:=false}
 | [],j,C,h=>by cases h
 |g::r,0,C,h=>⟨g,rfl,by simpa [grB] using h.symm⟩
 |g::r,j+1,C,h=>yo (l:=r) h
theorem Wm {X:Type} {x:X}: ∀{l:List (Gr X)} {j:Nat},grB x l j≠none↔j<l.length
 | [],j=>by simp[grB]
 |g::r,0=>by simp[grB]
 |g::r,j+1=>by simp only[grB,za4,Nat.add_lt_add_iff_right];exact Wm
def mh (b:Nat) (rs:zdT) (sz:Nat->Nat) (β:zdI) (i:Nat):Loc:=bif Nat.blt i b then β i else match rs[i - b]? with
 |some (some k)=>β k
 |some none=>⟨0,0,sz (i - b),0,true⟩
 |none=>β i
variable {b:Nat} {rs:zdT} {sz:Nat->Nat} {β:zdI}
theorem bA (h:i<b):mh b rs sz β i=β i:=by
 unfold mh;rw[aB,zdp h];rfl
variable {j:Nat}
theorem fG {k:Nat} (h:rs[j]? =some (some k)):mh b rs sz β (b+j)=β k:=by
 unfold mh;rw[aB,zds (by omega: ¬b+j<b)];simp[h]
theorem fH (h:rs[j]? =some none):mh b rs sz β (b+j)=⟨0,0,sz j,0,true⟩:=by
 unfold mh;rw[aB,zds (by omega: ¬b+j<b)];simp[h]
mutual
theorem sJ {b:Nat} {rs:List (Option Nat)} {sz:Nat->Nat} {β:Nat->Loc}: ∀{s r:SV},s.ren b rs=some r->r.conc β=s.conc (mh b rs sz β)/\ ∀i∈s.ids,i<b/\i∈r.ids\/(b<=i/\i - b<rs.length)
 | .val v,r,h=>by simp[SV.ren] at h;subst h;simp[SV.conc,SV.ids]
 | .ptr id e o,r,h=>by
   simp only[SV.ren] at h;rw[aB] at h;by_cases hi:id<b
   ·simp[hi] at h;subst h;refine⟨by simp only[SV.conc,addr,bA hi],λi H=> .inl ?_⟩;simp only[SV.ids,zaj] at H ⊢;subst H;exact⟨hi,rfl⟩
   ·simp[hi] at h
 | .mp id,r,h=>by
   simp only[SV.ren] at h;rw[aB] at h;by_cases hi:id<b
   ·simp[hi] at h;subst h;refine⟨by simp only[SV.conc,bA hi],λi H=> .inl ?_⟩;simp only[SV.ids,zaj] at H ⊢;subst H;exact⟨hi,rfl⟩
   ·simp[hi] at h
 | .yl id,r,h=>by
   simp only[SV.ren] at h;rw[aB] at h;by_cases hi:id<b
   ·simp[hi] at h;subst h;refine⟨by simp only[SV.conc,bA hi],λi H=> .inl ?_⟩;simp only[SV.ids,zaj] at H ⊢;subst H;exact⟨hi,rfl⟩
   ·simp[hi] at h
 | .slc id e len,r,h=>by
   simp only[SV.ren,Pn] at h;rw[aB] at h;by_cases hi:id<b
   ·simp[hi] at h;subst h;refine⟨by simp only[SV.conc,addr,bA hi],λi H=> .inl ?_⟩;simp only[SV.ids,zaj] at H ⊢;subst H;exact⟨hi,rfl⟩
   ·simp only[hi,decide_false,zdq] at h;have hid:id=b+(id - b):=by omega
    split at h
    ·rename_i k Y;simp only[za1] at h;subst h;refine⟨?_,λi H=> .inr ?_⟩
     ·simp only[SV.conc,addr];rw[hid,fG Y]
     ·simp only[SV.ids,zaj] at H;subst H;refine⟨by omega, ?_⟩;rcases zah (i - b) rs.length with N|N
      ·exact N
      ·rw[zad N] at Y;cases Y
    ·rename_i Y;simp only[za1] at h;subst h;refine⟨?_,λi H=> .inr ?_⟩
     ·simp only[SV.conc];rw[hid,fH Y];simp
     ·simp only[SV.ids,zaj] at H;subst H;refine⟨by omega, ?_⟩;rcases zah (i - b) rs.length with N|N
      ·exact N
      ·rw[zad N] at Y;cases Y
    ·cases h
 | .agg cs,r,h=>by
   simp only[SV.ren,zbE] at h;obtain⟨a0,h1,rfl⟩:=h;obtain⟨k1,k2⟩:=rens_conc (sz:=sz) (β:=β) h1;exact⟨by simp only[SV.conc,k1],λi hi=>by simp only[SV.ids] at hi ⊢;exact k2 i hi⟩
 | .tup cs,r,h=>by
   simp only[SV.ren,zbE] at h;obtain⟨a0,h1,rfl⟩:=h;obtain⟨k1,k2⟩:=rens_conc (sz:=sz) (β:=β) h1;exact⟨by simp only[SV.conc,k1],λi hi=>by simp only[SV.ids] at hi ⊢;exact k2 i hi⟩
 | .fn f a c,r,h=>by
   simp only[SV.ren] at h;split at h
   ·rename_i a' c' h1 h2;simp only[za1] at h;subst h;obtain⟨k1,k2⟩:=rens_conc (sz:=sz) (β:=β) h1;obtain⟨l1,l2⟩:=rens_conc (sz:=sz) (β:=β) h2;refine⟨by simp only[SV.conc,k1,l1],λi hi=> ?_⟩;simp only[SV.ids,za8] at hi ⊢;rcases hi with hi|hi
    ·rcases k2 i hi with ⟨J,a2⟩|J
     ·exact .inl ⟨J, .inl a2⟩
     ·exact .inr J
    ·rcases l2 i hi with ⟨J,a2⟩|J
     ·exact .inl ⟨J, .inr a2⟩
     ·exact .inr J
   ·cases h
theorem rens_conc {b:Nat} {rs:List (Option Nat)} {sz:Nat->Nat} {β:Nat->Loc}: ∀{s r:List SV},SV.rens b rs s=some r->SV.concs β r=SV.concs (mh b rs sz β) s/\ ∀i∈SV.idss s,i<b/\i∈SV.idss r\/(b<=i/\i - b<rs.length)
 | [],r,h=>by simp[SV.rens] at h;subst h;simp[SV.concs,SV.idss]
 |x::xs,r,h=>by
  simp only[SV.rens] at h;split at h
  ·rename_i y ys h1 h2;simp only[za1] at h;subst h;obtain⟨k1,k2⟩:=sJ (sz:=sz) (β:=β) h1;obtain⟨N,Y⟩:=rens_conc (sz:=sz) (β:=β) h2;refine⟨by simp only[SV.concs,k1,N],λi hi=> ?_⟩;simp only[SV.idss,za8] at hi ⊢;rcases hi with hi|hi
   ·rcases k2 i hi with ⟨H,J⟩|H
    ·exact .inl ⟨H, .inl J⟩
    ·exact .inr H
   ·rcases Y i hi with ⟨H,J⟩|H
    ·exact .inl ⟨H, .inr J⟩
    ·exact .inr H
  ·cases h
end
theorem aaJ {b:Nat} {rs:zdT} {A:AS}: ∀{l:List (Nat×SV)},Gn b rs A l-> ∀p∈l,∃r,p.2.ren b rs=some r/\A.tm p.1= .v r
 | [],_,p,hp=>by cases hp
 |(t,s)::l,h,p,hp=>by
  obtain⟨h1,h2⟩:=h;rcases zai.1 hp with rfl|hp
  ·unfold eqO at h1;split at h1
   ·rename_i r H;exact⟨r,H,h1⟩
   ·exact h1.elim
  ·exact aaJ h2 p hp
theorem wA {f:Nat->Prop}: ∀{n:Nat},NC n f-> ∀e,e<n->f e
 |0,_,e,H=>by omega
 |k+1,h,e,H=>by
  by_cases h2:e=k
  ·subst h2;exact h.1
  ·exact wA h.2 e (by omega)
theorem ayu {X:Type} {A0 A:AS} {x:X}: ∀{l:List (Nat×(X->zdM))},Gp A0 A x l-> ∀p∈l,∃B,A.bl p.1=some B/\B.kd≠ .gone/\((B.kd= .itL/\ ∃B0,A0.bl p.1=some B0/\ ∀e,B.get (e+1)=abr (p.2 x) B0.get (e+1))\/(B.kd.map=true/\B.kd.lst=false/\GetEq B.kd B.get (p.2 x))\/(B.kd.map=false/\ ∀e,e<B.n->B.get e=p.2 x e))
 | [],_,p,hp=>by cases hp
 |(i,g)::l,h,p,hp=>by
  obtain⟨h1,h2⟩:=h;rcases zai.1 hp with rfl|hp
  ·split at h1
   ·rename_i B hB;cases H:B.kd with
    |gone=>rw[H] at h1;exact h1.elim
    |mpL=>rw[H] at h1;exact h1.elim
    |dm=>rw[H] at h1;exact h1.elim
    |lp r=>rw[H] at h1;exact h1.elim
    |itL=>
     rw[H] at h1;simp only[] at h1;split at h1
     ·rename_i B0 N;exact⟨B,hB,by rw[H];simp, .inl ⟨H,B0,N,h1⟩⟩
     ·exact h1.elim
    |itK=>rw[H] at h1;exact⟨B,hB,by rw[H];simp, .inr (.inl ⟨by rw[H];rfl,by rw[H];rfl,by rw[H];exact⟨h1.1, .inl h1.2⟩⟩)⟩
    |mpI=>rw[H] at h1;exact⟨B,hB,by rw[H];simp, .inr (.inl ⟨by rw[H];rfl,by rw[H];rfl,by rw[H];exact h1⟩)⟩
    |mpB=>rw[H] at h1;exact⟨B,hB,by rw[H];simp, .inr (.inl ⟨by rw[H];rfl,by rw[H];rfl,by rw[H];exact h1⟩)⟩
    |own=>rw[H] at h1;exact⟨B,hB,by rw[H];simp, .inr (.inr ⟨by rw[H];rfl,λe J=>wA h1 e J⟩)⟩
    |old=>rw[H] at h1;exact⟨B,hB,by rw[H];simp, .inr (.inr ⟨by rw[H];rfl,λe J=>wA h1 e J⟩)⟩
    |glb=>rw[H] at h1;exact⟨B,hB,by rw[H];simp, .inr (.inr ⟨by rw[H];rfl,λe J=>wA h1 e J⟩)⟩
   ·exact h1.elim
  ·exact ayu h2 p hp
theorem pn {X:Type} {b:Nat} {rs:zdT} {A:AS} {x:X}: ∀{l:List (Nat×(X->zdJ))},Gq b rs A x l-> ∀p∈l,∃B cs,A.bl p.1=some B/\SV.rens b rs (p.2 x)=some cs/\B.kd≠ .gone/\B.n=1/\B.get 0=cs
 | [],_,p,hp=>by cases hp
 |(i,g)::l,h,p,hp=>by
  obtain⟨h1,h2⟩:=h;rcases zai.1 hp with rfl|hp
  ·split at h1
   ·rename_i B cs hB H;split at h1
    ·exact h1.elim
    ·rename_i J;obtain⟨h3,h4⟩:=Xg.1 h1;exact⟨B,cs,hB,H,λe=>J e,zab h3,h4⟩
   ·exact h1.elim
  ·exact pn h2 p hp
theorem kU {X:Type} {A:AS} {x:X}: ∀{l:List (Gr X)} {rs:zdT},B7 A x l rs->rs.length=l.length/\ ∀(j:Nat) (g:Gr X),l[j]? =some g->
 (∃i B,rs[j]? =some (some i)/\A.bl i=some B/\B.kd= .own/\B.sz=g.sz/\g.n x<=B.n/\ ∀e,e<g.n x->B.get e=g.get x e)\/(rs[j]? =some none/\g.n x=0)
 | [], [],_=>⟨rfl,λj g h=>by simp at h⟩
 |g::l,some i::rs,h=>by
  obtain⟨h1,h2⟩:=h;obtain⟨h3,h4⟩:=kU h2;refine⟨by simp[h3],λj g' hg=> ?_⟩;cases j with
  |zero=>
   simp only[zbA,za1] at hg;subst hg;left;split at h1
   ·rename_i B hB;split at h1
    ·rename_i H;obtain⟨h5,h6⟩:=Xg.1 h1;simp only[za2,zdt] at h5;exact⟨i,B,by simp,hB,H,zab h5.1,h5.2,h6⟩
    ·exact h1.elim
   ·exact h1.elim
  |succ j=>simpa using h4 j g' (by simpa using hg)
 |g::l,none::rs,h=>by
  obtain⟨h1,h2⟩:=h;obtain⟨h3,h4⟩:=kU h2;refine⟨by simp[h3],λj g' hg=> ?_⟩;cases j with
  |zero=>
   simp only[zbA,za1] at hg;subst hg;exact .inr ⟨by simp,h1⟩
  |succ j=>simpa using h4 j g' (by simpa using hg)
 | [],_::_,h=>h.elim
 |_::_, [],h=>h.elim
variable {l:zdT} {i:Nat}
theorem Wd:i∈ck l↔ ∃j:Nat,l[j]? =some (some i):=by
 induction l with
 |nil=>simp[ck]
 |cons o l J=>
  cases o with
  |some k=>
   simp only[ck,zai,J];constructor
   ·rintro(rfl|⟨j,H⟩)
    ·exact⟨0,by simp⟩
    ·exact⟨j+1,by simpa using H⟩
   ·rintro⟨j,H⟩;cases j with
    |zero=>simp at H;exact .inl H.symm
    |succ j=>exact .inr ⟨j,by simpa using H⟩
  |none=>
   simp only[ck,J];constructor
   ·rintro⟨j,H⟩;exact⟨j+1,by simpa using H⟩
   ·rintro⟨j,H⟩;cases j with
    |zero=>simp at H
    |succ j=>exact⟨j,by simpa using H⟩
theorem sK: ∀{l:zdT},uV (ck l)=true-> ∀{i:Nat} {j k:Nat},l[j]? =some (some i)->l[k]? =some (some i)->j=k
 | [],_,i,j,k,h,_=>by simp at h
 |o::l,H,i,j,k,J,N=>by
  have rest:uV (ck l)=true:=by
   cases o with
   |some m=>simp only[ck,uV,za2] at H;exact H.2
   |none=>exact H
  have first: ∀{m:Nat},o=some i->l[m]? =some (some i)->False:=by
   intro m ho Y;subst ho;simp only[ck,uV,za2,zap] at H;have:(ck l).any (Nat.beq i)=true:=zaP.2 ⟨i,Wd.2 ⟨m,Y⟩,by rw[bS];simp⟩;rw[H.1] at this;cases this
  cases j with
  |zero=>
   cases k with
   |zero=>rfl
   |succ k=>exact(first (by simpa using J) (by simpa using N)).elim
  |succ j=>
   cases k with
   |zero=>exact(first (by simpa using N) (by simpa using J)).elim
   |succ k=>
    have:=sK rest (i:=i) (j:=j) (k:=k) (by simpa using J) (by simpa using N);rw[this]
variable {A:AS} {N:Ann}
theorem sL {x:N.X} (h:i<A.nx):cX A N x i=rP (p7 (arD A.bl (killed A N)) x N.st) x N.bk i:=by
 simp only[cX,aB,zdp h,zdr]
theorem od {x:N.X} {j:Nat}:cX A N x (A.nx+j)=grB x N.gr j:=by
 unfold cX;rw[aB,zds (by omega: ¬A.nx+j<A.nx)];simp
theorem fI {x:N.X} (h:i<A.nx):A.bl i≠none↔cX A N x i≠none:=by
 rw[sL h];exact WB.trans (Ws.trans awd)
theorem ary {x:N.X} {C:Blk} (hi:i<A.nx) (h:cX A N x i=some C):
 ∃B,A.bl i=some B/\C.n=B.n/\C.sz=B.sz/\C.nn=B.nn/\(C.kd=B.kd\/(C.kd= .gone/\i∈killed A N))/\
  ((∃g D,(i,g)∈N.bk/\C.get=C.kd.sel (g x) D/\(D=B.get\/i∈N.st.map (·.1)))\/(i∉N.bk.map (·.1)/\ ∃g,(i,g)∈N.st/\C.get=λ_=>g x)\/(i∉N.bk.map (·.1)/\i∉N.st.map (·.1)/\C.get=B.get/\(i∉killed A N->C=B))):=by
 rw[sL hi] at h;have kl: ∀D,arD A.bl (killed A N) i=some D-> ∃B,A.bl i=some B/\D.n=B.n/\D.sz=B.sz/\D.nn=B.nn/\(D.kd=B.kd\/(D.kd= .gone/\i∈killed A N))/\D.get=B.get/\(i∉killed A N->D=B):=by
  intro D hD;rcases sI hD with ⟨h1,B,h2,rfl⟩|⟨h1,h2⟩
  ·exact⟨B,h2,rfl,rfl,rfl, .inr ⟨rfl,h1⟩,rfl,λh=>absurd h1 h⟩
  ·exact⟨D,h2,rfl,rfl,rfl, .inl rfl,rfl,λ_=>rfl⟩
 rcases mS h with ⟨g,D,h1,h2,rfl⟩|⟨h1,h2⟩
 ·rcases jZ h2 with ⟨g',E,k1,k2,rfl⟩|⟨k1,k2⟩
  ·obtain⟨B,H,J,Y,a4,a5,_⟩:=kl E k2;exact⟨B,H,J,Y,a4,a5, .inl ⟨g,_,h1,rfl, .inr (zaz.2 ⟨_,k1,rfl⟩)⟩⟩
  ·obtain⟨B,H,J,Y,a4,a5,a6,_⟩:=kl D k2;exact⟨B,H,J,Y,a4,a5, .inl ⟨g,_,h1,rfl, .inl a6⟩⟩
 ·rcases jZ h2 with ⟨g',E,k1,k2,rfl⟩|⟨k1,k2⟩
  ·obtain⟨B,H,J,Y,a4,a5,_⟩:=kl E k2;exact⟨B,H,J,Y,a4,a5, .inr (.inl ⟨h1,g',k1,rfl⟩)⟩
  ·obtain⟨B,H,J,Y,a4,a5,a6,a7⟩:=kl C k2;exact⟨B,H,J,Y,a4,a5, .inr (.inr ⟨h1,k1,a6,a7⟩)⟩
variable {β:zdI} {a:Act} {w:World}
theorem Ci (v1:NX A.bl A.nx) (U0: ∀(id:Nat) (B:Blk) (e o:Nat) (s:SV),A.bl id=some B->B.kd≠ .gone->e<B.n->(B.get e)[o]? =some s->Live A.bl s)
 (F1: ∀(id:Nat) (B:Blk) (e:Nat) (s:SV),A.bl id=some B->B.kd.lst=true->s∈B.get e->Live A.bl s)
 (N:Ann) (x:N.X) (first:Bool) {A':AS} (hs:Is W0 A' β a w) (H1:A'.nt=A.nt)
 (hfirst:first=true->A'=A)
 (C0: ∀i B,A.bl i=some B-> ∃B',A'.bl i=some B'/\B'.n=B.n/\(B'.sz=B.sz/\B'.nn=B.nn)/\(B'.kd=B.kd\/B'.kd= .gone)/\(i∉N.ids A->B'=B)) (u1: ∀i,i<A.nx->A.bl i=none->A'.bl i=none)
 (hm:B8 first A A' N x): ∃γ,Is {W0 with sd:=aI2 A N x} (rQ A N x) γ a w/\(∀i,i<A.nx->γ i=β i)/\(A.sd.2=none\/ ∃i t j,A.sd.2=some (i,t)/\A'.sd.2=some (i,N.sb x)/\j=A'.sd.1/\bdE A.sd.1 j=true):=by
 unfold B8 at hm;split at hm
 ·exact hm.elim
 ·rename_i rs K1;obtain⟨hd,E0⟩:=Xg.1 hm;have v0:((A.sd.2=none\/ ∃i t j,A.sd.2=some (i,t)/\A'.sd.2=some (i,N.sb x)/\j=A'.sd.1/\bdE A.sd.1 j=true))/\(Gn A.nx rs A' (N.all A x)/\Gp A A' x N.bk/\Gq A.nx rs A' x N.st/\B7 A' x N.gr rs):=by
   unfold aiD at E0;split at E0
   ·rename_i h1 h2;exact⟨.inl h1,E0⟩
   ·rename_i i t j t' h1 h2;obtain⟨h3,h4,h5⟩:=Xg.1 E0;simp only[za2,bS,zdt] at h3;obtain⟨rfl,h3⟩:=h3;exact⟨.inr ⟨i,t,_,h1,by rw[h2,h4],rfl,h3⟩,h5⟩
   ·exact E0.elim
  obtain⟨v0,ht,hb,hc,hg⟩:=v0;simp only[za2] at hd;obtain⟨⟨Z0,l0⟩,hdf⟩:=hd;have hdf:A'.df= []:=by
   split at hdf
   ·assumption
   ·cases hdf
  obtain⟨M1,x0⟩:=kU hg
  let sz:Nat->Nat:=λj=>match N.gr[j]? with
   |some g=>g.sz
   |none=>0
  have M0: ∀i,i<A.nx->A'.bl i≠none->cX A N x i≠none:=λi hi h=>(fI hi).1 λh0=>h (u1 i hi h0);have O0: ∀i,i<A.nx->A.bl i≠none->cX A N x i≠none:=λi hi h=>(fI hi).1 h;have N0: ∀j,j<rs.length->cX A N x (A.nx+j)≠none:=λj hj=>by rw[od];exact Wm.2 (by omega)
  have key: ∀i C,cX A N x i=some C->C.kd≠ .gone->(i<A.nx/\ ∃B',A'.bl i=some B'/\B'.kd=C.kd/\B'.n=C.n/\B'.sz=C.sz/\B'.nn=C.nn/\i∉killed A N/\
   ((∀e,e<C.n->B'.get e=C.get e/\ ∀s∈C.get e,∀H∈s.ids,H<A.nx/\cX A N x H≠none)\/(C.n=1/\SV.rens A.nx rs (C.get 0)=some (B'.get 0))))\/
   (∃j g,i=A.nx+j/\N.gr[j]? =some g/\C={n:=g.n x,sz:=g.sz,get:=g.get x,kd:= .own,nn:=false}):=by
   intro i C hC e0;rcases zah i A.nx with hi|hi
   ·left;refine⟨hi, ?_⟩;obtain⟨B,b1,b2,b3,b4,b5,b6⟩:=ary hi hC;have T0:C.kd=B.kd:=by
     rcases b5 with b5|b5
     ·exact b5
     ·exact absurd b5.1 e0
    have o0:i∉killed A N:=by
     intro Y;rw[sL hi] at hC;have g1: ∀D,arD A.bl (killed A N) i=some D->D.kd= .gone:=by
      intro D hD;rcases sI hD with ⟨_,E,_,rfl⟩|⟨h1,_⟩
      ·rfl
      ·exact absurd Y h1
     have g2: ∀D,p7 (arD A.bl (killed A N)) x N.st i=some D->D.kd= .gone:=by
      intro D hD;rcases jZ hD with ⟨_,E,_,h2,rfl⟩|⟨_,h2⟩
      ·exact g1 E h2
      ·exact g1 D h2
     rcases mS hC with ⟨_,E,_,h2,rfl⟩|⟨_,h2⟩
     ·exact e0 (g2 E h2)
     ·exact e0 (g2 C h2)
    obtain⟨B',k1,k2,⟨k3,x1⟩,k4,k5⟩:=C0 i B b1;rcases b6 with ⟨g,D,h1,h2,_⟩|⟨h0,g,h1,h2⟩|⟨h0,h1,h2,h3⟩
    ·obtain⟨n0,m1,m2,m3⟩:=ayu hb (i,g) h1;simp only[] at m1 m3;rw[k1] at m1;obtain rfl:B'=n0:=by simpa using m1
     have w0:B'.kd=B.kd:=by
      rcases k4 with k4|k4
      ·exact k4
      ·exact absurd k4 m2
     have m3: ∀e,e<B'.n->B'.get e=g x e/\C.get=g x:=by
      intro e he;rcases m3 with ⟨mm,_⟩|⟨mm,_,_⟩|⟨mm,m3⟩
      ·have:=(hs.bc.maps.ok i B' k1 (by rw[mm];rfl)).1;omega
      ·have:=(hs.bc.maps.ok i B' k1 mm).1;omega
      ·refine⟨m3 e he, ?_⟩;rw[h2,T0,<-w0];cases Y:B'.kd<;>first|rfl|(rw[Y] at mm;cases mm)
     refine⟨B',k1,by rw[w0,T0],by rw[k2,b2],by rw[k3,b3],by rw[x1,b4],o0, .inl λe he=>⟨by have:=m3 e (by rw[k2,<-b2];exact he);rw[this.2];exact this.1,λs hs H J=> ?_⟩⟩;have z0:=N.clean (i,g) h1 x e;have:H∈SV.idss (g x e):=SV.mem_idss.2 ⟨s,by rw[(m3 e (by rw[k2,<-b2];exact he)).2] at hs;exact hs,J⟩;rw[show SV.idss (g x e)= [] from z0] at this;cases this
    ·obtain⟨n0,cs,m1,m2,m3,m4,m5⟩:=pn hc (i,g) h1;simp only[] at m1 m2;rw[k1] at m1;obtain rfl:B'=n0:=by simpa using m1
     have w0:B'.kd=B.kd:=by
      rcases k4 with k4|k4
      ·exact k4
      ·exact absurd k4 m3
     exact⟨B',k1,by rw[w0,T0],by rw[k2,b2],by rw[k3,b3],by rw[x1,b4],o0, .inr ⟨by rw[b2,<-k2,m4],by rw[h2,m5];exact m2⟩⟩
    ·have Y0:i∉N.ids A:=by
      unfold Ann.ids;simp only[za8,not_or];exact⟨⟨h0,h1⟩,o0⟩
     have:=k5 Y0;subst this;have z1:=h3 o0;subst z1;refine⟨C,k1,rfl,rfl,rfl,rfl,o0, .inl λe he=>⟨rfl,λs hs H J=> ?_⟩⟩;obtain⟨o,ho,e1⟩:=zbR hs;have hl:=U0 i C e o s b1 e0 he (by rw[zaa ho,e1]) H J;rcases zah H A.nx with h'|h'
     ·exact⟨h',O0 H h' hl⟩
     ·exact absurd (v1 H h') hl
   ·right;obtain⟨j,rfl⟩:=zd7 hi;rw[od] at hC;obtain⟨g,h1,h2⟩:=yo hC;exact⟨j,g,rfl,h1,h2⟩
  have q0: ∀i C,cX A N x i=some C->C.kd.map=true->i<A.nx/\ ∃B',A'.bl i=some B'/\B'.kd=C.kd/\B'.n=C.n/\GetEq C.kd B'.get C.get/\(C.kd.lst=true-> ∀e s,s∈C.get e->s.ids= []\/ ∃B e',A.bl i=some B/\B.kd.lst=true/\s∈B.get e'):=by
   intro i C hC hm;have e0:C.kd≠ .gone:=by intro e;rw[e] at hm;cases hm
   rcases key i C hC e0 with ⟨hi,B',k1,k2,k3,_,_,o0,_⟩|⟨j,g,rfl,hj,rfl⟩
   ·refine⟨hi,B',k1,k2,k3, ?_⟩;obtain⟨B,b1,b2,b3,b4,b5,b6⟩:=ary hi hC;have n1:B'.kd.map=true:=by rw[k2];exact hm
    have N1:=(hs.bc.maps.ok i B' k1 n1).1;rcases b6 with ⟨g,D,h1,h2,hD⟩|⟨h0,g,h1,h2⟩|⟨h0,h1,h2,h3⟩
    ·obtain⟨n0,m1,m2,m3⟩:=ayu hb (i,g) h1;simp only[] at m1 m3;rw[k1] at m1;obtain rfl:B'=n0:=by simpa using m1
     rcases m3 with ⟨mk,B0,m4,m5⟩|⟨_,ml,mg⟩|⟨mm,_⟩
     ·rw[b1] at m4;obtain rfl:B=B0:=by simpa using m4
      have hD:D=B.get:=by
       rcases hD with hD|hD
       ·exact hD
       ·obtain⟨⟨i2,g2⟩,B1,rfl⟩:=zaz.1 hD;obtain⟨B3,cs,l1,_,_,l4,_⟩:=pn hc (i2,g2) B1;simp only[] at l1;rw[k1] at l1;obtain rfl:B'=B3:=by simpa using l1
        omega
      have y0:C.kd= .itL:=by rw[<-k2];exact mk
      have A1:C.get=abr (g x) B.get:=by rw[h2,y0,hD];rfl
      have y1:B.kd.lst=true:=by
       rcases b5 with b5|b5
       ·rw[<-b5,y0];rfl
       ·rw[b5.1] at y0;cases y0
      rw[y0,A1];refine⟨⟨m5, .inl rfl⟩,λ_ e s i0=> ?_⟩;cases e with
      |zero=>cases i0
      |succ e=>
       replace i0:s∈onB (su (g x (e+1))) (B.get (e+1)):=i0;cases hr:B.get (e+1) with
       |nil=>rw[hr] at i0;cases i0
       |cons y r=>
        rw[hr] at i0;rcases zai.1 i0 with rfl|i0
        ·exact .inl rfl
        ·exact .inr ⟨B,e+1,b1,y1,by rw[hr];exact zan _ i0⟩
     ·have w1:C.get=g x:=by
       rw[h2,<-k2];cases Y:B'.kd<;>first|rfl|(rw[Y] at ml;cases ml)
      rw[<-k2,w1];exact⟨mg,λe=>(by rw[ml] at e;cases e)⟩
     ·rw[n1] at mm;cases mm
    ·obtain⟨n0,cs,m1,m2,m3,m4,m5⟩:=pn hc (i,g) h1;simp only[] at m1;rw[k1] at m1;obtain rfl:B'=n0:=by simpa using m1
     omega
    ·have Y0:i∉N.ids A:=by
      unfold Ann.ids;simp only[za8,not_or];exact⟨⟨h0,h1⟩,o0⟩
     obtain⟨n0,l1,_,_,_,l5⟩:=C0 i B b1;rw[k1] at l1;obtain rfl:B'=n0:=by simpa using l1
     have e1:=l5 Y0;have e2:=h3 o0;subst e1;subst e2;exact⟨GetEq.refl _ _,λY e s i0=> .inr ⟨_,e,b1,Y,i0⟩⟩
   ·cases hm
  have I0: ∀i C e s,cX A N x i=some C->C.kd.lst=true->s∈C.get e->(∀H∈s.ids,H<A.nx)/\Live (cX A N x) s:=by
   intro i C e s hC Y H0;obtain⟨_,B',_,_,_,_,h6⟩:=q0 i C hC (BK.lst_map Y);have hl:Live A.bl s:=by
    rcases h6 Y e s H0 with h0|⟨B,e',q1,q2,q3⟩
    ·intro H J;rw[h0] at J;cases J
    ·exact F1 i B e' s q1 q2 q3
   have lt: ∀H∈s.ids,H<A.nx:=λH J=>by
    rcases zah H A.nx with h|h
    ·exact h
    ·exact absurd (v1 H h) (hl H J)
   exact⟨lt,λH J=>O0 H (lt H J) (hl H J)⟩
  have live_ren: ∀(s r:SV),s.ren A.nx rs=some r->Live A'.bl r->Live (cX A N x) s:=by
   intro s r hr hl i hi;rcases(sJ (sz:=sz) (β:=β) hr).2 i hi with ⟨h1,h2⟩|⟨h1,h2⟩
   ·exact M0 i h1 (hl i h2)
   ·have:=N0 (i - A.nx) h2;rwa[show A.nx+(i - A.nx)=i by omega] at this
  have L1: ∀j g,N.gr[j]? =some g->sz j=g.sz:=λj g hj=>by simp only[sz,hj]
  have K0: ∀i,i<A.nx->i∉killed A N->i∉ck rs:=by
   intro i hi Y L0;simp only[zav] at l0;rcases l0 with l0|l0
   ·have:=hfirst l0;subst this;apply Y;unfold killed;rw[K1];exact L0
   ·have:=zak (zaf.1 l0 i L0);omega
  have V0:MapsOK W0 (cX A N x) (mh A.nx rs sz β) w:=by
   refine⟨λi C hC hm=> ?_,λi j C D hC hD hm r1 he=> ?_,λi C e s hC Y H0=>(I0 i C e s hC Y H0).2,λi C hC Y=> ?_⟩
   ·obtain⟨hi,B',k1,k2,k3,k4,_⟩:=q0 i C hC hm;obtain⟨a1,a2,a3,a4⟩:=hs.bc.maps.ok i B' k1 (by rw[k2];exact hm);rw[k2] at a4;rw[bA hi]
    exact⟨by omega,a2,a3,a4.to rfl k4 (λ_ _ _ _ _=>rfl) λY e s H0=>
     SV.conc_congr s λH J=>bA ((I0 i C e s hC Y H0).1 H J)⟩
   ·obtain⟨hi,B',k1,k2,_⟩:=q0 i C hC hm;obtain⟨hj,D',l1,l2,_⟩:=q0 j D hD r1;rw[bA hi,bA hj] at he;exact hs.bc.maps.inj i j B' D' k1 l1 (by rw[k2];exact hm) (by rw[l2];exact r1) he
   ·obtain⟨hi,B',k1,k2,_⟩:=q0 i C hC (BK.it_map Y);rw[bA hi];exact hs.bc.maps.off i B' k1 (by rw[k2];exact Y)
  refine⟨mh A.nx rs sz β,⟨⟨⟨by rw[hs.fr.defers.1,hdf];rfl,λ_ h=>by cases h⟩,by rw[hs.fr.size,H1];rfl, ?_, ?_, ?_⟩,BC.rebase (B:=W0) ⟨hs.bc.below, ?_, ?_, ?_, ?_, ?_,V0⟩ ⟨hs.bc.below.os,hs.bc.below.tape,hs.bc.below.output,hs.bc.below.size,hs.bc.below.block⟩ (λ_ _ _ _ _ h=>h) (λ_ _ _ _ _ h=>h), ?_,rfl⟩,λi hi=>bA hi,v0⟩
  ·intro t s h;obtain⟨r,h1,h2⟩:=aaJ ht (t,s) (D3 h);obtain⟨k1,k2⟩:=hs.fr.v t r h2;exact⟨k1.trans (sJ h1).1,live_ren s r h1 k2⟩
  ·intro t u b s h;exact(aur h).elim
  ·intro t u b s h;exact(aur h).elim
  ·intro i C hC e0;rcases key i C hC e0 with ⟨hi,B',k1,k2,k3,k4,k5,_,k6⟩|⟨j,g,rfl,hj,rfl⟩
   ·have q:=hs.bc.blk i B' k1 (by rw[k2];exact e0);refine⟨by rw[bA hi,q.sz,k4],by rw[bA hi];exact q.lt,by rw[bA hi,<-k3];exact q.le, ?_,by rw[bA hi,<-k4];exact q.ex, ?_, ?_,by rw[bA hi];exact q.nil,by rw[bA hi,<-k5];exact q.nn⟩
    ·intro e he;rcases k6 with k6|⟨c1,c2⟩
     ·rw[<-(k6 e he).1,q.len e (by rw[k3];exact he),k4]
     ·obtain rfl:e=0:=by omega
      have hl:=q.len 0 (by rw[k3];exact he);rw[<-k4,<-hl];have:=congrArg List.length (rens_conc (sz:=sz) (β:=β) c2).1;rw[SV.concs_eq,SV.concs_eq,zaB,zaB] at this;exact this.symm
    ·intro Y j hj;rw[bA hi];rw[bA hi,<-k4] at hj;exact q.fr (by rw[k2];exact Y) j hj
    ·intro e he o s h;have u0:addr (mh A.nx rs sz β) i e o=addr β i e o:=by unfold addr;rw[bA hi]
     rw[u0];rcases k6 with k6|⟨c1,c2⟩
     ·obtain⟨g1,g2⟩:=k6 e he;rw[SV.conc_congr s (β:=β) (β':=mh A.nx rs sz β) λH J=>bA (g2 s (zal h) H J).1];exact q.val e (by rw[k3];exact he) o s (by rw[g1];exact h)
     ·obtain rfl:e=0:=by omega
      have j0:=congrArg (λl:zdK=>l[o]?) (rens_conc (sz:=sz) (β:=β) c2).1;simp only[SV.concs_eq,zaL,h,zb0] at j0;cases P0:(B'.get 0)[o]? with
      |none=>rw[P0] at j0;cases j0
      |some r=>
       rw[P0] at j0;simp only[zb0,za1] at j0;rw[<-j0];exact q.val 0 (by rw[k3];exact he) o r P0
   ·rcases x0 j g hj with ⟨H,B',g1,g2,g3,g4,g5,g6⟩|⟨g1,g2⟩
    ·have q:=hs.bc.blk H B' g2 (by rw[g3];simp);have e1:=fG (b:=A.nx) (sz:=sz) (β:=β) g1;refine⟨by rw[e1,q.sz,g4],by rw[e1];exact q.lt,by rw[e1];exact zac g5 q.le,λe he=>by show (g.get x e).length=g.sz;rw[<-g6 e he,q.len e (zam he g5),g4],by rw[e1];simp only[<-g4];exact q.ex,λ_=>by rw[e1];simp only[<-g4];exact q.fr g3, ?_,by rw[e1];exact q.nil,λh=>by cases h⟩;intro e he o s h;have u0:addr (mh A.nx rs sz β) (A.nx+j) e o=addr β H e o:=by unfold addr;rw[e1]
     rw[u0];have z0:=N.cleanG g (zal hj) x e
     rw[SV.conc_congr s (β:=β) (β':=mh A.nx rs sz β) λk Y=>by
      have:k∈SV.idss (g.get x e):=SV.mem_idss.2 ⟨s,zal h,Y⟩
      rw[z0] at this;cases this]
     exact q.val e (by simp at he;omega) o s (by rw[g6 e he];exact h)
    ·have e1:=fH (b:=A.nx) (sz:=sz) (β:=β) g1;have e2:(mh A.nx rs sz β (A.nx+j)).nil=true:=by rw[e1]
     have e3:(mh A.nx rs sz β (A.nx+j)).cap=0:=by rw[e1]
     refine⟨by rw[e1];exact L1 j g hj,λh=>absurd (e2.symm.trans h) (by decide), ?_, ?_, ?_, ?_, ?_,λ_=>e3,λh=>nomatch h⟩
     ·simp[g2]
     ·intro e he;simp[g2] at he
     ·intro k Y;rw[e3] at Y;omega
     ·intro _ k Y;rw[e3] at Y;omega
     ·intro e he;simp[g2] at he
  ·intro i C hC Y hn;rcases key i C hC (by rw[Y];simp) with ⟨hi,B',k1,k2,_⟩|⟨j,g,rfl,hj,rfl⟩
   ·rw[bA hi] at hn ⊢;exact hs.bc.own i B' k1 (by rw[k2];exact Y) hn
   ·rcases x0 j g hj with ⟨H,B',g1,g2,g3,_⟩|⟨g1,_⟩
    ·rw[fG g1] at hn ⊢;exact hs.bc.own H B' g2 g3 hn
    ·rw[fH g1] at hn;cases hn
  ·intro i C hC Y hn;rcases key i C hC (BK.fix_ng Y) with ⟨hi,B',k1,k2,_⟩|⟨j,g,rfl,hj,rfl⟩
   ·rw[bA hi] at hn ⊢;have k3:=hs.bc.old i B' k1 (by rw[k2];exact Y) hn;rw[k2] at k3;exact k3
   ·cases Y
  ·intro i k C D hC hD Q0 R0 hn g0 a0;rcases key i C hC (by rw[Q0];simp) with ⟨hi,B',k1,k2,_,_,_,k6,_⟩|⟨j,g,rfl,hj,rfl⟩<;>rcases key k D hD (by rw[R0];simp) with ⟨Y,D',l1,l2,_,_,_,l6,_⟩|⟨j',g',rfl,j1,rfl⟩
   ·rw[bA hi] at hn a0;rw[bA Y] at g0 a0;exact hs.bc.inj i k B' D' k1 l1 (by rw[k2];exact Q0) (by rw[l2];exact R0) hn g0 a0
   ·rcases x0 j' g' j1 with ⟨H,D',g1,g2,g3,_⟩|⟨g1,_⟩
    ·rw[bA hi] at hn a0;rw[fG g1] at g0 a0;have:=hs.bc.inj i H B' D' k1 g2 (by rw[k2];exact Q0) g3 hn g0 a0;subst this;exact absurd (Wd.2 ⟨j',g1⟩) (K0 i hi k6)
    ·rw[fH g1] at g0;cases g0
   ·rcases x0 j g hj with ⟨H,D2,g1,g2,g3,_⟩|⟨g1,_⟩
    ·rw[bA Y] at g0 a0;rw[fG g1] at hn a0;have:=hs.bc.inj H k D2 D' g2 l1 g3 (by rw[l2];exact R0) hn g0 a0;subst this;exact absurd (Wd.2 ⟨j,g1⟩) (K0 H Y l6)
    ·rw[fH g1] at hn;cases hn
   ·rcases x0 j g hj with ⟨i1,D1,g1,g2,g3,_⟩|⟨g1,_⟩
    ·rcases x0 j' g' j1 with ⟨i2,D2,f1,f2,f3,_⟩|⟨f1,_⟩
     ·rw[fG g1] at hn a0;rw[fG f1] at g0 a0;have:=hs.bc.inj i1 i2 D1 D2 g2 f2 g3 f3 hn g0 a0;subst this;rw[sK Z0 g1 f1]
     ·rw[fH f1] at g0;cases g0
    ·rw[fH g1] at hn;cases hn
  ·intro i C e o s hC e0 he h;rcases key i C hC e0 with ⟨hi,B',k1,k2,k3,k4,k5,_,k6⟩|⟨j,g,rfl,hj,rfl⟩
   ·rcases k6 with k6|⟨c1,c2⟩
    ·exact λH J=>((k6 e he).2 s (zal h) H J).2
    ·obtain rfl:e=0:=by omega
     intro H J;rcases(rens_conc (sz:=sz) (β:=β) c2).2 H (SV.mem_idss.2 ⟨s,zal h,J⟩) with ⟨h1,h2⟩|⟨h1,h2⟩
     ·obtain⟨y,hy,E1⟩:=SV.mem_idss.1 h2;obtain⟨q,hq,e1⟩:=zbR hy;exact M0 H h1 (hs.bc.live i B' 0 q y k1 (by rw[k2];exact e0) (by omega) (by rw[zaa hq,e1]) H E1)
     ·have:=N0 (H - A.nx) h2;rwa[show A.nx+(H - A.nx)=H by omega] at this
   ·intro H J;have z0:=N.cleanG g (zal hj) x e;have:H∈SV.idss (g.get x e):=SV.mem_idss.2 ⟨s,zal h,J⟩;rw[z0] at this;cases this
  ·intro i hi;have J:A.nx+N.gr.length<=i:=hi;obtain⟨j,rfl⟩:=zd7 (show A.nx<=i by omega);show cX A N x (A.nx+j)=none;rw[od];cases C1:grB x N.gr j with
   |none=>rfl
   |some C=>have:=Wm.1 (by rw[C1];simp:grB x N.gr j≠none);omega
theorem Ar {nx:Nat} {wl ids:zdH} (h:Gs nx wl ids=true) (hi:i∈wl) (N:i<nx):i∈ids:=by
 unfold Gs at h;simp only[zaf,zav] at h;rcases h i hi with h|h
 ·have:=zak h;omega
 ·simp only[zaP] at h;obtain⟨j,J,H⟩:=h;rw[zab H];exact J
def As (P:Program) (W0:Base) (H:Frame) (c:Code) (body:(Exit->zdS)->zdS):Prop:=
 ∀(K:Exit->zdS) (A:AS) (β:zdI) (a:Act) (w:World),body K A->IsX P W0 A β a w->WpB P H c (Post P W0 A β K) a w
theorem IsX.frame (h:IsX P W0 A β a w) (wl:zdH):IsX P W0 {A with wl:=wl} β a w:=by
 obtain⟨B,h1,h2,h3,h4⟩:=h;exact⟨B,h1,h2,⟨h3.fr.frame _ _,h3.bc,h3.nx,h3.sd⟩,h4⟩
theorem IsX.endG (h:IsX P W0 A β a w):IsX P W0 (endG A) β a w:=by
 obtain⟨B,h1,h2,h3,h4⟩:=h;exact⟨B,h1,h2,⟨apL h3.fr,h3.bc,h3.nx,h3.sd⟩,h4⟩
theorem adZ: ∀{l:zdJ} {o:Nat} {s:SV},l[o]? =some s->gZ l o [s]=l:=by
 intro l o s h;have N:o<l.length:=by
  rcases zah o l.length with H|H
  ·exact H
  ·rw[zad H] at h;cases h
 apply List.ext_getElem?;intro j;rw[jR (show o+ [s].length<=l.length from N)];split
 ·rename_i J;obtain rfl:j=o:=by simp at J;omega
  rw[h];simp
 ·rfl
theorem ach {K:zdS}: ∀{l:List (Nat×Nat×Nat×SV)} {A:AS},aes l A K->K A/\ ∀K':zdS,K' A->aes l A K'
 | [],A,h=>⟨h,λK' J=>J⟩
 |(i,e,o,s)::r,A,h=>by
  simp only[aes] at h ⊢;split at h
  ·rename_i B hB;obtain⟨h1,h2⟩:=h;have hp:B.put e o [s]=B:=by
    have:(B.put e o [s]).get=B.get:=by
     funext j
     rw[Blk.put_get];split
     ·rename_i H;subst H;exact adZ h1
     ·rfl
    show ({B with get:=(B.put e o [s]).get}:Blk)=B;rw[this]
   have N:({A with bl:=upd A.bl i (B.put e o [s])}:AS)=A:=by
    have:upd A.bl i (B.put e o [s])=A.bl:=by
     funext j
     by_cases H:j=i
     ·subst H;rw[az,hp,hB]
     ·rw[ak H]
    rw[this]
   rw[N] at h2;obtain⟨k1,k2⟩:=ach h2;refine⟨k1,λK' J=> ?_⟩;rw[N];exact⟨h1,k2 K' J⟩
  ·exact h.elim
theorem ad0 {K:zdS} {l:List (Nat×Nat×Nat×SV)} (h:aes l A K):K A:=(ach h).1
variable {fb:Frame} {K:Exit->zdS}
theorem yp {c:Code} {body:(Exit->zdS)->zdS} (hb:As P W0 fb c body) 
 (h:MV body N K A) (hx:IsX P W0 A β a w):WpB P fb (.loop c) (Post P W0 A β K) a w:=by
 obtain⟨x0,h1,h2,h4⟩:=h;have h4:=rO h4;obtain⟨B0,u0,n0,hs,hside0⟩:=hx;have E0: ∀{B:Base} {A':AS} {β' γ:zdI} {x:N.X} {a':Act} {w':World},SubB B W0->(∀b,B.out b->W0.out b)->SideOK P W0 B A' β'->Is {B with sd:=aI2 A N x} (rQ A N x) γ a' w'->(∀i,i<A.nx->γ i=β' i)->(∀i,A.bl i≠none->A'.bl i≠none)->
  (A.sd.2=none\/ ∃i t j,A.sd.2=some (i,t)/\A'.sd.2=some (i,N.sb x)/\j=A'.sd.1/\bdE A.sd.1 j=true)->IsX P W0 (rQ A N x) γ a' w':=by
  intro B A' β' γ x a' w' C0 z0 q0 l0 hγ I0 K0;refine⟨{B with sd:=aI2 A N x},C0,z0,l0,λi t hi=> ?_⟩;have hi:(aI2 A N x).2=some (i,t):=hi;rcases K0 with J|⟨i0,t0,j,e1,e2,e3,e4⟩
  ·have:aI2 A N x=A.sd:=by unfold aI2;rw[J]
   rw[this,J] at hi;cases hi
  ·have e5:aI2 A N x=(A.sd.1,some (i0,N.sb x)):=by unfold aI2;rw[e1]
   rw[e5] at hi;simp only[za1,zag] at hi;obtain⟨rfl,rfl⟩:=hi;obtain⟨k1,d,at',b,g,k2,k3,k4⟩:=q0 i0 _ e2;obtain⟨l1,_⟩:=hside0 i0 _ e1;have y0:i0<A.nx:=by
    rcases zah i0 A.nx with h|h
    ·exact h
    ·exact absurd (hs.nx i0 h) l1
   have hd:A.sd.1=some d:=by
    rw[e3,k2] at e4;unfold bdE at e4;split at e4
    ·rename_i d1 d2 q1 q2;simp only[za1] at q2;subst q2;simp only[za2,bS,zdt] at e4;rw[q1];obtain⟨a1,a2,a3⟩:=d1;obtain⟨b1,b2,b3⟩:=d;simp only at e4;obtain⟨⟨rfl,rfl⟩,rfl⟩:=e4;rfl
    ·cases e4
   refine⟨?_,d,at',b,g, ?_,k3, ?_⟩
   ·show cX A N x i0≠none;exact(fI y0).1 l1
   ·show (aI2 A N x).1=some d;rw[e5];exact hd
   ·rw[hγ i0 y0];exact k4
 have a0: ∀{i:Nat} {B:Blk},A.bl i=some B->i<A.nx:=λ{i B} hB=>by
  rcases zah i A.nx with h|h
  ·exact h
  ·rw[hs.nx i h] at hB;cases hB
 have key: ∀(m:Nat) (x:N.X) (a:Act) (w:World) (γ:zdI),N.mu x<m->N.inv x->IsX P W0 (rQ A N x) γ a w->(∀i,i<A.nx->A.bl i≠none->γ i=β i)->
  aye P fb c (Post P W0 A β K) m a w:=by
  intro m
  induction m with
  |zero=>intro x a w γ hm;omega
  |succ m ih=>
   intro x a w γ hm hx l0 hγ;refine WpB.mono ?_ (hb _ _ γ a w (h4 x hx) l0);rintro e a' w' ⟨A',H0,hk,g0,ht⟩;have Y: ∀i B,A.bl i=some B-> ∃B',A'.bl i=some B'/\B'.n=B.n/\(B'.sz=B.sz/\B'.nn=B.nn)/\(B'.kd=B.kd\/B'.kd= .gone)/\(i∉N.ids A->i∉A'.wl->B'=B):=by
    intro i B hB;have hi:=a0 hB;have hd:cX A N x i≠none:=(fI hi).1 (by rw[hB];simp);cases hC:cX A N x i with
    |none=>exact absurd hC hd
    |some C=>
     obtain⟨B',k1,k2,⟨k3,L0⟩,k4,k5⟩:=ht.tr.keep i C hC;obtain⟨B0,b1,b2,b3,b4,b5,b6⟩:=ary hi hC;rw[hB] at b1;obtain rfl:B=B0:=by simpa using b1
     refine⟨B',k1,by rw[k2,b2],⟨by rw[k3,b3],by rw[L0,b4]⟩, ?_,λJ hw=> ?_⟩
     ·rcases k4 with k4|k4
      ·rcases b5 with b5|b5
       ·exact .inl (k4.trans b5)
       ·exact .inr (k4.trans b5.1)
      ·exact .inr k4
     ·unfold Ann.ids at J;simp only[za8,not_or] at J;rcases b6 with ⟨g,_,h1,_,_⟩|⟨_,g,h1,_⟩|⟨_,_,_,h3⟩
      ·exact absurd (zaz.2 ⟨_,h1,rfl⟩) J.1.1
      ·exact absurd (zaz.2 ⟨_,h1,rfl⟩) J.1.2
      ·rw[k5 hw,h3 J.2]
   have j0: ∀i,i<A.nx->A.bl i=none->A'.bl i=none:=λi hi h0=>ht.tr.new i (show i<A.nx+N.gr.length by omega) (by
    cases hC:cX A N x i with
    |none=>exact hC
    |some C=>exact absurd h0 ((fI hi).2 (by rw[hC];simp)))
   have e0: ∀i,i<A.nx->A.bl i≠none->H0 i=β i:=λi J hi=>(ht.tr.same i ((fI J).1 hi)).trans (hγ i J hi);have H: ∀e,e≠ .normal->aes N.fix {A' with wl:=N.ids A++A'.wl++A.wl} (K e)->Post P W0 A β K e a' w':=λe _ hk=>by
    have hk:=ad0 hk;refine⟨_,H0,hk,g0.frame _,⟨⟨?_,λi hi=> ?_,j0⟩,λi hi=>by simp[hi],zac (zd8 _ _) ht.nx,ht.nt⟩⟩
    ·intro i B hB;obtain⟨B',k1,k2,k3,k4,k5⟩:=Y i B hB;refine⟨B',k1,k2,k3,k4,λhi=> ?_⟩;simp only[za8,not_or] at hi;exact k5 hi.1.1 hi.1.2
    ·cases hB:A.bl i with
     |none=>exact absurd hB hi
     |some B=>exact e0 i (a0 hB) hi
   cases e with
   |normal=>
    obtain⟨g6,x',g1,g2,g3⟩:=Xg.1 hk;obtain⟨B1,v0,o0,w0,hside1⟩:=g0
    obtain⟨δ,d1,d2,d3⟩:=Ci hs.nx hs.bc.live hs.bc.maps.live N x' false w0 ht.nt (λh=>by cases h) (λi B hB=>by
     obtain⟨B',k1,k2,k3,k4,k5⟩:=Y i B hB
     exact⟨B',k1,k2,k3,k4,λJ=>k5 J λhw=>J (Ar g6 hw (a0 hB))⟩) j0 g3
    refine ih x' a' w' δ (by omega) g1 (E0 v0 o0 hside1 d1 d2 (λi hi=> ?_) d3) λi J hi=>(d2 i J).trans (e0 i J hi);cases hB:A.bl i with
    |none=>exact absurd hB hi
    |some B=>obtain⟨B',k1,_⟩:=Y i B hB;rw[k1];simp
   |exit id=>exact H _ (by simp) hk
   |goto l=>exact H _ (by simp) hk
   |ret=>exact H _ (by simp) hk
   |panic ch=>exact H _ (by simp) hk
   |outgrown=>exact H _ (by simp) hk
 obtain⟨δ,d1,d2,d3⟩:=Ci hs.nx hs.bc.live hs.bc.maps.live N x0 true hs rfl (λ_=>rfl) (λi B hB=>⟨B,hB,rfl,⟨rfl,rfl⟩, .inl rfl,λ_=>rfl⟩) (λ_ _ h=>h) h2;exact WpB.loop_rounds (N.mu x0+1) (key _ x0 a w δ (by omega) h1 (E0 u0 n0 hside0 d1 d2 (λi hi=>hi) d3) (λi hi _=>d2 i hi))
theorem oe {fb:Frame} {c:Code} {body:(Exit->zdS)->zdS} (hb:As P W0 fb c body) {K:Exit->zdS} {A0:AS} {β0:zdI}: ∀(n:Nat) (A:AS) (β:zdI) (a:Act) (w:World),
 mK body n K A->IsX P W0 A β a w->Trs A0 β0 A β->aye P fb c (Post P W0 A0 β0 K) n a w
 |0,A,β,a,w,h,_,_=>by simp[mK] at h
 |n+1,A,β,a,w,h,hs,Y=>by
  simp only[mK] at h;refine WpB.mono ?_ (hb _ A β a w h hs);rintro e a' w' ⟨A',β',N,H,J⟩;cases e with
  |normal=>exact oe hb n A' β' a' w' N H (Y.trans J)
  |exit id=>exact⟨A',β',N,H,Y.trans J⟩
  |goto l=>exact⟨A',β',N,H,Y.trans J⟩
  |ret=>exact⟨A',β',N,H,Y.trans J⟩
  |panic ch=>exact⟨A',β',N,H,Y.trans J⟩
  |outgrown=>exact⟨A',β',N,H,Y.trans J⟩
variable {b:Bool}
theorem aFr {a:Bool}:(a&&b)=true↔a=true/\b=true:=by cases a<;>cases b<;>simp
variable {inl:Inl}
theorem az8 {fid:FuncId} {g:Operand} {ps:Array Tmp} {assign body:Code} {gf:FuncId} {caps:zdJ} {Q:zdN}
 (hro:fb.roundOf=none) (hfid:fb.fn=fid) (hinl:InlOK P W0 inl) (hg:ev A.tm [] g=some (.fn (.func gf) [] caps))
 (h:inl gf (.yl (A.nx+1)::caps) (upd (upd A.bl A.nx dmB) (A.nx+1) (lpB fid A ps assign body)) (A.nx+2) [] (ays A K)) (hs:Is W0 A β a w)
 (hQ: ∀e a' w' A' β',K e A'->Is W0 A' β' a' w'->Trs A β A' β'->Q e a' w'):WpB P fb (.rangeFunc g ps assign body) Q a w:=by
 obtain⟨e1,l1⟩:=bu hs.fr (G:= []) (λp hp=>by cases hp) hg;have h0:A.bl A.nx=none:=hs.nx _ (za0 _);have h1:A.bl (A.nx+1)=none:=hs.nx _ (by omega);have n1:upd A.bl A.nx dmB (A.nx+1)=none:=by rw[ak (by omega)];exact h1
 have lcap: ∀s∈caps,Live A.bl s:=λs hs' i hi=>l1 i (by simp only[SV.ids,za8];exact .inr (SV.mem_idss.2 ⟨s,hs',hi⟩));have b1:=hs.bc.newObj h0 (kd:= .dm) rfl (get:=λ_=> []) (ob:= .deferred (some [])) ⟨some [],World.alloc_heap_new w _,λ_=>rfl⟩ (λh=>by cases h);have hsz:(w.alloc (.deferred (some []))).heap.size=w.heap.size+1:=by simp[World.alloc_eq]
 have lg: ∀t s,lpG A (t+1)= [s]->A.tm t= .v s:=λt s ht=>by
  cases e:A.tm t with
  |v s'=>
   rw[show lpG A (t+1)= [s'] by simp[lpG,e]] at ht;obtain rfl:s'=s:=by simpa using ht
   rfl
  |_=>rw[show lpG A (t+1)= [] by simp[lpG,e]] at ht;cases ht
 have b2:=b1.newObj n1 (kd:= .lp ⟨fid,A.nt,ps,assign,body⟩) rfl (get:=lpG A) (ob:= .loop {state:= .ready,pending:=none,fn:=fb.fn,tmps:=a.tmps,params:=ps,assign:=assign,body:=body,defers:=w.heap.size})
  ⟨_,(.ready,none),World.alloc_heap_new _ _,rfl,⟨rfl, .inr rfl,hfid,rfl,rfl,rfl,hs.fr.size⟩,λt s ht=>by
    obtain⟨k1,k2⟩:=hs.fr.v t s (lg t s ht)
    rw[(k2.upd (B:=dmB)).conc n1,k2.conc h0];exact k1⟩ (λ_ e s hse=>by
    cases e with
    |zero=>cases hse
    |succ t=>
     cases e:A.tm t with
     |v s'=>
      rw[show lpG A (t+1)= [s'] by simp[lpG,e]] at hse;rw[zaj.1 hse];exact((hs.fr.v t s' e).2).upd
     |_=>rw[show lpG A (t+1)= [] by simp[lpG,e]] at hse;cases hse)
 generalize hβ2:gp (gp β A.nx (⟨w.heap.size,0,0,0,false⟩:Loc)) (A.nx+1) (⟨(w.alloc (.deferred (some []))).heap.size,0,0,0,false⟩:Loc)=β2 at b2;have q0:β2 A.nx=⟨w.heap.size,0,0,0,false⟩:=by rw[<-hβ2,aC (by omega),aA]
 have q1:β2 (A.nx+1)=⟨w.heap.size+1,0,0,0,false⟩:=by rw[<-hβ2,aA,hsz]
 have q2: ∀i,A.bl i≠none->β2 i=β i:=λi hi=>by rw[<-hβ2,aC (by rintro rfl;exact hi h1),aC (by rintro rfl;exact hi h0)]
 have qc:SV.concs β2 caps=SV.concs β caps:=SV.concs_congr caps λi hi=>by
  obtain⟨s,hs',hi⟩:=SV.mem_idss.1 hi;exact q2 i (lcap s hs' i hi)
 generalize hbl2:upd (upd A.bl A.nx dmB) (A.nx+1) (lpB fid A ps assign body)=bl2 at h;rw[show (upd (upd A.bl A.nx {n:=0,sz:=0,get:=λ_=> [],kd:= .dm}) (A.nx+1) {n:=0,sz:=0,get:=lpG A,kd:= .lp ⟨fid,A.nt,ps,assign,body⟩})=bl2 from hbl2] at b2;have r0:bl2 A.nx=some dmB:=by rw[<-hbl2,ak (by omega),az]
 have r1:bl2 (A.nx+1)=some (lpB fid A ps assign body):=by rw[<-hbl2,az]
 have r2: ∀i,i≠A.nx->i≠A.nx+1->bl2 i=A.bl i:=λi hi hj=>by rw[<-hbl2,ak hj,ak hi]
 have r3: ∀i,A.bl i≠none->bl2 i=A.bl i:=λi hi=>r2 i (by rintro rfl;exact hi h0) (by rintro rfl;exact hi h1)
 obtain⟨hcb,hcalls⟩:=hinl.call gf _ bl2 (A.nx+2) [] (ays A K) β2 _ h b2 (λi hi=>by rw[r2 i (by omega) (by omega)];exact hs.nx i (by omega)) (λs hs'=>by
  rcases zai.1 hs' with rfl|hs'
  ·intro i hi;obtain rfl:i=A.nx+1:=by simpa [SV.ids] using hi
   rw[r1];simp
  ·intro i hi;have:=lcap s hs' i hi
   rw[r3 i this];exact this)
 have hargs:(SV.concs β2 (.yl (A.nx+1)::caps)).toArray= #[.func (.yield (w.heap.size+1)) #[] #[]]++(SV.concs β caps).toArray:=by
  simp[SV.concs,SV.conc,q1,qc]
 rw[hargs] at hcalls;have hinv: ∀W:World,(invoke (Target.fn (.func gf) (SV.concs β caps).toArray) #[.func (.yield (w.heap.size+1)) #[] #[]]).run P W= .ok (.enter gf (#[.func (.yield (w.heap.size+1)) #[] #[]]++(SV.concs β caps).toArray)) W:=λW=>by
  simp[invoke,go_sem,hcb]
  try exact hcb _ _
 have henter:=run_enterLoop_outer (P:=P) (w:=w) fb.fn a.tmps ps assign body;rw[<-hro] at henter
 refine WpB.range henter (d:={target:= .fn (.func gf) (SV.concs β caps).toArray,args:= #[.func (.yield (w.heap.size+1)) #[] #[]]}) (by
  have e1':a.eval g= .func (.func gf) #[] (SV.concs β caps).toArray:=by simpa [SV.conc,SV.concs] using e1
  simp only[resolve,e1',rangeCall]
  simp[go_sem,Act.eval]) (f:=gf) (hinv _) (Calls.mono hcalls ?_)
 rintro e w' ⟨β',r,bl',nx',wl',he,hk,k1,k2,k3,k4,k5,k6⟩;have trA: ∀(bl3:zdL) (wl3:zdH),(∀i,i≠A.nx+1->bl3 i=bl' i)->(∀i∈wl',i∈wl3)->Tr A.bl A.nx (wl3++A.wl) β bl3 β':=λbl3 wl3 hb hw=>by
  refine⟨λi X hX=> ?_,λi hi=>(k4.same i (by rw[r3 i hi];exact hi)).trans (q2 i hi),λi hi hn=> ?_⟩
  ·have hi:A.bl i≠none:=by rw[hX];simp
   obtain⟨X',a1,a2,a3,a4,a5⟩:=k4.keep i X (by rw[r3 i hi];exact hX);exact⟨X',by rw[hb i (by rintro rfl;exact hi h1)];exact a1,a2,a3,a4,λhn=>a5 λhm=>hn (zbI _ (hw i hm))⟩
  ·rw[hb i (by omega)];exact k4.new i (by omega) (by rw[r2 i (by omega) (by omega)];exact hn)
 have hdm:bl' A.nx≠none:=k4.dom (by rw[r0];simp);have fin: ∀(bl3:zdL) (wl3:zdH) (w3:World),(∀i,i≠A.nx+1->bl3 i=bl' i)->(∀i∈wl',i∈wl3)->BC W0 bl3 β' w3->NX bl3 nx'->
  Is W0 (EI A bl3 nx' wl3) β' {a with defers:= [{target:= .collected w.heap.size,args:= #[]}]++a.defers} w3/\Trs A β (EI A bl3 nx' wl3) β':=λbl3 wl3 w3 hb hw hbc hnx=>by
  have t:=trA bl3 wl3 hb hw;have fr:=hs.fr.carry t;refine⟨⟨⟨⟨?_,λp hp=> ?_⟩,fr.size,fr.v,fr.opt,fr.os⟩,hbc,hnx,hs.sd⟩,⟨t,λi hi=>zb1 _ hi,by show A.nx<=nx';omega,rfl⟩⟩
  ·show _=List.map (NF β') ((A.nx+yB, [], [])::A.df);rw[zaK,<-fr.defers.1,NF,show vA (A.nx+yB,([]:zdJ),([]:zdJ))=true from zae (Nat.le_add_left _ _),zdr];show _={target:=Target.collected (β' (A.nx+yB - yB)).blk,args:= #[]}::a.defers;rw[Nat.add_sub_cancel,k4.same A.nx (by rw[r0];simp),q0];rfl
  ·rcases zai.1 hp with rfl|hp
   ·refine⟨λs hs'=>by simp at hs',λ_=> ?_⟩;show bl3 (A.nx+yB - yB)≠none;rw[Nat.add_sub_cancel,hb _ (by omega)];exact hdm
   ·exact fr.defers.2 p hp
 cases r with
 |pan v=>
  obtain rfl:e=_:=he;obtain⟨g1,g2⟩:=fin bl' wl' w' (λ_ _=>rfl) (λ_ h=>h) k1 k2;exact hQ _ _ _ _ β' hk g1 g2
 |ok r=>
  obtain rfl:e=_:=he;simp only[ays] at hk;split at hk
  ·rename_i X hX;have key: ∀{r:LRec},X.kd= .lp r-> ∃L x,w'.heap[w.heap.size+1]? =some (.loop L)/\stL (X.get 0)=some x/\L.state=x.1/\(x.1= .exhausted\/L.pending=x.2)/\BC W0 (upd bl' (A.nx+1) {X with kd:= .gone}) β' (w'.putObj (w.heap.size+1) (.loop {L with state:= .exhausted})):=λ{r} hkd=>by
    have hm:X.kd.map=true:=by rw[hkd];rfl
    obtain⟨m1,m2,m3,m4⟩:=k1.maps.ok _ X hX hm;have hb:(β' (A.nx+1)).blk=w.heap.size+1:=by rw[k4.same _ (by rw[r1];simp),q1]
    rw[hkd,hb] at m4;obtain⟨L,x,o1,o2,o3,o4⟩:=m4;refine⟨L,x,o1,o2,o3.st,o3.pend, ?_⟩;have hlt:=(zaq.1 o1).1
    have s1:=k1.setMap hX hm (o':= .loop {L with state:= .exhausted}) (get':=aAN [.val (.bool false)] X.get) (by
     rw[hkd,hb];exact⟨{L with state:= .exhausted},(.exhausted,none),World.putObj_heap_same hlt,rfl,⟨rfl, .inl rfl,o3.fn,o3.ps,o3.assign,o3.body,o3.size⟩,λt s ht=>o4 t s ht⟩) (λhl e s hse=>by
     cases e with
     |zero=>intro i hi;rw[zaj.1 hse] at hi;cases hi
     |succ t=>exact k1.maps.live _ X (t+1) s hX hl hse) (.inl λ_ _ e=>by rw[hb,o1] at e;cases e)
    rw[hb] at s1;have s2:=s1.kill (A.nx+1) (X:={X with kd:= .gone}) rfl;rwa[J6] at s2
   have hw: ∀i∈wl',i∈(A.nx+1)::wl':=λi hi=>zan _ hi;have hbk: ∀i,i≠A.nx+1->upd bl' (A.nx+1) {X with kd:= .gone} i=bl' i:=λi hi=>ak hi;have hnx3:NX (upd bl' (A.nx+1) {X with kd:= .gone}) nx':=λi hi=>by rw[ak (by omega)];exact k2 i hi
   split at hk
   ·rename_i r hkd hg0;obtain⟨L,x,o1,o2,o3,o4,o5⟩:=key hkd;rw[hg0] at o2;obtain rfl:(LoopState.ready,none)=x:=zbj o2;obtain⟨g1,g2⟩:=fin _ _ _ hbk hw o5 hnx3;have hp:=o4.resolve_left (by simp);refine⟨L.pending,_,run_endLoop o1 (by rw[o3];simp), ?_⟩;generalize w'.putObj (w.heap.size+1) (.loop {L with state:= .exhausted})=w3 at g1 ⊢;rw[hp];exact hQ _ _ _ _ β' hk g1 g2
   ·rename_i r _ hkd hg0;obtain⟨L,x,o1,o2,o3,o4,o5⟩:=key hkd;rw[hg0] at o2;obtain rfl:(LoopState.done,some Code.ret)=x:=zbj o2;obtain⟨g1,g2⟩:=fin _ _ _ hbk hw o5 hnx3;have hp:=o4.resolve_left (by simp);refine⟨L.pending,_,run_endLoop o1 (by rw[o3];simp), ?_⟩;generalize w'.putObj (w.heap.size+1) (.loop {L with state:= .exhausted})=w3 at g1 ⊢;rw[hp];exact WpB.ret (hQ _ _ _ _ β' hk g1 g2)
   ·rename_i r _ _ i hkd hg0;obtain⟨L,x,o1,o2,o3,o4,o5⟩:=key hkd;rw[hg0] at o2;obtain rfl:(LoopState.done,some (Code.exit i.toNat))=x:=zbj o2;obtain⟨g1,g2⟩:=fin _ _ _ hbk hw o5 hnx3;have hp:=o4.resolve_left (by simp);refine⟨L.pending,_,run_endLoop o1 (by rw[o3];simp), ?_⟩;generalize w'.putObj (w.heap.size+1) (.loop {L with state:= .exhausted})=w3 at g1 ⊢;rw[hp];exact WpB.exit (hQ _ _ _ _ β' hk g1 g2)
   ·exact hk.elim
  ·exact hk.elim
theorem eV {Γ:zdP} (hΓ:GamOK P W0 Γ) (j0:P.follows .mixedOrders=true) {inl:Inl} (a0: ∀B,SubB B W0->InlOK P B inl) (Y:cF inl) {fb:Frame} {fid:FuncId} (g0:fb.fn=fid) (ann:Nat->Option (AS->Ann)): ∀c:Code,(fb.roundOf=none\/c.noDef=true)->As P W0 fb c (vc P Γ inl fid ann c)
 | .skip=>λhd K A β a w h J=>WpB.skip ⟨A,β,h,J,Trs.refl _ _⟩
 | .label l=>λhd K A β a w h J=>WpB.label ⟨A,β,h,J,Trs.refl _ _⟩
 | .seq x y=>λhd K A β a w h J=>by
   refine WpB.seq (WpB.mono ?_ (eV hΓ j0 a0 Y g0 ann x (hd.imp id λh=>(aFr.1 h).1) _ A β a w h J));rintro e a' w' ⟨A',β',hk,N,ht⟩;cases e with
   |normal=>exact WpB.mono (Post.from ht) (eV hΓ j0 a0 Y g0 ann y (hd.imp id λh=>(aFr.1 h).2) K A' β' a' w' hk N)
   |exit id=>exact⟨A',β',hk,N,ht⟩
   |goto l=>exact⟨A',β',hk,N,ht⟩
   |ret=>exact⟨A',β',hk,N,ht⟩
   |panic ch=>exact⟨A',β',hk,N,ht⟩
   |outgrown=>exact⟨A',β',hk,N,ht⟩
 | .cond c t f=>λhd K A β a w h J=>by
   simp only[vc] at h;split at h
   ·rename_i b hb;obtain⟨e1,_⟩:=bu (IsX.up J).fr (G:= []) (λp hp=>by cases hp) hb;obtain⟨h1,h2⟩:=VH.1 h;refine WpB.cond (t:=b) (by simpa [SV.conc] using e1) (λy0=> ?_) (λw0=> ?_)
    ·exact eV hΓ j0 a0 Y g0 ann t (hd.imp id λh=>(aFr.1 h).1) K A β a w (h1 y0) J
    ·exact eV hΓ j0 a0 Y g0 ann f (hd.imp id λh=>(aFr.1 h).2) K A β a w (h2 w0) J
   ·exact h.elim
 | .block id c=>λhd K A β a w h J=>by
   simp only[vc] at h;refine WpB.block (WpB.mono ?_ (eV hΓ j0 a0 Y g0 ann c hd _ A β a w h J));rintro e a' w' ⟨A',β',hk,N,ht⟩;cases e with
   |exit i=>
    simp only[Exit.inBlock] at hk ⊢;by_cases hi:i=id
    ·subst hi;simp at hk;rw[if_pos rfl];exact⟨A',β',hk,N,ht⟩
    ·have:Nat.beq i id=false:=by rw[bS];simpa using hi
     rw[this] at hk;rw[if_neg hi];exact⟨A',β',hk,N,ht⟩
   |normal=>exact⟨A',β',hk,N,ht⟩
   |goto l=>exact⟨A',β',hk,N,ht⟩
   |ret=>exact⟨A',β',hk,N,ht⟩
   |panic ch=>exact⟨A',β',hk,N,ht⟩
   |outgrown=>exact⟨A',β',hk,N,ht⟩
 | .loop c=>λhd K A β a w h J=>by
   simp only[vc] at h;split at h
   ·exact WpB.loop_rounds 40 (oe (eV hΓ j0 a0 Y g0 ann c hd) 40 A β a w h J (Trs.refl _ _))
   ·exact yp (eV hΓ j0 a0 Y g0 ann c hd) h J
 | .scope c=>λhd K A β a w h J=>by
   simp only[vc] at h;refine WpB.scope (WpB.mono ?_ (eV hΓ j0 a0 Y g0 ann c hd _ A β a w h J));rintro e a' w' ⟨A',β',hk,N,ht⟩;cases e with
   |goto l=>exact hk.elim
   |normal=>exact⟨A',β',hk,N,ht⟩
   |exit id=>exact⟨A',β',hk,N,ht⟩
   |ret=>exact⟨A',β',hk,N,ht⟩
   |panic ch=>exact⟨A',β',hk,N,ht⟩
   |outgrown=>exact⟨A',β',hk,N,ht⟩
 | .exit id=>λhd K A β a w h J=>WpB.exit ⟨A,β,h,J,Trs.refl _ _⟩
 | .ret=>λhd K A β a w h J=>WpB.ret ⟨A,β,h,J,Trs.refl _ _⟩
 | .region C0 ops o0=>λhd K A β a w h J=>by
   simp only[vc] at h;cases o0 with
   |true=>
    simp only[zdr] at h;cases q0:Ac Γ A ops.toList with
    |true=>
     rw[q0] at h;simp only[zdr] at h;obtain⟨x0,h⟩:=Xg.1 h;rw[asl] at h;obtain⟨B,e0,l0,J,i0⟩:=J;exact Aq (hΓ.sub e0) j0 (λC hC=>a0 C (hC.trans e0)) Y (hdf:=hd) x0 h J (λv A' a' w' β' hk n0 H=>⟨_,β',hk,(IsX.wrap e0 l0 J i0 n0 H).endG,⟨H.tr,H.wl,H.nx,H.nt⟩⟩) λA' a' w' β' hk n0 H=>⟨_,β',hk,(IsX.wrap e0 l0 J i0 n0 H).endG,⟨H.tr,H.wl,H.nx,H.nt⟩⟩
    |false=>
    rw[q0] at h;simp only[zdq] at h;obtain⟨B,e0,l0,J,i0⟩:=J;refine Aj (hdf:=hd) (hΓ.sub e0) j0 (K:=λA' tr=>K .normal {endG A' with nx:=A.nx+ops.size,wl:=alD tr++A.wl}) h J.fr J.bc ?_;intro A' tr a' w' β' hk z0 v0 H h1 h2 h3 u0 h4;have ht:Trs A β {endG A' with nx:=A.nx+ops.size,wl:=alD tr++A.wl} β':=⟨H.mono λi hi=>by simp[hi],λi hi=>by simp[hi],by show A.nx<=A.nx+ops.size;omega,h3⟩;refine⟨_,β',hk,IsX.wrap e0 l0 J i0 ⟨(apL z0).frame _ _,v0, ?_,u0.trans J.sd⟩ ht,ht⟩;exact λi hi=>h4 (λj hj=>J.nx j (by omega)) i hi
   |false=>
    simp only[zdq] at h;refine WpB.region_list hd (sC hΓ a0 (A0:=A) (β0:=β) ?_ ?_ ops.toList A a w β h J (Trs.refl _ _))
    ·intro A' a' w' β' hk n0 H;exact⟨_,β',hk,n0.endG,⟨H.tr,H.wl,H.nx,H.nt⟩⟩
    ·intro v A' a' w' β' hk n0 H;exact⟨_,β',hk,n0.endG,⟨H.tr,H.wl,H.nx,H.nt⟩⟩
 | .rangeFunc g ps assign body=>λhd K A β a w h J=>by
   have B0:fb.roundOf=none:=hd.resolve_right (by intro h;cases h);simp only[vc] at h;split at h
   ·rename_i gf caps hg;obtain⟨hdf,h⟩:=Xg.1 h;obtain⟨B,e0,l0,J,i0⟩:=J;exact az8 B0 g0 (a0 B e0) hg h J λe a' w' A' β' hk n0 ht=>⟨A',β',hk,IsX.wrap e0 l0 J i0 n0 ht,ht⟩
   ·exact h.elim
 | .goto l=>λhd K A β a w h J=>by simp[vc] at h
 | .refuse s=>λhd K A β a w h J=>by simp[vc] at h
structure Fr (A A':AS):Prop where
 nxs:NX A'.bl A'.nx
 nx:A.nx<=A'.nx
 wl: ∀j∈A.wl,j∈A'.wl
 keep: ∀j B,A.bl j=some B->j∉A'.wl->A'.bl j=some B
 new: ∀j,j<A.nx->A.bl j=none->A'.bl j=none
theorem Fr.refl (h:NX A.bl A.nx):Fr A A:=⟨h,za0 _,λ_ h=>h,λ_ _ h _=>h,λ_ _ h=>h⟩
theorem Fr.trans {B C:AS} (h:Fr A B) (k:Fr B C):Fr A C:=
 ⟨k.nxs,zac h.nx k.nx,λj H=>k.wl j (h.wl j H),λj D J H=>k.keep j D (h.keep j D J λN=>H (k.wl j N)) H,λj H h0=>k.new j (zam H h.nx) (h.new j H h0)⟩
def NiceS (A:AS) (T:(Exit->zdS)->Prop):Prop:=Nice (λo:Exit×AS=>Fr A o.2) λK=>T λe A'=>K (e,A')
variable {A1:AS}
theorem NiceS.one (H:Exit) (h:Fr A A1):NiceS A (λK=>K H A1):=Nice.one (o:=(H,A1)) h
variable {T:(Exit->zdS)->Prop}
theorem NiceS.no (h: ∀K,¬T K):NiceS A T:=Nice.no λK=>h _
theorem NiceS.mono (h:NiceS A T) {K':Exit->zdS} (H:T K) (J: ∀e A',Fr A A'->K e A'->K' e A'):T K':=
 Nice.mono (K:=λo=>K o.1 o.2) (K':=λo=>K' o.1 o.2) h H λo N=>J o.1 o.2 N
theorem NiceS.bind (h:NiceS A T) {F:(Exit->zdS)->Exit->zdS} (hF: ∀e H,Fr A H->NiceS H (λK=>F K e H)):NiceS A (λK=>T (F K)):=
 Nice.bind (F:=λK o=>F (λe A'=>K (e,A')) o.1 o.2) h λo N=>(hF o.1 o.2 N).weak λo' J=>N.trans J
theorem NiceS.need (h:NiceS A T) (b:Bool):NiceS A (λK=>ah b (T K)):=Nice.need h b
variable {KP:(Exit->zdS)->Value->zdS} {d:Option Tmp}
theorem NiceS.out {T:Aft->Prop} (h:NiceT A.bl A.nx [] T) {F:(Exit->zdS)->List Nat->zdS}
 (Y: ∀v A1,Fr A A1->NiceS A1 (λK=>KP K v A1)) (hF: ∀wl A1,Fr A A1->(∀j∈wl,j∈A1.wl)->NiceS A1 (λK=>F K wl A1)):NiceS A (λK=>T (uR A d (KP K) (F K))):=by
 refine Nice.bind (O:=Out) (F:=λK o=>uR A d (KP λe A'=>K (e,A')) (F λe A'=>K (e,A')) o.r o.b o.n o.w) h λo N=> ?_;have fr: ∀tm,Fr A ({A with tm:=tm,bl:=o.b,nx:=o.n,wl:=o.w++A.wl}:AS):=λtm=>⟨N.nxs,N.le,λj J=>by simp[J],λj B hB J=>N.keep j B hB λhw=>J (by simp[hw]),N.new⟩;obtain⟨r,b,n,w⟩:=o;cases r with
 |pan v=>exact Nice.weak (Y v _ (fr A.tm)) λo' H=>(fr A.tm).trans H
 |ok r=>
  simp only[uR];split
  ·rename_i A' hp;obtain⟨rfl,_⟩:=Wa.1 hp;exact Nice.weak (hF w _ (fr _) λj J=>by simp[J]) λo' H=>(fr _).trans H
  ·exact Nice.no λ_ h=>h
theorem j3 (h:Fr A A1):Fr A (endG A1):=⟨h.nxs,h.nx,h.wl,h.keep,h.new⟩
variable {Γ:zdP} {ops:zdO} {o:Oper} {D:Dl}
theorem GE (J:NX A.bl A.nx) (st:Stp P Γ ops A.nx o A D):Fr A {app D A.nx A with nx:=A.nx+1,wl:=(aV A.nx D.E).2++A.wl}:=by
 have tr:=gN (nx:=A.nx) st.fresh (za0 _) D.E (β:=λ_=>⟨0,0,0,0,false⟩) (β':=λ_=>⟨0,0,0,0,false⟩) (λ_ _=>rfl);refine⟨J.apply D.E (by omega) (za0 _),by show A.nx<=A.nx+1;omega,λj H=>by simp[H],λj B hB H=> ?_,λj H h0=>tr.new j H h0⟩;obtain⟨B',h1,_,_,_,h5⟩:=tr.keep j B hB;have:j∉wrI D.E:=λh=>H (by simp[aV,h]);rw[h5 this] at h1;exact h1
theorem Km (H:NX A.bl A.nx) (J:RO D):Fr A (app D A.nx A):=by
 rw[fh J];exact⟨H,za0 _,λ_ h=>h,λ_ _ h _=>h,λ_ _ h=>h⟩
theorem Ck {v:SV} (h:NX A.bl A.nx) (hp:putD A d (.v v)=some A1):Fr A A1:=by
 obtain⟨rfl,_⟩:=Wa.1 hp;exact⟨h,za0 _,λ_ h=>h,λ_ _ h _=>h,λ_ _ h=>h⟩
theorem sM {O:Type} {I:O->Prop} {t:TypeId} {k:SV} {F:(O->Prop)->Option SV->Prop} (hF: ∀r,Nice I λK=>F K r): ∀{l:List (SV×SV)},Nice I (λK=>uU P t k (F K) l)
 | []=>hF none
 |(H,v)::l=>by
  simp only[uU];split
  ·rename_i b _;cases b with
   |true=>exact hF (some v)
   |false=>exact sM hF
  ·exact Nice.no λ_ h=>h
variable {F:(Exit->zdS)->zdS}
theorem afJ (Y:cF inl) (h:NX A.bl A.nx) (hF: ∀J,Fr A J->NiceS J (λK=>F K J)):
 NiceS A (λK=>agn P Γ inl ops (λv A'=>K (pex v) (endG A')) o A (F K)):=by
 unfold agn;split
 ·split
  ·rename_i J hp;obtain⟨rfl,_⟩:=Wa.1 hp;exact Nice.weak (hF _ ⟨h,za0 _,λ_ h=>h,λ_ _ h _=>h,λ_ _ h=>h⟩) λo N=>⟨N.nxs,N.nx,N.wl,N.keep,N.new⟩
  ·exact NiceS.no λ_ h=>h
 split
 ·rename_i T H;have pk: ∀{T:(zdR)->Prop},R4 P A o=some T->Nice (λ_:SV=>True) T:=by
   intro T H;unfold R4 at H;split at H
   ·split at H
    ·split at H
     ·split at H
      ·split at H
       ·rename_i l _ _ _;simp only[za1] at H;subst H;exact sM λr=>by
         cases r with
         |none=>exact Nice.one trivial
         |some v=>exact Nice.one trivial
       ·cases H
      ·cases H
     ·cases H
    ·cases H
   ·cases H
  refine Nice.bind (O:=SV) (F:=λ(K:Exit×AS->Prop) s=>match putD A o.dst (.v s) with
   |some A'=>F (λe A'=>K (e,A')) A'
   |none=>False) (pk H) λs _=> ?_
  split
  ·rename_i J hp;have f:=Ck h hp;exact Nice.weak (hF J f) λo N=>f.trans N
  ·exact Nice.no λ_ h=>h
 split
 ·rename_i T H;exact NiceS.out (pj Y h H) (KP:=λK v A'=>K (pex v) (endG A')) (F:=λK _ A'=>F K A')
   (λv J fr=>NiceS.one _ (j3 (Fr.refl fr.nxs))) λwl J fr _=>hF J fr
 ·split
  ·rename_i b J f a0;cases b with
   |false=>exact NiceS.no λ_ h=>h
   |true=>
    obtain⟨D,st,rfl,rfl⟩:=VV.1 a0;have fr:=GE h st;exact Nice.weak (hF _ fr) λo N=>fr.trans N
  ·exact NiceS.no λ_ h=>h
theorem pp: ∀(k:Nat) (A:AS) (t:Nat) (F:(Exit->zdS)->zdS),NX A.bl A.nx->(∀H,Fr A H->NiceS H (λK=>F K H))->NiceS A (λK=>aaQ k A t (F K))
 |0,A,t,F,h,hF=>NiceS.no λ_ h=>h
 |k+1,A,t,F,h,hF=>by
  have lit: ∀c,Fr A (mH A t c):=λc=>⟨h,za0 _,λ_ h=>h,λ_ _ h _=>h,λ_ _ h=>h⟩;simp only[aaQ];split
  ·rename_i c _;cases A.lit.any (Nat.beq t) with
   |true=>exact hF A (Fr.refl h)
   |false=>
    cases c with
    |true=>exact Nice.weak (hF _ (lit true)) λo N=>(lit true).trans N
    |false=>exact Nice.weak (hF _ (lit false)) λo N=>(lit false).trans N
  ·exact hF A (Fr.refl h)
  ·rename_i u _ _ _;exact pp k A u (λK A'=>aaQ k A' t (F K)) h λH fr=>pp k H t F fr.nxs λY J=>hF Y (fr.trans J)
  ·exact NiceS.no λ_ h=>h
theorem auA {d:BD} (h:NX A.bl A.nx) (H:adW A o=some (d,b,some A1)):Fr A A1:=by
 have J:=h A.nx (za0 _);unfold adW at H;split at H
 ·cases H
 split at H
 ·rename_i t _ _;revert H;generalize Nat.beq t _=c;cases c with
  |false=>intro H;cases H
  |true=>
   intro H;simp only[zdr,za1,zag] at H;obtain⟨rfl,_⟩:=Wa.1 H.2.2
   exact⟨λi hi=>by
    show upd A.bl A.nx zP i=none;have hi:A.nx+1<=i:=hi;rw[ak (by omega)];exact h i (by omega),zaT _,λj N=>zan _ N,λj B hB _=>by
    show upd A.bl A.nx zP j=some B;rw[ak (λe=>by rw[e,J] at hB;cases hB)];exact hB,λj N h0=>by
    show upd A.bl A.nx zP j=none
    rw[ak (by omega)];exact h0⟩
 ·split at H
  ·rename_i f args x t _ _;have key: ∀{r:SV} {s:Option BD×Option (Nat×ByteArray)},putD {A with sd:=s} o.dst (.v r)=some A1->Fr A A1:=λhp=>by
    obtain⟨rfl,_⟩:=Wa.1 hp;exact⟨h,za0 _,λ_ h=>h,λ_ _ h _=>h,λ_ _ h=>h⟩
   revert H;generalize Nat.beq f _=Y;generalize Nat.beq f _=c2;intro H;cases Y with
   |true=>
    simp only[zdr] at H;split at H
    ·simp only[za1,zag] at H;exact key H.2.2
    ·cases H
   |false=>
   cases c2 with
   |true=>
    simp only[zdr,zdq] at H;split at H
    ·simp only[za1,zag] at H;exact key H.2.2
    ·cases H
   |false=>simp only[zdq] at H;cases H
  ·cases H
 ·cases H
theorem Nice.prop {O:Type} {I:O->Prop} {T:(O->Prop)->Prop} (h:Nice I T) (p:Prop):Nice I (λK=>p/\T K):=⟨λH J=>⟨H.1,h.mono H.2 J⟩,λH=>h.ne H.2⟩
theorem vp (J:cF inl) (h:NX A.bl A.nx) (hF: ∀H,Fr A H->NiceS H (λK=>F K H)):
 NiceS A (λK=>aeq P Γ inl ops (λv A'=>K (pex v) (endG A')) o A (F K)):=by
 unfold aeq;split
 ·rename_i d b r N
  refine Nice.prop (Nice.need (T:=λK=>match r with
   |some A'=>F (λe A'=>K (e,A')) A'
   |none=>False) ?_ b) _
  cases r with
  |none=>exact Nice.no λ_ h=>h
  |some H=>exact Nice.weak (hF H (auA h N)) λo Y=>(auA h N).trans Y
 ·exact afJ J h hF
theorem lM {Γ:zdP} {inl:Inl} (H:cF inl) {ops:zdO}: ∀(rest:List Oper) (A:AS),NX A.bl A.nx->NiceS A (λK=>mI P Γ inl ops (λv A'=>K (pex v) (endG A')) rest A λA'=>K .normal (endG A'))
 | [],A,h=>NiceS.one _ (j3 (Fr.refl h))
 |o::rest,A,h=>by
  simp only[mI];split
  ·rename_i t b _;refine pp 9 A t (λK A'=>wm A' t b o.dst (λA'=>aeq P Γ inl ops (λv A'=>K (pex v) (endG A')) {o with guard:=none} A' λA'=>mI P Γ inl ops (λv A'=>K (pex v) (endG A')) rest A' λA'=>K .normal (endG A')) λA'=>mI P Γ inl ops (λv A'=>K (pex v) (endG A')) rest A' λA'=>K .normal (endG A')) h λY fr=> ?_
   have skip:NiceS Y (λK=>match putD Y o.dst (.v (.val undef)) with
    |some A'=>mI P Γ inl ops (λv A'=>K (pex v) (endG A')) rest A' λA'=>K .normal (endG A')
    |none=>False):=by
    split
    ·rename_i N hp;have f:=Ck fr.nxs hp;exact Nice.weak (lM H rest N f.nxs) λo io=>f.trans io
    ·exact NiceS.no λ_ h=>h
   unfold wm;split
   ·rename_i c _;cases (bif b then c else !c) with
    |true=>exact vp H fr.nxs (F:=λK A'=>mI P Γ inl ops (λv A'=>K (pex v) (endG A')) rest A' λA'=>K .normal (endG A')) λN J=>lM H rest N J.nxs
    |false=>exact skip
   ·exact skip
   ·exact NiceS.no λ_ h=>h
  ·exact vp H h (F:=λK A'=>mI P Γ inl ops (λv A'=>K (pex v) (endG A')) rest A' λA'=>K .normal (endG A')) λN J=>lM H rest N J.nxs
theorem yq (J:cF inl) (h:NX A.bl A.nx) {F:(Exit->zdS)->Bool->List Nat->List Nat->zdS}
 (hP: ∀v H,Fr A H->NiceS H (λK=>KP K v H)) (hF: ∀a b c H,Fr A H->NiceS H (λK=>F K a b c H)):NiceS A (λK=>opT P Γ inl ops A o (KP K) (F K)):=by
 unfold opT;split
 ·rename_i T hb;exact NiceS.out (fF J h hb) (KP:=KP) (F:=λK wl A'=>F K true [] wl A') hP λwl H fr _=>hF _ _ _ H fr
 ·split
  ·rename_i b H f Y;cases b with
   |false=>exact NiceS.no λ_ h=>h
   |true=>
    obtain⟨D,st,rfl,rfl⟩:=VV.1 Y;show NiceS A λK=>match (aV A.nx D.E).2 with
     | []=>_
     |j::l=>_
    split
    ·rename_i N;have fr:=Km h (VZ.1 N);exact Nice.weak (hF _ _ _ _ fr) λo io=>fr.trans io
    ·rename_i j l N;have fr:=GE h st;rw[N] at fr;exact Nice.weak (hF _ _ _ _ fr) λo io=>fr.trans io
  ·exact NiceS.no λ_ h=>h
theorem jy {Γ:zdP} {inl:Inl} (H:cF inl) {ops:zdO} {pre:Nat->zdH} {m:Bool} {KN:(Exit->zdS)->Value->zdS} (J: ∀v A1,NX A1.bl A1.nx->NiceS A1 (λK=>KN K v A1)): ∀(rest:zdH) (A:AS) (h:Nat->Option Hst),NX A.bl A.nx->
 NiceS A (λK=>n5 P Γ inl ops pre m (KN K) (λv A'=>K (pex v) (endG A')) rest A h λA'=>K .normal (endG A'))
 | [],A,h,N=>NiceS.one _ (j3 (Fr.refl N))
 |i::rest,A,h,N=>by
  simp only[n5];split
  ·exact NiceS.no λ_ h=>h
  ·rename_i o ho;cases Y:lone ops i with
   |true=>
    exact yq H N (KP:=λK v A'=>K (pex v) (endG A')) (λv A1 fr=>NiceS.one _ (j3 (Fr.refl fr.nxs))) λa b c A1 fr=>(jy H J rest A1 _ fr.nxs).need _
   |false=>
    exact yq H N (KP:=KN) (λv A1 fr=>J v A1 fr.nxs) λa b c A1 fr=>(jy H J rest A1 _ fr.nxs).need _
theorem ab9: ∀(v:Value) (A1:AS),NX A1.bl A1.nx->NiceS A1 (λK=>noP v A1):=λv A1 _=>NiceS.no λ_ h=>h
theorem NiceS.killed (h:NiceS (acw A l) T):NiceS A T:=by
 unfold NiceS at*
 exact Nice.weak h λo H=>⟨H.nxs,H.nx,H.wl,H.keep,H.new⟩
theorem D4 {lt:Bool} (H:cF inl) (A:AS) (h:NX A.bl A.nx):NiceS A (λK=>Gm lt P Γ inl ops (λv A'=>K (pex v) (endG A')) A λA'=>K .normal (endG A')):=by
 unfold Gm;split
 ·split
  ·split
   ·exact jy H (KN:=λ_=>noP) ab9 _ A _ h
   ·exact NiceS.need (jy H (KN:=λK v A'=>K (pex v) (endG (acO A'))) (λv J h1=>NiceS.one _ ⟨h1,za0 _,λ_ h=>h,λ_ _ h _=>h,λ_ _ h=>h⟩) _ A _ h) _
  ·exact NiceS.need (NiceS.killed (jy H (KN:=λ_=>noP) ab9 _ (acw A _) _ h)) _
 ·exact((jy H (KN:=λ_=>noP) ab9 _ A _ h).and (jy H (KN:=λ_=>noP) ab9 _ A _ h)).need _
theorem sN {Γ:zdP} {ops:zdO} {base:Nat} {K:AS->List li->Prop}: ∀(rest:List Oper) (i:Nat) (A:AS) (tr:List li),rK P Γ ops base rest i A tr K->
 ∃A' H,K A' (tr.reverse++H)/\(∀K',K' A' (tr.reverse++H)->rK P Γ ops base rest i A tr K')/\A'.nx=A.nx/\A'.wl=A.wl/\(∀j B,A.bl j=some B->j∉alD H->A'.bl j=some B)/\ ∀j,(j<base+i\/base+i+rest.length<=j)->A.bl j=none->A'.bl j=none
 | [],i,A,tr,h=>⟨A, [],by simpa [rK] using h,λK' h=>by simpa [rK] using h,rfl,rfl,λ_ _ h _=>h,λ_ _ h=>h⟩
 |o::rest,i,A,tr,h=>by
  simp only[rK] at h ⊢;split at h
  ·rename_i b A1 f hs;obtain⟨hb,h⟩:=Xg.1 h;subst hb;obtain⟨A',H,h1,h2,h3,h4,h5,h6⟩:=sN rest (i+1) A1 (f::tr) h;obtain⟨D,st,rfl,rfl⟩:=VV.1 hs;have e0:=gN (nx:=base+i) st.fresh (za0 _) D.E (β:=λ_=>⟨0,0,0,0,false⟩) (β':=λ_=>⟨0,0,0,0,false⟩) (λ_ _=>rfl);refine⟨A',aV (base+i) D.E::H,by simpa using h1,λK' Y=>Xg.2 ⟨rfl,h2 K' (by simpa using Y)⟩,h3,h4,λj B hB N=> ?_,λj N h0=> ?_⟩
   ·simp only[alD,za8,not_or] at N;obtain⟨B',k1,_,_,_,k5⟩:=e0.keep j B hB;have:j∉wrI D.E:=λh=>N.1 (by simp[aV,h]);exact h5 j B (by show VO A.bl (base+i) D.E j=some B;rw[k1,k5 this]) N.2
   ·refine h6 j (by simp only[za4] at N;omega) ?_;show VO A.bl (base+i) D.E j=none;have a0:j≠base+i:=by simp only[za4] at N;omega
    rw[jX ?_ ?_]
    ·exact h0
    ·intro J;have src:=st.src;unfold Src at src;cases hg:o.guard with
     |none=>rw[hg] at src;exact Gy src.2.2.2 J h0
     |some p=>
      obtain⟨jj,bb⟩:=p;rw[hg] at src;obtain⟨t,g,_,_,_,_,k5,_⟩:=src;simp[wrI,k5] at J
    ·intro J;unfold nwI at J;split at J
     ·simp at J;exact a0 J
     ·cases J
  ·exact h.elim
theorem fQ {Γ:zdP} {inl:Inl} (H:cF inl) (J:FuncId) (ann:Nat->Option (AS->Ann)): ∀(c:Code) (A:AS),NX A.bl A.nx->NiceS A (λK=>vc P Γ inl J ann c K A)
 | .skip,A,h=>NiceS.one .normal (Fr.refl h)
 | .label l,A,h=>NiceS.one .normal (Fr.refl h)
 | .exit id,A,h=>NiceS.one (.exit id) (Fr.refl h)
 | .ret,A,h=>NiceS.one .ret (Fr.refl h)
 | .seq x y,A,h=>NiceS.bind (fQ H J ann x A h) (F:=λK e A'=>match e with
    | .normal=>vc P Γ inl J ann y K A'
    |e=>K e A') λe A1 fr=>by
   cases e with
   |normal=>exact fQ H J ann y A1 fr.nxs
   |_=>exact NiceS.one _ (Fr.refl fr.nxs)
 | .cond c t f,A,h=>by
   simp only[vc];split
   ·rename_i b _;cases b with
    |true=>exact fQ H J ann t A h
    |false=>exact fQ H J ann f A h
   ·exact NiceS.no λK h=>h
 | .block id c,A,h=>NiceS.bind (fQ H J ann c A h) (F:=λK e A'=>match e with
    | .exit i=>bif Nat.beq i id then K .normal A' else K (.exit i) A'
    |e=>K e A') λe A1 fr=>by
   cases e with
   |exit i=>
    simp only[];cases Nat.beq i id with
    |true=>exact NiceS.one _ (Fr.refl fr.nxs)
    |false=>exact NiceS.one _ (Fr.refl fr.nxs)
   |_=>exact NiceS.one _ (Fr.refl fr.nxs)
 | .scope c,A,h=>NiceS.bind (fQ H J ann c A h) (F:=λK e A'=>match e with
    | .goto _=>False
    |e=>K e A') λe A1 fr=>by
   cases e with
   |goto l=>exact NiceS.no λK h=>h
   |_=>exact NiceS.one _ (Fr.refl fr.nxs)
 | .loop c,A,h=>by
   simp only[vc];split
   ·have key: ∀n A,NX A.bl A.nx->NiceS A (λK=>mK (vc P Γ inl J ann c) n K A):=by
     intro n
     induction n with
     |zero=>intro A _;exact NiceS.no λK h=>h
     |succ n ih=>
      intro A h
      exact NiceS.bind (fQ H J ann c A h) (F:=λK e A'=>match e with
       | .normal=>mK (vc P Γ inl J ann c) n K A'
       |e=>K e A') λe A1 fr=>by
        cases e with
        |normal=>exact ih A1 fr.nxs
        |_=>exact NiceS.one _ (Fr.refl fr.nxs)
    exact key 40 A h
   ·rename_i N0 _;generalize N0 A=N;have v0: ∀x:N.X,NX (rQ A N x).bl (rQ A N x).nx:=by
     intro x i hi;have y0:A.nx+N.gr.length<=i:=hi;obtain⟨j,rfl⟩:=zd7 (show A.nx<=i by omega);show cX A N x (A.nx+j)=none;rw[od];cases w0:grB x N.gr j with
     |none=>rfl
     |some C=>have:=Wm.1 (by rw[w0];simp:grB x N.gr j≠none);omega
    have fr: ∀(x:N.X) (A':AS),Fr (rQ A N x) A'->Fr A {A' with wl:=N.ids A++A'.wl++A.wl}:=by
     intro x A' f;have dom: ∀{j B},A.bl j=some B->j<A.nx:=λ{j B} hB=>by
      rcases zah j A.nx with h'|h'
      ·exact h'
      ·rw[h j h'] at hB;cases hB
     refine⟨f.nxs,zac (zd8 _ _) f.nx,λj Y=>by simp[Y],λj B hB Y=> ?_,λj Y h0=>f.new j (show j<A.nx+N.gr.length by omega) ?_⟩
     ·simp only[za8,not_or] at Y;have q0:=dom hB;refine f.keep j B ?_ Y.1.2;have hd:cX A N x j≠none:=(fI q0).1 (by rw[hB];simp);show cX A N x j=some B;cases hC:cX A N x j with
      |none=>exact absurd hC hd
      |some C=>
       obtain⟨B0,b1,_,_,_,_,b6⟩:=ary q0 hC;rw[hB] at b1;obtain rfl:B=B0:=by simpa using b1
       have hn:=Y.1.1;unfold Ann.ids at hn;simp only[za8,not_or] at hn;rcases b6 with ⟨g,_,h1,_,_⟩|⟨_,g,h1,_⟩|⟨_,_,_,h3⟩
       ·exact absurd (zaz.2 ⟨_,h1,rfl⟩) hn.1.1
       ·exact absurd (zaz.2 ⟨_,h1,rfl⟩) hn.1.2
       ·rw[h3 hn.2]
     ·cases hC:cX A N x j with
      |none=>exact hC
      |some C=>exact absurd h0 ((fI Y).2 (by rw[hC];simp))
    have nb:=λx=>fQ (Γ:=Γ) H J ann c (rQ A N x) (v0 x);refine⟨λ{K K'} hK hm=> ?_,λhK=> ?_⟩
    ·obtain⟨x0,i0,m0,a0⟩:=hK;refine⟨x0,i0,m0,Ke a0 λx hx=>(nb x).mono (rO a0 x hx) λe A' f hk=> ?_⟩;cases e with
     |normal=>exact hk
     |_=>
      have k:=ach hk;exact k.2 _ (hm (_,_) (fr x A' f) k.1)
    ·obtain⟨x0,i0,_,a0⟩:=hK;have a0:=rO a0;have key: ∀m (x:N.X),N.mu x<m->N.inv x->False:=by
      intro m
      induction m with
      |zero=>intro x hm;omega
      |succ m ih=>
       intro x hm hx;refine(nb x).ne ((nb x).mono (a0 x hx) λe A' _ hk=> ?_);cases e with
       |normal=>
        obtain⟨_,x',g1,g2,_⟩:=Xg.1 hk;exact ih x' (by omega) g1
       |_=>exact ad0 hk
     exact key _ x0 (zcy _) i0
 | .region z0 ops n0,A,h=>by
   simp only[vc];cases n0 with
   |true=>
    simp only[zdr];cases Ac Γ A ops.toList with
    |true=>
     simp only[zdr];simp only[asl];exact(D4 H A h).need _
    |false=>
     simp only[zdq];refine⟨λ{K K'} hK hm=> ?_,λhK=> ?_⟩
     ·obtain⟨A',C0,h1,h2,h3,h4,h5,h6⟩:=sN ops.toList 0 A [] hK;obtain⟨hb,h1⟩:=Xg.1 h1;refine h2 _ (Xg.2 ⟨hb,hm (.normal,_) ⟨λj Y=>h6 j (.inr (by simpa using Y)) (h j (by have:A.nx+ops.size<=j:=Y;omega)),by show A.nx<=A.nx+ops.size;omega,λj Y=>by simp[Y],λj B hB Y=> ?_,λj Y h0=>h6 j (.inl (by omega)) h0⟩ h1⟩);simp only[za8,not_or] at Y;exact h5 j B hB Y.1
     ·obtain⟨_,_,h1,_⟩:=sN ops.toList 0 A [] hK;exact(Xg.1 h1).2
   |false=>
    simp only[zdq];exact lM H ops.toList A h
 | .rangeFunc g ps assign body,A,h=>by
   simp only[vc];split
   ·rename_i gf caps hg;refine NiceS.need ?_ _;have h0:A.bl A.nx=none:=h _ (za0 _);have h1:A.bl (A.nx+1)=none:=h _ (by omega);generalize o0:upd (upd A.bl A.nx dmB) (A.nx+1) (lpB J A ps assign body)=g0;have r2: ∀i,i≠A.nx->i≠A.nx+1->g0 i=A.bl i:=λi hi Y=>by rw[<-o0,ak Y,ak hi]
    have u0:NX g0 (A.nx+2):=λi hi=>by rw[r2 i (by omega) (by omega)];exact h i (by omega)
    refine Nice.bind (O:=Out) (O':=Exit×AS) (F:=λK o=>ays A (λe A'=>K (e,A')) o.r o.b o.n o.w) (H.1 gf (.yl (A.nx+1)::caps) g0 (A.nx+2) [] u0) λo io=> ?_;have fr: ∀(e0:zdL) (l0:zdH),(∀i,i≠A.nx+1->e0 i=o.b i)->(∀i∈o.w,i∈l0)->NX e0 o.n->Fr A (EI A e0 o.n l0):=λe0 l0 hb hw hn=>by
     have:=io.le;refine⟨hn,by show A.nx<=o.n;omega,λj Y=>zb1 _ Y,λj B hB Y=> ?_,λj Y hn=> ?_⟩
     ·have j1:j≠A.nx+1:=by rintro rfl;rw[h1] at hB;cases hB
      have j0:j≠A.nx:=by rintro rfl;rw[h0] at hB;cases hB
      show e0 j=some B;rw[hb j j1];exact io.keep j B (by rw[r2 j j0 j1];exact hB) λhm=>Y (zbI _ (hw j hm))
     ·show e0 j=none;rw[hb j (by omega)];exact io.new j (by omega) (by rw[r2 j (by omega) (by omega)];exact hn)
    have le:=io.le;obtain⟨r,b,n,w⟩:=o;cases r with
    |pan v=>exact Nice.one (o:=(pex v,EI A b n w)) (fr b w (λ_ _=>rfl) (λ_ h=>h) io.nxs)
    |ok r=>
     simp only[ays];split
     ·rename_i X hX
      have f:=fr (upd b (A.nx+1) {X with kd:= .gone}) ((A.nx+1)::w) (λi hi=>ak hi) (λi hi=>zan _ hi) (λi hi=>by
       have le:A.nx+2<=n:=le;have hi:n<=i:=hi
       rw[ak (by omega)];exact io.nxs i hi)
      split
      ·exact Nice.one (o:=(Exit.normal,_)) f
      ·exact Nice.one (o:=(Exit.ret,_)) f
      ·exact Nice.one (o:=(Exit.exit _,_)) f
      ·exact Nice.no λ_ h=>h
     ·exact Nice.no λ_ h=>h
   ·exact NiceS.no λK h=>h
 | .goto l,A,h=>NiceS.no λK h=>h
 | .refuse s,A,h=>NiceS.no λK h=>h
end
section
variable {P:Program} {W0:Base}
variable {W1:Base} {Δ:FuncId->Option DCtr} {fn:Func} {K:Aft} {bl0:zdL} {nx0:Nat} {wl0:zdH} {β0:zdI}
def VU (P:Program) (W0:Base) (f:FuncId) (k:MCtr):Prop:=
 ∀(bl:zdL) (β:zdI) (w:World) (nx:Nat) (args:zdJ) (C:RC),BC W0 bl β w->(∀j B,bl j=some B->B.kd.it=false)->NX bl nx->(∀s∈args,Live bl s)->k bl nx args=some C->C.pre=true->
  Calls P f (SV.concs β args).toArray w λe w'=> ∃x,C.spec x/\ ∃β',Ends β' (C.res x) e/\BC W0 (fv (chB bl (C.ch x)) nx (C.nw x)) β' w'/\(∀i,bl i≠none->β' i=β i)/\sg (fv (chB bl (C.ch x)) nx (C.nw x)) (C.res x)
def pq:Option Value->FrameMode
 |none=> .returning
 |some v=> .panicking [{v:=v,recovered:=false}]
def Wz (P:Program) (W0:Base) (f:FuncId) (k:DCtr):Prop:=
 ∀(m:Option Value) (bl:zdL) (β:zdI) (w:World) (args:zdJ) (m':Option Value) (ch:List (Nat×Blk)),BC W0 bl β w->(∀s∈args,Live bl s)->k m bl args=some (true,m',ch)->x8 bl ch=true->
  Callable P f/\CallsD P f (SV.concs β args).toArray (pq m) w λe H w'=>(∃v,e= .returned v)/\settle H=pq m'/\BC W0 (chB bl ch) β w'
def Cl (tmps:Array Value):ResultVar->Sem Value
 | .tmp t=>pure (tmps.getD t undef)
 | .cell x t=>do loadVar t (<-asAddr (tmps.getD x undef))
theorem At (fn:Func) (tmps:Array Value):results fn tmps=(do let vs <-fn.results.mapM (Cl tmps);pure (if h:vs.size=1 then vs[0] else .tuple vs)):=by
 unfold results
 congr 2
theorem mT {β:zdI} {A:AS} {a:Act} {w:World} (N:Is W0 A β a w): ∀(l:List ResultVar) (b:Bool) (r:zdJ),ur P A l=some (b,r)->b=true->
 (l.mapM (Cl a.tmps)).run P w= .ok (SV.concs β r) w/\ ∀s∈r,Live A.bl s
 | [],b,r,h,J=>by
   simp only[ur,za1,zag] at h;obtain⟨rfl,rfl⟩:=h;simp[SV.concs]
 | .tmp t::l,b,r,h,J=>by
   simp only[ur] at h;split at h
   ·rename_i s b' r' ht Y;simp only[za1,zag] at h;obtain⟨rfl,rfl⟩:=h;obtain⟨h1,h2⟩:=mT N l _ r' Y J;obtain⟨k1,k2⟩:=N.fr.v t s ht;refine⟨?_,λx H=> ?_⟩
    ·simp only[zcB,zdE,Cl,zdF,zdD,h1,k1,SV.concs]
    ·simp only[zai] at H;rcases H with rfl|H
     ·exact k2
     ·exact h2 x H
   ·cases h
 | .cell x t::l,b,r,h,J=>by
   simp only[ur] at h;split at h
   ·rename_i s b' r' ht Y;split at h
    ·rename_i E hE;simp only[za1,zag] at h;obtain⟨h0,rfl⟩:=h;rw[<-h0] at J;simp only[za2] at J;obtain⟨h1,h2⟩:=mT N l _ r' Y J.2;obtain⟨k1,k2⟩:=N.fr.v x s ht;obtain⟨ad,l1,l2,l3,l4,l5⟩:=qe (P:=P) N.bc hE J.1;refine⟨?_,λx H=> ?_⟩
     ·simp only[zcB,zdE,Cl,k1,l1,asAddr,zdF,zdD,l2,h1,SV.concs]
     ·simp only[zai] at H;rcases H with rfl|H
      ·exact l3
      ·exact h2 x H
    ·cases h
   ·cases h
variable {β:zdI} {A:AS} {a:Act} {w:World}
theorem uv (J:Is W0 A β a w) {fn:Func} {b:Bool} {r:zdJ} (h:ur P A fn.results.toList=some (b,r)) (H:b=true):
 (results fn a.tmps).run P w= .ok ((auq r).conc β) w/\Live A.bl (auq r):=by
 obtain⟨h1,h2⟩:=mT (P:=P) J _ b r h H;refine⟨?_, ?_⟩
 ·rw[At,zdd];simp only[zdE,Sem.run_map,h1,zdD,zdF]
  congr 1
  cases r with
  |nil=>simp[SV.concs,auq,SV.conc]
  |cons s l=>
   cases l with
   |nil=>simp[SV.concs,auq]
   |cons Y l=>simp[SV.concs,auq,SV.conc]
 ·cases r with
  |nil=>intro i hi;simp[auq,SV.ids,SV.idss] at hi
  |cons s l=>
   cases l with
   |nil=>exact h2 s (by simp)
   |cons Y l=>
    intro i hi;simp only[auq,SV.ids] at hi;obtain⟨x,N,hi⟩:=SV.mem_idss.1 hi;exact h2 x N i hi
theorem yu (β:zdI) (args:zdJ) (nt:Nat) (bl:zdL) (nx:Nat) (wl:zdH) (hq:Bool) (hl: ∀s∈args,Live bl s):
 FR β (fB args nt bl nx wl hq) {tmps:=(SV.concs β args).toArray++Array.replicate (nt - (SV.concs β args).toArray.size) undef,defers:= []}:=by
 have J:(SV.concs β args).length=args.length:=by rw[SV.concs_eq];simp
 refine⟨⟨rfl,λ_ h=>by cases h⟩, ?_, ?_, ?_, ?_⟩
 ·simp[fB,J];omega
 ·intro t s H;simp only[fB] at H;split at H
  ·rename_i s' Y;simp only[TV.v.injEq] at H;subst H;have a0:t<args.length:=by
    rcases zah t args.length with h|h
    ·exact h
    ·rw[zad h] at Y;cases Y
   refine⟨?_,hl _ (zal Y)⟩;rw[zcG,Array.getElem?_append_left (by simp[J];exact a0)];simp[SV.concs_eq,Y]
  ·rename_i Y;cases N:Nat.blt t nt with
   |false=>rw[N] at H;simp at H
   |true=>
    rw[N] at H;simp only[zdr,TV.v.injEq] at H;subst H;have e0:args.length<=t:=by
     rcases zah t args.length with h|h
     ·rw[zaa h] at Y;cases Y
     ·exact h
    have a0:t<nt:=by simpa [zb2] using N
    refine⟨?_,λi hi=>by simp[SV.ids] at hi⟩;rw[zcG,Array.getElem?_append_right (by simp[J];exact e0)];have hz:t - (SV.concs β args).toArray.size<nt - (SV.concs β args).toArray.size:=by simp[J];omega
    rw[Array.getElem?_replicate,if_pos hz];rfl
 ·intro t u b s H;simp only[fB] at H;split at H
  ·cases H
  ·cases N:Nat.blt t nt<;>rw[N] at H<;>simp at H
 ·intro t u b s H;simp only[fB] at H;split at H
  ·cases H
  ·cases N:Nat.blt t nt<;>rw[N] at H<;>simp at H
variable {an:Nat->Option (AS->Ann)}
theorem ae5 (h:FR β A a):FR β (sa an A) a:=by
 unfold sa;split
 ·exact h.side _
 ·exact h
theorem eA (H:Nat->Option (AS->Ann)) (A:AS):(sa H A).bl=A.bl/\(sa H A).nx=A.nx/\(sa H A).wl=A.wl/\(sa H A).nt=A.nt:=by
 unfold sa;split<;>exact⟨rfl,rfl,rfl,rfl⟩
theorem adi (h:A.sd.2=none):(sa an A).sd.2=none:=by
 unfold sa;split
 ·rfl
 ·exact h
theorem Fr.ofBd {A':AS} (h:Fr (sa an A) A'):Fr A A':=by
 obtain⟨H,J,N,_⟩:=eA an A;exact⟨h.nxs,by rw[<-J];exact h.nx,by rw[<-N];exact h.wl,by rw[<-H];exact h.keep,by rw[<-H,<-J];exact h.new⟩
variable {W:Base} {s:Option BD×Option (Nat×ByteArray)} {bl:zdL}
theorem BC.sd (h:BC W bl β w):BC {W with sd:=s} bl β w:=
 h.rebase ⟨h.below.os,h.below.tape,h.below.output,h.below.size,h.below.block⟩ (λ_ _ _ _ _ h=>h) (λ_ _ _ _ _ h=>h)
theorem BC.unsd (h:BC {W with sd:=s} bl β w):BC W bl β w:=
 h.rebase ⟨h.below.os,h.below.tape,h.below.output,h.below.size,h.below.block⟩ (λ_ _ _ _ _ h=>h) (λ_ _ _ _ _ h=>h)
theorem SubB.sd (W:Base) (s:Option BD×Option (Nat×ByteArray)):SubB {W with sd:=s} W:=⟨Pres.self W,λ_ h=> .inr h⟩
structure HypD (P:Program) (W0:Base) (ok:FuncId->Bool) (Γ:FuncId->Option Ctr) (Γm:FuncId->Option MCtr) (Δ:FuncId->Option DCtr):Prop where
 gam:GamOK P W0 Γ
 mem: ∀B,SubB B W0-> ∀f k,Γm f=some k->VU P B f k
 dem: ∀B,SubB B W0-> ∀f k,Δ f=some k->Wz P B f k
 ok: ∀f,ok f=true->Callable P f
 mixed:P.follows .mixedOrders=true
theorem HypD.sub {P:Program} {W0 B:Base} {ok:FuncId->Bool} {Γ:zdP} {Γm:FuncId->Option MCtr} {Δ:FuncId->Option DCtr} (h:HypD P W0 ok Γ Γm Δ) (J:SubB B W0):HypD P B ok Γ Γm Δ:=
 ⟨h.gam.sub J,λC H=>h.mem C (H.trans J),λC H=>h.dem C (H.trans J),h.ok,h.mixed⟩
abbrev Hyp (P:Program) (W0:Base) (ok:FuncId->Bool) (Γ:zdP) (Γm:FuncId->Option MCtr):Prop:=HypD P W0 ok Γ Γm λ_=>none
variable {nx:Nat}
theorem D5 (H:NX bl nx) (l:zdU):NX (fv bl nx l) (nx+l.length)/\(∀i,i<nx->fv bl nx l i=bl i)/\ ∀i B,bl i=some B->fv bl nx l i=some B:=by
 have J: ∀i,i<nx->fv bl nx l i=bl i:=λi hi=>by unfold fv;rw[aB,zdp hi];rfl
 refine⟨λi hi=> ?_,J,λi B hB=> ?_⟩
 ·unfold fv;rw[aB,zds (by omega)];simp only[zdq];exact zad (by omega)
 ·rw[J i (by
   rcases zah i nx with h|h
   ·exact h
   ·rw[H i h] at hB;cases hB)]
  exact hB
theorem Ko {a b:BK} (h:Po a b=true):a=b\/a= .gone:=by cases a<;>cases b<;>first|exact .inl rfl|exact .inr rfl|cases h
theorem oh {bl:zdL}: ∀{l:List (Nat×Blk)},x8 bl l=true->(∀i,bl i=none->chB bl l i=none)/\ ∀i C,bl i=some C-> ∃B,chB bl l i=some B/\B.n=C.n/\(B.sz=C.sz/\B.nn=C.nn)/\(B.kd=C.kd\/B.kd= .gone)/\(i∉l.map (·.1)->B=C)
 | [],_=>⟨λ_ h=>h,λi C h=>⟨C,h,rfl,⟨rfl,rfl⟩, .inl rfl,λ_=>rfl⟩⟩
 |(k,D)::r,h=>by
  simp only[x8,za2] at h;obtain⟨h1,h2⟩:=h;obtain⟨k1,k2⟩:=oh h2;cases N:bl k with
  |none=>rw[N] at h1;cases h1
  |some C=>
   rw[N] at h1;simp only[za2,zdx] at h1;obtain⟨⟨⟨a1,a2⟩,a3⟩,a4⟩:=h1;refine⟨λi hi=> ?_,λi Y H=> ?_⟩
   ·have:i≠k:=λe=>by rw[e,N] at hi;cases hi
    rw[chB,ak this];exact k1 i hi
   ·by_cases J:i=k
    ·subst J;rw[N] at H;obtain rfl:C=Y:=by simpa using H
     exact⟨D,by rw[chB,az],zab a1,⟨zab a2,a3⟩,Ko a4,λh=>absurd (by simp) h⟩
    ·obtain⟨B,b1,b2,b3,b4,b5⟩:=k2 i Y H;exact⟨B,by rw[chB,ak J];exact b1,b2,b3,b4,λh=>b5 λhm=>h (by simp at hm ⊢;exact .inr hm)⟩
theorem aus (H:NX bl nx) {ch:List (Nat×Blk)} (hc:x8 bl ch=true) (nw:zdU):
 NX (fv (chB bl ch) nx nw) (nx+nw.length)/\(∀i,i<nx->bl i=none->fv (chB bl ch) nx nw i=none)/\ ∀i C,bl i=some C-> ∃B,fv (chB bl ch) nx nw i=some B/\B.n=C.n/\(B.sz=C.sz/\B.nn=C.nn)/\(B.kd=C.kd\/B.kd= .gone)/\(i∉ch.map (·.1)->B=C):=by
 obtain⟨k1,k2⟩:=oh hc;obtain⟨Y,N,_⟩:=D5 (bl:=chB bl ch) (nx:=nx) (λi hi=>k1 i (H i hi)) nw;refine⟨Y,λi hi h0=>by rw[N i hi];exact k1 i h0,λi C J=> ?_⟩;have hi:i<nx:=by
  rcases zah i nx with h|h
  ·exact h
  ·rw[H i h] at J;cases J
 rw[N i hi];exact k2 i C J
variable {l:List ResultVar}
theorem Wf {K:Aft} :ND P l K A↔ ∃r,ur P A l=some (true,r)/\K (.ok (auq r)) A.bl A.nx A.wl:=by
 unfold ND;cases ur P A l with
 |none=>simp
 |some p=>
  obtain⟨b,r⟩:=p;simp only[Xg,za1,zag];constructor
  ·rintro⟨rfl,h⟩;exact⟨r,⟨rfl,rfl⟩,h⟩
  ·rintro⟨H,⟨rfl,rfl⟩,h⟩;exact⟨rfl,h⟩
theorem jz {Δ:FuncId->Option DCtr} {l:List ResultVar}: ∀(Y:List (FuncId×List SV×List SV)) (m:Option Value) (A:AS),NX A.bl A.nx->NiceT A.bl A.nx A.wl (λK=>qF P Δ l K Y m A)
 | [],none,A,h=>by
   have one: ∀r,OutI A.bl A.nx A.wl ⟨r,A.bl,A.nx,A.wl⟩:=λr=>⟨h,za0 _,λ_ _ h _=>h,λ_ _ h=>h,λ_ h=>h⟩;refine⟨λ{K K'} hk hm=> ?_,λhk=> ?_⟩
   ·obtain⟨r,h1,h2⟩:=Wf.1 hk;exact Wf.2 ⟨r,h1,hm _ (one _) h2⟩
   ·obtain⟨r,_,h2⟩:=Wf.1 hk;exact h2
 | [],some v,A,h=>Nice.one (o:=(⟨.pan v,A.bl,A.nx,A.wl⟩:Out)) ⟨h,za0 _,λ_ _ h _=>h,λ_ _ h=>h,λ_ h=>h⟩
 |(f,as,cs)::Y,m,A,h=>by
  unfold NiceT;simp only[qF];cases Nat.ble yB f with
  |true=>
   simp only[zdr];refine Nice.need ?_ _;generalize f - yB=q;split
   ·rename_i B hB;split
    ·refine Nice.weak (jz Y m {A with bl:=upd A.bl q {B with kd:= .gone},wl:=q::A.wl} λi hi=> ?_) λo J=>⟨J.nxs,J.le,λj X hX H=> ?_,λj H h0=>J.new j H ?_,λj H=>J.sub j (zan _ H)⟩
     ·have N:i≠q:=by rintro rfl;rw[h _ hi] at hB;cases hB
      show upd A.bl q _ i=none;rw[ak N];exact h i hi
     ·have N:j≠q:=by rintro rfl;exact H (J.sub _ zbF)
      exact J.keep j X (by show upd A.bl q _ j=some X;rw[ak N];exact hX) H
     ·have N:j≠q:=by rintro rfl;rw[h0] at hB;cases hB
      show upd A.bl q _ j=none;rw[ak N];exact h0
    ·exact Nice.no λ_ h=>h
   ·exact Nice.no λ_ h=>h
  |false=>
  simp only[zdq];cases Y.any vA with
  |true=>exact Nice.no λ_ h=>h
  |false=>
  simp only[zdq];split
  ·split
   ·rename_i b m' ch _;cases hb:(b&&x8 A.bl ch) with
    |false=>exact Nice.no λ_ h=>h
    |true=>
     simp only[za2] at hb;obtain⟨k1,k2⟩:=oh hb.2;refine Nice.weak (jz Y m' {A with bl:=chB A.bl ch,wl:=ch.map (·.1)++A.wl} λi hi=>k1 i (h i hi)) λo J=>⟨J.nxs,J.le,λj B hB H=> ?_,λj H h0=>J.new j H (k1 j h0),λj H=>J.sub j (by simp[H])⟩;obtain⟨B',b1,_,_,_,b5⟩:=k2 j B hB;have:=b5 λhm=>H (J.sub j (by simp only[za8];exact .inl hm));subst this;exact J.keep j B' b1 H
   ·exact Nice.no λ_ h=>h
  ·exact Nice.no λ_ h=>h
variable {e:Exit}
theorem V8 {Δ:FuncId->Option DCtr} {K:Aft} :gq P Δ l K e A↔((e= .normal\/e= .ret)/\qF P Δ l K A.df none A)\/ ∃v,e=pex v/\qF P Δ l K A.df (some v) A:=by
 cases e with
 |normal=>simp[gq,pex]
 |ret=>simp[gq,pex]
 |panic ch=>
  simp only[gq,pex,Exit.panic.injEq];split
  ·rename_i e;obtain⟨v,r,g⟩:=e;cases r<;>cases g<;>simp
  ·rename_i h;simp only[reduceCtorEq,or_self,false_and,false_or,false_iff,not_exists,not_and];rintro v rfl;exact absurd rfl (h _)
 |_=>simp[gq,pex]
theorem qh {Δ:FuncId->Option DCtr} (h:NX A.bl A.nx):NiceT A.bl A.nx A.wl (λK=>gq P Δ l K e A):=by
 refine⟨λ{K K'} J hm=> ?_,λJ=> ?_⟩
 ·rcases V8.1 J with ⟨H,N⟩|⟨v,H,Y⟩
  ·exact V8.2 (.inl ⟨H,(jz A.df none A h).mono N λr b n w=>hm ⟨r,b,n,w⟩⟩)
  ·exact V8.2 (.inr ⟨v,H,(jz A.df (some v) A h).mono Y λr b n w=>hm ⟨r,b,n,w⟩⟩)
 ·rcases V8.1 J with ⟨_,N⟩|⟨v,_,Y⟩
  ·exact(jz A.df none A h).ne N
  ·exact(jz A.df (some v) A h).ne Y
def ayg (W1:Base) (bl0:zdL) (nx0:Nat) (wl0:zdH) (β0:zdI) (K:Aft) (e:Ending) (w':World):Prop:=
 ∃H r bl' J N,Ends H r e/\K r bl' J N/\BC W1 bl' H w'/\NX bl' J/\sg bl' r/\Tr bl0 nx0 N β0 bl' H/\(∀i∈wl0,i∈N)/\nx0<=J
section
theorem ayZ (J: ∀bl β w,BC W0 bl β w->BC W1 bl β w): ∀(m:Option Value) (A:AS) (β:zdI) (a:Act) (w:World),qF P Δ fn.results.toList K [] m A->
 Is W0 A β a w->Tr bl0 nx0 A.wl β0 A.bl β->(∀i∈wl0,i∈A.wl)->nx0<=A.nx->Leaves P fn a.tmps (ayg W1 bl0 nx0 wl0 β0 K) [] (pq m) w
 |none,A,β,a,w,h,H,Y,hw,N=>by
  obtain⟨l,hr,hk⟩:=Wf.1 h;obtain⟨r1,r2⟩:=uv H hr rfl;exact⟨_,r1,β, .ok (auq l),A.bl,A.nx,A.wl,rfl,hk,J _ _ _ H.bc,H.nx,r2,Y,hw,N⟩
 |some v,A,β,a,w,h,H,Y,hw,N=>⟨β, .pan v,A.bl,A.nx,A.wl,rfl,h,J _ _ _ H.bc,H.nx,trivial,Y,hw,N⟩
theorem ay0 (Y: ∀bl β w,BC W0 bl β w->BC W1 bl β w): ∀(N:List (FuncId×List SV×List SV)) (m:Option Value) (A:AS) (β:zdI) (a:Act) (w:World),qF P Δ fn.results.toList K N m A->
 Is W0 A β a w->N.all vA=true->Tr bl0 nx0 A.wl β0 A.bl β->(∀i∈wl0,i∈A.wl)->nx0<=A.nx->ayQ P fn a.tmps (ayg W1 bl0 nx0 wl0 β0 K) (N.map (NF β)) (pq m) w
 | [],m,A,β,a,w,h,J,_,ht,hw,hn=>ayZ Y m A β a w h J ht hw hn
 |(f,as,cs)::N,m,A,β,a,w,h,J,hm,ht,hw,hn=>by
  simp only[zbx,za2] at hm;have a0:Nat.ble yB f=true:=hm.1;simp only[qF,a0,zdr] at h;obtain⟨_,h⟩:=Xg.1 h;rw[zaK,show NF β (f,as,cs)={target:= .collected (β (f - yB)).blk,args:= #[]} by rw[NF,show vA (f,as,cs)=true from a0];rfl];generalize f - yB=q at*
  split at h
  ·rename_i B hB;split at h
   ·rename_i H g0;have e0:B.kd.map=true:=by rw[H];rfl
    obtain⟨_,_,_,m4⟩:=J.bc.maps.ok _ B hB e0;rw[H] at m4;obtain⟨x,o1,o2⟩:=m4;rw[o2 g0] at o1;have i0:=(zaq.1 o1).1
    have s1:=J.bc.setMap hB e0 (o':= .deferred none) (get':=λ_=> [.val (.bool true)]) (by
     rw[H]
     exact⟨none,World.putObj_heap_same (o:= .deferred none) i0,λh=>by cases h⟩) (λhl=>by rw[H] at hl;cases hl) (.inl λ_ _ e=>by rw[o1] at e;cases e)
    have s2:=s1.kill q (X:={B with kd:= .gone}) rfl;rw[J6] at s2
    have tr:Tr A.bl A.nx [q] β (upd A.bl q {B with kd:= .gone}) β:=⟨λi X hX=>by
     by_cases hi:i=q
     ·subst hi;rw[hB] at hX;obtain rfl:=zbj hX;exact⟨_,az _ _ _,rfl,⟨rfl,rfl⟩, .inr rfl,λh=>absurd zbF h⟩
     ·exact⟨X,by rw[ak hi];exact hX,rfl,⟨rfl,rfl⟩, .inl rfl,λ_=>rfl⟩,λ_ _=>rfl,λi _ h0=>by
     rw[ak (by rintro rfl;rw[h0] at hB;cases hB)];exact h0⟩
    refine⟨(β q).blk,_,rfl,run_takeDeferred o1, ?_⟩
    exact ay0 Y N m {A with bl:=upd A.bl q {B with kd:= .gone},wl:=q::A.wl} β a _ h ⟨(J.fr.carry tr).frame _ _,s2,λi hi=>by
     show upd A.bl q _ i=none
     rw[ak (by rintro rfl;rw[J.nx _ hi] at hB;cases hB)];exact J.nx i hi,J.sd⟩ hm.2
     (ht.trans tr hn (λi hi=>zan _ hi) (λi hi=>by rw[zaj.1 hi];exact zbF)) (λi hi=>zan _ (hw i hi)) hn
   ·exact h.elim
  ·exact h.elim
theorem ay1 (e0: ∀bl β w,BC W0 bl β w->BC W1 bl β w) (hΔ: ∀f k,Δ f=some k->Wz P W0 f k): ∀(N:List (FuncId×List SV×List SV)) (m:Option Value) (A:AS) (β:zdI) (a:Act) (w:World),qF P Δ fn.results.toList K N m A->
 Is W0 A β a w->N.any vA=false->(∀p∈N,∀s∈p.2.1++p.2.2,Live A.bl s)->Tr bl0 nx0 A.wl β0 A.bl β->(∀i∈wl0,i∈A.wl)->nx0<=A.nx->
 Leaves P fn a.tmps (ayg W1 bl0 nx0 wl0 β0 K) (N.map (NF β)) (pq m) w
 | [],m,A,β,a,w,h,Y,_,_,ht,hw,hn=>ayZ e0 m A β a w h Y ht hw hn
 |(f,as,cs)::N,m,A,β,a,w,h,Y,H,hl,ht,hw,hn=>by
  simp only[zcQ,zbr] at H;have J:Nat.ble yB f=false:=H.1;simp only[qF,J,H.2,zdq] at h;split at h
  ·rename_i k hk;split at h
   ·rename_i b m' ch hc;obtain⟨hb,h2⟩:=Xg.1 h;simp only[za2] at hb;obtain⟨rfl,a0⟩:=hb;obtain⟨j0,hd⟩:=hΔ f k hk m A.bl β w (as++cs) m' ch Y.bc (hl _ zbF) hc a0;obtain⟨k1,k2⟩:=oh a0
    have tr:Tr A.bl A.nx (ch.map (·.1)) β (chB A.bl ch) β:=⟨λi B hB=>by
     obtain⟨B',b1,b2,b3,b4,b5⟩:=k2 i B hB
     exact⟨B',b1,b2,b3,b4,b5⟩,λ_ _=>rfl,λi _ h0=>k1 i h0⟩
    have g0:(invoke (.fn (.func f) (SV.concs β cs).toArray) (SV.concs β as).toArray).run P w= .ok (.enter f (SV.concs β (as++cs)).toArray) w:=by
     have e:(SV.concs β as).toArray++(SV.concs β cs).toArray=(SV.concs β (as++cs)).toArray:=by simp[SV.concs_eq]
     show (callFunc f ((SV.concs β as).toArray++(SV.concs β cs).toArray)).run P w=_;rw[e];exact j0 _ w
    rw[zaK,NF,show vA (f,as,cs)=false from J];refine leaves_cons (by cases m<;>simp[pq]) g0 (CallsD.mono hd ?_);rintro e u' w' ⟨⟨v,rfl⟩,hu,i0⟩;simp only[hu];have:=ay1 e0 hΔ N m' {A with bl:=chB A.bl ch,wl:=ch.map (·.1)++A.wl} β a w' h2 ⟨(Y.fr.carry tr).frame _ _,i0,λi hi=>k1 i (Y.nx i hi),Y.sd⟩ H.2
     (λp hp s l0 i hi=>by
       have:=hl p (zan _ hp) s l0 i hi;cases hB:A.bl i with
       |none=>exact absurd hB this
       |some B=>obtain⟨B',b1,_⟩:=k2 i B hB;exact λh0=>by rw[show chB A.bl ch i=none from h0] at b1;cases b1)
     (ht.trans tr hn (λi hi=>by simp[hi]) (λi hi=>by simp[hi])) (λi hi=>by simp[hw i hi]) hn
    exact this
   ·exact h.elim
  ·exact h.elim
theorem mU (J: ∀bl β w,BC W0 bl β w->BC W1 bl β w) (hΔ: ∀f k,Δ f=some k->Wz P W0 f k) (H:List (FuncId×List SV×List SV)) (m:Option Value) (A:AS) (β:zdI) (a:Act) (w:World) (h:qF P Δ fn.results.toList K H m A)
 (hs:Is W0 A β a w) (hl: ∀p∈H,∀s∈p.2.1++p.2.2,Live A.bl s) (ht:Tr bl0 nx0 A.wl β0 A.bl β) (hw: ∀i∈wl0,i∈A.wl) (hn:nx0<=A.nx):
 ayf P fn a.tmps (ayg W1 bl0 nx0 wl0 β0 K) (H.map (NF β)) (pq m) w:=by
 cases Y:H.any vA with
 |false=>exact .inl (ay1 J hΔ H m A β a w h hs Y hl ht hw hn)
 |true=>
  refine .inr (ay0 J H m A β a w h hs ?_ ht hw hn);cases H with
  |nil=>rfl
  |cons p H=>
   obtain⟨f,as,cs⟩:=p;cases N:Nat.ble yB f with
   |true=>
    simp only[qF,N,zdr] at h;simp only[zbx,(Xg.1 h).1,zaQ];exact N
   |false=>
    have hd:H.any vA=true:=by
     rw[zcQ,show vA (f,as,cs)=false from N] at Y;simpa using Y
    simp only[qF,N,hd,zdr,zdq] at h
end
theorem D6 {x:SV} {z:Int} (h:NE x=some z):Pp x z=x:=by
 unfold NE at h;split at h
 ·simp only[za1] at h;subst h;rfl
 ·cases h
theorem vt: ∀(l:zdJ) (i:Nat) (z:Int),Gu l i=some z->Gt l i z=l
 | [],i,z,h=>by simp[Gu] at h
 |x::l,0,z,h=>by simp only[Gt,D6 h]
 |x::l,i+1,z,h=>by simp only[Gt,vt l i z h]
theorem alT {T:List SV->Bool->Prop} {args:zdJ} {i:Nat} {z:Int} (J:Gu args i=some z): ∀{l:List Int},x9 T args i z l-> ∃hq,T args hq
 | [],h=>⟨_,h⟩
 |n::r,h=>by
  obtain⟨h1,h2⟩:=VH.1 h;cases H:(z==n) with
  |true=>
   have:z=n:=by simpa using H
   subst this;have h:=h1 H;rw[vt args i z J] at h;exact⟨_,h⟩
  |false=>exact alT J (h2 H)
variable {b:Bool} {args:zdJ}
theorem Cm {T:List SV->Bool->Prop} (h:spl b T args): ∃hq,T args hq:=by
 cases b with
 |false=>exact⟨_,h⟩
 |true=>
  simp only[spl] at h;split at h
  ·rename_i z H;exact alT H h
  ·exact h.elim
theorem aaS {O:Type} {I:O->Prop} {T:(O->Prop)->List SV->Bool->Prop} (H: ∀args hq,Nice I λK=>T K args hq):Nice I λK=>spl b (T K) args:=by
 cases b with
 |false=>exact H args false
 |true=>
  simp only[spl];split
  ·rename_i z N;have key: ∀l:List Int,Nice I λK=>x9 (T K) args 1 z l:=by
    intro l
    induction l with
    |nil=>exact H args true
    |cons n r J=>
     simp only[x9];cases (z==n) with
     |true=>exact H _ false
     |false=>exact J
   exact key _
  ·exact Nice.no λ_ h=>h
variable {bl:zdL} {nx:Nat} {wl:zdH}
theorem Z2 (Y:NX bl nx) {C:Option RC}:NiceT bl nx wl (λK=>abC bl nx wl K C):=by
 unfold NiceT;cases C with
 |none=>exact Nice.no λ_ h=>h
 |some C=>
  refine⟨λ{K K'} J N=> ?_,λJ=> ?_⟩
  ·obtain⟨hp,h⟩:=Xg.1 J;refine Xg.2 ⟨hp,λx hx=> ?_⟩;obtain⟨hc,h⟩:=Xg.1 (h x hx);obtain⟨a1,a2,a3⟩:=aus Y hc (C.nw x);refine Xg.2 ⟨hc,N _ ⟨a1,by show nx<=nx+_;omega,λj B hB H=> ?_,a2,λj H=>by simp[H]⟩ h⟩;obtain⟨B',b1,_,_,_,b5⟩:=a3 j B hB;rw[b5 λN=>H (by simp only[za8];exact .inl N)] at b1;exact b1
  ·obtain⟨hp,h⟩:=Xg.1 J;obtain⟨x,hx⟩:=C.ex (by rw[za2] at hp;exact hp.2);exact(Xg.1 (h x hx)).2
theorem abq (H:NX bl nx) {k:List SV->Option RC} (args:zdJ):NiceT bl nx wl (λK=>abs k bl nx wl K args):=by
 by_cases h: ∃b r,args= .val (.bool b)::r
 ·obtain⟨b,r,rfl⟩:=h;cases b with
  |true=>exact Z2 H
  |false=>exact Z2 H
 ·refine Nice.no λK J=> ?_;unfold abs at J;split at J
  ·exact h ⟨_,_,rfl⟩
  ·exact J
variable {id:Nat}
theorem az9 {B:Blk} {e:Exit} {A:AS} {V:zdH} (hB:bl id=some B) (h:NX A.bl A.nx) (hid:id<A.nx) (hn:nx<=A.nx) (hk: ∀j X,j≠id->bl j=some X->j∉A.wl->A.bl j=some X) (J: ∀j,j<nx->bl j=none->A.bl j=none):
 NiceT bl nx wl (λK=>ayX id B wl K e A):=by
 unfold NiceT ayX;refine Nice.need ?_ _;have e0: ∀{j},bl j=none->j≠id:=λh0=>by rintro rfl;rw[hB] at h0;cases h0
 have keep: ∀Y j X,bl j=some X->j∉id::A.wl++wl->upd A.bl id Y j=some X:=λY j X hX H=>by
  simp only[zaO,zai,za8,not_or] at H;rw[ak H.1];exact hk j X H.1 hX H.2.1
 have N: ∀Y,NX (upd A.bl id Y) A.nx:=λY i hi=>by rw[ak (by omega)];exact h i hi
 have nw: ∀Y j,j<nx->bl j=none->upd A.bl id Y j=none:=λY j H h0=>by rw[ak (e0 h0)];exact J j H h0
 cases e with
 |normal=>
  refine Nice.one (o:=(⟨.ok (.val (.bool true)),upd A.bl id B,A.nx,A.wl++wl⟩:Out)) ⟨N _,hn,λj X hX H=> ?_,nw _,λj H=>zb1 _ H⟩;by_cases a0:j=id
  ·subst a0;show upd A.bl j B j=some X;rw[az,<-hX,hB]
  ·exact keep B j X hX (by simp only[zaO,zai,not_or];exact⟨a0,H⟩)
 |ret=>exact Nice.one (o:=(⟨.ok (.val (.bool false)),upd A.bl id (B.setL [.val (.int .i64 0)]),A.nx,id::A.wl++wl⟩:Out)) ⟨N _,hn,keep _,nw _,λj H=>zb1 _ H⟩
 |exit i=>exact Nice.one (o:=(⟨.ok (.val (.bool false)),upd A.bl id (B.setL [.val (.int .i64 1), .val (.int .i64 i)]),A.nx,id::A.wl++wl⟩:Out)) ⟨N _,hn,keep _,nw _,λj H=>zb1 _ H⟩
 |panic ch=>
  simp only[];split
  ·rename_i x;cases (x.recovered||x.goexit) with
   |true=>exact Nice.no λ_ h=>h
   |false=>exact Nice.one (o:=(⟨.pan x.v,A.bl,A.nx,id::A.wl++wl⟩:Out)) ⟨h,hn,λj X hX H=>by
     simp only[zaO,zai,za8,not_or] at H
     exact hk j X H.1 hX H.2.1,J,λj H=>zb1 _ H⟩
  ·exact Nice.no λ_ h=>h
 |goto l=>exact Nice.no λ_ h=>h
 |outgrown=>exact Nice.no λ_ h=>h
variable {inl:Inl} {Γ:zdP} {ann:zdV}
theorem aAa (H:cF inl) (id:Nat) (args:zdJ) (bl:zdL) (nx:Nat) (wl:zdH) (N:NX bl nx):NiceT bl nx wl (ayY P (λf=>vc P Γ inl f (ann f)) id args bl nx wl):=by
 unfold NiceT ayY;split
 ·rename_i B hB;have hid:id<nx:=by
   rcases zah id nx with h|h
   ·exact h
   ·rw[N id h] at hB;cases hB
  split
  ·rename_i r i0 g0;refine Nice.need ?_ _
   refine Nice.bind (O:=Exit×AS) (O':=Out) (F:=λ(K:Out->Prop) o=>match o.1 with
    | .normal=>ah (!Gl id o.2.wl) (vc P Γ inl r.fn (ann r.fn) r.body (ayX id B wl λr b n w=>K ⟨r,b,n,w⟩) {o.2 with bl:=upd o.2.bl id (B.setL [.val (.bool true)]),sd:=(none,none)})
    |_=>False) (fQ (P:=P) (Γ:=Γ) H r.fn (ann r.fn) r.assign (ax5 B r args bl nx) N) λo io=> ?_
   obtain⟨e,A⟩:=o;have f1:Fr (ax5 B r args bl nx) A:=io;have j0:nx<=A.nx:=f1.nx;cases e with
   |normal=>
    refine Nice.need ?_ _;have a0:NX (upd A.bl id (B.setL [.val (.bool true)])) A.nx:=λi hi=>by rw[ak (by omega)];exact f1.nxs i hi
    refine Nice.bind (O:=Exit×AS) (O':=Out) (F:=λ(K:Out->Prop) o=>ayX id B wl (λr b n w=>K ⟨r,b,n,w⟩) o.1 o.2) (fQ (P:=P) (Γ:=Γ) H r.fn (ann r.fn) r.body {A with bl:=upd A.bl id (B.setL [.val (.bool true)]),sd:=(none,none)} a0) λo e0=> ?_;obtain⟨e2,A2⟩:=o;have f2:Fr {A with bl:=upd A.bl id (B.setL [.val (.bool true)]),sd:=(none,none)} A2:=e0;have l0:A.nx<=A2.nx:=f2.nx;refine az9 (V:= []) hB f2.nxs (by show id<A2.nx;omega) (by show nx<=A2.nx;omega) (λj X J hX Y=> ?_) λj Y h0=> ?_
    ·refine f2.keep j X ?_ Y;show upd A.bl id _ j=some X;rw[ak J];exact f1.keep j X hX λhw=>Y (f2.wl j hw)
    ·have J:j≠id:=by rintro rfl;rw[hB] at h0;cases h0
     refine f2.new j (by show j<A.nx;omega) ?_;show upd A.bl id _ j=none;rw[ak J];exact f1.new j Y h0
   |_=>exact Nice.no λ_ h=>h
  ·exact Nice.no λ_ h=>h
 ·exact Nice.no λ_ h=>h
variable {Γm:FuncId->Option MCtr}
theorem ay2 (Y:cF inl) {Δ:FuncId->Option DCtr} (f:FuncId) (args:zdJ) (bl:zdL) (nx:Nat) (wl:zdH) (a0:NX bl nx):NiceT bl nx wl (azp P Γm Δ ann (λf=>vc P Γ inl f (ann f)) f args bl nx wl):=by
 unfold NiceT azp;split
 ·rename_i fn e0;split
  ·rename_i c hc;refine aaS (T:=λ(K:Out->Prop) args hq=>vc P Γ inl f (ann f) c (gq P Δ fn.results.toList λr b n w=>K ⟨r,b,n,w⟩) (sa (ann f) (fB args fn.ntmps bl nx wl hq))) λargs hq=> ?_;refine Nice.bind (O:=Exit×AS) (O':=Out) (F:=λ(K:Out->Prop) o=>gq P Δ fn.results.toList (λr b n w=>K ⟨r,b,n,w⟩) o.1 o.2) (fQ (P:=P) (Γ:=Γ) Y f (ann f) c (sa (ann f) (fB args fn.ntmps bl nx wl hq)) (by rw[(eA _ _).1,(eA _ _).2.1];exact a0)) λo J=> ?_;have J:=J.ofBd;exact Nice.weak (qh (P:=P) J.nxs) λo' H=>⟨H.nxs,zac J.nx H.le,λj B hB N=>H.keep j B (J.keep j B hB λhw=>N (H.sub j hw)) N,λj N h0=>H.new j (zam N J.nx) (J.new j N h0),λj N=>H.sub j (J.wl j N)⟩
  ·exact Nice.no λ_ h=>h
 ·exact Nice.no λ_ h=>h
theorem lN (ok:FuncId->Bool) (Γ:zdP) (Γm:FuncId->Option MCtr) (Δ:FuncId->Option DCtr) (ann:zdV): ∀n,cF (wn P ok Γ Γm Δ ann n)
 |0=>⟨λf args bl nx wl H=>Nice.no λ_ h=>h,λf args bl nx wl H=>Nice.no λ_ h=>h⟩
 |n+1=>⟨λf args bl nx wl H=>by
  unfold NiceT;simp only[wn];cases ok f with
  |false=>exact Nice.no λ_ h=>h
  |true=>
   simp only[zdr];split
   ·cases (Γm (f+1073741824)).isSome with
    |false=>exact Z2 H
    |true=>exact abq H args
   ·exact ay2 (lN ok Γ Γm Δ ann n) f args bl nx wl H,λi args bl nx wl H=>aAa (lN ok Γ Γm Δ ann n) i args bl nx wl H⟩
theorem Ea (ok:FuncId->Bool) (Γ:zdP) (Γm:FuncId->Option MCtr) (Δ:FuncId->Option DCtr) (ann:zdV) (n:Nat) (f:FuncId) (args:zdJ) (bl:zdL) (nx:Nat) (wl:zdH) (H:NX bl nx):NiceT bl nx wl (Ay P ok Γ Γm Δ ann n f args bl nx wl):=by
 unfold NiceT Ay;cases ok f with
 |false=>exact Nice.no λ_ h=>h
 |true=>exact ay2 (lN ok Γ Γm Δ ann n) f args bl nx wl H
theorem azr {β:zdI}: ∀(ps:List Tmp) (args:zdJ) (tmps:Array Value),(∀p∈ps,p<tmps.size)->
 ((ps.zip (SV.concs β args)).foldl (λtmps p=>tmps.setIfInBounds p.1 p.2) tmps).size=tmps.size/\ ∀t,(∀s,az5 ps args t=some s->((ps.zip (SV.concs β args)).foldl (λtmps p=>tmps.setIfInBounds p.1 p.2) tmps).getD t undef=s.conc β/\s∈args)/\
   (az5 ps args t=none->((ps.zip (SV.concs β args)).foldl (λtmps p=>tmps.setIfInBounds p.1 p.2) tmps).getD t undef=tmps.getD t undef)
 | [],args,tmps,_=>⟨by simp,λt=>⟨λs h=>by simp[az5] at h,λ_=>by simp⟩⟩
 |p::ps, [],tmps,_=>⟨by simp[SV.concs],λt=>⟨λs h=>by simp[az5] at h,λ_=>by simp[SV.concs]⟩⟩
 |p::ps,a::as,tmps,hp=>by
  obtain⟨h1,h2⟩:=azr (β:=β) ps as (tmps.setIfInBounds p (a.conc β)) (λq hq=>by rw[zde];exact hp q (zan _ hq));simp only[SV.concs,List.zip_cons_cons,zbe];refine⟨by rw[h1,zde],λt=> ?_⟩;obtain⟨k1,k2⟩:=h2 t;have a0:=hp p zbF;refine⟨λs H=> ?_,λH=> ?_⟩
  ·simp only[az5] at H;split at H
   ·rename_i s' J;obtain rfl:=zbj H;obtain⟨a1,a2⟩:=k1 s' J;exact⟨a1,zan _ a2⟩
   ·rename_i J;cases N:Nat.beq t p with
    |false=>rw[N] at H;cases H
    |true=>
     rw[N] at H;obtain rfl:=zbj H;have:=zab N;subst this;refine⟨?_,zbF⟩;rw[k2 J,zcG];simp[a0]
  ·simp only[az5] at H;split at H
   ·cases H
   ·rename_i J;cases N:Nat.beq t p with
    |true=>rw[N] at H;cases H
    |false=>
     rw[bS] at N;have Y:t≠p:=by simpa using N
     rw[k2 J,zcG,zcG,zdb (Ne.symm Y)]
variable {β:zdI} {w:World}
theorem aAb (hΓ:GamOK P W0 Γ) (T0:P.follows .mixedOrders=true) (C0: ∀B,SubB B W0->InlOK P B inl) (w0:cF inl)
 {K:Aft} (h:ayY P (λf=>vc P Γ inl f (ann f)) id args bl nx wl K) (H0:BC W0 bl β w) (U0:NX bl nx) (hl: ∀s∈args,Live bl s):
 ∃fn tmps assign body,(Instr.yield (β id).blk (SV.concs β args).toArray).run P w= .ok (.round (β id).blk fn tmps assign body) w/\RoundIn Fence.wide 0 P (β id).blk fn tmps assign body w (Behind W0 β bl nx wl K):=by
 unfold ayY at h;split at h
 ·rename_i B hB;split at h
  ·rename_i r a0 N0;obtain⟨hc,h⟩:=Xg.1 h;simp only[za2,zaf] at hc;obtain⟨⟨⟨⟨c1,c2⟩,c3⟩,c4⟩,c5⟩:=hc;have c4:=zab c4;obtain⟨fd,l1⟩:=Option.isSome_iff_exists.1 c1;have hf:P.funcs[r.fn]? =some fd:=by simpa using l1
   have g0:B.kd.map=true:=by rw[a0];rfl
   have u0:B.kd.lst=true:=by rw[a0];rfl
   obtain⟨_,_,_,m4⟩:=H0.maps.ok _ B hB g0;rw[a0] at m4;obtain⟨L,x,o1,o2,o3,o4⟩:=m4;have n1:(SV.concs β args).toArray.size=L.params.size:=by rw[o3.ps];simp[SV.concs_eq,c4]
   refine⟨_,_,_,_,run_yield o1 n1, ?_⟩;rw[o3.fn,o3.assign,o3.body,o3.ps];have I0:(r.ps.zip (SV.concs β args).toArray).foldl (λtmps (t,a)=>tmps.setIfInBounds t a) L.tmps=(r.ps.toList.zip (SV.concs β args)).foldl (λtmps p=>tmps.setIfInBounds p.1 p.2) L.tmps:=by
    rw[<-Array.foldl_toList,Array.toList_zip]
   rw[I0];obtain⟨p1,p2⟩:=azr (β:=β) r.ps.toList args L.tmps (λp hp=>by rw[o3.size];have:=c5 p hp;simpa [zb2] using this);generalize (r.ps.toList.zip (SV.concs β args)).foldl (λtmps p=>tmps.setIfInBounds p.1 p.2) L.tmps=tmps at p1 p2;refine aDL hf λb hb hr=> ?_;have E1: ∀e s,s∈B.get e->Live bl s:=λe s hs=>H0.maps.live id B e s hB u0 hs;have F1:Is {W0 with sd:=(none,none)} (ax5 B r args bl nx) β {tmps:=tmps,defers:= []} w:=by
    refine⟨⟨⟨rfl,λ_ h=>by cases h⟩,by rw[p1,o3.size];rfl,λt s H=> ?_,λt u c s H=> ?_,λt u c s H=> ?_⟩,H0.sd,U0,rfl⟩
    ·simp only[ax5] at H;split at H
     ·rename_i s' K0;simp only[TV.v.injEq] at H;subst H;obtain⟨a1,a2⟩:=(p2 t).1 _ K0;exact⟨a1,hl _ a2⟩
     ·rename_i K0;split at H
      ·rename_i s' hg;simp only[TV.v.injEq] at H;subst H;exact⟨((p2 t).2 K0).trans (o4 t _ hg),E1 (t+1) _ (by rw[hg];simp)⟩
      ·cases H
    ·simp only[ax5] at H;split at H
     ·cases H
     ·split at H<;>cases H
    ·simp only[ax5] at H;split at H
     ·cases H
     ·split at H<;>cases H
   have i0:SubB {W0 with sd:=(none,none)} W0:=SubB.sd _ _;have v1:=eV (hΓ.sub i0) T0 (λC hC=>C0 C (hC.trans i0)) w0 hb (ann r.fn) r.assign (.inr c2) _ _ β _ w h (F1.x rfl);refine WpB.mono ?_ v1;rintro e a1 w1 ⟨A1,n0,z0,s1,t1⟩;cases e with
   |normal=>
    obtain⟨O0,z0⟩:=Xg.1 z0;have s1:=s1.up;have V0:id∉A1.wl:=λhm=>by simp[Wo.2 hm] at O0
    obtain⟨B1,b1,_,_,_,b5⟩:=t1.tr.keep id B hB;have j0:A1.bl id=some B:=by rw[b1,b5 V0]
    have e1:n0 id=β id:=t1.tr.same id (by show bl id≠none;rw[hB];simp);have o0:BC W0 A1.bl n0 w1:=s1.bc.unsd.unsd;obtain⟨_,_,_,m4⟩:=o0.maps.ok _ B j0 g0;rw[a0,e1] at m4;obtain⟨L1,x1,q1,q2,q3,q4⟩:=m4;rw[N0] at q2;obtain rfl:(LoopState.ready,none)=x1:=zbj q2;have Q0:=(zaq.1 q1).1
    have b2:=o0.setMap j0 g0 (o':= .loop {L1 with state:= .busy}) (get':=aAN [.val (.bool true)] B.get) (by
     rw[a0,e1];exact⟨{L1 with state:= .busy},(.busy,none),World.putObj_heap_same Q0,rfl,⟨rfl,q3.pend.elim (λh=>by cases h) .inr,q3.fn,q3.ps,q3.assign,q3.body,q3.size⟩,λt s H=>q4 t s H⟩) (λ_ e s x0=>by
     cases e with
     |zero=>intro i hi;rw[zaj.1 x0] at hi;cases hi
     |succ t=>exact o0.maps.live id B (t+1) s j0 u0 x0) (.inl λ_ _ e=>by rw[e1,q1] at e;cases e)
    rw[e1] at b2;refine⟨_,run_beginRound q1 q3.st, ?_⟩;have hX:({B with get:=aAN [.val (.bool true)] B.get}:Blk)=B.setL [.val (.bool true)]:=rfl;rw[hX] at b2
    have K1:Tr A1.bl A1.nx [id] n0 (upd A1.bl id (B.setL [.val (.bool true)])) n0:=⟨λi X hX=>by
     by_cases hi:i=id
     ·subst hi;rw[j0] at hX;obtain rfl:=zbj hX;exact⟨_,az _ _ _,rfl,⟨rfl,rfl⟩, .inl rfl,λh=>absurd (by simp) h⟩
     ·exact⟨X,by rw[ak hi];exact hX,rfl,⟨rfl,rfl⟩, .inl rfl,λ_=>rfl⟩,λ_ _=>rfl,λi _ h0=>by
     rw[ak (by rintro rfl;rw[h0] at j0;cases j0)];exact h0⟩
    have M1:id<nx:=by
     rcases zah id nx with h|h
     ·exact h
     ·rw[U0 id h] at hB;cases hB
    have N1:nx<=A1.nx:=t1.nx;have H1:Is {W0 with sd:=(none,none)} {A1 with bl:=upd A1.bl id (B.setL [.val (.bool true)]),sd:=(none,none)} n0 a1 (w1.putObj (β id).blk (.loop {L1 with state:= .busy})):=
     ⟨FR.side (A:={A1 with bl:=upd A1.bl id (B.setL [.val (.bool true)])}) (s1.fr.carry K1) _,b2.sd,λi hi=>by
       have hi:A1.nx<=i:=hi;show upd A1.bl id _ i=none
       rw[ak (by omega)];exact s1.nx i hi,rfl⟩
    have v2:=eV (hΓ.sub i0) T0 (λC hC=>C0 C (hC.trans i0)) w0 hb (ann r.fn) r.body (.inr c3) _ _ n0 _ _ z0 (H1.x rfl);refine WpB.mono ?_ v2;rintro e a3 w3 ⟨A3,N,J,s3,t3⟩;have s3:=s3.up;have e0:BC W0 A3.bl N w3:=s3.bc.unsd.unsd;obtain⟨q0,J⟩:=Xg.1 J;simp only[za2] at q0;have Y0:id∉A3.wl:=λhm=>by simp[Wo.2 hm] at q0
    have M0:a3.defers= []:=by
     rw[s3.fr.defers.1,List.isEmpty_iff.1 q0.2];rfl
    obtain⟨B3,b3,_,_,_,Z0⟩:=t3.tr.keep id (B.setL [.val (.bool true)]) (by show upd A1.bl id _ id=_;rw[az]);have y0:A3.bl id=some (B.setL [.val (.bool true)]):=by rw[b3,Z0 Y0]
    have e3:N id=β id:=(t3.tr.same id (by show upd A1.bl id _ id≠none;rw[az];simp)).trans e1;have v0:(B.setL [.val (.bool true)]).kd.map=true:=g0;obtain⟨_,_,_,m4⟩:=e0.maps.ok _ _ y0 v0;rw[show (B.setL [.val (.bool true)]).kd= .lp r from a0,e3] at m4;obtain⟨L3,x3,u1,u2,u3,u4⟩:=m4;obtain rfl:(LoopState.busy,none)=x3:=zbj u2;have R0:=(zaq.1 u1).1;have O1:A1.nx<=A3.nx:=t3.nx;have B0: ∀(Y:Blk) (V:zdH),Y.n=B.n->Y.sz=B.sz->Y.nn=B.nn->Y.kd=B.kd->(Y=B\/id∈V)->(∀i∈A3.wl,i∈V)->Tr bl nx V β (upd A3.bl id Y) N:=λY V y1 y2 y3 y4 hY hV=>by
     refine⟨λi X hX=> ?_,λi hi=> ?_,λi hi h0=> ?_⟩
     ·by_cases l0:i=id
      ·subst l0;rw[hB] at hX;obtain rfl:=zbj hX;exact⟨Y,az _ _ _,y1,⟨y2,y3⟩, .inl y4,λh=>hY.resolve_right h⟩
      ·obtain⟨X1,z1,z2,z3,z4,z5⟩:=t1.tr.keep i X hX;obtain⟨X3,v1,v2,v3,v4,v5⟩:=t3.tr.keep i X1 (by show upd A1.bl id _ i=_;rw[ak l0];exact z1);exact⟨X3,by rw[ak l0];exact v1,v2.trans z2,⟨v3.1.trans z3.1,v3.2.trans z3.2⟩,v4.elim (λh=>by rw[h];exact z4) .inr,λh=>(v5 λhm=>h (hV i hm)).trans (z5 λhm=>h (hV i (t3.wl i hm)))⟩
     ·have h1:A1.bl i≠none:=t1.tr.dom hi;exact(t3.tr.same i (by show upd A1.bl id _ i≠none;exact BY h1)).trans (t1.tr.same i hi)
     ·have l0:i≠id:=by rintro rfl;rw[hB] at h0;cases h0
      rw[ak l0];exact t3.tr.new i (by show i<A1.nx;omega) (by show upd A1.bl id _ i=none;rw[ak l0];exact t1.tr.new i hi h0)
    have L0: ∀Y,NX (upd A3.bl id Y) A3.nx:=λY i hi=>by rw[ak (by omega)];exact s3.nx i hi
    have E0: ∀(jump:Option Code) (l:zdJ) (x:LoopState×Option Code),stL l=some x->x.1=(if jump.isNone then .ready else .done)->x.2=jump->SV.idss l= []->
     ∃w4,(Instr.endRound (β id).blk jump).run P w3= .ok (.bool jump.isNone) w4/\BC W0 (upd A3.bl id (B.setL l)) N w4:=λjump l x hx C1 D1 P0=>by
     refine⟨_,run_endRound jump u1, ?_⟩
     have b4:=e0.setMap y0 v0 (o':= .loop {L3 with state:=if jump.isNone then .ready else .done,pending:=jump}) (get':=aAN l B.get) (by
      rw[show (B.setL [.val (.bool true)]).kd= .lp r from a0,e3];exact⟨_,x,World.putObj_heap_same R0,hx,⟨C1.symm, .inr D1.symm,u3.fn,u3.ps,u3.assign,u3.body,u3.size⟩,λt s H=>u4 t s H⟩) (λ_ e s x0=>by
      cases e with
      |zero=>intro i hi;have:i∈SV.idss l:=SV.mem_idss.2 ⟨s,x0,hi⟩;rw[P0] at this;cases this
      |succ t=>exact e0.maps.live id _ (t+1) s y0 u0 x0) (.inl λ_ _ e=>by rw[e3,u1] at e;cases e)
     rw[e3] at b4;exact b4
    have j1:B.setL []=B:=by
     have:aAN [] B.get=B.get:=funext λe=>by cases e with
      |zero=>exact N0.symm
      |succ t=>rfl
     show {B with get:=aAN [] B.get}=B;rw[this]
    cases e with
    |normal=>
     obtain⟨w4,r1,r2⟩:=E0 none [] (.ready,none) rfl rfl rfl rfl;rw[j1] at r2;exact⟨_,w4,r1,N, .ok (.val (.bool true)),_,_,_,rfl,J,r2,L0 _,λi hi=>by simp[SV.ids] at hi,B0 B _ rfl rfl rfl rfl (.inl rfl) (λi hi=>zbI _ hi),λi hi=>zb1 _ hi,by omega⟩
    |ret=>
     obtain⟨w4,r1,r2⟩:=E0 (some .ret) [.val (.int .i64 0)] (.done,some .ret) rfl rfl rfl rfl;exact⟨_,w4,r1,N, .ok (.val (.bool false)),_,_,_,rfl,J,r2,L0 _,λi hi=>by simp[SV.ids] at hi,B0 _ _ rfl rfl rfl rfl (.inr (by simp)) (λi hi=>by simp[hi]),λi hi=>by simp[hi],by omega⟩
    |exit j=>
     obtain⟨w4,r1,r2⟩:=E0 (some (.exit j)) [.val (.int .i64 1), .val (.int .i64 j)] (.done,some (.exit j)) rfl rfl rfl rfl;exact⟨_,w4,r1,N, .ok (.val (.bool false)),_,_,_,rfl,J,r2,L0 _,λi hi=>by simp[SV.ids] at hi,B0 _ _ rfl rfl rfl rfl (.inr (by simp)) (λi hi=>by simp[hi]),λi hi=>by simp[hi],by omega⟩
    |panic ch=>
     cases ch with
     |nil=>exact J.elim
     |cons y l=>
     cases l with
     |cons _ _=>exact J.elim
     |nil=>
      obtain⟨v,rc,ge⟩:=y;cases rc<;>cases ge<;>first|exact J.elim|skip
      have hU:upd A3.bl id (B.setL [.val (.bool true)])=A3.bl:=funext λi=>by
       by_cases hi:i=id
       ·subst hi;rw[az,y0]
       ·rw[ak hi]
      exact⟨M0,N, .pan v,_,_,_,rfl,J,e0,s3.nx,trivial,by have:=B0 (B.setL [.val (.bool true)]) (id::A3.wl++wl) rfl rfl rfl rfl (.inr (by simp)) (λi hi=>by simp[hi]);rwa[hU] at this,λi hi=>by simp[hi],by omega⟩
    |goto l=>exact J.elim
    |outgrown=>exact J.elim
   |_=>exact z0.elim
  ·exact h.elim
 ·exact h.elim
variable {ok:FuncId->Bool}
theorem ayI {Δ:FuncId->Option DCtr} (H:HypD P W0 ok Γ Γm Δ) (e0: ∀B,SubB B W0->InlOK P B inl) (a0:cF inl)
 {f:FuncId} {K:Aft} (h:azp P Γm Δ ann (λf=>vc P Γ inl f (ann f)) f args bl nx wl K) (g0:BC W0 bl β w) (j0:NX bl nx) (hl: ∀s∈args,Live bl s):
 Calls P f (SV.concs β args).toArray w (Behind W0 β bl nx wl K):=by
 unfold azp at h;split at h
 ·rename_i fn i0;split at h
  ·rename_i c hc;have hf:P.funcs[f]? =some fn:=by simpa using i0
   refine azP hf hc λb hb hr=> ?_;obtain⟨hq,h⟩:=Cm h;obtain⟨b1,b2,b3,_⟩:=eA (ann f) (fB args fn.ntmps bl nx wl hq);have hs:Is {W0 with sd:=(sa (ann f) (fB args fn.ntmps bl nx wl hq)).sd} (sa (ann f) (fB args fn.ntmps bl nx wl hq)) β {tmps:=(SV.concs β args).toArray++Array.replicate (fn.ntmps - (SV.concs β args).toArray.size) undef,defers:= []} w:=
    ⟨ae5 (yu β args fn.ntmps bl nx wl _ hl),by rw[b1];exact g0.sd,by rw[b1,b2];exact j0,rfl⟩
   refine WpB.mono ?_ (eV (H.gam.sub (SubB.sd _ _)) H.mixed (λB hB=>e0 B (hB.trans (SubB.sd _ _))) a0 hb (ann f) c (.inl hr) _ _ β _ w h (hs.x (adi rfl)));rintro e a' w' ⟨A',β',hk,J,N⟩;have J:=IsX.up J;have N:Trs (fB args fn.ntmps bl nx wl hq) β A' β':=⟨by have:=N.tr;rw[b1,b2] at this;exact this,by have:=N.wl;rw[b3] at this;exact this,by have:=N.nx;rw[b2] at this;exact this,by rw[N.nt];exact(eA _ _).2.2.2⟩;have Y: ∀m,qF P Δ fn.results.toList K A'.df m A'->ayf P fn a'.tmps (ayg W0 bl nx wl β K) a'.defers (pq m) w':=by
    intro m hm;rw[J.fr.defers.1];exact mU (λ_ _ _ h=>h.unsd.unsd) (H.dem _ ((SubB.sd _ _).trans (SubB.sd _ _))) A'.df m A' β' a' w' hm J (λp hp=>(J.fr.defers.2 p hp).1) N.tr N.wl N.nx
   rcases V8.1 hk with ⟨he,hr⟩|⟨v,rfl,hv⟩
   ·rcases he with rfl|rfl
    ·exact Y none hr
    ·exact Y none hr
   ·exact Y (some v) hv
  ·exact h.elim
 ·exact h.elim
theorem mV {P:Program} {W0:Base} {ok:FuncId->Bool} {Γ:zdP} {Γm:FuncId->Option MCtr} {Δ:FuncId->Option DCtr} (H:HypD P W0 ok Γ Γm Δ) (ann:zdV): ∀n,InlOK P W0 (wn P ok Γ Γm Δ ann n)
 |0=>⟨λf args bl nx wl K β w h=>h.elim,λf args bl nx wl K β w h=>h.elim⟩
 |n+1=>⟨by
  intro f args bl nx wl K β w h N J Y;simp only[wn] at h;cases a0:ok f with
  |false=>rw[a0] at h;exact h.elim
  |true=>
   rw[a0] at h;simp only[zdr] at h;refine⟨H.ok f a0, ?_⟩;split at h
   ·rename_i k hk;have go: ∀args,(∀s∈args,Live bl s)->abC bl nx wl K (k bl nx args)->Calls P f (SV.concs β args).toArray w λe w'=> ∃β' r bl' e0 g0,Ends β' r e/\K r bl' e0 g0/\BC W0 bl' β' w'/\NX bl' e0/\sg bl' r/\Tr bl nx g0 β bl' β'/\(∀i∈wl,i∈g0)/\nx<=e0:=by
     intro args Y h;cases hC:k bl nx args with
     |none=>rw[hC] at h;exact h.elim
     |some C=>
     rw[hC] at h;obtain⟨hn,h⟩:=Xg.1 h;rw[za2] at hn;refine Calls.mono (H.mem W0 (SubB.refl W0) f k hk bl β w nx args C N (lK J hn.1) J Y hC hn.2) ?_;rintro e w' ⟨x,hx,β',he,g1,g2,g3⟩;obtain⟨hc,h⟩:=Xg.1 (h x hx);obtain⟨a1,a2,a3⟩:=aus J hc (C.nw x);refine⟨β',C.res x,_,_,_,he,h,g1,a1,g3,⟨λi B hB=> ?_,g2,a2⟩,λi hi=>by simp[hi],by omega⟩;obtain⟨B',b1,b2,b3,b4,b5⟩:=a3 i B hB;exact⟨B',b1,b2,b3,b4,λhi=>b5 λhm=>hi (by simp only[za8];exact .inl hm)⟩
    cases hh:(Γm (f+1073741824)).isSome with
    |false=>rw[hh] at h;exact go args Y h
    |true=>
     rw[hh] at h;simp only[] at h;unfold abs at h;split at h
     ·rename_i b r;have i0: ∀c:Bool,∀s∈SV.val (.bool c)::r,Live bl s:=λc s hs=>by
       rcases zai.1 hs with rfl|hs
       ·exact λi hi=>by simp[SV.ids] at hi
       ·exact Y s (zan _ hs)
      obtain⟨h1,h2⟩:=VH.1 h;cases b with
      |true=>exact go _ (i0 true) (h1 rfl)
      |false=>exact go _ (i0 false) (h2 rfl)
     ·exact h.elim
   ·exact ayI H (λB hB=>mV (H.sub hB) ann n) (lN ok Γ Γm Δ ann n) h N J Y,λi args bl nx wl K β w h N J Y=>aAb H.gam H.mixed (λB hB=>mV (H.sub hB) ann n) (lN ok Γ Γm Δ ann n) h N J Y⟩
theorem sU {Δ:FuncId->Option DCtr} (H:HypD P W0 ok Γ Γm Δ) (ann:zdV) (n:Nat) (f:FuncId) (args:zdJ) (bl:zdL) (nx:Nat) (wl:zdH) (K:Aft) (β:zdI) (w:World) (h:Ay P ok Γ Γm Δ ann n f args bl nx wl K) (N:BC W0 bl β w) (Y:NX bl nx) (hl: ∀s∈args,Live bl s):
 Callable P f/\Calls P f (SV.concs β args).toArray w (Behind W0 β bl nx wl K):=by
 unfold Ay at h;cases J:ok f with
 |false=>rw[J] at h;exact h.elim
 |true=>
  rw[J] at h;exact⟨H.ok f J,ayI H (λB hB=>mV (H.sub hB) ann n) (lN ok Γ Γm Δ ann n) h N Y hl⟩
theorem sO (H:Hyp P W0 ok Γ Γm) (ann:zdV) (n:Nat):InlOK P W0 (wq P ok Γ Γm ann n):=mV H ann n
def gw:List (FuncId×Ctr)->zdP
 | [],_=>none
 |(g,k)::r,f=>bif Nat.beq f g then some k else gw r f
def gx:List (FuncId×MCtr)->FuncId->Option MCtr
 | [],_=>none
 |(g,k)::r,f=>bif Nat.beq f g then some k else gx r f
def iR (l:List FuncId) (f:FuncId):Bool:=l.any (Nat.beq f)
theorem ayv: ∀{l:List (FuncId×Ctr)} {f:FuncId} {k:Ctr},gw l f=some k->(f,k)∈l
 | [],f,k,h=>by cases h
 |(g,c)::r,f,k,h=>by
  simp only[gw] at h;cases H:Nat.beq f g with
  |true=>
   rw[H] at h;simp only[zdr,za1] at h;subst h;rw[zab H];simp
  |false=>rw[H] at h;exact zan _ (ayv h)
abbrev _root_.zdW:=List (FuncId×MCtr)
theorem vw: ∀{l:zdW} {f:FuncId} {k:MCtr},gx l f=some k->(f,k)∈l
 | [],f,k,h=>by cases h
 |(g,c)::r,f,k,h=>by
  simp only[gx] at h;cases H:Nat.beq f g with
  |true=>
   rw[H] at h;simp only[zdr,za1] at h;subst h;rw[zab H];simp
  |false=>rw[H] at h;exact zan _ (vw h)
theorem mW {gam:List (FuncId×Ctr)} {gm:zdW} {oks:List FuncId} (N: ∀p∈gam,CtrOK P W0 p.1 p.2/\Callable P p.1) (Y: ∀B,SubB B W0-> ∀p∈gm,VU P B p.1 p.2) (J: ∀f∈oks,Callable P f) (H:P.follows .mixedOrders=true):
 Hyp P W0 (iR oks) (gw gam) (gx gm) where
 gam:=⟨λf k h=>(N _ (ayv h)).1,λf k h=>(N _ (ayv h)).2⟩
 mem:=λB hB f k h=>Y B hB _ (vw h)
 dem:=λ_ _ _ _ h=>by cases h
 ok:=λf h=>by
  unfold iR at h;simp only[zaP] at h;obtain⟨g,hg,hb⟩:=h;rw[zab hb];exact J g hg
 mixed:=H
theorem abD (h:NX bl nx):fv bl nx []=bl:=by
 funext i
 unfold fv;rw[aB];by_cases hi:i<nx
 ·simp[hi]
 ·simp[hi,h i (by omega)]
theorem abx {w':World} {s:SV} (H:BC W0 bl β w) (J:NX bl nx) (Y:s.ids= []) (N:Below w.heap.size w w'):BC W0 (fv bl nx []) β w'/\(∀i,bl i≠none->β i=β i)/\Live (fv bl nx []) s:=by
 rw[abD J];exact⟨H.step N,λ_ _=>rfl,aW Y⟩
theorem sP (w:World) (β:zdI):BC w (λ_=>none) β w where
 below:=Pres.refl _
 blk:=λ_ _ h=>by cases h
 own:=λ_ _ h=>by cases h
 old:=λ_ _ h=>by cases h
 inj:=λ_ _ _ _ h=>by cases h
 live:=λ_ _ _ _ _ h=>by cases h
 maps:=⟨λ_ _ h=>(by cases h),λ_ _ _ _ h=>(by cases h),λ_ _ _ _ h=>(by cases h),λ_ _ h=>by cases h⟩
theorem run_pure (H:Hyp P w ok Γ Γm) (ann:zdV) (n:Nat) (f:FuncId) (args:zdJ) (J:SV.idss args= []) (Q:zdR)
 (h:wq P ok Γ Γm ann n f args (λ_=>none) 0 [] (okK λr _ _ _=>r.ids= []/\Q r)):
 Calls P f (SV.concs oj args).toArray w λe w'=> ∃r,e= .returned (r.conc oj)/\r.ids= []/\Q r/\Below w.heap.size w w':=by
 obtain⟨_,h⟩:=(sO H ann n).call f args _ 0 [] _ oj w h (sP w oj) (λ_ _=>rfl) (λs hs i hi=>by
  have:i∈SV.idss args:=SV.mem_idss.2 ⟨s,hs,hi⟩
  rw[J] at this;cases this)
 refine Calls.mono h ?_;rintro e w' ⟨β',r,bl',a0,e0,he,Y,N,_⟩;cases r with
 |pan v=>exact Y.elim
 |ok r=>
 obtain rfl:e=_:=he;obtain⟨hi,hq⟩:=Y;exact⟨r,by rw[SV.conc_congr r (β:=oj) (β':=β') (λi h=>by rw[hi] at h;cases h)],hi,hq,N.below.below⟩
end
end Go.Sy
