import Derived.Test.YtdjfpjmijhjmpaaGreatDoorZe
import Derived.Recover
import Derived.Tactics
import Derived.Tactics2
import Derived.Laws.Pointers
import Derived.RowKitTokens
import Derived.LaidEql
import Derived.Stop.Asserts
import Derived.Test.YtdjfpjmijhjmpaaGreatDoorRows
import Derived.HandedShaped
import Derived.ProofKit
import Derived.OpenShut
import Derived.LaidMore
import Derived.Lay
import Derived.Lib.LaidTab
import Derived.Shelf.Vars
import Derived.Stop.LaidErr
import Derived.Stop.Joined
set_option linter.unusedVariables false
set_option linter.unusedSimpArgs false
set_option maxHeartbeats 1000000
set_option maxRecDepth 100000
noncomputable section
namespace Go.Proofs.YtdjfpjmijhjmpaaGreatDoor
open Go.Proofs.Tryz
open Go Go.RowKit Go.Sy Yk
def fL (inp H:zdZ) (x:Nd):Un×Int:=
 bif x.op==1 then(bif rV x.v&&VK x.u then(x.u,0) else(noU,90)) else
 bif x.op==2 then(bif decide (0<=x.n)&&decide (x.n<(inp.length:Int)) then(mb noU inp x.n.toNat,0) else(noU,90)) else
 bif x.op==3 then iS (mb noU H x.l.toNat) (mb noU H x.r.toNat) else
 bif x.op==4 then fw (mb noU H x.l.toNat) (mb noU H x.r.toNat) else
 bif x.op==5 then mi (mb noU H x.l.toNat) (mb noU H x.r.toNat) else
 bif x.op==6 then aAO (mb noU H x.l.toNat) (mb noU H x.r.toNat) else
 bif x.op==7 then(bif x.n==0||decide (x.n< -4)||decide (x.n>4) then(noU,90) else jm (mb noU H x.l.toNat) (x.n,1)) else
 bif x.op==8 then jm (mb noU H x.l.toNat) (1,2) else(noU,90)
def earF (n:Nat) (i:Int):Bool:=decide (0<=i)&&decide (i<(n:Int))
def VT (n:Nat) (x:Nd):Bool:=
 bif x.op==1 then eqN ⟨0,aFn,noU,x.n,x.l,x.r⟩ noN else
 bif x.op==2 then eqN ⟨0,x.v,x.u,0,x.l,x.r⟩ noN else
 bif decide (3<=x.op)&&decide (x.op<=6) then eqN ⟨0,x.v,x.u,x.n,0,0⟩ noN&&earF n x.l&&earF n x.r else
 bif x.op==7 then eqN ⟨0,x.v,x.u,0,0,x.r⟩ noN&&earF n x.l else
 bif x.op==8 then eqN ⟨0,x.v,x.u,x.n,0,x.r⟩ noN&&earF n x.l else false
def mn (inp H:zdZ) (x:Nd):Option Un:=bif VT H.length x&&(fL inp H x).2==0 then some (fL inp H x).1 else none
def iB (inp:zdZ):List Nd->List Un->List Un×Bool
 | [],H=>(H,true)
 |x::r,H=>match mn inp H x with
  |some u=>iB inp r (H++ [u])
  |none=>(H,false)
def ly (H:zdZ):Un:=mb noU H (H.length - 1)
def oB (p:Pr):Bool:=decide (1<=p.id)&&decide (p.id<=1000000)&&decide (p.inp.length<=6)&&p.inp.all VK&&decide (1<=p.nod.length)&&decide (p.nod.length<=40)
def VJ (p:Pr):List Un×Int×Int:=bif oB p then(match iB p.inp p.nod [] with
 |(H,true)=>bif eqU (ly H) p.out then(H,0,0) else([],p.nod.length,90)
 |(H,false)=>([],H.length,90)) else([], -1,90)
def VM (p:Pr):Bool:=(VJ p).2.2==0
def aci (p:Pr):Bool:=p.inp.all szB&&p.nod.all szN&&szB p.out
theorem int_eq {a b:Int}:(a==b)=true↔a=b:=zdy
variable {n:Nat} {i:Int}
theorem V6:pK n i=true↔0<=i/\(i<n\/(n=0/\i=0)):=by
 unfold pK;by_cases h:i≥0
 ·rw[zdq h,zds,zdu];split<;>omega
 ·rw[zdt h,zdr];simp;omega
theorem V2:earF n i=true↔0<=i/\i<n:=by simp[earF]
variable {x:Nd}
theorem fM (h:eqN x noN=true):x.n=0/\x.l=0/\x.r=0:=by
 simp only[eqN,za2,zdy] at h;exact⟨h.2.2.2.1,h.2.2.2.2.1,h.2.2.2.2.2.1⟩
variable {K:Prop}
theorem fV (h:n<=1000000) (k:K):tO n K:=ac (by
 rw[zdq (zbT),zdq (show 0+1<=1 by omega),zdq (za0 n),zdq (show (n+1)*192<=140737488355328 by omega)];rfl) k
theorem aY (h0:0<=i) (h1:i<n) (k:K):eO n i K:=ac (by
 rw[zdq h0,zdq h1,zdq (show 0+i.toNat<n by omega)];rfl) (ac (zdq (by omega)) k)
variable {bad:Prop}
theorem oC {needs:Bool} {rest:Nd} (hb:(eqN rest noN=true/\pK n x.l=true/\pK n x.r=true/\(needs=true->0<n))->K) (H: ¬(eqN rest noN=true/\pK n x.l=true/\pK n x.r=true/\(needs=true->0<n))->bad):tN n needs rest x bad K:=by
 unfold tN;refine ce (λh1=>ce (λh2=>ce (λh3=> ?_) (λh3=> ?_)) (λh2=> ?_)) (λh1=> ?_)
 ·refine H λ⟨_,_,a3,a4⟩=> ?_;rw[a3] at h3;cases needs with
  |false=>simp at h3
  |true=>have:=a4 rfl;simp at h3;omega
 ·refine hb ⟨h1,h2, ?_,λJ=> ?_⟩
  ·cases h4:pK n x.r with
   |true=>rfl
   |false=>rw[h4] at h3;simp at h3
  ·subst J;cases h4:pK n x.r with
   |true=>rw[h4] at h3;simp at h3;omega
   |false=>rw[h4] at h3;simp at h3
 ·exact H λ⟨_,Y,_⟩=>by rw[Y] at h2;cases h2
 ·exact H λ⟨N,_⟩=>by rw[N] at h1;cases h1
theorem eH {l:zdZ} (h: ∀u∈l,szB u=true) (e:Nat):aH (mb noU l e)=true:=by
 by_cases H:e<l.length
 ·exact h _ (bw H)
 ·have: ∀(l:zdZ) (e:Nat),l.length<=e->mb noU l e=noU:=by
   intro l
   induction l with
   |nil=>intro e _;rfl
   |cons x r J=>intro e H;cases e with
    |zero=>simp at H
    |succ e=>exact J e (by simpa using H)
  rw[this l e (by omega)];decide
variable {α:Type}
theorem aF8 {d:α} {l:List α} (h0:0<=i) (h:i<l.length):l.drop i.toNat=mb d l i.toNat::l.drop (i+1).toNat:=by
 rw[show (i+1).toNat=i.toNat+1 by omega,zaH (show i.toNat<l.length by omega),bR (zaa _)]
theorem atS {p:α->Bool} {l:List α} {v:α} (h: ∀x∈l,p x=true) (H:p v=true): ∀x∈l++ [v],p x=true:=λx J=>(za8.1 J).elim (h x) λe=>by rw[zaj.1 e];exact H
theorem aS {α:Type} {d:α}: ∀{l:List α} {u:α} {e:Nat},mb d (l++ [u]) e=if e=l.length then u else mb d l e
 | [],u,e=>by cases e<;>simp[mb]
 |x::r,u,e=>by
  cases e with
  |zero=>simp[mb]
  |succ e=>
   have:=aS (d:=d) (l:=r) (u:=u) (e:=e);simp only[zaO,mb,za4];rw[this];split<;>split<;>first|rfl|omega
variable {m q nn:Nat} {us:zdZ} {u:Un}
theorem CQ {c ni:Nat} {p:Int} :P4 m c q ni nn p (us.length+1) (ald (eU.get us) (λe=>((ci u).drop (e*20)).take 20) us.length 0) (p,us++ [u]):=by
 have H:(us++ [u]).length=us.length+1:=by simp
 refine⟨⟨rfl,rfl,rfl,rfl,rfl,trivial⟩,trivial,⟨by rw[H],trivial⟩, ?_,trivial⟩;refine ac (by rw[zdq (by rw[H];exact za0 _)];rfl) λe J=> ?_;rw[H] at J;unfold ald El.get El.nth;rw[aB];show _=ci (mb noU (us++ [u]) e);rw[aS];by_cases h:e<us.length
 ·rw[zdq h,zds,if_neg (by omega)];rfl
 ·obtain rfl:e=us.length:=by omega
  rw[zdt h,zdr,if_pos rfl,zaJ];rfl
def chkI (inp:zdZ) (nod:ze0) (z:CX):Prop:=0<=z.1/\z.1<=nod.length/\z.2.length=z.1.toNat/\(∀u∈z.2,szB u=true)/\iB inp nod []=iB inp (nod.drop z.1.toNat) z.2
theorem XO:szB noU=true:=by decide
variable {inp:zdZ}
theorem LK {I:CX->Prop} {N:Int} (hx:szN x=true) (hi: ∀u∈inp,szB u=true) (hu: ∀u∈us,szB u=true) (hl:us.length<=1000000)
 (hn:mn inp us x=none->bad) (hs: ∀u q,mn inp us x=some u->LJ I N q inp.length nn i us u):OA I N inp nn i us x bad:=by
 unfold szN at hx;rw[za2] at hx;have T: ∀{f:Bool} {r:Un×Int},VT us.length x=f->fL inp us x=r->mn inp us x=bif f&&r.2==0 then some r.1 else none:=λ{f r} h1 h2=>by unfold mn;rw[h1,h2]
 have U: ∀{r:Un×Int} {q:Nat},VT us.length x=true->fL inp us x=r->zj I N q inp.length nn i us r bad:=λ{r q} h1 h2=>by
  have:=T h1 h2;refine fV hl (ce (λh=>hn ?_) (λh=>hs _ _ ?_))
  ·rw[this];cases hr:r.2==0<;>rw[hr] at h<;>first|rfl|cases h
  ·rw[this];cases hr:r.2==0<;>rw[hr] at h<;>first|rfl|cases h
 have W: ∀{K:Un->Un->Prop},pK us.length x.l=true->pK us.length x.r=true->0<us.length->K (mb noU us x.l.toNat) (mb noU us x.r.toNat)->pL us x K:=λ{K} h1 h2 h3 k=>by
  have a:=V6.1 h1;have b:=V6.1 h2;unfold pL;rw[za7,za7];exact aY a.1 (by omega) (aY b.1 (by omega) (ac (by rw[eH hu,eH hu];rfl) k))
 have E2:0<us.length-> ∀j:Int,(pK us.length j=earF us.length j):=λh j=>by
  rw[zax,V6,V2];omega
 have a0: ∀(f:Un->Un->Un×Int),x.op≠1->x.op≠2->(3<=x.op/\x.op<=6)->fL inp us x=f (mb noU us x.l.toNat) (mb noU us x.r.toNat)->tN us.length true ⟨0,x.v,x.u,x.n,0,0⟩ x bad (pL us x λa b=>zj I N 249 inp.length nn i us (f a b) bad):=by
  intro f n1 n2 n3 hf;have H:VT us.length x=(eqN ⟨0,x.v,x.u,x.n,0,0⟩ noN&&earF us.length x.l&&earF us.length x.r):=by
   unfold VT;rw[show (x.op==1)=false from beq_false_of_ne n1,show (x.op==2)=false from beq_false_of_ne n2,zdq n3.1,zdq n3.2];rfl
  refine oC (λ⟨a1,a2,a3,a4⟩=> ?_) (λh=>hn ?_)
  ·have h0:=a4 rfl;refine W a2 a3 h0 (U ?_ hf);rw[H,a1,<-E2 h0,<-E2 h0,a2,a3];rfl
  ·unfold mn;cases J:VT us.length x with
   |false=>rfl
   |true=>
    exfalso;rw[H] at J;simp only[za2] at J;have hp:0<us.length:=by have:=V2.1 J.1.2;omega
    exact h ⟨J.1.1,by rw[E2 hp];exact J.1.2,by rw[E2 hp];exact J.2,λ_=>hp⟩
 unfold OA;refine ce (λo1=> ?_) (λo1=>ce (λo2=> ?_) (λo2=>ce (λo3=> ?_) (λo3=>ce (λo4=> ?_) (λo4=>ce (λo5=> ?_) (λo5=>ce (λo6=> ?_) (λo6=>ce (λo7=> ?_) (λo7=>ce (λo8=> ?_) (λo8=> ?_))))))))
 ·
  have H:VT us.length x=eqN ⟨0,aFn,noU,x.n,x.l,x.r⟩ noN:=by unfold VT;rw[o1];rfl
  have Y:fL inp us x=bif rV x.v&&VK x.u then(x.u,0) else(noU,90):=by unfold fL;rw[o1];rfl
  refine oC (λ⟨a1,a2,a3,a4⟩=> ?_) (λh=>hn ?_)
  ·have t:=T H Y;rw[a1] at t;refine ac hx.1 (ac (by rw[show aH x.u=true from hx.2];cases rV x.v<;>rfl) (ce (λh=>fV hl (hn ?_)) (λh=>fV hl (hs _ _ ?_))))
   ·rw[t];cases h1:rV x.v<;>cases h2:VK x.u<;>rw[h1,h2] at h<;>first|rfl|cases h
   ·rw[t];cases h1:rV x.v<;>cases h2:VK x.u<;>rw[h1,h2] at h<;>first|rfl|cases h
  ·unfold mn;cases J:VT us.length x with
   |false=>rfl
   |true=>
    exfalso;rw[H] at J;have f:=fM J;simp only at f;exact h ⟨J,V6.2 (by omega),V6.2 (by omega),λh=>by cases h⟩
 ·
  have H:VT us.length x=eqN ⟨0,x.v,x.u,0,x.l,x.r⟩ noN:=by unfold VT;rw[o1,o2];rfl
  have Y:fL inp us x=bif decide (0<=x.n)&&decide (x.n<(inp.length:Int)) then(mb noU inp x.n.toNat,0) else(noU,90):=by unfold fL;rw[o1,o2];rfl
  refine oC (λ⟨a1,a2,a3,a4⟩=> ?_) (λh=>hn ?_)
  ·have t:=T H Y;rw[a1] at t;refine ce (λh=>fV hl (hn ?_)) (λh=> ?_)
   ·rw[t];by_cases h1:x.n<0
    ·rw[zdt (show ¬0<=x.n by omega)];rfl
    ·rw[zdt h1,zdr,zdu] at h;rw[zdt (show ¬x.n<(inp.length:Int) by omega),Bool.and_false];rfl
   ·by_cases h1:x.n<0
    ·rw[zdq h1] at h;cases h
    ·rw[zdt h1,zdr,zdz] at h;rw[za7];refine aY (by omega) (by omega) (fV hl (hs _ _ ?_));rw[t,zdq (show 0<=x.n by omega),zdq (show x.n<(inp.length:Int) by omega)];rfl
  ·unfold mn;cases J:VT us.length x with
   |false=>rfl
   |true=>
    exfalso;rw[H] at J;have f:=fM J;simp only at f;exact h ⟨J,V6.2 (by omega),V6.2 (by omega),λh=>by cases h⟩
 ·exact a0 iS (by have:=int_eq.1 o3;omega) (by have:=int_eq.1 o3;omega) (by have:=int_eq.1 o3;omega) (by unfold fL;rw[o1,o2,o3];rfl)
 ·exact a0 fw (by have:=int_eq.1 o4;omega) (by have:=int_eq.1 o4;omega) (by have:=int_eq.1 o4;omega) (by unfold fL;rw[o1,o2,o3,o4];rfl)
 ·exact a0 mi (by have:=int_eq.1 o5;omega) (by have:=int_eq.1 o5;omega) (by have:=int_eq.1 o5;omega) (by unfold fL;rw[o1,o2,o3,o4,o5];rfl)
 ·exact a0 aAO (by have:=int_eq.1 o6;omega) (by have:=int_eq.1 o6;omega) (by have:=int_eq.1 o6;omega) (by unfold fL;rw[o1,o2,o3,o4,o5,o6];rfl)
 ·have H:VT us.length x=(eqN ⟨0,x.v,x.u,0,0,x.r⟩ noN&&earF us.length x.l):=by
   unfold VT;rw[o1,o2,o7,show (decide (3<=x.op)&&decide (x.op<=6))=false by rw[int_eq.1 o7];rfl];rfl
  have Y:fL inp us x=bif x.n==0||decide (x.n< -4)||decide (x.n>4) then(noU,90) else jm (mb noU us x.l.toNat) (x.n,1):=by unfold fL;rw[o1,o2,o3,o4,o5,o6,o7];rfl
  refine oC (λ⟨a1,a2,a3,a4⟩=> ?_) (λh=>hn ?_)
  ·have h0:=a4 rfl;have hf:VT us.length x=true:=by rw[H,a1,<-E2 h0,a2];rfl
   have t:=T hf Y;have e:(bif bif x.n==0 then true else decide (x.n< -4) then true else decide (x.n>4))=(x.n==0||decide (x.n< -4)||decide (x.n>4)):=by cases x.n==0<;>cases decide (x.n< -4)<;>rfl
   rw[e];refine ce (λh=>fV hl (hn ?_)) (λh=> ?_)
   ·rw[t,h];rfl
   ·rw[h,zdr] at Y;have a:=V6.1 a2;rw[za7];exact aY a.1 (by omega) (ac (eH hu _) (U hf Y))
  ·unfold mn;cases J:VT us.length x with
   |false=>rfl
   |true=>
    exfalso;rw[H] at J;simp only[za2] at J;have f:=fM J.1;simp only at f;have hp:0<us.length:=by have:=V2.1 J.2;omega
    exact h ⟨J.1,by rw[E2 hp];exact J.2,V6.2 (by omega),λ_=>hp⟩
 ·have H:VT us.length x=(eqN ⟨0,x.v,x.u,x.n,0,x.r⟩ noN&&earF us.length x.l):=by
   unfold VT;rw[o1,o2,o7,o8,show (decide (3<=x.op)&&decide (x.op<=6))=false by rw[int_eq.1 o8];rfl];rfl
  have Y:fL inp us x=jm (mb noU us x.l.toNat) (1,2):=by unfold fL;rw[o1,o2,o3,o4,o5,o6,o7,o8];rfl
  refine oC (λ⟨a1,a2,a3,a4⟩=> ?_) (λh=>hn ?_)
  ·have h0:=a4 rfl;have hf:VT us.length x=true:=by rw[H,a1,<-E2 h0,a2];rfl
   have a:=V6.1 a2;rw[za7];exact aY a.1 (by omega) (ac (eH hu _) (U hf Y))
  ·unfold mn;cases J:VT us.length x with
   |false=>rfl
   |true=>
    exfalso;rw[H] at J;simp only[za2] at J;have f:=fM J.1;simp only at f;have hp:0<us.length:=by have:=V2.1 J.2;omega
    exact h ⟨J.1,by rw[E2 hp];exact J.2,V6.2 (by omega),λ_=>hp⟩
 ·refine ac (by unfold P5;rw[o1,o2,o3,o4,o5,o6,o7,o8];rfl) (hn ?_);unfold mn;have:VT us.length x=false:=by
   unfold VT;rw[o1,o2,o7,o8];simp only[zdr];have e:(decide (3<=x.op)&&decide (x.op<=6))=false:=by
    simp only[zdx,ne_eq] at o1 o2 o3 o4 o5 o6 o7 o8;simp;omega
   rw[e];rfl
  rw[this];rfl
variable {a b:Un}
theorem zk (H:aH a=true) (J:aH b=true):aH (iS a b).1=true:=by
 unfold iS;cases !jk a b||(a.s==0&&b.s==0) with
 |true=>exact XO
 |false=>cases b.s==0;exact H;exact J
theorem oD (H:aH a=true):aH (fw a b).1=true:=by
 unfold fw;cases !jk a b with
 |true=>exact XO
 |false=>cases b.s !=0 with
  |true=>exact H
  |false=>cases eqU a b with
   |true=>
    have:=(eL H).1;show (uzR a.f&&uzR rZ)=true;rw[this];decide
   |false=>exact XO
theorem LL (H:szN x=true) (hi: ∀u∈inp,szB u=true) (J: ∀u∈us,szB u=true):szB (fL inp us x).1=true:=by
 unfold szN at H;rw[za2] at H;have n:=λe=>eH J e;unfold fL;cases x.op==1 with
 |true=>cases rV x.v&&VK x.u;exact XO;exact H.2
 |false=>cases x.op==2 with
  |true=>cases decide (0<=x.n)&&decide (x.n<(inp.length:Int));exact XO;exact eH hi _
  |false=>cases x.op==3 with
   |true=>exact zk (n _) (n _)
   |false=>cases x.op==4 with
    |true=>exact oD (n _)
    |false=>cases x.op==5 with
     |true=>exact CK _ _
     |false=>cases x.op==6 with
      |true=>exact oA _ _
      |false=>cases x.op==7 with
       |true=>cases x.n==0||decide (x.n< -4)||decide (x.n>4);exact re (n _) _;exact XO
       |false=>cases x.op==8;exact XO;exact re (n _) _
theorem CR (J:szN x=true) (hi: ∀u∈inp,szB u=true) (H: ∀u∈us,szB u=true) (h:mn inp us x=some u):szB u=true:=by
 unfold mn at h;cases hh:VT us.length x&&(fL inp us x).2==0 with
 |false=>rw[hh] at h;cases h
 |true=>
  rw[hh] at h;simp only[zds,za1] at h;subst h;exact LL J hi H
variable {p:Pr}
theorem Wb:oB p=true↔(1<=p.id/\p.id<=1000000/\p.inp.length<=6)/\p.inp.all VK=true/\1<=p.nod.length/\p.nod.length<=40:=by
 unfold oB;simp only[za2,zdu];exact⟨λ⟨⟨⟨⟨⟨a,b⟩,c⟩,d⟩,e⟩,f⟩=>⟨⟨a,b,c⟩,d,e,f⟩,λ⟨⟨a,b,c⟩,d,e,f⟩=>⟨⟨⟨⟨⟨a,b⟩,c⟩,d⟩,e⟩,f⟩⟩
theorem ES {K:zdS} {KU:List Un->Prop} (a0:aci p=true) (h6:p.inp.length<=1000000)
 (hb:(VJ p).2.2≠0->K (zi (VJ p).2.1)) (hg:(VJ p).2.2=0->KU (VJ p).1):OB (chkI p.inp p.nod) p.nod.length p.id p.inp p.nod p.out K KU:=by
 unfold aci at a0;simp only[za2,zaf] at a0;obtain⟨⟨si,sn⟩,so⟩:=a0;have gl:eU.list p.inp.length (eU.get p.inp)=p.inp:=El.list_get;have N:oB p=false->K (zi (-1)):=λh=>by
  have:VJ p=([], -1,90):=by unfold VJ;rw[h];rfl
  rw[this] at hb;exact hb (by decide)
 have nb: ∀{P:Prop},¬P->(oB p=true->P)->oB p=false:=λ{P} h k=>by
  cases hh:oB p with
  |false=>rfl
  |true=>exact absurd (k hh) h
 unfold OB;refine ce (λh=>N (nb (P:=1<=p.id/\p.id<=1000000/\p.inp.length<=6) (λ⟨a,b,c⟩=> ?_) λhh=>(Wb.1 hh).1)) (λh1=>ac (by rw[El.good_get si];simp[h6]) λ_ _=>ce (λh=>N (nb (P:=p.inp.all VK=true/\1<=p.nod.length/\p.nod.length<=40) (λ⟨a,b,c⟩=> ?_) λhh=>(Wb.1 hh).2)) (λh2=> ?_))
 ·rw[zdt (show ¬p.id<1 by omega),zdt (show ¬p.id>1000000 by omega),zdt (show ¬((p.inp.length:Int)>6) by omega)] at h;cases h
 ·rw[gl,a,zdt (show ¬(p.nod.length:Int)<1 by omega),zdt (show ¬((p.nod.length:Int)>40) by omega)] at h;cases h
 ·have Y:oB p=true:=by
   refine Wb.2 ⟨?_, ?_⟩
   ·by_cases q1:p.id<1
    ·rw[zdq q1] at h1;cases h1
    ·by_cases q2:p.id>1000000
     ·rw[zdt q1,zdq q2] at h1;cases h1
     ·rw[zdt q1,zdt q2] at h1;have:=zdw h1;omega
   ·rw[gl] at h2;cases q1:p.inp.all VK with
    |false=>rw[q1] at h2;cases h2
    |true=>
     rw[q1] at h2;by_cases q2:(p.nod.length:Int)<1
     ·rw[zdq q2] at h2;cases h2
     ·rw[zdt q2] at h2;have:=zdw h2;exact⟨rfl,by omega,by omega⟩
  obtain⟨⟨b1,b2,b3⟩,b4,b5,b6⟩:=Wb.1 Y;have hc:VJ p=match iB p.inp p.nod [] with
   |(H,true)=>bif eqU (ly H) p.out then(H,0,0) else([],p.nod.length,90)
   |(H,false)=>([],H.length,90):=by unfold VJ;rw[Y];rfl
  refine⟨(0, []),⟨zat _,by show (0:Int)<=_;omega,rfl,λu h=>(by cases h),rfl⟩,⟨⟨rfl,rfl,rfl,rfl,rfl,trivial⟩,trivial,⟨rfl,trivial⟩,rfl,trivial⟩, ?_⟩;rintro⟨i,H⟩ ⟨k0,k1,k2,k3,J⟩;simp only at k0 k1 k2 k3 J;dsimp only;refine ce (λhz=> ?_) (λhz=> ?_)
  ·have hz:i<(p.nod.length:Int):=zdv hz;rw[za7];have hd:=aF8 (d:=noN) k0 hz;have hx:=sn _ (bw (d:=noN) (l:=p.nod) (e:=i.toNat) (by omega));rw[hd,iB] at J;refine aY k0 hz (LK hx si k3 (by omega) (λhn=> ?_) (λu q hu=> ?_))
   ·rw[hn] at J;replace J:iB p.inp p.nod []=(H,false):=J;rw[J] at hc;replace hc:VJ p=([],(H.length:Int),90):=hc;rw[hc] at hb;have:=hb (show (90:Int)≠0 by decide);rwa[show ((H.length:Nat):Int)=i by omega] at this
   ·rw[hu] at J;replace J:iB p.inp p.nod []=iB p.inp (p.nod.drop (i+1).toNat) (H++ [u]):=J;refine ac (VP.2 (by omega)) ⟨(i+1,H++ [u]),⟨by show 0<=i+1;omega,by show i+1<=_;omega,by simp only[za3,za6];omega, ?_,J⟩,by show (_:Nat)<_;omega,CQ⟩;exact atS k3 (CR hx si k3 hu)
  ·have hz: ¬i<(p.nod.length:Int):=zdw hz;rw[show i.toNat=p.nod.length by omega,zbj,iB] at J;rw[J] at hc;refine ac (VP.2 (by omega)) (aY (by omega) (by omega) ?_);have e:(0+((H.length:Int) - 1).toNat)=H.length - 1:=by omega
   show ag (!eqU (mb noU H (0+((H.length:Int) - 1).toNat)) p.out) _ _;rw[e];refine ce (λh=> ?_) (λh=> ?_)
   ·have h:eqU (ly H) p.out=false:=by simpa [ly] using h
    rw[hc] at hb;simp only[h,zdr] at hb;exact hb (show (90:Int)≠0 by decide)
   ·have h:eqU (ly H) p.out=true:=by simpa [ly] using h
    rw[hc] at hg;simp only[h,zds] at hg;exact hg trivial
structure ProA where
 need:Bool
 o1:Option Nat
 o2:Option Nat
 p:Pr
def bW (n:Nat):Bool:=Nat.ble n 1000000
def mC (bl:zdM) (s:SV):Option ProA:=match s with
 | .agg (.val (.int .i64 id)::si::sn::r)=>match vW bl 20 si,vW bl 26 sn,Au (.agg r) with
   |some (N,o1,H,g1),some (Y,o2,J,g2),some u=>some ⟨N&&Y&&bW H&&bW J&&eU.good szB H g1&&eN.good szN J g2&&szB u,o1,o2,⟨id,eU.list H g1,eN.list J g2,u⟩⟩
   |_,_,_=>none
 |_=>none
def iK (p:Pr):zdV:= [eU.old p.inp,eN.old p.nod]
def kB (p:Pr):SV:=svP p.id p.inp p.nod p.out
theorem pM {cs:zdK} (h:Au (.agg cs)=some u):cs=ci u:=by
 have:=cU.ok _ _ h;simpa [cU] using this
variable {f:zdY} {xs ys:zdK}
theorem ar {x y:SV} (h:x.rn f=some y) (k:SV.rns f xs=some ys):SV.rns f (x::xs)=some (y::ys):=by simp only[SV.rns,h,k]
theorem Xs (k:SV.rns f xs=some ys):(SV.agg xs).rn f=some (.agg ys):=by simp only[SV.rn,k]
theorem aFM {bl:zdM} {s:SV} {a:ProA} (h:mC bl s=some a) (hn:a.need=true) (h0:f 0=some a.o1) (h1:f 1=some a.o2):
 j5 bl f (eU.old a.p.inp) a.o1/\j5 bl f (eN.old a.p.nod) a.o2/\(kB a.p).rn f=some s/\aci a.p=true/\a.p.inp.length<=1000000/\a.p.nod.length<=1000000:=by
 unfold mC at h;split at h
 ·rename_i id si sn r;split at h
  ·rename_i N o1 n1 g1 Y o2 n2 g2 u H J hu;simp only[za1] at h;subst h;simp only[za2] at hn;obtain⟨⟨⟨⟨⟨⟨rfl,rfl⟩,l1⟩,l2⟩,k1⟩,k2⟩,k3⟩:=hn;obtain⟨a1,a2⟩:=cq (f:=f) H k1;obtain⟨N,Y⟩:=cq (f:=f) J k2;refine⟨a1,N, ?_, ?_, ?_, ?_⟩
   ·have e:=rns_free (f:=f) (fj u);have d:=pM hu;subst d;exact Xs (ar (show SV.rn f (.val (.int .i64 id))=_ from rfl) (ar (a2 0 h0) (ar (Y 1 h1) e)))
   ·unfold aci;simp only[za2,zaf];exact⟨⟨El.good_list k1,El.good_list k2⟩,k3⟩
   ·rw[El.list_length];exact zak l1
   ·rw[El.list_length];exact zak l2
  ·cases h
 ·cases h
def xi:MCtr:=λbl nx args=>match args with
 | [s]=>match mC bl s with
   |some a=>some {X:=Unit,pre:=a.need,spec:=λ_=>True,out:=λ_=> .tup [.slc nx 0 (VJ a.p).1.length, .val (.int .i64 (VJ a.p).2.1), .val (.int .i64 (VJ a.p).2.2)],nw:=λ_=> [eU.own (VJ a.p).1],ex:=λ_=>⟨(),trivial⟩}
   |none=>none
 |_=>none
theorem ke (p:Pr):((VJ p).2.2=90/\(VJ p).1= [])\/((VJ p).2.2=0/\(VJ p).2.1=0/\(VJ p).1.length=p.nod.length/\1<=p.nod.length):=by
 have Y: ∀(l:ze0) (H vs:zdZ),iB p.inp l H=(vs,true)->vs.length=H.length+l.length:=by
  intro l
  induction l with
  |nil=>intro H vs h;simp only[iB,zag,and_true] at h;subst h;simp
  |cons x r ih=>
   intro H vs h;simp only[iB] at h;split at h
   ·have:=ih _ _ h;simp only[za3,za6] at this;simp only[za4];omega
   ·simp at h
 unfold VJ;cases N:oB p with
 |false=>exact .inl ⟨rfl,rfl⟩
 |true=>
  rw[zds];cases hu:iB p.inp p.nod [] with
  |mk H b=>
   cases b with
   |false=>exact .inl ⟨rfl,rfl⟩
   |true=>
    cases J:eqU (ly H) p.out with
    |false=>exact .inl ⟨by simp only[J,zdr],by simp only[J,zdr]⟩
    |true=>
     have:=Y _ _ _ hu;simp only[J,zds];exact .inr ⟨trivial,trivial,by simpa using this,(Wb.1 N).2.2.1⟩
theorem cx (p:Pr): ∀C∈iK p,cN C.kd=false:=by simp[iK,cN,El.old]
theorem jG (p:Pr): ∀C∈iK p,C.kd.map=false:=by simp[iK,BK.map,El.old]
theorem OD:MOk gmC:=(MOk.nil.cons λ_ _ _ _ _ _ _ _ _ _ _ _ h=>by cases h).cons (IH MOk.nil)
theorem vL {KS:Nat->Nat->Blk->List SV->Prop} {Q:zdS} {r:Res} {b:zdM} {w:zdI} (h:slK KS Q r b m w):(∃i n rest B,r= .ok (.tup (.slc i 0 n::rest))/\b i=some B/\KS i n B rest)\/ ∃s,r= .ok s/\Q s:=by
 unfold slK at h;split at h
 ·rename_i i n rest;split at h
  ·rename_i B hB;exact .inl ⟨i,n,rest,B,rfl,hB,h⟩
  ·exact h.elim
 ·exact .inr ⟨_,rfl,h⟩
 ·exact h.elim
variable {nx:Nat}
theorem atW {R:Aft->Prop} (mono: ∀{K K':Aft},R K->(∀r b n w,K r b n w->K' r b n w)->R K') {a:ProA} (hq:2<=q)
 (key: ∀(N:Nat->Nat->Blk->List SV->Prop) (Q:zdS),((VJ a.p).2.2≠0->Q (zi (VJ a.p).2.1))->((VJ a.p).2.2=0->N q (VJ a.p).1.length {n:=(VJ a.p).1.length,sz:=20,get:=eU.get (VJ a.p).1,kd:= .own,nn:=false} [.val (.int .i64 0), .val (.int .i64 0)])->R (slK N Q)):
 R (KB {X:=Unit,pre:=a.need,spec:=λ_=>True,out:=λ_=> .tup [.slc nx 0 (VJ a.p).1.length, .val (.int .i64 (VJ a.p).2.1), .val (.int .i64 (VJ a.p).2.2)],nw:=λ_=> [eU.own (VJ a.p).1],ex:=λ_=>⟨(),trivial⟩} [a.o1,a.o2] (iK a.p) nx):=by
 refine mono (key (λi n B rest=>(VJ a.p).2.2=0/\i=q/\n=(VJ a.p).1.length/\B={n:=(VJ a.p).1.length,sz:=20,get:=eU.get (VJ a.p).1,kd:= .own,nn:=false}/\rest= [.val (.int .i64 0), .val (.int .i64 0)]) (λr=>(VJ a.p).2.2≠0/\r=zi (VJ a.p).2.1) (λh=>⟨h,rfl⟩) (λh=>⟨h,rfl,rfl,rfl,rfl⟩)) λr b m w h=> ?_;rcases vL h with ⟨i,n,rest,B,rfl,hB,J,rfl,rfl,rfl,rfl⟩|⟨s,rfl,J,rfl⟩
 ·obtain⟨H,_⟩|⟨_,c2,c3,Y⟩:=ke a.p
  ·rw[H] at J;cases J
  ·refine⟨(),trivial, [some i],⟨_,rfl, ?_⟩,by simp[ck],⟨⟨hq, ?_⟩,trivial⟩,we (cx _) rfl _⟩
   ·simp only[SV.rn,SV.rns,cO,c2,J];rfl
   ·rw[hB];exact⟨by simp[El.own],λ_=> .inl rfl,gC rfl rfl (za0 _) λ_ _=>rfl⟩
 ·obtain⟨H,c2⟩|⟨H,_⟩:=ke a.p
  ·refine⟨(),trivial, [none],⟨_,rfl, ?_⟩,by simp[ck],⟨⟨rfl,by simp[El.own,c2],rfl⟩,trivial⟩,we (cx _) rfl _⟩;simp only[SV.rn,SV.rns,cO,H,c2];rfl
  ·exact absurd H J
theorem vM: ∀B:Base,GlobB B->VU prog B 161 xi:=eW OD λbl nx args C H hp=>by
 unfold xi at H;split at H
 ·rename_i s;split at H
  ·rename_i a J;simp only[za1] at H;subst H;obtain⟨s1,N,Y,s4,s5,s6⟩:=aFM (f:=rnF [a.o1,a.o2] [] nx) J hp rfl rfl;refine⟨[a.o1,a.o2],iK a.p, [kB a.p],tM (chkI a.p.inp a.p.nod) a.p.nod.length,6,aw s1 (aw N trivial),bH (cx _),cd (jG _),by simp only[SV.rns,Y],atW (q:=71) cQ (by decide) λKS Q h1 h2=> ?_⟩;unfold kB iK;rw[OC];exact ES s4 s5 h1 h2
  ·cases H
 ·cases H
def pN:MCtr:=λbl nx args=>match args with
 | [s]=>match mC bl s with
   |some a=>some {X:=Unit,pre:=a.need,spec:=λ_=>True,out:=λ_=>cB.enc (VM a.p),ex:=λ_=>⟨(),trivial⟩}
   |none=>none
 |_=>none
def gmV:zdX:= [(161,xi)]
theorem OE:MOk gmV:=MOk.nil.cons vM
def jn (p:Pr):Bool:=(Nat.ble p.inp.length p.inp.length&&Nat.beq 20 20&&true)&&(Nat.ble p.nod.length p.nod.length&&Nat.beq 26 26&&true)&&bW p.inp.length&&bW p.nod.length&&eU.good szB p.inp.length (eU.get p.inp)&&eN.good szN p.nod.length (eN.get p.nod)&&szB p.out
def aFU (p:Pr):Pr:=⟨p.id,eU.list p.inp.length (eU.get p.inp),eN.list p.nod.length (eN.get p.nod),p.out⟩
theorem fN (p:Pr):aFU p=p:=by
 unfold aFU;rw[show eU.list p.inp.length (eU.get p.inp)=p.inp from El.list_get,show eN.list p.nod.length (eN.get p.nod)=p.nod from El.list_get]
theorem eY (h:aci p=true) (h1:p.inp.length<=1000000) (h2:p.nod.length<=1000000):jn p=true:=by
 unfold aci at h;simp only[za2,zaf] at h;unfold jn bW;rw[zae h1,zae h2,zae (za0 _),zae (za0 _),El.good_get h.1.1,El.good_get h.1.2,h.2];rfl
theorem ET (p:Pr) (Q:zdS):dk gmV (λ_ _=>none) 3 75 [kB p] (iK p) (Go.Sy.okK λr _ _ _=>Q r)=ah (jn p) (Unit->True->Q (cB.enc ((VJ (aFU p)).2.2==0))):=by kernel_rfl
variable {ann:zdW} {args:zdK} {r:SV}
theorem lz {C:RC} {src:zdU} {Cs:zdV} {gm:zdX} {f:FuncId} (x:C.X) (J:C.spec x) (h1:C.pan x=none) (h2:r.ids= []) (h3:C.out x=r) (h4:C.nw x= []) (h5:C.ch x= []) (h6: ∀C∈Cs,cN C.kd=false) (H:src.length=Cs.length)
 (h:dk gm ann n f args Cs (Go.Sy.okK λs _ _ _=>s=r)):dk gm ann n f args Cs (KB C src Cs nx):=cQ h λq b m w hq=>by
 cases q with
 |pan v=>exact hq.elim
 |ok s=>
  obtain rfl:s=r:=hq;exact IG x J h1 h2 h3 h4 h5 h6 H
theorem lZ: ∀B:Base,GlobB B->VU prog B 75 pN:=eW OE λbl nx args C H hp=>by
 unfold pN at H;split at H
 ·rename_i s;split at H
  ·rename_i a J;simp only[za1] at H;subst H;obtain⟨s1,N,Y,s4,s5,s6⟩:=aFM (f:=rnF [a.o1,a.o2] [] nx) J hp rfl rfl;refine⟨[a.o1,a.o2],iK a.p, [kB a.p],(λ_ _=>none),3,aw s1 (aw N trivial),bH (cx _),cd (jG _),by simp only[SV.rns,Y], ?_⟩;refine lz () trivial rfl (r:=cB.enc (VM a.p)) rfl rfl rfl rfl (cx _) rfl ?_;rw[ET];exact ac (eY s4 s5 s6) λ_ _=>by rw[fN];rfl
  ·cases H
 ·cases H
def jH (n:Int):Int:=if -n>n then -n else n
def okR (r:RS×Int):Option RS:=bif r.2 !=0 then none else some r.1
def kC (b:RS):Nat->Option RS
 |0=>some rI
 |k+1=>match kC b k with
  |some v=>okR (ale v b)
  |none=>none
def valF (H vs:List RS) (x:Nd):Option RS:=
 bif x.op==1 then some x.v else
 bif x.op==2 then some (mb aFn H x.n.toNat) else
 bif x.op==3 then okR (fZ (mb aFn vs x.l.toNat) (mb aFn vs x.r.toNat)) else
 bif x.op==4 then okR (iF (mb aFn vs x.l.toNat) (mb aFn vs x.r.toNat)) else
 bif x.op==5 then okR (ale (mb aFn vs x.l.toNat) (mb aFn vs x.r.toNat)) else
 bif x.op==6 then okR (cA (mb aFn vs x.l.toNat) (mb aFn vs x.r.toNat)) else
 bif x.op==7 then(match kC (mb aFn vs x.l.toNat) (jH x.n).toNat with
  |some v=>bif decide (x.n<0) then okR (cA rI v) else some v
  |none=>none) else
 bif x.op==8 then none else some aFn
theorem Fy {n:Int} (h: -9223372036854775808<=n/\n<=9223372036854775807) (k:K):ah (inR .i64 n) K:=ac (VP.2 h) k
def v9:List FuncId:=
 zh
theorem zG: ∀f∈v9,Callable prog f:=by
 unfold v9;intro f H;exact xe f H
abbrev ug (g:List (FuncId×Ctr)) (ann:zdW) (n:Nat) (f:FuncId) (args:zdK) (K:zdS):Prop:=wq prog (iR v9) (gw g) (gx []) ann n f args (λ_=>none) 0 [] (Go.Sy.okK λr _ _ _=>K r)
variable {F:FuncId}
theorem kh {g:List (FuncId×Ctr)} (h:GOk g) {W0:World} (hg:GlobU W0) (J:SV.idss args= []) (Y:r.ids= []) (H:ug g ann n F args (λs=>s=r)):Go.Sy.Yields prog W0 F args r:=
 cr (λW N=>mW (h.all W (hg.below N)) (λ_ _ _ h=>by cases h) zG (by kernel_rfl)) J Y H
theorem Fx (c n:Int) (K:zdS):ug xf noA 3 105 [cI.enc c,cI.enc n] K=vH c n K:=by kernel_rfl
abbrev Dg:Ctr:=k2 cI cI cI (λc n=>cl c&&decide (0<n)) co
theorem uh {W:World} (J:GlobU W) (H: ∀(c n:Int) (K:zdS),ug xf noA 3 F [cI.enc c,cI.enc n] K=vH c n K):CtrOK prog W F Dg:=bC λc n h=>by
 rw[za2] at h;exact kh WH (ann:=noA) (n:=3) J de (cI.ids _) (by rw[H];exact A6 (K:=λr=>r=_) h.1 (zdv h.2) rfl)
def ui:List (FuncId×Ctr):=
 (105,Dg)::
 xf
theorem xJ:GOk ui:=
 ((WH
   ).cons (λW H=>uh H Fx) call105)
def BL (n:Int):Un:=
 bif co n 7==0 then aT 0 else bif co n 7==1 then aT 2 else bif co n 7==2 then {aT 0 with f:=(⟨#[49]⟩,⟨#[49,48,48,48]⟩)} else
 bif co n 7==3 then(aAO (aT 0) (aT 0)).1 else bif co n 7==4 then {aT 4 with s:=0,o:=(⟨#[53,52,54,51]⟩,⟨#[50,48]⟩)} else bif co n 7==5 then aT 4 else(mi (aT 0) (aT 0)).1
def BM (n:Int) (K:zdS):Prop:=
 ah (cl n&&decide (0<(7:Int))) (ag (co n 7==0) (K (cU.enc (aT 0))) (ag (co n 7==1) (K (cU.enc (aT 2))) (ag (co n 7==2) (K (cU.enc {aT 0 with f:=(⟨#[49]⟩,⟨#[49,48,48,48]⟩)})) (
 ag (co n 7==3) (K (cU.enc (aAO (aT 0) (aT 0)).1)) (ag (co n 7==4) (K (cU.enc {aT 4 with s:=0,o:=(⟨#[53,52,54,51]⟩,⟨#[50,48]⟩)})) (ag (co n 7==5) (K (cU.enc (aT 4))) (K (cU.enc (mi (aT 0) (aT 0)).1))))))))
theorem JF (n:Int) (K:zdS):ug ui noA 3 26 [cI.enc n] K=BM n K:=by kernel_rfl
theorem JG {n:Int} {K:zdS} (h:cl n=true) (k:K (cU.enc (BL n))):BM n K:=by
 unfold BL at k;unfold BM;rw[h];refine ac rfl (ce (λa=> ?_) (λa=>ce (λb=> ?_) (λb=>ce (λc=> ?_) (λc=>ce (λd=> ?_) (λd=>ce (λe=> ?_) (λe=>ce (λf=> ?_) (λf=> ?_)))))))
 ·rw[a] at k;exact k
 ·rw[a,b] at k;exact k
 ·rw[a,b,c] at k;exact k
 ·rw[a,b,c,d] at k;exact k
 ·rw[a,b,c,d,e] at k;exact k
 ·rw[a,b,c,d,e,f] at k;exact k
 ·rw[a,b,c,d,e,f] at k;exact k
def xK:List (FuncId×Ctr):=
 (26,k1 cI cU cl BL)::
 ui
theorem BN:GOk xK:=
 (((xJ
   )
   )
   |>.cons (λW H=>dD λn h=>kh xJ (ann:=noA) (n:=3) H m8 (cU.ids _) (by rw[JF];exact JG (K:=λr=>r=_) h rfl)) call26
   )
end Go.Proofs.YtdjfpjmijhjmpaaGreatDoor
namespace Go.Sy
open Go Go.RowKit
def azt (ta te tt tb:TypeId) (g isF:Nat) (p:String) (Z:Code):Code:=
 ((Code.region 0
   #[{dst:=some 6,op:=Op.call {callee:=Callee.builtin Builtin.recover,args:= #[],argTypes:= #[]},type:=ta,pos:=p,after:= #[],guard:=none},
    {dst:=some 7,op:=Op.typeAssert (Operand.tmp 6) ta te true,type:=tt,pos:=p,after:= #[{on:=0,ground:=Ground.data}],guard:=none},
    {dst:=some 5,op:=Op.move (Operand.tmp 7),type:=tt,pos:=p,after:= #[{on:=1,ground:=Ground.data}],guard:=none},
    {dst:=some 8,op:=Op.extract (Operand.tmp 5) 0,type:=te,pos:=p,after:= #[{on:=2,ground:=Ground.data}],guard:=none},
    {dst:=some 9,op:=Op.extract (Operand.tmp 5) 1,type:=tb,pos:=p,after:= #[{on:=2,ground:=Ground.data},{on:=5,ground:=Ground.gcOnly Departure.lateStores}],guard:=none},
    {dst:=some 2,op:=Op.assign (Operand.tmp 8),type:=te,pos:=p,
     after:= #[{on:=3,ground:=Ground.data},{on:=0,ground:=Ground.chain},{on:=0,ground:=Ground.phase},{on:=1,ground:=Ground.phase},{on:=2,ground:=Ground.phase},{on:=3,ground:=Ground.phase},{on:=4,ground:=Ground.textOnly Departure.lateStores}],guard:=none},
    {dst:=some 3,op:=Op.assign (Operand.tmp 9),type:=tb,pos:=p,
     after:= #[{on:=4,ground:=Ground.data},{on:=5,ground:=Ground.chain},{on:=0,ground:=Ground.phase},{on:=1,ground:=Ground.phase},{on:=2,ground:=Ground.phase},{on:=3,ground:=Ground.phase},{on:=4,ground:=Ground.phase},{on:=5,ground:=Ground.phase}],guard:=none}]
   false).seq
 ((Code.region 1
   #[{dst:=some 10,op:=Op.move (Operand.tmp 3),type:=tb,pos:=p,after:= #[],guard:=none},
    {dst:=some 11,op:=Op.move (Operand.tmp 10),type:=tb,pos:=p,after:= #[{on:=0,ground:=Ground.data}],guard:=none},
    {dst:=some 12,op:=Op.move (Operand.tmp 2),type:=te,pos:=p,after:= #[{on:=1,ground:=Ground.guard}],guard:=some (1,true)},
    {dst:=some 13,op:=Op.load te (Operand.global g),type:=te,pos:=p,after:= #[{on:=1,ground:=Ground.guard}],guard:=some (1,true)},
    {dst:=some 14,op:=Op.call {callee:=Callee.value (Operand.func isF),args:= #[Operand.tmp 12,Operand.tmp 13],argTypes:= #[te,te]},type:=tb,pos:=p,
     after:= #[{on:=2,ground:=Ground.data},{on:=3,ground:=Ground.data},{on:=1,ground:=Ground.chain},{on:=1,ground:=Ground.guard}],guard:=some (1,true)},
    {dst:=some 15,op:=Op.pick (Operand.tmp 11) (Operand.tmp 14) (Operand.const (Value.bool false)),type:=tb,pos:=p,after:= #[{on:=1,ground:=Ground.data},{on:=4,ground:=Ground.data}],guard:=none}]
   false).seq
 (Code.cond (Operand.tmp 15) Z Code.skip)))
def aDq (T tu tn:TypeId) (c:Int) (q r:String):Code:=
 (Code.region 2 #[{dst:=some 4,op:=Op.alloc T,type:=tu,pos:=q,after:= #[],guard:=none}] false).seq
   (Code.region 3
    #[{dst:=some 16,op:=Op.load T (Operand.tmp 4),type:=T,pos:=r,after:= #[],guard:=none},
     {dst:=none,op:=Op.store T (Operand.tmp 0) (Operand.tmp 16),type:=tu,pos:=r,after:= #[{on:=0,ground:=Ground.data},{on:=0,ground:=Ground.phase}],guard:=none},
     {dst:=none,op:=Op.store tn (Operand.tmp 1) (Operand.const (Value.int IntKind.i64 c)),type:=tu,pos:=r,after:= #[{on:=1,ground:=Ground.chain},{on:=0,ground:=Ground.phase},{on:=1,ground:=Ground.phase}],guard:=none}]
    false)
def aB6 (v:Value) (T tu tn:TypeId) (c:Int) (q r:String):Code:=
 (Code.region 2 #[{dst:=some 4,op:=Op.assign (Operand.const v),type:=T,pos:=q,after:= #[],guard:=none}] false).seq
   (Code.region 3
    #[{dst:=some 16,op:=Op.move (Operand.tmp 4),type:=T,pos:=r,after:= #[],guard:=none},
     {dst:=none,op:=Op.store T (Operand.tmp 0) (Operand.tmp 16),type:=tu,pos:=r,after:= #[{on:=0,ground:=Ground.data},{on:=0,ground:=Ground.phase}],guard:=none},
     {dst:=none,op:=Op.store tn (Operand.tmp 1) (Operand.const (Value.int IntKind.i64 c)),type:=tu,pos:=r,after:= #[{on:=1,ground:=Ground.chain},{on:=0,ground:=Ground.phase},{on:=1,ground:=Ground.phase}],guard:=none}]
    false)
def ahF (n:Nat):Option Blk->Bool
 |some B=>Nat.beq B.n 1&&(Nat.beq B.sz n&&(match B.kd with
  | .own=>true
  |_=>false))
 |none=>false
def ai2 (bl:zdM) (i:Nat) (cs:zdK):Nat×Blk:=(i,match bl i with
 |some B=>B.put 0 0 cs
 |none=>{n:=0,sz:=0,get:=λ_=> [],kd:= .gone})
theorem ado {n:Nat} {o:Option Blk} (h:ahF n o=true): ∃B,o=some B/\B.n=1/\B.sz=n/\B.kd= .own:=by
 cases o with
 |none=>cases h
 |some B=>
  simp only[ahF,za2] at h;obtain⟨h1,h2,h3⟩:=h;exact⟨B,rfl,zab h1,zab h2,by revert h3;cases B.kd<;>simp⟩
def gu (tE:TypeId) (a:Addr) (cs:zdK) (c:Int):DCtr:=λm bl args=>match args with
 | [.ptr i 0 0, .ptr j 0 0]=>match m with
   |none=>some (true,none, [])
   |some (.iface t (.pointer (some b)))=>some (Nat.beq t tE&&(decide (b=a)&&(!Nat.beq i j&&(ahF cs.length (bl i)&&ahF 1 (bl j)))),none, [ai2 bl j [.val (.int .i64 c)],ai2 bl i cs])
   |_=>none
 |_=>none
structure CompP (P:Program) (tE:TypeId) (a:Addr) (ta te:TypeId) (isF:FuncId):Prop where
 yes: ∀w,(Instr.typeAssert (.iface tE (.pointer (some a))) ta te true).run P w= .ok (.tuple #[.iface tE (.pointer (some a)), .bool true]) w
 no: ∀w,(Instr.typeAssert .nilIface ta te true).run P w= .ok (.tuple #[.nilIface, .bool false]) w
 is: ∀w,Calls P isF #[.iface tE (.pointer (some a)), .iface tE (.pointer (some a))] w λe w'=>e= .returned (.bool true)/\w'=w
 call:Callable P isF
 agg:xW P te=some false
variable {P:Program} {T:TypeId} {cs:zdK}
theorem aEK {out:SV} (Y: ∀bl,bl 0=some ({n:=1,sz:=cs.length,get:=λ_=>cs,kd:= .own}:Blk)-> ∃E,rH P bl T (.ptr 0 0 0)=some E/\E.need=true/\E.out=out) (hid: ∀s∈cs,s.ids= []) (ho:out.ids= []) (w:World):
 (loadVar T ⟨w.heap.size,0,none⟩).run P (w.alloc (.cells (SV.concs oj cs).toArray T))= .ok (out.conc oj) (w.alloc (.cells (SV.concs oj cs).toArray T)):=by
 have k1:=(sP w oj).alloc (id:=0) rfl (B:={n:=1,sz:=cs.length,get:=λ_=>cs,kd:= .own}) rfl (λ_ _=>rfl) (λe o s _ H i hi=>by
  rw[hid s (zal H)] at hi;cases hi) cs (by simp) (λe o s J H=>by
  have:e=0:=by simp at J;exact J
  subst this
  simpa using H) T
 obtain⟨E,h1,h2,rfl⟩:=Y _ (az _ _ _);obtain⟨ad,N,l2,_⟩:=qe k1 h1 h2;have:ad=⟨w.heap.size,0,none⟩:=by
  have:SV.conc (gp oj 0 ⟨w.heap.size,0,cs.length,1,false⟩) (.ptr 0 0 0)= .pointer (some ⟨w.heap.size,0,none⟩):=by simp[SV.conc,addr,aA]
  rw[this] at N;simpa using N.symm
 rw[<-this,l2,SV.conc_congr E.out (β:=oj) (β':=gp oj 0 ⟨w.heap.size,0,cs.length,1,false⟩) (λi h=>by rw[ho] at h;cases h)]
variable {ops:zdP} {Q:Exit->Act->List Frame->World->Prop} {i:Nat} {rest:zdI} {a:Act} {w w':World} {o:Oper}
theorem ayi {cs:List Frame} {v:Value} (J:ops[i]? =some o) (N:Region.wanted o (yielded ops a.tmps)=true) (H:(execOp a.eval o).run P w= .ok (.value v) w')
 (h:wpOpsS P ops Q rest (a.put o.dst v) cs w'):wpOpsS P ops Q (i::rest) a cs w:=by
 simp only[wpOpsS,J,N,if_true,H];exact h
theorem azu {cs:List Frame} (J:ops[i]? =some o) (N:Region.wanted o (yielded ops a.tmps)=true) (H:(execOp a.eval o).run P w= .ok .skip w')
 (h:wpOpsS P ops Q rest (a.put o.dst undef) cs w'):wpOpsS P ops Q (i::rest) a cs w:=by
 simp only[wpOpsS,J,N,if_true,H];exact h
variable {ρ:Operand->Value} {d:Option Tmp} {tp:TypeId} {x:Operand} {p:String} {af:Array Edge} {ad:Addr}
theorem aDQ {g:Option (Nat×Bool)} {v:Value} (H:ρ x= .pointer (some ad)) (h:(loadVar T ad).run P w= .ok v w):(execOp ρ ⟨d, .load T x,tp,p,af,g⟩).run P w= .ok (.value v) w:=by
 simp only[execOp,Instr.loadAt,H,Instr.sureAddr,zdF,zdG,zdE,h]
theorem aB7 {y:Operand} {g:Option (Nat×Bool)} {v:Value} (H:ρ x= .pointer (some ad)) (J:ρ y=v) (h:(storeVar T ad v).run P w= .ok () w'):(execOp ρ ⟨d, .store T x y,tp,p,af,g⟩).run P w= .ok .skip w':=by
 simp only[execOp,Instr.storeAt,H,J,Instr.sureAddr,zdF,zdG,zdE,h]
def azS (P:Program) (Z:Code) (zw:World->World) (T tn:TypeId) (out:Value) (c:Int):Prop:=
 ∀{Q:Exit->Act->List Frame->World->Prop} {a:Act} {fs:List Frame} {w J N:World} {p0 p1:Addr},a.eval (.tmp 0)= .pointer (some p0)->a.eval (.tmp 1)= .pointer (some p1)->a.tmps.size=17->(storeVar T p0 out).run P (zw w)= .ok () J->(storeVar tn p1 (.int .i64 c)).run P J= .ok () N->
  (∀H,H.defers=a.defers->Q .normal H fs N)->Code.wpS P Z Q a fs w
theorem n9 (x:Act) (t d:Nat) (v:Value) (J:x.tmps.size=17) (H:d<17):(x.put (some d) v).eval (.tmp t)=(if t=d then v else x.eval (.tmp t)):=cE x d t v (by rw[J];exact H)
variable {tu tn:TypeId} {r:String} {c:Int} {w2 w3:World} {out:Value}
theorem aAh {a a1:Act} {fs:List Frame} {p0 p1:Addr} {e1 e2:Array Edge} 
 (h0:a1.eval (.tmp 0)= .pointer (some p0)) (h1:a1.eval (.tmp 1)= .pointer (some p1)) (h2:a1.eval (.tmp 16)=out)
 (k2:(storeVar T p0 out).run P w= .ok () w2) (J:(storeVar tn p1 (.int .i64 c)).run P w2= .ok () w3) (H:Q .normal a1 fs w3):
 wpOpsS P #[o,{dst:=none,op:=Op.store T (Operand.tmp 0) (Operand.tmp 16),type:=tu,pos:=r,after:=e1,guard:=none},
  {dst:=none,op:=Op.store tn (Operand.tmp 1) (Operand.const (Value.int IntKind.i64 c)),type:=tu,pos:=r,after:=e2,guard:=none}] Q [1,2] a1 fs w:=by
 refine azu (o:=⟨none, .store T (.tmp 0) (.tmp 16),tu,r,e1,none⟩) (i:=1) (rest:= [2]) rfl rfl (aB7 (ad:=p0) (v:=out) h0 h2 k2) ?_;show wpOpsS _ _ _ _ a1 _ _;refine azu (o:=⟨none, .store tn (.tmp 1) (.const (.int .i64 c)),tu,r,e2,none⟩) (i:=2) (rest:= []) rfl rfl (aB7 (ad:=p1) (v:= .int .i64 c) h1 rfl J) ?_;exact H
variable {q:String}
theorem aB8 (hz:xX P T=some cs) (N: ∀w:World,(loadVar T ⟨w.heap.size,0,none⟩).run P (w.alloc (.cells (SV.concs oj cs).toArray T))= .ok out (w.alloc (.cells (SV.concs oj cs).toArray T))):
 azS P (aDq T tu tn c q r) (λw=>w.alloc (.cells (SV.concs oj cs).toArray T)) T tn out c:=by
 intro Q a fs w w2 w3 p0 p1 h0 h1 H k2 m2 hQ;apply wpS_seq;apply wpS_region;refine ayi (o:=⟨some 4, .alloc T,tu,q, #[],none⟩) (i:=0) (rest:= []) rfl rfl (adg rfl hz).1 ?_;show Code.wpS _ _ _ (a.put (some 4) (.pointer (some ⟨w.heap.size,0,none⟩))) _ _;apply wpS_region;have z4:=n9 a 4 4 (.pointer (some ⟨w.heap.size,0,none⟩)) H (by decide);have z0:=n9 a 0 4 (.pointer (some ⟨w.heap.size,0,none⟩)) H (by decide);have z1:=n9 a 1 4 (.pointer (some ⟨w.heap.size,0,none⟩)) H (by decide);have Y:(a.put (some 4) (.pointer (some ⟨w.heap.size,0,none⟩))).tmps.size=17:=by simp[Act.put,H]
 have zd:(a.put (some 4) (.pointer (some ⟨w.heap.size,0,none⟩))).defers=a.defers:=rfl;generalize a.put (some 4) (.pointer (some ⟨w.heap.size,0,none⟩))=J at*
 refine ayi (o:=⟨some 16, .load T (.tmp 4),T,r, #[],none⟩) (i:=0) (rest:= [1,2]) rfl rfl (aDQ (ad:=⟨w.heap.size,0,none⟩) (by rw[z4];rfl) (N w)) ?_;refine aAh (a:=a) (by rw[n9 J 0 16 out Y (by decide)];simp;rw[z0];simp;exact h0) (by rw[n9 J 1 16 out Y (by decide)];simp;rw[z1];simp;exact h1) (by rw[n9 J 16 16 out Y (by decide)];simp) k2 m2 (hQ _ zd)
theorem aAi:azS P (aB6 out T tu tn c q r) (λw=>w) T tn out c:=by
 intro Q a fs w w2 w3 p0 p1 h0 h1 H k2 m2 Y;apply wpS_seq;apply wpS_region;refine ayi (o:=⟨some 4, .assign (.const out),T,q, #[],none⟩) (i:=0) (rest:= []) rfl rfl (w':=w) (v:=out) (by simp[execOp,Act.eval]) ?_;show Code.wpS _ _ _ (a.put (some 4) out) _ _;apply wpS_region;have z4:=n9 a 4 4 out H (by decide);have z0:=n9 a 0 4 out H (by decide);have z1:=n9 a 1 4 out H (by decide);have N:(a.put (some 4) out).tmps.size=17:=by simp[Act.put,H]
 have zd:(a.put (some 4) out).defers=a.defers:=rfl;generalize a.put (some 4) out=J at*
 refine ayi (o:=⟨some 16, .move (.tmp 4),T,r, #[],none⟩) (i:=0) (rest:= [1,2]) rfl rfl (w':=w) (v:=out) (by simp[execOp,z4]) ?_;refine aAh (a:=a) (by rw[n9 J 0 16 out N (by decide)];simp;rw[z0];simp;exact h0) (by rw[n9 J 1 16 out N (by decide)];simp;rw[z1];simp;exact h1) (by rw[n9 J 16 16 out N (by decide)];simp) k2 m2 (Y _ zd)
variable {f isF:FuncId} {fn:Func} {ta te tt tb t:TypeId} {g j:Nat} {Z:Code} {b:Addr} {β:zdJ}
theorem aAR (H:CompP P t b ta te isF) (hf:P.funcs[f]? =some fn) (hb:fn.body=some (azt ta te tt tb g isF p Z)) (hn:fn.ntmps=17) (hr:fn.results= #[]):CallsD P f (SV.concs β [.ptr i 0 0, .ptr j 0 0]).toArray .returning w λe u' w'=>e= .returned (.tuple #[])/\u'= .returning/\w'=w:=by
 refine callsD_of_wpS hf hb λc₀ cs' hu=> ?_;unfold azt;apply wpS_seq;apply wpS_region;simp[wpOpsS,go_sem,recoverD,hu,hn,Exit.thenS,H.no,SV.concs,SV.conc];apply wpS_seq;apply wpS_region;simp[wpOpsS,go_sem,Exit.thenS];refine wpS_cond (t:=false) (by simp[Act.eval]) ?_;simp only[zbo,if_false];refine wpS_of_wp (wp_skip ?_);cases c₀
 simp_all [bodyPostS,results]
variable {zw:World->World}
theorem aBv (H:CompP P t b ta te isF) (hf:P.funcs[f]? =some fn) (hb:fn.body=some (azt ta te tt tb g isF p Z)) (hn:fn.ntmps=17) (hr:fn.results= #[]) (hZ:azS P Z zw T tn out c) (hg:w.cell? ⟨g,0,none⟩=some (.iface t (.pointer (some b))))
 (k2:(storeVar T (addr β i 0 0) out).run P (zw w)= .ok () w2) (m2:(storeVar tn (addr β j 0 0) (.int .i64 c)).run P w2= .ok () w3):
 CallsD P f (SV.concs β [.ptr i 0 0, .ptr j 0 0]).toArray (pq (some (.iface t (.pointer (some b))))) w λe u' w'=>e= .returned (.tuple #[])/\u'= .panicking [{v:= .iface t (.pointer (some b)),recovered:=true}]/\w'=w3:=by
 refine callsD_of_wpS hf hb λc₀ cs' hu=> ?_;unfold pq at hu;unfold azt;apply wpS_seq;apply wpS_region;simp[wpOpsS,go_sem,recoverD,hu,hn,Exit.thenS,H.yes,SV.concs,SV.conc,addr];apply wpS_seq;apply wpS_region;have hcl: ∀ar w,(callFunc isF ar).run P w= .ok (.enter isF ar) w:=H.call;simp[wpOpsS,go_sem,Exit.thenS,nQ w H.agg,hg,hcl];refine(H.is w).mono ?_;rintro e w1 ⟨rfl,rfl⟩;dsimp only;refine wpS_cond (t:=true) (by simp[Act.eval]) ?_;simp only[if_true];refine hZ (p0:=addr β i 0 0) (p1:=addr β j 0 0) (by simp[Act.eval,addr]) (by simp[Act.eval,addr]) (by simp) k2 m2 λa' hd=> ?_;have hd:a'.defers= []:=hd;simp[bodyPostS,results,hr,hd]
variable {B:Base} {tE:TypeId}
theorem ay7 {a:Addr} {out:SV} (H:CompP P tE a ta te isF)
 (hf:P.funcs[f]? =some fn) (hb:fn.body=some (azt ta te tt tb g isF p Z)) (hn:fn.ntmps=17) (hr:fn.results= #[]) (hc:Callable P f) (hG: ∀w,Pres B w->w.cell? ⟨g,0,none⟩=some (.iface tE (.pointer (some a))))
 (o0: ∀w,Below w.heap.size w (zw w)) (hZ:azS P Z zw T tn (out.conc oj) c) (hcells:out.cells=cs) (e0:cs.all SV.one=true) (N:out.ids= []) (l0:szT P T=some cs.length) (n0:szT P tn=some 1):Wz P B f (gu tE a cs c):=by
 intro m bl β w args m' ch Y v0 J u0;refine⟨hc, ?_⟩;unfold gu at J;split at J
 ·rename_i i j;split at J
  ·simp only[za1,zag,true_and] at J;obtain⟨rfl,rfl⟩:=J;have key:=aAR (β:=β) (i:=i) (j:=j) (w:=w) H hf hb hn hr;refine key.mono ?_;rintro e u' w' ⟨rfl,rfl,rfl⟩;exact⟨⟨_,rfl⟩,rfl,Y⟩
  ·rename_i t b;simp only[za1,zag,za2,zdu,zap] at J;obtain⟨⟨h1,rfl,h3,h4,h5⟩,rfl,rfl⟩:=J;have h1:=zab h1;subst h1;obtain⟨C,hC,c1,c2,c3⟩:=ado h4;obtain⟨D,hD,d1,d2,d3⟩:=ado h5;have a0:i≠j:=λe=>by rw[e,bS] at h3;simp at h3
   have hg:=hG w Y.below;have s1:BC B bl β (zw w):=Y.step (o0 w);obtain⟨E1,e1,e2,e3⟩: ∃E,o9 P bl T (.ptr i 0 0) out=some E/\E.need=true/\E.wr=some (i,0,0,cs):=by
    refine⟨{need:=decide (0<C.n),out:= .val undef,wr:=some (i,0,0,cs)}, ?_,by simp[c1],rfl⟩;simp only[o9,hC,c3,l0,hcells,c2,e0];rw[show Nat.beq cs.length cs.length=true by rw[bS];simp,show Nat.ble (0+cs.length) cs.length=true by rw[za7];exact zae (za0 _)];rfl
   have j0:Live bl out:=λk J=>by rw[N] at J;cases J
   obtain⟨ad,id,e,o,B',w2,k1,k2,k3,k4,k5,k6,k7⟩:=wu s1 e1 e2 j0;rw[e3] at k4;simp only[za1,zag] at k4;obtain⟨rfl,rfl,rfl,g0⟩:=k4;rw[hC] at k3;obtain rfl:=zbk k3;obtain⟨E2,f1,f2,f3⟩: ∃E,o9 P (upd bl i (C.put 0 0 cs)) tn (.ptr j 0 0) (.val (.int .i64 c))=some E/\E.need=true/\E.wr=some (j,0,0, [.val (.int .i64 c)]):=by
    refine⟨{need:=decide (0<D.n),out:= .val undef,wr:=some (j,0,0, [.val (.int .i64 c)])}, ?_,by simp[d1],rfl⟩;simp only[o9,ak (Ne.symm a0),hD,d3,n0,d2];rfl
   rw[<-g0] at k7;obtain⟨r0,w0,q2,o2,B2,w3,m1,m2,m3,m4,m5,m6,m7⟩:=wu k7 f1 f2 (λk J=>by simp[SV.ids] at J);rw[f3] at m4;simp only[za1,zag] at m4;obtain⟨rfl,rfl,rfl,q0⟩:=m4;rw[ak (Ne.symm a0),hD] at m3;obtain rfl:=zbk m3;have i0:out.conc β=out.conc oj:=SV.conc_congr out (λi h=>by rw[N] at h;cases h);rw[i0] at k2;simp only[SV.conc,Value.pointer.injEq,za1] at k1 m1;subst k1;subst m1;have key:=aBv (β:=β) (i:=i) (j:=j) H hf hb hn hr hZ hg k2 m2;refine key.mono ?_;rintro e u' w' ⟨rfl,rfl,rfl⟩;refine⟨⟨_,rfl⟩,rfl, ?_⟩;simp only[chB,ai2,hC,hD];exact m7
  ·cases J
 ·cases J
theorem vn {a:Addr} {out:SV} (H:CompP P tE a ta te isF)
 (hf:P.funcs[f]? =some fn) (hb:fn.body=some (azt ta te tt tb g isF p (aDq T tu tn c q r))) (hn:fn.ntmps=17) (hr:fn.results= #[]) (hc:Callable P f) (hG: ∀w,Pres B w->w.cell? ⟨g,0,none⟩=some (.iface tE (.pointer (some a))))
 (hz:xX P T=some cs) (hl: ∀bl,bl 0=some ({n:=1,sz:=cs.length,get:=λ_=>cs,kd:= .own}:Blk)-> ∃E,rH P bl T (.ptr 0 0 0)=some E/\E.need=true/\E.out=out) (hcells:out.cells=cs) (N:cs.all SV.one=true) (J:out.ids= []) (Y:szT P T=some cs.length) (a0:szT P tn=some 1):Wz P B f (gu tE a cs c):=by
 obtain⟨_,_,_,z3⟩:=pb (P:=P) (β:=oj) B.w hz;exact ay7 (zw:=λw=>w.alloc (.cells (SV.concs oj cs).toArray T)) H hf hb hn hr hc hG (λw=>(zdD _ w).alloc (za0 _) _) (aB8 hz λw=>aEK hl z3 J w) hcells N J Y a0
end Go.Sy
namespace Go.Proofs.YtdjfpjmijhjmpaaGreatDoor
open Go.Proofs.Tryz
open Go Go.RowKit Go.Sy Yk
def evE (a:Addr):Value:= .iface 402 (.pointer (some a))
def GlobE (a:Addr) (w:World):Prop:=GlobU w/\w.cell? ⟨5,0,none⟩=some (evE a)
variable {a:Addr} {w w':World}
theorem GlobE.below (h:GlobE a w) (H:Below w.heap.size w w'):GlobE a w':=by
 refine⟨h.1.below H, ?_⟩;rw[H.cell (p:=⟨5,0,none⟩) (World.block_lt_of_cell? w _ h.2)];exact h.2
def GlobEB (a:Addr) (B:Base):Prop:= ∀w,Pres B w->GlobE a w
variable {B:Base}
theorem GlobEB.gU (h:GlobEB a B):GlobB B:=λw H=>(h w H).1
variable {W:World}
theorem GlobEB.of (h:GlobE a W):GlobEB a W:=λw H=>h.below H.below
theorem GlobEB.sub {W:Base} (h:GlobEB a W) (s:SubB B W):GlobEB a B:=λw H=>h w (s.pres H)
theorem afL (v:Value) (w:World):(Extern.ReflectliteType.typeOf #[.iface 402 v]).run prog w= .ok (.iface 308 (.agg #[.pointer (some ⟨14,402,none⟩)])) w:=by kernel_rfl
theorem ac8 (w:World):((Extern.ReflectliteType.method λt=>do Extern.Rtype.noPackHeld "Comparable" t;(λa=>Value.bool a.comparable)<$>typeInfo t) #[.agg #[.pointer (some ⟨14,402,none⟩)]]).run prog w= .ok (.bool true) w:=by kernel_rfl
theorem afM (v:Value) (w:World):(Go.method 550 308 v "Comparable").run prog w= .ok (431,v) w:=by kernel_rfl
theorem ahB:(prog.info? 402).map (·.comparable)=some true:=by kernel_rfl
theorem ahC:(prog.info? 404).map (·.size)=some 1:=by kernel_rfl
theorem ahD (a:Addr) (w:World):Calls prog 115 #[evE a,evE a] w λe w'=>e= .returned (.bool true)/\w'=w:=by
 unfold evE;obtain⟨i,hi,hcmp⟩:=zbF.1 ahB;obtain⟨j,hj,hjs⟩:=zbF.1 ahC;have h8:= @run_callFunc_extern prog 212 _ Extern.ReflectliteType.typeOf func212 (by kernel_rfl) (by kernel_rfl) (by kernel_rfl) (by kernel_rfl);have h32:= @run_callFunc_extern prog 431 _ (Extern.ReflectliteType.method λt=>do Extern.Rtype.noPackHeld "Comparable" t;pure (.bool (<-typeInfo t).comparable)) func431 (by kernel_rfl) (by kernel_rfl) (by kernel_rfl) (by kernel_rfl);have tT:=afL;have cT:=ac8;have mR:=afM;have heq:=run_eql_iface_ptr_same (P:=prog) w a underlying128 underlying402 hi hcmp hj;go_enter func115,ntmps115;go_wp2;refine wp_loop_rounds 1 ?_;rw[rounds_succ];go_wp2;go_ret;exact⟨rfl,rfl⟩
theorem ahE (H:Value) (w:World):(Instr.typeAssert (.iface 402 H) 20 128 true).run prog w= .ok (.tuple #[.iface 402 H, .bool true]) w:=by kernel_rfl
theorem ai1 (w:World):(Instr.typeAssert .nilIface 20 128 true).run prog w= .ok (.tuple #[.nilIface, .bool false]) w:=by kernel_rfl
theorem ayJ (a:Addr):CompP prog 402 a 20 128 115:=⟨λw=>ahE _ w,λw=>ai1 w,λw=>ahD a w,call115,by kernel_rfl⟩
def agB (a:Addr):DCtr:=gu 402 a (aAP noI) 50
theorem agC (a:Addr) (B:Base) (hB:GlobEB a B):Wz prog B 326 (agB a):=
 vn (ayJ a) (tt:=171) (tu:=0) (tb:=4) (T:=109) (tn:=25) (out:= .agg (aAP noI)) (p:= "enclosure.go:56") (q:= "enclosure.go:57") (r:= "enclosure.go:58") (g:=5) func326 (by kernel_rfl) ntmps326 results326 call326 (λw H=>(hB w H).2)
  (by kernel_rfl) (λbl h=>⟨{need:=true,out:= .agg (aAP noI),rd:= [0]},by unfold rH;simp only[h];kernel_rfl,rfl,rfl⟩) rfl (by kernel_rfl) rfl (by kernel_rfl) (by kernel_rfl)
def ai3 (a:Addr):MCtr:=λ_ _ args=>match args with
 | [.val (.bool true)]=>some {X:=Unit,pre:=true,spec:=λ_=>True,out:=λ_=> .tup [],ex:=λ_=>⟨(),trivial⟩}
 | [.val (.bool false)]=>some {X:=Unit,pre:=true,spec:=λ_=>True,out:=λ_=> .tup [],pan:=λ_=>some (evE a),ex:=λ_=>⟨(),trivial⟩}
 |_=>none
def aeE:List FuncId:=
 269::
 261::
 324::
 325::
 190::
 198::
 265::
 329::
 267::
 264::
 326::
 328::
 271::
 270::
 266::
 268::
 322::
 344::
 327::
 371::
 220::
 215::
 125::
 248::
 214::
 163::
 39::
 290::
 49::
 139::
 v9
theorem ae8: ∀f∈aeE,Callable prog f:=by
 unfold aeE;simp only[zc4]
 exact⟨
  call269,
  call261,
  call324,
  call325,
  call190,
  call198,
  call265,
  call329,
  call267,
  call264,
  call326,
  call328,
  call271,
  call270,
  call266,
  call268,
  call322,
  call344,
  call327,
  call371,
  call220,
  call215,
  call125,
  call248,
  call214,
  call163,
  call39,
  call290,
  call49,
  call139,
  zG⟩
structure GEk (g:List (FuncId×Ctr)):Prop where
 all: ∀(a:Addr) (W:World),GlobE a W-> ∀p∈g,CtrOK prog W p.1 p.2/\Callable prog p.1
variable {g:List (FuncId×Ctr)}
theorem GEk.of (h:GOk g):GEk g:=⟨λ_ W H=>h.all W H.1⟩
variable {F:FuncId} {c:Ctr}
theorem GEk.cons (h:GEk g) (k: ∀(a:Addr) (W:World),GlobE a W->CtrOK prog W F c) (J:Callable prog F):GEk ((F,c)::g):=⟨λa W H p hp=>by
 rcases zai.1 hp with rfl|hp
 ·exact⟨k a W H,J⟩
 ·exact h.all a W H p hp⟩
structure MEk (a:Addr) (gm:List (FuncId×MCtr)):Prop where
 all: ∀B:Base,GlobEB a B-> ∀p∈gm,VU prog B p.1 p.2
theorem MEk.nil:MEk a []:=⟨λ_ _ _ h=>by cases h⟩
variable {gm:zdX}
theorem MEk.of (h:MOk gm):MEk a gm:=⟨λB hB=>h.all B hB.gU⟩
variable {k:MCtr}
theorem MEk.cons (h:MEk a gm) (H: ∀B:Base,GlobEB a B->VU prog B F k):MEk a ((F,k)::gm):=⟨λB hB p hp=>by
 rcases zai.1 hp with rfl|hp
 ·exact H B hB
 ·exact h.all B hB p hp⟩
def dF (a:Addr):FuncId->Option DCtr:=λf=>bif Nat.beq f 326 then some (agB a) else tL f
theorem ac9 (hg:GEk g) (N:MEk a gm) (hB:GlobEB a B):HypD prog B (iR aeE) (gw g) (gx gm) (dF a):=
 have h:Hyp prog B (iR aeE) (gw g) (gx gm):=mW (λp hp=>⟨CtrOK.base λw Y=>(hg.all a w (hB w Y) p hp).1,(hg.all a B.w (hB B.w (Pres.self B)) p hp).2⟩) (λB' s=>N.all B' (hB.sub s)) ae8 (by kernel_rfl)
 ⟨h.gam,h.mem,λB' s f k H=>by
   unfold dF at H;cases J:Nat.beq f 326 with
   |true=>
    rw[J] at H;simp only[zds,za1] at H;subst H;rw[zab J];exact agC a B' (hB.sub s)
   |false=>
    rw[J,zdr] at H
    exact(aIi MOk.nil hB.gU).dem B' s f k H,h.ok,h.mixed⟩
def M9:List FuncId:=
 76::
 162::
 117::
 119::
 136::
 134::
 135::
 224::
 137::
 223::
 196::
 260::
 178::
 195::
 167::
 187::
 168::
 179::
 43::
 120::
 38::
 94::
 28::
 100::
 189::
 98::
 185::
 191::
 262::
 91::
 174::
 175::
 27::
 193::
 102::
 197::
 96::
 87::
 166::
 169::
 263::
 194::
 184::
 257::
 259::
 173::
 254::
 255::
 186::
 258::
 192::
 176::
 188::
 170::
 109::
 294::
 352::
 128::
 379::
 219::
 287::
 335::
 21::
 74::
 18::
 55::
 56::
 62::
 63::
 64::
 66::
 68::
 70::
 14::
 41::
 12::
 36::
 25::
 85::
 86::
 89::
 93::
 95::
 97::
 99::
 101::
 17::
 51::
 53::
 84::
 165::
 54::
 143::
 50::
 142::
 40::
 124::
 35::
 114::
 37::
 116::
 90::
 59::
 77::
 52::
 42::
 127::
 92::
 181::
 182::
 183::
 61::
 149::
 150::
 151::
 235::
 306::
 103::
 88::
 58::
 171::
 244::
 108::
 172::
 147::
 253::
 317::
 126::
 342::
 343::
 341::
 340::
 289::
 382::
 217::
 218::
 408::
 397::
 291::
 216::
 123::
 347::
 348::
 345::
 350::
 349::
 346::
 351::
 6::
 5::
 3::
 4::
 11::
 10::
 16::
 20::
 13::
 24::
 7::
 23::
 141::
 222::
 204::
 110::
 140::
 30::
 113::
 112::
 138::
 211::
 225::
 292::
 48::
 47::
 130::
 46::
 132::
 133::
 129::
 131::
 73::
 160::
 26::
 105::
 238::
 308::
 33::
 34::
 8::
 15::
 9::
 31::
 32::
 29::
 45::
 44::
 aeE
theorem aAj: ∀f∈M9,Callable prog f:=by
 unfold M9;simp only[zc4]
 exact⟨
  call76,
  call162,
  call117,
  call119,
  call136,
  call134,
  call135,
  call224,
  call137,
  call223,
  call196,
  call260,
  call178,
  call195,
  call167,
  call187,
  call168,
  call179,
  call43,
  call120,
  call38,
  call94,
  call28,
  call100,
  call189,
  call98,
  call185,
  call191,
  call262,
  call91,
  call174,
  call175,
  call27,
  call193,
  call102,
  call197,
  call96,
  call87,
  call166,
  call169,
  call263,
  call194,
  call184,
  call257,
  call259,
  call173,
  call254,
  call255,
  call186,
  call258,
  call192,
  call176,
  call188,
  call170,
  call109,
  call294,
  call352,
  call128,
  call379,
  call219,
  call287,
  call335,
  call21,
  call74,
  call18,
  call55,
  call56,
  call62,
  call63,
  call64,
  call66,
  call68,
  call70,
  call14,
  call41,
  call12,
  call36,
  call25,
  call85,
  call86,
  call89,
  call93,
  call95,
  call97,
  call99,
  call101,
  call17,
  call51,
  call53,
  call84,
  call165,
  call54,
  call143,
  call50,
  call142,
  call40,
  call124,
  call35,
  call114,
  call37,
  call116,
  call90,
  call59,
  call77,
  call52,
  call42,
  call127,
  call92,
  call181,
  call182,
  call183,
  call61,
  call149,
  call150,
  call151,
  call235,
  call306,
  call103,
  call88,
  call58,
  call171,
  call244,
  call108,
  call172,
  call147,
  call253,
  call317,
  call126,
  call342,
  call343,
  call341,
  call340,
  call289,
  call382,
  call217,
  call218,
  call408,
  call397,
  call291,
  call216,
  call123,
  call347,
  call348,
  call345,
  call350,
  call349,
  call346,
  call351,
  call6,
  call5,
  call3,
  call4,
  call11,
  call10,
  call16,
  call20,
  call13,
  call24,
  call7,
  call23,
  call141,
  call222,
  call204,
  call110,
  call140,
  call30,
  call113,
  call112,
  call138,
  call211,
  call225,
  call292,
  call48,
  call47,
  call130,
  call46,
  call132,
  call133,
  call129,
  call131,
  call73,
  call160,
  call26,
  call105,
  call238,
  call308,
  call33,
  call34,
  call8,
  call15,
  call9,
  call31,
  call32,
  call29,
  call45,
  call44,
  ae8⟩
structure Ad3 where
 e:Addr
 f:Addr
 p:Addr
def GlobP (d:Ad3) (w:World):Prop:=GlobE d.e w/\w.cell? ⟨4,0,none⟩=some (evE d.f)/\w.cell? ⟨2,0,none⟩=some (evE d.p)
variable {d:Ad3}
theorem GlobP.below (h:GlobP d w) (H:Below w.heap.size w w'):GlobP d w':=by
 refine⟨h.1.below H, ?_, ?_⟩
 ·rw[H.cell (p:=⟨4,0,none⟩) (World.block_lt_of_cell? w _ h.2.1)];exact h.2.1
 ·rw[H.cell (p:=⟨2,0,none⟩) (World.block_lt_of_cell? w _ h.2.2)];exact h.2.2
def GlobPB (d:Ad3) (B:Base):Prop:= ∀w,Pres B w->GlobP d w
theorem GlobPB.gE (h:GlobPB d B):GlobEB d.e B:=λw H=>(h w H).1
theorem GlobPB.of (h:GlobP d W):GlobPB d W:=λw H=>h.below H.below
theorem GlobPB.sub {W:Base} (h:GlobPB d W) (s:SubB B W):GlobPB d B:=λw H=>h w (s.pres H)
theorem aAk (yes: ∀w,Calls prog F #[.bool true] w λe w'=>e= .returned (.tuple #[])/\w'=w) (no: ∀w,Pres B w->Calls prog F #[.bool false] w λe w'=>e= .panicked [{v:=evE a,recovered:=false}]/\w'=w):VU prog B F (ai3 a):=by
 intro bl β w nx args C H hit N Y J hp;unfold ai3 at J;split at J
 ·simp only[za1] at J;subst J;refine(yes w).mono ?_;rintro e w' ⟨rfl,rfl⟩;exact⟨(),trivial,β,by show _=_;simp[SV.conc,SV.concs],abx H N (by simp[SV.ids,SV.idss]) (zdD _ _)⟩
 ·simp only[za1] at J;subst J;refine(no w H.below).mono ?_;rintro e w' ⟨rfl,rfl⟩;obtain⟨g1,g2,_⟩:=abx (s:= .tup []) H N (by simp[SV.ids,SV.idss]) (zdD _ w');exact⟨(),trivial,β,rfl,g1,g2,trivial⟩
 ·cases J
theorem aB9 (hB:GlobPB d B):VU prog B 194 (ai3 d.f):=by
 refine aAk (λw=> ?_) λw hw=> ?_
 ·go_enter func194,ntmps194;go_wp2
  go_end0
  exact⟨rfl,rfl⟩
 ·have h:=(hB w hw).2.1;go_enter func194,ntmps194;go_wp2;exact⟨rfl,rfl,rfl⟩
theorem aCa (hB:GlobPB d B):VU prog B 53 (ai3 d.p):=by
 refine aAk (λw=> ?_) λw hw=> ?_
 ·go_enter func53,ntmps53;go_wp2
  go_end0
  exact⟨rfl,rfl⟩
 ·have h:=(hB w hw).2.2;go_enter func53,ntmps53;go_wp2;exact⟨rfl,rfl,rfl⟩
def zR:zdK:= [.val (.string ⟨#[]⟩), .val (.string ⟨#[]⟩)]
def zFm:zdK:= [.val (.string ⟨#[]⟩), .val (.string ⟨#[]⟩), .val (.slice none 0 0), .val (.string ⟨#[]⟩), .val (.string ⟨#[]⟩)]
def zIn:zdK:= [.val (.int .i64 0), .val (.int .i64 0), .val (.string ⟨#[]⟩), .val (.string ⟨#[]⟩)]
theorem aCR (hB:GlobPB d B):Wz prog B 165 (gu 402 d.p (zFm) 110):=
 vn (ayJ d.p) (tt:=171) (tu:=0) (tb:=4) (T:=71) (tn:=25) (out:= .agg (zFm)) (p:= "plan.go:36") (q:= "plan.go:37") (r:= "plan.go:38") (g:=2) func165 (by kernel_rfl) ntmps165 results165 call165 (λw H=>(hB w H).2.2)
  (by kernel_rfl) (λbl h=>⟨{need:=true,out:= .agg (zFm),rd:= [0]},by unfold rH;simp only[h];kernel_rfl,rfl,rfl⟩) rfl (by kernel_rfl) rfl (by kernel_rfl) (by kernel_rfl)
theorem aCb (hB:GlobPB d B):Wz prog B 142 (gu 402 d.p [.val (.int .i64 0)] 110):=
 ay7 (ayJ d.p) (tt:=171) (tb:=4) (T:=3) (tn:=25) (out:= .val (.int .i64 0)) (p:= "plan.go:36") (Z:=aB6 (.int .i64 0) 3 0 25 110 "plan.go:37" "plan.go:38") (g:=2) func142 (by kernel_rfl) ntmps142 results142 call142 (λw H=>(hB w H).2.2)
  (zw:=λw=>w) (λw=>zdD _ w) aAi rfl (by kernel_rfl) rfl (by kernel_rfl) (by kernel_rfl)
theorem aDR (hB:GlobPB d B):Wz prog B 143 (gu 402 d.p (zR) 110):=
 vn (ayJ d.p) (tt:=171) (tu:=0) (tb:=4) (T:=50) (tn:=25) (out:= .agg (zR)) (p:= "plan.go:36") (q:= "plan.go:37") (r:= "plan.go:38") (g:=2) func143 (by kernel_rfl) ntmps143 results143 call143 (λw H=>(hB w H).2.2)
  (by kernel_rfl) (λbl h=>⟨{need:=true,out:= .agg (zR),rd:= [0]},by unfold rH;simp only[h];kernel_rfl,rfl,rfl⟩) rfl (by kernel_rfl) rfl (by kernel_rfl) (by kernel_rfl)
theorem aCS (hB:GlobPB d B):Wz prog B 114 (gu 402 d.p [.val (.string ⟨#[]⟩)] 110):=
 ay7 (ayJ d.p) (tt:=171) (tb:=4) (T:=9) (tn:=25) (out:= .val (.string ⟨#[]⟩)) (p:= "plan.go:36") (Z:=aB6 (.string ⟨#[]⟩) 9 0 25 110 "plan.go:37" "plan.go:38") (g:=2) func114 (by kernel_rfl) ntmps114 results114 call114 (λw H=>(hB w H).2.2)
  (zw:=λw=>w) (λw=>zdD _ w) aAi rfl (by kernel_rfl) rfl (by kernel_rfl) (by kernel_rfl)
theorem aCT (hB:GlobPB d B):Wz prog B 124 (gu 402 d.p (zIn) 110):=
 vn (ayJ d.p) (tt:=171) (tu:=0) (tb:=4) (T:=97) (tn:=25) (out:= .agg (zIn)) (p:= "plan.go:36") (q:= "plan.go:37") (r:= "plan.go:38") (g:=2) func124 (by kernel_rfl) ntmps124 results124 call124 (λw H=>(hB w H).2.2)
  (by kernel_rfl) (λbl h=>⟨{need:=true,out:= .agg (zIn),rd:= [0]},by unfold rH;simp only[h];kernel_rfl,rfl,rfl⟩) rfl (by kernel_rfl) rfl (by kernel_rfl) (by kernel_rfl)
theorem aCU (hB:GlobPB d B):Wz prog B 254 (gu 402 d.f (zFm) 80):=
 vn (ayJ d.f) (tt:=171) (tu:=0) (tb:=4) (T:=71) (tn:=25) (out:= .agg (zFm)) (p:= "affine.go:33") (q:= "affine.go:34") (r:= "affine.go:35") (g:=4) func254 (by kernel_rfl) ntmps254 results254 call254 (λw H=>(hB w H).2.1)
  (by kernel_rfl) (λbl h=>⟨{need:=true,out:= .agg (zFm),rd:= [0]},by unfold rH;simp only[h];kernel_rfl,rfl,rfl⟩) rfl (by kernel_rfl) rfl (by kernel_rfl) (by kernel_rfl)
theorem aCV (hB:GlobPB d B):Wz prog B 324 (gu 402 d.f (aAP noI) 80):=
 vn (ayJ d.f) (tt:=171) (tu:=0) (tb:=4) (T:=109) (tn:=25) (out:= .agg (aAP noI)) (p:= "affine.go:33") (q:= "affine.go:34") (r:= "affine.go:35") (g:=4) func324 (by kernel_rfl) ntmps324 results324 call324 (λw H=>(hB w H).2.1)
  (by kernel_rfl) (λbl h=>⟨{need:=true,out:= .agg (aAP noI),rd:= [0]},by unfold rH;simp only[h];kernel_rfl,rfl,rfl⟩) rfl (by kernel_rfl) rfl (by kernel_rfl) (by kernel_rfl)
def aA8:List (FuncId×DCtr)->FuncId->Option DCtr
 | [],_=>none
 |(g,k)::r,f=>bif Nat.beq f g then some k else aA8 r f
theorem azv: ∀{l:List (FuncId×DCtr)} {f:FuncId} {k:DCtr},aA8 l f=some k->(f,k)∈l
 | [],f,k,h=>by cases h
 |(g,c)::r,f,k,h=>by
  simp only[aA8] at h;cases H:Nat.beq f g with
  |true=>
   rw[H] at h;simp only[zds,za1] at h;subst h;rw[zab H];simp
  |false=>rw[H] at h;exact zan _ (azv h)
def aCc (d:Ad3):List (FuncId×DCtr):=
 (165,gu 402 d.p (zFm) 110)::
 (142,gu 402 d.p [.val (.int .i64 0)] 110)::
 (143,gu 402 d.p (zR) 110)::
 (114,gu 402 d.p [.val (.string ⟨#[]⟩)] 110)::
 (124,gu 402 d.p (zIn) 110)::
 (254,gu 402 d.f (zFm) 80)::
 (324,gu 402 d.f (aAP noI) 80)::
 []
theorem aCd (hB:GlobPB d B): ∀p∈aCc d,Wz prog B p.1 p.2:=by
 unfold aCc;simp only[zc4]
 exact⟨
  aCR hB,
  aCb hB,
  aDR hB,
  aCS hB,
  aCT hB,
  aCU hB,
  aCV hB,
  λp hp=>by cases hp⟩
def ax8 (d:Ad3) (f:FuncId):Option DCtr:=match aA8 (aCc d) f with
 |some k=>some k
 |none=>dF d.e f
structure GPk (g:List (FuncId×Ctr)):Prop where
 all: ∀(d:Ad3) (W:World),GlobP d W-> ∀p∈g,CtrOK prog W p.1 p.2/\Callable prog p.1
theorem GPk.of (h:GEk g):GPk g:=⟨λd W H=>h.all d.e W H.1⟩
theorem GPk.cons (h:GPk g) (k: ∀(d:Ad3) (W:World),GlobP d W->CtrOK prog W F c) (J:Callable prog F):GPk ((F,c)::g):=⟨λd W H p hp=>by
 rcases zai.1 hp with rfl|hp
 ·exact⟨k d W H,J⟩
 ·exact h.all d W H p hp⟩
structure MPk (d:Ad3) (gm:List (FuncId×MCtr)):Prop where
 all: ∀B:Base,GlobPB d B-> ∀p∈gm,VU prog B p.1 p.2
theorem MPk.of (h:MEk d.e gm):MPk d gm:=⟨λB hB=>h.all B hB.gE⟩
theorem MPk.cons (h:MPk d gm) (H: ∀B:Base,GlobPB d B->VU prog B F k):MPk d ((F,k)::gm):=⟨λB hB p hp=>by
 rcases zai.1 hp with rfl|hp
 ·exact H B hB
 ·exact h.all B hB p hp⟩
theorem aCW (hg:GPk g) (N:MPk d gm) (hB:GlobPB d B):HypD prog B (iR M9) (gw g) (gx gm) (ax8 d):=
 have h:Hyp prog B (iR M9) (gw g) (gx gm):=mW (λp hp=>⟨CtrOK.base λw Y=>(hg.all d w (hB w Y) p hp).1,(hg.all d B.w (hB B.w (Pres.self B)) p hp).2⟩) (λB' s=>N.all B' (hB.sub s)) aAj (by kernel_rfl)
 ⟨h.gam,h.mem,λB' s f k H=>by
   unfold ax8 at H;split at H
   ·rename_i k' J;simp only[za1] at H;subst H;exact aCd (hB.sub s) _ (azv J)
   ·exact(ac9 (GEk.of GOk.nil) (MEk.nil (a:=d.e)) hB.gE).dem B' s f k H,h.ok,h.mixed⟩
def eo:Nat->zdH
 |0=>⟨#[112,117,115,104]⟩
 |1=>⟨#[105,110,112,117,116]⟩
 |2=>⟨#[100,117,112]⟩
 |3=>⟨#[115,119,97,112]⟩
 |4=>⟨#[97,100,100]⟩
 |5=>⟨#[115,117,98]⟩
 |6=>⟨#[109,117,108]⟩
 |7=>⟨#[105,110,118]⟩
 |8=>⟨#[115,113,114,116]⟩
 |_=>⟨#[101,110,100]⟩
def gi:Nat->Int
 |0|1|2=>0
 |3|4|5|6=>2
 |7|8=>1
 |_=>0
def lj:Nat->Int
 |0|1|2=>1
 |3=>2
 |4|5|6|7|8=>1
 |_=>0
def ayw (d:Ad3) (g:List (FuncId×Ctr)) (gm:zdX) (ann:zdW) (n:Nat) (f:FuncId) (args:zdK) (Cs:zdV) (K:Aft):Prop:=
 Ay prog (iR M9) (gw g) (gx gm) (ax8 d) ann n f args (λi=>Cs[i]?) Cs.length [] K
abbrev my (d:Ad3) (g:List (FuncId×Ctr)) (gm:zdX) (ann:zdW) (n:Nat) (f:FuncId) (args:zdK) (K:zdS):Prop:=wn prog (iR M9) (gw g) (gx gm) (ax8 d) ann n f args (λ_=>none) 0 [] (Go.Sy.okK λr _ _ _=>K r)
variable {g:List (FuncId×Ctr)} {gm:zdX} {d:Ad3} {ann:zdW} {n:Nat} {F:FuncId} {args:zdK}
theorem gn (h:GPk g) (hm:MPk d gm) {W0:World} (hg:GlobP d W0) {r:SV} (H:SV.idss args= []) (hr:r.ids= []) (J:my d g gm ann n F args (λs=>s=r)):Go.Sy.Yields prog W0 F args r:=by
 intro β w hb
 obtain⟨_,hc⟩:=(mV (aCW h hm (GlobPB.of (hg.below hb))) ann n).call F args (λ_=>none) 0 [] _ β w J (sP w β) (λ_ _=>rfl) (λs hs i hi=>by
  have:i∈SV.idss args:=SV.mem_idss.2 ⟨s,hs,hi⟩
  rw[H] at this;cases this)
 refine Calls.mono hc ?_;rintro e w' ⟨β',s,bl',a0,e0,he,Y,N,_⟩;cases s with
 |pan v=>exact Y.elim
 |ok s=>
 obtain rfl:e=_:=he;obtain rfl:s=_:=Y;exact⟨by rw[SV.conc_congr s (β:=β) (β':=β') (λi hi=>by rw[hr] at hi;cases hi)],N.below.below⟩
theorem azw {f:FuncId} {Cs:zdV} {K K':Aft} (h:ayw d g gm ann n f args Cs K) (H: ∀r b n w,K r b n w->K' r b n w):ayw d g gm ann n f args Cs K':=by
 unfold ayw at h ⊢;exact NiceT.mono (Ea _ _ _ _ _ _ f args _ _ _ (λi hi=>zad hi)) h λr b n w _=>H r b n w
theorem aEL (hg:GPk g) (J:MPk d gm) {k:MCtr} (h: ∀(bl:zdM) (nx:Nat) (args:zdK) (C:RC),k bl nx args=some C->C.pre=true->
 ∃(src:zdU) (H:zdV) (args0:zdK) (ann:zdW) (n:Nat),yw bl (rnF src [] nx) src H/\Kr src H/\Far src H/\SV.rns (rnF src [] nx) args0=some args/\
  ayw d g gm ann n F args0 H (KB C src H nx)): ∀B:Base,GlobPB d B->VU prog B F k:=λB hB=>c8 (λB' N=>aCW hg J (hB.sub N)) (by unfold ayw at h;exact h)
def ay8 (e:Nat):zdK:= [.val (.string (eo e)), .val (.int .i64 (gi e)), .val (.int .i64 (lj e))]
def Kf (g:zdN):Nat->List (zdK)
 |0=> []
 |n+1=>Kf g n++ [g n]
def KOp (Q:Nat->List (zdK)->Prop):Aft:=λr bl _ _=>match r with
 | .ok (.slc m 0 10)=>(match bl m with
   |some B=>(match B.kd with
    | .own=>bif Nat.beq B.n 10&&(Nat.beq B.sz 3&&B.nn) then Q m (Kf B.get 10) else False
    |_=>False)
   |none=>False)
 |_=>False
theorem aCe (d:Ad3) (Q:Nat->List (zdK)->Prop):ayw d [] [] (λ_ _=>none) 3 52 [] [] (KOp Q)=Q 11 (Kf ay8 10):=by kernel_rfl
theorem azx {g h:zdN}: ∀{n:Nat},Kf g n=Kf h n-> ∀e,e<n->g e=h e
 |n+1,N,e,he=>by
  simp only[Kf] at N;have J: ∀(g:zdN) (n:Nat),(Kf g n).length=n:=λg n=>by
   induction n with
   |zero=>rfl
   |succ n Y=>simp[Kf,Y]
  obtain⟨h1,h2⟩:=List.append_inj N (by rw[J,J]);by_cases H:e=n
  ·subst H;simpa using h2
  ·exact azx h1 e (by omega)
def aDS (nx:Nat):RC:={X:=Unit,pre:=true,spec:=λ_=>True,out:=λ_=> .slc nx 0 10,nw:=λ_=> [{n:=10,sz:=3,get:=ay8,kd:= .own}],ex:=λ_=>⟨(),trivial⟩}
def aDT:MCtr:=λ_ nx args=>match args with
 | []=>some (aDS nx)
 |_=>none
theorem aFi {nx:Nat} {r:Res} {bl:zdM} {w:zdI} (h:KOp (λm l=>m=11/\l=Kf ay8 10) r bl n w):KB (aDS nx) [] [] nx r bl n w:=by
 unfold KOp at h;split at h
 ·rename_i m;split at h
  ·rename_i B hB;split at h
   ·rename_i hk;cases H:(Nat.beq B.n 10&&(Nat.beq B.sz 3&&B.nn)) with
    |false=>rw[H] at h;exact h.elim
    |true=>
     rw[H,zds] at h;obtain⟨rfl,hg⟩:=h;simp only[za2] at H;obtain⟨J,N,b3⟩:=H;have J:=zab J;have N:=zab N;have Y:dt [] [some 11] nx (nx+0)=some (some 11):=jA 0;refine⟨(),trivial, [some 11],⟨_,rfl, ?_⟩,by decide,⟨⟨zaA _, ?_⟩,trivial⟩,trivial⟩
     ·show SV.rn (dt [] [some 11] nx) (.slc nx 0 10)=_;rw[zaY] at Y;simp only[SV.rn,Y]
     ·rw[hB];refine⟨by simp,λ_=> .inl rfl, .inr ⟨hk.symm,N.symm,λ_=>b3,by rw[J];exact za0 _,λe he=> ?_⟩⟩;rw[azx hg e he];rfl
   ·exact h.elim
  ·exact h.elim
 ·exact h.elim
theorem aBw (d:Ad3) (nx:Nat):ayw d [] [] (λ_ _=>none) 3 52 [] [] (KB (aDS nx) [] [] nx):=by
 have h:ayw d [] [] (λ_ _=>none) 3 52 [] [] (KOp λm l=>m=11/\l=Kf ay8 10):=by
  rw[aCe];exact⟨rfl,rfl⟩
 refine azw (K:=KOp λm l=>m=11/\l=Kf ay8 10) h ?_;intro r b n w hq;exact aFi hq
theorem aCX : ∀B:Base,GlobPB d B->VU prog B 52 aDT:=aEL (GPk.of (GEk.of GOk.nil)) (MPk.of MEk.nil) λbl nx args C H hp=>by
 unfold aDT at H;split at H
 ·simp only[za1] at H;subst H;exact⟨[], [], [],λ_ _=>none,3,trivial,bH (λC J=>by cases J), .inl (λC J=>by cases J),rfl,aBw d nx⟩
 ·cases H
def aDr:TV->zdH
 | .v (.val (.string s))=>s
 |_=>⟨#[]⟩
def ay9 (p:zdH):Nat->Int
 |0=>0
 |k+1=>(((ay9 p k*256).toNat|||(F6 p k).toNat:Nat):Int)
def nc (p:zdH) (z:Int×Int):Prop:=0<=z.1/\z.1<=p.size/\z.2=ay9 p z.1.toNat
def aDs:zdW:=λf k=>bif Nat.beq f 117&&Nat.beq k 2 then some (λA=>{X:=Int×Int,inv:=nc (aDr (A.tm 9)),tm:=λx=> [(12, .val (.int .i64 x.1)),(4, .val (.int .i64 x.2))],mu:=λx=>(((aDr (A.tm 9)).size:Int) - x.1).toNat,keep:= [10,11]}) else none
def azT (d:Ad3):zdX:= [(52,aDT),(53,ai3 d.p),(53+1073741824,λ_ _ _=>none),(194,ai3 d.f),(194+1073741824,λ_ _ _=>none)]
def aEM (p:zdH) (q:Nat) (i v:Int) (z:Int×Int):Prop:=(TV.v (cI.enc i)=TV.v (cI.enc z.1)/\TV.v (cI.enc v)=TV.v (cI.enc z.2)/\TV.v (.slc q 0 p.size)=TV.v (.slc q 0 p.size)/\TV.v (cI.enc (p.size:Int))=TV.v (cI.enc (p.size:Int))/\True)/\(True/\(True/\True))
def aBx (p:zdH) (q:Nat) (K:Int->Prop):Prop:= ∃J:Int×Int,nc p J/\(aEM p q 0 0 J/\ ∀z:Int×Int,nc p z->ag (decide (z.1<(p.size:Int)))
 (ah (decide (0<=z.1)&&decide (z.1<(p.size:Int))) (ah (decide (0+z.1.toNat<p.size)) (ah (decide ((0:Int)<=8)&&inR .i64 (z.2*256)) (ah (inR .i64 (F6 p (0+z.1.toNat)))
   (ah (decide (0<=z.2*256)&&decide (0<=F6 p (0+z.1.toNat))&&(inR .i64 (z.2*256)&&inR .i64 (F6 p (0+z.1.toNat)))) (ah (inR .i64 (z.1+1))
     (∃H:Int×Int,nc p H/\(((p.size:Int) - H.1).toNat<((p.size:Int) - z.1).toNat/\aEM p q (z.1+1) ((((z.2*256).toNat|||(F6 p (0+z.1.toNat)).toNat:Nat):Int)) H))))))))
 (K z.2))
def aza (s:zdH) (n:Int) (K:ByteArray->ByteArray->Prop) (E:Prop):Prop:=ag (decide (n<=(s.size:Int))) (Unit->True->ah (decide (0<=n)&&decide (n<=(s.size:Int))) (ah (decide (0<=n)&&decide (n<=(s.size:Int))) (K (s.extract 0 n.toNat) (s.extract n.toNat s.size)))) (Unit->True->E)
theorem aAl (p:zdH) (i:Nat):0<=F6 p i/\F6 p i<=255:=by
 unfold F6;split
 ·rename_i b _;have:=b.toNat_lt;omega
 ·omega
theorem aCY (p:zdH):0<=ay9 p 0/\ay9 p 0<=255/\0<=ay9 p 1/\ay9 p 1<=255:=by
 obtain⟨h1,h2⟩:=aAl p 0;have e:ay9 p 1=((F6 p 0).toNat:Int):=by
  show ((((0:Int)*256).toNat|||(F6 p 0).toNat:Nat):Int)=_;simp
 rw[e];refine⟨zat _, ?_,by omega,by omega⟩;show (0:Int)<=255;decide
theorem azU {p:zdH} {q:Nat} {K:Int->Prop} (hp:p.size<=2) (k:K (ay9 p p.size)):aBx p q K:=by
 refine⟨(0,0),⟨zat _,Int.natCast_nonneg _,rfl⟩,⟨⟨rfl,rfl,rfl,rfl,trivial⟩,trivial,trivial,trivial⟩, ?_⟩;rintro⟨i,v⟩ ⟨h0,h1,h2⟩;dsimp only at h0 h1 h2 ⊢;refine ce (λH=> ?_) λH=> ?_
 ·have H:=zdv H;have hv:0<=v/\v<=255:=by
   obtain⟨a,b,c,d⟩:=aCY p;have:i.toNat=0\/i.toNat=1:=by omega
   rcases this with h|h<;>rw[h2,h]<;>exact⟨by assumption,by assumption⟩
  obtain⟨b0,N⟩:=aAl p (0+i.toNat);have inr: ∀{x:Int},0<=x->x<=1000000->inR .i64 x=true:=λY H=>Wl.2 ⟨by show (-9223372036854775808:Int)<=_;omega,by show _<=(9223372036854775807:Int);omega⟩;have J:=inr (x:=v*256) (by omega) (by omega);have e2:=inr b0 (by omega);refine ac (by rw[zdq h0,zdq H];rfl) (ac (zdq (by omega)) (ac (by rw[J];rfl) (ac e2 (ac (by rw[J,e2,zdq b0,zdq (show 0<=v*256 by omega)];rfl) (ac (inr (by omega) (by omega)) ?_)))));refine⟨(i+1,(((v*256).toNat|||(F6 p (0+i.toNat)).toNat:Nat):Int)),⟨by show 0<=i+1;omega,by show i+1<=_;omega, ?_⟩,by show ((p.size:Int) - (i+1)).toNat<_;omega,⟨rfl,rfl,rfl,rfl,trivial⟩,trivial,trivial,trivial⟩;show _=ay9 p (i+1).toNat;rw[show (i+1).toNat=i.toNat+1 by omega,za7,h2];rfl
 ·have H:=zdw H;have:i=(p.size:Int):=by omega
  subst this;rw[h2];exact k
abbrev InX:=Int×Int×(ByteArray×ByteArray)
def aDt:SV->Option InX
 | .agg [.val (.int .i64 a), .val (.int .i64 b), .val (.string c), .val (.string d)]=>some (a,b,c,d)
 |_=>none
def cIn:Cod InX where
 dec:=aDt
 enc x:= .agg [.val (.int .i64 x.1), .val (.int .i64 x.2.1), .val (.string x.2.2.1), .val (.string x.2.2.2)]
 ok s a h:=by
  unfold aDt at h;split at h
  ·simp at h;rw[<-h]
  ·cases h
 ids _:=by simp[SV.ids,SV.idss]
def isF (x:InX):Bool:=bif x.1==0 then rV x.2.2 else bif x.1==1 then(bif decide (x.2.1≥0) then decide (x.2.1<6) else false) else bif x.1==2 then(bif decide (x.2.1≥0) then decide (x.2.1<16) else false) else bif decide (x.1>0) then decide (x.1<10) else false
def isT (x:InX) (Q:zdS):Prop:=ag (x.1==0) (ah (uzR x.2.2) (Q (cB.enc (rV x.2.2)))) (ag (x.1==1) (Q (cB.enc (bif decide (x.2.1≥0) then decide (x.2.1<6) else false))) (ag (x.1==2) (Q (cB.enc (bif decide (x.2.1≥0) then decide (x.2.1<16) else false)))
 (ah (decide (x.1>0)==true) (Unit->True->Q (cB.enc (bif decide (x.1>0) then decide (x.1<10) else false))))))
theorem aEN (d:Ad3) (op n:Int) (v:RS) (Q:zdS):my d qH (azT d) (λ_ _=>none) 4 120 [cIn.enc (op,n,v)] Q=isT (op,n,v) Q:=by kernel_rfl
theorem aCf {x:InX} {Q:zdS} (h0:0<=x.1) (H:uzR x.2.2=true) (k:Q (cB.enc (isF x))):isT x Q:=by
 unfold isF at k;refine ce (λh=>ac H ?_) λh=>ce (λh1=> ?_) λh1=>ce (λh2=> ?_) λh2=>ac ?_ λ_ _=> ?_
 ·rw[h] at k;exact k
 ·rw[h,h1] at k;exact k
 ·rw[h,h1,h2] at k;exact k
 ·have:x.1≠0:=by simpa using h
  have:x.1>0:=by omega
  simp[this]
 ·rw[h,h1,h2] at k;exact k
theorem azy {B:Base} {F:FuncId}:VU Tryz.prog B F (λ_ _ _=>none):=λbl β w nx args C _ _ _ _ e=>by cases e
theorem aDU:GPk qH:=GPk.of (GEk.of Wr)
variable {d:Ad3}
theorem KE:MPk d (azT d):=(((((MPk.of MEk.nil).cons λB hB=>azy).cons λB hB=>aB9 hB).cons λB hB=>azy).cons λB hB=>aCa hB).cons aCX
abbrev kIs:Ctr:=k1 cIn cB (λx=>decide (0<=x.1)&&uzR x.2.2) isF
theorem aDV {W:World} (H:GlobP d W):CtrOK Tryz.prog W 120 kIs:=dD λx h=>by
 rw[za2,zdu] at h;refine gn aDU KE H (ann:=λ_ _=>none) (n:=4) m8 (cB.ids _) ?_;rw[show x=(x.1,x.2.1,x.2.2) from rfl,aEN];exact aCf (Q:=λr=>r=_) h.1 h.2 rfl
def ayx (s:zdH):Int×Int:=bif vS s&&abR s then(ab0 s,0) else(0,30)
def kAt (b:Bool):MCtr:=λ_ _ args=>match args with
 | [.val (.string s)]=>(match b with
   |true=>some {X:=Unit,pre:=decide (s.size<=1000000)&&abR s,spec:=λ_=>True,out:=λ_=> .tup [.val (.int .i64 (ab0 s)), .val .nilIface],ex:=λ_=>⟨(),trivial⟩}
   |false=>some {X:=TypeId×Value,pre:=decide (s.size<=1000000)&& !abR s,spec:=λ_=>True,out:=λx=> .tup [.val (.int .i64 (ab0 s)), .val (.iface x.1 x.2)],ex:=λ_=>⟨(0, .nilIface),trivial⟩})
 |_=>none
theorem aDW {B:Base} (hg:GlobB B) (b:Bool):VU prog B 220 (kAt b):=by
 intro bl β w nx args C N hit a0 Y J hp;unfold kAt at J;split at J
 ·rename_i s;cases b with
  |true=>
   simp only[za1] at J;subst J;simp only[za2] at hp;refine(agA hg bl β w nx _ _ N hit a0 Y rfl hp.1).mono ?_;rintro e w' ⟨x,H,h⟩;have H:abJ s x:=H;unfold abJ at H;rw[hp.2] at H;subst H;exact⟨(),trivial,h⟩
  |false=>
   simp only[za1] at J;subst J;simp only[za2,zap] at hp;refine(agA hg bl β w nx _ _ N hit a0 Y rfl hp.1).mono ?_;rintro e w' ⟨x,H,h⟩;have H:abJ s x:=H;unfold abJ at H;rw[hp.2] at H;obtain⟨t,p,rfl⟩:=H;exact⟨(t,p),trivial,h⟩
 ·cases J
def gTo:List (FuncId×Ctr):= [(221,k1 cS cB uz vS)]
theorem aDu:GPk gTo:=⟨λd W H p hp=>by
 simp only[gTo,zaj] at hp;subst hp
 exact⟨dD λs h β w J=>(qk s w (zdv h)).mono λe w' ⟨h1,h2⟩=>⟨h1,h2⟩,call221⟩⟩
def aDX (b:Bool):zdX:= [(220,kAt b)]
variable {d:Ad3}
theorem aA9 (b:Bool):MPk d (aDX b):=(MPk.of MEk.nil).cons λB hB=>aDW hB.gE.gU b
theorem aDY (d:Ad3) (s:zdH) (K:zdS):my d gTo (aDX true) (λ_ _=>none) 6 128 [cS.enc s] K=ah (decide (s.size<=1000000)&&abR s) (Unit->True->ah (uz s) (ag (bif !vS s then true else !true) (K ((cP cI cI).enc (0,30))) (K ((cP cI cI).enc (ab0 s,0))))):=by kernel_rfl
theorem aDZ (d:Ad3) (s:zdH) (K:zdS):my d gTo (aDX false) (λ_ _=>none) 6 128 [cS.enc s] K=ah (decide (s.size<=1000000)&& !abR s) (TypeId×Value->True->ah (uz s) (ag (bif !vS s then true else true) (K ((cP cI cI).enc (0,30))) (K ((cP cI cI).enc (ab0 s,0))))):=by kernel_rfl
theorem aD0 {W:World} (J:GlobP d W):CtrOK prog W 128 (k1 cS (cP cI cI) (λs=>decide (s.size<=1000000)) ayx):=dD λs h=>by
 have N:uz s=true:=zdq (zac (zdv h) (by decide));cases H:abR s with
 |true=>
  refine gn aDu (aA9 true) J (ann:=λ_ _=>none) (n:=6) m8 ((cP cI cI).ids _) ?_;rw[aDY,h,H,N];unfold ayx;rw[H];refine λ_ _=> ?_;cases Y:vS s with
  |true=>exact rfl
  |false=>exact rfl
 |false=>
  refine gn aDu (aA9 false) J (ann:=λ_ _=>none) (n:=6) m8 ((cP cI cI).ids _) ?_;rw[aDZ,h,H,N];unfold ayx;rw[H];refine λ_ _=> ?_;cases Y:vS s with
  |true=>exact rfl
  |false=>exact rfl
theorem azb {B:Nat}: ∀{l:List ByteArray} {e:Nat},(∀x∈l,x.size<=B)->(F7 l e).size<=B
 | [],e,_=>by
   have:F7 [] e=⟨#[]⟩:=by cases e<;>rfl
   rw[this];exact zaA _
 |a::t,0,h=>h a (by simp)
 |a::t,e+1,h=>azb (l:=t) (λx H=>h x (zan _ H))
theorem ayK (J:zdH) (H:Nat): ∀(k:Nat) (s:zdH),∀x∈Lib.splitB J H k s,x.size<=s.size
 |0,s,x,h=>by
  rw[Lib.splitB_zero,zaj] at h;rw[h];exact za0 _
 |k+1,s,x,h=>by
  rw[Lib.splitB] at h;split at h
  ·rw[zaj] at h;rw[h];exact za0 _
  ·rcases zai.1 h with h|h
   ·rw[h,ByteArray.size_extract];omega
   ·have:=ayK J H k _ x h;rw[ByteArray.size_extract] at this;omega
theorem aBy (s H:zdH):(abn s H).2.1.size<=s.size:=by
 show (Lib.cut s.data.toList H.data.toList).2.1.toArray.size<=_;have e:s.data.toList.length=s.size:=rfl;rw[zbq];unfold Lib.cut;split
 ·rw[zbR];omega
 ·exact zaA _
theorem eD (a b:zdH):(a++b).data.toList=a.data.toList++b.data.toList:=by rw[ByteArray.data_append,Array.toList_append]
theorem ayy (c:UInt8) (t:List UInt8): ∀x:List UInt8,c∉x->Lib.index (x++c::t) [c]=((x.length:Nat):Int)
 | [],_=>by simp[Lib.index,List.isPrefixOf]
 |b::x,h=>by
  have H:c≠b:=λe=>h (by simp[e]);have J:c∉x:=λe=>h (zan _ e);have hp:([c]:List UInt8).isPrefixOf (b::(x++c::t))=false:=by simp[List.isPrefixOf,H]
  rw[zaO,Lib.index,hp,ayy c t x J,za4];simp only[zbo,if_false];rw[if_neg (by rw[zdy];omega)];omega
theorem ax9 (c:UInt8): ∀x:List UInt8,c∉x->Lib.index x [c]= -1
 | [],_=>by simp[Lib.index]
 |b::x,h=>by
  have H:c≠b:=λe=>h (by simp[e]);have J:c∉x:=λe=>h (zan _ e);have hp:([c]:List UInt8).isPrefixOf (b::x)=false:=by simp[List.isPrefixOf,H]
  rw[Lib.index,hp,ax9 c x J];simp
theorem ayL (c:UInt8): ∀H:List (List UInt8),H≠ []->(∀x∈H,c∉x)->Lib.splitK [c] 0 (Lib.count (Lib.join H [c]) [c]) (Lib.join H [c])=H
 | [],h,_=>absurd rfl h
 | [x],_,h=>by
   rw[aHe,Lib.count_miss (ax9 c x (h x (by simp))),Lib.splitK]
 |x::y::r,_,h=>by
  have Y:=h x (by simp);have N:=λz hz=>h z (zan _ hz);have e:Lib.join (x::y::r) [c]=x++c::Lib.join (y::r) [c]:=by rw[aFt,za5];rfl
  have hi:=ayy c (Lib.join (y::r) [c]) x Y;have J:(x++c::Lib.join (y::r) [c]).drop (x.length+([c]:List UInt8).length)=Lib.join (y::r) [c]:=by
   rw[<-List.drop_drop,List.drop_left];rfl
  rw[e,Lib.count_hit (by simp) hi,J,zb3,Lib.splitK,hi,if_neg (by rw[zdy];omega),zd3,J,ayL c (y::r) (by simp) N,zaY,List.take_left]
theorem ayj: ∀{a b:List ByteArray},a.map (·.data.toList)=b.map (·.data.toList)->a=b
 | [], [],_=>rfl
 | [],_::_,h=>by simp at h
 |_::_, [],h=>by simp at h
 |x::a,y::b,h=>by
  simp only[zaK,zcb] at h;rw[gT h.1,ayj h.2]
theorem aCZ (c:UInt8) {x t:List UInt8} (h:c∉x):Lib.cut (x++c::t) [c]=(x,t,true):=by
 unfold Lib.cut;rw[ayy c t x h,if_pos (by omega),zd3,List.take_left,<-List.drop_drop,List.drop_left];rfl
theorem aCg (c:UInt8) {x:List UInt8} (h:c∉x):Lib.cut x [c]=(x, [],false):=by
 unfold Lib.cut;rw[ax9 c x h];rfl
def aFq (c:UInt8):List UInt8->List (List UInt8)
 | []=> [[]]
 |b::s=>if b=c then []::aFq c s else((b::(aFq c s).headD [])::(aFq c s).tail)
theorem aBa (c:UInt8): ∀s,aFq c s≠ []
 | []=>by simp[aFq]
 |b::s=>by unfold aFq;split<;>simp
theorem KO (c:UInt8) (s:List UInt8):aFq c s=(aFq c s).headD []::(aFq c s).tail:=by
 cases h:aFq c s with
 |nil=>exact absurd h (aBa c s)
 |cons x r=>rfl
theorem aFw (c:UInt8): ∀s,∀x∈aFq c s,c∉x
 | [],x,h=>by
   simp only[aFq,zaj] at h;subst h;simp
 |b::s,x,h=>by
  unfold aFq at h;split at h
  ·rcases zai.1 h with rfl|h
   ·simp
   ·exact aFw c s x h
  ·rename_i J;rcases zai.1 h with rfl|h
   ·intro H;rcases zai.1 H with e|H
    ·exact J e.symm
    ·refine aFw c s _ ?_ H;rw[KO c s];exact zbG
   ·refine aFw c s _ ?_;rw[KO c s];exact zan _ h
theorem ayz (c:UInt8): ∀s,Lib.join (aFq c s) [c]=s
 | []=>by simp[aFq,aHe]
 |b::s=>by
  have H:=ayz c s;rw[KO c s] at H;unfold aFq;split
  ·rename_i N;rw[KO c s,aFt,H,N];rfl
  ·cases J:(aFq c s).tail with
   |nil=>rw[J] at H;rw[aHe] at H ⊢;rw[H]
   |cons y r=>rw[J] at H;rw[aFt] at H ⊢;rw[zaO,zaO,H]
theorem ayM (c:UInt8) (s:zdH):(abI s ⟨#[c]⟩).map (·.data.toList)=aFq c s.data.toList:=by
 unfold abI;rw[Lib.splitB_data];show Lib.splitK [c] 0 (Lib.count s.data.toList [c]) s.data.toList=_;have h:=ayL c (aFq c s.data.toList) (aBa _ _) (aFw c _);rw[ayz] at h;exact h
theorem azz (c:UInt8): ∀(x s:List UInt8),c∉x->aFq c (x++c::s)=x::aFq c s
 | [],s,_=>by simp[aFq]
 |b::x,s,h=>by
  have H:b≠c:=λe=>h (by simp[e]);have J:=azz c x s λe=>h (zan _ e);rw[zaO,aFq,if_neg H,J];rfl
def wE (x:InX) (r:List UInt8):Bool:=isF x&&(!(x.1==9)||r.isEmpty)
def vB (x:InX) (r:List UInt8):Option (InX×List UInt8):=bif wE x r then some (x,r) else none
def aAS (n:Nat) (r:List UInt8):Option (InX×List UInt8):=bif decide (n<=r.length)&&((DR ⟨(r.take n).toArray⟩).2==0) then vB (0,0,(DR ⟨(r.take n).toArray⟩).1) (r.drop n) else none
def aBz:List UInt8->Option (InX×List UInt8)
 |a::b::r=>aAS (a.toNat*256+b.toNat) r
 |_=>none
def aCi (op:Nat):List UInt8->Option (InX×List UInt8)
 | []=>none
 |n::r=>vB ((op:Int),(n.toNat:Int),noR) r
def vh (op:Nat) (r:List UInt8):Option (InX×List UInt8):=bif op==0 then aBz r else bif op==1||op==2 then aCi op r else vB ((op:Int),0,noR) r
def vC:List UInt8->Option (InX×List UInt8)
 | []=>none
 |b::r=>vh b.toNat r
structure OkI (x:InX):Prop where
 is:isF x=true
 lo:0<=x.1
 hi:x.1<10
 nz:x.1=0->x.2.1=0
 vz:x.1≠0->x.2.2=noR
 nz3:3<=x.1->x.2.1=0
variable {x:InX}
theorem OkI.v (h:OkI x) (e:x.1=0):rV x.2.2=true:=by
 have:=h.is;unfold isF at this;rw[e] at this;exact this
theorem OkI.nu (h:OkI x) (e:x.1=1\/x.1=2):0<=x.2.1/\x.2.1<16:=by
 have:=h.is;unfold isF at this;rcases e with e|e
 ·rw[e] at this;simp at this;omega
 ·rw[e] at this;simp at this;omega
def cn (x:InX):List UInt8:=bif x.1==0 then 0::UInt8.ofNat ((gk x.2.2).size / 256)::UInt8.ofNat (gk x.2.2).size::(gk x.2.2).data.toList else bif x.1==1||x.1==2 then [UInt8.ofNat x.1.toNat,UInt8.ofNat x.2.1.toNat] else [UInt8.ofNat x.1.toNat]
theorem pr (x:InX):0<(cn x).length:=by
 unfold cn;cases x.1==0 with
 |true=>simp
 |false=>cases (x.1==1||x.1==2)<;>simp
variable {y:InX} {r:List UInt8}
theorem ayA {r':List UInt8} (h:vB x r=some (y,r')):y=x/\r'=r/\isF x=true/\(x.1=9->r= []):=by
 unfold vB at h;cases H:wE x r with
 |false=>rw[H] at h;cases h
 |true=>
  rw[H,zds,za1,zag] at h;unfold wE at H;rw[za2,zav] at H;refine⟨h.1.symm,h.2.symm,H.1,λe=> ?_⟩;rcases H.2 with h2|h2
  ·rw[e] at h2;cases h2
  ·exact List.isEmpty_iff.1 h2
theorem ayk (h:isF x=true) (h9:x.1=9->r= []):vB x r=some (x,r):=by
 unfold vB wE;rw[h];cases e:x.1==9 with
 |false=>rfl
 |true=>rw[h9 (by simpa using e)];rfl
theorem aDv {b:UInt8}:UInt8.ofNat b.toNat=b:=by simp
theorem pw {s:List UInt8} (h:vC s=some (x,r)):OkI x/\s=cn x++r/\(x.1=9->r= []):=by
 cases s with
 |nil=>cases h
 |cons b t=>
  have h:vh b.toNat t=some (x,r):=h;unfold vh at h;cases h0:b.toNat==0 with
  |true=>
   rw[h0,zds] at h;have h0:b.toNat=0:=by simpa using h0
   have hb:b=0:=by rw[<-aDv (b:=b),h0];rfl
   match t,h with
   |a::c::u,h=>
    simp only[aBz] at h;unfold aAS at h;cases N:(decide (a.toNat*256+c.toNat<=u.length)&&((DR ⟨(u.take (a.toNat*256+c.toNat)).toArray⟩).2==0)) with
    |false=>rw[N] at h;cases h
    |true=>
     rw[N,zds] at h;rw[za2,zdu,zdy] at N;obtain⟨rfl,rfl,H,h9⟩:=ayA h;obtain⟨e1,e2,e3⟩:=azo N.2;have ha:=a.toNat_lt;have a0:=c.toNat_lt;generalize hn:a.toNat*256+c.toNat=n at*
     have es:(gk (DR ⟨(u.take n).toArray⟩).1)=⟨(u.take n).toArray⟩:=by rw[e1];exact e3
     have ez:(gk (DR ⟨(u.take n).toArray⟩).1).size=n:=by
      rw[es,<-bj];simp[zaE];omega
     refine⟨⟨H,zat _,(by show (0:Int)<10;decide),λ_=>rfl,λe=>absurd rfl e,λe=>absurd (show (3:Int)<=0 from e) (by decide)⟩, ?_,λe=>by cases e⟩;show b::a::c::u=0::UInt8.ofNat ((gk (DR ⟨(u.take n).toArray⟩).1).size / 256)::UInt8.ofNat (gk (DR ⟨(u.take n).toArray⟩).1).size::((gk (DR ⟨(u.take n).toArray⟩).1).data.toList++u.drop n);rw[ez,es,hb];have e4:n / 256=a.toNat:=by omega
     have e5:UInt8.ofNat n=c:=by
      apply UInt8.toNat.inj;rw[UInt8.toNat_ofNat'];omega
     rw[e4,e5,aDv];simp
  |false=>
   rw[h0,zdr] at h;have h0:b.toNat≠0:=by simpa using h0
   cases h1:(b.toNat==1||b.toNat==2) with
   |true=>
    rw[h1,zds] at h;have h1:b.toNat=1\/b.toNat=2:=by simpa using h1
    match t,h with
    |n::u,h=>
     simp only[aCi] at h;obtain⟨rfl,rfl,H,h9⟩:=ayA h;refine⟨⟨H,Int.natCast_nonneg _,by show ((b.toNat:Nat):Int)<10;omega,λe=>absurd e (by show ((b.toNat:Nat):Int)≠0;omega),λ_=>rfl,λe=>absurd e (by show ¬3<=((b.toNat:Nat):Int);omega)⟩, ?_,h9⟩;unfold cn;have c0:(((b.toNat:Nat):Int)==0)=false:=by rw[zdx];omega
     have J:(((b.toNat:Nat):Int)==1||((b.toNat:Nat):Int)==2)=true:=by
      rcases h1 with h1|h1<;>rw[h1]<;>rfl
     show b::n::r=(bif ((b.toNat:Nat):Int)==0 then _ else bif ((b.toNat:Nat):Int)==1||((b.toNat:Nat):Int)==2 then _ else _)++r;rw[c0,J];simp
   |false=>
    rw[h1,zdr] at h;have h1:b.toNat≠1/\b.toNat≠2:=by simpa using h1
    obtain⟨rfl,rfl,H,h9⟩:=ayA h;have Y:((b.toNat:Nat):Int)<10:=by
     unfold isF at H;have c0:(((b.toNat:Nat):Int)==0)=false:=by rw[zdx];omega
     have J:(((b.toNat:Nat):Int)==1)=false:=by rw[zdx];omega
     have c2:(((b.toNat:Nat):Int)==2)=false:=by rw[zdx];omega
     simp only[c0,J,c2,zdr] at H;have c3:decide (((b.toNat:Nat):Int)>0)=true:=zdq (by omega);rw[c3,zds,zdu] at H;exact H
    refine⟨⟨H,Int.natCast_nonneg _,Y,λe=>absurd e (by show ((b.toNat:Nat):Int)≠0;omega),λ_=>rfl,λ_=>rfl⟩, ?_,h9⟩;unfold cn;have c0:(((b.toNat:Nat):Int)==0)=false:=by rw[zdx];omega
    have J:(((b.toNat:Nat):Int)==1||((b.toNat:Nat):Int)==2)=false:=by
     rw[zbs,zdx,zdx];omega
    show b::r=(bif ((b.toNat:Nat):Int)==0 then _ else bif ((b.toNat:Nat):Int)==1||((b.toNat:Nat):Int)==2 then _ else [UInt8.ofNat ((b.toNat:Nat):Int).toNat])++r;rw[c0,J];simp
def K9:List InX->Prop
 | []=>False
 |x::l=>OkI x/\(x.1=9↔l= [])/\(l≠ []->K9 l)
def iI:Nat->List UInt8->Option (List InX)
 |0,_=>none
 |k+1,s=>match vC s with
  |none=>none
  |some (x,r)=>bif x.1==9 then some [x] else(iI k r).map (x:: ·)
theorem azA: ∀{k:Nat} {s:List UInt8} {l:List InX},iI k s=some l->K9 l/\s=l.flatMap cn
 |0,s,l,h=>by cases h
 |k+1,s,l,h=>by
  unfold iI at h;split at h
  ·cases h
  ·rename_i x r hx;obtain⟨J,N,h9⟩:=pw hx;cases H:x.1==9 with
   |true=>
    rw[H,zds,za1] at h;have H:x.1=9:=by simpa using H
    subst h;refine⟨⟨J,⟨λ_=>rfl,λ_=>H⟩,λe=>absurd rfl e⟩, ?_⟩;rw[N,h9 H];simp
   |false=>
    rw[H,zdr] at h;have H:x.1≠9:=by simpa using H
    cases hi:iI k r with
    |none=>rw[hi] at h;cases h
    |some l'=>
     rw[hi] at h;simp only[zb0,za1] at h;subst h;obtain⟨h1,h2⟩:=azA hi;have Y:l'≠ []:=λe=>by rw[e] at h1;exact h1
     exact⟨⟨J,⟨λe=>absurd e H,λe=>absurd e Y⟩,λ_=>h1⟩,by rw[N,h2];simp⟩
def un (s:zdH):Option (List InX):=bif decide (s.size<=4096) then iI s.size s.data.toList else none
variable {s:zdH}
theorem ayB {l:List InX} (h:un s=some l):K9 l/\s.data.toList=l.flatMap cn/\s.size<=4096:=by
 unfold un at h;cases H:decide (s.size<=4096) with
 |false=>rw[H] at h;cases h
 |true=>
  rw[H] at h;obtain⟨h1,h2⟩:=azA h;exact⟨h1,h2,zdv H⟩
def aFz {S:Type} (f:S->InX->Option S):Nat->List UInt8->S->Option S
 |0,_,_=>none
 |k+1,s,z=>match vC s with
  |none=>none
  |some (x,r)=>match f z x with
   |none=>none
   |some H=>bif x.1==9 then some H else aFz f k r H
theorem aAm {S:Type} {f:S->InX->Option S}: ∀{k:Nat} {s:List UInt8} {z:S},aFz f k s z=(iI k s).bind λl=>l.foldlM f z
 |0,s,z=>rfl
 |k+1,s,z=>by
  unfold aFz iI;cases vC s with
  |none=>rfl
  |some p=>
   obtain⟨x,r⟩:=p
   show (match f z x with
    |none=>none
    |some J=>bif x.1==9 then some J else aFz f k r J)=(bif x.1==9 then some [x] else(iI k r).map (x:: ·)).bind λl=>l.foldlM f z
   cases H:f z x with
   |none=>
    cases x.1==9 with
    |true=>simp[H]
    |false=>
     cases iI k r with
     |none=>rfl
     |some l=>simp[H]
   |some J=>
    cases x.1==9 with
    |true=>simp[H]
    |false=>
     show aFz f k r J=_;rw[aAm];cases iI k r with
     |none=>rfl
     |some l=>simp[H]
def gy (x:InX):List UInt8:=(eo x.1.toNat).data.toList++bif x.1==0 then 32::(gk x.2.2).data.toList else bif x.1==1||x.1==2 then 32::(ofI x.2.1).data.toList else []
def eh (x:InX):zdH:=⟨(gy x).toArray⟩
def cu (x:InX):zdH:=⟨(cn x).toArray⟩
def gB (l:List InX):List UInt8:=l.flatMap λx=>gy x++ [10]
def ayl (w:zdH):Int:=bif seq (eo 0) w then 0 else bif seq (eo 1) w then 1 else bif seq (eo 2) w then 2 else bif seq (eo 3) w then 3 else bif seq (eo 4) w then 4 else bif seq (eo 5) w then 5 else bif seq (eo 6) w then 6 else bif seq (eo 7) w then 7 else bif seq (eo 8) w then 8 else bif seq (eo 9) w then 9 else -1
def rdE (t:zdH) (x:InX):Option InX:=bif decide (0<=x.1)&&(isF x&&seq (eh x) t) then some x else none
def rdO (t r:zdH) (op:Int):Option InX:=bif op==0 then(bif (DR r).2==0 then rdE t (0,0,(DR r).1) else none)
 else bif op==1||op==2 then(bif (ayx r).2==0 then rdE t (op,(ayx r).1,noR) else none) else rdE t (op,0,noR)
def rdF (t:zdH):Option InX:=rdO t (abn t ⟨#[32]⟩).2.1 (ayl (abn t ⟨#[32]⟩).1)
variable {t:zdH}
theorem azd (h:rdE t x=some y):y=x/\0<=x.1/\isF x=true/\eh x=t:=by
 unfold rdE at h;cases H:(decide (0<=x.1)&&(isF x&&seq (eh x) t)) with
 |false=>rw[H] at h;cases h
 |true=>
  rw[H,zds,za1] at h;simp only[za2,zdu] at H;refine⟨h.symm,H.1,H.2.1, ?_⟩;have:=H.2.2;rw[F3,zdy,cL,cL] at this;exact gT this
theorem aAT (h:isF x=true):x.1<10:=by
 unfold isF at h;by_cases J:x.1=0
 ·omega
 by_cases N:x.1=1
 ·omega
 by_cases e2:x.1=2
 ·omega
 rw[beq_eq_false_iff_ne.2 J,beq_eq_false_iff_ne.2 N,beq_eq_false_iff_ne.2 e2] at h;simp only[zdr] at h;cases H:decide (x.1>0) with
 |false=>rw[H] at h;cases h
 |true=>rw[H,zds,zdu] at h;exact h
theorem aAn (h:rdF t=some x):OkI x/\eh x=t:=by
 unfold rdF at h;generalize (abn t ⟨#[32]⟩).2.1=r at h;generalize ayl (abn t ⟨#[32]⟩).1=op at h;unfold rdO at h;cases h0:op==0 with
 |true=>
  rw[h0,zds] at h;cases h1:(DR r).2==0 with
  |false=>rw[h1] at h;cases h
  |true=>
   rw[h1,zds] at h;obtain⟨rfl,J,H,e⟩:=azd h;exact⟨⟨H,J,(by show (0:Int)<10;decide),λ_=>rfl,λe=>absurd rfl e,λe=>absurd (show (3:Int)<=0 from e) (by decide)⟩,e⟩
 |false=>
  rw[h0,zdr] at h;have h0:op≠0:=by simpa using h0
  cases h1:(op==1||op==2) with
  |true=>
   rw[h1,zds] at h;have h1:op=1\/op=2:=by simpa using h1
   cases h2:(ayx r).2==0 with
   |false=>rw[h2] at h;cases h
   |true=>
    rw[h2,zds] at h;obtain⟨rfl,J,H,e⟩:=azd h;exact⟨⟨H,J,aAT H,λe=>absurd e h0,λ_=>rfl,λe=>by dsimp only at e;omega⟩,e⟩
  |false=>
   rw[h1,zdr] at h;obtain⟨rfl,J,H,e⟩:=azd h;exact⟨⟨H,J,aAT H,λe=>absurd e h0,λ_=>rfl,λ_=>rfl⟩,e⟩
theorem eI (l:List UInt8):(⟨l.toArray⟩:zdH).data.toList=l:=by simp
theorem aD1: ∀i:Fin 10,ayl (eo i)=(i:Int):=by decide+kernel
theorem aC0: ∀i:Fin 10,(32:UInt8)∉(eo i).data.toList/\(10:UInt8)∉(eo i).data.toList:=by decide+kernel
theorem aBc {n:Nat} (h:n<10):ayl (eo n)=(n:Int):=aD1 ⟨n,h⟩
theorem azC {n:Nat} (h:n<10):(32:UInt8)∉(eo n).data.toList/\(10:UInt8)∉(eo n).data.toList:=aC0 ⟨n,h⟩
variable {c:UInt8}
theorem aAo {x t:List UInt8} (h:c∉x):abn ⟨(x++c::t).toArray⟩ ⟨#[c]⟩=(⟨x.toArray⟩,⟨t.toArray⟩,true):=by
 unfold abn;rw[eI,show (⟨#[c]⟩:zdH).data.toList= [c] from rfl,aCZ c h]
theorem aBB {x:List UInt8} (h:c∉x):abn ⟨x.toArray⟩ ⟨#[c]⟩=(⟨x.toArray⟩,⟨#[]⟩,false):=by
 unfold abn;rw[eI,show (⟨#[c]⟩:zdH).data.toList= [c] from rfl,aCg c h]
variable {n:Int}
theorem aBC (h:0<=n/\n<16):ayx (ofI n)=(n,0):=by
 have: ∀i:Fin 16,ayx (ofI (i:Int))=((i:Int),0):=by decide+kernel
 have:=this ⟨n.toNat,by omega⟩;rwa[show (((⟨n.toNat,by omega⟩:Fin 16):Nat):Int)=n from zce h.1] at this
theorem aAU (h:OkI x) (e:eh x=t):rdE t x=some x:=by
 unfold rdE;have es:seq (eh x) t=true:=by rw[e,F3];simp
 rw[h.is,es,zdq h.lo];rfl
theorem aCj (h:OkI x):rdF (eh x)=some x:=by
 obtain⟨op,n,v⟩:=x;have Y:0<=op:=h.lo;have a0:op<10:=h.hi;obtain⟨f1,f2⟩:=azC (n:=op.toNat) (by omega);have hi:=aBc (n:=op.toNat) (by omega);rw[zce Y] at hi;by_cases J:op=0
 ·subst J;have f1:(32:UInt8)∉(eo 0).data.toList:=f1;have N:rV v=true:=h.v rfl;have hn:n=0:=h.nz rfl;subst hn;have el:eh (0,0,v)=⟨((eo 0).data.toList++32::(gk v).data.toList).toArray⟩:=rfl;unfold rdF;rw[el,aAo f1];show rdO _ ⟨(gk v).data.toList.toArray⟩ (ayl ⟨(eo 0).data.toList.toArray⟩)=_;rw[aaA,aaA,aBc (by decide)];unfold rdO;rw[ayd N];exact aAU h el
 ·by_cases e1:op=1\/op=2
  ·obtain⟨n0,n1⟩:=h.nu e1;have N:v=noR:=h.vz J;subst N;dsimp only at n0 n1;have c0:(op==0)=false:=by rw[zdx];exact J
   have H:(op==1||op==2)=true:=by rcases e1 with rfl|rfl<;>rfl
   have el:eh (op,n,noR)=⟨((eo op.toNat).data.toList++32::(ofI n).data.toList).toArray⟩:=by
    unfold eh gy;simp only[c0,H,zdr,zds]
   unfold rdF;rw[el,aAo f1];dsimp only;rw[aaA,aaA,hi];unfold rdO;rw[c0,H,aBC ⟨n0,n1⟩];exact aAU h el
  ·have N:v=noR:=h.vz J;have hn:n=0:=h.nz3 (by show 3<=op;omega);subst N hn;have c0:(op==0)=false:=by rw[zdx];exact J
   have H:(op==1||op==2)=false:=by rw[zbs,zdx,zdx];omega
   have el:eh (op,0,noR)=⟨((eo op.toNat).data.toList).toArray⟩:=by
    unfold eh gy;simp only[c0,H,zdr,zbf]
   unfold rdF;rw[el,aBB f1];dsimp only;rw[aaA,hi];unfold rdO;rw[c0,H];exact aAU h (by rw[el,aaA])
def vm:List ByteArray->Int->ByteArray->Bool->ByteArray×Int×Int
 | [],_,c,_=>(c,0,0)
 |t::H,i,c,e=>bif H.isEmpty&&(seq t ⟨#[]⟩&&e) then(c,0,0) else match rdF t with
  |none=>(⟨#[]⟩,i+1,110)
  |some x=>bif e||(H.isEmpty||decide (c.size+(cu x).size>4096)) then(⟨#[]⟩,i+1,110) else vm H (i+1) (c++cu x) (x.1==9)
def ic (s:zdH):ByteArray×Int×Int:=vm (abI s ⟨#[10]⟩) 0 ⟨#[]⟩ false
def eM (s:zdH):ByteArray×Int:=match un s with
 |none=>(⟨#[]⟩,110)
 |some l=>(⟨(gB l).toArray⟩,0)
theorem ayR:seq t ⟨#[]⟩=true↔t=⟨#[]⟩:=by
 rw[F3,zdy,cL,cL];exact⟨λh=>gT h,λh=>by rw[h]⟩
theorem aym: ∀{l:List InX},K9 l-> ∀x∈l,OkI x
 | [],h,_,_=>h.elim
 |y::l,h,x,H=>by
  rcases zai.1 H with rfl|H
  ·exact h.1
  ·exact aym (h.2.2 λe=>by rw[e] at H;cases H) x H
def ayC (d n op:Int):Int:=bif (op==8)||(decide (d<gi op.toNat)||(decide (d - gi op.toNat+lj op.toNat>16)||((op==2)&&decide (d<=n.tmod 3)))) then(bif d==16 then 4 else 1) else op
def ayD (n op:Int):InX:=bif op==0 then(0,0,(rMk (n - 20) (1+n.tmod 4)).1) else bif op==1||op==2 then(op,n.tmod 3,noR) else(op,0,noR)
def mdX (d:Int) (p:Int×Int):InX:=ayD (co p.2 60) (ayC d (co p.2 60) (co p.1 9))
def mdD (d:Int) (x:InX):Int:=d - gi x.1.toNat+lj x.1.toNat
def mdL:List (Int×Int)->Int->List InX×Int
 | [],d=>([],d)
 |p::l,d=>(mdX d p::(mdL l (mdD d (mdX d p))).1,(mdL l (mdD d (mdX d p))).2)
def aAX:Nat->List InX
 |0=> []
 |n+1=>(4,0,noR)::aAX n
def aCl (d:Int):List InX:=bif d==0 then [(1,0,noR),(9,0,noR)] else aAX (d - 1).toNat++ [(9,0,noR)]
def mdA (x:List (Int×Int)):List InX:=(mdL (x.take 30) 0).1++aCl (mdL (x.take 30) 0).2
def mdF (x:List (Int×Int)):zdH:=⟨((mdA x).flatMap cn).toArray⟩
theorem aCm: ∀i:Fin 10,0<=gi i/\gi i<=2/\0<=lj i/\lj i<=2:=by decide+kernel
theorem aAq: ∀n:Fin 60,rV (rMk ((n:Int) - 20) (1+((n:Int)).tmod 4)).1=true/\(gk (rMk ((n:Int) - 20) (1+((n:Int)).tmod 4)).1).size<=10:=by decide+kernel
structure MdOK (d:Int) (x:InX):Prop where
 ok:OkI x
 ne:x.1≠9
 n8:x.1≠8
 tk:gi x.1.toNat<=d
 dup:x.1=2->x.2.1<d
 lo:0<=mdD d x
 hi:mdD d x<=16
 sz:(cn x).length<=13
theorem aDw (h:0<=n):0<=n.tmod 3/\n.tmod 3<3:=by
 rw[Int.tmod_eq_emod_of_nonneg h];omega
theorem aD2 (n op:Int):(ayD n op).1=op\/op=0/\(ayD n op).1=0:=by
 unfold ayD;cases h0:op==0 with
 |true=>exact .inr ⟨by simpa using h0,rfl⟩
 |false=>cases (op==1||op==2)<;>exact .inl rfl
theorem aFm (n op:Int):(ayD n op).1=op:=by
 rcases aD2 n op with h|⟨h1,h2⟩
 ·exact h
 ·rw[h2,h1]
theorem aD3 (n:Int):(ayD n 2).2.1=n.tmod 3:=rfl
variable {op:Int}
theorem aC1 (H:0<=n/\n<60) (N:0<=op/\op<8):OkI (ayD n op)/\(cn (ayD n op)).length<=13:=by
 have J:=aDw H.1;have key: ∀m:Int,(m=0\/m=1\/m=2\/m=3\/m=4\/m=5\/m=6\/m=7)->OkI (ayD n m)/\(cn (ayD n m)).length<=13:=by
  rintro m (rfl|rfl|rfl|rfl|rfl|rfl|rfl|rfl)
  ·obtain⟨h1,h2⟩:=aAq ⟨n.toNat,by omega⟩;have e:((n.toNat:Nat):Int)=n:=zce H.1;dsimp only at h1 h2;rw[e] at h1 h2;refine⟨⟨h1,(by rw[aFm];decide),(by rw[aFm];decide),λ_=>rfl,λe=>absurd rfl e,λe=>absurd e (by rw[aFm];decide)⟩, ?_⟩;show (0::_::_::(gk _).data.toList).length<=13;simp only[za4,bj];exact Nat.add_le_add_right h2 3
  ·refine⟨⟨?_,(by rw[aFm];decide),(by rw[aFm];decide),λe=>absurd e (by rw[aFm];decide),λ_=>rfl,λe=>absurd e (by rw[aFm];decide)⟩,(by show 2<=13;decide)⟩;show (bif decide (n.tmod 3≥0) then decide (n.tmod 3<6) else false)=true;rw[zdq J.1,zdq (by omega)];rfl
  ·refine⟨⟨?_,(by rw[aFm];decide),(by rw[aFm];decide),λe=>absurd e (by rw[aFm];decide),λ_=>rfl,λe=>absurd e (by rw[aFm];decide)⟩,(by show 2<=13;decide)⟩;show (bif decide (n.tmod 3≥0) then decide (n.tmod 3<16) else false)=true;rw[zdq J.1,zdq (by omega)];rfl
  all_goals exact⟨⟨by rfl,(by rw[aFm];decide),(by rw[aFm];decide),λe=>absurd e (by rw[aFm];decide),λ_=>rfl,λ_=>rfl⟩,(by show 1<=13;decide)⟩
 exact key op (by omega)
variable {d:Int}
theorem aBe (N:0<=d/\d<=16) (Y:0<=op/\op<9):0<=ayC d n op/\ayC d n op<8/\gi (ayC d n op).toNat<=d/\d - gi (ayC d n op).toNat+lj (ayC d n op).toNat<=16/\(ayC d n op=2->n.tmod 3<d):=by
 unfold ayC;cases J:((op==8)||(decide (d<gi op.toNat)||(decide (d - gi op.toNat+lj op.toNat>16)||((op==2)&&decide (d<=n.tmod 3))))) with
 |true=>
  rw[zds];cases H:d==16 with
  |true=>
   have H:d=16:=by simpa using H
   subst H;exact⟨by decide,by decide,by decide,by decide,λe=>absurd e (by decide)⟩
  |false=>
   have H:d≠16:=by simpa using H
   refine⟨by decide,by decide,N.1, ?_,λe=>absurd e (by decide)⟩;show d - 0+1<=16;omega
 |false=>
  rw[zdr];simp only[zbs,zdz,zdx,Bool.and_eq_false_iff] at J;obtain⟨h1,h2,h3,h4⟩:=J;refine⟨Y.1,by omega,by omega,by omega,λe=> ?_⟩;rcases h4 with h4|h4
  ·exact absurd e h4
  ·omega
theorem aCn (H:0<=d/\d<=16) (p:Int×Int):MdOK d (mdX d p):=by
 have J:=gR p.2 (show (0:Int)<60 by decide);have N:=gR p.1 (show (0:Int)<9 by decide);unfold mdX;generalize co p.2 60=n at*
 generalize co p.1 9=op at*
 obtain⟨k1,k2,k3,Y,k5⟩:=aBe (n:=n) H N;generalize ayC d n op=o at*
 obtain⟨h1,h2⟩:=aC1 J ⟨k1,k2⟩;have e:=aFm n o;obtain⟨t1,t2,t3,t4⟩:=aCm ⟨o.toNat,by omega⟩;dsimp only at t1 t2 t3 t4;refine⟨h1,by rw[e];omega,by rw[e];omega,by rw[e];exact k3,λh=> ?_, ?_, ?_,h2⟩
 ·rw[e] at h;subst h;rw[aD3];exact k5 rfl
 ·unfold mdD;rw[e];omega
 ·unfold mdD;rw[e];exact Y
theorem aFx: ∀{l:List (Int×Int)} {d:Int},0<=d/\d<=16->(∀x∈(mdL l d).1,OkI x/\x.1≠9)/\0<=(mdL l d).2/\(mdL l d).2<=16/\((mdL l d).1.flatMap cn).length<=13*l.length
 | [],d,h=>⟨λx H=>(by cases H),h.1,h.2,za0 _⟩
 |p::l,d,h=>by
  have k:=aCn h p;obtain⟨h1,h2,h3,h4⟩:=aFx (l:=l) ⟨k.lo,k.hi⟩;refine⟨λx H=> ?_,h2,h3, ?_⟩
  ·rcases zai.1 H with rfl|H
   ·exact⟨k.ok,k.ne⟩
   ·exact h1 x H
  ·show ((mdX d p::(mdL l (mdD d (mdX d p))).1).flatMap cn).length<=13*(l.length+1);rw[List.flatMap_cons,za3];have:=k.sz;omega
theorem azg: ∀{l m:List InX},(∀x∈l,OkI x/\x.1≠9)->K9 m->K9 (l++m)
 | [],m,_,H=>H
 |x::l,m,h,H=>by
  have J:l++m≠ []:=λe=>by rw[(zd6.1 e).2] at H;exact H
  exact⟨(h x (by simp)).1,⟨λe=>absurd e (h x (by simp)).2,λe=>absurd e J⟩,λ_=>azg (λy N=>h y (zan _ N)) H⟩
theorem aEO:OkI (9,0,noR):=⟨by rfl,by decide,by decide,λe=>absurd e (by decide),λ_=>rfl,λ_=>rfl⟩
theorem aEP:OkI (4,0,noR):=⟨by rfl,by decide,by decide,λe=>absurd e (by decide),λ_=>rfl,λ_=>rfl⟩
theorem aEQ:OkI (1,0,noR):=⟨by rfl,by decide,by decide,λe=>absurd e (by decide),λ_=>rfl,λe=>absurd e (by decide)⟩
theorem aAr:K9 [(9,0,noR)]:=⟨aEO,⟨λ_=>rfl,λ_=>rfl⟩,λe=>absurd rfl e⟩
theorem aAs: ∀{n:Nat},(∀x∈aAX n,OkI x/\x.1≠9)/\((aAX n).flatMap cn).length=n
 |0=>⟨λx H=>(by cases H),rfl⟩
 |n+1=>by
  obtain⟨h1,h2⟩:=aAs (n:=n);refine⟨λx H=> ?_, ?_⟩
  ·rcases zai.1 H with rfl|H
   ·exact⟨aEP,by decide⟩
   ·exact h1 x H
  ·show (((4,0,noR)::aAX n).flatMap cn).length=n+1;rw[List.flatMap_cons,za3,h2];show 1+n=n+1;omega
theorem aC2 (h:0<=d/\d<=16):K9 (aCl d)/\((aCl d).flatMap cn).length<=20:=by
 unfold aCl;cases h0:d==0 with
 |true=>exact⟨⟨aEQ,⟨λe=>absurd e (by decide),λe=>by cases e⟩,λ_=>aAr⟩,(by show 3<=20;decide)⟩
 |false=>
  obtain⟨h1,h2⟩:=aAs (n:=(d - 1).toNat);refine⟨azg h1 aAr, ?_⟩;rw[zdr,zd5,za3,h2];show (d - 1).toNat+1<=20;omega
theorem aAY (x:List (Int×Int)):K9 (mdA x)/\((mdA x).flatMap cn).length<=420:=by
 obtain⟨h1,h2,h3,h4⟩:=aFx (l:=x.take 30) (d:=0) ⟨by decide,by decide⟩;obtain⟨k1,k2⟩:=aC2 ⟨h2,h3⟩;refine⟨azg h1 k1, ?_⟩;unfold mdA;rw[zd5,za3];have:(x.take 30).length<=30:=by rw[zaE];omega
 omega
def aCo (z:Int×Int) (x:InX):Option (Int×Int):=bif (bif decide (z.2≥gi x.1.toNat) then(bif x.1 !=2 then true else decide (z.2>x.2.1)) else false) then some (if z.2+(lj x.1.toNat - gi x.1.toNat)>z.1 then z.2+(lj x.1.toNat - gi x.1.toNat) else z.1,z.2+(lj x.1.toNat - gi x.1.toNat)) else none
def aC5 (z:Int×Int):Int×Int:=bif (bif z.2==1 then decide (z.1<=16) else false) then(z.1,0) else(0,110)
def ayE (s:zdH):Int×Int:=match un s with
 |none=>(0,110)
 |some l=>(match l.foldlM aCo (0,0) with
  |none=>(0,110)
  |some z=>aC5 z)
def aAZ (t:zdH) (x:InX):Option ByteArray:=some (t++(eh x++⟨#[10]⟩))
theorem aAu: ∀{l:List InX} {t:zdH},l.foldlM aAZ t=some (t++⟨(gB l).toArray⟩)
 | [],t=>by
   show some t=_;exact congrArg some (gT (by simp[eD,gB]))
 |x::l,t=>by
  show (l.foldlM aAZ (t++(eh x++⟨#[10]⟩)))=_;rw[aAu];exact congrArg some (gT (by simp[eD,gB,eh]))
def goI {S:Type} (f:S->InX->Option S) (s:zdH) (z:S):Option S:=aFz f s.size s.data.toList z
theorem aya {S:Type} {f:S->InX->Option S}: ∀{k m:Nat} {s:List UInt8} {z:S},s.length<=k->s.length<=m->aFz f k s z=aFz f m s z
 |0,0,_,_,_,_=>rfl
 |0,m+1,s,z,h,_=>by
  have:s= []:=zau (by omega);subst this;rfl
 |k+1,0,s,z,_,h=>by
  have:s= []:=zau (by omega);subst this;rfl
 |k+1,m+1,s,z,h1,h2=>by
  unfold aFz;cases hi:vC s with
  |none=>rfl
  |some p=>
   obtain⟨x,r⟩:=p;dsimp only;have H:=(pw hi).2.1;have J:=pr x;rw[H,za3] at h1 h2;cases f z x with
   |none=>rfl
   |some N=>dsimp only;rw[aya (k:=k) (m:=m) (by omega) (by omega)]
variable {S:Type}
theorem ayn {f:S->InX->Option S} {z:S}:goI f s z=match vC s.data.toList with
 |none=>none
 |some (x,r)=>match f z x with
  |none=>none
  |some H=>bif x.1==9 then some H else goI f ⟨r.toArray⟩ H:=by
 unfold goI;rw[aya (k:=s.size) (m:=s.size+1) (by rw[bj];exact za0 _) (by rw[bj];omega)];rw[aFz];cases hi:vC s.data.toList with
 |none=>rfl
 |some p=>
  obtain⟨x,r⟩:=p;dsimp only;cases f z x with
  |none=>rfl
  |some H=>
   dsimp only;have N:=(pw hi).2.1;have J:=congrArg List.length N;rw[za3,bj] at J;rw[aya (k:=s.size) (m:=(⟨r.toArray⟩:zdH).size) (by omega) (by rw[<-bj,eI];exact za0 _)]
theorem aBf {f:S->InX->Option S} {z:S} (h:s.size<=4096):goI f s z=(un s).bind λl=>l.foldlM f z:=by
 unfold goI un;rw[aAm,zdq h];rfl
def aER:Option (Int×Int)->Int×Int
 |none=>(0,110)
 |some z=>aC5 z
theorem aC6 (h:s.size<=4096):ayE s=aER (goI aCo s (0,0)):=by
 unfold ayE;rw[aBf h];cases un s with
 |none=>rfl
 |some l=>rfl
theorem aBF (h: ¬s.size<=4096):ayE s=(0,110):=by
 unfold ayE un;rw[zdt h];rfl
def aD4:Option ByteArray->ByteArray×Int
 |none=>(⟨#[]⟩,110)
 |some t=>(t,0)
theorem aC7 (h:s.size<=4096):eM s=aD4 (goI aAZ s ⟨#[]⟩):=by
 unfold eM;rw[aBf h];cases un s with
 |none=>rfl
 |some l=>
  show _=aD4 (l.foldlM aAZ ⟨#[]⟩);rw[aAu];exact congrArg (λa=>(a,(0:Int))) (gT (by simp[eD]))
theorem azE (h: ¬s.size<=4096):eM s=(⟨#[]⟩,110):=by
 unfold eM un;rw[zdt h];rfl
def U11 (K:Prop):Prop:=Unit->True->K
def azn (d:Ad3) (K:Prop):Prop:=ah (decide (d.p=d.p)&&true&&true) K
def ayb (x:InX) (r:zdH) (K:InX->ByteArray->Prop) (E:Prop):Prop:=ah (decide (0<=x.1)&&uzR x.2.2) (ag (isF x) (U11 (ag (x.1==9) (ag (seq r ⟨#[]⟩) (U11 (K x r)) (U11 E)) (K x r))) (U11 E))
def aA0 (H J N Y:Nat) (s:zdH) (K:InX->ByteArray->Prop) (E:Prop):Prop:=
 aza s 1 (λp r=>aBx p H λop=>ag (op==0)
  (aza r 2 (λp r=>aBx p J λn=>aza r n (λt r=>ah (decide (t.size<=100000)) (ag ((DR t).2==0) (U11 (ayb (op,0,(DR t).1) r K E)) (U11 E))) E) E)
  (ag (op==1)
    (ag (op==1) (aza r 1 (λp r=>aBx p N λn=>ayb (op,n,noR) r K E) E) (ayb (op,0,noR) r K E))
    (ag (op==2) (aza r 1 (λp r=>aBx p Y λn=>ayb (op,n,noR) r K E) E) (ayb (op,0,noR) r K E)))) E
variable {s:zdH} {n:Int} {E:Prop}
theorem vI {K:ByteArray->ByteArray->Prop} (h0:0<=n) (h:n<=s.size->K (s.extract 0 n.toNat) (s.extract n.toNat s.size)) (e: ¬n<=s.size->E):aza s n K E:=
 ce (λH=>λ_ _=>by
  have H:=zdv H
  exact ac (by rw[zdq h0,zdq H];rfl) (ac (by rw[zdq h0,zdq H];rfl) (h H))) λH _ _=>e (zdw H)
theorem ayS (s:zdH) (n:Nat):(s.extract 0 n).data.toList=s.data.toList.take n:=by
 rw[zdl];simp
theorem ayT (s:zdH) (n:Nat):(s.extract n s.size).data.toList=s.data.toList.drop n:=by
 rw[zdl];simp;rw[zaI (by simp)]
variable {p:zdH} {i:Nat} {b:UInt8}
theorem ayo (h:p.data.toList[i]? =some b):F6 p i=(b.toNat:Int):=by
 unfold F6;rw[h]
theorem aAv (h:p.data.toList= [b]):p.size=1/\ay9 p p.size=(b.toNat:Int):=by
 have H:p.size=1:=by rw[<-bj,h];rfl
 refine⟨H, ?_⟩;rw[H];show ((((0:Int)*256).toNat|||(F6 p 0).toNat:Nat):Int)=_;rw[ayo (b:=b) (by rw[h];rfl)];simp
theorem aCp {a:UInt8} (h:p.data.toList= [a,b]):p.size=2/\ay9 p p.size=((a.toNat*256+b.toNat:Nat):Int):=by
 have H:p.size=2:=by rw[<-bj,h];rfl
 refine⟨H, ?_⟩;rw[H];show (((((((0:Int)*256).toNat|||(F6 p 0).toNat:Nat):Int)*256).toNat|||(F6 p 1).toNat:Nat):Int)=_;rw[ayo (b:=a) (by rw[h];rfl),ayo (b:=b) (by rw[h];rfl)];have J:((((0:Int)*256).toNat|||((a.toNat:Nat):Int).toNat:Nat):Int)=((a.toNat:Nat):Int):=by simp
 rw[J];have e2:(((a.toNat:Nat):Int)*256).toNat=2^8*a.toNat:=by omega
 rw[e2,zd3,<-Nat.two_pow_add_eq_or_of_lt (i:=8) b.toNat_lt];omega
variable {x:InX}
theorem ayF {r:zdH} {K:InX->ByteArray->Prop} (h0:0<=x.1) (Y:uzR x.2.2=true) (h: ∀y t,vB x r.data.toList=some (y,t)->K y ⟨t.toArray⟩) (e:vB x r.data.toList=none->E):ayb x r K E:=by
 have N:(seq r ⟨#[]⟩)=r.data.toList.isEmpty:=by
  cases J:r.data.toList with
  |nil=>exact ayR.2 (gT J)
  |cons a t=>cases hq:seq r ⟨#[]⟩ with
   |false=>rfl
   |true=>rw[ayR.1 hq] at J;cases J
 have yes: ∀H:wE x r.data.toList=true,K x r:=λH=>by
  have:=h x r.data.toList (by unfold vB;rw[H];rfl);rwa[aaA] at this
 have no: ∀H:wE x r.data.toList=false,E:=λH=>e (by unfold vB;rw[H];rfl);refine ac (by rw[zdq h0,Y];rfl) (ce (λh1=>λ_ _=>ce (λh2=>ce (λh3=>λ_ _=>yes ?_) λh3=>λ_ _=>no ?_) λh2=>yes ?_) λh1=>λ_ _=>no ?_)
 ·unfold wE;rw[h1,<-N,h3];simp
 ·unfold wE;rw[h1,h2,<-N,h3];rfl
 ·unfold wE;rw[h1,h2];rfl
 ·unfold wE;rw[h1];rfl
theorem azF {t:zdH}:uzR (DR t).1=true:=by
 unfold DR;split
 ·rename_i h;rw[za2] at h;exact Ie h.1
 ·exact tF
theorem azG {q1 q2 q3 q4:Nat} {K:InX->ByteArray->Prop} (hs:s.size<=4096) (h: ∀x t,vC s.data.toList=some (x,t)->K x ⟨t.toArray⟩) (e:vC s.data.toList=none->E):aA0 q1 q2 q3 q4 s K E:=by
 refine vI (by decide) (λh1=> ?_) λh1=>e ?_
 case refine_2=>
  have:s.data.toList= []:=zau (by rw[bj];omega);rw[this];rfl
 cases hl:s.data.toList with
 |nil=>
  have h0:s.size=0:=by rw[<-bj,hl];rfl
  omega
 |cons b t=>
 have el:vC s.data.toList=vh b.toNat t:=by rw[hl];rfl
 rw[el] at h e;have p1:(s.extract 0 (1:Int).toNat).data.toList= [b]:=by rw[ayS,hl];rfl
 have H:(s.extract (1:Int).toNat s.size).data.toList=t:=by rw[ayT,hl];rfl
 generalize s.extract 0 (1:Int).toNat=p at p1;have hz:(s.extract (1:Int).toNat s.size).size<=4096:=by rw[ByteArray.size_extract];omega
 generalize s.extract (1:Int).toNat s.size=r at H hz;obtain⟨n1,n2⟩:=aAv p1;refine azU (by omega) ?_;rw[n2];have nx: ∀q:Nat,(b.toNat==0)=false->(b.toNat==1||b.toNat==2)=true->aza r 1 (λp r=>aBx p q λn=>ayb (((b.toNat:Nat):Int),n,noR) r K E) E:=λq h0 h1=>by
  have Y:vh b.toNat t=aCi b.toNat t:=by unfold vh;rw[h0,h1];rfl
  rw[Y] at h e;refine vI (by decide) (λh2=> ?_) λh2=>e ?_
  ·cases ht:t with
   |nil=>
    have h0:r.size=0:=by rw[<-bj,H,ht];rfl
    omega
   |cons c u=>
    rw[ht] at H h e;have p2:(r.extract 0 (1:Int).toNat).data.toList= [c]:=by rw[ayS,H];rfl
    have J:(r.extract (1:Int).toNat r.size).data.toList=u:=by rw[ayT,H];rfl
    generalize r.extract 0 (1:Int).toNat=p' at p2;generalize r.extract (1:Int).toNat r.size=r' at J;obtain⟨m1,m2⟩:=aAv p2;refine azU (by omega) ?_;rw[m2];exact ayF (Int.natCast_nonneg _) tF (by rw[J];exact h) (by rw[J];exact e)
  ·have:t= []:=by rw[<-H];exact zau (by rw[bj];omega)
   rw[this];rfl
 refine ce (λh0=> ?_) λh0=>ce (λh1=>ce (λN=> ?_) λN=> ?_) λh1=>ce (λh2=> ?_) λh2=> ?_
 ·have h0:b.toNat=0:=by simpa using h0
  have Y:vh b.toNat t=aBz t:=by unfold vh;rw[h0];rfl
  rw[Y] at h e;refine vI (by decide) (λh2=> ?_) λh2=>e ?_
  ·match ht:t with
   | []=>
     have h0:r.size=0:=by rw[<-bj,H];rfl
     omega
   | [a]=>
     have h0:r.size=1:=by rw[<-bj,H];rfl
     omega
   |a::c::u=>
    have p2:(r.extract 0 (2:Int).toNat).data.toList= [a,c]:=by rw[ayS,H];rfl
    have J:(r.extract (2:Int).toNat r.size).data.toList=u:=by rw[ayT,H];rfl
    have a0:(r.extract (2:Int).toNat r.size).size<=4096:=by rw[ByteArray.size_extract];omega
    generalize r.extract 0 (2:Int).toNat=p' at p2;generalize r.extract (2:Int).toNat r.size=r' at J a0;obtain⟨m1,m2⟩:=aCp p2;refine azU (by omega) ?_;rw[m2];simp only[aBz] at h e;unfold aAS at h e;generalize a.toNat*256+c.toNat=m at h e;have hu:u.length=r'.size:=by rw[<-J,bj]
    refine vI (Int.natCast_nonneg _) (λh3=> ?_) λh3=>e ?_
    ·have et:r'.extract 0 ((m:Nat):Int).toNat=⟨(u.take m).toArray⟩:=gT (by rw[ayS,J,eI,zd3]);have er:(r'.extract ((m:Nat):Int).toNat r'.size).data.toList=u.drop m:=by rw[ayT,J,zd3]
     rw[et];have hc:decide (m<=u.length)=true:=zdq (by omega);rw[hc] at h e;refine ac (zdq ?_) (ce (λh4=>λ_ _=> ?_) λh4=>λ_ _=>e ?_)
     ·rw[<-et,ByteArray.size_extract];omega
     ·rw[h4] at h e;rw[h0];exact ayF (zat _) azF (by rw[er];exact h) (by rw[er];exact e)
     ·rw[h4];rfl
    ·have hc:decide (m<=u.length)=false:=zdt (by omega);rw[hc];rfl
  ·match ht:t with
   | []=>rfl
   | [a]=>rfl
   |a::c::u=>
    exfalso;have h0:r.size=u.length+2:=by rw[<-bj,H];rfl
    omega
 ·refine nx _ ?_ ?_
  ·have h1:b.toNat=1:=by
    have h1:((b.toNat:Nat):Int)=1:=by simpa using h1
    omega
   rw[h1];rfl
  ·have h1:b.toNat=1:=by
    have h1:((b.toNat:Nat):Int)=1:=by simpa using h1
    omega
   rw[h1];rfl
 ·rw[h1] at N;cases N
 ·refine nx _ ?_ ?_
  ·have h2:b.toNat=2:=by
    have h2:((b.toNat:Nat):Int)=2:=by simpa using h2
    omega
   rw[h2];rfl
  ·have h2:b.toNat=2:=by
    have h2:((b.toNat:Nat):Int)=2:=by simpa using h2
    omega
   rw[h2];rfl
 ·have Y:vh b.toNat t=vB (((b.toNat:Nat):Int),0,noR) t:=by
   have g0:b.toNat≠0:=by simpa using h0
   have g1:b.toNat≠1:=by
    intro q;rw[q] at h1;cases h1
   have g2:b.toNat≠2:=by
    intro q;rw[q] at h2;cases h2
   unfold vh;rw[beq_eq_false_iff_ne.2 g0,beq_eq_false_iff_ne.2 g1,beq_eq_false_iff_ne.2 g2];rfl
  rw[Y] at h e;exact ayF (Int.natCast_nonneg _) tF (by rw[H];exact h) (by rw[H];exact e)
theorem azH {t:List UInt8} (h:vC s.data.toList=some (x,t)):OkI x/\(⟨t.toArray⟩:zdH).size+(cn x).length=s.size/\0<(cn x).length:=by
 obtain⟨h1,h2,_⟩:=pw h;refine⟨h1, ?_,pr x⟩;have:=congrArg List.length h2;rw[bj,za3] at this;rw[<-bj,eI];omega
abbrev VX:=ByteArray×Bool×Int×Int
def aES (f:FuncId) (R:zdW):zdW:=λg k=>bif Nat.beq g f&&Nat.beq k 4294967293 then some (λ_=>{X:=Unit,inv:=λ_=>True,tm:=λ_=> [],mu:=λ_=>0}) else R g k
def aD5 (I:VX->Prop):zdW:=aES 51 λf k=>bif Nat.beq f 116&&Nat.beq k 3 then some (λ_=>{X:=VX,inv:=I,tm:=λx=> [(4, .val (.bool x.2.1))],bk:= [(23,λx _=> [.val (.string x.1)]),(8,λx _=> [.val (.int .i64 x.2.2.1)]),(9,λx _=> [.val (.int .i64 x.2.2.2)])],mu:=λx=>x.1.size,keep:= [0,1,3],clean:=by intro p hp x e;simp at hp;rcases hp with rfl|rfl|rfl<;>rfl}) else aDs f k
def gIs:List (FuncId×Ctr):=(120,kIs)::qH
def aET (e:Bool) (s:zdH) (m k:Int) (x:VX):Prop:=(TV.v (.val (.bool e))=TV.v (.val (.bool x.2.1))/\TV.v (.yl 17)=TV.v (.yl 17)/\TV.v (.ptr 12 0 0)=TV.v (.ptr 12 0 0)/\TV.v (.ptr 23 0 0)=TV.v (.ptr 23 0 0)/\True)/\
 ((([SV.val (.string s)]= [SV.val (.string x.1)]/\True)/\(([SV.val (.int .i64 m)]= [SV.val (.int .i64 x.2.2.1)]/\True)/\(([SV.val (.int .i64 k)]= [SV.val (.int .i64 x.2.2.2)]/\True)/\True)))/\(True/\True))
def aBG (x:InX):Int:=lj (0+x.1.toNat) - gi (0+x.1.toNat)
def aC8 (I:VX->Prop) (z:VX) (x:InX) (r:zdH) (E:Prop):Prop:=U11 (ah (decide (0<=x.1)&&decide (x.1<10)) (ah (decide (0+x.1.toNat<10))
 (ag (bif decide (z.2.2.2≥gi (0+x.1.toNat)) then(bif x.1 !=2 then true else decide (z.2.2.2>x.2.1)) else false)
   (U11 (ah (inR .i64 (aBG x)) (ah (inR .i64 (z.2.2.2+aBG x)) (∃H:VX,I H/\(H.1.size<z.1.size/\aET (x.1==9) r (if z.2.2.2+aBG x>z.2.2.1 then z.2.2.2+aBG x else z.2.2.1) (z.2.2.2+aBG x) H)))))
   (U11 E))))
def aEU (d:Ad3) (I:VX->Prop) (s:zdH) (K:zdS):Prop:=
 ag (decide ((s.size:Int)<=4096)) (U11 (∃H:VX,I H/\(aET false s 0 0 H/\ ∀z:VX,I z->
  ag (!z.2.1) (aA0 59 104 105 107 z.1 (λx r=>aC8 I z x r (azn d (K ((cP cI cI).enc (0,110))))) (azn d (K ((cP cI cI).enc (0,110)))))
   (ag (bif z.2.2.2==1 then decide (z.2.2.1<=16) else false) (U11 (K ((cP cI cI).enc (z.2.2.1,0)))) (U11 (azn d (K ((cP cI cI).enc (0,110)))))))))
  (U11 (azn d (K ((cP cI cI).enc (0,110)))))
theorem aD6 (d:Ad3) (I:VX->Prop) (s:zdH) (K:zdS):my d gIs (azT d) (aD5 I) 12 17 [.val (.string s)] K=aEU d I s K:=by kernel_rfl
structure VI (s:ByteArray) (z:VX):Prop where
 go:z.2.1=false->aER (goI aCo z.1 (z.2.2.1,z.2.2.2))=ayE s
 en:z.2.1=true->aC5 (z.2.2.1,z.2.2.2)=ayE s
 lo:0<=z.2.2.2
 hi:z.2.2.2+z.1.size<=4096
 m0:0<=z.2.2.1
 m1:z.2.2.1<=4096
theorem azY:gi i<=2/\0<=gi i:=by
 unfold gi;split<;>decide
theorem azZ (h:i<10):lj i - gi i<=1/\0<=lj i:=by
 have: ∀i:Fin 10,lj i - gi i<=1/\0<=lj i:=by decide+kernel
 exact this ⟨i,h⟩
variable {d:Ad3}
theorem aBg {K:Prop} (k:K):azn d K:=ac (by simp) k
theorem ej {x:Int} (h0: -1000000000<=x) (h1:x<=1000000000):inR .i64 x=true:=Wl.2 ⟨by show (-9223372036854775808:Int)<=_;omega,by show _<=(9223372036854775807:Int);omega⟩
variable {K:zdS}
theorem aBH (k:K ((cP cI cI).enc (ayE s))):aEU d (VI s) s K:=by
 have kb: ∀e:(0,110)=ayE s,azn d (K ((cP cI cI).enc (0,110))):=λe=>aBg (by rw[e];exact k);refine ce (λY=>λ_ _=> ?_) λY=>λ_ _=>kb (aBF (λe=>by rw[zdq (by omega)] at Y;cases Y)).symm;have Y:=zdv Y;have h0:VI s (s,false,0,0):=⟨λ_=>(aC6 (s:=s) (by omega)).symm,λe=>(by cases e),zat _,by show (0:Int)+s.size<=4096;omega,zat _,(by show (0:Int)<=4096;decide)⟩;refine⟨(s,false,0,0),h0,⟨⟨rfl,rfl,rfl,rfl,trivial⟩,⟨⟨rfl,trivial⟩,⟨rfl,trivial⟩,⟨rfl,trivial⟩,trivial⟩,trivial,trivial⟩, ?_⟩;rintro⟨q,e,m,p⟩ ⟨go,en,lo,hi,m0,m1⟩;dsimp only at go en lo hi m0 m1 ⊢;refine ce (λJ=> ?_) λJ=> ?_
 ·have J:e=false:=by simpa using J
  have go:=go J;refine azG (by omega) (λx t hx=> ?_) λhx=>kb ?_
  ·obtain⟨N,hz,hp⟩:=azH hx;rw[ayn,hx] at go;dsimp only at go;have e0:=N.lo;have a0:=N.hi;obtain⟨t1,t0⟩:=azY (i:=x.1.toNat);obtain⟨p1,p0⟩:=azZ (i:=x.1.toNat) (by omega);refine λ_ _=>ac (by rw[zdq e0,zdq a0];rfl) (ac (zdq (by omega)) (ce (λH=>λ_ _=> ?_) λH=>λ_ _=>kb ?_))
   ·unfold aBG;simp only[za7] at H ⊢;unfold aCo at go;dsimp only at go;rw[H,zds] at go;dsimp only at go;refine ac (ej (by omega) (by omega)) (ac (ej (by omega) (by omega)) ?_);have hd:decide (p≥gi x.1.toNat)=true:=by
     cases hd:decide (p≥gi x.1.toNat) with
     |true=>rfl
     |false=>rw[hd] at H;cases H
    have hd:=zdv hd;refine⟨(⟨t.toArray⟩,x.1==9,if p+(lj x.1.toNat - gi x.1.toNat)>m then p+(lj x.1.toNat - gi x.1.toNat) else m,p+(lj x.1.toNat - gi x.1.toNat)),⟨λh9=> ?_,λh9=> ?_, ?_, ?_, ?_, ?_⟩,by show (⟨t.toArray⟩:zdH).size<q.size;omega,⟨⟨rfl,rfl,rfl,rfl,trivial⟩,⟨⟨rfl,trivial⟩,⟨rfl,trivial⟩,⟨rfl,trivial⟩,trivial⟩,trivial,trivial⟩⟩
    ·dsimp only at h9 ⊢;rw[h9,zdr] at go;exact go
    ·dsimp only at h9 ⊢;rw[h9,zds] at go;exact go
    ·dsimp only;omega
    ·dsimp only;omega
    ·dsimp only;split<;>omega
    ·dsimp only;split<;>omega
   ·simp only[za7] at H;unfold aCo at go;dsimp only at go;rw[H] at go;exact go
  ·rw[ayn,hx] at go;exact go
 ·have J:e=true:=by simpa using J
  have en:=en J;unfold aC5 at en;refine ce (λH=>λ_ _=> ?_) λH=>λ_ _=>kb ?_
  ·dsimp only at en H;rw[H] at en;rw[show (m,(0:Int))=ayE s from en];exact k
  ·dsimp only at en H;rw[H] at en;exact en
theorem aCq:GPk gIs:=aDU.cons (λd W H=>aDV H) call120
abbrev aEV:Ctr:=k1 cS (cP cI cI) (λ_=>true) ayE
variable {W:World}
theorem aC9 (H:GlobP d W):CtrOK prog W 17 aEV:=dD λs _=>
 gn aCq KE H (ann:=aD5 (VI s)) (n:=12) m8 ((cP cI cI).ids _) (by
  show my d gIs (azT d) (aD5 (VI s)) 12 17 [.val (.string s)] _;rw[aD6]
  exact aBH (K:=λr=>r=_) rfl)
def gLn:List (FuncId×Ctr):=(122,k1 cI cS cl ofI)::gIs
theorem aBh:GPk gLn:=aCq.cons (λd W H=>(WR.all W H.1.1 (122,k1 cI cS cl ofI) (by simp[mZ])).1) call122
def sp11:zdH:=⟨#[32]⟩
def ayN (x:InX) (K:Prop):Prop:=ah (decide (0<=x.1)&&decide (x.1<10)) (ah (decide (0+x.1.toNat<10)) K)
def fy (a b:zdH) (K:Prop):Prop:=ah (decide (a.size+b.size<=9223372036854775807)) K
def lnT11 (x:InX) (K:zdS):Prop:=U11 (ayN x (ag (x.1==0)
 (fy (eo (0+x.1.toNat)) sp11 (ah (uzR x.2.2) (fy (eo (0+x.1.toNat)++sp11) (gk x.2.2) (K (cS.enc (eo (0+x.1.toNat)++sp11++gk x.2.2))))))
 (ag (x.1==1) (ag (x.1==1) (lnN x K) (K (cS.enc (eo (0+x.1.toNat))))) (ag (x.1==2) (lnN x K) (K (cS.enc (eo (0+x.1.toNat))))))))
where lnN (x:InX) (K:zdS):Prop:=fy (eo (0+x.1.toNat)) sp11 (ah (cl x.2.1) (fy (eo (0+x.1.toNat)++sp11) (ofI x.2.1) (K (cS.enc (eo (0+x.1.toNat)++sp11++ofI x.2.1)))))
theorem aEW (d:Ad3) (op n:Int) (v:RS) (K:zdS):my d gLn (azT d) (λ_ _=>none) 6 38 [cIn.enc (op,n,v)] K=lnT11 (op,n,v) K:=by kernel_rfl
def u8b (z:Int):UInt8:=UInt8.ofNat z.toNat
def aDx (x:InX) (K:zdS):Prop:=ag (x.1==0)
 (ah (uzR x.2.2) (fy ⟨#[u8b 0,u8b (IntKind.u8.wrap (((gk x.2.2).size:Int).fdiv 256)),u8b (IntKind.u8.wrap (gk x.2.2).size)]⟩ (gk x.2.2) (K (cS.enc (⟨#[u8b 0,u8b (IntKind.u8.wrap (((gk x.2.2).size:Int).fdiv 256)),u8b (IntKind.u8.wrap (gk x.2.2).size)]⟩++gk x.2.2)))))
 (ag (x.1==1) (ag (x.1==1) (K (cS.enc ⟨#[u8b (IntKind.u8.wrap x.1),u8b (IntKind.u8.wrap x.2.1)]⟩)) (K (cS.enc ⟨#[u8b (IntKind.u8.wrap x.1)]⟩)))
   (ag (x.1==2) (K (cS.enc ⟨#[u8b (IntKind.u8.wrap x.1),u8b (IntKind.u8.wrap x.2.1)]⟩)) (K (cS.enc ⟨#[u8b (IntKind.u8.wrap x.1)]⟩))))
theorem aEX (d:Ad3) (op n:Int) (v:RS) (K:zdS):my d gLn (azT d) (λ_ _=>none) 6 43 [cIn.enc (op,n,v)] K=aDx (op,n,v) K:=by kernel_rfl
theorem ayp (h0:0<=n):u8b (IntKind.u8.wrap n)=UInt8.ofNat n.toNat:=by
 unfold u8b IntKind.wrap;apply UInt8.toNat.inj;simp[IntKind.bits,IntKind.signed];omega
def uo (x:InX):Bool:=isF x&&decide (0<=x.1)
theorem azh (h:uo x=true):0<=x.1/\x.1<10/\(x.1=0->rV x.2.2=true)/\(x.1=1\/x.1=2->0<=x.2.1/\x.2.1<16):=by
 unfold uo at h;rw[za2,zdu] at h;obtain⟨h1,h2⟩:=h;refine⟨h2,aAT h1,λe=> ?_,λe=> ?_⟩
 ·unfold isF at h1;rw[e] at h1;exact h1
 ·unfold isF at h1;rcases e with e|e
  ·rw[e] at h1;simp at h1;omega
  ·rw[e] at h1;simp at h1;omega
theorem opNm_size:(eo i).size<=5:=by
 unfold eo;split<;>decide
theorem ofI_small (h:0<=n/\n<16):(ofI n).size<=3:=by
 have: ∀i:Fin 16,(ofI (i:Int)).size<=3:=by decide+kernel
 have:=this ⟨n.toNat,by omega⟩;rwa[show (((⟨n.toNat,by omega⟩:Fin 16):Nat):Int)=n from zce h.1] at this
theorem aAw (h:uo x=true) (k:K (cS.enc (eh x))):lnT11 x K:=by
 obtain⟨h0,h1,J,hn⟩:=azh h;have z5:=opNm_size (i:=x.1.toNat);have z1:sp11.size=1:=rfl;have Y:x.1=1\/x.1=2->lnT11.lnN x K:=λe=>by
  obtain⟨n0,n1⟩:=hn e;have z3:=ofI_small ⟨n0,n1⟩;unfold lnT11.lnN;simp only[za7];refine ac (zdq (by omega)) (ac (V4.2 ⟨by omega,by omega⟩) (ac (zdq (by rw[ByteArray.size_append];omega)) ?_));have H:eh x=eo x.1.toNat++sp11++ofI x.2.1:=by
   unfold eh gy;have c0:(x.1==0)=false:=by rw[zdx];omega
   have c1:(x.1==1||x.1==2)=true:=by rcases e with e|e<;>rw[e]<;>rfl
   rw[c0,c1];exact gT (by simp[eD,sp11])
  rw[H] at k;exact k
 have hS:x.1≠0->x.1≠1->x.1≠2->K (cS.enc (eo (0+x.1.toNat))):=λe0 H e2=>by
  have el:eh x=eo x.1.toNat:=by
   unfold eh gy;rw[beq_eq_false_iff_ne.2 e0,beq_eq_false_iff_ne.2 H,beq_eq_false_iff_ne.2 e2];exact gT (by simp)
  rw[el] at k;rw[za7];exact k
 refine λ_ _=>ac (by rw[zdq h0,zdq h1];rfl) (ac (zdq (by omega)) (ce (λe=> ?_) λe=>ce (λH=>ce (λ_=>Y (.inl (by simpa using H))) λN=>by rw[H] at N;cases N) λH=>ce (λe2=>Y (.inr (by simpa using e2))) λe2=>hS (by simpa using e) (by simpa using H) (by simpa using e2)));have e:x.1=0:=by simpa using e
 have J:=J e;have zp:=iU J;simp only[za7];refine ac (zdq (by omega)) (ac (Ie J) (ac (zdq (by rw[ByteArray.size_append];omega)) ?_));have H:eh x=eo x.1.toNat++sp11++gk x.2.2:=by
  unfold eh gy;rw[e];exact gT (by simp[eD,sp11])
 rw[H] at k;exact k
theorem aCr (h:uo x=true) (k:K (cS.enc (cu x))):aDx x K:=by
 obtain⟨h0,h1,J,hn⟩:=azh h;have Y:x.1=1\/x.1=2->K (cS.enc ⟨#[u8b (IntKind.u8.wrap x.1),u8b (IntKind.u8.wrap x.2.1)]⟩):=λe=>by
  obtain⟨n0,n1⟩:=hn e;rw[ayp h0,ayp n0];have H:cu x=⟨#[UInt8.ofNat x.1.toNat,UInt8.ofNat x.2.1.toNat]⟩:=by
   unfold cu cn;have c0:(x.1==0)=false:=by rw[zdx];omega
   have c1:(x.1==1||x.1==2)=true:=by rcases e with e|e<;>rw[e]<;>rfl
   rw[c0,c1];rfl
  rw[H] at k;exact k
 have hS:x.1≠0->x.1≠1->x.1≠2->K (cS.enc ⟨#[u8b (IntKind.u8.wrap x.1)]⟩):=λe0 H e2=>by
  have el:cu x=⟨#[UInt8.ofNat x.1.toNat]⟩:=by
   unfold cu cn;rw[beq_eq_false_iff_ne.2 e0,beq_eq_false_iff_ne.2 H,beq_eq_false_iff_ne.2 e2];rfl
  rw[el] at k;rw[ayp h0];exact k
 refine ce (λe=> ?_) λe=>ce (λH=>ce (λ_=>Y (.inl (by simpa using H))) λN=>by rw[H] at N;cases N) λH=>ce (λe2=>Y (.inr (by simpa using e2))) λe2=>hS (by simpa using e) (by simpa using H) (by simpa using e2);have e:x.1=0:=by simpa using e
 have J:=J e;have zp:=iU J;have hd:(((gk x.2.2).size:Int).fdiv 256)=(((gk x.2.2).size / 256:Nat):Int):=by
  rw[Int.fdiv_eq_ediv_of_nonneg _ (by decide)];rfl
 have ek:(⟨#[u8b 0,u8b (IntKind.u8.wrap (((gk x.2.2).size:Int).fdiv 256)),u8b (IntKind.u8.wrap (gk x.2.2).size)]⟩:zdH)++gk x.2.2=cu x:=by
  rw[hd,ayp (Int.natCast_nonneg _),ayp (Int.natCast_nonneg _)];unfold cu cn;rw[e]
  exact gT (by
   simp[eD,u8b]
   exact congrArg UInt8.ofNat (by omega))
 rw[<-ek] at k;refine ac (Ie J) (ac (zdq ?_) k);show 3+(gk x.2.2).size<=_;omega
theorem aD7 (H:GlobP d W):CtrOK prog W 38 (k1 cIn cS uo eh):=dD λx h=>by
 refine gn aBh KE H (ann:=λ_ _=>none) (n:=6) m8 (cS.ids _) ?_;rw[show x=(x.1,x.2.1,x.2.2) from rfl,aEW];exact aAw (K:=λr=>r=_) h rfl
def coV (x:InX):zdH:=bif uo x then cu x else⟨#[]⟩
theorem aCs (h:uo x=true):coV x=cu x:=by unfold coV;rw[h];rfl
theorem aD8 (H:GlobP d W):CtrOK prog W 43 (k1 cIn cS uo coV):=dD λx h=>by
 rw[aCs h];refine gn aBh KE H (ann:=λ_ _=>none) (n:=6) m8 (cS.ids _) ?_;rw[show x=(x.1,x.2.1,x.2.2) from rfl,aEX];exact aCr (K:=λr=>r=_) h rfl
abbrev PnX:=ByteArray×Bool×ByteArray
def aCt (I:PnX->Prop):zdW:=λf k=>bif Nat.beq f 116&&Nat.beq k 3 then some (λ_=>{X:=PnX,inv:=I,tm:=λx=> [(4, .val (.bool x.2.1))],bk:= [(21,λx _=> [.val (.string x.1)]),(8,λx _=> [.val (.string x.2.2)])],mu:=λx=>x.1.size,keep:= [0,1,3],clean:=by intro p hp x e;simp at hp;rcases hp with rfl|rfl<;>rfl}) else aDs f k
def gPn:List (FuncId×Ctr):=(38,k1 cIn cS uo eh)::gIs
def nl11:zdH:=⟨#[10]⟩
def aDy (e:Bool) (s t:zdH) (x:PnX):Prop:=(TV.v (.val (.bool e))=TV.v (.val (.bool x.2.1))/\TV.v (.yl 15)=TV.v (.yl 15)/\TV.v (.ptr 10 0 0)=TV.v (.ptr 10 0 0)/\TV.v (.ptr 21 0 0)=TV.v (.ptr 21 0 0)/\True)/\
 ((([SV.val (.string s)]= [SV.val (.string x.1)]/\True)/\(([SV.val (.string t)]= [SV.val (.string x.2.2)]/\True)/\True))/\(True/\True))
def aDz (d:Ad3) (I:PnX->Prop) (s:zdH) (K:zdS):Prop:=
 ag (decide ((s.size:Int)<=4096)) (U11 (∃J:PnX,I J/\(aDy false s ⟨#[]⟩ J/\ ∀z:PnX,I z->
  ag (!z.2.1) (aA0 57 102 103 105 z.1 (λx r=>ah (uo x) (fy (eh x) nl11 (fy z.2.2 (eh x++nl11) (∃H:PnX,I H/\(H.1.size<z.1.size/\aDy (x.1==9) r (z.2.2++(eh x++nl11)) H))))) (azn d (K ((cP cS cI).enc (⟨#[]⟩,110)))))
   (K ((cP cS cI).enc (z.2.2,0))))))
  (U11 (azn d (K ((cP cS cI).enc (⟨#[]⟩,110)))))
theorem aD9 (d:Ad3) (I:PnX->Prop) (s:zdH) (K:zdS):my d gPn (azT d) (aCt I) 12 12 [.val (.string s)] K=aDz d I s K:=by kernel_rfl
theorem ayc (h:uo x=true):(eh x).size<=409:=by
 obtain⟨h0,h1,hv,hn⟩:=azh h;have Y:=opNm_size (i:=x.1.toNat);rw[<-bj] at Y ⊢;unfold eh gy;rw[eI,za3];by_cases H:x.1=0
 ·rw[H];have:=iU (hv H);rw[<-bj] at this;rw[H] at Y;simp only[beq_self_eq_true,zds,za4];omega
 ·rw[beq_eq_false_iff_ne.2 H,zdr];by_cases N:x.1=1\/x.1=2
  ·have J:(x.1==1||x.1==2)=true:=by rcases N with e|e<;>rw[e]<;>rfl
   have:=ofI_small (hn N);rw[<-bj] at this;rw[J,zds,za4];omega
  ·have J:(x.1==1||x.1==2)=false:=by rw[zbs,zdx,zdx];omega
   rw[J,zdr,za9];omega
theorem azi (h:OkI x):uo x=true:=by
 unfold uo;rw[h.is,zdq h.lo];rfl
structure PnI (s:ByteArray) (z:PnX):Prop where
 go:z.2.1=false->aD4 (goI aAZ z.1 z.2.2)=eM s
 en:z.2.1=true->(z.2.2,0)=eM s
 hi:z.2.2.size+420*z.1.size<=1720320
theorem aBI (k:K ((cP cS cI).enc (eM s))):aDz d (PnI s) s K:=by
 have kb: ∀e:(⟨#[]⟩,110)=eM s,azn d (K ((cP cS cI).enc (⟨#[]⟩,110))):=λe=>aBg (by rw[e];exact k);refine ce (λJ=>λ_ _=> ?_) λJ=>λ_ _=>kb (azE (λe=>by rw[zdq (by omega)] at J;cases J)).symm;have J:=zdv J;have h0:PnI s (s,false,⟨#[]⟩):=⟨λ_=>(aC7 (s:=s) (by omega)).symm,λe=>(by cases e),by show 0+420*s.size<=_;omega⟩;refine⟨(s,false,⟨#[]⟩),h0,⟨⟨rfl,rfl,rfl,rfl,trivial⟩,⟨⟨rfl,trivial⟩,⟨rfl,trivial⟩,trivial⟩,trivial,trivial⟩, ?_⟩;rintro⟨q,e,t⟩ ⟨go,en,hi⟩;dsimp only at go en hi ⊢;refine ce (λH=> ?_) λH=> ?_
 ·have H:e=false:=by simpa using H
  have go:=go H;refine azG (by omega) (λx u Y=> ?_) λY=>kb ?_
  ·obtain⟨N,hz,hp⟩:=azH Y;rw[ayn,Y] at go;dsimp only at go;have hl:=ayc (azi N);have hn:nl11.size=1:=rfl;have J:(eh x++nl11).size=(eh x).size+1:=by rw[ByteArray.size_append,hn]
   refine ac (azi N) (ac (zdq (by omega)) (ac (zdq (by omega)) ?_));refine⟨(⟨u.toArray⟩,x.1==9,t++(eh x++nl11)),⟨λh9=> ?_,λh9=> ?_, ?_⟩,by show (⟨u.toArray⟩:zdH).size<q.size;omega,⟨⟨rfl,rfl,rfl,rfl,trivial⟩,⟨⟨rfl,trivial⟩,⟨rfl,trivial⟩,trivial⟩,trivial,trivial⟩⟩
   ·dsimp only at h9 ⊢;unfold aAZ at go;dsimp only at go;rw[h9,zdr] at go;exact go
   ·dsimp only at h9 ⊢;unfold aAZ at go;dsimp only at go;rw[h9,zds] at go;exact go
   ·dsimp only;rw[ByteArray.size_append,J];omega
  ·rw[ayn,Y] at go;exact go
 ·have H:e=true:=by simpa using H
  rw[en H];exact k
theorem aDA:GPk gPn:=aCq.cons (λd W H=>aD7 H) call38
abbrev aDa:Ctr:=k1 cS (cP cS cI) (λ_=>true) eM
theorem aDb (H:GlobP d W):CtrOK prog W 12 aDa:=dD λs _=>
 gn aDA KE H (ann:=aCt (PnI s)) (n:=12) m8 ((cP cS cI).ids _) (by
  show my d gPn (azT d) (aCt (PnI s)) 12 12 [.val (.string s)] _;rw[aD9]
  exact aBI (K:=λr=>r=_) rfl)
end Go.Proofs.YtdjfpjmijhjmpaaGreatDoor
namespace Go.Sy
open Go.RowKit
def ab2 (src:zdI) (i:Nat):Option (Option Nat):=match src[i]? with
 |some j=>some (some j)
 |none=>none
variable {src:zdI}
theorem afy {nx:Nat}:rnF (src.map some) [] nx=ab2 src:=by
 funext i
 unfold rnF ab2;rw[zaL];cases src[i]? <;>rfl
theorem adz: ∀{l:zdI},ck (l.map some)=l
 | []=>rfl
 |i::r=>by simp[ck,adz (l:=r)]
def isL:BK->Bool
 | .mpL=>true
 |_=>false
def isO:BK->Bool
 | .own=>true
 |_=>false
variable {k:BK}
theorem afz (h:isL k=true):k= .mpL:=by cases k<;>first|rfl|cases h
theorem alK (h:isO k=true):k= .own:=by cases k<;>first|rfl|cases h
def akF (C B:Blk):Bool:=Nat.beq C.sz B.sz&&((!C.nn||(B.nn||Nat.ble 1 C.n))&&(match C.kd with
 | .gone=>true
 | .old=>pa B.kd&&Nat.ble C.n B.n
 | .own=>isO B.kd&&(Nat.ble 1 C.n&&(Nat.ble 1 C.sz&&Nat.ble C.n B.n))
 | .mpL=>isL B.kd&&Nat.beq C.n 0
 |_=>false))
def af8 (f:zdY) (C:Blk):Nat->List (Option (zdK))
 |0=> []
 |n+1=>af8 f C n++ [SV.rns f (C.get n)]
def af9 (B:Blk):Nat->List (Option (zdK))
 |0=> []
 |n+1=>af9 B n++ [some (B.get n)]
def ahb (bl:zdM):List Nat->List Blk->Bool
 | [], []=>true
 |i::r,C::H=>(match bl i with
  |some B=>akF C B
  |none=>false)&&ahb bl r H
 |_,_=>false
def aip (bl:zdM):List Nat->List Blk->List (List (Option (zdK)))
 |i::r,C::H=>(match bl i with
  |some B=>(match pa C.kd with
   |true=>af9 B C.n
   |false=> [])
  |none=> [])::aip bl r H
 |_,_=> []
def aga (f:zdY):List Blk->List (List (Option (zdK)))
 |C::H=>(match pa C.kd with
  |true=>af8 f C C.n
  |false=> [])::aga f H
 | []=> []
def agb (bl:zdM):List Nat->List Blk->List (Nat->Option (zdK))
 |i::r,C::H=>(match isL C.kd with
  |true=>(match bl i with
   |some B=>(λe=>some (B.get e))::agb bl r H
   |none=> [])
  |false=>agb bl r H)
 |_,_=> []
def acG (f:zdY):List Blk->List (Nat->Option (zdK))
 |C::H=>(match isL C.kd with
  |true=>(λe=>SV.rns f (C.get e))::acG f H
  |false=>acG f H)
 | []=> []
theorem aej {f:zdY} {C:Blk}: ∀{n:Nat},(af8 f C n).length=n
 |0=>rfl
 |n+1=>by rw[af8,za3,aej];rfl
theorem aek {B:Blk}: ∀{n:Nat},(af9 B n).length=n
 |0=>rfl
 |n+1=>by rw[af9,za3,aek];rfl
theorem adP {f:zdY} {C B:Blk}: ∀{n:Nat},af9 B n=af8 f C n-> ∀e,e<n->SV.rns f (C.get e)=some (B.get e)
 |0,_,e,H=>absurd H (zbn e)
 |n+1,h,e,H=>by
  rw[af9,af8] at h;obtain⟨h1,h2⟩:=List.append_inj h (by rw[aek,aej]);simp only[zcb,and_true] at h2;rcases zah e n with k|k
  ·exact adP h1 e k
  ·obtain rfl:e=n:=by omega
   exact h2.symm
theorem ael {bl:zdM} {f:zdY}: ∀{src:zdI} {Cs:zdV},ahb bl src Cs=true->aip bl src Cs=aga f Cs->agb bl src Cs=acG f Cs->yw bl f (src.map some) Cs
 | [], [],_,_,_=>trivial
 |i::r,C::Cs,h1,h2,h3=>by
  rw[ahb,za2] at h1;obtain⟨a,b⟩:=h1;rw[aip,aga,zcb] at h2;obtain⟨c,h2⟩:=h2;rw[agb,acG] at h3;cases hB:bl i with
  |none=>rw[hB] at a;cases a
  |some B=>
   simp only[hB] at a c h3;have q:agb bl r Cs=acG f Cs/\(C.kd= .mpL-> ∀e,SV.rns f (C.get e)=some (B.get e)):=by
    cases N:isL C.kd with
    |true=>
     simp only[N,zcb] at h3;exact⟨h3.2,λ_ e=>(congrFun h3.1 e).symm⟩
    |false=>
     simp only[N] at h3;exact⟨h3,λJ=>by rw[J] at N;cases N⟩
   refine aw ?_ (ael b h2 q.1);show match bl i with
    |some B=>wB f C B
    |none=>False
   rw[hB];simp only[akF,za2] at a;obtain⟨a1,Y,H⟩:=a;refine⟨zab a1,λhn=> ?_, ?_⟩
   ·rw[hn] at Y;simp only[zbh,zbi,zav] at Y;exact Y.imp id zak
   ·cases J:C.kd with
    |gone=>trivial
    |old=>
     simp only[J,za2,pa] at H c;obtain⟨k1,k2⟩:=H;refine⟨λe=>(by rw[e] at k1;cases k1),(by cases hq:B.kd<;>rw[hq] at k1<;>first|rfl|cases k1),zak k2,adP c⟩
    |own=>
     simp only[J,za2,pa] at H c;obtain⟨k1,k2,k3,k4⟩:=H;exact⟨alK k1,zak k2,zak k3,zak k4,adP c⟩
    |mpL=>
     simp only[J,za2] at H;exact⟨afz H.1,zab H.2,q.2 J⟩
    |_=>simp[J] at H
 | [],_::_,h,_,_=>by cases h
 |_::_, [],h,_,_=>by cases h
abbrev ahc:=SV×List Blk×List (Nat×Blk)
def rcL (b:Bool) (r:ahc):RC:={X:=Unit,pre:=b,spec:=λ_=>True,out:=λ_=>r.1,nw:=λ_=>r.2.1,ch:=λ_=>r.2.2,ex:=λ_=>⟨(),trivial⟩}
def agc (p:Prop):Bool:= @decide p (Classical.propDecidable p)
theorem ac5 {p:Prop}:agc p=true↔p:=by unfold agc;exact @decide_eq_true_iff p (Classical.propDecidable p)
def aeT (bl:zdM) (src:zdI) (H:zdV):Bool:=agc (aip bl src H=aga (ab2 src) H)&&agc (agb bl src H=acG (ab2 src) H)
def aiq (src:zdI) (J:zdV) (H:List SV->Bool) (R:Nat->ahc):MCtr:=λbl nx args=>
 bif H args&&ahb bl src J then some (rcL (aeT bl src J) (R nx)) else none
theorem afA {P:Program} {W0:Base} {F:FuncId} {ok:FuncId->Bool} {Γ:zdQ} {Γm:FuncId->Option MCtr} {Δ:FuncId->Option DCtr} {Cs:zdV} {args':List SV->Bool} {R:Nat->ahc} {args0:zdK} {ann:zdW} {n:Nat}
 (H: ∀B:Base,SubB B W0->HypD P B ok Γ Γm Δ) (ha: ∀args,args' args=true->SV.rns (ab2 src) args0=some args) (hu:src.Nodup) (hf:Far (src.map some) Cs)
 (Y: ∀b nx,Ay P ok Γ Γm Δ ann n F args0 (λi=>Cs[i]?) Cs.length [] (KB (rcL b (R nx)) (src.map some) Cs nx)):VU P W0 F (aiq src Cs args' R):=
 c8 H λbl nx args C J hp=>by
  unfold aiq at J;cases N:(args' args&&ahb bl src Cs) with
  |false=>rw[N] at J;cases J
  |true=>
   rw[N,zds] at J;simp only[za1] at J;subst J;rw[za2] at N;have hp:aeT bl src Cs=true:=hp;simp only[aeT,za2,ac5] at hp;exact⟨src.map some,Cs,args0,ann,n,by rw[afy];exact ael N.2 hp.1 hp.2,aeB (by rw[adz];exact hu),hf,by rw[afy];exact ha args N.1,Y _ nx⟩
end Go.Sy
namespace Go.Proofs.YtdjfpjmijhjmpaaGreatDoor
open Go.Proofs.Tryz
open Go Go.RowKit Go.Sy Yk
variable {Cs:zdV} {d:Ad3} {g:List (FuncId×Ctr)} {gm:zdX} {ann:zdW} {n:Nat}
theorem kbP {C:RC} {src:zdU} {nx:Nat} {f:FuncId} {args:zdK} {r:SV} (x:C.X) (J:C.spec x) (h1:C.pan x=none) (h2:r.ids= []) (h3:C.out x=r) (h4:C.nw x= []) (h5:C.ch x= []) (h6: ∀C∈Cs,cN C.kd=false) (H:src.length=Cs.length)
 (h:ayw d g gm ann n f args Cs (Go.Sy.okK λs _ _ _=>s=r)):ayw d g gm ann n f args Cs (KB C src Cs nx):=azw h λq b m w hq=>by
 cases q with
 |pan v=>exact hq.elim
 |ok s=>
  obtain rfl:s=r:=hq;exact IG x J h1 h2 h3 h4 h5 h6 H
def ayq:Blk:={n:=10,sz:=3,get:=ay8,kd:= .old}
def wBk (w:zdH):Blk:={n:=1,sz:=1,get:=λ_=> [.val (.string w)],kd:= .old,nn:=false}
def aA1 (w:zdH) (K:Int->Prop):Prop:=ag (seq (eo 0) w) (K 0) (ag (seq (eo 1) w) (K 1) (ag (seq (eo 2) w) (K 2) (ag (seq (eo 3) w) (K 3) (ag (seq (eo 4) w) (K 4) (ag (seq (eo 5) w) (K 5) (ag (seq (eo 6) w) (K 6) (ag (seq (eo 7) w) (K 7) (ag (seq (eo 8) w) (K 8) (ag (seq (eo 9) w) (K 9) (K (-1)))))))))))
theorem aEY (d:Ad3) (w:zdH) (Q:zdS):ayw d [] [] (λ_ _=>none) 4 126 [.slc 0 0 10, .fn (.func 127) [] [.ptr 1 0 0]] [ayq,wBk w] (Go.Sy.okK λr _ _ _=>Q r)=aA1 w λop=>Q (cI.enc op):=by kernel_rfl
variable {w:zdH}
theorem aDc {K:Int->Prop} (k:K (ayl w)):aA1 w K:=by
 unfold ayl at k;unfold aA1;cases h0:seq (eo 0) w with
 |true=>rw[h0] at k;exact k
 |false=>
 cases h1:seq (eo 1) w with
 |true=>rw[h0,h1] at k;exact k
 |false=>
 cases h2:seq (eo 2) w with
 |true=>rw[h0,h1,h2] at k;exact k
 |false=>
 cases h3:seq (eo 3) w with
 |true=>rw[h0,h1,h2,h3] at k;exact k
 |false=>
 cases h4:seq (eo 4) w with
 |true=>rw[h0,h1,h2,h3,h4] at k;exact k
 |false=>
 cases h5:seq (eo 5) w with
 |true=>rw[h0,h1,h2,h3,h4,h5] at k;exact k
 |false=>
 cases h6:seq (eo 6) w with
 |true=>rw[h0,h1,h2,h3,h4,h5,h6] at k;exact k
 |false=>
 cases h7:seq (eo 7) w with
 |true=>rw[h0,h1,h2,h3,h4,h5,h6,h7] at k;exact k
 |false=>
 cases h8:seq (eo 8) w with
 |true=>rw[h0,h1,h2,h3,h4,h5,h6,h7,h8] at k;exact k
 |false=>
 cases h9:seq (eo 9) w with
 |true=>rw[h0,h1,h2,h3,h4,h5,h6,h7,h8,h9] at k;exact k
 |false=>rw[h0,h1,h2,h3,h4,h5,h6,h7,h8,h9] at k;exact k
def aDd (i j:Nat):List SV->Bool
 | [.slc a 0 10, .fn (.func f) [] [.ptr b 0 0]]=>Nat.beq a i&&(Nat.beq b j&&Nat.beq f 127)
 |_=>false
def kIx:MCtr:=λbl nx args=>match args with
 | [.slc i 0 _, .fn (.func _) [] [.ptr j 0 0]]=>(match bl j with
   |some C=>(match C.get 0 with
    | [.val (.string w)]=>bif Nat.beq i j then none else aiq [i,j] [ayq,wBk w] (aDd i j) (λ_=>(cI.enc (ayl w), [], [])) bl nx args
    |_=>none)
   |none=>none)
 |_=>none
variable {B:Base}
theorem aEZ (hg:GPk g) (Y:MPk d gm) {F:FuncId} {src:zdI} {args':List SV->Bool} {R:Nat->ahc} {args0:zdK} 
 (J: ∀args,args' args=true->SV.rns (ab2 src) args0=some args) (hu:src.Nodup) (N:Far (src.map some) Cs)
 (H: ∀b nx,ayw d g gm ann n F args0 Cs (KB (rcL b (R nx)) (src.map some) Cs nx)) (hB:GlobPB d B):VU prog B F (aiq src Cs args' R):=by
 unfold ayw at H;exact afA (λB' hs=>aCW hg Y (hB.sub hs)) J hu N H
theorem aEa (d:Ad3) (w:zdH):ayw d [] [] (λ_ _=>none) 4 126 [.slc 0 0 10, .fn (.func 127) [] [.ptr 1 0 0]] [ayq,wBk w] (Go.Sy.okK λr _ _ _=>r=cI.enc (ayl w)):=by
 rw[aEY];exact aDc rfl
theorem aFj (w:zdH): ∀C∈ [ayq,wBk w],cN C.kd=false:=λC H=>by
 rcases zai.1 H with rfl|H
 ·rfl
 ·rcases zai.1 H with rfl|H
  ·rfl
  ·cases H
theorem aFk (w:zdH) (l:zdU):Far l [ayq,wBk w]:= .inl λC H=>by
 rcases zai.1 H with rfl|H
 ·rfl
 ·rcases zai.1 H with rfl|H
  ·rfl
  ·cases H
theorem aEb (d:Ad3) (w:zdH) (i j:Nat) (b:Bool) (m:Nat):ayw d [] [] (λ_ _=>none) 4 126 [.slc 0 0 10, .fn (.func 127) [] [.ptr 1 0 0]] [ayq,wBk w] (KB (rcL b (cI.enc (ayl w), [], [])) ([i,j].map some) [ayq,wBk w] m):=
 by
 refine azw (K:=Go.Sy.okK λr _ _ _=>r=cI.enc (ayl w)) (aEa d w) ?_;intro r H n wl hq;cases r with
 |pan v=>exact hq.elim
 |ok s=>
  obtain rfl:s=cI.enc (ayl w):=hq;exact IG () trivial rfl (cI.ids _) rfl rfl rfl (aFj w) rfl
variable {i j:Nat}
theorem aDe {l:zdK} (H:aDd i j l=true):SV.rns (ab2 [i,j]) [.slc 0 0 10, .fn (.func 127) [] [.ptr 1 0 0]]=some l:=by
 unfold aDd at H;split at H
 ·simp only[za2] at H;rw[zab H.1,zab H.2.1,zab H.2.2];rfl
 ·cases H
theorem aEc (h:i≠j): [i,j].Nodup:=by simp[h]
theorem aEd (H:i≠j) (hB:GlobPB d B):VU prog B 126 (aiq [i,j] [ayq,wBk w] (aDd i j) λ_=>(cI.enc (ayl w), [], [])):=
 aEZ (d:=d) (g:= []) (gm:= []) (ann:=λ_ _=>none) (n:=4) (args0:= [.slc 0 0 10, .fn (.func 127) [] [.ptr 1 0 0]]) (GPk.of (GEk.of GOk.nil)) (MPk.of MEk.nil) (λl J=>aDe J) (aEc H) (aFk w _) (λb m=>aEb d w i j b m) hB
theorem aEe (B:Base) (hB:GlobPB d B):VU prog B 126 kIx:=by
 intro bl β wd nx args C Y a2 a3 a4 H hp;unfold kIx at H;split at H
 ·rename_i i n0 f0 j;split at H
  ·rename_i D hD;split at H
   ·rename_i w hw;cases J:Nat.beq i j with
    |true=>rw[J] at H;cases H
    |false=>
     rw[J,zdr] at H;have N:i≠j:=λe=>by rw[e] at J;simp at J
     exact aEd N hB bl β wd nx _ C Y a2 a3 a4 H hp
   ·cases H
  ·cases H
 ·cases H
theorem aBi: ∀{l:List ByteArray} {i:Nat},i<l.length->l.drop i=F7 l i::l.drop (i+1)
 | [],_,h=>absurd h (zbn _)
 |a::l,0,_=>rfl
 |a::l,i+1,h=>by
  rw[List.drop_succ_cons,List.drop_succ_cons,aBi (l:=l) (Nat.lt_of_succ_lt_succ h)];rfl
abbrev QX:=Int×ByteArray×Bool
def avB (I:QX->Prop) (N:Int):zdW:=λf k=>bif Nat.beq f 14&&Nat.beq k 4 then some (λ_=>{X:=QX,inv:=I,tm:=λx=> [(17, .val (.int .i64 x.1)),(6, .val (.string x.2.1)),(7, .val (.bool x.2.2))],mu:=λx=>(N - x.1).toNat,keep:= [0,5,15,16]}) else none
def gPa:List (FuncId×Ctr):=(128,k1 cS (cP cI cI) (λs=>decide (s.size<=1000000)) ayx)::(43,k1 cIn cS uo coV)::(125,k2 cS cS (cP3 cS cS cB) (λs _=>decide (s.size<=1000000)) abn)::gPn
def aEf (d:Ad3):zdX:=(39,abV)::(126,kIx)::azT d
def c3 (x:ByteArray×Int×Int):SV:= .tup [.val (.string x.1), .val (.int .i64 x.2.1), .val (.int .i64 x.2.2)]
def aE0 (s:zdH) (n:Nat) (i:Int) (c:zdH) (e:Bool) (x:QX):Prop:=(TV.v (.val (.int .i64 i))=TV.v (.val (.int .i64 x.1))/\TV.v (.val (.string c))=TV.v (.val (.string x.2.1))/\TV.v (.val (.bool e))=TV.v (.val (.bool x.2.2))/\TV.v (.val (.string s))=TV.v (.val (.string s))/\TV.v (.slc 4 0 n)=TV.v (.slc 4 0 n)/\TV.v (.slc 4 0 n)=TV.v (.slc 4 0 n)/\TV.v (.val (.int .i64 (n:Int)))=TV.v (.val (.int .i64 (n:Int)))/\True)/\(True/\(True/\True))
def az0 (z:QX) (K:zdS):Prop:=ah (inR .i64 (z.1+1)) (K (c3 (⟨#[]⟩,z.1+1,110)))
def aDf (z:QX) (K:zdS):Prop:=ah (dC false (inR .i64 ((z.2.1.size:Int)+((coV (0,0,aFn)).size:Int)))) (az0 z K)
def azj (z:QX) (n:Nat):Bool:=bif z.2.2 then true else z.1==(n:Int) - 1
def aDB (I:QX->Prop) (N:Int) (s:zdH) (n:Nat) (z:QX) (K:zdS) (x:InX):Prop:=ah (dC (!azj z n) (uo x)) (ah (dC (!azj z n) (inR .i64 ((z.2.1.size:Int)+((coV x).size:Int)))) (ag (bif azj z n then true else decide ((z.2.1.size:Int)+((coV x).size:Int)>4096)) (az0 z K)
 (ah (uo x) (fy z.2.1 (coV x) (ah (inR .i64 (z.1+1)) (∃H:QX,I H/\((N - H.1).toNat<(N - z.1).toNat/\aE0 s n (z.1+1) (z.2.1++coV x) (x.1==9) H)))))))
def azI (t:zdH) (P:InX->Prop) (F:Prop) (x:InX):Prop:=ah (dC (decide (x.1≥0)) (decide (0<=x.1)&&uzR x.2.2)) (ah (dC (bif decide (x.1≥0) then isF x else false) (uo x)) (ag (bif (bif decide (x.1≥0) then isF x else false) then seq (eh x) t else false) (U11 (P x)) (U11 F)))
def opT11 (t r:zdH) (P:InX->Prop) (F:Prop) (op:Int):Prop:=ag (op==0) (ah (decide (r.size<=100000)) (ag ((DR r).2==0) (U11 (azI t P F (op,0,(DR r).1))) (U11 F)))
 (ag (op==1) (ag (op==1) (opN t r P F op) (azI t P F (op,0,aFn))) (ag (op==2) (opN t r P F op) (azI t P F (op,0,aFn))))
where opN (t r:zdH) (P:InX->Prop) (F:Prop) (op:Int):Prop:=ah (decide (r.size<=1000000)) (ag ((ayx r).2==0) (U11 (azI t P F (op,(ayx r).1,aFn))) (U11 F))
def aEg (w:zdH):Bool:=aeT (λi=>match i with
 |0=>some {n:=10,sz:=3,get:=ay8,kd:= .own}
 |_=>some {n:=1,sz:=1,get:=λ_=> [.val (.string w)],kd:= .own}) [0,1] [ayq,wBk w]
theorem aDg (w:zdH):aEg w=true:=by
 unfold aEg aeT;rw[za2,ac5,ac5];exact⟨rfl,rfl⟩
def aDC (t:zdH) (P:InX->Prop) (F:Prop):Prop:=ah (decide (t.size<=1000000)) (U11 (ah (aEg (abn t sp11).1) (U11 (opT11 t (abn t sp11).2.1 P F (ayl (abn t sp11).1)))))
def aAx (d:Ad3) (I:QX->Prop) (N:Int) (s:zdH) (n:Nat) (t:zdH) (z:QX) (K:zdS):Prop:=ah (decide (0<=z.1)&&decide (z.1<(n:Int))) (ah (decide (0+z.1.toNat<n)) (ah (inR .i64 ((n:Int) - 1))
 (ag (bif (bif z.1==(n:Int) - 1 then seq t ⟨#[]⟩ else false) then z.2.2 else false) (K (c3 (z.2.1,0,0))) (aDC t (aDB I N s n z K) (azn d (aDf z K))))))
def aDD (d:Ad3) (I:QX->Prop) (N:Int) (s:zdH) (K:zdS):Prop:=ah (decide (s.size<=1000000)&&true) (U11 (∃H:QX,I H/\(aE0 s (abI s nl11).length 0 ⟨#[]⟩ false H/\ ∀z:QX,I z->
 ag (decide (z.1<((abI s nl11).length:Int))) (aAx d I N s (abI s nl11).length (F7 (abI s nl11) (0+z.1.toNat)) z K) (K (c3 (z.2.1,0,0))))))
theorem aE1 (d:Ad3) (I:QX->Prop) (N:Int) (s:zdH) (K:zdS):my d gPa (aEf d) (avB I N) 12 14 [.val (.string s)] K=aDD d I N s K:=by kernel_rfl
theorem Q5 {g n:Bool} (h:g=true->n=true):dC g n=true:=by
 unfold dC;cases n with
 |true=>rfl
 |false=>cases g with
  |true=>exact absurd (h rfl) (by decide)
  |false=>rfl
variable {t:zdH} {P:InX->Prop} {F:Prop} {x:InX}
theorem aA2 (N:uzR x.2.2=true) (J:rdE t x=some x->P x) (hF:rdE t x=none->F):azI t P F x:=by
 have H:decide (x.1≥0)=decide (0<=x.1):=rfl;refine ac (Q5 λh=>by rw[N,zaQ,<-H];exact h) (ac (Q5 λh=> ?_) (ce (λh=>λ_ _=>J ?_) λh=>λ_ _=>hF ?_))
 ·rw[H] at h;unfold uo;cases h0:decide (0<=x.1) with
  |false=>rw[h0] at h;cases h
  |true=>rw[h0,zds] at h;rw[h];rfl
 ·rw[H] at h;unfold rdE;cases h0:decide (0<=x.1) with
  |false=>rw[h0] at h;cases h
  |true=>
   rw[h0,zds] at h;cases h1:isF x with
   |false=>rw[h1] at h;cases h
   |true=>rw[h1,zds] at h;rw[h];rfl
 ·rw[H] at h;unfold rdE;cases h0:decide (0<=x.1) with
  |false=>rfl
  |true=>
   rw[h0,zds] at h;cases h1:isF x with
   |false=>rfl
   |true=>rw[h1,zds] at h;rw[h];rfl
theorem aCu {r:zdH} {op:Int} (hr:r.size<=100000) (H: ∀x,rdO t r op=some x->P x) (hF:rdO t r op=none->F):opT11 t r P F op:=by
 have nn:aFn=noR:=rfl;have hC:op≠0->op≠1->op≠2->azI t P F (op,0,aFn):=λe0 J e2=>by
  have N:rdO t r op=rdE t (op,0,noR):=by
   unfold rdO;rw[beq_eq_false_iff_ne.2 e0,beq_eq_false_iff_ne.2 J,beq_eq_false_iff_ne.2 e2];rfl
  rw[N] at H hF;exact aA2 tF (λh=>H _ h) hF
 have hN:op=1\/op=2->opT11.opN t r P F op:=λe=>by
  have N:rdO t r op=bif (ayx r).2==0 then rdE t (op,(ayx r).1,noR) else none:=by
   unfold rdO;have c0:(op==0)=false:=by rw[zdx];omega
   have c1:(op==1||op==2)=true:=by rcases e with rfl|rfl<;>rfl
   rw[c0,c1];rfl
  rw[N] at H hF;refine ac (zdq (by omega)) (ce (λh=>λ_ _=> ?_) λh=>λ_ _=>hF (by rw[h];rfl));rw[h,zds] at H hF;exact aA2 tF (λh=>H _ h) hF
 refine ce (λe=>ac (zdq hr) (ce (λh=>λ_ _=> ?_) λh=>λ_ _=>hF ?_)) λe=>ce (λJ=>ce (λ_=>hN (.inl (by simpa using J))) λY=>by rw[J] at Y;cases Y) λJ=>ce (λe2=>hN (.inr (by simpa using e2))) λe2=>hC (by simpa using e) (by simpa using J) (by simpa using e2)
 ·have e:op=0:=by simpa using e
  subst e;have N:rdO t r 0=rdE t (0,0,(DR r).1):=by unfold rdO;rw[h];rfl
  rw[N] at H hF;exact aA2 azF (λh=>H _ h) hF
 ·have e:op=0:=by simpa using e
  subst e;unfold rdO;rw[h];rfl
theorem aEh (J:t.size<=100000) (H: ∀x,rdF t=some x->P x) (hF:rdF t=none->F):aDC t P F:=by
 refine ac (zdq (by omega)) λ_ _=>ac (aDg _) λ_ _=>aCu (zac (aBy _ _) J) H hF
structure QI (s:ByteArray) (z:QX):Prop where
 go:vm ((abI s nl11).drop z.1.toNat) z.1 z.2.1 z.2.2=ic s
 lo:0<=z.1
 hi:z.1<=(abI s nl11).length
 sz:z.2.1.size<=4096
theorem aAy (s:zdH):(abI s nl11).length<=s.size+1:=by
 have h1:=Lib.splitB_length_le nl11 0 (Lib.countB s nl11) s;have h2:=Lib.countB_le nl11 (by decide) s.size s (za0 _);unfold abI;omega
theorem aA3 (h:uo x=true):(cu x).size<=406:=by
 obtain⟨h0,h1,J,N⟩:=azh h;rw[<-bj];unfold cu cn;rw[eI];by_cases H:x.1=0
 ·rw[H];have:=iU (J H);rw[<-bj] at this;simp only[beq_self_eq_true,zds,za4];omega
 ·rw[beq_eq_false_iff_ne.2 H,zdr];cases (x.1==1||x.1==2)<;>simp
variable {d:Ad3}
theorem aCv {s:zdH} {K:zdS} (hs:s.size<=100000) (k:K (c3 (ic s))):aDD d (QI s) (abI s nl11).length s K:=by
 have n0:=aAy s;refine ac (by rw[zdq (by omega)];rfl) λ_ _=>⟨(0,⟨#[]⟩,false),⟨rfl,zat _,Int.natCast_nonneg _,by show 0<=4096;decide⟩,⟨⟨rfl,rfl,rfl,rfl,rfl,rfl,rfl,trivial⟩,trivial,trivial,trivial⟩, ?_⟩;rintro⟨i,c,e⟩ ⟨go,lo,hi,sz⟩;dsimp only at go lo hi sz ⊢;have N: ∀j,(F7 (abI s nl11) j).size<=100000:=λj=>zac (azb (ayK _ _ _ _)) hs;generalize hL:abI s nl11=L at*
 refine ce (λhb=> ?_) λhb=> ?_
 case refine_2=>
  have hb:=zdw hb;have:L.drop i.toNat= []:=List.drop_eq_nil_of_le (by omega);rw[this] at go;have go:(c,(0:Int),(0:Int))=ic s:=go;rw[go];exact k
 have hb:=zdv hb;have hd:=aBi (l:=L) (i:=i.toNat) (by omega);rw[hd] at go;have e0:(L.drop (i.toNat+1)).isEmpty=(i==(L.length:Int) - 1):=by
  have hl:(L.drop (i.toNat+1)).length=L.length - (i.toNat+1):=zbR;by_cases hq:i=(L.length:Int) - 1
  ·rw[beq_iff_eq.2 hq];exact List.isEmpty_iff.2 (zau (by omega))
  ·rw[beq_eq_false_iff_ne.2 hq];cases he:(L.drop (i.toNat+1)).isEmpty with
   |false=>rfl
   |true=>
    rw[List.isEmpty_iff.1 he] at hl;simp at hl;omega
 have j0:(i+1).toNat=i.toNat+1:=by omega
 have N:=N (0+i.toNat);rw[za7] at N;unfold aAx;rw[za7];generalize F7 L i.toNat=t at*
 generalize i0:L.drop (i.toNat+1)=ls at*
 refine ac (by rw[zdq lo,zdq hb];rfl) (ac (zdq (by dsimp only;omega)) (ac (ej (by omega) (by omega)) ?_));have g0:vm (t::ls) i c e=bif ls.isEmpty&&(seq t ⟨#[]⟩&&e) then(c,0,0) else match rdF t with
  |none=>(⟨#[]⟩,i+1,110)
  |some x=>bif e||(ls.isEmpty||decide (c.size+(cu x).size>4096)) then(⟨#[]⟩,i+1,110) else vm ls (i+1) (c++cu x) (x.1==9):=rfl
 rw[g0,e0] at go;have a0:inR .i64 (i+1)=true:=ej (by omega) (by omega);have kf:(⟨#[]⟩,i+1,110)=ic s->az0 (i,c,e) K:=λh=>ac a0 (by rw[h];exact k);refine ce (λH=> ?_) λH=> ?_
 ·have Y:(i==(L.length:Int) - 1&&(seq t ⟨#[]⟩&&e))=true:=by
   cases h1:i==(L.length:Int) - 1 with
   |false=>rw[h1] at H;cases H
   |true=>
    rw[h1,zds] at H;cases h2:seq t ⟨#[]⟩ with
    |false=>rw[h2] at H;cases H
    |true=>rw[h2,zds] at H;have H:e=true:=H;rw[H];rfl
  rw[Y,zds] at go;show K (c3 (c,0,0));rw[go];exact k
 ·have Y:(i==(L.length:Int) - 1&&(seq t ⟨#[]⟩&&e))=false:=by
   cases h1:i==(L.length:Int) - 1 with
   |false=>rfl
   |true=>
    rw[h1,zds] at H;cases h2:seq t ⟨#[]⟩ with
    |false=>rfl
    |true=>rw[h2,zds] at H;exact H
  rw[Y,zdr] at go;refine aEh N (λx hx=> ?_) λhx=> ?_
  ·rw[hx] at go;dsimp only at go;obtain⟨l0,o0⟩:=aAn hx;have ho:=azi l0;have hz:=aA3 ho;have hg:azj (i,c,e) L.length=(e||i==(L.length:Int) - 1):=by
    unfold azj;cases e<;>rfl
   have ez:((c.size:Int)+((cu x).size:Int)>4096)↔c.size+(cu x).size>4096:=by omega
   unfold aDB;rw[aCs ho,hg];refine ac (Q5 λ_=>ho) (ac (Q5 λ_=>ej (by dsimp only;omega) (by dsimp only;omega)) (ce (λJ=>kf ?_) λJ=> ?_))
   ·have:(e||(i==(L.length:Int) - 1||decide (c.size+(cu x).size>4096)))=true:=by
     rw[<-Bool.or_assoc];cases h1:(e||i==(L.length:Int) - 1) with
     |true=>rfl
     |false=>
      rw[h1,zdr] at J;have J:=zdv J;exact zdq (by dsimp only at J;omega)
    rw[this,zds] at go;exact go
   ·have h1:(e||i==(L.length:Int) - 1)=false:=by
     cases h1:(e||i==(L.length:Int) - 1) with
     |true=>rw[h1] at J;cases J
     |false=>rfl
    rw[h1,zdr] at J;have J:=zdw J;dsimp only at J;have:(e||(i==(L.length:Int) - 1||decide (c.size+(cu x).size>4096)))=false:=by
     rw[<-Bool.or_assoc,h1];exact zdt (by omega)
    rw[this,zdr] at go;refine ac ho (ac (zdq (by dsimp only;omega)) (ac a0 ⟨(i+1,c++cu x,x.1==9),⟨?_, ?_, ?_, ?_⟩, ?_,⟨⟨rfl,rfl,rfl,rfl,rfl,rfl,rfl,trivial⟩,trivial,trivial,trivial⟩⟩))
    ·dsimp only;rw[hL,j0,i0];exact go
    ·dsimp only;omega
    ·dsimp only;rw[hL];omega
    ·dsimp only;rw[ByteArray.size_append];omega
    ·dsimp only;omega
  ·rw[hx] at go;refine ac (by simp) (ac (Q5 λh=>by cases h) (kf go))
theorem aE2:GPk gPa:=((aDA.cons (λd W H=>abS H.1.1) call125).cons (λd W H=>aD8 H) call43).cons (λd W H=>aD0 H) call128
theorem aDh:MPk d (aEf d):=(KE.cons λB hB=>aEe B hB).cons λB hB=>adm hB.gE.gU
abbrev aE3:Ctr:=k1 cS (cP3 cS cI cI) (λs=>decide (s.size<=100000)) ic
theorem aDi {W:World} (H:GlobP d W):CtrOK prog W 14 aE3:=dD λs h=>
 gn aE2 aDh H (ann:=avB (QI s) (abI s nl11).length) (n:=12) m8 ((cP3 cS cI cI).ids _) (by
  show my d gPa (aEf d) (avB (QI s) (abI s nl11).length) 12 14 [.val (.string s)] _;rw[aE1]
  exact aCv (K:=λr=>r=_) (zdv h) rfl)
structure GlobT (w:World):Prop where
 tk: ∀i,i<10->w.cell? ⟨0,i,none⟩=some (.int .i64 (gi i))
 pt: ∀i,i<10->w.cell? ⟨1,i,none⟩=some (.int .i64 (lj i))
 nm: ∃k o cap,w.cell? ⟨3,0,none⟩=some (.slice (some ⟨k,o,none⟩) 10 cap)/\10<=cap/\(∀j,j<cap->(w.cell? ⟨k,o+j,none⟩).isSome=true)/\ ∀i,i<10->w.cell? ⟨k,o+i,none⟩=some (.string (eo i))
variable {w:World} {b j:Nat}
theorem aBj (h:(w.cell? ⟨b,j,none⟩).isSome=true):b<w.heap.size:=by
 cases H:w.cell? ⟨b,j,none⟩ with
 |none=>rw[H] at h;cases h
 |some v=>exact World.block_lt_of_cell? w _ H
variable {w':World}
theorem GlobT.below (h:GlobT w) (H:Below w.heap.size w w'):GlobT w':=by
 have c: ∀{b j:Nat} {v:Value},w.cell? ⟨b,j,none⟩=some v->w'.cell? ⟨b,j,none⟩=some v:=λ{b j v} e=>by
  rw[H.cell (p:=⟨b,j,none⟩) (World.block_lt_of_cell? w _ e)];exact e
 obtain⟨k,o,cap,h1,h2,h3,h4⟩:=h.nm;refine⟨λi hi=>c (h.tk i hi),λi hi=>c (h.pt i hi),k,o,cap,c h1,h2,λj J=> ?_,λi hi=>c (h4 i hi)⟩;rw[H.cell (p:=⟨k,o+j,none⟩) (aBj (h3 j J))];exact h3 j J
def GlobQ (d:Ad3) (w:World):Prop:=GlobP d w/\GlobT w
theorem GlobQ.below (h:GlobQ d w) (H:Below w.heap.size w w'):GlobQ d w':=⟨GlobP.below h.1 H,h.2.below H⟩
def tkB:Blk:={n:=10,sz:=1,get:=λe=> [.val (.int .i64 (gi e))],kd:= .glb}
def ptB:Blk:={n:=10,sz:=1,get:=λe=> [.val (.int .i64 (lj e))],kd:= .glb}
def nmB:Blk:={n:=1,sz:=1,get:=λ_=> [.slc 14 0 10],kd:= .glb}
def nsB:Blk:={n:=10,sz:=1,get:=λe=> [.val (.string (eo e))],kd:= .old}
def blG (Bs:zdV) (i:Nat):Option Blk:=bif Nat.beq i 0 then some tkB else bif Nat.beq i 1 then some ptB else bif Nat.beq i 3 then some nmB else bif Nat.blt i 14 then none else bif Nat.beq i 14 then some nsB else Bs[i - (14+1)]?
def az1 (k o cap:Nat) (βB:Nat->Go.Sy.Loc) (i:Nat):Go.Sy.Loc:=bif Nat.beq i 14 then⟨k,o,1,cap,false⟩ else bif Nat.beq i 3 then⟨i,0,1,1,false⟩ else bif Nat.blt i 14 then⟨i,0,1,10,false⟩ else βB (i - (14+1))
variable {β:Nat->Go.Sy.Loc} {B:Blk}
theorem K2 {id:Nat} {o0 cap:Nat} (hβ:β id=⟨b,o0,1,cap,false⟩) (N:B.sz=1) (hn:B.n<=cap) (hk:B.kd≠ .own) (hp:0<cap) (Y: ∀j,j<cap->(w.cell? ⟨b,o0+j,none⟩).isSome=true)
 (hg: ∀e,e<B.n-> ∃s,B.get e= [s]/\w.cell? ⟨b,o0+e,none⟩=some (s.conc β)):BlkOK β id B w:=by
 refine⟨by rw[hβ,N],λ_=>by rw[hβ];exact aBj (Y 0 hp),by rw[hβ];exact hn,λe J=> ?_,λj hj=> ?_,λh=>absurd h hk,λe J o s H=> ?_,λh=>(by rw[hβ] at h;cases h),λ_=>by rw[hβ]⟩
 ·obtain⟨s,h1,_⟩:=hg e J;rw[h1,N];rfl
 ·rw[hβ,N] at hj;rw[hβ];simpa using Y j (by simpa using hj)
 ·obtain⟨s',h1,h2⟩:=hg e J;rw[h1] at H;cases o with
  |succ o=>simp at H
  |zero=>
   simp only[zbB,za1] at H;subst H;unfold addr;rw[hβ];simpa using h2
variable {βB:Nat->Go.Sy.Loc} {i:Nat}
theorem aDj (h:BlkOK βB j B w) (hl:β i=βB j) (J: ∀e,e<B.n->SV.idss (B.get e)= []):BlkOK β i B w:=
 wD (i1:=j) h hl.symm rfl (za0 _) id (λh=> .inl h) λe N=>⟨rfl,λo s H=>⟨s,H,SV.conc_congr s λj Y=>by
  have:j∈SV.idss (B.get e):=SV.mem_idss.2 ⟨s,zal H,Y⟩
  rw[J e N] at this;cases this⟩⟩
variable {Bs:zdV}
theorem vq {C:Blk} (h:blG Bs i=some C):(i=0/\C=tkB)\/(i=1/\C=ptB)\/(i=3/\C=nmB)\/(i=14/\C=nsB)\/ ∃j,i=14+1+j/\Bs[j]? =some C:=by
 unfold blG at h;simp only[bS,aB] at h;by_cases h1:i=0
 ·rw[zdq h1,zds,za1] at h;exact .inl ⟨h1,h.symm⟩
 rw[zdt h1,zdr] at h;by_cases h2:i=1
 ·rw[zdq h2,zds,za1] at h;exact .inr (.inl ⟨h2,h.symm⟩)
 rw[zdt h2,zdr] at h;by_cases h3:i=3
 ·rw[zdq h3,zds,za1] at h;exact .inr (.inr (.inl ⟨h3,h.symm⟩))
 rw[zdt h3,zdr] at h;by_cases h4:i<14
 ·rw[zdq h4] at h;cases h
 rw[zdt h4,zdr] at h;by_cases h5:i=14
 ·rw[zdq h5,zds,za1] at h;exact .inr (.inr (.inr (.inl ⟨h5,h.symm⟩)))
 rw[zdt h5,zdr] at h;exact .inr (.inr (.inr (.inr ⟨i - (14+1),by omega,h⟩)))
theorem aCw (hi:14+1+Bs.length<=i):blG Bs i=none:=by
 cases h:blG Bs i with
 |none=>rfl
 |some C=>
  rcases vq h with ⟨rfl,_⟩|⟨rfl,_⟩|⟨rfl,_⟩|⟨rfl,_⟩|⟨j,rfl,H⟩
  ·exact absurd hi (by omega)
  ·exact absurd hi (by omega)
  ·exact absurd hi (by omega)
  ·exact absurd hi (by omega)
  ·have:=(zaV.1 H).1;omega
theorem aBk (h:GlobT w) (hB: ∀(i:Nat) (B:Blk),Bs[i]? =some B->BlkOK βB i B w/\B.kd= .old/\ ∀e,e<B.n->SV.idss (B.get e)= []):
 ∃β:Nat->Go.Sy.Loc,BC w (blG Bs) β w/\ ∀i,β (14+1+i)=βB i:=by
 obtain⟨k,o,cap,n1,n2,n3,n4⟩:=h.nm;refine⟨az1 k o cap βB, ?_,λi=> ?_⟩
 ·have eT:az1 k o cap βB 0=⟨0,0,1,10,false⟩:=rfl;have eP:az1 k o cap βB 1=⟨1,0,1,10,false⟩:=rfl;have eN:az1 k o cap βB 3=⟨3,0,1,1,false⟩:=rfl;have eS:az1 k o cap βB 14=⟨k,o,1,cap,false⟩:=rfl;have eB: ∀j,az1 k o cap βB (14+1+j)=βB j:=λj=>by
   unfold az1;simp only[bS,aB];rw[zdt (by omega),zdt (by omega),zdt (by omega)];simp only[zdr]
   congr 1;omega
  have ok: ∀i C,blG Bs i=some C->BlkOK (az1 k o cap βB) i C w:=λi C H=>by
   rcases vq H with ⟨rfl,rfl⟩|⟨rfl,rfl⟩|⟨rfl,rfl⟩|⟨rfl,rfl⟩|⟨j,rfl,hj⟩
   ·exact K2 eT rfl (za0 _) (by simp[tkB]) (by decide) (λj hj=>by rw[za7,h.tk j hj];rfl) λe he=>⟨_,rfl,by rw[za7];exact h.tk e he⟩
   ·exact K2 eP rfl (za0 _) (by simp[ptB]) (by decide) (λj hj=>by rw[za7,h.pt j hj];rfl) λe he=>⟨_,rfl,by rw[za7];exact h.pt e he⟩
   ·refine K2 eN rfl (za0 _) (by simp[nmB]) (by decide) (λj hj=> ?_) λe he=>⟨_,rfl, ?_⟩
    ·obtain rfl:j=0:=by omega
     rw[n1];rfl
    ·obtain rfl:e=0:=by have:e<1:=he;omega
     rw[n1,jq (by rw[eS]) (.inr rfl)];unfold addr;rw[eS];rfl
   ·exact K2 eS rfl n2 (by simp[nsB]) (by omega) n3 λe he=>⟨_,rfl,n4 e he⟩
   ·obtain⟨q1,_,q3⟩:=hB j C hj;exact aDj q1 (eB j) q3
  have kd: ∀i C,blG Bs i=some C->C.kd.fix=true:=λi C H=>by
   rcases vq H with ⟨rfl,rfl⟩|⟨rfl,rfl⟩|⟨rfl,rfl⟩|⟨rfl,rfl⟩|⟨j,rfl,hj⟩
   ·rfl
   ·rfl
   ·rfl
   ·rfl
   ·rw[(hB j C hj).2.1];rfl
  have a0: ∀{i C},blG Bs i=some C->C.kd≠ .own:=λ{i C} H e=>by have:=kd i C H;rw[e] at this;cases this
  have N: ∀{i C},blG Bs i=some C->C.kd.map=true->False:=λ{i C} H e=>BK.fix_nm e (kd i C H);have e0: ∀{i C},blG Bs i=some C->C.kd.lst=true->False:=λ{i C} H e=>N H (BK.lst_map e);have g0: ∀{i C},blG Bs i=some C->C.kd.it=true->False:=λ{i C} H e=>N H (BK.it_map e);refine⟨Pres.refl _,λid C H _=>ok id C H,λid C H ho=>absurd ho (a0 H),λid C H hk hn=>⟨⟨?_,rfl⟩,λhg=> ?_⟩,λid id' C C' H _ ho _ _ _ _=>absurd ho (a0 H),λid C e o s H _ he J=> ?_,⟨λid C H Y=>(N H Y).elim,λid id' C C' H _ Y=>(N H Y).elim,λid C e s H Y=>(e0 H Y).elim,λid C H Y=>(g0 H Y).elim⟩⟩
  ·intro Y;have:=(ok id C H).lt hn;rcases Y with Y|Y
   ·exact absurd this (Nat.not_lt.2 Y)
   ·cases Y
  ·rcases vq H with ⟨rfl,rfl⟩|⟨rfl,rfl⟩|⟨rfl,rfl⟩|⟨rfl,rfl⟩|⟨j,rfl,hj⟩
   ·exact⟨rfl,rfl⟩
   ·exact⟨rfl,rfl⟩
   ·exact⟨rfl,rfl⟩
   ·cases hg
   ·rw[(hB j C hj).2.1] at hg;cases hg
  ·intro i hi;rcases vq H with ⟨rfl,rfl⟩|⟨rfl,rfl⟩|⟨rfl,rfl⟩|⟨rfl,rfl⟩|⟨j,rfl,hj⟩
   ·have J:=zal J;simp only[tkB,zaj] at J;subst J;simp[SV.ids] at hi
   ·have J:=zal J;simp only[ptB,zaj] at J;subst J;simp[SV.ids] at hi
   ·have J:=zal J;simp only[nmB,zaj] at J;subst J;simp only[SV.ids,zaj] at hi;subst hi;show blG Bs 14≠none;show some nsB≠none;simp
   ·have J:=zal J;simp only[nsB,zaj] at J;subst J;simp[SV.ids] at hi
   ·have:i∈SV.idss (C.get e):=SV.mem_idss.2 ⟨s,zal J,hi⟩;rw[(hB j C hj).2.2 e he] at this;cases this
 ·unfold az1;simp only[bS,aB];rw[zdt (by omega),zdt (by omega),zdt (by omega)];simp only[zdr]
  congr 1;omega
abbrev aEi (d:Ad3) (g:List (FuncId×Ctr)) (gm:zdX) (ann:zdW) (n:Nat) (f:FuncId) (args:zdK) (K:zdS):Prop:=wn prog (iR M9) (gw g) (gx gm) (ax8 d) ann n f args (blG []) (14+1) [] (Go.Sy.okK λr _ _ _=>K r)
def svX (x:InX):zdK:= [.val (.int .i64 x.1), .val (.int .i64 x.2.1), .val (.string x.2.2.1), .val (.string x.2.2.2)]
def ofX:List SV->InX
 | [.val (.int .i64 a), .val (.int .i64 b), .val (.string c), .val (.string d)]=>(a,b,c,d)
 |_=>(0,0,aFn)
def eX:El InX:={sz:=4,sv:=svX,of:=ofX,d:=(0,0,aFn),rt:=λ_=>rfl,ids:=λ_=>rfl,len:=λ_=>rfl,one:=by decide}
structure GQk (g:List (FuncId×Ctr)):Prop where
 all: ∀(d:Ad3) (W:World),GlobQ d W-> ∀p∈g,CtrOK prog W p.1 p.2/\Callable prog p.1
variable {g:List (FuncId×Ctr)}
theorem GQk.of (h:GPk g):GQk g:=⟨λd W H=>h.all d W H.1⟩
variable {F:FuncId}
theorem GQk.cons {c:Ctr} (h:GQk g) (k: ∀(d:Ad3) (W:World),GlobQ d W->CtrOK prog W F c) (J:Callable prog F):GQk ((F,c)::g):=⟨λd W H p hp=>by
 rcases zai.1 hp with rfl|hp
 ·exact⟨k d W H,J⟩
 ·exact h.all d W H p hp⟩
def GlobQB (d:Ad3) (B:Base):Prop:= ∀w,Pres B w->GlobQ d w
variable {d:Ad3} {B:Base}
theorem GlobQB.p (h:GlobQB d B):GlobPB d B:=λw H=>(h w H).1
theorem GlobQB.of {W:World} (h:GlobQ d W):GlobQB d W:=λw H=>h.below H.below
theorem GlobQB.sub {W:Base} (h:GlobQB d W) (s:SubB B W):GlobQB d B:=λw H=>h w (s.pres H)
variable {gm:zdX}
theorem aE4 (hg:GQk g) (H:MPk d gm) (hB:GlobQB d B):HypD prog B (iR M9) (gw g) (gx gm) (ax8 d):=
 have h:Hyp prog B (iR M9) (gw g) (gx gm):=mW (λp hp=>⟨CtrOK.base λw J=>(hg.all d w (hB w J) p hp).1,(hg.all d B.w (hB B.w (Pres.self B)) p hp).2⟩) (λB' s=>H.all B' (hB.sub s).p) aAj (by kernel_rfl)
 ⟨h.gam,h.mem,(aCW (GPk.of (GEk.of GOk.nil)) (MPk.of (MEk.nil (a:=d.e))) hB.p).dem,h.ok,h.mixed⟩
theorem azJ (h:GQk g) (hm:MPk d gm) {W0:World} (hg:GlobQ d W0) {ann:zdW} {n:Nat} {args:zdK} {r:SV} (J:SV.idss args= []) (hr:r.ids= []) (Y:aEi d g gm ann n F args (λs=>s=r)):Go.Sy.Yields prog W0 F args r:=by
 intro β w hb;obtain⟨β0,N,_⟩:=aBk (hg.2.below hb) (Bs:= []) (βB:=oj) (λi B h=>by simp at h);have H: ∀s∈args,s.ids= []:=λs hs=>zdg.2 λi hi=>by
  have:i∈SV.idss args:=SV.mem_idss.2 ⟨s,hs,hi⟩;rw[J] at this;cases this
 have ea:SV.concs β0 args=SV.concs β args:=by
  rw[SV.concs_eq,SV.concs_eq];exact zbI λs hs=>SV.conc_congr s λi hi=>by rw[H s hs] at hi;cases hi
 obtain⟨_,hc⟩:=(mV (aE4 h hm (GlobQB.of (hg.below hb))) ann n).call F args (blG []) (14+1) [] _ β0 w Y N (λi hi=>aCw (by simpa using hi)) (λs hs i hi=>by
  rw[H s hs] at hi;cases hi)
 rw[ea] at hc;refine Calls.mono hc ?_;rintro e w' ⟨β',s,bl',e0,g0,he,hk,a0,_⟩;cases s with
 |pan v=>exact hk.elim
 |ok s=>
 obtain rfl:e=_:=he;obtain rfl:s=_:=hk;exact⟨by rw[SV.conc_congr s (β:=β) (β':=β') (λi hi=>by rw[hr] at hi;cases hi)],a0.below.below⟩
def cB8:Cod Int where
 dec s:=match s with
  | .val (.int .u8 a)=>some a
  |_=>none
 enc a:= .val (.int .u8 a)
 ok s a h:=by
  split at h
  ·simp at h;rw[h]
  ·cases h
 ids _:=by simp[SV.ids]
def aAz (s:zdH) (n:Int):Int:=if n<(s.size:Int) then n else(s.size:Int)
def aA4 (s:zdH) (n:Int):zdH:=s.extract 0 (aAz s n).toNat
def aBl (s:zdH) (k b:Int):zdH:=s.extract 0 k.toNat++⟨#[UInt8.ofNat b.toNat]⟩++s.extract (k+1).toNat s.size
def aA5 (s:zdH) (n b:Int):zdH:=bif seq s ⟨#[]⟩ then s else aBl s (co n s.size) b
theorem aCx (d:Ad3) (s:zdH) (n:Int) (K:zdS):my d [] [] (λ_ _=>none) 6 10 [cS.enc s,cI.enc n] K=ah (decide (0<=aAz s n)&&decide (aAz s n<=(s.size:Int))) (K (cS.enc (aA4 s n))):=by kernel_rfl
variable {s:zdH}
theorem aDk {n:Int} (h:0<=n):0<=aAz s n/\aAz s n<=(s.size:Int)/\aAz s n<=n:=by
 unfold aAz;split<;>omega
theorem aDl:GPk []:=GPk.of (GEk.of GOk.nil)
variable {d:Ad3} {W:World}
theorem aBJ (H:GlobP d W):CtrOK prog W 10 (k2 cS cI cS (λ_ n=>decide (0<=n)) aA4):=bC λs n h=>by
 refine gn aDl (MPk.of MEk.nil) H (ann:=λ_ _=>none) (n:=6) de (cS.ids _) ?_;rw[aCx];obtain⟨h1,h2,_⟩:=aDk (s:=s) (zdv h);exact ac (by rw[zdq h1,zdq h2];rfl) rfl
def aCy (s:zdH) (k b:Int) (K:zdS):Prop:=ah (decide (0<=k)&&decide (k<=(s.size:Int))) (fy (s.extract 0 k.toNat) ⟨#[UInt8.ofNat b.toNat]⟩ (ah (inR .i64 (k+1)) (ah (decide (0<=k+1)&&decide (k+1<=(s.size:Int))) (fy (s.extract 0 k.toNat++⟨#[UInt8.ofNat b.toNat]⟩) (s.extract (k+1).toNat s.size) (K (cS.enc (aBl s k b)))))))
theorem aEj (d:Ad3) (s:zdH) (n b:Int) (K:zdS):my d [] [] (λ_ _=>none) 6 11 [cS.enc s,cI.enc n,cB8.enc b] K=
 ag (seq s ⟨#[]⟩) (K (cS.enc s)) (ag (decide (n<0)) (ah (inR .i64 (n+1)) (ah (inR .i64 (-(n+1))) (ah (!decide ((s.size:Int)=0)) (aCy s ((-(n+1)).tmod s.size) b K)))) (ah (!decide ((s.size:Int)=0)) (aCy s (n.tmod s.size) b K))):=by kernel_rfl
variable {K:zdS}
theorem aCz {k b:Int} (J:s.size<=1000000) (h:0<=k/\k<(s.size:Int)) (H:K (cS.enc (aBl s k b))):aCy s k b K:=by
 have N:(s.extract 0 k.toNat).size<=s.size:=by rw[ByteArray.size_extract];omega
 have Y:(s.extract (k+1).toNat s.size).size<=s.size:=by rw[ByteArray.size_extract];omega
 have z3:(⟨#[UInt8.ofNat b.toNat]⟩:zdH).size=1:=rfl;refine ac (by rw[zdq h.1,zdq (by omega)];rfl) (ac (zdq (by omega)) (ac (ej (by omega) (by omega)) (ac (by rw[zdq (by omega),zdq (by omega)];rfl) (ac (zdq (by rw[ByteArray.size_append];omega)) H))))
theorem aDm (N:GlobP d W):CtrOK prog W 11 (k3 cS cI cB8 cS (λs n _=>decide (s.size<=1000000)&&cl n) aA5):=sQ λs n b h=>by
 rw[za2] at h;have J:=zdv h.1;have Y:=V4.1 h.2;refine gn aDl (MPk.of MEk.nil) N (ann:=λ_ _=>none) (n:=6) AW (cS.ids _) ?_;rw[aEj];unfold aA5;refine ce (λe=>by rw[e];rfl) λe=> ?_;rw[e,zdr];have h0:(s.size:Int)≠0:=λq=>by
  have:s=⟨#[]⟩:=gT (zau (by rw[bj];omega));rw[this] at e;exact absurd (ayR.2 rfl) (by rw[e];simp)
 have H:(!decide ((s.size:Int)=0))=true:=by rw[zdt h0];rfl
 have hp:=gR n (n:=(s.size:Int)) (by omega);unfold co at hp ⊢;refine ce (λq=> ?_) λq=> ?_
 ·rw[q,zds] at hp ⊢;have q:=zdv q;exact ac (Wl.2 ⟨by show (-9223372036854775808:Int)<=_;omega,by show _<=(9223372036854775807:Int);omega⟩) (ac (Wl.2 ⟨by show (-9223372036854775808:Int)<=_;omega,by show _<=(9223372036854775807:Int);omega⟩) (ac H (aCz J hp rfl)))
 ·rw[q,zdr] at hp ⊢;exact ac H (aCz J hp rfl)
def puB (v:RS):zdH:=⟨#[u8b 0,u8b (IntKind.u8.wrap (((gk v).size:Int).tdiv 256)),u8b (IntKind.u8.wrap (gk v).size)]⟩
theorem aE5 (d:Ad3) (v:RS) (K:zdS):my d gLn [] (λ_ _=>none) 6 31 [cR.enc v] K=ah (uzR v) (ah (!decide ((256:Int)=0)&&inR .i64 (((gk v).size:Int).tdiv 256)) (fy (puB v) (gk v) (K (cS.enc (puB v++gk v))))):=by kernel_rfl
theorem aEk (Y:GlobP d W):CtrOK prog W 31 (k1 cR cS rV λv=>cu (0,0,v)):=dD λv J=>by
 refine gn aBh (MPk.of MEk.nil) Y (ann:=λ_ _=>none) (n:=6) m8 (cS.ids _) ?_;rw[aE5];have zp:=iU J;have H:(((gk v).size:Int).tdiv 256)=(((gk v).size / 256:Nat):Int):=by
  rw[Int.tdiv_eq_ediv_of_nonneg (Int.natCast_nonneg _)];rfl
 have N:puB v++gk v=cu (0,0,v):=by
  unfold puB;rw[H,ayp (Int.natCast_nonneg _),ayp (Int.natCast_nonneg _)];unfold cu cn
  exact gT (by
   simp[eD,u8b]
   exact congrArg UInt8.ofNat (by omega))
 refine ac (Ie J) (ac (by rw[H,ej (by omega) (by omega)];rfl) (ac (zdq ?_) ?_))
 ·show 3+(gk v).size<=_;omega
 ·rw[N]
theorem aE6 (d:Ad3) (n b:Int) (K:zdS):my d [] [] (λ_ _=>none) 6 32 [cI.enc n,cI.enc b] K=ag (bif n==1 then true else n==2) (K (cS.enc ⟨#[u8b (IntKind.u8.wrap n),u8b (IntKind.u8.wrap b)]⟩)) (K (cS.enc ⟨#[u8b (IntKind.u8.wrap n)]⟩)):=by kernel_rfl
theorem aEl (J:GlobP d W):CtrOK prog W 32 (k2 cI cI cS (λn b=>decide (1<=n)&&decide (0<=b)) λn b=>cu (n,b,noR)):=bC λn b h=>by
 rw[za2,zdu,zdu] at h;refine gn aDl (MPk.of MEk.nil) J (ann:=λ_ _=>none) (n:=6) de (cS.ids _) ?_;rw[aE6,ayp (by omega),ayp h.2];have c0:(n==0)=false:=by rw[zdx];omega
 unfold cu cn;dsimp only;rw[c0];refine ce (λe=> ?_) λe=> ?_
 ·have H:(n==1||n==2)=true:=by
   cases h1:n==1 with
   |true=>rfl
   |false=>rw[h1,zdr] at e;rw[e];rfl
  rw[H];rfl
 ·have H:(n==1||n==2)=false:=by
   cases h1:n==1 with
   |true=>rw[h1] at e;cases e
   |false=>rw[h1,zdr] at e;rw[e];rfl
  rw[H];rfl
def aEm:List (FuncId×Ctr):=(111,k1 cI cS cl ofI)::gLn
theorem aCA:GPk aEm:=aBh.cons (λd W H=>(WK.all W H.1.1 (111,k1 cI cS cl ofI) (by simp[KL])).1) call111
def aEn (x:InX) (K:zdS):Prop:=ag (x.1==0)
 (ayN x (fy (eo (0+x.1.toNat)) sp11 (ah (uzR x.2.2) (fy (eo (0+x.1.toNat)++sp11) (gk x.2.2) (K (cS.enc (eo (0+x.1.toNat)++sp11++gk x.2.2)))))))
 (ag (x.1==1) (ag (x.1==1) (ayN x (lnT11.lnN x K)) (ayN x (K (cS.enc (eo (0+x.1.toNat)))))) (ag (x.1==2) (ayN x (lnT11.lnN x K)) (ayN x (K (cS.enc (eo (0+x.1.toNat)))))))
theorem aEo (d:Ad3) (op n:Int) (v:RS) (K:zdS):aEi d aEm [] (λ_ _=>none) 6 34 [cIn.enc (op,n,v)] K=aEn (op,n,v) K:=by kernel_rfl
theorem aEp {x:InX} (h0:0<=x.1) (h1:x.1<10) (h:lnT11 x K):aEn x K:=by
 have hi: ∀{P:Prop},P->ayN x P:=λp=>ac (by rw[zdq h0,zdq h1];rfl) (ac (zdq (by omega)) p);have h:=h () trivial;unfold ayN at h;rw[show (decide (0<=x.1)&&decide (x.1<10))=true by rw[zdq h0,zdq h1];rfl,show decide (0+x.1.toNat<10)=true from zdq (by omega)] at h;unfold aEn;have h:ag (x.1==0)
  (fy (eo (0+x.1.toNat)) sp11 (ah (uzR x.2.2) (fy (eo (0+x.1.toNat)++sp11) (gk x.2.2) (K (cS.enc (eo (0+x.1.toNat)++sp11++gk x.2.2))))))
  (ag (x.1==1) (ag (x.1==1) (lnT11.lnN x K) (K (cS.enc (eo (0+x.1.toNat))))) (ag (x.1==2) (lnT11.lnN x K) (K (cS.enc (eo (0+x.1.toNat)))))):=h
 cases c0:x.1==0 with
 |true=>rw[c0] at h;exact hi h
 |false=>
  rw[c0] at h;cases H:x.1==1 with
  |true=>rw[H] at h;exact hi h
  |false=>
   rw[H] at h;cases c2:x.1==2 with
   |true=>rw[c2] at h;exact hi h
   |false=>rw[c2] at h;exact hi h
theorem aDn (H:GlobQ d W):CtrOK prog W 34 (k1 cIn cS uo eh):=dD λx h=>by
 refine azJ (GQk.of aCA) (MPk.of MEk.nil) H (ann:=λ_ _=>none) (n:=6) m8 (cS.ids _) ?_;rw[show x=(x.1,x.2.1,x.2.2) from rfl,aEo];obtain⟨h0,h1,_,_⟩:=azh h;exact aEp h0 h1 (aAw (K:=λr=>r=_) h rfl)
def azk (l:List InX):Bool:=bif decide ((l.length:Int)>0) then(eX.nth l (0+((l.length:Int) - 1).toNat)).1==9 else false
def aAA (l:List InX) (rem:List UInt8):Option (List InX):=bif rem.isEmpty then(bif azk l then some l else none) else(iI rem.length rem).map (l++ ·)
theorem azK: ∀{k m:Nat} {s:List UInt8},s.length<=k->s.length<=m->iI k s=iI m s
 |0,0,_,_,_=>rfl
 |0,m+1,s,h,_=>by
  have:s= []:=zau (by omega);subst this;rfl
 |k+1,0,s,_,h=>by
  have:s= []:=zau (by omega);subst this;rfl
 |k+1,m+1,s,h1,h2=>by
  unfold iI;cases hi:vC s with
  |none=>rfl
  |some p=>
   obtain⟨x,r⟩:=p;dsimp only;have H:=(pw hi).2.1;have J:=pr x;rw[H,za3] at h1 h2;rw[azK (k:=k) (m:=m) (by omega) (by omega)]
variable {l:List InX} {x:InX}
theorem aBK:eX.nth (l++ [x]) l.length=x:=by
 unfold El.nth;exact bR (by simp)
theorem aBL (l:List InX) (x:InX):azk (l++ [x])=(x.1==9):=by
 unfold azk;have H:(l++ [x]).length=l.length+1:=by simp
 rw[H,zdq (by omega),zds,show 0+(((l.length+1:Nat):Int) - 1).toNat=l.length by omega,aBK]
variable {rem:List UInt8}
theorem azL (h:vC rem=none) (H:rem≠ []):aAA l rem=none:=by
 unfold aAA;cases rem with
 |nil=>exact absurd rfl H
 |cons b t=>
  show (iI (t.length+1) (b::t)).map _=none;unfold iI;rw[h];rfl
theorem aBM {r:List UInt8} (h:vC rem=some (x,r)):aAA l rem=aAA (l++ [x]) r:=by
 obtain⟨_,hs,h9⟩:=pw h;have hp:=pr x;have H:rem.isEmpty=false:=by
  cases rem with
  |nil=>cases h
  |cons b t=>rfl
 have hl:=congrArg List.length hs;rw[za3] at hl;have J:iI rem.length rem=bif x.1==9 then some [x] else(iI r.length r).map (x:: ·):=by
  obtain⟨k,Y⟩: ∃k,rem.length=k+1:=⟨rem.length - 1,by omega⟩;rw[Y]
  conv=>lhs;unfold iI
  rw[h];dsimp only;rw[azK (k:=k) (m:=r.length) (by omega) (za0 _)]
 unfold aAA;rw[H,zdr,J,aBL];cases N:x.1==9 with
 |true=>
  have:=h9 (by simpa using N);subst this;rfl
 |false=>
  cases r with
  |nil=>rfl
  |cons c u=>
   show ((iI (c::u).length (c::u)).map (x:: ·)).map (l++ ·)=(iI (c::u).length (c::u)).map ((l++ [x])++ ·);cases iI (c::u).length (c::u) with
   |none=>rfl
   |some m=>simp
abbrev IX11:=Int×List InX
abbrev azl:=Int×ByteArray
def aE7 (I:IX11->Prop) (N:Int):zdW:=λf k=>bif Nat.beq f 33&&Nat.beq k 5 then some (λA=>{X:=IX11,inv:=I,tm:=λx=> [(5, .val (.int .i64 x.1)),(4, .slc A.nx 0 x.2.length)],gr:= [{src:= .slot 4,sz:=4,n:=λx=>x.2.length,get:=λx=>eX.get x.2}],cleanG:=λg hg x e=>(by simp at hg;subst hg;exact eX.ids _),mu:=λx=>(N - x.1).toNat,keep:= [0]}) else none
def aBm (J:azl->Prop) (I:IX11->Prop) (N:Int):zdW:=λf k=>bif Nat.beq f 9&&Nat.beq k 6 then some (λA=>{X:=azl,inv:=J,tm:=λx=> [(7, .val (.int .i64 x.1)),(6, .val (.string x.2))],mu:=λx=>(N - x.1).toNat,keep:= [4]}) else aE7 I N f k
def aDE:List (FuncId×Ctr):=(34,k1 cIn cS uo eh)::aEm
def bI (s:zdH) (i:Int):Int:=F6 s i.toNat
def aAB (s:zdH) (i:Int) (K:Prop):Prop:=ah (decide (0<=i)&&decide (i<(s.size:Int))) (ah (inR .i64 (bI s i)) K)
def aCB (l:List InX) (v:InX):zdN:=ald (eX.get l) (λe=>((svX v).drop (e*4)).take 4) l.length 0
def aFl (n:Nat) (K:Prop):Prop:=ah (decide (0<1)&&decide (0+1<=1)&&decide (n<=n)&&decide ((n+1)*48<=140737488355328)&&true) K
def aE8 (q:Nat) (s:zdH) (i:Int) (m:Nat) (g:zdN) (z:IX11):Prop:=(TV.v (cI.enc i)=TV.v (cI.enc z.1)/\TV.v (.slc q 0 m)=TV.v (.slc q 0 z.2.length)/\TV.v (cS.enc s)=TV.v (cS.enc s)/\True)/\(True/\(True/\(ah (Nat.beq 4 4&&decide (z.2.length<=m)) (∀e,e<z.2.length->g e=eX.get z.2 e)/\True)))
def aEq (I:IX11->Prop) (N:Int) (s:zdH) (z:IX11) (exit:Prop) (q:Nat) (i:Int) (x:InX):Prop:=ag (bif decide (x.1>9) then true else bif x.1==9 then i !=(s.size:Int) else false) exit
 (aFl z.2.length (∃H:IX11,I H/\((N - H.1).toNat<(N - z.1).toNat/\aE8 q s i (z.2.length+1) (aCB z.2 x) H)))
def aCC (s:zdH) (i:Int) (op:Int) (exit:Prop) (next:Int->InX->Prop):Prop:=ag (decide (i≥(s.size:Int))) exit (aAB s i (ah (inR .i64 (i+1)) (ag (bif (bif op==1 then decide (bI s i≥6) else false) then true else decide (bI s i>15)) exit (next (i+1) (op,bI s i,aFn)))))
def aEr (s:zdH) (i:Int) (op:Int) (exit:Prop) (next:Int->InX->Prop):Prop:=ah (inR .i64 (i+2)) (ag (decide (i+2>(s.size:Int))) exit
 (aAB s i (ah (inR .i64 (256*bI s i)) (ah (inR .i64 (i+1)) (aAB s (i+1) (ah (inR .i64 (256*bI s i+bI s (i+1))) (ah (inR .i64 (i+2)) (ah (inR .i64 (i+2+(256*bI s i+bI s (i+1))))
   (ag (decide (i+2+(256*bI s i+bI s (i+1))>(s.size:Int))) exit (ah (inR .i64 (i+2+(256*bI s i+bI s (i+1))))
     (ah (decide (0<=i+2)&&decide (i+2<=i+2+(256*bI s i+bI s (i+1)))&&decide (i+2+(256*bI s i+bI s (i+1))<=(s.size:Int)))
       (ah (decide ((s.extract (i+2).toNat (i+2+(256*bI s i+bI s (i+1))).toNat).size<=100000)) (ag ((DR (s.extract (i+2).toNat (i+2+(256*bI s i+bI s (i+1))).toNat)).2 !=0) exit
         (ah (inR .i64 (i+2+(256*bI s i+bI s (i+1)))) (next (i+2+(256*bI s i+bI s (i+1))) (op,0,(DR (s.extract (i+2).toNat (i+2+(256*bI s i+bI s (i+1))).toNat)).1))))))))))))))))
def aDF (s:zdH) (i:Int) (exit:Prop) (next:Nat->Int->InX->Prop):Prop:=aAB s i (ah (inR .i64 (i+1)) (ag (bI s i==0) (aEr s (i+1) (bI s i) exit (next (14+95)))
 (ag (bI s i==1) (ag (bI s i==1) (aCC s (i+1) (bI s i) exit (next (14+75))) (next (14+49) (i+1) (bI s i,0,aFn))) (ag (bI s i==2) (aCC s (i+1) (bI s i) exit (next (14+77))) (next (14+51) (i+1) (bI s i,0,aFn))))))
def aE9 (n:Nat) (i:Int) (t:zdH) (y:azl):Prop:=(TV.v (cI.enc i)=TV.v (cI.enc y.1)/\TV.v (cS.enc t)=TV.v (cS.enc y.2)/\TV.v (.slc (14+11) 0 n)=TV.v (.slc (14+11) 0 n)/\True)/\(True/\(True/\True))
def aEs (J:azl->Prop) (N:Int) (l:List InX) (K:zdS):Prop:= ∃Y:azl,J Y/\(aE9 l.length 0 ⟨#[]⟩ Y/\ ∀y:azl,J y->ag (decide (y.1<(l.length:Int)))
 (eO l.length y.1 (ah (uo (eX.nth l (0+y.1.toNat))) (fy y.2 (eh (eX.nth l (0+y.1.toNat))) (fy (y.2++eh (eX.nth l (0+y.1.toNat))) nl11 (ah (inR .i64 (y.1+1))
   (∃H:azl,J H/\((N - H.1).toNat<(N - y.1).toNat/\aE9 l.length (y.1+1) (y.2++eh (eX.nth l (0+y.1.toNat))++nl11) H)))))))
 (K ((cP cS cI).enc (y.2,0))))
def aFa (J:azl->Prop) (N:Int) (l:List InX) (exit:Prop) (K:zdS):Prop:=ah (dC (decide ((l.length:Int)>0)) (inR .i64 ((l.length:Int) - 1))) (ah (dC (decide ((l.length:Int)>0)) (decide (0<=(l.length:Int) - 1)&&decide ((l.length:Int) - 1<(l.length:Int))&&decide (0+((l.length:Int) - 1).toNat<l.length)))
 (ah (dC (decide ((l.length:Int)>0)) (decide (0+((l.length:Int) - 1).toNat<l.length))) (ag (!azk l) exit (aEs J N l K))))
def aDG (J:azl->Prop) (I:IX11->Prop) (N:Int) (s:zdH) (K:zdS):Prop:=ag (decide ((s.size:Int)>4096)) (K ((cP cS cI).enc (⟨#[]⟩,110)))
 (∃H:IX11,I H/\(((TV.v (cI.enc 0)=TV.v (cI.enc H.1)/\TV.v (.val (.slice none 0 0))=TV.v (.val (.slice none H.2.length 0))/\TV.v (cS.enc s)=TV.v (cS.enc s)/\True)/\(True/\(True/\(H.2.length=0/\True))))/\ ∀z:IX11,I z->
   ag (decide (z.1<(s.size:Int))) (aDF s z.1 (K ((cP cS cI).enc (⟨#[]⟩,110))) (aEq I N s z (K ((cP cS cI).enc (⟨#[]⟩,110))))) (aFa J N z.2 (K ((cP cS cI).enc (⟨#[]⟩,110))) K)))
theorem aDo (d:Ad3) (J:azl->Prop) (I:IX11->Prop) (N:Int) (s:zdH) (K:zdS):aEi d aDE [] (aBm J I N) 12 9 [cS.enc s] K=aDG J I N s K:=by kernel_rfl
def ayG (s:zdH) (i:Int) (x:InX):Bool:=bif decide (x.1>9) then true else bif x.1==9 then i !=(s.size:Int) else false
theorem aEt (s:zdH) (a b:Nat):(s.extract a b).data.toList=(s.data.toList.drop a).take (b - a):=by
 rw[zdl];simp[List.take_drop]
variable {s:zdH} {i:Int} {b:UInt8} {t:List UInt8}
theorem aAC (h:s.data.toList.drop i.toNat=b::t):bI s i=(b.toNat:Int):=by
 unfold bI;refine ayo ?_;have:=congrArg (λl=>l[0]?) h;simpa using this
theorem aAD (b:UInt8):((b.toNat:Nat):Int)<=255:=by
 have:=b.toNat_lt;omega
theorem aBn {K:Prop} (h0:0<=i) (h:s.data.toList.drop i.toNat=b::t) (k:i<(s.size:Int)->K):aAB s i K:=by
 have H:i.toNat<s.size:=by
  rcases zah i.toNat s.size with q|q
  ·exact q
  ·rw[List.drop_eq_nil_of_le (by rw[bj];exact q)] at h;cases h
 have:=aAD b;refine ac (by rw[zdq h0,zdq (by omega)];rfl) (ac ?_ (k (by omega)));rw[aAC h];exact ej (by omega) (by omega)
variable {n:Nat}
theorem ayU {l:List UInt8} (h:l.drop n=b::t):l.drop (n+1)=t:=by
 have:=congrArg List.tail h;rwa[List.tail_drop,List.tail_cons] at this
theorem aEu {exit:Prop} {next:Nat->Int->InX->Prop} (hs:s.size<=4096) (h0:0<=i) (hi:i<(s.size:Int))
 (N:vC (s.data.toList.drop i.toNat)=none->exit)
 (Y: ∀q i' x,i<i'->i'<=(s.size:Int)->(vC (s.data.toList.drop i.toNat)=bif ayG s i' x then none else some (x,s.data.toList.drop i'.toNat))->next q i' x):aDF s i exit next:=by
 have H:(s.data.toList.drop i.toNat).length=s.size - i.toNat:=by rw[zbR,bj]
 cases hd:s.data.toList.drop i.toNat with
 |nil=>rw[hd] at H;simp at H;omega
 |cons b t=>
 rw[hd] at H N Y;simp only[za4] at H;have hb:=aAC hd;have ht:s.data.toList.drop (i+1).toNat=t:=by rw[show (i+1).toNat=i.toNat+1 by omega];exact ayU hd
 have i0:vC (b::t)=vh b.toNat t:=rfl;have B0:=aAD b;have nn:aFn=noR:=rfl;have J: ∀{z:Int}, -100000<=z->z<=100000->inR .i64 z=true:=λh1 h2=>ej (by omega) (by omega);refine aBn h0 hd λ_=>ac (J (by omega) (by omega)) ?_;rw[hb];have aq: ∀(q:Nat),(b.toNat≠0)->(b.toNat=1\/b.toNat=2)->aCC s (i+1) ((b.toNat:Nat):Int) exit (next q):=λq n0 j0=>by
  have hO:vh b.toNat t=aCi b.toNat t:=by
   unfold vh;have c0:(b.toNat==0)=false:=by rw[zdx];exact n0
   have c1:(b.toNat==1||b.toNat==2)=true:=by rcases j0 with e|e<;>rw[e]<;>rfl
   rw[c0,c1];rfl
  rw[i0,hO] at N Y;refine ce (λe=>N ?_) λe=> ?_
  ·have e:=zdv e;have:t= []:=zau (by omega);rw[this];rfl
  ·have e:=zdw e;cases hu:t with
   |nil=>rw[hu] at H;simp at H;omega
   |cons c u=>
    rw[hu] at ht N Y H;have hc:=aAC ht;have a0:s.data.toList.drop (i+1+1).toNat=u:=by rw[show (i+1+1).toNat=(i+1).toNat+1 by omega];exact ayU ht
    have l0:=aAD c;refine aBn (by omega) ht λC0=>ac (J (by omega) (by omega)) ?_;rw[hc];have hE:aCi b.toNat (c::u)=vB (((b.toNat:Nat):Int),((c.toNat:Nat):Int),noR) u:=rfl;rw[hE] at N Y;have r0:(bif (bif ((b.toNat:Nat):Int)==1 then decide (((c.toNat:Nat):Int)≥6) else false) then true else decide (((c.toNat:Nat):Int)>15))= !isF (((b.toNat:Nat):Int),((c.toNat:Nat):Int),noR):=by
     unfold isF;dsimp only;rcases j0 with e|e
     ·rw[e];have e0:decide (((c.toNat:Nat):Int)≥0)=true:=zdq (by omega);rw[e0];show (bif decide (((c.toNat:Nat):Int)≥6) then true else decide (((c.toNat:Nat):Int)>15))= !decide (((c.toNat:Nat):Int)<6);by_cases h6:((c.toNat:Nat):Int)<6
      ·rw[zdq h6,zdt (by omega),zdt (by omega)];rfl
      ·rw[zdt h6,zdq (by omega)];rfl
     ·rw[e];have e0:decide (((c.toNat:Nat):Int)≥0)=true:=zdq (by omega);rw[e0];show decide (((c.toNat:Nat):Int)>15)= !decide (((c.toNat:Nat):Int)<16);by_cases h6:((c.toNat:Nat):Int)<16
      ·rw[zdq h6,zdt (by omega)];rfl
      ·rw[zdt h6,zdq (by omega)];rfl
    rw[r0];refine ce (λq=>N ?_) λq=>Y _ _ _ (by omega) (by omega) ?_
    ·unfold vB wE;rw[show isF (((b.toNat:Nat):Int),((c.toNat:Nat):Int),noR)=false by simpa using q];rfl
    ·have hf:isF (((b.toNat:Nat):Int),((c.toNat:Nat):Int),noR)=true:=by simpa using q
     have x0:ayG s (i+1+1) (((b.toNat:Nat):Int),((c.toNat:Nat):Int),aFn)=false:=by
      unfold ayG;rcases j0 with e|e<;>rw[e]<;>rfl
     rw[x0,zdr,a0,ayk hf (λe9=>by dsimp only at e9;omega)];rfl
 refine ce (λe=> ?_) λe=>ce (λe1=>ce (λ_=>aq _ ?_ (.inl ?_)) λe'=>(by rw[e1] at e';cases e')) λe1=>ce (λe2=>aq _ ?_ (.inr ?_)) λe2=> ?_
 ·have e:b.toNat=0:=by
   have e:((b.toNat:Nat):Int)=0:=by simpa using e
   omega
  have hO:vh b.toNat t=aBz t:=by unfold vh;rw[e];rfl
  rw[i0,hO] at N Y;refine ac (J (by omega) (by omega)) (ce (λq=>N ?_) λq=> ?_)
  ·have q:=zdv q
   match t,H with
   | [],_=>rfl
   | [_],_=>rfl
   |_::_::u,H=>simp only[za4] at H;omega
  ·have q:=zdw q
   match H0:t,H with
   | [],H=>simp at H;omega
   | [_],H=>simp at H;omega
   |a::c::u,H=>
    have ha:=aAC ht;have g0:s.data.toList.drop (i+1+1).toNat=c::u:=by rw[show (i+1+1).toNat=(i+1).toNat+1 by omega];exact ayU ht
    have hc:=aAC g0;have a0:s.data.toList.drop (i+1+2).toNat=u:=by rw[show (i+1+2).toNat=(i+1+1).toNat+1 by omega];exact ayU g0
    have z0:=aAD a;have l0:=aAD c;simp only[za4] at H;have hP:aBz (a::c::u)=aAS (a.toNat*256+c.toNat) u:=rfl;rw[hP] at N Y;unfold aAS at N Y;refine aBn (by omega) ht λ_=> ?_;rw[ha];refine ac (J (by omega) (by omega)) (ac (J (by omega) (by omega)) (aBn (by omega) g0 λ_=> ?_));rw[hc];have hm:256*((a.toNat:Nat):Int)+((c.toNat:Nat):Int)=((a.toNat*256+c.toNat:Nat):Int):=by omega
    rw[hm];have E0:a.toNat*256+c.toNat<=65535:=by omega
    generalize a.toNat*256+c.toNat=m at*
    refine ac (J (by omega) (by omega)) (ac (J (by omega) (by omega)) (ac (J (by omega) (by omega)) (ce (λq2=>N ?_) λq2=> ?_)))
    ·have q2:=zdv q2;rw[zdt (by omega)];rfl
    ·have q2:=zdw q2;have u0:decide (m<=u.length)=true:=zdq (by omega);rw[u0,zb6] at N Y
     have w0:s.extract (i+1+2).toNat (i+1+2+((m:Nat):Int)).toNat=⟨(u.take m).toArray⟩:=gT (by
      rw[aEt,a0,eI,show (i+1+2+((m:Nat):Int)).toNat - (i+1+2).toNat=m by omega])
     rw[w0];refine ac (J (by omega) (by omega)) (ac (by rw[zdq (by omega),zdq (by omega),zdq (by omega)];rfl) (ac (zdq ?_) (ce (λq3=>N ?_) λq3=>ac (J (by omega) (by omega)) (Y _ _ _ (by omega) (by omega) ?_))))
     ·rw[<-bj,eI,zaE];omega
     ·have:((DR ⟨(u.take m).toArray⟩).2==0)=false:=by simpa using q3
      rw[this];rfl
     ·have q0:((DR ⟨(u.take m).toArray⟩).2==0)=true:=by simpa using q3
      rw[q0,zds];have hv:rV (DR ⟨(u.take m).toArray⟩).1=true:=by
       obtain⟨e1,e2,_⟩:=azo (beq_iff_eq.1 q0);rw[e1];exact e2
      have v0:s.data.toList.drop (i+1+2+((m:Nat):Int)).toNat=u.drop m:=by
       rw[<-a0,List.drop_drop]
       congr 1;omega
      rw[e];show vB (0,0,(DR ⟨(u.take m).toArray⟩).1) (u.drop m)=some ((0,0,(DR ⟨(u.take m).toArray⟩).1),s.data.toList.drop (i+1+2+((m:Nat):Int)).toNat);rw[v0];exact ayk hv λe9=>by cases e9
 ·intro q;rw[q] at e1;cases e1
 ·have e1:((b.toNat:Nat):Int)=1:=by simpa using e1
  omega
 ·intro q;rw[q] at e2;cases e2
 ·have e2:((b.toNat:Nat):Int)=2:=by simpa using e2
  omega
 ·have n0:b.toNat≠0:=λq=>by rw[q] at e;cases e
  have n1:b.toNat≠1:=λq=>by rw[q] at e1;cases e1
  have n2:b.toNat≠2:=λq=>by rw[q] at e2;cases e2
  have hO:vh b.toNat t=vB (((b.toNat:Nat):Int),0,noR) t:=by
   unfold vh;rw[beq_eq_false_iff_ne.2 n0,beq_eq_false_iff_ne.2 n1,beq_eq_false_iff_ne.2 n2];rfl
  rw[i0,hO] at Y;refine Y _ _ _ (by omega) (by omega) ?_;rw[ht];have hf:isF (((b.toNat:Nat):Int),0,noR)=decide (((b.toNat:Nat):Int)<10):=by
   unfold isF;dsimp only;rw[beq_eq_false_iff_ne.2 (show ((b.toNat:Nat):Int)≠0 by omega),beq_eq_false_iff_ne.2 (show ((b.toNat:Nat):Int)≠1 by omega),beq_eq_false_iff_ne.2 (show ((b.toNat:Nat):Int)≠2 by omega)];simp only[zdr];rw[zdq (show ((b.toNat:Nat):Int)>0 by omega)];rfl
  have y0:t.isEmpty=(i+1==(s.size:Int)):=by
   cases t with
   |nil=>simp at H;rw[beq_iff_eq.2 (by omega)];rfl
   |cons c u=>simp only[za4] at H;rw[beq_eq_false_iff_ne.2 (by omega)];rfl
  unfold vB wE ayG;rw[hf,y0];dsimp only;by_cases o0:((b.toNat:Nat):Int)<10
  ·rw[zdq o0,zdt (show ¬((b.toNat:Nat):Int)>9 by omega)];cases h9:((b.toNat:Nat):Int)==9 with
   |false=>rfl
   |true=>
    cases hq:i+1==(s.size:Int) with
    |true=>simp[bne,hq];rfl
    |false=>simp[bne,hq]
  ·rw[zdt o0,zdq (show ((b.toNat:Nat):Int)>9 by omega)];rfl
structure IN11 (s:ByteArray) (z:IX11):Prop where
 lo:0<=z.1
 hi:z.1<=(s.size:Int)
 res:aAA z.2 (s.data.toList.drop z.1.toNat)=iI s.size s.data.toList
 len:(z.2.length:Int)<=z.1
def J11 (s:zdH) (y:azl):Prop:= ∃l,un s=some l/\0<=y.1/\y.1<=(l.length:Int)/\y.2=⟨(gB (l.take y.1.toNat)).toArray⟩
variable {l:List InX}
theorem aBN {v:InX} {e:Nat} (H:e<l.length+1):aCB l v e=eX.get (l++ [v]) e:=by
 unfold aCB ald El.get El.nth;rw[aB];show _=svX (mb (0,0,aFn) (l++ [v]) e);rw[aS];by_cases h:e<l.length
 ·rw[zdq h,if_neg (by omega)];rfl
 ·obtain rfl:e=l.length:=by omega
  rw[zdt h,if_pos rfl,zaJ];rfl
theorem azM: ∀{l:List InX},(∀x∈l,OkI x)->(gB l).length<=410*l.length
 | [],_=>za0 _
 |x::l,h=>by
  have h1:=ayc (azi (h x (by simp)));have h2:=azM (l:=l) λy H=>h y (zan _ H);have e:gB (x::l)=(gy x++ [10])++gB l:=rfl;have e2:(gy x).length=(eh x).size:=by rw[<-bj];unfold eh;rw[eI]
  rw[e,za3,za3,za4,e2,za4,za9];omega
theorem al1 (h:n<l.length):l.take (n+1)=l.take n++ [eX.nth l n]:=by
 rw[zc2,Co (d:=eX.d) h];rfl
theorem aBO (l:List InX) (x:InX):gB (l++ [x])=gB l++(gy x++ [10]):=by
 unfold gB;rw[zd5];simp
theorem aA6 {K:zdS} (k:K ((cP cS cI).enc (eM s))):aDG (J11 s) (IN11 s) s.size s K:=by
 have kb:eM s=(⟨#[]⟩,110)->K ((cP cS cI).enc (⟨#[]⟩,110)):=λe=>by rw[<-e];exact k
 refine ce (λh=>kb (azE (by have:=zdv h;omega))) λh=> ?_;have hs:s.size<=4096:=by have:=zdw h;omega
 have Y:un s=iI s.size s.data.toList:=by unfold un;rw[zdq hs];rfl
 have i0:iI s.size s.data.toList=none->eM s=(⟨#[]⟩,110):=λe=>by unfold eM;rw[Y,e]
 have a0:aAA [] (s.data.toList.drop 0)=iI s.size s.data.toList:=by
  rw[zaZ];unfold aAA;cases J:s.data.toList with
  |nil=>
   have:s.size=0:=by rw[<-bj,J];rfl
   rw[this];rfl
  |cons b t=>
   have:s.size=(b::t).length:=by rw[<-bj,J]
   rw[this];show (iI (b::t).length (b::t)).map ([]++ ·)=_;cases iI (b::t).length (b::t)<;>rfl
 refine⟨(0, []),⟨zat _,Int.natCast_nonneg _,a0,zat _⟩,⟨⟨rfl,rfl,rfl,trivial⟩,trivial,trivial,rfl,trivial⟩, ?_⟩;rintro⟨i,l⟩ ⟨lo,hi,res,len⟩;dsimp only at lo hi res len ⊢;have l0:(s.data.toList.drop i.toNat).length=s.size - i.toNat:=by rw[zbR,bj]
 refine ce (λhb=> ?_) λhb=> ?_
 ·have hb:=zdv hb;have o0:s.data.toList.drop i.toNat≠ []:=λe=>by rw[e] at l0;simp at l0;omega
  refine aEu hs lo hb (λhx=>kb (i0 (by rw[<-res];exact azL hx o0))) λq i' x h1 h2 J=> ?_;refine ce (λH=>kb (i0 ?_)) λH=> ?_
  ·have H:ayG s i' x=true:=H;rw[H] at J;rw[<-res];exact azL J o0
  ·have H:ayG s i' x=false:=H;rw[H] at J;have g0:(l++ [x]).length=l.length+1:=by simp
   refine ac (by rw[zdq (zbT),zdq (show 0+1<=1 by omega),zdq (za0 _),zdq (show (l.length+1)*48<=140737488355328 by omega)];rfl) ⟨(i',l++ [x]),⟨by dsimp only;omega,h2, ?_,by dsimp only;rw[g0];omega⟩,by dsimp only;omega,⟨⟨rfl,by rw[g0],rfl,trivial⟩,trivial,trivial,ac (by dsimp only;rw[g0,zdq (za0 _)];rfl) λe he=>aBN (l:=l) (by have he:e<(l++ [x]).length:=he;omega),trivial⟩⟩;dsimp only;rw[<-res];exact(aBM J).symm
 ·have hb:=zdw hb;have q0:s.data.toList.drop i.toNat= []:=zau (by omega);rw[q0] at res;have res:(bif azk l then some l else none)=iI s.size s.data.toList:=res;have hg: ∀{n:Bool},(0<l.length->n=true)->dC (decide ((l.length:Int)>0)) n=true:=λh=>Q5 λe=>h (by have:=zdv e;omega);refine ac (hg λ_=>ej (by omega) (by omega)) (ac (hg λhp=>by rw[zdq (by omega),zdq (by omega),zdq (by omega)];rfl) (ac (hg λhp=>zdq (by omega)) (ce (λhL=>kb (i0 ?_)) λhL=> ?_)))
  ·have hL:azk l=false:=by simpa using hL
   rw[<-res,hL];rfl
  ·have hL:azk l=true:=by simpa using hL
   rw[hL] at res;have J:un s=some l:=by rw[Y,<-res];rfl
   have N:=aym (ayB J).1;refine⟨(0,⟨#[]⟩),⟨l,J,zat _,Int.natCast_nonneg _,rfl⟩,⟨⟨rfl,rfl,rfl,trivial⟩,trivial,trivial,trivial⟩, ?_⟩;rintro⟨j,t⟩ ⟨l',e0,j0,j1,ht⟩;rw[J] at e0;simp only[za1] at e0;subst e0;dsimp only at j0 j1 ht ⊢;have y0:t.size<=410*l.length:=by
    rw[ht,<-bj,eI];refine zac (azM λx hx=>N x (zbd hx)) ?_;rw[zaE];omega
   refine ce (λhj=> ?_) λhj=> ?_
   ·have hj:=zdv hj;have n0:j.toNat<l.length:=by omega
    have r0:=azi (N _ (bw (d:=eX.d) n0));have hz:=ayc r0;have x0:nl11.size=1:=rfl;rw[za7];have u0:uo (eX.nth l j.toNat)=true:=r0;have z0:(eh (eX.nth l j.toNat)).size<=409:=hz;have w0:=al1 n0;generalize eX.nth l j.toNat=x at*
    refine aY j0 hj (ac u0 (ac (zdq (by omega)) (ac (zdq (by rw[ByteArray.size_append];omega)) (ac (ej (by omega) (by omega)) ⟨(j+1,t++eh x++nl11),⟨l,J,by dsimp only;omega,by dsimp only;omega, ?_⟩,by dsimp only;omega,⟨⟨rfl,rfl,rfl,trivial⟩,trivial,trivial,trivial⟩⟩))));dsimp only;rw[ht,show (j+1).toNat=j.toNat+1 by omega,w0,aBO];exact gT (by simp[eD,eh,nl11])
   ·have hj:=zdw hj;have v0:j.toNat=l.length:=by omega
    rw[v0,List.take_length] at ht;have:eM s=(t,0):=by unfold eM;rw[J,ht]
    rw[<-this];exact k
theorem aFb:GQk aDE:=(GQk.of aCA).cons (λd W H=>aDn H) Tryz.call34
theorem aCD {d:Ad3} {W:World} (H:GlobQ d W):CtrOK Tryz.prog W 9 aDa:=dD λs _=>
 azJ aFb (MPk.of MEk.nil) H (ann:=aBm (J11 s) (IN11 s) s.size) (n:=12) m8 ((cP cS cI).ids _) (by
  rw[aDo]
  exact aA6 (K:=λr=>r=_) rfl)
def aFc:List SV->Int×Int
 | [.val (.int .i64 a), .val (.int .i64 b)]=>(a,b)
 |_=>(0,0)
def e2:El (Int×Int):={sz:=2,sv:=λx=> [.val (.int .i64 x.1), .val (.int .i64 x.2)],of:=aFc,d:=(0,0),rt:=λ_=>rfl,ids:=λ_=>rfl,len:=λ_=>rfl,one:=by decide}
abbrev MX11:=Int×ByteArray×Int
abbrev NX11:=ByteArray×Int
def aCE (I:MX11->Prop) (J:NX11->Prop) (R:zdW):zdW:=λf k=>bif Nat.beq f 8 then(bif Nat.beq k 4 then some (λ_=>{X:=MX11,inv:=I,tm:=λx=> [(5, .val (.int .i64 x.1)),(3, .val (.string x.2.1)),(4, .val (.int .i64 x.2.2))],mu:=λx=>(30 - x.1).toNat,keep:= [0]})
 else bif Nat.beq k 20 then some (λ_=>{X:=NX11,inv:=J,tm:=λx=> [(3, .val (.string x.1)),(4, .val (.int .i64 x.2))],mu:=λx=>x.2.toNat,keep:= []}) else none) else R f k
def aDH (n:Nat) (i:Int) (c:zdH) (k:Int) (x:MX11):Prop:=(TV.v (cI.enc i)=TV.v (cI.enc x.1)/\TV.v (cS.enc c)=TV.v (cS.enc x.2.1)/\TV.v (cI.enc k)=TV.v (cI.enc x.2.2)/\TV.v (.slc (14+1) 0 n)=TV.v (.slc (14+1) 0 n)/\True)/\(True/\(True/\True))
def aCG (I:MX11->Prop) (n:Nat) (x:MX11) (op:Int) (piece:zdH):Prop:=fy x.2.1 piece (ah (decide (0<=op)&&decide (op<10)) (ah (decide (op.toNat<10)) (ah (inR .i64 (x.2.2 - gi op.toNat)) (ah (decide (0<=op)&&decide (op<10)) (ah (decide (op.toNat<10)) (ah (inR .i64 (x.2.2 - gi op.toNat+lj op.toNat))
 (ah (inR .i64 (x.1+1)) (∃H:MX11,I H/\((30 - H.1).toNat<(30 - x.1).toNat/\aDH n (x.1+1) (x.2.1++piece) (x.2.2 - gi op.toNat+lj op.toNat) H)))))))))
def aBo (I:MX11->Prop) (n:Nat) (x:MX11) (op b:Int):Prop:=ah (decide (1<=op)&&decide (0<=b)) (aCG I n x op (cu (op,b,noR)))
def ayO (d op:Int):Bool:=bif op==8 then true else decide (d<gi op.toNat)
def aDI (d op:Int):Bool:=bif ayO d op then true else decide (d - gi op.toNat+lj op.toNat>16)
def aBp (d n op:Int):Bool:=bif aDI d op then true else bif op==2 then decide (d<=n.tmod 3) else false
def aEv (I:MX11->Prop) (m:Nat) (x:MX11) (n op:Int):Prop:=
 ah (dC (!(op==8)) (decide (0<=op)&&decide (op<10))) (ah (dC (!(op==8)) (decide (op.toNat<10))) (ah (dC (!ayO x.2.2 op) (decide (0<=op)&&decide (op<10))) (ah (dC (!ayO x.2.2 op) (decide (op.toNat<10))) (ah (dC (!ayO x.2.2 op) (inR .i64 (x.2.2 - gi op.toNat)))
 (ah (dC (!ayO x.2.2 op) (decide (0<=op)&&decide (op<10))) (ah (dC (!ayO x.2.2 op) (decide (op.toNat<10))) (ah (dC (!ayO x.2.2 op) (inR .i64 (x.2.2 - gi op.toNat+lj op.toNat)))
 (ag (aBp x.2.2 n op) (ag (x.2.2==16) (aBo I m x 4 (n.tmod 3)) (aBo I m x 1 (n.tmod 3)))
   (ag (op==0) (ah (inR .i64 (n - 20)) (ah (inR .i64 (1+n.tmod 4)) (ah (cl (n - 20)&&cl (1+n.tmod 4)) (ah (rV (rMk (n - 20) (1+n.tmod 4)).1) (aCG I m x op (cu (0,0,(rMk (n - 20) (1+n.tmod 4)).1)))))))
     (aBo I m x op (n.tmod 3)))))))))))
def aFd (I:MX11->Prop) (xs:List (Int×Int)) (x:MX11) (p:Int×Int):Prop:=eO xs.length x.1 (ah (cl p.2&&decide ((0:Int)<60)) (eO xs.length x.1 (ah (cl p.1&&decide ((0:Int)<9)) (aEv I xs.length x (co p.2 60) (co p.1 9)))))
def aFe (c:zdH) (k:Int) (y:NX11):Prop:=(TV.v (cS.enc c)=TV.v (cS.enc y.1)/\TV.v (cI.enc k)=TV.v (cI.enc y.2)/\True)/\(True/\(True/\True))
def aCH (J:NX11->Prop) (c:zdH) (k:Int) (K:ByteArray->Prop):Prop:= ∃N:NX11,J N/\(aFe c k N/\ ∀y:NX11,J y->ag (decide (y.2>1))
 (fy y.1 (cu (4,0,noR)) (ah (inR .i64 (y.2 - 1)) (∃H:NX11,J H/\(H.2.toNat<y.2.toNat/\aFe (y.1++cu (4,0,noR)) (y.2 - 1) H))))
 (fy y.1 (cu (9,0,noR)) (K (y.1++cu (9,0,noR)))))
def aDJ (I:MX11->Prop) (J:NX11->Prop) (xs:List (Int×Int)) (N Y:ByteArray->Prop):Prop:= ∃H:MX11,I H/\(aDH xs.length 0 ⟨#[]⟩ 0 H/\ ∀x:MX11,I x->ag (bif decide (x.1<(xs.length:Int)) then decide (x.1<30) else false) (aFd I xs x (e2.nth xs (0+x.1.toNat)))
 (ag (x.2.2==0) (fy x.2.1 (cu (1,0,noR)) (aCH J (x.2.1++cu (1,0,noR)) 1 N)) (aCH J x.2.1 x.2.2 Y)))
def ix3 (i:Int) (K:Prop):Prop:=ah (decide (0<=i)&&decide (i<3)) (ah (decide (0+i.toNat<3)) K)
def aEw (P:Int->Prop) (M:Int->Int->Prop) (i:Int):Prop:=ah (inR .i64 (i+1)) (∃H:Int,P H/\((3 - H).toNat<(3 - i).toNat/\M (i+1) H))
def aDp (d:Ad3) (g:List (FuncId×Ctr)) (gm:zdX) (ann:zdW) (n:Nat) (f:FuncId) (args:zdK) (Bs:zdV) (K:zdS):Prop:=Ay Tryz.prog (iR M9) (gw g) (gx gm) (ax8 d) ann n f args (blG Bs) (14+1+Bs.length) [] (Go.Sy.okK λr _ _ _=>K r)
def gLt:List (FuncId×Ctr):=(7,k0 cB true)::(9,aDa)::(15,aE3)::(31,k1 cR cS rV λv=>cu (0,0,v))::(32,k2 cI cI cS (λn b=>decide (1<=n)&&decide (0<=b)) λn b=>cu (n,b,noR))::(29,k2 cI cI cI (λc n=>cl c&&decide (0<n)) co)::(13,k2 cI cI cI (λc n=>cl c&&decide (0<n)) co)::
 (10,k2 cS cI cS (λ_ n=>decide (0<=n)) aA4)::(11,k3 cS cI cB8 cS (λs n _=>decide (s.size<=1000000)&&cl n) aA5)::(12,aDa)::(14,aE3)::qH
def aHx (P Q:Int->Prop):zdW:=λf k=>bif Nat.beq f 3 then(bif Nat.beq k 5 then some (λ_=>{X:=Int,inv:=P,tm:=λx=> [(44, .val (.int .i64 x))],mu:=λx=>(3 - x).toNat,keep:= [0,2,3,9,11,42,43]})
 else bif Nat.beq k 13 then some (λ_=>{X:=Int,inv:=Q,tm:=λx=> [(83, .val (.int .i64 x))],mu:=λx=>(4 - x).toNat,keep:= [9,81,82]}) else none) else none
def t1M (J:zdH) (at' b:Int) (H:zdH) (q:Nat) (i x:Int):Prop:=(TV.v (cI.enc i)=TV.v (cI.enc x)/\TV.v (cS.enc J)=TV.v (cS.enc J)/\TV.v (cI.enc at')=TV.v (cI.enc at')/\TV.v (cB8.enc b)=TV.v (cB8.enc b)/\TV.v (cB.enc true)=TV.v (cB.enc true)/\TV.v (cS.enc H)=TV.v (cS.enc H)/\TV.v (.slc q 0 3)=TV.v (.slc q 0 3)/\TV.v (cI.enc 3)=TV.v (cI.enc 3)/\True)/\(True/\(True/\True))
def t2M (q:Nat) (i x:Int):Prop:=(TV.v (cI.enc i)=TV.v (cI.enc x)/\TV.v (cB.enc true)=TV.v (cB.enc true)/\TV.v (.slc q 0 4)=TV.v (.slc q 0 4)/\TV.v (cI.enc 4)=TV.v (cI.enc 4)/\True)/\(True/\(True/\True))
def ix4 (i:Int) (K:Prop):Prop:=ah (decide (0<=i)&&decide (i<4)) (ah (decide (0+i.toNat<4)) K)
def aIj (Q:Int->Prop) (M:Int->Int->Prop) (i:Int):Prop:=ah (inR .i64 (i+1)) (∃H:Int,Q H/\((4 - H).toNat<(4 - i).toNat/\M (i+1) H))
def td1 (s:zdH) (H next:Prop):Prop:=ag (bif !seq (eM s).1 (eM s).1 then true else(eM s).2 !=(eM s).2) H next
def td2 (t:zdH) (H next:Prop):Prop:=ah (decide (t.size<=100000)) (ah (decide (t.size<=100000)) (ag (bif (bif !seq (ic t).1 (ic t).1 then true else(ic t).2.1 !=(ic t).2.1) then true else(ic t).2.2 !=(ic t).2.2) H next))
def lt2 (Q:Int->Prop) (J:zdH) (at' b:Int) (q:Nat) (K:zdS) (H:zdH):Prop:=ah (decide (H.size<=1000000)&&cl at') (ah (inR .i64 ((H.size:Int)+1)) (ah (cl at'&&decide (0<(H.size:Int)+1)) (ah (decide (0<=co at' ((H.size:Int)+1))&&decide (co at' ((H.size:Int)+1)<=(H.size:Int)))
 (∃N:Int,Q N/\(t2M q 0 N/\ ∀j:Int,Q j->ag (decide (j<4)) (ix4 j (td2 (F7 [aA4 J 60,H,aA5 H at' b,H.extract 0 (co at' ((H.size:Int)+1)).toNat] (0+j.toNat)) (K (cB.enc false)) (aIj Q (t2M q) j))) (K (cB.enc true)))))))
def lt1 (P Q:Int->Prop) (H:zdH) (at' b:Int) (N Y:Nat) (K:zdS) (code:zdH):Prop:=ah (decide (code.size<=1000000)&&cl at') (∃J:Int,P J/\(t1M H at' b (eM code).1 N 0 J/\ ∀i:Int,P i->ag (decide (i<3)) (ix3 i (td1 (F7 [aA4 H 60,code,aA5 code at' b] (0+i.toNat)) (K (cB.enc false)) (aEw P (t1M H at' b (eM code).1 N) i))) (lt2 Q H at' b Y K (eM code).1)))
theorem aHL {x:InX} {K:zdS} (h0:0<=x.1) (h1:x.1<10) (Y:uzR x.2.2=true/\(gk x.2.2).size<=1000) (hn:0<=x.2.1/\x.2.1<=15) (k:K (cS.enc (eh x))):lnT11 x K:=by
 have z5:=opNm_size (i:=x.1.toNat);have z1:sp11.size=1:=rfl;have N:x.1=1\/x.1=2->lnT11.lnN x K:=λe=>by
  obtain⟨n0,n1⟩:=(⟨hn.1,by omega⟩:0<=x.2.1/\x.2.1<16);have z3:=ofI_small ⟨n0,n1⟩;unfold lnT11.lnN;simp only[za7];refine ac (zdq (by omega)) (ac (V4.2 ⟨by omega,by omega⟩) (ac (zdq (by rw[ByteArray.size_append];omega)) ?_));have H:eh x=eo x.1.toNat++sp11++ofI x.2.1:=by
   unfold eh gy;have c0:(x.1==0)=false:=by rw[zdx];omega
   have c1:(x.1==1||x.1==2)=true:=by rcases e with e|e<;>rw[e]<;>rfl
   rw[c0,c1];exact gT (by simp[eD,sp11])
  rw[H] at k;exact k
 have hS:x.1≠0->x.1≠1->x.1≠2->K (cS.enc (eo (0+x.1.toNat))):=λe0 H e2=>by
  have el:eh x=eo x.1.toNat:=by
   unfold eh gy;rw[beq_eq_false_iff_ne.2 e0,beq_eq_false_iff_ne.2 H,beq_eq_false_iff_ne.2 e2];exact gT (by simp)
  rw[el] at k;rw[za7];exact k
 refine λ_ _=>ac (by rw[zdq h0,zdq h1];rfl) (ac (zdq (by omega)) (ce (λe=> ?_) λe=>ce (λH=>ce (λ_=>N (.inl (by simpa using H))) λJ=>by rw[H] at J;cases J) λH=>ce (λe2=>N (.inr (by simpa using e2))) λe2=>hS (by simpa using e) (by simpa using H) (by simpa using e2)));have e:x.1=0:=by simpa using e
 have zp:=Y.2;simp only[za7];refine ac (zdq (by omega)) (ac Y.1 (ac (zdq (by rw[ByteArray.size_append];omega)) ?_));have H:eh x=eo x.1.toNat++sp11++gk x.2.2:=by
  unfold eh gy;rw[e];exact gT (by simp[eD,sp11])
 rw[H] at k;exact k
def okW (x:InX):Bool:=decide (0<=x.1)&&decide (x.1<10)&&(uzR x.2.2&&decide ((gk x.2.2).size<=1000))&&(decide (0<=x.2.1)&&decide (x.2.1<=15))
theorem aHM {d:Ad3} {W:World} (H:GlobQ d W):CtrOK Tryz.prog W 34 (k1 cIn cS okW eh):=dD λx h=>by
 refine azJ (GQk.of aCA) (MPk.of MEk.nil) H (ann:=λ_ _=>none) (n:=6) m8 (cS.ids _) ?_;rw[show x=(x.1,x.2.1,x.2.2) from rfl,aEo];unfold okW at h;simp only[za2,zdu] at h;obtain⟨⟨⟨h0,h1⟩,N⟩,J⟩:=h;exact aEp h0 h1 (aHL (K:=λr=>r=_) h0 h1 N J rfl)
def rdC (t:zdH):zdH:=match rdF t with
 |some x=>cu x
 |none=>⟨#[]⟩
def aGZ (w:zdH):Nat->Int
 |0=> -1
 |k+1=>bif seq (eo k) w then(k:Int) else aGZ w k
def aG0 (r:zdH):Nat->Int
 |0=>0
 |k+1=>bif seq (ofI (k:Int)) r then(k:Int) else aG0 r k
theorem aHs: ∀i:Fin 10,aGZ (eo i) 10=(i:Int):=by decide+kernel
theorem aHt: ∀i:Fin 16,aG0 (ofI (i:Int)) 16=(i:Int):=by decide+kernel
theorem aHd (w:zdH): ∀k:Nat, -1<=aGZ w k/\aGZ w k<(k:Int)
 |0=>by unfold aGZ;omega
 |k+1=>by
  have:=aHd w k;unfold aGZ;cases seq (eo k) w with
  |true=>rw[zds];omega
  |false=>rw[zdr];omega
theorem aHc (r:zdH): ∀k:Nat,0<=aG0 r k/\aG0 r k<=(k:Int)
 |0=>by unfold aG0;omega
 |k+1=>by
  have:=aHc r k;unfold aG0;cases seq (ofI (k:Int)) r with
  |true=>rw[zds];omega
  |false=>rw[zdr];omega
theorem aHf (r:zdH):aG0 r 16<=15:=by
 have:=aHc r 15;unfold aG0;cases seq (ofI ((15:Nat):Int)) r with
 |true=>exact(by decide:((15:Nat):Int)<=15)
 |false=>exact this.2
theorem aHu (w:zdH):aGZ w 10=ayl w:=by
 by_cases h: ∃i:Fin 10,eo i=w
 ·obtain⟨i,rfl⟩:=h;rw[aD1,aHs]
 ·have no: ∀i,i<10->seq (eo i) w=false:=λi hi=>by
   cases H:seq (eo i) w with
   |false=>rfl
   |true=>exact absurd ⟨⟨i,hi⟩,We.1 H⟩ h
  unfold ayl;simp only[aGZ,no 0 (by decide),no 1 (by decide),no 2 (by decide),no 3 (by decide),no 4 (by decide),no 5 (by decide),no 6 (by decide),no 7 (by decide),no 8 (by decide),no 9 (by decide),zdr]
def rdX (w r:zdH):InX:=(aGZ w 10,aG0 r 16,(DR r).1)
variable {y:InX}
theorem aG3 {x:InX} (h1:x.1=y.1) (h2:y.1=0->x.2.2=y.2.2) (h3:y.1=1\/y.1=2->x.2.1=y.2.1):eh x=eh y/\cu x=cu y:=by
 unfold eh cu gy cn;rw[h1];cases h0:y.1==0 with
 |true=>rw[h2 (by simpa using h0)];exact⟨rfl,rfl⟩
 |false=>
  cases H:(y.1==1||y.1==2) with
  |true=>rw[h3 (by simpa using H)];exact⟨rfl,rfl⟩
  |false=>exact⟨rfl,rfl⟩
def aGY (t:zdH):zdH:=(abn t ⟨#[32]⟩).1
def aGX (t:zdH):zdH:=(abn t ⟨#[32]⟩).2.1
theorem aHU (h:OkI y):(rdX (aGY (eh y)) (aGX (eh y))).1=y.1/\(y.1=0->(rdX (aGY (eh y)) (aGX (eh y))).2.2=y.2.2)/\(y.1=1\/y.1=2->(rdX (aGY (eh y)) (aGX (eh y))).2.1=y.2.1):=by
 have g0:0<=y.1:=h.lo;have a0:y.1<10:=h.hi;obtain⟨f1,f2⟩:=azC (n:=y.1.toNat) (by omega);have hi:aGZ (eo y.1.toNat) 10=y.1:=by
  rw[aHu,aBc (by omega)];omega
 have key: ∀r:zdH,eh y=⟨((eo y.1.toNat).data.toList++32::r.data.toList).toArray⟩->rdX (aGY (eh y)) (aGX (eh y))=(y.1,aG0 r 16,(DR r).1):=λr e=>by
  unfold rdX aGY aGX;rw[e,aAo f1];dsimp only;rw[aaA,aaA,hi]
 by_cases H:y.1=0
 ·have el:eh y=⟨((eo y.1.toNat).data.toList++32::(gk y.2.2).data.toList).toArray⟩:=by
   unfold eh gy;rw[beq_iff_eq.2 H];rfl
  rw[key _ el,ayd (h.v H)];exact⟨rfl,λ_=>rfl,λe=>by omega⟩
 ·have c0:(y.1==0)=false:=beq_eq_false_iff_ne.2 H;by_cases N:y.1=1\/y.1=2
  ·have J:(y.1==1||y.1==2)=true:=by simpa using N
   have el:eh y=⟨((eo y.1.toNat).data.toList++32::(ofI y.2.1).data.toList).toArray⟩:=by
    unfold eh gy;rw[c0,J];rfl
   obtain⟨n0,n1⟩:=h.nu N;have Y:=aHt ⟨y.2.1.toNat,by omega⟩;dsimp only at Y;rw[zce n0] at Y;rw[key _ el,Y];exact⟨rfl,λe=>absurd e H,λ_=>rfl⟩
  ·have J:(y.1==1||y.1==2)=false:=by
    rw[zbs,zdx,zdx];omega
   have el:eh y=⟨((eo y.1.toNat).data.toList).toArray⟩:=by
    unfold eh gy;rw[c0,J];simp
   refine⟨?_,λe=>absurd e H,λe=>absurd e N⟩;unfold rdX aGY aGX;rw[el,aBB f1];dsimp only;rw[aaA,hi]
variable {t:zdH}
theorem aHy (h:seq (eh (rdX (aGY t) (aGX t))) t=false\/((rdX (aGY t) (aGX t)).1=0/\(rdX (aGY t) (aGX t)).2.2.2=⟨#[]⟩)\/((rdX (aGY t) (aGX t)).1=1/\6<=(rdX (aGY t) (aGX t)).2.1)\/(rdX (aGY t) (aGX t)).1<0):rdC t=⟨#[]⟩:=by
 unfold rdC;cases hr:rdF t with
 |none=>rfl
 |some y=>
  exfalso;obtain⟨J,N⟩:=aAn hr;obtain⟨a,b,c⟩:=aHU J;rw[N] at a b c;rcases h with h|⟨h,H⟩|⟨h,H⟩|h
  ·rw[(aG3 a b c).1,N,We.2 rfl] at h;cases h
  ·rw[a] at h;rw[b h] at H;have Y:=(ay (J.v h)).2.1;rw[H] at Y;exact absurd Y (by decide)
  ·rw[a] at h;rw[c (.inl h)] at H;have:=J.is;unfold isF at this;rw[h] at this;simp at this;omega
  ·have:=J.lo;omega
theorem aHg {r:zdH} (h:(DR r).2≠0):(DR r).1=noR:=by
 unfold DR at h ⊢;split
 ·rename_i H;rw[if_pos H] at h;exact absurd rfl h
 ·rfl
theorem aHN (h0:0<=(rdX (aGY t) (aGX t)).1) (hl:seq (eh (rdX (aGY t) (aGX t))) t=true) (H:(rdX (aGY t) (aGX t)).1=0->(rdX (aGY t) (aGX t)).2.2.2≠⟨#[]⟩) (h6:(rdX (aGY t) (aGX t)).1=1->(rdX (aGY t) (aGX t)).2.1<6):rdC t=cu (rdX (aGY t) (aGX t))/\((rdX (aGY t) (aGX t)).1=0->rV (rdX (aGY t) (aGX t)).2.2=true):=by
 have Y:=aHd (aGY t) 10;have hn:=aHc (aGX t) 16;have a0:=aHf (aGX t);have hV:(rdX (aGY t) (aGX t)).1=0->rV (rdX (aGY t) (aGX t)).2.2=true:=λe=>by
  have H:=H e;unfold rdX at H ⊢;dsimp only at H ⊢;by_cases hp:(DR (aGX t)).2=0
  ·obtain⟨N,e2,_⟩:=azo hp;rw[N];exact e2
  ·rw[aHg hp] at H;exact absurd rfl H
 refine⟨?_,hV⟩;have J:(rdX (aGY t) (aGX t)).1<10:=Y.2;have g0:0<=(rdX (aGY t) (aGX t)).2.1/\(rdX (aGY t) (aGX t)).2.1<=15:=⟨hn.1,a0⟩;generalize rdX (aGY t) (aGX t)=x at*
 obtain⟨op,n,v⟩:=x;dsimp only at*
 let y:InX:=(op,bif op==1||op==2 then n else 0,bif op==0 then v else noR)
 have hc:=aG3 (x:=(op,n,v)) (y:=y) rfl (λe=>by
  show v=bif op==0 then v else noR
  rw[beq_iff_eq.2 (show op=0 from e)];rfl) (λe=>by
  show n=bif op==1||op==2 then n else 0
  have:(op==1||op==2)=true:=by simpa using (show op=1\/op=2 from e)
  rw[this];rfl)
 have ho:OkI y:=by
  refine⟨?_,h0,J,λe=> ?_,λe=> ?_,λe=> ?_⟩
  ·show isF (op,bif op==1||op==2 then n else 0,bif op==0 then v else noR)=true;unfold isF;dsimp only;by_cases e0:op=0
   ·subst e0;exact hV rfl
   ·rw[beq_eq_false_iff_ne.2 e0,zdr];by_cases N:op=1
    ·subst N;have:=h6 rfl;show (bif decide (n≥0) then decide (n<6) else false)=true;rw[zdq (by omega),zdq (by omega)];rfl
    ·rw[beq_eq_false_iff_ne.2 N,zdr];by_cases e2:op=2
     ·subst e2;show (bif decide (n≥0) then decide (n<16) else false)=true;rw[zdq (by omega),zdq (by omega)];rfl
     ·rw[beq_eq_false_iff_ne.2 e2,zdr,zdq (by omega),zdq J];rfl
  ·show (bif op==1||op==2 then n else 0)=0;rw[show op=0 from e];rfl
  ·show (bif op==0 then v else noR)=noR;rw[beq_eq_false_iff_ne.2 (show op≠0 from e)];rfl
  ·show (bif op==1||op==2 then n else 0)=0;have e:3<=op:=e;rw[beq_eq_false_iff_ne.2 (show op≠1 by omega),beq_eq_false_iff_ne.2 (show op≠2 by omega)];rfl
 have ht:eh y=t:=by rw[<-hc.1];exact We.1 hl
 unfold rdC;have hf:=aCj ho;rw[ht] at hf;rw[hf,hc.2]
theorem aHO {c:UInt8} {x:List UInt8} (h:c∉x):aFq c x= [x]:=by
 induction x with
 |nil=>rfl
 |cons b x J=>
  have H:b≠c:=λe=>h (by simp[e]);unfold aFq;rw[if_neg H,J λe=>h (zan _ e)];rfl
def aIk:List (FuncId×Ctr):=(45,k1 cS cS (λs=>decide (s.size<=100000)) rdC)::aEm
abbrev QX4:=Int×ByteArray×Bool
def aHp (J:QX4->Prop) (N:Int):zdW:=λf k=>bif Nat.beq f 15&&Nat.beq k 5 then some (λ_=>{X:=QX4,inv:=J,tm:=λx=> [(8, .val (.int .i64 x.1)),(6, .val (.string x.2.1)),(7, .val (.bool x.2.2))],mu:=λx=>(N - x.1).toNat,keep:= [0,5]}) else none
def aH3:MCtr:=λ_ nx args=>match args with
 | [.val (.string s)]=>some {X:=Unit,pre:=decide (s.size<=100000),spec:=λ_=>True,out:=λ_=> .slc nx 0 (abI s nl11).length,nw:=λ_=> [abN (abI s nl11)],ex:=λ_=>⟨(),trivial⟩}
 |_=>none
def ixS (n:Nat) (i:Int) (K:Prop):Prop:=ah (decide (0<=i)&&decide (i<(n:Int))) (ah (decide (0+i.toNat<n)) K)
def aHV:zdH:=⟨#[101,110,100]⟩
def p4M (s:zdH) (n:Nat) (i:Int) (c:zdH) (e:Bool) (x:QX4):Prop:=(TV.v (cI.enc i)=TV.v (cI.enc x.1)/\TV.v (cS.enc c)=TV.v (cS.enc x.2.1)/\TV.v (cB.enc e)=TV.v (cB.enc x.2.2)/\TV.v (cS.enc s)=TV.v (cS.enc s)/\TV.v (.slc (14+5) 0 n)=TV.v (.slc (14+5) 0 n)/\True)/\(True/\(True/\True))
def aHW (n:Nat) (x:QX4) (K:zdS):Prop:=ag (!x.2.2) (K (c3 (⟨#[]⟩,(n:Int),110))) (K (c3 (x.2.1,0,0)))
def aIl (J:QX4->Prop) (N:Int) (s:zdH) (n:Nat) (x:QX4) (t:zdH) (K:zdS):Prop:=ah (inR .i64 ((n:Int) - 1)) (ah (dC (x.1==(n:Int) - 1) (decide (0<=x.1)&&decide (x.1<(n:Int)))) (ah (dC (x.1==(n:Int) - 1) (decide (0+x.1.toNat<n)))
 (ag (bif x.1==(n:Int) - 1 then seq t ⟨#[]⟩ else false) (aHW n x K) (ixS n x.1 (ah (decide (t.size<=100000)) (fy x.2.1 (rdC t)
   (ag (bif (bif (bif seq (rdC t) ⟨#[]⟩ then true else decide (((x.2.1++rdC t).size:Int)>4096)) then true else x.2.2) then true else x.1==(n:Int) - 1) (ah (inR .i64 (x.1+1)) (K (c3 (⟨#[]⟩,x.1+1,110))))
     (ixS n x.1 (ah (inR .i64 (x.1+1)) (∃H:QX4,J H/\((N - H.1).toNat<(N - x.1).toNat/\p4M s n (x.1+1) (x.2.1++rdC t) (seq t aHV) H)))))))))))
def aIm (J:QX4->Prop) (N:Int) (s:zdH) (K:zdS):Prop:=ah (decide (s.size<=100000)) (U11 (∃H:QX4,J H/\(p4M s (abI s nl11).length 0 ⟨#[]⟩ false H/\ ∀x:QX4,J x->ag (decide (x.1<((abI s nl11).length:Int)))
 (aIl J N s (abI s nl11).length x (F7 (abI s nl11) (0+x.1.toNat)) K) (aHW (abI s nl11).length x K))))
theorem aH4 (d:Ad3) (J:QX4->Prop) (N:Int) (s:zdH) (K:zdS):aEi d aIk [(44,aH3)] (aHp J N) 12 15 [cS.enc s] K=aIm J N s K:=by kernel_rfl
theorem aHP:rdF ⟨#[]⟩=none:=by
 have:(rdF ⟨#[]⟩).isNone=true:=by decide+kernel
 exact Option.isNone_iff_eq_none.1 this
variable {x:InX}
theorem aHz:seq (cu x) ⟨#[]⟩=false:=by
 cases h:seq (cu x) ⟨#[]⟩ with
 |false=>rfl
 |true=>
  have h:=We.1 h;have hp:=pr x;have:(cu x).data.toList= []:=by rw[h]
  unfold cu at this;rw[eI] at this;rw[this] at hp;exact absurd hp (by decide)
theorem aHA (h:OkI x):seq (eh x) ⟨#[101,110,100]⟩=(x.1==9):=by
 by_cases h9:x.1=9
 ·have e:eh x=⟨#[101,110,100]⟩:=by
   have:=(aG3 (x:=x) (y:=(9,0,noR)) h9 (λe=>by cases e) λe=>by rcases e with e|e<;>cases e).1;rw[this];rfl
  rw[e,beq_iff_eq.2 h9];exact We.2 rfl
 ·rw[beq_eq_false_iff_ne.2 h9];cases H:seq (eh x) ⟨#[101,110,100]⟩ with
  |false=>rfl
  |true=>
   have h1:=(aHU h).1;rw[We.1 H] at h1;have:(rdX (aGY ⟨#[101,110,100]⟩) (aGX ⟨#[101,110,100]⟩)).1=9:=by decide+kernel
   exact absurd (h1.symm.trans this) h9
structure QI4 (s:ByteArray) (z:QX4):Prop where
 go:vm ((abI s nl11).drop z.1.toNat) z.1 z.2.1 z.2.2=ic s
 lo:0<=z.1
 hi:z.1<((abI s nl11).length:Int)
 sz:z.2.1.size<=4096
theorem aHv {s:zdH} {K:zdS} (hs:s.size<=100000) (k:K (c3 (ic s))):aIm (QI4 s) (abI s nl11).length s K:=by
 have u0:=aAy s;have v0:0<(abI s nl11).length:=by
  have h:(abI s nl11).length=Lib.countB s nl11+1:=Lib.splitB_all nl11 (by decide) 0 _ s rfl;omega
 refine ac (zdq hs) λ_ _=>⟨(0,⟨#[]⟩,false),⟨rfl,zat _,by dsimp only;omega,by show 0<=4096;decide⟩,⟨⟨rfl,rfl,rfl,rfl,rfl,trivial⟩,trivial,trivial,trivial⟩, ?_⟩;rintro⟨i,c,e⟩ ⟨go,lo,hi,sz⟩;dsimp only at go lo hi sz ⊢;have J: ∀j,(F7 (abI s nl11) j).size<=100000:=λj=>zac (azb (ayK _ _ _ _)) hs;generalize hL:abI s nl11=L at*
 refine ce (λhb=> ?_) λhb=>absurd (zdw hb) (by omega);have hd:=aBi (l:=L) (i:=i.toNat) (by omega);rw[hd] at go;have i0:(L.drop (i.toNat+1)).isEmpty=(i==(L.length:Int) - 1):=by
  have hl:(L.drop (i.toNat+1)).length=L.length - (i.toNat+1):=zbR;by_cases hq:i=(L.length:Int) - 1
  ·rw[beq_iff_eq.2 hq];exact List.isEmpty_iff.2 (zau (by omega))
  ·rw[beq_eq_false_iff_ne.2 hq];cases H:(L.drop (i.toNat+1)).isEmpty with
   |false=>rfl
   |true=>
    rw[List.isEmpty_iff.1 H] at hl;simp at hl;omega
 have q0:(i+1).toNat=i.toNat+1:=by omega
 have J:=J (0+i.toNat);rw[za7] at J;unfold aIl;rw[za7];generalize F7 L i.toNat=t at*
 generalize n0:L.drop (i.toNat+1)=ls at*
 have ib:(decide (0<=i)&&decide (i<(L.length:Int)))=true:=by rw[zdq lo,zdq hi];rfl
 have il:decide (0+i.toNat<L.length)=true:=zdq (by omega);have a0: ∀{P:Prop},P->ixS L.length i P:=λp=>ac ib (ac il p);have Y:inR .i64 (i+1)=true:=ej (by omega) (by omega);refine ac (ej (by omega) (by omega)) (ac (Q5 λ_=>ib) (ac (Q5 λ_=>by rw[za7] at il;exact il) ?_));have j0:vm (t::ls) i c e=bif ls.isEmpty&&(seq t ⟨#[]⟩&&e) then(c,0,0) else match rdF t with
  |none=>(⟨#[]⟩,i+1,110)
  |some x=>bif e||(ls.isEmpty||decide (c.size+(cu x).size>4096)) then(⟨#[]⟩,i+1,110) else vm ls (i+1) (c++cu x) (x.1==9):=rfl
 rw[j0,i0] at go;have kf:(⟨#[]⟩,i+1,110)=ic s->K (c3 (⟨#[]⟩,i+1,110)):=λh=>by rw[h];exact k
 dsimp only at go ⊢;refine ce (λN=> ?_) λN=> ?_
 ·have h1:(i==(L.length:Int) - 1)=true:=by
   cases h1:i==(L.length:Int) - 1 with
   |true=>rfl
   |false=>rw[h1] at N;cases N
  rw[h1,zds] at N;have ht:=ayR.1 N;have l0:i+1=(L.length:Int):=by have:=beq_iff_eq.1 h1;omega
  rw[h1,N,zb6,zb6] at go;refine ce (λH=> ?_) λH=> ?_
  ·have H:e=false:=by simpa using H
   rw[H,zdr,ht,aHP] at go;rw[<-l0];exact kf go
  ·have H:e=true:=by simpa using H
   rw[H,zds] at go;show K (c3 (c,0,0));rw[go];exact k
 ·have g0:(i==(L.length:Int) - 1&&(seq t ⟨#[]⟩&&e))=false:=by
   cases h1:i==(L.length:Int) - 1 with
   |false=>rfl
   |true=>rw[h1,zds] at N;rw[N];rfl
  rw[g0,zdr] at go;refine a0 (ac (zdq J) ?_);cases hr:rdF t with
  |none=>
   rw[hr] at go;have er:rdC t=⟨#[]⟩:=by unfold rdC;rw[hr]
   rw[er];refine ac (zdq (by show c.size+0<=_;omega)) (ce (λ_=>ac Y (kf go)) λh=> ?_);rw[show seq (⟨#[]⟩:zdH) ⟨#[]⟩=true from rfl] at h;cases h
  |some x=>
   rw[hr] at go;dsimp only at go;obtain⟨e0,o0⟩:=aAn hr;have hz:=aA3 (azi e0);have er:rdC t=cu x:=by unfold rdC;rw[hr]
   rw[er,aHz,zdr];have ez:decide (((c++cu x).size:Int)>4096)=decide (c.size+(cu x).size>4096):=by
    rw[ByteArray.size_append];exact decide_eq_decide.2 (by omega)
   rw[ez];refine ac (zdq (by omega)) (ce (λhq=>ac Y (kf ?_)) λhq=> ?_)
   ·have:(e||(i==(L.length:Int) - 1||decide (c.size+(cu x).size>4096)))=true:=by
     revert hq;cases e<;>cases i==(L.length:Int) - 1<;>cases decide (c.size+(cu x).size>4096)<;>simp
    rw[this,zds] at go;exact go
   ·have r0:e=false/\(i==(L.length:Int) - 1)=false/\decide (c.size+(cu x).size>4096)=false:=by
     revert hq;cases e<;>cases i==(L.length:Int) - 1<;>cases decide (c.size+(cu x).size>4096)<;>simp
    obtain⟨q1,q2,q3⟩:=r0;rw[q1,q2,q3,Bool.or_false,Bool.or_false,zdr] at go;have w0:=beq_eq_false_iff_ne.1 q2;have x0:=zdw q3;refine a0 (ac Y ⟨(i+1,c++cu x,seq t aHV),⟨?_,by dsimp only;omega,by dsimp only;rw[hL];omega,by dsimp only;rw[ByteArray.size_append];omega⟩,by dsimp only;omega,⟨⟨rfl,rfl,rfl,rfl,rfl,trivial⟩,trivial,trivial,trivial⟩⟩);dsimp only;rw[hL,q0,n0,<-go,<-o0];exact congrArg _ (aHA e0)
def aH5:List SV->zdH
 | [.val (.string a)]=>a
 |_=>⟨#[]⟩
def eT:El ByteArray:={sz:=1,sv:=λx=> [.val (.string x)],of:=aH5,d:=⟨#[]⟩,rt:=λ_=>rfl,ids:=λ_=>rfl,len:=λ_=>rfl,one:=by decide}
theorem aHQ {c:UInt8} {x t:List UInt8} {L:List (List UInt8)} (h:c∉x):L++aFq c (x++c::t)=(L++ [x])++aFq c t:=by
 rw[azz c x t h];simp
abbrev SX11:=Int×Int×List ByteArray
def aHX (I:SX11->Prop) (N:Int):zdW:=λf k=>bif Nat.beq f 44&&Nat.beq k 4 then some (λA=>{X:=SX11,inv:=I,tm:=λx=> [(5, .val (.int .i64 x.1)),(4, .val (.int .i64 x.2.1)),(3, .slc A.nx 0 x.2.2.length)],gr:= [{src:= .slot 3,sz:=1,n:=λx=>x.2.2.length,get:=λx=>eT.get x.2.2}],cleanG:=λg hg x e=>(by simp at hg;subst hg;exact eT.ids _),mu:=λx=>(N - x.1).toNat,keep:= [0]}) else none
def aH6 (Q:Nat->Nat->Blk->Prop):Aft:=λr bl _ _=>match r with
 | .ok (.slc i 0 n)=>(match bl i with
   |some B=>Q i n B
   |none=>False)
 |_=>False
abbrev aHY (d:Ad3) (I:SX11->Prop) (N:Int) (s:zdH) (Q:Nat->Nat->Blk->Prop):Prop:=ayw d [] [] (aHX I N) 12 44 [cS.enc s] [] (aH6 Q)
def aHk (l:List ByteArray) (v:zdH):zdN:=ald (eT.get l) (λe=> [.val (.string (F7 [v] e))]) l.length 0
def aHn (n:Nat) (K:Prop):Prop:=ah (decide (0<1)&&decide (0+1<=1)&&decide (n<=n)&&decide ((n+1)*16<=140737488355328)&&true) K
def aIn (q:Nat) (s:zdH) (i fr:Int) (m:Nat) (g:zdN) (z:SX11):Prop:=(TV.v (cI.enc i)=TV.v (cI.enc z.1)/\TV.v (cI.enc fr)=TV.v (cI.enc z.2.1)/\TV.v (.slc q 0 m)=TV.v (.slc q 0 z.2.2.length)/\TV.v (cS.enc s)=TV.v (cS.enc s)/\True)/\(True/\(True/\(ah (Nat.beq 1 1&&decide (z.2.2.length<=m)) (∀e,e<z.2.2.length->g e=eT.get z.2.2 e)/\True)))
def aHZ (I:SX11->Prop) (N:Int) (q:Nat) (s:zdH) (z:SX11) (fr:Int) (m:Nat) (g:zdN):Prop:=ah (inR .i64 (z.1+1)) (∃H:SX11,I H/\((N - H.1).toNat<(N - z.1).toNat/\aIn q s (z.1+1) fr m g H))
def aH0 (I:SX11->Prop) (N:Int) (s:zdH) (J Y q2:Nat) (Q:Nat->Nat->Blk->Prop):Prop:= ∃H:SX11,I H/\(((TV.v (cI.enc 0)=TV.v (cI.enc H.1)/\TV.v (cI.enc 0)=TV.v (cI.enc H.2.1)/\TV.v (.val (.slice none 0 0))=TV.v (.val (.slice none H.2.2.length 0))/\TV.v (cS.enc s)=TV.v (cS.enc s)/\True)/\(True/\(True/\(H.2.2.length=0/\True))))/\ ∀z:SX11,I z->
 ag (decide (z.1<(s.size:Int))) (ah (decide (0<=z.1)&&decide (z.1<(s.size:Int))) (ag (F6 s z.1.toNat==10)
  (ah (decide (0<=z.2.1)&&decide (z.2.1<=z.1)&&decide (z.1<=(s.size:Int))) (aHn z.2.2.length (ah (inR .i64 (z.1+1)) (aHZ I N Y s z (z.1+1) (z.2.2.length+1) (aHk z.2.2 (s.extract z.2.1.toNat z.1.toNat))))))
  (aHZ I N J s z z.2.1 z.2.2.length (eT.get z.2.2))))
 (ah (decide (0<=z.2.1)&&decide (z.2.1<=(s.size:Int))) (aHn z.2.2.length (Q q2 (z.2.2.length+1) {n:=z.2.2.length+1,sz:=1,get:=aHk z.2.2 (s.extract z.2.1.toNat s.size),kd:= .own}))))
theorem aHB: ∀{l:List ByteArray} {e:Nat},mb ⟨#[]⟩ l e=F7 l e
 | [],0=>rfl
 | [],_+1=>rfl
 |a::l,0=>rfl
 |a::l,e+1=>aHB (l:=l) (e:=e)
theorem aIo (d:Ad3) (I:SX11->Prop) (N:Int) (s:zdH) (Q:Nat->Nat->Blk->Prop):aHY d I N s Q=aH0 I N s 4 19 14 Q:=by kernel_rfl
theorem aHh {l:List ByteArray} {v:zdH} {e:Nat} (H:e<l.length+1):aHk l v e=eT.get (l++ [v]) e:=by
 unfold aHk ald El.get El.nth;rw[aB];show _= [SV.val (.string (mb ⟨#[]⟩ (l++ [v]) e))];rw[aS];by_cases h:e<l.length
 ·rw[zdq h,if_neg (by omega)];rfl
 ·obtain rfl:e=l.length:=by omega
  rw[zdt h,if_pos rfl,zaJ];rfl
structure SI11 (s:ByteArray) (z:SX11):Prop where
 f0:0<=z.2.1
 f1:z.2.1<=z.1
 hi:z.1<=(s.size:Int)
 fr:(10:UInt8)∉(s.data.toList.drop z.2.1.toNat).take (z.1.toNat - z.2.1.toNat)
 go:z.2.2.map (·.data.toList)++aFq 10 (s.data.toList.drop z.2.1.toNat)=aFq 10 s.data.toList
 len:(z.2.2.length:Int)<=z.2.1
theorem aHq {n:Nat} {K:Prop} (h:n<=1000000) (k:K):aHn n K:=ac (by
 rw[zdq (zbT),zdq (show 0+1<=1 by omega),zdq (za0 n),zdq (show (n+1)*16<=140737488355328 by omega)];rfl) k
theorem aHC {s:zdH} {q0 q1 q2:Nat} {Q:Nat->Nat->Blk->Prop} (hs:s.size<=100000) (k: ∀g:zdN,(∀e,e<(abI s nl11).length->g e=eT.get (abI s nl11) e)->Q q2 (abI s nl11).length {n:=(abI s nl11).length,sz:=1,get:=g,kd:= .own}):aH0 (SI11 s) s.size s q0 q1 q2 Q:=by
 refine⟨(0,0, []),⟨zat _,zat _,Int.natCast_nonneg _,by simp,by simp,zat _⟩,⟨⟨rfl,rfl,rfl,rfl,trivial⟩,trivial,trivial,rfl,trivial⟩, ?_⟩;rintro⟨i,f,l⟩ ⟨f0,f1,hi,fr,go,len⟩;dsimp only at f0 f1 hi fr go len ⊢;refine ce (λhb=> ?_) λhb=> ?_
 ·have hb:=zdv hb;have J:i.toNat<s.data.toList.length:=by rw[bj];omega
  have a0:F6 s i.toNat=((s.data.toList[i.toNat]'(J)).toNat:Int):=by unfold F6;rw[zaa J]
  have hd:(s.data.toList.drop f.toNat).drop (i.toNat - f.toNat)=s.data.toList[i.toNat]'(J)::s.data.toList.drop (i.toNat+1):=by
   rw[List.drop_drop,show f.toNat+(i.toNat - f.toNat)=i.toNat by omega,zaH J]
  have H:=zdn (i.toNat - f.toNat) (s.data.toList.drop f.toNat);rw[hd] at H;have n1:(i+1).toNat=i.toNat+1:=by omega
  have Y:(s.extract f.toNat i.toNat).data.toList=(s.data.toList.drop f.toNat).take (i.toNat - f.toNat):=aEt _ _ _;refine ac (by rw[zdq (by omega),zdq hb];rfl) (ce (λh=> ?_) λh=> ?_)
  ·rw[zdy,a0] at h;have g0:s.data.toList[i.toNat]'(J)=10:=UInt8.toNat_inj.1 (by show _=10;omega);rw[g0] at H;refine ac (by rw[zdq f0,zdq f1,zdq hi];rfl) (aHq (by omega) (ac (ej (by omega) (by omega)) (ac (ej (by omega) (by omega)) ⟨(i+1,i+1,l++ [s.extract f.toNat i.toNat]),⟨by dsimp only;omega,zat _,by dsimp only;omega,by simp, ?_,by dsimp only;rw[za3,za6];omega⟩,by dsimp only;omega,⟨⟨rfl,rfl,by dsimp only;rw[za3];rfl,rfl,trivial⟩,trivial,trivial,ac (by dsimp only;rw[za3,za6,zdq (za0 _)];rfl) λe he=>aHh (l:=l) (by have he:e<(l++ [s.extract f.toNat i.toNat]).length:=he;rw[za3,za6] at he;exact he),trivial⟩⟩)));dsimp only;rw[<-H,aHQ fr] at go;rw[zb8,List.map_singleton,Y,n1];exact go
  ·refine ac (ej (by omega) (by omega)) ⟨(i+1,f,l),⟨f0,by dsimp only;omega,by dsimp only;omega, ?_,go,len⟩,by dsimp only;omega,⟨⟨rfl,rfl,rfl,rfl,trivial⟩,trivial,trivial,ac (by dsimp only;rw[zdq (za0 _)];rfl) λe _=>rfl,trivial⟩⟩;dsimp only;intro N;rw[n1,<-H,show i.toNat+1 - f.toNat=(i.toNat - f.toNat)+1 by omega] at N;have hl:((s.data.toList.drop f.toNat).take (i.toNat - f.toNat)).length=i.toNat - f.toNat:=by
    rw[zaE,zbR,bj];omega
   rw[List.take_append,hl,zaI (by rw[hl];omega),show i.toNat - f.toNat+1 - (i.toNat - f.toNat)=1 by omega] at N;rcases za8.1 N with N|N
   ·exact fr N
   ·simp only[List.take_succ_cons,zbv,zaj] at N;rw[zdx,a0,<-N] at h;exact h rfl
 ·have hb:=zdw hb;have i0:i.toNat=s.size:=by omega
  rw[zaI (by rw[zbR,bj];omega)] at fr;rw[aHO fr] at go;have Y:(s.extract f.toNat s.size).data.toList=s.data.toList.drop f.toNat:=ayT _ _;have e:abI s nl11=l++ [s.extract f.toNat s.size]:=by
   apply ayj;rw[show nl11=(⟨#[10]⟩:zdH) from rfl,ayM,<-go,zb8,List.map_singleton,Y]
  have hn:(abI s nl11).length=l.length+1:=by rw[e,za3];rfl
  have kk:=k (aHk l (s.extract f.toNat s.size)) (λe' e0=>by rw[hn] at e0;rw[e];exact aHh e0);rw[hn] at kk;exact ac (by rw[zdq f0,zdq (by omega)];rfl) (aHq (by omega) kk)
theorem aHR {d:Ad3}: ∀B:Base,GlobPB d B->VU Tryz.prog B 44 aH3:=aEL aDl (MPk.of MEk.nil) λbl nx args C H hp=>by
 unfold aH3 at H;split at H
 ·rename_i s;simp only[za1] at H;subst H;have hs:s.size<=100000:=zdv hp;refine⟨[], [], [cS.enc s],aHX (SI11 s) s.size,12,trivial,bH (λC J=>by cases J), .inl (λC J=>by cases J),rfl, ?_⟩;refine azw (K:=aH6 λi k B=>i=14/\k=(abI s nl11).length/\B.n=(abI s nl11).length/\B.sz=1/\B.kd= .own/\B.nn=true/\ ∀e,e<(abI s nl11).length->B.get e=eT.get (abI s nl11) e) ?_ λr bl' q w h=> ?_
  ·have e:=aIo d (SI11 s) s.size s (λi k B=>i=14/\k=(abI s nl11).length/\B.n=(abI s nl11).length/\B.sz=1/\B.kd= .own/\B.nn=true/\ ∀e,e<(abI s nl11).length->B.get e=eT.get (abI s nl11) e);unfold aHY at e;rw[e];exact aHC hs λg hg=>⟨rfl,rfl,rfl,rfl,rfl,rfl,hg⟩
  ·unfold aH6 at h;split at h
   ·rename_i i k;split at h
    ·rename_i B hB;obtain⟨rfl,rfl,N,Y,b3,b4,b5⟩:=h;have eb:dt [] [some 14] nx nx=some (some 14):=cO;refine⟨(),trivial, [some 14],⟨_,rfl, ?_⟩,by decide,⟨⟨zaA _, ?_⟩,trivial⟩,trivial⟩
     ·show SV.rn (dt [] [some 14] nx) (.slc nx 0 (abI s nl11).length)=_;simp only[SV.rn,eb]
     ·rw[hB];refine⟨by simp[abN],λ_=> .inl rfl, .inr ⟨b3.symm,Y.symm,λ_=>b4,by rw[N];exact za0 _,λe he=> ?_⟩⟩;have hh:B.get e= [SV.val (.string (F7 (abI s nl11) e))]:=by
       rw[b5 e he,<-aHB];rfl
      rw[hh];rfl
    ·exact h.elim
   ·exact h.elim
 ·cases H
def aH7:TV->Nat
 | .v (.ptr b _ _)=>b
 |_=>0
def aIp:SV->Int
 | .val (.int _ n)=>n
 |_=>0
def aH1:SV->zdH
 | .val (.string n)=>n
 |_=>⟨#[]⟩
def aIv (A:AS) (b:Nat):zdK:=match A.bl b with
 |some B=>B.get 0
 |none=> []
def aH8 (l:zdK) (n:Int):zdK:=match l with
 | [a,_,b,c]=> [.val (.int .i64 (aIp a)), .val (.int .i64 n), .val (.string (aH1 b)), .val (.string (aH1 c))]
 |_=> []
theorem aHD (l:zdK) (n:Int):SV.idss (aH8 l n)= []:=by
 unfold aH8;split<;>rfl
def gRe:List (FuncId×Ctr):=(31,k1 cR cS rV λv=>cu (0,0,v))::(32,k2 cI cI cS (λn b=>decide (1<=n)&&decide (0<=b)) λn b=>cu (n,b,noR))::(34,k1 cIn cS okW eh)::aEm
abbrev P2:=Int×Int
def axs (H:Int->Prop) (J I3:P2->Prop) (N:Int):zdW:=λf k=>bif Nat.beq f 45 then(bif Nat.beq k 4 then some (λ_=>{X:=Int,inv:=H,tm:=λx=> [(5, .val (.int .i64 x))],mu:=λx=>(N - x).toNat,keep:= [0,3,4]})
 else bif Nat.beq k 11 then some (λA=>{X:=P2,inv:=J,tm:=λx=> [(7, .val (.int .i64 x.1))],bk:= [(aH7 (A.tm 6),λx _=> [.val (.int .i64 x.2), .val (.int .i64 0), .val (.string ⟨#[]⟩), .val (.string ⟨#[]⟩)])],mu:=λx=>(10 - x.1).toNat,keep:= [0,3,4,6],clean:=by intro p hp x e;simp at hp;subst hp;rfl})
 else bif Nat.beq k 19 then some (λA=>{X:=P2,inv:=I3,tm:=λx=> [(8, .val (.int .i64 x.1))],bk:= [(aH7 (A.tm 6),λx _=>aH8 (aIv A (aH7 (A.tm 6))) x.2)],mu:=λx=>(16 - x.1).toNat,keep:= [0,3,4,6],clean:=by intro p hp x e;simp at hp;subst hp;exact aHD _ _}) else none) else none
def aIq (x:InX):zdK:= [.val (.int .i64 x.1), .val (.int .i64 x.2.1), .val (.string x.2.2.1), .val (.string x.2.2.2)]
def aIr (s:zdH) (i z:Int):Prop:=(TV.v (cI.enc i)=TV.v (cI.enc z)/\TV.v (cS.enc s)=TV.v (cS.enc s)/\TV.v (cS.enc s)=TV.v (cS.enc s)/\TV.v (cS.enc ⟨#[]⟩)=TV.v (cS.enc ⟨#[]⟩)/\True)/\(True/\(True/\True))
def reM (s w r:zdH) (q:Nat) (i z:Int) (x y:InX):Prop:=(TV.v (cI.enc i)=TV.v (cI.enc z)/\TV.v (cS.enc s)=TV.v (cS.enc s)/\TV.v (cS.enc w)=TV.v (cS.enc w)/\TV.v (cS.enc r)=TV.v (cS.enc r)/\TV.v (.ptr q 0 0)=TV.v (.ptr q 0 0)/\True)/\(((aIq x=aIq y/\True)/\True)/\(True/\True))
def aHl (t:zdH) (x:InX):Bool:=bif (bif !seq (eh x) t then true else bif x.1==0 then seq x.2.2.2 ⟨#[]⟩ else false) then true else bif x.1==1 then decide (x.2.1≥6) else false
def aH2 (s:zdH) (x:InX) (K:zdS):Prop:=ah (okW x) (ag (aHl s x) (K (cS.enc ⟨#[]⟩)) (ag (x.1==0) (ah (rV x.2.2) (K (cS.enc (cu (0,0,x.2.2))))) (ah (decide (1<=x.1)&&decide (0<=x.2.1)) (K (cS.enc (cu (x.1,x.2.1,noR)))))))
def aH9 (I3:P2->Prop) (s w r:zdH) (q:Nat) (op:Int) (v:RS) (i n:Int):Prop:=ah (inR .i64 (i+1)) (∃y:P2,I3 y/\((16 - y.1).toNat<(16 - i).toNat/\reM s w r q (i+1) y.1 (op,n,v) (op,y.2,v)))
def aIw (I3:P2->Prop) (s w r:zdH) (q:Nat) (op:Int) (v:RS) (K:zdS):Prop:= ∃H:P2,I3 H/\(reM s w r q 0 H.1 (op,0,v) (op,H.2,v)/\ ∀y:P2,I3 y->ag (decide (y.1<=15))
 (ah (cl y.1) (ag (seq (ofI y.1) r) (aH9 I3 s w r q op v y.1 y.1) (aH9 I3 s w r q op v y.1 y.2)))
 (aH2 s (op,y.2,v) K))
def aIa (H:P2->Prop) (s w r:zdH) (q:Nat) (i n:Int):Prop:=ah (inR .i64 (i+1)) (∃y:P2,H y/\((10 - y.1).toNat<(10 - i).toNat/\reM s w r q (i+1) y.1 (n,0,aFn) (y.2,0,aFn)))
def aIb (H I3:P2->Prop) (s:zdH) (K:zdS) (q:Nat) (w r:zdH):Prop:= ∃J:P2,H J/\(reM s w r q 0 J.1 (-1,0,aFn) (J.2,0,aFn)/\ ∀y:P2,H y->ag (decide (y.1<=9))
 (ah (decide (0<=y.1)&&decide (y.1<10)) (ah (decide (0+y.1.toNat<10)) (ag (seq (eo (0+y.1.toNat)) w) (aIa H s w r q y.1 y.1) (aIa H s w r q y.1 y.2))))
 (ag (decide (y.2<0)) (K (cS.enc ⟨#[]⟩)) (ah (decide (r.size<=100000)) (aIw I3 s w r q y.2 (DR r).1 K))))
def reT (H:Int->Prop) (Y I3:P2->Prop) (N:Int) (s:zdH) (q1 q2:Nat) (K:zdS):Prop:= ∃z0:Int,H z0/\(aIr s 0 z0/\ ∀z:Int,H z->ag (decide (z<(s.size:Int)))
 (ah (decide (0<=z)&&decide (z<(s.size:Int))) (ag (F6 s z.toNat==32)
   (ah (decide (0<=z)&&decide (z<=(s.size:Int))) (ah (inR .i64 (z+1)) (ah (decide (0<=z+1)&&decide (z+1<=(s.size:Int))) (aIb Y I3 s K q1 (s.extract 0 z.toNat) (s.extract (z+1).toNat s.size)))))
   (ah (inR .i64 (z+1)) (∃J:Int,H J/\((N - J).toNat<(N - z).toNat/\aIr s (z+1) J)))))
 (aIb Y I3 s K q2 s ⟨#[]⟩))
theorem axX (d:Ad3) (H:Int->Prop) (J I3:P2->Prop) (N:Int) (s:zdH) (K:zdS):aEi d gRe [] (axs H J I3 N) 12 45 [cS.enc s] K=reT H J I3 N s (14+24) (14+11) K:=by kernel_rfl
def RI1 (s:zdH) (z:Int):Prop:=0<=z/\z<=(s.size:Int)/\(32:UInt8)∉s.data.toList.take z.toNat
def RI2 (s:zdH) (y:P2):Prop:=0<=y.1/\y.1<=10/\y.2=aGZ (aGY s) y.1.toNat
def RI3 (s:zdH) (y:P2):Prop:=0<=y.1/\y.1<=16/\y.2=aG0 (aGX s) y.1.toNat
theorem aHE (w:zdH) (k:Nat):aGZ w (k+1)=bif seq (eo k) w then(k:Int) else aGZ w k:=rfl
theorem aHF (w:zdH) (k:Nat):aG0 w (k+1)=bif seq (ofI (k:Int)) w then(k:Int) else aG0 w k:=rfl
variable {s:zdH} {K:zdS}
theorem aHG (h0:0<=(rdX (aGY s) (aGX s)).1) (k:K (cS.enc (rdC s))):aH2 s (rdX (aGY s) (aGX s)) K:=by
 have Y:=aHd (aGY s) 10;have hn:=aHc (aGX s) 16;have a0:=aHf (aGX s);have hv:uzR (rdX (aGY s) (aGX s)).2.2=true/\(gk (rdX (aGY s) (aGX s)).2.2).size<=1000:=by
  refine⟨azF, ?_⟩;unfold rdX;dsimp only;by_cases hp:(DR (aGX s)).2=0
  ·obtain⟨N,e2,_⟩:=azo hp;rw[N];have:=iU e2;dsimp only;omega
  ·rw[aHg hp,DA (by decide+kernel)];exact zaA _
 refine ac ?_ (ce (λH=> ?_) λH=> ?_)
 ·unfold okW;have h1:(rdX (aGY s) (aGX s)).1<10:=Y.2;have h2:0<=(rdX (aGY s) (aGX s)).2.1:=hn.1;have h3:(rdX (aGY s) (aGX s)).2.1<=15:=a0;rw[zdq h0,zdq h1,zdq h2,zdq h3,hv.1,zdq hv.2];rfl
 ·have:rdC s=⟨#[]⟩:=aHy (by
   unfold aHl at H;cases h1:seq (eh (rdX (aGY s) (aGX s))) s with
   |false=>exact .inl rfl
   |true=>
    rw[h1] at H;by_cases J:(rdX (aGY s) (aGX s)).1=0
    ·rw[J] at H;cases h2:seq (rdX (aGY s) (aGX s)).2.2.2 ⟨#[]⟩ with
     |true=>exact .inr (.inl ⟨J,We.1 h2⟩)
     |false=>rw[h2] at H;cases H
    ·rw[beq_eq_false_iff_ne.2 J] at H;by_cases N:(rdX (aGY s) (aGX s)).1=1
     ·rw[N] at H;exact .inr (.inr (.inl ⟨N,zdv H⟩))
     ·rw[beq_eq_false_iff_ne.2 N] at H;cases H)
  rw[this] at k;exact k
 ·have hg:=aHN (t:=s) h0 (by
   unfold aHl at H;cases h1:seq (eh (rdX (aGY s) (aGX s))) s with
   |true=>rfl
   |false=>rw[h1] at H;cases H) (λJ hq=>by
   unfold aHl at H;rw[J,hq,show seq (⟨#[]⟩:zdH) ⟨#[]⟩=true from rfl] at H;cases h1:seq (eh (rdX (aGY s) (aGX s))) s<;>rw[h1] at H<;>cases H) (λN=>by
   unfold aHl at H;rw[N] at H;by_cases h6:(rdX (aGY s) (aGX s)).2.1≥6
   ·rw[zdq h6] at H;cases h1:seq (eh (rdX (aGY s) (aGX s))) s<;>rw[h1] at H<;>cases H
   ·omega)
  obtain⟨g1,g2⟩:=hg;rw[g1] at k;refine ce (λJ=>ac (g2 (by simpa using J)) ?_) λJ=>ac ?_ ?_
  ·have J:(rdX (aGY s) (aGX s)).1=0:=by simpa using J
   rw[(aG3 (x:=rdX (aGY s) (aGX s)) (y:=(0,0,(rdX (aGY s) (aGX s)).2.2)) J (λ_=>rfl) λe=>by rcases e with e|e<;>cases e).2] at k;exact k
  ·have J:(rdX (aGY s) (aGX s)).1≠0:=by simpa using J
   rw[zdq (show 1<=(rdX (aGY s) (aGX s)).1 by omega),zdq (show 0<=(rdX (aGY s) (aGX s)).2.1 from hn.1)];rfl
  ·have J:(rdX (aGY s) (aGX s)).1≠0:=by simpa using J
   rw[(aG3 (x:=rdX (aGY s) (aGX s)) (y:=((rdX (aGY s) (aGX s)).1,(rdX (aGY s) (aGX s)).2.1,noR)) rfl (λe=>absurd e J) λ_=>rfl).2] at k;exact k
theorem aHr {w r:zdH} {q:Nat} (hs:s.size<=100000) (hw:w=aGY s) (hr:r=aGX s) (k:K (cS.enc (rdC s))):aIb (RI2 s) (RI3 s) s K q w r:=by
 subst hw hr;have N:(aGX s).size<=100000:=zac (aBy _ _) hs;refine⟨(0, -1),⟨zat _,by decide,rfl⟩,⟨⟨rfl,rfl,rfl,rfl,rfl,trivial⟩,⟨⟨rfl,trivial⟩,trivial⟩,trivial,trivial⟩, ?_⟩;rintro⟨i,op⟩ ⟨h0,h1,h2⟩;dsimp only at h0 h1 h2 ⊢;refine ce (λJ=> ?_) λJ=> ?_
 ·have J:=zdv J;have H:=aHE (aGY s) i.toNat;have nx: ∀n:Int,n=aGZ (aGY s) (i.toNat+1)->aIa (RI2 s) s (aGY s) (aGX s) q i n:=λn e=>
   ac (ej (by omega) (by omega)) ⟨(i+1,n),⟨by dsimp only;omega,by dsimp only;omega,by dsimp only;rw[show (i+1).toNat=i.toNat+1 by omega];exact e⟩,by dsimp only;omega,⟨⟨rfl,rfl,rfl,rfl,rfl,trivial⟩,⟨⟨rfl,trivial⟩,trivial⟩,trivial,trivial⟩⟩
  refine ac (by rw[zdq h0,zdq (show i<10 by omega)];rfl) (ac (zdq (by omega)) ?_);rw[za7];refine ce (λh=>nx i ?_) λh=>nx op ?_
  ·rw[H,h,zds];omega
  ·rw[H,h,zdr];exact h2
 ·have J:=zdw J;have hop:op=aGZ (aGY s) 10:=by rw[h2,show i.toNat=10 by omega]
  refine ce (λh=> ?_) λh=> ?_
  ·have:rdC s=⟨#[]⟩:=aHy (.inr (.inr (.inr (by
    show aGZ (aGY s) 10<0
    rw[<-hop];exact zdv h))))
   rw[this] at k;exact k
  ·have h:=zdw h;refine ac (zdq N) ⟨(0,0),⟨zat _,by decide,rfl⟩,⟨⟨rfl,rfl,rfl,rfl,rfl,trivial⟩,⟨⟨rfl,trivial⟩,trivial⟩,trivial,trivial⟩, ?_⟩;rintro⟨j,n⟩ ⟨j0,j1,Y⟩;dsimp only at j0 j1 Y ⊢;refine ce (λJ=> ?_) λJ=> ?_
   ·have J:=zdv J;have H:=aHF (aGX s) j.toNat;rw[zce j0] at H;have nx: ∀n:Int,n=aG0 (aGX s) (j.toNat+1)->aH9 (RI3 s) s (aGY s) (aGX s) q op (DR (aGX s)).1 j n:=λn e=>
     ac (ej (by omega) (by omega)) ⟨(j+1,n),⟨by dsimp only;omega,by dsimp only;omega,by dsimp only;rw[show (j+1).toNat=j.toNat+1 by omega];exact e⟩,by dsimp only;omega,⟨⟨rfl,rfl,rfl,rfl,rfl,trivial⟩,⟨⟨rfl,trivial⟩,trivial⟩,trivial,trivial⟩⟩
    refine ac (V4.2 ⟨by omega,by omega⟩) (ce (λh=>nx j ?_) λh=>nx n ?_)
    ·rw[H,h,zds]
    ·rw[H,h,zdr];exact Y
   ·have J:=zdw J;have hn:n=aG0 (aGX s) 16:=by rw[Y,show j.toNat=16 by omega]
    have ex:((op,n,(DR (aGX s)).1):InX)=rdX (aGY s) (aGX s):=by rw[hop,hn];rfl
    rw[ex];exact aHG (by show 0<=aGZ (aGY s) 10;rw[<-hop];omega) k
theorem awV {q1 q2:Nat} (hs:s.size<=100000) (k:K (cS.enc (rdC s))):reT (RI1 s) (RI2 s) (RI3 s) s.size s q1 q2 K:=by
 refine⟨0,⟨zat _,Int.natCast_nonneg _,by simp⟩,⟨⟨rfl,rfl,rfl,rfl,trivial⟩,trivial,trivial,trivial⟩, ?_⟩;rintro i ⟨h0,h1,h2⟩;refine ce (λN=> ?_) λN=> ?_
 ·have N:=zdv N;have H:i.toNat<s.data.toList.length:=by rw[bj];omega
  have a0:F6 s i.toNat=((s.data.toList[i.toNat]'(H)).toNat:Int):=by unfold F6;rw[zaa H]
  have n1:(i+1).toNat=i.toNat+1:=by omega
  refine ac (by rw[zdq h0,zdq N];rfl) (ce (λh=> ?_) λh=> ?_)
  ·rw[zdy,a0] at h;have e0:s.data.toList[i.toNat]'(H)=32:=UInt8.toNat_inj.1 (by show _=32;omega);have e:s.data.toList=s.data.toList.take i.toNat++32::s.data.toList.drop (i.toNat+1):=by
    rw[<-e0,<-zaH H,zdn]
   have J:=aAo (c:=32) (x:=s.data.toList.take i.toNat) (t:=s.data.toList.drop (i.toNat+1)) h2;rw[<-e,aaA] at J;refine ac (by rw[zdq h0,zdq h1];rfl) (ac (ej (by omega) (by omega)) (ac (by rw[zdq (by omega),zdq (by omega)];rfl) (aHr hs ?_ ?_ k)))
   ·unfold aGY;rw[J];exact gT (by rw[ayS,eI])
   ·unfold aGX;rw[J];exact gT (by rw[ayT,eI,n1])
  ·refine ac (ej (by omega) (by omega)) ⟨i+1,⟨by omega,by omega, ?_⟩,by omega,⟨⟨rfl,rfl,rfl,rfl,trivial⟩,trivial,trivial,trivial⟩⟩;rw[n1,List.take_succ_eq_append_getElem H];intro Y;rcases za8.1 Y with Y|Y
   ·exact h2 Y
   ·rw[zaj] at Y;rw[zdx,a0,<-Y] at h;exact h rfl
 ·have N:=zdw N;rw[zaI (by rw[bj];omega)] at h2;have J:=aBB h2;rw[aaA] at J;refine aHr hs ?_ ?_ k
  ·unfold aGY;rw[J]
  ·unfold aGX;rw[J]
theorem aIs:GQk gRe:=(((GQk.of aCA).cons (λd W H=>aHM H) call34).cons (λd W H=>aEl H.1) call32).cons (λd W H=>aEk H.1) call31
abbrev kRe:Ctr:=k1 cS cS (λs=>decide (s.size<=100000)) rdC
theorem aIc {d:Ad3} {W:World} (H:GlobQ d W):CtrOK prog W 45 kRe:=dD λs h=>
 azJ aIs (MPk.of MEk.nil) H (ann:=axs (RI1 s) (RI2 s) (RI3 s) s.size) (n:=12) m8 (cS.ids _) (by
  rw[axX]
  exact awV (K:=λr=>r=_) (zdv h) rfl)
theorem az4: ∀{l:List (Int×Int)} {p:Int×Int} {d:Int},mdL (l++ [p]) d=((mdL l d).1++ [mdX (mdL l d).2 p],mdD (mdL l d).2 (mdX (mdL l d).2 p))
 | [],p,d=>rfl
 |q::l,p,d=>by
  show (mdX d q::(mdL (l++ [p]) _).1,(mdL (l++ [p]) _).2)=_;rw[az4];rfl
theorem azN: ∀n:Nat,(aAX n).flatMap cn=List.replicate n 4
 |0=>rfl
 |n+1=>by
  show cn (4,0,noR)++(aAX n).flatMap cn=_;rw[azN n,zcf];rfl
theorem aAE (n op:Int) (h:0<=op):cu (ayD n op)=bif op==0 then cu (0,0,(rMk (n - 20) (1+n.tmod 4)).1) else cu (op,n.tmod 3,noR):=by
 unfold ayD;cases h0:op==0 with
 |true=>rfl
 |false=>
  rw[zdr,zdr];cases h1:(op==1||op==2) with
  |true=>rfl
  |false=>
   rw[zdr];unfold cu cn;simp only[h0,h1,zdr]
theorem aBQ {x:InX} (h:OkI x):(gy x++ [10]).length<=6*(cn x).length:=by
 have h0:=h.lo;have h1:=h.hi;have J:=Go.Proofs.YtdjfpjmijhjmpaaGreatDoor.opNm_size (i:=x.1.toNat);rw[<-bj] at J;rw[za3];unfold gy cn;rw[za3];by_cases N:x.1=0
 ·rw[N] at J ⊢;simp only[beq_self_eq_true,zds,za4,bj,za9] at J ⊢;omega
 ·rw[beq_eq_false_iff_ne.2 N,zdr,zdr];by_cases Y:x.1=1\/x.1=2
  ·have H:(x.1==1||x.1==2)=true:=by rcases Y with e|e<;>rw[e]<;>rfl
   have hs:=Go.Proofs.YtdjfpjmijhjmpaaGreatDoor.ofI_small (h.nu Y);rw[<-bj] at hs;rw[H,zds,zds];simp only[za4,za9];omega
  ·have H:(x.1==1||x.1==2)=false:=by rw[zbs,zdx,zdx];omega
   rw[H,zdr,zdr];simp only[za4,za9];omega
theorem azO: ∀{l:List InX},(∀x∈l,OkI x)->(gB l).length<=6*(l.flatMap cn).length
 | [],_=>za0 _
 |x::l,h=>by
  have h1:=aBQ (h x (by simp));have h2:=azO (l:=l) λy N=>h y (zan _ N);have e:gB (x::l)=(gy x++ [10])++gB l:=rfl;have J:(x::l).flatMap cn=cn x++l.flatMap cn:=List.flatMap_cons;have H:((gy x++ [10])++gB l).length=(gy x++ [10]).length+(gB l).length:=za3;have e2:(cn x++l.flatMap cn).length=(cn x).length+(l.flatMap cn).length:=za3;rw[e,J,H,e2];omega
theorem aAF {s:zdH}:(eM s).1.size<=6*s.size:=by
 unfold eM;cases hp:un s with
 |none=>exact zaA _
 |some l=>
  obtain⟨h1,h2,_⟩:=ayB hp;have:=azO (aym h1);rw[<-h2,bj] at this;show (⟨(gB l).toArray⟩:zdH).size<=_;rw[<-bj,eI];exact this
theorem aAG (s:zdH) (n b:Int):(aA5 s n b).size<=s.size+s.size+1:=by
 unfold aA5 aBl;cases seq s ⟨#[]⟩ with
 |true=>show s.size<=_;omega
 |false=>
  rw[zdr,ByteArray.size_append,ByteArray.size_append,ByteArray.size_extract,ByteArray.size_extract];have:(⟨#[UInt8.ofNat b.toNat]⟩:zdH).size=1:=rfl;omega
theorem ayr (s:zdH):seq s s=true:=by rw[F3];simp
def I3 (i:Int):Prop:=0<=i/\i<=3
variable {M:Int->Int->Prop} {i:Int}
theorem aBq (h:I3 i) (hi:i<3) (m: ∀i,M i i):aEw I3 M i:=by
 obtain⟨h0,h1⟩:=h;exact ac (ej (by omega) (by omega)) ⟨i+1,⟨by omega,by omega⟩,by omega,m _⟩
theorem aCK {K:Prop} (h:I3 i) (hi:i<3) (k:K):ix3 i K:=by
 obtain⟨h0,h1⟩:=h;exact ac (by rw[zdq h0,zdq hi];rfl) (ac (zdq (by omega)) k)
theorem aAI (xs:List (Int×Int)):(mdF xs).size<=420:=by
 unfold mdF;rw[<-bj,eI];exact(aAY xs).2
structure MI11 (xs:List (Int×Int)) (x:MX11):Prop where
 lo:0<=x.1
 hi:x.1<=(xs.length:Int)
 h30:x.1<=30
 code:x.2.1=⟨((mdL (xs.take x.1.toNat) 0).1.flatMap cn).toArray⟩
 d:x.2.2=(mdL (xs.take x.1.toNat) 0).2
def ws (xs:List (Int×Int)):List UInt8:=(mdL (xs.take 30) 0).1.flatMap cn++bif (mdL (xs.take 30) 0).2==0 then cn (1,0,noR) else []
def ut (xs:List (Int×Int)):Int:=bif (mdL (xs.take 30) 0).2==0 then 1 else(mdL (xs.take 30) 0).2
structure NI11 (xs:List (Int×Int)) (y:NX11):Prop where
 lo:1<=y.2
 hi:y.2<=ut xs
 code:y.1=⟨(ws xs++List.replicate (ut xs - y.2).toNat 4).toArray⟩
theorem aEA (xs:List (Int×Int)):1<=ut xs/\ut xs<=16/\(ws xs).length<=400:=by
 obtain⟨_,h2,h3,h4⟩:=aFx (l:=xs.take 30) (d:=0) ⟨by decide,by decide⟩;have H:(xs.take 30).length<=30:=by rw[zaE];omega
 unfold ut ws;rw[za3];cases h0:(mdL (xs.take 30) 0).2==0 with
 |true=>
  refine⟨(by show (1:Int)<=1;decide),(by show (1:Int)<=16;decide), ?_⟩;show _+2<=400;omega
 |false=>
  have h0:(mdL (xs.take 30) 0).2≠0:=by simpa using h0
  refine⟨by rw[zdr];omega,by rw[zdr];exact h3, ?_⟩;show _+0<=400;omega
theorem aCM (xs:List (Int×Int)):ws xs++List.replicate (ut xs - 1).toNat 4++ [9]=(mdA xs).flatMap cn:=by
 unfold ws ut mdA aCl;rw[zd5];cases h0:(mdL (xs.take 30) 0).2==0 with
 |true=>simp only[zds,za5];rfl
 |false=>
  simp only[zdr,zbf,za5];rw[zd5,azN];rfl
variable {xs:List (Int×Int)} {c:zdH}
theorem aCN {k:Int} {K:ByteArray->Prop} (H:c=⟨(ws xs).toArray⟩) (N:k=ut xs) (Y:K (mdF xs)):aCH (NI11 xs) c k K:=by
 subst H N;obtain⟨t1,t2,t3⟩:=aEA xs;refine⟨(⟨(ws xs).toArray⟩,ut xs),⟨t1,zat _,by dsimp only;rw[show (ut xs - ut xs).toNat=0 by omega];simp⟩,⟨⟨rfl,rfl,trivial⟩,trivial,trivial,trivial⟩, ?_⟩;rintro⟨c,k⟩ ⟨lo,hi,H⟩;dsimp only at lo hi H ⊢;have hz:c.size<=420:=by
  rw[H,<-bj,eI,za3,zcy];omega
 refine ce (λh=> ?_) λh=> ?_
 ·have h:=zdv h;have z4:(cu (4,0,noR)).size=1:=rfl;refine ac (zdq (by omega)) (ac (ej (by omega) (by omega)) ⟨(c++cu (4,0,noR),k - 1),⟨by dsimp only;omega,by dsimp only;omega, ?_⟩,by dsimp only;omega,⟨⟨rfl,rfl,trivial⟩,trivial,trivial,trivial⟩⟩);dsimp only;rw[H,show (ut xs - (k - 1)).toNat=(ut xs - k).toNat+1 by omega,List.replicate_succ'];exact gT (by simp[eD,cu,cn])
 ·have h:=zdw h;have J:k=1:=by omega
  have z9:(cu (9,0,noR)).size=1:=rfl;refine ac (zdq (by omega)) ?_;have:c++cu (9,0,noR)=mdF xs:=by
   rw[H,J];unfold mdF;rw[<-aCM];exact gT (by simp[eD,cu,cn])
  rw[this];exact Y
theorem aEB {x:MX11} {op:Int} {piece:zdH} (h:MI11 xs x) (hx:x.1<(xs.length:Int)) (h30:x.1<30) (ho:0<=op/\op<8) (h1:(mdX x.2.2 (e2.nth xs x.1.toNat)).1=op) (h2:piece=cu (mdX x.2.2 (e2.nth xs x.1.toNat))):aCG (MI11 xs) xs.length x op piece:=by
 obtain⟨i,c,d⟩:=x;obtain⟨lo,hi,_,J,H⟩:=h;dsimp only at lo hi J H hx h30 h1 h2 ⊢;obtain⟨_,m2,m3,m4⟩:=aFx (l:=xs.take i.toNat) (d:=0) ⟨by decide,by decide⟩;rw[<-H] at m2 m3;have ok:=aCn ⟨m2,m3⟩ (e2.nth xs i.toNat);have hl:(xs.take i.toNat).length<=30:=by rw[zaE];omega
 have zc:c.size<=390:=by
  rw[J,<-bj,eI];omega
 have zp:piece.size<=13:=by
  rw[h2,<-bj];unfold cu;rw[eI];exact ok.sz
 obtain⟨t1,t0⟩:=azY (i:=op.toNat);obtain⟨p1,p0⟩:=azZ (i:=op.toNat) (by omega);have N:(decide (0<=op)&&decide (op<10))=true:=by rw[zdq ho.1,zdq (by omega)];rfl
 have Y:decide (op.toNat<10)=true:=zdq (by omega);have tk:xs.take (i+1).toNat=xs.take i.toNat++ [e2.nth xs i.toNat]:=by
  rw[show (i+1).toNat=i.toNat+1 by omega,zc2,Co (d:=e2.d) (show i.toNat<xs.length by omega)];rfl
 refine ac (zdq (by dsimp only;omega)) (ac N (ac Y (ac (ej (by dsimp only;omega) (by dsimp only;omega)) (ac N (ac Y (ac (ej (by dsimp only;omega) (by dsimp only;omega)) (ac (ej (by dsimp only;omega) (by dsimp only;omega)) ⟨(i+1,c++piece,d - gi op.toNat+lj op.toNat),⟨by dsimp only;omega,by dsimp only;omega,by dsimp only;omega, ?_, ?_⟩,by dsimp only;omega,⟨⟨rfl,rfl,rfl,rfl,trivial⟩,trivial,trivial,trivial⟩⟩)))))))
 ·dsimp only;rw[tk,az4,<-H,J,h2];exact gT (by simp[eD,cu])
 ·dsimp only;rw[tk,az4,<-H];show _=d - gi (mdX d (e2.nth xs i.toNat)).1.toNat+lj (mdX d (e2.nth xs i.toNat)).1.toNat;rw[h1]
theorem T7 {K0 K1:ByteArray->Prop} (hx: ∀p∈xs,cl p.1=true/\cl p.2=true) (k0:K0 (mdF xs)) (k1:K1 (mdF xs)):aDJ (MI11 xs) (NI11 xs) xs K0 K1:=by
 refine⟨(0,⟨#[]⟩,0),⟨zat _,Int.natCast_nonneg _,by show (0:Int)<=30;decide,rfl,rfl⟩,⟨⟨rfl,rfl,rfl,rfl,trivial⟩,trivial,trivial,trivial⟩, ?_⟩;intro x h;have hh:=h;obtain⟨lo,hi,h30,hc,hd⟩:=hh;refine ce (λJ=> ?_) λJ=> ?_
 ·have j0:x.1<(xs.length:Int)/\x.1<30:=by
   cases h1:decide (x.1<(xs.length:Int)) with
   |false=>rw[h1] at J;cases J
   |true=>rw[h1,zds] at J;exact⟨zdv h1,zdv J⟩
  obtain⟨a0,l0⟩:=j0;have hp:=hx _ (bw (d:=e2.d) (show x.1.toNat<xs.length by omega));have hp:cl (e2.nth xs x.1.toNat).1=true/\cl (e2.nth xs x.1.toNat).2=true:=hp;rw[za7];refine aY lo a0 (ac (by rw[hp.2];rfl) (aY lo a0 (ac (by rw[hp.1];rfl) ?_)));have hn:=gR (e2.nth xs x.1.toNat).2 (show (0:Int)<60 by decide);have ho:=gR (e2.nth xs x.1.toNat).1 (show (0:Int)<9 by decide);obtain⟨_,m2,m3,_⟩:=aFx (l:=xs.take x.1.toNat) (d:=0) ⟨by decide,by decide⟩;rw[<-hd] at m2 m3;have hX:mdX x.2.2 (e2.nth xs x.1.toNat)=ayD (co (e2.nth xs x.1.toNat).2 60) (ayC x.2.2 (co (e2.nth xs x.1.toNat).2 60) (co (e2.nth xs x.1.toNat).1 9)):=rfl;have hS:=λ{op:Int} {piece:zdH}=>aEB (op:=op) (piece:=piece) h a0 l0;rw[hX] at hS;generalize co (e2.nth xs x.1.toNat).2 60=n at*
  generalize co (e2.nth xs x.1.toNat).1 9=op at*
  obtain⟨k1,k2,_⟩:=aBe (n:=n) ⟨m2,m3⟩ ho;have i0:aBp x.2.2 n op=((op==8)||(decide (x.2.2<gi op.toNat)||(decide (x.2.2 - gi op.toNat+lj op.toNat>16)||((op==2)&&decide (x.2.2<=n.tmod 3))))):=by
   unfold aBp aDI ayO;cases op==8<;>cases decide (x.2.2<gi op.toNat)<;>cases decide (x.2.2 - gi op.toNat+lj op.toNat>16)<;>cases op==2<;>rfl
  have Y:ayC x.2.2 n op=bif aBp x.2.2 n op then(bif x.2.2==16 then 4 else 1) else op:=by rw[i0];rfl
  have i1:(decide (0<=op)&&decide (op<10))=true:=by rw[zdq ho.1,zdq (by omega)];rfl
  have i2:decide (op.toNat<10)=true:=zdq (by omega);obtain⟨t1,t0⟩:=azY (i:=op.toNat);obtain⟨p1,p0⟩:=azZ (i:=op.toNat) (by omega);have tm:=aDw hn.1;have g0: ∀o:Int,o=ayC x.2.2 n op->1<=o->aBo (MI11 xs) xs.length x o (n.tmod 3):=λo e h1=>by
   subst e;refine ac (by rw[zdq h1,zdq tm.1];rfl) (hS ⟨k1,k2⟩ (aFm _ _) ?_);rw[aAE _ _ k1,show (ayC x.2.2 n op==0)=false by rw[zdx];omega];rfl
  refine ac (Q5 λ_=>i1) (ac (Q5 λ_=>i2) (ac (Q5 λ_=>i1) (ac (Q5 λ_=>i2) (ac (Q5 λ_=>ej (by omega) (by omega)) (ac (Q5 λ_=>i1) (ac (Q5 λ_=>i2) (ac (Q5 λ_=>ej (by omega) (by omega)) (ce (λhB=> ?_) λhB=> ?_))))))))
  ·rw[hB,zds] at Y;refine ce (λN=>g0 4 (by rw[Y,N];rfl) (by decide)) λN=>g0 1 (by rw[Y,N];rfl) (by decide)
  ·rw[hB,zdr] at Y;refine ce (λh0=> ?_) λh0=>g0 op Y.symm ?_
   ·have H:op=0:=by simpa using h0
    have hv:=aAq ⟨n.toNat,by omega⟩;have en:((n.toNat:Nat):Int)=n:=zce hn.1;dsimp only at hv;rw[en] at hv;have t4:0<=n.tmod 4/\n.tmod 4<4:=by rw[Int.tmod_eq_emod_of_nonneg hn.1];omega
    refine ac (ej (by omega) (by omega)) (ac (ej (by omega) (by omega)) (ac ?_ (ac hv.1 (hS ⟨ho.1,by omega⟩ ?_ ?_))))
    ·rw[za2,V4,V4];omega
    ·rw[Y];exact aFm _ _
    ·rw[Y,aAE _ _ ho.1,h0];rfl
   ·have H:op≠0:=by simpa using h0
    omega
 ·have e0:xs.take x.1.toNat=xs.take 30:=by
   cases h1:decide (x.1<(xs.length:Int)) with
   |false=>
    have h1:=zdw h1;rw[zaI (by omega),zaI (by omega)]
   |true=>
    rw[h1,zds] at J;have J:=zdw J;rw[show x.1.toNat=30 by omega]
  rw[e0] at hc hd;refine ce (λh0=> ?_) λh0=> ?_
  ·have H:((mdL (xs.take 30) 0).2==0)=true:=by rw[<-hd];exact h0
   obtain⟨_,_,_,m4⟩:=aFx (l:=xs.take 30) (d:=0) ⟨by decide,by decide⟩;have hl:(xs.take 30).length<=30:=by rw[zaE];omega
   have zc:x.2.1.size<=390:=by rw[hc,<-bj,eI];omega
   have z1:(cu (1,0,noR)).size=2:=rfl;refine ac (zdq (by omega)) (aCN ?_ ?_ k0)
   ·rw[hc];unfold ws;rw[H];exact gT (by simp[eD,cu])
   ·unfold ut;rw[H];rfl
  ·have H:((mdL (xs.take 30) 0).2==0)=false:=by rw[<-hd];exact h0
   refine aCN ?_ ?_ k1
   ·rw[hc];unfold ws;rw[H];simp
   ·unfold ut;rw[H,hd];rfl
def az2 (c n:Int) (K:zdS):Prop:=ag (decide (c<0)) (ah (inR .i64 (c+1)) (ah (inR .i64 (-(c+1))) (ah (!decide (n=0)) (K (cI.enc ((-(c+1)).tmod n)))))) (ah (!decide (n=0)) (K (cI.enc (c.tmod n))))
theorem aBP (d:Ad3) (c n:Int) (K:zdS):my d [] [] (λ_ _=>none) 3 29 [cI.enc c,cI.enc n] K=az2 c n K:=by kernel_rfl
variable {K:zdS}
theorem az3 {c n:Int} (N:cl c=true) (Y:0<n) (H:K (cI.enc (co c n))):az2 c n K:=by
 obtain⟨h1,h2⟩:=V4.1 N;unfold co at H;unfold az2;have J:(!decide (n=0))=true:=by simp;omega
 refine ce (λh=> ?_) λh=> ?_
 ·rw[h,zds] at H;have h:=zdv h;exact Fy (by omega) (Fy (by omega) (ac J H))
 ·rw[h,zdr] at H;exact ac J H
variable {d:Ad3} {W:World}
theorem aCI (H:GlobP d W):CtrOK prog W 29 (k2 cI cI cI (λc n=>cl c&&decide (0<n)) co):=bC λc n h=>by
 rw[za2] at h;exact gn aDl (MPk.of MEk.nil) H (ann:=λ_ _=>none) (n:=3) de (cI.ids _) (by rw[aBP];exact az3 (K:=λr=>r=_) h.1 (zdv h.2) rfl)
theorem aId:GQk aIk:=(GQk.of aCA).cons (λd W H=>aIc H) call45
theorem aHH (H:GlobQ d W):CtrOK prog W 15 aE3:=dD λs h=>
 azJ aId ((MPk.of MEk.nil).cons aHR) H (ann:=aHp (QI4 s) (abI s nl11).length) (n:=12) m8 ((cP3 cS cI cI).ids _) (by
  rw[aH4]
  exact aHv (K:=λr=>r=_) (zdv h) rfl)
theorem aHI (d:Ad3) (c n:Int) (K:zdS):my d [] [] (λ_ _=>none) 3 13 [cI.enc c,cI.enc n] K=az2 c n K:=by kernel_rfl
theorem aHS (H:GlobP d W):CtrOK prog W 13 (k2 cI cI cI (λc n=>cl c&&decide (0<n)) co):=bC λc n h=>by
 rw[za2] at h;exact gn aDl (MPk.of MEk.nil) H (ann:=λ_ _=>none) (n:=3) de (cI.ids _) (by rw[aHI];exact az3 (K:=λr=>r=_) h.1 (zdv h.2) rfl)
theorem aIt (J: ∀(d:Ad3) (W:World),GlobQ d W->CtrOK prog W 7 (k0 cB true)):GQk gLt:=
 ((((((((((GQk.of aDU).cons (λd W H=>aDi H.1) call14).cons (λd W H=>aDb H.1) call12).cons (λd W H=>aDm H.1) call11).cons (λd W H=>aBJ H.1) call10).cons (λd W H=>aHS H.1) call13).cons (λd W H=>aCI H.1) call29).cons (λd W H=>aEl H.1) call32).cons (λd W H=>aEk H.1) call31).cons (λd W H=>aHH H) call15).cons (λd W H=>aCD H) call9
   |>.cons J call7
theorem aIu (d:Ad3) (I:MX11->Prop) (J:NX11->Prop) (P Q:Int->Prop) (H:zdH) (xs:List (Int×Int)) (at' b:Int) (K:zdS):aDp d gLt [] (aCE I J (aHx P Q)) 12 3 [cS.enc H, .slc (14+1) 0 xs.length,cI.enc at',cB8.enc b] [e2.old xs] K=
 aDJ I J xs (lt1 P Q H at' b (14+46) (14+64) K) (lt1 P Q H at' b (14+41) (14+59) K):=by kernel_rfl
variable {bad next:Prop}
theorem aIe {s:zdH} (k:next):td1 s bad next:=by
 have e:(bif !seq (eM s).1 (eM s).1 then true else(eM s).2 !=(eM s).2)=false:=by rw[ayr];simp
 unfold td1;rw[e];exact k
theorem aIf {t:zdH} (h:t.size<=100000) (k:next):td2 t bad next:=by
 have e:(bif (bif !seq (ic t).1 (ic t).1 then true else(ic t).2.1 !=(ic t).2.1) then true else(ic t).2.2 !=(ic t).2.2)=false:=by rw[ayr];simp
 refine ac (zdq h) (ac (zdq h) ?_);rw[e];exact k
def I4x (i:Int):Prop:=0<=i/\i<=4
theorem aHT (h:I4x i) (hi:i<4) (m: ∀i,M i i):aIj I4x M i:=by
 obtain⟨h0,h1⟩:=h;exact ac (ej (by omega) (by omega)) ⟨i+1,⟨by omega,by omega⟩,by omega,m _⟩
theorem aIg {K:Prop} (h:I4x i) (hi:i<4) (k:K):ix4 i K:=by
 obtain⟨h0,h1⟩:=h;exact ac (by rw[zdq h0,zdq hi];rfl) (ac (zdq (by omega)) k)
theorem aHo (s:zdH):(aA4 s 60).size<=60:=by
 obtain⟨_,_,h⟩:=aDk (s:=s) (n:=60) (by decide);unfold aA4;rw[ByteArray.size_extract];omega
theorem aHw {a b d:zdH} {B e:Nat} (J:a.size<=B) (N:b.size<=B) (Y:c.size<=B) (hd:d.size<=B):(F7 [a,b,c,d] e).size<=B:=azb λx H=>by
 simp only[zai,zbx,or_false] at H;rcases H with rfl|rfl|rfl|rfl
 ·exact J
 ·exact N
 ·exact Y
 ·exact hd
variable {raw:zdH} {at' b:Int}
theorem aIh {text:zdH} {q:Nat} (N:text.size<=10000) (H:cl at'=true) (k:K (cB.enc true)):lt2 I4x raw at' b q K text:=by
 have Y:=aAG text at' b;have zr:=aHo raw;have hp:=gR at' (n:=(text.size:Int)+1) (by omega);have ze:(text.extract 0 (co at' ((text.size:Int)+1)).toNat).size<=text.size:=by rw[ByteArray.size_extract];omega
 refine ac (by rw[H,zdq (by omega)];rfl) (ac (ej (by omega) (by omega)) (ac (by rw[H,zdq (by omega)];rfl) (ac (by rw[zdq hp.1,zdq (by omega)];rfl) ⟨0,⟨by decide,by decide⟩,⟨⟨rfl,rfl,rfl,rfl,trivial⟩,trivial,trivial,trivial⟩,λj J=>ce (λh=> ?_) λ_=>k⟩)));have h:=zdv h;exact aIg J h (aIf (aHw (by omega) (by omega) (by omega) (by omega)) (aHT J h λi=>⟨⟨rfl,rfl,rfl,rfl,trivial⟩,trivial,trivial,trivial⟩))
theorem aHJ {q1 q2:Nat} (H:cl at'=true) (k:K (cB.enc true)):lt1 I3 I4x raw at' b q1 q2 K (mdF xs):=by
 have z:=aAI xs;have N:=aAF (s:=mdF xs);refine ac (by rw[H,zdq (by omega)];rfl) ⟨0,⟨by decide,by decide⟩,⟨⟨rfl,rfl,rfl,rfl,rfl,rfl,rfl,rfl,trivial⟩,trivial,trivial,trivial⟩,λj J=>ce (λh=> ?_) λ_=>aIh (by omega) H k⟩;have h:=zdv h;exact aCK J h (aIe (aBq J h λi=>⟨⟨rfl,rfl,rfl,rfl,rfl,rfl,rfl,rfl,trivial⟩,trivial,trivial,trivial⟩))
theorem aHK (J: ∀p∈xs,cl p.1=true/\cl p.2=true) (H:cl at'=true) (k:K (cB.enc true)):aDp d gLt [] (aCE (MI11 xs) (NI11 xs) (aHx I3 I4x)) 12 3 [cS.enc raw, .slc (14+1) 0 xs.length,cI.enc at',cB8.enc b] [e2.old xs] K:=by
 rw[aIu];exact T7 J (aHJ H k) (aHJ H k)
def uKn:Nat->Prop->Prop
 |0,K=>K
 |n+1,K=>U11 (uKn n K)
theorem aFu: ∀{n:Nat} {K:Prop},K->uKn n K
 |0,_,h=>h
 |_+1,_,h=>λ_ _=>aFu h
def aFK:List (FuncId×Ctr):=(17,aEV)::(12,aDa)::(14,aE3)::(60,k2 cI cI cRE (λa b=>cl a&&cl b) rMk)::(43,k1 cIn cS uo coV)::(26,k1 cI cU cl BL)::gLn
def sv0:SV:= .val (.string ⟨#[48]⟩)
def sv1:SV:= .val (.string ⟨#[49]⟩)
def aGC:SV:= .val (.string ⟨#[49,48]⟩)
def aF4 (j:Nat):SV:= .agg [aGC,sv1, .slc j 0 1,sv0,sv1]
def aFL:Blk:={n:=1,sz:=3,get:=λ_=> [.val (.int .i64 1),sv1,sv1],kd:= .old}
def aGi:SV->Bool
 | .val (.string a)=>seq a ⟨#[49,48]⟩
 |_=>false
def aFN:SV->Bool
 | .val (.string a)=>seq a ⟨#[49]⟩
 |_=>false
def aFR:SV->Bool
 | .val (.string a)=>seq a ⟨#[48]⟩
 |_=>false
def aGj (j:Nat):List SV->Bool
 | [.agg [a,b, .slc i 0 1,c,e], .agg [H,J, .slc i' 0 1,N,Y]]=>Nat.beq i j&&(Nat.beq i' j&&(aGi a&&(aFN b&&(aFR c&&(aFN e&&(aGi H&&(aFN J&&(aFR N&&aFN Y))))))))
 |_=>false
def aF9:SV:= .agg [sv0,sv1, .val (.slice none 0 0),sv0,sv1]
def aFS:SV:= .tup [aF9, .val (.int .i64 0)]
def aGD:MCtr:=λbl nx args=>match args with
 | [.agg [_,_, .slc j _ _,_,_],_]=>aiq [j] [aFL] (aGj j) (λ_=>(aFS, [], [])) bl nx args
 |_=>none
theorem aGE (d:Ad3) (Q:zdS):ayw d aFK (azT d) (λ_ _=>none) 12 96 [aF4 0,aF4 0] [aFL] (Go.Sy.okK λr _ _ _=>Q r)=uKn 12 (Q aFS):=by kernel_rfl
def aF0:zdW:=aES 61 (aES 151 λ_ _=>none)
def r31:RS:=(⟨#[51]⟩,⟨#[49]⟩)
def r41:RS:=(⟨#[52]⟩,⟨#[49]⟩)
def r01:RS:=(⟨#[48]⟩,⟨#[49]⟩)
def aFO:zdH:=⟨#[1,0,1,1,7,6,9]⟩
def exR:SV:= .tup [.agg [.val (.string ⟨#[51]⟩), .val (.string ⟨#[52]⟩)], .val (.int .i64 0)]
def exB:SV:= .tup [.agg [.val (.string ⟨#[]⟩), .val (.string ⟨#[]⟩)], .val (.int .i64 110)]
theorem aGF (d:Ad3) (Q:zdS):ayw d aFK (azT d) aF0 12 18 [.val (.string ⟨#[1,0,1,1,7,6,9]⟩), .slc 0 0 2] [eR.old [r31,r41]] (Go.Sy.okK λr _ _ _=>Q r)=uKn 22 (Q exR):=by kernel_rfl
theorem aGG (d:Ad3) (Q:zdS):ayw d aFK (azT d) aF0 12 18 [.val (.string ⟨#[1,0,1,1,7,6,9]⟩), .slc 0 0 2] [eR.old [r31,r01]] (Go.Sy.okK λr _ _ _=>Q r)=uKn 16 (azn d (Q exB)):=by kernel_rfl
def aGy:zdW:=aES 92 (aES 183 λ_ _=>none)
def aGO (d:Ad3):zdX:=(96,aGD)::azT d
def aGa (j:Nat):Blk:={n:=1,sz:=5,get:=λ_=> [aGC,sv1, .slc j 0 1,sv0,sv1],kd:= .old}
theorem aGP (d:Ad3) (Q:zdS):ayw d aFK (aGO d) aGy 12 25 [.val (.string ⟨#[1,0,2,0,5,9]⟩), .slc 0 0 1, .val (.int .i64 3)] [aGa 1,aFL] (Go.Sy.okK λr _ _ _=>Q r)=uKn 13 (ah (aeT (λ_=>some aFL) [1] [aFL]) (U11 (uKn 4 (Q aFS)))):=by kernel_rfl
def ndI:Nd:={op:=2,v:=aFn,u:=noU,n:=0,l:=0,r:=0}
theorem aFT:GPk aFK:=
 (((((aBh.cons (λd W H=>(BN.all W H.1.1 (26,k1 cI cU cl BL) (by simp[xK])).1) call26).cons (λd W H=>aD8 H) call43).cons (λd W H=>PR H.1.1) call60).cons (λd W H=>aDi H) call14).cons (λd W H=>aDb H) call12).cons (λd W H=>aC9 H) call17
variable {Cs:zdV}
theorem aFJ {g:List (FuncId×Ctr)} {gm:zdX} {ann:zdW} {n:Nat} {f:FuncId} {args:zdK} {r:SV} {src:zdI} (N:r.ids= []) (J: ∀C∈Cs,cN C.kd=false) (H:src.length=Cs.length)
 (h:ayw d g gm ann n f args Cs (Go.Sy.okK λs _ _ _=>s=r)) (b:Bool) (nx:Nat):ayw d g gm ann n f args Cs (KB (rcL b (r, [], [])) (src.map some) Cs nx):=
 kbP (C:=rcL b (r, [], [])) () trivial rfl N rfl rfl rfl J (by rw[zaB];exact H) h
variable {s:SV}
theorem aF1 (h:aGi s=true):s=aGC:=by
 unfold aGi at h;split at h
 ·rw[We.1 h];rfl
 ·cases h
theorem aFA (h:aFN s=true):s=sv1:=by
 unfold aFN at h;split at h
 ·rw[We.1 h];rfl
 ·cases h
theorem aFP (h:aFR s=true):s=sv0:=by
 unfold aFR at h;split at h
 ·rw[We.1 h];rfl
 ·cases h
variable {j:Nat} {l:zdK}
theorem aGk (H:aGj j l=true):SV.rns (ab2 [j]) [aF4 0,aF4 0]=some l:=by
 unfold aGj at H;split at H
 ·simp only[za2] at H;obtain⟨h1,h2,h3,h4,h5,h6,h7,h8,h9,J⟩:=H;rw[zab h1,zab h2,aF1 h3,aFA h4,aFP h5,aFA h6,aF1 h7,aFA h8,aFP h9,aFA J];rfl
 ·cases H
theorem aFV {B:Blk} (h:B.kd= .old): ∀C∈ [B],C.kd= .old:=λC H=>by rw[zaj.1 H];exact h
theorem aGQ {A B:Blk} (k:A.kd= .old) (h:B.kd= .old): ∀C∈ [A,B],C.kd= .old:=λC H=>by
 rcases zai.1 H with rfl|H
 ·exact k
 ·exact aFV h C H
theorem aGl (h: ∀C∈Cs,C.kd= .old): ∀C∈Cs,cN C.kd=false:=λC H=>by rw[h C H];rfl
theorem aGm (h: ∀C∈Cs,C.kd= .old) (l:zdU):Far l Cs:= .inl λC H=>by rw[h C H];rfl
variable {B:Base}
theorem aGn (j:Nat) (hB:GlobPB d B):VU prog B 96 (aiq [j] [aFL] (aGj j) λ_=>(aFS, [], [])):=
 aEZ (d:=d) (args0:= [aF4 0,aF4 0]) (ann:=λ_ _=>none) (n:=12) aFT KE (λl H=>aGk H) (by simp) (aGm (aFV rfl) _) (λb m=>aFJ (by simp[aFS,aF9,sv0,sv1,SV.ids,SV.idss]) (aGl (aFV rfl)) rfl (by rw[aGE];exact aFu rfl) b m) hB
theorem aGo (B:Base) (hB:GlobPB d B):VU prog B 96 aGD:=by
 intro bl β wd nx args C J N Y a4 H hp;unfold aGD at H;split at H
 ·exact aGn _ hB bl β wd nx _ C J N Y a4 H hp
 ·cases H
def aF5 (j:Nat):List SV->Bool
 | [.val (.string q), .slc i 0 2]=>seq q aFO&&Nat.beq i j
 |_=>false
theorem aF2 (H:aF5 j l=true):SV.rns (ab2 [j]) [.val (.string aFO), .slc 0 0 2]=some l:=by
 unfold aF5 at H;split at H
 ·simp only[za2] at H;rw[We.1 H.1,zab H.2];rfl
 ·cases H
def kEx:MCtr:=λbl nx args=>match args with
 | [.val (.string _), .slc j _ _]=>(match bl j with
   |some C=>(match C.get 1 with
    | [.val (.string a),_]=>bif seq a ⟨#[48]⟩ then aiq [j] [eR.old [r31,r01]] (aF5 j) (λ_=>(exB, [], [])) bl nx args else aiq [j] [eR.old [r31,r41]] (aF5 j) (λ_=>(exR, [], [])) bl nx args
    |_=>none)
   |none=>none)
 |_=>none
theorem aGp (j:Nat) (hB:GlobPB d B):VU prog B 18 (aiq [j] [eR.old [r31,r41]] (aF5 j) λ_=>(exR, [], [])):=
 aEZ (d:=d) (args0:= [.val (.string aFO), .slc 0 0 2]) (ann:=aF0) (n:=12) aFT KE (λl H=>aF2 H) (by simp) (aGm (aFV rfl) _) (λb m=>aFJ (by simp[exR,SV.ids,SV.idss]) (aGl (aFV rfl)) rfl (by unfold aFO;rw[aGF];exact aFu rfl) b m) hB
theorem aGq (j:Nat) (hB:GlobPB d B):VU prog B 18 (aiq [j] [eR.old [r31,r01]] (aF5 j) λ_=>(exB, [], [])):=
 aEZ (d:=d) (args0:= [.val (.string aFO), .slc 0 0 2]) (ann:=aF0) (n:=12) aFT KE (λl H=>aF2 H) (by simp) (aGm (aFV rfl) _) (λb m=>aFJ (by simp[exB,SV.ids,SV.idss]) (aGl (aFV rfl)) rfl (by unfold aFO;rw[aGG];exact aFu (ac (by simp) rfl)) b m) hB
theorem aGH (B:Base) (hB:GlobPB d B):VU prog B 18 kEx:=by
 intro bl β wd nx args C J N Y a4 H hp;unfold kEx at H;split at H
 ·split at H
  ·split at H
   ·rename_i j _ _ _ D _ a _ _;cases hs:seq a ⟨#[48]⟩ with
    |true=>rw[hs,zds] at H;exact aGq _ hB bl β wd nx _ C J N Y a4 H hp
    |false=>rw[hs,zdr] at H;exact aGp _ hB bl β wd nx _ C J N Y a4 H hp
   ·cases H
  ·cases H
 ·cases H
def aF3:zdH:=⟨#[1,0,2,0,5,9]⟩
def aGr (i:Nat):List SV->Bool
 | [.val (.string q), .slc k 0 1, .val (.int .i64 n)]=>seq q aF3&&(Nat.beq k i&&(n==3))
 |_=>false
theorem aGs {i:Nat} (H:aGr i l=true):SV.rns (ab2 [i,j]) [.val (.string aF3), .slc 0 0 1, .val (.int .i64 3)]=some l:=by
 unfold aGr at H;split at H
 ·simp only[za2] at H;rw[We.1 H.1,zab H.2.1,eq_of_beq H.2.2];rfl
 ·cases H
def kRn:MCtr:=λbl nx args=>match args with
 | [.val (.string _), .slc i _ _, .val (.int .i64 _)]=>(match bl i with
   |some C=>(match C.get 0 with
    | [_,_, .slc j _ _,_,_]=>bif Nat.beq i j then none else aiq [i,j] [aGa 1,aFL] (aGr i) (λ_=>(aFS, [], [])) bl nx args
    |_=>none)
   |none=>none)
 |_=>none
theorem aGI {i:Nat} (H:i≠j) (hB:GlobPB d B):VU prog B 25 (aiq [i,j] [aGa 1,aFL] (aGr i) λ_=>(aFS, [], [])):=
 aEZ (d:=d) (args0:= [.val (.string aF3), .slc 0 0 1, .val (.int .i64 3)]) (ann:=aGy) (n:=12) aFT (KE.cons aGo) (λl J=>aGs J) (aEc H) (aGm (aGQ rfl rfl) _) (λb m=>aFJ (by simp[aFS,aF9,sv0,sv1,SV.ids,SV.idss]) (aGl (aGQ rfl rfl)) rfl (by
  have e:=aGP d (λs=>s=aFS);unfold aGO at e;unfold aF3;rw[e];refine aFu (ac ?_ λ_ _=>aFu rfl);unfold aeT;rw[za2,ac5,ac5]
  exact⟨rfl,rfl⟩) b m) hB
theorem aGJ (B:Base) (hB:GlobPB d B):VU prog B 25 kRn:=by
 intro bl β wd nx args C N Y a3 a4 H hp;unfold kRn at H;split at H
 ·split at H
  ·split at H
   ·rename_i i _ _ _ _ _ D _ _ _ j _ _ _ _ _;cases J:Nat.beq i j with
    |true=>rw[J] at H;cases H
    |false=>
     rw[J,zdr] at H;exact aGI (λe=>by rw[e] at J;simp at J) hB bl β wd nx _ C N Y a3 a4 H hp
   ·cases H
  ·cases H
 ·cases H
def aGK (d:Ad3):zdX:=(18,kEx)::(25,kRn)::(75,pN)::azT d
theorem aGt:MPk d (aGK d):=((KE.cons λB hB=>lZ B hB.gE.gU).cons aGJ).cons aGH
def sa1 (K:Prop):Prop:=ah (aeT (λ_=>some (eR.old [r31,r41])) [0] [eR.old [r31,r41]]) (U11 K)
def sa2 (K:Prop):Prop:=ah (aeT (λ_=>some (eR.old [r31,r01])) [0] [eR.old [r31,r01]]) (U11 K)
def sa3 (i j:Nat) (K:Prop):Prop:=ah (aeT (λk=>bif Nat.beq k i then some (aGa j) else some aFL) [i,j] [aGa 1,aFL]) (U11 K)
def aGR:zdN:=je (ci (BL 0)) 20
def aGS:zdN:=je (svN ndI) 26
def aGb:Bool:=(Nat.ble 1 1&&Nat.beq 20 20&&true)&&(Nat.ble 1 1&&Nat.beq 26 26&&true)&&bW 1&&bW 1&&eU.good szB 1 aGR&&eN.good szN 1 aGS&&szB (BL 0)
theorem aF6 (d:Ad3) (Q:zdS):my d aFK (aGK d) (λ_ _=>none) 12 7 [] Q=
 sa1 (sa2 (sa3 114 100 (ah aGb (U11 (uKn 3 (uKn 2 (azn d (Q (cB.enc true))))))))):=by kernel_rfl
end Go.Proofs.YtdjfpjmijhjmpaaGreatDoor
namespace Go.Proofs.YtdjfpjmijhjmpaaGreatDoor
open Go.Proofs.Tryz
open Go.ChangeShapes Go.WideShapes Go.ChangeAt Go.RowKit Yk
theorem oQ {H:Type} {enc:TypeId×Value->H} {a:Assume} {C:Checked} {os:Os} {f:FuncId} {fn:Func} {s:ChangeSpec} {conds:List PathCond} {apart fresh handsOn again:Bool} {X:World->Array Value->Prop}
 (hX: ∀(w w':World) (args:Array Value),w.heap=w'.heap->X w args->X w' args)
 (own:ownKnob C.prog.godebug=none) (started:os.Started) (noInit:C.prog.inits.idxOf? f=none) (e0:C.prog.funcs[f]? =some fn)
 (witness: ∃(w:World) (tape:Tape) (i:Input),w.os=os/\(w.forCall tape i).Shaped C.prog/\i.vars= []/\Input.okWide C.prog (w.forCall tape i) .any w.heap.size f i/\
   ((s.pre enc C.prog fn conds apart (w.forCall tape i).memory i.args/\X (w.forCall tape i).memory i.args)/\sizedMet enc C.prog fn (OpenSpec.ofChange s) apart (w.forCall tape i).memory i.args)/\a.holds C.prog (lone (Frame.enter C.prog f i.args .normal) [] (w.forCall tape i)))
 (contract: ∀(W:World) (base:Nat) (args:Array Value) (ds gs:List (DataW H)) (before:List MemPlace),
   (∀(j:Nat) t v,fn.params[j]? =some t->args[j]? =some v->Value.okWide C.prog W .any base t v)->
   DataW.Whole enc C.prog fn.params.toList s.vars apart W args.toList ds gs before->
   X W args->W.ShapedOpen C.prog->
   Calls C.prog f args W λe W'=> ∃v,e= .returned v/\s.post enc C.prog fn apart fresh handsOn again W args v W'):
 ReturnsInHanded a C os f .any (λw args=>(s.pre enc C.prog fn conds apart w args/\X w args)/\sizedMet enc C.prog fn (OpenSpec.ofChange s) apart w args) (s.post enc C.prog fn apart fresh handsOn again):=by
 refine returnsInHanded_of_calls own started noInit witness ?_;intro w tape i _ i0 _ g0 N hholds;obtain⟨_,_,_,a0,J,_,_,_,_,Y⟩:=g0;have e:a0=fn:=zbk (J.symm.trans e0);subst e;obtain⟨⟨⟨ds,gs,before,hw,hc⟩,hx⟩,hz⟩:=N;have j0:=DataW.Whole.of_heap (w':=w.forCall tape i) (by rfl) hw;refine(contract (w.forCall tape i) w.heap.size i.args ds gs before Y j0 (hX _ _ _ (by rfl) hx) i0).mono λe W' ⟨v,he,hp⟩=> ?_;subst he;exact ChangeSpec.post_blind hp
theorem own:ownKnob prog.godebug=none:=by kernel_rfl
def oR:List (String×DataW Unit):=Rows.planTextMatchesReferenceRow.laid
variable {W:World}
theorem MM (h:W.ShapedOpen prog): ∃m,W.cell? ⟨6,0,none⟩=some (.int .i64 m):=
 cell_of_shapedOpen_int (t:=3) (zero:= #[.int .i64 0]) h (zdv (by kernel_rfl)) (by kernel_rfl) (by kernel_rfl) (by kernel_rfl) (by kernel_rfl) underlying3
theorem MN:(Rows.laid_internal_strconv_uint64pow10:DataW Unit)=Lib.tabData .u64 Lib.pow10Tab:=by kernel_rfl
theorem No:prog.globalNamed "strconv.ErrRange" =some 10:=by kernel_rfl
theorem Np:prog.globalNamed "strconv.ErrSyntax" =some 9:=by kernel_rfl
theorem QB: "*" ++ "errors.errorString" = "*errors.errorString" :=by decide
theorem JV (u:TypeId) (h:prog.typeName? 3 u=some "*errors.errorString"):u=402:=
 typeName_ptr_named (nm:= "errors.errorString") (by rw[QB];kernel_rfl) (by kernel_rfl) (by decide) u (by rw[QB];exact h)
theorem aGc (h:W.ShapedOpen prog) {r r':List (String×DataW Unit)} (J:laidMet prog (("internal/strconv.uint64pow10",Rows.laid_internal_strconv_uint64pow10)::r) W) (H:laidMet prog (("strconv.ErrRange",Rows.laid_strconv_ErrRange)::("strconv.ErrSyntax",Rows.laid_strconv_ErrSyntax)::r') W):GlobU W:=by
 have ht:Lib.TabIs prog W "internal/strconv.uint64pow10" .u64 Lib.pow10Tab:=
  Lib.tabIs_of_head NL (by kernel_rfl) underlying398 underlying348 (by kernel_rfl) (by kernel_rfl) (MN▸J)
 obtain⟨a0,s0,N,_,_,_⟩:=laid_sentinel (g:=10) (ti:=128) (tp:=402) (te:=404) (ts:=9) H No (by kernel_rfl) underlying128 JV underlying402 underlying404 rfl rfl underlying9 (by kernel_rfl) (by kernel_rfl);obtain⟨a1,s1,Y,_,_,_⟩:=laid_sentinel (g:=9) (ti:=128) (tp:=402) (te:=404) (ts:=9) (laidMet.tail H) Np (by kernel_rfl) underlying128 JV underlying402 underlying404 rfl rfl underlying9 (by kernel_rfl) (by kernel_rfl);have c0:=World.var?_cell No N 0;have c1:=World.var?_cell Np Y 0;exact⟨⟨MM h,ht,World.block_lt_of_cell? W _ (ht.cell NL 0 (by decide))⟩,⟨_,by simpa using c1, .inr ⟨_,_,rfl⟩⟩,⟨_,by simpa using c0, .inr ⟨_,_,rfl⟩⟩⟩
end Go.Proofs.YtdjfpjmijhjmpaaGreatDoor
