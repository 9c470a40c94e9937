import Derived.Test.YtfokhpciehfdnaaGreatDoorZe
import Derived.Recover
import Derived.Tactics
import Derived.Tactics2
import Derived.Laws.Pointers
import Derived.LaidEql
import Derived.Stop.Asserts
import Derived.RowKitTokens
set_option linter.unusedVariables false
set_option linter.unusedSimpArgs false
set_option maxHeartbeats 2000000
set_option maxRecDepth 100000
noncomputable section
namespace Go.Proofs.YtfokhpciehfdnaaGreatDoor
open Go.Proofs.Tryz
open Go Go.RowKit Go.Sy Yk
def fL (inp us:ze0) (x:Nd):Un×Int:=
 bif x.op==1 then(bif rV x.v&&VK x.u then(x.u,0) else(noU,90)) else
 bif x.op==2 then(bif decide (0<=x.n)&&decide (x.n<(inp.length:Int)) then(mb noU inp x.n.toNat,0) else(noU,90)) else
 bif x.op==3 then iS (mb noU us x.l.toNat) (mb noU us x.r.toNat) else
 bif x.op==4 then fw (mb noU us x.l.toNat) (mb noU us x.r.toNat) else
 bif x.op==5 then mi (mb noU us x.l.toNat) (mb noU us x.r.toNat) else
 bif x.op==6 then fd (mb noU us x.l.toNat) (mb noU us x.r.toNat) else
 bif x.op==7 then(bif x.n==0||decide (x.n< -4)||decide (x.n>4) then(noU,90) else jm (mb noU us x.l.toNat) (x.n,1)) else
 bif x.op==8 then jm (mb noU us x.l.toNat) (1,2) else(noU,90)
def earF (n:Nat) (i:Int):Bool:=decide (0<=i)&&decide (i<(n:Int))
def VT (n:Nat) (x:Nd):Bool:=
 bif x.op==1 then eqN ⟨0,VI,noU,x.n,x.l,x.r⟩ noN else
 bif x.op==2 then eqN ⟨0,x.v,x.u,0,x.l,x.r⟩ noN else
 bif decide (3<=x.op)&&decide (x.op<=6) then eqN ⟨0,x.v,x.u,x.n,0,0⟩ noN&&earF n x.l&&earF n x.r else
 bif x.op==7 then eqN ⟨0,x.v,x.u,0,0,x.r⟩ noN&&earF n x.l else
 bif x.op==8 then eqN ⟨0,x.v,x.u,x.n,0,x.r⟩ noN&&earF n x.l else false
def mn (inp us:ze0) (x:Nd):Option Un:=bif VT us.length x&&(fL inp us x).2==0 then some (fL inp us x).1 else none
def iB (inp:ze0):List Nd->List Un->List Un×Bool
 | [],us=>(us,true)
 |x::r,us=>match mn inp us x with
  |some u=>iB inp r (us++ [u])
  |none=>(us,false)
def ly (us:ze0):Un:=mb noU us (us.length - 1)
def oB (p:Pr):Bool:=decide (1<=p.id)&&decide (p.id<=1000000)&&decide (p.inp.length<=6)&&p.inp.all VK&&decide (1<=p.nod.length)&&decide (p.nod.length<=40)
def VJ (p:Pr):List Un×Int×Int:=bif oB p then(match iB p.inp p.nod [] with
 |(us,true)=>bif eqU (ly us) p.out then(us,0,0) else([],p.nod.length,90)
 |(us,false)=>([],us.length,90)) else([], -1,90)
def VM (p:Pr):Bool:=(VJ p).2.2==0
def aci (p:Pr):Bool:=p.inp.all szB&&p.nod.all szN&&szB p.out
theorem int_eq {a b:Int}:(a==b)=true↔a=b:=zdz
variable {n:Nat} {i:Int}
theorem V6:pK n i=true↔0<=i/\(i<n\/(n=0/\i=0)):=by
 unfold pK;by_cases h:i≥0
 ·rw[zdq h,zds,zdu];split<;>omega
 ·rw[zdt h,zdr];simp;omega
theorem V2:earF n i=true↔0<=i/\i<n:=by simp[earF]
variable {x:Nd}
theorem fM (h:eqN x noN=true):x.n=0/\x.l=0/\x.r=0:=by
 simp only[eqN,za2,zdz] at h;exact⟨h.2.2.2.1,h.2.2.2.2.1,h.2.2.2.2.2.1⟩
variable {K:Prop}
theorem fV (h:n<=1000000) (k:K):tO n K:=ac (by
 rw[zdq (zbS),zdq (show 0+1<=1 by omega),zdq (za0 n),zdq (show (n+1)*192<=140737488355328 by omega)];rfl) k
theorem aY (h0:0<=i) (h1:i<n) (k:K):eO n i K:=ac (by
 rw[zdq h0,zdq h1,zdq (show 0+i.toNat<n by omega)];rfl) (ac (zdq (by omega)) k)
variable {bad:Prop}
theorem oC {needs:Bool} {rest:Nd} (hb:(eqN rest noN=true/\pK n x.l=true/\pK n x.r=true/\(needs=true->0<n))->K) (hn: ¬(eqN rest noN=true/\pK n x.l=true/\pK n x.r=true/\(needs=true->0<n))->bad):tN n needs rest x bad K:=by
 unfold tN;refine ah (λh1=>ah (λh2=>ah (λh3=> ?_) (λh3=> ?_)) (λh2=> ?_)) (λh1=> ?_)
 ·refine hn λ⟨_,_,a3,a4⟩=> ?_;rw[a3] at h3;cases needs with
  |false=>simp at h3
  |true=>have:=a4 rfl;simp at h3;omega
 ·refine hb ⟨h1,h2, ?_,λhne=> ?_⟩
  ·cases h4:pK n x.r with
   |true=>rfl
   |false=>rw[h4] at h3;simp at h3
  ·subst hne;cases h4:pK n x.r with
   |true=>rw[h4] at h3;simp at h3;omega
   |false=>rw[h4] at h3;simp at h3
 ·exact hn λ⟨_,a2,_⟩=>by rw[a2] at h2;cases h2
 ·exact hn λ⟨a1,_⟩=>by rw[a1] at h1;cases h1
theorem eH {l:ze0} (h: ∀u∈l,szB u=true) (e:Nat):aH (mb noU l e)=true:=by
 by_cases he:e<l.length
 ·exact h _ (gF he)
 ·have: ∀(l:ze0) (e:Nat),l.length<=e->mb noU l e=noU:=by
   intro l
   induction l with
   |nil=>intro e _;rfl
   |cons x r ih=>intro e he;cases e with
    |zero=>simp at he
    |succ e=>exact ih e (by simpa using he)
  rw[this l e (by omega)];decide
variable {α:Type}
theorem atR {d:α} {l:List α} (h0:0<=i) (h:i<l.length):l.drop i.toNat=mb d l i.toNat::l.drop (i+1).toNat:=by
 rw[show (i+1).toNat=i.toNat+1 by omega,zaH (show i.toNat<l.length by omega),bR (zaa _)]
theorem atS {p:α->Bool} {l:List α} {v:α} (h: ∀x∈l,p x=true) (hv:p v=true): ∀x∈l++ [v],p x=true:=λx hx=>(za8.1 hx).elim (h x) λe=>by rw[zaj.1 e];exact hv
theorem aS {α:Type} {d:α}: ∀{l:List α} {u:α} {e:Nat},mb d (l++ [u]) e=if e=l.length then u else mb d l e
 | [],u,e=>by cases e<;>simp[mb]
 |x::r,u,e=>by
  cases e with
  |zero=>simp[mb]
  |succ e=>
   have:=aS (d:=d) (l:=r) (u:=u) (e:=e);simp only[zaO,mb,za4];rw[this];split<;>split<;>first|rfl|omega
variable {m q ni nn:Nat} {us:ze0} {u:Un}
theorem CQ {c:Nat} {p:Int} :P4 m c q ni nn p (us.length+1) (ald (eU.get us) (λe=>((ci u).drop (e*20)).take 20) us.length 0) (p,us++ [u]):=by
 have hl:(us++ [u]).length=us.length+1:=by simp
 refine⟨⟨rfl,rfl,rfl,rfl,rfl,trivial⟩,trivial,⟨by rw[hl],trivial⟩, ?_,trivial⟩;refine ac (by rw[zdq (by rw[hl];exact za0 _)];rfl) λe he=> ?_;rw[hl] at he;unfold ald El.get El.nth;rw[aB];show _=ci (mb noU (us++ [u]) e);rw[aS];by_cases h:e<us.length
 ·rw[zdq h,zds,if_neg (by omega)];rfl
 ·obtain rfl:e=us.length:=by omega
  rw[zdt h,zdr,if_pos rfl,zaJ];rfl
def chkI (inp:ze0) (nod:ze1) (z:CX):Prop:=0<=z.1/\z.1<=nod.length/\z.2.length=z.1.toNat/\(∀u∈z.2,szB u=true)/\iB inp nod []=iB inp (nod.drop z.1.toNat) z.2
theorem XO:szB noU=true:=by decide
variable {N:Int} {inp:ze0}
theorem LK {I:CX->Prop} (hx:szN x=true) (hi: ∀u∈inp,szB u=true) (hu: ∀u∈us,szB u=true) (hl:us.length<=1000000)
 (hn:mn inp us x=none->bad) (hs: ∀u q,mn inp us x=some u->LJ I N q inp.length nn i us u):OA I N inp nn i us x bad:=by
 unfold szN at hx;rw[za2] at hx;have T: ∀{f:Bool} {r:Un×Int},VT us.length x=f->fL inp us x=r->mn inp us x=bif f&&r.2==0 then some r.1 else none:=λ{f r} h1 h2=>by unfold mn;rw[h1,h2]
 have U: ∀{r:Un×Int} {q:Nat},VT us.length x=true->fL inp us x=r->zj I N q inp.length nn i us r bad:=λ{r q} h1 h2=>by
  have:=T h1 h2;refine fV hl (ah (λh=>hn ?_) (λh=>hs _ _ ?_))
  ·rw[this];cases hr:r.2==0<;>rw[hr] at h<;>first|rfl|cases h
  ·rw[this];cases hr:r.2==0<;>rw[hr] at h<;>first|rfl|cases h
 have W: ∀{K:Un->Un->Prop},pK us.length x.l=true->pK us.length x.r=true->0<us.length->K (mb noU us x.l.toNat) (mb noU us x.r.toNat)->pL us x K:=λ{K} h1 h2 h3 k=>by
  have a:=V6.1 h1;have b:=V6.1 h2;unfold pL;rw[za7,za7];exact aY a.1 (by omega) (aY b.1 (by omega) (ac (by rw[eH hu,eH hu];rfl) k))
 have E2:0<us.length-> ∀j:Int,(pK us.length j=earF us.length j):=λh j=>by
  rw[zax,V6,V2];omega
 have pair: ∀(f:Un->Un->Un×Int),x.op≠1->x.op≠2->(3<=x.op/\x.op<=6)->fL inp us x=f (mb noU us x.l.toNat) (mb noU us x.r.toNat)->tN us.length true ⟨0,x.v,x.u,x.n,0,0⟩ x bad (pL us x λa b=>zj I N 249 inp.length nn i us (f a b) bad):=by
  intro f n1 n2 n3 hf;have hform:VT us.length x=(eqN ⟨0,x.v,x.u,x.n,0,0⟩ noN&&earF us.length x.l&&earF us.length x.r):=by
   unfold VT;rw[show (x.op==1)=false from zdx n1,show (x.op==2)=false from zdx n2,zdq n3.1,zdq n3.2];rfl
  refine oC (λ⟨a1,a2,a3,a4⟩=> ?_) (λh=>hn ?_)
  ·have h0:=a4 rfl;refine W a2 a3 h0 (U ?_ hf);rw[hform,a1,<-E2 h0,<-E2 h0,a2,a3];rfl
  ·unfold mn;cases hff:VT us.length x with
   |false=>rfl
   |true=>
    exfalso;rw[hform] at hff;simp only[za2] at hff;have hp:0<us.length:=by have:=V2.1 hff.1.2;omega
    exact h ⟨hff.1.1,by rw[E2 hp];exact hff.1.2,by rw[E2 hp];exact hff.2,λ_=>hp⟩
 unfold OA;refine ah (λo1=> ?_) (λo1=>ah (λo2=> ?_) (λo2=>ah (λo3=> ?_) (λo3=>ah (λo4=> ?_) (λo4=>ah (λo5=> ?_) (λo5=>ah (λo6=> ?_) (λo6=>ah (λo7=> ?_) (λo7=>ah (λo8=> ?_) (λo8=> ?_))))))))
 ·
  have hform:VT us.length x=eqN ⟨0,VI,noU,x.n,x.l,x.r⟩ noN:=by unfold VT;rw[o1];rfl
  have huni:fL inp us x=bif rV x.v&&VK x.u then(x.u,0) else(noU,90):=by unfold fL;rw[o1];rfl
  refine oC (λ⟨a1,a2,a3,a4⟩=> ?_) (λh=>hn ?_)
  ·have t:=T hform huni;rw[a1] at t;refine ac hx.1 (ac (by rw[show aH x.u=true from hx.2];cases rV x.v<;>rfl) (ah (λh=>fV hl (hn ?_)) (λh=>fV hl (hs _ _ ?_))))
   ·rw[t];cases h1:rV x.v<;>cases h2:VK x.u<;>rw[h1,h2] at h<;>first|rfl|cases h
   ·rw[t];cases h1:rV x.v<;>cases h2:VK x.u<;>rw[h1,h2] at h<;>first|rfl|cases h
  ·unfold mn;cases hff:VT us.length x with
   |false=>rfl
   |true=>
    exfalso;rw[hform] at hff;have f:=fM hff;simp only at f;exact h ⟨hff,V6.2 (by omega),V6.2 (by omega),λh=>by cases h⟩
 ·
  have hform:VT us.length x=eqN ⟨0,x.v,x.u,0,x.l,x.r⟩ noN:=by unfold VT;rw[o1,o2];rfl
  have huni:fL inp us x=bif decide (0<=x.n)&&decide (x.n<(inp.length:Int)) then(mb noU inp x.n.toNat,0) else(noU,90):=by unfold fL;rw[o1,o2];rfl
  refine oC (λ⟨a1,a2,a3,a4⟩=> ?_) (λh=>hn ?_)
  ·have t:=T hform huni;rw[a1] at t;refine ah (λh=>fV hl (hn ?_)) (λh=> ?_)
   ·rw[t];by_cases h1:x.n<0
    ·rw[zdt (show ¬0<=x.n by omega)];rfl
    ·rw[zdt h1,zdr,zdu] at h;rw[zdt (show ¬x.n<(inp.length:Int) by omega),Bool.and_false];rfl
   ·by_cases h1:x.n<0
    ·rw[zdq h1] at h;cases h
    ·rw[zdt h1,zdr,zdA] at h;rw[za7];refine aY (by omega) (by omega) (fV hl (hs _ _ ?_));rw[t,zdq (show 0<=x.n by omega),zdq (show x.n<(inp.length:Int) by omega)];rfl
  ·unfold mn;cases hff:VT us.length x with
   |false=>rfl
   |true=>
    exfalso;rw[hform] at hff;have f:=fM hff;simp only at f;exact h ⟨hff,V6.2 (by omega),V6.2 (by omega),λh=>by cases h⟩
 ·exact pair iS (by have:=int_eq.1 o3;omega) (by have:=int_eq.1 o3;omega) (by have:=int_eq.1 o3;omega) (by unfold fL;rw[o1,o2,o3];rfl)
 ·exact pair fw (by have:=int_eq.1 o4;omega) (by have:=int_eq.1 o4;omega) (by have:=int_eq.1 o4;omega) (by unfold fL;rw[o1,o2,o3,o4];rfl)
 ·exact pair mi (by have:=int_eq.1 o5;omega) (by have:=int_eq.1 o5;omega) (by have:=int_eq.1 o5;omega) (by unfold fL;rw[o1,o2,o3,o4,o5];rfl)
 ·exact pair fd (by have:=int_eq.1 o6;omega) (by have:=int_eq.1 o6;omega) (by have:=int_eq.1 o6;omega) (by unfold fL;rw[o1,o2,o3,o4,o5,o6];rfl)
 ·have hform:VT us.length x=(eqN ⟨0,x.v,x.u,0,0,x.r⟩ noN&&earF us.length x.l):=by
   unfold VT;rw[o1,o2,o7,show (decide (3<=x.op)&&decide (x.op<=6))=false by rw[int_eq.1 o7];rfl];rfl
  have huni:fL inp us x=bif x.n==0||decide (x.n< -4)||decide (x.n>4) then(noU,90) else jm (mb noU us x.l.toNat) (x.n,1):=by unfold fL;rw[o1,o2,o3,o4,o5,o6,o7];rfl
  refine oC (λ⟨a1,a2,a3,a4⟩=> ?_) (λh=>hn ?_)
  ·have h0:=a4 rfl;have hf:VT us.length x=true:=by rw[hform,a1,<-E2 h0,a2];rfl
   have t:=T hf huni;have e:(bif bif x.n==0 then true else decide (x.n< -4) then true else decide (x.n>4))=(x.n==0||decide (x.n< -4)||decide (x.n>4)):=by cases x.n==0<;>cases decide (x.n< -4)<;>rfl
   rw[e];refine ah (λh=>fV hl (hn ?_)) (λh=> ?_)
   ·rw[t,h];rfl
   ·rw[h,zdr] at huni;have a:=V6.1 a2;rw[za7];exact aY a.1 (by omega) (ac (eH hu _) (U hf huni))
  ·unfold mn;cases hff:VT us.length x with
   |false=>rfl
   |true=>
    exfalso;rw[hform] at hff;simp only[za2] at hff;have f:=fM hff.1;simp only at f;have hp:0<us.length:=by have:=V2.1 hff.2;omega
    exact h ⟨hff.1,by rw[E2 hp];exact hff.2,V6.2 (by omega),λ_=>hp⟩
 ·have hform:VT us.length x=(eqN ⟨0,x.v,x.u,x.n,0,x.r⟩ noN&&earF us.length x.l):=by
   unfold VT;rw[o1,o2,o7,o8,show (decide (3<=x.op)&&decide (x.op<=6))=false by rw[int_eq.1 o8];rfl];rfl
  have huni:fL inp us x=jm (mb noU us x.l.toNat) (1,2):=by unfold fL;rw[o1,o2,o3,o4,o5,o6,o7,o8];rfl
  refine oC (λ⟨a1,a2,a3,a4⟩=> ?_) (λh=>hn ?_)
  ·have h0:=a4 rfl;have hf:VT us.length x=true:=by rw[hform,a1,<-E2 h0,a2];rfl
   have a:=V6.1 a2;rw[za7];exact aY a.1 (by omega) (ac (eH hu _) (U hf huni))
  ·unfold mn;cases hff:VT us.length x with
   |false=>rfl
   |true=>
    exfalso;rw[hform] at hff;simp only[za2] at hff;have f:=fM hff.1;simp only at f;have hp:0<us.length:=by have:=V2.1 hff.2;omega
    exact h ⟨hff.1,by rw[E2 hp];exact hff.2,V6.2 (by omega),λ_=>hp⟩
 ·refine ac (by unfold P5;rw[o1,o2,o3,o4,o5,o6,o7,o8];rfl) (hn ?_);unfold mn;have:VT us.length x=false:=by
   unfold VT;rw[o1,o2,o7,o8];simp only[zdr];have e:(decide (3<=x.op)&&decide (x.op<=6))=false:=by
    simp only[zdy,ne_eq] at o1 o2 o3 o4 o5 o6 o7 o8;simp;omega
   rw[e];rfl
  rw[this];rfl
variable {a b:Un}
theorem zk (ha:aH a=true) (hb:aH b=true):aH (iS a b).1=true:=by
 unfold iS;cases !jk a b||(a.s==0&&b.s==0) with
 |true=>exact XO
 |false=>cases b.s==0;exact ha;exact hb
theorem oD (ha:aH a=true):aH (fw a b).1=true:=by
 unfold fw;cases !jk a b with
 |true=>exact XO
 |false=>cases b.s !=0 with
  |true=>exact ha
  |false=>cases eqU a b with
   |true=>
    have:=(eL ha).1;show (uzR a.f&&uzR rZ)=true;rw[this];decide
   |false=>exact XO
theorem LL (hx:szN x=true) (hi: ∀u∈inp,szB u=true) (hu: ∀u∈us,szB u=true):szB (fL inp us x).1=true:=by
 unfold szN at hx;rw[za2] at hx;have n:=λe=>eH hu e;unfold fL;cases x.op==1 with
 |true=>cases rV x.v&&VK x.u;exact XO;exact hx.2
 |false=>cases x.op==2 with
  |true=>cases decide (0<=x.n)&&decide (x.n<(inp.length:Int));exact XO;exact eH hi _
  |false=>cases x.op==3 with
   |true=>exact zk (n _) (n _)
   |false=>cases x.op==4 with
    |true=>exact oD (n _)
    |false=>cases x.op==5 with
     |true=>exact CK _ _
     |false=>cases x.op==6 with
      |true=>exact oA _ _
      |false=>cases x.op==7 with
       |true=>cases x.n==0||decide (x.n< -4)||decide (x.n>4);exact re (n _) _;exact XO
       |false=>cases x.op==8;exact XO;exact re (n _) _
theorem CR (hx:szN x=true) (hi: ∀u∈inp,szB u=true) (hu: ∀u∈us,szB u=true) (h:mn inp us x=some u):szB u=true:=by
 unfold mn at h;cases hh:VT us.length x&&(fL inp us x).2==0 with
 |false=>rw[hh] at h;cases h
 |true=>
  rw[hh] at h;simp only[zds,za1] at h;subst h;exact LL hx hi hu
variable {p:Pr}
theorem Wb:oB p=true↔(1<=p.id/\p.id<=1000000/\p.inp.length<=6)/\p.inp.all VK=true/\1<=p.nod.length/\p.nod.length<=40:=by
 unfold oB;simp only[za2,zdu];exact⟨λ⟨⟨⟨⟨⟨a,b⟩,c⟩,d⟩,e⟩,f⟩=>⟨⟨a,b,c⟩,d,e,f⟩,λ⟨⟨a,b,c⟩,d,e,f⟩=>⟨⟨⟨⟨⟨a,b⟩,c⟩,d⟩,e⟩,f⟩⟩
theorem ES {K:zdS} {KU:List Un->Prop} (hsz:aci p=true) (h6:p.inp.length<=1000000)
 (hb:(VJ p).2.2≠0->K (zi (VJ p).2.1)) (hg:(VJ p).2.2=0->KU (VJ p).1):OB (chkI p.inp p.nod) p.nod.length p.id p.inp p.nod p.out K KU:=by
 unfold aci at hsz;simp only[za2,zaf] at hsz;obtain⟨⟨si,sn⟩,so⟩:=hsz;have gl:eU.list p.inp.length (eU.get p.inp)=p.inp:=El.list_get;have bad1:oB p=false->K (zi (-1)):=λh=>by
  have:VJ p=([], -1,90):=by unfold VJ;rw[h];rfl
  rw[this] at hb;exact hb (by decide)
 have nb: ∀{P:Prop},¬P->(oB p=true->P)->oB p=false:=λ{P} h k=>by
  cases hh:oB p with
  |false=>rfl
  |true=>exact absurd (k hh) h
 unfold OB;refine ah (λh=>bad1 (nb (P:=1<=p.id/\p.id<=1000000/\p.inp.length<=6) (λ⟨a,b,c⟩=> ?_) λhh=>(Wb.1 hh).1)) (λh1=>ac (by rw[El.good_get si];simp[h6]) λ_ _=>ah (λh=>bad1 (nb (P:=p.inp.all VK=true/\1<=p.nod.length/\p.nod.length<=40) (λ⟨a,b,c⟩=> ?_) λhh=>(Wb.1 hh).2)) (λh2=> ?_))
 ·rw[zdt (show ¬p.id<1 by omega),zdt (show ¬p.id>1000000 by omega),zdt (show ¬((p.inp.length:Int)>6) by omega)] at h;cases h
 ·rw[gl,a,zdt (show ¬(p.nod.length:Int)<1 by omega),zdt (show ¬((p.nod.length:Int)>40) by omega)] at h;cases h
 ·have hbeg:oB p=true:=by
   refine Wb.2 ⟨?_, ?_⟩
   ·by_cases q1:p.id<1
    ·rw[zdq q1] at h1;cases h1
    ·by_cases q2:p.id>1000000
     ·rw[zdt q1,zdq q2] at h1;cases h1
     ·rw[zdt q1,zdt q2] at h1;have:=zdw h1;omega
   ·rw[gl] at h2;cases q1:p.inp.all VK with
    |false=>rw[q1] at h2;cases h2
    |true=>
     rw[q1] at h2;by_cases q2:(p.nod.length:Int)<1
     ·rw[zdq q2] at h2;cases h2
     ·rw[zdt q2] at h2;have:=zdw h2;exact⟨rfl,by omega,by omega⟩
  obtain⟨⟨b1,b2,b3⟩,b4,b5,b6⟩:=Wb.1 hbeg;have hc:VJ p=match iB p.inp p.nod [] with
   |(us,true)=>bif eqU (ly us) p.out then(us,0,0) else([],p.nod.length,90)
   |(us,false)=>([],us.length,90):=by unfold VJ;rw[hbeg];rfl
  refine⟨(0, []),⟨zat _,by show (0:Int)<=_;omega,rfl,λu h=>(by cases h),rfl⟩,⟨⟨rfl,rfl,rfl,rfl,rfl,trivial⟩,trivial,⟨rfl,trivial⟩,rfl,trivial⟩, ?_⟩;rintro⟨i,us⟩ ⟨k0,k1,k2,k3,k4⟩;simp only at k0 k1 k2 k3 k4;dsimp only;refine ah (λhz=> ?_) (λhz=> ?_)
  ·have hz:i<(p.nod.length:Int):=zdv hz;rw[za7];have hd:=atR (d:=noN) k0 hz;have hx:=sn _ (gF (d:=noN) (l:=p.nod) (e:=i.toNat) (by omega));rw[hd,iB] at k4;refine aY k0 hz (LK hx si k3 (by omega) (λhn=> ?_) (λu q hu=> ?_))
   ·rw[hn] at k4;replace k4:iB p.inp p.nod []=(us,false):=k4;rw[k4] at hc;replace hc:VJ p=([],(us.length:Int),90):=hc;rw[hc] at hb;have:=hb (show (90:Int)≠0 by decide);rwa[show ((us.length:Nat):Int)=i by omega] at this
   ·rw[hu] at k4;replace k4:iB p.inp p.nod []=iB p.inp (p.nod.drop (i+1).toNat) (us++ [u]):=k4;refine ac (VP.2 (by omega)) ⟨(i+1,us++ [u]),⟨by show 0<=i+1;omega,by show i+1<=_;omega,by simp only[za3,za6];omega, ?_,k4⟩,by show (_:Nat)<_;omega,CQ⟩;exact atS k3 (CR hx si k3 hu)
  ·have hz: ¬i<(p.nod.length:Int):=zdw hz;rw[show i.toNat=p.nod.length by omega,zbj,iB] at k4;rw[k4] at hc;refine ac (VP.2 (by omega)) (aY (by omega) (by omega) ?_);have e:(0+((us.length:Int) - 1).toNat)=us.length - 1:=by omega
   show ag (!eqU (mb noU us (0+((us.length:Int) - 1).toNat)) p.out) _ _;rw[e];refine ah (λh=> ?_) (λh=> ?_)
   ·have h:eqU (ly us) p.out=false:=by simpa [ly] using h
    rw[hc] at hb;simp only[h,zdr] at hb;exact hb (show (90:Int)≠0 by decide)
   ·have h:eqU (ly us) p.out=true:=by simpa [ly] using h
    rw[hc] at hg;simp only[h,zds] at hg;exact hg trivial
structure ProA where
 need:Bool
 o1:Option Nat
 o2:Option Nat
 p:Pr
def bW (n:Nat):Bool:=Nat.ble n 1000000
def mC (bl:zdN) (s:SV):Option ProA:=match s with
 | .agg (.val (.int .i64 id)::si::sn::r)=>match vW bl 20 si,vW bl 26 sn,Au (.agg r) with
   |some (b1,o1,n1,g1),some (b2,o2,n2,g2),some u=>some ⟨b1&&b2&&bW n1&&bW n2&&eU.good szB n1 g1&&eN.good szN n2 g2&&szB u,o1,o2,⟨id,eU.list n1 g1,eN.list n2 g2,u⟩⟩
   |_,_,_=>none
 |_=>none
def iK (p:Pr):zdV:= [eU.old p.inp,eN.old p.nod]
def kB (p:Pr):SV:=svP p.id p.inp p.nod p.out
variable {cs:zdL}
theorem pM (h:Au (.agg cs)=some u):cs=ci u:=by
 have:=cU.ok _ _ h;simpa [cU] using this
variable {f:zdZ} {xs ys:zdL}
theorem ar {x y:SV} (h:x.rn f=some y) (k:SV.rns f xs=some ys):SV.rns f (x::xs)=some (y::ys):=by simp only[SV.rns,h,k]
theorem Xs (k:SV.rns f xs=some ys):(SV.agg xs).rn f=some (.agg ys):=by simp only[SV.rn,k]
theorem xh (k:SV.rns f xs=some ys):(SV.tup xs).rn f=some (.tup ys):=by simp only[SV.rn,k]
theorem eX {bl:zdN} {s:SV} {a:ProA} (h:mC bl s=some a) (hn:a.need=true) (h0:f 0=some a.o1) (h1:f 1=some a.o2):
 j5 bl f (eU.old a.p.inp) a.o1/\j5 bl f (eN.old a.p.nod) a.o2/\(kB a.p).rn f=some s/\aci a.p=true/\a.p.inp.length<=1000000/\a.p.nod.length<=1000000:=by
 unfold mC at h;split at h
 ·rename_i id si sn r;split at h
  ·rename_i b1 o1 n1 g1 b2 o2 n2 g2 u hs1 hs2 hu;simp only[za1] at h;subst h;simp only[za2] at hn;obtain⟨⟨⟨⟨⟨⟨rfl,rfl⟩,l1⟩,l2⟩,k1⟩,k2⟩,k3⟩:=hn;obtain⟨a1,a2⟩:=cq (f:=f) hs1 k1;obtain⟨b1,b2⟩:=cq (f:=f) hs2 k2;refine⟨a1,b1, ?_, ?_, ?_, ?_⟩
   ·have e:=rns_free (f:=f) (fj u);have d:=pM hu;subst d;exact Xs (ar (show SV.rn f (.val (.int .i64 id))=_ from rfl) (ar (a2 0 h0) (ar (b2 1 h1) e)))
   ·unfold aci;simp only[za2,zaf];exact⟨⟨El.good_list k1,El.good_list k2⟩,k3⟩
   ·rw[El.list_length];exact zak l1
   ·rw[El.list_length];exact zak l2
  ·cases h
 ·cases h
def xi:MCtr:=λbl nx args=>match args with
 | [s]=>match mC bl s with
   |some a=>some {X:=Unit,pre:=a.need,spec:=λ_=>True,out:=λ_=> .tup [.slc nx 0 (VJ a.p).1.length, .val (.int .i64 (VJ a.p).2.1), .val (.int .i64 (VJ a.p).2.2)],nw:=λ_=> [eU.own (VJ a.p).1],ex:=λ_=>⟨(),trivial⟩}
   |none=>none
 |_=>none
theorem ke (p:Pr):((VJ p).2.2=90/\(VJ p).1= [])\/((VJ p).2.2=0/\(VJ p).2.1=0/\(VJ p).1.length=p.nod.length/\1<=p.nod.length):=by
 have hl: ∀(l:ze1) (us vs:ze0),iB p.inp l us=(vs,true)->vs.length=us.length+l.length:=by
  intro l
  induction l with
  |nil=>intro us vs h;simp only[iB,zag,and_true] at h;subst h;simp
  |cons x r ih=>
   intro us vs h;simp only[iB] at h;split at h
   ·have:=ih _ _ h;simp only[za3,za6] at this;simp only[za4];omega
   ·simp at h
 unfold VJ;cases hb:oB p with
 |false=>exact .inl ⟨rfl,rfl⟩
 |true=>
  rw[zds];cases hu:iB p.inp p.nod [] with
  |mk us b=>
   cases b with
   |false=>exact .inl ⟨rfl,rfl⟩
   |true=>
    cases he:eqU (ly us) p.out with
    |false=>exact .inl ⟨by simp only[he,zdr],by simp only[he,zdr]⟩
    |true=>
     have:=hl _ _ _ hu;simp only[he,zds];exact .inr ⟨trivial,trivial,by simpa using this,(Wb.1 hb).2.2.1⟩
theorem cx (p:Pr): ∀C∈iK p,cN C.kd=false:=by simp[iK,cN,El.old]
theorem jG (p:Pr): ∀C∈iK p,C.kd.map=false:=by simp[iK,BK.map,El.old]
theorem OD:MOk gmC:=(MOk.nil.cons λ_ _ _ _ _ _ _ _ _ _ _ _ h=>by cases h).cons (IH MOk.nil)
variable {Q:zdS}
theorem vL {KS:Nat->Nat->Blk->List SV->Prop} {r:Res} {b:zdN} {w:zdJ} (h:slK KS Q r b m w):(∃i n rest B,r= .ok (.tup (.slc i 0 n::rest))/\b i=some B/\KS i n B rest)\/ ∃s,r= .ok s/\Q s:=by
 unfold slK at h;split at h
 ·rename_i i n rest;split at h
  ·rename_i B hB;exact .inl ⟨i,n,rest,B,rfl,hB,h⟩
  ·exact h.elim
 ·exact .inr ⟨_,rfl,h⟩
 ·exact h.elim
variable {nx:Nat}
theorem atW {R:Aft->Prop} (mono: ∀{K K':Aft},R K->(∀r b n w,K r b n w->K' r b n w)->R K') {a:ProA} (hq:2<=q)
 (key: ∀(KS:Nat->Nat->Blk->List SV->Prop) (Q:zdS),((VJ a.p).2.2≠0->Q (zi (VJ a.p).2.1))->((VJ a.p).2.2=0->KS q (VJ a.p).1.length {n:=(VJ a.p).1.length,sz:=20,get:=eU.get (VJ a.p).1,kd:= .own,nn:=false} [.val (.int .i64 0), .val (.int .i64 0)])->R (slK KS Q)):
 R (KB {X:=Unit,pre:=a.need,spec:=λ_=>True,out:=λ_=> .tup [.slc nx 0 (VJ a.p).1.length, .val (.int .i64 (VJ a.p).2.1), .val (.int .i64 (VJ a.p).2.2)],nw:=λ_=> [eU.own (VJ a.p).1],ex:=λ_=>⟨(),trivial⟩} [a.o1,a.o2] (iK a.p) nx):=by
 refine mono (key (λi n B rest=>(VJ a.p).2.2=0/\i=q/\n=(VJ a.p).1.length/\B={n:=(VJ a.p).1.length,sz:=20,get:=eU.get (VJ a.p).1,kd:= .own,nn:=false}/\rest= [.val (.int .i64 0), .val (.int .i64 0)]) (λr=>(VJ a.p).2.2≠0/\r=zi (VJ a.p).2.1) (λh=>⟨h,rfl⟩) (λh=>⟨h,rfl,rfl,rfl,rfl⟩)) λr b m w h=> ?_;rcases vL h with ⟨i,n,rest,B,rfl,hB,e0,rfl,rfl,rfl,rfl⟩|⟨s,rfl,e0,rfl⟩
 ·obtain⟨c1,_⟩|⟨_,c2,c3,c4⟩:=ke a.p
  ·rw[c1] at e0;cases e0
  ·refine⟨(),trivial, [some i],⟨_,rfl, ?_⟩,by simp[ck],⟨⟨hq, ?_⟩,trivial⟩,we (cx _) rfl _⟩
   ·simp only[SV.rn,SV.rns,cO,c2,e0];rfl
   ·rw[hB];exact⟨by simp[El.own],λ_=> .inl rfl,gC rfl rfl (za0 _) λ_ _=>rfl⟩
 ·obtain⟨c1,c2⟩|⟨c1,_⟩:=ke a.p
  ·refine⟨(),trivial, [none],⟨_,rfl, ?_⟩,by simp[ck],⟨⟨rfl,by simp[El.own,c2],rfl⟩,trivial⟩,we (cx _) rfl _⟩;simp only[SV.rn,SV.rns,cO,c1,c2];rfl
  ·exact absurd c1 e0
theorem vM: ∀B:Base,GlobB B->VU prog B 11 xi:=eW OD λbl nx args C hk hp=>by
 unfold xi at hk;split at hk
 ·rename_i s;split at hk
  ·rename_i a ha;simp only[za1] at hk;subst hk;obtain⟨s1,s2,s3,s4,s5,s6⟩:=eX (f:=rnF [a.o1,a.o2] [] nx) ha hp rfl rfl;refine⟨[a.o1,a.o2],iK a.p, [kB a.p],tM (chkI a.p.inp a.p.nod) a.p.nod.length,6,aw s1 (aw s2 trivial),bH (cx _),cd (jG _),by simp only[SV.rns,s3],atW (q:=71) cQ (by decide) λKS Q h1 h2=> ?_⟩;unfold kB iK;rw[OC];exact ES s4 s5 h1 h2
  ·cases hk
 ·cases hk
def pN:MCtr:=λbl nx args=>match args with
 | [s]=>match mC bl s with
   |some a=>some {X:=Unit,pre:=a.need,spec:=λ_=>True,out:=λ_=>cB.enc (VM a.p),ex:=λ_=>⟨(),trivial⟩}
   |none=>none
 |_=>none
def gmV:zdY:= [(11,xi)]
theorem OE:MOk gmV:=MOk.nil.cons vM
def jn (p:Pr):Bool:=(Nat.ble p.inp.length p.inp.length&&Nat.beq 20 20&&true)&&(Nat.ble p.nod.length p.nod.length&&Nat.beq 26 26&&true)&&bW p.inp.length&&bW p.nod.length&&eU.good szB p.inp.length (eU.get p.inp)&&eN.good szN p.nod.length (eN.get p.nod)&&szB p.out
def dm (p:Pr):Pr:=⟨p.id,eU.list p.inp.length (eU.get p.inp),eN.list p.nod.length (eN.get p.nod),p.out⟩
theorem fN (p:Pr):dm p=p:=by
 unfold dm;rw[show eU.list p.inp.length (eU.get p.inp)=p.inp from El.list_get,show eN.list p.nod.length (eN.get p.nod)=p.nod from El.list_get]
theorem eY (h:aci p=true) (h1:p.inp.length<=1000000) (h2:p.nod.length<=1000000):jn p=true:=by
 unfold aci at h;simp only[za2,zaf] at h;unfold jn bW;rw[zae h1,zae h2,zae (za0 _),zae (za0 _),El.good_get h.1.1,El.good_get h.1.2,h.2];rfl
theorem ET (p:Pr) (Q:zdS):dk gmV (λ_ _=>none) 3 13 [kB p] (iK p) (Go.Sy.okK λr _ _ _=>Q r)=af (jn p) (Unit->True->Q (cB.enc ((VJ (dm p)).2.2==0))):=by kernel_rfl
variable {Cs:zdV} {gm:zdY} {ann:zdW} {args:zdL} {r:SV}
theorem lz {C:RC} {src:zdU} {f:FuncId} (x:C.X) (hx:C.spec x) (h1:C.pan x=none) (h2:r.ids= []) (h3:C.out x=r) (h4:C.nw x= []) (h5:C.ch x= []) (h6: ∀C∈Cs,cN C.kd=false) (hl:src.length=Cs.length)
 (h:dk gm ann n f args Cs (Go.Sy.okK λs _ _ _=>s=r)):dk gm ann n f args Cs (KB C src Cs nx):=cQ h λq b m w hq=>by
 cases q with
 |pan v=>exact hq.elim
 |ok s=>
  obtain rfl:s=r:=hq;exact IG x hx h1 h2 h3 h4 h5 h6 hl
theorem lZ: ∀B:Base,GlobB B->VU prog B 13 pN:=eW OE λbl nx args C hk hp=>by
 unfold pN at hk;split at hk
 ·rename_i s;split at hk
  ·rename_i a ha;simp only[za1] at hk;subst hk;obtain⟨s1,s2,s3,s4,s5,s6⟩:=eX (f:=rnF [a.o1,a.o2] [] nx) ha hp rfl rfl;refine⟨[a.o1,a.o2],iK a.p, [kB a.p],(λ_ _=>none),3,aw s1 (aw s2 trivial),bH (cx _),cd (jG _),by simp only[SV.rns,s3], ?_⟩;refine lz () trivial rfl (r:=cB.enc (VM a.p)) rfl rfl rfl rfl (cx _) rfl ?_;rw[ET];exact ac (eY s4 s5 s6) λ_ _=>by rw[fN];rfl
  ·cases hk
 ·cases hk
def CS (I:Int->Prop) (N:Int):zdW:=λf k=>bif Nat.beq f 106&&Nat.beq k 2 then some (λA=>{X:=Int,inv:=I,tm:=λi=> [(8, .val (.int .i64 i))],mu:=λi=>(N - i).toNat,keep:= [0,1,7]}) else none
theorem LM (I:Int->Prop) (N:Int) (l:List RS) (Q:zdS):dk [] (CS I N) 5 42 [.slc 0 0 l.length, .fn (.func 40) [] []] [eR.old l] (Go.Sy.okK λr _ _ _=>Q r)=
 LH I N (.slc 0 0 l.length) (.fn (.func 40) [] []) l.length (λz Q=>af (uzR (eR.nth l (0+z.toNat))) (Q (!rV (eR.nth l (0+z.toNat))))) (λz=>Q (cB.enc (decide (z≥0)))):=by kernel_rfl
def II:MCtr:=λbl _ args=>match args with
 | [s, .fn (.func g) [] []]=>bif Nat.beq g 40 then(match vW bl 2 s with
   |some (b,_,n,c)=>some {X:=Unit,pre:=b&&(Nat.ble n 1000000&&eR.good uzR n c),spec:=λ_=>True,out:=λ_=>cB.enc (!(eR.list n c).all rV),ex:=λ_=>⟨(),trivial⟩}
   |none=>none) else none
 |_=>none
theorem IJ (hm:MOk gm): ∀B:Base,GlobB B->VU prog B 42 II:=eW MOk.nil λbl nx args C hk hp=>by
 unfold II at hk;split at hk
 ·rename_i s g;cases hg:Nat.beq g 40 with
  |false=>rw[hg] at hk;cases hk
  |true=>
   obtain rfl:=zab hg;rw[hg,zds] at hk;split at hk
   ·rename_i b o n c hs;simp only[za1] at hk;subst hk;simp only[za2] at hp;obtain⟨rfl,hn,hgood⟩:=hp;have hlen:(eR.list n c).length<2^62:=by rw[El.list_length];have:=zak hn;omega
    obtain⟨h1,h2⟩:=cq (f:=rnF [o] [] nx) hs hgood;refine⟨[o], [eR.old (eR.list n c)], [.slc 0 0 (eR.list n c).length, .fn (.func 40) [] []],CS (λi=>0<=i/\i<=(eR.list n c).length/\be (λu=> !rV u) (eR.list n c) 0=be (λu=> !rV u) ((eR.list n c).drop i.toNat) i) (eR.list n c).length,5,aw h1 trivial,bH (by simp[cN,El.old]),cd (by simp[El.old,BK.map]), ?_, ?_⟩
    ·simp only[SV.rns,h2 0 rfl];rfl
    ·refine lz () trivial rfl (r:=cB.enc (!(eR.list n c).all rV)) rfl rfl rfl rfl (by simp[cN,El.old]) rfl ?_;rw[LM];refine pJ VI hlen (λz Q h0 h1 h=> ?_) ?_
     ·rw[za7];have:=El.good_list hgood _ (gF (d:=VI) (l:=eR.list n c) (e:=z.toNat) (by omega));exact ac this h
     ·rw[pI _ _ _ (zat _),CP]
   ·cases hk
 ·cases hk
def gmE:zdY:= [(13,pN),(42,II)]
theorem OF:MOk gmE:=(MOk.nil.cons (IJ MOk.nil)).cons lZ
abbrev EX:=Int×List RS
abbrev PWX:=Int×RS
def OG (A:AS):RS:=match A.tm 7 with
 | .v (.slc i _ _)=>match A.bl i,Bh A (kA A 10) 24 with
   |some B, .val (.int _ l)=>NH (B.get (0+l.toNat))
   |_,_=>VI
 |_=>VI
def P7 (A:AS) (t:Nat):Int:=match A.tm t with
 | .v (.val (.int _ z))=>z
 |_=>0
def CT (I:EX->Prop) (N:Int) (J:RS->Int->PWX->Prop):zdW:=λf k=>bif Nat.beq f 51 then(bif Nat.beq k 4 then some (λA=>{X:=EX,inv:=I,tm:=λx=> [(19, .val (.int .i64 x.1)),(7, .slc A.nx 0 x.2.length)],gr:= [{src:= .slot 7,sz:=2,n:=λx=>x.2.length,get:=λx=>eR.get x.2}],cleanG:=λg hg x e=>by simp at hg;subst hg;exact eR.ids _,mu:=λx=>(N - x.1).toNat,keep:= [2,3,4,6,8,17,18]})
 else bif Nat.beq k 23 then some (λA=>{X:=PWX,inv:=J (OG A) (P7 A 119),tm:=λx=> [(120, .val (.int .i64 x.1))],st:= [(kA A 11,λx=>gA x.2)],mu:=λx=>(4 - x.1).toNat,keep:= [2,3,4,6,7,8,10,11,17,18,19,119]}) else none) else none
def LN:SV:= .tup [.agg (gA VI), .val (.int .i64 90)]
def LO (r:RS×Int) (bad:Prop) (K:RS->Prop):Prop:=ag (r.2 !=0) bad (K r.1)
def LP (n:Nat) (K:Prop):Prop:=af (decide (0<1)&&decide (0+1<=1)&&decide (n<=n)&&decide ((n+1)*32<=140737488355328)&&true) K
def evS (ni nn:Nat) (Q:Prop):Prop:=tvE (.slc 2 0 ni)/\cg 27/\cg 28/\cg 29/\cg 38/\tvE (.slc 1 0 nn)/\tvE (cI.enc (nn:Int))/\Q
def evM (q ni nn:Nat) (p:Int) (n:Nat) (us:zdO) (z:EX):Prop:=
 (TV.v (cI.enc p)=TV.v (cI.enc z.1)/\TV.v (.slc q 0 n)=TV.v (.slc q 0 z.2.length)/\evS ni nn True)/\(True/\(True/\(af (Nat.beq 2 2&&decide (z.2.length<=n)) (∀e,e<z.2.length->us e=eR.get z.2 e)/\True)))
def evN (I:EX->Prop) (N:Int) (q ni nn:Nat) (i:Int) (vs:List RS) (v:RS):Prop:=LP vs.length (af (inR .i64 (i+1)) (∃z:EX,I z/\((N - z.1).toNat<(N - i).toNat/\evM q ni nn (i+1) (vs.length+1) (ald (eR.get vs) (λe=>((gA v).drop (e*2)).take 2) vs.length 0) z)))
def jH (n:Int):Int:=if -n>n then -n else n
def pwE (ni nn:Nat) (i:Int) (n:Nat) (m:Int) (p:Int) (v:RS) (z:PWX):Prop:=
 (TV.v (cI.enc p)=TV.v (cI.enc z.1)/\tvE (.slc 2 0 ni)/\cg 27/\cg 28/\cg 29/\tvE (.slc 44 0 n)/\cg 38/\cg 48/\cg 50/\tvE (.slc 1 0 nn)/\tvE (cI.enc (nn:Int))/\tvE (cI.enc i)/\tvE (cI.enc m)/\True)/\(True/\((gA v=gA z.2/\True)/\True))
def opP (vs:List RS) (x:Nd) (f:RS->RS->RS×Int) (bad:Prop) (K:RS->Prop):Prop:=
 eO vs.length x.l (eO vs.length x.r (af (uzR (mb VI vs (0+x.l.toNat))&&uzR (mb VI vs (0+x.r.toNat))) (LO (f (mb VI vs (0+x.l.toNat)) (mb VI vs (0+x.r.toNat))) bad K)))
def P8 (J:RS->Int->PWX->Prop) (ni nn:Nat) (i:Int) (vs:List RS) (x:Nd) (bad:Prop) (K1 K2:RS->Prop):Prop:=
 af (inR .i64 (-x.n)) (∃z0:PWX,J (mb VI vs (0+x.l.toNat)) (jH x.n) z0/\(pwE ni nn i vs.length (jH x.n) 0 rI z0/\ ∀z:PWX,J (mb VI vs (0+x.l.toNat)) (jH x.n) z->ag (decide (z.1<jH x.n))
  (eO vs.length x.l (af (uzR z.2&&uzR (mb VI vs (0+x.l.toNat))) (LO (ale z.2 (mb VI vs (0+x.l.toNat))) bad λv=>af (inR .i64 (z.1+1)) (∃z':PWX,J (mb VI vs (0+x.l.toNat)) (jH x.n) z'/\((4 - z'.1).toNat<(4 - z.1).toNat/\pwE ni nn i vs.length (jH x.n) (z.1+1) v z')))))
  (ag (decide (x.n<0)) (af (uzR rI&&uzR z.2) (LO (cA rI z.2) bad K1)) (K2 z.2))))
def evP (I:EX->Prop) (N:Int) (J:RS->Int->PWX->Prop) (ins:List RS) (nn:Nat) (i:Int) (vs:List RS) (x:Nd) (bad:Prop):Prop:=
 ag (x.op==1) (evN I N 84 ins.length nn i vs x.v) (
 ag (x.op==2) (eO ins.length x.n (evN I N 83 ins.length nn i vs (mb VI ins (0+x.n.toNat)))) (
 ag (x.op==3) (opP vs x fZ bad (evN I N 87 ins.length nn i vs)) (
 ag (x.op==4) (opP vs x iF bad (evN I N 89 ins.length nn i vs)) (
 ag (x.op==5) (opP vs x ale bad (evN I N 91 ins.length nn i vs)) (
 ag (x.op==6) (opP vs x cA bad (evN I N 93 ins.length nn i vs)) (
 ag (x.op==7) (P8 J ins.length nn i vs x bad (evN I N 115 ins.length nn i vs) (evN I N 100 ins.length nn i vs)) (
 ag (x.op==8) (eO vs.length x.l bad) (evN I N 89 ins.length nn i vs VI))))))))
def evT (I:EX->Prop) (N:Int) (J:RS->Int->PWX->Prop) (p:Pr) (ins:List RS) (Q:zdS):Prop:=
 af (jn p) (Unit->True->ag (bif !VM (dm p) then true else((ins.length:Int) !=(p.inp.length:Int))) (Q LN)
 (af (Nat.ble ins.length ins.length&&Nat.beq 2 2&&true&&(Nat.ble ins.length 1000000&&eR.good uzR ins.length (eR.get ins))) (Unit->True->ag (!(eR.list ins.length (eR.get ins)).all rV) (Q LN)
 (∃z0:EX,I z0/\(((TV.v (cI.enc 0)=TV.v (cI.enc z0.1)/\TV.v (.val (.slice none 0 0))=TV.v (.val (.slice none z0.2.length 0))/\evS ins.length p.nod.length True)/\(True/\(True/\(z0.2.length=0/\True))))/\
   ∀z:EX,I z->ag (decide (z.1<(p.nod.length:Int)))
    (eO p.nod.length z.1 (evP I N J ins p.nod.length z.1 z.2 (mb noN p.nod (0+z.1.toNat)) (Q LN)))
    (af (inR .i64 ((z.2.length:Int) - 1)) (eO z.2.length ((z.2.length:Int) - 1) (Q (.tup [.agg (gA (mb VI z.2 (0+((z.2.length:Int) - 1).toNat))), .val (.int .i64 0)])))))))))
theorem P9 (I:EX->Prop) (N:Int) (J:RS->Int->PWX->Prop) (p:Pr) (ins:List RS) (Q:zdS):dk gmE (CT I N J) 6 18 [kB p, .slc 2 0 ins.length] [eU.old p.inp,eN.old p.nod,eR.old ins] (Go.Sy.okK λr _ _ _=>Q r)=evT I N J p ins Q:=by kernel_rfl
def okR (r:RS×Int):Option RS:=bif r.2 !=0 then none else some r.1
def kC (b:RS):Nat->Option RS
 |0=>some rI
 |k+1=>match kC b k with
  |some v=>okR (ale v b)
  |none=>none
def valF (ins vs:List RS) (x:Nd):Option RS:=
 bif x.op==1 then some x.v else
 bif x.op==2 then some (mb VI ins x.n.toNat) else
 bif x.op==3 then okR (fZ (mb VI vs x.l.toNat) (mb VI vs x.r.toNat)) else
 bif x.op==4 then okR (iF (mb VI vs x.l.toNat) (mb VI vs x.r.toNat)) else
 bif x.op==5 then okR (ale (mb VI vs x.l.toNat) (mb VI vs x.r.toNat)) else
 bif x.op==6 then okR (cA (mb VI vs x.l.toNat) (mb VI vs x.r.toNat)) else
 bif x.op==7 then(match kC (mb VI vs x.l.toNat) (jH x.n).toNat with
  |some v=>bif decide (x.n<0) then okR (cA rI v) else some v
  |none=>none) else
 bif x.op==8 then none else some VI
def iC (ins:List RS):List Nd->List RS->Option (List RS)
 | [],vs=>some vs
 |x::r,vs=>match valF ins vs x with
  |some v=>iC ins r (vs++ [v])
  |none=>none
def CU (vs:List RS):RS:=mb VI vs (vs.length - 1)
def bn (p:Pr) (ins:List RS):RS×Int:=bif !VM p||ins.length !=p.inp.length|| !ins.all rV then(VI,90) else(match iC ins p.nod [] with
 |some vs=>(CU vs,0)
 |none=>(VI,90))
theorem xj {inp:ze0}: ∀{l:ze1} {us vs:ze0},iB inp l us=(vs,true)-> ∀j,j<l.length-> ∃ws u,ws.length=us.length+j/\mn inp ws (mb noN l j)=some u
 | [],us,vs,_,j,hj=>by simp at hj
 |x::r,us,vs,h,j,hj=>by
  simp only[iB] at h;split at h
  ·rename_i u hu;cases j with
   |zero=>exact⟨us,u,rfl,hu⟩
   |succ j=>
    obtain⟨ws,v,h1,h2⟩:=xj h j (by simpa using hj);exact⟨ws,v,by rw[h1];simp;omega,h2⟩
  ·simp at h
theorem vN (h:mn inp us x=some u):VT us.length x=true/\(fL inp us x).2=0/\(fL inp us x).1=u:=by
 unfold mn at h;cases h1:VT us.length x&&(fL inp us x).2==0 with
 |false=>rw[h1] at h;cases h
 |true=>
  rw[h1] at h;simp only[zds,za1] at h;simp only[za2,zdz] at h1;exact⟨h1.1,h1.2,h⟩
structure NodeOK (ni n:Nat) (x:Nd):Prop where
 form:VT n x=true
 op:1<=x.op/\x.op<=8
 inp:x.op=2->0<=x.n/\x.n<ni
 left:3<=x.op->0<=x.l/\x.l<n
 right:3<=x.op->x.op<=6->0<=x.r/\x.r<n
 pow:x.op=7->x.n≠0/\ -4<=x.n/\x.n<=4
theorem EU (h1:VT us.length x=true) (h2:(fL inp us x).2=0):NodeOK inp.length us.length x:=by
 have hop:1<=x.op/\x.op<=8:=by
  unfold VT at h1;by_cases o1:x.op=1
  ·omega
  by_cases o2:x.op=2
  ·omega
  by_cases o3:3<=x.op/\x.op<=6
  ·omega
  by_cases o7:x.op=7
  ·omega
  by_cases o8:x.op=8
  ·omega
  exfalso;rw[zdx o1,zdx o2,zdx o7,zdx o8] at h1;have:(decide (3<=x.op)&&decide (x.op<=6))=false:=by simp;omega
  rw[this] at h1;cases h1
 refine⟨h1,hop,λo=> ?_,λo=> ?_,λo o'=> ?_,λo=> ?_⟩
 ·unfold fL at h2;rw[o] at h2;cases hc:decide (0<=x.n)&&decide (x.n<(inp.length:Int)) with
  |true=>simpa using hc
  |false=>rw[hc] at h2;exact absurd (show (90:Int)=0 from h2) (by decide)
 ·unfold VT at h1;rw[zdx (show x.op≠1 by omega),zdx (show x.op≠2 by omega)] at h1;by_cases o3:x.op<=6
  ·rw[zdq o,zdq o3] at h1;simp only[zdr,zc6,zds,za2] at h1;exact V2.1 h1.1.2
  ·by_cases o7:x.op=7
   ·rw[o7] at h1;exact V2.1 (Bool.and_eq_true_iff.1 h1).2
   ·have o8:x.op=8:=by omega
    rw[o8] at h1;exact V2.1 (Bool.and_eq_true_iff.1 h1).2
 ·unfold VT at h1;rw[zdx (show x.op≠1 by omega),zdx (show x.op≠2 by omega),zdq o,zdq o'] at h1;simp only[zdr,zc6,zds,za2] at h1;exact V2.1 h1.2
 ·unfold fL at h2;rw[o] at h2;cases hc:x.n==0||decide (x.n< -4)||decide (x.n>4) with
  |true=>rw[hc] at h2;exact absurd (show (90:Int)=0 from h2) (by decide)
  |false=>simp at hc;omega
theorem bQ (h:VM p=true):oB p=true/\ ∀j,j<p.nod.length->NodeOK p.inp.length j (mb noN p.nod j):=by
 unfold VM at h;have h:=beq_iff_eq.1 h;unfold VJ at h;cases hb:oB p with
 |false=>rw[hb] at h;exact absurd (show (90:Int)=0 from h) (by decide)
 |true=>
  rw[hb,zds] at h;refine⟨rfl,λj hj=> ?_⟩;cases hu:iB p.inp p.nod [] with
  |mk us b=>
   rw[hu] at h;cases b with
   |false=>exact absurd (show (90:Int)=0 from h) (by decide)
   |true=>
    obtain⟨ws,u,h1,h2⟩:=xj hu j hj;obtain⟨f1,f2,_⟩:=vN h2;have:=EU f1 f2;rwa[h1,za9,za7] at this
theorem rg {l:List RS} (h: ∀u∈l,uzR u=true) (e:Nat):uzR (mb VI l e)=true:=by
 by_cases he:e<l.length
 ·exact h _ (gF he)
 ·have: ∀(l:List RS) (e:Nat),l.length<=e->mb VI l e=VI:=by
   intro l
   induction l with
   |nil=>intro e _;rfl
   |cons x r ih=>intro e he;cases e with
    |zero=>simp at he
    |succ e=>exact ih e (by simpa using he)
  rw[this l e (by omega)];decide
variable {v:RS}
theorem fq {r:RS×Int} (h:okR r=some v):r.2=0/\r.1=v:=by
 unfold okR at h;cases hr:r.2 !=0 with
 |true=>rw[hr] at h;cases h
 |false=>rw[hr] at h;simp at h hr;exact⟨hr,h⟩
theorem CV {b:RS}: ∀{k:Nat} {v:RS},kC b k=some v->uzR v=true
 |0,v,h=>by simp[kC] at h;subst h;decide
 |k+1,v,h=>by
  simp only[kC] at h;split at h
  ·rw[<-(fq h).2];exact gI _ _
  ·cases h
theorem xk {r:RS×Int} {K:RS->Prop} (h0:okR r=none->bad) (h1: ∀v,okR r=some v->K v):LO r bad K:=ah (λh=>h0 (by unfold okR;rw[h];rfl)) (λh=>h1 _ (by unfold okR;rw[h];rfl))
theorem LQ (h:n<=1000000) (k:K):LP n K:=ac (by
 rw[zdq (zbS),zdq (show 0+1<=1 by omega),zdq (za0 n),zdq (show (n+1)*32<=140737488355328 by omega)];rfl) k
theorem OH {p:Int} {us:List RS} {u:RS}:evM q ni nn p (us.length+1) (ald (eR.get us) (λe=>((gA u).drop (e*2)).take 2) us.length 0) (p,us++ [u]):=by
 have hl:(us++ [u]).length=us.length+1:=by simp
 refine⟨⟨rfl,by rw[hl],rfl,rfl,rfl,rfl,rfl,rfl,rfl,trivial⟩,trivial,trivial, ?_,trivial⟩;refine ac (by rw[zdq (by rw[hl];exact za0 _)];rfl) λe he=> ?_;rw[hl] at he;unfold ald El.get El.nth;rw[aB];show _=gA (mb VI (us++ [u]) e);rw[aS];by_cases h:e<us.length
 ·rw[zdq h,zds,if_neg (by omega)];rfl
 ·obtain rfl:e=us.length:=by omega
  rw[zdt h,zdr,if_pos rfl,zaJ];rfl
def OI (b:RS) (m:Int) (z:PWX):Prop:=0<=z.1/\z.1<=m/\m<=4/\kC b z.1.toNat=some z.2
theorem YZ {m p:Int} :pwE ni nn i n m p v (p,v):=⟨⟨rfl,rfl,rfl,rfl,rfl,rfl,rfl,rfl,rfl,rfl,rfl,rfl,rfl,trivial⟩,trivial,⟨rfl,trivial⟩,trivial⟩
variable {ins vs:List RS}
theorem OJ {I:EX->Prop} (hx:NodeOK ni vs.length x) (hni:ins.length=ni) (hv: ∀u∈vs,uzR u=true) (hb:valF ins vs x=none->bad) (hs: ∀v q,valF ins vs x=some v->evN I N q ins.length nn i vs v):evP I N OI ins nn i vs x bad:=by
 obtain⟨o1,o2⟩:=hx.op;have two: ∀{f:RS->RS->RS×Int} {q:Nat},3<=x.op->x.op<=6->valF ins vs x=okR (f (mb VI vs x.l.toNat) (mb VI vs x.r.toNat))->opP vs x f bad (evN I N q ins.length nn i vs):=λ{f q} a b e=>by
  have hl:=hx.left a;have hr:=hx.right a b;unfold opP;rw[za7,za7];exact aY hl.1 hl.2 (aY hr.1 hr.2 (ac (by rw[rg hv,rg hv];rfl) (xk (λh=>hb (e.trans h)) (λv h=>hs v q (e.trans h)))))
 unfold evP;refine ah (λe1=> ?_) (λe1=>ah (λe2=> ?_) (λe2=>ah (λe3=> ?_) (λe3=>ah (λe4=> ?_) (λe4=>ah (λe5=> ?_) (λe5=>ah (λe6=> ?_) (λe6=>ah (λe7=> ?_) (λe7=>ah (λe8=> ?_) (λe8=> ?_))))))))
 ·exact hs _ _ (by unfold valF;rw[e1];rfl)
 ·have h:=hx.inp (int_eq.1 e2);rw[za7];exact aY h.1 (by omega) (hs _ _ (by unfold valF;rw[e1,e2];rfl))
 ·exact two (by rw[int_eq.1 e3];decide) (by rw[int_eq.1 e3];decide) (by unfold valF;rw[e1,e2,e3];rfl)
 ·exact two (by rw[int_eq.1 e4];decide) (by rw[int_eq.1 e4];decide) (by unfold valF;rw[e1,e2,e3,e4];rfl)
 ·exact two (by rw[int_eq.1 e5];decide) (by rw[int_eq.1 e5];decide) (by unfold valF;rw[e1,e2,e3,e4,e5];rfl)
 ·exact two (by rw[int_eq.1 e6];decide) (by rw[int_eq.1 e6];decide) (by unfold valF;rw[e1,e2,e3,e4,e5,e6];rfl)
 ·have hp:=hx.pow (int_eq.1 e7);have hl:=hx.left (by rw[int_eq.1 e7];decide)
  have e:valF ins vs x=(match kC (mb VI vs x.l.toNat) (jH x.n).toNat with
   |some v=>bif decide (x.n<0) then okR (cA rI v) else some v
   |none=>none):=by unfold valF;rw[e1,e2,e3,e4,e5,e6,e7];rfl
  have hm:0<=jH x.n/\jH x.n<=4:=by unfold jH;split<;>omega
  unfold P8;rw[za7];refine ac (VP.2 (by omega)) ⟨(0,rI),⟨zat _,hm.1,hm.2,rfl⟩,YZ, ?_⟩;rintro⟨k,v⟩ ⟨k0,k1,_,k2⟩;dsimp only at k0 k1 k2 ⊢;have hvz:=CV k2;refine ah (λhk=> ?_) (λhk=> ?_)
  ·have hk:=zdv hk;refine aY hl.1 hl.2 (ac (by rw[hvz,rg hv];rfl) (xk (λh=>hb ?_) (λw h=> ?_)))
   ·have: ∀m,kC (mb VI vs x.l.toNat) (k.toNat+1+m)=none:=by
     intro m
     induction m with
     |zero=>simp only[zaY,kC,k2,h]
     |succ m ih=>rw[<-zbr,kC,ih]
    have:=this ((jH x.n).toNat - (k.toNat+1));rw[show k.toNat+1+((jH x.n).toNat - (k.toNat+1))=(jH x.n).toNat by omega] at this;rw[e,this]
   ·refine ac (VP.2 (by omega)) ⟨(k+1,w),⟨by show 0<=k+1;omega,by show k+1<=_;omega,hm.2, ?_⟩,by show (_:Nat)<_;omega,YZ⟩;show kC _ (k+1).toNat=some w;rw[show (k+1).toNat=k.toNat+1 by omega,kC,k2];exact h
  ·have hk:=zdw hk;rw[show k.toNat=(jH x.n).toNat by omega] at k2;rw[k2] at e;refine ah (λhneg=> ?_) (λhneg=> ?_)
   ·rw[hneg] at e;exact ac (by rw[hvz];decide) (xk (λh=>hb (e.trans h)) (λw h=>hs w _ (e.trans h)))
   ·rw[hneg] at e;exact hs _ _ e
 ·have hl:=hx.left (by rw[int_eq.1 e8];decide);exact aY hl.1 hl.2 (hb (by unfold valF;rw[e1,e2,e3,e4,e5,e6,e7,e8];rfl))
 ·exact hs _ _ (by unfold valF;rw[e1,e2,e3,e4,e5,e6,e7,e8];rfl)
theorem LR (hx:szN x=true) (hi: ∀u∈ins,uzR u=true) (hv: ∀u∈vs,uzR u=true) (h:valF ins vs x=some v):uzR v=true:=by
 unfold szN at hx;rw[za2] at hx;unfold valF at h;have ok: ∀{r:RS×Int},uzR r.1=true->okR r=some v->uzR v=true:=λh1 h2=>by rw[<-(fq h2).2];exact h1
 cases h1:x.op==1 with
 |true=>rw[h1] at h;simp at h;subst h;exact hx.1
 |false=>
  rw[h1,zdr] at h;cases h2:x.op==2 with
  |true=>rw[h2] at h;simp at h;subst h;exact rg hi _
  |false=>
   rw[h2,zdr] at h;cases h3:x.op==3 with
   |true=>rw[h3,zds] at h;exact ok (Lq _ _) h
   |false=>
    rw[h3,zdr] at h;cases h4:x.op==4 with
    |true=>rw[h4,zds] at h;exact ok (Lr _ _) h
    |false=>
     rw[h4,zdr] at h;cases h5:x.op==5 with
     |true=>rw[h5,zds] at h;exact ok (gI _ _) h
     |false=>
      rw[h5,zdr] at h;cases h6:x.op==6 with
      |true=>rw[h6,zds] at h;exact ok (lY _ _) h
      |false=>
       rw[h6,zdr] at h;cases h7:x.op==7 with
       |true=>
        rw[h7,zds] at h;split at h
        ·rename_i w hw;cases hn:decide (x.n<0) with
         |true=>rw[hn,zds] at h;exact ok (lY _ _) h
         |false=>rw[hn,zdr] at h;simp at h;subst h;exact CV hw
        ·cases h
       |false=>
        rw[h7,zdr] at h;cases h8:x.op==8 with
        |true=>rw[h8] at h;cases h
        |false=>rw[h8] at h;simp at h;subst h;decide
def evI (ins:List RS) (nod:ze1) (z:EX):Prop:=0<=z.1/\z.1<=nod.length/\z.2.length=z.1.toNat/\(∀u∈z.2,uzR u=true)/\iC ins nod []=iC ins (nod.drop z.1.toNat) z.2
theorem IK (hsz:aci p=true) (h6:p.inp.length<=1000000) (h7:p.nod.length<=1000000) (hi: ∀u∈ins,uzR u=true) (h8:ins.length<=1000000)
 (hQ:Q (.tup [.agg (gA (bn p ins).1), .val (.int .i64 (bn p ins).2)])):evT (evI ins p.nod) p.nod.length OI p ins Q:=by
 have hsz':=hsz;unfold aci at hsz';simp only[za2,zaf] at hsz';obtain⟨⟨si,sn⟩,so⟩:=hsz';have gl:eR.list ins.length (eR.get ins)=ins:=El.list_get;have bad:bn p ins=(VI,90)->Q LN:=λh=>by rw[h] at hQ;exact hQ
 unfold evT;refine ac (eY hsz h6 h7) λ_ _=> ?_;rw[fN];refine ah (λh=>bad ?_) (λh=>ac (by rw[El.good_get hi];simp[h8]) λ_ _=>ah (λk=>bad ?_) (λk=> ?_))
 ·unfold bn;cases hv:VM p with
  |false=>rfl
  |true=>
   rw[hv] at h;have:(ins.length !=p.inp.length)=true:=by simp at h ⊢;omega
   rw[this];rfl
 ·rw[gl] at k;unfold bn;rw[k,Bool.or_true];rfl
 ·rw[gl] at k;cases hv:VM p with
  |false=>rw[hv] at h;cases h
  |true=>
  rw[hv] at h;have hl:ins.length=p.inp.length:=by simp at h;omega
  obtain⟨hbeg,hnod⟩:=bQ hv;have hc:bn p ins=match iC ins p.nod [] with
   |some vs=>(CU vs,0)
   |none=>(VI,90):=by unfold bn;rw[hv,k,hl];simp
  have hb:=Wb.1 hbeg;refine⟨(0, []),⟨zat _,by show (0:Int)<=_;omega,rfl,λu h=>(by cases h),rfl⟩,⟨⟨rfl,rfl,rfl,rfl,rfl,rfl,rfl,rfl,rfl,trivial⟩,trivial,trivial,rfl,trivial⟩, ?_⟩;rintro⟨i,vs⟩ ⟨k0,k1,k2,k3,k4⟩;simp only at k0 k1 k2 k3 k4;dsimp only;refine ah (λhz=> ?_) (λhz=> ?_)
  ·have hz:i<(p.nod.length:Int):=zdv hz;rw[za7];have hd:=atR (d:=noN) k0 hz;have hx:=hnod i.toNat (by omega);have hxs:=sn _ (gF (d:=noN) (l:=p.nod) (e:=i.toNat) (by omega));rw[<-k2] at hx;rw[hd,iC] at k4;rw[k2] at hx;refine aY k0 hz (OJ (by rw[<-k2] at hx;rwa[k2] at hx ⊢) hl k3 (λhn=>bad ?_) (λv q hu=> ?_))
   ·rw[hn] at k4;replace k4:iC ins p.nod []=none:=k4;rw[hc,k4]
   ·rw[hu] at k4;replace k4:iC ins p.nod []=iC ins (p.nod.drop (i+1).toNat) (vs++ [v]):=k4;refine LQ (by omega) (ac (VP.2 (by omega)) ⟨(i+1,vs++ [v]),⟨by show 0<=i+1;omega,by show i+1<=_;omega,by simp only[za3,za6];omega, ?_,k4⟩,by show (_:Nat)<_;omega,OH⟩);exact atS k3 (LR hxs hi k3 hu)
  ·have hz: ¬i<(p.nod.length:Int):=zdw hz;rw[show i.toNat=p.nod.length by omega,zbj,iC] at k4;rw[k4] at hc;replace hc:bn p ins=(CU vs,0):=hc;rw[hc] at hQ;refine ac (VP.2 (by omega)) (aY (by omega) (by omega) ?_);rw[show (0+((vs.length:Int) - 1).toNat)=vs.length - 1 by omega];exact hQ
def zm:MCtr:=λbl nx args=>match args with
 | [s,t]=>match mC bl s,vW bl 2 t with
   |some a,some (b,o,n,c)=>some {X:=Unit,pre:=a.need&&b&&bW n&&eR.good uzR n c,spec:=λ_=>True,out:=λ_=> .tup [.agg (gA (bn a.p (eR.list n c)).1), .val (.int .i64 (bn a.p (eR.list n c)).2)],ex:=λ_=>⟨(),trivial⟩}
   |_,_=>none
 |_=>none
theorem tP: ∀B:Base,GlobB B->VU prog B 18 zm:=eW OF λbl nx args C hk hp=>by
 unfold zm at hk;split at hk
 ·rename_i s t;split at hk
  ·rename_i a b o n c ha hs;simp only[za1] at hk;subst hk;simp only[za2] at hp;obtain⟨⟨⟨hp,rfl⟩,hn⟩,hgood⟩:=hp;obtain⟨s1,s2,s3,s4,s5,s6⟩:=eX (f:=rnF [a.o1,a.o2,o] [] nx) ha hp rfl rfl;obtain⟨t1,t2⟩:=cq (f:=rnF [a.o1,a.o2,o] [] nx) hs hgood;refine⟨[a.o1,a.o2,o], [eU.old a.p.inp,eN.old a.p.nod,eR.old (eR.list n c)], [kB a.p, .slc 2 0 (eR.list n c).length],CT (evI (eR.list n c) a.p.nod) a.p.nod.length OI,6,aw s1 (aw s2 (aw t1 trivial)),bH (by simp[cN,El.old]),cd (by simp[El.old,BK.map]),ar s3 (ar (t2 2 rfl) rfl), ?_⟩;refine lz () trivial rfl (r:= .tup [.agg (gA (bn a.p (eR.list n c)).1), .val (.int .i64 (bn a.p (eR.list n c)).2)]) rfl rfl rfl rfl (by simp[cN,El.old]) rfl ?_;rw[P9];exact IK s4 s5 s6 (El.good_list hgood) (by rw[El.list_length];exact zak hn) rfl
  ·cases hk
 ·cases hk
def LY (n:Nat) (K:Prop):Prop:=af (decide (0<1)&&decide (0+1<=1)&&decide (n<=n)&&decide ((n+1)*256<=140737488355328)&&true) K
theorem xp (h:n<=1000000) (k:K):LY n K:=ac (by
 rw[zdq (zbS),zdq (show 0+1<=1 by omega),zdq (za0 n),zdq (show (n+1)*256<=140737488355328 by omega)];rfl) k
def gv (l:ze1) (v:Nd):zdO:=ald (eN.get l) (λe=>((svN v).drop (e*26)).take 26) l.length 0
variable {e:Nat}
theorem pO {us:ze1} {u:Nd} (he:e<us.length+1):gv us u e=eN.get (us++ [u]) e:=by
 unfold gv ald El.get El.nth;rw[aB];show _=svN (mb noN (us++ [u]) e);rw[aS];by_cases h:e<us.length
 ·rw[zdq h,zds,if_neg (by omega)];rfl
 ·obtain rfl:e=us.length:=by omega
  rw[zdt h,zdr,if_pos rfl,zaJ];rfl
def qv (A:AS) (t:Nat):zdO:=match A.tm t with
 | .v (.ptr i _ _)=>(match A.bl i with
   |some B=>B.get
   |none=>λ_=> [])
 | .v (.slc i _ _)=>(match A.bl i with
   |some B=>B.get
   |none=>λ_=> [])
 |_=>λ_=> []
def ndB (cs:zdL):Bool:=match cs with
 | [.val (.int .i64 _), .val (.string _), .val (.string _), .val (.int .i64 _), .val (.int .i64 _), .val (.int .i64 _), .val (.int .i64 _), .val (.int .i64 _), .val (.int .i64 _), .val (.int .i64 _), .val (.int .i64 _), .val (.int .i64 _), .val (.int .i64 _), .val (.int .i64 _), .val (.int .i64 _), .val (.int .i64 _), .val (.int .i64 _), .val (.string _), .val (.string _), .val (.string _), .val (.string _), .val (.int .i64 _), .val (.int .i64 _), .val (.int .i64 _), .val (.int .i64 _), .val (.int .i64 _)]=>true
 |_=>false
theorem ua (h:ndB cs=true):cs=svN (Vh cs):=by
 unfold ndB at h;split at h
 ·rfl
 ·cases h
theorem yd {g n:Bool} (h:n=true):dC g n=true:=by rw[h];rfl
theorem dW {o:Int} (h:x.op=o):{x with op:=o}=x:=by cases x;simp only at h;rw[h]
def kp (n1 N1:Nat) (g1:zdO) (n2 N2:Nat) (g2:zdO) (u:Un):Bool:=(Nat.ble n1 N1&&Nat.beq 20 20&&true)&&(Nat.ble n2 N2&&Nat.beq 26 26&&true)&&bW n1&&bW n2&&eU.good szB n1 g1&&eN.good szN n2 g2&&szB u
def nIn (n:Int):Nd:=⟨2,VI,noU,n,0,0⟩
theorem uf {n1:Nat} {g1:zdO} {n2:Nat} {g2:zdO} (h1:n1<=1000000) (h2:n2<=1000000) (k1:eU.good szB n1 g1=true) (k2:eN.good szN n2 g2=true) (hu:szB u=true):kp n1 n1 g1 n2 n2 g2 u=true:=by
 unfold kp bW;rw[zae (za0 n1),zae (za0 n2),zae h1,zae h2,k1,k2,hu];rfl
theorem lB:(uzR VI&&szB noU)=true:=by decide
theorem QM (p q:Bool):(bif p then q else false)=(p&&q):=by cases p<;>rfl
theorem QN (p q:Bool):(bif p then true else q)=(p||q):=by cases p<;>rfl
def Jz (us:ze0) (u:Un):zdO:=ald (eU.get us) (λe=>((ci u).drop (e*20)).take 20) us.length 0
theorem Fp (he:e<us.length+1):Jz us u e=eU.get (us++ [u]) e:=by
 unfold Jz ald El.get El.nth;rw[aB];show _=ci (mb noU (us++ [u]) e);rw[aS];by_cases h:e<us.length
 ·rw[zdq h,zds,if_neg (by omega)];rfl
 ·obtain rfl:e=us.length:=by omega
  rw[zdt h,zdr,if_pos rfl,zaJ];rfl
theorem Fy {n:Int} (h: -9223372036854775808<=n/\n<=9223372036854775807) (k:K):af (inR .i64 n) K:=ac (VP.2 h) k
def v9:List FuncId:=
 9::
 zh
theorem zG: ∀f∈v9,V0 prog f:=by
 unfold v9;intro f hf;rcases zai.1 hf with rfl|hf
 ·exact call9
 exact xe f hf
abbrev ug (g:List (FuncId×Ctr)) (ann:zdW) (n:Nat) (f:FuncId) (args:zdL) (K:zdS):Prop:=wq prog (iR v9) (gw g) (gx []) ann n f args (λ_=>none) 0 [] (Go.Sy.okK λr _ _ _=>K r)
variable {F:FuncId}
theorem kh {g:List (FuncId×Ctr)} (h:GOk g) {W0:World} (hg:GlobU W0) (ha:SV.idss args= []) (hr:r.ids= []) (hrun:ug g ann n F args (λs=>s=r)):Go.Sy.Yields prog W0 F args r:=
 eo (λW hb=>mW (h.all W (hg.below hb)) (λ_ _ _ h=>by cases h) zG (by kernel_rfl)) ha hr hrun
theorem Fx (c n:Int) (K:zdS):ug xf noA 3 28 [cI.enc c,cI.enc n] K=vH c n K:=by kernel_rfl
theorem aeD (c n:Int) (K:zdS):ug xf noA 3 9 [cI.enc c,cI.enc n] K=vH c n K:=by kernel_rfl
abbrev Dg:Ctr:=k2 cI cI cI (λc n=>cl c&&decide (0<n)) co
theorem uh {W:World} (hW:GlobU W) (hvc: ∀(c n:Int) (K:zdS),ug xf noA 3 F [cI.enc c,cI.enc n] K=vH c n K):CtrOK prog W F Dg:=bC λc n h=>by
 rw[za2] at h;exact kh WH (ann:=noA) (n:=3) hW de (cI.ids _) (by rw[hvc];exact A6 (K:=λr=>r=_) h.1 (zdv h.2) rfl)
def ui:List (FuncId×Ctr):=
 (9,Dg)::
 (28,Dg)::
 xf
theorem xJ:GOk ui:=
 ((WH
   ).cons (λW hW=>uh hW Fx) call28)
   |>.cons (λW hW=>uh hW aeD) call9
def BL (n:Int):Un:=
 bif co n 7==0 then aT 0 else bif co n 7==1 then aT 2 else bif co n 7==2 then {aT 0 with f:=(⟨#[49]⟩,⟨#[49,48,48,48]⟩)} else
 bif co n 7==3 then(fd (aT 0) (aT 0)).1 else bif co n 7==4 then {aT 4 with s:=0,o:=(⟨#[53,52,54,51]⟩,⟨#[50,48]⟩)} else bif co n 7==5 then aT 4 else(mi (aT 0) (aT 0)).1
def BM (n:Int) (K:zdS):Prop:=
 af (cl n&&decide (0<(7:Int))) (ag (co n 7==0) (K (cU.enc (aT 0))) (ag (co n 7==1) (K (cU.enc (aT 2))) (ag (co n 7==2) (K (cU.enc {aT 0 with f:=(⟨#[49]⟩,⟨#[49,48,48,48]⟩)})) (
 ag (co n 7==3) (K (cU.enc (fd (aT 0) (aT 0)).1)) (ag (co n 7==4) (K (cU.enc {aT 4 with s:=0,o:=(⟨#[53,52,54,51]⟩,⟨#[50,48]⟩)})) (ag (co n 7==5) (K (cU.enc (aT 4))) (K (cU.enc (mi (aT 0) (aT 0)).1))))))))
theorem JF (n:Int) (K:zdS):ug ui noA 3 10 [cI.enc n] K=BM n K:=by kernel_rfl
theorem JG {n:Int} {K:zdS} (h:cl n=true) (k:K (cU.enc (BL n))):BM n K:=by
 unfold BL at k;unfold BM;rw[h];refine ac rfl (ah (λa=> ?_) (λa=>ah (λb=> ?_) (λb=>ah (λc=> ?_) (λc=>ah (λd=> ?_) (λd=>ah (λe=> ?_) (λe=>ah (λf=> ?_) (λf=> ?_)))))))
 ·rw[a] at k;exact k
 ·rw[a,b] at k;exact k
 ·rw[a,b,c] at k;exact k
 ·rw[a,b,c,d] at k;exact k
 ·rw[a,b,c,d,e] at k;exact k
 ·rw[a,b,c,d,e,f] at k;exact k
 ·rw[a,b,c,d,e,f] at k;exact k
def xK:List (FuncId×Ctr):=
 (10,k1 cI cU cl BL)::
 ui
theorem BN:GOk xK:=
 (((xJ
   )
   )
   |>.cons (λW hW=>dD λn h=>kh xJ (ann:=noA) (n:=3) hW m8 (cU.ids _) (by rw[JF];exact JG (K:=λr=>r=_) h rfl)) call10
   )
def BO:List (FuncId×Ctr):=
 xK
theorem JJ:GOk BO:=
 BN
def Dh:List (FuncId×Ctr):=
 BO
theorem WJ:GOk Dh:=
 JJ
@[irreducible] def JL (gm:zdY) (ann:zdW) (n:Nat) (f:FuncId) (args:zdL) (Cs:zdV) (K:Aft):Prop:=
 Ay prog (iR v9) (gw Dh) (gx gm) tL ann n f args (λi=>Cs[i]?) Cs.length [] K
theorem Q8 {f:FuncId} {K K':Aft} (h:JL gm ann n f args Cs K) (hm: ∀r b n w,K r b n w->K' r b n w):JL gm ann n f args Cs K':=by
 unfold JL at h ⊢;exact NiceT.mono (Ea _ _ _ _ _ _ f args _ _ _ (λi hi=>zad hi)) h λr b n w _=>hm r b n w
theorem Qy (hm:MOk gm) {B:Base} (hB:GlobB B):HypD prog B (iR v9) (gw Dh) (gx gm) tL:=
 have h:Hyp prog B (iR v9) (gw Dh) (gx gm):=mW (λp hp=>⟨CtrOK.base λw hw=>(WJ.all w (hB w hw) p hp).1,(WJ.all B.w (hB B.w (Pres.self B)) p hp).2⟩) (λB' s=>hm.all B' (hB.sub s)) zG (by kernel_rfl)
 ⟨h.gam,h.mem,(P2 hm hB).dem,h.ok,h.mixed⟩
theorem Sh (hm:MOk gm) {k:MCtr} (h: ∀(bl:zdN) (nx:Nat) (args:zdL) (C:RC),k bl nx args=some C->C.pre=true->
 ∃(src:zdU) (Cs:zdV) (args0:zdL) (ann:zdW) (n:Nat),yw bl (rnF src [] nx) src Cs/\Kr src Cs/\Far src Cs/\SV.rns (rnF src [] nx) args0=some args/\JL gm ann n F args0 Cs (KB C src Cs nx)):
 ∀B:Base,GlobB B->VU prog B F k:=λB hB=>c8 (λB' hs=>Qy hm (hB.sub hs)) λbl nx args C hk hp=>by
 have:=h bl nx args C hk hp;unfold JL at this;exact this
end Go.Proofs.YtfokhpciehfdnaaGreatDoor
namespace Yk
open Go Go.RowKit Go.Sy
def RQ (y:I4):zdL:= [.val (.int .i64 y.1), .val (.int .i64 y.2.1), .val (.int .i64 y.2.2.1), .val (.int .i64 y.2.2.2)]
def Ud:List SV->I4
 | [.val (.int .i64 a), .val (.int .i64 b), .val (.int .i64 c), .val (.int .i64 d)]=>(a,b,c,d)
 |_=>(0,0,0,0)
def e4:El I4:={sz:=4,sv:=RQ,of:=Ud,d:=(0,0,0,0),rt:=λ_=>rfl,ids:=λ_=>rfl,len:=λ_=>rfl,one:=by decide}
def uz4 (y:I4):Bool:=cl y.1&&cl y.2.1&&cl y.2.2.1&&cl y.2.2.2
structure Cas where
 a:Int×Int×Int
 k:Int
 x:List I4
 e:Bool
 v:(Int×Int)×(Int×Int)×(Int×Int)
def Cas.ok (c:Cas):Bool:=cl c.a.1&&cl c.a.2.1&&cl c.a.2.2&&cl c.k&&c.x.all uz4&&cl c.v.1.1&&cl c.v.1.2&&cl c.v.2.1.1&&cl c.v.2.1.2&&cl c.v.2.2.1&&cl c.v.2.2.2
end Yk
namespace Go.Proofs.YtfokhpciehfdnaaGreatDoor
open Go.Proofs.Tryz
open Go Go.RowKit Go.Sy Yk
def T9 (k:Int):Int:=F8 [2, -1,3, -2,1] (0+k.toNat)
def opF (y:I4):Int:=1+co y.1 8
def RR (ni n:Int) (y:I4):Nd:=
 bif opF y==1 then⟨opF y,(rMk (co y.2.1 13 - 6) (1+co y.2.2.1 4)).1,BL y.2.2.2,0,0,0⟩ else
 bif opF y==2 then⟨opF y,VI,noU,co y.2.1 ni,0,0⟩ else
 bif opF y==7 then⟨opF y,VI,noU,T9 (co y.2.2.1 5),co y.2.1 n,0⟩ else
 bif opF y==8 then⟨opF y,VI,noU,0,co y.2.1 n,0⟩ else⟨opF y,VI,noU,0,co y.2.1 n,co y.2.2.1 n⟩
def TH (ex:Bool) (inp:ze0) (y:I4) (z:List Nd×List Un):List Nd×List Un:=
 match mn inp z.2 (RR inp.length z.1.length y) with
 |some u=>bif !ex||opF y !=8 then(z.1++ [RR inp.length z.1.length y],z.2++ [u]) else z
 |none=>z
def RT (ex:Bool) (inp:ze0):List I4->List Nd×List Un->List Nd×List Un
 | [],z=>z
 |y::r,z=>bif decide (z.1.length<14) then RT ex inp r (TH ex inp y z) else z
def QQ (a:Int×Int×Int) (k:Nat):ze0:=Go.Sy.tab (λj=>BL (mb 0 [a.1,a.2.1,a.2.2] j)) k
def R9 (k:Nat):ze1:=Go.Sy.tab (λj=>nIn j) k
def Rb (a:Int×Int×Int) (count:Int) (xs:List I4) (ex:Bool):List Nd×List Un:=RT ex (QQ a ((co count 3).toNat+1)) xs (R9 ((co count 3).toNat+1),QQ a ((co count 3).toNat+1))
def Bd (a:Int×Int×Int) (count:Int) (xs:List I4) (ex:Bool):Pr:=
 ⟨1+co count 900,QQ a ((co count 3).toNat+1),(Rb a count xs ex).1,ly (Rb a count xs ex).2⟩
theorem Rv {inp:ze0} {x:Nd} {u:Un}: ∀{l:ze1} {us vs:ze0},iB inp l us=(vs,true)->mn inp vs x=some u->iB inp (l++ [x]) us=(vs++ [u],true)
 | [],us,vs,h,k=>by
   simp only[iB,zag,and_true] at h;subst h;simp only[zaM,iB,k]
 |y::r,us,vs,h,k=>by
  simp only[zaO,iB] at h ⊢;cases e:mn inp us y with
  |none=>rw[e] at h;simp only[zag] at h;cases h.2
  |some v=>rw[e] at h;exact Rv h k
structure MadOK (inp:List Un) (z:List Nd×List Un):Prop where
 len:z.2.length=z.1.length
 pos:1<=z.1.length
 le:z.1.length<=14
 un:iB inp z.1 []=(z.2,true)
 szn: ∀x∈z.1,szN x=true
 szu: ∀u∈z.2,szB u=true
theorem RK (p:Un->Bool) (h: [aT 0,aT 2,{aT 0 with f:=(⟨#[49]⟩,⟨#[49,48,48,48]⟩)},(fd (aT 0) (aT 0)).1,{aT 4 with s:=0,o:=(⟨#[53,52,54,51]⟩,⟨#[50,48]⟩)},aT 4,(mi (aT 0) (aT 0)).1].all p=true) (n:Int):p (BL n)=true:=by
 have B: ∀(b:Bool) (x y:Un),p x=true->p y=true->p (cond b x y)=true:=λb x y h k=>by cases b;exact k;exact h
 simp only[List.all_cons,List.all_nil,zaQ,za2] at h;unfold BL;exact B _ _ _ h.1 (B _ _ _ h.2.1 (B _ _ _ h.2.2.1 (B _ _ _ h.2.2.2.1 (B _ _ _ h.2.2.2.2.1 (B _ _ _ h.2.2.2.2.2.1 h.2.2.2.2.2.2)))))
theorem QY (n:Int):szB (BL n)=true:=RK szB (by kernel_rfl) n
theorem Sr (ni n:Int) (y:I4):szN (RR ni n y)=true:=by
 have B: ∀(b:Bool) (x y:Nd),szN x=true->szN y=true->szN (cond b x y)=true:=λb x y h k=>by cases b;exact k;exact h
 unfold RR;refine B _ _ _ ?_ (B _ _ _ lB (B _ _ _ lB (B _ _ _ lB lB)));show (uzR (rMk _ _).1&&szB (BL _))=true;rw[alg,QY];rfl
theorem MadOK.step {ex:Bool} {inp:ze0} {y:I4} {z:List Nd×List Un} (hi: ∀u∈inp,szB u=true) (h:MadOK inp z) (hl:z.1.length<14):MadOK inp (TH ex inp y z):=by
 unfold TH;split
 ·rename_i u hu;cases !ex||opF y !=8 with
  |false=>exact h
  |true=>
   have hx:=Sr inp.length z.1.length y;refine⟨by simp[h.len],by simp,by simp;omega,Rv h.un hu,λx hx'=> ?_,λv hv=> ?_⟩
   ·rcases za8.1 hx' with a|a
    ·exact h.szn x a
    ·rw[zaj.1 a];exact hx
   ·rcases za8.1 hv with a|a
    ·exact h.szu v a
    ·rw[zaj.1 a];exact CR hx hi h.szu hu
 ·exact h
theorem MadOK.all {ex:Bool} {inp:ze0} (hi: ∀u∈inp,szB u=true): ∀{xs:List I4} {z:List Nd×List Un},MadOK inp z->MadOK inp (RT ex inp xs z)
 | [],z,h=>h
 |y::r,z,h=>by
  unfold RT;cases hl:decide (z.1.length<14) with
  |false=>exact h
  |true=>exact MadOK.all hi (h.step hi (zdv hl))
theorem QT {a:Int×Int×Int} {p:Un->Bool} (hp: ∀n,p (BL n)=true): ∀{k:Nat},∀u∈QQ a k,p u=true
 |0,u,h=>by cases h
 |k+1,u,h=>by
  rcases za8.1 h with h|h
  ·exact QT hp u h
  ·rw[zaj.1 h];exact hp _
variable {k:Nat}
theorem QR {a:Int×Int×Int} :(QQ a k).length=k:=fJ _ _
theorem QZ:(R9 k).length=k:=fJ _ _
theorem Si {a:Int×Int×Int} {K:Nat}: ∀{k:Nat},k<=K->iB (QQ a K) (R9 k) []=(QQ a k,true)
 |0,_=>rfl
 |k+1,h=>Rv (Si (Nat.le_of_succ_le h)) (by
  have e:mb noU (QQ a K) k=BL (mb 0 [a.1,a.2.1,a.2.2] k):=bR (qX _ (by omega));have f:VT (QQ a k).length (nIn k)=true:=rfl;have u:fL (QQ a K) (QQ a k) (nIn k)=(BL (mb 0 [a.1,a.2.1,a.2.2] k),0):=by
   show (bif decide (0<=((k:Nat):Int))&&decide (((k:Nat):Int)<((QQ a K).length:Int)) then(mb noU (QQ a K) ((k:Nat):Int).toNat,0) else(noU,90))=_;rw[QR,zdq (by omega),zdq (by omega),zd3,e];rfl
  show mn (QQ a K) (QQ a k) (nIn k)=some (BL (mb 0 [a.1,a.2.1,a.2.2] k));unfold mn
  rw[f,u];rfl)
theorem RU: ∀{k:Nat},∀x∈R9 k,szN x=true
 |0,x,h=>by cases h
 |k+1,x,h=>by
  rcases za8.1 h with h|h
  ·exact RU x h
  ·rw[zaj.1 h];exact lB
section
variable {a:Int×Int×Int} {count:Int} {xs:List I4} {ex:Bool}
theorem Rc:1<=(co count 3).toNat+1/\(co count 3).toNat+1<=3:=by
 have:=gR count (n:=3) (by decide);omega
theorem Sj:MadOK (QQ a ((co count 3).toNat+1)) (Rb a count xs ex):=by
 have:=Rc (count:=count);exact MadOK.all (QT QY) ⟨by rw[QR,QZ],by rw[QZ];exact this.1,by rw[QZ];omega,Si (za0 _),RU,QT QY⟩
theorem SO {us:ze0} (h: ∀u∈us,szB u=true):szB (ly us)=true:=eH h _
theorem Tn:aci (Bd a count xs ex)=true:=by
 have h:=Sj (a:=a) (count:=count) (xs:=xs) (ex:=ex);unfold aci;rw[show (Bd a count xs ex).inp.all szB=true from zaf.2 (QT QY),show (Bd a count xs ex).nod.all szN=true from zaf.2 h.szn,show szB (Bd a count xs ex).out=true from SO h.szu];rfl
theorem Sb:1<=(Bd a count xs ex).inp.length/\(Bd a count xs ex).inp.length<=3/\1<=(Bd a count xs ex).nod.length/\(Bd a count xs ex).nod.length<=14:=by
 have h:=Sj (a:=a) (count:=count) (xs:=xs) (ex:=ex);have n:=Rc (count:=count);refine⟨?_, ?_,h.pos,h.le⟩
 ·show 1<=(QQ a _).length;rw[QR];omega
 ·show (QQ a _).length<=3;rw[QR];omega
end
def tyF (inp us:ze0) (x:Nd):Un×Int:=match mn inp us x with
 |some u=>(u,0)
 |none=>(noU,90)
def tyB (p:Pr) (us:ze0):zdV:= [eU.old p.inp,eN.old p.nod,eU.old us]
def tyA (p:Pr) (us:ze0) (x:Nd) (at_:Int):zdL:= [kB p, .agg (svN x),cI.enc at_, .slc 2 0 us.length]
abbrev Re (op:Int) (p:Pr) (us:ze0) (x:Nd) (at_:Int) (Q:zdS):Prop:=JL [] (λ_ _=>none) 6 37 (tyA p us {x with op:=op} at_) (tyB p us) (Go.Sy.okK λr _ _ _=>Q r)
def QS:SV:= .tup [.agg (ci noU), .val (.int .i64 90)]
def RA (u:Un):SV:= .tup [.agg (ci u), .val (.int .i64 0)]
def Ss (r:Un×Int) (Q:zdS):Prop:=ag (r.2 !=0) (Q QS) (Q (RA r.1))
def wiB (n lo hi:Int):Bool:=bif decide (n≥lo) then decide (n<=hi) else false
def TM (x:Nd) (Q:zdS):Prop:=af (uzR x.v) (af (aH x.u) (ag (!(bif (bif eqN {x with op:=1} {noN with op:=1,v:=x.v,u:=x.u} then rV x.v else false) then iy x.u else false)) (Q QS) (Q (RA x.u))))
def TN (p:Pr) (x:Nd) (Q:zdS):Prop:=af (dC (eqN {x with op:=2} {noN with op:=2,n:=x.n}) (inR .i64 ((p.inp.length:Int) - 1))) (ag (eqN {x with op:=2} {noN with op:=2,n:=x.n})
 (ag (!wiB x.n 0 ((p.inp.length:Int) - 1)) (Q QS) (eO p.inp.length x.n (Q (RA (mb noU p.inp (0+x.n.toNat)))))) (Q QS))
def SG (op:Int) (f:Un->Un->Un×Int) (us:ze0) (x:Nd) (a:Int) (Q:zdS):Prop:=
 af (dC (eqN {x with op:=op} {noN with op:=op,l:=x.l,r:=x.r}) (inR .i64 (a - 1))) (ag (eqN {x with op:=op} {noN with op:=op,l:=x.l,r:=x.r})
  (af (dC (wiB x.l 0 (a - 1)) (inR .i64 (a - 1))) (ag (wiB x.l 0 (a - 1)) (ag (!wiB x.r 0 (a - 1)) (Q QS) (pL us x λu v=>Ss (f u v) Q)) (Q QS)))
  (af (dC false (inR .i64 (a - 1))) (Q QS)))
def TO (us:ze0) (x:Nd) (a:Int) (Q:zdS):Prop:=
 af (dC (eqN {x with op:=7} {noN with op:=7,n:=x.n,l:=x.l}) (inR .i64 (a - 1))) (ag (eqN {x with op:=7} {noN with op:=7,n:=x.n,l:=x.l})
  (ag (wiB x.l 0 (a - 1)) (ag (!(bif wiB x.n (-4) 4 then x.n !=0 else false)) (Q QS) (eO us.length x.l (eO us.length x.r (af (aH (mb noU us (0+x.l.toNat))) (Ss (jm (mb noU us (0+x.l.toNat)) (x.n,1)) Q))))) (Q QS)) (Q QS))
def TP (us:ze0) (x:Nd) (a:Int) (Q:zdS):Prop:=
 af (dC (eqN {x with op:=8} {noN with op:=8,l:=x.l}) (inR .i64 (a - 1))) (ag (eqN {x with op:=8} {noN with op:=8,l:=x.l})
  (ag (!wiB x.l 0 (a - 1)) (Q QS) (eO us.length x.l (eO us.length x.r (af (aH (mb noU us (0+x.l.toNat))) (Ss (jm (mb noU us (0+x.l.toNat)) (1,2)) Q))))) (Q QS))
theorem TQ (p:Pr) (us:ze0) (x:Nd) (a:Int) (Q:zdS):Re 1 p us x a Q=TM x Q:=by kernel_rfl
theorem TR (p:Pr) (us:ze0) (x:Nd) (a:Int) (Q:zdS):Re 2 p us x a Q=TN p x Q:=by kernel_rfl
theorem TS (p:Pr) (us:ze0) (x:Nd) (a:Int) (Q:zdS):Re 3 p us x a Q=SG 3 iS us x a Q:=by kernel_rfl
theorem TT (p:Pr) (us:ze0) (x:Nd) (a:Int) (Q:zdS):Re 4 p us x a Q=SG 4 fw us x a Q:=by kernel_rfl
theorem TU (p:Pr) (us:ze0) (x:Nd) (a:Int) (Q:zdS):Re 5 p us x a Q=SG 5 mi us x a Q:=by kernel_rfl
theorem TW (p:Pr) (us:ze0) (x:Nd) (a:Int) (Q:zdS):Re 6 p us x a Q=SG 6 fd us x a Q:=by kernel_rfl
theorem TX (p:Pr) (us:ze0) (x:Nd) (a:Int) (Q:zdS):Re 7 p us x a Q=TO us x a Q:=by kernel_rfl
theorem TY (p:Pr) (us:ze0) (x:Nd) (a:Int) (Q:zdS):Re 8 p us x a Q=TP us x a Q:=by kernel_rfl
def SZ:MCtr:=λbl _ args=>match args with
 | [s, .agg cs, .val (.int .i64 at_),t]=>match mC bl s,vW bl 20 t with
   |some a,some (b,_,n,g)=>some {X:=Unit,pre:=a.need&&b&&bW n&&eU.good szB n g&&ndB cs&&szN (Vh cs)&&decide (at_=(n:Int))&&decide (1<=(Vh cs).op)&&decide ((Vh cs).op<=8),spec:=λ_=>True,out:=λ_=> .tup [.agg (ci (tyF a.p.inp (eU.list n g) (Vh cs)).1), .val (.int .i64 (tyF a.p.inp (eU.list n g) (Vh cs)).2)],ex:=λ_=>⟨(),trivial⟩}
   |_,_=>none
 |_=>none
theorem Wn {x y:Nd}:eqN x y=true↔x=y:=by
 obtain⟨a1,a2,a3,a4,a5,a6⟩:=x;obtain⟨b1,b2,b3,b4,b5,b6⟩:=y;simp only[eqN,za2,zdz,Wg,Wh,Nd.mk.injEq,and_true]
theorem Rf {a b c d:Nd} (h:a=b↔c=d):eqN a b=eqN c d:=by
 rw[zax,Wn,Wn];exact h
theorem Q4 {n:Nat} {i:Int}:wiB i 0 ((n:Int) - 1)=Go.Proofs.YtfokhpciehfdnaaGreatDoor.earF n i:=by
 rw[zax,V2];unfold wiB;by_cases h:i≥0
 ·rw[zdq h,zds,zdu];omega
 ·rw[zdt h,zdr];simp;omega
theorem Q5 {a b:Bool} {K:Prop} (h:b=true) (k:K):af (dC a b) K:=ac (yd h) k
section
variable {inp us:ze0} {x:Nd} {Q:zdS}
theorem tyQ (h:Q (.tup [.agg (ci (tyF inp us x).1), .val (.int .i64 (tyF inp us x).2)])):(mn inp us x=none->Q QS)/\(∀u,mn inp us x=some u->Q (RA u)):=by
 unfold tyF at h;exact⟨λe=>by rw[e] at h;exact h,λu e=>by rw[e] at h;exact h⟩
theorem QW (h:VT us.length x=false):mn inp us x=none:=by unfold mn;rw[h];rfl
theorem Q6 (h:VT us.length x=true):mn inp us x=bif (fL inp us x).2==0 then some (fL inp us x).1 else none:=by unfold mn;rw[h];rfl
theorem Rx {r:Un×Int} (hf:VT us.length x=true) (hu:fL inp us x=r) (hb:mn inp us x=none->Q QS) (ho: ∀u,mn inp us x=some u->Q (RA u)):Ss r Q:=by
 have t:=Q6 (inp:=inp) hf;rw[hu] at t;refine ah (λh=>hb ?_) (λh=>ho _ ?_)
 ·rw[t,show (r.2==0)=false by simpa using h];rfl
 ·rw[t,show (r.2==0)=true by simpa using h];rfl
theorem TZ (o:x.op=1) (hx:szN x=true) (hb:mn inp us x=none->Q QS) (ho: ∀u,mn inp us x=some u->Q (RA u)):TM x Q:=by
 unfold szN at hx;rw[za2] at hx;have hform:VT us.length x=eqN {x with op:=1} {noN with op:=1,v:=x.v,u:=x.u}:=by
  unfold VT;rw[o];exact Rf (by obtain⟨a1,a2,a3,a4,a5,a6⟩:=x;simp[noN])
 have huni:fL inp us x=bif rV x.v&&VK x.u then(x.u,0) else(noU,90):=by unfold fL;rw[o];rfl
 unfold TM;rw[<-hform,jE];refine ac hx.1 (ac hx.2 (ah (λh=>hb ?_) (λh=>ho _ ?_)))
 ·cases f:VT us.length x with
  |false=>exact QW f
  |true=>
   rw[Q6 f,huni];rw[f] at h;cases a:rV x.v with
   |false=>rfl
   |true=>cases b:VK x.u with
    |false=>rfl
    |true=>rw[a,b] at h;cases h
 ·cases f:VT us.length x with
  |false=>rw[f] at h;cases h
  |true=>
   rw[Q6 f,huni];rw[f] at h;cases a:rV x.v with
   |false=>rw[a] at h;cases h
   |true=>cases b:VK x.u with
    |false=>rw[a,b] at h;cases h
    |true=>rfl
theorem T0 {p:Pr} (hp:p.inp=inp) (hl:inp.length<=1000000) (o:x.op=2) (hb:mn inp us x=none->Q QS) (ho: ∀u,mn inp us x=some u->Q (RA u)):TN p x Q:=by
 subst hp;have hform:VT us.length x=eqN {x with op:=2} {noN with op:=2,n:=x.n}:=by
  unfold VT;rw[o];show eqN ⟨0,x.v,x.u,0,x.l,x.r⟩ noN=_;exact Rf (by obtain⟨a1,a2,a3,a4,a5,a6⟩:=x;simp[noN])
 have huni:fL p.inp us x=bif decide (0<=x.n)&&decide (x.n<(p.inp.length:Int)) then(mb noU p.inp x.n.toNat,0) else(noU,90):=by unfold fL;rw[o];rfl
 unfold TN;rw[<-hform];refine Q5 (VP.2 (by omega)) (ah (λf=>ah (λh=>hb ?_) (λh=> ?_)) (λf=>hb (QW f)))
 ·rw[Q6 f,huni];rw[Q4] at h;have:earF p.inp.length x.n=false:=by simpa using h
  rw[show (decide (0<=x.n)&&decide (x.n<(p.inp.length:Int)))=false from this];rfl
 ·rw[Q4] at h;have h':earF p.inp.length x.n=true:=by simpa using h
  have e:=V2.1 h';refine aY e.1 e.2 (ho _ ?_);rw[Q6 f,huni,show (decide (0<=x.n)&&decide (x.n<(p.inp.length:Int)))=true from h',za7];rfl
variable {a:Int}
theorem RV {op:Int} {f:Un->Un->Un×Int} (o:x.op=op) (hop:3<=op/\op<=6) (ha:a=(us.length:Int)) (hl:us.length<=1000000) (hu: ∀u∈us,szB u=true) (huni:fL inp us x=f (mb noU us x.l.toNat) (mb noU us x.r.toNat)) (hb:mn inp us x=none->Q QS) (ho: ∀u,mn inp us x=some u->Q (RA u)):SG op f us x a Q:=by
 subst ha;have hform:VT us.length x=(eqN {x with op:=op} {noN with op:=op,l:=x.l,r:=x.r}&&earF us.length x.l&&earF us.length x.r):=by
  unfold VT;rw[zdx (show x.op≠1 by omega),zdx (show x.op≠2 by omega),zdq (show 3<=x.op by omega),zdq (show x.op<=6 by omega)];show (eqN ⟨0,x.v,x.u,x.n,0,0⟩ noN&&_&&_)=_;rw[Rf (a:=⟨0,x.v,x.u,x.n,0,0⟩) (b:=noN) (c:={x with op:=op}) (d:={noN with op:=op,l:=x.l,r:=x.r}) (by obtain⟨a1,a2,a3,a4,a5,a6⟩:=x;simp[noN])]
 unfold SG;rw[Q4,Q4];generalize eqN {x with op:=op} {noN with op:=op,l:=x.l,r:=x.r}=e at hform;have r:inR .i64 ((us.length:Int) - 1)=true:=VP.2 (by omega);refine Q5 r (ah (λh1=>Q5 r (ah (λh2=>ah (λh3=>hb (QW ?_)) (λh3=> ?_)) (λh2=>hb (QW ?_)))) (λh1=>Q5 r (hb (QW ?_))))
 ·rw[hform,show earF us.length x.r=false by simpa using h3,Bool.and_false]
 ·have h3:earF us.length x.r=true:=by simpa using h3
  have e2:=V2.1 h2;have e3:=V2.1 h3;unfold pL;rw[za7,za7];exact aY e2.1 e2.2 (aY e3.1 e3.2 (ac (by rw[eH hu,eH hu];rfl) (Rx (by rw[hform,h1,h2,h3];rfl) huni hb ho)))
 ·rw[hform,h2,Bool.and_false];rfl
 ·rw[hform,h1];rfl
theorem T3 (o:x.op=7) (ha:a=(us.length:Int)) (hl:us.length<=1000000) (hu: ∀u∈us,szB u=true) (hb:mn inp us x=none->Q QS) (ho: ∀u,mn inp us x=some u->Q (RA u)):TO us x a Q:=by
 subst ha;have hform:VT us.length x=(eqN {x with op:=7} {noN with op:=7,n:=x.n,l:=x.l}&&earF us.length x.l):=by
  unfold VT;rw[o];show (eqN ⟨0,x.v,x.u,0,0,x.r⟩ noN&&_)=_;rw[Rf (c:={x with op:=7}) (d:={noN with op:=7,n:=x.n,l:=x.l}) (by obtain⟨a1,a2,a3,a4,a5,a6⟩:=x;simp[noN])]
 have huni:fL inp us x=(bif x.n==0||decide (x.n< -4)||decide (x.n>4) then(noU,90) else jm (mb noU us x.l.toNat) (x.n,1)):=by unfold fL;rw[o];rfl
 unfold TO;rw[Q4];have hr:eqN {x with op:=7} {noN with op:=7,n:=x.n,l:=x.l}=true->x.r=0:=λh=>by
  have:=Wn.1 h;exact congrArg Nd.r this
 generalize eqN {x with op:=7} {noN with op:=7,n:=x.n,l:=x.l}=e at hform hr;refine Q5 (VP.2 (by omega)) (ah (λh1=>ah (λh2=>ah (λh3=>hb ?_) (λh3=> ?_)) (λh2=>hb (QW ?_))) (λh1=>hb (QW ?_)))
 ·rw[Q6 (by rw[hform,h1,h2];rfl),huni];have:(x.n==0||decide (x.n< -4)||decide (x.n>4))=true:=by
   simp only[zav,zdu,zdz];apply Classical.byContradiction;intro hc;have:wiB x.n (-4) 4=true:=by unfold wiB;rw[zdq (by omega),zds,zdq (by omega)]
   rw[this,zds,show (x.n !=0)=true by simp;omega] at h3;cases h3
  rw[this];rfl
 ·have e2:=V2.1 h2;have hr:=hr h1;have hn:x.n≠0/\ -4<=x.n/\x.n<=4:=by
   unfold wiB at h3;by_cases a:x.n≥ -4
   ·by_cases b:x.n<=4
    ·rw[zdq a,zds,zdq b,zds] at h3;simp at h3;omega
    ·rw[zdq a,zds,zdt b,zdr] at h3;cases h3
   ·rw[zdt a,zdr,zdr] at h3;cases h3
  rw[za7];refine aY e2.1 e2.2 (aY (by omega) (by omega) (ac (eH hu _) (Rx (by rw[hform,h1,h2];rfl) ?_ hb ho)));rw[huni,show (x.n==0||decide (x.n< -4)||decide (x.n>4))=false by simp;omega];rfl
 ·rw[hform,h2,Bool.and_false]
 ·rw[hform,h1];rfl
theorem T4 (o:x.op=8) (ha:a=(us.length:Int)) (hl:us.length<=1000000) (hu: ∀u∈us,szB u=true) (hb:mn inp us x=none->Q QS) (ho: ∀u,mn inp us x=some u->Q (RA u)):TP us x a Q:=by
 subst ha;have hform:VT us.length x=(eqN {x with op:=8} {noN with op:=8,l:=x.l}&&earF us.length x.l):=by
  unfold VT;rw[o];show (eqN ⟨0,x.v,x.u,x.n,0,x.r⟩ noN&&_)=_;rw[Rf (c:={x with op:=8}) (d:={noN with op:=8,l:=x.l}) (by obtain⟨a1,a2,a3,a4,a5,a6⟩:=x;simp[noN])]
 have huni:fL inp us x=jm (mb noU us x.l.toNat) (1,2):=by unfold fL;rw[o];rfl
 unfold TP;rw[Q4];have hr:eqN {x with op:=8} {noN with op:=8,l:=x.l}=true->x.r=0:=λh=>by
  have:=Wn.1 h;exact congrArg Nd.r this
 generalize eqN {x with op:=8} {noN with op:=8,l:=x.l}=e at hform hr;refine Q5 (VP.2 (by omega)) (ah (λh1=>ah (λh2=>hb (QW ?_)) (λh2=> ?_)) (λh1=>hb (QW ?_)))
 ·rw[hform,show earF us.length x.l=false by simpa using h2,Bool.and_false]
 ·have h2:earF us.length x.l=true:=by simpa using h2
  have e2:=V2.1 h2;have hr:=hr h1;rw[za7];exact aY e2.1 e2.2 (aY (by omega) (by omega) (ac (eH hu _) (Rx (by rw[hform,h1,h2];rfl) huni hb ho)))
 ·rw[hform,h1];rfl
end
variable {gm:zdY} {n:Nat}
theorem Ue {C:RC} {src:zdU} {Cs:zdV} {nx:Nat} {ann:zdW} {f:FuncId} {args:zdL} {r:SV} (x:C.X) (hx:C.spec x) (h1:C.pan x=none) (h2:r.ids= []) (h3:C.out x=r) (h4:C.nw x= []) (h5:C.ch x= []) (h6: ∀C∈Cs,cN C.kd=false) (hl:src.length=Cs.length)
 (h:JL gm ann n f args Cs (Go.Sy.okK λs _ _ _=>s=r)):JL gm ann n f args Cs (KB C src Cs nx):=Q8 h λq b m w hq=>by
 cases q with
 |pan v=>exact hq.elim
 |ok s=>
  obtain rfl:s=r:=hq;exact IG x hx h1 h2 h3 h4 h5 h6 hl
variable {p:Pr} {us:ze0} {x:Nd}
theorem T5 {Q:zdS} (hl:us.length<=1000000) (hi:p.inp.length<=1000000) (hu: ∀u∈us,szB u=true) (hx:szN x=true) (hop:1<=x.op/\x.op<=8) (hQ:Q (.tup [.agg (ci (tyF p.inp us x).1), .val (.int .i64 (tyF p.inp us x).2)])):
 JL [] (λ_ _=>none) 6 37 (tyA p us x us.length) (tyB p us) (Go.Sy.okK λr _ _ _=>Q r):=by
 obtain⟨hb,ho⟩:=tyQ hQ;have E: ∀{op:Int},x.op=op->Re op p us x us.length Q->JL [] (λ_ _=>none) 6 37 (tyA p us x us.length) (tyB p us) (Go.Sy.okK λr _ _ _=>Q r):=λ{op} h k=>by
  rw[<-dW h];exact k
 rcases(show x.op=1\/x.op=2\/x.op=3\/x.op=4\/x.op=5\/x.op=6\/x.op=7\/x.op=8 by omega) with o|o|o|o|o|o|o|o
 ·exact E o (by rw[TQ];exact TZ o hx hb ho)
 ·exact E o (by rw[TR];exact T0 rfl hi o hb ho)
 ·exact E o (by rw[TS];exact RV o (by decide) rfl hl hu (by unfold fL;rw[o];rfl) hb ho)
 ·exact E o (by rw[TT];exact RV o (by decide) rfl hl hu (by unfold fL;rw[o];rfl) hb ho)
 ·exact E o (by rw[TU];exact RV o (by decide) rfl hl hu (by unfold fL;rw[o];rfl) hb ho)
 ·exact E o (by rw[TW];exact RV o (by decide) rfl hl hu (by unfold fL;rw[o];rfl) hb ho)
 ·exact E o (by rw[TX];exact T3 o rfl hl hu hb ho)
 ·exact E o (by rw[TY];exact T4 o rfl hl hu hb ho)
theorem ZR: ∀B:Base,GlobB B->VU prog B 37 SZ:=Sh MOk.nil λbl nx args C hk hp=>by
 unfold SZ at hk;split at hk
 ·rename_i s cs at_ t;split at hk
  ·rename_i a b o n g ha ht;simp only[za1] at hk;subst hk;simp only[za2,zdu] at hp;obtain⟨⟨⟨⟨⟨⟨⟨⟨h0,rfl⟩,hn⟩,hg⟩,h1⟩,h2⟩,rfl⟩,h3⟩,h4⟩:=hp;obtain⟨x,rfl⟩: ∃x,cs=svN x:=⟨_,ua h1⟩;rw[fR] at h2 h3 h4;obtain⟨s1,s2,s3,s4,s5,s6⟩:=eX (f:=rnF [a.o1,a.o2,o] [] nx) ha h0 rfl rfl;obtain⟨t1,t2⟩:=cq (f:=rnF [a.o1,a.o2,o] [] nx) ht hg;have hlen:(eU.list n g).length=n:=El.list_length;have hle:(eU.list n g).length<=1000000:=by rw[hlen];exact zak hn
   have hold: ∀C∈tyB a.p (eU.list n g),cN C.kd=false/\C.kd.map=false:=by simp[tyB,cN,El.old,BK.map]
   refine⟨[a.o1,a.o2,o],tyB a.p (eU.list n g),tyA a.p (eU.list n g) x n,λ_ _=>none,6,aw s1 (aw s2 (aw t1 trivial)),bH (λC hC=>(hold C hC).1),cd (λC hC=>(hold C hC).2),ar s3 (ar (Xs (rns_free (arA x))) (ar rfl (ar (t2 2 rfl) rfl))), ?_⟩;refine Ue () trivial rfl (r:= .tup [.agg (ci (tyF a.p.inp (eU.list n g) x).1), .val (.int .i64 (tyF a.p.inp (eU.list n g) x).2)]) rfl rfl rfl rfl (λC hC=>(hold C hC).1) (by rfl) ?_;have:=T5 (p:=a.p) (us:=eU.list n g) (x:=x) (Q:=λr=>r= .tup [.agg (ci (tyF a.p.inp (eU.list n g) x).1), .val (.int .i64 (tyF a.p.inp (eU.list n g) x).2)]) hle s5 (El.good_list hg) h2 ⟨h3,h4⟩ rfl;rw[hlen] at this;exact this
  ·cases hk
 ·cases hk
def n8 (c:Bool) (K:Prop):Prop:=af c (Unit->True->K)
def shQ (Q:zdS) (b l:Bool):Prop:=Q (.tup [.val (.bool b), .val (.bool l)])
def as1 (x:Nd) (a:Int) (Q:zdS):Prop:=
 af (dC (eqN x {noN with op:=x.op,l:=x.l,r:=x.r}) (inR .i64 (a - 1))) (ag (eqN x {noN with op:=x.op,l:=x.l,r:=x.r})
  (af (dC (wiB x.l 0 (a - 1)) (inR .i64 (a - 1))) (ag (wiB x.l 0 (a - 1)) (shQ Q (wiB x.r 0 (a - 1)) true) (shQ Q false true)))
  (af (dC false (inR .i64 (a - 1))) (shQ Q false true)))
def shR (x:Nd) (a:Int) (Q:zdS):Prop:=
 ag (x.op==7) (af (dC (eqN x {noN with op:=x.op,n:=x.n,l:=x.l}) (inR .i64 (a - 1))) (ag (eqN x {noN with op:=x.op,n:=x.n,l:=x.l})
  (ag (wiB x.l 0 (a - 1)) (shQ Q (bif wiB x.n (-4) 4 then x.n !=0 else false) true) (shQ Q false true)) (shQ Q false true))) (
 ag (x.op==8) (af (dC (eqN x {noN with op:=x.op,l:=x.l}) (inR .i64 (a - 1))) (ag (eqN x {noN with op:=x.op,l:=x.l}) (shQ Q (wiB x.l 0 (a - 1)) true) (shQ Q false true))) (
 shQ Q false false))
def shB (x:Nd) (a:Int) (Q:zdS) (k:Int):Prop:=ag (x.op==k) (as1 x a Q) (shR x a Q)
def shT (p:Pr) (x:Nd) (a:Int) (Q:zdS):Prop:=
 ag (x.op==1) (af (uzR x.v) (af (aH x.u) (shQ Q (bif (bif eqN x {noN with op:=x.op,v:=x.v,u:=x.u} then rV x.v else false) then iy x.u else false) false))) (
 ag (x.op==2) (af (dC (eqN x {noN with op:=x.op,n:=x.n}) (inR .i64 ((p.inp.length:Int) - 1))) (ag (eqN x {noN with op:=x.op,n:=x.n}) (shQ Q (wiB x.n 0 ((p.inp.length:Int) - 1)) false) (shQ Q false false))) (
 ag (x.op==3) (shB x a Q 3) (ag (x.op==4) (shB x a Q 4) (ag (x.op==5) (shB x a Q 5) (shB x a Q 6)))))
theorem atC (p:Pr) (x:Nd) (a:Int) (Q:zdS):JL [] (λ_ _=>none) 6 99 [kB p, .agg (svN x),cI.enc a] [eU.old p.inp,eN.old p.nod] (Go.Sy.okK λr _ _ _=>Q r)=shT p x a Q:=by kernel_rfl
def ato:MCtr:=λbl _ args=>match args with
 | [s, .agg cs, .val (.int .i64 _)]=>match mC bl s with
   |some a=>some {X:=Unit,pre:=a.need&&ndB cs&&(decide ((Vh cs).op<1)||decide (8<(Vh cs).op)),spec:=λ_=>True,out:=λ_=> .tup [.val (.bool false), .val (.bool false)],ex:=λ_=>⟨(),trivial⟩}
   |none=>none
 |_=>none
theorem as2: ∀B:Base,GlobB B->VU prog B 99 ato:=Sh MOk.nil λbl nx args C hk hp=>by
 unfold ato at hk;split at hk
 ·rename_i s cs at_;split at hk
  ·rename_i a ha;simp only[za1] at hk;subst hk;simp only[za2,zav,zdu] at hp;obtain⟨⟨h0,h1⟩,h2⟩:=hp;obtain⟨x,rfl⟩: ∃x,cs=svN x:=⟨_,ua h1⟩;rw[fR] at h2;obtain⟨s1,s2,s3,s4,s5,s6⟩:=eX (f:=rnF [a.o1,a.o2] [] nx) ha h0 rfl rfl;refine⟨[a.o1,a.o2],iK a.p, [kB a.p, .agg (svN x),cI.enc at_],λ_ _=>none,6,aw s1 (aw s2 trivial),bH (cx _),cd (jG _),ar s3 (ar (Xs (rns_free (arA x))) (ar rfl rfl)), ?_⟩;refine Ue () trivial rfl (r:= .tup [.val (.bool false), .val (.bool false)]) rfl rfl rfl rfl (cx _) rfl ?_;unfold iK;rw[atC];have no: ∀{k:Int} {P Q:Prop},1<=k/\k<=8->Q->ag (x.op==k) P Q:=λ{k P Q} hk' q=>ah (λh=>by have:=int_eq.1 h;omega) λ_=>q;exact no (by decide) (no (by decide) (no (by decide) (no (by decide) (no (by decide) (no (by decide) (no (by decide) (no (by decide) rfl)))))))
  ·cases hk
 ·cases hk
def atX (o:Int->Bool):MCtr:=λbl _ args=>match args with
 | [s, .agg cs, .val (.int .i64 at_),t]=>match mC bl s,vW bl 20 t with
   |some a,some (b,_,n,g)=>some {X:=Unit,pre:=a.need&&b&&bW n&&eU.good szB n g&&ndB cs&&szN (Vh cs)&&decide (at_=(n:Int))&&o (Vh cs).op,spec:=λ_=>True,out:=λ_=> .tup [.agg (ci (tyF a.p.inp (eU.list n g) (Vh cs)).1), .val (.int .i64 (tyF a.p.inp (eU.list n g) (Vh cs)).2)],ex:=λ_=>⟨(),trivial⟩}
   |_,_=>none
 |_=>none
def asz:MCtr:=atX λ_=>true
def atD:zdY:= [(99,ato)]
theorem as3:MOk atD:=MOk.nil.cons as2
theorem atp (p:Pr) (us:ze0) (x:Nd) (a:Int) (Q:zdS):JL atD (λ_ _=>none) 6 37 (tyA p us x a) (tyB p us) (Go.Sy.okK λr _ _ _=>Q r)=
 n8 (jn p&&ndB (svN x)&&(decide ((Vh (svN x)).op<1)||decide (8<(Vh (svN x)).op))) (Q QS):=by kernel_rfl
theorem atq {inp:ze0} (h:x.op<1\/8<x.op):tyF inp us x=(noU,90):=by
 unfold tyF
 rw[QW (by
  unfold VT;rw[zdx (show x.op≠1 by omega),zdx (show x.op≠2 by omega),zdx (show x.op≠7 by omega),zdx (show x.op≠8 by omega)];rcases h with h|h
  ·rw[zdt (show ¬3<=x.op by omega)];rfl
  ·rw[zdt (show ¬x.op<=6 by omega),Bool.and_false];rfl)]
theorem asA: ∀B:Base,GlobB B->VU prog B 37 (atX λo=>decide (o<1)||decide (8<o)):=Sh as3 λbl nx args C hk hp=>by
 unfold atX at hk;split at hk
 ·rename_i s cs at_ t;split at hk
  ·rename_i a b o n g ha ht;simp only[za1] at hk;subst hk;simp only[za2,zav,zdu] at hp;obtain⟨⟨⟨⟨⟨⟨⟨h0,rfl⟩,hn⟩,hg⟩,h1⟩,h2⟩,rfl⟩,h3⟩:=hp;obtain⟨x,rfl⟩: ∃x,cs=svN x:=⟨_,ua h1⟩;rw[fR] at h2 h3;obtain⟨s1,s2,s3,s4,s5,s6⟩:=eX (f:=rnF [a.o1,a.o2,o] [] nx) ha h0 rfl rfl;obtain⟨t1,t2⟩:=cq (f:=rnF [a.o1,a.o2,o] [] nx) ht hg;have hold: ∀C∈tyB a.p (eU.list n g),cN C.kd=false/\C.kd.map=false:=by simp[tyB,cN,El.old,BK.map]
   refine⟨[a.o1,a.o2,o],tyB a.p (eU.list n g),tyA a.p (eU.list n g) x n,λ_ _=>none,6,aw s1 (aw s2 (aw t1 trivial)),bH (λC hC=>(hold C hC).1),cd (λC hC=>(hold C hC).2),ar s3 (ar (Xs (rns_free (arA x))) (ar rfl (ar (t2 2 rfl) rfl))), ?_⟩;refine Ue () trivial rfl (r:=QS) rfl (by show SV.tup _=_;rw[fR,atq h3];rfl) rfl rfl (λC hC=>(hold C hC).1) (by rfl) ?_;rw[atp];refine ac ?_ λ_ _=>rfl;rw[eY s4 s5 s6,show ndB (svN x)=true from rfl,fR];rcases h3 with h3|h3
   ·rw[zdq h3];rfl
   ·rw[zdq h3,Bool.or_true];rfl
  ·cases hk
 ·cases hk
theorem asB: ∀B:Base,GlobB B->VU prog B 37 asz:=λB hB bl β w nx args C h1 h2 h3 h4 hk hp=>by
 unfold asz atX at hk;split at hk
 ·rename_i s cs at_ t;split at hk
  ·rename_i a b o n g ha ht;simp only[za1] at hk;subst hk;replace hp:(a.need&&b&&bW n&&eU.good szB n g&&ndB cs&&szN (Vh cs)&&decide (at_=(n:Int))&&true)=true:=hp;rw[zaQ] at hp;by_cases ho:1<=(Vh cs).op/\(Vh cs).op<=8
   ·have k:=ZR B hB bl β w nx [s, .agg cs, .val (.int .i64 at_),t] _ h1 h2 h3 h4 (by unfold SZ;simp only[ha,ht];rfl) (by
     show (_&&_&&_)=true
     rw[hp,zdq ho.1,zdq ho.2];rfl)
    exact k
   ·have k:=asA B hB bl β w nx [s, .agg cs, .val (.int .i64 at_),t] _ h1 h2 h3 h4 (by unfold atX;simp only[ha,ht];rfl) (by
     show (_&&_)=true;rw[hp];rcases(show (Vh cs).op<1\/8<(Vh cs).op by omega) with h|h
     ·rw[zdq h];rfl
     ·rw[zdq h,Bool.or_true];rfl)
    exact k
  ·cases hk
 ·cases hk
def YM (I:Int->Prop) (N:Int):zdW:=λf k=>bif (Nat.beq f 38||Nat.beq f 39)&&Nat.beq k 4 then some (λA=>{X:=Int,inv:=I,tm:=λi=> [(13, .val (.int .i64 i))],mu:=λi=>(N - i).toNat,keep:= [0,1,12]}) else none
def aau (s t:SV) (n:Nat) (p z:Int):Prop:=(TV.v (cI.enc p)=TV.v (cI.enc z)/\tvE s/\tvE t/\tvE (cI.enc (n:Int))/\True)/\(True/\(True/\True))
def ixB (n:Nat) (z:Int) (K:Prop):Prop:=af (decide (0<=z)&&decide (z<(n:Int))&&decide (0+z.toNat<n)) (af (decide (0+z.toNat<n)) K)
theorem YD {s t:SV} {p:Int}:aau s t n p p:=⟨⟨rfl,rfl,rfl,rfl,trivial⟩,trivial,trivial,trivial⟩
variable {z:Int}
theorem ZS {K:Prop} (h0:0<=z) (h1:z<n) (k:K):ixB n z K:=ac (by rw[zdq h0,zdq h1,zdq (show 0+z.toNat<n by omega)];rfl) (ac (zdq (by omega)) k)
def eqD {α:Type} (x y:α):Bool:= @decide (x=y) (Classical.propDecidable _)
variable {α:Type}
theorem arB {x y:α}:eqD x y=true↔x=y:= @decide_eq_true_iff _ (Classical.propDecidable _)
theorem asC {x y:α} (h:x≠y):eqD x y=false:=by
 cases e:eqD x y with
 |false=>rfl
 |true=>exact absurd (arB.1 e) h
def atr (I:Int->Prop) (N:Int) (n m:Nat) (ne:Int->Bool) (Kt Kf:Prop):Prop:=
 ag ((n:Int) !=(m:Int)) Kf (∃z0:Int,I z0/\(aau (.slc 0 0 n) (.slc 1 0 m) n 0 z0/\ ∀z:Int,I z->ag (decide (z<(n:Int)))
  (ixB n z (ixB m z (ag (ne z) Kf (af (inR .i64 (z+1)) (∃z':Int,I z'/\((N - z').toNat<(N - z).toNat/\aau (.slc 0 0 n) (.slc 1 0 m) n (z+1) z'))))))
  Kt))
theorem as4 (I:Int->Prop) (N:Int) (l m:ze0) (Q:zdS):dk [] (YM I N) 5 38 [.slc 0 0 l.length, .slc 1 0 m.length] [eU.old l,eU.old m] (Go.Sy.okK λr _ _ _=>Q r)=
 atr I N l.length m.length (λz=> !eqU (mb noU l (0+z.toNat)) (mb noU m (0+z.toNat))) (Q (cB.enc true)) (Q (cB.enc false)):=by kernel_rfl
theorem as5 (I:Int->Prop) (N:Int) (l m:ze1) (Q:zdS):dk [] (YM I N) 5 39 [.slc 0 0 l.length, .slc 1 0 m.length] [eN.old l,eN.old m] (Go.Sy.okK λr _ _ _=>Q r)=
 atr I N l.length m.length (λz=> !eqN (mb noN l (0+z.toNat)) (mb noN m (0+z.toNat))) (Q (cB.enc true)) (Q (cB.enc false)):=by kernel_rfl
def arV {α:Type} (l m:List α) (i:Int):Prop:=0<=i/\i<=l.length/\l.length=m.length/\l.take i.toNat=m.take i.toNat
theorem arP {d:α} {l m:List α} (h:arV l m z) (hz:z<l.length) (e:mb d l z.toNat=mb d m z.toNat):arV l m (z+1):=by
 obtain⟨h0,h1,h2,h3⟩:=h;refine⟨by omega,by omega,h2, ?_⟩;rw[show (z+1).toNat=z.toNat+1 by omega,zc1,zc1,h3,Co (d:=d) (l:=l) (by omega),Co (d:=d) (l:=m) (by omega),e]
theorem ar3 {l m:List α} (h:arV l m z) (hz: ¬z<l.length):l=m:=by
 obtain⟨h0,h1,h2,h3⟩:=h;rw[show z.toNat=l.length by omega,List.take_length,h2,List.take_length] at h3;exact h3
theorem arQ {d:α} {eq:α->α->Bool} (he: ∀x y,eq x y=true↔x=y) {l m:List α} (hn:l.length<=1000000) {Kt Kf:Prop} (ht:l=m->Kt) (hf:l≠m->Kf):
 atr (arV l m) l.length l.length m.length (λz=> !eq (mb d l (0+z.toNat)) (mb d m (0+z.toNat))) Kt Kf:=by
 refine ah (λhb=>hf λe=> ?_) λhb=>⟨0,⟨zat _,by omega,by have:(l.length:Int)=m.length:=(by simpa using hb);omega,rfl⟩,YD, ?_⟩
 ·subst e;simp at hb
 intro z hz;have hz':=hz;obtain⟨h0,h1,h2,h3⟩:=hz';refine ah (λhb=> ?_) (λhb=>ht (ar3 hz (zdw hb)));have hb:=zdv hb;dsimp only;rw[za7];refine ZS h0 hb (ZS h0 (by omega) (ah (λhc=>hf λe=> ?_) λhc=>ac (VP.2 (by omega)) ⟨z+1,arP (d:=d) hz hb ((he _ _).1 (by simpa using hc)),by omega,YD⟩));subst e;rw[(he _ _).2 rfl] at hc;cases hc
def asp {α:Type} (E:El α) (p:α->Bool):MCtr:=λbl _ args=>match args with
 | [s,t]=>match vW bl E.sz s,vW bl E.sz t with
   |some (b1,_,n1,g1),some (b2,_,n2,g2)=>some {X:=Unit,pre:=b1&&b2&&bW n1&&E.good p n1 g1&&E.good p n2 g2,spec:=λ_=>True,out:=λ_=>cB.enc (eqD (E.list n1 g1) (E.list n2 g2)),ex:=λ_=>⟨(),trivial⟩}
   |_,_=>none
 |_=>none
variable {F:FuncId}
theorem asD {E:El α} {p:α->Bool} (hr: ∀(l m:List α) (Q:zdS),l.length<=1000000->Q (cB.enc (eqD l m))->dk [] (YM (arV l m) l.length) 5 F [.slc 0 0 l.length, .slc 1 0 m.length] [E.old l,E.old m] (Go.Sy.okK λr _ _ _=>Q r)):
 ∀B:Base,GlobB B->VU prog B F (asp E p):=eW MOk.nil λbl nx args C hk hp=>by
 unfold asp at hk;split at hk
 ·rename_i s t;split at hk
  ·rename_i b1 o1 n1 g1 b2 o2 n2 g2 h1 h2;simp only[za1] at hk;subst hk;simp only[za2] at hp;obtain⟨⟨⟨⟨rfl,rfl⟩,hl⟩,w1⟩,w2⟩:=hp;obtain⟨s1,r1⟩:=cq (f:=rnF [o1,o2] [] nx) h1 w1;obtain⟨s2,r2⟩:=cq (f:=rnF [o1,o2] [] nx) h2 w2;have hlen:(E.list n1 g1).length<=1000000:=by rw[El.list_length];exact zak hl
   refine⟨[o1,o2], [E.old (E.list n1 g1),E.old (E.list n2 g2)], [.slc 0 0 (E.list n1 g1).length, .slc 1 0 (E.list n2 g2).length],YM (arV (E.list n1 g1) (E.list n2 g2)) (E.list n1 g1).length,5,aw s1 (aw s2 trivial),bH (by simp[cN,El.old]),cd (by simp[El.old,BK.map]),ar (r1 0 rfl) (ar (r2 1 rfl) rfl), ?_⟩;exact lz () trivial rfl (r:=cB.enc (eqD (E.list n1 g1) (E.list n2 g2))) rfl rfl rfl rfl (by simp[cN,El.old]) rfl (hr _ _ _ hlen rfl)
  ·cases hk
 ·cases hk
theorem asE: ∀B:Base,GlobB B->VU prog B 38 (asp eU szB):=asD λl m Q hl hQ=>by
 rw[as4];exact arQ (λx y=>Wh) hl (λe=>by rw[arB.2 e] at hQ;exact hQ) (λe=>by rw[asC e] at hQ;exact hQ)
theorem asF: ∀B:Base,GlobB B->VU prog B 39 (asp eN szN):=asD λl m Q hl hQ=>by
 rw[as5];exact arQ (λx y=>Wn) hl (λe=>by rw[arB.2 e] at hQ;exact hQ) (λe=>by rw[asC e] at hQ;exact hQ)
def ath:zdY:= [(38,asp eU szB),(39,asp eN szN)]
theorem asG:MOk ath:=(MOk.nil.cons asF).cons asE
def aap (p:Pr):SV:= .agg ([.val (.int .i64 p.id), .slc 2 0 p.inp.length, .slc 3 0 p.nod.length]++ci p.out)
def arR (p q:Pr):zdV:= [eU.old p.inp,eN.old p.nod,eU.old q.inp,eN.old q.nod]
def arW {α:Type} (E:El α) (p:α->Bool) (l m:List α):Bool:=(Nat.ble l.length l.length&&Nat.beq E.sz E.sz&&true)&&(Nat.ble m.length m.length&&Nat.beq E.sz E.sz&&true)&&bW l.length&&E.good p l.length (E.get l)&&E.good p m.length (E.get m)
def asH {α:Type} (E:El α) (l m:List α):Bool:=eqD (E.list l.length (E.get l)) (E.list m.length (E.get m))
theorem as6 (p q:Pr) (Q:zdS):dk ath (λ_ _=>none) 5 15 [kB p,aap q] (arR p q) (Go.Sy.okK λr _ _ _=>Q r)=
 ag (bif p.id==q.id then eqU p.out q.out else false) (af (arW eU szB p.inp q.inp) (Unit->True->ag (asH eU p.inp q.inp) (af (arW eN szN p.nod q.nod) (Unit->True->Q (cB.enc (asH eN p.nod q.nod)))) (Q (cB.enc false)))) (Q (cB.enc false)):=by kernel_rfl
theorem arS {E:El α} {p:α->Bool} {l m:List α} (h1:l.length<=1000000) (h: ∀x∈l,p x=true) (k: ∀x∈m,p x=true):arW E p l m=true:=by
 unfold arW bW;rw[zae (za0 _),zae (za0 _),zae h1,El.good_get h,El.good_get k,Nat.beq_refl];rfl
theorem arE {E:El α} {l m:List α}:asH E l m=true↔l=m:=by
 unfold asH;rw[show E.list l.length (E.get l)=l from El.list_get,show E.list m.length (E.get m)=m from El.list_get,arB]
def arF (p q:Pr):Bool:=eqD p q
theorem arG {q:Pr} {b:Bool} (h:b=true↔(p.id=q.id/\p.out=q.out)/\p.inp=q.inp/\p.nod=q.nod):b=arF p q:=by
 unfold arF;rw[zax,h,arB];obtain⟨a1,a2,a3,a4⟩:=p;obtain⟨b1,b2,b3,b4⟩:=q;simp only[Pr.mk.injEq];exact⟨λ⟨⟨a,b⟩,c,d⟩=>⟨a,c,d,b⟩,λ⟨a,c,d,b⟩=>⟨⟨a,b⟩,c,d⟩⟩
def arI:MCtr:=λbl _ args=>match args with
 | [s,t]=>match mC bl s,mC bl t with
   |some a,some b=>some {X:=Unit,pre:=a.need&&b.need,spec:=λ_=>True,out:=λ_=>cB.enc (arF a.p b.p),ex:=λ_=>⟨(),trivial⟩}
   |_,_=>none
 |_=>none
theorem ZW {E:El α} {l:List α} {bl:zdN} {f g:zdZ} {o:Option Nat} (h:j5 bl f (E.old l) o):j5 bl g (E.old l) o:=by
 cases o with
 |none=>exact h
 |some i=>
  simp only[j5] at h ⊢;cases hB:bl i with
  |none=>rw[hB] at h;exact h
  |some B=>
   rw[hB] at h;obtain⟨h1,h2,h3,h4,h5,h6⟩:=h
   exact⟨h1,h2,h3,h4,h5,λe he=>by
    have:=h6 e he;have i0:SV.idss ((E.old l).get e)= []:=E.ids _;rw[rns_free i0] at this ⊢
    exact this⟩
theorem ar4 (hm:MOk gm) {ann:Pr->Pr->zdW} (hr: ∀(p q:Pr) (Q:zdS),aci p=true->aci q=true->p.inp.length<=1000000->p.nod.length<=1000000->Q (cB.enc (arF p q))->dk gm (ann p q) n F [kB p,aap q] (arR p q) (Go.Sy.okK λr _ _ _=>Q r)):
 ∀B:Base,GlobB B->VU prog B F arI:=eW hm λbl nx args C hk hp=>by
 unfold arI at hk;split at hk
 ·rename_i s t;split at hk
  ·rename_i a b ha hb;simp only[za1] at hk;subst hk;simp only[za2] at hp;obtain⟨h1,h2⟩:=hp;obtain⟨s1,s2,s3,s4,s5,s6⟩:=eX (f:=rnF [a.o1,a.o2,b.o1,b.o2] [] nx) ha h1 rfl rfl;obtain⟨t1,t2,t3,t4,_⟩:=eX (f:=λj=>rnF [a.o1,a.o2,b.o1,b.o2] [] nx (j+2)) hb h2 rfl rfl;have hold: ∀C∈arR a.p b.p,cN C.kd=false/\C.kd.map=false:=by simp[arR,cN,El.old,BK.map]
   refine⟨[a.o1,a.o2,b.o1,b.o2],arR a.p b.p, [kB a.p,aap b.p],ann a.p b.p,n,aw s1 (aw s2 (aw (ZW t1) (aw (ZW t2) trivial))),bH (λC hC=>(hold C hC).1),cd (λC hC=>(hold C hC).2),ar s3 (ar t3 rfl), ?_⟩;exact lz () trivial rfl (r:=cB.enc (arF a.p b.p)) rfl rfl rfl rfl (λC hC=>(hold C hC).1) rfl (hr _ _ _ s4 t4 s5 s6 rfl)
  ·cases hk
 ·cases hk
theorem arx (h:aci p=true):((∀x∈p.inp,szB x=true)/\ ∀x∈p.nod,szN x=true)/\szB p.out=true:=by
 unfold aci at h;simpa only[za2,zaf] using h
theorem asq: ∀B:Base,GlobB B->VU prog B 15 arI:=ar4 (ann:=λ_ _ _ _=>none) (n:=5) asG λp q Q hp hq h1 h2 hQ=>by
 rw[as6];obtain⟨⟨a1,a2⟩,_⟩:=arx hp;obtain⟨⟨b1,b2⟩,_⟩:=arx hq;have bad: ¬((p.id=q.id/\p.out=q.out)/\p.inp=q.inp/\p.nod=q.nod)->Q (cB.enc false):=λh=>by
  rw[<-arG (b:=false) ⟨λe=>(by cases e),λe=>absurd e h⟩] at hQ;exact hQ
 refine ah (λc=>ac (arS h1 a1 b1) λ_ _=>ah (λc2=>ac (arS h2 a2 b2) λ_ _=> ?_) (λc2=>bad λe=> ?_)) (λc=>bad λe=> ?_)
 ·cases hi:p.id==q.id with
  |false=>rw[hi] at c;cases c
  |true=>
   rw[hi,zds] at c;rw[arG (p:=p) (q:=q) (b:=asH eN p.nod q.nod) ⟨λh=>⟨⟨by simpa using hi,Wh.1 c⟩,arE.1 c2,arE.1 h⟩,λh=>arE.2 h.2.2⟩];exact hQ
 ·rw[arE.2 e.2.1] at c2;cases c2
 ·rw[e.1.1,e.1.2,beq_self_eq_true,Wh.2 rfl] at c;cases c
open Classical in
def Y8:MCtr:=λbl _ args=>match args with
 | [s,t]=>match mC bl s,mC bl t with
   |some a,some b=>some {X:=Unit,pre:=a.need&&b.need&&decide (a.p=b.p),spec:=λ_=>True,out:=λ_=>cB.enc true,ex:=λ_=>⟨(),trivial⟩}
   |_,_=>none
 |_=>none
theorem ZA: ∀B:Base,GlobB B->VU prog B 15 Y8:=λB hB bl β w nx args C h1 h2 h3 h4 hk hp=>by
 unfold Y8 at hk;split at hk
 ·rename_i s t;split at hk
  ·rename_i a b ha hb;simp only[za1] at hk;subst hk;simp only[za2,zdu] at hp
   have k:=asq B hB bl β w nx [s,t] {X:=Unit,pre:=a.need&&b.need,spec:=λ_=>True,out:=λ_=>cB.enc (arF a.p b.p),ex:=λ_=>⟨(),trivial⟩} h1 h2 h3 h4 (by unfold arI;simp only[ha,hb]) (by
    show (_&&_)=true
    rw[hp.1.1,hp.1.2];rfl)
   rw[show arF a.p b.p=true from arB.2 hp.2] at k;exact k
  ·cases hk
 ·cases hk
end Go.Proofs.YtfokhpciehfdnaaGreatDoor
namespace Go.Proofs.YtfokhpciehfdnaaGreatDoor
end Go.Proofs.YtfokhpciehfdnaaGreatDoor
namespace Go.Proofs.YtfokhpciehfdnaaGreatDoor
open Go.Proofs.Tryz
open Go Go.RowKit Go.Sy Yk
def TF:zdY:= [(37,SZ)]
abbrev M1:=Int×List Un
abbrev M3:=Int×List Nd×List Un
def St (I1:M1->Prop) (I2 I3:M3->Prop) (N:Int):zdW:=λf k=>bif Nat.beq f 26 then(
 bif Nat.beq k 3 then some (λA=>{X:=M1,inv:=I1,tm:=λx=> [(10, .val (.int .i64 x.1))],st:= [(kA A 9,λx=>(qv A 9 0).take 1++(SV.slc A.nx 0 x.2.length::(qv A 9 0).drop 2))],gr:= [{src:= .cell (kA A 9) 0 1,sz:=20,n:=λx=>x.2.length,get:=λx=>eU.get x.2}],cleanG:=λg hg x e=>(by simp at hg;subst hg;exact eU.ids _),mu:=λx=>(4 - x.1).toNat,keep:= [1,2,3,4,8,9],sp:= [λx=>(0,x.2),λx=>(1,x.2),λx=>(2,x.2),λx=>(3,x.2)]})
 else bif Nat.beq k 8 then some (λA=>{X:=M3,inv:=I2,tm:=λx=> [(12, .val (.int .i64 x.1)),(11, .slc (A.nx+1) 0 x.2.2.length)],st:= [(kA A 9,λx=>(qv A 9 0).take 2++(SV.slc A.nx 0 x.2.1.length::(qv A 9 0).drop 3))],gr:= [{src:= .cell (kA A 9) 0 2,sz:=26,n:=λx=>x.2.1.length,get:=λx=>eN.get x.2.1},{src:= .slot 11,sz:=20,n:=λx=>x.2.2.length,get:=λx=>eU.get x.2.2}],cleanG:=λg hg x e=>(by simp at hg;rcases hg with rfl|rfl;exact eN.ids _;exact eU.ids _),mu:=λx=>(4 - x.1).toNat,keep:= [1,2,3,4,8,9]})
 else bif Nat.beq k 13 then some (λA=>{X:=M3,inv:=I3,tm:=λx=> [(13, .val (.int .i64 x.1)),(11, .slc (A.nx+1) 0 x.2.2.length)],st:= [(kA A 9,λx=>(qv A 9 0).take 2++(SV.slc A.nx 0 x.2.1.length::(qv A 9 0).drop 3))],gr:= [{src:= .cell (kA A 9) 0 2,sz:=26,n:=λx=>x.2.1.length,get:=λx=>eN.get x.2.1},{src:= .slot 11,sz:=20,n:=λx=>x.2.2.length,get:=λx=>eU.get x.2.2}],cleanG:=λg hg x e=>(by simp at hg;rcases hg with rfl|rfl;exact eN.ids _;exact eU.ids _),mu:=λx=>(N - x.1).toNat,keep:= [1,2,3,4,8,9]})
 else none) else none
def prS (K1:Nat->Nat->Blk->Nat->Nat->Blk->Int->List SV->Prop):Aft:=λr bl _ _=>match r with
 | .ok (.agg (.val (.int .i64 id):: .slc i 0 n:: .slc j 0 m::rest))=>(match bl i,bl j with
   |some B,some C=>K1 i n B j m C id rest
   |_,_=>False)
 |_=>False
abbrev TG (I1:M1->Prop) (I2 I3:M3->Prop) (N:Int) (a:Int×Int×Int) (count:Int) (xs:List I4) (ex:Bool) (K1:Nat->Nat->Blk->Nat->Nat->Blk->Int->List SV->Prop):Prop:=
 JL TF (St I1 I2 I3 N) 6 26 [.agg [.val (.int .i64 a.1), .val (.int .i64 a.2.1), .val (.int .i64 a.2.2)],cI.enc count, .slc 0 0 xs.length,cB.enc ex] [e4.old xs] (prS K1)
section
variable (I1:M1->Prop) (I2 I3:M3->Prop) (N:Int) (a:Int×Int×Int) (count:Int) (xs:List I4) (ex:Bool)
def mdC (n0:Nat) (s:SV):zdL:= .val (.int .i64 (1+co count 900)):: .slc 10 0 n0::s::ci noU
def md1 (s:SV):zdL:= .val (.int .i64 (1+co count 900))::s:: .val (.slice none 0 0)::ci noU
def S4:Prop:=tvE (cI.enc count)/\tvE (.slc 0 0 xs.length)/\tvE (cB.enc ex)/\cg 1/\cg 2/\cg 7/\True
def Ua (q:Nat) (p:Int) (m:Nat) (g:zdO) (z:M1):Prop:=(TV.v (cI.enc p)=TV.v (cI.enc z.1)/\S4 count xs ex)/\(True/\((md1 count (.slc q 0 m)=md1 count (.slc q 0 z.2.length)/\True)/\(af (Nat.beq 20 20&&decide (z.2.length<=m)) (∀e,e<z.2.length->g e=eU.get z.2 e)/\True)))
def So (n0 q1 q2:Nat) (p:Int) (m:Nat) (g:zdO) (k:Nat) (h:zdO) (z:M3):Prop:=(TV.v (cI.enc p)=TV.v (cI.enc z.1)/\TV.v (.slc q2 0 k)=TV.v (.slc q2 0 z.2.2.length)/\S4 count xs ex)/\(True/\((mdC count n0 (.slc q1 0 m)=mdC count n0 (.slc q1 0 z.2.1.length)/\True)/\
 (af (Nat.beq 26 26&&decide (z.2.1.length<=m)) (∀e,e<z.2.1.length->g e=eN.get z.2.1 e)/\(af (Nat.beq 20 20&&decide (z.2.2.length<=k)) (∀e,e<z.2.2.length->h e=eU.get z.2.2 e)/\True))))
def S5 (inp:ze0) (nod:ze1) (us:ze0) (x:Nd):Bool:=kp inp.length inp.length (eU.get inp) nod.length nod.length (eN.get nod) noU&&(Nat.ble us.length us.length&&Nat.beq 20 20&&true)&&bW us.length&&eU.good szB us.length (eU.get us)&&ndB (svN x)&&szN (Vh (svN x))&&decide ((nod.length:Int)=(us.length:Int))&&decide (1<=(Vh (svN x)).op)&&decide ((Vh (svN x)).op<=8)
def Tu (inp us:ze0) (x:Nd):Un×Int:=tyF (eU.list inp.length (eU.get inp)) (eU.list us.length (eU.get us)) (Vh (svN x))
def Rg (inp:ze0) (q1 q2:Nat) (z:M3) (x:Nd):Prop:=
 af (S5 inp z.2.1 z.2.2 x) (Unit->True->ag (bif (Tu inp z.2.2 x).2==0 then(bif !ex then true else x.op !=8) else false)
  (LY z.2.1.length (tO z.2.2.length (af (inR .i64 (z.1+1)) (∃z':M3,I3 z'/\((N - z'.1).toNat<(N - z.1).toNat/\So count xs ex inp.length q1 q2 (z.1+1) (z.2.1.length+1) (gv z.2.1 x) (z.2.2.length+1) (Jz z.2.2 (Tu inp z.2.2 x).1) z')))))
  (af (inR .i64 (z.1+1)) (∃z':M3,I3 z'/\((N - z'.1).toNat<(N - z.1).toNat/\So count xs ex inp.length 25 26 (z.1+1) z.2.1.length (eN.get z.2.1) z.2.2.length (eU.get z.2.2) z'))))
def pkB (y n:Int):Bool:=cl y&&decide (0<n)
def Sp (inp:ze0) (z:M3) (y:I4):Prop:=
 af (pkB y.1 8) (af (inR .i64 (1+co y.1 8)) (
 ag (1+co y.1 8==1) (af (pkB y.2.1 13) (af (inR .i64 (co y.2.1 13 - 6)) (af (pkB y.2.2.1 4) (af (inR .i64 (1+co y.2.2.1 4)) (af (cl (co y.2.1 13 - 6)&&cl (1+co y.2.2.1 4)) (af (cl y.2.2.2)
  (Rg I3 N count xs ex inp 102 108 z ⟨opF y,(rMk (co y.2.1 13 - 6) (1+co y.2.2.1 4)).1,BL y.2.2.2,0,0,0⟩)))))))
 (ag (1+co y.1 8==2) (af (pkB y.2.1 inp.length) (Rg I3 N count xs ex inp 93 99 z ⟨opF y,VI,noU,co y.2.1 inp.length,0,0⟩))
 (ag (1+co y.1 8==7) (af (pkB y.2.1 z.2.1.length) (af (pkB y.2.2.1 5) (af (decide (0<=co y.2.2.1 5)&&decide (co y.2.2.1 5<((5:Nat):Int))) (af (decide (0+(co y.2.2.1 5).toNat<5)) (Rg I3 N count xs ex inp 101 107 z ⟨opF y,VI,noU,T9 (co y.2.2.1 5),co y.2.1 z.2.1.length,0⟩)))))
 (ag (1+co y.1 8==8) (af (pkB y.2.1 z.2.1.length) (Rg I3 N count xs ex inp 95 101 z ⟨opF y,VI,noU,0,co y.2.1 z.2.1.length,0⟩))
   (af (pkB y.2.1 z.2.1.length) (af (pkB y.2.2.1 z.2.1.length) (Rg I3 N count xs ex inp 101 107 z ⟨opF y,VI,noU,0,co y.2.1 z.2.1.length,co y.2.2.1 z.2.1.length⟩))))))))
def Ub (K1:Nat->Nat->Blk->Nat->Nat->Blk->Int->List SV->Prop) (inp:ze0) (z0:M3):Prop:=
 ∃z1:M3,I3 z1/\(So count xs ex inp.length 17 18 0 z0.2.1.length (eN.get z0.2.1) z0.2.2.length (eU.get z0.2.2) z1/\
  ∀z:M3,I3 z->ag (bif decide (z.1<(xs.length:Int)) then decide ((z.2.1.length:Int)<14) else false)
   (eO xs.length z.1 (Sp I3 N count xs ex inp z (e4.nth xs (0+z.1.toNat))))
   (af (inR .i64 ((z.2.2.length:Int) - 1)) (eO z.2.2.length ((z.2.2.length:Int) - 1)
     (K1 10 inp.length {n:=inp.length,sz:=20,get:=eU.get inp,kd:= .own,nn:=false} 25 z.2.1.length {n:=z.2.1.length,sz:=26,get:=eN.get z.2.1,kd:= .own,nn:=false} (1+co count 900) (ci (mb noU z.2.2 (0+((z.2.2.length:Int) - 1).toNat)))))))
def T6 (K1:Nat->Nat->Blk->Nat->Nat->Blk->Int->List SV->Prop) (inp:ze0):Prop:=
 ∃z0:M3,I2 z0/\(((TV.v (cI.enc 0)=TV.v (cI.enc z0.1)/\TV.v (.val (.slice none 0 0))=TV.v (.val (.slice none z0.2.2.length 0))/\S4 count xs ex)/\(True/\((mdC count inp.length (.val (.slice none 0 0))=mdC count inp.length (.val (.slice none z0.2.1.length 0))/\True)/\(z0.2.1.length=0/\(z0.2.2.length=0/\True)))))/\
  ∀z:M3,I2 z->ag (decide (z.1<(inp.length:Int)))
   (LY z.2.1.length (eO inp.length z.1 (tO z.2.2.length (af (inR .i64 (z.1+1)) (∃z':M3,I2 z'/\((4 - z'.1).toNat<(4 - z.1).toNat/\So count xs ex inp.length 29 39 (z.1+1) (z.2.1.length+1) (gv z.2.1 (nIn z.1)) (z.2.2.length+1) (Jz z.2.2 (mb noU inp (0+z.1.toNat))) z'))))))
   (Ub I3 N count xs ex K1 inp z))
def Tv (K1:Nat->Nat->Blk->Nat->Nat->Blk->Int->List SV->Prop) (j a0:Int) (x:M1):Prop:=
 af (pkB count 3) (ag (decide (j<=co count 3)) (af (cl a0) (tO x.2.length (∃x':M1,I1 x'/\((4 - x'.1).toNat<(4 - j).toNat/\Ua count xs ex 16 (j+1) (x.2.length+1) (Jz x.2 (BL a0)) x')))) (T6 I2 I3 N count xs ex K1 x.2))
def mdT (K1:Nat->Nat->Blk->Nat->Nat->Blk->Int->List SV->Prop):Prop:=
 af (pkB count 900) (af (inR .i64 (1+co count 900)) (∃x0:M1,I1 x0/\(((TV.v (cI.enc 0)=TV.v (cI.enc x0.1)/\S4 count xs ex)/\(True/\((md1 count (.val (.slice none 0 0))=md1 count (.val (.slice none x0.2.length 0))/\True)/\(x0.2.length=0/\True))))/\
  ((∀x:M1,I1 x->(0,x.2)=x\/(1,x.2)=x\/(2,x.2)=x\/(3,x.2)=x\/False)/\((∀x:M1,I1 (0,x.2)->Tv I1 I2 I3 N count xs ex K1 0 a.1 x)/\((∀x:M1,I1 (1,x.2)->Tv I1 I2 I3 N count xs ex K1 1 a.2.1 x)/\((∀x:M1,I1 (2,x.2)->Tv I1 I2 I3 N count xs ex K1 2 a.2.2 x)/\
    ((∀x:M1,I1 (3,x.2)->af (pkB count 3) (ag (decide (3<=co count 3)) False (T6 I2 I3 N count xs ex K1 x.2)))/\True))))))))
end
theorem Tw (I1:M1->Prop) (I2 I3:M3->Prop) (N:Int) (a:Int×Int×Int) (count:Int) (xs:List I4) (ex:Bool) (K1:Nat->Nat->Blk->Nat->Nat->Blk->Int->List SV->Prop):TG I1 I2 I3 N a count xs ex K1=mdT I1 I2 I3 N a count xs ex K1:=by kernel_rfl
def asI (I:Int->Prop) (N:Int):zdW:=λf k=>bif Nat.beq f 36&&Nat.beq k 2 then some (λA=>{X:=Int,inv:=I,tm:=λi=> [(4, .val (.int .i64 i))],mu:=λi=>(N - i).toNat,keep:= [1]}) else none
def bsQ (p:Pr) (Q:zdS) (b:Bool):Prop:=Q (.tup [.val (.bool b), .val (.bool (decide ((p.nod.length:Int)>0)))])
def bsC (p:Pr):Bool:=bif wiB p.id 1 1000000 then decide ((p.inp.length:Int)<=6) else false
def bsM (i z:Int):Prop:=(TV.v (cI.enc i)=TV.v (cI.enc z)/\cg 2/\True)/\(True/\(True/\True))
def bsT (I:Int->Prop) (N:Int) (p:Pr) (Q:zdS):Prop:=
 ∃z0:Int,I z0/\(bsM 0 z0/\ ∀z:Int,I z->ag (decide (z<(p.inp.length:Int)))
  (eO p.inp.length z (af (aH (mb noU p.inp (0+z.toNat))) (ag (!iy (mb noU p.inp (0+z.toNat))) (bsQ p Q false) (af (inR .i64 (z+1)) (∃z':Int,I z'/\((N - z').toNat<(N - z).toNat/\bsM (z+1) z'))))))
  (ag (decide (bsC p=true)) (bsQ p Q (bif bsC p then wiB p.nod.length 1 40 else false)) (Q (.tup [bif bsC p then SV.val undef else .val (.bool false), .val (.bool (decide ((p.nod.length:Int)>0)))]))))
theorem atE (I:Int->Prop) (N:Int) (p:Pr) (Q:zdS):JL [] (asI I N) 6 36 [kB p] [eU.old p.inp,eN.old p.nod] (Go.Sy.okK λr _ _ _=>Q r)=bsT I N p Q:=by kernel_rfl
theorem ar5 {i:Int}:bsM i i:=⟨⟨rfl,rfl,trivial⟩,trivial,trivial,trivial⟩
def bsI (p:Pr) (z:Int):Prop:=0<=z/\z<=p.inp.length/\(p.inp.take z.toNat).all VK=true
variable {n:Int}
theorem arX {lo hi:Int}:wiB n lo hi=true↔lo<=n/\n<=hi:=by
 unfold wiB;by_cases h:n≥lo
 ·rw[zdq h,zds,zdu];omega
 ·rw[zdt h,zdr];simp;omega
theorem asJ {p:Pr} {Q:zdS} (si: ∀u∈p.inp,szB u=true) (hl:p.inp.length<=1000000) (hQ:bsQ p Q (oB p)):bsT (bsI p) p.inp.length p Q:=by
 have bad:oB p=false->bsQ p Q false:=λh=>by rw[h] at hQ;exact hQ
 have no: ¬(oB p=true)->oB p=false:=λh=>by simpa using h
 refine⟨0,⟨zat _,by omega,rfl⟩,ar5, ?_⟩;rintro z ⟨h0,h1,h2⟩;refine ah (λhz=> ?_) (λhz=> ?_)
 ·have hz:=zdv hz;rw[za7];refine aY h0 hz (ac (eH si _) (ah (λhv=>bad (no λhb=> ?_)) (λhv=>ac (VP.2 (by omega)) ⟨z+1,⟨by omega,by omega, ?_⟩,by omega,ar5⟩)))
  ·have:=zaf.1 (Wb.1 hb).2.1 _ (gF (d:=noU) (l:=p.inp) (e:=z.toNat) (by omega));rw[jE,this] at hv;cases hv
  ·rw[show (z+1).toNat=z.toNat+1 by omega,zc1,Co (d:=noU) (by omega),List.all_append,h2];rw[jE] at hv;simpa using hv
 ·have hz:=zdw hz;rw[show z.toNat=p.inp.length by omega,List.take_length] at h2;have c:bsC p=true↔(1<=p.id/\p.id<=1000000)/\p.inp.length<=6:=by
   unfold bsC;cases w:wiB p.id 1 1000000 with
   |false=>exact⟨λh=>(by cases h),λh=>by rw[arX.2 h.1] at w;cases w⟩
   |true=>rw[zds,zdu];exact⟨λh=>⟨arX.1 w,by omega⟩,λh=>by omega⟩
  refine ah (λhc=> ?_) (λhc=> ?_)
  ·have hc:=zdv hc;have w:=c.1 hc
   rw[hc,zds,show wiB p.nod.length 1 40=oB p by
    rw[zax,arX,Wb]
    exact⟨λh=>⟨⟨w.1.1,w.1.2,w.2⟩,h2,by omega,by omega⟩,λh=>⟨by omega,by omega⟩⟩]
   exact hQ
  ·have hc:bsC p=false:=by simpa using hc
   rw[hc,zdr];refine bad (no λhb=> ?_);obtain⟨⟨a,b,d⟩,_⟩:=Wb.1 hb;rw[c.2 ⟨⟨a,b⟩,d⟩] at hc;cases hc
def at2 (out:Pr->SV):MCtr:=λbl _ args=>match args with
 | [s]=>match mC bl s with
   |some a=>some {X:=Unit,pre:=a.need,spec:=λ_=>True,out:=λ_=>out a.p,ex:=λ_=>⟨(),trivial⟩}
   |none=>none
 |_=>none
theorem atY {gm:zdY} (hm:MOk gm) {F:FuncId} {out:Pr->SV} (hi: ∀p,(out p).ids= []) {ann:Pr->zdW} {n:Nat} (h: ∀p,aci p=true->p.inp.length<=1000000->p.nod.length<=1000000->JL gm (ann p) n F [kB p] [eU.old p.inp,eN.old p.nod] (Go.Sy.okK λr _ _ _=>r=out p)):
 ∀B:Base,GlobB B->VU prog B F (at2 out):=Sh hm λbl nx args C hk hp=>by
 unfold at2 at hk;split at hk
 ·rename_i s;split at hk
  ·rename_i a ha;simp only[za1] at hk;subst hk;obtain⟨s1,s2,s3,s4,s5,s6⟩:=eX (f:=rnF [a.o1,a.o2] [] nx) ha hp rfl rfl;exact⟨[a.o1,a.o2],iK a.p, [kB a.p],ann a.p,n,aw s1 (aw s2 trivial),bH (cx _),cd (jG _),ar s3 rfl,Ue () trivial rfl (r:=out a.p) (hi _) rfl rfl rfl (cx _) rfl (h _ s4 s5 s6)⟩
  ·cases hk
 ·cases hk
def arY:MCtr:=at2 λp=> .tup [.val (.bool (oB p)), .val (.bool (decide ((p.nod.length:Int)>0)))]
theorem asc: ∀B:Base,GlobB B->VU prog B 36 arY:=atY MOk.nil (λ_=>rfl) (ann:=λp=>asI (bsI p) p.inp.length) (n:=6) λp h1 h2 _=>by
 rw[atE];exact asJ (arx h1).1.1 h2 rfl
def TJ (nx:Nat) (q:Pr):SV:= .agg (.val (.int .i64 q.id):: .slc nx 0 q.inp.length:: .slc (nx+1) 0 q.nod.length::ci q.out)
def SQ:MCtr:=λbl nx args=>match args with
 | [.agg [.val (.int .i64 a), .val (.int .i64 b), .val (.int .i64 c)], .val (.int .i64 k),s, .val (.bool ex)]=>match vW bl 4 s with
   |some (bb,_,n,g)=>some {X:=Unit,pre:=bb&&decide (n<=9223372036854775807)&&e4.good uz4 n g&&cl a&&cl b&&cl c&&cl k,spec:=λ_=>True,out:=λ_=>TJ nx (Bd (a,b,c) k (e4.list n g) ex),nw:=λ_=> [eU.own (Bd (a,b,c) k (e4.list n g) ex).inp,eN.own (Bd (a,b,c) k (e4.list n g) ex).nod],ex:=λ_=>⟨(),trivial⟩}
   |none=>none
 |_=>none
theorem S6:MOk TF:=MOk.nil.cons ZR
theorem QU {y:Int} {K:Prop} (hy:cl y=true) (hn:0<n) (k:K):af (pkB y n) K:=ac (by unfold pkB;rw[hy,zdq hn];rfl) k
theorem Su (ni n:Int) (y:I4):(RR ni n y).op=opF y:=by
 have B: ∀(b:Bool) (x z:Nd),x.op=opF y->z.op=opF y->(cond b x z).op=opF y:=λb x z h k=>by cases b;exact k;exact h
 unfold RR;exact B _ _ _ rfl (B _ _ _ rfl (B _ _ _ rfl (B _ _ _ rfl rfl)))
theorem Tx (y:I4):1<=opF y/\opF y<=8:=by
 have:=gR y.1 (n:=8) (by decide);unfold opF;omega
theorem Sc {us:ze0} {u:Un} {z:ze0} (hz:z=us++ [u]):af (Nat.beq 20 20&&decide (z.length<=us.length+1)) (∀e,e<z.length->Jz us u e=eU.get z e):=by
 subst hz;have hl:(us++ [u]).length=us.length+1:=by simp
 exact ac (by rw[hl,zdq (za0 _)];rfl) λe he=>Fp (by omega)
theorem S7 {us:ze1} {u:Nd} {z:ze1} (hz:z=us++ [u]):af (Nat.beq 26 26&&decide (z.length<=us.length+1)) (∀e,e<z.length->gv us u e=eN.get z e):=by
 subst hz;have hl:(us++ [u]).length=us.length+1:=by simp
 exact ac (by rw[hl,zdq (za0 _)];rfl) λe he=>pO (by omega)
section
variable {I1:M1->Prop} {I2 I3:M3->Prop} {N:Int} {a:Int×Int×Int} {count:Int} {xs:List I4} {ex:Bool}
theorem Rh:S4 count xs ex:=⟨rfl,rfl,rfl,rfl,rfl,rfl,trivial⟩
variable {p:Int} {us:ze0} {u:Un}
theorem Ty {q:Nat} :Ua count xs ex q p (us.length+1) (Jz us u) (p,us++ [u]):=
 ⟨⟨rfl,Rh⟩,trivial,⟨by simp,trivial⟩,Sc rfl,trivial⟩
variable {n0 q1 q2:Nat} {nod:ze1} {x:Nd}
theorem Sv:So count xs ex n0 q1 q2 p (nod.length+1) (gv nod x) (us.length+1) (Jz us u) (p,nod++ [x],us++ [u]):=
 ⟨⟨rfl,by simp,Rh⟩,trivial,⟨by simp,trivial⟩,S7 rfl,Sc rfl,trivial⟩
theorem RL:So count xs ex n0 q1 q2 p nod.length (eN.get nod) us.length (eU.get us) (p,nod,us):=
 ⟨⟨rfl,rfl,Rh⟩,trivial,⟨rfl,trivial⟩,ac (by simp) (λ_ _=>rfl),ac (by simp) (λ_ _=>rfl),trivial⟩
variable {inp:ze0}
theorem Tz:Tu inp us x=tyF inp us x:=by
 unfold Tu;rw[show eU.list inp.length (eU.get inp)=inp from El.list_get,show eU.list us.length (eU.get us)=us from El.list_get,fR]
theorem S8 (h:MadOK inp (nod,us)) (hi: ∀u∈inp,szB u=true) (hl:inp.length<=1000000) (hx:szN x=true) (ho:1<=x.op/\x.op<=8):S5 inp nod us x=true:=by
 have h1:us.length=nod.length:=h.len;have h2:nod.length<=14:=h.le;unfold S5 bW;rw[uf hl (show nod.length<=1000000 by omega) (El.good_get hi) (show eN.good szN nod.length (eN.get nod)=true from El.good_get h.szn) (by decide),zae (za0 _),zae (show us.length<=1000000 by omega),El.good_get h.szu,fR,hx,h1,zdq rfl,zdq ho.1,zdq ho.2];rfl
theorem S9 {i:Int} (h:MadOK inp (nod,us)) (hi: ∀u∈inp,szB u=true) (hl:inp.length<=1000000) (hx:szN x=true) (ho:1<=x.op/\x.op<=8) (h0:0<=i) (h1:i<N) (hN:N<=9223372036854775807)
 (hS:I3 (i+1,match mn inp us x with
   |some u=>bif !ex||x.op !=8 then(nod++ [x],us++ [u]) else(nod,us)
   |none=>(nod,us))):Rg I3 N count xs ex inp q1 q2 (i,nod,us) x:=by
 have a1:us.length=nod.length:=h.len;have a2:nod.length<=14:=h.le;unfold Rg;rw[Tz];dsimp only;have no:(∃z,z=(nod,us)/\I3 (i+1,z))->af (inR .i64 (i+1)) (∃z':M3,I3 z'/\((N - z'.1).toNat<(N - i).toNat/\So count xs ex inp.length 25 26 (i+1) nod.length (eN.get nod) us.length (eU.get us) z')):=by
  rintro⟨z,rfl,hz⟩;exact ac (VP.2 (by omega)) ⟨(i+1,nod,us),hz,by show (_:Nat)<_;dsimp only;omega,RL⟩
 refine ac (S8 h hi hl hx ho) λ_ _=>ah (λhb=> ?_) (λhb=>no ?_)
 ·cases ht:mn inp us x with
  |none=>
   unfold tyF at hb;rw[ht] at hb;cases hb
  |some u=>
   rw[ht] at hS;have e:tyF inp us x=(u,0):=by unfold tyF;rw[ht]
   rw[e] at hb ⊢;have hc:(!ex||x.op !=8)=true:=by rw[<-QN];exact hb
   rw[hc] at hS;exact xp (by omega) (fV (by omega) (ac (VP.2 (by omega)) ⟨(i+1,nod++ [x],us++ [u]),hS,by show (_:Nat)<_;dsimp only;omega,Sv⟩))
 ·cases ht:mn inp us x with
  |none=>rw[ht] at hS;exact⟨_,rfl,hS⟩
  |some u=>
   rw[ht] at hS;have e:tyF inp us x=(u,0):=by unfold tyF;rw[ht]
   rw[e] at hb;have hc:(!ex||x.op !=8)=false:=by rw[<-QN];exact hb
   rw[hc] at hS;exact⟨_,rfl,hS⟩
theorem SH {z:M3} {y:I4} (hy:uz4 y=true) (hi:1<=inp.length) (hz:1<=z.2.1.length) (h: ∀q1 q2,Rg I3 N count xs ex inp q1 q2 z (RR inp.length z.2.1.length y)):Sp I3 N count xs ex inp z y:=by
 unfold uz4 at hy;simp only[za2] at hy;obtain⟨⟨⟨y1,y2⟩,y3⟩,y4⟩:=hy;have b1:=gR y.1 (n:=8) (by decide);have b2:=gR y.2.1 (n:=13) (by decide);have b3:=gR y.2.2.1 (n:=4) (by decide);have b4:=gR y.2.2.1 (n:=5) (by decide);have E: ∀{x:Nd} (q1 q2:Nat),RR inp.length z.2.1.length y=x->Rg I3 N count xs ex inp q1 q2 z x:=λ{x} q1 q2 e=>by rw[<-e];exact h q1 q2
 unfold RR opF at E;unfold Sp;refine QU y1 (by decide) (Fy (by omega) (ah (λo1=> ?_) (λo1=>ah (λo2=> ?_) (λo2=>ah (λo7=> ?_) (λo7=>ah (λo8=> ?_) (λo8=> ?_))))))
 ·refine QU y2 (by decide) (Fy (by omega) (QU y3 (by decide) (Fy (by omega) (ac (by rw[V4.2 (by omega),V4.2 (by omega)];rfl) (ac y4 (E _ _ ?_))))));rw[o1];rfl
 ·refine QU y2 (by omega) (E _ _ ?_);rw[o1,o2];rfl
 ·refine QU y2 (by omega) (QU y3 (by decide) (ac (by rw[zdq b4.1,zdq (show co y.2.2.1 5<((5:Nat):Int) from b4.2)];rfl) (ac (zdq (by omega)) (E _ _ ?_))));rw[o1,o2,o7];rfl
 ·refine QU y2 (by omega) (E _ _ ?_);rw[o1,o2,o7,o8];rfl
 ·refine QU y2 (by omega) (QU y3 (by omega) (E _ _ ?_));rw[o1,o2,o7,o8];rfl
end
def Ta (a:Int×Int×Int) (count:Int) (z:M1):Prop:=0<=z.1/\z.1<=co count 3+1/\z.2=QQ a z.1.toNat
def Tb (a:Int×Int×Int) (count:Int) (z:M3):Prop:=0<=z.1/\z.1<=co count 3+1/\z.2.1=R9 z.1.toNat/\z.2.2=QQ a z.1.toNat
def SI (a:Int×Int×Int) (count:Int) (xs:List I4) (ex:Bool) (z:M3):Prop:=0<=z.1/\z.1<=xs.length/\MadOK (QQ a ((co count 3).toNat+1)) z.2/\Rb a count xs ex=RT ex (QQ a ((co count 3).toNat+1)) (xs.drop z.1.toNat) z.2
def mdK (p:Pr) (i n:Nat) (B:Blk) (j m:Nat) (C:Blk) (id:Int) (rest:zdL):Prop:=i=10/\n=p.inp.length/\B=eU.own p.inp/\j=25/\m=p.nod.length/\C=eN.own p.nod/\id=p.id/\rest=ci p.out
variable {ex:Bool} {inp:ze0}
theorem SJ {r:List I4} {z:List Nd×List Un} (h: ¬z.1.length<14):RT ex inp r z=z:=by
 cases r with
 |nil=>rfl
 |cons y r=>unfold RT;rw[zdt h];rfl
variable {a:Int×Int×Int} {count:Int} {xs:List I4}
theorem TA {z0:M3} (hx: ∀y∈xs,uz4 y=true) (hn:xs.length<=9223372036854775807) (h1:z0.2.1=R9 ((co count 3).toNat+1)) (h2:z0.2.2=QQ a ((co count 3).toNat+1)):
 Ub (SI a count xs ex) xs.length count xs ex (mdK (Bd a count xs ex)) (QQ a ((co count 3).toNat+1)) z0:=by
 have hK:=Rc (count:=count);have hi:(QQ a ((co count 3).toNat+1)).length=(co count 3).toNat+1:=QR;refine⟨(0,z0.2),⟨zat _,by show (0:Int)<=_;omega, ?_, ?_⟩,RL, ?_⟩
 ·show MadOK _ (z0.2.1,z0.2.2);rw[h1,h2];exact⟨by rw[QR,QZ],by rw[QZ];exact hK.1,by rw[QZ];omega,Si (za0 _),RU,QT QY⟩
 ·show _=RT _ _ xs (z0.2.1,z0.2.2);rw[h1,h2];rfl
 rintro⟨i,nod,us⟩ ⟨k0,k1,k2,k3⟩;dsimp only at k0 k1 k2 k3 ⊢;have ln:us.length=nod.length:=k2.len;have l1:1<=nod.length:=k2.pos;have l2:nod.length<=14:=k2.le;refine ah (λhb=> ?_) (λhb=> ?_)
 ·rw[QM,za2] at hb;have b1:=zdv hb.1;have b2:nod.length<14:=by have:=zdv hb.2;omega
  have hd:xs.drop i.toNat=mb (0,0,0,0) xs i.toNat::xs.drop (i+1).toNat:=by
   rw[show (i+1).toNat=i.toNat+1 by omega,zaH (show i.toNat<xs.length by omega),bR (zaa _)]
  rw[hd,RT,zdq (show (nod,us).1.length<14 from b2),zds] at k3;rw[za7];have hy:uz4 (mb (0,0,0,0) xs i.toNat)=true:=hx _ (gF (by omega));refine aY k0 b1 (SH (y:=mb (0,0,0,0) xs i.toNat) hy (by omega) l1 λq1 q2=> ?_);refine S9 k2 (QT QY) (by omega) (Sr _ _ _) (by rw[Su];exact Tx _) k0 b1 (by omega) ?_;rw[Su];have st:=k2.step (ex:=ex) (y:=mb (0,0,0,0) xs i.toNat) (QT QY) b2;exact⟨by show 0<=i+1;omega,by show i+1<=_;omega,st,k3⟩
 ·have hz:Rb a count xs ex=(nod,us):=by
   rw[k3];rw[QM] at hb;by_cases c:i<xs.length
   ·rw[zdq c,zb6] at hb;have:=zdw hb;exact SJ (by show ¬nod.length<14;omega)
   ·rw[show i.toNat=xs.length by omega,zbj];rfl
  refine ac (VP.2 (by omega)) (aY (by omega) (by omega) ⟨rfl,rfl,rfl,rfl, ?_, ?_,rfl, ?_⟩)
  ·show nod.length=(Rb a count xs ex).1.length;rw[hz]
  ·show _=eN.own (Rb a count xs ex).1;rw[hz];rfl
  ·show _=ci (ly (Rb a count xs ex).2);rw[hz,show 0+((us.length:Int) - 1).toNat=us.length - 1 by omega];rfl
theorem Sw (hx: ∀y∈xs,uz4 y=true) (hn:xs.length<=9223372036854775807) (h:inp=QQ a ((co count 3).toNat+1)):
 T6 (Tb a count) (SI a count xs ex) xs.length count xs ex (mdK (Bd a count xs ex)) inp:=by
 subst h;have hK:=Rc (count:=count);have hp:=gR count (n:=3) (by decide);have hi:(QQ a ((co count 3).toNat+1)).length=(co count 3).toNat+1:=QR;refine⟨(0, [], []),⟨zat _,by show (0:Int)<=_;omega,rfl,rfl⟩,⟨⟨rfl,rfl,Rh⟩,trivial,⟨rfl,trivial⟩,rfl,rfl,trivial⟩, ?_⟩;rintro⟨i,nod,us⟩ ⟨k0,k1,k2,k3⟩;dsimp only at k0 k1 k2 k3 ⊢;refine ah (λhb=> ?_) (λhb=> ?_)
 ·have hb:=zdv hb;have l1:nod.length=i.toNat:=by rw[k2,QZ]
  have l2:us.length=i.toNat:=by rw[k3,QR]
  rw[za7];have e1:(i+1).toNat=i.toNat+1:=by omega
  refine xp (by omega) (aY k0 hb (fV (by omega) (ac (VP.2 (by omega)) ⟨(i+1,nod++ [nIn i],us++ [mb noU (QQ a ((co count 3).toNat+1)) i.toNat]),⟨by show 0<=i+1;omega,by show i+1<=_;omega, ?_, ?_⟩,by show (_:Nat)<_;dsimp only;omega,Sv⟩)))
  ·show nod++ [nIn i]=R9 (i+1).toNat;rw[e1,k2];show _=R9 i.toNat++ [nIn (i.toNat:Nat)];rw[show ((i.toNat:Nat):Int)=i by omega]
  ·show us++ [_]=QQ a (i+1).toNat;rw[e1,k3];show _=QQ a i.toNat++ [BL (mb 0 [a.1,a.2.1,a.2.2] i.toNat)];rw[show mb noU (QQ a ((co count 3).toNat+1)) i.toNat=BL (mb 0 [a.1,a.2.1,a.2.2] i.toNat) from bR (qX _ (by omega))]
 ·have hb:=zdw hb;have e:i.toNat=(co count 3).toNat+1:=by omega
  exact TA hx hn (by rw[<-e];exact k2) (by rw[<-e];exact k3)
theorem RW {j a0:Int} {x:M1} (hc:cl count=true) (ha:cl a0=true) (hx: ∀y∈xs,uz4 y=true) (hn:xs.length<=9223372036854775807) (hj:0<=j/\j<=2) (he:mb 0 [a.1,a.2.1,a.2.2] j.toNat=a0) (h:Ta a count (j,x.2)):
 Tv (Ta a count) (Tb a count) (SI a count xs ex) xs.length count xs ex (mdK (Bd a count xs ex)) j a0 x:=by
 obtain⟨k0,k1,k2⟩:=h;dsimp only at k0 k1 k2;have l2:x.2.length=j.toNat:=by rw[k2,QR]
 refine QU hc (by decide) (ah (λhb=> ?_) (λhb=> ?_))
 ·have hb:=zdv hb;have e1:(j+1).toNat=j.toNat+1:=by omega
  refine ac ha (fV (by omega) ⟨(j+1,x.2++ [BL a0]),⟨by show 0<=j+1;omega,by show j+1<=_;omega, ?_⟩,by show (_:Nat)<_;dsimp only;omega,Ty⟩);show x.2++ [BL a0]=QQ a (j+1).toNat;rw[e1,k2];show _=QQ a j.toNat++ [BL (mb 0 [a.1,a.2.1,a.2.2] j.toNat)];rw[he]
 ·have hb:=zdw hb;have hp:=gR count (n:=3) (by decide);exact Sw hx hn (by rw[k2];congr 1;omega)
theorem T7 (h0:cl a.1=true) (h1:cl a.2.1=true) (h2:cl a.2.2=true) (hc:cl count=true) (hx: ∀y∈xs,uz4 y=true) (hn:xs.length<=9223372036854775807):
 mdT (Ta a count) (Tb a count) (SI a count xs ex) xs.length a count xs ex (mdK (Bd a count xs ex)):=by
 have hp:=gR count (n:=3) (by decide);have hq:=gR count (n:=900) (by decide);refine QU hc (by decide) (Fy (by omega) ⟨(0, []),⟨zat _,by show (0:Int)<=_;omega,rfl⟩,⟨⟨rfl,Rh⟩,trivial,⟨rfl,trivial⟩,rfl,trivial⟩, ?_,λx hI=>RW hc h0 hx hn (by decide) rfl hI,λx hI=>RW hc h1 hx hn (by decide) rfl hI,λx hI=>RW hc h2 hx hn (by decide) rfl hI,λx hI=> ?_,trivial⟩)
 ·rintro⟨i,us⟩ ⟨k0,k1,_⟩;dsimp only at k0 k1;rcases(show i=0\/i=1\/i=2\/i=3 by omega) with rfl|rfl|rfl|rfl
  ·exact .inl rfl
  ·exact .inr (.inl rfl)
  ·exact .inr (.inr (.inl rfl))
  ·exact .inr (.inr (.inr (.inl rfl)))
 ·obtain⟨_,k1,k2⟩:=hI;dsimp only at k1 k2;refine QU hc (by decide) (ah (λhb=> ?_) (λhb=>Sw hx hn (by rw[k2];congr 1;show (3:Int).toNat=_;omega)));have:=zdv hb;omega
theorem SK {K1:Nat->Nat->Blk->Nat->Nat->Blk->Int->List SV->Prop} {r:Res} {b:zdN} {m:Nat} {w:zdJ} (h:prS K1 r b m w): ∃id i n j m B C rest,r= .ok (.agg (.val (.int .i64 id):: .slc i 0 n:: .slc j 0 m::rest))/\b i=some B/\b j=some C/\K1 i n B j m C id rest:=by
 unfold prS at h;split at h
 ·rename_i id i n j m rest;split at h
  ·rename_i B C hB hC;exact⟨id,i,n,j,m,B,C,rest,rfl,hB,hC,h⟩
  ·exact h.elim
 ·exact h.elim
theorem Tc: ∀B:Base,GlobB B->VU prog B 26 SQ:=Sh S6 λbl nx args C hk hp=>by
 unfold SQ at hk;split at hk
 ·rename_i a b c k s ex;split at hk
  ·rename_i bb o n g hs;simp only[za1] at hk;subst hk;simp only[za2,zdu] at hp;obtain⟨⟨⟨⟨⟨⟨rfl,hn⟩,hg⟩,h0⟩,h1⟩,h2⟩,hc⟩:=hp;obtain⟨t1,t2⟩:=cq (f:=rnF [o] [] nx) hs hg;have hlen:(e4.list n g).length=n:=El.list_length;have hold: ∀C∈ [e4.old (e4.list n g)],cN C.kd=false/\C.kd.map=false:=by simp[cN,El.old,BK.map]
   have ml:=Sb (a:=(a,b,c)) (count:=k) (xs:=e4.list n g) (ex:=ex);refine⟨[o], [e4.old (e4.list n g)], [.agg [.val (.int .i64 a), .val (.int .i64 b), .val (.int .i64 c)], .val (.int .i64 k), .slc 0 0 (e4.list n g).length, .val (.bool ex)],St (Ta (a,b,c) k) (Tb (a,b,c) k) (SI (a,b,c) k (e4.list n g) ex) (e4.list n g).length,6,aw t1 trivial,bH (λC hC=>(hold C hC).1),cd (λC hC=>(hold C hC).2),ar rfl (ar rfl (ar (t2 0 rfl) rfl)), ?_⟩;refine Q8 (K:=prS (mdK (Bd (a,b,c) k (e4.list n g) ex))) ?_ λr bl' m w h=> ?_
   ·have:=Tw (Ta (a,b,c) k) (Tb (a,b,c) k) (SI (a,b,c) k (e4.list n g) ex) (e4.list n g).length (a,b,c) k (e4.list n g) ex (mdK (Bd (a,b,c) k (e4.list n g) ex));show TG _ _ _ _ (a,b,c) k (e4.list n g) ex _;rw[this];exact T7 h0 h1 h2 hc (El.good_list hg) (by omega)
   ·generalize Bd (a,b,c) k (e4.list n g) ex=p at h ml;obtain⟨id,i,n',j,m',B,C,rest,rfl,hB,hC,rfl,rfl,rfl,rfl,rfl,rfl,rfl,rfl⟩:=SK h;have e:=rns_free (f:=dt [o] [some 10,some 25] nx) (fj p.out);have e0:dt [o] [some 10,some 25] nx nx=some (some 10):=cO;have e1:dt [o] [some 10,some 25] nx (nx+1)=some (some 25):=jA 1;refine⟨(),trivial, [some 10,some 25],⟨_,rfl, ?_⟩,by simp[ck],⟨⟨by simp, ?_⟩,⟨by simp, ?_⟩,trivial⟩,we (λC hC=>(hold C hC).1) rfl _⟩
    ·show SV.rn (dt [o] [some 10,some 25] nx) (TJ nx p)=_;unfold TJ;exact Xs (ar rfl (ar (by simp only[SV.rn,e0]) (ar (by simp only[SV.rn,e1]) e)))
    ·rw[hB];exact⟨by simp[El.own],λ_=> .inr ⟨ml.1,eU.one⟩,gC rfl rfl (za0 _) λ_ _=>rfl⟩
    ·rw[hC];exact⟨by simp[El.own],λ_=> .inr ⟨ml.2.2.1,eN.one⟩,gC rfl rfl (za0 _) λ_ _=>rfl⟩
  ·cases hk
 ·cases hk
def ats:zdY:= [(36,arY),(37,asz)]
theorem as7:MOk ats:=(MOk.nil.cons asB).cons asc
def asd (I:CX->Prop) (N:Int):zdW:=λf k=>bif Nat.beq f 12&&Nat.beq k 6 then some (λA=>{X:=CX,inv:=I,tm:=λx=> [(8, .val (.int .i64 x.1)),(7, .slc A.nx 0 x.2.length)],gr:= [{src:= .slot 7,sz:=20,n:=λx=>x.2.length,get:=λx=>eU.get x.2}],cleanG:=λg hg x e=>(by simp at hg;subst hg;exact eU.ids _),mu:=λx=>(N - x.1).toNat,keep:= [1]}) else none
def asK (I1 I2:Int->Prop) (N1 N2:Int):zdW:=λf k=>bif Nat.beq f 16 then(
 bif Nat.beq k 4 then some (λA=>{X:=Int,inv:=I1,tm:=λi=> [(5, .val (.int .i64 i))],mu:=λi=>(N1 - i).toNat,keep:= [2,3]})
 else bif Nat.beq k 9 then some (λA=>{X:=Int,inv:=I2,tm:=λi=> [(6, .val (.int .i64 i))],mu:=λi=>(N2 - i).toNat,keep:= [2,3]})
 else none) else none
def ckM (q:Nat) (p:Int) (n:Nat) (us:zdO) (z:CX):Prop:=(TV.v (cI.enc p)=TV.v (cI.enc z.1)/\TV.v (.slc q 0 n)=TV.v (.slc q 0 z.2.length)/\cg 2/\True)/\(True/\(True/\(af (Nat.beq 20 20&&decide (z.2.length<=n)) (∀e,e<z.2.length->us e=eU.get z.2 e)/\True)))
def ati (p:Pr) (us:ze0) (x:Nd) (i:Int):Bool:=jn p&&(Nat.ble us.length us.length&&Nat.beq 20 20&&true)&&bW us.length&&eU.good szB us.length (eU.get us)&&ndB (svN x)&&szN (Vh (svN x))&&decide (i=(us.length:Int))&&true
def ckN (I:CX->Prop) (N:Int) (q:Nat) (p:Pr) (i:Int) (us:ze0) (Q:zdS):Prop:=eO p.nod.length i (n8 (ati p us (mb noN p.nod (0+i.toNat)) i) (ag ((Tu p.inp us (mb noN p.nod (0+i.toNat))).2 !=0) (Q (zi i)) (tO us.length (af (inR .i64 (i+1)) (∃z':CX,I z'/\((N - z'.1).toNat<(N - i).toNat/\ckM q (i+1) (us.length+1) (Jz us (Tu p.inp us (mb noN p.nod (0+i.toNat))).1) z'))))))
def ckT (I:CX->Prop) (N:Int) (p:Pr) (Q:zdS) (KU:List Un->Prop):Prop:=
 n8 (jn p) (ag (!oB (dm p)) (Q (zi (-1))) (∃z0:CX,I z0/\(((TV.v (cI.enc 0)=TV.v (cI.enc z0.1)/\TV.v (.val (.slice none 0 0))=TV.v (.val (.slice none z0.2.length 0))/\cg 2/\True)/\(True/\(True/\(z0.2.length=0/\True))))/\
  ∀z:CX,I z->ag (decide (z.1<(p.nod.length:Int))) (ckN I N 29 p z.1 z.2 Q/\ckN I N 29 p z.1 z.2 Q)
   (af (inR .i64 ((z.2.length:Int) - 1)) (eO z.2.length ((z.2.length:Int) - 1) (ag (!eqU (mb noU z.2 (0+((z.2.length:Int) - 1).toNat)) p.out) (Q (zi p.nod.length)) (KU z.2)))))))
theorem atG (I:CX->Prop) (N:Int) (p:Pr) (KS:Nat->Nat->Blk->List SV->Prop) (Q:zdS):
 JL ats (asd I N) 6 12 [kB p] [eU.old p.inp,eN.old p.nod] (slK KS Q)=ckT I N p Q (λus=>KS 16 us.length {n:=us.length,sz:=20,get:=eU.get us,kd:= .own,nn:=false} [.val (.int .i64 0), .val (.int .i64 0)]):=by kernel_rfl
theorem att {q:Nat} {p:Int} {us:ze0} {u:Un}:ckM q p (us.length+1) (Jz us u) (p,us++ [u]):=
 ⟨⟨rfl,by simp,rfl,trivial⟩,trivial,trivial,(CQ (m:=0) (c:=0) (q:=0) (ni:=0) (nn:=0) (p:=p)).2.2.2⟩
theorem asL {p:Pr} {Q:zdS} {KU:List Un->Prop} (hsz:aci p=true) (h6:p.inp.length<=1000000) (h7:p.nod.length<=1000000)
 (hb:(VJ p).2.2≠0->Q (zi (VJ p).2.1)) (hg:(VJ p).2.2=0->KU (VJ p).1):ckT (chkI p.inp p.nod) p.nod.length p Q KU:=by
 obtain⟨⟨si,sn⟩,so⟩:=arx hsz;unfold ckT n8;rw[fN];refine ac (eY hsz h6 h7) λ_ _=>ah (λh=> ?_) (λh=> ?_)
 ·have hf:oB p=false:=by simpa using h
  have:VJ p=([], -1,90):=by unfold VJ;rw[hf];rfl
  rw[this] at hb;exact hb (show (90:Int)≠0 by decide)
 ·have hbeg:oB p=true:=by simpa using h
  obtain⟨_,_,b5,b6⟩:=Wb.1 hbeg;have hc:VJ p=match iB p.inp p.nod [] with
   |(us,true)=>bif eqU (ly us) p.out then(us,0,0) else([],p.nod.length,90)
   |(us,false)=>([],us.length,90):=by unfold VJ;rw[hbeg];rfl
  refine⟨(0, []),⟨zat _,by show (0:Int)<=_;omega,rfl,λu h=>(by cases h),rfl⟩,⟨⟨rfl,rfl,rfl,trivial⟩,trivial,trivial,rfl,trivial⟩, ?_⟩;rintro⟨i,us⟩ ⟨k0,k1,k2,k3,k4⟩;simp only at k0 k1 k2 k3 k4;dsimp only;refine ah (λhz=> ?_) (λhz=> ?_)
  ·have hz:i<(p.nod.length:Int):=zdv hz;have hd:=atR (d:=noN) k0 hz;have hx:=sn _ (gF (d:=noN) (l:=p.nod) (e:=i.toNat) (by omega));rw[hd,iB] at k4;have one:ckN (chkI p.inp p.nod) p.nod.length 29 p i us Q:=by
    unfold ckN n8;rw[za7,Tz];generalize mb noN p.nod i.toNat=x at hx k4;refine aY k0 hz (ac ?_ λ_ _=> ?_)
    ·unfold ati bW;rw[eY hsz h6 h7,zae (za0 us.length),zae (show us.length<=1000000 by omega),El.good_get (E:=eU) k3,show ndB (svN x)=true from rfl,fR,hx,zdq (show i=(us.length:Int) by omega)];rfl
    ·cases t:mn p.inp us x with
     |none=>
      rw[t] at k4;replace k4:iB p.inp p.nod []=(us,false):=k4;rw[show tyF p.inp us x=(noU,90) by unfold tyF;rw[t]];refine ah (λ_=> ?_) (λh=>by cases h);rw[k4] at hc;replace hc:VJ p=([],(us.length:Int),90):=hc;rw[hc] at hb;have:=hb (show (90:Int)≠0 by decide);rwa[show ((us.length:Nat):Int)=i by omega] at this
     |some u=>
      rw[t] at k4;replace k4:iB p.inp p.nod []=iB p.inp (p.nod.drop (i+1).toNat) (us++ [u]):=k4;rw[show tyF p.inp us x=(u,0) by unfold tyF;rw[t]];refine ah (λh=>by cases h) (λ_=>fV (by omega) (ac (VP.2 (by omega)) ⟨(i+1,us++ [u]),⟨by show 0<=i+1;omega,by show i+1<=_;omega,by simp only[za3,za6];omega, ?_,k4⟩,by show (_:Nat)<_;omega,att⟩));exact atS k3 (CR hx si k3 t)
   exact⟨one,one⟩
  ·have hz: ¬i<(p.nod.length:Int):=zdw hz;rw[show i.toNat=p.nod.length by omega,zbj,iB] at k4;rw[k4] at hc;refine ac (VP.2 (by omega)) (aY (by omega) (by omega) ?_);rw[show (0+((us.length:Int) - 1).toNat)=us.length - 1 by omega];refine ah (λh=> ?_) (λh=> ?_)
   ·have h:eqU (ly us) p.out=false:=by simpa [ly] using h
    rw[hc] at hb;simp only[h,zdr] at hb;exact hb (show (90:Int)≠0 by decide)
   ·have h:eqU (ly us) p.out=true:=by simpa [ly] using h
    rw[hc] at hg;simp only[h,zds] at hg;exact hg trivial
theorem arM: ∀B:Base,GlobB B->VU prog B 12 xi:=Sh as7 λbl nx args C hk hp=>by
 unfold xi at hk;split at hk
 ·rename_i s;split at hk
  ·rename_i a ha;simp only[za1] at hk;subst hk;obtain⟨s1,s2,s3,s4,s5,s6⟩:=eX (f:=rnF [a.o1,a.o2] [] nx) ha hp rfl rfl;refine⟨[a.o1,a.o2],iK a.p, [kB a.p],asd (chkI a.p.inp a.p.nod) a.p.nod.length,6,aw s1 (aw s2 trivial),bH (cx _),cd (jG _),ar s3 rfl,atW (q:=16) Q8 (by decide) λKS Q h1 h2=> ?_⟩;unfold iK;rw[atG];exact asL s4 s5 s6 h1 h2
  ·cases hk
 ·cases hk
def atH:zdY:= [(12,xi)]
theorem as8:MOk atH:=MOk.nil.cons arM
theorem asr (p:Pr) (Q:zdS):JL atH (λ_ _=>none) 3 14 [kB p] [eU.old p.inp,eN.old p.nod] (Go.Sy.okK λr _ _ _=>Q r)=af (jn p) (Unit->True->Q (cB.enc ((VJ (dm p)).2.2==0))):=by kernel_rfl
def atV:MCtr:=at2 λp=>cB.enc (VM p)
theorem arN: ∀B:Base,GlobB B->VU prog B 14 atV:=atY as8 (λ_=>rfl) (ann:=λ_ _ _=>none) (n:=3) λp h1 h2 h3=>by
 rw[asr];exact ac (eY h1 h2 h3) λ_ _=>by rw[fN];rfl
def smM (p z:Int):Prop:=(TV.v (cI.enc p)=TV.v (cI.enc z)/\cg 4/\cg 5/\True)/\(True/\(True/\True))
def smL (I:Int->Prop) (N:Int) (n m:Nat) (ne:Int->Bool) (Kt Kf:Prop):Prop:=
 ∃z0:Int,I z0/\(smM 0 z0/\ ∀z:Int,I z->ag (decide (z<(n:Int))) (eO n z (eO m z (ag (ne z) Kf (af (inR .i64 (z+1)) (∃z':Int,I z'/\((N - z').toNat<(N - z).toNat/\smM (z+1) z')))))) Kt)
def smB (p q:Pr):Bool:=bif bif bif p.id !=q.id then true else !eqU p.out q.out then true else((p.inp.length:Int) !=(q.inp.length:Int)) then true else((p.nod.length:Int) !=(q.nod.length:Int))
def smT (I1 I2:Int->Prop) (N1 N2:Int) (p q:Pr) (Q:zdS):Prop:=
 ag (smB p q) (Q (cB.enc false)) (smL I1 N1 p.inp.length q.inp.length (λz=> !eqU (mb noU p.inp (0+z.toNat)) (mb noU q.inp (0+z.toNat))) (smL I2 N2 p.nod.length q.nod.length (λz=> !eqN (mb noN p.nod (0+z.toNat)) (mb noN q.nod (0+z.toNat))) (Q (cB.enc true)) (Q (cB.enc false))) (Q (cB.enc false)))
theorem atI (I1 I2:Int->Prop) (N1 N2:Int) (p q:Pr) (Q:zdS):dk [] (asK I1 I2 N1 N2) 6 16 [kB p,aap q] (arR p q) (Go.Sy.okK λr _ _ _=>Q r)=smT I1 I2 N1 N2 p q Q:=by kernel_rfl
theorem asM {α:Type} {d:α} {eq:α->α->Bool} (he: ∀x y,eq x y=true↔x=y) {l m:List α} (hn:l.length<=1000000) (hm:l.length=m.length) {Kt Kf:Prop} (ht:l=m->Kt) (hf:l≠m->Kf):
 smL (arV l m) l.length l.length m.length (λz=> !eq (mb d l (0+z.toNat)) (mb d m (0+z.toNat))) Kt Kf:=by
 refine⟨0,⟨zat _,by omega,hm,rfl⟩,⟨⟨rfl,rfl,rfl,trivial⟩,trivial,trivial,trivial⟩,λz hz=> ?_⟩;have hz':=hz;obtain⟨h0,h1,h2,h3⟩:=hz';refine ah (λhb=> ?_) (λhb=>ht (ar3 hz (zdw hb)));have hb:=zdv hb;dsimp only;rw[za7];refine aY h0 hb (aY h0 (by omega) (ah (λhc=>hf λe=> ?_) λhc=>ac (VP.2 (by omega)) ⟨z+1,arP (d:=d) hz hb ((he _ _).1 (by simpa using hc)),by omega,⟨⟨rfl,rfl,rfl,trivial⟩,trivial,trivial,trivial⟩⟩));subst e;rw[(he _ _).2 rfl] at hc;cases hc
theorem ass: ∀B:Base,GlobB B->VU prog B 16 arI:=ar4 (ann:=λp q=>asK (arV p.inp q.inp) (arV p.nod q.nod) p.inp.length p.nod.length) (n:=6) MOk.nil λp q Q hp hq h1 h2 hQ=>by
 rw[atI];have bad: ¬((p.id=q.id/\p.out=q.out)/\p.inp=q.inp/\p.nod=q.nod)->Q (cB.enc false):=λh=>by
  rw[<-arG (b:=false) ⟨λe=>(by cases e),λe=>absurd e h⟩] at hQ;exact hQ
 have hb:smB p q=false↔(p.id=q.id/\p.out=q.out)/\p.inp.length=q.inp.length/\p.nod.length=q.nod.length:=by
  unfold smB;by_cases a:p.id=q.id
  ·by_cases b:p.out=q.out
   ·rw[a,b,Wh.2 rfl,bne_self_eq_false];by_cases c:p.inp.length=q.inp.length
    ·rw[c];simp;omega
    ·simp[c];intro h;omega
   ·rw[show eqU p.out q.out=false from Bool.eq_false_iff.2 λh=>b (Wh.1 h)];simp[b]
  ·simp[a]
 refine ah (λc=>bad λe=> ?_) (λc=> ?_)
 ·rw[hb.2 ⟨e.1,congrArg _ e.2.1,congrArg _ e.2.2⟩] at c;cases c
 ·obtain⟨e1,e2,e3⟩:=hb.1 c;refine asM (λx y=>Wh) h1 e2 (λf1=>asM (λx y=>Wn) h2 e3 (λf2=> ?_) (λf2=>bad λe=>f2 e.2.2)) (λf1=>bad λe=>f1 e.2.1);rw[<-arG (b:=true) ⟨λ_=>⟨e1,f1,f2⟩,λ_=>rfl⟩] at hQ;exact hQ
end Go.Proofs.YtfokhpciehfdnaaGreatDoor
namespace Yk
open Go Go.Sy
abbrev Iv:=RS×RS
def noI:Iv:=(VI,VI)
def zR:RS:=(⟨#[48]⟩,⟨#[49]⟩)
def uzI (x:Iv):Bool:=uzR x.1&&uzR x.2
def vI (x:Iv):Bool:=rV x.1&&rV x.2&&decide (b9 x.1 x.2<=0)
def ad2 (x:Iv) (r:RS):Bool:=vI x&&rV r&&decide (b9 x.1 r<=0)&&decide (b9 r x.2<=0)
def ptI (r:RS):Iv:=bif rV r then(r,r) else noI
def R6:Iv×Int:=(noI,50)
def ad3 (l h:RS×Int):Iv×Int:=bif l.2==0&&h.2==0 then((l.1,h.1),0) else R6
def agy (a b:Iv):Iv×Int:=bif vI a&&vI b then ad3 (fZ a.1 b.1) (fZ a.2 b.2) else R6
def agz (a b:Iv):Iv×Int:=bif vI a&&vI b then ad3 (iF a.1 b.2) (iF a.2 b.1) else R6
def aey:List RS->RS->RS
 | [],m=>m
 |x::r,m=>aey r (bif decide (b9 x m<0) then x else m)
def aez:List RS->RS->RS
 | [],m=>m
 |x::r,m=>aez r (bif decide (b9 x m>0) then x else m)
def ae6 (a b c d:RS×Int):Iv×Int:=bif a.2==0&&b.2==0&&c.2==0&&d.2==0 then((aey [b.1,c.1,d.1] a.1,aez [b.1,c.1,d.1] a.1),0) else R6
def adC (a b:Iv):Iv×Int:=bif vI a&&vI b then ae6 (ale a.1 b.1) (ale a.1 b.2) (ale a.2 b.1) (ale a.2 b.2) else R6
def ac7 (a b:Iv):Iv×Int:=bif vI a&&vI b&& !ad2 b zR then ae6 (cA a.1 b.1) (cA a.1 b.2) (cA a.2 b.1) (cA a.2 b.2) else R6
def aeA (a:Iv) (p:Int):Iv×Int:=bif vI a then ad3 (acv a.1 p) (rUp a.2 p) else R6
def yl (x:Iv):zdL:= [.val (.string x.1.1), .val (.string x.1.2), .val (.string x.2.1), .val (.string x.2.2)]
def aiE:SV->Option Iv
 | .agg [.val (.string a), .val (.string b), .val (.string c), .val (.string d)]=>some ((a,b),(c,d))
 |_=>none
def cIv:Cod Iv where
 dec:=aiE
 enc r:= .agg (yl r)
 ok s a h:=by
  unfold aiE at h;split at h
  ·simp at h;rw[<-h];rfl
  ·cases h
 ids _:=by simp[yl,SV.ids,SV.idss]
end Yk
namespace Go.Proofs.YtfokhpciehfdnaaGreatDoor
open Go.Proofs.Tryz
open Go Go.RowKit Go.Sy Yk
def evE (a:Addr):Value:= .iface 326 (.pointer (some a))
def GlobE (a:Addr) (w:World):Prop:=GlobU w/\w.cell? ⟨0,0,none⟩=some (evE a)
variable {a:Addr}
theorem GlobE.below {w w':World} (h:GlobE a w) (hb:Below w.heap.size w w'):GlobE a w':=by
 refine⟨h.1.below hb, ?_⟩;rw[hb.cell (p:=⟨0,0,none⟩) (World.block_lt_of_cell? w _ h.2)];exact h.2
def GlobEB (a:Addr) (B:Base):Prop:= ∀w,Pres B w->GlobE a w
variable {B:Base}
theorem GlobEB.gU (h:GlobEB a B):GlobB B:=λw hw=>(h w hw).1
variable {W:World}
theorem GlobEB.of (h:GlobE a W):GlobEB a W:=λw hw=>h.below hw.below
theorem GlobEB.sub {W:Base} (h:GlobEB a W) (s:SubB B W):GlobEB a B:=λw hw=>h w (s.pres hw)
theorem ahA (w:World):Calls prog 137 #[.bool true] w λe w'=>e= .returned (.tuple #[])/\w'=w:=by
 go_enter func137,ntmps137;go_wp2
 go_end0
 exact⟨rfl,rfl⟩
theorem ai0 (a:Addr) (w:World) (h:w.cell? ⟨0,0,none⟩=some (evE a)):Calls prog 137 #[.bool false] w λe w'=>e= .panicked [{v:=evE a,recovered:=false}]/\w'=w:=by
 go_enter func137,ntmps137;go_wp2;exact⟨rfl,rfl,rfl⟩
theorem afL (v:Value) (w:World):(Extern.ReflectliteType.typeOf #[.iface 326 v]).run prog w= .ok (.iface 297 (.agg #[.pointer (some ⟨9,326,none⟩)])) w:=by kernel_rfl
theorem ac8 (w:World):((Extern.ReflectliteType.method λt=>do Extern.Rtype.noPackHeld "Comparable" t;(λa=>Value.bool a.comparable)<$>typeInfo t) #[.agg #[.pointer (some ⟨9,326,none⟩)]]).run prog w= .ok (.bool true) w:=by kernel_rfl
theorem afM (v:Value) (w:World):(Go.method 467 297 v "Comparable").run prog w= .ok (337,v) w:=by kernel_rfl
theorem ahB:(prog.info? 326).map (·.comparable)=some true:=by kernel_rfl
theorem ahC:(prog.info? 328).map (·.size)=some 1:=by kernel_rfl
theorem ahD (a:Addr) (w:World):Calls prog 203 #[evE a,evE a] w λe w'=>e= .returned (.bool true)/\w'=w:=by
 unfold evE;obtain⟨i,hi,hcmp⟩:=zbE.1 ahB;obtain⟨j,hj,hjs⟩:=zbE.1 ahC;have h8:= @run_callFunc_extern prog 244 _ Extern.ReflectliteType.typeOf func244 (by kernel_rfl) (by kernel_rfl) (by kernel_rfl) (by kernel_rfl);have h32:= @run_callFunc_extern prog 337 _ (Extern.ReflectliteType.method λt=>do Extern.Rtype.noPackHeld "Comparable" t;pure (.bool (<-typeInfo t).comparable)) func337 (by kernel_rfl) (by kernel_rfl) (by kernel_rfl) (by kernel_rfl);have tT:=afL;have cT:=ac8;have mR:=afM;have heq:=run_eql_iface_ptr_same (P:=prog) w a underlying117 underlying326 hi hcmp hj;go_enter func203,ntmps203;go_wp2;refine wp_loop_rounds 1 ?_;rw[rounds_succ];go_wp2;go_ret;exact⟨rfl,rfl⟩
theorem ahE (pv:Value) (w:World):(Instr.typeAssert (.iface 326 pv) 20 117 true).run prog w= .ok (.tuple #[.iface 326 pv, .bool true]) w:=by kernel_rfl
theorem ai1 (w:World):(Instr.typeAssert .nilIface 20 117 true).run prog w= .ok (.tuple #[.nilIface, .bool false]) w:=by kernel_rfl
theorem afN (p q:Addr) (w:World):
 CallsD prog 202 #[.pointer (some p), .pointer (some q)] .returning w λe u' w'=>e= .returned (.tuple #[])/\u'= .returning/\w'=w:=by
 refine callsD_of_wpS func202 rfl λc₀ cs hu=> ?_;apply wpS_seq;apply wpS_region;simp[wpOpsS,go_sem,recoverD,hu,ntmps202,Exit.thenS,ai1];apply wpS_seq;apply wpS_region;simp[wpOpsS,go_sem,Exit.thenS];refine wpS_cond (t:=false) (by simp[Act.eval]) ?_;simp only[zbo,if_false];refine wpS_of_wp (wp_skip ?_);cases c₀
 simp_all [bodyPostS,results,results202]
def wE (w:World):World:=w.alloc (.cells #[.string ⟨#[]⟩, .string ⟨#[]⟩, .string ⟨#[]⟩, .string ⟨#[]⟩] 63)
def es:Value:= .string ⟨#[]⟩
theorem acW (b o c k:Nat) (a:Addr) (older:List PanicEntry) (w:World) {x0 x1 x2 x3 y:Value} (hE:w.cell? ⟨0,0,none⟩=some (evE a)) (hb:b<w.heap.size) (hc:c<w.heap.size) (hbc:b≠c)
 (h0:w.cell? ⟨b,o,none⟩=some x0) (h1:w.cell? ⟨b,o+1,none⟩=some x1) (h2:w.cell? ⟨b,o+2,none⟩=some x2) (h3:w.cell? ⟨b,o+3,none⟩=some x3) (hy:w.cell? ⟨c,k,none⟩=some y)
 (f0:w.frozen? ⟨b,o,none⟩=false) (f1:w.frozen? ⟨b,o+1,none⟩=false) (f2:w.frozen? ⟨b,o+2,none⟩=false) (f3:w.frozen? ⟨b,o+3,none⟩=false) (fy:w.frozen? ⟨c,k,none⟩=false):
 CallsD prog 202 #[.pointer (some ⟨b,o,none⟩), .pointer (some ⟨c,k,none⟩)] (.panicking ({v:=evE a,recovered:=false}::older)) w λe u' w'=>
  e= .returned (.tuple #[])/\u'= .panicking ({v:=evE a,recovered:=true}::older)/\w'=((wE w).setCells b o [es,es,es,es]).setCell ⟨c,k,none⟩ (.int .i64 50):=by
 unfold evE at*
 refine callsD_of_wpS func202 rfl λc₀ cs hu=> ?_;apply wpS_seq;apply wpS_region;simp[wpOpsS,go_sem,recoverD,hu,ntmps202,Exit.thenS,ahE];apply wpS_seq;apply wpS_region;simp[wpOpsS,go_sem,Exit.thenS,hE];refine(ahD a w).mono ?_;rintro e w1 ⟨rfl,rfl⟩;dsimp only;refine wpS_cond (t:=true) (by simp[Act.eval]) ?_;simp only[if_true];apply wpS_seq;apply wpS_region;simp[wpOpsS,go_sem,Exit.thenS];apply wpS_region;show wpOpsS _ _ _ _ _ _ (wE w1);have n0:(wE w1).cell? ⟨w1.heap.size,0,none⟩=some es:=by unfold wE;rw[World.cell?_alloc_new];rfl
 have n1:(wE w1).cell? ⟨w1.heap.size,1,none⟩=some es:=by unfold wE;rw[World.cell?_alloc_new];rfl
 have n2:(wE w1).cell? ⟨w1.heap.size,2,none⟩=some es:=by unfold wE;rw[World.cell?_alloc_new];rfl
 have n3:(wE w1).cell? ⟨w1.heap.size,3,none⟩=some es:=by unfold wE;rw[World.cell?_alloc_new];rfl
 have old: ∀{d j:Nat} {x:Value},d<w1.heap.size->w1.cell? ⟨d,j,none⟩=some x->(wE w1).cell? ⟨d,j,none⟩=some x:=λhd h=>by unfold wE;rw[World.cell?_alloc_lt (h:=hd)];exact h
 have fro: ∀{d j:Nat},d<w1.heap.size->w1.frozen? ⟨d,j,none⟩=false->(wE w1).frozen? ⟨d,j,none⟩=false:=λhd h=>by unfold wE;rw[World.frozen?_alloc_old (h:=Nat.ne_of_lt hd)];exact h
 have m0:=old hb h0;have m1:=old hb h1;have m2:=old hb h2;have m3:=old hb h3;have my:=old hc hy;have g0:=fro hb f0;have g1:=fro hb f1;have g2:=fro hb f2;have g3:=fro hb f3;have gy:=fro hc fy;generalize wE w1=w2 at*
 generalize w1.heap.size=sz at*
 have q1:(w2.setCell ⟨b,o,none⟩ es).cell? ⟨b,o+1,none⟩=some x1:=by rw[World.cell?_setCell_other (h:=by simp)];exact m1
 have q2:((w2.setCell ⟨b,o,none⟩ es).setCell ⟨b,o+1,none⟩ es).cell? ⟨b,o+2,none⟩=some x2:=by rw[World.cell?_setCell_other (h:=by simp),World.cell?_setCell_other (h:=by simp)];exact m2
 have q3:(((w2.setCell ⟨b,o,none⟩ es).setCell ⟨b,o+1,none⟩ es).setCell ⟨b,o+2,none⟩ es).cell? ⟨b,o+3,none⟩=some x3:=by rw[World.cell?_setCell_other (h:=by simp),World.cell?_setCell_other (h:=by simp),World.cell?_setCell_other (h:=by simp)];exact m3
 have q4:((((w2.setCell ⟨b,o,none⟩ es).setCell ⟨b,o+1,none⟩ es).setCell ⟨b,o+2,none⟩ es).setCell ⟨b,o+3,none⟩ es).cell? ⟨c,k,none⟩=some y:=by
  rw[World.cell?_setCell_other (h:=by simp[hbc]),World.cell?_setCell_other (h:=by simp[hbc]),World.cell?_setCell_other (h:=by simp[hbc]),World.cell?_setCell_other (h:=by simp[hbc])];exact my
 simp only[es] at*
 simp[wpOpsS,go_sem,Exit.thenS,n0,n1,n2,n3,m0,q1,q2,q3,q4,g0,g1,g2,g3,gy,bodyPostS,results,results202,World.setCells]
def ahF (n:Nat):Option Blk->Bool
 |some B=>Nat.beq B.n 1&&(Nat.beq B.sz n&&(match B.kd with
  | .own=>true
  |_=>false))
 |none=>false
def ai2 (bl:zdN) (i:Nat) (cs:zdL):Nat×Blk:=(i,match bl i with
 |some B=>B.put 0 0 cs
 |none=>{n:=0,sz:=0,get:=λ_=> [],kd:= .gone})
def agB (a:Addr):DCtr:=λm bl args=>match args with
 | [.ptr i 0 0, .ptr j 0 0]=>match m with
   |none=>some (true,none, [])
   |some (.iface t (.pointer (some b)))=>some (Nat.beq t 326&&(decide (b=a)&&(!Nat.beq i j&&(ahF 4 (bl i)&&ahF 1 (bl j)))),none, [ai2 bl j [.val (.int .i64 50)],ai2 bl i (yl noI)])
   |_=>none
 |_=>none
variable {n:Nat}
theorem ado {o:Option Blk} (h:ahF n o=true): ∃B,o=some B/\B.n=1/\B.sz=n/\B.kd= .own:=by
 cases o with
 |none=>cases h
 |some B=>
  simp only[ahF,za2] at h;obtain⟨h1,h2,h3⟩:=h;exact⟨B,rfl,zab h1,zab h2,by revert h3;cases B.kd<;>simp⟩
theorem agC (a:Addr) (B:Base) (hB:GlobEB a B):Wz prog B 202 (agB a):=by
 intro m bl β w args m' ch hbc hlv hk hch;refine⟨call202, ?_⟩;unfold agB at hk;split at hk
 ·rename_i i j;split at hk
  ·simp only[za1,zag,true_and] at hk;obtain⟨rfl,rfl⟩:=hk;refine(afN (addr β i 0 0) (addr β j 0 0) w).mono ?_;rintro e u' w' ⟨rfl,rfl,rfl⟩;exact⟨⟨_,rfl⟩,rfl,hbc⟩
  ·rename_i t b;simp only[za1,zag,za2,zdu,zap] at hk;obtain⟨⟨h1,rfl,h3,h4,h5⟩,rfl,rfl⟩:=hk;have h1:=zab h1;subst h1;obtain⟨C,hC,c1,c2,c3⟩:=ado h4;obtain⟨D,hD,d1,d2,d3⟩:=ado h5;have hij:i≠j:=λe=>by rw[e,bS] at h3;simp at h3
   have q:=hbc.blk i C hC (by rw[c3];simp);have r:=hbc.blk j D hD (by rw[d3];simp);have qn:=q.not_nil (e:=0) (by omega);have rn:=r.not_nil (e:=0) (by omega);have qlt:=q.lt qn;have rlt:=r.lt rn;have hne:(β i).blk≠(β j).blk:=λe=>hij (hbc.inj i j C D hC hD c3 d3 qn rn e);have qc: ∀k,k<4-> ∃x,w.cell? ⟨(β i).blk,(β i).off+k,none⟩=some x/\w.frozen? ⟨(β i).blk,(β i).off+k,none⟩=false:=λk hk=>by
    have hin:k<(β i).cap*C.sz:=by
     rw[c2];have:=q.le;have:1<=(β i).cap:=by omega
     omega
    obtain⟨x,hx⟩:=Option.isSome_iff_exists.1 (q.ex k hin);exact⟨x,hx,q.fr c3 k hin⟩
   have rin:0<(β j).cap*D.sz:=by
    rw[d2];have:=r.le;omega
   obtain⟨x0,e0,f0⟩:=qc 0 (by decide);obtain⟨x1,e1,f1⟩:=qc 1 (by decide);obtain⟨x2,e2,f2⟩:=qc 2 (by decide);obtain⟨x3,e3,f3⟩:=qc 3 (by decide);obtain⟨y,ey⟩:=Option.isSome_iff_exists.1 (r.ex 0 rin);have fy:=r.fr d3 0 rin;have ei:addr β i 0 0=⟨(β i).blk,(β i).off,none⟩:=by simp[addr]
   have ej:addr β j 0 0=⟨(β j).blk,(β j).off,none⟩:=by simp[addr]
   have key:=acW (β i).blk (β i).off (β j).blk (β j).off b [] w (hB w hbc.below).2 qlt rlt hne e0 e1 e2 e3 ey f0 f1 f2 f3 fy;rw[<-ei,<-ej] at key;refine key.mono ?_;rintro e u' w' ⟨rfl,rfl,rfl⟩;refine⟨⟨_,rfl⟩,rfl, ?_⟩;have s1:BC B bl β (wE w):=hbc.step (by unfold wE;exact(zdE _ w).alloc (za0 _) _);have s2:=s1.write hC c3 (e:=0) (o:=0) (cs:=yl noI) (by omega) (by show 0+4<=_;omega) (by simp[yl,Live,SV.ids]);have s3:=s2.write (id:=j) (B:=D) (by rw[ak (Ne.symm hij)];exact hD) d3 (e:=0) (o:=0) (cs:= [.val (.int .i64 50)]) (by omega) (by simp;omega) (by simp[Live,SV.ids]);have w1:(wE w).setCells (β i).blk ((β i).off+0*(β i).sz+0) (SV.concs β (yl noI))=(wE w).setCells (β i).blk (β i).off [es,es,es,es]:=by
    rw[zcE,zaY];rfl
   rw[w1] at s3;have w2: ∀v:World,v.setCells (β j).blk ((β j).off+0*(β j).sz+0) (SV.concs β [.val (.int .i64 50)])=v.setCell (addr β j 0 0) (.int .i64 50):=λv=>by
    simp[addr,SV.concs,SV.conc,World.setCells]
   rw[w2] at s3;simp only[chB,ai2,hC,hD];exact s3
  ·cases hk
 ·cases hk
def ai3 (a:Addr):MCtr:=λ_ _ args=>match args with
 | [.val (.bool true)]=>some {X:=Unit,pre:=true,spec:=λ_=>True,out:=λ_=> .tup [],ex:=λ_=>⟨(),trivial⟩}
 | [.val (.bool false)]=>some {X:=Unit,pre:=true,spec:=λ_=>True,out:=λ_=> .tup [],pan:=λ_=>some (evE a),ex:=λ_=>⟨(),trivial⟩}
 |_=>none
theorem ahG (hB:GlobEB a B):VU prog B 137 (ai3 a):=by
 intro bl β w nx args C hbc hit hnx hlv hk hp;unfold ai3 at hk;split at hk
 ·simp only[za1] at hk;subst hk;refine(ahA w).mono ?_;rintro e w' ⟨rfl,rfl⟩;exact⟨(),trivial,β,by show _=_;simp[SV.conc,SV.concs],abx hbc hnx (by simp[SV.ids,SV.idss]) (zdE _ _)⟩
 ·simp only[za1] at hk;subst hk;refine(ai0 a w (hB w hbc.below).2).mono ?_;rintro e w' ⟨rfl,rfl⟩;obtain⟨g1,g2,_⟩:=abx (s:= .tup []) hbc hnx (by simp[SV.ids,SV.idss]) (zdE _ w');exact⟨(),trivial,β,rfl,g1,g2,trivial⟩
 ·cases hk
def aeE:List FuncId:=
 142::
 135::
 132::
 76::
 67::
 131::
 138::
 70::
 136::
 69::
 134::
 71::
 75::
 145::
 73::
 140::
 68::
 133::
 65::
 137::
 130::
 202::
 204::
 205::
 144::
 143::
 141::
 139::
 260::
 159::
 214::
 23::
 64::
 72::
 74::
 25::
 24::
 262::
 157::
 148::
 82::
 216::
 80::
 66::
 129::
 247::
 246::
 155::
 78::
 261::
 215::
 84::
 154::
 206::
 83::
 156::
 3::
 8::
 22::
 9::
 7::
 5::
 4::
 6::
 20::
 17::
 v9
theorem ae8: ∀f∈aeE,V0 prog f:=by
 unfold aeE;simp only[zc3]
 exact⟨
  call142,
  call135,
  call132,
  call76,
  call67,
  call131,
  call138,
  call70,
  call136,
  call69,
  call134,
  call71,
  call75,
  call145,
  call73,
  call140,
  call68,
  call133,
  call65,
  call137,
  call130,
  call202,
  call204,
  call205,
  call144,
  call143,
  call141,
  call139,
  call260,
  call159,
  call214,
  call23,
  call64,
  call72,
  call74,
  call25,
  call24,
  call262,
  call157,
  call148,
  call82,
  call216,
  call80,
  call66,
  call129,
  call247,
  call246,
  call155,
  call78,
  call261,
  call215,
  call84,
  call154,
  call206,
  call83,
  call156,
  call3,
  call8,
  call22,
  call9,
  call7,
  call5,
  call4,
  call6,
  call20,
  call17,
  zG⟩
structure GEk (g:List (FuncId×Ctr)):Prop where
 all: ∀(a:Addr) (W:World),GlobE a W-> ∀p∈g,CtrOK prog W p.1 p.2/\V0 prog p.1
variable {g:List (FuncId×Ctr)}
theorem GEk.of (h:GOk g):GEk g:=⟨λ_ W hW=>h.all W hW.1⟩
variable {F:FuncId}
theorem GEk.cons {c:Ctr} (h:GEk g) (k: ∀(a:Addr) (W:World),GlobE a W->CtrOK prog W F c) (hc:V0 prog F):GEk ((F,c)::g):=⟨λa W hW p hp=>by
 rcases zai.1 hp with rfl|hp
 ·exact⟨k a W hW,hc⟩
 ·exact h.all a W hW p hp⟩
structure MEk (a:Addr) (gm:List (FuncId×MCtr)):Prop where
 all: ∀B:Base,GlobEB a B-> ∀p∈gm,VU prog B p.1 p.2
theorem MEk.nil:MEk a []:=⟨λ_ _ _ h=>by cases h⟩
variable {gm:zdY}
theorem MEk.of (h:MOk gm):MEk a gm:=⟨λB hB=>h.all B hB.gU⟩
variable {k:MCtr}
theorem MEk.cons (h:MEk a gm) (hk: ∀B:Base,GlobEB a B->VU prog B F k):MEk a ((F,k)::gm):=⟨λB hB p hp=>by
 rcases zai.1 hp with rfl|hp
 ·exact hk B hB
 ·exact h.all B hB p hp⟩
def dF (a:Addr):FuncId->Option DCtr:=λf=>bif Nat.beq f 202 then some (agB a) else tL f
theorem ac9 (hg:GEk g) (hm:MEk a gm) (hB:GlobEB a B):HypD prog B (iR aeE) (gw g) (gx gm) (dF a):=
 have h:Hyp prog B (iR aeE) (gw g) (gx gm):=mW (λp hp=>⟨CtrOK.base λw hw=>(hg.all a w (hB w hw) p hp).1,(hg.all a B.w (hB B.w (Pres.self B)) p hp).2⟩) (λB' s=>hm.all B' (hB.sub s)) ae8 (by kernel_rfl)
 ⟨h.gam,h.mem,λB' s f k hk=>by
   unfold dF at hk;cases hf:Nat.beq f 202 with
   |true=>
    rw[hf] at hk;simp only[zds,za1] at hk;subst hk;rw[zab hf];exact agC a B' (hB.sub s)
   |false=>
    rw[hf,zdr] at hk
    exact(P2 MOk.nil hB.gU).dem B' s f k hk,h.ok,h.mixed⟩
abbrev acb (a:Addr) (g:List (FuncId×Ctr)) (gm:zdY) (ann:zdW) (n:Nat) (f:FuncId) (args:zdL) (K:zdS):Prop:=wn prog (iR aeE) (gw g) (gx gm) (dF a) ann n f args (λ_=>none) 0 [] (Go.Sy.okK λr _ _ _=>K r)
variable {W0:World} {ann:zdW} {args:zdL} {r:SV}
theorem l0 (h:GEk g) (hm:MEk a gm) (hg:GlobE a W0) (hargs:SV.idss args= []) (hr:r.ids= []) (hrun:acb a g gm ann n F args (λs=>s=r)):Go.Sy.Yields prog W0 F args r:=by
 intro β w hb
 obtain⟨_,hc⟩:=mV (ac9 h hm (GlobEB.of (hg.below hb))) ann n F args (λ_=>none) 0 [] _ β w hrun (sP w β) (λ_ _=>rfl) (λs hs i hi=>by
  have:i∈SV.idss args:=SV.mem_idss.2 ⟨s,hs,hi⟩
  rw[hargs] at this;cases this)
 refine Calls.mono hc ?_;rintro e w' ⟨β',s,bl',nx',wl',he,hk,hbc,_⟩;cases s with
 |pan v=>exact hk.elim
 |ok s=>
 obtain rfl:e=_:=he;obtain rfl:s=_:=hk;exact⟨by rw[SV.conc_congr s (β:=β) (β':=β') (λi hi=>by rw[hr] at hi;cases hi)],hbc.below.below⟩
theorem acX {g n:Bool} {K:Prop} (h:n=true) (k:K):af (dC g n) K:=ac (by rw[h];cases g<;>rfl) k
def akf (x:Iv) (K:zdS):Prop:=
 af (uzR x.1) (af (dC (rV x.1) (uzR x.2)) (af (dC (bif rV x.1 then rV x.2 else false) (uzR x.1&&uzR x.2)) (K (cB.enc (bif (bif rV x.1 then rV x.2 else false) then decide (b9 x.1 x.2<=0) else false)))))
theorem ai4 (a:Addr) (x:Iv) (K:zdS):acb a Dh [] noA 6 65 [cIv.enc x] K=akf x K:=by kernel_rfl
variable {x:Iv}
theorem alu (h:uzI x=true):uzR x.1=true/\uzR x.2=true:=by unfold uzI at h;simpa using h
variable {K:zdS}
theorem afO (h:uzI x=true) (k:K (cB.enc (vI x))):akf x K:=by
 obtain⟨h1,h2⟩:=alu h;refine ac h1 (acX h2 (acX (by rw[h1,h2];rfl) ?_));have e:(bif (bif rV x.1 then rV x.2 else false) then decide (b9 x.1 x.2<=0) else false)=vI x:=by unfold vI;cases rV x.1<;>cases rV x.2<;>rfl
 rw[e];exact k
theorem agD:GEk Dh:=GEk.of WJ
def gV1:List (FuncId×Ctr):=(65,k1 cIv cB uzI vI)::Dh
theorem ae9:GEk gV1:=agD.cons (λa W hW=>dD λx h=>l0 agD (MEk.nil (a:=a)) hW (ann:=noA) (n:=6) m8 (cB.ids _) (by rw[ai4];exact afO (K:=λr=>r=_) h rfl)) call65
def aiG (x:Iv) (r:RS) (K:zdS):Prop:=
 af (uzI x) (af (dC (vI x) (uzR r)) (af (dC (bif vI x then rV r else false) (uzR x.1&&uzR r)) (af (dC (bif (bif vI x then rV r else false) then decide (b9 x.1 r<=0) else false) (uzR r&&uzR x.2))
  (K (cB.enc (bif (bif (bif vI x then rV r else false) then decide (b9 x.1 r<=0) else false) then decide (b9 r x.2<=0) else false))))))
theorem ahH (a:Addr) (x:Iv) (r:RS) (K:zdS):acb a gV1 [] noA 6 138 [cIv.enc x,cR.enc r] K=aiG x r K:=by kernel_rfl
theorem aeF {r:RS} (h:uzI x=true) (hr:uzR r=true) (k:K (cB.enc (ad2 x r))):aiG x r K:=by
 obtain⟨h1,h2⟩:=alu h;refine ac h (acX hr (acX (by rw[h1,hr];rfl) (acX (by rw[hr,h2];rfl) ?_)));have e:(bif (bif (bif vI x then rV r else false) then decide (b9 x.1 r<=0) else false) then decide (b9 r x.2<=0) else false)=ad2 x r:=by
  unfold ad2;cases vI x<;>cases rV r<;>cases decide (b9 x.1 r<=0)<;>rfl
 rw[e];exact k
def ak0 (r:RS) (K:zdS):Prop:=af (uzR r) (ag (!rV r) (K (cIv.enc noI)) (K (cIv.enc (r,r))))
theorem ai5 (a:Addr) (r:RS) (K:zdS):acb a Dh [] noA 6 71 [cR.enc r] K=ak0 r K:=by kernel_rfl
def gV2:List (FuncId×Ctr):=(138,k2 cIv cR cB (λx r=>uzI x&&uzR r) ad2)::(71,k1 cR cIv uzR ptI)::gV1
theorem aiH:GEk gV2:=
 (ae9.cons (λa W hW=>dD λr h=>l0 agD (MEk.nil (a:=a)) hW (ann:=noA) (n:=6) m8 (cIv.ids _) (by
     rw[ai5];refine ac h (ah (λe=> ?_) (λe=> ?_))
     ·unfold ptI;rw[show rV r=false by simpa using e];rfl
     ·unfold ptI
      rw[show rV r=true by simpa using e];rfl)) call71).cons
   (λa W hW=>bC λx r h=>by
     rw[za2] at h
     exact l0 ae9 (MEk.nil (a:=a)) hW (ann:=noA) (n:=6) de (cB.ids _) (by rw[ahH];exact aeF (K:=λr=>r=_) h.1 h.2 rfl)) call138
@[irreducible] def XC (a:Addr) (g:List (FuncId×Ctr)) (gm:zdY) (ann:zdW) (n:Nat) (f:FuncId) (args:zdL) (Cs:zdV) (K:Aft):Prop:=
 Ay prog (iR aeE) (gw g) (gx gm) (dF a) ann n f args (λi=>Cs[i]?) Cs.length [] K
variable {f:FuncId} {Cs:zdV}
theorem afP {K K':Aft} (h:XC a g gm ann n f args Cs K) (hm: ∀r b n w,K r b n w->K' r b n w):XC a g gm ann n f args Cs K':=by
 unfold XC at h ⊢;exact NiceT.mono (Ea _ _ _ _ _ _ f args _ _ _ (λi hi=>zad hi)) h λr b n w _=>hm r b n w
theorem agE (hg:GEk g) (hm:MEk a gm) (h: ∀(bl:zdN) (nx:Nat) (args:zdL) (C:RC),k bl nx args=some C->C.pre=true->
 ∃(src:zdU) (Cs:zdV) (args0:zdL) (ann:zdW) (n:Nat),yw bl (rnF src [] nx) src Cs/\Kr src Cs/\Far src Cs/\SV.rns (rnF src [] nx) args0=some args/\XC a g gm ann n F args0 Cs (KB C src Cs nx)):
 ∀B:Base,GlobEB a B->VU prog B F k:=λB hB=>c8 (λB' hs=>ac9 hg hm (hB.sub hs)) λbl nx args C hk hp=>by
 have:=h bl nx args C hk hp;unfold XC at this;exact this
theorem kbE {C:RC} {src:zdU} {nx:Nat} (x:C.X) (hx:C.spec x) (h1:C.pan x=none) (h2:r.ids= []) (h3:C.out x=r) (h4:C.nw x= []) (h5:C.ch x= []) (h6: ∀C∈Cs,cN C.kd=false) (hl:src.length=Cs.length)
 (h:XC a g gm ann n f args Cs (Go.Sy.okK λs _ _ _=>s=r)):XC a g gm ann n f args Cs (KB C src Cs nx):=afP h λq b m w hq=>by
 cases q with
 |pan v=>exact hq.elim
 |ok s=>
  obtain rfl:s=r:=hq;exact IG x hx h1 h2 h3 h4 h5 h6 hl
def gMn:List (FuncId×Ctr):= [(93,k2 cR cR cI (λa b=>uzR a&&uzR b) b9)]
theorem akg:GEk gMn:=(GEk.of GOk.nil).cons (λa W hW=>(Li hW.1 (93,k2 cR cR cI (λa b=>uzR a&&uzR b) b9) (by simp[qH])).1) call93
def adp (t:RS->RS->Bool):List RS->RS->(zdS)->Prop
 | [],m,K=>K (cR.enc m)
 |x::r,m,K=>af (uzR x&&uzR m) (ag (t x m) (adp t r x K) (adp t r m K))
theorem ahI (a:Addr) (p q r s:RS) (K:zdS):XC a gMn [] noA 5 246 [.slc 0 0 4, .fn (.func 93) [] []] [eR.old [p,q,r,s]] (Go.Sy.okK λr _ _ _=>K r)=adp (λx m=>decide (b9 x m<0)) [q,r,s] p K:=by kernel_rfl
theorem ahJ (a:Addr) (p q r s:RS) (K:zdS):XC a gMn [] noA 5 247 [.slc 0 0 4, .fn (.func 93) [] []] [eR.old [p,q,r,s]] (Go.Sy.okK λr _ _ _=>K r)=adp (λx m=>decide (b9 x m>0)) [q,r,s] p K:=by kernel_rfl
def R7 (t:RS->RS->Bool):List RS->RS->RS
 | [],m=>m
 |x::r,m=>R7 t r (bif t x m then x else m)
theorem ad5: ∀(l:List RS) (m:RS),R7 (λx m=>decide (b9 x m<0)) l m=aey l m
 | [],m=>rfl
 |x::r,m=>ad5 r _
theorem ad6: ∀(l:List RS) (m:RS),R7 (λx m=>decide (b9 x m>0)) l m=aez l m
 | [],m=>rfl
 |x::r,m=>ad6 r _
theorem acY {t:RS->RS->Bool} {K:zdS}: ∀{l:List RS} {m:RS},(∀x∈l,uzR x=true)->uzR m=true->K (cR.enc (R7 t l m))->adp t l m K
 | [],m,_,_,k=>k
 |x::r,m,hl,hm,k=>by
  have hx:=hl x (by simp);have hr: ∀y∈r,uzR y=true:=λy hy=>hl y (by simp[hy]);refine ac (by rw[hx,hm];rfl) (ah (λh=>acY hr hx ?_) (λh=>acY hr hm ?_))
  ·rw[R7,h] at k;exact k
  ·rw[R7,h] at k;exact k
def adD (t:RS->RS->Bool):MCtr:=λbl _ args=>match args with
 | [s, .fn (.func g) [] []]=>match vW bl 2 s with
   |some (b,_,n,c)=>some {X:=Unit,pre:=Nat.beq g 93&&b&&Nat.beq n 4&&eR.good uzR n c,spec:=λ_=>True,out:=λ_=>cR.enc (R7 t [NH (c 1),NH (c 2),NH (c 3)] (NH (c 0))),ex:=λ_=>⟨(),trivial⟩}
   |none=>none
 |_=>none
theorem adq {t:RS->RS->Bool} (hvc: ∀(p q r s:RS) (K:zdS),XC a gMn [] noA 5 F [.slc 0 0 4, .fn (.func 93) [] []] [eR.old [p,q,r,s]] (Go.Sy.okK λr _ _ _=>K r)=adp t [q,r,s] p K):
 ∀B:Base,GlobEB a B->VU prog B F (adD t):=agE akg MEk.nil λbl nx args C hk hp=>by
 unfold adD at hk;split at hk
 ·rename_i s g;split at hk
  ·rename_i b o n c hs;simp only[za1] at hk;subst hk;simp only[za2] at hp;obtain⟨⟨⟨hg,rfl⟩,hn⟩,hgood⟩:=hp;obtain rfl:=zab hg;obtain rfl:=zab hn;obtain⟨t1,t2⟩:=cq (f:=rnF [o] [] nx) hs hgood;have hl:eR.list 4 c= [NH (c 0),NH (c 1),NH (c 2),NH (c 3)]:=rfl;have gl:=El.good_list hgood;rw[hl] at gl t1 t2;refine⟨[o], [eR.old [NH (c 0),NH (c 1),NH (c 2),NH (c 3)]], [.slc 0 0 4, .fn (.func 93) [] []],noA,5,aw t1 trivial,bH (by simp[cN,El.old]),cd (by simp[El.old,BK.map]),ar (t2 0 rfl) rfl, ?_⟩;refine kbE () trivial rfl (r:=cR.enc (R7 t [NH (c 1),NH (c 2),NH (c 3)] (NH (c 0)))) (cR.ids _) rfl rfl rfl (by simp[cN,El.old]) rfl ?_;rw[hvc];exact acY (λx hx=>gl x (zan _ hx)) (gl _ (by simp)) rfl
  ·cases hk
 ·cases hk
theorem afQ (n:Nat) (l:zdJ):val 10 (List.replicate n 0++l)=10^n*val 10 l:=by
 have e0: ∀n,val 10 (List.replicate n 0)=0:=by
  intro n
  induction n with
  |zero=>rfl
  |succ n ih=>rw[zce,val,ih]
 rw[alj,e0,zcx,za7]
def afR (p:Nat):zdI:=⟨(49::List.replicate p 48).toArray⟩
theorem adr (p:Nat):(afR p).data.toList=49::List.replicate p 48:=rfl
theorem ads (p:Nat):body (49::List.replicate p 48)=49::List.replicate p 48:=by simp[body]
theorem afa {p:Nat} (h:p<200):vS (afR p)=true:=by
 unfold vS;rw[adr];refine Nq ?_ ?_ ?_ ?_<;>rw[ads]
 ·simp
 ·simp;omega
 ·intro c hc;rcases zai.1 hc with h|h
  ·subst h;decide
  ·rw[List.eq_of_mem_replicate h];decide
 ·right;simp
theorem afb (p:Nat):nS (afR p)=ten p:=by
 unfold nS ten;rw[adr];unfold toI;rw[if_neg (by simp),ads]
 congr 1
 unfold bm;rw[List.reverse_cons,zb8,List.reverse_replicate,List.map_replicate,show dv 48=0 from rfl,afQ];simp[val,show dv 49=1 from rfl]
theorem afc {p:Nat} (h:p<200):ofI (ten p)=afR p:=by rw[<-afb,jc (afa h)]
def lR (r:RS) (p:Int) (up:Bool):RS×Int:=if rV r&&decide (0<=p/\p<=30)&&aq (nS r.1*ten p.toNat) then
 rMk (if up&&decide (nS r.1*ten p.toNat%nS r.2≠0) then nS r.1*ten p.toNat / nS r.2+1 else nS r.1*ten p.toNat / nS r.2) (ten p.toNat) else(noR,40)
theorem ad7 (r:RS) (p:Int):lR r p false=acv r p:=by unfold lR acv;simp
theorem afS (r:RS) (p:Int):lR r p true=rUp r p:=by
 unfold lR rUp;split
 ·congr 1
  by_cases h:nS r.1*ten p.toNat%nS r.2=0<;>simp[h]
 ·rfl
theorem ai6 {n d:zdI} (hn:vS n=true) (hd:vS d=true) (h0:0<nS d):vS (ofI (nS n / nS d))=true/\vS (ofI (nS n%nS d))=true:=by
 have e1:=cD n;have e2:=cD d;refine⟨gj ?_,gj ?_⟩
 ·rw[e1,e2];exact lS (by omega) (br hn) _ _
 ·rw[e1,e2];exact lT (by omega) (br hd) _ _
def agF (k:Nat):zdI:=⟨(List.replicate k 48).toArray⟩
def ai7:List FuncId:=208::146::147::NV
theorem ahK: ∀f∈ai7,V0 prog f:=by
 unfold ai7;simp only[zc3];exact⟨call208,call146,call147,KM⟩
abbrev SX (g:List (FuncId×Ctr)) (n:Nat) (f:FuncId) (args:zdL) (K:zdS):Prop:=wq prog (iR ai7) (gw g) (gx []) noA n f args (λ_=>none) 0 [] (Go.Sy.okK λr _ _ _=>K r)
theorem acJ (h:GOk g) (hg:GlobU W0) (ha:SV.idss args= []) (hr:r.ids= []) (hrun:SX g n F args λs=>s=r):Go.Sy.Yields prog W0 F args r:=
 eo (λW hb=>mW (h.all W (hg.below hb)) (λ_ _ _ h=>by cases h) ahK (by kernel_rfl)) ha hr hrun
abbrev ai8:Ctr:=k2 cS cI cS (λs p=>seq s ⟨#[48]⟩&&decide (0<=p)&&decide (p<=30)) (λ_ p=>agF p.toNat)
theorem afd:CtrOK prog W 206 ai8:=bC λs p h=>by
 simp only[za2,zdu] at h;obtain rfl:=We.1 h.1.1;intro β w hb;refine(AI p w h.1.2 (by omega)).mono ?_;rintro e w' ⟨rfl,h2⟩;exact⟨rfl,h2⟩
def gD1:List (FuncId×Ctr):= [(41,k1 cR cB uzR rV)]
def gD2:List (FuncId×Ctr):= [(41,k1 cR cB (λa=>uzR a&&rV a) λ_=>true),(206,ai8),(189,k2 cS cS cSI (λa b=>pS2 a b&& !aq (nS a*nS b)) λ_ _=>(⟨#[]⟩,30))]
def gD3:List (FuncId×Ctr):=(206,ai8)::wS
def bd9 (p:Int):Bool:=bif decide (p<0) then true else decide (p>30)
def ai9 (r:RS) (p:Int) (K:zdS):Prop:=af (dC (!bd9 p) (uzR r)) (af (bif bd9 p then true else !rV r) (K uD))
theorem agG (r:RS) (p:Int) (K:zdS):SX gD1 6 146 [cR.enc r,cI.enc p] K=ai9 r p K:=by kernel_rfl
theorem aja (r:RS) (p:Int) (K:zdS):SX gD1 6 147 [cR.enc r,cI.enc p] K=ai9 r p K:=by kernel_rfl
def acj (p:Int):zdI:=⟨#[49]⟩++agF p.toNat
def b19 (p:Int):Bool:=bif bd9 p then true else !true
def ahL (r:RS) (p:Int) (K:zdS) (D X:Prop):Prop:=
 af (dC (!bd9 p) (uzR r&&rV r)) (ag (b19 p) (K uD) (af (seq ⟨#[48]⟩ ⟨#[48]⟩&&decide (0<=p)&&decide (p<=30)) (af (decide ((⟨#[49]⟩:zdI).size+(agF p.toNat).size<=9223372036854775807)) (ag (b19 p) (ag (b19 p) (K uD) D) X))))
def ajb (r:RS) (p:Int) (K:zdS):Prop:=ahL r p K False (af (pS2 r.1 (acj p)&& !aq (nS r.1*nS (acj p))) (K uD))
def ajc (up:Bool) (r:RS) (p:Int) (K:zdS) (n:zdI):Prop:=
 let q:=ofI (nS n / nS r.2)
 af (pS2 n r.2&&decide (nS r.2≠0)) (ag (bif up then !seq (ofI (nS n%nS r.2)) s0 else false)
  (af (pS2 q s1&&aq (nS q+nS s1)) (CB (ofI (nS q+nS s1)) (acj p) K)) (CB q (acj p) K))
def ahM (up:Bool) (r:RS) (p:Int) (K:zdS):Prop:=
 ahL r p K (ajc up r p K ⟨#[]⟩) (af (pS2 r.1 (acj p)&&aq (nS r.1*nS (acj p))) (ajc up r p K (ofI (nS r.1*nS (acj p)))))
theorem agH (r:RS) (p:Int) (K:zdS):SX gD2 6 146 [cR.enc r,cI.enc p] K=ajb r p K:=by kernel_rfl
theorem ajd (r:RS) (p:Int) (K:zdS):SX gD2 6 147 [cR.enc r,cI.enc p] K=ajb r p K:=by kernel_rfl
theorem agI (r:RS) (p:Int) (K:zdS):SX gD3 6 146 [cR.enc r,cI.enc p] K=ahM false r p K:=by kernel_rfl
theorem aje (r:RS) (p:Int) (K:zdS):SX gD3 6 147 [cR.enc r,cI.enc p] K=ahM true r p K:=by kernel_rfl
variable {p:Int}
theorem ahN (h0:0<=p):acj p=afR p.toNat:=by
 unfold acj agF afR;apply gT;simp[ByteArray.toList_data_append]
theorem aiI:GOk gD1:=GOk.nil.cons (λW hW=>yS hW) call41
theorem akh:GOk gD3:=WG.cons (λW hW=>afd) call206
theorem aki:GOk gD2:=
 ((GOk.nil.cons (λW hW=>ow (λ_=>rfl) (λ_=>rfl) ((WR.all W hW (189,k2 cS cS cSI uz2 bM) (by simp[mZ])).1) λa b h=>by
    simp only[za2,zap] at h;have:=V3.1 h.1;refine⟨aX (bO this.1) (bO this.2), ?_⟩;rw[dg this.1 this.2];unfold Yk.chkI
    rw[if_neg (λe=>by rw[V1.2 e] at h;cases h.2)];rfl) call189).cons (λW hW=>afd) call206).cons (λW hW=>CA (yS hW) λa h=>by
    rw[za2] at h;exact h) call41
theorem afe {r:RS} {D X:Prop} (hr:uzR r=true) (hv:rV r=true) (h0:0<=p) (h1:p<=30) (k:X):ahL r p K D X:=by
 have hb:b19 p=false:=by unfold b19 bd9;rw[zdt (show ¬p<0 by omega),zdt (show ¬p>30 by omega)];rfl
 unfold ahL;rw[hb];refine ac (fU (by rw[hr,hv];rfl)) (ac (by rw[zdq h0,zdq h1];decide) (ac (zdq ?_) k));unfold agF;have:(⟨(List.replicate p.toNat 48).toArray⟩:zdI).size=p.toNat:=by rw[<-bj];simp
 rw[this];show 1+p.toNat<=_;omega
theorem ad8 {up:Bool} (hW:GlobU W) {r:RS} (hr:uzR r=true) (vA: ∀K,SX gD1 6 F [cR.enc r,cI.enc p] K=ai9 r p K)
 (vB: ∀K,SX gD2 6 F [cR.enc r,cI.enc p] K=ajb r p K) (vC: ∀K,SX gD3 6 F [cR.enc r,cI.enc p] K=ahM up r p K):Go.Sy.Yields prog W F [cR.enc r,cI.enc p] (cRE.enc (lR r p up)):=by
 have idsRI:SV.idss [cR.enc r,cI.enc p]= []:=de;by_cases hp:0<=p/\p<=30
 ·have hb:bd9 p=false:=by unfold bd9;rw[zdt (show ¬p<0 by omega),zdt (show ¬p>30 by omega)];rfl
  cases hv:rV r with
  |false=>
   have e:lR r p up=(noR,40):=by unfold lR;rw[hv];simp
   exact acJ aiI (n:=6) hW idsRI (cRE.ids _) (by rw[vA,e];exact ac (fU hr) (ac (by rw[hb,hv];rfl) rfl))
  |true=>
   have hk:p.toNat<200:=by omega
   have t1:=ahN hp.1;have t2:vS (acj p)=true:=by rw[t1];exact afa hk
   have t3:nS (acj p)=ten p.toNat:=by rw[t1];exact afb _
   obtain⟨v1,v2,v3,_⟩:=ay hv;cases hs:aq (nS r.1*ten p.toNat) with
   |false=>
    have e:lR r p up=(noR,40):=by unfold lR;rw[hs];simp
    exact acJ aki (n:=6) hW idsRI (cRE.ids _) (by
     rw[vB,e]
     exact afe hr hv hp.1 hp.2 (ac (by rw[V3.2 ⟨v1,t2⟩,t3,hs];rfl) rfl))
   |true=>
    have n1:vS (ofI (nS r.1*ten p.toNat))=true:=dG hs;obtain⟨q1,q2⟩:=ai6 n1 v2 v3;rw[aI] at q1 q2;have e:lR r p up=rMk (if up&&decide (nS r.1*ten p.toNat%nS r.2≠0) then nS r.1*ten p.toNat / nS r.2+1 else nS r.1*ten p.toNat / nS r.2) (ten p.toNat):=by
     unfold lR;rw[if_pos (by simp[hv,hp.1,hp.2,hs])]
    exact acJ akh (n:=6) hW idsRI (cRE.ids _) (by
     rw[vC,e];unfold ahM ajc;dsimp only;rw[t3];refine afe hr hv hp.1 hp.2 (ac (by rw[V3.2 ⟨v1,t2⟩,hs];rfl) (ac (by rw[V3.2 ⟨n1,v2⟩,zdq (show nS r.2≠0 by omega)];rfl) ?_));rw[aI,aI];have z:seq (ofI (nS r.1*ten p.toNat%nS r.2)) s0=decide (nS r.1*ten p.toNat%nS r.2=0):=by rw[m6 q2,aI]
     rw[z];refine ah (λh=> ?_) (λh=> ?_)
     ·have hu:up=true/\nS r.1*ten p.toNat%nS r.2≠0:=by
       cases up with
       |false=>cases h
       |true=>exact⟨rfl,by simpa using h⟩
      rw[if_pos (by simp[hu.1,hu.2])];have sq:aq (nS r.1*ten p.toNat / nS r.2+1)=true:=by
       have hN:=V1.1 hs;rw[V1];have e1:=Int.emod_add_mul_ediv (nS r.1*ten p.toNat) (nS r.2);have e2:=zcm (nS r.1*ten p.toNat) (b:=nS r.2) (by omega);have e3:=zcP (nS r.1*ten p.toNat) v3;generalize nS r.1*ten p.toNat=N at*
       generalize hQ:N / nS r.2=Q at*
       generalize hM:N%nS r.2=M at*
       have hd1:nS r.2≠1:=λe=>by rw[e] at e3;omega
       have hM0:M≠0:=hu.2;by_cases hQ0:0<=Q
       ·have:2*Q<=nS r.2*Q:=Int.mul_le_mul_of_nonneg_right (by omega) hQ0;omega
       ·obtain⟨R,hR⟩: ∃R,Q= -R - 1:=⟨-Q - 1,by omega⟩;have h1:1*R<=nS r.2*R:=Int.mul_le_mul_of_nonneg_right (by omega) (by omega);have h2:nS r.2*Q= -(nS r.2*R) - nS r.2:=by rw[hR,Int.mul_sub,Int.mul_one,zbM]
        omega
      refine ac (by rw[V3.2 ⟨q1,by decide⟩,show nS s1=1 by decide,sq];rfl) ?_;rw[show nS s1=1 by decide];refine m7 (dG sq) t2 ?_;rw[show acj p=ofI (ten p.toNat) by rw[t1,afc hk],gM]
     ·have hu: ¬((up&&decide (nS r.1*ten p.toNat%nS r.2≠0))=true):=by
       cases up with
       |false=>simp
       |true=>simpa using h
      rw[if_neg hu];refine m7 q1 t2 ?_
      rw[show acj p=ofI (ten p.toNat) by rw[t1,afc hk],gM])
 ·have hb:bd9 p=true:=by
   unfold bd9;by_cases h:p<0
   ·rw[zdq h];rfl
   ·rw[zdt h,zdq (show p>30 by omega)];rfl
  have e:lR r p up=(noR,40):=by unfold lR;rw[show decide (0<=p/\p<=30)=false from zdt hp];simp
  exact acJ aiI (n:=6) hW idsRI (cRE.ids _) (by rw[vA,e];exact ac (fU hr) (ac (by rw[hb];rfl) rfl))
theorem ahO (hW:GlobU W):CtrOK prog W 146 (k2 cR cI cRE (λr _=>uzR r) acv):=bC λr p h=>by
 rw[<-ad7];exact ad8 hW h (agG r p) (agH r p) (agI r p)
theorem akj (hW:GlobU W):CtrOK prog W 147 (k2 cR cI cRE (λr _=>uzR r) rUp):=bC λr p h=>by
 rw[<-afS];exact ad8 hW h (aja r p) (ajd r p) (aje r p)
def acZ (f:RS->RS->RS×Int) (a b:RS):Bool:=uzR a&&uzR b&&(f a b).2==0
def aeG (f:RS->Int->RS×Int) (a:RS) (p:Int):Bool:=uzR a&&(f a p).2==0
abbrev kS2 (f:RS->RS->RS×Int):Ctr:=k2 cR cR cRE (acZ f) (λa b=>((f a b).1,0))
abbrev kSD (f:RS->Int->RS×Int):Ctr:=k2 cR cI cRE (aeG f) (λa p=>((f a p).1,0))
def gS:List (FuncId×Ctr):= [(44,kS2 fZ),(45,kS2 iF),(46,kS2 ale),(47,kS2 cA),(146,kSD acv),(147,kSD rUp),
 (65,k1 cIv cB (λx=>uzI x&&vI x) λ_=>true),(138,k2 cIv cR cB (λx r=>uzI x&&uzR r&& !ad2 x r) λ_ _=>false)]
theorem ahP {f:RS->RS->RS×Int} {a b:RS} (h:acZ f a b=true):(uzR a&&uzR b)=true/\f a b=((f a b).1,0):=by
 unfold acZ at h;rw[za2,zdz] at h;exact⟨h.1,zc8 rfl h.2⟩
theorem aff {f:RS->Int->RS×Int} {a:RS} (h:aeG f a p=true):uzR a=true/\f a p=((f a p).1,0):=by
 unfold aeG at h;rw[za2,zdz] at h;exact⟨h.1,zc8 rfl h.2⟩
theorem agJ:GEk gS:=by
 have dR: ∀a:RS,cR.dec (cR.enc a)=some a:=λ_=>rfl;have dI: ∀a:Int,cI.dec (cI.enc a)=some a:=λ_=>rfl;have R: ∀{F:FuncId} {f:RS->RS->RS×Int},(F,k2 cR cR (cP cR cI) (λa b=>uzR a&&uzR b) f)∈qH-> ∀(a:Addr) (W:World),GlobE a W->CtrOK prog W F (kS2 f):=λhm a W hW=>ow dR dR (Li hW.1 _ hm).1 λa b h=>ahP h
 refine((((((((GEk.of GOk.nil).cons (λa W hW=>ow (λx=>rfl) dR (aiH.all a W hW (138,k2 cIv cR cB (λx r=>uzI x&&uzR r) ad2) (by simp[gV2])).1 λx r h=> ?_) call138).cons
  (λa W hW=>CA (ae9.all a W hW (65,k1 cIv cB uzI vI) (by simp[gV1])).1 λx h=> ?_) call65).cons (λa W hW=>ow dR dI (akj hW.1) λr p h=>aff h) call147).cons (λa W hW=>ow dR dI (ahO hW.1) λr p h=>aff h) call146).cons
  (R (F:=47) (f:=cA) (by simp[qH])) call47).cons (R (F:=46) (f:=ale) (by simp[qH])) call46).cons (R (F:=45) (f:=iF) (by simp[qH])) call45).cons (R (F:=44) (f:=fZ) (by simp[qH])) call44
 ·simp only[za2,zap] at h;exact⟨by rw[h.1.1,h.1.2];rfl,h.2⟩
 ·rw[za2] at h;exact h
def gmS (a:Addr):zdY:= [(137,ai3 a),(246,adD λx m=>decide (b9 x m<0)),(247,adD λx m=>decide (b9 x m>0))]
theorem ac0:MEk a (gmS a):=((MEk.nil.cons (adq (ahJ a))).cons (adq (ahI a))).cons λB hB=>ahG hB
def U9 (K:Prop):Prop:=Unit->True->K
def vv9 (x y:Iv) (K:Prop):Prop:=af (uzI x&&vI x) (af (uzI y&&vI y) (U9 K))
def ajf (f:RS->RS->RS×Int) (p q r s:RS) (K:zdS):Prop:=af (acZ f p q) (U9 (af (acZ f r s) (U9 (K ((cP cIv cI).enc (((f p q).1,(f r s).1),0))))))
theorem ahQ (a:Addr) (x y:Iv) (K:zdS):acb a gS (gmS a) noA 8 67 [cIv.enc x,cIv.enc y] K=vv9 x y (ajf fZ x.1 y.1 x.2 y.2 K):=by kernel_rfl
theorem ahR (a:Addr) (x y:Iv) (K:zdS):acb a gS (gmS a) noA 8 68 [cIv.enc x,cIv.enc y] K=vv9 x y (ajf iF x.1 y.2 x.2 y.1 K):=by kernel_rfl
def afT (a b c d:RS):zdO:=je (gA a++gA b++gA c++gA d) 2
def ahS (a b c d:RS):Bool:=Nat.beq 93 93&&(Nat.ble 4 4&&Nat.beq 2 2&&true)&&Nat.beq 4 4&&eR.good uzR 4 (afT a b c d)
def ajg (t:RS->RS->Bool) (a b c d:RS):RS:=R7 t [NH (afT a b c d 1),NH (afT a b c d 2),NH (afT a b c d 3)] (NH (afT a b c d 0))
def afg (f:RS->RS->RS×Int) (x y:Iv) (K:zdS):Prop:=
 af (acZ f x.1 y.1) (U9 (af (acZ f x.1 y.2) (U9 (af (acZ f x.2 y.1) (U9 (af (acZ f x.2 y.2) (U9 (af (ahS (f x.1 y.1).1 (f x.1 y.2).1 (f x.2 y.1).1 (f x.2 y.2).1) (U9 (af (ahS (f x.1 y.1).1 (f x.1 y.2).1 (f x.2 y.1).1 (f x.2 y.2).1) (U9
  (K ((cP cIv cI).enc ((ajg (λx m=>decide (b9 x m<0)) (f x.1 y.1).1 (f x.1 y.2).1 (f x.2 y.1).1 (f x.2 y.2).1,ajg (λx m=>decide (b9 x m>0)) (f x.1 y.1).1 (f x.1 y.2).1 (f x.2 y.1).1 (f x.2 y.2).1),0))))))))))))))
theorem ahT (a:Addr) (x y:Iv) (K:zdS):acb a gS (gmS a) noA 8 69 [cIv.enc x,cIv.enc y] K=vv9 x y (afg ale x y K):=by kernel_rfl
theorem ahU (a:Addr) (x y:Iv) (K:zdS):acb a gS (gmS a) noA 8 70 [cIv.enc x,cIv.enc y] K=vv9 x y (af (uzI y&&uzR zR&& !ad2 y zR) (U9 (afg cA x y K))):=by kernel_rfl
def ak1 (x:Iv) (p:Int) (K:zdS):Prop:=af (uzI x&&vI x) (U9 (af (aeG acv x.1 p) (U9 (af (aeG rUp x.2 p) (U9 (K ((cP cIv cI).enc (((acv x.1 p).1,(rUp x.2 p).1),0))))))))
theorem ahV (a:Addr) (x:Iv) (p:Int) (K:zdS):acb a gS (gmS a) noA 8 75 [cIv.enc x,cI.enc p] K=ak1 x p K:=by kernel_rfl
end Go.Proofs.YtfokhpciehfdnaaGreatDoor
namespace Yk
open Go Go.Sy
structure InI (x:Iv) (q:Rat):Prop where
 l:rV x.1=true
 h:rV x.2=true
 lo:qV x.1<=q
 hi:q<=qV x.2
theorem afh {a b:RS} (ha:rV a=true) (hb:rV b=true):decide (b9 a b<=0)=decide (qV a<=qV b):=by
 rw[rD ha hb];exact decide_eq_decide.2 J1
variable {x:Iv}
theorem ajh:vI x=true↔rV x.1=true/\rV x.2=true/\qV x.1<=qV x.2:=by
 unfold vI;simp only[za2];constructor
 ·rintro⟨⟨h1,h2⟩,h3⟩;rw[afh h1 h2] at h3;exact⟨h1,h2,zdv h3⟩
 ·rintro⟨h1,h2,h3⟩;exact⟨⟨h1,h2⟩,by rw[afh h1 h2];exact zdq h3⟩
theorem InI.v {q:Rat} (h:InI x q):vI x=true:=ajh.2 ⟨h.l,h.h,Rat.le_trans h.lo h.hi⟩
variable {c:Iv}
theorem alr {l h:RS×Int} (e:ad3 l h=(c,0)):l.2=0/\h.2=0/\c=(l.1,h.1):=by
 unfold ad3 at e;cases hl:l.2==0 with
 |false=>rw[hl] at e;exact absurd (show (50:Int)=0 from congrArg Prod.snd e) (by decide)
 |true=>
  cases hh:h.2==0 with
  |false=>rw[hl,hh] at e;exact absurd (show (50:Int)=0 from congrArg Prod.snd e) (by decide)
  |true=>
   rw[hl,hh] at e;simp only[zdz] at hl hh;exact⟨hl,hh,(congrArg Prod.fst e).symm⟩
theorem dL {b:Bool} {x:Iv×Int} (e:(bif b then x else R6)=(c,0)):b=true/\x=(c,0):=by
 cases b with
 |false=>exact absurd (show (50:Int)=0 from congrArg Prod.snd e) (by decide)
 |true=>exact⟨rfl,e⟩
theorem ac1 {a b c d:RS×Int} (e:ae6 a b c d=(x,0)):a.2=0/\b.2=0/\c.2=0/\d.2=0/\x=(aey [b.1,c.1,d.1] a.1,aez [b.1,c.1,d.1] a.1):=by
 obtain⟨h,e⟩:=dL e;simp only[za2,zdz] at h;exact⟨h.1.1.1,h.1.1.2,h.1.2,h.2,(congrArg Prod.fst e).symm⟩
end Yk
namespace Go.Proofs.YtfokhpciehfdnaaGreatDoor
open Go.Proofs.Tryz
open Go Go.RowKit Go.Sy Yk
def ad9 (f:Iv->Iv->Iv×Int) (x y:Iv):Bool:=uzI x&&uzI y&&(f x y).2==0
def afU (f:Iv->Int->Iv×Int) (x:Iv) (p:Int):Bool:=uzI x&&(f x p).2==0
abbrev cIE:=cP cIv cI
abbrev kI2 (f:Iv->Iv->Iv×Int):Ctr:=k2 cIv cIv cIE (ad9 f) (λx y=>((f x y).1,0))
abbrev kID (f:Iv->Int->Iv×Int):Ctr:=k2 cIv cI cIE (afU f) (λx p=>((f x p).1,0))
variable {x y:Iv}
theorem acK {f:Iv->Iv->Iv×Int} (h:ad9 f x y=true):uzI x=true/\uzI y=true/\f x y=((f x y).1,0):=by
 unfold ad9 at h;rw[za2,za2,zdz] at h;exact⟨h.1.1,h.1.2,zc8 rfl h.2⟩
variable {p:Int}
theorem ahW {f:Iv->Int->Iv×Int} (h:afU f x p=true):uzI x=true/\f x p=((f x p).1,0):=by
 unfold afU at h;rw[za2,zdz] at h;exact⟨h.1,zc8 rfl h.2⟩
variable {K:Prop}
theorem s8 (k:K):U9 K:=λ_ _=>k
theorem adE (hx:uzI x=true) (hy:uzI y=true) (hv:vI x=true) (hw:vI y=true) (k:K):vv9 x y K:=
 ac (by rw[hx,hv];rfl) (ac (by rw[hy,hw];rfl) (s8 k))
variable {f:RS->RS->RS×Int} {b:RS}
theorem alJ {a:RS} (ha:uzR a=true) (hb:uzR b=true) (h:(f a b).2=0):acZ f a b=true:=by unfold acZ;rw[ha,hb,h];rfl
theorem afi {f:RS->Int->RS×Int} {a:RS} (ha:uzR a=true) (h:(f a p).2=0):aeG f a p=true:=by unfold aeG;rw[ha,h];rfl
theorem afj {p q r s:RS} {K:zdS} (hp:uzR p=true) (hq:uzR q=true) (hr:uzR r=true) (hs:uzR s=true) (h1:(f p q).2=0) (h2:(f r s).2=0) (k:K (cIE.enc (((f p q).1,(f r s).1),0))):ajf f p q r s K:=
 ac (alJ hp hq h1) (s8 (ac (alJ hr hs h2) (s8 k)))
theorem ahX {a c d:RS} (ha:uzR a=true) (hb:uzR b=true) (hc:uzR c=true) (hd:uzR d=true):ahS a b c d=true:=by
 have g:eR.good uzR 4 (afT a b c d)=true:=El.good_iff.2 λe he=>by
  rcases(show e=0\/e=1\/e=2\/e=3 by omega) with rfl|rfl|rfl|rfl
  ·exact⟨rfl,ha⟩
  ·exact⟨rfl,hb⟩
  ·exact⟨rfl,hc⟩
  ·exact⟨rfl,hd⟩
 unfold ahS;rw[g,Nat.beq_refl];rfl
theorem afk (t:RS->RS->Bool) (a b c d:RS):ajg t a b c d=R7 t [b,c,d] a:=rfl
theorem aea {K:zdS} (hz: ∀a b,uzR (f a b).1=true) (hx:uzI x=true) (hy:uzI y=true) (h1:(f x.1 y.1).2=0) (h2:(f x.1 y.2).2=0) (h3:(f x.2 y.1).2=0) (h4:(f x.2 y.2).2=0)
 (k:K (cIE.enc ((aey [(f x.1 y.2).1,(f x.2 y.1).1,(f x.2 y.2).1] (f x.1 y.1).1,aez [(f x.1 y.2).1,(f x.2 y.1).1,(f x.2 y.2).1] (f x.1 y.1).1),0))):afg f x y K:=by
 obtain⟨x1,x2⟩:=alu hx;obtain⟨y1,y2⟩:=alu hy;unfold afg;rw[ahX (hz _ _) (hz _ _) (hz _ _) (hz _ _),afk,afk,ad5,ad6];exact ac (alJ x1 y1 h1) (s8 (ac (alJ x1 y2 h2) (s8 (ac (alJ x2 y1 h3) (s8 (ac (alJ x2 y2 h4) (s8 (s8 (s8 k)))))))))
theorem vo {a b:Bool} (h:(a&&b)=true):a=true/\b=true:=by rwa[za2] at h
variable {a:Addr} {W:World}
theorem ahY (hW:GlobE a W):CtrOK prog W 67 (kI2 agy):=bC λx y h=>by
 obtain⟨hx,hy,h⟩:=acK h;obtain⟨hv,e⟩:=dL h;obtain⟨e1,e2,e3⟩:=alr e;obtain⟨x1,x2⟩:=alu hx;obtain⟨y1,y2⟩:=alu hy;rw[e3];exact l0 agJ ac0 hW (ann:=noA) (n:=8) de (cIE.ids _) (by rw[ahQ];exact adE hx hy (vo hv).1 (vo hv).2 (afj (K:=λr=>r=_) x1 y1 x2 y2 e1 e2 rfl))
theorem ahZ (hW:GlobE a W):CtrOK prog W 68 (kI2 agz):=bC λx y h=>by
 obtain⟨hx,hy,h⟩:=acK h;obtain⟨hv,e⟩:=dL h;obtain⟨e1,e2,e3⟩:=alr e;obtain⟨x1,x2⟩:=alu hx;obtain⟨y1,y2⟩:=alu hy;rw[e3];exact l0 agJ ac0 hW (ann:=noA) (n:=8) de (cIE.ids _) (by rw[ahR];exact adE hx hy (vo hv).1 (vo hv).2 (afj (K:=λr=>r=_) x1 y2 x2 y1 e1 e2 rfl))
theorem ah0 (hW:GlobE a W):CtrOK prog W 69 (kI2 adC):=bC λx y h=>by
 obtain⟨hx,hy,h⟩:=acK h;obtain⟨hv,e⟩:=dL h;obtain⟨e1,e2,e3,e4,e5⟩:=ac1 e;rw[e5];exact l0 agJ ac0 hW (ann:=noA) (n:=8) de (cIE.ids _) (by rw[ahT];exact adE hx hy (vo hv).1 (vo hv).2 (aea (K:=λr=>r=_) gI hx hy e1 e2 e3 e4 rfl))
theorem ah1 (hW:GlobE a W):CtrOK prog W 70 (kI2 ac7):=bC λx y h=>by
 obtain⟨hx,hy,h⟩:=acK h;obtain⟨hv,e⟩:=dL h;obtain⟨e1,e2,e3,e4,e5⟩:=ac1 e;obtain⟨hv,h0⟩:=vo hv;rw[e5]
 exact l0 agJ ac0 hW (ann:=noA) (n:=8) de (cIE.ids _) (by
  rw[ahU]
  exact adE hx hy (vo hv).1 (vo hv).2 (ac (by rw[hy,h0,show uzR zR=true by decide];rfl) (s8 (aea (K:=λr=>r=_) lY hx hy e1 e2 e3 e4 rfl))))
theorem ah2 (hW:GlobE a W):CtrOK prog W 75 (kID aeA):=bC λx p h=>by
 obtain⟨hx,h⟩:=ahW h;obtain⟨hv,e⟩:=dL h;obtain⟨e1,e2,e3⟩:=alr e;obtain⟨x1,x2⟩:=alu hx;rw[e3]
 exact l0 agJ ac0 hW (ann:=noA) (n:=8) de (cIE.ids _) (by
  rw[ahV]
  exact ac (by rw[hx,hv];rfl) (s8 (ac (afi x1 e1) (s8 (ac (afi x2 e2) (s8 rfl))))))
def gE9:List (FuncId×Ctr):=(67,kI2 agy)::(68,kI2 agz)::(69,kI2 adC)::(70,kI2 ac7)::(75,kID aeA)::gV2
theorem akk:GEk gE9:=((((aiH.cons (λa W hW=>ah2 hW) call75).cons (λa W hW=>ah1 hW) call70).cons (λa W hW=>ah0 hW) call69).cons (λa W hW=>ahZ hW) call68).cons (λa W hW=>ahY hW) call67
end Go.Proofs.YtfokhpciehfdnaaGreatDoor
namespace Yk
open Go Go.Sy
def akl (cs:zdL):Iv:=match cs with
 | [.val (.string a), .val (.string b), .val (.string c), .val (.string d)]=>((a,b),(c,d))
 |_=>noI
def eI:El Iv:={sz:=4,sv:=yl,of:=akl,d:=noI,rt:=λ_=>rfl,ids:=λ_=>rfl,len:=λ_=>rfl,one:=by decide}
end Yk
namespace Go.Proofs.YtfokhpciehfdnaaGreatDoor
open Go.Proofs.Tryz
open Go Go.RowKit Go.Sy Yk
def afl (I:Int->Prop) (N:Int):zdW:=λf k=>bif Nat.beq f 129&&Nat.beq k 2 then some (λA=>{X:=Int,inv:=I,tm:=λi=> [(8, .val (.int .i64 i))],mu:=λi=>(N - i).toNat,keep:= [0,1,7]}) else none
theorem ah3 (a:Addr) (I:Int->Prop) (N:Int) (l:List Iv) (Q:zdS):XC a gV1 [] (afl I N) 5 66 [.slc 0 0 l.length, .fn (.func 64) [] []] [eI.old l] (Go.Sy.okK λr _ _ _=>Q r)=
 LH I N (.slc 0 0 l.length) (.fn (.func 64) [] []) l.length (λz Q=>af (uzI (eI.nth l (0+z.toNat))) (Q (!vI (eI.nth l (0+z.toNat))))) (λz=>Q (cB.enc (decide (z≥0)))):=by kernel_rfl
def agK:MCtr:=λbl _ args=>match args with
 | [s, .fn (.func g) [] []]=>bif Nat.beq g 64 then(match vW bl 4 s with
   |some (b,_,n,c)=>some {X:=Unit,pre:=b&&(Nat.ble n 1000000&&eI.good uzI n c),spec:=λ_=>True,out:=λ_=>cB.enc (!(eI.list n c).all vI),ex:=λ_=>⟨(),trivial⟩}
   |none=>none) else none
 |_=>none
theorem agL {a:Addr}: ∀B:Base,GlobEB a B->VU prog B 66 agK:=agE ae9 MEk.nil λbl nx args C hk hp=>by
 unfold agK at hk;split at hk
 ·rename_i s g;cases hg:Nat.beq g 64 with
  |false=>rw[hg] at hk;cases hk
  |true=>
   obtain rfl:=zab hg;rw[hg,zds] at hk;split at hk
   ·rename_i b o n c hs;simp only[za1] at hk;subst hk;simp only[za2] at hp;obtain⟨rfl,hn,hgood⟩:=hp;have hlen:(eI.list n c).length<2^62:=by rw[El.list_length];have:=zak hn;omega
    obtain⟨h1,h2⟩:=cq (f:=rnF [o] [] nx) hs hgood;refine⟨[o], [eI.old (eI.list n c)], [.slc 0 0 (eI.list n c).length, .fn (.func 64) [] []],afl (λi=>0<=i/\i<=(eI.list n c).length/\be (λu=> !vI u) (eI.list n c) 0=be (λu=> !vI u) ((eI.list n c).drop i.toNat) i) (eI.list n c).length,5,aw h1 trivial,bH (by simp[cN,El.old]),cd (by simp[El.old,BK.map]), ?_, ?_⟩
    ·simp only[SV.rns,h2 0 rfl];rfl
    ·refine kbE () trivial rfl (r:=cB.enc (!(eI.list n c).all vI)) rfl rfl rfl rfl (by simp[cN,El.old]) rfl ?_;rw[ah3];refine pJ noI hlen (λz Q h0 h1 h=> ?_) ?_
     ·rw[za7];have:=El.good_list hgood _ (gF (d:=noI) (l:=eI.list n c) (e:=z.toNat) (by omega));exact ac this h
     ·rw[pI _ _ _ (zat _),CP]
   ·cases hk
 ·cases hk
abbrev akm:Ctr:=k2 cIv cI cIE (λ_ _=>false) (λ_ _=>(noI,0))
def gE8:List (FuncId×Ctr):=(73,akm)::gE9
theorem aiJ:GEk gE8:=akk.cons (λa W hW=>bC λx p h=>by cases h) call73
def akn:zdY:= [(13,pN),(66,agK)]
theorem ah4 {a:Addr}:MEk a akn:=(MEk.nil.cons agL).cons λB hB=>lZ B hB.gU
abbrev EI:=Int×List Iv
abbrev PWI:=Int×Iv
def aji (A:AS):Iv:=match A.tm 7 with
 | .v (.slc i _ _)=>match A.bl i,Bh A (kA A 10) 24 with
   |some B, .val (.int _ l)=>akl (B.get (0+l.toNat))
   |_,_=>noI
 |_=>noI
def agM (I:EI->Prop) (N:Int) (J:Iv->Int->PWI->Prop):zdW:=λf k=>bif Nat.beq f 76 then(bif Nat.beq k 4 then some (λA=>{X:=EI,inv:=I,tm:=λx=> [(19, .val (.int .i64 x.1)),(7, .slc A.nx 0 x.2.length)],gr:= [{src:= .slot 7,sz:=4,n:=λx=>x.2.length,get:=λx=>eI.get x.2}],cleanG:=λg hg x e=>by simp at hg;subst hg;exact eI.ids _,mu:=λx=>(N - x.1).toNat,keep:= [2,3,4,6,8,17,18]})
 else bif Nat.beq k 23 then some (λA=>{X:=PWI,inv:=J (aji A) (P7 A 119),tm:=λx=> [(120, .val (.int .i64 x.1))],st:= [(kA A 11,λx=>yl x.2)],mu:=λx=>(4 - x.1).toNat,keep:= [2,3,4,6,7,8,10,11,17,18,19,119]}) else none) else none
abbrev agN (a:Addr) (I:EI->Prop) (N:Int) (J:Iv->Int->PWI->Prop) (p:Pr) (ins:List Iv) (pl:Int) (Q:zdS):Prop:=XC a gE8 akn (agM I N J) 6 23 [kB p, .slc 2 0 ins.length,cI.enc pl] [eU.old p.inp,eN.old p.nod,eI.old ins] (Go.Sy.okK λr _ _ _=>Q r)
def agO:SV:= .tup [.agg (yl noI), .val (.int .i64 90)]
def ako (n:Nat) (K:Prop):Prop:=af (decide (0<1)&&decide (0+1<=1)&&decide (n<=n)&&decide ((n+1)*64<=140737488355328)&&true) K
def akp (ni nn:Nat) (Q:Prop):Prop:=tvE (.slc 2 0 ni)/\cg 30/\cg 31/\cg 32/\cg 38/\tvE (.slc 1 0 nn)/\tvE (cI.enc (nn:Int))/\Q
def akq (q ni nn:Nat) (p:Int) (n:Nat) (us:zdO) (z:EI):Prop:=
 (TV.v (cI.enc p)=TV.v (cI.enc z.1)/\TV.v (.slc q 0 n)=TV.v (.slc q 0 z.2.length)/\akp ni nn True)/\(True/\(True/\(af (Nat.beq 4 4&&decide (z.2.length<=n)) (∀e,e<z.2.length->us e=eI.get z.2 e)/\True)))
def ada (I:EI->Prop) (N:Int) (pl:Int) (q ni nn:Nat) (i:Int) (vs:List Iv) (v:Iv):Prop:=af (afU aeA v pl) (ako vs.length (af (inR .i64 (i+1)) (∃z:EI,I z/\((N - z.1).toNat<(N - i).toNat/\akq q ni nn (i+1) (vs.length+1) (ald (eI.get vs) (λe=>((yl (aeA v pl).1).drop (e*4)).take 4) vs.length 0) z))))
def ajj (ni nn:Nat) (i:Int) (n:Nat) (m:Int) (p:Int) (v:Iv) (z:PWI):Prop:=
 (TV.v (cI.enc p)=TV.v (cI.enc z.1)/\tvE (.slc 2 0 ni)/\cg 30/\cg 31/\cg 32/\tvE (.slc 44 0 n)/\cg 38/\cg 48/\cg 50/\tvE (.slc 1 0 nn)/\tvE (cI.enc (nn:Int))/\tvE (cI.enc i)/\tvE (cI.enc m)/\True)/\(True/\((yl v=yl z.2/\True)/\True))
def afV (vs:List Iv) (x:Nd) (f:Iv->Iv->Iv×Int) (K:Iv->Prop):Prop:=
 eO vs.length x.l (eO vs.length x.r (af (ad9 f (mb noI vs (0+x.l.toNat)) (mb noI vs (0+x.r.toNat))) (K (f (mb noI vs (0+x.l.toNat)) (mb noI vs (0+x.r.toNat))).1)))
def aiK (J:Iv->Int->PWI->Prop) (ni nn:Nat) (i:Int) (vs:List Iv) (x:Nd) (K1 K2:Iv->Prop):Prop:=
 af (inR .i64 (-x.n)) (∃z0:PWI,J (mb noI vs (0+x.l.toNat)) (jH x.n) z0/\(ajj ni nn i vs.length (jH x.n) 0 (ptI rI) z0/\ ∀z:PWI,J (mb noI vs (0+x.l.toNat)) (jH x.n) z->ag (decide (z.1<jH x.n))
  (eO vs.length x.l (af (ad9 adC z.2 (mb noI vs (0+x.l.toNat))) (af (inR .i64 (z.1+1)) (∃z':PWI,J (mb noI vs (0+x.l.toNat)) (jH x.n) z'/\((4 - z'.1).toNat<(4 - z.1).toNat/\ajj ni nn i vs.length (jH x.n) (z.1+1) (adC z.2 (mb noI vs (0+x.l.toNat))).1 z')))))
  (ag (decide (x.n<0)) (af (ad9 ac7 (ptI rI) z.2) (K1 (ac7 (ptI rI) z.2).1)) (K2 z.2))))
def ajk (I:EI->Prop) (N:Int) (J:Iv->Int->PWI->Prop) (pl:Int) (ins:List Iv) (nn:Nat) (i:Int) (vs:List Iv) (x:Nd):Prop:=
 ag (x.op==1) (af (uzR x.v) (ada I N pl 85 ins.length nn i vs (ptI x.v))) (
 ag (x.op==2) (eO ins.length x.n (ada I N pl 87 ins.length nn i vs (mb noI ins (0+x.n.toNat)))) (
 ag (x.op==3) (afV vs x agy (ada I N pl 91 ins.length nn i vs)) (
 ag (x.op==4) (afV vs x agz (ada I N pl 93 ins.length nn i vs)) (
 ag (x.op==5) (afV vs x adC (ada I N pl 95 ins.length nn i vs)) (
 ag (x.op==6) (afV vs x ac7 (ada I N pl 97 ins.length nn i vs)) (
 ag (x.op==7) (aiK J ins.length nn i vs x (ada I N pl 119 ins.length nn i vs) (ada I N pl 104 ins.length nn i vs)) (
 ag (x.op==8) (eO vs.length x.l False) False)))))))
def ajl (I:EI->Prop) (N:Int) (J:Iv->Int->PWI->Prop) (p:Pr) (ins:List Iv) (pl:Int) (Q:zdS):Prop:=
 af (jn p) (Unit->True->ag (bif !VM (dm p) then true else((ins.length:Int) !=(p.inp.length:Int))) (Q agO)
 (af (Nat.ble ins.length ins.length&&Nat.beq 4 4&&true&&(Nat.ble ins.length 1000000&&eI.good uzI ins.length (eI.get ins))) (Unit->True->ag (!(eI.list ins.length (eI.get ins)).all vI) (Q agO)
 (∃z0:EI,I z0/\(((TV.v (cI.enc 0)=TV.v (cI.enc z0.1)/\TV.v (.val (.slice none 0 0))=TV.v (.val (.slice none z0.2.length 0))/\akp ins.length p.nod.length True)/\(True/\(True/\(z0.2.length=0/\True))))/\
   ∀z:EI,I z->ag (decide (z.1<(p.nod.length:Int)))
    (eO p.nod.length z.1 (ajk I N J pl ins p.nod.length z.1 z.2 (mb noN p.nod (0+z.1.toNat))))
    (af (inR .i64 ((z.2.length:Int) - 1)) (eO z.2.length ((z.2.length:Int) - 1) (Q (.tup [.agg (yl (mb noI z.2 (0+((z.2.length:Int) - 1).toNat))), .val (.int .i64 0)])))))))))
theorem ajm (a:Addr) (I:EI->Prop) (N:Int) (J:Iv->Int->PWI->Prop) (p:Pr) (ins:List Iv) (pl:Int) (Q:zdS):agN a I N J p ins pl Q=ajl I N J p ins pl Q:=by kernel_rfl
def okI (r:Iv×Int):Option Iv:=bif r.2 !=0 then none else some r.1
def th (b:Iv):Nat->Option Iv
 |0=>some (ptI rI)
 |k+1=>match th b k with
  |some v=>okI (adC v b)
  |none=>none
def ack (sq:Iv->Iv×Int) (ins vs:List Iv) (x:Nd):Option Iv:=
 bif x.op==1 then some (ptI x.v) else
 bif x.op==2 then some (mb noI ins x.n.toNat) else
 bif x.op==3 then okI (agy (mb noI vs x.l.toNat) (mb noI vs x.r.toNat)) else
 bif x.op==4 then okI (agz (mb noI vs x.l.toNat) (mb noI vs x.r.toNat)) else
 bif x.op==5 then okI (adC (mb noI vs x.l.toNat) (mb noI vs x.r.toNat)) else
 bif x.op==6 then okI (ac7 (mb noI vs x.l.toNat) (mb noI vs x.r.toNat)) else
 bif x.op==7 then(match th (mb noI vs x.l.toNat) (jH x.n).toNat with
  |some v=>bif decide (x.n<0) then okI (ac7 (ptI rI) v) else some v
  |none=>none) else
 bif x.op==8 then okI (sq (mb noI vs x.l.toNat)) else some noI
def ajn (p:Int):Option Iv->Option Iv
 |some v=>okI (aeA v p)
 |none=>none
def alE (sq:Iv->Iv×Int) (p:Int) (ins:List Iv):List Nd->List Iv->Option (List Iv)
 | [],vs=>some vs
 |x::r,vs=>match ajn p (ack sq ins vs x) with
  |some v=>alE sq p ins r (vs++ [v])
  |none=>none
def agP (vs:List Iv):Iv:=mb noI vs (vs.length - 1)
def ah5 (sq:Iv->Iv×Int) (p:Pr) (ins:List Iv) (pl:Int):Iv×Int:=bif !VM p||ins.length !=p.inp.length|| !ins.all vI then(noI,90) else(match alE sq pl ins p.nod [] with
 |some vs=>(agP vs,0)
 |none=>(noI,90))
variable {v:Iv}
theorem uu {r:Iv×Int} (h:okI r=some v):r=(v,0):=by
 obtain⟨a,b⟩:=r;unfold okI at h;cases hr:b !=0 with
 |true=>rw[hr] at h;cases h
 |false=>rw[hr] at h;simp at h hr;rw[h,hr]
def acC:Iv->Iv×Int:=λ_=>R6
def acl (p:Pr) (ins:List Iv) (pl:Int):Iv×Int:=ah5 acC p ins pl
theorem ajo {r:RS} (h:uzR r=true):uzI (ptI r)=true:=by
 unfold ptI;cases rV r with
 |false=>exact(show uzI noI=true by decide)
 |true=>show (uzR r&&uzR r)=true;rw[h];rfl
theorem adF {a b:RS} (h:uzR a=true) (k:uzR b=true):uzI (a,b)=true:=by unfold uzI;rw[h,k];rfl
theorem afm: ∀{l:List RS} {m:RS},(∀x∈l,uzR x=true)->uzR m=true->uzR (aey l m)=true
 | [],m,_,h=>h
 |x::r,m,hl,h=>by
  show uzR (aey r (bif decide (b9 x m<0) then x else m))=true;refine afm (l:=r) (λy hy=>hl y (zan _ hy)) ?_;cases decide (b9 x m<0) with
  |true=>exact hl x (by simp)
  |false=>exact h
theorem afn: ∀{l:List RS} {m:RS},(∀x∈l,uzR x=true)->uzR m=true->uzR (aez l m)=true
 | [],m,_,h=>h
 |x::r,m,hl,h=>by
  show uzR (aez r (bif decide (b9 x m>0) then x else m))=true;refine afn (l:=r) (λy hy=>hl y (zan _ hy)) ?_;cases decide (b9 x m>0) with
  |true=>exact hl x (by simp)
  |false=>exact h
variable {a b:Iv}
theorem ah6 (h:agy a b=(v,0)):uzI v=true:=by
 obtain⟨_,e⟩:=dL h;obtain⟨_,_,rfl⟩:=alr e;exact adF (Lq _ _) (Lq _ _)
theorem ah7 (h:agz a b=(v,0)):uzI v=true:=by
 obtain⟨_,e⟩:=dL h;obtain⟨_,_,rfl⟩:=alr e;exact adF (Lr _ _) (Lr _ _)
theorem aeb {a b c d:RS×Int} (ha:uzR a.1=true) (hb:uzR b.1=true) (hc:uzR c.1=true) (hd:uzR d.1=true) (h:ae6 a b c d=(v,0)):uzI v=true:=by
 obtain⟨_,_,_,_,rfl⟩:=ac1 h;have hl: ∀x∈ [b.1,c.1,d.1],uzR x=true:=by simp[hb,hc,hd]
 exact adF (afm hl ha) (afn hl ha)
theorem afo (h:adC a b=(v,0)):uzI v=true:=aeb (gI _ _) (gI _ _) (gI _ _) (gI _ _) (dL h).2
theorem afp (h:ac7 a b=(v,0)):uzI v=true:=aeb (lY _ _) (lY _ _) (lY _ _) (lY _ _) (dL h).2
variable {p:Int}
theorem ah8 (h:aeA a p=(v,0)):uzI v=true:=by
 obtain⟨_,e⟩:=dL h;obtain⟨_,_,rfl⟩:=alr e;refine adF ?_ ?_
 ·unfold acv;split;exact alg _ _;exact tF
 ·unfold rUp;split;exact alg _ _;exact tF
theorem acL {l:List Iv} (h: ∀u∈l,uzI u=true) (e:Nat):uzI (mb noI l e)=true:=by
 by_cases he:e<l.length
 ·exact h _ (gF he)
 ·have: ∀(l:List Iv) (e:Nat),l.length<=e->mb noI l e=noI:=by
   intro l
   induction l with
   |nil=>intro e _;rfl
   |cons x r ih=>intro e he;cases e with
    |zero=>simp at he
    |succ e=>exact ih e (by simpa using he)
  rw[this l e (by omega)];decide
theorem agQ: ∀{k:Nat} {v:Iv},th b k=some v->uzI v=true
 |0,v,h=>by simp only[th,za1] at h;subst h;decide
 |k+1,v,h=>by
  simp only[th] at h;split at h
  ·exact afo (uu h)
  ·cases h
theorem aec {b:Iv} {k:Nat}: ∀{m:Nat} {w:Iv},th b (k+m)=some w-> ∃u,th b k=some u
 |0,w,h=>⟨w,h⟩
 |m+1,w,h=>by
  rw[<-zbr,th] at h;split at h
  ·rename_i v hv;exact aec hv
  ·cases h
variable {n:Nat}
theorem ah9 {K:Prop} (h:n<=1000000) (k:K):ako n K:=ac (by
 rw[zdq (zbS),zdq (show 0+1<=1 by omega),zdq (za0 n),zdq (show (n+1)*64<=140737488355328 by omega)];rfl) k
variable {ni nn:Nat}
theorem aia {q:Nat} {us:List Iv} {u:Iv}:akq q ni nn p (us.length+1) (ald (eI.get us) (λe=>((yl u).drop (e*4)).take 4) us.length 0) (p,us++ [u]):=by
 have hl:(us++ [u]).length=us.length+1:=by simp
 refine⟨⟨rfl,by rw[hl],rfl,rfl,rfl,rfl,rfl,rfl,rfl,trivial⟩,trivial,trivial, ?_,trivial⟩;refine ac (by rw[zdq (by rw[hl];exact za0 _)];rfl) λe he=> ?_;rw[hl] at he;unfold ald El.get El.nth;rw[aB];show _=yl (mb noI (us++ [u]) e);rw[aS];by_cases h:e<us.length
 ·rw[zdq h,zds,if_neg (by omega)];rfl
 ·obtain rfl:e=us.length:=by omega
  rw[zdt h,zdr,if_pos rfl,zaJ];rfl
def agR (b:Iv) (m:Int) (z:PWI):Prop:=0<=z.1/\z.1<=m/\m<=4/\th b z.1.toNat=some z.2
variable {i:Int}
theorem adt {m:Int} :ajj ni nn i n m p v (p,v):=⟨⟨rfl,rfl,rfl,rfl,rfl,rfl,rfl,rfl,rfl,rfl,rfl,rfl,rfl,trivial⟩,trivial,⟨rfl,trivial⟩,trivial⟩
theorem adG {f:Iv->Iv->Iv×Int} (ha:uzI a=true) (hb:uzI b=true) (h:f a b=(v,0)):ad9 f a b=true:=by unfold ad9;rw[ha,hb,h];rfl
theorem aib {f:Iv->Int->Iv×Int} (ha:uzI a=true) (h:f a p=(v,0)):afU f a p=true:=by unfold afU;rw[ha,h];rfl
variable {ins:List Iv} {pl:Int}
theorem aic {I:EI->Prop} {N:Int} {vs:List Iv} {x:Nd} (hx:NodeOK ni vs.length x) (hni:ins.length=ni) (hi: ∀u∈ins,uzI u=true) (hv: ∀u∈vs,uzI u=true) (hxv:uzR x.v=true) (he:ack acC ins vs x=some v) (hs: ∀q,uzI v=true->ada I N pl q ins.length nn i vs v):ajk I N agR pl ins nn i vs x:=by
 obtain⟨o1,o2⟩:=hx.op;have two: ∀{f:Iv->Iv->Iv×Int} {q:Nat},3<=x.op->x.op<=6->(∀{a b v:Iv},f a b=(v,0)->uzI v=true)->ack acC ins vs x=okI (f (mb noI vs x.l.toNat) (mb noI vs x.r.toNat))->afV vs x f (ada I N pl q ins.length nn i vs):=λ{f q} a b uz e=>by
  have hl:=hx.left a;have hr:=hx.right a b;have e:=uu (e.symm.trans he);unfold afV;rw[za7,za7];refine aY hl.1 hl.2 (aY hr.1 hr.2 (ac (adG (acL hv _) (acL hv _) e) ?_));rw[e];exact hs q (uz e)
 unfold ajk;refine ah (λe1=> ?_) (λe1=>ah (λe2=> ?_) (λe2=>ah (λe3=> ?_) (λe3=>ah (λe4=> ?_) (λe4=>ah (λe5=> ?_) (λe5=>ah (λe6=> ?_) (λe6=>ah (λe7=> ?_) (λe7=>ah (λe8=> ?_) (λe8=> ?_))))))))
 ·unfold ack at he;rw[e1,zds,za1] at he;subst he;exact ac hxv (hs _ (ajo hxv))
 ·have h:=hx.inp (int_eq.1 e2);unfold ack at he;rw[e1,e2,zdr,zds,za1] at he;subst he;rw[za7];exact aY h.1 (by omega) (hs _ (acL hi _))
 ·exact two (by rw[int_eq.1 e3];decide) (by rw[int_eq.1 e3];decide) ah6 (by unfold ack;rw[e1,e2,e3];rfl)
 ·exact two (by rw[int_eq.1 e4];decide) (by rw[int_eq.1 e4];decide) ah7 (by unfold ack;rw[e1,e2,e3,e4];rfl)
 ·exact two (by rw[int_eq.1 e5];decide) (by rw[int_eq.1 e5];decide) afo (by unfold ack;rw[e1,e2,e3,e4,e5];rfl)
 ·exact two (by rw[int_eq.1 e6];decide) (by rw[int_eq.1 e6];decide) afp (by unfold ack;rw[e1,e2,e3,e4,e5,e6];rfl)
 ·have hp:=hx.pow (int_eq.1 e7);have hl:=hx.left (by rw[int_eq.1 e7];decide)
  have e:ack acC ins vs x=(match th (mb noI vs x.l.toNat) (jH x.n).toNat with
   |some v=>bif decide (x.n<0) then okI (ac7 (ptI rI) v) else some v
   |none=>none):=by unfold ack;rw[e1,e2,e3,e4,e5,e6,e7];rfl
  rw[he] at e;have hm:0<=jH x.n/\jH x.n<=4:=by unfold jH;split<;>omega
  cases hw:th (mb noI vs x.l.toNat) (jH x.n).toNat with
  |none=>rw[hw] at e;cases e
  |some w=>
  rw[hw] at e;replace e:some v=bif decide (x.n<0) then okI (ac7 (ptI rI) w) else some w:=e
  unfold aiK;rw[za7];refine ac (VP.2 (by omega)) ⟨(0,ptI rI),⟨zat _,hm.1,hm.2,rfl⟩,adt, ?_⟩;rintro⟨k,u⟩ ⟨k0,k1,_,k2⟩;dsimp only at k0 k1 k2 ⊢;have huz:=agQ k2;refine ah (λhk=> ?_) (λhk=> ?_)
  ·have hk:=zdv hk;obtain⟨u',hu'⟩:=aec (k:=k.toNat+1) (m:=(jH x.n).toNat - (k.toNat+1)) (by rw[show k.toNat+1+((jH x.n).toNat - (k.toNat+1))=(jH x.n).toNat by omega];exact hw);have hmul:adC u (mb noI vs x.l.toNat)=(u',0):=by
    rw[th,k2] at hu';exact uu hu'
   refine aY hl.1 hl.2 (ac (adG huz (acL hv _) hmul) (ac (VP.2 (by omega)) ⟨(k+1,u'),⟨by show 0<=k+1;omega,by show k+1<=_;omega,hm.2, ?_⟩,by show (_:Nat)<_;omega, ?_⟩))
   ·show th _ (k+1).toNat=some u';rw[show (k+1).toNat=k.toNat+1 by omega];exact hu'
   ·rw[hmul];exact adt
  ·have hk:=zdw hk;rw[show k.toNat=(jH x.n).toNat by omega,hw,za1] at k2;subst k2;refine ah (λhneg=> ?_) (λhneg=> ?_)
   ·rw[hneg,zds] at e;have e:=uu e.symm;refine ac (adG (by decide) huz e) ?_;rw[e];exact hs _ (afp e)
   ·rw[hneg,zdr,za1] at e;subst e;exact hs _ huz
 ·exfalso;unfold ack at he;rw[e1,e2,e3,e4,e5,e6,e7,e8] at he;have he:okI R6=some v:=he;exact absurd (show (50:Int)=0 from congrArg Prod.snd (uu he)) (by decide)
 ·exfalso;rw[zdy] at e1 e2 e3 e4 e5 e6 e7 e8;omega
def akr (pl:Int) (ins:List Iv) (nod:ze1) (z:EI):Prop:=0<=z.1/\z.1<=nod.length/\z.2.length=z.1.toNat/\(∀u∈z.2,uzI u=true)/\alE acC pl ins nod []=alE acC pl ins (nod.drop z.1.toNat) z.2
theorem afW {p:Pr} {Q:zdS} (hsz:aci p=true) (h6:p.inp.length<=1000000) (h7:p.nod.length<=1000000) (hi: ∀u∈ins,uzI u=true) (h8:ins.length<=1000000) (hok:(acl p ins pl).2=0)
 (hQ:Q (.tup [.agg (yl (acl p ins pl).1), .val (.int .i64 0)])):ajl (akr pl ins p.nod) p.nod.length agR p ins pl Q:=by
 have hsz':=hsz;unfold aci at hsz';simp only[za2,zaf] at hsz';obtain⟨⟨si,sn⟩,so⟩:=hsz';have gl:eI.list ins.length (eI.get ins)=ins:=El.list_get;have bad:acl p ins pl=(noI,90)->Q agO:=λh=>by rw[h] at hok;exact absurd hok (by decide)
 unfold ajl;refine ac (eY hsz h6 h7) λ_ _=> ?_;rw[fN];refine ah (λh=>bad ?_) (λh=>ac (by rw[El.good_get hi];simp[h8]) λ_ _=>ah (λk=>bad ?_) (λk=> ?_))
 ·unfold acl ah5;cases hv:VM p with
  |false=>rfl
  |true=>
   rw[hv] at h;have:(ins.length !=p.inp.length)=true:=by simp at h ⊢;omega
   rw[this];rfl
 ·rw[gl] at k;unfold acl ah5;rw[k,Bool.or_true];rfl
 ·rw[gl] at k;cases hv:VM p with
  |false=>rw[hv] at h;cases h
  |true=>
  rw[hv] at h;have hl:ins.length=p.inp.length:=by simp at h;omega
  obtain⟨hbeg,hnod⟩:=bQ hv;have hc:acl p ins pl=match alE acC pl ins p.nod [] with
   |some vs=>(agP vs,0)
   |none=>(noI,90):=by unfold acl ah5;rw[hv,k,hl];first|(simp;rfl)|simp
  have hb:=Wb.1 hbeg;refine⟨(0, []),⟨zat _,by show (0:Int)<=_;omega,rfl,λu h=>(by cases h),rfl⟩,⟨⟨rfl,rfl,rfl,rfl,rfl,rfl,rfl,rfl,rfl,trivial⟩,trivial,trivial,rfl,trivial⟩, ?_⟩;rintro⟨i,vs⟩ ⟨k0,k1,k2,k3,k4⟩;simp only at k0 k1 k2 k3 k4;dsimp only;refine ah (λhz=> ?_) (λhz=> ?_)
  ·have hz:i<(p.nod.length:Int):=zdv hz;rw[za7];have hd:=atR (d:=noN) k0 hz;have hx:=hnod i.toNat (by omega);have hxs:=sn _ (gF (d:=noN) (l:=p.nod) (e:=i.toNat) (by omega));have hxv:uzR (mb noN p.nod i.toNat).v=true:=by
    unfold szN at hxs;rw[za2] at hxs;exact hxs.1
   rw[hd,alE] at k4;cases hval:ack acC ins vs (mb noN p.nod i.toNat) with
   |none=>
    exfalso;rw[hval] at k4;replace k4:alE acC pl ins p.nod []=none:=k4;rw[hc,k4] at hok;exact absurd hok (by decide)
   |some v=>
   rw[hval] at k4;cases hr:okI (aeA v pl) with
   |none=>
    exfalso;rw[show ajn pl (some v)=none from hr] at k4;replace k4:alE acC pl ins p.nod []=none:=k4;rw[hc,k4] at hok;exact absurd hok (by decide)
   |some w=>
   rw[show ajn pl (some v)=some w from hr] at k4;replace k4:alE acC pl ins p.nod []=alE acC pl ins (p.nod.drop (i+1).toNat) (vs++ [w]):=k4;have hr:=uu hr;refine aY k0 hz (aic (by rw[k2];exact hx) hl hi k3 hxv hval (λq hvz=>ac (aib hvz hr) ?_));rw[hr];refine ah9 (by omega) (ac (VP.2 (by omega)) ⟨(i+1,vs++ [w]),⟨by show 0<=i+1;omega,by show i+1<=_;omega,by simp only[za3,za6];omega, ?_,k4⟩,by show (_:Nat)<_;omega,aia⟩);exact atS k3 (ah8 hr)
  ·have hz: ¬i<(p.nod.length:Int):=zdw hz;rw[show i.toNat=p.nod.length by omega,zbj,alE] at k4;rw[k4] at hc;replace hc:acl p ins pl=(agP vs,0):=hc;rw[hc] at hQ;refine ac (VP.2 (by omega)) (aY (by omega) (by omega) ?_);rw[show (0+((vs.length:Int) - 1).toNat)=vs.length - 1 by omega];exact hQ
def acd:MCtr:=λbl nx args=>match args with
 | [s,t, .val (.int .i64 pl)]=>match mC bl s,vW bl 4 t with
   |some a,some (b,o,n,c)=>some {X:=Unit,pre:=a.need&&b&&bW n&&eI.good uzI n c&&(acl a.p (eI.list n c) pl).2==0,spec:=λ_=>True,out:=λ_=> .tup [.agg (yl (acl a.p (eI.list n c) pl).1), .val (.int .i64 0)],ex:=λ_=>⟨(),trivial⟩}
   |_,_=>none
 |_=>none
theorem acz {a:Addr}: ∀B:Base,GlobEB a B->VU prog B 23 acd:=agE aiJ ah4 λbl nx args C hk hp=>by
 unfold acd at hk;split at hk
 ·rename_i s t pl;split at hk
  ·rename_i a b o n c ha hs;simp only[za1] at hk;subst hk;simp only[za2,zdz] at hp;obtain⟨⟨⟨⟨hp,rfl⟩,hn⟩,hgood⟩,hok⟩:=hp;obtain⟨s1,s2,s3,s4,s5,s6⟩:=eX (f:=rnF [a.o1,a.o2,o] [] nx) ha hp rfl rfl;obtain⟨t1,t2⟩:=cq (f:=rnF [a.o1,a.o2,o] [] nx) hs hgood;refine⟨[a.o1,a.o2,o], [eU.old a.p.inp,eN.old a.p.nod,eI.old (eI.list n c)], [kB a.p, .slc 2 0 (eI.list n c).length,cI.enc pl],agM (akr pl (eI.list n c) a.p.nod) a.p.nod.length agR,6,aw s1 (aw s2 (aw t1 trivial)),bH (by simp[cN,El.old]),cd (by simp[El.old,BK.map]),ar s3 (ar (t2 2 rfl) rfl), ?_⟩;refine kbE () trivial rfl (r:= .tup [.agg (yl (acl a.p (eI.list n c) pl).1), .val (.int .i64 0)]) rfl rfl rfl rfl (by simp[cN,El.old]) rfl ?_;have e:=ajm;unfold agN at e;rw[e];exact afW s4 s5 s6 (El.good_list hgood) (by rw[El.list_length];exact zak hn) hok rfl
  ·cases hk
 ·cases hk
end Go.Proofs.YtfokhpciehfdnaaGreatDoor
namespace Yk
open Go Go.Sy
def aoR:List SV->Int
 | [.val (.int .i64 z)]=>z
 |_=>0
def e1:El Int:={sz:=1,sv:=λz=> [.val (.int .i64 z)],of:=aoR,d:=0,rt:=λ_=>rfl,ids:=λ_=>rfl,len:=λ_=>rfl,one:=by decide}
def anL (k:Int):RS:=(rMk (co k 41 - 20) (1+co (Int.tdiv k 41) 5)).1
def vu (xs:List Int) (n:Nat):List RS:=Go.Sy.tab (λj=>anL (mb 0 xs j)) n
end Yk
namespace Go.Proofs.YtfokhpciehfdnaaGreatDoor
open Go.Proofs.Tryz
open Go Go.RowKit Go.Sy Yk
theorem aoS (a:Addr) (n d:Int) (K:zdS):acb a xK [] noA 5 22 [cI.enc n,cI.enc d] K=af (cl n&&cl d) (K (cR.enc (rMk n d).1)):=by kernel_rfl
def gOf:List (FuncId×Ctr):=(22,k2 cI cI cR (λn d=>cl n&&cl d) (λn d=>(rMk n d).1))::xK
theorem aoj:GEk gOf:=(GEk.of BN).cons (λa W hW=>bC λn d h=>l0 (GEk.of BN) (MEk.nil (a:=a)) hW (ann:=noA) (n:=5) de (cR.ids _) (by rw[aoS];exact ac h rfl)) call22
abbrev V9:=Int×List RS
def aol (I:V9->Prop) (N:Int):zdW:=λf k=>bif Nat.beq f 17&&Nat.beq k 3 then some (λA=>{X:=V9,inv:=I,tm:=λx=> [(6, .val (.int .i64 x.1)),(5, .slc A.nx 0 x.2.length)],gr:= [{src:= .slot 5,sz:=2,n:=λx=>x.2.length,get:=λx=>eR.get x.2}],cleanG:=λg hg x e=>(by simp at hg;subst hg;exact eR.ids _),mu:=λx=>(N - x.1).toNat,keep:= [0,1,4]}) else none
def aoT (Q:Nat->Nat->Blk->Prop):Aft:=λr bl _ _=>match r with
 | .ok (.slc i 0 n)=>(match bl i with
   |some B=>Q i n B
   |none=>False)
 |_=>False
abbrev aoO (a:Addr) (I:V9->Prop) (N:Int) (xs:List Int) (n:Int) (Q:Nat->Nat->Blk->Prop):Prop:=XC a gOf [] (aol I N) 6 17 [.slc 0 0 xs.length,cI.enc n] [e1.old xs] (aoT Q)
def anM (l:List RS) (v:RS):zdO:=ald (eR.get l) (λe=>((gA v).drop (e*2)).take 2) l.length 0
variable {l:List RS} {v:RS} {e:Nat}
theorem aoc (he:e<l.length+1):anM l v e=eR.get (l++ [v]) e:=by
 unfold anM ald El.get El.nth;rw[aB];show _=gA (mb VI (l++ [v]) e);rw[aS];by_cases h:e<l.length
 ·rw[zdq h,if_neg (by omega)];rfl
 ·obtain rfl:e=l.length:=by omega
  rw[zdt h,if_pos rfl,zaJ];rfl
theorem anN {z:List RS} (hz:z=l++ [v]):af (Nat.beq 2 2&&decide (z.length<=l.length+1)) (∀e,e<z.length->anM l v e=eR.get z e):=by
 subst hz;have hl:(l++ [v]).length=l.length+1:=by simp
 exact ac (by rw[hl,zdq (za0 _)];rfl) λe he=>aoc (by omega)
def vaK (xs:List Int) (n:Int):Prop:=tvE (.slc 0 0 xs.length)/\tvE (cI.enc n)/\tvE (.val (.slice none 0 0))/\True
def vaM (q:Nat) (xs:List Int) (n i:Int) (m:Nat) (g:zdO) (z:V9):Prop:=(TV.v (cI.enc i)=TV.v (cI.enc z.1)/\TV.v (.slc q 0 m)=TV.v (.slc q 0 z.2.length)/\vaK xs n)/\(True/\(True/\(af (Nat.beq 2 2&&decide (z.2.length<=m)) (∀e,e<z.2.length->g e=eR.get z.2 e)/\True)))
def vaN (I:V9->Prop) (N:Int) (xs:List Int) (n:Int) (z:V9) (q:Nat) (k:Int):Prop:=
 af (pkB k 41) (af (inR .i64 (co k 41 - 20)) (af (!decide ((41:Int)=0)&&inR .i64 (k.tdiv 41)) (af (pkB (k.tdiv 41) 5) (af (inR .i64 (1+co (k.tdiv 41) 5)) (af (cl (co k 41 - 20)&&cl (1+co (k.tdiv 41) 5))
  (LP z.2.length (af (inR .i64 (z.1+1)) (∃z':V9,I z'/\((N - z'.1).toNat<(N - z.1).toNat/\vaM q xs n (z.1+1) (z.2.length+1) (anM z.2 (anL k)) z')))))))))
def vaT (I:V9->Prop) (N:Int) (xs:List Int) (n:Int) (Q:Nat->Nat->Blk->Prop):Prop:=
 ∃z0:V9,I z0/\(((TV.v (cI.enc 0)=TV.v (cI.enc z0.1)/\TV.v (.val (.slice none 0 0))=TV.v (.val (.slice none z0.2.length 0))/\vaK xs n)/\(True/\(True/\(z0.2.length=0/\True))))/\
  ∀z:V9,I z->ag (decide (z.1<n)) (ag (decide (z.1<(xs.length:Int))) (eO xs.length z.1 (vaN I N xs n z 28 (e1.nth xs (0+z.1.toNat)))) (vaN I N xs n z 23 0))
   (Q 4 z.2.length {n:=z.2.length,sz:=2,get:=eR.get z.2,kd:= .own,nn:=false}))
theorem aoC (a:Addr) (I:V9->Prop) (N:Int) (xs:List Int) (n:Int) (Q:Nat->Nat->Blk->Prop):aoO a I N xs n Q=vaT I N xs n Q:=by kernel_rfl
theorem aoD (k:Int):uzR (anL k)=true:=alg _ _
def vaI (xs:List Int) (n:Int) (z:V9):Prop:=0<=z.1/\z.1<=n/\z.2=vu xs z.1.toNat
variable {xs:List Int} {q:Nat}
theorem aom {n:Int} {z:V9} {k:Int} (h:vaI xs n z) (hz:z.1<n) (hn:n<=1000000) (hk:cl k=true) (e:k=mb 0 xs z.1.toNat):vaN (vaI xs n) n xs n z q k:=by
 obtain⟨h0,h1,h2⟩:=h;have b1:=gR k (n:=41) (by decide);have b2:=gR (k.tdiv 41) (n:=5) (by decide);have hl:z.2.length=z.1.toNat:=by rw[h2];exact fJ _ _
 have bk:=V4.1 hk;have bt: -9223372036854775808<=k.tdiv 41/\k.tdiv 41<=9223372036854775807:=by
  have h1:=bk.1;have h2:=bk.2;have:k.tdiv 41=if 0<=k then k / 41 else -((-k) / 41):=by
   split
   ·exact Int.tdiv_eq_ediv_of_nonneg (by omega)
   ·have:k= -(-k):=by omega
    rw[this,Int.neg_tdiv,Int.tdiv_eq_ediv_of_nonneg (by omega),Int.neg_neg]
  rw[this];split<;>omega
 have e1:(z.1+1).toNat=z.1.toNat+1:=by omega
 unfold vaN;rw[show inR .i64 (co k 41 - 20)=true from VP.2 (by omega),show inR .i64 (k.tdiv 41)=true from VP.2 bt,show inR .i64 (1+co (k.tdiv 41) 5)=true from VP.2 (by omega),show inR .i64 (z.1+1)=true from VP.2 (by omega)];refine QU hk (by decide) (ac rfl (ac rfl (QU (V4.2 bt) (by decide) (ac rfl (ac (by rw[V4.2 (show B64 (co k 41 - 20) from⟨by omega,by omega⟩),V4.2 (show B64 (1+co (k.tdiv 41) 5) from⟨by omega,by omega⟩)];rfl) (LQ (by omega) (ac rfl ⟨(z.1+1,z.2++ [anL k]),⟨by show 0<=z.1+1;omega,by show z.1+1<=n;omega, ?_⟩,by show (_:Nat)<_;dsimp only;omega,⟨⟨rfl,by simp,rfl,rfl,rfl,trivial⟩,trivial,trivial,anN rfl,trivial⟩⟩)))))));show z.2++ [anL k]=vu xs (z.1+1).toNat;rw[e1,h2,e];rfl
theorem an5 {n:Int} {Q:Nat->Nat->Blk->Prop} (h0:0<=n) (hn:n<=1000000) (hx: ∀x∈xs,cl x=true) (k:Q 4 n.toNat (eR.own (vu xs n.toNat))):vaT (vaI xs n) n xs n Q:=by
 refine⟨(0, []),⟨zat _,h0,rfl⟩,⟨⟨rfl,rfl,rfl,rfl,rfl,trivial⟩,trivial,trivial,rfl,trivial⟩, ?_⟩;rintro⟨i,l⟩ hI;have h:=hI;obtain⟨k0,k1,k2⟩:=h;dsimp only at k0 k1 k2 ⊢;have hl:l.length=i.toNat:=by rw[k2];exact fJ _ _
 refine ah (λhb=>ah (λhc=> ?_) (λhc=> ?_)) (λhb=> ?_)
 ·have hb:=zdv hb;have hc:=zdv hc;refine aY k0 hc (aom hI hb hn ?_ ?_)
  ·exact hx _ (gF (by omega))
  ·show mb 0 xs (0+i.toNat)=_;rw[za7]
 ·have hb:=zdv hb;have hc:=zdw hc;refine aom hI hb hn (by decide) ?_;have: ∀(l:List Int) (e:Nat),l.length<=e->mb 0 l e=0:=by
   intro l
   induction l with
   |nil=>intro e _;rfl
   |cons x r ih=>intro e he;cases e with
    |zero=>simp at he
    |succ e=>exact ih e (by simpa using he)
  exact(this xs i.toNat (by omega)).symm
 ·have hb:=zdw hb;obtain rfl:i=n:=by omega
  have e:l=vu xs i.toNat:=k2;subst e;have hl':(vu xs i.toNat).length=i.toNat:=fJ _ _;have:({n:=(vu xs i.toNat).length,sz:=2,get:=eR.get (vu xs i.toNat),kd:= .own,nn:=false}:Blk)=eR.own (vu xs i.toNat):=rfl;rw[this,hl'];exact k
def atJ:zdY:= [(14,atV)]
abbrev PwR:=Int×RS×Int
def atK (A:AS):RS:=match A.tm 8 with
 | .v (.slc i _ _)=>match A.bl i,Bh A (kA A 10) 24 with
   |some B, .val (.int _ l)=>NH (B.get (0+l.toNat))
   |_,_=>VI
 |_=>VI
def atO (A:AS):Int:=match Bh A (kA A 10) 23 with
 | .val (.int _ n)=>n
 |_=>0
def asN (I0:Int->Prop) (N0:Int) (I:EX->Prop) (N:Int) (J:RS->Int->PwR->Prop):zdW:=λf k=>bif Nat.beq f 19 then(
 bif Nat.beq k 4 then some (λA=>{X:=Int,inv:=I0,tm:=λi=> [(6, .val (.int .i64 i))],mu:=λi=>(N0 - i).toNat,keep:= [1,2,4]})
 else bif Nat.beq k 11 then some (λA=>{X:=EX,inv:=I,tm:=λx=> [(9, .val (.int .i64 x.1)),(8, .slc A.nx 0 x.2.length)],gr:= [{src:= .slot 8,sz:=2,n:=λx=>x.2.length,get:=λx=>eR.get x.2}],cleanG:=λg hg x e=>(by simp at hg;subst hg;exact eR.ids _),mu:=λx=>(N - x.1).toNat,keep:= [1,2,4]})
 else bif Nat.beq k 30 then some (λA=>{X:=PwR,inv:=J (atK A) (atO A),tm:=λx=> [(13, .val (.int .i64 x.1)),(12, .val (.int .i64 x.2.2))],st:= [(kA A 11,λx=>gA x.2.1)],mu:=λx=>(4 - x.1).toNat,keep:= [1,2,4,8,9,10,11]})
 else none) else none
def atu (ni:Nat):Prop:=tvE (.slc 2 0 ni)/\cg 3/\cg 4/\True
def atL (q ni:Nat) (p:Int) (n:Nat) (us:zdO) (z:EX):Prop:=(TV.v (cI.enc p)=TV.v (cI.enc z.1)/\TV.v (.slc q 0 n)=TV.v (.slc q 0 z.2.length)/\atu ni)/\(True/\(True/\(af (Nat.beq 2 2&&decide (z.2.length<=n)) (∀e,e<z.2.length->us e=eR.get z.2 e)/\True)))
def arO (I:EX->Prop) (N:Int) (q ni:Nat) (i:Int) (vs:List RS) (v:RS):Prop:=LP vs.length (af (inR .i64 (i+1)) (∃z:EX,I z/\((N - z.1).toNat<(N - i).toNat/\atL q ni (i+1) (vs.length+1) (anM vs v) z)))
def atv (ni:Nat) (i:Int) (n:Nat) (k:Int) (v:RS) (e:Int) (z:PwR):Prop:=
 (TV.v (cI.enc k)=TV.v (cI.enc z.1)/\TV.v (cI.enc e)=TV.v (cI.enc z.2.2)/\tvE (.slc 2 0 ni)/\cg 3/\cg 4/\tvE (.slc 23 0 n)/\tvE (cI.enc i)/\cg 34/\cg 38/\True)/\(True/\((gA v=gA z.2.1/\True)/\True))
def powR (J:RS->Int->PwR->Prop) (ni:Nat) (i:Int) (vs:List RS) (x:Nd) (bad:Prop) (K1 K2:RS->Prop):Prop:=
 ∃z0:PwR,J (mb VI vs (0+x.l.toNat)) x.n z0/\(atv ni i vs.length 0 rI 0 z0/\ ∀z:PwR,J (mb VI vs (0+x.l.toNat)) x.n z->af (inR .i64 (-x.n)) (ag (bif decide (z.1<jH x.n) then z.2.2==0 else false)
  (eO vs.length x.l (af (uzR z.2.1&&uzR (mb VI vs (0+x.l.toNat))) (af (inR .i64 (z.1+1)) (∃z':PwR,J (mb VI vs (0+x.l.toNat)) x.n z'/\((4 - z'.1).toNat<(4 - z.1).toNat/\atv ni i vs.length (z.1+1) (ale z.2.1 (mb VI vs (0+x.l.toNat))).1 (ale z.2.1 (mb VI vs (0+x.l.toNat))).2 z')))))
  (ag (bif decide (x.n<0) then z.2.2==0 else false) (af (uzR rI&&uzR z.2.1) (LO (cA rI z.2.1) bad K1)) (ag (z.2.2 !=0) bad (K2 z.2.1)))))
def atw (I:EX->Prop) (N:Int) (J:RS->Int->PwR->Prop) (ins:List RS) (i:Int) (vs:List RS) (x:Nd) (bad:Prop):Prop:=
 ag (x.op==2) (eO ins.length x.n (arO I N 56 ins.length i vs (mb VI ins (0+x.n.toNat)))) (
 ag (x.op==3) (opP vs x fZ bad (arO I N 68 ins.length i vs)) (
 ag (x.op==4) (opP vs x iF bad (arO I N 70 ins.length i vs)) (
 ag (x.op==5) (opP vs x ale bad (arO I N 72 ins.length i vs)) (
 ag (x.op==6) (opP vs x cA bad (arO I N 74 ins.length i vs)) (
 ag (x.op==7) (powR J ins.length i vs x bad (arO I N 88 ins.length i vs) (arO I N 84 ins.length i vs)) (
 ag (x.op==8) bad (arO I N 62 ins.length i vs x.v)))))))
def e0M (ni:Nat) (i z:Int):Prop:=(TV.v (cI.enc i)=TV.v (cI.enc z)/\atu ni)/\(True/\(True/\True))
def evR (I0:Int->Prop) (N0:Int) (I:EX->Prop) (N:Int) (J:RS->Int->PwR->Prop) (p:Pr) (ins:List RS) (Q:zdS):Prop:=
 n8 (jn p) (ag (bif !VM (dm p) then true else((ins.length:Int) !=(p.inp.length:Int))) (Q LN) (
 ∃y0:Int,I0 y0/\(e0M ins.length 0 y0/\ ∀y:Int,I0 y->ag (decide (y<(ins.length:Int)))
  (eO ins.length y (af (uzR (mb VI ins (0+y.toNat))) (ag (!rV (mb VI ins (0+y.toNat))) (Q LN) (af (inR .i64 (y+1)) (∃y':Int,I0 y'/\((N0 - y').toNat<(N0 - y).toNat/\e0M ins.length (y+1) y'))))))
  (∃z0:EX,I z0/\(((TV.v (cI.enc 0)=TV.v (cI.enc z0.1)/\TV.v (.val (.slice none 0 0))=TV.v (.val (.slice none z0.2.length 0))/\atu ins.length)/\(True/\(True/\(z0.2.length=0/\True))))/\
    ∀z:EX,I z->ag (decide (z.1<(p.nod.length:Int)))
     (eO p.nod.length z.1 (atw I N J ins z.1 z.2 (mb noN p.nod (0+z.1.toNat)) (Q LN)))
     (af (inR .i64 ((z.2.length:Int) - 1)) (eO z.2.length ((z.2.length:Int) - 1) (Q (.tup [.agg (gA (mb VI z.2 (0+((z.2.length:Int) - 1).toNat))), .val (.int .i64 0)])))))))))
theorem atx (I0:Int->Prop) (N0:Int) (I:EX->Prop) (N:Int) (J:RS->Int->PwR->Prop) (p:Pr) (ins:List RS) (Q:zdS):JL atJ (asN I0 N0 I N J) 6 19 [kB p, .slc 2 0 ins.length] [eU.old p.inp,eN.old p.nod,eR.old ins] (Go.Sy.okK λr _ _ _=>Q r)=evR I0 N0 I N J p ins Q:=by kernel_rfl
variable {ni:Nat}
theorem as9 {p:Int} {us:List RS} {u:RS}:atL q ni p (us.length+1) (anM us u) (p,us++ [u]):=
 ⟨⟨rfl,by simp,rfl,rfl,rfl,trivial⟩,trivial,trivial,anN rfl,trivial⟩
def asO (b:RS) (n:Int) (z:PwR):Prop:=0<=z.1/\z.1<=jH n/\uzR z.2.1=true/\(bif z.2.2==0 then kC b z.1.toNat=some z.2.1 else kC b (jH n).toNat=none)
variable {i:Int} {n:Nat}
theorem arT {k e:Int} :atv ni i n k v e (k,v,e):=⟨⟨rfl,rfl,rfl,rfl,rfl,rfl,rfl,rfl,rfl,trivial⟩,trivial,⟨rfl,trivial⟩,trivial⟩
theorem arU {b:RS} {k:Nat} (h:kC b k=none): ∀m,kC b (k+m)=none
 |0=>h
 |m+1=>by rw[<-zbr,kC,arU h m]
variable {ins:List RS}
theorem ata {I:EX->Prop} {N:Int} {vs:List RS} {x:Nd} {bad:Prop} (hx:NodeOK ni vs.length x) (hni:ins.length=ni) (hv: ∀u∈vs,uzR u=true) (hb:valF ins vs x=none->bad) (hs: ∀v q,valF ins vs x=some v->arO I N q ins.length i vs v):atw I N asO ins i vs x bad:=by
 obtain⟨o1,o2⟩:=hx.op;have two: ∀{f:RS->RS->RS×Int} {q:Nat},3<=x.op->x.op<=6->valF ins vs x=okR (f (mb VI vs x.l.toNat) (mb VI vs x.r.toNat))->opP vs x f bad (arO I N q ins.length i vs):=λ{f q} a b e=>by
  have hl:=hx.left a;have hr:=hx.right a b;unfold opP;rw[za7,za7];exact aY hl.1 hl.2 (aY hr.1 hr.2 (ac (by rw[rg hv,rg hv];rfl) (xk (λh=>hb (e.trans h)) (λv h=>hs v q (e.trans h)))))
 have n1: ∀{k:Int},k≠1->x.op=k->(x.op==1)=false:=λ{k} h e=>zdx (by omega);unfold atw;refine ah (λe2=> ?_) (λe2=>ah (λe3=> ?_) (λe3=>ah (λe4=> ?_) (λe4=>ah (λe5=> ?_) (λe5=>ah (λe6=> ?_) (λe6=>ah (λe7=> ?_) (λe7=>ah (λe8=> ?_) (λe8=> ?_)))))))
 ·have h:=hx.inp (int_eq.1 e2);rw[za7];exact aY h.1 (by omega) (hs _ _ (by unfold valF;rw[n1 (by decide) (int_eq.1 e2),e2];rfl))
 ·exact two (by rw[int_eq.1 e3];decide) (by rw[int_eq.1 e3];decide) (by unfold valF;rw[n1 (by decide) (int_eq.1 e3),e2,e3];rfl)
 ·exact two (by rw[int_eq.1 e4];decide) (by rw[int_eq.1 e4];decide) (by unfold valF;rw[n1 (by decide) (int_eq.1 e4),e2,e3,e4];rfl)
 ·exact two (by rw[int_eq.1 e5];decide) (by rw[int_eq.1 e5];decide) (by unfold valF;rw[n1 (by decide) (int_eq.1 e5),e2,e3,e4,e5];rfl)
 ·exact two (by rw[int_eq.1 e6];decide) (by rw[int_eq.1 e6];decide) (by unfold valF;rw[n1 (by decide) (int_eq.1 e6),e2,e3,e4,e5,e6];rfl)
 ·have hp:=hx.pow (int_eq.1 e7);have hl:=hx.left (by rw[int_eq.1 e7];decide)
  have e:valF ins vs x=(match kC (mb VI vs x.l.toNat) (jH x.n).toNat with
   |some v=>bif decide (x.n<0) then okR (cA rI v) else some v
   |none=>none):=by unfold valF;rw[n1 (by decide) (int_eq.1 e7),e2,e3,e4,e5,e6,e7];rfl
  have hm:0<=jH x.n/\jH x.n<=4:=by unfold jH;split<;>omega
  unfold powR;rw[za7];refine⟨(0,rI,0),⟨zat _,hm.1,by show uzR rI=true;decide,rfl⟩,arT, ?_⟩;rintro⟨k,v,c⟩ ⟨k0,k1,k2,k3⟩;dsimp only at k0 k1 k2 k3 ⊢;have hbz:=rg hv x.l.toNat;generalize mb VI vs x.l.toNat=b at e k3 hbz ⊢;refine ac (VP.2 (by omega)) (ah (λhk=> ?_) (λhk=> ?_))
  ·cases hd:decide (k<jH x.n) with
   |false=>rw[hd] at hk;cases hk
   |true=>
   rw[hd,zds] at hk;rw[hk,zds] at k3;have hd:=zdv hd;refine aY hl.1 hl.2 (ac (by rw[k2,hbz];rfl) (ac (VP.2 (by omega)) ⟨(k+1,(ale v b).1,(ale v b).2),⟨by show 0<=k+1;omega,by show k+1<=_;omega,gI _ _, ?_⟩,by show (_:Nat)<_;omega,arT⟩));show bif (ale v b).2==0 then kC b (k+1).toNat=some (ale v b).1 else _
   have hn:kC b (k.toNat+1)=okR (ale v b):=by rw[kC,k3]
   cases hc:(ale v b).2==0 with
   |true=>
    rw[zds,show (k+1).toNat=k.toNat+1 by omega,hn];unfold okR;rw[show ((ale v b).2 !=0)=false by rw[bne,hc];rfl];rfl
   |false=>
    rw[zdr,show (jH x.n).toNat=k.toNat+1+((jH x.n).toNat - (k.toNat+1)) by omega];refine arU ?_ _;rw[hn];unfold okR;rw[show ((ale v b).2 !=0)=true by rw[bne,hc];rfl];rfl
  ·cases hc:c==0 with
   |true=>
    rw[hc,zds] at k3;have hd: ¬k<jH x.n:=λh=>by rw[zdq h,zds,hc] at hk;cases hk
    rw[show k.toNat=(jH x.n).toNat by omega] at k3;rw[k3] at e;refine ah (λhn=> ?_) (λhn=> ?_)
    ·cases hg:decide (x.n<0) with
     |false=>rw[hg] at hn;cases hn
     |true=>
      rw[hg] at e;exact ac (by rw[k2];decide) (xk (λh=>hb (e.trans h)) (λw h=>hs w _ (e.trans h)))
    ·cases hg:decide (x.n<0) with
     |true=>rw[hg,zds] at hn;cases hn
     |false=>
      rw[hg] at e;exact ah (λh=>by rw[bne,hc] at h;cases h) λ_=>hs _ _ e
   |false=>
    rw[hc,zdr] at k3;rw[k3] at e;refine ah (λhn=> ?_) (λhn=>ah (λ_=>hb e) (λh=>by rw[bne,hc] at h;cases h));cases hg:decide (x.n<0)<;>rw[hg] at hn<;>cases hn
 ·exact hb (by unfold valF;rw[n1 (by decide) (int_eq.1 e8),e2,e3,e4,e5,e6,e7,e8];rfl)
 ·have:x.op=1:=by
   simp only[zdy,ne_eq] at e2 e3 e4 e5 e6 e7 e8;omega
  exact hs _ _ (by unfold valF;rw[this];rfl)
theorem ar6:e0M ni i i:=⟨⟨rfl,rfl,rfl,rfl,trivial⟩,trivial,trivial,trivial⟩
def e0I (ins:List RS) (z:Int):Prop:=0<=z/\z<=ins.length/\(ins.take z.toNat).all rV=true
variable {p:Pr} {Q:zdS}
theorem ast (hsz:aci p=true) (h6:p.inp.length<=1000000) (h7:p.nod.length<=1000000) (hi: ∀u∈ins,uzR u=true) (h8:ins.length<=1000000)
 (hQ:Q (.tup [.agg (gA (bn p ins).1), .val (.int .i64 (bn p ins).2)])):evR (e0I ins) ins.length (evI ins p.nod) p.nod.length asO p ins Q:=by
 obtain⟨⟨si,sn⟩,so⟩:=arx hsz;have bad:bn p ins=(VI,90)->Q LN:=λh=>by rw[h] at hQ;exact hQ
 unfold evR n8;refine ac (eY hsz h6 h7) λ_ _=> ?_;rw[fN];refine ah (λh=>bad ?_) (λh=> ?_)
 ·unfold bn;cases hv:VM p with
  |false=>rfl
  |true=>
   rw[hv] at h;have:(ins.length !=p.inp.length)=true:=by simp at h ⊢;omega
   rw[this];rfl
 cases hv:VM p with
 |false=>rw[hv] at h;cases h
 |true=>
 rw[hv] at h;have hl:ins.length=p.inp.length:=by simp at h;omega
 refine⟨0,⟨zat _,by omega,rfl⟩,ar6, ?_⟩;rintro y ⟨y0,y1,y2⟩;refine ah (λhy=> ?_) (λhy=> ?_)
 ·have hy:=zdv hy;rw[za7];have hm:=gF (d:=VI) (l:=ins) (e:=y.toNat) (by omega);refine aY y0 hy (ac (rg hi _) (ah (λhk=>bad ?_) (λhk=>ac (VP.2 (by omega)) ⟨y+1,⟨by omega,by omega, ?_⟩,by omega,ar6⟩)))
  ·unfold bn;have:ins.all rV=false:=Bool.eq_false_iff.2 λh=>by
    rw[zaf.1 h _ hm] at hk;cases hk
   rw[this,zbg,Bool.or_true];rfl
  ·rw[show (y+1).toNat=y.toNat+1 by omega,zc1,Co (d:=VI) (by omega),List.all_append,y2];simpa using hk
 ·have hy:=zdw hy;rw[show y.toNat=ins.length by omega,List.take_length] at y2;obtain⟨hbeg,hnod⟩:=bQ hv;have hc:bn p ins=match iC ins p.nod [] with
   |some vs=>(CU vs,0)
   |none=>(VI,90):=by unfold bn;rw[hv,y2,hl];first|(simp;rfl)|simp
  have hb:=Wb.1 hbeg;refine⟨(0, []),⟨zat _,by show (0:Int)<=_;omega,rfl,λu h=>(by cases h),rfl⟩,⟨⟨rfl,rfl,rfl,rfl,rfl,trivial⟩,trivial,trivial,rfl,trivial⟩, ?_⟩;rintro⟨i,vs⟩ ⟨k0,k1,k2,k3,k4⟩;simp only at k0 k1 k2 k3 k4;dsimp only;refine ah (λhz=> ?_) (λhz=> ?_)
  ·have hz:i<(p.nod.length:Int):=zdv hz;rw[za7];have hd:=atR (d:=noN) k0 hz;have hx:=hnod i.toNat (by omega);have hxs:=sn _ (gF (d:=noN) (l:=p.nod) (e:=i.toNat) (by omega));rw[hd,iC] at k4;refine aY k0 hz (ata (by rw[k2];exact hx) hl k3 (λhn=>bad ?_) (λv q hu=> ?_))
   ·rw[hn] at k4;replace k4:iC ins p.nod []=none:=k4;rw[hc,k4]
   ·rw[hu] at k4;replace k4:iC ins p.nod []=iC ins (p.nod.drop (i+1).toNat) (vs++ [v]):=k4;refine LQ (by omega) (ac (VP.2 (by omega)) ⟨(i+1,vs++ [v]),⟨by show 0<=i+1;omega,by show i+1<=_;omega,by simp only[za3,za6];omega, ?_,k4⟩,by show (_:Nat)<_;omega,as9⟩);exact atS k3 (LR hxs hi k3 hu)
  ·have hz: ¬i<(p.nod.length:Int):=zdw hz;rw[show i.toNat=p.nod.length by omega,zbj,iC] at k4;rw[k4] at hc;replace hc:bn p ins=(CU vs,0):=hc;rw[hc] at hQ;refine ac (VP.2 (by omega)) (aY (by omega) (by omega) ?_);rw[show (0+((vs.length:Int) - 1).toNat)=vs.length - 1 by omega];exact hQ
theorem atb:MOk atJ:=MOk.nil.cons arN
theorem asu: ∀B:Base,GlobB B->VU prog B 19 zm:=Sh atb λbl nx args C hk hp=>by
 unfold zm at hk;split at hk
 ·rename_i s t;split at hk
  ·rename_i a b o n c ha hs;simp only[za1] at hk;subst hk;simp only[za2] at hp;obtain⟨⟨⟨hp,rfl⟩,hn⟩,hgood⟩:=hp;obtain⟨s1,s2,s3,s4,s5,s6⟩:=eX (f:=rnF [a.o1,a.o2,o] [] nx) ha hp rfl rfl;obtain⟨t1,t2⟩:=cq (f:=rnF [a.o1,a.o2,o] [] nx) hs hgood;refine⟨[a.o1,a.o2,o], [eU.old a.p.inp,eN.old a.p.nod,eR.old (eR.list n c)], [kB a.p, .slc 2 0 (eR.list n c).length],asN (e0I (eR.list n c)) (eR.list n c).length (evI (eR.list n c) a.p.nod) a.p.nod.length asO,6,aw s1 (aw s2 (aw t1 trivial)),bH (by simp[cN,El.old]),cd (by simp[El.old,BK.map]),ar s3 (ar (t2 2 rfl) rfl), ?_⟩;refine Ue () trivial rfl (r:= .tup [.agg (gA (bn a.p (eR.list n c)).1), .val (.int .i64 (bn a.p (eR.list n c)).2)]) rfl rfl rfl rfl (by simp[cN,El.old]) rfl ?_;rw[atx];exact ast s4 s5 s6 (El.good_list hgood) (by rw[El.list_length];exact zak hn) rfl
  ·cases hk
 ·cases hk
def alN (n:Nat):Int:=if (20:Int)<(n:Int) then 20 else(n:Int)
def alG (s:zdI):zdI:=s.extract 0 (alN s.size).toNat
def ama (s:zdI):Bool:=decide (0<=alN s.size)&&decide (alN s.size<=(s.size:Int))
theorem alZ:0<=alN n/\alN n<=n/\alN n<=20:=by
 unfold alN;split<;>omega
theorem al0 (s:zdI):ama s=true:=by
 have:=alZ (n:=s.size);unfold ama;rw[zdq this.1,zdq this.2.1];rfl
def alv (x:RS):RS:=(alG x.1,alG x.2)
def alf (u:Un):Un:={u with f:=alv u.f,o:=alv u.o}
def alw (x:Nd):Nd:={x with v:=alv x.v,u:=alf x.u}
def alM (p:Pr):Pr:=⟨p.id,(p.inp.take 8).map alf,(p.nod.take 42).map alw,alf p.out⟩
theorem amn (a:Addr) (x:RS) (K:zdS):acb a xK [] noA 5 6 [cR.enc x] K=af (ama x.1) (af (ama x.2) (K (cR.enc (alv x)))):=by kernel_rfl
def gSh:List (FuncId×Ctr):=(6,k1 cR cR (λ_=>true) alv)::xK
theorem amF:GEk gSh:=(GEk.of BN).cons (λa W hW=>dD λx h=>l0 (GEk.of BN) (MEk.nil (a:=a)) hW (ann:=noA) (n:=5) m8 (cR.ids _) (by rw[amn];exact ac (al0 _) (ac (al0 _) rfl))) call6
theorem amc (a:Addr) (u:Un) (K:zdS):acb a gSh [] noA 5 7 [cU.enc u] K=K (cU.enc (alf u)):=by kernel_rfl
def gFw:List (FuncId×Ctr):=(7,k1 cU cU (λ_=>true) alf)::gSh
theorem amV:GEk gFw:=amF.cons (λa W hW=>dD λu h=>l0 amF (MEk.nil (a:=a)) hW (ann:=noA) (n:=5) m8 (cU.ids _) (by rw[amc])) call7
abbrev F1:=Int×List Un
abbrev F2:=Int×List Nd
def amo (I1:F1->Prop) (I2:F2->Prop) (N1 N2:Int):zdW:=λf k=>bif Nat.beq f 8 then(
 bif Nat.beq k 3 then some (λA=>{X:=F1,inv:=I1,tm:=λx=> [(4, .val (.int .i64 x.1))],st:= [(kA A 3,λx=>(qv A 3 0).take 1++(SV.slc A.nx 0 x.2.length::(qv A 3 0).drop 2))],gr:= [{src:= .cell (kA A 3) 0 1,sz:=20,n:=λx=>x.2.length,get:=λx=>eU.get x.2}],cleanG:=λg hg x e=>(by simp at hg;subst hg;exact eU.ids _),mu:=λx=>(N1 - x.1).toNat,keep:= [1,2,3]})
 else bif Nat.beq k 7 then some (λA=>{X:=F2,inv:=I2,tm:=λx=> [(5, .val (.int .i64 x.1))],st:= [(kA A 3,λx=>(qv A 3 0).take 2++(SV.slc A.nx 0 x.2.length::(qv A 3 0).drop 3))],gr:= [{src:= .cell (kA A 3) 0 2,sz:=26,n:=λx=>x.2.length,get:=λx=>eN.get x.2}],cleanG:=λg hg x e=>(by simp at hg;subst hg;exact eN.ids _),mu:=λx=>(N2 - x.1).toNat,keep:= [1,2,3]})
 else none) else none
abbrev amG (a:Addr) (I1:F1->Prop) (I2:F2->Prop) (N1 N2:Int) (p:Pr) (K1:Nat->Nat->Blk->Nat->Nat->Blk->Int->List SV->Prop):Prop:=
 XC a gFw [] (amo I1 I2 N1 N2) 6 8 [kB p] [eU.old p.inp,eN.old p.nod] (prS K1)
def amp:Prop:=cg 2/\cg 3/\cg 10/\True
def amx (p:Pr) (s:SV):zdL:= .val (.int .i64 p.id)::s:: .val (.slice none 0 0)::ci (alf p.out)
def amy (p:Pr) (n0:Nat) (s:SV):zdL:= .val (.int .i64 p.id):: .slc 13 0 n0::s::ci (alf p.out)
def am0 (p:Pr) (q:Nat) (i:Int) (m:Nat) (g:zdO) (z:F1):Prop:=(TV.v (cI.enc i)=TV.v (cI.enc z.1)/\amp)/\(True/\((amx p (.slc q 0 m)=amx p (.slc q 0 z.2.length)/\True)/\(af (Nat.beq 20 20&&decide (z.2.length<=m)) (∀e,e<z.2.length->g e=eU.get z.2 e)/\True)))
def am1 (p:Pr) (n0 q:Nat) (i:Int) (m:Nat) (g:zdO) (z:F2):Prop:=(TV.v (cI.enc i)=TV.v (cI.enc z.1)/\amp)/\(True/\((amy p n0 (.slc q 0 m)=amy p n0 (.slc q 0 z.2.length)/\True)/\(af (Nat.beq 26 26&&decide (z.2.length<=m)) (∀e,e<z.2.length->g e=eN.get z.2 e)/\True)))
def amW (I2:F2->Prop) (N2:Int) (p:Pr) (K1:Nat->Nat->Blk->Nat->Nat->Blk->Int->List SV->Prop) (us:ze0):Prop:=
 ∃z0:F2,I2 z0/\(((TV.v (cI.enc 0)=TV.v (cI.enc z0.1)/\amp)/\(True/\((amy p us.length (.val (.slice none 0 0))=amy p us.length (.val (.slice none z0.2.length 0))/\True)/\(z0.2.length=0/\True))))/\
  ∀z:F2,I2 z->ag (bif decide (z.1<(p.nod.length:Int)) then decide (z.1<42) else false)
   (eO p.nod.length z.1 (LY z.2.length (af (inR .i64 (z.1+1)) (∃z':F2,I2 z'/\((N2 - z'.1).toNat<(N2 - z.1).toNat/\am1 p us.length 55 (z.1+1) (z.2.length+1) (gv z.2 (alw (eN.nth p.nod (0+z.1.toNat)))) z')))))
   (K1 13 us.length {n:=us.length,sz:=20,get:=eU.get us,kd:= .own,nn:=false} 24 z.2.length {n:=z.2.length,sz:=26,get:=eN.get z.2,kd:= .own,nn:=false} p.id (ci (alf p.out))))
def fwT (I1:F1->Prop) (I2:F2->Prop) (N1 N2:Int) (p:Pr) (K1:Nat->Nat->Blk->Nat->Nat->Blk->Int->List SV->Prop):Prop:=
 ∃x0:F1,I1 x0/\(((TV.v (cI.enc 0)=TV.v (cI.enc x0.1)/\amp)/\(True/\((amx p (.val (.slice none 0 0))=amx p (.val (.slice none x0.2.length 0))/\True)/\(x0.2.length=0/\True))))/\
  ∀x:F1,I1 x->ag (bif decide (x.1<(p.inp.length:Int)) then decide (x.1<8) else false)
   (eO p.inp.length x.1 (tO x.2.length (af (inR .i64 (x.1+1)) (∃x':F1,I1 x'/\((N1 - x'.1).toNat<(N1 - x.1).toNat/\am0 p 24 (x.1+1) (x.2.length+1) (Jz x.2 (alf (eU.nth p.inp (0+x.1.toNat)))) x')))))
   (amW I2 N2 p K1 x.2))
theorem amL (a:Addr) (I1:F1->Prop) (I2:F2->Prop) (N1 N2:Int) (p:Pr) (K1:Nat->Nat->Blk->Nat->Nat->Blk->Int->List SV->Prop):amG a I1 I2 N1 N2 p K1=fwT I1 I2 N1 N2 p K1:=by kernel_rfl
theorem alO:amp:=⟨rfl,rfl,rfl,trivial⟩
def amM (p:Pr) (x:F1):Prop:=0<=x.1/\x.1<=p.inp.length/\x.1<=8/\x.2=(p.inp.take x.1.toNat).map alf
def amz (p:Pr) (x:F2):Prop:=0<=x.1/\x.1<=p.nod.length/\x.1<=42/\x.2=(p.nod.take x.1.toNat).map alw
theorem al1 {α β:Type} {d:α} {f:α->β} {l:List α} (h0:0<=i) (h1:i<l.length):(l.take (i+1).toNat).map f=(l.take i.toNat).map f++ [f (mb d l (0+i.toNat))]:=by
 rw[show (i+1).toNat=i.toNat+1 by omega,za7,zc1,Co (d:=d) (by omega)];simp
variable {K1:Nat->Nat->Blk->Nat->Nat->Blk->Int->List SV->Prop}
theorem amd {us:ze0}
 (k: ∀ns,ns=(p.nod.take 42).map alw->K1 13 us.length {n:=us.length,sz:=20,get:=eU.get us,kd:= .own,nn:=false} 24 ns.length {n:=ns.length,sz:=26,get:=eN.get ns,kd:= .own,nn:=false} p.id (ci (alf p.out))):amW (amz p) p.nod.length p K1 us:=by
 refine⟨(0, []),⟨zat _,by show (0:Int)<=_;omega,by decide,rfl⟩,⟨⟨rfl,alO⟩,trivial,⟨rfl,trivial⟩,rfl,trivial⟩, ?_⟩;rintro⟨i,ns⟩ ⟨k0,k1,k2,k3⟩;dsimp only at k0 k1 k2 k3 ⊢;refine ah (λhb=> ?_) (λhb=> ?_)
 ·have hb:i<(p.nod.length:Int)/\i<42:=by
   cases h:decide (i<(p.nod.length:Int)) with
   |true=>rw[h] at hb;exact⟨zdv h,zdv hb⟩
   |false=>rw[h] at hb;cases hb
  have l1:ns.length=i.toNat:=by rw[k3];simp;omega
  refine aY k0 hb.1 (xp (by omega) (ac (VP.2 (by omega)) ⟨(i+1,ns++ [alw (eN.nth p.nod (0+i.toNat))]),⟨by show 0<=i+1;omega,by show i+1<=_;omega,by show i+1<=42;omega, ?_⟩,by show (_:Nat)<_;dsimp only;omega,⟨⟨rfl,alO⟩,trivial,⟨by simp,trivial⟩,S7 rfl,trivial⟩⟩));show ns++ [_]=(p.nod.take (i+1).toNat).map alw;rw[al1 (d:=noN) k0 hb.1,k3];rfl
 ·refine k ns ?_;rw[k3]
  congr 1
  have hb: ¬(i<(p.nod.length:Int)/\i<42):=λh=>by
   rw[zdq h.1,zdq h.2] at hb;cases hb
  by_cases h:i<42
  ·rw[show i.toNat=p.nod.length by omega,List.take_length,zaI (by omega)]
  ·rw[show i.toNat=42 by omega]
theorem ame 
 (k: ∀us ns,us=(p.inp.take 8).map alf->ns=(p.nod.take 42).map alw->K1 13 us.length {n:=us.length,sz:=20,get:=eU.get us,kd:= .own,nn:=false} 24 ns.length {n:=ns.length,sz:=26,get:=eN.get ns,kd:= .own,nn:=false} p.id (ci (alf p.out))):fwT (amM p) (amz p) p.inp.length p.nod.length p K1:=by
 refine⟨(0, []),⟨zat _,by show (0:Int)<=_;omega,by decide,rfl⟩,⟨⟨rfl,alO⟩,trivial,⟨rfl,trivial⟩,rfl,trivial⟩, ?_⟩;rintro⟨i,us⟩ ⟨k0,k1,k2,k3⟩;dsimp only at k0 k1 k2 k3 ⊢;refine ah (λhb=> ?_) (λhb=> ?_)
 ·have hb:i<(p.inp.length:Int)/\i<8:=by
   cases h:decide (i<(p.inp.length:Int)) with
   |true=>rw[h] at hb;exact⟨zdv h,zdv hb⟩
   |false=>rw[h] at hb;cases hb
  have l1:us.length=i.toNat:=by rw[k3];simp;omega
  refine aY k0 hb.1 (fV (by omega) (ac (VP.2 (by omega)) ⟨(i+1,us++ [alf (eU.nth p.inp (0+i.toNat))]),⟨by show 0<=i+1;omega,by show i+1<=_;omega,by show i+1<=8;omega, ?_⟩,by show (_:Nat)<_;dsimp only;omega,⟨⟨rfl,alO⟩,trivial,⟨by simp,trivial⟩,Sc rfl,trivial⟩⟩));show us++ [_]=(p.inp.take (i+1).toNat).map alf;rw[al1 (d:=noU) k0 hb.1,k3];rfl
 ·refine amd λns h=>k us ns ?_ h;rw[k3]
  congr 1
  have hb: ¬(i<(p.inp.length:Int)/\i<8):=λh=>by
   rw[zdq h.1,zdq h.2] at hb;cases hb
  by_cases h:i<8
  ·rw[show i.toNat=p.inp.length by omega,List.take_length,zaI (by omega)]
  ·rw[show i.toNat=8 by omega]
def fwK (p:Pr) (i n:Nat) (B:Blk) (j m:Nat) (C:Blk) (id:Int) (rest:zdL):Prop:=i=13/\n=p.inp.length/\B=eU.own p.inp/\j=24/\m=p.nod.length/\C=eN.own p.nod/\id=p.id/\rest=ci p.out
def ase (bl:zdN) (s:SV):Option ProA:=match s with
 | .agg (.val (.int .i64 id)::si::sn::r)=>match vW bl 20 si,vW bl 26 sn,Au (.agg r) with
   |some (b1,o1,n1,g1),some (b2,o2,n2,g2),some u=>some ⟨b1&&b2&&eU.good szB n1 g1&&eN.good szN n2 g2&&szB u,o1,o2,⟨id,eU.list n1 g1,eN.list n2 g2,u⟩⟩
   |_,_,_=>none
 |_=>none
theorem asf {bl:zdN} {s:SV} {a:ProA} {f:zdZ} (h:ase bl s=some a) (hn:a.need=true) (h0:f 0=some a.o1) (h1:f 1=some a.o2):
 j5 bl f (eU.old a.p.inp) a.o1/\j5 bl f (eN.old a.p.nod) a.o2/\(kB a.p).rn f=some s:=by
 unfold ase at h;split at h
 ·rename_i id si sn r;split at h
  ·rename_i b1 o1 n1 g1 b2 o2 n2 g2 u hs1 hs2 hu;simp only[za1] at h;subst h;simp only[za2] at hn;obtain⟨⟨⟨⟨rfl,rfl⟩,k1⟩,k2⟩,k3⟩:=hn;obtain⟨a1,a2⟩:=cq (f:=f) hs1 k1;obtain⟨b1,b2⟩:=cq (f:=f) hs2 k2;refine⟨a1,b1, ?_⟩;have e:=rns_free (f:=f) (fj u);have d:=pM hu;subst d;exact Xs (ar (show SV.rn f (.val (.int .i64 id))=_ from rfl) (ar (a2 0 h0) (ar (b2 1 h1) e)))
  ·cases h
 ·cases h
def asP:MCtr:=λbl nx args=>match args with
 | [s]=>match ase bl s with
   |some a=>some {X:=Unit,pre:=a.need,spec:=λ_=>True,out:=λ_=>TJ nx (alM a.p),nw:=λ_=> [eU.own (alM a.p).inp,eN.own (alM a.p).nod],ex:=λ_=>⟨(),trivial⟩}
   |none=>none
 |_=>none
variable {a:Addr}
theorem asQ: ∀B:Base,GlobEB a B->VU prog B 8 asP:=agE amV MEk.nil λbl nx args C hk hp=>by
 unfold asP at hk;split at hk
 ·rename_i s;split at hk
  ·rename_i q hq;simp only[za1] at hk;subst hk;obtain⟨s1,s2,s3⟩:=asf (f:=rnF [q.o1,q.o2] [] nx) hq hp rfl rfl;refine⟨[q.o1,q.o2], [eU.old q.p.inp,eN.old q.p.nod], [kB q.p],amo (amM q.p) (amz q.p) q.p.inp.length q.p.nod.length,6,aw s1 (aw s2 trivial),bH (by simp[cN,El.old]),cd (by simp[El.old,BK.map]),ar s3 rfl, ?_⟩;have hold: ∀C∈ [eU.old q.p.inp,eN.old q.p.nod],cN C.kd=false:=by simp[cN,El.old]
   refine afP (K:=prS (fwK (alM q.p))) ?_ λr bl' m w h=> ?_
   ·have e:=amL a (amM q.p) (amz q.p) q.p.inp.length q.p.nod.length q.p (fwK (alM q.p));unfold amG at e;rw[e];refine ame λus ns h3 h4=> ?_;subst h3 h4;exact⟨rfl,rfl,rfl,rfl,rfl,rfl,rfl,rfl⟩
   ·generalize alM q.p=p at h;obtain⟨id,i,n',j,m',B,C,rest,rfl,hB,hC,rfl,rfl,rfl,rfl,rfl,rfl,rfl,rfl⟩:=SK h;have e:=rns_free (f:=dt [q.o1,q.o2] [some 13,some 24] nx) (fj p.out);have e0:dt [q.o1,q.o2] [some 13,some 24] nx nx=some (some 13):=cO;have e1:dt [q.o1,q.o2] [some 13,some 24] nx (nx+1)=some (some 24):=jA 1;refine⟨(),trivial, [some 13,some 24],⟨_,rfl, ?_⟩,by simp[ck],⟨⟨by simp, ?_⟩,⟨by simp, ?_⟩,trivial⟩,we hold rfl _⟩
    ·show SV.rn (dt [q.o1,q.o2] [some 13,some 24] nx) (TJ nx p)=_;unfold TJ;exact Xs (ar rfl (ar (by simp only[SV.rn,e0]) (ar (by simp only[SV.rn,e1]) e)))
    ·rw[hB];exact⟨by simp[El.own],λ_=> .inl rfl,gC rfl rfl (za0 _) λ_ _=>rfl⟩
    ·rw[hC];exact⟨by simp[El.own],λ_=> .inl rfl,gC rfl rfl (za0 _) λ_ _=>rfl⟩
  ·cases hk
 ·cases hk
def asg:MCtr:=λbl nx args=>match args with
 | [s, .val (.int .i64 n)]=>match vW bl 1 s with
   |some (b,_,m,g)=>some {X:=Unit,pre:=b&&e1.good cl m g&&decide (0<=n)&&decide (n<=1000000),spec:=λ_=>True,out:=λ_=> .slc nx 0 n.toNat,nw:=λ_=> [eR.own (vu (e1.list m g) n.toNat)],ex:=λ_=>⟨(),trivial⟩}
   |none=>none
 |_=>none
theorem asv: ∀B:Base,GlobEB a B->VU prog B 17 asg:=agE aoj MEk.nil λbl nx args C hk hp=>by
 unfold asg at hk;split at hk
 ·rename_i s n;split at hk
  ·rename_i b o m g hs;simp only[za1] at hk;subst hk;simp only[za2,zdu] at hp;obtain⟨⟨⟨rfl,hg⟩,h1⟩,h2⟩:=hp;obtain⟨t1,t2⟩:=cq (f:=rnF [o] [] nx) hs hg;have hold: ∀C∈ [e1.old (e1.list m g)],cN C.kd=false:=by simp[cN,El.old]
   refine⟨[o], [e1.old (e1.list m g)], [.slc 0 0 (e1.list m g).length,cI.enc n],aol (vaI (e1.list m g) n) n,6,aw t1 trivial,bH hold,cd (by simp[El.old,BK.map]),ar (t2 0 rfl) rfl, ?_⟩;refine afP (K:=aoT λi k B=>i=4/\k=n.toNat/\B=eR.own (vu (e1.list m g) n.toNat)) ?_ λr bl' q w h=> ?_
   ·have e:=aoC a (vaI (e1.list m g) n) n (e1.list m g) n (λi k B=>i=4/\k=n.toNat/\B=eR.own (vu (e1.list m g) n.toNat));unfold aoO at e;rw[e];exact an5 h1 h2 (El.good_list hg) ⟨rfl,rfl,rfl⟩
   ·unfold aoT at h;split at h
    ·rename_i i k;split at h
     ·rename_i B hB;obtain⟨rfl,rfl,rfl⟩:=h;have e0:dt [o] [some 4] nx nx=some (some 4):=cO;refine⟨(),trivial, [some 4],⟨_,rfl, ?_⟩,by simp[ck],⟨⟨by simp, ?_⟩,trivial⟩,we hold rfl _⟩
      ·show SV.rn (dt [o] [some 4] nx) (.slc nx 0 n.toNat)=_;simp only[SV.rn,e0]
      ·rw[hB];exact⟨by simp[El.own],λ_=> .inl rfl,gC rfl rfl (by show (vu _ _).length<=_;exact za0 _) λ_ _=>rfl⟩
     ·exact h.elim
    ·exact h.elim
  ·cases hk
 ·cases hk
def BAt (b g:Nat) (t:zdI) (w:World):Prop:=
 ∃p v,(p= .pointer none\/p= .pointer (some ⟨b,0,none⟩))/\w.heap[b]? =some (.cells #[p,v] 115 (0,0))/\w.ownsRowF 0 5 1 v t.size (Lib.strCells t)/\v.ownBlock≠some b/\g=v.ownBlock.getD b/\g<w.heap.size/\ ∀es c,w.heap[g]? ≠some (.map es c)
variable {w:World}
theorem ac2 {v:Value} {xs:zdM} (h:w.ownsRowF 0 5 1 v n xs) {g:Nat} (hg:v.ownBlock=some g): ∃cur fz,w.heap[g]? =some (.cells cur 5 fz):=by
 rcases h.2 with ⟨rfl,_⟩|⟨g',cap,cur,fz,rfl,_,h1,_⟩
 ·cases hg
 ·simp only[Value.ownBlock,za1] at hg;subst hg;exact⟨cur,fz,h1⟩
theorem agS {b:Nat} {t:zdI} {p v:Value} (hp:p= .pointer none\/p= .pointer (some ⟨b,0,none⟩)) (h1:w.heap[b]? =some (.cells #[p,v] 115 (0,0))) (h2:w.ownsRowF 0 5 1 v t.size (Lib.strCells t)) (h3:v.ownBlock≠some b):BAt b (v.ownBlock.getD b) t w:=by
 refine⟨p,v,hp,h1,h2,h3,rfl, ?_, ?_⟩
 ·cases hv:v.ownBlock with
  |none=>exact(zaq.1 h1).1
  |some g=>obtain⟨cur,fz,hg⟩:=ac2 h2 hv;exact(zaq.1 hg).1
 ·intro es c;cases hv:v.ownBlock with
  |none=>show w.heap[b]? ≠_;rw[h1];simp
  |some g=>obtain⟨cur,fz,hg⟩:=ac2 h2 hv;show w.heap[g]? ≠_;rw[hg];simp
theorem adH (t s:zdI):Lib.strCells (t++s)=Lib.strCells t++Lib.strCells s:=by
 simp[Lib.strCells_eq,Lib.byteCells_append]
theorem afX {B:Nat} {e:TypeId} {v:Value} {xs:zdM} (h:w.ownsRowF B e 1 v n xs):w.ownsRowF 0 e 1 v n xs:=by
 refine⟨h.1, ?_⟩;rcases h.2 with h|⟨g,cap,cur,fz,h1,_,h2⟩
 ·exact .inl h
 ·exact .inr ⟨g,cap,cur,fz,h1,zaA _,h2⟩
variable {P:Program}
theorem agT (w:World) (t u ty e:TypeId) (i:TypeInfo) (ht:P.underlying t=some (.slice e)) (hu:P.underlying u=some .string) (hi:P.info? e=some i) (hz:i.zero=some (.int .u8 0)) (hsize:i.size=1) (hby:i.bytes=1)
 (v:Value) (n:Nat) (xs:zdM) (hown:w.ownsRowF 0 e 1 v n xs) (s:zdI) (hlen:n+s.size<=1099511627776):
 ∃v' w',(Builtin.append_ #[t,u] ty #[v, .string s]).run P w= .ok v' w'/\w'.ownsRowF 0 e 1 v' (n+s.size) (xs++Lib.strCells s)/\w.grownBy w' v.ownBlock/\(v'.ownBlock=v.ownBlock\/ ∃g',v'.ownBlock=some g'/\w.heap.size<=g'):=by
 rcases hown.2 with ⟨rfl,rfl⟩|⟨g,cap,cur,fz,rfl,hbg,hg,hfz,hnc,hcm,hcs,htake⟩
 ·obtain⟨v',w',h1,h2,h3,_⟩:=Lib.run_append_own_stringF (P:=P) w w.heap.size t u ty e i ht hu hi hz hsize hby (.slice none 0 0) 0 xs ⟨hown.1, .inl ⟨rfl,rfl⟩⟩ s (by unfold maxLen;omega) (by omega) (za0 _);refine⟨v',w',h1,afX h2,h3, ?_⟩;rcases h2.2 with ⟨rfl,_⟩|⟨g',_,_,_,rfl,hb,_⟩
  ·exact .inl rfl
  ·exact .inr ⟨g',rfl,hb⟩
 ·obtain⟨v',w',h1,h2,h3,_⟩:=Lib.run_append_own_stringF (P:=P) w 0 t u ty e i ht hu hi hz hsize hby _ n xs hown s (by unfold maxLen;omega) (by omega) (zaA _);refine⟨v',w',h1,h2,h3, ?_⟩;by_cases hroom:n+s.size<=cap
  ·have hr:=Lib.run_append_room_stringF (P:=P) w t u ty e i ht hu hi hsize g n cap cur fz hg (by simpa using hfz) s hroom (by rw[hcs];omega);rw[h1] at hr;simp only[Result.ok.injEq] at hr;rw[hr.1];exact .inl rfl
  ·have hxl:xs.length=n:=by simpa using hown.1
   have holds: ∀j u,xs[j]? =some u->w.cell? ((⟨g,0,none⟩:Addr).add j)=some u:=hown.cells (g:=g) rfl;have hr:=Lib.run_append_grow_string (P:=P) w t u ty e i (.int .u8 0) ht hu hi hz ⟨g,0,none⟩ n cap xs (by rw[hsize];simpa using hxl) holds s (by omega) (by omega) (by rw[hby];exact growslice_fits (by omega) (by omega));rw[h1] at hr;simp only[Result.ok.injEq] at hr;rw[hr.1];exact .inr ⟨_,rfl,za0 _⟩
theorem aid {ops:zdQ} {rest:List Oper} {o:Oper} {a:Act} {Q:zdX} (hgd:o.guard=none) (sl x:Operand) (t u:TypeId)
 (ho:o.op= .call {callee:= .builtin .append,args:= #[sl,x],argTypes:= #[t,u]}) (e:TypeId) (i:TypeInfo) (ht:P.underlying t=some (.slice e)) (hu:P.underlying u=some .string) (hi:P.info? e=some i) (hz:i.zero=some (.int .u8 0)) (hsize:i.size=1) (hby:i.bytes=1)
 (v:Value) (n:Nat) (xs:zdM) (hs:a.eval sl=v) (hown:w.ownsRowF 0 e 1 v n xs) (s:zdI) (hx:a.eval x= .string s) (hlen:n+s.size<=1099511627776)
 (h: ∀v' w',w'.ownsRowF 0 e 1 v' (n+s.size) (xs++Lib.strCells s)->w.grownBy w' v.ownBlock->(v'.ownBlock=v.ownBlock\/ ∃g',v'.ownBlock=some g'/\w.heap.size<=g')->wpList P ops Q rest (a.put o.dst v') w'):wpList P ops Q (o::rest) a w:=by
 refine wpList_plain hgd λK hK=> ?_;obtain⟨v',w',hr,h2,h3,h4⟩:=agT (P:=P) w t u o.type e i ht hu hi hz hsize hby v n xs hown s hlen;unfold Oper.wp execOp;simp only[ho,resolve,invoke,builtin,zdG,zdH,zdF,List.map_toArray,zaK,zc5,hs,hx,hr];exact hK _ _ (h v' w' h2 h3 h4)
theorem afY (b g:Nat) (t s:zdI) (w:World) (h:BAt b g t w) (hlen:t.size+s.size<=1099511627776):
 Calls prog 77 #[.pointer (some ⟨b,0,none⟩), .string s] w λe w'=>e= .returned (.tuple #[.int .i64 s.size, .nilIface])/\ ∃g',BAt b g' (t++s) w'/\(g'=g\/w.heap.size<=g')/\Kept2 b g w w':=by
 obtain⟨i0,hi,hz0,hz1,hz2⟩:=info_parts Ej;obtain⟨p,v,hp,hbk0,hown0,hne,rfl,hgl,_⟩:=h;have hcc:Calls prog 149 #[.pointer (some ⟨b,0,none⟩)] w λe w'=>e= .returned (.tuple #[])/\w'.heap[b]? =some (.cells #[.pointer (some ⟨b,0,none⟩),v] 115 (0,0))/\w'.ownsRowF 0 5 1 v t.size (Lib.strCells t)/\(∀k,k≠b->w'.heap[k]? =w.heap[k]?)/\w'.heap.size=w.heap.size/\w'.os=w.os/\w'.tape=w.tape/\w'.output=w.output:=by
  rcases hp with rfl|rfl
  ·refine(qL b w (by rw[Lib.cell_of_heap hbk0];rfl) (by simp[World.shape?,hbk0]) (Lib.frozen_of_heap hbk0 0)).mono ?_;rintro e w' ⟨rfl,rfl⟩;have hk: ∀k,k≠b->(w.setCell ⟨b,0,none⟩ (.pointer (some ⟨b,0,none⟩))).heap[k]? =w.heap[k]? :=λk hk=>Below.heap_setCell _ _ _ _ hk;refine⟨rfl,by simp[World.setCell,zdo,hbk0], ?_,hk,by simp[World.setCell],rfl,rfl,rfl⟩;exact hown0.kept (row:=some b) ⟨rfl,rfl,rfl,by simp[World.setCell],λk _ hk'=>hk k (λe=>hk' (by simp[e]))⟩ (Or.inr hne)
  ·refine(tc b w (by rw[Lib.cell_of_heap hbk0];rfl)).mono ?_;rintro e w' ⟨rfl,rfl⟩;exact⟨rfl,hbk0,hown0,λ_ _=>rfl,rfl,rfl,rfl,rfl⟩
 go_enter func77,ntmps77;go_wp2_with (go_at_call 149;refine hcc.mono ?_);rintro e w1 ⟨rfl,hbk,hown,hoth,hs1,ho1,ho2,ho3⟩;have c0:w1.cell? ⟨b,0,none⟩=some (.pointer (some ⟨b,0,none⟩)):=by rw[Lib.cell_of_heap hbk];rfl
 have c1:w1.cell? ⟨b,1,none⟩=some v:=by rw[Lib.cell_of_heap hbk];rfl
 go_wp2_with (at_builtin;refine aid rfl _ _ 113 9 rfl 5 i0 underlying113 underlying9 hi hz0 hz1 hz2 _ _ _ rfl hown s rfl hlen ?_);intro v' w2 hown' hgrow hwhere;have hlt:b<w1.heap.size:=(zaq.1 hbk).1;have hb2:w2.heap[b]? =some (.cells #[.pointer (some ⟨b,0,none⟩),v] 115 (0,0)):=by
  rw[hgrow.block b hlt (λe=>hne e.symm)];exact hbk
 have d0:w2.cell? ⟨b,0,none⟩=some (.pointer (some ⟨b,0,none⟩)):=by rw[Lib.cell_of_heap hb2];rfl
 have d1:w2.cell? ⟨b,1,none⟩=some v:=by rw[Lib.cell_of_heap hb2];rfl
 have f1:w2.frozen? ⟨b,1,none⟩=false:=Lib.frozen_of_heap hb2 1;obtain⟨ao,n',cap,rfl⟩: ∃ao n' cap,v'= .slice ao n' cap:=by
  rcases hown'.2 with ⟨hv,_⟩|⟨g,cap,cur,fz,hv,_⟩
  ·exact⟨_,_,_,hv⟩
  ·exact⟨_,_,_,hv⟩
 go_wp2
 go_ret2
 have hne':=Lib.ownBlock_neF hown' hb2 (by decide);have hown2:(w2.setCell ⟨b,1,none⟩ (.slice ao n' cap)).ownsRowF 0 5 1 (.slice ao n' cap) (t.size+s.size) (Lib.strCells t++Lib.strCells s):=
  hown'.kept (row:=some b) ⟨rfl,rfl,rfl,by simp[World.setCell],λk _ hk'=>Below.heap_setCell _ _ _ _ (λe=>hk' (by simp[e]))⟩ (Or.inr hne')
 have hsz:(t++s).size=t.size+s.size:=ByteArray.size_append;refine⟨rfl,(Value.slice ao n' cap).ownBlock.getD b,agS (p:= .pointer (some ⟨b,0,none⟩)) (.inr rfl) ?_ (by rw[hsz,adH t s];exact hown2) hne', ?_, ?_⟩
 ·simp[World.setCell,zdo,hb2]
 ·rcases hwhere with h|⟨g',h,h2⟩
  ·left;rw[h]
  ·right;rw[h];first|exact h2|(rw[<-hs1];exact h2)
 ·refine⟨?_, ?_, ?_, ?_,λk hk h1 h2=> ?_⟩
  ·exact hgrow.os.trans ho1
  ·exact hgrow.tape.trans ho2
  ·exact hgrow.output.trans ho3
  ·rw[<-hs1];simp[World.setCell];exact hgrow.size
  ·rw[Below.heap_setCell _ _ _ _ h1,hgrow.block k (by omega) (λe=>h2 (by rw[<-e];rfl)),hoth k h1]
theorem aie (b g:Nat) (t:zdI) (w:World) (h:BAt b g t w) (h1:1<=t.size):
 Calls prog 81 #[.pointer (some ⟨b,0,none⟩)] w λe w'=>e= .returned (.string t)/\Kept2 b g w w':=by
 obtain⟨p,v,hp,hbk,hown,hne,rfl,hgl,_⟩:=h;obtain⟨l,hl⟩: ∃l:List UInt8,t=⟨l.toArray⟩:=⟨t.data.toList,by simp⟩;subst hl;have hls:(⟨l.toArray⟩:zdI).size=l.length:=by simp[ByteArray.size]
 rw[hls] at hown h1;have hl0:l≠ []:=by intro e;subst e;simp at h1
 obtain⟨g,cap,cur,fz,rfl,_,hg,hfz,hnc,hcm,hcs,htake⟩: ∃g cap cur fz,v= .slice (some ⟨g,0,none⟩) l.length cap/\0<=g/\w.heap[g]? =some (.cells cur 5 fz)/\fz.2<=l.length*1/\l.length<=cap/\cap<=maxLen/\cur.size=cap*1/\cur.toList.take (l.length*1)=Lib.strCells ⟨l.toArray⟩:=by
  rcases hown.2 with ⟨_,hz⟩|⟨g,cap,cur,fz,hv,r⟩
  ·omega
  ·exact⟨g,cap,cur,fz,hv,r⟩
 have hbc:Lib.strCells ⟨l.toArray⟩=Lib.byteCells l:=by rw[Lib.strCells_eq]
 rw[hbc] at hown;have c1:w.drew.cell? ⟨b,1,none⟩=some (.slice (some ⟨g,0,none⟩) l.length cap):=by
  have:w.drew.heap[b]? =some (.cells #[p, .slice (some ⟨g,0,none⟩) l.length cap] 115 (0,0)):=hbk;rw[Lib.cell_of_heap this];rfl
 have hSD:(Builtin.unsafeSliceData_ #[113] 195 #[.slice (some ⟨g,0,none⟩) l.length cap]).run prog w.drew= .ok (.pointer (some ⟨g,0,none⟩)) w.drew:=
  Lib.run_unsafeSliceData_row _ _ _ _ _ _ (by omega)
 have hUS:(Builtin.unsafeString_ #[195,3] 9 #[.pointer (some ⟨g,0,none⟩), .int .i64 l.length]).run prog w.drew= .ok (.string ⟨l.toArray⟩) (w.drew.freeze ⟨g,0,none⟩ l.length):=by
  refine Lib.run_unsafeString_row w.drew 195 3 9 5 underlying195 (by kernel_rfl) g cur.size (by have hg':w.drew.heap[g]? =some (.cells cur 5 fz):=hg;simp[World.shape?,hg']) l hl0 (by omega) (by unfold maxLen at hcm;omega) ?_;intro j x hx;have:=hown.cells (g:=g) rfl j (.int .u8 x.toNat) (by simp[Lib.byteCells,hx]);exact this
 have hk:Kept2 b g w (w.drew.freeze ⟨g,0,none⟩ l.length):=by
  refine⟨?_, ?_, ?_, ?_,λk _ _ h2=> ?_⟩
  ·unfold World.freeze;split<;>rfl
  ·unfold World.freeze;split<;>rfl
  ·unfold World.freeze;split<;>rfl
  ·unfold World.freeze;split
   ·exact za0 _
   ·show w.heap.size<=(w.heap.modify g _).size;rw[Array.size_modify];exact za0 _
  ·unfold World.freeze;split
   ·rfl
   ·show (w.heap.modify g _)[k]? =_;rw[zdo,if_neg (Ne.symm h2)]
 have mixed:prog.follows .mixedOrders=true:=by kernel_rfl
 go_enter func81,ntmps81;go_wp2
 go_region_o
 all_goals (go_wp2;go_ret;exact⟨rfl,hk⟩)
def bdS:BD:=⟨77,81,115⟩
theorem vK:ahr prog bdS:=⟨BAt,{
 zero:=by kernel_rfl
 fresh:=λw=>by
  have hat:(w.alloc (.cells #[.pointer none, .slice none 0 0] 115)).heap[w.heap.size]? =some (.cells #[.pointer none, .slice none 0 0] 115 (0,0)):=by show (w.heap.push _)[w.heap.size]? =_;simp
  exact agS (p:= .pointer none) (v:= .slice none 0 0) (.inl rfl) hat ⟨rfl, .inl ⟨rfl,rfl⟩⟩ (by simp[Value.ownBlock])
 keep:=λb g t w w' h h1 h2=>by
  obtain⟨p,v,hp,k1,k2,k3,rfl,k4,k5⟩:=h;refine⟨p,v,hp,by rw[h1];exact k1, ?_,k3,rfl, ?_,λes c=>by rw[h2];exact k5 es c⟩
  ·refine⟨k2.1, ?_⟩;rcases k2.2 with h|⟨g,cap,cur,fz,rfl,e1,e2,e3⟩
   ·exact .inl h
   ·exact .inr ⟨g,cap,cur,fz,rfl,e1,by rw[<-e2];exact h2,e3⟩
  ·rcases zah (v.ownBlock.getD b) w'.heap.size with h|h
   ·exact h
   ·rw[zcD h] at h2;have:w.heap[v.ownBlock.getD b]? =some w.heap[v.ownBlock.getD b]:=by simp[k4]
    rw[this] at h2;cases h2
 lt:=λb g t w h=>by
  obtain⟨p,v,hp,k1,k2,k3,rfl,k4,k5⟩:=h;exact⟨(zaq.1 k1).1,k4,λes c=>⟨by rw[k1];simp,k5 es c⟩⟩
 write:=afY
 str:=aie
 cw:=call77
 cs:=call81}⟩
def yr:List FuncId:=NK++aeE
theorem vT: ∀f∈yr,V0 prog f:=λf h=>by
 unfold yr at h;rcases za8.1 h with h|h
 ·exact Lj f h
 ·exact ae8 f h
def g9n:List (FuncId×Ctr):=(78,k1 cI cS cl ofI)::(261,k2 cS cS (cP3 cS cS cB) (λs _=>decide (s.size<=1000000)) abn)::gE8
theorem aiL:GEk g9n:=(aiJ.cons (λa W hW=>abS hW.1) call261).cons (λa W hW=>ahz hW.1) call78
def adI:MCtr:=λ_ _ args=>match args with
 | [.val (.string s)]=>bif abR s then some {X:=Unit,pre:=decide (s.size<=1000000),spec:=λ_=>True,out:=λ_=> .tup [.val (.int .i64 (ab0 s)), .val .nilIface],ex:=λ_=>⟨(),trivial⟩} else none
 |_=>none
variable {B:Base}
theorem adu (hB:GlobB B):VU prog B 155 adI:=by
 intro bl β w nx args C' a b c d e p;unfold adI at e;split at e
 ·rename_i s;cases hn:abR s with
  |false=>rw[hn] at e;cases e
  |true=>
   rw[hn] at e;simp only[zds,za1] at e;subst e;refine Calls.mono (agA hB bl β w nx [.val (.string s)] _ a b c d rfl p) ?_;rintro e w' ⟨x,hx,β',q1,q2,q3,q4⟩;have hx:abJ s x:=hx;unfold abJ at hx;rw[hn] at hx;obtain rfl:x=_:=hx;exact⟨(),trivial,β',q1,q2,q3,q4⟩
 ·cases e
def agU:zdY:= [(13,pN),(11,xi),(18,zm),(23,acd),(154,abt),(83,abV),(155,adI)]
theorem aif:MEk a agU:=by
 unfold agU;exact((((((MEk.nil.cons λB hB=>adu hB.gU).cons λB hB=>adm hB.gU).cons λB hB=>abG).cons acz).cons λB hB=>tP B hB.gU).cons λB hB=>vM B hB.gU).cons λB hB=>lZ B hB.gU
@[irreducible] def Xk (a:Addr) (ann:zdW) (n:Nat) (f:FuncId) (args:zdL) (Cs:zdV) (K:Aft):Prop:=
 Ay prog (iR yr) (gw g9n) (gx agU) (dF a) ann n f args (λi=>Cs[i]?) Cs.length [] K
theorem ak2 (hB:GlobEB a B):HypD prog B (iR yr) (gw g9n) (gx agU) (dF a):=
 have h:=ac9 (gm:=agU) aiL aif hB
 ⟨h.gam,h.mem,h.dem,λf hf=>by
   unfold iR at hf;simp only[zaP] at hf;obtain⟨g,hg,hb⟩:=hf
   rw[zab hb];exact vT g hg,h.mixed⟩
def opW:Nat->zdI
 |0=>⟨#[99,111,110,115,116]⟩
 |1=>⟨#[105,110,112,117,116]⟩
 |2=>⟨#[97,100,100]⟩
 |3=>⟨#[115,117,98]⟩
 |4=>⟨#[109,117,108]⟩
 |5=>⟨#[100,105,118]⟩
 |6=>⟨#[112,111,119]⟩
 |_=>⟨#[115,113,114,116]⟩
def opN (w:zdI):Nat->Int
 |0=>0
 |k+1=>bif seq (opW k) w then(k:Int)+1 else opN w k
def aiM (A:AS) (t:Nat):zdI:=match A.tm t with
 | .v (.val (.string s))=>s
 |_=>⟨#[]⟩
abbrev WdX:=Int×(zdR)
def acD (f:zdR):Nat->Nat
 |0=>0
 |k+1=>acD f k+(f k).toNat
def afZ (f:FuncId):zdW:=λg k=>bif Nat.beq f g&&Nat.beq k 4294967295 then some (λ_=>{X:=Unit,inv:=λ_=>True,tm:=λ_=> [],mu:=λ_=>0,bd:=some bdS}) else none
def ak3 (I:ByteArray->WdX->Prop):zdW:=λf k=>bif Nat.beq f 216&&Nat.beq k 10 then some (λA=>{X:=WdX,inv:=I (aiM A 5),tm:=λ_=> [],bk:= [(kA A 79,λx e=>match e with|0=> []|e+1=> [.val (.bool (x.2 e))])],st:= [(kA A 10,λx=> .val (.int .i64 x.1)::(qv A 10 0).drop 1)],mu:=λx=>acD x.2 8,keep:= [0,1,4,5,6,7,10,79],clean:=by intro p hp x e;simp at hp;subst hp;cases e<;>rfl,fix:= [(kA A 10,0,0, .val (.int .i64 (opN (aiM A 5) 8)))]}) else none
def orA (a b:zdW):zdW:=λf k=>match a f k with
 |some x=>some x
 |none=>b f k
def alF (I:ByteArray->WdX->Prop):zdW:=orA (afZ 24) (orA (afZ 80) (orA (afZ 4) (ak3 I)))
def u0:Un:=aT 0
def u2:Un:=aT 2
def uo:Un:=(fd u0 u2).1
def nI9 (n:Int):Nd:=⟨2,VI,noU,n,0,0⟩
def nD9:Nd:=⟨6,VI,noU,0,0,1⟩
def spP:Pr:=⟨1, [u0,u2], [nI9 0,nI9 1,nD9],uo⟩
def bdK (K:Prop):Prop:=ahr prog bdS/\K
def uK (K:Prop):Prop:=Unit->True->K
def spT:zdI:=⟨#[112,114,111,99,101,100,117,114,101,32,49,10,103,105,118,101,110,32,100,105,102,102,101,114,101,110,99,101,32,107,105,110,100,32,48,32,102,97,99,116,111,114,32,49,32,111,102,102,115,101,116,32,48,32,109,94,49,10,103,105,118,101,110,32,100,105,102,102,101,114,101,110,99,101,32,107,105,110,100,32,48,32,102,97,99,116,111,114,32,49,32,111,102,102,115,101,116,32,48,32,115,94,49,10,105,110,112,117,116,32,48,10,105,110,112,117,116,32,49,10,100,105,118,32,48,32,49,10,111,117,116,112,117,116,32,100,105,102,102,101,114,101,110,99,101,32,107,105,110,100,32,48,32,102,97,99,116,111,114,32,49,32,111,102,102,115,101,116,32,48,32,109,94,49,32,115,94,45,49,10]⟩
def afq (Q:zdS):Prop:=af (jn spP) (uK (bdK (bdK (uK (bdK (uK (bdK (bdK (bdK (bdK (uK (bdK (bdK (Q (.tup [.val (.string spT), .val (.int .i64 0)])))))))))))))))
theorem af0 (a:Addr) (I:ByteArray->WdX->Prop) (Q:zdS):Xk a (alF I) 9 24 [kB spP] [eU.old spP.inp,eN.old spP.nod] (Go.Sy.okK λr _ _ _=>Q r)=afq Q:=by kernel_rfl
def zA9:zdI:=⟨#[112,114,111,99,101,100,117,114,101,32,49,10]⟩
abbrev ajp:=ByteArray×ByteArray×List ByteArray
abbrev ajq:=ByteArray×ByteArray×(ByteArray×ByteArray×Bool)
def tabS:List ajp:= [(⟨#[112,114,111,99,101,100,117,114,101,32,49,10,103,105,118,101,110,32,100,105,102,102,101,114,101,110,99,101,32,107,105,110,100,32,48,32,102,97,99,116,111,114,32,49,32,111,102,102,115,101,116,32,48,32,109,94,49,10,103,105,118,101,110,32,100,105,102,102,101,114,101,110,99,101,32,107,105,110,100,32,48,32,102,97,99,116,111,114,32,49,32,111,102,102,115,101,116,32,48,32,115,94,49,10,105,110,112,117,116,32,48,10,105,110,112,117,116,32,49,10,100,105,118,32,48,32,49,10,111,117,116,112,117,116,32,100,105,102,102,101,114,101,110,99,101,32,107,105,110,100,32,48,32,102,97,99,116,111,114,32,49,32,111,102,102,115,101,116,32,48,32,109,94,49,32,115,94,45,49,10]⟩,⟨#[10]⟩, [⟨#[112,114,111,99,101,100,117,114,101,32,49]⟩,⟨#[103,105,118,101,110,32,100,105,102,102,101,114,101,110,99,101,32,107,105,110,100,32,48,32,102,97,99,116,111,114,32,49,32,111,102,102,115,101,116,32,48,32,109,94,49]⟩,⟨#[103,105,118,101,110,32,100,105,102,102,101,114,101,110,99,101,32,107,105,110,100,32,48,32,102,97,99,116,111,114,32,49,32,111,102,102,115,101,116,32,48,32,115,94,49]⟩,⟨#[105,110,112,117,116,32,48]⟩,⟨#[105,110,112,117,116,32,49]⟩,⟨#[100,105,118,32,48,32,49]⟩,⟨#[111,117,116,112,117,116,32,100,105,102,102,101,114,101,110,99,101,32,107,105,110,100,32,48,32,102,97,99,116,111,114,32,49,32,111,102,102,115,101,116,32,48,32,109,94,49,32,115,94,45,49]⟩,⟨#[]⟩]),
 (⟨#[112,114,111,99,101,100,117,114,101,32,49,10]⟩,⟨#[10]⟩, [⟨#[112,114,111,99,101,100,117,114,101,32,49]⟩,⟨#[]⟩]),
 (⟨#[100,105,102,102,101,114,101,110,99,101,32,107,105,110,100,32,48,32,102,97,99,116,111,114,32,49,32,111,102,102,115,101,116,32,48,32,109,94,49]⟩,⟨#[32]⟩, [⟨#[100,105,102,102,101,114,101,110,99,101]⟩,⟨#[107,105,110,100]⟩,⟨#[48]⟩,⟨#[102,97,99,116,111,114]⟩,⟨#[49]⟩,⟨#[111,102,102,115,101,116]⟩,⟨#[48]⟩,⟨#[109,94,49]⟩]),
 (⟨#[100,105,102,102,101,114,101,110,99,101,32,107,105,110,100,32,48,32,102,97,99,116,111,114,32,49,32,111,102,102,115,101,116,32,48,32,115,94,49]⟩,⟨#[32]⟩, [⟨#[100,105,102,102,101,114,101,110,99,101]⟩,⟨#[107,105,110,100]⟩,⟨#[48]⟩,⟨#[102,97,99,116,111,114]⟩,⟨#[49]⟩,⟨#[111,102,102,115,101,116]⟩,⟨#[48]⟩,⟨#[115,94,49]⟩]),
 (⟨#[100,105,102,102,101,114,101,110,99,101,32,107,105,110,100,32,48,32,102,97,99,116,111,114,32,49,32,111,102,102,115,101,116,32,48,32,109,94,49,32,115,94,45,49]⟩,⟨#[32]⟩, [⟨#[100,105,102,102,101,114,101,110,99,101]⟩,⟨#[107,105,110,100]⟩,⟨#[48]⟩,⟨#[102,97,99,116,111,114]⟩,⟨#[49]⟩,⟨#[111,102,102,115,101,116]⟩,⟨#[48]⟩,⟨#[109,94,49]⟩,⟨#[115,94,45,49]⟩]),
 (⟨#[48]⟩,⟨#[32]⟩, [⟨#[48]⟩]),
 (⟨#[49]⟩,⟨#[32]⟩, [⟨#[49]⟩]),
 (⟨#[48,32,49]⟩,⟨#[32]⟩, [⟨#[48]⟩,⟨#[49]⟩])]
def tabC:List ajq:= [(⟨#[105,110,112,117,116,32,48]⟩,⟨#[32]⟩,(⟨#[105,110,112,117,116]⟩,⟨#[48]⟩,true)),
 (⟨#[105,110,112,117,116,32,49]⟩,⟨#[32]⟩,(⟨#[105,110,112,117,116]⟩,⟨#[49]⟩,true)),
 (⟨#[100,105,118,32,48,32,49]⟩,⟨#[32]⟩,(⟨#[100,105,118]⟩,⟨#[48,32,49]⟩,true)),
 (⟨#[111,117,116,112,117,116,32,100,105,102,102,101,114,101,110,99,101,32,107,105,110,100,32,48,32,102,97,99,116,111,114,32,49,32,111,102,102,115,101,116,32,48,32,109,94,49,32,115,94,45,49]⟩,⟨#[32]⟩,(⟨#[111,117,116,112,117,116]⟩,⟨#[100,105,102,102,101,114,101,110,99,101,32,107,105,110,100,32,48,32,102,97,99,116,111,114,32,49,32,111,102,102,115,101,116,32,48,32,109,94,49,32,115,94,45,49]⟩,true)),
 (⟨#[49]⟩,⟨#[47]⟩,(⟨#[49]⟩,⟨#[]⟩,false)),
 (⟨#[48]⟩,⟨#[47]⟩,(⟨#[48]⟩,⟨#[]⟩,false)),
 (⟨#[109,94,49]⟩,⟨#[94]⟩,(⟨#[109]⟩,⟨#[49]⟩,true)),
 (⟨#[115,94,49]⟩,⟨#[94]⟩,(⟨#[115]⟩,⟨#[49]⟩,true)),
 (⟨#[115,94,45,49]⟩,⟨#[94]⟩,(⟨#[115]⟩,⟨#[45,49]⟩,true)),
 (⟨#[45,49]⟩,⟨#[47]⟩,(⟨#[45,49]⟩,⟨#[]⟩,false))]
def findS (s sep:zdI):List ajp->List ByteArray
 | []=>abI s sep
 |r::l=>bif seq r.1 s&&seq r.2.1 sep then r.2.2 else findS s sep l
def afr (s sep:zdI):List ajq->ByteArray×ByteArray×Bool
 | []=>abn s sep
 |r::l=>bif seq r.1 s&&seq r.2.1 sep then r.2.2 else afr s sep l
theorem aed {s sep:zdI}: ∀{l:List ajp},(∀r∈l,abI r.1 r.2.1=r.2.2)->findS s sep l=abI s sep
 | [],_=>rfl
 |r::l,h=>by
  rw[findS];cases hb:seq r.1 s&&seq r.2.1 sep with
  |false=>exact aed λx hx=>h x (zan _ hx)
  |true=>
   rw[za2] at hb;rw[zds,<-h r (zbF ..),We.1 hb.1,We.1 hb.2]
theorem aee {s sep:zdI}: ∀{l:List ajq},(∀r∈l,abn r.1 r.2.1=r.2.2)->afr s sep l=abn s sep
 | [],_=>rfl
 |r::l,h=>by
  rw[afr];cases hb:seq r.1 s&&seq r.2.1 sep with
  |false=>exact aee λx hx=>h x (zan _ hx)
  |true=>
   rw[za2] at hb;rw[zds,<-h r (zbF ..),We.1 hb.1,We.1 hb.2]
theorem agV:tabS.map (λr=>abI r.1 r.2.1)=tabS.map (λr=>r.2.2):=by kernel_rfl
theorem aig: ∀r∈tabS,abI r.1 r.2.1=r.2.2:=λr hr=>by
 obtain⟨i,hi,rfl⟩:=List.mem_iff_getElem.1 hr;have:=congrArg (λl=>l[i]?) agV;simpa [zaL,zaa hi] using this
theorem agW:tabC.map (λr=>abn r.1 r.2.1)=tabC.map (λr=>r.2.2):=by kernel_rfl
theorem aih: ∀r∈tabC,abn r.1 r.2.1=r.2.2:=λr hr=>by
 obtain⟨i,hi,rfl⟩:=List.mem_iff_getElem.1 hr;have:=congrArg (λl=>l[i]?) agW;simpa [zaL,zaa hi] using this
def adJ:MCtr:=λ_ nx args=>match args with
 | [.val (.string s), .val (.string sep)]=>some {X:=Unit,pre:=decide (s.size<=1000000)&&decide (1<=sep.size),spec:=λ_=>True,out:=λ_=> .slc nx 0 (findS s sep tabS).length,nw:=λ_=> [abN (findS s sep tabS)],ex:=λ_=>⟨(),trivial⟩}
 |_=>none
theorem aeH:adJ=abV:=by
 funext bl nx args
 unfold adJ abV;simp only[aed aig];rfl
def aks (s sep:zdI):ByteArray×ByteArray×Bool:=afr s sep tabC
theorem aii:aks=abn:=by
 funext s sep
 exact aee aih
variable {ann:zdW} {f:FuncId} {args:zdL} {Cs:zdV} {K K':Aft}
theorem af1 (h:Xk a ann n f args Cs K) (hm: ∀r b n w,K r b n w->K' r b n w):Xk a ann n f args Cs K':=by
 unfold Xk at h ⊢;exact NiceT.mono (Ea _ _ _ _ _ _ f args _ _ _ (λi hi=>zad hi)) h λr b n w _=>hm r b n w
variable {C:RC} {src:zdU} {nx:Nat} {r:SV}
theorem ajr (x:C.X) (hx:C.spec x) (h1:C.pan x=none) (h2:r.ids= []) (h3:C.out x=r) (h4:C.nw x= []) (h5:C.ch x= []) (h6: ∀C∈Cs,cN C.kd=false) (hl:src.length=Cs.length)
 (h:Xk a ann n f args Cs (Go.Sy.okK λs _ _ _=>s=r)):Xk a ann n f args Cs (KB C src Cs nx):=af1 h λq b m w hq=>by
 cases q with
 |pan v=>exact hq.elim
 |ok s=>
  obtain rfl:s=r:=hq;exact IG x hx h1 h2 h3 h4 h5 h6 hl
theorem aeI {I:ByteArray->WdX->Prop} (hs:aci spP=true) (hQ:Q (.tup [.val (.string spT), .val (.int .i64 0)])):Xk a (alF I) 9 24 [kB spP] [eU.old spP.inp,eN.old spP.nod] (Go.Sy.okK λr _ _ _=>Q r):=by
 rw[af0];unfold afq uK bdK;refine ac (eY hs (by decide) (by decide)) λ_ _=>⟨vK,vK,λ_ _=>⟨vK,λ_ _=>⟨vK,vK,vK,vK,λ_ _=>⟨vK,vK,hQ⟩⟩⟩⟩
open Classical in
def ac3 (p:Pr) (T:zdI):MCtr:=λbl _ args=>match args with
 | [s]=>match mC bl s with
   |some a=>some {X:=Unit,pre:=a.need&&decide (a.p=p),spec:=λ_=>True,out:=λ_=> .tup [.val (.string T), .val (.int .i64 0)],ex:=λ_=>⟨(),trivial⟩}
   |none=>none
 |_=>none
open Classical in
theorem aef {T:zdI} (h:aci p=true-> ∀Q:zdS,Q (.tup [.val (.string T), .val (.int .i64 0)])->Xk a ann 9 24 [kB p] (iK p) (Go.Sy.okK λr _ _ _=>Q r)):
 ∀B:Base,GlobEB a B->VU prog B 24 (ac3 p T):=λB hB=>c8 (λB' hs=>ak2 (hB.sub hs)) λbl nx args C hk hp=>by
 unfold ac3 at hk;split at hk
 ·rename_i s;split at hk
  ·rename_i b hb;simp only[za1] at hk;subst hk;simp only[za2,zdu] at hp;obtain⟨s1,s2,s3,s4,s5,s6⟩:=eX (f:=rnF [b.o1,b.o2] [] nx) hb hp.1 rfl rfl;obtain⟨_,rfl⟩:=hp;have:=ajr (C:={X:=Unit,pre:=b.need&&decide (b.p=b.p),spec:=λ_=>True,out:=λ_=> .tup [.val (.string T), .val (.int .i64 0)],ex:=λ_=>⟨(),trivial⟩}) (src:= [b.o1,b.o2]) (nx:=nx) () trivial rfl (r:= .tup [.val (.string T), .val (.int .i64 0)]) rfl rfl rfl rfl (cx b.p) rfl (h s4 _ rfl);unfold Xk at this;exact⟨[b.o1,b.o2],iK b.p, [kB b.p],ann,9,aw s1 (aw s2 trivial),bH (cx _),cd (jG _),by simp only[SV.rns,s3],this⟩
  ·cases hk
 ·cases hk
def afs:MCtr:=ac3 spP spT
theorem aeJ: ∀B:Base,GlobEB a B->VU prog B 24 afs:=aef (ann:=alF λ_ _=>True) λhs Q hQ=>aeI hs hQ
def g9s:List (FuncId×Ctr):=(78,k1 cI cS cl ofI)::(261,k2 cS cS (cP3 cS cS cB) (λs _=>decide (s.size<=1000000)) aks)::gE8
theorem adv:GEk g9s:=by
 have h:g9s=g9n:=by unfold g9s g9n;rw[aii]
 rw[h];exact aiL
def aeK:zdY:= [(13,pN),(11,xi),(18,zm),(23,acd),(24,afs),(15,Y8),(154,abt),(83,adJ),(155,adI)]
theorem aft:MEk a aeK:=by
 unfold aeK;rw[aeH];exact((((((((MEk.nil.cons λB hB=>adu hB.gU).cons λB hB=>adm hB.gU).cons λB hB=>abG).cons λB hB=>ZA B hB.gU).cons aeJ).cons acz).cons λB hB=>tP B hB.gU).cons λB hB=>vM B hB.gU).cons λB hB=>lZ B hB.gU
@[irreducible] def acm (a:Addr) (ann:zdW) (n:Nat) (f:FuncId) (args:zdL) (Cs:zdV) (K:Aft):Prop:=
 Ay prog (iR yr) (gw g9s) (gx aeK) (dF a) ann n f args (λi=>Cs[i]?) Cs.length [] K
theorem ak4 (hB:GlobEB a B):HypD prog B (iR yr) (gw g9s) (gx aeK) (dF a):=
 have h:=ac9 (gm:=aeK) adv aft hB
 ⟨h.gam,h.mem,h.dem,λf hf=>by
   unfold iR at hf;simp only[zaP] at hf;obtain⟨g,hg,hb⟩:=hf
   rw[zab hb];exact vT g hg,h.mixed⟩
def tu1:zdI:=⟨#[100,105,102,102,101,114,101,110,99,101,32,107,105,110,100,32,48,32,102,97,99,116,111,114,32,49,32,111,102,102,115,101,116,32,48,32,109,94,49]⟩
def tu2:zdI:=⟨#[100,105,102,102,101,114,101,110,99,101,32,107,105,110,100,32,48,32,102,97,99,116,111,114,32,49,32,111,102,102,115,101,116,32,48,32,115,94,49]⟩
def tu3:zdI:=⟨#[100,105,102,102,101,114,101,110,99,101,32,107,105,110,100,32,48,32,102,97,99,116,111,114,32,49,32,111,102,102,115,101,116,32,48,32,109,94,49,32,115,94,45,49]⟩
abbrev zl:zdW:=λ_ _=>none
theorem ajs (a:Addr) (Q:zdS):acm a zl 5 217 [.val (.string tu1)] [] (Go.Sy.okK λr _ _ _=>Q r)=(uK (uK (uK (uK (Q ((cP cU cI).enc (u0,0))))))):=by kernel_rfl
theorem ajt (a:Addr) (Q:zdS):acm a zl 5 217 [.val (.string tu2)] [] (Go.Sy.okK λr _ _ _=>Q r)=(uK (uK (uK (uK (Q ((cP cU cI).enc (u2,0))))))):=by kernel_rfl
theorem aju (a:Addr) (Q:zdS):acm a zl 5 217 [.val (.string tu3)] [] (Go.Sy.okK λr _ _ _=>Q r)=(uK (uK (uK (uK (uK (Q ((cP cU cI).enc (uo,0)))))))):=by kernel_rfl
theorem af2 (h:acm a ann n f args Cs K) (hm: ∀r b n w,K r b n w->K' r b n w):acm a ann n f args Cs K':=by
 unfold acm at h ⊢;exact NiceT.mono (Ea _ _ _ _ _ _ f args _ _ _ (λi hi=>zad hi)) h λr b n w _=>hm r b n w
theorem ajv (x:C.X) (hx:C.spec x) (h1:C.pan x=none) (h2:r.ids= []) (h3:C.out x=r) (h4:C.nw x= []) (h5:C.ch x= []) (h6: ∀C∈Cs,cN C.kd=false) (hl:src.length=Cs.length)
 (h:acm a ann n f args Cs (Go.Sy.okK λs _ _ _=>s=r)):acm a ann n f args Cs (KB C src Cs nx):=af2 h λq b m w hq=>by
 cases q with
 |pan v=>exact hq.elim
 |ok s=>
  obtain rfl:s=r:=hq;exact IG x hx h1 h2 h3 h4 h5 h6 hl
theorem aij {a:Addr} {C:RC} {src:zdU} {Cs:zdV} {nx:Nat} {ann:zdW} {n:Nat} {f:FuncId} {args:zdL} {r:SV} (x:C.X) (hx:C.spec x) (h1:C.pan x=none) (h2:r.ids= []) (h3:C.out x=r) (h4:C.nw x= []) (h5:C.ch x= []) (h6: ∀C∈Cs,cN C.kd=false) (hl:src.length=Cs.length)
 (h:acm a ann n f args Cs (Go.Sy.okK λs _ _ _=>s=r)):Ay prog (iR yr) (gw g9s) (gx aeK) (dF a) ann n f args (λi=>Cs[i]?) Cs.length [] (KB C src Cs nx):=by
 have:=ajv (C:=C) (src:=src) (nx:=nx) x hx h1 h2 h3 h4 h5 h6 hl h;unfold acm at this;exact this
def agX:List (ByteArray×Un):= [(tu1,u0),(tu2,u2),(tu3,uo)]
def afu (s:zdI):List (ByteArray×Un)->Option Un
 | []=>none
 |r::l=>bif seq r.1 s then some r.2 else afu s l
theorem adw {s:zdI} {u:Un}: ∀{l:List (ByteArray×Un)},afu s l=some u->(s,u)∈l
 | [],h=>by cases h
 |r::l,h=>by
  rw[afu] at h;cases hb:seq r.1 s with
  |false=>rw[hb] at h;exact zan _ (adw h)
  |true=>
   rw[hb,zds] at h;obtain rfl:=We.1 hb;obtain rfl:r.2=u:=by simpa using h
   exact zbF ..
theorem agY: ∀r∈agX,Q ((cP cU cI).enc (r.2,0))->acm a zl 5 217 [.val (.string r.1)] [] (Go.Sy.okK λr _ _ _=>Q r):=λr hr hQ=>by
 unfold agX at hr;rcases zai.1 hr with rfl|hr
 ·rw[ajs];exact λ_ _ _ _ _ _ _ _=>hQ
 rcases zai.1 hr with rfl|hr
 ·rw[ajt];exact λ_ _ _ _ _ _ _ _=>hQ
 rcases zai.1 hr with rfl|hr
 ·rw[aju];exact λ_ _ _ _ _ _ _ _ _ _=>hQ
 cases hr
def rcU (u:Un):RC:={X:=Unit,pre:=true,spec:=λ_=>True,out:=λ_=>(cP cU cI).enc (u,0),ex:=λ_=>⟨(),trivial⟩}
variable {u:Un}
theorem akt:(rcU u).spec ():=trivial
theorem aku:(rcU u).pan ()=none:=rfl
theorem akv:(rcU u).nw ()= []:=rfl
theorem akw:(rcU u).ch ()= []:=rfl
theorem akx:(rcU u).out ()=(cP cU cI).enc (u,0):=rfl
def agZ (tab:List (ByteArray×Un)):MCtr:=λ_ _ args=>match args with
 | [.val (.string s)]=>match afu s tab with
   |some u=>some (rcU u)
   |none=>none
 |_=>none
theorem ag0 {tab:List (ByteArray×Un)} (h: ∀r∈tab,∀Q:zdS,Q ((cP cU cI).enc (r.2,0))->acm a zl 5 f [.val (.string r.1)] [] (Go.Sy.okK λr _ _ _=>Q r)):
 ∀B:Base,GlobEB a B->VU prog B f (agZ tab):=λB hB=>c8 (λB' hs=>ak4 (hB.sub hs)) λbl nx args C hk hp=>by
 unfold agZ at hk;split at hk
 ·rename_i s;split at hk
  ·rename_i u hu;simp only[za1] at hk;subst hk;have key:=h (s,u) (adw hu) (λr=>r=(cP cU cI).enc (u,0)) rfl;have e1:((cP cU cI).enc (u,(0:Int))).ids= []:=(cP cU cI).ids _;have e2: ∀C∈([]:zdV),cN C.kd=false:=λC hC=>by cases hC
   have e3:= @aij a (rcU u) [] [] nx zl 5 f [.val (.string s)] ((cP cU cI).enc (u,0)) () akt aku e1 akx akv akw e2 rfl key;exact⟨[], [], [.val (.string s)],zl,5,trivial,bH (λC hC=>by cases hC),cd (λC hC=>by cases hC),rfl,e3⟩
  ·cases hk
 ·cases hk
def adK:MCtr:=agZ agX
theorem aeL: ∀B:Base,GlobEB a B->VU prog B 217 adK:=by
 unfold adK;have h: ∀r∈agX,∀Q:zdS,Q ((cP cU cI).enc (r.2,0))->acm a zl 5 217 [.val (.string r.1)] [] (Go.Sy.okK λr _ _ _=>Q r):=λr hr Q hQ=>agY r hr hQ;generalize agX=tab at h;exact ag0 h
def af3:zdY:=(217,adK)::aeK
theorem afv:MEk a af3:=aft.cons aeL
@[irreducible] def acE (a:Addr) (ann:zdW) (n:Nat) (f:FuncId) (args:zdL) (Cs:zdV) (K:Aft):Prop:=
 Ay prog (iR yr) (gw g9s) (gx af3) (dF a) ann n f args (λi=>Cs[i]?) Cs.length [] K
theorem ak5 (hB:GlobEB a B):HypD prog B (iR yr) (gw g9s) (gx af3) (dF a):=
 have h:=ac9 (gm:=af3) adv afv hB
 ⟨h.gam,h.mem,h.dem,λf hf=>by
   unfold iR at hf;simp only[zaP] at hf;obtain⟨g,hg,hb⟩:=hf
   rw[zab hb];exact vT g hg,h.mixed⟩
def bkx (f:zdR):zdO
 |0=> []
 |e+1=> [.val (.bool (f e))]
def tv9 (s:SV):Prop:=TV.v s=TV.v s
def opK (k:Nat):SV:= .val (.int .i64 ((k:Int)+1))
def opV (two num pw sq:Nat):Nat->SV
 |0=> .agg [.val (.string (opW 0)), .val (.slice none 0 0), .fn (.func 168) [] []]
 |1=> .agg [.val (.string (opW 1)), .slc num 0 1, .fn (.func 170) [] []]
 |2=> .agg [.val (.string (opW 2)), .slc two 0 2, .fn (.func 171) [] []]
 |3=> .agg [.val (.string (opW 3)), .slc two 0 2, .fn (.func 172) [] []]
 |4=> .agg [.val (.string (opW 4)), .slc two 0 2, .fn (.func 173) [] []]
 |5=> .agg [.val (.string (opW 5)), .slc two 0 2, .fn (.func 174) [] []]
 |6=> .agg [.val (.string (opW 6)), .slc pw 0 2, .fn (.func 175) [] []]
 |_=> .agg [.val (.string (opW 7)), .slc sq 0 1, .fn (.func 176) [] []]
def opG (V:Nat->SV):Nat->zdO
 |0=>λ_=> []
 |k+1=>J9 (opG V k) k [opK k,V k]
def ag1 (n:Int):zdL:=svN ⟨n,VI,noU,0,0,0⟩
def mT9 (p:Nat) (line w rest:zdI) (x i:Nat):Prop:=
 tv9 (.ptr p 0 0)/\tv9 (.val (.string line))/\tv9 (.val .nilFunc)/\tv9 (.val (.string w))/\tv9 (.val (.string rest))/\tv9 (.val (.bool true))/\tv9 (.ptr x 0 0)/\tv9 (.ptr i 0 0)/\True
def M9 (mt:Prop) (L R:zdO) (n:Int) (x:WdX):Prop:=
 mt/\(((∀e:Nat,L (e+1)=abr (bkx x.2) R (e+1))/\True)/\((ag1 n=ag1 x.1/\True)/\True))
def ace (I:WdX->Prop) (V:Nat->SV) (mt:Prop) (w:zdI) (x:WdX) (k:Nat):Prop:=
 ag (x.2 k) (∃x':WdX,I x'/\(acD x'.2 8<acD x.2 8/\M9 mt (nN (abr (bkx x.2) (rM (opG V 8))) k (opK k) (V k)) (rM (opG V 8)) (bif seq (opW k) w then(k:Int)+1 else x.1) x')) True
def adL (I:WdX->Prop) (V:Nat->SV) (mt:Prop) (w:zdI) (n:Int) (K:Prop):Prop:=
 ∃x0:WdX,I x0/\(M9 mt (rM (opG V 8)) (rM (opG V 8)) 0 x0/\ ∀x:WdX,I x->
  (ag (x.2 0||(x.2 1||(x.2 2||(x.2 3||(x.2 4||(x.2 5||(x.2 6||(x.2 7||false)))))))) True (some (SV.val (.int .i64 x.1))=some (SV.val (.int .i64 n))/\K)/\
  (ace I V mt w x 0/\ace I V mt w x 1/\ace I V mt w x 2/\ace I V mt w x 3/\ace I V mt w x 4/\ace I V mt w x 5/\ace I V mt w x 6/\ace I V mt w x 7/\True)))
def XD (w:zdI) (f:zdR):Nat->Int
 |0=>0
 |k+1=>bif seq (opW k) w&& !f k then(k:Int)+1 else XD w f k
def aeM (w:zdI) (x:WdX):Prop:=x.1=XD w x.2 8
def acF (f:zdR) (k:Nat):zdR:=λe=> !Nat.beq e k&&f e
variable {k:Nat}
theorem acM {f:zdR} (h:e≠k):acF f k e=f e:=by
 unfold acF;rw[show Nat.beq e k=false from by rw[bS];exact zdt h];rfl
theorem adM {f:zdR} :acF f k k=false:=by
 unfold acF;rw[show Nat.beq k k=true from by rw[bS];exact zdq rfl];rfl
theorem adx {w:zdI} {f:zdR} {k:Nat} (h:seq (opW k) w=false): ∀m,XD w (acF f k) m=XD w f m
 |0=>rfl
 |m+1=>by
  rw[XD,XD,adx h m];by_cases e:m=k
  ·subst e;rw[h];rfl
  ·rw[acM e]
theorem ak6: ∀j,j<8-> ∀k,k<8->j≠k->seq (opW j) (opW k)=false:=by decide
theorem aeg {f:zdR} {k:Nat} (hk:k<8): ∀m,m<=8->XD (opW k) (acF f k) m=if k<m then(k:Int)+1 else 0
 |0,_=>rfl
 |m+1,hm=>by
  rw[XD,aeg hk m (by omega)];by_cases e:m=k
  ·subst e;rw[adM,show seq (opW m) (opW m)=true from We.2 rfl,if_pos (show m<m+1 by omega)];rfl
  ·rw[ak6 m (by omega) k hk e,Bool.false_and,zdr];by_cases h:k<m
   ·rw[if_pos h,if_pos (by omega)]
   ·rw[if_neg h,if_neg (by omega)]
theorem aeh {w:zdI} {f:zdR}: ∀m,(∀k,k<m->f k=false)->XD w f m=opN w m
 |0,_=>rfl
 |m+1,h=>by
  rw[XD,opN,aeh m λk hk=>h k (by omega),h m (by omega)];cases seq (opW m) w<;>rfl
theorem aei {f:zdR} {k:Nat} (h:f k=true): ∀m,(k<m->acD (acF f k) m<acD f m)/\(m<=k->acD (acF f k) m=acD f m)
 |0=>⟨λh=>by omega,λ_=>rfl⟩
 |m+1=>by
  obtain⟨h1,h2⟩:=aei h m;refine⟨λhk=> ?_,λhk=> ?_⟩
  ·rw[acD,acD];by_cases e:m=k
   ·subst e;rw[h2 (za0 _),adM,h];simp
   ·have:=h1 (by omega);rw[acM e];omega
  ·rw[acD,acD,h2 (by omega),acM (by omega)]
theorem aky {G:zdO} (e:Nat):rM G (e+1)=abr (bkx λ_=>true) (rM G) (e+1):=by
 show _=onB (su (bkx (λ_=>true) (e+1))) (rM G (e+1));have h: ∀l:zdL,(match l with| [k,v]=> [SV.val (Value.bool true),k,v]|_=> [])=onB true (match l with| [k,v]=> [SV.val (Value.bool true),k,v]|_=> []):=by
  intro l;split<;>rfl
 exact h (G e)
theorem akz {f:zdR} {R:zdO} {K V:SV} (e:Nat):nN (abr (bkx f) R) k K V (e+1)=abr (bkx (acF f k)) R (e+1):=by
 show (bif Nat.beq e k then Nx (onB (f e) (R (e+1))) else onB (f e) (R (e+1)))=onB (acF f k e) (R (e+1));by_cases h:e=k
 ·subst h;rw[adM,show Nat.beq e e=true from by rw[bS];exact zdq rfl,zds];cases R (e+1)<;>rfl
 ·rw[acM h,show Nat.beq e k=false from by rw[bS];exact zdt h,zdr]
variable {V:Nat->SV} {mt:Prop}
theorem mB {w:zdI} {x:WdX} (hmt:mt) (hx:aeM w x) (hk:k<8):ace (aeM w) V mt w x k:=by
 refine ah (λh=> ?_) λ_=>trivial;refine⟨(bif seq (opW k) w then(k:Int)+1 else x.1,acF x.2 k), ?_,(aei h 8).1 hk,hmt,⟨λe=>akz e,trivial⟩,⟨rfl,trivial⟩,trivial⟩;show (bif seq (opW k) w then(k:Int)+1 else x.1)=XD w (acF x.2 k) 8;cases hs:seq (opW k) w with
 |false=>rw[adx hs];exact hx
 |true=>
  obtain rfl:=We.1 hs;rw[aeg hk 8 (za0 _),if_pos hk];rfl
theorem acn {w:zdI} {n:Int} {K:Prop} (hmt:mt) (hn:opN w 8=n) (hK:K):adL (aeM w) V mt w n K:=by
 refine⟨(0,λ_=>true), ?_,⟨hmt,⟨λe=>aky e,trivial⟩,⟨rfl,trivial⟩,trivial⟩,λx hx=>⟨?_, ?_⟩⟩
 ·show (0:Int)=XD w (λ_=>true) 8;have: ∀m,XD w (λ_=>true) m=0:=by
   intro m
   induction m with
   |zero=>rfl
   |succ m ih=>rw[XD,zbh,Bool.and_false,zdr,ih]
  exact(this 8).symm
 ·refine ah (λ_=>trivial) λh=>⟨?_,hK⟩;simp only[zbs] at h;obtain⟨h0,h1,h2,h3,h4,h5,h6,h7,_⟩:=h;have:x.1=n:=by
   rw[<-hn,show x.1=XD w x.2 8 from hx];refine aeh 8 λk hk=> ?_
   match k,hk with
   |0,_=>exact h0
   |1,_=>exact h1
   |2,_=>exact h2
   |3,_=>exact h3
   |4,_=>exact h4
   |5,_=>exact h5
   |6,_=>exact h6
   |7,_=>exact h7
  rw[this]
 ·exact⟨mB hmt hx (by omega),mB hmt hx (by omega),mB hmt hx (by omega),mB hmt hx (by omega),mB hmt hx (by omega),mB hmt hx (by omega),mB hmt hx (by omega),mB hmt hx (by omega),trivial⟩
theorem aeN {p:Nat} {line w rest:zdI} {x i:Nat}:mT9 p line w rest x i:=⟨rfl,rfl,rfl,rfl,rfl,rfl,rfl,rfl,trivial⟩
def aeO:zdI:=⟨#[105,110,112,117,116,32,48]⟩
def aeP:zdI:=⟨#[105,110,112,117,116,32,49]⟩
def aeQ:zdI:=⟨#[100,105,118,32,48,32,49]⟩
def ti9:zdI:=⟨#[105,110,112,117,116]⟩
def td9:zdI:=⟨#[100,105,118]⟩
def t09:zdI:=⟨#[48]⟩
def t19:zdI:=⟨#[49]⟩
def ak7:zdI:=⟨#[48,32,49]⟩
abbrev acA:zdW:=afZ 80
theorem ajw (a:Addr) (Q:zdS):acE a acA 5 80 [.agg (svN (nI9 0))] [] (Go.Sy.okK λr _ _ _=>Q r)=Q (.val (.string aeO)):=by kernel_rfl
theorem ajx (a:Addr) (Q:zdS):acE a acA 5 80 [.agg (svN (nI9 1))] [] (Go.Sy.okK λr _ _ _=>Q r)=Q (.val (.string aeP)):=by kernel_rfl
theorem ajy (a:Addr) (Q:zdS):acE a acA 5 80 [.agg (svN nD9)] [] (Go.Sy.okK λr _ _ _=>Q r)=Q (.val (.string aeQ)):=by kernel_rfl
end Go.Proofs.YtfokhpciehfdnaaGreatDoor
