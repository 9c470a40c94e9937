import Derived.Test.YtdbnankjpnpojaaGreatDoorZe
import Derived.Recover
import Derived.Tactics
import Derived.Tactics2
import Derived.Laws.Pointers
import Derived.LaidEql
import Derived.Stop.Asserts
import Derived.RowKitTokens
import Derived.Test.YtdbnankjpnpojaaGreatDoorRows
import Derived.HandedShaped
import Derived.ProofKit
import Derived.OpenShut
import Derived.LaidMore
import Derived.Lay
import Derived.Lib.LaidTab
import Derived.Shelf.Vars
import Derived.Stop.LaidErr
import Derived.Stop.Joined
set_option linter.unusedVariables false
set_option linter.unusedSimpArgs false
set_option maxHeartbeats 2000000
set_option maxRecDepth 100000
noncomputable section
namespace Go.Proofs.YtdbnankjpnpojaaGreatDoor
open Go.Proofs.Tryz
open Go Go.RowKit Go.Sy Yk
def fL (inp us:ze1) (x:Nd):Un×Int:=
 bif x.op==1 then(bif rV x.v&&VK x.u then(x.u,0) else(noU,90)) else
 bif x.op==2 then(bif decide (0<=x.n)&&decide (x.n<(inp.length:Int)) then(mb noU inp x.n.toNat,0) else(noU,90)) else
 bif x.op==3 then iS (mb noU us x.l.toNat) (mb noU us x.r.toNat) else
 bif x.op==4 then fw (mb noU us x.l.toNat) (mb noU us x.r.toNat) else
 bif x.op==5 then mi (mb noU us x.l.toNat) (mb noU us x.r.toNat) else
 bif x.op==6 then fd (mb noU us x.l.toNat) (mb noU us x.r.toNat) else
 bif x.op==7 then(bif x.n==0||decide (x.n< -4)||decide (x.n>4) then(noU,90) else jm (mb noU us x.l.toNat) (x.n,1)) else
 bif x.op==8 then jm (mb noU us x.l.toNat) (1,2) else(noU,90)
def earF (n:Nat) (i:Int):Bool:=decide (0<=i)&&decide (i<(n:Int))
def VT (n:Nat) (x:Nd):Bool:=
 bif x.op==1 then eqN ⟨0,VI,noU,x.n,x.l,x.r⟩ noN else
 bif x.op==2 then eqN ⟨0,x.v,x.u,0,x.l,x.r⟩ noN else
 bif decide (3<=x.op)&&decide (x.op<=6) then eqN ⟨0,x.v,x.u,x.n,0,0⟩ noN&&earF n x.l&&earF n x.r else
 bif x.op==7 then eqN ⟨0,x.v,x.u,0,0,x.r⟩ noN&&earF n x.l else
 bif x.op==8 then eqN ⟨0,x.v,x.u,x.n,0,x.r⟩ noN&&earF n x.l else false
def mn (inp us:ze1) (x:Nd):Option Un:=bif VT us.length x&&(fL inp us x).2==0 then some (fL inp us x).1 else none
def iB (inp:ze1):List Nd->List Un->List Un×Bool
 | [],us=>(us,true)
 |x::r,us=>match mn inp us x with
  |some u=>iB inp r (us++ [u])
  |none=>(us,false)
def ly (us:ze1):Un:=mb noU us (us.length - 1)
def oB (p:Pr):Bool:=decide (1<=p.id)&&decide (p.id<=1000000)&&decide (p.inp.length<=6)&&p.inp.all VK&&decide (1<=p.nod.length)&&decide (p.nod.length<=40)
def VJ (p:Pr):List Un×Int×Int:=bif oB p then(match iB p.inp p.nod [] with
 |(us,true)=>bif eqU (ly us) p.out then(us,0,0) else([],p.nod.length,90)
 |(us,false)=>([],us.length,90)) else([], -1,90)
def VM (p:Pr):Bool:=(VJ p).2.2==0
def aci (p:Pr):Bool:=p.inp.all szB&&p.nod.all szN&&szB p.out
theorem int_eq {a b:Int}:(a==b)=true↔a=b:=zdA
variable {n:Nat} {i:Int}
theorem V6:pK n i=true↔0<=i/\(i<n\/(n=0/\i=0)):=by
 unfold pK;by_cases h:i≥0
 ·rw[zdr h,zdt,zdv];split<;>omega
 ·rw[zdu h,zds];simp;omega
theorem V2:earF n i=true↔0<=i/\i<n:=by simp[earF]
variable {x:Nd}
theorem fM (h:eqN x noN=true):x.n=0/\x.l=0/\x.r=0:=by
 simp only[eqN,za2,zdA] at h;exact⟨h.2.2.2.1,h.2.2.2.2.1,h.2.2.2.2.2.1⟩
variable {K:Prop}
theorem fV (h:n<=1000000) (k:K):tO n K:=ac (by
 rw[zdr (zbS),zdr (show 0+1<=1 by omega),zdr (za0 n),zdr (show (n+1)*192<=140737488355328 by omega)];rfl) k
theorem aY (h0:0<=i) (h1:i<n) (k:K):eO n i K:=ac (by
 rw[zdr h0,zdr h1,zdr (show 0+i.toNat<n by omega)];rfl) (ac (zdr (by omega)) k)
variable {bad:Prop}
theorem oC {needs:Bool} {rest:Nd} (hb:(eqN rest noN=true/\pK n x.l=true/\pK n x.r=true/\(needs=true->0<n))->K) (hn: ¬(eqN rest noN=true/\pK n x.l=true/\pK n x.r=true/\(needs=true->0<n))->bad):tN n needs rest x bad K:=by
 unfold tN;refine ah (λh1=>ah (λh2=>ah (λh3=> ?_) (λh3=> ?_)) (λh2=> ?_)) (λh1=> ?_)
 ·refine hn λ⟨_,_,a3,a4⟩=> ?_;rw[a3] at h3;cases needs with
  |false=>simp at h3
  |true=>have:=a4 rfl;simp at h3;omega
 ·refine hb ⟨h1,h2, ?_,λhne=> ?_⟩
  ·cases h4:pK n x.r with
   |true=>rfl
   |false=>rw[h4] at h3;simp at h3
  ·subst hne;cases h4:pK n x.r with
   |true=>rw[h4] at h3;simp at h3;omega
   |false=>rw[h4] at h3;simp at h3
 ·exact hn λ⟨_,a2,_⟩=>by rw[a2] at h2;cases h2
 ·exact hn λ⟨a1,_⟩=>by rw[a1] at h1;cases h1
theorem eH {l:ze1} (h: ∀u∈l,szB u=true) (e:Nat):aH (mb noU l e)=true:=by
 by_cases he:e<l.length
 ·exact h _ (bw he)
 ·have: ∀(l:ze1) (e:Nat),l.length<=e->mb noU l e=noU:=by
   intro l
   induction l with
   |nil=>intro e _;rfl
   |cons x r ih=>intro e he;cases e with
    |zero=>simp at he
    |succ e=>exact ih e (by simpa using he)
  rw[this l e (by omega)];decide
theorem aS {α:Type} {d:α}: ∀{l:List α} {u:α} {e:Nat},mb d (l++ [u]) e=if e=l.length then u else mb d l e
 | [],u,e=>by cases e<;>simp[mb]
 |x::r,u,e=>by
  cases e with
  |zero=>simp[mb]
  |succ e=>
   have:=aS (d:=d) (l:=r) (u:=u) (e:=e);simp only[zaO,mb,za4];rw[this];split<;>split<;>first|rfl|omega
variable {m q ni nn:Nat} {p:Int} {us:ze1} {u:Un}
theorem CQ {c:Nat} :P4 m c q ni nn p (us.length+1) (ald (eU.get us) (λe=>((ci u).drop (e*20)).take 20) us.length 0) (p,us++ [u]):=by
 have hl:(us++ [u]).length=us.length+1:=by simp
 refine⟨⟨rfl,rfl,rfl,rfl,rfl,trivial⟩,trivial,⟨by rw[hl],trivial⟩, ?_,trivial⟩;refine ac (by rw[zdr (by rw[hl];exact za0 _)];rfl) λe he=> ?_;rw[hl] at he;unfold ald El.get El.nth;rw[aB];show _=ci (mb noU (us++ [u]) e);rw[aS];by_cases h:e<us.length
 ·rw[zdr h,zdt,if_neg (by omega)];rfl
 ·obtain rfl:e=us.length:=by omega
  rw[zdu h,zds,if_pos rfl,zaJ];rfl
def chkI (inp:ze1) (nod:ze2) (z:CX):Prop:=0<=z.1/\z.1<=nod.length/\z.2.length=z.1.toNat/\(∀u∈z.2,szB u=true)/\iB inp nod []=iB inp (nod.drop z.1.toNat) z.2
theorem XO:szB noU=true:=by decide
variable {N:Int} {inp:ze1}
theorem LK {I:CX->Prop} (hx:szN x=true) (hi: ∀u∈inp,szB u=true) (hu: ∀u∈us,szB u=true) (hl:us.length<=1000000)
 (hn:mn inp us x=none->bad) (hs: ∀u q,mn inp us x=some u->LJ I N q inp.length nn i us u):OA I N inp nn i us x bad:=by
 unfold szN at hx;rw[za2] at hx;have T: ∀{f:Bool} {r:Un×Int},VT us.length x=f->fL inp us x=r->mn inp us x=bif f&&r.2==0 then some r.1 else none:=λ{f r} h1 h2=>by unfold mn;rw[h1,h2]
 have U: ∀{r:Un×Int} {q:Nat},VT us.length x=true->fL inp us x=r->zj I N q inp.length nn i us r bad:=λ{r q} h1 h2=>by
  have:=T h1 h2;refine fV hl (ah (λh=>hn ?_) (λh=>hs _ _ ?_))
  ·rw[this];cases hr:r.2==0<;>rw[hr] at h<;>first|rfl|cases h
  ·rw[this];cases hr:r.2==0<;>rw[hr] at h<;>first|rfl|cases h
 have W: ∀{K:Un->Un->Prop},pK us.length x.l=true->pK us.length x.r=true->0<us.length->K (mb noU us x.l.toNat) (mb noU us x.r.toNat)->pL us x K:=λ{K} h1 h2 h3 k=>by
  have a:=V6.1 h1;have b:=V6.1 h2;unfold pL;rw[za7,za7];exact aY a.1 (by omega) (aY b.1 (by omega) (ac (by rw[eH hu,eH hu];rfl) k))
 have E2:0<us.length-> ∀j:Int,(pK us.length j=earF us.length j):=λh j=>by
  rw[zax,V6,V2];omega
 have pair: ∀(f:Un->Un->Un×Int),x.op≠1->x.op≠2->(3<=x.op/\x.op<=6)->fL inp us x=f (mb noU us x.l.toNat) (mb noU us x.r.toNat)->tN us.length true ⟨0,x.v,x.u,x.n,0,0⟩ x bad (pL us x λa b=>zj I N 249 inp.length nn i us (f a b) bad):=by
  intro f n1 n2 n3 hf;have hform:VT us.length x=(eqN ⟨0,x.v,x.u,x.n,0,0⟩ noN&&earF us.length x.l&&earF us.length x.r):=by
   unfold VT;rw[show (x.op==1)=false from zdy n1,show (x.op==2)=false from zdy n2,zdr n3.1,zdr n3.2];rfl
  refine oC (λ⟨a1,a2,a3,a4⟩=> ?_) (λh=>hn ?_)
  ·have h0:=a4 rfl;refine W a2 a3 h0 (U ?_ hf);rw[hform,a1,<-E2 h0,<-E2 h0,a2,a3];rfl
  ·unfold mn;cases hff:VT us.length x with
   |false=>rfl
   |true=>
    exfalso;rw[hform] at hff;simp only[za2] at hff;have hp:0<us.length:=by have:=V2.1 hff.1.2;omega
    exact h ⟨hff.1.1,by rw[E2 hp];exact hff.1.2,by rw[E2 hp];exact hff.2,λ_=>hp⟩
 unfold OA;refine ah (λo1=> ?_) (λo1=>ah (λo2=> ?_) (λo2=>ah (λo3=> ?_) (λo3=>ah (λo4=> ?_) (λo4=>ah (λo5=> ?_) (λo5=>ah (λo6=> ?_) (λo6=>ah (λo7=> ?_) (λo7=>ah (λo8=> ?_) (λo8=> ?_))))))))
 ·
  have hform:VT us.length x=eqN ⟨0,VI,noU,x.n,x.l,x.r⟩ noN:=by unfold VT;rw[o1];rfl
  have huni:fL inp us x=bif rV x.v&&VK x.u then(x.u,0) else(noU,90):=by unfold fL;rw[o1];rfl
  refine oC (λ⟨a1,a2,a3,a4⟩=> ?_) (λh=>hn ?_)
  ·have t:=T hform huni;rw[a1] at t;refine ac hx.1 (ac (by rw[show aH x.u=true from hx.2];cases rV x.v<;>rfl) (ah (λh=>fV hl (hn ?_)) (λh=>fV hl (hs _ _ ?_))))
   ·rw[t];cases h1:rV x.v<;>cases h2:VK x.u<;>rw[h1,h2] at h<;>first|rfl|cases h
   ·rw[t];cases h1:rV x.v<;>cases h2:VK x.u<;>rw[h1,h2] at h<;>first|rfl|cases h
  ·unfold mn;cases hff:VT us.length x with
   |false=>rfl
   |true=>
    exfalso;rw[hform] at hff;have f:=fM hff;simp only at f;exact h ⟨hff,V6.2 (by omega),V6.2 (by omega),λh=>by cases h⟩
 ·
  have hform:VT us.length x=eqN ⟨0,x.v,x.u,0,x.l,x.r⟩ noN:=by unfold VT;rw[o1,o2];rfl
  have huni:fL inp us x=bif decide (0<=x.n)&&decide (x.n<(inp.length:Int)) then(mb noU inp x.n.toNat,0) else(noU,90):=by unfold fL;rw[o1,o2];rfl
  refine oC (λ⟨a1,a2,a3,a4⟩=> ?_) (λh=>hn ?_)
  ·have t:=T hform huni;rw[a1] at t;refine ah (λh=>fV hl (hn ?_)) (λh=> ?_)
   ·rw[t];by_cases h1:x.n<0
    ·rw[zdu (show ¬0<=x.n by omega)];rfl
    ·rw[zdu h1,zds,zdv] at h;rw[zdu (show ¬x.n<(inp.length:Int) by omega),Bool.and_false];rfl
   ·by_cases h1:x.n<0
    ·rw[zdr h1] at h;cases h
    ·rw[zdu h1,zds,zdB] at h;rw[za7];refine aY (by omega) (by omega) (fV hl (hs _ _ ?_));rw[t,zdr (show 0<=x.n by omega),zdr (show x.n<(inp.length:Int) by omega)];rfl
  ·unfold mn;cases hff:VT us.length x with
   |false=>rfl
   |true=>
    exfalso;rw[hform] at hff;have f:=fM hff;simp only at f;exact h ⟨hff,V6.2 (by omega),V6.2 (by omega),λh=>by cases h⟩
 ·exact pair iS (by have:=int_eq.1 o3;omega) (by have:=int_eq.1 o3;omega) (by have:=int_eq.1 o3;omega) (by unfold fL;rw[o1,o2,o3];rfl)
 ·exact pair fw (by have:=int_eq.1 o4;omega) (by have:=int_eq.1 o4;omega) (by have:=int_eq.1 o4;omega) (by unfold fL;rw[o1,o2,o3,o4];rfl)
 ·exact pair mi (by have:=int_eq.1 o5;omega) (by have:=int_eq.1 o5;omega) (by have:=int_eq.1 o5;omega) (by unfold fL;rw[o1,o2,o3,o4,o5];rfl)
 ·exact pair fd (by have:=int_eq.1 o6;omega) (by have:=int_eq.1 o6;omega) (by have:=int_eq.1 o6;omega) (by unfold fL;rw[o1,o2,o3,o4,o5,o6];rfl)
 ·have hform:VT us.length x=(eqN ⟨0,x.v,x.u,0,0,x.r⟩ noN&&earF us.length x.l):=by
   unfold VT;rw[o1,o2,o7,show (decide (3<=x.op)&&decide (x.op<=6))=false by rw[int_eq.1 o7];rfl];rfl
  have huni:fL inp us x=bif x.n==0||decide (x.n< -4)||decide (x.n>4) then(noU,90) else jm (mb noU us x.l.toNat) (x.n,1):=by unfold fL;rw[o1,o2,o3,o4,o5,o6,o7];rfl
  refine oC (λ⟨a1,a2,a3,a4⟩=> ?_) (λh=>hn ?_)
  ·have h0:=a4 rfl;have hf:VT us.length x=true:=by rw[hform,a1,<-E2 h0,a2];rfl
   have t:=T hf huni;have e:(bif bif x.n==0 then true else decide (x.n< -4) then true else decide (x.n>4))=(x.n==0||decide (x.n< -4)||decide (x.n>4)):=by cases x.n==0<;>cases decide (x.n< -4)<;>rfl
   rw[e];refine ah (λh=>fV hl (hn ?_)) (λh=> ?_)
   ·rw[t,h];rfl
   ·rw[h,zds] at huni;have a:=V6.1 a2;rw[za7];exact aY a.1 (by omega) (ac (eH hu _) (U hf huni))
  ·unfold mn;cases hff:VT us.length x with
   |false=>rfl
   |true=>
    exfalso;rw[hform] at hff;simp only[za2] at hff;have f:=fM hff.1;simp only at f;have hp:0<us.length:=by have:=V2.1 hff.2;omega
    exact h ⟨hff.1,by rw[E2 hp];exact hff.2,V6.2 (by omega),λ_=>hp⟩
 ·have hform:VT us.length x=(eqN ⟨0,x.v,x.u,x.n,0,x.r⟩ noN&&earF us.length x.l):=by
   unfold VT;rw[o1,o2,o7,o8,show (decide (3<=x.op)&&decide (x.op<=6))=false by rw[int_eq.1 o8];rfl];rfl
  have huni:fL inp us x=jm (mb noU us x.l.toNat) (1,2):=by unfold fL;rw[o1,o2,o3,o4,o5,o6,o7,o8];rfl
  refine oC (λ⟨a1,a2,a3,a4⟩=> ?_) (λh=>hn ?_)
  ·have h0:=a4 rfl;have hf:VT us.length x=true:=by rw[hform,a1,<-E2 h0,a2];rfl
   have a:=V6.1 a2;rw[za7];exact aY a.1 (by omega) (ac (eH hu _) (U hf huni))
  ·unfold mn;cases hff:VT us.length x with
   |false=>rfl
   |true=>
    exfalso;rw[hform] at hff;simp only[za2] at hff;have f:=fM hff.1;simp only at f;have hp:0<us.length:=by have:=V2.1 hff.2;omega
    exact h ⟨hff.1,by rw[E2 hp];exact hff.2,V6.2 (by omega),λ_=>hp⟩
 ·refine ac (by unfold P5;rw[o1,o2,o3,o4,o5,o6,o7,o8];rfl) (hn ?_);unfold mn;have:VT us.length x=false:=by
   unfold VT;rw[o1,o2,o7,o8];simp only[zds];have e:(decide (3<=x.op)&&decide (x.op<=6))=false:=by
    simp only[zdz,ne_eq] at o1 o2 o3 o4 o5 o6 o7 o8;simp;omega
   rw[e];rfl
  rw[this];rfl
variable {b:Un}
theorem zk {a:Un} (ha:aH a=true) (hb:aH b=true):aH (iS a b).1=true:=by
 unfold iS;cases !jk a b||(a.s==0&&b.s==0) with
 |true=>exact XO
 |false=>cases b.s==0;exact ha;exact hb
theorem oD {a:Un} (ha:aH a=true):aH (fw a b).1=true:=by
 unfold fw;cases !jk a b with
 |true=>exact XO
 |false=>cases b.s !=0 with
  |true=>exact ha
  |false=>cases eqU a b with
   |true=>
    have:=(eL ha).1;show (uzR a.f&&uzR rZ)=true;rw[this];decide
   |false=>exact XO
theorem LL (hx:szN x=true) (hi: ∀u∈inp,szB u=true) (hu: ∀u∈us,szB u=true):szB (fL inp us x).1=true:=by
 unfold szN at hx;rw[za2] at hx;have n:=λe=>eH hu e;unfold fL;cases x.op==1 with
 |true=>cases rV x.v&&VK x.u;exact XO;exact hx.2
 |false=>cases x.op==2 with
  |true=>cases decide (0<=x.n)&&decide (x.n<(inp.length:Int));exact XO;exact eH hi _
  |false=>cases x.op==3 with
   |true=>exact zk (n _) (n _)
   |false=>cases x.op==4 with
    |true=>exact oD (n _)
    |false=>cases x.op==5 with
     |true=>exact CK _ _
     |false=>cases x.op==6 with
      |true=>exact oA _ _
      |false=>cases x.op==7 with
       |true=>cases x.n==0||decide (x.n< -4)||decide (x.n>4);exact re (n _) _;exact XO
       |false=>cases x.op==8;exact XO;exact re (n _) _
theorem CR (hx:szN x=true) (hi: ∀u∈inp,szB u=true) (hu: ∀u∈us,szB u=true) (h:mn inp us x=some u):szB u=true:=by
 unfold mn at h;cases hh:VT us.length x&&(fL inp us x).2==0 with
 |false=>rw[hh] at h;cases h
 |true=>
  rw[hh] at h;simp only[zdt,za1] at h;subst h;exact LL hx hi hu
theorem Wb {p:Pr}:oB p=true↔(1<=p.id/\p.id<=1000000/\p.inp.length<=6)/\p.inp.all VK=true/\1<=p.nod.length/\p.nod.length<=40:=by
 unfold oB;simp only[za2,zdv];exact⟨λ⟨⟨⟨⟨⟨a,b⟩,c⟩,d⟩,e⟩,f⟩=>⟨⟨a,b,c⟩,d,e,f⟩,λ⟨⟨a,b,c⟩,d,e,f⟩=>⟨⟨⟨⟨⟨a,b⟩,c⟩,d⟩,e⟩,f⟩⟩
theorem ES {p:Pr} {K:zdT} {KU:List Un->Prop} (hsz:aci p=true) (h6:p.inp.length<=1000000)
 (hb:(VJ p).2.2≠0->K (zi (VJ p).2.1)) (hg:(VJ p).2.2=0->KU (VJ p).1):OB (chkI p.inp p.nod) p.nod.length p.id p.inp p.nod p.out K KU:=by
 unfold aci at hsz;simp only[za2,zaf] at hsz;obtain⟨⟨si,sn⟩,so⟩:=hsz;have gl:eU.list p.inp.length (eU.get p.inp)=p.inp:=El.list_get;have bad1:oB p=false->K (zi (-1)):=λh=>by
  have:VJ p=([], -1,90):=by unfold VJ;rw[h];rfl
  rw[this] at hb;exact hb (by decide)
 have nb: ∀{P:Prop},¬P->(oB p=true->P)->oB p=false:=λ{P} h k=>by
  cases hh:oB p with
  |false=>rfl
  |true=>exact absurd (k hh) h
 unfold OB;refine ah (λh=>bad1 (nb (P:=1<=p.id/\p.id<=1000000/\p.inp.length<=6) (λ⟨a,b,c⟩=> ?_) λhh=>(Wb.1 hh).1)) (λh1=>ac (by rw[El.good_get si];simp[h6]) λ_ _=>ah (λh=>bad1 (nb (P:=p.inp.all VK=true/\1<=p.nod.length/\p.nod.length<=40) (λ⟨a,b,c⟩=> ?_) λhh=>(Wb.1 hh).2)) (λh2=> ?_))
 ·rw[zdu (show ¬p.id<1 by omega),zdu (show ¬p.id>1000000 by omega),zdu (show ¬((p.inp.length:Int)>6) by omega)] at h;cases h
 ·rw[gl,a,zdu (show ¬(p.nod.length:Int)<1 by omega),zdu (show ¬((p.nod.length:Int)>40) by omega)] at h;cases h
 ·have hbeg:oB p=true:=by
   refine Wb.2 ⟨?_, ?_⟩
   ·by_cases q1:p.id<1
    ·rw[zdr q1] at h1;cases h1
    ·by_cases q2:p.id>1000000
     ·rw[zdu q1,zdr q2] at h1;cases h1
     ·rw[zdu q1,zdu q2] at h1;have:=zdx h1;omega
   ·rw[gl] at h2;cases q1:p.inp.all VK with
    |false=>rw[q1] at h2;cases h2
    |true=>
     rw[q1] at h2;by_cases q2:(p.nod.length:Int)<1
     ·rw[zdr q2] at h2;cases h2
     ·rw[zdu q2] at h2;have:=zdx h2;exact⟨rfl,by omega,by omega⟩
  obtain⟨⟨b1,b2,b3⟩,b4,b5,b6⟩:=Wb.1 hbeg;have hc:VJ p=match iB p.inp p.nod [] with
   |(us,true)=>bif eqU (ly us) p.out then(us,0,0) else([],p.nod.length,90)
   |(us,false)=>([],us.length,90):=by unfold VJ;rw[hbeg];rfl
  refine⟨(0, []),⟨zat _,by show (0:Int)<=_;omega,rfl,λu h=>(by cases h),rfl⟩,⟨⟨rfl,rfl,rfl,rfl,rfl,trivial⟩,trivial,⟨rfl,trivial⟩,rfl,trivial⟩, ?_⟩;rintro⟨i,us⟩ ⟨k0,k1,k2,k3,k4⟩;simp only at k0 k1 k2 k3 k4;dsimp only;refine ah (λhz=> ?_) (λhz=> ?_)
  ·have hz:i<(p.nod.length:Int):=zdw hz;rw[za7];have hd:p.nod.drop i.toNat=mb noN p.nod i.toNat::p.nod.drop (i+1).toNat:=by
    rw[show (i+1).toNat=i.toNat+1 by omega,zaH (show i.toNat<p.nod.length by omega),bR (zaa _)]
   have hx:=sn _ (bw (d:=noN) (l:=p.nod) (e:=i.toNat) (by omega));rw[hd,iB] at k4;refine aY k0 hz (LK hx si k3 (by omega) (λhn=> ?_) (λu q hu=> ?_))
   ·rw[hn] at k4;replace k4:iB p.inp p.nod []=(us,false):=k4;rw[k4] at hc;replace hc:VJ p=([],(us.length:Int),90):=hc;rw[hc] at hb;have:=hb (show (90:Int)≠0 by decide);rwa[show ((us.length:Nat):Int)=i by omega] at this
   ·rw[hu] at k4;replace k4:iB p.inp p.nod []=iB p.inp (p.nod.drop (i+1).toNat) (us++ [u]):=k4;refine ac (VP.2 (by omega)) ⟨(i+1,us++ [u]),⟨by show 0<=i+1;omega,by show i+1<=_;omega,by simp only[za3,za6];omega, ?_,k4⟩,by show (_:Nat)<_;omega,CQ⟩;intro v hv;rcases za8.1 hv with hv|hv
    ·exact k3 v hv
    ·rw[zaj.1 hv];exact CR hx si k3 hu
  ·have hz: ¬i<(p.nod.length:Int):=zdx hz;rw[show i.toNat=p.nod.length by omega,zbj,iB] at k4;rw[k4] at hc;refine ac (VP.2 (by omega)) (aY (by omega) (by omega) ?_);have e:(0+((us.length:Int) - 1).toNat)=us.length - 1:=by omega
   show ag (!eqU (mb noU us (0+((us.length:Int) - 1).toNat)) p.out) _ _;rw[e];refine ah (λh=> ?_) (λh=> ?_)
   ·have h:eqU (ly us) p.out=false:=by simpa [ly] using h
    rw[hc] at hb;simp only[h,zds] at hb;exact hb (show (90:Int)≠0 by decide)
   ·have h:eqU (ly us) p.out=true:=by simpa [ly] using h
    rw[hc] at hg;simp only[h,zdt] at hg;exact hg trivial
structure ProA where
 need:Bool
 o1:Option Nat
 o2:Option Nat
 p:Pr
def bW (n:Nat):Bool:=Nat.ble n 1000000
def mC (bl:zdO) (s:SV):Option ProA:=match s with
 | .agg (.val (.int .i64 id)::si::sn::r)=>match vW bl 20 si,vW bl 26 sn,Au (.agg r) with
   |some (b1,o1,n1,g1),some (b2,o2,n2,g2),some u=>some ⟨b1&&b2&&bW n1&&bW n2&&eU.good szB n1 g1&&eN.good szN n2 g2&&szB u,o1,o2,⟨id,eU.list n1 g1,eN.list n2 g2,u⟩⟩
   |_,_,_=>none
 |_=>none
def iK (p:Pr):zdW:= [eU.old p.inp,eN.old p.nod]
def kB (p:Pr):SV:=svP p.id p.inp p.nod p.out
variable {cs:zdM}
theorem pM (h:Au (.agg cs)=some u):cs=ci u:=by
 have:=cU.ok _ _ h;simpa [cU] using this
variable {f:ze0} {xs ys:zdM}
theorem ar {x y:SV} (h:x.rn f=some y) (k:SV.rns f xs=some ys):SV.rns f (x::xs)=some (y::ys):=by simp only[SV.rns,h,k]
theorem Xs (k:SV.rns f xs=some ys):(SV.agg xs).rn f=some (.agg ys):=by simp only[SV.rn,k]
theorem xh (k:SV.rns f xs=some ys):(SV.tup xs).rn f=some (.tup ys):=by simp only[SV.rn,k]
theorem eX {bl:zdO} {s:SV} {a:ProA} (h:mC bl s=some a) (hn:a.need=true) (h0:f 0=some a.o1) (h1:f 1=some a.o2):
 j5 bl f (eU.old a.p.inp) a.o1/\j5 bl f (eN.old a.p.nod) a.o2/\(kB a.p).rn f=some s/\aci a.p=true/\a.p.inp.length<=1000000/\a.p.nod.length<=1000000:=by
 unfold mC at h;split at h
 ·rename_i id si sn r;split at h
  ·rename_i b1 o1 n1 g1 b2 o2 n2 g2 u hs1 hs2 hu;simp only[za1] at h;subst h;simp only[za2] at hn;obtain⟨⟨⟨⟨⟨⟨rfl,rfl⟩,l1⟩,l2⟩,k1⟩,k2⟩,k3⟩:=hn;obtain⟨a1,a2⟩:=cq (f:=f) hs1 k1;obtain⟨b1,b2⟩:=cq (f:=f) hs2 k2;refine⟨a1,b1, ?_, ?_, ?_, ?_⟩
   ·have e:=rns_free (f:=f) (fj u);have d:=pM hu;subst d;exact Xs (ar (show SV.rn f (.val (.int .i64 id))=_ from rfl) (ar (a2 0 h0) (ar (b2 1 h1) e)))
   ·unfold aci;simp only[za2,zaf];exact⟨⟨El.good_list k1,El.good_list k2⟩,k3⟩
   ·rw[El.list_length];exact zak l1
   ·rw[El.list_length];exact zak l2
  ·cases h
 ·cases h
def xi:MCtr:=λbl nx args=>match args with
 | [s]=>match mC bl s with
   |some a=>some {X:=Unit,pre:=a.need,spec:=λ_=>True,out:=λ_=> .tup [.slc nx 0 (VJ a.p).1.length, .val (.int .i64 (VJ a.p).2.1), .val (.int .i64 (VJ a.p).2.2)],nw:=λ_=> [eU.own (VJ a.p).1],ex:=λ_=>⟨(),trivial⟩}
   |none=>none
 |_=>none
theorem ke (p:Pr):((VJ p).2.2=90/\(VJ p).1= [])\/((VJ p).2.2=0/\(VJ p).2.1=0/\(VJ p).1.length=p.nod.length/\1<=p.nod.length):=by
 have hl: ∀(l:ze2) (us vs:ze1),iB p.inp l us=(vs,true)->vs.length=us.length+l.length:=by
  intro l
  induction l with
  |nil=>intro us vs h;simp only[iB,zag,and_true] at h;subst h;simp
  |cons x r ih=>
   intro us vs h;simp only[iB] at h;split at h
   ·have:=ih _ _ h;simp only[za3,za6] at this;simp only[za4];omega
   ·simp at h
 unfold VJ;cases hb:oB p with
 |false=>exact .inl ⟨rfl,rfl⟩
 |true=>
  rw[zdt];cases hu:iB p.inp p.nod [] with
  |mk us b=>
   cases b with
   |false=>exact .inl ⟨rfl,rfl⟩
   |true=>
    cases he:eqU (ly us) p.out with
    |false=>exact .inl ⟨by simp only[he,zds],by simp only[he,zds]⟩
    |true=>
     have:=hl _ _ _ hu;simp only[he,zdt];exact .inr ⟨trivial,trivial,by simpa using this,(Wb.1 hb).2.2.1⟩
theorem cx (p:Pr): ∀C∈iK p,cN C.kd=false:=by simp[iK,cN,El.old]
theorem jG (p:Pr): ∀C∈iK p,C.kd.map=false:=by simp[iK,BK.map,El.old]
theorem OD:MOk gmC:=(MOk.nil.cons λ_ _ _ _ _ _ _ _ _ _ _ _ h=>by cases h).cons (IH MOk.nil)
variable {Q:zdT}
theorem vL {KS:Nat->Nat->Blk->List SV->Prop} {r:Res} {b:zdO} {w:zdK} (h:slK KS Q r b m w):(∃i n rest B,r= .ok (.tup (.slc i 0 n::rest))/\b i=some B/\KS i n B rest)\/ ∃s,r= .ok s/\Q s:=by
 unfold slK at h;split at h
 ·rename_i i n rest;split at h
  ·rename_i B hB;exact .inl ⟨i,n,rest,B,rfl,hB,h⟩
  ·exact h.elim
 ·exact .inr ⟨_,rfl,h⟩
 ·exact h.elim
theorem vM: ∀B:Base,GlobB B->VU prog B 14 xi:=eW OD λbl nx args C hk hp=>by
 unfold xi at hk;split at hk
 ·rename_i s;split at hk
  ·rename_i a ha;simp only[za1] at hk;subst hk;obtain⟨s1,s2,s3,s4,s5,s6⟩:=eX (f:=rnF [a.o1,a.o2] [] nx) ha hp rfl rfl;refine⟨[a.o1,a.o2],iK a.p, [kB a.p],tM (chkI a.p.inp a.p.nod) a.p.nod.length,6,aw s1 (aw s2 trivial),bH (cx _),cd (jG _),by simp only[SV.rns,s3], ?_⟩;have key: ∀(KS:Nat->Nat->Blk->List SV->Prop) (Q:zdT),((VJ a.p).2.2≠0->Q (zi (VJ a.p).2.1))->((VJ a.p).2.2=0->KS 71 (VJ a.p).1.length {n:=(VJ a.p).1.length,sz:=20,get:=eU.get (VJ a.p).1,kd:= .own,nn:=false} [.val (.int .i64 0), .val (.int .i64 0)])->
    dk gmC (tM (chkI a.p.inp a.p.nod) a.p.nod.length) 6 14 [kB a.p] (iK a.p) (slK KS Q):=λKS Q h1 h2=>by
    unfold kB iK;rw[OC];exact ES s4 s5 h1 h2
   refine cQ (key (λi n B rest=>(VJ a.p).2.2=0/\i=71/\n=(VJ a.p).1.length/\B={n:=(VJ a.p).1.length,sz:=20,get:=eU.get (VJ a.p).1,kd:= .own,nn:=false}/\rest= [.val (.int .i64 0), .val (.int .i64 0)]) (λr=>(VJ a.p).2.2≠0/\r=zi (VJ a.p).2.1) (λh=>⟨h,rfl⟩) (λh=>⟨h,rfl,rfl,rfl,rfl⟩)) λr b m w h=> ?_;rcases vL h with ⟨i,n,rest,B,rfl,hB,e0,rfl,rfl,rfl,rfl⟩|⟨s,rfl,e0,rfl⟩
   ·obtain⟨c1,_⟩|⟨_,c2,c3,c4⟩:=ke a.p
    ·rw[c1] at e0;cases e0
    ·refine⟨(),trivial, [some 71],⟨_,rfl, ?_⟩,by simp[ck],⟨⟨by simp[iK], ?_⟩,trivial⟩,cr (cx _) rfl _⟩
     ·simp only[SV.rn,SV.rns,cO,c2,e0];rfl
     ·rw[hB];exact⟨by simp[El.own],λ_=>⟨by simp only[El.own];omega,eU.one⟩,gC rfl rfl (za0 _) λ_ _=>rfl⟩
   ·obtain⟨c1,c2⟩|⟨c1,_⟩:=ke a.p
    ·refine⟨(),trivial, [none],⟨_,rfl, ?_⟩,by simp[ck],⟨⟨rfl,by simp[El.own,c2],rfl⟩,trivial⟩,cr (cx _) rfl _⟩;simp only[SV.rn,SV.rns,cO,c1,c2];rfl
    ·exact absurd c1 e0
  ·cases hk
 ·cases hk
def pN:MCtr:=λbl nx args=>match args with
 | [s]=>match mC bl s with
   |some a=>some {X:=Unit,pre:=a.need,spec:=λ_=>True,out:=λ_=>cB.enc (VM a.p),ex:=λ_=>⟨(),trivial⟩}
   |none=>none
 |_=>none
def gmV:zdZ:= [(14,xi)]
theorem OE:MOk gmV:=MOk.nil.cons vM
def jn (p:Pr):Bool:=(Nat.ble p.inp.length p.inp.length&&Nat.beq 20 20&&true)&&(Nat.ble p.nod.length p.nod.length&&Nat.beq 26 26&&true)&&bW p.inp.length&&bW p.nod.length&&eU.good szB p.inp.length (eU.get p.inp)&&eN.good szN p.nod.length (eN.get p.nod)&&szB p.out
def dm (p:Pr):Pr:=⟨p.id,eU.list p.inp.length (eU.get p.inp),eN.list p.nod.length (eN.get p.nod),p.out⟩
theorem fN (p:Pr):dm p=p:=by
 unfold dm;rw[show eU.list p.inp.length (eU.get p.inp)=p.inp from El.list_get,show eN.list p.nod.length (eN.get p.nod)=p.nod from El.list_get]
theorem eY {p:Pr} (h:aci p=true) (h1:p.inp.length<=1000000) (h2:p.nod.length<=1000000):jn p=true:=by
 unfold aci at h;simp only[za2,zaf] at h;unfold jn bW;rw[zae h1,zae h2,zae (za0 _),zae (za0 _),El.good_get h.1.1,El.good_get h.1.2,h.2];rfl
theorem ET (p:Pr) (Q:zdT):dk gmV (λ_ _=>none) 3 16 [kB p] (iK p) (Go.Sy.okK λr _ _ _=>Q r)=af (jn p) (Unit->True->Q (cB.enc ((VJ (dm p)).2.2==0))):=by kernel_rfl
variable {C:RC} {src:zdV} {Cs:zdW} {nx:Nat} {gm:zdZ} {ann:zdX} {args:zdM} {r:SV}
theorem lz {f:FuncId} (x:C.X) (hx:C.spec x) (h1:C.pan x=none) (h2:r.ids= []) (h3:C.out x=r) (h4:C.nw x= []) (h5:C.ch x= []) (h6: ∀C∈Cs,cN C.kd=false) (hl:src.length=Cs.length)
 (h:dk gm ann n f args Cs (Go.Sy.okK λs _ _ _=>s=r)):dk gm ann n f args Cs (KB C src Cs nx):=cQ h λq b m w hq=>by
 cases q with
 |pan v=>exact hq.elim
 |ok s=>
  obtain rfl:s=r:=hq;exact IG x hx h1 h2 h3 h4 h5 h6 hl
theorem lZ: ∀B:Base,GlobB B->VU prog B 16 pN:=eW OE λbl nx args C hk hp=>by
 unfold pN at hk;split at hk
 ·rename_i s;split at hk
  ·rename_i a ha;simp only[za1] at hk;subst hk;obtain⟨s1,s2,s3,s4,s5,s6⟩:=eX (f:=rnF [a.o1,a.o2] [] nx) ha hp rfl rfl;refine⟨[a.o1,a.o2],iK a.p, [kB a.p],(λ_ _=>none),3,aw s1 (aw s2 trivial),bH (cx _),cd (jG _),by simp only[SV.rns,s3], ?_⟩;refine lz () trivial rfl (r:=cB.enc (VM a.p)) rfl rfl rfl rfl (cx _) rfl ?_;rw[ET];exact ac (eY s4 s5 s6) λ_ _=>by rw[fN];rfl
  ·cases hk
 ·cases hk
def CS (I:Int->Prop) (N:Int):zdX:=λf k=>bif Nat.beq f 123&&Nat.beq k 2 then some (λA=>{X:=Int,inv:=I,tm:=λi=> [(8, .val (.int .i64 i))],mu:=λi=>(N - i).toNat,keep:= [0,1,7]}) else none
theorem LM (I:Int->Prop) (N:Int) (l:List RS) (Q:zdT):dk [] (CS I N) 5 52 [.slc 0 0 l.length, .fn (.func 50) [] []] [eR.old l] (Go.Sy.okK λr _ _ _=>Q r)=
 LH I N (.slc 0 0 l.length) (.fn (.func 50) [] []) l.length (λz Q=>af (uzR (eR.nth l (0+z.toNat))) (Q (!rV (eR.nth l (0+z.toNat))))) (λz=>Q (cB.enc (decide (z≥0)))):=by kernel_rfl
def II:MCtr:=λbl _ args=>match args with
 | [s, .fn (.func g) [] []]=>bif Nat.beq g 50 then(match vW bl 2 s with
   |some (b,_,n,c)=>some {X:=Unit,pre:=b&&(Nat.ble n 1000000&&eR.good uzR n c),spec:=λ_=>True,out:=λ_=>cB.enc (!(eR.list n c).all rV),ex:=λ_=>⟨(),trivial⟩}
   |none=>none) else none
 |_=>none
theorem IJ (hm:MOk gm): ∀B:Base,GlobB B->VU prog B 52 II:=eW MOk.nil λbl nx args C hk hp=>by
 unfold II at hk;split at hk
 ·rename_i s g;cases hg:Nat.beq g 50 with
  |false=>rw[hg] at hk;cases hk
  |true=>
   obtain rfl:=zab hg;rw[hg,zdt] at hk;split at hk
   ·rename_i b o n c hs;simp only[za1] at hk;subst hk;simp only[za2] at hp;obtain⟨rfl,hn,hgood⟩:=hp;have hlen:(eR.list n c).length<2^62:=by rw[El.list_length];have:=zak hn;omega
    obtain⟨h1,h2⟩:=cq (f:=rnF [o] [] nx) hs hgood;refine⟨[o], [eR.old (eR.list n c)], [.slc 0 0 (eR.list n c).length, .fn (.func 50) [] []],CS (λi=>0<=i/\i<=(eR.list n c).length/\be (λu=> !rV u) (eR.list n c) 0=be (λu=> !rV u) ((eR.list n c).drop i.toNat) i) (eR.list n c).length,5,aw h1 trivial,bH (by simp[cN,El.old]),cd (by simp[El.old,BK.map]), ?_, ?_⟩
    ·simp only[SV.rns,h2 0 rfl];rfl
    ·refine lz () trivial rfl (r:=cB.enc (!(eR.list n c).all rV)) rfl rfl rfl rfl (by simp[cN,El.old]) rfl ?_;rw[LM];refine pJ VI hlen (λz Q h0 h1 h=> ?_) ?_
     ·rw[za7];have:=El.good_list hgood _ (bw (d:=VI) (l:=eR.list n c) (e:=z.toNat) (by omega));exact ac this h
     ·rw[pI _ _ _ (zat _),CP]
   ·cases hk
 ·cases hk
def gmE:zdZ:= [(16,pN),(52,II)]
theorem OF:MOk gmE:=(MOk.nil.cons (IJ MOk.nil)).cons lZ
abbrev EX:=Int×List RS
abbrev PWX:=Int×RS
def OG (A:AS):RS:=match A.tm 7 with
 | .v (.slc i _ _)=>match A.bl i,Bh A (kA A 10) 24 with
   |some B, .val (.int _ l)=>NH (B.get (0+l.toNat))
   |_,_=>VI
 |_=>VI
def P7 (A:AS) (t:Nat):Int:=match A.tm t with
 | .v (.val (.int _ z))=>z
 |_=>0
def CT (I:EX->Prop) (N:Int) (J:RS->Int->PWX->Prop):zdX:=λf k=>bif Nat.beq f 60 then(bif Nat.beq k 4 then some (λA=>{X:=EX,inv:=I,tm:=λx=> [(19, .val (.int .i64 x.1)),(7, .slc A.nx 0 x.2.length)],gr:= [{src:= .slot 7,sz:=2,n:=λx=>x.2.length,get:=λx=>eR.get x.2}],cleanG:=λg hg x e=>by simp at hg;subst hg;exact eR.ids _,mu:=λx=>(N - x.1).toNat,keep:= [2,3,4,6,8,17,18]})
 else bif Nat.beq k 23 then some (λA=>{X:=PWX,inv:=J (OG A) (P7 A 119),tm:=λx=> [(120, .val (.int .i64 x.1))],st:= [(kA A 11,λx=>gA x.2)],mu:=λx=>(4 - x.1).toNat,keep:= [2,3,4,6,7,8,10,11,17,18,19,119]}) else none) else none
def LN:SV:= .tup [.agg (gA VI), .val (.int .i64 90)]
def LO (r:RS×Int) (bad:Prop) (K:RS->Prop):Prop:=ag (r.2 !=0) bad (K r.1)
def LP (n:Nat) (K:Prop):Prop:=af (decide (0<1)&&decide (0+1<=1)&&decide (n<=n)&&decide ((n+1)*32<=140737488355328)&&true) K
def evS (ni nn:Nat) (Q:Prop):Prop:=tvE (.slc 2 0 ni)/\cg 27/\cg 28/\cg 29/\cg 38/\tvE (.slc 1 0 nn)/\tvE (cI.enc (nn:Int))/\Q
def evM (q ni nn:Nat) (p:Int) (n:Nat) (us:zdP) (z:EX):Prop:=
 (TV.v (cI.enc p)=TV.v (cI.enc z.1)/\TV.v (.slc q 0 n)=TV.v (.slc q 0 z.2.length)/\evS ni nn True)/\(True/\(True/\(af (Nat.beq 2 2&&decide (z.2.length<=n)) (∀e,e<z.2.length->us e=eR.get z.2 e)/\True)))
def evN (I:EX->Prop) (N:Int) (q ni nn:Nat) (i:Int) (vs:List RS) (v:RS):Prop:=LP vs.length (af (inR .i64 (i+1)) (∃z:EX,I z/\((N - z.1).toNat<(N - i).toNat/\evM q ni nn (i+1) (vs.length+1) (ald (eR.get vs) (λe=>((gA v).drop (e*2)).take 2) vs.length 0) z)))
def jH (n:Int):Int:=if -n>n then -n else n
def pwE (ni nn:Nat) (i:Int) (n:Nat) (m:Int) (p:Int) (v:RS) (z:PWX):Prop:=
 (TV.v (cI.enc p)=TV.v (cI.enc z.1)/\tvE (.slc 2 0 ni)/\cg 27/\cg 28/\cg 29/\tvE (.slc 44 0 n)/\cg 38/\cg 48/\cg 50/\tvE (.slc 1 0 nn)/\tvE (cI.enc (nn:Int))/\tvE (cI.enc i)/\tvE (cI.enc m)/\True)/\(True/\((gA v=gA z.2/\True)/\True))
def opP (vs:List RS) (x:Nd) (f:RS->RS->RS×Int) (bad:Prop) (K:RS->Prop):Prop:=
 eO vs.length x.l (eO vs.length x.r (af (uzR (mb VI vs (0+x.l.toNat))&&uzR (mb VI vs (0+x.r.toNat))) (LO (f (mb VI vs (0+x.l.toNat)) (mb VI vs (0+x.r.toNat))) bad K)))
def P8 (J:RS->Int->PWX->Prop) (ni nn:Nat) (i:Int) (vs:List RS) (x:Nd) (bad:Prop) (K1 K2:RS->Prop):Prop:=
 af (inR .i64 (-x.n)) (∃z0:PWX,J (mb VI vs (0+x.l.toNat)) (jH x.n) z0/\(pwE ni nn i vs.length (jH x.n) 0 rI z0/\ ∀z:PWX,J (mb VI vs (0+x.l.toNat)) (jH x.n) z->ag (decide (z.1<jH x.n))
  (eO vs.length x.l (af (uzR z.2&&uzR (mb VI vs (0+x.l.toNat))) (LO (ale z.2 (mb VI vs (0+x.l.toNat))) bad λv=>af (inR .i64 (z.1+1)) (∃z':PWX,J (mb VI vs (0+x.l.toNat)) (jH x.n) z'/\((4 - z'.1).toNat<(4 - z.1).toNat/\pwE ni nn i vs.length (jH x.n) (z.1+1) v z')))))
  (ag (decide (x.n<0)) (af (uzR rI&&uzR z.2) (LO (cA rI z.2) bad K1)) (K2 z.2))))
def evP (I:EX->Prop) (N:Int) (J:RS->Int->PWX->Prop) (ins:List RS) (nn:Nat) (i:Int) (vs:List RS) (x:Nd) (bad:Prop):Prop:=
 ag (x.op==1) (evN I N 84 ins.length nn i vs x.v) (
 ag (x.op==2) (eO ins.length x.n (evN I N 83 ins.length nn i vs (mb VI ins (0+x.n.toNat)))) (
 ag (x.op==3) (opP vs x fZ bad (evN I N 87 ins.length nn i vs)) (
 ag (x.op==4) (opP vs x iF bad (evN I N 89 ins.length nn i vs)) (
 ag (x.op==5) (opP vs x ale bad (evN I N 91 ins.length nn i vs)) (
 ag (x.op==6) (opP vs x cA bad (evN I N 93 ins.length nn i vs)) (
 ag (x.op==7) (P8 J ins.length nn i vs x bad (evN I N 115 ins.length nn i vs) (evN I N 100 ins.length nn i vs)) (
 ag (x.op==8) (eO vs.length x.l bad) (evN I N 89 ins.length nn i vs VI))))))))
def evT (I:EX->Prop) (N:Int) (J:RS->Int->PWX->Prop) (p:Pr) (ins:List RS) (Q:zdT):Prop:=
 af (jn p) (Unit->True->ag (bif !VM (dm p) then true else((ins.length:Int) !=(p.inp.length:Int))) (Q LN)
 (af (Nat.ble ins.length ins.length&&Nat.beq 2 2&&true&&(Nat.ble ins.length 1000000&&eR.good uzR ins.length (eR.get ins))) (Unit->True->ag (!(eR.list ins.length (eR.get ins)).all rV) (Q LN)
 (∃z0:EX,I z0/\(((TV.v (cI.enc 0)=TV.v (cI.enc z0.1)/\TV.v (.val (.slice none 0 0))=TV.v (.val (.slice none z0.2.length 0))/\evS ins.length p.nod.length True)/\(True/\(True/\(z0.2.length=0/\True))))/\
   ∀z:EX,I z->ag (decide (z.1<(p.nod.length:Int)))
    (eO p.nod.length z.1 (evP I N J ins p.nod.length z.1 z.2 (mb noN p.nod (0+z.1.toNat)) (Q LN)))
    (af (inR .i64 ((z.2.length:Int) - 1)) (eO z.2.length ((z.2.length:Int) - 1) (Q (.tup [.agg (gA (mb VI z.2 (0+((z.2.length:Int) - 1).toNat))), .val (.int .i64 0)])))))))))
theorem P9 (I:EX->Prop) (N:Int) (J:RS->Int->PWX->Prop) (p:Pr) (ins:List RS) (Q:zdT):dk gmE (CT I N J) 6 21 [kB p, .slc 2 0 ins.length] [eU.old p.inp,eN.old p.nod,eR.old ins] (Go.Sy.okK λr _ _ _=>Q r)=evT I N J p ins Q:=by kernel_rfl
def okR (r:RS×Int):Option RS:=bif r.2 !=0 then none else some r.1
def kC (b:RS):Nat->Option RS
 |0=>some rI
 |k+1=>match kC b k with
  |some v=>okR (ale v b)
  |none=>none
def valF (ins vs:List RS) (x:Nd):Option RS:=
 bif x.op==1 then some x.v else
 bif x.op==2 then some (mb VI ins x.n.toNat) else
 bif x.op==3 then okR (fZ (mb VI vs x.l.toNat) (mb VI vs x.r.toNat)) else
 bif x.op==4 then okR (iF (mb VI vs x.l.toNat) (mb VI vs x.r.toNat)) else
 bif x.op==5 then okR (ale (mb VI vs x.l.toNat) (mb VI vs x.r.toNat)) else
 bif x.op==6 then okR (cA (mb VI vs x.l.toNat) (mb VI vs x.r.toNat)) else
 bif x.op==7 then(match kC (mb VI vs x.l.toNat) (jH x.n).toNat with
  |some v=>bif decide (x.n<0) then okR (cA rI v) else some v
  |none=>none) else
 bif x.op==8 then none else some VI
def iC (ins:List RS):List Nd->List RS->Option (List RS)
 | [],vs=>some vs
 |x::r,vs=>match valF ins vs x with
  |some v=>iC ins r (vs++ [v])
  |none=>none
def CU (vs:List RS):RS:=mb VI vs (vs.length - 1)
def bn (p:Pr) (ins:List RS):RS×Int:=bif !VM p||ins.length !=p.inp.length|| !ins.all rV then(VI,90) else(match iC ins p.nod [] with
 |some vs=>(CU vs,0)
 |none=>(VI,90))
theorem xj {inp:ze1}: ∀{l:ze2} {us vs:ze1},iB inp l us=(vs,true)-> ∀j,j<l.length-> ∃ws u,ws.length=us.length+j/\mn inp ws (mb noN l j)=some u
 | [],us,vs,_,j,hj=>by simp at hj
 |x::r,us,vs,h,j,hj=>by
  simp only[iB] at h;split at h
  ·rename_i u hu;cases j with
   |zero=>exact⟨us,u,rfl,hu⟩
   |succ j=>
    obtain⟨ws,v,h1,h2⟩:=xj h j (by simpa using hj);exact⟨ws,v,by rw[h1];simp;omega,h2⟩
  ·simp at h
theorem vN (h:mn inp us x=some u):VT us.length x=true/\(fL inp us x).2=0/\(fL inp us x).1=u:=by
 unfold mn at h;cases h1:VT us.length x&&(fL inp us x).2==0 with
 |false=>rw[h1] at h;cases h
 |true=>
  rw[h1] at h;simp only[zdt,za1] at h;simp only[za2,zdA] at h1;exact⟨h1.1,h1.2,h⟩
structure NodeOK (ni n:Nat) (x:Nd):Prop where
 form:VT n x=true
 op:1<=x.op/\x.op<=8
 inp:x.op=2->0<=x.n/\x.n<ni
 left:3<=x.op->0<=x.l/\x.l<n
 right:3<=x.op->x.op<=6->0<=x.r/\x.r<n
 pow:x.op=7->x.n≠0/\ -4<=x.n/\x.n<=4
theorem EU (h1:VT us.length x=true) (h2:(fL inp us x).2=0):NodeOK inp.length us.length x:=by
 have hop:1<=x.op/\x.op<=8:=by
  unfold VT at h1;by_cases o1:x.op=1
  ·omega
  by_cases o2:x.op=2
  ·omega
  by_cases o3:3<=x.op/\x.op<=6
  ·omega
  by_cases o7:x.op=7
  ·omega
  by_cases o8:x.op=8
  ·omega
  exfalso;rw[zdy o1,zdy o2,zdy o7,zdy o8] at h1;have:(decide (3<=x.op)&&decide (x.op<=6))=false:=by simp;omega
  rw[this] at h1;cases h1
 refine⟨h1,hop,λo=> ?_,λo=> ?_,λo o'=> ?_,λo=> ?_⟩
 ·unfold fL at h2;rw[o] at h2;cases hc:decide (0<=x.n)&&decide (x.n<(inp.length:Int)) with
  |true=>simpa using hc
  |false=>rw[hc] at h2;exact absurd (show (90:Int)=0 from h2) (by decide)
 ·unfold VT at h1;rw[zdy (show x.op≠1 by omega),zdy (show x.op≠2 by omega)] at h1;by_cases o3:x.op<=6
  ·rw[zdr o,zdr o3] at h1;simp only[zds,zc6,zdt,za2] at h1;exact V2.1 h1.1.2
  ·by_cases o7:x.op=7
   ·rw[o7] at h1;exact V2.1 (Bool.and_eq_true_iff.1 h1).2
   ·have o8:x.op=8:=by omega
    rw[o8] at h1;exact V2.1 (Bool.and_eq_true_iff.1 h1).2
 ·unfold VT at h1;rw[zdy (show x.op≠1 by omega),zdy (show x.op≠2 by omega),zdr o,zdr o'] at h1;simp only[zds,zc6,zdt,za2] at h1;exact V2.1 h1.2
 ·unfold fL at h2;rw[o] at h2;cases hc:x.n==0||decide (x.n< -4)||decide (x.n>4) with
  |true=>rw[hc] at h2;exact absurd (show (90:Int)=0 from h2) (by decide)
  |false=>simp at hc;omega
theorem bQ {p:Pr} (h:VM p=true):oB p=true/\ ∀j,j<p.nod.length->NodeOK p.inp.length j (mb noN p.nod j):=by
 unfold VM at h;have h:=beq_iff_eq.1 h;unfold VJ at h;cases hb:oB p with
 |false=>rw[hb] at h;exact absurd (show (90:Int)=0 from h) (by decide)
 |true=>
  rw[hb,zdt] at h;refine⟨rfl,λj hj=> ?_⟩;cases hu:iB p.inp p.nod [] with
  |mk us b=>
   rw[hu] at h;cases b with
   |false=>exact absurd (show (90:Int)=0 from h) (by decide)
   |true=>
    obtain⟨ws,u,h1,h2⟩:=xj hu j hj;obtain⟨f1,f2,_⟩:=vN h2;have:=EU f1 f2;rwa[h1,za9,za7] at this
theorem rg {l:List RS} (h: ∀u∈l,uzR u=true) (e:Nat):uzR (mb VI l e)=true:=by
 by_cases he:e<l.length
 ·exact h _ (bw he)
 ·have: ∀(l:List RS) (e:Nat),l.length<=e->mb VI l e=VI:=by
   intro l
   induction l with
   |nil=>intro e _;rfl
   |cons x r ih=>intro e he;cases e with
    |zero=>simp at he
    |succ e=>exact ih e (by simpa using he)
  rw[this l e (by omega)];decide
variable {v:RS}
theorem fq {r:RS×Int} (h:okR r=some v):r.2=0/\r.1=v:=by
 unfold okR at h;cases hr:r.2 !=0 with
 |true=>rw[hr] at h;cases h
 |false=>rw[hr] at h;simp at h hr;exact⟨hr,h⟩
theorem CV {b:RS}: ∀{k:Nat} {v:RS},kC b k=some v->uzR v=true
 |0,v,h=>by simp[kC] at h;subst h;decide
 |k+1,v,h=>by
  simp only[kC] at h;split at h
  ·rw[<-(fq h).2];exact gI _ _
  ·cases h
theorem xk {r:RS×Int} {K:RS->Prop} (h0:okR r=none->bad) (h1: ∀v,okR r=some v->K v):LO r bad K:=ah (λh=>h0 (by unfold okR;rw[h];rfl)) (λh=>h1 _ (by unfold okR;rw[h];rfl))
theorem LQ (h:n<=1000000) (k:K):LP n K:=ac (by
 rw[zdr (zbS),zdr (show 0+1<=1 by omega),zdr (za0 n),zdr (show (n+1)*32<=140737488355328 by omega)];rfl) k
theorem OH {us:List RS} {u:RS}:evM q ni nn p (us.length+1) (ald (eR.get us) (λe=>((gA u).drop (e*2)).take 2) us.length 0) (p,us++ [u]):=by
 have hl:(us++ [u]).length=us.length+1:=by simp
 refine⟨⟨rfl,by rw[hl],rfl,rfl,rfl,rfl,rfl,rfl,rfl,trivial⟩,trivial,trivial, ?_,trivial⟩;refine ac (by rw[zdr (by rw[hl];exact za0 _)];rfl) λe he=> ?_;rw[hl] at he;unfold ald El.get El.nth;rw[aB];show _=gA (mb VI (us++ [u]) e);rw[aS];by_cases h:e<us.length
 ·rw[zdr h,zdt,if_neg (by omega)];rfl
 ·obtain rfl:e=us.length:=by omega
  rw[zdu h,zds,if_pos rfl,zaJ];rfl
def OI (b:RS) (m:Int) (z:PWX):Prop:=0<=z.1/\z.1<=m/\m<=4/\kC b z.1.toNat=some z.2
theorem YZ {m:Int} :pwE ni nn i n m p v (p,v):=⟨⟨rfl,rfl,rfl,rfl,rfl,rfl,rfl,rfl,rfl,rfl,rfl,rfl,rfl,trivial⟩,trivial,⟨rfl,trivial⟩,trivial⟩
variable {ins vs:List RS}
theorem OJ {I:EX->Prop} (hx:NodeOK ni vs.length x) (hni:ins.length=ni) (hv: ∀u∈vs,uzR u=true) (hb:valF ins vs x=none->bad) (hs: ∀v q,valF ins vs x=some v->evN I N q ins.length nn i vs v):evP I N OI ins nn i vs x bad:=by
 obtain⟨o1,o2⟩:=hx.op;have two: ∀{f:RS->RS->RS×Int} {q:Nat},3<=x.op->x.op<=6->valF ins vs x=okR (f (mb VI vs x.l.toNat) (mb VI vs x.r.toNat))->opP vs x f bad (evN I N q ins.length nn i vs):=λ{f q} a b e=>by
  have hl:=hx.left a;have hr:=hx.right a b;unfold opP;rw[za7,za7];exact aY hl.1 hl.2 (aY hr.1 hr.2 (ac (by rw[rg hv,rg hv];rfl) (xk (λh=>hb (e.trans h)) (λv h=>hs v q (e.trans h)))))
 unfold evP;refine ah (λe1=> ?_) (λe1=>ah (λe2=> ?_) (λe2=>ah (λe3=> ?_) (λe3=>ah (λe4=> ?_) (λe4=>ah (λe5=> ?_) (λe5=>ah (λe6=> ?_) (λe6=>ah (λe7=> ?_) (λe7=>ah (λe8=> ?_) (λe8=> ?_))))))))
 ·exact hs _ _ (by unfold valF;rw[e1];rfl)
 ·have h:=hx.inp (int_eq.1 e2);rw[za7];exact aY h.1 (by omega) (hs _ _ (by unfold valF;rw[e1,e2];rfl))
 ·exact two (by rw[int_eq.1 e3];decide) (by rw[int_eq.1 e3];decide) (by unfold valF;rw[e1,e2,e3];rfl)
 ·exact two (by rw[int_eq.1 e4];decide) (by rw[int_eq.1 e4];decide) (by unfold valF;rw[e1,e2,e3,e4];rfl)
 ·exact two (by rw[int_eq.1 e5];decide) (by rw[int_eq.1 e5];decide) (by unfold valF;rw[e1,e2,e3,e4,e5];rfl)
 ·exact two (by rw[int_eq.1 e6];decide) (by rw[int_eq.1 e6];decide) (by unfold valF;rw[e1,e2,e3,e4,e5,e6];rfl)
 ·have hp:=hx.pow (int_eq.1 e7);have hl:=hx.left (by rw[int_eq.1 e7];decide)
  have e:valF ins vs x=(match kC (mb VI vs x.l.toNat) (jH x.n).toNat with
   |some v=>bif decide (x.n<0) then okR (cA rI v) else some v
   |none=>none):=by unfold valF;rw[e1,e2,e3,e4,e5,e6,e7];rfl
  have hm:0<=jH x.n/\jH x.n<=4:=by unfold jH;split<;>omega
  unfold P8;rw[za7];refine ac (VP.2 (by omega)) ⟨(0,rI),⟨zat _,hm.1,hm.2,rfl⟩,YZ, ?_⟩;rintro⟨k,v⟩ ⟨k0,k1,_,k2⟩;dsimp only at k0 k1 k2 ⊢;have hvz:=CV k2;refine ah (λhk=> ?_) (λhk=> ?_)
  ·have hk:=zdw hk;refine aY hl.1 hl.2 (ac (by rw[hvz,rg hv];rfl) (xk (λh=>hb ?_) (λw h=> ?_)))
   ·have: ∀m,kC (mb VI vs x.l.toNat) (k.toNat+1+m)=none:=by
     intro m
     induction m with
     |zero=>simp only[zaY,kC,k2,h]
     |succ m ih=>rw[<-zbr,kC,ih]
    have:=this ((jH x.n).toNat - (k.toNat+1));rw[show k.toNat+1+((jH x.n).toNat - (k.toNat+1))=(jH x.n).toNat by omega] at this;rw[e,this]
   ·refine ac (VP.2 (by omega)) ⟨(k+1,w),⟨by show 0<=k+1;omega,by show k+1<=_;omega,hm.2, ?_⟩,by show (_:Nat)<_;omega,YZ⟩;show kC _ (k+1).toNat=some w;rw[show (k+1).toNat=k.toNat+1 by omega,kC,k2];exact h
  ·have hk:=zdx hk;rw[show k.toNat=(jH x.n).toNat by omega] at k2;rw[k2] at e;refine ah (λhneg=> ?_) (λhneg=> ?_)
   ·rw[hneg] at e;exact ac (by rw[hvz];decide) (xk (λh=>hb (e.trans h)) (λw h=>hs w _ (e.trans h)))
   ·rw[hneg] at e;exact hs _ _ e
 ·have hl:=hx.left (by rw[int_eq.1 e8];decide);exact aY hl.1 hl.2 (hb (by unfold valF;rw[e1,e2,e3,e4,e5,e6,e7,e8];rfl))
 ·exact hs _ _ (by unfold valF;rw[e1,e2,e3,e4,e5,e6,e7,e8];rfl)
theorem LR (hx:szN x=true) (hi: ∀u∈ins,uzR u=true) (hv: ∀u∈vs,uzR u=true) (h:valF ins vs x=some v):uzR v=true:=by
 unfold szN at hx;rw[za2] at hx;unfold valF at h;have ok: ∀{r:RS×Int},uzR r.1=true->okR r=some v->uzR v=true:=λh1 h2=>by rw[<-(fq h2).2];exact h1
 cases h1:x.op==1 with
 |true=>rw[h1] at h;simp at h;subst h;exact hx.1
 |false=>
  rw[h1,zds] at h;cases h2:x.op==2 with
  |true=>rw[h2] at h;simp at h;subst h;exact rg hi _
  |false=>
   rw[h2,zds] at h;cases h3:x.op==3 with
   |true=>rw[h3,zdt] at h;exact ok (Lq _ _) h
   |false=>
    rw[h3,zds] at h;cases h4:x.op==4 with
    |true=>rw[h4,zdt] at h;exact ok (Lr _ _) h
    |false=>
     rw[h4,zds] at h;cases h5:x.op==5 with
     |true=>rw[h5,zdt] at h;exact ok (gI _ _) h
     |false=>
      rw[h5,zds] at h;cases h6:x.op==6 with
      |true=>rw[h6,zdt] at h;exact ok (lY _ _) h
      |false=>
       rw[h6,zds] at h;cases h7:x.op==7 with
       |true=>
        rw[h7,zdt] at h;split at h
        ·rename_i w hw;cases hn:decide (x.n<0) with
         |true=>rw[hn,zdt] at h;exact ok (lY _ _) h
         |false=>rw[hn,zds] at h;simp at h;subst h;exact CV hw
        ·cases h
       |false=>
        rw[h7,zds] at h;cases h8:x.op==8 with
        |true=>rw[h8] at h;cases h
        |false=>rw[h8] at h;simp at h;subst h;decide
def evI (ins:List RS) (nod:ze2) (z:EX):Prop:=0<=z.1/\z.1<=nod.length/\z.2.length=z.1.toNat/\(∀u∈z.2,uzR u=true)/\iC ins nod []=iC ins (nod.drop z.1.toNat) z.2
theorem IK {p:Pr} (hsz:aci p=true) (h6:p.inp.length<=1000000) (h7:p.nod.length<=1000000) (hi: ∀u∈ins,uzR u=true) (h8:ins.length<=1000000)
 (hQ:Q (.tup [.agg (gA (bn p ins).1), .val (.int .i64 (bn p ins).2)])):evT (evI ins p.nod) p.nod.length OI p ins Q:=by
 have hsz':=hsz;unfold aci at hsz';simp only[za2,zaf] at hsz';obtain⟨⟨si,sn⟩,so⟩:=hsz';have gl:eR.list ins.length (eR.get ins)=ins:=El.list_get;have bad:bn p ins=(VI,90)->Q LN:=λh=>by rw[h] at hQ;exact hQ
 unfold evT;refine ac (eY hsz h6 h7) λ_ _=> ?_;rw[fN];refine ah (λh=>bad ?_) (λh=>ac (by rw[El.good_get hi];simp[h8]) λ_ _=>ah (λk=>bad ?_) (λk=> ?_))
 ·unfold bn;cases hv:VM p with
  |false=>rfl
  |true=>
   rw[hv] at h;have:(ins.length !=p.inp.length)=true:=by simp at h ⊢;omega
   rw[this];rfl
 ·rw[gl] at k;unfold bn;rw[k,Bool.or_true];rfl
 ·rw[gl] at k;cases hv:VM p with
  |false=>rw[hv] at h;cases h
  |true=>
  rw[hv] at h;have hl:ins.length=p.inp.length:=by simp at h;omega
  obtain⟨hbeg,hnod⟩:=bQ hv;have hc:bn p ins=match iC ins p.nod [] with
   |some vs=>(CU vs,0)
   |none=>(VI,90):=by unfold bn;rw[hv,k,hl];simp
  have hb:=Wb.1 hbeg;refine⟨(0, []),⟨zat _,by show (0:Int)<=_;omega,rfl,λu h=>(by cases h),rfl⟩,⟨⟨rfl,rfl,rfl,rfl,rfl,rfl,rfl,rfl,rfl,trivial⟩,trivial,trivial,rfl,trivial⟩, ?_⟩;rintro⟨i,vs⟩ ⟨k0,k1,k2,k3,k4⟩;simp only at k0 k1 k2 k3 k4;dsimp only;refine ah (λhz=> ?_) (λhz=> ?_)
  ·have hz:i<(p.nod.length:Int):=zdw hz;rw[za7];have hd:p.nod.drop i.toNat=mb noN p.nod i.toNat::p.nod.drop (i+1).toNat:=by
    rw[show (i+1).toNat=i.toNat+1 by omega,zaH (show i.toNat<p.nod.length by omega),bR (zaa _)]
   have hx:=hnod i.toNat (by omega);have hxs:=sn _ (bw (d:=noN) (l:=p.nod) (e:=i.toNat) (by omega));rw[<-k2] at hx;rw[hd,iC] at k4;rw[k2] at hx;refine aY k0 hz (OJ (by rw[<-k2] at hx;rwa[k2] at hx ⊢) hl k3 (λhn=>bad ?_) (λv q hu=> ?_))
   ·rw[hn] at k4;replace k4:iC ins p.nod []=none:=k4;rw[hc,k4]
   ·rw[hu] at k4;replace k4:iC ins p.nod []=iC ins (p.nod.drop (i+1).toNat) (vs++ [v]):=k4;refine LQ (by omega) (ac (VP.2 (by omega)) ⟨(i+1,vs++ [v]),⟨by show 0<=i+1;omega,by show i+1<=_;omega,by simp only[za3,za6];omega, ?_,k4⟩,by show (_:Nat)<_;omega,OH⟩);intro w hw;rcases za8.1 hw with hw|hw
    ·exact k3 w hw
    ·rw[zaj.1 hw];exact LR hxs hi k3 hu
  ·have hz: ¬i<(p.nod.length:Int):=zdx hz;rw[show i.toNat=p.nod.length by omega,zbj,iC] at k4;rw[k4] at hc;replace hc:bn p ins=(CU vs,0):=hc;rw[hc] at hQ;refine ac (VP.2 (by omega)) (aY (by omega) (by omega) ?_);rw[show (0+((vs.length:Int) - 1).toNat)=vs.length - 1 by omega];exact hQ
def zm:MCtr:=λbl nx args=>match args with
 | [s,t]=>match mC bl s,vW bl 2 t with
   |some a,some (b,o,n,c)=>some {X:=Unit,pre:=a.need&&b&&bW n&&eR.good uzR n c,spec:=λ_=>True,out:=λ_=> .tup [.agg (gA (bn a.p (eR.list n c)).1), .val (.int .i64 (bn a.p (eR.list n c)).2)],ex:=λ_=>⟨(),trivial⟩}
   |_,_=>none
 |_=>none
theorem tP: ∀B:Base,GlobB B->VU prog B 21 zm:=eW OF λbl nx args C hk hp=>by
 unfold zm at hk;split at hk
 ·rename_i s t;split at hk
  ·rename_i a b o n c ha hs;simp only[za1] at hk;subst hk;simp only[za2] at hp;obtain⟨⟨⟨hp,rfl⟩,hn⟩,hgood⟩:=hp;obtain⟨s1,s2,s3,s4,s5,s6⟩:=eX (f:=rnF [a.o1,a.o2,o] [] nx) ha hp rfl rfl;obtain⟨t1,t2⟩:=cq (f:=rnF [a.o1,a.o2,o] [] nx) hs hgood;refine⟨[a.o1,a.o2,o], [eU.old a.p.inp,eN.old a.p.nod,eR.old (eR.list n c)], [kB a.p, .slc 2 0 (eR.list n c).length],CT (evI (eR.list n c) a.p.nod) a.p.nod.length OI,6,aw s1 (aw s2 (aw t1 trivial)),bH (by simp[cN,El.old]),cd (by simp[El.old,BK.map]),ar s3 (ar (t2 2 rfl) rfl), ?_⟩;refine lz () trivial rfl (r:= .tup [.agg (gA (bn a.p (eR.list n c)).1), .val (.int .i64 (bn a.p (eR.list n c)).2)]) rfl rfl rfl rfl (by simp[cN,El.old]) rfl ?_;rw[P9];exact IK s4 s5 s6 (El.good_list hgood) (by rw[El.list_length];exact zak hn) rfl
  ·cases hk
 ·cases hk
def LY (n:Nat) (K:Prop):Prop:=af (decide (0<1)&&decide (0+1<=1)&&decide (n<=n)&&decide ((n+1)*256<=140737488355328)&&true) K
theorem xp (h:n<=1000000) (k:K):LY n K:=ac (by
 rw[zdr (zbS),zdr (show 0+1<=1 by omega),zdr (za0 n),zdr (show (n+1)*256<=140737488355328 by omega)];rfl) k
def gv (l:ze2) (v:Nd):zdP:=ald (eN.get l) (λe=>((svN v).drop (e*26)).take 26) l.length 0
variable {e:Nat}
theorem pO {us:ze2} {u:Nd} (he:e<us.length+1):gv us u e=eN.get (us++ [u]) e:=by
 unfold gv ald El.get El.nth;rw[aB];show _=svN (mb noN (us++ [u]) e);rw[aS];by_cases h:e<us.length
 ·rw[zdr h,zdt,if_neg (by omega)];rfl
 ·obtain rfl:e=us.length:=by omega
  rw[zdu h,zds,if_pos rfl,zaJ];rfl
def qv (A:AS) (t:Nat):zdP:=match A.tm t with
 | .v (.ptr i _ _)=>(match A.bl i with
   |some B=>B.get
   |none=>λ_=> [])
 | .v (.slc i _ _)=>(match A.bl i with
   |some B=>B.get
   |none=>λ_=> [])
 |_=>λ_=> []
def ndB (cs:zdM):Bool:=match cs with
 | [.val (.int .i64 _), .val (.string _), .val (.string _), .val (.int .i64 _), .val (.int .i64 _), .val (.int .i64 _), .val (.int .i64 _), .val (.int .i64 _), .val (.int .i64 _), .val (.int .i64 _), .val (.int .i64 _), .val (.int .i64 _), .val (.int .i64 _), .val (.int .i64 _), .val (.int .i64 _), .val (.int .i64 _), .val (.int .i64 _), .val (.string _), .val (.string _), .val (.string _), .val (.string _), .val (.int .i64 _), .val (.int .i64 _), .val (.int .i64 _), .val (.int .i64 _), .val (.int .i64 _)]=>true
 |_=>false
theorem ua (h:ndB cs=true):cs=svN (Vh cs):=by
 unfold ndB at h;split at h
 ·rfl
 ·cases h
theorem yd {g n:Bool} (h:n=true):dC g n=true:=by rw[h];rfl
theorem dW {o:Int} (h:x.op=o):{x with op:=o}=x:=by cases x;simp only at h;rw[h]
def kp (n1 N1:Nat) (g1:zdP) (n2 N2:Nat) (g2:zdP) (u:Un):Bool:=(Nat.ble n1 N1&&Nat.beq 20 20&&true)&&(Nat.ble n2 N2&&Nat.beq 26 26&&true)&&bW n1&&bW n2&&eU.good szB n1 g1&&eN.good szN n2 g2&&szB u
def nIn (n:Int):Nd:=⟨2,VI,noU,n,0,0⟩
theorem uf {n1:Nat} {g1:zdP} {n2:Nat} {g2:zdP} (h1:n1<=1000000) (h2:n2<=1000000) (k1:eU.good szB n1 g1=true) (k2:eN.good szN n2 g2=true) (hu:szB u=true):kp n1 n1 g1 n2 n2 g2 u=true:=by
 unfold kp bW;rw[zae (za0 n1),zae (za0 n2),zae h1,zae h2,k1,k2,hu];rfl
theorem lB:(uzR VI&&szB noU)=true:=by decide
theorem QM (p q:Bool):(bif p then q else false)=(p&&q):=by cases p<;>rfl
theorem QN (p q:Bool):(bif p then true else q)=(p||q):=by cases p<;>rfl
def Jz (us:ze1) (u:Un):zdP:=ald (eU.get us) (λe=>((ci u).drop (e*20)).take 20) us.length 0
theorem Fp (he:e<us.length+1):Jz us u e=eU.get (us++ [u]) e:=by
 unfold Jz ald El.get El.nth;rw[aB];show _=ci (mb noU (us++ [u]) e);rw[aS];by_cases h:e<us.length
 ·rw[zdr h,zdt,if_neg (by omega)];rfl
 ·obtain rfl:e=us.length:=by omega
  rw[zdu h,zds,if_pos rfl,zaJ];rfl
theorem Fy {n:Int} (h: -9223372036854775808<=n/\n<=9223372036854775807) (k:K):af (inR .i64 n) K:=ac (VP.2 h) k
def v9:List FuncId:=
 12::
 zh
theorem zG: ∀f∈v9,V0 prog f:=by
 unfold v9;intro f hf;rcases zai.1 hf with rfl|hf
 ·exact call12
 exact xe f hf
abbrev ug (g:List (FuncId×Ctr)) (ann:zdX) (n:Nat) (f:FuncId) (args:zdM) (K:zdT):Prop:=wq prog (iR v9) (gw g) (gx []) ann n f args (λ_=>none) 0 [] (Go.Sy.okK λr _ _ _=>K r)
variable {g:List (FuncId×Ctr)} {W0:World} {F:FuncId}
theorem kh (h:GOk g) (hg:GlobU W0) (ha:SV.idss args= []) (hr:r.ids= []) (hrun:ug g ann n F args (λs=>s=r)):Go.Sy.Yields prog W0 F args r:=
 eo (λW hb=>mW (h.all W (hg.below hb)) (λ_ _ _ h=>by cases h) zG (by kernel_rfl)) ha hr hrun
theorem Fx (c n:Int) (K:zdT):ug xf noA 3 38 [cI.enc c,cI.enc n] K=vH c n K:=by kernel_rfl
theorem aeD (c n:Int) (K:zdT):ug xf noA 3 12 [cI.enc c,cI.enc n] K=vH c n K:=by kernel_rfl
abbrev Dg:Ctr:=k2 cI cI cI (λc n=>cl c&&decide (0<n)) co
variable {W:World}
theorem uh (hW:GlobU W) (hvc: ∀(c n:Int) (K:zdT),ug xf noA 3 F [cI.enc c,cI.enc n] K=vH c n K):CtrOK prog W F Dg:=bC λc n h=>by
 rw[za2] at h;exact kh WH (ann:=noA) (n:=3) hW de (cI.ids _) (by rw[hvc];exact A6 (K:=λr=>r=_) h.1 (zdw h.2) rfl)
def ui:List (FuncId×Ctr):=
 (12,Dg)::
 (38,Dg)::
 xf
theorem xJ:GOk ui:=
 ((WH
   ).cons (λW hW=>uh hW Fx) call38)
   |>.cons (λW hW=>uh hW aeD) call12
def BL (n:Int):Un:=
 bif co n 7==0 then aT 0 else bif co n 7==1 then aT 2 else bif co n 7==2 then {aT 0 with f:=(⟨#[49]⟩,⟨#[49,48,48,48]⟩)} else
 bif co n 7==3 then(fd (aT 0) (aT 0)).1 else bif co n 7==4 then {aT 4 with s:=0,o:=(⟨#[53,52,54,51]⟩,⟨#[50,48]⟩)} else bif co n 7==5 then aT 4 else(mi (aT 0) (aT 0)).1
def BM (n:Int) (K:zdT):Prop:=
 af (cl n&&decide (0<(7:Int))) (ag (co n 7==0) (K (cU.enc (aT 0))) (ag (co n 7==1) (K (cU.enc (aT 2))) (ag (co n 7==2) (K (cU.enc {aT 0 with f:=(⟨#[49]⟩,⟨#[49,48,48,48]⟩)})) (
 ag (co n 7==3) (K (cU.enc (fd (aT 0) (aT 0)).1)) (ag (co n 7==4) (K (cU.enc {aT 4 with s:=0,o:=(⟨#[53,52,54,51]⟩,⟨#[50,48]⟩)})) (ag (co n 7==5) (K (cU.enc (aT 4))) (K (cU.enc (mi (aT 0) (aT 0)).1))))))))
theorem JF (n:Int) (K:zdT):ug ui noA 3 13 [cI.enc n] K=BM n K:=by kernel_rfl
theorem JG {n:Int} {K:zdT} (h:cl n=true) (k:K (cU.enc (BL n))):BM n K:=by
 unfold BL at k;unfold BM;rw[h];refine ac rfl (ah (λa=> ?_) (λa=>ah (λb=> ?_) (λb=>ah (λc=> ?_) (λc=>ah (λd=> ?_) (λd=>ah (λe=> ?_) (λe=>ah (λf=> ?_) (λf=> ?_)))))))
 ·rw[a] at k;exact k
 ·rw[a,b] at k;exact k
 ·rw[a,b,c] at k;exact k
 ·rw[a,b,c,d] at k;exact k
 ·rw[a,b,c,d,e] at k;exact k
 ·rw[a,b,c,d,e,f] at k;exact k
 ·rw[a,b,c,d,e,f] at k;exact k
def xK:List (FuncId×Ctr):=
 (13,k1 cI cU cl BL)::
 ui
theorem BN:GOk xK:=
 (((xJ
   )
   )
   |>.cons (λW hW=>dD λn h=>kh xJ (ann:=noA) (n:=3) hW eu (cU.ids _) (by rw[JF];exact JG (K:=λr=>r=_) h rfl)) call13
   )
def BO:List (FuncId×Ctr):=
 xK
theorem JJ:GOk BO:=
 BN
def Dh:List (FuncId×Ctr):=
 BO
theorem WJ:GOk Dh:=
 JJ
@[irreducible] def JL (gm:zdZ) (ann:zdX) (n:Nat) (f:FuncId) (args:zdM) (Cs:zdW) (K:Aft):Prop:=
 Ay prog (iR v9) (gw Dh) (gx gm) tL ann n f args (λi=>Cs[i]?) Cs.length [] K
variable {K':Aft}
theorem Q8 {f:FuncId} {K:Aft} (h:JL gm ann n f args Cs K) (hm: ∀r b n w,K r b n w->K' r b n w):JL gm ann n f args Cs K':=by
 unfold JL at h ⊢;exact NiceT.mono (Ea _ _ _ _ _ _ f args _ _ _ (λi hi=>zad hi)) h λr b n w _=>hm r b n w
variable {B:Base}
theorem Qy (hm:MOk gm) (hB:GlobB B):HypD prog B (iR v9) (gw Dh) (gx gm) tL:=
 have h:Hyp prog B (iR v9) (gw Dh) (gx gm):=mW (λp hp=>⟨CtrOK.base λw hw=>(WJ.all w (hB w hw) p hp).1,(WJ.all B.w (hB B.w (Pres.self B)) p hp).2⟩) (λB' s=>hm.all B' (hB.sub s)) zG (by kernel_rfl)
 ⟨h.gam,h.mem,(P2 hm hB).dem,h.ok,h.mixed⟩
variable {k:MCtr}
theorem Sh (hm:MOk gm) (h: ∀(bl:zdO) (nx:Nat) (args:zdM) (C:RC),k bl nx args=some C->C.pre=true->
 ∃(src:zdV) (Cs:zdW) (args0:zdM) (ann:zdX) (n:Nat),yw bl (rnF src [] nx) src Cs/\Kr src Cs/\Far src Cs/\SV.rns (rnF src [] nx) args0=some args/\JL gm ann n F args0 Cs (KB C src Cs nx)):
 ∀B:Base,GlobB B->VU prog B F k:=λB hB=>c8 (λB' hs=>Qy hm (hB.sub hs)) λbl nx args C hk hp=>by
 have:=h bl nx args C hk hp;unfold JL at this;exact this
def evE (a:Addr):Value:= .iface 330 (.pointer (some a))
def GlobE (a:Addr) (w:World):Prop:=GlobU w/\w.cell? ⟨0,0,none⟩=some (evE a)
variable {a:Addr}
theorem GlobE.below {w w':World} (h:GlobE a w) (hb:Below w.heap.size w w'):GlobE a w':=by
 refine⟨h.1.below hb, ?_⟩;rw[hb.cell (p:=⟨0,0,none⟩) (World.block_lt_of_cell? w _ h.2)];exact h.2
def GlobEB (a:Addr) (B:Base):Prop:= ∀w,Pres B w->GlobE a w
theorem GlobEB.gU (h:GlobEB a B):GlobB B:=λw hw=>(h w hw).1
theorem GlobEB.of (h:GlobE a W):GlobEB a W:=λw hw=>h.below hw.below
theorem GlobEB.sub {W:Base} (h:GlobEB a W) (s:SubB B W):GlobEB a B:=λw hw=>h w (s.pres hw)
theorem ahA (w:World):Calls prog 152 #[.bool true] w λe w'=>e= .returned (.tuple #[])/\w'=w:=by
 go_enter func152,ntmps152;go_wp2
 go_end0
 exact⟨rfl,rfl⟩
theorem ai0 (a:Addr) (w:World) (h:w.cell? ⟨0,0,none⟩=some (evE a)):Calls prog 152 #[.bool false] w λe w'=>e= .panicked [{v:=evE a,recovered:=false}]/\w'=w:=by
 go_enter func152,ntmps152;go_wp2;exact⟨rfl,rfl,rfl⟩
theorem afL (v:Value) (w:World):(Extern.ReflectliteType.typeOf #[.iface 330 v]).run prog w= .ok (.iface 301 (.agg #[.pointer (some ⟨9,330,none⟩)])) w:=by kernel_rfl
theorem ac8 (w:World):((Extern.ReflectliteType.method λt=>do Extern.Rtype.noPackHeld "Comparable" t;(λa=>Value.bool a.comparable)<$>typeInfo t) #[.agg #[.pointer (some ⟨9,330,none⟩)]]).run prog w= .ok (.bool true) w:=by kernel_rfl
theorem afM (v:Value) (w:World):(Go.method 471 301 v "Comparable").run prog w= .ok (342,v) w:=by kernel_rfl
theorem ahB:(prog.info? 330).map (·.comparable)=some true:=by kernel_rfl
theorem ahC:(prog.info? 332).map (·.size)=some 1:=by kernel_rfl
theorem ahD (a:Addr) (w:World):Calls prog 214 #[evE a,evE a] w λe w'=>e= .returned (.bool true)/\w'=w:=by
 unfold evE;obtain⟨i,hi,hcmp⟩:=zbE.1 ahB;obtain⟨j,hj,hjs⟩:=zbE.1 ahC;have h8:= @run_callFunc_extern prog 250 _ Extern.ReflectliteType.typeOf func250 (by kernel_rfl) (by kernel_rfl) (by kernel_rfl) (by kernel_rfl);have h32:= @run_callFunc_extern prog 342 _ (Extern.ReflectliteType.method λt=>do Extern.Rtype.noPackHeld "Comparable" t;pure (.bool (<-typeInfo t).comparable)) func342 (by kernel_rfl) (by kernel_rfl) (by kernel_rfl) (by kernel_rfl);have tT:=afL;have cT:=ac8;have mR:=afM;have heq:=run_eql_iface_ptr_same (P:=prog) w a underlying134 underlying330 hi hcmp hj;go_enter func214,ntmps214;go_wp2;refine wp_loop_rounds 1 ?_;rw[rounds_succ];go_wp2;go_ret;exact⟨rfl,rfl⟩
theorem ahE (pv:Value) (w:World):(Instr.typeAssert (.iface 330 pv) 20 134 true).run prog w= .ok (.tuple #[.iface 330 pv, .bool true]) w:=by kernel_rfl
theorem ai1 (w:World):(Instr.typeAssert .nilIface 20 134 true).run prog w= .ok (.tuple #[.nilIface, .bool false]) w:=by kernel_rfl
theorem afN (p q:Addr) (w:World):
 CallsD prog 213 #[.pointer (some p), .pointer (some q)] .returning w λe u' w'=>e= .returned (.tuple #[])/\u'= .returning/\w'=w:=by
 refine callsD_of_wpS func213 rfl λc₀ cs hu=> ?_;apply wpS_seq;apply wpS_region;simp[wpOpsS,go_sem,recoverD,hu,ntmps213,Exit.thenS,ai1];apply wpS_seq;apply wpS_region;simp[wpOpsS,go_sem,Exit.thenS];refine wpS_cond (t:=false) (by simp[Act.eval]) ?_;simp only[zbo,if_false];refine wpS_of_wp (wp_skip ?_);cases c₀
 simp_all [bodyPostS,results,results213]
def wE (w:World):World:=w.alloc (.cells #[.string ⟨#[]⟩, .string ⟨#[]⟩, .string ⟨#[]⟩, .string ⟨#[]⟩] 71)
def es:Value:= .string ⟨#[]⟩
theorem acW (b o c k:Nat) (a:Addr) (older:List PanicEntry) (w:World) {x0 x1 x2 x3 y:Value} (hE:w.cell? ⟨0,0,none⟩=some (evE a)) (hb:b<w.heap.size) (hc:c<w.heap.size) (hbc:b≠c)
 (h0:w.cell? ⟨b,o,none⟩=some x0) (h1:w.cell? ⟨b,o+1,none⟩=some x1) (h2:w.cell? ⟨b,o+2,none⟩=some x2) (h3:w.cell? ⟨b,o+3,none⟩=some x3) (hy:w.cell? ⟨c,k,none⟩=some y)
 (f0:w.frozen? ⟨b,o,none⟩=false) (f1:w.frozen? ⟨b,o+1,none⟩=false) (f2:w.frozen? ⟨b,o+2,none⟩=false) (f3:w.frozen? ⟨b,o+3,none⟩=false) (fy:w.frozen? ⟨c,k,none⟩=false):
 CallsD prog 213 #[.pointer (some ⟨b,o,none⟩), .pointer (some ⟨c,k,none⟩)] (.panicking ({v:=evE a,recovered:=false}::older)) w λe u' w'=>
  e= .returned (.tuple #[])/\u'= .panicking ({v:=evE a,recovered:=true}::older)/\w'=((wE w).setCells b o [es,es,es,es]).setCell ⟨c,k,none⟩ (.int .i64 50):=by
 unfold evE at*
 refine callsD_of_wpS func213 rfl λc₀ cs hu=> ?_;apply wpS_seq;apply wpS_region;simp[wpOpsS,go_sem,recoverD,hu,ntmps213,Exit.thenS,ahE];apply wpS_seq;apply wpS_region;simp[wpOpsS,go_sem,Exit.thenS,hE];refine(ahD a w).mono ?_;rintro e w1 ⟨rfl,rfl⟩;dsimp only;refine wpS_cond (t:=true) (by simp[Act.eval]) ?_;simp only[if_true];apply wpS_seq;apply wpS_region;simp[wpOpsS,go_sem,Exit.thenS];apply wpS_region;show wpOpsS _ _ _ _ _ _ (wE w1);have n0:(wE w1).cell? ⟨w1.heap.size,0,none⟩=some es:=by unfold wE;rw[World.cell?_alloc_new];rfl
 have n1:(wE w1).cell? ⟨w1.heap.size,1,none⟩=some es:=by unfold wE;rw[World.cell?_alloc_new];rfl
 have n2:(wE w1).cell? ⟨w1.heap.size,2,none⟩=some es:=by unfold wE;rw[World.cell?_alloc_new];rfl
 have n3:(wE w1).cell? ⟨w1.heap.size,3,none⟩=some es:=by unfold wE;rw[World.cell?_alloc_new];rfl
 have old: ∀{d j:Nat} {x:Value},d<w1.heap.size->w1.cell? ⟨d,j,none⟩=some x->(wE w1).cell? ⟨d,j,none⟩=some x:=λhd h=>by unfold wE;rw[World.cell?_alloc_lt (h:=hd)];exact h
 have fro: ∀{d j:Nat},d<w1.heap.size->w1.frozen? ⟨d,j,none⟩=false->(wE w1).frozen? ⟨d,j,none⟩=false:=λhd h=>by unfold wE;rw[World.frozen?_alloc_old (h:=Nat.ne_of_lt hd)];exact h
 have m0:=old hb h0;have m1:=old hb h1;have m2:=old hb h2;have m3:=old hb h3;have my:=old hc hy;have g0:=fro hb f0;have g1:=fro hb f1;have g2:=fro hb f2;have g3:=fro hb f3;have gy:=fro hc fy;generalize wE w1=w2 at*
 generalize w1.heap.size=sz at*
 have q1:(w2.setCell ⟨b,o,none⟩ es).cell? ⟨b,o+1,none⟩=some x1:=by rw[World.cell?_setCell_other (h:=by simp)];exact m1
 have q2:((w2.setCell ⟨b,o,none⟩ es).setCell ⟨b,o+1,none⟩ es).cell? ⟨b,o+2,none⟩=some x2:=by rw[World.cell?_setCell_other (h:=by simp),World.cell?_setCell_other (h:=by simp)];exact m2
 have q3:(((w2.setCell ⟨b,o,none⟩ es).setCell ⟨b,o+1,none⟩ es).setCell ⟨b,o+2,none⟩ es).cell? ⟨b,o+3,none⟩=some x3:=by rw[World.cell?_setCell_other (h:=by simp),World.cell?_setCell_other (h:=by simp),World.cell?_setCell_other (h:=by simp)];exact m3
 have q4:((((w2.setCell ⟨b,o,none⟩ es).setCell ⟨b,o+1,none⟩ es).setCell ⟨b,o+2,none⟩ es).setCell ⟨b,o+3,none⟩ es).cell? ⟨c,k,none⟩=some y:=by
  rw[World.cell?_setCell_other (h:=by simp[hbc]),World.cell?_setCell_other (h:=by simp[hbc]),World.cell?_setCell_other (h:=by simp[hbc]),World.cell?_setCell_other (h:=by simp[hbc])];exact my
 simp only[es] at*
 simp[wpOpsS,go_sem,Exit.thenS,n0,n1,n2,n3,m0,q1,q2,q3,q4,g0,g1,g2,g3,gy,bodyPostS,results,results213,World.setCells]
def ahF (n:Nat):Option Blk->Bool
 |some B=>Nat.beq B.n 1&&(Nat.beq B.sz n&&(match B.kd with
  | .own=>true
  |_=>false))
 |none=>false
def ai2 (bl:zdO) (i:Nat) (cs:zdM):Nat×Blk:=(i,match bl i with
 |some B=>B.put 0 0 cs
 |none=>{n:=0,sz:=0,get:=λ_=> [],kd:= .gone})
def agB (a:Addr):DCtr:=λm bl args=>match args with
 | [.ptr i 0 0, .ptr j 0 0]=>match m with
   |none=>some (true,none, [])
   |some (.iface t (.pointer (some b)))=>some (Nat.beq t 330&&(decide (b=a)&&(!Nat.beq i j&&(ahF 4 (bl i)&&ahF 1 (bl j)))),none, [ai2 bl j [.val (.int .i64 50)],ai2 bl i (yl noI)])
   |_=>none
 |_=>none
theorem ado {o:Option Blk} (h:ahF n o=true): ∃B,o=some B/\B.n=1/\B.sz=n/\B.kd= .own:=by
 cases o with
 |none=>cases h
 |some B=>
  simp only[ahF,za2] at h;obtain⟨h1,h2,h3⟩:=h;exact⟨B,rfl,zab h1,zab h2,by revert h3;cases B.kd<;>simp⟩
theorem agC (a:Addr) (B:Base) (hB:GlobEB a B):Wz prog B 213 (agB a):=by
 intro m bl β w args m' ch hbc hlv hk hch;refine⟨call213, ?_⟩;unfold agB at hk;split at hk
 ·rename_i i j;split at hk
  ·simp only[za1,zag,true_and] at hk;obtain⟨rfl,rfl⟩:=hk;refine(afN (addr β i 0 0) (addr β j 0 0) w).mono ?_;rintro e u' w' ⟨rfl,rfl,rfl⟩;exact⟨⟨_,rfl⟩,rfl,hbc⟩
  ·rename_i t b;simp only[za1,zag,za2,zdv,zap] at hk;obtain⟨⟨h1,rfl,h3,h4,h5⟩,rfl,rfl⟩:=hk;have h1:=zab h1;subst h1;obtain⟨C,hC,c1,c2,c3⟩:=ado h4;obtain⟨D,hD,d1,d2,d3⟩:=ado h5;have hij:i≠j:=λe=>by rw[e,bS] at h3;simp at h3
   have q:=hbc.blk i C hC (by rw[c3];simp);have r:=hbc.blk j D hD (by rw[d3];simp);have qn:=q.not_nil (e:=0) (by omega);have rn:=r.not_nil (e:=0) (by omega);have qlt:=q.lt qn;have rlt:=r.lt rn;have hne:(β i).blk≠(β j).blk:=λe=>hij (hbc.inj i j C D hC hD c3 d3 qn rn e);have qc: ∀k,k<4-> ∃x,w.cell? ⟨(β i).blk,(β i).off+k,none⟩=some x/\w.frozen? ⟨(β i).blk,(β i).off+k,none⟩=false:=λk hk=>by
    have hin:k<(β i).cap*C.sz:=by
     rw[c2];have:=q.le;have:1<=(β i).cap:=by omega
     omega
    obtain⟨x,hx⟩:=Option.isSome_iff_exists.1 (q.ex k hin);exact⟨x,hx,q.fr c3 k hin⟩
   have rin:0<(β j).cap*D.sz:=by
    rw[d2];have:=r.le;omega
   obtain⟨x0,e0,f0⟩:=qc 0 (by decide);obtain⟨x1,e1,f1⟩:=qc 1 (by decide);obtain⟨x2,e2,f2⟩:=qc 2 (by decide);obtain⟨x3,e3,f3⟩:=qc 3 (by decide);obtain⟨y,ey⟩:=Option.isSome_iff_exists.1 (r.ex 0 rin);have fy:=r.fr d3 0 rin;have ei:addr β i 0 0=⟨(β i).blk,(β i).off,none⟩:=by simp[addr]
   have ej:addr β j 0 0=⟨(β j).blk,(β j).off,none⟩:=by simp[addr]
   have key:=acW (β i).blk (β i).off (β j).blk (β j).off b [] w (hB w hbc.below).2 qlt rlt hne e0 e1 e2 e3 ey f0 f1 f2 f3 fy;rw[<-ei,<-ej] at key;refine key.mono ?_;rintro e u' w' ⟨rfl,rfl,rfl⟩;refine⟨⟨_,rfl⟩,rfl, ?_⟩;have s1:BC B bl β (wE w):=hbc.step (by unfold wE;exact(zdF _ w).alloc (za0 _) _);have s2:=s1.write hC c3 (e:=0) (o:=0) (cs:=yl noI) (by omega) (by show 0+4<=_;omega) (by simp[yl,Live,SV.ids]);have s3:=s2.write (id:=j) (B:=D) (by rw[ak (Ne.symm hij)];exact hD) d3 (e:=0) (o:=0) (cs:= [.val (.int .i64 50)]) (by omega) (by simp;omega) (by simp[Live,SV.ids]);have w1:(wE w).setCells (β i).blk ((β i).off+0*(β i).sz+0) (SV.concs β (yl noI))=(wE w).setCells (β i).blk (β i).off [es,es,es,es]:=by
    rw[zcE,zaY];rfl
   rw[w1] at s3;have w2: ∀v:World,v.setCells (β j).blk ((β j).off+0*(β j).sz+0) (SV.concs β [.val (.int .i64 50)])=v.setCell (addr β j 0 0) (.int .i64 50):=λv=>by
    simp[addr,SV.concs,SV.conc,World.setCells]
   rw[w2] at s3;simp only[chB,ai2,hC,hD];exact s3
  ·cases hk
 ·cases hk
def ai3 (a:Addr):MCtr:=λ_ _ args=>match args with
 | [.val (.bool true)]=>some {X:=Unit,pre:=true,spec:=λ_=>True,out:=λ_=> .tup [],ex:=λ_=>⟨(),trivial⟩}
 | [.val (.bool false)]=>some {X:=Unit,pre:=true,spec:=λ_=>True,out:=λ_=> .tup [],pan:=λ_=>some (evE a),ex:=λ_=>⟨(),trivial⟩}
 |_=>none
theorem ahG (hB:GlobEB a B):VU prog B 152 (ai3 a):=by
 intro bl β w nx args C hbc hit hnx hlv hk hp;unfold ai3 at hk;split at hk
 ·simp only[za1] at hk;subst hk;refine(ahA w).mono ?_;rintro e w' ⟨rfl,rfl⟩;exact⟨(),trivial,β,by show _=_;simp[SV.conc,SV.concs],abx hbc hnx (by simp[SV.ids,SV.idss]) (zdF _ _)⟩
 ·simp only[za1] at hk;subst hk;refine(ai0 a w (hB w hbc.below).2).mono ?_;rintro e w' ⟨rfl,rfl⟩;obtain⟨g1,g2,_⟩:=abx (s:= .tup []) hbc hnx (by simp[SV.ids,SV.idss]) (zdF _ w');exact⟨(),trivial,β,rfl,g1,g2,trivial⟩
 ·cases hk
def aeE:List FuncId:=
 157::
 150::
 147::
 93::
 84::
 146::
 153::
 87::
 151::
 86::
 149::
 88::
 92::
 160::
 90::
 155::
 85::
 148::
 82::
 152::
 145::
 213::
 215::
 216::
 159::
 158::
 156::
 154::
 266::
 174::
 225::
 33::
 81::
 89::
 91::
 35::
 34::
 268::
 172::
 163::
 99::
 227::
 97::
 83::
 144::
 253::
 252::
 170::
 95::
 267::
 226::
 101::
 169::
 217::
 100::
 171::
 5::
 3::
 6::
 4::
 24::
 11::
 23::
 32::
 12::
 10::
 8::
 7::
 9::
 30::
 20::
 v9
theorem ae8: ∀f∈aeE,V0 prog f:=by
 unfold aeE;simp only[zc3]
 exact⟨
  call157,
  call150,
  call147,
  call93,
  call84,
  call146,
  call153,
  call87,
  call151,
  call86,
  call149,
  call88,
  call92,
  call160,
  call90,
  call155,
  call85,
  call148,
  call82,
  call152,
  call145,
  call213,
  call215,
  call216,
  call159,
  call158,
  call156,
  call154,
  call266,
  call174,
  call225,
  call33,
  call81,
  call89,
  call91,
  call35,
  call34,
  call268,
  call172,
  call163,
  call99,
  call227,
  call97,
  call83,
  call144,
  call253,
  call252,
  call170,
  call95,
  call267,
  call226,
  call101,
  call169,
  call217,
  call100,
  call171,
  call5,
  call3,
  call6,
  call4,
  call24,
  call11,
  call23,
  call32,
  call12,
  call10,
  call8,
  call7,
  call9,
  call30,
  call20,
  zG⟩
structure GEk (g:List (FuncId×Ctr)):Prop where
 all: ∀(a:Addr) (W:World),GlobE a W-> ∀p∈g,CtrOK prog W p.1 p.2/\V0 prog p.1
theorem GEk.of (h:GOk g):GEk g:=⟨λ_ W hW=>h.all W hW.1⟩
theorem GEk.cons {c:Ctr} (h:GEk g) (k: ∀(a:Addr) (W:World),GlobE a W->CtrOK prog W F c) (hc:V0 prog F):GEk ((F,c)::g):=⟨λa W hW p hp=>by
 rcases zai.1 hp with rfl|hp
 ·exact⟨k a W hW,hc⟩
 ·exact h.all a W hW p hp⟩
structure MEk (a:Addr) (gm:List (FuncId×MCtr)):Prop where
 all: ∀B:Base,GlobEB a B-> ∀p∈gm,VU prog B p.1 p.2
theorem MEk.nil:MEk a []:=⟨λ_ _ _ h=>by cases h⟩
theorem MEk.of (h:MOk gm):MEk a gm:=⟨λB hB=>h.all B hB.gU⟩
theorem MEk.cons (h:MEk a gm) (hk: ∀B:Base,GlobEB a B->VU prog B F k):MEk a ((F,k)::gm):=⟨λB hB p hp=>by
 rcases zai.1 hp with rfl|hp
 ·exact hk B hB
 ·exact h.all B hB p hp⟩
def dF (a:Addr):FuncId->Option DCtr:=λf=>bif Nat.beq f 213 then some (agB a) else tL f
theorem ac9 (hg:GEk g) (hm:MEk a gm) (hB:GlobEB a B):HypD prog B (iR aeE) (gw g) (gx gm) (dF a):=
 have h:Hyp prog B (iR aeE) (gw g) (gx gm):=mW (λp hp=>⟨CtrOK.base λw hw=>(hg.all a w (hB w hw) p hp).1,(hg.all a B.w (hB B.w (Pres.self B)) p hp).2⟩) (λB' s=>hm.all B' (hB.sub s)) ae8 (by kernel_rfl)
 ⟨h.gam,h.mem,λB' s f k hk=>by
   unfold dF at hk;cases hf:Nat.beq f 213 with
   |true=>
    rw[hf] at hk;simp only[zdt,za1] at hk;subst hk;rw[zab hf];exact agC a B' (hB.sub s)
   |false=>
    rw[hf,zds] at hk
    exact(P2 MOk.nil hB.gU).dem B' s f k hk,h.ok,h.mixed⟩
abbrev acb (a:Addr) (g:List (FuncId×Ctr)) (gm:zdZ) (ann:zdX) (n:Nat) (f:FuncId) (args:zdM) (K:zdT):Prop:=wn prog (iR aeE) (gw g) (gx gm) (dF a) ann n f args (λ_=>none) 0 [] (Go.Sy.okK λr _ _ _=>K r)
theorem l0 (h:GEk g) (hm:MEk a gm) (hg:GlobE a W0) (hargs:SV.idss args= []) (hr:r.ids= []) (hrun:acb a g gm ann n F args (λs=>s=r)):Go.Sy.Yields prog W0 F args r:=by
 intro β w hb
 obtain⟨_,hc⟩:=mV (ac9 h hm (GlobEB.of (hg.below hb))) ann n F args (λ_=>none) 0 [] _ β w hrun (sP w β) (λ_ _=>rfl) (λs hs i hi=>by
  have:i∈SV.idss args:=SV.mem_idss.2 ⟨s,hs,hi⟩
  rw[hargs] at this;cases this)
 refine Calls.mono hc ?_;rintro e w' ⟨β',s,bl',nx',wl',he,hk,hbc,_⟩;cases s with
 |pan v=>exact hk.elim
 |ok s=>
 obtain rfl:e=_:=he;obtain rfl:s=_:=hk;exact⟨by rw[SV.conc_congr s (β:=β) (β':=β') (λi hi=>by rw[hr] at hi;cases hi)],hbc.below.below⟩
theorem acX {g n:Bool} (h:n=true) (k:K):af (dC g n) K:=ac (by rw[h];cases g<;>rfl) k
def akf (x:Iv) (K:zdT):Prop:=
 af (uzR x.1) (af (dC (rV x.1) (uzR x.2)) (af (dC (bif rV x.1 then rV x.2 else false) (uzR x.1&&uzR x.2)) (K (cB.enc (bif (bif rV x.1 then rV x.2 else false) then decide (b9 x.1 x.2<=0) else false)))))
theorem ai4 (a:Addr) (x:Iv) (K:zdT):acb a Dh [] noA 6 82 [cIv.enc x] K=akf x K:=by kernel_rfl
theorem alu {x:Iv} (h:uzI x=true):uzR x.1=true/\uzR x.2=true:=by unfold uzI at h;simpa using h
theorem afO {x:Iv} {K:zdT} (h:uzI x=true) (k:K (cB.enc (vI x))):akf x K:=by
 obtain⟨h1,h2⟩:=alu h;refine ac h1 (acX h2 (acX (by rw[h1,h2];rfl) ?_));have e:(bif (bif rV x.1 then rV x.2 else false) then decide (b9 x.1 x.2<=0) else false)=vI x:=by unfold vI;cases rV x.1<;>cases rV x.2<;>rfl
 rw[e];exact k
theorem agD:GEk Dh:=GEk.of WJ
def gV1:List (FuncId×Ctr):=(82,k1 cIv cB uzI vI)::Dh
theorem ae9:GEk gV1:=agD.cons (λa W hW=>dD λx h=>l0 agD (MEk.nil (a:=a)) hW (ann:=noA) (n:=6) eu (cB.ids _) (by rw[ai4];exact afO (K:=λr=>r=_) h rfl)) call82
def aiG (x:Iv) (r:RS) (K:zdT):Prop:=
 af (uzI x) (af (dC (vI x) (uzR r)) (af (dC (bif vI x then rV r else false) (uzR x.1&&uzR r)) (af (dC (bif (bif vI x then rV r else false) then decide (b9 x.1 r<=0) else false) (uzR r&&uzR x.2))
  (K (cB.enc (bif (bif (bif vI x then rV r else false) then decide (b9 x.1 r<=0) else false) then decide (b9 r x.2<=0) else false))))))
theorem ahH (a:Addr) (x:Iv) (r:RS) (K:zdT):acb a gV1 [] noA 6 153 [cIv.enc x,cR.enc r] K=aiG x r K:=by kernel_rfl
theorem aeF {x:Iv} {r:RS} {K:zdT} (h:uzI x=true) (hr:uzR r=true) (k:K (cB.enc (ad2 x r))):aiG x r K:=by
 obtain⟨h1,h2⟩:=alu h;refine ac h (acX hr (acX (by rw[h1,hr];rfl) (acX (by rw[hr,h2];rfl) ?_)));have e:(bif (bif (bif vI x then rV r else false) then decide (b9 x.1 r<=0) else false) then decide (b9 r x.2<=0) else false)=ad2 x r:=by
  unfold ad2;cases vI x<;>cases rV r<;>cases decide (b9 x.1 r<=0)<;>rfl
 rw[e];exact k
def ak0 (r:RS) (K:zdT):Prop:=af (uzR r) (ag (!rV r) (K (cIv.enc noI)) (K (cIv.enc (r,r))))
theorem ai5 (a:Addr) (r:RS) (K:zdT):acb a Dh [] noA 6 88 [cR.enc r] K=ak0 r K:=by kernel_rfl
def gV2:List (FuncId×Ctr):=(153,k2 cIv cR cB (λx r=>uzI x&&uzR r) ad2)::(88,k1 cR cIv uzR ptI)::gV1
theorem aiH:GEk gV2:=
 (ae9.cons (λa W hW=>dD λr h=>l0 agD (MEk.nil (a:=a)) hW (ann:=noA) (n:=6) eu (cIv.ids _) (by
     rw[ai5];refine ac h (ah (λe=> ?_) (λe=> ?_))
     ·unfold ptI;rw[show rV r=false by simpa using e];rfl
     ·unfold ptI
      rw[show rV r=true by simpa using e];rfl)) call88).cons
   (λa W hW=>bC λx r h=>by
     rw[za2] at h
     exact l0 ae9 (MEk.nil (a:=a)) hW (ann:=noA) (n:=6) de (cB.ids _) (by rw[ahH];exact aeF (K:=λr=>r=_) h.1 h.2 rfl)) call153
@[irreducible] def XC (a:Addr) (g:List (FuncId×Ctr)) (gm:zdZ) (ann:zdX) (n:Nat) (f:FuncId) (args:zdM) (Cs:zdW) (K:Aft):Prop:=
 Ay prog (iR aeE) (gw g) (gx gm) (dF a) ann n f args (λi=>Cs[i]?) Cs.length [] K
theorem afP {f:FuncId} {K:Aft} (h:XC a g gm ann n f args Cs K) (hm: ∀r b n w,K r b n w->K' r b n w):XC a g gm ann n f args Cs K':=by
 unfold XC at h ⊢;exact NiceT.mono (Ea _ _ _ _ _ _ f args _ _ _ (λi hi=>zad hi)) h λr b n w _=>hm r b n w
theorem agE (hg:GEk g) (hm:MEk a gm) (h: ∀(bl:zdO) (nx:Nat) (args:zdM) (C:RC),k bl nx args=some C->C.pre=true->
 ∃(src:zdV) (Cs:zdW) (args0:zdM) (ann:zdX) (n:Nat),yw bl (rnF src [] nx) src Cs/\Kr src Cs/\Far src Cs/\SV.rns (rnF src [] nx) args0=some args/\XC a g gm ann n F args0 Cs (KB C src Cs nx)):
 ∀B:Base,GlobEB a B->VU prog B F k:=λB hB=>c8 (λB' hs=>ac9 hg hm (hB.sub hs)) λbl nx args C hk hp=>by
 have:=h bl nx args C hk hp;unfold XC at this;exact this
theorem kbE {f:FuncId} (x:C.X) (hx:C.spec x) (h1:C.pan x=none) (h2:r.ids= []) (h3:C.out x=r) (h4:C.nw x= []) (h5:C.ch x= []) (h6: ∀C∈Cs,cN C.kd=false) (hl:src.length=Cs.length)
 (h:XC a g gm ann n f args Cs (Go.Sy.okK λs _ _ _=>s=r)):XC a g gm ann n f args Cs (KB C src Cs nx):=afP h λq b m w hq=>by
 cases q with
 |pan v=>exact hq.elim
 |ok s=>
  obtain rfl:s=r:=hq;exact IG x hx h1 h2 h3 h4 h5 h6 hl
def gMn:List (FuncId×Ctr):= [(110,k2 cR cR cI (λa b=>uzR a&&uzR b) b9)]
theorem akg:GEk gMn:=(GEk.of GOk.nil).cons (λa W hW=>(Li hW.1 (110,k2 cR cR cI (λa b=>uzR a&&uzR b) b9) (by simp[qH])).1) call110
def adp (t:RS->RS->Bool):List RS->RS->(zdT)->Prop
 | [],m,K=>K (cR.enc m)
 |x::r,m,K=>af (uzR x&&uzR m) (ag (t x m) (adp t r x K) (adp t r m K))
theorem ahI (a:Addr) (p q r s:RS) (K:zdT):XC a gMn [] noA 5 252 [.slc 0 0 4, .fn (.func 110) [] []] [eR.old [p,q,r,s]] (Go.Sy.okK λr _ _ _=>K r)=adp (λx m=>decide (b9 x m<0)) [q,r,s] p K:=by kernel_rfl
theorem ahJ (a:Addr) (p q r s:RS) (K:zdT):XC a gMn [] noA 5 253 [.slc 0 0 4, .fn (.func 110) [] []] [eR.old [p,q,r,s]] (Go.Sy.okK λr _ _ _=>K r)=adp (λx m=>decide (b9 x m>0)) [q,r,s] p K:=by kernel_rfl
def R7 (t:RS->RS->Bool):List RS->RS->RS
 | [],m=>m
 |x::r,m=>R7 t r (bif t x m then x else m)
theorem ad5: ∀(l:List RS) (m:RS),R7 (λx m=>decide (b9 x m<0)) l m=aey l m
 | [],m=>rfl
 |x::r,m=>ad5 r _
theorem ad6: ∀(l:List RS) (m:RS),R7 (λx m=>decide (b9 x m>0)) l m=aez l m
 | [],m=>rfl
 |x::r,m=>ad6 r _
theorem acY {t:RS->RS->Bool} {K:zdT}: ∀{l:List RS} {m:RS},(∀x∈l,uzR x=true)->uzR m=true->K (cR.enc (R7 t l m))->adp t l m K
 | [],m,_,_,k=>k
 |x::r,m,hl,hm,k=>by
  have hx:=hl x (by simp);have hr: ∀y∈r,uzR y=true:=λy hy=>hl y (by simp[hy]);refine ac (by rw[hx,hm];rfl) (ah (λh=>acY hr hx ?_) (λh=>acY hr hm ?_))
  ·rw[R7,h] at k;exact k
  ·rw[R7,h] at k;exact k
def adD (t:RS->RS->Bool):MCtr:=λbl _ args=>match args with
 | [s, .fn (.func g) [] []]=>match vW bl 2 s with
   |some (b,_,n,c)=>some {X:=Unit,pre:=Nat.beq g 110&&b&&Nat.beq n 4&&eR.good uzR n c,spec:=λ_=>True,out:=λ_=>cR.enc (R7 t [NH (c 1),NH (c 2),NH (c 3)] (NH (c 0))),ex:=λ_=>⟨(),trivial⟩}
   |none=>none
 |_=>none
theorem adq {t:RS->RS->Bool} (hvc: ∀(p q r s:RS) (K:zdT),XC a gMn [] noA 5 F [.slc 0 0 4, .fn (.func 110) [] []] [eR.old [p,q,r,s]] (Go.Sy.okK λr _ _ _=>K r)=adp t [q,r,s] p K):
 ∀B:Base,GlobEB a B->VU prog B F (adD t):=agE akg MEk.nil λbl nx args C hk hp=>by
 unfold adD at hk;split at hk
 ·rename_i s g;split at hk
  ·rename_i b o n c hs;simp only[za1] at hk;subst hk;simp only[za2] at hp;obtain⟨⟨⟨hg,rfl⟩,hn⟩,hgood⟩:=hp;obtain rfl:=zab hg;obtain rfl:=zab hn;obtain⟨t1,t2⟩:=cq (f:=rnF [o] [] nx) hs hgood;have hl:eR.list 4 c= [NH (c 0),NH (c 1),NH (c 2),NH (c 3)]:=rfl;have gl:=El.good_list hgood;rw[hl] at gl t1 t2;refine⟨[o], [eR.old [NH (c 0),NH (c 1),NH (c 2),NH (c 3)]], [.slc 0 0 4, .fn (.func 110) [] []],noA,5,aw t1 trivial,bH (by simp[cN,El.old]),cd (by simp[El.old,BK.map]),ar (t2 0 rfl) rfl, ?_⟩;refine kbE () trivial rfl (r:=cR.enc (R7 t [NH (c 1),NH (c 2),NH (c 3)] (NH (c 0)))) (cR.ids _) rfl rfl rfl (by simp[cN,El.old]) rfl ?_;rw[hvc];exact acY (λx hx=>gl x (zan _ hx)) (gl _ (by simp)) rfl
  ·cases hk
 ·cases hk
theorem afQ (n:Nat) (l:zdK):val 10 (List.replicate n 0++l)=10^n*val 10 l:=by
 have e0: ∀n,val 10 (List.replicate n 0)=0:=by
  intro n
  induction n with
  |zero=>rfl
  |succ n ih=>rw[zce,val,ih]
 rw[alj,e0,zcx,za7]
def afR (p:Nat):zdJ:=⟨(49::List.replicate p 48).toArray⟩
theorem adr (p:Nat):(afR p).data.toList=49::List.replicate p 48:=rfl
theorem ads (p:Nat):body (49::List.replicate p 48)=49::List.replicate p 48:=by simp[body]
theorem afa {p:Nat} (h:p<200):vS (afR p)=true:=by
 unfold vS;rw[adr];refine Nq ?_ ?_ ?_ ?_<;>rw[ads]
 ·simp
 ·simp;omega
 ·intro c hc;rcases zai.1 hc with h|h
  ·subst h;decide
  ·rw[List.eq_of_mem_replicate h];decide
 ·right;simp
theorem afb (p:Nat):nS (afR p)=ten p:=by
 unfold nS ten;rw[adr];unfold toI;rw[if_neg (by simp),ads]
 congr 1
 unfold bm;rw[List.reverse_cons,zb8,List.reverse_replicate,List.map_replicate,show dv 48=0 from rfl,afQ];simp[val,show dv 49=1 from rfl]
theorem afc {p:Nat} (h:p<200):ofI (ten p)=afR p:=by rw[<-afb,jc (afa h)]
def lR (r:RS) (p:Int) (up:Bool):RS×Int:=if rV r&&decide (0<=p/\p<=30)&&aq (nS r.1*ten p.toNat) then
 rMk (if up&&decide (nS r.1*ten p.toNat%nS r.2≠0) then nS r.1*ten p.toNat / nS r.2+1 else nS r.1*ten p.toNat / nS r.2) (ten p.toNat) else(noR,40)
theorem ad7 (r:RS) (p:Int):lR r p false=acv r p:=by unfold lR acv;simp
theorem afS (r:RS) (p:Int):lR r p true=rUp r p:=by
 unfold lR rUp;split
 ·congr 1
  by_cases h:nS r.1*ten p.toNat%nS r.2=0<;>simp[h]
 ·rfl
theorem ai6 {n d:zdJ} (hn:vS n=true) (hd:vS d=true) (h0:0<nS d):vS (ofI (nS n / nS d))=true/\vS (ofI (nS n%nS d))=true:=by
 have e1:=cD n;have e2:=cD d;refine⟨gj ?_,gj ?_⟩
 ·rw[e1,e2];exact lS (by omega) (br hn) _ _
 ·rw[e1,e2];exact lT (by omega) (br hd) _ _
def agF (k:Nat):zdJ:=⟨(List.replicate k 48).toArray⟩
def ai7:List FuncId:=219::161::162::NV
theorem ahK: ∀f∈ai7,V0 prog f:=by
 unfold ai7;simp only[zc3];exact⟨call219,call161,call162,KM⟩
abbrev SX (g:List (FuncId×Ctr)) (n:Nat) (f:FuncId) (args:zdM) (K:zdT):Prop:=wq prog (iR ai7) (gw g) (gx []) noA n f args (λ_=>none) 0 [] (Go.Sy.okK λr _ _ _=>K r)
theorem acJ (h:GOk g) (hg:GlobU W0) (ha:SV.idss args= []) (hr:r.ids= []) (hrun:SX g n F args λs=>s=r):Go.Sy.Yields prog W0 F args r:=
 eo (λW hb=>mW (h.all W (hg.below hb)) (λ_ _ _ h=>by cases h) ahK (by kernel_rfl)) ha hr hrun
abbrev ai8:Ctr:=k2 cS cI cS (λs p=>seq s ⟨#[48]⟩&&decide (0<=p)&&decide (p<=30)) (λ_ p=>agF p.toNat)
theorem afd:CtrOK prog W 217 ai8:=bC λs p h=>by
 simp only[za2,zdv] at h;obtain rfl:=We.1 h.1.1;intro β w hb;refine(AI p w h.1.2 (by omega)).mono ?_;rintro e w' ⟨rfl,h2⟩;exact⟨rfl,h2⟩
def gD1:List (FuncId×Ctr):= [(51,k1 cR cB uzR rV)]
def gD2:List (FuncId×Ctr):= [(51,k1 cR cB (λa=>uzR a&&rV a) λ_=>true),(217,ai8),(137,k2 cS cS cSI (λa b=>pS2 a b&& !aq (nS a*nS b)) λ_ _=>(⟨#[]⟩,30))]
def gD3:List (FuncId×Ctr):=(217,ai8)::wS
def bd9 (p:Int):Bool:=bif decide (p<0) then true else decide (p>30)
def ai9 (r:RS) (p:Int) (K:zdT):Prop:=af (dC (!bd9 p) (uzR r)) (af (bif bd9 p then true else !rV r) (K uD))
theorem agG (r:RS) (p:Int) (K:zdT):SX gD1 6 161 [cR.enc r,cI.enc p] K=ai9 r p K:=by kernel_rfl
theorem aja (r:RS) (p:Int) (K:zdT):SX gD1 6 162 [cR.enc r,cI.enc p] K=ai9 r p K:=by kernel_rfl
def acj (p:Int):zdJ:=⟨#[49]⟩++agF p.toNat
def b19 (p:Int):Bool:=bif bd9 p then true else !true
def ahL (r:RS) (p:Int) (K:zdT) (D X:Prop):Prop:=
 af (dC (!bd9 p) (uzR r&&rV r)) (ag (b19 p) (K uD) (af (seq ⟨#[48]⟩ ⟨#[48]⟩&&decide (0<=p)&&decide (p<=30)) (af (decide ((⟨#[49]⟩:zdJ).size+(agF p.toNat).size<=9223372036854775807)) (ag (b19 p) (ag (b19 p) (K uD) D) X))))
def ajb (r:RS) (p:Int) (K:zdT):Prop:=ahL r p K False (af (pS2 r.1 (acj p)&& !aq (nS r.1*nS (acj p))) (K uD))
def ajc (up:Bool) (r:RS) (p:Int) (K:zdT) (n:zdJ):Prop:=
 let q:=ofI (nS n / nS r.2)
 af (pS2 n r.2&&decide (nS r.2≠0)) (ag (bif up then !seq (ofI (nS n%nS r.2)) s0 else false)
  (af (pS2 q s1&&aq (nS q+nS s1)) (CB (ofI (nS q+nS s1)) (acj p) K)) (CB q (acj p) K))
def ahM (up:Bool) (r:RS) (p:Int) (K:zdT):Prop:=
 ahL r p K (ajc up r p K ⟨#[]⟩) (af (pS2 r.1 (acj p)&&aq (nS r.1*nS (acj p))) (ajc up r p K (ofI (nS r.1*nS (acj p)))))
theorem agH (r:RS) (p:Int) (K:zdT):SX gD2 6 161 [cR.enc r,cI.enc p] K=ajb r p K:=by kernel_rfl
theorem ajd (r:RS) (p:Int) (K:zdT):SX gD2 6 162 [cR.enc r,cI.enc p] K=ajb r p K:=by kernel_rfl
theorem agI (r:RS) (p:Int) (K:zdT):SX gD3 6 161 [cR.enc r,cI.enc p] K=ahM false r p K:=by kernel_rfl
theorem aje (r:RS) (p:Int) (K:zdT):SX gD3 6 162 [cR.enc r,cI.enc p] K=ahM true r p K:=by kernel_rfl
theorem ahN (h0:0<=p):acj p=afR p.toNat:=by
 unfold acj agF afR;apply gT;simp[ByteArray.toList_data_append]
theorem aiI:GOk gD1:=GOk.nil.cons (λW hW=>yS hW) call51
theorem akh:GOk gD3:=WG.cons (λW hW=>afd) call217
theorem aki:GOk gD2:=
 ((GOk.nil.cons (λW hW=>ow (λ_=>rfl) (λ_=>rfl) ((WR.all W hW (137,k2 cS cS cSI uz2 bM) (by simp[mZ])).1) λa b h=>by
    simp only[za2,zap] at h;have:=V3.1 h.1;refine⟨aX (bO this.1) (bO this.2), ?_⟩;rw[dg this.1 this.2];unfold Yk.chkI
    rw[if_neg (λe=>by rw[V1.2 e] at h;cases h.2)];rfl) call137).cons (λW hW=>afd) call217).cons (λW hW=>CA (yS hW) λa h=>by
    rw[za2] at h;exact h) call51
theorem afe {r:RS} {K:zdT} {D X:Prop} (hr:uzR r=true) (hv:rV r=true) (h0:0<=p) (h1:p<=30) (k:X):ahL r p K D X:=by
 have hb:b19 p=false:=by unfold b19 bd9;rw[zdu (show ¬p<0 by omega),zdu (show ¬p>30 by omega)];rfl
 unfold ahL;rw[hb];refine ac (fU (by rw[hr,hv];rfl)) (ac (by rw[zdr h0,zdr h1];decide) (ac (zdr ?_) k));unfold agF;have:(⟨(List.replicate p.toNat 48).toArray⟩:zdJ).size=p.toNat:=by rw[<-bj];simp
 rw[this];show 1+p.toNat<=_;omega
theorem ad8 {up:Bool} (hW:GlobU W) {r:RS} (hr:uzR r=true) (vA: ∀K,SX gD1 6 F [cR.enc r,cI.enc p] K=ai9 r p K)
 (vB: ∀K,SX gD2 6 F [cR.enc r,cI.enc p] K=ajb r p K) (vC: ∀K,SX gD3 6 F [cR.enc r,cI.enc p] K=ahM up r p K):Go.Sy.Yields prog W F [cR.enc r,cI.enc p] (cRE.enc (lR r p up)):=by
 have idsRI:SV.idss [cR.enc r,cI.enc p]= []:=de;by_cases hp:0<=p/\p<=30
 ·have hb:bd9 p=false:=by unfold bd9;rw[zdu (show ¬p<0 by omega),zdu (show ¬p>30 by omega)];rfl
  cases hv:rV r with
  |false=>
   have e:lR r p up=(noR,40):=by unfold lR;rw[hv];simp
   exact acJ aiI (n:=6) hW idsRI (cRE.ids _) (by rw[vA,e];exact ac (fU hr) (ac (by rw[hb,hv];rfl) rfl))
  |true=>
   have hk:p.toNat<200:=by omega
   have t1:=ahN hp.1;have t2:vS (acj p)=true:=by rw[t1];exact afa hk
   have t3:nS (acj p)=ten p.toNat:=by rw[t1];exact afb _
   obtain⟨v1,v2,v3,_⟩:=ay hv;cases hs:aq (nS r.1*ten p.toNat) with
   |false=>
    have e:lR r p up=(noR,40):=by unfold lR;rw[hs];simp
    exact acJ aki (n:=6) hW idsRI (cRE.ids _) (by
     rw[vB,e]
     exact afe hr hv hp.1 hp.2 (ac (by rw[V3.2 ⟨v1,t2⟩,t3,hs];rfl) rfl))
   |true=>
    have n1:vS (ofI (nS r.1*ten p.toNat))=true:=dG hs;obtain⟨q1,q2⟩:=ai6 n1 v2 v3;rw[aI] at q1 q2;have e:lR r p up=rMk (if up&&decide (nS r.1*ten p.toNat%nS r.2≠0) then nS r.1*ten p.toNat / nS r.2+1 else nS r.1*ten p.toNat / nS r.2) (ten p.toNat):=by
     unfold lR;rw[if_pos (by simp[hv,hp.1,hp.2,hs])]
    exact acJ akh (n:=6) hW idsRI (cRE.ids _) (by
     rw[vC,e];unfold ahM ajc;dsimp only;rw[t3];refine afe hr hv hp.1 hp.2 (ac (by rw[V3.2 ⟨v1,t2⟩,hs];rfl) (ac (by rw[V3.2 ⟨n1,v2⟩,zdr (show nS r.2≠0 by omega)];rfl) ?_));rw[aI,aI];have z:seq (ofI (nS r.1*ten p.toNat%nS r.2)) s0=decide (nS r.1*ten p.toNat%nS r.2=0):=by rw[m6 q2,aI]
     rw[z];refine ah (λh=> ?_) (λh=> ?_)
     ·have hu:up=true/\nS r.1*ten p.toNat%nS r.2≠0:=by
       cases up with
       |false=>cases h
       |true=>exact⟨rfl,by simpa using h⟩
      rw[if_pos (by simp[hu.1,hu.2])];have sq:aq (nS r.1*ten p.toNat / nS r.2+1)=true:=by
       have hN:=V1.1 hs;rw[V1];have e1:=Int.emod_add_mul_ediv (nS r.1*ten p.toNat) (nS r.2);have e2:=zcm (nS r.1*ten p.toNat) (b:=nS r.2) (by omega);have e3:=zcP (nS r.1*ten p.toNat) v3;generalize nS r.1*ten p.toNat=N at*
       generalize hQ:N / nS r.2=Q at*
       generalize hM:N%nS r.2=M at*
       have hd1:nS r.2≠1:=λe=>by rw[e] at e3;omega
       have hM0:M≠0:=hu.2;by_cases hQ0:0<=Q
       ·have:2*Q<=nS r.2*Q:=Int.mul_le_mul_of_nonneg_right (by omega) hQ0;omega
       ·obtain⟨R,hR⟩: ∃R,Q= -R - 1:=⟨-Q - 1,by omega⟩;have h1:1*R<=nS r.2*R:=Int.mul_le_mul_of_nonneg_right (by omega) (by omega);have h2:nS r.2*Q= -(nS r.2*R) - nS r.2:=by rw[hR,Int.mul_sub,Int.mul_one,zbM]
        omega
      refine ac (by rw[V3.2 ⟨q1,by decide⟩,show nS s1=1 by decide,sq];rfl) ?_;rw[show nS s1=1 by decide];refine m7 (dG sq) t2 ?_;rw[show acj p=ofI (ten p.toNat) by rw[t1,afc hk],gM]
     ·have hu: ¬((up&&decide (nS r.1*ten p.toNat%nS r.2≠0))=true):=by
       cases up with
       |false=>simp
       |true=>simpa using h
      rw[if_neg hu];refine m7 q1 t2 ?_
      rw[show acj p=ofI (ten p.toNat) by rw[t1,afc hk],gM])
 ·have hb:bd9 p=true:=by
   unfold bd9;by_cases h:p<0
   ·rw[zdr h];rfl
   ·rw[zdu h,zdr (show p>30 by omega)];rfl
  have e:lR r p up=(noR,40):=by unfold lR;rw[show decide (0<=p/\p<=30)=false from zdu hp];simp
  exact acJ aiI (n:=6) hW idsRI (cRE.ids _) (by rw[vA,e];exact ac (fU hr) (ac (by rw[hb];rfl) rfl))
theorem ahO (hW:GlobU W):CtrOK prog W 161 (k2 cR cI cRE (λr _=>uzR r) acv):=bC λr p h=>by
 rw[<-ad7];exact ad8 hW h (agG r p) (agH r p) (agI r p)
theorem akj (hW:GlobU W):CtrOK prog W 162 (k2 cR cI cRE (λr _=>uzR r) rUp):=bC λr p h=>by
 rw[<-afS];exact ad8 hW h (aja r p) (ajd r p) (aje r p)
def acZ (f:RS->RS->RS×Int) (a b:RS):Bool:=uzR a&&uzR b&&(f a b).2==0
def aeG (f:RS->Int->RS×Int) (a:RS) (p:Int):Bool:=uzR a&&(f a p).2==0
abbrev kS2 (f:RS->RS->RS×Int):Ctr:=k2 cR cR cRE (acZ f) (λa b=>((f a b).1,0))
abbrev kSD (f:RS->Int->RS×Int):Ctr:=k2 cR cI cRE (aeG f) (λa p=>((f a p).1,0))
def gS:List (FuncId×Ctr):= [(54,kS2 fZ),(55,kS2 iF),(25,kS2 ale),(56,kS2 cA),(161,kSD acv),(162,kSD rUp),
 (82,k1 cIv cB (λx=>uzI x&&vI x) λ_=>true),(153,k2 cIv cR cB (λx r=>uzI x&&uzR r&& !ad2 x r) λ_ _=>false)]
theorem ahP {f:RS->RS->RS×Int} {a b:RS} (h:acZ f a b=true):(uzR a&&uzR b)=true/\f a b=((f a b).1,0):=by
 unfold acZ at h;rw[za2,zdA] at h;exact⟨h.1,zc8 rfl h.2⟩
theorem aff {f:RS->Int->RS×Int} {a:RS} (h:aeG f a p=true):uzR a=true/\f a p=((f a p).1,0):=by
 unfold aeG at h;rw[za2,zdA] at h;exact⟨h.1,zc8 rfl h.2⟩
theorem agJ:GEk gS:=by
 have dR: ∀a:RS,cR.dec (cR.enc a)=some a:=λ_=>rfl;have dI: ∀a:Int,cI.dec (cI.enc a)=some a:=λ_=>rfl;have R: ∀{F:FuncId} {f:RS->RS->RS×Int},(F,k2 cR cR (cP cR cI) (λa b=>uzR a&&uzR b) f)∈qH-> ∀(a:Addr) (W:World),GlobE a W->CtrOK prog W F (kS2 f):=λhm a W hW=>ow dR dR (Li hW.1 _ hm).1 λa b h=>ahP h
 refine((((((((GEk.of GOk.nil).cons (λa W hW=>ow (λx=>rfl) dR (aiH.all a W hW (153,k2 cIv cR cB (λx r=>uzI x&&uzR r) ad2) (by simp[gV2])).1 λx r h=> ?_) call153).cons
  (λa W hW=>CA (ae9.all a W hW (82,k1 cIv cB uzI vI) (by simp[gV1])).1 λx h=> ?_) call82).cons (λa W hW=>ow dR dI (akj hW.1) λr p h=>aff h) call162).cons (λa W hW=>ow dR dI (ahO hW.1) λr p h=>aff h) call161).cons
  (R (F:=56) (f:=cA) (by simp[qH])) call56).cons (R (F:=25) (f:=ale) (by simp[qH])) call25).cons (R (F:=55) (f:=iF) (by simp[qH])) call55).cons (R (F:=54) (f:=fZ) (by simp[qH])) call54
 ·simp only[za2,zap] at h;exact⟨by rw[h.1.1,h.1.2];rfl,h.2⟩
 ·rw[za2] at h;exact h
def gmS (a:Addr):zdZ:= [(152,ai3 a),(252,adD λx m=>decide (b9 x m<0)),(253,adD λx m=>decide (b9 x m>0))]
theorem ac0:MEk a (gmS a):=((MEk.nil.cons (adq (ahJ a))).cons (adq (ahI a))).cons λB hB=>ahG hB
def U9 (K:Prop):Prop:=Unit->True->K
def vv9 (x y:Iv) (K:Prop):Prop:=af (uzI x&&vI x) (af (uzI y&&vI y) (U9 K))
def ajf (f:RS->RS->RS×Int) (p q r s:RS) (K:zdT):Prop:=af (acZ f p q) (U9 (af (acZ f r s) (U9 (K ((cP cIv cI).enc (((f p q).1,(f r s).1),0))))))
theorem ahQ (a:Addr) (x y:Iv) (K:zdT):acb a gS (gmS a) noA 8 84 [cIv.enc x,cIv.enc y] K=vv9 x y (ajf fZ x.1 y.1 x.2 y.2 K):=by kernel_rfl
theorem ahR (a:Addr) (x y:Iv) (K:zdT):acb a gS (gmS a) noA 8 85 [cIv.enc x,cIv.enc y] K=vv9 x y (ajf iF x.1 y.2 x.2 y.1 K):=by kernel_rfl
def afT (a b c d:RS):zdP:=je (gA a++gA b++gA c++gA d) 2
def ahS (a b c d:RS):Bool:=Nat.beq 110 110&&(Nat.ble 4 4&&Nat.beq 2 2&&true)&&Nat.beq 4 4&&eR.good uzR 4 (afT a b c d)
def ajg (t:RS->RS->Bool) (a b c d:RS):RS:=R7 t [NH (afT a b c d 1),NH (afT a b c d 2),NH (afT a b c d 3)] (NH (afT a b c d 0))
def afg (f:RS->RS->RS×Int) (x y:Iv) (K:zdT):Prop:=
 af (acZ f x.1 y.1) (U9 (af (acZ f x.1 y.2) (U9 (af (acZ f x.2 y.1) (U9 (af (acZ f x.2 y.2) (U9 (af (ahS (f x.1 y.1).1 (f x.1 y.2).1 (f x.2 y.1).1 (f x.2 y.2).1) (U9 (af (ahS (f x.1 y.1).1 (f x.1 y.2).1 (f x.2 y.1).1 (f x.2 y.2).1) (U9
  (K ((cP cIv cI).enc ((ajg (λx m=>decide (b9 x m<0)) (f x.1 y.1).1 (f x.1 y.2).1 (f x.2 y.1).1 (f x.2 y.2).1,ajg (λx m=>decide (b9 x m>0)) (f x.1 y.1).1 (f x.1 y.2).1 (f x.2 y.1).1 (f x.2 y.2).1),0))))))))))))))
theorem ahT (a:Addr) (x y:Iv) (K:zdT):acb a gS (gmS a) noA 8 86 [cIv.enc x,cIv.enc y] K=vv9 x y (afg ale x y K):=by kernel_rfl
theorem ahU (a:Addr) (x y:Iv) (K:zdT):acb a gS (gmS a) noA 8 87 [cIv.enc x,cIv.enc y] K=vv9 x y (af (uzI y&&uzR zR&& !ad2 y zR) (U9 (afg cA x y K))):=by kernel_rfl
def ak1 (x:Iv) (p:Int) (K:zdT):Prop:=af (uzI x&&vI x) (U9 (af (aeG acv x.1 p) (U9 (af (aeG rUp x.2 p) (U9 (K ((cP cIv cI).enc (((acv x.1 p).1,(rUp x.2 p).1),0))))))))
theorem ahV (a:Addr) (x:Iv) (p:Int) (K:zdT):acb a gS (gmS a) noA 8 92 [cIv.enc x,cI.enc p] K=ak1 x p K:=by kernel_rfl
end Go.Proofs.YtdbnankjpnpojaaGreatDoor
namespace Yk
open Go Go.Sy
structure InI (x:Iv) (q:Rat):Prop where
 l:rV x.1=true
 h:rV x.2=true
 lo:qV x.1<=q
 hi:q<=qV x.2
variable {a b:RS}
theorem afh (ha:rV a=true) (hb:rV b=true):decide (b9 a b<=0)=decide (qV a<=qV b):=by
 rw[rD ha hb];exact decide_eq_decide.2 J1
variable {x:Iv}
theorem ajh:vI x=true↔rV x.1=true/\rV x.2=true/\qV x.1<=qV x.2:=by
 unfold vI;simp only[za2];constructor
 ·rintro⟨⟨h1,h2⟩,h3⟩;rw[afh h1 h2] at h3;exact⟨h1,h2,zdw h3⟩
 ·rintro⟨h1,h2,h3⟩;exact⟨⟨h1,h2⟩,by rw[afh h1 h2];exact zdr h3⟩
theorem InI.v {q:Rat} (h:InI x q):vI x=true:=ajh.2 ⟨h.l,h.h,Rat.le_trans h.lo h.hi⟩
variable {c:Iv}
theorem alr {l h:RS×Int} (e:ad3 l h=(c,0)):l.2=0/\h.2=0/\c=(l.1,h.1):=by
 unfold ad3 at e;cases hl:l.2==0 with
 |false=>rw[hl] at e;exact absurd (show (50:Int)=0 from congrArg Prod.snd e) (by decide)
 |true=>
  cases hh:h.2==0 with
  |false=>rw[hl,hh] at e;exact absurd (show (50:Int)=0 from congrArg Prod.snd e) (by decide)
  |true=>
   rw[hl,hh] at e;simp only[zdA] at hl hh;exact⟨hl,hh,(congrArg Prod.fst e).symm⟩
theorem dL {b:Bool} {x:Iv×Int} (e:(bif b then x else R6)=(c,0)):b=true/\x=(c,0):=by
 cases b with
 |false=>exact absurd (show (50:Int)=0 from congrArg Prod.snd e) (by decide)
 |true=>exact⟨rfl,e⟩
theorem anJ (h:(fZ a b).2=0):rV (fZ a b).1=true/\qV (fZ a b).1=qV a+qV b:=by
 obtain⟨_,_,g⟩:=rB h;exact⟨g.valid,g.val⟩
theorem anK (h:(iF a b).2=0):rV (iF a b).1=true/\qV (iF a b).1=qV a - qV b:=by
 obtain⟨_,_,g⟩:=rC h;exact⟨g.valid,g.val⟩
theorem am2 (h:(ale a b).2=0):rV (ale a b).1=true/\qV (ale a b).1=qV a*qV b:=by
 obtain⟨_,_,g⟩:=mG h;exact⟨g.valid,g.val⟩
theorem am9 (h:(cA a b).2=0):qV b≠0/\rV (cA a b).1=true/\qV (cA a b).1=qV a / qV b:=by
 obtain⟨_,_,h0,g⟩:=jP h;exact⟨h0,g.valid,g.val⟩
theorem ac1 {a b c d:RS×Int} (e:ae6 a b c d=(x,0)):a.2=0/\b.2=0/\c.2=0/\d.2=0/\x=(aey [b.1,c.1,d.1] a.1,aez [b.1,c.1,d.1] a.1):=by
 obtain⟨h,e⟩:=dL e;simp only[za2,zdA] at h;exact⟨h.1.1.1,h.1.1.2,h.1.2,h.2,(congrArg Prod.fst e).symm⟩
end Yk
namespace Go.Proofs.YtdbnankjpnpojaaGreatDoor
open Go.Proofs.Tryz
open Go Go.RowKit Go.Sy Yk
def ad9 (f:Iv->Iv->Iv×Int) (x y:Iv):Bool:=uzI x&&uzI y&&(f x y).2==0
def afU (f:Iv->Int->Iv×Int) (x:Iv) (p:Int):Bool:=uzI x&&(f x p).2==0
abbrev cIE:=cP cIv cI
abbrev kI2 (f:Iv->Iv->Iv×Int):Ctr:=k2 cIv cIv cIE (ad9 f) (λx y=>((f x y).1,0))
abbrev kID (f:Iv->Int->Iv×Int):Ctr:=k2 cIv cI cIE (afU f) (λx p=>((f x p).1,0))
variable {x y:Iv}
theorem acK {f:Iv->Iv->Iv×Int} (h:ad9 f x y=true):uzI x=true/\uzI y=true/\f x y=((f x y).1,0):=by
 unfold ad9 at h;rw[za2,za2,zdA] at h;exact⟨h.1.1,h.1.2,zc8 rfl h.2⟩
variable {p:Int}
theorem ahW {f:Iv->Int->Iv×Int} (h:afU f x p=true):uzI x=true/\f x p=((f x p).1,0):=by
 unfold afU at h;rw[za2,zdA] at h;exact⟨h.1,zc8 rfl h.2⟩
variable {K:Prop}
theorem s8 (k:K):U9 K:=λ_ _=>k
theorem adE (hx:uzI x=true) (hy:uzI y=true) (hv:vI x=true) (hw:vI y=true) (k:K):vv9 x y K:=
 ac (by rw[hx,hv];rfl) (ac (by rw[hy,hw];rfl) (s8 k))
variable {f:RS->RS->RS×Int} {b:RS}
theorem alJ {a:RS} (ha:uzR a=true) (hb:uzR b=true) (h:(f a b).2=0):acZ f a b=true:=by unfold acZ;rw[ha,hb,h];rfl
theorem afi {f:RS->Int->RS×Int} {a:RS} (ha:uzR a=true) (h:(f a p).2=0):aeG f a p=true:=by unfold aeG;rw[ha,h];rfl
theorem afj {p q r s:RS} {K:zdT} (hp:uzR p=true) (hq:uzR q=true) (hr:uzR r=true) (hs:uzR s=true) (h1:(f p q).2=0) (h2:(f r s).2=0) (k:K (cIE.enc (((f p q).1,(f r s).1),0))):ajf f p q r s K:=
 ac (alJ hp hq h1) (s8 (ac (alJ hr hs h2) (s8 k)))
theorem ahX {a c d:RS} (ha:uzR a=true) (hb:uzR b=true) (hc:uzR c=true) (hd:uzR d=true):ahS a b c d=true:=by
 have g:eR.good uzR 4 (afT a b c d)=true:=El.good_iff.2 λe he=>by
  rcases(show e=0\/e=1\/e=2\/e=3 by omega) with rfl|rfl|rfl|rfl
  ·exact⟨rfl,ha⟩
  ·exact⟨rfl,hb⟩
  ·exact⟨rfl,hc⟩
  ·exact⟨rfl,hd⟩
 unfold ahS;rw[g,Nat.beq_refl];rfl
theorem afk (t:RS->RS->Bool) (a b c d:RS):ajg t a b c d=R7 t [b,c,d] a:=rfl
theorem aea {K:zdT} (hz: ∀a b,uzR (f a b).1=true) (hx:uzI x=true) (hy:uzI y=true) (h1:(f x.1 y.1).2=0) (h2:(f x.1 y.2).2=0) (h3:(f x.2 y.1).2=0) (h4:(f x.2 y.2).2=0)
 (k:K (cIE.enc ((aey [(f x.1 y.2).1,(f x.2 y.1).1,(f x.2 y.2).1] (f x.1 y.1).1,aez [(f x.1 y.2).1,(f x.2 y.1).1,(f x.2 y.2).1] (f x.1 y.1).1),0))):afg f x y K:=by
 obtain⟨x1,x2⟩:=alu hx;obtain⟨y1,y2⟩:=alu hy;unfold afg;rw[ahX (hz _ _) (hz _ _) (hz _ _) (hz _ _),afk,afk,ad5,ad6];exact ac (alJ x1 y1 h1) (s8 (ac (alJ x1 y2 h2) (s8 (ac (alJ x2 y1 h3) (s8 (ac (alJ x2 y2 h4) (s8 (s8 (s8 k)))))))))
theorem vo {a b:Bool} (h:(a&&b)=true):a=true/\b=true:=by rwa[za2] at h
variable {a:Addr} {W:World}
theorem ahY (hW:GlobE a W):CtrOK prog W 84 (kI2 agy):=bC λx y h=>by
 obtain⟨hx,hy,h⟩:=acK h;obtain⟨hv,e⟩:=dL h;obtain⟨e1,e2,e3⟩:=alr e;obtain⟨x1,x2⟩:=alu hx;obtain⟨y1,y2⟩:=alu hy;rw[e3];exact l0 agJ ac0 hW (ann:=noA) (n:=8) de (cIE.ids _) (by rw[ahQ];exact adE hx hy (vo hv).1 (vo hv).2 (afj (K:=λr=>r=_) x1 y1 x2 y2 e1 e2 rfl))
theorem ahZ (hW:GlobE a W):CtrOK prog W 85 (kI2 agz):=bC λx y h=>by
 obtain⟨hx,hy,h⟩:=acK h;obtain⟨hv,e⟩:=dL h;obtain⟨e1,e2,e3⟩:=alr e;obtain⟨x1,x2⟩:=alu hx;obtain⟨y1,y2⟩:=alu hy;rw[e3];exact l0 agJ ac0 hW (ann:=noA) (n:=8) de (cIE.ids _) (by rw[ahR];exact adE hx hy (vo hv).1 (vo hv).2 (afj (K:=λr=>r=_) x1 y2 x2 y1 e1 e2 rfl))
theorem ah0 (hW:GlobE a W):CtrOK prog W 86 (kI2 adC):=bC λx y h=>by
 obtain⟨hx,hy,h⟩:=acK h;obtain⟨hv,e⟩:=dL h;obtain⟨e1,e2,e3,e4,e5⟩:=ac1 e;rw[e5];exact l0 agJ ac0 hW (ann:=noA) (n:=8) de (cIE.ids _) (by rw[ahT];exact adE hx hy (vo hv).1 (vo hv).2 (aea (K:=λr=>r=_) gI hx hy e1 e2 e3 e4 rfl))
theorem ah1 (hW:GlobE a W):CtrOK prog W 87 (kI2 ac7):=bC λx y h=>by
 obtain⟨hx,hy,h⟩:=acK h;obtain⟨hv,e⟩:=dL h;obtain⟨e1,e2,e3,e4,e5⟩:=ac1 e;obtain⟨hv,h0⟩:=vo hv;rw[e5]
 exact l0 agJ ac0 hW (ann:=noA) (n:=8) de (cIE.ids _) (by
  rw[ahU]
  exact adE hx hy (vo hv).1 (vo hv).2 (ac (by rw[hy,h0,show uzR zR=true by decide];rfl) (s8 (aea (K:=λr=>r=_) lY hx hy e1 e2 e3 e4 rfl))))
theorem ah2 (hW:GlobE a W):CtrOK prog W 92 (kID aeA):=bC λx p h=>by
 obtain⟨hx,h⟩:=ahW h;obtain⟨hv,e⟩:=dL h;obtain⟨e1,e2,e3⟩:=alr e;obtain⟨x1,x2⟩:=alu hx;rw[e3]
 exact l0 agJ ac0 hW (ann:=noA) (n:=8) de (cIE.ids _) (by
  rw[ahV]
  exact ac (by rw[hx,hv];rfl) (s8 (ac (afi x1 e1) (s8 (ac (afi x2 e2) (s8 rfl))))))
def gE9:List (FuncId×Ctr):=(84,kI2 agy)::(85,kI2 agz)::(86,kI2 adC)::(87,kI2 ac7)::(92,kID aeA)::gV2
theorem akk:GEk gE9:=((((aiH.cons (λa W hW=>ah2 hW) call92).cons (λa W hW=>ah1 hW) call87).cons (λa W hW=>ah0 hW) call86).cons (λa W hW=>ahZ hW) call85).cons (λa W hW=>ahY hW) call84
end Go.Proofs.YtdbnankjpnpojaaGreatDoor
namespace Yk
open Go Go.Sy
def akl (cs:zdM):Iv:=match cs with
 | [.val (.string a), .val (.string b), .val (.string c), .val (.string d)]=>((a,b),(c,d))
 |_=>noI
def eI:El Iv:={sz:=4,sv:=yl,of:=akl,d:=noI,rt:=λ_=>rfl,ids:=λ_=>rfl,len:=λ_=>rfl,one:=by decide}
end Yk
namespace Go.Proofs.YtdbnankjpnpojaaGreatDoor
open Go.Proofs.Tryz
open Go Go.RowKit Go.Sy Yk
def afl (I:Int->Prop) (N:Int):zdX:=λf k=>bif Nat.beq f 144&&Nat.beq k 2 then some (λA=>{X:=Int,inv:=I,tm:=λi=> [(8, .val (.int .i64 i))],mu:=λi=>(N - i).toNat,keep:= [0,1,7]}) else none
theorem ah3 (a:Addr) (I:Int->Prop) (N:Int) (l:List Iv) (Q:zdT):XC a gV1 [] (afl I N) 5 83 [.slc 0 0 l.length, .fn (.func 81) [] []] [eI.old l] (Go.Sy.okK λr _ _ _=>Q r)=
 LH I N (.slc 0 0 l.length) (.fn (.func 81) [] []) l.length (λz Q=>af (uzI (eI.nth l (0+z.toNat))) (Q (!vI (eI.nth l (0+z.toNat))))) (λz=>Q (cB.enc (decide (z≥0)))):=by kernel_rfl
def agK:MCtr:=λbl _ args=>match args with
 | [s, .fn (.func g) [] []]=>bif Nat.beq g 81 then(match vW bl 4 s with
   |some (b,_,n,c)=>some {X:=Unit,pre:=b&&(Nat.ble n 1000000&&eI.good uzI n c),spec:=λ_=>True,out:=λ_=>cB.enc (!(eI.list n c).all vI),ex:=λ_=>⟨(),trivial⟩}
   |none=>none) else none
 |_=>none
theorem agL {a:Addr}: ∀B:Base,GlobEB a B->VU prog B 83 agK:=agE ae9 MEk.nil λbl nx args C hk hp=>by
 unfold agK at hk;split at hk
 ·rename_i s g;cases hg:Nat.beq g 81 with
  |false=>rw[hg] at hk;cases hk
  |true=>
   obtain rfl:=zab hg;rw[hg,zdt] at hk;split at hk
   ·rename_i b o n c hs;simp only[za1] at hk;subst hk;simp only[za2] at hp;obtain⟨rfl,hn,hgood⟩:=hp;have hlen:(eI.list n c).length<2^62:=by rw[El.list_length];have:=zak hn;omega
    obtain⟨h1,h2⟩:=cq (f:=rnF [o] [] nx) hs hgood;refine⟨[o], [eI.old (eI.list n c)], [.slc 0 0 (eI.list n c).length, .fn (.func 81) [] []],afl (λi=>0<=i/\i<=(eI.list n c).length/\be (λu=> !vI u) (eI.list n c) 0=be (λu=> !vI u) ((eI.list n c).drop i.toNat) i) (eI.list n c).length,5,aw h1 trivial,bH (by simp[cN,El.old]),cd (by simp[El.old,BK.map]), ?_, ?_⟩
    ·simp only[SV.rns,h2 0 rfl];rfl
    ·refine kbE () trivial rfl (r:=cB.enc (!(eI.list n c).all vI)) rfl rfl rfl rfl (by simp[cN,El.old]) rfl ?_;rw[ah3];refine pJ noI hlen (λz Q h0 h1 h=> ?_) ?_
     ·rw[za7];have:=El.good_list hgood _ (bw (d:=noI) (l:=eI.list n c) (e:=z.toNat) (by omega));exact ac this h
     ·rw[pI _ _ _ (zat _),CP]
   ·cases hk
 ·cases hk
abbrev akm:Ctr:=k2 cIv cI cIE (λ_ _=>false) (λ_ _=>(noI,0))
def gE8:List (FuncId×Ctr):=(90,akm)::gE9
theorem aiJ:GEk gE8:=akk.cons (λa W hW=>bC λx p h=>by cases h) call90
def akn:zdZ:= [(16,pN),(83,agK)]
theorem ah4 {a:Addr}:MEk a akn:=(MEk.nil.cons agL).cons λB hB=>lZ B hB.gU
abbrev EI:=Int×List Iv
abbrev PWI:=Int×Iv
def aji (A:AS):Iv:=match A.tm 7 with
 | .v (.slc i _ _)=>match A.bl i,Bh A (kA A 10) 24 with
   |some B, .val (.int _ l)=>akl (B.get (0+l.toNat))
   |_,_=>noI
 |_=>noI
def agM (I:EI->Prop) (N:Int) (J:Iv->Int->PWI->Prop):zdX:=λf k=>bif Nat.beq f 93 then(bif Nat.beq k 4 then some (λA=>{X:=EI,inv:=I,tm:=λx=> [(19, .val (.int .i64 x.1)),(7, .slc A.nx 0 x.2.length)],gr:= [{src:= .slot 7,sz:=4,n:=λx=>x.2.length,get:=λx=>eI.get x.2}],cleanG:=λg hg x e=>by simp at hg;subst hg;exact eI.ids _,mu:=λx=>(N - x.1).toNat,keep:= [2,3,4,6,8,17,18]})
 else bif Nat.beq k 23 then some (λA=>{X:=PWI,inv:=J (aji A) (P7 A 119),tm:=λx=> [(120, .val (.int .i64 x.1))],st:= [(kA A 11,λx=>yl x.2)],mu:=λx=>(4 - x.1).toNat,keep:= [2,3,4,6,7,8,10,11,17,18,19,119]}) else none) else none
abbrev agN (a:Addr) (I:EI->Prop) (N:Int) (J:Iv->Int->PWI->Prop) (p:Pr) (ins:List Iv) (pl:Int) (Q:zdT):Prop:=XC a gE8 akn (agM I N J) 6 33 [kB p, .slc 2 0 ins.length,cI.enc pl] [eU.old p.inp,eN.old p.nod,eI.old ins] (Go.Sy.okK λr _ _ _=>Q r)
def agO:SV:= .tup [.agg (yl noI), .val (.int .i64 90)]
def ako (n:Nat) (K:Prop):Prop:=af (decide (0<1)&&decide (0+1<=1)&&decide (n<=n)&&decide ((n+1)*64<=140737488355328)&&true) K
def akp (ni nn:Nat) (Q:Prop):Prop:=tvE (.slc 2 0 ni)/\cg 30/\cg 31/\cg 32/\cg 38/\tvE (.slc 1 0 nn)/\tvE (cI.enc (nn:Int))/\Q
def akq (q ni nn:Nat) (p:Int) (n:Nat) (us:zdP) (z:EI):Prop:=
 (TV.v (cI.enc p)=TV.v (cI.enc z.1)/\TV.v (.slc q 0 n)=TV.v (.slc q 0 z.2.length)/\akp ni nn True)/\(True/\(True/\(af (Nat.beq 4 4&&decide (z.2.length<=n)) (∀e,e<z.2.length->us e=eI.get z.2 e)/\True)))
def ada (I:EI->Prop) (N:Int) (pl:Int) (q ni nn:Nat) (i:Int) (vs:List Iv) (v:Iv):Prop:=af (afU aeA v pl) (ako vs.length (af (inR .i64 (i+1)) (∃z:EI,I z/\((N - z.1).toNat<(N - i).toNat/\akq q ni nn (i+1) (vs.length+1) (ald (eI.get vs) (λe=>((yl (aeA v pl).1).drop (e*4)).take 4) vs.length 0) z))))
def ajj (ni nn:Nat) (i:Int) (n:Nat) (m:Int) (p:Int) (v:Iv) (z:PWI):Prop:=
 (TV.v (cI.enc p)=TV.v (cI.enc z.1)/\tvE (.slc 2 0 ni)/\cg 30/\cg 31/\cg 32/\tvE (.slc 44 0 n)/\cg 38/\cg 48/\cg 50/\tvE (.slc 1 0 nn)/\tvE (cI.enc (nn:Int))/\tvE (cI.enc i)/\tvE (cI.enc m)/\True)/\(True/\((yl v=yl z.2/\True)/\True))
def afV (vs:List Iv) (x:Nd) (f:Iv->Iv->Iv×Int) (K:Iv->Prop):Prop:=
 eO vs.length x.l (eO vs.length x.r (af (ad9 f (mb noI vs (0+x.l.toNat)) (mb noI vs (0+x.r.toNat))) (K (f (mb noI vs (0+x.l.toNat)) (mb noI vs (0+x.r.toNat))).1)))
def aiK (J:Iv->Int->PWI->Prop) (ni nn:Nat) (i:Int) (vs:List Iv) (x:Nd) (K1 K2:Iv->Prop):Prop:=
 af (inR .i64 (-x.n)) (∃z0:PWI,J (mb noI vs (0+x.l.toNat)) (jH x.n) z0/\(ajj ni nn i vs.length (jH x.n) 0 (ptI rI) z0/\ ∀z:PWI,J (mb noI vs (0+x.l.toNat)) (jH x.n) z->ag (decide (z.1<jH x.n))
  (eO vs.length x.l (af (ad9 adC z.2 (mb noI vs (0+x.l.toNat))) (af (inR .i64 (z.1+1)) (∃z':PWI,J (mb noI vs (0+x.l.toNat)) (jH x.n) z'/\((4 - z'.1).toNat<(4 - z.1).toNat/\ajj ni nn i vs.length (jH x.n) (z.1+1) (adC z.2 (mb noI vs (0+x.l.toNat))).1 z')))))
  (ag (decide (x.n<0)) (af (ad9 ac7 (ptI rI) z.2) (K1 (ac7 (ptI rI) z.2).1)) (K2 z.2))))
def ajk (I:EI->Prop) (N:Int) (J:Iv->Int->PWI->Prop) (pl:Int) (ins:List Iv) (nn:Nat) (i:Int) (vs:List Iv) (x:Nd):Prop:=
 ag (x.op==1) (af (uzR x.v) (ada I N pl 85 ins.length nn i vs (ptI x.v))) (
 ag (x.op==2) (eO ins.length x.n (ada I N pl 87 ins.length nn i vs (mb noI ins (0+x.n.toNat)))) (
 ag (x.op==3) (afV vs x agy (ada I N pl 91 ins.length nn i vs)) (
 ag (x.op==4) (afV vs x agz (ada I N pl 93 ins.length nn i vs)) (
 ag (x.op==5) (afV vs x adC (ada I N pl 95 ins.length nn i vs)) (
 ag (x.op==6) (afV vs x ac7 (ada I N pl 97 ins.length nn i vs)) (
 ag (x.op==7) (aiK J ins.length nn i vs x (ada I N pl 119 ins.length nn i vs) (ada I N pl 104 ins.length nn i vs)) (
 ag (x.op==8) (eO vs.length x.l False) False)))))))
def ajl (I:EI->Prop) (N:Int) (J:Iv->Int->PWI->Prop) (p:Pr) (ins:List Iv) (pl:Int) (Q:zdT):Prop:=
 af (jn p) (Unit->True->ag (bif !VM (dm p) then true else((ins.length:Int) !=(p.inp.length:Int))) (Q agO)
 (af (Nat.ble ins.length ins.length&&Nat.beq 4 4&&true&&(Nat.ble ins.length 1000000&&eI.good uzI ins.length (eI.get ins))) (Unit->True->ag (!(eI.list ins.length (eI.get ins)).all vI) (Q agO)
 (∃z0:EI,I z0/\(((TV.v (cI.enc 0)=TV.v (cI.enc z0.1)/\TV.v (.val (.slice none 0 0))=TV.v (.val (.slice none z0.2.length 0))/\akp ins.length p.nod.length True)/\(True/\(True/\(z0.2.length=0/\True))))/\
   ∀z:EI,I z->ag (decide (z.1<(p.nod.length:Int)))
    (eO p.nod.length z.1 (ajk I N J pl ins p.nod.length z.1 z.2 (mb noN p.nod (0+z.1.toNat))))
    (af (inR .i64 ((z.2.length:Int) - 1)) (eO z.2.length ((z.2.length:Int) - 1) (Q (.tup [.agg (yl (mb noI z.2 (0+((z.2.length:Int) - 1).toNat))), .val (.int .i64 0)])))))))))
theorem ajm (a:Addr) (I:EI->Prop) (N:Int) (J:Iv->Int->PWI->Prop) (p:Pr) (ins:List Iv) (pl:Int) (Q:zdT):agN a I N J p ins pl Q=ajl I N J p ins pl Q:=by kernel_rfl
def okI (r:Iv×Int):Option Iv:=bif r.2 !=0 then none else some r.1
def th (b:Iv):Nat->Option Iv
 |0=>some (ptI rI)
 |k+1=>match th b k with
  |some v=>okI (adC v b)
  |none=>none
def ack (sq:Iv->Iv×Int) (ins vs:List Iv) (x:Nd):Option Iv:=
 bif x.op==1 then some (ptI x.v) else
 bif x.op==2 then some (mb noI ins x.n.toNat) else
 bif x.op==3 then okI (agy (mb noI vs x.l.toNat) (mb noI vs x.r.toNat)) else
 bif x.op==4 then okI (agz (mb noI vs x.l.toNat) (mb noI vs x.r.toNat)) else
 bif x.op==5 then okI (adC (mb noI vs x.l.toNat) (mb noI vs x.r.toNat)) else
 bif x.op==6 then okI (ac7 (mb noI vs x.l.toNat) (mb noI vs x.r.toNat)) else
 bif x.op==7 then(match th (mb noI vs x.l.toNat) (jH x.n).toNat with
  |some v=>bif decide (x.n<0) then okI (ac7 (ptI rI) v) else some v
  |none=>none) else
 bif x.op==8 then okI (sq (mb noI vs x.l.toNat)) else some noI
def ajn (p:Int):Option Iv->Option Iv
 |some v=>okI (aeA v p)
 |none=>none
def alE (sq:Iv->Iv×Int) (p:Int) (ins:List Iv):List Nd->List Iv->Option (List Iv)
 | [],vs=>some vs
 |x::r,vs=>match ajn p (ack sq ins vs x) with
  |some v=>alE sq p ins r (vs++ [v])
  |none=>none
def agP (vs:List Iv):Iv:=mb noI vs (vs.length - 1)
def ah5 (sq:Iv->Iv×Int) (p:Pr) (ins:List Iv) (pl:Int):Iv×Int:=bif !VM p||ins.length !=p.inp.length|| !ins.all vI then(noI,90) else(match alE sq pl ins p.nod [] with
 |some vs=>(agP vs,0)
 |none=>(noI,90))
variable {v:Iv}
theorem uu {r:Iv×Int} (h:okI r=some v):r=(v,0):=by
 obtain⟨a,b⟩:=r;unfold okI at h;cases hr:b !=0 with
 |true=>rw[hr] at h;cases h
 |false=>rw[hr] at h;simp at h hr;rw[h,hr]
def acC:Iv->Iv×Int:=λ_=>R6
def acl (p:Pr) (ins:List Iv) (pl:Int):Iv×Int:=ah5 acC p ins pl
theorem ajo {r:RS} (h:uzR r=true):uzI (ptI r)=true:=by
 unfold ptI;cases rV r with
 |false=>exact(show uzI noI=true by decide)
 |true=>show (uzR r&&uzR r)=true;rw[h];rfl
theorem adF {a b:RS} (h:uzR a=true) (k:uzR b=true):uzI (a,b)=true:=by unfold uzI;rw[h,k];rfl
theorem afm: ∀{l:List RS} {m:RS},(∀x∈l,uzR x=true)->uzR m=true->uzR (aey l m)=true
 | [],m,_,h=>h
 |x::r,m,hl,h=>by
  show uzR (aey r (bif decide (b9 x m<0) then x else m))=true;refine afm (l:=r) (λy hy=>hl y (zan _ hy)) ?_;cases decide (b9 x m<0) with
  |true=>exact hl x (by simp)
  |false=>exact h
theorem afn: ∀{l:List RS} {m:RS},(∀x∈l,uzR x=true)->uzR m=true->uzR (aez l m)=true
 | [],m,_,h=>h
 |x::r,m,hl,h=>by
  show uzR (aez r (bif decide (b9 x m>0) then x else m))=true;refine afn (l:=r) (λy hy=>hl y (zan _ hy)) ?_;cases decide (b9 x m>0) with
  |true=>exact hl x (by simp)
  |false=>exact h
variable {a b:Iv}
theorem ah6 (h:agy a b=(v,0)):uzI v=true:=by
 obtain⟨_,e⟩:=dL h;obtain⟨_,_,rfl⟩:=alr e;exact adF (Lq _ _) (Lq _ _)
theorem ah7 (h:agz a b=(v,0)):uzI v=true:=by
 obtain⟨_,e⟩:=dL h;obtain⟨_,_,rfl⟩:=alr e;exact adF (Lr _ _) (Lr _ _)
theorem aeb {a b c d:RS×Int} (ha:uzR a.1=true) (hb:uzR b.1=true) (hc:uzR c.1=true) (hd:uzR d.1=true) (h:ae6 a b c d=(v,0)):uzI v=true:=by
 obtain⟨_,_,_,_,rfl⟩:=ac1 h;have hl: ∀x∈ [b.1,c.1,d.1],uzR x=true:=by simp[hb,hc,hd]
 exact adF (afm hl ha) (afn hl ha)
theorem afo (h:adC a b=(v,0)):uzI v=true:=aeb (gI _ _) (gI _ _) (gI _ _) (gI _ _) (dL h).2
theorem afp (h:ac7 a b=(v,0)):uzI v=true:=aeb (lY _ _) (lY _ _) (lY _ _) (lY _ _) (dL h).2
variable {p:Int}
theorem ah8 (h:aeA a p=(v,0)):uzI v=true:=by
 obtain⟨_,e⟩:=dL h;obtain⟨_,_,rfl⟩:=alr e;refine adF ?_ ?_
 ·unfold acv;split;exact alg _ _;exact tF
 ·unfold rUp;split;exact alg _ _;exact tF
theorem acL {l:List Iv} (h: ∀u∈l,uzI u=true) (e:Nat):uzI (mb noI l e)=true:=by
 by_cases he:e<l.length
 ·exact h _ (bw he)
 ·have: ∀(l:List Iv) (e:Nat),l.length<=e->mb noI l e=noI:=by
   intro l
   induction l with
   |nil=>intro e _;rfl
   |cons x r ih=>intro e he;cases e with
    |zero=>simp at he
    |succ e=>exact ih e (by simpa using he)
  rw[this l e (by omega)];decide
theorem agQ: ∀{k:Nat} {v:Iv},th b k=some v->uzI v=true
 |0,v,h=>by simp only[th,za1] at h;subst h;decide
 |k+1,v,h=>by
  simp only[th] at h;split at h
  ·exact afo (uu h)
  ·cases h
theorem aec {b:Iv} {k:Nat}: ∀{m:Nat} {w:Iv},th b (k+m)=some w-> ∃u,th b k=some u
 |0,w,h=>⟨w,h⟩
 |m+1,w,h=>by
  rw[<-zbr,th] at h;split at h
  ·rename_i v hv;exact aec hv
  ·cases h
variable {n:Nat}
theorem ah9 {K:Prop} (h:n<=1000000) (k:K):ako n K:=ac (by
 rw[zdr (zbS),zdr (show 0+1<=1 by omega),zdr (za0 n),zdr (show (n+1)*64<=140737488355328 by omega)];rfl) k
variable {ni nn:Nat}
theorem aia {q:Nat} {us:List Iv} {u:Iv}:akq q ni nn p (us.length+1) (ald (eI.get us) (λe=>((yl u).drop (e*4)).take 4) us.length 0) (p,us++ [u]):=by
 have hl:(us++ [u]).length=us.length+1:=by simp
 refine⟨⟨rfl,by rw[hl],rfl,rfl,rfl,rfl,rfl,rfl,rfl,trivial⟩,trivial,trivial, ?_,trivial⟩;refine ac (by rw[zdr (by rw[hl];exact za0 _)];rfl) λe he=> ?_;rw[hl] at he;unfold ald El.get El.nth;rw[aB];show _=yl (mb noI (us++ [u]) e);rw[aS];by_cases h:e<us.length
 ·rw[zdr h,zdt,if_neg (by omega)];rfl
 ·obtain rfl:e=us.length:=by omega
  rw[zdu h,zds,if_pos rfl,zaJ];rfl
def agR (b:Iv) (m:Int) (z:PWI):Prop:=0<=z.1/\z.1<=m/\m<=4/\th b z.1.toNat=some z.2
variable {i:Int}
theorem adt {m:Int} :ajj ni nn i n m p v (p,v):=⟨⟨rfl,rfl,rfl,rfl,rfl,rfl,rfl,rfl,rfl,rfl,rfl,rfl,rfl,trivial⟩,trivial,⟨rfl,trivial⟩,trivial⟩
theorem adG {f:Iv->Iv->Iv×Int} (ha:uzI a=true) (hb:uzI b=true) (h:f a b=(v,0)):ad9 f a b=true:=by unfold ad9;rw[ha,hb,h];rfl
theorem aib {f:Iv->Int->Iv×Int} (ha:uzI a=true) (h:f a p=(v,0)):afU f a p=true:=by unfold afU;rw[ha,h];rfl
variable {ins:List Iv} {pl:Int}
theorem aic {I:EI->Prop} {N:Int} {vs:List Iv} {x:Nd} (hx:NodeOK ni vs.length x) (hni:ins.length=ni) (hi: ∀u∈ins,uzI u=true) (hv: ∀u∈vs,uzI u=true) (hxv:uzR x.v=true) (he:ack acC ins vs x=some v) (hs: ∀q,uzI v=true->ada I N pl q ins.length nn i vs v):ajk I N agR pl ins nn i vs x:=by
 obtain⟨o1,o2⟩:=hx.op;have two: ∀{f:Iv->Iv->Iv×Int} {q:Nat},3<=x.op->x.op<=6->(∀{a b v:Iv},f a b=(v,0)->uzI v=true)->ack acC ins vs x=okI (f (mb noI vs x.l.toNat) (mb noI vs x.r.toNat))->afV vs x f (ada I N pl q ins.length nn i vs):=λ{f q} a b uz e=>by
  have hl:=hx.left a;have hr:=hx.right a b;have e:=uu (e.symm.trans he);unfold afV;rw[za7,za7];refine aY hl.1 hl.2 (aY hr.1 hr.2 (ac (adG (acL hv _) (acL hv _) e) ?_));rw[e];exact hs q (uz e)
 unfold ajk;refine ah (λe1=> ?_) (λe1=>ah (λe2=> ?_) (λe2=>ah (λe3=> ?_) (λe3=>ah (λe4=> ?_) (λe4=>ah (λe5=> ?_) (λe5=>ah (λe6=> ?_) (λe6=>ah (λe7=> ?_) (λe7=>ah (λe8=> ?_) (λe8=> ?_))))))))
 ·unfold ack at he;rw[e1,zdt,za1] at he;subst he;exact ac hxv (hs _ (ajo hxv))
 ·have h:=hx.inp (int_eq.1 e2);unfold ack at he;rw[e1,e2,zds,zdt,za1] at he;subst he;rw[za7];exact aY h.1 (by omega) (hs _ (acL hi _))
 ·exact two (by rw[int_eq.1 e3];decide) (by rw[int_eq.1 e3];decide) ah6 (by unfold ack;rw[e1,e2,e3];rfl)
 ·exact two (by rw[int_eq.1 e4];decide) (by rw[int_eq.1 e4];decide) ah7 (by unfold ack;rw[e1,e2,e3,e4];rfl)
 ·exact two (by rw[int_eq.1 e5];decide) (by rw[int_eq.1 e5];decide) afo (by unfold ack;rw[e1,e2,e3,e4,e5];rfl)
 ·exact two (by rw[int_eq.1 e6];decide) (by rw[int_eq.1 e6];decide) afp (by unfold ack;rw[e1,e2,e3,e4,e5,e6];rfl)
 ·have hp:=hx.pow (int_eq.1 e7);have hl:=hx.left (by rw[int_eq.1 e7];decide)
  have e:ack acC ins vs x=(match th (mb noI vs x.l.toNat) (jH x.n).toNat with
   |some v=>bif decide (x.n<0) then okI (ac7 (ptI rI) v) else some v
   |none=>none):=by unfold ack;rw[e1,e2,e3,e4,e5,e6,e7];rfl
  rw[he] at e;have hm:0<=jH x.n/\jH x.n<=4:=by unfold jH;split<;>omega
  cases hw:th (mb noI vs x.l.toNat) (jH x.n).toNat with
  |none=>rw[hw] at e;cases e
  |some w=>
  rw[hw] at e;replace e:some v=bif decide (x.n<0) then okI (ac7 (ptI rI) w) else some w:=e
  unfold aiK;rw[za7];refine ac (VP.2 (by omega)) ⟨(0,ptI rI),⟨zat _,hm.1,hm.2,rfl⟩,adt, ?_⟩;rintro⟨k,u⟩ ⟨k0,k1,_,k2⟩;dsimp only at k0 k1 k2 ⊢;have huz:=agQ k2;refine ah (λhk=> ?_) (λhk=> ?_)
  ·have hk:=zdw hk;obtain⟨u',hu'⟩:=aec (k:=k.toNat+1) (m:=(jH x.n).toNat - (k.toNat+1)) (by rw[show k.toNat+1+((jH x.n).toNat - (k.toNat+1))=(jH x.n).toNat by omega];exact hw);have hmul:adC u (mb noI vs x.l.toNat)=(u',0):=by
    rw[th,k2] at hu';exact uu hu'
   refine aY hl.1 hl.2 (ac (adG huz (acL hv _) hmul) (ac (VP.2 (by omega)) ⟨(k+1,u'),⟨by show 0<=k+1;omega,by show k+1<=_;omega,hm.2, ?_⟩,by show (_:Nat)<_;omega, ?_⟩))
   ·show th _ (k+1).toNat=some u';rw[show (k+1).toNat=k.toNat+1 by omega];exact hu'
   ·rw[hmul];exact adt
  ·have hk:=zdx hk;rw[show k.toNat=(jH x.n).toNat by omega,hw,za1] at k2;subst k2;refine ah (λhneg=> ?_) (λhneg=> ?_)
   ·rw[hneg,zdt] at e;have e:=uu e.symm;refine ac (adG (by decide) huz e) ?_;rw[e];exact hs _ (afp e)
   ·rw[hneg,zds,za1] at e;subst e;exact hs _ huz
 ·exfalso;unfold ack at he;rw[e1,e2,e3,e4,e5,e6,e7,e8] at he;have he:okI R6=some v:=he;exact absurd (show (50:Int)=0 from congrArg Prod.snd (uu he)) (by decide)
 ·exfalso;rw[zdz] at e1 e2 e3 e4 e5 e6 e7 e8;omega
def akr (pl:Int) (ins:List Iv) (nod:ze2) (z:EI):Prop:=0<=z.1/\z.1<=nod.length/\z.2.length=z.1.toNat/\(∀u∈z.2,uzI u=true)/\alE acC pl ins nod []=alE acC pl ins (nod.drop z.1.toNat) z.2
theorem afW {p:Pr} {Q:zdT} (hsz:aci p=true) (h6:p.inp.length<=1000000) (h7:p.nod.length<=1000000) (hi: ∀u∈ins,uzI u=true) (h8:ins.length<=1000000) (hok:(acl p ins pl).2=0)
 (hQ:Q (.tup [.agg (yl (acl p ins pl).1), .val (.int .i64 0)])):ajl (akr pl ins p.nod) p.nod.length agR p ins pl Q:=by
 have hsz':=hsz;unfold aci at hsz';simp only[za2,zaf] at hsz';obtain⟨⟨si,sn⟩,so⟩:=hsz';have gl:eI.list ins.length (eI.get ins)=ins:=El.list_get;have bad:acl p ins pl=(noI,90)->Q agO:=λh=>by rw[h] at hok;exact absurd hok (by decide)
 unfold ajl;refine ac (eY hsz h6 h7) λ_ _=> ?_;rw[fN];refine ah (λh=>bad ?_) (λh=>ac (by rw[El.good_get hi];simp[h8]) λ_ _=>ah (λk=>bad ?_) (λk=> ?_))
 ·unfold acl ah5;cases hv:VM p with
  |false=>rfl
  |true=>
   rw[hv] at h;have:(ins.length !=p.inp.length)=true:=by simp at h ⊢;omega
   rw[this];rfl
 ·rw[gl] at k;unfold acl ah5;rw[k,Bool.or_true];rfl
 ·rw[gl] at k;cases hv:VM p with
  |false=>rw[hv] at h;cases h
  |true=>
  rw[hv] at h;have hl:ins.length=p.inp.length:=by simp at h;omega
  obtain⟨hbeg,hnod⟩:=bQ hv;have hc:acl p ins pl=match alE acC pl ins p.nod [] with
   |some vs=>(agP vs,0)
   |none=>(noI,90):=by unfold acl ah5;rw[hv,k,hl];first|(simp;rfl)|simp
  have hb:=Wb.1 hbeg;refine⟨(0, []),⟨zat _,by show (0:Int)<=_;omega,rfl,λu h=>(by cases h),rfl⟩,⟨⟨rfl,rfl,rfl,rfl,rfl,rfl,rfl,rfl,rfl,trivial⟩,trivial,trivial,rfl,trivial⟩, ?_⟩;rintro⟨i,vs⟩ ⟨k0,k1,k2,k3,k4⟩;simp only at k0 k1 k2 k3 k4;dsimp only;refine ah (λhz=> ?_) (λhz=> ?_)
  ·have hz:i<(p.nod.length:Int):=zdw hz;rw[za7];have hd:p.nod.drop i.toNat=mb noN p.nod i.toNat::p.nod.drop (i+1).toNat:=by
    rw[show (i+1).toNat=i.toNat+1 by omega,zaH (show i.toNat<p.nod.length by omega),bR (zaa _)]
   have hx:=hnod i.toNat (by omega);have hxs:=sn _ (bw (d:=noN) (l:=p.nod) (e:=i.toNat) (by omega));have hxv:uzR (mb noN p.nod i.toNat).v=true:=by
    unfold szN at hxs;rw[za2] at hxs;exact hxs.1
   rw[hd,alE] at k4;cases hval:ack acC ins vs (mb noN p.nod i.toNat) with
   |none=>
    exfalso;rw[hval] at k4;replace k4:alE acC pl ins p.nod []=none:=k4;rw[hc,k4] at hok;exact absurd hok (by decide)
   |some v=>
   rw[hval] at k4;cases hr:okI (aeA v pl) with
   |none=>
    exfalso;rw[show ajn pl (some v)=none from hr] at k4;replace k4:alE acC pl ins p.nod []=none:=k4;rw[hc,k4] at hok;exact absurd hok (by decide)
   |some w=>
   rw[show ajn pl (some v)=some w from hr] at k4;replace k4:alE acC pl ins p.nod []=alE acC pl ins (p.nod.drop (i+1).toNat) (vs++ [w]):=k4;have hr:=uu hr;refine aY k0 hz (aic (by rw[k2];exact hx) hl hi k3 hxv hval (λq hvz=>ac (aib hvz hr) ?_));rw[hr];refine ah9 (by omega) (ac (VP.2 (by omega)) ⟨(i+1,vs++ [w]),⟨by show 0<=i+1;omega,by show i+1<=_;omega,by simp only[za3,za6];omega, ?_,k4⟩,by show (_:Nat)<_;omega,aia⟩);intro u hu;rcases za8.1 hu with hu|hu
   ·exact k3 u hu
   ·rw[zaj.1 hu];exact ah8 hr
  ·have hz: ¬i<(p.nod.length:Int):=zdx hz;rw[show i.toNat=p.nod.length by omega,zbj,alE] at k4;rw[k4] at hc;replace hc:acl p ins pl=(agP vs,0):=hc;rw[hc] at hQ;refine ac (VP.2 (by omega)) (aY (by omega) (by omega) ?_);rw[show (0+((vs.length:Int) - 1).toNat)=vs.length - 1 by omega];exact hQ
def acd:MCtr:=λbl nx args=>match args with
 | [s,t, .val (.int .i64 pl)]=>match mC bl s,vW bl 4 t with
   |some a,some (b,o,n,c)=>some {X:=Unit,pre:=a.need&&b&&bW n&&eI.good uzI n c&&(acl a.p (eI.list n c) pl).2==0,spec:=λ_=>True,out:=λ_=> .tup [.agg (yl (acl a.p (eI.list n c) pl).1), .val (.int .i64 0)],ex:=λ_=>⟨(),trivial⟩}
   |_,_=>none
 |_=>none
theorem acz {a:Addr}: ∀B:Base,GlobEB a B->VU prog B 33 acd:=agE aiJ ah4 λbl nx args C hk hp=>by
 unfold acd at hk;split at hk
 ·rename_i s t pl;split at hk
  ·rename_i a b o n c ha hs;simp only[za1] at hk;subst hk;simp only[za2,zdA] at hp;obtain⟨⟨⟨⟨hp,rfl⟩,hn⟩,hgood⟩,hok⟩:=hp;obtain⟨s1,s2,s3,s4,s5,s6⟩:=eX (f:=rnF [a.o1,a.o2,o] [] nx) ha hp rfl rfl;obtain⟨t1,t2⟩:=cq (f:=rnF [a.o1,a.o2,o] [] nx) hs hgood;refine⟨[a.o1,a.o2,o], [eU.old a.p.inp,eN.old a.p.nod,eI.old (eI.list n c)], [kB a.p, .slc 2 0 (eI.list n c).length,cI.enc pl],agM (akr pl (eI.list n c) a.p.nod) a.p.nod.length agR,6,aw s1 (aw s2 (aw t1 trivial)),bH (by simp[cN,El.old]),cd (by simp[El.old,BK.map]),ar s3 (ar (t2 2 rfl) rfl), ?_⟩;refine kbE () trivial rfl (r:= .tup [.agg (yl (acl a.p (eI.list n c) pl).1), .val (.int .i64 0)]) rfl rfl rfl rfl (by simp[cN,El.old]) rfl ?_;have e:=ajm;unfold agN at e;rw[e];exact afW s4 s5 s6 (El.good_list hgood) (by rw[El.list_length];exact zak hn) hok rfl
  ·cases hk
 ·cases hk
def BAt (b g:Nat) (t:zdJ) (w:World):Prop:=
 ∃p v,(p= .pointer none\/p= .pointer (some ⟨b,0,none⟩))/\w.heap[b]? =some (.cells #[p,v] 132 (0,0))/\w.ownsRowF 0 5 1 v t.size (Lib.strCells t)/\v.ownBlock≠some b/\g=v.ownBlock.getD b/\g<w.heap.size/\ ∀es c,w.heap[g]? ≠some (.map es c)
variable {w:World} {xs:zdN}
theorem ac2 {v:Value} (h:w.ownsRowF 0 5 1 v n xs) {g:Nat} (hg:v.ownBlock=some g): ∃cur fz,w.heap[g]? =some (.cells cur 5 fz):=by
 rcases h.2 with ⟨rfl,_⟩|⟨g',cap,cur,fz,rfl,_,h1,_⟩
 ·cases hg
 ·simp only[Value.ownBlock,za1] at hg;subst hg;exact⟨cur,fz,h1⟩
theorem agS {b:Nat} {t:zdJ} {p v:Value} (hp:p= .pointer none\/p= .pointer (some ⟨b,0,none⟩)) (h1:w.heap[b]? =some (.cells #[p,v] 132 (0,0))) (h2:w.ownsRowF 0 5 1 v t.size (Lib.strCells t)) (h3:v.ownBlock≠some b):BAt b (v.ownBlock.getD b) t w:=by
 refine⟨p,v,hp,h1,h2,h3,rfl, ?_, ?_⟩
 ·cases hv:v.ownBlock with
  |none=>exact(zaq.1 h1).1
  |some g=>obtain⟨cur,fz,hg⟩:=ac2 h2 hv;exact(zaq.1 hg).1
 ·intro es c;cases hv:v.ownBlock with
  |none=>show w.heap[b]? ≠_;rw[h1];simp
  |some g=>obtain⟨cur,fz,hg⟩:=ac2 h2 hv;show w.heap[g]? ≠_;rw[hg];simp
theorem adH (t s:zdJ):Lib.strCells (t++s)=Lib.strCells t++Lib.strCells s:=by
 simp[Lib.strCells_eq,Lib.byteCells_append]
theorem afX {B:Nat} {e:TypeId} {v:Value} (h:w.ownsRowF B e 1 v n xs):w.ownsRowF 0 e 1 v n xs:=by
 refine⟨h.1, ?_⟩;rcases h.2 with h|⟨g,cap,cur,fz,h1,_,h2⟩
 ·exact .inl h
 ·exact .inr ⟨g,cap,cur,fz,h1,zaA _,h2⟩
variable {P:Program}
theorem agT (w:World) (t u ty e:TypeId) (i:TypeInfo) (ht:P.underlying t=some (.slice e)) (hu:P.underlying u=some .string) (hi:P.info? e=some i) (hz:i.zero=some (.int .u8 0)) (hsize:i.size=1) (hby:i.bytes=1)
 (v:Value) (n:Nat) (xs:zdN) (hown:w.ownsRowF 0 e 1 v n xs) (s:zdJ) (hlen:n+s.size<=1099511627776):
 ∃v' w',(Builtin.append_ #[t,u] ty #[v, .string s]).run P w= .ok v' w'/\w'.ownsRowF 0 e 1 v' (n+s.size) (xs++Lib.strCells s)/\w.grownBy w' v.ownBlock/\(v'.ownBlock=v.ownBlock\/ ∃g',v'.ownBlock=some g'/\w.heap.size<=g'):=by
 rcases hown.2 with ⟨rfl,rfl⟩|⟨g,cap,cur,fz,rfl,hbg,hg,hfz,hnc,hcm,hcs,htake⟩
 ·obtain⟨v',w',h1,h2,h3,_⟩:=Lib.run_append_own_stringF (P:=P) w w.heap.size t u ty e i ht hu hi hz hsize hby (.slice none 0 0) 0 xs ⟨hown.1, .inl ⟨rfl,rfl⟩⟩ s (by unfold maxLen;omega) (by omega) (za0 _);refine⟨v',w',h1,afX h2,h3, ?_⟩;rcases h2.2 with ⟨rfl,_⟩|⟨g',_,_,_,rfl,hb,_⟩
  ·exact .inl rfl
  ·exact .inr ⟨g',rfl,hb⟩
 ·obtain⟨v',w',h1,h2,h3,_⟩:=Lib.run_append_own_stringF (P:=P) w 0 t u ty e i ht hu hi hz hsize hby _ n xs hown s (by unfold maxLen;omega) (by omega) (zaA _);refine⟨v',w',h1,h2,h3, ?_⟩;by_cases hroom:n+s.size<=cap
  ·have hr:=Lib.run_append_room_stringF (P:=P) w t u ty e i ht hu hi hsize g n cap cur fz hg (by simpa using hfz) s hroom (by rw[hcs];omega);rw[h1] at hr;simp only[Result.ok.injEq] at hr;rw[hr.1];exact .inl rfl
  ·have hxl:xs.length=n:=by simpa using hown.1
   have holds: ∀j u,xs[j]? =some u->w.cell? ((⟨g,0,none⟩:Addr).add j)=some u:=hown.cells (g:=g) rfl;have hr:=Lib.run_append_grow_string (P:=P) w t u ty e i (.int .u8 0) ht hu hi hz ⟨g,0,none⟩ n cap xs (by rw[hsize];simpa using hxl) holds s (by omega) (by omega) (by rw[hby];exact growslice_fits (by omega) (by omega));rw[h1] at hr;simp only[Result.ok.injEq] at hr;rw[hr.1];exact .inr ⟨_,rfl,za0 _⟩
theorem aid {ops:zdR} {rest:List Oper} {o:Oper} {a:Act} {Q:zdY} (hgd:o.guard=none) (sl x:Operand) (t u:TypeId)
 (ho:o.op= .call {callee:= .builtin .append,args:= #[sl,x],argTypes:= #[t,u]}) (e:TypeId) (i:TypeInfo) (ht:P.underlying t=some (.slice e)) (hu:P.underlying u=some .string) (hi:P.info? e=some i) (hz:i.zero=some (.int .u8 0)) (hsize:i.size=1) (hby:i.bytes=1)
 (v:Value) (n:Nat) (xs:zdN) (hs:a.eval sl=v) (hown:w.ownsRowF 0 e 1 v n xs) (s:zdJ) (hx:a.eval x= .string s) (hlen:n+s.size<=1099511627776)
 (h: ∀v' w',w'.ownsRowF 0 e 1 v' (n+s.size) (xs++Lib.strCells s)->w.grownBy w' v.ownBlock->(v'.ownBlock=v.ownBlock\/ ∃g',v'.ownBlock=some g'/\w.heap.size<=g')->wpList P ops Q rest (a.put o.dst v') w'):wpList P ops Q (o::rest) a w:=by
 refine wpList_plain hgd λK hK=> ?_;obtain⟨v',w',hr,h2,h3,h4⟩:=agT (P:=P) w t u o.type e i ht hu hi hz hsize hby v n xs hown s hlen;unfold Oper.wp execOp;simp only[ho,resolve,invoke,builtin,zdH,zdI,zdG,List.map_toArray,zaK,zc5,hs,hx,hr];exact hK _ _ (h v' w' h2 h3 h4)
theorem afY (b g:Nat) (t s:zdJ) (w:World) (h:BAt b g t w) (hlen:t.size+s.size<=1099511627776):
 Calls prog 94 #[.pointer (some ⟨b,0,none⟩), .string s] w λe w'=>e= .returned (.tuple #[.int .i64 s.size, .nilIface])/\ ∃g',BAt b g' (t++s) w'/\(g'=g\/w.heap.size<=g')/\Kept2 b g w w':=by
 obtain⟨i0,hi,hz0,hz1,hz2⟩:=info_parts Ej;obtain⟨p,v,hp,hbk0,hown0,hne,rfl,hgl,_⟩:=h;have hcc:Calls prog 164 #[.pointer (some ⟨b,0,none⟩)] w λe w'=>e= .returned (.tuple #[])/\w'.heap[b]? =some (.cells #[.pointer (some ⟨b,0,none⟩),v] 132 (0,0))/\w'.ownsRowF 0 5 1 v t.size (Lib.strCells t)/\(∀k,k≠b->w'.heap[k]? =w.heap[k]?)/\w'.heap.size=w.heap.size/\w'.os=w.os/\w'.tape=w.tape/\w'.output=w.output:=by
  rcases hp with rfl|rfl
  ·refine(qL b w (by rw[Lib.cell_of_heap hbk0];rfl) (by simp[World.shape?,hbk0]) (Lib.frozen_of_heap hbk0 0)).mono ?_;rintro e w' ⟨rfl,rfl⟩;have hk: ∀k,k≠b->(w.setCell ⟨b,0,none⟩ (.pointer (some ⟨b,0,none⟩))).heap[k]? =w.heap[k]? :=λk hk=>Below.heap_setCell _ _ _ _ hk;refine⟨rfl,by simp[World.setCell,zdp,hbk0], ?_,hk,by simp[World.setCell],rfl,rfl,rfl⟩;exact hown0.kept (row:=some b) ⟨rfl,rfl,rfl,by simp[World.setCell],λk _ hk'=>hk k (λe=>hk' (by simp[e]))⟩ (Or.inr hne)
  ·refine(tc b w (by rw[Lib.cell_of_heap hbk0];rfl)).mono ?_;rintro e w' ⟨rfl,rfl⟩;exact⟨rfl,hbk0,hown0,λ_ _=>rfl,rfl,rfl,rfl,rfl⟩
 go_enter func94,ntmps94;go_wp2_with (go_at_call 164;refine hcc.mono ?_);rintro e w1 ⟨rfl,hbk,hown,hoth,hs1,ho1,ho2,ho3⟩;have c0:w1.cell? ⟨b,0,none⟩=some (.pointer (some ⟨b,0,none⟩)):=by rw[Lib.cell_of_heap hbk];rfl
 have c1:w1.cell? ⟨b,1,none⟩=some v:=by rw[Lib.cell_of_heap hbk];rfl
 go_wp2_with (at_builtin;refine aid rfl _ _ 130 9 rfl 5 i0 underlying130 underlying9 hi hz0 hz1 hz2 _ _ _ rfl hown s rfl hlen ?_);intro v' w2 hown' hgrow hwhere;have hlt:b<w1.heap.size:=(zaq.1 hbk).1;have hb2:w2.heap[b]? =some (.cells #[.pointer (some ⟨b,0,none⟩),v] 132 (0,0)):=by
  rw[hgrow.block b hlt (λe=>hne e.symm)];exact hbk
 have d0:w2.cell? ⟨b,0,none⟩=some (.pointer (some ⟨b,0,none⟩)):=by rw[Lib.cell_of_heap hb2];rfl
 have d1:w2.cell? ⟨b,1,none⟩=some v:=by rw[Lib.cell_of_heap hb2];rfl
 have f1:w2.frozen? ⟨b,1,none⟩=false:=Lib.frozen_of_heap hb2 1;obtain⟨ao,n',cap,rfl⟩: ∃ao n' cap,v'= .slice ao n' cap:=by
  rcases hown'.2 with ⟨hv,_⟩|⟨g,cap,cur,fz,hv,_⟩
  ·exact⟨_,_,_,hv⟩
  ·exact⟨_,_,_,hv⟩
 go_wp2
 go_ret2
 have hne':=Lib.ownBlock_neF hown' hb2 (by decide);have hown2:(w2.setCell ⟨b,1,none⟩ (.slice ao n' cap)).ownsRowF 0 5 1 (.slice ao n' cap) (t.size+s.size) (Lib.strCells t++Lib.strCells s):=
  hown'.kept (row:=some b) ⟨rfl,rfl,rfl,by simp[World.setCell],λk _ hk'=>Below.heap_setCell _ _ _ _ (λe=>hk' (by simp[e]))⟩ (Or.inr hne')
 have hsz:(t++s).size=t.size+s.size:=ByteArray.size_append;refine⟨rfl,(Value.slice ao n' cap).ownBlock.getD b,agS (p:= .pointer (some ⟨b,0,none⟩)) (.inr rfl) ?_ (by rw[hsz,adH t s];exact hown2) hne', ?_, ?_⟩
 ·simp[World.setCell,zdp,hb2]
 ·rcases hwhere with h|⟨g',h,h2⟩
  ·left;rw[h]
  ·right;rw[h];first|exact h2|(rw[<-hs1];exact h2)
 ·refine⟨?_, ?_, ?_, ?_,λk hk h1 h2=> ?_⟩
  ·exact hgrow.os.trans ho1
  ·exact hgrow.tape.trans ho2
  ·exact hgrow.output.trans ho3
  ·rw[<-hs1];simp[World.setCell];exact hgrow.size
  ·rw[Below.heap_setCell _ _ _ _ h1,hgrow.block k (by omega) (λe=>h2 (by rw[<-e];rfl)),hoth k h1]
theorem aie (b g:Nat) (t:zdJ) (w:World) (h:BAt b g t w) (h1:1<=t.size):
 Calls prog 98 #[.pointer (some ⟨b,0,none⟩)] w λe w'=>e= .returned (.string t)/\Kept2 b g w w':=by
 obtain⟨p,v,hp,hbk,hown,hne,rfl,hgl,_⟩:=h;obtain⟨l,hl⟩: ∃l:List UInt8,t=⟨l.toArray⟩:=⟨t.data.toList,by simp⟩;subst hl;have hls:(⟨l.toArray⟩:zdJ).size=l.length:=by simp[ByteArray.size]
 rw[hls] at hown h1;have hl0:l≠ []:=by intro e;subst e;simp at h1
 obtain⟨g,cap,cur,fz,rfl,_,hg,hfz,hnc,hcm,hcs,htake⟩: ∃g cap cur fz,v= .slice (some ⟨g,0,none⟩) l.length cap/\0<=g/\w.heap[g]? =some (.cells cur 5 fz)/\fz.2<=l.length*1/\l.length<=cap/\cap<=maxLen/\cur.size=cap*1/\cur.toList.take (l.length*1)=Lib.strCells ⟨l.toArray⟩:=by
  rcases hown.2 with ⟨_,hz⟩|⟨g,cap,cur,fz,hv,r⟩
  ·omega
  ·exact⟨g,cap,cur,fz,hv,r⟩
 have hbc:Lib.strCells ⟨l.toArray⟩=Lib.byteCells l:=by rw[Lib.strCells_eq]
 rw[hbc] at hown;have c1:w.drew.cell? ⟨b,1,none⟩=some (.slice (some ⟨g,0,none⟩) l.length cap):=by
  have:w.drew.heap[b]? =some (.cells #[p, .slice (some ⟨g,0,none⟩) l.length cap] 132 (0,0)):=hbk;rw[Lib.cell_of_heap this];rfl
 have hSD:(Builtin.unsafeSliceData_ #[130] 207 #[.slice (some ⟨g,0,none⟩) l.length cap]).run prog w.drew= .ok (.pointer (some ⟨g,0,none⟩)) w.drew:=
  Lib.run_unsafeSliceData_row _ _ _ _ _ _ (by omega)
 have hUS:(Builtin.unsafeString_ #[207,3] 9 #[.pointer (some ⟨g,0,none⟩), .int .i64 l.length]).run prog w.drew= .ok (.string ⟨l.toArray⟩) (w.drew.freeze ⟨g,0,none⟩ l.length):=by
  refine Lib.run_unsafeString_row w.drew 207 3 9 5 underlying207 (by kernel_rfl) g cur.size (by have hg':w.drew.heap[g]? =some (.cells cur 5 fz):=hg;simp[World.shape?,hg']) l hl0 (by omega) (by unfold maxLen at hcm;omega) ?_;intro j x hx;have:=hown.cells (g:=g) rfl j (.int .u8 x.toNat) (by simp[Lib.byteCells,hx]);exact this
 have hk:Kept2 b g w (w.drew.freeze ⟨g,0,none⟩ l.length):=by
  refine⟨?_, ?_, ?_, ?_,λk _ _ h2=> ?_⟩
  ·unfold World.freeze;split<;>rfl
  ·unfold World.freeze;split<;>rfl
  ·unfold World.freeze;split<;>rfl
  ·unfold World.freeze;split
   ·exact za0 _
   ·show w.heap.size<=(w.heap.modify g _).size;rw[Array.size_modify];exact za0 _
  ·unfold World.freeze;split
   ·rfl
   ·show (w.heap.modify g _)[k]? =_;rw[zdp,if_neg (Ne.symm h2)]
 have mixed:prog.follows .mixedOrders=true:=by kernel_rfl
 go_enter func98,ntmps98;go_wp2
 go_region_o
 all_goals (go_wp2;go_ret;exact⟨rfl,hk⟩)
def bdS:BD:=⟨94,98,132⟩
theorem vK:ahr prog bdS:=⟨BAt,{
 zero:=by kernel_rfl
 fresh:=λw=>by
  have hat:(w.alloc (.cells #[.pointer none, .slice none 0 0] 132)).heap[w.heap.size]? =some (.cells #[.pointer none, .slice none 0 0] 132 (0,0)):=by show (w.heap.push _)[w.heap.size]? =_;simp
  exact agS (p:= .pointer none) (v:= .slice none 0 0) (.inl rfl) hat ⟨rfl, .inl ⟨rfl,rfl⟩⟩ (by simp[Value.ownBlock])
 keep:=λb g t w w' h h1 h2=>by
  obtain⟨p,v,hp,k1,k2,k3,rfl,k4,k5⟩:=h;refine⟨p,v,hp,by rw[h1];exact k1, ?_,k3,rfl, ?_,λes c=>by rw[h2];exact k5 es c⟩
  ·refine⟨k2.1, ?_⟩;rcases k2.2 with h|⟨g,cap,cur,fz,rfl,e1,e2,e3⟩
   ·exact .inl h
   ·exact .inr ⟨g,cap,cur,fz,rfl,e1,by rw[<-e2];exact h2,e3⟩
  ·rcases zah (v.ownBlock.getD b) w'.heap.size with h|h
   ·exact h
   ·rw[zcD h] at h2;have:w.heap[v.ownBlock.getD b]? =some w.heap[v.ownBlock.getD b]:=by simp[k4]
    rw[this] at h2;cases h2
 lt:=λb g t w h=>by
  obtain⟨p,v,hp,k1,k2,k3,rfl,k4,k5⟩:=h;exact⟨(zaq.1 k1).1,k4,λes c=>⟨by rw[k1];simp,k5 es c⟩⟩
 write:=afY
 str:=aie
 cw:=call94
 cs:=call98}⟩
def yr:List FuncId:=NK++aeE
theorem vT: ∀f∈yr,V0 prog f:=λf h=>by
 unfold yr at h;rcases za8.1 h with h|h
 ·exact Lj f h
 ·exact ae8 f h
def g9n:List (FuncId×Ctr):=(95,k1 cI cS cl ofI)::(267,k2 cS cS (cP3 cS cS cB) (λs _=>decide (s.size<=1000000)) abn)::gE8
theorem aiL:GEk g9n:=(aiJ.cons (λa W hW=>abS hW.1) call267).cons (λa W hW=>ahz hW.1) call95
def adI:MCtr:=λ_ _ args=>match args with
 | [.val (.string s)]=>bif abR s then some {X:=Unit,pre:=decide (s.size<=1000000),spec:=λ_=>True,out:=λ_=> .tup [.val (.int .i64 (ab0 s)), .val .nilIface],ex:=λ_=>⟨(),trivial⟩} else none
 |_=>none
variable {B:Base}
theorem adu (hB:GlobB B):VU prog B 170 adI:=by
 intro bl β w nx args C' a b c d e p;unfold adI at e;split at e
 ·rename_i s;cases hn:abR s with
  |false=>rw[hn] at e;cases e
  |true=>
   rw[hn] at e;simp only[zdt,za1] at e;subst e;refine Calls.mono (agA hB bl β w nx [.val (.string s)] _ a b c d rfl p) ?_;rintro e w' ⟨x,hx,β',q1,q2,q3,q4⟩;have hx:abJ s x:=hx;unfold abJ at hx;rw[hn] at hx;obtain rfl:x=_:=hx;exact⟨(),trivial,β',q1,q2,q3,q4⟩
 ·cases e
def agU:zdZ:= [(16,pN),(14,xi),(21,zm),(33,acd),(169,abt),(100,abV),(170,adI)]
theorem aif {a:Addr}:MEk a agU:=by
 unfold agU;exact((((((MEk.nil.cons λB hB=>adu hB.gU).cons λB hB=>adm hB.gU).cons λB hB=>abG).cons acz).cons λB hB=>tP B hB.gU).cons λB hB=>vM B hB.gU).cons λB hB=>lZ B hB.gU
@[irreducible] def Xk (a:Addr) (ann:zdX) (n:Nat) (f:FuncId) (args:zdM) (Cs:zdW) (K:Aft):Prop:=
 Ay prog (iR yr) (gw g9n) (gx agU) (dF a) ann n f args (λi=>Cs[i]?) Cs.length [] K
theorem ak2 {a:Addr} (hB:GlobEB a B):HypD prog B (iR yr) (gw g9n) (gx agU) (dF a):=
 have h:=ac9 (gm:=agU) aiL aif hB
 ⟨h.gam,h.mem,h.dem,λf hf=>by
   unfold iR at hf;simp only[zaP] at hf;obtain⟨g,hg,hb⟩:=hf
   rw[zab hb];exact vT g hg,h.mixed⟩
def opW:Nat->zdJ
 |0=>⟨#[99,111,110,115,116]⟩
 |1=>⟨#[105,110,112,117,116]⟩
 |2=>⟨#[97,100,100]⟩
 |3=>⟨#[115,117,98]⟩
 |4=>⟨#[109,117,108]⟩
 |5=>⟨#[100,105,118]⟩
 |6=>⟨#[112,111,119]⟩
 |_=>⟨#[115,113,114,116]⟩
def opN (w:zdJ):Nat->Int
 |0=>0
 |k+1=>bif seq (opW k) w then(k:Int)+1 else opN w k
def aiM (A:AS) (t:Nat):zdJ:=match A.tm t with
 | .v (.val (.string s))=>s
 |_=>⟨#[]⟩
abbrev WdX:=Int×(zdS)
def acD (f:zdS):Nat->Nat
 |0=>0
 |k+1=>acD f k+(f k).toNat
def afZ (f:FuncId):zdX:=λg k=>bif Nat.beq f g&&Nat.beq k 4294967295 then some (λ_=>{X:=Unit,inv:=λ_=>True,tm:=λ_=> [],mu:=λ_=>0,bd:=some bdS}) else none
def ak3 (I:ByteArray->WdX->Prop):zdX:=λf k=>bif Nat.beq f 227&&Nat.beq k 10 then some (λA=>{X:=WdX,inv:=I (aiM A 5),tm:=λ_=> [],bk:= [(kA A 79,λx e=>match e with|0=> []|e+1=> [.val (.bool (x.2 e))])],st:= [(kA A 10,λx=> .val (.int .i64 x.1)::(qv A 10 0).drop 1)],mu:=λx=>acD x.2 8,keep:= [0,1,4,5,6,7,10,79],clean:=by intro p hp x e;simp at hp;subst hp;cases e<;>rfl,fix:= [(kA A 10,0,0, .val (.int .i64 (opN (aiM A 5) 8)))]}) else none
def orA (a b:zdX):zdX:=λf k=>match a f k with
 |some x=>some x
 |none=>b f k
def alF (I:ByteArray->WdX->Prop):zdX:=orA (afZ 34) (orA (afZ 97) (orA (afZ 7) (ak3 I)))
def u0:Un:=aT 0
def u2:Un:=aT 2
def uo:Un:=(fd u0 u2).1
def nI9 (n:Int):Nd:=⟨2,VI,noU,n,0,0⟩
def nD9:Nd:=⟨6,VI,noU,0,0,1⟩
def spP:Pr:=⟨1, [u0,u2], [nI9 0,nI9 1,nD9],uo⟩
def bdK (K:Prop):Prop:=ahr prog bdS/\K
def uK (K:Prop):Prop:=Unit->True->K
def spT:zdJ:=⟨#[112,114,111,99,101,100,117,114,101,32,49,10,103,105,118,101,110,32,100,105,102,102,101,114,101,110,99,101,32,107,105,110,100,32,48,32,102,97,99,116,111,114,32,49,32,111,102,102,115,101,116,32,48,32,109,94,49,10,103,105,118,101,110,32,100,105,102,102,101,114,101,110,99,101,32,107,105,110,100,32,48,32,102,97,99,116,111,114,32,49,32,111,102,102,115,101,116,32,48,32,115,94,49,10,105,110,112,117,116,32,48,10,105,110,112,117,116,32,49,10,100,105,118,32,48,32,49,10,111,117,116,112,117,116,32,100,105,102,102,101,114,101,110,99,101,32,107,105,110,100,32,48,32,102,97,99,116,111,114,32,49,32,111,102,102,115,101,116,32,48,32,109,94,49,32,115,94,45,49,10]⟩
def afq (Q:zdT):Prop:=af (jn spP) (uK (bdK (bdK (uK (bdK (uK (bdK (bdK (bdK (bdK (uK (bdK (bdK (Q (.tup [.val (.string spT), .val (.int .i64 0)])))))))))))))))
theorem af0 (a:Addr) (I:ByteArray->WdX->Prop) (Q:zdT):Xk a (alF I) 9 34 [kB spP] [eU.old spP.inp,eN.old spP.nod] (Go.Sy.okK λr _ _ _=>Q r)=afq Q:=by kernel_rfl
end Go.Proofs.YtdbnankjpnpojaaGreatDoor
namespace Yk
open Go Go.RowKit Go.Sy
def RQ (y:I4):zdM:= [.val (.int .i64 y.1), .val (.int .i64 y.2.1), .val (.int .i64 y.2.2.1), .val (.int .i64 y.2.2.2)]
def Ud:List SV->I4
 | [.val (.int .i64 a), .val (.int .i64 b), .val (.int .i64 c), .val (.int .i64 d)]=>(a,b,c,d)
 |_=>(0,0,0,0)
def e4:El I4:={sz:=4,sv:=RQ,of:=Ud,d:=(0,0,0,0),rt:=λ_=>rfl,ids:=λ_=>rfl,len:=λ_=>rfl,one:=by decide}
def uz4 (y:I4):Bool:=cl y.1&&cl y.2.1&&cl y.2.2.1&&cl y.2.2.2
structure Cas where
 a:Int×Int×Int
 k:Int
 x:List I4
 e:Bool
 v:(Int×Int)×(Int×Int)×(Int×Int)
def Cas.ok (c:Cas):Bool:=cl c.a.1&&cl c.a.2.1&&cl c.a.2.2&&cl c.k&&c.x.all uz4&&cl c.v.1.1&&cl c.v.1.2&&cl c.v.2.1.1&&cl c.v.2.1.2&&cl c.v.2.2.1&&cl c.v.2.2.2
end Yk
namespace Go.Proofs.YtdbnankjpnpojaaGreatDoor
open Go.Proofs.Tryz
open Go Go.RowKit Go.Sy Yk
def T9 (k:Int):Int:=F8 [2, -1,3, -2,1] (0+k.toNat)
def opF (y:I4):Int:=1+co y.1 8
def RR (ni n:Int) (y:I4):Nd:=
 bif opF y==1 then⟨opF y,(rMk (co y.2.1 13 - 6) (1+co y.2.2.1 4)).1,BL y.2.2.2,0,0,0⟩ else
 bif opF y==2 then⟨opF y,VI,noU,co y.2.1 ni,0,0⟩ else
 bif opF y==7 then⟨opF y,VI,noU,T9 (co y.2.2.1 5),co y.2.1 n,0⟩ else
 bif opF y==8 then⟨opF y,VI,noU,0,co y.2.1 n,0⟩ else⟨opF y,VI,noU,0,co y.2.1 n,co y.2.2.1 n⟩
def TH (ex:Bool) (inp:ze1) (y:I4) (z:List Nd×List Un):List Nd×List Un:=
 match mn inp z.2 (RR inp.length z.1.length y) with
 |some u=>bif !ex||opF y !=8 then(z.1++ [RR inp.length z.1.length y],z.2++ [u]) else z
 |none=>z
def RT (ex:Bool) (inp:ze1):List I4->List Nd×List Un->List Nd×List Un
 | [],z=>z
 |y::r,z=>bif decide (z.1.length<14) then RT ex inp r (TH ex inp y z) else z
def QQ (a:Int×Int×Int) (k:Nat):ze1:=Go.Sy.tab (λj=>BL (mb 0 [a.1,a.2.1,a.2.2] j)) k
def R9 (k:Nat):ze2:=Go.Sy.tab (λj=>nIn j) k
def Rb (a:Int×Int×Int) (count:Int) (xs:List I4) (ex:Bool):List Nd×List Un:=RT ex (QQ a ((co count 3).toNat+1)) xs (R9 ((co count 3).toNat+1),QQ a ((co count 3).toNat+1))
def Bd (a:Int×Int×Int) (count:Int) (xs:List I4) (ex:Bool):Pr:=
 ⟨1+co count 900,QQ a ((co count 3).toNat+1),(Rb a count xs ex).1,ly (Rb a count xs ex).2⟩
theorem Rv {inp:ze1} {x:Nd} {u:Un}: ∀{l:ze2} {us vs:ze1},iB inp l us=(vs,true)->mn inp vs x=some u->iB inp (l++ [x]) us=(vs++ [u],true)
 | [],us,vs,h,k=>by
   simp only[iB,zag,and_true] at h;subst h;simp only[zaM,iB,k]
 |y::r,us,vs,h,k=>by
  simp only[zaO,iB] at h ⊢;cases e:mn inp us y with
  |none=>rw[e] at h;simp only[zag] at h;cases h.2
  |some v=>rw[e] at h;exact Rv h k
structure MadOK (inp:List Un) (z:List Nd×List Un):Prop where
 len:z.2.length=z.1.length
 pos:1<=z.1.length
 le:z.1.length<=14
 un:iB inp z.1 []=(z.2,true)
 szn: ∀x∈z.1,szN x=true
 szu: ∀u∈z.2,szB u=true
theorem RK (p:Un->Bool) (h: [aT 0,aT 2,{aT 0 with f:=(⟨#[49]⟩,⟨#[49,48,48,48]⟩)},(fd (aT 0) (aT 0)).1,{aT 4 with s:=0,o:=(⟨#[53,52,54,51]⟩,⟨#[50,48]⟩)},aT 4,(mi (aT 0) (aT 0)).1].all p=true) (n:Int):p (BL n)=true:=by
 have B: ∀(b:Bool) (x y:Un),p x=true->p y=true->p (cond b x y)=true:=λb x y h k=>by cases b;exact k;exact h
 simp only[List.all_cons,List.all_nil,zaQ,za2] at h;unfold BL;exact B _ _ _ h.1 (B _ _ _ h.2.1 (B _ _ _ h.2.2.1 (B _ _ _ h.2.2.2.1 (B _ _ _ h.2.2.2.2.1 (B _ _ _ h.2.2.2.2.2.1 h.2.2.2.2.2.2)))))
theorem Sa (n:Int):VK (BL n)=true:=RK VK (by kernel_rfl) n
theorem QY (n:Int):szB (BL n)=true:=RK szB (by kernel_rfl) n
theorem Sr (ni n:Int) (y:I4):szN (RR ni n y)=true:=by
 have B: ∀(b:Bool) (x y:Nd),szN x=true->szN y=true->szN (cond b x y)=true:=λb x y h k=>by cases b;exact k;exact h
 unfold RR;refine B _ _ _ ?_ (B _ _ _ lB (B _ _ _ lB (B _ _ _ lB lB)));show (uzR (rMk _ _).1&&szB (BL _))=true;rw[alg,QY];rfl
theorem MadOK.step {ex:Bool} {inp:ze1} {y:I4} {z:List Nd×List Un} (hi: ∀u∈inp,szB u=true) (h:MadOK inp z) (hl:z.1.length<14):MadOK inp (TH ex inp y z):=by
 unfold TH;split
 ·rename_i u hu;cases !ex||opF y !=8 with
  |false=>exact h
  |true=>
   have hx:=Sr inp.length z.1.length y;refine⟨by simp[h.len],by simp,by simp;omega,Rv h.un hu,λx hx'=> ?_,λv hv=> ?_⟩
   ·rcases za8.1 hx' with a|a
    ·exact h.szn x a
    ·rw[zaj.1 a];exact hx
   ·rcases za8.1 hv with a|a
    ·exact h.szu v a
    ·rw[zaj.1 a];exact CR hx hi h.szu hu
 ·exact h
theorem MadOK.all {ex:Bool} {inp:ze1} (hi: ∀u∈inp,szB u=true): ∀{xs:List I4} {z:List Nd×List Un},MadOK inp z->MadOK inp (RT ex inp xs z)
 | [],z,h=>h
 |y::r,z,h=>by
  unfold RT;cases hl:decide (z.1.length<14) with
  |false=>exact h
  |true=>exact MadOK.all hi (h.step hi (zdw hl))
theorem QT {a:Int×Int×Int} {p:Un->Bool} (hp: ∀n,p (BL n)=true): ∀{k:Nat},∀u∈QQ a k,p u=true
 |0,u,h=>by cases h
 |k+1,u,h=>by
  rcases za8.1 h with h|h
  ·exact QT hp u h
  ·rw[zaj.1 h];exact hp _
variable {k:Nat}
theorem QR {a:Int×Int×Int} :(QQ a k).length=k:=fJ _ _
theorem QZ:(R9 k).length=k:=fJ _ _
theorem Si {a:Int×Int×Int} {K:Nat}: ∀{k:Nat},k<=K->iB (QQ a K) (R9 k) []=(QQ a k,true)
 |0,_=>rfl
 |k+1,h=>Rv (Si (Nat.le_of_succ_le h)) (by
  have e:mb noU (QQ a K) k=BL (mb 0 [a.1,a.2.1,a.2.2] k):=bR (qX _ (by omega));have f:VT (QQ a k).length (nIn k)=true:=rfl;have u:fL (QQ a K) (QQ a k) (nIn k)=(BL (mb 0 [a.1,a.2.1,a.2.2] k),0):=by
   show (bif decide (0<=((k:Nat):Int))&&decide (((k:Nat):Int)<((QQ a K).length:Int)) then(mb noU (QQ a K) ((k:Nat):Int).toNat,0) else(noU,90))=_;rw[QR,zdr (by omega),zdr (by omega),zd3,e];rfl
  show mn (QQ a K) (QQ a k) (nIn k)=some (BL (mb 0 [a.1,a.2.1,a.2.2] k));unfold mn
  rw[f,u];rfl)
theorem RU: ∀{k:Nat},∀x∈R9 k,szN x=true
 |0,x,h=>by cases h
 |k+1,x,h=>by
  rcases za8.1 h with h|h
  ·exact RU x h
  ·rw[zaj.1 h];exact lB
section
variable {a:Int×Int×Int} {count:Int} {xs:List I4} {ex:Bool}
theorem Rc:1<=(co count 3).toNat+1/\(co count 3).toNat+1<=3:=by
 have:=gR count (n:=3) (by decide);omega
theorem Sj:MadOK (QQ a ((co count 3).toNat+1)) (Rb a count xs ex):=by
 have:=Rc (count:=count);exact MadOK.all (QT QY) ⟨by rw[QR,QZ],by rw[QZ];exact this.1,by rw[QZ];omega,Si (za0 _),RU,QT QY⟩
theorem Sk:VM (Bd a count xs ex)=true:=by
 have h:=Sj (a:=a) (count:=count) (xs:=xs) (ex:=ex);have n:=Rc (count:=count);have b:=gR count (n:=900) (by decide);have hb:oB (Bd a count xs ex)=true:=Wb.2 ⟨⟨by show 1<=1+co count 900;omega,by show 1+co count 900<=1000000;omega,by show (QQ a _).length<=6;rw[QR];omega⟩,zaf.2 (QT Sa),h.pos,by have:=h.le;show (Rb a count xs ex).1.length<=40;omega⟩;unfold VM VJ;rw[hb,zdt,show iB (Bd a count xs ex).inp (Bd a count xs ex).nod []=((Rb a count xs ex).2,true) from h.un];show ((bif eqU (ly (Rb a count xs ex).2) (ly (Rb a count xs ex).2) then _ else _:List Un×Int×Int).2.2==0)=true;rw[show eqU (ly (Rb a count xs ex).2) (ly (Rb a count xs ex).2)=true from Wh.2 rfl];rfl
theorem SO {us:ze1} (h: ∀u∈us,szB u=true):szB (ly us)=true:=eH h _
theorem Tn:aci (Bd a count xs ex)=true:=by
 have h:=Sj (a:=a) (count:=count) (xs:=xs) (ex:=ex);unfold aci;rw[show (Bd a count xs ex).inp.all szB=true from zaf.2 (QT QY),show (Bd a count xs ex).nod.all szN=true from zaf.2 h.szn,show szB (Bd a count xs ex).out=true from SO h.szu];rfl
theorem Sb:1<=(Bd a count xs ex).inp.length/\(Bd a count xs ex).inp.length<=3/\1<=(Bd a count xs ex).nod.length/\(Bd a count xs ex).nod.length<=14:=by
 have h:=Sj (a:=a) (count:=count) (xs:=xs) (ex:=ex);have n:=Rc (count:=count);refine⟨?_, ?_,h.pos,h.le⟩
 ·show 1<=(QQ a _).length;rw[QR];omega
 ·show (QQ a _).length<=3;rw[QR];omega
end
def tyF (inp us:ze1) (x:Nd):Un×Int:=match mn inp us x with
 |some u=>(u,0)
 |none=>(noU,90)
def tyB (p:Pr) (us:ze1):zdW:= [eU.old p.inp,eN.old p.nod,eU.old us]
def tyA (p:Pr) (us:ze1) (x:Nd) (at_:Int):zdM:= [kB p, .agg (svN x),cI.enc at_, .slc 2 0 us.length]
abbrev Re (op:Int) (p:Pr) (us:ze1) (x:Nd) (at_:Int) (Q:zdT):Prop:=JL [] (λ_ _=>none) 6 47 (tyA p us {x with op:=op} at_) (tyB p us) (Go.Sy.okK λr _ _ _=>Q r)
def QS:SV:= .tup [.agg (ci noU), .val (.int .i64 90)]
def RA (u:Un):SV:= .tup [.agg (ci u), .val (.int .i64 0)]
def Ss (r:Un×Int) (Q:zdT):Prop:=ag (r.2 !=0) (Q QS) (Q (RA r.1))
def wiB (n lo hi:Int):Bool:=bif decide (n≥lo) then decide (n<=hi) else false
def TM (x:Nd) (Q:zdT):Prop:=af (uzR x.v) (af (aH x.u) (ag (!(bif (bif eqN {x with op:=1} {noN with op:=1,v:=x.v,u:=x.u} then rV x.v else false) then iy x.u else false)) (Q QS) (Q (RA x.u))))
def TN (p:Pr) (x:Nd) (Q:zdT):Prop:=af (dC (eqN {x with op:=2} {noN with op:=2,n:=x.n}) (inR .i64 ((p.inp.length:Int) - 1))) (ag (eqN {x with op:=2} {noN with op:=2,n:=x.n})
 (ag (!wiB x.n 0 ((p.inp.length:Int) - 1)) (Q QS) (eO p.inp.length x.n (Q (RA (mb noU p.inp (0+x.n.toNat)))))) (Q QS))
def SG (op:Int) (f:Un->Un->Un×Int) (us:ze1) (x:Nd) (a:Int) (Q:zdT):Prop:=
 af (dC (eqN {x with op:=op} {noN with op:=op,l:=x.l,r:=x.r}) (inR .i64 (a - 1))) (ag (eqN {x with op:=op} {noN with op:=op,l:=x.l,r:=x.r})
  (af (dC (wiB x.l 0 (a - 1)) (inR .i64 (a - 1))) (ag (wiB x.l 0 (a - 1)) (ag (!wiB x.r 0 (a - 1)) (Q QS) (pL us x λu v=>Ss (f u v) Q)) (Q QS)))
  (af (dC false (inR .i64 (a - 1))) (Q QS)))
def TO (us:ze1) (x:Nd) (a:Int) (Q:zdT):Prop:=
 af (dC (eqN {x with op:=7} {noN with op:=7,n:=x.n,l:=x.l}) (inR .i64 (a - 1))) (ag (eqN {x with op:=7} {noN with op:=7,n:=x.n,l:=x.l})
  (ag (wiB x.l 0 (a - 1)) (ag (!(bif wiB x.n (-4) 4 then x.n !=0 else false)) (Q QS) (eO us.length x.l (eO us.length x.r (af (aH (mb noU us (0+x.l.toNat))) (Ss (jm (mb noU us (0+x.l.toNat)) (x.n,1)) Q))))) (Q QS)) (Q QS))
def TP (us:ze1) (x:Nd) (a:Int) (Q:zdT):Prop:=
 af (dC (eqN {x with op:=8} {noN with op:=8,l:=x.l}) (inR .i64 (a - 1))) (ag (eqN {x with op:=8} {noN with op:=8,l:=x.l})
  (ag (!wiB x.l 0 (a - 1)) (Q QS) (eO us.length x.l (eO us.length x.r (af (aH (mb noU us (0+x.l.toNat))) (Ss (jm (mb noU us (0+x.l.toNat)) (1,2)) Q))))) (Q QS))
theorem TQ (p:Pr) (us:ze1) (x:Nd) (a:Int) (Q:zdT):Re 1 p us x a Q=TM x Q:=by kernel_rfl
theorem TR (p:Pr) (us:ze1) (x:Nd) (a:Int) (Q:zdT):Re 2 p us x a Q=TN p x Q:=by kernel_rfl
theorem TS (p:Pr) (us:ze1) (x:Nd) (a:Int) (Q:zdT):Re 3 p us x a Q=SG 3 iS us x a Q:=by kernel_rfl
theorem TT (p:Pr) (us:ze1) (x:Nd) (a:Int) (Q:zdT):Re 4 p us x a Q=SG 4 fw us x a Q:=by kernel_rfl
theorem TU (p:Pr) (us:ze1) (x:Nd) (a:Int) (Q:zdT):Re 5 p us x a Q=SG 5 mi us x a Q:=by kernel_rfl
theorem TW (p:Pr) (us:ze1) (x:Nd) (a:Int) (Q:zdT):Re 6 p us x a Q=SG 6 fd us x a Q:=by kernel_rfl
theorem TX (p:Pr) (us:ze1) (x:Nd) (a:Int) (Q:zdT):Re 7 p us x a Q=TO us x a Q:=by kernel_rfl
theorem TY (p:Pr) (us:ze1) (x:Nd) (a:Int) (Q:zdT):Re 8 p us x a Q=TP us x a Q:=by kernel_rfl
def SZ:MCtr:=λbl _ args=>match args with
 | [s, .agg cs, .val (.int .i64 at_),t]=>match mC bl s,vW bl 20 t with
   |some a,some (b,_,n,g)=>some {X:=Unit,pre:=a.need&&b&&bW n&&eU.good szB n g&&ndB cs&&szN (Vh cs)&&decide (at_=(n:Int))&&decide (1<=(Vh cs).op)&&decide ((Vh cs).op<=8),spec:=λ_=>True,out:=λ_=> .tup [.agg (ci (tyF a.p.inp (eU.list n g) (Vh cs)).1), .val (.int .i64 (tyF a.p.inp (eU.list n g) (Vh cs)).2)],ex:=λ_=>⟨(),trivial⟩}
   |_,_=>none
 |_=>none
theorem Wn {x y:Nd}:eqN x y=true↔x=y:=by
 obtain⟨a1,a2,a3,a4,a5,a6⟩:=x;obtain⟨b1,b2,b3,b4,b5,b6⟩:=y;simp only[eqN,za2,zdA,Wg,Wh,Nd.mk.injEq,and_true]
theorem Rf {a b c d:Nd} (h:a=b↔c=d):eqN a b=eqN c d:=by
 rw[zax,Wn,Wn];exact h
theorem Q4 {n:Nat} {i:Int}:wiB i 0 ((n:Int) - 1)=Go.Proofs.YtdbnankjpnpojaaGreatDoor.earF n i:=by
 rw[zax,V2];unfold wiB;by_cases h:i≥0
 ·rw[zdr h,zdt,zdv];omega
 ·rw[zdu h,zds];simp;omega
theorem Q5 {a b:Bool} {K:Prop} (h:b=true) (k:K):af (dC a b) K:=ac (yd h) k
section
variable {inp us:ze1} {x:Nd} {Q:zdT}
theorem tyQ (h:Q (.tup [.agg (ci (tyF inp us x).1), .val (.int .i64 (tyF inp us x).2)])):(mn inp us x=none->Q QS)/\(∀u,mn inp us x=some u->Q (RA u)):=by
 unfold tyF at h;exact⟨λe=>by rw[e] at h;exact h,λu e=>by rw[e] at h;exact h⟩
theorem QW (h:VT us.length x=false):mn inp us x=none:=by unfold mn;rw[h];rfl
theorem Q6 (h:VT us.length x=true):mn inp us x=bif (fL inp us x).2==0 then some (fL inp us x).1 else none:=by unfold mn;rw[h];rfl
theorem Rx {r:Un×Int} (hf:VT us.length x=true) (hu:fL inp us x=r) (hb:mn inp us x=none->Q QS) (ho: ∀u,mn inp us x=some u->Q (RA u)):Ss r Q:=by
 have t:=Q6 (inp:=inp) hf;rw[hu] at t;refine ah (λh=>hb ?_) (λh=>ho _ ?_)
 ·rw[t,show (r.2==0)=false by simpa using h];rfl
 ·rw[t,show (r.2==0)=true by simpa using h];rfl
theorem TZ (o:x.op=1) (hx:szN x=true) (hb:mn inp us x=none->Q QS) (ho: ∀u,mn inp us x=some u->Q (RA u)):TM x Q:=by
 unfold szN at hx;rw[za2] at hx;have hform:VT us.length x=eqN {x with op:=1} {noN with op:=1,v:=x.v,u:=x.u}:=by
  unfold VT;rw[o];exact Rf (by obtain⟨a1,a2,a3,a4,a5,a6⟩:=x;simp[noN])
 have huni:fL inp us x=bif rV x.v&&VK x.u then(x.u,0) else(noU,90):=by unfold fL;rw[o];rfl
 unfold TM;rw[<-hform,jE];refine ac hx.1 (ac hx.2 (ah (λh=>hb ?_) (λh=>ho _ ?_)))
 ·cases f:VT us.length x with
  |false=>exact QW f
  |true=>
   rw[Q6 f,huni];rw[f] at h;cases a:rV x.v with
   |false=>rfl
   |true=>cases b:VK x.u with
    |false=>rfl
    |true=>rw[a,b] at h;cases h
 ·cases f:VT us.length x with
  |false=>rw[f] at h;cases h
  |true=>
   rw[Q6 f,huni];rw[f] at h;cases a:rV x.v with
   |false=>rw[a] at h;cases h
   |true=>cases b:VK x.u with
    |false=>rw[a,b] at h;cases h
    |true=>rfl
theorem T0 {p:Pr} (hp:p.inp=inp) (hl:inp.length<=1000000) (o:x.op=2) (hb:mn inp us x=none->Q QS) (ho: ∀u,mn inp us x=some u->Q (RA u)):TN p x Q:=by
 subst hp;have hform:VT us.length x=eqN {x with op:=2} {noN with op:=2,n:=x.n}:=by
  unfold VT;rw[o];show eqN ⟨0,x.v,x.u,0,x.l,x.r⟩ noN=_;exact Rf (by obtain⟨a1,a2,a3,a4,a5,a6⟩:=x;simp[noN])
 have huni:fL p.inp us x=bif decide (0<=x.n)&&decide (x.n<(p.inp.length:Int)) then(mb noU p.inp x.n.toNat,0) else(noU,90):=by unfold fL;rw[o];rfl
 unfold TN;rw[<-hform];refine Q5 (VP.2 (by omega)) (ah (λf=>ah (λh=>hb ?_) (λh=> ?_)) (λf=>hb (QW f)))
 ·rw[Q6 f,huni];rw[Q4] at h;have:earF p.inp.length x.n=false:=by simpa using h
  rw[show (decide (0<=x.n)&&decide (x.n<(p.inp.length:Int)))=false from this];rfl
 ·rw[Q4] at h;have h':earF p.inp.length x.n=true:=by simpa using h
  have e:=V2.1 h';refine aY e.1 e.2 (ho _ ?_);rw[Q6 f,huni,show (decide (0<=x.n)&&decide (x.n<(p.inp.length:Int)))=true from h',za7];rfl
variable {a:Int}
theorem RV {op:Int} {f:Un->Un->Un×Int} (o:x.op=op) (hop:3<=op/\op<=6) (ha:a=(us.length:Int)) (hl:us.length<=1000000) (hu: ∀u∈us,szB u=true) (huni:fL inp us x=f (mb noU us x.l.toNat) (mb noU us x.r.toNat)) (hb:mn inp us x=none->Q QS) (ho: ∀u,mn inp us x=some u->Q (RA u)):SG op f us x a Q:=by
 subst ha;have hform:VT us.length x=(eqN {x with op:=op} {noN with op:=op,l:=x.l,r:=x.r}&&earF us.length x.l&&earF us.length x.r):=by
  unfold VT;rw[zdy (show x.op≠1 by omega),zdy (show x.op≠2 by omega),zdr (show 3<=x.op by omega),zdr (show x.op<=6 by omega)];show (eqN ⟨0,x.v,x.u,x.n,0,0⟩ noN&&_&&_)=_;rw[Rf (a:=⟨0,x.v,x.u,x.n,0,0⟩) (b:=noN) (c:={x with op:=op}) (d:={noN with op:=op,l:=x.l,r:=x.r}) (by obtain⟨a1,a2,a3,a4,a5,a6⟩:=x;simp[noN])]
 unfold SG;rw[Q4,Q4];generalize eqN {x with op:=op} {noN with op:=op,l:=x.l,r:=x.r}=e at hform;have r:inR .i64 ((us.length:Int) - 1)=true:=VP.2 (by omega);refine Q5 r (ah (λh1=>Q5 r (ah (λh2=>ah (λh3=>hb (QW ?_)) (λh3=> ?_)) (λh2=>hb (QW ?_)))) (λh1=>Q5 r (hb (QW ?_))))
 ·rw[hform,show earF us.length x.r=false by simpa using h3,Bool.and_false]
 ·have h3:earF us.length x.r=true:=by simpa using h3
  have e2:=V2.1 h2;have e3:=V2.1 h3;unfold pL;rw[za7,za7];exact aY e2.1 e2.2 (aY e3.1 e3.2 (ac (by rw[eH hu,eH hu];rfl) (Rx (by rw[hform,h1,h2,h3];rfl) huni hb ho)))
 ·rw[hform,h2,Bool.and_false];rfl
 ·rw[hform,h1];rfl
theorem T3 (o:x.op=7) (ha:a=(us.length:Int)) (hl:us.length<=1000000) (hu: ∀u∈us,szB u=true) (hb:mn inp us x=none->Q QS) (ho: ∀u,mn inp us x=some u->Q (RA u)):TO us x a Q:=by
 subst ha;have hform:VT us.length x=(eqN {x with op:=7} {noN with op:=7,n:=x.n,l:=x.l}&&earF us.length x.l):=by
  unfold VT;rw[o];show (eqN ⟨0,x.v,x.u,0,0,x.r⟩ noN&&_)=_;rw[Rf (c:={x with op:=7}) (d:={noN with op:=7,n:=x.n,l:=x.l}) (by obtain⟨a1,a2,a3,a4,a5,a6⟩:=x;simp[noN])]
 have huni:fL inp us x=(bif x.n==0||decide (x.n< -4)||decide (x.n>4) then(noU,90) else jm (mb noU us x.l.toNat) (x.n,1)):=by unfold fL;rw[o];rfl
 unfold TO;rw[Q4];have hr:eqN {x with op:=7} {noN with op:=7,n:=x.n,l:=x.l}=true->x.r=0:=λh=>by
  have:=Wn.1 h;exact congrArg Nd.r this
 generalize eqN {x with op:=7} {noN with op:=7,n:=x.n,l:=x.l}=e at hform hr;refine Q5 (VP.2 (by omega)) (ah (λh1=>ah (λh2=>ah (λh3=>hb ?_) (λh3=> ?_)) (λh2=>hb (QW ?_))) (λh1=>hb (QW ?_)))
 ·rw[Q6 (by rw[hform,h1,h2];rfl),huni];have:(x.n==0||decide (x.n< -4)||decide (x.n>4))=true:=by
   simp only[zav,zdv,zdA];apply Classical.byContradiction;intro hc;have:wiB x.n (-4) 4=true:=by unfold wiB;rw[zdr (by omega),zdt,zdr (by omega)]
   rw[this,zdt,show (x.n !=0)=true by simp;omega] at h3;cases h3
  rw[this];rfl
 ·have e2:=V2.1 h2;have hr:=hr h1;have hn:x.n≠0/\ -4<=x.n/\x.n<=4:=by
   unfold wiB at h3;by_cases a:x.n≥ -4
   ·by_cases b:x.n<=4
    ·rw[zdr a,zdt,zdr b,zdt] at h3;simp at h3;omega
    ·rw[zdr a,zdt,zdu b,zds] at h3;cases h3
   ·rw[zdu a,zds,zds] at h3;cases h3
  rw[za7];refine aY e2.1 e2.2 (aY (by omega) (by omega) (ac (eH hu _) (Rx (by rw[hform,h1,h2];rfl) ?_ hb ho)));rw[huni,show (x.n==0||decide (x.n< -4)||decide (x.n>4))=false by simp;omega];rfl
 ·rw[hform,h2,Bool.and_false]
 ·rw[hform,h1];rfl
theorem T4 (o:x.op=8) (ha:a=(us.length:Int)) (hl:us.length<=1000000) (hu: ∀u∈us,szB u=true) (hb:mn inp us x=none->Q QS) (ho: ∀u,mn inp us x=some u->Q (RA u)):TP us x a Q:=by
 subst ha;have hform:VT us.length x=(eqN {x with op:=8} {noN with op:=8,l:=x.l}&&earF us.length x.l):=by
  unfold VT;rw[o];show (eqN ⟨0,x.v,x.u,x.n,0,x.r⟩ noN&&_)=_;rw[Rf (c:={x with op:=8}) (d:={noN with op:=8,l:=x.l}) (by obtain⟨a1,a2,a3,a4,a5,a6⟩:=x;simp[noN])]
 have huni:fL inp us x=jm (mb noU us x.l.toNat) (1,2):=by unfold fL;rw[o];rfl
 unfold TP;rw[Q4];have hr:eqN {x with op:=8} {noN with op:=8,l:=x.l}=true->x.r=0:=λh=>by
  have:=Wn.1 h;exact congrArg Nd.r this
 generalize eqN {x with op:=8} {noN with op:=8,l:=x.l}=e at hform hr;refine Q5 (VP.2 (by omega)) (ah (λh1=>ah (λh2=>hb (QW ?_)) (λh2=> ?_)) (λh1=>hb (QW ?_)))
 ·rw[hform,show earF us.length x.l=false by simpa using h2,Bool.and_false]
 ·have h2:earF us.length x.l=true:=by simpa using h2
  have e2:=V2.1 h2;have hr:=hr h1;rw[za7];exact aY e2.1 e2.2 (aY (by omega) (by omega) (ac (eH hu _) (Rx (by rw[hform,h1,h2];rfl) huni hb ho)))
 ·rw[hform,h1];rfl
end
variable {C:RC} {src:zdV} {Cs:zdW} {nx n:Nat} {ann:zdX} {f:FuncId} {args:zdM} {r:SV}
theorem Ue {gm:zdZ} (x:C.X) (hx:C.spec x) (h1:C.pan x=none) (h2:r.ids= []) (h3:C.out x=r) (h4:C.nw x= []) (h5:C.ch x= []) (h6: ∀C∈Cs,cN C.kd=false) (hl:src.length=Cs.length)
 (h:JL gm ann n f args Cs (Go.Sy.okK λs _ _ _=>s=r)):JL gm ann n f args Cs (KB C src Cs nx):=Q8 h λq b m w hq=>by
 cases q with
 |pan v=>exact hq.elim
 |ok s=>
  obtain rfl:s=r:=hq;exact IG x hx h1 h2 h3 h4 h5 h6 hl
variable {p:Pr} {Q:zdT}
theorem T5 {us:ze1} {x:Nd} (hl:us.length<=1000000) (hi:p.inp.length<=1000000) (hu: ∀u∈us,szB u=true) (hx:szN x=true) (hop:1<=x.op/\x.op<=8) (hQ:Q (.tup [.agg (ci (tyF p.inp us x).1), .val (.int .i64 (tyF p.inp us x).2)])):
 JL [] (λ_ _=>none) 6 47 (tyA p us x us.length) (tyB p us) (Go.Sy.okK λr _ _ _=>Q r):=by
 obtain⟨hb,ho⟩:=tyQ hQ;have E: ∀{op:Int},x.op=op->Re op p us x us.length Q->JL [] (λ_ _=>none) 6 47 (tyA p us x us.length) (tyB p us) (Go.Sy.okK λr _ _ _=>Q r):=λ{op} h k=>by
  rw[<-dW h];exact k
 rcases(show x.op=1\/x.op=2\/x.op=3\/x.op=4\/x.op=5\/x.op=6\/x.op=7\/x.op=8 by omega) with o|o|o|o|o|o|o|o
 ·exact E o (by rw[TQ];exact TZ o hx hb ho)
 ·exact E o (by rw[TR];exact T0 rfl hi o hb ho)
 ·exact E o (by rw[TS];exact RV o (by decide) rfl hl hu (by unfold fL;rw[o];rfl) hb ho)
 ·exact E o (by rw[TT];exact RV o (by decide) rfl hl hu (by unfold fL;rw[o];rfl) hb ho)
 ·exact E o (by rw[TU];exact RV o (by decide) rfl hl hu (by unfold fL;rw[o];rfl) hb ho)
 ·exact E o (by rw[TW];exact RV o (by decide) rfl hl hu (by unfold fL;rw[o];rfl) hb ho)
 ·exact E o (by rw[TX];exact T3 o rfl hl hu hb ho)
 ·exact E o (by rw[TY];exact T4 o rfl hl hu hb ho)
theorem ZR: ∀B:Base,GlobB B->VU prog B 47 SZ:=Sh MOk.nil λbl nx args C hk hp=>by
 unfold SZ at hk;split at hk
 ·rename_i s cs at_ t;split at hk
  ·rename_i a b o n g ha ht;simp only[za1] at hk;subst hk;simp only[za2,zdv] at hp;obtain⟨⟨⟨⟨⟨⟨⟨⟨h0,rfl⟩,hn⟩,hg⟩,h1⟩,h2⟩,rfl⟩,h3⟩,h4⟩:=hp;obtain⟨x,rfl⟩: ∃x,cs=svN x:=⟨_,ua h1⟩;rw[fR] at h2 h3 h4;obtain⟨s1,s2,s3,s4,s5,s6⟩:=eX (f:=rnF [a.o1,a.o2,o] [] nx) ha h0 rfl rfl;obtain⟨t1,t2⟩:=cq (f:=rnF [a.o1,a.o2,o] [] nx) ht hg;have hlen:(eU.list n g).length=n:=El.list_length;have hle:(eU.list n g).length<=1000000:=by rw[hlen];exact zak hn
   have hold: ∀C∈tyB a.p (eU.list n g),cN C.kd=false/\C.kd.map=false:=by simp[tyB,cN,El.old,BK.map]
   refine⟨[a.o1,a.o2,o],tyB a.p (eU.list n g),tyA a.p (eU.list n g) x n,λ_ _=>none,6,aw s1 (aw s2 (aw t1 trivial)),bH (λC hC=>(hold C hC).1),cd (λC hC=>(hold C hC).2),ar s3 (ar (Xs (rns_free (j4 x))) (ar rfl (ar (t2 2 rfl) rfl))), ?_⟩;refine Ue () trivial rfl (r:= .tup [.agg (ci (tyF a.p.inp (eU.list n g) x).1), .val (.int .i64 (tyF a.p.inp (eU.list n g) x).2)]) rfl rfl rfl rfl (λC hC=>(hold C hC).1) (by rfl) ?_;have:=T5 (p:=a.p) (us:=eU.list n g) (x:=x) (Q:=λr=>r= .tup [.agg (ci (tyF a.p.inp (eU.list n g) x).1), .val (.int .i64 (tyF a.p.inp (eU.list n g) x).2)]) hle s5 (El.good_list hg) h2 ⟨h3,h4⟩ rfl;rw[hlen] at this;exact this
  ·cases hk
 ·cases hk
def YM (I:Int->Prop) (N:Int):zdX:=λf k=>bif (Nat.beq f 48||Nat.beq f 49)&&Nat.beq k 4 then some (λA=>{X:=Int,inv:=I,tm:=λi=> [(13, .val (.int .i64 i))],mu:=λi=>(N - i).toNat,keep:= [0,1,12]}) else none
def aau (s t:SV) (n:Nat) (p z:Int):Prop:=(TV.v (cI.enc p)=TV.v (cI.enc z)/\tvE s/\tvE t/\tvE (cI.enc (n:Int))/\True)/\(True/\(True/\True))
def ixB (n:Nat) (z:Int) (K:Prop):Prop:=af (decide (0<=z)&&decide (z<(n:Int))&&decide (0+z.toNat<n)) (af (decide (0+z.toNat<n)) K)
def aav (I:Int->Prop) (N:Int) (n:Nat) (ne:Int->Bool) (Kt Kf:Prop):Prop:=
 ag ((n:Int) !=(n:Int)) Kf (∃z0:Int,I z0/\(aau (.slc 0 0 n) (.slc 1 0 n) n 0 z0/\ ∀z:Int,I z->ag (decide (z<(n:Int)))
  (ixB n z (ixB n z (ag (ne z) Kf (af (inR .i64 (z+1)) (∃z':Int,I z'/\((N - z').toNat<(N - z).toNat/\aau (.slc 0 0 n) (.slc 1 0 n) n (z+1) z'))))))
  Kt))
theorem aae (I:Int->Prop) (N:Int) (l:ze1) (Q:zdT):dk [] (YM I N) 5 48 [.slc 0 0 l.length, .slc 1 0 l.length] [eU.old l,eU.old l] (Go.Sy.okK λr _ _ _=>Q r)=
 aav I N l.length (λz=> !eqU (mb noU l (0+z.toNat)) (mb noU l (0+z.toNat))) (Q (cB.enc true)) (Q (cB.enc false)):=by kernel_rfl
theorem aaf (I:Int->Prop) (N:Int) (l:ze2) (Q:zdT):dk [] (YM I N) 5 49 [.slc 0 0 l.length, .slc 1 0 l.length] [eN.old l,eN.old l] (Go.Sy.okK λr _ _ _=>Q r)=
 aav I N l.length (λz=> !eqN (mb noN l (0+z.toNat)) (mb noN l (0+z.toNat))) (Q (cB.enc true)) (Q (cB.enc false)):=by kernel_rfl
theorem YD {s t:SV} {p:Int}:aau s t n p p:=⟨⟨rfl,rfl,rfl,rfl,trivial⟩,trivial,trivial,trivial⟩
theorem ZS {z:Int} {K:Prop} (h0:0<=z) (h1:z<n) (k:K):ixB n z K:=ac (by rw[zdr h0,zdr h1,zdr (show 0+z.toNat<n by omega)];rfl) (ac (zdr (by omega)) k)
theorem YE (hn:n<=1000000) {ne:Int->Bool} (h: ∀z,ne z=false) {Kt Kf:Prop} (hK:Kt):aav (λi=>0<=i/\i<=n) n n ne Kt Kf:=by
 refine ah (λhb=>by simp at hb) λ_=>⟨0,⟨zat _,by omega⟩,YD, ?_⟩;rintro z ⟨h0,h1⟩;refine ah (λhz=> ?_) (λ_=>hK);have hz:=zdw hz;exact ZS h0 hz (ZS h0 hz (ah (λhb=>by rw[h z] at hb;cases hb) λ_=>ac (VP.2 (by omega)) ⟨z+1,⟨by omega,by omega⟩,by omega,YD⟩))
open Classical in
def Zy {α:Type} (E:El α) (p:α->Bool):MCtr:=λbl _ args=>match args with
 | [s,t]=>match vW bl E.sz s,vW bl E.sz t with
   |some (b1,_,n1,g1),some (b2,_,n2,g2)=>some {X:=Unit,pre:=b1&&b2&&bW n1&&E.good p n1 g1&&E.good p n2 g2&&decide (E.list n1 g1=E.list n2 g2),spec:=λ_=>True,out:=λ_=>cB.enc true,ex:=λ_=>⟨(),trivial⟩}
   |_,_=>none
 |_=>none
variable {α:Type}
theorem ZT {E:El α} {p:α->Bool} {F:FuncId} (hr: ∀(l:List α) (Q:zdT),l.length<=1000000->Q (cB.enc true)->dk [] (YM (λi=>0<=i/\i<=l.length) l.length) 5 F [.slc 0 0 l.length, .slc 1 0 l.length] [E.old l,E.old l] (Go.Sy.okK λr _ _ _=>Q r)):
 ∀B:Base,GlobB B->VU prog B F (Zy E p):=eW MOk.nil λbl nx args C hk hp=>by
 unfold Zy at hk;split at hk
 ·rename_i s t;split at hk
  ·rename_i b1 o1 n1 g1 b2 o2 n2 g2 h1 h2;simp only[za1] at hk;subst hk;simp only[za2,zdv] at hp;obtain⟨⟨⟨⟨⟨rfl,rfl⟩,hl⟩,w1⟩,w2⟩,he⟩:=hp;obtain⟨s1,r1⟩:=cq (f:=rnF [o1,o2] [] nx) h1 w1;obtain⟨s2,r2⟩:=cq (f:=rnF [o1,o2] [] nx) h2 w2;have q1:=r1 0 rfl;have q2:=r2 1 rfl;rw[<-he] at s2 q2;have hlen:(E.list n1 g1).length<=1000000:=by rw[El.list_length];exact zak hl
   refine⟨[o1,o2], [E.old (E.list n1 g1),E.old (E.list n1 g1)], [.slc 0 0 (E.list n1 g1).length, .slc 1 0 (E.list n1 g1).length],YM (λi=>0<=i/\i<=(E.list n1 g1).length) (E.list n1 g1).length,5,aw s1 (aw s2 trivial),bH (by simp[cN,El.old]),cd (by simp[El.old,BK.map]),ar q1 (ar q2 rfl), ?_⟩;exact lz () trivial rfl (r:=cB.enc true) rfl rfl rfl rfl (by simp[cN,El.old]) rfl (hr _ _ hlen rfl)
  ·cases hk
 ·cases hk
theorem ZU: ∀B:Base,GlobB B->VU prog B 48 (Zy eU szB):=ZT λl Q hl hQ=>by
 rw[aae];exact YE hl (λz=>by rw[Wh.2 rfl];rfl) hQ
theorem ZV: ∀B:Base,GlobB B->VU prog B 49 (Zy eN szN):=ZT λl Q hl hQ=>by
 rw[aaf];exact YE hl (λz=>by rw[Wn.2 rfl];rfl) hQ
def aaB:zdZ:= [(48,Zy eU szB),(49,Zy eN szN)]
theorem aag:MOk aaB:=(MOk.nil.cons ZV).cons ZU
def aap (p:Pr):SV:= .agg ([.val (.int .i64 p.id), .slc 2 0 p.inp.length, .slc 3 0 p.nod.length]++ci p.out)
def Zo (p:Pr):zdW:= [eU.old p.inp,eN.old p.nod,eU.old p.inp,eN.old p.nod]
open Classical in
def Zp {α:Type} (E:El α) (p:α->Bool) (l:List α):Bool:=(Nat.ble l.length l.length&&Nat.beq E.sz E.sz&&true)&&(Nat.ble l.length l.length&&Nat.beq E.sz E.sz&&true)&&bW l.length&&E.good p l.length (E.get l)&&E.good p l.length (E.get l)&&decide (E.list l.length (E.get l)=E.list l.length (E.get l))
theorem Zz (p:Pr) (Q:zdT):dk aaB (λ_ _=>none) 5 18 [kB p,aap p] (Zo p) (Go.Sy.okK λr _ _ _=>Q r)=
 ag (bif p.id==p.id then eqU p.out p.out else false) (af (Zp eU szB p.inp) (Unit->True->af (Zp eN szN p.nod) (Unit->True->Q (cB.enc true)))) (Q (cB.enc false)):=by kernel_rfl
open Classical in
theorem Y1 {E:El α} {p:α->Bool} {l:List α} (h1:l.length<=1000000) (h: ∀x∈l,p x=true):Zp E p l=true:=by
 unfold Zp bW;rw[zae (za0 _),zae h1,El.good_get h,zdr rfl,Nat.beq_refl];rfl
open Classical in
def Y8:MCtr:=λbl _ args=>match args with
 | [s,t]=>match mC bl s,mC bl t with
   |some a,some b=>some {X:=Unit,pre:=a.need&&b.need&&decide (a.p=b.p),spec:=λ_=>True,out:=λ_=>cB.enc true,ex:=λ_=>⟨(),trivial⟩}
   |_,_=>none
 |_=>none
variable {bl:zdO} {g:ze0}
theorem ZW {E:El α} {l:List α} {f:ze0} {o:Option Nat} (h:j5 bl f (E.old l) o):j5 bl g (E.old l) o:=by
 cases o with
 |none=>exact h
 |some i=>
  simp only[j5] at h ⊢;cases hB:bl i with
  |none=>rw[hB] at h;exact h
  |some B=>
   rw[hB] at h;obtain⟨h1,h2,h3,h4,h5,h6⟩:=h
   exact⟨h1,h2,h3,h4,h5,λe he=>by
    have:=h6 e he;have i0:SV.idss ((E.old l).get e)= []:=E.ids _;rw[rns_free i0] at this ⊢
    exact this⟩
theorem ZA: ∀B:Base,GlobB B->VU prog B 18 Y8:=eW aag λbl nx args C hk hp=>by
 unfold Y8 at hk;split at hk
 ·rename_i s t;split at hk
  ·rename_i a b ha hb;simp only[za1] at hk;subst hk;simp only[za2,zdv] at hp;obtain⟨⟨h1,h2⟩,he⟩:=hp;obtain⟨s1,s2,s3,s4,s5,s6⟩:=eX (f:=rnF [a.o1,a.o2,b.o1,b.o2] [] nx) ha h1 rfl rfl;obtain⟨t1,t2,t3,_⟩:=eX (f:=λj=>rnF [a.o1,a.o2,b.o1,b.o2] [] nx (j+2)) hb h2 rfl rfl;rw[<-he] at t1 t2 t3;have hold: ∀C∈Zo a.p,cN C.kd=false/\C.kd.map=false:=by simp[Zo,cN,El.old,BK.map]
   refine⟨[a.o1,a.o2,b.o1,b.o2],Zo a.p, [kB a.p,aap a.p],λ_ _=>none,5,aw s1 (aw s2 (aw (ZW t1) (aw (ZW t2) trivial))),bH (λC hC=>(hold C hC).1),cd (λC hC=>(hold C hC).2),ar s3 (ar t3 rfl), ?_⟩;refine lz () trivial rfl (r:=cB.enc true) rfl rfl rfl rfl (λC hC=>(hold C hC).1) rfl ?_;rw[Zz];unfold aci at s4;simp only[za2,zaf] at s4;have hb:(bif a.p.id==a.p.id then eqU a.p.out a.p.out else false)=true:=by rw[beq_self_eq_true,Wh.2 rfl];rfl
   exact ah (λ_=>ac (Y1 s5 s4.1.1) λ_ _=>ac (Y1 s6 s4.1.2) λ_ _=>rfl) (λh=>by rw[hb] at h;cases h)
  ·cases hk
 ·cases hk
def zA9:zdJ:=⟨#[112,114,111,99,101,100,117,114,101,32,49,10]⟩
abbrev ajp:=ByteArray×ByteArray×List ByteArray
abbrev ajq:=ByteArray×ByteArray×(ByteArray×ByteArray×Bool)
def tabS:List ajp:= [(⟨#[112,114,111,99,101,100,117,114,101,32,49,10,103,105,118,101,110,32,100,105,102,102,101,114,101,110,99,101,32,107,105,110,100,32,48,32,102,97,99,116,111,114,32,49,32,111,102,102,115,101,116,32,48,32,109,94,49,10,103,105,118,101,110,32,100,105,102,102,101,114,101,110,99,101,32,107,105,110,100,32,48,32,102,97,99,116,111,114,32,49,32,111,102,102,115,101,116,32,48,32,115,94,49,10,105,110,112,117,116,32,48,10,105,110,112,117,116,32,49,10,100,105,118,32,48,32,49,10,111,117,116,112,117,116,32,100,105,102,102,101,114,101,110,99,101,32,107,105,110,100,32,48,32,102,97,99,116,111,114,32,49,32,111,102,102,115,101,116,32,48,32,109,94,49,32,115,94,45,49,10]⟩,⟨#[10]⟩, [⟨#[112,114,111,99,101,100,117,114,101,32,49]⟩,⟨#[103,105,118,101,110,32,100,105,102,102,101,114,101,110,99,101,32,107,105,110,100,32,48,32,102,97,99,116,111,114,32,49,32,111,102,102,115,101,116,32,48,32,109,94,49]⟩,⟨#[103,105,118,101,110,32,100,105,102,102,101,114,101,110,99,101,32,107,105,110,100,32,48,32,102,97,99,116,111,114,32,49,32,111,102,102,115,101,116,32,48,32,115,94,49]⟩,⟨#[105,110,112,117,116,32,48]⟩,⟨#[105,110,112,117,116,32,49]⟩,⟨#[100,105,118,32,48,32,49]⟩,⟨#[111,117,116,112,117,116,32,100,105,102,102,101,114,101,110,99,101,32,107,105,110,100,32,48,32,102,97,99,116,111,114,32,49,32,111,102,102,115,101,116,32,48,32,109,94,49,32,115,94,45,49]⟩,⟨#[]⟩]),
 (⟨#[112,114,111,99,101,100,117,114,101,32,49,10]⟩,⟨#[10]⟩, [⟨#[112,114,111,99,101,100,117,114,101,32,49]⟩,⟨#[]⟩]),
 (⟨#[100,105,102,102,101,114,101,110,99,101,32,107,105,110,100,32,48,32,102,97,99,116,111,114,32,49,32,111,102,102,115,101,116,32,48,32,109,94,49]⟩,⟨#[32]⟩, [⟨#[100,105,102,102,101,114,101,110,99,101]⟩,⟨#[107,105,110,100]⟩,⟨#[48]⟩,⟨#[102,97,99,116,111,114]⟩,⟨#[49]⟩,⟨#[111,102,102,115,101,116]⟩,⟨#[48]⟩,⟨#[109,94,49]⟩]),
 (⟨#[100,105,102,102,101,114,101,110,99,101,32,107,105,110,100,32,48,32,102,97,99,116,111,114,32,49,32,111,102,102,115,101,116,32,48,32,115,94,49]⟩,⟨#[32]⟩, [⟨#[100,105,102,102,101,114,101,110,99,101]⟩,⟨#[107,105,110,100]⟩,⟨#[48]⟩,⟨#[102,97,99,116,111,114]⟩,⟨#[49]⟩,⟨#[111,102,102,115,101,116]⟩,⟨#[48]⟩,⟨#[115,94,49]⟩]),
 (⟨#[100,105,102,102,101,114,101,110,99,101,32,107,105,110,100,32,48,32,102,97,99,116,111,114,32,49,32,111,102,102,115,101,116,32,48,32,109,94,49,32,115,94,45,49]⟩,⟨#[32]⟩, [⟨#[100,105,102,102,101,114,101,110,99,101]⟩,⟨#[107,105,110,100]⟩,⟨#[48]⟩,⟨#[102,97,99,116,111,114]⟩,⟨#[49]⟩,⟨#[111,102,102,115,101,116]⟩,⟨#[48]⟩,⟨#[109,94,49]⟩,⟨#[115,94,45,49]⟩]),
 (⟨#[48]⟩,⟨#[32]⟩, [⟨#[48]⟩]),
 (⟨#[49]⟩,⟨#[32]⟩, [⟨#[49]⟩]),
 (⟨#[48,32,49]⟩,⟨#[32]⟩, [⟨#[48]⟩,⟨#[49]⟩])]
def tabC:List ajq:= [(⟨#[105,110,112,117,116,32,48]⟩,⟨#[32]⟩,(⟨#[105,110,112,117,116]⟩,⟨#[48]⟩,true)),
 (⟨#[105,110,112,117,116,32,49]⟩,⟨#[32]⟩,(⟨#[105,110,112,117,116]⟩,⟨#[49]⟩,true)),
 (⟨#[100,105,118,32,48,32,49]⟩,⟨#[32]⟩,(⟨#[100,105,118]⟩,⟨#[48,32,49]⟩,true)),
 (⟨#[111,117,116,112,117,116,32,100,105,102,102,101,114,101,110,99,101,32,107,105,110,100,32,48,32,102,97,99,116,111,114,32,49,32,111,102,102,115,101,116,32,48,32,109,94,49,32,115,94,45,49]⟩,⟨#[32]⟩,(⟨#[111,117,116,112,117,116]⟩,⟨#[100,105,102,102,101,114,101,110,99,101,32,107,105,110,100,32,48,32,102,97,99,116,111,114,32,49,32,111,102,102,115,101,116,32,48,32,109,94,49,32,115,94,45,49]⟩,true)),
 (⟨#[49]⟩,⟨#[47]⟩,(⟨#[49]⟩,⟨#[]⟩,false)),
 (⟨#[48]⟩,⟨#[47]⟩,(⟨#[48]⟩,⟨#[]⟩,false)),
 (⟨#[109,94,49]⟩,⟨#[94]⟩,(⟨#[109]⟩,⟨#[49]⟩,true)),
 (⟨#[115,94,49]⟩,⟨#[94]⟩,(⟨#[115]⟩,⟨#[49]⟩,true)),
 (⟨#[115,94,45,49]⟩,⟨#[94]⟩,(⟨#[115]⟩,⟨#[45,49]⟩,true)),
 (⟨#[45,49]⟩,⟨#[47]⟩,(⟨#[45,49]⟩,⟨#[]⟩,false))]
def findS (s sep:zdJ):List ajp->List ByteArray
 | []=>abI s sep
 |r::l=>bif seq r.1 s&&seq r.2.1 sep then r.2.2 else findS s sep l
def afr (s sep:zdJ):List ajq->ByteArray×ByteArray×Bool
 | []=>abn s sep
 |r::l=>bif seq r.1 s&&seq r.2.1 sep then r.2.2 else afr s sep l
theorem aed {s sep:zdJ}: ∀{l:List ajp},(∀r∈l,abI r.1 r.2.1=r.2.2)->findS s sep l=abI s sep
 | [],_=>rfl
 |r::l,h=>by
  rw[findS];cases hb:seq r.1 s&&seq r.2.1 sep with
  |false=>exact aed λx hx=>h x (zan _ hx)
  |true=>
   rw[za2] at hb;rw[zdt,<-h r (zbF ..),We.1 hb.1,We.1 hb.2]
theorem aee {s sep:zdJ}: ∀{l:List ajq},(∀r∈l,abn r.1 r.2.1=r.2.2)->afr s sep l=abn s sep
 | [],_=>rfl
 |r::l,h=>by
  rw[afr];cases hb:seq r.1 s&&seq r.2.1 sep with
  |false=>exact aee λx hx=>h x (zan _ hx)
  |true=>
   rw[za2] at hb;rw[zdt,<-h r (zbF ..),We.1 hb.1,We.1 hb.2]
theorem agV:tabS.map (λr=>abI r.1 r.2.1)=tabS.map (λr=>r.2.2):=by kernel_rfl
theorem aig: ∀r∈tabS,abI r.1 r.2.1=r.2.2:=λr hr=>by
 obtain⟨i,hi,rfl⟩:=List.mem_iff_getElem.1 hr;have:=congrArg (λl=>l[i]?) agV;simpa [zaL,zaa hi] using this
theorem agW:tabC.map (λr=>abn r.1 r.2.1)=tabC.map (λr=>r.2.2):=by kernel_rfl
theorem aih: ∀r∈tabC,abn r.1 r.2.1=r.2.2:=λr hr=>by
 obtain⟨i,hi,rfl⟩:=List.mem_iff_getElem.1 hr;have:=congrArg (λl=>l[i]?) agW;simpa [zaL,zaa hi] using this
def adJ:MCtr:=λ_ nx args=>match args with
 | [.val (.string s), .val (.string sep)]=>some {X:=Unit,pre:=decide (s.size<=1000000)&&decide (1<=sep.size),spec:=λ_=>True,out:=λ_=> .slc nx 0 (findS s sep tabS).length,nw:=λ_=> [abN (findS s sep tabS)],ex:=λ_=>⟨(),trivial⟩}
 |_=>none
theorem aeH:adJ=abV:=by
 funext bl nx args
 unfold adJ abV;simp only[aed aig];rfl
def aks (s sep:zdJ):ByteArray×ByteArray×Bool:=afr s sep tabC
theorem aii:aks=abn:=by
 funext s sep
 exact aee aih
variable {a:Addr} {K K':Aft}
theorem af1 (h:Xk a ann n f args Cs K) (hm: ∀r b n w,K r b n w->K' r b n w):Xk a ann n f args Cs K':=by
 unfold Xk at h ⊢;exact NiceT.mono (Ea _ _ _ _ _ _ f args _ _ _ (λi hi=>zad hi)) h λr b n w _=>hm r b n w
theorem ajr (x:C.X) (hx:C.spec x) (h1:C.pan x=none) (h2:r.ids= []) (h3:C.out x=r) (h4:C.nw x= []) (h5:C.ch x= []) (h6: ∀C∈Cs,cN C.kd=false) (hl:src.length=Cs.length)
 (h:Xk a ann n f args Cs (Go.Sy.okK λs _ _ _=>s=r)):Xk a ann n f args Cs (KB C src Cs nx):=af1 h λq b m w hq=>by
 cases q with
 |pan v=>exact hq.elim
 |ok s=>
  obtain rfl:s=r:=hq;exact IG x hx h1 h2 h3 h4 h5 h6 hl
theorem aeI {I:ByteArray->WdX->Prop} (hs:aci spP=true) (hQ:Q (.tup [.val (.string spT), .val (.int .i64 0)])):Xk a (alF I) 9 34 [kB spP] [eU.old spP.inp,eN.old spP.nod] (Go.Sy.okK λr _ _ _=>Q r):=by
 rw[af0];unfold afq uK bdK;refine ac (eY hs (by decide) (by decide)) λ_ _=>⟨vK,vK,λ_ _=>⟨vK,λ_ _=>⟨vK,vK,vK,vK,λ_ _=>⟨vK,vK,hQ⟩⟩⟩⟩
open Classical in
def ac3 (p:Pr) (T:zdJ):MCtr:=λbl _ args=>match args with
 | [s]=>match mC bl s with
   |some a=>some {X:=Unit,pre:=a.need&&decide (a.p=p),spec:=λ_=>True,out:=λ_=> .tup [.val (.string T), .val (.int .i64 0)],ex:=λ_=>⟨(),trivial⟩}
   |none=>none
 |_=>none
open Classical in
theorem aef {T:zdJ} (h:aci p=true-> ∀Q:zdT,Q (.tup [.val (.string T), .val (.int .i64 0)])->Xk a ann 9 34 [kB p] (iK p) (Go.Sy.okK λr _ _ _=>Q r)):
 ∀B:Base,GlobEB a B->VU prog B 34 (ac3 p T):=λB hB=>c8 (λB' hs=>ak2 (hB.sub hs)) λbl nx args C hk hp=>by
 unfold ac3 at hk;split at hk
 ·rename_i s;split at hk
  ·rename_i b hb;simp only[za1] at hk;subst hk;simp only[za2,zdv] at hp;obtain⟨s1,s2,s3,s4,s5,s6⟩:=eX (f:=rnF [b.o1,b.o2] [] nx) hb hp.1 rfl rfl;obtain⟨_,rfl⟩:=hp;have:=ajr (C:={X:=Unit,pre:=b.need&&decide (b.p=b.p),spec:=λ_=>True,out:=λ_=> .tup [.val (.string T), .val (.int .i64 0)],ex:=λ_=>⟨(),trivial⟩}) (src:= [b.o1,b.o2]) (nx:=nx) () trivial rfl (r:= .tup [.val (.string T), .val (.int .i64 0)]) rfl rfl rfl rfl (cx b.p) rfl (h s4 _ rfl);unfold Xk at this;exact⟨[b.o1,b.o2],iK b.p, [kB b.p],ann,9,aw s1 (aw s2 trivial),bH (cx _),cd (jG _),by simp only[SV.rns,s3],this⟩
  ·cases hk
 ·cases hk
def afs:MCtr:=ac3 spP spT
theorem aeJ: ∀B:Base,GlobEB a B->VU prog B 34 afs:=aef (ann:=alF λ_ _=>True) λhs Q hQ=>aeI hs hQ
def g9s:List (FuncId×Ctr):=(95,k1 cI cS cl ofI)::(267,k2 cS cS (cP3 cS cS cB) (λs _=>decide (s.size<=1000000)) aks)::gE8
theorem adv:GEk g9s:=by
 have h:g9s=g9n:=by unfold g9s g9n;rw[aii]
 rw[h];exact aiL
def aeK:zdZ:= [(16,pN),(14,xi),(21,zm),(33,acd),(34,afs),(18,Y8),(169,abt),(100,adJ),(170,adI)]
theorem aft:MEk a aeK:=by
 unfold aeK;rw[aeH];exact((((((((MEk.nil.cons λB hB=>adu hB.gU).cons λB hB=>adm hB.gU).cons λB hB=>abG).cons λB hB=>ZA B hB.gU).cons aeJ).cons acz).cons λB hB=>tP B hB.gU).cons λB hB=>vM B hB.gU).cons λB hB=>lZ B hB.gU
@[irreducible] def acm (a:Addr) (ann:zdX) (n:Nat) (f:FuncId) (args:zdM) (Cs:zdW) (K:Aft):Prop:=
 Ay prog (iR yr) (gw g9s) (gx aeK) (dF a) ann n f args (λi=>Cs[i]?) Cs.length [] K
variable {B:Base}
theorem ak4 (hB:GlobEB a B):HypD prog B (iR yr) (gw g9s) (gx aeK) (dF a):=
 have h:=ac9 (gm:=aeK) adv aft hB
 ⟨h.gam,h.mem,h.dem,λf hf=>by
   unfold iR at hf;simp only[zaP] at hf;obtain⟨g,hg,hb⟩:=hf
   rw[zab hb];exact vT g hg,h.mixed⟩
def tu1:zdJ:=⟨#[100,105,102,102,101,114,101,110,99,101,32,107,105,110,100,32,48,32,102,97,99,116,111,114,32,49,32,111,102,102,115,101,116,32,48,32,109,94,49]⟩
def tu2:zdJ:=⟨#[100,105,102,102,101,114,101,110,99,101,32,107,105,110,100,32,48,32,102,97,99,116,111,114,32,49,32,111,102,102,115,101,116,32,48,32,115,94,49]⟩
def tu3:zdJ:=⟨#[100,105,102,102,101,114,101,110,99,101,32,107,105,110,100,32,48,32,102,97,99,116,111,114,32,49,32,111,102,102,115,101,116,32,48,32,109,94,49,32,115,94,45,49]⟩
abbrev zl:zdX:=λ_ _=>none
theorem ajs (a:Addr) (Q:zdT):acm a zl 5 228 [.val (.string tu1)] [] (Go.Sy.okK λr _ _ _=>Q r)=(uK (uK (uK (uK (Q ((cP cU cI).enc (u0,0))))))):=by kernel_rfl
theorem ajt (a:Addr) (Q:zdT):acm a zl 5 228 [.val (.string tu2)] [] (Go.Sy.okK λr _ _ _=>Q r)=(uK (uK (uK (uK (Q ((cP cU cI).enc (u2,0))))))):=by kernel_rfl
theorem aju (a:Addr) (Q:zdT):acm a zl 5 228 [.val (.string tu3)] [] (Go.Sy.okK λr _ _ _=>Q r)=(uK (uK (uK (uK (uK (Q ((cP cU cI).enc (uo,0)))))))):=by kernel_rfl
theorem af2 (h:acm a ann n f args Cs K) (hm: ∀r b n w,K r b n w->K' r b n w):acm a ann n f args Cs K':=by
 unfold acm at h ⊢;exact NiceT.mono (Ea _ _ _ _ _ _ f args _ _ _ (λi hi=>zad hi)) h λr b n w _=>hm r b n w
theorem ajv (x:C.X) (hx:C.spec x) (h1:C.pan x=none) (h2:r.ids= []) (h3:C.out x=r) (h4:C.nw x= []) (h5:C.ch x= []) (h6: ∀C∈Cs,cN C.kd=false) (hl:src.length=Cs.length)
 (h:acm a ann n f args Cs (Go.Sy.okK λs _ _ _=>s=r)):acm a ann n f args Cs (KB C src Cs nx):=af2 h λq b m w hq=>by
 cases q with
 |pan v=>exact hq.elim
 |ok s=>
  obtain rfl:s=r:=hq;exact IG x hx h1 h2 h3 h4 h5 h6 hl
theorem aij {a:Addr} {C:RC} {src:zdV} {Cs:zdW} {nx:Nat} {ann:zdX} {n:Nat} {f:FuncId} {args:zdM} {r:SV} (x:C.X) (hx:C.spec x) (h1:C.pan x=none) (h2:r.ids= []) (h3:C.out x=r) (h4:C.nw x= []) (h5:C.ch x= []) (h6: ∀C∈Cs,cN C.kd=false) (hl:src.length=Cs.length)
 (h:acm a ann n f args Cs (Go.Sy.okK λs _ _ _=>s=r)):Ay prog (iR yr) (gw g9s) (gx aeK) (dF a) ann n f args (λi=>Cs[i]?) Cs.length [] (KB C src Cs nx):=by
 have:=ajv (C:=C) (src:=src) (nx:=nx) x hx h1 h2 h3 h4 h5 h6 hl h;unfold acm at this;exact this
def agX:List (ByteArray×Un):= [(tu1,u0),(tu2,u2),(tu3,uo)]
def afu (s:zdJ):List (ByteArray×Un)->Option Un
 | []=>none
 |r::l=>bif seq r.1 s then some r.2 else afu s l
theorem adw {s:zdJ} {u:Un}: ∀{l:List (ByteArray×Un)},afu s l=some u->(s,u)∈l
 | [],h=>by cases h
 |r::l,h=>by
  rw[afu] at h;cases hb:seq r.1 s with
  |false=>rw[hb] at h;exact zan _ (adw h)
  |true=>
   rw[hb,zdt] at h;obtain rfl:=We.1 hb;obtain rfl:r.2=u:=by simpa using h
   exact zbF ..
theorem agY: ∀r∈agX,Q ((cP cU cI).enc (r.2,0))->acm a zl 5 228 [.val (.string r.1)] [] (Go.Sy.okK λr _ _ _=>Q r):=λr hr hQ=>by
 unfold agX at hr;rcases zai.1 hr with rfl|hr
 ·rw[ajs];exact λ_ _ _ _ _ _ _ _=>hQ
 rcases zai.1 hr with rfl|hr
 ·rw[ajt];exact λ_ _ _ _ _ _ _ _=>hQ
 rcases zai.1 hr with rfl|hr
 ·rw[aju];exact λ_ _ _ _ _ _ _ _ _ _=>hQ
 cases hr
def rcU (u:Un):RC:={X:=Unit,pre:=true,spec:=λ_=>True,out:=λ_=>(cP cU cI).enc (u,0),ex:=λ_=>⟨(),trivial⟩}
variable {u:Un}
theorem akt:(rcU u).spec ():=trivial
theorem aku:(rcU u).pan ()=none:=rfl
theorem akv:(rcU u).nw ()= []:=rfl
theorem akw:(rcU u).ch ()= []:=rfl
theorem akx:(rcU u).out ()=(cP cU cI).enc (u,0):=rfl
def agZ (tab:List (ByteArray×Un)):MCtr:=λ_ _ args=>match args with
 | [.val (.string s)]=>match afu s tab with
   |some u=>some (rcU u)
   |none=>none
 |_=>none
theorem ag0 {tab:List (ByteArray×Un)} (h: ∀r∈tab,∀Q:zdT,Q ((cP cU cI).enc (r.2,0))->acm a zl 5 f [.val (.string r.1)] [] (Go.Sy.okK λr _ _ _=>Q r)):
 ∀B:Base,GlobEB a B->VU prog B f (agZ tab):=λB hB=>c8 (λB' hs=>ak4 (hB.sub hs)) λbl nx args C hk hp=>by
 unfold agZ at hk;split at hk
 ·rename_i s;split at hk
  ·rename_i u hu;simp only[za1] at hk;subst hk;have key:=h (s,u) (adw hu) (λr=>r=(cP cU cI).enc (u,0)) rfl;have e1:((cP cU cI).enc (u,(0:Int))).ids= []:=(cP cU cI).ids _;have e2: ∀C∈([]:zdW),cN C.kd=false:=λC hC=>by cases hC
   have e3:= @aij a (rcU u) [] [] nx zl 5 f [.val (.string s)] ((cP cU cI).enc (u,0)) () akt aku e1 akx akv akw e2 rfl key;exact⟨[], [], [.val (.string s)],zl,5,trivial,bH (λC hC=>by cases hC),cd (λC hC=>by cases hC),rfl,e3⟩
  ·cases hk
 ·cases hk
def adK:MCtr:=agZ agX
theorem aeL: ∀B:Base,GlobEB a B->VU prog B 228 adK:=by
 unfold adK;have h: ∀r∈agX,∀Q:zdT,Q ((cP cU cI).enc (r.2,0))->acm a zl 5 228 [.val (.string r.1)] [] (Go.Sy.okK λr _ _ _=>Q r):=λr hr Q hQ=>agY r hr hQ;generalize agX=tab at h;exact ag0 h
def af3:zdZ:=(228,adK)::aeK
theorem afv:MEk a af3:=aft.cons aeL
@[irreducible] def acE (a:Addr) (ann:zdX) (n:Nat) (f:FuncId) (args:zdM) (Cs:zdW) (K:Aft):Prop:=
 Ay prog (iR yr) (gw g9s) (gx af3) (dF a) ann n f args (λi=>Cs[i]?) Cs.length [] K
theorem ak5 (hB:GlobEB a B):HypD prog B (iR yr) (gw g9s) (gx af3) (dF a):=
 have h:=ac9 (gm:=af3) adv afv hB
 ⟨h.gam,h.mem,h.dem,λf hf=>by
   unfold iR at hf;simp only[zaP] at hf;obtain⟨g,hg,hb⟩:=hf
   rw[zab hb];exact vT g hg,h.mixed⟩
def bkx (f:zdS):zdP
 |0=> []
 |e+1=> [.val (.bool (f e))]
def tv9 (s:SV):Prop:=TV.v s=TV.v s
def opK (k:Nat):SV:= .val (.int .i64 ((k:Int)+1))
def opV (two num pw sq:Nat):Nat->SV
 |0=> .agg [.val (.string (opW 0)), .val (.slice none 0 0), .fn (.func 183) [] []]
 |1=> .agg [.val (.string (opW 1)), .slc num 0 1, .fn (.func 185) [] []]
 |2=> .agg [.val (.string (opW 2)), .slc two 0 2, .fn (.func 186) [] []]
 |3=> .agg [.val (.string (opW 3)), .slc two 0 2, .fn (.func 187) [] []]
 |4=> .agg [.val (.string (opW 4)), .slc two 0 2, .fn (.func 188) [] []]
 |5=> .agg [.val (.string (opW 5)), .slc two 0 2, .fn (.func 189) [] []]
 |6=> .agg [.val (.string (opW 6)), .slc pw 0 2, .fn (.func 190) [] []]
 |_=> .agg [.val (.string (opW 7)), .slc sq 0 1, .fn (.func 191) [] []]
def opG (V:Nat->SV):Nat->zdP
 |0=>λ_=> []
 |k+1=>J9 (opG V k) k [opK k,V k]
def ag1 (n:Int):zdM:=svN ⟨n,VI,noU,0,0,0⟩
def mT9 (p:Nat) (line w rest:zdJ) (x i:Nat):Prop:=
 tv9 (.ptr p 0 0)/\tv9 (.val (.string line))/\tv9 (.val .nilFunc)/\tv9 (.val (.string w))/\tv9 (.val (.string rest))/\tv9 (.val (.bool true))/\tv9 (.ptr x 0 0)/\tv9 (.ptr i 0 0)/\True
def M9 (mt:Prop) (L R:zdP) (n:Int) (x:WdX):Prop:=
 mt/\(((∀e:Nat,L (e+1)=abr (bkx x.2) R (e+1))/\True)/\((ag1 n=ag1 x.1/\True)/\True))
def ace (I:WdX->Prop) (V:Nat->SV) (mt:Prop) (w:zdJ) (x:WdX) (k:Nat):Prop:=
 ag (x.2 k) (∃x':WdX,I x'/\(acD x'.2 8<acD x.2 8/\M9 mt (nN (abr (bkx x.2) (rM (opG V 8))) k (opK k) (V k)) (rM (opG V 8)) (bif seq (opW k) w then(k:Int)+1 else x.1) x')) True
def adL (I:WdX->Prop) (V:Nat->SV) (mt:Prop) (w:zdJ) (n:Int) (K:Prop):Prop:=
 ∃x0:WdX,I x0/\(M9 mt (rM (opG V 8)) (rM (opG V 8)) 0 x0/\ ∀x:WdX,I x->
  (ag (x.2 0||(x.2 1||(x.2 2||(x.2 3||(x.2 4||(x.2 5||(x.2 6||(x.2 7||false)))))))) True (some (SV.val (.int .i64 x.1))=some (SV.val (.int .i64 n))/\K)/\
  (ace I V mt w x 0/\ace I V mt w x 1/\ace I V mt w x 2/\ace I V mt w x 3/\ace I V mt w x 4/\ace I V mt w x 5/\ace I V mt w x 6/\ace I V mt w x 7/\True)))
def XD (w:zdJ) (f:zdS):Nat->Int
 |0=>0
 |k+1=>bif seq (opW k) w&& !f k then(k:Int)+1 else XD w f k
def aeM (w:zdJ) (x:WdX):Prop:=x.1=XD w x.2 8
def acF (f:zdS) (k:Nat):zdS:=λe=> !Nat.beq e k&&f e
variable {k:Nat}
theorem acM {f:zdS} {e:Nat} (h:e≠k):acF f k e=f e:=by
 unfold acF;rw[show Nat.beq e k=false from by rw[bS];exact zdu h];rfl
theorem adM {f:zdS} :acF f k k=false:=by
 unfold acF;rw[show Nat.beq k k=true from by rw[bS];exact zdr rfl];rfl
theorem adx {w:zdJ} {f:zdS} {k:Nat} (h:seq (opW k) w=false): ∀m,XD w (acF f k) m=XD w f m
 |0=>rfl
 |m+1=>by
  rw[XD,XD,adx h m];by_cases e:m=k
  ·subst e;rw[h];rfl
  ·rw[acM e]
theorem ak6: ∀j,j<8-> ∀k,k<8->j≠k->seq (opW j) (opW k)=false:=by decide
theorem aeg {f:zdS} {k:Nat} (hk:k<8): ∀m,m<=8->XD (opW k) (acF f k) m=if k<m then(k:Int)+1 else 0
 |0,_=>rfl
 |m+1,hm=>by
  rw[XD,aeg hk m (by omega)];by_cases e:m=k
  ·subst e;rw[adM,show seq (opW m) (opW m)=true from We.2 rfl,if_pos (show m<m+1 by omega)];rfl
  ·rw[ak6 m (by omega) k hk e,Bool.false_and,zds];by_cases h:k<m
   ·rw[if_pos h,if_pos (by omega)]
   ·rw[if_neg h,if_neg (by omega)]
theorem aeh {w:zdJ} {f:zdS}: ∀m,(∀k,k<m->f k=false)->XD w f m=opN w m
 |0,_=>rfl
 |m+1,h=>by
  rw[XD,opN,aeh m λk hk=>h k (by omega),h m (by omega)];cases seq (opW m) w<;>rfl
theorem aei {f:zdS} {k:Nat} (h:f k=true): ∀m,(k<m->acD (acF f k) m<acD f m)/\(m<=k->acD (acF f k) m=acD f m)
 |0=>⟨λh=>by omega,λ_=>rfl⟩
 |m+1=>by
  obtain⟨h1,h2⟩:=aei h m;refine⟨λhk=> ?_,λhk=> ?_⟩
  ·rw[acD,acD];by_cases e:m=k
   ·subst e;rw[h2 (za0 _),adM,h];simp
   ·have:=h1 (by omega);rw[acM e];omega
  ·rw[acD,acD,h2 (by omega),acM (by omega)]
theorem aky {G:zdP} (e:Nat):rM G (e+1)=abr (bkx λ_=>true) (rM G) (e+1):=by
 show _=onB (su (bkx (λ_=>true) (e+1))) (rM G (e+1));have h: ∀l:zdM,(match l with| [k,v]=> [SV.val (Value.bool true),k,v]|_=> [])=onB true (match l with| [k,v]=> [SV.val (Value.bool true),k,v]|_=> []):=by
  intro l;split<;>rfl
 exact h (G e)
theorem akz {f:zdS} {R:zdP} {K V:SV} (e:Nat):nN (abr (bkx f) R) k K V (e+1)=abr (bkx (acF f k)) R (e+1):=by
 show (bif Nat.beq e k then Nx (onB (f e) (R (e+1))) else onB (f e) (R (e+1)))=onB (acF f k e) (R (e+1));by_cases h:e=k
 ·subst h;rw[adM,show Nat.beq e e=true from by rw[bS];exact zdr rfl,zdt];cases R (e+1)<;>rfl
 ·rw[acM h,show Nat.beq e k=false from by rw[bS];exact zdu h,zds]
variable {V:Nat->SV} {mt:Prop} {w:zdJ}
theorem mB {x:WdX} (hmt:mt) (hx:aeM w x) (hk:k<8):ace (aeM w) V mt w x k:=by
 refine ah (λh=> ?_) λ_=>trivial;refine⟨(bif seq (opW k) w then(k:Int)+1 else x.1,acF x.2 k), ?_,(aei h 8).1 hk,hmt,⟨λe=>akz e,trivial⟩,⟨rfl,trivial⟩,trivial⟩;show (bif seq (opW k) w then(k:Int)+1 else x.1)=XD w (acF x.2 k) 8;cases hs:seq (opW k) w with
 |false=>rw[adx hs];exact hx
 |true=>
  obtain rfl:=We.1 hs;rw[aeg hk 8 (za0 _),if_pos hk];rfl
theorem acn {n:Int} {K:Prop} (hmt:mt) (hn:opN w 8=n) (hK:K):adL (aeM w) V mt w n K:=by
 refine⟨(0,λ_=>true), ?_,⟨hmt,⟨λe=>aky e,trivial⟩,⟨rfl,trivial⟩,trivial⟩,λx hx=>⟨?_, ?_⟩⟩
 ·show (0:Int)=XD w (λ_=>true) 8;have: ∀m,XD w (λ_=>true) m=0:=by
   intro m
   induction m with
   |zero=>rfl
   |succ m ih=>rw[XD,zbh,Bool.and_false,zds,ih]
  exact(this 8).symm
 ·refine ah (λ_=>trivial) λh=>⟨?_,hK⟩;simp only[zbs] at h;obtain⟨h0,h1,h2,h3,h4,h5,h6,h7,_⟩:=h;have:x.1=n:=by
   rw[<-hn,show x.1=XD w x.2 8 from hx];refine aeh 8 λk hk=> ?_
   match k,hk with
   |0,_=>exact h0
   |1,_=>exact h1
   |2,_=>exact h2
   |3,_=>exact h3
   |4,_=>exact h4
   |5,_=>exact h5
   |6,_=>exact h6
   |7,_=>exact h7
  rw[this]
 ·exact⟨mB hmt hx (by omega),mB hmt hx (by omega),mB hmt hx (by omega),mB hmt hx (by omega),mB hmt hx (by omega),mB hmt hx (by omega),mB hmt hx (by omega),mB hmt hx (by omega),trivial⟩
theorem aeN {p:Nat} {line rest:zdJ} {x i:Nat}:mT9 p line w rest x i:=⟨rfl,rfl,rfl,rfl,rfl,rfl,rfl,rfl,trivial⟩
def aeO:zdJ:=⟨#[105,110,112,117,116,32,48]⟩
def aeP:zdJ:=⟨#[105,110,112,117,116,32,49]⟩
def aeQ:zdJ:=⟨#[100,105,118,32,48,32,49]⟩
def ti9:zdJ:=⟨#[105,110,112,117,116]⟩
def td9:zdJ:=⟨#[100,105,118]⟩
def t09:zdJ:=⟨#[48]⟩
def t19:zdJ:=⟨#[49]⟩
def ak7:zdJ:=⟨#[48,32,49]⟩
abbrev acA:zdX:=afZ 97
theorem ajw (a:Addr) (Q:zdT):acE a acA 5 97 [.agg (svN (nI9 0))] [] (Go.Sy.okK λr _ _ _=>Q r)=Q (.val (.string aeO)):=by kernel_rfl
theorem ajx (a:Addr) (Q:zdT):acE a acA 5 97 [.agg (svN (nI9 1))] [] (Go.Sy.okK λr _ _ _=>Q r)=Q (.val (.string aeP)):=by kernel_rfl
theorem ajy (a:Addr) (Q:zdT):acE a acA 5 97 [.agg (svN nD9)] [] (Go.Sy.okK λr _ _ _=>Q r)=Q (.val (.string aeQ)):=by kernel_rfl
theorem af4 (h:acE a ann n f args Cs K) (hm: ∀r b n w,K r b n w->K' r b n w):acE a ann n f args Cs K':=by
 unfold acE at h ⊢;exact NiceT.mono (Ea _ _ _ _ _ _ f args _ _ _ (λi hi=>zad hi)) h λr b n w _=>hm r b n w
theorem aik {a:Addr} {C:RC} {src:zdV} {Cs:zdW} {nx:Nat} {ann:zdX} {n:Nat} {f:FuncId} {args:zdM} {r:SV} (x:C.X) (hx:C.spec x) (h1:C.pan x=none) (h2:r.ids= []) (h3:C.out x=r) (h4:C.nw x= []) (h5:C.ch x= []) (h6: ∀C∈Cs,cN C.kd=false) (hl:src.length=Cs.length)
 (h:acE a ann n f args Cs (Go.Sy.okK λs _ _ _=>s=r)):Ay prog (iR yr) (gw g9s) (gx af3) (dF a) ann n f args (λi=>Cs[i]?) Cs.length [] (KB C src Cs nx):=by
 have:acE a ann n f args Cs (KB C src Cs nx):=af4 h λq b m w hq=>by
  cases q with
  |pan v=>exact hq.elim
  |ok s=>
   obtain rfl:s=r:=hq;exact IG x hx h1 h2 h3 h4 h5 h6 hl
 unfold acE at this;exact this
abbrev ag2:=Nd×ByteArray
def ag3:List ag2:= [(nI9 0,aeO),(nI9 1,aeP),(nD9,aeQ)]
def afw (x:Nd):List ag2->Option ByteArray
 | []=>none
 |r::l=>bif eqN r.1 x then some r.2 else afw x l
theorem ady {x:Nd} {s:zdJ}: ∀{l:List ag2},afw x l=some s->(x,s)∈l
 | [],h=>by cases h
 |r::l,h=>by
  rw[afw] at h;cases hb:eqN r.1 x with
  |false=>rw[hb] at h;exact zan _ (ady h)
  |true=>
   rw[hb,zdt] at h;obtain rfl:=Wn.1 hb;obtain rfl:r.2=s:=by simpa using h
   exact zbF ..
theorem ag4: ∀r∈ag3,Q (.val (.string r.2))->acE a acA 5 97 [.agg (svN r.1)] [] (Go.Sy.okK λr _ _ _=>Q r):=λr hr hQ=>by
 unfold ag3 at hr;rcases zai.1 hr with rfl|hr
 ·rw[ajw];exact hQ
 rcases zai.1 hr with rfl|hr
 ·rw[ajx];exact hQ
 rcases zai.1 hr with rfl|hr
 ·rw[ajy];exact hQ
 cases hr
def rcT (s:zdJ):RC:={X:=Unit,pre:=true,spec:=λ_=>True,out:=λ_=> .val (.string s),ex:=λ_=>⟨(),trivial⟩}
variable {s:zdJ}
theorem akA:(rcT s).spec ():=trivial
theorem akB:(rcT s).pan ()=none:=rfl
theorem akC:(rcT s).nw ()= []:=rfl
theorem akD:(rcT s).ch ()= []:=rfl
theorem akE:(rcT s).out ()= .val (.string s):=rfl
def ag5 (tab:List ag2):MCtr:=λ_ _ args=>match args with
 | [.agg cs]=>bif ndB cs then(match afw (Vh cs) tab with
   |some s=>some (rcT s)
   |none=>none) else none
 |_=>none
theorem ag6 {tab:List ag2} (h: ∀r∈tab,∀Q:zdT,Q (.val (.string r.2))->acE a acA 5 f [.agg (svN r.1)] [] (Go.Sy.okK λr _ _ _=>Q r)):
 ∀B:Base,GlobEB a B->VU prog B f (ag5 tab):=λB hB=>c8 (λB' hs=>ak5 (hB.sub hs)) λbl nx args C hk hp=>by
 unfold ag5 at hk;split at hk
 ·rename_i cs;cases hb:ndB cs with
  |false=>rw[hb] at hk;cases hk
  |true=>
   rw[hb,zdt] at hk;split at hk
   ·rename_i s hs;simp only[za1] at hk;subst hk;have key:=h (Vh cs,s) (ady hs) (λr=>r= .val (.string s)) rfl;have e0:Vh cs=(Vh cs,s).1:=rfl;rw[<-e0,<-ua hb] at key;have e1:(SV.val (.string s)).ids= []:=rfl;have e2: ∀C∈([]:zdW),cN C.kd=false:=λC hC=>by cases hC
    have e3:= @aik a (rcT s) [] [] nx acA 5 f [.agg cs] (.val (.string s)) () akA akB e1 akE akC akD e2 rfl key;have e4:SV.rns (rnF [] [] nx) [.agg cs]=some [.agg cs]:=by
     have e:=rns_free (f:=rnF [] [] nx) (j4 (Vh cs));rw[<-ua hb] at e;exact ar (Xs e) rfl
    exact⟨[], [], [.agg cs],acA,5,trivial,bH (λC hC=>by cases hC),cd (λC hC=>by cases hC),e4,e3⟩
   ·cases hk
 ·cases hk
def aeR:MCtr:=ag5 ag3
theorem af5: ∀B:Base,GlobEB a B->VU prog B 97 aeR:=by
 unfold aeR;have h: ∀r∈ag3,∀Q:zdT,Q (.val (.string r.2))->acE a acA 5 97 [.agg (svN r.1)] [] (Go.Sy.okK λr _ _ _=>Q r):=λr hr Q hQ=>ag4 r hr hQ;generalize ag3=tab at h;exact ag6 h
def ag7:zdZ:=(97,aeR)::af3
theorem afx:MEk a ag7:=afv.cons af5
@[irreducible] def aeS (a:Addr) (ann:zdX) (n:Nat) (f:FuncId) (args:zdM) (Cs:zdW) (K:Aft):Prop:=
 Ay prog (iR yr) (gw g9s) (gx ag7) (dF a) ann n f args (λi=>Cs[i]?) Cs.length [] K
theorem ak8 (hB:GlobEB a B):HypD prog B (iR yr) (gw g9s) (gx ag7) (dF a):=
 have h:=ac9 (gm:=ag7) adv afx hB
 ⟨h.gam,h.mem,h.dem,λf hf=>by
   unfold iR at hf;simp only[zaP] at hf;obtain⟨g,hg,hb⟩:=hf
   rw[zab hb];exact vT g hg,h.mixed⟩
def fnL:SV:= .fn (.func 181) [] []
def fnR:SV:= .fn (.func 182) [] []
def fnN:SV:= .fn (.func 184) [] []
def ac4 (g:zdP):Nat->List (zdM)
 |0=> []
 |n+1=>ac4 g n++ [g n]
def ajz:BK->Bool
 | .own=>true
 |_=>false
def obO (n:Nat):Option Blk->Option (List (zdM))
 |some B=>bif ajz B.kd&&(Nat.beq B.sz 1&&(Nat.ble n B.n&&B.nn)) then some (ac4 B.get n) else none
 |none=>none
def KO (Q:(zdP)->List (Option (List (zdM)))->Prop):Aft:=λr bl _ _=>match r with
 | .ok (.mp m)=>bif Nat.beq m 3 then(match bl 3 with
   |some B=>(match B.kd with
    | .mpL=>bif Nat.beq B.n 0&&(Nat.beq B.sz 0&&B.nn) then Q B.get [obO 2 (bl 1),obO 1 (bl 5),obO 2 (bl 15),obO 1 (bl 17)] else False
    |_=>False)
   |none=>False) else False
 |_=>False
theorem ajA (a:Addr) (Q:(zdP)->List (Option (List (zdM)))->Prop):aeS a zl 9 112 [] [] (KO Q)=Q (opG (opV 1 5 15 17) 8) [some [[fnL], [fnR]],some [[fnN]],some [[fnL], [fnN]],some [[fnL]]]:=by kernel_rfl
def fnG (x y:SV):zdP
 |0=> [x]
 |_=> [y]
def fnB (n:Nat) (x y:SV):Blk:={n:=n,sz:=1,get:=fnG x y,kd:= .own}
def ail (V:Nat->SV):Blk:={n:=0,sz:=0,get:=opG V 8,kd:= .mpL}
def rcO (nx:Nat):RC:={X:=Unit,pre:=true,spec:=λ_=>True,out:=λ_=> .mp (nx+4),nw:=λ_=> [fnB 2 fnL fnR,fnB 1 fnN fnN,fnB 2 fnL fnN,fnB 1 fnL fnL,ail (opV nx (nx+1) (nx+2) (nx+3))],ex:=λ_=>⟨(),trivial⟩}
theorem ag8 {k:BK} (h:ajz k=true):k= .own:=by cases k<;>first|rfl|cases h
theorem acN {o:Option Blk} {l:List (zdM)} (h:obO n o=some l): ∃B,o=some B/\B.kd= .own/\B.sz=1/\(n<=B.n/\B.nn=true)/\ac4 B.get n=l:=by
 cases o with
 |none=>cases h
 |some B=>
  cases hb:(ajz B.kd&&(Nat.beq B.sz 1&&(Nat.ble n B.n&&B.nn))) with
  |false=>rw[obO,hb] at h;cases h
  |true=>
   rw[obO,hb,zdt] at h;simp only[za1] at h;simp only[za2] at hb;exact⟨B,rfl,ag8 hb.1,zab hb.2.1,⟨zak hb.2.2.1,hb.2.2.2⟩,h⟩
abbrev aim:zdV:= [some 1,some 5,some 15,some 17,some 3]
theorem ajB: ∀k,k<8->(opV 1 5 15 17 k).rn (rnG [] aim nx)=some (opV nx (nx+1) (nx+2) (nx+3) k):=λk hk=>by
 match k,hk with
 |0,_=>rfl
 |1,_=>rfl
 |2,_=>rfl
 |3,_=>rfl
 |4,_=>rfl
 |5,_=>rfl
 |6,_=>rfl
 |7,_=>rfl
theorem adN {g:ze0} {V V':Nat->SV} (e:Nat): ∀k,(∀j,j<k->(V j).rn g=some (V' j))->SV.rns g (opG V k e)=some (opG V' k e)
 |0,_=>rfl
 |k+1,h=>by
  show SV.rns g (bif Nat.beq e k then [opK k,V k] else opG V k e)=some (bif Nat.beq e k then [opK k,V' k] else opG V' k e);cases Nat.beq e k with
  |true=>exact ar rfl (ar (h k (by omega)) rfl)
  |false=>exact adN e k λj hj=>h j (by omega)
variable {x y:SV}
theorem aiN {B:Blk} (hx:x.rn g=some x) (h1:B.kd= .own) (h2:B.sz=1) (h3:1<=B.n/\B.nn=true) (h4:ac4 B.get 1= [[x]]):kx g B (fnB 1 x y):=by
 have h4: [B.get 0]= [[x]]:=h4;simp only[zca,and_true] at h4;refine .inr ⟨h1.symm,h2.symm,λ_=>h3.2,h3.1,λe he=> ?_⟩;obtain rfl:e=0:=by simp[fnB] at he;omega
 rw[h4];exact ar hx rfl
theorem aiO {B:Blk} (hx:x.rn g=some x) (hy:y.rn g=some y) (h1:B.kd= .own) (h2:B.sz=1) (h3:2<=B.n/\B.nn=true) (h4:ac4 B.get 2= [[x], [y]]):kx g B (fnB 2 x y):=by
 have h4: [B.get 0,B.get 1]= [[x], [y]]:=h4;simp only[zca,and_true] at h4;refine .inr ⟨h1.symm,h2.symm,λ_=>h3.2,h3.1,λe he=> ?_⟩;rcases(show e=0\/e=1 by simp[fnB] at he;omega) with rfl|rfl
 ·rw[h4.1];exact ar hx rfl
 ·rw[h4.2];exact ar hy rfl
theorem ak9 {r:Res} {wl:zdK} (h:KO (λg l=>g=opG (opV 1 5 15 17) 8/\l= [some [[fnL], [fnR]],some [[fnN]],some [[fnL], [fnN]],some [[fnL]]]) r bl n wl):KB (rcO nx) [] [] nx r bl n wl:=by
 unfold KO at h;split at h
 ·rename_i m;cases hm:Nat.beq m 3 with
  |false=>rw[hm] at h;exact h.elim
  |true=>
   obtain rfl:=zab hm;rw[hm,zdt] at h;split at h
   ·rename_i B hB;split at h
    ·rename_i hk;cases hb:(Nat.beq B.n 0&&(Nat.beq B.sz 0&&B.nn)) with
     |false=>rw[hb] at h;exact h.elim
     |true=>
      rw[hb,zdt] at h;obtain⟨hg,hl⟩:=h;simp only[za2] at hb;simp only[zca,and_true] at hl;obtain⟨l1,l2,l3,l4⟩:=hl;obtain⟨B1,e1,k1,z1,m1,c1⟩:=acN l1;obtain⟨B2,e2,k2,z2,m2,c2⟩:=acN l2;obtain⟨B3,e3,k3,z3,m3,c3⟩:=acN l3;obtain⟨B4,e4,k4,z4,m4,c4⟩:=acN l4;have eb:dt [] aim nx (nx+4)=some (some 3):=jA 4;refine⟨(),trivial,aim,⟨_,rfl, ?_⟩,by decide,⟨⟨zaA _, ?_⟩,⟨zaA _, ?_⟩,⟨zaA _, ?_⟩,⟨zaA _, ?_⟩,⟨zaA _, ?_⟩,trivial⟩,trivial⟩
      ·show SV.rn (dt [] aim nx) (.mp (nx+4))=_;simp only[SV.rn,eb]
      ·rw[e1];exact⟨by simp[fnB],λ_=>⟨by simp[fnB],by simp[fnB]⟩,aiO rfl rfl k1 z1 m1 c1⟩
      ·rw[e2];exact⟨by simp[fnB],λ_=>⟨by simp[fnB],by simp[fnB]⟩,aiN rfl k2 z2 m2 c2⟩
      ·rw[e3];exact⟨by simp[fnB],λ_=>⟨by simp[fnB],by simp[fnB]⟩,aiO rfl rfl k3 z3 m3 c3⟩
      ·rw[e4];exact⟨by simp[fnB],λ_=>⟨by simp[fnB],by simp[fnB]⟩,aiN rfl k4 z4 m4 c4⟩
      ·rw[hB];refine⟨by simp[ail],λh=>(by cases h), .inr ⟨hk.symm,(zab hb.2.1).symm,λ_=>hb.2.2,zaA _,λe=> ?_⟩⟩;rw[hg];exact adN e 8 λj hj=>ajB j hj
    ·exact h.elim
   ·exact h.elim
 ·exact h.elim
theorem af6 (h:aeS a ann n f args Cs K) (hm: ∀r b n w,K r b n w->K' r b n w):aeS a ann n f args Cs K':=by
 unfold aeS at h ⊢;exact NiceT.mono (Ea _ _ _ _ _ _ f args _ _ _ (λi hi=>zad hi)) h λr b n w _=>hm r b n w
def ain:MCtr:=λ_ nx args=>match args with
 | []=>some (rcO nx)
 |_=>none
theorem ag9 (h: ∀Q:(zdP)->List (Option (List (zdM)))->Prop,Q (opG (opV 1 5 15 17) 8) [some [[fnL], [fnR]],some [[fnN]],some [[fnL], [fnN]],some [[fnL]]]->aeS a zl 9 f [] [] (KO Q)):
 ∀B:Base,GlobEB a B->VU prog B f ain:=λB hB=>c8 (λB' hs=>ak8 (hB.sub hs)) λbl nx args C hk hp=>by
 unfold ain at hk;split at hk
 ·simp only[za1] at hk;subst hk;have key:aeS a zl 9 f [] [] (KB (rcO nx) [] [] nx):=af6 (h (λg l=>g=opG (opV 1 5 15 17) 8/\l= [some [[fnL], [fnR]],some [[fnN]],some [[fnL], [fnN]],some [[fnL]]]) ⟨rfl,rfl⟩) λr b n wl hq=>ak9 hq;unfold aeS at key;exact⟨[], [], [],zl,9,trivial,bH (λC hC=>by cases hC),cd (λC hC=>by cases hC),rfl,key⟩
 ·cases hk
theorem aio: ∀B:Base,GlobEB a B->VU prog B 112 ain:=ag9 λQ hQ=>by rw[ajA];exact hQ
def af7:zdZ:=(112,ain)::ag7
theorem adO:MEk a af7:=afx.cons aio
@[irreducible] def k8 (a:Addr) (ann:zdX) (n:Nat) (f:FuncId) (args:zdM) (Cs:zdW) (K:Aft):Prop:=
 Ay prog (iR yr) (gw g9s) (gx af7) (dF a) ann n f args (λi=>Cs[i]?) Cs.length [] K
theorem aha (hB:GlobEB a B):HypD prog B (iR yr) (gw g9s) (gx af7) (dF a):=
 have h:=ac9 (gm:=af7) adv adO hB
 ⟨h.gam,h.mem,h.dem,λf hf=>by
   unfold iR at hf;simp only[zaP] at hf;obtain⟨g,hg,hb⟩:=hf
   rw[zab hb];exact vT g hg,h.mixed⟩
end Go.Proofs.YtdbnankjpnpojaaGreatDoor
namespace Go.Sy
open Go.RowKit
def ab2 (src:zdK) (i:Nat):Option (Option Nat):=match src[i]? with
 |some j=>some (some j)
 |none=>none
variable {src:zdK}
theorem afy {nx:Nat}:rnF (src.map some) [] nx=ab2 src:=by
 funext i
 unfold rnF ab2;rw[zaL];cases src[i]? <;>rfl
theorem adz: ∀{l:zdK},ck (l.map some)=l
 | []=>rfl
 |i::r=>by simp[ck,adz (l:=r)]
def isL:BK->Bool
 | .mpL=>true
 |_=>false
def isO:BK->Bool
 | .own=>true
 |_=>false
variable {k:BK}
theorem afz (h:isL k=true):k= .mpL:=by cases k<;>first|rfl|cases h
theorem alK (h:isO k=true):k= .own:=by cases k<;>first|rfl|cases h
def akF (C B:Blk):Bool:=Nat.beq C.sz B.sz&&((!C.nn||(B.nn||Nat.ble 1 C.n))&&(match C.kd with
 | .gone=>true
 | .old=>pa B.kd&&Nat.ble C.n B.n
 | .own=>isO B.kd&&(Nat.ble 1 C.n&&(Nat.ble 1 C.sz&&Nat.ble C.n B.n))
 | .mpL=>isL B.kd&&Nat.beq C.n 0
 |_=>false))
def af8 (f:ze0) (C:Blk):Nat->List (Option (zdM))
 |0=> []
 |n+1=>af8 f C n++ [SV.rns f (C.get n)]
def af9 (B:Blk):Nat->List (Option (zdM))
 |0=> []
 |n+1=>af9 B n++ [some (B.get n)]
def ahb (bl:zdO):List Nat->List Blk->Bool
 | [], []=>true
 |i::r,C::Cs=>(match bl i with
  |some B=>akF C B
  |none=>false)&&ahb bl r Cs
 |_,_=>false
def aip (bl:zdO):List Nat->List Blk->List (List (Option (zdM)))
 |i::r,C::Cs=>(match bl i with
  |some B=>(match pa C.kd with
   |true=>af9 B C.n
   |false=> [])
  |none=> [])::aip bl r Cs
 |_,_=> []
def aga (f:ze0):List Blk->List (List (Option (zdM)))
 |C::Cs=>(match pa C.kd with
  |true=>af8 f C C.n
  |false=> [])::aga f Cs
 | []=> []
def agb (bl:zdO):List Nat->List Blk->List (Nat->Option (zdM))
 |i::r,C::Cs=>(match isL C.kd with
  |true=>(match bl i with
   |some B=>(λe=>some (B.get e))::agb bl r Cs
   |none=> [])
  |false=>agb bl r Cs)
 |_,_=> []
def acG (f:ze0):List Blk->List (Nat->Option (zdM))
 |C::Cs=>(match isL C.kd with
  |true=>(λe=>SV.rns f (C.get e))::acG f Cs
  |false=>acG f Cs)
 | []=> []
theorem aej {f:ze0} {C:Blk}: ∀{n:Nat},(af8 f C n).length=n
 |0=>rfl
 |n+1=>by rw[af8,za3,aej];rfl
theorem aek {B:Blk}: ∀{n:Nat},(af9 B n).length=n
 |0=>rfl
 |n+1=>by rw[af9,za3,aek];rfl
theorem adP {f:ze0} {C B:Blk}: ∀{n:Nat},af9 B n=af8 f C n-> ∀e,e<n->SV.rns f (C.get e)=some (B.get e)
 |0,_,e,he=>absurd he (zbn e)
 |n+1,h,e,he=>by
  rw[af9,af8] at h;obtain⟨h1,h2⟩:=List.append_inj h (by rw[aek,aej]);simp only[zca,and_true] at h2;rcases zah e n with k|k
  ·exact adP h1 e k
  ·obtain rfl:e=n:=by omega
   exact h2.symm
theorem ael {bl:zdO} {f:ze0}: ∀{src:zdK} {Cs:zdW},ahb bl src Cs=true->aip bl src Cs=aga f Cs->agb bl src Cs=acG f Cs->yw bl f (src.map some) Cs
 | [], [],_,_,_=>trivial
 |i::r,C::Cs,h1,h2,h3=>by
  rw[ahb,za2] at h1;obtain⟨a,b⟩:=h1;rw[aip,aga,zca] at h2;obtain⟨c,h2⟩:=h2;rw[agb,acG] at h3;cases hB:bl i with
  |none=>rw[hB] at a;cases a
  |some B=>
   simp only[hB] at a c h3;have q:agb bl r Cs=acG f Cs/\(C.kd= .mpL-> ∀e,SV.rns f (C.get e)=some (B.get e)):=by
    cases hL:isL C.kd with
    |true=>
     simp only[hL,zca] at h3;exact⟨h3.2,λ_ e=>(congrFun h3.1 e).symm⟩
    |false=>
     simp only[hL] at h3;exact⟨h3,λhk=>by rw[hk] at hL;cases hL⟩
   refine aw ?_ (ael b h2 q.1);show match bl i with
    |some B=>wB f C B
    |none=>False
   rw[hB];simp only[akF,za2] at a;obtain⟨a1,a2,a3⟩:=a;refine⟨zab a1,λhn=> ?_, ?_⟩
   ·rw[hn] at a2;simp only[zbh,zbi,zav] at a2;exact a2.imp id zak
   ·cases hk:C.kd with
    |gone=>trivial
    |old=>
     simp only[hk,za2,pa] at a3 c;obtain⟨k1,k2⟩:=a3;refine⟨λe=>(by rw[e] at k1;cases k1),(by cases hq:B.kd<;>rw[hq] at k1<;>first|rfl|cases k1),zak k2,adP c⟩
    |own=>
     simp only[hk,za2,pa] at a3 c;obtain⟨k1,k2,k3,k4⟩:=a3;exact⟨alK k1,zak k2,zak k3,zak k4,adP c⟩
    |mpL=>
     simp only[hk,za2] at a3;exact⟨afz a3.1,zab a3.2,q.2 hk⟩
    |_=>simp[hk] at a3
 | [],_::_,h,_,_=>by cases h
 |_::_, [],h,_,_=>by cases h
abbrev ahc:=SV×List Blk×List (Nat×Blk)
def rcL (b:Bool) (r:ahc):RC:={X:=Unit,pre:=b,spec:=λ_=>True,out:=λ_=>r.1,nw:=λ_=>r.2.1,ch:=λ_=>r.2.2,ex:=λ_=>⟨(),trivial⟩}
def agc (p:Prop):Bool:= @decide p (Classical.propDecidable p)
theorem ac5 {p:Prop}:agc p=true↔p:=by unfold agc;exact @decide_eq_true_iff p (Classical.propDecidable p)
def aeT (bl:zdO) (src:zdK) (Cs:zdW):Bool:=agc (aip bl src Cs=aga (ab2 src) Cs)&&agc (agb bl src Cs=acG (ab2 src) Cs)
def aiq (src:zdK) (Cs:zdW) (args':List SV->Bool) (R:Nat->ahc):MCtr:=λbl nx args=>
 bif args' args&&ahb bl src Cs then some (rcL (aeT bl src Cs) (R nx)) else none
variable {P:Program}
theorem afA {W0:Base} {F:FuncId} {ok:FuncId->Bool} {Γ:zdQ} {Γm:FuncId->Option MCtr} {Δ:FuncId->Option DCtr} {Cs:zdW} {args':List SV->Bool} {R:Nat->ahc} {args0:zdM} {ann:zdX} {n:Nat}
 (H: ∀B:Base,SubB B W0->HypD P B ok Γ Γm Δ) (ha: ∀args,args' args=true->SV.rns (ab2 src) args0=some args) (hu:src.Nodup) (hf:Far (src.map some) Cs)
 (hrun: ∀b nx,Ay P ok Γ Γm Δ ann n F args0 (λi=>Cs[i]?) Cs.length [] (KB (rcL b (R nx)) (src.map some) Cs nx)):VU P W0 F (aiq src Cs args' R):=
 c8 H λbl nx args C hk hp=>by
  unfold aiq at hk;cases hb:(args' args&&ahb bl src Cs) with
  |false=>rw[hb] at hk;cases hk
  |true=>
   rw[hb,zdt] at hk;simp only[za1] at hk;subst hk;rw[za2] at hb;have hp:aeT bl src Cs=true:=hp;simp only[aeT,za2,ac5] at hp;exact⟨src.map some,Cs,args0,ann,n,by rw[afy];exact ael hb.2 hp.1 hp.2,aeB (by rw[adz];exact hu),hf,by rw[afy];exact ha args hb.1,hrun _ nx⟩
def orM (k l:MCtr):MCtr:=λbl nx args=>match k bl nx args with
 |some C=>some C
 |none=>l bl nx args
theorem aeU {B:Base} {f:FuncId} {k l:MCtr} (hk:VU P B f k) (hl:VU P B f l):VU P B f (orM k l):=by
 intro bl β w nx args C a b c d e p;unfold orM at e;split at e
 ·rename_i C' hC;obtain rfl:C'=C:=by simpa using e
  exact hk bl β w nx args _ a b c d hC p
 ·exact hl bl β w nx args _ a b c d e p
def adQ:List Nat->List Blk->List (Nat×Blk)
 |i::r,C::Cs=>(i,{C with kd:= .gone})::adQ r Cs
 |_,_=> []
theorem aem {bl:zdO} {g:ze0}: ∀{t:zdK} {tb:zdW} {j:Nat},t.length=tb.length->(∀C∈tb,C.kd= .own)->(∀k,k<tb.length->(bl (j+k)).isSome=true)->chR bl g (t.map some) tb j (adQ t tb)
 | [], [],_,_,_,_=>trivial
 |i::r,C::Cs,j,hl,ho,hb=>by
  have hk:=ho C (zbF ..);have h0:=hb 0 (by simp);rw[zaY] at h0;obtain⟨B,hB⟩:=Option.isSome_iff_exists.1 h0;simp only[zaK,adQ,chR,hk,cN];refine⟨trivial, .inl trivial, ?_,aem (by simpa using hl) (λD hD=>ho D (zan _ hD)) λk hk=> ?_⟩
  ·rw[hB];exact .inl rfl
  ·have:=hb (k+1) (by simpa using hk);rwa[show j+(k+1)=j+1+k by omega] at this
 | [],_::_,_,hl,_,_=>by simp at hl
 |_::_, [],_,hl,_,_=>by simp at hl
end Go.Sy
namespace Go.Proofs.YtdbnankjpnpojaaGreatDoor
open Go.Proofs.Tryz
open Go Go.RowKit Go.Sy Yk
def adb:SV:= .val (.slice none 0 0)
def cP9 (iI iN:SV) (o:Un) (ic:Nat):zdM:= .val (.int .i64 1)::iI::iN::(ci o++ [.ptr ic 0 0])
def adc (n:Nat) (cs:zdM):Blk:={n:=1,sz:=n,get:=λ_=>cs,kd:= .own}
def fnO (n:Nat) (x y:SV):Blk:={n:=n,sz:=1,get:=fnG x y,kd:= .old}
def np (iN iU:SV):zdW:= [adc 24 (cP9 (.slc 7 0 2) iN noU 1),adc 3 [.mp 2, .slc 7 0 2,iU],ail (opV 3 4 5 6),fnO 2 fnL fnR,fnO 1 fnN fnN,fnO 2 fnL fnN,fnO 1 fnL fnL,eU.old [u0,u2]]
def ajC (n sz:Nat):Blk:={n:=n,sz:=sz,get:=λ_=> [],kd:= .gone,nn:=false}
def CsE (k:Nat) (us:ze1):zdW:= [adc 24 (cP9 (.slc 3 0 2) (.slc 5 0 k) noU 1),{adc 3 [.mp 2, .slc 3 0 2, .slc 4 0 k] with kd:= .old},ajC 0 0,ajC 2 20,eU.old us,ajC k 26]
def alm (g:zdP):Nat->List (zdM)
 |0=> []
 |n+1=>alm g n++ [g n]
def air (bl:zdO):zdS
 |0=>true
 |n+1=>(bl n).isSome&&air bl n
abbrev ade:=(FuncId×Int×List SV×Nat×List (zdM)×List (zdM))×(zdP)
def okN (L:Nat) (bl:zdO) (P C M U N:Blk) (p n p' n' q m m' i j:Nat):Bool:=
 (isO P.kd&&(Nat.beq P.n 1&&(Nat.beq P.sz 24&&P.nn)))&&((isO C.kd&&(Nat.beq C.n 1&&(Nat.beq C.sz 3&&C.nn)))&&((isL M.kd&&(Nat.beq M.n 0&&(Nat.beq M.sz 0&&M.nn)))&&
 ((isO U.kd&&(Nat.beq U.sz 20&&Nat.ble m U.n))&&((isO N.kd&&(Nat.beq N.sz 26&&Nat.ble m N.n))&&((!Nat.beq i j&&(Nat.ble L i&&Nat.ble L j))&&
 ((Nat.beq p 7&&(Nat.beq n 2&&(Nat.beq p' 7&&(Nat.beq n' 2&&(Nat.beq q 2&&Nat.beq m m')))))&&air bl L))))))
def ajD (L:Nat) (bl:zdO):SV->Option ade
 | .fn (.func F) [] []=>match bl 0,bl 1,bl 2 with
   |some P,some C,some M=>match P.get 0,C.get 0 with
    | .val (.int .i64 id):: .slc p 0 n:: .slc j 0 m::r, [.mp q, .slc p' 0 n', .slc i 0 m']=>match bl i,bl j with
      |some U,some N=>bif okN L bl P C M U N p n p' n' q m m' i j then some ((F,id,r,m,alm U.get m,alm N.get m),M.get) else none
      |_,_=>none
    |_,_=>none
   |_,_,_=>none
 |_=>none
def KN (L:Nat) (Q:Option ade->Prop):Aft:=λr bl _ _=>match r with
 | .ok s=>Q (ajD L bl s)
 | .pan _=>False
theorem afB {bl:zdO}: ∀{n k:Nat},air bl n=true->k<n->(bl k).isSome=true
 |n+1,k,h,hk=>by
  rw[air,za2] at h;rcases zah k n with q|q
  ·exact afB h.2 q
  ·obtain rfl:k=n:=by omega
   exact h.1
variable {bl:zdO} {s:SV} {F:FuncId} {id:Int} {m:Nat} {cu cn:List (zdM)}
theorem ahd {L:Nat} {r:zdM} {G:zdP} (h:ajD L bl s=some ((F,id,r,m,cu,cn),G)):
 ∃(i j:Nat) (P C M U N:Blk),s= .fn (.func F) [] []/\bl 0=some P/\bl 1=some C/\bl 2=some M/\bl i=some U/\bl j=some N/\P.get 0= .val (.int .i64 id):: .slc 7 0 2:: .slc j 0 m::r/\C.get 0= [.mp 2, .slc 7 0 2, .slc i 0 m]/\M.get=G/\
  (P.kd= .own/\P.n=1/\P.sz=24/\P.nn=true)/\(C.kd= .own/\C.n=1/\C.sz=3/\C.nn=true)/\(M.kd= .mpL/\M.n=0/\M.sz=0/\M.nn=true)/\(U.kd= .own/\U.sz=20/\m<=U.n)/\(N.kd= .own/\N.sz=26/\m<=N.n)/\i≠j/\L<=i/\L<=j/\(∀k,k<L->(bl k).isSome=true)/\alm U.get m=cu/\alm N.get m=cn:=by
 unfold ajD at h;split at h
 ·split at h
  ·rename_i P C M hP hC hM;split at h
   ·rename_i q1 q2;split at h
    ·rename_i U N hU hN;cases hb:okN L bl P C M U N _ _ _ _ _ _ _ _ _ with
     |false=>rw[hb] at h;cases h
     |true=>
      rw[hb,zdt] at h;simp only[za1,zag] at h;obtain⟨⟨rfl,rfl,rfl,rfl,rfl,rfl⟩,rfl⟩:=h;simp only[okN,za2,zap] at hb;obtain⟨⟨a1,a2,a3,a4⟩,⟨b1,b2,b3,b4⟩,⟨c1,c2,c3,c4⟩,⟨d1,d2,d3⟩,⟨e1,e2,e3⟩,⟨f1,f2,f3⟩,⟨g1,g2,g3,g4,g5,g6⟩,k⟩:=hb;obtain rfl:=zab g1;obtain rfl:=zab g2;obtain rfl:=zab g3;obtain rfl:=zab g4;obtain rfl:=zab g5;obtain rfl:=zab g6;refine⟨_,_,P,C,M,U,N,rfl,hP,hC,hM,hU,hN,q1,q2,rfl,⟨alK a1,zab a2,zab a3,a4⟩,⟨alK b1,zab b2,zab b3,b4⟩,⟨afz c1,zab c2,zab c3,c4⟩,⟨alK d1,zab d2,zak d3⟩,⟨alK e1,zab e2,zak e3⟩, ?_,zak f2,zak f3,λk' hk'=>afB k hk',rfl,rfl⟩;intro e;subst e;rw[Nat.beq_refl] at f1;cases f1
    ·cases h
   ·cases h
  ·cases h
 ·cases h
variable {a:Addr} {ann:zdX} {n:Nat} {f:FuncId} {args:zdM} {Cs:zdW} {K K':Aft}
theorem ab3 (h:k8 a ann n f args Cs K) (hm: ∀r b n w,K r b n w->K' r b n w):k8 a ann n f args Cs K':=by
 unfold k8 at h ⊢;exact NiceT.mono (Ea _ _ _ _ _ _ f args _ _ _ (λi hi=>zad hi)) h λr b n w _=>hm r b n w
structure I9 where
 p:Nat
 c:Nat
 m:Nat
 f1:Nat
 f2:Nat
 f3:Nat
 f4:Nat
 i:Nat
def I9.src (x:I9) (t:zdK):zdK:=x.p::x.c::x.m::x.f1::x.f2::x.f3::x.f4::x.i::t
def akG (x:I9) (t:zdK) (tb:zdW) (us:ze1) (ns:ze2) (k:Nat) (nx:Nat):ahc:=
 (.fn (.func 227) [] [], [eU.own us,eN.own ns],(x.p,adc 24 (cP9 (.slc x.i 0 2) (.slc (nx+1) 0 k) noU x.c))::(x.c,adc 3 [.mp x.m, .slc x.i 0 2, .slc nx 0 k])::(x.m,ail (opV x.f1 x.f2 x.f3 x.f4))::adQ t tb)
theorem adA {α:Type} {E:El α} {g:zdP} {l:List α} (h:alm g l.length=l.map E.sv): ∀e,e<l.length->g e=E.get l e:=by
 have: ∀n,alm g n=(List.range n).map g:=by
  intro n
  induction n with
  |zero=>rfl
  |succ n ih=>rw[alm,ih,zd4,zb8];rfl
 rw[this] at h;intro e he;have h1:=congrArg (λl=>l[e]?) h;simp only[zaL,List.getElem?_range he,zb0] at h1;rw[Co (d:=E.d) he] at h1;simp only[zb0,za1] at h1;exact h1
variable {x:I9}
theorem afC {g:ze0} (h3:g 3=some (some x.f1)) (h4:g 4=some (some x.f2)) (h5:g 5=some (some x.f3)) (h6:g 6=some (some x.f4)): ∀k,k<8->(opV 3 4 5 6 k).rn g=some (opV x.f1 x.f2 x.f3 x.f4 k):=λk hk=>by
 match k,hk with
 |0,_=>rfl
 |1,_=>simp only[opV,SV.rn,SV.rns,h4]
 |2,_=>simp only[opV,SV.rn,SV.rns,h3]
 |3,_=>simp only[opV,SV.rn,SV.rns,h3]
 |4,_=>simp only[opV,SV.rn,SV.rns,h3]
 |5,_=>simp only[opV,SV.rn,SV.rns,h3]
 |6,_=>simp only[opV,SV.rn,SV.rns,h5]
 |7,_=>simp only[opV,SV.rn,SV.rns,h6]
def obk (k:Nat) (us:ze1) (ns:ze2):ade:=((227,1,ci noU++ [.ptr 1 0 0],k,us.map ci,ns.map svN),opG (opV 3 4 5 6) 8)
variable {t wl:zdK} {tb:zdW} {us:ze1} {ns:ze2} {k nx:Nat} {iN iU:SV} {b:Bool} {r:Res}
theorem kbN (hl:t.length=tb.length) (ho: ∀C∈tb,C.kd= .own) (hu:us.length=k) (hn:ns.length=k) (hk:1<=k)
 (h:KN (8+tb.length) (λq=>q=some (obk k us ns)) r bl n wl):KB (rcL b (akG x t tb us ns k nx)) ((x.src t).map some) (np iN iU++tb) nx r bl n wl:=by
 cases r with
 |pan v=>exact h.elim
 |ok s=>
  obtain⟨i,j,P,C,M,U,N,rfl,hP,hC,hM,hU,hN,p1,c1,m1,⟨p2,p3,p4,p5⟩,⟨c2,c3,c4,c5⟩,⟨m2,m3,m4,m5⟩,⟨u1,u2',u3⟩,⟨n1,n2,n3⟩,hij,li,lj,ha,cu,cn⟩:=ahd h;have hsl:((x.src t).map some).length=8+tb.length:=by simp[I9.src,hl];omega
  have gi: ∀q,8+tb.length<=q->rnG ((x.src t).map some) [some i,some j] nx q=match D9 [some i,some j] q nx with
   |some j=>some (some j)
   |none=>none:=λq hq=>by
   unfold rnG;rw[zad (by omega)];rfl
  have g1:rnG ((x.src t).map some) [some i,some j] nx i=some (some nx):=by
   rw[gi i li];simp[D9]
  have g2:rnG ((x.src t).map some) [some i,some j] nx j=some (some (nx+1)):=by
   rw[gi j lj,D9,D9,show Nat.beq i j=false from by rw[bS];exact zdu hij,zds,show Nat.beq j j=true from by rw[bS];exact zdr rfl];rfl
  have hlen:(np iN iU++tb).length=8+tb.length:=by simp[np];omega
  subst hu;refine⟨(),trivial, [some i,some j],⟨_,rfl,rfl⟩,by simp[ck,hij],⟨⟨by rw[hlen];exact li, ?_⟩,⟨by rw[hlen];exact lj, ?_⟩,trivial⟩, ?_⟩
  ·rw[hU];refine⟨by simp[El.own],λ_=>⟨hk,eU.one⟩,gC u1 u2' u3 λe he=>adA (E:=eU) cu e he⟩
  ·rw[hN];refine⟨by simp[El.own],λ_=>⟨by simpa [El.own,hn] using hk,eN.one⟩,gC n1 n2 (by rw[hn];exact n3) λe he=>adA (E:=eN) (by rw[hn];exact cn) e he⟩
  ·have e7:rnG ((x.src t).map some) [some i,some j] nx 7=some (some x.i):=rfl;have eP:SV.rns (rnG ((x.src t).map some) [some i,some j] nx) (P.get 0)=some (cP9 (.slc x.i 0 2) (.slc (nx+1) 0 us.length) noU x.c):=by
    rw[p1];refine ar rfl (ar (by simp only[SV.rn,e7]) (ar (by simp only[SV.rn,g2]) ?_));rfl
   have eC:SV.rns (rnG ((x.src t).map some) [some i,some j] nx) (C.get 0)=some [.mp x.m, .slc x.i 0 2, .slc nx 0 us.length]:=by
    rw[c1];exact ar rfl (ar (by simp only[SV.rn,e7]) (ar (by simp only[SV.rn,g1]) rfl))
   have hg:=aem (bl:=bl) (g:=rnG ((x.src t).map some) [some i,some j] nx) (j:=8) hl ho λk hk=>ha (8+k) (by omega);refine⟨rfl, .inl rfl, ?_,rfl, .inl rfl, ?_,rfl, .inr (λe=>by cases e), ?_,hg⟩
   ·rw[hP];refine .inr ⟨p2.symm,p4.symm,λ_=>p5,by rw[p3];exact za0 _,λe he=> ?_⟩;obtain rfl:e=0:=by simp[adc] at he;omega
    exact eP
   ·rw[hC];refine .inr ⟨c2.symm,c4.symm,λ_=>c5,by rw[c3];exact za0 _,λe he=> ?_⟩;obtain rfl:e=0:=by simp[adc] at he;omega
    exact eC
   ·rw[hM];refine .inr ⟨m2.symm,m4.symm,λ_=>m5,by rw[m3];exact za0 _,λe=> ?_⟩;rw[m1];exact adN e 8 (afC rfl rfl rfl rfl)
def ais (p:Nat) (T:zdJ):List SV->Bool
 | [.ptr i 0 0, .val (.string s)]=>Nat.beq i p&&seq T s
 |_=>false
variable {src:zdK} {T:zdJ}
theorem afD {x:Nat} (h:ais x T args=true):SV.rns (ab2 (x::src)) [.ptr 0 0 0, .val (.string T)]=some args:=by
 unfold ais at h;split at h
 ·rw[za2] at h;obtain rfl:=zab h.1;obtain rfl:=We.1 h.2;rfl
 ·cases h
theorem akH (h: ∀C∈tb,C.kd= .own) (src:zdV):Far src (np iN iU++tb):= .inr λj C i hj _ hk=>by
 match j,hj with
 |0,hj=>obtain rfl:=zbk hj;cases hk
 |1,hj=>obtain rfl:=zbk hj;cases hk
 |2,hj=>obtain rfl:=zbk hj;cases hk
 |3,hj=>obtain rfl:=zbk hj;exact⟨by decide,by decide⟩
 |4,hj=>obtain rfl:=zbk hj;exact⟨by decide,by decide⟩
 |5,hj=>obtain rfl:=zbk hj;exact⟨by decide,by decide⟩
 |6,hj=>obtain rfl:=zbk hj;exact⟨by decide,by decide⟩
 |7,hj=>obtain rfl:=zbk hj;exact⟨by decide,by decide⟩
 |q+8,hj=>
  have hj:tb[q]? =some C:=hj;rw[h C (zal hj)] at hk;cases hk
def kN9 (x:I9) (t:zdK) (tb:zdW) (iN iU:SV) (T:zdJ) (us:ze1) (ns:ze2) (k:Nat):MCtr:=aiq (x.src t) (np iN iU++tb) (ais x.p T) (akG x t tb us ns k)
theorem aeV (hd:(x.src t).Nodup) (hl:t.length=tb.length) (ho: ∀C∈tb,C.kd= .own) (hu:us.length=k) (hn:ns.length=k) (hk:1<=k)
 (h: ∀Q:Option ade->Prop,Q (some (obk k us ns))->k8 a ann 9 F [.ptr 0 0 0, .val (.string T)] (np iN iU++tb) (KN (8+tb.length) Q)):
 ∀B:Base,GlobEB a B->VU prog B F (kN9 x t tb iN iU T us ns k):=λB hB=>
 afA (ann:=ann) (n:=9) (λB' hs=>aha (hB.sub hs)) (λargs h=>afD h) hd (akH ho _) λb nx=>by
  have:=ab3 (h (λq=>q=some (obk k us ns)) rfl) λr b' n wl hq=>kbN (x:=x) (t:=t) (b:=b) (nx:=nx) (iN:=iN) (iU:=iU) hl ho hu hn hk hq;unfold k8 at this;exact this
def ajE:zdJ:=⟨#[111,117,116,112,117,116,32,100,105,102,102,101,114,101,110,99,101,32,107,105,110,100,32,48,32,102,97,99,116,111,114,32,49,32,111,102,102,115,101,116,32,48,32,109,94,49,32,115,94,45,49]⟩
abbrev tb1:zdW:= [eU.own [u0],eN.own [nI9 0]]
abbrev tb2:zdW:= [eU.own [u0,u2],eN.own [nI9 0,nI9 1]]
theorem akI (a:Addr) (I:ByteArray->WdX->Prop) (Q:Option ade->Prop):k8 a (alF I) 9 227 [.ptr 0 0 0, .val (.string aeO)] (np adb adb++ []) (KN 8 Q)=
 adL (I ti9) (opV 3 4 5 6) (mT9 0 aeO ti9 t09 20 28) ti9 2 (uK (uK (uK (Q (some (obk 1 [u0] [nI9 0])))))):=by kernel_rfl
theorem akJ (a:Addr) (I:ByteArray->WdX->Prop) (Q:Option ade->Prop):k8 a (alF I) 9 227 [.ptr 0 0 0, .val (.string aeP)] (np (.slc 9 0 1) (.slc 8 0 1)++tb1) (KN 10 Q)=
 adL (I ti9) (opV 3 4 5 6) (mT9 0 aeP ti9 t19 22 30) ti9 2 (uK (uK (uK (Q (some (obk 2 [u0,u2] [nI9 0,nI9 1])))))):=by kernel_rfl
theorem akK (a:Addr) (I:ByteArray->WdX->Prop) (Q:Option ade->Prop):k8 a (alF I) 9 227 [.ptr 0 0 0, .val (.string aeQ)] (np (.slc 9 0 2) (.slc 8 0 2)++tb2) (KN 10 Q)=
 adL (I td9) (opV 3 4 5 6) (mT9 0 aeQ td9 ak7 22 30) td9 6 (uK (uK (uK (uK (Q (some (obk 3 [u0,u2,uo] [nI9 0,nI9 1,nD9]))))))):=by kernel_rfl
def ajF (bl:zdO):SV->Option (FuncId×List SV)
 | .fn (.func F) [] []=>match bl 0 with
   |some P=>bif isO P.kd&&(Nat.beq P.n 1&&(Nat.beq P.sz 24&&P.nn)) then some (F,P.get 0) else none
   |none=>none
 |_=>none
def KE (Q:Option (FuncId×List SV)->Prop):Aft:=λr bl _ _=>match r with
 | .ok s=>Q (ajF bl s)
 | .pan _=>False
theorem akL (a:Addr) (I:ByteArray->WdX->Prop) (Q:Option (FuncId×List SV)->Prop):k8 a (alF I) 9 227 [.ptr 0 0 0, .val (.string ajE)] (CsE 3 [u0,u2,uo]) (KE Q)=
 uK (Q (some (268,cP9 (.slc 3 0 2) (.slc 5 0 3) uo 1))):=by kernel_rfl
def akM (p c i n k:Nat):ahc:=(.fn (.func 268) [] [], [], [(p,adc 24 (cP9 (.slc i 0 2) (.slc n 0 k) uo c))])
theorem ahe {cs:zdM} (h:ajF bl s=some (F,cs)): ∃P,s= .fn (.func F) [] []/\bl 0=some P/\P.get 0=cs/\P.kd= .own/\P.n=1/\P.sz=24/\P.nn=true:=by
 unfold ajF at h;split at h
 ·split at h
  ·rename_i P hP;cases hb:(isO P.kd&&(Nat.beq P.n 1&&(Nat.beq P.sz 24&&P.nn))) with
   |false=>rw[hb] at h;cases h
   |true=>
    rw[hb,zdt] at h;simp only[za1,zag] at h;obtain⟨rfl,rfl⟩:=h;simp only[za2] at hb;obtain⟨a1,a2,a3,a4⟩:=hb;exact⟨P,rfl,hP,rfl,alK a1,zab a2,zab a3,a4⟩
  ·cases h
 ·cases h
variable {p c i:Nat}
theorem ala {u:Nat} {q:Nat} 
 (h:KE (λq=>q=some (268,cP9 (.slc 3 0 2) (.slc 5 0 k) uo 1)) r bl q wl):KB (rcL b (akM p c i n k)) ([p,c,m,i,u,n].map some) (CsE k us) nx r bl q wl:=by
 cases r with
 |pan v=>exact h.elim
 |ok s=>
  obtain⟨P,rfl,hP,p1,p2,p3,p4,p5⟩:=ahe h;refine⟨(),trivial, [],⟨_,rfl,rfl⟩,zcB,trivial,rfl, .inl rfl, ?_,trivial⟩;rw[hP];refine .inr ⟨p2.symm,p4.symm,λ_=>p5,by rw[p3];exact za0 _,λe he=> ?_⟩;obtain rfl:e=0:=by simp[adc] at he;omega
  rw[p1];rfl
def kE9 (p c m i u n k:Nat) (us:ze1) (T:zdJ):MCtr:=aiq [p,c,m,i,u,n] (CsE k us) (ais p T) (λ_=>akM p c i n k)
theorem ajG {u:Nat} (hd: [p,c,m,i,u,n].Nodup)
 (h: ∀Q:Option (FuncId×List SV)->Prop,Q (some (268,cP9 (.slc 3 0 2) (.slc 5 0 k) uo 1))->k8 a ann 9 F [.ptr 0 0 0, .val (.string T)] (CsE k us) (KE Q)):
 ∀B:Base,GlobEB a B->VU prog B F (kE9 p c m i u n k us T):=λB hB=>
 afA (ann:=ann) (n:=9) (λB' hs=>aha (hB.sub hs)) (λargs h=>afD h) hd (.inl λC hC=>by
  simp only[CsE,zai,zbx,or_false] at hC
  rcases hC with rfl|rfl|rfl|rfl|rfl|rfl<;>rfl) λb nx=>by
  have:=ab3 (h (λq=>q=some (268,cP9 (.slc 3 0 2) (.slc 5 0 k) uo 1)) rfl) λr b' n' wl hq=>ala (k:=k) (nx:=nx) (m:=m) (u:=u) (n:=n) (p:=p) (c:=c) (i:=i) (us:=us) (b:=b) hq;unfold k8 at this;exact this
def xI9:I9:=⟨4,403,400,396,397,398,399,311⟩
def ahf:MCtr:=
 orM (kN9 xI9 [] [] adb adb aeO [u0] [nI9 0] 1) (orM (kN9 xI9 [410,411] tb1 (.slc 9 0 1) (.slc 8 0 1) aeP [u0,u2] [nI9 0,nI9 1] 2)
  (orM (kN9 xI9 [448,449] tb2 (.slc 9 0 2) (.slc 8 0 2) aeQ [u0,u2,uo] [nI9 0,nI9 1,nD9] 3) (kE9 4 403 400 311 485 486 3 [u0,u2,uo] ajE)))
theorem afE: ∀C∈tb1,C.kd= .own:=λC hC=>by
 rcases zai.1 hC with rfl|hC
 ·rfl
 ·rw[zaj.1 hC];rfl
theorem afF: ∀C∈tb2,C.kd= .own:=λC hC=>by
 rcases zai.1 hC with rfl|hC
 ·rfl
 ·rw[zaj.1 hC];rfl
theorem agd: ∀B:Base,GlobEB a B->VU prog B 227 ahf:=λB hB=>by
 have h1: ∀Q:Option ade->Prop,Q (some (obk 1 [u0] [nI9 0]))->k8 a (alF aeM) 9 227 [.ptr 0 0 0, .val (.string aeO)] (np adb adb++ []) (KN (8+0) Q):=λQ hQ=>by
  rw[akI];exact acn aeN rfl λ_ _ _ _ _ _=>hQ
 have h2: ∀Q:Option ade->Prop,Q (some (obk 2 [u0,u2] [nI9 0,nI9 1]))->k8 a (alF aeM) 9 227 [.ptr 0 0 0, .val (.string aeP)] (np (.slc 9 0 1) (.slc 8 0 1)++tb1) (KN (8+2) Q):=λQ hQ=>by
  rw[akJ];exact acn aeN rfl λ_ _ _ _ _ _=>hQ
 have h3: ∀Q:Option ade->Prop,Q (some (obk 3 [u0,u2,uo] [nI9 0,nI9 1,nD9]))->k8 a (alF aeM) 9 227 [.ptr 0 0 0, .val (.string aeQ)] (np (.slc 9 0 2) (.slc 8 0 2)++tb2) (KN (8+2) Q):=λQ hQ=>by
  rw[akK];exact acn aeN rfl λ_ _ _ _ _ _ _ _=>hQ
 have h4: ∀Q:Option (FuncId×List SV)->Prop,Q (some (268,cP9 (.slc 3 0 2) (.slc 5 0 3) uo 1))->k8 a (alF aeM) 9 227 [.ptr 0 0 0, .val (.string ajE)] (CsE 3 [u0,u2,uo]) (KE Q):=λQ hQ=>by
  rw[akL];exact λ_ _=>hQ
 exact aeU (aeV (x:=xI9) (t:= []) (tb:= []) (us:= [u0]) (ns:= [nI9 0]) (k:=1) (iN:=adb) (iU:=adb) (T:=aeO) (by decide) rfl (λC hC=>by cases hC) rfl rfl (by decide) h1 B hB)
  (aeU (aeV (x:=xI9) (t:= [410,411]) (tb:=tb1) (us:= [u0,u2]) (ns:= [nI9 0,nI9 1]) (k:=2) (iN:= .slc 9 0 1) (iU:= .slc 8 0 1) (T:=aeP) (by decide) rfl afE rfl rfl (by decide) h2 B hB)
  (aeU (aeV (x:=xI9) (t:= [448,449]) (tb:=tb2) (us:= [u0,u2,uo]) (ns:= [nI9 0,nI9 1,nD9]) (k:=3) (iN:= .slc 9 0 2) (iU:= .slc 8 0 2) (T:=aeQ) (by decide) rfl afF rfl rfl (by decide) h3 B hB) (ajG (by decide) h4 B hB)))
def ait:zdZ:=(227,ahf)::af7
theorem aiu:MEk a ait:=adO.cons agd
@[irreducible] def acf (a:Addr) (ann:zdX) (n:Nat) (f:FuncId) (args:zdM) (Cs:zdW) (K:Aft):Prop:=
 Ay prog (iR yr) (gw g9s) (gx ait) (dF a) ann n f args (λi=>Cs[i]?) Cs.length [] K
variable {B:Base}
theorem akN (hB:GlobEB a B):HypD prog B (iR yr) (gw g9s) (gx ait) (dF a):=
 have h:=ac9 (gm:=ait) adv aiu hB
 ⟨h.gam,h.mem,h.dem,λf hf=>by
   unfold iR at hf;simp only[zaP] at hf;obtain⟨g,hg,hb⟩:=hf
   rw[zab hb];exact vT g hg,h.mixed⟩
theorem aeW (h:acf a ann n f args Cs K) (hm: ∀r b n w,K r b n w->K' r b n w):acf a ann n f args Cs K':=by
 unfold acf at h ⊢;exact NiceT.mono (Ea _ _ _ _ _ _ f args _ _ _ (λi hi=>zad hi)) h λr b n w _=>hm r b n w
abbrev aen:=Int×Nat×Nat×Int×Int×List (zdM)×List (zdM)×List SV
def ahg:BK->Bool
 | .own=>true
 |_=>false
def ajH (bl:zdO):SV->Option aen
 | .tup [.agg (.val (.int .i64 id):: .slc i 0 n:: .slc j 0 m::r), .val (.int .i64 z), .val (.int .i64 e)]=>match bl i,bl j with
   |some B,some C=>bif ahg B.kd&&(ahg C.kd&&(Nat.beq B.sz 20&&(Nat.beq C.sz 26&&(Nat.ble n B.n&&(Nat.ble m C.n&& !Nat.beq i j))))) then some (id,n,m,z,e,alm B.get n,alm C.get m,r) else none
   |_,_=>none
 |_=>none
def K9 (Q:Option aen->Prop):Aft:=λr bl _ _=>match r with
 | .ok s=>Q (ajH bl s)
 | .pan _=>False
def aiv:aen:=(1,2,3,0,0, [ci u0,ci u2], [svN (nI9 0),svN (nI9 1),svN nD9],ci uo)
def akO (src:zdK) (Cs:zdW) (G:List (Nat->Option (zdM))):Bool:=agc (aga (ab2 src) Cs=aga (ab2 src) Cs)&&agc (G=acG (ab2 src) Cs)
def age:List (Nat->Option (zdM)):= [λe=>some (opG (opV 396 397 398 399) 8 e)]
def nd9 (src:zdK) (Cs:zdW) (G:List (Nat->Option (zdM))) (K:Prop):Prop:=af (akO src Cs G) (uK K)
def afG (Q:Option aen->Prop):Prop:=
 uK (uK (uK (uK (uK (nd9 (xI9.src []) (np adb adb++ []) age (nd9 (xI9.src [410,411]) (np (.slc 9 0 1) (.slc 8 0 1)++tb1) age (nd9 (xI9.src [448,449]) (np (.slc 9 0 2) (.slc 8 0 2)++tb2) age (
  nd9 [4,403,400,311,485,486] (CsE 3 [u0,u2,uo]) [] (Q (some aiv))))))))))
theorem agf (a:Addr) (Q:Option aen->Prop):acf a zl 9 35 [.val (.string spT)] [] (K9 Q)=afG Q:=by kernel_rfl
theorem adR (h: ∀C∈tb,C.kd= .own):age=acG (ab2 (xI9.src t)) (np iN iU++tb):=by
 have e:acG (ab2 (xI9.src t)) tb= []:=by
  generalize ab2 (xI9.src t)=f
  induction tb with
  |nil=>rfl
  |cons C r ih=>
   rw[acG,h C (zbF ..)];exact ih λD hD=>h D (zan _ hD)
 show age=(λe=>SV.rns (ab2 (xI9.src t)) (opG (opV 3 4 5 6) 8 e))::acG (ab2 (xI9.src t)) tb;rw[e];unfold age
 congr 1
 funext e
 exact(adN e 8 (afC (x:=xI9) rfl rfl rfl rfl)).symm
theorem adS {G:List (Nat->Option (zdM))} {K:Prop} (h:G=acG (ab2 src) Cs) (k:K):nd9 src Cs G K:=by
 unfold nd9 akO uK;refine ac ?_ λ_ _=>k;rw[za2];exact⟨ac5.2 rfl,ac5.2 h⟩
theorem aeX {Q:Option aen->Prop} (hQ:Q (some aiv)):acf a zl 9 35 [.val (.string spT)] [] (K9 Q):=by
 rw[agf];unfold afG;exact λ_ _ _ _ _ _ _ _ _ _=>adS (adR λC hC=>by cases hC) (adS (adR afE) (adS (adR afF) (adS rfl hQ)))
theorem aeo {k:BK} (h:ahg k=true):k= .own:=by cases k<;>first|rfl|cases h
theorem ahh {z e:Int} {r:zdM} (h:ajH bl s=some (id,n,m,z,e,cu,cn,r)):
 ∃(i j:Nat) (B C:Blk),s= .tup [.agg (.val (.int .i64 id):: .slc i 0 n:: .slc j 0 m::r), .val (.int .i64 z), .val (.int .i64 e)]/\bl i=some B/\bl j=some C/\B.kd= .own/\C.kd= .own/\B.sz=20/\C.sz=26/\n<=B.n/\m<=C.n/\i≠j/\alm B.get n=cu/\alm C.get m=cn:=by
 unfold ajH at h;split at h
 ·split at h
  ·rename_i B C hB hC;cases hb:(ahg B.kd&&(ahg C.kd&&(Nat.beq B.sz 20&&(Nat.beq C.sz 26&&(Nat.ble _ B.n&&(Nat.ble _ C.n&& !Nat.beq _ _)))))) with
   |false=>rw[hb] at h;cases h
   |true=>
    rw[hb,zdt] at h;simp only[za1,zag] at h;obtain⟨rfl,rfl,rfl,rfl,rfl,rfl,rfl,rfl⟩:=h;simp only[za2,zap] at hb;obtain⟨h1,h2,h3,h4,h5,h6,h7⟩:=hb;refine⟨_,_,B,C,rfl,hB,hC,aeo h1,aeo h2,zab h3,zab h4,zak h5,zak h6, ?_,rfl,rfl⟩;intro q;subst q;rw[Nat.beq_refl] at h7;cases h7
  ·cases h
 ·cases h
def rcP (nx:Nat) (id:Int) (u v:Un) (x y w:Nd) (o:Un):RC:={X:=Unit,pre:=true,spec:=λ_=>True,out:=λ_=> .tup [.agg (.val (.int .i64 id):: .slc nx 0 2:: .slc (nx+1) 0 3::ci o), .val (.int .i64 0), .val (.int .i64 0)],nw:=λ_=> [eU.own [u,v],eN.own [x,y,w]],ex:=λ_=>⟨(),trivial⟩}
variable {u v o:Un} {y w:Nd}
theorem alb {x:Nd} (h:K9 (λq=>q=some (id,2,3,0,0, [ci u,ci v], [svN x,svN y,svN w],ci o)) r bl n wl):KB (rcP nx id u v x y w o) [] [] nx r bl n wl:=by
 cases r with
 |pan v=>exact h.elim
 |ok s=>
  obtain⟨i,j,B,C,rfl,hB,hC,k1,k2,z1,z2,n1,n2,hij,c1,c2⟩:=ahh h;have e:=rns_free (f:=dt [] [some i,some j] nx) (fj o);have e0:dt [] [some i,some j] nx nx=some (some i):=cO;have e1:dt [] [some i,some j] nx (nx+1)=some (some j):=jA 1;have c1: [B.get 0,B.get 1]= [ci u,ci v]:=c1;have c2: [C.get 0,C.get 1,C.get 2]= [svN x,svN y,svN w]:=c2;simp only[zca,and_true] at c1 c2;refine⟨(),trivial, [some i,some j],⟨_,rfl, ?_⟩,by simp[ck,hij],⟨⟨zaA _, ?_⟩,⟨zaA _, ?_⟩,trivial⟩,trivial⟩
  ·exact xh (ar (Xs (ar rfl (ar (by simp only[SV.rn,e0]) (ar (by simp only[SV.rn,e1]) e)))) rfl)
  ·rw[hB];refine⟨by simp[El.own],λ_=>⟨by simp[El.own],eU.one⟩,gC k1 z1 n1 λe he=> ?_⟩;rcases(show e=0\/e=1 by simp at he;omega) with rfl|rfl
   ·exact c1.1
   ·exact c1.2
  ·rw[hC];refine⟨by simp[El.own],λ_=>⟨by simp[El.own],eN.one⟩,gC k2 z2 n2 λe he=> ?_⟩;rcases(show e=0\/e=1\/e=2 by simp at he;omega) with rfl|rfl|rfl
   ·exact c2.1
   ·exact c2.2.1
   ·exact c2.2.2
def kP9 (T:zdJ) (id:Int) (u v:Un) (x y w:Nd) (o:Un):MCtr:=λ_ nx args=>match args with
 | [.val (.string s)]=>bif seq T s then some (rcP nx id u v x y w o) else none
 |_=>none
theorem ajI {x:Nd} (h: ∀Q:Option aen->Prop,Q (some (id,2,3,0,0, [ci u,ci v], [svN x,svN y,svN w],ci o))->acf a ann 9 f [.val (.string T)] [] (K9 Q)):
 ∀B:Base,GlobEB a B->VU prog B f (kP9 T id u v x y w o):=λB hB=>c8 (λB' hs=>akN (hB.sub hs)) λbl nx args C hk hp=>by
 unfold kP9 at hk;split at hk
 ·rename_i s;cases hb:seq T s with
  |false=>rw[hb] at hk;cases hk
  |true=>
   rw[hb,zdt] at hk;simp only[za1] at hk;subst hk;obtain rfl:=We.1 hb;have key:acf a ann 9 f [.val (.string T)] [] (KB (rcP nx id u v x y w o) [] [] nx):=aeW (h (λq=>q=some (id,2,3,0,0, [ci u,ci v], [svN x,svN y,svN w],ci o)) rfl) λr b n wl hq=>alb hq;unfold acf at key;exact⟨[], [], [.val (.string T)],ann,9,trivial,bH (λC hC=>by cases hC),cd (λC hC=>by cases hC),rfl,key⟩
 ·cases hk
def aco:SV:= .agg (.val (.int .i64 0):: .val (.slice none 0 0):: .val (.slice none 0 0)::ci noU)
theorem agh (a:Addr) (Q:zdT):k8 a zl 9 35 [.val (.string zA9)] [] (Go.Sy.okK λr _ _ _=>Q r)=uK (uK (Q (.tup [aco, .val (.int .i64 1), .val (.int .i64 90)]))):=by kernel_rfl
def ajJ (k l:MCtr):MCtr:=λbl nx args=>match k bl nx args with
 |some C=>some C
 |none=>l bl nx args
theorem aiw {k l:MCtr} (hk:VU prog B f k) (hl:VU prog B f l):VU prog B f (ajJ k l):=by
 intro bl β w nx args C a b c d e p;unfold ajJ at e;split at e
 ·rename_i C' hC;obtain rfl:C'=C:=by simpa using e
  exact hk bl β w nx args _ a b c d hC p
 ·exact hl bl β w nx args _ a b c d e p
def rcV (r:SV):RC:={X:=Unit,pre:=true,spec:=λ_=>True,out:=λ_=>r,ex:=λ_=>⟨(),trivial⟩}
def kV9 (T:zdJ) (r:SV):MCtr:=λ_ _ args=>match args with
 | [.val (.string s)]=>bif seq T s then some (rcV r) else none
 |_=>none
theorem ajK {r:SV} (hr:r.ids= []) (h: ∀Q:zdT,Q r->k8 a ann 9 f [.val (.string T)] [] (Go.Sy.okK λr _ _ _=>Q r)):
 ∀B:Base,GlobEB a B->VU prog B f (kV9 T r):=λB hB=>c8 (λB' hs=>aha (hB.sub hs)) λbl nx args C hk hp=>by
 unfold kV9 at hk;split at hk
 ·rename_i s;cases hb:seq T s with
  |false=>rw[hb] at hk;cases hk
  |true=>
   rw[hb,zdt] at hk;simp only[za1] at hk;subst hk;obtain rfl:=We.1 hb;have key:k8 a ann 9 f [.val (.string T)] [] (KB (rcV r) [] [] nx):=ab3 (h (λq=>q=r) rfl) λq b m w hq=>by
    cases q with
    |pan v=>exact hq.elim
    |ok s=>
     obtain rfl:s=r:=hq;exact IG () trivial rfl hr rfl rfl rfl (λC hC=>by cases hC) rfl
   unfold k8 at key;exact⟨[], [], [.val (.string T)],ann,9,trivial,bH (λC hC=>by cases hC),cd (λC hC=>by cases hC),rfl,key⟩
 ·cases hk
variable {Q:zdT}
theorem aeY (hQ:Q (.tup [aco, .val (.int .i64 1), .val (.int .i64 90)])):k8 a zl 9 35 [.val (.string zA9)] [] (Go.Sy.okK λr _ _ _=>Q r):=by
 rw[agh];exact λ_ _ _ _=>hQ
def adT:MCtr:=kP9 spT 1 u0 u2 (nI9 0) (nI9 1) nD9 uo
theorem aeZ: ∀B:Base,GlobEB a B->VU prog B 35 adT:=by
 unfold adT;have h: ∀Q:Option aen->Prop,Q (some aiv)->acf a zl 9 35 [.val (.string spT)] [] (K9 Q):=λQ hQ=>aeX hQ;unfold aiv at h;generalize spT=T at h ⊢;exact ajI h
def adU:MCtr:=kV9 zA9 (.tup [aco, .val (.int .i64 1), .val (.int .i64 90)])
theorem ae0: ∀B:Base,GlobEB a B->VU prog B 35 adU:=by
 unfold adU;have h: ∀Q:zdT,Q (.tup [aco, .val (.int .i64 1), .val (.int .i64 90)])->k8 a zl 9 35 [.val (.string zA9)] [] (Go.Sy.okK λr _ _ _=>Q r):=λQ hQ=>aeY hQ;have hr:(SV.tup [aco, .val (.int .i64 1), .val (.int .i64 90)]).ids= []:=rfl;generalize zA9=T at h ⊢;generalize (SV.tup [aco, .val (.int .i64 1), .val (.int .i64 90)])=r at h hr ⊢;exact ajK hr h
def aix:zdZ:=(35,ajJ adT adU)::af7
theorem aiy:MEk a aix:=adO.cons λB hB=>aiw (aeZ B hB) (ae0 B hB)
@[irreducible] def acB (a:Addr) (ann:zdX) (n:Nat) (f:FuncId) (args:zdM) (Cs:zdW) (K:Aft):Prop:=
 Ay prog (iR yr) (gw g9s) (gx aix) (dF a) ann n f args (λi=>Cs[i]?) Cs.length [] K
theorem akP (hB:GlobEB a B):HypD prog B (iR yr) (gw g9s) (gx aix) (dF a):=
 have h:=ac9 (gm:=aix) adv aiy hB
 ⟨h.gam,h.mem,h.dem,λf hf=>by
   unfold iR at hf;simp only[zaP] at hf;obtain⟨g,hg,hb⟩:=hf
   rw[zab hb];exact vT g hg,h.mixed⟩
def gU9:zdP:=je (ci (aT 0)++ci (aT 2)) 20
def gN9:zdP:=je (svN (nI9 0)++svN (nI9 1)++svN nD9) 26
def gC9:zdP:=λi=>bif Nat.beq i 2 then gZ (gN9 i) 0 [.val (.int .i64 3)] else gN9 i
def rA9:zdP:=je (gA (rMk 10 1).1++gA (rMk 4 1).1) 2
def rB9:zdP:=je (gA (rMk 10 1).1++gA (rMk 0 1).1) 2
def iA9:zdP:=je (gA (rMk 9 1).1++gA (rMk 11 1).1++gA (rMk 4 1).1++gA (rMk 5 1).1) 4
def ali (n1:Nat) (g1:zdP) (n2:Nat) (g2:zdP) (u:Un):Bool:=(Nat.ble n1 n1&&Nat.beq 20 20&&true)&&(Nat.ble n2 n2&&Nat.beq 26 26&&true)&&bW n1&&bW n2&&eU.good szB n1 g1&&eN.good szN n2 g2&&szB u
def pA9:Pr:=⟨1,eU.list 2 gU9,eN.list 3 gN9,uo⟩
def pB9:Pr:=⟨1,eU.list 2 (eU.get [u0,u2]),eN.list 3 (eN.get [nI9 0,nI9 1,nD9]),uo⟩
def n9 (c:Bool) (K:Prop):Prop:=af c (uK K)
open Classical in
def ahi (Q:zdT):Prop:=
 n9 (ali 2 gU9 3 gN9 uo) (n9 (ali 2 gU9 3 gN9 (aT 0)) (n9 (ali 2 gU9 3 gC9 (aT 0)) (
 n9 (ali 2 gU9 3 gN9 uo&&(Nat.ble 2 2&&Nat.beq 2 2&&true)&&bW 2&&eR.good uzR 2 rA9) (
 n9 (ali 2 gU9 3 gN9 uo&&(Nat.ble 2 2&&Nat.beq 2 2&&true)&&bW 2&&eR.good uzR 2 rB9) (
 n9 (ali 2 gU9 3 gN9 uo&&(Nat.ble 2 2&&Nat.beq 4 4&&true)&&bW 2&&eI.good uzI 2 iA9&&(acl pA9 (eI.list 2 iA9) 2).2==0) (
 n9 (ali 2 gU9 3 gN9 uo&&decide (pA9=spP)) (uK (uK (
 n9 (ali 2 gU9 3 gN9 uo&&ali 2 (eU.get [u0,u2]) 3 (eN.get [nI9 0,nI9 1,nD9]) uo&&decide (pA9=pB9)) (
 n9 (ali 2 gU9 3 gN9 uo) (n9 (ali 2 gU9 3 gC9 (aT 0)) (Q (cB.enc true)))))))))))))
theorem ahj (a:Addr) (Q:zdT):acB a (afZ 7) 9 7 [] [] (Go.Sy.okK λr _ _ _=>Q r)=ahi Q:=by kernel_rfl
theorem als {n1:Nat} {g1:zdP} {n2:Nat} {g2:zdP} (h1:n1<=1000000) (h2:n2<=1000000) (k1:eU.good szB n1 g1=true) (k2:eN.good szN n2 g2=true) (hu:szB u=true):ali n1 g1 n2 g2 u=true:=by
 unfold ali bW;rw[zae (za0 n1),zae (za0 n2),zae h1,zae h2,k1,k2,hu];rfl
theorem ahk (h:szB u=true) (k:szB v=true):eU.good szB 2 (je (ci u++ci v) 20)=true:=El.good_iff.2 λe he=>by
 rcases(show e=0\/e=1 by omega) with rfl|rfl
 ·exact⟨rfl,h⟩
 ·exact⟨rfl,k⟩
theorem ahl {x z:Nd} (h:szN x=true) (k:szN y=true) (l:szN z=true):eN.good szN 3 (je (svN x++svN y++svN z) 26)=true:=El.good_iff.2 λe he=>by
 rcases(show e=0\/e=1\/e=2 by omega) with rfl|rfl|rfl
 ·exact⟨rfl,h⟩
 ·exact⟨rfl,k⟩
 ·exact⟨rfl,l⟩
theorem ajL:eN.good szN 3 gC9=true:=El.good_iff.2 λe he=>by
 rcases(show e=0\/e=1\/e=2 by omega) with rfl|rfl|rfl
 ·exact⟨rfl,lB⟩
 ·exact⟨rfl,lB⟩
 ·exact⟨rfl,lB⟩
theorem ahm {x y:RS} (h:uzR x=true) (k:uzR y=true):eR.good uzR 2 (je (gA x++gA y) 2)=true:=El.good_iff.2 λe he=>by
 rcases(show e=0\/e=1 by omega) with rfl|rfl
 ·exact⟨rfl,h⟩
 ·exact⟨rfl,k⟩
theorem ajM {x y z w:RS} (h:uzR x=true) (k:uzR y=true) (l:uzR z=true) (m:uzR w=true):eI.good uzI 2 (je (gA x++gA y++gA z++gA w) 4)=true:=El.good_iff.2 λe he=>by
 rcases(show e=0\/e=1 by omega) with rfl|rfl
 ·exact⟨rfl,by show (uzR x&&uzR y)=true;rw[h,k];rfl⟩
 ·exact⟨rfl,by show (uzR z&&uzR w)=true;rw[l,m];rfl⟩
theorem ahn:pA9=spP:=by kernel_rfl
theorem ajN:pB9=spP:=by kernel_rfl
theorem aiz:((acl pA9 (eI.list 2 iA9) 2).2==0)=true:=by kernel_rfl
theorem afH:szB (aT 0)=true:=by kernel_rfl
theorem aiP:szB (aT 2)=true:=by kernel_rfl
theorem aiQ:szB uo=true:=by kernel_rfl
theorem agi (hQ:Q (cB.enc true)):acB a (afZ 7) 9 7 [] [] (Go.Sy.okK λr _ _ _=>Q r):=by
 rw[ahj];have gu:=ahk afH aiP;have gn:eN.good szN 3 gN9=true:=ahl lB lB lB;have c1:ali 2 gU9 3 gN9 uo=true:=als (by decide) (by decide) gu gn aiQ;have c2:ali 2 gU9 3 gN9 (aT 0)=true:=als (by decide) (by decide) gu gn afH;have c3:ali 2 gU9 3 gC9 (aT 0)=true:=als (by decide) (by decide) gu ajL afH;have c4:ali 2 (eU.get [u0,u2]) 3 (eN.get [nI9 0,nI9 1,nD9]) uo=true:=als (by decide) (by decide)
  (El.good_get (E:=eU) (l:= [u0,u2]) λx hx=>by
    rcases zai.1 hx with rfl|hx
    ·exact afH
    ·rw[zaj.1 hx];exact aiP)
  (El.good_get (E:=eN) (l:= [nI9 0,nI9 1,nD9]) λx hx=>by
    rcases zai.1 hx with rfl|hx
    ·exact lB
    ·rcases zai.1 hx with rfl|hx
     ·exact lB
     ·rw[zaj.1 hx];exact lB) aiQ
 have r1:eR.good uzR 2 rA9=true:=ahm (alg 10 1) (alg 4 1);have r2:eR.good uzR 2 rB9=true:=ahm (alg 10 1) (alg 0 1);have r3:eI.good uzI 2 iA9=true:=ajM (alg 9 1) (alg 11 1) (alg 4 1) (alg 5 1);have d1: ∀i, @decide (pA9=spP) i=true:=λi=> @zdr _ i ahn;have d2: ∀i, @decide (pA9=pB9) i=true:=λi=> @zdr _ i (ahn.trans ajN.symm);unfold ahi n9 uK;refine ac c1 λ_ _=>ac c2 λ_ _=>ac c3 λ_ _=>ac ?_ λ_ _=>ac ?_ λ_ _=>ac ?_ λ_ _=>ac ?_ λ_ _ _ _ _ _=>ac ?_ λ_ _=>ac c1 λ_ _=>ac c3 λ_ _=>hQ
 ·rw[c1,r1];rfl
 ·rw[c1,r2];rfl
 ·rw[c1,r3,aiz];rfl
 ·rw[c1,d1];rfl
 ·rw[c1,c4,d2];rfl
def adV:MCtr:=λ_ _ args=>match args with
 | []=>some (rcV (cB.enc true))
 |_=>none
theorem ae1 (h:acB a ann n f args Cs K) (hm: ∀r b n w,K r b n w->K' r b n w):acB a ann n f args Cs K':=by
 unfold acB at h ⊢;exact NiceT.mono (Ea _ _ _ _ _ _ f args _ _ _ (λi hi=>zad hi)) h λr b n w _=>hm r b n w
theorem agj (h: ∀Q:zdT,Q (cB.enc true)->acB a ann 9 F [] [] (Go.Sy.okK λr _ _ _=>Q r)): ∀B:Base,GlobEB a B->VU prog B F adV:=λB hB=>c8 (λB' hs=>akP (hB.sub hs)) λbl nx args C hk hp=>by
 unfold adV at hk;split at hk
 ·simp only[za1] at hk;subst hk;have key:acB a ann 9 F [] [] (KB (rcV (cB.enc true)) [] [] nx):=ae1 (h (λr=>r=cB.enc true) rfl) λq b m w hq=>by
   cases q with
   |pan v=>exact hq.elim
   |ok s=>
    obtain rfl:s=cB.enc true:=hq;exact IG () trivial rfl rfl rfl rfl rfl (λC hC=>by cases hC) rfl
  unfold acB at key;exact⟨[], [], [],ann,9,trivial,bH (λC hC=>by cases hC),cd (λC hC=>by cases hC),rfl,key⟩
 ·cases hk
theorem agk: ∀B:Base,GlobEB a B->VU prog B 7 adV:=agj λQ hQ=>agi hQ
end Go.Proofs.YtdbnankjpnpojaaGreatDoor
namespace Go.Proofs.YtdbnankjpnpojaaGreatDoor
open Go.Proofs.Tryz
open Go.ChangeShapes Go.WideShapes Go.ChangeAt Go.RowKit Yk
theorem oQ {H:Type} {enc:TypeId×Value->H} {a:Assume} {C:Checked} {os:Os} {f:FuncId} {fn:Func} {s:ChangeSpec} {conds:List PathCond} {apart fresh handsOn again:Bool} {X:World->Array Value->Prop}
 (hX: ∀(w w':World) (args:Array Value),w.heap=w'.heap->X w args->X w' args)
 (own:ownKnob C.prog.godebug=none) (started:os.Started) (noInit:C.prog.inits.idxOf? f=none) (hfn:C.prog.funcs[f]? =some fn)
 (witness: ∃(w:World) (tape:Tape) (i:Input),w.os=os/\(w.forCall tape i).Shaped C.prog/\i.vars= []/\Input.okWide C.prog (w.forCall tape i) .any w.heap.size f i/\
   ((s.pre enc C.prog fn conds apart (w.forCall tape i).memory i.args/\X (w.forCall tape i).memory i.args)/\sizedMet enc C.prog fn (OpenSpec.ofChange s) apart (w.forCall tape i).memory i.args)/\a.holds C.prog (lone (Frame.enter C.prog f i.args .normal) [] (w.forCall tape i)))
 (contract: ∀(W:World) (base:Nat) (args:Array Value) (ds gs:List (DataW H)) (before:List MemPlace),
   (∀(j:Nat) t v,fn.params[j]? =some t->args[j]? =some v->Value.okWide C.prog W .any base t v)->
   DataW.Whole enc C.prog fn.params.toList s.vars apart W args.toList ds gs before->
   X W args->W.ShapedOpen C.prog->
   Calls C.prog f args W λe W'=> ∃v,e= .returned v/\s.post enc C.prog fn apart fresh handsOn again W args v W'):
 ReturnsInHanded a C os f .any (λw args=>(s.pre enc C.prog fn conds apart w args/\X w args)/\sizedMet enc C.prog fn (OpenSpec.ofChange s) apart w args) (s.post enc C.prog fn apart fresh handsOn again):=by
 refine returnsInHanded_of_calls own started noInit witness ?_;intro w tape i _ hsh _ hok hpre hholds;obtain⟨_,_,_,fn',hfn',_,_,_,_,hval⟩:=hok;have e:fn'=fn:=zbk (hfn'.symm.trans hfn);subst e;obtain⟨⟨⟨ds,gs,before,hw,hc⟩,hx⟩,hz⟩:=hpre;have hw':=DataW.Whole.of_heap (w':=w.forCall tape i) (by rfl) hw;refine(contract (w.forCall tape i) w.heap.size i.args ds gs before hval hw' (hX _ _ _ (by rfl) hx) hsh).mono λe W' ⟨v,he,hp⟩=> ?_;subst he;exact ChangeSpec.post_blind hp
theorem own:ownKnob prog.godebug=none:=by kernel_rfl
def oR:List (String×DataW Unit):=Rows.procedureMatchesReferenceRow.laid
variable {W:World}
theorem MM (h:W.ShapedOpen prog): ∃m,W.cell? ⟨4,0,none⟩=some (.int .i64 m):=
 cell_of_shapedOpen_int (t:=3) (zero:= #[.int .i64 0]) h (zdw (by kernel_rfl)) (by kernel_rfl) (by kernel_rfl) (by kernel_rfl) (by kernel_rfl) underlying3
theorem MN:(Rows.laid_internal_strconv_uint64pow10:DataW Unit)=Lib.tabData .u64 Lib.pow10Tab:=by kernel_rfl
theorem No:prog.globalNamed "strconv.ErrRange" =some 3:=by kernel_rfl
theorem Np:prog.globalNamed "strconv.ErrSyntax" =some 2:=by kernel_rfl
theorem QB: "*" ++ "errors.errorString" = "*errors.errorString" :=by decide
theorem JV (u:TypeId) (h:prog.typeName? 3 u=some "*errors.errorString"):u=330:=
 typeName_ptr_named (nm:= "errors.errorString") (by rw[QB];kernel_rfl) (by kernel_rfl) (by decide) u (by rw[QB];exact h)
theorem JW (h:W.ShapedOpen prog) (hL:laidMetH prog oR W):GlobU W:=by
 rw[MakeChecks.laidMetH_plain _ _ _ (by kernel_rfl)] at hL;have hL1:=laidMet.tail (laidMet.tail hL);have ht:Lib.TabIs prog W "internal/strconv.uint64pow10" .u64 Lib.pow10Tab:=
  Lib.tabIs_of_head NL (by kernel_rfl) underlying317 underlying273 (by kernel_rfl) (by kernel_rfl) (MN▸hL1)
 have hL2:=laidMet.tail (laidMet.tail hL1);obtain⟨a0,s0,hv0,_,_,_⟩:=laid_sentinel (g:=3) (ti:=134) (tp:=330) (te:=332) (ts:=9) hL2 No (by kernel_rfl) underlying134 JV underlying330 underlying332 rfl rfl underlying9 (by kernel_rfl) (by kernel_rfl);obtain⟨a1,s1,hv1,_,_,_⟩:=laid_sentinel (g:=2) (ti:=134) (tp:=330) (te:=332) (ts:=9) (laidMet.tail hL2) Np (by kernel_rfl) underlying134 JV underlying330 underlying332 rfl rfl underlying9 (by kernel_rfl) (by kernel_rfl);have c0:=World.var?_cell No hv0 0;have c1:=World.var?_cell Np hv1 0;exact⟨⟨MM h,ht,World.block_lt_of_cell? W _ (ht.cell NL 0 (by decide))⟩,⟨_,by simpa using c1, .inr ⟨_,_,rfl⟩⟩,⟨_,by simpa using c0, .inr ⟨_,_,rfl⟩⟩⟩
end Go.Proofs.YtdbnankjpnpojaaGreatDoor
namespace Go.Proofs.YtdbnankjpnpojaaGreatDoor
open Go.Proofs.Tryz
open Go Go.RowKit Go.Sy Yk
open Go.ChangeShapes Go.WideShapes Go.ChangeAt
theorem aiR:prog.globalNamed "yardstick/enclosure.errFails" =some 0:=by kernel_rfl
theorem aho {W:World} (h:W.ShapedOpen prog) (hL:laidMetH prog oR W): ∃a,GlobE a W:=by
 have hU:=JW h hL;rw[MakeChecks.laidMetH_plain _ _ _ (by kernel_rfl)] at hL;have hL3:=laidMet.tail (laidMet.tail (laidMet.tail (laidMet.tail (laidMet.tail (laidMet.tail hL)))));obtain⟨a0,s0,hv0,_,_,_⟩:=laid_sentinel (g:=0) (ti:=134) (tp:=330) (te:=332) (ts:=9) hL3 aiR (by kernel_rfl) underlying134 JV underlying330 underlying332 rfl rfl underlying9 (by kernel_rfl) (by kernel_rfl);have c0:=World.var?_cell aiR hv0 0;exact⟨a0,hU,by unfold evE;simpa using c0⟩
def TF:zdZ:= [(47,SZ)]
abbrev M1:=Int×List Un
abbrev M3:=Int×List Nd×List Un
def St (I1:M1->Prop) (I2 I3:M3->Prop) (N:Int):zdX:=λf k=>bif Nat.beq f 36 then(
 bif Nat.beq k 3 then some (λA=>{X:=M1,inv:=I1,tm:=λx=> [(10, .val (.int .i64 x.1))],st:= [(kA A 9,λx=>(qv A 9 0).take 1++(SV.slc A.nx 0 x.2.length::(qv A 9 0).drop 2))],gr:= [{src:= .cell (kA A 9) 0 1,sz:=20,n:=λx=>x.2.length,get:=λx=>eU.get x.2}],cleanG:=λg hg x e=>(by simp at hg;subst hg;exact eU.ids _),mu:=λx=>(4 - x.1).toNat,keep:= [1,2,3,4,8,9],sp:= [λx=>(0,x.2),λx=>(1,x.2),λx=>(2,x.2),λx=>(3,x.2)]})
 else bif Nat.beq k 8 then some (λA=>{X:=M3,inv:=I2,tm:=λx=> [(12, .val (.int .i64 x.1)),(11, .slc (A.nx+1) 0 x.2.2.length)],st:= [(kA A 9,λx=>(qv A 9 0).take 2++(SV.slc A.nx 0 x.2.1.length::(qv A 9 0).drop 3))],gr:= [{src:= .cell (kA A 9) 0 2,sz:=26,n:=λx=>x.2.1.length,get:=λx=>eN.get x.2.1},{src:= .slot 11,sz:=20,n:=λx=>x.2.2.length,get:=λx=>eU.get x.2.2}],cleanG:=λg hg x e=>(by simp at hg;rcases hg with rfl|rfl;exact eN.ids _;exact eU.ids _),mu:=λx=>(4 - x.1).toNat,keep:= [1,2,3,4,8,9]})
 else bif Nat.beq k 13 then some (λA=>{X:=M3,inv:=I3,tm:=λx=> [(13, .val (.int .i64 x.1)),(11, .slc (A.nx+1) 0 x.2.2.length)],st:= [(kA A 9,λx=>(qv A 9 0).take 2++(SV.slc A.nx 0 x.2.1.length::(qv A 9 0).drop 3))],gr:= [{src:= .cell (kA A 9) 0 2,sz:=26,n:=λx=>x.2.1.length,get:=λx=>eN.get x.2.1},{src:= .slot 11,sz:=20,n:=λx=>x.2.2.length,get:=λx=>eU.get x.2.2}],cleanG:=λg hg x e=>(by simp at hg;rcases hg with rfl|rfl;exact eN.ids _;exact eU.ids _),mu:=λx=>(N - x.1).toNat,keep:= [1,2,3,4,8,9]})
 else none) else none
def prS (K1:Nat->Nat->Blk->Nat->Nat->Blk->Int->List SV->Prop):Aft:=λr bl _ _=>match r with
 | .ok (.agg (.val (.int .i64 id):: .slc i 0 n:: .slc j 0 m::rest))=>(match bl i,bl j with
   |some B,some C=>K1 i n B j m C id rest
   |_,_=>False)
 |_=>False
abbrev TG (I1:M1->Prop) (I2 I3:M3->Prop) (N:Int) (a:Int×Int×Int) (count:Int) (xs:List I4) (ex:Bool) (K1:Nat->Nat->Blk->Nat->Nat->Blk->Int->List SV->Prop):Prop:=
 JL TF (St I1 I2 I3 N) 6 36 [.agg [.val (.int .i64 a.1), .val (.int .i64 a.2.1), .val (.int .i64 a.2.2)],cI.enc count, .slc 0 0 xs.length,cB.enc ex] [e4.old xs] (prS K1)
section
variable (I1:M1->Prop) (I2 I3:M3->Prop) (N:Int) (a:Int×Int×Int) (count:Int) (xs:List I4) (ex:Bool)
def mdC (n0:Nat) (s:SV):zdM:= .val (.int .i64 (1+co count 900)):: .slc 10 0 n0::s::ci noU
def md1 (s:SV):zdM:= .val (.int .i64 (1+co count 900))::s:: .val (.slice none 0 0)::ci noU
def S4:Prop:=tvE (cI.enc count)/\tvE (.slc 0 0 xs.length)/\tvE (cB.enc ex)/\cg 1/\cg 2/\cg 7/\True
def Ua (q:Nat) (p:Int) (m:Nat) (g:zdP) (z:M1):Prop:=(TV.v (cI.enc p)=TV.v (cI.enc z.1)/\S4 count xs ex)/\(True/\((md1 count (.slc q 0 m)=md1 count (.slc q 0 z.2.length)/\True)/\(af (Nat.beq 20 20&&decide (z.2.length<=m)) (∀e,e<z.2.length->g e=eU.get z.2 e)/\True)))
def So (n0 q1 q2:Nat) (p:Int) (m:Nat) (g:zdP) (k:Nat) (h:zdP) (z:M3):Prop:=(TV.v (cI.enc p)=TV.v (cI.enc z.1)/\TV.v (.slc q2 0 k)=TV.v (.slc q2 0 z.2.2.length)/\S4 count xs ex)/\(True/\((mdC count n0 (.slc q1 0 m)=mdC count n0 (.slc q1 0 z.2.1.length)/\True)/\
 (af (Nat.beq 26 26&&decide (z.2.1.length<=m)) (∀e,e<z.2.1.length->g e=eN.get z.2.1 e)/\(af (Nat.beq 20 20&&decide (z.2.2.length<=k)) (∀e,e<z.2.2.length->h e=eU.get z.2.2 e)/\True))))
def S5 (inp:ze1) (nod:ze2) (us:ze1) (x:Nd):Bool:=kp inp.length inp.length (eU.get inp) nod.length nod.length (eN.get nod) noU&&(Nat.ble us.length us.length&&Nat.beq 20 20&&true)&&bW us.length&&eU.good szB us.length (eU.get us)&&ndB (svN x)&&szN (Vh (svN x))&&decide ((nod.length:Int)=(us.length:Int))&&decide (1<=(Vh (svN x)).op)&&decide ((Vh (svN x)).op<=8)
def Tu (inp us:ze1) (x:Nd):Un×Int:=tyF (eU.list inp.length (eU.get inp)) (eU.list us.length (eU.get us)) (Vh (svN x))
def Rg (inp:ze1) (q1 q2:Nat) (z:M3) (x:Nd):Prop:=
 af (S5 inp z.2.1 z.2.2 x) (Unit->True->ag (bif (Tu inp z.2.2 x).2==0 then(bif !ex then true else x.op !=8) else false)
  (LY z.2.1.length (tO z.2.2.length (af (inR .i64 (z.1+1)) (∃z':M3,I3 z'/\((N - z'.1).toNat<(N - z.1).toNat/\So count xs ex inp.length q1 q2 (z.1+1) (z.2.1.length+1) (gv z.2.1 x) (z.2.2.length+1) (Jz z.2.2 (Tu inp z.2.2 x).1) z')))))
  (af (inR .i64 (z.1+1)) (∃z':M3,I3 z'/\((N - z'.1).toNat<(N - z.1).toNat/\So count xs ex inp.length 25 26 (z.1+1) z.2.1.length (eN.get z.2.1) z.2.2.length (eU.get z.2.2) z'))))
def pkB (y n:Int):Bool:=cl y&&decide (0<n)
def Sp (inp:ze1) (z:M3) (y:I4):Prop:=
 af (pkB y.1 8) (af (inR .i64 (1+co y.1 8)) (
 ag (1+co y.1 8==1) (af (pkB y.2.1 13) (af (inR .i64 (co y.2.1 13 - 6)) (af (pkB y.2.2.1 4) (af (inR .i64 (1+co y.2.2.1 4)) (af (cl (co y.2.1 13 - 6)&&cl (1+co y.2.2.1 4)) (af (cl y.2.2.2)
  (Rg I3 N count xs ex inp 102 108 z ⟨opF y,(rMk (co y.2.1 13 - 6) (1+co y.2.2.1 4)).1,BL y.2.2.2,0,0,0⟩)))))))
 (ag (1+co y.1 8==2) (af (pkB y.2.1 inp.length) (Rg I3 N count xs ex inp 93 99 z ⟨opF y,VI,noU,co y.2.1 inp.length,0,0⟩))
 (ag (1+co y.1 8==7) (af (pkB y.2.1 z.2.1.length) (af (pkB y.2.2.1 5) (af (decide (0<=co y.2.2.1 5)&&decide (co y.2.2.1 5<((5:Nat):Int))) (af (decide (0+(co y.2.2.1 5).toNat<5)) (Rg I3 N count xs ex inp 101 107 z ⟨opF y,VI,noU,T9 (co y.2.2.1 5),co y.2.1 z.2.1.length,0⟩)))))
 (ag (1+co y.1 8==8) (af (pkB y.2.1 z.2.1.length) (Rg I3 N count xs ex inp 95 101 z ⟨opF y,VI,noU,0,co y.2.1 z.2.1.length,0⟩))
   (af (pkB y.2.1 z.2.1.length) (af (pkB y.2.2.1 z.2.1.length) (Rg I3 N count xs ex inp 101 107 z ⟨opF y,VI,noU,0,co y.2.1 z.2.1.length,co y.2.2.1 z.2.1.length⟩))))))))
def Ub (K1:Nat->Nat->Blk->Nat->Nat->Blk->Int->List SV->Prop) (inp:ze1) (z0:M3):Prop:=
 ∃z1:M3,I3 z1/\(So count xs ex inp.length 17 18 0 z0.2.1.length (eN.get z0.2.1) z0.2.2.length (eU.get z0.2.2) z1/\
  ∀z:M3,I3 z->ag (bif decide (z.1<(xs.length:Int)) then decide ((z.2.1.length:Int)<14) else false)
   (eO xs.length z.1 (Sp I3 N count xs ex inp z (e4.nth xs (0+z.1.toNat))))
   (af (inR .i64 ((z.2.2.length:Int) - 1)) (eO z.2.2.length ((z.2.2.length:Int) - 1)
     (K1 10 inp.length {n:=inp.length,sz:=20,get:=eU.get inp,kd:= .own,nn:=false} 25 z.2.1.length {n:=z.2.1.length,sz:=26,get:=eN.get z.2.1,kd:= .own,nn:=false} (1+co count 900) (ci (mb noU z.2.2 (0+((z.2.2.length:Int) - 1).toNat)))))))
def T6 (K1:Nat->Nat->Blk->Nat->Nat->Blk->Int->List SV->Prop) (inp:ze1):Prop:=
 ∃z0:M3,I2 z0/\(((TV.v (cI.enc 0)=TV.v (cI.enc z0.1)/\TV.v (.val (.slice none 0 0))=TV.v (.val (.slice none z0.2.2.length 0))/\S4 count xs ex)/\(True/\((mdC count inp.length (.val (.slice none 0 0))=mdC count inp.length (.val (.slice none z0.2.1.length 0))/\True)/\(z0.2.1.length=0/\(z0.2.2.length=0/\True)))))/\
  ∀z:M3,I2 z->ag (decide (z.1<(inp.length:Int)))
   (LY z.2.1.length (eO inp.length z.1 (tO z.2.2.length (af (inR .i64 (z.1+1)) (∃z':M3,I2 z'/\((4 - z'.1).toNat<(4 - z.1).toNat/\So count xs ex inp.length 29 39 (z.1+1) (z.2.1.length+1) (gv z.2.1 (nIn z.1)) (z.2.2.length+1) (Jz z.2.2 (mb noU inp (0+z.1.toNat))) z'))))))
   (Ub I3 N count xs ex K1 inp z))
def Tv (K1:Nat->Nat->Blk->Nat->Nat->Blk->Int->List SV->Prop) (j a0:Int) (x:M1):Prop:=
 af (pkB count 3) (ag (decide (j<=co count 3)) (af (cl a0) (tO x.2.length (∃x':M1,I1 x'/\((4 - x'.1).toNat<(4 - j).toNat/\Ua count xs ex 16 (j+1) (x.2.length+1) (Jz x.2 (BL a0)) x')))) (T6 I2 I3 N count xs ex K1 x.2))
def mdT (K1:Nat->Nat->Blk->Nat->Nat->Blk->Int->List SV->Prop):Prop:=
 af (pkB count 900) (af (inR .i64 (1+co count 900)) (∃x0:M1,I1 x0/\(((TV.v (cI.enc 0)=TV.v (cI.enc x0.1)/\S4 count xs ex)/\(True/\((md1 count (.val (.slice none 0 0))=md1 count (.val (.slice none x0.2.length 0))/\True)/\(x0.2.length=0/\True))))/\
  ((∀x:M1,I1 x->(0,x.2)=x\/(1,x.2)=x\/(2,x.2)=x\/(3,x.2)=x\/False)/\((∀x:M1,I1 (0,x.2)->Tv I1 I2 I3 N count xs ex K1 0 a.1 x)/\((∀x:M1,I1 (1,x.2)->Tv I1 I2 I3 N count xs ex K1 1 a.2.1 x)/\((∀x:M1,I1 (2,x.2)->Tv I1 I2 I3 N count xs ex K1 2 a.2.2 x)/\
    ((∀x:M1,I1 (3,x.2)->af (pkB count 3) (ag (decide (3<=co count 3)) False (T6 I2 I3 N count xs ex K1 x.2)))/\True))))))))
end
theorem Tw (I1:M1->Prop) (I2 I3:M3->Prop) (N:Int) (a:Int×Int×Int) (count:Int) (xs:List I4) (ex:Bool) (K1:Nat->Nat->Blk->Nat->Nat->Blk->Int->List SV->Prop):TG I1 I2 I3 N a count xs ex K1=mdT I1 I2 I3 N a count xs ex K1:=by kernel_rfl
def TJ (nx:Nat) (q:Pr):SV:= .agg (.val (.int .i64 q.id):: .slc nx 0 q.inp.length:: .slc (nx+1) 0 q.nod.length::ci q.out)
def SQ:MCtr:=λbl nx args=>match args with
 | [.agg [.val (.int .i64 a), .val (.int .i64 b), .val (.int .i64 c)], .val (.int .i64 k),s, .val (.bool ex)]=>match vW bl 4 s with
   |some (bb,_,n,g)=>some {X:=Unit,pre:=bb&&decide (n<=9223372036854775807)&&e4.good uz4 n g&&cl a&&cl b&&cl c&&cl k,spec:=λ_=>True,out:=λ_=>TJ nx (Bd (a,b,c) k (e4.list n g) ex),nw:=λ_=> [eU.own (Bd (a,b,c) k (e4.list n g) ex).inp,eN.own (Bd (a,b,c) k (e4.list n g) ex).nod],ex:=λ_=>⟨(),trivial⟩}
   |none=>none
 |_=>none
theorem S6:MOk TF:=MOk.nil.cons ZR
theorem QU {y n:Int} {K:Prop} (hy:cl y=true) (hn:0<n) (k:K):af (pkB y n) K:=ac (by unfold pkB;rw[hy,zdr hn];rfl) k
theorem Su (ni n:Int) (y:I4):(RR ni n y).op=opF y:=by
 have B: ∀(b:Bool) (x z:Nd),x.op=opF y->z.op=opF y->(cond b x z).op=opF y:=λb x z h k=>by cases b;exact k;exact h
 unfold RR;exact B _ _ _ rfl (B _ _ _ rfl (B _ _ _ rfl (B _ _ _ rfl rfl)))
theorem Tx (y:I4):1<=opF y/\opF y<=8:=by
 have:=gR y.1 (n:=8) (by decide);unfold opF;omega
theorem Sc {us:ze1} {u:Un} {z:ze1} (hz:z=us++ [u]):af (Nat.beq 20 20&&decide (z.length<=us.length+1)) (∀e,e<z.length->Jz us u e=eU.get z e):=by
 subst hz;have hl:(us++ [u]).length=us.length+1:=by simp
 exact ac (by rw[hl,zdr (za0 _)];rfl) λe he=>Fp (by omega)
theorem S7 {us:ze2} {u:Nd} {z:ze2} (hz:z=us++ [u]):af (Nat.beq 26 26&&decide (z.length<=us.length+1)) (∀e,e<z.length->gv us u e=eN.get z e):=by
 subst hz;have hl:(us++ [u]).length=us.length+1:=by simp
 exact ac (by rw[hl,zdr (za0 _)];rfl) λe he=>pO (by omega)
section
variable {I1:M1->Prop} {I2 I3:M3->Prop} {N:Int} {a:Int×Int×Int} {count:Int} {xs:List I4} {ex:Bool}
theorem Rh:S4 count xs ex:=⟨rfl,rfl,rfl,rfl,rfl,rfl,trivial⟩
variable {p:Int} {us:ze1} {u:Un}
theorem Ty {q:Nat} :Ua count xs ex q p (us.length+1) (Jz us u) (p,us++ [u]):=
 ⟨⟨rfl,Rh⟩,trivial,⟨by simp,trivial⟩,Sc rfl,trivial⟩
variable {n0 q1 q2:Nat} {nod:ze2} {x:Nd}
theorem Sv:So count xs ex n0 q1 q2 p (nod.length+1) (gv nod x) (us.length+1) (Jz us u) (p,nod++ [x],us++ [u]):=
 ⟨⟨rfl,by simp,Rh⟩,trivial,⟨by simp,trivial⟩,S7 rfl,Sc rfl,trivial⟩
theorem RL:So count xs ex n0 q1 q2 p nod.length (eN.get nod) us.length (eU.get us) (p,nod,us):=
 ⟨⟨rfl,rfl,Rh⟩,trivial,⟨rfl,trivial⟩,ac (by simp) (λ_ _=>rfl),ac (by simp) (λ_ _=>rfl),trivial⟩
variable {inp:ze1}
theorem Tz:Tu inp us x=tyF inp us x:=by
 unfold Tu;rw[show eU.list inp.length (eU.get inp)=inp from El.list_get,show eU.list us.length (eU.get us)=us from El.list_get,fR]
theorem S8 (h:MadOK inp (nod,us)) (hi: ∀u∈inp,szB u=true) (hl:inp.length<=1000000) (hx:szN x=true) (ho:1<=x.op/\x.op<=8):S5 inp nod us x=true:=by
 have h1:us.length=nod.length:=h.len;have h2:nod.length<=14:=h.le;unfold S5 bW;rw[uf hl (show nod.length<=1000000 by omega) (El.good_get hi) (show eN.good szN nod.length (eN.get nod)=true from El.good_get h.szn) (by decide),zae (za0 _),zae (show us.length<=1000000 by omega),El.good_get h.szu,fR,hx,h1,zdr rfl,zdr ho.1,zdr ho.2];rfl
theorem S9 {i:Int} (h:MadOK inp (nod,us)) (hi: ∀u∈inp,szB u=true) (hl:inp.length<=1000000) (hx:szN x=true) (ho:1<=x.op/\x.op<=8) (h0:0<=i) (h1:i<N) (hN:N<=9223372036854775807)
 (hS:I3 (i+1,match mn inp us x with
   |some u=>bif !ex||x.op !=8 then(nod++ [x],us++ [u]) else(nod,us)
   |none=>(nod,us))):Rg I3 N count xs ex inp q1 q2 (i,nod,us) x:=by
 have a1:us.length=nod.length:=h.len;have a2:nod.length<=14:=h.le;unfold Rg;rw[Tz];dsimp only;have no:(∃z,z=(nod,us)/\I3 (i+1,z))->af (inR .i64 (i+1)) (∃z':M3,I3 z'/\((N - z'.1).toNat<(N - i).toNat/\So count xs ex inp.length 25 26 (i+1) nod.length (eN.get nod) us.length (eU.get us) z')):=by
  rintro⟨z,rfl,hz⟩;exact ac (VP.2 (by omega)) ⟨(i+1,nod,us),hz,by show (_:Nat)<_;dsimp only;omega,RL⟩
 refine ac (S8 h hi hl hx ho) λ_ _=>ah (λhb=> ?_) (λhb=>no ?_)
 ·cases ht:mn inp us x with
  |none=>
   unfold tyF at hb;rw[ht] at hb;cases hb
  |some u=>
   rw[ht] at hS;have e:tyF inp us x=(u,0):=by unfold tyF;rw[ht]
   rw[e] at hb ⊢;have hc:(!ex||x.op !=8)=true:=by rw[<-QN];exact hb
   rw[hc] at hS;exact xp (by omega) (fV (by omega) (ac (VP.2 (by omega)) ⟨(i+1,nod++ [x],us++ [u]),hS,by show (_:Nat)<_;dsimp only;omega,Sv⟩))
 ·cases ht:mn inp us x with
  |none=>rw[ht] at hS;exact⟨_,rfl,hS⟩
  |some u=>
   rw[ht] at hS;have e:tyF inp us x=(u,0):=by unfold tyF;rw[ht]
   rw[e] at hb;have hc:(!ex||x.op !=8)=false:=by rw[<-QN];exact hb
   rw[hc] at hS;exact⟨_,rfl,hS⟩
theorem SH {z:M3} {y:I4} (hy:uz4 y=true) (hi:1<=inp.length) (hz:1<=z.2.1.length) (h: ∀q1 q2,Rg I3 N count xs ex inp q1 q2 z (RR inp.length z.2.1.length y)):Sp I3 N count xs ex inp z y:=by
 unfold uz4 at hy;simp only[za2] at hy;obtain⟨⟨⟨y1,y2⟩,y3⟩,y4⟩:=hy;have b1:=gR y.1 (n:=8) (by decide);have b2:=gR y.2.1 (n:=13) (by decide);have b3:=gR y.2.2.1 (n:=4) (by decide);have b4:=gR y.2.2.1 (n:=5) (by decide);have E: ∀{x:Nd} (q1 q2:Nat),RR inp.length z.2.1.length y=x->Rg I3 N count xs ex inp q1 q2 z x:=λ{x} q1 q2 e=>by rw[<-e];exact h q1 q2
 unfold RR opF at E;unfold Sp;refine QU y1 (by decide) (Fy (by omega) (ah (λo1=> ?_) (λo1=>ah (λo2=> ?_) (λo2=>ah (λo7=> ?_) (λo7=>ah (λo8=> ?_) (λo8=> ?_))))))
 ·refine QU y2 (by decide) (Fy (by omega) (QU y3 (by decide) (Fy (by omega) (ac (by rw[V4.2 (by omega),V4.2 (by omega)];rfl) (ac y4 (E _ _ ?_))))));rw[o1];rfl
 ·refine QU y2 (by omega) (E _ _ ?_);rw[o1,o2];rfl
 ·refine QU y2 (by omega) (QU y3 (by decide) (ac (by rw[zdr b4.1,zdr (show co y.2.2.1 5<((5:Nat):Int) from b4.2)];rfl) (ac (zdr (by omega)) (E _ _ ?_))));rw[o1,o2,o7];rfl
 ·refine QU y2 (by omega) (E _ _ ?_);rw[o1,o2,o7,o8];rfl
 ·refine QU y2 (by omega) (QU y3 (by omega) (E _ _ ?_));rw[o1,o2,o7,o8];rfl
end
def Ta (a:Int×Int×Int) (count:Int) (z:M1):Prop:=0<=z.1/\z.1<=co count 3+1/\z.2=QQ a z.1.toNat
def Tb (a:Int×Int×Int) (count:Int) (z:M3):Prop:=0<=z.1/\z.1<=co count 3+1/\z.2.1=R9 z.1.toNat/\z.2.2=QQ a z.1.toNat
def SI (a:Int×Int×Int) (count:Int) (xs:List I4) (ex:Bool) (z:M3):Prop:=0<=z.1/\z.1<=xs.length/\MadOK (QQ a ((co count 3).toNat+1)) z.2/\Rb a count xs ex=RT ex (QQ a ((co count 3).toNat+1)) (xs.drop z.1.toNat) z.2
def mdK (p:Pr) (i n:Nat) (B:Blk) (j m:Nat) (C:Blk) (id:Int) (rest:zdM):Prop:=i=10/\n=p.inp.length/\B=eU.own p.inp/\j=25/\m=p.nod.length/\C=eN.own p.nod/\id=p.id/\rest=ci p.out
variable {ex:Bool} {inp:ze1}
theorem SJ {r:List I4} {z:List Nd×List Un} (h: ¬z.1.length<14):RT ex inp r z=z:=by
 cases r with
 |nil=>rfl
 |cons y r=>unfold RT;rw[zdu h];rfl
variable {a:Int×Int×Int} {count:Int} {xs:List I4}
theorem TA {z0:M3} (hx: ∀y∈xs,uz4 y=true) (hn:xs.length<=9223372036854775807) (h1:z0.2.1=R9 ((co count 3).toNat+1)) (h2:z0.2.2=QQ a ((co count 3).toNat+1)):
 Ub (SI a count xs ex) xs.length count xs ex (mdK (Bd a count xs ex)) (QQ a ((co count 3).toNat+1)) z0:=by
 have hK:=Rc (count:=count);have hi:(QQ a ((co count 3).toNat+1)).length=(co count 3).toNat+1:=QR;refine⟨(0,z0.2),⟨zat _,by show (0:Int)<=_;omega, ?_, ?_⟩,RL, ?_⟩
 ·show MadOK _ (z0.2.1,z0.2.2);rw[h1,h2];exact⟨by rw[QR,QZ],by rw[QZ];exact hK.1,by rw[QZ];omega,Si (za0 _),RU,QT QY⟩
 ·show _=RT _ _ xs (z0.2.1,z0.2.2);rw[h1,h2];rfl
 rintro⟨i,nod,us⟩ ⟨k0,k1,k2,k3⟩;dsimp only at k0 k1 k2 k3 ⊢;have ln:us.length=nod.length:=k2.len;have l1:1<=nod.length:=k2.pos;have l2:nod.length<=14:=k2.le;refine ah (λhb=> ?_) (λhb=> ?_)
 ·rw[QM,za2] at hb;have b1:=zdw hb.1;have b2:nod.length<14:=by have:=zdw hb.2;omega
  have hd:xs.drop i.toNat=mb (0,0,0,0) xs i.toNat::xs.drop (i+1).toNat:=by
   rw[show (i+1).toNat=i.toNat+1 by omega,zaH (show i.toNat<xs.length by omega),bR (zaa _)]
  rw[hd,RT,zdr (show (nod,us).1.length<14 from b2),zdt] at k3;rw[za7];have hy:uz4 (mb (0,0,0,0) xs i.toNat)=true:=hx _ (bw (by omega));refine aY k0 b1 (SH (y:=mb (0,0,0,0) xs i.toNat) hy (by omega) l1 λq1 q2=> ?_);refine S9 k2 (QT QY) (by omega) (Sr _ _ _) (by rw[Su];exact Tx _) k0 b1 (by omega) ?_;rw[Su];have st:=k2.step (ex:=ex) (y:=mb (0,0,0,0) xs i.toNat) (QT QY) b2;exact⟨by show 0<=i+1;omega,by show i+1<=_;omega,st,k3⟩
 ·have hz:Rb a count xs ex=(nod,us):=by
   rw[k3];rw[QM] at hb;by_cases c:i<xs.length
   ·rw[zdr c,zb6] at hb;have:=zdx hb;exact SJ (by show ¬nod.length<14;omega)
   ·rw[show i.toNat=xs.length by omega,zbj];rfl
  refine ac (VP.2 (by omega)) (aY (by omega) (by omega) ⟨rfl,rfl,rfl,rfl, ?_, ?_,rfl, ?_⟩)
  ·show nod.length=(Rb a count xs ex).1.length;rw[hz]
  ·show _=eN.own (Rb a count xs ex).1;rw[hz];rfl
  ·show _=ci (ly (Rb a count xs ex).2);rw[hz,show 0+((us.length:Int) - 1).toNat=us.length - 1 by omega];rfl
theorem Sw (hx: ∀y∈xs,uz4 y=true) (hn:xs.length<=9223372036854775807) (h:inp=QQ a ((co count 3).toNat+1)):
 T6 (Tb a count) (SI a count xs ex) xs.length count xs ex (mdK (Bd a count xs ex)) inp:=by
 subst h;have hK:=Rc (count:=count);have hp:=gR count (n:=3) (by decide);have hi:(QQ a ((co count 3).toNat+1)).length=(co count 3).toNat+1:=QR;refine⟨(0, [], []),⟨zat _,by show (0:Int)<=_;omega,rfl,rfl⟩,⟨⟨rfl,rfl,Rh⟩,trivial,⟨rfl,trivial⟩,rfl,rfl,trivial⟩, ?_⟩;rintro⟨i,nod,us⟩ ⟨k0,k1,k2,k3⟩;dsimp only at k0 k1 k2 k3 ⊢;refine ah (λhb=> ?_) (λhb=> ?_)
 ·have hb:=zdw hb;have l1:nod.length=i.toNat:=by rw[k2,QZ]
  have l2:us.length=i.toNat:=by rw[k3,QR]
  rw[za7];have e1:(i+1).toNat=i.toNat+1:=by omega
  refine xp (by omega) (aY k0 hb (fV (by omega) (ac (VP.2 (by omega)) ⟨(i+1,nod++ [nIn i],us++ [mb noU (QQ a ((co count 3).toNat+1)) i.toNat]),⟨by show 0<=i+1;omega,by show i+1<=_;omega, ?_, ?_⟩,by show (_:Nat)<_;dsimp only;omega,Sv⟩)))
  ·show nod++ [nIn i]=R9 (i+1).toNat;rw[e1,k2];show _=R9 i.toNat++ [nIn (i.toNat:Nat)];rw[show ((i.toNat:Nat):Int)=i by omega]
  ·show us++ [_]=QQ a (i+1).toNat;rw[e1,k3];show _=QQ a i.toNat++ [BL (mb 0 [a.1,a.2.1,a.2.2] i.toNat)];rw[show mb noU (QQ a ((co count 3).toNat+1)) i.toNat=BL (mb 0 [a.1,a.2.1,a.2.2] i.toNat) from bR (qX _ (by omega))]
 ·have hb:=zdx hb;have e:i.toNat=(co count 3).toNat+1:=by omega
  exact TA hx hn (by rw[<-e];exact k2) (by rw[<-e];exact k3)
theorem RW {j a0:Int} {x:M1} (hc:cl count=true) (ha:cl a0=true) (hx: ∀y∈xs,uz4 y=true) (hn:xs.length<=9223372036854775807) (hj:0<=j/\j<=2) (he:mb 0 [a.1,a.2.1,a.2.2] j.toNat=a0) (h:Ta a count (j,x.2)):
 Tv (Ta a count) (Tb a count) (SI a count xs ex) xs.length count xs ex (mdK (Bd a count xs ex)) j a0 x:=by
 obtain⟨k0,k1,k2⟩:=h;dsimp only at k0 k1 k2;have l2:x.2.length=j.toNat:=by rw[k2,QR]
 refine QU hc (by decide) (ah (λhb=> ?_) (λhb=> ?_))
 ·have hb:=zdw hb;have e1:(j+1).toNat=j.toNat+1:=by omega
  refine ac ha (fV (by omega) ⟨(j+1,x.2++ [BL a0]),⟨by show 0<=j+1;omega,by show j+1<=_;omega, ?_⟩,by show (_:Nat)<_;dsimp only;omega,Ty⟩);show x.2++ [BL a0]=QQ a (j+1).toNat;rw[e1,k2];show _=QQ a j.toNat++ [BL (mb 0 [a.1,a.2.1,a.2.2] j.toNat)];rw[he]
 ·have hb:=zdx hb;have hp:=gR count (n:=3) (by decide);exact Sw hx hn (by rw[k2];congr 1;omega)
theorem T7 (h0:cl a.1=true) (h1:cl a.2.1=true) (h2:cl a.2.2=true) (hc:cl count=true) (hx: ∀y∈xs,uz4 y=true) (hn:xs.length<=9223372036854775807):
 mdT (Ta a count) (Tb a count) (SI a count xs ex) xs.length a count xs ex (mdK (Bd a count xs ex)):=by
 have hp:=gR count (n:=3) (by decide);have hq:=gR count (n:=900) (by decide);refine QU hc (by decide) (Fy (by omega) ⟨(0, []),⟨zat _,by show (0:Int)<=_;omega,rfl⟩,⟨⟨rfl,Rh⟩,trivial,⟨rfl,trivial⟩,rfl,trivial⟩, ?_,λx hI=>RW hc h0 hx hn (by decide) rfl hI,λx hI=>RW hc h1 hx hn (by decide) rfl hI,λx hI=>RW hc h2 hx hn (by decide) rfl hI,λx hI=> ?_,trivial⟩)
 ·rintro⟨i,us⟩ ⟨k0,k1,_⟩;dsimp only at k0 k1;rcases(show i=0\/i=1\/i=2\/i=3 by omega) with rfl|rfl|rfl|rfl
  ·exact .inl rfl
  ·exact .inr (.inl rfl)
  ·exact .inr (.inr (.inl rfl))
  ·exact .inr (.inr (.inr (.inl rfl)))
 ·obtain⟨_,k1,k2⟩:=hI;dsimp only at k1 k2;refine QU hc (by decide) (ah (λhb=> ?_) (λhb=>Sw hx hn (by rw[k2];congr 1;show (3:Int).toNat=_;omega)));have:=zdw hb;omega
theorem SK {K1:Nat->Nat->Blk->Nat->Nat->Blk->Int->List SV->Prop} {r:Res} {b:zdO} {m:Nat} {w:zdK} (h:prS K1 r b m w): ∃id i n j m B C rest,r= .ok (.agg (.val (.int .i64 id):: .slc i 0 n:: .slc j 0 m::rest))/\b i=some B/\b j=some C/\K1 i n B j m C id rest:=by
 unfold prS at h;split at h
 ·rename_i id i n j m rest;split at h
  ·rename_i B C hB hC;exact⟨id,i,n,j,m,B,C,rest,rfl,hB,hC,h⟩
  ·exact h.elim
 ·exact h.elim
theorem Tc: ∀B:Base,GlobB B->VU prog B 36 SQ:=Sh S6 λbl nx args C hk hp=>by
 unfold SQ at hk;split at hk
 ·rename_i a b c k s ex;split at hk
  ·rename_i bb o n g hs;simp only[za1] at hk;subst hk;simp only[za2,zdv] at hp;obtain⟨⟨⟨⟨⟨⟨rfl,hn⟩,hg⟩,h0⟩,h1⟩,h2⟩,hc⟩:=hp;obtain⟨t1,t2⟩:=cq (f:=rnF [o] [] nx) hs hg;have hlen:(e4.list n g).length=n:=El.list_length;have hold: ∀C∈ [e4.old (e4.list n g)],cN C.kd=false/\C.kd.map=false:=by simp[cN,El.old,BK.map]
   have ml:=Sb (a:=(a,b,c)) (count:=k) (xs:=e4.list n g) (ex:=ex);refine⟨[o], [e4.old (e4.list n g)], [.agg [.val (.int .i64 a), .val (.int .i64 b), .val (.int .i64 c)], .val (.int .i64 k), .slc 0 0 (e4.list n g).length, .val (.bool ex)],St (Ta (a,b,c) k) (Tb (a,b,c) k) (SI (a,b,c) k (e4.list n g) ex) (e4.list n g).length,6,aw t1 trivial,bH (λC hC=>(hold C hC).1),cd (λC hC=>(hold C hC).2),ar rfl (ar rfl (ar (t2 0 rfl) rfl)), ?_⟩;refine Q8 (K:=prS (mdK (Bd (a,b,c) k (e4.list n g) ex))) ?_ λr bl' m w h=> ?_
   ·have:=Tw (Ta (a,b,c) k) (Tb (a,b,c) k) (SI (a,b,c) k (e4.list n g) ex) (e4.list n g).length (a,b,c) k (e4.list n g) ex (mdK (Bd (a,b,c) k (e4.list n g) ex));show TG _ _ _ _ (a,b,c) k (e4.list n g) ex _;rw[this];exact T7 h0 h1 h2 hc (El.good_list hg) (by omega)
   ·generalize Bd (a,b,c) k (e4.list n g) ex=p at h ml;obtain⟨id,i,n',j,m',B,C,rest,rfl,hB,hC,rfl,rfl,rfl,rfl,rfl,rfl,rfl,rfl⟩:=SK h;have e:=rns_free (f:=dt [o] [some 10,some 25] nx) (fj p.out);have e0:dt [o] [some 10,some 25] nx nx=some (some 10):=cO;have e1:dt [o] [some 10,some 25] nx (nx+1)=some (some 25):=jA 1;refine⟨(),trivial, [some 10,some 25],⟨_,rfl, ?_⟩,by simp[ck],⟨⟨by simp, ?_⟩,⟨by simp, ?_⟩,trivial⟩,cr (λC hC=>(hold C hC).1) rfl _⟩
    ·show SV.rn (dt [o] [some 10,some 25] nx) (TJ nx p)=_;unfold TJ;exact Xs (ar rfl (ar (by simp only[SV.rn,e0]) (ar (by simp only[SV.rn,e1]) e)))
    ·rw[hB];exact⟨by simp[El.own],λ_=>⟨ml.1,eU.one⟩,gC rfl rfl (za0 _) λ_ _=>rfl⟩
    ·rw[hC];exact⟨by simp[El.own],λ_=>⟨ml.2.2.1,eN.one⟩,gC rfl rfl (za0 _) λ_ _=>rfl⟩
  ·cases hk
 ·cases hk
abbrev F2:=Int×List Nd
theorem al1 {α β:Type} {d:α} {f:α->β} {l:List α} {i:Int} (h0:0<=i) (h1:i<l.length):(l.take (i+1).toNat).map f=(l.take i.toNat).map f++ [f (mb d l (0+i.toNat))]:=by
 rw[show (i+1).toNat=i.toNat+1 by omega,za7,zc1,Co (d:=d) (by omega)];simp
def al2 (a b c k:Int) (n:Nat):SV:= .agg [.val (.int .i64 a), .val (.int .i64 b), .val (.int .i64 c), .val (.int .i64 k), .slc 0 0 n]
def putG (g:zdP) (i:Nat) (x:Nd):zdP:=λe=>bif Nat.beq e i then gZ (g e) 0 (svN x) else g e
end Go.Proofs.YtdbnankjpnpojaaGreatDoor
