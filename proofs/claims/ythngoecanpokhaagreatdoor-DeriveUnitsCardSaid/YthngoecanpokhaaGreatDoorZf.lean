import Derived.Test.YthngoecanpokhaaGreatDoorZe
set_option linter.unusedVariables false
set_option linter.unusedSimpArgs false
noncomputable section
namespace Go.Proofs.YthngoecanpokhaaGreatDoor
open Go.Proofs.Tryz
open Go Go.RowKit Go.Sy Yk
def fL (inp us:ze2) (x:Nd):Un×Int:=
 bif x.op==1 then(bif rV x.v&&VK x.u then(x.u,0) else(noU,90)) else
 bif x.op==2 then(bif decide (0<=x.n)&&decide (x.n<(inp.length:Int)) then(mb noU inp x.n.toNat,0) else(noU,90)) else
 bif x.op==3 then iS (mb noU us x.l.toNat) (mb noU us x.r.toNat) else
 bif x.op==4 then fw (mb noU us x.l.toNat) (mb noU us x.r.toNat) else
 bif x.op==5 then mi (mb noU us x.l.toNat) (mb noU us x.r.toNat) else
 bif x.op==6 then fd (mb noU us x.l.toNat) (mb noU us x.r.toNat) else
 bif x.op==7 then(bif x.n==0||decide (x.n< -4)||decide (x.n>4) then(noU,90) else jm (mb noU us x.l.toNat) (x.n,1)) else
 bif x.op==8 then jm (mb noU us x.l.toNat) (1,2) else(noU,90)
def earF (n:Nat) (i:Int):Bool:=decide (0<=i)&&decide (i<(n:Int))
def VT (n:Nat) (x:Nd):Bool:=
 bif x.op==1 then eqN ⟨0,VI,noU,x.n,x.l,x.r⟩ noN else
 bif x.op==2 then eqN ⟨0,x.v,x.u,0,x.l,x.r⟩ noN else
 bif decide (3<=x.op)&&decide (x.op<=6) then eqN ⟨0,x.v,x.u,x.n,0,0⟩ noN&&earF n x.l&&earF n x.r else
 bif x.op==7 then eqN ⟨0,x.v,x.u,0,0,x.r⟩ noN&&earF n x.l else
 bif x.op==8 then eqN ⟨0,x.v,x.u,x.n,0,x.r⟩ noN&&earF n x.l else false
def mn (inp us:ze2) (x:Nd):Option Un:=bif VT us.length x&&(fL inp us x).2==0 then some (fL inp us x).1 else none
def iB (inp:ze2):List Nd->List Un->List Un×Bool
 | [],us=>(us,true)
 |x::r,us=>match mn inp us x with
  |some u=>iB inp r (us++ [u])
  |none=>(us,false)
def ly (us:ze2):Un:=mb noU us (us.length - 1)
def oB (p:Pr):Bool:=decide (1<=p.id)&&decide (p.id<=1000000)&&decide (p.inp.length<=6)&&p.inp.all VK&&decide (1<=p.nod.length)&&decide (p.nod.length<=40)
def VJ (p:Pr):List Un×Int×Int:=bif oB p then(match iB p.inp p.nod [] with
 |(us,true)=>bif eqU (ly us) p.out then(us,0,0) else([],p.nod.length,90)
 |(us,false)=>([],us.length,90)) else([], -1,90)
def VM (p:Pr):Bool:=(VJ p).2.2==0
def cw (p:Pr):Bool:=p.inp.all szB&&p.nod.all szN&&szB p.out
theorem int_eq {a b:Int}:(a==b)=true↔a=b:=zdG
variable {n:Nat} {i:Int}
theorem V6:pK n i=true↔0<=i/\(i<n\/(n=0/\i=0)):=by
 unfold pK;by_cases h:i≥0
 ·rw[zdx h,zdz,zdB];split<;>omega
 ·rw[zdA h,zdy];simp;omega
theorem V2:earF n i=true↔0<=i/\i<n:=by simp[earF]
variable {x:Nd}
theorem fM (h:eqN x noN=true):x.n=0/\x.l=0/\x.r=0:=by
 simp only[eqN,za2,zdG] at h;exact⟨h.2.2.2.1,h.2.2.2.2.1,h.2.2.2.2.2.1⟩
variable {K:Prop}
theorem fV (h:n<=1000000) (k:K):tO n K:=ac (by
 rw[zdx (zbT),zdx (show 0+1<=1 by omega),zdx (za0 n),zdx (show (n+1)*192<=140737488355328 by omega)];rfl) k
theorem aY (h0:0<=i) (h1:i<n) (k:K):eO n i K:=ac (by
 rw[zdx h0,zdx h1,zdx (show 0+i.toNat<n by omega)];rfl) (ac (zdx (by omega)) k)
variable {bad:Prop}
theorem oC {needs:Bool} {rest:Nd} (hb:(eqN rest noN=true/\pK n x.l=true/\pK n x.r=true/\(needs=true->0<n))->K) (hn: ¬(eqN rest noN=true/\pK n x.l=true/\pK n x.r=true/\(needs=true->0<n))->bad):tN n needs rest x bad K:=by
 unfold tN;refine ah (λh1=>ah (λh2=>ah (λh3=> ?_) (λh3=> ?_)) (λh2=> ?_)) (λh1=> ?_)
 ·refine hn λ⟨_,_,a3,a4⟩=> ?_;rw[a3] at h3;cases needs with
  |false=>simp at h3
  |true=>have:=a4 rfl;simp at h3;omega
 ·refine hb ⟨h1,h2, ?_,λhne=> ?_⟩
  ·cases h4:pK n x.r with
   |true=>rfl
   |false=>rw[h4] at h3;simp at h3
  ·subst hne;cases h4:pK n x.r with
   |true=>rw[h4] at h3;simp at h3;omega
   |false=>rw[h4] at h3;simp at h3
 ·exact hn λ⟨_,a2,_⟩=>by rw[a2] at h2;cases h2
 ·exact hn λ⟨a1,_⟩=>by rw[a1] at h1;cases h1
theorem eH {l:ze2} (h: ∀u∈l,szB u=true) (e:Nat):aH (mb noU l e)=true:=by
 by_cases he:e<l.length
 ·exact h _ (bw he)
 ·have: ∀(l:ze2) (e:Nat),l.length<=e->mb noU l e=noU:=by
   intro l
   induction l with
   |nil=>intro e _;rfl
   |cons x r ih=>intro e he;cases e with
    |zero=>simp at he
    |succ e=>exact ih e (by simpa using he)
  rw[this l e (by omega)];decide
theorem aS {α:Type} {d:α}: ∀{l:List α} {u:α} {e:Nat},mb d (l++ [u]) e=if e=l.length then u else mb d l e
 | [],u,e=>by cases e<;>simp[mb]
 |x::r,u,e=>by
  cases e with
  |zero=>simp[mb]
  |succ e=>
   have:=aS (d:=d) (l:=r) (u:=u) (e:=e);simp only[zaO,mb,za4];rw[this];split<;>split<;>first|rfl|omega
variable {m q ni nn:Nat} {us:ze2} {u:Un}
theorem CQ {c:Nat} {p:Int} :P4 m c q ni nn p (us.length+1) (ct (eU.get us) (λe=>((ci u).drop (e*20)).take 20) us.length 0) (p,us++ [u]):=by
 have hl:(us++ [u]).length=us.length+1:=by simp
 refine⟨⟨rfl,rfl,rfl,rfl,rfl,trivial⟩,trivial,⟨by rw[hl],trivial⟩, ?_,trivial⟩;refine ac (by rw[zdx (by rw[hl];exact za0 _)];rfl) λe he=> ?_;rw[hl] at he;unfold ct El.get El.nth;rw[aB];show _=ci (mb noU (us++ [u]) e);rw[aS];by_cases h:e<us.length
 ·rw[zdx h,zdz,if_neg (by omega)];rfl
 ·obtain rfl:e=us.length:=by omega
  rw[zdA h,zdy,if_pos rfl,zaJ];rfl
def chkI (inp:ze2) (nod:ze3) (z:CX):Prop:=0<=z.1/\z.1<=nod.length/\z.2.length=z.1.toNat/\(∀u∈z.2,szB u=true)/\iB inp nod []=iB inp (nod.drop z.1.toNat) z.2
theorem XO:szB noU=true:=by decide
variable {N:Int} {inp:ze2}
theorem LK {I:CX->Prop} (hx:szN x=true) (hi: ∀u∈inp,szB u=true) (hu: ∀u∈us,szB u=true) (hl:us.length<=1000000)
 (hn:mn inp us x=none->bad) (hs: ∀u q,mn inp us x=some u->LJ I N q inp.length nn i us u):OA I N inp nn i us x bad:=by
 unfold szN at hx;rw[za2] at hx;have T: ∀{f:Bool} {r:Un×Int},VT us.length x=f->fL inp us x=r->mn inp us x=bif f&&r.2==0 then some r.1 else none:=λ{f r} h1 h2=>by unfold mn;rw[h1,h2]
 have U: ∀{r:Un×Int} {q:Nat},VT us.length x=true->fL inp us x=r->zj I N q inp.length nn i us r bad:=λ{r q} h1 h2=>by
  have:=T h1 h2;refine fV hl (ah (λh=>hn ?_) (λh=>hs _ _ ?_))
  ·rw[this];cases hr:r.2==0<;>rw[hr] at h<;>first|rfl|cases h
  ·rw[this];cases hr:r.2==0<;>rw[hr] at h<;>first|rfl|cases h
 have W: ∀{K:Un->Un->Prop},pK us.length x.l=true->pK us.length x.r=true->0<us.length->K (mb noU us x.l.toNat) (mb noU us x.r.toNat)->pL us x K:=λ{K} h1 h2 h3 k=>by
  have a:=V6.1 h1;have b:=V6.1 h2;unfold pL;rw[za7,za7];exact aY a.1 (by omega) (aY b.1 (by omega) (ac (by rw[eH hu,eH hu];rfl) k))
 have E2:0<us.length-> ∀j:Int,(pK us.length j=earF us.length j):=λh j=>by
  rw[zax,V6,V2];omega
 have pair: ∀(f:Un->Un->Un×Int),x.op≠1->x.op≠2->(3<=x.op/\x.op<=6)->fL inp us x=f (mb noU us x.l.toNat) (mb noU us x.r.toNat)->tN us.length true ⟨0,x.v,x.u,x.n,0,0⟩ x bad (pL us x λa b=>zj I N 249 inp.length nn i us (f a b) bad):=by
  intro f n1 n2 n3 hf;have hform:VT us.length x=(eqN ⟨0,x.v,x.u,x.n,0,0⟩ noN&&earF us.length x.l&&earF us.length x.r):=by
   unfold VT;rw[show (x.op==1)=false from zdE n1,show (x.op==2)=false from zdE n2,zdx n3.1,zdx n3.2];rfl
  refine oC (λ⟨a1,a2,a3,a4⟩=> ?_) (λh=>hn ?_)
  ·have h0:=a4 rfl;refine W a2 a3 h0 (U ?_ hf);rw[hform,a1,<-E2 h0,<-E2 h0,a2,a3];rfl
  ·unfold mn;cases hff:VT us.length x with
   |false=>rfl
   |true=>
    exfalso;rw[hform] at hff;simp only[za2] at hff;have hp:0<us.length:=by have:=V2.1 hff.1.2;omega
    exact h ⟨hff.1.1,by rw[E2 hp];exact hff.1.2,by rw[E2 hp];exact hff.2,λ_=>hp⟩
 unfold OA;refine ah (λo1=> ?_) (λo1=>ah (λo2=> ?_) (λo2=>ah (λo3=> ?_) (λo3=>ah (λo4=> ?_) (λo4=>ah (λo5=> ?_) (λo5=>ah (λo6=> ?_) (λo6=>ah (λo7=> ?_) (λo7=>ah (λo8=> ?_) (λo8=> ?_))))))))
 ·
  have hform:VT us.length x=eqN ⟨0,VI,noU,x.n,x.l,x.r⟩ noN:=by unfold VT;rw[o1];rfl
  have huni:fL inp us x=bif rV x.v&&VK x.u then(x.u,0) else(noU,90):=by unfold fL;rw[o1];rfl
  refine oC (λ⟨a1,a2,a3,a4⟩=> ?_) (λh=>hn ?_)
  ·have t:=T hform huni;rw[a1] at t;refine ac hx.1 (ac (by rw[show aH x.u=true from hx.2];cases rV x.v<;>rfl) (ah (λh=>fV hl (hn ?_)) (λh=>fV hl (hs _ _ ?_))))
   ·rw[t];cases h1:rV x.v<;>cases h2:VK x.u<;>rw[h1,h2] at h<;>first|rfl|cases h
   ·rw[t];cases h1:rV x.v<;>cases h2:VK x.u<;>rw[h1,h2] at h<;>first|rfl|cases h
  ·unfold mn;cases hff:VT us.length x with
   |false=>rfl
   |true=>
    exfalso;rw[hform] at hff;have f:=fM hff;simp only at f;exact h ⟨hff,V6.2 (by omega),V6.2 (by omega),λh=>by cases h⟩
 ·
  have hform:VT us.length x=eqN ⟨0,x.v,x.u,0,x.l,x.r⟩ noN:=by unfold VT;rw[o1,o2];rfl
  have huni:fL inp us x=bif decide (0<=x.n)&&decide (x.n<(inp.length:Int)) then(mb noU inp x.n.toNat,0) else(noU,90):=by unfold fL;rw[o1,o2];rfl
  refine oC (λ⟨a1,a2,a3,a4⟩=> ?_) (λh=>hn ?_)
  ·have t:=T hform huni;rw[a1] at t;refine ah (λh=>fV hl (hn ?_)) (λh=> ?_)
   ·rw[t];by_cases h1:x.n<0
    ·rw[zdA (show ¬0<=x.n by omega)];rfl
    ·rw[zdA h1,zdy,zdB] at h;rw[zdA (show ¬x.n<(inp.length:Int) by omega),Bool.and_false];rfl
   ·by_cases h1:x.n<0
    ·rw[zdx h1] at h;cases h
    ·rw[zdA h1,zdy,zdH] at h;rw[za7];refine aY (by omega) (by omega) (fV hl (hs _ _ ?_));rw[t,zdx (show 0<=x.n by omega),zdx (show x.n<(inp.length:Int) by omega)];rfl
  ·unfold mn;cases hff:VT us.length x with
   |false=>rfl
   |true=>
    exfalso;rw[hform] at hff;have f:=fM hff;simp only at f;exact h ⟨hff,V6.2 (by omega),V6.2 (by omega),λh=>by cases h⟩
 ·exact pair iS (by have:=int_eq.1 o3;omega) (by have:=int_eq.1 o3;omega) (by have:=int_eq.1 o3;omega) (by unfold fL;rw[o1,o2,o3];rfl)
 ·exact pair fw (by have:=int_eq.1 o4;omega) (by have:=int_eq.1 o4;omega) (by have:=int_eq.1 o4;omega) (by unfold fL;rw[o1,o2,o3,o4];rfl)
 ·exact pair mi (by have:=int_eq.1 o5;omega) (by have:=int_eq.1 o5;omega) (by have:=int_eq.1 o5;omega) (by unfold fL;rw[o1,o2,o3,o4,o5];rfl)
 ·exact pair fd (by have:=int_eq.1 o6;omega) (by have:=int_eq.1 o6;omega) (by have:=int_eq.1 o6;omega) (by unfold fL;rw[o1,o2,o3,o4,o5,o6];rfl)
 ·have hform:VT us.length x=(eqN ⟨0,x.v,x.u,0,0,x.r⟩ noN&&earF us.length x.l):=by
   unfold VT;rw[o1,o2,o7,show (decide (3<=x.op)&&decide (x.op<=6))=false by rw[int_eq.1 o7];rfl];rfl
  have huni:fL inp us x=bif x.n==0||decide (x.n< -4)||decide (x.n>4) then(noU,90) else jm (mb noU us x.l.toNat) (x.n,1):=by unfold fL;rw[o1,o2,o3,o4,o5,o6,o7];rfl
  refine oC (λ⟨a1,a2,a3,a4⟩=> ?_) (λh=>hn ?_)
  ·have h0:=a4 rfl;have hf:VT us.length x=true:=by rw[hform,a1,<-E2 h0,a2];rfl
   have t:=T hf huni;have e:(bif bif x.n==0 then true else decide (x.n< -4) then true else decide (x.n>4))=(x.n==0||decide (x.n< -4)||decide (x.n>4)):=by cases x.n==0<;>cases decide (x.n< -4)<;>rfl
   rw[e];refine ah (λh=>fV hl (hn ?_)) (λh=> ?_)
   ·rw[t,h];rfl
   ·rw[h,zdy] at huni;have a:=V6.1 a2;rw[za7];exact aY a.1 (by omega) (ac (eH hu _) (U hf huni))
  ·unfold mn;cases hff:VT us.length x with
   |false=>rfl
   |true=>
    exfalso;rw[hform] at hff;simp only[za2] at hff;have f:=fM hff.1;simp only at f;have hp:0<us.length:=by have:=V2.1 hff.2;omega
    exact h ⟨hff.1,by rw[E2 hp];exact hff.2,V6.2 (by omega),λ_=>hp⟩
 ·have hform:VT us.length x=(eqN ⟨0,x.v,x.u,x.n,0,x.r⟩ noN&&earF us.length x.l):=by
   unfold VT;rw[o1,o2,o7,o8,show (decide (3<=x.op)&&decide (x.op<=6))=false by rw[int_eq.1 o8];rfl];rfl
  have huni:fL inp us x=jm (mb noU us x.l.toNat) (1,2):=by unfold fL;rw[o1,o2,o3,o4,o5,o6,o7,o8];rfl
  refine oC (λ⟨a1,a2,a3,a4⟩=> ?_) (λh=>hn ?_)
  ·have h0:=a4 rfl;have hf:VT us.length x=true:=by rw[hform,a1,<-E2 h0,a2];rfl
   have a:=V6.1 a2;rw[za7];exact aY a.1 (by omega) (ac (eH hu _) (U hf huni))
  ·unfold mn;cases hff:VT us.length x with
   |false=>rfl
   |true=>
    exfalso;rw[hform] at hff;simp only[za2] at hff;have f:=fM hff.1;simp only at f;have hp:0<us.length:=by have:=V2.1 hff.2;omega
    exact h ⟨hff.1,by rw[E2 hp];exact hff.2,V6.2 (by omega),λ_=>hp⟩
 ·refine ac (by unfold P5;rw[o1,o2,o3,o4,o5,o6,o7,o8];rfl) (hn ?_);unfold mn;have:VT us.length x=false:=by
   unfold VT;rw[o1,o2,o7,o8];simp only[zdy];have e:(decide (3<=x.op)&&decide (x.op<=6))=false:=by
    simp only[zdF,ne_eq] at o1 o2 o3 o4 o5 o6 o7 o8;simp;omega
   rw[e];rfl
  rw[this];rfl
variable {a:Un}
theorem zk {b:Un} (ha:aH a=true) (hb:aH b=true):aH (iS a b).1=true:=by
 unfold iS;cases !jk a b||(a.s==0&&b.s==0) with
 |true=>exact XO
 |false=>cases b.s==0;exact ha;exact hb
theorem oD {b:Un} (ha:aH a=true):aH (fw a b).1=true:=by
 unfold fw;cases !jk a b with
 |true=>exact XO
 |false=>cases b.s !=0 with
  |true=>exact ha
  |false=>cases eqU a b with
   |true=>
    have:=(eL ha).1;show (uzR a.f&&uzR rZ)=true;rw[this];decide
   |false=>exact XO
theorem LL (hx:szN x=true) (hi: ∀u∈inp,szB u=true) (hu: ∀u∈us,szB u=true):szB (fL inp us x).1=true:=by
 unfold szN at hx;rw[za2] at hx;have n:=λe=>eH hu e;unfold fL;cases x.op==1 with
 |true=>cases rV x.v&&VK x.u;exact XO;exact hx.2
 |false=>cases x.op==2 with
  |true=>cases decide (0<=x.n)&&decide (x.n<(inp.length:Int));exact XO;exact eH hi _
  |false=>cases x.op==3 with
   |true=>exact zk (n _) (n _)
   |false=>cases x.op==4 with
    |true=>exact oD (n _)
    |false=>cases x.op==5 with
     |true=>exact CK _ _
     |false=>cases x.op==6 with
      |true=>exact oA _ _
      |false=>cases x.op==7 with
       |true=>cases x.n==0||decide (x.n< -4)||decide (x.n>4);exact re (n _) _;exact XO
       |false=>cases x.op==8;exact XO;exact re (n _) _
theorem CR (hx:szN x=true) (hi: ∀u∈inp,szB u=true) (hu: ∀u∈us,szB u=true) (h:mn inp us x=some u):szB u=true:=by
 unfold mn at h;cases hh:VT us.length x&&(fL inp us x).2==0 with
 |false=>rw[hh] at h;cases h
 |true=>
  rw[hh] at h;simp only[zdz,za1] at h;subst h;exact LL hx hi hu
variable {p:Pr}
theorem Wb:oB p=true↔(1<=p.id/\p.id<=1000000/\p.inp.length<=6)/\p.inp.all VK=true/\1<=p.nod.length/\p.nod.length<=40:=by
 unfold oB;simp only[za2,zdB];exact⟨λ⟨⟨⟨⟨⟨a,b⟩,c⟩,d⟩,e⟩,f⟩=>⟨⟨a,b,c⟩,d,e,f⟩,λ⟨⟨a,b,c⟩,d,e,f⟩=>⟨⟨⟨⟨⟨a,b⟩,c⟩,d⟩,e⟩,f⟩⟩
theorem ES {K:zdW} {KU:List Un->Prop} (hsz:cw p=true) (h6:p.inp.length<=1000000)
 (hb:(VJ p).2.2≠0->K (zi (VJ p).2.1)) (hg:(VJ p).2.2=0->KU (VJ p).1):OB (chkI p.inp p.nod) p.nod.length p.id p.inp p.nod p.out K KU:=by
 unfold cw at hsz;simp only[za2,zaf] at hsz;obtain⟨⟨si,sn⟩,so⟩:=hsz;have gl:eU.list p.inp.length (eU.get p.inp)=p.inp:=El.list_get;have bad1:oB p=false->K (zi (-1)):=λh=>by
  have:VJ p=([], -1,90):=by unfold VJ;rw[h];rfl
  rw[this] at hb;exact hb (by decide)
 have nb: ∀{P:Prop},¬P->(oB p=true->P)->oB p=false:=λ{P} h k=>by
  cases hh:oB p with
  |false=>rfl
  |true=>exact absurd (k hh) h
 unfold OB;refine ah (λh=>bad1 (nb (P:=1<=p.id/\p.id<=1000000/\p.inp.length<=6) (λ⟨a,b,c⟩=> ?_) λhh=>(Wb.1 hh).1)) (λh1=>ac (by rw[El.good_get si];simp[h6]) λ_ _=>ah (λh=>bad1 (nb (P:=p.inp.all VK=true/\1<=p.nod.length/\p.nod.length<=40) (λ⟨a,b,c⟩=> ?_) λhh=>(Wb.1 hh).2)) (λh2=> ?_))
 ·rw[zdA (show ¬p.id<1 by omega),zdA (show ¬p.id>1000000 by omega),zdA (show ¬((p.inp.length:Int)>6) by omega)] at h;cases h
 ·rw[gl,a,zdA (show ¬(p.nod.length:Int)<1 by omega),zdA (show ¬((p.nod.length:Int)>40) by omega)] at h;cases h
 ·have hbeg:oB p=true:=by
   refine Wb.2 ⟨?_, ?_⟩
   ·by_cases q1:p.id<1
    ·rw[zdx q1] at h1;cases h1
    ·by_cases q2:p.id>1000000
     ·rw[zdA q1,zdx q2] at h1;cases h1
     ·rw[zdA q1,zdA q2] at h1;have:=zdD h1;omega
   ·rw[gl] at h2;cases q1:p.inp.all VK with
    |false=>rw[q1] at h2;cases h2
    |true=>
     rw[q1] at h2;by_cases q2:(p.nod.length:Int)<1
     ·rw[zdx q2] at h2;cases h2
     ·rw[zdA q2] at h2;have:=zdD h2;exact⟨rfl,by omega,by omega⟩
  obtain⟨⟨b1,b2,b3⟩,b4,b5,b6⟩:=Wb.1 hbeg;have hc:VJ p=match iB p.inp p.nod [] with
   |(us,true)=>bif eqU (ly us) p.out then(us,0,0) else([],p.nod.length,90)
   |(us,false)=>([],us.length,90):=by unfold VJ;rw[hbeg];rfl
  refine⟨(0, []),⟨zat _,by show (0:Int)<=_;omega,rfl,λu h=>(by cases h),rfl⟩,⟨⟨rfl,rfl,rfl,rfl,rfl,trivial⟩,trivial,⟨rfl,trivial⟩,rfl,trivial⟩, ?_⟩;rintro⟨i,us⟩ ⟨k0,k1,k2,k3,k4⟩;simp only at k0 k1 k2 k3 k4;dsimp only;refine ah (λhz=> ?_) (λhz=> ?_)
  ·have hz:i<(p.nod.length:Int):=zdC hz;rw[za7];have hd:p.nod.drop i.toNat=mb noN p.nod i.toNat::p.nod.drop (i+1).toNat:=by
    rw[show (i+1).toNat=i.toNat+1 by omega,zaH (show i.toNat<p.nod.length by omega),bR (zaa _)]
   have hx:=sn _ (bw (d:=noN) (l:=p.nod) (e:=i.toNat) (by omega));rw[hd,iB] at k4;refine aY k0 hz (LK hx si k3 (by omega) (λhn=> ?_) (λu q hu=> ?_))
   ·rw[hn] at k4;replace k4:iB p.inp p.nod []=(us,false):=k4;rw[k4] at hc;replace hc:VJ p=([],(us.length:Int),90):=hc;rw[hc] at hb;have:=hb (show (90:Int)≠0 by decide);rwa[show ((us.length:Nat):Int)=i by omega] at this
   ·rw[hu] at k4;replace k4:iB p.inp p.nod []=iB p.inp (p.nod.drop (i+1).toNat) (us++ [u]):=k4;refine ac (VP.2 (by omega)) ⟨(i+1,us++ [u]),⟨by show 0<=i+1;omega,by show i+1<=_;omega,by simp only[za3,za6];omega, ?_,k4⟩,by show (_:Nat)<_;omega,CQ⟩;intro v hv;rcases za8.1 hv with hv|hv
    ·exact k3 v hv
    ·rw[zaj.1 hv];exact CR hx si k3 hu
  ·have hz: ¬i<(p.nod.length:Int):=zdD hz;rw[show i.toNat=p.nod.length by omega,zbk,iB] at k4;rw[k4] at hc;refine ac (VP.2 (by omega)) (aY (by omega) (by omega) ?_);have e:(0+((us.length:Int) - 1).toNat)=us.length - 1:=by omega
   show ag (!eqU (mb noU us (0+((us.length:Int) - 1).toNat)) p.out) _ _;rw[e];refine ah (λh=> ?_) (λh=> ?_)
   ·have h:eqU (ly us) p.out=false:=by simpa [ly] using h
    rw[hc] at hb;simp only[h,zdy] at hb;exact hb (show (90:Int)≠0 by decide)
   ·have h:eqU (ly us) p.out=true:=by simpa [ly] using h
    rw[hc] at hg;simp only[h,zdz] at hg;exact hg trivial
structure ProA where
 need:Bool
 o1:Option Nat
 o2:Option Nat
 p:Pr
def bW (n:Nat):Bool:=Nat.ble n 1000000
def mC (bl:zdR) (s:SV):Option ProA:=match s with
 | .agg (.val (.int .i64 id)::si::sn::r)=>match gy bl 20 si,gy bl 26 sn,Au (.agg r) with
   |some (b1,o1,n1,g1),some (b2,o2,n2,g2),some u=>some ⟨b1&&b2&&bW n1&&bW n2&&eU.good szB n1 g1&&eN.good szN n2 g2&&szB u,o1,o2,⟨id,eU.list n1 g1,eN.list n2 g2,u⟩⟩
   |_,_,_=>none
 |_=>none
def iK (p:Pr):List Blk:= [eU.old p.inp,eN.old p.nod]
def kB (p:Pr):SV:=svP p.id p.inp p.nod p.out
theorem pM {cs:zdQ} (h:Au (.agg cs)=some u):cs=ci u:=by
 have:=cU.ok _ _ h;simpa [cU] using this
variable {f:ze1} {xs ys:zdQ}
theorem ar {x y:SV} (h:x.rn f=some y) (k:SV.rns f xs=some ys):SV.rns f (x::xs)=some (y::ys):=by simp only[SV.rns,h,k]
theorem Xs (k:SV.rns f xs=some ys):(SV.agg xs).rn f=some (.agg ys):=by simp only[SV.rn,k]
theorem xh (k:SV.rns f xs=some ys):(SV.tup xs).rn f=some (.tup ys):=by simp only[SV.rn,k]
variable {bl:zdR} {s:SV}
theorem eX {a:ProA} (h:mC bl s=some a) (hn:a.need=true) (h0:f 0=some a.o1) (h1:f 1=some a.o2):
 j5 bl f (eU.old a.p.inp) a.o1/\j5 bl f (eN.old a.p.nod) a.o2/\(kB a.p).rn f=some s/\cw a.p=true/\a.p.inp.length<=1000000/\a.p.nod.length<=1000000:=by
 unfold mC at h;split at h
 ·rename_i id si sn r;split at h
  ·rename_i b1 o1 n1 g1 b2 o2 n2 g2 u hs1 hs2 hu;simp only[za1] at h;subst h;simp only[za2] at hn;obtain⟨⟨⟨⟨⟨⟨rfl,rfl⟩,l1⟩,l2⟩,k1⟩,k2⟩,k3⟩:=hn;obtain⟨a1,a2⟩:=cq (f:=f) hs1 k1;obtain⟨b1,b2⟩:=cq (f:=f) hs2 k2;refine⟨a1,b1, ?_, ?_, ?_, ?_⟩
   ·have e:=rns_free (f:=f) (fj u);have d:=pM hu;subst d;exact Xs (ar (show SV.rn f (.val (.int .i64 id))=_ from rfl) (ar (a2 0 h0) (ar (b2 1 h1) e)))
   ·unfold cw;simp only[za2,zaf];exact⟨⟨El.good_list k1,El.good_list k2⟩,k3⟩
   ·rw[El.list_length];exact zak l1
   ·rw[El.list_length];exact zak l2
  ·cases h
 ·cases h
def xi:MCtr:=λbl nx args=>match args with
 | [s]=>match mC bl s with
   |some a=>some {X:=Unit,pre:=a.need,spec:=λ_=>True,out:=λ_=> .tup [.slc nx 0 (VJ a.p).1.length, .val (.int .i64 (VJ a.p).2.1), .val (.int .i64 (VJ a.p).2.2)],nw:=λ_=> [eU.own (VJ a.p).1],ex:=λ_=>⟨(),trivial⟩}
   |none=>none
 |_=>none
theorem ke (p:Pr):((VJ p).2.2=90/\(VJ p).1= [])\/((VJ p).2.2=0/\(VJ p).2.1=0/\(VJ p).1.length=p.nod.length/\1<=p.nod.length):=by
 have hl: ∀(l:ze3) (us vs:ze2),iB p.inp l us=(vs,true)->vs.length=us.length+l.length:=by
  intro l
  induction l with
  |nil=>intro us vs h;simp only[iB,zag,and_true] at h;subst h;simp
  |cons x r ih=>
   intro us vs h;simp only[iB] at h;split at h
   ·have:=ih _ _ h;simp only[za3,za6] at this;simp only[za4];omega
   ·simp at h
 unfold VJ;cases hb:oB p with
 |false=>exact .inl ⟨rfl,rfl⟩
 |true=>
  rw[zdz];cases hu:iB p.inp p.nod [] with
  |mk us b=>
   cases b with
   |false=>exact .inl ⟨rfl,rfl⟩
   |true=>
    cases he:eqU (ly us) p.out with
    |false=>exact .inl ⟨by simp only[he,zdy],by simp only[he,zdy]⟩
    |true=>
     have:=hl _ _ _ hu;simp only[he,zdz];exact .inr ⟨trivial,trivial,by simpa using this,(Wb.1 hb).2.2.1⟩
theorem cx (p:Pr): ∀C∈iK p,cN C.kd=false:=by simp[iK,cN,El.old]
theorem jG (p:Pr): ∀C∈iK p,C.kd.map=false:=by simp[iK,BK.map,El.old]
theorem OD:MOk gmC:=(MOk.nil.cons λ_ _ _ _ _ _ _ _ _ _ _ _ h=>by cases h).cons (IH MOk.nil)
variable {Q:zdW} {r:Res} {w:List Nat}
theorem vL {KS:Nat->Nat->Blk->List SV->Prop} {b:zdR} (h:slK KS Q r b m w):(∃i n rest B,r= .ok (.tup (.slc i 0 n::rest))/\b i=some B/\KS i n B rest)\/ ∃s,r= .ok s/\Q s:=by
 unfold slK at h;split at h
 ·rename_i i n rest;split at h
  ·rename_i B hB;exact .inl ⟨i,n,rest,B,rfl,hB,h⟩
  ·exact h.elim
 ·exact .inr ⟨_,rfl,h⟩
 ·exact h.elim
theorem vM: ∀B:Base,GlobB B->VU prog B 27 xi:=eW OD λbl nx args C hk hp=>by
 unfold xi at hk;split at hk
 ·rename_i s;split at hk
  ·rename_i a ha;simp only[za1] at hk;subst hk;obtain⟨s1,s2,s3,s4,s5,s6⟩:=eX (f:=rnF [a.o1,a.o2] [] nx) ha hp rfl rfl;refine⟨[a.o1,a.o2],iK a.p, [kB a.p],tM (chkI a.p.inp a.p.nod) a.p.nod.length,6,aw s1 (aw s2 trivial),bH (cx _),cd (jG _),by simp only[SV.rns,s3], ?_⟩;have key: ∀(KS:Nat->Nat->Blk->List SV->Prop) (Q:zdW),((VJ a.p).2.2≠0->Q (zi (VJ a.p).2.1))->((VJ a.p).2.2=0->KS 71 (VJ a.p).1.length {n:=(VJ a.p).1.length,sz:=20,get:=eU.get (VJ a.p).1,kd:= .own,nn:=false} [.val (.int .i64 0), .val (.int .i64 0)])->
    dk gmC (tM (chkI a.p.inp a.p.nod) a.p.nod.length) 6 27 [kB a.p] (iK a.p) (slK KS Q):=λKS Q h1 h2=>by
    unfold kB iK;rw[OC];exact ES s4 s5 h1 h2
   refine cQ (key (λi n B rest=>(VJ a.p).2.2=0/\i=71/\n=(VJ a.p).1.length/\B={n:=(VJ a.p).1.length,sz:=20,get:=eU.get (VJ a.p).1,kd:= .own,nn:=false}/\rest= [.val (.int .i64 0), .val (.int .i64 0)]) (λr=>(VJ a.p).2.2≠0/\r=zi (VJ a.p).2.1) (λh=>⟨h,rfl⟩) (λh=>⟨h,rfl,rfl,rfl,rfl⟩)) λr b m w h=> ?_;rcases vL h with ⟨i,n,rest,B,rfl,hB,e0,rfl,rfl,rfl,rfl⟩|⟨s,rfl,e0,rfl⟩
   ·obtain⟨c1,_⟩|⟨_,c2,c3,c4⟩:=ke a.p
    ·rw[c1] at e0;cases e0
    ·refine⟨(),trivial, [some 71],⟨_,rfl, ?_⟩,by simp[ck],⟨⟨by simp[iK], ?_⟩,trivial⟩,cr (cx _) rfl _⟩
     ·simp only[SV.rn,SV.rns,cO,c2,e0];rfl
     ·rw[hB];exact⟨by simp[El.own],λ_=>⟨by simp only[El.own];omega,eU.one⟩,gC rfl rfl (za0 _) λ_ _=>rfl⟩
   ·obtain⟨c1,c2⟩|⟨c1,_⟩:=ke a.p
    ·refine⟨(),trivial, [none],⟨_,rfl, ?_⟩,by simp[ck],⟨⟨rfl,by simp[El.own,c2],rfl⟩,trivial⟩,cr (cx _) rfl _⟩;simp only[SV.rn,SV.rns,cO,c1,c2];rfl
    ·exact absurd c1 e0
  ·cases hk
 ·cases hk
def pN:MCtr:=λbl nx args=>match args with
 | [s]=>match mC bl s with
   |some a=>some {X:=Unit,pre:=a.need,spec:=λ_=>True,out:=λ_=>cB.enc (VM a.p),ex:=λ_=>⟨(),trivial⟩}
   |none=>none
 |_=>none
def gmV:ze0:= [(27,xi)]
theorem OE:MOk gmV:=MOk.nil.cons vM
def jn (p:Pr):Bool:=(Nat.ble p.inp.length p.inp.length&&Nat.beq 20 20&&true)&&(Nat.ble p.nod.length p.nod.length&&Nat.beq 26 26&&true)&&bW p.inp.length&&bW p.nod.length&&eU.good szB p.inp.length (eU.get p.inp)&&eN.good szN p.nod.length (eN.get p.nod)&&szB p.out
def dm (p:Pr):Pr:=⟨p.id,eU.list p.inp.length (eU.get p.inp),eN.list p.nod.length (eN.get p.nod),p.out⟩
theorem fN (p:Pr):dm p=p:=by
 unfold dm;rw[show eU.list p.inp.length (eU.get p.inp)=p.inp from El.list_get,show eN.list p.nod.length (eN.get p.nod)=p.nod from El.list_get]
theorem eY (h:cw p=true) (h1:p.inp.length<=1000000) (h2:p.nod.length<=1000000):jn p=true:=by
 unfold cw at h;simp only[za2,zaf] at h;unfold jn bW;rw[zae h1,zae h2,zae (za0 _),zae (za0 _),El.good_get h.1.1,El.good_get h.1.2,h.2];rfl
theorem ET (p:Pr) (Q:zdW):dk gmV (λ_ _=>none) 3 15 [kB p] (iK p) (Go.Sy.okK λr _ _ _=>Q r)=af (jn p) (Unit->True->Q (cB.enc ((VJ (dm p)).2.2==0))):=by kernel_rfl
variable {gm:ze0} {args:zdQ}
theorem lz {C:RC} {src:List (Option Nat)} {Cs:List Blk} {nx:Nat} {ann:zdY} {f:FuncId} {r:SV} (x:C.X) (hx:C.spec x) (h1:C.pan x=none) (h2:r.ids= []) (h3:C.out x=r) (h4:C.nw x= []) (h5:C.ch x= []) (h6: ∀C∈Cs,cN C.kd=false) (hl:src.length=Cs.length)
 (h:dk gm ann n f args Cs (Go.Sy.okK λs _ _ _=>s=r)):dk gm ann n f args Cs (KB C src Cs nx):=cQ h λq b m w hq=>by
 cases q with
 |pan v=>exact hq.elim
 |ok s=>
  obtain rfl:s=r:=hq;exact IG x hx h1 h2 h3 h4 h5 h6 hl
theorem lZ: ∀B:Base,GlobB B->VU prog B 15 pN:=eW OE λbl nx args C hk hp=>by
 unfold pN at hk;split at hk
 ·rename_i s;split at hk
  ·rename_i a ha;simp only[za1] at hk;subst hk;obtain⟨s1,s2,s3,s4,s5,s6⟩:=eX (f:=rnF [a.o1,a.o2] [] nx) ha hp rfl rfl;refine⟨[a.o1,a.o2],iK a.p, [kB a.p],(λ_ _=>none),3,aw s1 (aw s2 trivial),bH (cx _),cd (jG _),by simp only[SV.rns,s3], ?_⟩;refine lz () trivial rfl (r:=cB.enc (VM a.p)) rfl rfl rfl rfl (cx _) rfl ?_;rw[ET];exact ac (eY s4 s5 s6) λ_ _=>by rw[fN];rfl
  ·cases hk
 ·cases hk
def CS (I:Int->Prop) (N:Int):zdY:=λf k=>bif Nat.beq f 128&&Nat.beq k 2 then some (λA=>{X:=Int,inv:=I,tm:=λi=> [(8, .val (.int .i64 i))],mu:=λi=>(N - i).toNat,keep:= [0,1,7]}) else none
theorem LM (I:Int->Prop) (N:Int) (l:List RS) (Q:zdW):dk [] (CS I N) 5 71 [.slc 0 0 l.length, .fn (.func 69) [] []] [eR.old l] (Go.Sy.okK λr _ _ _=>Q r)=
 LH I N (.slc 0 0 l.length) (.fn (.func 69) [] []) l.length (λz Q=>af (uzR (eR.nth l (0+z.toNat))) (Q (!rV (eR.nth l (0+z.toNat))))) (λz=>Q (cB.enc (decide (z≥0)))):=by kernel_rfl
def II:MCtr:=λbl _ args=>match args with
 | [s, .fn (.func g) [] []]=>bif Nat.beq g 69 then(match gy bl 2 s with
   |some (b,_,n,c)=>some {X:=Unit,pre:=b&&(Nat.ble n 1000000&&eR.good uzR n c),spec:=λ_=>True,out:=λ_=>cB.enc (!(eR.list n c).all rV),ex:=λ_=>⟨(),trivial⟩}
   |none=>none) else none
 |_=>none
theorem IJ (hm:MOk gm): ∀B:Base,GlobB B->VU prog B 71 II:=eW MOk.nil λbl nx args C hk hp=>by
 unfold II at hk;split at hk
 ·rename_i s g;cases hg:Nat.beq g 69 with
  |false=>rw[hg] at hk;cases hk
  |true=>
   obtain rfl:=zab hg;rw[hg,zdz] at hk;split at hk
   ·rename_i b o n c hs;simp only[za1] at hk;subst hk;simp only[za2] at hp;obtain⟨rfl,hn,hgood⟩:=hp;have hlen:(eR.list n c).length<2^62:=by rw[El.list_length];have:=zak hn;omega
    obtain⟨h1,h2⟩:=cq (f:=rnF [o] [] nx) hs hgood;refine⟨[o], [eR.old (eR.list n c)], [.slc 0 0 (eR.list n c).length, .fn (.func 69) [] []],CS (λi=>0<=i/\i<=(eR.list n c).length/\be (λu=> !rV u) (eR.list n c) 0=be (λu=> !rV u) ((eR.list n c).drop i.toNat) i) (eR.list n c).length,5,aw h1 trivial,bH (by simp[cN,El.old]),cd (by simp[El.old,BK.map]), ?_, ?_⟩
    ·simp only[SV.rns,h2 0 rfl];rfl
    ·refine lz () trivial rfl (r:=cB.enc (!(eR.list n c).all rV)) rfl rfl rfl rfl (by simp[cN,El.old]) rfl ?_;rw[LM];refine pJ VI hlen (λz Q h0 h1 h=> ?_) ?_
     ·rw[za7];have:=El.good_list hgood _ (bw (d:=VI) (l:=eR.list n c) (e:=z.toNat) (by omega));exact ac this h
     ·rw[pI _ _ _ (zat _),CP]
   ·cases hk
 ·cases hk
def gmE:ze0:= [(15,pN),(71,II)]
theorem OF:MOk gmE:=(MOk.nil.cons (IJ MOk.nil)).cons lZ
abbrev EX:=Int×List RS
abbrev PWX:=Int×RS
def OG (A:AS):RS:=match A.tm 7 with
 | .v (.slc i _ _)=>match A.bl i,Bh A (kA A 10) 24 with
   |some B, .val (.int _ l)=>NH (B.get (0+l.toNat))
   |_,_=>VI
 |_=>VI
def P7 (A:AS) (t:Nat):Int:=match A.tm t with
 | .v (.val (.int _ z))=>z
 |_=>0
def CT (I:EX->Prop) (N:Int) (J:RS->Int->PWX->Prop):zdY:=λf k=>bif Nat.beq f 78 then(bif Nat.beq k 4 then some (λA=>{X:=EX,inv:=I,tm:=λx=> [(19, .val (.int .i64 x.1)),(7, .slc A.nx 0 x.2.length)],gr:= [{src:= .slot 7,sz:=2,n:=λx=>x.2.length,get:=λx=>eR.get x.2}],cleanG:=λg hg x e=>by simp at hg;subst hg;exact eR.ids _,mu:=λx=>(N - x.1).toNat,keep:= [2,3,4,6,8,17,18]})
 else bif Nat.beq k 23 then some (λA=>{X:=PWX,inv:=J (OG A) (P7 A 119),tm:=λx=> [(120, .val (.int .i64 x.1))],st:= [(kA A 11,λx=>gA x.2)],mu:=λx=>(4 - x.1).toNat,keep:= [2,3,4,6,7,8,10,11,17,18,19,119]}) else none) else none
def LN:SV:= .tup [.agg (gA VI), .val (.int .i64 90)]
def LO (r:RS×Int) (bad:Prop) (K:RS->Prop):Prop:=ag (r.2 !=0) bad (K r.1)
def LP (n:Nat) (K:Prop):Prop:=af (decide (0<1)&&decide (0+1<=1)&&decide (n<=n)&&decide ((n+1)*32<=140737488355328)&&true) K
def evS (ni nn:Nat) (Q:Prop):Prop:=tvE (.slc 2 0 ni)/\cg 27/\cg 28/\cg 29/\cg 38/\tvE (.slc 1 0 nn)/\tvE (cI.enc (nn:Int))/\Q
def evM (q ni nn:Nat) (p:Int) (n:Nat) (us:zdS) (z:EX):Prop:=
 (TV.v (cI.enc p)=TV.v (cI.enc z.1)/\TV.v (.slc q 0 n)=TV.v (.slc q 0 z.2.length)/\evS ni nn True)/\(True/\(True/\(af (Nat.beq 2 2&&decide (z.2.length<=n)) (∀e,e<z.2.length->us e=eR.get z.2 e)/\True)))
def evN (I:EX->Prop) (N:Int) (q ni nn:Nat) (i:Int) (vs:List RS) (v:RS):Prop:=LP vs.length (af (inR .i64 (i+1)) (∃z:EX,I z/\((N - z.1).toNat<(N - i).toNat/\evM q ni nn (i+1) (vs.length+1) (ct (eR.get vs) (λe=>((gA v).drop (e*2)).take 2) vs.length 0) z)))
def jH (n:Int):Int:=if -n>n then -n else n
def pwE (ni nn:Nat) (i:Int) (n:Nat) (m:Int) (p:Int) (v:RS) (z:PWX):Prop:=
 (TV.v (cI.enc p)=TV.v (cI.enc z.1)/\tvE (.slc 2 0 ni)/\cg 27/\cg 28/\cg 29/\tvE (.slc 44 0 n)/\cg 38/\cg 48/\cg 50/\tvE (.slc 1 0 nn)/\tvE (cI.enc (nn:Int))/\tvE (cI.enc i)/\tvE (cI.enc m)/\True)/\(True/\((gA v=gA z.2/\True)/\True))
def opP (vs:List RS) (x:Nd) (f:RS->RS->RS×Int) (bad:Prop) (K:RS->Prop):Prop:=
 eO vs.length x.l (eO vs.length x.r (af (uzR (mb VI vs (0+x.l.toNat))&&uzR (mb VI vs (0+x.r.toNat))) (LO (f (mb VI vs (0+x.l.toNat)) (mb VI vs (0+x.r.toNat))) bad K)))
def P8 (J:RS->Int->PWX->Prop) (ni nn:Nat) (i:Int) (vs:List RS) (x:Nd) (bad:Prop) (K1 K2:RS->Prop):Prop:=
 af (inR .i64 (-x.n)) (∃z0:PWX,J (mb VI vs (0+x.l.toNat)) (jH x.n) z0/\(pwE ni nn i vs.length (jH x.n) 0 rI z0/\ ∀z:PWX,J (mb VI vs (0+x.l.toNat)) (jH x.n) z->ag (decide (z.1<jH x.n))
  (eO vs.length x.l (af (uzR z.2&&uzR (mb VI vs (0+x.l.toNat))) (LO (ce z.2 (mb VI vs (0+x.l.toNat))) bad λv=>af (inR .i64 (z.1+1)) (∃z':PWX,J (mb VI vs (0+x.l.toNat)) (jH x.n) z'/\((4 - z'.1).toNat<(4 - z.1).toNat/\pwE ni nn i vs.length (jH x.n) (z.1+1) v z')))))
  (ag (decide (x.n<0)) (af (uzR rI&&uzR z.2) (LO (cA rI z.2) bad K1)) (K2 z.2))))
def evP (I:EX->Prop) (N:Int) (J:RS->Int->PWX->Prop) (ins:List RS) (nn:Nat) (i:Int) (vs:List RS) (x:Nd) (bad:Prop):Prop:=
 ag (x.op==1) (evN I N 84 ins.length nn i vs x.v) (
 ag (x.op==2) (eO ins.length x.n (evN I N 83 ins.length nn i vs (mb VI ins (0+x.n.toNat)))) (
 ag (x.op==3) (opP vs x fZ bad (evN I N 87 ins.length nn i vs)) (
 ag (x.op==4) (opP vs x iF bad (evN I N 89 ins.length nn i vs)) (
 ag (x.op==5) (opP vs x ce bad (evN I N 91 ins.length nn i vs)) (
 ag (x.op==6) (opP vs x cA bad (evN I N 93 ins.length nn i vs)) (
 ag (x.op==7) (P8 J ins.length nn i vs x bad (evN I N 115 ins.length nn i vs) (evN I N 100 ins.length nn i vs)) (
 ag (x.op==8) (eO vs.length x.l bad) (evN I N 89 ins.length nn i vs VI))))))))
def evT (I:EX->Prop) (N:Int) (J:RS->Int->PWX->Prop) (p:Pr) (ins:List RS) (Q:zdW):Prop:=
 af (jn p) (Unit->True->ag (bif !VM (dm p) then true else((ins.length:Int) !=(p.inp.length:Int))) (Q LN)
 (af (Nat.ble ins.length ins.length&&Nat.beq 2 2&&true&&(Nat.ble ins.length 1000000&&eR.good uzR ins.length (eR.get ins))) (Unit->True->ag (!(eR.list ins.length (eR.get ins)).all rV) (Q LN)
 (∃z0:EX,I z0/\(((TV.v (cI.enc 0)=TV.v (cI.enc z0.1)/\TV.v (.val (.slice none 0 0))=TV.v (.val (.slice none z0.2.length 0))/\evS ins.length p.nod.length True)/\(True/\(True/\(z0.2.length=0/\True))))/\
   ∀z:EX,I z->ag (decide (z.1<(p.nod.length:Int)))
    (eO p.nod.length z.1 (evP I N J ins p.nod.length z.1 z.2 (mb noN p.nod (0+z.1.toNat)) (Q LN)))
    (af (inR .i64 ((z.2.length:Int) - 1)) (eO z.2.length ((z.2.length:Int) - 1) (Q (.tup [.agg (gA (mb VI z.2 (0+((z.2.length:Int) - 1).toNat))), .val (.int .i64 0)])))))))))
theorem P9 (I:EX->Prop) (N:Int) (J:RS->Int->PWX->Prop) (p:Pr) (ins:List RS) (Q:zdW):dk gmE (CT I N J) 6 19 [kB p, .slc 2 0 ins.length] [eU.old p.inp,eN.old p.nod,eR.old ins] (Go.Sy.okK λr _ _ _=>Q r)=evT I N J p ins Q:=by kernel_rfl
def okR (r:RS×Int):Option RS:=bif r.2 !=0 then none else some r.1
def kC (b:RS):Nat->Option RS
 |0=>some rI
 |k+1=>match kC b k with
  |some v=>okR (ce v b)
  |none=>none
def valF (ins vs:List RS) (x:Nd):Option RS:=
 bif x.op==1 then some x.v else
 bif x.op==2 then some (mb VI ins x.n.toNat) else
 bif x.op==3 then okR (fZ (mb VI vs x.l.toNat) (mb VI vs x.r.toNat)) else
 bif x.op==4 then okR (iF (mb VI vs x.l.toNat) (mb VI vs x.r.toNat)) else
 bif x.op==5 then okR (ce (mb VI vs x.l.toNat) (mb VI vs x.r.toNat)) else
 bif x.op==6 then okR (cA (mb VI vs x.l.toNat) (mb VI vs x.r.toNat)) else
 bif x.op==7 then(match kC (mb VI vs x.l.toNat) (jH x.n).toNat with
  |some v=>bif decide (x.n<0) then okR (cA rI v) else some v
  |none=>none) else
 bif x.op==8 then none else some VI
def iC (ins:List RS):List Nd->List RS->Option (List RS)
 | [],vs=>some vs
 |x::r,vs=>match valF ins vs x with
  |some v=>iC ins r (vs++ [v])
  |none=>none
def CU (vs:List RS):RS:=mb VI vs (vs.length - 1)
def bn (p:Pr) (ins:List RS):RS×Int:=bif !VM p||ins.length !=p.inp.length|| !ins.all rV then(VI,90) else(match iC ins p.nod [] with
 |some vs=>(CU vs,0)
 |none=>(VI,90))
theorem xj {inp:ze2}: ∀{l:ze3} {us vs:ze2},iB inp l us=(vs,true)-> ∀j,j<l.length-> ∃ws u,ws.length=us.length+j/\mn inp ws (mb noN l j)=some u
 | [],us,vs,_,j,hj=>by simp at hj
 |x::r,us,vs,h,j,hj=>by
  simp only[iB] at h;split at h
  ·rename_i u hu;cases j with
   |zero=>exact⟨us,u,rfl,hu⟩
   |succ j=>
    obtain⟨ws,v,h1,h2⟩:=xj h j (by simpa using hj);exact⟨ws,v,by rw[h1];simp;omega,h2⟩
  ·simp at h
theorem vN (h:mn inp us x=some u):VT us.length x=true/\(fL inp us x).2=0/\(fL inp us x).1=u:=by
 unfold mn at h;cases h1:VT us.length x&&(fL inp us x).2==0 with
 |false=>rw[h1] at h;cases h
 |true=>
  rw[h1] at h;simp only[zdz,za1] at h;simp only[za2,zdG] at h1;exact⟨h1.1,h1.2,h⟩
structure NodeOK (ni n:Nat) (x:Nd):Prop where
 form:VT n x=true
 op:1<=x.op/\x.op<=8
 inp:x.op=2->0<=x.n/\x.n<ni
 left:3<=x.op->0<=x.l/\x.l<n
 right:3<=x.op->x.op<=6->0<=x.r/\x.r<n
 pow:x.op=7->x.n≠0/\ -4<=x.n/\x.n<=4
theorem EU (h1:VT us.length x=true) (h2:(fL inp us x).2=0):NodeOK inp.length us.length x:=by
 have hop:1<=x.op/\x.op<=8:=by
  unfold VT at h1;by_cases o1:x.op=1
  ·omega
  by_cases o2:x.op=2
  ·omega
  by_cases o3:3<=x.op/\x.op<=6
  ·omega
  by_cases o7:x.op=7
  ·omega
  by_cases o8:x.op=8
  ·omega
  exfalso;rw[zdE o1,zdE o2,zdE o7,zdE o8] at h1;have:(decide (3<=x.op)&&decide (x.op<=6))=false:=by simp;omega
  rw[this] at h1;cases h1
 refine⟨h1,hop,λo=> ?_,λo=> ?_,λo o'=> ?_,λo=> ?_⟩
 ·unfold fL at h2;rw[o] at h2;cases hc:decide (0<=x.n)&&decide (x.n<(inp.length:Int)) with
  |true=>simpa using hc
  |false=>rw[hc] at h2;exact absurd (show (90:Int)=0 from h2) (by decide)
 ·unfold VT at h1;rw[zdE (show x.op≠1 by omega),zdE (show x.op≠2 by omega)] at h1;by_cases o3:x.op<=6
  ·rw[zdx o,zdx o3] at h1;simp only[zdy,zc7,zdz,za2] at h1;exact V2.1 h1.1.2
  ·by_cases o7:x.op=7
   ·rw[o7] at h1;exact V2.1 (Bool.and_eq_true_iff.1 h1).2
   ·have o8:x.op=8:=by omega
    rw[o8] at h1;exact V2.1 (Bool.and_eq_true_iff.1 h1).2
 ·unfold VT at h1;rw[zdE (show x.op≠1 by omega),zdE (show x.op≠2 by omega),zdx o,zdx o'] at h1;simp only[zdy,zc7,zdz,za2] at h1;exact V2.1 h1.2
 ·unfold fL at h2;rw[o] at h2;cases hc:x.n==0||decide (x.n< -4)||decide (x.n>4) with
  |true=>rw[hc] at h2;exact absurd (show (90:Int)=0 from h2) (by decide)
  |false=>simp at hc;omega
theorem bQ (h:VM p=true):oB p=true/\ ∀j,j<p.nod.length->NodeOK p.inp.length j (mb noN p.nod j):=by
 unfold VM at h;have h:=beq_iff_eq.1 h;unfold VJ at h;cases hb:oB p with
 |false=>rw[hb] at h;exact absurd (show (90:Int)=0 from h) (by decide)
 |true=>
  rw[hb,zdz] at h;refine⟨rfl,λj hj=> ?_⟩;cases hu:iB p.inp p.nod [] with
  |mk us b=>
   rw[hu] at h;cases b with
   |false=>exact absurd (show (90:Int)=0 from h) (by decide)
   |true=>
    obtain⟨ws,u,h1,h2⟩:=xj hu j hj;obtain⟨f1,f2,_⟩:=vN h2;have:=EU f1 f2;rwa[h1,za9,za7] at this
theorem rg {l:List RS} (h: ∀u∈l,uzR u=true) (e:Nat):uzR (mb VI l e)=true:=by
 by_cases he:e<l.length
 ·exact h _ (bw he)
 ·have: ∀(l:List RS) (e:Nat),l.length<=e->mb VI l e=VI:=by
   intro l
   induction l with
   |nil=>intro e _;rfl
   |cons x r ih=>intro e he;cases e with
    |zero=>simp at he
    |succ e=>exact ih e (by simpa using he)
  rw[this l e (by omega)];decide
variable {v:RS}
theorem fq {r:RS×Int} (h:okR r=some v):r.2=0/\r.1=v:=by
 unfold okR at h;cases hr:r.2 !=0 with
 |true=>rw[hr] at h;cases h
 |false=>rw[hr] at h;simp at h hr;exact⟨hr,h⟩
theorem CV {b:RS}: ∀{k:Nat} {v:RS},kC b k=some v->uzR v=true
 |0,v,h=>by simp[kC] at h;subst h;decide
 |k+1,v,h=>by
  simp only[kC] at h;split at h
  ·rw[<-(fq h).2];exact gI _ _
  ·cases h
theorem xk {r:RS×Int} {K:RS->Prop} (h0:okR r=none->bad) (h1: ∀v,okR r=some v->K v):LO r bad K:=ah (λh=>h0 (by unfold okR;rw[h];rfl)) (λh=>h1 _ (by unfold okR;rw[h];rfl))
theorem LQ (h:n<=1000000) (k:K):LP n K:=ac (by
 rw[zdx (zbT),zdx (show 0+1<=1 by omega),zdx (za0 n),zdx (show (n+1)*32<=140737488355328 by omega)];rfl) k
theorem OH {p:Int} {us:List RS} {u:RS}:evM q ni nn p (us.length+1) (ct (eR.get us) (λe=>((gA u).drop (e*2)).take 2) us.length 0) (p,us++ [u]):=by
 have hl:(us++ [u]).length=us.length+1:=by simp
 refine⟨⟨rfl,by rw[hl],rfl,rfl,rfl,rfl,rfl,rfl,rfl,trivial⟩,trivial,trivial, ?_,trivial⟩;refine ac (by rw[zdx (by rw[hl];exact za0 _)];rfl) λe he=> ?_;rw[hl] at he;unfold ct El.get El.nth;rw[aB];show _=gA (mb VI (us++ [u]) e);rw[aS];by_cases h:e<us.length
 ·rw[zdx h,zdz,if_neg (by omega)];rfl
 ·obtain rfl:e=us.length:=by omega
  rw[zdA h,zdy,if_pos rfl,zaJ];rfl
def OI (b:RS) (m:Int) (z:PWX):Prop:=0<=z.1/\z.1<=m/\m<=4/\kC b z.1.toNat=some z.2
theorem YZ {m p:Int} :pwE ni nn i n m p v (p,v):=⟨⟨rfl,rfl,rfl,rfl,rfl,rfl,rfl,rfl,rfl,rfl,rfl,rfl,rfl,trivial⟩,trivial,⟨rfl,trivial⟩,trivial⟩
variable {ins vs:List RS}
theorem OJ {I:EX->Prop} (hx:NodeOK ni vs.length x) (hni:ins.length=ni) (hv: ∀u∈vs,uzR u=true) (hb:valF ins vs x=none->bad) (hs: ∀v q,valF ins vs x=some v->evN I N q ins.length nn i vs v):evP I N OI ins nn i vs x bad:=by
 obtain⟨o1,o2⟩:=hx.op;have two: ∀{f:RS->RS->RS×Int} {q:Nat},3<=x.op->x.op<=6->valF ins vs x=okR (f (mb VI vs x.l.toNat) (mb VI vs x.r.toNat))->opP vs x f bad (evN I N q ins.length nn i vs):=λ{f q} a b e=>by
  have hl:=hx.left a;have hr:=hx.right a b;unfold opP;rw[za7,za7];exact aY hl.1 hl.2 (aY hr.1 hr.2 (ac (by rw[rg hv,rg hv];rfl) (xk (λh=>hb (e.trans h)) (λv h=>hs v q (e.trans h)))))
 unfold evP;refine ah (λe1=> ?_) (λe1=>ah (λe2=> ?_) (λe2=>ah (λe3=> ?_) (λe3=>ah (λe4=> ?_) (λe4=>ah (λe5=> ?_) (λe5=>ah (λe6=> ?_) (λe6=>ah (λe7=> ?_) (λe7=>ah (λe8=> ?_) (λe8=> ?_))))))))
 ·exact hs _ _ (by unfold valF;rw[e1];rfl)
 ·have h:=hx.inp (int_eq.1 e2);rw[za7];exact aY h.1 (by omega) (hs _ _ (by unfold valF;rw[e1,e2];rfl))
 ·exact two (by rw[int_eq.1 e3];decide) (by rw[int_eq.1 e3];decide) (by unfold valF;rw[e1,e2,e3];rfl)
 ·exact two (by rw[int_eq.1 e4];decide) (by rw[int_eq.1 e4];decide) (by unfold valF;rw[e1,e2,e3,e4];rfl)
 ·exact two (by rw[int_eq.1 e5];decide) (by rw[int_eq.1 e5];decide) (by unfold valF;rw[e1,e2,e3,e4,e5];rfl)
 ·exact two (by rw[int_eq.1 e6];decide) (by rw[int_eq.1 e6];decide) (by unfold valF;rw[e1,e2,e3,e4,e5,e6];rfl)
 ·have hp:=hx.pow (int_eq.1 e7);have hl:=hx.left (by rw[int_eq.1 e7];decide)
  have e:valF ins vs x=(match kC (mb VI vs x.l.toNat) (jH x.n).toNat with
   |some v=>bif decide (x.n<0) then okR (cA rI v) else some v
   |none=>none):=by unfold valF;rw[e1,e2,e3,e4,e5,e6,e7];rfl
  have hm:0<=jH x.n/\jH x.n<=4:=by unfold jH;split<;>omega
  unfold P8;rw[za7];refine ac (VP.2 (by omega)) ⟨(0,rI),⟨zat _,hm.1,hm.2,rfl⟩,YZ, ?_⟩;rintro⟨k,v⟩ ⟨k0,k1,_,k2⟩;dsimp only at k0 k1 k2 ⊢;have hvz:=CV k2;refine ah (λhk=> ?_) (λhk=> ?_)
  ·have hk:=zdC hk;refine aY hl.1 hl.2 (ac (by rw[hvz,rg hv];rfl) (xk (λh=>hb ?_) (λw h=> ?_)))
   ·have: ∀m,kC (mb VI vs x.l.toNat) (k.toNat+1+m)=none:=by
     intro m
     induction m with
     |zero=>simp only[zaZ,kC,k2,h]
     |succ m ih=>rw[<-zbs,kC,ih]
    have:=this ((jH x.n).toNat - (k.toNat+1));rw[show k.toNat+1+((jH x.n).toNat - (k.toNat+1))=(jH x.n).toNat by omega] at this;rw[e,this]
   ·refine ac (VP.2 (by omega)) ⟨(k+1,w),⟨by show 0<=k+1;omega,by show k+1<=_;omega,hm.2, ?_⟩,by show (_:Nat)<_;omega,YZ⟩;show kC _ (k+1).toNat=some w;rw[show (k+1).toNat=k.toNat+1 by omega,kC,k2];exact h
  ·have hk:=zdD hk;rw[show k.toNat=(jH x.n).toNat by omega] at k2;rw[k2] at e;refine ah (λhneg=> ?_) (λhneg=> ?_)
   ·rw[hneg] at e;exact ac (by rw[hvz];decide) (xk (λh=>hb (e.trans h)) (λw h=>hs w _ (e.trans h)))
   ·rw[hneg] at e;exact hs _ _ e
 ·have hl:=hx.left (by rw[int_eq.1 e8];decide);exact aY hl.1 hl.2 (hb (by unfold valF;rw[e1,e2,e3,e4,e5,e6,e7,e8];rfl))
 ·exact hs _ _ (by unfold valF;rw[e1,e2,e3,e4,e5,e6,e7,e8];rfl)
theorem LR (hx:szN x=true) (hi: ∀u∈ins,uzR u=true) (hv: ∀u∈vs,uzR u=true) (h:valF ins vs x=some v):uzR v=true:=by
 unfold szN at hx;rw[za2] at hx;unfold valF at h;have ok: ∀{r:RS×Int},uzR r.1=true->okR r=some v->uzR v=true:=λh1 h2=>by rw[<-(fq h2).2];exact h1
 cases h1:x.op==1 with
 |true=>rw[h1] at h;simp at h;subst h;exact hx.1
 |false=>
  rw[h1,zdy] at h;cases h2:x.op==2 with
  |true=>rw[h2] at h;simp at h;subst h;exact rg hi _
  |false=>
   rw[h2,zdy] at h;cases h3:x.op==3 with
   |true=>rw[h3,zdz] at h;exact ok (Lq _ _) h
   |false=>
    rw[h3,zdy] at h;cases h4:x.op==4 with
    |true=>rw[h4,zdz] at h;exact ok (Lr _ _) h
    |false=>
     rw[h4,zdy] at h;cases h5:x.op==5 with
     |true=>rw[h5,zdz] at h;exact ok (gI _ _) h
     |false=>
      rw[h5,zdy] at h;cases h6:x.op==6 with
      |true=>rw[h6,zdz] at h;exact ok (lY _ _) h
      |false=>
       rw[h6,zdy] at h;cases h7:x.op==7 with
       |true=>
        rw[h7,zdz] at h;split at h
        ·rename_i w hw;cases hn:decide (x.n<0) with
         |true=>rw[hn,zdz] at h;exact ok (lY _ _) h
         |false=>rw[hn,zdy] at h;simp at h;subst h;exact CV hw
        ·cases h
       |false=>
        rw[h7,zdy] at h;cases h8:x.op==8 with
        |true=>rw[h8] at h;cases h
        |false=>rw[h8] at h;simp at h;subst h;decide
def evI (ins:List RS) (nod:ze3) (z:EX):Prop:=0<=z.1/\z.1<=nod.length/\z.2.length=z.1.toNat/\(∀u∈z.2,uzR u=true)/\iC ins nod []=iC ins (nod.drop z.1.toNat) z.2
theorem IK (hsz:cw p=true) (h6:p.inp.length<=1000000) (h7:p.nod.length<=1000000) (hi: ∀u∈ins,uzR u=true) (h8:ins.length<=1000000)
 (hQ:Q (.tup [.agg (gA (bn p ins).1), .val (.int .i64 (bn p ins).2)])):evT (evI ins p.nod) p.nod.length OI p ins Q:=by
 have hsz':=hsz;unfold cw at hsz';simp only[za2,zaf] at hsz';obtain⟨⟨si,sn⟩,so⟩:=hsz';have gl:eR.list ins.length (eR.get ins)=ins:=El.list_get;have bad:bn p ins=(VI,90)->Q LN:=λh=>by rw[h] at hQ;exact hQ
 unfold evT;refine ac (eY hsz h6 h7) λ_ _=> ?_;rw[fN];refine ah (λh=>bad ?_) (λh=>ac (by rw[El.good_get hi];simp[h8]) λ_ _=>ah (λk=>bad ?_) (λk=> ?_))
 ·unfold bn;cases hv:VM p with
  |false=>rfl
  |true=>
   rw[hv] at h;have:(ins.length !=p.inp.length)=true:=by simp at h ⊢;omega
   rw[this];rfl
 ·rw[gl] at k;unfold bn;rw[k,Bool.or_true];rfl
 ·rw[gl] at k;cases hv:VM p with
  |false=>rw[hv] at h;cases h
  |true=>
  rw[hv] at h;have hl:ins.length=p.inp.length:=by simp at h;omega
  obtain⟨hbeg,hnod⟩:=bQ hv;have hc:bn p ins=match iC ins p.nod [] with
   |some vs=>(CU vs,0)
   |none=>(VI,90):=by unfold bn;rw[hv,k,hl];simp
  have hb:=Wb.1 hbeg;refine⟨(0, []),⟨zat _,by show (0:Int)<=_;omega,rfl,λu h=>(by cases h),rfl⟩,⟨⟨rfl,rfl,rfl,rfl,rfl,rfl,rfl,rfl,rfl,trivial⟩,trivial,trivial,rfl,trivial⟩, ?_⟩;rintro⟨i,vs⟩ ⟨k0,k1,k2,k3,k4⟩;simp only at k0 k1 k2 k3 k4;dsimp only;refine ah (λhz=> ?_) (λhz=> ?_)
  ·have hz:i<(p.nod.length:Int):=zdC hz;rw[za7];have hd:p.nod.drop i.toNat=mb noN p.nod i.toNat::p.nod.drop (i+1).toNat:=by
    rw[show (i+1).toNat=i.toNat+1 by omega,zaH (show i.toNat<p.nod.length by omega),bR (zaa _)]
   have hx:=hnod i.toNat (by omega);have hxs:=sn _ (bw (d:=noN) (l:=p.nod) (e:=i.toNat) (by omega));rw[<-k2] at hx;rw[hd,iC] at k4;rw[k2] at hx;refine aY k0 hz (OJ (by rw[<-k2] at hx;rwa[k2] at hx ⊢) hl k3 (λhn=>bad ?_) (λv q hu=> ?_))
   ·rw[hn] at k4;replace k4:iC ins p.nod []=none:=k4;rw[hc,k4]
   ·rw[hu] at k4;replace k4:iC ins p.nod []=iC ins (p.nod.drop (i+1).toNat) (vs++ [v]):=k4;refine LQ (by omega) (ac (VP.2 (by omega)) ⟨(i+1,vs++ [v]),⟨by show 0<=i+1;omega,by show i+1<=_;omega,by simp only[za3,za6];omega, ?_,k4⟩,by show (_:Nat)<_;omega,OH⟩);intro w hw;rcases za8.1 hw with hw|hw
    ·exact k3 w hw
    ·rw[zaj.1 hw];exact LR hxs hi k3 hu
  ·have hz: ¬i<(p.nod.length:Int):=zdD hz;rw[show i.toNat=p.nod.length by omega,zbk,iC] at k4;rw[k4] at hc;replace hc:bn p ins=(CU vs,0):=hc;rw[hc] at hQ;refine ac (VP.2 (by omega)) (aY (by omega) (by omega) ?_);rw[show (0+((vs.length:Int) - 1).toNat)=vs.length - 1 by omega];exact hQ
def zm:MCtr:=λbl nx args=>match args with
 | [s,t]=>match mC bl s,gy bl 2 t with
   |some a,some (b,o,n,c)=>some {X:=Unit,pre:=a.need&&b&&bW n&&eR.good uzR n c,spec:=λ_=>True,out:=λ_=> .tup [.agg (gA (bn a.p (eR.list n c)).1), .val (.int .i64 (bn a.p (eR.list n c)).2)],ex:=λ_=>⟨(),trivial⟩}
   |_,_=>none
 |_=>none
theorem tP: ∀B:Base,GlobB B->VU prog B 19 zm:=eW OF λbl nx args C hk hp=>by
 unfold zm at hk;split at hk
 ·rename_i s t;split at hk
  ·rename_i a b o n c ha hs;simp only[za1] at hk;subst hk;simp only[za2] at hp;obtain⟨⟨⟨hp,rfl⟩,hn⟩,hgood⟩:=hp;obtain⟨s1,s2,s3,s4,s5,s6⟩:=eX (f:=rnF [a.o1,a.o2,o] [] nx) ha hp rfl rfl;obtain⟨t1,t2⟩:=cq (f:=rnF [a.o1,a.o2,o] [] nx) hs hgood;refine⟨[a.o1,a.o2,o], [eU.old a.p.inp,eN.old a.p.nod,eR.old (eR.list n c)], [kB a.p, .slc 2 0 (eR.list n c).length],CT (evI (eR.list n c) a.p.nod) a.p.nod.length OI,6,aw s1 (aw s2 (aw t1 trivial)),bH (by simp[cN,El.old]),cd (by simp[El.old,BK.map]),ar s3 (ar (t2 2 rfl) rfl), ?_⟩;refine lz () trivial rfl (r:= .tup [.agg (gA (bn a.p (eR.list n c)).1), .val (.int .i64 (bn a.p (eR.list n c)).2)]) rfl rfl rfl rfl (by simp[cN,El.old]) rfl ?_;rw[P9];exact IK s4 s5 s6 (El.good_list hgood) (by rw[El.list_length];exact zak hn) rfl
  ·cases hk
 ·cases hk
def VW (x:Nd):List Int:=bif decide (3<=x.op)&&decide (x.op<=6) then [x.l,x.r] else bif decide (7<=x.op)&&decide (x.op<=8) then [x.l] else []
def VN (j:Nat) (x:Nd):Bool:=(VW x).all λi=>decide (0<=i)&&decide (i<(j:Int))
def cy (l:ze3):Nat->(zdV)->Int->(zdV)
 |0,f,_=>f
 |b+1,f,i=>bif f i.toNat then f else(VW (mb noN l i.toNat)).foldl (λf j=>cy l b f j) (λk=>Nat.beq k i.toNat||f k)
def LS (s:SV):Blk:={n:=1,sz:=1,get:=λ_=> [s],kd:= .old,nn:=false}
def IL (a c d:Nat):SV:= .fn (.func 181) [] [.ptr a 0 0, .ptr c 0 0, .ptr d 0 0]
def Qa (f:zdV):Blk:={n:=0,sz:=0,get:=λk=> [.val (.bool (f k))],kd:= .mpB}
def ft (l:ze3) (f:zdV):List Blk:= [LS (.mp 3),LS (.slc 4 0 l.length),LS (IL 0 1 2),Qa f,eN.old l]
open Classical in
def dH (n:Nat) (h:zdS):Bool:=decide (∀j,j<n->VN j (Vh (h j))=true)
structure MarkA where
 need:Bool
 i:Int
 a:Nat
 c:Nat
 d:Nat
 m:Nat
 M:Blk
 o:Option Nat
 l:List Nd
def mD (B:Blk):Bool:=Nat.ble 1 B.n&&Nat.beq B.sz 1&&pa B.kd
def Bi (bl:zdR) (b:Nat):List SV->Option MarkA
 | [.val (.int .i64 i), .ptr a 0 0, .ptr c 0 0, .ptr d 0 0]=>match bl a,bl c,bl d with
   |some A,some C,some D=>match A.get 0,C.get 0,D.get 0 with
    | [.mp m], [s], [.fn (.func g) [] [.ptr a1 0 0, .ptr c1 0 0, .ptr d1 0 0]]=>match bl m,gy bl 26 s with
      |some M,some (b1,o,n,h)=>some ⟨mD A&&mD C&&mD D&&Nat.beq g 181&&Nat.beq a1 a&&Nat.beq c1 c&&Nat.beq d1 d&&(match M.kd with
       | .mpB=>true
       |_=>false)&&Nat.beq M.n 0&&Nat.beq M.sz 0&&M.nn&&b1&&bW n&&eN.good (λ_=>true) n h&&decide (0<=i)&&decide (i<(b:Int))&&Nat.ble b n&&dH n h,i,a,c,d,m,M,o,eN.list n h⟩
      |_,_=>none
    |_,_,_=>none
   |_,_,_=>none
 |_=>none
def tQ (b:Nat):MCtr:=λbl nx args=>match Bi bl b args with
 |some A=>some {X:=Unit,pre:=A.need,spec:=λ_=>True,out:=λ_=> .tup [],ch:=λ_=> [(A.m,{A.M with get:=λk=> [.val (.bool (cy A.l b (λk=>bt (A.M.get k)) A.i k))]})],ex:=λ_=>⟨(),trivial⟩}
 |none=>none
def mB (g:zdS):Blk:={n:=0,sz:=0,get:=g,kd:= .mpB,nn:=true}
def mpK (Q:SV->Blk->Prop):Aft:=λr bl _ _=>match r with
 | .ok s=>match bl 3 with
   |some B=>Q s B
   |none=>False
 | .pan _=>False
def IM (b:Nat) (l:ze3) (j:Int):Bool:=Nat.ble l.length l.length&&Nat.beq 26 26&&true&&bW l.length&&eN.good (λ_=>true) l.length (eN.get l)&&decide (0<=j)&&decide (j<(b:Int))&&Nat.ble b l.length&&dH l.length (eN.get l)
def gmk (b:Nat) (l:ze3) (g:zdS) (j:Int):zdS:=λk=> [.val (.bool (cy (eN.list l.length (eN.get l)) b (λk=>bt (g k)) j k))]
def CW (b:Nat) (l:ze3) (i:Int) (g:zdS) (j:Int) (K:(zdS)->Prop):Prop:=af (decide (0+i.toNat<l.length)) (af (IM b l j) (Unit->True->K (gmk b l g j)))
def sideT (x:Nd) (two one no:Prop):Prop:=
 ag (x.op==3) (ag (x.op==3) two (tl x one no)) (ag (x.op==4) (ag (x.op==4) two (tl x one no)) (ag (x.op==5) (ag (x.op==5) two (tl x one no)) (ag (x.op==6) two (tl x one no))))
where tl (x:Nd) (one no:Prop):Prop:=ag (x.op==7) (ag (x.op==7) one no) (ag (x.op==8) one no)
def IN (b:Nat) (l:ze3) (f:zdV) (i:Int) (Q:SV->Blk->Prop):Prop:=
 af (decide (0<=i)&&true) (ag (f i.toNat) (Q (.tup []) (mB λk=> [.val (.bool (f k))])) (af (decide (0<=i)) (eO l.length i (
  sideT (mb noN l (0+i.toNat)) (CW b l i (Gc (λk=> [.val (.bool (f k))]) i.toNat) (mb noN l (0+i.toNat)).l λg=>CW b l i g (mb noN l (0+i.toNat)).r λg=>Q (.tup []) (mB g))
   (CW b l i (Gc (λk=> [.val (.bool (f k))]) i.toNat) (mb noN l (0+i.toNat)).l λg=>Q (.tup []) (mB g)) (Q (.tup []) (mB (Gc (λk=> [.val (.bool (f k))]) i.toNat)))))))
theorem LT (b:Nat) (l:ze3) (f:zdV) (i:Int) (Q:SV->Blk->Prop):dk [(181,tQ b)] (λ_ _=>none) 4 181 [.val (.int .i64 i), .ptr 0 0 0, .ptr 1 0 0, .ptr 2 0 0] (ft l f) (mpK Q)=IN b l f i Q:=by kernel_rfl
theorem IO {two one no:Prop} (h2:3<=x.op->x.op<=6->two) (h1:x.op=7\/x.op=8->one) (h0: ¬(3<=x.op/\x.op<=8)->no):sideT x two one no:=by
 have tl: ¬(3<=x.op/\x.op<=6)->sideT.tl x one no:=λhn=>by
  unfold sideT.tl;refine ah (λh=>ah (λ_=>h1 (.inl (int_eq.1 h))) (λk=>by rw[h] at k;cases k)) (λh=>ah (λk=>h1 (.inr (int_eq.1 k))) (λk=>h0 ?_));simp at h k;omega
 unfold sideT;refine ah (λa=>ah (λ_=>h2 (by rw[int_eq.1 a];decide) (by rw[int_eq.1 a];decide)) (λk=>by rw[a] at k;cases k)) (λa=>ah (λb=>ah (λ_=>h2 (by rw[int_eq.1 b];decide) (by rw[int_eq.1 b];decide)) (λk=>by rw[b] at k;cases k)) (λb=>ah (λc=>ah (λ_=>h2 (by rw[int_eq.1 c];decide) (by rw[int_eq.1 c];decide)) (λk=>by rw[c] at k;cases k)) (λc=>ah (λd=>h2 (by rw[int_eq.1 d];decide) (by rw[int_eq.1 d];decide)) (λd=>tl ?_))));simp at a b c d;omega
theorem V5 {h:zdS}:dH n h=true↔ ∀j,j<n->VN j (Vh (h j))=true:=by simp[dH]
theorem bL {j:Nat} (h:VN j x=true): ∀i∈VW x,0<=i/\i<j:=by
 intro i hi;unfold VN at h;have:=zaf.1 h i hi;simpa using this
theorem aQ (h1:3<=x.op) (h2:x.op<=6):VW x= [x.l,x.r]:=by unfold VW;rw[zdx h1,zdx h2];rfl
theorem bF (h:x.op=7\/x.op=8):VW x= [x.l]:=by
 unfold VW;rcases h with h|h<;>rw[h]<;>rfl
theorem l7 (h: ¬(3<=x.op/\x.op<=8)):VW x= []:=by
 unfold VW;have a:(decide (3<=x.op)&&decide (x.op<=6))=false:=by simp;omega
 have b:(decide (7<=x.op)&&decide (x.op<=8))=false:=by simp;omega
 rw[a,b];rfl
variable {b:Nat} {l:ze3}
theorem Bj {f:zdV} {Q:SV->Blk->Prop} (h0:0<=i) (h1:i<((b+1:Nat):Int)) (h2:b+1<=l.length) (h3:l.length<=1000000) (hs: ∀j,j<l.length->VN j (mb noN l j)=true)
 (hQ: ∀g:zdS,(∀k,bt (g k)=cy l (b+1) f i k)->Q (.tup []) (mB g)):IN b l f i Q:=by
 have gl:eN.list l.length (eN.get l)=l:=El.list_get;have sb:dH l.length (eN.get l)=true:=V5.2 λj hj=>by show VN j (Vh (svN (mb noN l j)))=true;exact hs j hj
 have call: ∀{g:zdS} {j:Int} {K:(zdS)->Prop},0<=j->j<i->(∀g',(∀k,bt (g' k)=cy l b (λk=>bt (g k)) j k)->K g')->CW b l i g j K:=λ{g j K} a c k=>by
  refine ac (zdx (by omega)) (ac ?_ λ_ _=>k _ λk=>by unfold gmk;rw[gl];rfl);unfold IM bW;rw[zae (za0 _),zae h3,El.good_get (λ_ _=>rfl),zdx a,zdx (show j<(b:Int) by omega),zae (show b<=l.length by omega),sb];rfl
 unfold IN;refine ac (by rw[zdx h0];rfl) (ah (λhf=>hQ _ λk=> ?_) (λhf=>ac (zdx h0) (aY h0 (by omega) ?_)))
 ·show f k=_;unfold cy;rw[hf];rfl
 ·rw[za7];have hx:=hs i.toNat (by omega);have hm:=bL hx;have start:(λk=>bt (Gc (λk=> [.val (.bool (f k))]) i.toNat k))=λk=>Nat.beq k i.toNat||f k:=rfl
  refine IO (λo1 o2=> ?_) (λo=> ?_) (λo=>hQ _ λk=> ?_)
  ·have e:=aQ o1 o2;rw[e] at hm;have hl:=hm (mb noN l i.toNat).l (by simp);have hr:=hm (mb noN l i.toNat).r (by simp);refine call hl.1 (by omega) λg2 k2=>call hr.1 (by omega) λg3 k3=>hQ g3 λk=> ?_;rw[k3,show (λk=>bt (g2 k))=_ from funext k2,start];rw[cy,hf,e];rfl
  ·have e:=bF o;rw[e] at hm;have hl:=hm (mb noN l i.toNat).l (by simp);refine call hl.1 (by omega) λg2 k2=>hQ g2 λk=> ?_;rw[k2,start];rw[cy,hf,e];rfl
  ·have e:=l7 o;rw[cy,hf,e];rfl
theorem qu {A:MarkA} (h:Bi bl b args=some A) (hn:A.need=true):args= [.val (.int .i64 A.i), .ptr A.a 0 0, .ptr A.c 0 0, .ptr A.d 0 0]/\
 (∃X,bl A.a=some X/\mD X=true/\X.get 0= [.mp A.m])/\(∃X s n g,bl A.c=some X/\mD X=true/\X.get 0= [s]/\gy bl 26 s=some (true,A.o,n,g)/\eN.good (λ_=>true) n g=true/\A.l=eN.list n g/\dH n g=true/\n<=1000000/\b<=n)/\
 (∃X,bl A.d=some X/\mD X=true/\X.get 0= [IL A.a A.c A.d])/\(bl A.m=some A.M/\A.M.kd= .mpB/\A.M.n=0/\A.M.sz=0/\A.M.nn=true)/\0<=A.i/\A.i<(b:Int):=by
 unfold Bi at h;split at h
 ·rename_i i a c d;split at h
  ·rename_i XA XC XD hA hC hD;split at h
   ·rename_i m s g a1 c1 d1 eA eC eD;split at h
    ·rename_i M b1 o n hh hM hs;simp only[za1] at h;subst h;simp only[za2,zdB] at hn;obtain⟨⟨⟨⟨⟨⟨⟨⟨⟨⟨⟨⟨⟨⟨⟨⟨⟨k1,k2⟩,k3⟩,k4⟩,k5⟩,k6⟩,k7⟩,k8⟩,k9⟩,k10⟩,k11⟩,k12⟩,k13⟩,k14⟩,k15⟩,k16⟩,k17⟩,k18⟩:=hn;subst k12;refine⟨rfl,⟨XA,hA,k1,eA⟩,⟨XC,s,n,hh,hC,k2,eC,hs,k14,rfl,k18,zak k13,zak k17⟩,⟨XD,hD,k3, ?_⟩,⟨hM, ?_,zab k9,zab k10,k11⟩,k15,k16⟩
     ·rw[eD,zab k4,zab k5,zab k6,zab k7];rfl
     ·cases hk:M.kd<;>rw[hk] at k8<;>first|rfl|cases k8
    ·cases h
   ·cases h
  ·cases h
 ·cases h
theorem YL {X:Blk} {t:SV} (h:mD X=true) (e:X.get 0= [t]) (hr:s.rn f=some t):wB f (LS s) X:=by
 unfold mD at h;simp only[za2] at h;obtain⟨⟨h1,h2⟩,h3⟩:=h;refine⟨(zab h2).symm,λh=>(by cases h), ?_⟩;show X.kd≠ .gone/\X.kd.map=false/\1<=X.n/\ ∀e,e<1->SV.rns f [s]=some (X.get e);refine⟨λe=>(by rw[e] at h3;cases h3),(by cases hk:X.kd<;>rw[hk] at h3<;>first|rfl|cases h3),zak h1,λk hk=> ?_⟩;obtain rfl:k=0:=by omega
 rw[e];exact ar hr rfl
theorem zn: ∀(b:Nat) (B:Base),GlobB B->VU prog B 181 (tQ b)
 |0=>λB hB bl β w nx args C hbc hnoit hnx hlv hk hp=>by
  exfalso;unfold tQ at hk;split at hk
  ·rename_i A hA;simp only[za1] at hk;subst hk;have:=qu hA hp;omega
  ·cases hk
 |b+1=>eW (gm:= [(181,tQ b)]) (MOk.nil.cons (zn b)) λbl nx args C hk hp=>by
  unfold tQ at hk;split at hk
  ·rename_i A hA;simp only[za1] at hk;subst hk;obtain⟨rfl,⟨XA,a1,a2,a3⟩,⟨XC,s,n,g,c1,c2,c3,c4,c5,c6,c7,c8,c9⟩,⟨XD,d1,d2,d3⟩,⟨m1,m2,m3,m4,m5⟩,i0,i1⟩:=qu hA hp;obtain⟨t1,t2⟩:=cq (f:=rnF [some A.a,some A.c,some A.d,some A.m,A.o] [] nx) c4 c5;have hl:A.l.length=n:=by rw[c6];exact El.list_length
   rw[<-c6] at t1 t2;have isold: ∀{i:Nat} {X:Blk},bl i=some X->X.kd.map=false->i≠A.m:=λ{i X} h1 h2 e=>by
    subst e;rw[m1] at h1;simp only[za1] at h1;subst h1;rw[m2] at h2;cases h2
   have boxm: ∀{X:Blk},mD X=true->X.kd.map=false:=λ{X} h=>by
    unfold mD at h;simp only[za2] at h;have h3:=h.2;cases hk:X.kd<;>rw[hk] at h3<;>first|rfl|cases h3
   have hsides: ∀j,j<A.l.length->VN j (mb noN A.l j)=true:=λj hj=>by
    rw[hl] at hj;have:=V5.1 c7 j hj;rw[c6];show VN j (eN.nth (eN.list n g) j)=true;rw[El.nth_list hj];exact this
   refine⟨[some A.a,some A.c,some A.d,some A.m,A.o],ft A.l (λk=>bt (A.M.get k)), [.val (.int .i64 A.i), .ptr 0 0 0, .ptr 1 0 0, .ptr 2 0 0],(λ_ _=>none),4, ?_, ?_, ?_, ?_, ?_⟩
   ·refine aw (by simp only[j5,a1];exact YL a2 a3 rfl) (aw (by simp only[j5,c1];exact YL c2 c3 (t2 4 rfl)) (aw (by simp only[j5,d1];exact YL d2 d3 rfl) (aw ?_ (aw t1 trivial))));simp only[j5,m1];exact⟨m4.symm,λ_=> .inl m5,m2,rfl,λe=>rfl⟩
   ·intro j k i D hj hk' hD hm;have hk3:k=3:=by
     match k,hD with
     |0,hD=>simp[ft] at hD;subst hD;cases hm
     |1,hD=>simp[ft] at hD;subst hD;cases hm
     |2,hD=>simp[ft] at hD;subst hD;cases hm
     |3,_=>rfl
     |4,hD=>simp[ft] at hD;subst hD;cases hm
     |k+5,hD=>simp[ft] at hD
    subst hk3;simp at hk';subst hk'
    match j,hj with
    |0,hj=>simp at hj;exact absurd hj (isold a1 (boxm a2))
    |1,hj=>simp at hj;exact absurd hj (isold c1 (boxm c2))
    |2,hj=>simp at hj;exact absurd hj (isold d1 (boxm d2))
    |3,_=>rfl
    |4,hj=>
     simp at hj;rw[hj] at t1;simp only[j5,m1] at t1;have:=t1.2.2;simp only[El.old] at this;rw[m2] at this;cases this.2.1
    |j+5,hj=>simp at hj
   ·refine .inr λj D i hD hi hk'=> ?_
    match j,hD with
    |0,hD=>simp[ft] at hD;subst hD;exact⟨za0 _,za0 _⟩
    |1,hD=>simp[ft] at hD;subst hD;exact⟨za0 _,za0 _⟩
    |2,hD=>simp[ft] at hD;subst hD;exact⟨za0 _,za0 _⟩
    |3,hD=>simp[ft] at hD;subst hD;cases hk'
    |4,hD=>simp[ft] at hD;subst hD;exact⟨by show 1<=A.l.length;omega,eN.one⟩
    |k+5,hD=>simp[ft] at hD
   ·rfl
   ·have key: ∀Q:SV->Blk->Prop,(∀g:zdS,(∀k,bt (g k)=cy A.l (b+1) (λk=>bt (A.M.get k)) A.i k)->Q (.tup []) (mB g))->dk [(181,tQ b)] (λ_ _=>none) 4 181 [.val (.int .i64 A.i), .ptr 0 0 0, .ptr 1 0 0, .ptr 2 0 0] (ft A.l λk=>bt (A.M.get k)) (mpK Q):=λQ hQ=>by
     rw[LT];exact Bj i0 i1 (by omega) (by omega) hsides hQ
    refine cQ (key (λs B=>s= .tup []/\ ∃g,B=mB g/\ ∀k,bt (g k)=cy A.l (b+1) (λk=>bt (A.M.get k)) A.i k) λg hg=>⟨rfl,g,rfl,hg⟩) λr bl' m w h=> ?_;unfold mpK at h;cases r with
    |pan v=>exact h.elim
    |ok s=>
     simp only at h;cases h3:bl' 3 with
     |none=>rw[h3] at h;exact h.elim
     |some B=>
      rw[h3] at h;obtain⟨rfl,g,rfl,hg⟩:=h;refine⟨(),trivial, [],⟨_,rfl,rfl⟩,zcG,trivial,rfl, .inr (by simp[m2]), ?_,trivial⟩;simp only[h3];refine .inr ⟨m2,m4,λ_=>rfl,by show A.M.n<=0;omega, ?_⟩;simp only[m2];exact hg
  ·cases hk
def Qb (bl:zdR):List SV->Option Nat
 | [_,_, .ptr c 0 0,_]=>match bl c with
   |some C=>match C.get 0 with
    | [.slc _ 0 n]=>some n
    |_=>none
   |none=>none
 |_=>none
def Bk:MCtr:=λbl nx args=>match Qb bl args with
 |some n=>tQ n bl nx args
 |none=>none
theorem EV: ∀B:Base,GlobB B->VU prog B 181 Bk:=λB hB bl β w nx args C hbc hnoit hnx hlv hk hp=>by
 unfold Bk at hk;split at hk
 ·exact zn _ B hB bl β w nx args C hbc hnoit hnx hlv hk hp
 ·cases hk
def OK:ze0:= [(181,Bk)]
theorem LU:MOk OK:=MOk.nil.cons EV
def bX (l:ze3) (last:Int):zdV:=cy l l.length (λ_=>false) last
def IP (Q:Nat->Blk->Prop):Aft:=λr bl _ _=>match r with
 | .ok (.mp i)=>match bl i with
   |some B=>Q i B
   |none=>False
 |_=>False
def LV (l:ze3) (last:Int) (Q:Nat->Blk->Prop) (i:Nat) (P:Bool):Prop:=af P (Unit->True->Q i (mB λk=> [.val (.bool (cy (eN.list l.length (eN.get l)) l.length (λ_=>false) last k))]))
theorem EW (l:ze3) (last:Int) (Q:Nat->Blk->Prop):dk OK (λ_ _=>none) 4 110 [.slc 0 0 l.length, .val (.int .i64 last)] [eN.old l] (IP Q)=LV l last Q 3 (IM l.length l last):=by kernel_rfl
open Classical in
def rh:MCtr:=λbl nx args=>match args with
 | [s, .val (.int .i64 last)]=>match gy bl 26 s with
   |some (b,o,n,g)=>some {X:=Unit,pre:=b&&bW n&&eN.good (λ_=>true) n g&&decide (0<=last)&&decide (last<(n:Int))&&dH n g,spec:=λ_=>True,out:=λ_=> .mp nx,nw:=λ_=> [Qa (bX (eN.list n g) last)],ex:=λ_=>⟨(),trivial⟩}
   |none=>none
 |_=>none
theorem LW {j:Int} (h3:l.length<=1000000) (a:0<=j) (c:j<(b:Int)) (d:b<=l.length) (hs: ∀j,j<l.length->VN j (mb noN l j)=true):IM b l j=true:=by
 have sb:dH l.length (eN.get l)=true:=V5.2 λj hj=>by show VN j (Vh (svN (mb noN l j)))=true;exact hs j hj
 unfold IM bW;rw[zae (za0 _),zae h3,El.good_get (λ_ _=>rfl),zdx a,zdx c,zae d,sb];rfl
theorem tR: ∀B:Base,GlobB B->VU prog B 110 rh:=eW LU λbl nx args C hk hp=>by
 unfold rh at hk;split at hk
 ·rename_i s last;split at hk
  ·rename_i b o n g hs;simp only[za1] at hk;subst hk;simp only[za2,zdB] at hp;obtain⟨⟨⟨⟨⟨rfl,h1⟩,h2⟩,h3⟩,h4⟩,h5⟩:=hp;obtain⟨t1,t2⟩:=cq (f:=rnF [o] [] nx) hs h2;have hl:(eN.list n g).length=n:=El.list_length;have hsd: ∀j,j<(eN.list n g).length->VN j (mb noN (eN.list n g) j)=true:=λj hj=>by
    rw[hl] at hj;show VN j (eN.nth (eN.list n g) j)=true;rw[El.nth_list hj];exact V5.1 h5 j hj
   refine⟨[o], [eN.old (eN.list n g)], [.slc 0 0 (eN.list n g).length, .val (.int .i64 last)],(λ_ _=>none),4,aw t1 trivial,bH (by simp[cN,El.old]),cd (by simp[El.old,BK.map]),ar (t2 0 rfl) rfl, ?_⟩;have key: ∀Q:Nat->Blk->Prop,Q 3 (mB λk=> [.val (.bool (bX (eN.list n g) last k))])->dk OK (λ_ _=>none) 4 110 [.slc 0 0 (eN.list n g).length, .val (.int .i64 last)] [eN.old (eN.list n g)] (IP Q):=λQ hQ=>by
    rw[EW];refine ac (LW (by rw[hl];exact zak h1) h3 (by rw[hl];exact h4) (za0 _) hsd) λ_ _=> ?_;rw[show eN.list (eN.list n g).length (eN.get (eN.list n g))=eN.list n g from El.list_get];exact hQ
   refine cQ (key (λi B=>i=3/\B=mB λk=> [.val (.bool (bX (eN.list n g) last k))]) ⟨rfl,rfl⟩) λr bl' m w h=> ?_;unfold IP at h;split at h
   ·rename_i i;split at h
    ·rename_i B hB;obtain⟨rfl,rfl⟩:=h;refine⟨(),trivial, [some 3],⟨.mp 3,rfl, ?_⟩,by simp[ck],⟨⟨(show 1<=3 by decide), ?_⟩,trivial⟩,cr (by simp[cN,El.old]) rfl _⟩
     ·simp only[SV.rn,cO];rfl
     ·simp only[hB];exact⟨(by decide:BK.mpB≠BK.gone),λh=>(by cases h), .inr ⟨rfl,rfl,λ_=>rfl,za0 _,λe=>rfl⟩⟩
    ·exact h.elim
   ·exact h.elim
  ·cases hk
 ·cases hk
def OL:ze0:= [(110,rh)]
theorem LX:MOk OL:=MOk.nil.cons tR
abbrev KX:=Int×List Nd×(Nat->Int)
def Nf (A:AS) (t:Nat):Nat:=match A.tm t with
 | .v (.mp i)=>i
 |_=>0
def xm (I:KX->Prop) (N:Int):zdY:=λf k=>bif Nat.beq f 49&&Nat.beq k 5 then some (λA=>{X:=KX,inv:=I,tm:=λx=> [(18, .val (.int .i64 x.1)),(7, .slc A.nx 0 x.2.1.length)],bk:= [(Nf A 6,λx k=> [.val (.int .i64 (x.2.2 k))])],clean:=λp hp x e=>by simp at hp;subst hp;rfl,gr:= [{src:= .slot 7,sz:=26,n:=λx=>x.2.1.length,get:=λx=>eN.get x.2.1}],cleanG:=λg hg x e=>by simp at hg;subst hg;exact eN.ids _,mu:=λx=>(N - x.1).toNat,keep:= [5,6,16,17]}) else none
def sideQ (t o n:Nat) (x:Nd) (two one no:Nat->Prop):Prop:=
 ag (x.op==3) (ag (x.op==3) (two t) (tl o n x one no 0)) (ag (x.op==4) (ag (x.op==4) (two (t+2)) (tl o n x one no 2)) (ag (x.op==5) (ag (x.op==5) (two (t+4)) (tl o n x one no 4)) (ag (x.op==6) (two (t+6)) (tl o n x one no 6))))
where tl (o n:Nat) (x:Nd) (one no:Nat->Prop) (d:Nat):Prop:=ag (x.op==7) (ag (x.op==7) (one (o+d)) (no (n+d))) (ag (x.op==8) (one (o+2+d)) (no (n+2+d)))
def LY (n:Nat) (K:Prop):Prop:=af (decide (0<1)&&decide (0+1<=1)&&decide (n<=n)&&decide ((n+1)*256<=140737488355328)&&true) K
def gv (l:ze3) (v:Nd):zdS:=ct (eN.get l) (λe=>((svN v).drop (e*26)).take 26) l.length 0
def ktM (q ll:Nat) (p:Int) (n:Nat) (us:zdS) (g:zdS) (z:KX):Prop:=
 (TV.v (cI.enc p)=TV.v (cI.enc z.1)/\TV.v (.slc q 0 n)=TV.v (.slc q 0 z.2.1.length)/\tvE (.mp 4)/\tvE (.mp 6)/\tvE (.slc 0 0 ll)/\tvE (cI.enc (ll:Int))/\True)/\(((∀e,iG (g e)=z.2.2 e)/\True)/\(True/\(af (Nat.beq 26 26&&decide (z.2.1.length<=n)) (∀e,e<z.2.1.length->us e=eN.get z.2.1 e)/\True)))
def ktN (I:KX->Prop) (N:Int) (q ll:Nat) (i:Int) (n:Nat) (us g:zdS):Prop:=af (inR .i64 (i+1)) (∃z:KX,I z/\((N - z.1).toNat<(N - i).toNat/\ktM q ll (i+1) n us g z))
def xn (f:Nat->Int):zdS:=λk=> [.val (.int .i64 (f k))]
def ktY (I:KX->Prop) (N:Int) (ll:Nat) (z:KX) (q:Nat) (v:Nd):Prop:=af (decide (0<=z.1)) (LY z.2.1.length (ktN I N q ll z.1 (z.2.1.length+1) (gv z.2.1 v) (Nw (xn z.2.2) z.1.toNat z.2.1.length)))
def IQ (I:KX->Prop) (N:Int) (l:ze3) (last:Int) (KS:Nat->Nat->Blk->Prop):Prop:=
 af (Nat.ble l.length l.length&&Nat.beq 26 26&&true&&bW l.length&&eN.good (λ_=>true) l.length (eN.get l)&&decide (0<=last)&&decide (last<(l.length:Int))&&dH l.length (eN.get l)) (Unit->True->
 (∃z0:KX,I z0/\(((TV.v (cI.enc 0)=TV.v (cI.enc z0.1)/\TV.v (.val (.slice none 0 0))=TV.v (.val (.slice none z0.2.1.length 0))/\tvE (.mp 4)/\tvE (.mp 6)/\tvE (.slc 0 0 l.length)/\tvE (cI.enc (l.length:Int))/\True)/\(((∀e,0=z0.2.2 e)/\True)/\(True/\(z0.2.1.length=0/\True))))/\
   ∀z:KX,I z->ag (decide (z.1<(l.length:Int)))
    (eO l.length z.1 (af (decide (0<=z.1)&&true) (ag (bX (eN.list l.length (eN.get l)) last z.1.toNat)
      (sideQ 76 61 43 (mb noN l (0+z.1.toNat))
        (λq=>af (decide (0<=(mb noN l (0+z.1.toNat)).l)&&true) (af (decide (0<=(mb noN l (0+z.1.toNat)).r)&&true) (ktY I N l.length z q {mb noN l (0+z.1.toNat) with l:=z.2.2 (mb noN l (0+z.1.toNat)).l.toNat,r:=z.2.2 (mb noN l (0+z.1.toNat)).r.toNat})))
        (λq=>af (decide (0<=(mb noN l (0+z.1.toNat)).l)&&true) (ktY I N l.length z q {mb noN l (0+z.1.toNat) with l:=z.2.2 (mb noN l (0+z.1.toNat)).l.toNat}))
        (λq=>ktY I N l.length z q (mb noN l (0+z.1.toNat))))
      (ktN I N 12 l.length z.1 z.2.1.length (eN.get z.2.1) (xn z.2.2)))))
    (KS 12 z.2.1.length {n:=z.2.1.length,sz:=26,get:=eN.get z.2.1,kd:= .own,nn:=false}))))
def xo (KS:Nat->Nat->Blk->Prop):Aft:=λr bl _ _=>match r with
 | .ok (.slc i 0 n)=>match bl i with
   |some B=>KS i n B
   |none=>False
 |_=>False
theorem LZ (I:KX->Prop) (N:Int) (l:ze3) (last:Int) (KS:Nat->Nat->Blk->Prop):dk OL (xm I N) 4 49 [.slc 0 0 l.length, .val (.int .i64 last)] [eN.old l] (xo KS)=IQ I N l last KS:=by kernel_rfl
def dO (num:Nat->Int) (x:Nd):Nd:=bif decide (3<=x.op)&&decide (x.op<=6) then {x with l:=num x.l.toNat,r:=num x.r.toNat} else bif decide (7<=x.op)&&decide (x.op<=8) then {x with l:=num x.l.toNat} else x
def nc (num:Nat->Int) (i:Nat) (z:Int):Nat->Int:=λe=>bif Nat.beq e i then z else num e
def keepL (need:zdV):List Nd->Nat->List Nd->(Nat->Int)->ze3
 | [],_,out,_=>out
 |x::r,i,out,num=>bif need i then keepL need r (i+1) (out++ [dO num x]) (nc num i out.length) else keepL need r (i+1) out num
def cG (l:ze3) (last:Int):ze3:=keepL (bX l last) l 0 [] (λ_=>0)
theorem IR {t o:Nat} {two one no:Nat->Prop} (h2:3<=x.op->x.op<=6-> ∀q,two q) (h1:x.op=7\/x.op=8-> ∀q,one q) (h0: ¬(3<=x.op/\x.op<=8)-> ∀q,no q):sideQ t o n x two one no:=by
 have tl: ∀d,¬(3<=x.op/\x.op<=6)->sideQ.tl o n x one no d:=λd hn=>by
  unfold sideQ.tl;refine ah (λh=>ah (λ_=>h1 (.inl (int_eq.1 h)) _) (λk=>by rw[h] at k;cases k)) (λh=>ah (λk=>h1 (.inr (int_eq.1 k)) _) (λk=>h0 ?_ _));simp at h k;omega
 unfold sideQ;refine ah (λa=>ah (λ_=>h2 (by rw[int_eq.1 a];decide) (by rw[int_eq.1 a];decide) _) (λk=>by rw[a] at k;cases k)) (λa=>ah (λb=>ah (λ_=>h2 (by rw[int_eq.1 b];decide) (by rw[int_eq.1 b];decide) _) (λk=>by rw[b] at k;cases k)) (λb=>ah (λc=>ah (λ_=>h2 (by rw[int_eq.1 c];decide) (by rw[int_eq.1 c];decide) _) (λk=>by rw[c] at k;cases k)) (λc=>ah (λd=>h2 (by rw[int_eq.1 d];decide) (by rw[int_eq.1 d];decide) _) (λd=>tl _ ?_))));simp at a b c d;omega
variable {num:Nat->Int}
theorem oE (h1:3<=x.op) (h2:x.op<=6):dO num x={x with l:=num x.l.toNat,r:=num x.r.toNat}:=by unfold dO;rw[zdx h1,zdx h2];rfl
theorem oF (h:x.op=7\/x.op=8):dO num x={x with l:=num x.l.toNat}:=by
 unfold dO;rcases h with h|h<;>rw[h]<;>rfl
theorem ri (h: ¬(3<=x.op/\x.op<=8)):dO num x=x:=by
 unfold dO;have a:(decide (3<=x.op)&&decide (x.op<=6))=false:=by simp;omega
 have b:(decide (7<=x.op)&&decide (x.op<=8))=false:=by simp;omega
 rw[a,b];rfl
theorem xp (h:n<=1000000) (k:K):LY n K:=ac (by
 rw[zdx (zbT),zdx (show 0+1<=1 by omega),zdx (za0 n),zdx (show (n+1)*256<=140737488355328 by omega)];rfl) k
theorem pO {us:ze3} {u:Nd} {e:Nat} (he:e<us.length+1):gv us u e=eN.get (us++ [u]) e:=by
 unfold gv ct El.get El.nth;rw[aB];show _=svN (mb noN (us++ [u]) e);rw[aS];by_cases h:e<us.length
 ·rw[zdx h,zdz,if_neg (by omega)];rfl
 ·obtain rfl:e=us.length:=by omega
  rw[zdA h,zdy,if_pos rfl,zaJ];rfl
theorem nf (l:ze3): ∀(b:Nat) (f:zdV) (i:Int) (k:Nat),f k=true->cy l b f i k=true
 |0,f,i,k,h=>h
 |b+1,f,i,k,h=>by
  unfold cy;cases hf:f i.toNat with
  |true=>exact h
  |false=>
   rw[zdy];have: ∀(ss:List Int) (f:zdV),f k=true->ss.foldl (λf j=>cy l b f j) f k=true:=by
    intro ss
    induction ss with
    |nil=>exact λ_ h=>h
    |cons s r ih=>exact λf h=>ih _ (nf l b f s k h)
   exact this _ _ (by simp[h])
theorem tS (l:ze3) (b:Nat) (f:zdV) (i:Int):cy l (b+1) f i i.toNat=true:=by
 unfold cy;cases hf:f i.toNat with
 |true=>exact hf
 |false=>
  rw[zdy];have: ∀(ss:List Int) (f:zdV),f i.toNat=true->ss.foldl (λf j=>cy l b f j) f i.toNat=true:=by
   intro ss
   induction ss with
   |nil=>exact λ_ h=>h
   |cons s r ih=>exact λf h=>ih _ (nf l b f s _ h)
  exact this _ _ (by simp[bS])
theorem pP {need:zdV}: ∀{l:ze3} {i:Nat} {out:ze3} {num:Nat->Int},out.length<=(keepL need l i out num).length/\((∃j,j<l.length/\need (i+j)=true)->out.length+1<=(keepL need l i out num).length)/\(keepL need l i out num).length<=out.length+l.length
 | [],i,out,num=>⟨za0 _,λ⟨j,h,_⟩=>(by simp at h),by simp[keepL]⟩
 |x::r,i,out,num=>by
  unfold keepL;cases hn:need i with
  |true=>
   rw[zdz];obtain⟨h1,h2,h3⟩:=pP (need:=need) (l:=r) (i:=i+1) (out:=out++ [dO num x]) (num:=nc num i out.length);simp only[za3,za6,za4,za9] at h1 h2 h3 ⊢;exact⟨by omega,λ_=>by omega,by omega⟩
  |false=>
   rw[zdy];obtain⟨h1,h2,h3⟩:=pP (need:=need) (l:=r) (i:=i+1) (out:=out) (num:=num);simp only[za4];refine⟨h1,λ⟨j,hj,hh⟩=>h2 ?_,by omega⟩;cases j with
   |zero=>rw[zaZ,hn] at hh;cases hh
   |succ j=>exact⟨j,by simpa using hj,by rw[show i+1+j=i+(j+1) by omega];exact hh⟩
variable {last:Int}
theorem pQ (h0:0<=last) (h1:last<l.length):1<=(cG l last).length/\(cG l last).length<=l.length:=by
 obtain⟨_,h2,h3⟩:=pP (need:=bX l last) (l:=l) (i:=0) (out:= []) (num:=λ_=>0)
 refine⟨by
  have:=h2 ⟨last.toNat,by omega,by
   rw[za7];unfold bX
   rw[show l.length=(l.length - 1)+1 by omega];exact tS l _ _ last⟩
  simpa [cG] using this,by simpa [cG] using h3⟩
def ktI (need:zdV) (l:ze3) (z:KX):Prop:=0<=z.1/\z.1<=l.length/\z.2.1.length<=z.1.toNat/\keepL need l 0 [] (λ_=>0)=keepL need (l.drop z.1.toNat) z.1.toNat z.2.1 z.2.2
variable {KS:Nat->Nat->Blk->Prop}
theorem Bl (h0:0<=last) (h1:last<l.length) (h3:l.length<=1000000) (hs: ∀j,j<l.length->VN j (mb noN l j)=true)
 (hK:KS 12 (cG l last).length {n:=(cG l last).length,sz:=26,get:=eN.get (cG l last),kd:= .own,nn:=false}):IQ (ktI (bX l last) l) l.length l last KS:=by
 have gl:eN.list l.length (eN.get l)=l:=El.list_get;have sb:dH l.length (eN.get l)=true:=V5.2 λj hj=>by show VN j (Vh (svN (mb noN l j)))=true;exact hs j hj
 unfold IQ;refine ac ?_ λ_ _=>⟨(0, [],λ_=>0),⟨zat _,by show (0:Int)<=_;omega,za0 _,rfl⟩,⟨⟨rfl,rfl,rfl,rfl,rfl,rfl,trivial⟩,⟨λ_=>rfl,trivial⟩,trivial,rfl,trivial⟩, ?_⟩
 ·unfold bW;rw[zae (za0 _),zae h3,El.good_get (λ_ _=>rfl),zdx h0,zdx h1,sb];rfl
 rintro⟨i,out,num⟩ ⟨k0,k1,k2,k3⟩;dsimp only at k0 k1 k2 k3 ⊢;rw[gl];refine ah (λhz=> ?_) (λhz=> ?_)
 ·have hz:=zdC hz;have hd:l.drop i.toNat=mb noN l i.toNat::l.drop (i+1).toNat:=by
   rw[show (i+1).toNat=i.toNat+1 by omega,zaH (show i.toNat<l.length by omega),bR (zaa _)]
  rw[hd,keepL] at k3;rw[za7];have hx:=bL (hs i.toNat (by omega));have e1:(i+1).toNat=i.toNat+1:=by omega
  rw[e1] at k3;refine aY k0 hz (ac (by rw[zdx k0];rfl) (ah (λhn=> ?_) (λhn=> ?_)))
  ·rw[hn,zdz] at k3;have fin: ∀q v,dO num (mb noN l i.toNat)=v->ktY (ktI (bX l last) l) l.length l.length (i,out,num) q v:=λq v hv=>by
    refine ac (zdx k0) (xp (by dsimp only;omega) (ac (VP.2 (by dsimp only;omega)) ⟨(i+1,out++ [v],nc num i.toNat out.length),⟨by show 0<=i+1;omega,by show i+1<=_;omega,by simp only[za3,za6];omega, ?_⟩,by show (_:Nat)<_;dsimp only;omega,⟨⟨rfl, ?_,rfl,rfl,rfl,rfl,trivial⟩,⟨λe=>rfl,trivial⟩,trivial,ac ?_ (λe he=> ?_),trivial⟩⟩))
    ·dsimp only;rw[e1,k3,hv]
    ·simp only[za3,za6]
    ·simp
    ·simp only[za3,za6] at he;exact pO he
   refine IR (λo1 o2 q=> ?_) (λo q=> ?_) (λo q=>fin q _ (ri o))
   ·rw[aQ o1 o2] at hx;have hl:=hx (mb noN l i.toNat).l (by simp);have hr:=hx (mb noN l i.toNat).r (by simp);exact ac (by rw[zdx hl.1];rfl) (ac (by rw[zdx hr.1];rfl) (fin q _ (oE o1 o2)))
   ·rw[bF o] at hx;have hl:=hx (mb noN l i.toNat).l (by simp);exact ac (by rw[zdx hl.1];rfl) (fin q _ (oF o))
  ·rw[hn,zdy] at k3;refine ac (VP.2 (by omega)) ⟨(i+1,out,num),⟨by show 0<=i+1;omega,by show i+1<=_;omega,by dsimp only;omega,by dsimp only;rw[e1];exact k3⟩,by show (_:Nat)<_;dsimp only;omega,⟨⟨rfl,rfl,rfl,rfl,rfl,rfl,trivial⟩,⟨λ_=>rfl,trivial⟩,trivial,ac (by simp) (λe he=>rfl),trivial⟩⟩
 ·have hz:=zdD hz;rw[show i.toNat=l.length by omega,zbk,keepL] at k3;have e:cG l last=out:=k3;rw[e] at hK;exact hK
def CY:MCtr:=λbl nx args=>match args with
 | [s, .val (.int .i64 last)]=>match gy bl 26 s with
   |some (b,o,n,g)=>some {X:=Unit,pre:=b&&bW n&&eN.good (λ_=>true) n g&&decide (0<=last)&&decide (last<(n:Int))&&dH n g,spec:=λ_=>True,out:=λ_=> .slc nx 0 (cG (eN.list n g) last).length,nw:=λ_=> [eN.own (cG (eN.list n g) last)],ex:=λ_=>⟨(),trivial⟩}
   |none=>none
 |_=>none
theorem tT {b:zdR} (h:xo KS r b m w): ∃i n B,r= .ok (.slc i 0 n)/\b i=some B/\KS i n B:=by
 unfold xo at h;split at h
 ·rename_i i n;split at h
  ·rename_i B hB;exact⟨i,n,B,rfl,hB,h⟩
  ·exact h.elim
 ·exact h.elim
theorem zp: ∀B:Base,GlobB B->VU prog B 49 CY:=eW LX λbl nx args C hk hp=>by
 unfold CY at hk;split at hk
 ·rename_i s last;split at hk
  ·rename_i b o n g hs;simp only[za1] at hk;subst hk;simp only[za2,zdB] at hp;obtain⟨⟨⟨⟨⟨rfl,h1⟩,h2⟩,h3⟩,h4⟩,h5⟩:=hp;obtain⟨t1,t2⟩:=cq (f:=rnF [o] [] nx) hs h2;have hl:(eN.list n g).length=n:=El.list_length;have hsd: ∀j,j<(eN.list n g).length->VN j (mb noN (eN.list n g) j)=true:=λj hj=>by
    rw[hl] at hj;show VN j (eN.nth (eN.list n g) j)=true;rw[El.nth_list hj];exact V5.1 h5 j hj
   have hlen:(eN.list n g).length<=1000000:=by rw[hl];exact zak h1
   have hpos:=pQ (l:=eN.list n g) h3 (by rw[hl];exact h4);refine⟨[o], [eN.old (eN.list n g)], [.slc 0 0 (eN.list n g).length, .val (.int .i64 last)],xm (ktI (bX (eN.list n g) last) (eN.list n g)) (eN.list n g).length,4,aw t1 trivial,bH (by simp[cN,El.old]),cd (by simp[El.old,BK.map]),ar (t2 0 rfl) rfl, ?_⟩;have key: ∀KS:Nat->Nat->Blk->Prop,KS 12 (cG (eN.list n g) last).length {n:=(cG (eN.list n g) last).length,sz:=26,get:=eN.get (cG (eN.list n g) last),kd:= .own,nn:=false}->dk OL (xm (ktI (bX (eN.list n g) last) (eN.list n g)) (eN.list n g).length) 4 49 [.slc 0 0 (eN.list n g).length, .val (.int .i64 last)] [eN.old (eN.list n g)] (xo KS):=λKS hK=>by
    rw[LZ];exact Bl h3 (by rw[hl];exact h4) hlen hsd hK
   refine cQ (key (λi m B=>i=12/\m=(cG (eN.list n g) last).length/\B={n:=(cG (eN.list n g) last).length,sz:=26,get:=eN.get (cG (eN.list n g) last),kd:= .own,nn:=false}) ⟨rfl,rfl,rfl⟩) λr bl' m w h=> ?_;obtain⟨i,m',B,rfl,hB,rfl,rfl,rfl⟩:=tT h;refine⟨(),trivial, [some 12],⟨_,rfl, ?_⟩,by simp[ck],⟨⟨(show 1<=12 by decide), ?_⟩,trivial⟩,cr (by simp[cN,El.old]) rfl _⟩
   ·simp only[SV.rn,cO];rfl
   ·simp only[hB];exact⟨(by decide:BK.own≠BK.gone),λ_=>⟨hpos.1,eN.one⟩,gC rfl rfl (za0 _) λ_ _=>rfl⟩
  ·cases hk
 ·cases hk
end Go.Proofs.YthngoecanpokhaaGreatDoor
namespace Go.Sy
theorem Tj {bl:zdR} {f:ze1} {C:Blk} {o:Option Nat} (h:j5 bl f C o) (hk:C.kd= .old) (hn:1<=C.n):j5 bl f {C with nn:=true} o:=by
 cases o with
 |none=>have:=h.2.1;omega
 |some i=>
  simp only[j5] at h ⊢;cases hb:bl i with
  |none=>rw[hb] at h;exact h
  |some B=>rw[hb] at h;exact⟨h.1,λ_=> .inr hn,h.2.2⟩
end Go.Sy
namespace Go.Proofs.YthngoecanpokhaaGreatDoor
open Go.Proofs.Tryz
open Go Go.RowKit Go.Sy Yk
def kf {α:Type} (E:El α):MCtr:=λbl nx args=>match args with
 | [s]=>match gy bl E.sz s with
   |some (b,_,n,g)=>some {X:=Unit,pre:=b&&bW n&&E.good (λ_=>true) n g&&decide (0<n),spec:=λ_=>True,out:=λ_=> .slc nx 0 n,nw:=λ_=> [E.own (E.list n g)],ex:=λ_=>⟨(),trivial⟩}
   |none=>none
 |_=>none
def tU (sz bs n:Nat) (g:zdS) (KS:Nat->Nat->Blk->Prop):Prop:=
 af (decide (0<n)&&decide (0+n<=n)&&decide (0<=0)&&decide ((0+n)*bs<=140737488355328)&&rL n (λk=>(g (0+k)).all SV.one)) (KS 5 (0+n) {n:=0+n,sz:=sz,get:=ct (je [] sz) g 0 0,kd:= .own})
theorem EY (l:ze3) (KS:Nat->Nat->Blk->Prop):dk [] (λ_ _=>none) 4 112 [.slc 0 0 l.length] [{eN.old l with nn:=true}] (xo KS)=tU 26 256 l.length (eN.get l) KS:=by kernel_rfl
theorem EZ (l:ze3) (KS:Nat->Nat->Blk->Prop):dk [] (λ_ _=>none) 4 46 [.slc 0 0 l.length] [{eN.old l with nn:=true}] (xo KS)=tU 26 256 l.length (eN.get l) KS:=by kernel_rfl
theorem E0 (l:ze2) (KS:Nat->Nat->Blk->Prop):dk [] (λ_ _=>none) 4 48 [.slc 0 0 l.length] [{eU.old l with nn:=true}] (xo KS)=tU 20 192 l.length (eU.get l) KS:=by kernel_rfl
variable {n:Nat}
theorem L1 {f:zdV} (h: ∀k,k<n->f k=true):rL n f=true:=by
 induction n with
 |zero=>rfl
 |succ n ih=>unfold rL;rw[h n (by omega),ih λk hk=>h k (by omega)];rfl
theorem tV {α:Type} {E:El α} {F:FuncId} {bs:Nat} (hone: ∀x,(E.sv x).all SV.one=true) (hbs:bs<=256) (hvc: ∀(l:List α) (KS:Nat->Nat->Blk->Prop),dk [] (λ_ _=>none) 4 F [.slc 0 0 l.length] [{E.old l with nn:=true}] (xo KS)=tU E.sz bs l.length (E.get l) KS):
 ∀B:Base,GlobB B->VU prog B F (kf E):=eW MOk.nil λbl nx args C hk hp=>by
 unfold kf at hk;split at hk
 ·rename_i s;split at hk
  ·rename_i b o n g hs;simp only[za1] at hk;subst hk;simp only[za2,zdB] at hp;obtain⟨⟨⟨rfl,h1⟩,h2⟩,h3⟩:=hp;obtain⟨t1,t2⟩:=cq (f:=rnF [o] [] nx) hs h2;have hl:(E.list n g).length=n:=El.list_length;have hn:n<=1000000:=zak h1;have t1':=Tj t1 rfl (show 1<=(E.list n g).length by omega);refine⟨[o], [{E.old (E.list n g) with nn:=true}], [.slc 0 0 (E.list n g).length],λ_ _=>none,4,aw t1' trivial,bH (by simp[cN,El.old]),cd (by simp[El.old,BK.map]),ar (t2 0 rfl) rfl, ?_⟩;refine cQ (K:=xo λi m B=>i=5/\m=(E.list n g).length/\B={n:=0+(E.list n g).length,sz:=E.sz,get:=ct (je [] E.sz) (E.get (E.list n g)) 0 0,kd:= .own}) ?_ λr bl' m w h=> ?_
   ·rw[hvc];unfold tU;have hb:(0+n)*bs<=256000000:=by rw[za7];exact zb5 hn hbs
    rw[hl];refine ac ?_ ⟨rfl,za7 _,rfl⟩;rw[zdx h3,zdx (show 0+n<=n by omega),zdx (za0 0),zdx (show (0+n)*bs<=140737488355328 by omega),L1 (n:=n) (f:=λk=>(E.get (E.list n g) (0+k)).all SV.one) λk _=>hone _];rfl
   ·obtain⟨i,m',B,rfl,hB,rfl,rfl,rfl⟩:=tT h;refine⟨(),trivial, [some 5],⟨_,rfl, ?_⟩,by simp[ck],⟨⟨(show 1<=5 by decide), ?_⟩,trivial⟩,cr (by simp[cN,El.old]) rfl _⟩
    ·simp only[SV.rn,cO,hl];rfl
    ·simp only[hB];exact⟨(by decide:BK.own≠BK.gone),λ_=>⟨by show 1<=(E.list n g).length;omega,E.one⟩,gC rfl rfl (by show _<=0+(E.list n g).length;omega) λe _=>(by dsimp only;rw[n7 (by omega)];simp)⟩
  ·cases hk
 ·cases hk
theorem Bm: ∀B:Base,GlobB B->VU prog B 112 (kf eN):=tV (λ_=>rfl) (by decide) EY
theorem Bn: ∀B:Base,GlobB B->VU prog B 46 (kf eN):=tV (λ_=>rfl) (by decide) EZ
theorem tW: ∀B:Base,GlobB B->VU prog B 48 (kf eU):=tV (λ_=>rfl) (by decide) E0
def IS (I:CX->Prop) (N:Int):zdY:=λf k=>bif Nat.beq f 113&&Nat.beq k 5 then some (λA=>{X:=CX,inv:=I,tm:=λx=> [(17, .val (.int .i64 x.1)),(4, .slc A.nx 0 x.2.length)],gr:= [{src:= .slot 4,sz:=20,n:=λx=>x.2.length,get:=λx=>eU.get x.2}],cleanG:=λg hg x e=>by simp at hg;subst hg;exact eU.ids _,mu:=λx=>(N - x.1).toNat,keep:= [1,2,15,16]}) else none
def Qc:SV:= .tup [.agg (ci noU), .val (.bool false)]
def Qd (q nn:Nat) (p:Int) (n:Nat) (us:zdS) (z:CX):Prop:=
 (TV.v (cI.enc p)=TV.v (cI.enc z.1)/\TV.v (.slc q 0 n)=TV.v (.slc q 0 z.2.length)/\cg 2/\cg 3/\tvE (.slc 1 0 nn)/\tvE (cI.enc (nn:Int))/\True)/\(True/\(True/\(af (Nat.beq 20 20&&decide (z.2.length<=n)) (∀e,e<z.2.length->us e=eU.get z.2 e)/\True)))
def L2 (I:CX->Prop) (N:Int) (q nn:Nat) (i:Int) (us:ze2) (u:Un):Prop:=af (inR .i64 (i+1)) (∃z:CX,I z/\((N - z.1).toNat<(N - i).toNat/\Qd q nn (i+1) (us.length+1) (ct (eU.get us) (λe=>((ci u).drop (e*20)).take 20) us.length 0) z))
def xq (I:CX->Prop) (N:Int) (q nn:Nat) (i:Int) (us:ze2) (r:Un×Int) (bad:Prop):Prop:=ag (!(r.2==0)) bad (tO us.length (L2 I N q nn i us r.1))
def OM (I:CX->Prop) (N:Int) (inp:ze2) (nn:Nat) (i:Int) (us:ze2) (x:Nd) (bad:Prop):Prop:=
 ag (x.op==2) (eO inp.length x.n (tO us.length (L2 I N 41 nn i us (mb noU inp (0+x.n.toNat))))) (
 ag (x.op==3) (pL us x λa b=>xq I N 52 nn i us (iS a b) bad) (
 ag (x.op==4) (pL us x λa b=>xq I N 54 nn i us (fw a b) bad) (
 ag (x.op==5) (pL us x λa b=>xq I N 56 nn i us (mi a b) bad) (
 ag (x.op==6) (pL us x λa b=>xq I N 58 nn i us (fd a b) bad) (
 ag (x.op==7) (eO us.length x.l (af (aH (mb noU us (0+x.l.toNat))) (xq I N 58 nn i us (jm (mb noU us (0+x.l.toNat)) (x.n,1)) bad))) (
 ag (x.op==8) (eO us.length x.l (af (aH (mb noU us (0+x.l.toNat))) (xq I N 58 nn i us (jm (mb noU us (0+x.l.toNat)) (1,2)) bad))) (
 tO us.length (L2 I N 46 nn i us x.u))))))))
def outT (I:CX->Prop) (N:Int) (inp:ze2) (nod:ze3) (Q:zdW):Prop:=
 ag (decide ((nod.length:Int)>40)) (Q Qc)
 (∃z0:CX,I z0/\(((TV.v (cI.enc 0)=TV.v (cI.enc z0.1)/\TV.v (.val (.slice none 0 0))=TV.v (.val (.slice none z0.2.length 0))/\cg 2/\cg 3/\tvE (.slc 1 0 nod.length)/\tvE (cI.enc (nod.length:Int))/\True)/\(True/\(True/\(z0.2.length=0/\True))))/\
   ∀z:CX,I z->ag (decide (z.1<(nod.length:Int)))
    (eO nod.length z.1 (OM I N inp nod.length z.1 z.2 (mb noN nod (0+z.1.toNat)) (Q Qc)))
    (af (inR .i64 ((z.2.length:Int) - 1)) (eO z.2.length ((z.2.length:Int) - 1) (Q (.tup [.agg (ci (mb noU z.2 (0+((z.2.length:Int) - 1).toNat))), .val (.bool true)]))))))
theorem ON (I:CX->Prop) (N:Int) (id:Int) (inp:ze2) (nod:ze3) (out:Un) (Q:zdW):
 dk [] (IS I N) 6 113 [svP id inp nod out] [eU.old inp,eN.old nod] (Go.Sy.okK λr _ _ _=>Q r)=outT I N inp nod Q:=by kernel_rfl
def ez (inp us:ze2) (x:Nd):Un×Int:=
 bif x.op==2 then(mb noU inp x.n.toNat,0) else
 bif x.op==3 then iS (mb noU us x.l.toNat) (mb noU us x.r.toNat) else
 bif x.op==4 then fw (mb noU us x.l.toNat) (mb noU us x.r.toNat) else
 bif x.op==5 then mi (mb noU us x.l.toNat) (mb noU us x.r.toNat) else
 bif x.op==6 then fd (mb noU us x.l.toNat) (mb noU us x.r.toNat) else
 bif x.op==7 then jm (mb noU us x.l.toNat) (x.n,1) else
 bif x.op==8 then jm (mb noU us x.l.toNat) (1,2) else(x.u,0)
def lA (inp:ze2):List Nd->List Un->Option (ze2)
 | [],us=>some us
 |x::r,us=>bif (ez inp us x).2==0 then lA inp r (us++ [(ez inp us x).1]) else none
def fO (p:Pr):Un×Bool:=bif decide ((p.nod.length:Int)>40) then(noU,false) else match lA p.inp p.nod [] with
 |some us=>(ly us,true)
 |none=>(noU,false)
def nodeIn (ni j:Nat) (x:Nd):Bool:=VN j x&&(bif x.op==2 then decide (0<=x.n)&&decide (x.n<(ni:Int)) else true)
def nodesIn (p:Pr):Bool:=(List.range p.nod.length).all λj=>nodeIn p.inp.length j (mb noN p.nod j)
variable {p:Pr}
theorem Wk:nodesIn p=true↔ ∀j,j<p.nod.length->nodeIn p.inp.length j (mb noN p.nod j)=true:=by simp[nodesIn]
def Qe (inp:ze2) (nod:ze3) (z:CX):Prop:=0<=z.1/\z.1<=nod.length/\z.2.length=z.1.toNat/\(∀u∈z.2,szB u=true)/\lA inp nod []=lA inp (nod.drop z.1.toNat) z.2
variable {nn:Nat} {us:ze2}
theorem L3 {q:Nat} {p:Int} {u:Un}:Qd q nn p (us.length+1) (ct (eU.get us) (λe=>((ci u).drop (e*20)).take 20) us.length 0) (p,us++ [u]):=by
 obtain⟨_,_,_,h,_⟩:=CQ (m:=0) (c:=0) (q:=q) (ni:=0) (nn:=nn) (p:=p) (us:=us) (u:=u);refine⟨⟨rfl, ?_,rfl,rfl,rfl,rfl,trivial⟩,trivial,trivial,h,trivial⟩;simp
variable {inp:ze2} {x:Nd}
theorem zq (hx:szN x=true) (hi: ∀u∈inp,szB u=true) (hu: ∀u∈us,szB u=true):szB (ez inp us x).1=true:=by
 unfold szN at hx;rw[za2] at hx;have n:=λe=>eH hu e;unfold ez;cases x.op==2 with
 |true=>exact eH hi _
 |false=>cases x.op==3 with
  |true=>exact zk (n _) (n _)
  |false=>cases x.op==4 with
   |true=>exact oD (n _)
   |false=>cases x.op==5 with
    |true=>exact CK _ _
    |false=>cases x.op==6 with
     |true=>exact oA _ _
     |false=>cases x.op==7 with
      |true=>exact re (n _) _
      |false=>cases x.op==8;exact hx.2;exact re (n _) _
variable {N i:Int}
theorem L4 {I:CX->Prop} {bad:Prop} (hu: ∀u∈us,szB u=true) (hl:us.length<=1000000) (hx:nodeIn inp.length us.length x=true)
 (hn:((ez inp us x).2==0)=false->bad) (hs:((ez inp us x).2==0)=true-> ∀q,L2 I N q nn i us (ez inp us x).1):OM I N inp nn i us x bad:=by
 unfold nodeIn at hx;rw[za2] at hx;have hsd:=bL hx.1;have E: ∀{r:Un×Int} {q:Nat},ez inp us x=r->xq I N q nn i us r bad:=λ{r q} h=>by
  rw[h] at hn hs;refine ah (λk=>hn (by simpa using k)) (λk=>fV hl (hs (by simpa using k) q))
 have two: ∀(f:Un->Un->Un×Int) (q:Nat),3<=x.op->x.op<=6->ez inp us x=f (mb noU us x.l.toNat) (mb noU us x.r.toNat)->pL us x λa b=>xq I N q nn i us (f a b) bad:=λf q o1 o2 h=>by
  rw[aQ o1 o2] at hsd;have a:=hsd x.l (by simp);have b:=hsd x.r (by simp);unfold pL;rw[za7,za7];exact aY a.1 a.2 (aY b.1 b.2 (ac (by rw[eH hu,eH hu];rfl) (E h)))
 have one: ∀(q:Nat) (f:Un->Un×Int),(x.op=7\/x.op=8)->ez inp us x=f (mb noU us x.l.toNat)->eO us.length x.l (af (aH (mb noU us (0+x.l.toNat))) (xq I N q nn i us (f (mb noU us (0+x.l.toNat))) bad)):=λq f o h=>by
  rw[bF o] at hsd;have a:=hsd x.l (by simp);rw[za7];exact aY a.1 a.2 (ac (eH hu _) (E h))
 unfold OM;refine ah (λo2=> ?_) (λo2=>ah (λo3=>two iS 52 ?_ ?_ ?_) (λo3=>ah (λo4=>two fw 54 ?_ ?_ ?_) (λo4=>ah (λo5=>two mi 56 ?_ ?_ ?_) (λo5=>ah (λo6=>two fd 58 ?_ ?_ ?_) (λo6=>ah (λo7=>one 58 (λu=>jm u (x.n,1)) (.inl (int_eq.1 o7)) ?_) (λo7=>ah (λo8=>one 58 (λu=>jm u (1,2)) (.inr (int_eq.1 o8)) ?_) (λo8=> ?_)))))))
 ·have h:=hx.2;rw[o2,zdz,za2,zdB,zdB] at h;have e:ez inp us x=(mb noU inp x.n.toNat,0):=by unfold ez;rw[o2];rfl
  rw[za7];rw[e] at hs;exact aY h.1 h.2 (fV hl (hs rfl 41))
 ·have:=int_eq.1 o3;omega
 ·have:=int_eq.1 o3;omega
 ·unfold ez;rw[o2,o3];rfl
 ·have:=int_eq.1 o4;omega
 ·have:=int_eq.1 o4;omega
 ·unfold ez;rw[o2,o3,o4];rfl
 ·have:=int_eq.1 o5;omega
 ·have:=int_eq.1 o5;omega
 ·unfold ez;rw[o2,o3,o4,o5];rfl
 ·have:=int_eq.1 o6;omega
 ·have:=int_eq.1 o6;omega
 ·unfold ez;rw[o2,o3,o4,o5,o6];rfl
 ·unfold ez;rw[o2,o3,o4,o5,o6,o7];rfl
 ·unfold ez;rw[o2,o3,o4,o5,o6,o7,o8];rfl
 ·have e:ez inp us x=(x.u,0):=by unfold ez;rw[o2,o3,o4,o5,o6,o7,o8];rfl
  rw[e] at hs;exact fV hl (hs rfl 46)
theorem E3 {Q:zdW} (hsz:cw p=true) (h1:1<=p.nod.length) (hin:nodesIn p=true) (hQ:Q (.tup [.agg (ci (fO p).1), .val (.bool (fO p).2)])):outT (Qe p.inp p.nod) p.nod.length p.inp p.nod Q:=by
 unfold cw at hsz;simp only[za2,zaf] at hsz;obtain⟨⟨si,sn⟩,so⟩:=hsz;have hin:=Wk.1 hin;unfold outT;refine ah (λh=> ?_) (λh=> ?_)
 ·rw[show fO p=(noU,false) by unfold fO;rw[h];rfl] at hQ;exact hQ
 ·have hF:fO p=match lA p.inp p.nod [] with
   |some us=>(ly us,true)
   |none=>(noU,false):=by unfold fO;rw[h];rfl
  have h40:=zdD h;refine⟨(0, []),⟨zat _,by show (0:Int)<=_;omega,rfl,λu h=>(by cases h),rfl⟩,⟨⟨rfl,rfl,rfl,rfl,rfl,rfl,trivial⟩,trivial,trivial,rfl,trivial⟩, ?_⟩;rintro⟨i,us⟩ ⟨k0,k1,k2,k3,k4⟩;simp only at k0 k1 k2 k3 k4;dsimp only;refine ah (λhz=> ?_) (λhz=> ?_)
  ·have hz:i<(p.nod.length:Int):=zdC hz;rw[za7];have hd:p.nod.drop i.toNat=mb noN p.nod i.toNat::p.nod.drop (i+1).toNat:=by
    rw[show (i+1).toNat=i.toNat+1 by omega,zaH (show i.toNat<p.nod.length by omega),bR (zaa _)]
   have hx:=sn _ (bw (d:=noN) (l:=p.nod) (e:=i.toNat) (by omega));rw[hd,lA] at k4;refine aY k0 hz (L4 k3 (by omega) (by rw[k2];exact hin _ (by omega)) (λhn=> ?_) (λhn q=> ?_))
   ·rw[hn,zdy] at k4;rw[hF,k4] at hQ;exact hQ
   ·rw[hn,zdz] at k4;refine ac (VP.2 (by omega)) ⟨(i+1,us++ [_]),⟨by show 0<=i+1;omega,by show i+1<=_;omega,by simp only[za3,za6];omega, ?_,k4⟩,by show (_:Nat)<_;omega,L3⟩;intro v hv;rcases za8.1 hv with hv|hv
    ·exact k3 v hv
    ·rw[zaj.1 hv];exact zq hx si k3
  ·have hz: ¬i<(p.nod.length:Int):=zdD hz;rw[show i.toNat=p.nod.length by omega,zbk,lA] at k4;rw[hF,k4] at hQ;refine ac (VP.2 (by omega)) (aY (by omega) (by omega) ?_);have e:(0+((us.length:Int) - 1).toNat)=us.length - 1:=by omega
   rw[e];exact hQ
def xr:MCtr:=λbl nx args=>match args with
 | [s]=>match mC bl s with
   |some a=>some {X:=Unit,pre:=a.need&&(decide (1<=a.p.nod.length)&&nodesIn a.p),spec:=λ_=>True,out:=λ_=> .tup [.agg (ci (fO a.p).1), .val (.bool (fO a.p).2)],ex:=λ_=>⟨(),trivial⟩}
   |none=>none
 |_=>none
theorem Bo: ∀B:Base,GlobB B->VU prog B 113 xr:=eW MOk.nil λbl nx args C hk hp=>by
 unfold xr at hk;split at hk
 ·rename_i s;split at hk
  ·rename_i a ha;simp only[za1] at hk;subst hk;simp only[za2,zdB] at hp;obtain⟨hp,h1,h2⟩:=hp;obtain⟨s1,s2,s3,s4,s5,s6⟩:=eX (f:=rnF [a.o1,a.o2] [] nx) ha hp rfl rfl;refine⟨[a.o1,a.o2],iK a.p, [kB a.p],IS (Qe a.p.inp a.p.nod) a.p.nod.length,6,aw s1 (aw s2 trivial),bH (cx _),cd (jG _),by simp only[SV.rns,s3], ?_⟩;refine lz () trivial rfl (r:= .tup [.agg (ci (fO a.p).1), .val (.bool (fO a.p).2)]) ?_ rfl rfl rfl (cx _) rfl ?_
   ·simp only[SV.ids,SV.idss,fj,zbg]
   ·unfold kB iK;rw[ON];exact E3 s4 h1 h2 rfl
  ·cases hk
 ·cases hk
def ax (op:Int):Nat:=bif decide (3<=op)&&decide (op<=6) then 2 else bif decide (7<=op)&&decide (op<=8) then 1 else 0
def OO (l:zdQ):Int:=match l with
 | .val (.int _ z)::_=>z
 |_=>0
def xt (j:Nat) (op:Int):Blk:={n:=ax op,sz:=1,get:=λk=>bif Nat.beq k 0 then [.ptr j 0 24] else [.ptr j 0 25],kd:= .own,nn:=false}
open Classical in
def tX:MCtr:=λbl nx args=>match args with
 | [.ptr j 0 0]=>match bl j with
   |some B=>some {X:=Unit,pre:=Nat.ble 1 B.n&&Nat.beq B.sz 26&&pa B.kd&&decide (B.get 0=svN (Vh (B.get 0))),spec:=λ_=>True,out:=λ_=> .slc nx 0 (ax (OO (B.get 0))),nw:=λ_=> [xt j (OO (B.get 0))],ex:=λ_=>⟨(),trivial⟩}
   |none=>none
 |_=>none
def L5 (KS:Nat->Nat->Blk->Prop) (Q:Prop):Aft:=λr bl _ _=>match r with
 | .ok (.slc i 0 n)=>match bl i with
   |some B=>KS i n B
   |none=>False
 | .ok (.val (.slice none 0 0))=>Q
 |_=>False
theorem IT (x:Nd) (KS:Nat->Nat->Blk->Prop) (Q:Prop):dk [] (λ_ _=>none) 4 62 [.ptr 0 0 0] [{n:=1,sz:=26,get:=λ_=>svN x,kd:= .old,nn:=false}] (L5 KS Q)=
 sideQ 14 13 0 x (λq=>KS q 2 {n:=2,sz:=1,get:=je [.ptr 0 0 24, .ptr 0 0 25] 1,kd:= .own}) (λq=>KS q 1 {n:=1,sz:=1,get:=je [.ptr 0 0 24] 1,kd:= .own}) (λ_=>Q):=by kernel_rfl
variable {r:Res} {b:zdR} {m:Nat} {w:List Nat}
theorem Bp {KS:Nat->Nat->Blk->Prop} {Q:Prop} (h:L5 KS Q r b m w):(∃i n B,r= .ok (.slc i 0 n)/\b i=some B/\KS i n B)\/(r= .ok (.val (.slice none 0 0))/\Q):=by
 unfold L5 at h;split at h
 ·rename_i i n;split at h
  ·rename_i B hB;exact .inl ⟨i,n,B,rfl,hB,h⟩
  ·exact h.elim
 ·exact .inr ⟨rfl,h⟩
 ·exact h.elim
theorem E5 {t o:Nat} {two one no:Nat->Prop} (h2:3<=x.op->x.op<=6-> ∀q,t<=q->two q) (h1:x.op=7\/x.op=8-> ∀q,o<=q->one q) (h0: ¬(3<=x.op/\x.op<=8)-> ∀q,n<=q->no q):sideQ t o n x two one no:=by
 have tl: ∀d,¬(3<=x.op/\x.op<=6)->sideQ.tl o n x one no d:=λd hn=>by
  unfold sideQ.tl;refine ah (λh=>ah (λ_=>h1 (.inl (int_eq.1 h)) _ (by omega)) (λk=>by rw[h] at k;cases k)) (λh=>ah (λk=>h1 (.inr (int_eq.1 k)) _ (by omega)) (λk=>h0 ?_ _ (by omega)));simp at h k;omega
 unfold sideQ;refine ah (λa=>ah (λ_=>h2 (by rw[int_eq.1 a];decide) (by rw[int_eq.1 a];decide) _ (za0 _)) (λk=>by rw[a] at k;cases k)) (λa=>ah (λb=>ah (λ_=>h2 (by rw[int_eq.1 b];decide) (by rw[int_eq.1 b];decide) _ (by omega)) (λk=>by rw[b] at k;cases k)) (λb=>ah (λc=>ah (λ_=>h2 (by rw[int_eq.1 c];decide) (by rw[int_eq.1 c];decide) _ (by omega)) (λk=>by rw[c] at k;cases k)) (λc=>ah (λd=>h2 (by rw[int_eq.1 d];decide) (by rw[int_eq.1 d];decide) _ (by omega)) (λd=>tl _ ?_))));simp at a b c d;omega
theorem pR: ∀B:Base,GlobB B->VU prog B 62 tX:=eW MOk.nil λbl nx args C hk hp=>by
 unfold tX at hk;split at hk
 ·rename_i j;split at hk
  ·rename_i B hB;simp only[za1] at hk;subst hk;simp only[za2,zdB] at hp;obtain⟨⟨⟨p1,p2⟩,p3⟩,p4⟩:=hp;obtain⟨x,p4⟩: ∃x,B.get 0=svN x:=⟨_,p4⟩;have hop:OO (B.get 0)=x.op:=by rw[p4];rfl
   have hsrc:wB (rnF [some j] [] nx) {n:=1,sz:=26,get:=λ_=>svN x,kd:= .old,nn:=false} B:=by
    refine⟨(zab p2).symm,λh=>(by cases h), ?_⟩;refine⟨λe=>(by rw[e] at p3;cases p3),(by cases hk:B.kd<;>rw[hk] at p3<;>first|rfl|cases p3),zak p1,λe he=> ?_⟩;obtain rfl:e=0:=by simpa using he
    rw[rns_free (j4 x),p4]
   refine⟨[some j], [{n:=1,sz:=26,get:=λ_=>svN x,kd:= .old,nn:=false}], [.ptr 0 0 0],λ_ _=>none,4,⟨by simp only[hB];exact hsrc,trivial⟩,bH (by simp[cN]),cd (by simp[BK.map]),rfl, ?_⟩;have n2:3<=x.op->x.op<=6->ax x.op=2:=λa b=>by unfold ax;rw[zdx a,zdx b];rfl
   have n1:x.op=7\/x.op=8->ax x.op=1:=λa=>by rcases a with a|a<;>rw[a]<;>rfl
   have n0: ¬(3<=x.op/\x.op<=8)->ax x.op=0:=λh=>by
    unfold ax;have a:(decide (3<=x.op)&&decide (x.op<=6))=false:=by simp;omega
    have b:(decide (7<=x.op)&&decide (x.op<=8))=false:=by simp;omega
    rw[a,b];rfl
   refine cQ (K:=L5 (λi n B=>1<=i/\n=ax x.op/\1<=n/\n<=B.n/\B.sz=1/\B.kd= .own/\B.nn=true/\ ∀e,e<n->B.get e=bif Nat.beq e 0 then [.ptr 0 0 24] else [.ptr 0 0 25]) (ax x.op=0)) ?_ λr bl' m w h=> ?_
   ·rw[IT];refine E5 (λa b q hq=>⟨by omega,(n2 a b).symm,by omega,za0 _,rfl,rfl,rfl,λe he=> ?_⟩) (λa q hq=>⟨by omega,(n1 a).symm,by omega,za0 _,rfl,rfl,rfl,λe he=> ?_⟩) (λh _ _=>n0 h)
    ·obtain rfl|rfl:e=0\/e=1:=by omega
     ·rfl
     ·rfl
    ·obtain rfl:e=0:=by omega
     rfl
   ·rcases Bp h with ⟨i,n,N,rfl,hN,h0,rfl,h1,h2,h3,h4,h5,h6⟩|⟨rfl,h0⟩
    ·refine⟨(),trivial, [some i],⟨_,rfl, ?_⟩,by simp[ck],⟨⟨h0, ?_⟩,trivial⟩,cr (by simp[cN]) rfl _⟩
     ·simp only[SV.rn,cO,hop];rfl
     ·simp only[hN,hop];refine⟨by simp[xt],λ_=>⟨h1,za0 1⟩, .inr ⟨h4.symm,h3.symm,λh=>(by cases h),h2,λe he=> ?_⟩⟩;rw[h6 e he];show _=some (bif Nat.beq e 0 then [SV.ptr j 0 24] else [SV.ptr j 0 25]);cases Nat.beq e 0<;>rfl
    ·refine⟨(),trivial, [none],⟨_,rfl, ?_⟩,by simp[ck],⟨⟨rfl,by simp only[xt,hop,h0],rfl⟩,trivial⟩,cr (by simp[cN]) rfl _⟩;simp only[SV.rn,cO,hop,h0];rfl
  ·cases hk
 ·cases hk
def Qf:ze0:= [(62,tX),(112,kf eN),(46,kf eN),(48,kf eU),(49,CY),(113,xr),(15,pN)]
theorem L6:MOk Qf:=((((((MOk.nil.cons lZ).cons Bo).cons zp).cons tW).cons Bn).cons Bm).cons pR
abbrev DX:=Int×List Nd×List Int
def uG (d:List Int):zdS:=λe=> [.val (.int .i64 (mb 0 d e))]
abbrev SX:=Int×Int×Int
def qv (A:AS) (t:Nat):zdS:=match A.tm t with
 | .v (.ptr i _ _)=>(match A.bl i with
   |some B=>B.get
   |none=>λ_=> [])
 | .v (.slc i _ _)=>(match A.bl i with
   |some B=>B.get
   |none=>λ_=> [])
 |_=>λ_=> []
def Bq (x:Nd) (d:zdS) (z:SX):Prop:=0<=z.1/\z.1<=ax x.op/\z.2.1=(bif decide (1<=z.1) then iG (d x.l.toNat) else -1)/\z.2.2=(bif decide (2<=z.1) then iG (d x.r.toNat) else -1)
def IU (I:DX->Prop) (N:Int):zdY:=λf k=>bif Nat.beq f 47&&Nat.beq k 4 then some (λA=>{X:=DX,inv:=I,tm:=λx=> [(18, .val (.int .i64 x.1)),(5, .slc (A.nx+1) 0 x.2.2.length)],st:= [(kA A 0,λx=> [.slc A.nx 0 x.2.1.length])],gr:= [{src:= .cell (kA A 0) 0 0,sz:=26,n:=λx=>x.2.1.length,get:=λx=>eN.get x.2.1},{src:= .slot 5,sz:=1,n:=λx=>x.2.2.length,get:=λx=>uG x.2.2}],cleanG:=λg hg x e=>(by simp at hg;rcases hg with rfl|rfl;exact eN.ids _;rfl),mu:=λx=>(N - x.1).toNat,keep:= [0,1,6,16,17]})
 else bif Nat.beq f 47&&Nat.beq k 8 then some (λA=>{X:=SX,inv:=Bq (Vh (qv A 8 0)) (qv A 5),tm:=λx=> [(28, .val (.int .i64 x.1))],st:= [(kA A 9,λx=>(qv A 9 0).take 27++ [.val (.int .i64 x.2.1), .val (.int .i64 x.2.2)])],mu:=λx=>(3 - x.1).toNat,keep:= [0,1,5,6,7,8,9,16,17,18,26,27],sp:= [λ_=>(0, -1, -1),λx=>(1,x.2.1, -1),λx=>(2,x.2)]})
 else none
def ratioU:Un:=(fd (aT 0) (aT 0)).1
def pureF (n:Int):Nd:=⟨1,(rMk n 1).1,ratioU,0,0,0⟩
def opN (op l r:Int):Nd:=⟨op,VI,noU,0,l,r⟩
structure DIds where
 h:Nat
 c:Nat
 m:Nat
 l:Nat
 d:Nat
 x:Nat
 t:Nat
 s:Nat
 b:Nat
def Ng (g:zdS) (n:Nat) (v:Nd):zdS:=ct g (λe=>((svN v).drop (e*26)).take 26) n 0
def gh (g:zdS) (n:Nat) (v:Nd) (K:(zdS)->Nat->Int->Prop):Prop:=LY n (af (inR .i64 (((n+1:Nat):Int) - 1)) (K (Ng g n v) (n+1) (((n+1:Nat):Int) - 1)))
def Qg (n:Nat) (K:Prop):Prop:=af (decide (0<1)&&decide (0+1<=1)&&decide (n<=n)&&decide ((n+1)*8<=140737488355328)&&true) K
def QK (D:DIds) (q1 q2:Nat) (input:Int) (nn:Nat) (p:Int) (dn:Nat) (ds:zdS) (n:Nat) (g:zdS) (z:DX):Prop:=
 (TV.v (cI.enc p)=TV.v (cI.enc z.1)/\TV.v (.slc q2 0 dn)=TV.v (.slc q2 0 z.2.2.length)/\cg D.h/\tvE (cI.enc input)/\tvE (.mp D.m)/\tvE (.slc D.c 0 nn)/\tvE (cI.enc (nn:Int))/\True)/\(True/\(([SV.slc q1 0 n]= [SV.slc q1 0 z.2.1.length]/\True)/\
   (af (Nat.beq 26 26&&decide (z.2.1.length<=n)) (∀e,e<z.2.1.length->g e=eN.get z.2.1 e)/\(af (Nat.beq 1 1&&decide (z.2.2.length<=dn)) (∀e,e<z.2.2.length->ds e=uG z.2.2 e)/\True))))
def tY (D:DIds) (I:DX->Prop) (N:Int) (input:Int) (nn:Nat) (i:Int) (d:List Int) (q1 q2:Nat) (g:zdS) (n:Nat) (v:Int):Prop:=
 Qg d.length (af (inR .i64 (i+1)) (∃z:DX,I z/\((N - z.1).toNat<(N - i).toNat/\QK D q1 q2 input nn (i+1) (d.length+1) (ct (uG d) (je [SV.val (.int .i64 v)] 1) d.length 0) n g z)))
def jI (a b:Int):Int:=if b>a then b else a
def derRest (D:DIds) (I:DX->Prop) (N:Int) (input:Int) (nn:Nat) (z:DX) (x:Nd) (b:Nat) (dl dr:Int):Prop:=
 let i:=z.1
 let g:=eN.get z.2.1
 let n:=z.2.1.length
 let F:=tY D I N input nn i z.2.2
 ag (bif x.op==2 then x.n==input else false) (gh g n (pureF 1) λg n v=>F (b+16) (b+25) g n v)
 (ag (bif dl== -1 then dr== -1 else false) (F D.l b g n (-1))
 (ag (x.op==3) (ag (bif dl== -1 then true else dr== -1) (F D.l (b+21) g n (jI dl dr)) (gh g n (opN 3 dl dr) λg n v=>F (b+28) (b+39) g n v))
 (ag (x.op==4) (ag (-1==dr) (F D.l (b+14) g n dl) (ag (-1==dl) (gh g n (pureF (-1)) λg n c=>gh g n (opN 5 c dr) λg n v=>F (b+66) (b+78) g n v) (gh g n (opN 4 dl dr) λg n v=>F (b+28) (b+39) g n v)))
 (ag (x.op==5) (ag (dl != -1)
     (gh g n (opN 5 dl x.r) λg n one=>ag (dr != -1)
       (gh g n (opN 5 x.l dr) λg n two=>ag (bif one== -1 then true else two== -1) (F (b+54) (b+75) g n (jI one two)) (gh g n (opN 3 one two) λg n v=>F (b+82) (b+93) g n v))
       (ag (bif one== -1 then true else(-1:Int)== -1) (F (b+26) (b+50) g n (jI one (-1))) (gh g n (opN 3 one (-1)) λg n v=>F (b+57) (b+68) g n v)))
     (ag (dr != -1) (gh g n (opN 5 x.l dr) λg n two=>F (b+29) (b+50) g n (jI (-1) two)) (F D.l (b+25) g n (-1))))
 (ag (x.op==6) (ag (dr== -1) (gh g n (opN 6 dl x.r) λg n v=>F (b+24) (b+35) g n v)
     (gh g n (opN 5 i dr) λg n top=>ag (dl== -1)
       (gh g n (opN 6 top x.r) λg n dv=>gh g n (pureF (-1)) λg n c=>gh g n (opN 5 c dv) λg n v=>F (b+109) (b+121) g n v)
       (gh g n (opN 4 dl top) λg n s=>gh g n (opN 6 s x.r) λg n v=>F (b+63) (b+73) g n v)))
 (ag (x.op==7) (ag (x.n==1) (F D.l (b+19) g n dl)
     (ag (decide (x.n>2)) (af (inR .i64 (x.n - 1)) (gh g n ⟨7,VI,noU,x.n - 1,x.l,0⟩ λg n base=>powR x dl g n base (F (b+109) (b+119))))
     (ag (decide (x.n<0)) (gh g n (opN 6 i x.l) λg n base=>powR x dl g n base (F (b+118) (b+128))) (powR x dl g n x.l (F (b+93) (b+103))))))
 (af (x.op==8) (gh g n (pureF 2) λg n c=>gh g n (opN 5 c i) λg n m=>gh g n (opN 6 dl m) λg n v=>F (b+74) (b+84) g n v))))))))
where powR (x:Nd) (dl:Int) (g:zdS) (n:Nat) (base:Int) (F:(zdS)->Nat->Int->Prop):Prop:=af (uInt x.n&&uInt 1) (gh g n (pureF x.n) λg n c=>gh g n (opN 5 c base) λg n m=>gh g n (opN 5 m dl) λg n v=>F g n v)
def Qh (D:DIds) (input:Int) (nn:Nat) (z:DX) (x:Nd) (p dl dr:Int) (y:SX):Prop:=
 (TV.v (cI.enc p)=TV.v (cI.enc y.1)/\cg D.h/\tvE (cI.enc input)/\tvE (.slc D.d 0 z.2.2.length)/\tvE (.mp D.m)/\tvE (cI.enc z.1)/\cg D.x/\cg D.t/\tvE (.slc D.c 0 nn)/\tvE (cI.enc (nn:Int))/\tvE (cI.enc z.1)/\tvE (.slc D.s 0 (ax x.op))/\tvE (cI.enc (ax x.op:Int))/\True)/\(True/\((svN x++ [.val (.int .i64 z.1), .val (.int .i64 dl), .val (.int .i64 dr)]=svN x++ [.val (.int .i64 z.1), .val (.int .i64 y.2.1), .val (.int .i64 y.2.2)]/\True)/\True))
def Nh (D:DIds) (input:Int) (nn:Nat) (z:DX) (x:Nd) (k dl dr:Int):Prop:= ∃y:SX,Bq x (uG z.2.2) y/\((3 - y.1).toNat<(3 - k).toNat/\Qh D input nn z x (k+1) dl dr y)
open Classical in
def rj (D:DIds) (I:DX->Prop) (N:Int) (input:Int) (nn:Nat) (z:DX) (x:Nd):Prop:=
 af (Nat.ble 1 1&&Nat.beq 26 26&&true&&decide (svN x=svN (Vh (svN x)))) (Unit->True->
 ∃y0:SX,Bq x (uG z.2.2) y0/\(Qh D input nn z x 0 (-1) (-1) y0/\
  ((∀y:SX,Bq x (uG z.2.2) y->(0, -1, -1)=y\/(1,y.2.1, -1)=y\/(2,y.2)=y\/False)/\
  ((∀y:SX,Bq x (uG z.2.2) (0, -1, -1)->ag (decide (0<(ax x.op:Int))) (eO (ax x.op) 0 (eO z.2.2.length x.l (Nh D input nn z x 0 (mb 0 z.2.2 (0+x.l.toNat)) (-1)))) (derRest D I N input nn z x D.b (-1) (-1)))/\
  ((∀y:SX,Bq x (uG z.2.2) (1,y.2.1, -1)->ag (decide (1<(ax x.op:Int))) (eO (ax x.op) 1 (eO z.2.2.length x.r (Nh D input nn z x 1 y.2.1 (mb 0 z.2.2 (0+x.r.toNat))))) (derRest D I N input nn z x D.b y.2.1 (-1)))/\
  ((∀y:SX,Bq x (uG z.2.2) (2,y.2)->ag (decide (2<(ax x.op:Int))) (eO (ax x.op) 2 False) (derRest D I N input nn z x D.b y.2.1 y.2.2))/\True))))))
def L7 (n m:Nat) (i:Int) (K:Prop):Prop:=af (decide (0<=i)&&decide (i<(n:Int))&&decide (0+i.toNat<m)) (af (decide (0+i.toNat<m)) K)
def OQ (D:DIds) (q0:Nat) (I:DX->Prop) (N:Int) (l:ze3) (input:Int) (K:DX->Prop):Prop:=
 af (Nat.ble l.length l.length&&Nat.beq 26 26&&true&&bW l.length&&eN.good (λ_=>true) l.length (eN.get l)&&decide (0<l.length)) (Unit->True->
 ∃z0:DX,I z0/\(((TV.v (cI.enc 0)=TV.v (cI.enc z0.1)/\TV.v (.val (.slice none 0 0))=TV.v (.val (.slice none z0.2.2.length 0))/\cg D.h/\tvE (cI.enc input)/\tvE (.mp D.m)/\tvE (.slc D.c 0 l.length)/\tvE (cI.enc (l.length:Int))/\True)/\(True/\(([SV.slc q0 0 l.length]= [SV.slc q0 0 z0.2.1.length]/\True)/\(af (Nat.beq 26 26&&decide (z0.2.1.length<=l.length)) (∀e,e<z0.2.1.length->eN.get l e=eN.get z0.2.1 e)/\(z0.2.2.length=0/\True)))))/\
  ∀z:DX,I z->ag (decide (z.1<(l.length:Int)))
   (L7 l.length (eN.list l.length (eN.get l)).length z.1 (rj D I N input l.length z (mb noN (eN.list l.length (eN.get l)) (0+z.1.toNat)))) (K z)))
set_option maxHeartbeats 0
def bq (i:Int) (x:Nd) (dl dr:Int) (l:ze3):List Nd×Int:=
 bif x.op==3 then(bif dl== -1||dr== -1 then(l,jI dl dr) else(l++ [opN 3 dl dr],l.length)) else
 bif x.op==4 then(bif dr== -1 then(l,dl) else bif dl== -1 then(l++ [pureF (-1)]++ [opN 5 l.length dr],l.length+1) else(l++ [opN 4 dl dr],l.length)) else
 bif x.op==5 then(bif dl== -1 then(bif dr== -1 then(l, -1) else(l++ [opN 5 x.l dr],l.length)) else bif dr== -1 then(l++ [opN 5 dl x.r],l.length) else(l++ [opN 5 dl x.r]++ [opN 5 x.l dr]++ [opN 3 l.length (l.length+1)],l.length+2)) else
 bif x.op==6 then(bif dr== -1 then(l++ [opN 6 dl x.r],l.length) else bif dl== -1 then(l++ [opN 5 i dr]++ [opN 6 l.length x.r]++ [pureF (-1)]++ [opN 5 (l.length+2) (l.length+1)],l.length+3) else(l++ [opN 5 i dr]++ [opN 4 dl l.length]++ [opN 6 (l.length+1) x.r],l.length+2)) else
 bif x.op==7 then(bif x.n==1 then(l,dl) else
  bif decide (x.n>2) then(l++ [⟨7,VI,noU,x.n - 1,x.l,0⟩]++ [pureF x.n]++ [opN 5 (l.length+1) l.length]++ [opN 5 (l.length+2) dl],l.length+3) else
  bif decide (x.n<0) then(l++ [opN 6 i x.l]++ [pureF x.n]++ [opN 5 (l.length+1) l.length]++ [opN 5 (l.length+2) dl],l.length+3) else
  (l++ [pureF x.n]++ [opN 5 l.length x.l]++ [opN 5 (l.length+1) dl],l.length+2)) else
 (l++ [pureF 2]++ [opN 5 l.length i]++ [opN 6 dl (l.length+1)],l.length+2)
def stepF (input i:Int) (x:Nd) (dl dr:Int) (l:ze3):List Nd×Int:=
 bif x.op==2&&x.n==input then(l++ [pureF 1],l.length) else bif dl== -1&&dr== -1 then(l, -1) else bq i x dl dr l
theorem QM (p q:Bool):(bif p then q else false)=(p&&q):=by cases p<;>rfl
theorem QN (p q:Bool):(bif p then true else q)=(p||q):=by cases p<;>rfl
variable {g:zdS} {l:ze3}
theorem bJ {v:Nd} {K:(zdS)->Nat->Int->Prop} (hg: ∀e,e<n->g e=eN.get l e) (hn:n=l.length) (hl:n<=900000) (h: ∀g',(∀e,e<n+1->g' e=eN.get (l++ [v]) e)->K g' (n+1) n):gh g n v K:=by
 refine xp (by omega) (ac (VP.2 (by omega)) ?_);rw[show (((n+1:Nat):Int) - 1)=(n:Int) by omega];refine h _ λe he=> ?_;subst hn;rw[<-pO he];unfold Ng gv ct;rw[aB];by_cases k:e<l.length
 ·rw[zdx k,zdz,zdz];exact hg e k
 ·rw[zdA k,zdy,zdy]
variable {D:DIds} {I:DX->Prop} {input v:Int} {d:List Int}
theorem E6 {q1 q2:Nat} (hd:d.length<=1000000) (h0:0<=i) (h1:i<=1000000) (hN:i<N)
 (hg: ∀e,e<n->g e=eN.get l e) (hn:n=l.length) (hI:I (i+1,l,d++ [v])):tY D I N input nn i d q1 q2 g n v:=by
 subst hn;unfold tY Qg;refine ac ?_ (ac (VP.2 (by omega)) ⟨(i+1,l,d++ [v]),hI,by show (_:Nat)<_;dsimp only;omega,⟨⟨rfl, ?_,rfl,rfl,rfl,rfl,rfl,trivial⟩,trivial,⟨rfl,trivial⟩,ac (by simp) (λe he=>hg e he),ac (by simp) (λe he=> ?_),trivial⟩⟩)
 ·rw[zdx (zbT),zdx (show 0+1<=1 by omega),zdx (za0 d.length),zdx (show (d.length+1)*8<=140737488355328 by omega)];rfl
 ·simp
 ·simp only[za3,za6] at he;unfold ct uG;rw[aB,aS];by_cases h:e<d.length
  ·rw[zdx h,zdz,if_neg (by omega)]
  ·obtain rfl:e=d.length:=by omega
   rw[zdA h,zdy,if_pos rfl,zaJ];rfl
variable {a:Int}
theorem bz {b:Int} (h:(a==b)=false): ¬a=b:=by simpa using h
theorem nzI (n:Nat):((n:Int)== -1)=false:=zdE (by omega)
theorem mx (n:Nat):jI (n:Int) (-1)=n:=by unfold jI;rw[if_neg (by omega)]
theorem mx2 (n:Nat):jI (-1) (n:Int)=n:=by unfold jI;rw[if_pos (by omega)]
variable {z:DX} {dl dr:Int}
theorem Br {b:Nat} (hd:z.2.2.length<=1000000) (h0:0<=z.1) (h1:z.1<=1000000) (hN:z.1<N) (hl:z.2.1.length<=800000) (hx:uInt x.n=true) (hx2:uInt (x.n - 1)=true)
 (hop: ¬(dl= -1/\dr= -1)->3<=x.op/\x.op<=8) (hI:I (z.1+1,(stepF input z.1 x dl dr z.2.1).1,z.2.2++ [(stepF input z.1 x dl dr z.2.1).2])):derRest D I N input nn z x b dl dr:=by
 have G: ∀e,e<z.2.1.length->eN.get z.2.1 e=eN.get z.2.1 e:=λ_ _=>rfl;have F: ∀{q1 q2:Nat} {g:zdS} {n:Nat} {v:Int} {l:ze3},(∀e,e<n->g e=eN.get l e)->n=l.length->stepF input z.1 x dl dr z.2.1=(l,v)->tY D I N input nn z.1 z.2.2 q1 q2 g n v:=λ{q1 q2 g n v l} hg hn hs=>by
  rw[hs] at hI;exact E6 hd h0 h1 hN hg hn hI
 have u1:uInt 1=true:=by decide
 have P: ∀{g:zdS} {n:Nat} {base:Int} {l:ze3} {q1 q2:Nat},(∀e,e<n->g e=eN.get l e)->n=l.length->n<=800005->stepF input z.1 x dl dr z.2.1=(l++ [pureF x.n]++ [opN 5 l.length base]++ [opN 5 (l.length+1) dl],(l.length:Int)+2)->derRest.powR x dl g n base (tY D I N input nn z.1 z.2.2 q1 q2):=λ{g n base l q1 q2} hg hn h5 hs=>by
  unfold derRest.powR;refine ac (by rw[hx,u1];rfl) (bJ hg hn (by omega) λg' hg'=>bJ hg' (by simp[hn]) (by omega) λg'' hg''=>bJ hg'' (by simp[hn]) (by omega) λg3 hg3=> ?_);refine F hg3 (by simp[hn]) ?_;rw[hs,hn];simp;omega
 unfold derRest;dsimp only;refine ah (λa=>bJ G rfl (by omega) λg hg=>F hg (by simp) ?_) (λa=>ah (λc=>F G rfl ?_) (λc=> ?_))
 ·have e:(x.op==2&&x.n==input)=true:=by rw[<-QM];exact a
  unfold stepF;rw[e];rfl
 ·have e:(x.op==2&&x.n==input)=false:=by rw[<-QM];exact a
  have f:(dl== -1&&dr== -1)=true:=by rw[<-QM];exact c
  unfold stepF;rw[e,f];rfl
 have hs:stepF input z.1 x dl dr z.2.1=bq z.1 x dl dr z.2.1:=by
  have e:(x.op==2&&x.n==input)=false:=by rw[<-QM];exact a
  have f:(dl== -1&&dr== -1)=false:=by rw[<-QM];exact c
  unfold stepF;rw[e,f];rfl
 have hop:=hop (λ⟨h1,h2⟩=>by rw[h1,h2] at c;cases c);rw[hs] at F P;refine ah (λo3=> ?_) (λo3=>ah (λo4=> ?_) (λo4=>ah (λo5=> ?_) (λo5=>ah (λo6=> ?_) (λo6=>ah (λo7=> ?_) (λo7=> ?_)))))
 ·have R:bq z.1 x dl dr z.2.1=bif dl== -1||dr== -1 then(z.2.1,jI dl dr) else(z.2.1++ [opN 3 dl dr],(z.2.1.length:Int)):=by unfold bq;rw[o3];rfl
  have e:(bif dl== -1 then true else dr== -1)=(dl== -1||dr== -1):=by cases dl== -1<;>rfl
  rw[e];refine ah (λk=>F G rfl ?_) (λk=>bJ G rfl (by omega) λg hg=>F hg (by simp) ?_)
  ·rw[R,k];rfl
  ·rw[R,k];rfl
 ·have R:bq z.1 x dl dr z.2.1=bif dr== -1 then(z.2.1,dl) else bif dl== -1 then(z.2.1++ [pureF (-1)]++ [opN 5 z.2.1.length dr],(z.2.1.length:Int)+1) else(z.2.1++ [opN 4 dl dr],(z.2.1.length:Int)):=by unfold bq;rw[o3,o4];rfl
  have e: ∀q:Int,((-1:Int)==q)=(q== -1):=λq=>by rw[zax];simp;omega
  rw[e,e];refine ah (λk=>F G rfl ?_) (λk=>ah (λj=>bJ G rfl (by omega) λg hg=>bJ hg (by simp) (by omega) λg2 hg2=>F hg2 (by simp) ?_) (λj=>bJ G rfl (by omega) λg hg=>F hg (by simp) ?_))
  ·rw[R,k];rfl
  ·rw[R,k,j];simp
  ·rw[R,k,j];rfl
 ·have R:bq z.1 x dl dr z.2.1=bif dl== -1 then(bif dr== -1 then(z.2.1, -1) else(z.2.1++ [opN 5 x.l dr],(z.2.1.length:Int))) else bif dr== -1 then(z.2.1++ [opN 5 dl x.r],(z.2.1.length:Int)) else(z.2.1++ [opN 5 dl x.r]++ [opN 5 x.l dr]++ [opN 3 z.2.1.length (z.2.1.length+1)],(z.2.1.length:Int)+2):=by unfold bq;rw[o3,o4,o5];rfl
  have ne: ∀q:Int,(q != -1)=true->(q== -1)=false:=λq h=>by simpa using h
  have ee: ∀q:Int,(q != -1)=false->(q== -1)=true:=λq h=>by simpa using h
  refine ah (λk=>bJ G rfl (by omega) λg hg=>ah (λj=>bJ hg (by simp) (by omega) λg2 hg2=>ah (λm=> ?_) (λm=>bJ hg2 (by simp) (by omega) λg3 hg3=>F hg3 (by simp) ?_)) (λj=>ah (λm=>F hg (by simp) ?_) (λm=> ?_))) (λk=>ah (λj=>bJ G rfl (by omega) λg hg=>F hg (by simp) ?_) (λj=>F G rfl ?_))
  ·exfalso;rw[nzI,zdy,nzI] at m;cases m
  ·rw[R,ne dl k,ne dr j];simp;omega
  ·rw[R,ne dl k,ee dr j,mx];rfl
  ·rw[nzI,zdy] at m;cases m
  ·rw[R,ee dl k,ne dr j,mx2];rfl
  ·rw[R,ee dl k,ee dr j];rfl
 ·have R:bq z.1 x dl dr z.2.1=bif dr== -1 then(z.2.1++ [opN 6 dl x.r],(z.2.1.length:Int)) else bif dl== -1 then(z.2.1++ [opN 5 z.1 dr]++ [opN 6 z.2.1.length x.r]++ [pureF (-1)]++ [opN 5 (z.2.1.length+2) (z.2.1.length+1)],(z.2.1.length:Int)+3) else(z.2.1++ [opN 5 z.1 dr]++ [opN 4 dl z.2.1.length]++ [opN 6 (z.2.1.length+1) x.r],(z.2.1.length:Int)+2):=by unfold bq;rw[o3,o4,o5,o6];rfl
  refine ah (λk=>bJ G rfl (by omega) λg hg=>F hg (by simp) ?_) (λk=>bJ G rfl (by omega) λg hg=>ah (λj=>bJ hg (by simp) (by omega) λg2 hg2=>bJ hg2 (by simp) (by omega) λg3 hg3=>bJ hg3 (by simp) (by omega) λg4 hg4=>F hg4 (by simp) ?_) (λj=>bJ hg (by simp) (by omega) λg2 hg2=>bJ hg2 (by simp) (by omega) λg3 hg3=>F hg3 (by simp) ?_))
  ·rw[R,k];rfl
  ·rw[R,k,j];simp[zcC]
  ·rw[R,k,j];simp[zcC]
 ·have R:bq z.1 x dl dr z.2.1=bif x.n==1 then(z.2.1,dl) else
   bif decide (x.n>2) then(z.2.1++ [⟨7,VI,noU,x.n - 1,x.l,0⟩]++ [pureF x.n]++ [opN 5 (z.2.1.length+1) z.2.1.length]++ [opN 5 (z.2.1.length+2) dl],(z.2.1.length:Int)+3) else
   bif decide (x.n<0) then(z.2.1++ [opN 6 z.1 x.l]++ [pureF x.n]++ [opN 5 (z.2.1.length+1) z.2.1.length]++ [opN 5 (z.2.1.length+2) dl],(z.2.1.length:Int)+3) else
   (z.2.1++ [pureF x.n]++ [opN 5 z.2.1.length x.l]++ [opN 5 (z.2.1.length+1) dl],(z.2.1.length:Int)+2):=by unfold bq;rw[o3,o4,o5,o6,o7];rfl
  refine ah (λk=>F G rfl ?_) (λk=>ah (λj=>ac hx2 (bJ G rfl (by omega) λg hg=>P hg (by simp) (by omega) ?_)) (λj=>ah (λm=>bJ G rfl (by omega) λg hg=>P hg (by simp) (by omega) ?_) (λm=>P G rfl (by omega) ?_)))
  ·rw[R,k];rfl
  ·rw[R,k,j];simp[zcC]
  ·rw[R,k,j,m];simp[zcC]
  ·rw[R,k,j,m];simp
 ·have h8:(x.op==8)=true:=by
   have a3:=bz o3;have a4:=bz o4;have a5:=bz o5;have a6:=bz o6;have a7:=bz o7;exact int_eq.2 (by omega)
  refine ac h8 (bJ G rfl (by omega) λg hg=>bJ hg (by simp) (by omega) λg2 hg2=>bJ hg2 (by simp) (by omega) λg3 hg3=>F hg3 (by simp) ?_);unfold bq;rw[o3,o4,o5,o6,o7];simp;omega
def dlF (x:Nd) (d:List Int):Int:=bif decide (1<=ax x.op) then mb 0 d x.l.toNat else -1
def drF (x:Nd) (d:List Int):Int:=bif decide (2<=ax x.op) then mb 0 d x.r.toNat else -1
def aN (input:Int):List Nd->Int->List Nd->List Int->List Nd×List Int
 | [],_,l,d=>(l,d)
 |x::r,i,l,d=>aN input r (i+1) (stepF input i x (dlF x d) (drF x d) l).1 (d++ [(stepF input i x (dlF x d) (drF x d) l).2])
theorem VY:ax x.op=2↔3<=x.op/\x.op<=6:=by
 unfold ax;by_cases a:3<=x.op/\x.op<=6
 ·rw[zdx a.1,zdx a.2];simp[a]
 ·rw[show (decide (3<=x.op)&&decide (x.op<=6))=false by simp;omega,zdy];constructor
  ·intro h;cases hh:decide (7<=x.op)&&decide (x.op<=8)<;>rw[hh] at h<;>cases h
  ·intro h;exact absurd h a
theorem V7:ax x.op=1↔x.op=7\/x.op=8:=by
 unfold ax;by_cases a:3<=x.op/\x.op<=6
 ·rw[zdx a.1,zdx a.2];simp;omega
 ·rw[show (decide (3<=x.op)&&decide (x.op<=6))=false by simp;omega,zdy];by_cases b:7<=x.op/\x.op<=8
  ·rw[zdx b.1,zdx b.2];simp;omega
  ·rw[show (decide (7<=x.op)&&decide (x.op<=8))=false by simp;omega,zdy];simp;omega
theorem gS (op:Int):ax op<=2:=by
 unfold ax;cases decide (3<=op)&&decide (op<=6)
 ·cases decide (7<=op)&&decide (op<=8)<;>decide
 ·exact za0 2
theorem Bt (hx:VN z.2.2.length x=true) (hR:derRest D I N input nn z x D.b (dlF x z.2.2) (drF x z.2.2)):rj D I N input nn z x:=by
 have hsd:=bL hx;have hle:=gS x.op;have hl:1<=ax x.op->0<=x.l/\x.l<z.2.2.length:=λh=>by
  rcases(show ax x.op=1\/ax x.op=2 by omega) with h|h
  ·exact hsd _ (by rw[bF (V7.1 h)];simp)
  ·have:=VY.1 h;exact hsd _ (by rw[aQ this.1 this.2];simp)
 have hr:2<=ax x.op->0<=x.r/\x.r<z.2.2.length:=λh=>by
  have:=VY.1 (show ax x.op=2 by omega);exact hsd _ (by rw[aQ this.1 this.2];simp)
 unfold rj;refine ac (by rw[show Vh (svN x)=x from fR x];simp) λ_ _=>⟨(0, -1, -1),⟨zat _,by show (0:Int)<=_;omega,rfl,rfl⟩,⟨⟨rfl,rfl,rfl,rfl,rfl,rfl,rfl,rfl,rfl,rfl,rfl,rfl,rfl,trivial⟩,trivial,⟨rfl,trivial⟩,trivial⟩, ?_, ?_, ?_, ?_,trivial⟩
 ·rintro⟨k,a,b⟩ ⟨h0,h1,h2,h3⟩;dsimp only at h0 h1 h2 h3;rcases(show k=0\/k=1\/k=2 by omega) with rfl|rfl|rfl
  ·left;rw[zdA (by omega),zdy] at h2 h3;rw[h2,h3]
  ·right;left;rw[show decide (2<=(1:Int))=false from rfl,zdy] at h3;rw[h3]
  ·right;right;left;rfl
 ·rintro y ⟨h0,h1,h2,h3⟩;refine ah (λh=> ?_) (λh=> ?_)
  ·have h:=zdC h;have a:=hl (by omega);refine aY (zat _) h (aY a.1 a.2 ?_);rw[za7];exact⟨(1,mb 0 z.2.2 x.l.toNat, -1),⟨by show (0:Int)<=1;decide,by show (1:Int)<=_;omega,rfl,rfl⟩,by show (3 - (1:Int)).toNat<(3 - (0:Int)).toNat;decide,⟨⟨rfl,rfl,rfl,rfl,rfl,rfl,rfl,rfl,rfl,rfl,rfl,rfl,rfl,trivial⟩,trivial,⟨rfl,trivial⟩,trivial⟩⟩
  ·have h:=zdD h;have e:ax x.op=0:=by omega
   rw[show dlF x z.2.2= -1 by unfold dlF;rw[e];rfl,show drF x z.2.2= -1 by unfold drF;rw[e];rfl] at hR;exact hR
 ·rintro y ⟨h0,h1,h2,h3⟩;dsimp only at h0 h1 h2 h3;rw[show decide (1<=(1:Int))=true from rfl,zdz] at h2;replace h2:y.2.1=mb 0 z.2.2 x.l.toNat:=h2;refine ah (λh=> ?_) (λh=> ?_)
  ·have h:=zdC h;have a:=hr (by omega);refine aY (by decide) h (aY a.1 a.2 ?_);rw[za7];exact⟨(2,y.2.1,mb 0 z.2.2 x.r.toNat),⟨by show (0:Int)<=2;decide,by show (2:Int)<=_;omega,h2,rfl⟩,by show (3 - (2:Int)).toNat<(3 - (1:Int)).toNat;decide,⟨⟨rfl,rfl,rfl,rfl,rfl,rfl,rfl,rfl,rfl,rfl,rfl,rfl,rfl,trivial⟩,trivial,⟨rfl,trivial⟩,trivial⟩⟩
  ·have h:=zdD h;have e:ax x.op=1:=by omega
   rw[show dlF x z.2.2=y.2.1 by unfold dlF;rw[e,h2];rfl,show drF x z.2.2= -1 by unfold drF;rw[e];rfl] at hR;exact hR
 ·rintro y ⟨h0,h1,h2,h3⟩;dsimp only at h0 h1 h2 h3;rw[show decide (1<=(2:Int))=true from rfl,zdz] at h2;rw[show decide (2<=(2:Int))=true from rfl,zdz] at h3;replace h2:y.2.1=mb 0 z.2.2 x.l.toNat:=h2;replace h3:y.2.2=mb 0 z.2.2 x.r.toNat:=h3;refine ah (λh=> ?_) (λh=> ?_)
  ·have h:=zdC h;omega
  ·have e:ax x.op=2:=by omega
   rw[show dlF x z.2.2=y.2.1 by unfold dlF;rw[e,h2];rfl,show drF x z.2.2=y.2.2 by unfold drF;rw[e,h3];rfl] at hR;exact hR
theorem vO (input i:Int) (x:Nd) (dl dr:Int) (l:ze3):(stepF input i x dl dr l).1.length<=l.length+4:=by
 have B: ∀(b:Bool) (p q:List Nd×Int),p.1.length<=l.length+4->q.1.length<=l.length+4->(cond b p q).1.length<=l.length+4:=λb p q h k=>by cases b;exact k;exact h
 have R:(bq i x dl dr l).1.length<=l.length+4:=by
  unfold bq;refine B _ _ _ (B _ _ _ ?_ ?_) (B _ _ _ (B _ _ _ ?_ (B _ _ _ ?_ ?_)) (B _ _ _ (B _ _ _ (B _ _ _ ?_ ?_) (B _ _ _ ?_ ?_)) (B _ _ _ (B _ _ _ ?_ (B _ _ _ ?_ ?_)) (B _ _ _ (B _ _ _ ?_ (B _ _ _ ?_ (B _ _ _ ?_ ?_))) ?_))))
  all_goals simp only[za3,za4,za9]
  all_goals omega
 unfold stepF;refine B _ _ _ ?_ (B _ _ _ ?_ R)
 all_goals simp only[za3,za4,za9]
 all_goals omega
def OR (input:Int) (l0:ze3) (z:DX):Prop:=0<=z.1/\z.1<=l0.length/\z.2.2.length=z.1.toNat/\z.2.1.length<=l0.length+4*z.1.toNat/\aN input l0 0 l0 []=aN input (l0.drop z.1.toNat) z.1 z.2.1 z.2.2
theorem E7 {q0:Nat} {K:DX->Prop} (h1:1<=l.length) (h2:l.length<=100000) (hs: ∀j,j<l.length->VN j (mb noN l j)=true) (hn: ∀j,j<l.length->uInt (mb noN l j).n=true/\uInt ((mb noN l j).n - 1)=true)
 (hK:K (l.length,aN input l 0 l [])):OQ D q0 (OR input l) l.length l input K:=by
 have gl:eN.list l.length (eN.get l)=l:=El.list_get;unfold OQ;refine ac ?_ λ_ _=>⟨(0,l, []),⟨zat _,by show (0:Int)<=_;omega,rfl,za0 _,rfl⟩,⟨⟨rfl,rfl,rfl,rfl,rfl,rfl,rfl,trivial⟩,trivial,⟨rfl,trivial⟩,ac (by simp) (λe he=>rfl),rfl,trivial⟩, ?_⟩
 ·unfold bW;rw[zae (za0 _),zae (show l.length<=1000000 by omega),El.good_get (λ_ _=>rfl),zdx (show 0<l.length by omega)];rfl
 rintro⟨i,m,d⟩ ⟨k0,k1,k2,k3,k4⟩;dsimp only at k0 k1 k2 k3 k4 ⊢;rw[gl];refine ah (λhz=> ?_) (λhz=> ?_)
 ·have hz:=zdC hz;have hd:l.drop i.toNat=mb noN l i.toNat::l.drop (i+1).toNat:=by
   rw[show (i+1).toNat=i.toNat+1 by omega,zaH (show i.toNat<l.length by omega),bR (zaa _)]
  rw[hd,aN] at k4;rw[za7];have hx:=hs i.toNat (by omega);refine ac ?_ (ac (zdx (by omega)) (Bt (by dsimp only;rw[k2];exact hx) (Br (by dsimp only;omega) k0 (by dsimp only;omega) hz (by dsimp only;omega) (hn _ (by omega)).1 (hn _ (by omega)).2 ?_ ?_)))
  ·rw[zdx k0,zdx hz,zdx (show 0+i.toNat<l.length by omega)];rfl
  ·intro h;dsimp only at h;unfold dlF drF at h;by_cases e:ax (mb noN l i.toNat).op=0
   ·rw[e] at h;exact absurd ⟨rfl,rfl⟩ h
   ·have:=gS (mb noN l i.toNat).op;rcases(show ax (mb noN l i.toNat).op=1\/ax (mb noN l i.toNat).op=2 by omega) with h|h
    ·have:=V7.1 h;omega
    ·have:=VY.1 h;omega
  ·dsimp only;have:=vO input i (mb noN l i.toNat) (dlF (mb noN l i.toNat) d) (drF (mb noN l i.toNat) d) m;exact⟨by show 0<=i+1;omega,by show i+1<=_;omega,by simp only[za3,za6];omega,by dsimp only;omega,k4⟩
 ·have hz:=zdD hz;rw[show i.toNat=l.length by omega,zbk,aN] at k4;rw[k4,show ((l.length:Nat):Int)=i by omega] at hK;exact hK
def prK (K0:Int->List SV->Int->Prop) (K1:Nat->Nat->Blk->Nat->Nat->Blk->Int->List SV->Int->Prop):Aft:=λr bl _ _=>match r with
 | .ok (.tup [.agg (.val (.int .i64 id)::s1::s2::rest), .val (.int .i64 e)])=>(match s1,s2 with
   | .val (.slice none 0 0), .val (.slice none 0 0)=>K0 id rest e
   | .slc i 0 n, .slc j 0 m=>(match bl i,bl j with
     |some B,some C=>K1 i n B j m C id rest e
     |_,_=>False)
   |_,_=>False)
 |_=>False
def kp (n1 N1:Nat) (g1:zdS) (n2 N2:Nat) (g2:zdS) (u:Un):Bool:=(Nat.ble n1 N1&&Nat.beq 20 20&&true)&&(Nat.ble n2 N2&&Nat.beq 26 26&&true)&&bW n1&&bW n2&&eU.good szB n1 g1&&eN.good szN n2 g2&&szB u
abbrev DK0:=Int->List SV->Int->Prop
abbrev DK1:=Nat->Nat->Blk->Nat->Nat->Blk->Int->List SV->Int->Prop
def CZ (p:Pr) (i j n2:Nat) (C:Blk) (K0:DK0) (K1:DK1):Prop:=
 let inp:=eU.list p.inp.length (eU.get p.inp)
 let q (u:Un):Pr:=⟨p.id,eU.list p.inp.length (eU.get inp),eN.list n2 C.get,u⟩
 af (kp p.inp.length inp.length (eU.get inp) n2 C.n C.get noU&&(decide (1<=(q noU).nod.length)&&nodesIn (q noU))) (Unit->True->
  ag (!(fO (q noU)).2) (K0 0 (ci noU) 100)
  (af (kp p.inp.length inp.length (eU.get inp) n2 C.n C.get (fO (q noU)).1) (Unit->True->
    ag (bif false then true else !VM (q (fO (q noU)).1)) (K0 0 (ci noU) 100) (K1 i p.inp.length (eU.own inp) j n2 C p.id (ci (fO (q noU)).1) 0))))
def IV (x:Nd):Blk:={n:=1,sz:=26,get:=λe=>((svN x).drop (e*26)).take 26,kd:= .own}
def oG (u:Un):Nd:={pureF 0 with u:=u}
def C0 (p:Pr) (input:Int) (i:Nat) (z:DX) (K0:DK0) (K1:DK1):Prop:=
 let len:Int:=z.2.2.length
 let last:=mb 0 z.2.2 (0+(len - 1).toNat)
 let kz:=cG (eN.list z.2.1.length (eN.get z.2.1)) last
 let a:=bB p.out
 let b:=bB (eU.nth p.inp (0+input.toNat))
 af (Nat.ble p.inp.length p.inp.length&&Nat.beq 20 20&&true&&bW p.inp.length&&eU.good (λ_=>true) p.inp.length (eU.get p.inp)&&decide (0<p.inp.length)) (Unit->True->
 af (inR .i64 (len - 1)) (L7 z.2.2.length z.2.2.length (len - 1) (ag (last != -1)
  (af (Nat.ble z.2.1.length z.2.1.length&&Nat.beq 26 26&&true&&bW z.2.1.length&&eN.good (λ_=>true) z.2.1.length (eN.get z.2.1)&&decide (0<=last)&&decide (last<(z.2.1.length:Int))&&dH z.2.1.length (eN.get z.2.1)) (Unit->True->CZ p i 57 kz.length (eN.own kz) K0 K1))
  (af (aH p.out) (L7 p.inp.length p.inp.length input (af (aH (eU.nth p.inp (0+input.toNat))) (af (aH a&&aH b) (ag ((fd a b).2 !=0) (K0 0 (ci noU) 100) (CZ p i 101 1 (IV (oG (fd a b).1)) K0 K1)))))))))
def Qi (D:DIds) (q0:Nat) (I:DX->Prop) (N:Int) (n:Nat) (l:ze3) (input:Int) (K:DX->Prop):Prop:=
 af (Nat.ble n l.length&&Nat.beq 26 26&&true&&bW n&&eN.good (λ_=>true) n (eN.get l)&&decide (0<n)) (Unit->True->
 ∃z0:DX,I z0/\(((TV.v (cI.enc 0)=TV.v (cI.enc z0.1)/\TV.v (.val (.slice none 0 0))=TV.v (.val (.slice none z0.2.2.length 0))/\cg D.h/\tvE (cI.enc input)/\tvE (.mp D.m)/\tvE (.slc D.c 0 n)/\tvE (cI.enc (n:Int))/\True)/\(True/\(([SV.slc q0 0 n]= [SV.slc q0 0 z0.2.1.length]/\True)/\(af (Nat.beq 26 26&&decide (z0.2.1.length<=l.length)) (∀e,e<z0.2.1.length->eN.get l e=eN.get z0.2.1 e)/\(z0.2.2.length=0/\True)))))/\
  ∀z:DX,I z->ag (decide (z.1<(n:Int)))
   (L7 n (eN.list n (eN.get l)).length z.1 (rj D I N input n z (mb noN (eN.list n (eN.get l)) (0+z.1.toNat)))) (K z)))
theorem L8 (D:DIds) (q0:Nat) (I:DX->Prop) (N:Int) (l:ze3) (input:Int) (K:DX->Prop):Qi D q0 I N l.length l input K=OQ D q0 I N l input K:=rfl
def dvT (I:DX->Prop) (N:Int) (p:Pr) (input:Int) (K0:DK0) (K1:DK1):Prop:=
 af (jn p) (Unit->True->
  ag (bif (bif !VM (dm p) then true else decide (input<0)) then true else decide (input≥(p.inp.length:Int))) (K0 0 (ci noU) 100)
  (af (Nat.ble p.nod.length p.nod.length&&Nat.beq 26 26&&true&&bW p.nod.length&&eN.good (λ_=>true) p.nod.length (eN.get p.nod)&&decide (0<p.nod.length)) (Unit->True->
    Qi ⟨21,34,27,37,38,43,49,51,76⟩ 20 I N p.nod.length (eN.list p.nod.length (eN.get p.nod)) input (λz=>C0 p input 43 z K0 K1/\C0 p input 44 z K0 K1))))
set_option maxHeartbeats 0
theorem Qj (I:DX->Prop) (N:Int) (p:Pr) (input:Int) (K0:DK0) (K1:DK1):dk Qf (IU I N) 6 12 [kB p, .val (.int .i64 input)] (iK p) (prK K0 K1)=dvT I N p input K0 K1:=by kernel_rfl
def GL (ni:Nat) (l:ze3):Prop:= ∀j,j<l.length->nodeIn ni j (mb noN l j)=true/\szN (mb noN l j)=true
variable {ni:Nat}
theorem GL.snoc {v:Nd} (h:GL ni l) (h1:nodeIn ni l.length v=true) (h2:szN v=true):GL ni (l++ [v]):=by
 intro j hj;rw[aS];by_cases e:j=l.length
 ·rw[if_pos e,e];exact⟨h1,h2⟩
 ·rw[if_neg e];exact h j (by simp at hj;omega)
variable {j:Nat}
theorem ng (o1:3<=x.op) (o2:x.op<=6) (hl:0<=x.l/\x.l<j) (hr:0<=x.r/\x.r<j):nodeIn ni j x=true:=by
 unfold nodeIn VN;rw[aQ o1 o2,zdE (show x.op≠2 by omega)];simp[hl,hr]
theorem nh (o:x.op=7\/x.op=8) (hl:0<=x.l/\x.l<j):nodeIn ni j x=true:=by
 unfold nodeIn VN;rw[bF o,zdE (show x.op≠2 by omega)];simp[hl]
theorem jJ (h: ¬(3<=x.op/\x.op<=8)) (h2:x.op=2->0<=x.n/\x.n<ni):nodeIn ni j x=true:=by
 unfold nodeIn VN;rw[l7 h];by_cases o:x.op=2
 ·rw[o];simp[h2 o]
 ·rw[zdE o];rfl
theorem lB:(uzR VI&&szB noU)=true:=by decide
theorem GL.op (h:GL ni l) {o b:Int} (o1:3<=o) (o2:o<=6) (ha:0<=a/\a<l.length) (hb:0<=b/\b<l.length):GL ni (l++ [opN o a b]):=h.snoc (ng o1 o2 ha hb) lB
theorem GL.pure (h:GL ni l) (n:Int):GL ni (l++ [pureF n]):=h.snoc (jJ (by show ¬(3<=(1:Int)/\(1:Int)<=8);omega) (λe=>absurd (show (1:Int)=2 from e) (by decide))) (by unfold szN pureF;rw[gu];exact oA _ _)
theorem GL.pw (h:GL ni l) (n:Int) (ha:0<=a/\a<l.length):GL ni (l++ [⟨7,VI,noU,n,a,0⟩]):=h.snoc (nh (.inl rfl) ha) lB
def InD (m:Nat) (v:Int):Prop:=v= -1\/(0<=v/\v<m)
structure StepOK (ni:Nat) (l:List Nd) (q:List Nd×Int):Prop where
 gl:GL ni q.1
 d:InD q.1.length q.2
 pre: ∃m,q.1=l++m
theorem StepOK.mk' {m:ze3} (h:GL ni (l++m)) (h1:0<=v) (h2:v<(l.length:Int)+m.length):StepOK ni l (l++m,v):=⟨h, .inr ⟨h1,by show v<((l++m).length:Int);rw[za3];omega⟩,m,rfl⟩
theorem StepOK.same (h:GL ni l) (h1:InD l.length v):StepOK ni l (l,v):=⟨h,h1, [],by simp⟩
theorem Bu (hG:GL ni l) (hi:0<=i/\i<l.length) (hx:NodeOK ni n x) (hn:n<=l.length) (hl:InD l.length dl) (hr:InD l.length dr) (h3:3<=x.op) (hdr:dr≠ -1->x.op<=6) (hno: ¬(dl= -1/\dr= -1)):StepOK ni l (bq i x dl dr l):=by
 have h8:=hx.op.2;have hxl:=hx.left h3;have L:0<=x.l/\x.l<(l.length:Int):=⟨hxl.1,by omega⟩;have R:x.op<=6->0<=x.r/\x.r<(l.length:Int):=λh=>by have:=hx.right h3 h;omega
 have dL:dl≠ -1->0<=dl/\dl<(l.length:Int):=λh=>hl.resolve_left h;have dR:dr≠ -1->0<=dr/\dr<(l.length:Int):=λh=>hr.resolve_left h;have fl: ∀{q:Int},(q== -1)=false->q≠ -1:=λh e=>by rw[e] at h;cases h
 have tl: ∀{q:Int},(q== -1)=true->q= -1:=λh=>beq_iff_eq.1 h;rcases(show x.op=3\/x.op=4\/x.op=5\/x.op=6\/x.op=7\/x.op=8 by omega) with o|o|o|o|o|o
 ·have e:bq i x dl dr l=bif dl== -1||dr== -1 then(l,jI dl dr) else(l++ [opN 3 dl dr],(l.length:Int)):=by unfold bq;rw[o];rfl
  rw[e];cases a:dl== -1 with
  |true=>exact StepOK.same hG (by rw[tl a];unfold jI;have:=dR λh=>hno ⟨tl a,h⟩;rw[if_pos (by omega)];exact .inr this)
  |false=>cases b:dr== -1 with
   |true=>exact StepOK.same hG (by rw[tl b];unfold jI;have:=dL (fl a);rw[if_neg (by omega)];exact .inr this)
   |false=>exact StepOK.mk' (hG.op (by decide) (by decide) (dL (fl a)) (dR (fl b))) (by omega) (by simp only[za3,za6,za4,za9];omega)
 ·have e:bq i x dl dr l=bif dr== -1 then(l,dl) else bif dl== -1 then(l++ [pureF (-1)]++ [opN 5 l.length dr],(l.length:Int)+1) else(l++ [opN 4 dl dr],(l.length:Int)):=by unfold bq;rw[o];rfl
  rw[e];cases b:dr== -1 with
  |true=>exact StepOK.same hG hl
  |false=>have b:=dR (fl b)
          cases a:dl== -1 with
   |true=>rw[za5];exact StepOK.mk' (by rw[<-za5];exact(hG.pure _).op (by decide) (by decide) (by simp only[za3,za6,za4,za9];omega) (by simp only[za3,za6,za4,za9];omega)) (by omega) (by simp only[za3,za6,za4,za9];omega)
   |false=>exact StepOK.mk' (hG.op (by decide) (by decide) (dL (fl a)) b) (by omega) (by simp only[za3,za6,za4,za9];omega)
 ·have e:bq i x dl dr l=bif dl== -1 then(bif dr== -1 then(l, -1) else(l++ [opN 5 x.l dr],(l.length:Int))) else bif dr== -1 then(l++ [opN 5 dl x.r],(l.length:Int)) else(l++ [opN 5 dl x.r]++ [opN 5 x.l dr]++ [opN 3 l.length (l.length+1)],(l.length:Int)+2):=by unfold bq;rw[o];rfl
  rw[e];have R:=R (by omega);cases a:dl== -1 with
  |true=>cases b:dr== -1 with
   |true=>exact absurd ⟨tl a,tl b⟩ hno
   |false=>exact StepOK.mk' (hG.op (by decide) (by decide) L (dR (fl b))) (by omega) (by simp only[za3,za6,za4,za9];omega)
  |false=>have a:=dL (fl a)
          cases b:dr== -1 with
   |true=>exact StepOK.mk' (hG.op (by decide) (by decide) a R) (by omega) (by simp only[za3,za6,za4,za9];omega)
   |false=>
    have b:=dR (fl b);show StepOK ni l (l++ [opN 5 dl x.r]++ [opN 5 x.l dr]++ [opN 3 l.length (l.length+1)],(l.length:Int)+2);rw[za5,za5];exact StepOK.mk' (by rw[<-za5,<-za5];exact((hG.op (by decide) (by decide) a R).op (by decide) (by decide) (by simp only[za3,za6,za4,za9];omega) (by simp only[za3,za6,za4,za9];omega)).op (by decide) (by decide) (by simp only[za3,za6,za4,za9];omega) (by simp only[za3,za6,za4,za9];omega)) (by omega) (by simp only[za3,za6,za4,za9];omega)
 ·have e:bq i x dl dr l=bif dr== -1 then(l++ [opN 6 dl x.r],(l.length:Int)) else bif dl== -1 then(l++ [opN 5 i dr]++ [opN 6 l.length x.r]++ [pureF (-1)]++ [opN 5 (l.length+2) (l.length+1)],(l.length:Int)+3) else(l++ [opN 5 i dr]++ [opN 4 dl l.length]++ [opN 6 (l.length+1) x.r],(l.length:Int)+2):=by unfold bq;rw[o];rfl
  rw[e];have R:=R (by omega);cases b:dr== -1 with
  |true=>exact StepOK.mk' (hG.op (by decide) (by decide) (dL λh=>hno ⟨h,tl b⟩) R) (by omega) (by simp only[za3,za6,za4,za9];omega)
  |false=>
   have b:=dR (fl b);cases a:dl== -1 with
   |true=>
    show StepOK ni l (l++ [opN 5 i dr]++ [opN 6 l.length x.r]++ [pureF (-1)]++ [opN 5 (l.length+2) (l.length+1)],(l.length:Int)+3);rw[za5,za5,za5];exact StepOK.mk' (by rw[<-za5,<-za5,<-za5];exact(((hG.op (by decide) (by decide) hi b).op (by decide) (by decide) (by simp only[za3,za6,za4,za9];omega) (by simp only[za3,za6,za4,za9];omega)).pure _).op (by decide) (by decide) (by simp only[za3,za6,za4,za9];omega) (by simp only[za3,za6,za4,za9];omega)) (by omega) (by simp only[za3,za6,za4,za9];omega)
   |false=>
    have a:=dL (fl a);show StepOK ni l (l++ [opN 5 i dr]++ [opN 4 dl l.length]++ [opN 6 (l.length+1) x.r],(l.length:Int)+2);rw[za5,za5];exact StepOK.mk' (by rw[<-za5,<-za5];exact((hG.op (by decide) (by decide) hi b).op (by decide) (by decide) (by simp only[za3,za6,za4,za9];omega) (by simp only[za3,za6,za4,za9];omega)).op (by decide) (by decide) (by simp only[za3,za6,za4,za9];omega) (by simp only[za3,za6,za4,za9];omega)) (by omega) (by simp only[za3,za6,za4,za9];omega)
 ·have hd:dr= -1:=by
   rcases hr with h|h
   ·exact h
   ·have:=hdr (by omega);omega
  have a:=dL λh=>hno ⟨h,hd⟩;have e:bq i x dl dr l=bif x.n==1 then(l,dl) else
   bif decide (x.n>2) then(l++ [⟨7,VI,noU,x.n - 1,x.l,0⟩]++ [pureF x.n]++ [opN 5 (l.length+1) l.length]++ [opN 5 (l.length+2) dl],(l.length:Int)+3) else
   bif decide (x.n<0) then(l++ [opN 6 i x.l]++ [pureF x.n]++ [opN 5 (l.length+1) l.length]++ [opN 5 (l.length+2) dl],(l.length:Int)+3) else
   (l++ [pureF x.n]++ [opN 5 l.length x.l]++ [opN 5 (l.length+1) dl],(l.length:Int)+2):=by unfold bq;rw[o];rfl
  rw[e];cases x.n==1 with
  |true=>exact StepOK.same hG hl
  |false=>cases decide (x.n>2) with
   |true=>
    show StepOK ni l (l++ [⟨7,VI,noU,x.n - 1,x.l,0⟩]++ [pureF x.n]++ [opN 5 (l.length+1) l.length]++ [opN 5 (l.length+2) dl],(l.length:Int)+3);rw[za5,za5,za5];exact StepOK.mk' (by rw[<-za5,<-za5,<-za5];exact(((hG.pw _ L).pure _).op (by decide) (by decide) (by simp only[za3,za6,za4,za9];omega) (by simp only[za3,za6,za4,za9];omega)).op (by decide) (by decide) (by simp only[za3,za6,za4,za9];omega) (by simp only[za3,za6,za4,za9];omega)) (by omega) (by simp only[za3,za6,za4,za9];omega)
   |false=>cases decide (x.n<0) with
    |true=>
     show StepOK ni l (l++ [opN 6 i x.l]++ [pureF x.n]++ [opN 5 (l.length+1) l.length]++ [opN 5 (l.length+2) dl],(l.length:Int)+3);rw[za5,za5,za5];exact StepOK.mk' (by rw[<-za5,<-za5,<-za5];exact(((hG.op (by decide) (by decide) hi L).pure _).op (by decide) (by decide) (by simp only[za3,za6,za4,za9];omega) (by simp only[za3,za6,za4,za9];omega)).op (by decide) (by decide) (by simp only[za3,za6,za4,za9];omega) (by simp only[za3,za6,za4,za9];omega)) (by omega) (by simp only[za3,za6,za4,za9];omega)
    |false=>
     show StepOK ni l (l++ [pureF x.n]++ [opN 5 l.length x.l]++ [opN 5 (l.length+1) dl],(l.length:Int)+2);rw[za5,za5];exact StepOK.mk' (by rw[<-za5,<-za5];exact((hG.pure _).op (by decide) (by decide) (by simp only[za3,za6,za4,za9];omega) (by simp only[za3,za6,za4,za9];omega)).op (by decide) (by decide) (by simp only[za3,za6,za4,za9];omega) (by simp only[za3,za6,za4,za9];omega)) (by omega) (by simp only[za3,za6,za4,za9];omega)
 ·have hd:dr= -1:=by
   rcases hr with h|h
   ·exact h
   ·have:=hdr (by omega);omega
  have a:=dL λh=>hno ⟨h,hd⟩;have e:bq i x dl dr l=(l++ [pureF 2]++ [opN 5 l.length i]++ [opN 6 dl (l.length+1)],(l.length:Int)+2):=by unfold bq;rw[o];rfl
  rw[e,za5,za5];exact StepOK.mk' (by rw[<-za5,<-za5];exact((hG.pure _).op (by decide) (by decide) (by simp only[za3,za6,za4,za9];omega) (by simp only[za3,za6,za4,za9];omega)).op (by decide) (by decide) (by simp only[za3,za6,za4,za9];omega) (by simp only[za3,za6,za4,za9];omega)) (by omega) (by simp only[za3,za6,za4,za9];omega)
theorem vP (x:Nd) (d:List Int):(dlF x d= -1)\/(3<=x.op/\dlF x d=mb 0 d x.l.toNat):=by
 unfold dlF;by_cases h:1<=ax x.op
 ·rw[zdx h];right;refine⟨?_,rfl⟩;have:=gS x.op;rcases(show ax x.op=1\/ax x.op=2 by omega) with h|h
  ·have:=V7.1 h;omega
  ·have:=VY.1 h;omega
 ·rw[zdA h];exact .inl rfl
theorem l8 (x:Nd) (d:List Int):(drF x d= -1)\/(3<=x.op/\x.op<=6/\drF x d=mb 0 d x.r.toNat):=by
 unfold drF;by_cases h:2<=ax x.op
 ·rw[zdx h];right;have:=gS x.op;have:=VY.1 (show ax x.op=2 by omega);exact⟨this.1,this.2,rfl⟩
 ·rw[zdA h];exact .inl rfl
theorem Bv (hG:GL ni l) (hi:d.length<l.length) (hx:NodeOK ni d.length x) (hd: ∀v∈d,InD l.length v):StepOK ni l (stepF input d.length x (dlF x d) (drF x d) l):=by
 unfold stepF;cases h1:x.op==2&&x.n==input with
 |true=>exact StepOK.mk' (hG.pure _) (by omega) (by simp only[za3,za6,za4,za9];omega)
 |false=>
  cases h2:dlF x d== -1&&drF x d== -1 with
  |true=>exact StepOK.same hG (.inl rfl)
  |false=>
   have hl:InD l.length (dlF x d):=by
    rcases vP x d with h|⟨o,h⟩
    ·exact .inl h
    ·rw[h];have:=hx.left o;exact hd _ (bw (by omega))
   have hr:InD l.length (drF x d):=by
    rcases l8 x d with h|⟨o,o',h⟩
    ·exact .inl h
    ·rw[h];have:=hx.right o o';exact hd _ (bw (by omega))
   have hno: ¬(dlF x d= -1/\drF x d= -1):=λ⟨a,b⟩=>by rw[a,b] at h2;cases h2
   have h3:3<=x.op:=by
    rcases vP x d with h|⟨o,h⟩
    ·rcases l8 x d with h'|⟨o,_⟩
     ·exact absurd ⟨h,h'⟩ hno
     ·exact o
    ·exact o
   refine Bu hG ⟨by omega,by omega⟩ hx (by omega) hl hr h3 (λh=> ?_) hno;rcases l8 x d with h'|⟨_,o,_⟩
   ·exact absurd h' h
   ·exact o
theorem oH {ni:Nat} {input:Int}: ∀{r:ze3} {l:ze3} {d:List Int},GL ni l->d.length+r.length<=l.length->(∀j,j<r.length->NodeOK ni (d.length+j) (mb noN r j))->(∀v∈d,InD l.length v)->
 GL ni (aN input r d.length l d).1/\(∀v∈(aN input r d.length l d).2,InD (aN input r d.length l d).1.length v)/\(aN input r d.length l d).2.length=d.length+r.length/\(∃m,(aN input r d.length l d).1=l++m)/\(aN input r d.length l d).1.length<=l.length+4*r.length
 | [],l,d,hG,_,_,hd=>⟨hG,hd,rfl,⟨[],by simp[aN]⟩,by simp[aN]⟩
 |x::r,l,d,hG,hlen,hx,hd=>by
  simp only[za4] at hlen;have s:=Bv (x:=x) (input:=input) hG (by omega) (by have:=hx 0 (by simp);rwa[zaZ] at this) hd;obtain⟨m,hm⟩:=s.pre;have h4:=vO input d.length x (dlF x d) (drF x d) l;have hle:l.length<=(stepF input d.length x (dlF x d) (drF x d) l).1.length:=by rw[hm];simp
  have e:((d++ [(stepF input d.length x (dlF x d) (drF x d) l).2]).length:Int)=(d.length:Int)+1:=by simp
  have:=oH (input:=input) (r:=r) (l:=(stepF input d.length x (dlF x d) (drF x d) l).1) (d:=d++ [(stepF input d.length x (dlF x d) (drF x d) l).2]) s.gl (by simp;omega) (λj hj=>by
   have:=hx (j+1) (by simpa using hj);rw[za3,za6,show d.length+1+j=d.length+(j+1) by omega];exact this) (λv hv=>by
   rcases za8.1 hv with hv|hv
   ·rcases hd v hv with h|h
    ·exact .inl h
    ·exact .inr ⟨h.1,by omega⟩
   ·rw[zaj.1 hv];exact s.d)
  rw[e] at this;simp only[aN];refine⟨this.1,this.2.1,by rw[this.2.2.1];simp;omega, ?_,by have:=this.2.2.2.2;simp only[za4];omega⟩;obtain⟨m',hm'⟩:=this.2.2.2.1;exact⟨m++m',by rw[hm',hm,za5]⟩
theorem tZ {l:ze3} (hl: ∀j,j<l.length->VN j (mb noN l j)=true): ∀(b:Nat) (f:zdV) (i:Int),0<=i->i<l.length->i.toNat<b->
 cy l b f i i.toNat=true/\ ∀k,cy l b f i k=true->f k=true\/(k<l.length/\ ∀s∈VW (mb noN l k),cy l b f i s.toNat=true)
 |0,f,i,_,_,hb=>absurd hb (zbo _)
 |b+1,f,i,h0,h1,hb=>by
  refine⟨tS l b f i, ?_⟩;unfold cy;cases hf:f i.toNat with
  |true=>exact λk hk=> .inl hk
  |false=>
   rw[zdy];have hi:=bL (hl i.toNat (by omega));have fold: ∀(ss:List Int) (f:zdV),(∀s∈ss,0<=s/\s<i)->
    (∀k,f k=true->ss.foldl (λf j=>cy l b f j) f k=true)/\(∀s∈ss,ss.foldl (λf j=>cy l b f j) f s.toNat=true)/\
    ∀k,ss.foldl (λf j=>cy l b f j) f k=true->f k=true\/(k<l.length/\ ∀s∈VW (mb noN l k),ss.foldl (λf j=>cy l b f j) f s.toNat=true):=by
    intro ss
    induction ss with
    |nil=>exact λf _=>⟨λ_ h=>h,λs hs=>(by cases hs),λk h=> .inl h⟩
    |cons s r ih=>
     intro f hs;have hs0:=hs s (by simp);obtain⟨m1,m2⟩:=tZ hl b f s hs0.1 (by omega) (by omega);obtain⟨a1,a2,a3⟩:=ih (cy l b f s) λt ht=>hs t (zan _ ht);simp only[zbf];refine⟨λk h=>a1 k (nf l b f s k h),λt ht=> ?_,λk hk=> ?_⟩
     ·rcases zai.1 ht with rfl|ht
      ·exact a1 _ m1
      ·exact a2 t ht
     ·rcases a3 k hk with h|h
      ·rcases m2 k h with h|⟨hk,h⟩
       ·exact .inl h
       ·exact .inr ⟨hk,λt ht=>a1 _ (h t ht)⟩
      ·exact .inr h
   obtain⟨a1,a2,a3⟩:=fold (VW (mb noN l i.toNat)) (λk=>Nat.beq k i.toNat||f k) λs hs=>by
    have:=hi s hs;omega
   intro k hk;rcases a3 k hk with h|h
   ·simp only[zav,bS,zdB] at h;rcases h with rfl|h
    ·exact .inr ⟨by omega,a2⟩
    ·exact .inl h
   ·exact .inr h
variable {last:Int}
theorem nj (hl: ∀j,j<l.length->VN j (mb noN l j)=true) (h0:0<=last) (h1:last<l.length):bX l last last.toNat=true/\ ∀k,bX l last k=true->k<l.length/\ ∀s∈VW (mb noN l k),bX l last s.toNat=true:=by
 obtain⟨a,b⟩:=tZ hl l.length (λ_=>false) last h0 h1 (by omega);exact⟨a,λk hk=>(b k hk).resolve_left (by simp)⟩
theorem fP (num:Nat->Int) (x:Nd):(3<=x.op/\x.op<=6/\dO num x={x with l:=num x.l.toNat,r:=num x.r.toNat})\/((x.op=7\/x.op=8)/\dO num x={x with l:=num x.l.toNat})\/(¬(3<=x.op/\x.op<=8)/\dO num x=x):=by
 by_cases a:3<=x.op/\x.op<=6
 ·exact .inl ⟨a.1,a.2,oE a.1 a.2⟩
 by_cases b:x.op=7\/x.op=8
 ·exact .inr (.inl ⟨b,oF b⟩)
 ·have: ¬(3<=x.op/\x.op<=8):=by omega
  exact .inr (.inr ⟨this,ri this⟩)
theorem xu (num:Nat->Int) (x:Nd):szN (dO num x)=szN x:=by
 rcases fP num x with ⟨_,_,h⟩|⟨_,h⟩|⟨_,h⟩<;>rw[h]<;>rfl
theorem nr {ni:Nat} {need:zdV} {l0:ze3} (hc: ∀k,need k=true-> ∀s∈VW (mb noN l0 k),need s.toNat=true) (hG:GL ni l0): ∀(r:ze3) (i:Nat) (out:ze3) (num:Nat->Int),r=l0.drop i->i+r.length=l0.length->GL ni out->
 (∀k,k<i->need k=true->0<=num k/\num k<out.length)->GL ni (keepL need r i out num)
 | [],i,out,num,_,_,ho,_=>ho
 |x::r,i,out,num,hr,hlen,ho,hn=>by
  simp only[za4] at hlen;have hx:mb noN l0 i=x:=bR (by rw[<-zce,<-hr];rfl);have hr':r=l0.drop (i+1):=by rw[<-zcf,<-hr];rfl
  unfold keepL;cases hni:need i with
  |false=>
   rw[zdy];exact nr hc hG r (i+1) out num hr' (by omega) ho λk hk h=>by
    rcases(show k<i\/k=i by omega) with h'|rfl
    ·exact hn k h' h
    ·rw[hni] at h;cases h
  |true=>
   rw[zdz];obtain⟨g1,g2⟩:=hG i (by omega);rw[hx] at g1 g2;have hcl:=hc i hni;rw[hx] at hcl;have hsd: ∀s∈VW x,0<=s/\s<i:=by
    unfold nodeIn at g1;rw[za2] at g1;exact bL g1.1
   have S: ∀s∈VW x,0<=num s.toNat/\num s.toNat<out.length:=λs hs=>hn _ (by have:=hsd s hs;omega) (hcl s hs);refine nr hc hG r (i+1) _ _ hr' (by omega) (ho.snoc ?_ (by rw[xu];exact g2)) λk hk h=> ?_
   ·rcases fP num x with ⟨o1,o2,e⟩|⟨o,e⟩|⟨o,e⟩
    ·rw[e];rw[aQ o1 o2] at S;exact ng o1 o2 (S _ (by simp)) (S _ (by simp))
    ·rw[e];rw[bF o] at S;exact nh o (S _ (by simp))
    ·rw[e];refine jJ o λo2=> ?_;unfold nodeIn at g1;rw[o2] at g1;simp only[za2] at g1;simpa using g1.2
   ·unfold nc;rw[bS];simp only[za3,za6];by_cases e:k=i
    ·simp only[e,decide_true,zdz];omega
    ·simp only[e,decide_false,zdy];have:=hn k (by omega) h;omega
theorem t0 (hG:GL ni l) (h0:0<=last) (h1:last<l.length):GL ni (cG l last):=by
 have hs: ∀j,j<l.length->VN j (mb noN l j)=true:=λj hj=>by
  have:=(hG j hj).1;unfold nodeIn at this;rw[za2] at this;exact this.1
 obtain⟨_,hc⟩:=nj hs h0 h1;exact nr (λk hk=>(hc k hk).2) hG l 0 [] _ rfl (by simp) (λj hj=>absurd hj (zbo _)) λk hk=>absurd hk (zbo _)
theorem Y0 {inp:ze2} (hi: ∀u∈inp,szB u=true): ∀{l:ze3} {us vs:ze2},(∀x∈l,szN x=true)->(∀u∈us,szB u=true)->lA inp l us=some vs-> ∀u∈vs,szB u=true
 | [],us,vs,_,hu,h=>by simp only[lA,za1] at h;subst h;exact hu
 |x::r,us,vs,hx,hu,h=>by
  unfold lA at h;cases hh:(ez inp us x).2==0 with
  |false=>rw[hh] at h;cases h
  |true=>
   rw[hh,zdz] at h;refine Y0 hi (λy hy=>hx y (zan _ hy)) (λv hv=> ?_) h;rcases za8.1 hv with hv|hv
   ·exact hu v hv
   ·rw[zaj.1 hv];exact zq (hx x (by simp)) hi hu
theorem C4 (hs:cw p=true):szB (fO p).1=true:=by
 unfold cw at hs;simp only[za2,zaf] at hs;unfold fO;cases decide ((p.nod.length:Int)>40) with
 |true=>exact iA
 |false=>
  rw[zdy];cases h:lA p.inp p.nod [] with
  |none=>exact iA
  |some us=>exact eH (Y0 hs.1.1 hs.1.2 (λu hu=>by cases hu) h) _
def zP:Pr:=⟨0, [], [],noU⟩
def cT (q:Pr):Pr×Int:=bif !(fO q).2|| !VM {q with out:=(fO q).1} then(zP,100) else({q with out:=(fO q).1},0)
def aG (p:Pr) (input:Int):Pr×Int:=
 bif !VM p||decide (input<0)||decide (input≥(p.inp.length:Int)) then(zP,100) else
 bif mb 0 (aN input p.nod 0 p.nod []).2 (p.nod.length - 1) != -1 then cT ⟨p.id,p.inp,cG (aN input p.nod 0 p.nod []).1 (mb 0 (aN input p.nod 0 p.nod []).2 (p.nod.length - 1)),noU⟩ else
 bif (fd (bB p.out) (bB (mb noU p.inp input.toNat))).2 !=0 then(zP,100) else cT ⟨p.id,p.inp, [oG (fd (bB p.out) (bB (mb noU p.inp input.toNat))).1],noU⟩
theorem GL.nodesIn (h:GL p.inp.length p.nod):nodesIn p=true:=Wk.2 λj hj=>(h j hj).1
theorem GL.szs (h:GL ni l): ∀x∈l,szN x=true:=λx hx=>by
 obtain⟨j,hj⟩:=zbz hx;have hlt:j<l.length:=(zaV.1 hj).1;have:=(h j hlt).2;rwa[bR hj] at this
variable {K0:DK0} {K1:DK1}
theorem zt {i n2:Nat} {C:Blk} {nod:ze3} (hp:cw p=true) (hi:p.inp.length<=1000000) (hn2:n2<=1000000) (h1:1<=n2) (hlen:n2=nod.length) (hl:eN.list n2 C.get=nod) (hb:n2<=C.n) (hg:eN.good szN n2 C.get=true) (hG:GL p.inp.length nod)
 (k0:cT ⟨p.id,p.inp,nod,noU⟩=(zP,100)->K0 0 (ci noU) 100) (k1:cT ⟨p.id,p.inp,nod,noU⟩=(⟨p.id,p.inp,nod,(fO ⟨p.id,p.inp,nod,noU⟩).1⟩,0)->K1 i p.inp.length (eU.own p.inp) j n2 C p.id (ci (fO ⟨p.id,p.inp,nod,noU⟩).1) 0):CZ p i j n2 C K0 K1:=by
 have gi:eU.list p.inp.length (eU.get p.inp)=p.inp:=El.list_get;have hp':=hp;unfold cw at hp';simp only[za2,zaf] at hp';have hq:cw ⟨p.id,p.inp,nod,noU⟩=true:=by
  unfold cw;simp only[za2,zaf];exact⟨⟨hp'.1.1,hG.szs⟩,iA⟩
 have nd: ∀u,szB u=true->kp p.inp.length p.inp.length (eU.get p.inp) n2 C.n C.get u=true:=λu hu=>by
  unfold kp bW;rw[zae (za0 _),zae hb,zae hi,zae hn2,El.good_get hp'.1.1,hg,hu];rfl
 unfold CZ;simp only[gi,hl];refine ac (by rw[nd noU iA,zdx (by omega),GL.nodesIn (p:=⟨p.id,p.inp,nod,noU⟩) hG];rfl) λ_ _=>ah (λh=>k0 ?_) (λh=>ac (nd _ (C4 hq)) λ_ _=>ah (λg=>k0 ?_) (λg=>k1 ?_))
 ·unfold cT;rw[h];rfl
 ·unfold cT;rw[h];replace g:(!VM ⟨p.id,p.inp,nod,(fO ⟨p.id,p.inp,nod,noU⟩).1⟩)=true:=g;simp only[g];rfl
 ·unfold cT;rw[h];replace g:(!VM ⟨p.id,p.inp,nod,(fO ⟨p.id,p.inp,nod,noU⟩).1⟩)=false:=g;simp only[g];rfl
theorem NodeOK.nodeIn (h:NodeOK ni n x):nodeIn ni n x=true:=by
 have:=h.op;by_cases o:3<=x.op/\x.op<=6
 ·exact ng o.1 o.2 (h.left o.1) (h.right o.1 o.2)
 by_cases o':x.op=7\/x.op=8
 ·exact nh o' (h.left (by omega))
 ·exact jJ (by omega) h.inp
theorem NodeOK.uInt (h:NodeOK ni n x) (hi:ni<=1000000):uInt x.n=true/\uInt (x.n - 1)=true:=by
 have hop:=h.op;have z:x.op≠2->x.op≠7->x.n=0:=λo2 o7=>by
  have hf:=h.form;unfold VT at hf;have key: ∀{a:RS} {b:Un} {c d:Int},eqN ⟨0,a,b,x.n,c,d⟩ noN=true->x.n=0:=λh=>by
   unfold eqN at h;simp only[za2] at h;exact beq_iff_eq.1 h.2.2.2.1
  by_cases o1:x.op=1
  ·rw[o1] at hf;exact key hf
  rw[zdE o1,zdE o2,zdE o7] at hf;simp only[zdy] at hf;cases h36:decide (3<=x.op)&&decide (x.op<=6) with
  |true=>
   rw[h36,zdz] at hf;simp only[za2] at hf;exact key hf.1.1
  |false=>
   rw[h36,zdy] at hf;cases h8:x.op==8 with
   |true=>
    rw[h8,zdz,za2] at hf;exact key hf.1
   |false=>rw[h8] at hf;cases hf
 have hb: -4<=x.n/\x.n<=1000000:=by
  by_cases o2:x.op=2
  ·have:=h.inp o2;omega
  by_cases o7:x.op=7
  ·have:=h.pow o7;omega
  ·rw[z o2 o7];omega
 exact⟨V4.2 (by omega),V4.2 (by omega)⟩
theorem cV (h:VM p=true):p.inp.length<=6/\1<=p.nod.length/\p.nod.length<=40:=by
 have:=Wb.1 (bQ h).1;refine⟨?_, ?_, ?_⟩<;>omega
theorem IW (h:VM p=true) (hs:cw p=true):GL p.inp.length p.nod:=λj hj=>by
 unfold cw at hs;simp only[za2,zaf] at hs;exact⟨((bQ h).2 j hj).nodeIn,hs.1.2 _ (bw hj)⟩
structure DerOK (p:Pr) (q:List Nd×List Int):Prop where
 gl:GL p.inp.length q.1
 d: ∀v∈q.2,InD q.1.length v
 len:q.2.length=p.nod.length
 pre: ∃m,q.1=p.nod++m
 le:q.1.length<=200
theorem IX (h:VM p=true) (hs:cw p=true) (input:Int):DerOK p (aN input p.nod 0 p.nod []):=by
 obtain⟨b1,b2,b3⟩:=cV h;obtain⟨g1,g2,g3,g4,g5⟩:=oH (ni:=p.inp.length) (input:=input) (r:=p.nod) (l:=p.nod) (d:= []) (IW h hs) (by simp) (λj hj=>by rw[za9,za7];exact(bQ h).2 j hj) (λv hv=>by cases hv);exact⟨g1,g2,by rw[za9,za7] at g3;exact g3,g4,zac g5 (by omega)⟩
theorem or3 (a b c:Bool):(bif (bif a then true else b) then true else c)=(a||b||c):=by cases a<;>cases b<;>rfl
theorem E8 (x:Nd):eN.list 1 (IV x).get= [x]:=by
 show [Vh ((svN x).take 26)]= [x];rw[show (svN x).take 26=svN x from rfl,fR]
theorem E9 (h:szN x=true):eN.good szN 1 (IV x).get=true:=El.good_iff.2 λe he=>by
 obtain rfl:e=0:=by omega
 show (svN x).take 26=svN (Vh ((svN x).take 26))/\szN (Vh ((svN x).take 26))=true;rw[show (svN x).take 26=svN x from rfl,fR];exact⟨rfl,h⟩
def Qk (p:Pr) (input:Int) (K1:DK1):Prop:= ∀(q:Pr) (i j n2:Nat) (C:Blk),aG p input=(q,0)->q.id=p.id->q.inp=p.inp->n2=q.nod.length->1<=n2->(i=43\/i=44)->(j=57\/j=101)->(C=eN.own q.nod\/ ∃x,q.nod= [x]/\C=IV x)->K1 i p.inp.length (eU.own p.inp) j n2 C p.id (ci q.out) 0
theorem zu {i:Nat} (hs:cw p=true) (hv:VM p=true) (hi0:0<=input) (hi1:input<p.inp.length) (hi:i=43\/i=44)
 (k0:aG p input=(zP,100)->K0 0 (ci noU) 100) (k1:Qk p input K1):C0 p input i (p.nod.length,aN input p.nod 0 p.nod []) K0 K1:=by
 obtain⟨b1,b2,b3⟩:=cV hv;have D:=IX hv hs input;have hs':=hs;unfold cw at hs';simp only[za2,zaf] at hs';have gn: ∀l:ze3,eN.list l.length (eN.get l)=l:=λl=>El.list_get;have gl: ∀e,eU.nth p.inp e=mb noU p.inp e:=λe=>rfl;generalize hq:aN input p.nod 0 p.nod []=q at D;obtain⟨l,d⟩:=q;have dF:aG p input=bif mb 0 d (p.nod.length - 1) != -1 then cT ⟨p.id,p.inp,cG l (mb 0 d (p.nod.length - 1)),noU⟩ else
  bif (fd (bB p.out) (bB (mb noU p.inp input.toNat))).2 !=0 then(zP,100) else cT ⟨p.id,p.inp, [oG (fd (bB p.out) (bB (mb noU p.inp input.toNat))).1],noU⟩:=by
  unfold aG;rw[hq,hv,zdA (by omega),zdA (by omega)];rfl
 have dlen:d.length=p.nod.length:=D.len;have el:(0+((d.length:Int) - 1).toNat)=p.nod.length - 1:=by omega
 have hlast:=D.d _ (bw (d:=0) (l:=d) (e:=p.nod.length - 1) (by omega));unfold C0;simp only[gn,el];refine ac ?_ λ_ _=>ac (VP.2 (by omega)) (ac ?_ (ac (zdx (by omega)) (ah (λh=> ?_) (λh=> ?_))))
 ·unfold bW;rw[zae (za0 _),zae (show p.inp.length<=1000000 by omega),El.good_get (λ_ _=>rfl),zdx (show 0<p.inp.length by omega)];rfl
 ·rw[zdx (by omega),zdx (by omega),zdx (by omega)];rfl
 ·have hne:mb 0 d (p.nod.length - 1)≠ -1:=by simpa using h
  have hr:=hlast.resolve_left hne;have hk:1<=(cG l (mb 0 d (p.nod.length - 1))).length/\(cG l (mb 0 d (p.nod.length - 1))).length<=l.length:=pQ hr.1 hr.2;have hG:=t0 D.gl hr.1 hr.2;have hsd:dH l.length (eN.get l)=true:=V5.2 λj hj=>by
   have:=(D.gl j hj).1;unfold nodeIn at this;rw[za2] at this;show VN j (Vh (svN (mb noN l j)))=true;rw[fR];exact this.1
  rw[h,zdz] at dF;have hle:l.length<=200:=D.le;refine ac ?_ λ_ _=>zt hs (by omega) (by omega) hk.1 rfl (gn _) (za0 _) (El.good_get hG.szs) hG (λe=>k0 (dF.trans e)) λe=>k1 _ _ _ _ _ (dF.trans e) rfl rfl rfl hk.1 hi (.inl rfl) (.inl rfl);unfold bW;rw[zae (za0 _),zae (show l.length<=1000000 by omega),El.good_get (λ_ _=>rfl),zdx hr.1,zdx hr.2,hsd];rfl
 ·rw[h,zdy] at dF;have ei:0+input.toNat=input.toNat:=za7 _;rw[ei];simp only[gl];have su:=hs'.1.1 _ (bw (d:=noU) (l:=p.inp) (e:=input.toNat) (by omega));refine ac hs'.2 (ac ?_ (ac (zdx (by omega)) (ac su (ac ?_ (ah (λg=>k0 ?_) (λg=> ?_))))))
  ·rw[zdx hi0,zdx hi1,zdx (by omega)];rfl
  ·rw[show aH (bB p.out)=true from oD hs'.2,show aH (bB (mb noU p.inp input.toNat))=true from oD su];rfl
  ·rw[dF,g];rfl
  ·rw[g,zdy] at dF;have sz:szN (oG (fd (bB p.out) (bB (mb noU p.inp input.toNat))).1)=true:=by
    unfold szN oG pureF;rw[gu];exact oA _ _
   have hG:GL p.inp.length [oG (fd (bB p.out) (bB (mb noU p.inp input.toNat))).1]:=λj hj=>by
    obtain rfl:j=0:=by simpa using hj
    exact⟨jJ (by show ¬(3<=(1:Int)/\(1:Int)<=8);omega) (λe=>absurd (show (1:Int)=2 from e) (by decide)),sz⟩
   exact zt hs (by omega) (by decide) (za0 1) rfl (E8 _) (za0 1) (E9 sz) hG (λe=>k0 (dF.trans e)) λe=>k1 _ _ _ _ _ (dF.trans e) rfl rfl rfl (za0 1) hi (.inr rfl) (.inr ⟨_,rfl,rfl⟩)
theorem IY (hs:cw p=true) (h1:p.inp.length<=1000000) (h2:p.nod.length<=1000000) (k0:aG p input=(zP,100)->K0 0 (ci noU) 100) (k1:Qk p input K1):dvT (OR input p.nod) p.nod.length p input K0 K1:=by
 unfold dvT;rw[fN,or3];refine ac (eY hs h1 h2) λ_ _=>ah (λh=>k0 ?_) (λh=> ?_)
 ·unfold aG;rw[h];rfl
 ·simp only[zbt,zca,zdH] at h;obtain⟨⟨hv,hi0⟩,hi1⟩:=h;obtain⟨b1,b2,b3⟩:=cV hv;have gn:eN.list p.nod.length (eN.get p.nod)=p.nod:=El.list_get;rw[gn,L8];refine ac ?_ λ_ _=>E7 b2 (by omega) (λj hj=> ?_) (λj hj=>((bQ hv).2 j hj).uInt (by omega)) ⟨zu hs hv (by omega) (by omega) (.inl rfl) k0 k1,zu hs hv (by omega) (by omega) (.inr rfl) k0 k1⟩
  ·unfold bW;rw[zae (za0 _),zae h2,El.good_get (λ_ _=>rfl),zdx (show 0<p.nod.length by omega)];rfl
  ·have:=((bQ hv).2 j hj).nodeIn;unfold nodeIn at this;rw[za2] at this;exact this.1
def prO (nx:Nat) (q:Pr×Int):SV:= .tup [.agg (.val (.int .i64 q.1.id):: .slc nx 0 q.1.inp.length:: .slc (nx+1) 0 q.1.nod.length::ci q.1.out), .val (.int .i64 q.2)]
def prW (q:Pr×Int):List Blk:= [eU.own q.1.inp,eN.own q.1.nod]
def Ru:MCtr:=λbl nx args=>match args with
 | [s, .val (.int .i64 input)]=>match mC bl s with
   |some a=>some {X:=Unit,pre:=a.need,spec:=λ_=>True,out:=λ_=>prO nx (aG a.p input),nw:=λ_=>prW (aG a.p input),ex:=λ_=>⟨(),trivial⟩}
   |none=>none
 |_=>none
theorem vQ (h:prK K0 K1 r b m w):(∃id rest e,r= .ok (.tup [.agg (.val (.int .i64 id):: .val (.slice none 0 0):: .val (.slice none 0 0)::rest), .val (.int .i64 e)])/\K0 id rest e)\/
 ∃id i n j m B C rest e,r= .ok (.tup [.agg (.val (.int .i64 id):: .slc i 0 n:: .slc j 0 m::rest), .val (.int .i64 e)])/\b i=some B/\b j=some C/\K1 i n B j m C id rest e:=by
 unfold prK at h;split at h
 ·rename_i id s1 s2 rest e;split at h
  ·exact .inl ⟨id,rest,e,rfl,h⟩
  ·rename_i i n j m;split at h
   ·rename_i B C hB hC;exact .inr ⟨id,i,n,j,m,B,C,rest,e,rfl,hB,hC,h⟩
   ·exact h.elim
  ·exact h.elim
 ·exact h.elim
theorem oI (q:Pr):cT q=(zP,100)\/(VM (cT q).1=true/\cT q=({q with out:=(fO q).1},0)):=by
 unfold cT;cases h: !(fO q).2|| !VM {q with out:=(fO q).1} with
 |true=>exact .inl rfl
 |false=>
  simp only[zbt,zca] at h;exact .inr ⟨h.2,rfl⟩
theorem kg (p:Pr) (input:Int):aG p input=(zP,100)\/((aG p input).2=0/\VM p=true/\0<=input/\input<p.inp.length/\VM (aG p input).1=true/\(aG p input).1.inp=p.inp/\(aG p input).1.id=p.id):=by
 unfold aG;cases h: !VM p||decide (input<0)||decide (input≥(p.inp.length:Int)) with
 |true=>exact .inl rfl
 |false=>
  simp only[zbt,zca,zdH] at h;obtain⟨⟨hv,h0⟩,h1⟩:=h;have T: ∀q:Pr,q.inp=p.inp->q.id=p.id->cT q=(zP,100)\/((cT q).2=0/\VM p=true/\0<=input/\input<p.inp.length/\VM (cT q).1=true/\(cT q).1.inp=p.inp/\(cT q).1.id=p.id):=λq e1 e2=>by
   rcases oI q with h|⟨a,b⟩
   ·exact .inl h
   ·exact .inr ⟨by rw[b],hv,by omega,by omega,a,by rw[b];exact e1,by rw[b];exact e2⟩
  rw[zdy];cases mb 0 (aN input p.nod 0 p.nod []).2 (p.nod.length - 1) != -1 with
  |true=>rw[zdz];exact T _ rfl rfl
  |false=>
   rw[zdy];cases (fd (bB p.out) (bB (mb noU p.inp input.toNat))).2 !=0 with
   |true=>exact .inl rfl
   |false=>rw[zdy];exact T _ rfl rfl
theorem Rn: ∀B:Base,GlobB B->VU prog B 12 Ru:=eW L6 λbl nx args C hk hp=>by
 unfold Ru at hk;split at hk
 ·rename_i s input;split at hk
  ·rename_i a ha;simp only[za1] at hk;subst hk;obtain⟨s1,s2,s3,s4,s5,s6⟩:=eX (f:=rnF [a.o1,a.o2] [] nx) ha hp rfl rfl;refine⟨[a.o1,a.o2],iK a.p, [kB a.p, .val (.int .i64 input)],IU (OR input a.p.nod) a.p.nod.length,6,aw s1 (aw s2 trivial),bH (cx _),cd (jG _),ar s3 rfl, ?_⟩;refine cQ (K:=prK (λid rest e=>aG a.p input=(zP,100)/\id=0/\rest=ci noU/\e=100) (λi n B j m C id rest e=> ∃q:Pr,aG a.p input=(q,0)/\q.id=a.p.id/\q.inp=a.p.inp/\m=q.nod.length/\1<=m/\(i=43\/i=44)/\(j=57\/j=101)/\(C=eN.own q.nod\/ ∃x,q.nod= [x]/\C=IV x)/\n=a.p.inp.length/\B=eU.own a.p.inp/\id=a.p.id/\rest=ci q.out/\e=0)) ?_ λr bl' m w h=> ?_
   ·rw[Qj];exact IY s4 s5 s6 (λh=>⟨h,rfl,rfl,rfl⟩) λq i j n2 C h1 h2 h3 h4 h5 h6 h7 h8=>⟨q,h1,h2,h3,h4,h5,h6,h7,h8,rfl,rfl,rfl,rfl,rfl⟩
   ·rcases vQ h with ⟨id,rest,e,rfl,h1,rfl,rfl,rfl⟩|⟨id,i,n,j,m',B,C,rest,e,rfl,hB,hC,q,h1,h2,h3,rfl,h5,h6,h7,h8,rfl,rfl,rfl,rfl,rfl⟩
    ·refine⟨(),trivial, [none,none],⟨_,rfl, ?_⟩,by simp[ck],⟨⟨rfl,by rw[h1];rfl,rfl⟩,⟨rfl,by rw[h1];rfl,rfl⟩,trivial⟩,cr (cx _) rfl _⟩;rw[h1];have e:=rns_free (f:=dt [a.o1,a.o2] [none,none] nx) (fj noU);show SV.rn (dt [a.o1,a.o2] [none,none] nx) (prO nx (zP,100))=_;unfold prO;have e0:dt [a.o1,a.o2] [none,none] nx nx=some none:=cO;have e1:dt [a.o1,a.o2] [none,none] nx (nx+1)=some none:=jA 1;exact xh (ar (Xs (ar rfl (ar (by simp only[SV.rn,e0];rfl) (ar (by simp only[SV.rn,e1];rfl) e)))) rfl)
    ·have hin:1<=a.p.inp.length:=by
      rcases kg a.p input with h|h
      ·rw[h1] at h;cases h
      ·omega
     have e:=rns_free (f:=dt [a.o1,a.o2] [some i,some j] nx) (fj q.out);have e0:dt [a.o1,a.o2] [some i,some j] nx nx=some (some i):=cO;have e1:dt [a.o1,a.o2] [some i,some j] nx (nx+1)=some (some j):=jA 1;refine⟨(),trivial, [some i,some j],⟨_,rfl, ?_⟩,by simp[ck];omega,⟨⟨by simp[iK];omega, ?_⟩,⟨by simp[iK];omega, ?_⟩,trivial⟩,cr (cx _) rfl _⟩
     ·rw[h1];show SV.rn (dt [a.o1,a.o2] [some i,some j] nx) (prO nx (q,0))=_;unfold prO;dsimp only;rw[h2,h3];exact xh (ar (Xs (ar rfl (ar (by simp only[SV.rn,e0]) (ar (by simp only[SV.rn,e1]) e)))) rfl)
     ·rw[hB,h1];dsimp only;rw[h3];exact⟨by simp[El.own],λ_=>⟨hin,eU.one⟩,gC rfl rfl (za0 _) λ_ _=>rfl⟩
     ·rw[hC,h1];dsimp only;refine⟨by simp[El.own],λ_=>⟨h5,eN.one⟩, ?_⟩;rcases h8 with rfl|⟨x,hx,rfl⟩
      ·exact gC rfl rfl (za0 _) λ_ _=>rfl
      ·rw[hx];exact gC rfl rfl (za0 _) λe he=>by
        obtain rfl:e=0:=by simpa using he
        rfl
  ·cases hk
 ·cases hk
def Ql:ze0:= [(19,zm),(12,Ru)]
theorem L9:MOk Ql:=(MOk.nil.cons Rn).cons tP
abbrev GX:=Int×List RS
def C5 (I:GX->Prop) (N:Int):zdY:=λf k=>bif Nat.beq f 39&&Nat.beq k 6 then some (λA=>{X:=GX,inv:=I,tm:=λx=> [(25, .val (.int .i64 x.1)),(8, .slc A.nx 0 x.2.length)],gr:= [{src:= .slot 8,sz:=2,n:=λx=>x.2.length,get:=λx=>eR.get x.2}],cleanG:=λg hg x e=>by simp at hg;subst hg;exact eR.ids _,mu:=λx=>(N - x.1).toNat,keep:= [1,2,24]}) else none
def evB (p:Pr) (ins:List RS):Bool:=jn p&&(Nat.ble ins.length ins.length&&Nat.beq 2 2&&true)&&bW ins.length&&eR.good uzR ins.length (eR.get ins)
def rk (ins:List RS):List RS:=eR.list ins.length (eR.get ins)
def gdM (q ni li:Nat) (p:Int) (n:Nat) (us:zdS) (z:GX):Prop:=
 (TV.v (cI.enc p)=TV.v (cI.enc z.1)/\TV.v (.slc q 0 n)=TV.v (.slc q 0 z.2.length)/\tvE (.slc 2 0 li)/\cg 3/\tvE (cI.enc (ni:Int))/\True)/\(True/\(True/\(af (Nat.beq 2 2&&decide (z.2.length<=n)) (∀e,e<z.2.length->us e=eR.get z.2 e)/\True)))
def C6:SV:= .tup [.val (.slice none 0 0), .val (.int .i64 100)]
def IZ (I:GX->Prop) (N:Int) (p:Pr) (ins:List RS) (KS:Nat->Nat->Blk->List SV->Prop) (Q:zdW):Prop:=
 af (evB p ins) (Unit->True->ag ((bn (dm p) (rk ins)).2 !=0) (Q C6)
 (∃z0:GX,I z0/\(((TV.v (cI.enc 0)=TV.v (cI.enc z0.1)/\TV.v (.val (.slice none 0 0))=TV.v (.val (.slice none z0.2.length 0))/\tvE (.slc 2 0 ins.length)/\cg 3/\tvE (cI.enc (p.inp.length:Int))/\True)/\(True/\(True/\(z0.2.length=0/\True))))/\
   ∀z:GX,I z->ag (decide (z.1<(p.inp.length:Int)))
    (af (jn p) (Unit->True->af (evB (aG (dm p) z.1).1 ins) (Unit->True->
      ag (bif (aG (dm p) z.1).2 !=0 then true else(bn (dm (aG (dm p) z.1).1) (rk ins)).2 !=0) (Q C6)
      (LP z.2.length (af (inR .i64 (z.1+1)) (∃z':GX,I z'/\((N - z'.1).toNat<(N - z.1).toNat/\gdM 52 p.inp.length ins.length (z.1+1) (z.2.length+1) (ct (eR.get z.2) (λe=>((gA (bn (dm (aG (dm p) z.1).1) (rk ins)).1).drop (e*2)).take 2) z.2.length 0) z')))))))
    (KS 21 z.2.length {n:=z.2.length,sz:=2,get:=eR.get z.2,kd:= .own,nn:=false} [.val (.int .i64 0)]))))
theorem Ma (I:GX->Prop) (N:Int) (p:Pr) (ins:List RS) (KS:Nat->Nat->Blk->List SV->Prop) (Q:zdW):dk Ql (C5 I N) 6 39 [kB p, .slc 2 0 ins.length] [eU.old p.inp,eN.old p.nod,eR.old ins] (slK KS Q)=IZ I N p ins KS Q:=by kernel_rfl
structure Du where
 v:Rat
 d:Rat
theorem Du.eq {a b:Du} (h:a.v=b.v) (k:a.d=b.d):a=b:=by cases a;cases b;simp only at h k;rw[h,k]
def Du.add (a b:Du):Du:=⟨a.v+b.v,a.d+b.d⟩
def Du.sub (a b:Du):Du:=⟨a.v - b.v,a.d - b.d⟩
def Du.mul (a b:Du):Du:=⟨a.v*b.v,a.d*b.v+a.v*b.d⟩
def Du.inv (a:Du):Du:=⟨a.v⁻¹, -(a.d*(a.v⁻¹ *a.v⁻¹))⟩
def Du.num (z:Int):Du:=⟨(z:Rat),0⟩
def Du.pow (a:Du):Nat->Du
 |0=> .num 1
 |k+1=>(Du.pow a k).mul a
def dA (a:Du) (n:Int):Du:=bif decide (n<0) then(a.pow (jH n).toNat).inv else a.pow (jH n).toNat
theorem Du.zero_add (a:Du):(Du.num 0).add a=a:=Du.eq (by simp[add,num]<;>grind) (by simp[add,num]<;>grind)
theorem Du.add_zero (a:Du):a.add (.num 0)=a:=Du.eq (by simp[add,num]<;>grind) (by simp[add,num]<;>grind)
theorem Du.sub_zero (a:Du):a.sub (.num 0)=a:=Du.eq (by simp[sub,num]<;>grind) (by simp[sub,num]<;>grind)
theorem Du.zero_sub (a:Du):(Du.num 0).sub a=(Du.num (-1)).mul a:=Du.eq (by simp[sub,num,mul]<;>grind) (by simp[sub,num,mul]<;>grind)
theorem Du.zero_mul (a:Du):(Du.num 0).mul a= .num 0:=Du.eq (by simp[num,mul]<;>grind) (by simp[num,mul]<;>grind)
theorem Du.mul_zero (a:Du):a.mul (.num 0)= .num 0:=Du.eq (by simp[num,mul]<;>grind) (by simp[num,mul]<;>grind)
def evD (ins W:Nat->Du) (x:Nd):Du:=
 bif x.op==1 then⟨qV x.v,0⟩ else
 bif x.op==2 then ins x.n.toNat else
 bif x.op==3 then(W x.l.toNat).add (W x.r.toNat) else
 bif x.op==4 then(W x.l.toNat).sub (W x.r.toNat) else
 bif x.op==5 then(W x.l.toNat).mul (W x.r.toNat) else
 bif x.op==6 then(W x.l.toNat).mul (W x.r.toNat).inv else
 bif x.op==7 then dA (W x.l.toNat) x.n else .num 0
structure Sol (L:List Nd) (need:Nat->Bool) (ins U:Nat->Du):Prop where
 cl: ∀k,need k=true->k<L.length/\ ∀s∈VW (mb noN L k),need s.toNat=true
 ev: ∀k,need k=true->U k=evD ins U (mb noN L k)
structure DOK (need:Nat->Bool) (U:Nat->Du) (t:Int) (y:Du):Prop where
 no:t= -1->y= .num 0
 yes:t≠ -1->0<=t/\(need t.toNat=true->U t.toNat=y)
section
variable {L:ze3} {need:zdV} {ins U W V:Nat->Du}
theorem DOK.at {t:Int} {y:Du} (h0:0<=t) (h:need t.toNat=true->U t.toNat=y):DOK need U t y:=⟨λe=>by omega,λ_=>⟨h0,h⟩⟩
variable {k:Nat} {a:Int}
theorem Sol.op (S:Sol L need ins U) {o b:Int} (h:mb noN L k=opN o a b) (o1:3<=o) (o2:o<=6) (hn:need k=true):need a.toNat=true/\need b.toNat=true/\U k=evD ins U (opN o a b):=by
 have:=(S.cl k hn).2;rw[h,aQ (x:=opN o a b) o1 o2] at this;exact⟨this a (by simp[opN]<;>grind),this b (by simp[opN]<;>grind),by rw[S.ev k hn,h]⟩
theorem C7 (n:Int):Rat.divInt n 1=(n:Rat):=by rw[zd7];grind
variable {n:Int}
theorem vU (hn:n.natAbs<10^9):qV (pureF n).v=(n:Rat):=by
 show qV (rMk n 1).1=_;rw[kL (sm hn) (by decide) (by decide),BW,C7]
theorem Sol.pure (S:Sol L need ins U) (h:mb noN L k=pureF n) (hb:n.natAbs<10^9) (hn:need k=true):U k= .num n:=by
 rw[S.ev k hn,h];show (⟨qV (pureF n).v,0⟩:Du)=_;rw[vU hb];rfl
theorem Sol.pw (S:Sol L need ins U) (h:mb noN L k=⟨7,VI,noU,n,a,0⟩) (hn:need k=true):need a.toNat=true/\U k=dA (U a.toNat) n:=by
 have:=(S.cl k hn).2;rw[h,bF (.inl rfl)] at this;exact⟨this a (by simp),by rw[S.ev k hn,h];rfl⟩
theorem aE {α:Type} {d:α}: ∀(l m:List α) (k:Nat),mb d (l++m) (l.length+k)=mb d m k
 | [],m,k=>by simp
 |x::l,m,k=>by
  rw[zaO,za4,show l.length+1+k=l.length+k+1 by omega];exact aE l m k
theorem ns (n:Nat):((n:Int)+1).toNat=n+1:=by omega
theorem uH (n:Nat):((n:Int)+2).toNat=n+2:=by omega
theorem OT (n:Nat):((n:Int)+3).toNat=n+3:=by omega
theorem eB (n:Nat):((n:Int)).toNat=n:=by omega
end
theorem Fb (input i:Int) (x:Nd) (dl dr:Int) (l:ze3):l<+:(stepF input i x dl dr l).1:=by
 have B: ∀(b:Bool) (p q:List Nd×Int),l<+:p.1->l<+:q.1->l<+:(cond b p q).1:=λb p q h k=>by cases b;exact k;exact h
 have A: ∀{a b:ze3},l<+:a->l<+:a++b:=λh=>h.trans (List.prefix_append _ _);have R:l<+:(bq i x dl dr l).1:=by
  unfold bq;refine B _ _ _ (B _ _ _ ?_ ?_) (B _ _ _ (B _ _ _ ?_ (B _ _ _ ?_ ?_)) (B _ _ _ (B _ _ _ (B _ _ _ ?_ ?_) (B _ _ _ ?_ ?_)) (B _ _ _ (B _ _ _ ?_ (B _ _ _ ?_ ?_)) (B _ _ _ (B _ _ _ ?_ (B _ _ _ ?_ (B _ _ _ ?_ ?_))) ?_))))
  all_goals first|exact zaW l|exact A (zaW l)|exact A (A (zaW l))|exact A (A (A (zaW l)))|exact A (A (A (A (zaW l))))
 unfold stepF;exact B _ _ _ (A (zaW l)) (B _ _ _ (zaW l) R)
theorem lC (input:Int): ∀(r:ze3) (i:Int) (l:ze3) (d:List Int),l<+:(aN input r i l d).1
 | [],i,l,d=>zaW l
 |x::r,i,l,d=>(Fb input i x (dlF x d) (drF x d) l).trans (lC input r _ _ _)
variable {x:Nd}
theorem OU (h:3<=x.op/\x.op<=8) (d:List Int):dlF x d=mb 0 d x.l.toNat:=by
 unfold dlF;have:1<=ax x.op:=by
  by_cases a:3<=x.op/\x.op<=6
  ·rw[VY.2 a];decide
  ·rw[V7.2 (by omega)];decide
 rw[zdx this];rfl
theorem OV (h:3<=x.op/\x.op<=6) (d:List Int):drF x d=mb 0 d x.r.toNat:=by
 unfold drF;rw[VY.2 h];rfl
theorem SN (h: ¬(3<=x.op/\x.op<=6)) (d:List Int):drF x d= -1:=by
 rcases l8 x d with e|⟨a,b,_⟩
 ·exact e
 ·exact absurd ⟨a,b⟩ h
theorem OW (h: ¬(3<=x.op/\x.op<=8)) (d:List Int):dlF x d= -1:=by
 unfold dlF;have: ¬1<=ax x.op:=λk=>by
  have:=gS x.op;rcases(show ax x.op=1\/ax x.op=2 by omega) with e|e
  ·have:=V7.1 e;omega
  ·have:=VY.1 e;omega
 rw[zdA this];rfl
section
variable {L:ze3} {need:zdV} {ins U W V:Nat->Du}
theorem jK {x:Nd} (h: ∀s∈VW x,U s.toNat=W s.toNat):evD ins U x=evD ins W x:=by
 unfold evD;by_cases a:3<=x.op/\x.op<=6
 ·rw[aQ a.1 a.2] at h;rw[h x.l (by simp),h x.r (by simp)]
 ·by_cases b:x.op=7\/x.op=8
  ·rw[bF b] at h;rw[h x.l (by simp)];rw[zdE (show x.op≠3 by omega),zdE (show x.op≠4 by omega),zdE (show x.op≠5 by omega),zdE (show x.op≠6 by omega)];rfl
  ·rw[zdE (show x.op≠3 by omega),zdE (show x.op≠4 by omega),zdE (show x.op≠5 by omega),zdE (show x.op≠6 by omega),zdE (show x.op≠7 by omega)];rfl
def Wx (l:ze3) (ins W:Nat->Du):Prop:= ∀k,k<l.length->W k=evD ins W (mb noN l k)
end
def cnt (need:zdV):Nat->Nat
 |0=>0
 |k+1=>cnt need k+bif need k then 1 else 0
theorem zw {need:zdV} {i:Nat}: ∀{j:Nat},i<=j->cnt need i<=cnt need j
 |0,h=>by rw[show i=0 by omega];exact za0 _
 |j+1,h=>by
  by_cases e:i=j+1
  ·rw[e];exact za0 _
  ·exact zac (zw (show i<=j by omega)) (by rw[cnt];omega)
variable {need:zdV} {j:Nat}
theorem I5 {i:Nat} (h:i<j) (hn:need i=true):cnt need i<cnt need j:=zam (by rw[cnt,hn];simp) (zw (show i+1<=j by omega))
variable {x:Nd}
theorem Bx {f g:Nat->Int} (h: ∀s∈VW x,f s.toNat=g s.toNat):dO f x=dO g x:=by
 rcases fP f x with ⟨a,b,e⟩|⟨a,e⟩|⟨a,e⟩
 ·rw[e,oE a b];rw[aQ a b] at h;rw[h x.l (by simp),h x.r (by simp)]
 ·rw[e,oF a];rw[bF a] at h;rw[h x.l (by simp)]
 ·rw[e,ri a]
theorem nz {need:zdV} {l0:ze3} (hs: ∀k,k<l0.length->need k=true-> ∀s∈VW (mb noN l0 k),s.toNat<k/\need s.toNat=true): ∀(r:ze3) (i:Nat) (out:ze3) (num:Nat->Int),r=l0.drop i->i+r.length=l0.length->out.length=cnt need i->
 (∀k,k<i->need k=true->num k=cnt need k)->(∀k,k<i->need k=true->mb noN out (cnt need k)=dO (λe=>(cnt need e:Int)) (mb noN l0 k))->
 (keepL need r i out num).length=cnt need l0.length/\ ∀k,k<l0.length->need k=true->mb noN (keepL need r i out num) (cnt need k)=dO (λe=>(cnt need e:Int)) (mb noN l0 k)
 | [],i,out,num,_,hlen,ho,_,h2=>by
   simp only[za9] at hlen;obtain rfl:i=l0.length:=by omega
   exact⟨ho,h2⟩
 |x::r,i,out,num,hr,hlen,ho,h1,h2=>by
  simp only[za4] at hlen;have hx:mb noN l0 i=x:=bR (by rw[<-zce,<-hr];rfl);have hr':r=l0.drop (i+1):=by rw[<-zcf,<-hr];rfl
  unfold keepL;cases hn:need i with
  |true=>
   rw[zdz];have hc:cnt need (i+1)=out.length+1:=by rw[cnt,hn,ho];rfl
   refine nz hs r (i+1) _ _ hr' (by omega) (by rw[hc];simp) (λk hk hnk=> ?_) (λk hk hnk=> ?_)
   ·unfold nc;rw[bS];by_cases e:k=i
    ·rw[zdx e,zdz,e,ho]
    ·rw[zdA e,zdy];exact h1 k (by omega) hnk
   ·rw[aS];by_cases e:k=i
    ·rw[if_pos (by rw[e,ho]),e,hx];refine Bx λs hs'=> ?_;obtain⟨a,b⟩:=hs i (by omega) hn s (by rw[hx];exact hs');exact h1 _ a b
    ·have:=I5 (need:=need) (show k<i by omega) hnk;rw[if_neg (by omega)];exact h2 k (by omega) hnk
  |false=>
   rw[zdy];have hc:cnt need (i+1)=out.length:=by rw[cnt,hn,ho];rfl
   refine nz hs r (i+1) _ _ hr' (by omega) hc.symm (λk hk hnk=> ?_) (λk hk hnk=> ?_)
   ·by_cases e:k=i
    ·rw[e,hn] at hnk;cases hnk
    ·exact h1 k (by omega) hnk
   ·by_cases e:k=i
    ·rw[e,hn] at hnk;cases hnk
    ·exact h2 k (by omega) hnk
theorem zx {l:ze3} (hl: ∀j,j<l.length->VN j (mb noN l j)=true): ∀(b:Nat) (f:zdV) (i:Int) (k:Nat),0<=i->i<l.length->cy l b f i k=true->f k=true\/(k:Int)<=i
 |0,f,i,k,_,_,h=> .inl h
 |b+1,f,i,k,h0,h1,h=>by
  unfold cy at h;cases hf:f i.toNat with
  |true=>rw[hf] at h;exact .inl h
  |false=>
   rw[hf,zdy] at h;have hi:=bL (hl i.toNat (by omega));have fold: ∀(ss:List Int) (g:zdV),(∀s∈ss,0<=s/\s<i)->ss.foldl (λf j=>cy l b f j) g k=true->g k=true\/(k:Int)<=i:=by
    intro ss
    induction ss with
    |nil=>exact λg _ h=> .inl h
    |cons s r ih=>
     intro g hs hk;rcases ih _ (λt ht=>hs t (zan _ ht)) hk with h|h
     ·have:=hs s (by simp);rcases zx hl b g s k this.1 (by omega) h with h|h
      ·exact .inl h
      ·exact .inr (by omega)
     ·exact .inr h
   rcases fold _ _ (λs hs=>by have:=hi s hs;omega) h with h|h
   ·simp only[zav,bS,zdB] at h;rcases h with h|h
    ·exact .inr (by omega)
    ·exact .inl h
   ·exact .inr h
variable {n:Nat}
theorem I6 {last:Nat} (h1:last<n) (hn:need last=true) (hle: ∀k,need k=true->k<=last):cnt need n=cnt need last+1:=by
 have: ∀m,last<m->cnt need m=cnt need last+1:=by
  intro m
  induction m with
  |zero=>intro h;omega
  |succ m ih=>
   intro h;rw[cnt];by_cases e:m=last
   ·rw[e,hn];rfl
   ·have:need m=false:=by
     cases hm:need m with
     |false=>rfl
     |true=>have:=hle m hm;omega
    rw[this,ih (by omega)];rfl
 exact this n h1
variable {q:Pr}
theorem nA {r:Pr} (h:cT q=(r,0)):r={q with out:=(fO q).1}:=by
 rcases oI q with e|⟨_,e⟩
 ·rw[e] at h;cases h
 ·rw[e] at h;simp only[zag,and_true] at h;exact h.symm
variable {p:Pr} {input:Int}
theorem nC (h:aG p input=(q,0)):VM p=true/\0<=input/\input<p.inp.length/\
 ((mb 0 (aN input p.nod 0 p.nod []).2 (p.nod.length - 1)≠ -1/\q.nod=cG (aN input p.nod 0 p.nod []).1 (mb 0 (aN input p.nod 0 p.nod []).2 (p.nod.length - 1)))\/
 (mb 0 (aN input p.nod 0 p.nod []).2 (p.nod.length - 1)= -1/\q.nod= [oG (fd (bB p.out) (bB (mb noU p.inp input.toNat))).1])):=by
 rcases kg p input with e|⟨_,hv,h0,h1,_⟩
 ·rw[e] at h;cases h
 refine⟨hv,h0,h1, ?_⟩;unfold aG at h;rw[hv,zdA (by omega),zdA (by omega)] at h;simp only[zbi,Bool.or_false,zdy] at h;cases hl:mb 0 (aN input p.nod 0 p.nod []).2 (p.nod.length - 1) != -1 with
 |true=>
  rw[hl,zdz] at h;exact .inl ⟨by simpa using hl,by rw[nA h]⟩
 |false=>
  rw[hl,zdy] at h;refine .inr ⟨by simpa using hl, ?_⟩;cases hd:(fd (bB p.out) (bB (mb noU p.inp input.toNat))).2 !=0 with
  |true=>rw[hd] at h;cases h
  |false=>rw[hd,zdy] at h;rw[nA h]
def Du.va (a:Du):Du:=⟨a.v,0⟩
variable {ni:Nat}
theorem l9 (ok:NodeOK ni j x): ∀s∈VW x,s.toNat<j:=λs hs=>by
 have:=ok.nodeIn;unfold nodeIn at this;rw[za2] at this;have:=bL this.1 s hs;omega
def duR (r:RS):Du:=⟨qV r,0⟩
theorem t8 {b:RS}: ∀{k:Nat} {v:RS},kC b k=some v->rV v=true/\(duR b).pow k=duR v
 |0,v,h=>by
  simp only[kC,za1] at h;subst h;exact⟨by decide,Du.eq (show ((1:Int):Rat)=qV rI by decide) rfl⟩
 |k+1,v,h=>by
  simp only[kC] at h;split at h
  ·rename_i u hu;obtain⟨_,h2⟩:=t8 hu;obtain⟨e,rfl⟩:=fq h;obtain⟨_,_,g⟩:=mG e;refine⟨g.valid, ?_⟩;show ((duR b).pow k).mul (duR b)=_;rw[h2];refine Du.eq ?_ (by simp[duR,Du.mul]<;>grind);show qV u*qV b=qV (ce u b).1;rw[g.val]
  ·cases h
variable {ins vs:List RS} {v:RS}
theorem Jc (h:valF ins vs x=some v) (ok:NodeOK ni j x) (hc:x.op=1->rV x.v=true) (hi: ∀r∈ins,rV r=true) (hni:ni=ins.length):
 rV v=true/\duR v=evD (λe=>duR (mb VI ins e)) (λk=>duR (mb VI vs k)) x/\x.op≠8:=by
 have hop:=ok.op;rcases(show x.op=1\/x.op=2\/x.op=3\/x.op=4\/x.op=5\/x.op=6\/x.op=7\/x.op=8 by omega) with o|o|o|o|o|o|o|o
 ·unfold valF evD at*
  rw[o] at h ⊢;replace h:some x.v=some v:=h;simp only[za1] at h;subst h;exact⟨hc o,rfl,by decide⟩
 ·have:=ok.inp o;unfold valF evD at*
  rw[o] at h ⊢;replace h:some (mb VI ins x.n.toNat)=some v:=h;simp only[za1] at h;subst h;exact⟨hi _ (bw (by omega)),rfl,by decide⟩
 ·unfold valF evD at*
  rw[o] at h ⊢;obtain⟨e,rfl⟩:=fq (show okR (fZ _ _)=some v from h);obtain⟨_,_,g⟩:=rB e;exact⟨g.valid,Du.eq g.val (by show (0:Rat)=0+0;grind),by decide⟩
 ·unfold valF evD at*
  rw[o] at h ⊢;obtain⟨e,rfl⟩:=fq (show okR (iF _ _)=some v from h);obtain⟨_,_,g⟩:=rC e;exact⟨g.valid,Du.eq g.val (by show (0:Rat)=0 - 0;grind),by decide⟩
 ·unfold valF evD at*
  rw[o] at h ⊢;obtain⟨e,rfl⟩:=fq (show okR (ce _ _)=some v from h);obtain⟨_,_,g⟩:=mG e;exact⟨g.valid,Du.eq g.val (by show (0:Rat)=0*_+_*0;grind),by decide⟩
 ·unfold valF evD at*
  rw[o] at h ⊢;obtain⟨e,rfl⟩:=fq (show okR (cA _ _)=some v from h);obtain⟨_,_,_,g⟩:=jP e;refine⟨g.valid,Du.eq (g.val.trans (Rat.div_def _ _)) ?_,by decide⟩;simp[duR,Du.mul,Du.inv]<;>grind
 ·have e: ∀ins W,evD ins W x=dA (W x.l.toNat) x.n:=λins W=>by unfold evD;rw[o];rfl
  rw[e];unfold valF at h;rw[o] at h
  replace h:(match kC (mb VI vs x.l.toNat) (jH x.n).toNat with
   |some v=>bif decide (x.n<0) then okR (cA rI v) else some v
   |none=>none)=some v:=h
  refine⟨?_, ?_,by omega⟩
  ·split at h
   ·rename_i u hu;obtain⟨u1,u2⟩:=t8 hu;cases hn:decide (x.n<0) with
    |true=>
     rw[hn] at h;obtain⟨e,rfl⟩:=fq h;exact(jP e).2.2.2.valid
    |false=>
     rw[hn] at h;simp only[zdy,za1] at h;subst h;exact u1
   ·cases h
  ·split at h
   ·rename_i u hu;obtain⟨u1,u2⟩:=t8 hu;unfold dA;cases hn:decide (x.n<0) with
    |true=>
     rw[hn] at h;obtain⟨e,rfl⟩:=fq h;have g:=(jP e).2.2.2;rw[zdz,u2];refine Du.eq ?_ (by simp[duR,Du.inv]<;>grind);show qV (cA rI u).1=(qV u)⁻¹;rw[g.val,show qV rI=1 by decide,Rat.div_def,Rat.one_mul]
    |false=>
     rw[hn] at h;simp only[zdy,za1] at h;subst h;rw[zdy,u2]
   ·cases h
 ·unfold valF at h;rw[o] at h;cases h
theorem zz {ins:List RS} {ni:Nat} {nod:ze3} (hN: ∀j,j<nod.length->NodeOK ni j (mb noN nod j)) (hc: ∀j,j<nod.length->(mb noN nod j).op=1->rV (mb noN nod j).v=true) (hi: ∀r∈ins,rV r=true) (hni:ni=ins.length):
 ∀(r:ze3) (acc vs:List RS),iC ins r acc=some vs->r=nod.drop acc.length->acc.length+r.length=nod.length->
 (∀j,j<acc.length->rV (mb VI acc j)=true/\duR (mb VI acc j)=evD (λe=>duR (mb VI ins e)) (λk=>duR (mb VI acc k)) (mb noN nod j)/\(mb noN nod j).op≠8)->
 vs.length=nod.length/\ ∀j,j<nod.length->rV (mb VI vs j)=true/\duR (mb VI vs j)=evD (λe=>duR (mb VI ins e)) (λk=>duR (mb VI vs k)) (mb noN nod j)/\(mb noN nod j).op≠8
 | [],acc,vs,h,_,hlen,hP=>by
   simp only[iC,za1] at h;subst h;simp only[za9,zaZ] at hlen;exact⟨hlen,λj hj=>hP j (by omega)⟩
 |x::r,acc,vs,h,hr,hlen,hP=>by
  simp only[za4] at hlen;have hx:mb noN nod acc.length=x:=bR (by rw[<-zce,<-hr];rfl);have hr':r=nod.drop (acc.length+1):=by rw[<-zcf,<-hr];rfl
  simp only[iC] at h;split at h
  ·rename_i v hv;have ok:=hN acc.length (by omega);have hcx:=hc acc.length (by omega);rw[hx] at ok hcx;refine zz hN hc hi hni r (acc++ [v]) vs h (by simp only[za3,za6];exact hr') (by simp only[za3,za6];omega) λj hj=> ?_;simp only[za3,za6] at hj;have e: ∀k,k<acc.length->mb VI (acc++ [v]) k=mb VI acc k:=λk hk=>by rw[aS,if_neg (by omega)]
   by_cases k:j=acc.length
   ·rw[k,aS,if_pos rfl,hx];obtain⟨a,b,c⟩:=Jc hv ok hcx hi hni;refine⟨a, ?_,c⟩;rw[b];exact jK λs hs=>by rw[e _ (l9 ok s hs)]
   ·obtain⟨a,b,c⟩:=hP j (by omega);rw[e j (by omega)];refine⟨a, ?_,c⟩;rw[b];exact jK λs hs=>by rw[e _ (by have:=l9 (hN j (by omega)) s hs;omega)]
  ·cases h
theorem zA (h:VM p=true): ∀j,j<p.nod.length->(mb noN p.nod j).op=1->rV (mb noN p.nod j).v=true:=by
 unfold VM at h;have h:=beq_iff_eq.1 h;unfold VJ at h;intro j hj o;cases hb:oB p with
 |false=>rw[hb] at h;exact absurd (show (90:Int)=0 from h) (by decide)
 |true=>
  rw[hb,zdz] at h;cases hu:iB p.inp p.nod [] with
  |mk us b=>
   rw[hu] at h;cases b with
   |false=>exact absurd (show (90:Int)=0 from h) (by decide)
   |true=>
    obtain⟨ws,u,_,hw⟩:=xj hu j hj;have:=(vN hw).2.1;unfold fL at this;rw[o] at this;cases hr:rV (mb noN p.nod j).v with
    |true=>rfl
    |false=>
     rw[hr] at this;exact absurd (show (90:Int)=0 from this) (by decide)
structure EvalOK (p:Pr) (ins:List RS) (v:RS):Prop where
 valid:VM p=true
 vin: ∀r∈ins,rV r=true
 len:ins.length=p.inp.length
 rv:rV v=true
 sol: ∃W,Wx p.nod (λe=>duR (mb VI ins e)) W/\W (p.nod.length - 1)=duR v
 no8: ∀j,j<p.nod.length->(mb noN p.nod j).op≠8
theorem xy (h:bn p ins=(v,0)):EvalOK p ins v:=by
 unfold bn at h;cases hc: !VM p||ins.length !=p.inp.length|| !ins.all rV with
 |true=>rw[hc] at h;cases h
 |false=>
  rw[hc,zdy] at h;simp only[zbt,zca,bne_eq_false_iff_eq] at hc;obtain⟨⟨hv,hl⟩,hi⟩:=hc;have hi:=zaf.1 hi;split at h
  ·rename_i vs hvs;simp only[zag,and_true] at h;obtain⟨k1,k2⟩:=zz (bQ hv).2 (zA hv) hi hl.symm p.nod [] vs hvs rfl (by simp) (λj hj=>by simp at hj);have hp:=(cV hv).2.1;unfold CU at h;rw[k1] at h;exact⟨hv,hi,hl,by rw[<-h];exact(k2 _ (by omega)).1,⟨λk=>duR (mb VI vs k),λk hk=>(k2 k hk).2.1,by show duR _=_;rw[h]⟩,λj hj=>(k2 j hj).2.2⟩
  ·cases h
variable {i:Int}
theorem Fd {d:Pr} (hs:cw p=true) (hd:aG p i=(d,0)):cw d=true:=by
 obtain⟨hv,h0,h1,hn⟩:=nC hd;have D:=IX hv hs i;have hs':=hs;unfold cw at hs';simp only[za2,zaf] at hs';have key: ∀q:Pr,cw q=true->cT q=(d,0)->cw d=true:=λq hq h=>by
  have:=nA h;have hq':=hq;unfold cw at hq' ⊢;simp only[za2] at hq' ⊢;rw[this];exact⟨hq'.1,C4 hq⟩
 have mk: ∀nod:ze3,GL p.inp.length nod->cw ⟨p.id,p.inp,nod,noU⟩=true:=λnod hG=>by
  unfold cw;simp only[za2,zaf];exact⟨⟨hs'.1.1,hG.szs⟩,iA⟩
 unfold aG at hd;rw[hv,zdA (by omega),zdA (by omega)] at hd;simp only[zbi,Bool.or_false,zdy] at hd;have hlast:=D.d _ (bw (d:=0) (l:=(aN i p.nod 0 p.nod []).2) (e:=p.nod.length - 1) (by rw[D.len];have:=(cV hv).2.1;omega));cases hl:mb 0 (aN i p.nod 0 p.nod []).2 (p.nod.length - 1) != -1 with
 |true=>
  rw[hl,zdz] at hd;have hr:=hlast.resolve_left (by simpa using hl);exact key _ (mk _ (t0 D.gl hr.1 hr.2)) hd
 |false=>
  rw[hl,zdy] at hd;cases hdv:(fd (bB p.out) (bB (mb noU p.inp i.toNat))).2 !=0 with
  |true=>rw[hdv] at hd;cases hd
  |false=>
   rw[hdv,zdy] at hd;refine key _ (mk _ λj hj=> ?_) hd;obtain rfl:j=0:=by simpa using hj
   exact⟨jJ (by show ¬(3<=(1:Int)/\(1:Int)<=8);omega) (λe=>absurd (show (1:Int)=2 from e) (by decide)),by
    show szN (oG _)=true;unfold szN oG pureF
    rw[gu];exact oA _ _⟩
def oJ (p:Pr) (ins:List RS):Nat->Int->List RS->Option (List RS)
 |0,_,out=>some out
 |k+1,i,out=>bif (aG p i).2 !=0||(bn (aG p i).1 ins).2 !=0 then none else oJ p ins k (i+1) (out++ [(bn (aG p i).1 ins).1])
def jL (p:Pr) (ins:List RS):List RS×Int:=bif (bn p ins).2 !=0 then([],100) else match oJ p ins p.inp.length 0 [] with
 |some l=>(l,0)
 |none=>([],100)
theorem By (ins:List RS):rk ins=ins:=El.list_get
theorem Jd (h:cw p=true) (h1:p.inp.length<=1000000) (h2:p.nod.length<=1000000) (hi: ∀r∈ins,uzR r=true) (hl:ins.length<=1000000):evB p ins=true:=by
 unfold evB bW;rw[eY h h1 h2,zae (za0 _),zae hl,El.good_get hi];rfl
theorem Qm:cw zP=true:=by
 unfold cw;rw[show szB zP.out=true from iA];rfl
theorem qw (h:cw p=true):cw (aG p i).1=true/\(aG p i).1.inp.length<=1000000/\(aG p i).1.nod.length<=1000000:=by
 rcases kg p i with e|⟨e2,_,_,_,hv,_⟩
 ·rw[e];exact⟨Qm,by decide,by decide⟩
 ·have:=cV hv;exact⟨Fd h (zc9 rfl e2),by omega,by omega⟩
theorem OZ {q li:Nat} {p:Int} :gdM q ni li p (vs.length+1) (ct (eR.get vs) (λe=>((gA v).drop (e*2)).take 2) vs.length 0) (p,vs++ [v]):=by
 have hl:(vs++ [v]).length=vs.length+1:=by simp
 refine⟨⟨rfl, ?_,rfl,rfl,rfl,trivial⟩,trivial,trivial,ac (by rw[zdx (by rw[hl];exact za0 _)];rfl) λe he=> ?_,trivial⟩
 ·simp
 ·rw[hl] at he;unfold ct El.get El.nth;rw[aB];show _=gA (mb VI (vs++ [v]) e);rw[aS];by_cases h:e<vs.length
  ·rw[zdx h,zdz,if_neg (by omega)];rfl
  ·obtain rfl:e=vs.length:=by omega
   rw[zdA h,zdy,if_pos rfl,zaJ];rfl
def Nj (p:Pr) (ins:List RS) (z:GX):Prop:=0<=z.1/\z.1<=p.inp.length/\z.2.length=z.1.toNat/\oJ p ins p.inp.length 0 []=oJ p ins (p.inp.length - z.1.toNat) z.1 z.2
theorem Je {K:Prop} (h:n<=1000000) (k:K):LP n K:=ac (by
 rw[zdx (zbT),zdx (show 0+1<=1 by omega),zdx (za0 n),zdx (show (n+1)*32<=140737488355328 by omega)];rfl) k
variable {Q:zdW}
theorem Bz {KS:Nat->Nat->Blk->List SV->Prop} (h:cw p=true) (h1:p.inp.length<=1000000) (h2:p.nod.length<=1000000) (hi: ∀r∈ins,uzR r=true) (hl:ins.length<=1000000)
 (k0:jL p ins=([],100)->Q C6) (k1: ∀l,jL p ins=(l,0)->l.length=p.inp.length->KS 21 l.length {n:=l.length,sz:=2,get:=eR.get l,kd:= .own,nn:=false} [.val (.int .i64 0)]):IZ (Nj p ins) p.inp.length p ins KS Q:=by
 unfold IZ;rw[By,fN];refine ac (Jd h h1 h2 hi hl) λ_ _=>ah (λhe=>k0 ?_) (λhe=> ?_)
 ·unfold jL;rw[he];rfl
 have hF:jL p ins=match oJ p ins p.inp.length 0 [] with
  |some l=>(l,0)
  |none=>([],100):=by unfold jL;rw[he];rfl
 refine⟨(0, []),⟨zat _,by show (0:Int)<=_;omega,rfl,rfl⟩,⟨⟨rfl,rfl,rfl,rfl,rfl,trivial⟩,trivial,trivial,rfl,trivial⟩, ?_⟩;rintro⟨i,vs⟩ ⟨a0,a1,a2,a3⟩;simp only at a0 a1 a2 a3;dsimp only;refine ah (λhz=> ?_) (λhz=> ?_)
 ·have hz:=zdC hz;obtain⟨d1,d2,d3⟩:=qw (i:=i) h;rw[fN];have hs:p.inp.length - i.toNat=(p.inp.length - (i+1).toNat)+1:=by omega
  rw[hs,oJ] at a3;refine ac (eY h h1 h2) λ_ _=>ac (Jd d1 d2 d3 hi hl) λ_ _=>ah (λhb=>k0 ?_) (λhb=> ?_)
  ·have hb:((aG p i).2 !=0||(bn (aG p i).1 ins).2 !=0)=true:=by rw[<-QN];exact hb
   rw[hb] at a3;rw[hF,a3];rfl
  ·have hb:((aG p i).2 !=0||(bn (aG p i).1 ins).2 !=0)=false:=by rw[<-QN];exact hb
   rw[hb,zdy] at a3;refine Je (by omega) (ac (VP.2 (by omega)) ⟨(i+1,vs++ [(bn (aG p i).1 ins).1]),⟨by show 0<=i+1;omega,by show i+1<=_;omega,by simp only[za3,za6];omega,a3⟩,by show (_:Nat)<_;dsimp only;omega,OZ⟩)
 ·have hz:=zdD hz;rw[show p.inp.length - i.toNat=0 by omega,oJ] at a3;exact k1 vs (by rw[hF,a3]) (by omega)
def C8:MCtr:=λbl nx args=>match args with
 | [s,t]=>match mC bl s,gy bl 2 t with
   |some a,some (b,o,n,c)=>some {X:=Unit,pre:=a.need&&b&&bW n&&eR.good uzR n c&&decide (1<=a.p.inp.length),spec:=λ_=>True,out:=λ_=> .tup [.slc nx 0 (jL a.p (eR.list n c)).1.length, .val (.int .i64 (jL a.p (eR.list n c)).2)],nw:=λ_=> [eR.own (jL a.p (eR.list n c)).1],ex:=λ_=>⟨(),trivial⟩}
   |_,_=>none
 |_=>none
theorem zC: ∀B:Base,GlobB B->VU prog B 39 C8:=eW L9 λbl nx args C hk hp=>by
 unfold C8 at hk;split at hk
 ·rename_i s t;split at hk
  ·rename_i a b o n c ha ht;simp only[za1] at hk;subst hk;simp only[za2,zdB] at hp;obtain⟨⟨⟨⟨hp,rfl⟩,hn⟩,hg⟩,hin⟩:=hp;obtain⟨s1,s2,s3,s4,s5,s6⟩:=eX (f:=rnF [a.o1,a.o2,o] [] nx) ha hp rfl rfl;obtain⟨t1,t2⟩:=cq (f:=rnF [a.o1,a.o2,o] [] nx) ht hg;have hlen:(eR.list n c).length=n:=El.list_length;have hlen:(eR.list n c).length<=1000000:=by rw[hlen];exact zak hn
   have hold: ∀C∈ [eU.old a.p.inp,eN.old a.p.nod,eR.old (eR.list n c)],cN C.kd=false/\C.kd.map=false:=by simp[cN,El.old,BK.map]
   refine⟨[a.o1,a.o2,o], [eU.old a.p.inp,eN.old a.p.nod,eR.old (eR.list n c)], [kB a.p, .slc 2 0 (eR.list n c).length],C5 (Nj a.p (eR.list n c)) a.p.inp.length,6,aw s1 (aw s2 (aw t1 trivial)),bH (λC hC=>(hold C hC).1),cd (λC hC=>(hold C hC).2),ar s3 (ar (t2 2 rfl) rfl), ?_⟩;refine cQ (K:=slK (λi m B rest=> ∃l,jL a.p (eR.list n c)=(l,0)/\l.length=a.p.inp.length/\i=21/\m=l.length/\B={n:=l.length,sz:=2,get:=eR.get l,kd:= .own,nn:=false}/\rest= [.val (.int .i64 0)]) (λr=>jL a.p (eR.list n c)=([],100)/\r=C6)) ?_ λr bl' m w h=> ?_
   ·rw[Ma];exact Bz s4 s5 s6 (El.good_list hg) hlen (λh=>⟨h,rfl⟩) λl h1 h2=>⟨l,h1,h2,rfl,rfl,rfl,rfl⟩
   ·rcases vL h with ⟨i,m',rest,B,rfl,hB,l,e1,e2,rfl,rfl,rfl,rfl⟩|⟨s,rfl,e1,rfl⟩
    ·refine⟨(),trivial, [some 21],⟨_,rfl, ?_⟩,by simp[ck],⟨⟨by simp, ?_⟩,trivial⟩,cr (λC hC=>(hold C hC).1) rfl _⟩
     ·simp only[SV.rn,SV.rns,cO,e1];rfl
     ·rw[hB,e1];exact⟨by simp[El.own],λ_=>⟨by simp only[El.own];omega,eR.one⟩,gC rfl rfl (za0 _) λ_ _=>rfl⟩
    ·refine⟨(),trivial, [none],⟨_,rfl, ?_⟩,by simp[ck],⟨⟨rfl,by rw[e1];rfl,rfl⟩,trivial⟩,cr (λC hC=>(hold C hC).1) rfl _⟩;simp only[SV.rn,SV.rns,cO,e1];rfl
  ·cases hk
 ·cases hk
def Jf (input:Int) (x:Nd):Bool:=x.op==2&&x.n==input
def uI (p:Pr) (input:Int):Bool:=VM p&&(List.range p.nod.length).any λj=>bX p.nod (p.nod.length - 1:Nat) j&&Jf input (mb noN p.nod j)
theorem Fe (hv:VM p=true):bX p.nod (p.nod.length - 1:Nat) (p.nod.length - 1)=true/\ ∀k,bX p.nod (p.nod.length - 1:Nat) k=true->k<p.nod.length/\ ∀s∈VW (mb noN p.nod k),bX p.nod (p.nod.length - 1:Nat) s.toNat=true:=by
 have hp:=(cV hv).2.1
 have:=nj (l:=p.nod) (last:=(p.nod.length - 1:Nat)) (λj hj=>by
  have:=((bQ hv).2 j hj).nodeIn;unfold nodeIn at this;rw[za2] at this
  exact this.1) (by omega) (by omega)
 rw[eB] at this;exact this
def Qn:ze0:= [(15,pN),(110,rh)]
theorem Mi:MOk Qn:=(MOk.nil.cons tR).cons lZ
def Qo (f:zdV):zdS
 |0=> []
 |e+1=> [.val (.bool (f e))]
def Jg (I:(zdV)->Prop) (N:Nat):zdY:=λf k=>bif Nat.beq f 44&&Nat.beq k 5 then some (λA=>{X:=Nat->Bool,inv:=I,tm:=λ_=> [],bk:= [(kA A 17,Qo)],clean:=λp hp x e=>by simp at hp;subst hp;cases e<;>rfl,mu:=λx=>cnt x N,keep:= [1,5,17]}) else none
def dpM (nn:Nat) (input:Int) (f x:zdV):Prop:=(tvE (cI.enc input)/\tvE (.slc 1 0 nn)/\cg 14/\True)/\((((∀e,f e=x e)/\([]:zdQ)= [])/\True)/\(True/\True))
def pS (n:Nat) (i:Int):Bool:=decide (0<=i)&&decide (i<(n:Int))&&decide (0+i.toNat<n)
def O0 (I:(zdV)->Prop) (N:Nat) (p:Pr) (input:Int) (Q:zdW):Prop:=
 af (jn p) (Unit->True->ag (!VM (dm p)) (Q (cB.enc false))
 (af (inR .i64 ((p.nod.length:Int) - 1)) (af (Nat.ble p.nod.length p.nod.length&&Nat.beq 26 26&&true&&bW p.nod.length&&eN.good (λ_=>true) p.nod.length (eN.get p.nod)&&decide (0<=(p.nod.length:Int) - 1)&&decide ((p.nod.length:Int) - 1<(p.nod.length:Int))&&dH p.nod.length (eN.get p.nod)) (Unit->True->
 (∃x0,I x0/\(dpM p.nod.length input (bX (eN.list p.nod.length (eN.get p.nod)) ((p.nod.length:Int) - 1)) x0/\ ∀x,I x->
   (((∀k,x k=false)->Q (cB.enc false))/\ ∀z:Int,0<=z->x z.toNat=true->
     af (pS p.nod.length z) (af (decide (0+z.toNat<p.nod.length)) (af (dC ((mb noN p.nod (0+z.toNat)).op==2) (pS p.nod.length z)) (af (dC ((mb noN p.nod (0+z.toNat)).op==2) (decide (0+z.toNat<p.nod.length)))
      (ag (bif (mb noN p.nod (0+z.toNat)).op==2 then(mb noN p.nod (0+z.toNat)).n==input else false) (Q (cB.enc true))
        (∃x',I x'/\(cnt x' N<cnt x N/\dpM p.nod.length input (λe=> !Nat.beq e z.toNat&&x e) x')))))))))))))
theorem O1 (I:(zdV)->Prop) (N:Nat) (p:Pr) (input:Int) (Q:zdW):dk Qn (Jg I N) 6 44 [kB p, .val (.int .i64 input)] (iK p) (Go.Sy.okK λr _ _ _=>Q r)=O0 I N p input Q:=by kernel_rfl
theorem t9 {x:zdV} {z:Nat} (hx:x z=true): ∀{n:Nat},(z<n->cnt (λe=> !Nat.beq e z&&x e) n<cnt x n)/\(¬z<n->cnt (λe=> !Nat.beq e z&&x e) n=cnt x n)
 |0=>⟨λh=>by omega,λ_=>rfl⟩
 |n+1=>by
  obtain⟨h1,h2⟩:=t9 hx (n:=n);refine⟨λh=> ?_,λh=> ?_⟩
  ·rw[cnt,cnt];by_cases e:n=z
   ·rw[h2 (by omega),e,hx,bS];simp
   ·have:=h1 (by omega);rw[bS,zdA e];simp only[zbh,zb7];omega
  ·rw[cnt,cnt,h2 (by omega),bS,zdA (show ¬n=z by omega)];simp
def Qp (p:Pr) (input:Int) (x:zdV):Prop:=(∀k,x k=true->k<p.nod.length)/\(uI p input=true↔ ∃k,x k=true/\Jf input (mb noN p.nod k)=true)
theorem gK (h0:0<=i) (h1:i<n):pS n i=true:=by
 unfold pS;rw[zdx h0,zdx h1,zdx (show 0+i.toNat<n by omega)];rfl
theorem yd {g n:Bool} (h:n=true):dC g n=true:=by rw[h];rfl
theorem Ff (hs:cw p=true) (h1:p.inp.length<=1000000) (h2:p.nod.length<=1000000) (hQ:Q (cB.enc (uI p input))):O0 (Qp p input) p.nod.length p input Q:=by
 unfold O0;rw[fN,show eN.list p.nod.length (eN.get p.nod)=p.nod from El.list_get];refine ac (eY hs h1 h2) λ_ _=>ah (λhv=> ?_) (λhv=> ?_)
 ·have:uI p input=false:=by unfold uI;rw[show VM p=false by simpa using hv];rfl
  rw[this] at hQ;exact hQ
 have hv:VM p=true:=by simpa using hv
 have hp:=(cV hv).2.1;have hN:=(bQ hv).2;obtain⟨n1,n2⟩:=Fe hv;have el:((p.nod.length:Int) - 1)=((p.nod.length - 1:Nat):Int):=by omega
 have hsd:dH p.nod.length (eN.get p.nod)=true:=V5.2 λj hj=>by
  have:=(hN j hj).nodeIn;unfold nodeIn at this;rw[za2] at this;show VN j (Vh (svN (mb noN p.nod j)))=true;rw[fR];exact this.1
 refine ac (VP.2 (by omega)) (ac ?_ λ_ _=> ?_)
 ·unfold bW;rw[zae (za0 _),zae h2,El.good_get (λ_ _=>rfl),zdx (show 0<=(p.nod.length:Int) - 1 by omega),zdx (show (p.nod.length:Int) - 1<p.nod.length by omega),hsd];rfl
 rw[el];refine⟨bX p.nod (p.nod.length - 1:Nat),⟨λk hk=>(n2 k hk).1, ?_⟩,⟨⟨rfl,rfl,rfl,trivial⟩,⟨⟨λ_=>rfl,rfl⟩,trivial⟩,trivial,trivial⟩, ?_⟩
 ·unfold uI;rw[hv,zb7,zaP];constructor
  ·rintro⟨k,_,hk⟩;rw[za2] at hk;exact⟨k,hk⟩
  ·rintro⟨k,hk⟩;exact⟨k,zaC.2 (n2 k hk.1).1,by rw[hk.1,hk.2];rfl⟩
 rintro x ⟨x1,x2⟩;refine⟨λhx=> ?_,λz z0 hz=> ?_⟩
 ·have:uI p input=false:=by
   cases h:uI p input with
   |false=>rfl
   |true=>
    obtain⟨k,hk,_⟩:=x2.1 h;rw[hx k] at hk;cases hk
  rw[this] at hQ;exact hQ
 ·have hzl:=x1 _ hz;rw[za7];have b1:=gK z0 (show z<p.nod.length by omega);have b2:decide (z.toNat<p.nod.length)=true:=zdx hzl;refine ac b1 (ac b2 (ac (yd b1) (ac (yd b2) (ah (λh=> ?_) (λh=> ?_)))))
  ·have:uI p input=true:=x2.2 ⟨z.toNat,hz,by
    unfold Jf
    cases e:(mb noN p.nod z.toNat).op==2<;>rw[e] at h<;>first|exact h|cases h⟩
   rw[this] at hQ;exact hQ
  ·have hnot:Jf input (mb noN p.nod z.toNat)=false:=by
    unfold Jf;cases e:(mb noN p.nod z.toNat).op==2<;>rw[e] at h<;>first|exact h|rfl
   refine⟨λe=> !Nat.beq e z.toNat&&x e,⟨λk hk=> ?_, ?_⟩,(t9 hz).1 hzl,⟨rfl,rfl,rfl,trivial⟩,⟨⟨λ_=>rfl,rfl⟩,trivial⟩,trivial,trivial⟩
   ·rw[za2] at hk;exact x1 k hk.2
   ·rw[x2];constructor
    ·rintro⟨k,k1,k2⟩;have:k≠z.toNat:=λe=>by rw[e,hnot] at k2;cases k2
     exact⟨k,by show (!Nat.beq k z.toNat&&x k)=true;rw[bS,zdA this,k1];rfl,k2⟩
    ·rintro⟨k,k1,k2⟩;rw[za2] at k1;exact⟨k,k1.2,k2⟩
def O2:MCtr:=λbl nx args=>match args with
 | [s, .val (.int .i64 input)]=>match mC bl s with
   |some a=>some {X:=Unit,pre:=a.need,spec:=λ_=>True,out:=λ_=>cB.enc (uI a.p input),ex:=λ_=>⟨(),trivial⟩}
   |none=>none
 |_=>none
theorem Mj: ∀B:Base,GlobB B->VU prog B 44 O2:=eW Mi λbl nx args C hk hp=>by
 unfold O2 at hk;split at hk
 ·rename_i s input;split at hk
  ·rename_i a ha;simp only[za1] at hk;subst hk;obtain⟨s1,s2,s3,s4,s5,s6⟩:=eX (f:=rnF [a.o1,a.o2] [] nx) ha hp rfl rfl;refine⟨[a.o1,a.o2],iK a.p, [kB a.p, .val (.int .i64 input)],Jg (Qp a.p input) a.p.nod.length,6,aw s1 (aw s2 trivial),bH (cx _),cd (jG _),ar s3 rfl, ?_⟩;refine lz () trivial rfl (r:=cB.enc (uI a.p input)) rfl rfl rfl rfl (cx _) rfl ?_;rw[O1];exact Ff s4 s5 s6 rfl
  ·cases hk
 ·cases hk
def Fg (t:ByteArray):Blk:={n:=1,sz:=1,get:=λ_=> [.val (.string t)],kd:= .old,nn:=false}
def cZ (x:Nd) (t:ByteArray):Bool:=x.op==1&&seq (gk x.v) t
theorem Fh (x:Nd) (Q:zdW):dk [] (λ_ _=>none) 4 124 [.agg (svN x), .val (.slice none 0 0)] [] (Go.Sy.okK λr _ _ _=>Q r)=af (dC (x.op==1&& !(((0:Nat):Int)==0)) (uzR x.v)) (ag (x.op==1) (Q (cB.enc true)) (Q (cB.enc false))):=by kernel_rfl
theorem Fi (x:Nd) (t:ByteArray) (Q:zdW):dk [] (λ_ _=>none) 4 124 [.agg (svN x), .slc 0 0 1] [Fg t] (Go.Sy.okK λr _ _ _=>Q r)=af (dC (x.op==1&& !(((1:Nat):Int)==0)) (uzR x.v)) (ag (x.op==1) (ag (seq (gk x.v) t) (Q (cB.enc true)) (Q (cB.enc false))) (Q (cB.enc false))):=by kernel_rfl
def Nk (bl:zdR):SV->Option (Bool×Nat×ByteArray)
 | .slc i 0 1=>match bl i with
   |some B=>match B.get 0 with
    | [.val (.string t)]=>some (Nat.ble 1 B.n&&Nat.beq B.sz 1&&pa B.kd,i,t)
    |_=>none
   |none=>none
 |_=>none
def ndB (cs:zdQ):Bool:=match cs with
 | [.val (.int .i64 _), .val (.string _), .val (.string _), .val (.int .i64 _), .val (.int .i64 _), .val (.int .i64 _), .val (.int .i64 _), .val (.int .i64 _), .val (.int .i64 _), .val (.int .i64 _), .val (.int .i64 _), .val (.int .i64 _), .val (.int .i64 _), .val (.int .i64 _), .val (.int .i64 _), .val (.int .i64 _), .val (.int .i64 _), .val (.string _), .val (.string _), .val (.string _), .val (.string _), .val (.int .i64 _), .val (.int .i64 _), .val (.int .i64 _), .val (.int .i64 _), .val (.int .i64 _)]=>true
 |_=>false
theorem ua {cs:zdQ} (h:ndB cs=true):cs=svN (Vh cs):=by
 unfold ndB at h;split at h
 ·rfl
 ·cases h
def xA:MCtr:=λbl _ args=>match args with
 | [.agg cs, .val (.slice none 0 0)]=>some {X:=Unit,pre:=ndB cs&&uzR (Vh cs).v,spec:=λ_=>True,out:=λ_=>cB.enc ((Vh cs).op==1),ex:=λ_=>⟨(),trivial⟩}
 | [.agg cs, .slc i 0 1]=>match Nk bl (.slc i 0 1) with
   |some (b,_,t)=>some {X:=Unit,pre:=b&&ndB cs&&uzR (Vh cs).v,spec:=λ_=>True,out:=λ_=>cB.enc (cZ (Vh cs) t),ex:=λ_=>⟨(),trivial⟩}
   |none=>none
 |_=>none
theorem vV: ∀B:Base,GlobB B->VU prog B 124 xA:=eW MOk.nil λbl nx args C hk hp=>by
 unfold xA at hk;split at hk
 ·rename_i cs;simp only[za1] at hk;subst hk;simp only[za2] at hp;obtain⟨h1,h2⟩:=hp;obtain⟨x,rfl⟩: ∃x,cs=svN x:=⟨_,ua h1⟩;replace h2:uzR x.v=true:=h2;refine⟨[], [], [.agg (svN x), .val (.slice none 0 0)],λ_ _=>none,4,trivial,bH (by simp),cd (by simp),ar (Xs (rns_free (j4 x))) rfl, ?_⟩;refine lz () trivial rfl (r:=cB.enc (x.op==1)) rfl rfl rfl rfl (by simp) rfl ?_;rw[Fh];exact ac (yd h2) (ah (λh=>by rw[h]) (λh=>by rw[h]))
 ·rename_i cs i;split at hk
  ·rename_i b j t hs;simp only[za1] at hk;subst hk;simp only[za2] at hp;obtain⟨⟨h0,h1⟩,h2⟩:=hp;obtain⟨x,rfl⟩: ∃x,cs=svN x:=⟨_,ua h1⟩;replace h2:uzR x.v=true:=h2;unfold Nk at hs;split at hs
   ·rename_i i' heq;simp only[SV.slc.injEq,true_and,and_true] at heq;subst heq;split at hs
    ·rename_i B hB;split at hs
     ·rename_i t' hg;simp only[za1,zag] at hs;obtain⟨rfl,_,rfl⟩:=hs;simp only[za2] at h0;obtain⟨⟨b1,b2⟩,b3⟩:=h0;have hsrc:j5 bl (rnF [some i] [] nx) (Fg t') (some i):=by
       simp only[j5,hB];refine⟨(zab b2).symm,λh=>(by cases h), ?_⟩;show B.kd≠ .gone/\B.kd.map=false/\1<=B.n/\ ∀e,e<1->SV.rns (rnF [some i] [] nx) [.val (.string t')]=some (B.get e);refine⟨λe=>(by rw[e] at b3;cases b3),(by cases hk:B.kd<;>rw[hk] at b3<;>first|rfl|cases b3),zak b1,λe he=> ?_⟩;obtain rfl:e=0:=by omega
       rw[hg];rfl
      refine⟨[some i], [Fg t'], [.agg (svN x), .slc 0 0 1],λ_ _=>none,4,aw hsrc trivial,bH (by simp[Fg,cN]),cd (by simp[Fg,BK.map]),ar (Xs (rns_free (j4 x))) (ar rfl rfl), ?_⟩;refine lz () trivial rfl (r:=cB.enc (cZ x t')) rfl rfl rfl rfl (by simp[Fg,cN]) rfl ?_;rw[Fi];refine ac (yd h2) (ah (λh=>ah (λk=> ?_) (λk=> ?_)) (λh=> ?_))
      ·unfold cZ;rw[h,k];rfl
      ·unfold cZ;rw[h,k];rfl
      ·unfold cZ;rw[h];rfl
     ·cases hs
    ·cases hs
   ·cases hs
  ·cases hk
 ·cases hk
def Qq:ze0:= [(124,xA)]
theorem Mk:MOk Qq:=MOk.nil.cons vV
def Jh (l us:Nat):Blk:={n:=1,sz:=2,get:=λ_=> [.slc 1 0 l, .slc 2 0 us],kd:= .old,nn:=true}
def pT (l:ze3) (us:ze2):List Blk:= [Jh l.length us.length,eN.old l,eU.old us]
def oK:ByteArray:=⟨#[48]⟩
def decB (n:Nat) (i:Int):Bool:=decide (0+i.toNat<n)
def isZ (l:ze3) (i:Int):Bool:=cZ (mb noN l (0+i.toNat)) oK
def xB (l:ze3) (us:ze2) (u:Un) (zero other:Int) (Kt Kf:Prop):Prop:=
 af (pS l.length zero) (af (decB l.length zero) (af (ndB (svN (mb noN l (0+zero.toNat)))&&uzR (mb noN l (0+zero.toNat)).v) (Unit->True->
  af (dC (isZ l zero) (pS us.length other)) (af (dC (isZ l zero) (decB us.length other)) (ag (bif isZ l zero then eqU (mb noU us (0+other.toNat)) u else false) Kt Kf)))))
def xC (l:ze3) (us:ze2) (u:Un) (zero other:Int) (Kt Kf:Prop):Prop:=xB l us u zero other Kt Kf/\xB l us u zero other Kt Kf
def Ji (l:ze3) (i:Int) (Kt Kf:Prop):Prop:=af (pS l.length i) (af (decB l.length i) (ag (eqN (mb noN l (0+i.toNat)) (pureF 1)) Kt Kf))
abbrev oL (l:ze3) (us:ze2) (x:Nd) (u:Un) (Q:zdW):Prop:=dk Qq (λ_ _=>none) 8 63 [.ptr 0 0 0, .agg (svN x), .agg (ci u)] (pT l us) (Go.Sy.okK λr _ _ _=>Q r)
theorem Jj (l:ze3) (us:ze2) (x:Nd) (u:Un) (Q:zdW):oL l us {x with op:=1} u Q=Q (cI.enc (-1)):=by kernel_rfl
theorem Jk (l:ze3) (us:ze2) (x:Nd) (u:Un) (Q:zdW):oL l us {x with op:=2} u Q=Q (cI.enc (-1)):=by kernel_rfl
theorem Jl (l:ze3) (us:ze2) (x:Nd) (u:Un) (Q:zdW):oL l us {x with op:=8} u Q=Q (cI.enc (-1)):=by kernel_rfl
theorem Jm (l:ze3) (us:ze2) (x:Nd) (u:Un) (Q:zdW):oL l us {x with op:=7} u Q=ag (x.n==1) (Q (cI.enc x.l)) (Q (cI.enc (-1))):=by kernel_rfl
theorem Jn (l:ze3) (us:ze2) (x:Nd) (u:Un) (Q:zdW):oL l us {x with op:=5} u Q=Ji l x.r (Q (cI.enc x.l)) (Ji l x.l (Q (cI.enc x.r)) (Q (cI.enc (-1)))):=by kernel_rfl
theorem Jo (l:ze3) (us:ze2) (x:Nd) (u:Un) (Q:zdW):oL l us {x with op:=6} u Q=Ji l x.r (Q (cI.enc x.l)) (Q (cI.enc (-1))):=by kernel_rfl
theorem Jp (l:ze3) (us:ze2) (x:Nd) (u:Un) (Q:zdW):oL l us {x with op:=4} u Q=xC l us u x.r x.l (Q (cI.enc x.l)) (Q (cI.enc (-1))):=by kernel_rfl
theorem Jq (l:ze3) (us:ze2) (x:Nd) (u:Un) (Q:zdW):oL l us {x with op:=3} u Q=xC l us u x.r x.l (Q (cI.enc x.l)) (xC l us u x.l x.r (Q (cI.enc x.r)) (Q (cI.enc (-1)))):=by kernel_rfl
def fu (x:Nd):Bool:=cZ x oK
def iD (l:ze3) (us:ze2) (x:Nd) (u:Un):Int:=
 bif x.op==7&&x.n==1 then x.l else
 bif (x.op==5||x.op==6)&&eqN (mb noN l x.r.toNat) (pureF 1) then x.l else
 bif x.op==5&&eqN (mb noN l x.l.toNat) (pureF 1) then x.r else
 bif (x.op==3||x.op==4)&&(fu (mb noN l x.r.toNat)&&eqU (mb noU us x.l.toNat) u) then x.l else
 bif x.op==3&&(fu (mb noN l x.l.toNat)&&eqU (mb noU us x.r.toNat) u) then x.r else -1
structure WorkA where
 need:Bool
 w:Nat
 o1:Option Nat
 o2:Option Nat
 l:List Nd
 us:List Un
def xD (bl:zdR):SV->Option WorkA
 | .ptr w 0 0=>match bl w with
   |some B=>match B.get 0 with
    | [sl,su]=>match gy bl 26 sl,gy bl 20 su with
      |some (b1,o1,n1,g1),some (b2,o2,n2,g2)=>some ⟨Nat.ble 1 B.n&&Nat.beq B.sz 2&&pa B.kd&&b1&&b2&&bW n1&&bW n2&&eN.good szN n1 g1&&eU.good szB n2 g2&&Nat.beq n1 n2,w,o1,o2,eN.list n1 g1,eU.list n2 g2⟩
      |_,_=>none
    |_=>none
   |none=>none
 |_=>none
theorem ub {bl:zdR} {s:SV} {a:WorkA} {f:ze1} (h:xD bl s=some a) (hn:a.need=true) (h0:f 0=some (some a.w)) (h1:f 1=some a.o1) (h2:f 2=some a.o2):
 s= .ptr a.w 0 0/\j5 bl f (Jh a.l.length a.us.length) (some a.w)/\j5 bl f (eN.old a.l) a.o1/\j5 bl f (eU.old a.us) a.o2/\(SV.ptr 0 0 0).rn f=some s/\(∀x∈a.l,szN x=true)/\(∀u∈a.us,szB u=true)/\a.l.length=a.us.length/\a.l.length<=1000000:=by
 unfold xD at h;split at h
 ·rename_i w;split at h
  ·rename_i B hB;split at h
   ·rename_i sl su hg;split at h
    ·rename_i b1 o1 n1 g1 b2 o2 n2 g2 hs1 hs2;simp only[za1] at h;subst h;simp only[za2] at hn;obtain⟨⟨⟨⟨⟨⟨⟨⟨⟨c1,c2⟩,c3⟩,rfl⟩,rfl⟩,c4⟩,c5⟩,c6⟩,c7⟩,c8⟩:=hn;obtain⟨a1,a2⟩:=cq (f:=f) hs1 c6;obtain⟨b1,b2⟩:=cq (f:=f) hs2 c7;refine⟨rfl, ?_,a1,b1,by simp only[SV.rn,h0],El.good_list c6,El.good_list c7,by rw[El.list_length,El.list_length];exact zab c8,by rw[El.list_length];exact zak c4⟩;simp only[j5,hB];refine⟨(zab c2).symm,λ_=> .inr (za0 1), ?_⟩;show B.kd≠ .gone/\B.kd.map=false/\1<=B.n/\ ∀e,e<1->SV.rns f [.slc 1 0 (eN.list n1 g1).length, .slc 2 0 (eU.list n2 g2).length]=some (B.get e);refine⟨λe=>(by rw[e] at c3;cases c3),(by cases hk:B.kd<;>rw[hk] at c3<;>first|rfl|cases c3),zak c1,λe he=> ?_⟩;obtain rfl:e=0:=by omega
     rw[hg];exact ar (a2 1 h1) (ar (b2 2 h2) rfl)
    ·cases h
   ·cases h
  ·cases h
 ·cases h
theorem oM (x:Nd):ndB (svN x)=true:=rfl
theorem ja (h0:0<=i) (h1:i<n):decB n i=true:=zdx (by omega)
variable {l:ze3} {us:ze2} {u:Un} {Kt Kf:Prop}
theorem pU {zero other:Int} (hl: ∀x∈l,szN x=true) (z:0<=zero/\zero<l.length) (o:0<=other/\other<us.length)
 (ht:(fu (mb noN l zero.toNat)&&eqU (mb noU us other.toNat) u)=true->Kt) (hf:(fu (mb noN l zero.toNat)&&eqU (mb noU us other.toNat) u)=false->Kf):xC l us u zero other Kt Kf:=by
 have:xB l us u zero other Kt Kf:=by
  unfold xB;have hz:isZ l zero=fu (mb noN l zero.toNat):=by unfold isZ fu;rw[za7]
  rw[za7,za7,hz];have hs:=hl _ (bw (d:=noN) (l:=l) (e:=zero.toNat) (by omega));unfold szN at hs;rw[za2] at hs;refine ac (gK z.1 z.2) (ac (ja z.1 z.2) (ac (by rw[oM,hs.1];rfl) λ_ _=>ac (yd (gK o.1 o.2)) (ac (yd (ja o.1 o.2)) (ah (λh=>ht ?_) (λh=>hf ?_)))))
  ·cases e:fu (mb noN l zero.toNat)<;>rw[e] at h<;>first|exact h|cases h
  ·cases e:fu (mb noN l zero.toNat)<;>rw[e] at h<;>first|exact h|rfl
 exact⟨this,this⟩
theorem xE (z:0<=i/\i<l.length) (ht:eqN (mb noN l i.toNat) (pureF 1)=true->Kt) (hf:eqN (mb noN l i.toNat) (pureF 1)=false->Kf):Ji l i Kt Kf:=by
 unfold Ji;rw[za7];exact ac (gK z.1 z.2) (ac (ja z.1 z.2) (ah ht hf))
theorem dW {o:Int} (h:x.op=o):{x with op:=o}=x:=by cases x;simp only at h;rw[h]
theorem BA (hl: ∀x∈l,szN x=true) (hlen:l.length=us.length) (hop:1<=x.op/\x.op<=8) (hx:VN l.length x=true) (hQ:Q (cI.enc (iD l us x u))):oL l us x u Q:=by
 have hs:=bL hx;have L:3<=x.op->0<=x.l/\x.l<l.length:=λh=>by
  by_cases a:x.op<=6
  ·exact hs x.l (by rw[aQ h a];simp)
  ·exact hs x.l (by rw[bF (by omega)];simp)
 have R:3<=x.op->x.op<=6->0<=x.r/\x.r<l.length:=λh a=>hs x.r (by rw[aQ h a];simp);unfold iD at hQ;rcases(show x.op=1\/x.op=2\/x.op=3\/x.op=4\/x.op=5\/x.op=6\/x.op=7\/x.op=8 by omega) with o|o|o|o|o|o|o|o
 ·rw[<-dW o,Jj];rw[o] at hQ;exact hQ
 ·rw[<-dW o,Jk];rw[o] at hQ;exact hQ
 ·have L:=L (by omega);have R:=R (by omega) (by omega);rw[<-dW o,Jq];rw[o] at hQ;replace hQ:Q (cI.enc (bif fu (mb noN l x.r.toNat)&&eqU (mb noU us x.l.toNat) u then x.l else bif fu (mb noN l x.l.toNat)&&eqU (mb noU us x.r.toNat) u then x.r else -1)):=hQ;refine pU hl R (by omega) (λh=> ?_) (λh=>pU hl L (by omega) (λk=> ?_) (λk=> ?_))
  ·rw[h] at hQ;exact hQ
  ·rw[h,k] at hQ;exact hQ
  ·rw[h,k] at hQ;exact hQ
 ·have L:=L (by omega);have R:=R (by omega) (by omega);rw[<-dW o,Jp];rw[o] at hQ;replace hQ:Q (cI.enc (bif fu (mb noN l x.r.toNat)&&eqU (mb noU us x.l.toNat) u then x.l else -1)):=hQ;refine pU hl R (by omega) (λh=> ?_) (λh=> ?_)
  ·rw[h] at hQ;exact hQ
  ·rw[h] at hQ;exact hQ
 ·have L:=L (by omega);have R:=R (by omega) (by omega);rw[<-dW o,Jn];rw[o] at hQ;replace hQ:Q (cI.enc (bif eqN (mb noN l x.r.toNat) (pureF 1) then x.l else bif eqN (mb noN l x.l.toNat) (pureF 1) then x.r else -1)):=hQ;refine xE R (λh=> ?_) (λh=>xE L (λk=> ?_) (λk=> ?_))
  ·rw[h] at hQ;exact hQ
  ·rw[h,k] at hQ;exact hQ
  ·rw[h,k] at hQ;exact hQ
 ·have R:=R (by omega) (by omega);rw[<-dW o,Jo];rw[o] at hQ;replace hQ:Q (cI.enc (bif eqN (mb noN l x.r.toNat) (pureF 1) then x.l else -1)):=hQ;refine xE R (λh=> ?_) (λh=> ?_)
  ·rw[h] at hQ;exact hQ
  ·rw[h] at hQ;exact hQ
 ·rw[<-dW o,Jm];rw[o] at hQ;replace hQ:Q (cI.enc (bif x.n==1 then x.l else -1)):=hQ;refine ah (λh=> ?_) (λh=> ?_)
  ·rw[h] at hQ;exact hQ
  ·rw[h] at hQ;exact hQ
 ·rw[<-dW o,Jl];rw[o] at hQ;exact hQ
def Jr:MCtr:=λbl _ args=>match args with
 | [s, .agg cs, .agg cu]=>match xD bl s,Au (.agg cu) with
   |some a,some u=>some {X:=Unit,pre:=a.need&&ndB cs&&decide (1<=(Vh cs).op)&&decide ((Vh cs).op<=8)&&VN a.l.length (Vh cs),spec:=λ_=>True,out:=λ_=>cI.enc (iD a.l a.us (Vh cs) u),ex:=λ_=>⟨(),trivial⟩}
   |_,_=>none
 |_=>none
theorem jM (l:ze3) (us:ze2): ∀C∈pT l us,cN C.kd=false/\C.kd.map=false:=by simp[pT,Jh,cN,El.old,BK.map]
theorem Js: ∀B:Base,GlobB B->VU prog B 63 Jr:=eW Mk λbl nx args C hk hp=>by
 unfold Jr at hk;split at hk
 ·rename_i s cs cu;split at hk
  ·rename_i a u ha hu;simp only[za1] at hk;subst hk;simp only[za2,zdB] at hp;obtain⟨⟨⟨⟨h0,h1⟩,h2⟩,h3⟩,h4⟩:=hp;obtain⟨x,rfl⟩: ∃x,cs=svN x:=⟨_,ua h1⟩;obtain rfl:=pM hu;rw[fR] at h2 h3 h4;obtain⟨e0,s1,s2,s3,s4,s5,s6,s7,s8⟩:=ub (f:=rnF [some a.w,a.o1,a.o2] [] nx) ha h0 rfl rfl rfl;refine⟨[some a.w,a.o1,a.o2],pT a.l a.us, [.ptr 0 0 0, .agg (svN x), .agg (ci u)],λ_ _=>none,8,aw s1 (aw s2 (aw s3 trivial)),bH (λC hC=>(jM _ _ C hC).1),cd (λC hC=>(jM _ _ C hC).2),ar s4 (ar (Xs (rns_free (j4 x))) (ar (Xs (rns_free (fj u))) rfl)), ?_⟩;refine lz () trivial rfl (r:=cI.enc (iD a.l a.us x u)) rfl rfl rfl rfl (λC hC=>(jM _ _ C hC).1) rfl ?_;exact BA s5 s7 ⟨h2,h3⟩ h4 rfl
  ·cases hk
 ·cases hk
def Qr:ze0:= [(124,xA),(62,tX),(19,zm)]
theorem Ml:MOk Qr:=((MOk.nil.cons tP).cons pR).cons vV
abbrev xG (l:ze3) (us:ze2) (x:Nd) (u:Un) (Q:zdW):Prop:=dk Qr (λ_ _=>none) 8 64 [.ptr 0 0 0, .agg (svN x), .agg (ci u)] (pT l us) (Go.Sy.okK λr _ _ _=>Q r)
def Jt (v:Nd):zdS:=λe=>((svN v).drop (e*26)).take 26
def O3 (v x:Nd):zdS:=ct (λk=>Jt v (0+k)) (Jt x) 1 0
def uc (v w x:Nd):zdS:=ct (ct (λk=>Jt v (0+k)) (Jt w) 1 0) (Jt x) 2 0
open Classical in
def sdB (x:Nd):Bool:=Nat.ble 1 1&&Nat.beq 26 26&&true&&decide (svN x=svN (Vh (svN x)))
def cB0 (y:Nd):Bool:=ndB (svN y)&&uzR y.v
def mo (r:RS) (b:Bool):SV:= .tup [.agg (gA r), .val (.bool b)]
def Fj (n:Nat) (G:zdS) (u:Un) (Q:zdW) (b:Bool):Prop:=
 af ((true&&(Nat.ble n n&&Nat.beq 26 26&&true)&&bW 0&&bW n&&eU.good szB 0 (λ_=> [])&&eN.good szN n G&&szB u)&&true&&bW 0&&eR.good uzR 0 (λ_=> [])) (Unit->True->
  ag ((bn ⟨1,eU.list 0 (λ_=> []),eN.list n G,u⟩ (eR.list 0 (λ_=> []))).2==0) (Q (mo (bn ⟨1,eU.list 0 (λ_=> []),eN.list n G,u⟩ (eR.list 0 (λ_=> []))).1 true)) (Q (mo (rMk 0 1).1 b)))
def atN (l:ze3) (i:Int):Nd:=mb noN l (0+i.toNat)
def Ju (l:ze3) (x:Nd) (u:Un) (Q:zdW):Prop:=
 af (sdB x) (Unit->True->af (sdB x) (Unit->True->af (pS l.length x.l) (af (decB l.length x.l)
  (af (cB0 (atN l x.l)) (Unit->True->af (cB0 (atN l x.l)) (Unit->True->
    ag ((atN l x.l).op==1) (Fj 2 (O3 (atN l x.l) {x with l:=0}) u Q (bif cZ (atN l x.l) oK then x.op==5 else false)) (Q (mo (rMk 0 1).1 (bif cZ (atN l x.l) oK then x.op==5 else false)))))))))
def aaK (l:ze3) (x:Nd) (u:Un) (Q:zdW):Prop:=
 af (sdB x) (Unit->True->af (sdB x) (Unit->True->af (pS l.length x.l) (af (decB l.length x.l)
  (af (cB0 (atN l x.l)) (Unit->True->af (cB0 (atN l x.l)) (Unit->True->af (pS l.length x.r) (af (decB l.length x.r)
    (ag ((atN l x.l).op==1)
      (af (cB0 (atN l x.r)) (Unit->True->ag (cZ (atN l x.l) oK)
        (ag ((atN l x.r).op==1) (Fj 3 (uc (atN l x.l) (atN l x.r) {x with l:=0,r:=1}) u Q (x.op==5)) (Q (mo (rMk 0 1).1 (x.op==5))))
        (af (cB0 (atN l x.r)) (Unit->True->ag ((atN l x.r).op==1) (Fj 3 (uc (atN l x.l) (atN l x.r) {x with l:=0,r:=1}) u Q (bif cZ (atN l x.r) oK then x.op==5 else false)) (Q (mo (rMk 0 1).1 (bif cZ (atN l x.r) oK then x.op==5 else false)))))))
      (ag (cZ (atN l x.l) oK) (Q (mo (rMk 0 1).1 (x.op==5)))
        (af (cB0 (atN l x.r)) (Unit->True->Q (mo (rMk 0 1).1 (bif cZ (atN l x.r) oK then x.op==5 else false)))))))))))))
theorem Mm (l:ze3) (us:ze2) (x:Nd) (u:Un) (Q:zdW):xG l us {x with op:=8} u Q=Q (mo VI false):=by kernel_rfl
theorem Mn (l:ze3) (us:ze2) (x:Nd) (u:Un) (Q:zdW):xG l us {x with op:=1} u Q=af (sdB {x with op:=1}) (Unit->True->Q (mo VI false)):=by kernel_rfl
theorem Mo (l:ze3) (us:ze2) (x:Nd) (u:Un) (Q:zdW):xG l us {x with op:=2} u Q=af (sdB {x with op:=2}) (Unit->True->Q (mo VI false)):=by kernel_rfl
theorem Mp (l:ze3) (us:ze2) (x:Nd) (u:Un) (Q:zdW):xG l us {x with op:=7} u Q=Ju l {x with op:=7} u Q:=by kernel_rfl
theorem Mq (l:ze3) (us:ze2) (x:Nd) (u:Un) (Q:zdW):xG l us {x with op:=3} u Q=aaK l {x with op:=3} u Q:=by kernel_rfl
theorem Mr (l:ze3) (us:ze2) (x:Nd) (u:Un) (Q:zdW):xG l us {x with op:=4} u Q=aaK l {x with op:=4} u Q:=by kernel_rfl
theorem Ms (l:ze3) (us:ze2) (x:Nd) (u:Un) (Q:zdW):xG l us {x with op:=5} u Q=aaK l {x with op:=5} u Q:=by kernel_rfl
theorem Mt (l:ze3) (us:ze2) (x:Nd) (u:Un) (Q:zdW):xG l us {x with op:=6} u Q=aaK l {x with op:=6} u Q:=by kernel_rfl
def zD (l:ze3) (x:Nd):ze3:=bif decide (x.op<=6) then [mb noN l x.l.toNat,mb noN l x.r.toNat,{x with l:=0,r:=1}] else [mb noN l x.l.toNat,{x with l:=0}]
def O4 (l:ze3) (x:Nd):Bool:=bif decide (x.op<=6) then(mb noN l x.l.toNat).op==1&&(mb noN l x.r.toNat).op==1 else(mb noN l x.l.toNat).op==1
def O5 (l:ze3) (x:Nd):Bool:=bif decide (x.op<=6) then fu (mb noN l x.l.toNat)||fu (mb noN l x.r.toNat) else fu (mb noN l x.l.toNat)
def cK (l:ze3) (x:Nd) (u:Un):RS×Bool:=
 bif decide (3<=x.op)&&decide (x.op<=7) then(bif O4 l x&&(bn ⟨1, [],zD l x,u⟩ []).2==0 then((bn ⟨1, [],zD l x,u⟩ []).1,true) else((rMk 0 1).1,O5 l x&&x.op==5)) else(VI,false)
theorem nD (x:Nd):sdB x=true:=by unfold sdB;rw[fR];simp
theorem Jv (v x:Nd):eN.list 2 (O3 v x)= [v,x]:=rfl
theorem BB (v w x:Nd):eN.list 3 (uc v w x)= [v,w,x]:=rfl
theorem Jw {v:Nd} (hv:szN v=true) (hx:szN x=true):eN.good szN 2 (O3 v x)=true:=El.good_iff.2 λe he=>by
 rcases(show e=0\/e=1 by omega) with rfl|rfl
 ·exact⟨rfl,hv⟩
 ·exact⟨rfl,hx⟩
theorem BD {v w:Nd} (hv:szN v=true) (hw:szN w=true) (hx:szN x=true):eN.good szN 3 (uc v w x)=true:=El.good_iff.2 λe he=>by
 rcases(show e=0\/e=1\/e=2 by omega) with rfl|rfl|rfl
 ·exact⟨rfl,hv⟩
 ·exact⟨rfl,hw⟩
 ·exact⟨rfl,hx⟩
theorem C9 {G:zdS} {b:Bool} {nod:ze3} (hl:eN.list n G=nod) (hg:eN.good szN n G=true) (hn:n<=1000000) (hu:szB u=true)
 (h1:((bn ⟨1, [],nod,u⟩ []).2==0)=true->Q (mo (bn ⟨1, [],nod,u⟩ []).1 true)) (h0:((bn ⟨1, [],nod,u⟩ []).2==0)=false->Q (mo (rMk 0 1).1 b)):Fj n G u Q b:=by
 unfold Fj;rw[hl];refine ac ?_ λ_ _=>ah h1 h0;have a:eU.good szB 0 (λ_=> [])=true:=El.good_iff.2 λe he=>by omega
 have b:eR.good uzR 0 (λ_=> [])=true:=El.good_iff.2 λe he=>by omega
 unfold bW;rw[zae (za0 n),zae hn,a,b,hg,hu];rfl
theorem Fk (hl: ∀x∈l,szN x=true) (hop:1<=x.op/\x.op<=8) (hx:VN l.length x=true) (hsx:szN x=true) (hu:szB u=true)
 (hQ:Q (mo (cK l x u).1 (cK l x u).2)):xG l us x u Q:=by
 have hs:=bL hx;have L:3<=x.op->0<=x.l/\x.l<l.length:=λh=>by
  by_cases a:x.op<=6
  ·exact hs x.l (by rw[aQ h a];simp)
  ·exact hs x.l (by rw[bF (by omega)];simp)
 have R:3<=x.op->x.op<=6->0<=x.r/\x.r<l.length:=λh a=>hs x.r (by rw[aQ h a];simp);have N: ∀{i:Int},0<=i->i<l.length->szN (mb noN l i.toNat)=true/\cB0 (atN l i)=true/\atN l i=mb noN l i.toNat:=λ{i} h0 h1=>by
  have:=hl _ (bw (d:=noN) (l:=l) (e:=i.toNat) (by omega));have e:atN l i=mb noN l i.toNat:=by unfold atN;rw[za7]
  refine⟨this, ?_,e⟩;unfold szN at this;rw[za2] at this;unfold cB0;rw[e,oM,this.1];rfl
 have noV: ¬(3<=x.op/\x.op<=7)->cK l x u=(VI,false):=λh=>by
  unfold cK;rw[show (decide (3<=x.op)&&decide (x.op<=7))=false by simp;omega];rfl
 have two:3<=x.op->x.op<=6->aaK l x u Q:=λo1 o2=>by
  obtain⟨l1,l2⟩:=L o1;obtain⟨r1,r2⟩:=R o1 o2;obtain⟨a1,a2,a3⟩:=N l1 l2;obtain⟨b1,b2,b3⟩:=N r1 r2;have hV:cK l x u=bif ((mb noN l x.l.toNat).op==1&&(mb noN l x.r.toNat).op==1)&&(bn ⟨1, [], [mb noN l x.l.toNat,mb noN l x.r.toNat,{x with l:=0,r:=1}],u⟩ []).2==0 then((bn ⟨1, [], [mb noN l x.l.toNat,mb noN l x.r.toNat,{x with l:=0,r:=1}],u⟩ []).1,true) else((rMk 0 1).1,(fu (mb noN l x.l.toNat)||fu (mb noN l x.r.toNat))&&x.op==5):=by
   unfold cK O4 O5 zD;rw[zdx o1,zdx (show x.op<=7 by omega),zdx o2];rfl
  rw[hV] at hQ;unfold aaK;rw[a3] at a2 ⊢;rw[b3] at b2 ⊢;generalize mb noN l x.l.toNat=yl at*
  generalize mb noN l x.r.toNat=yr at*
  have hx':szN {x with l:=0,r:=1}=true:=hsx;have E: ∀b,(yl.op==1)=true->(yr.op==1)=true->((fu yl||fu yr)&&x.op==5)=b->Fj 3 (uc yl yr {x with l:=0,r:=1}) u Q b:=λb h1 h2 h3=>by
   rw[h1,h2,h3] at hQ;refine C9 (BB _ _ _) (BD a1 b1 hx') (by decide) hu (λh=> ?_) (λh=> ?_)
   ·rw[h] at hQ;exact hQ
   ·rw[h] at hQ;exact hQ
  have Z: ∀b,((yl.op==1)&&(yr.op==1))=false->((fu yl||fu yr)&&x.op==5)=b->Q (mo (rMk 0 1).1 b):=λb h1 h3=>by
   rw[h1,h3] at hQ;exact hQ
  refine ac (nD x) λ_ _=>ac (nD x) λ_ _=>ac (gK l1 l2) (ac (ja l1 l2) (ac a2 λ_ _=>ac a2 λ_ _=>ac (gK r1 r2) (ac (ja r1 r2) (ah (λh=>ac b2 λ_ _=>ah (λk=>ah (λj=>E _ h j ?_) (λj=>Z _ ?_ ?_)) (λk=>ac b2 λ_ _=>ah (λj=>E _ h j ?_) (λj=>Z _ ?_ ?_))) (λh=>ah (λk=>Z _ ?_ ?_) (λk=>ac b2 λ_ _=>Z _ ?_ ?_))))))
  ·unfold fu;rw[k];rfl
  ·rw[h,j];rfl
  ·unfold fu;rw[k];rfl
  ·unfold fu;rw[k];cases cZ yr oK<;>rfl
  ·rw[h,j];rfl
  ·unfold fu;rw[k];cases cZ yr oK<;>rfl
  ·rw[h];rfl
  ·unfold fu;rw[k];rfl
  ·rw[h];rfl
  ·unfold fu;rw[k];cases cZ yr oK<;>rfl
 have one:x.op=7->Ju l x u Q:=λo=>by
  obtain⟨l1,l2⟩:=L (by omega);obtain⟨a1,a2,a3⟩:=N l1 l2;have hV:cK l x u=bif (mb noN l x.l.toNat).op==1&&(bn ⟨1, [], [mb noN l x.l.toNat,{x with l:=0}],u⟩ []).2==0 then((bn ⟨1, [], [mb noN l x.l.toNat,{x with l:=0}],u⟩ []).1,true) else((rMk 0 1).1,fu (mb noN l x.l.toNat)&&x.op==5):=by
   unfold cK O4 O5 zD;rw[o];rfl
  rw[hV] at hQ;unfold Ju;rw[a3] at a2 ⊢;generalize mb noN l x.l.toNat=yl at*
  have hx':szN {x with l:=0}=true:=hsx;have hb:(bif cZ yl oK then x.op==5 else false)=(fu yl&&x.op==5):=by unfold fu;cases cZ yl oK<;>rfl
  rw[hb];refine ac (nD x) λ_ _=>ac (nD x) λ_ _=>ac (gK l1 l2) (ac (ja l1 l2) (ac a2 λ_ _=>ac a2 λ_ _=>ah (λh=> ?_) (λh=> ?_)))
  ·rw[h] at hQ;refine C9 (Jv _ _) (Jw a1 hx') (by decide) hu (λk=> ?_) (λk=> ?_)
   ·rw[k] at hQ;exact hQ
   ·rw[k] at hQ;exact hQ
  ·rw[h] at hQ;exact hQ
 rcases(show x.op=1\/x.op=2\/x.op=3\/x.op=4\/x.op=5\/x.op=6\/x.op=7\/x.op=8 by omega) with o|o|o|o|o|o|o|o
 ·rw[noV (by omega)] at hQ;have e:=dW o;rw[<-e,Mn];exact ac (nD _) λ_ _=>hQ
 ·rw[noV (by omega)] at hQ;have e:=dW o;rw[<-e,Mo];exact ac (nD _) λ_ _=>hQ
 ·have:=two (by omega) (by omega);rw[<-dW o] at this ⊢;rw[Mq];exact this
 ·have:=two (by omega) (by omega);rw[<-dW o] at this ⊢;rw[Mr];exact this
 ·have:=two (by omega) (by omega);rw[<-dW o] at this ⊢;rw[Ms];exact this
 ·have:=two (by omega) (by omega);rw[<-dW o] at this ⊢;rw[Mt];exact this
 ·have:=one o;rw[<-dW o] at this ⊢;rw[Mp];exact this
 ·rw[noV (by omega)] at hQ;rw[<-dW o,Mm];exact hQ
def BE:MCtr:=λbl _ args=>match args with
 | [s, .agg cs, .agg cu]=>match xD bl s,Au (.agg cu) with
   |some a,some u=>some {X:=Unit,pre:=a.need&&ndB cs&&decide (1<=(Vh cs).op)&&decide ((Vh cs).op<=8)&&VN a.l.length (Vh cs)&&szN (Vh cs)&&szB u,spec:=λ_=>True,out:=λ_=>mo (cK a.l (Vh cs) u).1 (cK a.l (Vh cs) u).2,ex:=λ_=>⟨(),trivial⟩}
   |_,_=>none
 |_=>none
theorem Fl: ∀B:Base,GlobB B->VU prog B 64 BE:=eW Ml λbl nx args C hk hp=>by
 unfold BE at hk;split at hk
 ·rename_i s cs cu;split at hk
  ·rename_i a u ha hu;simp only[za1] at hk;subst hk;simp only[za2,zdB] at hp;obtain⟨⟨⟨⟨⟨⟨h0,h1⟩,h2⟩,h3⟩,h4⟩,h5⟩,h6⟩:=hp;obtain⟨x,rfl⟩: ∃x,cs=svN x:=⟨_,ua h1⟩;obtain rfl:=pM hu;rw[fR] at h2 h3 h4 h5;obtain⟨e0,s1,s2,s3,s4,s5,s6,s7,s8⟩:=ub (f:=rnF [some a.w,a.o1,a.o2] [] nx) ha h0 rfl rfl rfl;refine⟨[some a.w,a.o1,a.o2],pT a.l a.us, [.ptr 0 0 0, .agg (svN x), .agg (ci u)],λ_ _=>none,8,aw s1 (aw s2 (aw s3 trivial)),bH (λC hC=>(jM _ _ C hC).1),cd (λC hC=>(jM _ _ C hC).2),ar s4 (ar (Xs (rns_free (j4 x))) (ar (Xs (rns_free (fj u))) rfl)), ?_⟩;refine lz () trivial rfl (r:=mo (cK a.l x u).1 (cK a.l x u).2) rfl rfl rfl rfl (λC hC=>(jM _ _ C hC).1) rfl ?_;exact Fk s5 ⟨h2,h3⟩ h4 h5 h6 rfl
  ·cases hk
 ·cases hk
def Da (I:Int->Prop) (N:Int):zdY:=λf k=>bif Nat.beq f 65&&Nat.beq k 2 then some (λA=>{X:=Int,inv:=I,tm:=λi=> [(8, .val (.int .i64 i))],mu:=λi=>(N - i).toNat,keep:= [0,3,7]}) else none
theorem Mu (I:Int->Prop) (N:Int) (l:ze3) (x:Nd) (Q:zdW):dk [] (Da I N) 5 65 [.slc 0 0 l.length, .agg (svN x)] [eN.old l] (Go.Sy.okK λr _ _ _=>Q r)=
 LH I N (.slc 0 0 l.length) (.ptr 1 0 0) l.length (λz K=>K (eqN x (eN.nth l (0+z.toNat)))) (λz=>Q (cI.enc z)):=by kernel_rfl
def BF:MCtr:=λbl _ args=>match args with
 | [s, .agg cs]=>match gy bl 26 s with
   |some (b,_,n,g)=>some {X:=Unit,pre:=b&&bW n&&eN.good szN n g&&ndB cs,spec:=λ_=>True,out:=λ_=>cI.enc (be (eqN (Vh cs)) (eN.list n g) 0),ex:=λ_=>⟨(),trivial⟩}
   |none=>none
 |_=>none
theorem Fm: ∀B:Base,GlobB B->VU prog B 65 BF:=eW MOk.nil λbl nx args C hk hp=>by
 unfold BF at hk;split at hk
 ·rename_i s cs;split at hk
  ·rename_i b o n g hs;simp only[za1] at hk;subst hk;simp only[za2] at hp;obtain⟨⟨⟨rfl,hn⟩,hg⟩,h1⟩:=hp;obtain⟨x,rfl⟩: ∃x,cs=svN x:=⟨_,ua h1⟩;have hlen:(eN.list n g).length<2^62:=by rw[El.list_length];have:=zak hn;omega
   obtain⟨t1,t2⟩:=cq (f:=rnF [o] [] nx) hs hg;refine⟨[o], [eN.old (eN.list n g)], [.slc 0 0 (eN.list n g).length, .agg (svN x)],Da (λi=>0<=i/\i<=(eN.list n g).length/\be (eqN x) (eN.list n g) 0=be (eqN x) ((eN.list n g).drop i.toNat) i) (eN.list n g).length,5,aw t1 trivial,bH (by simp[cN,El.old]),cd (by simp[El.old,BK.map]),ar (t2 0 rfl) (ar (Xs (rns_free (j4 x))) rfl), ?_⟩;refine lz () trivial rfl (r:=cI.enc (be (eqN x) (eN.list n g) 0)) rfl rfl rfl rfl (by simp[cN,El.old]) rfl ?_;rw[Mu];refine pJ noN hlen (λz Q h0 h1 h=> ?_) rfl;rw[za7];exact h
  ·cases hk
 ·cases hk
def Qs:ze0:= [(27,xi),(62,tX),(63,Jr),(64,BE),(65,BF),(48,kf eU),(49,CY)]
theorem Mv:MOk Qs:=((((((MOk.nil.cons zp).cons tW).cons Fm).cons Fl).cons Js).cons pR).cons vM
structure QX where
 i:Int
 l:List Nd
 us:List Un
 num:Nat->Int
def O6 (A:AS) (t:Nat):zdS:=match A.tm t with
 | .v (.mp i)=>(match A.bl i with
   |some B=>B.get
   |none=>λ_=> [])
 |_=>λ_=> []
def BG (x:Nd) (g:zdS) (z:SX):Prop:=0<=z.1/\z.1<=ax x.op/\z.2.1=(bif decide (1<=z.1) then iG (g x.l.toNat) else x.l)/\z.2.2=(bif decide (2<=z.1) then iG (g x.r.toNat) else x.r)
def Jy (I:QX->Prop) (N:Int):zdY:=λf k=>bif Nat.beq f 17&&Nat.beq k 7 then some (λA=>{X:=QX,inv:=I,tm:=λx=> [(31, .val (.int .i64 x.i))],st:= [(kA A 7,λx=> [.slc A.nx 0 x.l.length, .slc (A.nx+1) 0 x.us.length])],bk:= [(Nf A 8,λx k=> [.val (.int .i64 (x.num k))])],clean:=λp hp x e=>by simp at hp;subst hp;rfl,gr:= [{src:= .cell (kA A 7) 0 0,sz:=26,n:=λx=>x.l.length,get:=λx=>eN.get x.l},{src:= .cell (kA A 7) 0 1,sz:=20,n:=λx=>x.us.length,get:=λx=>eU.get x.us}],cleanG:=λg hg x e=>(by simp at hg;rcases hg with rfl|rfl;exact eN.ids _;exact eU.ids _),mu:=λx=>(N - x.i).toNat,keep:= [1,2,3,4,7,8,29,30]})
 else bif Nat.beq f 17&&Nat.beq k 10 then some (λA=>{X:=SX,inv:=BG (Vh (qv A 10 0)) (O6 A 8),tm:=λx=> [(38, .val (.int .i64 x.1))],st:= [(kA A 10,λx=>(qv A 10 0).take 24++ [.val (.int .i64 x.2.1), .val (.int .i64 x.2.2)])],mu:=λx=>(3 - x.1).toNat,keep:= [1,2,3,4,7,8,9,10,29,30,31,36,37],sp:= [λ_=>(0,(Vh (qv A 10 0)).l,(Vh (qv A 10 0)).r),λx=>(1,x.2.1,(Vh (qv A 10 0)).r),λx=>(2,x.2)]})
 else none
structure QIds where
 a:Nat×Nat
 b:Nat×Nat
 c:Nat×Nat
 d:Nat×Nat
 e:Nat×Nat
def qM (p:Int) (U nn:Nat) (q:Nat×Nat) (n1 n2:Nat) (g1 g2 g:zdS) (z:QX):Prop:=
 (TV.v (cI.enc p)=TV.v (cI.enc z.i)/\cg 2/\cg 3/\tvE (cI.enc 0)/\tvE (.slc 6 0 U)/\cg 17/\tvE (.mp 19)/\tvE (.slc 1 0 nn)/\tvE (cI.enc (nn:Int))/\True)/\(((∀e,iG (g e)=z.num e)/\True)/\(([SV.slc q.1 0 n1,SV.slc q.2 0 n2]= [SV.slc q.1 0 z.l.length,SV.slc q.2 0 z.us.length]/\True)/\(af (Nat.beq 26 26&&decide (z.l.length<=n1)) (∀e,e<z.l.length->g1 e=eN.get z.l e)/\(af (Nat.beq 20 20&&decide (z.us.length<=n2)) (∀e,e<z.us.length->g2 e=eU.get z.us e)/\True))))
def Jz (us:ze2) (u:Un):zdS:=ct (eU.get us) (λe=>((ci u).drop (e*20)).take 20) us.length 0
def wkB (l:ze3) (us:ze2):Bool:=Nat.ble 1 1&&Nat.beq 2 2&&true&&(Nat.ble l.length l.length&&Nat.beq 26 26&&true)&&(Nat.ble us.length us.length&&Nat.beq 20 20&&true)&&bW l.length&&bW us.length&&eN.good szN l.length (eN.get l)&&eU.good szB us.length (eU.get us)&&Nat.beq l.length us.length
def lR (l:ze3):ze3:=eN.list l.length (eN.get l)
def uR (us:ze2):ze2:=eU.list us.length (eU.get us)
def smB (l:ze3) (us:ze2) (x:Nd):Bool:=wkB l us&&ndB (svN x)&&decide (1<=x.op)&&decide (x.op<=8)&&VN (lR l).length x
def vlB (l:ze3) (us:ze2) (x:Nd) (u:Un):Bool:=wkB l us&&ndB (svN x)&&decide (1<=x.op)&&decide (x.op<=8)&&VN (lR l).length x&&szN x&&szB u
section
variable (I:QX->Prop) (N:Int) (uu:ze2) (nn:Nat) (z:QX)
def Mw (q:Nat×Nat) (k:Int) (n1 n2:Nat) (g1 g2:zdS):Prop:=
 af (decide (0<=z.i)) (af (inR .i64 (z.i+1)) (∃z':QX,I z'/\((N - z'.i).toNat<(N - z.i).toNat/\qM (z.i+1) uu.length nn q n1 n2 g1 g2 (Nw (xn z.num) z.i.toNat k) z')))
def vX (K:Un->Prop):Prop:=af (pS uu.length z.i) (af (decB uu.length z.i) (K (mb noU uu (0+z.i.toNat))))
def Mx (q:Nat×Nat) (k:Int) (x:Nd):Prop:=
 ag (k== -1) (LY z.l.length (af (inR .i64 (((z.l.length+1:Nat):Int) - 1)) (vX uu z λu=>tO z.us.length (Mw I N uu nn z q (((z.l.length+1:Nat):Int) - 1) (z.l.length+1) (z.us.length+1) (gv z.l x) (Jz z.us u)))))
  (Mw I N uu nn z (25,26) k z.l.length z.us.length (eN.get z.l) (eU.get z.us))
def My (q:Nat×Nat) (x:Nd):Prop:=
 af ((Nat.ble z.l.length z.l.length&&Nat.beq 26 26&&true)&&bW z.l.length&&eN.good szN z.l.length (eN.get z.l)&&ndB (svN x)) (Unit->True->Mx I N uu nn z q (be (eqN x) (lR z.l) 0) x)
def Mz (q r:Nat×Nat) (x:Nd):Prop:=
 vX uu z λu=>af (vlB z.l z.us x u) (Unit->True->ag (cK (lR z.l) x u).2
  (vX uu z λu'=>My I N uu nn z q ⟨1,(cK (lR z.l) x u).1,u',0,0,0⟩) (My I N uu nn z r x))
def vY (D:QIds) (x:Nd):Prop:=
 vX uu z λu=>af (smB z.l z.us x) (Unit->True->ag (iD (lR z.l) (uR z.us) x u== -1)
  (Mz I N uu nn z D.a D.b x/\Mz I N uu nn z D.c D.d x) (Mx I N uu nn z D.e (iD (lR z.l) (uR z.us) x u) x))
def qsM (x:Nd) (p dl dr:Int) (y:SX):Prop:=
 (TV.v (cI.enc p)=TV.v (cI.enc y.1)/\cg 2/\cg 3/\tvE (cI.enc 0)/\tvE (.slc 6 0 uu.length)/\cg 17/\tvE (.mp 19)/\tvE (cI.enc z.i)/\cg 31/\tvE (.slc 1 0 nn)/\tvE (cI.enc (nn:Int))/\tvE (cI.enc z.i)/\tvE (.slc 34 0 (ax x.op))/\tvE (cI.enc (ax x.op:Int))/\True)/\(True/\((svN {x with l:=dl,r:=dr}=svN {x with l:=y.2.1,r:=y.2.2}/\True)/\True))
def qsN (x:Nd) (k dl dr:Int):Prop:= ∃y:SX,BG x (xn z.num) y/\((3 - y.1).toNat<(3 - k).toNat/\qsM uu nn z x (k+1) dl dr y)
def MA (i:Int) (K:Int->Prop):Prop:=af (decide (0<=i)&&true) (K (z.num i.toNat))
def JA (D:QIds) (x:Nd):Prop:=
 af (sdB x) (Unit->True->
 ∃y0:SX,BG x (xn z.num) y0/\(qsM uu nn z x 0 x.l x.r y0/\
  ((∀y:SX,BG x (xn z.num) y->(0,x.l,x.r)=y\/(1,y.2.1,x.r)=y\/(2,y.2)=y\/False)/\
  ((∀y:SX,BG x (xn z.num) (0,x.l,x.r)->ag (decide (0<(ax x.op:Int))) (eO (ax x.op) 0 (MA z x.l λv=>qsN uu nn z x 0 v x.r)) (vY I N uu nn z D x))/\
  ((∀y:SX,BG x (xn z.num) (1,y.2.1,x.r)->ag (decide (1<(ax x.op:Int))) (eO (ax x.op) 1 (MA z x.r λv=>qsN uu nn z x 1 y.2.1 v)) (vY I N uu nn z D {x with l:=y.2.1}))/\
  ((∀y:SX,BG x (xn z.num) (2,y.2)->ag (decide (2<(ax x.op:Int))) (eO (ax x.op) 2 (MA z y.2.2 λv=>qsN uu nn z x 2 y.2.1 v)) (vY I N uu nn z D {x with l:=y.2.1,r:=y.2.2}))/\True))))))
end
def O7 (D:QIds) (I:QX->Prop) (N:Int) (p:Pr) (K0:DK0) (K1:DK1):Prop:=
 af (jn p) (Unit->True->ag ((VJ (dm p)).2.2 !=0) (K0 0 (ci noU) 100)
 (∃z0:QX,I z0/\(((TV.v (cI.enc 0)=TV.v (cI.enc z0.i)/\cg 2/\cg 3/\tvE (cI.enc 0)/\tvE (.slc 6 0 (VJ (dm p)).1.length)/\cg 17/\tvE (.mp 19)/\tvE (.slc 1 0 p.nod.length)/\tvE (cI.enc (p.nod.length:Int))/\True)/\(((∀e,0=z0.num e)/\True)/\(([SV.val (.slice none 0 0),SV.val (.slice none 0 0)]= [SV.val (.slice none z0.l.length 0),SV.val (.slice none z0.us.length 0)]/\True)/\(z0.l.length=0/\(z0.us.length=0/\True)))))/\
   ∀z:QX,I z->ag (decide (z.i<(p.nod.length:Int)))
    (af (pS p.nod.length z.i) (af (decB p.nod.length z.i) (JA I N (VJ (dm p)).1 p.nod.length z D (mb noN p.nod (0+z.i.toNat)))))
    (af (Nat.ble p.inp.length p.inp.length&&Nat.beq 20 20&&true&&bW p.inp.length&&eU.good (λ_=>true) p.inp.length (eU.get p.inp)&&decide (0<p.inp.length)) (Unit->True->
      af (inR .i64 ((p.nod.length:Int) - 1)) (af (decide (0<=(p.nod.length:Int) - 1)&&true)
      (af (Nat.ble z.l.length z.l.length&&Nat.beq 26 26&&true&&bW z.l.length&&eN.good (λ_=>true) z.l.length (eN.get z.l)&&decide (0<=z.num ((p.nod.length:Int) - 1).toNat)&&decide (z.num ((p.nod.length:Int) - 1).toNat<(z.l.length:Int))&&dH z.l.length (eN.get z.l)) (Unit->True->
        K1 28 p.inp.length (eU.own (eU.list p.inp.length (eU.get p.inp))) 29 (cG (lR z.l) (z.num ((p.nod.length:Int) - 1).toNat)).length (eN.own (cG (lR z.l) (z.num ((p.nod.length:Int) - 1).toNat))) p.id (ci p.out) 0))))))))
set_option maxHeartbeats 0
theorem O8 (I:QX->Prop) (N:Int) (p:Pr) (K0:DK0) (K1:DK1):dk Qs (Jy I N) 6 17 [kB p] (iK p) (prK K0 K1)=O7 ⟨(55,64),(48,57),(55,64),(48,57),(45,54)⟩ I N p K0 K1:=by kernel_rfl
def eZ (l:ze3) (x:Nd) (u:Un):Nd:=bif (cK l x u).2 then⟨1,(cK l x u).1,u,0,0,0⟩ else x
def ud (l:ze3) (us:ze2) (x:Nd) (u:Un):List Nd×List Un×Int:=
 bif iD l us x u != -1 then(l,us,iD l us x u) else bif be (eqN (eZ l x u)) l 0 != -1 then(l,us,be (eqN (eZ l x u)) l 0) else(l++ [eZ l x u],us++ [u],(l.length:Int))
def Wy (uu:ze2):List Nd->Nat->List Nd->List Un->(Nat->Int)->List Nd×(Nat->Int)
 | [],_,l,_,num=>(l,num)
 |x::r,i,l,us,num=>Wy uu r (i+1) (ud l us (dO num x) (mb noU uu i)).1 (ud l us (dO num x) (mb noU uu i)).2.1 (nc num i (ud l us (dO num x) (mb noU uu i)).2.2)
def xH (p:Pr):Pr×Int:=bif (VJ p).2.2 !=0 then(zP,100) else
 (⟨p.id,p.inp,cG (Wy (VJ p).1 p.nod 0 [] [] (λ_=>0)).1 ((Wy (VJ p).1 p.nod 0 [] [] (λ_=>0)).2 (p.nod.length - 1)),p.out⟩,0)
structure QOK (l:List Nd) (us:List Un) (num:Nat->Int) (i:Nat):Prop where
 len:l.length=us.length
 le:l.length<=i
 szl: ∀x∈l,szN x=true
 szu: ∀u∈us,szB u=true
 side: ∀j,j<l.length->VN j (mb noN l j)=true
 num: ∀k,k<i->0<=num k/\num k<l.length
theorem oN {α:Type} (p:α->Bool): ∀(l:List α) (i:Int),be p l i= -1\/(i<=be p l i/\be p l i<i+l.length)
 | [],i=> .inl rfl
 |x::r,i=>by
  rw[be];cases p x with
  |true=>exact .inr ⟨zat _,by simp only[zdz,za4];omega⟩
  |false=>
   rw[zdy];rcases oN p r (i+1) with h|h
   ·exact .inl h
   ·exact .inr (by simp only[za4];omega)
variable {l:ze3} {us:ze2} {x:Nd} {u:Un}
theorem zE (hx:VN l.length x=true):iD l us x u= -1\/(0<=iD l us x u/\iD l us x u<l.length):=by
 have hs:=bL hx;have L:3<=x.op/\x.op<=8->0<=x.l/\x.l<l.length:=λh=>by
  by_cases a:x.op<=6
  ·exact hs x.l (by rw[aQ h.1 a];simp)
  ·exact hs x.l (by rw[bF (by omega)];simp)
 have R:3<=x.op/\x.op<=6->0<=x.r/\x.r<l.length:=λh=>hs x.r (by rw[aQ h.1 h.2];simp);have B: ∀(b:Bool) (p q:Int),(b=true->p= -1\/(0<=p/\p<l.length))->(q= -1\/(0<=q/\q<l.length))->(cond b p q= -1\/(0<=cond b p q/\cond b p q<l.length)):=λb p q h k=>by cases b;exact k;exact h rfl
 unfold iD;refine B _ _ _ (λh=> .inr (L ?_)) (B _ _ _ (λh=> .inr (L ?_)) (B _ _ _ (λh=> .inr (R ?_)) (B _ _ _ (λh=> .inr (L ?_)) (B _ _ _ (λh=> .inr (R ?_)) (.inl rfl)))))
 all_goals simp only[za2,zav,zdG] at h
 all_goals omega
theorem MB (num:Nat->Int) (x:Nd):(dO num x).op=x.op:=by
 rcases fP num x with ⟨_,_,e⟩|⟨_,e⟩|⟨_,e⟩<;>rw[e]
variable {num:Nat->Int}
theorem vZ {n:Nat} (h: ∀s∈VW x,0<=num s.toNat/\num s.toNat<n):VN n (dO num x)=true:=by
 unfold VN;rw[zaf];intro s hs;have:0<=s/\s<(n:Int):=by
  rcases fP num x with ⟨a,b,e⟩|⟨a,e⟩|⟨a,e⟩
  ·rw[e,aQ (x:={x with l:=num x.l.toNat,r:=num x.r.toNat}) a b] at hs;rw[aQ a b] at h;simp only[zai,zby,or_false] at hs;rcases hs with rfl|rfl
   ·exact h x.l (by simp)
   ·exact h x.r (by simp)
  ·rw[e,bF (x:={x with l:=num x.l.toNat}) a] at hs;rw[bF a] at h;simp only[zai,zby,or_false] at hs;rw[hs];exact h x.l (by simp)
  ·rw[e,l7 a] at hs;cases hs
 simp[this]
theorem zF (p:Pr) (ins:List RS):bn p ins=(VI,90)\/rV (bn p ins).1=true:=by
 rcases(show (bn p ins).2=0\/bn p ins=(VI,90) by
  unfold bn;cases !VM p||ins.length !=p.inp.length|| !ins.all rV with
  |true=>exact .inr rfl
  |false=>
   rw[zdy];split
   ·exact .inl rfl
   ·exact .inr rfl) with h|h
 ·exact .inr (xy (p:=p) (ins:=ins) (v:=(bn p ins).1) (by rw[<-h])).rv
 ·exact .inl h
theorem Fo (l:ze3) (x:Nd) (u:Un):uzR (cK l x u).1=true:=by
 have B: ∀(b:Bool) (p q:RS×Bool),uzR p.1=true->uzR q.1=true->uzR (cond b p q).1=true:=λb p q h k=>by cases b;exact k;exact h
 unfold cK;refine B _ _ _ (B _ _ _ ?_ (gu _ _)) (by decide);rcases zF ⟨1, [],zD l x,u⟩ [] with e|e
 ·rw[e];decide
 ·exact Ie e
theorem QOK.step {i:Nat} (Q:QOK l us num i) (hx: ∀s∈VW x,s.toNat<i) (hsx:szN x=true) (hu:szB u=true):
 QOK (ud l us (dO num x) u).1 (ud l us (dO num x) u).2.1 (nc num i (ud l us (dO num x) u).2.2) (i+1):=by
 have hside:VN l.length (dO num x)=true:=vZ λs hs=>Q.num _ (hx s hs)
 have same: ∀k:Int,0<=k->k<l.length->QOK l us (nc num i k) (i+1):=λk h0 h1=>⟨Q.len,by have:=Q.le;omega,Q.szl,Q.szu,Q.side,λe he=>by
  unfold nc;rw[bS];by_cases h:e=i
  ·rw[zdx h];exact⟨h0,h1⟩
  ·rw[zdA h];exact Q.num e (by omega)⟩
 unfold ud;cases h1:iD l us (dO num x) u != -1 with
 |true=>
  rcases zE (us:=us) (u:=u) hside with h|h
  ·rw[h] at h1;cases h1
  ·exact same _ h.1 h.2
 |false=>
  rw[zdy];cases h2:be (eqN (eZ l (dO num x) u)) l 0 != -1 with
  |true=>
   rcases oN (eqN (eZ l (dO num x) u)) l 0 with h|h
   ·rw[h] at h2;cases h2
   ·exact same (be (eqN (eZ l (dO num x) u)) l 0) h.1 (by omega)
  |false=>
   rw[zdy];refine⟨by simp only[za3,za6];rw[Q.len],by simp only[za3,za6];have:=Q.le;omega,λy hy=> ?_,λv hv=> ?_,λj hj=> ?_,λe he=> ?_⟩
   ·rcases za8.1 hy with hy|hy
    ·exact Q.szl y hy
    ·rw[zaj.1 hy];unfold eZ;cases (cK l (dO num x) u).2 with
     |true=>
      show (uzR (cK l (dO num x) u).1&&szB u)=true;rw[Fo,hu];rfl
     |false=>rw[zdy,xu];exact hsx
   ·rcases za8.1 hv with hv|hv
    ·exact Q.szu v hv
    ·rw[zaj.1 hv];exact hu
   ·dsimp only;rw[aS];by_cases e:j=l.length
    ·rw[if_pos e,e];unfold eZ;cases (cK l (dO num x) u).2 with
     |true=>rfl
     |false=>exact hside
    ·rw[if_neg e];simp only[za3,za6] at hj;exact Q.side j (by omega)
   ·unfold nc;rw[bS];simp only[za3,za6];by_cases h:e=i
    ·rw[zdx h,zdz];omega
    ·rw[zdA h,zdy];have:=Q.num e (by omega);omega
section
variable {I:QX->Prop} {N:Int} {uu:ze2} {nn:Nat} {z:QX}
variable {us:ze2}
theorem Fp {u:Un} {e:Nat} (he:e<us.length+1):Jz us u e=eU.get (us++ [u]) e:=by
 unfold Jz ct El.get El.nth;rw[aB];show _=ci (mb noU (us++ [u]) e);rw[aS];by_cases h:e<us.length
 ·rw[zdx h,zdz,if_neg (by omega)];rfl
 ·obtain rfl:e=us.length:=by omega
  rw[zdA h,zdy,if_pos rfl,zaJ];rfl
variable {q:Nat×Nat} {k:Int}
theorem Db {n1 n2:Nat} {g1 g2:zdS} {l':ze3} {us':ze2} (h0:0<=z.i) (h1:z.i<N) (h2:z.i<=1000000) (e1:n1=l'.length) (e2:n2=us'.length)
 (hg1: ∀e,e<l'.length->g1 e=eN.get l' e) (hg2: ∀e,e<us'.length->g2 e=eU.get us' e) (hI:I ⟨z.i+1,l',us',nc z.num z.i.toNat k⟩):Mw I N uu nn z q k n1 n2 g1 g2:=by
 subst e1 e2;unfold Mw;refine ac (zdx h0) (ac (VP.2 (by omega)) ⟨_,hI,by show (_:Nat)<_;dsimp only;omega,⟨rfl,rfl,rfl,rfl,rfl,rfl,rfl,rfl,rfl,trivial⟩,⟨λe=>rfl,trivial⟩,⟨rfl,trivial⟩,ac (by simp) hg1,ac (by simp) hg2,trivial⟩)
theorem oO {K:Un->Prop} (h0:0<=z.i) (h1:z.i<uu.length) (h:K (mb noU uu z.i.toNat)):vX uu z K:=by
 unfold vX;rw[za7];exact ac (gK h0 h1) (ac (ja h0 h1) h)
theorem v8 (l:ze3):lR l=l:=El.list_get
theorem Qt (us:ze2):uR us=us:=El.list_get
variable {x:Nd}
theorem Dc (h0:0<=z.i) (h1:z.i<N) (h2:z.i<=900000) (h3:z.i<uu.length) (hlen:z.l.length=z.us.length) (hle:z.l.length<=900000)
 (ha:k= -1->I ⟨z.i+1,z.l++ [x],z.us++ [mb noU uu z.i.toNat],nc z.num z.i.toNat z.l.length⟩) (hb:k≠ -1->I ⟨z.i+1,z.l,z.us,nc z.num z.i.toNat k⟩):Mx I N uu nn z q k x:=by
 unfold Mx;refine ah (λh=> ?_) (λh=> ?_)
 ·have h:=beq_iff_eq.1 h;rw[show (((z.l.length+1:Nat):Int) - 1)=(z.l.length:Int) by omega];exact xp (by omega) (ac (VP.2 (by omega)) (oO h0 h3 (fV (by omega) (Db h0 h1 (by omega) (by simp) (by simp) (λe he=>pO (by simpa using he)) (λe he=>Fp (by simpa using he)) (ha h)))))
 ·exact Db h0 h1 (by omega) rfl rfl (λ_ _=>rfl) (λ_ _=>rfl) (hb (by simpa using h))
theorem O9 {l:ze3} (hlen:l.length=us.length) (hle:l.length<=1000000) (hl: ∀x∈l,szN x=true) (hu: ∀u∈us,szB u=true):wkB l us=true:=by
 unfold wkB bW;rw[zae (za0 l.length),zae (za0 us.length),zae hle,zae (show us.length<=1000000 by omega),El.good_get hl,El.good_get hu,show Nat.beq l.length us.length=true by rw[hlen];exact Nat.beq_refl _];rfl
variable {D:QIds}
theorem JB (h0:0<=z.i) (h1:z.i<N) (h2:z.i<=900000) (h3:z.i<uu.length) (Q:QOK z.l z.us z.num z.i.toNat) (hop:1<=x.op/\x.op<=8) (hside:VN z.l.length x=true) (hsx:szN x=true) (hu: ∀u∈uu,szB u=true)
 (hI:I ⟨z.i+1,(ud z.l z.us x (mb noU uu z.i.toNat)).1,(ud z.l z.us x (mb noU uu z.i.toNat)).2.1,nc z.num z.i.toNat (ud z.l z.us x (mb noU uu z.i.toNat)).2.2⟩):vY I N uu nn z D x:=by
 have hle:z.l.length<=900000:=by have:=Q.le;omega
 have hw:=O9 Q.len (by omega) Q.szl Q.szu;have hsu:=hu _ (bw (d:=noU) (l:=uu) (e:=z.i.toNat) (by omega));unfold vY;refine oO h0 h3 (ac ?_ λ_ _=> ?_)
 ·unfold smB;rw[hw,oM,zdx hop.1,zdx hop.2,v8,hside];rfl
 rw[v8,Qt];unfold ud at hI;refine ah (λh=> ?_) (λh=> ?_)
 ·have h:=beq_iff_eq.1 h;rw[h] at hI;replace hI:I ⟨z.i+1,(bif be (eqN (eZ z.l x (mb noU uu z.i.toNat))) z.l 0 != -1 then(z.l,z.us,be (eqN (eZ z.l x (mb noU uu z.i.toNat))) z.l 0) else(z.l++ [eZ z.l x (mb noU uu z.i.toNat)],z.us++ [mb noU uu z.i.toNat],(z.l.length:Int))).1,(bif be (eqN (eZ z.l x (mb noU uu z.i.toNat))) z.l 0 != -1 then(z.l,z.us,be (eqN (eZ z.l x (mb noU uu z.i.toNat))) z.l 0) else(z.l++ [eZ z.l x (mb noU uu z.i.toNat)],z.us++ [mb noU uu z.i.toNat],(z.l.length:Int))).2.1,nc z.num z.i.toNat (bif be (eqN (eZ z.l x (mb noU uu z.i.toNat))) z.l 0 != -1 then(z.l,z.us,be (eqN (eZ z.l x (mb noU uu z.i.toNat))) z.l 0) else(z.l++ [eZ z.l x (mb noU uu z.i.toNat)],z.us++ [mb noU uu z.i.toNat],(z.l.length:Int))).2.2⟩:=hI;have idx: ∀(q:Nat×Nat) (y:Nd),eZ z.l x (mb noU uu z.i.toNat)=y->My I N uu nn z q y:=λq y hy=>by
   rw[hy] at hI;unfold My;refine ac ?_ λ_ _=> ?_
   ·unfold bW;rw[zae (za0 z.l.length),zae (show z.l.length<=1000000 by omega),El.good_get Q.szl,oM];rfl
   rw[v8];refine Dc h0 h1 h2 h3 Q.len hle (λk=> ?_) (λk=> ?_)
   ·rw[k] at hI;exact hI
   ·rw[show (be (eqN y) z.l 0 != -1)=true by simpa using k] at hI;exact hI
  have val: ∀q r,Mz I N uu nn z q r x:=λq r=>by
   unfold Mz;refine oO h0 h3 (ac ?_ λ_ _=> ?_)
   ·unfold vlB;rw[hw,oM,zdx hop.1,zdx hop.2,v8,hside,hsx,hsu];rfl
   rw[v8];refine ah (λk=>oO h0 h3 (idx _ _ ?_)) (λk=>idx _ _ ?_)
   ·unfold eZ;rw[k];rfl
   ·unfold eZ;rw[k];rfl
  exact⟨val _ _,val _ _⟩
 ·have h':(iD z.l z.us x (mb noU uu z.i.toNat) != -1)=true:=by simpa [bne] using h
  rw[h'] at hI;have h:iD z.l z.us x (mb noU uu z.i.toNat)≠ -1:=by simpa using h
  exact Dc h0 h1 h2 h3 Q.len hle (λk=>absurd k h) (λ_=>hI)
theorem Dd {i:Int} {K:Int->Prop} (h:0<=i) (k:K (z.num i.toNat)):MA z i K:=ac (by rw[zdx h];rfl) k
theorem JC (hs: ∀s∈VW x,0<=s) (hn: ∀s∈VW x,0<=z.num s.toNat) (hR:vY I N uu nn z D (dO z.num x)):JA I N uu nn z D x:=by
 have hle:=gS x.op;have hl:1<=ax x.op->0<=x.l:=λh=>by
  rcases(show ax x.op=1\/ax x.op=2 by omega) with h|h
  ·exact hs _ (by rw[bF (V7.1 h)];simp)
  ·have:=VY.1 h;exact hs _ (by rw[aQ this.1 this.2];simp)
 have hr:2<=ax x.op->0<=x.r:=λh=>by
  have:=VY.1 (show ax x.op=2 by omega);exact hs _ (by rw[aQ this.1 this.2];simp)
 unfold JA;refine ac (nD x) λ_ _=>⟨(0,x.l,x.r),⟨zat _,by show (0:Int)<=_;omega,rfl,rfl⟩,⟨⟨rfl,rfl,rfl,rfl,rfl,rfl,rfl,rfl,rfl,rfl,rfl,rfl,rfl,rfl,trivial⟩,trivial,⟨rfl,trivial⟩,trivial⟩, ?_, ?_, ?_, ?_,trivial⟩
 ·rintro⟨k,a,b⟩ ⟨h0,h1,h2,h3⟩;dsimp only at h0 h1 h2 h3;rcases(show k=0\/k=1\/k=2 by omega) with rfl|rfl|rfl
  ·left;rw[zdA (by omega),zdy] at h2 h3;rw[h2,h3]
  ·right;left;rw[show decide (2<=(1:Int))=false from rfl,zdy] at h3;rw[h3]
  ·right;right;left;rfl
 ·rintro y ⟨h0,h1,h2,h3⟩;refine ah (λh=> ?_) (λh=> ?_)
  ·have h:=zdC h;have a:=hl (by omega);exact aY (zat _) h (Dd a ⟨(1,z.num x.l.toNat,x.r),⟨by show (0:Int)<=1;decide,by show (1:Int)<=_;omega,rfl,rfl⟩,by show (3 - (1:Int)).toNat<(3 - (0:Int)).toNat;decide,⟨⟨rfl,rfl,rfl,rfl,rfl,rfl,rfl,rfl,rfl,rfl,rfl,rfl,rfl,rfl,trivial⟩,trivial,⟨rfl,trivial⟩,trivial⟩⟩)
  ·have h:=zdD h;have e:ax x.op=0:=by omega
   have: ¬(3<=x.op/\x.op<=8):=λhh=>by
    by_cases a:x.op<=6
    ·rw[VY.2 ⟨hh.1,a⟩] at e;omega
    ·rw[V7.2 (by omega)] at e;omega
   rw[ri this] at hR;exact hR
 ·rintro y ⟨h0,h1,h2,h3⟩;dsimp only at h0 h1 h2 h3;rw[show decide (1<=(1:Int))=true from rfl,zdz] at h2;replace h2:y.2.1=z.num x.l.toNat:=h2;refine ah (λh=> ?_) (λh=> ?_)
  ·have h:=zdC h;have a:=hr (by omega);exact aY (by decide) h (Dd a ⟨(2,y.2.1,z.num x.r.toNat),⟨by show (0:Int)<=2;decide,by show (2:Int)<=_;omega,h2,rfl⟩,by show (3 - (2:Int)).toNat<(3 - (1:Int)).toNat;decide,⟨⟨rfl,rfl,rfl,rfl,rfl,rfl,rfl,rfl,rfl,rfl,rfl,rfl,rfl,rfl,trivial⟩,trivial,⟨rfl,trivial⟩,trivial⟩⟩)
  ·have h:=zdD h;have e:ax x.op=1:=by omega
   rw[oF (V7.1 e)] at hR;rw[h2];exact hR
 ·rintro y ⟨h0,h1,h2,h3⟩;dsimp only at h0 h1 h2 h3;rw[show decide (1<=(2:Int))=true from rfl,zdz] at h2;rw[show decide (2<=(2:Int))=true from rfl,zdz] at h3;replace h2:y.2.1=z.num x.l.toNat:=h2;replace h3:y.2.2=z.num x.r.toNat:=h3;refine ah (λh=> ?_) (λh=> ?_)
  ·have h:=zdC h;omega
  ·have e:ax x.op=2:=by omega
   have e:=VY.1 e;rw[oE e.1 e.2] at hR;rw[h2,h3];exact hR
end
theorem De {inp:ze2} (hi: ∀u∈inp,szB u=true): ∀{l:ze3} {us vs:ze2},(∀x∈l,szN x=true)->(∀u∈us,szB u=true)->iB inp l us=(vs,true)-> ∀u∈vs,szB u=true
 | [],us,vs,_,hu,h=>by simp only[iB,zag,and_true] at h;subst h;exact hu
 |x::r,us,vs,hx,hu,h=>by
  simp only[iB] at h;split at h
  ·rename_i u hh;refine De hi (λy hy=>hx y (zan _ hy)) (λv hv=> ?_) h;rcases za8.1 hv with hv|hv
   ·exact hu v hv
   ·rw[zaj.1 hv];exact CR (hx x (by simp)) hi hu hh
  ·simp at h
variable {p:Pr}
theorem Fq (h:(VJ p).2.2=0):iB p.inp p.nod []=((VJ p).1,true)/\eqU (ly (VJ p).1) p.out=true/\oB p=true:=by
 unfold VJ at h ⊢;cases hb:oB p with
 |false=>rw[hb] at h;exact absurd (show (90:Int)=0 from h) (by decide)
 |true=>
  rw[hb,zdz] at h;rw[zdz];cases hu:iB p.inp p.nod [] with
  |mk us b=>
   rw[hu] at h;cases b with
   |false=>exact absurd (show (90:Int)=0 from h) (by decide)
   |true=>
    simp only at h ⊢;cases he:eqU (ly us) p.out with
    |false=>rw[he] at h;exact absurd (show (90:Int)=0 from h) (by decide)
    |true=>exact⟨by rw[zdz],he,trivial⟩
theorem Fs (hs:cw p=true) (h:(VJ p).2.2=0): ∀u∈(VJ p).1,szB u=true:=by
 unfold cw at hs;simp only[za2,zaf] at hs;exact De hs.1.1 hs.1.2 (λu hu=>by cases hu) (Fq h).1
structure QI (p:Pr) (z:QX):Prop where
 i0:0<=z.i
 i1:z.i<=p.nod.length
 ok:QOK z.l z.us z.num z.i.toNat
 eq:Wy (VJ p).1 p.nod 0 [] [] (λ_=>0)=Wy (VJ p).1 (p.nod.drop z.i.toNat) z.i.toNat z.l z.us z.num
def QL (p:Pr) (K1:DK1):Prop:= ∀q:Pr,xH p=(q,0)->q.id=p.id->q.inp=p.inp->q.out=p.out->1<=q.nod.length->K1 28 p.inp.length (eU.own p.inp) 29 q.nod.length (eN.own q.nod) p.id (ci p.out) 0
theorem Ft {D:QIds} {K0:DK0} {K1:DK1} (hs:cw p=true) (h1:p.inp.length<=1000000) (h2:p.nod.length<=1000000) (hin:1<=p.inp.length) (k0:xH p=(zP,100)->K0 0 (ci noU) 100) (k1:QL p K1):O7 D (QI p) p.nod.length p K0 K1:=by
 unfold O7;rw[fN];refine ac (eY hs h1 h2) λ_ _=>ah (λh=>k0 ?_) (λh=> ?_)
 ·unfold xH;rw[h];rfl
 have hF:xH p=(⟨p.id,p.inp,cG (Wy (VJ p).1 p.nod 0 [] [] (λ_=>0)).1 ((Wy (VJ p).1 p.nod 0 [] [] (λ_=>0)).2 (p.nod.length - 1)),p.out⟩,0):=by unfold xH;rw[h];rfl
 have h:(VJ p).2.2=0:=by simpa using h
 have hv:VM p=true:=by unfold VM;rw[h];rfl
 have hp:=(cV hv);have hN:=(bQ hv).2;have hcs:=Fs hs h;have hcl:(VJ p).1.length=p.nod.length:=by
  rcases ke p with ⟨c,_⟩|⟨_,_,c,_⟩
  ·rw[h] at c;cases c
  ·exact c
 have hs':=hs;unfold cw at hs';simp only[za2,zaf] at hs';refine⟨⟨0, [], [],λ_=>0⟩,⟨zat _,by show (0:Int)<=_;omega,⟨rfl,za0 _,(λx hx=>by cases hx),(λx hx=>by cases hx),(λj hj=>by simp at hj),(λk hk=>by cases hk)⟩,rfl⟩,⟨⟨rfl,rfl,rfl,rfl,rfl,rfl,rfl,rfl,rfl,trivial⟩,⟨λ_=>rfl,trivial⟩,⟨rfl,trivial⟩,rfl,rfl,trivial⟩, ?_⟩;rintro z ⟨a0,a1,Q,a3⟩;refine ah (λhz=> ?_) (λhz=> ?_)
 ·have hz:=zdC hz;rw[za7];have hj:z.i.toNat<p.nod.length:=by omega
  have ok:=hN z.i.toNat hj;have hd:p.nod.drop z.i.toNat=mb noN p.nod z.i.toNat::p.nod.drop (z.i.toNat+1):=by
   rw[zaH hj,bR (zaa _)]
  have sx:=hs'.1.2 _ (bw (d:=noN) (l:=p.nod) (e:=z.i.toNat) hj);have side0: ∀s∈VW (mb noN p.nod z.i.toNat),0<=s/\s<z.i.toNat:=λs hs=>by
   have:=ok.nodeIn;unfold nodeIn at this;rw[za2] at this;exact bL this.1 s hs
  have hstep:=Q.step (x:=mb noN p.nod z.i.toNat) (u:=mb noU (VJ p).1 z.i.toNat) (l9 ok) sx (hcs _ (bw (by omega)));refine ac (gK a0 hz) (ac (ja a0 hz) (JC (λs hs=>(side0 s hs).1) (λs hs=>(Q.num _ (l9 ok s hs)).1) (JB a0 hz (by omega) (by omega) Q (by rw[MB];exact ok.op) (vZ λs hs=>Q.num _ (l9 ok s hs)) (by rw[xu];exact sx) hcs ?_)));have en:(z.i+1).toNat=z.i.toNat+1:=by omega
  refine⟨by show 0<=z.i+1;omega,by show z.i+1<=_;omega,by rw[en];exact hstep, ?_⟩;rw[a3,hd];dsimp only;rw[en];rfl
 ·have hz:=zdD hz;have ei:z.i.toNat=p.nod.length:=by omega
  rw[ei,zbk,Wy] at a3;rw[ei] at Q;have e1:((p.nod.length:Int) - 1).toNat=p.nod.length - 1:=by omega
  rw[a3] at hF;obtain⟨b1,b2⟩:=Q.num (p.nod.length - 1) (by omega);have hkp:=pQ b1 b2;rw[show eU.list p.inp.length (eU.get p.inp)=p.inp from El.list_get,v8,e1];refine ac ?_ λ_ _=>ac (VP.2 (by omega)) (ac (by rw[zdx (by omega)];rfl) (ac ?_ λ_ _=>k1 _ hF rfl rfl rfl hkp.1))
  ·unfold bW;rw[zae (za0 _),zae h1,El.good_get (λ_ _=>rfl),zdx (show 0<p.inp.length by omega)];rfl
  ·have hle:=Q.le;have hsd:dH z.l.length (eN.get z.l)=true:=V5.2 λj hj=>by
    show VN j (Vh (svN (mb noN z.l j)))=true;rw[fR];exact Q.side j hj
   unfold bW;rw[zae (za0 _),zae (show z.l.length<=1000000 by omega),El.good_get (λ_ _=>rfl),zdx b1,zdx b2,hsd];rfl
def Pc:MCtr:=λbl nx args=>match args with
 | [s]=>match mC bl s with
   |some a=>some {X:=Unit,pre:=a.need&&decide (1<=a.p.inp.length),spec:=λ_=>True,out:=λ_=>prO nx (xH a.p),nw:=λ_=>prW (xH a.p),ex:=λ_=>⟨(),trivial⟩}
   |none=>none
 |_=>none
theorem MC: ∀B:Base,GlobB B->VU prog B 17 Pc:=eW Mv λbl nx args C hk hp=>by
 unfold Pc at hk;split at hk
 ·rename_i s;split at hk
  ·rename_i a ha;simp only[za1] at hk;subst hk;simp only[za2,zdB] at hp;obtain⟨hp,hin⟩:=hp;obtain⟨s1,s2,s3,s4,s5,s6⟩:=eX (f:=rnF [a.o1,a.o2] [] nx) ha hp rfl rfl;refine⟨[a.o1,a.o2],iK a.p, [kB a.p],Jy (QI a.p) a.p.nod.length,6,aw s1 (aw s2 trivial),bH (cx _),cd (jG _),ar s3 rfl, ?_⟩;refine cQ (K:=prK (λid rest e=>xH a.p=(zP,100)/\id=0/\rest=ci noU/\e=100) (λi n B j m C id rest e=> ∃q:Pr,xH a.p=(q,0)/\q.id=a.p.id/\q.inp=a.p.inp/\q.out=a.p.out/\m=q.nod.length/\1<=m/\i=28/\j=29/\C=eN.own q.nod/\n=a.p.inp.length/\B=eU.own a.p.inp/\id=a.p.id/\rest=ci a.p.out/\e=0)) ?_ λr bl' m w h=> ?_
   ·rw[O8];exact Ft s4 s5 s6 hin (λh=>⟨h,rfl,rfl,rfl⟩) λq h1 h2 h3 h4 h5=>⟨q,h1,h2,h3,h4,rfl,h5,rfl,rfl,rfl,rfl,rfl,rfl,rfl,rfl⟩
   ·rcases vQ h with ⟨id,rest,e,rfl,h1,rfl,rfl,rfl⟩|⟨id,i,n,j,m',B,C,rest,e,rfl,hB,hC,q,h1,h2,h3,h4,rfl,h5,rfl,rfl,rfl,rfl,rfl,rfl,rfl,rfl⟩
    ·refine⟨(),trivial, [none,none],⟨_,rfl, ?_⟩,by simp[ck],⟨⟨rfl,by rw[h1];rfl,rfl⟩,⟨rfl,by rw[h1];rfl,rfl⟩,trivial⟩,cr (cx _) rfl _⟩;rw[h1];have e:=rns_free (f:=dt [a.o1,a.o2] [none,none] nx) (fj noU);show SV.rn (dt [a.o1,a.o2] [none,none] nx) (prO nx (zP,100))=_;unfold prO;have e0:dt [a.o1,a.o2] [none,none] nx nx=some none:=cO;have e1:dt [a.o1,a.o2] [none,none] nx (nx+1)=some none:=jA 1;exact xh (ar (Xs (ar rfl (ar (by simp only[SV.rn,e0];rfl) (ar (by simp only[SV.rn,e1];rfl) e)))) rfl)
    ·have e:=rns_free (f:=dt [a.o1,a.o2] [some 28,some 29] nx) (fj q.out);have e0:dt [a.o1,a.o2] [some 28,some 29] nx nx=some (some 28):=cO;have e1:dt [a.o1,a.o2] [some 28,some 29] nx (nx+1)=some (some 29):=jA 1;refine⟨(),trivial, [some 28,some 29],⟨_,rfl, ?_⟩,by simp[ck],⟨⟨by simp[iK], ?_⟩,⟨by simp[iK], ?_⟩,trivial⟩,cr (cx _) rfl _⟩
     ·rw[h1];show SV.rn (dt [a.o1,a.o2] [some 28,some 29] nx) (prO nx (q,0))=_;unfold prO;dsimp only;rw[h2,h3,<-h4];exact xh (ar (Xs (ar rfl (ar (by simp only[SV.rn,e0]) (ar (by simp only[SV.rn,e1]) e)))) rfl)
     ·rw[hB,h1];dsimp only;rw[h3];exact⟨by simp[El.own],λ_=>⟨hin,eU.one⟩,gC rfl rfl (za0 _) λ_ _=>rfl⟩
     ·rw[hC,h1];exact⟨by simp[El.own],λ_=>⟨h5,eN.one⟩,gC rfl rfl (za0 _) λ_ _=>rfl⟩
  ·cases hk
 ·cases hk
def Pd:ze0:= [(12,Ru),(17,Pc),(39,C8),(44,O2),(19,zm),(15,pN)]
theorem MD:MOk Pd:=(((((MOk.nil.cons lZ).cons tP).cons Mj).cons zC).cons MC).cons Rn
def nIn (n:Int):Nd:=⟨2,VI,noU,n,0,0⟩
def WI (n l:Int):Nd:=⟨7,VI,noU,n,l,0⟩
def qx:Un:=(jm (aT 0) (3,1)).1
def oneU:zdS:=je (ci (aT 0)) 20
def Qu:zdS:=je (ci (aT 0)++ci (aT 2)) 20
def ue:zdS:=je (svN (nIn 0)++svN (WI 3 0)) 26
def inN:zdS:=je (svN (nIn 0)) 26
def Qv:zdS:=je (gA (rMk 2 1).1) 2
def cubeR:Pr:=⟨1,eU.list 1 oneU,eN.list 2 ue,qx⟩
def nB (n1:Nat) (g1:zdS) (n2:Nat) (g2:zdS) (u:Un) (K:Prop):Prop:=af (kp n1 n1 g1 n2 n2 g2 u) (Unit->True->K)
def Df (Q:zdW):Prop:=
 nB 1 oneU 2 ue qx (af (jn (aG cubeR 0).1&&decide (1<=(dm (aG cubeR 0).1).inp.length)) (Unit->True->
  af (kp 1 1 oneU 2 2 ue qx&&(Nat.ble 1 1&&Nat.beq 2 2&&true)&&bW 1&&eR.good uzR 1 Qv&&decide (1<=cubeR.inp.length)) (Unit->True->
  nB 1 oneU 2 ue qx (nB 2 Qu 1 inN (aT 0) (nB 1 oneU 2 ue qx (nB 1 oneU 2 ue qx (
  af ((true&&true)&&bW 0&&bW 0&&eU.good szB 0 (λ_=> [])&&eN.good szN 0 (λ_=> [])&&szB noU) (Unit->True->Q (cB.enc true)))))))))
theorem Fu (Q:zdW):dk Pd (λ_ _=>none) 8 9 [] [] (Go.Sy.okK λr _ _ _=>Q r)=Df Q:=by kernel_rfl
variable {u:Un}
theorem uf {n1:Nat} {g1:zdS} {n2:Nat} {g2:zdS} (h1:n1<=1000000) (h2:n2<=1000000) (k1:eU.good szB n1 g1=true) (k2:eN.good szN n2 g2=true) (hu:szB u=true):kp n1 n1 g1 n2 n2 g2 u=true:=by
 unfold kp bW;rw[zae (za0 n1),zae (za0 n2),zae h1,zae h2,k1,k2,hu];rfl
theorem JD (h:szB u=true):eU.good szB 1 (je (ci u) 20)=true:=El.good_iff.2 λe he=>by
 obtain rfl:e=0:=by omega
 exact⟨rfl,h⟩
theorem Pe {v:Un} (h:szB u=true) (k:szB v=true):eU.good szB 2 (je (ci u++ci v) 20)=true:=El.good_iff.2 λe he=>by
 rcases(show e=0\/e=1 by omega) with rfl|rfl
 ·exact⟨rfl,h⟩
 ·exact⟨rfl,k⟩
variable {x:Nd}
theorem Pf (h:szN x=true):eN.good szN 1 (je (svN x) 26)=true:=El.good_iff.2 λe he=>by
 obtain rfl:e=0:=by omega
 exact⟨rfl,h⟩
theorem Pg {y:Nd} (h:szN x=true) (k:szN y=true):eN.good szN 2 (je (svN x++svN y) 26)=true:=El.good_iff.2 λe he=>by
 rcases(show e=0\/e=1 by omega) with rfl|rfl
 ·exact⟨rfl,h⟩
 ·exact⟨rfl,k⟩
theorem BH {Q:zdW} (hQ:Q (cB.enc true)):dk Pd (λ_ _=>none) 8 9 [] [] (Go.Sy.okK λr _ _ _=>Q r):=by
 rw[Fu];have b0:szB (aT 0)=true:=by kernel_rfl
 have b2:szB (aT 2)=true:=by kernel_rfl
 have bu:szB qx=true:=by kernel_rfl
 have ni: ∀n,szN (nIn n)=true:=λn=>lB;have np:szN (WI 3 0)=true:=lB;have c1:kp 1 1 oneU 2 2 ue qx=true:=uf (by decide) (by decide) (JD b0) (Pg (ni 0) np) bu;have c2:kp 2 2 Qu 1 1 inN (aT 0)=true:=uf (by decide) (by decide) (Pe b0 b2) (Pf (ni 0)) b0;have hc:cw cubeR=true:=by kernel_rfl
 obtain⟨d1,d2,d3⟩:=qw (i:=0) hc;unfold Df nB;refine ac c1 λ_ _=>ac ?_ λ_ _=>ac ?_ λ_ _=>ac c1 λ_ _=>ac c2 λ_ _=>ac c1 λ_ _=>ac c1 λ_ _=>ac ?_ λ_ _=>hQ
 ·have h:decide (1<=(dm (aG cubeR 0).1).inp.length)=true:=by kernel_rfl
  rw[eY d1 d2 d3,h];rfl
 ·have r2:eR.good uzR 1 Qv=true:=El.good_iff.2 λe he=>by
   obtain rfl:e=0:=by omega
   exact⟨rfl,gu 2 1⟩
  have h:decide (1<=cubeR.inp.length)=true:=by kernel_rfl
  rw[c1,r2,h];rfl
 ·have a:eU.good szB 0 (λ_=> [])=true:=El.good_iff.2 λe he=>by omega
  have b:eN.good szN 0 (λ_=> [])=true:=El.good_iff.2 λe he=>by omega
  rw[a,b];rfl
def xI:MCtr:=λ_ _ args=>match args with
 | []=>some {X:=Unit,pre:=true,spec:=λ_=>True,out:=λ_=>cB.enc true,ex:=λ_=>⟨(),trivial⟩}
 |_=>none
theorem BI: ∀B:Base,GlobB B->VU prog B 9 xI:=eW MD λbl nx args C hk hp=>by
 unfold xI at hk;split at hk
 ·simp only[za1] at hk;subst hk;refine⟨[], [], [],λ_ _=>none,8,trivial,bH (by simp),cd (by simp),rfl, ?_⟩;exact lz () trivial rfl (r:=cB.enc true) rfl rfl rfl rfl (by simp) rfl (BH rfl)
 ·cases hk
def bh (n:Int):RS:=(rMk n 1).1
def v9:List FuncId:=
 121::
 61::
 zh
theorem zG: ∀f∈v9,V0 prog f:=by
 unfold v9;intro f hf;rcases zai.1 hf with rfl|hf
 ·exact call121
 rcases zai.1 hf with rfl|hf
 ·exact call61
 exact xe f hf
abbrev ug (g:List (FuncId×Ctr)) (ann:zdY) (n:Nat) (f:FuncId) (args:zdQ) (K:zdW):Prop:=wq prog (iR v9) (gw g) (gx []) ann n f args (λ_=>none) 0 [] (Go.Sy.okK λr _ _ _=>K r)
variable {ann:zdY} {n:Nat} {F:FuncId} {args:zdQ}
theorem kh {g:List (FuncId×Ctr)} (h:GOk g) {W0:World} (hg:GlobU W0) {r:SV} (ha:SV.idss args= []) (hr:r.ids= []) (hrun:ug g ann n F args (λs=>s=r)):Go.Sy.Yields prog W0 F args r:=
 eo (λW hb=>mW (h.all W (hg.below hb)) (λ_ h=>by cases h) zG (by kernel_rfl)) ha hr hrun
theorem Fv (c n:Int) (K:zdW):ug xf noA 3 121 [cI.enc c,cI.enc n] K=vH c n K:=by kernel_rfl
theorem Fx (c n:Int) (K:zdW):ug xf noA 3 85 [cI.enc c,cI.enc n] K=vH c n K:=by kernel_rfl
theorem BJ (c n:Int) (K:zdW):ug xf noA 3 11 [cI.enc c,cI.enc n] K=vH c n K:=by kernel_rfl
abbrev Dg:Ctr:=k2 cI cI cI (λc n=>uInt c&&decide (0<n)) co
theorem uh {W:World} (hW:GlobU W) (hvc: ∀(c n:Int) (K:zdW),ug xf noA 3 F [cI.enc c,cI.enc n] K=vH c n K):CtrOK prog W F Dg:=bC λc n h=>by
 rw[za2] at h;exact kh WH (ann:=noA) (n:=3) hW de (cI.ids _) (by rw[hvc];exact A6 (K:=λr=>r=_) h.1 (zdC h.2) rfl)
def ui:List (FuncId×Ctr):=(11,Dg)::(85,Dg)::
 (121,Dg)::
 xf
theorem xJ:GOk ui:=
 ((WH
   |>.cons (λW hW=>uh hW Fv) call121
   ).cons (λW hW=>uh hW Fx) call85).cons (λW hW=>uh hW BJ) call11
theorem Fy {n:Int} {K:Prop} (h: -9223372036854775808<=n/\n<=9223372036854775807) (k:K):af (inR .i64 n) K:=ac (VP.2 h) k
theorem Fz (x:Int×Int) (K:zdW):ug ui noA 3 61 [c22.enc x] K=
 af (uInt x.1&&decide (0<(1999:Int))) (af (inR .i64 (co x.1 1999 - 999)) (af (uInt x.2&&decide (0<(60:Int))) (af (inR .i64 (1+co x.2 60)) (af (uInt (co x.1 1999 - 999)&&uInt (1+co x.2 60)) (K (cR.enc (Yk.smallF x))))))):=by kernel_rfl
theorem FA (n:Int) (K:zdW):ug ui noA 3 40 [cI.enc n] K=af (uInt n&&uInt 1) (K (cR.enc (bh n))):=by kernel_rfl
def BL (n:Int):Un:=
 bif co n 7==0 then aT 0 else bif co n 7==1 then aT 2 else bif co n 7==2 then {aT 0 with f:=(⟨#[49]⟩,⟨#[49,48,48,48]⟩)} else
 bif co n 7==3 then(fd (aT 0) (aT 0)).1 else bif co n 7==4 then {aT 4 with s:=0,o:=(⟨#[53,52,54,51]⟩,⟨#[50,48]⟩)} else bif co n 7==5 then aT 4 else(mi (aT 0) (aT 0)).1
def BM (n:Int) (K:zdW):Prop:=
 af (uInt n&&decide (0<(7:Int))) (ag (co n 7==0) (K (cU.enc (aT 0))) (ag (co n 7==1) (K (cU.enc (aT 2))) (ag (co n 7==2) (K (cU.enc {aT 0 with f:=(⟨#[49]⟩,⟨#[49,48,48,48]⟩)})) (
 ag (co n 7==3) (K (cU.enc (fd (aT 0) (aT 0)).1)) (ag (co n 7==4) (K (cU.enc {aT 4 with s:=0,o:=(⟨#[53,52,54,51]⟩,⟨#[50,48]⟩)})) (ag (co n 7==5) (K (cU.enc (aT 4))) (K (cU.enc (mi (aT 0) (aT 0)).1))))))))
theorem JF (n:Int) (K:zdW):ug ui noA 3 26 [cI.enc n] K=BM n K:=by kernel_rfl
theorem JG {n:Int} {K:zdW} (h:uInt n=true) (k:K (cU.enc (BL n))):BM n K:=by
 unfold BL at k;unfold BM;rw[h];refine ac rfl (ah (λa=> ?_) (λa=>ah (λb=> ?_) (λb=>ah (λc=> ?_) (λc=>ah (λd=> ?_) (λd=>ah (λe=> ?_) (λe=>ah (λf=> ?_) (λf=> ?_)))))))
 ·rw[a] at k;exact k
 ·rw[a,b] at k;exact k
 ·rw[a,b,c] at k;exact k
 ·rw[a,b,c,d] at k;exact k
 ·rw[a,b,c,d,e] at k;exact k
 ·rw[a,b,c,d,e,f] at k;exact k
 ·rw[a,b,c,d,e,f] at k;exact k
def xK:List (FuncId×Ctr):=
 (26,k1 cI cU uInt BL)::
 (40,k1 cI cR uInt bh)::
 (61,k1 c22 cR (λx=>uInt x.1&&uInt x.2) Yk.smallF)::
 ui
theorem BN:GOk xK:=
 (((xJ
   |>.cons (λW hW=>dD λx h=>kh xJ (ann:=noA) (n:=3) hW eu (cR.ids _) (by
    rw[Fz];rw[za2] at h;have b1:=gR x.1 (n:=1999) (by decide);have b2:=gR x.2 (n:=60) (by decide)
    exact ac (by rw[h.1];rfl) (Fy (by omega) (ac (by rw[h.2];rfl) (Fy (by omega) (ac (by rw[V4.2 (by omega),V4.2 (by omega)];rfl) rfl)))))) call61
   )
   |>.cons (λW hW=>dD λn h=>kh xJ (ann:=noA) (n:=3) hW eu (cR.ids _) (by rw[FA];exact ac (by rw[h];rfl) rfl)) call40
   )
   |>.cons (λW hW=>dD λn h=>kh xJ (ann:=noA) (n:=3) hW eu (cU.ids _) (by rw[JF];exact JG (K:=λr=>r=_) h rfl)) call26
   )
def BO:List (FuncId×Ctr):=
 xK
theorem JJ:GOk BO:=
 BN
def Dh:List (FuncId×Ctr):=
 BO
theorem WJ:GOk Dh:=
 JJ
@[irreducible] def JL (gm:ze0) (ann:zdY) (n:Nat) (f:FuncId) (args:zdQ) (Cs:List Blk) (K:Aft):Prop:=
 Ay prog (iR v9) (gw Dh) (gx gm) tL ann n f args (λi=>Cs[i]?) Cs.length [] K
variable {gm:ze0}
theorem Q8 {f:FuncId} {Cs:List Blk} {K K':Aft} (h:JL gm ann n f args Cs K) (hm: ∀r b n w,K r b n w->K' r b n w):JL gm ann n f args Cs K':=by
 unfold JL at h ⊢;exact NiceT.mono (Ea _ _ _ _ _ _ f args _ _ _ (λi hi=>zad hi)) h λr b n w _=>hm r b n w
theorem Qy (hm:MOk gm) {B:Base} (hB:GlobB B):HypD prog B (iR v9) (gw Dh) (gx gm) tL:=
 have h:Hyp prog B (iR v9) (gw Dh) (gx gm):=mW (λp hp=>⟨CtrOK.base λw hw=>(WJ.all w (hB w hw) p hp).1,(WJ.all B.w (hB B.w (Pres.self B)) p hp).2⟩) (hm.all B hB) zG (by kernel_rfl)
 ⟨h.gam,h.mem,(P2 hm hB).dem,h.ok,h.mixed⟩
theorem Sh (hm:MOk gm) {k:MCtr} (h: ∀(bl:zdR) (nx:Nat) (args:zdQ) (C:RC),k bl nx args=some C->C.pre=true->
 ∃(src:List (Option Nat)) (Cs:List Blk) (args0:zdQ) (ann:zdY) (n:Nat),yw bl (rnF src [] nx) src Cs/\Kr src Cs/\Far src Cs/\SV.rns (rnF src [] nx) args0=some args/\JL gm ann n F args0 Cs (KB C src Cs nx)):
 ∀B:Base,GlobB B->VU prog B F k:=λB hB=>wE (λB' hs=>Qy hm (hB.sub hs)) λbl nx args C hk hp=>by
 have:=h bl nx args C hk hp;unfold JL at this;exact this
end Go.Proofs.YthngoecanpokhaaGreatDoor
namespace Yk
open Go Go.RowKit Go.Sy
def RQ (y:I4):zdQ:= [.val (.int .i64 y.1), .val (.int .i64 y.2.1), .val (.int .i64 y.2.2.1), .val (.int .i64 y.2.2.2)]
def Ud:List SV->I4
 | [.val (.int .i64 a), .val (.int .i64 b), .val (.int .i64 c), .val (.int .i64 d)]=>(a,b,c,d)
 |_=>(0,0,0,0)
def e4:El I4:={sz:=4,sv:=RQ,of:=Ud,d:=(0,0,0,0),rt:=λ_=>rfl,ids:=λ_=>rfl,len:=λ_=>rfl,one:=by decide}
def uz4 (y:I4):Bool:=uInt y.1&&uInt y.2.1&&uInt y.2.2.1&&uInt y.2.2.2
structure Cas where
 a:Int×Int×Int
 k:Int
 x:List I4
 e:Bool
 v:(Int×Int)×(Int×Int)×(Int×Int)
def Cas.ok (c:Cas):Bool:=uInt c.a.1&&uInt c.a.2.1&&uInt c.a.2.2&&uInt c.k&&c.x.all uz4&&uInt c.v.1.1&&uInt c.v.1.2&&uInt c.v.2.1.1&&uInt c.v.2.1.2&&uInt c.v.2.2.1&&uInt c.v.2.2.2
def Rs (c:Cas) (n:Nat):SV:= .agg [.val (.int .i64 c.a.1), .val (.int .i64 c.a.2.1), .val (.int .i64 c.a.2.2), .val (.int .i64 c.k), .slc 0 0 n, .val (.bool c.e), .val (.int .i64 c.v.1.1), .val (.int .i64 c.v.1.2), .val (.int .i64 c.v.2.1.1), .val (.int .i64 c.v.2.1.2), .val (.int .i64 c.v.2.2.1), .val (.int .i64 c.v.2.2.2)]
end Yk
namespace Go.Proofs.YthngoecanpokhaaGreatDoor
open Go Go.RowKit Go.Sy Yk
def T9 (k:Int):Int:=F8 [2, -1,3, -2,1] (0+k.toNat)
def opF (y:I4):Int:=1+co y.1 8
def RR (ni n:Int) (y:I4):Nd:=
 bif opF y==1 then⟨opF y,(rMk (co y.2.1 13 - 6) (1+co y.2.2.1 4)).1,BL y.2.2.2,0,0,0⟩ else
 bif opF y==2 then⟨opF y,VI,noU,co y.2.1 ni,0,0⟩ else
 bif opF y==7 then⟨opF y,VI,noU,T9 (co y.2.2.1 5),co y.2.1 n,0⟩ else
 bif opF y==8 then⟨opF y,VI,noU,0,co y.2.1 n,0⟩ else⟨opF y,VI,noU,0,co y.2.1 n,co y.2.2.1 n⟩
def TH (ex:Bool) (inp:ze2) (y:I4) (z:List Nd×List Un):List Nd×List Un:=
 match mn inp z.2 (RR inp.length z.1.length y) with
 |some u=>bif !ex||opF y !=8 then(z.1++ [RR inp.length z.1.length y],z.2++ [u]) else z
 |none=>z
def RT (ex:Bool) (inp:ze2):List I4->List Nd×List Un->List Nd×List Un
 | [],z=>z
 |y::r,z=>bif decide (z.1.length<14) then RT ex inp r (TH ex inp y z) else z
def QQ (a:Int×Int×Int) (k:Nat):ze2:=Go.Sy.tab (λj=>BL (mb 0 [a.1,a.2.1,a.2.2] j)) k
def R9 (k:Nat):ze3:=Go.Sy.tab (λj=>nIn j) k
def Rb (a:Int×Int×Int) (count:Int) (xs:List I4) (ex:Bool):List Nd×List Un:=RT ex (QQ a ((co count 3).toNat+1)) xs (R9 ((co count 3).toNat+1),QQ a ((co count 3).toNat+1))
def Bd (a:Int×Int×Int) (count:Int) (xs:List I4) (ex:Bool):Pr:=
 ⟨1+co count 900,QQ a ((co count 3).toNat+1),(Rb a count xs ex).1,ly (Rb a count xs ex).2⟩
theorem Rv {inp:ze2} {x:Nd} {u:Un}: ∀{l:ze3} {us vs:ze2},iB inp l us=(vs,true)->mn inp vs x=some u->iB inp (l++ [x]) us=(vs++ [u],true)
 | [],us,vs,h,k=>by
   simp only[iB,zag,and_true] at h;subst h;simp only[zaM,iB,k]
 |y::r,us,vs,h,k=>by
  simp only[zaO,iB] at h ⊢;cases e:mn inp us y with
  |none=>rw[e] at h;simp only[zag] at h;cases h.2
  |some v=>rw[e] at h;exact Rv h k
structure MadOK (inp:List Un) (z:List Nd×List Un):Prop where
 len:z.2.length=z.1.length
 pos:1<=z.1.length
 le:z.1.length<=14
 un:iB inp z.1 []=(z.2,true)
 szn: ∀x∈z.1,szN x=true
 szu: ∀u∈z.2,szB u=true
theorem RK (p:Un->Bool) (h: [aT 0,aT 2,{aT 0 with f:=(⟨#[49]⟩,⟨#[49,48,48,48]⟩)},(fd (aT 0) (aT 0)).1,{aT 4 with s:=0,o:=(⟨#[53,52,54,51]⟩,⟨#[50,48]⟩)},aT 4,(mi (aT 0) (aT 0)).1].all p=true) (n:Int):p (BL n)=true:=by
 have B: ∀(b:Bool) (x y:Un),p x=true->p y=true->p (cond b x y)=true:=λb x y h k=>by cases b;exact k;exact h
 simp only[List.all_cons,List.all_nil,zaQ,za2] at h;unfold BL;exact B _ _ _ h.1 (B _ _ _ h.2.1 (B _ _ _ h.2.2.1 (B _ _ _ h.2.2.2.1 (B _ _ _ h.2.2.2.2.1 (B _ _ _ h.2.2.2.2.2.1 h.2.2.2.2.2.2)))))
theorem QY (n:Int):szB (BL n)=true:=RK szB (by kernel_rfl) n
theorem Sr (ni n:Int) (y:I4):szN (RR ni n y)=true:=by
 have B: ∀(b:Bool) (x y:Nd),szN x=true->szN y=true->szN (cond b x y)=true:=λb x y h k=>by cases b;exact k;exact h
 unfold RR;refine B _ _ _ ?_ (B _ _ _ lB (B _ _ _ lB (B _ _ _ lB lB)));show (uzR (rMk _ _).1&&szB (BL _))=true;rw[gu,QY];rfl
theorem MadOK.step {ex:Bool} {inp:ze2} {y:I4} {z:List Nd×List Un} (hi: ∀u∈inp,szB u=true) (h:MadOK inp z) (hl:z.1.length<14):MadOK inp (TH ex inp y z):=by
 unfold TH;split
 ·rename_i u hu;cases !ex||opF y !=8 with
  |false=>exact h
  |true=>
   have hx:=Sr inp.length z.1.length y;refine⟨by simp[h.len],by simp,by simp;omega,Rv h.un hu,λx hx'=> ?_,λv hv=> ?_⟩
   ·rcases za8.1 hx' with a|a
    ·exact h.szn x a
    ·rw[zaj.1 a];exact hx
   ·rcases za8.1 hv with a|a
    ·exact h.szu v a
    ·rw[zaj.1 a];exact CR hx hi h.szu hu
 ·exact h
theorem MadOK.all {ex:Bool} {inp:ze2} (hi: ∀u∈inp,szB u=true): ∀{xs:List I4} {z:List Nd×List Un},MadOK inp z->MadOK inp (RT ex inp xs z)
 | [],z,h=>h
 |y::r,z,h=>by
  unfold RT;cases hl:decide (z.1.length<14) with
  |false=>exact h
  |true=>exact MadOK.all hi (h.step hi (zdC hl))
theorem QT {a:Int×Int×Int} {p:Un->Bool} (hp: ∀n,p (BL n)=true): ∀{k:Nat},∀u∈QQ a k,p u=true
 |0,u,h=>by cases h
 |k+1,u,h=>by
  rcases za8.1 h with h|h
  ·exact QT hp u h
  ·rw[zaj.1 h];exact hp _
variable {k:Nat}
theorem QR {a:Int×Int×Int} :(QQ a k).length=k:=fJ _ _
theorem QZ:(R9 k).length=k:=fJ _ _
theorem Si {a:Int×Int×Int} {K:Nat}: ∀{k:Nat},k<=K->iB (QQ a K) (R9 k) []=(QQ a k,true)
 |0,_=>rfl
 |k+1,h=>Rv (Si (Nat.le_of_succ_le h)) (by
  have e:mb noU (QQ a K) k=BL (mb 0 [a.1,a.2.1,a.2.2] k):=bR (qX _ (by omega));have f:VT (QQ a k).length (nIn k)=true:=rfl;have u:fL (QQ a K) (QQ a k) (nIn k)=(BL (mb 0 [a.1,a.2.1,a.2.2] k),0):=by
   show (bif decide (0<=((k:Nat):Int))&&decide (((k:Nat):Int)<((QQ a K).length:Int)) then(mb noU (QQ a K) ((k:Nat):Int).toNat,0) else(noU,90))=_;rw[QR,zdx (by omega),zdx (by omega),zd9,e];rfl
  show mn (QQ a K) (QQ a k) (nIn k)=some (BL (mb 0 [a.1,a.2.1,a.2.2] k));unfold mn
  rw[f,u];rfl)
theorem RU: ∀{k:Nat},∀x∈R9 k,szN x=true
 |0,x,h=>by cases h
 |k+1,x,h=>by
  rcases za8.1 h with h|h
  ·exact RU x h
  ·rw[zaj.1 h];exact lB
section
variable {a:Int×Int×Int} {count:Int} {xs:List I4} {ex:Bool}
theorem Rc:1<=(co count 3).toNat+1/\(co count 3).toNat+1<=3:=by
 have:=gR count (n:=3) (by decide);omega
theorem Sj:MadOK (QQ a ((co count 3).toNat+1)) (Rb a count xs ex):=by
 have:=Rc (count:=count);exact MadOK.all (QT QY) ⟨by rw[QR,QZ],by rw[QZ];exact this.1,by rw[QZ];omega,Si (za0 _),RU,QT QY⟩
theorem SO {us:ze2} (h: ∀u∈us,szB u=true):szB (ly us)=true:=eH h _
theorem Tn:cw (Bd a count xs ex)=true:=by
 have h:=Sj (a:=a) (count:=count) (xs:=xs) (ex:=ex);unfold cw;rw[show (Bd a count xs ex).inp.all szB=true from zaf.2 (QT QY),show (Bd a count xs ex).nod.all szN=true from zaf.2 h.szn,show szB (Bd a count xs ex).out=true from SO h.szu];rfl
theorem Sb:1<=(Bd a count xs ex).inp.length/\(Bd a count xs ex).inp.length<=3/\1<=(Bd a count xs ex).nod.length/\(Bd a count xs ex).nod.length<=14:=by
 have h:=Sj (a:=a) (count:=count) (xs:=xs) (ex:=ex);have n:=Rc (count:=count);refine⟨?_, ?_,h.pos,h.le⟩
 ·show 1<=(QQ a _).length;rw[QR];omega
 ·show (QQ a _).length<=3;rw[QR];omega
end
def To (p:Pr) (c:Cas):List Blk:= [eU.old p.inp,eN.old p.nod,e4.old c.x]
def SP (i:Nat) (c:Cas) (n:Nat):SV:= .agg [.val (.int .i64 c.a.1), .val (.int .i64 c.a.2.1), .val (.int .i64 c.a.2.2), .val (.int .i64 c.k), .slc i 0 n, .val (.bool c.e), .val (.int .i64 c.v.1.1), .val (.int .i64 c.v.1.2), .val (.int .i64 c.v.2.1.1), .val (.int .i64 c.v.2.1.2), .val (.int .i64 c.v.2.2.1), .val (.int .i64 c.v.2.2.2)]
abbrev Rw (p:Pr) (c:Cas) (KS:Nat->Nat->Blk->Prop):Prop:=JL [] (λ_ _=>none) 4 16 [kB p,SP 2 c c.x.length] (To p c) (xo KS)
def TI (g:zdS):List RS->Nat->Prop
 | [],_=>True
 |r::t,e=>g e=gA r/\TI g t (e+1)
def vK (l:List RS) (i n:Nat) (B:Blk):Prop:=n=l.length/\B.n=l.length/\B.sz=2/\B.kd= .own/\Nat.ble 3 i=true/\TI B.get l 0
def vT (l:List RS):Prop:=vK l 3 l.length {n:=l.length,sz:=2,get:=eR.get l,kd:= .own,nn:=false}
def vs1 (c:Cas):RS:=Yk.smallF (c.v.1.1,Int.tmod c.v.1.2 7)
def vs2 (c:Cas):RS:=Yk.smallF (c.v.2.1.1,Int.tmod c.v.2.1.2 7)
def vs3 (c:Cas):RS:=Yk.smallF (c.v.2.2.1,Int.tmod c.v.2.2.2 7)
theorem Tp (u:Un) (p:Pr) (c:Cas):Rw {p with inp:= [u]} c (vK [vs1 c])=af (uInt c.v.1.1&&uInt (Int.tmod c.v.1.2 7)) (vT [vs1 c]):=by kernel_rfl
theorem Tq (u v:Un) (p:Pr) (c:Cas):Rw {p with inp:= [u,v]} c (vK [vs1 c,vs2 c])=af (uInt c.v.1.1&&uInt (Int.tmod c.v.1.2 7)) (af (uInt c.v.2.1.1&&uInt (Int.tmod c.v.2.1.2 7)) (vT [vs1 c,vs2 c])):=by kernel_rfl
theorem Ts (u v w:Un) (p:Pr) (c:Cas):Rw {p with inp:= [u,v,w]} c (vK [vs1 c,vs2 c,vs3 c])=af (uInt c.v.1.1&&uInt (Int.tmod c.v.1.2 7)) (af (uInt c.v.2.1.1&&uInt (Int.tmod c.v.2.1.2 7)) (af (uInt c.v.2.2.1&&uInt (Int.tmod c.v.2.2.2 7)) (vT [vs1 c,vs2 c,vs3 c]))):=by kernel_rfl
end Go.Proofs.YthngoecanpokhaaGreatDoor
