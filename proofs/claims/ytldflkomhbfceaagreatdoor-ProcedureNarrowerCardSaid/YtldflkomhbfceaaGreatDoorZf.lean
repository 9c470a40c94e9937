import Derived.Test.YtldflkomhbfceaaGreatDoorZe
import Derived.Recover
import Derived.Tactics
import Derived.Tactics2
import Derived.Laws.Pointers
import Derived.LaidEql
import Derived.Stop.Asserts
import Derived.RowKitTokens
import Derived.WalkKit
import Derived.ProofKit
import Derived.OpenShut
import Derived.Carry
set_option linter.unusedVariables false
set_option linter.unusedSimpArgs false
set_option maxHeartbeats 2000000
set_option maxRecDepth 100000
noncomputable section
namespace Go.Proofs.YtldflkomhbfceaaGreatDoor
open Go.Proofs.Tryz
open Go Go.RowKit Go.Sy Yk
def QJ:MCtr:=λ_ _ _=>none
def gmC:ze0:= [(41,IF),(43+1073741824,QJ)]
abbrev CX:=Int×List Un
def Bh (A:AS) (i o:Nat):SV:=match A.bl i with
 |some B=>match (B.get 0)[o]? with
  |some s=>s
  |none=> .val undef
 |none=> .val undef
def tM (I:CX->Prop) (N:Int):zdY:=λf k=>bif Nat.beq f 12&&Nat.beq k 6 then some (λA=>{X:=CX,inv:=I,tm:=λx=> [(47, .val (.int .i64 x.1))],st:= [(kA A 6,λx=> [Bh A (kA A 6) 0,Bh A (kA A 6) 1, .slc A.nx 0 x.2.length])],gr:= [{src:= .cell (kA A 6) 0 2,sz:=20,n:=λx=>x.2.length,get:=λx=>eU.get x.2}],cleanG:=λg hg x e=>by simp at hg;subst hg;exact eU.ids _,mu:=λx=>(N - x.1).toNat,keep:= [1,6,45,46]}) else none
abbrev _root_.ze3:=List Nd
def svP (id:Int) (inp:ze2) (nod:ze3) (out:Un):SV:= .agg ([.val (.int .i64 id), .slc 0 0 inp.length, .slc 1 0 nod.length]++ci out)
def zi (i:Int):SV:= .tup [.val (.slice none 0 0), .val (.int .i64 i), .val (.int .i64 90)]
def pK (n:Nat) (i:Int):Bool:=bif decide (i≥0) then decide (i<if (n:Int)>1 then(n:Int) else 1) else false
def tN (n:Nat) (needs:Bool) (rest x:Nd) (bad K:Prop):Prop:=ag (eqN rest noN) (ag (pK n x.l) (ag (!(bif pK n x.r then(bif !needs then true else decide ((n:Int)>0)) else false)) bad K) bad) bad
def tO (n:Nat) (K:Prop):Prop:=af (decide (0<1)&&decide (0+1<=1)&&decide (n<=n)&&decide ((n+1)*192<=140737488355328)&&true) K
def eO (n:Nat) (i:Int) (K:Prop):Prop:=af (decide (0<=i)&&decide (i<(n:Int))&&decide (0+i.toNat<n)) (af (decide (0+i.toNat<n)) K)
def P4 (m c q:Nat) (ni nn:Nat) (p:Int) (n:Nat) (us:zdQ) (z:CX):Prop:=
 (TV.v (cI.enc p)=TV.v (cI.enc z.1)/\cg 2/\cg c/\tvE (.slc 1 0 nn)/\tvE (cI.enc (nn:Int))/\True)/\(True/\(([SV.mp m, .slc 0 0 ni, .slc q 0 n]= [SV.mp m, .slc 0 0 ni, .slc q 0 z.2.length]/\True)/\
   (af (Nat.beq 20 20&&decide (z.2.length<=n)) (∀e,e<z.2.length->us e=eU.get z.2 e)/\True)))
def LJ (I:CX->Prop) (N:Int) (q:Nat) (ni nn:Nat) (i:Int) (us:ze2) (u:Un):Prop:=af (inR .i64 (i+1)) (∃z:CX,I z/\((N - z.1).toNat<(N - i).toNat/\P4 44 64 q ni nn (i+1) (us.length+1) (ald (eU.get us) (λe=>((ci u).drop (e*20)).take 20) us.length 0) z))
def zj (I:CX->Prop) (N:Int) (q:Nat) (ni nn:Nat) (i:Int) (us:ze2) (r:Un×Int) (bad:Prop):Prop:=tO us.length (ag (!(r.2==0)) bad (LJ I N q ni nn i us r.1))
def pL (us:ze2) (x:Nd) (K:Un->Un->Prop):Prop:=eO us.length x.l (eO us.length x.r (af (aH (mb noU us (0+x.l.toNat))&&aH (mb noU us (0+x.r.toNat))) (K (mb noU us (0+x.l.toNat)) (mb noU us (0+x.r.toNat)))))
def P5 (x:Nd):Bool:= !(x.op==1)&&(!(x.op==2)&&(!(x.op==3)&&(!(x.op==4)&&(!(x.op==5)&&(!(x.op==6)&&(!(x.op==7)&&(!(x.op==8)&&true)))))))
def OA (I:CX->Prop) (N:Int) (inp:ze2) (nn:Nat) (i:Int) (us:ze2) (x:Nd) (bad:Prop):Prop:=
 ag (x.op==1) (tN us.length false ⟨0,VI,noU,x.n,x.l,x.r⟩ x bad (af (uzR x.v) (af (dC (!!rV x.v) (aH x.u)) (ag (bif !rV x.v then true else !VK x.u) (tO us.length bad) (tO us.length (LJ I N 220 inp.length nn i us x.u)))))) (
 ag (x.op==2) (tN us.length false ⟨0,x.v,x.u,0,x.l,x.r⟩ x bad (ag (bif decide (x.n<0) then true else decide (x.n≥(inp.length:Int))) (tO us.length bad) (eO inp.length x.n (tO us.length (LJ I N 237 inp.length nn i us (mb noU inp (0+x.n.toNat))))))) (
 ag (x.op==3) (tN us.length true ⟨0,x.v,x.u,x.n,0,0⟩ x bad (pL us x λa b=>zj I N 249 inp.length nn i us (iS a b) bad)) (
 ag (x.op==4) (tN us.length true ⟨0,x.v,x.u,x.n,0,0⟩ x bad (pL us x λa b=>zj I N 249 inp.length nn i us (fw a b) bad)) (
 ag (x.op==5) (tN us.length true ⟨0,x.v,x.u,x.n,0,0⟩ x bad (pL us x λa b=>zj I N 249 inp.length nn i us (mi a b) bad)) (
 ag (x.op==6) (tN us.length true ⟨0,x.v,x.u,x.n,0,0⟩ x bad (pL us x λa b=>zj I N 249 inp.length nn i us (fd a b) bad)) (
 ag (x.op==7) (tN us.length true ⟨0,x.v,x.u,0,0,x.r⟩ x bad (ag (bif bif x.n==0 then true else decide (x.n< -4) then true else decide (x.n>4)) (tO us.length bad) (eO us.length x.l (af (aH (mb noU us (0+x.l.toNat))) (zj I N 257 inp.length nn i us (jm (mb noU us (0+x.l.toNat)) (x.n,1)) bad))))) (
 ag (x.op==8) (tN us.length true ⟨0,x.v,x.u,x.n,0,x.r⟩ x bad (eO us.length x.l (af (aH (mb noU us (0+x.l.toNat))) (zj I N 228 inp.length nn i us (jm (mb noU us (0+x.l.toNat)) (1,2)) bad)))) (af (P5 x) bad))))))))
def OB (I:CX->Prop) (N:Int) (id:Int) (inp:ze2) (nod:ze3) (out:Un) (K:zdU) (KU:List Un->Prop):Prop:=
 ag (bif bif decide (id<1) then true else decide (id>1000000) then true else decide ((inp.length:Int)>6)) (K (zi (-1)))
 (af (Nat.ble inp.length inp.length&&Nat.beq 20 20&&true&&(Nat.ble inp.length 1000000&&eU.good szB inp.length (eU.get inp))) (Unit->True->
 ag (bif bif !(eU.list inp.length (eU.get inp)).all VK then true else decide ((nod.length:Int)<1) then true else decide ((nod.length:Int)>40)) (K (zi (-1)))
 (∃z0:CX,I z0/\(((TV.v (cI.enc 0)=TV.v (cI.enc z0.1)/\cg 2/\cg 64/\tvE (.slc 1 0 nod.length)/\tvE (cI.enc (nod.length:Int))/\True)/\(True/\(([SV.mp 44, .slc 0 0 inp.length, .val (.slice none 0 0)]= [SV.mp 44, .slc 0 0 inp.length, .val (.slice none z0.2.length 0)]/\True)/\(z0.2.length=0/\True))))/\
   ∀z:CX,I z->ag (decide (z.1<(nod.length:Int)))
    (eO nod.length z.1 (OA I N inp nod.length z.1 z.2 (mb noN nod (0+z.1.toNat)) (K (zi z.1))))
    (af (inR .i64 ((z.2.length:Int) - 1)) (eO z.2.length ((z.2.length:Int) - 1) (ag (!eqU (mb noU z.2 (0+((z.2.length:Int) - 1).toNat)) out) (K (zi nod.length)) (KU z.2))))))))
def slK (KS:Nat->Nat->Blk->List SV->Prop) (Q:zdU):Aft:=λr bl _ _=>match r with
 | .ok (.tup (.slc i 0 n::rest))=>match bl i with
   |some B=>KS i n B rest
   |none=>False
 | .ok s=>Q s
 | .pan _=>False
theorem OC (I:CX->Prop) (N:Int) (id:Int) (inp:ze2) (nod:ze3) (out:Un) (J:Nat->Nat->Blk->List SV->Prop) (Q:zdU):
 dk gmC (tM I N) 6 12 [svP id inp nod out] [eU.old inp,eN.old nod] (slK J Q)=OB I N id inp nod out Q (λus=>J 71 us.length {n:=us.length,sz:=20,get:=eU.get us,kd:= .own,nn:=false} [.val (.int .i64 0), .val (.int .i64 0)]):=by kernel_rfl
def fL (inp us:ze2) (x:Nd):Un×Int:=
 bif x.op==1 then(bif rV x.v&&VK x.u then(x.u,0) else(noU,90)) else
 bif x.op==2 then(bif decide (0<=x.n)&&decide (x.n<(inp.length:Int)) then(mb noU inp x.n.toNat,0) else(noU,90)) else
 bif x.op==3 then iS (mb noU us x.l.toNat) (mb noU us x.r.toNat) else
 bif x.op==4 then fw (mb noU us x.l.toNat) (mb noU us x.r.toNat) else
 bif x.op==5 then mi (mb noU us x.l.toNat) (mb noU us x.r.toNat) else
 bif x.op==6 then fd (mb noU us x.l.toNat) (mb noU us x.r.toNat) else
 bif x.op==7 then(bif x.n==0||decide (x.n< -4)||decide (x.n>4) then(noU,90) else jm (mb noU us x.l.toNat) (x.n,1)) else
 bif x.op==8 then jm (mb noU us x.l.toNat) (1,2) else(noU,90)
def earF (n:Nat) (i:Int):Bool:=decide (0<=i)&&decide (i<(n:Int))
def VT (n:Nat) (x:Nd):Bool:=
 bif x.op==1 then eqN ⟨0,VI,noU,x.n,x.l,x.r⟩ noN else
 bif x.op==2 then eqN ⟨0,x.v,x.u,0,x.l,x.r⟩ noN else
 bif decide (3<=x.op)&&decide (x.op<=6) then eqN ⟨0,x.v,x.u,x.n,0,0⟩ noN&&earF n x.l&&earF n x.r else
 bif x.op==7 then eqN ⟨0,x.v,x.u,0,0,x.r⟩ noN&&earF n x.l else
 bif x.op==8 then eqN ⟨0,x.v,x.u,x.n,0,x.r⟩ noN&&earF n x.l else false
def mn (inp us:ze2) (x:Nd):Option Un:=bif VT us.length x&&(fL inp us x).2==0 then some (fL inp us x).1 else none
def iB (inp:ze2):List Nd->List Un->List Un×Bool
 | [],us=>(us,true)
 |x::r,us=>match mn inp us x with
  |some u=>iB inp r (us++ [u])
  |none=>(us,false)
def ly (us:ze2):Un:=mb noU us (us.length - 1)
def oB (p:Pr):Bool:=decide (1<=p.id)&&decide (p.id<=1000000)&&decide (p.inp.length<=6)&&p.inp.all VK&&decide (1<=p.nod.length)&&decide (p.nod.length<=40)
def VJ (p:Pr):List Un×Int×Int:=bif oB p then(match iB p.inp p.nod [] with
 |(us,true)=>bif eqU (ly us) p.out then(us,0,0) else([],p.nod.length,90)
 |(us,false)=>([],us.length,90)) else([], -1,90)
def VM (p:Pr):Bool:=(VJ p).2.2==0
def aci (p:Pr):Bool:=p.inp.all szB&&p.nod.all szN&&szB p.out
theorem int_eq {a b:Int}:(a==b)=true↔a=b:=zdB
variable {n:Nat} {i:Int}
theorem V6:pK n i=true↔0<=i/\(i<n\/(n=0/\i=0)):=by
 unfold pK;by_cases h:i≥0
 ·rw[zds h,zdu,zdw];split<;>omega
 ·rw[zdv h,zdt];simp;omega
theorem V2:earF n i=true↔0<=i/\i<n:=by simp[earF]
variable {x:Nd}
theorem fM (h:eqN x noN=true):x.n=0/\x.l=0/\x.r=0:=by
 simp only[eqN,za2,zdB] at h;exact⟨h.2.2.2.1,h.2.2.2.2.1,h.2.2.2.2.2.1⟩
variable {K:Prop}
theorem fV (h:n<=1000000) (k:K):tO n K:=ac (by
 rw[zds (zbS),zds (show 0+1<=1 by omega),zds (za0 n),zds (show (n+1)*192<=140737488355328 by omega)];rfl) k
theorem aY (h0:0<=i) (h1:i<n) (k:K):eO n i K:=ac (by
 rw[zds h0,zds h1,zds (show 0+i.toNat<n by omega)];rfl) (ac (zds (by omega)) k)
variable {bad:Prop}
theorem oC {needs:Bool} {rest:Nd} (hb:(eqN rest noN=true/\pK n x.l=true/\pK n x.r=true/\(needs=true->0<n))->K) (J: ¬(eqN rest noN=true/\pK n x.l=true/\pK n x.r=true/\(needs=true->0<n))->bad):tN n needs rest x bad K:=by
 unfold tN;refine ah (λh1=>ah (λh2=>ah (λh3=> ?_) (λh3=> ?_)) (λh2=> ?_)) (λh1=> ?_)
 ·refine J λ⟨_,_,a3,a4⟩=> ?_;rw[a3] at h3;cases needs with
  |false=>simp at h3
  |true=>have:=a4 rfl;simp at h3;omega
 ·refine hb ⟨h1,h2, ?_,λV=> ?_⟩
  ·cases h4:pK n x.r with
   |true=>rfl
   |false=>rw[h4] at h3;simp at h3
  ·subst V;cases h4:pK n x.r with
   |true=>rw[h4] at h3;simp at h3;omega
   |false=>rw[h4] at h3;simp at h3
 ·exact J λ⟨_,Z,_⟩=>by rw[Z] at h2;cases h2
 ·exact J λ⟨Y,_⟩=>by rw[Y] at h1;cases h1
theorem eH {l:ze2} (h: ∀u∈l,szB u=true) (e:Nat):aH (mb noU l e)=true:=by
 by_cases J:e<l.length
 ·exact h _ (bw J)
 ·have: ∀(l:ze2) (e:Nat),l.length<=e->mb noU l e=noU:=by
   intro l
   induction l with
   |nil=>intro e _;rfl
   |cons x r V=>intro e J;cases e with
    |zero=>simp at J
    |succ e=>exact V e (by simpa using J)
  rw[this l e (by omega)];decide
variable {α:Type}
theorem atR {d:α} {l:List α} (h0:0<=i) (h:i<l.length):l.drop i.toNat=mb d l i.toNat::l.drop (i+1).toNat:=by
 rw[show (i+1).toNat=i.toNat+1 by omega,zaH (show i.toNat<l.length by omega),bR (zaa _)]
theorem atS {p:α->Bool} {l:List α} {v:α} (h: ∀x∈l,p x=true) (J:p v=true): ∀x∈l++ [v],p x=true:=λx V=>(za8.1 V).elim (h x) λe=>by rw[zaj.1 e];exact J
theorem aS {α:Type} {d:α}: ∀{l:List α} {u:α} {e:Nat},mb d (l++ [u]) e=if e=l.length then u else mb d l e
 | [],u,e=>by cases e<;>simp[mb]
 |x::r,u,e=>by
  cases e with
  |zero=>simp[mb]
  |succ e=>
   have:=aS (d:=d) (l:=r) (u:=u) (e:=e);simp only[zaO,mb,za4];rw[this];split<;>split<;>first|rfl|omega
variable {ni nn:Nat} {p:Int} {us:ze2} {u:Un}
theorem CQ {m c q:Nat} :P4 m c q ni nn p (us.length+1) (ald (eU.get us) (λe=>((ci u).drop (e*20)).take 20) us.length 0) (p,us++ [u]):=by
 have J:(us++ [u]).length=us.length+1:=by simp
 refine⟨⟨rfl,rfl,rfl,rfl,rfl,trivial⟩,trivial,⟨by rw[J],trivial⟩, ?_,trivial⟩;refine ac (by rw[zds (by rw[J];exact za0 _)];rfl) λe V=> ?_;rw[J] at V;unfold ald El.get El.nth;rw[aB];show _=ci (mb noU (us++ [u]) e);rw[aS];by_cases h:e<us.length
 ·rw[zds h,zdu,if_neg (by omega)];rfl
 ·obtain rfl:e=us.length:=by omega
  rw[zdv h,zdt,if_pos rfl,zaJ];rfl
def chkI (inp:ze2) (nod:ze3) (z:CX):Prop:=0<=z.1/\z.1<=nod.length/\z.2.length=z.1.toNat/\(∀u∈z.2,szB u=true)/\iB inp nod []=iB inp (nod.drop z.1.toNat) z.2
theorem XO:szB noU=true:=by decide
variable {N:Int} {inp:ze2}
theorem LK {I:CX->Prop} (hx:szN x=true) (hi: ∀u∈inp,szB u=true) (hu: ∀u∈us,szB u=true) (hl:us.length<=1000000)
 (hn:mn inp us x=none->bad) (hs: ∀u q,mn inp us x=some u->LJ I N q inp.length nn i us u):OA I N inp nn i us x bad:=by
 unfold szN at hx;rw[za2] at hx;have T: ∀{f:Bool} {r:Un×Int},VT us.length x=f->fL inp us x=r->mn inp us x=bif f&&r.2==0 then some r.1 else none:=λ{f r} h1 h2=>by unfold mn;rw[h1,h2]
 have U: ∀{r:Un×Int} {q:Nat},VT us.length x=true->fL inp us x=r->zj I N q inp.length nn i us r bad:=λ{r q} h1 h2=>by
  have:=T h1 h2;refine fV hl (ah (λh=>hn ?_) (λh=>hs _ _ ?_))
  ·rw[this];cases hr:r.2==0<;>rw[hr] at h<;>first|rfl|cases h
  ·rw[this];cases hr:r.2==0<;>rw[hr] at h<;>first|rfl|cases h
 have W: ∀{K:Un->Un->Prop},pK us.length x.l=true->pK us.length x.r=true->0<us.length->K (mb noU us x.l.toNat) (mb noU us x.r.toNat)->pL us x K:=λ{K} h1 h2 h3 k=>by
  have a:=V6.1 h1;have b:=V6.1 h2;unfold pL;rw[za7,za7];exact aY a.1 (by omega) (aY b.1 (by omega) (ac (by rw[eH hu,eH hu];rfl) k))
 have E2:0<us.length-> ∀j:Int,(pK us.length j=earF us.length j):=λh j=>by
  rw[zax,V6,V2];omega
 have Z: ∀(f:Un->Un->Un×Int),x.op≠1->x.op≠2->(3<=x.op/\x.op<=6)->fL inp us x=f (mb noU us x.l.toNat) (mb noU us x.r.toNat)->tN us.length true ⟨0,x.v,x.u,x.n,0,0⟩ x bad (pL us x λa b=>zj I N 249 inp.length nn i us (f a b) bad):=by
  intro f n1 n2 n3 hf;have J:VT us.length x=(eqN ⟨0,x.v,x.u,x.n,0,0⟩ noN&&earF us.length x.l&&earF us.length x.r):=by
   unfold VT;rw[show (x.op==1)=false from zdz n1,show (x.op==2)=false from zdz n2,zds n3.1,zds n3.2];rfl
  refine oC (λ⟨a1,a2,a3,a4⟩=> ?_) (λh=>hn ?_)
  ·have h0:=a4 rfl;refine W a2 a3 h0 (U ?_ hf);rw[J,a1,<-E2 h0,<-E2 h0,a2,a3];rfl
  ·unfold mn;cases V:VT us.length x with
   |false=>rfl
   |true=>
    exfalso;rw[J] at V;simp only[za2] at V;have hp:0<us.length:=by have:=V2.1 V.1.2;omega
    exact h ⟨V.1.1,by rw[E2 hp];exact V.1.2,by rw[E2 hp];exact V.2,λ_=>hp⟩
 unfold OA;refine ah (λo1=> ?_) (λo1=>ah (λo2=> ?_) (λo2=>ah (λo3=> ?_) (λo3=>ah (λo4=> ?_) (λo4=>ah (λo5=> ?_) (λo5=>ah (λo6=> ?_) (λo6=>ah (λo7=> ?_) (λo7=>ah (λo8=> ?_) (λo8=> ?_))))))))
 ·
  have J:VT us.length x=eqN ⟨0,VI,noU,x.n,x.l,x.r⟩ noN:=by unfold VT;rw[o1];rfl
  have Y:fL inp us x=bif rV x.v&&VK x.u then(x.u,0) else(noU,90):=by unfold fL;rw[o1];rfl
  refine oC (λ⟨a1,a2,a3,a4⟩=> ?_) (λh=>hn ?_)
  ·have t:=T J Y;rw[a1] at t;refine ac hx.1 (ac (by rw[show aH x.u=true from hx.2];cases rV x.v<;>rfl) (ah (λh=>fV hl (hn ?_)) (λh=>fV hl (hs _ _ ?_))))
   ·rw[t];cases h1:rV x.v<;>cases h2:VK x.u<;>rw[h1,h2] at h<;>first|rfl|cases h
   ·rw[t];cases h1:rV x.v<;>cases h2:VK x.u<;>rw[h1,h2] at h<;>first|rfl|cases h
  ·unfold mn;cases V:VT us.length x with
   |false=>rfl
   |true=>
    exfalso;rw[J] at V;have f:=fM V;simp only at f;exact h ⟨V,V6.2 (by omega),V6.2 (by omega),λh=>by cases h⟩
 ·
  have J:VT us.length x=eqN ⟨0,x.v,x.u,0,x.l,x.r⟩ noN:=by unfold VT;rw[o1,o2];rfl
  have Y:fL inp us x=bif decide (0<=x.n)&&decide (x.n<(inp.length:Int)) then(mb noU inp x.n.toNat,0) else(noU,90):=by unfold fL;rw[o1,o2];rfl
  refine oC (λ⟨a1,a2,a3,a4⟩=> ?_) (λh=>hn ?_)
  ·have t:=T J Y;rw[a1] at t;refine ah (λh=>fV hl (hn ?_)) (λh=> ?_)
   ·rw[t];by_cases h1:x.n<0
    ·rw[zdv (show ¬0<=x.n by omega)];rfl
    ·rw[zdv h1,zdt,zdw] at h;rw[zdv (show ¬x.n<(inp.length:Int) by omega),Bool.and_false];rfl
   ·by_cases h1:x.n<0
    ·rw[zds h1] at h;cases h
    ·rw[zdv h1,zdt,zdC] at h;rw[za7];refine aY (by omega) (by omega) (fV hl (hs _ _ ?_));rw[t,zds (show 0<=x.n by omega),zds (show x.n<(inp.length:Int) by omega)];rfl
  ·unfold mn;cases V:VT us.length x with
   |false=>rfl
   |true=>
    exfalso;rw[J] at V;have f:=fM V;simp only at f;exact h ⟨V,V6.2 (by omega),V6.2 (by omega),λh=>by cases h⟩
 ·exact Z iS (by have:=int_eq.1 o3;omega) (by have:=int_eq.1 o3;omega) (by have:=int_eq.1 o3;omega) (by unfold fL;rw[o1,o2,o3];rfl)
 ·exact Z fw (by have:=int_eq.1 o4;omega) (by have:=int_eq.1 o4;omega) (by have:=int_eq.1 o4;omega) (by unfold fL;rw[o1,o2,o3,o4];rfl)
 ·exact Z mi (by have:=int_eq.1 o5;omega) (by have:=int_eq.1 o5;omega) (by have:=int_eq.1 o5;omega) (by unfold fL;rw[o1,o2,o3,o4,o5];rfl)
 ·exact Z fd (by have:=int_eq.1 o6;omega) (by have:=int_eq.1 o6;omega) (by have:=int_eq.1 o6;omega) (by unfold fL;rw[o1,o2,o3,o4,o5,o6];rfl)
 ·have J:VT us.length x=(eqN ⟨0,x.v,x.u,0,0,x.r⟩ noN&&earF us.length x.l):=by
   unfold VT;rw[o1,o2,o7,show (decide (3<=x.op)&&decide (x.op<=6))=false by rw[int_eq.1 o7];rfl];rfl
  have Y:fL inp us x=bif x.n==0||decide (x.n< -4)||decide (x.n>4) then(noU,90) else jm (mb noU us x.l.toNat) (x.n,1):=by unfold fL;rw[o1,o2,o3,o4,o5,o6,o7];rfl
  refine oC (λ⟨a1,a2,a3,a4⟩=> ?_) (λh=>hn ?_)
  ·have h0:=a4 rfl;have hf:VT us.length x=true:=by rw[J,a1,<-E2 h0,a2];rfl
   have t:=T hf Y;have e:(bif bif x.n==0 then true else decide (x.n< -4) then true else decide (x.n>4))=(x.n==0||decide (x.n< -4)||decide (x.n>4)):=by cases x.n==0<;>cases decide (x.n< -4)<;>rfl
   rw[e];refine ah (λh=>fV hl (hn ?_)) (λh=> ?_)
   ·rw[t,h];rfl
   ·rw[h,zdt] at Y;have a:=V6.1 a2;rw[za7];exact aY a.1 (by omega) (ac (eH hu _) (U hf Y))
  ·unfold mn;cases V:VT us.length x with
   |false=>rfl
   |true=>
    exfalso;rw[J] at V;simp only[za2] at V;have f:=fM V.1;simp only at f;have hp:0<us.length:=by have:=V2.1 V.2;omega
    exact h ⟨V.1,by rw[E2 hp];exact V.2,V6.2 (by omega),λ_=>hp⟩
 ·have J:VT us.length x=(eqN ⟨0,x.v,x.u,x.n,0,x.r⟩ noN&&earF us.length x.l):=by
   unfold VT;rw[o1,o2,o7,o8,show (decide (3<=x.op)&&decide (x.op<=6))=false by rw[int_eq.1 o8];rfl];rfl
  have Y:fL inp us x=jm (mb noU us x.l.toNat) (1,2):=by unfold fL;rw[o1,o2,o3,o4,o5,o6,o7,o8];rfl
  refine oC (λ⟨a1,a2,a3,a4⟩=> ?_) (λh=>hn ?_)
  ·have h0:=a4 rfl;have hf:VT us.length x=true:=by rw[J,a1,<-E2 h0,a2];rfl
   have a:=V6.1 a2;rw[za7];exact aY a.1 (by omega) (ac (eH hu _) (U hf Y))
  ·unfold mn;cases V:VT us.length x with
   |false=>rfl
   |true=>
    exfalso;rw[J] at V;simp only[za2] at V;have f:=fM V.1;simp only at f;have hp:0<us.length:=by have:=V2.1 V.2;omega
    exact h ⟨V.1,by rw[E2 hp];exact V.2,V6.2 (by omega),λ_=>hp⟩
 ·refine ac (by unfold P5;rw[o1,o2,o3,o4,o5,o6,o7,o8];rfl) (hn ?_);unfold mn;have:VT us.length x=false:=by
   unfold VT;rw[o1,o2,o7,o8];simp only[zdt];have e:(decide (3<=x.op)&&decide (x.op<=6))=false:=by
    simp only[zdA,ne_eq] at o1 o2 o3 o4 o5 o6 o7 o8;simp;omega
   rw[e];rfl
  rw[this];rfl
theorem zk {a b:Un} (J:aH a=true) (V:aH b=true):aH (iS a b).1=true:=by
 unfold iS;cases !jk a b||(a.s==0&&b.s==0) with
 |true=>exact XO
 |false=>cases b.s==0;exact J;exact V
theorem oD {a b:Un} (J:aH a=true):aH (fw a b).1=true:=by
 unfold fw;cases !jk a b with
 |true=>exact XO
 |false=>cases b.s !=0 with
  |true=>exact J
  |false=>cases eqU a b with
   |true=>
    have:=(eL J).1;show (uzR a.f&&uzR rZ)=true;rw[this];decide
   |false=>exact XO
theorem LL (J:szN x=true) (hi: ∀u∈inp,szB u=true) (V: ∀u∈us,szB u=true):szB (fL inp us x).1=true:=by
 unfold szN at J;rw[za2] at J;have n:=λe=>eH V e;unfold fL;cases x.op==1 with
 |true=>cases rV x.v&&VK x.u;exact XO;exact J.2
 |false=>cases x.op==2 with
  |true=>cases decide (0<=x.n)&&decide (x.n<(inp.length:Int));exact XO;exact eH hi _
  |false=>cases x.op==3 with
   |true=>exact zk (n _) (n _)
   |false=>cases x.op==4 with
    |true=>exact oD (n _)
    |false=>cases x.op==5 with
     |true=>exact CK _ _
     |false=>cases x.op==6 with
      |true=>exact oA _ _
      |false=>cases x.op==7 with
       |true=>cases x.n==0||decide (x.n< -4)||decide (x.n>4);exact re (n _) _;exact XO
       |false=>cases x.op==8;exact XO;exact re (n _) _
theorem CR (V:szN x=true) (hi: ∀u∈inp,szB u=true) (J: ∀u∈us,szB u=true) (h:mn inp us x=some u):szB u=true:=by
 unfold mn at h;cases hh:VT us.length x&&(fL inp us x).2==0 with
 |false=>rw[hh] at h;cases h
 |true=>
  rw[hh] at h;simp only[zdu,za1] at h;subst h;exact LL V hi J
theorem Wb {p:Pr}:oB p=true↔(1<=p.id/\p.id<=1000000/\p.inp.length<=6)/\p.inp.all VK=true/\1<=p.nod.length/\p.nod.length<=40:=by
 unfold oB;simp only[za2,zdw];exact⟨λ⟨⟨⟨⟨⟨a,b⟩,c⟩,d⟩,e⟩,f⟩=>⟨⟨a,b,c⟩,d,e,f⟩,λ⟨⟨a,b,c⟩,d,e,f⟩=>⟨⟨⟨⟨⟨a,b⟩,c⟩,d⟩,e⟩,f⟩⟩
theorem ES {p:Pr} {K:zdU} {KU:List Un->Prop} (hsz:aci p=true) (h6:p.inp.length<=1000000)
 (Z:(VJ p).2.2≠0->K (zi (VJ p).2.1)) (hg:(VJ p).2.2=0->KU (VJ p).1):OB (chkI p.inp p.nod) p.nod.length p.id p.inp p.nod p.out K KU:=by
 unfold aci at hsz;simp only[za2,zaf] at hsz;obtain⟨⟨si,sn⟩,so⟩:=hsz;have gl:eU.list p.inp.length (eU.get p.inp)=p.inp:=El.list_get;have V:oB p=false->K (zi (-1)):=λh=>by
  have:VJ p=([], -1,90):=by unfold VJ;rw[h];rfl
  rw[this] at Z;exact Z (by decide)
 have nb: ∀{P:Prop},¬P->(oB p=true->P)->oB p=false:=λ{P} h k=>by
  cases hh:oB p with
  |false=>rfl
  |true=>exact absurd (k hh) h
 unfold OB;refine ah (λh=>V (nb (P:=1<=p.id/\p.id<=1000000/\p.inp.length<=6) (λ⟨a,b,c⟩=> ?_) λhh=>(Wb.1 hh).1)) (λh1=>ac (by rw[El.good_get si];simp[h6]) λ_ _=>ah (λh=>V (nb (P:=p.inp.all VK=true/\1<=p.nod.length/\p.nod.length<=40) (λ⟨a,b,c⟩=> ?_) λhh=>(Wb.1 hh).2)) (λh2=> ?_))
 ·rw[zdv (show ¬p.id<1 by omega),zdv (show ¬p.id>1000000 by omega),zdv (show ¬((p.inp.length:Int)>6) by omega)] at h;cases h
 ·rw[gl,a,zdv (show ¬(p.nod.length:Int)<1 by omega),zdv (show ¬((p.nod.length:Int)>40) by omega)] at h;cases h
 ·have Y:oB p=true:=by
   refine Wb.2 ⟨?_, ?_⟩
   ·by_cases q1:p.id<1
    ·rw[zds q1] at h1;cases h1
    ·by_cases q2:p.id>1000000
     ·rw[zdv q1,zds q2] at h1;cases h1
     ·rw[zdv q1,zdv q2] at h1;have:=zdy h1;omega
   ·rw[gl] at h2;cases q1:p.inp.all VK with
    |false=>rw[q1] at h2;cases h2
    |true=>
     rw[q1] at h2;by_cases q2:(p.nod.length:Int)<1
     ·rw[zds q2] at h2;cases h2
     ·rw[zdv q2] at h2;have:=zdy h2;exact⟨rfl,by omega,by omega⟩
  obtain⟨⟨b1,b2,b3⟩,b4,b5,b6⟩:=Wb.1 Y;have hc:VJ p=match iB p.inp p.nod [] with
   |(us,true)=>bif eqU (ly us) p.out then(us,0,0) else([],p.nod.length,90)
   |(us,false)=>([],us.length,90):=by unfold VJ;rw[Y];rfl
  refine⟨(0, []),⟨zat _,by show (0:Int)<=_;omega,rfl,λu h=>(by cases h),rfl⟩,⟨⟨rfl,rfl,rfl,rfl,rfl,trivial⟩,trivial,⟨rfl,trivial⟩,rfl,trivial⟩, ?_⟩;rintro⟨i,us⟩ ⟨k0,k1,k2,k3,J⟩;simp only at k0 k1 k2 k3 J;dsimp only;refine ah (λhz=> ?_) (λhz=> ?_)
  ·have hz:i<(p.nod.length:Int):=zdx hz;rw[za7];have hd:=atR (d:=noN) k0 hz;have hx:=sn _ (bw (d:=noN) (l:=p.nod) (e:=i.toNat) (by omega));rw[hd,iB] at J;refine aY k0 hz (LK hx si k3 (by omega) (λhn=> ?_) (λu q hu=> ?_))
   ·rw[hn] at J;replace J:iB p.inp p.nod []=(us,false):=J;rw[J] at hc;replace hc:VJ p=([],(us.length:Int),90):=hc;rw[hc] at Z;have:=Z (show (90:Int)≠0 by decide);rwa[show ((us.length:Nat):Int)=i by omega] at this
   ·rw[hu] at J;replace J:iB p.inp p.nod []=iB p.inp (p.nod.drop (i+1).toNat) (us++ [u]):=J;refine ac (VP.2 (by omega)) ⟨(i+1,us++ [u]),⟨by show 0<=i+1;omega,by show i+1<=_;omega,by simp only[za3,za6];omega, ?_,J⟩,by show (_:Nat)<_;omega,CQ⟩;exact atS k3 (CR hx si k3 hu)
  ·have hz: ¬i<(p.nod.length:Int):=zdy hz;rw[show i.toNat=p.nod.length by omega,zbj,iB] at J;rw[J] at hc;refine ac (VP.2 (by omega)) (aY (by omega) (by omega) ?_);have e:(0+((us.length:Int) - 1).toNat)=us.length - 1:=by omega
   show ag (!eqU (mb noU us (0+((us.length:Int) - 1).toNat)) p.out) _ _;rw[e];refine ah (λh=> ?_) (λh=> ?_)
   ·have h:eqU (ly us) p.out=false:=by simpa [ly] using h
    rw[hc] at Z;simp only[h,zdt] at Z;exact Z (show (90:Int)≠0 by decide)
   ·have h:eqU (ly us) p.out=true:=by simpa [ly] using h
    rw[hc] at hg;simp only[h,zdu] at hg;exact hg trivial
structure ProA where
 need:Bool
 o1:Option Nat
 o2:Option Nat
 p:Pr
def bW (n:Nat):Bool:=Nat.ble n 1000000
def mC (bl:zdP) (s:SV):Option ProA:=match s with
 | .agg (.val (.int .i64 id)::si::sn::r)=>match vW bl 20 si,vW bl 26 sn,Au (.agg r) with
   |some (b1,o1,n1,g1),some (b2,o2,n2,g2),some u=>some ⟨b1&&b2&&bW n1&&bW n2&&eU.good szB n1 g1&&eN.good szN n2 g2&&szB u,o1,o2,⟨id,eU.list n1 g1,eN.list n2 g2,u⟩⟩
   |_,_,_=>none
 |_=>none
def iK (p:Pr):zdX:= [eU.old p.inp,eN.old p.nod]
def kB (p:Pr):SV:=svP p.id p.inp p.nod p.out
variable {cs:zdN}
theorem pM (h:Au (.agg cs)=some u):cs=ci u:=by
 have:=cU.ok _ _ h;simpa [cU] using this
variable {f:ze1} {xs ys:zdN}
theorem ar {x y:SV} (h:x.rn f=some y) (k:SV.rns f xs=some ys):SV.rns f (x::xs)=some (y::ys):=by simp only[SV.rns,h,k]
theorem Xs (k:SV.rns f xs=some ys):(SV.agg xs).rn f=some (.agg ys):=by simp only[SV.rn,k]
theorem xh (k:SV.rns f xs=some ys):(SV.tup xs).rn f=some (.tup ys):=by simp only[SV.rn,k]
theorem eX {bl:zdP} {s:SV} {a:ProA} (h:mC bl s=some a) (hn:a.need=true) (h0:f 0=some a.o1) (h1:f 1=some a.o2):
 j5 bl f (eU.old a.p.inp) a.o1/\j5 bl f (eN.old a.p.nod) a.o2/\(kB a.p).rn f=some s/\aci a.p=true/\a.p.inp.length<=1000000/\a.p.nod.length<=1000000:=by
 unfold mC at h;split at h
 ·rename_i id si sn r;split at h
  ·rename_i Y o1 n1 g1 Z o2 n2 g2 u J V hu;simp only[za1] at h;subst h;simp only[za2] at hn;obtain⟨⟨⟨⟨⟨⟨rfl,rfl⟩,l1⟩,l2⟩,k1⟩,k2⟩,k3⟩:=hn;obtain⟨a1,a2⟩:=cq (f:=f) J k1;obtain⟨Y,Z⟩:=cq (f:=f) V k2;refine⟨a1,Y, ?_, ?_, ?_, ?_⟩
   ·have e:=rns_free (f:=f) (fj u);have d:=pM hu;subst d;exact Xs (ar (show SV.rn f (.val (.int .i64 id))=_ from rfl) (ar (a2 0 h0) (ar (Z 1 h1) e)))
   ·unfold aci;simp only[za2,zaf];exact⟨⟨El.good_list k1,El.good_list k2⟩,k3⟩
   ·rw[El.list_length];exact zak l1
   ·rw[El.list_length];exact zak l2
  ·cases h
 ·cases h
def xi:MCtr:=λbl nx args=>match args with
 | [s]=>match mC bl s with
   |some a=>some {X:=Unit,pre:=a.need,spec:=λ_=>True,out:=λ_=> .tup [.slc nx 0 (VJ a.p).1.length, .val (.int .i64 (VJ a.p).2.1), .val (.int .i64 (VJ a.p).2.2)],nw:=λ_=> [eU.own (VJ a.p).1],ex:=λ_=>⟨(),trivial⟩}
   |none=>none
 |_=>none
theorem ke (p:Pr):((VJ p).2.2=90/\(VJ p).1= [])\/((VJ p).2.2=0/\(VJ p).2.1=0/\(VJ p).1.length=p.nod.length/\1<=p.nod.length):=by
 have Y: ∀(l:ze3) (us vs:ze2),iB p.inp l us=(vs,true)->vs.length=us.length+l.length:=by
  intro l
  induction l with
  |nil=>intro us vs h;simp only[iB,zag,and_true] at h;subst h;simp
  |cons x r ih=>
   intro us vs h;simp only[iB] at h;split at h
   ·have:=ih _ _ h;simp only[za3,za6] at this;simp only[za4];omega
   ·simp at h
 unfold VJ;cases V:oB p with
 |false=>exact .inl ⟨rfl,rfl⟩
 |true=>
  rw[zdu];cases Z:iB p.inp p.nod [] with
  |mk us b=>
   cases b with
   |false=>exact .inl ⟨rfl,rfl⟩
   |true=>
    cases J:eqU (ly us) p.out with
    |false=>exact .inl ⟨by simp only[J,zdt],by simp only[J,zdt]⟩
    |true=>
     have:=Y _ _ _ Z;simp only[J,zdu];exact .inr ⟨trivial,trivial,by simpa using this,(Wb.1 V).2.2.1⟩
theorem cx (p:Pr): ∀C∈iK p,cN C.kd=false:=by simp[iK,cN,El.old]
theorem jG (p:Pr): ∀C∈iK p,C.kd.map=false:=by simp[iK,BK.map,El.old]
theorem OD:MOk gmC:=(MOk.nil.cons λ_ _ _ _ _ _ _ _ _ _ _ _ h=>by cases h).cons (IH MOk.nil)
variable {Q:zdU}
theorem vL {KS:Nat->Nat->Blk->List SV->Prop} {r:Res} {b:zdP} {m:Nat} {w:zdL} (h:slK KS Q r b m w):(∃i n J B,r= .ok (.tup (.slc i 0 n::J))/\b i=some B/\KS i n B J)\/ ∃s,r= .ok s/\Q s:=by
 unfold slK at h;split at h
 ·rename_i i n J;split at h
  ·rename_i B hB;exact .inl ⟨i,n,J,B,rfl,hB,h⟩
  ·exact h.elim
 ·exact .inr ⟨_,rfl,h⟩
 ·exact h.elim
variable {nx:Nat}
theorem atW {R:Aft->Prop} (mono: ∀{K K':Aft},R K->(∀r b n w,K r b n w->K' r b n w)->R K') {a:ProA} {q:Nat} (hq:2<=q)
 (key: ∀(Z:Nat->Nat->Blk->List SV->Prop) (Q:zdU),((VJ a.p).2.2≠0->Q (zi (VJ a.p).2.1))->((VJ a.p).2.2=0->Z q (VJ a.p).1.length {n:=(VJ a.p).1.length,sz:=20,get:=eU.get (VJ a.p).1,kd:= .own,nn:=false} [.val (.int .i64 0), .val (.int .i64 0)])->R (slK Z Q)):
 R (KB {X:=Unit,pre:=a.need,spec:=λ_=>True,out:=λ_=> .tup [.slc nx 0 (VJ a.p).1.length, .val (.int .i64 (VJ a.p).2.1), .val (.int .i64 (VJ a.p).2.2)],nw:=λ_=> [eU.own (VJ a.p).1],ex:=λ_=>⟨(),trivial⟩} [a.o1,a.o2] (iK a.p) nx):=by
 refine mono (key (λi n B J=>(VJ a.p).2.2=0/\i=q/\n=(VJ a.p).1.length/\B={n:=(VJ a.p).1.length,sz:=20,get:=eU.get (VJ a.p).1,kd:= .own,nn:=false}/\J= [.val (.int .i64 0), .val (.int .i64 0)]) (λr=>(VJ a.p).2.2≠0/\r=zi (VJ a.p).2.1) (λh=>⟨h,rfl⟩) (λh=>⟨h,rfl,rfl,rfl,rfl⟩)) λr b m w h=> ?_;rcases vL h with ⟨i,n,J,B,rfl,hB,Y,rfl,rfl,rfl,rfl⟩|⟨s,rfl,Y,rfl⟩
 ·obtain⟨V,_⟩|⟨_,c2,c3,c4⟩:=ke a.p
  ·rw[V] at Y;cases Y
  ·refine⟨(),trivial, [some i],⟨_,rfl, ?_⟩,by simp[ck],⟨⟨hq, ?_⟩,trivial⟩,we (cx _) rfl _⟩
   ·simp only[SV.rn,SV.rns,cO,c2,Y];rfl
   ·rw[hB];exact⟨by simp[El.own],λ_=> .inl rfl,gC rfl rfl (za0 _) λ_ _=>rfl⟩
 ·obtain⟨V,c2⟩|⟨V,_⟩:=ke a.p
  ·refine⟨(),trivial, [none],⟨_,rfl, ?_⟩,by simp[ck],⟨⟨rfl,by simp[El.own,c2],rfl⟩,trivial⟩,we (cx _) rfl _⟩;simp only[SV.rn,SV.rns,cO,V,c2];rfl
  ·exact absurd V Y
theorem vM: ∀B:Base,GlobB B->VU prog B 12 xi:=eW OD λbl nx args C J hp=>by
 unfold xi at J;split at J
 ·rename_i s;split at J
  ·rename_i a V;simp only[za1] at J;subst J;obtain⟨s1,Y,Z,s4,s5,s6⟩:=eX (f:=rnF [a.o1,a.o2] [] nx) V hp rfl rfl;refine⟨[a.o1,a.o2],iK a.p, [kB a.p],tM (chkI a.p.inp a.p.nod) a.p.nod.length,6,aw s1 (aw Y trivial),bH (cx _),cd (jG _),by simp only[SV.rns,Z],atW (q:=71) cQ (by decide) λKS Q h1 h2=> ?_⟩;unfold kB iK;rw[OC];exact ES s4 s5 h1 h2
  ·cases J
 ·cases J
def pN:MCtr:=λbl nx args=>match args with
 | [s]=>match mC bl s with
   |some a=>some {X:=Unit,pre:=a.need,spec:=λ_=>True,out:=λ_=>cB.enc (VM a.p),ex:=λ_=>⟨(),trivial⟩}
   |none=>none
 |_=>none
def gmV:ze0:= [(12,xi)]
theorem OE:MOk gmV:=MOk.nil.cons vM
def jn (p:Pr):Bool:=(Nat.ble p.inp.length p.inp.length&&Nat.beq 20 20&&true)&&(Nat.ble p.nod.length p.nod.length&&Nat.beq 26 26&&true)&&bW p.inp.length&&bW p.nod.length&&eU.good szB p.inp.length (eU.get p.inp)&&eN.good szN p.nod.length (eN.get p.nod)&&szB p.out
def dm (p:Pr):Pr:=⟨p.id,eU.list p.inp.length (eU.get p.inp),eN.list p.nod.length (eN.get p.nod),p.out⟩
theorem fN (p:Pr):dm p=p:=by
 unfold dm;rw[show eU.list p.inp.length (eU.get p.inp)=p.inp from El.list_get,show eN.list p.nod.length (eN.get p.nod)=p.nod from El.list_get]
theorem eY {p:Pr} (h:aci p=true) (h1:p.inp.length<=1000000) (h2:p.nod.length<=1000000):jn p=true:=by
 unfold aci at h;simp only[za2,zaf] at h;unfold jn bW;rw[zae h1,zae h2,zae (za0 _),zae (za0 _),El.good_get h.1.1,El.good_get h.1.2,h.2];rfl
theorem ET (p:Pr) (Q:zdU):dk gmV (λ_ _=>none) 3 19 [kB p] (iK p) (Go.Sy.okK λr _ _ _=>Q r)=af (jn p) (Unit->True->Q (cB.enc ((VJ (dm p)).2.2==0))):=by kernel_rfl
variable {C:RC} {src:zdW} {Cs:zdX} {gm:ze0} {ann:zdY} {args:zdN} {r:SV}
theorem lz {f:FuncId} (x:C.X) (V:C.spec x) (h1:C.pan x=none) (h2:r.ids= []) (h3:C.out x=r) (h4:C.nw x= []) (h5:C.ch x= []) (h6: ∀C∈Cs,cN C.kd=false) (J:src.length=Cs.length)
 (h:dk gm ann n f args Cs (Go.Sy.okK λs _ _ _=>s=r)):dk gm ann n f args Cs (KB C src Cs nx):=cQ h λq b m w hq=>by
 cases q with
 |pan v=>exact hq.elim
 |ok s=>
  obtain rfl:s=r:=hq;exact IG x V h1 h2 h3 h4 h5 h6 J
theorem lZ: ∀B:Base,GlobB B->VU prog B 19 pN:=eW OE λbl nx args C J hp=>by
 unfold pN at J;split at J
 ·rename_i s;split at J
  ·rename_i a V;simp only[za1] at J;subst J;obtain⟨s1,Y,Z,s4,s5,s6⟩:=eX (f:=rnF [a.o1,a.o2] [] nx) V hp rfl rfl;refine⟨[a.o1,a.o2],iK a.p, [kB a.p],(λ_ _=>none),3,aw s1 (aw Y trivial),bH (cx _),cd (jG _),by simp only[SV.rns,Z], ?_⟩;refine lz () trivial rfl (r:=cB.enc (VM a.p)) rfl rfl rfl rfl (cx _) rfl ?_;rw[ET];exact ac (eY s4 s5 s6) λ_ _=>by rw[fN];rfl
  ·cases J
 ·cases J
def CS (I:Int->Prop) (N:Int):zdY:=λf k=>bif Nat.beq f 116&&Nat.beq k 2 then some (λA=>{X:=Int,inv:=I,tm:=λi=> [(8, .val (.int .i64 i))],mu:=λi=>(N - i).toNat,keep:= [0,1,7]}) else none
theorem LM (I:Int->Prop) (N:Int) (l:List RS) (Q:zdU):dk [] (CS I N) 5 50 [.slc 0 0 l.length, .fn (.func 48) [] []] [eR.old l] (Go.Sy.okK λr _ _ _=>Q r)=
 LH I N (.slc 0 0 l.length) (.fn (.func 48) [] []) l.length (λz Q=>af (uzR (eR.nth l (0+z.toNat))) (Q (!rV (eR.nth l (0+z.toNat))))) (λz=>Q (cB.enc (decide (z≥0)))):=by kernel_rfl
def II:MCtr:=λbl _ args=>match args with
 | [s, .fn (.func g) [] []]=>bif Nat.beq g 48 then(match vW bl 2 s with
   |some (b,_,n,c)=>some {X:=Unit,pre:=b&&(Nat.ble n 1000000&&eR.good uzR n c),spec:=λ_=>True,out:=λ_=>cB.enc (!(eR.list n c).all rV),ex:=λ_=>⟨(),trivial⟩}
   |none=>none) else none
 |_=>none
theorem IJ (hm:MOk gm): ∀B:Base,GlobB B->VU prog B 50 II:=eW MOk.nil λbl nx args C V hp=>by
 unfold II at V;split at V
 ·rename_i s g;cases hg:Nat.beq g 48 with
  |false=>rw[hg] at V;cases V
  |true=>
   obtain rfl:=zab hg;rw[hg,zdu] at V;split at V
   ·rename_i b o n c hs;simp only[za1] at V;subst V;simp only[za2] at hp;obtain⟨rfl,Z,J⟩:=hp;have Y:(eR.list n c).length<2^62:=by rw[El.list_length];have:=zak Z;omega
    obtain⟨h1,h2⟩:=cq (f:=rnF [o] [] nx) hs J;refine⟨[o], [eR.old (eR.list n c)], [.slc 0 0 (eR.list n c).length, .fn (.func 48) [] []],CS (λi=>0<=i/\i<=(eR.list n c).length/\be (λu=> !rV u) (eR.list n c) 0=be (λu=> !rV u) ((eR.list n c).drop i.toNat) i) (eR.list n c).length,5,aw h1 trivial,bH (by simp[cN,El.old]),cd (by simp[El.old,BK.map]), ?_, ?_⟩
    ·simp only[SV.rns,h2 0 rfl];rfl
    ·refine lz () trivial rfl (r:=cB.enc (!(eR.list n c).all rV)) rfl rfl rfl rfl (by simp[cN,El.old]) rfl ?_;rw[LM];refine pJ VI Y (λz Q h0 h1 h=> ?_) ?_
     ·rw[za7];have:=El.good_list J _ (bw (d:=VI) (l:=eR.list n c) (e:=z.toNat) (by omega));exact ac this h
     ·rw[pI _ _ _ (zat _),CP]
   ·cases V
 ·cases V
def gmE:ze0:= [(19,pN),(50,II)]
theorem OF:MOk gmE:=(MOk.nil.cons (IJ MOk.nil)).cons lZ
abbrev EX:=Int×List RS
abbrev PWX:=Int×RS
def OG (A:AS):RS:=match A.tm 7 with
 | .v (.slc i _ _)=>match A.bl i,Bh A (kA A 10) 24 with
   |some B, .val (.int _ l)=>NH (B.get (0+l.toNat))
   |_,_=>VI
 |_=>VI
def P7 (A:AS) (t:Nat):Int:=match A.tm t with
 | .v (.val (.int _ z))=>z
 |_=>0
def CT (I:EX->Prop) (N:Int) (J:RS->Int->PWX->Prop):zdY:=λf k=>bif Nat.beq f 58 then(bif Nat.beq k 4 then some (λA=>{X:=EX,inv:=I,tm:=λx=> [(19, .val (.int .i64 x.1)),(7, .slc A.nx 0 x.2.length)],gr:= [{src:= .slot 7,sz:=2,n:=λx=>x.2.length,get:=λx=>eR.get x.2}],cleanG:=λg hg x e=>by simp at hg;subst hg;exact eR.ids _,mu:=λx=>(N - x.1).toNat,keep:= [2,3,4,6,8,17,18]})
 else bif Nat.beq k 23 then some (λA=>{X:=PWX,inv:=J (OG A) (P7 A 119),tm:=λx=> [(120, .val (.int .i64 x.1))],st:= [(kA A 11,λx=>gA x.2)],mu:=λx=>(4 - x.1).toNat,keep:= [2,3,4,6,7,8,10,11,17,18,19,119]}) else none) else none
def LN:SV:= .tup [.agg (gA VI), .val (.int .i64 90)]
def LO (r:RS×Int) (bad:Prop) (K:RS->Prop):Prop:=ag (r.2 !=0) bad (K r.1)
def LP (n:Nat) (K:Prop):Prop:=af (decide (0<1)&&decide (0+1<=1)&&decide (n<=n)&&decide ((n+1)*32<=140737488355328)&&true) K
def evS (ni nn:Nat) (Q:Prop):Prop:=tvE (.slc 2 0 ni)/\cg 27/\cg 28/\cg 29/\cg 38/\tvE (.slc 1 0 nn)/\tvE (cI.enc (nn:Int))/\Q
def evM (q ni nn:Nat) (p:Int) (n:Nat) (us:zdQ) (z:EX):Prop:=
 (TV.v (cI.enc p)=TV.v (cI.enc z.1)/\TV.v (.slc q 0 n)=TV.v (.slc q 0 z.2.length)/\evS ni nn True)/\(True/\(True/\(af (Nat.beq 2 2&&decide (z.2.length<=n)) (∀e,e<z.2.length->us e=eR.get z.2 e)/\True)))
def evN (I:EX->Prop) (N:Int) (q ni nn:Nat) (i:Int) (vs:List RS) (v:RS):Prop:=LP vs.length (af (inR .i64 (i+1)) (∃z:EX,I z/\((N - z.1).toNat<(N - i).toNat/\evM q ni nn (i+1) (vs.length+1) (ald (eR.get vs) (λe=>((gA v).drop (e*2)).take 2) vs.length 0) z)))
def jH (n:Int):Int:=if -n>n then -n else n
def pwE (ni nn:Nat) (i:Int) (n:Nat) (m:Int) (p:Int) (v:RS) (z:PWX):Prop:=
 (TV.v (cI.enc p)=TV.v (cI.enc z.1)/\tvE (.slc 2 0 ni)/\cg 27/\cg 28/\cg 29/\tvE (.slc 44 0 n)/\cg 38/\cg 48/\cg 50/\tvE (.slc 1 0 nn)/\tvE (cI.enc (nn:Int))/\tvE (cI.enc i)/\tvE (cI.enc m)/\True)/\(True/\((gA v=gA z.2/\True)/\True))
def opP (vs:List RS) (x:Nd) (f:RS->RS->RS×Int) (bad:Prop) (K:RS->Prop):Prop:=
 eO vs.length x.l (eO vs.length x.r (af (uzR (mb VI vs (0+x.l.toNat))&&uzR (mb VI vs (0+x.r.toNat))) (LO (f (mb VI vs (0+x.l.toNat)) (mb VI vs (0+x.r.toNat))) bad K)))
def P8 (J:RS->Int->PWX->Prop) (ni nn:Nat) (i:Int) (vs:List RS) (x:Nd) (bad:Prop) (K1 K2:RS->Prop):Prop:=
 af (inR .i64 (-x.n)) (∃z0:PWX,J (mb VI vs (0+x.l.toNat)) (jH x.n) z0/\(pwE ni nn i vs.length (jH x.n) 0 rI z0/\ ∀z:PWX,J (mb VI vs (0+x.l.toNat)) (jH x.n) z->ag (decide (z.1<jH x.n))
  (eO vs.length x.l (af (uzR z.2&&uzR (mb VI vs (0+x.l.toNat))) (LO (ale z.2 (mb VI vs (0+x.l.toNat))) bad λv=>af (inR .i64 (z.1+1)) (∃z':PWX,J (mb VI vs (0+x.l.toNat)) (jH x.n) z'/\((4 - z'.1).toNat<(4 - z.1).toNat/\pwE ni nn i vs.length (jH x.n) (z.1+1) v z')))))
  (ag (decide (x.n<0)) (af (uzR rI&&uzR z.2) (LO (cA rI z.2) bad K1)) (K2 z.2))))
def evP (I:EX->Prop) (N:Int) (J:RS->Int->PWX->Prop) (ins:List RS) (nn:Nat) (i:Int) (vs:List RS) (x:Nd) (bad:Prop):Prop:=
 ag (x.op==1) (evN I N 84 ins.length nn i vs x.v) (
 ag (x.op==2) (eO ins.length x.n (evN I N 83 ins.length nn i vs (mb VI ins (0+x.n.toNat)))) (
 ag (x.op==3) (opP vs x fZ bad (evN I N 87 ins.length nn i vs)) (
 ag (x.op==4) (opP vs x iF bad (evN I N 89 ins.length nn i vs)) (
 ag (x.op==5) (opP vs x ale bad (evN I N 91 ins.length nn i vs)) (
 ag (x.op==6) (opP vs x cA bad (evN I N 93 ins.length nn i vs)) (
 ag (x.op==7) (P8 J ins.length nn i vs x bad (evN I N 115 ins.length nn i vs) (evN I N 100 ins.length nn i vs)) (
 ag (x.op==8) (eO vs.length x.l bad) (evN I N 89 ins.length nn i vs VI))))))))
def evT (I:EX->Prop) (N:Int) (J:RS->Int->PWX->Prop) (p:Pr) (ins:List RS) (Q:zdU):Prop:=
 af (jn p) (Unit->True->ag (bif !VM (dm p) then true else((ins.length:Int) !=(p.inp.length:Int))) (Q LN)
 (af (Nat.ble ins.length ins.length&&Nat.beq 2 2&&true&&(Nat.ble ins.length 1000000&&eR.good uzR ins.length (eR.get ins))) (Unit->True->ag (!(eR.list ins.length (eR.get ins)).all rV) (Q LN)
 (∃z0:EX,I z0/\(((TV.v (cI.enc 0)=TV.v (cI.enc z0.1)/\TV.v (.val (.slice none 0 0))=TV.v (.val (.slice none z0.2.length 0))/\evS ins.length p.nod.length True)/\(True/\(True/\(z0.2.length=0/\True))))/\
   ∀z:EX,I z->ag (decide (z.1<(p.nod.length:Int)))
    (eO p.nod.length z.1 (evP I N J ins p.nod.length z.1 z.2 (mb noN p.nod (0+z.1.toNat)) (Q LN)))
    (af (inR .i64 ((z.2.length:Int) - 1)) (eO z.2.length ((z.2.length:Int) - 1) (Q (.tup [.agg (gA (mb VI z.2 (0+((z.2.length:Int) - 1).toNat))), .val (.int .i64 0)])))))))))
theorem P9 (I:EX->Prop) (N:Int) (J:RS->Int->PWX->Prop) (p:Pr) (V:List RS) (Q:zdU):dk gmE (CT I N J) 6 14 [kB p, .slc 2 0 V.length] [eU.old p.inp,eN.old p.nod,eR.old V] (Go.Sy.okK λr _ _ _=>Q r)=evT I N J p V Q:=by kernel_rfl
def okR (r:RS×Int):Option RS:=bif r.2 !=0 then none else some r.1
def kC (b:RS):Nat->Option RS
 |0=>some rI
 |k+1=>match kC b k with
  |some v=>okR (ale v b)
  |none=>none
def valF (ins vs:List RS) (x:Nd):Option RS:=
 bif x.op==1 then some x.v else
 bif x.op==2 then some (mb VI ins x.n.toNat) else
 bif x.op==3 then okR (fZ (mb VI vs x.l.toNat) (mb VI vs x.r.toNat)) else
 bif x.op==4 then okR (iF (mb VI vs x.l.toNat) (mb VI vs x.r.toNat)) else
 bif x.op==5 then okR (ale (mb VI vs x.l.toNat) (mb VI vs x.r.toNat)) else
 bif x.op==6 then okR (cA (mb VI vs x.l.toNat) (mb VI vs x.r.toNat)) else
 bif x.op==7 then(match kC (mb VI vs x.l.toNat) (jH x.n).toNat with
  |some v=>bif decide (x.n<0) then okR (cA rI v) else some v
  |none=>none) else
 bif x.op==8 then none else some VI
def iC (ins:List RS):List Nd->List RS->Option (List RS)
 | [],vs=>some vs
 |x::r,vs=>match valF ins vs x with
  |some v=>iC ins r (vs++ [v])
  |none=>none
def CU (vs:List RS):RS:=mb VI vs (vs.length - 1)
def bn (p:Pr) (ins:List RS):RS×Int:=bif !VM p||ins.length !=p.inp.length|| !ins.all rV then(VI,90) else(match iC ins p.nod [] with
 |some vs=>(CU vs,0)
 |none=>(VI,90))
theorem xj {inp:ze2}: ∀{l:ze3} {us vs:ze2},iB inp l us=(vs,true)-> ∀j,j<l.length-> ∃J u,J.length=us.length+j/\mn inp J (mb noN l j)=some u
 | [],us,vs,_,j,V=>by simp at V
 |x::r,us,vs,h,j,V=>by
  simp only[iB] at h;split at h
  ·rename_i u Y;cases j with
   |zero=>exact⟨us,u,rfl,Y⟩
   |succ j=>
    obtain⟨J,v,h1,h2⟩:=xj h j (by simpa using V);exact⟨J,v,by rw[h1];simp;omega,h2⟩
  ·simp at h
theorem vN (h:mn inp us x=some u):VT us.length x=true/\(fL inp us x).2=0/\(fL inp us x).1=u:=by
 unfold mn at h;cases h1:VT us.length x&&(fL inp us x).2==0 with
 |false=>rw[h1] at h;cases h
 |true=>
  rw[h1] at h;simp only[zdu,za1] at h;simp only[za2,zdB] at h1;exact⟨h1.1,h1.2,h⟩
structure NodeOK (ni n:Nat) (x:Nd):Prop where
 form:VT n x=true
 op:1<=x.op/\x.op<=8
 inp:x.op=2->0<=x.n/\x.n<ni
 left:3<=x.op->0<=x.l/\x.l<n
 right:3<=x.op->x.op<=6->0<=x.r/\x.r<n
 pow:x.op=7->x.n≠0/\ -4<=x.n/\x.n<=4
theorem EU (h1:VT us.length x=true) (h2:(fL inp us x).2=0):NodeOK inp.length us.length x:=by
 have hop:1<=x.op/\x.op<=8:=by
  unfold VT at h1;by_cases o1:x.op=1
  ·omega
  by_cases o2:x.op=2
  ·omega
  by_cases o3:3<=x.op/\x.op<=6
  ·omega
  by_cases V:x.op=7
  ·omega
  by_cases Y:x.op=8
  ·omega
  exfalso;rw[zdz o1,zdz o2,zdz V,zdz Y] at h1;have:(decide (3<=x.op)&&decide (x.op<=6))=false:=by simp;omega
  rw[this] at h1;cases h1
 refine⟨h1,hop,λo=> ?_,λo=> ?_,λo o'=> ?_,λo=> ?_⟩
 ·unfold fL at h2;rw[o] at h2;cases J:decide (0<=x.n)&&decide (x.n<(inp.length:Int)) with
  |true=>simpa using J
  |false=>rw[J] at h2;exact absurd (show (90:Int)=0 from h2) (by decide)
 ·unfold VT at h1;rw[zdz (show x.op≠1 by omega),zdz (show x.op≠2 by omega)] at h1;by_cases o3:x.op<=6
  ·rw[zds o,zds o3] at h1;simp only[zdt,zc6,zdu,za2] at h1;exact V2.1 h1.1.2
  ·by_cases V:x.op=7
   ·rw[V] at h1;exact V2.1 (Bool.and_eq_true_iff.1 h1).2
   ·have Y:x.op=8:=by omega
    rw[Y] at h1;exact V2.1 (Bool.and_eq_true_iff.1 h1).2
 ·unfold VT at h1;rw[zdz (show x.op≠1 by omega),zdz (show x.op≠2 by omega),zds o,zds o'] at h1;simp only[zdt,zc6,zdu,za2] at h1;exact V2.1 h1.2
 ·unfold fL at h2;rw[o] at h2;cases J:x.n==0||decide (x.n< -4)||decide (x.n>4) with
  |true=>rw[J] at h2;exact absurd (show (90:Int)=0 from h2) (by decide)
  |false=>simp at J;omega
theorem bQ {p:Pr} (h:VM p=true):oB p=true/\ ∀j,j<p.nod.length->NodeOK p.inp.length j (mb noN p.nod j):=by
 unfold VM at h;have h:=beq_iff_eq.1 h;unfold VJ at h;cases J:oB p with
 |false=>rw[J] at h;exact absurd (show (90:Int)=0 from h) (by decide)
 |true=>
  rw[J,zdu] at h;refine⟨rfl,λj Y=> ?_⟩;cases V:iB p.inp p.nod [] with
  |mk us b=>
   rw[V] at h;cases b with
   |false=>exact absurd (show (90:Int)=0 from h) (by decide)
   |true=>
    obtain⟨Z,u,h1,h2⟩:=xj V j Y;obtain⟨f1,f2,_⟩:=vN h2;have:=EU f1 f2;rwa[h1,za9,za7] at this
theorem rg {l:List RS} (h: ∀u∈l,uzR u=true) (e:Nat):uzR (mb VI l e)=true:=by
 by_cases J:e<l.length
 ·exact h _ (bw J)
 ·have: ∀(l:List RS) (e:Nat),l.length<=e->mb VI l e=VI:=by
   intro l
   induction l with
   |nil=>intro e _;rfl
   |cons x r V=>intro e J;cases e with
    |zero=>simp at J
    |succ e=>exact V e (by simpa using J)
  rw[this l e (by omega)];decide
variable {v:RS}
theorem fq {r:RS×Int} (h:okR r=some v):r.2=0/\r.1=v:=by
 unfold okR at h;cases J:r.2 !=0 with
 |true=>rw[J] at h;cases h
 |false=>rw[J] at h;simp at h J;exact⟨J,h⟩
theorem CV {b:RS}: ∀{k:Nat} {v:RS},kC b k=some v->uzR v=true
 |0,v,h=>by simp[kC] at h;subst h;decide
 |k+1,v,h=>by
  simp only[kC] at h;split at h
  ·rw[<-(fq h).2];exact gI _ _
  ·cases h
theorem xk {r:RS×Int} {K:RS->Prop} (h0:okR r=none->bad) (h1: ∀v,okR r=some v->K v):LO r bad K:=ah (λh=>h0 (by unfold okR;rw[h];rfl)) (λh=>h1 _ (by unfold okR;rw[h];rfl))
theorem LQ (h:n<=1000000) (k:K):LP n K:=ac (by
 rw[zds (zbS),zds (show 0+1<=1 by omega),zds (za0 n),zds (show (n+1)*32<=140737488355328 by omega)];rfl) k
theorem OH {q:Nat} {us:List RS} {u:RS}:evM q ni nn p (us.length+1) (ald (eR.get us) (λe=>((gA u).drop (e*2)).take 2) us.length 0) (p,us++ [u]):=by
 have J:(us++ [u]).length=us.length+1:=by simp
 refine⟨⟨rfl,by rw[J],rfl,rfl,rfl,rfl,rfl,rfl,rfl,trivial⟩,trivial,trivial, ?_,trivial⟩;refine ac (by rw[zds (by rw[J];exact za0 _)];rfl) λe V=> ?_;rw[J] at V;unfold ald El.get El.nth;rw[aB];show _=gA (mb VI (us++ [u]) e);rw[aS];by_cases h:e<us.length
 ·rw[zds h,zdu,if_neg (by omega)];rfl
 ·obtain rfl:e=us.length:=by omega
  rw[zdv h,zdt,if_pos rfl,zaJ];rfl
def OI (b:RS) (m:Int) (z:PWX):Prop:=0<=z.1/\z.1<=m/\m<=4/\kC b z.1.toNat=some z.2
variable {m:Int}
theorem YZ:pwE ni nn i n m p v (p,v):=⟨⟨rfl,rfl,rfl,rfl,rfl,rfl,rfl,rfl,rfl,rfl,rfl,rfl,rfl,trivial⟩,trivial,⟨rfl,trivial⟩,trivial⟩
variable {ins vs:List RS}
theorem OJ {I:EX->Prop} (hx:NodeOK ni vs.length x) (hni:ins.length=ni) (hv: ∀u∈vs,uzR u=true) (hb:valF ins vs x=none->bad) (hs: ∀v q,valF ins vs x=some v->evN I N q ins.length nn i vs v):evP I N OI ins nn i vs x bad:=by
 obtain⟨o1,o2⟩:=hx.op;have two: ∀{f:RS->RS->RS×Int} {q:Nat},3<=x.op->x.op<=6->valF ins vs x=okR (f (mb VI vs x.l.toNat) (mb VI vs x.r.toNat))->opP vs x f bad (evN I N q ins.length nn i vs):=λ{f q} a b e=>by
  have hl:=hx.left a;have hr:=hx.right a b;unfold opP;rw[za7,za7];exact aY hl.1 hl.2 (aY hr.1 hr.2 (ac (by rw[rg hv,rg hv];rfl) (xk (λh=>hb (e.trans h)) (λv h=>hs v q (e.trans h)))))
 unfold evP;refine ah (λe1=> ?_) (λe1=>ah (λV=> ?_) (λV=>ah (λY=> ?_) (λY=>ah (λe4=> ?_) (λe4=>ah (λZ=> ?_) (λZ=>ah (λe6=> ?_) (λe6=>ah (λe7=> ?_) (λe7=>ah (λe8=> ?_) (λe8=> ?_))))))))
 ·exact hs _ _ (by unfold valF;rw[e1];rfl)
 ·have h:=hx.inp (int_eq.1 V);rw[za7];exact aY h.1 (by omega) (hs _ _ (by unfold valF;rw[e1,V];rfl))
 ·exact two (by rw[int_eq.1 Y];decide) (by rw[int_eq.1 Y];decide) (by unfold valF;rw[e1,V,Y];rfl)
 ·exact two (by rw[int_eq.1 e4];decide) (by rw[int_eq.1 e4];decide) (by unfold valF;rw[e1,V,Y,e4];rfl)
 ·exact two (by rw[int_eq.1 Z];decide) (by rw[int_eq.1 Z];decide) (by unfold valF;rw[e1,V,Y,e4,Z];rfl)
 ·exact two (by rw[int_eq.1 e6];decide) (by rw[int_eq.1 e6];decide) (by unfold valF;rw[e1,V,Y,e4,Z,e6];rfl)
 ·have hp:=hx.pow (int_eq.1 e7);have hl:=hx.left (by rw[int_eq.1 e7];decide)
  have e:valF ins vs x=(match kC (mb VI vs x.l.toNat) (jH x.n).toNat with
   |some v=>bif decide (x.n<0) then okR (cA rI v) else some v
   |none=>none):=by unfold valF;rw[e1,V,Y,e4,Z,e6,e7];rfl
  have hm:0<=jH x.n/\jH x.n<=4:=by unfold jH;split<;>omega
  unfold P8;rw[za7];refine ac (VP.2 (by omega)) ⟨(0,rI),⟨zat _,hm.1,hm.2,rfl⟩,YZ, ?_⟩;rintro⟨k,v⟩ ⟨k0,k1,_,k2⟩;dsimp only at k0 k1 k2 ⊢;have hvz:=CV k2;refine ah (λhk=> ?_) (λhk=> ?_)
  ·have hk:=zdx hk;refine aY hl.1 hl.2 (ac (by rw[hvz,rg hv];rfl) (xk (λh=>hb ?_) (λw h=> ?_)))
   ·have: ∀m,kC (mb VI vs x.l.toNat) (k.toNat+1+m)=none:=by
     intro m
     induction m with
     |zero=>simp only[zaY,kC,k2,h]
     |succ m ih=>rw[<-zbr,kC,ih]
    have:=this ((jH x.n).toNat - (k.toNat+1));rw[show k.toNat+1+((jH x.n).toNat - (k.toNat+1))=(jH x.n).toNat by omega] at this;rw[e,this]
   ·refine ac (VP.2 (by omega)) ⟨(k+1,w),⟨by show 0<=k+1;omega,by show k+1<=_;omega,hm.2, ?_⟩,by show (_:Nat)<_;omega,YZ⟩;show kC _ (k+1).toNat=some w;rw[show (k+1).toNat=k.toNat+1 by omega,kC,k2];exact h
  ·have hk:=zdy hk;rw[show k.toNat=(jH x.n).toNat by omega] at k2;rw[k2] at e;refine ah (λJ=> ?_) (λJ=> ?_)
   ·rw[J] at e;exact ac (by rw[hvz];decide) (xk (λh=>hb (e.trans h)) (λw h=>hs w _ (e.trans h)))
   ·rw[J] at e;exact hs _ _ e
 ·have hl:=hx.left (by rw[int_eq.1 e8];decide);exact aY hl.1 hl.2 (hb (by unfold valF;rw[e1,V,Y,e4,Z,e6,e7,e8];rfl))
 ·exact hs _ _ (by unfold valF;rw[e1,V,Y,e4,Z,e6,e7,e8];rfl)
theorem LR (J:szN x=true) (hi: ∀u∈ins,uzR u=true) (Z: ∀u∈vs,uzR u=true) (h:valF ins vs x=some v):uzR v=true:=by
 unfold szN at J;rw[za2] at J;unfold valF at h;have ok: ∀{r:RS×Int},uzR r.1=true->okR r=some v->uzR v=true:=λh1 h2=>by rw[<-(fq h2).2];exact h1
 cases h1:x.op==1 with
 |true=>rw[h1] at h;simp at h;subst h;exact J.1
 |false=>
  rw[h1,zdt] at h;cases h2:x.op==2 with
  |true=>rw[h2] at h;simp at h;subst h;exact rg hi _
  |false=>
   rw[h2,zdt] at h;cases h3:x.op==3 with
   |true=>rw[h3,zdu] at h;exact ok (Lq _ _) h
   |false=>
    rw[h3,zdt] at h;cases h4:x.op==4 with
    |true=>rw[h4,zdu] at h;exact ok (Lr _ _) h
    |false=>
     rw[h4,zdt] at h;cases h5:x.op==5 with
     |true=>rw[h5,zdu] at h;exact ok (gI _ _) h
     |false=>
      rw[h5,zdt] at h;cases h6:x.op==6 with
      |true=>rw[h6,zdu] at h;exact ok (lY _ _) h
      |false=>
       rw[h6,zdt] at h;cases h7:x.op==7 with
       |true=>
        rw[h7,zdu] at h;split at h
        ·rename_i w Y;cases V:decide (x.n<0) with
         |true=>rw[V,zdu] at h;exact ok (lY _ _) h
         |false=>rw[V,zdt] at h;simp at h;subst h;exact CV Y
        ·cases h
       |false=>
        rw[h7,zdt] at h;cases h8:x.op==8 with
        |true=>rw[h8] at h;cases h
        |false=>rw[h8] at h;simp at h;subst h;decide
def evI (ins:List RS) (nod:ze3) (z:EX):Prop:=0<=z.1/\z.1<=nod.length/\z.2.length=z.1.toNat/\(∀u∈z.2,uzR u=true)/\iC ins nod []=iC ins (nod.drop z.1.toNat) z.2
theorem IK {p:Pr} (hsz:aci p=true) (h6:p.inp.length<=1000000) (h7:p.nod.length<=1000000) (hi: ∀u∈ins,uzR u=true) (h8:ins.length<=1000000)
 (hQ:Q (.tup [.agg (gA (bn p ins).1), .val (.int .i64 (bn p ins).2)])):evT (evI ins p.nod) p.nod.length OI p ins Q:=by
 have V:=hsz;unfold aci at V;simp only[za2,zaf] at V;obtain⟨⟨si,sn⟩,so⟩:=V;have gl:eR.list ins.length (eR.get ins)=ins:=El.list_get;have Y:bn p ins=(VI,90)->Q LN:=λh=>by rw[h] at hQ;exact hQ
 unfold evT;refine ac (eY hsz h6 h7) λ_ _=> ?_;rw[fN];refine ah (λh=>Y ?_) (λh=>ac (by rw[El.good_get hi];simp[h8]) λ_ _=>ah (λk=>Y ?_) (λk=> ?_))
 ·unfold bn;cases hv:VM p with
  |false=>rfl
  |true=>
   rw[hv] at h;have:(ins.length !=p.inp.length)=true:=by simp at h ⊢;omega
   rw[this];rfl
 ·rw[gl] at k;unfold bn;rw[k,Bool.or_true];rfl
 ·rw[gl] at k;cases hv:VM p with
  |false=>rw[hv] at h;cases h
  |true=>
  rw[hv] at h;have hl:ins.length=p.inp.length:=by simp at h;omega
  obtain⟨hbeg,hnod⟩:=bQ hv;have hc:bn p ins=match iC ins p.nod [] with
   |some vs=>(CU vs,0)
   |none=>(VI,90):=by unfold bn;rw[hv,k,hl];simp
  have hb:=Wb.1 hbeg;refine⟨(0, []),⟨zat _,by show (0:Int)<=_;omega,rfl,λu h=>(by cases h),rfl⟩,⟨⟨rfl,rfl,rfl,rfl,rfl,rfl,rfl,rfl,rfl,trivial⟩,trivial,trivial,rfl,trivial⟩, ?_⟩;rintro⟨i,vs⟩ ⟨k0,k1,k2,k3,J⟩;simp only at k0 k1 k2 k3 J;dsimp only;refine ah (λZ=> ?_) (λZ=> ?_)
  ·have Z:i<(p.nod.length:Int):=zdx Z;rw[za7];have hd:=atR (d:=noN) k0 Z;have hx:=hnod i.toNat (by omega);have hxs:=sn _ (bw (d:=noN) (l:=p.nod) (e:=i.toNat) (by omega));rw[<-k2] at hx;rw[hd,iC] at J;rw[k2] at hx;refine aY k0 Z (OJ (by rw[<-k2] at hx;rwa[k2] at hx ⊢) hl k3 (λhn=>Y ?_) (λv q hu=> ?_))
   ·rw[hn] at J;replace J:iC ins p.nod []=none:=J;rw[hc,J]
   ·rw[hu] at J;replace J:iC ins p.nod []=iC ins (p.nod.drop (i+1).toNat) (vs++ [v]):=J;refine LQ (by omega) (ac (VP.2 (by omega)) ⟨(i+1,vs++ [v]),⟨by show 0<=i+1;omega,by show i+1<=_;omega,by simp only[za3,za6];omega, ?_,J⟩,by show (_:Nat)<_;omega,OH⟩);exact atS k3 (LR hxs hi k3 hu)
  ·have Z: ¬i<(p.nod.length:Int):=zdy Z;rw[show i.toNat=p.nod.length by omega,zbj,iC] at J;rw[J] at hc;replace hc:bn p ins=(CU vs,0):=hc;rw[hc] at hQ;refine ac (VP.2 (by omega)) (aY (by omega) (by omega) ?_);rw[show (0+((vs.length:Int) - 1).toNat)=vs.length - 1 by omega];exact hQ
def zm:MCtr:=λbl nx args=>match args with
 | [s,t]=>match mC bl s,vW bl 2 t with
   |some a,some (b,o,n,c)=>some {X:=Unit,pre:=a.need&&b&&bW n&&eR.good uzR n c,spec:=λ_=>True,out:=λ_=> .tup [.agg (gA (bn a.p (eR.list n c)).1), .val (.int .i64 (bn a.p (eR.list n c)).2)],ex:=λ_=>⟨(),trivial⟩}
   |_,_=>none
 |_=>none
theorem tP: ∀B:Base,GlobB B->VU prog B 14 zm:=eW OF λbl nx args C V hp=>by
 unfold zm at V;split at V
 ·rename_i s t;split at V
  ·rename_i a b o n c Y hs;simp only[za1] at V;subst V;simp only[za2] at hp;obtain⟨⟨⟨hp,rfl⟩,Z⟩,J⟩:=hp;obtain⟨s1,s2,s3,s4,s5,s6⟩:=eX (f:=rnF [a.o1,a.o2,o] [] nx) Y hp rfl rfl;obtain⟨t1,t2⟩:=cq (f:=rnF [a.o1,a.o2,o] [] nx) hs J;refine⟨[a.o1,a.o2,o], [eU.old a.p.inp,eN.old a.p.nod,eR.old (eR.list n c)], [kB a.p, .slc 2 0 (eR.list n c).length],CT (evI (eR.list n c) a.p.nod) a.p.nod.length OI,6,aw s1 (aw s2 (aw t1 trivial)),bH (by simp[cN,El.old]),cd (by simp[El.old,BK.map]),ar s3 (ar (t2 2 rfl) rfl), ?_⟩;refine lz () trivial rfl (r:= .tup [.agg (gA (bn a.p (eR.list n c)).1), .val (.int .i64 (bn a.p (eR.list n c)).2)]) rfl rfl rfl rfl (by simp[cN,El.old]) rfl ?_;rw[P9];exact IK s4 s5 s6 (El.good_list J) (by rw[El.list_length];exact zak Z) rfl
  ·cases V
 ·cases V
theorem aqy {x y:Int}:VQ x y<=0↔x<=y:=by
 unfold VQ;split
 ·omega
 ·split<;>omega
theorem apy (p:Nat):0<ten p:=by unfold ten;exact Int.natCast_pos.2 (Nat.pow_pos (by decide))
theorem apQ {n d c:Int} (V:0<d) (J:0<c):Rat.divInt n d<=Rat.divInt m c↔n*c<=m*d:=by
 rw[<-J1,pX V J,aqy]
theorem apV {a:RS} (h:(acv a p).2=0):rV (acv a p).1=true/\qV (acv a p).1<=qV a:=by
 unfold acv at h ⊢;split at h
 ·rename_i J;rw[if_pos J];simp only[za2] at J;obtain⟨g,_⟩:=lE h;obtain⟨_,_,V,_⟩:=ay J.1.1;refine⟨g.valid, ?_⟩;rw[g.val];unfold qV;rw[apQ (apy _) V];exact Int.ediv_mul_le _ (by omega)
 ·simp at h
theorem aqz {a:RS} (h:(rUp a p).2=0):rV (rUp a p).1=true/\qV a<=qV (rUp a p).1:=by
 unfold rUp at h ⊢;split at h
 ·rename_i J;rw[if_pos J];simp only[za2] at J;obtain⟨g,_⟩:=lE h;obtain⟨_,_,V,_⟩:=ay J.1.1;refine⟨g.valid, ?_⟩;rw[g.val];unfold qV;rw[apQ V (apy _)];have e:=Int.emod_add_mul_ediv (nS a.1*ten p.toNat) (nS a.2);have r:=zcP (nS a.1*ten p.toNat) V;have Y:=zcm (nS a.1*ten p.toNat) (b:=nS a.2) (by omega);generalize nS a.1*ten p.toNat=N at e r Y ⊢;generalize hq:N / nS a.2=Q at e ⊢;generalize Z:N%nS a.2=M at e r Y ⊢;split
  ·rename_i h0;rw[h0,Int.zero_add] at e;rw[<-e,Int.mul_comm];exact zat _
  ·rw[Int.add_mul,Int.one_mul,<-e,Int.mul_comm Q];omega
 ·simp at h
variable {c:Iv} {q:Rat}
theorem aqA {a:Iv} (e:aeA a p=(c,0)) (J:InI a q):InI c q:=by
 obtain⟨_,e⟩:=dL e;obtain⟨e1,V,rfl⟩:=alr e;obtain⟨Y,k1⟩:=apV e1;obtain⟨Z,k2⟩:=aqz V;exact⟨Y,Z,Rat.le_trans k1 J.lo,Rat.le_trans J.hi k2⟩
def okI (r:Iv×Int):Option Iv:=bif r.2 !=0 then none else some r.1
def th (b:Iv):Nat->Option Iv
 |0=>some (ptI rI)
 |k+1=>match th b k with
  |some v=>okI (adC v b)
  |none=>none
def ack (sq:Iv->Iv×Int) (ins vs:List Iv) (x:Nd):Option Iv:=
 bif x.op==1 then some (ptI x.v) else
 bif x.op==2 then some (mb noI ins x.n.toNat) else
 bif x.op==3 then okI (agy (mb noI vs x.l.toNat) (mb noI vs x.r.toNat)) else
 bif x.op==4 then okI (agz (mb noI vs x.l.toNat) (mb noI vs x.r.toNat)) else
 bif x.op==5 then okI (adC (mb noI vs x.l.toNat) (mb noI vs x.r.toNat)) else
 bif x.op==6 then okI (ac7 (mb noI vs x.l.toNat) (mb noI vs x.r.toNat)) else
 bif x.op==7 then(match th (mb noI vs x.l.toNat) (jH x.n).toNat with
  |some v=>bif decide (x.n<0) then okI (ac7 (ptI rI) v) else some v
  |none=>none) else
 bif x.op==8 then okI (sq (mb noI vs x.l.toNat)) else some noI
def ajn (p:Int):Option Iv->Option Iv
 |some v=>okI (aeA v p)
 |none=>none
def alE (sq:Iv->Iv×Int) (p:Int) (ins:List Iv):List Nd->List Iv->Option (List Iv)
 | [],vs=>some vs
 |x::r,vs=>match ajn p (ack sq ins vs x) with
  |some v=>alE sq p ins r (vs++ [v])
  |none=>none
def agP (vs:List Iv):Iv:=mb noI vs (vs.length - 1)
def ah5 (sq:Iv->Iv×Int) (p:Pr) (ins:List Iv) (pl:Int):Iv×Int:=bif !VM p||ins.length !=p.inp.length|| !ins.all vI then(noI,90) else(match alE sq pl ins p.nod [] with
 |some vs=>(agP vs,0)
 |none=>(noI,90))
theorem uu {r:Iv×Int} {v:Iv} (h:okI r=some v):r=(v,0):=by
 obtain⟨a,b⟩:=r;unfold okI at h;cases J:b !=0 with
 |true=>rw[J] at h;cases h
 |false=>rw[J] at h;simp at h J;rw[h,J]
def InL (l:List Iv) (vs:List RS):Prop:=l.length=vs.length/\ ∀j,j<l.length->rV (mb VI vs j)=true/\InI (mb noI l j) (qV (mb VI vs j))
theorem InL.snoc {l:List Iv} (h:InL l vs) {x:Iv} (V:rV v=true) (Y:InI x (qV v)):InL (l++ [x]) (vs++ [v]):=by
 refine⟨by simp[h.1],λj J=> ?_⟩;rw[aS,aS,<-h.1];split
 ·exact⟨V,Y⟩
 ·exact h.2 j (by simp at J;omega)
theorem zA {p:Pr} (h:VM p=true) {j:Nat} (Y:j<p.nod.length) (o:(mb noN p.nod j).op=1):rV (mb noN p.nod j).v=true:=by
 have h:=beq_iff_eq.1 h;unfold VJ at h;cases J:oB p with
 |false=>rw[J] at h;exact absurd (show (90:Int)=0 from h) (by decide)
 |true=>
  rw[J,zdu] at h;cases V:iB p.inp p.nod [] with
  |mk us b=>
   rw[V] at h;cases b with
   |false=>exact absurd (show (90:Int)=0 from h) (by decide)
   |true=>
    obtain⟨ws,u,h1,h2⟩:=xj V j Y;obtain⟨_,f2,_⟩:=vN h2;unfold fL at f2;rw[o] at f2;cases Z:rV (mb noN p.nod j).v with
    |true=>rfl
    |false=>rw[Z] at f2;exact absurd (show (90:Int)=0 from f2) (by decide)
structure SubI (b a:Iv):Prop where
 self:InI b (qV b.1)
 lo:InI a (qV b.1)
 hi:InI a (qV b.2)
variable {b:Iv}
theorem avr (h:InI b q):InI b (qV b.1):=⟨h.l,h.h,Rat.le_refl,Rat.le_trans h.lo h.hi⟩
theorem avs (h:InI b q):InI b (qV b.2):=⟨h.l,h.h,Rat.le_trans h.lo h.hi,Rat.le_refl⟩
theorem SubI.of {a:Iv} (h:InI b q) (h1:InI a (qV b.1)) (h2:InI a (qV b.2)):SubI b a:=⟨avr h,h1,h2⟩
theorem SubI.refl {a:Iv} (h:InI a q):SubI a a:=⟨avr h,avr h,avs h⟩
variable {a1 a2 b1 b2 d:Iv}
theorem au3 (e:agy a1 a2=(c,0)) (f:agy b1 b2=(d,0)) (h1:SubI b1 a1) (h2:SubI b2 a2):SubI d c:=by
 refine SubI.of (aqt f h1.self h2.self) ?_ ?_<;>obtain⟨_,f⟩:=dL f<;>obtain⟨f1,f2,rfl⟩:=alr f
 ·show InI c (qV (fZ b1.1 b2.1).1);rw[(anJ f1).2];exact aqt e h1.lo h2.lo
 ·show InI c (qV (fZ b1.2 b2.2).1);rw[(anJ f2).2];exact aqt e h1.hi h2.hi
theorem au4 (e:agz a1 a2=(c,0)) (f:agz b1 b2=(d,0)) (h1:SubI b1 a1) (h2:SubI b2 a2):SubI d c:=by
 refine SubI.of (aqu f h1.self h2.self) ?_ ?_<;>obtain⟨_,f⟩:=dL f<;>obtain⟨f1,f2,rfl⟩:=alr f
 ·show InI c (qV (iF b1.1 b2.2).1);rw[(anK f1).2];exact aqu e h1.lo h2.hi
 ·show InI c (qV (iF b1.2 b2.1).1);rw[(anK f2).2];exact aqu e h1.hi h2.lo
theorem aun: ∀{l:List RS} {m:RS},aey l m∈m::l
 | [],m=>by simp[aey]
 |x::r,m=>by
  rw[aey];cases decide (b9 x m<0) with
  |true=>rw[zdu];exact zan _ aun
  |false=>
   rw[zdt];rcases zai.1 (aun (l:=r) (m:=m)) with h|h
   ·rw[h];simp
   ·simp[h]
theorem auo: ∀{l:List RS} {m:RS},aez l m∈m::l
 | [],m=>by simp[aez]
 |x::r,m=>by
  rw[aez];cases decide (b9 x m>0) with
  |true=>rw[zdu];exact zan _ auo
  |false=>
   rw[zdt];rcases zai.1 (auo (l:=r) (m:=m)) with h|h
   ·rw[h];simp
   ·simp[h]
theorem auB {a b c d:RS×Int} {x z:Iv} (e:ae6 a b c d=(x,0)) (h1:a.2=0->InI z (qV a.1)) (h2:b.2=0->InI z (qV b.1)) (h3:c.2=0->InI z (qV c.1)) (h4:d.2=0->InI z (qV d.1)):InI z (qV x.1)/\InI z (qV x.2):=by
 obtain⟨e1,J,V,e4,rfl⟩:=ac1 e;have k: ∀y∈a.1:: [b.1,c.1,d.1],InI z (qV y):=by simp[h1 e1,h2 J,h3 V,h4 e4]
 exact⟨k _ aun,k _ auo⟩
theorem auC (e:adC a1 a2=(c,0)) (f:adC b1 b2=(d,0)) (h1:SubI b1 a1) (h2:SubI b2 a2):SubI d c:=by
 have g:=(dL f).2;have k: ∀{x y:RS},InI a1 (qV x)->InI a2 (qV y)->(ale x y).2=0->InI c (qV (ale x y).1):=λJ V h=>by rw[(am2 h).2];exact apO e J V
 obtain⟨g1,g2⟩:=auB g (k h1.lo h2.lo) (k h1.lo h2.hi) (k h1.hi h2.lo) (k h1.hi h2.hi);exact SubI.of (apO f h1.self h2.self) g1 g2
theorem auD (e:ac7 a1 a2=(c,0)) (f:ac7 b1 b2=(d,0)) (h1:SubI b1 a1) (h2:SubI b2 a2):SubI d c:=by
 have g:=(dL f).2;have k: ∀{x y:RS},InI a1 (qV x)->InI a2 (qV y)->(cA x y).2=0->InI c (qV (cA x y).1):=λJ V h=>by rw[(am9 h).2.2];exact(apP e J V).2
 obtain⟨g1,g2⟩:=auB g (k h1.lo h2.lo) (k h1.lo h2.hi) (k h1.hi h2.lo) (k h1.hi h2.hi);exact SubI.of (apP f h1.self h2.self).2 g1 g2
theorem aut {a:RS} (h:(acv a p).2=0):0<=p/\ ∃m,qV (acv a p).1=Rat.divInt m (ten p.toNat)/\ ∀k:Int,Rat.divInt k (ten p.toNat)<=qV a->Rat.divInt k (ten p.toNat)<=qV (acv a p).1:=by
 unfold acv at h ⊢;split at h
 ·rename_i J;rw[if_pos J];simp only[za2,zdw] at J;obtain⟨g,_⟩:=lE h;obtain⟨_,_,Y,_⟩:=ay J.1.1;refine⟨J.1.2.1,_,g.val,λk V=> ?_⟩;rw[g.val];unfold qV at V;rw[apQ (apy _) Y] at V;rw[apQ (apy _) (apy _)];exact Int.mul_le_mul_of_nonneg_right (Int.le_ediv_of_mul_le Y V) (Int.le_of_lt (apy _))
 ·simp at h
theorem auT {a:RS} (h:(rUp a p).2=0): ∃m,qV (rUp a p).1=Rat.divInt m (ten p.toNat)/\ ∀k:Int,qV a<=Rat.divInt k (ten p.toNat)->qV (rUp a p).1<=Rat.divInt k (ten p.toNat):=by
 unfold rUp at h ⊢;split at h
 ·rename_i V;rw[if_pos V];simp only[za2] at V;obtain⟨g,_⟩:=lE h;obtain⟨_,_,Y,_⟩:=ay V.1.1;refine⟨_,g.val,λk J=> ?_⟩;rw[g.val];unfold qV at J;rw[apQ Y (apy _)] at J;rw[apQ (apy _) (apy _)];refine Int.mul_le_mul_of_nonneg_right ?_ (Int.le_of_lt (apy _));have e:=Int.emod_add_mul_ediv (nS a.1*ten p.toNat) (nS a.2);have Z:=zcm (nS a.1*ten p.toNat) (b:=nS a.2) (by omega);generalize nS a.1*ten p.toNat=N at*
  generalize nS a.2=D at*
  generalize N / D=Q at*
  generalize N%D=M at*
  split
  ·rename_i h0;rw[h0,Int.zero_add] at e;rw[<-e,Int.mul_comm] at J;exact Int.le_of_mul_le_mul_right J Y
  ·have:D*Q<k*D:=by omega
   rw[Int.mul_comm] at this;exact Int.lt_of_mul_lt_mul_right this (Int.le_of_lt Y)
 ·simp at h
theorem auk {q:Int} (h0:0<=p) (h:p<=q): ∃D:Int,0<D/\ten q.toNat=ten p.toNat*D/\Rat.divInt m (ten p.toNat)=Rat.divInt (m*D) (ten q.toNat):=by
 have e:ten q.toNat=ten p.toNat*ten (q.toNat - p.toNat):=by
  unfold ten;rw[show q.toNat=p.toNat+(q.toNat - p.toNat) by omega,zbw];rw[show p.toNat+(q.toNat - p.toNat) - p.toNat=q.toNat - p.toNat by omega];exact zb9 _ _
 refine⟨ten (q.toNat - p.toNat),apy _,e, ?_⟩;rw[e,Rat.divInt_mul_right (Int.ne_of_gt (apy _))]
theorem au5 {a:Iv} {q:Int} (e:aeA a p=(c,0)) (f:aeA b q=(d,0)) (V:p<=q) (h:SubI b a):SubI d c:=by
 have i1:=aqA e h.lo;have i2:=aqA e h.hi;have j1:=aqA f h.self;have j2:=aqA f (avs h.self);have g:=(dL f).2;obtain⟨f1,f2,rfl⟩:=alr g;obtain⟨_,e⟩:=dL e;obtain⟨e1,Y,rfl⟩:=alr e;obtain⟨p0,m,Z,_⟩:=aut e1;obtain⟨n,hn,_⟩:=auT Y;obtain⟨_,_,_,hk⟩:=aut f1;obtain⟨_,_,hl⟩:=auT f2;have a1:qV (acv a.1 p).1<=qV (acv b.1 q).1:=by
  obtain⟨D,_,_,J⟩:=auk (m:=m) p0 V;rw[Z,J];refine hk _ ?_;rw[<-J,<-Z];exact Rat.le_trans (apV e1).2 h.lo.lo
 have a2:qV (rUp b.2 q).1<=qV (rUp a.2 p).1:=by
  obtain⟨D,_,_,J⟩:=auk (m:=n) p0 V;rw[hn,J];refine hl _ ?_;rw[<-J,<-hn];exact Rat.le_trans h.hi.hi (aqz Y).2
 have b1:=(apV f1).2;have b2:=(aqz f2).2;exact SubI.of j1 ⟨i1.l,i1.h,a1,Rat.le_trans b1 i1.hi⟩ ⟨i1.l,i1.h,Rat.le_trans i2.lo b2,a2⟩
theorem auu {a b:Iv} (h:SubI b a): ∀{k:Nat} {x y:Iv},th a k=some x->th b k=some y->SubI y x
 |0,x,y,h1,h2=>by
  simp only[th,za1] at h1 h2;subst h1;subst h2;exact SubI.refl (apH (by decide))
 |k+1,x,y,h1,h2=>by
  simp only[th] at h1 h2;cases e1:th a k with
  |none=>rw[e1] at h1;cases h1
  |some u=>
   cases J:th b k with
   |none=>rw[J] at h2;cases h2
   |some v=>
    rw[e1] at h1;rw[J] at h2;exact auC (uu h1) (uu h2) (auu h e1 J) h
def LY (n:Nat) (K:Prop):Prop:=af (decide (0<1)&&decide (0+1<=1)&&decide (n<=n)&&decide ((n+1)*256<=140737488355328)&&true) K
theorem xp (h:n<=1000000) (k:K):LY n K:=ac (by
 rw[zds (zbS),zds (show 0+1<=1 by omega),zds (za0 n),zds (show (n+1)*256<=140737488355328 by omega)];rfl) k
def gv (l:ze3) (v:Nd):zdQ:=ald (eN.get l) (λe=>((svN v).drop (e*26)).take 26) l.length 0
variable {e:Nat}
theorem pO {us:ze3} {u:Nd} (J:e<us.length+1):gv us u e=eN.get (us++ [u]) e:=by
 unfold gv ald El.get El.nth;rw[aB];show _=svN (mb noN (us++ [u]) e);rw[aS];by_cases h:e<us.length
 ·rw[zds h,zdu,if_neg (by omega)];rfl
 ·obtain rfl:e=us.length:=by omega
  rw[zdv h,zdt,if_pos rfl,zaJ];rfl
def qv (A:AS) (t:Nat):zdQ:=match A.tm t with
 | .v (.ptr i _ _)=>(match A.bl i with
   |some B=>B.get
   |none=>λ_=> [])
 | .v (.slc i _ _)=>(match A.bl i with
   |some B=>B.get
   |none=>λ_=> [])
 |_=>λ_=> []
def ndB (cs:zdN):Bool:=match cs with
 | [.val (.int .i64 _), .val (.string _), .val (.string _), .val (.int .i64 _), .val (.int .i64 _), .val (.int .i64 _), .val (.int .i64 _), .val (.int .i64 _), .val (.int .i64 _), .val (.int .i64 _), .val (.int .i64 _), .val (.int .i64 _), .val (.int .i64 _), .val (.int .i64 _), .val (.int .i64 _), .val (.int .i64 _), .val (.int .i64 _), .val (.string _), .val (.string _), .val (.string _), .val (.string _), .val (.int .i64 _), .val (.int .i64 _), .val (.int .i64 _), .val (.int .i64 _), .val (.int .i64 _)]=>true
 |_=>false
theorem ua (h:ndB cs=true):cs=svN (Vh cs):=by
 unfold ndB at h;split at h
 ·rfl
 ·cases h
theorem yd {g n:Bool} (h:n=true):dC g n=true:=by rw[h];rfl
theorem dW {o:Int} (h:x.op=o):{x with op:=o}=x:=by cases x;simp only at h;rw[h]
def kp (n1 N1:Nat) (g1:zdQ) (n2 N2:Nat) (g2:zdQ) (u:Un):Bool:=(Nat.ble n1 N1&&Nat.beq 20 20&&true)&&(Nat.ble n2 N2&&Nat.beq 26 26&&true)&&bW n1&&bW n2&&eU.good szB n1 g1&&eN.good szN n2 g2&&szB u
def nIn (n:Int):Nd:=⟨2,VI,noU,n,0,0⟩
theorem uf {n1:Nat} {g1:zdQ} {n2:Nat} {g2:zdQ} (h1:n1<=1000000) (h2:n2<=1000000) (k1:eU.good szB n1 g1=true) (k2:eN.good szN n2 g2=true) (J:szB u=true):kp n1 n1 g1 n2 n2 g2 u=true:=by
 unfold kp bW;rw[zae (za0 n1),zae (za0 n2),zae h1,zae h2,k1,k2,J];rfl
theorem lB:(uzR VI&&szB noU)=true:=by decide
theorem QM (p q:Bool):(bif p then q else false)=(p&&q):=by cases p<;>rfl
theorem QN (p q:Bool):(bif p then true else q)=(p||q):=by cases p<;>rfl
def Jz (us:ze2) (u:Un):zdQ:=ald (eU.get us) (λe=>((ci u).drop (e*20)).take 20) us.length 0
theorem Fp (J:e<us.length+1):Jz us u e=eU.get (us++ [u]) e:=by
 unfold Jz ald El.get El.nth;rw[aB];show _=ci (mb noU (us++ [u]) e);rw[aS];by_cases h:e<us.length
 ·rw[zds h,zdu,if_neg (by omega)];rfl
 ·obtain rfl:e=us.length:=by omega
  rw[zdv h,zdt,if_pos rfl,zaJ];rfl
theorem Fy {n:Int} (h: -9223372036854775808<=n/\n<=9223372036854775807) (k:K):af (inR .i64 n) K:=ac (VP.2 h) k
def v9:List FuncId:=
 8::
 144::
 74::
 zh
theorem zG: ∀f∈v9,V0 prog f:=by
 unfold v9;intro f J;rcases zai.1 J with rfl|J
 ·exact call8
 rcases zai.1 J with rfl|J
 ·exact call144
 rcases zai.1 J with rfl|J
 ·exact call74
 exact xe f J
abbrev ug (g:List (FuncId×Ctr)) (ann:zdY) (n:Nat) (f:FuncId) (args:zdN) (K:zdU):Prop:=wq prog (iR v9) (gw g) (gx []) ann n f args (λ_=>none) 0 [] (Go.Sy.okK λr _ _ _=>K r)
variable {g:List (FuncId×Ctr)} {W0:World} {F:FuncId}
theorem kh (h:GOk g) (hg:GlobU W0) (V:SV.idss args= []) (Z:r.ids= []) (J:ug g ann n F args (λs=>s=r)):Go.Sy.Yields prog W0 F args r:=
 cr (λW Y=>mW (h.all W (hg.below Y)) (λ_ _ _ h=>by cases h) zG (by kernel_rfl)) V Z J
theorem Fv (c n:Int) (K:zdU):ug xf noA 3 144 [cI.enc c,cI.enc n] K=vH c n K:=by kernel_rfl
theorem Fx (c n:Int) (K:zdU):ug xf noA 3 70 [cI.enc c,cI.enc n] K=vH c n K:=by kernel_rfl
theorem aeD (c n:Int) (K:zdU):ug xf noA 3 8 [cI.enc c,cI.enc n] K=vH c n K:=by kernel_rfl
abbrev Dg:Ctr:=k2 cI cI cI (λc n=>cl c&&decide (0<n)) co
variable {W:World}
theorem uh (V:GlobU W) (J: ∀(c n:Int) (K:zdU),ug xf noA 3 F [cI.enc c,cI.enc n] K=vH c n K):CtrOK prog W F Dg:=bC λc n h=>by
 rw[za2] at h;exact kh WH (ann:=noA) (n:=3) V de (cI.ids _) (by rw[J];exact A6 (K:=λr=>r=_) h.1 (zdx h.2) rfl)
def ui:List (FuncId×Ctr):=
 (8,Dg)::
 (70,Dg)::
 (144,Dg)::
 xf
theorem xJ:GOk ui:=
 ((WH
   |>.cons (λW J=>uh J Fv) call144
   ).cons (λW J=>uh J Fx) call70)
   |>.cons (λW J=>uh J aeD) call8
theorem Fz (x:Int×Int) (K:zdU):ug ui noA 3 74 [c22.enc x] K=
 af (cl x.1&&decide (0<(1999:Int))) (af (inR .i64 (co x.1 1999 - 999)) (af (cl x.2&&decide (0<(60:Int))) (af (inR .i64 (1+co x.2 60)) (af (cl (co x.1 1999 - 999)&&cl (1+co x.2 60)) (K (cR.enc (Yk.smallF x))))))):=by kernel_rfl
def BL (n:Int):Un:=
 bif co n 7==0 then aT 0 else bif co n 7==1 then aT 2 else bif co n 7==2 then {aT 0 with f:=(⟨#[49]⟩,⟨#[49,48,48,48]⟩)} else
 bif co n 7==3 then(fd (aT 0) (aT 0)).1 else bif co n 7==4 then {aT 4 with s:=0,o:=(⟨#[53,52,54,51]⟩,⟨#[50,48]⟩)} else bif co n 7==5 then aT 4 else(mi (aT 0) (aT 0)).1
def BM (n:Int) (K:zdU):Prop:=
 af (cl n&&decide (0<(7:Int))) (ag (co n 7==0) (K (cU.enc (aT 0))) (ag (co n 7==1) (K (cU.enc (aT 2))) (ag (co n 7==2) (K (cU.enc {aT 0 with f:=(⟨#[49]⟩,⟨#[49,48,48,48]⟩)})) (
 ag (co n 7==3) (K (cU.enc (fd (aT 0) (aT 0)).1)) (ag (co n 7==4) (K (cU.enc {aT 4 with s:=0,o:=(⟨#[53,52,54,51]⟩,⟨#[50,48]⟩)})) (ag (co n 7==5) (K (cU.enc (aT 4))) (K (cU.enc (mi (aT 0) (aT 0)).1))))))))
theorem JF (n:Int) (K:zdU):ug ui noA 3 71 [cI.enc n] K=BM n K:=by kernel_rfl
theorem JG {n:Int} {K:zdU} (h:cl n=true) (k:K (cU.enc (BL n))):BM n K:=by
 unfold BL at k;unfold BM;rw[h];refine ac rfl (ah (λa=> ?_) (λa=>ah (λb=> ?_) (λb=>ah (λc=> ?_) (λc=>ah (λd=> ?_) (λd=>ah (λe=> ?_) (λe=>ah (λf=> ?_) (λf=> ?_)))))))
 ·rw[a] at k;exact k
 ·rw[a,b] at k;exact k
 ·rw[a,b,c] at k;exact k
 ·rw[a,b,c,d] at k;exact k
 ·rw[a,b,c,d,e] at k;exact k
 ·rw[a,b,c,d,e,f] at k;exact k
 ·rw[a,b,c,d,e,f] at k;exact k
def xK:List (FuncId×Ctr):=
 (71,k1 cI cU cl BL)::
 (74,k1 c22 cR (λx=>cl x.1&&cl x.2) Yk.smallF)::
 ui
theorem BN:GOk xK:=
 (((xJ
   |>.cons (λW J=>dD λx h=>kh xJ (ann:=noA) (n:=3) J m8 (cR.ids _) (by
    rw[Fz];rw[za2] at h;have V:=gR x.1 (n:=1999) (by decide);have Y:=gR x.2 (n:=60) (by decide)
    exact ac (by rw[h.1];rfl) (Fy (by omega) (ac (by rw[h.2];rfl) (Fy (by omega) (ac (by rw[V4.2 (by omega),V4.2 (by omega)];rfl) rfl)))))) call74
   )
   )
   |>.cons (λW J=>dD λn h=>kh xJ (ann:=noA) (n:=3) J m8 (cU.ids _) (by rw[JF];exact JG (K:=λr=>r=_) h rfl)) call71
   )
def BO:List (FuncId×Ctr):=
 xK
theorem JJ:GOk BO:=
 BN
def Dh:List (FuncId×Ctr):=
 BO
theorem WJ:GOk Dh:=
 JJ
@[irreducible] def JL (gm:ze0) (ann:zdY) (n:Nat) (f:FuncId) (args:zdN) (Cs:zdX) (K:Aft):Prop:=
 Ay prog (iR v9) (gw Dh) (gx gm) tL ann n f args (λi=>Cs[i]?) Cs.length [] K
variable {K':Aft}
theorem Q8 {f:FuncId} {K:Aft} (h:JL gm ann n f args Cs K) (J: ∀r b n w,K r b n w->K' r b n w):JL gm ann n f args Cs K':=by
 unfold JL at h ⊢;exact NiceT.mono (Ea _ _ _ _ _ _ f args _ _ _ (λi hi=>zad hi)) h λr b n w _=>J r b n w
variable {B:Base}
theorem Qy (J:MOk gm) (hB:GlobB B):HypD prog B (iR v9) (gw Dh) (gx gm) tL:=
 have h:Hyp prog B (iR v9) (gw Dh) (gx gm):=mW (λp hp=>⟨CtrOK.base λw V=>(WJ.all w (hB w V) p hp).1,(WJ.all B.w (hB B.w (Pres.self B)) p hp).2⟩) (λB' s=>J.all B' (hB.sub s)) zG (by kernel_rfl)
 ⟨h.gam,h.mem,(P2 J hB).dem,h.ok,h.mixed⟩
variable {k:MCtr}
theorem Sh (Z:MOk gm) (h: ∀(bl:zdP) (nx:Nat) (args:zdN) (C:RC),k bl nx args=some C->C.pre=true->
 ∃(src:zdW) (V:zdX) (J:zdN) (ann:zdY) (n:Nat),yw bl (rnF src [] nx) src V/\Kr src V/\Far src V/\SV.rns (rnF src [] nx) J=some args/\JL gm ann n F J V (KB C src V nx)):
 ∀B:Base,GlobB B->VU prog B F k:=λB hB=>c8 (λB' hs=>Qy Z (hB.sub hs)) λbl nx args C Y hp=>by
 have:=h bl nx args C Y hp;unfold JL at this;exact this
def evE (a:Addr):Value:= .iface 327 (.pointer (some a))
def GlobE (a:Addr) (w:World):Prop:=GlobU w/\w.cell? ⟨0,0,none⟩=some (evE a)
variable {a:Addr} {w:World}
theorem GlobE.below {w':World} (h:GlobE a w) (J:Below w.heap.size w w'):GlobE a w':=by
 refine⟨h.1.below J, ?_⟩;rw[J.cell (p:=⟨0,0,none⟩) (World.block_lt_of_cell? w _ h.2)];exact h.2
def GlobEB (a:Addr) (B:Base):Prop:= ∀w,Pres B w->GlobE a w
theorem GlobEB.gU (h:GlobEB a B):GlobB B:=λw J=>(h w J).1
theorem GlobEB.of (h:GlobE a W):GlobEB a W:=λw J=>h.below J.below
theorem GlobEB.sub {W:Base} (h:GlobEB a W) (s:SubB B W):GlobEB a B:=λw J=>h w (s.pres J)
theorem ahA (w:World):Calls prog 90 #[.bool true] w λe w'=>e= .returned (.tuple #[])/\w'=w:=by
 go_enter func90,ntmps90;go_wp2
 go_end0
 exact⟨rfl,rfl⟩
theorem ai0 (a:Addr) (w:World) (h:w.cell? ⟨0,0,none⟩=some (evE a)):Calls prog 90 #[.bool false] w λe w'=>e= .panicked [{v:=evE a,recovered:=false}]/\w'=w:=by
 go_enter func90,ntmps90;go_wp2;exact⟨rfl,rfl,rfl⟩
theorem afL (v:Value) (w:World):(Extern.ReflectliteType.typeOf #[.iface 327 v]).run prog w= .ok (.iface 289 (.agg #[.pointer (some ⟨9,327,none⟩)])) w:=by kernel_rfl
theorem ac8 (w:World):((Extern.ReflectliteType.method λt=>do Extern.Rtype.noPackHeld "Comparable" t;(λa=>Value.bool a.comparable)<$>typeInfo t) #[.agg #[.pointer (some ⟨9,327,none⟩)]]).run prog w= .ok (.bool true) w:=by kernel_rfl
theorem afM (v:Value) (w:World):(Go.method 468 289 v "Comparable").run prog w= .ok (337,v) w:=by kernel_rfl
theorem ahB:(prog.info? 327).map (·.comparable)=some true:=by kernel_rfl
theorem ahC:(prog.info? 329).map (·.size)=some 1:=by kernel_rfl
theorem ahD (a:Addr) (w:World):Calls prog 153 #[evE a,evE a] w λe w'=>e= .returned (.bool true)/\w'=w:=by
 unfold evE;obtain⟨i,hi,hcmp⟩:=zbE.1 ahB;obtain⟨j,hj,hjs⟩:=zbE.1 ahC;have h8:= @run_callFunc_extern prog 222 _ Extern.ReflectliteType.typeOf func222 (by kernel_rfl) (by kernel_rfl) (by kernel_rfl) (by kernel_rfl);have h32:= @run_callFunc_extern prog 337 _ (Extern.ReflectliteType.method λt=>do Extern.Rtype.noPackHeld "Comparable" t;pure (.bool (<-typeInfo t).comparable)) func337 (by kernel_rfl) (by kernel_rfl) (by kernel_rfl) (by kernel_rfl);have tT:=afL;have cT:=ac8;have mR:=afM;have heq:=run_eql_iface_ptr_same (P:=prog) w a underlying112 underlying327 hi hcmp hj;go_enter func153,ntmps153;go_wp2;refine wp_loop_rounds 1 ?_;rw[rounds_succ];go_wp2;go_ret;exact⟨rfl,rfl⟩
theorem ahE (J:Value) (w:World):(Instr.typeAssert (.iface 327 J) 20 112 true).run prog w= .ok (.tuple #[.iface 327 J, .bool true]) w:=by kernel_rfl
theorem ai1 (w:World):(Instr.typeAssert .nilIface 20 112 true).run prog w= .ok (.tuple #[.nilIface, .bool false]) w:=by kernel_rfl
theorem afN (p q:Addr) (w:World):
 CallsD prog 152 #[.pointer (some p), .pointer (some q)] .returning w λe u' w'=>e= .returned (.tuple #[])/\u'= .returning/\w'=w:=by
 refine callsD_of_wpS func152 rfl λc₀ cs hu=> ?_;apply wpS_seq;apply wpS_region;simp[wpOpsS,go_sem,recoverD,hu,ntmps152,Exit.thenS,ai1];apply wpS_seq;apply wpS_region;simp[wpOpsS,go_sem,Exit.thenS];refine wpS_cond (t:=false) (by simp[Act.eval]) ?_;simp only[zbo,if_false];refine wpS_of_wp (wp_skip ?_);cases c₀
 simp_all [bodyPostS,results,results152]
def wE (w:World):World:=w.alloc (.cells #[.string ⟨#[]⟩, .string ⟨#[]⟩, .string ⟨#[]⟩, .string ⟨#[]⟩] 45)
def es:Value:= .string ⟨#[]⟩
theorem acW (b o c k:Nat) (a:Addr) (older:List PanicEntry) (w:World) {x0 x1 x2 x3 y:Value} (hE:w.cell? ⟨0,0,none⟩=some (evE a)) (hb:b<w.heap.size) (hc:c<w.heap.size) (hbc:b≠c)
 (h0:w.cell? ⟨b,o,none⟩=some x0) (h1:w.cell? ⟨b,o+1,none⟩=some x1) (h2:w.cell? ⟨b,o+2,none⟩=some x2) (h3:w.cell? ⟨b,o+3,none⟩=some x3) (hy:w.cell? ⟨c,k,none⟩=some y)
 (f0:w.frozen? ⟨b,o,none⟩=false) (f1:w.frozen? ⟨b,o+1,none⟩=false) (f2:w.frozen? ⟨b,o+2,none⟩=false) (f3:w.frozen? ⟨b,o+3,none⟩=false) (fy:w.frozen? ⟨c,k,none⟩=false):
 CallsD prog 152 #[.pointer (some ⟨b,o,none⟩), .pointer (some ⟨c,k,none⟩)] (.panicking ({v:=evE a,recovered:=false}::older)) w λe u' w'=>
  e= .returned (.tuple #[])/\u'= .panicking ({v:=evE a,recovered:=true}::older)/\w'=((wE w).setCells b o [es,es,es,es]).setCell ⟨c,k,none⟩ (.int .i64 50):=by
 unfold evE at*
 refine callsD_of_wpS func152 rfl λc₀ cs hu=> ?_;apply wpS_seq;apply wpS_region;simp[wpOpsS,go_sem,recoverD,hu,ntmps152,Exit.thenS,ahE];apply wpS_seq;apply wpS_region;simp[wpOpsS,go_sem,Exit.thenS,hE];refine(ahD a w).mono ?_;rintro e w1 ⟨rfl,rfl⟩;dsimp only;refine wpS_cond (t:=true) (by simp[Act.eval]) ?_;simp only[if_true];apply wpS_seq;apply wpS_region;simp[wpOpsS,go_sem,Exit.thenS];apply wpS_region;show wpOpsS _ _ _ _ _ _ (wE w1);have n0:(wE w1).cell? ⟨w1.heap.size,0,none⟩=some es:=by unfold wE;rw[World.cell?_alloc_new];rfl
 have n1:(wE w1).cell? ⟨w1.heap.size,1,none⟩=some es:=by unfold wE;rw[World.cell?_alloc_new];rfl
 have n2:(wE w1).cell? ⟨w1.heap.size,2,none⟩=some es:=by unfold wE;rw[World.cell?_alloc_new];rfl
 have n3:(wE w1).cell? ⟨w1.heap.size,3,none⟩=some es:=by unfold wE;rw[World.cell?_alloc_new];rfl
 have old: ∀{d j:Nat} {x:Value},d<w1.heap.size->w1.cell? ⟨d,j,none⟩=some x->(wE w1).cell? ⟨d,j,none⟩=some x:=λhd h=>by unfold wE;rw[World.cell?_alloc_lt (h:=hd)];exact h
 have fro: ∀{d j:Nat},d<w1.heap.size->w1.frozen? ⟨d,j,none⟩=false->(wE w1).frozen? ⟨d,j,none⟩=false:=λhd h=>by unfold wE;rw[World.frozen?_alloc_old (h:=Nat.ne_of_lt hd)];exact h
 have m0:=old hb h0;have m1:=old hb h1;have m2:=old hb h2;have m3:=old hb h3;have my:=old hc hy;have g0:=fro hb f0;have g1:=fro hb f1;have g2:=fro hb f2;have g3:=fro hb f3;have gy:=fro hc fy;generalize wE w1=w2 at*
 generalize w1.heap.size=sz at*
 have q1:(w2.setCell ⟨b,o,none⟩ es).cell? ⟨b,o+1,none⟩=some x1:=by rw[World.cell?_setCell_other (h:=by simp)];exact m1
 have q2:((w2.setCell ⟨b,o,none⟩ es).setCell ⟨b,o+1,none⟩ es).cell? ⟨b,o+2,none⟩=some x2:=by rw[World.cell?_setCell_other (h:=by simp),World.cell?_setCell_other (h:=by simp)];exact m2
 have q3:(((w2.setCell ⟨b,o,none⟩ es).setCell ⟨b,o+1,none⟩ es).setCell ⟨b,o+2,none⟩ es).cell? ⟨b,o+3,none⟩=some x3:=by rw[World.cell?_setCell_other (h:=by simp),World.cell?_setCell_other (h:=by simp),World.cell?_setCell_other (h:=by simp)];exact m3
 have q4:((((w2.setCell ⟨b,o,none⟩ es).setCell ⟨b,o+1,none⟩ es).setCell ⟨b,o+2,none⟩ es).setCell ⟨b,o+3,none⟩ es).cell? ⟨c,k,none⟩=some y:=by
  rw[World.cell?_setCell_other (h:=by simp[hbc]),World.cell?_setCell_other (h:=by simp[hbc]),World.cell?_setCell_other (h:=by simp[hbc]),World.cell?_setCell_other (h:=by simp[hbc])];exact my
 simp only[es] at*
 simp[wpOpsS,go_sem,Exit.thenS,n0,n1,n2,n3,m0,q1,q2,q3,q4,g0,g1,g2,g3,gy,bodyPostS,results,results152,World.setCells]
def ahF (n:Nat):Option Blk->Bool
 |some B=>Nat.beq B.n 1&&(Nat.beq B.sz n&&(match B.kd with
  | .own=>true
  |_=>false))
 |none=>false
def ai2 (bl:zdP) (i:Nat) (cs:zdN):Nat×Blk:=(i,match bl i with
 |some B=>B.put 0 0 cs
 |none=>{n:=0,sz:=0,get:=λ_=> [],kd:= .gone})
def agB (a:Addr):DCtr:=λm bl args=>match args with
 | [.ptr i 0 0, .ptr j 0 0]=>match m with
   |none=>some (true,none, [])
   |some (.iface t (.pointer (some b)))=>some (Nat.beq t 327&&(decide (b=a)&&(!Nat.beq i j&&(ahF 4 (bl i)&&ahF 1 (bl j)))),none, [ai2 bl j [.val (.int .i64 50)],ai2 bl i (yl noI)])
   |_=>none
 |_=>none
theorem ado {o:Option Blk} (h:ahF n o=true): ∃B,o=some B/\B.n=1/\B.sz=n/\B.kd= .own:=by
 cases o with
 |none=>cases h
 |some B=>
  simp only[ahF,za2] at h;obtain⟨h1,h2,h3⟩:=h;exact⟨B,rfl,zab h1,zab h2,by revert h3;cases B.kd<;>simp⟩
theorem agC (a:Addr) (B:Base) (hB:GlobEB a B):Wz prog B 152 (agB a):=by
 intro m bl β w args m' ch J hlv V hch;refine⟨call152, ?_⟩;unfold agB at V;split at V
 ·rename_i i j;split at V
  ·simp only[za1,zag,true_and] at V;obtain⟨rfl,rfl⟩:=V;refine(afN (addr β i 0 0) (addr β j 0 0) w).mono ?_;rintro e u' w' ⟨rfl,rfl,rfl⟩;exact⟨⟨_,rfl⟩,rfl,J⟩
  ·rename_i t b;simp only[za1,zag,za2,zdw,zap] at V;obtain⟨⟨h1,rfl,h3,h4,h5⟩,rfl,rfl⟩:=V;have h1:=zab h1;subst h1;obtain⟨C,hC,c1,c2,c3⟩:=ado h4;obtain⟨D,hD,d1,d2,d3⟩:=ado h5;have Y:i≠j:=λe=>by rw[e,bS] at h3;simp at h3
   have q:=J.blk i C hC (by rw[c3];simp);have r:=J.blk j D hD (by rw[d3];simp);have qn:=q.not_nil (e:=0) (by omega);have rn:=r.not_nil (e:=0) (by omega);have qlt:=q.lt qn;have rlt:=r.lt rn;have hne:(β i).blk≠(β j).blk:=λe=>Y (J.inj i j C D hC hD c3 d3 qn rn e);have qc: ∀k,k<4-> ∃x,w.cell? ⟨(β i).blk,(β i).off+k,none⟩=some x/\w.frozen? ⟨(β i).blk,(β i).off+k,none⟩=false:=λk V=>by
    have Z:k<(β i).cap*C.sz:=by
     rw[c2];have:=q.le;have:1<=(β i).cap:=by omega
     omega
    obtain⟨x,hx⟩:=Option.isSome_iff_exists.1 (q.ex k Z);exact⟨x,hx,q.fr c3 k Z⟩
   have rin:0<(β j).cap*D.sz:=by
    rw[d2];have:=r.le;omega
   obtain⟨x0,e0,f0⟩:=qc 0 (by decide);obtain⟨x1,e1,f1⟩:=qc 1 (by decide);obtain⟨x2,e2,f2⟩:=qc 2 (by decide);obtain⟨x3,e3,f3⟩:=qc 3 (by decide);obtain⟨y,ey⟩:=Option.isSome_iff_exists.1 (r.ex 0 rin);have fy:=r.fr d3 0 rin;have ei:addr β i 0 0=⟨(β i).blk,(β i).off,none⟩:=by simp[addr]
   have ej:addr β j 0 0=⟨(β j).blk,(β j).off,none⟩:=by simp[addr]
   have key:=acW (β i).blk (β i).off (β j).blk (β j).off b [] w (hB w J.below).2 qlt rlt hne e0 e1 e2 e3 ey f0 f1 f2 f3 fy;rw[<-ei,<-ej] at key;refine key.mono ?_;rintro e u' w' ⟨rfl,rfl,rfl⟩;refine⟨⟨_,rfl⟩,rfl, ?_⟩;have s1:BC B bl β (wE w):=J.step (by unfold wE;exact(zdG _ w).alloc (za0 _) _);have s2:=s1.write hC c3 (e:=0) (o:=0) (cs:=yl noI) (by omega) (by show 0+4<=_;omega) (by simp[yl,Live,SV.ids]);have s3:=s2.write (id:=j) (B:=D) (by rw[ak (Ne.symm Y)];exact hD) d3 (e:=0) (o:=0) (cs:= [.val (.int .i64 50)]) (by omega) (by simp;omega) (by simp[Live,SV.ids]);have w1:(wE w).setCells (β i).blk ((β i).off+0*(β i).sz+0) (SV.concs β (yl noI))=(wE w).setCells (β i).blk (β i).off [es,es,es,es]:=by
    rw[zcE,zaY];rfl
   rw[w1] at s3;have w2: ∀v:World,v.setCells (β j).blk ((β j).off+0*(β j).sz+0) (SV.concs β [.val (.int .i64 50)])=v.setCell (addr β j 0 0) (.int .i64 50):=λv=>by
    simp[addr,SV.concs,SV.conc,World.setCells]
   rw[w2] at s3;simp only[chB,ai2,hC,hD];exact s3
  ·cases V
 ·cases V
def ai3 (a:Addr):MCtr:=λ_ _ args=>match args with
 | [.val (.bool true)]=>some {X:=Unit,pre:=true,spec:=λ_=>True,out:=λ_=> .tup [],ex:=λ_=>⟨(),trivial⟩}
 | [.val (.bool false)]=>some {X:=Unit,pre:=true,spec:=λ_=>True,out:=λ_=> .tup [],pan:=λ_=>some (evE a),ex:=λ_=>⟨(),trivial⟩}
 |_=>none
theorem ahG (hB:GlobEB a B):VU prog B 90 (ai3 a):=by
 intro bl β w nx args C J hit Y Z V hp;unfold ai3 at V;split at V
 ·simp only[za1] at V;subst V;refine(ahA w).mono ?_;rintro e w' ⟨rfl,rfl⟩;exact⟨(),trivial,β,by show _=_;simp[SV.conc,SV.concs],abx J Y (by simp[SV.ids,SV.idss]) (zdG _ _)⟩
 ·simp only[za1] at V;subst V;refine(ai0 a w (hB w J.below).2).mono ?_;rintro e w' ⟨rfl,rfl⟩;obtain⟨g1,g2,_⟩:=abx (s:= .tup []) J Y (by simp[SV.ids,SV.idss]) (zdG _ w');exact⟨(),trivial,β,rfl,g1,g2,trivial⟩
 ·cases V
def aeE:List FuncId:=
 94::
 88::
 85::
 36::
 27::
 84::
 37::
 30::
 89::
 29::
 87::
 31::
 35::
 99::
 33::
 92::
 28::
 86::
 24::
 10::
 90::
 83::
 152::
 154::
 155::
 97::
 95::
 93::
 91::
 252::
 134::
 190::
 9::
 23::
 32::
 34::
 17::
 16::
 254::
 132::
 102::
 65::
 192::
 63::
 25::
 82::
 225::
 224::
 130::
 61::
 253::
 191::
 67::
 129::
 156::
 66::
 131::
 3::
 7::
 6::
 15::
 8::
 5::
 4::
 11::
 22::
 21::
 75::
 76::
 78::
 v9
theorem ae8: ∀f∈aeE,V0 prog f:=by
 unfold aeE;simp only[zc3]
 exact⟨
  call94,
  call88,
  call85,
  call36,
  call27,
  call84,
  call37,
  call30,
  call89,
  call29,
  call87,
  call31,
  call35,
  call99,
  call33,
  call92,
  call28,
  call86,
  call24,
  call10,
  call90,
  call83,
  call152,
  call154,
  call155,
  call97,
  call95,
  call93,
  call91,
  call252,
  call134,
  call190,
  call9,
  call23,
  call32,
  call34,
  call17,
  call16,
  call254,
  call132,
  call102,
  call65,
  call192,
  call63,
  call25,
  call82,
  call225,
  call224,
  call130,
  call61,
  call253,
  call191,
  call67,
  call129,
  call156,
  call66,
  call131,
  call3,
  call7,
  call6,
  call15,
  call8,
  call5,
  call4,
  call11,
  call22,
  call21,
  call75,
  call76,
  call78,
  zG⟩
structure GEk (g:List (FuncId×Ctr)):Prop where
 all: ∀(a:Addr) (W:World),GlobE a W-> ∀p∈g,CtrOK prog W p.1 p.2/\V0 prog p.1
theorem GEk.of (h:GOk g):GEk g:=⟨λ_ W J=>h.all W J.1⟩
theorem GEk.cons {c:Ctr} (h:GEk g) (k: ∀(a:Addr) (W:World),GlobE a W->CtrOK prog W F c) (V:V0 prog F):GEk ((F,c)::g):=⟨λa W J p hp=>by
 rcases zai.1 hp with rfl|hp
 ·exact⟨k a W J,V⟩
 ·exact h.all a W J p hp⟩
structure MEk (a:Addr) (gm:List (FuncId×MCtr)):Prop where
 all: ∀B:Base,GlobEB a B-> ∀p∈gm,VU prog B p.1 p.2
theorem MEk.nil:MEk a []:=⟨λ_ _ _ h=>by cases h⟩
theorem MEk.of (h:MOk gm):MEk a gm:=⟨λB hB=>h.all B hB.gU⟩
theorem MEk.cons (h:MEk a gm) (J: ∀B:Base,GlobEB a B->VU prog B F k):MEk a ((F,k)::gm):=⟨λB hB p hp=>by
 rcases zai.1 hp with rfl|hp
 ·exact J B hB
 ·exact h.all B hB p hp⟩
def dF (a:Addr):FuncId->Option DCtr:=λf=>bif Nat.beq f 152 then some (agB a) else tL f
theorem ac9 (hg:GEk g) (Y:MEk a gm) (hB:GlobEB a B):HypD prog B (iR aeE) (gw g) (gx gm) (dF a):=
 have h:Hyp prog B (iR aeE) (gw g) (gx gm):=mW (λp hp=>⟨CtrOK.base λw Z=>(hg.all a w (hB w Z) p hp).1,(hg.all a B.w (hB B.w (Pres.self B)) p hp).2⟩) (λB' s=>Y.all B' (hB.sub s)) ae8 (by kernel_rfl)
 ⟨h.gam,h.mem,λB' s f k J=>by
   unfold dF at J;cases V:Nat.beq f 152 with
   |true=>
    rw[V] at J;simp only[zdu,za1] at J;subst J;rw[zab V];exact agC a B' (hB.sub s)
   |false=>
    rw[V,zdt] at J
    exact(P2 MOk.nil hB.gU).dem B' s f k J,h.ok,h.mixed⟩
abbrev acb (a:Addr) (g:List (FuncId×Ctr)) (gm:ze0) (ann:zdY) (n:Nat) (f:FuncId) (args:zdN) (K:zdU):Prop:=wn prog (iR aeE) (gw g) (gx gm) (dF a) ann n f args (λ_=>none) 0 [] (Go.Sy.okK λr _ _ _=>K r)
theorem l0 (h:GEk g) (hm:MEk a gm) (hg:GlobE a W0) (J:SV.idss args= []) (hr:r.ids= []) (V:acb a g gm ann n F args (λs=>s=r)):Go.Sy.Yields prog W0 F args r:=by
 intro β w hb
 obtain⟨_,hc⟩:=mV (ac9 h hm (GlobEB.of (hg.below hb))) ann n F args (λ_=>none) 0 [] _ β w V (sP w β) (λ_ _=>rfl) (λs hs i hi=>by
  have:i∈SV.idss args:=SV.mem_idss.2 ⟨s,hs,hi⟩
  rw[J] at this;cases this)
 refine Calls.mono hc ?_;rintro e w' ⟨β',s,bl',nx',wl',he,Z,Y,_⟩;cases s with
 |pan v=>exact Z.elim
 |ok s=>
 obtain rfl:e=_:=he;obtain rfl:s=_:=Z;exact⟨by rw[SV.conc_congr s (β:=β) (β':=β') (λi hi=>by rw[hr] at hi;cases hi)],Y.below.below⟩
theorem acX {g n:Bool} (h:n=true) (k:K):af (dC g n) K:=ac (by rw[h];cases g<;>rfl) k
def akf (x:Iv) (K:zdU):Prop:=
 af (uzR x.1) (af (dC (rV x.1) (uzR x.2)) (af (dC (bif rV x.1 then rV x.2 else false) (uzR x.1&&uzR x.2)) (K (cB.enc (bif (bif rV x.1 then rV x.2 else false) then decide (b9 x.1 x.2<=0) else false)))))
theorem ai4 (a:Addr) (x:Iv) (K:zdU):acb a Dh [] noA 6 24 [cIv.enc x] K=akf x K:=by kernel_rfl
theorem alu {x:Iv} (h:uzI x=true):uzR x.1=true/\uzR x.2=true:=by unfold uzI at h;simpa using h
theorem afO {x:Iv} {K:zdU} (h:uzI x=true) (k:K (cB.enc (vI x))):akf x K:=by
 obtain⟨h1,h2⟩:=alu h;refine ac h1 (acX h2 (acX (by rw[h1,h2];rfl) ?_));have e:(bif (bif rV x.1 then rV x.2 else false) then decide (b9 x.1 x.2<=0) else false)=vI x:=by unfold vI;cases rV x.1<;>cases rV x.2<;>rfl
 rw[e];exact k
theorem agD:GEk Dh:=GEk.of WJ
def gV1:List (FuncId×Ctr):=(24,k1 cIv cB uzI vI)::Dh
theorem ae9:GEk gV1:=agD.cons (λa W J=>dD λx h=>l0 agD (MEk.nil (a:=a)) J (ann:=noA) (n:=6) m8 (cB.ids _) (by rw[ai4];exact afO (K:=λr=>r=_) h rfl)) call24
def aiG (x:Iv) (r:RS) (K:zdU):Prop:=
 af (uzI x) (af (dC (vI x) (uzR r)) (af (dC (bif vI x then rV r else false) (uzR x.1&&uzR r)) (af (dC (bif (bif vI x then rV r else false) then decide (b9 x.1 r<=0) else false) (uzR r&&uzR x.2))
  (K (cB.enc (bif (bif (bif vI x then rV r else false) then decide (b9 x.1 r<=0) else false) then decide (b9 r x.2<=0) else false))))))
theorem ahH (a:Addr) (x:Iv) (r:RS) (K:zdU):acb a gV1 [] noA 6 37 [cIv.enc x,cR.enc r] K=aiG x r K:=by kernel_rfl
theorem aeF {x:Iv} {r:RS} {K:zdU} (h:uzI x=true) (J:uzR r=true) (k:K (cB.enc (auf x r))):aiG x r K:=by
 obtain⟨h1,h2⟩:=alu h;refine ac h (acX J (acX (by rw[h1,J];rfl) (acX (by rw[J,h2];rfl) ?_)));have e:(bif (bif (bif vI x then rV r else false) then decide (b9 x.1 r<=0) else false) then decide (b9 r x.2<=0) else false)=auf x r:=by
  unfold auf;cases vI x<;>cases rV r<;>cases decide (b9 x.1 r<=0)<;>rfl
 rw[e];exact k
def ak0 (r:RS) (K:zdU):Prop:=af (uzR r) (ag (!rV r) (K (cIv.enc noI)) (K (cIv.enc (r,r))))
theorem ai5 (a:Addr) (r:RS) (K:zdU):acb a Dh [] noA 6 31 [cR.enc r] K=ak0 r K:=by kernel_rfl
def gV2:List (FuncId×Ctr):=(37,k2 cIv cR cB (λx r=>uzI x&&uzR r) auf)::(31,k1 cR cIv uzR ptI)::gV1
theorem aiH:GEk gV2:=
 (ae9.cons (λa W J=>dD λr h=>l0 agD (MEk.nil (a:=a)) J (ann:=noA) (n:=6) m8 (cIv.ids _) (by
     rw[ai5];refine ac h (ah (λe=> ?_) (λe=> ?_))
     ·unfold ptI;rw[show rV r=false by simpa using e];rfl
     ·unfold ptI
      rw[show rV r=true by simpa using e];rfl)) call31).cons
   (λa W J=>bC λx r h=>by
     rw[za2] at h
     exact l0 ae9 (MEk.nil (a:=a)) J (ann:=noA) (n:=6) de (cB.ids _) (by rw[ahH];exact aeF (K:=λr=>r=_) h.1 h.2 rfl)) call37
@[irreducible] def XC (a:Addr) (g:List (FuncId×Ctr)) (gm:ze0) (ann:zdY) (n:Nat) (f:FuncId) (args:zdN) (Cs:zdX) (K:Aft):Prop:=
 Ay prog (iR aeE) (gw g) (gx gm) (dF a) ann n f args (λi=>Cs[i]?) Cs.length [] K
theorem afP {f:FuncId} {K:Aft} (h:XC a g gm ann n f args Cs K) (J: ∀r b n w,K r b n w->K' r b n w):XC a g gm ann n f args Cs K':=by
 unfold XC at h ⊢;exact NiceT.mono (Ea _ _ _ _ _ _ f args _ _ _ (λi hi=>zad hi)) h λr b n w _=>J r b n w
theorem agE (hg:GEk g) (Z:MEk a gm) (h: ∀(bl:zdP) (nx:Nat) (args:zdN) (C:RC),k bl nx args=some C->C.pre=true->
 ∃(src:zdW) (V:zdX) (J:zdN) (ann:zdY) (n:Nat),yw bl (rnF src [] nx) src V/\Kr src V/\Far src V/\SV.rns (rnF src [] nx) J=some args/\XC a g gm ann n F J V (KB C src V nx)):
 ∀B:Base,GlobEB a B->VU prog B F k:=λB hB=>c8 (λB' hs=>ac9 hg Z (hB.sub hs)) λbl nx args C Y hp=>by
 have:=h bl nx args C Y hp;unfold XC at this;exact this
theorem kbE {f:FuncId} (x:C.X) (V:C.spec x) (h1:C.pan x=none) (h2:r.ids= []) (h3:C.out x=r) (h4:C.nw x= []) (h5:C.ch x= []) (h6: ∀C∈Cs,cN C.kd=false) (J:src.length=Cs.length)
 (h:XC a g gm ann n f args Cs (Go.Sy.okK λs _ _ _=>s=r)):XC a g gm ann n f args Cs (KB C src Cs nx):=afP h λq b m w hq=>by
 cases q with
 |pan v=>exact hq.elim
 |ok s=>
  obtain rfl:s=r:=hq;exact IG x V h1 h2 h3 h4 h5 h6 J
def gMn:List (FuncId×Ctr):= [(81,k2 cR cR cI (λa b=>uzR a&&uzR b) b9)]
theorem akg:GEk gMn:=(GEk.of GOk.nil).cons (λa W J=>(Li J.1 (81,k2 cR cR cI (λa b=>uzR a&&uzR b) b9) (by simp[qH])).1) call81
def adp (t:RS->RS->Bool):List RS->RS->(zdU)->Prop
 | [],m,K=>K (cR.enc m)
 |x::r,m,K=>af (uzR x&&uzR m) (ag (t x m) (adp t r x K) (adp t r m K))
theorem ahI (a:Addr) (p q r s:RS) (K:zdU):XC a gMn [] noA 5 224 [.slc 0 0 4, .fn (.func 81) [] []] [eR.old [p,q,r,s]] (Go.Sy.okK λr _ _ _=>K r)=adp (λx m=>decide (b9 x m<0)) [q,r,s] p K:=by kernel_rfl
theorem ahJ (a:Addr) (p q r s:RS) (K:zdU):XC a gMn [] noA 5 225 [.slc 0 0 4, .fn (.func 81) [] []] [eR.old [p,q,r,s]] (Go.Sy.okK λr _ _ _=>K r)=adp (λx m=>decide (b9 x m>0)) [q,r,s] p K:=by kernel_rfl
def R7 (t:RS->RS->Bool):List RS->RS->RS
 | [],m=>m
 |x::r,m=>R7 t r (bif t x m then x else m)
theorem ad5: ∀(l:List RS) (m:RS),R7 (λx m=>decide (b9 x m<0)) l m=aey l m
 | [],m=>rfl
 |x::r,m=>ad5 r _
theorem ad6: ∀(l:List RS) (m:RS),R7 (λx m=>decide (b9 x m>0)) l m=aez l m
 | [],m=>rfl
 |x::r,m=>ad6 r _
theorem acY {t:RS->RS->Bool} {K:zdU}: ∀{l:List RS} {m:RS},(∀x∈l,uzR x=true)->uzR m=true->K (cR.enc (R7 t l m))->adp t l m K
 | [],m,_,_,k=>k
 |x::r,m,J,V,k=>by
  have Z:=J x (by simp);have Y: ∀y∈r,uzR y=true:=λy hy=>J y (by simp[hy]);refine ac (by rw[Z,V];rfl) (ah (λh=>acY Y Z ?_) (λh=>acY Y V ?_))
  ·rw[R7,h] at k;exact k
  ·rw[R7,h] at k;exact k
def adD (t:RS->RS->Bool):MCtr:=λbl _ args=>match args with
 | [s, .fn (.func g) [] []]=>match vW bl 2 s with
   |some (b,_,n,c)=>some {X:=Unit,pre:=Nat.beq g 81&&b&&Nat.beq n 4&&eR.good uzR n c,spec:=λ_=>True,out:=λ_=>cR.enc (R7 t [NH (c 1),NH (c 2),NH (c 3)] (NH (c 0))),ex:=λ_=>⟨(),trivial⟩}
   |none=>none
 |_=>none
theorem adq {t:RS->RS->Bool} (Z: ∀(p q r s:RS) (K:zdU),XC a gMn [] noA 5 F [.slc 0 0 4, .fn (.func 81) [] []] [eR.old [p,q,r,s]] (Go.Sy.okK λr _ _ _=>K r)=adp t [q,r,s] p K):
 ∀B:Base,GlobEB a B->VU prog B F (adD t):=agE akg MEk.nil λbl nx args C V hp=>by
 unfold adD at V;split at V
 ·rename_i s g;split at V
  ·rename_i b o n c hs;simp only[za1] at V;subst V;simp only[za2] at hp;obtain⟨⟨⟨hg,rfl⟩,hn⟩,J⟩:=hp;obtain rfl:=zab hg;obtain rfl:=zab hn;obtain⟨t1,t2⟩:=cq (f:=rnF [o] [] nx) hs J;have hl:eR.list 4 c= [NH (c 0),NH (c 1),NH (c 2),NH (c 3)]:=rfl;have Y:=El.good_list J;rw[hl] at Y t1 t2;refine⟨[o], [eR.old [NH (c 0),NH (c 1),NH (c 2),NH (c 3)]], [.slc 0 0 4, .fn (.func 81) [] []],noA,5,aw t1 trivial,bH (by simp[cN,El.old]),cd (by simp[El.old,BK.map]),ar (t2 0 rfl) rfl, ?_⟩;refine kbE () trivial rfl (r:=cR.enc (R7 t [NH (c 1),NH (c 2),NH (c 3)] (NH (c 0)))) (cR.ids _) rfl rfl rfl (by simp[cN,El.old]) rfl ?_;rw[Z];exact acY (λx hx=>Y x (zan _ hx)) (Y _ (by simp)) rfl
  ·cases V
 ·cases V
theorem afQ (n:Nat) (l:zdL):val 10 (List.replicate n 0++l)=10^n*val 10 l:=by
 have J: ∀n,val 10 (List.replicate n 0)=0:=by
  intro n
  induction n with
  |zero=>rfl
  |succ n V=>rw[zce,val,V]
 rw[alj,J,zcx,za7]
def afR (p:Nat):zdK:=⟨(49::List.replicate p 48).toArray⟩
theorem adr (p:Nat):(afR p).data.toList=49::List.replicate p 48:=rfl
theorem ads (p:Nat):body (49::List.replicate p 48)=49::List.replicate p 48:=by simp[body]
theorem afa {p:Nat} (h:p<200):vS (afR p)=true:=by
 unfold vS;rw[adr];refine Nq ?_ ?_ ?_ ?_<;>rw[ads]
 ·simp
 ·simp;omega
 ·intro c J;rcases zai.1 J with h|h
  ·subst h;decide
  ·rw[List.eq_of_mem_replicate h];decide
 ·right;simp
theorem afb (p:Nat):nS (afR p)=ten p:=by
 unfold nS ten;rw[adr];unfold toI;rw[if_neg (by simp),ads]
 congr 1
 unfold bm;rw[List.reverse_cons,zb8,List.reverse_replicate,List.map_replicate,show dv 48=0 from rfl,afQ];simp[val,show dv 49=1 from rfl]
theorem afc {p:Nat} (h:p<200):ofI (ten p)=afR p:=by rw[<-afb,jc (afa h)]
def lR (r:RS) (p:Int) (up:Bool):RS×Int:=if rV r&&decide (0<=p/\p<=30)&&aq (nS r.1*ten p.toNat) then
 rMk (if up&&decide (nS r.1*ten p.toNat%nS r.2≠0) then nS r.1*ten p.toNat / nS r.2+1 else nS r.1*ten p.toNat / nS r.2) (ten p.toNat) else(noR,40)
theorem ad7 (r:RS) (p:Int):lR r p false=acv r p:=by unfold lR acv;simp
theorem afS (r:RS) (p:Int):lR r p true=rUp r p:=by
 unfold lR rUp;split
 ·congr 1
  by_cases h:nS r.1*ten p.toNat%nS r.2=0<;>simp[h]
 ·rfl
theorem ai6 {n d:zdK} (Y:vS n=true) (V:vS d=true) (h0:0<nS d):vS (ofI (nS n / nS d))=true/\vS (ofI (nS n%nS d))=true:=by
 have e1:=cD n;have J:=cD d;refine⟨gj ?_,gj ?_⟩
 ·rw[e1,J];exact lS (by omega) (br Y) _ _
 ·rw[e1,J];exact lT (by omega) (br V) _ _
theorem avJ {d:Int} (hs:aq N=true) (Z:0<d) (h0:N%d≠0):aq (N / d+1)=true:=by
 have hN:=V1.1 hs;rw[V1];have e1:=Int.emod_add_mul_ediv N d;have e2:=zcm N (b:=d) (by omega);have V:=zcP N Z;generalize N / d=Q at*
 generalize N%d=M at*
 have hd1:d≠1:=λe=>by rw[e] at V;omega
 by_cases J:0<=Q
 ·have:2*Q<=d*Q:=Int.mul_le_mul_of_nonneg_right (by omega) J;omega
 ·obtain⟨R,Y⟩: ∃R,Q= -R - 1:=⟨-Q - 1,by omega⟩;have h1:1*R<=d*R:=Int.mul_le_mul_of_nonneg_right (by omega) (by omega);have h2:d*Q= -(d*R) - d:=by rw[Y,Int.mul_sub,Int.mul_one,zbM]
  omega
def agF (k:Nat):zdK:=⟨(List.replicate k 48).toArray⟩
def ai7:List FuncId:=162::100::101::NV
theorem ahK: ∀f∈ai7,V0 prog f:=by
 unfold ai7;simp only[zc3];exact⟨call162,call100,call101,KM⟩
abbrev SX (g:List (FuncId×Ctr)) (n:Nat) (f:FuncId) (args:zdN) (K:zdU):Prop:=wq prog (iR ai7) (gw g) (gx []) noA n f args (λ_=>none) 0 [] (Go.Sy.okK λr _ _ _=>K r)
theorem acJ (h:GOk g) (hg:GlobU W0) (V:SV.idss args= []) (Z:r.ids= []) (J:SX g n F args λs=>s=r):Go.Sy.Yields prog W0 F args r:=
 cr (λW Y=>mW (h.all W (hg.below Y)) (λ_ _ _ h=>by cases h) ahK (by kernel_rfl)) V Z J
abbrev ai8:Ctr:=k2 cS cI cS (λs p=>seq s ⟨#[48]⟩&&decide (0<=p)&&decide (p<=30)) (λ_ p=>agF p.toNat)
theorem afd:CtrOK prog W 156 ai8:=bC λs p h=>by
 simp only[za2,zdw] at h;obtain rfl:=We.1 h.1.1;intro β w J;refine(AI p w h.1.2 (by omega)).mono ?_;rintro e w' ⟨rfl,h2⟩;exact⟨rfl,h2⟩
def gD1:List (FuncId×Ctr):= [(49,k1 cR cB uzR rV)]
def gD2:List (FuncId×Ctr):= [(49,k1 cR cB (λa=>uzR a&&rV a) λ_=>true),(156,ai8),(157,k2 cS cS cSI (λa b=>pS2 a b&& !aq (nS a*nS b)) λ_ _=>(⟨#[]⟩,30))]
def gD3:List (FuncId×Ctr):=(156,ai8)::wS
def bd9 (p:Int):Bool:=bif decide (p<0) then true else decide (p>30)
def ai9 (r:RS) (p:Int) (K:zdU):Prop:=af (dC (!bd9 p) (uzR r)) (af (bif bd9 p then true else !rV r) (K uD))
theorem agG (r:RS) (p:Int) (K:zdU):SX gD1 6 100 [cR.enc r,cI.enc p] K=ai9 r p K:=by kernel_rfl
theorem aja (r:RS) (p:Int) (K:zdU):SX gD1 6 101 [cR.enc r,cI.enc p] K=ai9 r p K:=by kernel_rfl
def acj (p:Int):zdK:=⟨#[49]⟩++agF p.toNat
def b19 (p:Int):Bool:=bif bd9 p then true else !true
def ahL (r:RS) (p:Int) (K:zdU) (D X:Prop):Prop:=
 af (dC (!bd9 p) (uzR r&&rV r)) (ag (b19 p) (K uD) (af (seq ⟨#[48]⟩ ⟨#[48]⟩&&decide (0<=p)&&decide (p<=30)) (af (decide ((⟨#[49]⟩:zdK).size+(agF p.toNat).size<=9223372036854775807)) (ag (b19 p) (ag (b19 p) (K uD) D) X))))
def ajb (r:RS) (p:Int) (K:zdU):Prop:=ahL r p K False (af (pS2 r.1 (acj p)&& !aq (nS r.1*nS (acj p))) (K uD))
def ajc (up:Bool) (r:RS) (p:Int) (K:zdU) (n:zdK):Prop:=
 let q:=ofI (nS n / nS r.2)
 af (pS2 n r.2&&decide (nS r.2≠0)) (ag (bif up then !seq (ofI (nS n%nS r.2)) s0 else false)
  (af (pS2 q s1&&aq (nS q+nS s1)) (CB (ofI (nS q+nS s1)) (acj p) K)) (CB q (acj p) K))
def ahM (up:Bool) (r:RS) (p:Int) (K:zdU):Prop:=
 ahL r p K (ajc up r p K ⟨#[]⟩) (af (pS2 r.1 (acj p)&&aq (nS r.1*nS (acj p))) (ajc up r p K (ofI (nS r.1*nS (acj p)))))
theorem agH (r:RS) (p:Int) (K:zdU):SX gD2 6 100 [cR.enc r,cI.enc p] K=ajb r p K:=by kernel_rfl
theorem ajd (r:RS) (p:Int) (K:zdU):SX gD2 6 101 [cR.enc r,cI.enc p] K=ajb r p K:=by kernel_rfl
theorem agI (r:RS) (p:Int) (K:zdU):SX gD3 6 100 [cR.enc r,cI.enc p] K=ahM false r p K:=by kernel_rfl
theorem aje (r:RS) (p:Int) (K:zdU):SX gD3 6 101 [cR.enc r,cI.enc p] K=ahM true r p K:=by kernel_rfl
theorem ahN (h0:0<=p):acj p=afR p.toNat:=by
 unfold acj agF afR;apply gT;simp[ByteArray.toList_data_append]
theorem aiI:GOk gD1:=GOk.nil.cons (λW J=>yS J) call49
theorem akh:GOk gD3:=WG.cons (λW J=>afd) call156
theorem aki:GOk gD2:=
 ((GOk.nil.cons (λW J=>ow (λ_=>rfl) (λ_=>rfl) ((WR.all W J (157,k2 cS cS cSI uz2 bM) (by simp[mZ])).1) λa b h=>by
    simp only[za2,zap] at h;have:=V3.1 h.1;refine⟨aX (bO this.1) (bO this.2), ?_⟩;rw[dg this.1 this.2];unfold Yk.chkI
    rw[if_neg (λe=>by rw[V1.2 e] at h;cases h.2)];rfl) call157).cons (λW J=>afd) call156).cons (λW J=>CA (yS J) λa h=>by
    rw[za2] at h;exact h) call49
theorem afe {r:RS} {K:zdU} {D X:Prop} (V:uzR r=true) (Y:rV r=true) (h0:0<=p) (h1:p<=30) (k:X):ahL r p K D X:=by
 have J:b19 p=false:=by unfold b19 bd9;rw[zdv (show ¬p<0 by omega),zdv (show ¬p>30 by omega)];rfl
 unfold ahL;rw[J];refine ac (fU (by rw[V,Y];rfl)) (ac (by rw[zds h0,zds h1];decide) (ac (zds ?_) k));unfold agF;have:(⟨(List.replicate p.toNat 48).toArray⟩:zdK).size=p.toNat:=by rw[<-bj];simp
 rw[this];show 1+p.toNat<=_;omega
theorem ad8 {up:Bool} (hW:GlobU W) {r:RS} (hr:uzR r=true) (vA: ∀K,SX gD1 6 F [cR.enc r,cI.enc p] K=ai9 r p K)
 (vB: ∀K,SX gD2 6 F [cR.enc r,cI.enc p] K=ajb r p K) (vC: ∀K,SX gD3 6 F [cR.enc r,cI.enc p] K=ahM up r p K):Go.Sy.Yields prog W F [cR.enc r,cI.enc p] (cRE.enc (lR r p up)):=by
 have J:SV.idss [cR.enc r,cI.enc p]= []:=de;by_cases hp:0<=p/\p<=30
 ·have hb:bd9 p=false:=by unfold bd9;rw[zdv (show ¬p<0 by omega),zdv (show ¬p>30 by omega)];rfl
  cases Y:rV r with
  |false=>
   have e:lR r p up=(noR,40):=by unfold lR;rw[Y];simp
   exact acJ aiI (n:=6) hW J (cRE.ids _) (by rw[vA,e];exact ac (fU hr) (ac (by rw[hb,Y];rfl) rfl))
  |true=>
   have hk:p.toNat<200:=by omega
   have t1:=ahN hp.1;have t2:vS (acj p)=true:=by rw[t1];exact afa hk
   have t3:nS (acj p)=ten p.toNat:=by rw[t1];exact afb _
   obtain⟨v1,v2,v3,_⟩:=ay Y;cases V:aq (nS r.1*ten p.toNat) with
   |false=>
    have e:lR r p up=(noR,40):=by unfold lR;rw[V];simp
    exact acJ aki (n:=6) hW J (cRE.ids _) (by
     rw[vB,e]
     exact afe hr Y hp.1 hp.2 (ac (by rw[V3.2 ⟨v1,t2⟩,t3,V];rfl) rfl))
   |true=>
    have n1:vS (ofI (nS r.1*ten p.toNat))=true:=dG V;obtain⟨q1,q2⟩:=ai6 n1 v2 v3;rw[aI] at q1 q2;have e:lR r p up=rMk (if up&&decide (nS r.1*ten p.toNat%nS r.2≠0) then nS r.1*ten p.toNat / nS r.2+1 else nS r.1*ten p.toNat / nS r.2) (ten p.toNat):=by
     unfold lR;rw[if_pos (by simp[Y,hp.1,hp.2,V])]
    exact acJ akh (n:=6) hW J (cRE.ids _) (by
     rw[vC,e];unfold ahM ajc;dsimp only;rw[t3];refine afe hr Y hp.1 hp.2 (ac (by rw[V3.2 ⟨v1,t2⟩,V];rfl) (ac (by rw[V3.2 ⟨n1,v2⟩,zds (show nS r.2≠0 by omega)];rfl) ?_));rw[aI,aI];have z:seq (ofI (nS r.1*ten p.toNat%nS r.2)) s0=decide (nS r.1*ten p.toNat%nS r.2=0):=by rw[m6 q2,aI]
     rw[z];refine ah (λh=> ?_) (λh=> ?_)
     ·have Z:up=true/\nS r.1*ten p.toNat%nS r.2≠0:=by
       cases up with
       |false=>cases h
       |true=>exact⟨rfl,by simpa using h⟩
      rw[if_pos (by simp[Z.1,Z.2])];have sq:=avJ V v3 Z.2;refine ac (by rw[V3.2 ⟨q1,by decide⟩,show nS s1=1 by decide,sq];rfl) ?_;rw[show nS s1=1 by decide];refine m7 (dG sq) t2 ?_;rw[show acj p=ofI (ten p.toNat) by rw[t1,afc hk],gM]
     ·have Z: ¬((up&&decide (nS r.1*ten p.toNat%nS r.2≠0))=true):=by
       cases up with
       |false=>simp
       |true=>simpa using h
      rw[if_neg Z];refine m7 q1 t2 ?_
      rw[show acj p=ofI (ten p.toNat) by rw[t1,afc hk],gM])
 ·have hb:bd9 p=true:=by
   unfold bd9;by_cases h:p<0
   ·rw[zds h];rfl
   ·rw[zdv h,zds (show p>30 by omega)];rfl
  have e:lR r p up=(noR,40):=by unfold lR;rw[show decide (0<=p/\p<=30)=false from zdv hp];simp
  exact acJ aiI (n:=6) hW J (cRE.ids _) (by rw[vA,e];exact ac (fU hr) (ac (by rw[hb];rfl) rfl))
theorem ahO (J:GlobU W):CtrOK prog W 100 (k2 cR cI cRE (λr _=>uzR r) acv):=bC λr p h=>by
 rw[<-ad7];exact ad8 J h (agG r p) (agH r p) (agI r p)
theorem akj (J:GlobU W):CtrOK prog W 101 (k2 cR cI cRE (λr _=>uzR r) rUp):=bC λr p h=>by
 rw[<-afS];exact ad8 J h (aja r p) (ajd r p) (aje r p)
def U9 (K:Prop):Prop:=Unit->True->K
def afT (a b c d:RS):zdQ:=je (gA a++gA b++gA c++gA d) 2
def ahS (a b c d:RS):Bool:=Nat.beq 81 81&&(Nat.ble 4 4&&Nat.beq 2 2&&true)&&Nat.beq 4 4&&eR.good uzR 4 (afT a b c d)
def ajg (t:RS->RS->Bool) (a b c d:RS):RS:=R7 t [NH (afT a b c d 1),NH (afT a b c d 2),NH (afT a b c d 3)] (NH (afT a b c d 0))
abbrev cIE:=cP cIv cI
theorem s8 (k:K):U9 K:=λ_ _=>k
theorem ahX {a b c d:RS} (J:uzR a=true) (V:uzR b=true) (Y:uzR c=true) (Z:uzR d=true):ahS a b c d=true:=by
 have g:eR.good uzR 4 (afT a b c d)=true:=El.good_iff.2 λe he=>by
  rcases(show e=0\/e=1\/e=2\/e=3 by omega) with rfl|rfl|rfl|rfl
  ·exact⟨rfl,J⟩
  ·exact⟨rfl,V⟩
  ·exact⟨rfl,Y⟩
  ·exact⟨rfl,Z⟩
 unfold ahS;rw[g,Nat.beq_refl];rfl
theorem afk (t:RS->RS->Bool) (a b c d:RS):ajg t a b c d=R7 t [b,c,d] a:=rfl
theorem vo {a b:Bool} (h:(a&&b)=true):a=true/\b=true:=by rwa[za2] at h
def BAt (b g:Nat) (t:zdK) (w:World):Prop:=
 ∃p v,(p= .pointer none\/p= .pointer (some ⟨b,0,none⟩))/\w.heap[b]? =some (.cells #[p,v] 110 (0,0))/\w.ownsRowF 0 5 1 v t.size (Lib.strCells t)/\v.ownBlock≠some b/\g=v.ownBlock.getD b/\g<w.heap.size/\ ∀es c,w.heap[g]? ≠some (.map es c)
theorem ac2 {v:Value} {xs:zdO} (h:w.ownsRowF 0 5 1 v n xs) {g:Nat} (hg:v.ownBlock=some g): ∃J V,w.heap[g]? =some (.cells J 5 V):=by
 rcases h.2 with ⟨rfl,_⟩|⟨g',cap,J,V,rfl,_,h1,_⟩
 ·cases hg
 ·simp only[Value.ownBlock,za1] at hg;subst hg;exact⟨J,V,h1⟩
theorem agS {b:Nat} {t:zdK} {p v:Value} (hp:p= .pointer none\/p= .pointer (some ⟨b,0,none⟩)) (h1:w.heap[b]? =some (.cells #[p,v] 110 (0,0))) (h2:w.ownsRowF 0 5 1 v t.size (Lib.strCells t)) (h3:v.ownBlock≠some b):BAt b (v.ownBlock.getD b) t w:=by
 refine⟨p,v,hp,h1,h2,h3,rfl, ?_, ?_⟩
 ·cases V:v.ownBlock with
  |none=>exact(zaq.1 h1).1
  |some g=>obtain⟨J,Y,hg⟩:=ac2 h2 V;exact(zaq.1 hg).1
 ·intro es c;cases V:v.ownBlock with
  |none=>show w.heap[b]? ≠_;rw[h1];simp
  |some g=>obtain⟨J,Y,hg⟩:=ac2 h2 V;show w.heap[g]? ≠_;rw[hg];simp
theorem adH (t s:zdK):Lib.strCells (t++s)=Lib.strCells t++Lib.strCells s:=by
 simp[Lib.strCells_eq,Lib.byteCells_append]
theorem afX {B:Nat} {e:TypeId} {v:Value} {xs:zdO} (h:w.ownsRowF B e 1 v n xs):w.ownsRowF 0 e 1 v n xs:=by
 refine⟨h.1, ?_⟩;rcases h.2 with h|⟨g,cap,J,V,h1,_,h2⟩
 ·exact .inl h
 ·exact .inr ⟨g,cap,J,V,h1,zaA _,h2⟩
variable {P:Program}
theorem agT (w:World) (t u ty e:TypeId) (i:TypeInfo) (ht:P.underlying t=some (.slice e)) (hu:P.underlying u=some .string) (hi:P.info? e=some i) (hz:i.zero=some (.int .u8 0)) (J:i.size=1) (Z:i.bytes=1)
 (v:Value) (n:Nat) (xs:zdO) (V:w.ownsRowF 0 e 1 v n xs) (s:zdK) (hlen:n+s.size<=1099511627776):
 ∃Y w',(Builtin.append_ #[t,u] ty #[v, .string s]).run P w= .ok Y w'/\w'.ownsRowF 0 e 1 Y (n+s.size) (xs++Lib.strCells s)/\w.grownBy w' v.ownBlock/\(Y.ownBlock=v.ownBlock\/ ∃g',Y.ownBlock=some g'/\w.heap.size<=g'):=by
 rcases V.2 with ⟨rfl,rfl⟩|⟨g,cap,cur,fz,rfl,hbg,hg,hfz,hnc,hcm,hcs,htake⟩
 ·obtain⟨Y,w',h1,h2,h3,_⟩:=Lib.run_append_own_stringF (P:=P) w w.heap.size t u ty e i ht hu hi hz J Z (.slice none 0 0) 0 xs ⟨V.1, .inl ⟨rfl,rfl⟩⟩ s (by unfold maxLen;omega) (by omega) (za0 _);refine⟨Y,w',h1,afX h2,h3, ?_⟩;rcases h2.2 with ⟨rfl,_⟩|⟨g',_,_,_,rfl,hb,_⟩
  ·exact .inl rfl
  ·exact .inr ⟨g',rfl,hb⟩
 ·obtain⟨Y,w',h1,h2,h3,_⟩:=Lib.run_append_own_stringF (P:=P) w 0 t u ty e i ht hu hi hz J Z _ n xs V s (by unfold maxLen;omega) (by omega) (zaA _);refine⟨Y,w',h1,h2,h3, ?_⟩;by_cases hroom:n+s.size<=cap
  ·have hr:=Lib.run_append_room_stringF (P:=P) w t u ty e i ht hu hi J g n cap cur fz hg (by simpa using hfz) s hroom (by rw[hcs];omega);rw[h1] at hr;simp only[Result.ok.injEq] at hr;rw[hr.1];exact .inl rfl
  ·have hxl:xs.length=n:=by simpa using V.1
   have holds: ∀j u,xs[j]? =some u->w.cell? ((⟨g,0,none⟩:Addr).add j)=some u:=V.cells (g:=g) rfl;have hr:=Lib.run_append_grow_string (P:=P) w t u ty e i (.int .u8 0) ht hu hi hz ⟨g,0,none⟩ n cap xs (by rw[J];simpa using hxl) holds s (by omega) (by omega) (by rw[Z];exact growslice_fits (by omega) (by omega));rw[h1] at hr;simp only[Result.ok.injEq] at hr;rw[hr.1];exact .inr ⟨_,rfl,za0 _⟩
theorem aid {ops:zdS} {rest:List Oper} {o:Oper} {a:Act} {Q:zdZ} (hgd:o.guard=none) (sl x:Operand) (t u:TypeId)
 (ho:o.op= .call {callee:= .builtin .append,args:= #[sl,x],argTypes:= #[t,u]}) (e:TypeId) (i:TypeInfo) (ht:P.underlying t=some (.slice e)) (hu:P.underlying u=some .string) (hi:P.info? e=some i) (hz:i.zero=some (.int .u8 0)) (J:i.size=1) (hby:i.bytes=1)
 (v:Value) (n:Nat) (xs:zdO) (hs:a.eval sl=v) (Z:w.ownsRowF 0 e 1 v n xs) (s:zdK) (hx:a.eval x= .string s) (Y:n+s.size<=1099511627776)
 (h: ∀V w',w'.ownsRowF 0 e 1 V (n+s.size) (xs++Lib.strCells s)->w.grownBy w' v.ownBlock->(V.ownBlock=v.ownBlock\/ ∃g',V.ownBlock=some g'/\w.heap.size<=g')->wpList P ops Q rest (a.put o.dst V) w'):wpList P ops Q (o::rest) a w:=by
 refine wpList_plain hgd λK hK=> ?_;obtain⟨V,w',hr,h2,h3,h4⟩:=agT (P:=P) w t u o.type e i ht hu hi hz J hby v n xs Z s Y;unfold Oper.wp execOp;simp only[ho,resolve,invoke,builtin,zdI,zdJ,zdH,List.map_toArray,zaK,zc5,hs,hx,hr];exact hK _ _ (h V w' h2 h3 h4)
theorem afY (b g:Nat) (t s:zdK) (w:World) (h:BAt b g t w) (hlen:t.size+s.size<=1099511627776):
 Calls prog 60 #[.pointer (some ⟨b,0,none⟩), .string s] w λe w'=>e= .returned (.tuple #[.int .i64 s.size, .nilIface])/\ ∃g',BAt b g' (t++s) w'/\(g'=g\/w.heap.size<=g')/\Kept2 b g w w':=by
 obtain⟨i0,hi,hz0,hz1,hz2⟩:=info_parts Ej;obtain⟨p,v,hp,hbk0,hown0,hne,rfl,hgl,_⟩:=h;have hcc:Calls prog 124 #[.pointer (some ⟨b,0,none⟩)] w λe w'=>e= .returned (.tuple #[])/\w'.heap[b]? =some (.cells #[.pointer (some ⟨b,0,none⟩),v] 110 (0,0))/\w'.ownsRowF 0 5 1 v t.size (Lib.strCells t)/\(∀k,k≠b->w'.heap[k]? =w.heap[k]?)/\w'.heap.size=w.heap.size/\w'.os=w.os/\w'.tape=w.tape/\w'.output=w.output:=by
  rcases hp with rfl|rfl
  ·refine(qL b w (by rw[Lib.cell_of_heap hbk0];rfl) (by simp[World.shape?,hbk0]) (Lib.frozen_of_heap hbk0 0)).mono ?_;rintro e w' ⟨rfl,rfl⟩;have hk: ∀k,k≠b->(w.setCell ⟨b,0,none⟩ (.pointer (some ⟨b,0,none⟩))).heap[k]? =w.heap[k]? :=λk hk=>Below.heap_setCell _ _ _ _ hk;refine⟨rfl,by simp[World.setCell,zdq,hbk0], ?_,hk,by simp[World.setCell],rfl,rfl,rfl⟩;exact hown0.kept (row:=some b) ⟨rfl,rfl,rfl,by simp[World.setCell],λk _ hk'=>hk k (λe=>hk' (by simp[e]))⟩ (Or.inr hne)
  ·refine(tc b w (by rw[Lib.cell_of_heap hbk0];rfl)).mono ?_;rintro e w' ⟨rfl,rfl⟩;exact⟨rfl,hbk0,hown0,λ_ _=>rfl,rfl,rfl,rfl,rfl⟩
 go_enter func60,ntmps60;go_wp2_with (go_at_call 124;refine hcc.mono ?_);rintro e w1 ⟨rfl,hbk,hown,hoth,hs1,ho1,ho2,ho3⟩;have c0:w1.cell? ⟨b,0,none⟩=some (.pointer (some ⟨b,0,none⟩)):=by rw[Lib.cell_of_heap hbk];rfl
 have c1:w1.cell? ⟨b,1,none⟩=some v:=by rw[Lib.cell_of_heap hbk];rfl
 go_wp2_with (at_builtin;refine aid rfl _ _ 108 9 rfl 5 i0 underlying108 underlying9 hi hz0 hz1 hz2 _ _ _ rfl hown s rfl hlen ?_);intro v' w2 hown' hgrow hwhere;have hlt:b<w1.heap.size:=(zaq.1 hbk).1;have hb2:w2.heap[b]? =some (.cells #[.pointer (some ⟨b,0,none⟩),v] 110 (0,0)):=by
  rw[hgrow.block b hlt (λe=>hne e.symm)];exact hbk
 have d0:w2.cell? ⟨b,0,none⟩=some (.pointer (some ⟨b,0,none⟩)):=by rw[Lib.cell_of_heap hb2];rfl
 have d1:w2.cell? ⟨b,1,none⟩=some v:=by rw[Lib.cell_of_heap hb2];rfl
 have f1:w2.frozen? ⟨b,1,none⟩=false:=Lib.frozen_of_heap hb2 1;obtain⟨ao,n',cap,rfl⟩: ∃ao n' cap,v'= .slice ao n' cap:=by
  rcases hown'.2 with ⟨hv,_⟩|⟨g,cap,cur,fz,hv,_⟩
  ·exact⟨_,_,_,hv⟩
  ·exact⟨_,_,_,hv⟩
 go_wp2
 go_ret2
 have hne':=Lib.ownBlock_neF hown' hb2 (by decide);have hown2:(w2.setCell ⟨b,1,none⟩ (.slice ao n' cap)).ownsRowF 0 5 1 (.slice ao n' cap) (t.size+s.size) (Lib.strCells t++Lib.strCells s):=
  hown'.kept (row:=some b) ⟨rfl,rfl,rfl,by simp[World.setCell],λk _ hk'=>Below.heap_setCell _ _ _ _ (λe=>hk' (by simp[e]))⟩ (Or.inr hne')
 have hsz:(t++s).size=t.size+s.size:=ByteArray.size_append;refine⟨rfl,(Value.slice ao n' cap).ownBlock.getD b,agS (p:= .pointer (some ⟨b,0,none⟩)) (.inr rfl) ?_ (by rw[hsz,adH t s];exact hown2) hne', ?_, ?_⟩
 ·simp[World.setCell,zdq,hb2]
 ·rcases hwhere with h|⟨g',h,h2⟩
  ·left;rw[h]
  ·right;rw[h];first|exact h2|(rw[<-hs1];exact h2)
 ·refine⟨?_, ?_, ?_, ?_,λk hk h1 h2=> ?_⟩
  ·exact hgrow.os.trans ho1
  ·exact hgrow.tape.trans ho2
  ·exact hgrow.output.trans ho3
  ·rw[<-hs1];simp[World.setCell];exact hgrow.size
  ·rw[Below.heap_setCell _ _ _ _ h1,hgrow.block k (by omega) (λe=>h2 (by rw[<-e];rfl)),hoth k h1]
theorem aie (b g:Nat) (t:zdK) (w:World) (h:BAt b g t w) (h1:1<=t.size):
 Calls prog 64 #[.pointer (some ⟨b,0,none⟩)] w λe w'=>e= .returned (.string t)/\Kept2 b g w w':=by
 obtain⟨p,v,hp,hbk,hown,hne,rfl,hgl,_⟩:=h;obtain⟨l,hl⟩: ∃l:List UInt8,t=⟨l.toArray⟩:=⟨t.data.toList,by simp⟩;subst hl;have hls:(⟨l.toArray⟩:zdK).size=l.length:=by simp[ByteArray.size]
 rw[hls] at hown h1;have hl0:l≠ []:=by intro e;subst e;simp at h1
 obtain⟨g,cap,cur,fz,rfl,_,hg,hfz,hnc,hcm,hcs,htake⟩: ∃g cap cur fz,v= .slice (some ⟨g,0,none⟩) l.length cap/\0<=g/\w.heap[g]? =some (.cells cur 5 fz)/\fz.2<=l.length*1/\l.length<=cap/\cap<=maxLen/\cur.size=cap*1/\cur.toList.take (l.length*1)=Lib.strCells ⟨l.toArray⟩:=by
  rcases hown.2 with ⟨_,hz⟩|⟨g,cap,cur,fz,hv,r⟩
  ·omega
  ·exact⟨g,cap,cur,fz,hv,r⟩
 have hbc:Lib.strCells ⟨l.toArray⟩=Lib.byteCells l:=by rw[Lib.strCells_eq]
 rw[hbc] at hown;have c1:w.drew.cell? ⟨b,1,none⟩=some (.slice (some ⟨g,0,none⟩) l.length cap):=by
  have:w.drew.heap[b]? =some (.cells #[p, .slice (some ⟨g,0,none⟩) l.length cap] 110 (0,0)):=hbk;rw[Lib.cell_of_heap this];rfl
 have hSD:(Builtin.unsafeSliceData_ #[108] 187 #[.slice (some ⟨g,0,none⟩) l.length cap]).run prog w.drew= .ok (.pointer (some ⟨g,0,none⟩)) w.drew:=
  Lib.run_unsafeSliceData_row _ _ _ _ _ _ (by omega)
 have hUS:(Builtin.unsafeString_ #[187,3] 9 #[.pointer (some ⟨g,0,none⟩), .int .i64 l.length]).run prog w.drew= .ok (.string ⟨l.toArray⟩) (w.drew.freeze ⟨g,0,none⟩ l.length):=by
  refine Lib.run_unsafeString_row w.drew 187 3 9 5 underlying187 (by kernel_rfl) g cur.size (by have hg':w.drew.heap[g]? =some (.cells cur 5 fz):=hg;simp[World.shape?,hg']) l hl0 (by omega) (by unfold maxLen at hcm;omega) ?_;intro j x hx;have:=hown.cells (g:=g) rfl j (.int .u8 x.toNat) (by simp[Lib.byteCells,hx]);exact this
 have hk:Kept2 b g w (w.drew.freeze ⟨g,0,none⟩ l.length):=by
  refine⟨?_, ?_, ?_, ?_,λk _ _ h2=> ?_⟩
  ·unfold World.freeze;split<;>rfl
  ·unfold World.freeze;split<;>rfl
  ·unfold World.freeze;split<;>rfl
  ·unfold World.freeze;split
   ·exact za0 _
   ·show w.heap.size<=(w.heap.modify g _).size;rw[Array.size_modify];exact za0 _
  ·unfold World.freeze;split
   ·rfl
   ·show (w.heap.modify g _)[k]? =_;rw[zdq,if_neg (Ne.symm h2)]
 have mixed:prog.follows .mixedOrders=true:=by kernel_rfl
 go_enter func64,ntmps64;go_wp2
 go_region_o
 all_goals (go_wp2;go_ret;exact⟨rfl,hk⟩)
def bdS:BD:=⟨60,64,110⟩
def afZ (f:FuncId):zdY:=λg k=>bif Nat.beq f g&&Nat.beq k 4294967295 then some (λ_=>{X:=Unit,inv:=λ_=>True,tm:=λ_=> [],mu:=λ_=>0,bd:=some bdS}) else none
theorem vK:ahr prog bdS:=⟨BAt,{
 zero:=by kernel_rfl
 fresh:=λw=>by
  have V:(w.alloc (.cells #[.pointer none, .slice none 0 0] 110)).heap[w.heap.size]? =some (.cells #[.pointer none, .slice none 0 0] 110 (0,0)):=by show (w.heap.push _)[w.heap.size]? =_;simp
  exact agS (p:= .pointer none) (v:= .slice none 0 0) (.inl rfl) V ⟨rfl, .inl ⟨rfl,rfl⟩⟩ (by simp[Value.ownBlock])
 keep:=λb g t w w' h h1 h2=>by
  obtain⟨p,v,hp,k1,k2,k3,rfl,Y,Z⟩:=h;refine⟨p,v,hp,by rw[h1];exact k1, ?_,k3,rfl, ?_,λes c=>by rw[h2];exact Z es c⟩
  ·refine⟨k2.1, ?_⟩;rcases k2.2 with h|⟨g,cap,J,fz,rfl,e1,e2,e3⟩
   ·exact .inl h
   ·exact .inr ⟨g,cap,J,fz,rfl,e1,by rw[<-e2];exact h2,e3⟩
  ·rcases zah (v.ownBlock.getD b) w'.heap.size with h|h
   ·exact h
   ·rw[zcD h] at h2;have:w.heap[v.ownBlock.getD b]? =some w.heap[v.ownBlock.getD b]:=by simp[Y]
    rw[this] at h2;cases h2
 lt:=λb g t w h=>by
  obtain⟨p,v,hp,k1,k2,k3,rfl,Y,Z⟩:=h;exact⟨(zaq.1 k1).1,Y,λes c=>⟨by rw[k1];simp,Z es c⟩⟩
 write:=afY
 str:=aie
 cw:=call60
 cs:=call64}⟩
def gF:List (FuncId×Ctr):=(100,k2 cR cI cRE (λr _=>uzR r) acv)::(101,k2 cR cI cRE (λr _=>uzR r) rUp)::gV2
theorem ap7:GEk gF:=(aiH.cons (λa W J=>akj J.1) call101).cons (λa W J=>ahO J.1) call100
theorem ap8:VU prog B F (λ_ _ _=>none):=λbl β w nx args C _ _ _ _ e=>by cases e
def gmF (a:Addr):ze0:= [(90,ai3 a),(90+1073741824,λ_ _ _=>none),(224,adD λx m=>decide (b9 x m<0)),(225,adD λx m=>decide (b9 x m>0))]
theorem apq:MEk a (gmF a):=(((MEk.nil.cons (adq (ahJ a))).cons (adq (ahI a))).cons λB hB=>ap8).cons λB hB=>ahG hB
def apA (a:Addr) (K:zdU):Prop:=U9 (af (decide (a=a)&&true&&true) (K (cIE.enc R6)))
def vvT (a:Addr) (x y:Iv) (K:zdU) (R:Prop):Prop:=af (uzI x) (ag (!vI x) (apA a K) (af (uzI y) (ag (!vI y) (apA a K) (U9 R))))
def ofT (a:Addr) (f:RS->RS->RS×Int) (p q:RS) (K:zdU) (R:Prop):Prop:=af (uzR p&&uzR q) (ag ((f p q).2==0) (U9 R) (apA a K))
def aq0 (a:Addr) (f:RS->RS->RS×Int) (p q r s:RS) (K:zdU):Prop:=ofT a f p q K (ofT a f r s K (K (cIE.enc (((f p q).1,(f r s).1),0))))
def apR (a:Addr) (f:RS->RS->RS×Int) (x y:Iv) (K:zdU):Prop:=
 ofT a f x.1 y.1 K (ofT a f x.1 y.2 K (ofT a f x.2 y.1 K (ofT a f x.2 y.2 K (af (ahS (f x.1 y.1).1 (f x.1 y.2).1 (f x.2 y.1).1 (f x.2 y.2).1) (U9 (af (ahS (f x.1 y.1).1 (f x.1 y.2).1 (f x.2 y.1).1 (f x.2 y.2).1) (U9
  (K (cIE.enc ((ajg (λx m=>decide (b9 x m<0)) (f x.1 y.1).1 (f x.1 y.2).1 (f x.2 y.1).1 (f x.2 y.2).1,ajg (λx m=>decide (b9 x m>0)) (f x.1 y.1).1 (f x.1 y.2).1 (f x.2 y.1).1 (f x.2 y.2).1),0))))))))))
theorem aqC (a:Addr) (x y:Iv) (K:zdU):acb a gF (gmF a) (afZ 84) 8 27 [cIv.enc x,cIv.enc y] K=vvT a x y K (aq0 a fZ x.1 y.1 x.2 y.2 K):=by kernel_rfl
theorem aqD (a:Addr) (x y:Iv) (K:zdU):acb a gF (gmF a) (afZ 86) 8 28 [cIv.enc x,cIv.enc y] K=vvT a x y K (aq0 a iF x.1 y.2 x.2 y.1 K):=by kernel_rfl
theorem aqE (a:Addr) (x y:Iv) (K:zdU):acb a gF (gmF a) (afZ 88) 8 29 [cIv.enc x,cIv.enc y] K=vvT a x y K (apR a ale x y K):=by kernel_rfl
theorem aqF (a:Addr) (x y:Iv) (K:zdU):acb a gF (gmF a) (afZ 88) 8 30 [cIv.enc x,cIv.enc y] K=vvT a x y K (af (uzI y&&uzR zR) (ag (!auf y zR) (U9 (apR a cA x y K)) (apA a K))):=by kernel_rfl
def aqW (a:Addr) (x:Iv) (p:Int) (K:zdU):Prop:=af (uzI x) (ag (!vI x) (apA a K) (U9 (af (uzR x.1) (ag ((acv x.1 p).2==0) (U9 (af (uzR x.2) (ag ((rUp x.2 p).2==0) (U9 (K (cIE.enc (((acv x.1 p).1,(rUp x.2 p).1),0)))) (apA a K)))) (apA a K)))))
theorem aqG (a:Addr) (x:Iv) (p:Int) (K:zdU):acb a gF (gmF a) (afZ 99) 8 35 [cIv.enc x,cI.enc p] K=aqW a x p K:=by kernel_rfl
def akl (cs:zdN):Iv:=match cs with
 | [.val (.string a), .val (.string b), .val (.string c), .val (.string d)]=>((a,b),(c,d))
 |_=>noI
def eI:El Iv:={sz:=4,sv:=yl,of:=akl,d:=noI,rt:=λ_=>rfl,ids:=λ_=>rfl,len:=λ_=>rfl,one:=by decide}
def afl (I:Int->Prop) (N:Int):zdY:=λf k=>bif Nat.beq f 82&&Nat.beq k 2 then some (λA=>{X:=Int,inv:=I,tm:=λi=> [(8, .val (.int .i64 i))],mu:=λi=>(N - i).toNat,keep:= [0,1,7]}) else none
theorem ah3 (a:Addr) (I:Int->Prop) (N:Int) (l:List Iv) (Q:zdU):XC a gV1 [] (afl I N) 5 25 [.slc 0 0 l.length, .fn (.func 23) [] []] [eI.old l] (Go.Sy.okK λr _ _ _=>Q r)=
 LH I N (.slc 0 0 l.length) (.fn (.func 23) [] []) l.length (λz Q=>af (uzI (eI.nth l (0+z.toNat))) (Q (!vI (eI.nth l (0+z.toNat))))) (λz=>Q (cB.enc (decide (z≥0)))):=by kernel_rfl
def agK:MCtr:=λbl _ args=>match args with
 | [s, .fn (.func g) [] []]=>bif Nat.beq g 23 then(match vW bl 4 s with
   |some (b,_,n,c)=>some {X:=Unit,pre:=b&&(Nat.ble n 1000000&&eI.good uzI n c),spec:=λ_=>True,out:=λ_=>cB.enc (!(eI.list n c).all vI),ex:=λ_=>⟨(),trivial⟩}
   |none=>none) else none
 |_=>none
variable {a:Addr}
theorem agL: ∀B:Base,GlobEB a B->VU prog B 25 agK:=agE ae9 MEk.nil λbl nx args C V hp=>by
 unfold agK at V;split at V
 ·rename_i s g;cases hg:Nat.beq g 23 with
  |false=>rw[hg] at V;cases V
  |true=>
   obtain rfl:=zab hg;rw[hg,zdu] at V;split at V
   ·rename_i b o n c hs;simp only[za1] at V;subst V;simp only[za2] at hp;obtain⟨rfl,Z,J⟩:=hp;have Y:(eI.list n c).length<2^62:=by rw[El.list_length];have:=zak Z;omega
    obtain⟨h1,h2⟩:=cq (f:=rnF [o] [] nx) hs J;refine⟨[o], [eI.old (eI.list n c)], [.slc 0 0 (eI.list n c).length, .fn (.func 23) [] []],afl (λi=>0<=i/\i<=(eI.list n c).length/\be (λu=> !vI u) (eI.list n c) 0=be (λu=> !vI u) ((eI.list n c).drop i.toNat) i) (eI.list n c).length,5,aw h1 trivial,bH (by simp[cN,El.old]),cd (by simp[El.old,BK.map]), ?_, ?_⟩
    ·simp only[SV.rns,h2 0 rfl];rfl
    ·refine kbE () trivial rfl (r:=cB.enc (!(eI.list n c).all vI)) rfl rfl rfl rfl (by simp[cN,El.old]) rfl ?_;rw[ah3];refine pJ noI Y (λz Q h0 h1 h=> ?_) ?_
     ·rw[za7];have:=El.good_list J _ (bw (d:=noI) (l:=eI.list n c) (e:=z.toNat) (by omega));exact ac this h
     ·rw[pI _ _ _ (zat _),CP]
   ·cases V
 ·cases V
def akn:ze0:= [(19,pN),(25,agK)]
theorem ah4:MEk a akn:=(MEk.nil.cons agL).cons λB hB=>lZ B hB.gU
abbrev EI:=Int×List Iv
abbrev PWI:=Int×Iv
def aji (A:AS):Iv:=match A.tm 7 with
 | .v (.slc i _ _)=>match A.bl i,Bh A (kA A 10) 24 with
   |some B, .val (.int _ l)=>akl (B.get (0+l.toNat))
   |_,_=>noI
 |_=>noI
def agM (I:EI->Prop) (N:Int) (J:Iv->Int->PWI->Prop):zdY:=λf k=>bif Nat.beq f 36 then(bif Nat.beq k 4 then some (λA=>{X:=EI,inv:=I,tm:=λx=> [(19, .val (.int .i64 x.1)),(7, .slc A.nx 0 x.2.length)],gr:= [{src:= .slot 7,sz:=4,n:=λx=>x.2.length,get:=λx=>eI.get x.2}],cleanG:=λg hg x e=>by simp at hg;subst hg;exact eI.ids _,mu:=λx=>(N - x.1).toNat,keep:= [2,3,4,6,8,17,18]})
 else bif Nat.beq k 23 then some (λA=>{X:=PWI,inv:=J (aji A) (P7 A 119),tm:=λx=> [(120, .val (.int .i64 x.1))],st:= [(kA A 11,λx=>yl x.2)],mu:=λx=>(4 - x.1).toNat,keep:= [2,3,4,6,7,8,10,11,17,18,19,119]}) else none) else none
def agO:SV:= .tup [.agg (yl noI), .val (.int .i64 90)]
def ako (n:Nat) (K:Prop):Prop:=af (decide (0<1)&&decide (0+1<=1)&&decide (n<=n)&&decide ((n+1)*64<=140737488355328)&&true) K
def akp (ni nn:Nat) (Q:Prop):Prop:=tvE (.slc 2 0 ni)/\cg 30/\cg 31/\cg 32/\cg 38/\tvE (.slc 1 0 nn)/\tvE (cI.enc (nn:Int))/\Q
def akq (q ni nn:Nat) (p:Int) (n:Nat) (us:zdQ) (z:EI):Prop:=
 (TV.v (cI.enc p)=TV.v (cI.enc z.1)/\TV.v (.slc q 0 n)=TV.v (.slc q 0 z.2.length)/\akp ni nn True)/\(True/\(True/\(af (Nat.beq 4 4&&decide (z.2.length<=n)) (∀e,e<z.2.length->us e=eI.get z.2 e)/\True)))
def ajj (ni nn:Nat) (i:Int) (n:Nat) (m:Int) (p:Int) (v:Iv) (z:PWI):Prop:=
 (TV.v (cI.enc p)=TV.v (cI.enc z.1)/\tvE (.slc 2 0 ni)/\cg 30/\cg 31/\cg 32/\tvE (.slc 44 0 n)/\cg 38/\cg 48/\cg 50/\tvE (.slc 1 0 nn)/\tvE (cI.enc (nn:Int))/\tvE (cI.enc i)/\tvE (cI.enc m)/\True)/\(True/\((yl v=yl z.2/\True)/\True))
section
variable {a:Addr} {K:zdU} {R:Prop}
theorem F2 (k:K (cIE.enc R6)):apA a K:=λ_ _=>ac (by rw[zds (rfl:a=a)];rfl) k
variable {x y:Iv}
theorem apv (V:uzI x=true) (Y:uzI y=true) (k:(vI x&&vI y)=false->K (cIE.enc R6)) (r:(vI x&&vI y)=true->R):vvT a x y K R:=by
 refine ac V (ah (λh=>F2 (k ?_)) (λh=>ac Y (ah (λJ=>F2 (k ?_)) (λJ=>s8 (r ?_)))))
 ·rw[show vI x=false by simpa using h];rfl
 ·rw[show vI y=false by simpa using J,Bool.and_false]
 ·rw[show vI x=true by simpa using h,show vI y=true by simpa using J];rfl
variable {f:RS->RS->RS×Int} {p q:RS}
theorem apl (hp:uzR p=true) (hq:uzR q=true) (r:(f p q).2=0->R) (k:((f p q).2==0)=false->K (cIE.enc R6)):ofT a f p q K R:=
 ac (by rw[hp,hq];rfl) (ah (λh=>s8 (r (by simpa using h))) (λh=>F2 (k h)))
theorem apS {r s:RS} (hp:uzR p=true) (hq:uzR q=true) (V:uzR r=true) (Y:uzR s=true) (k:K (cIE.enc (ad3 (f p q) (f r s)))):aq0 a f p q r s K:=by
 unfold ad3 at k;refine apl hp hq (λe1=>apl V Y (λJ=> ?_) (λJ=> ?_)) (λe1=> ?_)
 ·rw[e1,J] at k;exact k
 ·rw[e1,J] at k;exact k
 ·rw[e1] at k;exact k
theorem apB (Y: ∀a b,uzR (f a b).1=true) (hx:uzI x=true) (hy:uzI y=true) (k:K (cIE.enc (ae6 (f x.1 y.1) (f x.1 y.2) (f x.2 y.1) (f x.2 y.2)))):apR a f x y K:=by
 obtain⟨Z,x2⟩:=alu hx;obtain⟨y1,y2⟩:=alu hy;unfold ae6 at k;unfold apR;rw[ahX (Y _ _) (Y _ _) (Y _ _) (Y _ _),afk,afk,ad5,ad6];refine apl Z y1 (λe1=>apl Z y2 (λJ=>apl x2 y1 (λV=>apl x2 y2 (λe4=>s8 (s8 ?_)) (λe4=> ?_)) (λV=> ?_)) (λJ=> ?_)) (λe1=> ?_)
 ·rw[e1,J,V,e4] at k;exact k
 ·rw[e1,J,V,e4] at k;exact k
 ·rw[e1,J,V] at k;exact k
 ·rw[e1,J] at k;exact k
 ·rw[e1] at k;exact k
end
abbrev kIF (f:Iv->Iv->Iv×Int):Ctr:=k2 cIv cIv cIE (λx y=>uzI x&&uzI y) f
abbrev arj (f:Iv->Int->Iv×Int):Ctr:=k2 cIv cI cIE (λx _=>uzI x) f
variable {a:Addr} {W:World}
theorem aqH (Y:GlobE a W):CtrOK prog W 27 (kIF agy):=bC λx y h=>by
 obtain⟨J,V⟩:=vo h;obtain⟨Z,x2⟩:=alu J;obtain⟨y1,y2⟩:=alu V;refine l0 ap7 apq Y (ann:=afZ 84) (n:=8) de (cIE.ids _) ?_;rw[aqC];exact apv (K:=λr=>r=_) J V (λe=>by unfold agy;rw[e];rfl) (λe=>apS Z y1 x2 y2 (by unfold agy;rw[e];rfl))
theorem aqI (Y:GlobE a W):CtrOK prog W 28 (kIF agz):=bC λx y h=>by
 obtain⟨J,V⟩:=vo h;obtain⟨Z,x2⟩:=alu J;obtain⟨y1,y2⟩:=alu V;refine l0 ap7 apq Y (ann:=afZ 86) (n:=8) de (cIE.ids _) ?_;rw[aqD];exact apv (K:=λr=>r=_) J V (λe=>by unfold agz;rw[e];rfl) (λe=>apS Z y2 x2 y1 (by unfold agz;rw[e];rfl))
theorem aqJ (Y:GlobE a W):CtrOK prog W 29 (kIF adC):=bC λx y h=>by
 obtain⟨J,V⟩:=vo h;refine l0 ap7 apq Y (ann:=afZ 88) (n:=8) de (cIE.ids _) ?_;rw[aqE];exact apv (K:=λr=>r=_) J V (λe=>by unfold adC;rw[e];rfl) (λe=>apB gI J V (by unfold adC;rw[e];rfl))
theorem aqK (Y:GlobE a W):CtrOK prog W 30 (kIF ac7):=bC λx y h=>by
 obtain⟨V,J⟩:=vo h;refine l0 ap7 apq Y (ann:=afZ 88) (n:=8) de (cIE.ids _) ?_;rw[aqF];refine apv (K:=λr=>r=_) V J (λe=>by unfold ac7;rw[e];rfl) (λe=>ac (by rw[J,show uzR zR=true by decide];rfl) (ah (λh0=>s8 (apB lY V J ?_)) (λh0=>F2 ?_)))
 ·unfold ac7;rw[e,h0];rfl
 ·unfold ac7;rw[e,show (!auf y zR)=false from h0];rfl
theorem aqL (Y:GlobE a W):CtrOK prog W 35 (arj aeA):=bC λx p h=>by
 obtain⟨Z,x2⟩:=alu h;refine l0 ap7 apq Y (ann:=afZ 99) (n:=8) de (cIE.ids _) ?_;rw[aqG];unfold aqW;refine ac h (ah (λJ=>F2 (K:=λr=>r=_) ?_) (λJ=>s8 (ac Z (ah (λe1=>s8 (ac x2 (ah (λV=>s8 ?_) (λV=>F2 (K:=λr=>r=_) ?_)))) (λe1=>F2 (K:=λr=>r=_) ?_)))))
 ·unfold aeA;rw[show vI x=false by simpa using J];rfl
 ·unfold aeA ad3;rw[show vI x=true by simpa using J,e1,V];rfl
 ·unfold aeA ad3;rw[show vI x=true by simpa using J,e1,V];rfl
 ·unfold aeA ad3;rw[show vI x=true by simpa using J,e1];rfl
def ap9 (r:Iv×Int) (bad:Prop) (K:Iv->Prop):Prop:=ag (r.2 !=0) bad (K r.1)
def apr (I:EI->Prop) (N:Int) (pl:Int) (q ni nn:Nat) (i:Int) (vs:List Iv) (bad:Prop) (v:Iv):Prop:=af (uzI v) (ap9 (aeA v pl) bad λw=>ako vs.length (af (inR .i64 (i+1)) (∃z:EI,I z/\((N - z.1).toNat<(N - i).toNat/\akq q ni nn (i+1) (vs.length+1) (ald (eI.get vs) (λe=>((yl w).drop (e*4)).take 4) vs.length 0) z))))
def apW (vs:List Iv) (x:Nd) (f:Iv->Iv->Iv×Int) (bad:Prop) (K:Iv->Prop):Prop:=
 eO vs.length x.l (eO vs.length x.r (af (uzI (mb noI vs (0+x.l.toNat))&&uzI (mb noI vs (0+x.r.toNat))) (ap9 (f (mb noI vs (0+x.l.toNat)) (mb noI vs (0+x.r.toNat))) bad K)))
def aqX (J:Iv->Int->PWI->Prop) (ni nn:Nat) (i:Int) (vs:List Iv) (x:Nd) (bad:Prop) (K1 K2:Iv->Prop):Prop:=
 af (inR .i64 (-x.n)) (∃z0:PWI,J (mb noI vs (0+x.l.toNat)) (jH x.n) z0/\(ajj ni nn i vs.length (jH x.n) 0 (ptI rI) z0/\ ∀z:PWI,J (mb noI vs (0+x.l.toNat)) (jH x.n) z->ag (decide (z.1<jH x.n))
  (eO vs.length x.l (af (uzI z.2&&uzI (mb noI vs (0+x.l.toNat))) (ap9 (adC z.2 (mb noI vs (0+x.l.toNat))) bad λw=>af (inR .i64 (z.1+1)) (∃z':PWI,J (mb noI vs (0+x.l.toNat)) (jH x.n) z'/\((4 - z'.1).toNat<(4 - z.1).toNat/\ajj ni nn i vs.length (jH x.n) (z.1+1) w z')))))
  (ag (decide (x.n<0)) (af (uzI (ptI rI)&&uzI z.2) (ap9 (ac7 (ptI rI) z.2) bad K1)) (K2 z.2))))
def auU (n:Nat):Nat->Nat
 |0=>0
 |k+1=>if (k+1)*(k+1)<=n then k+1 else auU n k
def pz (n:Nat):Nat:=auU n n
theorem auE {n r:Nat} (h1:r*r<=n) (h2:n<(r+1)*(r+1)): ∀k,r<=k->auU n k=r
 |0,h=>by
  obtain rfl:r=0:=by omega
  rfl
 |k+1,h=>by
  unfold auU;by_cases e:r=k+1
  ·subst e;rw[if_pos h1]
  ·have J:r+1<=k+1:=by omega
   have:=zb4 J J;rw[if_neg (by omega)];exact auE h1 h2 k (by omega)
variable {n r:Nat}
theorem auF (h1:r*r<=n) (h2:n<(r+1)*(r+1)):pz n=r:=by
 refine auE h1 h2 n ?_;rcases zbK r with h|h
 ·omega
 ·exact zac (Nat.le_mul_of_pos_left r h) h1
theorem avz (a b:Nat):4*(a*b)<=(a+b)*(a+b):=by
 rcases Nat.le_total a b with h|h
 ·obtain⟨d,rfl⟩:=zd9 h;have:(a+(a+d))*(a+(a+d))=4*(a*(a+d))+d*d:=by grind
  omega
 ·obtain⟨d,rfl⟩:=zd9 h;have:(b+d+b)*(b+d+b)=4*((b+d)*b)+d*d:=by grind
  omega
theorem aug (J:0<r):n<((r+n / r) / 2+1)*((r+n / r) / 2+1):=by
 have h1:n<r*(n / r+1):=by
  have:=Nat.lt_mul_div_succ n J;rwa[zao,zbZ] at this ⊢
 generalize n / r=q at*
 have h2:r+(q+1)<=2*((r+q) / 2+1):=by omega
 generalize (r+q) / 2+1=t at*
 have h3:=avz r (q+1);have h4:=zb4 h2 h2;have h5:2*t*(2*t)=4*(t*t):=by grind
 omega
theorem auz (h:r<=(r+n / r) / 2):r*r<=n:=by
 have h1:r<=n / r:=by omega
 exact zac (zb5 r h1) (Nat.mul_div_le n r)
theorem auP (V:0<n) (J:0<r):0<(r+n / r) / 2:=by
 have:=aug (n:=n) J;rcases zbK ((r+n / r) / 2) with h|h
 ·rw[h] at this;omega
 ·exact h
theorem auG:pz n*pz n<=n/\n<(pz n+1)*(pz n+1):=by
 have: ∃r,r*r<=n/\n<(r+1)*(r+1):=by
  have key: ∀k,n<(k+1)*(k+1)-> ∃r,r*r<=n/\n<(r+1)*(r+1):=by
   intro k
   induction k with
   |zero=>intro h;exact⟨0,by omega,h⟩
   |succ k J=>
    intro h;by_cases e:(k+1)*(k+1)<=n
    ·exact⟨k+1,e,h⟩
    ·exact J (by omega)
  exact key n (by have:=Nat.le_mul_of_pos_left (n+1) (show 0<n+1 by omega);omega)
 obtain⟨r,h1,h2⟩:=this;rw[auF h1 h2];exact⟨h1,h2⟩
def kq (a:zdK):ByteArray×Int:=bif vS a&&decide (0<=nS a) then(ofI (pz (nS a).natAbs),0) else(ByteArray.empty,30)
theorem auv {n:Nat} (h:n<BIG):pz n<BIG:=by
 have h1:=(auG (n:=n)).1;rcases zbK (pz n) with h0|h0
 ·rw[h0];decide
 ·exact zaS (zac (Nat.le_mul_of_pos_left _ h0) h1) h
theorem auH (k:Nat):ae 10000 (10000^k)=List.replicate k 0++ [1]:=by
 induction k with
 |zero=>exact gW (by decide) (by decide) (by decide)
 |succ k J=>
  have hp:0<10000^k:=Nat.pow_pos (by decide);have e:10000^(k+1)=0+10000*10000^k:=by rw[zaw];omega
  rw[e,zV (by decide) (by decide) (by omega),J];rfl
theorem auQ {x k:Nat} (h:(ae 10000 x).length<=2*k):x<(10000^k+1)*(10000^k+1):=by
 have h1:=(ai (B:=10000) (by decide) x (2*k)).1 h;rw[show 10000^(2*k)=10000^k*10000^k by rw[<-zbw];congr 1;omega] at h1;have:=zb4 (zaT (10000^k)) (zaT (10000^k));exact zam h1 this
def avA (x n1:Nat) (a1:Option Addr) (k1 b:Nat) (w:World) (rv:Value) (wr:World):Prop:=
 ∃(r:Nat) (p:Option Addr) (c:Nat),rv= .slice p (ae 10000 r).length c/\Rd am wr rv (ae 10000 r)/\Blk wr b #[.bool false, .slice a1 n1 k1] 203/\Rd am wr (.slice a1 n1 k1) (ae 10000 x)/\Below w.heap.size w wr/\0<r/\x<(r+1)*(r+1)/\(ae 10000 r).length<=60
theorem au6 (nb:Bool) (x:Nat) (hxB:x<BIG) (a:zdK) (w:World) (hg:Glob w)
 (hB:Hid (∀w,Calls prog 159 #[.string a, .string ⟨#[48]⟩] w λe w'=> ∃v1 v2,e= .returned (.tuple #[.agg #[.bool false,v1], .agg #[.bool nb,v2], .bool true])/\Rd am w' v1 (ae 10000 x)/\Rd am w' v2 (ae 10000 0)/\From w.heap.size v1/\From w.heap.size v2/\Below w.heap.size w w')):
 Calls prog 158 #[.string a] w λe w'=>e= .returned (.tuple #[.string (ofI (pz x)), .int .i64 0])/\Below w.heap.size w w':=by
 have hmx:prog.follows .mixedOrders=true:=by kernel_rfl
 obtain⟨S,hS⟩: ∃S,ofI ((pz x:Nat):Int)=S:=⟨_,rfl⟩;have HRt:Hid (Yk.chkI (sgn false (pz x))=(S,0)):=zdF (by rw[j6 (by rw[cz];exact auv hxB),<-hS];rfl);have HS:=zdF hS;rw[hS];clear hS;have Hg:=zdF hg;have Hla:=zdF (bg hxB);obtain⟨n1,e1⟩: ∃n,(ae 10000 x).length=n:=⟨_,rfl⟩;have E1:=zdF e1;have HxB:=zdF hxB;clear hg e1 hxB;go_enter func158,ntmps158;go_wp2_with fail
 (with_reducible refine(hB.out _).mono ?_);rintro e w1 ⟨v1,v2,rfl,hr1,hr2,hf1,hf2,hb1⟩
 obtain⟨a1,k1,rfl,_⟩:=hr1.open';obtain⟨a2,k2,rfl,_⟩:=hr2.open';rw[E1.out] at hr1;rw[aF] at hr2;simp only[E1.out,aF,za9];have H1:=zdF hr1;have HB:=zdF hb1;have hs1:=hb1.size;clear hr1 hr2 hf1 hf2 hb1;have hbl: ∀o1 o2,Below w1.heap.size w1 ((w1.alloc o1).alloc o2):=λo1 o2=>((zdG _ _).alloc (za0 _) _).alloc (by simp) _;have Hbl:=zdF hbl;clear hbl;have hn1:n1<=50:=by rw[<-E1.out];exact Hla.out
 obtain⟨r1,r2⟩:=atU w1 #[.bool false, .slice a1 n1 k1] #[.bool nb, .slice a2 0 k2] 203;have R1:=zdF r1;have RB:=zdF (Hbl.out (.cells #[.bool false, .slice a1 n1 k1] 203) (.cells #[.bool nb, .slice a2 0 k2] 203));clear r1 r2
 go_wp2_with (first
  |(at_make;refine aca (enc:=am) (e:=3) (B:=w1.heap.size+2) rfl _ _ 201 rfl 0 8 underlying201 gE rfl .i64 .i64 _ _ ((n1+1) / 2) rfl rfl (by omega) (by omega) (by omega) (by decide) (by simp) ?_;intro w2 hown2 hB2;simp only[World.size_alloc] at hown2 hB2)
  |(at_builtin;refine AD rfl _ _ rfl rfl (hown2.alloc _) w2.heap.size 1 _ rfl (aP _ _ _) 1 rfl (by rw[zcx];omega) (by have:=hB2.size;simp only[World.size_alloc] at this ⊢;omega) ?_;intro v' w3 hown3 hB3))
 have s2:=hB2.size;have s3:=hB3.size;simp only[World.size_alloc] at s2 s3;have HB13:=zdF (((RB.out.trans (hB2.mono (by omega))).alloc (by omega) _).trans (hB3.mono (by omega)));have HBl:=zdF (((R1.out.below hB2 (by omega)).alloc _).below hB3 (by omega));have HX:=zdF (H1.out.below HB13.out);obtain⟨g,cap,rfl,_,_⟩:=hown3.some_of;have hr3:=hown3.rd;have hlen:(List.replicate ((n1+1) / 2) 0).length+1=(ae 10000 (10000^((n1+1) / 2))).length:=by rw[auH];simp
 rw[<-auH,hlen] at hr3;rw[hlen];have hl60:(ae 10000 (10000^((n1+1) / 2))).length<=60:=by rw[<-hlen,zcx];omega
 have HBw:=zdF (HB.out.trans (HB13.out.mono hs1));have hst:x<(10000^((n1+1) / 2)+1)*(10000^((n1+1) / 2)+1):=auQ (by rw[E1.out];omega);have Hst:=zdF (And.intro hl60 (And.intro hst (And.intro hr3 (Nat.pow_pos (n:=(n1+1) / 2) (show 0<10000 by decide)))));generalize 10000^((n1+1) / 2)=r0 at*
 clear hown3 hown2 hB2 hB3 R1 RB Hbl H1 HB hr3 HB13 hlen hl60 hst
 go_loopw [7] (λrv wr=>avA x n1 a1 k1 w1.heap.size w rv wr) (λrv wr=>G5 wr rv)
 case atStart=>exact⟨r0,_,_,rfl,Hst.out.2.2.1,HBl.out,HX.out,HBw.out,Hst.out.2.2.2,Hst.out.2.1,Hst.out.1⟩
 case round=>
  obtain⟨r,p,c,rfl,hr,hblk,hx,hB4,hr0,hxr,hlr⟩:=hrel;have Hr:=zdF hr;have Hbk:=zdF hblk;have Hx:=zdF hx;have HB4:=zdF hB4;have Hr0:=zdF (And.intro hr0 (And.intro hxr hlr));have hs4:=hB4.size;obtain⟨u1,u2,_,_,hblt⟩:=bN hblk;clear hr hblk hx hB4 hr0 hxr hlr;by_cases hz:n1=0
  ·subst hz;have hx0:x=0:=(aZ (B:=10000) (by decide)).1 (zau E1.out);have h0:ofI (pz x)=(⟨#[48]⟩:zdK):=by rw[hx0];decide+kernel
   rw[HS.out] at h0;go_wp2
   go_ret2
   exact⟨by rw[h0];rfl,HB4.out⟩
  ·have hz0:0<n1:=by omega
   obtain⟨nr,hnr⟩: ∃n,(ae 10000 r).length=n:=⟨_,rfl⟩;have Hnr:=zdF hnr;rw[hnr] at Hr;simp only[hnr];clear hnr;have hx60:(ae 10000 x).length<=400:=by have:=Hla.out;omega
   have hr60:(ae 10000 r).length<=400:=by have:=Hr0.out.2.2;omega
   have Hx60:=zdF (And.intro hx60 hr60);clear hx60 hr60;go_wp2_with fail;refine(iW x r Hr0.out.1 _ _ _ Hx.out Hr.out Hx60.out.1 Hx60.out.2 (GX Hx.out)).mono ?_;rintro e W2 ⟨v3,v4,rfl,hr3,hr4,hf3,hf4,hb2⟩;obtain⟨a3,k3,rfl,_⟩:=hr3.open';obtain⟨a4,k4,rfl,_⟩:=hr4.open';have HR3:=zdF hr3;have Hr2:=zdF (Hr.out.below hb2);have Hx2:=zdF (Hx.out.below hb2);have Hk2:=zdF (Hbk.out.below hb2 hblt);have HB2:=zdF (HB4.out.trans (hb2.mono hs4));have hs2:=hb2.size;clear hr3 hr4 hf3 hf4 hb2;go_wp2_with fail;refine(iV r (x / r) _ _ _ Hr2.out HR3.out (by have:=Hx60.out.2;omega) (by have:=zaN x r;have:=aD (B:=10000) (by decide) this;have:=Hx60.out.1;omega)).mono ?_;rintro e W3 ⟨v5,rfl,hr5,hf5,hb3⟩;obtain⟨a5,k5,rfl,_⟩:=hr5.open';have HR5:=zdF hr5;have Hr3:=zdF (Hr2.out.below hb3);have Hx3:=zdF (Hx2.out.below hb3);have Hk3:=zdF (Hk2.out.below hb3 (by omega));have HB3:=zdF (HB2.out.trans (hb3.mono (by omega)));have hs3:=hb3.size;have hl2:Rd am (W3.alloc (.cells #[.int .i64 2] 3)) (.slice (some ⟨W3.heap.size,0,none⟩) 1 1) (ae 10000 2):=by
    rw[gW (B:=10000) (d:=2) (by decide) (by decide) (by decide)];exact(OwnL.lit1 W3 2 rfl).rd
   have HL2:=zdF hl2;have hw5:(ae 10000 (r+x / r)).length<=400:=by
    have h1:=zaN x r;have h2:=Hr0.out.2.2;have h3:=(ai (B:=10000) (by decide) r 60).1 h2;have h4:=(ai (B:=10000) (by decide) x 50).1 Hla.out;have h5:r+x / r<10000^61:=by
     have:(10000:Nat)^61=10000^60*10000:=zaw ..;have:(10000:Nat)^60=10000^50*10000^10:=by rw[<-zbw]
     have:0<(10000:Nat)^50:=Nat.pow_pos (by decide);have:(10000:Nat)^50<=10000^60:=zb7 (by decide) (by decide);omega
    have:=(ai (B:=10000) (by decide) (r+x / r) 61).2 h5;omega
   have Hw5:=zdF hw5;clear hr5 hf5 hb3 hl2 hw5;go_wp2_with fail;refine(iW (r+x / r) 2 (by decide) _ _ _ (HR5.out.below ((zdG _ W3).alloc (za0 _) _)) HL2.out Hw5.out (by rw[gW (B:=10000) (d:=2) (by decide) (by decide) (by decide)];decide) (GX (HR5.out.below ((zdG _ W3).alloc (za0 _) _)))).mono ?_;rintro e W4 ⟨v6,v7,rfl,hr6,hr7,hf6,hf7,hb4⟩;obtain⟨a6,k6,rfl,_⟩:=hr6.open';obtain⟨a7,k7,rfl,_⟩:=hr7.open';have ha3:Below W3.heap.size W3 (W3.alloc (.cells #[.int .i64 2] 3)):=(zdG _ W3).alloc (za0 _) _;have hs4':=hb4.size;simp only[World.size_alloc] at hs4';have hb34:Below W3.heap.size W3 W4:=ha3.trans (hb4.mono (by simp));have HR6:=zdF hr6;have Hr4:=zdF (Hr3.out.below hb34);have Hx4:=zdF (Hx3.out.below hb34);have Hk4:=zdF (Hk3.out.below hb34 (by omega));have HB5:=zdF (HB3.out.trans (hb34.mono (by omega)));obtain⟨t,ht⟩: ∃t,(r+x / r) / 2=t:=⟨_,rfl⟩;rw[ht] at HR6;simp only[ht];have Ht:=zdF ht;have hlt':(ae 10000 t).length<=400:=by
    have:=aD (B:=10000) (by decide) (show t<=r+x / r by omega);have:=Hw5.out;omega
   have Hlt:=zdF hlt';clear hr6 hr7 hf6 hf7 hb4 ha3 hb34 ht hlt';go_wp2_with fail;refine(gc t r _ _ _ HR6.out Hr4.out (by have:=Hlt.out;omega)).mono ?_;rintro e W5 ⟨rfl,hb5⟩;have HR7:=zdF (HR6.out.below hb5);have Hr5:=zdF (Hr4.out.below hb5);have Hx5:=zdF (Hx4.out.below hb5);have Hk5:=zdF (Hk4.out.below hb5 (by omega));have HB6:=zdF (HB5.out.trans (hb5.mono (by omega)));have hs5:=hb5.size;clear hb5;by_cases hc:t<r
   ·rw[jN hc];go_wp2
    go_roundw
    case rel=>
     have hx0:0<x:=by
      rcases zbK x with h|h
      ·have:=E1.out;rw[h,aF] at this;exact absurd this.symm hz
      ·exact h
     exact⟨t,_,_,rfl,HR7.out,Hk5.out,Hx5.out,HB6.out,by rw[<-Ht.out];exact auP hx0 Hr0.out.1,by rw[<-Ht.out];exact aug Hr0.out.1,zac (aD (by decide) (zbt hc)) Hr0.out.2.2⟩
    case measure=>
     rw[yH HR7.out,yH Hr.out];exact hc
   ·have hc0:=yE (x:=t) (y:=r) (by omega);generalize dB t r=z at hc0 ⊢;go_wp2_with fail;have hroot:pz x=r:=auF (auz (by have:=Ht.out;omega)) Hr0.out.2.1;refine(ep false r _ _ Hr5.out (Hg.out.below HB6.out) (by have:=Hr0.out.2.2;omega)).mono ?_;have hq:=HRt.out;rw[hroot] at hq;rw[hq];rintro e W6 ⟨rfl,hb6⟩;have HB7:=zdF (HB6.out.trans (hb6.mono (by omega)));clear hb6 hq;go_wp2
    go_ret2
    exact⟨rfl,HB7.out⟩
theorem au7:vS ⟨#[48]⟩=true/\(nS ⟨#[48]⟩).natAbs=0:=by decide+kernel
theorem au8 (nb:Bool) (x:Nat) (a:zdK) (w:World)
 (hB:Hid (∀w,Calls prog 159 #[.string a, .string ⟨#[48]⟩] w λe w'=> ∃v1 v2,e= .returned (.tuple #[.agg #[.bool true,v1], .agg #[.bool nb,v2], .bool true])/\Rd am w' v1 (ae 10000 x)/\Rd am w' v2 (ae 10000 0)/\From w.heap.size v1/\From w.heap.size v2/\Below w.heap.size w w')):
 Calls prog 158 #[.string a] w λe w'=>e= .returned (.tuple #[.string ByteArray.empty, .int .i64 30])/\Below w.heap.size w w':=by
 go_enter func158,ntmps158;go_wp2_with fail
 (with_reducible refine(hB.out _).mono ?_);rintro e w1 ⟨v1,v2,rfl,hr1,hr2,hf1,hf2,hb1⟩
 obtain⟨a1,k1,rfl,_⟩:=hr1.open';obtain⟨a2,k2,rfl,_⟩:=hr2.open';have HB:=zdF hb1;clear hr1 hr2 hf1 hf2 hb1;go_wp2
 go_ret2
 refine⟨rfl, ?_⟩;have:=HB.out.size;exact(HB.out.alloc (by omega) _).alloc (by simp;omega) _
theorem auI (a:zdK) (w:World) (hg:Glob w) (hsa:a.size<=maxLen):
 Calls prog 158 #[.string a] w λe w'=>e= .returned (.tuple #[.string (kq a).1, .int .i64 (kq a).2])/\Below w.heap.size w w':=by
 obtain⟨z1,z2⟩:=au7;cases ha:vS a with
 |true=>
  have hB:=zdF (λw=>jD a ⟨#[48]⟩ ha z1 w);rw[z2] at hB;have hna:=cD a;have hxB:=br ha;cases hn:bf a.data.toList with
  |true=>
   rw[hn] at hB;have h0:kq a=(ByteArray.empty,30):=by
    have:=G0 ha hn;unfold kq;rw[ha,zdv (show ¬0<=nS a by omega)];rfl
   rw[h0];exact au8 _ _ a w hB
  |false=>
   rw[hn] at hB;have h0:kq a=(ofI (pz (nS a).natAbs),0):=by
    have:=G1 hn;unfold kq;rw[ha,zds this];rfl
   rw[h0];exact au6 _ _ hxB a w hg hB
 |false=>
  have h0:kq a=(ByteArray.empty,30):=by unfold kq;rw[ha];rfl
  rw[h0];have hB:=zdF (λw=>lQ a ⟨#[48]⟩ (by rw[ha];rfl) w hsa (by decide));clear ha hsa hg z1 z2 h0;go_enter func158,ntmps158;go_wp2_with fail
  (with_reducible refine(hB.out _).mono ?_);rintro e w1 ⟨rfl,hb1⟩
  have HB:=zdF hb1;clear hb1;go_wp2
  go_ret2
  refine⟨rfl, ?_⟩;have:=HB.out.size;exact(HB.out.alloc (by omega) _).alloc (by simp;omega) _
end Go.Proofs.YtldflkomhbfceaaGreatDoor
namespace Go.Proofs.YtldflkomhbfceaaGreatDoor
open Go.Proofs.Tryz
open Go Go.RowKit Go.Sy Yk
theorem GEk.app {g h:List (FuncId×Ctr)} (hg:GEk g) (hh:GEk h):GEk (g++h):=⟨λa W J p hp=>by
 rcases za8.1 hp with hp|hp
 ·exact hg.all a W J p hp
 ·exact hh.all a W J p hp⟩
theorem ave {W:World} (J:GlobU W):CtrOK prog W 158 (k1 cS cSI uz kq):=dD λa h β w V=>auI a w (J.1.below V) (zdx h)
def gQ:List (FuncId×Ctr):=(158,k1 cS cSI uz kq)::(156,ai8)::(gI2++gF)
theorem avI:GEk gQ:=((GEk.app (GEk.of PM) ap7).cons (λa W J=>afd) call156).cons (λa W J=>ave J.1) call158
def avB:zdY:=λg k=>bif (Nat.beq g 92||Nat.beq g 94)&&Nat.beq k 4294967295 then some (λ_=>{X:=Unit,inv:=λ_=>True,tm:=λ_=> [],mu:=λ_=>0,bd:=some bdS}) else none
def eu {α:Type} (a:Addr) (K:zdU) (r:α×Int) (R:α->Prop):Prop:=ag (r.2==0) (U9 (R r.1)) (apA a K)
def auV (a:Addr) (K:zdU) (t:zdK) (r:RS) (R1:ByteArray->Bool->Prop) (R2:ByteArray->Prop):Prop:=
 af (uz2 r.1 t) (eu a K (bM r.1 t) λx=>af (uz2 x t) (eu a K (bM x t) λn=>af (uz2 n r.2) (ag ((dY n r.2).2.2==0) (U9 (af (uz (dY n r.2).1) (eu a K (kq (dY n r.2).1) λm=>
  af (dC (seq (dY n r.2).2.1 ⟨#[48]⟩) (uz2 m m)) (ag (seq (dY n r.2).2.1 ⟨#[48]⟩) (eu a K (bM m m) λs=>R1 m (seq s (dY n r.2).1)) (R2 m))))) (apA a K))))
def sqT (a:Addr) (x:Iv) (p:Int) (K:zdU):Prop:=
 af (uzI x) (ag (!vI x) (apA a K) (U9 (ag (bif decide (p≥0) then decide (p<=30) else false) (U9 (af (seq ⟨#[48]⟩ ⟨#[48]⟩&&decide (0<=p)&&decide (p<=30)) (af (decide ((⟨#[49]⟩:zdK).size+(agF p.toNat).size<=9223372036854775807))
  (af (uzR x.1&&uzR zR) (ag (decide (b9 x.1 zR≥0)) (U9 (
    let fin:=λl h=>af (uz2 l (acj p)) (eu a K (gX l (acj p)) λu=>af (uz2 h (acj p)) (eu a K (gX h (acj p)) λv=>K (cIE.enc ((u,v),0))))
    let add:=λl h=>af (uz2 h ⟨#[49]⟩) (eu a K (jb h ⟨#[49]⟩) λh'=>fin l h')
    let hi:=λl=>auV a K (acj p) x.2 (λh e=>ag (!e) (add l h) (fin l h)) (add l)
    auV a K (acj p) x.1 (λl _=>hi l) hi)) (apA a K)))))) (apA a K))))
theorem avC (a:Addr) (x:Iv) (p:Int) (K:zdU):acb a gQ (gmF a) avB 9 33 [cIv.enc x,cI.enc p] K=sqT a x p K:=by kernel_rfl
def aul {α β:Type} (r:α×Int) (k:α->Option β):Option β:=bif r.2==0 then k r.1 else none
def x5 (t:zdK) (r:RS):Option (ByteArray×Bool):=aul (bM r.1 t) λx=>aul (bM x t) λn=>bif (dY n r.2).2.2==0 then aul (kq (dY n r.2).1) λm=>
 bif seq (dY n r.2).2.1 ⟨#[48]⟩ then aul (bM m m) λs=>some (m,seq s (dY n r.2).1) else some (m,false) else none
def auR (t l h:zdK):Option Iv:=aul (gX l t) λu=>aul (gX h t) λv=>some (u,v)
def sqO (t:zdK) (x:Iv):Option Iv:=match x5 t x.1 with
 |none=>none
 |some l=>match x5 t x.2 with
  |none=>none
  |some h=>bif h.2 then auR t l.1 h.1 else aul (jb h.1 ⟨#[49]⟩) (auR t l.1)
def F1 (x:Iv) (p:Int):Bool:=vI x&&(decide (0<=p)&&decide (p<=30))&&decide (b9 x.1 zR≥0)
def sqF (x:Iv) (p:Int):Iv×Int:=match (bif F1 x p then sqO (acj p) x else none) with
 |some v=>(v,0)
 |none=>R6
theorem auW {n:Int} (h:(Yk.chkI n).2=0):(Yk.chkI n).1=ofI n/\vS (ofI n)=true:=by
 unfold Yk.chkI at h ⊢;split at h
 ·rename_i J;rw[if_pos J];exact⟨rfl,gj J⟩
 ·simp at h
variable {a b:zdK}
theorem auh (h:(bM a b).2=0):(vS a=true/\vS b=true)/\vS (bM a b).1=true/\nS (bM a b).1=nS a*nS b:=by
 unfold bM at h ⊢;split at h
 ·rename_i J;rw[if_pos J];obtain⟨h1,h2⟩:=auW h;rw[h1];exact⟨by simpa using J,h2,aI _⟩
 ·simp at h
theorem auX (h:(jb a b).2=0):vS (jb a b).1=true/\nS (jb a b).1=nS a+nS b:=by
 unfold jb at h ⊢;split at h
 ·rename_i J;rw[if_pos J];obtain⟨h1,h2⟩:=auW h;rw[h1];exact⟨h2,aI _⟩
 ·simp at h
theorem auY (h:(dY a b).2.2=0):vS a=true/\vS b=true/\(dY a b).1=ofI (nS a / nS b)/\(dY a b).2.1=ofI (nS a%nS b):=by
 unfold dY at h ⊢;split at h
 ·rename_i J;rw[if_pos J];simp only[za2] at J;exact⟨J.1.1,J.1.2,rfl,rfl⟩
 ·simp at h
theorem auJ (h:(kq a).2=0):vS a=true/\0<=nS a/\vS (kq a).1=true/\nS (kq a).1=pz (nS a).natAbs:=by
 unfold kq at h ⊢;cases J:vS a&&decide (0<=nS a) with
 |false=>rw[J] at h;cases h
 |true=>
  simp only[za2,zdw] at J;exact⟨J.1,J.2,gj (by have:=auv (br J.1);omega),aI _⟩
variable {α β:Type}
theorem at4 {r:α×Int} {k:α->Option β} (h:(r.2==0)=false):aul r k=none:=by unfold aul;rw[h];rfl
theorem qz {r:α×Int} {k:α->Option β} (h:r.2=0):aul r k=k r.1:=by unfold aul;rw[h];rfl
section
variable {a:Addr} {K:zdU}
theorem ro {α:Type} {r:α×Int} {R:α->Prop} (k:(r.2==0)=false->K (cIE.enc R6)) (h:r.2=0->R r.1):eu a K r R:=ah (λe=>s8 (h (by simpa using e))) (λe=>F2 (k e))
variable {t:zdK}
theorem auK {r:RS} {R1:ByteArray->Bool->Prop} {R2:ByteArray->Prop} (ht:uz t=true) (hr:uzR r=true) (hd:0<nS r.2) (k:x5 t r=none->K (cIE.enc R6)) (k1: ∀m e,vS m=true->x5 t r=some (m,e)->R1 m e) (k2: ∀m,vS m=true->x5 t r=some (m,false)->R2 m):auV a K t r R1 R2:=by
 obtain⟨u1,u2⟩:uz r.1=true/\uz r.2=true:=by simpa [uzR] using hr
 unfold x5 at k k1 k2;refine ac (aX u1 ht) (ro (λe=>k (at4 e)) λe1=> ?_);rw[qz e1] at k k1 k2;refine ac (aX (bO (auh e1).2.1) ht) (ro (λe=>k (at4 e)) λZ=> ?_);rw[qz Z] at k k1 k2;have hn:=(auh Z).2.1;generalize (bM (bM r.1 t).1 t).1=n at*
 refine ac (aX (bO hn) u2) (ah (λJ=> ?_) (λJ=>F2 (k (by rw[J];rfl))));rw[J,zdu] at k k1 k2;obtain⟨d1,d2,d3,d4⟩:=auY (by simpa using J);have vq:=(ai6 d1 d2 hd).1;rw[<-d3] at vq;refine s8 (ac (bO vq) (ro (λe=>k (at4 e)) λe4=> ?_));rw[qz e4] at k k1 k2;have V:=(auJ e4).2.2.1;refine ac (fU (aX (bO V) (bO V))) (ah (λY=> ?_) (λY=> ?_))
 ·rw[Y,zdu] at k k1;exact ro (λe=>k (at4 e)) λe6=>k1 _ _ V (qz e6)
 ·rw[Y,zdt] at k2;exact k2 _ V rfl
theorem avf {l h:zdK} (J:uz t=true) (Y:vS l=true) (hh:vS h=true) (k:auR t l h=none->K (cIE.enc R6)) (k1: ∀v,auR t l h=some v->K (cIE.enc (v,0))):
 af (uz2 l t) (eu a K (gX l t) λu=>af (uz2 h t) (eu a K (gX h t) λv=>K (cIE.enc ((u,v),0)))):=by
 unfold auR at k k1;refine ac (aX (bO Y) J) (ro (λe=>k (at4 e)) λe1=> ?_);rw[qz e1] at k k1;exact ac (aX (bO hh) J) (ro (λe=>k (at4 e)) λV=>k1 _ (qz V))
theorem avt {x:Iv} {p:Int} (hx:uzI x=true) (k:K (cIE.enc (sqF x p))):sqT a x p K:=by
 obtain⟨x1,x2⟩:=alu hx;have Z:F1 x p=false->K (cIE.enc R6):=λe=>by unfold sqF at k;rw[e] at k;exact k
 unfold sqT;refine ac hx (ah (λe=>F2 (Z ?_)) (λe1=>s8 (ah (λe2=>s8 ?_) (λe=>F2 (Z ?_)))))
 ·unfold F1;rw[show vI x=false by simpa using e];rfl
 ·have hp:0<=p/\p<=30:=by
   by_cases h:p≥0
   ·rw[zds h,zdu] at e2;exact⟨h,zdx e2⟩
   ·rw[zdv h] at e2;cases e2
  have hv:vI x=true:=by simpa using e1
  have ht:vS (acj p)=true:=by rw[ahN hp.1];exact afa (by omega)
  obtain⟨v1,v2,_⟩:=ajh.1 hv;have ut:=bO ht;refine ac (by rw[zds hp.1,zds hp.2];rfl) (ac (zds ?_) (ac (by rw[x1];rfl) (ah (λe3=>s8 ?_) (λe=>F2 (Z ?_)))))
  ·show 1+(List.replicate p.toNat (48:UInt8)).toArray.size<=_;simp;omega
  ·have ok:F1 x p=true:=by unfold F1;rw[hv,zds hp.1,zds hp.2,e3];rfl
   have J: ∀{o:Option Iv},sqO (acj p) x=o->K (cIE.enc (match o with|some v=>(v,0)|none=>R6)):=λ{o} e=>by
    unfold sqF at k;rw[ok,zdu,e] at k;exact k
   unfold sqO at J;generalize acj p=t at*
   have fin: ∀l h,vS l=true->vS h=true->(∀o,auR t l h=o->K (cIE.enc (match o with|some v=>(v,0)|none=>R6)))->_:=λl h Y hh kk=>avf (a:=a) ut Y hh (λe=>kk _ e) (λv e=>kk _ e)
   have two: ∀l e,vS l=true->x5 t x.1=some (l,e)->auV a K t x.2 (λh e=>ag (!e) (af (uz2 h ⟨#[49]⟩) (eu a K (jb h ⟨#[49]⟩) λV=>af (uz2 l t) (eu a K (gX l t) λu=>af (uz2 V t) (eu a K (gX V t) λv=>K (cIE.enc ((u,v),0))))))
    (af (uz2 l t) (eu a K (gX l t) λu=>af (uz2 h t) (eu a K (gX h t) λv=>K (cIE.enc ((u,v),0)))))) (λh=>af (uz2 h ⟨#[49]⟩) (eu a K (jb h ⟨#[49]⟩) λV=>af (uz2 l t) (eu a K (gX l t) λu=>af (uz2 V t) (eu a K (gX V t) λv=>K (cIE.enc ((u,v),0)))))):=λl e Y el=>by
    rw[el] at J;have add: ∀h,vS h=true->x5 t x.2=some (h,false)->af (uz2 h ⟨#[49]⟩) (eu a K (jb h ⟨#[49]⟩) λV=>af (uz2 l t) (eu a K (gX l t) λu=>af (uz2 V t) (eu a K (gX V t) λv=>K (cIE.enc ((u,v),0))))):=λh hh eh=>by
     rw[eh] at J;exact ac (aX (bO hh) (by decide)) (ro (λe=>J (o:=none) (at4 e)) λe1=>fin _ _ Y (auX e1).1 λo eo=>J ((qz e1).trans eo))
    refine auK ut x2 (ay v2).2.2.1 (λe=>J (o:=none) (by rw[e])) (λh e' hh eh=>ah (λc=> ?_) (λc=> ?_)) add
    ·obtain rfl:e'=false:=by simpa using c
     exact add h hh eh
    ·obtain rfl:e'=true:=by simpa using c
     rw[eh] at J;exact fin _ _ Y hh λo eo=>J eo
   exact auK ut x1 (ay v1).2.2.1 (λe=>J (o:=none) (by rw[e])) (λl e Y el=>two l e Y el) (λl Y el=>two l _ Y el)
  ·unfold F1;rw[e,Bool.and_false]
 ·unfold F1
  rw[show (decide (0<=p)&&decide (p<=30))=false by
   by_cases h:p≥0
   ·rw[zds h,zdu] at e;rw[e,Bool.and_false]
   ·rw[zdv h];rfl]
  cases vI x<;>rfl
end
theorem avu {a:Addr} {W:World} (J:GlobE a W):CtrOK prog W 33 (arj sqF):=bC λx p h=>by
 refine l0 avI apq J (ann:=avB) (n:=9) de (cIE.ids _) ?_;rw[avC];exact avt (K:=λr=>r=_) h rfl
def gFR:List (FuncId×Ctr):=(33,arj sqF)::(27,kIF agy)::(28,kIF agz)::(29,kIF adC)::(30,kIF ac7)::(35,arj aeA)::gV2
theorem avm:GEk gFR:=(((((aiH.cons (λa W J=>aqL J) call35).cons (λa W J=>aqK J) call30).cons (λa W J=>aqJ J) call29).cons (λa W J=>aqI J) call28).cons (λa W J=>aqH J) call27).cons (λa W J=>avu J) call33
def atw (I:EI->Prop) (N:Int) (J:Iv->Int->PWI->Prop) (pl:Int) (ins:List Iv) (nn:Nat) (i:Int) (vs:List Iv) (x:Nd) (bad:Prop):Prop:=
 ag (x.op==1) (af (uzR x.v) (apr I N pl 85 ins.length nn i vs bad (ptI x.v))) (
 ag (x.op==2) (eO ins.length x.n (apr I N pl 87 ins.length nn i vs bad (mb noI ins (0+x.n.toNat)))) (
 ag (x.op==3) (apW vs x agy bad (apr I N pl 91 ins.length nn i vs bad)) (
 ag (x.op==4) (apW vs x agz bad (apr I N pl 93 ins.length nn i vs bad)) (
 ag (x.op==5) (apW vs x adC bad (apr I N pl 95 ins.length nn i vs bad)) (
 ag (x.op==6) (apW vs x ac7 bad (apr I N pl 97 ins.length nn i vs bad)) (
 ag (x.op==7) (aqX J ins.length nn i vs x bad (apr I N pl 119 ins.length nn i vs bad) (apr I N pl 104 ins.length nn i vs bad)) (
 ag (x.op==8) (eO vs.length x.l (af (uzI (mb noI vs (0+x.l.toNat))) (ap9 (sqF (mb noI vs (0+x.l.toNat)) pl) bad (apr I N pl 111 ins.length nn i vs bad)))) bad)))))))
def au9 (I:EI->Prop) (N:Int) (J:Iv->Int->PWI->Prop) (p:Pr) (ins:List Iv) (pl:Int) (Q:zdU):Prop:=
 af (jn p) (Unit->True->ag (bif !VM (dm p) then true else((ins.length:Int) !=(p.inp.length:Int))) (Q agO)
 (af (Nat.ble ins.length ins.length&&Nat.beq 4 4&&true&&(Nat.ble ins.length 1000000&&eI.good uzI ins.length (eI.get ins))) (Unit->True->ag (!(eI.list ins.length (eI.get ins)).all vI) (Q agO)
 (∃z0:EI,I z0/\(((TV.v (cI.enc 0)=TV.v (cI.enc z0.1)/\TV.v (.val (.slice none 0 0))=TV.v (.val (.slice none z0.2.length 0))/\akp ins.length p.nod.length True)/\(True/\(True/\(z0.2.length=0/\True))))/\
   ∀z:EI,I z->ag (decide (z.1<(p.nod.length:Int)))
    (eO p.nod.length z.1 (atw I N J pl ins p.nod.length z.1 z.2 (mb noN p.nod (0+z.1.toNat)) (Q agO)))
    (af (inR .i64 ((z.2.length:Int) - 1)) (eO z.2.length ((z.2.length:Int) - 1) (Q (.tup [.agg (yl (mb noI z.2 (0+((z.2.length:Int) - 1).toNat))), .val (.int .i64 0)])))))))))
abbrev auZ (a:Addr) (I:EI->Prop) (N:Int) (J:Iv->Int->PWI->Prop) (p:Pr) (ins:List Iv) (pl:Int) (Q:zdU):Prop:=XC a gFR akn (agM I N J) 6 9 [kB p, .slc 2 0 ins.length,cI.enc pl] [eU.old p.inp,eN.old p.nod,eI.old ins] (Go.Sy.okK λr _ _ _=>Q r)
theorem avg (a:Addr) (I:EI->Prop) (N:Int) (J:Iv->Int->PWI->Prop) (p:Pr) (V:List Iv) (Y:Int) (Q:zdU):auZ a I N J p V Y Q=au9 I N J p V Y Q:=by kernel_rfl
variable {r:RS}
theorem ajo (h:uzR r=true):uzI (ptI r)=true:=by
 unfold ptI;cases rV r with
 |false=>exact(show uzI noI=true by decide)
 |true=>show (uzR r&&uzR r)=true;rw[h];rfl
theorem adF {a b:RS} (h:uzR a=true) (k:uzR b=true):uzI (a,b)=true:=by unfold uzI;rw[h,k];rfl
theorem afm: ∀{l:List RS} {m:RS},(∀x∈l,uzR x=true)->uzR m=true->uzR (aey l m)=true
 | [],m,_,h=>h
 |x::r,m,J,h=>by
  show uzR (aey r (bif decide (b9 x m<0) then x else m))=true;refine afm (l:=r) (λy V=>J y (zan _ V)) ?_;cases decide (b9 x m<0) with
  |true=>exact J x (by simp)
  |false=>exact h
theorem afn: ∀{l:List RS} {m:RS},(∀x∈l,uzR x=true)->uzR m=true->uzR (aez l m)=true
 | [],m,_,h=>h
 |x::r,m,J,h=>by
  show uzR (aez r (bif decide (b9 x m>0) then x else m))=true;refine afn (l:=r) (λy V=>J y (zan _ V)) ?_;cases decide (b9 x m>0) with
  |true=>exact J x (by simp)
  |false=>exact h
variable {a b v:Iv}
theorem ah6 (h:agy a b=(v,0)):uzI v=true:=by
 obtain⟨_,e⟩:=dL h;obtain⟨_,_,rfl⟩:=alr e;exact adF (Lq _ _) (Lq _ _)
theorem ah7 (h:agz a b=(v,0)):uzI v=true:=by
 obtain⟨_,e⟩:=dL h;obtain⟨_,_,rfl⟩:=alr e;exact adF (Lr _ _) (Lr _ _)
theorem aeb {a b c d:RS×Int} (J:uzR a.1=true) (Y:uzR b.1=true) (Z:uzR c.1=true) (hd:uzR d.1=true) (h:ae6 a b c d=(v,0)):uzI v=true:=by
 obtain⟨_,_,_,_,rfl⟩:=ac1 h;have V: ∀x∈ [b.1,c.1,d.1],uzR x=true:=by simp[Y,Z,hd]
 exact adF (afm V J) (afn V J)
theorem afo (h:adC a b=(v,0)):uzI v=true:=aeb (gI _ _) (gI _ _) (gI _ _) (gI _ _) (dL h).2
theorem afp (h:ac7 a b=(v,0)):uzI v=true:=aeb (lY _ _) (lY _ _) (lY _ _) (lY _ _) (dL h).2
variable {p:Int}
theorem ah8 (h:aeA a p=(v,0)):uzI v=true:=by
 obtain⟨_,e⟩:=dL h;obtain⟨_,_,rfl⟩:=alr e;refine adF ?_ ?_
 ·unfold acv;split;exact alg _ _;exact tF
 ·unfold rUp;split;exact alg _ _;exact tF
variable {l:List Iv}
theorem acL (h: ∀u∈l,uzI u=true) (e:Nat):uzI (mb noI l e)=true:=by
 by_cases J:e<l.length
 ·exact h _ (bw J)
 ·have: ∀(l:List Iv) (e:Nat),l.length<=e->mb noI l e=noI:=by
   intro l
   induction l with
   |nil=>intro e _;rfl
   |cons x r V=>intro e J;cases e with
    |zero=>simp at J
    |succ e=>exact V e (by simpa using J)
  rw[this l e (by omega)];decide
theorem agQ: ∀{k:Nat} {v:Iv},th b k=some v->uzI v=true
 |0,v,h=>by simp only[th,za1] at h;subst h;decide
 |k+1,v,h=>by
  simp only[th] at h;split at h
  ·exact afo (uu h)
  ·cases h
theorem aec {b:Iv} {k:Nat}: ∀{m:Nat} {w:Iv},th b (k+m)=some w-> ∃u,th b k=some u
 |0,w,h=>⟨w,h⟩
 |m+1,w,h=>by
  rw[<-zbr,th] at h;split at h
  ·rename_i v J;exact aec J
  ·cases h
variable {n:Nat}
theorem ah9 {K:Prop} (h:n<=1000000) (k:K):ako n K:=ac (by
 rw[zds (zbS),zds (show 0+1<=1 by omega),zds (za0 n),zds (show (n+1)*64<=140737488355328 by omega)];rfl) k
variable {ni nn:Nat}
theorem aia {q:Nat} {us:List Iv} {u:Iv}:akq q ni nn p (us.length+1) (ald (eI.get us) (λe=>((yl u).drop (e*4)).take 4) us.length 0) (p,us++ [u]):=by
 have J:(us++ [u]).length=us.length+1:=by simp
 refine⟨⟨rfl,by rw[J],rfl,rfl,rfl,rfl,rfl,rfl,rfl,trivial⟩,trivial,trivial, ?_,trivial⟩;refine ac (by rw[zds (by rw[J];exact za0 _)];rfl) λe V=> ?_;rw[J] at V;unfold ald El.get El.nth;rw[aB];show _=yl (mb noI (us++ [u]) e);rw[aS];by_cases h:e<us.length
 ·rw[zds h,zdu,if_neg (by omega)];rfl
 ·obtain rfl:e=us.length:=by omega
  rw[zdv h,zdt,if_pos rfl,zaJ];rfl
def agR (b:Iv) (m:Int) (z:PWI):Prop:=0<=z.1/\z.1<=m/\m<=4/\th b z.1.toNat=some z.2
variable {i:Int}
theorem adt {m:Int} :ajj ni nn i n m p v (p,v):=⟨⟨rfl,rfl,rfl,rfl,rfl,rfl,rfl,rfl,rfl,rfl,rfl,rfl,rfl,trivial⟩,trivial,⟨rfl,trivial⟩,trivial⟩
variable {bad:Prop}
theorem apn {r:Iv×Int} {K:Iv->Prop} (h:okI r=none->bad) (k: ∀v,okI r=some v->r=(v,0)->K v):ap9 r bad K:=by
 obtain⟨v,c⟩:=r;refine ah (λe=>h (by unfold okI;rw[e];rfl)) (λe=> ?_);obtain rfl:c=0:=by simpa using e
 exact k v rfl rfl
abbrev sqP (pl:Int):Iv->Iv×Int:=λx=>sqF x pl
def dR (p:Pr) (ins:List Iv) (pl:Int):Iv×Int:=ah5 (sqP pl) p ins pl
def avn (pl:Int) (ins:List Iv) (nod:ze3) (z:EI):Prop:=0<=z.1/\z.1<=nod.length/\z.2.length=z.1.toNat/\(∀u∈z.2,uzI u=true)/\alE (sqP pl) pl ins nod []=alE (sqP pl) pl ins (nod.drop z.1.toNat) z.2
theorem j4 {α β:Type} {r:α×Int} {k:α->Option β} {v:β} (h:aul r k=some v):r.2=0/\k r.1=some v:=by
 unfold aul at h;cases J:r.2==0 with
 |false=>rw[J] at h;cases h
 |true=>rw[J] at h;exact⟨by simpa using J,h⟩
theorem auw {n d:zdK} (h:(gX n d).2=0):rV (gX n d).1=true/\qV (gX n d).1=Rat.divInt (nS n) (nS d):=by
 rw[FT] at h ⊢;split at h
 ·rename_i J;rw[if_pos J];obtain⟨g,_⟩:=lE h;exact⟨g.valid,g.val⟩
 ·simp at h
variable {x:Iv}
theorem aup (h:sqF x p=(v,0)):F1 x p=true/\ ∃l J:zdK,∃e:Bool,∃lb:Bool,x5 (acj p) x.1=some (l,lb)/\x5 (acj p) x.2=some (J,e)/\rV v.1=true/\rV v.2=true/\qV v.1=Rat.divInt (nS l) (nS (acj p))/\qV v.2=Rat.divInt (nS J+bif e then 0 else 1) (nS (acj p)):=by
 unfold sqF at h;cases hr:F1 x p with
 |false=>rw[hr] at h;exact absurd (show (50:Int)=0 from congrArg Prod.snd h) (by decide)
 |true=>
  rw[hr,zdu] at h;refine⟨rfl, ?_⟩;have e:sqO (acj p) x=some v:=by
   cases ho:sqO (acj p) x with
   |none=>rw[ho] at h;exact absurd (show (50:Int)=0 from congrArg Prod.snd h) (by decide)
   |some w=>rw[ho] at h;rw[show w=v from congrArg Prod.fst h]
  unfold sqO at e;have V: ∀{l J:zdK},auR (acj p) l J=some v->rV v.1=true/\rV v.2=true/\qV v.1=Rat.divInt (nS l) (nS (acj p))/\qV v.2=Rat.divInt (nS J) (nS (acj p)):=λ{l J} Y=>by
   obtain⟨Z,Y⟩:=j4 Y;obtain⟨a2,Y⟩:=j4 Y;obtain⟨b1,c1⟩:=auw Z;obtain⟨b2,c2⟩:=auw a2;cases Y;exact⟨b1,b2,c1,c2⟩
  cases hl:x5 (acj p) x.1 with
  |none=>rw[hl] at e;cases e
  |some l=>
   cases hh:x5 (acj p) x.2 with
   |none=>rw[hl,hh] at e;cases e
   |some g=>
    rw[hl,hh] at e;obtain⟨l,lb⟩:=l;obtain⟨g,b⟩:=g;refine⟨l,g,b,lb,rfl,rfl, ?_⟩;cases b with
    |true=>rw[zdu,Int.add_zero];exact V e
    |false=>
     obtain⟨Z,e⟩:=j4 e;obtain⟨f1,f2,f3,f4⟩:=V e;rw[(auX Z).2] at f4;exact⟨f1,f2,f3,f4⟩
theorem avv (h:sqF x p=(v,0)):uzI v=true:=by
 obtain⟨_,_,_,_,_,_,_,h1,h2,_⟩:=aup h;unfold uzI;rw[Ie h1,Ie h2];rfl
variable {N pl:Int} {ins:List Iv}
theorem ata {I:EI->Prop} {vs:List Iv} {x:Nd} (hx:NodeOK ni vs.length x) (hni:ins.length=ni) (hi: ∀u∈ins,uzI u=true) (hv: ∀u∈vs,uzI u=true) (hxv:uzR x.v=true) (hb:ack (sqP pl) ins vs x=none->bad) (hs: ∀q v,uzI v=true->ack (sqP pl) ins vs x=some v->apr I N pl q ins.length nn i vs bad v):atw I N agR pl ins nn i vs x bad:=by
 obtain⟨o1,o2⟩:=hx.op;have two: ∀{f:Iv->Iv->Iv×Int} {q:Nat},3<=x.op->x.op<=6->(∀{a b v:Iv},f a b=(v,0)->uzI v=true)->ack (sqP pl) ins vs x=okI (f (mb noI vs x.l.toNat) (mb noI vs x.r.toNat))->apW vs x f bad (apr I N pl q ins.length nn i vs bad):=λ{f q} a b uz e=>by
  have hl:=hx.left a;have hr:=hx.right a b;unfold apW;rw[za7,za7];exact aY hl.1 hl.2 (aY hr.1 hr.2 (ac (by rw[acL hv,acL hv];rfl) (apn (λk=>hb (e.trans k)) λv k k'=>hs q v (uz k') (e.trans k))))
 unfold atw;refine ah (λe1=> ?_) (λe1=>ah (λV=> ?_) (λV=>ah (λY=> ?_) (λY=>ah (λe4=> ?_) (λe4=>ah (λZ=> ?_) (λZ=>ah (λe6=> ?_) (λe6=>ah (λe7=> ?_) (λe7=>ah (λe8=> ?_) (λe8=> ?_))))))))
 ·exact ac hxv (hs _ _ (ajo hxv) (by unfold ack;rw[e1];rfl))
 ·have h:=hx.inp (int_eq.1 V);rw[za7];exact aY h.1 (by omega) (hs _ _ (acL hi _) (by unfold ack;rw[e1,V];rfl))
 ·exact two (by rw[int_eq.1 Y];decide) (by rw[int_eq.1 Y];decide) ah6 (by unfold ack;rw[e1,V,Y];rfl)
 ·exact two (by rw[int_eq.1 e4];decide) (by rw[int_eq.1 e4];decide) ah7 (by unfold ack;rw[e1,V,Y,e4];rfl)
 ·exact two (by rw[int_eq.1 Z];decide) (by rw[int_eq.1 Z];decide) afo (by unfold ack;rw[e1,V,Y,e4,Z];rfl)
 ·exact two (by rw[int_eq.1 e6];decide) (by rw[int_eq.1 e6];decide) afp (by unfold ack;rw[e1,V,Y,e4,Z,e6];rfl)
 ·have hp:=hx.pow (int_eq.1 e7);have hl:=hx.left (by rw[int_eq.1 e7];decide)
  have e:ack (sqP pl) ins vs x=(match th (mb noI vs x.l.toNat) (jH x.n).toNat with
   |some v=>bif decide (x.n<0) then okI (ac7 (ptI rI) v) else some v
   |none=>none):=by unfold ack;rw[e1,V,Y,e4,Z,e6,e7];rfl
  have hm:0<=jH x.n/\jH x.n<=4:=by unfold jH;split<;>omega
  unfold aqX;rw[za7];refine ac (VP.2 (by omega)) ⟨(0,ptI rI),⟨zat _,hm.1,hm.2,rfl⟩,adt, ?_⟩;rintro⟨k,u⟩ ⟨k0,k1,_,k2⟩;dsimp only at k0 k1 k2 ⊢;have huz:=agQ k2;refine ah (λhk=> ?_) (λhk=> ?_)
  ·have hk:=zdx hk;have hn:th (mb noI vs x.l.toNat) (k+1).toNat=okI (adC u (mb noI vs x.l.toNat)):=by rw[show (k+1).toNat=k.toNat+1 by omega,th,k2]
   refine aY hl.1 hl.2 (ac (by rw[huz,acL hv];rfl) (apn (λh=>hb ?_) λw h _=>ac (VP.2 (by omega)) ⟨(k+1,w),⟨by show 0<=k+1;omega,by show k+1<=_;omega,hm.2,hn.trans h⟩,by show (_:Nat)<_;omega,adt⟩));rw[e];cases hw:th (mb noI vs x.l.toNat) (jH x.n).toNat with
   |none=>rfl
   |some w=>
    obtain⟨u',hu'⟩:=aec (k:=(k+1).toNat) (m:=(jH x.n).toNat - (k+1).toNat) (by rw[show (k+1).toNat+((jH x.n).toNat - (k+1).toNat)=(jH x.n).toNat by omega];exact hw);rw[hn,h] at hu';cases hu'
  ·have hk:=zdy hk;rw[show k.toNat=(jH x.n).toNat by omega] at k2;rw[k2] at e;replace e:ack (sqP pl) ins vs x=bif decide (x.n<0) then okI (ac7 (ptI rI) u) else some u:=e
   refine ah (λJ=> ?_) (λJ=> ?_)
   ·rw[J,zdu] at e;exact ac (by rw[huz];decide) (apn (λh=>hb (e.trans h)) λw h h'=>hs _ _ (afp h') (e.trans h))
   ·rw[J,zdt] at e;exact hs _ _ huz e
 ·have hl:=hx.left (by rw[int_eq.1 e8];decide);have e:ack (sqP pl) ins vs x=okI (sqF (mb noI vs x.l.toNat) pl):=by unfold ack;rw[e1,V,Y,e4,Z,e6,e7,e8];rfl
  rw[za7];exact aY hl.1 hl.2 (ac (acL hv _) (apn (λk=>hb (e.trans k)) λv k k'=>hs _ v (avv k') (e.trans k)))
 ·exfalso;rw[zdA] at e1 V Y e4 Z e6 e7 e8;omega
theorem auS {p:Pr} {Q:zdU} (hsz:aci p=true) (h6:p.inp.length<=1000000) (h7:p.nod.length<=1000000) (hi: ∀u∈ins,uzI u=true) (h8:ins.length<=1000000)
 (hQ:Q (.tup [.agg (yl (dR p ins pl).1), .val (.int .i64 (dR p ins pl).2)])):au9 (avn pl ins p.nod) p.nod.length agR p ins pl Q:=by
 have J:=hsz;unfold aci at J;simp only[za2,zaf] at J;obtain⟨⟨si,sn⟩,so⟩:=J;have gl:eI.list ins.length (eI.get ins)=ins:=El.list_get;have bad:dR p ins pl=(noI,90)->Q agO:=λh=>by rw[h] at hQ;exact hQ
 unfold au9;refine ac (eY hsz h6 h7) λ_ _=> ?_;rw[fN];refine ah (λh=>bad ?_) (λh=>ac (by rw[El.good_get hi];simp[h8]) λ_ _=>ah (λk=>bad ?_) (λk=> ?_))
 ·unfold dR ah5;cases hv:VM p with
  |false=>rfl
  |true=>
   rw[hv] at h;have:(ins.length !=p.inp.length)=true:=by simp at h ⊢;omega
   rw[this];rfl
 ·rw[gl] at k;unfold dR ah5;rw[k,Bool.or_true];rfl
 ·rw[gl] at k;cases hv:VM p with
  |false=>rw[hv] at h;cases h
  |true=>
  rw[hv] at h;have hl:ins.length=p.inp.length:=by simp at h;omega
  obtain⟨hbeg,hnod⟩:=bQ hv;have hc:dR p ins pl=match alE (sqP pl) pl ins p.nod [] with
   |some vs=>(agP vs,0)
   |none=>(noI,90):=by unfold dR ah5;rw[hv,k,hl];first|(simp;rfl)|simp
  have hb:=Wb.1 hbeg;refine⟨(0, []),⟨zat _,by show (0:Int)<=_;omega,rfl,λu h=>(by cases h),rfl⟩,⟨⟨rfl,rfl,rfl,rfl,rfl,rfl,rfl,rfl,rfl,trivial⟩,trivial,trivial,rfl,trivial⟩, ?_⟩;rintro⟨i,vs⟩ ⟨k0,k1,k2,k3,V⟩;simp only at k0 k1 k2 k3 V;dsimp only;refine ah (λhz=> ?_) (λhz=> ?_)
  ·have hz:i<(p.nod.length:Int):=zdx hz;rw[za7];have hd:=atR (d:=noN) k0 hz;have hx:=hnod i.toNat (by omega);have hm:=bw (d:=noN) (l:=p.nod) (e:=i.toNat) (by omega);have hxs:=sn _ hm;have hxv:uzR (mb noN p.nod i.toNat).v=true:=by
    unfold szN at hxs;rw[za2] at hxs;exact hxs.1
   rw[hd,alE] at V
   have Y:ajn pl (ack (sqP pl) ins vs (mb noN p.nod i.toNat))=none->Q agO:=λe=>bad (by
    rw[e] at V
    rw[hc,show alE (sqP pl) pl ins p.nod []=none from V])
   refine aY k0 hz (ata (by rw[k2];exact hx) hl hi k3 hxv (λe=>Y (by rw[e];rfl)) (λq v hvz Z=>ac hvz (apn (λe=>Y (by rw[Z];exact e)) λw hr hr'=> ?_)));rw[Z,show ajn pl (some v)=some w from hr] at V;replace V:alE (sqP pl) pl ins p.nod []=alE (sqP pl) pl ins (p.nod.drop (i+1).toNat) (vs++ [w]):=V;refine ah9 (by omega) (ac (VP.2 (by omega)) ⟨(i+1,vs++ [w]),⟨by show 0<=i+1;omega,by show i+1<=_;omega,by simp only[za3,za6];omega, ?_,V⟩,by show (_:Nat)<_;omega,aia⟩);exact atS k3 (ah8 hr')
  ·have hz: ¬i<(p.nod.length:Int):=zdy hz;rw[show i.toNat=p.nod.length by omega,zbj,alE] at V;rw[V] at hc;replace hc:dR p ins pl=(agP vs,0):=hc;rw[hc] at hQ;refine ac (VP.2 (by omega)) (aY (by omega) (by omega) ?_);rw[show (0+((vs.length:Int) - 1).toNat)=vs.length - 1 by omega];exact hQ
def auL:MCtr:=λbl nx args=>match args with
 | [s,t, .val (.int .i64 pl)]=>match mC bl s,vW bl 4 t with
   |some a,some (b,o,n,c)=>some {X:=Unit,pre:=a.need&&b&&bW n&&eI.good uzI n c,spec:=λ_=>True,out:=λ_=> .tup [.agg (yl (dR a.p (eI.list n c) pl).1), .val (.int .i64 (dR a.p (eI.list n c) pl).2)],ex:=λ_=>⟨(),trivial⟩}
   |_,_=>none
 |_=>none
theorem auM {a:Addr}: ∀B:Base,GlobEB a B->VU prog B 9 auL:=agE avm ah4 λbl nx args C V hp=>by
 unfold auL at V;split at V
 ·rename_i s t Y;split at V
  ·rename_i a b o n c Z hs;simp only[za1] at V;subst V;simp only[za2] at hp;obtain⟨⟨⟨hp,rfl⟩,hn⟩,J⟩:=hp;obtain⟨s1,s2,s3,s4,s5,s6⟩:=eX (f:=rnF [a.o1,a.o2,o] [] nx) Z hp rfl rfl;obtain⟨t1,t2⟩:=cq (f:=rnF [a.o1,a.o2,o] [] nx) hs J;refine⟨[a.o1,a.o2,o], [eU.old a.p.inp,eN.old a.p.nod,eI.old (eI.list n c)], [kB a.p, .slc 2 0 (eI.list n c).length,cI.enc Y],agM (avn Y (eI.list n c) a.p.nod) a.p.nod.length agR,6,aw s1 (aw s2 (aw t1 trivial)),bH (by simp[cN,El.old]),cd (by simp[El.old,BK.map]),ar s3 (ar (t2 2 rfl) rfl), ?_⟩;refine kbE () trivial rfl (r:= .tup [.agg (yl (dR a.p (eI.list n c) Y).1), .val (.int .i64 (dR a.p (eI.list n c) Y).2)]) rfl rfl rfl rfl (by simp[cN,El.old]) rfl ?_;have e:=avg;unfold auZ at e;rw[e];exact auS s4 s5 s6 (El.good_list J) (by rw[El.list_length];exact zak hn) rfl
  ·cases V
 ·cases V
def au0:MCtr:=λbl nx args=>match args with
 | [s,t, .val (.int .i64 pl)]=>match mC bl s,vW bl 4 t with
   |some a,some (b,o,n,c)=>some {X:=Unit,pre:=a.need&&b&&bW n&&eI.good uzI n c&&(dR a.p (eI.list n c) pl).2==0,spec:=λ_=>True,out:=λ_=> .tup [.agg (yl (dR a.p (eI.list n c) pl).1), .val (.int .i64 0)],ex:=λ_=>⟨(),trivial⟩}
   |_,_=>none
 |_=>none
theorem auN {a:Addr}: ∀B:Base,GlobEB a B->VU prog B 9 au0:=λB hB bl β w nx args C h1 h2 h3 h4 J hp=>by
 unfold au0 at J;split at J
 ·rename_i s t V;split at J
  ·rename_i p b o n c Z hs;simp only[za1] at J;subst J;obtain⟨hp,he⟩:=vo hp;have Y:auL bl nx [s,t, .val (.int .i64 V)]=some {X:=Unit,pre:=p.need&&b&&bW n&&eI.good uzI n c,spec:=λ_=>True,out:=λ_=> .tup [.agg (yl (dR p.p (eI.list n c) V).1), .val (.int .i64 (dR p.p (eI.list n c) V).2)],ex:=λ_=>⟨(),trivial⟩}:=by simp only[auL,Z,hs]
   refine Calls.mono (auM B hB bl β w nx _ _ h1 h2 h3 h4 Y hp) ?_;rintro e w' ⟨x,hx,β',q⟩;rw[beq_iff_eq.1 he] at q;exact⟨(),trivial,β',q⟩
  ·cases J
 ·cases J
theorem sqn (T:Int):0<=T*T:=by rw[<-Int.natAbs_mul_self];exact Int.natCast_nonneg _
theorem avo {a b:Int} (h0:0<=b) (h:a*a<=b*b):a<=b:=by
 by_cases k:a<=b
 ·exact k
 ·have:=Int.mul_self_lt_mul_self h0 (show b<a by omega);omega
structure RootB (N d M H:Int):Prop where
 m0:0<=M
 h0:0<=H
 lo:M*M*d<=N
 max: ∀k,0<=k->k*k*d<=N->k<=M
 hi:N<=H*H*d
 min: ∀k,0<=k->N<=k*k*d->H<=k
variable {q:Int} {e:Bool}
theorem avw {d M:Int} (Z:0<d) (h0:0<=M) (h1:q*d<=N) (h2:N<(q+1)*d) (h3:M*M<=q) (h4:q<(M+1)*(M+1)) (Y:e=true↔(N=q*d/\M*M=q)):RootB N d M (M+bif e then 0 else 1):=by
 have d0:=Int.le_of_lt Z;have hm:=Int.mul_le_mul_of_nonneg_right h3 d0;refine⟨h0,by cases e<;>simp<;>omega,Int.le_trans hm h1,λk k0 J=> ?_, ?_,λk k0 J=> ?_⟩
 ·have:k*k<q+1:=Int.lt_of_mul_lt_mul_right (Int.lt_of_le_of_lt J h2) d0;by_cases c:k<=M
  ·exact c
  ·have:=Int.mul_self_le_mul_self (show (0:Int)<=M+1 by omega) (show M+1<=k by omega);omega
 ·cases e with
  |true=>
   obtain⟨V,c2⟩:=Y.1 rfl;rw[zdu,Int.add_zero,c2,V];exact zat _
  |false=>exact Int.le_trans (Int.le_of_lt h2) (Int.mul_le_mul_of_nonneg_right (show q+1<=(M+1)*(M+1) by omega) d0)
 ·cases e with
  |true=>
   obtain⟨V,c2⟩:=Y.1 rfl;rw[zdu,Int.add_zero];rw[V,<-c2] at J;exact avo k0 (Int.le_of_mul_le_mul_right J Z)
  |false=>
   rw[zdt];by_cases c:k<=M
   ·have k1:=Int.mul_le_mul_of_nonneg_right (Int.mul_self_le_mul_self k0 c) d0;have e1:N=q*d:=by omega
    have e2:M*M*d=q*d:=by omega
    exact absurd (Y.2 ⟨e1,Int.eq_of_mul_eq_mul_right (by omega) e2⟩) (by decide)
   ·omega
variable {d1 d2 n1 n2 T:Int}
theorem auO {l:Int} (h1:0<d1) (h2:0<d2) (J:n1*d2<=n2*d1) (h:l*l*d1<=n1*T*T):l*l*d2<=n2*T*T:=by
 refine Int.le_of_mul_le_mul_right ?_ h1;have a:=Int.mul_le_mul_of_nonneg_right h (Int.le_of_lt h2);have b:=Int.mul_le_mul_of_nonneg_right J (sqn T);have e1:l*l*d2*d1=l*l*d1*d2:=by grind
 have V:n1*T*T*d2=n1*d2*(T*T):=by grind
 have Y:n2*d1*(T*T)=n2*T*T*d1:=by grind
 omega
theorem ava {l:Int} (h1:0<d1) (h2:0<d2) (J:n2*d1<=n1*d2) (h:n1*T*T<=l*l*d1):n2*T*T<=l*l*d2:=by
 refine Int.le_of_mul_le_mul_right ?_ h1;have a:=Int.mul_le_mul_of_nonneg_right h (Int.le_of_lt h2);have b:=Int.mul_le_mul_of_nonneg_right J (sqn T);have e1:l*l*d2*d1=l*l*d1*d2:=by grind
 have V:n1*T*T*d2=n1*d2*(T*T):=by grind
 have Y:n2*d1*(T*T)=n2*T*T*d1:=by grind
 omega
theorem at8 {t m:zdK} (hd:0<nS r.2) (h:x5 t r=some (m,e)):RootB (nS r.1*nS t*nS t) (nS r.2) (nS m) (nS m+bif e then 0 else 1):=by
 unfold x5 at h;obtain⟨e1,h⟩:=j4 h;obtain⟨e2,h⟩:=j4 h;have J:=(auh e2).2.2;rw[(auh e1).2.2] at J;generalize (bM (bM r.1 t).1 t).1=n at*
 cases Z:(dY n r.2).2.2==0 with
 |false=>rw[Z] at h;cases h
 |true=>
  rw[Z,zdu] at h;obtain⟨_,_,d3,d4⟩:=auY (by simpa using Z);obtain⟨e4,h⟩:=j4 h;rw[d3] at h e4;rw[d4] at h;obtain⟨_,r2,_,V⟩:=auJ e4;rw[aI,J] at r2 V;rw[J] at h;have hm:nS m=nS (kq (ofI (nS n / nS r.2))).1:=by
   rw[J];cases h5:seq (ofI (nS r.1*nS t*nS t%nS r.2)) ⟨#[48]⟩ with
   |true=>rw[h5,zdu] at h;obtain⟨_,h⟩:=j4 h;cases h;rfl
   |false=>rw[h5,zdt] at h;cases h;rfl
  rw[J] at hm;generalize nS r.1*nS t*nS t=N at*
  rw[<-hm] at V;have he:e=true↔(N%nS r.2=0/\nS m*nS m=N / nS r.2):=by
   cases h5:seq (ofI (N%nS r.2)) ⟨#[48]⟩ with
   |true=>
    rw[h5,zdu] at h;obtain⟨e6,h⟩:=j4 h;have h0:N%nS r.2=0:=by
     have:=congrArg nS (We.1 h5);rw[aI] at this;rw[this];decide
    simp only[za1,zag] at h;obtain⟨h1,h2⟩:=h;rw[h1] at h2 e6;obtain⟨_,g1,g2⟩:=auh e6;rw[<-h2,We,<-g2];constructor
    ·intro k;exact⟨h0,by rw[k,aI]⟩
    ·rintro⟨_,k⟩;rw[<-k,jc g1]
   |false=>
    rw[h5,zdt] at h;simp only[za1,zag] at h;rw[<-h.2];constructor
    ·intro k;cases k
    ·rintro⟨k,_⟩;rw[k,show ofI 0=(⟨#[48]⟩:zdK) by decide+kernel] at h5;exact absurd h5 (by decide)
  have q1:=Int.emod_add_mul_ediv N (nS r.2);have q2:=zcm N (b:=nS r.2) (by omega);have q3:=zcP N hd;obtain⟨s1,Y⟩:=auG (n:=(N / nS r.2).natAbs);have hc:((N / nS r.2).natAbs:Int)=N / nS r.2:=Int.natAbs_of_nonneg r2;have s1:=Int.ofNat_le.2 s1;have Y:=Int.ofNat_lt.2 Y;simp only[zb9,zcX,hc,<-V] at s1 Y;rw[Int.mul_comm] at q1;have hx:(N / nS r.2+1)*nS r.2=N / nS r.2*nS r.2+nS r.2:=by rw[Int.add_mul,Int.one_mul]
  refine avw (q:=N / nS r.2) hd (by rw[V];exact Int.natCast_nonneg _) (by omega) (by omega) s1 Y (he.trans ⟨λk=>⟨by omega,k.2⟩,λk=>⟨by omega,k.2⟩⟩)
variable {c d:Iv}
theorem avh (e:sqF a p=(c,0)) (f:sqF b q=(d,0)) (hpq:p<=q) (h:SubI b a):SubI d c:=by
 obtain⟨o,l1,h1,e1,_,gl1,gh1,v1,w1,x1,y1⟩:=aup e;obtain⟨o',l2,h2,e2,_,gl2,gh2,v2,w2,x2,y2⟩:=aup f;obtain⟨_,_,Y,_⟩:=ay h.lo.l;obtain⟨_,_,Z,_⟩:=ay h.lo.h;obtain⟨_,_,V,_⟩:=ay h.self.l;obtain⟨_,_,J,_⟩:=ay h.self.h;have p0:0<=p:=by
  unfold F1 at o;simp only[za2,zdw] at o;exact o.1.2.1
 rw[ahN p0] at gl1 gh1 x1 y1;rw[ahN (by omega)] at gl2 gh2 x2 y2;have A:=at8 Y gl1;have B:=at8 Z gh1;have C:=at8 V gl2;have D:=at8 J gh2;rw[afb] at A B C D x1 y1 x2 y2;obtain⟨E,E0,hT,_⟩:=auk (m:=0) p0 hpq;have k1:=h.lo.lo;have k2:=h.hi.hi;have k3:=h.self.hi;unfold qV at k1 k2 k3;rw[apQ Y V] at k1;rw[apQ J Z] at k2;rw[apQ V J] at k3;have t0:=apy p.toNat;have t1:=apy q.toNat;have sc: ∀{l d n T:Int},l*l*d<=n*T*T->(l*E)*(l*E)*d<=n*(T*E)*(T*E):=λ{l d n T} h=>by
  have:=Int.mul_le_mul_of_nonneg_right h (sqn E);have e1:l*l*d*(E*E)=(l*E)*(l*E)*d:=by grind
  have e2:n*T*T*(E*E)=n*(T*E)*(T*E):=by grind
  omega
 have sc': ∀{l d n T:Int},n*T*T<=l*l*d->n*(T*E)*(T*E)<=(l*E)*(l*E)*d:=λ{l d n T} h=>by
  have:=Int.mul_le_mul_of_nonneg_right h (sqn E);have e1:l*l*d*(E*E)=(l*E)*(l*E)*d:=by grind
  have e2:n*T*T*(E*E)=n*(T*E)*(T*E):=by grind
  omega
 have i1:qV c.1<=qV d.1:=by
  rw[x1,x2,apQ t0 t1,hT,<-Int.mul_assoc,Int.mul_right_comm];refine Int.mul_le_mul_of_nonneg_right (C.max _ (Int.mul_nonneg A.m0 (Int.le_of_lt E0)) ?_) (Int.le_of_lt t0);rw[hT];exact sc (auO Y V k1 A.lo)
 have i2:qV d.2<=qV c.2:=by
  rw[y1,y2,apQ t1 t0,hT,<-Int.mul_assoc,Int.mul_right_comm _ _ E];refine Int.mul_le_mul_of_nonneg_right (D.min _ (Int.mul_nonneg B.h0 (Int.le_of_lt E0)) ?_) (Int.le_of_lt t0);rw[hT];exact sc' (ava Z J k2 B.hi)
 have i3:qV d.1<=qV d.2:=by
  rw[x2,y2,apQ t1 t1];refine Int.mul_le_mul_of_nonneg_right (avo D.h0 ?_) (Int.le_of_lt t1);exact Int.le_of_mul_le_mul_right (Int.le_trans (auO V J k3 C.lo) D.hi) J
 exact⟨⟨v2,w2,Rat.le_refl,i3⟩,⟨v1,w1,i1,Rat.le_trans i3 i2⟩,⟨v1,w1,Rat.le_trans i1 i3,i2⟩⟩
def SubL (m l:List Iv):Prop:=m.length=l.length/\ ∀j,j<l.length->SubI (mb noI m j) (mb noI l j)
variable {y:Iv}
theorem SubL.snoc {m:List Iv} (h:SubL m l) (V:SubI x y):SubL (m++ [x]) (l++ [y]):=by
 refine⟨by simp[h.1],λj J=> ?_⟩;rw[aS,aS,h.1];split
 ·exact V
 ·exact h.2 j (by simp at J;omega)
variable {il im:List Iv}
theorem avb (Y:p<=q) {li lm:List Iv} {x:Nd} {z:Iv} (J:NodeOK ni li.length x) (hni:il.length=ni) (hc:x.op=1->rV x.v=true) (hI:SubL im il) (hL:SubL lm li) (h1:ack (sqP p) il li x=some y) (h2:ack (sqP q) im lm x=some z):SubI z y:=by
 obtain⟨o1,o2⟩:=J.op;have at_: ∀z:Int,0<=z->z<li.length->SubI (mb noI lm z.toNat) (mb noI li z.toNat):=λz a b=>hL.2 z.toNat (by omega);unfold ack at h1 h2;rcases(show x.op=1\/x.op=2\/x.op=3\/x.op=4\/x.op=5\/x.op=6\/x.op=7\/x.op=8 by omega) with o|o|o|o|o|o|o|o<;>rw[o] at h1 h2
 ·replace h1:some (ptI x.v)=some y:=h1;replace h2:some (ptI x.v)=some z:=h2;simp only[za1] at h1 h2;subst h1;subst h2;exact SubI.refl (apH (hc o))
 ·replace h1:some (mb noI il x.n.toNat)=some y:=h1;replace h2:some (mb noI im x.n.toNat)=some z:=h2;simp only[za1] at h1 h2;subst h1;subst h2;have:=J.inp o;exact hI.2 x.n.toNat (by omega)
 ·have l:=J.left (by omega);have r:=J.right (by omega) (by omega);exact au3 (uu h1) (uu h2) (at_ _ l.1 l.2) (at_ _ r.1 r.2)
 ·have l:=J.left (by omega);have r:=J.right (by omega) (by omega);exact au4 (uu h1) (uu h2) (at_ _ l.1 l.2) (at_ _ r.1 r.2)
 ·have l:=J.left (by omega);have r:=J.right (by omega) (by omega);exact auC (uu h1) (uu h2) (at_ _ l.1 l.2) (at_ _ r.1 r.2)
 ·have l:=J.left (by omega);have r:=J.right (by omega) (by omega);exact auD (uu h1) (uu h2) (at_ _ l.1 l.2) (at_ _ r.1 r.2)
 ·have l:=J.left (by omega);have a:=at_ _ l.1 l.2
  replace h1:(match th (mb noI li x.l.toNat) (jH x.n).toNat with
   |some v=>bif decide (x.n<0) then okI (ac7 (ptI rI) v) else some v
   |none=>none)=some y:=h1
  replace h2:(match th (mb noI lm x.l.toNat) (jH x.n).toNat with
   |some v=>bif decide (x.n<0) then okI (ac7 (ptI rI) v) else some v
   |none=>none)=some z:=h2
  cases e1:th (mb noI li x.l.toNat) (jH x.n).toNat with
  |none=>rw[e1] at h1;cases h1
  |some u=>
   cases V:th (mb noI lm x.l.toNat) (jH x.n).toNat with
   |none=>rw[V] at h2;cases h2
   |some v=>
    rw[e1] at h1;rw[V] at h2;dsimp only at h1 h2;have q:=auu a e1 V;cases Z:decide (x.n<0) with
    |false=>
     rw[Z,zdt,za1] at h1 h2;subst h1;subst h2;exact q
    |true=>
     rw[Z,zdu] at h1 h2;exact auD (uu h1) (uu h2) (SubI.refl (apH (by decide))) q
 ·have l:=J.left (by omega);exact avh (uu h1) (uu h2) Y (at_ _ l.1 l.2)
theorem aux {a b:Int} (V:a<=b) {p:Pr} (hv:VM p=true) {il im:List Iv} (hl:il.length=p.inp.length) (hI:SubL im il): ∀{nod:ze3} {k:Nat} {li lm:List Iv} {L M:List Iv},p.nod.drop k=nod->li.length=k->SubL lm li->alE (sqP a) a il nod li=some L->alE (sqP b) b im nod lm=some M->SubL M L/\L.length=li.length+nod.length
 | [],k,li,lm,L,M,_,_,h,h1,h2=>by
   simp only[alE,za1] at h1 h2;subst h1;subst h2;exact⟨h,rfl⟩
 |x::r,k,li,lm,L,M,Y,hk,h,h1,h2=>by
  simp only[alE] at h1 h2;have J:k<p.nod.length:=by
   rcases zah k p.nod.length with h|h
   ·exact h
   ·rw[List.drop_eq_nil_of_le h] at Y;cases Y
  rw[zaH J] at Y;have hx:mb noN p.nod k=x:=by
   rw[bR (zaa J)];exact(List.cons.inj Y).1
  have hn:=(bQ hv).2 k J;have hc:=zA hv J;rw[hx] at hn hc;cases e1:ack (sqP a) il li x with
  |none=>rw[e1] at h1;cases h1
  |some y=>
   cases Z:ack (sqP b) im lm x with
   |none=>rw[Z] at h2;cases h2
   |some w=>
    rw[e1] at h1;rw[Z] at h2;simp only[ajn] at h1 h2;cases e3:okI (aeA y a) with
    |none=>rw[e3] at h1;cases h1
    |some z=>
     cases e4:okI (aeA w b) with
     |none=>rw[e4] at h2;cases h2
     |some t=>
      rw[e3] at h1;rw[e4] at h2;have q:=avb V (ni:=p.inp.length) (by rw[hk];exact hn) hl hc hI h e1 Z;obtain⟨g1,g2⟩:=aux V hv hl hI (k:=k+1) (List.cons.inj Y).2 (by simp[hk]) (h.snoc (au5 (uu e3) (uu e4) V q)) h1 h2;exact⟨g1,by rw[g2];simp;omega⟩
theorem aui {sq:Iv->Iv×Int} {p:Pr} (h:ah5 sq p il pl=(c,0)):VM p=true/\il.length=p.inp.length/\il.all vI=true/\ ∃L,alE sq pl il p.nod []=some L/\agP L=c:=by
 unfold ah5 at h;cases V:VM p with
 |false=>rw[V] at h;exact absurd (show (90:Int)=0 from congrArg Prod.snd h) (by decide)
 |true=>
  cases J:(il.length !=p.inp.length|| !il.all vI) with
  |true=>rw[V,zbh,zbi,J] at h;exact absurd (show (90:Int)=0 from congrArg Prod.snd h) (by decide)
  |false=>
   rw[V,zbh,zbi,J,zdt] at h;simp only[zbs,bne_eq_false_iff_eq,Bool.not_eq_false'] at J;cases e1:alE sq pl il p.nod [] with
   |none=>rw[e1] at h;exact absurd (show (90:Int)=0 from congrArg Prod.snd h) (by decide)
   |some L=>
    rw[e1] at h;exact⟨rfl,J.1,J.2,L,rfl,congrArg Prod.fst h⟩
theorem avi {p:Pr} {a b:Int} (J:a<=b) (h1:dR p il a=(c,0)) (h2:dR p im b=(d,0)) (hI:SubL im il):SubI d c:=by
 obtain⟨Y,hl,_,L,e1,f1⟩:=aui h1;obtain⟨_,_,_,M,Z,f2⟩:=aui h2;obtain⟨g1,g2⟩:=aux J Y hl hI (k:=0) (nod:=p.nod) (li:= []) (lm:= []) rfl rfl ⟨rfl,λj hj=>absurd hj (zbn j)⟩ e1 Z;have hn:=Wb.1 (bQ Y).1;have V:1<=L.length:=by rw[g2];have:=hn.2.2.1;simp;omega
 have:=g1.2 (L.length - 1) (by omega);unfold agP at f1 f2;rw[g1.1] at f2;rwa[f1,f2] at this
def inF (x:Iv) (k:Int):RS:=(fZ x.1 (ale (iF x.2 x.1).1 (rMk (co k 101) 100).1).1).1
def hH (l:List Iv) (ks:List Int) (n:Nat):List RS:=Go.Sy.tab (λj=>inF (mb noI l j) (mb 0 ks j)) n
theorem aqd {n d:Int} (h:rV (rMk n d).1=true):(rMk n d).2=0:=by
 unfold rMk at*
 split
 ·rfl
 ·rename_i c;rw[if_neg c] at h;exact absurd h (by decide)
variable {a b:RS}
theorem aq3 (h:rV (fZ a b).1=true):(fZ a b).2=0/\rV b=true:=by
 unfold fZ at*
 split
 ·rename_i c;rw[if_pos c] at h;simp only[za2] at c;exact⟨aqd h,c.1.1.2⟩
 ·rename_i c;rw[if_neg c] at h;exact absurd h (by decide)
theorem aq4 (h:rV (iF a b).1=true):(iF a b).2=0:=by
 unfold iF at*
 split
 ·rename_i c;rw[if_pos c] at h;exact aqd h
 ·rename_i c;rw[if_neg c] at h;exact absurd h (by decide)
theorem aq5 (h:rV (ale a b).1=true):(ale a b).2=0/\rV a=true:=by
 unfold ale at*
 split
 ·rename_i c;rw[if_pos c] at h;simp only[za2] at c;exact⟨aqd h,c.1⟩
 ·rename_i c;rw[if_neg c] at h;exact absurd h (by decide)
theorem aqO {a b t:Rat} (h:a<=b) (h0:0<=t) (h1:t<=1):a<=a+(b - a)*t/\a+(b - a)*t<=b:=by
 have h2:0<=b - a:=by grind
 have h3:0<=(b - a)*t:=Rat.mul_nonneg h2 h0;have h4:0<=(b - a)*(1 - t):=Rat.mul_nonneg h2 (by grind);constructor<;>grind
theorem aq6 {x:Iv} {k:Int} (Z:vI x=true) (h:rV (inF x k)=true):InI x (qV (inF x k)):=by
 obtain⟨v1,v2,J⟩:=ajh.1 Z;obtain⟨b0,b1⟩:=gR k (n:=101) (by decide);obtain⟨f1,f2⟩:=A9 (n:=co k 101) (d:=100) (k:=4) ⟨by decide,by decide⟩ ⟨by omega,by omega⟩ ⟨by decide,by decide⟩;unfold inF at h ⊢;obtain⟨V,Y⟩:=aq3 h;obtain⟨m1,m2⟩:=aq5 Y;rw[(anJ V).2,(am2 m1).2,(anK (aq4 m2)).2,f2,zd2];have c0:(0:Rat)<=((co k 101:Int):Rat):=by exact_mod_cast b0
 have c1:((co k 101:Int):Rat)<=100:=by exact_mod_cast (show co k 101<=100 by omega)
 obtain⟨l,r⟩:=aqO (t:=((co k 101:Int):Rat) / ((100:Int):Rat)) J (by grind) (by grind);exact⟨v1,v2,l,r⟩
def RQ (y:I4):zdN:= [.val (.int .i64 y.1), .val (.int .i64 y.2.1), .val (.int .i64 y.2.2.1), .val (.int .i64 y.2.2.2)]
def Ud:List SV->I4
 | [.val (.int .i64 a), .val (.int .i64 b), .val (.int .i64 c), .val (.int .i64 d)]=>(a,b,c,d)
 |_=>(0,0,0,0)
def e4:El I4:={sz:=4,sv:=RQ,of:=Ud,d:=(0,0,0,0),rt:=λ_=>rfl,ids:=λ_=>rfl,len:=λ_=>rfl,one:=by decide}
def uz4 (y:I4):Bool:=cl y.1&&cl y.2.1&&cl y.2.2.1&&cl y.2.2.2
structure Cas where
 a:Int×Int×Int
 k:Int
 x:List I4
 e:Bool
 v:(Int×Int)×(Int×Int)×(Int×Int)
def Cas.ok (c:Cas):Bool:=cl c.a.1&&cl c.a.2.1&&cl c.a.2.2&&cl c.k&&c.x.all uz4&&cl c.v.1.1&&cl c.v.1.2&&cl c.v.2.1.1&&cl c.v.2.1.2&&cl c.v.2.2.1&&cl c.v.2.2.2
def T9 (k:Int):Int:=F8 [2, -1,3, -2,1] (0+k.toNat)
def opF (y:I4):Int:=1+co y.1 8
def RR (ni n:Int) (y:I4):Nd:=
 bif opF y==1 then⟨opF y,(rMk (co y.2.1 13 - 6) (1+co y.2.2.1 4)).1,BL y.2.2.2,0,0,0⟩ else
 bif opF y==2 then⟨opF y,VI,noU,co y.2.1 ni,0,0⟩ else
 bif opF y==7 then⟨opF y,VI,noU,T9 (co y.2.2.1 5),co y.2.1 n,0⟩ else
 bif opF y==8 then⟨opF y,VI,noU,0,co y.2.1 n,0⟩ else⟨opF y,VI,noU,0,co y.2.1 n,co y.2.2.1 n⟩
def TH (ex:Bool) (inp:ze2) (y:I4) (z:List Nd×List Un):List Nd×List Un:=
 match mn inp z.2 (RR inp.length z.1.length y) with
 |some u=>bif !ex||opF y !=8 then(z.1++ [RR inp.length z.1.length y],z.2++ [u]) else z
 |none=>z
def RT (ex:Bool) (inp:ze2):List I4->List Nd×List Un->List Nd×List Un
 | [],z=>z
 |y::r,z=>bif decide (z.1.length<14) then RT ex inp r (TH ex inp y z) else z
def QQ (a:Int×Int×Int) (k:Nat):ze2:=Go.Sy.tab (λj=>BL (mb 0 [a.1,a.2.1,a.2.2] j)) k
def R9 (k:Nat):ze3:=Go.Sy.tab (λj=>nIn j) k
def Rb (a:Int×Int×Int) (count:Int) (xs:List I4) (ex:Bool):List Nd×List Un:=RT ex (QQ a ((co count 3).toNat+1)) xs (R9 ((co count 3).toNat+1),QQ a ((co count 3).toNat+1))
def Bd (a:Int×Int×Int) (count:Int) (xs:List I4) (ex:Bool):Pr:=
 ⟨1+co count 900,QQ a ((co count 3).toNat+1),(Rb a count xs ex).1,ly (Rb a count xs ex).2⟩
theorem Rv {inp:ze2} {x:Nd} {u:Un}: ∀{l:ze3} {us vs:ze2},iB inp l us=(vs,true)->mn inp vs x=some u->iB inp (l++ [x]) us=(vs++ [u],true)
 | [],us,vs,h,k=>by
   simp only[iB,zag,and_true] at h;subst h;simp only[zaM,iB,k]
 |y::r,us,vs,h,k=>by
  simp only[zaO,iB] at h ⊢;cases e:mn inp us y with
  |none=>rw[e] at h;simp only[zag] at h;cases h.2
  |some v=>rw[e] at h;exact Rv h k
structure MadOK (inp:List Un) (z:List Nd×List Un):Prop where
 len:z.2.length=z.1.length
 pos:1<=z.1.length
 le:z.1.length<=14
 un:iB inp z.1 []=(z.2,true)
 szn: ∀x∈z.1,szN x=true
 szu: ∀u∈z.2,szB u=true
theorem RK (p:Un->Bool) (h: [aT 0,aT 2,{aT 0 with f:=(⟨#[49]⟩,⟨#[49,48,48,48]⟩)},(fd (aT 0) (aT 0)).1,{aT 4 with s:=0,o:=(⟨#[53,52,54,51]⟩,⟨#[50,48]⟩)},aT 4,(mi (aT 0) (aT 0)).1].all p=true) (n:Int):p (BL n)=true:=by
 have B: ∀(b:Bool) (x y:Un),p x=true->p y=true->p (cond b x y)=true:=λb x y h k=>by cases b;exact k;exact h
 simp only[List.all_cons,List.all_nil,zaQ,za2] at h;unfold BL;exact B _ _ _ h.1 (B _ _ _ h.2.1 (B _ _ _ h.2.2.1 (B _ _ _ h.2.2.2.1 (B _ _ _ h.2.2.2.2.1 (B _ _ _ h.2.2.2.2.2.1 h.2.2.2.2.2.2)))))
theorem QY (n:Int):szB (BL n)=true:=RK szB (by kernel_rfl) n
theorem Sr (ni n:Int) (y:I4):szN (RR ni n y)=true:=by
 have B: ∀(b:Bool) (x y:Nd),szN x=true->szN y=true->szN (cond b x y)=true:=λb x y h k=>by cases b;exact k;exact h
 unfold RR;refine B _ _ _ ?_ (B _ _ _ lB (B _ _ _ lB (B _ _ _ lB lB)));show (uzR (rMk _ _).1&&szB (BL _))=true;rw[alg,QY];rfl
theorem MadOK.step {ex:Bool} {inp:ze2} {y:I4} {z:List Nd×List Un} (hi: ∀u∈inp,szB u=true) (h:MadOK inp z) (hl:z.1.length<14):MadOK inp (TH ex inp y z):=by
 unfold TH;split
 ·rename_i u V;cases !ex||opF y !=8 with
  |false=>exact h
  |true=>
   have Y:=Sr inp.length z.1.length y;refine⟨by simp[h.len],by simp,by simp;omega,Rv h.un V,λx J=> ?_,λv Z=> ?_⟩
   ·rcases za8.1 J with a|a
    ·exact h.szn x a
    ·rw[zaj.1 a];exact Y
   ·rcases za8.1 Z with a|a
    ·exact h.szu v a
    ·rw[zaj.1 a];exact CR Y hi h.szu V
 ·exact h
theorem MadOK.all {ex:Bool} {inp:ze2} (hi: ∀u∈inp,szB u=true): ∀{xs:List I4} {z:List Nd×List Un},MadOK inp z->MadOK inp (RT ex inp xs z)
 | [],z,h=>h
 |y::r,z,h=>by
  unfold RT;cases J:decide (z.1.length<14) with
  |false=>exact h
  |true=>exact MadOK.all hi (h.step hi (zdx J))
theorem QT {a:Int×Int×Int} {p:Un->Bool} (hp: ∀n,p (BL n)=true): ∀{k:Nat},∀u∈QQ a k,p u=true
 |0,u,h=>by cases h
 |k+1,u,h=>by
  rcases za8.1 h with h|h
  ·exact QT hp u h
  ·rw[zaj.1 h];exact hp _
variable {k:Nat}
theorem QR {a:Int×Int×Int} :(QQ a k).length=k:=fJ _ _
theorem QZ:(R9 k).length=k:=fJ _ _
theorem Si {a:Int×Int×Int} {K:Nat}: ∀{k:Nat},k<=K->iB (QQ a K) (R9 k) []=(QQ a k,true)
 |0,_=>rfl
 |k+1,h=>Rv (Si (Nat.le_of_succ_le h)) (by
  have e:mb noU (QQ a K) k=BL (mb 0 [a.1,a.2.1,a.2.2] k):=bR (qX _ (by omega));have f:VT (QQ a k).length (nIn k)=true:=rfl;have u:fL (QQ a K) (QQ a k) (nIn k)=(BL (mb 0 [a.1,a.2.1,a.2.2] k),0):=by
   show (bif decide (0<=((k:Nat):Int))&&decide (((k:Nat):Int)<((QQ a K).length:Int)) then(mb noU (QQ a K) ((k:Nat):Int).toNat,0) else(noU,90))=_;rw[QR,zds (by omega),zds (by omega),zd4,e];rfl
  show mn (QQ a K) (QQ a k) (nIn k)=some (BL (mb 0 [a.1,a.2.1,a.2.2] k));unfold mn
  rw[f,u];rfl)
theorem RU: ∀{k:Nat},∀x∈R9 k,szN x=true
 |0,x,h=>by cases h
 |k+1,x,h=>by
  rcases za8.1 h with h|h
  ·exact RU x h
  ·rw[zaj.1 h];exact lB
section
variable {a:Int×Int×Int} {count:Int} {xs:List I4} {ex:Bool}
theorem Rc:1<=(co count 3).toNat+1/\(co count 3).toNat+1<=3:=by
 have:=gR count (n:=3) (by decide);omega
theorem Sj:MadOK (QQ a ((co count 3).toNat+1)) (Rb a count xs ex):=by
 have:=Rc (count:=count);exact MadOK.all (QT QY) ⟨by rw[QR,QZ],by rw[QZ];exact this.1,by rw[QZ];omega,Si (za0 _),RU,QT QY⟩
theorem SO {us:ze2} (h: ∀u∈us,szB u=true):szB (ly us)=true:=eH h _
theorem Tn:aci (Bd a count xs ex)=true:=by
 have h:=Sj (a:=a) (count:=count) (xs:=xs) (ex:=ex);unfold aci;rw[show (Bd a count xs ex).inp.all szB=true from zaf.2 (QT QY),show (Bd a count xs ex).nod.all szN=true from zaf.2 h.szn,show szB (Bd a count xs ex).out=true from SO h.szu];rfl
theorem Sb:1<=(Bd a count xs ex).inp.length/\(Bd a count xs ex).inp.length<=3/\1<=(Bd a count xs ex).nod.length/\(Bd a count xs ex).nod.length<=14:=by
 have h:=Sj (a:=a) (count:=count) (xs:=xs) (ex:=ex);have n:=Rc (count:=count);refine⟨?_, ?_,h.pos,h.le⟩
 ·show 1<=(QQ a _).length;rw[QR];omega
 ·show (QQ a _).length<=3;rw[QR];omega
end
def tyF (inp us:ze2) (x:Nd):Un×Int:=match mn inp us x with
 |some u=>(u,0)
 |none=>(noU,90)
def tyB (p:Pr) (us:ze2):zdX:= [eU.old p.inp,eN.old p.nod,eU.old us]
def tyA (p:Pr) (us:ze2) (x:Nd) (at_:Int):zdN:= [kB p, .agg (svN x),cI.enc at_, .slc 2 0 us.length]
abbrev Re (op:Int) (p:Pr) (us:ze2) (x:Nd) (at_:Int) (Q:zdU):Prop:=JL [] (λ_ _=>none) 6 73 (tyA p us {x with op:=op} at_) (tyB p us) (Go.Sy.okK λr _ _ _=>Q r)
def QS:SV:= .tup [.agg (ci noU), .val (.int .i64 90)]
def RA (u:Un):SV:= .tup [.agg (ci u), .val (.int .i64 0)]
def Ss (r:Un×Int) (Q:zdU):Prop:=ag (r.2 !=0) (Q QS) (Q (RA r.1))
def wiB (n lo hi:Int):Bool:=bif decide (n≥lo) then decide (n<=hi) else false
def TM (x:Nd) (Q:zdU):Prop:=af (uzR x.v) (af (aH x.u) (ag (!(bif (bif eqN {x with op:=1} {noN with op:=1,v:=x.v,u:=x.u} then rV x.v else false) then iy x.u else false)) (Q QS) (Q (RA x.u))))
def TN (p:Pr) (x:Nd) (Q:zdU):Prop:=af (dC (eqN {x with op:=2} {noN with op:=2,n:=x.n}) (inR .i64 ((p.inp.length:Int) - 1))) (ag (eqN {x with op:=2} {noN with op:=2,n:=x.n})
 (ag (!wiB x.n 0 ((p.inp.length:Int) - 1)) (Q QS) (eO p.inp.length x.n (Q (RA (mb noU p.inp (0+x.n.toNat)))))) (Q QS))
def SG (op:Int) (f:Un->Un->Un×Int) (us:ze2) (x:Nd) (a:Int) (Q:zdU):Prop:=
 af (dC (eqN {x with op:=op} {noN with op:=op,l:=x.l,r:=x.r}) (inR .i64 (a - 1))) (ag (eqN {x with op:=op} {noN with op:=op,l:=x.l,r:=x.r})
  (af (dC (wiB x.l 0 (a - 1)) (inR .i64 (a - 1))) (ag (wiB x.l 0 (a - 1)) (ag (!wiB x.r 0 (a - 1)) (Q QS) (pL us x λu v=>Ss (f u v) Q)) (Q QS)))
  (af (dC false (inR .i64 (a - 1))) (Q QS)))
def TO (us:ze2) (x:Nd) (a:Int) (Q:zdU):Prop:=
 af (dC (eqN {x with op:=7} {noN with op:=7,n:=x.n,l:=x.l}) (inR .i64 (a - 1))) (ag (eqN {x with op:=7} {noN with op:=7,n:=x.n,l:=x.l})
  (ag (wiB x.l 0 (a - 1)) (ag (!(bif wiB x.n (-4) 4 then x.n !=0 else false)) (Q QS) (eO us.length x.l (eO us.length x.r (af (aH (mb noU us (0+x.l.toNat))) (Ss (jm (mb noU us (0+x.l.toNat)) (x.n,1)) Q))))) (Q QS)) (Q QS))
def TP (us:ze2) (x:Nd) (a:Int) (Q:zdU):Prop:=
 af (dC (eqN {x with op:=8} {noN with op:=8,l:=x.l}) (inR .i64 (a - 1))) (ag (eqN {x with op:=8} {noN with op:=8,l:=x.l})
  (ag (!wiB x.l 0 (a - 1)) (Q QS) (eO us.length x.l (eO us.length x.r (af (aH (mb noU us (0+x.l.toNat))) (Ss (jm (mb noU us (0+x.l.toNat)) (1,2)) Q))))) (Q QS))
theorem TQ (p:Pr) (us:ze2) (x:Nd) (a:Int) (Q:zdU):Re 1 p us x a Q=TM x Q:=by kernel_rfl
theorem TR (p:Pr) (us:ze2) (x:Nd) (a:Int) (Q:zdU):Re 2 p us x a Q=TN p x Q:=by kernel_rfl
theorem TS (p:Pr) (us:ze2) (x:Nd) (a:Int) (Q:zdU):Re 3 p us x a Q=SG 3 iS us x a Q:=by kernel_rfl
theorem TT (p:Pr) (us:ze2) (x:Nd) (a:Int) (Q:zdU):Re 4 p us x a Q=SG 4 fw us x a Q:=by kernel_rfl
theorem TU (p:Pr) (us:ze2) (x:Nd) (a:Int) (Q:zdU):Re 5 p us x a Q=SG 5 mi us x a Q:=by kernel_rfl
theorem TW (p:Pr) (us:ze2) (x:Nd) (a:Int) (Q:zdU):Re 6 p us x a Q=SG 6 fd us x a Q:=by kernel_rfl
theorem TX (p:Pr) (us:ze2) (x:Nd) (a:Int) (Q:zdU):Re 7 p us x a Q=TO us x a Q:=by kernel_rfl
theorem TY (p:Pr) (us:ze2) (x:Nd) (a:Int) (Q:zdU):Re 8 p us x a Q=TP us x a Q:=by kernel_rfl
def SZ:MCtr:=λbl _ args=>match args with
 | [s, .agg cs, .val (.int .i64 at_),t]=>match mC bl s,vW bl 20 t with
   |some a,some (b,_,n,g)=>some {X:=Unit,pre:=a.need&&b&&bW n&&eU.good szB n g&&ndB cs&&szN (Vh cs)&&decide (at_=(n:Int))&&decide (1<=(Vh cs).op)&&decide ((Vh cs).op<=8),spec:=λ_=>True,out:=λ_=> .tup [.agg (ci (tyF a.p.inp (eU.list n g) (Vh cs)).1), .val (.int .i64 (tyF a.p.inp (eU.list n g) (Vh cs)).2)],ex:=λ_=>⟨(),trivial⟩}
   |_,_=>none
 |_=>none
theorem Wn {x y:Nd}:eqN x y=true↔x=y:=by
 obtain⟨J,V,Y,Z,a5,a6⟩:=x;obtain⟨b1,b2,b3,b4,b5,b6⟩:=y;simp only[eqN,za2,zdB,Wg,Wh,Nd.mk.injEq,and_true]
theorem Rf {a b c d:Nd} (h:a=b↔c=d):eqN a b=eqN c d:=by
 rw[zax,Wn,Wn];exact h
theorem Q4 {n:Nat} {i:Int}:wiB i 0 ((n:Int) - 1)=Go.Proofs.YtldflkomhbfceaaGreatDoor.earF n i:=by
 rw[zax,V2];unfold wiB;by_cases h:i≥0
 ·rw[zds h,zdu,zdw];omega
 ·rw[zdv h,zdt];simp;omega
theorem Q5 {a b:Bool} {K:Prop} (h:b=true) (k:K):af (dC a b) K:=ac (yd h) k
section
variable {inp us:ze2} {x:Nd} {Q:zdU}
theorem tyQ (h:Q (.tup [.agg (ci (tyF inp us x).1), .val (.int .i64 (tyF inp us x).2)])):(mn inp us x=none->Q QS)/\(∀u,mn inp us x=some u->Q (RA u)):=by
 unfold tyF at h;exact⟨λe=>by rw[e] at h;exact h,λu e=>by rw[e] at h;exact h⟩
theorem QW (h:VT us.length x=false):mn inp us x=none:=by unfold mn;rw[h];rfl
theorem Q6 (h:VT us.length x=true):mn inp us x=bif (fL inp us x).2==0 then some (fL inp us x).1 else none:=by unfold mn;rw[h];rfl
theorem Rx {r:Un×Int} (V:VT us.length x=true) (Z:fL inp us x=r) (J:mn inp us x=none->Q QS) (Y: ∀u,mn inp us x=some u->Q (RA u)):Ss r Q:=by
 have t:=Q6 (inp:=inp) V;rw[Z] at t;refine ah (λh=>J ?_) (λh=>Y _ ?_)
 ·rw[t,show (r.2==0)=false by simpa using h];rfl
 ·rw[t,show (r.2==0)=true by simpa using h];rfl
theorem TZ (o:x.op=1) (Y:szN x=true) (Z:mn inp us x=none->Q QS) (ho: ∀u,mn inp us x=some u->Q (RA u)):TM x Q:=by
 unfold szN at Y;rw[za2] at Y;have V:VT us.length x=eqN {x with op:=1} {noN with op:=1,v:=x.v,u:=x.u}:=by
  unfold VT;rw[o];exact Rf (by obtain⟨a1,a2,a3,a4,a5,a6⟩:=x;simp[noN])
 have J:fL inp us x=bif rV x.v&&VK x.u then(x.u,0) else(noU,90):=by unfold fL;rw[o];rfl
 unfold TM;rw[<-V,jE];refine ac Y.1 (ac Y.2 (ah (λh=>Z ?_) (λh=>ho _ ?_)))
 ·cases f:VT us.length x with
  |false=>exact QW f
  |true=>
   rw[Q6 f,J];rw[f] at h;cases a:rV x.v with
   |false=>rfl
   |true=>cases b:VK x.u with
    |false=>rfl
    |true=>rw[a,b] at h;cases h
 ·cases f:VT us.length x with
  |false=>rw[f] at h;cases h
  |true=>
   rw[Q6 f,J];rw[f] at h;cases a:rV x.v with
   |false=>rw[a] at h;cases h
   |true=>cases b:VK x.u with
    |false=>rw[a,b] at h;cases h
    |true=>rfl
theorem T0 {p:Pr} (hp:p.inp=inp) (hl:inp.length<=1000000) (o:x.op=2) (Z:mn inp us x=none->Q QS) (ho: ∀u,mn inp us x=some u->Q (RA u)):TN p x Q:=by
 subst hp;have V:VT us.length x=eqN {x with op:=2} {noN with op:=2,n:=x.n}:=by
  unfold VT;rw[o];show eqN ⟨0,x.v,x.u,0,x.l,x.r⟩ noN=_;exact Rf (by obtain⟨a1,a2,a3,a4,a5,a6⟩:=x;simp[noN])
 have J:fL p.inp us x=bif decide (0<=x.n)&&decide (x.n<(p.inp.length:Int)) then(mb noU p.inp x.n.toNat,0) else(noU,90):=by unfold fL;rw[o];rfl
 unfold TN;rw[<-V];refine Q5 (VP.2 (by omega)) (ah (λf=>ah (λh=>Z ?_) (λh=> ?_)) (λf=>Z (QW f)))
 ·rw[Q6 f,J];rw[Q4] at h;have:earF p.inp.length x.n=false:=by simpa using h
  rw[show (decide (0<=x.n)&&decide (x.n<(p.inp.length:Int)))=false from this];rfl
 ·rw[Q4] at h;have Y:earF p.inp.length x.n=true:=by simpa using h
  have e:=V2.1 Y;refine aY e.1 e.2 (ho _ ?_);rw[Q6 f,J,show (decide (0<=x.n)&&decide (x.n<(p.inp.length:Int)))=true from Y,za7];rfl
variable {a:Int}
theorem RV {op:Int} {f:Un->Un->Un×Int} (o:x.op=op) (hop:3<=op/\op<=6) (ha:a=(us.length:Int)) (hl:us.length<=1000000) (hu: ∀u∈us,szB u=true) (V:fL inp us x=f (mb noU us x.l.toNat) (mb noU us x.r.toNat)) (Y:mn inp us x=none->Q QS) (ho: ∀u,mn inp us x=some u->Q (RA u)):SG op f us x a Q:=by
 subst ha;have J:VT us.length x=(eqN {x with op:=op} {noN with op:=op,l:=x.l,r:=x.r}&&earF us.length x.l&&earF us.length x.r):=by
  unfold VT;rw[zdz (show x.op≠1 by omega),zdz (show x.op≠2 by omega),zds (show 3<=x.op by omega),zds (show x.op<=6 by omega)];show (eqN ⟨0,x.v,x.u,x.n,0,0⟩ noN&&_&&_)=_;rw[Rf (a:=⟨0,x.v,x.u,x.n,0,0⟩) (b:=noN) (c:={x with op:=op}) (d:={noN with op:=op,l:=x.l,r:=x.r}) (by obtain⟨a1,a2,a3,a4,a5,a6⟩:=x;simp[noN])]
 unfold SG;rw[Q4,Q4];generalize eqN {x with op:=op} {noN with op:=op,l:=x.l,r:=x.r}=e at J;have r:inR .i64 ((us.length:Int) - 1)=true:=VP.2 (by omega);refine Q5 r (ah (λh1=>Q5 r (ah (λh2=>ah (λh3=>Y (QW ?_)) (λh3=> ?_)) (λh2=>Y (QW ?_)))) (λh1=>Q5 r (Y (QW ?_))))
 ·rw[J,show earF us.length x.r=false by simpa using h3,Bool.and_false]
 ·have h3:earF us.length x.r=true:=by simpa using h3
  have Z:=V2.1 h2;have e3:=V2.1 h3;unfold pL;rw[za7,za7];exact aY Z.1 Z.2 (aY e3.1 e3.2 (ac (by rw[eH hu,eH hu];rfl) (Rx (by rw[J,h1,h2,h3];rfl) V Y ho)))
 ·rw[J,h2,Bool.and_false];rfl
 ·rw[J,h1];rfl
theorem T3 (o:x.op=7) (ha:a=(us.length:Int)) (hl:us.length<=1000000) (hu: ∀u∈us,szB u=true) (Y:mn inp us x=none->Q QS) (ho: ∀u,mn inp us x=some u->Q (RA u)):TO us x a Q:=by
 subst ha;have J:VT us.length x=(eqN {x with op:=7} {noN with op:=7,n:=x.n,l:=x.l}&&earF us.length x.l):=by
  unfold VT;rw[o];show (eqN ⟨0,x.v,x.u,0,0,x.r⟩ noN&&_)=_;rw[Rf (c:={x with op:=7}) (d:={noN with op:=7,n:=x.n,l:=x.l}) (by obtain⟨a1,a2,a3,a4,a5,a6⟩:=x;simp[noN])]
 have V:fL inp us x=(bif x.n==0||decide (x.n< -4)||decide (x.n>4) then(noU,90) else jm (mb noU us x.l.toNat) (x.n,1)):=by unfold fL;rw[o];rfl
 unfold TO;rw[Q4];have Z:eqN {x with op:=7} {noN with op:=7,n:=x.n,l:=x.l}=true->x.r=0:=λh=>by
  have:=Wn.1 h;exact congrArg Nd.r this
 generalize eqN {x with op:=7} {noN with op:=7,n:=x.n,l:=x.l}=e at J Z;refine Q5 (VP.2 (by omega)) (ah (λh1=>ah (λh2=>ah (λh3=>Y ?_) (λh3=> ?_)) (λh2=>Y (QW ?_))) (λh1=>Y (QW ?_)))
 ·rw[Q6 (by rw[J,h1,h2];rfl),V];have:(x.n==0||decide (x.n< -4)||decide (x.n>4))=true:=by
   simp only[zav,zdw,zdB];apply Classical.byContradiction;intro hc;have:wiB x.n (-4) 4=true:=by unfold wiB;rw[zds (by omega),zdu,zds (by omega)]
   rw[this,zdu,show (x.n !=0)=true by simp;omega] at h3;cases h3
  rw[this];rfl
 ·have e2:=V2.1 h2;have Z:=Z h1;have hn:x.n≠0/\ -4<=x.n/\x.n<=4:=by
   unfold wiB at h3;by_cases a:x.n≥ -4
   ·by_cases b:x.n<=4
    ·rw[zds a,zdu,zds b,zdu] at h3;simp at h3;omega
    ·rw[zds a,zdu,zdv b,zdt] at h3;cases h3
   ·rw[zdv a,zdt,zdt] at h3;cases h3
  rw[za7];refine aY e2.1 e2.2 (aY (by omega) (by omega) (ac (eH hu _) (Rx (by rw[J,h1,h2];rfl) ?_ Y ho)));rw[V,show (x.n==0||decide (x.n< -4)||decide (x.n>4))=false by simp;omega];rfl
 ·rw[J,h2,Bool.and_false]
 ·rw[J,h1];rfl
theorem T4 (o:x.op=8) (ha:a=(us.length:Int)) (hl:us.length<=1000000) (hu: ∀u∈us,szB u=true) (Y:mn inp us x=none->Q QS) (ho: ∀u,mn inp us x=some u->Q (RA u)):TP us x a Q:=by
 subst ha;have J:VT us.length x=(eqN {x with op:=8} {noN with op:=8,l:=x.l}&&earF us.length x.l):=by
  unfold VT;rw[o];show (eqN ⟨0,x.v,x.u,x.n,0,x.r⟩ noN&&_)=_;rw[Rf (c:={x with op:=8}) (d:={noN with op:=8,l:=x.l}) (by obtain⟨a1,a2,a3,a4,a5,a6⟩:=x;simp[noN])]
 have V:fL inp us x=jm (mb noU us x.l.toNat) (1,2):=by unfold fL;rw[o];rfl
 unfold TP;rw[Q4];have Z:eqN {x with op:=8} {noN with op:=8,l:=x.l}=true->x.r=0:=λh=>by
  have:=Wn.1 h;exact congrArg Nd.r this
 generalize eqN {x with op:=8} {noN with op:=8,l:=x.l}=e at J Z;refine Q5 (VP.2 (by omega)) (ah (λh1=>ah (λh2=>Y (QW ?_)) (λh2=> ?_)) (λh1=>Y (QW ?_)))
 ·rw[J,show earF us.length x.l=false by simpa using h2,Bool.and_false]
 ·have h2:earF us.length x.l=true:=by simpa using h2
  have e2:=V2.1 h2;have Z:=Z h1;rw[za7];exact aY e2.1 e2.2 (aY (by omega) (by omega) (ac (eH hu _) (Rx (by rw[J,h1,h2];rfl) V Y ho)))
 ·rw[J,h1];rfl
end
theorem Ue {C:RC} {src:zdW} {Cs:zdX} {nx:Nat} {gm:ze0} {ann:zdY} {n:Nat} {f:FuncId} {args:zdN} {r:SV} (x:C.X) (V:C.spec x) (h1:C.pan x=none) (h2:r.ids= []) (h3:C.out x=r) (h4:C.nw x= []) (h5:C.ch x= []) (h6: ∀C∈Cs,cN C.kd=false) (J:src.length=Cs.length)
 (h:JL gm ann n f args Cs (Go.Sy.okK λs _ _ _=>s=r)):JL gm ann n f args Cs (KB C src Cs nx):=Q8 h λq b m w hq=>by
 cases q with
 |pan v=>exact hq.elim
 |ok s=>
  obtain rfl:s=r:=hq;exact IG x V h1 h2 h3 h4 h5 h6 J
theorem T5 {p:Pr} {us:ze2} {x:Nd} {Q:zdU} (Y:us.length<=1000000) (hi:p.inp.length<=1000000) (Z: ∀u∈us,szB u=true) (hx:szN x=true) (hop:1<=x.op/\x.op<=8) (hQ:Q (.tup [.agg (ci (tyF p.inp us x).1), .val (.int .i64 (tyF p.inp us x).2)])):
 JL [] (λ_ _=>none) 6 73 (tyA p us x us.length) (tyB p us) (Go.Sy.okK λr _ _ _=>Q r):=by
 obtain⟨J,V⟩:=tyQ hQ;have E: ∀{op:Int},x.op=op->Re op p us x us.length Q->JL [] (λ_ _=>none) 6 73 (tyA p us x us.length) (tyB p us) (Go.Sy.okK λr _ _ _=>Q r):=λ{op} h k=>by
  rw[<-dW h];exact k
 rcases(show x.op=1\/x.op=2\/x.op=3\/x.op=4\/x.op=5\/x.op=6\/x.op=7\/x.op=8 by omega) with o|o|o|o|o|o|o|o
 ·exact E o (by rw[TQ];exact TZ o hx J V)
 ·exact E o (by rw[TR];exact T0 rfl hi o J V)
 ·exact E o (by rw[TS];exact RV o (by decide) rfl Y Z (by unfold fL;rw[o];rfl) J V)
 ·exact E o (by rw[TT];exact RV o (by decide) rfl Y Z (by unfold fL;rw[o];rfl) J V)
 ·exact E o (by rw[TU];exact RV o (by decide) rfl Y Z (by unfold fL;rw[o];rfl) J V)
 ·exact E o (by rw[TW];exact RV o (by decide) rfl Y Z (by unfold fL;rw[o];rfl) J V)
 ·exact E o (by rw[TX];exact T3 o rfl Y Z J V)
 ·exact E o (by rw[TY];exact T4 o rfl Y Z J V)
theorem ZR: ∀B:Base,GlobB B->VU Tryz.prog B 73 SZ:=Sh MOk.nil λbl nx args C Y hp=>by
 unfold SZ at Y;split at Y
 ·rename_i s cs at_ t;split at Y
  ·rename_i a b o n g ha ht;simp only[za1] at Y;subst Y;simp only[za2,zdw] at hp;obtain⟨⟨⟨⟨⟨⟨⟨⟨h0,rfl⟩,hn⟩,hg⟩,h1⟩,h2⟩,rfl⟩,h3⟩,h4⟩:=hp;obtain⟨x,rfl⟩: ∃x,cs=svN x:=⟨_,ua h1⟩;rw[fR] at h2 h3 h4;obtain⟨s1,s2,s3,s4,s5,s6⟩:=eX (f:=rnF [a.o1,a.o2,o] [] nx) ha h0 rfl rfl;obtain⟨t1,t2⟩:=cq (f:=rnF [a.o1,a.o2,o] [] nx) ht hg;have V:(eU.list n g).length=n:=El.list_length;have hle:(eU.list n g).length<=1000000:=by rw[V];exact zak hn
   have J: ∀C∈tyB a.p (eU.list n g),cN C.kd=false/\C.kd.map=false:=by simp[tyB,cN,El.old,BK.map]
   refine⟨[a.o1,a.o2,o],tyB a.p (eU.list n g),tyA a.p (eU.list n g) x n,λ_ _=>none,6,aw s1 (aw s2 (aw t1 trivial)),bH (λC Z=>(J C Z).1),cd (λC Z=>(J C Z).2),ar s3 (ar (Xs (rns_free (arA x))) (ar rfl (ar (t2 2 rfl) rfl))), ?_⟩;refine Ue () trivial rfl (r:= .tup [.agg (ci (tyF a.p.inp (eU.list n g) x).1), .val (.int .i64 (tyF a.p.inp (eU.list n g) x).2)]) rfl rfl rfl rfl (λC Z=>(J C Z).1) (by rfl) ?_;have:=T5 (p:=a.p) (us:=eU.list n g) (x:=x) (Q:=λr=>r= .tup [.agg (ci (tyF a.p.inp (eU.list n g) x).1), .val (.int .i64 (tyF a.p.inp (eU.list n g) x).2)]) hle s5 (El.good_list hg) h2 ⟨h3,h4⟩ rfl;rw[V] at this;exact this
  ·cases Y
 ·cases Y
def TF:ze0:= [(73,SZ)]
abbrev M1:=Int×List Un
abbrev M3:=Int×List Nd×List Un
def St (I1:M1->Prop) (I2 I3:M3->Prop) (N:Int):zdY:=λf k=>bif Nat.beq f 20 then(
 bif Nat.beq k 3 then some (λA=>{X:=M1,inv:=I1,tm:=λx=> [(10, .val (.int .i64 x.1))],st:= [(kA A 9,λx=>(qv A 9 0).take 1++(SV.slc A.nx 0 x.2.length::(qv A 9 0).drop 2))],gr:= [{src:= .cell (kA A 9) 0 1,sz:=20,n:=λx=>x.2.length,get:=λx=>eU.get x.2}],cleanG:=λg hg x e=>(by simp at hg;subst hg;exact eU.ids _),mu:=λx=>(4 - x.1).toNat,keep:= [1,2,3,4,8,9],sp:= [λx=>(0,x.2),λx=>(1,x.2),λx=>(2,x.2),λx=>(3,x.2)]})
 else bif Nat.beq k 8 then some (λA=>{X:=M3,inv:=I2,tm:=λx=> [(12, .val (.int .i64 x.1)),(11, .slc (A.nx+1) 0 x.2.2.length)],st:= [(kA A 9,λx=>(qv A 9 0).take 2++(SV.slc A.nx 0 x.2.1.length::(qv A 9 0).drop 3))],gr:= [{src:= .cell (kA A 9) 0 2,sz:=26,n:=λx=>x.2.1.length,get:=λx=>eN.get x.2.1},{src:= .slot 11,sz:=20,n:=λx=>x.2.2.length,get:=λx=>eU.get x.2.2}],cleanG:=λg hg x e=>(by simp at hg;rcases hg with rfl|rfl;exact eN.ids _;exact eU.ids _),mu:=λx=>(4 - x.1).toNat,keep:= [1,2,3,4,8,9]})
 else bif Nat.beq k 13 then some (λA=>{X:=M3,inv:=I3,tm:=λx=> [(13, .val (.int .i64 x.1)),(11, .slc (A.nx+1) 0 x.2.2.length)],st:= [(kA A 9,λx=>(qv A 9 0).take 2++(SV.slc A.nx 0 x.2.1.length::(qv A 9 0).drop 3))],gr:= [{src:= .cell (kA A 9) 0 2,sz:=26,n:=λx=>x.2.1.length,get:=λx=>eN.get x.2.1},{src:= .slot 11,sz:=20,n:=λx=>x.2.2.length,get:=λx=>eU.get x.2.2}],cleanG:=λg hg x e=>(by simp at hg;rcases hg with rfl|rfl;exact eN.ids _;exact eU.ids _),mu:=λx=>(N - x.1).toNat,keep:= [1,2,3,4,8,9]})
 else none) else none
def prS (K1:Nat->Nat->Blk->Nat->Nat->Blk->Int->List SV->Prop):Aft:=λr bl _ _=>match r with
 | .ok (.agg (.val (.int .i64 id):: .slc i 0 n:: .slc j 0 m::rest))=>(match bl i,bl j with
   |some B,some C=>K1 i n B j m C id rest
   |_,_=>False)
 |_=>False
abbrev TG (I1:M1->Prop) (I2 I3:M3->Prop) (N:Int) (a:Int×Int×Int) (count:Int) (xs:List I4) (ex:Bool) (K1:Nat->Nat->Blk->Nat->Nat->Blk->Int->List SV->Prop):Prop:=
 JL TF (St I1 I2 I3 N) 6 20 [.agg [.val (.int .i64 a.1), .val (.int .i64 a.2.1), .val (.int .i64 a.2.2)],cI.enc count, .slc 0 0 xs.length,cB.enc ex] [e4.old xs] (prS K1)
section
variable (I1:M1->Prop) (I2 I3:M3->Prop) (N:Int) (a:Int×Int×Int) (count:Int) (xs:List I4) (ex:Bool)
def mdC (n0:Nat) (s:SV):zdN:= .val (.int .i64 (1+co count 900)):: .slc 10 0 n0::s::ci noU
def md1 (s:SV):zdN:= .val (.int .i64 (1+co count 900))::s:: .val (.slice none 0 0)::ci noU
def S4:Prop:=tvE (cI.enc count)/\tvE (.slc 0 0 xs.length)/\tvE (cB.enc ex)/\cg 1/\cg 2/\cg 7/\True
def Ua (q:Nat) (p:Int) (m:Nat) (g:zdQ) (z:M1):Prop:=(TV.v (cI.enc p)=TV.v (cI.enc z.1)/\S4 count xs ex)/\(True/\((md1 count (.slc q 0 m)=md1 count (.slc q 0 z.2.length)/\True)/\(af (Nat.beq 20 20&&decide (z.2.length<=m)) (∀e,e<z.2.length->g e=eU.get z.2 e)/\True)))
def So (n0 q1 q2:Nat) (p:Int) (m:Nat) (g:zdQ) (k:Nat) (h:zdQ) (z:M3):Prop:=(TV.v (cI.enc p)=TV.v (cI.enc z.1)/\TV.v (.slc q2 0 k)=TV.v (.slc q2 0 z.2.2.length)/\S4 count xs ex)/\(True/\((mdC count n0 (.slc q1 0 m)=mdC count n0 (.slc q1 0 z.2.1.length)/\True)/\
 (af (Nat.beq 26 26&&decide (z.2.1.length<=m)) (∀e,e<z.2.1.length->g e=eN.get z.2.1 e)/\(af (Nat.beq 20 20&&decide (z.2.2.length<=k)) (∀e,e<z.2.2.length->h e=eU.get z.2.2 e)/\True))))
def S5 (inp:ze2) (nod:ze3) (us:ze2) (x:Nd):Bool:=kp inp.length inp.length (eU.get inp) nod.length nod.length (eN.get nod) noU&&(Nat.ble us.length us.length&&Nat.beq 20 20&&true)&&bW us.length&&eU.good szB us.length (eU.get us)&&ndB (svN x)&&szN (Vh (svN x))&&decide ((nod.length:Int)=(us.length:Int))&&decide (1<=(Vh (svN x)).op)&&decide ((Vh (svN x)).op<=8)
def Tu (inp us:ze2) (x:Nd):Un×Int:=tyF (eU.list inp.length (eU.get inp)) (eU.list us.length (eU.get us)) (Vh (svN x))
def Rg (inp:ze2) (q1 q2:Nat) (z:M3) (x:Nd):Prop:=
 af (S5 inp z.2.1 z.2.2 x) (Unit->True->ag (bif (Tu inp z.2.2 x).2==0 then(bif !ex then true else x.op !=8) else false)
  (LY z.2.1.length (tO z.2.2.length (af (inR .i64 (z.1+1)) (∃z':M3,I3 z'/\((N - z'.1).toNat<(N - z.1).toNat/\So count xs ex inp.length q1 q2 (z.1+1) (z.2.1.length+1) (gv z.2.1 x) (z.2.2.length+1) (Jz z.2.2 (Tu inp z.2.2 x).1) z')))))
  (af (inR .i64 (z.1+1)) (∃z':M3,I3 z'/\((N - z'.1).toNat<(N - z.1).toNat/\So count xs ex inp.length 25 26 (z.1+1) z.2.1.length (eN.get z.2.1) z.2.2.length (eU.get z.2.2) z'))))
def pkB (y n:Int):Bool:=cl y&&decide (0<n)
def Sp (inp:ze2) (z:M3) (y:I4):Prop:=
 af (pkB y.1 8) (af (inR .i64 (1+co y.1 8)) (
 ag (1+co y.1 8==1) (af (pkB y.2.1 13) (af (inR .i64 (co y.2.1 13 - 6)) (af (pkB y.2.2.1 4) (af (inR .i64 (1+co y.2.2.1 4)) (af (cl (co y.2.1 13 - 6)&&cl (1+co y.2.2.1 4)) (af (cl y.2.2.2)
  (Rg I3 N count xs ex inp 102 108 z ⟨opF y,(rMk (co y.2.1 13 - 6) (1+co y.2.2.1 4)).1,BL y.2.2.2,0,0,0⟩)))))))
 (ag (1+co y.1 8==2) (af (pkB y.2.1 inp.length) (Rg I3 N count xs ex inp 93 99 z ⟨opF y,VI,noU,co y.2.1 inp.length,0,0⟩))
 (ag (1+co y.1 8==7) (af (pkB y.2.1 z.2.1.length) (af (pkB y.2.2.1 5) (af (decide (0<=co y.2.2.1 5)&&decide (co y.2.2.1 5<((5:Nat):Int))) (af (decide (0+(co y.2.2.1 5).toNat<5)) (Rg I3 N count xs ex inp 101 107 z ⟨opF y,VI,noU,T9 (co y.2.2.1 5),co y.2.1 z.2.1.length,0⟩)))))
 (ag (1+co y.1 8==8) (af (pkB y.2.1 z.2.1.length) (Rg I3 N count xs ex inp 95 101 z ⟨opF y,VI,noU,0,co y.2.1 z.2.1.length,0⟩))
   (af (pkB y.2.1 z.2.1.length) (af (pkB y.2.2.1 z.2.1.length) (Rg I3 N count xs ex inp 101 107 z ⟨opF y,VI,noU,0,co y.2.1 z.2.1.length,co y.2.2.1 z.2.1.length⟩))))))))
def Ub (K1:Nat->Nat->Blk->Nat->Nat->Blk->Int->List SV->Prop) (inp:ze2) (z0:M3):Prop:=
 ∃z1:M3,I3 z1/\(So count xs ex inp.length 17 18 0 z0.2.1.length (eN.get z0.2.1) z0.2.2.length (eU.get z0.2.2) z1/\
  ∀z:M3,I3 z->ag (bif decide (z.1<(xs.length:Int)) then decide ((z.2.1.length:Int)<14) else false)
   (eO xs.length z.1 (Sp I3 N count xs ex inp z (e4.nth xs (0+z.1.toNat))))
   (af (inR .i64 ((z.2.2.length:Int) - 1)) (eO z.2.2.length ((z.2.2.length:Int) - 1)
     (K1 10 inp.length {n:=inp.length,sz:=20,get:=eU.get inp,kd:= .own,nn:=false} 25 z.2.1.length {n:=z.2.1.length,sz:=26,get:=eN.get z.2.1,kd:= .own,nn:=false} (1+co count 900) (ci (mb noU z.2.2 (0+((z.2.2.length:Int) - 1).toNat)))))))
def T6 (K1:Nat->Nat->Blk->Nat->Nat->Blk->Int->List SV->Prop) (inp:ze2):Prop:=
 ∃z0:M3,I2 z0/\(((TV.v (cI.enc 0)=TV.v (cI.enc z0.1)/\TV.v (.val (.slice none 0 0))=TV.v (.val (.slice none z0.2.2.length 0))/\S4 count xs ex)/\(True/\((mdC count inp.length (.val (.slice none 0 0))=mdC count inp.length (.val (.slice none z0.2.1.length 0))/\True)/\(z0.2.1.length=0/\(z0.2.2.length=0/\True)))))/\
  ∀z:M3,I2 z->ag (decide (z.1<(inp.length:Int)))
   (LY z.2.1.length (eO inp.length z.1 (tO z.2.2.length (af (inR .i64 (z.1+1)) (∃z':M3,I2 z'/\((4 - z'.1).toNat<(4 - z.1).toNat/\So count xs ex inp.length 29 39 (z.1+1) (z.2.1.length+1) (gv z.2.1 (nIn z.1)) (z.2.2.length+1) (Jz z.2.2 (mb noU inp (0+z.1.toNat))) z'))))))
   (Ub I3 N count xs ex K1 inp z))
def Tv (K1:Nat->Nat->Blk->Nat->Nat->Blk->Int->List SV->Prop) (j a0:Int) (x:M1):Prop:=
 af (pkB count 3) (ag (decide (j<=co count 3)) (af (cl a0) (tO x.2.length (∃x':M1,I1 x'/\((4 - x'.1).toNat<(4 - j).toNat/\Ua count xs ex 16 (j+1) (x.2.length+1) (Jz x.2 (BL a0)) x')))) (T6 I2 I3 N count xs ex K1 x.2))
def mdT (K1:Nat->Nat->Blk->Nat->Nat->Blk->Int->List SV->Prop):Prop:=
 af (pkB count 900) (af (inR .i64 (1+co count 900)) (∃x0:M1,I1 x0/\(((TV.v (cI.enc 0)=TV.v (cI.enc x0.1)/\S4 count xs ex)/\(True/\((md1 count (.val (.slice none 0 0))=md1 count (.val (.slice none x0.2.length 0))/\True)/\(x0.2.length=0/\True))))/\
  ((∀x:M1,I1 x->(0,x.2)=x\/(1,x.2)=x\/(2,x.2)=x\/(3,x.2)=x\/False)/\((∀x:M1,I1 (0,x.2)->Tv I1 I2 I3 N count xs ex K1 0 a.1 x)/\((∀x:M1,I1 (1,x.2)->Tv I1 I2 I3 N count xs ex K1 1 a.2.1 x)/\((∀x:M1,I1 (2,x.2)->Tv I1 I2 I3 N count xs ex K1 2 a.2.2 x)/\
    ((∀x:M1,I1 (3,x.2)->af (pkB count 3) (ag (decide (3<=co count 3)) False (T6 I2 I3 N count xs ex K1 x.2)))/\True))))))))
end
theorem Tw (I1:M1->Prop) (I2 I3:M3->Prop) (N:Int) (a:Int×Int×Int) (count:Int) (xs:List I4) (ex:Bool) (J:Nat->Nat->Blk->Nat->Nat->Blk->Int->List SV->Prop):TG I1 I2 I3 N a count xs ex J=mdT I1 I2 I3 N a count xs ex J:=by kernel_rfl
def TJ (nx:Nat) (q:Pr):SV:= .agg (.val (.int .i64 q.id):: .slc nx 0 q.inp.length:: .slc (nx+1) 0 q.nod.length::ci q.out)
def SQ:MCtr:=λbl nx args=>match args with
 | [.agg [.val (.int .i64 a), .val (.int .i64 b), .val (.int .i64 c)], .val (.int .i64 k),s, .val (.bool ex)]=>match vW bl 4 s with
   |some (bb,_,n,g)=>some {X:=Unit,pre:=bb&&decide (n<=9223372036854775807)&&e4.good uz4 n g&&cl a&&cl b&&cl c&&cl k,spec:=λ_=>True,out:=λ_=>TJ nx (Bd (a,b,c) k (e4.list n g) ex),nw:=λ_=> [eU.own (Bd (a,b,c) k (e4.list n g) ex).inp,eN.own (Bd (a,b,c) k (e4.list n g) ex).nod],ex:=λ_=>⟨(),trivial⟩}
   |none=>none
 |_=>none
theorem S6:MOk TF:=MOk.nil.cons ZR
theorem QU {y n:Int} {K:Prop} (V:cl y=true) (J:0<n) (k:K):af (pkB y n) K:=ac (by unfold pkB;rw[V,zds J];rfl) k
theorem Su (ni n:Int) (y:I4):(RR ni n y).op=opF y:=by
 have B: ∀(b:Bool) (x z:Nd),x.op=opF y->z.op=opF y->(cond b x z).op=opF y:=λb x z h k=>by cases b;exact k;exact h
 unfold RR;exact B _ _ _ rfl (B _ _ _ rfl (B _ _ _ rfl (B _ _ _ rfl rfl)))
theorem Tx (y:I4):1<=opF y/\opF y<=8:=by
 have:=gR y.1 (n:=8) (by decide);unfold opF;omega
theorem Sc {us:ze2} {u:Un} {z:ze2} (V:z=us++ [u]):af (Nat.beq 20 20&&decide (z.length<=us.length+1)) (∀e,e<z.length->Jz us u e=eU.get z e):=by
 subst V;have J:(us++ [u]).length=us.length+1:=by simp
 exact ac (by rw[J,zds (za0 _)];rfl) λe Y=>Fp (by omega)
theorem S7 {us:ze3} {u:Nd} {z:ze3} (V:z=us++ [u]):af (Nat.beq 26 26&&decide (z.length<=us.length+1)) (∀e,e<z.length->gv us u e=eN.get z e):=by
 subst V;have J:(us++ [u]).length=us.length+1:=by simp
 exact ac (by rw[J,zds (za0 _)];rfl) λe Y=>pO (by omega)
section
variable {I1:M1->Prop} {I2 I3:M3->Prop} {N:Int} {a:Int×Int×Int} {count:Int} {xs:List I4} {ex:Bool}
theorem Rh:S4 count xs ex:=⟨rfl,rfl,rfl,rfl,rfl,rfl,trivial⟩
variable {p:Int} {us:ze2} {u:Un}
theorem Ty {q:Nat} :Ua count xs ex q p (us.length+1) (Jz us u) (p,us++ [u]):=
 ⟨⟨rfl,Rh⟩,trivial,⟨by simp,trivial⟩,Sc rfl,trivial⟩
variable {n0 q1 q2:Nat} {nod:ze3} {x:Nd}
theorem Sv:So count xs ex n0 q1 q2 p (nod.length+1) (gv nod x) (us.length+1) (Jz us u) (p,nod++ [x],us++ [u]):=
 ⟨⟨rfl,by simp,Rh⟩,trivial,⟨by simp,trivial⟩,S7 rfl,Sc rfl,trivial⟩
theorem RL:So count xs ex n0 q1 q2 p nod.length (eN.get nod) us.length (eU.get us) (p,nod,us):=
 ⟨⟨rfl,rfl,Rh⟩,trivial,⟨rfl,trivial⟩,ac (by simp) (λ_ _=>rfl),ac (by simp) (λ_ _=>rfl),trivial⟩
variable {inp:ze2}
theorem Tz:Tu inp us x=tyF inp us x:=by
 unfold Tu;rw[show eU.list inp.length (eU.get inp)=inp from El.list_get,show eU.list us.length (eU.get us)=us from El.list_get,fR]
theorem S8 (h:MadOK inp (nod,us)) (hi: ∀u∈inp,szB u=true) (V:inp.length<=1000000) (Y:szN x=true) (J:1<=x.op/\x.op<=8):S5 inp nod us x=true:=by
 have h1:us.length=nod.length:=h.len;have h2:nod.length<=14:=h.le;unfold S5 bW;rw[uf V (show nod.length<=1000000 by omega) (El.good_get hi) (show eN.good szN nod.length (eN.get nod)=true from El.good_get h.szn) (by decide),zae (za0 _),zae (show us.length<=1000000 by omega),El.good_get h.szu,fR,Y,h1,zds rfl,zds J.1,zds J.2];rfl
theorem S9 {i:Int} (h:MadOK inp (nod,us)) (hi: ∀u∈inp,szB u=true) (hl:inp.length<=1000000) (hx:szN x=true) (ho:1<=x.op/\x.op<=8) (h0:0<=i) (h1:i<N) (hN:N<=9223372036854775807)
 (J:I3 (i+1,match mn inp us x with
   |some u=>bif !ex||x.op !=8 then(nod++ [x],us++ [u]) else(nod,us)
   |none=>(nod,us))):Rg I3 N count xs ex inp q1 q2 (i,nod,us) x:=by
 have a1:us.length=nod.length:=h.len;have a2:nod.length<=14:=h.le;unfold Rg;rw[Tz];dsimp only;have no:(∃z,z=(nod,us)/\I3 (i+1,z))->af (inR .i64 (i+1)) (∃z':M3,I3 z'/\((N - z'.1).toNat<(N - i).toNat/\So count xs ex inp.length 25 26 (i+1) nod.length (eN.get nod) us.length (eU.get us) z')):=by
  rintro⟨z,rfl,hz⟩;exact ac (VP.2 (by omega)) ⟨(i+1,nod,us),hz,by show (_:Nat)<_;dsimp only;omega,RL⟩
 refine ac (S8 h hi hl hx ho) λ_ _=>ah (λV=> ?_) (λV=>no ?_)
 ·cases Y:mn inp us x with
  |none=>
   unfold tyF at V;rw[Y] at V;cases V
  |some u=>
   rw[Y] at J;have e:tyF inp us x=(u,0):=by unfold tyF;rw[Y]
   rw[e] at V ⊢;have Z:(!ex||x.op !=8)=true:=by rw[<-QN];exact V
   rw[Z] at J;exact xp (by omega) (fV (by omega) (ac (VP.2 (by omega)) ⟨(i+1,nod++ [x],us++ [u]),J,by show (_:Nat)<_;dsimp only;omega,Sv⟩))
 ·cases Y:mn inp us x with
  |none=>rw[Y] at J;exact⟨_,rfl,J⟩
  |some u=>
   rw[Y] at J;have e:tyF inp us x=(u,0):=by unfold tyF;rw[Y]
   rw[e] at V;have Z:(!ex||x.op !=8)=false:=by rw[<-QN];exact V
   rw[Z] at J;exact⟨_,rfl,J⟩
theorem SH {z:M3} {y:I4} (hy:uz4 y=true) (hi:1<=inp.length) (hz:1<=z.2.1.length) (h: ∀J V,Rg I3 N count xs ex inp J V z (RR inp.length z.2.1.length y)):Sp I3 N count xs ex inp z y:=by
 unfold uz4 at hy;simp only[za2] at hy;obtain⟨⟨⟨y1,Y⟩,y3⟩,y4⟩:=hy;have b1:=gR y.1 (n:=8) (by decide);have b2:=gR y.2.1 (n:=13) (by decide);have b3:=gR y.2.2.1 (n:=4) (by decide);have b4:=gR y.2.2.1 (n:=5) (by decide);have E: ∀{x:Nd} (J V:Nat),RR inp.length z.2.1.length y=x->Rg I3 N count xs ex inp J V z x:=λ{x} J V e=>by rw[<-e];exact h J V
 unfold RR opF at E;unfold Sp;refine QU y1 (by decide) (Fy (by omega) (ah (λo1=> ?_) (λo1=>ah (λo2=> ?_) (λo2=>ah (λZ=> ?_) (λZ=>ah (λo8=> ?_) (λo8=> ?_))))))
 ·refine QU Y (by decide) (Fy (by omega) (QU y3 (by decide) (Fy (by omega) (ac (by rw[V4.2 (by omega),V4.2 (by omega)];rfl) (ac y4 (E _ _ ?_))))));rw[o1];rfl
 ·refine QU Y (by omega) (E _ _ ?_);rw[o1,o2];rfl
 ·refine QU Y (by omega) (QU y3 (by decide) (ac (by rw[zds b4.1,zds (show co y.2.2.1 5<((5:Nat):Int) from b4.2)];rfl) (ac (zds (by omega)) (E _ _ ?_))));rw[o1,o2,Z];rfl
 ·refine QU Y (by omega) (E _ _ ?_);rw[o1,o2,Z,o8];rfl
 ·refine QU Y (by omega) (QU y3 (by omega) (E _ _ ?_));rw[o1,o2,Z,o8];rfl
end
def Ta (a:Int×Int×Int) (count:Int) (z:M1):Prop:=0<=z.1/\z.1<=co count 3+1/\z.2=QQ a z.1.toNat
def Tb (a:Int×Int×Int) (count:Int) (z:M3):Prop:=0<=z.1/\z.1<=co count 3+1/\z.2.1=R9 z.1.toNat/\z.2.2=QQ a z.1.toNat
def SI (a:Int×Int×Int) (count:Int) (xs:List I4) (ex:Bool) (z:M3):Prop:=0<=z.1/\z.1<=xs.length/\MadOK (QQ a ((co count 3).toNat+1)) z.2/\Rb a count xs ex=RT ex (QQ a ((co count 3).toNat+1)) (xs.drop z.1.toNat) z.2
def mdK (p:Pr) (i n:Nat) (B:Blk) (j m:Nat) (C:Blk) (id:Int) (rest:zdN):Prop:=i=10/\n=p.inp.length/\B=eU.own p.inp/\j=25/\m=p.nod.length/\C=eN.own p.nod/\id=p.id/\rest=ci p.out
variable {ex:Bool} {inp:ze2}
theorem SJ {r:List I4} {z:List Nd×List Un} (h: ¬z.1.length<14):RT ex inp r z=z:=by
 cases r with
 |nil=>rfl
 |cons y r=>unfold RT;rw[zdv h];rfl
variable {a:Int×Int×Int} {count:Int} {xs:List I4}
theorem TA {z0:M3} (hx: ∀y∈xs,uz4 y=true) (hn:xs.length<=9223372036854775807) (h1:z0.2.1=R9 ((co count 3).toNat+1)) (h2:z0.2.2=QQ a ((co count 3).toNat+1)):
 Ub (SI a count xs ex) xs.length count xs ex (mdK (Bd a count xs ex)) (QQ a ((co count 3).toNat+1)) z0:=by
 have hK:=Rc (count:=count);have hi:(QQ a ((co count 3).toNat+1)).length=(co count 3).toNat+1:=QR;refine⟨(0,z0.2),⟨zat _,by show (0:Int)<=_;omega, ?_, ?_⟩,RL, ?_⟩
 ·show MadOK _ (z0.2.1,z0.2.2);rw[h1,h2];exact⟨by rw[QR,QZ],by rw[QZ];exact hK.1,by rw[QZ];omega,Si (za0 _),RU,QT QY⟩
 ·show _=RT _ _ xs (z0.2.1,z0.2.2);rw[h1,h2];rfl
 rintro⟨i,nod,us⟩ ⟨k0,k1,k2,k3⟩;dsimp only at k0 k1 k2 k3 ⊢;have ln:us.length=nod.length:=k2.len;have l1:1<=nod.length:=k2.pos;have l2:nod.length<=14:=k2.le;refine ah (λJ=> ?_) (λJ=> ?_)
 ·rw[QM,za2] at J;have Y:=zdx J.1;have Z:nod.length<14:=by have:=zdx J.2;omega
  have hd:xs.drop i.toNat=mb (0,0,0,0) xs i.toNat::xs.drop (i+1).toNat:=by
   rw[show (i+1).toNat=i.toNat+1 by omega,zaH (show i.toNat<xs.length by omega),bR (zaa _)]
  rw[hd,RT,zds (show (nod,us).1.length<14 from Z),zdu] at k3;rw[za7];have hy:uz4 (mb (0,0,0,0) xs i.toNat)=true:=hx _ (bw (by omega));refine aY k0 Y (SH (y:=mb (0,0,0,0) xs i.toNat) hy (by omega) l1 λq1 q2=> ?_);refine S9 k2 (QT QY) (by omega) (Sr _ _ _) (by rw[Su];exact Tx _) k0 Y (by omega) ?_;rw[Su];have st:=k2.step (ex:=ex) (y:=mb (0,0,0,0) xs i.toNat) (QT QY) Z;exact⟨by show 0<=i+1;omega,by show i+1<=_;omega,st,k3⟩
 ·have V:Rb a count xs ex=(nod,us):=by
   rw[k3];rw[QM] at J;by_cases c:i<xs.length
   ·rw[zds c,zb6] at J;have:=zdy J;exact SJ (by show ¬nod.length<14;omega)
   ·rw[show i.toNat=xs.length by omega,zbj];rfl
  refine ac (VP.2 (by omega)) (aY (by omega) (by omega) ⟨rfl,rfl,rfl,rfl, ?_, ?_,rfl, ?_⟩)
  ·show nod.length=(Rb a count xs ex).1.length;rw[V]
  ·show _=eN.own (Rb a count xs ex).1;rw[V];rfl
  ·show _=ci (ly (Rb a count xs ex).2);rw[V,show 0+((us.length:Int) - 1).toNat=us.length - 1 by omega];rfl
theorem Sw (Y: ∀y∈xs,uz4 y=true) (V:xs.length<=9223372036854775807) (h:inp=QQ a ((co count 3).toNat+1)):
 T6 (Tb a count) (SI a count xs ex) xs.length count xs ex (mdK (Bd a count xs ex)) inp:=by
 subst h;have Z:=Rc (count:=count);have hp:=gR count (n:=3) (by decide);have hi:(QQ a ((co count 3).toNat+1)).length=(co count 3).toNat+1:=QR;refine⟨(0, [], []),⟨zat _,by show (0:Int)<=_;omega,rfl,rfl⟩,⟨⟨rfl,rfl,Rh⟩,trivial,⟨rfl,trivial⟩,rfl,rfl,trivial⟩, ?_⟩;rintro⟨i,nod,us⟩ ⟨k0,k1,k2,k3⟩;dsimp only at k0 k1 k2 k3 ⊢;refine ah (λJ=> ?_) (λJ=> ?_)
 ·have J:=zdx J;have l1:nod.length=i.toNat:=by rw[k2,QZ]
  have l2:us.length=i.toNat:=by rw[k3,QR]
  rw[za7];have e1:(i+1).toNat=i.toNat+1:=by omega
  refine xp (by omega) (aY k0 J (fV (by omega) (ac (VP.2 (by omega)) ⟨(i+1,nod++ [nIn i],us++ [mb noU (QQ a ((co count 3).toNat+1)) i.toNat]),⟨by show 0<=i+1;omega,by show i+1<=_;omega, ?_, ?_⟩,by show (_:Nat)<_;dsimp only;omega,Sv⟩)))
  ·show nod++ [nIn i]=R9 (i+1).toNat;rw[e1,k2];show _=R9 i.toNat++ [nIn (i.toNat:Nat)];rw[show ((i.toNat:Nat):Int)=i by omega]
  ·show us++ [_]=QQ a (i+1).toNat;rw[e1,k3];show _=QQ a i.toNat++ [BL (mb 0 [a.1,a.2.1,a.2.2] i.toNat)];rw[show mb noU (QQ a ((co count 3).toNat+1)) i.toNat=BL (mb 0 [a.1,a.2.1,a.2.2] i.toNat) from bR (qX _ (by omega))]
 ·have J:=zdy J;have e:i.toNat=(co count 3).toNat+1:=by omega
  exact TA Y V (by rw[<-e];exact k2) (by rw[<-e];exact k3)
theorem RW {j a0:Int} {x:M1} (Y:cl count=true) (V:cl a0=true) (hx: ∀y∈xs,uz4 y=true) (hn:xs.length<=9223372036854775807) (hj:0<=j/\j<=2) (Z:mb 0 [a.1,a.2.1,a.2.2] j.toNat=a0) (h:Ta a count (j,x.2)):
 Tv (Ta a count) (Tb a count) (SI a count xs ex) xs.length count xs ex (mdK (Bd a count xs ex)) j a0 x:=by
 obtain⟨k0,k1,k2⟩:=h;dsimp only at k0 k1 k2;have l2:x.2.length=j.toNat:=by rw[k2,QR]
 refine QU Y (by decide) (ah (λJ=> ?_) (λJ=> ?_))
 ·have J:=zdx J;have e1:(j+1).toNat=j.toNat+1:=by omega
  refine ac V (fV (by omega) ⟨(j+1,x.2++ [BL a0]),⟨by show 0<=j+1;omega,by show j+1<=_;omega, ?_⟩,by show (_:Nat)<_;dsimp only;omega,Ty⟩);show x.2++ [BL a0]=QQ a (j+1).toNat;rw[e1,k2];show _=QQ a j.toNat++ [BL (mb 0 [a.1,a.2.1,a.2.2] j.toNat)];rw[Z]
 ·have J:=zdy J;have hp:=gR count (n:=3) (by decide);exact Sw hx hn (by rw[k2];congr 1;omega)
theorem T7 (h0:cl a.1=true) (h1:cl a.2.1=true) (h2:cl a.2.2=true) (V:cl count=true) (Z: ∀y∈xs,uz4 y=true) (Y:xs.length<=9223372036854775807):
 mdT (Ta a count) (Tb a count) (SI a count xs ex) xs.length a count xs ex (mdK (Bd a count xs ex)):=by
 have hp:=gR count (n:=3) (by decide);have hq:=gR count (n:=900) (by decide);refine QU V (by decide) (Fy (by omega) ⟨(0, []),⟨zat _,by show (0:Int)<=_;omega,rfl⟩,⟨⟨rfl,Rh⟩,trivial,⟨rfl,trivial⟩,rfl,trivial⟩, ?_,λx J=>RW V h0 Z Y (by decide) rfl J,λx J=>RW V h1 Z Y (by decide) rfl J,λx J=>RW V h2 Z Y (by decide) rfl J,λx J=> ?_,trivial⟩)
 ·rintro⟨i,us⟩ ⟨k0,k1,_⟩;dsimp only at k0 k1;rcases(show i=0\/i=1\/i=2\/i=3 by omega) with rfl|rfl|rfl|rfl
  ·exact .inl rfl
  ·exact .inr (.inl rfl)
  ·exact .inr (.inr (.inl rfl))
  ·exact .inr (.inr (.inr (.inl rfl)))
 ·obtain⟨_,k1,k2⟩:=J;dsimp only at k1 k2;refine QU V (by decide) (ah (λhb=> ?_) (λhb=>Sw Z Y (by rw[k2];congr 1;show (3:Int).toNat=_;omega)));have:=zdx hb;omega
theorem SK {K1:Nat->Nat->Blk->Nat->Nat->Blk->Int->List SV->Prop} {r:Res} {b:zdP} {m:Nat} {w:zdL} (h:prS K1 r b m w): ∃id i n j m B C J,r= .ok (.agg (.val (.int .i64 id):: .slc i 0 n:: .slc j 0 m::J))/\b i=some B/\b j=some C/\K1 i n B j m C id J:=by
 unfold prS at h;split at h
 ·rename_i id i n j m J;split at h
  ·rename_i B C hB V;exact⟨id,i,n,j,m,B,C,J,rfl,hB,V,h⟩
  ·exact h.elim
 ·exact h.elim
theorem Tc: ∀B:Base,GlobB B->VU Tryz.prog B 20 SQ:=Sh S6 λbl nx args C Y hp=>by
 unfold SQ at Y;split at Y
 ·rename_i a b c k s ex;split at Y
  ·rename_i bb o n g hs;simp only[za1] at Y;subst Y;simp only[za2,zdw] at hp;obtain⟨⟨⟨⟨⟨⟨rfl,hn⟩,hg⟩,h0⟩,h1⟩,h2⟩,hc⟩:=hp;obtain⟨t1,t2⟩:=cq (f:=rnF [o] [] nx) hs hg;have hlen:(e4.list n g).length=n:=El.list_length;have J: ∀C∈ [e4.old (e4.list n g)],cN C.kd=false/\C.kd.map=false:=by simp[cN,El.old,BK.map]
   have Z:=Sb (a:=(a,b,c)) (count:=k) (xs:=e4.list n g) (ex:=ex);refine⟨[o], [e4.old (e4.list n g)], [.agg [.val (.int .i64 a), .val (.int .i64 b), .val (.int .i64 c)], .val (.int .i64 k), .slc 0 0 (e4.list n g).length, .val (.bool ex)],St (Ta (a,b,c) k) (Tb (a,b,c) k) (SI (a,b,c) k (e4.list n g) ex) (e4.list n g).length,6,aw t1 trivial,bH (λC V=>(J C V).1),cd (λC V=>(J C V).2),ar rfl (ar rfl (ar (t2 0 rfl) rfl)), ?_⟩;refine Q8 (K:=prS (mdK (Bd (a,b,c) k (e4.list n g) ex))) ?_ λr bl' m w h=> ?_
   ·have:=Tw (Ta (a,b,c) k) (Tb (a,b,c) k) (SI (a,b,c) k (e4.list n g) ex) (e4.list n g).length (a,b,c) k (e4.list n g) ex (mdK (Bd (a,b,c) k (e4.list n g) ex));show TG _ _ _ _ (a,b,c) k (e4.list n g) ex _;rw[this];exact T7 h0 h1 h2 hc (El.good_list hg) (by omega)
   ·generalize Bd (a,b,c) k (e4.list n g) ex=p at h Z;obtain⟨id,i,n',j,m',B,C,rest,rfl,hB,V,rfl,rfl,rfl,rfl,rfl,rfl,rfl,rfl⟩:=SK h;have e:=rns_free (f:=dt [o] [some 10,some 25] nx) (fj p.out);have e0:dt [o] [some 10,some 25] nx nx=some (some 10):=cO;have e1:dt [o] [some 10,some 25] nx (nx+1)=some (some 25):=jA 1;refine⟨(),trivial, [some 10,some 25],⟨_,rfl, ?_⟩,by simp[ck],⟨⟨by simp, ?_⟩,⟨by simp, ?_⟩,trivial⟩,we (λC V=>(J C V).1) rfl _⟩
    ·show SV.rn (dt [o] [some 10,some 25] nx) (TJ nx p)=_;unfold TJ;exact Xs (ar rfl (ar (by simp only[SV.rn,e0]) (ar (by simp only[SV.rn,e1]) e)))
    ·rw[hB];exact⟨by simp[El.own],λ_=> .inr ⟨Z.1,eU.one⟩,gC rfl rfl (za0 _) λ_ _=>rfl⟩
    ·rw[V];exact⟨by simp[El.own],λ_=> .inr ⟨Z.2.2.1,eN.one⟩,gC rfl rfl (za0 _) λ_ _=>rfl⟩
  ·cases Y
 ·cases Y
def apX (a b:RS):RS:=bif decide (b9 a b<=0) then a else b
def apY (a b:RS):RS:=bif decide (b9 a b≥0) then a else b
def apD (x:I4):Iv:=(apX (smallF (x.1,x.2.1)) (smallF (x.2.2.1,x.2.2.2)),apY (smallF (x.1,x.2.1)) (smallF (x.2.2.1,x.2.2.2)))
def bt (xs:List I4) (n:Nat):List Iv:=Go.Sy.tab (λj=>apD (mb (0,0,0,0) xs j)) n
theorem apE {sq:Iv->Iv×Int} {pl:Int} {ins:List Iv}: ∀{l:ze3} {vs w:List Iv},(∀u∈vs,uzI u=true)->alE sq pl ins l vs=some w-> ∀u∈w,uzI u=true
 | [],vs,w,V,h=>by
   obtain rfl:vs=w:=zbk h;exact V
 |x::l,vs,w,V,h=>by
  rw[alE] at h;cases e:ajn pl (ack sq ins vs x) with
  |none=>rw[e] at h;cases h
  |some v=>
   rw[e] at h;refine apE (λu J=> ?_) h;rcases za8.1 J with J|J
   ·exact V u J
   ·rw[zaj.1 J];cases k:ack sq ins vs x with
    |none=>rw[k] at e;cases e
    |some y=>rw[k] at e;exact ah8 (uu e)
variable {a b:RS}
theorem aqQ (J:uzR a=true) (V:uzR b=true):uzR (apX a b)=true:=by
 unfold apX;cases decide (b9 a b<=0) with
 |true=>exact J
 |false=>exact V
theorem aqR (J:uzR a=true) (V:uzR b=true):uzR (apY a b)=true:=by
 unfold apY;cases decide (b9 a b≥0) with
 |true=>exact J
 |false=>exact V
theorem aqS (x:I4):uzI (apD x)=true:=adF (aqQ (alg _ _) (alg _ _)) (aqR (alg _ _) (alg _ _))
theorem aq7 (x:Iv) (k:Int):uzR (inF x k)=true:=Lq _ _
theorem apF {xs:List I4}: ∀{n:Nat},∀v∈bt xs n,uzI v=true
 |0,r,h=>by cases h
 |n+1,r,h=>by
  rcases za8.1 h with h|h
  ·exact apF r h
  ·rw[zaj.1 h];exact aqS _
theorem apw {l:List Iv} {ks:List Int}: ∀{n:Nat},∀r∈hH l ks n,uzR r=true
 |0,r,h=>by cases h
 |n+1,r,h=>by
  rcases za8.1 h with h|h
  ·exact apw r h
  ·rw[zaj.1 h];exact aq7 _ _
theorem apZ (a:Addr) (c n:Int) (K:zdU):acb a xK [] noA 3 78 [cI.enc c,cI.enc n] K=vH c n K:=by kernel_rfl
theorem aq8 (a:Addr) (x y:RS) (K:zdU):acb a xK [] noA 3 75 [cR.enc x,cR.enc y] K=af (uzR x&&uzR y) (ag (decide (b9 x y<=0)) (K (cR.enc x)) (K (cR.enc y))):=by kernel_rfl
theorem aq9 (a:Addr) (x y:RS) (K:zdU):acb a xK [] noA 3 76 [cR.enc x,cR.enc y] K=af (uzR x&&uzR y) (ag (decide (b9 x y≥0)) (K (cR.enc x)) (K (cR.enc y))):=by kernel_rfl
def avL:List (FuncId×Ctr):=(75,k2 cR cR cR (λa b=>uzR a&&uzR b) apX)::(76,k2 cR cR cR (λa b=>uzR a&&uzR b) apY)::xK
theorem avK:GEk avL:=
 ((GEk.of BN).cons (λa W J=>bC λx y h=>l0 (GEk.of BN) (MEk.nil (a:=a)) J (ann:=noA) (n:=3) de (cR.ids _) (by
    rw[aq9];refine ac h (ah (λe=> ?_) (λe=> ?_))
    ·unfold apY;rw[e];rfl
    ·unfold apY;rw[e];rfl)) call76).cons
   (λa W J=>bC λx y h=>l0 (GEk.of BN) (MEk.nil (a:=a)) J (ann:=noA) (n:=3) de (cR.ids _) (by
     rw[aq8];refine ac h (ah (λe=> ?_) (λe=> ?_))
     ·unfold apX;rw[e];rfl
     ·unfold apX;rw[e];rfl)) call75
def gM5:List (FuncId×Ctr):=(78,Dg)::avL
theorem aqf:GEk gM5:=avK.cons (λa W J=>bC λc n h=>by
 rw[za2] at h
 exact l0 (GEk.of BN) (MEk.nil (a:=a)) J (ann:=noA) (n:=3) de (cI.ids _) (by rw[apZ];exact A6 (K:=λr=>r=_) h.1 (zdx h.2) rfl)) call78
def ara (x:Iv) (k:Int) (K:zdU):Prop:=
 af (uzR x.2&&uzR x.1) (af (pkB k 101) (af (cl (co k 101)&&cl 100) (af (uzR (iF x.2 x.1).1&&uzR (rMk (co k 101) 100).1) (af (uzR x.1&&uzR (ale (iF x.2 x.1).1 (rMk (co k 101) 100).1).1) (K (cR.enc (inF x k)))))))
theorem arb (a:Addr) (x:Iv) (k:Int) (K:zdU):acb a gM5 [] noA 5 22 [cIv.enc x,cI.enc k] K=ara x k K:=by kernel_rfl
variable {K:zdU}
theorem arc {x:Iv} {k:Int} (Y:uzI x=true) (V:cl k=true) (h:K (cR.enc (inF x k))):ara x k K:=by
 obtain⟨J,Z⟩:=alu Y;have b:=gR k (n:=101) (by decide);unfold ara;exact ac (by rw[J,Z];rfl) (QU V (by decide) (ac (by rw[V4.2 (show B64 (co k 101) from⟨by omega,by omega⟩),V4.2 (show B64 100 from⟨by decide,by decide⟩)];rfl) (ac (by rw[Lr,alg];rfl) (ac (by rw[J,gI];rfl) h))))
def avN:List (FuncId×Ctr):=(22,k2 cIv cI cR (λx k=>uzI x&&cl k) inF)::gM5
theorem avM:GEk avN:=aqf.cons (λa W J=>bC λx k h=>l0 aqf (MEk.nil (a:=a)) J (ann:=noA) (n:=5) de (cR.ids _) (by
 rw[za2] at h;rw[arb]
 exact arc (K:=λr=>r=_) h.1 h.2 rfl)) call22
def ard (x:I4) (K:zdU):Prop:=af (cl x.1&&cl x.2.1) (af (cl x.2.2.1&&cl x.2.2.2) (af (uzR (smallF (x.1,x.2.1))&&uzR (smallF (x.2.2.1,x.2.2.2))) (af (uzR (smallF (x.1,x.2.1))&&uzR (smallF (x.2.2.1,x.2.2.2))) (K (cIv.enc (apD x))))))
theorem are (a:Addr) (x:I4) (K:zdU):acb a avL [] noA 5 21 [c44.enc x] K=ard x K:=by kernel_rfl
theorem arf {x:I4} (h:uz4 x=true) (k:K (cIv.enc (apD x))):ard x K:=by
 unfold uz4 at h;simp only[za2] at h;obtain⟨⟨⟨h1,h2⟩,h3⟩,h4⟩:=h;have s: ∀z,uzR (smallF z)=true:=λz=>alg _ _;unfold ard;exact ac (by rw[h1,h2];rfl) (ac (by rw[h3,h4];rfl) (ac (by rw[s,s];rfl) (ac (by rw[s,s];rfl) k)))
def gI5:List (FuncId×Ctr):=(21,k1 c44 cIv uz4 apD)::avN
theorem aqY:GEk gI5:=avM.cons (λa W J=>dD λx h=>l0 avK (MEk.nil (a:=a)) J (ann:=noA) (n:=5) m8 (cIv.ids _) (by
 rw[are]
 exact arf (K:=λr=>r=_) h rfl)) call21
def al2 (a b c k:Int) (n:Nat):SV:= .agg [.val (.int .i64 a), .val (.int .i64 b), .val (.int .i64 c), .val (.int .i64 k), .slc 0 0 n]
end Go.Proofs.YtldflkomhbfceaaGreatDoor
namespace Yk
open Go.Proofs.YtldflkomhbfceaaGreatDoor
open Go Go.RowKit Go.ChangeShapes Go.WideShapes
section
variable {H:Type} {enc:TypeId×Value->H} {P:Program} {w:World} {base b0:Nat} {spare:zdT} {held:Bool} {r:Reach} {v:Value} {d:DataW H} {ps:List MemPlace}
theorem Dk {e:TypeId} {k:IntKind} {m:Nat} (Y:P.underlying e=some (.int k)): ∀(cs:zdO) (xs:List (DataW H×List MemPlace)),cs.length=xs.length->
 (∀i,i<xs.length->DataW.trod enc P w base spare held m e ((cs.drop i).take 1)=xs[i]?)-> ∃J:List Int,cs=J.map (Value.int k)/\ ∀z∈J,(Lit.int k z).wf=true
 | [], [],_,_=>⟨[],rfl,by simp⟩
 |c::cs,x::xs,Z,h=>by
  have h0:=h 0 (by simp);simp only[zaZ,List.take_succ_cons,zbv,zbA] at h0;obtain⟨z,e1,_,wz⟩:=DataW.trod_int Y h0;obtain⟨J,i1,i3⟩:=Dk Y cs xs (by simpa using Z) (λi hi=>by have:=h (i+1) (by simpa using hi);simpa using this);refine⟨z::J, ?_, ?_⟩
  ·simp only[zca,and_true] at e1;rw[e1,i1];rfl
  ·intro y V;rcases zai.1 V with rfl|V
   ·exact wz
   ·exact i3 y V
theorem open_ints {t e:TypeId} {n:Nat} {k:IntKind} (ht:P.underlying t=some (.array n e)) (he:P.underlying e=some (.int k)) (ce:P.cellsOf e=1) (ct:P.cellsOf t=n)
 (J:Value.okWide P w r b0 t v) (hd:DataW.Trod enc P w base spare held t v d ps): ∃Y:List Int,v= .agg (Y.map (Value.int k)).toArray/\Y.length=n/\ ∀z∈Y,(Lit.int k z).wf=true:=by
 simp only[Value.okWide,ht] at J;obtain⟨cs,rfl,hcs,_⟩:=J;obtain⟨Z,hf⟩:=hd;obtain⟨xs,m,_,_,hl,hn,V⟩:=DataW.trod_array ht hf;rw[ce] at V;simp only[Value.cells,zbZ] at V hl;obtain⟨Y,h1,h2⟩:=Dk he cs.toList xs (by rw[hl,hn,ct]) (λi hi=>V i (by omega));refine⟨Y,by rw[<-h1], ?_,h2⟩;have:=congrArg List.length h1;rw[zaB] at this;omega
theorem ki {z:Int} (h:(Lit.int .i64 z).wf=true): -9223372036854775808<=z/\z<=9223372036854775807:=bounds_i64 h
end
theorem wd {H:Type} {enc:TypeId×Value->H} {P:Program} (hl:laidOutB P=true) {W W':World} (Z:Below W.heap.size W W'): ∀(ts:List TypeId) (vs:zdO) (J:List (DataW H)) (p:List MemPlace),
 (∀t∈ts,P.readableRec t=true/\t<P.types.size)->(∀x∈p,x.block<W.heap.size)->DataW.TrodAll enc P W 0 (λ_=>true) true ts vs J p->DataW.TrodAll enc P W' 0 (λb=>decide (b<W.heap.size)) true ts vs J p
 | [], [], [],_,_,_,h=>h
 |t::ts,v::vs,d::J,_,V,hp,h=>by
  obtain⟨p,q,h1,h2,rfl⟩:=h;exact⟨p,q,Below.trod hl (V t (by simp)).1 (V t (by simp)).2 h1 Z (λx Y=>hp x (by simp[Y])),wd hl Z ts vs J q (λt ht=>V t (by simp[ht])) (λx Y=>hp x (by simp[Y])) h2,rfl⟩
 | [], [],_::_,_,_,_,h=>h.elim
 | [],_::_,_,_,_,_,h=>h.elim
 |_::_, [],_,_,_,_,h=>h.elim
 |_::_,_::_, [],_,_,_,h=>h.elim
inductive Leaf where
 |int (k:IntKind)
 |bool
 |str
def Leaf.ok:Leaf->Value->Prop
 | .int k,v=> ∃z,v= .int k z/\k.min<=z/\z<=k.max
 | .bool,v=> ∃b,v= .bool b
 | .str,v=> ∃s:zdK,v= .string s/\s.size<=maxLen
def okL:List Leaf->List Value->Prop
 | [], []=>True
 |l::ls,v::vs=>l.ok v/\okL ls vs
 |_,_=>False
theorem arC: ∀{ls:List Leaf} {vs:zdO},okL ls vs->vs.length=ls.length
 | [], [],_=>rfl
 |_::_,_::_,h=>by simp[arC h.2]
 | [],_::_,h=>h.elim
 |_::_, [],h=>h.elim
theorem Q9: ∀{a b:List Leaf} {u v:zdO},okL a u->okL b v->okL (a++b) (u++v)
 | [],_, [],_,_,h=>h
 |_::_,_,_::_,_,h,k=>⟨h.1,Q9 h.2 k⟩
 | [],_,_::_,_,h,_=>h.elim
 |_::_,_, [],_,h,_=>h.elim
def Ri (P:Program) (g:TypeId->Option (List Leaf)):List Field->Nat->Option (List Leaf)
 | [],_=>some []
 |f::fs,off=>match g f.type with
  |some l=>if P.cellsOf f.type=l.length/\f.offset=off then(match Ri P g fs (off+l.length) with
   |some r=>some (l++r)
   |none=>none) else none
  |none=>none
def QV (P:Program):Nat->TypeId->Option (List Leaf)
 |0,_=>none
 |d+1,t=>match P.underlying t with
  |some .bool=>some [.bool]
  |some (.int k)=>some [.int k]
  |some .string=>some [.str]
  |some (.array n e)=>match QV P d e with
   |some l=>if P.cellsOf e=l.length/\P.cellsOf t=n*l.length then some (List.replicate n l).flatten else none
   |none=>none
  |some (.struct fs)=>match Ri P (QV P d) fs.toList 0 with
   |some l=>if P.cellsOf t=l.length then some l else none
   |none=>none
  |_=>none
section
variable {H:Type} {enc:TypeId×Value->H} {P:Program} {w:World} {base:Nat} {spare:zdT} {held:Bool}
theorem Sx {l:List Leaf}: ∀(n:Nat) (cs:zdO),cs.length=n*l.length->(∀i,i<n->okL l ((cs.drop (i*l.length)).take l.length))->okL (List.replicate n l).flatten cs
 |0,cs,J,_=>by
  have:cs= []:=zau (by omega);subst this;trivial
 |n+1,cs,J,h=>by
  rw[zce,List.flatten_cons,<-zdo l.length cs];refine Q9 (by simpa using h 0 (by omega)) (Sx n _ (by rw[zbQ,J,zaG];omega) λi hi=> ?_);have:=h (i+1) (by omega);rw[List.drop_drop];rwa[zaG,Nat.one_mul,zb3] at this
theorem Rj {g:TypeId->Option (List Leaf)} (hg: ∀{fuel:Nat} {t:TypeId} {cs:zdO} {x:DataW H×List MemPlace} {l:List Leaf},g t=some l->DataW.trod enc P w base spare held fuel t cs=some x->okL l cs):
 ∀{fs:List Field} {off:Nat} {cs:zdO} {l:List Leaf},Ri P g fs off=some l->off+l.length<=cs.length->
 (∀f∈fs,∃fuel x,DataW.trod enc P w base spare held fuel f.type ((cs.drop f.offset).take (P.cellsOf f.type))=some x)->okL l ((cs.drop off).take l.length)
 | [],off,cs,l,h,_,_=>by simp[Ri] at h;subst h;simp[okL]
 |f::fs,off,cs,l,h,Z,V=>by
  rw[Ri] at h;split at h
  ·rename_i a Y;split at h
   ·rename_i J;split at h
    ·rename_i r hr;cases h;simp only[za3] at Z ⊢;obtain⟨fuel,x,h1⟩:=V f (by simp);rw[J.1,J.2] at h1;have h2:=Rj hg hr (cs:=cs) (by omega) (λg hg=>V g (zan _ hg));rw[List.take_add,List.drop_drop];exact Q9 (hg Y h1) h2
    ·cases h
   ·cases h
  ·cases h
theorem FB: ∀(d:Nat) {fuel:Nat} {t:TypeId} {cs:zdO} {x:DataW H×List MemPlace} {l:List Leaf},QV P d t=some l->DataW.trod enc P w base spare held fuel t cs=some x->okL l cs
 |0,_,_,_,_,_,h,_=>by simp[QV] at h
 |d+1,fuel,t,cs,x,l,h,Y=>by
  rw[QV] at h;split at h
  ·rename_i V;obtain⟨b,rfl,_⟩:=DataW.trod_bool V Y;cases h;exact⟨⟨b,rfl⟩,trivial⟩
  ·rename_i k V;obtain⟨z,rfl,_,hw⟩:=DataW.trod_int V Y;cases h;simp only[Lit.wf,za2,zdw] at hw;exact⟨⟨z,rfl,hw⟩,trivial⟩
  ·rename_i V;obtain⟨s,rfl,_,hs⟩:=DataW.trod_string V Y;cases h;exact⟨⟨s,rfl,hs⟩,trivial⟩
  ·rename_i n e V;split at h
   ·rename_i le hle;split at h
    ·rename_i Z;cases h;obtain⟨xs,m,_,_,hl,hn,J⟩:=DataW.trod_array V Y;rw[Z.2] at hl;rw[Z.1] at J;refine Sx n cs hl λi hi=> ?_;have:=J i hi;rw[zaa (by omega)] at this;exact FB d hle this
    ·cases h
   ·cases h
  ·rename_i fs V;split at h
   ·rename_i lf hlf;split at h
    ·rename_i Z;cases h;obtain⟨xs,m,_,_,hl,hn,J⟩:=DataW.trod_struct V Y;rw[Z] at hl
     have:=Rj (g:=QV P d) (λh1 h2=>FB d h1 h2) (fs:=fs.toList) (off:=0) (cs:=cs) hlf (by omega) (λf hf=>by
      obtain⟨i,hi,e⟩:=zbR hf;have h1:=J i f (by rw[<-Array.getElem?_toList];rw[zaa hi,e]);rw[zaa (by simp at hi;omega)] at h1
      exact⟨_,_,h1⟩)
     rwa[zaZ,zaI (by omega)] at this
    ·cases h
   ·cases h
  ·cases h
end
end Yk
namespace Yk
open Go.Proofs.YtldflkomhbfceaaGreatDoor
open Go Go.RowKit Go.ChangeShapes Go.WideShapes Go.Sy
section
variable {H:Type} {enc:TypeId×Value->H} {P:Program} {w:World} {base:Nat}
theorem u64 {z:Int} (h:IntKind.i64.min<=z/\z<=IntKind.i64.max):cl z=true:=by
 exact Wl.2 h
end
end Yk
namespace Go.Proofs.YtldflkomhbfceaaGreatDoor
open Go Go.RowKit Go.Sy Yk Go.ChangeShapes Go.WideShapes
structure Ca9 where
 a:Int
 b:Int
 c:Int
 k:Int
 x:List I4
def Ca9.ok (c:Ca9):Bool:=cl c.a&&cl c.b&&cl c.c&&cl c.k&&c.x.all uz4
def aoR:List SV->Int
 | [.val (.int .i64 z)]=>z
 |_=>0
def e1:El Int:={sz:=1,sv:=λz=> [.val (.int .i64 z)],of:=aoR,d:=0,rt:=λ_=>rfl,ids:=λ_=>rfl,len:=λ_=>rfl,one:=by decide}
abbrev V9:=Int×List RS
def aoT (Q:Nat->Nat->Blk->Prop):Aft:=λr bl _ _=>match r with
 | .ok (.slc i 0 n)=>(match bl i with
   |some B=>Q i n B
   |none=>False)
 |_=>False
def anM (l:List RS) (v:RS):zdQ:=ald (eR.get l) (λe=>((gA v).drop (e*2)).take 2) l.length 0
variable {l:List RS} {v:RS}
theorem aoc {e:Nat} (J:e<l.length+1):anM l v e=eR.get (l++ [v]) e:=by
 unfold anM ald El.get El.nth;rw[aB];show _=gA (mb VI (l++ [v]) e);rw[aS];by_cases h:e<l.length
 ·rw[zds h,if_neg (by omega)];rfl
 ·obtain rfl:e=l.length:=by omega
  rw[zdv h,if_pos rfl,zaJ];rfl
theorem anN {z:List RS} (V:z=l++ [v]):af (Nat.beq 2 2&&decide (z.length<=l.length+1)) (∀e,e<z.length->anM l v e=eR.get z e):=by
 subst V;have J:(l++ [v]).length=l.length+1:=by simp
 exact ac (by rw[J,zds (za0 _)];rfl) λe Y=>aoc (by omega)
end Go.Proofs.YtldflkomhbfceaaGreatDoor
namespace Go.Proofs.YtldflkomhbfceaaGreatDoor
open Go Go.RowKit Go.Sy Yk Go.ChangeShapes Go.WideShapes
theorem at0: ∀vs,okL [.int .i64] vs-> ∃y:Int,cl y=true/\vs=SV.concs oj (e1.sv y):=λvs h=>by
 have J:=arC h
 match vs,J,h with
 | [_],_,⟨⟨y,rfl,b⟩,_⟩=>exact⟨y,u64 b,rfl⟩
theorem at1: ∀vs,okL [.int .i64, .int .i64, .int .i64, .int .i64] vs-> ∃y:I4,uz4 y=true/\vs=SV.concs oj (e4.sv y):=λvs h=>by
 have Z:=arC h
 match vs,Z,h with
 | [_,_,_,_],_,⟨⟨a,rfl,b0⟩,⟨b,rfl,J⟩,⟨c,rfl,V⟩,⟨d,rfl,Y⟩,_⟩=>exact⟨(a,b,c,d),by unfold uz4;rw[u64 b0,u64 J,u64 V,u64 Y];rfl,rfl⟩
section
variable {H:Type} {enc:TypeId×Value->H} {P:Program} {w:World} {base:Nat}
variable {α:Type} {e:TypeId} {held:Bool}
theorem ar7 {E:El α} {ok:α->Bool} {ls:List Leaf} (dec: ∀vs,okL ls vs-> ∃y:α,ok y=true/\vs=SV.concs oj (E.sv y)) {fuel:Nat} {a:Addr} {x:DataW H×List MemPlace} {spare:zdT} {i:Nat} (he:QV P 9 e=some ls) (hs:a.spot=none)
 (h:(w.cells? base (a.add (i*E.sz)) E.sz).bind (DataW.trod enc P w base spare held fuel e)=some x): ∃y:α,ok y=true/\ ∀o z,(E.sv y)[o]? =some z->w.cell? ⟨a.block,a.off+i*E.sz+o,none⟩=some (z.conc oj):=by
 rw[Option.bind_eq_some_iff] at h;obtain⟨cs,Z,hx⟩:=h;obtain⟨_,hl,J⟩:=World.cells?_some Z;obtain⟨y,hy,rfl⟩:=dec cs (FB 9 he hx);refine⟨y,hy,λo z V=> ?_⟩;have ho:o<E.sz:=by
  have:=(zaV.1 V).1;rw[E.len] at this;exact this
 have Y:(a.add (i*E.sz)).add o=⟨a.block,a.off+i*E.sz+o,none⟩:=by
  obtain⟨b,f,s⟩:=a;obtain rfl:s=none:=hs;unfold Addr.add;split<;>split<;>simp_all<;>omega
 rw[<-Y,J o ho,SV.concs_eq,zaL,V];rfl
variable {r:Reach} {b0:Nat} {v:Value} {ps:List MemPlace} {t:TypeId}
theorem apG {E:El α} {ok:α->Bool} {dd:DataW H} (hu:P.underlying t=some (.slice e)) (hs:P.cellsOf e=E.sz)
 (one: ∀{fuel:Nat} {x:DataW H×List MemPlace} {a:Addr} {spare:zdT} {held:Bool} {i:Nat},a.spot=none->(w.cells? base (a.add (i*E.sz)) E.sz).bind (DataW.trod enc P w base spare held fuel e)=some x-> ∃y:α,ok y=true/\ ∀o z,(E.sv y)[o]? =some z->w.cell? ⟨a.block,a.off+i*E.sz+o,none⟩=some (z.conc oj))
 (Y:Value.okWide P w r b0 t v) (hd:DataW.Trod enc P w base (λ_=>true) held t v dd ps): ∃(xs:List α) (L:Go.Sy.Loc),v=(SV.slc 0 0 xs.length).conc (λ_=>L)/\(∀x∈xs,ok x=true)/\BlkOK (λ_=>L) 0 (E.old xs) w/\xs.length<=maxLen:=by
 obtain⟨a0,J,V,rfl⟩:=okWide_slice hu Y;obtain⟨fuel,hf⟩:=hd;rcases DataW.trod_slice hu hf with ⟨hs,_⟩|⟨a,len,cap,elems,rest,n,_,hs',_,_,hle,hcap,hlen,hget,hsp,_⟩
 ·simp only[Value.cells,zca,and_true,Value.slice.injEq] at hs;obtain⟨rfl,rfl,rfl⟩:=hs;refine⟨[],⟨0,0,E.sz,0,true⟩,rfl,λx hx=>(by cases hx), ?_,zaA _⟩;exact⟨rfl,λh=>(by cases h),za0 _,λe he=>absurd he (zbn e),λj hj=>(by simp at hj),λh=>(by cases h),λe he=>absurd he (zbn e),λ_=>rfl,λh=>(by cases h)⟩
 ·simp only[Value.cells,zca,and_true,Value.slice.injEq] at hs';obtain⟨rfl,rfl,rfl⟩:=hs';have hb:a.spot=none/\a.block<w.heap.size:=by
   simp only[Value.okWide,hu] at Y;unfold Cell.okWide at Y;simp only[hu] at Y;unfold Cell.ok at Y;simp only[hu] at Y;obtain⟨_,_,_,hsp,row,cells,hsh,_⟩:=Y;refine⟨hsp, ?_⟩;unfold World.shape? at hsh;rcases zah a.block w.heap.size with h|h
   ·exact h
   ·rw[zcD h] at hsh;cases hsh
  obtain⟨hrl,Z⟩:=hsp rfl;rw[hs] at hget Z;have each: ∀i,∃y:α,i<V->ok y=true/\ ∀o z,(E.sv y)[o]? =some z->w.cell? ⟨a.block,a.off+i*E.sz+o,none⟩=some (z.conc oj):=λi=>by
   by_cases hi:i<V
   ·by_cases hi':i<J
    ·have:=hget i hi';rw[zaa (by omega)] at this;obtain⟨y,h⟩:=one hb.1 this;exact⟨y,λ_=>h⟩
    ·have:=Z (i - J) (by omega);rw[show J+(i - J)=i by omega,zaa (by omega)] at this;obtain⟨y,h⟩:=one hb.1 this;exact⟨y,λ_=>h⟩
   ·exact⟨E.d,λh=>absurd h hi⟩
  obtain⟨g,hg⟩:=Classical.axiomOfChoice each;have hlx:(Go.Sy.tab g J).length=J:=fJ _ _;refine⟨Go.Sy.tab g J,⟨a.block,a.off,E.sz,V,false⟩, ?_,λy hy=> ?_, ?_,by omega⟩
  ·rw[jq rfl (.inr rfl),hlx];obtain⟨b,f,s⟩:=a;obtain rfl:s=none:=hb.1;simp[addr]
  ·obtain⟨i,hi⟩:=zby hy;have hlt:i<J:=by have:=(zaV.1 hi).1;omega
   rw[qX _ hlt] at hi;simp only[za1] at hi;subst hi;exact(hg i (by omega)).1
  ·refine⟨rfl,λ_=>hb.2,by show (Go.Sy.tab g J).length<=V;omega,λe he=>E.len _,λj hj=> ?_,λh=>(by cases h),λe he o s ho=> ?_,λh=>(by cases h),λ_=>rfl⟩
   ·have hj:j<V*E.sz:=hj;have hp:0<E.sz:=by
     rcases zbK E.sz with h|h
     ·rw[h,Nat.mul_zero] at hj;omega
     ·exact h
    have hq:j / E.sz<V:=Nat.div_lt_of_lt_mul (by rw[zay];exact hj);have hm:j%E.sz<(E.sv (g (j / E.sz))).length:=by rw[E.len];exact zar _ hp
    have:=(hg (j / E.sz) hq).2 (j%E.sz) _ (zaa hm);rw[zbr,Nat.div_add_mod'] at this;show (w.cell? ⟨a.block,a.off+j,none⟩).isSome=true;rw[this];rfl
   ·have he':e<J:=by rw[<-hlx];exact he
    have e1':E.get (Go.Sy.tab g J) e=E.sv (g e):=by
     unfold El.get El.nth;rw[bR (qX g he')]
    have ho':(E.sv (g e))[o]? =some s:=by rw[<-e1'];exact ho
    show w.cell? ⟨a.block,a.off+e*E.sz+o,none⟩=_
    rw[(hg e (by omega)).2 o s ho',SV.conc_congr s (β:=oj) (β':=λ_=>(⟨a.block,a.off,E.sz,V,false⟩:Go.Sy.Loc)) (λi h=>by
     have:i∈SV.idss (E.sv (g e)):=SV.mem_idss.2 ⟨s,zal ho',h⟩
     rw[E.ids] at this;cases this)]
theorem open_ints {dd:DataW H} (hu:P.underlying t=some (.slice e)) (V:P.cellsOf e=1/\QV P 9 e=some [.int .i64])
 (J:Value.okWide P w r b0 t v) (Y:DataW.Trod enc P w base (λ_=>true) held t v dd ps): ∃(xs:List Int) (L:Go.Sy.Loc),v=(SV.slc 0 0 xs.length).conc (λ_=>L)/\(∀x∈xs,cl x=true)/\BlkOK (λ_=>L) 0 (e1.old xs) w/\xs.length<=maxLen:=
 apG (E:=e1) hu V.1 (λZ h=>ar7 at0 V.2 Z h) J Y
theorem apJ {dd:DataW H} (hu:P.underlying t=some (.slice e)) (V:P.cellsOf e=4/\QV P 9 e=some [.int .i64, .int .i64, .int .i64, .int .i64])
 (J:Value.okWide P w r b0 t v) (Y:DataW.Trod enc P w base (λ_=>true) held t v dd ps): ∃(xs:List I4) (L:Go.Sy.Loc),v=(SV.slc 0 0 xs.length).conc (λ_=>L)/\(∀x∈xs,uz4 x=true)/\BlkOK (λ_=>L) 0 (e4.old xs) w/\xs.length<=maxLen:=
 apG (E:=e4) hu V.1 (λZ h=>ar7 at1 V.2 Z h) J Y
def amK (P:Program) (t e:TypeId):Bool:=match P.cellTypes P.depth t with
 |some l=>l.length==5&&l[4]? ==some e
 |none=>false
theorem amk {b0':Nat} {dd:DataW H} {fs:Array Go.Field} {f0 f1 f2:Go.Field} (hu:P.underlying t=some (.struct fs)) (hfs:fs.toList= [f0,f1,f2]) (hc:P.cellsOf t=5)
 (h0:f0.offset=0/\P.cellsOf f0.type=3/\QV P 9 f0.type=some [.int .i64, .int .i64, .int .i64]) (h1:f1.offset=3/\P.cellsOf f1.type=1/\QV P 9 f1.type=some [.int .i64]) (h2:f2.offset=4/\P.cellsOf f2.type=1/\P.underlying f2.type=some (.slice e))
 (he:P.cellsOf e=4/\QV P 9 e=some [.int .i64, .int .i64, .int .i64, .int .i64]) (ht:amK P t f2.type=true)
 (Y:Value.okWide P w r b0' t v) (hd:DataW.Trod enc P w base (λ_=>true) held t v dd ps): ∃(c:Ca9) (L:Go.Sy.Loc),v=(al2 c.a c.b c.c c.k c.x.length).conc (λ_=>L)/\c.ok=true/\BlkOK (λ_=>L) 0 (e4.old c.x) w/\c.x.length<=maxLen:=by
 simp only[Value.okWide,hu] at Y;obtain⟨cs,rfl,hsz,ts,hts,_,V⟩:=Y;have ht4:ts.length=5/\ts[4]? =some f2.type:=by
  unfold amK at ht;rw[hts] at ht;simpa using ht
 obtain⟨fuel,hf⟩:=hd;obtain⟨xs,m,_,_,hl,hn,hel⟩:=DataW.trod_struct hu hf;have hL:cs.toList.length=5:=by rw[Array.length_toList,hsz,hc]
 have J: ∀(i:Nat) (f:Go.Field),fs.toList[i]? =some f-> ∃x,DataW.trod enc P w base (λ_=>true) held m f.type ((cs.toList.drop f.offset).take (P.cellsOf f.type))=some x:=λi f hi=>by
  have h1:=hel i f (by rw[<-Array.getElem?_toList];exact hi);have hlt:i<fs.toList.length:=(zaV.1 hi).1;rw[zaa (by simp at hlt;omega)] at h1;exact⟨_,h1⟩
 rw[hfs] at J;obtain⟨cs⟩:=cs;dsimp only at hL J V ⊢
 match cs,hL with
 | [c0,c1,c2,c3,c4],_=>
 obtain⟨x0,k0⟩:=J 0 f0 rfl;obtain⟨x1,k1⟩:=J 1 f1 rfl;obtain⟨⟨d2,p2⟩,k2⟩:=J 2 f2 rfl;rw[h0.1,h0.2.1] at k0;rw[h1.1,h1.2.1] at k1;rw[h2.1,h2.2.1] at k2;obtain⟨⟨a0,rfl,b0⟩,⟨a1,rfl,b1⟩,⟨a2,rfl,b2⟩,_⟩:=FB 9 h0.2.2 k0;obtain⟨⟨a3,rfl,b3⟩,_⟩:=FB 9 h1.2.2 k1;obtain⟨u,Z,hok⟩:=V 4 c4 rfl;rw[ht4.1,ht4.2] at Z;simp only[za1] at Z;subst Z;have v4:Value.okWide P w r b0' f2.type c4:=by simp only[Value.okWide,h2.2.2];exact hok
 obtain⟨a,l,n,rfl⟩:=okWide_slice h2.2.2 v4;obtain⟨xs,L,q,w1,B1,m1⟩:=apJ h2.2.2 he v4 ⟨m,k2⟩;refine⟨⟨a0,a1,a2,a3,xs⟩,L, ?_, ?_,B1,m1⟩
 ·rw[q];rfl
 ·unfold Ca9.ok;rw[u64 b0,u64 b1,u64 b2,u64 b3,zaf.2 w1];rfl
end
variable {β:Nat->Go.Sy.Loc} {w:World}
theorem aoA {L:Go.Sy.Loc} {i:Nat} {B:Blk} (h:BlkOK (λ_=>L) 0 B w) (hl:β i=L) (V: ∀e,e<B.n->SV.idss (B.get e)= []):BlkOK β i B w:=
 wD (i1:=0) h (by rw[hl]) rfl (za0 _) id (λh=> .inl h) λe Y=>⟨rfl,λo s J=>⟨s,J,SV.conc_congr s λj Z=>by
  have:j∈SV.idss (B.get e):=SV.mem_idss.2 ⟨s,zal J,Z⟩
  rw[V e Y] at this;cases this⟩⟩
variable {Bs:zdX}
theorem aoL (h: ∀(i:Nat) (B:Blk),Bs[i]? =some B->BlkOK β i B w/\B.kd= .old/\ ∀e,e<B.n->SV.idss (B.get e)= []):BC w (λi=>Bs[i]?) β w:=by
 have no: ∀{i:Nat} {C:Blk},Bs[i]? =some C->C.kd= .old:=λ{i C} J=>(h i C J).2.1;refine⟨Pres.refl _,λid C J _=>(h id C J).1,λid C J Y=> ?_,λid C J _ hn=> ?_,λid id' C C' J Z Y _ _ _ _=> ?_,λid C e o s J _ he hs=> ?_,⟨λid C J V=> ?_,λid id' C C' J Z V=> ?_,λid C e s J V=> ?_,λid C J V=> ?_⟩⟩
 ·rw[no J] at Y;cases Y
 ·refine⟨?_,rfl⟩;intro V;have:=(h id C J).1.lt hn;rcases V with V|V
  ·exact absurd this (Nat.not_lt.2 V)
  ·cases V
 ·rw[no J] at Y;cases Y
 ·intro i hi;have:i∈SV.idss (C.get e):=SV.mem_idss.2 ⟨s,zal hs,hi⟩;rw[(h id C J).2.2 e he] at this;cases this
 all_goals rw[no J] at V;cases V
theorem ao7 {p:Addr} {g:List (FuncId×Ctr)} (hg:GEk g) {gm:ze0} (hm:MEk p gm) {W:World} (Y:GlobE p W) {ann:zdY} {n:Nat} {F:FuncId} {args:zdN} (J:BC W (λi=>Bs[i]?) β W) (hl: ∀s∈args,∀i∈s.ids,i<Bs.length) (h:XC p g gm ann n F args Bs (Go.Sy.okK λr _ _ _=>r=cB.enc true)):
 Calls Tryz.prog F (SV.concs β args).toArray W λe w'=>e= .returned (.bool true)/\Below W.heap.size W w':=by
 unfold XC at h
 obtain⟨_,Z⟩:=sU (ac9 hg hm (GlobEB.of Y)) ann n F args (λi=>Bs[i]?) Bs.length [] _ β W h J (λi hi=>zad hi) (λs hs i hi=>by
  show Bs[i]? ≠none
  rw[zaa (hl s hs i hi)];simp)
 refine Calls.mono Z ?_;rintro e w' ⟨β',s,bl',nx',wl',he,V,J,_⟩;cases s with
 |pan v=>exact V.elim
 |ok s=>
 obtain rfl:e=_:=he;obtain rfl:s=_:=V;exact⟨rfl,J.below.below⟩
end Go.Proofs.YtldflkomhbfceaaGreatDoor
namespace Go.Proofs.YtldflkomhbfceaaGreatDoor
open Go Go.RowKit Go.Sy Yk
def aqg (I:EI->Prop) (N:Int):zdY:=λf k=>bif Nat.beq f 6&&Nat.beq k 3 then some (λA=>{X:=EI,inv:=I,tm:=λx=> [(6, .val (.int .i64 x.1)),(5, .slc A.nx 0 x.2.length)],gr:= [{src:= .slot 5,sz:=4,n:=λx=>x.2.length,get:=λx=>eI.get x.2}],cleanG:=λg hg x e=>(by simp at hg;subst hg;exact eI.ids _),mu:=λx=>(N - x.1).toNat,keep:= [0,1,4]}) else none
def aqh (I:V9->Prop) (N:Int):zdY:=λf k=>bif Nat.beq f 7&&Nat.beq k 3 then some (λA=>{X:=V9,inv:=I,tm:=λx=> [(6, .val (.int .i64 x.1)),(5, .slc A.nx 0 x.2.length)],gr:= [{src:= .slot 5,sz:=2,n:=λx=>x.2.length,get:=λx=>eR.get x.2}],cleanG:=λg hg x e=>(by simp at hg;subst hg;exact eR.ids _),mu:=λx=>(N - x.1).toNat,keep:= [0,1,4]}) else none
abbrev aqi (a:Addr) (I:EI->Prop) (N:Int) (xs:List I4) (n:Int) (Q:Nat->Nat->Blk->Prop):Prop:=XC a gI5 [] (aqg I N) 6 6 [.slc 0 0 xs.length,cI.enc n] [e4.old xs] (aoT Q)
abbrev aqj (a:Addr) (I:V9->Prop) (N:Int) (l:List Iv) (ks:List Int) (Q:Nat->Nat->Blk->Prop):Prop:=XC a gI5 [] (aqh I N) 6 7 [.slc 0 0 l.length, .slc 1 0 ks.length] [eI.old l,e1.old ks] (aoT Q)
def aqk (l:List Iv) (v:Iv):zdQ:=ald (eI.get l) (λe=>((yl v).drop (e*4)).take 4) l.length 0
variable {l:List Iv}
theorem aql {v:Iv} {z:List Iv} (V:z=l++ [v]):af (Nat.beq 4 4&&decide (z.length<=l.length+1)) (∀e,e<z.length->aqk l v e=eI.get z e):=by
 subst V;have J:(l++ [v]).length=l.length+1:=by simp
 refine ac (by rw[J,zds (za0 _)];rfl) λe Y=> ?_;unfold aqk ald El.get El.nth;rw[aB];show _=yl (mb noI (l++ [v]) e);rw[aS];by_cases h:e<l.length
 ·rw[zds h,if_neg (by omega)];rfl
 ·obtain rfl:e=l.length:=by omega
  rw[zdv h,if_pos rfl,zaJ];rfl
def itK (xs:List I4) (n:Int):Prop:=tvE (.slc 0 0 xs.length)/\tvE (cI.enc n)/\tvE (.val (.slice none 0 0))/\True
def itM (q:Nat) (xs:List I4) (n i:Int) (m:Nat) (g:zdQ) (z:EI):Prop:=(TV.v (cI.enc i)=TV.v (cI.enc z.1)/\TV.v (.slc q 0 m)=TV.v (.slc q 0 z.2.length)/\itK xs n)/\(True/\(True/\(af (Nat.beq 4 4&&decide (z.2.length<=m)) (∀e,e<z.2.length->g e=eI.get z.2 e)/\True)))
def itN (I:EI->Prop) (N:Int) (xs:List I4) (n:Int) (z:EI) (q:Nat) (y:I4):Prop:=
 af (uz4 y) (ako z.2.length (af (inR .i64 (z.1+1)) (∃z':EI,I z'/\((N - z'.1).toNat<(N - z.1).toNat/\itM q xs n (z.1+1) (z.2.length+1) (aqk z.2 (apD y)) z'))))
def itT (I:EI->Prop) (N:Int) (xs:List I4) (n:Int) (Q:Nat->Nat->Blk->Prop):Prop:=
 ∃z0:EI,I z0/\(((TV.v (cI.enc 0)=TV.v (cI.enc z0.1)/\TV.v (.val (.slice none 0 0))=TV.v (.val (.slice none z0.2.length 0))/\itK xs n)/\(True/\(True/\(z0.2.length=0/\True))))/\
  ∀z:EI,I z->ag (decide (z.1<n)) (ag (decide (z.1<(xs.length:Int))) (eO xs.length z.1 (itN I N xs n z 24 (e4.nth xs (0+z.1.toNat)))) (itN I N xs n z 19 (0,0,0,0)))
   (Q 4 z.2.length {n:=z.2.length,sz:=4,get:=eI.get z.2,kd:= .own,nn:=false}))
theorem arh (a:Addr) (I:EI->Prop) (N:Int) (xs:List I4) (n:Int) (Q:Nat->Nat->Blk->Prop):aqi a I N xs n Q=itT I N xs n Q:=by kernel_rfl
def isK (l:List Iv) (ks:List Int):Prop:=tvE (.slc 0 0 l.length)/\tvE (.slc 1 0 ks.length)/\tvE (.val (.slice none 0 0))/\True
def isM (q:Nat) (l:List Iv) (ks:List Int) (i:Int) (m:Nat) (g:zdQ) (z:V9):Prop:=(TV.v (cI.enc i)=TV.v (cI.enc z.1)/\TV.v (.slc q 0 m)=TV.v (.slc q 0 z.2.length)/\isK l ks)/\(True/\(True/\(af (Nat.beq 2 2&&decide (z.2.length<=m)) (∀e,e<z.2.length->g e=eR.get z.2 e)/\True)))
def isN (I:V9->Prop) (N:Int) (l:List Iv) (ks:List Int) (z:V9) (q:Nat) (k:Int):Prop:=
 eO l.length z.1 (af (uzI (eI.nth l (0+z.1.toNat))&&cl k) (LP z.2.length (af (inR .i64 (z.1+1)) (∃z':V9,I z'/\((N - z'.1).toNat<(N - z.1).toNat/\isM q l ks (z.1+1) (z.2.length+1) (anM z.2 (inF (eI.nth l (0+z.1.toNat)) k)) z')))))
def isT (I:V9->Prop) (N:Int) (l:List Iv) (ks:List Int) (Q:Nat->Nat->Blk->Prop):Prop:=
 ∃z0:V9,I z0/\(((TV.v (cI.enc 0)=TV.v (cI.enc z0.1)/\TV.v (.val (.slice none 0 0))=TV.v (.val (.slice none z0.2.length 0))/\isK l ks)/\(True/\(True/\(z0.2.length=0/\True))))/\
  ∀z:V9,I z->ag (decide (z.1<(l.length:Int))) (ag (decide (z.1<(ks.length:Int))) (eO ks.length z.1 (isN I N l ks z 28 (e1.nth ks (0+z.1.toNat)))) (isN I N l ks z 23 0))
   (Q 5 z.2.length {n:=z.2.length,sz:=2,get:=eR.get z.2,kd:= .own,nn:=false}))
theorem aqT (a:Addr) (I:V9->Prop) (N:Int) (l:List Iv) (ks:List Int) (Q:Nat->Nat->Blk->Prop):aqj a I N l ks Q=isT I N l ks Q:=by kernel_rfl
theorem apm {α:Type} {d:α}: ∀{l:List α} {e:Nat},l.length<=e->mb d l e=d
 | [],e,_=>rfl
 |x::r,0,h=>by simp at h
 |x::r,e+1,h=>apm (l:=r) (by simpa using h)
def itI (xs:List I4) (n:Int) (z:EI):Prop:=0<=z.1/\z.1<=n/\z.2=bt xs z.1.toNat
variable {xs:List I4} {n:Int} {q:Nat}
theorem aqm {z:EI} {y:I4} (h:itI xs n z) (Z:z.1<n) (Y:n<=1000000) (J:uz4 y=true) (e:y=mb (0,0,0,0) xs z.1.toNat):itN (itI xs n) n xs n z q y:=by
 obtain⟨h0,h1,h2⟩:=h;have V:z.2.length=z.1.toNat:=by rw[h2];exact fJ _ _
 have e1:(z.1+1).toNat=z.1.toNat+1:=by omega
 refine ac J (ah9 (by omega) (ac (VP.2 (by omega)) ⟨(z.1+1,z.2++ [apD y]),⟨by show 0<=z.1+1;omega,by show z.1+1<=n;omega, ?_⟩,by show (_:Nat)<_;dsimp only;omega,⟨⟨rfl,by simp,rfl,rfl,rfl,trivial⟩,trivial,trivial,aql rfl,trivial⟩⟩));show z.2++ [apD y]=bt xs (z.1+1).toNat;rw[e1,h2,e];rfl
variable {Q:Nat->Nat->Blk->Prop}
theorem ap0 (h0:0<=n) (hn:n<=1000000) (hx: ∀x∈xs,uz4 x=true) (k:Q 4 n.toNat (eI.own (bt xs n.toNat))):itT (itI xs n) n xs n Q:=by
 refine⟨(0, []),⟨zat _,h0,rfl⟩,⟨⟨rfl,rfl,rfl,rfl,rfl,trivial⟩,trivial,trivial,rfl,trivial⟩, ?_⟩;rintro⟨i,l⟩ Y;have h:=Y;obtain⟨k0,k1,k2⟩:=h;dsimp only at k0 k1 k2 ⊢;refine ah (λJ=>ah (λV=> ?_) (λV=> ?_)) (λJ=> ?_)
 ·have J:=zdx J;have V:=zdx V;refine aY k0 V (aqm Y J hn ?_ ?_)
  ·exact hx _ (bw (by omega))
  ·show mb (0,0,0,0) xs (0+i.toNat)=_;rw[za7]
 ·have J:=zdx J;have V:=zdy V;exact aqm Y J hn (by decide) (apm (by omega)).symm
 ·have J:=zdy J;obtain rfl:i=n:=by omega
  have e:l=bt xs i.toNat:=k2;subst e;have Z:(bt xs i.toNat).length=i.toNat:=fJ _ _;have:({n:=(bt xs i.toNat).length,sz:=4,get:=eI.get (bt xs i.toNat),kd:= .own,nn:=false}:Blk)=eI.own (bt xs i.toNat):=rfl;rw[this,Z];exact k
def isI (l:List Iv) (ks:List Int) (z:V9):Prop:=0<=z.1/\z.1<=l.length/\z.2=hH l ks z.1.toNat
variable {ks:List Int}
theorem aqn {z:V9} {k:Int} (h:isI l ks z) (Y:z.1<l.length) (hn:l.length<=1000000) (V: ∀u∈l,uzI u=true) (J:cl k=true) (e:k=mb 0 ks z.1.toNat):isN (isI l ks) l.length l ks z q k:=by
 obtain⟨h0,h1,h2⟩:=h;have Z:z.2.length=z.1.toNat:=by rw[h2];exact fJ _ _
 have e1:(z.1+1).toNat=z.1.toNat+1:=by omega
 refine aY h0 Y (ac (by rw[J,show uzI (eI.nth l (0+z.1.toNat))=true from V _ (bw (by omega))];rfl) (LQ (by omega) (ac (VP.2 (by omega)) ⟨(z.1+1,z.2++ [inF (eI.nth l (0+z.1.toNat)) k]),⟨by show 0<=z.1+1;omega,by show z.1+1<=_;omega, ?_⟩,by show (_:Nat)<_;dsimp only;omega,⟨⟨rfl,by simp,rfl,rfl,rfl,trivial⟩,trivial,trivial,anN rfl,trivial⟩⟩)));show z.2++ [_]=hH l ks (z.1+1).toNat;rw[e1,h2,e,za7];rfl
theorem ap4 (hn:l.length<=1000000) (hl: ∀u∈l,uzI u=true) (hx: ∀x∈ks,cl x=true) (k:Q 5 l.length (eR.own (hH l ks l.length))):isT (isI l ks) l.length l ks Q:=by
 refine⟨(0, []),⟨zat _,by show (0:Int)<=_;omega,rfl⟩,⟨⟨rfl,rfl,rfl,rfl,rfl,trivial⟩,trivial,trivial,rfl,trivial⟩, ?_⟩;rintro⟨i,v⟩ Y;have h:=Y;obtain⟨k0,k1,k2⟩:=h;dsimp only at k0 k1 k2 ⊢;refine ah (λJ=>ah (λV=> ?_) (λV=> ?_)) (λJ=> ?_)
 ·have J:=zdx J;have V:=zdx V;refine aY k0 V (aqn Y J hn hl ?_ ?_)
  ·exact hx _ (bw (by omega))
  ·show mb 0 ks (0+i.toNat)=_;rw[za7]
 ·have J:=zdx J;have V:=zdy V;exact aqn Y J hn hl (by decide) (apm (by omega)).symm
 ·have J:=zdy J;have e:v=hH l ks l.length:=by rw[k2,show i.toNat=l.length by omega]
  subst e;have Z:(hH l ks l.length).length=l.length:=fJ _ _;have:({n:=(hH l ks l.length).length,sz:=2,get:=eR.get (hH l ks l.length),kd:= .own,nn:=false}:Blk)=eR.own (hH l ks l.length):=rfl;rw[this,Z];exact k
def aqo:MCtr:=λbl nx args=>match args with
 | [s, .val (.int .i64 n)]=>match vW bl 4 s with
   |some (b,_,m,g)=>some {X:=Unit,pre:=b&&e4.good uz4 m g&&decide (1<=n)&&decide (n<=1000000),spec:=λ_=>True,out:=λ_=> .slc nx 0 n.toNat,nw:=λ_=> [eI.own (bt (e4.list m g) n.toNat)],ex:=λ_=>⟨(),trivial⟩}
   |none=>none
 |_=>none
variable {a:Addr}
theorem aqp: ∀B:Base,GlobEB a B->VU Tryz.prog B 6 aqo:=agE aqY MEk.nil λbl nx args C V hp=>by
 unfold aqo at V;split at V
 ·rename_i s n;split at V
  ·rename_i b o m g Z;simp only[za1] at V;subst V;simp only[za2,zdw] at hp;obtain⟨⟨⟨rfl,hg⟩,h1⟩,h2⟩:=hp;obtain⟨t1,t2⟩:=cq (f:=rnF [o] [] nx) Z hg;have J: ∀C∈ [e4.old (e4.list m g)],cN C.kd=false:=by simp[cN,El.old]
   refine⟨[o], [e4.old (e4.list m g)], [.slc 0 0 (e4.list m g).length,cI.enc n],aqg (itI (e4.list m g) n) n,6,aw t1 trivial,bH J,cd (by simp[El.old,BK.map]),ar (t2 0 rfl) rfl, ?_⟩;refine afP (K:=aoT λi k B=>i=4/\k=n.toNat/\B=eI.own (bt (e4.list m g) n.toNat)) ?_ λr bl' q w h=> ?_
   ·have e:=arh a (itI (e4.list m g) n) n (e4.list m g) n (λi k B=>i=4/\k=n.toNat/\B=eI.own (bt (e4.list m g) n.toNat));unfold aqi at e;rw[e];exact ap0 (by omega) h2 (El.good_list hg) ⟨rfl,rfl,rfl⟩
   ·unfold aoT at h;split at h
    ·rename_i i k;split at h
     ·rename_i B hB;obtain⟨rfl,rfl,rfl⟩:=h;have Y:dt [o] [some 4] nx nx=some (some 4):=cO;refine⟨(),trivial, [some 4],⟨_,rfl, ?_⟩,by simp[ck],⟨⟨by simp, ?_⟩,trivial⟩,we J rfl _⟩
      ·show SV.rn (dt [o] [some 4] nx) (.slc nx 0 n.toNat)=_;simp only[SV.rn,Y]
      ·rw[hB];exact⟨by simp[El.own],λ_=> .inr ⟨by show 1<=(bt _ _).length;rw[show (bt (e4.list m g) n.toNat).length=n.toNat from fJ _ _];omega,eI.one⟩,gC rfl rfl (za0 _) λ_ _=>rfl⟩
     ·exact h.elim
    ·exact h.elim
  ·cases V
 ·cases V
def aqq:MCtr:=λbl nx args=>match args with
 | [s,t]=>match vW bl 4 s,vW bl 1 t with
   |some (b,_,m,g),some (b',_,m',g')=>some {X:=Unit,pre:=b&&b'&&eI.good uzI m g&&e1.good cl m' g'&&Nat.ble 1 m&&bW m,spec:=λ_=>True,out:=λ_=> .slc nx 0 m,nw:=λ_=> [eR.own (hH (eI.list m g) (e1.list m' g') m)],ex:=λ_=>⟨(),trivial⟩}
   |_,_=>none
 |_=>none
theorem aqr: ∀B:Base,GlobEB a B->VU Tryz.prog B 7 aqq:=agE aqY MEk.nil λbl nx args C V hp=>by
 unfold aqq at V;split at V
 ·rename_i s t;split at V
  ·rename_i b o m g b' o' m' g' hs ht;simp only[za1] at V;subst V;simp only[za2] at hp;obtain⟨⟨⟨⟨⟨rfl,rfl⟩,hg⟩,Y⟩,h1⟩,h2⟩:=hp;obtain⟨t1,t2⟩:=cq (f:=rnF [o,o'] [] nx) hs hg;obtain⟨u1,u2⟩:=cq (f:=rnF [o,o'] [] nx) ht Y;have Z:(eI.list m g).length=m:=El.list_length;have J: ∀C∈ [eI.old (eI.list m g),e1.old (e1.list m' g')],cN C.kd=false:=by simp[cN,El.old]
   refine⟨[o,o'], [eI.old (eI.list m g),e1.old (e1.list m' g')], [.slc 0 0 (eI.list m g).length, .slc 1 0 (e1.list m' g').length],aqh (isI (eI.list m g) (e1.list m' g')) (eI.list m g).length,6,aw t1 (aw u1 trivial),bH J,cd (by simp[El.old,BK.map]),ar (t2 0 rfl) (ar (u2 1 rfl) rfl), ?_⟩;refine afP (K:=aoT λi k B=>i=5/\k=m/\B=eR.own (hH (eI.list m g) (e1.list m' g') m)) ?_ λr bl' q w h=> ?_
   ·have e:=aqT a (isI (eI.list m g) (e1.list m' g')) (eI.list m g).length (eI.list m g) (e1.list m' g') (λi k B=>i=5/\k=m/\B=eR.own (hH (eI.list m g) (e1.list m' g') m));unfold aqj at e;rw[e];exact ap4 (by rw[Z];exact zak h2) (El.good_list hg) (El.good_list Y) (by rw[Z];exact⟨rfl,rfl,rfl⟩)
   ·unfold aoT at h;split at h
    ·rename_i i k;split at h
     ·rename_i B hB;obtain⟨rfl,rfl,rfl⟩:=h;have e0:dt [o,o'] [some 5] nx nx=some (some 5):=cO;refine⟨(),trivial, [some 5],⟨_,rfl, ?_⟩,by simp[ck],⟨⟨by simp, ?_⟩,trivial⟩,we J rfl _⟩
      ·show SV.rn (dt [o,o'] [some 5] nx) (.slc nx 0 _)=_;simp only[SV.rn,e0]
      ·rw[hB];exact⟨by simp[El.own],λ_=> .inr ⟨by show 1<=(hH _ _ _).length;rw[show (hH (eI.list k g) (e1.list m' g') k).length=k from fJ _ _];exact zak h1,eR.one⟩,gC rfl rfl (za0 _) λ_ _=>rfl⟩
     ·exact h.elim
    ·exact h.elim
  ·cases V
 ·cases V
def auy (b a:Iv):Bool:=vI b&&auf a b.1&&auf a b.2
def auj (v:List RS) (l:List Iv) (n:Nat):List Iv:=Go.Sy.tab (λj=>(mb VI v j,(mb noI l j).2)) n
open Go.Proofs.Tryz
variable {p:Pr}
theorem au1 {ins:List Iv} {pl:Int}:uzI (dR p ins pl).1=true:=by
 unfold dR ah5;cases (!VM p||ins.length !=p.inp.length|| !ins.all vI) with
 |true=>exact(show uzI noI=true by decide)
 |false=>
  cases e:alE (sqP pl) pl ins p.nod [] with
  |none=>exact(show uzI noI=true by decide)
  |some w=>exact acL (apE (λu h=>by cases h) e) _
theorem au2 {v:List RS} {l:List Iv} (V: ∀r∈v,uzR r=true) (J: ∀r∈l,uzI r=true): ∀{n:Nat},∀u∈auj v l n,uzI u=true
 |0,u,h=>by cases h
 |n+1,u,h=>by
  rcases za8.1 h with h|h
  ·exact au2 V J u h
  ·rw[zaj.1 h];refine adF ?_ (alu (acL J n)).2;rcases zah n v.length with c|c
   ·exact V _ (bw c)
   ·rw[show mb VI v n=VI from apm c];decide
theorem avj {b a:Iv} (h:SubI b a):auy b a=true:=by
 unfold auy;rw[h.self.v,apx.2 ⟨h.self.l,h.lo⟩,apx.2 ⟨h.self.h,h.hi⟩];rfl
theorem avc {l:List Iv} {ks:List Int} {a b:Int} {n:Nat} (hn:l.length=n) (V:a<=b) (h1:(dR p l a).2=0) (h2:(dR p (auj (hH l ks n) l n) b).2=0):auy (dR p (auj (hH l ks n) l n) b).1 (dR p l a).1=true:=by
 subst hn;obtain⟨_,_,hv,_⟩:=aui (c:=(dR p l a).1) (show ah5 (sqP a) p l a=_ from zc8 rfl h1);obtain⟨_,_,hw,_⟩:=aui (c:=(dR p (auj (hH l ks l.length) l l.length) b).1) (show ah5 (sqP b) p _ b=_ from zc8 rfl h2);have Y:(auj (hH l ks l.length) l l.length).length=l.length:=fJ _ _;refine avj (avi V (zc8 rfl h1) (zc8 rfl h2) ⟨Y,λj J=> ?_⟩);have e:mb noI (auj (hH l ks l.length) l l.length) j=(inF (mb noI l j) (mb 0 ks j),(mb noI l j).2):=by
  have:=bR (d:=noI) (qX (λj=>(mb VI (hH l ks l.length) j,(mb noI l j).2)) J);rw[show mb VI (hH l ks l.length) j=inF (mb noI l j) (mb 0 ks j) from bR (qX _ J)] at this;exact this
 have w:=zaf.1 hw _ (bw (d:=noI) (by rw[Y];exact J));rw[e] at w ⊢;obtain⟨Z,w2,w3⟩:=ajh.1 w;have i:=aq6 (zaf.1 hv _ (bw J)) Z;exact⟨⟨Z,w2,Rat.le_refl,w3⟩,i,avs i⟩
def wiT (x y:Iv) (K:zdU):Prop:=
 af (uzI x) (af (dC (vI x) (uzI y&&uzR x.1)) (af (dC (bif vI x then auf y x.1 else false) (uzI y&&uzR x.2)) (K (cB.enc (bif (bif vI x then auf y x.1 else false) then auf y x.2 else false)))))
theorem avD (a:Addr) (x y:Iv) (K:zdU):acb a gV2 [] noA 6 10 [cIv.enc x,cIv.enc y] K=wiT x y K:=by kernel_rfl
def gWi:List (FuncId×Ctr):=(10,k2 cIv cIv cB (λx y=>uzI x&&uzI y) auy)::gV2
theorem avE:GEk gWi:=aiH.cons (λa W Y=>bC λx y h=>by
 obtain⟨J,V⟩:=vo h;obtain⟨Z,x2⟩:=alu J;refine l0 aiH (MEk.nil (a:=a)) Y (ann:=noA) (n:=6) de (cB.ids _) ?_;rw[avD];refine ac J (acX (by rw[V,Z];rfl) (acX (by rw[V,x2];rfl) ?_));unfold auy
 cases vI x<;>cases auf y x.1<;>rfl) call10
def yr:List FuncId:=NK++aeE
theorem vT: ∀f∈yr,V0 prog f:=λf h=>by
 unfold yr at h;rcases za8.1 h with h|h
 ·exact Lj f h
 ·exact ae8 f h
def g9n:List (FuncId×Ctr):=(61,k1 cI cS cl ofI)::(253,k2 cS cS (cP3 cS cS cB) (λs _=>decide (s.size<=1000000)) abn)::gFR
theorem aiL:GEk g9n:=(avm.cons (λa W J=>abS J.1) call253).cons (λa W J=>ahz J.1) call61
def adI:MCtr:=λ_ _ args=>match args with
 | [.val (.string s)]=>bif abR s then some {X:=Unit,pre:=decide (s.size<=1000000),spec:=λ_=>True,out:=λ_=> .tup [.val (.int .i64 (ab0 s)), .val .nilIface],ex:=λ_=>⟨(),trivial⟩} else none
 |_=>none
variable {B:Base}
theorem adu (hB:GlobB B):VU prog B 130 adI:=by
 intro bl β w nx args C' a b c d e p;unfold adI at e;split at e
 ·rename_i s;cases V:abR s with
  |false=>rw[V] at e;cases e
  |true=>
   rw[V] at e;simp only[zdu,za1] at e;subst e;refine Calls.mono (agA hB bl β w nx [.val (.string s)] _ a b c d rfl p) ?_;rintro e w' ⟨x,J,β',Y,Z,q3,q4⟩;have J:abJ s x:=J;unfold abJ at J;rw[V] at J;obtain rfl:x=_:=J;exact⟨(),trivial,β',Y,Z,q3,q4⟩
 ·cases e
def agU:ze0:= [(19,pN),(12,xi),(14,zm),(9,au0),(129,abt),(66,abV),(130,adI)]
variable {a:Addr}
theorem aif:MEk a agU:=by
 unfold agU;exact((((((MEk.nil.cons λB hB=>adu hB.gU).cons λB hB=>adm hB.gU).cons λB hB=>abG).cons auN).cons λB hB=>tP B hB.gU).cons λB hB=>vM B hB.gU).cons λB hB=>lZ B hB.gU
@[irreducible] def Xk (a:Addr) (ann:zdY) (n:Nat) (f:FuncId) (args:zdN) (Cs:zdX) (K:Aft):Prop:=
 Ay prog (iR yr) (gw g9n) (gx agU) (dF a) ann n f args (λi=>Cs[i]?) Cs.length [] K
theorem ak2 (hB:GlobEB a B):HypD prog B (iR yr) (gw g9n) (gx agU) (dF a):=
 have h:=ac9 (gm:=agU) aiL aif hB
 ⟨h.gam,h.mem,h.dem,λf J=>by
   unfold iR at J;simp only[zaP] at J;obtain⟨g,hg,V⟩:=J
   rw[zab V];exact vT g hg,h.mixed⟩
def opW:Nat->zdK
 |0=>⟨#[99,111,110,115,116]⟩
 |1=>⟨#[105,110,112,117,116]⟩
 |2=>⟨#[97,100,100]⟩
 |3=>⟨#[115,117,98]⟩
 |4=>⟨#[109,117,108]⟩
 |5=>⟨#[100,105,118]⟩
 |6=>⟨#[112,111,119]⟩
 |_=>⟨#[115,113,114,116]⟩
def opN (w:zdK):Nat->Int
 |0=>0
 |k+1=>bif seq (opW k) w then(k:Int)+1 else opN w k
def aiM (A:AS) (t:Nat):zdK:=match A.tm t with
 | .v (.val (.string s))=>s
 |_=>⟨#[]⟩
abbrev WdX:=Int×(zdT)
def acD (f:zdT):Nat->Nat
 |0=>0
 |k+1=>acD f k+(f k).toNat
def ak3 (I:ByteArray->WdX->Prop):zdY:=λf k=>bif Nat.beq f 192&&Nat.beq k 10 then some (λA=>{X:=WdX,inv:=I (aiM A 5),tm:=λ_=> [],bk:= [(kA A 79,λx e=>match e with|0=> []|e+1=> [.val (.bool (x.2 e))])],st:= [(kA A 10,λx=> .val (.int .i64 x.1)::(qv A 10 0).drop 1)],mu:=λx=>acD x.2 8,keep:= [0,1,4,5,6,7,10,79],clean:=by intro p hp x e;simp at hp;subst hp;cases e<;>rfl,fix:= [(kA A 10,0,0, .val (.int .i64 (opN (aiM A 5) 8)))]}) else none
def orA (a b:zdY):zdY:=λf k=>match a f k with
 |some x=>some x
 |none=>b f k
def alF (I:ByteArray->WdX->Prop):zdY:=orA (afZ 16) (orA (afZ 63) (orA (afZ 4) (ak3 I)))
end Go.Proofs.YtldflkomhbfceaaGreatDoor
