import Derived.Test.YthngoecanpokhaaGreatDoorZf
import Derived.ProofKit
import Derived.OpenShut
import Derived.Carry
import Derived.Test.YthngoecanpokhaaGreatDoorRows
import Derived.HandedShaped
import Derived.LaidMore
import Derived.Lay
import Derived.Lib.LaidTab
import Derived.Shelf.Vars
import Derived.Stop.LaidErr
import Derived.Stop.Joined
set_option linter.unusedVariables false
set_option linter.unusedSimpArgs false
noncomputable section
namespace Go.Proofs.YthngoecanpokhaaGreatDoor
open Go Go.RowKit Go.Sy Yk
def TJ (nx:Nat) (q:Pr):SV:= .agg (.val (.int .i64 q.id):: .slc nx 0 q.inp.length:: .slc (nx+1) 0 q.nod.length::ci q.out)
def SQ:MCtr:=λbl nx args=>match args with
 | [.agg [.val (.int .i64 a), .val (.int .i64 b), .val (.int .i64 c)], .val (.int .i64 k),s, .val (.bool ex)]=>match gy bl 4 s with
   |some (bb,_,n,g)=>some {X:=Unit,pre:=bb&&decide (n<=9223372036854775807)&&e4.good uz4 n g&&uInt a&&uInt b&&uInt c&&uInt k,spec:=λ_=>True,out:=λ_=>TJ nx (Bd (a,b,c) k (e4.list n g) ex),nw:=λ_=> [eU.own (Bd (a,b,c) k (e4.list n g) ex).inp,eN.own (Bd (a,b,c) k (e4.list n g) ex).nod],ex:=λ_=>⟨(),trivial⟩}
   |none=>none
 |_=>none
def Q7 (v:(Int×Int)×(Int×Int)×(Int×Int)) (k:Nat):List RS:=Go.Sy.tab (λj=>Yk.smallF (mb (0,0) [(v.1.1,Int.tmod v.1.2 7),(v.2.1.1,Int.tmod v.2.1.2 7),(v.2.2.1,Int.tmod v.2.2.2 7)] j)) k
def SR:MCtr:=λbl nx args=>match args with
 | [s, .agg [.val (.int .i64 _), .val (.int .i64 _), .val (.int .i64 _), .val (.int .i64 _),t, .val (.bool _), .val (.int .i64 a), .val (.int .i64 b), .val (.int .i64 c), .val (.int .i64 d), .val (.int .i64 e), .val (.int .i64 f)]]=>match mC bl s,gy bl 4 t with
   |some p,some (bb,_,n,g)=>some {X:=Unit,pre:=p.need&&bb&&e4.good uz4 n g&&decide (1<=p.p.inp.length)&&decide (p.p.inp.length<=3)&&uInt a&&uInt b&&uInt c&&uInt d&&uInt e&&uInt f,spec:=λ_=>True,out:=λ_=> .slc nx 0 p.p.inp.length,nw:=λ_=> [eR.own (Q7 ((a,b),(c,d),(e,f)) p.p.inp.length)],ex:=λ_=>⟨(),trivial⟩}
   |_,_=>none
 |_=>none
def SS:ze0:= [(45,SQ),(16,SR),(12,Ru),(39,C8),(44,O2),(19,zm),(15,pN),(9,xI)]
def ST (c:Cas):List Blk:= [e4.old c.x]
def Rp (c:Cas) (ex:Bool):Pr:=Bd c.a c.k (e4.list c.x.length (e4.get c.x)) ex
def Sl (c:Cas):Bool:=(Nat.ble c.x.length c.x.length&&Nat.beq 4 4&&true)&&decide (c.x.length<=9223372036854775807)&&e4.good uz4 c.x.length (e4.get c.x)&&uInt c.a.1&&uInt c.a.2.1&&uInt c.a.2.2&&uInt c.k
def Tt (y n:Int):Bool:=uInt y&&decide (0<n)
def nd1 (b:Bool) (K:Prop):Prop:=af b (Unit->True->K)
def tyF (inp us:ze2) (x:Nd):Un×Int:=match mn inp us x with
 |some u=>(u,0)
 |none=>(noU,90)
def tyB (p:Pr) (us:ze2):List Blk:= [eU.old p.inp,eN.old p.nod,eU.old us]
def tyA (p:Pr) (us:ze2) (x:Nd) (at_:Int):zdQ:= [kB p, .agg (svN x),cI.enc at_, .slc 2 0 us.length]
abbrev Re (op:Int) (p:Pr) (us:ze2) (x:Nd) (at_:Int) (Q:zdW):Prop:=JL [] (λ_ _=>none) 6 93 (tyA p us {x with op:=op} at_) (tyB p us) (Go.Sy.okK λr _ _ _=>Q r)
def QS:SV:= .tup [.agg (ci noU), .val (.int .i64 90)]
def RA (u:Un):SV:= .tup [.agg (ci u), .val (.int .i64 0)]
def Ss (r:Un×Int) (Q:zdW):Prop:=ag (r.2 !=0) (Q QS) (Q (RA r.1))
def wiB (n lo hi:Int):Bool:=bif decide (n≥lo) then decide (n<=hi) else false
def TM (x:Nd) (Q:zdW):Prop:=af (uzR x.v) (af (aH x.u) (ag (!(bif (bif eqN {x with op:=1} {noN with op:=1,v:=x.v,u:=x.u} then rV x.v else false) then iy x.u else false)) (Q QS) (Q (RA x.u))))
def TN (p:Pr) (x:Nd) (Q:zdW):Prop:=af (dC (eqN {x with op:=2} {noN with op:=2,n:=x.n}) (inR .i64 ((p.inp.length:Int) - 1))) (ag (eqN {x with op:=2} {noN with op:=2,n:=x.n})
 (ag (!wiB x.n 0 ((p.inp.length:Int) - 1)) (Q QS) (eO p.inp.length x.n (Q (RA (mb noU p.inp (0+x.n.toNat)))))) (Q QS))
def SG (op:Int) (f:Un->Un->Un×Int) (us:ze2) (x:Nd) (a:Int) (Q:zdW):Prop:=
 af (dC (eqN {x with op:=op} {noN with op:=op,l:=x.l,r:=x.r}) (inR .i64 (a - 1))) (ag (eqN {x with op:=op} {noN with op:=op,l:=x.l,r:=x.r})
  (af (dC (wiB x.l 0 (a - 1)) (inR .i64 (a - 1))) (ag (wiB x.l 0 (a - 1)) (ag (!wiB x.r 0 (a - 1)) (Q QS) (pL us x λu v=>Ss (f u v) Q)) (Q QS)))
  (af (dC false (inR .i64 (a - 1))) (Q QS)))
def TO (us:ze2) (x:Nd) (a:Int) (Q:zdW):Prop:=
 af (dC (eqN {x with op:=7} {noN with op:=7,n:=x.n,l:=x.l}) (inR .i64 (a - 1))) (ag (eqN {x with op:=7} {noN with op:=7,n:=x.n,l:=x.l})
  (ag (wiB x.l 0 (a - 1)) (ag (!(bif wiB x.n (-4) 4 then x.n !=0 else false)) (Q QS) (eO us.length x.l (eO us.length x.r (af (aH (mb noU us (0+x.l.toNat))) (Ss (jm (mb noU us (0+x.l.toNat)) (x.n,1)) Q))))) (Q QS)) (Q QS))
def TP (us:ze2) (x:Nd) (a:Int) (Q:zdW):Prop:=
 af (dC (eqN {x with op:=8} {noN with op:=8,l:=x.l}) (inR .i64 (a - 1))) (ag (eqN {x with op:=8} {noN with op:=8,l:=x.l})
  (ag (!wiB x.l 0 (a - 1)) (Q QS) (eO us.length x.l (eO us.length x.r (af (aH (mb noU us (0+x.l.toNat))) (Ss (jm (mb noU us (0+x.l.toNat)) (1,2)) Q))))) (Q QS))
theorem TQ (p:Pr) (us:ze2) (x:Nd) (a:Int) (Q:zdW):Re 1 p us x a Q=TM x Q:=by kernel_rfl
theorem TR (p:Pr) (us:ze2) (x:Nd) (a:Int) (Q:zdW):Re 2 p us x a Q=TN p x Q:=by kernel_rfl
theorem TS (p:Pr) (us:ze2) (x:Nd) (a:Int) (Q:zdW):Re 3 p us x a Q=SG 3 iS us x a Q:=by kernel_rfl
theorem TT (p:Pr) (us:ze2) (x:Nd) (a:Int) (Q:zdW):Re 4 p us x a Q=SG 4 fw us x a Q:=by kernel_rfl
theorem TU (p:Pr) (us:ze2) (x:Nd) (a:Int) (Q:zdW):Re 5 p us x a Q=SG 5 mi us x a Q:=by kernel_rfl
theorem TW (p:Pr) (us:ze2) (x:Nd) (a:Int) (Q:zdW):Re 6 p us x a Q=SG 6 fd us x a Q:=by kernel_rfl
theorem TX (p:Pr) (us:ze2) (x:Nd) (a:Int) (Q:zdW):Re 7 p us x a Q=TO us x a Q:=by kernel_rfl
theorem TY (p:Pr) (us:ze2) (x:Nd) (a:Int) (Q:zdW):Re 8 p us x a Q=TP us x a Q:=by kernel_rfl
def SZ:MCtr:=λbl _ args=>match args with
 | [s, .agg cs, .val (.int .i64 at_),t]=>match mC bl s,gy bl 20 t with
   |some a,some (b,_,n,g)=>some {X:=Unit,pre:=a.need&&b&&bW n&&eU.good szB n g&&ndB cs&&szN (Vh cs)&&decide (at_=(n:Int))&&decide (1<=(Vh cs).op)&&decide ((Vh cs).op<=8),spec:=λ_=>True,out:=λ_=> .tup [.agg (ci (tyF a.p.inp (eU.list n g) (Vh cs)).1), .val (.int .i64 (tyF a.p.inp (eU.list n g) (Vh cs)).2)],ex:=λ_=>⟨(),trivial⟩}
   |_,_=>none
 |_=>none
theorem Wn {x y:Nd}:eqN x y=true↔x=y:=by
 obtain⟨a1,a2,a3,a4,a5,a6⟩:=x;obtain⟨b1,b2,b3,b4,b5,b6⟩:=y;simp only[eqN,za2,zdG,Wg,Wh,Nd.mk.injEq,and_true]
theorem Rf {a b c d:Nd} (h:a=b↔c=d):eqN a b=eqN c d:=by
 rw[zax,Wn,Wn];exact h
theorem Q4 {n:Nat} {i:Int}:wiB i 0 ((n:Int) - 1)=Go.Proofs.YthngoecanpokhaaGreatDoor.earF n i:=by
 rw[zax,V2];unfold wiB;by_cases h:i≥0
 ·rw[zdx h,zdz,zdB];omega
 ·rw[zdA h,zdy];simp;omega
theorem Q5 {a b:Bool} {K:Prop} (h:b=true) (k:K):af (dC a b) K:=ac (yd h) k
section
variable {inp us:ze2} {x:Nd} {Q:zdW}
theorem tyQ (h:Q (.tup [.agg (ci (tyF inp us x).1), .val (.int .i64 (tyF inp us x).2)])):(mn inp us x=none->Q QS)/\(∀u,mn inp us x=some u->Q (RA u)):=by
 unfold tyF at h;exact⟨λe=>by rw[e] at h;exact h,λu e=>by rw[e] at h;exact h⟩
theorem QW (h:VT us.length x=false):mn inp us x=none:=by unfold mn;rw[h];rfl
theorem Q6 (h:VT us.length x=true):mn inp us x=bif (fL inp us x).2==0 then some (fL inp us x).1 else none:=by unfold mn;rw[h];rfl
theorem Rx {r:Un×Int} (hf:VT us.length x=true) (hu:fL inp us x=r) (hb:mn inp us x=none->Q QS) (ho: ∀u,mn inp us x=some u->Q (RA u)):Ss r Q:=by
 have t:=Q6 (inp:=inp) hf;rw[hu] at t;refine ah (λh=>hb ?_) (λh=>ho _ ?_)
 ·rw[t,show (r.2==0)=false by simpa using h];rfl
 ·rw[t,show (r.2==0)=true by simpa using h];rfl
theorem TZ (o:x.op=1) (hx:szN x=true) (hb:mn inp us x=none->Q QS) (ho: ∀u,mn inp us x=some u->Q (RA u)):TM x Q:=by
 unfold szN at hx;rw[za2] at hx;have hform:VT us.length x=eqN {x with op:=1} {noN with op:=1,v:=x.v,u:=x.u}:=by
  unfold VT;rw[o];exact Rf (by obtain⟨a1,a2,a3,a4,a5,a6⟩:=x;simp[noN])
 have huni:fL inp us x=bif rV x.v&&VK x.u then(x.u,0) else(noU,90):=by unfold fL;rw[o];rfl
 unfold TM;rw[<-hform,jE];refine ac hx.1 (ac hx.2 (ah (λh=>hb ?_) (λh=>ho _ ?_)))
 ·cases f:VT us.length x with
  |false=>exact QW f
  |true=>
   rw[Q6 f,huni];rw[f] at h;cases a:rV x.v with
   |false=>rfl
   |true=>cases b:VK x.u with
    |false=>rfl
    |true=>rw[a,b] at h;cases h
 ·cases f:VT us.length x with
  |false=>rw[f] at h;cases h
  |true=>
   rw[Q6 f,huni];rw[f] at h;cases a:rV x.v with
   |false=>rw[a] at h;cases h
   |true=>cases b:VK x.u with
    |false=>rw[a,b] at h;cases h
    |true=>rfl
theorem T0 {p:Pr} (hp:p.inp=inp) (hl:inp.length<=1000000) (o:x.op=2) (hb:mn inp us x=none->Q QS) (ho: ∀u,mn inp us x=some u->Q (RA u)):TN p x Q:=by
 subst hp;have hform:VT us.length x=eqN {x with op:=2} {noN with op:=2,n:=x.n}:=by
  unfold VT;rw[o];show eqN ⟨0,x.v,x.u,0,x.l,x.r⟩ noN=_;exact Rf (by obtain⟨a1,a2,a3,a4,a5,a6⟩:=x;simp[noN])
 have huni:fL p.inp us x=bif decide (0<=x.n)&&decide (x.n<(p.inp.length:Int)) then(mb noU p.inp x.n.toNat,0) else(noU,90):=by unfold fL;rw[o];rfl
 unfold TN;rw[<-hform];refine Q5 (VP.2 (by omega)) (ah (λf=>ah (λh=>hb ?_) (λh=> ?_)) (λf=>hb (QW f)))
 ·rw[Q6 f,huni];rw[Q4] at h;have:earF p.inp.length x.n=false:=by simpa using h
  rw[show (decide (0<=x.n)&&decide (x.n<(p.inp.length:Int)))=false from this];rfl
 ·rw[Q4] at h;have h':earF p.inp.length x.n=true:=by simpa using h
  have e:=V2.1 h';refine aY e.1 e.2 (ho _ ?_);rw[Q6 f,huni,show (decide (0<=x.n)&&decide (x.n<(p.inp.length:Int)))=true from h',za7];rfl
variable {a:Int}
theorem RV {op:Int} {f:Un->Un->Un×Int} (o:x.op=op) (hop:3<=op/\op<=6) (ha:a=(us.length:Int)) (hl:us.length<=1000000) (hu: ∀u∈us,szB u=true) (huni:fL inp us x=f (mb noU us x.l.toNat) (mb noU us x.r.toNat)) (hb:mn inp us x=none->Q QS) (ho: ∀u,mn inp us x=some u->Q (RA u)):SG op f us x a Q:=by
 subst ha;have hform:VT us.length x=(eqN {x with op:=op} {noN with op:=op,l:=x.l,r:=x.r}&&earF us.length x.l&&earF us.length x.r):=by
  unfold VT;rw[zdE (show x.op≠1 by omega),zdE (show x.op≠2 by omega),zdx (show 3<=x.op by omega),zdx (show x.op<=6 by omega)];show (eqN ⟨0,x.v,x.u,x.n,0,0⟩ noN&&_&&_)=_;rw[Rf (a:=⟨0,x.v,x.u,x.n,0,0⟩) (b:=noN) (c:={x with op:=op}) (d:={noN with op:=op,l:=x.l,r:=x.r}) (by obtain⟨a1,a2,a3,a4,a5,a6⟩:=x;simp[noN])]
 unfold SG;rw[Q4,Q4];generalize eqN {x with op:=op} {noN with op:=op,l:=x.l,r:=x.r}=e at hform;have r:inR .i64 ((us.length:Int) - 1)=true:=VP.2 (by omega);refine Q5 r (ah (λh1=>Q5 r (ah (λh2=>ah (λh3=>hb (QW ?_)) (λh3=> ?_)) (λh2=>hb (QW ?_)))) (λh1=>Q5 r (hb (QW ?_))))
 ·rw[hform,show earF us.length x.r=false by simpa using h3,Bool.and_false]
 ·have h3:earF us.length x.r=true:=by simpa using h3
  have e2:=V2.1 h2;have e3:=V2.1 h3;unfold pL;rw[za7,za7];exact aY e2.1 e2.2 (aY e3.1 e3.2 (ac (by rw[eH hu,eH hu];rfl) (Rx (by rw[hform,h1,h2,h3];rfl) huni hb ho)))
 ·rw[hform,h2,Bool.and_false];rfl
 ·rw[hform,h1];rfl
theorem T3 (o:x.op=7) (ha:a=(us.length:Int)) (hl:us.length<=1000000) (hu: ∀u∈us,szB u=true) (hb:mn inp us x=none->Q QS) (ho: ∀u,mn inp us x=some u->Q (RA u)):TO us x a Q:=by
 subst ha;have hform:VT us.length x=(eqN {x with op:=7} {noN with op:=7,n:=x.n,l:=x.l}&&earF us.length x.l):=by
  unfold VT;rw[o];show (eqN ⟨0,x.v,x.u,0,0,x.r⟩ noN&&_)=_;rw[Rf (c:={x with op:=7}) (d:={noN with op:=7,n:=x.n,l:=x.l}) (by obtain⟨a1,a2,a3,a4,a5,a6⟩:=x;simp[noN])]
 have huni:fL inp us x=(bif x.n==0||decide (x.n< -4)||decide (x.n>4) then(noU,90) else jm (mb noU us x.l.toNat) (x.n,1)):=by unfold fL;rw[o];rfl
 unfold TO;rw[Q4];have hr:eqN {x with op:=7} {noN with op:=7,n:=x.n,l:=x.l}=true->x.r=0:=λh=>by
  have:=Wn.1 h;exact congrArg Nd.r this
 generalize eqN {x with op:=7} {noN with op:=7,n:=x.n,l:=x.l}=e at hform hr;refine Q5 (VP.2 (by omega)) (ah (λh1=>ah (λh2=>ah (λh3=>hb ?_) (λh3=> ?_)) (λh2=>hb (QW ?_))) (λh1=>hb (QW ?_)))
 ·rw[Q6 (by rw[hform,h1,h2];rfl),huni];have:(x.n==0||decide (x.n< -4)||decide (x.n>4))=true:=by
   simp only[zav,zdB,zdG];apply Classical.byContradiction;intro hc;have:wiB x.n (-4) 4=true:=by unfold wiB;rw[zdx (by omega),zdz,zdx (by omega)]
   rw[this,zdz,show (x.n !=0)=true by simp;omega] at h3;cases h3
  rw[this];rfl
 ·have e2:=V2.1 h2;have hr:=hr h1;have hn:x.n≠0/\ -4<=x.n/\x.n<=4:=by
   unfold wiB at h3;by_cases a:x.n≥ -4
   ·by_cases b:x.n<=4
    ·rw[zdx a,zdz,zdx b,zdz] at h3;simp at h3;omega
    ·rw[zdx a,zdz,zdA b,zdy] at h3;cases h3
   ·rw[zdA a,zdy,zdy] at h3;cases h3
  rw[za7];refine aY e2.1 e2.2 (aY (by omega) (by omega) (ac (eH hu _) (Rx (by rw[hform,h1,h2];rfl) ?_ hb ho)));rw[huni,show (x.n==0||decide (x.n< -4)||decide (x.n>4))=false by simp;omega];rfl
 ·rw[hform,h2,Bool.and_false]
 ·rw[hform,h1];rfl
theorem T4 (o:x.op=8) (ha:a=(us.length:Int)) (hl:us.length<=1000000) (hu: ∀u∈us,szB u=true) (hb:mn inp us x=none->Q QS) (ho: ∀u,mn inp us x=some u->Q (RA u)):TP us x a Q:=by
 subst ha;have hform:VT us.length x=(eqN {x with op:=8} {noN with op:=8,l:=x.l}&&earF us.length x.l):=by
  unfold VT;rw[o];show (eqN ⟨0,x.v,x.u,x.n,0,x.r⟩ noN&&_)=_;rw[Rf (c:={x with op:=8}) (d:={noN with op:=8,l:=x.l}) (by obtain⟨a1,a2,a3,a4,a5,a6⟩:=x;simp[noN])]
 have huni:fL inp us x=jm (mb noU us x.l.toNat) (1,2):=by unfold fL;rw[o];rfl
 unfold TP;rw[Q4];have hr:eqN {x with op:=8} {noN with op:=8,l:=x.l}=true->x.r=0:=λh=>by
  have:=Wn.1 h;exact congrArg Nd.r this
 generalize eqN {x with op:=8} {noN with op:=8,l:=x.l}=e at hform hr;refine Q5 (VP.2 (by omega)) (ah (λh1=>ah (λh2=>hb (QW ?_)) (λh2=> ?_)) (λh1=>hb (QW ?_)))
 ·rw[hform,show earF us.length x.l=false by simpa using h2,Bool.and_false]
 ·have h2:earF us.length x.l=true:=by simpa using h2
  have e2:=V2.1 h2;have hr:=hr h1;rw[za7];exact aY e2.1 e2.2 (aY (by omega) (by omega) (ac (eH hu _) (Rx (by rw[hform,h1,h2];rfl) huni hb ho)))
 ·rw[hform,h1];rfl
end
theorem Ue {C:RC} {src:List (Option Nat)} {Cs:List Blk} {nx:Nat} {gm:ze0} {ann:zdY} {n:Nat} {f:FuncId} {args:zdQ} {r:SV} (x:C.X) (hx:C.spec x) (h1:C.pan x=none) (h2:r.ids= []) (h3:C.out x=r) (h4:C.nw x= []) (h5:C.ch x= []) (h6: ∀C∈Cs,cN C.kd=false) (hl:src.length=Cs.length)
 (h:JL gm ann n f args Cs (Go.Sy.okK λs _ _ _=>s=r)):JL gm ann n f args Cs (KB C src Cs nx):=Q8 h λq b m w hq=>by
 cases q with
 |pan v=>exact hq.elim
 |ok s=>
  obtain rfl:s=r:=hq;exact IG x hx h1 h2 h3 h4 h5 h6 hl
theorem T5 {p:Pr} {us:ze2} {x:Nd} {Q:zdW} (hl:us.length<=1000000) (hi:p.inp.length<=1000000) (hu: ∀u∈us,szB u=true) (hx:szN x=true) (hop:1<=x.op/\x.op<=8) (hQ:Q (.tup [.agg (ci (tyF p.inp us x).1), .val (.int .i64 (tyF p.inp us x).2)])):
 JL [] (λ_ _=>none) 6 93 (tyA p us x us.length) (tyB p us) (Go.Sy.okK λr _ _ _=>Q r):=by
 obtain⟨hb,ho⟩:=tyQ hQ;have E: ∀{op:Int},x.op=op->Re op p us x us.length Q->JL [] (λ_ _=>none) 6 93 (tyA p us x us.length) (tyB p us) (Go.Sy.okK λr _ _ _=>Q r):=λ{op} h k=>by
  rw[<-dW h];exact k
 rcases(show x.op=1\/x.op=2\/x.op=3\/x.op=4\/x.op=5\/x.op=6\/x.op=7\/x.op=8 by omega) with o|o|o|o|o|o|o|o
 ·exact E o (by rw[TQ];exact TZ o hx hb ho)
 ·exact E o (by rw[TR];exact T0 rfl hi o hb ho)
 ·exact E o (by rw[TS];exact RV o (by decide) rfl hl hu (by unfold fL;rw[o];rfl) hb ho)
 ·exact E o (by rw[TT];exact RV o (by decide) rfl hl hu (by unfold fL;rw[o];rfl) hb ho)
 ·exact E o (by rw[TU];exact RV o (by decide) rfl hl hu (by unfold fL;rw[o];rfl) hb ho)
 ·exact E o (by rw[TW];exact RV o (by decide) rfl hl hu (by unfold fL;rw[o];rfl) hb ho)
 ·exact E o (by rw[TX];exact T3 o rfl hl hu hb ho)
 ·exact E o (by rw[TY];exact T4 o rfl hl hu hb ho)
theorem ZR: ∀B:Base,GlobB B->VU Tryz.prog B 93 SZ:=Sh MOk.nil λbl nx args C hk hp=>by
 unfold SZ at hk;split at hk
 ·rename_i s cs at_ t;split at hk
  ·rename_i a b o n g ha ht;simp only[za1] at hk;subst hk;simp only[za2,zdB] at hp;obtain⟨⟨⟨⟨⟨⟨⟨⟨h0,rfl⟩,hn⟩,hg⟩,h1⟩,h2⟩,rfl⟩,h3⟩,h4⟩:=hp;obtain⟨x,rfl⟩: ∃x,cs=svN x:=⟨_,ua h1⟩;rw[fR] at h2 h3 h4;obtain⟨s1,s2,s3,s4,s5,s6⟩:=eX (f:=rnF [a.o1,a.o2,o] [] nx) ha h0 rfl rfl;obtain⟨t1,t2⟩:=cq (f:=rnF [a.o1,a.o2,o] [] nx) ht hg;have hlen:(eU.list n g).length=n:=El.list_length;have hle:(eU.list n g).length<=1000000:=by rw[hlen];exact zak hn
   have hold: ∀C∈tyB a.p (eU.list n g),cN C.kd=false/\C.kd.map=false:=by simp[tyB,cN,El.old,BK.map]
   refine⟨[a.o1,a.o2,o],tyB a.p (eU.list n g),tyA a.p (eU.list n g) x n,λ_ _=>none,6,aw s1 (aw s2 (aw t1 trivial)),bH (λC hC=>(hold C hC).1),cd (λC hC=>(hold C hC).2),ar s3 (ar (Xs (rns_free (j4 x))) (ar rfl (ar (t2 2 rfl) rfl))), ?_⟩;refine Ue () trivial rfl (r:= .tup [.agg (ci (tyF a.p.inp (eU.list n g) x).1), .val (.int .i64 (tyF a.p.inp (eU.list n g) x).2)]) rfl rfl rfl rfl (λC hC=>(hold C hC).1) (by rfl) ?_;have:=T5 (p:=a.p) (us:=eU.list n g) (x:=x) (Q:=λr=>r= .tup [.agg (ci (tyF a.p.inp (eU.list n g) x).1), .val (.int .i64 (tyF a.p.inp (eU.list n g) x).2)]) hle s5 (El.good_list hg) h2 ⟨h3,h4⟩ rfl;rw[hlen] at this;exact this
  ·cases hk
 ·cases hk
def TF:ze0:= [(93,SZ)]
abbrev M1:=Int×List Un
abbrev M3:=Int×List Nd×List Un
def St (I1:M1->Prop) (I2 I3:M3->Prop) (N:Int):zdY:=λf k=>bif Nat.beq f 45 then(
 bif Nat.beq k 3 then some (λA=>{X:=M1,inv:=I1,tm:=λx=> [(10, .val (.int .i64 x.1))],st:= [(kA A 9,λx=>(qv A 9 0).take 1++(SV.slc A.nx 0 x.2.length::(qv A 9 0).drop 2))],gr:= [{src:= .cell (kA A 9) 0 1,sz:=20,n:=λx=>x.2.length,get:=λx=>eU.get x.2}],cleanG:=λg hg x e=>(by simp at hg;subst hg;exact eU.ids _),mu:=λx=>(4 - x.1).toNat,keep:= [1,2,3,4,8,9],sp:= [λx=>(0,x.2),λx=>(1,x.2),λx=>(2,x.2),λx=>(3,x.2)]})
 else bif Nat.beq k 8 then some (λA=>{X:=M3,inv:=I2,tm:=λx=> [(12, .val (.int .i64 x.1)),(11, .slc (A.nx+1) 0 x.2.2.length)],st:= [(kA A 9,λx=>(qv A 9 0).take 2++(SV.slc A.nx 0 x.2.1.length::(qv A 9 0).drop 3))],gr:= [{src:= .cell (kA A 9) 0 2,sz:=26,n:=λx=>x.2.1.length,get:=λx=>eN.get x.2.1},{src:= .slot 11,sz:=20,n:=λx=>x.2.2.length,get:=λx=>eU.get x.2.2}],cleanG:=λg hg x e=>(by simp at hg;rcases hg with rfl|rfl;exact eN.ids _;exact eU.ids _),mu:=λx=>(4 - x.1).toNat,keep:= [1,2,3,4,8,9]})
 else bif Nat.beq k 13 then some (λA=>{X:=M3,inv:=I3,tm:=λx=> [(13, .val (.int .i64 x.1)),(11, .slc (A.nx+1) 0 x.2.2.length)],st:= [(kA A 9,λx=>(qv A 9 0).take 2++(SV.slc A.nx 0 x.2.1.length::(qv A 9 0).drop 3))],gr:= [{src:= .cell (kA A 9) 0 2,sz:=26,n:=λx=>x.2.1.length,get:=λx=>eN.get x.2.1},{src:= .slot 11,sz:=20,n:=λx=>x.2.2.length,get:=λx=>eU.get x.2.2}],cleanG:=λg hg x e=>(by simp at hg;rcases hg with rfl|rfl;exact eN.ids _;exact eU.ids _),mu:=λx=>(N - x.1).toNat,keep:= [1,2,3,4,8,9]})
 else none) else none
def prS (K1:Nat->Nat->Blk->Nat->Nat->Blk->Int->List SV->Prop):Aft:=λr bl _ _=>match r with
 | .ok (.agg (.val (.int .i64 id):: .slc i 0 n:: .slc j 0 m::rest))=>(match bl i,bl j with
   |some B,some C=>K1 i n B j m C id rest
   |_,_=>False)
 |_=>False
abbrev TG (I1:M1->Prop) (I2 I3:M3->Prop) (N:Int) (a:Int×Int×Int) (count:Int) (xs:List I4) (ex:Bool) (K1:Nat->Nat->Blk->Nat->Nat->Blk->Int->List SV->Prop):Prop:=
 JL TF (St I1 I2 I3 N) 6 45 [.agg [.val (.int .i64 a.1), .val (.int .i64 a.2.1), .val (.int .i64 a.2.2)],cI.enc count, .slc 0 0 xs.length,cB.enc ex] [e4.old xs] (prS K1)
section
variable (I1:M1->Prop) (I2 I3:M3->Prop) (N:Int) (a:Int×Int×Int) (count:Int) (xs:List I4) (ex:Bool)
def mdC (n0:Nat) (s:SV):zdQ:= .val (.int .i64 (1+co count 900)):: .slc 10 0 n0::s::ci noU
def md1 (s:SV):zdQ:= .val (.int .i64 (1+co count 900))::s:: .val (.slice none 0 0)::ci noU
def S4:Prop:=tvE (cI.enc count)/\tvE (.slc 0 0 xs.length)/\tvE (cB.enc ex)/\cg 1/\cg 2/\cg 7/\True
def Ua (q:Nat) (p:Int) (m:Nat) (g:zdS) (z:M1):Prop:=(TV.v (cI.enc p)=TV.v (cI.enc z.1)/\S4 count xs ex)/\(True/\((md1 count (.slc q 0 m)=md1 count (.slc q 0 z.2.length)/\True)/\(af (Nat.beq 20 20&&decide (z.2.length<=m)) (∀e,e<z.2.length->g e=eU.get z.2 e)/\True)))
def So (n0 q1 q2:Nat) (p:Int) (m:Nat) (g:zdS) (k:Nat) (h:zdS) (z:M3):Prop:=(TV.v (cI.enc p)=TV.v (cI.enc z.1)/\TV.v (.slc q2 0 k)=TV.v (.slc q2 0 z.2.2.length)/\S4 count xs ex)/\(True/\((mdC count n0 (.slc q1 0 m)=mdC count n0 (.slc q1 0 z.2.1.length)/\True)/\
 (af (Nat.beq 26 26&&decide (z.2.1.length<=m)) (∀e,e<z.2.1.length->g e=eN.get z.2.1 e)/\(af (Nat.beq 20 20&&decide (z.2.2.length<=k)) (∀e,e<z.2.2.length->h e=eU.get z.2.2 e)/\True))))
def S5 (inp:ze2) (nod:ze3) (us:ze2) (x:Nd):Bool:=kp inp.length inp.length (eU.get inp) nod.length nod.length (eN.get nod) noU&&(Nat.ble us.length us.length&&Nat.beq 20 20&&true)&&bW us.length&&eU.good szB us.length (eU.get us)&&ndB (svN x)&&szN (Vh (svN x))&&decide ((nod.length:Int)=(us.length:Int))&&decide (1<=(Vh (svN x)).op)&&decide ((Vh (svN x)).op<=8)
def Tu (inp us:ze2) (x:Nd):Un×Int:=tyF (eU.list inp.length (eU.get inp)) (eU.list us.length (eU.get us)) (Vh (svN x))
def Rg (inp:ze2) (q1 q2:Nat) (z:M3) (x:Nd):Prop:=
 af (S5 inp z.2.1 z.2.2 x) (Unit->True->ag (bif (Tu inp z.2.2 x).2==0 then(bif !ex then true else x.op !=8) else false)
  (LY z.2.1.length (tO z.2.2.length (af (inR .i64 (z.1+1)) (∃z':M3,I3 z'/\((N - z'.1).toNat<(N - z.1).toNat/\So count xs ex inp.length q1 q2 (z.1+1) (z.2.1.length+1) (gv z.2.1 x) (z.2.2.length+1) (Jz z.2.2 (Tu inp z.2.2 x).1) z')))))
  (af (inR .i64 (z.1+1)) (∃z':M3,I3 z'/\((N - z'.1).toNat<(N - z.1).toNat/\So count xs ex inp.length 25 26 (z.1+1) z.2.1.length (eN.get z.2.1) z.2.2.length (eU.get z.2.2) z'))))
def pkB (y n:Int):Bool:=uInt y&&decide (0<n)
def Sp (inp:ze2) (z:M3) (y:I4):Prop:=
 af (pkB y.1 8) (af (inR .i64 (1+co y.1 8)) (
 ag (1+co y.1 8==1) (af (pkB y.2.1 13) (af (inR .i64 (co y.2.1 13 - 6)) (af (pkB y.2.2.1 4) (af (inR .i64 (1+co y.2.2.1 4)) (af (uInt (co y.2.1 13 - 6)&&uInt (1+co y.2.2.1 4)) (af (uInt y.2.2.2)
  (Rg I3 N count xs ex inp 102 108 z ⟨opF y,(rMk (co y.2.1 13 - 6) (1+co y.2.2.1 4)).1,BL y.2.2.2,0,0,0⟩)))))))
 (ag (1+co y.1 8==2) (af (pkB y.2.1 inp.length) (Rg I3 N count xs ex inp 93 99 z ⟨opF y,VI,noU,co y.2.1 inp.length,0,0⟩))
 (ag (1+co y.1 8==7) (af (pkB y.2.1 z.2.1.length) (af (pkB y.2.2.1 5) (af (decide (0<=co y.2.2.1 5)&&decide (co y.2.2.1 5<((5:Nat):Int))) (af (decide (0+(co y.2.2.1 5).toNat<5)) (Rg I3 N count xs ex inp 101 107 z ⟨opF y,VI,noU,T9 (co y.2.2.1 5),co y.2.1 z.2.1.length,0⟩)))))
 (ag (1+co y.1 8==8) (af (pkB y.2.1 z.2.1.length) (Rg I3 N count xs ex inp 95 101 z ⟨opF y,VI,noU,0,co y.2.1 z.2.1.length,0⟩))
   (af (pkB y.2.1 z.2.1.length) (af (pkB y.2.2.1 z.2.1.length) (Rg I3 N count xs ex inp 101 107 z ⟨opF y,VI,noU,0,co y.2.1 z.2.1.length,co y.2.2.1 z.2.1.length⟩))))))))
def Ub (K1:Nat->Nat->Blk->Nat->Nat->Blk->Int->List SV->Prop) (inp:ze2) (z0:M3):Prop:=
 ∃z1:M3,I3 z1/\(So count xs ex inp.length 17 18 0 z0.2.1.length (eN.get z0.2.1) z0.2.2.length (eU.get z0.2.2) z1/\
  ∀z:M3,I3 z->ag (bif decide (z.1<(xs.length:Int)) then decide ((z.2.1.length:Int)<14) else false)
   (eO xs.length z.1 (Sp I3 N count xs ex inp z (e4.nth xs (0+z.1.toNat))))
   (af (inR .i64 ((z.2.2.length:Int) - 1)) (eO z.2.2.length ((z.2.2.length:Int) - 1)
     (K1 10 inp.length {n:=inp.length,sz:=20,get:=eU.get inp,kd:= .own,nn:=false} 25 z.2.1.length {n:=z.2.1.length,sz:=26,get:=eN.get z.2.1,kd:= .own,nn:=false} (1+co count 900) (ci (mb noU z.2.2 (0+((z.2.2.length:Int) - 1).toNat)))))))
def T6 (K1:Nat->Nat->Blk->Nat->Nat->Blk->Int->List SV->Prop) (inp:ze2):Prop:=
 ∃z0:M3,I2 z0/\(((TV.v (cI.enc 0)=TV.v (cI.enc z0.1)/\TV.v (.val (.slice none 0 0))=TV.v (.val (.slice none z0.2.2.length 0))/\S4 count xs ex)/\(True/\((mdC count inp.length (.val (.slice none 0 0))=mdC count inp.length (.val (.slice none z0.2.1.length 0))/\True)/\(z0.2.1.length=0/\(z0.2.2.length=0/\True)))))/\
  ∀z:M3,I2 z->ag (decide (z.1<(inp.length:Int)))
   (LY z.2.1.length (eO inp.length z.1 (tO z.2.2.length (af (inR .i64 (z.1+1)) (∃z':M3,I2 z'/\((4 - z'.1).toNat<(4 - z.1).toNat/\So count xs ex inp.length 29 39 (z.1+1) (z.2.1.length+1) (gv z.2.1 (nIn z.1)) (z.2.2.length+1) (Jz z.2.2 (mb noU inp (0+z.1.toNat))) z'))))))
   (Ub I3 N count xs ex K1 inp z))
def Tv (K1:Nat->Nat->Blk->Nat->Nat->Blk->Int->List SV->Prop) (j a0:Int) (x:M1):Prop:=
 af (pkB count 3) (ag (decide (j<=co count 3)) (af (uInt a0) (tO x.2.length (∃x':M1,I1 x'/\((4 - x'.1).toNat<(4 - j).toNat/\Ua count xs ex 16 (j+1) (x.2.length+1) (Jz x.2 (BL a0)) x')))) (T6 I2 I3 N count xs ex K1 x.2))
def mdT (K1:Nat->Nat->Blk->Nat->Nat->Blk->Int->List SV->Prop):Prop:=
 af (pkB count 900) (af (inR .i64 (1+co count 900)) (∃x0:M1,I1 x0/\(((TV.v (cI.enc 0)=TV.v (cI.enc x0.1)/\S4 count xs ex)/\(True/\((md1 count (.val (.slice none 0 0))=md1 count (.val (.slice none x0.2.length 0))/\True)/\(x0.2.length=0/\True))))/\
  ((∀x:M1,I1 x->(0,x.2)=x\/(1,x.2)=x\/(2,x.2)=x\/(3,x.2)=x\/False)/\((∀x:M1,I1 (0,x.2)->Tv I1 I2 I3 N count xs ex K1 0 a.1 x)/\((∀x:M1,I1 (1,x.2)->Tv I1 I2 I3 N count xs ex K1 1 a.2.1 x)/\((∀x:M1,I1 (2,x.2)->Tv I1 I2 I3 N count xs ex K1 2 a.2.2 x)/\
    ((∀x:M1,I1 (3,x.2)->af (pkB count 3) (ag (decide (3<=co count 3)) False (T6 I2 I3 N count xs ex K1 x.2)))/\True))))))))
end
theorem Tw (I1:M1->Prop) (I2 I3:M3->Prop) (N:Int) (a:Int×Int×Int) (count:Int) (xs:List I4) (ex:Bool) (K1:Nat->Nat->Blk->Nat->Nat->Blk->Int->List SV->Prop):TG I1 I2 I3 N a count xs ex K1=mdT I1 I2 I3 N a count xs ex K1:=by kernel_rfl
theorem S6:MOk TF:=MOk.nil.cons ZR
theorem QU {y n:Int} {K:Prop} (hy:uInt y=true) (hn:0<n) (k:K):af (pkB y n) K:=ac (by unfold pkB;rw[hy,zdx hn];rfl) k
theorem Su (ni n:Int) (y:I4):(RR ni n y).op=opF y:=by
 have B: ∀(b:Bool) (x z:Nd),x.op=opF y->z.op=opF y->(cond b x z).op=opF y:=λb x z h k=>by cases b;exact k;exact h
 unfold RR;exact B _ _ _ rfl (B _ _ _ rfl (B _ _ _ rfl (B _ _ _ rfl rfl)))
theorem Tx (y:I4):1<=opF y/\opF y<=8:=by
 have:=gR y.1 (n:=8) (by decide);unfold opF;omega
theorem Sc {us:ze2} {u:Un} {z:ze2} (hz:z=us++ [u]):af (Nat.beq 20 20&&decide (z.length<=us.length+1)) (∀e,e<z.length->Jz us u e=eU.get z e):=by
 subst hz;have hl:(us++ [u]).length=us.length+1:=by simp
 exact ac (by rw[hl,zdx (za0 _)];rfl) λe he=>Fp (by omega)
theorem S7 {us:ze3} {u:Nd} {z:ze3} (hz:z=us++ [u]):af (Nat.beq 26 26&&decide (z.length<=us.length+1)) (∀e,e<z.length->gv us u e=eN.get z e):=by
 subst hz;have hl:(us++ [u]).length=us.length+1:=by simp
 exact ac (by rw[hl,zdx (za0 _)];rfl) λe he=>pO (by omega)
section
variable {I1:M1->Prop} {I2 I3:M3->Prop} {N:Int} {a:Int×Int×Int} {count:Int} {xs:List I4} {ex:Bool}
theorem Rh:S4 count xs ex:=⟨rfl,rfl,rfl,rfl,rfl,rfl,trivial⟩
variable {p:Int} {us:ze2} {u:Un}
theorem Ty {q:Nat} :Ua count xs ex q p (us.length+1) (Jz us u) (p,us++ [u]):=
 ⟨⟨rfl,Rh⟩,trivial,⟨by simp,trivial⟩,Sc rfl,trivial⟩
variable {n0 q1 q2:Nat} {nod:ze3} {x:Nd}
theorem Sv:So count xs ex n0 q1 q2 p (nod.length+1) (gv nod x) (us.length+1) (Jz us u) (p,nod++ [x],us++ [u]):=
 ⟨⟨rfl,by simp,Rh⟩,trivial,⟨by simp,trivial⟩,S7 rfl,Sc rfl,trivial⟩
theorem RL:So count xs ex n0 q1 q2 p nod.length (eN.get nod) us.length (eU.get us) (p,nod,us):=
 ⟨⟨rfl,rfl,Rh⟩,trivial,⟨rfl,trivial⟩,ac (by simp) (λ_ _=>rfl),ac (by simp) (λ_ _=>rfl),trivial⟩
variable {inp:ze2}
theorem Tz:Tu inp us x=tyF inp us x:=by
 unfold Tu;rw[show eU.list inp.length (eU.get inp)=inp from El.list_get,show eU.list us.length (eU.get us)=us from El.list_get,fR]
theorem S8 (h:MadOK inp (nod,us)) (hi: ∀u∈inp,szB u=true) (hl:inp.length<=1000000) (hx:szN x=true) (ho:1<=x.op/\x.op<=8):S5 inp nod us x=true:=by
 have h1:us.length=nod.length:=h.len;have h2:nod.length<=14:=h.le;unfold S5 bW;rw[uf hl (show nod.length<=1000000 by omega) (El.good_get hi) (show eN.good szN nod.length (eN.get nod)=true from El.good_get h.szn) (by decide),zae (za0 _),zae (show us.length<=1000000 by omega),El.good_get h.szu,fR,hx,h1,zdx rfl,zdx ho.1,zdx ho.2];rfl
theorem S9 {i:Int} (h:MadOK inp (nod,us)) (hi: ∀u∈inp,szB u=true) (hl:inp.length<=1000000) (hx:szN x=true) (ho:1<=x.op/\x.op<=8) (h0:0<=i) (h1:i<N) (hN:N<=9223372036854775807)
 (hS:I3 (i+1,match mn inp us x with
   |some u=>bif !ex||x.op !=8 then(nod++ [x],us++ [u]) else(nod,us)
   |none=>(nod,us))):Rg I3 N count xs ex inp q1 q2 (i,nod,us) x:=by
 have a1:us.length=nod.length:=h.len;have a2:nod.length<=14:=h.le;unfold Rg;rw[Tz];dsimp only;have no:(∃z,z=(nod,us)/\I3 (i+1,z))->af (inR .i64 (i+1)) (∃z':M3,I3 z'/\((N - z'.1).toNat<(N - i).toNat/\So count xs ex inp.length 25 26 (i+1) nod.length (eN.get nod) us.length (eU.get us) z')):=by
  rintro⟨z,rfl,hz⟩;exact ac (VP.2 (by omega)) ⟨(i+1,nod,us),hz,by show (_:Nat)<_;dsimp only;omega,RL⟩
 refine ac (S8 h hi hl hx ho) λ_ _=>ah (λhb=> ?_) (λhb=>no ?_)
 ·cases ht:mn inp us x with
  |none=>
   unfold tyF at hb;rw[ht] at hb;cases hb
  |some u=>
   rw[ht] at hS;have e:tyF inp us x=(u,0):=by unfold tyF;rw[ht]
   rw[e] at hb ⊢;have hc:(!ex||x.op !=8)=true:=by rw[<-QN];exact hb
   rw[hc] at hS;exact xp (by omega) (fV (by omega) (ac (VP.2 (by omega)) ⟨(i+1,nod++ [x],us++ [u]),hS,by show (_:Nat)<_;dsimp only;omega,Sv⟩))
 ·cases ht:mn inp us x with
  |none=>rw[ht] at hS;exact⟨_,rfl,hS⟩
  |some u=>
   rw[ht] at hS;have e:tyF inp us x=(u,0):=by unfold tyF;rw[ht]
   rw[e] at hb;have hc:(!ex||x.op !=8)=false:=by rw[<-QN];exact hb
   rw[hc] at hS;exact⟨_,rfl,hS⟩
theorem SH {z:M3} {y:I4} (hy:uz4 y=true) (hi:1<=inp.length) (hz:1<=z.2.1.length) (h: ∀q1 q2,Rg I3 N count xs ex inp q1 q2 z (RR inp.length z.2.1.length y)):Sp I3 N count xs ex inp z y:=by
 unfold uz4 at hy;simp only[za2] at hy;obtain⟨⟨⟨y1,y2⟩,y3⟩,y4⟩:=hy;have b1:=gR y.1 (n:=8) (by decide);have b2:=gR y.2.1 (n:=13) (by decide);have b3:=gR y.2.2.1 (n:=4) (by decide);have b4:=gR y.2.2.1 (n:=5) (by decide);have E: ∀{x:Nd} (q1 q2:Nat),RR inp.length z.2.1.length y=x->Rg I3 N count xs ex inp q1 q2 z x:=λ{x} q1 q2 e=>by rw[<-e];exact h q1 q2
 unfold RR opF at E;unfold Sp;refine QU y1 (by decide) (Fy (by omega) (ah (λo1=> ?_) (λo1=>ah (λo2=> ?_) (λo2=>ah (λo7=> ?_) (λo7=>ah (λo8=> ?_) (λo8=> ?_))))))
 ·refine QU y2 (by decide) (Fy (by omega) (QU y3 (by decide) (Fy (by omega) (ac (by rw[V4.2 (by omega),V4.2 (by omega)];rfl) (ac y4 (E _ _ ?_))))));rw[o1];rfl
 ·refine QU y2 (by omega) (E _ _ ?_);rw[o1,o2];rfl
 ·refine QU y2 (by omega) (QU y3 (by decide) (ac (by rw[zdx b4.1,zdx (show co y.2.2.1 5<((5:Nat):Int) from b4.2)];rfl) (ac (zdx (by omega)) (E _ _ ?_))));rw[o1,o2,o7];rfl
 ·refine QU y2 (by omega) (E _ _ ?_);rw[o1,o2,o7,o8];rfl
 ·refine QU y2 (by omega) (QU y3 (by omega) (E _ _ ?_));rw[o1,o2,o7,o8];rfl
end
def Ta (a:Int×Int×Int) (count:Int) (z:M1):Prop:=0<=z.1/\z.1<=co count 3+1/\z.2=QQ a z.1.toNat
def Tb (a:Int×Int×Int) (count:Int) (z:M3):Prop:=0<=z.1/\z.1<=co count 3+1/\z.2.1=R9 z.1.toNat/\z.2.2=QQ a z.1.toNat
def SI (a:Int×Int×Int) (count:Int) (xs:List I4) (ex:Bool) (z:M3):Prop:=0<=z.1/\z.1<=xs.length/\MadOK (QQ a ((co count 3).toNat+1)) z.2/\Rb a count xs ex=RT ex (QQ a ((co count 3).toNat+1)) (xs.drop z.1.toNat) z.2
def mdK (p:Pr) (i n:Nat) (B:Blk) (j m:Nat) (C:Blk) (id:Int) (rest:zdQ):Prop:=i=10/\n=p.inp.length/\B=eU.own p.inp/\j=25/\m=p.nod.length/\C=eN.own p.nod/\id=p.id/\rest=ci p.out
variable {ex:Bool} {inp:ze2}
theorem SJ {r:List I4} {z:List Nd×List Un} (h: ¬z.1.length<14):RT ex inp r z=z:=by
 cases r with
 |nil=>rfl
 |cons y r=>unfold RT;rw[zdA h];rfl
variable {a:Int×Int×Int} {count:Int} {xs:List I4}
theorem TA {z0:M3} (hx: ∀y∈xs,uz4 y=true) (hn:xs.length<=9223372036854775807) (h1:z0.2.1=R9 ((co count 3).toNat+1)) (h2:z0.2.2=QQ a ((co count 3).toNat+1)):
 Ub (SI a count xs ex) xs.length count xs ex (mdK (Bd a count xs ex)) (QQ a ((co count 3).toNat+1)) z0:=by
 have hK:=Rc (count:=count);have hi:(QQ a ((co count 3).toNat+1)).length=(co count 3).toNat+1:=QR;refine⟨(0,z0.2),⟨zat _,by show (0:Int)<=_;omega, ?_, ?_⟩,RL, ?_⟩
 ·show MadOK _ (z0.2.1,z0.2.2);rw[h1,h2];exact⟨by rw[QR,QZ],by rw[QZ];exact hK.1,by rw[QZ];omega,Si (za0 _),RU,QT QY⟩
 ·show _=RT _ _ xs (z0.2.1,z0.2.2);rw[h1,h2];rfl
 rintro⟨i,nod,us⟩ ⟨k0,k1,k2,k3⟩;dsimp only at k0 k1 k2 k3 ⊢;have ln:us.length=nod.length:=k2.len;have l1:1<=nod.length:=k2.pos;have l2:nod.length<=14:=k2.le;refine ah (λhb=> ?_) (λhb=> ?_)
 ·rw[QM,za2] at hb;have b1:=zdC hb.1;have b2:nod.length<14:=by have:=zdC hb.2;omega
  have hd:xs.drop i.toNat=mb (0,0,0,0) xs i.toNat::xs.drop (i+1).toNat:=by
   rw[show (i+1).toNat=i.toNat+1 by omega,zaH (show i.toNat<xs.length by omega),bR (zaa _)]
  rw[hd,RT,zdx (show (nod,us).1.length<14 from b2),zdz] at k3;rw[za7];have hy:uz4 (mb (0,0,0,0) xs i.toNat)=true:=hx _ (bw (by omega));refine aY k0 b1 (SH (y:=mb (0,0,0,0) xs i.toNat) hy (by omega) l1 λq1 q2=> ?_);refine S9 k2 (QT QY) (by omega) (Sr _ _ _) (by rw[Su];exact Tx _) k0 b1 (by omega) ?_;rw[Su];have st:=k2.step (ex:=ex) (y:=mb (0,0,0,0) xs i.toNat) (QT QY) b2;exact⟨by show 0<=i+1;omega,by show i+1<=_;omega,st,k3⟩
 ·have hz:Rb a count xs ex=(nod,us):=by
   rw[k3];rw[QM] at hb;by_cases c:i<xs.length
   ·rw[zdx c,zb7] at hb;have:=zdD hb;exact SJ (by show ¬nod.length<14;omega)
   ·rw[show i.toNat=xs.length by omega,zbk];rfl
  refine ac (VP.2 (by omega)) (aY (by omega) (by omega) ⟨rfl,rfl,rfl,rfl, ?_, ?_,rfl, ?_⟩)
  ·show nod.length=(Rb a count xs ex).1.length;rw[hz]
  ·show _=eN.own (Rb a count xs ex).1;rw[hz];rfl
  ·show _=ci (ly (Rb a count xs ex).2);rw[hz,show 0+((us.length:Int) - 1).toNat=us.length - 1 by omega];rfl
theorem Sw (hx: ∀y∈xs,uz4 y=true) (hn:xs.length<=9223372036854775807) (h:inp=QQ a ((co count 3).toNat+1)):
 T6 (Tb a count) (SI a count xs ex) xs.length count xs ex (mdK (Bd a count xs ex)) inp:=by
 subst h;have hK:=Rc (count:=count);have hp:=gR count (n:=3) (by decide);have hi:(QQ a ((co count 3).toNat+1)).length=(co count 3).toNat+1:=QR;refine⟨(0, [], []),⟨zat _,by show (0:Int)<=_;omega,rfl,rfl⟩,⟨⟨rfl,rfl,Rh⟩,trivial,⟨rfl,trivial⟩,rfl,rfl,trivial⟩, ?_⟩;rintro⟨i,nod,us⟩ ⟨k0,k1,k2,k3⟩;dsimp only at k0 k1 k2 k3 ⊢;refine ah (λhb=> ?_) (λhb=> ?_)
 ·have hb:=zdC hb;have l1:nod.length=i.toNat:=by rw[k2,QZ]
  have l2:us.length=i.toNat:=by rw[k3,QR]
  rw[za7];have e1:(i+1).toNat=i.toNat+1:=by omega
  refine xp (by omega) (aY k0 hb (fV (by omega) (ac (VP.2 (by omega)) ⟨(i+1,nod++ [nIn i],us++ [mb noU (QQ a ((co count 3).toNat+1)) i.toNat]),⟨by show 0<=i+1;omega,by show i+1<=_;omega, ?_, ?_⟩,by show (_:Nat)<_;dsimp only;omega,Sv⟩)))
  ·show nod++ [nIn i]=R9 (i+1).toNat;rw[e1,k2];show _=R9 i.toNat++ [nIn (i.toNat:Nat)];rw[show ((i.toNat:Nat):Int)=i by omega]
  ·show us++ [_]=QQ a (i+1).toNat;rw[e1,k3];show _=QQ a i.toNat++ [BL (mb 0 [a.1,a.2.1,a.2.2] i.toNat)];rw[show mb noU (QQ a ((co count 3).toNat+1)) i.toNat=BL (mb 0 [a.1,a.2.1,a.2.2] i.toNat) from bR (qX _ (by omega))]
 ·have hb:=zdD hb;have e:i.toNat=(co count 3).toNat+1:=by omega
  exact TA hx hn (by rw[<-e];exact k2) (by rw[<-e];exact k3)
theorem RW {j a0:Int} {x:M1} (hc:uInt count=true) (ha:uInt a0=true) (hx: ∀y∈xs,uz4 y=true) (hn:xs.length<=9223372036854775807) (hj:0<=j/\j<=2) (he:mb 0 [a.1,a.2.1,a.2.2] j.toNat=a0) (h:Ta a count (j,x.2)):
 Tv (Ta a count) (Tb a count) (SI a count xs ex) xs.length count xs ex (mdK (Bd a count xs ex)) j a0 x:=by
 obtain⟨k0,k1,k2⟩:=h;dsimp only at k0 k1 k2;have l2:x.2.length=j.toNat:=by rw[k2,QR]
 refine QU hc (by decide) (ah (λhb=> ?_) (λhb=> ?_))
 ·have hb:=zdC hb;have e1:(j+1).toNat=j.toNat+1:=by omega
  refine ac ha (fV (by omega) ⟨(j+1,x.2++ [BL a0]),⟨by show 0<=j+1;omega,by show j+1<=_;omega, ?_⟩,by show (_:Nat)<_;dsimp only;omega,Ty⟩);show x.2++ [BL a0]=QQ a (j+1).toNat;rw[e1,k2];show _=QQ a j.toNat++ [BL (mb 0 [a.1,a.2.1,a.2.2] j.toNat)];rw[he]
 ·have hb:=zdD hb;have hp:=gR count (n:=3) (by decide);exact Sw hx hn (by rw[k2];congr 1;omega)
theorem T7 (h0:uInt a.1=true) (h1:uInt a.2.1=true) (h2:uInt a.2.2=true) (hc:uInt count=true) (hx: ∀y∈xs,uz4 y=true) (hn:xs.length<=9223372036854775807):
 mdT (Ta a count) (Tb a count) (SI a count xs ex) xs.length a count xs ex (mdK (Bd a count xs ex)):=by
 have hp:=gR count (n:=3) (by decide);have hq:=gR count (n:=900) (by decide);refine QU hc (by decide) (Fy (by omega) ⟨(0, []),⟨zat _,by show (0:Int)<=_;omega,rfl⟩,⟨⟨rfl,Rh⟩,trivial,⟨rfl,trivial⟩,rfl,trivial⟩, ?_,λx hI=>RW hc h0 hx hn (by decide) rfl hI,λx hI=>RW hc h1 hx hn (by decide) rfl hI,λx hI=>RW hc h2 hx hn (by decide) rfl hI,λx hI=> ?_,trivial⟩)
 ·rintro⟨i,us⟩ ⟨k0,k1,_⟩;dsimp only at k0 k1;rcases(show i=0\/i=1\/i=2\/i=3 by omega) with rfl|rfl|rfl|rfl
  ·exact .inl rfl
  ·exact .inr (.inl rfl)
  ·exact .inr (.inr (.inl rfl))
  ·exact .inr (.inr (.inr (.inl rfl)))
 ·obtain⟨_,k1,k2⟩:=hI;dsimp only at k1 k2;refine QU hc (by decide) (ah (λhb=> ?_) (λhb=>Sw hx hn (by rw[k2];congr 1;show (3:Int).toNat=_;omega)));have:=zdC hb;omega
theorem SK {K1:Nat->Nat->Blk->Nat->Nat->Blk->Int->List SV->Prop} {r:Res} {b:zdR} {m:Nat} {w:List Nat} (h:prS K1 r b m w): ∃id i n j m B C rest,r= .ok (.agg (.val (.int .i64 id):: .slc i 0 n:: .slc j 0 m::rest))/\b i=some B/\b j=some C/\K1 i n B j m C id rest:=by
 unfold prS at h;split at h
 ·rename_i id i n j m rest;split at h
  ·rename_i B C hB hC;exact⟨id,i,n,j,m,B,C,rest,rfl,hB,hC,h⟩
  ·exact h.elim
 ·exact h.elim
theorem Tc: ∀B:Base,GlobB B->VU Tryz.prog B 45 SQ:=Sh S6 λbl nx args C hk hp=>by
 unfold SQ at hk;split at hk
 ·rename_i a b c k s ex;split at hk
  ·rename_i bb o n g hs;simp only[za1] at hk;subst hk;simp only[za2,zdB] at hp;obtain⟨⟨⟨⟨⟨⟨rfl,hn⟩,hg⟩,h0⟩,h1⟩,h2⟩,hc⟩:=hp;obtain⟨t1,t2⟩:=cq (f:=rnF [o] [] nx) hs hg;have hlen:(e4.list n g).length=n:=El.list_length;have hold: ∀C∈ [e4.old (e4.list n g)],cN C.kd=false/\C.kd.map=false:=by simp[cN,El.old,BK.map]
   have ml:=Sb (a:=(a,b,c)) (count:=k) (xs:=e4.list n g) (ex:=ex);refine⟨[o], [e4.old (e4.list n g)], [.agg [.val (.int .i64 a), .val (.int .i64 b), .val (.int .i64 c)], .val (.int .i64 k), .slc 0 0 (e4.list n g).length, .val (.bool ex)],St (Ta (a,b,c) k) (Tb (a,b,c) k) (SI (a,b,c) k (e4.list n g) ex) (e4.list n g).length,6,aw t1 trivial,bH (λC hC=>(hold C hC).1),cd (λC hC=>(hold C hC).2),ar rfl (ar rfl (ar (t2 0 rfl) rfl)), ?_⟩;refine Q8 (K:=prS (mdK (Bd (a,b,c) k (e4.list n g) ex))) ?_ λr bl' m w h=> ?_
   ·have:=Tw (Ta (a,b,c) k) (Tb (a,b,c) k) (SI (a,b,c) k (e4.list n g) ex) (e4.list n g).length (a,b,c) k (e4.list n g) ex (mdK (Bd (a,b,c) k (e4.list n g) ex));show TG _ _ _ _ (a,b,c) k (e4.list n g) ex _;rw[this];exact T7 h0 h1 h2 hc (El.good_list hg) (by omega)
   ·generalize Bd (a,b,c) k (e4.list n g) ex=p at h ml;obtain⟨id,i,n',j,m',B,C,rest,rfl,hB,hC,rfl,rfl,rfl,rfl,rfl,rfl,rfl,rfl⟩:=SK h;have e:=rns_free (f:=dt [o] [some 10,some 25] nx) (fj p.out);have e0:dt [o] [some 10,some 25] nx nx=some (some 10):=cO;have e1:dt [o] [some 10,some 25] nx (nx+1)=some (some 25):=jA 1;refine⟨(),trivial, [some 10,some 25],⟨_,rfl, ?_⟩,by simp[ck],⟨⟨by simp, ?_⟩,⟨by simp, ?_⟩,trivial⟩,cr (λC hC=>(hold C hC).1) rfl _⟩
    ·show SV.rn (dt [o] [some 10,some 25] nx) (TJ nx p)=_;unfold TJ;exact Xs (ar rfl (ar (by simp only[SV.rn,e0]) (ar (by simp only[SV.rn,e1]) e)))
    ·rw[hB];exact⟨by simp[El.own],λ_=>⟨ml.1,eU.one⟩,gC rfl rfl (za0 _) λ_ _=>rfl⟩
    ·rw[hC];exact⟨by simp[El.own],λ_=>⟨ml.2.2.1,eN.one⟩,gC rfl rfl (za0 _) λ_ _=>rfl⟩
  ·cases hk
 ·cases hk
end Go.Proofs.YthngoecanpokhaaGreatDoor
namespace Yk
open Go Go.RowKit Go.ChangeShapes Go.WideShapes
section
variable {H:Type} {enc:TypeId×Value->H} {P:Program} {w:World} {base b0:Nat} {spare:zdV} {held:Bool} {r:Reach} {v:Value} {d:DataW H} {ps:List MemPlace}
theorem ki {z:Int} (h:(Lit.int .i64 z).wf=true): -9223372036854775808<=z/\z<=9223372036854775807:=bounds_i64 h
end
theorem wd {H:Type} {enc:TypeId×Value->H} {P:Program} (hl:laidOutB P=true) {W W':World} (hb:Below W.heap.size W W'): ∀(ts:List TypeId) (vs:List Value) (ds:List (DataW H)) (p:List MemPlace),
 (∀t∈ts,P.readableRec t=true/\t<P.types.size)->(∀x∈p,x.block<W.heap.size)->DataW.TrodAll enc P W 0 (λ_=>true) true ts vs ds p->DataW.TrodAll enc P W' 0 (λb=>decide (b<W.heap.size)) true ts vs ds p
 | [], [], [],_,_,_,h=>h
 |t::ts,v::vs,d::ds,_,hr,hp,h=>by
  obtain⟨p,q,h1,h2,rfl⟩:=h;exact⟨p,q,Below.trod hl (hr t (by simp)).1 (hr t (by simp)).2 h1 hb (λx hx=>hp x (by simp[hx])),wd hl hb ts vs ds q (λt ht=>hr t (by simp[ht])) (λx hx=>hp x (by simp[hx])) h2,rfl⟩
 | [], [],_::_,_,_,_,h=>h.elim
 | [],_::_,_,_,_,_,h=>h.elim
 |_::_, [],_,_,_,_,h=>h.elim
 |_::_,_::_, [],_,_,_,h=>h.elim
inductive Leaf where
 |int (k:IntKind)
 |bool
 |str
def Leaf.ok:Leaf->Value->Prop
 | .int k,v=> ∃z,v= .int k z/\k.min<=z/\z<=k.max
 | .bool,v=> ∃b,v= .bool b
 | .str,v=> ∃s:ByteArray,v= .string s/\s.size<=maxLen
def okL:List Leaf->List Value->Prop
 | [], []=>True
 |l::ls,v::vs=>l.ok v/\okL ls vs
 |_,_=>False
theorem Q9: ∀{a b:List Leaf} {u v:List Value},okL a u->okL b v->okL (a++b) (u++v)
 | [],_, [],_,_,h=>h
 |_::_,_,_::_,_,h,k=>⟨h.1,Q9 h.2 k⟩
 | [],_,_::_,_,h,_=>h.elim
 |_::_,_, [],_,h,_=>h.elim
def Ri (P:Program) (g:TypeId->Option (List Leaf)):List Field->Nat->Option (List Leaf)
 | [],_=>some []
 |f::fs,off=>match g f.type with
  |some l=>if P.cellsOf f.type=l.length/\f.offset=off then(match Ri P g fs (off+l.length) with
   |some r=>some (l++r)
   |none=>none) else none
  |none=>none
def QV (P:Program):Nat->TypeId->Option (List Leaf)
 |0,_=>none
 |d+1,t=>match P.underlying t with
  |some .bool=>some [.bool]
  |some (.int k)=>some [.int k]
  |some .string=>some [.str]
  |some (.array n e)=>match QV P d e with
   |some l=>if P.cellsOf e=l.length/\P.cellsOf t=n*l.length then some (List.replicate n l).flatten else none
   |none=>none
  |some (.struct fs)=>match Ri P (QV P d) fs.toList 0 with
   |some l=>if P.cellsOf t=l.length then some l else none
   |none=>none
  |_=>none
section
variable {H:Type} {enc:TypeId×Value->H} {P:Program} {w:World} {base:Nat} {spare:zdV} {held:Bool}
theorem Sx {l:List Leaf}: ∀(n:Nat) (cs:List Value),cs.length=n*l.length->(∀i,i<n->okL l ((cs.drop (i*l.length)).take l.length))->okL (List.replicate n l).flatten cs
 |0,cs,hl,_=>by
  have:cs= []:=zau (by omega);subst this;trivial
 |n+1,cs,hl,h=>by
  rw[zci,List.flatten_cons,<-zdt l.length cs];refine Q9 (by simpa using h 0 (by omega)) (Sx n _ (by rw[zbR,hl,zaG];omega) λi hi=> ?_);have:=h (i+1) (by omega);rw[List.drop_drop];rwa[zaG,Nat.one_mul,zb4] at this
theorem Rj {g:TypeId->Option (List Leaf)} (hg: ∀{fuel:Nat} {t:TypeId} {cs:List Value} {x:DataW H×List MemPlace} {l:List Leaf},g t=some l->DataW.trod enc P w base spare held fuel t cs=some x->okL l cs):
 ∀{fs:List Field} {off:Nat} {cs:List Value} {l:List Leaf},Ri P g fs off=some l->off+l.length<=cs.length->
 (∀f∈fs,∃fuel x,DataW.trod enc P w base spare held fuel f.type ((cs.drop f.offset).take (P.cellsOf f.type))=some x)->okL l ((cs.drop off).take l.length)
 | [],off,cs,l,h,_,_=>by simp[Ri] at h;subst h;simp[okL]
 |f::fs,off,cs,l,h,hl,hf=>by
  rw[Ri] at h;split at h
  ·rename_i a ha;split at h
   ·rename_i hc;split at h
    ·rename_i r hr;cases h;simp only[za3] at hl ⊢;obtain⟨fuel,x,h1⟩:=hf f (by simp);rw[hc.1,hc.2] at h1;have h2:=Rj hg hr (cs:=cs) (by omega) (λg hg=>hf g (zan _ hg));rw[List.take_add,List.drop_drop];exact Q9 (hg ha h1) h2
    ·cases h
   ·cases h
  ·cases h
theorem FB: ∀(d:Nat) {fuel:Nat} {t:TypeId} {cs:List Value} {x:DataW H×List MemPlace} {l:List Leaf},QV P d t=some l->DataW.trod enc P w base spare held fuel t cs=some x->okL l cs
 |0,_,_,_,_,_,h,_=>by simp[QV] at h
 |d+1,fuel,t,cs,x,l,h,hx=>by
  rw[QV] at h;split at h
  ·rename_i ht;obtain⟨b,rfl,_⟩:=DataW.trod_bool ht hx;cases h;exact⟨⟨b,rfl⟩,trivial⟩
  ·rename_i k ht;obtain⟨z,rfl,_,hw⟩:=DataW.trod_int ht hx;cases h;simp only[Lit.wf,za2,zdB] at hw;exact⟨⟨z,rfl,hw⟩,trivial⟩
  ·rename_i ht;obtain⟨s,rfl,_,hs⟩:=DataW.trod_string ht hx;cases h;exact⟨⟨s,rfl,hs⟩,trivial⟩
  ·rename_i n e ht;split at h
   ·rename_i le hle;split at h
    ·rename_i hc;cases h;obtain⟨xs,m,_,_,hl,hn,hel⟩:=DataW.trod_array ht hx;rw[hc.2] at hl;rw[hc.1] at hel;refine Sx n cs hl λi hi=> ?_;have:=hel i hi;rw[zaa (by omega)] at this;exact FB d hle this
    ·cases h
   ·cases h
  ·rename_i fs ht;split at h
   ·rename_i lf hlf;split at h
    ·rename_i hc;cases h;obtain⟨xs,m,_,_,hl,hn,hel⟩:=DataW.trod_struct ht hx;rw[hc] at hl
     have:=Rj (g:=QV P d) (λh1 h2=>FB d h1 h2) (fs:=fs.toList) (off:=0) (cs:=cs) hlf (by omega) (λf hf=>by
      obtain⟨i,hi,e⟩:=zbS hf;have h1:=hel i f (by rw[<-Array.getElem?_toList];rw[zaa hi,e]);rw[zaa (by simp at hi;omega)] at h1
      exact⟨_,_,h1⟩)
     rwa[zb0,zaI (by omega)] at this
    ·cases h
   ·cases h
  ·cases h
end
variable {vs:List Value}
theorem Rk {l:Leaf} {ls:List Leaf} (h:okL (l::ls) vs): ∃v r,vs=v::r/\l.ok v/\okL ls r:=by
 match vs,h with
 |v::r,h=>exact⟨v,r,rfl,h.1,h.2⟩
theorem TB (h:okL [] vs):vs= []:=by
 match vs,h with
 | [],_=>rfl
end Yk
namespace Yk
open Go Go.RowKit Go.ChangeShapes Go.WideShapes Go.Sy
section
variable {H:Type} {enc:TypeId×Value->H} {P:Program} {w:World} {base:Nat}
theorem u64 {z:Int} (h:IntKind.i64.min<=z/\z<=IntKind.i64.max):uInt z=true:=by
 exact Wl.2 h
variable {e:TypeId} {held:Bool}
theorem Sd {fuel:Nat} {a:Addr} {x:DataW H×List MemPlace} {spare:zdV} (he:QV P 9 e=some [.int .i64, .int .i64, .int .i64, .int .i64]) (hs:a.spot=none) {i:Nat}
 (h:(w.cells? base (a.add (i*4)) 4).bind (DataW.trod enc P w base spare held fuel e)=some x): ∃y:I4,uz4 y=true/\ ∀o z,(RQ y)[o]? =some z->w.cell? ⟨a.block,a.off+i*4+o,none⟩=some (z.conc oj):=by
 rw[Option.bind_eq_some_iff] at h;obtain⟨cs,hc,hx⟩:=h;obtain⟨_,hl,hget⟩:=World.cells?_some hc;have hk:=FB 9 he hx;have ad: ∀o,(a.add (i*4)).add o=⟨a.block,a.off+i*4+o,none⟩:=λo=>by
  obtain⟨b,f,s⟩:=a;obtain rfl:s=none:=hs;unfold Addr.add;split<;>split<;>simp_all<;>omega
 obtain⟨_,_,rfl,⟨y0,rfl,b0⟩,h1⟩:=Rk hk;obtain⟨_,_,rfl,⟨y1,rfl,b1⟩,h2⟩:=Rk h1;obtain⟨_,_,rfl,⟨y2,rfl,b2⟩,h3⟩:=Rk h2;obtain⟨_,_,rfl,⟨y3,rfl,b3⟩,h4⟩:=Rk h3;obtain rfl:=TB h4;refine⟨(y0,y1,y2,y3),by unfold uz4;rw[u64 b0,u64 b1,u64 b2,u64 b3];rfl,λo z hz=> ?_⟩;have ho:o<4:=by
  rcases zah o 4 with h|h
  ·exact h
  ·rw[zad (by show 4<=o;exact h)] at hz;cases hz
 rw[<-ad,hget o ho];rcases(show o=0\/o=1\/o=2\/o=3 by omega) with rfl|rfl|rfl|rfl<;>(simp[RQ] at hz;subst hz;rfl)
def Uc (P:Program) (t e:TypeId):Bool:=match P.cellTypes P.depth t with
 |some l=>l.length==12&&l[4]? ==some e
 |none=>false
theorem Td {r:Reach} {b0:Nat} {v:Value} {dd:DataW H} {ps:List MemPlace} {t:TypeId} {fs:Array Go.Field} {f0 f1 f2 f3 f4:Go.Field} (hu:P.underlying t=some (.struct fs)) (hfs:fs.toList= [f0,f1,f2,f3,f4]) (hc:P.cellsOf t=12)
 (h0:f0.offset=0/\P.cellsOf f0.type=3/\QV P 9 f0.type=some [.int .i64, .int .i64, .int .i64]) (h1:f1.offset=3/\P.cellsOf f1.type=1/\QV P 9 f1.type=some [.int .i64]) (h2:f2.offset=4/\P.cellsOf f2.type=1/\P.underlying f2.type=some (.slice e))
 (h3:f3.offset=5/\P.cellsOf f3.type=1/\QV P 9 f3.type=some [.bool]) (h4:f4.offset=6/\P.cellsOf f4.type=6/\QV P 9 f4.type=some [.int .i64, .int .i64, .int .i64, .int .i64, .int .i64, .int .i64])
 (he:P.cellsOf e=4/\QV P 9 e=some [.int .i64, .int .i64, .int .i64, .int .i64]) (ht:Uc P t f2.type=true)
 (hval:Value.okWide P w r b0 t v) (hd:DataW.Trod enc P w base (λ_=>true) held t v dd ps): ∃(c:Cas) (L:Go.Sy.Loc),v=(Rs c c.x.length).conc (λ_=>L)/\c.ok=true/\BlkOK (λ_=>L) 0 (e4.old c.x) w/\c.x.length<=maxLen:=by
 simp only[Value.okWide,hu] at hval;obtain⟨cs,rfl,hsz,ts,hts,_,hrow⟩:=hval;have ht4:ts.length=12/\ts[4]? =some f2.type:=by
  unfold Uc at ht;rw[hts] at ht;simpa using ht
 obtain⟨fuel,hf⟩:=hd;obtain⟨xs,m,_,_,hl,hn,hel⟩:=DataW.trod_struct hu hf;have hL:cs.toList.length=12:=by rw[Array.length_toList,hsz,hc]
 have fld: ∀(i:Nat) (f:Go.Field),fs.toList[i]? =some f-> ∃x,DataW.trod enc P w base (λ_=>true) held m f.type ((cs.toList.drop f.offset).take (P.cellsOf f.type))=some x:=λi f hi=>by
  have h1:=hel i f (by rw[<-Array.getElem?_toList];exact hi);have hlt:i<fs.toList.length:=(zaV.1 hi).1;rw[zaa (by simp at hlt;omega)] at h1;exact⟨_,h1⟩
 rw[hfs] at fld;obtain⟨cs⟩:=cs;dsimp only at hL fld hrow ⊢
 match cs,hL with
 | [c0,c1,c2,c3,c4,c5,c6,c7,c8,c9,ca,cb],_=>
 obtain⟨x0,k0⟩:=fld 0 f0 rfl;obtain⟨x1,k1⟩:=fld 1 f1 rfl;obtain⟨x2,k2⟩:=fld 2 f2 rfl;obtain⟨x3,k3⟩:=fld 3 f3 rfl;obtain⟨x4,k4⟩:=fld 4 f4 rfl;rw[h0.1,h0.2.1] at k0;rw[h1.1,h1.2.1] at k1;rw[h2.1,h2.2.1] at k2;rw[h3.1,h3.2.1] at k3;rw[h4.1,h4.2.1] at k4;obtain⟨⟨a0,rfl,b0⟩,⟨a1,rfl,b1⟩,⟨a2,rfl,b2⟩,_⟩:=FB 9 h0.2.2 k0;obtain⟨⟨a3,rfl,b3⟩,_⟩:=FB 9 h1.2.2 k1;obtain⟨⟨a5,rfl⟩,_⟩:=FB 9 h3.2.2 k3;obtain⟨⟨a6,rfl,b6⟩,⟨a7,rfl,b7⟩,⟨a8,rfl,b8⟩,⟨a9,rfl,b9⟩,⟨aa,rfl,ba⟩,⟨ab,rfl,bb⟩,_⟩:=FB 9 h4.2.2 k4;have hcell:=hrow 4 c4 rfl;obtain⟨u,hu',hok⟩:=hcell;rw[ht4.1,ht4.2] at hu';simp only[za1] at hu';subst hu';rcases DataW.trod_slice h2.2.2 k2 with ⟨hs,_⟩|⟨a,len,cap,elems,rest,n,_,hs,_,_,hle,hcap,hlen,hget,hsp,_⟩
 ·simp only[List.drop_succ_cons,zb0,List.take_succ_cons,zbw,zcc,and_true] at hs;subst hs;refine⟨⟨(a0,a1,a2),a3, [],a5,((a6,a7),(a8,a9),(aa,ab))⟩,⟨0,0,4,0,true⟩,rfl, ?_, ?_,zaA _⟩
  ·unfold Cas.ok;rw[u64 b0,u64 b1,u64 b2,u64 b3,u64 b6,u64 b7,u64 b8,u64 b9,u64 ba,u64 bb];rfl
  ·exact⟨rfl,λh=>(by cases h),za0 _,λe he=>absurd he (zbo e),λj hj=>(by simp at hj),λh=>(by cases h),λe he=>absurd he (zbo e),λ_=>rfl,λh=>(by cases h)⟩
 ·simp only[List.drop_succ_cons,zb0,List.take_succ_cons,zbw,zcc,and_true] at hs;subst hs;have hb:a.spot=none/\a.block<w.heap.size:=by
   unfold Cell.okWide at hok;simp only[h2.2.2] at hok;unfold Cell.ok at hok;simp only[h2.2.2] at hok;obtain⟨_,_,_,hsp,row,cells,hsh,_⟩:=hok;refine⟨hsp, ?_⟩;unfold World.shape? at hsh;rcases zah a.block w.heap.size with h|h
   ·exact h
   ·rw[zcI h] at hsh;cases hsh
  obtain⟨hrl,hrest⟩:=hsp rfl;rw[he.1] at hget hrest;have each: ∀i,∃y:I4,i<cap->uz4 y=true/\ ∀o z,(RQ y)[o]? =some z->w.cell? ⟨a.block,a.off+i*4+o,none⟩=some (z.conc oj):=λi=>by
   by_cases hi:i<cap
   ·by_cases hi':i<len
    ·have:=hget i hi';rw[zaa (by omega)] at this;obtain⟨y,h⟩:=Sd he.2 hb.1 this;exact⟨y,λ_=>h⟩
    ·have:=hrest (i - len) (by omega);rw[show len+(i - len)=i by omega,zaa (by omega)] at this;obtain⟨y,h⟩:=Sd he.2 hb.1 this;exact⟨y,λ_=>h⟩
   ·exact⟨(0,0,0,0),λh=>absurd h hi⟩
  obtain⟨g,hg⟩:=Classical.axiomOfChoice each;have hlx:(Go.Sy.tab g len).length=len:=fJ _ _;refine⟨⟨(a0,a1,a2),a3,Go.Sy.tab g len,a5,((a6,a7),(a8,a9),(aa,ab))⟩,⟨a.block,a.off,4,cap,false⟩, ?_, ?_, ?_, ?_⟩
  ·have:SV.conc (λ_=>(⟨a.block,a.off,4,cap,false⟩:Go.Sy.Loc)) (.slc 0 0 (Go.Sy.tab g len).length)= .slice (some a) len cap:=by
    rw[jq rfl (.inr rfl),hlx];obtain⟨b,f,s⟩:=a;obtain rfl:s=none:=hb.1;simp[addr]
   unfold Rs;simp only[SV.conc,SV.concs] at this ⊢;rw[this]
  ·unfold Cas.ok
   rw[u64 b0,u64 b1,u64 b2,u64 b3,u64 b6,u64 b7,u64 b8,u64 b9,u64 ba,u64 bb,show (Go.Sy.tab g len).all uz4=true from zaf.2 λy hy=>by
    obtain⟨i,hi⟩:=zbz hy;have hlt:i<len:=by have:=(zaV.1 hi).1;omega
    rw[qX _ hlt] at hi;simp only[za1] at hi;subst hi
    exact(hg i (by omega)).1];rfl
  ·refine⟨rfl,λ_=>hb.2,by show (Go.Sy.tab g len).length<=cap;omega,λe he=>rfl,λj hj=> ?_,λh=>(by cases h),λe he o s ho=> ?_,λh=>(by cases h),λ_=>rfl⟩
   ·have hj:j<cap*4:=hj;have:=(hg (j / 4) (by omega)).2 (j%4);show (w.cell? ⟨a.block,a.off+j,none⟩).isSome=true;rw[show a.off+j=a.off+j / 4*4+j%4 by omega];have hlt:j%4<(RQ (g (j / 4))).length:=by show j%4<4;omega
    rw[this _ (zaa hlt)];rfl
   ·have he':e<len:=by rw[<-hlx];exact he
    have e1:e4.get (Go.Sy.tab g len) e=RQ (g e):=by
     unfold El.get El.nth;rw[bR (qX g he')];rfl
    have ho':(RQ (g e))[o]? =some s:=by rw[<-e1];exact ho
    have:=(hg e (by omega)).2 o s ho';show w.cell? ⟨a.block,a.off+e*4+o,none⟩=_;rw[this];have:s.ids= []:=by
     have hm:s∈RQ (g e):=zal ho';simp only[RQ,zai,zby,or_false] at hm;rcases hm with rfl|rfl|rfl|rfl<;>rfl
    rw[SV.conc_congr s (β:=oj) (β':=λ_=>(⟨a.block,a.off,4,cap,false⟩:Go.Sy.Loc)) (λi h=>by rw[this] at h;cases h)]
  ·show (Go.Sy.tab g len).length<=maxLen;omega
end
theorem TC {w:World} {L:Go.Sy.Loc} {B:Go.Sy.Blk} (h:BlkOK (λ_=>L) 0 B w) (hk:B.kd= .old) (hc: ∀e,e<B.n->SV.idss (B.get e)= []):BC w (λi=> [B][i]?) (λ_=>L) w:=by
 have one: ∀{id:Nat} {C:Go.Sy.Blk}, [B][id]? =some C->id=0/\C=B:=λ{id C} h=>by
  cases id with
  |zero=>simp at h;exact⟨rfl,h.symm⟩
  |succ n=>simp at h
 refine⟨Pres.refl _,λid C hC _=> ?_,λid C hC ho=> ?_,λid C hC _ hn=> ?_,λid id' C C' hC hC' _ _ _ _ _=> ?_,λid C e o s hC _ he hs=> ?_,⟨λid C hC hm=> ?_,λid id' C C' hC hC' hm=> ?_,λid C e s hC hm=> ?_,λid C hC hm=> ?_⟩⟩
 ·obtain⟨rfl,rfl⟩:=one hC;exact h
 ·obtain⟨rfl,rfl⟩:=one hC;rw[hk] at ho;cases ho
 ·obtain⟨rfl,rfl⟩:=one hC;intro hm;have:=h.lt hn;rcases hm with hm|hm
  ·exact absurd this (Nat.not_lt.2 hm)
  ·cases hm
 ·rw[(one hC).1,(one hC').1]
 ·obtain⟨rfl,rfl⟩:=one hC;intro i hi;have:i∈SV.idss (C.get e):=SV.mem_idss.2 ⟨s,zal hs,hi⟩;rw[hc e he] at this;cases this
 all_goals obtain⟨rfl,rfl⟩:=one hC;rw[hk] at hm;cases hm
end Yk
namespace Go.Proofs.YthngoecanpokhaaGreatDoor
open Go.Proofs.Tryz
open Go Go.RowKit Go.Sy Yk
variable {c:Cas}
theorem T8 {gm:ze0} (hm:MOk gm) {W:World} (hg:GlobU W) {ann:zdY} {n:Nat} {F:FuncId} {rest:zdQ} {L:Go.Sy.Loc} (hB:BlkOK (λ_=>L) 0 (e4.old c.x) W) (hr:SV.idss rest= []) (h:JL gm ann n F (Rs c c.x.length::rest) (ST c) (Go.Sy.okK λr _ _ _=>r=cB.enc true)):
 Calls prog F (SV.concs (λ_=>L) (Rs c c.x.length::rest)).toArray W λe w'=>e= .returned (.bool true)/\Below W.heap.size W w':=by
 have hbc:BC W (λi=>(ST c)[i]?) (λ_=>L) W:=TC hB rfl (λe he=>e4.ids _);unfold JL at h
 obtain⟨_,hc⟩:=sU (Qy hm (GlobB.of hg)) ann n F (Rs c c.x.length::rest) (λi=>(ST c)[i]?) (ST c).length [] _ (λ_=>L) W h hbc (λi hi=>zad hi) (λs hs i hi=>by
  rcases zai.1 hs with rfl|hs
  ·have:i=0:=by simpa [Rs,SV.ids,SV.idss] using hi
   subst this;intro e;cases e
  ·have:i∈SV.idss rest:=SV.mem_idss.2 ⟨s,hs,hi⟩
   rw[hr] at this;cases this)
 refine Calls.mono hc ?_;rintro e w' ⟨β',s,bl',nx',wl',he,hk,hbc,_⟩;cases s with
 |pan v=>exact hk.elim
 |ok s=>
 obtain rfl:e=_:=he;obtain rfl:s=_:=hk;exact⟨rfl,hbc.below.below⟩
theorem Se {g:zdS}: ∀{l:List RS} {e:Nat},TI g l e-> ∀j,j<l.length->g (e+j)=gA (mb VI l j)
 | [],_,_,j,hj=>absurd hj (zbo j)
 |r::t,e,⟨h1,h2⟩,0,_=>h1
 |r::t,e,⟨h1,h2⟩,j+1,hj=>by
  have:=Se h2 j (by simpa using hj);rw[show e+(j+1)=e+1+j by omega];exact this
theorem Rq (x:Int):uInt (Int.tmod x 7)=true:=by
 have h:=Int.natAbs_tmod x 7;have hl:x.natAbs%7<7:=zar _ (by decide);have h7:(7:Int).natAbs=7:=rfl;rw[h7] at h;exact V4.2 (by omega)
theorem RX {v:(Int×Int)×(Int×Int)×(Int×Int)} {k:Nat}:(Q7 v k).length=k:=fJ _ _
theorem Tf {p:Pr} (h1:1<=p.inp.length) (h3:p.inp.length<=3) (u1:uInt c.v.1.1=true) (u2:uInt c.v.2.1.1=true) (u3:uInt c.v.2.2.1=true):Rw p c (vK (Q7 c.v p.inp.length)):=by
 have P: ∀l,p.inp=l->p={p with inp:=l}:=λl h=>by rw[<-h]
 match hi:p.inp with
 | []=>rw[hi] at h1;exact absurd h1 (by decide)
 | [u]=>
   rw[P _ hi];show Rw {p with inp:= [u]} c (vK [vs1 c]);rw[Tp];exact ac (by rw[u1,Rq];rfl) ⟨rfl,rfl,rfl,rfl,rfl,rfl,trivial⟩
 | [u,v]=>
   rw[P _ hi];show Rw {p with inp:= [u,v]} c (vK [vs1 c,vs2 c]);rw[Tq];exact ac (by rw[u1,Rq];rfl) (ac (by rw[u2,Rq];rfl) ⟨rfl,rfl,rfl,rfl,rfl,rfl,rfl,trivial⟩)
 | [u,v,w]=>
   rw[P _ hi];show Rw {p with inp:= [u,v,w]} c (vK [vs1 c,vs2 c,vs3 c]);rw[Ts];exact ac (by rw[u1,Rq];rfl) (ac (by rw[u2,Rq];rfl) (ac (by rw[u3,Rq];rfl) ⟨rfl,rfl,rfl,rfl,rfl,rfl,rfl,rfl,trivial⟩))
 |_::_::_::_::_=>rw[hi] at h3;simp at h3
theorem Tg: ∀B:Base,GlobB B->VU prog B 16 SR:=Sh MOk.nil λbl nx args C hk hp=>by
 unfold SR at hk;split at hk
 ·rename_i s i0 i1 i2 i3 t ex v0 v1 v2 v3 v4 v5;split at hk
  ·rename_i p bb o n g hs ht;simp only[za1] at hk;subst hk;simp only[za2,zdB] at hp;obtain⟨⟨⟨⟨⟨⟨⟨⟨⟨⟨h0,rfl⟩,hg⟩,h1⟩,h3⟩,u1⟩,_⟩,u2⟩,_⟩,u3⟩,_⟩:=hp;obtain⟨s1,s2,s3,s4,s5,s6⟩:=eX (f:=rnF [p.o1,p.o2,o] [] nx) hs h0 rfl rfl;obtain⟨t1,t2⟩:=cq (f:=rnF [p.o1,p.o2,o] [] nx) ht hg;have hlen:(e4.list n g).length=n:=El.list_length
   let c:Cas:=⟨(i0,i1,i2),i3,e4.list n g,ex,((v0,v1),(v2,v3),(v4,v5))⟩
   have hold: ∀C∈To p.p c,cN C.kd=false/\C.kd.map=false:=by simp[To,cN,El.old,BK.map]
   refine⟨[p.o1,p.o2,o],To p.p c, [kB p.p,SP 2 c c.x.length],λ_ _=>none,4,aw s1 (aw s2 (aw t1 trivial)),bH (λC hC=>(hold C hC).1),cd (λC hC=>(hold C hC).2),ar s3 (ar (Xs (ar rfl (ar rfl (ar rfl (ar rfl (ar (t2 2 rfl) rfl)))))) rfl), ?_⟩;refine Q8 (K:=xo (vK (Q7 c.v p.p.inp.length))) (Tf (c:=c) h1 h3 u1 u2 u3) λr bl' m w h=> ?_;obtain⟨i,n',B,rfl,hB,e1,e2,e3,e4',e5,e6⟩:=tT h;have hl:(Q7 c.v p.p.inp.length).length=p.p.inp.length:=RX;rw[hl] at e1;subst e1;have e5:=zak e5;refine⟨(),trivial, [some i],⟨_,rfl, ?_⟩,by simp[ck],⟨⟨by show 3<=i;exact e5, ?_⟩,trivial⟩,cr (λC hC=>(hold C hC).1) (by rfl) _⟩
   ·have e0:dt [p.o1,p.o2,o] [some i] nx nx=some (some i):=cO;simp only[SV.rn,e0]
   ·rw[hB];refine⟨by simp[El.own],λ_=>⟨by show 1<=(Q7 c.v p.p.inp.length).length;omega,eR.one⟩,gC e4' e3 (Nat.le_of_eq e2.symm) λe he=> ?_⟩;have:=Se e6 e he;rw[za7] at this;exact this
  ·cases hk
 ·cases hk
theorem Th:MOk SS:=(((((((MOk.nil.cons BI).cons lZ).cons tP).cons Mj).cons zC).cons Rn).cons Tg).cons Tc
structure CasOK (c:Cas):Prop where
 len:c.x.length<=9223372036854775807
 a0:uInt c.a.1=true
 a1:uInt c.a.2.1=true
 a2:uInt c.a.2.2=true
 k:uInt c.k=true
 x: ∀y∈c.x,uz4 y=true
 v0:uInt c.v.1.1=true
 v1:uInt c.v.1.2=true
 v2:uInt c.v.2.1.1=true
 v3:uInt c.v.2.1.2=true
 v4:uInt c.v.2.2.1=true
 v5:uInt c.v.2.2.2=true
theorem CasOK.of (h:c.ok=true) (hl:c.x.length<=maxLen):CasOK c:=by
 unfold Cas.ok at h;simp only[za2,zaf] at h;obtain⟨⟨⟨⟨⟨⟨⟨⟨⟨⟨h0,h1⟩,h2⟩,h3⟩,h4⟩,h5⟩,h6⟩,h7⟩,h8⟩,h9⟩,ha⟩:=h
 exact⟨by have e:maxLen=9223372036854775807:=by decide
          omega,h0,h1,h2,h3,h4,h5,h6,h7,h8,h9,ha⟩
section
variable {c:Cas} {ex:Bool}
variable {K:Prop}
theorem Q0 {b:Bool} (h:b=true) (k:K):nd1 b K:=ac h λ_ _=>k
theorem RY:Rp c ex=Bd c.a c.k c.x ex:=by
 unfold Rp;rw[show e4.list c.x.length (e4.get c.x)=c.x from El.list_get]
theorem SA:cw (Rp c ex)=true:=by rw[RY];exact Tn
theorem Ry:1<=(Rp c ex).inp.length/\(Rp c ex).inp.length<=3/\1<=(Rp c ex).nod.length/\(Rp c ex).nod.length<=14:=by rw[RY];exact Sb
theorem RM:jn (Rp c ex)=true:=by
 have:=Ry (c:=c) (ex:=ex);exact eY SA (by omega) (by omega)
theorem SL (h:CasOK c):Sl c=true:=by
 unfold Sl;rw[zae (za0 _),zdx h.len,El.good_get h.x,h.a0,h.a1,h.a2,h.k];rfl
theorem Ti {y n:Int} (hy:uInt y=true) (hn:0<n) (k:K):af (Tt y n) K:=ac (by unfold Tt;rw[hy,zdx hn];rfl) k
theorem Rl {p:Pr} {i:Int} (h:cw p=true):jn (aG p i).1=true:=by
 obtain⟨d1,d2,d3⟩:=qw (i:=i) h;exact eY d1 d2 d3
end
def eD (d:D7):Nat->Rat
 |0=>eV d.d0
 |1=>eV d.d1
 |2=>eV d.d2
 |3=>eV d.d3
 |4=>eV d.d4
 |5=>eV d.d5
 |6=>eV d.d6
 |_=>0
variable {a b:D7}
theorem Za (ha:Ye a) (hb:Ye b) (h: ∀i,eD a i=eD b i):a=b:=by
 obtain⟨a0,a1,a2,a3,a4,a5,a6⟩:=ha;obtain⟨b0,b1,b2,b3,b4,b5,b6⟩:=hb;exact D7.eq (XM a0 b0 (h 0)) (XM a1 b1 (h 1)) (XM a2 b2 (h 2)) (XM a3 b3 (h 3)) (XM a4 b4 (h 4)) (XM a5 b5 (h 5)) (XM a6 b6 (h 6))
theorem Yy {s:Int} (ha:Ye a) (hb:Ye b): ∀i,eD (ku (kw s) a b) i=eD a i+s*eD b i:=by
 obtain⟨a0,a1,a2,a3,a4,a5,a6⟩:=ha;obtain⟨b0,b1,b2,b3,b4,b5,b6⟩:=hb;intro i
 match i with
 |0=>exact XY a0.1 b0.1
 |1=>exact XY a1.1 b1.1
 |2=>exact XY a2.1 b2.1
 |3=>exact XY a3.1 b3.1
 |4=>exact XY a4.1 b4.1
 |5=>exact XY a5.1 b5.1
 |6=>exact XY a6.1 b6.1
 |_+7=>show (0:Rat)=0+s*0;grind
theorem Z0 {p:Int×Int} (hp:0<p.2) (ha:Ye a): ∀i,eD (wV p a) i=eV p*eD a i:=by
 obtain⟨a0,a1,a2,a3,a4,a5,a6⟩:=ha;intro i;have e: ∀{x:Int×Int},0<x.2->eV (A4 p x)=eV p*eV x:=λ{x} hx=>by rw[aat hp hx];grind
 match i with
 |0=>exact e a0.1
 |1=>exact e a1.1
 |2=>exact e a2.1
 |3=>exact e a3.1
 |4=>exact e a4.1
 |5=>exact e a5.1
 |6=>exact e a6.1
 |_+7=>show (0:Rat)=eV p*0;grind
def th (z:Int):Rat:=(1000:Rat)^z
theorem YO (a b:Int):th (a+b)=th a*th b:=Rat.zpow_add (by decide) a b
theorem X6:th 0=1:=by unfold th;simp
theorem Z3 (z:Int):0<th z:=ZQ (by decide) z
theorem aaq (z:Int):th z≠0:=Lz (Z3 z)
theorem Zb (a b:Int):th (a - b)=th a / th b:=by
 have h:=YO (a - b) b;rw[Int.sub_add_cancel] at h;have:=aaq b;rw[h];grind
theorem aax {z:Int} (h:th z=1):z=0:=by
 have key: ∀n:Nat,th (n:Int)=1->n=0:=λn hn=>by
  unfold th at hn;rw[Rat.zpow_natCast] at hn;have:((1000^n:Nat):Rat)=((1:Nat):Rat):=by simpa using hn
  have:=Rat.natCast_inj.1 this;cases n with
  |zero=>rfl
  |succ n=>rw[zaw] at this;omega
 rcases Int.le_total 0 z with hz|hz
 ·obtain⟨n,rfl⟩: ∃n:Nat,z=n:=⟨z.toNat,by omega⟩;rw[key n h];rfl
 ·obtain⟨n,hn⟩: ∃n:Nat,z= -(n:Int):=⟨(-z).toNat,by omega⟩;have:=YO z n;rw[hn,Int.add_left_neg,X6,<-hn,h,Rat.one_mul] at this;rw[hn,key n this.symm];rfl
theorem aay {a b:Int} (h:th a=th b):a=b:=by
 have:=Zb a b;rw[h] at this;have h1:th (a - b)=1:=by rw[this];have:=aaq b;grind
 have:=aax h1;omega
structure HasP (u:Un) (e:Nat->Rat) (z:Int):Prop where
 valid:VK u=true
 k:u.k=0
 e: ∀i,eD u.d i=e i
 z:qV u.f=th z
section
variable {a b u:Un} {e e':Nat->Rat} {z z':Int}
theorem HasP.red (h:HasP u e z):Ye u.d:=Xr (WE.1 h.valid).1
theorem HasP.rv (h:HasP u e z):rV u.f=true:=(WE.1 h.valid).2.1
theorem HasP.congr (h:HasP u e z) (he: ∀i,e i=e' i) (hz:z=z'):HasP u e' z':=⟨h.valid,h.k,λi=>(h.e i).trans (he i),by rw[h.z,hz]⟩
theorem HasP.det (h:HasP u e z) (h':HasP u e' z'):(∀i,e i=e' i)/\z=z':=⟨λi=>(h.e i).symm.trans (h'.e i),aay (h.z.symm.trans h'.z)⟩
theorem HasP.same (h:HasP a e z) (h':HasP b e z) (ha:a.s≠0) (hb:b.s≠0):a=b:=by
 have hd:a.d=b.d:=Za h.red h'.red λi=>(h.e i).trans (h'.e i).symm;have hf:a.f=b.f:=wh h.rv h'.rv (h.z.trans h'.z.symm);rw[Xx h.valid ha,Xx h'.valid hb,hd,hf,h.k,h'.k]
variable {D:D7}
theorem HasP.mk_plain {f:RS} (h1:pr D=true) (h2:rV f=true) (he: ∀i,eD D i=e i) (hz:qV f=th z):HasP (bT D f 0) e z:=⟨Xo h1 h2 (by rw[hz];exact Z3 z) (by decide),rfl,he,hz⟩
theorem aaL (h:HasP u e z):HasP (bB u) e z/\(bB u).s≠0:=by
 unfold bB;rw[ou h.valid,h.k];exact⟨HasP.mk_plain (WE.1 h.valid).1 h.rv h.e h.z,X3 _ _ _⟩
theorem XB {f:RS×Int} {k:Int} (h:(qi (eS D) f k).2=0):pr D=true/\f.2=0/\qi (eS D) f k=(bT D f.1 k,0):=by
 unfold qi at h ⊢;obtain⟨u1,u2⟩:=XH D;cases hD:(eS D).2 with
 |false=>rw[hD] at h;exact absurd (show (70:Int)=0 from h) (by decide)
 |true=>
  rw[hD] at h;have hf:=u1.symm.trans hD;rw[u2 hf];cases hb:f.2 !=0 with
  |true=>rw[hb] at h;exact absurd (show (70:Int)=0 from h) (by decide)
  |false=>exact⟨hf,by simpa using hb,rfl⟩
theorem aaj (ha:HasP a e z) (hb:HasP b e' z') (h:(mi a b).2=0):HasP (mi a b).1 (λi=>e i+e' i) (z+z')/\(mi a b).1.s≠0/\a.s≠0/\b.s≠0:=by
 unfold mi at h ⊢;cases h1:aU a with
 |false=>rw[h1] at h;exact absurd (show (70:Int)=0 from h) (by decide)
 |true=>cases h2:aU b with
  |false=>rw[h1,h2] at h;exact absurd (show (70:Int)=0 from h) (by decide)
  |true=>
   rw[h1,h2] at h;simp only[zbi,Bool.or_self,zdy] at h ⊢;obtain⟨f1,f2,f3⟩:=XB h;have g:=(mG f2).2.2;rw[f3];have hk:(bif 2==b.s then a.k else bif 2==a.s then b.k else 0)=0:=by rw[ha.k,hb.k];cases 2==b.s<;>cases 2==a.s<;>rfl
   rw[hk];refine⟨HasP.mk_plain f1 g.valid (λi=> ?_) ?_,X3 _ _ _,(Xh.1 h1).2,(Xh.1 h2).2⟩
   ·rw[Yy ha.red hb.red,ha.e,hb.e];simp
   ·rw[g.val,ha.z,hb.z,YO]
theorem aak (ha:HasP a e z) (hb:HasP b e' z') (h:(fd a b).2=0):HasP (fd a b).1 (λi=>e i - e' i) (z - z')/\(fd a b).1.s≠0/\a.s≠0/\b.s≠0:=by
 unfold fd at h ⊢;cases h1:aU a with
 |false=>rw[h1] at h;exact absurd (show (70:Int)=0 from h) (by decide)
 |true=>cases h2:aU b with
  |false=>rw[h1,h2] at h;exact absurd (show (70:Int)=0 from h) (by decide)
  |true=>
   rw[h1,h2] at h;simp only[zbi,Bool.or_self,zdy] at h ⊢;obtain⟨f1,f2,f3⟩:=XB h;have g:=(jP f2).2.2.2;rw[f3];have hk:(bif b.s==2 then a.k else 0)=0:=by rw[ha.k];cases b.s==2<;>rfl
   rw[hk];refine⟨HasP.mk_plain f1 g.valid (λi=> ?_) ?_,X3 _ _ _,(Xh.1 h1).2,(Xh.1 h2).2⟩
   ·rw[Yy ha.red hb.red,ha.e,hb.e];simp;grind
   ·rw[g.val,ha.z,hb.z,Zb]
theorem aaZ (ha:HasP a e z) (hb:HasP b e' z') (h:(iS a b).2=0):HasP (iS a b).1 e z/\(∀i,e i=e' i)/\z=z'/\(a.s≠0->b.s≠0->(iS a b).1.s≠0):=by
 unfold iS at h ⊢;cases h1:jk a b with
 |false=>rw[h1] at h;exact absurd (show (70:Int)=0 from h) (by decide)
 |true=>
  obtain⟨_,_,hd,hf,_⟩:=Wj.1 h1;have hb':HasP b e z:=⟨hb.valid,hb.k,λi=>by rw[<-hd];exact ha.e i,by rw[<-hf];exact ha.z⟩;obtain⟨d1,d2⟩:=hb'.det hb;rw[h1] at h;cases h2:a.s==0&&b.s==0 with
  |true=>rw[h2] at h;exact absurd (show (70:Int)=0 from h) (by decide)
  |false=>
   cases h3:b.s==0 with
   |true=>exact⟨hb',d1,d2,λ_ k=>absurd (beq_iff_eq.1 h3) k⟩
   |false=>exact⟨ha,d1,d2,λk _=>k⟩
theorem Z4 (ha:HasP a e z) (hb:HasP b e' z') (h:(fw a b).2=0):HasP (fw a b).1 e z/\(∀i,e i=e' i)/\z=z'/\(a.s≠0->(fw a b).1.s≠0):=by
 unfold fw at h ⊢;cases h1:jk a b with
 |false=>rw[h1] at h;exact absurd (show (70:Int)=0 from h) (by decide)
 |true=>
  obtain⟨_,_,hd,hf,_⟩:=Wj.1 h1;have hb':HasP b e z:=⟨hb.valid,hb.k,λi=>by rw[<-hd];exact ha.e i,by rw[<-hf];exact ha.z⟩;obtain⟨d1,d2⟩:=hb'.det hb;rw[h1] at h;cases h2:b.s !=0 with
  |true=>exact⟨ha,d1,d2,λk=>k⟩
  |false=>
   rw[h2] at h;cases h3:eqU a b with
   |true=>
    refine⟨?_,d1,d2,λ_=>X3 _ _ _⟩;show HasP (bT a.d a.f a.k) e z;rw[ha.k];exact HasP.mk_plain (WE.1 ha.valid).1 ha.rv ha.e ha.z
   |false=>rw[h3] at h;exact absurd (show (70:Int)=0 from h) (by decide)
theorem XJ {f:RS}: ∀{n:Nat},(bV f n).1=false->rV (bV f n).2=true/\qV (bV f n).2=qV f^n
 |0,_=>⟨(show rV rI=true by decide),by show qV rI=_;rw[Zl];simp⟩
 |n+1,h=>by
  unfold bV Yk.stepF at h ⊢;cases hn:(bV f n).1 with
  |true=>rw[hn] at h;replace h:(bV f n).1=false:=h;rw[hn] at h;cases h
  |false=>
   obtain⟨i1,i2⟩:=XJ hn;rw[hn] at h;simp only[zbh,zdz,zbj] at h ⊢;have g:=(mG (a:=(bV f n).2) (b:=f) (by simpa using h)).2.2;exact⟨g.valid,by rw[g.val,i2,Rat.pow_succ]⟩
theorem Zc (z:Int): ∀n:Nat,th z^n=th (n*z)
 |0=>by simp[X6]
 |n+1=>by rw[Rat.pow_succ,Zc z n,<-YO];congr 1;rw[zd2,Int.add_mul];simp
theorem Z5 (n:Int):eV (n,1)=(n:Rat):=by unfold eV;rw[zd7];grind
theorem aal (ha:HasP a e z) {n:Int} (hn:n≠0/\ -4<=n/\n<=4) (h:(jm a (n,1)).2=0):HasP (jm a (n,1)).1 (λi=>n*e i) (n*z)/\(jm a (n,1)).1.s≠0/\a.s≠0:=by
 unfold jm at h ⊢;rw[Y5 (by omega)] at h ⊢;cases h1:aU a with
 |false=>rw[h1] at h;exact absurd (show (70:Int)=0 from h) (by decide)
 |true=>
  rw[h1] at h;simp only[zbi,Bool.or_self,zbj,bne_self_eq_false,Bool.false_and,zdy,BEq.rfl,zdz] at h ⊢;obtain⟨u1,u2⟩:=XH (wV (n,1) a.d);cases hD:(eS (wV (n,1) a.d)).2 with
  |false=>rw[hD] at h;exact absurd (show (70:Int)=0 from h) (by decide)
  |true=>
   have hf:=u1.symm.trans hD;rw[hD] at h;rw[u2 hf];cases hI:(Yk.invF n (bV a.f n.natAbs)).1 with
   |true=>rw[hI] at h;exact absurd (show (70:Int)=0 from h) (by decide)
   |false=>
    have key:rV (Yk.invF n (bV a.f n.natAbs)).2=true/\qV (Yk.invF n (bV a.f n.natAbs)).2=th (n*z):=by
     unfold Yk.invF at hI ⊢;cases hneg:decide (n<0) with
     |true=>
      have hneg:=zdC hneg;cases hit:(bV a.f n.natAbs).1 with
      |true=>rw[zdx hneg,hit] at hI;replace hI:(bV a.f n.natAbs).1=false:=hI;rw[hit] at hI;cases hI
      |false=>
       obtain⟨i1,i2⟩:=XJ hit;rw[zdx hneg,hit] at hI;simp only[zbh,zc7,zdz] at hI ⊢;have g:=(jP (a:=rI) (b:=(bV a.f n.natAbs).2) (by simpa using hI)).2.2.2;refine⟨g.valid, ?_⟩;rw[g.val,i2,Zl,ha.z,Zc,show n*z=0 - (n.natAbs:Int)*z by rw[show (n.natAbs:Int)= -n by omega,Int.neg_mul];omega,Zb,X6]
     |false=>
      have hneg:=zdD hneg;rw[zdA hneg] at hI;simp only[Bool.false_and,zdy] at hI ⊢;obtain⟨i1,i2⟩:=XJ hI;exact⟨i1,by rw[i2,ha.z,Zc,show (n.natAbs:Int)=n by omega]⟩
    have hk:(bif eq2 (n,1) (1,1) then a.k else 0)=0:=by rw[ha.k];cases eq2 (n,1) (1,1)<;>rfl
    rw[hk];refine⟨HasP.mk_plain hf key.1 (λi=> ?_) key.2,X3 _ _ _,(Xh.1 h1).2⟩;rw[Z0 (show (0:Int)<1 by decide) ha.red,ha.e,Z5]
theorem aa4 (ha:HasP a e z) (h:(jm a (1,2)).2=0):HasP (jm a (1,2)).1 (λi=>e i / 2) 0/\(jm a (1,2)).1.s≠0/\a.s≠0/\z=0:=by
 unfold jm at h ⊢;rw[show aR (1,2)=true by decide] at h ⊢;cases h1:aU a with
 |false=>rw[h1] at h;exact absurd (show (70:Int)=0 from h) (by decide)
 |true=>
  rw[h1] at h;cases h3:eqR a.f rI with
  |false=>rw[h3] at h;exact absurd (show (70:Int)=0 from h) (by decide)
  |true=>
   rw[h3] at h;have hf1:=Wg.1 h3;have hz:z=0:=aax (by rw[<-ha.z,hf1,Zl]);obtain⟨u1,u2⟩:=XH (wV (1,2) a.d);cases hD:(eS (wV (1,2) a.d)).2 with
   |false=>rw[hD] at h;exact absurd (show (70:Int)=0 from h) (by decide)
   |true=>
    have hf:=u1.symm.trans hD;rw[u2 hf];have hk:(bif eq2 (1,2) (1,1) then a.k else 0)=0:=rfl;show HasP (bT (wV (1,2) a.d) rI 0) _ _/\(bT (wV (1,2) a.d) rI 0).s≠0/\_;refine⟨HasP.mk_plain hf (by decide) (λi=> ?_) (by rw[Zl,X6]),X3 _ _ _,(Xh.1 h1).2,hz⟩;rw[Z0 (by decide) ha.red,ha.e,show eV (1,2)=1 / 2 by unfold eV;rw[zd7];rfl];grind
theorem Xj:HasP ratioU (λ_=>0) 0/\ratioU.s≠0:=by
 have hv:VK ratioU=true:=by kernel_rfl
 refine⟨⟨hv,by kernel_rfl,λi=> ?_,by rw[X6];kernel_rfl⟩,λh=>absurd (show (2:Int)=0 from h) (by decide)⟩
 match i with
 |0=>exact(show eD ratioU.d 0=0 by kernel_rfl)
 |1=>exact(show eD ratioU.d 1=0 by kernel_rfl)
 |2=>exact(show eD ratioU.d 2=0 by kernel_rfl)
 |3=>exact(show eD ratioU.d 3=0 by kernel_rfl)
 |4=>exact(show eD ratioU.d 4=0 by kernel_rfl)
 |5=>exact(show eD ratioU.d 5=0 by kernel_rfl)
 |6=>exact(show eD ratioU.d 6=0 by kernel_rfl)
 |_+7=>rfl
end
def aar (inp:ze2) (T:Nat->Un) (x:Nd):Un×Int:=
 bif x.op==2 then(mb noU inp x.n.toNat,0) else
 bif x.op==3 then iS (T x.l.toNat) (T x.r.toNat) else
 bif x.op==4 then fw (T x.l.toNat) (T x.r.toNat) else
 bif x.op==5 then mi (T x.l.toNat) (T x.r.toNat) else
 bif x.op==6 then fd (T x.l.toNat) (T x.r.toNat) else
 bif x.op==7 then jm (T x.l.toNat) (x.n,1) else
 bif x.op==8 then jm (T x.l.toNat) (1,2) else(x.u,0)
structure SolU (L:List Nd) (need:Nat->Bool) (inp:List Un) (T:Nat->Un):Prop where
 cl: ∀k,need k=true->k<L.length/\ ∀s∈VW (mb noN L k),need s.toNat=true
 ev: ∀k,need k=true->aar inp T (mb noN L k)=(T k,0)
def HasU (u:Un) (e:Nat->Rat) (z:Int):Prop:=HasP u e z/\u.s≠0
theorem HasU.congr {u:Un} {e e':Nat->Rat} {z z':Int} (h:HasU u e z) (he: ∀i,e i=e' i) (hz:z=z'):HasU u e' z':=⟨h.1.congr he hz,h.2⟩
structure UDK (need:Nat->Bool) (T:Nat->Un) (t:Int) (e:Nat->Rat) (z:Int):Prop where
 yes:t≠ -1->0<=t/\(need t.toNat=true->HasU (T t.toNat) e z)
section
variable {L:ze3} {need:zdV} {inp:ze2} {T us:Nat->Un}
variable {t z:Int} {e:Nat->Rat}
theorem UDK.at (h0:0<=t) (h:need t.toNat=true->HasU (T t.toNat) e z):UDK need T t e z:=⟨λ_=>⟨h0,h⟩⟩
variable {e':Nat->Rat} {z':Int}
theorem UDK.congr (h:UDK need T t e z) (he: ∀i,e i=e' i) (hz:z=z'):UDK need T t e' z':=⟨λht=>⟨(h.yes ht).1,λhn=>((h.yes ht).2 hn).congr he hz⟩⟩
variable {k:Nat} {a b:Int}
theorem SolU.op (S:SolU L need inp T) {o:Int} (h:mb noN L k=opN o a b) (o1:3<=o) (o2:o<=6) (hn:need k=true):need a.toNat=true/\need b.toNat=true/\aar inp T (opN o a b)=(T k,0):=by
 have:=(S.cl k hn).2;rw[h,aQ (x:=opN o a b) o1 o2] at this;exact⟨this a (by simp[opN]),this b (by simp[opN]),by rw[<-h];exact S.ev k hn⟩
theorem SolU.mul (S:SolU L need inp T) (h:mb noN L k=opN 5 a b) (hn:need k=true) (ha:need a.toNat=true->HasP (T a.toNat) e z) (hb:need b.toNat=true->HasP (T b.toNat) e' z'):HasU (T k) (λi=>e i+e' i) (z+z'):=by
 obtain⟨n1,n2,h3⟩:=S.op h (by decide) (by decide) hn;replace h3:mi (T a.toNat) (T b.toNat)=(T k,0):=h3;have:=aaj (ha n1) (hb n2) (by rw[h3]);rw[h3] at this;exact⟨this.1,this.2.1⟩
theorem SolU.div (S:SolU L need inp T) (h:mb noN L k=opN 6 a b) (hn:need k=true) (ha:need a.toNat=true->HasP (T a.toNat) e z) (hb:need b.toNat=true->HasP (T b.toNat) e' z'):HasU (T k) (λi=>e i - e' i) (z - z'):=by
 obtain⟨n1,n2,h3⟩:=S.op h (by decide) (by decide) hn;replace h3:fd (T a.toNat) (T b.toNat)=(T k,0):=h3;have:=aak (ha n1) (hb n2) (by rw[h3]);rw[h3] at this;exact⟨this.1,this.2.1⟩
theorem SolU.sum (S:SolU L need inp T) (h:mb noN L k=opN 3 a b) (hn:need k=true) (ha:need a.toNat=true->HasU (T a.toNat) e z) (hb:need b.toNat=true->HasU (T b.toNat) e' z'):HasU (T k) e z:=by
 obtain⟨n1,n2,h3⟩:=S.op h (by decide) (by decide) hn;replace h3:iS (T a.toNat) (T b.toNat)=(T k,0):=h3;have:=aaZ (ha n1).1 (hb n2).1 (by rw[h3]);rw[h3] at this;exact⟨this.1,this.2.2.2 (ha n1).2 (hb n2).2⟩
theorem SolU.sub (S:SolU L need inp T) (h:mb noN L k=opN 4 a b) (hn:need k=true) (ha:need a.toNat=true->HasU (T a.toNat) e z) (hb:need b.toNat=true->HasP (T b.toNat) e' z'):HasU (T k) e z:=by
 obtain⟨n1,n2,h3⟩:=S.op h (by decide) (by decide) hn;replace h3:fw (T a.toNat) (T b.toNat)=(T k,0):=h3;have:=Z4 (ha n1).1 (hb n2) (by rw[h3]);rw[h3] at this;exact⟨this.1,this.2.2.2 (ha n1).2⟩
variable {n:Int}
theorem SolU.pure (S:SolU L need inp T) (h:mb noN L k=pureF n) (hn:need k=true):HasU (T k) (λ_=>0) 0:=by
 have:=S.ev k hn;rw[h] at this;replace this:(ratioU,(0:Int))=(T k,0):=this;simp only[zag,and_true] at this;rw[<-this];exact Xj
theorem SolU.pw (S:SolU L need inp T) (h:mb noN L k=⟨7,VI,noU,n,a,0⟩) (hn:need k=true) (hb:n≠0/\ -4<=n/\n<=4) (ha:need a.toNat=true->HasP (T a.toNat) e z):HasU (T k) (λi=>n*e i) (n*z):=by
 have hc:=(S.cl k hn).2;rw[h,bF (.inl rfl)] at hc;have n1:=hc a (by simp);have h3:=S.ev k hn;rw[h] at h3;replace h3:jm (T a.toNat) (n,1)=(T k,0):=h3;have:=aal (ha n1) hb (by rw[h3]);rw[h3] at this;exact⟨this.1,this.2.1⟩
def relU (x:Nd) (e el er:Nat->Rat) (z zl zr:Int):Prop:=
 (x.op=3\/x.op=4->(∀i,e i=el i)/\(∀i,e i=er i)/\z=zl/\z=zr)/\
 (x.op=5->(∀i,e i=el i+er i)/\z=zl+zr)/\(x.op=6->(∀i,e i=el i - er i)/\z=zl - zr)/\
 (x.op=7->(∀i,e i=x.n*el i)/\z=x.n*zl)/\(x.op=8->(∀i,e i=el i / 2)/\z=0/\zl=0)
theorem aaY (S:SolU L need inp T) {i:Nat} {x:Nd} {dl dr:Int} {l m:ze3} {el er w:Nat->Rat} {zl zr ζ:Int} (hL:L=(bq i x dl dr l).1++m)
 (hWl:need x.l.toNat=true->HasP (T x.l.toNat) el zl) (hWr:x.op<=6->need x.r.toNat=true->HasP (T x.r.toNat) er zr) (hWi:need i=true->HasP (T i) e z) (hrel:relU x e el er z zl zr)
 (hl:UDK need T dl (λk=>el k - w k) (zl - ζ)) (hr:x.op<=6->UDK need T dr (λk=>er k - w k) (zr - ζ)) (hop:3<=x.op/\x.op<=8) (hr7:7<=x.op->dr= -1) (hno: ¬(dl= -1/\dr= -1)) (hb:x.op=7->x.n≠0/\ -4<=x.n/\x.n<=4):
 UDK need T (bq i x dl dr l).2 (λk=>e k - w k) (z - ζ):=by
 have tl: ∀{q:Int},(q== -1)=true->q= -1:=λh=>beq_iff_eq.1 h;have fl: ∀{q:Int},(q== -1)=false->q≠ -1:=λh e=>by rw[e] at h;cases h
 obtain⟨R3,R5,R6,R7,R8⟩:=hrel;rcases(show x.op=3\/x.op=4\/x.op=5\/x.op=6\/x.op=7\/x.op=8 by omega) with o|o|o|o|o|o
 ·have eq:bq i x dl dr l=bif dl== -1||dr== -1 then(l,jI dl dr) else(l++ [opN 3 dl dr],(l.length:Int)):=by unfold bq;rw[o];rfl
  obtain⟨r1,r2,r3,r4⟩:=R3 (.inl o);have hr:=hr (by omega);rw[eq] at hL ⊢;cases a:dl== -1 with
  |true=>
   have hd:dr≠ -1:=λh=>hno ⟨tl a,h⟩;have:=(hr.yes hd).1;rw[tl a];show UDK need T (jI (-1) dr) _ _;rw[show jI (-1) dr=dr by unfold jI;rw[if_pos (by omega)]];exact hr.congr (λk=>by rw[r2]) (by rw[r4])
  |false=>
   have hdl:=fl a;cases b:dr== -1 with
   |true=>
    have:=(hl.yes hdl).1;rw[tl b];show UDK need T (jI dl (-1)) _ _;rw[show jI dl (-1)=dl by unfold jI;rw[if_neg (by omega)]];exact hl.congr (λk=>by rw[r1]) (by rw[r3])
   |false=>
    rw[a,b] at hL;replace hL:L=l++ [opN 3 dl dr]++m:=hL;refine UDK.at (by show 0<=(l.length:Int);omega) λhn=> ?_;show HasU (T ((l.length:Int)).toNat) _ _;replace hn:need ((l.length:Int)).toNat=true:=hn;rw[eB] at hn ⊢;exact(S.sum (k:=l.length) (a:=dl) (b:=dr) (by rw[hL,za5];exact aE l _ 0) hn (hl.yes hdl).2 (hr.yes (fl b)).2).congr (λk=>by rw[r1]) (by rw[r3])
 ·have eq:bq i x dl dr l=bif dr== -1 then(l,dl) else bif dl== -1 then(l++ [pureF (-1)]++ [opN 5 l.length dr],(l.length:Int)+1) else(l++ [opN 4 dl dr],(l.length:Int)):=by unfold bq;rw[o];rfl
  obtain⟨r1,r2,r3,r4⟩:=R3 (.inr o);have hr:=hr (by omega);rw[eq] at hL ⊢;cases b:dr== -1 with
  |true=>exact hl.congr (λk=>by rw[r1]) (by rw[r3])
  |false=>
   have hdr:=fl b;cases a:dl== -1 with
   |true=>
    rw[a,b] at hL;replace hL:L=l++ [pureF (-1)]++ [opN 5 l.length dr]++m:=hL;refine UDK.at (by show 0<=(l.length:Int)+1;omega) λhn=> ?_;show HasU (T ((l.length:Int)+1).toNat) _ _;replace hn:need ((l.length:Int)+1).toNat=true:=hn;rw[ns] at hn ⊢;rw[za5,za5] at hL;exact(S.mul (k:=l.length+1) (a:=l.length) (b:=dr) (by rw[hL];exact aE l _ 1) hn (λn=>by rw[eB] at n ⊢;exact(S.pure (n:= -1) (by rw[hL];exact aE l _ 0) n).1) (λn=>((hr.yes hdr).2 n).1)).congr (λk=>by rw[r2];grind) (by rw[r4];omega)
   |false=>
    have hdl:=fl a;rw[a,b] at hL;replace hL:L=l++ [opN 4 dl dr]++m:=hL;refine UDK.at (by show 0<=(l.length:Int);omega) λhn=> ?_;show HasU (T ((l.length:Int)).toNat) _ _;replace hn:need ((l.length:Int)).toNat=true:=hn;rw[eB] at hn ⊢;exact(S.sub (k:=l.length) (a:=dl) (b:=dr) (by rw[hL,za5];exact aE l _ 0) hn (hl.yes hdl).2 (λn=>((hr.yes hdr).2 n).1)).congr (λk=>by rw[r1]) (by rw[r3])
 ·have eq:bq i x dl dr l=bif dl== -1 then(bif dr== -1 then(l, -1) else(l++ [opN 5 x.l dr],(l.length:Int))) else bif dr== -1 then(l++ [opN 5 dl x.r],(l.length:Int)) else(l++ [opN 5 dl x.r]++ [opN 5 x.l dr]++ [opN 3 l.length (l.length+1)],(l.length:Int)+2):=by unfold bq;rw[o];rfl
  obtain⟨r1,r2⟩:=R5 o;have hr:=hr (by omega);have hWr:=hWr (by omega);rw[eq] at hL ⊢;cases a:dl== -1 with
  |true=>
   cases b:dr== -1 with
   |true=>exact absurd ⟨tl a,tl b⟩ hno
   |false=>
    rw[a,b] at hL;replace hL:L=l++ [opN 5 x.l dr]++m:=hL;refine UDK.at (by show 0<=(l.length:Int);omega) λhn=> ?_;show HasU (T ((l.length:Int)).toNat) _ _;replace hn:need ((l.length:Int)).toNat=true:=hn;rw[eB] at hn ⊢;exact(S.mul (k:=l.length) (a:=x.l) (b:=dr) (by rw[hL,za5];exact aE l _ 0) hn hWl (λn=>((hr.yes (fl b)).2 n).1)).congr (λk=>by rw[r1];grind) (by rw[r2];omega)
  |false=>
   have hdl:=fl a;cases b:dr== -1 with
   |true=>
    rw[a,b] at hL;replace hL:L=l++ [opN 5 dl x.r]++m:=hL;refine UDK.at (by show 0<=(l.length:Int);omega) λhn=> ?_;show HasU (T ((l.length:Int)).toNat) _ _;replace hn:need ((l.length:Int)).toNat=true:=hn;rw[eB] at hn ⊢;exact(S.mul (k:=l.length) (a:=dl) (b:=x.r) (by rw[hL,za5];exact aE l _ 0) hn (λn=>((hl.yes hdl).2 n).1) hWr).congr (λk=>by rw[r1];grind) (by rw[r2];omega)
   |false=>
    rw[a,b] at hL;replace hL:L=l++ [opN 5 dl x.r]++ [opN 5 x.l dr]++ [opN 3 l.length (l.length+1)]++m:=hL;rw[za5,za5,za5] at hL;refine UDK.at (by show 0<=(l.length:Int)+2;omega) λhn=> ?_;show HasU (T ((l.length:Int)+2).toNat) _ _;replace hn:need ((l.length:Int)+2).toNat=true:=hn;rw[uH] at hn ⊢
    exact(S.sum (k:=l.length+2) (a:=l.length) (b:=l.length+1) (by rw[hL];exact aE l _ 2) hn
     (λn=>by rw[eB] at n ⊢;exact S.mul (k:=l.length) (a:=dl) (b:=x.r) (by rw[hL];exact aE l _ 0) n (λn=>((hl.yes hdl).2 n).1) hWr)
     (λn=>by rw[ns] at n ⊢;exact S.mul (k:=l.length+1) (a:=x.l) (b:=dr) (by rw[hL];exact aE l _ 1) n hWl (λn=>((hr.yes (fl b)).2 n).1))).congr (λk=>by rw[r1];grind) (by rw[r2];omega)
 ·have eq:bq i x dl dr l=bif dr== -1 then(l++ [opN 6 dl x.r],(l.length:Int)) else bif dl== -1 then(l++ [opN 5 i dr]++ [opN 6 l.length x.r]++ [pureF (-1)]++ [opN 5 (l.length+2) (l.length+1)],(l.length:Int)+3) else(l++ [opN 5 i dr]++ [opN 4 dl l.length]++ [opN 6 (l.length+1) x.r],(l.length:Int)+2):=by unfold bq;rw[o];rfl
  obtain⟨r1,r2⟩:=R6 o;have hr:=hr (by omega);have hWr:=hWr (by omega);rw[eq] at hL ⊢;cases b:dr== -1 with
  |true=>
   have hdl:dl≠ -1:=λh=>hno ⟨h,tl b⟩;rw[b] at hL;replace hL:L=l++ [opN 6 dl x.r]++m:=hL;refine UDK.at (by show 0<=(l.length:Int);omega) λhn=> ?_;show HasU (T ((l.length:Int)).toNat) _ _;replace hn:need ((l.length:Int)).toNat=true:=hn;rw[eB] at hn ⊢;exact(S.div (k:=l.length) (a:=dl) (b:=x.r) (by rw[hL,za5];exact aE l _ 0) hn (λn=>((hl.yes hdl).2 n).1) hWr).congr (λk=>by rw[r1];grind) (by rw[r2];omega)
  |false=>
   have hdr:=fl b;cases a:dl== -1 with
   |true=>
    rw[a,b] at hL;replace hL:L=l++ [opN 5 i dr]++ [opN 6 l.length x.r]++ [pureF (-1)]++ [opN 5 (l.length+2) (l.length+1)]++m:=hL;rw[za5,za5,za5,za5] at hL;refine UDK.at (by show 0<=(l.length:Int)+3;omega) λhn=> ?_;show HasU (T ((l.length:Int)+3).toNat) _ _;replace hn:need ((l.length:Int)+3).toNat=true:=hn;rw[OT] at hn ⊢
    exact(S.mul (k:=l.length+3) (a:=l.length+2) (b:=l.length+1) (by rw[hL];exact aE l _ 3) hn
     (λn=>by rw[uH] at n ⊢;exact(S.pure (n:= -1) (by rw[hL];exact aE l _ 2) n).1)
     (λn=>by rw[ns] at n ⊢;exact(S.div (k:=l.length+1) (a:=l.length) (b:=x.r) (by rw[hL];exact aE l _ 1) n
       (λn=>by rw[eB] at n ⊢;exact(S.mul (k:=l.length) (a:=i) (b:=dr) (by rw[hL];exact aE l _ 0) n (λn=>by rw[eB] at n ⊢;exact hWi n) (λn=>((hr.yes hdr).2 n).1)).1) hWr).1)).congr (λk=>by grind) (by omega)
   |false=>
    have hdl:=fl a;rw[a,b] at hL;replace hL:L=l++ [opN 5 i dr]++ [opN 4 dl l.length]++ [opN 6 (l.length+1) x.r]++m:=hL;rw[za5,za5,za5] at hL;refine UDK.at (by show 0<=(l.length:Int)+2;omega) λhn=> ?_;show HasU (T ((l.length:Int)+2).toNat) _ _;replace hn:need ((l.length:Int)+2).toNat=true:=hn;rw[uH] at hn ⊢
    exact(S.div (k:=l.length+2) (a:=l.length+1) (b:=x.r) (by rw[hL];exact aE l _ 2) hn
     (λn=>by rw[ns] at n ⊢;exact(S.sub (k:=l.length+1) (a:=dl) (b:=l.length) (by rw[hL];exact aE l _ 1) n (hl.yes hdl).2
       (λn=>by rw[eB] at n ⊢;exact(S.mul (k:=l.length) (a:=i) (b:=dr) (by rw[hL];exact aE l _ 0) n (λn=>by rw[eB] at n ⊢;exact hWi n) (λn=>((hr.yes hdr).2 n).1)).1)).1) hWr).congr (λk=>by rw[r1];grind) (by rw[r2];omega)
 ·have hd:=hr7 (by omega);have hdl:dl≠ -1:=λh=>hno ⟨h,hd⟩;obtain⟨b0,b1,b2⟩:=hb o;obtain⟨r1,r2⟩:=R7 o;have eq:bq i x dl dr l=bif x.n==1 then(l,dl) else
   bif decide (x.n>2) then(l++ [⟨7,VI,noU,x.n - 1,x.l,0⟩]++ [pureF x.n]++ [opN 5 (l.length+1) l.length]++ [opN 5 (l.length+2) dl],(l.length:Int)+3) else
   bif decide (x.n<0) then(l++ [opN 6 i x.l]++ [pureF x.n]++ [opN 5 (l.length+1) l.length]++ [opN 5 (l.length+2) dl],(l.length:Int)+3) else
   (l++ [pureF x.n]++ [opN 5 l.length x.l]++ [opN 5 (l.length+1) dl],(l.length:Int)+2):=by unfold bq;rw[o];rfl
  rw[eq] at hL ⊢;cases h1:x.n==1 with
  |true=>
   have h1:=beq_iff_eq.1 h1;exact hl.congr (λk=>by rw[r1,h1];simp) (by rw[r2,h1];omega)
  |false=>cases h2:decide (x.n>2) with
   |true=>
    rw[h1,h2] at hL;replace hL:L=l++ [⟨7,VI,noU,x.n - 1,x.l,0⟩]++ [pureF x.n]++ [opN 5 (l.length+1) l.length]++ [opN 5 (l.length+2) dl]++m:=hL;rw[za5,za5,za5,za5] at hL;have h2:=zdC h2;refine UDK.at (by show 0<=(l.length:Int)+3;omega) λhn=> ?_;show HasU (T ((l.length:Int)+3).toNat) _ _;replace hn:need ((l.length:Int)+3).toNat=true:=hn;rw[OT] at hn ⊢
    exact(S.mul (k:=l.length+3) (a:=l.length+2) (b:=dl) (by rw[hL];exact aE l _ 3) hn
     (λn=>by rw[uH] at n ⊢;exact(S.mul (k:=l.length+2) (a:=l.length+1) (b:=l.length) (by rw[hL];exact aE l _ 2) n
       (λn=>by rw[ns] at n ⊢;exact(S.pure (n:=x.n) (by rw[hL];exact aE l _ 1) n).1)
       (λn=>by rw[eB] at n ⊢;exact(S.pw (k:=l.length) (n:=x.n - 1) (a:=x.l) (by rw[hL];exact aE l _ 0) n (by omega) hWl).1)).1)
     (λn=>((hl.yes hdl).2 n).1)).congr (λk=>by rw[r1];simp;grind) (by rw[r2,Int.sub_mul];omega)
   |false=>cases h3:decide (x.n<0) with
    |true=>
     rw[h1,h2,h3] at hL;replace hL:L=l++ [opN 6 i x.l]++ [pureF x.n]++ [opN 5 (l.length+1) l.length]++ [opN 5 (l.length+2) dl]++m:=hL;rw[za5,za5,za5,za5] at hL;refine UDK.at (by show 0<=(l.length:Int)+3;omega) λhn=> ?_;show HasU (T ((l.length:Int)+3).toNat) _ _;replace hn:need ((l.length:Int)+3).toNat=true:=hn;rw[OT] at hn ⊢
     exact(S.mul (k:=l.length+3) (a:=l.length+2) (b:=dl) (by rw[hL];exact aE l _ 3) hn
      (λn=>by rw[uH] at n ⊢;exact(S.mul (k:=l.length+2) (a:=l.length+1) (b:=l.length) (by rw[hL];exact aE l _ 2) n
        (λn=>by rw[ns] at n ⊢;exact(S.pure (n:=x.n) (by rw[hL];exact aE l _ 1) n).1)
        (λn=>by rw[eB] at n ⊢;exact(S.div (k:=l.length) (a:=i) (b:=x.l) (by rw[hL];exact aE l _ 0) n (λn=>by rw[eB] at n ⊢;exact hWi n) hWl).1)).1)
      (λn=>((hl.yes hdl).2 n).1)).congr (λk=>by grind) (by omega)
    |false=>
     rw[h1,h2,h3] at hL;replace hL:L=l++ [pureF x.n]++ [opN 5 l.length x.l]++ [opN 5 (l.length+1) dl]++m:=hL;rw[za5,za5,za5] at hL;have hn2:x.n=2:=by
      have:=zdD h2;have:=zdD h3;have:x.n≠1:=λe=>by rw[e] at h1;cases h1
      omega
     refine UDK.at (by show 0<=(l.length:Int)+2;omega) λhn=> ?_;show HasU (T ((l.length:Int)+2).toNat) _ _;replace hn:need ((l.length:Int)+2).toNat=true:=hn;rw[uH] at hn ⊢
     exact(S.mul (k:=l.length+2) (a:=l.length+1) (b:=dl) (by rw[hL];exact aE l _ 2) hn
      (λn=>by rw[ns] at n ⊢;exact(S.mul (k:=l.length+1) (a:=l.length) (b:=x.l) (by rw[hL];exact aE l _ 1) n
        (λn=>by rw[eB] at n ⊢;exact(S.pure (n:=x.n) (by rw[hL];exact aE l _ 0) n).1) hWl).1)
      (λn=>((hl.yes hdl).2 n).1)).congr (λk=>by rw[r1,hn2];simp;grind) (by rw[r2,hn2];omega)
 ·have hd:=hr7 (by omega);have hdl:dl≠ -1:=λh=>hno ⟨h,hd⟩;obtain⟨r1,r2,r3⟩:=R8 o;have eq:bq i x dl dr l=(l++ [pureF 2]++ [opN 5 l.length i]++ [opN 6 dl (l.length+1)],(l.length:Int)+2):=by unfold bq;rw[o];rfl
  rw[eq] at hL ⊢;rw[za5,za5,za5] at hL;refine UDK.at (by show 0<=(l.length:Int)+2;omega) λhn=> ?_;show HasU (T ((l.length:Int)+2).toNat) _ _;replace hn:need ((l.length:Int)+2).toNat=true:=hn;rw[uH] at hn ⊢
  exact(S.div (k:=l.length+2) (a:=dl) (b:=l.length+1) (by rw[hL];exact aE l _ 2) hn (λn=>((hl.yes hdl).2 n).1)
   (λn=>by rw[ns] at n ⊢;exact(S.mul (k:=l.length+1) (a:=l.length) (b:=i) (by rw[hL];exact aE l _ 1) n
     (λn=>by rw[eB] at n ⊢;exact(S.pure (n:=2) (by rw[hL];exact aE l _ 0) n).1) (λn=>by rw[eB] at n ⊢;exact hWi n)).1)).congr (λk=>by rw[r1];grind) (by rw[r2,r3];omega)
end
variable {inp:ze2} {T T':Nat->Un} {x:Nd}
theorem aaT (h: ¬(3<=x.op/\x.op<=8)):aar inp T x=aar inp T' x:=by
 unfold aar;rw[zdE (show x.op≠3 by omega),zdE (show x.op≠4 by omega),zdE (show x.op≠5 by omega),zdE (show x.op≠6 by omega),zdE (show x.op≠7 by omega),zdE (show x.op≠8 by omega)];rfl
theorem aa1 {L:ze3} {last:Int} {U:Nat->Un} (hl: ∀j,j<L.length->VN j (mb noN L j)=true) (h0:0<=last) (h1:last<L.length) (hU: ∀j,j<(cG L last).length->aar inp U (mb noN (cG L last) j)=(U j,0)):
 ∃T,SolU L (bX L last) inp T/\bX L last last.toNat=true/\T last.toNat=U ((cG L last).length - 1):=by
 obtain⟨n1,n2⟩:=nj hl h0 h1;have hs: ∀k,k<L.length->bX L last k=true-> ∀s∈VW (mb noN L k),s.toNat<k/\bX L last s.toNat=true:=λk hk hn s hs=>⟨by have:=bL (hl k hk) s hs;omega,(n2 k hn).2 s hs⟩;obtain⟨k1,k2⟩:=nz hs L 0 [] (λ_=>0) (by simp) (by simp) rfl (λk hk=>by omega) (λk hk=>by omega);have hle: ∀k,bX L last k=true->k<=last.toNat:=λk hk=>by
  rcases zx hl L.length (λ_=>false) last k h0 h1 hk with h|h
  ·cases h
  ·omega
 have hc:=I6 (n:=L.length) (by omega) n1 hle;refine⟨λk=>U (cnt (bX L last) k),⟨λk hk=>n2 k hk,λk hk=> ?_⟩,n1, ?_⟩
 ·have hkl:=(n2 k hk).1;have hlt:=I5 (need:=bX L last) hkl hk;have:=hU (cnt (bX L last) k) (by show _<(keepL (bX L last) L 0 [] (λ_=>0)).length;rw[k1];exact hlt);rw[<-this];show _=aar inp U (mb noN (keepL (bX L last) L 0 [] (λ_=>0)) (cnt (bX L last) k));rw[k2 k hkl hk];rcases fP (λe=>(cnt (bX L last) e:Int)) (mb noN L k) with ⟨a,b,e⟩|⟨a,e⟩|⟨a,e⟩
  ·rw[e];unfold aar;simp only[eB]
  ·rw[e];unfold aar;simp only[eB];rw[zdE (show (mb noN L k).op≠3 by omega),zdE (show (mb noN L k).op≠4 by omega),zdE (show (mb noN L k).op≠5 by omega),zdE (show (mb noN L k).op≠6 by omega)];rfl
  ·rw[e];exact aaT (by omega)
 ·show U (cnt (bX L last) last.toNat)=U ((keepL (bX L last) L 0 [] (λ_=>0)).length - 1);rw[k1,hc,Nat.add_sub_cancel]
theorem aaM {inp:ze2}: ∀{l:ze3} {us vs:ze2},iB inp l us=(vs,true)->vs.length=us.length+l.length/\us<+:vs/\ ∀j,j<l.length->mn inp (vs.take (us.length+j)) (mb noN l j)=some (mb noU vs (us.length+j))
 | [],us,vs,h=>by
   simp only[iB,zag,and_true] at h;subst h;exact⟨rfl,zaW _,λj hj=>absurd hj (zbo j)⟩
 |x::r,us,vs,h=>by
  simp only[iB] at h;cases e:mn inp us x with
  |none=>rw[e] at h;simp only[zag] at h;cases h.2
  |some u=>
   rw[e] at h;obtain⟨h1,h2,h3⟩:=aaM h;have hp:us<+:vs:=(List.prefix_append us [u]).trans h2;refine⟨by rw[h1];simp;omega,hp,λj hj=> ?_⟩;cases j with
   |zero=>
    obtain⟨t,rfl⟩:=h2;rw[zaZ,za5,List.take_left];show mn inp us x=_;rw[e]
    congr 1
    exact(bR (by rw[zbZ (za0 _),zaJ];rfl)).symm
   |succ j=>
    have:=h3 j (by simpa using hj);simp only[za3,za6] at this;rw[show us.length+(j+1)=us.length+1+j by omega];exact this
theorem Xl {α:Type} {d:α}: ∀{l:List α} {n e:Nat},e<n->mb d (l.take n) e=mb d l e
 | [],n,e,_=>by simp
 |x::r,0,e,h=>by omega
 |x::r,n+1,0,_=>rfl
 |x::r,n+1,e+1,h=>Xl (l:=r) (by omega)
theorem aa2 {us:ze2} {j:Nat} {u:Un} (hj:j<=us.length) (h:mn inp (us.take j) x=some u) (hs:VN j x=true):aar inp (mb noU us) x=(u,0):=by
 have hm:=bL hs;obtain⟨t1,t2,t3⟩:=vN h;have hu:fL inp (us.take j) x=(u,0):=zc9 t3 t2
 have L:3<=x.op->x.op<=8->mb noU (us.take j) x.l.toNat=mb noU us x.l.toNat:=λa b=>Xl (by
  by_cases c:x.op<=6
  ·have:=hm x.l (by rw[aQ a c];simp);omega
  ·have:=hm x.l (by rw[bF (by omega)];simp);omega)
 have R:3<=x.op->x.op<=6->mb noU (us.take j) x.r.toNat=mb noU us x.r.toNat:=λa b=>Xl (by
  have:=hm x.r (by rw[aQ a b];simp);omega)
 unfold fL at hu;unfold aar;by_cases o1:x.op=1
 ·rw[o1] at hu ⊢;replace hu:(bif rV x.v&&VK x.u then(x.u,(0:Int)) else(noU,90))=(u,0):=hu;show (x.u,(0:Int))=_;cases hb:rV x.v&&VK x.u with
  |true=>rw[hb] at hu;exact hu
  |false=>rw[hb] at hu;simp at hu
 rw[zdE o1,zdy] at hu;by_cases o2:x.op=2
 ·rw[o2] at hu ⊢;replace hu:(bif decide (0<=x.n)&&decide (x.n<(inp.length:Int)) then(mb noU inp x.n.toNat,(0:Int)) else(noU,90))=(u,0):=hu;show (mb noU inp x.n.toNat,(0:Int))=_;cases hb:decide (0<=x.n)&&decide (x.n<(inp.length:Int)) with
  |true=>rw[hb] at hu;exact hu
  |false=>rw[hb] at hu;simp at hu
 rw[zdE o2,zdy] at hu ⊢;by_cases o8:3<=x.op/\x.op<=8
 ·rw[L o8.1 o8.2] at hu;by_cases o6:x.op<=6
  ·rw[R o8.1 o6] at hu;rcases(show x.op=3\/x.op=4\/x.op=5\/x.op=6 by omega) with o|o|o|o<;>(rw[o] at hu ⊢;exact hu)
  ·rcases(show x.op=7\/x.op=8 by omega) with o|o
   ·rw[o] at hu ⊢;replace hu:(bif x.n==0||decide (x.n< -4)||decide (x.n>4) then(noU,(90:Int)) else jm (mb noU us x.l.toNat) (x.n,1))=(u,0):=hu;show jm (mb noU us x.l.toNat) (x.n,1)=_;cases hb:x.n==0||decide (x.n< -4)||decide (x.n>4) with
    |true=>rw[hb] at hu;simp at hu
    |false=>rw[hb] at hu;exact hu
   ·rw[o] at hu ⊢;exact hu
 ·rw[zdE (show x.op≠3 by omega),zdE (show x.op≠4 by omega),zdE (show x.op≠5 by omega),zdE (show x.op≠6 by omega),zdE (show x.op≠7 by omega),zdE (show x.op≠8 by omega)] at hu;simp at hu
theorem aaU (hx: ∀s∈VW x,T s.toNat=T' s.toNat):aar inp T x=aar inp T' x:=by
 by_cases h:3<=x.op/\x.op<=8
 ·by_cases h6:x.op<=6
  ·unfold aar;rw[hx x.l (by rw[aQ h.1 h6];simp),hx x.r (by rw[aQ h.1 h6];simp)]
  ·unfold aar;rw[hx x.l (by rw[bF (by omega)];simp),zdE (show x.op≠3 by omega),zdE (show x.op≠4 by omega),zdE (show x.op≠5 by omega),zdE (show x.op≠6 by omega)];rfl
 ·exact aaT h
section
variable {L:ze3} {need:zdV} {inp:ze2} {T:Nat->Un}
theorem aaV (S:SolU L need inp T) {ni:Nat} {nod:ze3} {us:Nat->Un} (hN: ∀j,j<nod.length->NodeOK ni j (mb noN nod j)) (hW: ∀j,j<nod.length->aar inp us (mb noN nod j)=(us j,0)) (hL:nod<+:L): ∀j,j<nod.length->need j=true->T j=us j:=by
 intro j
 induction j using Nat.strongRecOn with
 |ind j ih=>
  intro hj hn;have hx:mb noN L j=mb noN nod j:=by
   obtain⟨m,rfl⟩:=hL;exact bR (by rw[zbC hj];exact Co hj)
  have e1:=S.ev j hn;have e2:=hW j hj;rw[hx] at e1;have hc:=(S.cl j hn).2;rw[hx] at hc;have ok:=hN j hj;have:aar inp T (mb noN nod j)=aar inp us (mb noN nod j):=aaU λs hs=>by
   have:0<=s/\s<j:=by
    have:=ok.nodeIn;unfold nodeIn at this;rw[za2] at this;exact bL this.1 s hs
   exact ih s.toNat (by omega) (by omega) (hc s hs)
  rw[e1,e2] at this;exact congrArg Prod.fst this
theorem rX (S:SolU L need inp T) {ni:Nat} {input:Int} {nod:ze3} {E:Nat->Nat->Rat} {Z:Nat->Int} {w:Nat->Rat} {ζ:Int} (hN: ∀j,j<nod.length->NodeOK ni j (mb noN nod j))
 (hR: ∀j,j<nod.length->relU (mb noN nod j) (E j) (E (mb noN nod j).l.toNat) (E (mb noN nod j).r.toNat) (Z j) (Z (mb noN nod j).l.toNat) (Z (mb noN nod j).r.toNat))
 (hT: ∀j,j<nod.length->need j=true->HasP (T j) (E j) (Z j)) (hI: ∀j,j<nod.length->(mb noN nod j).op=2->(mb noN nod j).n=input->(∀k,E j k=w k)/\Z j=ζ):
 ∀(r l:ze3) (d:List Int),r=nod.drop d.length->d.length+r.length=nod.length->(aN input r d.length l d).1<+:L->(∀j,j<d.length->UDK need T (mb 0 d j) (λk=>E j k - w k) (Z j - ζ))-> ∀j,j<nod.length->UDK need T (mb 0 (aN input r d.length l d).2 j) (λk=>E j k - w k) (Z j - ζ)
 | [],l,d,_,hlen,_,hd=>λj hj=>hd j (by simp only[za9] at hlen;omega)
 |x::r,l,d,hr,hlen,hL,hd=>by
  simp only[za4] at hlen;have hx:mb noN nod d.length=x:=bR (by rw[<-zce,<-hr];rfl);have hr':r=nod.drop (d.length+1):=by rw[<-zcf,<-hr];rfl
  have e:((d++ [(stepF input d.length x (dlF x d) (drF x d) l).2]).length:Int)=(d.length:Int)+1:=by simp
  have e':(d++ [(stepF input d.length x (dlF x d) (drF x d) l).2]).length=d.length+1:=by simp
  have ok:=hN d.length (by omega);have hrel:=hR d.length (by omega);have hin:=hI d.length (by omega);rw[hx] at ok hrel hin;unfold aN at hL ⊢;have hpre:=(lC input r ((d.length:Int)+1) (stepF input d.length x (dlF x d) (drF x d) l).1 (d++ [(stepF input d.length x (dlF x d) (drF x d) l).2])).trans hL;have key:UDK need T (stepF input d.length x (dlF x d) (drF x d) l).2 (λk=>E d.length k - w k) (Z d.length - ζ):=by
   have hl:3<=x.op/\x.op<=8->UDK need T (dlF x d) (λk=>E x.l.toNat k - w k) (Z x.l.toNat - ζ):=λh=>by
    have:=ok.left h.1;rw[OU h];exact hd _ (by omega)
   have hr:3<=x.op/\x.op<=6->UDK need T (drF x d) (λk=>E x.r.toNat k - w k) (Z x.r.toNat - ζ):=λh=>by
    have:=ok.right h.1 h.2;rw[OV h];exact hd _ (by omega)
   unfold stepF at hpre ⊢;cases h1:x.op==2&&x.n==input with
   |true=>
    rw[h1] at hpre;simp only[za2,zdG] at h1;obtain⟨i1,i2⟩:=hin h1.1 h1.2;obtain⟨m,hm⟩:=hpre;replace hm:l++ [pureF 1]++m=L:=hm;refine UDK.at (by show 0<=(l.length:Int);omega) λhn=> ?_;show HasU (T ((l.length:Int)).toNat) _ _;replace hn:need ((l.length:Int)).toNat=true:=hn;rw[eB] at hn ⊢;exact(S.pure (n:=1) (by rw[<-hm,za5];exact aE l _ 0) hn).congr (λk=>by rw[i1];grind) (by rw[i2];omega)
   |false=>
    cases h2:dlF x d== -1&&drF x d== -1 with
    |true=>exact⟨λh=>absurd rfl h⟩
    |false=>
     have hno: ¬(dlF x d= -1/\drF x d= -1):=λ⟨a,b⟩=>by rw[a,b] at h2;simp at h2
     have hop:3<=x.op/\x.op<=8:=by
      apply Classical.byContradiction;intro h;exact hno ⟨OW h d,SN (λk=>h (by omega)) d⟩
     rw[h1,h2] at hpre;obtain⟨m,hm⟩:=hpre;have hL1:=ok.left hop.1;exact aaY S (m:=m) hm.symm (λh=>hT _ (by omega) h) (λh6 h=>hT _ (by have:=ok.right hop.1 h6;omega) h) (λh=>hT _ (by omega) h) hrel (hl hop) (λh=>hr ⟨hop.1,h⟩) hop (λh=>SN (by omega) d) hno (λo=>by have:=ok.pow o;omega)
  have:=rX S hN hR hT hI r (stepF input d.length x (dlF x d) (drF x d) l).1 (d++ [(stepF input d.length x (dlF x d) (drF x d) l).2]) (by rw[e'];exact hr') (by rw[e'];omega) (by rw[e];exact hL) (λj hj=>by
   rw[aS];by_cases k:j=d.length
   ·rw[if_pos k,k];exact key
   ·rw[if_neg k];exact hd j (by omega))
  rw[e] at this;exact this
end
variable {u:Un} {e:Nat->Rat} {z:Int}
theorem HasP.own (h:HasP u e z):HasP u (eD u.d) z:=⟨h.valid,h.k,λ_=>rfl,h.z⟩
variable {x:Nd} {e' el er:Nat->Rat} {z' zl zr:Int}
theorem relU.to (he: ∀i,e i=e' i) (hz:z=z') (h:relU x e el er z zl zr):relU x e' el er z' zl zr:=by
 subst hz;obtain⟨h1,h2,h3,h4,h5⟩:=h;exact⟨λo=>⟨λi=>(he i).symm.trans ((h1 o).1 i),λi=>(he i).symm.trans ((h1 o).2.1 i),(h1 o).2.2⟩,λo=>⟨λi=>(he i).symm.trans ((h2 o).1 i),(h2 o).2⟩,λo=>⟨λi=>(he i).symm.trans ((h3 o).1 i),(h3 o).2⟩,λo=>⟨λi=>(he i).symm.trans ((h4 o).1 i),(h4 o).2⟩,λo=>⟨λi=>(he i).symm.trans ((h5 o).1 i),(h5 o).2⟩⟩
variable {inp:ze2} {T:Nat->Un}
theorem aaP (h:aar inp T x=(u,0)) (hop:3<=x.op/\x.op<=8) (hl:HasP (T x.l.toNat) el zl) (hr:x.op<=6->HasP (T x.r.toNat) er zr) (hb:x.op=7->x.n≠0/\ -4<=x.n/\x.n<=4): ∃e z,HasP u e z/\relU x e el er z zl zr:=by
 unfold aar at h;rcases(show x.op=3\/x.op=4\/x.op=5\/x.op=6\/x.op=7\/x.op=8 by omega) with o|o|o|o|o|o
 ·rw[o] at h;replace h:iS (T x.l.toNat) (T x.r.toNat)=(u,0):=h;obtain⟨a,b,c,_⟩:=aaZ hl (hr (by omega)) (by rw[h]);rw[h] at a;exact⟨_,_,a,λ_=>⟨λ_=>rfl,b,rfl,c⟩,λk=>by omega,λk=>by omega,λk=>by omega,λk=>by omega⟩
 ·rw[o] at h;replace h:fw (T x.l.toNat) (T x.r.toNat)=(u,0):=h;obtain⟨a,b,c,_⟩:=Z4 hl (hr (by omega)) (by rw[h]);rw[h] at a;exact⟨_,_,a,λ_=>⟨λ_=>rfl,b,rfl,c⟩,λk=>by omega,λk=>by omega,λk=>by omega,λk=>by omega⟩
 ·rw[o] at h;replace h:mi (T x.l.toNat) (T x.r.toNat)=(u,0):=h;obtain⟨a,_⟩:=aaj hl (hr (by omega)) (by rw[h]);rw[h] at a;exact⟨_,_,a,λk=>by omega,λ_=>⟨λ_=>rfl,rfl⟩,λk=>by omega,λk=>by omega,λk=>by omega⟩
 ·rw[o] at h;replace h:fd (T x.l.toNat) (T x.r.toNat)=(u,0):=h;obtain⟨a,_⟩:=aak hl (hr (by omega)) (by rw[h]);rw[h] at a;exact⟨_,_,a,λk=>by omega,λk=>by omega,λ_=>⟨λ_=>rfl,rfl⟩,λk=>by omega,λk=>by omega⟩
 ·rw[o] at h;replace h:jm (T x.l.toNat) (x.n,1)=(u,0):=h;obtain⟨a,_⟩:=aal hl (hb o) (by rw[h]);rw[h] at a;exact⟨_,_,a,λk=>by omega,λk=>by omega,λk=>by omega,λ_=>⟨λ_=>rfl,rfl⟩,λk=>by omega⟩
 ·rw[o] at h;replace h:jm (T x.l.toNat) (1,2)=(u,0):=h;obtain⟨a,_,_,b⟩:=aa4 hl (by rw[h]);rw[h] at a;exact⟨_,_,a,λk=>by omega,λk=>by omega,λk=>by omega,λk=>by omega,λ_=>⟨λ_=>rfl,rfl,b⟩⟩
def aaC (u:Un):Prop:= ∃z,HasP u (eD u.d) z
theorem abf {ni:Nat} {nod:ze3} (hN: ∀j,j<nod.length->NodeOK ni j (mb noN nod j)) (hW: ∀j,j<nod.length->aar inp T (mb noN nod j)=(T j,0)) (hi: ∀n,0<=n->n<(ni:Int)->aaC (mb noU inp n.toNat)) (hc: ∀j,j<nod.length->(mb noN nod j).op=1->aaC (mb noN nod j).u):
 ∀j,j<nod.length->aaC (T j):=by
 intro j
 induction j using Nat.strongRecOn with
 |ind j ih=>
  intro hj;have ok:=hN j hj;have h:=hW j hj;by_cases o8:3<=(mb noN nod j).op
  ·have hop:=ok.op;obtain⟨zl,hl⟩:=ih (mb noN nod j).l.toNat (by have:=ok.left o8;omega) (by have:=ok.left o8;omega);by_cases o6:(mb noN nod j).op<=6
   ·obtain⟨zr,hr⟩:=ih (mb noN nod j).r.toNat (by have:=ok.right o8 o6;omega) (by have:=ok.right o8 o6;omega);obtain⟨e,z,h1,_⟩:=aaP h ⟨o8,hop.2⟩ hl (λ_=>hr) (λo=>by have:=ok.pow o;omega);exact⟨z,h1.own⟩
   ·obtain⟨e,z,h1,_⟩:=aaP (er:=λ_=>0) (zr:=0) h ⟨o8,hop.2⟩ hl (λk=>absurd k o6) (λo=>by have:=ok.pow o;omega);exact⟨z,h1.own⟩
  ·have hop:=ok.op;rcases(show (mb noN nod j).op=1\/(mb noN nod j).op=2 by omega) with o|o
   ·have hc:=hc j hj o;unfold aar at h;rw[o] at h;replace h:((mb noN nod j).u,(0:Int))=(T j,0):=h;simp only[zag,and_true] at h;rw[<-h];exact hc
   ·have:=ok.inp o;have hc:=hi _ this.1 this.2;unfold aar at h;rw[o] at h;replace h:(mb noU inp (mb noN nod j).n.toNat,(0:Int))=(T j,0):=h;simp only[zag,and_true] at h;rw[<-h];exact hc
theorem Yz {s:Int} {a b:D7} (ha:Ye a) (hb:Ye b):Ye (ku (kw s) a b):=by
 obtain⟨a0,a1,a2,a3,a4,a5,a6⟩:=ha;obtain⟨b0,b1,b2,b3,b4,b5,b6⟩:=hb;exact⟨XG (zaU a0.1 b0.1),XG (zaU a1.1 b1.1),XG (zaU a2.1 b2.1),XG (zaU a3.1 b3.1),XG (zaU a4.1 b4.1),XG (zaU a5.1 b5.1),XG (zaU a6.1 b6.1)⟩
theorem xl {a:RS} (h:rV a=true) (hq:qV a=th z):(0<=z->nS a.1=1000^z.toNat/\nS a.2=1)/\(z<0->nS a.1=1/\nS a.2=1000^(-z).toNat):=by
 obtain⟨_,_,hd,hg⟩:=ay h;unfold qV th at hq;have one: ∀{k:Int},k ∣ nS a.1->k ∣ nS a.2->0<k->k=1:=λ{k} h1 h2 h0=>by
  have:=Int.dvd_coe_gcd h1 h2;rw[hg] at this;exact Int.eq_one_of_dvd_one (by omega) this
 refine⟨λhz=> ?_,λhz=> ?_⟩
 ·have e:(1000:Rat)^z=Rat.divInt (1000^z.toNat) 1:=by
   obtain⟨n,rfl⟩: ∃n:Nat,z=n:=⟨z.toNat,by omega⟩;rw[Rat.zpow_natCast,zd7,zd9];simp
   grind
  rw[e,Rat.divInt_eq_divInt_iff (by omega) (by decide),Int.mul_one] at hq;have h2:nS a.2=1:=one ⟨_,by rw[hq,Int.mul_comm]⟩ (Int.dvd_refl _) hd;rw[h2,Int.mul_one] at hq;exact⟨hq,h2⟩
 ·have p:(0:Int)<1000^(-z).toNat:=Int.pow_pos (by decide);have e:(1000:Rat)^z=Rat.divInt 1 (1000^(-z).toNat):=by
   have:(1000:Rat)^z=((1000:Rat)^((-z).toNat:Nat))⁻¹ :=by
    rw[<-Rat.zpow_natCast,<-Rat.zpow_neg]
    congr 1
    omega
   rw[this,zd7];simp
   grind
  rw[e,Rat.divInt_eq_divInt_iff (by omega) (by omega),Int.one_mul] at hq;have h0:0<nS a.1:=by
   apply Classical.byContradiction;intro hc;have:nS a.1*1000^(-z).toNat<=0:=Int.mul_nonpos_of_nonpos_of_nonneg (by omega) (by omega);omega
  have h1:nS a.1=1:=one (Int.dvd_refl _) ⟨_,hq.symm⟩ h0;rw[h1,Int.one_mul] at hq;exact⟨h1,hq.symm⟩
theorem aba {a b:Un} (ha:HasP a e z) (hb:HasP b e' z') (sa:a.s≠0) (sb:b.s≠0) (hu:HasP u (λi=>e i - e' i) (z - z')) (hz:z'=0\/z'= -1):(fd a b).2=0:=by
 have d1:ku (kw (-1)) a.d b.d=u.d:=Za (Yz ha.red hb.red) hu.red λi=>by
  rw[Yy ha.red hb.red,ha.e,hb.e,hu.e];simp;grind
 have hf:pr (ku (kw (-1)) a.d b.d)=true:=by rw[d1];exact(WE.1 hu.valid).1
 obtain⟨a1,a2⟩:=xl ha.rv ha.z;obtain⟨b1,b2⟩:=xl hb.rv hb.z;obtain⟨u1,u2⟩:=xl hu.rv hu.z;obtain⟨va1,va2,_,_⟩:=ay ha.rv;obtain⟨vu1,_,_,_⟩:=ay hu.rv;have lu:=br vu1;have la:=br va1;have la2:=br va2;have hb1:nS b.f.1=1:=by
  rcases hz with h|h
  ·have:=(b1 (by omega)).1;rw[h] at this;exact this
  ·exact(b2 (by omega)).1
 have hr:(cA a.f b.f).2=0:=by
  refine J5 ha.rv hb.rv (by omega) ?_ (by rw[hb1,Int.mul_one];exact V1.2 la2);rcases hz with h|h
  ·rw[(b1 (by omega)).2,Int.mul_one];exact V1.2 la
  ·have hb2:nS b.f.2=1000:=by have:=(b2 (by omega)).2;rw[h] at this;exact this
   rw[hb2];rcases Int.lt_or_le z 0 with hz0|hz0
   ·rw[(a2 hz0).1];decide
   ·rw[(a1 hz0).1];have:=(u1 (by omega)).1;rw[show (z - z').toNat=z.toNat+1 by omega,Int.pow_succ] at this;rw[<-this];exact V1.2 lu
 unfold fd;rw[Xh.2 ⟨ha.valid,sa⟩,Xh.2 ⟨hb.valid,sb⟩];simp only[zbi,Bool.or_self,zdy];unfold qi;rw[(XH _).1,hf,hr];rfl
def HasM (u:Un):Prop:= ∃z:Int,(z=0\/z= -1)/\HasP u (eD u.d) z
theorem HasM.k (h:HasM u):aaC u:=by obtain⟨z,_,h⟩:=h;exact⟨z,h⟩
variable {p:Pr}
theorem aaN (hv:VM p=true): ∃us:ze2,us.length=p.nod.length/\ly us=p.out/\ ∀j,j<p.nod.length->aar p.inp (mb noU us) (mb noN p.nod j)=(mb noU us j,0):=by
 have hc:(VJ p).2.2=0:=by unfold VM at hv;simpa using hv
 obtain⟨h1,h2,_⟩:=Fq hc;obtain⟨l,_,t⟩:=aaM h1;rw[za9,za7] at l;refine⟨(VJ p).1,l,Wh.1 h2,λj hj=> ?_⟩;have:=t j hj;rw[za9,za7] at this;have ok:=((bQ hv).2 j hj).nodeIn;unfold nodeIn at ok;rw[za2] at ok;exact aa2 (by omega) this ok.1
theorem aa5 {d:Pr} {input:Int} (hs:cw p=true) (hd:aG p input=(d,0)) (hi: ∀u∈p.inp,HasM u) (hc: ∀x∈p.nod,x.op=1->aaC x.u):
 (fw p.out p.out).2=0/\(fw (mb noU p.inp input.toNat) (mb noU p.inp input.toNat)).2=0/\(fd (bB p.out) (bB (mb noU p.inp input.toNat))).2=0/\d.out=(fd (bB p.out) (bB (mb noU p.inp input.toNat))).1:=by
 obtain⟨hv,h0,h1,hn⟩:=nC hd;obtain⟨b1,b2,b3⟩:=cV hv;obtain⟨us,ul,uo,uW⟩:=aaN hv;have hN:=(bQ hv).2;have hvd:VM d=true/\d.inp=p.inp:=by
  rcases kg p input with e|⟨_,_,_,_,e1,e2,_⟩
  ·rw[hd] at e;cases e
  ·rw[hd] at e1 e2;exact⟨e1,e2⟩
 obtain⟨vs,vl,vo,vW⟩:=aaN hvd.1;obtain⟨c1,c2,c3⟩:=cV hvd.1;have hK: ∀j,j<p.nod.length->aaC (mb noU us j):=abf hN uW (λn n0 n1=>(hi _ (bw (by omega))).k) (λj hj o=>hc _ (bw hj) o);have hI:HasM (mb noU p.inp input.toNat):=hi _ (bw (by omega));obtain⟨ζ,hζ,hin⟩:=hI;have hlast:mb noU us (p.nod.length - 1)=p.out:=by rw[<-uo,<-ul];rfl
 obtain⟨zo,ho⟩:=hK (p.nod.length - 1) (by omega);rw[hlast] at ho;obtain⟨po,so⟩:=aaL ho;obtain⟨pi,si⟩:=aaL hin;refine⟨by rw[ou ho.valid],by rw[ou hin.valid], ?_⟩;rcases hn with ⟨hne,hq⟩|⟨he,hq⟩
 ·have D:=IX hv hs input;have hlr:=(D.d _ (bw (d:=0) (l:=(aN input p.nod 0 p.nod []).2) (e:=p.nod.length - 1) (by rw[D.len];omega))).resolve_left hne;have hvW: ∀j,j<d.nod.length->aar p.inp (mb noU vs) (mb noN d.nod j)=(mb noU vs j,0):=by rw[<-hvd.2];exact vW
  rw[hq] at hvW
  obtain⟨T,S,n1,e⟩:=aa1 (λj hj=>by
   have:=(D.gl j hj).1;unfold nodeIn at this;rw[za2] at this
   exact this.1) hlr.1 hlr.2 hvW
  have hTu:=aaV S hN uW (lC input p.nod 0 p.nod []);have hZ: ∀j,∃z:Int,j<p.nod.length->HasP (mb noU us j) (eD (mb noU us j).d) z:=λj=>by
   by_cases h:j<p.nod.length
   ·obtain⟨z,hz⟩:=hK j h;exact⟨z,λ_=>hz⟩
   ·exact⟨0,λk=>absurd k h⟩
  obtain⟨Z,hZ⟩:=Classical.axiomOfChoice hZ;have hR: ∀j,j<p.nod.length->relU (mb noN p.nod j) (eD (mb noU us j).d) (eD (mb noU us (mb noN p.nod j).l.toNat).d) (eD (mb noU us (mb noN p.nod j).r.toNat).d) (Z j) (Z (mb noN p.nod j).l.toNat) (Z (mb noN p.nod j).r.toNat):=λj hj=>by
   have ok:=hN j hj;by_cases o3:3<=(mb noN p.nod j).op
   ·obtain⟨e,z,q1,q2⟩:=aaP (uW j hj) ⟨o3,ok.op.2⟩ (hZ _ (by have:=ok.left o3;omega)) (λo6=>hZ _ (by have:=ok.right o3 o6;omega)) (λo=>by have:=ok.pow o;omega);obtain⟨t1,t2⟩:=q1.det (hZ j hj);exact q2.to t1 t2
   ·exact⟨λo=>by omega,λo=>by omega,λo=>by omega,λo=>by omega,λo=>by omega⟩
  have hE:=rX S (E:=λj=>eD (mb noU us j).d) (Z:=Z) (w:=eD (mb noU p.inp input.toNat).d) (ζ:=ζ) hN hR (λj hj hnj=>by rw[hTu j hj hnj];exact hZ j hj) (λj hj o2 en=>by
   have hw:=uW j hj;unfold aar at hw;rw[o2] at hw;replace hw:(mb noU p.inp (mb noN p.nod j).n.toNat,(0:Int))=(mb noU us j,0):=hw;rw[en] at hw;simp only[zag,and_true] at hw;have hz:=hZ j hj;rw[<-hw] at hz ⊢
   exact⟨λ_=>rfl,(hz.det hin).2⟩) p.nod p.nod [] rfl (by simp) (zaW _) (λj hj=>by simp at hj) (p.nod.length - 1) (by omega)
  have hU:HasU (T (mb 0 (aN input p.nod 0 p.nod []).2 (p.nod.length - 1)).toNat) _ _:=(hE.yes hne).2 n1;rw[e] at hU;have hdo:mb noU vs ((cG (aN input p.nod 0 p.nod []).1 (mb 0 (aN input p.nod 0 p.nod []).2 (p.nod.length - 1))).length - 1)=d.out:=by
   rw[<-hq,<-vo,<-vl];rfl
  rw[hdo] at hU;have hzo:Z (p.nod.length - 1)=zo:=by
   have:=hZ (p.nod.length - 1) (by omega);rw[hlast] at this;exact(this.det ho).2
  have hU':HasU d.out (λi=>eD p.out.d i - eD (mb noU p.inp input.toNat).d i) (zo - ζ):=hU.congr (λk=>by rw[hlast]) (by rw[hzo]);have hdiv:=aba po pi so si hU'.1 hζ;obtain⟨g1,g2,_⟩:=aak po pi hdiv;exact⟨hdiv,hU'.1.same g1 hU'.2 g2⟩
 ·have hdv:(fd (bB p.out) (bB (mb noU p.inp input.toNat))).2=0:=by
   have h:=hd;unfold aG at h;rw[hv,zdA (by omega),zdA (by omega),he] at h;simp only[zbi,Bool.or_false,zdy,bne_self_eq_false] at h;cases hb:(fd (bB p.out) (bB (mb noU p.inp input.toNat))).2 !=0 with
   |true=>rw[hb] at h;cases h
   |false=>simpa using hb
  refine⟨hdv, ?_⟩;have hw:=vW 0 (by rw[hq];exact zbT);rw[hq] at hw;unfold aar at hw;replace hw:((fd (bB p.out) (bB (mb noU p.inp input.toNat))).1,(0:Int))=(mb noU vs 0,0):=hw;simp only[zag,and_true] at hw;rw[hw,<-vo];rw[hq] at vl;unfold ly;rw[vl];rfl
def abb:RS:=(⟨#[49]⟩,⟨#[49,48,48,48]⟩)
theorem aa6:qV abb=th (-1):=by
 have h:qV abb*th 1=1:=by
  have e1:qV abb=Rat.divInt 1 1000:=by kernel_rfl
  have e2:th 1=1000:=by unfold th;exact Rat.zpow_one 1000
  rw[e1,e2,zd7];grind
 have k:=YO (-1) 1;rw[show (-1:Int)+1=0 by decide,X6] at k;have:=aaq 1
 grind
theorem aaO (n:Int):HasM (BL n):=by
 have h:=RK (λu=>VK u&&u.k==0&&(eqR u.f rI||eqR u.f abb)) (by kernel_rfl) n;simp only[za2,zav,zdG,Wg] at h;obtain⟨⟨h1,h2⟩,h3|h3⟩:=h
 ·exact⟨0, .inl rfl,h1,h2,λ_=>rfl,by rw[h3,Zl,X6]⟩
 ·exact⟨-1, .inr rfl,h1,h2,λ_=>rfl,by rw[h3,aa6]⟩
theorem aaW {a:Int×Int×Int}: ∀{k:Nat},∀u∈QQ a k,HasM u
 |0,u,h=>by cases h
 |k+1,u,h=>by
  rcases za8.1 h with h|h
  ·exact aaW u h
  ·rw[zaj.1 h];exact aaO _
theorem aa7 {ni n:Int} {y:I4} (h:(RR ni n y).op=1):HasM (RR ni n y).u:=by
 unfold RR at h ⊢;cases h1:opF y==1 with
 |true=>exact aaO _
 |false=>
  exfalso;rw[h1] at h;have h1:opF y≠1:=by simpa using h1
  have B: ∀(b:Bool) (x z:Nd),x.op≠1->z.op≠1->(cond b x z).op≠1:=λb x z h k=>by cases b;exact k;exact h
  exact(B _ _ _ h1 (B _ _ _ h1 (B _ ⟨opF y,VI,noU,0,co y.2.1 n,0⟩ ⟨opF y,VI,noU,0,co y.2.1 n,co y.2.2.1 n⟩ h1 h1))) h
theorem aaX {ex:Bool} {inp:ze2}: ∀{xs:List I4} {z:List Nd×List Un},(∀x∈z.1,x.op=1->HasM x.u)-> ∀x∈(RT ex inp xs z).1,x.op=1->HasM x.u
 | [],z,h=>h
 |y::r,z,h=>by
  unfold RT;cases decide (z.1.length<14) with
  |false=>exact h
  |true=>
   refine aaX ?_;unfold TH;split
   ·cases !ex||opF y !=8 with
    |false=>exact h
    |true=>
     intro x hx;rcases za8.1 hx with hx|hx
     ·exact h x hx
     ·rw[zaj.1 hx];exact aa7
   ·exact h
theorem aa0: ∀{k:Nat},∀x∈R9 k,x.op=2
 |0,x,h=>by cases h
 |k+1,x,h=>by
  rcases za8.1 h with h|h
  ·exact aa0 x h
  ·rw[zaj.1 h];rfl
theorem aa3 {a:Int×Int×Int} {count:Int} {xs:List I4} {ex:Bool}:(∀u∈(Bd a count xs ex).inp,HasM u)/\ ∀x∈(Bd a count xs ex).nod,x.op=1->aaC x.u:=
 ⟨aaW,λx hx o=>(aaX (λx hx o=>by have:=aa0 x hx;omega) x hx o).k⟩
def abd (I:Int->Prop) (N:Int):zdY:=λf k=>bif Nat.beq f 3&&Nat.beq k 13 then some (λA=>{X:=Int,inv:=I,tm:=λx=> [(15, .val (.int .i64 x))],mu:=λx=>(N - x).toNat,keep:= [5,6,7]}) else none
abbrev abe (I:Int->Prop) (N:Int) (c:Cas) (i:Int) (Q:zdW):Prop:=JL SS (abd I N) 8 3 [Rs c c.x.length,cI.enc i] (ST c) (Go.Sy.okK λr _ _ _=>Q r)
section
variable (I:Int->Prop) (N:Int) (c:Cas) (p:Pr) (i:Int) (Q:zdW)
def duK:Int:=co i p.inp.length
def duD:Pr×Int:=aG (dm p) (duK p i)
def duA:Un:=mb noU p.inp (0+(duK p i).toNat)
def duM (q x:Int):Prop:=(TV.v (cI.enc q)=TV.v (cI.enc x)/\tvE (cB.enc true)/\cg 18/\cg 33/\True)/\(True/\(True/\True))
def abc:Un×Int:=fd (fw p.out p.out).1 (fw (duA p i) (duA p i)).1
def abg:Prop:= ∃x0:Int,I x0/\(duM 0 x0/\ ∀x:Int,I x->ag (decide (x<(p.inp.length:Int)))
 (eO (duD p i).1.inp.length x (eO p.inp.length x (ag (!eqU (mb noU (duD p i).1.inp (0+x.toNat)) (mb noU p.inp (0+x.toNat))) (Q (cB.enc false)) (af (inR .i64 (x+1)) (∃x':Int,I x'/\((N - x').toNat<(N - x).toNat/\duM (x+1) x'))))))
 (Q (cB.enc true)))
def duT:Prop:=
 nd1 (Sl c) (af (Tt i p.inp.length) (nd1 (jn p) (ag ((duD p i).2 !=0) (Q (cB.enc (bif (duD p i).2==100 then((duD p i).1.nod.length:Int)==0 else false)))
  (af (aH p.out&&aH p.out) (eO p.inp.length (duK p i) (eO p.inp.length (duK p i) (af (aH (duA p i)&&aH (duA p i)) (af (aH (fw p.out p.out).1&&aH (fw (duA p i) (duA p i)).1)
    (ag (bif (bif (fw p.out p.out).2 !=0 then true else(fw (duA p i) (duA p i)).2 !=0) then true else(abc p i).2 !=0) (Q (cB.enc false))
    (nd1 (jn (duD p i).1) (ag (bif (bif (bif (!VM (dm (duD p i).1)) then true else !eqU (duD p i).1.out (abc p i).1) then true else((duD p i).1.inp.length:Int) !=(p.inp.length:Int)) then true else(duD p i).1.id !=p.id) (Q (cB.enc false)) (abg I N p i Q))))))))))))
end
theorem aa8 (I:Int->Prop) (N:Int) (c:Cas) (i:Int) (Q:zdW):abe I N c i Q=(Unit->True->duT I N c (Rp c c.e) i Q):=by kernel_rfl
def duJ (p:Pr) (x:Int):Prop:=0<=x/\x<=p.inp.length
theorem aa9 {c:Cas} {i:Int} {Q:zdW} (h:CasOK c) (hi:uInt i=true) (hQ:Q (cB.enc true)):duT (duJ (Rp c c.e)) (Rp c c.e).inp.length c (Rp c c.e) i Q:=by
 have l:=Ry (c:=c) (ex:=c.e);have hs:=SA (c:=c) (ex:=c.e);have hn:=RM (c:=c) (ex:=c.e);have hu:(∀u∈(Rp c c.e).inp,HasM u)/\ ∀x∈(Rp c c.e).nod,x.op=1->aaC x.u:=by rw[RY];exact aa3
 generalize Rp c c.e=p at*
 have b:=gR i (n:=(p.inp.length:Int)) (by omega);have b0:0<=duK p i:=b.1;have b1:duK p i<p.inp.length:=b.2;have hs':=hs;unfold cw at hs';simp only[za2,zaf] at hs';have hso:aH p.out=true:=hs'.2;have hsa:aH (duA p i)=true:=eH hs'.1.1 _;have dz: ∀{u:Un},aH u=true->aH (fw u u).1=true:=λ{u} hu=>oD hu;unfold duT;refine Q0 (SL h) (Ti hi (by omega) (Q0 hn (ah (λhe=> ?_) (λhe=> ?_))))
 ·have:duD p i=(zP,100):=by
   unfold duD at he ⊢;rw[fN] at he ⊢;rcases kg p (duK p i) with e|⟨e,_⟩
   ·exact e
   ·rw[e] at he;cases he
  rw[this];exact hQ
 have he:(duD p i).2=0:=by simpa using he
 have hD:aG p (duK p i)=((duD p i).1,0):=by
  unfold duD at he ⊢;rw[fN] at he ⊢;exact zc9 rfl he
 obtain⟨q1,q2,q3,q4⟩:=aa5 hs hD hu.1 hu.2;have hA:duA p i=mb noU p.inp (duK p i).toNat:=by unfold duA;rw[za7]
 have facts:VM (duD p i).1=true/\(duD p i).1.inp=p.inp/\(duD p i).1.id=p.id:=by
  rcases kg p (duK p i) with e|⟨_,_,_,_,e1,e2,e3⟩
  ·rw[hD] at e;exact absurd (congrArg Prod.snd e) (show ¬(0:Int)=100 by decide)
  ·rw[hD] at e1 e2 e3;exact⟨e1,e2,e3⟩
 obtain⟨v1,v2,v3⟩:=facts;have hq:abc p i=fd (bB p.out) (bB (mb noU p.inp (duK p i).toNat)):=by unfold abc;rw[hA];rfl
 have nd:jn (duD p i).1=true:=by have:=Rl (i:=duK p i) hs;rw[hD] at this;exact this
 refine ac (by rw[hso];rfl) (aY b0 b1 (aY b0 b1 (ac (by rw[hsa];rfl) (ac (by rw[dz hso,dz hsa];rfl) (ah (λhb=> ?_) (λ_=>Q0 nd (ah (λhb=> ?_) (λ_=> ?_))))))))
 ·exfalso;rw[q1,hA,q2,hq,q3] at hb;cases hb
 ·exfalso;rw[fN,v1,q4,hq,v2,v3,Wh.2 rfl] at hb;simp at hb
 ·refine⟨0,⟨zat _,by omega⟩,⟨⟨rfl,rfl,rfl,rfl,trivial⟩,trivial,trivial,trivial⟩, ?_⟩;rintro x ⟨x0,x1⟩;refine ah (λhx=> ?_) (λ_=>hQ);have hx:=zdC hx;rw[v2];refine aY x0 hx (aY x0 hx (ah (λhb=> ?_) (λ_=>ac (VP.2 (by omega)) ⟨x+1,⟨by omega,by omega⟩,by omega,⟨⟨rfl,rfl,rfl,rfl,trivial⟩,trivial,trivial,trivial⟩⟩)));rw[Wh.2 rfl] at hb;cases hb
theorem tu (c:Cas) (i:Int) {L:Go.Sy.Loc} {W:World} (h:c.ok=true) (hB:BlkOK (λ_=>L) 0 (e4.old c.x) W) (hl:c.x.length<=maxLen) (hi:B64 i) (_:World) (hg:GlobU W):
 Calls prog 3 #[(Rs c c.x.length).conc (λ_=>L), .int .i64 i] W λe w'=>e= .returned (.bool true)/\Below W.heap.size W w':=
 T8 (gm:=SS) Th hg (ann:=abd (duJ (Rp c c.e)) (Rp c c.e).inp.length) (n:=8) (rest:= [cI.enc i]) hB rfl (by
  show abe _ _ c i _;rw[aa8]
  exact λ_ _=>aa9 (CasOK.of h hl) (V4.2 hi) rfl)
end Go.Proofs.YthngoecanpokhaaGreatDoor
namespace Go.Proofs.YthngoecanpokhaaGreatDoor
open Go.Proofs.Tryz
open Go.ChangeShapes Go.WideShapes Go.ChangeAt Go.RowKit Yk
theorem oQ {H:Type} {enc:TypeId×Value->H} {a:Assume} {C:Checked} {os:Os} {f:FuncId} {fn:Func} {s:ChangeSpec} {conds:List PathCond} {apart fresh handsOn again:Bool} {X:World->Array Value->Prop}
 (hX: ∀(w w':World) (args:Array Value),w.heap=w'.heap->X w args->X w' args)
 (own:ownKnob C.prog.godebug=none) (started:os.Started) (noInit:C.prog.inits.idxOf? f=none) (hfn:C.prog.funcs[f]? =some fn)
 (witness: ∃(w:World) (tape:Tape) (i:Input),w.os=os/\(w.forCall tape i).Shaped C.prog/\i.vars= []/\Input.okWide C.prog (w.forCall tape i) .any w.heap.size f i/\
   ((s.pre enc C.prog fn conds apart (w.forCall tape i).memory i.args/\X (w.forCall tape i).memory i.args)/\sizedMet enc C.prog fn (OpenSpec.ofChange s) apart (w.forCall tape i).memory i.args)/\a.holds C.prog (lone (Frame.enter C.prog f i.args .normal) [] (w.forCall tape i)))
 (contract: ∀(W:World) (base:Nat) (args:Array Value) (ds gs:List (DataW H)) (before:List MemPlace),
   (∀(j:Nat) t v,fn.params[j]? =some t->args[j]? =some v->Value.okWide C.prog W .any base t v)->
   DataW.Whole enc C.prog fn.params.toList s.vars apart W args.toList ds gs before->
   X W args->W.ShapedOpen C.prog->
   Calls C.prog f args W λe W'=> ∃v,e= .returned v/\s.post enc C.prog fn apart fresh handsOn again W args v W'):
 ReturnsInHanded a C os f .any (λw args=>(s.pre enc C.prog fn conds apart w args/\X w args)/\sizedMet enc C.prog fn (OpenSpec.ofChange s) apart w args) (s.post enc C.prog fn apart fresh handsOn again):=by
 refine returnsInHanded_of_calls own started noInit witness ?_;intro w tape i _ hsh _ hok hpre hholds;obtain⟨_,_,_,fn',hfn',_,_,_,_,hval⟩:=hok;have e:fn'=fn:=zbl (hfn'.symm.trans hfn);subst e;obtain⟨⟨⟨ds,gs,before,hw,hc⟩,hx⟩,hz⟩:=hpre;have hw':=DataW.Whole.of_heap (w':=w.forCall tape i) (by rfl) hw;refine(contract (w.forCall tape i) w.heap.size i.args ds gs before hval hw' (hX _ _ _ (by rfl) hx) hsh).mono λe W' ⟨v,he,hp⟩=> ?_;subst he;exact ChangeSpec.post_blind hp
theorem own:ownKnob prog.godebug=none:=by kernel_rfl
def oR:List (String×DataW Unit):=Rows.deriveUnitsRow.laid
variable {W:World}
theorem MM (h:W.ShapedOpen prog): ∃m,W.cell? ⟨4,0,none⟩=some (.int .i64 m):=
 cell_of_shapedOpen_int (t:=3) (zero:= #[.int .i64 0]) h (zdC (by kernel_rfl)) (by kernel_rfl) (by kernel_rfl) (by kernel_rfl) (by kernel_rfl) underlying3
theorem MN:(Rows.laid_internal_strconv_uint64pow10:DataW Unit)=Lib.tabData .u64 Lib.pow10Tab:=by kernel_rfl
theorem No:prog.globalNamed "strconv.ErrRange" =some 3:=by kernel_rfl
theorem Np:prog.globalNamed "strconv.ErrSyntax" =some 2:=by kernel_rfl
theorem QB: "*" ++ "errors.errorString" = "*errors.errorString" :=by decide
theorem JV (u:TypeId) (h:prog.typeName? 3 u=some "*errors.errorString"):u=378:=
 typeName_ptr_named (nm:= "errors.errorString") (by rw[QB];kernel_rfl) (by kernel_rfl) (by decide) u (by rw[QB];exact h)
theorem JW (h:W.ShapedOpen prog) (hL:laidMetH prog oR W):GlobU W:=by
 rw[MakeChecks.laidMetH_plain _ _ _ (by kernel_rfl)] at hL;have hL1:=laidMet.tail (laidMet.tail hL);have ht:Lib.TabIs prog W "internal/strconv.uint64pow10" .u64 Lib.pow10Tab:=
  Lib.tabIs_of_head NL (by kernel_rfl) underlying366 underlying329 (by kernel_rfl) (by kernel_rfl) (MN▸hL1)
 have hL2:=laidMet.tail (laidMet.tail hL1);obtain⟨a0,s0,hv0,_,_,_⟩:=laid_sentinel (g:=3) (ti:=201) (tp:=378) (te:=380) (ts:=9) hL2 No (by kernel_rfl) underlying201 JV underlying378 underlying380 rfl rfl underlying9 (by kernel_rfl) (by kernel_rfl);obtain⟨a1,s1,hv1,_,_,_⟩:=laid_sentinel (g:=2) (ti:=201) (tp:=378) (te:=380) (ts:=9) (laidMet.tail hL2) Np (by kernel_rfl) underlying201 JV underlying378 underlying380 rfl rfl underlying9 (by kernel_rfl) (by kernel_rfl);have c0:=World.var?_cell No hv0 0;have c1:=World.var?_cell Np hv1 0;exact⟨⟨MM h,ht,World.block_lt_of_cell? W _ (ht.cell NL 0 (by decide))⟩,⟨_,by simpa using c1, .inr ⟨_,_,rfl⟩⟩,⟨_,by simpa using c0, .inr ⟨_,_,rfl⟩⟩⟩
end Go.Proofs.YthngoecanpokhaaGreatDoor
