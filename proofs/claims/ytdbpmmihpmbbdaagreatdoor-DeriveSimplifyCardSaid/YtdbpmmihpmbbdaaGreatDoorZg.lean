import Derived.Test.YtdbpmmihpmbbdaaGreatDoorZf
import Derived.ProofKit
import Derived.OpenShut
import Derived.Carry
import Derived.Test.YtdbpmmihpmbbdaaGreatDoorRows
import Derived.HandedShaped
import Derived.LaidMore
import Derived.Lay
import Derived.Lib.LaidTab
import Derived.Shelf.Vars
import Derived.Stop.LaidErr
import Derived.Stop.Joined
set_option linter.unusedVariables false
set_option linter.unusedSimpArgs false
noncomputable section
namespace Go.Proofs.YtdbpmmihpmbbdaaGreatDoor
open Go.Proofs.Tryz
open Go Go.RowKit Go.Sy Yk
def T9 (k:Int):Int:=F8 [2, -1,3, -2,1] (0+k.toNat)
def opF (y:I4):Int:=1+co y.1 8
def RR (ni n:Int) (y:I4):Nd:=
 bif opF y==1 then⟨opF y,(rMk (co y.2.1 13 - 6) (1+co y.2.2.1 4)).1,BL y.2.2.2,0,0,0⟩ else
 bif opF y==2 then⟨opF y,VI,noU,co y.2.1 ni,0,0⟩ else
 bif opF y==7 then⟨opF y,VI,noU,T9 (co y.2.2.1 5),co y.2.1 n,0⟩ else
 bif opF y==8 then⟨opF y,VI,noU,0,co y.2.1 n,0⟩ else⟨opF y,VI,noU,0,co y.2.1 n,co y.2.2.1 n⟩
def TH (ex:Bool) (inp:ze1) (y:I4) (z:List Nd×List Un):List Nd×List Un:=
 match mn inp z.2 (RR inp.length z.1.length y) with
 |some u=>bif !ex||opF y !=8 then(z.1++ [RR inp.length z.1.length y],z.2++ [u]) else z
 |none=>z
def RT (ex:Bool) (inp:ze1):List I4->List Nd×List Un->List Nd×List Un
 | [],z=>z
 |y::r,z=>bif decide (z.1.length<14) then RT ex inp r (TH ex inp y z) else z
def QQ (a:Int×Int×Int) (k:Nat):ze1:=Go.Sy.tab (λj=>BL (mb 0 [a.1,a.2.1,a.2.2] j)) k
def R9 (k:Nat):ze2:=Go.Sy.tab (λj=>nIn j) k
def Rb (a:Int×Int×Int) (count:Int) (xs:List I4) (ex:Bool):List Nd×List Un:=RT ex (QQ a ((co count 3).toNat+1)) xs (R9 ((co count 3).toNat+1),QQ a ((co count 3).toNat+1))
def Bd (a:Int×Int×Int) (count:Int) (xs:List I4) (ex:Bool):Pr:=
 ⟨1+co count 900,QQ a ((co count 3).toNat+1),(Rb a count xs ex).1,ly (Rb a count xs ex).2⟩
theorem Rv {inp:ze1} {x:Nd} {u:Un}: ∀{l:ze2} {us vs:ze1},iB inp l us=(vs,true)->mn inp vs x=some u->iB inp (l++ [x]) us=(vs++ [u],true)
 | [],us,vs,h,k=>by
   simp only[iB,zag,and_true] at h;subst h;simp only[zaM,iB,k]
 |y::r,us,vs,h,k=>by
  simp only[zaO,iB] at h ⊢;cases e:mn inp us y with
  |none=>rw[e] at h;simp only[zag] at h;cases h.2
  |some v=>rw[e] at h;exact Rv h k
structure MadOK (inp:List Un) (z:List Nd×List Un):Prop where
 len:z.2.length=z.1.length
 pos:1<=z.1.length
 le:z.1.length<=14
 un:iB inp z.1 []=(z.2,true)
 szn: ∀x∈z.1,szN x=true
 szu: ∀u∈z.2,szB u=true
theorem RK (p:Un->Bool) (h: [aT 0,aT 2,{aT 0 with f:=(⟨#[49]⟩,⟨#[49,48,48,48]⟩)},(fd (aT 0) (aT 0)).1,{aT 4 with s:=0,o:=(⟨#[53,52,54,51]⟩,⟨#[50,48]⟩)},aT 4,(mi (aT 0) (aT 0)).1].all p=true) (n:Int):p (BL n)=true:=by
 have B: ∀(b:Bool) (x y:Un),p x=true->p y=true->p (cond b x y)=true:=λb x y h k=>by cases b;exact k;exact h
 simp only[List.all_cons,List.all_nil,zaQ,za2] at h;unfold BL;exact B _ _ _ h.1 (B _ _ _ h.2.1 (B _ _ _ h.2.2.1 (B _ _ _ h.2.2.2.1 (B _ _ _ h.2.2.2.2.1 (B _ _ _ h.2.2.2.2.2.1 h.2.2.2.2.2.2)))))
theorem Sa (n:Int):VK (BL n)=true:=RK VK (by kernel_rfl) n
theorem QY (n:Int):szB (BL n)=true:=RK szB (by kernel_rfl) n
theorem Sr (ni n:Int) (y:I4):szN (RR ni n y)=true:=by
 have B: ∀(b:Bool) (x y:Nd),szN x=true->szN y=true->szN (cond b x y)=true:=λb x y h k=>by cases b;exact k;exact h
 unfold RR;refine B _ _ _ ?_ (B _ _ _ lB (B _ _ _ lB (B _ _ _ lB lB)));show (uzR (rMk _ _).1&&szB (BL _))=true;rw[gu,QY];rfl
theorem MadOK.step {ex:Bool} {inp:ze1} {y:I4} {z:List Nd×List Un} (hi: ∀u∈inp,szB u=true) (h:MadOK inp z) (hl:z.1.length<14):MadOK inp (TH ex inp y z):=by
 unfold TH;split
 ·rename_i u hu;cases !ex||opF y !=8 with
  |false=>exact h
  |true=>
   have hx:=Sr inp.length z.1.length y;refine⟨by simp[h.len],by simp,by simp;omega,Rv h.un hu,λx hx'=> ?_,λv hv=> ?_⟩
   ·rcases za8.1 hx' with a|a
    ·exact h.szn x a
    ·rw[zaj.1 a];exact hx
   ·rcases za8.1 hv with a|a
    ·exact h.szu v a
    ·rw[zaj.1 a];exact CR hx hi h.szu hu
 ·exact h
theorem MadOK.all {ex:Bool} {inp:ze1} (hi: ∀u∈inp,szB u=true): ∀{xs:List I4} {z:List Nd×List Un},MadOK inp z->MadOK inp (RT ex inp xs z)
 | [],z,h=>h
 |y::r,z,h=>by
  unfold RT;cases hl:decide (z.1.length<14) with
  |false=>exact h
  |true=>exact MadOK.all hi (h.step hi (zdB hl))
theorem QT {a:Int×Int×Int} {p:Un->Bool} (hp: ∀n,p (BL n)=true): ∀{k:Nat},∀u∈QQ a k,p u=true
 |0,u,h=>by cases h
 |k+1,u,h=>by
  rcases za8.1 h with h|h
  ·exact QT hp u h
  ·rw[zaj.1 h];exact hp _
variable {k:Nat}
theorem QR {a:Int×Int×Int} :(QQ a k).length=k:=fJ _ _
theorem QZ:(R9 k).length=k:=fJ _ _
theorem Si {a:Int×Int×Int} {K:Nat}: ∀{k:Nat},k<=K->iB (QQ a K) (R9 k) []=(QQ a k,true)
 |0,_=>rfl
 |k+1,h=>Rv (Si (Nat.le_of_succ_le h)) (by
  have e:mb noU (QQ a K) k=BL (mb 0 [a.1,a.2.1,a.2.2] k):=bR (qX _ (by omega));have f:VT (QQ a k).length (nIn k)=true:=rfl;have u:fL (QQ a K) (QQ a k) (nIn k)=(BL (mb 0 [a.1,a.2.1,a.2.2] k),0):=by
   show (bif decide (0<=((k:Nat):Int))&&decide (((k:Nat):Int)<((QQ a K).length:Int)) then(mb noU (QQ a K) ((k:Nat):Int).toNat,0) else(noU,90))=_;rw[QR,zdw (by omega),zdw (by omega),zd8,e];rfl
  show mn (QQ a K) (QQ a k) (nIn k)=some (BL (mb 0 [a.1,a.2.1,a.2.2] k));unfold mn
  rw[f,u];rfl)
theorem RU: ∀{k:Nat},∀x∈R9 k,szN x=true
 |0,x,h=>by cases h
 |k+1,x,h=>by
  rcases za8.1 h with h|h
  ·exact RU x h
  ·rw[zaj.1 h];exact lB
section
variable {a:Int×Int×Int} {count:Int} {xs:List I4} {ex:Bool}
theorem Rc:1<=(co count 3).toNat+1/\(co count 3).toNat+1<=3:=by
 have:=gR count (n:=3) (by decide);omega
theorem Sj:MadOK (QQ a ((co count 3).toNat+1)) (Rb a count xs ex):=by
 have:=Rc (count:=count);exact MadOK.all (QT QY) ⟨by rw[QR,QZ],by rw[QZ];exact this.1,by rw[QZ];omega,Si (za0 _),RU,QT QY⟩
theorem Sk:VM (Bd a count xs ex)=true:=by
 have h:=Sj (a:=a) (count:=count) (xs:=xs) (ex:=ex);have n:=Rc (count:=count);have b:=gR count (n:=900) (by decide);have hb:oB (Bd a count xs ex)=true:=Wb.2 ⟨⟨by show 1<=1+co count 900;omega,by show 1+co count 900<=1000000;omega,by show (QQ a _).length<=6;rw[QR];omega⟩,zaf.2 (QT Sa),h.pos,by have:=h.le;show (Rb a count xs ex).1.length<=40;omega⟩;unfold VM VJ;rw[hb,zdy,show iB (Bd a count xs ex).inp (Bd a count xs ex).nod []=((Rb a count xs ex).2,true) from h.un];show ((bif eqU (ly (Rb a count xs ex).2) (ly (Rb a count xs ex).2) then _ else _:List Un×Int×Int).2.2==0)=true;rw[show eqU (ly (Rb a count xs ex).2) (ly (Rb a count xs ex).2)=true from Wh.2 rfl];rfl
theorem SO {us:ze1} (h: ∀u∈us,szB u=true):szB (ly us)=true:=eH h _
theorem Tn:cw (Bd a count xs ex)=true:=by
 have h:=Sj (a:=a) (count:=count) (xs:=xs) (ex:=ex);unfold cw;rw[show (Bd a count xs ex).inp.all szB=true from zaf.2 (QT QY),show (Bd a count xs ex).nod.all szN=true from zaf.2 h.szn,show szB (Bd a count xs ex).out=true from SO h.szu];rfl
theorem Sb:1<=(Bd a count xs ex).inp.length/\(Bd a count xs ex).inp.length<=3/\1<=(Bd a count xs ex).nod.length/\(Bd a count xs ex).nod.length<=14:=by
 have h:=Sj (a:=a) (count:=count) (xs:=xs) (ex:=ex);have n:=Rc (count:=count);refine⟨?_, ?_,h.pos,h.le⟩
 ·show 1<=(QQ a _).length;rw[QR];omega
 ·show (QQ a _).length<=3;rw[QR];omega
end
def tyF (inp us:ze1) (x:Nd):Un×Int:=match mn inp us x with
 |some u=>(u,0)
 |none=>(noU,90)
def tyB (p:Pr) (us:ze1):List Blk:= [eU.old p.inp,eN.old p.nod,eU.old us]
def tyA (p:Pr) (us:ze1) (x:Nd) (at_:Int):zdP:= [kB p, .agg (svN x),cI.enc at_, .slc 2 0 us.length]
abbrev Re (op:Int) (p:Pr) (us:ze1) (x:Nd) (at_:Int) (Q:zdV):Prop:=JL [] (λ_ _=>none) 6 61 (tyA p us {x with op:=op} at_) (tyB p us) (Go.Sy.okK λr _ _ _=>Q r)
def QS:SV:= .tup [.agg (ci noU), .val (.int .i64 90)]
def RA (u:Un):SV:= .tup [.agg (ci u), .val (.int .i64 0)]
def Ss (r:Un×Int) (Q:zdV):Prop:=ag (r.2 !=0) (Q QS) (Q (RA r.1))
def wiB (n lo hi:Int):Bool:=bif decide (n≥lo) then decide (n<=hi) else false
def TM (x:Nd) (Q:zdV):Prop:=af (uzR x.v) (af (aH x.u) (ag (!(bif (bif eqN {x with op:=1} {noN with op:=1,v:=x.v,u:=x.u} then rV x.v else false) then iy x.u else false)) (Q QS) (Q (RA x.u))))
def TN (p:Pr) (x:Nd) (Q:zdV):Prop:=af (dC (eqN {x with op:=2} {noN with op:=2,n:=x.n}) (inR .i64 ((p.inp.length:Int) - 1))) (ag (eqN {x with op:=2} {noN with op:=2,n:=x.n})
 (ag (!wiB x.n 0 ((p.inp.length:Int) - 1)) (Q QS) (eO p.inp.length x.n (Q (RA (mb noU p.inp (0+x.n.toNat)))))) (Q QS))
def SG (op:Int) (f:Un->Un->Un×Int) (us:ze1) (x:Nd) (a:Int) (Q:zdV):Prop:=
 af (dC (eqN {x with op:=op} {noN with op:=op,l:=x.l,r:=x.r}) (inR .i64 (a - 1))) (ag (eqN {x with op:=op} {noN with op:=op,l:=x.l,r:=x.r})
  (af (dC (wiB x.l 0 (a - 1)) (inR .i64 (a - 1))) (ag (wiB x.l 0 (a - 1)) (ag (!wiB x.r 0 (a - 1)) (Q QS) (pL us x λu v=>Ss (f u v) Q)) (Q QS)))
  (af (dC false (inR .i64 (a - 1))) (Q QS)))
def TO (us:ze1) (x:Nd) (a:Int) (Q:zdV):Prop:=
 af (dC (eqN {x with op:=7} {noN with op:=7,n:=x.n,l:=x.l}) (inR .i64 (a - 1))) (ag (eqN {x with op:=7} {noN with op:=7,n:=x.n,l:=x.l})
  (ag (wiB x.l 0 (a - 1)) (ag (!(bif wiB x.n (-4) 4 then x.n !=0 else false)) (Q QS) (eO us.length x.l (eO us.length x.r (af (aH (mb noU us (0+x.l.toNat))) (Ss (jm (mb noU us (0+x.l.toNat)) (x.n,1)) Q))))) (Q QS)) (Q QS))
def TP (us:ze1) (x:Nd) (a:Int) (Q:zdV):Prop:=
 af (dC (eqN {x with op:=8} {noN with op:=8,l:=x.l}) (inR .i64 (a - 1))) (ag (eqN {x with op:=8} {noN with op:=8,l:=x.l})
  (ag (!wiB x.l 0 (a - 1)) (Q QS) (eO us.length x.l (eO us.length x.r (af (aH (mb noU us (0+x.l.toNat))) (Ss (jm (mb noU us (0+x.l.toNat)) (1,2)) Q))))) (Q QS))
theorem TQ (p:Pr) (us:ze1) (x:Nd) (a:Int) (Q:zdV):Re 1 p us x a Q=TM x Q:=by kernel_rfl
theorem TR (p:Pr) (us:ze1) (x:Nd) (a:Int) (Q:zdV):Re 2 p us x a Q=TN p x Q:=by kernel_rfl
theorem TS (p:Pr) (us:ze1) (x:Nd) (a:Int) (Q:zdV):Re 3 p us x a Q=SG 3 iS us x a Q:=by kernel_rfl
theorem TT (p:Pr) (us:ze1) (x:Nd) (a:Int) (Q:zdV):Re 4 p us x a Q=SG 4 fw us x a Q:=by kernel_rfl
theorem TU (p:Pr) (us:ze1) (x:Nd) (a:Int) (Q:zdV):Re 5 p us x a Q=SG 5 mi us x a Q:=by kernel_rfl
theorem TW (p:Pr) (us:ze1) (x:Nd) (a:Int) (Q:zdV):Re 6 p us x a Q=SG 6 fd us x a Q:=by kernel_rfl
theorem TX (p:Pr) (us:ze1) (x:Nd) (a:Int) (Q:zdV):Re 7 p us x a Q=TO us x a Q:=by kernel_rfl
theorem TY (p:Pr) (us:ze1) (x:Nd) (a:Int) (Q:zdV):Re 8 p us x a Q=TP us x a Q:=by kernel_rfl
def SZ:MCtr:=λbl _ args=>match args with
 | [s, .agg cs, .val (.int .i64 at_),t]=>match mC bl s,gy bl 20 t with
   |some a,some (b,_,n,g)=>some {X:=Unit,pre:=a.need&&b&&bW n&&eU.good szB n g&&ndB cs&&szN (Vh cs)&&decide (at_=(n:Int))&&decide (1<=(Vh cs).op)&&decide ((Vh cs).op<=8),spec:=λ_=>True,out:=λ_=> .tup [.agg (ci (tyF a.p.inp (eU.list n g) (Vh cs)).1), .val (.int .i64 (tyF a.p.inp (eU.list n g) (Vh cs)).2)],ex:=λ_=>⟨(),trivial⟩}
   |_,_=>none
 |_=>none
theorem Wn {x y:Nd}:eqN x y=true↔x=y:=by
 obtain⟨a1,a2,a3,a4,a5,a6⟩:=x;obtain⟨b1,b2,b3,b4,b5,b6⟩:=y;simp only[eqN,za2,zdF,Wg,Wh,Nd.mk.injEq,and_true]
theorem Rf {a b c d:Nd} (h:a=b↔c=d):eqN a b=eqN c d:=by
 rw[zax,Wn,Wn];exact h
theorem Q4 {n:Nat} {i:Int}:wiB i 0 ((n:Int) - 1)=Go.Proofs.YtdbpmmihpmbbdaaGreatDoor.earF n i:=by
 rw[zax,V2];unfold wiB;by_cases h:i≥0
 ·rw[zdw h,zdy,zdA];omega
 ·rw[zdz h,zdx];simp;omega
theorem Q5 {a b:Bool} {K:Prop} (h:b=true) (k:K):af (dC a b) K:=ac (yd h) k
section
variable {inp us:ze1} {x:Nd} {Q:zdV}
theorem tyQ (h:Q (.tup [.agg (ci (tyF inp us x).1), .val (.int .i64 (tyF inp us x).2)])):(mn inp us x=none->Q QS)/\(∀u,mn inp us x=some u->Q (RA u)):=by
 unfold tyF at h;exact⟨λe=>by rw[e] at h;exact h,λu e=>by rw[e] at h;exact h⟩
theorem QW (h:VT us.length x=false):mn inp us x=none:=by unfold mn;rw[h];rfl
theorem Q6 (h:VT us.length x=true):mn inp us x=bif (fL inp us x).2==0 then some (fL inp us x).1 else none:=by unfold mn;rw[h];rfl
theorem Rx {r:Un×Int} (hf:VT us.length x=true) (hu:fL inp us x=r) (hb:mn inp us x=none->Q QS) (ho: ∀u,mn inp us x=some u->Q (RA u)):Ss r Q:=by
 have t:=Q6 (inp:=inp) hf;rw[hu] at t;refine ah (λh=>hb ?_) (λh=>ho _ ?_)
 ·rw[t,show (r.2==0)=false by simpa using h];rfl
 ·rw[t,show (r.2==0)=true by simpa using h];rfl
theorem TZ (o:x.op=1) (hx:szN x=true) (hb:mn inp us x=none->Q QS) (ho: ∀u,mn inp us x=some u->Q (RA u)):TM x Q:=by
 unfold szN at hx;rw[za2] at hx;have hform:VT us.length x=eqN {x with op:=1} {noN with op:=1,v:=x.v,u:=x.u}:=by
  unfold VT;rw[o];exact Rf (by obtain⟨a1,a2,a3,a4,a5,a6⟩:=x;simp[noN])
 have huni:fL inp us x=bif rV x.v&&VK x.u then(x.u,0) else(noU,90):=by unfold fL;rw[o];rfl
 unfold TM;rw[<-hform,jE];refine ac hx.1 (ac hx.2 (ah (λh=>hb ?_) (λh=>ho _ ?_)))
 ·cases f:VT us.length x with
  |false=>exact QW f
  |true=>
   rw[Q6 f,huni];rw[f] at h;cases a:rV x.v with
   |false=>rfl
   |true=>cases b:VK x.u with
    |false=>rfl
    |true=>rw[a,b] at h;cases h
 ·cases f:VT us.length x with
  |false=>rw[f] at h;cases h
  |true=>
   rw[Q6 f,huni];rw[f] at h;cases a:rV x.v with
   |false=>rw[a] at h;cases h
   |true=>cases b:VK x.u with
    |false=>rw[a,b] at h;cases h
    |true=>rfl
theorem T0 {p:Pr} (hp:p.inp=inp) (hl:inp.length<=1000000) (o:x.op=2) (hb:mn inp us x=none->Q QS) (ho: ∀u,mn inp us x=some u->Q (RA u)):TN p x Q:=by
 subst hp;have hform:VT us.length x=eqN {x with op:=2} {noN with op:=2,n:=x.n}:=by
  unfold VT;rw[o];show eqN ⟨0,x.v,x.u,0,x.l,x.r⟩ noN=_;exact Rf (by obtain⟨a1,a2,a3,a4,a5,a6⟩:=x;simp[noN])
 have huni:fL p.inp us x=bif decide (0<=x.n)&&decide (x.n<(p.inp.length:Int)) then(mb noU p.inp x.n.toNat,0) else(noU,90):=by unfold fL;rw[o];rfl
 unfold TN;rw[<-hform];refine Q5 (VP.2 (by omega)) (ah (λf=>ah (λh=>hb ?_) (λh=> ?_)) (λf=>hb (QW f)))
 ·rw[Q6 f,huni];rw[Q4] at h;have:earF p.inp.length x.n=false:=by simpa using h
  rw[show (decide (0<=x.n)&&decide (x.n<(p.inp.length:Int)))=false from this];rfl
 ·rw[Q4] at h;have h':earF p.inp.length x.n=true:=by simpa using h
  have e:=V2.1 h';refine aY e.1 e.2 (ho _ ?_);rw[Q6 f,huni,show (decide (0<=x.n)&&decide (x.n<(p.inp.length:Int)))=true from h',za7];rfl
variable {a:Int}
theorem RV {op:Int} {f:Un->Un->Un×Int} (o:x.op=op) (hop:3<=op/\op<=6) (ha:a=(us.length:Int)) (hl:us.length<=1000000) (hu: ∀u∈us,szB u=true) (huni:fL inp us x=f (mb noU us x.l.toNat) (mb noU us x.r.toNat)) (hb:mn inp us x=none->Q QS) (ho: ∀u,mn inp us x=some u->Q (RA u)):SG op f us x a Q:=by
 subst ha;have hform:VT us.length x=(eqN {x with op:=op} {noN with op:=op,l:=x.l,r:=x.r}&&earF us.length x.l&&earF us.length x.r):=by
  unfold VT;rw[zdD (show x.op≠1 by omega),zdD (show x.op≠2 by omega),zdw (show 3<=x.op by omega),zdw (show x.op<=6 by omega)];show (eqN ⟨0,x.v,x.u,x.n,0,0⟩ noN&&_&&_)=_;rw[Rf (a:=⟨0,x.v,x.u,x.n,0,0⟩) (b:=noN) (c:={x with op:=op}) (d:={noN with op:=op,l:=x.l,r:=x.r}) (by obtain⟨a1,a2,a3,a4,a5,a6⟩:=x;simp[noN])]
 unfold SG;rw[Q4,Q4];generalize eqN {x with op:=op} {noN with op:=op,l:=x.l,r:=x.r}=e at hform;have r:inR .i64 ((us.length:Int) - 1)=true:=VP.2 (by omega);refine Q5 r (ah (λh1=>Q5 r (ah (λh2=>ah (λh3=>hb (QW ?_)) (λh3=> ?_)) (λh2=>hb (QW ?_)))) (λh1=>Q5 r (hb (QW ?_))))
 ·rw[hform,show earF us.length x.r=false by simpa using h3,Bool.and_false]
 ·have h3:earF us.length x.r=true:=by simpa using h3
  have e2:=V2.1 h2;have e3:=V2.1 h3;unfold pL;rw[za7,za7];exact aY e2.1 e2.2 (aY e3.1 e3.2 (ac (by rw[eH hu,eH hu];rfl) (Rx (by rw[hform,h1,h2,h3];rfl) huni hb ho)))
 ·rw[hform,h2,Bool.and_false];rfl
 ·rw[hform,h1];rfl
theorem T3 (o:x.op=7) (ha:a=(us.length:Int)) (hl:us.length<=1000000) (hu: ∀u∈us,szB u=true) (hb:mn inp us x=none->Q QS) (ho: ∀u,mn inp us x=some u->Q (RA u)):TO us x a Q:=by
 subst ha;have hform:VT us.length x=(eqN {x with op:=7} {noN with op:=7,n:=x.n,l:=x.l}&&earF us.length x.l):=by
  unfold VT;rw[o];show (eqN ⟨0,x.v,x.u,0,0,x.r⟩ noN&&_)=_;rw[Rf (c:={x with op:=7}) (d:={noN with op:=7,n:=x.n,l:=x.l}) (by obtain⟨a1,a2,a3,a4,a5,a6⟩:=x;simp[noN])]
 have huni:fL inp us x=(bif x.n==0||decide (x.n< -4)||decide (x.n>4) then(noU,90) else jm (mb noU us x.l.toNat) (x.n,1)):=by unfold fL;rw[o];rfl
 unfold TO;rw[Q4];have hr:eqN {x with op:=7} {noN with op:=7,n:=x.n,l:=x.l}=true->x.r=0:=λh=>by
  have:=Wn.1 h;exact congrArg Nd.r this
 generalize eqN {x with op:=7} {noN with op:=7,n:=x.n,l:=x.l}=e at hform hr;refine Q5 (VP.2 (by omega)) (ah (λh1=>ah (λh2=>ah (λh3=>hb ?_) (λh3=> ?_)) (λh2=>hb (QW ?_))) (λh1=>hb (QW ?_)))
 ·rw[Q6 (by rw[hform,h1,h2];rfl),huni];have:(x.n==0||decide (x.n< -4)||decide (x.n>4))=true:=by
   simp only[zav,zdA,zdF];apply Classical.byContradiction;intro hc;have:wiB x.n (-4) 4=true:=by unfold wiB;rw[zdw (by omega),zdy,zdw (by omega)]
   rw[this,zdy,show (x.n !=0)=true by simp;omega] at h3;cases h3
  rw[this];rfl
 ·have e2:=V2.1 h2;have hr:=hr h1;have hn:x.n≠0/\ -4<=x.n/\x.n<=4:=by
   unfold wiB at h3;by_cases a:x.n≥ -4
   ·by_cases b:x.n<=4
    ·rw[zdw a,zdy,zdw b,zdy] at h3;simp at h3;omega
    ·rw[zdw a,zdy,zdz b,zdx] at h3;cases h3
   ·rw[zdz a,zdx,zdx] at h3;cases h3
  rw[za7];refine aY e2.1 e2.2 (aY (by omega) (by omega) (ac (eH hu _) (Rx (by rw[hform,h1,h2];rfl) ?_ hb ho)));rw[huni,show (x.n==0||decide (x.n< -4)||decide (x.n>4))=false by simp;omega];rfl
 ·rw[hform,h2,Bool.and_false]
 ·rw[hform,h1];rfl
theorem T4 (o:x.op=8) (ha:a=(us.length:Int)) (hl:us.length<=1000000) (hu: ∀u∈us,szB u=true) (hb:mn inp us x=none->Q QS) (ho: ∀u,mn inp us x=some u->Q (RA u)):TP us x a Q:=by
 subst ha;have hform:VT us.length x=(eqN {x with op:=8} {noN with op:=8,l:=x.l}&&earF us.length x.l):=by
  unfold VT;rw[o];show (eqN ⟨0,x.v,x.u,x.n,0,x.r⟩ noN&&_)=_;rw[Rf (c:={x with op:=8}) (d:={noN with op:=8,l:=x.l}) (by obtain⟨a1,a2,a3,a4,a5,a6⟩:=x;simp[noN])]
 have huni:fL inp us x=jm (mb noU us x.l.toNat) (1,2):=by unfold fL;rw[o];rfl
 unfold TP;rw[Q4];have hr:eqN {x with op:=8} {noN with op:=8,l:=x.l}=true->x.r=0:=λh=>by
  have:=Wn.1 h;exact congrArg Nd.r this
 generalize eqN {x with op:=8} {noN with op:=8,l:=x.l}=e at hform hr;refine Q5 (VP.2 (by omega)) (ah (λh1=>ah (λh2=>hb (QW ?_)) (λh2=> ?_)) (λh1=>hb (QW ?_)))
 ·rw[hform,show earF us.length x.l=false by simpa using h2,Bool.and_false]
 ·have h2:earF us.length x.l=true:=by simpa using h2
  have e2:=V2.1 h2;have hr:=hr h1;rw[za7];exact aY e2.1 e2.2 (aY (by omega) (by omega) (ac (eH hu _) (Rx (by rw[hform,h1,h2];rfl) huni hb ho)))
 ·rw[hform,h1];rfl
end
variable {n:Nat}
theorem Ue {C:RC} {src:List (Option Nat)} {Cs:List Blk} {nx:Nat} {gm:zdZ} {ann:zdX} {f:FuncId} {args:zdP} {r:SV} (x:C.X) (hx:C.spec x) (h1:C.pan x=none) (h2:r.ids= []) (h3:C.out x=r) (h4:C.nw x= []) (h5:C.ch x= []) (h6: ∀C∈Cs,cN C.kd=false) (hl:src.length=Cs.length)
 (h:JL gm ann n f args Cs (Go.Sy.okK λs _ _ _=>s=r)):JL gm ann n f args Cs (KB C src Cs nx):=Q8 h λq b m w hq=>by
 cases q with
 |pan v=>exact hq.elim
 |ok s=>
  obtain rfl:s=r:=hq;exact IG x hx h1 h2 h3 h4 h5 h6 hl
theorem T5 {p:Pr} {us:ze1} {x:Nd} {Q:zdV} (hl:us.length<=1000000) (hi:p.inp.length<=1000000) (hu: ∀u∈us,szB u=true) (hx:szN x=true) (hop:1<=x.op/\x.op<=8) (hQ:Q (.tup [.agg (ci (tyF p.inp us x).1), .val (.int .i64 (tyF p.inp us x).2)])):
 JL [] (λ_ _=>none) 6 61 (tyA p us x us.length) (tyB p us) (Go.Sy.okK λr _ _ _=>Q r):=by
 obtain⟨hb,ho⟩:=tyQ hQ;have E: ∀{op:Int},x.op=op->Re op p us x us.length Q->JL [] (λ_ _=>none) 6 61 (tyA p us x us.length) (tyB p us) (Go.Sy.okK λr _ _ _=>Q r):=λ{op} h k=>by
  rw[<-dW h];exact k
 rcases(show x.op=1\/x.op=2\/x.op=3\/x.op=4\/x.op=5\/x.op=6\/x.op=7\/x.op=8 by omega) with o|o|o|o|o|o|o|o
 ·exact E o (by rw[TQ];exact TZ o hx hb ho)
 ·exact E o (by rw[TR];exact T0 rfl hi o hb ho)
 ·exact E o (by rw[TS];exact RV o (by decide) rfl hl hu (by unfold fL;rw[o];rfl) hb ho)
 ·exact E o (by rw[TT];exact RV o (by decide) rfl hl hu (by unfold fL;rw[o];rfl) hb ho)
 ·exact E o (by rw[TU];exact RV o (by decide) rfl hl hu (by unfold fL;rw[o];rfl) hb ho)
 ·exact E o (by rw[TW];exact RV o (by decide) rfl hl hu (by unfold fL;rw[o];rfl) hb ho)
 ·exact E o (by rw[TX];exact T3 o rfl hl hu hb ho)
 ·exact E o (by rw[TY];exact T4 o rfl hl hu hb ho)
theorem ZR: ∀B:Base,GlobB B->VU prog B 61 SZ:=Sh MOk.nil λbl nx args C hk hp=>by
 unfold SZ at hk;split at hk
 ·rename_i s cs at_ t;split at hk
  ·rename_i a b o n g ha ht;simp only[za1] at hk;subst hk;simp only[za2,zdA] at hp;obtain⟨⟨⟨⟨⟨⟨⟨⟨h0,rfl⟩,hn⟩,hg⟩,h1⟩,h2⟩,rfl⟩,h3⟩,h4⟩:=hp;obtain⟨x,rfl⟩: ∃x,cs=svN x:=⟨_,ua h1⟩;rw[fR] at h2 h3 h4;obtain⟨s1,s2,s3,s4,s5,s6⟩:=eX (f:=rnF [a.o1,a.o2,o] [] nx) ha h0 rfl rfl;obtain⟨t1,t2⟩:=cq (f:=rnF [a.o1,a.o2,o] [] nx) ht hg;have hlen:(eU.list n g).length=n:=El.list_length;have hle:(eU.list n g).length<=1000000:=by rw[hlen];exact zak hn
   have hold: ∀C∈tyB a.p (eU.list n g),cN C.kd=false/\C.kd.map=false:=by simp[tyB,cN,El.old,BK.map]
   refine⟨[a.o1,a.o2,o],tyB a.p (eU.list n g),tyA a.p (eU.list n g) x n,λ_ _=>none,6,aw s1 (aw s2 (aw t1 trivial)),bH (λC hC=>(hold C hC).1),cd (λC hC=>(hold C hC).2),ar s3 (ar (Xs (rns_free (j4 x))) (ar rfl (ar (t2 2 rfl) rfl))), ?_⟩;refine Ue () trivial rfl (r:= .tup [.agg (ci (tyF a.p.inp (eU.list n g) x).1), .val (.int .i64 (tyF a.p.inp (eU.list n g) x).2)]) rfl rfl rfl rfl (λC hC=>(hold C hC).1) (by rfl) ?_;have:=T5 (p:=a.p) (us:=eU.list n g) (x:=x) (Q:=λr=>r= .tup [.agg (ci (tyF a.p.inp (eU.list n g) x).1), .val (.int .i64 (tyF a.p.inp (eU.list n g) x).2)]) hle s5 (El.good_list hg) h2 ⟨h3,h4⟩ rfl;rw[hlen] at this;exact this
  ·cases hk
 ·cases hk
def YM (I:Int->Prop) (N:Int):zdX:=λf k=>bif (Nat.beq f 30||Nat.beq f 31)&&Nat.beq k 4 then some (λA=>{X:=Int,inv:=I,tm:=λi=> [(13, .val (.int .i64 i))],mu:=λi=>(N - i).toNat,keep:= [0,1,12]}) else none
def aau (s t:SV) (n:Nat) (p z:Int):Prop:=(TV.v (cI.enc p)=TV.v (cI.enc z)/\tvE s/\tvE t/\tvE (cI.enc (n:Int))/\True)/\(True/\(True/\True))
def ixB (n:Nat) (z:Int) (K:Prop):Prop:=af (decide (0<=z)&&decide (z<(n:Int))&&decide (0+z.toNat<n)) (af (decide (0+z.toNat<n)) K)
def aav (I:Int->Prop) (N:Int) (n:Nat) (ne:Int->Bool) (Kt Kf:Prop):Prop:=
 ag ((n:Int) !=(n:Int)) Kf (∃z0:Int,I z0/\(aau (.slc 0 0 n) (.slc 1 0 n) n 0 z0/\ ∀z:Int,I z->ag (decide (z<(n:Int)))
  (ixB n z (ixB n z (ag (ne z) Kf (af (inR .i64 (z+1)) (∃z':Int,I z'/\((N - z').toNat<(N - z).toNat/\aau (.slc 0 0 n) (.slc 1 0 n) n (z+1) z'))))))
  Kt))
theorem aae (I:Int->Prop) (N:Int) (l:ze1) (Q:zdV):dk [] (YM I N) 5 30 [.slc 0 0 l.length, .slc 1 0 l.length] [eU.old l,eU.old l] (Go.Sy.okK λr _ _ _=>Q r)=
 aav I N l.length (λz=> !eqU (mb noU l (0+z.toNat)) (mb noU l (0+z.toNat))) (Q (cB.enc true)) (Q (cB.enc false)):=by kernel_rfl
theorem aaf (I:Int->Prop) (N:Int) (l:ze2) (Q:zdV):dk [] (YM I N) 5 31 [.slc 0 0 l.length, .slc 1 0 l.length] [eN.old l,eN.old l] (Go.Sy.okK λr _ _ _=>Q r)=
 aav I N l.length (λz=> !eqN (mb noN l (0+z.toNat)) (mb noN l (0+z.toNat))) (Q (cB.enc true)) (Q (cB.enc false)):=by kernel_rfl
variable {p:Int}
theorem YD {s t:SV} :aau s t n p p:=⟨⟨rfl,rfl,rfl,rfl,trivial⟩,trivial,trivial,trivial⟩
theorem ZS {z:Int} {K:Prop} (h0:0<=z) (h1:z<n) (k:K):ixB n z K:=ac (by rw[zdw h0,zdw h1,zdw (show 0+z.toNat<n by omega)];rfl) (ac (zdw (by omega)) k)
theorem YE (hn:n<=1000000) {ne:Int->Bool} (h: ∀z,ne z=false) {Kt Kf:Prop} (hK:Kt):aav (λi=>0<=i/\i<=n) n n ne Kt Kf:=by
 refine ah (λhb=>by simp at hb) λ_=>⟨0,⟨zat _,by omega⟩,YD, ?_⟩;rintro z ⟨h0,h1⟩;refine ah (λhz=> ?_) (λ_=>hK);have hz:=zdB hz;exact ZS h0 hz (ZS h0 hz (ah (λhb=>by rw[h z] at hb;cases hb) λ_=>ac (VP.2 (by omega)) ⟨z+1,⟨by omega,by omega⟩,by omega,YD⟩))
open Classical in
def Zy {α:Type} (E:El α) (p:α->Bool):MCtr:=λbl _ args=>match args with
 | [s,t]=>match gy bl E.sz s,gy bl E.sz t with
   |some (b1,_,n1,g1),some (b2,_,n2,g2)=>some {X:=Unit,pre:=b1&&b2&&bW n1&&E.good p n1 g1&&E.good p n2 g2&&decide (E.list n1 g1=E.list n2 g2),spec:=λ_=>True,out:=λ_=>cB.enc true,ex:=λ_=>⟨(),trivial⟩}
   |_,_=>none
 |_=>none
variable {α:Type}
theorem ZT {E:El α} {p:α->Bool} {F:FuncId} (hr: ∀(l:List α) (Q:zdV),l.length<=1000000->Q (cB.enc true)->dk [] (YM (λi=>0<=i/\i<=l.length) l.length) 5 F [.slc 0 0 l.length, .slc 1 0 l.length] [E.old l,E.old l] (Go.Sy.okK λr _ _ _=>Q r)):
 ∀B:Base,GlobB B->VU prog B F (Zy E p):=eW MOk.nil λbl nx args C hk hp=>by
 unfold Zy at hk;split at hk
 ·rename_i s t;split at hk
  ·rename_i b1 o1 n1 g1 b2 o2 n2 g2 h1 h2;simp only[za1] at hk;subst hk;simp only[za2,zdA] at hp;obtain⟨⟨⟨⟨⟨rfl,rfl⟩,hl⟩,w1⟩,w2⟩,he⟩:=hp;obtain⟨s1,r1⟩:=cq (f:=rnF [o1,o2] [] nx) h1 w1;obtain⟨s2,r2⟩:=cq (f:=rnF [o1,o2] [] nx) h2 w2;have q1:=r1 0 rfl;have q2:=r2 1 rfl;rw[<-he] at s2 q2;have hlen:(E.list n1 g1).length<=1000000:=by rw[El.list_length];exact zak hl
   refine⟨[o1,o2], [E.old (E.list n1 g1),E.old (E.list n1 g1)], [.slc 0 0 (E.list n1 g1).length, .slc 1 0 (E.list n1 g1).length],YM (λi=>0<=i/\i<=(E.list n1 g1).length) (E.list n1 g1).length,5,aw s1 (aw s2 trivial),bH (by simp[cN,El.old]),cd (by simp[El.old,BK.map]),ar q1 (ar q2 rfl), ?_⟩;exact lz () trivial rfl (r:=cB.enc true) rfl rfl rfl rfl (by simp[cN,El.old]) rfl (hr _ _ hlen rfl)
  ·cases hk
 ·cases hk
theorem ZU: ∀B:Base,GlobB B->VU prog B 30 (Zy eU szB):=ZT λl Q hl hQ=>by
 rw[aae];exact YE hl (λz=>by rw[Wh.2 rfl];rfl) hQ
theorem ZV: ∀B:Base,GlobB B->VU prog B 31 (Zy eN szN):=ZT λl Q hl hQ=>by
 rw[aaf];exact YE hl (λz=>by rw[Wn.2 rfl];rfl) hQ
def aaB:zdZ:= [(30,Zy eU szB),(31,Zy eN szN)]
theorem aag:MOk aaB:=(MOk.nil.cons ZV).cons ZU
def aap (p:Pr):SV:= .agg ([.val (.int .i64 p.id), .slc 2 0 p.inp.length, .slc 3 0 p.nod.length]++ci p.out)
def Zo (p:Pr):List Blk:= [eU.old p.inp,eN.old p.nod,eU.old p.inp,eN.old p.nod]
open Classical in
def Zp {α:Type} (E:El α) (p:α->Bool) (l:List α):Bool:=(Nat.ble l.length l.length&&Nat.beq E.sz E.sz&&true)&&(Nat.ble l.length l.length&&Nat.beq E.sz E.sz&&true)&&bW l.length&&E.good p l.length (E.get l)&&E.good p l.length (E.get l)&&decide (E.list l.length (E.get l)=E.list l.length (E.get l))
theorem Zz (p:Pr) (Q:zdV):dk aaB (λ_ _=>none) 5 8 [kB p,aap p] (Zo p) (Go.Sy.okK λr _ _ _=>Q r)=
 ag (bif p.id==p.id then eqU p.out p.out else false) (af (Zp eU szB p.inp) (Unit->True->af (Zp eN szN p.nod) (Unit->True->Q (cB.enc true)))) (Q (cB.enc false)):=by kernel_rfl
open Classical in
theorem Y1 {E:El α} {p:α->Bool} {l:List α} (h1:l.length<=1000000) (h: ∀x∈l,p x=true):Zp E p l=true:=by
 unfold Zp bW;rw[zae (za0 _),zae h1,El.good_get h,zdw rfl,Nat.beq_refl];rfl
open Classical in
def Y8:MCtr:=λbl _ args=>match args with
 | [s,t]=>match mC bl s,mC bl t with
   |some a,some b=>some {X:=Unit,pre:=a.need&&b.need&&decide (a.p=b.p),spec:=λ_=>True,out:=λ_=>cB.enc true,ex:=λ_=>⟨(),trivial⟩}
   |_,_=>none
 |_=>none
theorem ZW {E:El α} {l:List α} {bl:zdQ} {f g:ze0} {o:Option Nat} (h:j5 bl f (E.old l) o):j5 bl g (E.old l) o:=by
 cases o with
 |none=>exact h
 |some i=>
  simp only[j5] at h ⊢;cases hB:bl i with
  |none=>rw[hB] at h;exact h
  |some B=>
   rw[hB] at h;obtain⟨h1,h2,h3,h4,h5,h6⟩:=h
   exact⟨h1,h2,h3,h4,h5,λe he=>by
    have:=h6 e he;have i0:SV.idss ((E.old l).get e)= []:=E.ids _;rw[rns_free i0] at this ⊢
    exact this⟩
theorem ZA: ∀B:Base,GlobB B->VU prog B 8 Y8:=eW aag λbl nx args C hk hp=>by
 unfold Y8 at hk;split at hk
 ·rename_i s t;split at hk
  ·rename_i a b ha hb;simp only[za1] at hk;subst hk;simp only[za2,zdA] at hp;obtain⟨⟨h1,h2⟩,he⟩:=hp;obtain⟨s1,s2,s3,s4,s5,s6⟩:=eX (f:=rnF [a.o1,a.o2,b.o1,b.o2] [] nx) ha h1 rfl rfl;obtain⟨t1,t2,t3,_⟩:=eX (f:=λj=>rnF [a.o1,a.o2,b.o1,b.o2] [] nx (j+2)) hb h2 rfl rfl;rw[<-he] at t1 t2 t3;have hold: ∀C∈Zo a.p,cN C.kd=false/\C.kd.map=false:=by simp[Zo,cN,El.old,BK.map]
   refine⟨[a.o1,a.o2,b.o1,b.o2],Zo a.p, [kB a.p,aap a.p],λ_ _=>none,5,aw s1 (aw s2 (aw (ZW t1) (aw (ZW t2) trivial))),bH (λC hC=>(hold C hC).1),cd (λC hC=>(hold C hC).2),ar s3 (ar t3 rfl), ?_⟩;refine lz () trivial rfl (r:=cB.enc true) rfl rfl rfl rfl (λC hC=>(hold C hC).1) rfl ?_;rw[Zz];unfold cw at s4;simp only[za2,zaf] at s4;have hb:(bif a.p.id==a.p.id then eqU a.p.out a.p.out else false)=true:=by rw[beq_self_eq_true,Wh.2 rfl];rfl
   exact ah (λ_=>ac (Y1 s5 s4.1.1) λ_ _=>ac (Y1 s6 s4.1.2) λ_ _=>rfl) (λh=>by rw[hb] at h;cases h)
  ·cases hk
 ·cases hk
def WP (o:Int):Nd:=⟨o,VI,noU,0,1,2⟩
def zK (o:Int) (g:zdR):zdR:=λi=>bif Nat.beq i 3 then gZ (g i) 0 (svN (WP o)) else g i
def zM (a b:RS):Bool:=seq a.1 b.1&&(seq a.2 b.2&&true)
structure RulG (n m o:Int) (g:Nat->List SV):Prop where
 g0:g 0=svN (nIn 0)
 g1:g 1=svN (WI n 0)
 g2:g 2=svN (WI m 0)
 g3:g 3=svN (WP o)
variable {m o:Int} {g:zdR}
theorem RulG.next {n:Int} (h:RulG n m o g):RulG n m p (zK p g):=⟨h.g0,h.g1,h.g2,by show gZ (g 3) 0 (svN (WP p))=_;rw[h.g3];rfl⟩
theorem RulG.good {n:Int} (h:RulG n m o g):eN.good szN 4 g=true:=El.good_iff.2 λe he=>by
 rcases(show e=0\/e=1\/e=2\/e=3 by omega) with rfl|rfl|rfl|rfl
 ·rw[h.g0];exact⟨rfl,lB⟩
 ·rw[h.g1];exact⟨rfl,lB⟩
 ·rw[h.g2];exact⟨rfl,lB⟩
 ·rw[h.g3];exact⟨rfl,lB⟩
def To (p:Pr) (c:Cas):List Blk:= [eU.old p.inp,eN.old p.nod,e4.old c.x]
def SP (i:Nat) (c:Cas) (n:Nat):SV:= .agg [.val (.int .i64 c.a.1), .val (.int .i64 c.a.2.1), .val (.int .i64 c.a.2.2), .val (.int .i64 c.k), .slc i 0 n, .val (.bool c.e), .val (.int .i64 c.v.1.1), .val (.int .i64 c.v.1.2), .val (.int .i64 c.v.2.1.1), .val (.int .i64 c.v.2.1.2), .val (.int .i64 c.v.2.2.1), .val (.int .i64 c.v.2.2.2)]
abbrev Rw (p:Pr) (c:Cas) (KS:Nat->Nat->Blk->Prop):Prop:=JL [] (λ_ _=>none) 4 6 [kB p,SP 2 c c.x.length] (To p c) (xo KS)
def TI (g:zdR):List RS->Nat->Prop
 | [],_=>True
 |r::t,e=>g e=gA r/\TI g t (e+1)
def vK (l:List RS) (i n:Nat) (B:Blk):Prop:=n=l.length/\B.n=l.length/\B.sz=2/\B.kd= .own/\Nat.ble 3 i=true/\TI B.get l 0
def vT (l:List RS):Prop:=vK l 3 l.length {n:=l.length,sz:=2,get:=eR.get l,kd:= .own,nn:=false}
def vs1 (c:Cas):RS:=Yk.smallF (c.v.1.1,Int.tmod c.v.1.2 7)
def vs2 (c:Cas):RS:=Yk.smallF (c.v.2.1.1,Int.tmod c.v.2.1.2 7)
def vs3 (c:Cas):RS:=Yk.smallF (c.v.2.2.1,Int.tmod c.v.2.2.2 7)
theorem Tp (u:Un) (p:Pr) (c:Cas):Rw {p with inp:= [u]} c (vK [vs1 c])=af (uInt c.v.1.1&&uInt (Int.tmod c.v.1.2 7)) (vT [vs1 c]):=by kernel_rfl
theorem Tq (u v:Un) (p:Pr) (c:Cas):Rw {p with inp:= [u,v]} c (vK [vs1 c,vs2 c])=af (uInt c.v.1.1&&uInt (Int.tmod c.v.1.2 7)) (af (uInt c.v.2.1.1&&uInt (Int.tmod c.v.2.1.2 7)) (vT [vs1 c,vs2 c])):=by kernel_rfl
theorem Ts (u v w:Un) (p:Pr) (c:Cas):Rw {p with inp:= [u,v,w]} c (vK [vs1 c,vs2 c,vs3 c])=af (uInt c.v.1.1&&uInt (Int.tmod c.v.1.2 7)) (af (uInt c.v.2.1.1&&uInt (Int.tmod c.v.2.1.2 7)) (af (uInt c.v.2.2.1&&uInt (Int.tmod c.v.2.2.2 7)) (vT [vs1 c,vs2 c,vs3 c]))):=by kernel_rfl
def TJ (nx:Nat) (q:Pr):SV:= .agg (.val (.int .i64 q.id):: .slc nx 0 q.inp.length:: .slc (nx+1) 0 q.nod.length::ci q.out)
def SQ:MCtr:=λbl nx args=>match args with
 | [.agg [.val (.int .i64 a), .val (.int .i64 b), .val (.int .i64 c)], .val (.int .i64 k),s, .val (.bool ex)]=>match gy bl 4 s with
   |some (bb,_,n,g)=>some {X:=Unit,pre:=bb&&decide (n<=9223372036854775807)&&e4.good uz4 n g&&uInt a&&uInt b&&uInt c&&uInt k,spec:=λ_=>True,out:=λ_=>TJ nx (Bd (a,b,c) k (e4.list n g) ex),nw:=λ_=> [eU.own (Bd (a,b,c) k (e4.list n g) ex).inp,eN.own (Bd (a,b,c) k (e4.list n g) ex).nod],ex:=λ_=>⟨(),trivial⟩}
   |none=>none
 |_=>none
def Q7 (v:(Int×Int)×(Int×Int)×(Int×Int)) (k:Nat):List RS:=Go.Sy.tab (λj=>Yk.smallF (mb (0,0) [(v.1.1,Int.tmod v.1.2 7),(v.2.1.1,Int.tmod v.2.1.2 7),(v.2.2.1,Int.tmod v.2.2.2 7)] j)) k
def SR:MCtr:=λbl nx args=>match args with
 | [s, .agg [.val (.int .i64 _), .val (.int .i64 _), .val (.int .i64 _), .val (.int .i64 _),t, .val (.bool _), .val (.int .i64 a), .val (.int .i64 b), .val (.int .i64 c), .val (.int .i64 d), .val (.int .i64 e), .val (.int .i64 f)]]=>match mC bl s,gy bl 4 t with
   |some p,some (bb,_,n,g)=>some {X:=Unit,pre:=p.need&&bb&&e4.good uz4 n g&&decide (1<=p.p.inp.length)&&decide (p.p.inp.length<=3)&&uInt a&&uInt b&&uInt c&&uInt d&&uInt e&&uInt f,spec:=λ_=>True,out:=λ_=> .slc nx 0 p.p.inp.length,nw:=λ_=> [eR.own (Q7 ((a,b),(c,d),(e,f)) p.p.inp.length)],ex:=λ_=>⟨(),trivial⟩}
   |_,_=>none
 |_=>none
def SS:zdZ:= [(20,SQ),(6,SR),(12,Ru),(14,C8),(19,O2),(10,zm),(9,pN),(4,xI)]
def ST (c:Cas):List Blk:= [e4.old c.x]
def Rp (c:Cas) (ex:Bool):Pr:=Bd c.a c.k (e4.list c.x.length (e4.get c.x)) ex
def Sl (c:Cas):Bool:=(Nat.ble c.x.length c.x.length&&Nat.beq 4 4&&true)&&decide (c.x.length<=9223372036854775807)&&e4.good uz4 c.x.length (e4.get c.x)&&uInt c.a.1&&uInt c.a.2.1&&uInt c.a.2.2&&uInt c.k
def Sm (c:Cas) (p:Pr):Bool:=jn p&&(Nat.ble c.x.length c.x.length&&Nat.beq 4 4&&true)&&e4.good uz4 c.x.length (e4.get c.x)&&decide (1<=(dm p).inp.length)&&decide ((dm p).inp.length<=3)&&uInt c.v.1.1&&uInt c.v.1.2&&uInt c.v.2.1.1&&uInt c.v.2.1.2&&uInt c.v.2.2.1&&uInt c.v.2.2.2
def SU (c:Cas) (p:Pr):List RS:=Q7 c.v (dm p).inp.length
def Sn (c:Cas) (p:Pr):List RS:=eR.list (dm p).inp.length (eR.get (SU c p))
def SW (c:Cas) (p q:Pr):Bool:=jn q&&(Nat.ble (dm p).inp.length (SU c p).length&&Nat.beq 2 2&&true)&&bW (dm p).inp.length&&eR.good uzR (dm p).inp.length (eR.get (SU c p))
def Tt (y n:Int):Bool:=uInt y&&decide (0<n)
def nd1 (b:Bool) (K:Prop):Prop:=af b (Unit->True->K)
def TF:zdZ:= [(61,SZ)]
abbrev M1:=Int×List Un
abbrev M3:=Int×List Nd×List Un
def St (I1:M1->Prop) (I2 I3:M3->Prop) (N:Int):zdX:=λf k=>bif Nat.beq f 20 then(
 bif Nat.beq k 3 then some (λA=>{X:=M1,inv:=I1,tm:=λx=> [(10, .val (.int .i64 x.1))],st:= [(kA A 9,λx=>(qv A 9 0).take 1++(SV.slc A.nx 0 x.2.length::(qv A 9 0).drop 2))],gr:= [{src:= .cell (kA A 9) 0 1,sz:=20,n:=λx=>x.2.length,get:=λx=>eU.get x.2}],cleanG:=λg hg x e=>(by simp at hg;subst hg;exact eU.ids _),mu:=λx=>(4 - x.1).toNat,keep:= [1,2,3,4,8,9],sp:= [λx=>(0,x.2),λx=>(1,x.2),λx=>(2,x.2),λx=>(3,x.2)]})
 else bif Nat.beq k 8 then some (λA=>{X:=M3,inv:=I2,tm:=λx=> [(12, .val (.int .i64 x.1)),(11, .slc (A.nx+1) 0 x.2.2.length)],st:= [(kA A 9,λx=>(qv A 9 0).take 2++(SV.slc A.nx 0 x.2.1.length::(qv A 9 0).drop 3))],gr:= [{src:= .cell (kA A 9) 0 2,sz:=26,n:=λx=>x.2.1.length,get:=λx=>eN.get x.2.1},{src:= .slot 11,sz:=20,n:=λx=>x.2.2.length,get:=λx=>eU.get x.2.2}],cleanG:=λg hg x e=>(by simp at hg;rcases hg with rfl|rfl;exact eN.ids _;exact eU.ids _),mu:=λx=>(4 - x.1).toNat,keep:= [1,2,3,4,8,9]})
 else bif Nat.beq k 13 then some (λA=>{X:=M3,inv:=I3,tm:=λx=> [(13, .val (.int .i64 x.1)),(11, .slc (A.nx+1) 0 x.2.2.length)],st:= [(kA A 9,λx=>(qv A 9 0).take 2++(SV.slc A.nx 0 x.2.1.length::(qv A 9 0).drop 3))],gr:= [{src:= .cell (kA A 9) 0 2,sz:=26,n:=λx=>x.2.1.length,get:=λx=>eN.get x.2.1},{src:= .slot 11,sz:=20,n:=λx=>x.2.2.length,get:=λx=>eU.get x.2.2}],cleanG:=λg hg x e=>(by simp at hg;rcases hg with rfl|rfl;exact eN.ids _;exact eU.ids _),mu:=λx=>(N - x.1).toNat,keep:= [1,2,3,4,8,9]})
 else none) else none
def prS (K1:Nat->Nat->Blk->Nat->Nat->Blk->Int->List SV->Prop):Aft:=λr bl _ _=>match r with
 | .ok (.agg (.val (.int .i64 id):: .slc i 0 n:: .slc j 0 m::rest))=>(match bl i,bl j with
   |some B,some C=>K1 i n B j m C id rest
   |_,_=>False)
 |_=>False
abbrev TG (I1:M1->Prop) (I2 I3:M3->Prop) (N:Int) (a:Int×Int×Int) (count:Int) (xs:List I4) (ex:Bool) (K1:Nat->Nat->Blk->Nat->Nat->Blk->Int->List SV->Prop):Prop:=
 JL TF (St I1 I2 I3 N) 6 20 [.agg [.val (.int .i64 a.1), .val (.int .i64 a.2.1), .val (.int .i64 a.2.2)],cI.enc count, .slc 0 0 xs.length,cB.enc ex] [e4.old xs] (prS K1)
section
variable (I1:M1->Prop) (I2 I3:M3->Prop) (N:Int) (a:Int×Int×Int) (count:Int) (xs:List I4) (ex:Bool)
def mdC (n0:Nat) (s:SV):zdP:= .val (.int .i64 (1+co count 900)):: .slc 10 0 n0::s::ci noU
def md1 (s:SV):zdP:= .val (.int .i64 (1+co count 900))::s:: .val (.slice none 0 0)::ci noU
def S4:Prop:=tvE (cI.enc count)/\tvE (.slc 0 0 xs.length)/\tvE (cB.enc ex)/\cg 1/\cg 2/\cg 7/\True
def Ua (q:Nat) (p:Int) (m:Nat) (g:zdR) (z:M1):Prop:=(TV.v (cI.enc p)=TV.v (cI.enc z.1)/\S4 count xs ex)/\(True/\((md1 count (.slc q 0 m)=md1 count (.slc q 0 z.2.length)/\True)/\(af (Nat.beq 20 20&&decide (z.2.length<=m)) (∀e,e<z.2.length->g e=eU.get z.2 e)/\True)))
def So (n0 q1 q2:Nat) (p:Int) (m:Nat) (g:zdR) (k:Nat) (h:zdR) (z:M3):Prop:=(TV.v (cI.enc p)=TV.v (cI.enc z.1)/\TV.v (.slc q2 0 k)=TV.v (.slc q2 0 z.2.2.length)/\S4 count xs ex)/\(True/\((mdC count n0 (.slc q1 0 m)=mdC count n0 (.slc q1 0 z.2.1.length)/\True)/\
 (af (Nat.beq 26 26&&decide (z.2.1.length<=m)) (∀e,e<z.2.1.length->g e=eN.get z.2.1 e)/\(af (Nat.beq 20 20&&decide (z.2.2.length<=k)) (∀e,e<z.2.2.length->h e=eU.get z.2.2 e)/\True))))
def S5 (inp:ze1) (nod:ze2) (us:ze1) (x:Nd):Bool:=kp inp.length inp.length (eU.get inp) nod.length nod.length (eN.get nod) noU&&(Nat.ble us.length us.length&&Nat.beq 20 20&&true)&&bW us.length&&eU.good szB us.length (eU.get us)&&ndB (svN x)&&szN (Vh (svN x))&&decide ((nod.length:Int)=(us.length:Int))&&decide (1<=(Vh (svN x)).op)&&decide ((Vh (svN x)).op<=8)
def Tu (inp us:ze1) (x:Nd):Un×Int:=tyF (eU.list inp.length (eU.get inp)) (eU.list us.length (eU.get us)) (Vh (svN x))
def Rg (inp:ze1) (q1 q2:Nat) (z:M3) (x:Nd):Prop:=
 af (S5 inp z.2.1 z.2.2 x) (Unit->True->ag (bif (Tu inp z.2.2 x).2==0 then(bif !ex then true else x.op !=8) else false)
  (LY z.2.1.length (tO z.2.2.length (af (inR .i64 (z.1+1)) (∃z':M3,I3 z'/\((N - z'.1).toNat<(N - z.1).toNat/\So count xs ex inp.length q1 q2 (z.1+1) (z.2.1.length+1) (pi z.2.1 x) (z.2.2.length+1) (Jz z.2.2 (Tu inp z.2.2 x).1) z')))))
  (af (inR .i64 (z.1+1)) (∃z':M3,I3 z'/\((N - z'.1).toNat<(N - z.1).toNat/\So count xs ex inp.length 25 26 (z.1+1) z.2.1.length (eN.get z.2.1) z.2.2.length (eU.get z.2.2) z'))))
def pkB (y n:Int):Bool:=uInt y&&decide (0<n)
def Sp (inp:ze1) (z:M3) (y:I4):Prop:=
 af (pkB y.1 8) (af (inR .i64 (1+co y.1 8)) (
 ag (1+co y.1 8==1) (af (pkB y.2.1 13) (af (inR .i64 (co y.2.1 13 - 6)) (af (pkB y.2.2.1 4) (af (inR .i64 (1+co y.2.2.1 4)) (af (uInt (co y.2.1 13 - 6)&&uInt (1+co y.2.2.1 4)) (af (uInt y.2.2.2)
  (Rg I3 N count xs ex inp 102 108 z ⟨opF y,(rMk (co y.2.1 13 - 6) (1+co y.2.2.1 4)).1,BL y.2.2.2,0,0,0⟩)))))))
 (ag (1+co y.1 8==2) (af (pkB y.2.1 inp.length) (Rg I3 N count xs ex inp 93 99 z ⟨opF y,VI,noU,co y.2.1 inp.length,0,0⟩))
 (ag (1+co y.1 8==7) (af (pkB y.2.1 z.2.1.length) (af (pkB y.2.2.1 5) (af (decide (0<=co y.2.2.1 5)&&decide (co y.2.2.1 5<((5:Nat):Int))) (af (decide (0+(co y.2.2.1 5).toNat<5)) (Rg I3 N count xs ex inp 101 107 z ⟨opF y,VI,noU,T9 (co y.2.2.1 5),co y.2.1 z.2.1.length,0⟩)))))
 (ag (1+co y.1 8==8) (af (pkB y.2.1 z.2.1.length) (Rg I3 N count xs ex inp 95 101 z ⟨opF y,VI,noU,0,co y.2.1 z.2.1.length,0⟩))
   (af (pkB y.2.1 z.2.1.length) (af (pkB y.2.2.1 z.2.1.length) (Rg I3 N count xs ex inp 101 107 z ⟨opF y,VI,noU,0,co y.2.1 z.2.1.length,co y.2.2.1 z.2.1.length⟩))))))))
def Ub (K1:Nat->Nat->Blk->Nat->Nat->Blk->Int->List SV->Prop) (inp:ze1) (z0:M3):Prop:=
 ∃z1:M3,I3 z1/\(So count xs ex inp.length 17 18 0 z0.2.1.length (eN.get z0.2.1) z0.2.2.length (eU.get z0.2.2) z1/\
  ∀z:M3,I3 z->ag (bif decide (z.1<(xs.length:Int)) then decide ((z.2.1.length:Int)<14) else false)
   (eO xs.length z.1 (Sp I3 N count xs ex inp z (e4.nth xs (0+z.1.toNat))))
   (af (inR .i64 ((z.2.2.length:Int) - 1)) (eO z.2.2.length ((z.2.2.length:Int) - 1)
     (K1 10 inp.length {n:=inp.length,sz:=20,get:=eU.get inp,kd:= .own,nn:=false} 25 z.2.1.length {n:=z.2.1.length,sz:=26,get:=eN.get z.2.1,kd:= .own,nn:=false} (1+co count 900) (ci (mb noU z.2.2 (0+((z.2.2.length:Int) - 1).toNat)))))))
def T6 (K1:Nat->Nat->Blk->Nat->Nat->Blk->Int->List SV->Prop) (inp:ze1):Prop:=
 ∃z0:M3,I2 z0/\(((TV.v (cI.enc 0)=TV.v (cI.enc z0.1)/\TV.v (.val (.slice none 0 0))=TV.v (.val (.slice none z0.2.2.length 0))/\S4 count xs ex)/\(True/\((mdC count inp.length (.val (.slice none 0 0))=mdC count inp.length (.val (.slice none z0.2.1.length 0))/\True)/\(z0.2.1.length=0/\(z0.2.2.length=0/\True)))))/\
  ∀z:M3,I2 z->ag (decide (z.1<(inp.length:Int)))
   (LY z.2.1.length (eO inp.length z.1 (tO z.2.2.length (af (inR .i64 (z.1+1)) (∃z':M3,I2 z'/\((4 - z'.1).toNat<(4 - z.1).toNat/\So count xs ex inp.length 29 39 (z.1+1) (z.2.1.length+1) (pi z.2.1 (nIn z.1)) (z.2.2.length+1) (Jz z.2.2 (mb noU inp (0+z.1.toNat))) z'))))))
   (Ub I3 N count xs ex K1 inp z))
def Tv (K1:Nat->Nat->Blk->Nat->Nat->Blk->Int->List SV->Prop) (j a0:Int) (x:M1):Prop:=
 af (pkB count 3) (ag (decide (j<=co count 3)) (af (uInt a0) (tO x.2.length (∃x':M1,I1 x'/\((4 - x'.1).toNat<(4 - j).toNat/\Ua count xs ex 16 (j+1) (x.2.length+1) (Jz x.2 (BL a0)) x')))) (T6 I2 I3 N count xs ex K1 x.2))
def mdT (K1:Nat->Nat->Blk->Nat->Nat->Blk->Int->List SV->Prop):Prop:=
 af (pkB count 900) (af (inR .i64 (1+co count 900)) (∃x0:M1,I1 x0/\(((TV.v (cI.enc 0)=TV.v (cI.enc x0.1)/\S4 count xs ex)/\(True/\((md1 count (.val (.slice none 0 0))=md1 count (.val (.slice none x0.2.length 0))/\True)/\(x0.2.length=0/\True))))/\
  ((∀x:M1,I1 x->(0,x.2)=x\/(1,x.2)=x\/(2,x.2)=x\/(3,x.2)=x\/False)/\((∀x:M1,I1 (0,x.2)->Tv I1 I2 I3 N count xs ex K1 0 a.1 x)/\((∀x:M1,I1 (1,x.2)->Tv I1 I2 I3 N count xs ex K1 1 a.2.1 x)/\((∀x:M1,I1 (2,x.2)->Tv I1 I2 I3 N count xs ex K1 2 a.2.2 x)/\
    ((∀x:M1,I1 (3,x.2)->af (pkB count 3) (ag (decide (3<=co count 3)) False (T6 I2 I3 N count xs ex K1 x.2)))/\True))))))))
end
theorem Tw (I1:M1->Prop) (I2 I3:M3->Prop) (N:Int) (a:Int×Int×Int) (count:Int) (xs:List I4) (ex:Bool) (K1:Nat->Nat->Blk->Nat->Nat->Blk->Int->List SV->Prop):TG I1 I2 I3 N a count xs ex K1=mdT I1 I2 I3 N a count xs ex K1:=by kernel_rfl
theorem S6:MOk TF:=MOk.nil.cons ZR
theorem QU {y n:Int} {K:Prop} (hy:uInt y=true) (hn:0<n) (k:K):af (pkB y n) K:=ac (by unfold pkB;rw[hy,zdw hn];rfl) k
theorem Su (ni n:Int) (y:I4):(RR ni n y).op=opF y:=by
 have B: ∀(b:Bool) (x z:Nd),x.op=opF y->z.op=opF y->(cond b x z).op=opF y:=λb x z h k=>by cases b;exact k;exact h
 unfold RR;exact B _ _ _ rfl (B _ _ _ rfl (B _ _ _ rfl (B _ _ _ rfl rfl)))
theorem Tx (y:I4):1<=opF y/\opF y<=8:=by
 have:=gR y.1 (n:=8) (by decide);unfold opF;omega
theorem Sc {us:ze1} {u:Un} {z:ze1} (hz:z=us++ [u]):af (Nat.beq 20 20&&decide (z.length<=us.length+1)) (∀e,e<z.length->Jz us u e=eU.get z e):=by
 subst hz;have hl:(us++ [u]).length=us.length+1:=by simp
 exact ac (by rw[hl,zdw (za0 _)];rfl) λe he=>Fp (by omega)
theorem S7 {us:ze2} {u:Nd} {z:ze2} (hz:z=us++ [u]):af (Nat.beq 26 26&&decide (z.length<=us.length+1)) (∀e,e<z.length->pi us u e=eN.get z e):=by
 subst hz;have hl:(us++ [u]).length=us.length+1:=by simp
 exact ac (by rw[hl,zdw (za0 _)];rfl) λe he=>pO (by omega)
section
variable {I1:M1->Prop} {I2 I3:M3->Prop} {N:Int} {a:Int×Int×Int} {count:Int} {xs:List I4} {ex:Bool}
theorem Rh:S4 count xs ex:=⟨rfl,rfl,rfl,rfl,rfl,rfl,trivial⟩
variable {p:Int} {us:ze1} {u:Un}
theorem Ty {q:Nat} :Ua count xs ex q p (us.length+1) (Jz us u) (p,us++ [u]):=
 ⟨⟨rfl,Rh⟩,trivial,⟨by simp,trivial⟩,Sc rfl,trivial⟩
variable {n0 q1 q2:Nat} {nod:ze2} {x:Nd}
theorem Sv:So count xs ex n0 q1 q2 p (nod.length+1) (pi nod x) (us.length+1) (Jz us u) (p,nod++ [x],us++ [u]):=
 ⟨⟨rfl,by simp,Rh⟩,trivial,⟨by simp,trivial⟩,S7 rfl,Sc rfl,trivial⟩
theorem RL:So count xs ex n0 q1 q2 p nod.length (eN.get nod) us.length (eU.get us) (p,nod,us):=
 ⟨⟨rfl,rfl,Rh⟩,trivial,⟨rfl,trivial⟩,ac (by simp) (λ_ _=>rfl),ac (by simp) (λ_ _=>rfl),trivial⟩
variable {inp:ze1}
theorem Tz:Tu inp us x=tyF inp us x:=by
 unfold Tu;rw[show eU.list inp.length (eU.get inp)=inp from El.list_get,show eU.list us.length (eU.get us)=us from El.list_get,fR]
theorem S8 (h:MadOK inp (nod,us)) (hi: ∀u∈inp,szB u=true) (hl:inp.length<=1000000) (hx:szN x=true) (ho:1<=x.op/\x.op<=8):S5 inp nod us x=true:=by
 have h1:us.length=nod.length:=h.len;have h2:nod.length<=14:=h.le;unfold S5 bW;rw[uf hl (show nod.length<=1000000 by omega) (El.good_get hi) (show eN.good szN nod.length (eN.get nod)=true from El.good_get h.szn) (by decide),zae (za0 _),zae (show us.length<=1000000 by omega),El.good_get h.szu,fR,hx,h1,zdw rfl,zdw ho.1,zdw ho.2];rfl
theorem S9 {i:Int} (h:MadOK inp (nod,us)) (hi: ∀u∈inp,szB u=true) (hl:inp.length<=1000000) (hx:szN x=true) (ho:1<=x.op/\x.op<=8) (h0:0<=i) (h1:i<N) (hN:N<=9223372036854775807)
 (hS:I3 (i+1,match mn inp us x with
   |some u=>bif !ex||x.op !=8 then(nod++ [x],us++ [u]) else(nod,us)
   |none=>(nod,us))):Rg I3 N count xs ex inp q1 q2 (i,nod,us) x:=by
 have a1:us.length=nod.length:=h.len;have a2:nod.length<=14:=h.le;unfold Rg;rw[Tz];dsimp only;have no:(∃z,z=(nod,us)/\I3 (i+1,z))->af (inR .i64 (i+1)) (∃z':M3,I3 z'/\((N - z'.1).toNat<(N - i).toNat/\So count xs ex inp.length 25 26 (i+1) nod.length (eN.get nod) us.length (eU.get us) z')):=by
  rintro⟨z,rfl,hz⟩;exact ac (VP.2 (by omega)) ⟨(i+1,nod,us),hz,by show (_:Nat)<_;dsimp only;omega,RL⟩
 refine ac (S8 h hi hl hx ho) λ_ _=>ah (λhb=> ?_) (λhb=>no ?_)
 ·cases ht:mn inp us x with
  |none=>
   unfold tyF at hb;rw[ht] at hb;cases hb
  |some u=>
   rw[ht] at hS;have e:tyF inp us x=(u,0):=by unfold tyF;rw[ht]
   rw[e] at hb ⊢;have hc:(!ex||x.op !=8)=true:=by rw[<-QN];exact hb
   rw[hc] at hS;exact xp (by omega) (fV (by omega) (ac (VP.2 (by omega)) ⟨(i+1,nod++ [x],us++ [u]),hS,by show (_:Nat)<_;dsimp only;omega,Sv⟩))
 ·cases ht:mn inp us x with
  |none=>rw[ht] at hS;exact⟨_,rfl,hS⟩
  |some u=>
   rw[ht] at hS;have e:tyF inp us x=(u,0):=by unfold tyF;rw[ht]
   rw[e] at hb;have hc:(!ex||x.op !=8)=false:=by rw[<-QN];exact hb
   rw[hc] at hS;exact⟨_,rfl,hS⟩
theorem SH {z:M3} {y:I4} (hy:uz4 y=true) (hi:1<=inp.length) (hz:1<=z.2.1.length) (h: ∀q1 q2,Rg I3 N count xs ex inp q1 q2 z (RR inp.length z.2.1.length y)):Sp I3 N count xs ex inp z y:=by
 unfold uz4 at hy;simp only[za2] at hy;obtain⟨⟨⟨y1,y2⟩,y3⟩,y4⟩:=hy;have b1:=gR y.1 (n:=8) (by decide);have b2:=gR y.2.1 (n:=13) (by decide);have b3:=gR y.2.2.1 (n:=4) (by decide);have b4:=gR y.2.2.1 (n:=5) (by decide);have E: ∀{x:Nd} (q1 q2:Nat),RR inp.length z.2.1.length y=x->Rg I3 N count xs ex inp q1 q2 z x:=λ{x} q1 q2 e=>by rw[<-e];exact h q1 q2
 unfold RR opF at E;unfold Sp;refine QU y1 (by decide) (Fy (by omega) (ah (λo1=> ?_) (λo1=>ah (λo2=> ?_) (λo2=>ah (λo7=> ?_) (λo7=>ah (λo8=> ?_) (λo8=> ?_))))))
 ·refine QU y2 (by decide) (Fy (by omega) (QU y3 (by decide) (Fy (by omega) (ac (by rw[V4.2 (by omega),V4.2 (by omega)];rfl) (ac y4 (E _ _ ?_))))));rw[o1];rfl
 ·refine QU y2 (by omega) (E _ _ ?_);rw[o1,o2];rfl
 ·refine QU y2 (by omega) (QU y3 (by decide) (ac (by rw[zdw b4.1,zdw (show co y.2.2.1 5<((5:Nat):Int) from b4.2)];rfl) (ac (zdw (by omega)) (E _ _ ?_))));rw[o1,o2,o7];rfl
 ·refine QU y2 (by omega) (E _ _ ?_);rw[o1,o2,o7,o8];rfl
 ·refine QU y2 (by omega) (QU y3 (by omega) (E _ _ ?_));rw[o1,o2,o7,o8];rfl
end
def Ta (a:Int×Int×Int) (count:Int) (z:M1):Prop:=0<=z.1/\z.1<=co count 3+1/\z.2=QQ a z.1.toNat
def Tb (a:Int×Int×Int) (count:Int) (z:M3):Prop:=0<=z.1/\z.1<=co count 3+1/\z.2.1=R9 z.1.toNat/\z.2.2=QQ a z.1.toNat
def SI (a:Int×Int×Int) (count:Int) (xs:List I4) (ex:Bool) (z:M3):Prop:=0<=z.1/\z.1<=xs.length/\MadOK (QQ a ((co count 3).toNat+1)) z.2/\Rb a count xs ex=RT ex (QQ a ((co count 3).toNat+1)) (xs.drop z.1.toNat) z.2
def mdK (p:Pr) (i n:Nat) (B:Blk) (j m:Nat) (C:Blk) (id:Int) (rest:zdP):Prop:=i=10/\n=p.inp.length/\B=eU.own p.inp/\j=25/\m=p.nod.length/\C=eN.own p.nod/\id=p.id/\rest=ci p.out
variable {ex:Bool} {inp:ze1}
theorem SJ {r:List I4} {z:List Nd×List Un} (h: ¬z.1.length<14):RT ex inp r z=z:=by
 cases r with
 |nil=>rfl
 |cons y r=>unfold RT;rw[zdz h];rfl
variable {a:Int×Int×Int} {count:Int} {xs:List I4}
theorem TA {z0:M3} (hx: ∀y∈xs,uz4 y=true) (hn:xs.length<=9223372036854775807) (h1:z0.2.1=R9 ((co count 3).toNat+1)) (h2:z0.2.2=QQ a ((co count 3).toNat+1)):
 Ub (SI a count xs ex) xs.length count xs ex (mdK (Bd a count xs ex)) (QQ a ((co count 3).toNat+1)) z0:=by
 have hK:=Rc (count:=count);have hi:(QQ a ((co count 3).toNat+1)).length=(co count 3).toNat+1:=QR;refine⟨(0,z0.2),⟨zat _,by show (0:Int)<=_;omega, ?_, ?_⟩,RL, ?_⟩
 ·show MadOK _ (z0.2.1,z0.2.2);rw[h1,h2];exact⟨by rw[QR,QZ],by rw[QZ];exact hK.1,by rw[QZ];omega,Si (za0 _),RU,QT QY⟩
 ·show _=RT _ _ xs (z0.2.1,z0.2.2);rw[h1,h2];rfl
 rintro⟨i,nod,us⟩ ⟨k0,k1,k2,k3⟩;dsimp only at k0 k1 k2 k3 ⊢;have ln:us.length=nod.length:=k2.len;have l1:1<=nod.length:=k2.pos;have l2:nod.length<=14:=k2.le;refine ah (λhb=> ?_) (λhb=> ?_)
 ·rw[QM,za2] at hb;have b1:=zdB hb.1;have b2:nod.length<14:=by have:=zdB hb.2;omega
  have hd:xs.drop i.toNat=mb (0,0,0,0) xs i.toNat::xs.drop (i+1).toNat:=by
   rw[show (i+1).toNat=i.toNat+1 by omega,zaH (show i.toNat<xs.length by omega),bR (zaa _)]
  rw[hd,RT,zdw (show (nod,us).1.length<14 from b2),zdy] at k3;rw[za7];have hy:uz4 (mb (0,0,0,0) xs i.toNat)=true:=hx _ (bw (by omega));refine aY k0 b1 (SH (y:=mb (0,0,0,0) xs i.toNat) hy (by omega) l1 λq1 q2=> ?_);refine S9 k2 (QT QY) (by omega) (Sr _ _ _) (by rw[Su];exact Tx _) k0 b1 (by omega) ?_;rw[Su];have st:=k2.step (ex:=ex) (y:=mb (0,0,0,0) xs i.toNat) (QT QY) b2;exact⟨by show 0<=i+1;omega,by show i+1<=_;omega,st,k3⟩
 ·have hz:Rb a count xs ex=(nod,us):=by
   rw[k3];rw[QM] at hb;by_cases c:i<xs.length
   ·rw[zdw c,zb7] at hb;have:=zdC hb;exact SJ (by show ¬nod.length<14;omega)
   ·rw[show i.toNat=xs.length by omega,zbk];rfl
  refine ac (VP.2 (by omega)) (aY (by omega) (by omega) ⟨rfl,rfl,rfl,rfl, ?_, ?_,rfl, ?_⟩)
  ·show nod.length=(Rb a count xs ex).1.length;rw[hz]
  ·show _=eN.own (Rb a count xs ex).1;rw[hz];rfl
  ·show _=ci (ly (Rb a count xs ex).2);rw[hz,show 0+((us.length:Int) - 1).toNat=us.length - 1 by omega];rfl
theorem Sw (hx: ∀y∈xs,uz4 y=true) (hn:xs.length<=9223372036854775807) (h:inp=QQ a ((co count 3).toNat+1)):
 T6 (Tb a count) (SI a count xs ex) xs.length count xs ex (mdK (Bd a count xs ex)) inp:=by
 subst h;have hK:=Rc (count:=count);have hp:=gR count (n:=3) (by decide);have hi:(QQ a ((co count 3).toNat+1)).length=(co count 3).toNat+1:=QR;refine⟨(0, [], []),⟨zat _,by show (0:Int)<=_;omega,rfl,rfl⟩,⟨⟨rfl,rfl,Rh⟩,trivial,⟨rfl,trivial⟩,rfl,rfl,trivial⟩, ?_⟩;rintro⟨i,nod,us⟩ ⟨k0,k1,k2,k3⟩;dsimp only at k0 k1 k2 k3 ⊢;refine ah (λhb=> ?_) (λhb=> ?_)
 ·have hb:=zdB hb;have l1:nod.length=i.toNat:=by rw[k2,QZ]
  have l2:us.length=i.toNat:=by rw[k3,QR]
  rw[za7];have e1:(i+1).toNat=i.toNat+1:=by omega
  refine xp (by omega) (aY k0 hb (fV (by omega) (ac (VP.2 (by omega)) ⟨(i+1,nod++ [nIn i],us++ [mb noU (QQ a ((co count 3).toNat+1)) i.toNat]),⟨by show 0<=i+1;omega,by show i+1<=_;omega, ?_, ?_⟩,by show (_:Nat)<_;dsimp only;omega,Sv⟩)))
  ·show nod++ [nIn i]=R9 (i+1).toNat;rw[e1,k2];show _=R9 i.toNat++ [nIn (i.toNat:Nat)];rw[show ((i.toNat:Nat):Int)=i by omega]
  ·show us++ [_]=QQ a (i+1).toNat;rw[e1,k3];show _=QQ a i.toNat++ [BL (mb 0 [a.1,a.2.1,a.2.2] i.toNat)];rw[show mb noU (QQ a ((co count 3).toNat+1)) i.toNat=BL (mb 0 [a.1,a.2.1,a.2.2] i.toNat) from bR (qX _ (by omega))]
 ·have hb:=zdC hb;have e:i.toNat=(co count 3).toNat+1:=by omega
  exact TA hx hn (by rw[<-e];exact k2) (by rw[<-e];exact k3)
theorem RW {j a0:Int} {x:M1} (hc:uInt count=true) (ha:uInt a0=true) (hx: ∀y∈xs,uz4 y=true) (hn:xs.length<=9223372036854775807) (hj:0<=j/\j<=2) (he:mb 0 [a.1,a.2.1,a.2.2] j.toNat=a0) (h:Ta a count (j,x.2)):
 Tv (Ta a count) (Tb a count) (SI a count xs ex) xs.length count xs ex (mdK (Bd a count xs ex)) j a0 x:=by
 obtain⟨k0,k1,k2⟩:=h;dsimp only at k0 k1 k2;have l2:x.2.length=j.toNat:=by rw[k2,QR]
 refine QU hc (by decide) (ah (λhb=> ?_) (λhb=> ?_))
 ·have hb:=zdB hb;have e1:(j+1).toNat=j.toNat+1:=by omega
  refine ac ha (fV (by omega) ⟨(j+1,x.2++ [BL a0]),⟨by show 0<=j+1;omega,by show j+1<=_;omega, ?_⟩,by show (_:Nat)<_;dsimp only;omega,Ty⟩);show x.2++ [BL a0]=QQ a (j+1).toNat;rw[e1,k2];show _=QQ a j.toNat++ [BL (mb 0 [a.1,a.2.1,a.2.2] j.toNat)];rw[he]
 ·have hb:=zdC hb;have hp:=gR count (n:=3) (by decide);exact Sw hx hn (by rw[k2];congr 1;omega)
theorem T7 (h0:uInt a.1=true) (h1:uInt a.2.1=true) (h2:uInt a.2.2=true) (hc:uInt count=true) (hx: ∀y∈xs,uz4 y=true) (hn:xs.length<=9223372036854775807):
 mdT (Ta a count) (Tb a count) (SI a count xs ex) xs.length a count xs ex (mdK (Bd a count xs ex)):=by
 have hp:=gR count (n:=3) (by decide);have hq:=gR count (n:=900) (by decide);refine QU hc (by decide) (Fy (by omega) ⟨(0, []),⟨zat _,by show (0:Int)<=_;omega,rfl⟩,⟨⟨rfl,Rh⟩,trivial,⟨rfl,trivial⟩,rfl,trivial⟩, ?_,λx hI=>RW hc h0 hx hn (by decide) rfl hI,λx hI=>RW hc h1 hx hn (by decide) rfl hI,λx hI=>RW hc h2 hx hn (by decide) rfl hI,λx hI=> ?_,trivial⟩)
 ·rintro⟨i,us⟩ ⟨k0,k1,_⟩;dsimp only at k0 k1;rcases(show i=0\/i=1\/i=2\/i=3 by omega) with rfl|rfl|rfl|rfl
  ·exact .inl rfl
  ·exact .inr (.inl rfl)
  ·exact .inr (.inr (.inl rfl))
  ·exact .inr (.inr (.inr (.inl rfl)))
 ·obtain⟨_,k1,k2⟩:=hI;dsimp only at k1 k2;refine QU hc (by decide) (ah (λhb=> ?_) (λhb=>Sw hx hn (by rw[k2];congr 1;show (3:Int).toNat=_;omega)));have:=zdB hb;omega
theorem SK {K1:Nat->Nat->Blk->Nat->Nat->Blk->Int->List SV->Prop} {r:Res} {b:zdQ} {m:Nat} {w:List Nat} (h:prS K1 r b m w): ∃id i n j m B C rest,r= .ok (.agg (.val (.int .i64 id):: .slc i 0 n:: .slc j 0 m::rest))/\b i=some B/\b j=some C/\K1 i n B j m C id rest:=by
 unfold prS at h;split at h
 ·rename_i id i n j m rest;split at h
  ·rename_i B C hB hC;exact⟨id,i,n,j,m,B,C,rest,rfl,hB,hC,h⟩
  ·exact h.elim
 ·exact h.elim
theorem Tc: ∀B:Base,GlobB B->VU prog B 20 SQ:=Sh S6 λbl nx args C hk hp=>by
 unfold SQ at hk;split at hk
 ·rename_i a b c k s ex;split at hk
  ·rename_i bb o n g hs;simp only[za1] at hk;subst hk;simp only[za2,zdA] at hp;obtain⟨⟨⟨⟨⟨⟨rfl,hn⟩,hg⟩,h0⟩,h1⟩,h2⟩,hc⟩:=hp;obtain⟨t1,t2⟩:=cq (f:=rnF [o] [] nx) hs hg;have hlen:(e4.list n g).length=n:=El.list_length;have hold: ∀C∈ [e4.old (e4.list n g)],cN C.kd=false/\C.kd.map=false:=by simp[cN,El.old,BK.map]
   have ml:=Sb (a:=(a,b,c)) (count:=k) (xs:=e4.list n g) (ex:=ex);refine⟨[o], [e4.old (e4.list n g)], [.agg [.val (.int .i64 a), .val (.int .i64 b), .val (.int .i64 c)], .val (.int .i64 k), .slc 0 0 (e4.list n g).length, .val (.bool ex)],St (Ta (a,b,c) k) (Tb (a,b,c) k) (SI (a,b,c) k (e4.list n g) ex) (e4.list n g).length,6,aw t1 trivial,bH (λC hC=>(hold C hC).1),cd (λC hC=>(hold C hC).2),ar rfl (ar rfl (ar (t2 0 rfl) rfl)), ?_⟩;refine Q8 (K:=prS (mdK (Bd (a,b,c) k (e4.list n g) ex))) ?_ λr bl' m w h=> ?_
   ·have:=Tw (Ta (a,b,c) k) (Tb (a,b,c) k) (SI (a,b,c) k (e4.list n g) ex) (e4.list n g).length (a,b,c) k (e4.list n g) ex (mdK (Bd (a,b,c) k (e4.list n g) ex));show TG _ _ _ _ (a,b,c) k (e4.list n g) ex _;rw[this];exact T7 h0 h1 h2 hc (El.good_list hg) (by omega)
   ·generalize Bd (a,b,c) k (e4.list n g) ex=p at h ml;obtain⟨id,i,n',j,m',B,C,rest,rfl,hB,hC,rfl,rfl,rfl,rfl,rfl,rfl,rfl,rfl⟩:=SK h;have e:=rns_free (f:=dt [o] [some 10,some 25] nx) (fj p.out);have e0:dt [o] [some 10,some 25] nx nx=some (some 10):=cO;have e1:dt [o] [some 10,some 25] nx (nx+1)=some (some 25):=jA 1;refine⟨(),trivial, [some 10,some 25],⟨_,rfl, ?_⟩,by simp[ck],⟨⟨by simp, ?_⟩,⟨by simp, ?_⟩,trivial⟩,cr (λC hC=>(hold C hC).1) rfl _⟩
    ·show SV.rn (dt [o] [some 10,some 25] nx) (TJ nx p)=_;unfold TJ;exact Xs (ar rfl (ar (by simp only[SV.rn,e0]) (ar (by simp only[SV.rn,e1]) e)))
    ·rw[hB];exact⟨by simp[El.own],λ_=>⟨ml.1,eU.one⟩,gC rfl rfl (za0 _) λ_ _=>rfl⟩
    ·rw[hC];exact⟨by simp[El.own],λ_=>⟨ml.2.2.1,eN.one⟩,gC rfl rfl (za0 _) λ_ _=>rfl⟩
  ·cases hk
 ·cases hk
end Go.Proofs.YtdbpmmihpmbbdaaGreatDoor
namespace Yk
open Go Go.RowKit Go.ChangeShapes Go.WideShapes
section
variable {H:Type} {enc:TypeId×Value->H} {P:Program} {w:World} {base b0:Nat} {spare:zdU} {held:Bool} {r:Reach} {v:Value} {d:DataW H} {ps:List MemPlace}
theorem ki {z:Int} (h:(Lit.int .i64 z).wf=true): -9223372036854775808<=z/\z<=9223372036854775807:=bounds_i64 h
end
theorem wd {H:Type} {enc:TypeId×Value->H} {P:Program} (hl:laidOutB P=true) {W W':World} (hb:Below W.heap.size W W'): ∀(ts:List TypeId) (vs:List Value) (ds:List (DataW H)) (p:List MemPlace),
 (∀t∈ts,P.readableRec t=true/\t<P.types.size)->(∀x∈p,x.block<W.heap.size)->DataW.TrodAll enc P W 0 (λ_=>true) true ts vs ds p->DataW.TrodAll enc P W' 0 (λb=>decide (b<W.heap.size)) true ts vs ds p
 | [], [], [],_,_,_,h=>h
 |t::ts,v::vs,d::ds,_,hr,hp,h=>by
  obtain⟨p,q,h1,h2,rfl⟩:=h;exact⟨p,q,Below.trod hl (hr t (by simp)).1 (hr t (by simp)).2 h1 hb (λx hx=>hp x (by simp[hx])),wd hl hb ts vs ds q (λt ht=>hr t (by simp[ht])) (λx hx=>hp x (by simp[hx])) h2,rfl⟩
 | [], [],_::_,_,_,_,h=>h.elim
 | [],_::_,_,_,_,_,h=>h.elim
 |_::_, [],_,_,_,_,h=>h.elim
 |_::_,_::_, [],_,_,_,h=>h.elim
inductive Leaf where
 |int (k:IntKind)
 |bool
 |str
def Leaf.ok:Leaf->Value->Prop
 | .int k,v=> ∃z,v= .int k z/\k.min<=z/\z<=k.max
 | .bool,v=> ∃b,v= .bool b
 | .str,v=> ∃s:ByteArray,v= .string s/\s.size<=maxLen
def okL:List Leaf->List Value->Prop
 | [], []=>True
 |l::ls,v::vs=>l.ok v/\okL ls vs
 |_,_=>False
theorem Q9: ∀{a b:List Leaf} {u v:List Value},okL a u->okL b v->okL (a++b) (u++v)
 | [],_, [],_,_,h=>h
 |_::_,_,_::_,_,h,k=>⟨h.1,Q9 h.2 k⟩
 | [],_,_::_,_,h,_=>h.elim
 |_::_,_, [],_,h,_=>h.elim
def Ri (P:Program) (g:TypeId->Option (List Leaf)):List Field->Nat->Option (List Leaf)
 | [],_=>some []
 |f::fs,off=>match g f.type with
  |some l=>if P.cellsOf f.type=l.length/\f.offset=off then(match Ri P g fs (off+l.length) with
   |some r=>some (l++r)
   |none=>none) else none
  |none=>none
def QV (P:Program):Nat->TypeId->Option (List Leaf)
 |0,_=>none
 |d+1,t=>match P.underlying t with
  |some .bool=>some [.bool]
  |some (.int k)=>some [.int k]
  |some .string=>some [.str]
  |some (.array n e)=>match QV P d e with
   |some l=>if P.cellsOf e=l.length/\P.cellsOf t=n*l.length then some (List.replicate n l).flatten else none
   |none=>none
  |some (.struct fs)=>match Ri P (QV P d) fs.toList 0 with
   |some l=>if P.cellsOf t=l.length then some l else none
   |none=>none
  |_=>none
section
variable {H:Type} {enc:TypeId×Value->H} {P:Program} {w:World} {base:Nat} {spare:zdU} {held:Bool}
theorem Sx {l:List Leaf}: ∀(n:Nat) (cs:List Value),cs.length=n*l.length->(∀i,i<n->okL l ((cs.drop (i*l.length)).take l.length))->okL (List.replicate n l).flatten cs
 |0,cs,hl,_=>by
  have:cs= []:=zau (by omega);subst this;trivial
 |n+1,cs,hl,h=>by
  rw[zci,List.flatten_cons,<-zds l.length cs];refine Q9 (by simpa using h 0 (by omega)) (Sx n _ (by rw[zbR,hl,zaG];omega) λi hi=> ?_);have:=h (i+1) (by omega);rw[List.drop_drop];rwa[zaG,Nat.one_mul,zb4] at this
theorem Rj {g:TypeId->Option (List Leaf)} (hg: ∀{fuel:Nat} {t:TypeId} {cs:List Value} {x:DataW H×List MemPlace} {l:List Leaf},g t=some l->DataW.trod enc P w base spare held fuel t cs=some x->okL l cs):
 ∀{fs:List Field} {off:Nat} {cs:List Value} {l:List Leaf},Ri P g fs off=some l->off+l.length<=cs.length->
 (∀f∈fs,∃fuel x,DataW.trod enc P w base spare held fuel f.type ((cs.drop f.offset).take (P.cellsOf f.type))=some x)->okL l ((cs.drop off).take l.length)
 | [],off,cs,l,h,_,_=>by simp[Ri] at h;subst h;simp[okL]
 |f::fs,off,cs,l,h,hl,hf=>by
  rw[Ri] at h;split at h
  ·rename_i a ha;split at h
   ·rename_i hc;split at h
    ·rename_i r hr;cases h;simp only[za3] at hl ⊢;obtain⟨fuel,x,h1⟩:=hf f (by simp);rw[hc.1,hc.2] at h1;have h2:=Rj hg hr (cs:=cs) (by omega) (λg hg=>hf g (zan _ hg));rw[List.take_add,List.drop_drop];exact Q9 (hg ha h1) h2
    ·cases h
   ·cases h
  ·cases h
theorem FB: ∀(d:Nat) {fuel:Nat} {t:TypeId} {cs:List Value} {x:DataW H×List MemPlace} {l:List Leaf},QV P d t=some l->DataW.trod enc P w base spare held fuel t cs=some x->okL l cs
 |0,_,_,_,_,_,h,_=>by simp[QV] at h
 |d+1,fuel,t,cs,x,l,h,hx=>by
  rw[QV] at h;split at h
  ·rename_i ht;obtain⟨b,rfl,_⟩:=DataW.trod_bool ht hx;cases h;exact⟨⟨b,rfl⟩,trivial⟩
  ·rename_i k ht;obtain⟨z,rfl,_,hw⟩:=DataW.trod_int ht hx;cases h;simp only[Lit.wf,za2,zdA] at hw;exact⟨⟨z,rfl,hw⟩,trivial⟩
  ·rename_i ht;obtain⟨s,rfl,_,hs⟩:=DataW.trod_string ht hx;cases h;exact⟨⟨s,rfl,hs⟩,trivial⟩
  ·rename_i n e ht;split at h
   ·rename_i le hle;split at h
    ·rename_i hc;cases h;obtain⟨xs,m,_,_,hl,hn,hel⟩:=DataW.trod_array ht hx;rw[hc.2] at hl;rw[hc.1] at hel;refine Sx n cs hl λi hi=> ?_;have:=hel i hi;rw[zaa (by omega)] at this;exact FB d hle this
    ·cases h
   ·cases h
  ·rename_i fs ht;split at h
   ·rename_i lf hlf;split at h
    ·rename_i hc;cases h;obtain⟨xs,m,_,_,hl,hn,hel⟩:=DataW.trod_struct ht hx;rw[hc] at hl
     have:=Rj (g:=QV P d) (λh1 h2=>FB d h1 h2) (fs:=fs.toList) (off:=0) (cs:=cs) hlf (by omega) (λf hf=>by
      obtain⟨i,hi,e⟩:=zbS hf;have h1:=hel i f (by rw[<-Array.getElem?_toList];rw[zaa hi,e]);rw[zaa (by simp at hi;omega)] at h1
      exact⟨_,_,h1⟩)
     rwa[zb0,zaI (by omega)] at this
    ·cases h
   ·cases h
  ·cases h
end
variable {vs:List Value}
theorem Rk {l:Leaf} {ls:List Leaf} (h:okL (l::ls) vs): ∃v r,vs=v::r/\l.ok v/\okL ls r:=by
 match vs,h with
 |v::r,h=>exact⟨v,r,rfl,h.1,h.2⟩
theorem TB (h:okL [] vs):vs= []:=by
 match vs,h with
 | [],_=>rfl
end Yk
namespace Yk
open Go Go.RowKit Go.ChangeShapes Go.WideShapes Go.Sy
section
variable {H:Type} {enc:TypeId×Value->H} {P:Program} {w:World} {base:Nat}
theorem u64 {z:Int} (h:IntKind.i64.min<=z/\z<=IntKind.i64.max):uInt z=true:=by
 exact Wl.2 h
variable {e:TypeId} {held:Bool}
theorem Sd {fuel:Nat} {a:Addr} {x:DataW H×List MemPlace} {spare:zdU} (he:QV P 9 e=some [.int .i64, .int .i64, .int .i64, .int .i64]) (hs:a.spot=none) {i:Nat}
 (h:(w.cells? base (a.add (i*4)) 4).bind (DataW.trod enc P w base spare held fuel e)=some x): ∃y:I4,uz4 y=true/\ ∀o z,(RQ y)[o]? =some z->w.cell? ⟨a.block,a.off+i*4+o,none⟩=some (z.conc oj):=by
 rw[Option.bind_eq_some_iff] at h;obtain⟨cs,hc,hx⟩:=h;obtain⟨_,hl,hget⟩:=World.cells?_some hc;have hk:=FB 9 he hx;have ad: ∀o,(a.add (i*4)).add o=⟨a.block,a.off+i*4+o,none⟩:=λo=>by
  obtain⟨b,f,s⟩:=a;obtain rfl:s=none:=hs;unfold Addr.add;split<;>split<;>simp_all<;>omega
 obtain⟨_,_,rfl,⟨y0,rfl,b0⟩,h1⟩:=Rk hk;obtain⟨_,_,rfl,⟨y1,rfl,b1⟩,h2⟩:=Rk h1;obtain⟨_,_,rfl,⟨y2,rfl,b2⟩,h3⟩:=Rk h2;obtain⟨_,_,rfl,⟨y3,rfl,b3⟩,h4⟩:=Rk h3;obtain rfl:=TB h4;refine⟨(y0,y1,y2,y3),by unfold uz4;rw[u64 b0,u64 b1,u64 b2,u64 b3];rfl,λo z hz=> ?_⟩;have ho:o<4:=by
  rcases zah o 4 with h|h
  ·exact h
  ·rw[zad (by show 4<=o;exact h)] at hz;cases hz
 rw[<-ad,hget o ho];rcases(show o=0\/o=1\/o=2\/o=3 by omega) with rfl|rfl|rfl|rfl<;>(simp[RQ] at hz;subst hz;rfl)
def Uc (P:Program) (t e:TypeId):Bool:=match P.cellTypes P.depth t with
 |some l=>l.length==12&&l[4]? ==some e
 |none=>false
theorem Td {r:Reach} {b0:Nat} {v:Value} {dd:DataW H} {ps:List MemPlace} {t:TypeId} {fs:Array Go.Field} {f0 f1 f2 f3 f4:Go.Field} (hu:P.underlying t=some (.struct fs)) (hfs:fs.toList= [f0,f1,f2,f3,f4]) (hc:P.cellsOf t=12)
 (h0:f0.offset=0/\P.cellsOf f0.type=3/\QV P 9 f0.type=some [.int .i64, .int .i64, .int .i64]) (h1:f1.offset=3/\P.cellsOf f1.type=1/\QV P 9 f1.type=some [.int .i64]) (h2:f2.offset=4/\P.cellsOf f2.type=1/\P.underlying f2.type=some (.slice e))
 (h3:f3.offset=5/\P.cellsOf f3.type=1/\QV P 9 f3.type=some [.bool]) (h4:f4.offset=6/\P.cellsOf f4.type=6/\QV P 9 f4.type=some [.int .i64, .int .i64, .int .i64, .int .i64, .int .i64, .int .i64])
 (he:P.cellsOf e=4/\QV P 9 e=some [.int .i64, .int .i64, .int .i64, .int .i64]) (ht:Uc P t f2.type=true)
 (hval:Value.okWide P w r b0 t v) (hd:DataW.Trod enc P w base (λ_=>true) held t v dd ps): ∃(c:Cas) (L:Go.Sy.Loc),v=(Rs c c.x.length).conc (λ_=>L)/\c.ok=true/\BlkOK (λ_=>L) 0 (e4.old c.x) w/\c.x.length<=maxLen:=by
 simp only[Value.okWide,hu] at hval;obtain⟨cs,rfl,hsz,ts,hts,_,hrow⟩:=hval;have ht4:ts.length=12/\ts[4]? =some f2.type:=by
  unfold Uc at ht;rw[hts] at ht;simpa using ht
 obtain⟨fuel,hf⟩:=hd;obtain⟨xs,m,_,_,hl,hn,hel⟩:=DataW.trod_struct hu hf;have hL:cs.toList.length=12:=by rw[Array.length_toList,hsz,hc]
 have fld: ∀(i:Nat) (f:Go.Field),fs.toList[i]? =some f-> ∃x,DataW.trod enc P w base (λ_=>true) held m f.type ((cs.toList.drop f.offset).take (P.cellsOf f.type))=some x:=λi f hi=>by
  have h1:=hel i f (by rw[<-Array.getElem?_toList];exact hi);have hlt:i<fs.toList.length:=(zaV.1 hi).1;rw[zaa (by simp at hlt;omega)] at h1;exact⟨_,h1⟩
 rw[hfs] at fld;obtain⟨cs⟩:=cs;dsimp only at hL fld hrow ⊢
 match cs,hL with
 | [c0,c1,c2,c3,c4,c5,c6,c7,c8,c9,ca,cb],_=>
 obtain⟨x0,k0⟩:=fld 0 f0 rfl;obtain⟨x1,k1⟩:=fld 1 f1 rfl;obtain⟨x2,k2⟩:=fld 2 f2 rfl;obtain⟨x3,k3⟩:=fld 3 f3 rfl;obtain⟨x4,k4⟩:=fld 4 f4 rfl;rw[h0.1,h0.2.1] at k0;rw[h1.1,h1.2.1] at k1;rw[h2.1,h2.2.1] at k2;rw[h3.1,h3.2.1] at k3;rw[h4.1,h4.2.1] at k4;obtain⟨⟨a0,rfl,b0⟩,⟨a1,rfl,b1⟩,⟨a2,rfl,b2⟩,_⟩:=FB 9 h0.2.2 k0;obtain⟨⟨a3,rfl,b3⟩,_⟩:=FB 9 h1.2.2 k1;obtain⟨⟨a5,rfl⟩,_⟩:=FB 9 h3.2.2 k3;obtain⟨⟨a6,rfl,b6⟩,⟨a7,rfl,b7⟩,⟨a8,rfl,b8⟩,⟨a9,rfl,b9⟩,⟨aa,rfl,ba⟩,⟨ab,rfl,bb⟩,_⟩:=FB 9 h4.2.2 k4;have hcell:=hrow 4 c4 rfl;obtain⟨u,hu',hok⟩:=hcell;rw[ht4.1,ht4.2] at hu';simp only[za1] at hu';subst hu';rcases DataW.trod_slice h2.2.2 k2 with ⟨hs,_⟩|⟨a,len,cap,elems,rest,n,_,hs,_,_,hle,hcap,hlen,hget,hsp,_⟩
 ·simp only[List.drop_succ_cons,zb0,List.take_succ_cons,zbw,zcc,and_true] at hs;subst hs;refine⟨⟨(a0,a1,a2),a3, [],a5,((a6,a7),(a8,a9),(aa,ab))⟩,⟨0,0,4,0,true⟩,rfl, ?_, ?_,zaA _⟩
  ·unfold Cas.ok;rw[u64 b0,u64 b1,u64 b2,u64 b3,u64 b6,u64 b7,u64 b8,u64 b9,u64 ba,u64 bb];rfl
  ·exact⟨rfl,λh=>(by cases h),za0 _,λe he=>absurd he (zbo e),λj hj=>(by simp at hj),λh=>(by cases h),λe he=>absurd he (zbo e),λ_=>rfl,λh=>(by cases h)⟩
 ·simp only[List.drop_succ_cons,zb0,List.take_succ_cons,zbw,zcc,and_true] at hs;subst hs;have hb:a.spot=none/\a.block<w.heap.size:=by
   unfold Cell.okWide at hok;simp only[h2.2.2] at hok;unfold Cell.ok at hok;simp only[h2.2.2] at hok;obtain⟨_,_,_,hsp,row,cells,hsh,_⟩:=hok;refine⟨hsp, ?_⟩;unfold World.shape? at hsh;rcases zah a.block w.heap.size with h|h
   ·exact h
   ·rw[zcI h] at hsh;cases hsh
  obtain⟨hrl,hrest⟩:=hsp rfl;rw[he.1] at hget hrest;have each: ∀i,∃y:I4,i<cap->uz4 y=true/\ ∀o z,(RQ y)[o]? =some z->w.cell? ⟨a.block,a.off+i*4+o,none⟩=some (z.conc oj):=λi=>by
   by_cases hi:i<cap
   ·by_cases hi':i<len
    ·have:=hget i hi';rw[zaa (by omega)] at this;obtain⟨y,h⟩:=Sd he.2 hb.1 this;exact⟨y,λ_=>h⟩
    ·have:=hrest (i - len) (by omega);rw[show len+(i - len)=i by omega,zaa (by omega)] at this;obtain⟨y,h⟩:=Sd he.2 hb.1 this;exact⟨y,λ_=>h⟩
   ·exact⟨(0,0,0,0),λh=>absurd h hi⟩
  obtain⟨g,hg⟩:=Classical.axiomOfChoice each;have hlx:(Go.Sy.tab g len).length=len:=fJ _ _;refine⟨⟨(a0,a1,a2),a3,Go.Sy.tab g len,a5,((a6,a7),(a8,a9),(aa,ab))⟩,⟨a.block,a.off,4,cap,false⟩, ?_, ?_, ?_, ?_⟩
  ·have:SV.conc (λ_=>(⟨a.block,a.off,4,cap,false⟩:Go.Sy.Loc)) (.slc 0 0 (Go.Sy.tab g len).length)= .slice (some a) len cap:=by
    rw[jq rfl (.inr rfl),hlx];obtain⟨b,f,s⟩:=a;obtain rfl:s=none:=hb.1;simp[addr]
   unfold Rs;simp only[SV.conc,SV.concs] at this ⊢;rw[this]
  ·unfold Cas.ok
   rw[u64 b0,u64 b1,u64 b2,u64 b3,u64 b6,u64 b7,u64 b8,u64 b9,u64 ba,u64 bb,show (Go.Sy.tab g len).all uz4=true from zaf.2 λy hy=>by
    obtain⟨i,hi⟩:=zbz hy;have hlt:i<len:=by have:=(zaV.1 hi).1;omega
    rw[qX _ hlt] at hi;simp only[za1] at hi;subst hi
    exact(hg i (by omega)).1];rfl
  ·refine⟨rfl,λ_=>hb.2,by show (Go.Sy.tab g len).length<=cap;omega,λe he=>rfl,λj hj=> ?_,λh=>(by cases h),λe he o s ho=> ?_,λh=>(by cases h),λ_=>rfl⟩
   ·have hj:j<cap*4:=hj;have:=(hg (j / 4) (by omega)).2 (j%4);show (w.cell? ⟨a.block,a.off+j,none⟩).isSome=true;rw[show a.off+j=a.off+j / 4*4+j%4 by omega];have hlt:j%4<(RQ (g (j / 4))).length:=by show j%4<4;omega
    rw[this _ (zaa hlt)];rfl
   ·have he':e<len:=by rw[<-hlx];exact he
    have e1:e4.get (Go.Sy.tab g len) e=RQ (g e):=by
     unfold El.get El.nth;rw[bR (qX g he')];rfl
    have ho':(RQ (g e))[o]? =some s:=by rw[<-e1];exact ho
    have:=(hg e (by omega)).2 o s ho';show w.cell? ⟨a.block,a.off+e*4+o,none⟩=_;rw[this];have:s.ids= []:=by
     have hm:s∈RQ (g e):=zal ho';simp only[RQ,zai,zby,or_false] at hm;rcases hm with rfl|rfl|rfl|rfl<;>rfl
    rw[SV.conc_congr s (β:=oj) (β':=λ_=>(⟨a.block,a.off,4,cap,false⟩:Go.Sy.Loc)) (λi h=>by rw[this] at h;cases h)]
  ·show (Go.Sy.tab g len).length<=maxLen;omega
end
theorem TC {w:World} {L:Go.Sy.Loc} {B:Go.Sy.Blk} (h:BlkOK (λ_=>L) 0 B w) (hk:B.kd= .old) (hc: ∀e,e<B.n->SV.idss (B.get e)= []):BC w (λi=> [B][i]?) (λ_=>L) w:=by
 have one: ∀{id:Nat} {C:Go.Sy.Blk}, [B][id]? =some C->id=0/\C=B:=λ{id C} h=>by
  cases id with
  |zero=>simp at h;exact⟨rfl,h.symm⟩
  |succ n=>simp at h
 refine⟨Pres.refl _,λid C hC _=> ?_,λid C hC ho=> ?_,λid C hC _ hn=> ?_,λid id' C C' hC hC' _ _ _ _ _=> ?_,λid C e o s hC _ he hs=> ?_,⟨λid C hC hm=> ?_,λid id' C C' hC hC' hm=> ?_,λid C e s hC hm=> ?_,λid C hC hm=> ?_⟩⟩
 ·obtain⟨rfl,rfl⟩:=one hC;exact h
 ·obtain⟨rfl,rfl⟩:=one hC;rw[hk] at ho;cases ho
 ·obtain⟨rfl,rfl⟩:=one hC;intro hm;have:=h.lt hn;rcases hm with hm|hm
  ·exact absurd this (Nat.not_lt.2 hm)
  ·cases hm
 ·rw[(one hC).1,(one hC').1]
 ·obtain⟨rfl,rfl⟩:=one hC;intro i hi;have:i∈SV.idss (C.get e):=SV.mem_idss.2 ⟨s,zal hs,hi⟩;rw[hc e he] at this;cases this
 all_goals obtain⟨rfl,rfl⟩:=one hC;rw[hk] at hm;cases hm
end Yk
namespace Go.Proofs.YtdbpmmihpmbbdaaGreatDoor
open Go.Proofs.Tryz
open Go Go.RowKit Go.Sy Yk
variable {c:Cas}
theorem T8 {gm:zdZ} (hm:MOk gm) {W:World} (hg:GlobU W) {ann:zdX} {n:Nat} {F:FuncId} {rest:zdP} {L:Go.Sy.Loc} (hB:BlkOK (λ_=>L) 0 (e4.old c.x) W) (hr:SV.idss rest= []) (h:JL gm ann n F (Rs c c.x.length::rest) (ST c) (Go.Sy.okK λr _ _ _=>r=cB.enc true)):
 Calls prog F (SV.concs (λ_=>L) (Rs c c.x.length::rest)).toArray W λe w'=>e= .returned (.bool true)/\Below W.heap.size W w':=by
 have hbc:BC W (λi=>(ST c)[i]?) (λ_=>L) W:=TC hB rfl (λe he=>e4.ids _);unfold JL at h
 obtain⟨_,hc⟩:=sU (Qy hm (GlobB.of hg)) ann n F (Rs c c.x.length::rest) (λi=>(ST c)[i]?) (ST c).length [] _ (λ_=>L) W h hbc (λi hi=>zad hi) (λs hs i hi=>by
  rcases zai.1 hs with rfl|hs
  ·have:i=0:=by simpa [Rs,SV.ids,SV.idss] using hi
   subst this;intro e;cases e
  ·have:i∈SV.idss rest:=SV.mem_idss.2 ⟨s,hs,hi⟩
   rw[hr] at this;cases this)
 refine Calls.mono hc ?_;rintro e w' ⟨β',s,bl',nx',wl',he,hk,hbc,_⟩;cases s with
 |pan v=>exact hk.elim
 |ok s=>
 obtain rfl:e=_:=he;obtain rfl:s=_:=hk;exact⟨rfl,hbc.below.below⟩
theorem Se {g:zdR}: ∀{l:List RS} {e:Nat},TI g l e-> ∀j,j<l.length->g (e+j)=gA (mb VI l j)
 | [],_,_,j,hj=>absurd hj (zbo j)
 |r::t,e,⟨h1,h2⟩,0,_=>h1
 |r::t,e,⟨h1,h2⟩,j+1,hj=>by
  have:=Se h2 j (by simpa using hj);rw[show e+(j+1)=e+1+j by omega];exact this
theorem Rq (x:Int):uInt (Int.tmod x 7)=true:=by
 have h:=Int.natAbs_tmod x 7;have hl:x.natAbs%7<7:=zar _ (by decide);have h7:(7:Int).natAbs=7:=rfl;rw[h7] at h;exact V4.2 (by omega)
theorem Te {v:(Int×Int)×(Int×Int)×(Int×Int)}: ∀{k:Nat},∀r∈Q7 v k,uzR r=true
 |0,r,h=>by cases h
 |k+1,r,h=>by
  rcases za8.1 h with h|h
  ·exact Te r h
  ·rw[zaj.1 h];exact gu _ _
theorem RX {v:(Int×Int)×(Int×Int)×(Int×Int)} {k:Nat}:(Q7 v k).length=k:=fJ _ _
theorem Tf {p:Pr} (h1:1<=p.inp.length) (h3:p.inp.length<=3) (u1:uInt c.v.1.1=true) (u2:uInt c.v.2.1.1=true) (u3:uInt c.v.2.2.1=true):Rw p c (vK (Q7 c.v p.inp.length)):=by
 have P: ∀l,p.inp=l->p={p with inp:=l}:=λl h=>by rw[<-h]
 match hi:p.inp with
 | []=>rw[hi] at h1;exact absurd h1 (by decide)
 | [u]=>
   rw[P _ hi];show Rw {p with inp:= [u]} c (vK [vs1 c]);rw[Tp];exact ac (by rw[u1,Rq];rfl) ⟨rfl,rfl,rfl,rfl,rfl,rfl,trivial⟩
 | [u,v]=>
   rw[P _ hi];show Rw {p with inp:= [u,v]} c (vK [vs1 c,vs2 c]);rw[Tq];exact ac (by rw[u1,Rq];rfl) (ac (by rw[u2,Rq];rfl) ⟨rfl,rfl,rfl,rfl,rfl,rfl,rfl,trivial⟩)
 | [u,v,w]=>
   rw[P _ hi];show Rw {p with inp:= [u,v,w]} c (vK [vs1 c,vs2 c,vs3 c]);rw[Ts];exact ac (by rw[u1,Rq];rfl) (ac (by rw[u2,Rq];rfl) (ac (by rw[u3,Rq];rfl) ⟨rfl,rfl,rfl,rfl,rfl,rfl,rfl,rfl,trivial⟩))
 |_::_::_::_::_=>rw[hi] at h3;simp at h3
theorem Tg: ∀B:Base,GlobB B->VU prog B 6 SR:=Sh MOk.nil λbl nx args C hk hp=>by
 unfold SR at hk;split at hk
 ·rename_i s i0 i1 i2 i3 t ex v0 v1 v2 v3 v4 v5;split at hk
  ·rename_i p bb o n g hs ht;simp only[za1] at hk;subst hk;simp only[za2,zdA] at hp;obtain⟨⟨⟨⟨⟨⟨⟨⟨⟨⟨h0,rfl⟩,hg⟩,h1⟩,h3⟩,u1⟩,_⟩,u2⟩,_⟩,u3⟩,_⟩:=hp;obtain⟨s1,s2,s3,s4,s5,s6⟩:=eX (f:=rnF [p.o1,p.o2,o] [] nx) hs h0 rfl rfl;obtain⟨t1,t2⟩:=cq (f:=rnF [p.o1,p.o2,o] [] nx) ht hg;have hlen:(e4.list n g).length=n:=El.list_length
   let c:Cas:=⟨(i0,i1,i2),i3,e4.list n g,ex,((v0,v1),(v2,v3),(v4,v5))⟩
   have hold: ∀C∈To p.p c,cN C.kd=false/\C.kd.map=false:=by simp[To,cN,El.old,BK.map]
   refine⟨[p.o1,p.o2,o],To p.p c, [kB p.p,SP 2 c c.x.length],λ_ _=>none,4,aw s1 (aw s2 (aw t1 trivial)),bH (λC hC=>(hold C hC).1),cd (λC hC=>(hold C hC).2),ar s3 (ar (Xs (ar rfl (ar rfl (ar rfl (ar rfl (ar (t2 2 rfl) rfl)))))) rfl), ?_⟩;refine Q8 (K:=xo (vK (Q7 c.v p.p.inp.length))) (Tf (c:=c) h1 h3 u1 u2 u3) λr bl' m w h=> ?_;obtain⟨i,n',B,rfl,hB,e1,e2,e3,e4',e5,e6⟩:=tT h;have hl:(Q7 c.v p.p.inp.length).length=p.p.inp.length:=RX;rw[hl] at e1;subst e1;have e5:=zak e5;refine⟨(),trivial, [some i],⟨_,rfl, ?_⟩,by simp[ck],⟨⟨by show 3<=i;exact e5, ?_⟩,trivial⟩,cr (λC hC=>(hold C hC).1) (by rfl) _⟩
   ·have e0:dt [p.o1,p.o2,o] [some i] nx nx=some (some i):=cO;simp only[SV.rn,e0]
   ·rw[hB];refine⟨by simp[El.own],λ_=>⟨by show 1<=(Q7 c.v p.p.inp.length).length;omega,eR.one⟩,gC e4' e3 (Nat.le_of_eq e2.symm) λe he=> ?_⟩;have:=Se e6 e he;rw[za7] at this;exact this
  ·cases hk
 ·cases hk
theorem Th:MOk SS:=(((((((MOk.nil.cons BI).cons lZ).cons tP).cons Mj).cons zC).cons Rn).cons Tg).cons Tc
structure CasOK (c:Cas):Prop where
 len:c.x.length<=9223372036854775807
 a0:uInt c.a.1=true
 a1:uInt c.a.2.1=true
 a2:uInt c.a.2.2=true
 k:uInt c.k=true
 x: ∀y∈c.x,uz4 y=true
 v0:uInt c.v.1.1=true
 v1:uInt c.v.1.2=true
 v2:uInt c.v.2.1.1=true
 v3:uInt c.v.2.1.2=true
 v4:uInt c.v.2.2.1=true
 v5:uInt c.v.2.2.2=true
theorem CasOK.of (h:c.ok=true) (hl:c.x.length<=maxLen):CasOK c:=by
 unfold Cas.ok at h;simp only[za2,zaf] at h;obtain⟨⟨⟨⟨⟨⟨⟨⟨⟨⟨h0,h1⟩,h2⟩,h3⟩,h4⟩,h5⟩,h6⟩,h7⟩,h8⟩,h9⟩,ha⟩:=h
 exact⟨by have e:maxLen=9223372036854775807:=by decide
          omega,h0,h1,h2,h3,h4,h5,h6,h7,h8,h9,ha⟩
section
variable {c:Cas} {ex:Bool}
variable {K:Prop}
theorem Q0 {b:Bool} (h:b=true) (k:K):nd1 b K:=ac h λ_ _=>k
theorem RY:Rp c ex=Bd c.a c.k c.x ex:=by
 unfold Rp;rw[show e4.list c.x.length (e4.get c.x)=c.x from El.list_get]
theorem SA:cw (Rp c ex)=true:=by rw[RY];exact Tn
theorem Ry:1<=(Rp c ex).inp.length/\(Rp c ex).inp.length<=3/\1<=(Rp c ex).nod.length/\(Rp c ex).nod.length<=14:=by rw[RY];exact Sb
theorem Sq:VM (Rp c ex)=true:=by rw[RY];exact Sk
theorem RM:jn (Rp c ex)=true:=by
 have:=Ry (c:=c) (ex:=ex);exact eY SA (by omega) (by omega)
theorem SL (h:CasOK c):Sl c=true:=by
 unfold Sl;rw[zae (za0 _),zdw h.len,El.good_get h.x,h.a0,h.a1,h.a2,h.k];rfl
theorem SM (h:CasOK c):Sm c (Rp c ex)=true:=by
 have l:=Ry (c:=c) (ex:=ex);unfold Sm;rw[RM,fN,zae (za0 _),El.good_get h.x,zdw l.1,zdw l.2.1,h.v0,h.v1,h.v2,h.v3,h.v4,h.v5];rfl
variable {p:Pr}
theorem TD:Sn c p=Q7 c.v p.inp.length:=by
 unfold Sn SU;rw[fN];have hl:(Q7 c.v p.inp.length).length=p.inp.length:=RX;have:eR.list (Q7 c.v p.inp.length).length (eR.get (Q7 c.v p.inp.length))=Q7 c.v p.inp.length:=El.list_get;rw[hl] at this;exact this
theorem RZ {q:Pr} (hp:p.inp.length<=1000000) (hq:jn q=true):SW c p q=true:=by
 have hl:(Q7 c.v p.inp.length).length=p.inp.length:=RX;have hg:eR.good uzR (Q7 c.v p.inp.length).length (eR.get (Q7 c.v p.inp.length))=true:=El.good_get Te;unfold SW SU bW;rw[fN];rw[hl] at hg ⊢;rw[hq,zae (za0 _),zae hp,hg];rfl
theorem Ti {y n:Int} (hy:uInt y=true) (hn:0<n) (k:K):af (Tt y n) K:=ac (by unfold Tt;rw[hy,zdw hn];rfl) k
theorem Rl {i:Int} (h:cw p=true):jn (aG p i).1=true:=by
 obtain⟨d1,d2,d3⟩:=qw (i:=i) h;exact eY d1 d2 d3
theorem Wq {a b:RS}:zM a b=true↔a=b:=by
 obtain⟨a1,a2⟩:=a;obtain⟨b1,b2⟩:=b;simp[zM,We]
end
theorem Y2 {B:Base} {F:FuncId} {k k':MCtr} (h:VU prog B F k) (hk: ∀bl nx args C',k' bl nx args=some C'->C'.pre=true-> ∃C,k bl nx args=some C/\C.pre=true/\ ∀x,C.spec x-> ∃y,C'.spec y/\C'.res y=C.res x/\C'.nw y=C.nw x/\C'.ch y=C.ch x):VU prog B F k':=λbl β w nx args C' a b c d e p=>by
 obtain⟨C,h1,h2,h3⟩:=hk bl nx args C' e p;refine Calls.mono (h bl β w nx args C a b c d h1 h2) ?_;rintro e w' ⟨x,hx,β',q⟩;obtain⟨y,hy,r1,r2,r3⟩:=h3 x hx;exact⟨y,hy,β',by rw[r1,r2,r3];exact q⟩
def YN:MCtr:=λbl nx args=>match args with
 | [s]=>match mC bl s with
   |some a=>some {X:=Unit,pre:=a.need&&VM a.p,spec:=λ_=>True,out:=λ_=>cB.enc true,ex:=λ_=>⟨(),trivial⟩}
   |none=>none
 |_=>none
theorem Y9: ∀B:Base,GlobB B->VU prog B 9 YN:=λB hB=>Y2 (lZ B hB) λbl nx args C hk hp=>by
 unfold YN at hk;split at hk
 ·rename_i s;split at hk
  ·rename_i a ha;simp only[za1] at hk;subst hk;simp only[za2] at hp;have hC:pN bl nx [s]=some {X:=Unit,pre:=a.need,spec:=λ_=>True,out:=λ_=>cB.enc (VM a.p),ex:=λ_=>⟨(),trivial⟩}:=by simp only[pN,ha]
   exact⟨_,hC,hp.1,λ_ _=>⟨(),trivial,congrArg (λz=>Res.ok (cB.enc z)) hp.2.symm,rfl,rfl⟩⟩
  ·cases hk
 ·cases hk
def ZX:MCtr:=λbl nx args=>match args with
 | [s]=>match mC bl s with
   |some a=>some {X:=Unit,pre:=a.need&&decide (1<=a.p.inp.length)&&VM a.p,spec:=λ_=>True,out:=λ_=>prO nx ((xH a.p).1,0),nw:=λ_=>prW ((xH a.p).1,0),ex:=λ_=>⟨(),trivial⟩}
   |none=>none
 |_=>none
theorem ZY {p:Pr} (h:VM p=true):xH p=((xH p).1,0):=by
 rcases Y7 p with e|e
 ·unfold xH at e;unfold VM at h;rw[show (VJ p).2.2=0 by simpa using h] at e;exact absurd (congrArg Prod.snd e) (show ¬(0:Int)=100 by decide)
 ·exact zc9 rfl e.1
theorem ZZ: ∀B:Base,GlobB B->VU prog B 7 ZX:=λB hB=>Y2 (MC B hB) λbl nx args C hk hp=>by
 unfold ZX at hk;split at hk
 ·rename_i s;split at hk
  ·rename_i a ha;simp only[za1] at hk;subst hk;simp only[za2] at hp;have e:=ZY hp.2;have hC:Pc bl nx [s]=some {X:=Unit,pre:=a.need&&decide (1<=a.p.inp.length),spec:=λ_=>True,out:=λ_=>prO nx (xH a.p),nw:=λ_=>prW (xH a.p),ex:=λ_=>⟨(),trivial⟩}:=by simp only[Pc,ha]
   exact⟨_,hC,by rw[za2];exact hp.1,λ_ _=>⟨(),trivial,congrArg (λz=>Res.ok (prO nx z)) e.symm,congrArg prW e.symm,rfl⟩⟩
  ·cases hk
 ·cases hk
def aaw:zdZ:=(7,ZX)::(8,Y8)::(9,YN)::SS
theorem aah:MOk aaw:=((Th.cons Y9).cons ZA).cons ZZ
def siS (p:Pr):Pr:=(xH (dm p)).1
def siN (p:Pr):Bool:=jn p&&decide (1<=(dm p).inp.length)&&VM (dm p)
def siE (c:Cas) (p q:Pr):RS×Int:=bn (dm q) (Sn c p)
open Classical in
def siR (c:Cas) (p:Pr) (i:Int) (Q:zdV):Prop:=
 nd1 (Sl c) (nd1 (Sm c p) (nd1 (siN p) (nd1 (siN (siS p)) (nd1 (jn (siS p)&&jn (siS (siS p))&&decide (dm (siS p)=dm (siS (siS p)))) (nd1 (jn (siS p)&&VM (dm (siS p)))
  (ag (bif (bif decide (((siS p).nod.length:Int)>(p.nod.length:Int)) then true else !eqU (siS p).out p.out) then true else(siS p).id !=p.id) (Q (cB.enc false))
    (nd1 (SW c p p) (nd1 (SW c p (siS p))
      (ag (bif (siE c p p).2==0 then(bif (siE c p (siS p)).2 !=0 then true else !zM (siE c p p).1 (siE c p (siS p)).1) else false) (Q (cB.enc false))
        (af (Tt i p.inp.length) (nd1 (jn p) (nd1 (jn (siS p)) (nd1 (SW c p (aG (dm p) (co i p.inp.length)).1) (nd1 (SW c p (aG (dm (siS p)) (co i p.inp.length)).1)
          (ag (bif (bif (bif (bif (siE c p p).2 !=0 then true else(aG (dm p) (co i p.inp.length)).2 !=0) then true else(aG (dm (siS p)) (co i p.inp.length)).2 !=0) then true else(siE c p (aG (dm p) (co i p.inp.length)).1).2 !=0) then true else(siE c p (aG (dm (siS p)) (co i p.inp.length)).1).2 !=0) (Q (cB.enc true))
            (nd1 (siN (aG (dm p) (co i p.inp.length)).1) (nd1 (SW c p (siS (aG (dm p) (co i p.inp.length)).1))
              (Q (cB.enc (bif (bif (bif (bif zM (siE c p (aG (dm p) (co i p.inp.length)).1).1 (siE c p (aG (dm (siS p)) (co i p.inp.length)).1).1 then true else false) then(siE c p (siS (aG (dm p) (co i p.inp.length)).1)).2==0 else false) then zM (siE c p (siS (aG (dm p) (co i p.inp.length)).1)).1 (siE c p (aG (dm p) (co i p.inp.length)).1).1 else false) then decide (((siS (aG (dm p) (co i p.inp.length)).1).nod.length:Int)<=((aG (dm p) (co i p.inp.length)).1.nod.length:Int)) else false))))))))))))))))))))
theorem aai (c:Cas) (i:Int) (Q:zdV):JL aaw (λ_ _=>none) 8 3 [Rs c c.x.length,cI.enc i] (ST c) (Go.Sy.okK λr _ _ _=>Q r)=(Unit->True->siR c (Rp c c.e) i Q):=by kernel_rfl
def eD (d:D7):Nat->Rat
 |0=>eV d.d0
 |1=>eV d.d1
 |2=>eV d.d2
 |3=>eV d.d3
 |4=>eV d.d4
 |5=>eV d.d5
 |6=>eV d.d6
 |_=>0
variable {a b:D7}
theorem Za (ha:Ye a) (hb:Ye b) (h: ∀i,eD a i=eD b i):a=b:=by
 obtain⟨a0,a1,a2,a3,a4,a5,a6⟩:=ha;obtain⟨b0,b1,b2,b3,b4,b5,b6⟩:=hb;exact D7.eq (XM a0 b0 (h 0)) (XM a1 b1 (h 1)) (XM a2 b2 (h 2)) (XM a3 b3 (h 3)) (XM a4 b4 (h 4)) (XM a5 b5 (h 5)) (XM a6 b6 (h 6))
theorem Yy {s:Int} (ha:Ye a) (hb:Ye b): ∀i,eD (ku (kw s) a b) i=eD a i+s*eD b i:=by
 obtain⟨a0,a1,a2,a3,a4,a5,a6⟩:=ha;obtain⟨b0,b1,b2,b3,b4,b5,b6⟩:=hb;intro i
 match i with
 |0=>exact XY a0.1 b0.1
 |1=>exact XY a1.1 b1.1
 |2=>exact XY a2.1 b2.1
 |3=>exact XY a3.1 b3.1
 |4=>exact XY a4.1 b4.1
 |5=>exact XY a5.1 b5.1
 |6=>exact XY a6.1 b6.1
 |_+7=>show (0:Rat)=0+s*0;grind
theorem Z0 {p:Int×Int} (hp:0<p.2) (ha:Ye a): ∀i,eD (wV p a) i=eV p*eD a i:=by
 obtain⟨a0,a1,a2,a3,a4,a5,a6⟩:=ha;intro i;have e: ∀{x:Int×Int},0<x.2->eV (A4 p x)=eV p*eV x:=λ{x} hx=>by rw[aat hp hx];grind
 match i with
 |0=>exact e a0.1
 |1=>exact e a1.1
 |2=>exact e a2.1
 |3=>exact e a3.1
 |4=>exact e a4.1
 |5=>exact e a5.1
 |6=>exact e a6.1
 |_+7=>show (0:Rat)=eV p*0;grind
def th (z:Int):Rat:=(1000:Rat)^z
theorem YO (a b:Int):th (a+b)=th a*th b:=Rat.zpow_add (by decide) a b
theorem X6:th 0=1:=by unfold th;simp
theorem Z3 (z:Int):0<th z:=ZQ (by decide) z
theorem aaq (z:Int):th z≠0:=Lz (Z3 z)
theorem Zb (a b:Int):th (a - b)=th a / th b:=by
 have h:=YO (a - b) b;rw[Int.sub_add_cancel] at h;have:=aaq b;rw[h];grind
theorem aax {z:Int} (h:th z=1):z=0:=by
 have key: ∀n:Nat,th (n:Int)=1->n=0:=λn hn=>by
  unfold th at hn;rw[Rat.zpow_natCast] at hn;have:((1000^n:Nat):Rat)=((1:Nat):Rat):=by simpa using hn
  have:=Rat.natCast_inj.1 this;cases n with
  |zero=>rfl
  |succ n=>rw[zaw] at this;omega
 rcases Int.le_total 0 z with hz|hz
 ·obtain⟨n,rfl⟩: ∃n:Nat,z=n:=⟨z.toNat,by omega⟩;rw[key n h];rfl
 ·obtain⟨n,hn⟩: ∃n:Nat,z= -(n:Int):=⟨(-z).toNat,by omega⟩;have:=YO z n;rw[hn,Int.add_left_neg,X6,<-hn,h,Rat.one_mul] at this;rw[hn,key n this.symm];rfl
theorem aay {a b:Int} (h:th a=th b):a=b:=by
 have:=Zb a b;rw[h] at this;have h1:th (a - b)=1:=by rw[this];have:=aaq b;grind
 have:=aax h1;omega
structure HasP (u:Un) (e:Nat->Rat) (z:Int):Prop where
 valid:VK u=true
 k:u.k=0
 e: ∀i,eD u.d i=e i
 z:qV u.f=th z
section
variable {a b u:Un} {e e':Nat->Rat} {z z':Int}
theorem HasP.red (h:HasP u e z):Ye u.d:=Xr (WE.1 h.valid).1
theorem HasP.rv (h:HasP u e z):rV u.f=true:=(WE.1 h.valid).2.1
theorem HasP.congr (h:HasP u e z) (he: ∀i,e i=e' i) (hz:z=z'):HasP u e' z':=⟨h.valid,h.k,λi=>(h.e i).trans (he i),by rw[h.z,hz]⟩
theorem HasP.det (h:HasP u e z) (h':HasP u e' z'):(∀i,e i=e' i)/\z=z':=⟨λi=>(h.e i).symm.trans (h'.e i),aay (h.z.symm.trans h'.z)⟩
theorem HasP.same (h:HasP a e z) (h':HasP b e z) (ha:a.s≠0) (hb:b.s≠0):a=b:=by
 have hd:a.d=b.d:=Za h.red h'.red λi=>(h.e i).trans (h'.e i).symm;have hf:a.f=b.f:=wh h.rv h'.rv (h.z.trans h'.z.symm);rw[Xx h.valid ha,Xx h'.valid hb,hd,hf,h.k,h'.k]
variable {D:D7}
theorem HasP.mk_plain {f:RS} (h1:pr D=true) (h2:rV f=true) (he: ∀i,eD D i=e i) (hz:qV f=th z):HasP (bT D f 0) e z:=⟨Xo h1 h2 (by rw[hz];exact Z3 z) (by decide),rfl,he,hz⟩
theorem XB {f:RS×Int} {k:Int} (h:(qi (eS D) f k).2=0):pr D=true/\f.2=0/\qi (eS D) f k=(bT D f.1 k,0):=by
 unfold qi at h ⊢;obtain⟨u1,u2⟩:=XH D;cases hD:(eS D).2 with
 |false=>rw[hD] at h;exact absurd (show (70:Int)=0 from h) (by decide)
 |true=>
  rw[hD] at h;have hf:=u1.symm.trans hD;rw[u2 hf];cases hb:f.2 !=0 with
  |true=>rw[hb] at h;exact absurd (show (70:Int)=0 from h) (by decide)
  |false=>exact⟨hf,by simpa using hb,rfl⟩
theorem aaj (ha:HasP a e z) (hb:HasP b e' z') (h:(mi a b).2=0):HasP (mi a b).1 (λi=>e i+e' i) (z+z')/\(mi a b).1.s≠0/\a.s≠0/\b.s≠0:=by
 unfold mi at h ⊢;cases h1:aU a with
 |false=>rw[h1] at h;exact absurd (show (70:Int)=0 from h) (by decide)
 |true=>cases h2:aU b with
  |false=>rw[h1,h2] at h;exact absurd (show (70:Int)=0 from h) (by decide)
  |true=>
   rw[h1,h2] at h;simp only[zbi,Bool.or_self,zdx] at h ⊢;obtain⟨f1,f2,f3⟩:=XB h;have g:=(mG f2).2.2;rw[f3];have hk:(bif 2==b.s then a.k else bif 2==a.s then b.k else 0)=0:=by rw[ha.k,hb.k];cases 2==b.s<;>cases 2==a.s<;>rfl
   rw[hk];refine⟨HasP.mk_plain f1 g.valid (λi=> ?_) ?_,X3 _ _ _,(Xh.1 h1).2,(Xh.1 h2).2⟩
   ·rw[Yy ha.red hb.red,ha.e,hb.e];simp
   ·rw[g.val,ha.z,hb.z,YO]
theorem aak (ha:HasP a e z) (hb:HasP b e' z') (h:(fd a b).2=0):HasP (fd a b).1 (λi=>e i - e' i) (z - z')/\(fd a b).1.s≠0/\a.s≠0/\b.s≠0:=by
 unfold fd at h ⊢;cases h1:aU a with
 |false=>rw[h1] at h;exact absurd (show (70:Int)=0 from h) (by decide)
 |true=>cases h2:aU b with
  |false=>rw[h1,h2] at h;exact absurd (show (70:Int)=0 from h) (by decide)
  |true=>
   rw[h1,h2] at h;simp only[zbi,Bool.or_self,zdx] at h ⊢;obtain⟨f1,f2,f3⟩:=XB h;have g:=(jP f2).2.2.2;rw[f3];have hk:(bif b.s==2 then a.k else 0)=0:=by rw[ha.k];cases b.s==2<;>rfl
   rw[hk];refine⟨HasP.mk_plain f1 g.valid (λi=> ?_) ?_,X3 _ _ _,(Xh.1 h1).2,(Xh.1 h2).2⟩
   ·rw[Yy ha.red hb.red,ha.e,hb.e];simp;grind
   ·rw[g.val,ha.z,hb.z,Zb]
theorem Z4 (ha:HasP a e z) (hb:HasP b e' z') (h:(fw a b).2=0):HasP (fw a b).1 e z/\(∀i,e i=e' i)/\z=z'/\(a.s≠0->(fw a b).1.s≠0):=by
 unfold fw at h ⊢;cases h1:jk a b with
 |false=>rw[h1] at h;exact absurd (show (70:Int)=0 from h) (by decide)
 |true=>
  obtain⟨_,_,hd,hf,_⟩:=Wj.1 h1;have hb':HasP b e z:=⟨hb.valid,hb.k,λi=>by rw[<-hd];exact ha.e i,by rw[<-hf];exact ha.z⟩;obtain⟨d1,d2⟩:=hb'.det hb;rw[h1] at h;cases h2:b.s !=0 with
  |true=>exact⟨ha,d1,d2,λk=>k⟩
  |false=>
   rw[h2] at h;cases h3:eqU a b with
   |true=>
    refine⟨?_,d1,d2,λ_=>X3 _ _ _⟩;show HasP (bT a.d a.f a.k) e z;rw[ha.k];exact HasP.mk_plain (WE.1 ha.valid).1 ha.rv ha.e ha.z
   |false=>rw[h3] at h;exact absurd (show (70:Int)=0 from h) (by decide)
theorem XJ {f:RS}: ∀{n:Nat},(bV f n).1=false->rV (bV f n).2=true/\qV (bV f n).2=qV f^n
 |0,_=>⟨(show rV rI=true by decide),by show qV rI=_;rw[Zl];simp⟩
 |n+1,h=>by
  unfold bV Yk.stepF at h ⊢;cases hn:(bV f n).1 with
  |true=>rw[hn] at h;replace h:(bV f n).1=false:=h;rw[hn] at h;cases h
  |false=>
   obtain⟨i1,i2⟩:=XJ hn;rw[hn] at h;simp only[zbh,zdy,zbj] at h ⊢;have g:=(mG (a:=(bV f n).2) (b:=f) (by simpa using h)).2.2;exact⟨g.valid,by rw[g.val,i2,Rat.pow_succ]⟩
theorem Zc (z:Int): ∀n:Nat,th z^n=th (n*z)
 |0=>by simp[X6]
 |n+1=>by rw[Rat.pow_succ,Zc z n,<-YO];congr 1;rw[zd1,Int.add_mul];simp
theorem Z5 (n:Int):eV (n,1)=(n:Rat):=by unfold eV;rw[zd6];grind
theorem aal (ha:HasP a e z) {n:Int} (hn:n≠0/\ -4<=n/\n<=4) (h:(jm a (n,1)).2=0):HasP (jm a (n,1)).1 (λi=>n*e i) (n*z)/\(jm a (n,1)).1.s≠0/\a.s≠0:=by
 unfold jm at h ⊢;rw[Y5 (by omega)] at h ⊢;cases h1:aU a with
 |false=>rw[h1] at h;exact absurd (show (70:Int)=0 from h) (by decide)
 |true=>
  rw[h1] at h;simp only[zbi,Bool.or_self,zbj,bne_self_eq_false,Bool.false_and,zdx,BEq.rfl,zdy] at h ⊢;obtain⟨u1,u2⟩:=XH (wV (n,1) a.d);cases hD:(eS (wV (n,1) a.d)).2 with
  |false=>rw[hD] at h;exact absurd (show (70:Int)=0 from h) (by decide)
  |true=>
   have hf:=u1.symm.trans hD;rw[hD] at h;rw[u2 hf];cases hI:(Yk.invF n (bV a.f n.natAbs)).1 with
   |true=>rw[hI] at h;exact absurd (show (70:Int)=0 from h) (by decide)
   |false=>
    have key:rV (Yk.invF n (bV a.f n.natAbs)).2=true/\qV (Yk.invF n (bV a.f n.natAbs)).2=th (n*z):=by
     unfold Yk.invF at hI ⊢;cases hneg:decide (n<0) with
     |true=>
      have hneg:=zdB hneg;cases hit:(bV a.f n.natAbs).1 with
      |true=>rw[zdw hneg,hit] at hI;replace hI:(bV a.f n.natAbs).1=false:=hI;rw[hit] at hI;cases hI
      |false=>
       obtain⟨i1,i2⟩:=XJ hit;rw[zdw hneg,hit] at hI;simp only[zbh,zc7,zdy] at hI ⊢;have g:=(jP (a:=rI) (b:=(bV a.f n.natAbs).2) (by simpa using hI)).2.2.2;refine⟨g.valid, ?_⟩;rw[g.val,i2,Zl,ha.z,Zc,show n*z=0 - (n.natAbs:Int)*z by rw[show (n.natAbs:Int)= -n by omega,Int.neg_mul];omega,Zb,X6]
     |false=>
      have hneg:=zdC hneg;rw[zdz hneg] at hI;simp only[Bool.false_and,zdx] at hI ⊢;obtain⟨i1,i2⟩:=XJ hI;exact⟨i1,by rw[i2,ha.z,Zc,show (n.natAbs:Int)=n by omega]⟩
    have hk:(bif eq2 (n,1) (1,1) then a.k else 0)=0:=by rw[ha.k];cases eq2 (n,1) (1,1)<;>rfl
    rw[hk];refine⟨HasP.mk_plain hf key.1 (λi=> ?_) key.2,X3 _ _ _,(Xh.1 h1).2⟩;rw[Z0 (show (0:Int)<1 by decide) ha.red,ha.e,Z5]
theorem Xj:HasP ratioU (λ_=>0) 0/\ratioU.s≠0:=by
 have hv:VK ratioU=true:=by kernel_rfl
 refine⟨⟨hv,by kernel_rfl,λi=> ?_,by rw[X6];kernel_rfl⟩,λh=>absurd (show (2:Int)=0 from h) (by decide)⟩
 match i with
 |0=>exact(show eD ratioU.d 0=0 by kernel_rfl)
 |1=>exact(show eD ratioU.d 1=0 by kernel_rfl)
 |2=>exact(show eD ratioU.d 2=0 by kernel_rfl)
 |3=>exact(show eD ratioU.d 3=0 by kernel_rfl)
 |4=>exact(show eD ratioU.d 4=0 by kernel_rfl)
 |5=>exact(show eD ratioU.d 5=0 by kernel_rfl)
 |6=>exact(show eD ratioU.d 6=0 by kernel_rfl)
 |_+7=>rfl
end
def aar (inp:ze1) (T:Nat->Un) (x:Nd):Un×Int:=
 bif x.op==2 then(mb noU inp x.n.toNat,0) else
 bif x.op==3 then iS (T x.l.toNat) (T x.r.toNat) else
 bif x.op==4 then fw (T x.l.toNat) (T x.r.toNat) else
 bif x.op==5 then mi (T x.l.toNat) (T x.r.toNat) else
 bif x.op==6 then fd (T x.l.toNat) (T x.r.toNat) else
 bif x.op==7 then jm (T x.l.toNat) (x.n,1) else
 bif x.op==8 then jm (T x.l.toNat) (1,2) else(x.u,0)
structure SolU (L:List Nd) (need:Nat->Bool) (inp:List Un) (T:Nat->Un):Prop where
 cl: ∀k,need k=true->k<L.length/\ ∀s∈VW (mb noN L k),need s.toNat=true
 ev: ∀k,need k=true->aar inp T (mb noN L k)=(T k,0)
def HasU (u:Un) (e:Nat->Rat) (z:Int):Prop:=HasP u e z/\u.s≠0
theorem HasU.congr {u:Un} {e e':Nat->Rat} {z z':Int} (h:HasU u e z) (he: ∀i,e i=e' i) (hz:z=z'):HasU u e' z':=⟨h.1.congr he hz,h.2⟩
structure UDK (need:Nat->Bool) (T:Nat->Un) (t:Int) (e:Nat->Rat) (z:Int):Prop where
 yes:t≠ -1->0<=t/\(need t.toNat=true->HasU (T t.toNat) e z)
section
variable {L:ze2} {need:zdU} {inp:ze1} {T us:Nat->Un}
variable {t z:Int} {e:Nat->Rat}
theorem UDK.at (h0:0<=t) (h:need t.toNat=true->HasU (T t.toNat) e z):UDK need T t e z:=⟨λ_=>⟨h0,h⟩⟩
variable {e':Nat->Rat} {z':Int}
theorem UDK.congr (h:UDK need T t e z) (he: ∀i,e i=e' i) (hz:z=z'):UDK need T t e' z':=⟨λht=>⟨(h.yes ht).1,λhn=>((h.yes ht).2 hn).congr he hz⟩⟩
variable {k:Nat} {a b:Int}
theorem SolU.op (S:SolU L need inp T) {o:Int} (h:mb noN L k=opN o a b) (o1:3<=o) (o2:o<=6) (hn:need k=true):need a.toNat=true/\need b.toNat=true/\aar inp T (opN o a b)=(T k,0):=by
 have:=(S.cl k hn).2;rw[h,aQ (x:=opN o a b) o1 o2] at this;exact⟨this a (by simp[opN]),this b (by simp[opN]),by rw[<-h];exact S.ev k hn⟩
theorem SolU.mul (S:SolU L need inp T) (h:mb noN L k=opN 5 a b) (hn:need k=true) (ha:need a.toNat=true->HasP (T a.toNat) e z) (hb:need b.toNat=true->HasP (T b.toNat) e' z'):HasU (T k) (λi=>e i+e' i) (z+z'):=by
 obtain⟨n1,n2,h3⟩:=S.op h (by decide) (by decide) hn;replace h3:mi (T a.toNat) (T b.toNat)=(T k,0):=h3;have:=aaj (ha n1) (hb n2) (by rw[h3]);rw[h3] at this;exact⟨this.1,this.2.1⟩
theorem SolU.div (S:SolU L need inp T) (h:mb noN L k=opN 6 a b) (hn:need k=true) (ha:need a.toNat=true->HasP (T a.toNat) e z) (hb:need b.toNat=true->HasP (T b.toNat) e' z'):HasU (T k) (λi=>e i - e' i) (z - z'):=by
 obtain⟨n1,n2,h3⟩:=S.op h (by decide) (by decide) hn;replace h3:fd (T a.toNat) (T b.toNat)=(T k,0):=h3;have:=aak (ha n1) (hb n2) (by rw[h3]);rw[h3] at this;exact⟨this.1,this.2.1⟩
theorem SolU.sub (S:SolU L need inp T) (h:mb noN L k=opN 4 a b) (hn:need k=true) (ha:need a.toNat=true->HasU (T a.toNat) e z) (hb:need b.toNat=true->HasP (T b.toNat) e' z'):HasU (T k) e z:=by
 obtain⟨n1,n2,h3⟩:=S.op h (by decide) (by decide) hn;replace h3:fw (T a.toNat) (T b.toNat)=(T k,0):=h3;have:=Z4 (ha n1).1 (hb n2) (by rw[h3]);rw[h3] at this;exact⟨this.1,this.2.2.2 (ha n1).2⟩
variable {n:Int}
theorem SolU.pure (S:SolU L need inp T) (h:mb noN L k=pureF n) (hn:need k=true):HasU (T k) (λ_=>0) 0:=by
 have:=S.ev k hn;rw[h] at this;replace this:(ratioU,(0:Int))=(T k,0):=this;simp only[zag,and_true] at this;rw[<-this];exact Xj
theorem SolU.pw (S:SolU L need inp T) (h:mb noN L k=⟨7,VI,noU,n,a,0⟩) (hn:need k=true) (hb:n≠0/\ -4<=n/\n<=4) (ha:need a.toNat=true->HasP (T a.toNat) e z):HasU (T k) (λi=>n*e i) (n*z):=by
 have hc:=(S.cl k hn).2;rw[h,bF (.inl rfl)] at hc;have n1:=hc a (by simp);have h3:=S.ev k hn;rw[h] at h3;replace h3:jm (T a.toNat) (n,1)=(T k,0):=h3;have:=aal (ha n1) hb (by rw[h3]);rw[h3] at this;exact⟨this.1,this.2.1⟩
def relU (x:Nd) (e el er:Nat->Rat) (z zl zr:Int):Prop:=
 (x.op=3\/x.op=4->(∀i,e i=el i)/\(∀i,e i=er i)/\z=zl/\z=zr)/\
 (x.op=5->(∀i,e i=el i+er i)/\z=zl+zr)/\(x.op=6->(∀i,e i=el i - er i)/\z=zl - zr)/\
 (x.op=7->(∀i,e i=x.n*el i)/\z=x.n*zl)/\(x.op=8->(∀i,e i=el i / 2)/\z=0/\zl=0)
end
theorem Xl {α:Type} {d:α}: ∀{l:List α} {n e:Nat},e<n->mb d (l.take n) e=mb d l e
 | [],n,e,_=>by simp
 |x::r,0,e,h=>by omega
 |x::r,n+1,0,_=>rfl
 |x::r,n+1,e+1,h=>Xl (l:=r) (by omega)
section
variable {L:ze2} {need:zdU} {inp:ze1} {T:Nat->Un}
end
variable {u:Un} {e:Nat->Rat} {z:Int}
theorem HasP.own (h:HasP u e z):HasP u (eD u.d) z:=⟨h.valid,h.k,λ_=>rfl,h.z⟩
theorem relU.to {x:Nd} {e' el er:Nat->Rat} {z' zl zr:Int} (he: ∀i,e i=e' i) (hz:z=z') (h:relU x e el er z zl zr):relU x e' el er z' zl zr:=by
 subst hz;obtain⟨h1,h2,h3,h4,h5⟩:=h;exact⟨λo=>⟨λi=>(he i).symm.trans ((h1 o).1 i),λi=>(he i).symm.trans ((h1 o).2.1 i),(h1 o).2.2⟩,λo=>⟨λi=>(he i).symm.trans ((h2 o).1 i),(h2 o).2⟩,λo=>⟨λi=>(he i).symm.trans ((h3 o).1 i),(h3 o).2⟩,λo=>⟨λi=>(he i).symm.trans ((h4 o).1 i),(h4 o).2⟩,λo=>⟨λi=>(he i).symm.trans ((h5 o).1 i),(h5 o).2⟩⟩
def aaC (u:Un):Prop:= ∃z,HasP u (eD u.d) z
theorem Yz {s:Int} {a b:D7} (ha:Ye a) (hb:Ye b):Ye (ku (kw s) a b):=by
 obtain⟨a0,a1,a2,a3,a4,a5,a6⟩:=ha;obtain⟨b0,b1,b2,b3,b4,b5,b6⟩:=hb;exact⟨XG (zaU a0.1 b0.1),XG (zaU a1.1 b1.1),XG (zaU a2.1 b2.1),XG (zaU a3.1 b3.1),XG (zaU a4.1 b4.1),XG (zaU a5.1 b5.1),XG (zaU a6.1 b6.1)⟩
def HasM (u:Un):Prop:= ∃z:Int,(z=0\/z= -1)/\HasP u (eD u.d) z
theorem HasM.k (h:HasM u):aaC u:=by obtain⟨z,_,h⟩:=h;exact⟨z,h⟩
section
variable {α:Type} {d:α} {st:List α->Nd->Option α}
def Xk (st:List α->Nd->Option α):List Nd->List α->Option (List α)
 | [],vs=>some vs
 |x::r,vs=>match st vs x with
  |some v=>Xk st r (vs++ [v])
  |none=>none
theorem Yf {x:Nd} {u:α}: ∀{l:ze2} {us vs:List α},Xk st l us=some vs->st vs x=some u->Xk st (l++ [x]) us=some (vs++ [u])
 | [],us,vs,h,k=>by
   simp only[Xk,za1] at h;subst h;simp only[zaM,Xk,k]
 |y::r,us,vs,h,k=>by
  simp only[zaO,Xk] at h ⊢;cases e:st us y with
  |none=>rw[e] at h;cases h
  |some v=>rw[e] at h;exact Yf h k
theorem Zq: ∀{l:ze2} {us vs:List α},Xk st l us=some vs->vs.length=us.length+l.length/\us<+:vs/\ ∀j,j<l.length->st (vs.take (us.length+j)) (mb noN l j)=some (mb d vs (us.length+j))
 | [],us,vs,h=>by
   simp only[Xk,za1] at h;subst h;exact⟨rfl,zaW _,λj hj=>absurd hj (zbo j)⟩
 |x::r,us,vs,h=>by
  simp only[Xk] at h;cases e:st us x with
  |none=>rw[e] at h;cases h
  |some u=>
   rw[e] at h;obtain⟨h1,h2,h3⟩:=Zq h;refine⟨by rw[h1];simp;omega,(List.prefix_append us [u]).trans h2,λj hj=> ?_⟩;cases j with
   |zero=>
    obtain⟨t,rfl⟩:=h2;rw[zaZ,za5,List.take_left];show st us x=_;rw[e]
    congr 1
    exact(bR (by rw[zbZ (za0 _),zaJ];rfl)).symm
   |succ j=>
    have:=h3 j (by simpa using hj);simp only[za3,za6] at this;rw[show us.length+(j+1)=us.length+1+j by omega];exact this
variable {l:ze2}
theorem Xm {vs:List α} (h:Xk st l []=some vs):vs.length=l.length/\ ∀j,j<l.length->st (vs.take j) (mb noN l j)=some (mb d vs j):=by
 obtain⟨h1,_,h3⟩:=Zq (d:=d) h;rw[za9,za7] at h1;refine⟨h1,λj hj=> ?_⟩;have:=h3 j hj;rw[za9,za7] at this;exact this
theorem XP {β:Type} {e:β} {l:List β} {k:Nat} (h:k<l.length):l.take (k+1)=l.take k++ [mb e l k]:=by
 rw[<-List.take_append_getElem h,bR (zaa h)]
theorem Zr {vs:List α} (hl:vs.length=l.length) (h: ∀j,j<l.length->st (vs.take j) (mb noN l j)=some (mb d vs j)):Xk st l []=some vs:=by
 have: ∀k,k<=l.length->Xk st (l.take k) []=some (vs.take k):=by
  intro k
  induction k with
  |zero=>intro _;simp[Xk]
  |succ k ih=>
   intro hk;rw[XP (e:=noN) (by omega),XP (e:=d) (by omega)];exact Yf (ih (by omega)) (h k (by omega))
 have:=this l.length (za0 _);rwa[List.take_length,<-hl,List.take_length] at this
structure Loc9 (d:α) (st:List α->Nd->Option α):Prop where
 ren: ∀(vs vs':List α) (x:Nd) (num:Nat->Int),(∀s∈VW x,(0<=s/\s<vs.length)/\(0<=num s.toNat/\num s.toNat<vs'.length)/\mb d vs' (num s.toNat).toNat=mb d vs s.toNat)->st vs' (dO num x)=st vs x
end
theorem Yg {ins:List RS}: ∀{l:ze2} {vs:List RS},iC ins l vs=Xk (valF ins) l vs
 | [],_=>rfl
 |x::r,vs=>by
  unfold iC Xk;cases valF ins vs x with
  |none=>rfl
  |some v=>exact Yg
theorem X7 {inp:ze1}: ∀{l:ze2} {us vs:ze1},iB inp l us=(vs,true)↔Xk (mn inp) l us=some vs
 | [],us,vs=>by simp[iB,Xk]
 |x::r,us,vs=>by
  unfold iB Xk;cases mn inp us x with
  |none=>simp
  |some v=>exact X7
theorem Xn (num:Nat->Int) (x:Nd):(dO num x).op=x.op/\(dO num x).v=x.v/\(dO num x).u=x.u/\(dO num x).n=x.n:=by
 rcases fP num x with ⟨_,_,e⟩|⟨_,e⟩|⟨_,e⟩<;>rw[e]<;>exact⟨rfl,rfl,rfl,rfl⟩
variable {num:Nat->Int} {x:Nd}
theorem Xp (h:3<=x.op/\x.op<=6):dO num x={x with l:=num x.l.toNat,r:=num x.r.toNat}:=by
 rcases fP num x with ⟨_,_,e⟩|⟨o,_⟩|⟨o,_⟩
 ·exact e
 ·omega
 ·omega
theorem XE (h:x.op=7\/x.op=8):dO num x={x with l:=num x.l.toNat}:=by
 rcases fP num x with ⟨_,o,_⟩|⟨_,e⟩|⟨o,_⟩
 ·omega
 ·exact e
 ·omega
theorem Xv (h: ¬(3<=x.op/\x.op<=8)):dO num x=x:=by
 rcases fP num x with ⟨o,o',_⟩|⟨o,_⟩|⟨_,e⟩
 ·omega
 ·omega
 ·exact e
theorem YP (ins:List RS):Loc9 VI (valF ins):=⟨λvs vs' x num h=>by
 by_cases h8:3<=x.op/\x.op<=8
 ·by_cases h6:x.op<=6
  ·rw[aQ h8.1 h6] at h;rw[Xp ⟨h8.1,h6⟩];unfold valF;dsimp only;rw[(h x.l (by simp)).2.2,(h x.r (by simp)).2.2,zdD (show x.op≠7 by omega),zdD (show x.op≠8 by omega)]
  ·rw[bF (by omega)] at h;rw[XE (by omega)];unfold valF;dsimp only;rw[(h x.l (by simp)).2.2,zdD (show x.op≠3 by omega),zdD (show x.op≠4 by omega),zdD (show x.op≠5 by omega),zdD (show x.op≠6 by omega)];rfl
 ·rw[Xv h8];unfold valF;rw[zdD (show x.op≠3 by omega),zdD (show x.op≠4 by omega),zdD (show x.op≠5 by omega),zdD (show x.op≠6 by omega),zdD (show x.op≠7 by omega),zdD (show x.op≠8 by omega)]
  rfl⟩
def stD (ins:Nat->Du) (vs:List Du) (x:Nd):Option Du:=some (evD ins (mb (.num 0) vs) x)
theorem Zd (ins:Nat->Du):Loc9 (.num 0) (stD ins):=⟨λvs vs' x num h=>by
 unfold stD
 congr 1
 by_cases h8:3<=x.op/\x.op<=8
 ·by_cases h6:x.op<=6
  ·rw[aQ h8.1 h6] at h;rw[Xp ⟨h8.1,h6⟩];unfold evD;dsimp only;rw[(h x.l (by simp)).2.2,(h x.r (by simp)).2.2,zdD (show x.op≠7 by omega)]
  ·rw[bF (by omega)] at h;rw[XE (by omega)];unfold evD;dsimp only;rw[(h x.l (by simp)).2.2,zdD (show x.op≠3 by omega),zdD (show x.op≠4 by omega),zdD (show x.op≠5 by omega),zdD (show x.op≠6 by omega)];rfl
 ·rw[Xv h8];unfold evD;rw[zdD (show x.op≠3 by omega),zdD (show x.op≠4 by omega),zdD (show x.op≠5 by omega),zdD (show x.op≠6 by omega),zdD (show x.op≠7 by omega)]
  rfl⟩
theorem X8 (inp:ze1):Loc9 noU (mn inp):=⟨λvs vs' x num h=>by
 have ear: ∀{n:Nat} {s:Int},0<=s/\s<n->earF n s=true:=λh=>V2.2 h;by_cases h8:3<=x.op/\x.op<=8
 ·by_cases h6:x.op<=6
  ·rw[aQ h8.1 h6] at h;obtain⟨a1,a2,a3⟩:=h x.l (by simp);obtain⟨b1,b2,b3⟩:=h x.r (by simp);rw[Xp ⟨h8.1,h6⟩];have hf:VT vs'.length {x with l:=num x.l.toNat,r:=num x.r.toNat}=VT vs.length x:=by
    unfold VT;dsimp only;rw[zdD (show x.op≠1 by omega),zdD (show x.op≠2 by omega),zdw h8.1,zdw h6,ear a1,ear a2,ear b1,ear b2];rfl
   have hu:fL inp vs' {x with l:=num x.l.toNat,r:=num x.r.toNat}=fL inp vs x:=by
    unfold fL;dsimp only;rw[a3,b3,zdD (show x.op≠7 by omega),zdD (show x.op≠8 by omega)]
   unfold mn;rw[hf,hu]
  ·rw[bF (by omega)] at h;obtain⟨a1,a2,a3⟩:=h x.l (by simp);rw[XE (by omega)];have hf:VT vs'.length {x with l:=num x.l.toNat}=VT vs.length x:=by
    unfold VT;dsimp only;rw[zdD (show x.op≠1 by omega),zdD (show x.op≠2 by omega),show (decide (3<=x.op)&&decide (x.op<=6))=false by simp;omega,ear a1,ear a2];rfl
   have hu:fL inp vs' {x with l:=num x.l.toNat}=fL inp vs x:=by
    unfold fL;dsimp only;rw[a3,zdD (show x.op≠3 by omega),zdD (show x.op≠4 by omega),zdD (show x.op≠5 by omega),zdD (show x.op≠6 by omega)];rfl
   unfold mn;rw[hf,hu]
 ·rw[Xv h8];have hf:VT vs'.length x=VT vs.length x:=by
   unfold VT;rw[show (decide (3<=x.op)&&decide (x.op<=6))=false by simp;omega,zdD (show x.op≠7 by omega),zdD (show x.op≠8 by omega)];rfl
  have hu:fL inp vs' x=fL inp vs x:=by
   unfold fL;rw[zdD (show x.op≠3 by omega),zdD (show x.op≠4 by omega),zdD (show x.op≠5 by omega),zdD (show x.op≠6 by omega),zdD (show x.op≠7 by omega),zdD (show x.op≠8 by omega)];rfl
  unfold mn
  rw[hf,hu]⟩
theorem YA {need:zdU}: ∀{n j:Nat},j<cnt need n-> ∃k,k<n/\need k=true/\cnt need k=j
 |0,j,h=>absurd h (zbo j)
 |n+1,j,h=>by
  by_cases hj:j<cnt need n
  ·obtain⟨k,a,b⟩:=YA hj;exact⟨k,by omega,b⟩
  ·unfold cnt at h;cases hn:need n with
   |false=>rw[hn] at h;exact absurd h hj
   |true=>rw[hn] at h;exact⟨n,zcE n,hn,by simp at h;omega⟩
variable {need:zdU}
theorem Zs {a b:Nat} (ha:need a=true) (hb:need b=true) (h:cnt need a=cnt need b):a=b:=by
 rcases Nat.lt_trichotomy a b with c|c|c
 ·have:=I5 c ha;omega
 ·exact c
 ·have:=I5 c hb;omega
structure KeptOK (l:List Nd) (last:Int) (need:Nat->Bool):Prop where
 eq:cG l last=keepL need l 0 [] (λ_=>0)
 len:(cG l last).length=cnt need l.length
 at_: ∀k,k<l.length->need k=true->mb noN (cG l last) (cnt need k)=dO (λe=>(cnt need e:Int)) (mb noN l k)
 cl: ∀k,need k=true->k<l.length/\ ∀s∈VW (mb noN l k),s.toNat<k/\need s.toNat=true
 lst:need last.toNat=true
 top:(cG l last).length=cnt need last.toNat+1
variable {l:ze2} {last:Int}
theorem YQ (hl: ∀j,j<l.length->VN j (mb noN l j)=true) (h0:0<=last) (h1:last<l.length):KeptOK l last (bX l last):=by
 obtain⟨n1,n2⟩:=nj hl h0 h1;have hs: ∀k,k<l.length->bX l last k=true-> ∀s∈VW (mb noN l k),s.toNat<k/\bX l last s.toNat=true:=λk hk hn s hs=>⟨by have:=bL (hl k hk) s hs;omega,(n2 k hn).2 s hs⟩;obtain⟨k1,k2⟩:=nz hs l 0 [] (λ_=>0) (by simp) (by simp) rfl (λk hk=>by omega) (λk hk=>by omega);have hle: ∀k,bX l last k=true->k<=last.toNat:=λk hk=>by
  rcases zx hl l.length (λ_=>false) last k h0 h1 hk with h|h
  ·cases h
  ·omega
 have hc:=I6 (n:=l.length) (by omega) n1 hle;exact⟨rfl,k1,k2,λk hk=>⟨(n2 k hk).1,hs k (n2 k hk).1 hk⟩,n1,by show (keepL (bX l last) l 0 [] (λ_=>0)).length=_;rw[k1,hc]⟩
theorem X9 {α:Type} {d:α} {st:List α->Nd->Option α} (L:Loc9 d st) {V:List α} (K:KeptOK l last need) (hs: ∀j,j<l.length->VN j (mb noN l j)=true) (hV:Xk st l []=some V):
 ∃V',Xk st (cG l last) []=some V'/\V'.length=(cG l last).length/\ ∀k,need k=true->mb d V' (cnt need k)=mb d V k:=by
 obtain⟨v1,v2⟩:=Xm (d:=d) hV;have hp: ∀j,∃k,j<cnt need l.length->k<l.length/\need k=true/\cnt need k=j:=λj=>by
  by_cases h:j<cnt need l.length
  ·obtain⟨k,a⟩:=YA h;exact⟨k,λ_=>a⟩
  ·exact⟨0,λk=>absurd k h⟩
 obtain⟨pos,hp⟩:=Classical.axiomOfChoice hp;have tl:(Go.Sy.tab (λj=>mb d V (pos j)) (cG l last).length).length=(cG l last).length:=fJ _ _;have get: ∀k,need k=true->mb d (Go.Sy.tab (λj=>mb d V (pos j)) (cG l last).length) (cnt need k)=mb d V k:=λk hk=>by
  have hc:cnt need k<cnt need l.length:=I5 (K.cl k hk).1 hk;obtain⟨_,p2,p3⟩:=hp (cnt need k) hc;rw[bR (qX _ (by rw[K.len];exact hc)),Zs p2 hk p3]
 refine⟨_,Zr (d:=d) tl λj hj=> ?_,tl,get⟩;rw[K.len] at hj;obtain⟨p1,p2,p3⟩:=hp j hj;have hk:=K.at_ _ p1 p2;have gv:=get _ p2;rw[p3] at hk gv;rw[hk,gv,<-v2 _ p1];refine L.ren _ _ _ _ λs hsd=> ?_;have b:=bL (hs _ p1) s hsd;obtain⟨c1,c2⟩:=(K.cl _ p2).2 s hsd;have c3:=I5 c1 c2;rw[p3] at c3;refine⟨⟨b.1,by rw[zaE];omega⟩,⟨Int.natCast_nonneg _,by rw[zaE,tl,K.len];omega⟩, ?_⟩;rw[zd8,Xl c3,get _ c2,Xl (by omega)]
theorem YR:ratioU.s=2:=by kernel_rfl
theorem aam:ratioU.k=0:=by kernel_rfl
variable {a:Un}
theorem XQ {D:D7} {f:RS} {k:Int} (h:VK a=true) (hs:a.s≠0) (hD:Ye D) (he: ∀i,eD D i=eD a.d i) (hf:rV f=true) (hq:qV f=qV a.f) (hk:k=a.k):bT D f k=a:=by
 rw[Za hD (Xr (WE.1 h).1) he,wh hf (WE.1 h).2.1 hq,hk];exact(Xx h hs).symm
theorem YS (i:Nat):eD ratioU.d i=0:=Xj.1.e i
theorem YT:qV ratioU.f=1:=by have:=Xj.1.z;rw[X6] at this;exact this
theorem ZB (h:(mi a ratioU).2=0):(mi a ratioU).1=a:=by
 unfold mi at h ⊢;cases h1:aU a with
 |false=>rw[h1] at h;exact absurd (show (70:Int)=0 from h) (by decide)
 |true=>
  have h2:aU ratioU=true:=Xh.2 ⟨Xj.1.valid,Xj.2⟩;rw[h1,h2] at h;rw[h2];simp only[zbi,Bool.or_self,zdx] at h ⊢;obtain⟨f1,f2,f3⟩:=XB h;have g:=(mG f2).2.2;rw[f3];obtain⟨v,s⟩:=Xh.1 h1;refine XQ v s (Yz (Xr (WE.1 v).1) Xj.1.red) (λi=> ?_) g.valid ?_ ?_
  ·rw[Yy (Xr (WE.1 v).1) Xj.1.red,YS];grind
  ·rw[g.val,YT];grind
  ·rw[YR];rfl
theorem ZC (h:(fd a ratioU).2=0):(fd a ratioU).1=a:=by
 unfold fd at h ⊢;cases h1:aU a with
 |false=>rw[h1] at h;exact absurd (show (70:Int)=0 from h) (by decide)
 |true=>
  have h2:aU ratioU=true:=Xh.2 ⟨Xj.1.valid,Xj.2⟩;rw[h1,h2] at h;rw[h2];simp only[zbi,Bool.or_self,zdx] at h ⊢;obtain⟨f1,f2,f3⟩:=XB h;have g:=(jP f2).2.2.2;rw[f3];obtain⟨v,s⟩:=Xh.1 h1;refine XQ v s (Yz (Xr (WE.1 v).1) Xj.1.red) (λi=> ?_) g.valid ?_ ?_
  ·rw[Yy (Xr (WE.1 v).1) Xj.1.red,YS];grind
  ·rw[g.val,YT];grind
  ·rw[YR];rfl
theorem ZD (h:(mi ratioU a).2=0):(mi ratioU a).1=a:=by
 unfold mi at h ⊢;have h2:aU ratioU=true:=Xh.2 ⟨Xj.1.valid,Xj.2⟩;cases h1:aU a with
 |false=>rw[h1,h2] at h;exact absurd (show (70:Int)=0 from h) (by decide)
 |true=>
  rw[h1,h2] at h;rw[h2];simp only[zbi,Bool.or_self,zdx] at h ⊢;obtain⟨f1,f2,f3⟩:=XB h;have g:=(mG f2).2.2;rw[f3];obtain⟨v,s⟩:=Xh.1 h1;refine XQ v s (Yz Xj.1.red (Xr (WE.1 v).1)) (λi=> ?_) g.valid ?_ ?_
  ·rw[Yy Xj.1.red (Xr (WE.1 v).1),YS];grind
  ·rw[g.val,YT];grind
  ·rw[YR,aam];cases e:(2:Int)==a.s with
   |true=>exact(Y6 v (beq_iff_eq.1 e).symm).symm
   |false=>rfl
theorem Z6 {p:Int×Int} {a:D7} (hp:0<p.2) (ha:Ye a):Ye (wV p a):=by
 obtain⟨a0,a1,a2,a3,a4,a5,a6⟩:=ha;exact⟨XN hp a0.1,XN hp a1.1,XN hp a2.1,XN hp a3.1,XN hp a4.1,XN hp a5.1,XN hp a6.1⟩
theorem ZE (h:(jm a (1,1)).2=0):(jm a (1,1)).1=a:=by
 unfold jm at h ⊢;rw[Y5 (by decide)] at h ⊢;cases h1:aU a with
 |false=>rw[h1] at h;exact absurd (show (70:Int)=0 from h) (by decide)
 |true=>
  rw[h1] at h;obtain⟨v,s⟩:=Xh.1 h1;have hr:=Xr (WE.1 v).1;have hs:wV (1,1) a.d=a.d:=Za (Z6 (by decide) hr) hr λi=>by
   rw[Z0 (by decide) hr,Z5];grind
  simp only[zbi,Bool.or_self,zbj,bne_self_eq_false,Bool.false_and,zdx,BEq.rfl,zdy,hs] at h ⊢;obtain⟨u1,u2⟩:=XH a.d;rw[u2 (WE.1 v).1];cases hI:(Yk.invF 1 (bV a.f (1:Int).natAbs)).1 with
  |true=>rw[hI,u1,(WE.1 v).1] at h;exact absurd (show (70:Int)=0 from h) (by decide)
  |false=>
   rw[u1,(WE.1 v).1];have hi:(bV a.f 1).1=false:=hI;obtain⟨i1,i2⟩:=XJ hi;show bT a.d (bV a.f 1).2 a.k=a;exact XQ v s hr (λ_=>rfl) i1 (by rw[i2];grind) rfl
variable {inp:ze1} {u:Un}
theorem XR {vs:ze1} (h:mn inp vs x=some u) (o:x.op=1):u=x.u/\rV x.v=true/\VK x.u=true:=by
 obtain⟨_,h2,h3⟩:=vN h;unfold fL at h2 h3;rw[o] at h2 h3;replace h2:(bif rV x.v&&VK x.u then(x.u,(0:Int)) else(noU,90)).2=0:=h2;replace h3:(bif rV x.v&&VK x.u then(x.u,(0:Int)) else(noU,90)).1=u:=h3;cases e:rV x.v&&VK x.u with
 |false=>rw[e] at h2;exact absurd (show (90:Int)=0 from h2) (by decide)
 |true=>
  rw[e] at h3;rw[za2] at e;exact⟨h3.symm,e.1,e.2⟩
variable {v:RS}
theorem Ze (h:gk v=oK):rV v=true/\qV v=0:=by
 cases e:rV v with
 |false=>
  rw[DA e] at h;exact absurd (congrArg ByteArray.size h) (by decide)
 |true=>
  have:=Zx e;rw[h] at this;refine⟨rfl, ?_⟩;rw[<-this]
  kernel_rfl
theorem YU (h:fu x=true):x.op=1/\rV x.v=true/\qV x.v=0:=by
 unfold fu cZ at h;rw[za2,zdF,We] at h;exact⟨h.1,Ze h.2⟩
variable {us:ze1}
theorem XW (h:iD l us x u≠ -1):
 (x.op=7/\x.n=1/\iD l us x u=x.l)\/((x.op=5\/x.op=6)/\mb noN l x.r.toNat=pureF 1/\iD l us x u=x.l)\/(x.op=5/\mb noN l x.l.toNat=pureF 1/\iD l us x u=x.r)\/
 ((x.op=3\/x.op=4)/\fu (mb noN l x.r.toNat)=true/\mb noU us x.l.toNat=u/\iD l us x u=x.l)\/(x.op=3/\fu (mb noN l x.l.toNat)=true/\mb noU us x.r.toNat=u/\iD l us x u=x.r):=by
 unfold iD at h ⊢;cases h1:x.op==7&&x.n==1 with
 |true=>
  rw[za2,zdF,zdF] at h1;exact .inl ⟨h1.1,h1.2,rfl⟩
 |false=>
  rw[h1] at h;cases h2:(x.op==5||x.op==6)&&eqN (mb noN l x.r.toNat) (pureF 1) with
  |true=>
   rw[za2,zav,zdF,zdF,Wn] at h2;exact .inr (.inl ⟨h2.1,h2.2,rfl⟩)
  |false=>
   rw[h2] at h;cases h3:x.op==5&&eqN (mb noN l x.l.toNat) (pureF 1) with
   |true=>
    rw[za2,zdF,Wn] at h3;exact .inr (.inr (.inl ⟨h3.1,h3.2,rfl⟩))
   |false=>
    rw[h3] at h;cases h4:(x.op==3||x.op==4)&&(fu (mb noN l x.r.toNat)&&eqU (mb noU us x.l.toNat) u) with
    |true=>
     rw[za2,zav,zdF,zdF,za2,Wh] at h4;exact .inr (.inr (.inr (.inl ⟨h4.1,h4.2.1,h4.2.2,rfl⟩)))
    |false=>
     rw[h4] at h;cases h5:x.op==3&&(fu (mb noN l x.l.toNat)&&eqU (mb noU us x.r.toNat) u) with
     |true=>
      rw[za2,zdF,za2,Wh] at h5;exact .inr (.inr (.inr (.inr ⟨h5.1,h5.2.1,h5.2.2,rfl⟩)))
     |false=>rw[h5] at h;exact absurd rfl h
theorem Zf {n:Nat} (h:VT n x=true):(3<=x.op->x.op<=8->0<=x.l/\x.l<n)/\(3<=x.op->x.op<=6->0<=x.r/\x.r<n)/\1<=x.op/\x.op<=8/\(x.op=7\/x.op=8->x.r=0):=by
 unfold VT at h;by_cases o1:x.op=1
 ·exact⟨λ_=>by omega,λ_=>by omega,by omega,by omega,λ_=>by omega⟩
 by_cases o2:x.op=2
 ·exact⟨λ_=>by omega,λ_=>by omega,by omega,by omega,λ_=>by omega⟩
 rw[zdD o1,zdD o2] at h;by_cases o6:3<=x.op/\x.op<=6
 ·rw[zdw o6.1,zdw o6.2] at h;replace h:(eqN ⟨0,x.v,x.u,x.n,0,0⟩ noN&&earF n x.l&&earF n x.r)=true:=h;rw[za2,za2] at h;have a:=V2.1 h.1.2;have b:=V2.1 h.2;exact⟨λ_ _=>a,λ_ _=>b,by omega,by omega,λ_=>by omega⟩
 ·rw[show (decide (3<=x.op)&&decide (x.op<=6))=false by simp;omega] at h;simp only[zdx] at h;by_cases o7:x.op=7
  ·rw[o7] at h;replace h:(eqN ⟨0,x.v,x.u,0,0,x.r⟩ noN&&earF n x.l)=true:=h;rw[za2] at h;have a:=V2.1 h.2;exact⟨λ_ _=>a,λ_=>by omega,by omega,by omega,λ_=>(fM h.1).2.2⟩
  ·rw[zdD o7] at h;by_cases o8:x.op=8
   ·rw[o8] at h;replace h:(eqN ⟨0,x.v,x.u,x.n,0,x.r⟩ noN&&earF n x.l)=true:=h;rw[za2] at h;have a:=V2.1 h.2;exact⟨λ_ _=>a,λ_=>by omega,by omega,by omega,λ_=>(fM h.1).2.2⟩
   ·rw[zdD o8] at h;cases h
theorem YF (hr:Xk (mn inp) l []=some us) (ht:mn inp us x=some u) (hk:iD l us x u≠ -1):
 (0<=iD l us x u/\iD l us x u<l.length)/\mb noU us (iD l us x u).toNat=u:=by
 obtain⟨t1,t2,t3⟩:=vN ht;obtain⟨v1,v2⟩:=Xm (d:=noU) hr;obtain⟨f1,f2,f3,f4,_⟩:=Zf t1;rw[v1] at f1 f2;have one: ∀{k:Int},0<=k->k<l.length->mb noN l k.toNat=pureF 1->mb noU us k.toNat=ratioU:=λ{k} h0 h1 he=>by
  have:=v2 k.toNat (by omega);rw[he] at this;exact(XR this rfl).1
 unfold fL at t2 t3;rcases XW hk with ⟨o,on,e⟩|⟨o,on,e⟩|⟨o,on,e⟩|⟨o,_,on,e⟩|⟨o,_,on,e⟩
 ·have b:=f1 (by omega) (by omega);rw[e];refine⟨b, ?_⟩;rw[o,on] at t2 t3;replace t2:(jm (mb noU us x.l.toNat) (1,1)).2=0:=t2;replace t3:(jm (mb noU us x.l.toNat) (1,1)).1=u:=t3;rw[<-t3,ZE t2]
 ·have b:=f1 (by omega) (by omega);have c:=f2 (by omega) (by omega);rw[e];refine⟨b, ?_⟩;rcases o with o|o
  ·rw[o] at t2 t3;replace t2:(mi (mb noU us x.l.toNat) (mb noU us x.r.toNat)).2=0:=t2;replace t3:(mi (mb noU us x.l.toNat) (mb noU us x.r.toNat)).1=u:=t3;rw[one c.1 c.2 on] at t2 t3;rw[<-t3,ZB t2]
  ·rw[o] at t2 t3;replace t2:(fd (mb noU us x.l.toNat) (mb noU us x.r.toNat)).2=0:=t2;replace t3:(fd (mb noU us x.l.toNat) (mb noU us x.r.toNat)).1=u:=t3;rw[one c.1 c.2 on] at t2 t3;rw[<-t3,ZC t2]
 ·have b:=f1 (by omega) (by omega);have c:=f2 (by omega) (by omega);rw[e];refine⟨c, ?_⟩;rw[o] at t2 t3;replace t2:(mi (mb noU us x.l.toNat) (mb noU us x.r.toNat)).2=0:=t2;replace t3:(mi (mb noU us x.l.toNat) (mb noU us x.r.toNat)).1=u:=t3;rw[one b.1 b.2 on] at t2 t3;rw[<-t3,ZD t2]
 ·rw[e];exact⟨f1 (by omega) (by omega),on⟩
 ·rw[e];exact⟨f2 (by omega) (by omega),on⟩
theorem Du.mul_one (a:Du):a.mul (.num 1)=a:=Du.eq (by simp[Du.num,Du.mul]<;>grind) (by simp[Du.num,Du.mul]<;>grind)
theorem Du.one_mul (a:Du):(Du.num 1).mul a=a:=Du.eq (by simp[Du.num,Du.mul]<;>grind) (by simp[Du.num,Du.mul]<;>grind)
theorem Du.inv_one:(Du.num 1).inv= .num 1:=Du.eq (by simp[Du.num,Du.inv]<;>grind) (by simp[Du.num,Du.inv]<;>grind)
theorem aan (h:qV v=0):(⟨qV v,0⟩:Du)= .num 0:=by rw[h];rfl
section
variable {ins:Nat->Du} {l:ze2} {D:List Du}
theorem XF (hD:Xk (stD ins) l []=some D) {k:Int} (h1:k.toNat<l.length) (o:(mb noN l k.toNat).op=1):mb (.num 0) D k.toNat=⟨qV (mb noN l k.toNat).v,0⟩:=by
 have:=(Xm (d:=(.num 0)) hD).2 k.toNat h1;unfold stD at this;simp only[za1] at this;rw[<-this];unfold evD;rw[o];rfl
variable {x:Nd} {u:Un}
theorem Zt (hD:Xk (stD ins) l []=some D) {us:ze1} (hs:VN l.length x=true) (hk:iD l us x u≠ -1):evD ins (mb (.num 0) D) x=mb (.num 0) D (iD l us x u).toNat:=by
 have hm:=bL hs;have one: ∀{k:Int},k.toNat<l.length->mb noN l k.toNat=pureF 1->mb (.num 0) D k.toNat= .num 1:=λ{k} h1 he=>by
  rw[XF hD h1 (by rw[he];rfl),he,vU (by decide)];rfl
 have zero: ∀{k:Int},k.toNat<l.length->fu (mb noN l k.toNat)=true->mb (.num 0) D k.toNat= .num 0:=λ{k} h1 he=>by
  obtain⟨a,_,b⟩:=YU he;rw[XF hD h1 a,b];rfl
 have L:3<=x.op->x.op<=6->x.l.toNat<l.length/\x.r.toNat<l.length:=λa b=>by
  rw[aQ a b] at hm;have p:=hm x.l (by simp);have q:=hm x.r (by simp);omega
 rcases XW hk with ⟨o,on,e⟩|⟨o,on,e⟩|⟨o,on,e⟩|⟨o,on,_,e⟩|⟨o,on,_,e⟩
 ·rw[e];unfold evD;rw[o,on];show dA _ 1=_;exact Du.pow1 _
 ·rw[e];have:=L (by omega) (by omega);unfold evD;rcases o with o|o
  ·rw[o];show (mb (.num 0) D x.l.toNat).mul (mb (.num 0) D x.r.toNat)=_;rw[one this.2 on,Du.mul_one]
  ·rw[o];show (mb (.num 0) D x.l.toNat).mul (mb (.num 0) D x.r.toNat).inv=_;rw[one this.2 on,Du.inv_one,Du.mul_one]
 ·rw[e];have:=L (by omega) (by omega);unfold evD;rw[o];show (mb (.num 0) D x.l.toNat).mul (mb (.num 0) D x.r.toNat)=_;rw[one this.1 on,Du.one_mul]
 ·rw[e];have:=L (by omega) (by omega);unfold evD;rcases o with o|o
  ·rw[o];show (mb (.num 0) D x.l.toNat).add (mb (.num 0) D x.r.toNat)=_;rw[zero this.2 on,Du.add_zero]
  ·rw[o];show (mb (.num 0) D x.l.toNat).sub (mb (.num 0) D x.r.toNat)=_;rw[zero this.2 on,Du.sub_zero]
 ·rw[e];have:=L (by omega) (by omega);unfold evD;rw[o];show (mb (.num 0) D x.l.toNat).add (mb (.num 0) D x.r.toNat)=_;rw[zero this.1 on,Du.zero_add]
theorem Ya (h:(cK l x u).2=true):(3<=x.op/\x.op<=7)/\((O4 l x=true/\bn ⟨1, [],zD l x,u⟩ []=((cK l x u).1,0))\/(x.op=5/\(fu (mb noN l x.l.toNat)=true\/fu (mb noN l x.r.toNat)=true)/\(cK l x u).1=(rMk 0 1).1)):=by
 unfold cK at h ⊢;cases h1:decide (3<=x.op)&&decide (x.op<=7) with
 |false=>rw[h1] at h;cases h
 |true=>
  have o:=h1;rw[za2,zdA,zdA] at o;refine⟨o, ?_⟩;rw[h1,zdy] at h;rw[zdy];cases h2:O4 l x&&(bn ⟨1, [],zD l x,u⟩ []).2==0 with
  |true=>
   rw[za2,zdF] at h2;exact .inl ⟨h2.1,zc9 rfl h2.2⟩
  |false=>
   rw[h2,zdx] at h;rw[za2,zdF] at h;have hz:=h.1;unfold O5 at hz;rw[h.2] at hz;replace hz:(fu (mb noN l x.l.toNat)||fu (mb noN l x.r.toNat))=true:=hz;rw[zav] at hz;exact .inr ⟨h.2,hz,rfl⟩
theorem YG (hD:Xk (stD ins) l []=some D) (hs:VN l.length x=true) (h:(cK l x u).2=true):evD ins (mb (.num 0) D) x=⟨qV (cK l x u).1,0⟩/\rV (cK l x u).1=true:=by
 have hm:=bL hs;obtain⟨o,⟨hc,he⟩|⟨o5,hz,e⟩⟩:=Ya h
 ·have E:=xy he;obtain⟨W,hW,hw⟩:=E.sol;refine⟨?_,E.rv⟩;rw[show (⟨qV (cK l x u).1,0⟩:Du)=duR (cK l x u).1 from rfl,<-hw];unfold O4 at hc;unfold zD at hW ⊢;by_cases o6:x.op<=6
  ·rw[zdw o6,zdy] at hW ⊢;rw[zdw o6,zdy,za2,zdF,zdF] at hc;rw[aQ o.1 o6] at hm;have p:=hm x.l (by simp);have q:=hm x.r (by simp);have w0:=hW 0 (by simp);have w1:=hW 1 (by simp);have w2:=hW 2 (by simp);have d0:=XF hD (k:=x.l) (by omega) hc.1;have d1:=XF hD (k:=x.r) (by omega) hc.2;have c0: ∀{y:Nd} {f:Nat->Du} {W:Nat->Du},y.op=1->evD f W y=⟨qV y.v,0⟩:=λ{y f W} o=>by unfold evD;rw[o];rfl
   replace w0:W 0=evD _ W (mb noN l x.l.toNat):=w0;replace w1:W 1=evD _ W (mb noN l x.r.toNat):=w1;rw[c0 hc.1,<-d0] at w0;rw[c0 hc.2,<-d1] at w1;show _=W 2;rw[w2];show _=evD _ W {x with l:=0,r:=1};unfold evD;rw[zdD (show x.op≠1 by omega),zdD (show x.op≠2 by omega),zdD (show x.op≠7 by omega)];show _=(bif x.op==3 then(W 0).add (W 1) else bif x.op==4 then(W 0).sub (W 1) else bif x.op==5 then(W 0).mul (W 1) else bif x.op==6 then(W 0).mul (W 1).inv else _);rw[w0,w1];rfl
  ·rw[zdz o6,zdx] at hW ⊢;rw[zdz o6,zdx,zdF] at hc;rw[bF (by omega)] at hm;have p:=hm x.l (by simp);have w0:=hW 0 (by simp);have w1:=hW 1 (by simp);have d0:=XF hD (k:=x.l) (by omega) hc;have c0: ∀{y:Nd} {f:Nat->Du} {W:Nat->Du},y.op=1->evD f W y=⟨qV y.v,0⟩:=λ{y f W} o=>by unfold evD;rw[o];rfl
   replace w0:W 0=evD _ W (mb noN l x.l.toNat):=w0;rw[c0 hc,<-d0] at w0;show _=W 1;rw[w1];show _=evD _ W {x with l:=0};unfold evD;rw[show x.op=7 by omega];show dA _ x.n=dA (W 0) x.n;rw[w0]
 ·rw[e];obtain⟨z1,z2⟩:=nE (n:=0) (by decide);refine⟨?_,z1⟩;rw[aQ (by omega) (by omega)] at hm;have p:=hm x.l (by simp);have q:=hm x.r (by simp);rw[show (⟨qV (rMk 0 1).1,0⟩:Du)= .num 0 from aan z2];unfold evD;rw[o5];show (mb (.num 0) D x.l.toNat).mul (mb (.num 0) D x.r.toNat)=_;rcases hz with hz|hz
  ·obtain⟨a,_,b⟩:=YU hz;rw[XF hD (by omega) a,b];exact Du.zero_mul _
  ·obtain⟨a,_,b⟩:=YU hz;rw[XF hD (k:=x.r) (by omega) a,b];exact Du.mul_zero _
end
variable {u:Un}
theorem Xy (h:VK u=true):0<qV u.f:=(WE.1 h).2.2.2.1
theorem Yb (h:VK u=true):0<=u.k/\u.k<=100:=(WE.1 h).2.2.2.2.1
variable {a b:Un}
theorem ZF (h:(mi a b).2=0):VK (mi a b).1=true:=by
 unfold mi at h ⊢;cases h1:aU a with
 |false=>rw[h1] at h;exact absurd (show (70:Int)=0 from h) (by decide)
 |true=>cases h2:aU b with
  |false=>rw[h1,h2] at h;exact absurd (show (70:Int)=0 from h) (by decide)
  |true=>
   rw[h1,h2] at h;simp only[zbi,Bool.or_self,zdx] at h ⊢;obtain⟨f1,f2,f3⟩:=XB h;have g:=(mG f2).2.2;have va:=(Xh.1 h1).1;have vb:=(Xh.1 h2).1;have ka:=Yb va;have kb:=Yb vb;rw[f3];refine Xo f1 g.valid (by rw[g.val];exact Rat.mul_pos (Xy va) (Xy vb)) ?_;cases (2:Int)==b.s<;>cases (2:Int)==a.s<;>simp only[zdy,zdx]<;>omega
theorem ZG (h:(fd a b).2=0):VK (fd a b).1=true:=by
 unfold fd at h ⊢;cases h1:aU a with
 |false=>rw[h1] at h;exact absurd (show (70:Int)=0 from h) (by decide)
 |true=>cases h2:aU b with
  |false=>rw[h1,h2] at h;exact absurd (show (70:Int)=0 from h) (by decide)
  |true=>
   rw[h1,h2] at h;simp only[zbi,Bool.or_self,zdx] at h ⊢;obtain⟨f1,f2,f3⟩:=XB h;have g:=(jP f2).2.2.2;have va:=(Xh.1 h1).1;have vb:=(Xh.1 h2).1;have ka:=Yb va;rw[f3];refine Xo f1 g.valid (by rw[g.val,Rat.div_def];exact Rat.mul_pos (Xy va) (Rat.inv_pos.2 (Xy vb))) ?_;cases b.s==(2:Int)<;>simp only[zdy,zdx]<;>omega
theorem YH {p:Int×Int} (h:(jm a p).2=0) (hp:p.2=1/\p.1≠0/\ -6<=p.1/\p.1<=6\/p=(1,2)):VK (jm a p).1=true:=by
 rcases hp with ⟨e2,e0,e1,e3⟩|e
 ·obtain⟨n,d⟩:=p;dsimp only at e2 e0 e1 e3;subst e2;unfold jm at h ⊢;rw[Y5 (by omega)] at h ⊢;cases h1:aU a with
  |false=>rw[h1] at h;exact absurd (show (70:Int)=0 from h) (by decide)
  |true=>
   rw[h1] at h;have va:=(Xh.1 h1).1;have ka:=Yb va;simp only[zbi,Bool.or_self,zbj,bne_self_eq_false,Bool.false_and,zdx,BEq.rfl,zdy] at h ⊢;obtain⟨u1,u2⟩:=XH (wV (n,1) a.d);cases hD:(eS (wV (n,1) a.d)).2 with
   |false=>rw[hD] at h;exact absurd (show (70:Int)=0 from h) (by decide)
   |true=>
    have hf:=u1.symm.trans hD;rw[hD] at h;rw[u2 hf];cases hI:(Yk.invF n (bV a.f n.natAbs)).1 with
    |true=>rw[hI] at h;exact absurd (show (70:Int)=0 from h) (by decide)
    |false=>
     have key:rV (Yk.invF n (bV a.f n.natAbs)).2=true/\0<qV (Yk.invF n (bV a.f n.natAbs)).2:=by
      unfold Yk.invF at hI ⊢;cases hneg:decide (n<0) with
      |true=>
       have hneg:=zdB hneg;cases hit:(bV a.f n.natAbs).1 with
       |true=>rw[zdw hneg,hit] at hI;replace hI:(bV a.f n.natAbs).1=false:=hI;rw[hit] at hI;cases hI
       |false=>
        obtain⟨i1,i2⟩:=XJ hit;rw[zdw hneg,hit] at hI;simp only[zbh,zc7,zdy] at hI ⊢;have g:=(jP (a:=rI) (b:=(bV a.f n.natAbs).2) (by simpa using hI)).2.2.2;refine⟨g.valid, ?_⟩;rw[g.val,Rat.div_def,Zl,Rat.one_mul,i2];exact Rat.inv_pos.2 (Rat.pow_pos (Xy va))
      |false=>
       have hneg:=zdC hneg;rw[zdz hneg] at hI;simp only[Bool.false_and,zdx] at hI ⊢;obtain⟨i1,i2⟩:=XJ hI;exact⟨i1,by rw[i2];exact Rat.pow_pos (Xy va)⟩
     refine Xo hf key.1 key.2 ?_;cases eq2 (n,1) (1,1)<;>simp only[zdy,zdx]<;>omega
 ·subst e;unfold jm at h ⊢;rw[show aR (1,2)=true by decide] at h ⊢;cases h1:aU a with
  |false=>rw[h1] at h;exact absurd (show (70:Int)=0 from h) (by decide)
  |true=>
   rw[h1] at h;cases h3:eqR a.f rI with
   |false=>rw[h3] at h;exact absurd (show (70:Int)=0 from h) (by decide)
   |true=>
    rw[h3] at h;obtain⟨u1,u2⟩:=XH (wV (1,2) a.d);cases hD:(eS (wV (1,2) a.d)).2 with
    |false=>rw[hD] at h;exact absurd (show (70:Int)=0 from h) (by decide)
    |true=>
     have hf:=u1.symm.trans hD;rw[u2 hf];show VK (bT (wV (1,2) a.d) rI 0)=true;exact Xo hf (by decide) (by rw[Zl];decide) (by decide)
theorem YI {inp us:ze1} {x:Nd} (hi: ∀v∈inp,VK v=true) (hu: ∀v∈us,VK v=true) (h:mn inp us x=some u):VK u=true:=by
 obtain⟨t1,t2,t3⟩:=vN h;have ok:=EU t1 t2;have L:=ok.left;have R:=ok.right;have hop:=ok.op;have at_: ∀{k:Int},0<=k->k<us.length->VK (mb noU us k.toNat)=true:=λ{k} h0 h1=>hu _ (bw (by omega));rcases(show x.op=1\/x.op=2\/x.op=3\/x.op=4\/x.op=5\/x.op=6\/x.op=7\/x.op=8 by omega) with o|o|o|o|o|o|o|o
 ·have:=XR h o;rw[this.1];exact this.2.2
 ·have b:=ok.inp o;unfold fL at t2 t3;rw[o] at t2 t3;replace t3:(bif decide (0<=x.n)&&decide (x.n<(inp.length:Int)) then(mb noU inp x.n.toNat,(0:Int)) else(noU,90)).1=u:=t3;rw[zdw b.1,zdw b.2] at t3;rw[<-t3];exact hi _ (bw (by omega))
 ·have a:=at_ (L (by omega)).1 (L (by omega)).2;have b:=at_ (R (by omega) (by omega)).1 (R (by omega) (by omega)).2;unfold fL at t2 t3;rw[o] at t2 t3;replace t2:(iS (mb noU us x.l.toNat) (mb noU us x.r.toNat)).2=0:=t2;replace t3:(iS (mb noU us x.l.toNat) (mb noU us x.r.toNat)).1=u:=t3;rw[<-t3];unfold iS at t2 ⊢;cases hb: !jk (mb noU us x.l.toNat) (mb noU us x.r.toNat)||((mb noU us x.l.toNat).s==0&&(mb noU us x.r.toNat).s==0) with
  |true=>rw[hb] at t2;exact absurd (show (70:Int)=0 from t2) (by decide)
  |false=>
   cases (mb noU us x.r.toNat).s==0 with
   |true=>exact b
   |false=>exact a
 ·have a:=at_ (L (by omega)).1 (L (by omega)).2;unfold fL at t2 t3;rw[o] at t2 t3;replace t2:(fw (mb noU us x.l.toNat) (mb noU us x.r.toNat)).2=0:=t2;replace t3:(fw (mb noU us x.l.toNat) (mb noU us x.r.toNat)).1=u:=t3;rw[<-t3];unfold fw at t2 ⊢;cases hb: !jk (mb noU us x.l.toNat) (mb noU us x.r.toNat) with
  |true=>rw[hb] at t2;exact absurd (show (70:Int)=0 from t2) (by decide)
  |false=>
   rw[hb] at t2;cases hs:(mb noU us x.r.toNat).s !=0 with
   |true=>exact a
   |false=>
    rw[hs] at t2;cases he:eqU (mb noU us x.l.toNat) (mb noU us x.r.toNat) with
    |true=>exact Yx a
    |false=>rw[he] at t2;exact absurd (show (70:Int)=0 from t2) (by decide)
 ·unfold fL at t2 t3;rw[o] at t2 t3;replace t2:(mi (mb noU us x.l.toNat) (mb noU us x.r.toNat)).2=0:=t2;replace t3:(mi (mb noU us x.l.toNat) (mb noU us x.r.toNat)).1=u:=t3;rw[<-t3];exact ZF t2
 ·unfold fL at t2 t3;rw[o] at t2 t3;replace t2:(fd (mb noU us x.l.toNat) (mb noU us x.r.toNat)).2=0:=t2;replace t3:(fd (mb noU us x.l.toNat) (mb noU us x.r.toNat)).1=u:=t3;rw[<-t3];exact ZG t2
 ·have b:=ok.pow o;unfold fL at t2 t3;rw[o] at t2 t3;replace t2:(bif x.n==0||decide (x.n< -4)||decide (x.n>4) then(noU,(90:Int)) else jm (mb noU us x.l.toNat) (x.n,1)).2=0:=t2;replace t3:(bif x.n==0||decide (x.n< -4)||decide (x.n>4) then(noU,(90:Int)) else jm (mb noU us x.l.toNat) (x.n,1)).1=u:=t3;rw[show (x.n==0||decide (x.n< -4)||decide (x.n>4))=false by simp;omega] at t2 t3;rw[<-t3];exact YH t2 (.inl ⟨rfl,b.1,by show -6<=x.n;omega,by show x.n<=6;omega⟩)
 ·unfold fL at t2 t3;rw[o] at t2 t3;replace t2:(jm (mb noU us x.l.toNat) (1,2)).2=0:=t2;replace t3:(jm (mb noU us x.l.toNat) (1,2)).1=u:=t3;rw[<-t3];exact YH t2 (.inr rfl)
theorem YB {inp:ze1} (hi: ∀v∈inp,VK v=true): ∀{l:ze2} {us vs:ze1},(∀v∈us,VK v=true)->Xk (mn inp) l us=some vs-> ∀v∈vs,VK v=true
 | [],us,vs,h,k=>by
   simp only[Xk,za1] at k;subst k;exact h
 |x::r,us,vs,h,k=>by
  simp only[Xk] at k;cases e:mn inp us x with
  |none=>rw[e] at k;cases k
  |some u=>
   rw[e] at k;refine YB hi (λv hv=> ?_) k;rcases za8.1 hv with hv|hv
   ·exact h v hv
   ·rw[zaj.1 hv];exact YI hi h e
theorem YV {n:Nat} {y:Nd} (h:VN n y=true):dO (λe=>(e:Int)) y=y:=by
 have hm:=bL h;by_cases h8:3<=y.op/\y.op<=8
 ·by_cases h6:y.op<=6
  ·rw[aQ h8.1 h6] at hm;rw[Xp ⟨h8.1,h6⟩];have a:=hm y.l (by simp);have b:=hm y.r (by simp);obtain⟨a1,a2,a3,a4,a5,a6⟩:=y;dsimp only at a b ⊢;rw[zch a.1,zch b.1]
  ·rw[bF (by omega)] at hm;rw[XE (by omega)];have a:=hm y.l (by simp);obtain⟨a1,a2,a3,a4,a5,a6⟩:=y;dsimp only at a ⊢;rw[zch a.1]
 ·exact Xv h8
section
variable {α:Type} {d:α} {st:List α->Nd->Option α}
theorem Loc9.take (L:Loc9 d st) {vs:List α} {k:Nat} {y:Nd} (hk:k<=vs.length) (hs:VN k y=true):st vs y=st (vs.take k) y:=by
 have hm:=bL hs;have:=L.ren (vs.take k) vs y (λe=>(e:Int)) λs hs=>by
  have:=hm s hs;refine⟨⟨this.1,by rw[zaE];omega⟩,⟨Int.natCast_nonneg _,by omega⟩, ?_⟩;rw[zd8,Xl (by omega)]
 rw[YV hs] at this;exact this
end
theorem Yp {p:Nd->Bool}: ∀{l:ze2} {i:Int},0<=i->be p l i≠ -1-> ∃k,k<l.length/\be p l i=i+(k:Nat)/\p (mb noN l k)=true
 | [],i,_,h=>absurd rfl h
 |x::r,i,hi,h=>by
  unfold be at h ⊢;cases e:p x with
  |true=>exact⟨0,by simp,by simp,e⟩
  |false=>
   rw[e,zdx] at h;obtain⟨k,a,b,c⟩:=Yp (by omega) h;exact⟨k+1,by simp;omega,by rw[zdx,b];omega,c⟩
theorem Yq {p:Nd->Bool}: ∀{l:ze2} {i:Int},0<=i->be p l i= -1-> ∀k,k<l.length->p (mb noN l k)=false
 | [],i,_,_,k,hk=>absurd hk (zbo k)
 |x::r,i,hi,h,k,hk=>by
  unfold be at h;cases e:p x with
  |true=>rw[e,zdy] at h;omega
  |false=>
   rw[e,zdx] at h;cases k with
   |zero=>exact e
   |succ k=>exact Yq (by omega) h k (by simpa using hk)
def Y3 (l:ze2) (us:ze1) (x:Nd) (u:Un):Bool:= !(iD l us x u != -1)&& !(be (eqN (eZ l x u)) l 0 != -1)
theorem XS (l:ze2) (us:ze1) (x:Nd) (u:Un):
 (iD l us x u≠ -1/\Y3 l us x u=false/\ud l us x u=(l,us,iD l us x u))\/
 (∃k,k<l.length/\mb noN l k=eZ l x u/\Y3 l us x u=false/\ud l us x u=(l,us,(k:Int)))\/
 (iD l us x u= -1/\(∀k,k<l.length->mb noN l k≠eZ l x u)/\Y3 l us x u=true/\ud l us x u=(l++ [eZ l x u],us++ [u],(l.length:Int))):=by
 unfold ud Y3;cases h1:iD l us x u != -1 with
 |true=>exact .inl ⟨by simpa using h1,rfl,rfl⟩
 |false=>
  cases h2:be (eqN (eZ l x u)) l 0 != -1 with
  |true=>
   have h2:be (eqN (eZ l x u)) l 0≠ -1:=by simpa using h2
   obtain⟨k,a,b,c⟩:=Yp (zat 0) h2;rw[Int.zero_add] at b;exact .inr (.inl ⟨k,a,(Wn.1 c).symm,rfl,by rw[b];rfl⟩)
  |false=>
   have h2:be (eqN (eZ l x u)) l 0= -1:=by simpa using h2
   refine .inr (.inr ⟨by simpa using h1,λk hk e=> ?_,rfl,rfl⟩);have:=Yq (zat 0) h2 k hk;rw[e,Wn.2 rfl] at this;cases this
theorem Yc (num:Nat->Int) (i:Nat) (z:Int) (k:Nat):nc num i z k=if k=i then z else num k:=by
 unfold nc;rw[bS];by_cases h:k=i
 ·rw[zdw h,if_pos h];rfl
 ·rw[zdz h,if_neg h];rfl
structure SimV {α:Type} (d:α) (st:List α->Nd->Option α) (VX:List α) (i:Nat) (l:List Nd) (num:Nat->Int) (V:List α):Prop where
 run:Xk st l []=some V
 nm: ∀k,k<i->mb d V (num k).toNat=mb d VX k
structure SimX (i:Nat) (l:List Nd) (num:Nat->Int):Prop where
 idx: ∀k,k<i->0<=num k/\num k<l.length
 side: ∀j,j<l.length->VN j (mb noN l j)=true
 le:l.length<=i
section
variable {α:Type} {d:α} {st:List α->Nd->Option α} {VX V:List α} {X l:ze2} {us:ze1} {num:Nat->Int} {i:Nat} {u:Un}
theorem SimV.at_ (L:Loc9 d st) (hX:Xk st X []=some VX) (hi:i<X.length) (hs:VN i (mb noN X i)=true) (E:SimX i l num) (S:SimV d st VX i l num V):st V (dO num (mb noN X i))=some (mb d VX i):=by
 obtain⟨x1,x2⟩:=Xm (d:=d) hX;obtain⟨v1,_⟩:=Xm (d:=d) S.run;have hm:=bL hs;rw[<-x2 i hi];refine L.ren _ _ _ _ λs hs=> ?_;have b:=hm s hs;have c:=E.idx s.toNat (by omega);refine⟨⟨b.1,by rw[zaE];omega⟩,⟨c.1,by omega⟩, ?_⟩;rw[S.nm _ (by omega),Xl (by omega)]
variable {x:Nd}
theorem Zg {n:Nat} (h:VN n x=true):VN n (eZ l x u)=true:=by
 unfold eZ;cases (cK l x u).2 with
 |true=>rfl
 |false=>exact h
theorem SimX.ren (E:SimX i l num) (hs:VN i x=true):VN l.length (dO num x)=true:=vZ λs hs'=>by
 have b:=bL hs s hs';exact E.idx s.toNat (by omega)
theorem SimX.step (E:SimX i l num) (hs:VN i x=true) (hsame:iD l us (dO num x) u≠ -1->0<=iD l us (dO num x) u/\iD l us (dO num x) u<l.length):SimX (i+1) (ud l us (dO num x) u).1 (nc num i (ud l us (dO num x) u).2.2):=by
 have hx:=E.ren hs
 have old: ∀z:Int,0<=z->z<l.length->SimX (i+1) l (nc num i z):=λz h0 h1=>⟨λk hk=>by
  rw[Yc];by_cases e:k=i
  ·rw[if_pos e];exact⟨h0,h1⟩
  ·rw[if_neg e];exact E.idx k (by omega),E.side,by have:=E.le;omega⟩
 rcases XS l us (dO num x) u with ⟨h,_,e⟩|⟨k,hk,_,_,e⟩|⟨_,_,_,e⟩
 ·rw[e];exact old _ (hsame h).1 (hsame h).2
 ·rw[e];exact old _ (Int.natCast_nonneg _) (by dsimp only;omega)
 ·rw[e];refine⟨λk hk=> ?_,λj hj=> ?_,by simp;exact E.le⟩
  ·rw[Yc];simp only[za3,za6];by_cases e:k=i
   ·rw[if_pos e];omega
   ·rw[if_neg e];have:=E.idx k (by omega);omega
  ·simp only[za3,za6] at hj;dsimp only;rw[aS];by_cases e:j=l.length
   ·rw[if_pos e,e];exact Zg hx
   ·rw[if_neg e];exact E.side j (by omega)
theorem SimV.step (L:Loc9 d st) (hX:Xk st X []=some VX) (hi:i<X.length) (hs:VN i (mb noN X i)=true) (E:SimX i l num) (S:SimV d st VX i l num V)
 (hsame:iD l us (dO num (mb noN X i)) u≠ -1->mb d V (iD l us (dO num (mb noN X i)) u).toNat=mb d VX i)
 (hpick:st V (dO num (mb noN X i))=some (mb d VX i)->st V (eZ l (dO num (mb noN X i)) u)=some (mb d VX i)):
 SimV d st VX (i+1) (ud l us (dO num (mb noN X i)) u).1 (nc num i (ud l us (dO num (mb noN X i)) u).2.2) (bif Y3 l us (dO num (mb noN X i)) u then V++ [mb d VX i] else V):=by
 obtain⟨v1,v2⟩:=Xm (d:=d) S.run;have hx:=E.ren hs;have hp:=hpick (S.at_ L hX hi hs E)
 have old: ∀z:Int,mb d V z.toNat=mb d VX i->SimV d st VX (i+1) l (nc num i z) V:=λz h=>⟨S.run,λk hk=>by
  rw[Yc];by_cases e:k=i
  ·rw[if_pos e,e];exact h
  ·rw[if_neg e];exact S.nm k (by omega)⟩
 rcases XS l us (dO num (mb noN X i)) u with ⟨h,n,e⟩|⟨k,hk,he,n,e⟩|⟨_,_,n,e⟩
 ·rw[e,n];exact old _ (hsame h)
 ·rw[e,n];refine old _ ?_;rw[zd8];have a:=v2 k hk;have b:=L.take (vs:=V) (k:=k) (y:=mb noN l k) (by omega) (E.side k hk);rw[a,he,hp] at b;exact(zbl b).symm
 ·rw[e,n];refine⟨Yf S.run hp,λk hk=> ?_⟩;rw[Yc];by_cases e:k=i
  ·rw[if_pos e,e,zd8,zdy,aS,if_pos v1.symm]
  ·rw[if_neg e];have b:=E.idx k (by omega);rw[zdy,aS,if_neg (by omega)];exact S.nm k (by omega)
end
variable {u:Un}
theorem Z7 {l:ze2} {x:Nd} (h:(cK l x u).2=true):rV (cK l x u).1=true:=by
 obtain⟨_,⟨_,he⟩|⟨_,_,e⟩⟩:=Ya h
 ·exact(xy he).rv
 ·rw[e];exact(nE (n:=0) (by decide)).1
theorem ZH {inp us:ze1} {v:RS} (hv:rV v=true) (hu:VK u=true):mn inp us ⟨1,v,u,0,0,0⟩=some u:=by
 have e:fL inp us ⟨1,v,u,0,0,0⟩=(u,0):=by
  show (bif rV v&&VK u then(u,(0:Int)) else(noU,90))=_;rw[hv,hu];rfl
 unfold mn;rw[show VT us.length ⟨1,v,u,0,0,0⟩=true from rfl,e];rfl
theorem Xu (l:ze2) (x:Nd) (u:Un):((cK l x u).2=false/\eZ l x u=x)\/((cK l x u).2=true/\eZ l x u=⟨1,(cK l x u).1,u,0,0,0⟩):=by
 unfold eZ;cases (cK l x u).2 with
 |true=>exact .inr ⟨rfl,rfl⟩
 |false=>exact .inl ⟨rfl,rfl⟩
structure StOK (l:List Nd) (us:List Un) (j:Nat):Prop where
 same:iD (l.take j) (us.take j) (mb noN l j) (mb noU us j)= -1
 val:(cK (l.take j) (mb noN l j) (mb noU us j)).2=false
 dif: ∀i,i<j->mb noN l i≠mb noN l j
structure SimI (inp:List Un) (UX:List Un) (i:Nat) (l:List Nd) (us:List Un) (num:Nat->Int):Prop where
 x:SimX i l num
 un:SimV noU (mn inp) UX i l num us
 st: ∀j,j<l.length->StOK l us j
section
variable {inp UX us:ze1} {X l:ze2} {num:Nat->Int} {i:Nat}
theorem SimI.step (hinp: ∀v∈inp,VK v=true) (hX:Xk (mn inp) X []=some UX) (hi:i<X.length) (hs:VN i (mb noN X i)=true) (S:SimI inp UX i l us num):
 SimI inp UX (i+1) (ud l us (dO num (mb noN X i)) (mb noU UX i)).1 (ud l us (dO num (mb noN X i)) (mb noU UX i)).2.1 (nc num i (ud l us (dO num (mb noN X i)) (mb noU UX i)).2.2):=by
 have ht:=S.un.at_ (X8 inp) hX hi hs S.x;have hus:=YB hinp (λv hv=>by cases hv) S.un.run;have l1:=(Xm (d:=noU) S.un.run).1;have su: ∀h,_:=λh=>YF S.un.run ht h;have hp:mn inp us (eZ l (dO num (mb noN X i)) (mb noU UX i))=some (mb noU UX i):=by
  rcases Xu l (dO num (mb noN X i)) (mb noU UX i) with ⟨_,e⟩|⟨h,e⟩
  ·rw[e];exact ht
  ·rw[e];exact ZH (Z7 h) (YI hinp hus ht)
 have A:=S.x.step (u:=mb noU UX i) (us:=us) hs (λh=>(su h).1);have B:=S.un.step (u:=mb noU UX i) (us:=us) (X8 inp) hX hi hs S.x (λh=>(su h).2) (λ_=>hp);rcases XS l us (dO num (mb noN X i)) (mb noU UX i) with ⟨_,n,e⟩|⟨_,_,_,n,e⟩|⟨h1,h2,n,e⟩
 ·rw[n] at B;rw[e] at A B ⊢;exact⟨A,B,S.st⟩
 ·rw[n] at B;rw[e] at A B ⊢;exact⟨A,B,S.st⟩
 ·rw[n] at B;rw[e] at A B ⊢;refine⟨A,B,λj hj=> ?_⟩;simp only[za3,za6] at hj;by_cases hjl:j=l.length
  ·subst hjl;have tl:(l++ [eZ l (dO num (mb noN X i)) (mb noU UX i)]).take l.length=l:=List.take_left;have tu:(us++ [mb noU UX i]).take l.length=us:=by rw[<-l1];exact List.take_left
   have nl:mb noN (l++ [eZ l (dO num (mb noN X i)) (mb noU UX i)]) l.length=eZ l (dO num (mb noN X i)) (mb noU UX i):=by rw[aS,if_pos rfl]
   have nu:mb noU (us++ [mb noU UX i]) l.length=mb noU UX i:=by rw[aS,if_pos l1.symm]
   refine⟨?_, ?_,λk hk=> ?_⟩
   ·dsimp only;rw[tl,tu,nl,nu];rcases Xu l (dO num (mb noN X i)) (mb noU UX i) with ⟨_,e⟩|⟨_,e⟩
    ·rw[e];exact h1
    ·rw[e];rfl
   ·dsimp only;rw[tl,nl,nu];rcases Xu l (dO num (mb noN X i)) (mb noU UX i) with ⟨h,e⟩|⟨_,e⟩
    ·rw[e];exact h
    ·rw[e];rfl
   ·dsimp only;rw[nl,aS,if_neg (by omega)];exact h2 k hk
  ·have hlt:j<l.length:=by omega
   obtain⟨s1,s2,s3⟩:=S.st j hlt;have tl:(l++ [eZ l (dO num (mb noN X i)) (mb noU UX i)]).take j=l.take j:=List.take_append_of_le_length (by omega);have tu:(us++ [mb noU UX i]).take j=us.take j:=List.take_append_of_le_length (by omega);have nl: ∀k,k<=j->mb noN (l++ [eZ l (dO num (mb noN X i)) (mb noU UX i)]) k=mb noN l k:=λk hk=>by rw[aS,if_neg (by omega)]
   have nu:mb noU (us++ [mb noU UX i]) j=mb noU us j:=by rw[aS,if_neg (by omega)]
   refine⟨?_, ?_,λk hk=> ?_⟩
   ·dsimp only;rw[tl,tu,nl j (za0 _),nu];exact s1
   ·dsimp only;rw[tl,nl j (za0 _),nu];exact s2
   ·dsimp only;rw[nl j (za0 _),nl k (by omega)];exact s3 k hk
variable {u:Un}
theorem SimV.du (hi:i<X.length) (hs:VN i (mb noN X i)=true) (S:SimX i l num) {ins:Nat->Du} {DX D:List Du} (hX:Xk (stD ins) X []=some DX) (V:SimV (.num 0) (stD ins) DX i l num D) :
 ∃D',SimV (.num 0) (stD ins) DX (i+1) (ud l us (dO num (mb noN X i)) u).1 (nc num i (ud l us (dO num (mb noN X i)) u).2.2) D':=by
 have hx:=S.ren hs;have ht:=V.at_ (Zd ins) hX hi hs S;have he:evD ins (mb (.num 0) D) (dO num (mb noN X i))=mb (.num 0) DX i:=zbl ht;refine⟨_,V.step (us:=us) (u:=u) (Zd ins) hX hi hs S (λh=> ?_) (λ_=> ?_)⟩
 ·rw[<-he];exact(Zt V.run hx h).symm
 ·rcases Xu l (dO num (mb noN X i)) u with ⟨_,e⟩|⟨h,e⟩
  ·rw[e];exact ht
  ·rw[e,<-he,(YG V.run hx h).1];rfl
theorem XK: ∀{V:List RS} {k:Nat},k<V.length->mb (.num 0) (V.map duR) k=duR (mb VI V k)
 | [],k,h=>absurd h (zbo k)
 |x::r,0,_=>rfl
 |x::r,k+1,h=>XK (V:=r) (by simpa using h)
variable {insR V:List RS}
theorem Z8 (hn:insR.length=inp.length) (hr: ∀r∈insR,rV r=true) (hu:Xk (mn inp) l []=some us) (hv:Xk (valF insR) l []=some V):
 Xk (stD (λe=>duR (mb VI insR e))) l []=some (V.map duR)/\ ∀k,k<l.length->rV (mb VI V k)=true:=by
 obtain⟨u1,u2⟩:=Xm (d:=noU) hu;obtain⟨v1,v2⟩:=Xm (d:=VI) hv;have key: ∀j,j<l.length->rV (mb VI V j)=true/\duR (mb VI V j)=evD (λe=>duR (mb VI insR e)) (λk=>duR (mb VI (V.take j) k)) (mb noN l j)/\VN j (mb noN l j)=true:=λj hj=>by
  obtain⟨t1,t2,_⟩:=vN (u2 j hj);have ok:=EU t1 t2;rw[zaE,u1,zbQ (by omega)] at ok;have ni:=ok.nodeIn;unfold nodeIn at ni;rw[za2] at ni;obtain⟨a,b,_⟩:=Jc (v2 j hj) ok (λo=>(XR (u2 j hj) o).2.1) hr hn.symm;exact⟨a,b,ni.1⟩
 refine⟨Zr (d:= .num 0) (by rw[zaB,v1]) λj hj=> ?_,λk hk=>(key k hk).1⟩;obtain⟨_,b,c⟩:=key j hj;have hm:=bL c;rw[XK (by omega),b];unfold stD
 congr 1
 refine jK λs hs=> ?_;have:=hm s hs;rw[Xl (by omega),XK (by omega),Xl (by omega)]
theorem Zu {a b:RS} (ha:rV a=true) (hb:rV b=true) (h:duR a=duR b):a=b:=wh ha hb (congrArg Du.v h)
theorem SimV.va (hi:i<X.length) (hs:VN i (mb noN X i)=true) (S:SimX i l num) {WX:List RS} (hn:insR.length=inp.length) (hr: ∀r∈insR,rV r=true) (hU:Xk (mn inp) X []=some UX) (hu:Xk (mn inp) l []=some us)
 (hX:Xk (valF insR) X []=some WX) (W:SimV VI (valF insR) WX i l num V) (hus:mn inp us (dO num (mb noN X i))=some u) (hsame:iD l us (dO num (mb noN X i)) u≠ -1->0<=iD l us (dO num (mb noN X i)) u/\iD l us (dO num (mb noN X i)) u<l.length):
 ∃V',SimV VI (valF insR) WX (i+1) (ud l us (dO num (mb noN X i)) u).1 (nc num i (ud l us (dO num (mb noN X i)) u).2.2) V':=by
 have hx:=S.ren hs;have hm:=bL hx;have ht:=W.at_ (YP insR) hX hi hs S;obtain⟨d1,d2⟩:=Z8 hn hr hu W.run;have v1:=(Xm (d:=VI) W.run).1;have rX:rV (mb VI WX i)=true:=(Z8 hn hr hU hX).2 i hi;have u1:=(Xm (d:=noU) hu).1;obtain⟨t1,t2,_⟩:=vN hus;have ok:=EU t1 t2;obtain⟨_,b,_⟩:=Jc ht ok (λo=>(XR hus o).2.1) hr hn.symm;have he:evD (λe=>duR (mb VI insR e)) (mb (.num 0) (V.map duR)) (dO num (mb noN X i))=duR (mb VI WX i):=by
  rw[b];refine jK λs hs=> ?_;have:=hm s hs;rw[XK (by omega)]
 refine⟨_,W.step (us:=us) (u:=u) (YP insR) hX hi hs S (λh=> ?_) (λ_=> ?_)⟩
 ·have q:=hsame h;have:=Zt d1 hx h;rw[he,XK (by omega)] at this;exact(Zu rX (d2 _ (by omega)) this).symm
 ·rcases Xu l (dO num (mb noN X i)) u with ⟨_,e⟩|⟨h,e⟩
  ·rw[e];exact ht
  ·obtain⟨a,r⟩:=YG d1 hx h;rw[he] at a;rw[e,<-Zu rX r a];rfl
end
theorem Z9 {need:zdU}: ∀{n:Nat},cnt need n<=n
 |0=>za0 _
 |n+1=>by
  have:=Z9 (need:=need) (n:=n);unfold cnt;cases need n<;>simp only[zdy,zdx]<;>omega
section
variable {inp UX:ze1} {X:ze2}
theorem Zv (hinp: ∀v∈inp,VK v=true) (hX:Xk (mn inp) X []=some UX) (hs: ∀j,j<X.length->VN j (mb noN X j)=true):
 ∀(r:ze2) (i:Nat) (l:ze2) (us:ze1) (num:Nat->Int),r=X.drop i->i+r.length=X.length->SimI inp UX i l us num->
  ∃us',SimI inp UX X.length (Wy UX r i l us num).1 us' (Wy UX r i l us num).2/\
  (∀(ins:Nat->Du) (DX D:List Du),Xk (stD ins) X []=some DX->SimV (.num 0) (stD ins) DX i l num D-> ∃D',SimV (.num 0) (stD ins) DX X.length (Wy UX r i l us num).1 (Wy UX r i l us num).2 D')/\
  (∀(insR WX W:List RS),insR.length=inp.length->(∀r∈insR,rV r=true)->Xk (valF insR) X []=some WX->SimV VI (valF insR) WX i l num W-> ∃W',SimV VI (valF insR) WX X.length (Wy UX r i l us num).1 (Wy UX r i l us num).2 W')
 | [],i,l,us,num,_,hlen,S=>by
   obtain rfl:i=X.length:=by simpa using hlen
   exact⟨us,S,λins DX D _ h=>⟨D,h⟩,λinsR WX W _ _ _ h=>⟨W,h⟩⟩
 |x::r,i,l,us,num,hr,hlen,S=>by
  simp only[za4] at hlen;have hi:i<X.length:=by omega
  have hx:mb noN X i=x:=bR (by rw[<-zce,<-hr];rfl);have hr':r=X.drop (i+1):=by rw[<-zcf,<-hr];rfl
  have hsi:=hs i hi;have T:=S.step hinp hX hi hsi;have ht:=S.un.at_ (X8 inp) hX hi hsi S.x;have hsame:=λh=>(YF S.un.run ht h).1;unfold Wy;rw[hx] at T ht hsame;obtain⟨us',a,b,c⟩:=Zv hinp hX hs r (i+1) _ _ _ hr' (by omega) T;refine⟨us',a,λins DX D hD V=> ?_,λinsR WX W hn hv hW V=> ?_⟩
  ·obtain⟨D',V'⟩:=V.du (us:=us) (u:=mb noU UX i) hi hsi S.x hD;rw[hx] at V';exact b ins DX D' hD V'
  ·obtain⟨W',V'⟩:=V.va (us:=us) hi hsi S.x hn hv hX S.un.run hW (u:=mb noU UX i) (by rw[hx];exact ht) (by rw[hx];exact hsame);rw[hx] at V';exact c insR WX W' hn hv hW V'
end
structure SimOK (p:Pr) (l:List Nd) (us UX:List Un) (last:Int) (need:Nat->Bool):Prop where
 eq:xH p=(⟨p.id,p.inp,cG l last,p.out⟩,0)
 unX:Xk (mn p.inp) p.nod []=some UX
 un:Xk (mn p.inp) l []=some us
 side: ∀j,j<l.length->VN j (mb noN l j)=true
 lst:0<=last/\last<l.length
 kept:KeptOK l last need
 le:l.length<=p.nod.length
 nd:need=bX l last
 st: ∀j,j<l.length->StOK l us j
 lu:mb noU us last.toNat=p.out
 du: ∀(ins:Nat->Du) (DX:List Du),Xk (stD ins) p.nod []=some DX-> ∃D,Xk (stD ins) l []=some D/\mb (.num 0) D last.toNat=mb (.num 0) DX (p.nod.length - 1)
 va: ∀(insR WX:List RS),insR.length=p.inp.length->(∀r∈insR,rV r=true)->Xk (valF insR) p.nod []=some WX-> ∃W,Xk (valF insR) l []=some W/\mb VI W last.toNat=mb VI WX (p.nod.length - 1)
theorem Zh {p:Pr} (hv:VM p=true): ∃l us UX last need,SimOK p l us UX last need:=by
 have hc:(VJ p).2.2=0:=by unfold VM at hv;simpa using hv
 obtain⟨h1,h2,h3⟩:=Fq hc;have hX:=X7.1 h1;obtain⟨b1,b2,b3⟩:=cV hv;have hinp: ∀v∈p.inp,VK v=true:=zaf.1 (Wb.1 h3).2.1;have hs: ∀j,j<p.nod.length->VN j (mb noN p.nod j)=true:=λj hj=>by
  have ok:=((bQ hv).2 j hj).nodeIn;unfold nodeIn at ok;rw[za2] at ok;exact ok.1
 have S0:SimI p.inp (VJ p).1 0 [] [] (λ_=>0):=⟨⟨λk hk=>by omega,λj hj=>absurd hj (zbo j),za0 _⟩,⟨rfl,λk hk=>by omega⟩,λj hj=>absurd hj (zbo j)⟩;obtain⟨us,a,b,c⟩:=Zv hinp hX hs p.nod 0 [] [] (λ_=>0) rfl (by simp) S0;have hl:=a.x.idx (p.nod.length - 1) (by omega);have xl:=(Xm (d:=noU) hX).1;refine⟨_,us,(VJ p).1,_,_,⟨?_,hX,a.un.run,a.x.side,hl,YQ a.x.side hl.1 hl.2,a.x.le,rfl,a.st, ?_,λins DX hD=> ?_,λinsR WX hn hr hW=> ?_⟩⟩
 ·unfold xH;rw[hc];rfl
 ·rw[a.un.nm _ (by omega),<-xl];exact Wh.1 h2
 ·obtain⟨D,V⟩:=b ins DX [] hD ⟨rfl,λk hk=>by omega⟩;exact⟨D,V.run,V.nm _ (by omega)⟩
 ·obtain⟨W,V⟩:=c insR WX [] hn hr hW ⟨rfl,λk hk=>by omega⟩;exact⟨W,V.run,V.nm _ (by omega)⟩
theorem YW {ins:Nat->Du}: ∀{l:ze2} {vs:List Du},Xk (stD ins) l vs=some (duL ins l vs)
 | [],_=>rfl
 |x::r,vs=>by
  unfold Xk duL stD;exact YW
section
variable {p:Pr} {l:ze2} {us UX:ze1} {last:Int} {need:zdU}
theorem SimOK.klen (S:SimOK p l us UX last need):1<=(cG l last).length/\(cG l last).length<=p.nod.length:=by
 refine⟨by rw[S.kept.top];omega, ?_⟩;rw[S.kept.len];have:=Z9 (need:=need) (n:=l.length);have:=S.le;omega
theorem SimOK.valid (S:SimOK p l us UX last need) (hv:VM p=true):VM (xH p).1=true/\(xH p).1.id=p.id/\(xH p).1.inp=p.inp/\(xH p).1.out=p.out/\(xH p).1.nod.length<=p.nod.length:=by
 have k:=S.klen;rw[S.eq];refine⟨?_,rfl,rfl,rfl,k.2⟩;obtain⟨V',r,vl,va⟩:=X9 (X8 p.inp) S.kept S.side S.un;have hb:=Wb.1 (bQ hv).1;obtain⟨⟨i1,i2,i3⟩,i4,i5,i6⟩:=hb;have b:oB ⟨p.id,p.inp,cG l last,p.out⟩=true:=Wb.2 ⟨⟨i1,i2,i3⟩,i4,k.1,by show (cG l last).length<=40;omega⟩;have hl:ly V'=p.out:=by
  unfold ly;rw[vl,S.kept.top,Nat.add_sub_cancel,va _ S.kept.lst,S.lu]
 unfold VM VJ;rw[b,zdy,show iB (Pr.mk p.id p.inp (cG l last) p.out).inp (Pr.mk p.id p.inp (cG l last) p.out).nod []=(V',true) from X7.2 r];show ((bif eqU (ly V') p.out then _ else _:List Un×Int×Int).2.2==0)=true;rw[hl,Wh.2 rfl];rfl
theorem SimOK.value (S:SimOK p l us UX last need) {ins:List RS} {v:RS} (h:bn p ins=(v,0)):bn (xH p).1 ins=(v,0):=by
 have E:=xy h;have hv:=S.valid E.valid;unfold bn at h;rw[E.valid,E.len,show ins.all rV=true from zaf.2 E.vin] at h;simp only[bne_self_eq_false,zbi,Bool.or_self,zdx] at h;cases hw:iC ins p.nod [] with
 |none=>rw[hw] at h;exact absurd (congrArg Prod.snd h) (show ¬(90:Int)=0 by decide)
 |some WX=>
  rw[hw] at h;have hX:=hw;rw[Yg] at hX;have hlast:CU WX=v:=congrArg Prod.fst h;obtain⟨W,r,e⟩:=S.va ins WX E.len E.vin hX;obtain⟨V',r',vl,va⟩:=X9 (YP ins) S.kept S.side r;have wl:=(Xm (d:=VI) hX).1;unfold bn;rw[hv.1,hv.2.2.1,E.len,show ins.all rV=true from zaf.2 E.vin];simp only[bne_self_eq_false,zbi,Bool.or_self,zdx];rw[S.eq,Yg];dsimp only;rw[r'];show (CU V',(0:Int))=_;unfold CU at hlast ⊢;rw[vl,S.kept.top,Nat.add_sub_cancel,va _ S.kept.lst,e,<-wl,hlast]
theorem SimOK.dual (S:SimOK p l us UX last need) (ins:Nat->Du):mb (.num 0) (duL ins (xH p).1.nod []) ((xH p).1.nod.length - 1)=mb (.num 0) (duL ins p.nod []) (p.nod.length - 1):=by
 obtain⟨D,r,e⟩:=S.du ins _ YW;obtain⟨V',r',vl,va⟩:=X9 (Zd ins) S.kept S.side r;rw[S.eq];have:duL ins (cG l last) []=V':=by
  have:=r'.symm.trans (YW (ins:=ins) (l:=cG l last) (vs:= []));exact(zbl this).symm
 dsimp only;rw[this,S.kept.top,Nat.add_sub_cancel,va _ S.kept.lst,e]
end
variable {x:Nd}
theorem Zi {l:ze2} {us:ze1} {u:Un} (h:iD l us x u= -1) (hl:3<=x.op/\x.op<=8->0<=x.l) (hr:3<=x.op/\x.op<=6->0<=x.r):
 ¬(x.op=7/\x.n=1)/\ ¬((x.op=5\/x.op=6)/\mb noN l x.r.toNat=pureF 1)/\ ¬(x.op=5/\mb noN l x.l.toNat=pureF 1)/\
 ¬((x.op=3\/x.op=4)/\fu (mb noN l x.r.toNat)=true/\mb noU us x.l.toNat=u)/\ ¬(x.op=3/\fu (mb noN l x.l.toNat)=true/\mb noU us x.r.toNat=u):=by
 unfold iD at h;cases h1:x.op==7&&x.n==1 with
 |true=>
  rw[h1] at h;rw[za2,zdF] at h1;have:=hl (by omega);have h:x.l= -1:=h;omega
 |false=>
  rw[h1,zdx] at h;cases h2:(x.op==5||x.op==6)&&eqN (mb noN l x.r.toNat) (pureF 1) with
  |true=>
   rw[h2] at h;rw[za2,zav,zdF,zdF] at h2;have:=hl (by omega);have h:x.l= -1:=h;omega
  |false=>
   rw[h2,zdx] at h;cases h3:x.op==5&&eqN (mb noN l x.l.toNat) (pureF 1) with
   |true=>
    rw[h3] at h;rw[za2,zdF] at h3;have:=hr (by omega);have h:x.r= -1:=h;omega
   |false=>
    rw[h3,zdx] at h;cases h4:(x.op==3||x.op==4)&&(fu (mb noN l x.r.toNat)&&eqU (mb noU us x.l.toNat) u) with
    |true=>
     rw[h4] at h;rw[za2,zav,zdF,zdF] at h4;have:=hl (by omega);have h:x.l= -1:=h;omega
    |false=>
     rw[h4,zdx] at h;cases h5:x.op==3&&(fu (mb noN l x.l.toNat)&&eqU (mb noU us x.r.toNat) u) with
     |true=>
      rw[h5] at h;rw[za2,zdF] at h5;have:=hr (by omega);have h:x.r= -1:=h;omega
     |false=>
      refine⟨λ⟨a,b⟩=> ?_,λ⟨a,b⟩=> ?_,λ⟨a,b⟩=> ?_,λ⟨a,b,c⟩=> ?_,λ⟨a,b,c⟩=> ?_⟩
      ·rw[a,b] at h1;cases h1
      ·rw[b,Wn.2 rfl] at h2;rcases a with a|a<;>(rw[a] at h2;cases h2)
      ·rw[a,b,Wn.2 rfl] at h3;cases h3
      ·rw[b,c,Wh.2 rfl] at h4;rcases a with a|a<;>(rw[a] at h4;cases h4)
      ·rw[a,b,c,Wh.2 rfl] at h5;cases h5
theorem Ys (num:Nat->Int) (x:Nd):fu (dO num x)=fu x:=by
 obtain⟨a,b,_⟩:=Xn num x;unfold fu cZ;rw[a,b]
theorem ZI {num:Nat->Int} (h:(dO num x).op=1):dO num x=x:=by
 rw[(Xn num x).1] at h;exact Xv (by omega)
structure RenOK (need:Nat->Bool) (l K:List Nd) (us U:List Un) (k:Nat):Prop where
 nd: ∀s:Int,s∈VW (mb noN l k)->0<=s/\mb noN (K.take (cnt need k)) ((cnt need s.toNat:Nat):Int).toNat=dO (λe=>(cnt need e:Int)) (mb noN (l.take k) s.toNat)/\mb noU (U.take (cnt need k)) ((cnt need s.toNat:Nat):Int).toNat=mb noU (us.take k) s.toNat
section
variable {need:zdU} {l K:ze2} {us U:ze1} {k:Nat}
variable {u:Un}
theorem aaa (R:RenOK need l K us U k) (h:iD (l.take k) (us.take k) (mb noN l k) u= -1):iD (K.take (cnt need k)) (U.take (cnt need k)) (dO (λe=>(cnt need e:Int)) (mb noN l k)) u= -1:=by
 have two:3<=(mb noN l k).op->(mb noN l k).op<=6->(mb noN l k).l∈VW (mb noN l k)/\(mb noN l k).r∈VW (mb noN l k):=λa b=>by rw[aQ a b];simp
 obtain⟨c1,c2,c3,c4,c5⟩:=Zi h (λo=>by
  by_cases o6:(mb noN l k).op<=6
  ·exact(R.nd _ (two o.1 o6).1).1
  ·exact(R.nd _ (by rw[bF (by omega)];simp)).1) (λo=>(R.nd _ (two o.1 o.2).2).1)
 apply Classical.byContradiction;intro hc;obtain⟨f1,f2,f3,f4⟩:=Xn (λe=>(cnt need e:Int)) (mb noN l k);have S:=XW hc;rw[f1,f4] at S;have one: ∀{s:Int},s∈VW (mb noN l k)->mb noN (K.take (cnt need k)) ((cnt need s.toNat:Nat):Int).toNat=pureF 1->mb noN (l.take k) s.toNat=pureF 1:=λ{s} hs he=>by
  obtain⟨_,a,_⟩:=R.nd s hs;rw[a] at he;rw[<-he];exact(ZI (by rw[he];rfl)).symm
 have zero: ∀{s:Int},s∈VW (mb noN l k)->fu (mb noN (K.take (cnt need k)) ((cnt need s.toNat:Nat):Int).toNat)=true->fu (mb noN (l.take k) s.toNat)=true:=λ{s} hs he=>by
  obtain⟨_,a,_⟩:=R.nd s hs;rw[a,Ys] at he;exact he
 rcases S with ⟨o,on,_⟩|⟨o,on,_⟩|⟨o,on,_⟩|⟨o,on,ou,_⟩|⟨o,on,ou,_⟩
 ·exact c1 ⟨o,on⟩
 ·have t:=two (by omega) (by omega);rw[Xp (by omega)] at on;exact c2 ⟨o,one t.2 on⟩
 ·have t:=two (by omega) (by omega);rw[Xp (by omega)] at on;exact c3 ⟨o,one t.1 on⟩
 ·have t:=two (by omega) (by omega);rw[Xp (by omega)] at on ou;exact c4 ⟨o,zero t.2 on,by rw[<-(R.nd _ t.1).2.2];exact ou⟩
 ·have t:=two (by omega) (by omega);rw[Xp (by omega)] at on ou;exact c5 ⟨o,zero t.1 on,by rw[<-(R.nd _ t.2).2.2];exact ou⟩
theorem ZJ (R:RenOK need l K us U k) :(cK (K.take (cnt need k)) (dO (λe=>(cnt need e:Int)) (mb noN l k)) u).2=(cK (l.take k) (mb noN l k) u).2:=by
 obtain⟨f1,_,_,_⟩:=Xn (λe=>(cnt need e:Int)) (mb noN l k);unfold cK;rw[f1];cases h37:decide (3<=(mb noN l k).op)&&decide ((mb noN l k).op<=7) with
 |false=>rfl
 |true=>
  rw[za2,zdA,zdA] at h37;rw[zdy,zdy];by_cases o6:(mb noN l k).op<=6
  ·have a:=R.nd (mb noN l k).l (by rw[aQ h37.1 o6];simp);have b:=R.nd (mb noN l k).r (by rw[aQ h37.1 o6];simp);rw[Xp ⟨h37.1,o6⟩];unfold O4 O5 zD;dsimp only;rw[zdw o6,zdy,zdy,zdy,zdy,zdy,zdy,a.2.1,b.2.1,Ys,Ys,(Xn _ _).1,(Xn _ _).1];cases hc:(mb noN (l.take k) (mb noN l k).l.toNat).op==1&&(mb noN (l.take k) (mb noN l k).r.toNat).op==1 with
   |false=>rfl
   |true=>
    rw[za2,zdF,zdF] at hc;rw[Xv (show ¬(3<=(mb noN (l.take k) (mb noN l k).l.toNat).op/\_) by omega),Xv (show ¬(3<=(mb noN (l.take k) (mb noN l k).r.toNat).op/\_) by omega)]
  ·have a:=R.nd (mb noN l k).l (by rw[bF (by omega)];simp);rw[XE (by omega)];unfold O4 O5 zD;dsimp only;rw[zdz o6,zdx,zdx,zdx,zdx,zdx,zdx,a.2.1,Ys,(Xn _ _).1];cases hc:(mb noN (l.take k) (mb noN l k).l.toNat).op==1 with
   |false=>rfl
   |true=>
    rw[zdF] at hc;rw[Xv (show ¬(3<=(mb noN (l.take k) (mb noN l k).l.toNat).op/\_) by omega)]
end
variable {x:Nd}
theorem aao {need:zdU} {y:Nd} (hx: ∀s∈VW x,0<=s/\need s.toNat=true) (hy: ∀s∈VW y,0<=s/\need s.toNat=true) (h:dO (λe=>(cnt need e:Int)) x=dO (λe=>(cnt need e:Int)) y):x=y:=by
 obtain⟨a1,a2,a3,a4⟩:=Xn (λe=>(cnt need e:Int)) x;obtain⟨b1,b2,b3,b4⟩:=Xn (λe=>(cnt need e:Int)) y;have ho:x.op=y.op:=by rw[<-a1,<-b1,h]
 have hv:x.v=y.v:=by rw[<-a2,<-b2,h]
 have hu:x.u=y.u:=by rw[<-a3,<-b3,h]
 have hn:x.n=y.n:=by rw[<-a4,<-b4,h]
 have inj: ∀{s t:Int},0<=s/\need s.toNat=true->0<=t/\need t.toNat=true->(cnt need s.toNat:Int)=(cnt need t.toNat:Int)->s=t:=λ{s t} hs ht e=>by
  have:=Zs hs.2 ht.2 (by omega);omega
 by_cases h8:3<=x.op/\x.op<=8
 ·by_cases h6:x.op<=6
  ·rw[Xp ⟨h8.1,h6⟩,Xp (by omega)] at h;rw[aQ h8.1 h6] at hx;rw[aQ (by omega) (by omega)] at hy;have l:=inj (hx x.l (by simp)) (hy y.l (by simp)) (congrArg Nd.l h);have r:=inj (hx x.r (by simp)) (hy y.r (by simp)) (congrArg Nd.r h);cases x;cases y;simp_all
  ·rw[XE (by omega),XE (by omega)] at h;rw[bF (by omega)] at hx;rw[bF (by omega)] at hy;have l:=inj (hx x.l (by simp)) (hy y.l (by simp)) (congrArg Nd.l h);have r:=congrArg Nd.r h;replace r:x.r=y.r:=r;cases x;cases y;simp_all
 ·rw[Xv h8,Xv (by omega)] at h;exact h
theorem YJ {l:ze2} {P:Nat->Prop} (hl: ∀j,j<l.length->VN j (mb noN l j)=true) (hP: ∀k,P k-> ∀s∈VW (mb noN l k),P s.toNat): ∀(b:Nat) (f:zdU) (i:Int) (k:Nat),0<=i->i<l.length->P i.toNat->cy l b f i k=true->f k=true\/P k
 |0,f,i,k,_,_,_,h=> .inl h
 |b+1,f,i,k,h0,h1,hp,h=>by
  unfold cy at h;cases hf:f i.toNat with
  |true=>rw[hf] at h;exact .inl h
  |false=>
   rw[hf,zdx] at h;have hi:=bL (hl i.toNat (by omega));have hps:=hP _ hp;have fold: ∀(ss:List Int) (g:zdU),(∀s∈ss,(0<=s/\s<i)/\P s.toNat)->ss.foldl (λf j=>cy l b f j) g k=true->g k=true\/P k:=by
    intro ss
    induction ss with
    |nil=>exact λg _ h=> .inl h
    |cons s r ih=>
     intro g hs hk;rcases ih _ (λt ht=>hs t (zan _ ht)) hk with h|h
     ·have:=hs s (by simp);rcases YJ hl hP b g s k this.1.1 (by omega) this.2 h with h|h
      ·exact .inl h
      ·exact .inr h
     ·exact .inr h
   rcases fold _ _ (λs hs=>⟨by have:=hi s hs;omega,hps s hs⟩) h with h|h
   ·simp only[zav,bS,zdA] at h;rcases h with h|h
    ·rw[h];exact .inr hp
    ·exact .inl h
   ·exact .inr h
theorem ZK {l:ze2} {P:Nat->Prop} {last:Int} (hl: ∀j,j<l.length->VN j (mb noN l j)=true) (h0:0<=last) (h1:last<l.length) (hP: ∀k,P k-> ∀s∈VW (mb noN l k),P s.toNat) (hp:P last.toNat) {k:Nat} (h:bX l last k=true):P k:=by
 rcases YJ hl hP l.length (λ_=>false) last k h0 h1 hp h with h|h
 ·cases h
 ·exact h
theorem Zw {need:zdU}: ∀{n:Nat},(∀j,j<n->need j=true)->cnt need n=n
 |0,_=>rfl
 |n+1,h=>by
  unfold cnt;rw[Zw λj hj=>h j (by omega),h n (zcE n)];rfl
theorem ZL {a b:ze2} (hl:a.length=b.length) (h: ∀j,j<a.length->mb noN a j=mb noN b j):a=b:=by
 apply zbv hl;intro j h1 h2;have:=h j h1;rwa[bR (zaa h1),bR (zaa h2)] at this
theorem aab {K:ze2} (hs: ∀j,j<K.length->VN j (mb noN K j)=true) (h1:1<=K.length) (hn: ∀j,j<K.length->bX K (K.length - 1:Nat) j=true):cG K (K.length - 1:Nat)=K:=by
 have k:=YQ hs (last:=(K.length - 1:Nat)) (Int.natCast_nonneg _) (by omega);have c: ∀j,j<=K.length->cnt (bX K (K.length - 1:Nat)) j=j:=λj hj=>Zw λi hi=>hn i (by omega);have hl:(cG K (K.length - 1:Nat)).length=K.length:=by rw[k.len,c _ (za0 _)]
 refine ZL hl λj hj=> ?_;rw[hl] at hj;have:=k.at_ j hj (hn j hj);rw[c j (by omega)] at this;have hm:=bL (hs j hj)
 rw[this,Bx (g:=λe=>(e:Int)) λs hs'=>by
  have:=hm s hs'
  rw[c _ (by omega)]]
 exact YV (hs j hj)
theorem ZM {g:Nat->Int} {s:Int} (hs:s∈VW x):g s.toNat∈VW (dO g x):=by
 unfold VW dO at*
 by_cases h6:3<=x.op/\x.op<=6
 ·have d1:(decide (3<=x.op)&&decide (x.op<=6))=true:=by simp[h6.1,h6.2]
  rw[d1] at hs ⊢;simp only[zdy,d1,zai,zby,or_false] at hs ⊢;rcases hs with rfl|rfl
  ·exact .inl rfl
  ·exact .inr rfl
 ·have d1:(decide (3<=x.op)&&decide (x.op<=6))=false:=by simp;omega
  by_cases h8:7<=x.op/\x.op<=8
  ·have d2:(decide (7<=x.op)&&decide (x.op<=8))=true:=by simp[h8.1,h8.2]
   rw[d1,d2] at hs ⊢;simp only[zdy,zdx,d1,d2,zai,zby,or_false] at hs ⊢;rw[hs]
  ·have d2:(decide (7<=x.op)&&decide (x.op<=8))=false:=by simp;omega
   rw[d1,d2] at hs;simp at hs
section
variable {p:Pr} {l:ze2} {us UX:ze1} {last:Int} {need:zdU}
theorem SimOK.again (S:SimOK p l us UX last need) (hv:VM p=true):xH (xH p).1=((xH p).1,0):=by
 have kl:=S.klen;have hvs:=S.valid hv;obtain⟨U,hU,ul,uat⟩:=X9 (X8 p.inp) S.kept S.side S.un;have l1:=(Xm (d:=noU) S.un).1;have hcs:(VJ (xH p).1).2.2=0:=by have:=hvs.1;unfold VM at this;simpa using this
 obtain⟨k1,_,_⟩:=Fq hcs;have kU:(VJ (xH p).1).1=U:=by
  have a:=X7.1 k1;have e1:(xH p).1.nod=cG l last:=by rw[S.eq]
  have e2:(xH p).1.inp=p.inp:=by rw[S.eq]
  rw[e1,e2] at a;exact zbl (a.symm.trans hU)
 have at_: ∀j,j<(cG l last).length-> ∃k,k<l.length/\need k=true/\cnt need k=j/\mb noN (cG l last) j=dO (λe=>(cnt need e:Int)) (mb noN l k)/\mb noU U j=mb noU us k:=λj hj=>by
  rw[S.kept.len] at hj;obtain⟨k,a,b,c⟩:=YA hj;exact⟨k,a,b,c,by rw[<-c];exact S.kept.at_ k a b,by rw[<-c];exact uat k b⟩
 have sideK: ∀j,j<(cG l last).length->VN j (mb noN (cG l last) j)=true:=λj hj=>by
  obtain⟨k,a,b,c,e,_⟩:=at_ j hj;rw[e];have hm:=bL (S.side k a);exact vZ λs hs=>by
   have q:=(S.kept.cl k b).2 s hs;have:=I5 q.1 q.2;omega
 have R: ∀k,k<l.length->need k=true->RenOK need l (cG l last) us U k:=λk hk hn=>⟨λs hs=>by
  have q:=(S.kept.cl k hn).2 s hs;have c:=I5 q.1 q.2;refine⟨(bL (S.side k hk) s hs).1, ?_, ?_⟩
  ·rw[zd8,Xl c,Xl q.1];exact S.kept.at_ _ (by omega) q.2
  ·rw[zd8,Xl c,Xl q.1]
   exact uat _ q.2⟩
 have stay: ∀j,j<(cG l last).length->iD ((cG l last).take j) (U.take j) (mb noN (cG l last) j) (mb noU U j)= -1/\(cK ((cG l last).take j) (mb noN (cG l last) j) (mb noU U j)).2=false/\ ∀i,i<j->mb noN (cG l last) i≠mb noN (cG l last) j:=λj hj=>by
  obtain⟨k,a,b,c,e,f⟩:=at_ j hj;obtain⟨s1,s2,s3⟩:=S.st k a;subst c;rw[e,f];refine⟨aaa (R k a b) s1,by rw[ZJ (R k a b)];exact s2,λi hi he=> ?_⟩;obtain⟨k',a',b',c',e',_⟩:=at_ i (by omega);rw[e'] at he;have lt:k'<k:=by
   rcases zah k' k with h|h
   ·exact h
   ·have:=zw (need:=need) h;omega
  exact s3 k' lt (aao (λs hs=>⟨(bL (S.side k' a') s hs).1,((S.kept.cl k' b').2 s hs).2⟩) (λs hs=>⟨(bL (S.side k a) s hs).1,((S.kept.cl k b).2 s hs).2⟩) he)
 have loop: ∀(r:ze2) (i:Nat) (num:Nat->Int),r=(cG l last).drop i->i+r.length=(cG l last).length->(∀k,k<i->num k=(k:Nat))->
  ∃num',Wy U r i ((cG l last).take i) (U.take i) num=(cG l last,num')/\ ∀k,k<(cG l last).length->num' k=(k:Nat):=by
  intro r
  induction r with
  |nil=>
   intro i num _ hlen hn;obtain rfl:i=(cG l last).length:=by simpa using hlen
   exact⟨num,by unfold Wy;rw[List.take_length],hn⟩
  |cons x r ih=>
   intro i num hr hlen hn;simp only[za4] at hlen;have hi:i<(cG l last).length:=by omega
   have hx:mb noN (cG l last) i=x:=bR (by rw[<-zce,<-hr];rfl);have hr':r=(cG l last).drop (i+1):=by rw[<-zcf,<-hr];rfl
   obtain⟨t1,t2,t3⟩:=stay i hi;have sd:=sideK i hi;rw[hx] at t1 t2 t3 sd;have hm:=bL sd;have hren:dO num x=x:=by
    rw[Bx (g:=λe=>(e:Int)) λs hs=>hn _ (by have:=hm s hs;omega)];exact YV sd
   have hpick:eZ ((cG l last).take i) x (mb noU U i)=x:=by
    rcases Xu ((cG l last).take i) x (mb noU U i) with ⟨_,e⟩|⟨h,_⟩
    ·exact e
    ·rw[t2] at h;cases h
   have hS:ud ((cG l last).take i) (U.take i) x (mb noU U i)=((cG l last).take (i+1),U.take (i+1),(i:Int)):=by
    have tl:((cG l last).take i).length=i:=by rw[zaE];omega
    rcases XS ((cG l last).take i) (U.take i) x (mb noU U i) with ⟨h,_,_⟩|⟨k,hk,he,_,_⟩|⟨_,_,_,e⟩
    ·exact absurd t1 h
    ·rw[tl] at hk;rw[hpick,Xl hk] at he;exact absurd he (t3 k hk)
    ·rw[e,hpick,tl,XP (e:=noN) hi,hx,XP (e:=noU) (by omega)]
   unfold Wy;rw[hren,hS];refine ih (i+1) _ hr' (by omega) λk hk=> ?_;rw[Yc];by_cases e:k=i
   ·rw[if_pos e,e]
   ·rw[if_neg e];exact hn k (by omega)
 obtain⟨num',hL,hnum⟩:=loop (cG l last) 0 (λ_=>0) rfl (by simp) (λk hk=>by omega);have hN:=nj sideK (last:=((cG l last).length - 1:Nat)) (Int.natCast_nonneg _) (by omega);have all: ∀k,need k=true->bX (cG l last) ((cG l last).length - 1:Nat) (cnt need k)=true:=by
  have hneed: ∀k,need k=true->need k=true/\bX (cG l last) ((cG l last).length - 1:Nat) (cnt need k)=true:=by
   intro k hk;have kk:=YQ S.side S.lst.1 S.lst.2;have eqn:need=bX l last:=S.nd;have hP: ∀k,(need k=true/\bX (cG l last) ((cG l last).length - 1:Nat) (cnt need k)=true)-> ∀s∈VW (mb noN l k),(need s.toNat=true/\bX (cG l last) ((cG l last).length - 1:Nat) (cnt need s.toNat)=true):=by
    rintro k ⟨h1,h2⟩ s hs;obtain⟨kl1,kcl⟩:=S.kept.cl k h1;refine⟨(kcl s hs).2, ?_⟩;have c:=(hN.2 _ h2).2;rw[S.kept.at_ k kl1 h1] at c;have:=c (cnt need s.toNat:Int) (ZM hs);rwa[zd8] at this
   rw[eqn] at hk;refine ZK S.side S.lst.1 S.lst.2 hP ⟨S.kept.lst, ?_⟩ hk;have h0:=hN.1;rw[zd8] at h0;have q:cnt need last.toNat=(cG l last).length - 1:=by have:=S.kept.top;have:=S.kept.len;omega
   rw[q];exact h0
  exact λk hk=>(hneed k hk).2
 have hK:cG (cG l last) ((cG l last).length - 1:Nat)=cG l last:=aab sideK kl.1 λj hj=>by
  obtain⟨k,_,b,c,_⟩:=at_ j hj;rw[<-c];exact all k b
 have hsim:xH (xH p).1=(⟨(xH p).1.id,(xH p).1.inp,cG (Wy (VJ (xH p).1).1 (xH p).1.nod 0 [] [] (λ_=>0)).1 ((Wy (VJ (xH p).1).1 (xH p).1.nod 0 [] [] (λ_=>0)).2 ((xH p).1.nod.length - 1)),(xH p).1.out⟩,0):=by
  show (bif (VJ (xH p).1).2.2 !=0 then(zP,100) else _)=_;rw[hcs];rfl
 rw[hsim,kU,S.eq];dsimp only;rw[show Wy U (cG l last) 0 [] [] (λ_=>0)=(cG l last,num') from hL];dsimp only;rw[hnum _ (by omega),hK]
end
theorem Yh {need:zdU}: ∀(r:ze2) (i:Nat) (out:ze2) (num:Nat->Int),(∀x∈r,szN x=true)->(∀x∈out,szN x=true)-> ∀x∈keepL need r i out num,szN x=true
 | [],_,_,_,_,ho=>ho
 |x::r,i,out,num,hr,ho=>by
  have hr': ∀y∈r,szN y=true:=λy hy=>hr y (zan _ hy);unfold keepL;cases need i with
  |false=>exact Yh r _ _ _ hr' ho
  |true=>
   refine Yh r _ _ _ hr' λy hy=> ?_
   ·rcases za8.1 hy with hy|hy
    ·exact ho y hy
    ·rw[zaj.1 hy,xu];exact hr x (zbG ..)
theorem aac {uu:ze1} {nod:ze2} (hx: ∀k,k<nod.length-> ∀s∈VW (mb noN nod k),s.toNat<k) (hsx: ∀x∈nod,szN x=true) (hu: ∀k,k<nod.length->szB (mb noU uu k)=true): ∀(r:ze2) (i:Nat) (l:ze2) (us:ze1) (num:Nat->Int),r=nod.drop i->i+r.length=nod.length->QOK l us num i->
 ∃us',QOK (Wy uu r i l us num).1 us' (Wy uu r i l us num).2 nod.length
 | [],i,l,us,num,_,hlen,Q=>⟨us,by simp only[za9,zaZ] at hlen;rw[<-hlen];exact Q⟩
 |x::r,i,l,us,num,hr,hlen,Q=>by
  simp only[za4] at hlen;have h:mb noN nod i=x:=bR (by rw[<-zce,<-hr];rfl);have hr':r=nod.drop (i+1):=by rw[<-zcf,<-hr];rfl
  have hi:i<nod.length:=by omega
  refine aac hx hsx hu r (i+1) _ _ _ hr' (by omega) (Q.step ?_ ?_ (hu i hi))
  ·have:=hx i hi;rwa[h] at this
  ·exact hsx x (by rw[<-h];exact bw hi)
variable {p:Pr}
theorem YX (hs:cw p=true) (hv:VM p=true):cw (xH p).1=true:=by
 have hc:(VJ p).2.2=0:=by unfold VM at hv;simpa using hv
 have hs':=hs;unfold cw at hs' ⊢;simp only[za2,zaf] at hs' ⊢;have hcs:=Fs hs hc;have hN:=(bQ hv).2;have hcl:(VJ p).1.length=p.nod.length:=by
  rcases ke p with ⟨c,_⟩|⟨_,_,c,_⟩
  ·rw[hc] at c;cases c
  ·exact c
 obtain⟨us,Q⟩:=aac (uu:=(VJ p).1) (nod:=p.nod) (λk hk=>l9 (hN k hk)) hs'.1.2 (λk hk=>hcs _ (bw (by omega))) p.nod 0 [] [] (λ_=>0) rfl (by simp) ⟨rfl,za0 _,(λx hx=>by cases hx),(λx hx=>by cases hx),(λj hj=>by simp at hj),(λk hk=>by cases hk)⟩;have e:(xH p).1=⟨p.id,p.inp,cG (Wy (VJ p).1 p.nod 0 [] [] (λ_=>0)).1 ((Wy (VJ p).1 p.nod 0 [] [] (λ_=>0)).2 (p.nod.length - 1)),p.out⟩:=by unfold xH;rw[hc];rfl
 rw[e];exact⟨⟨hs'.1.1,Yh _ _ _ _ Q.szl (λx hx=>by cases hx)⟩,hs'.2⟩
variable {i:Int}
theorem ZN {a b:Pr} {ins:List RS} {v x y:RS} (hs:cw p=true) (hv:bn p ins=(v,0)) (ha:aG p i=(a,0)) (hb:aG (xH p).1 i=(b,0)) (hx:bn a ins=(x,0)) (hy:bn b ins=(y,0)):x=y:=by
 have E:=xy hv;obtain⟨l,us,UX,last,need,S⟩:=Zh E.valid;have h1:=zB hs ha E.no8 hx;have h2:=zB (YX hs E.valid) hb (xy (S.value hv)).no8 hy;rw[S.dual (xz ins i)] at h2;exact wh (xy hx).rv (xy hy).rv (h1.trans h2.symm)
theorem Zj:siS p=(xH p).1:=by unfold siS;rw[fN]
theorem Zk (hs:cw p=true) (hv:VM p=true) (h1:1<=p.inp.length):siN p=true:=by
 have:=cV hv;unfold siN;rw[fN,eY hs (by omega) (by omega),zdw h1,hv];rfl
theorem aaz {p:Prop} {d:Decidable p} (h:p): @decide p d=true:=zdw h
theorem aad {c:Cas} {Q:zdV} (h:CasOK c) (hi:uInt i=true) (hQ:Q (cB.enc true)):siR c (Rp c c.e) i Q:=by
 have l:=Ry (c:=c) (ex:=c.e);have hs:=SA (c:=c) (ex:=c.e);have hv:=Sq (c:=c) (ex:=c.e);have hn:=RM (c:=c) (ex:=c.e);have hpre:=SM (ex:=c.e) h;generalize Rp c c.e=p at*
 obtain⟨l1,us,UX,last,need,S⟩:=Zh hv;obtain⟨v1,v2,v3,v4,v5⟩:=S.valid hv;have ss:=YX hs hv;have n1:jn (xH p).1=true:=eY ss (by rw[v3];omega) (by omega);have e2:(xH (xH p).1).1=(xH p).1:=by rw[S.again hv]
 have hE: ∀{q:Pr},jn q=true->SW c p q=true:=λ{q} hq=>RZ (by omega) hq;have hR:(Sn c p).length=p.inp.length:=by rw[TD];exact RX
 unfold siR;simp only[siE,fN,Zj];rw[e2]
 refine Q0 (SL h) (Q0 hpre (Q0 (Zk hs hv l.1) (Q0 (Zk ss v1 (by rw[v3];exact l.1)) (Q0 (by rw[aaz (p:=dm (siS p)=dm (siS (siS p))) (by rw[fN,fN,Zj,Zj,e2]),n1];rfl) (Q0 (by rw[n1,v1];rfl) (ah (λhb=> ?_) λ_=>Q0 (hE hn) (Q0 (hE n1) (ah (λhb=> ?_) λ_=>
  Ti hi (by omega) (Q0 hn (Q0 n1 (Q0 (hE (Rl hs)) (Q0 (hE (Rl ss)) (ah (λ_=>hQ) λhb=> ?_)))))))))))))
 ·exfalso;rw[v2,v4,zdz (by omega),Wh.2 rfl] at hb;simp at hb
 ·exfalso;cases g:(bn p (Sn c p)).2==0 with
  |false=>rw[g] at hb;cases hb
  |true=>
   have hv:=S.value (v:=(bn p (Sn c p)).1) (ins:=Sn c p) (zc9 rfl (beq_iff_eq.1 g));rw[g,hv,Wq.2 rfl] at hb;cases hb
 ·simp only[QN,zbt] at hb;obtain⟨⟨⟨⟨e1,e2⟩,e3⟩,e4'⟩,e5⟩:=hb;have z: ∀{x:Int},(x !=0)=false->x=0:=λ{x} hx=>by simpa using hx
  have e1:=z e1;have e2:=z e2;have e3:=z e3;have e4':=z e4';have e5:=z e5;have sa:=(qw (i:=co i p.inp.length) hs).1;have E:=xy (v:=(bn (aG p (co i p.inp.length)).1 (Sn c p)).1) (zc9 rfl e4');have hx:=ZN hs (v:=(bn p (Sn c p)).1) (zc9 rfl e1) (zc9 rfl e2) (zc9 rfl e3) (x:=(bn (aG p (co i p.inp.length)).1 (Sn c p)).1) (zc9 rfl e4') (y:=(bn (aG (xH p).1 (co i p.inp.length)).1 (Sn c p)).1) (zc9 rfl e5);rw[<-hx];generalize (aG p (co i p.inp.length)).1=a at*
  obtain⟨l2,us2,UX2,last2,need2,T⟩:=Zh E.valid;obtain⟨w1,w2,w3,w4,w5⟩:=T.valid E.valid;have ha:=E.len;have hb:=cV E.valid;have val:=T.value (v:=(bn a (Sn c p)).1) (ins:=Sn c p) (zc9 rfl e4');refine Q0 (Zk sa E.valid (by omega)) (Q0 (hE (eY (YX sa E.valid) (by rw[w3];omega) (by omega))) ?_);rw[val,Wq.2 rfl,zdw (by omega)];exact hQ
theorem XZ (c:Cas) (i:Int) {L:Go.Sy.Loc} {W:World} (h:c.ok=true) (hB:BlkOK (λ_=>L) 0 (e4.old c.x) W) (hl:c.x.length<=maxLen) (hi:B64 i) (_:World) (hg:GlobU W):
 Calls prog 3 #[(Rs c c.x.length).conc (λ_=>L), .int .i64 i] W λe w'=>e= .returned (.bool true)/\Below W.heap.size W w':=
 T8 (gm:=aaw) aah hg (ann:=λ_ _=>none) (n:=8) (rest:= [cI.enc i]) hB rfl (by
  rw[aai]
  exact λ_ _=>aad (CasOK.of h hl) (V4.2 hi) rfl)
end Go.Proofs.YtdbpmmihpmbbdaaGreatDoor
namespace Go.Proofs.YtdbpmmihpmbbdaaGreatDoor
open Go.Proofs.Tryz
open Go.ChangeShapes Go.WideShapes Go.ChangeAt Go.RowKit Yk
theorem oQ {H:Type} {enc:TypeId×Value->H} {a:Assume} {C:Checked} {os:Os} {f:FuncId} {fn:Func} {s:ChangeSpec} {conds:List PathCond} {apart fresh handsOn again:Bool} {X:World->Array Value->Prop}
 (hX: ∀(w w':World) (args:Array Value),w.heap=w'.heap->X w args->X w' args)
 (own:ownKnob C.prog.godebug=none) (started:os.Started) (noInit:C.prog.inits.idxOf? f=none) (hfn:C.prog.funcs[f]? =some fn)
 (witness: ∃(w:World) (tape:Tape) (i:Input),w.os=os/\(w.forCall tape i).Shaped C.prog/\i.vars= []/\Input.okWide C.prog (w.forCall tape i) .any w.heap.size f i/\
   ((s.pre enc C.prog fn conds apart (w.forCall tape i).memory i.args/\X (w.forCall tape i).memory i.args)/\sizedMet enc C.prog fn (OpenSpec.ofChange s) apart (w.forCall tape i).memory i.args)/\a.holds C.prog (lone (Frame.enter C.prog f i.args .normal) [] (w.forCall tape i)))
 (contract: ∀(W:World) (base:Nat) (args:Array Value) (ds gs:List (DataW H)) (before:List MemPlace),
   (∀(j:Nat) t v,fn.params[j]? =some t->args[j]? =some v->Value.okWide C.prog W .any base t v)->
   DataW.Whole enc C.prog fn.params.toList s.vars apart W args.toList ds gs before->
   X W args->W.ShapedOpen C.prog->
   Calls C.prog f args W λe W'=> ∃v,e= .returned v/\s.post enc C.prog fn apart fresh handsOn again W args v W'):
 ReturnsInHanded a C os f .any (λw args=>(s.pre enc C.prog fn conds apart w args/\X w args)/\sizedMet enc C.prog fn (OpenSpec.ofChange s) apart w args) (s.post enc C.prog fn apart fresh handsOn again):=by
 refine returnsInHanded_of_calls own started noInit witness ?_;intro w tape i _ hsh _ hok hpre hholds;obtain⟨_,_,_,fn',hfn',_,_,_,_,hval⟩:=hok;have e:fn'=fn:=zbl (hfn'.symm.trans hfn);subst e;obtain⟨⟨⟨ds,gs,before,hw,hc⟩,hx⟩,hz⟩:=hpre;have hw':=DataW.Whole.of_heap (w':=w.forCall tape i) (by rfl) hw;refine(contract (w.forCall tape i) w.heap.size i.args ds gs before hval hw' (hX _ _ _ (by rfl) hx) hsh).mono λe W' ⟨v,he,hp⟩=> ?_;subst he;exact ChangeSpec.post_blind hp
theorem own:ownKnob prog.godebug=none:=by kernel_rfl
def oR:List (String×DataW Unit):=Rows.deriveSimplifyRow.laid
variable {W:World}
theorem MM (h:W.ShapedOpen prog): ∃m,W.cell? ⟨0,0,none⟩=some (.int .i64 m):=
 cell_of_shapedOpen_int (t:=3) (zero:= #[.int .i64 0]) h (zdB (by kernel_rfl)) (by kernel_rfl) (by kernel_rfl) (by kernel_rfl) (by kernel_rfl) underlying3
theorem MN:(Rows.laid_internal_strconv_uint64pow10:DataW Unit)=Lib.tabData .u64 Lib.pow10Tab:=by kernel_rfl
theorem No:prog.globalNamed "strconv.ErrRange" =some 4:=by kernel_rfl
theorem Np:prog.globalNamed "strconv.ErrSyntax" =some 3:=by kernel_rfl
theorem QB: "*" ++ "errors.errorString" = "*errors.errorString" :=by decide
theorem JV (u:TypeId) (h:prog.typeName? 3 u=some "*errors.errorString"):u=293:=
 typeName_ptr_named (nm:= "errors.errorString") (by rw[QB];kernel_rfl) (by kernel_rfl) (by decide) u (by rw[QB];exact h)
theorem JW (h:W.ShapedOpen prog) (hL:laidMetH prog oR W):GlobU W:=by
 rw[MakeChecks.laidMetH_plain _ _ _ (by kernel_rfl)] at hL;have hL1:=laidMet.tail (laidMet.tail hL);have ht:Lib.TabIs prog W "internal/strconv.uint64pow10" .u64 Lib.pow10Tab:=
  Lib.tabIs_of_head NL (by kernel_rfl) underlying289 underlying259 (by kernel_rfl) (by kernel_rfl) (MN▸hL1)
 have hL2:=laidMet.tail (laidMet.tail hL1);obtain⟨a0,s0,hv0,_,_,_⟩:=laid_sentinel (g:=4) (ti:=225) (tp:=293) (te:=295) (ts:=9) hL2 No (by kernel_rfl) underlying225 JV underlying293 underlying295 rfl rfl underlying9 (by kernel_rfl) (by kernel_rfl);obtain⟨a1,s1,hv1,_,_,_⟩:=laid_sentinel (g:=3) (ti:=225) (tp:=293) (te:=295) (ts:=9) (laidMet.tail hL2) Np (by kernel_rfl) underlying225 JV underlying293 underlying295 rfl rfl underlying9 (by kernel_rfl) (by kernel_rfl);have c0:=World.var?_cell No hv0 0;have c1:=World.var?_cell Np hv1 0;exact⟨⟨MM h,ht,World.block_lt_of_cell? W _ (ht.cell NL 0 (by decide))⟩,⟨_,by simpa using c1, .inr ⟨_,_,rfl⟩⟩,⟨_,by simpa using c0, .inr ⟨_,_,rfl⟩⟩⟩
end Go.Proofs.YtdbpmmihpmbbdaaGreatDoor
