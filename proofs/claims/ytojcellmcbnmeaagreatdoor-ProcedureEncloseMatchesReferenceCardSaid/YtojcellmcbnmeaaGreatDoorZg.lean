import Derived.Test.YtojcellmcbnmeaaGreatDoorZf
import Derived.ProofKit
import Derived.OpenShut
import Derived.Carry
import Derived.Test.YtojcellmcbnmeaaGreatDoorRows
import Derived.HandedShaped
import Derived.LaidMore
import Derived.Lay
import Derived.Lib.LaidTab
import Derived.Shelf.Vars
import Derived.Stop.LaidErr
import Derived.Stop.Joined
set_option linter.unusedVariables false
set_option linter.unusedSimpArgs false
noncomputable section
namespace Go.Proofs.YtojcellmcbnmeaaGreatDoor
open Go.Proofs.Tryz
open Go Go.RowKit Go.Sy Yk
def TF:zdX:= [(80,SZ)]
abbrev M1:=Int×List Un
abbrev M3:=Int×List Nd×List Un
def St (I1:M1->Prop) (I2 I3:M3->Prop) (N:Int):zdV:=λf k=>bif Nat.beq f 19 then(
 bif Nat.beq k 3 then some (λA=>{X:=M1,inv:=I1,tm:=λx=> [(10, .val (.int .i64 x.1))],st:= [(kA A 9,λx=>(qv A 9 0).take 1++(SV.slc A.nx 0 x.2.length::(qv A 9 0).drop 2))],gr:= [{src:= .cell (kA A 9) 0 1,sz:=20,n:=λx=>x.2.length,get:=λx=>eU.get x.2}],cleanG:=λg hg x e=>(by simp at hg;subst hg;exact eU.ids _),mu:=λx=>(4 - x.1).toNat,keep:= [1,2,3,4,8,9],sp:= [λx=>(0,x.2),λx=>(1,x.2),λx=>(2,x.2),λx=>(3,x.2)]})
 else bif Nat.beq k 8 then some (λA=>{X:=M3,inv:=I2,tm:=λx=> [(12, .val (.int .i64 x.1)),(11, .slc (A.nx+1) 0 x.2.2.length)],st:= [(kA A 9,λx=>(qv A 9 0).take 2++(SV.slc A.nx 0 x.2.1.length::(qv A 9 0).drop 3))],gr:= [{src:= .cell (kA A 9) 0 2,sz:=26,n:=λx=>x.2.1.length,get:=λx=>eN.get x.2.1},{src:= .slot 11,sz:=20,n:=λx=>x.2.2.length,get:=λx=>eU.get x.2.2}],cleanG:=λg hg x e=>(by simp at hg;rcases hg with rfl|rfl;exact eN.ids _;exact eU.ids _),mu:=λx=>(4 - x.1).toNat,keep:= [1,2,3,4,8,9]})
 else bif Nat.beq k 13 then some (λA=>{X:=M3,inv:=I3,tm:=λx=> [(13, .val (.int .i64 x.1)),(11, .slc (A.nx+1) 0 x.2.2.length)],st:= [(kA A 9,λx=>(qv A 9 0).take 2++(SV.slc A.nx 0 x.2.1.length::(qv A 9 0).drop 3))],gr:= [{src:= .cell (kA A 9) 0 2,sz:=26,n:=λx=>x.2.1.length,get:=λx=>eN.get x.2.1},{src:= .slot 11,sz:=20,n:=λx=>x.2.2.length,get:=λx=>eU.get x.2.2}],cleanG:=λg hg x e=>(by simp at hg;rcases hg with rfl|rfl;exact eN.ids _;exact eU.ids _),mu:=λx=>(N - x.1).toNat,keep:= [1,2,3,4,8,9]})
 else none) else none
def prS (J:Nat->Nat->Blk->Nat->Nat->Blk->Int->List SV->Prop):Aft:=λr bl _ _=>match r with
 | .ok (.agg (.val (.int .i64 id):: .slc i 0 n:: .slc j 0 m::H))=>(match bl i,bl j with
   |some B,some C=>J i n B j m C id H
   |_,_=>False)
 |_=>False
abbrev TG (I1:M1->Prop) (I2 I3:M3->Prop) (N:Int) (a:Int×Int×Int) (count:Int) (xs:List I4) (ex:Bool) (H:Nat->Nat->Blk->Nat->Nat->Blk->Int->List SV->Prop):Prop:=
 JL TF (St I1 I2 I3 N) 6 19 [.agg [.val (.int .i64 a.1), .val (.int .i64 a.2.1), .val (.int .i64 a.2.2)],cI.enc count, .slc 0 0 xs.length,cB.enc ex] [e4.old xs] (prS H)
section
variable (I1:M1->Prop) (I2 I3:M3->Prop) (N:Int) (a:Int×Int×Int) (count:Int) (xs:List I4) (ex:Bool)
def mdC (H:Nat) (s:SV):zdK:= .val (.int .i64 (1+co count 900)):: .slc 10 0 H::s::ci noU
def md1 (s:SV):zdK:= .val (.int .i64 (1+co count 900))::s:: .val (.slice none 0 0)::ci noU
def S4:Prop:=tvE (cI.enc count)/\tvE (.slc 0 0 xs.length)/\tvE (cB.enc ex)/\cg 1/\cg 2/\cg 7/\True
def Ua (q:Nat) (p:Int) (m:Nat) (g:zdN) (z:M1):Prop:=(TV.v (cI.enc p)=TV.v (cI.enc z.1)/\S4 count xs ex)/\(True/\((md1 count (.slc q 0 m)=md1 count (.slc q 0 z.2.length)/\True)/\(af (Nat.beq 20 20&&decide (z.2.length<=m)) (∀e,e<z.2.length->g e=eU.get z.2 e)/\True)))
def So (H J V:Nat) (p:Int) (m:Nat) (g:zdN) (k:Nat) (h:zdN) (z:M3):Prop:=(TV.v (cI.enc p)=TV.v (cI.enc z.1)/\TV.v (.slc V 0 k)=TV.v (.slc V 0 z.2.2.length)/\S4 count xs ex)/\(True/\((mdC count H (.slc J 0 m)=mdC count H (.slc J 0 z.2.1.length)/\True)/\
 (af (Nat.beq 26 26&&decide (z.2.1.length<=m)) (∀e,e<z.2.1.length->g e=eN.get z.2.1 e)/\(af (Nat.beq 20 20&&decide (z.2.2.length<=k)) (∀e,e<z.2.2.length->h e=eU.get z.2.2 e)/\True))))
def S5 (inp:zdZ) (nod:ze0) (us:zdZ) (x:Nd):Bool:=kp inp.length inp.length (eU.get inp) nod.length nod.length (eN.get nod) noU&&(Nat.ble us.length us.length&&Nat.beq 20 20&&true)&&bW us.length&&eU.good szB us.length (eU.get us)&&ndB (svN x)&&szN (Vh (svN x))&&decide ((nod.length:Int)=(us.length:Int))&&decide (1<=(Vh (svN x)).op)&&decide ((Vh (svN x)).op<=8)
def Tu (inp us:zdZ) (x:Nd):Un×Int:=tyF (eU.list inp.length (eU.get inp)) (eU.list us.length (eU.get us)) (Vh (svN x))
def Rg (inp:zdZ) (J V:Nat) (z:M3) (x:Nd):Prop:=
 af (S5 inp z.2.1 z.2.2 x) (Unit->True->ag (bif (Tu inp z.2.2 x).2==0 then(bif !ex then true else x.op !=8) else false)
  (LY z.2.1.length (tO z.2.2.length (af (inR .i64 (z.1+1)) (∃H:M3,I3 H/\((N - H.1).toNat<(N - z.1).toNat/\So count xs ex inp.length J V (z.1+1) (z.2.1.length+1) (gv z.2.1 x) (z.2.2.length+1) (Jz z.2.2 (Tu inp z.2.2 x).1) H)))))
  (af (inR .i64 (z.1+1)) (∃H:M3,I3 H/\((N - H.1).toNat<(N - z.1).toNat/\So count xs ex inp.length 25 26 (z.1+1) z.2.1.length (eN.get z.2.1) z.2.2.length (eU.get z.2.2) H))))
def pkB (y n:Int):Bool:=cl y&&decide (0<n)
def Sp (inp:zdZ) (z:M3) (y:I4):Prop:=
 af (pkB y.1 8) (af (inR .i64 (1+co y.1 8)) (
 ag (1+co y.1 8==1) (af (pkB y.2.1 13) (af (inR .i64 (co y.2.1 13 - 6)) (af (pkB y.2.2.1 4) (af (inR .i64 (1+co y.2.2.1 4)) (af (cl (co y.2.1 13 - 6)&&cl (1+co y.2.2.1 4)) (af (cl y.2.2.2)
  (Rg I3 N count xs ex inp 102 108 z ⟨opF y,(rMk (co y.2.1 13 - 6) (1+co y.2.2.1 4)).1,BL y.2.2.2,0,0,0⟩)))))))
 (ag (1+co y.1 8==2) (af (pkB y.2.1 inp.length) (Rg I3 N count xs ex inp 93 99 z ⟨opF y,VI,noU,co y.2.1 inp.length,0,0⟩))
 (ag (1+co y.1 8==7) (af (pkB y.2.1 z.2.1.length) (af (pkB y.2.2.1 5) (af (decide (0<=co y.2.2.1 5)&&decide (co y.2.2.1 5<((5:Nat):Int))) (af (decide (0+(co y.2.2.1 5).toNat<5)) (Rg I3 N count xs ex inp 101 107 z ⟨opF y,VI,noU,T9 (co y.2.2.1 5),co y.2.1 z.2.1.length,0⟩)))))
 (ag (1+co y.1 8==8) (af (pkB y.2.1 z.2.1.length) (Rg I3 N count xs ex inp 95 101 z ⟨opF y,VI,noU,0,co y.2.1 z.2.1.length,0⟩))
   (af (pkB y.2.1 z.2.1.length) (af (pkB y.2.2.1 z.2.1.length) (Rg I3 N count xs ex inp 101 107 z ⟨opF y,VI,noU,0,co y.2.1 z.2.1.length,co y.2.2.1 z.2.1.length⟩))))))))
def Ub (V:Nat->Nat->Blk->Nat->Nat->Blk->Int->List SV->Prop) (inp:zdZ) (H:M3):Prop:=
 ∃J:M3,I3 J/\(So count xs ex inp.length 17 18 0 H.2.1.length (eN.get H.2.1) H.2.2.length (eU.get H.2.2) J/\
  ∀z:M3,I3 z->ag (bif decide (z.1<(xs.length:Int)) then decide ((z.2.1.length:Int)<14) else false)
   (eO xs.length z.1 (Sp I3 N count xs ex inp z (e4.nth xs (0+z.1.toNat))))
   (af (inR .i64 ((z.2.2.length:Int) - 1)) (eO z.2.2.length ((z.2.2.length:Int) - 1)
     (V 10 inp.length {n:=inp.length,sz:=20,get:=eU.get inp,kd:= .own,nn:=false} 25 z.2.1.length {n:=z.2.1.length,sz:=26,get:=eN.get z.2.1,kd:= .own,nn:=false} (1+co count 900) (ci (mb noU z.2.2 (0+((z.2.2.length:Int) - 1).toNat)))))))
def T6 (V:Nat->Nat->Blk->Nat->Nat->Blk->Int->List SV->Prop) (inp:zdZ):Prop:=
 ∃H:M3,I2 H/\(((TV.v (cI.enc 0)=TV.v (cI.enc H.1)/\TV.v (.val (.slice none 0 0))=TV.v (.val (.slice none H.2.2.length 0))/\S4 count xs ex)/\(True/\((mdC count inp.length (.val (.slice none 0 0))=mdC count inp.length (.val (.slice none H.2.1.length 0))/\True)/\(H.2.1.length=0/\(H.2.2.length=0/\True)))))/\
  ∀z:M3,I2 z->ag (decide (z.1<(inp.length:Int)))
   (LY z.2.1.length (eO inp.length z.1 (tO z.2.2.length (af (inR .i64 (z.1+1)) (∃J:M3,I2 J/\((4 - J.1).toNat<(4 - z.1).toNat/\So count xs ex inp.length 29 39 (z.1+1) (z.2.1.length+1) (gv z.2.1 (nIn z.1)) (z.2.2.length+1) (Jz z.2.2 (mb noU inp (0+z.1.toNat))) J))))))
   (Ub I3 N count xs ex V inp z))
def Tv (V:Nat->Nat->Blk->Nat->Nat->Blk->Int->List SV->Prop) (j J:Int) (x:M1):Prop:=
 af (pkB count 3) (ag (decide (j<=co count 3)) (af (cl J) (tO x.2.length (∃H:M1,I1 H/\((4 - H.1).toNat<(4 - j).toNat/\Ua count xs ex 16 (j+1) (x.2.length+1) (Jz x.2 (BL J)) H)))) (T6 I2 I3 N count xs ex V x.2))
def mdT (H:Nat->Nat->Blk->Nat->Nat->Blk->Int->List SV->Prop):Prop:=
 af (pkB count 900) (af (inR .i64 (1+co count 900)) (∃J:M1,I1 J/\(((TV.v (cI.enc 0)=TV.v (cI.enc J.1)/\S4 count xs ex)/\(True/\((md1 count (.val (.slice none 0 0))=md1 count (.val (.slice none J.2.length 0))/\True)/\(J.2.length=0/\True))))/\
  ((∀x:M1,I1 x->(0,x.2)=x\/(1,x.2)=x\/(2,x.2)=x\/(3,x.2)=x\/False)/\((∀x:M1,I1 (0,x.2)->Tv I1 I2 I3 N count xs ex H 0 a.1 x)/\((∀x:M1,I1 (1,x.2)->Tv I1 I2 I3 N count xs ex H 1 a.2.1 x)/\((∀x:M1,I1 (2,x.2)->Tv I1 I2 I3 N count xs ex H 2 a.2.2 x)/\
    ((∀x:M1,I1 (3,x.2)->af (pkB count 3) (ag (decide (3<=co count 3)) False (T6 I2 I3 N count xs ex H x.2)))/\True))))))))
end
theorem Tw (I1:M1->Prop) (I2 I3:M3->Prop) (N:Int) (a:Int×Int×Int) (count:Int) (xs:List I4) (ex:Bool) (H:Nat->Nat->Blk->Nat->Nat->Blk->Int->List SV->Prop):TG I1 I2 I3 N a count xs ex H=mdT I1 I2 I3 N a count xs ex H:=by kernel_rfl
def asI (I:Int->Prop) (N:Int):zdV:=λf k=>bif Nat.beq f 176&&Nat.beq k 2 then some (λA=>{X:=Int,inv:=I,tm:=λi=> [(4, .val (.int .i64 i))],mu:=λi=>(N - i).toNat,keep:= [1]}) else none
def bsQ (p:Pr) (Q:zdR) (b:Bool):Prop:=Q (.tup [.val (.bool b), .val (.bool (decide ((p.nod.length:Int)>0)))])
def bsC (p:Pr):Bool:=bif wiB p.id 1 1000000 then decide ((p.inp.length:Int)<=6) else false
def bsM (i z:Int):Prop:=(TV.v (cI.enc i)=TV.v (cI.enc z)/\cg 2/\True)/\(True/\(True/\True))
def bsT (I:Int->Prop) (N:Int) (p:Pr) (Q:zdR):Prop:=
 ∃J:Int,I J/\(bsM 0 J/\ ∀z:Int,I z->ag (decide (z<(p.inp.length:Int)))
  (eO p.inp.length z (af (aH (mb noU p.inp (0+z.toNat))) (ag (!iy (mb noU p.inp (0+z.toNat))) (bsQ p Q false) (af (inR .i64 (z+1)) (∃H:Int,I H/\((N - H).toNat<(N - z).toNat/\bsM (z+1) H))))))
  (ag (decide (bsC p=true)) (bsQ p Q (bif bsC p then wiB p.nod.length 1 40 else false)) (Q (.tup [bif bsC p then SV.val undef else .val (.bool false), .val (.bool (decide ((p.nod.length:Int)>0)))]))))
theorem atE (I:Int->Prop) (N:Int) (p:Pr) (Q:zdR):JL [] (asI I N) 6 176 [kB p] [eU.old p.inp,eN.old p.nod] (Go.Sy.okK λr _ _ _=>Q r)=bsT I N p Q:=by kernel_rfl
theorem ar5 {i:Int}:bsM i i:=⟨⟨rfl,rfl,trivial⟩,trivial,trivial,trivial⟩
def bsI (p:Pr) (z:Int):Prop:=0<=z/\z<=p.inp.length/\(p.inp.take z.toNat).all VK=true
variable {n:Int}
theorem arX {lo hi:Int}:wiB n lo hi=true↔lo<=n/\n<=hi:=by
 unfold wiB;by_cases h:n≥lo
 ·rw[zdp h,zdr,zdt];omega
 ·rw[zds h,zdq];simp;omega
theorem asJ {p:Pr} {Q:zdR} (Z: ∀u∈p.inp,szB u=true) (hl:p.inp.length<=1000000) (V:bsQ p Q (oB p)):bsT (bsI p) p.inp.length p Q:=by
 have N:oB p=false->bsQ p Q false:=λh=>by rw[h] at V;exact V
 have no: ¬(oB p=true)->oB p=false:=λh=>by simpa using h
 refine⟨0,⟨zat _,by omega,rfl⟩,ar5, ?_⟩;rintro z ⟨h0,h1,h2⟩;refine ce (λJ=> ?_) (λJ=> ?_)
 ·have J:=zdu J;rw[za7];refine aY h0 J (ac (eH Z _) (ce (λhv=>N (no λY=> ?_)) (λhv=>ac (VP.2 (by omega)) ⟨z+1,⟨by omega,by omega, ?_⟩,by omega,ar5⟩)))
  ·have:=zaf.1 (Wb.1 Y).2.1 _ (bw (d:=noU) (l:=p.inp) (e:=z.toNat) (by omega));rw[jE,this] at hv;cases hv
  ·rw[show (z+1).toNat=z.toNat+1 by omega,zc1,Co (d:=noU) (by omega),List.all_append,h2];rw[jE] at hv;simpa using hv
 ·have J:=zdv J;rw[show z.toNat=p.inp.length by omega,List.take_length] at h2;have c:bsC p=true↔(1<=p.id/\p.id<=1000000)/\p.inp.length<=6:=by
   unfold bsC;cases w:wiB p.id 1 1000000 with
   |false=>exact⟨λh=>(by cases h),λh=>by rw[arX.2 h.1] at w;cases w⟩
   |true=>rw[zdr,zdt];exact⟨λh=>⟨arX.1 w,by omega⟩,λh=>by omega⟩
  refine ce (λH=> ?_) (λH=> ?_)
  ·have H:=zdu H;have w:=c.1 H
   rw[H,zdr,show wiB p.nod.length 1 40=oB p by
    rw[zax,arX,Wb]
    exact⟨λh=>⟨⟨w.1.1,w.1.2,w.2⟩,h2,by omega,by omega⟩,λh=>⟨by omega,by omega⟩⟩]
   exact V
  ·have H:bsC p=false:=by simpa using H
   rw[H,zdq];refine N (no λY=> ?_);obtain⟨⟨a,b,d⟩,_⟩:=Wb.1 Y;rw[c.2 ⟨⟨a,b⟩,d⟩] at H;cases H
def at2 (out:Pr->SV):MCtr:=λbl _ args=>match args with
 | [s]=>match mC bl s with
   |some a=>some {X:=Unit,pre:=a.need,spec:=λ_=>True,out:=λ_=>out a.p,ex:=λ_=>⟨(),trivial⟩}
   |none=>none
 |_=>none
theorem atY {gm:zdX} (N:MOk gm) {F:FuncId} {out:Pr->SV} (hi: ∀p,(out p).ids= []) {ann:Pr->zdV} {n:Nat} (h: ∀p,aci p=true->p.inp.length<=1000000->p.nod.length<=1000000->JL gm (ann p) n F [kB p] [eU.old p.inp,eN.old p.nod] (Go.Sy.okK λr _ _ _=>r=out p)):
 ∀B:Base,GlobB B->VU prog B F (at2 out):=Sh N λbl nx args C H hp=>by
 unfold at2 at H;split at H
 ·rename_i s;split at H
  ·rename_i a J;simp only[za1] at H;subst H;obtain⟨s1,V,Y,Z,s5,s6⟩:=eX (f:=rnF [a.o1,a.o2] [] nx) J hp rfl rfl;exact⟨[a.o1,a.o2],iK a.p, [kB a.p],ann a.p,n,aw s1 (aw V trivial),bH (cx _),cd (jG _),ar Y rfl,Ue () trivial rfl (r:=out a.p) (hi _) rfl rfl rfl (cx _) rfl (h _ Z s5 s6)⟩
  ·cases H
 ·cases H
def arY:MCtr:=at2 λp=> .tup [.val (.bool (oB p)), .val (.bool (decide ((p.nod.length:Int)>0)))]
theorem asc: ∀B:Base,GlobB B->VU prog B 176 arY:=atY MOk.nil (λ_=>rfl) (ann:=λp=>asI (bsI p) p.inp.length) (n:=6) λp h1 h2 _=>by
 rw[atE];exact asJ (arx h1).1.1 h2 rfl
def TJ (nx:Nat) (q:Pr):SV:= .agg (.val (.int .i64 q.id):: .slc nx 0 q.inp.length:: .slc (nx+1) 0 q.nod.length::ci q.out)
def SQ:MCtr:=λbl nx args=>match args with
 | [.agg [.val (.int .i64 a), .val (.int .i64 b), .val (.int .i64 c)], .val (.int .i64 k),s, .val (.bool ex)]=>match vW bl 4 s with
   |some (H,_,n,g)=>some {X:=Unit,pre:=H&&decide (n<=9223372036854775807)&&e4.good uz4 n g&&cl a&&cl b&&cl c&&cl k,spec:=λ_=>True,out:=λ_=>TJ nx (Bd (a,b,c) k (e4.list n g) ex),nw:=λ_=> [eU.own (Bd (a,b,c) k (e4.list n g) ex).inp,eN.own (Bd (a,b,c) k (e4.list n g) ex).nod],ex:=λ_=>⟨(),trivial⟩}
   |none=>none
 |_=>none
theorem S6:MOk TF:=MOk.nil.cons ZR
theorem QU {y:Int} {K:Prop} (J:cl y=true) (H:0<n) (k:K):af (pkB y n) K:=ac (by unfold pkB;rw[J,zdp H];rfl) k
theorem Su (ni n:Int) (y:I4):(RR ni n y).op=opF y:=by
 have B: ∀(b:Bool) (x z:Nd),x.op=opF y->z.op=opF y->(cond b x z).op=opF y:=λb x z h k=>by cases b;exact k;exact h
 unfold RR;exact B _ _ _ rfl (B _ _ _ rfl (B _ _ _ rfl (B _ _ _ rfl rfl)))
theorem Tx (y:I4):1<=opF y/\opF y<=8:=by
 have:=gR y.1 (n:=8) (by decide);unfold opF;omega
theorem Sc {us:zdZ} {u:Un} {z:zdZ} (J:z=us++ [u]):af (Nat.beq 20 20&&decide (z.length<=us.length+1)) (∀e,e<z.length->Jz us u e=eU.get z e):=by
 subst J;have H:(us++ [u]).length=us.length+1:=by simp
 exact ac (by rw[H,zdp (za0 _)];rfl) λe V=>Fp (by omega)
theorem S7 {us:ze0} {u:Nd} {z:ze0} (J:z=us++ [u]):af (Nat.beq 26 26&&decide (z.length<=us.length+1)) (∀e,e<z.length->gv us u e=eN.get z e):=by
 subst J;have H:(us++ [u]).length=us.length+1:=by simp
 exact ac (by rw[H,zdp (za0 _)];rfl) λe V=>pO (by omega)
section
variable {I1:M1->Prop} {I2 I3:M3->Prop} {N:Int} {a:Int×Int×Int} {count:Int} {xs:List I4} {ex:Bool}
theorem Rh:S4 count xs ex:=⟨rfl,rfl,rfl,rfl,rfl,rfl,trivial⟩
variable {p:Int} {us:zdZ} {u:Un}
theorem Ty {q:Nat} :Ua count xs ex q p (us.length+1) (Jz us u) (p,us++ [u]):=
 ⟨⟨rfl,Rh⟩,trivial,⟨by simp,trivial⟩,Sc rfl,trivial⟩
variable {n0 q1 q2:Nat} {nod:ze0} {x:Nd}
theorem Sv:So count xs ex n0 q1 q2 p (nod.length+1) (gv nod x) (us.length+1) (Jz us u) (p,nod++ [x],us++ [u]):=
 ⟨⟨rfl,by simp,Rh⟩,trivial,⟨by simp,trivial⟩,S7 rfl,Sc rfl,trivial⟩
theorem RL:So count xs ex n0 q1 q2 p nod.length (eN.get nod) us.length (eU.get us) (p,nod,us):=
 ⟨⟨rfl,rfl,Rh⟩,trivial,⟨rfl,trivial⟩,ac (by simp) (λ_ _=>rfl),ac (by simp) (λ_ _=>rfl),trivial⟩
variable {inp:zdZ}
theorem Tz:Tu inp us x=tyF inp us x:=by
 unfold Tu;rw[show eU.list inp.length (eU.get inp)=inp from El.list_get,show eU.list us.length (eU.get us)=us from El.list_get,fR]
theorem S8 (h:MadOK inp (nod,us)) (hi: ∀u∈inp,szB u=true) (J:inp.length<=1000000) (V:szN x=true) (H:1<=x.op/\x.op<=8):S5 inp nod us x=true:=by
 have h1:us.length=nod.length:=h.len;have h2:nod.length<=14:=h.le;unfold S5 bW;rw[uf J (show nod.length<=1000000 by omega) (El.good_get hi) (show eN.good szN nod.length (eN.get nod)=true from El.good_get h.szn) (by decide),zae (za0 _),zae (show us.length<=1000000 by omega),El.good_get h.szu,fR,V,h1,zdp rfl,zdp H.1,zdp H.2];rfl
theorem S9 {i:Int} (h:MadOK inp (nod,us)) (hi: ∀u∈inp,szB u=true) (hl:inp.length<=1000000) (hx:szN x=true) (ho:1<=x.op/\x.op<=8) (h0:0<=i) (h1:i<N) (hN:N<=9223372036854775807)
 (H:I3 (i+1,match mn inp us x with
   |some u=>bif !ex||x.op !=8 then(nod++ [x],us++ [u]) else(nod,us)
   |none=>(nod,us))):Rg I3 N count xs ex inp q1 q2 (i,nod,us) x:=by
 have a1:us.length=nod.length:=h.len;have a2:nod.length<=14:=h.le;unfold Rg;rw[Tz];dsimp only;have no:(∃z,z=(nod,us)/\I3 (i+1,z))->af (inR .i64 (i+1)) (∃Z:M3,I3 Z/\((N - Z.1).toNat<(N - i).toNat/\So count xs ex inp.length 25 26 (i+1) nod.length (eN.get nod) us.length (eU.get us) Z)):=by
  rintro⟨z,rfl,hz⟩;exact ac (VP.2 (by omega)) ⟨(i+1,nod,us),hz,by show (_:Nat)<_;dsimp only;omega,RL⟩
 refine ac (S8 h hi hl hx ho) λ_ _=>ce (λJ=> ?_) (λJ=>no ?_)
 ·cases V:mn inp us x with
  |none=>
   unfold tyF at J;rw[V] at J;cases J
  |some u=>
   rw[V] at H;have e:tyF inp us x=(u,0):=by unfold tyF;rw[V]
   rw[e] at J ⊢;have Y:(!ex||x.op !=8)=true:=by rw[<-QN];exact J
   rw[Y] at H;exact xp (by omega) (fV (by omega) (ac (VP.2 (by omega)) ⟨(i+1,nod++ [x],us++ [u]),H,by show (_:Nat)<_;dsimp only;omega,Sv⟩))
 ·cases V:mn inp us x with
  |none=>rw[V] at H;exact⟨_,rfl,H⟩
  |some u=>
   rw[V] at H;have e:tyF inp us x=(u,0):=by unfold tyF;rw[V]
   rw[e] at J;have Y:(!ex||x.op !=8)=false:=by rw[<-QN];exact J
   rw[Y] at H;exact⟨_,rfl,H⟩
theorem SH {z:M3} {y:I4} (Z:uz4 y=true) (hi:1<=inp.length) (hz:1<=z.2.1.length) (h: ∀H J,Rg I3 N count xs ex inp H J z (RR inp.length z.2.1.length y)):Sp I3 N count xs ex inp z y:=by
 unfold uz4 at Z;simp only[za2] at Z;obtain⟨⟨⟨y1,V⟩,y3⟩,y4⟩:=Z;have b1:=gR y.1 (n:=8) (by decide);have b2:=gR y.2.1 (n:=13) (by decide);have b3:=gR y.2.2.1 (n:=4) (by decide);have b4:=gR y.2.2.1 (n:=5) (by decide);have E: ∀{x:Nd} (H J:Nat),RR inp.length z.2.1.length y=x->Rg I3 N count xs ex inp H J z x:=λ{x} H J e=>by rw[<-e];exact h H J
 unfold RR opF at E;unfold Sp;refine QU y1 (by decide) (Fy (by omega) (ce (λo1=> ?_) (λo1=>ce (λo2=> ?_) (λo2=>ce (λY=> ?_) (λY=>ce (λo8=> ?_) (λo8=> ?_))))))
 ·refine QU V (by decide) (Fy (by omega) (QU y3 (by decide) (Fy (by omega) (ac (by rw[V4.2 (by omega),V4.2 (by omega)];rfl) (ac y4 (E _ _ ?_))))));rw[o1];rfl
 ·refine QU V (by omega) (E _ _ ?_);rw[o1,o2];rfl
 ·refine QU V (by omega) (QU y3 (by decide) (ac (by rw[zdp b4.1,zdp (show co y.2.2.1 5<((5:Nat):Int) from b4.2)];rfl) (ac (zdp (by omega)) (E _ _ ?_))));rw[o1,o2,Y];rfl
 ·refine QU V (by omega) (E _ _ ?_);rw[o1,o2,Y,o8];rfl
 ·refine QU V (by omega) (QU y3 (by omega) (E _ _ ?_));rw[o1,o2,Y,o8];rfl
end
def Ta (a:Int×Int×Int) (count:Int) (z:M1):Prop:=0<=z.1/\z.1<=co count 3+1/\z.2=QQ a z.1.toNat
def Tb (a:Int×Int×Int) (count:Int) (z:M3):Prop:=0<=z.1/\z.1<=co count 3+1/\z.2.1=R9 z.1.toNat/\z.2.2=QQ a z.1.toNat
def SI (a:Int×Int×Int) (count:Int) (xs:List I4) (ex:Bool) (z:M3):Prop:=0<=z.1/\z.1<=xs.length/\MadOK (QQ a ((co count 3).toNat+1)) z.2/\Rb a count xs ex=RT ex (QQ a ((co count 3).toNat+1)) (xs.drop z.1.toNat) z.2
def mdK (p:Pr) (i n:Nat) (B:Blk) (j m:Nat) (C:Blk) (id:Int) (H:zdK):Prop:=i=10/\n=p.inp.length/\B=eU.own p.inp/\j=25/\m=p.nod.length/\C=eN.own p.nod/\id=p.id/\H=ci p.out
variable {ex:Bool} {inp:zdZ}
theorem SJ {r:List I4} {z:List Nd×List Un} (h: ¬z.1.length<14):RT ex inp r z=z:=by
 cases r with
 |nil=>rfl
 |cons y r=>unfold RT;rw[zds h];rfl
variable {a:Int×Int×Int} {count:Int} {xs:List I4}
theorem TA {z0:M3} (hx: ∀y∈xs,uz4 y=true) (hn:xs.length<=9223372036854775807) (h1:z0.2.1=R9 ((co count 3).toNat+1)) (h2:z0.2.2=QQ a ((co count 3).toNat+1)):
 Ub (SI a count xs ex) xs.length count xs ex (mdK (Bd a count xs ex)) (QQ a ((co count 3).toNat+1)) z0:=by
 have Z:=Rc (count:=count);have hi:(QQ a ((co count 3).toNat+1)).length=(co count 3).toNat+1:=QR;refine⟨(0,z0.2),⟨zat _,by show (0:Int)<=_;omega, ?_, ?_⟩,RL, ?_⟩
 ·show MadOK _ (z0.2.1,z0.2.2);rw[h1,h2];exact⟨by rw[QR,QZ],by rw[QZ];exact Z.1,by rw[QZ];omega,Si (za0 _),RU,QT QY⟩
 ·show _=RT _ _ xs (z0.2.1,z0.2.2);rw[h1,h2];rfl
 rintro⟨i,nod,us⟩ ⟨k0,k1,k2,k3⟩;dsimp only at k0 k1 k2 k3 ⊢;have ln:us.length=nod.length:=k2.len;have l1:1<=nod.length:=k2.pos;have l2:nod.length<=14:=k2.le;refine ce (λH=> ?_) (λH=> ?_)
 ·rw[QM,za2] at H;have V:=zdu H.1;have Y:nod.length<14:=by have:=zdu H.2;omega
  have hd:xs.drop i.toNat=mb (0,0,0,0) xs i.toNat::xs.drop (i+1).toNat:=by
   rw[show (i+1).toNat=i.toNat+1 by omega,zaH (show i.toNat<xs.length by omega),bR (zaa _)]
  rw[hd,RT,zdp (show (nod,us).1.length<14 from Y),zdr] at k3;rw[za7];have hy:uz4 (mb (0,0,0,0) xs i.toNat)=true:=hx _ (bw (by omega));refine aY k0 V (SH (y:=mb (0,0,0,0) xs i.toNat) hy (by omega) l1 λq1 q2=> ?_);refine S9 k2 (QT QY) (by omega) (Sr _ _ _) (by rw[Su];exact Tx _) k0 V (by omega) ?_;rw[Su];have st:=k2.step (ex:=ex) (y:=mb (0,0,0,0) xs i.toNat) (QT QY) Y;exact⟨by show 0<=i+1;omega,by show i+1<=_;omega,st,k3⟩
 ·have J:Rb a count xs ex=(nod,us):=by
   rw[k3];rw[QM] at H;by_cases c:i<xs.length
   ·rw[zdp c,zb6] at H;have:=zdv H;exact SJ (by show ¬nod.length<14;omega)
   ·rw[show i.toNat=xs.length by omega,zbj];rfl
  refine ac (VP.2 (by omega)) (aY (by omega) (by omega) ⟨rfl,rfl,rfl,rfl, ?_, ?_,rfl, ?_⟩)
  ·show nod.length=(Rb a count xs ex).1.length;rw[J]
  ·show _=eN.own (Rb a count xs ex).1;rw[J];rfl
  ·show _=ci (ly (Rb a count xs ex).2);rw[J,show 0+((us.length:Int) - 1).toNat=us.length - 1 by omega];rfl
theorem Sw (V: ∀y∈xs,uz4 y=true) (J:xs.length<=9223372036854775807) (h:inp=QQ a ((co count 3).toNat+1)):
 T6 (Tb a count) (SI a count xs ex) xs.length count xs ex (mdK (Bd a count xs ex)) inp:=by
 subst h;have Y:=Rc (count:=count);have hp:=gR count (n:=3) (by decide);have hi:(QQ a ((co count 3).toNat+1)).length=(co count 3).toNat+1:=QR;refine⟨(0, [], []),⟨zat _,by show (0:Int)<=_;omega,rfl,rfl⟩,⟨⟨rfl,rfl,Rh⟩,trivial,⟨rfl,trivial⟩,rfl,rfl,trivial⟩, ?_⟩;rintro⟨i,nod,us⟩ ⟨k0,k1,k2,k3⟩;dsimp only at k0 k1 k2 k3 ⊢;refine ce (λH=> ?_) (λH=> ?_)
 ·have H:=zdu H;have Z:nod.length=i.toNat:=by rw[k2,QZ]
  have l2:us.length=i.toNat:=by rw[k3,QR]
  rw[za7];have e1:(i+1).toNat=i.toNat+1:=by omega
  refine xp (by omega) (aY k0 H (fV (by omega) (ac (VP.2 (by omega)) ⟨(i+1,nod++ [nIn i],us++ [mb noU (QQ a ((co count 3).toNat+1)) i.toNat]),⟨by show 0<=i+1;omega,by show i+1<=_;omega, ?_, ?_⟩,by show (_:Nat)<_;dsimp only;omega,Sv⟩)))
  ·show nod++ [nIn i]=R9 (i+1).toNat;rw[e1,k2];show _=R9 i.toNat++ [nIn (i.toNat:Nat)];rw[show ((i.toNat:Nat):Int)=i by omega]
  ·show us++ [_]=QQ a (i+1).toNat;rw[e1,k3];show _=QQ a i.toNat++ [BL (mb 0 [a.1,a.2.1,a.2.2] i.toNat)];rw[show mb noU (QQ a ((co count 3).toNat+1)) i.toNat=BL (mb 0 [a.1,a.2.1,a.2.2] i.toNat) from bR (qX _ (by omega))]
 ·have H:=zdv H;have e:i.toNat=(co count 3).toNat+1:=by omega
  exact TA V J (by rw[<-e];exact k2) (by rw[<-e];exact k3)
theorem RW {j a0:Int} {x:M1} (V:cl count=true) (J:cl a0=true) (hx: ∀y∈xs,uz4 y=true) (Z:xs.length<=9223372036854775807) (hj:0<=j/\j<=2) (Y:mb 0 [a.1,a.2.1,a.2.2] j.toNat=a0) (h:Ta a count (j,x.2)):
 Tv (Ta a count) (Tb a count) (SI a count xs ex) xs.length count xs ex (mdK (Bd a count xs ex)) j a0 x:=by
 obtain⟨k0,k1,k2⟩:=h;dsimp only at k0 k1 k2;have l2:x.2.length=j.toNat:=by rw[k2,QR]
 refine QU V (by decide) (ce (λH=> ?_) (λH=> ?_))
 ·have H:=zdu H;have e1:(j+1).toNat=j.toNat+1:=by omega
  refine ac J (fV (by omega) ⟨(j+1,x.2++ [BL a0]),⟨by show 0<=j+1;omega,by show j+1<=_;omega, ?_⟩,by show (_:Nat)<_;dsimp only;omega,Ty⟩);show x.2++ [BL a0]=QQ a (j+1).toNat;rw[e1,k2];show _=QQ a j.toNat++ [BL (mb 0 [a.1,a.2.1,a.2.2] j.toNat)];rw[Y]
 ·have H:=zdv H;have hp:=gR count (n:=3) (by decide);exact Sw hx Z (by rw[k2];congr 1;omega)
theorem T7 (h0:cl a.1=true) (h1:cl a.2.1=true) (h2:cl a.2.2=true) (J:cl count=true) (Y: ∀y∈xs,uz4 y=true) (V:xs.length<=9223372036854775807):
 mdT (Ta a count) (Tb a count) (SI a count xs ex) xs.length a count xs ex (mdK (Bd a count xs ex)):=by
 have hp:=gR count (n:=3) (by decide);have hq:=gR count (n:=900) (by decide);refine QU J (by decide) (Fy (by omega) ⟨(0, []),⟨zat _,by show (0:Int)<=_;omega,rfl⟩,⟨⟨rfl,Rh⟩,trivial,⟨rfl,trivial⟩,rfl,trivial⟩, ?_,λx H=>RW J h0 Y V (by decide) rfl H,λx H=>RW J h1 Y V (by decide) rfl H,λx H=>RW J h2 Y V (by decide) rfl H,λx H=> ?_,trivial⟩)
 ·rintro⟨i,us⟩ ⟨k0,k1,_⟩;dsimp only at k0 k1;rcases(show i=0\/i=1\/i=2\/i=3 by omega) with rfl|rfl|rfl|rfl
  ·exact .inl rfl
  ·exact .inr (.inl rfl)
  ·exact .inr (.inr (.inl rfl))
  ·exact .inr (.inr (.inr (.inl rfl)))
 ·obtain⟨_,k1,k2⟩:=H;dsimp only at k1 k2;refine QU J (by decide) (ce (λZ=> ?_) (λZ=>Sw Y V (by rw[k2];congr 1;show (3:Int).toNat=_;omega)));have:=zdu Z;omega
theorem SK {K1:Nat->Nat->Blk->Nat->Nat->Blk->Int->List SV->Prop} {r:Res} {b:zdM} {m:Nat} {w:zdI} (h:prS K1 r b m w): ∃id i n j m B C H,r= .ok (.agg (.val (.int .i64 id):: .slc i 0 n:: .slc j 0 m::H))/\b i=some B/\b j=some C/\K1 i n B j m C id H:=by
 unfold prS at h;split at h
 ·rename_i id i n j m H;split at h
  ·rename_i B C hB J;exact⟨id,i,n,j,m,B,C,H,rfl,hB,J,h⟩
  ·exact h.elim
 ·exact h.elim
theorem Tc: ∀B:Base,GlobB B->VU prog B 19 SQ:=Sh S6 λbl nx args C V hp=>by
 unfold SQ at V;split at V
 ·rename_i a b c k s ex;split at V
  ·rename_i bb o n g hs;simp only[za1] at V;subst V;simp only[za2,zdt] at hp;obtain⟨⟨⟨⟨⟨⟨rfl,hn⟩,hg⟩,h0⟩,h1⟩,h2⟩,hc⟩:=hp;obtain⟨t1,t2⟩:=cq (f:=rnF [o] [] nx) hs hg;have Z:(e4.list n g).length=n:=El.list_length;have H: ∀C∈ [e4.old (e4.list n g)],cN C.kd=false/\C.kd.map=false:=by simp[cN,El.old,BK.map]
   have Y:=Sb (a:=(a,b,c)) (count:=k) (xs:=e4.list n g) (ex:=ex);refine⟨[o], [e4.old (e4.list n g)], [.agg [.val (.int .i64 a), .val (.int .i64 b), .val (.int .i64 c)], .val (.int .i64 k), .slc 0 0 (e4.list n g).length, .val (.bool ex)],St (Ta (a,b,c) k) (Tb (a,b,c) k) (SI (a,b,c) k (e4.list n g) ex) (e4.list n g).length,6,aw t1 trivial,bH (λC J=>(H C J).1),cd (λC J=>(H C J).2),ar rfl (ar rfl (ar (t2 0 rfl) rfl)), ?_⟩;refine Q8 (K:=prS (mdK (Bd (a,b,c) k (e4.list n g) ex))) ?_ λr bl' m w h=> ?_
   ·have:=Tw (Ta (a,b,c) k) (Tb (a,b,c) k) (SI (a,b,c) k (e4.list n g) ex) (e4.list n g).length (a,b,c) k (e4.list n g) ex (mdK (Bd (a,b,c) k (e4.list n g) ex));show TG _ _ _ _ (a,b,c) k (e4.list n g) ex _;rw[this];exact T7 h0 h1 h2 hc (El.good_list hg) (by omega)
   ·generalize Bd (a,b,c) k (e4.list n g) ex=p at h Y;obtain⟨id,i,n',j,m',B,C,a0,rfl,hB,J,rfl,rfl,rfl,rfl,rfl,rfl,rfl,rfl⟩:=SK h;have e:=rns_free (f:=dt [o] [some 10,some 25] nx) (fj p.out);have e0:dt [o] [some 10,some 25] nx nx=some (some 10):=cO;have e1:dt [o] [some 10,some 25] nx (nx+1)=some (some 25):=jA 1;refine⟨(),trivial, [some 10,some 25],⟨_,rfl, ?_⟩,by simp[ck],⟨⟨by simp, ?_⟩,⟨by simp, ?_⟩,trivial⟩,we (λC J=>(H C J).1) rfl _⟩
    ·show SV.rn (dt [o] [some 10,some 25] nx) (TJ nx p)=_;unfold TJ;exact Xs (ar rfl (ar (by simp only[SV.rn,e0]) (ar (by simp only[SV.rn,e1]) e)))
    ·rw[hB];exact⟨by simp[El.own],λ_=> .inr ⟨Y.1,eU.one⟩,gC rfl rfl (za0 _) λ_ _=>rfl⟩
    ·rw[J];exact⟨by simp[El.own],λ_=> .inr ⟨Y.2.2.1,eN.one⟩,gC rfl rfl (za0 _) λ_ _=>rfl⟩
  ·cases V
 ·cases V
def ats:zdX:= [(176,arY),(80,asz)]
theorem as7:MOk ats:=(MOk.nil.cons asB).cons asc
def asd (I:CX->Prop) (N:Int):zdV:=λf k=>bif Nat.beq f 107&&Nat.beq k 6 then some (λA=>{X:=CX,inv:=I,tm:=λx=> [(8, .val (.int .i64 x.1)),(7, .slc A.nx 0 x.2.length)],gr:= [{src:= .slot 7,sz:=20,n:=λx=>x.2.length,get:=λx=>eU.get x.2}],cleanG:=λg hg x e=>(by simp at hg;subst hg;exact eU.ids _),mu:=λx=>(N - x.1).toNat,keep:= [1]}) else none
def ckM (q:Nat) (p:Int) (n:Nat) (us:zdN) (z:CX):Prop:=(TV.v (cI.enc p)=TV.v (cI.enc z.1)/\TV.v (.slc q 0 n)=TV.v (.slc q 0 z.2.length)/\cg 2/\True)/\(True/\(True/\(af (Nat.beq 20 20&&decide (z.2.length<=n)) (∀e,e<z.2.length->us e=eU.get z.2 e)/\True)))
def ati (p:Pr) (us:zdZ) (x:Nd) (i:Int):Bool:=jn p&&(Nat.ble us.length us.length&&Nat.beq 20 20&&true)&&bW us.length&&eU.good szB us.length (eU.get us)&&ndB (svN x)&&szN (Vh (svN x))&&decide (i=(us.length:Int))&&true
def ckN (I:CX->Prop) (N:Int) (q:Nat) (p:Pr) (i:Int) (us:zdZ) (Q:zdR):Prop:=eO p.nod.length i (n8 (ati p us (mb noN p.nod (0+i.toNat)) i) (ag ((Tu p.inp us (mb noN p.nod (0+i.toNat))).2 !=0) (Q (zi i)) (tO us.length (af (inR .i64 (i+1)) (∃H:CX,I H/\((N - H.1).toNat<(N - i).toNat/\ckM q (i+1) (us.length+1) (Jz us (Tu p.inp us (mb noN p.nod (0+i.toNat))).1) H))))))
def ckT (I:CX->Prop) (N:Int) (p:Pr) (Q:zdR) (J:List Un->Prop):Prop:=
 n8 (jn p) (ag (!oB (dm p)) (Q (zi (-1))) (∃H:CX,I H/\(((TV.v (cI.enc 0)=TV.v (cI.enc H.1)/\TV.v (.val (.slice none 0 0))=TV.v (.val (.slice none H.2.length 0))/\cg 2/\True)/\(True/\(True/\(H.2.length=0/\True))))/\
  ∀z:CX,I z->ag (decide (z.1<(p.nod.length:Int))) (ckN I N 29 p z.1 z.2 Q/\ckN I N 29 p z.1 z.2 Q)
   (af (inR .i64 ((z.2.length:Int) - 1)) (eO z.2.length ((z.2.length:Int) - 1) (ag (!eqU (mb noU z.2 (0+((z.2.length:Int) - 1).toNat)) p.out) (Q (zi p.nod.length)) (J z.2)))))))
theorem atG (I:CX->Prop) (N:Int) (p:Pr) (H:Nat->Nat->Blk->List SV->Prop) (Q:zdR):
 JL ats (asd I N) 6 107 [kB p] [eU.old p.inp,eN.old p.nod] (slK H Q)=ckT I N p Q (λus=>H 16 us.length {n:=us.length,sz:=20,get:=eU.get us,kd:= .own,nn:=false} [.val (.int .i64 0), .val (.int .i64 0)]):=by kernel_rfl
theorem att {q:Nat} {p:Int} {us:zdZ} {u:Un}:ckM q p (us.length+1) (Jz us u) (p,us++ [u]):=
 ⟨⟨rfl,by simp,rfl,trivial⟩,trivial,trivial,(CQ (m:=0) (c:=0) (q:=0) (ni:=0) (nn:=0) (p:=p)).2.2.2⟩
theorem asL {p:Pr} {Q:zdR} {KU:List Un->Prop} (Y:aci p=true) (h6:p.inp.length<=1000000) (h7:p.nod.length<=1000000)
 (N:(VJ p).2.2≠0->Q (zi (VJ p).2.1)) (hg:(VJ p).2.2=0->KU (VJ p).1):ckT (chkI p.inp p.nod) p.nod.length p Q KU:=by
 obtain⟨⟨si,sn⟩,so⟩:=arx Y;unfold ckT n8;rw[fN];refine ac (eY Y h6 h7) λ_ _=>ce (λh=> ?_) (λh=> ?_)
 ·have hf:oB p=false:=by simpa using h
  have:VJ p=([], -1,90):=by unfold VJ;rw[hf];rfl
  rw[this] at N;exact N (show (90:Int)≠0 by decide)
 ·have J:oB p=true:=by simpa using h
  obtain⟨_,_,b5,b6⟩:=Wb.1 J;have V:VJ p=match iB p.inp p.nod [] with
   |(us,true)=>bif eqU (ly us) p.out then(us,0,0) else([],p.nod.length,90)
   |(us,false)=>([],us.length,90):=by unfold VJ;rw[J];rfl
  refine⟨(0, []),⟨zat _,by show (0:Int)<=_;omega,rfl,λu h=>(by cases h),rfl⟩,⟨⟨rfl,rfl,rfl,trivial⟩,trivial,trivial,rfl,trivial⟩, ?_⟩;rintro⟨i,us⟩ ⟨k0,k1,k2,k3,H⟩;simp only at k0 k1 k2 k3 H;dsimp only;refine ce (λZ=> ?_) (λZ=> ?_)
  ·have Z:i<(p.nod.length:Int):=zdu Z;have hd:=atR (d:=noN) k0 Z;have hx:=sn _ (bw (d:=noN) (l:=p.nod) (e:=i.toNat) (by omega));rw[hd,iB] at H;have one:ckN (chkI p.inp p.nod) p.nod.length 29 p i us Q:=by
    unfold ckN n8;rw[za7,Tz];generalize mb noN p.nod i.toNat=x at hx H;refine aY k0 Z (ac ?_ λ_ _=> ?_)
    ·unfold ati bW;rw[eY Y h6 h7,zae (za0 us.length),zae (show us.length<=1000000 by omega),El.good_get (E:=eU) k3,show ndB (svN x)=true from rfl,fR,hx,zdp (show i=(us.length:Int) by omega)];rfl
    ·cases t:mn p.inp us x with
     |none=>
      rw[t] at H;replace H:iB p.inp p.nod []=(us,false):=H;rw[show tyF p.inp us x=(noU,90) by unfold tyF;rw[t]];refine ce (λ_=> ?_) (λh=>by cases h);rw[H] at V;replace V:VJ p=([],(us.length:Int),90):=V;rw[V] at N;have:=N (show (90:Int)≠0 by decide);rwa[show ((us.length:Nat):Int)=i by omega] at this
     |some u=>
      rw[t] at H;replace H:iB p.inp p.nod []=iB p.inp (p.nod.drop (i+1).toNat) (us++ [u]):=H;rw[show tyF p.inp us x=(u,0) by unfold tyF;rw[t]];refine ce (λh=>by cases h) (λ_=>fV (by omega) (ac (VP.2 (by omega)) ⟨(i+1,us++ [u]),⟨by show 0<=i+1;omega,by show i+1<=_;omega,by simp only[za3,za6];omega, ?_,H⟩,by show (_:Nat)<_;omega,att⟩));exact atS k3 (CR hx si k3 t)
   exact⟨one,one⟩
  ·have Z: ¬i<(p.nod.length:Int):=zdv Z;rw[show i.toNat=p.nod.length by omega,zbj,iB] at H;rw[H] at V;refine ac (VP.2 (by omega)) (aY (by omega) (by omega) ?_);rw[show (0+((us.length:Int) - 1).toNat)=us.length - 1 by omega];refine ce (λh=> ?_) (λh=> ?_)
   ·have h:eqU (ly us) p.out=false:=by simpa [ly] using h
    rw[V] at N;simp only[h,zdq] at N;exact N (show (90:Int)≠0 by decide)
   ·have h:eqU (ly us) p.out=true:=by simpa [ly] using h
    rw[V] at hg;simp only[h,zdr] at hg;exact hg trivial
theorem arM: ∀B:Base,GlobB B->VU prog B 107 xi:=Sh as7 λbl nx args C H hp=>by
 unfold xi at H;split at H
 ·rename_i s;split at H
  ·rename_i a J;simp only[za1] at H;subst H;obtain⟨s1,N,V,Y,Z,s6⟩:=eX (f:=rnF [a.o1,a.o2] [] nx) J hp rfl rfl;refine⟨[a.o1,a.o2],iK a.p, [kB a.p],asd (chkI a.p.inp a.p.nod) a.p.nod.length,6,aw s1 (aw N trivial),bH (cx _),cd (jG _),ar V rfl,atW (q:=16) Q8 (by decide) λKS Q h1 h2=> ?_⟩;unfold iK;rw[atG];exact asL Y Z s6 h1 h2
  ·cases H
 ·cases H
def atH:zdX:= [(107,xi)]
theorem as8:MOk atH:=MOk.nil.cons arM
theorem asr (p:Pr) (Q:zdR):JL atH (λ_ _=>none) 3 35 [kB p] [eU.old p.inp,eN.old p.nod] (Go.Sy.okK λr _ _ _=>Q r)=af (jn p) (Unit->True->Q (cB.enc ((VJ (dm p)).2.2==0))):=by kernel_rfl
def atV:MCtr:=at2 λp=>cB.enc (VM p)
theorem arN: ∀B:Base,GlobB B->VU prog B 35 atV:=atY as8 (λ_=>rfl) (ann:=λ_ _ _=>none) (n:=3) λp h1 h2 h3=>by
 rw[asr];exact ac (eY h1 h2 h3) λ_ _=>by rw[fN];rfl
def apX (a b:RS):RS:=bif decide (b9 a b<=0) then a else b
def apY (a b:RS):RS:=bif decide (b9 a b≥0) then a else b
def apD (x:I4):Iv:=(apX (smallF (x.1,x.2.1)) (smallF (x.2.2.1,x.2.2.2)),apY (smallF (x.1,x.2.1)) (smallF (x.2.2.1,x.2.2.2)))
def bt (xs:List I4) (n:Nat):List Iv:=Go.Sy.tab (λj=>apD (mb (0,0,0,0) xs j)) n
variable {a b:RS}
theorem aqQ (H:uzR a=true) (J:uzR b=true):uzR (apX a b)=true:=by
 unfold apX;cases decide (b9 a b<=0) with
 |true=>exact H
 |false=>exact J
theorem aqR (H:uzR a=true) (J:uzR b=true):uzR (apY a b)=true:=by
 unfold apY;cases decide (b9 a b≥0) with
 |true=>exact H
 |false=>exact J
theorem aqS (x:I4):uzI (apD x)=true:=adF (aqQ (alg _ _) (alg _ _)) (aqR (alg _ _) (alg _ _))
theorem apF {xs:List I4}: ∀{n:Nat},∀v∈bt xs n,uzI v=true
 |0,r,h=>by cases h
 |n+1,r,h=>by
  rcases za8.1 h with h|h
  ·exact apF r h
  ·rw[zaj.1 h];exact aqS _
theorem aq8 (a:Addr) (x y:RS) (K:zdR):acb a xK [] noA 3 82 [cR.enc x,cR.enc y] K=af (uzR x&&uzR y) (ag (decide (b9 x y<=0)) (K (cR.enc x)) (K (cR.enc y))):=by kernel_rfl
theorem aq9 (a:Addr) (x y:RS) (K:zdR):acb a xK [] noA 3 83 [cR.enc x,cR.enc y] K=af (uzR x&&uzR y) (ag (decide (b9 x y≥0)) (K (cR.enc x)) (K (cR.enc y))):=by kernel_rfl
def avL:List (FuncId×Ctr):=(82,k2 cR cR cR (λa b=>uzR a&&uzR b) apX)::(83,k2 cR cR cR (λa b=>uzR a&&uzR b) apY)::xK
theorem avK:GEk avL:=
 ((GEk.of BN).cons (λa W H=>bC λx y h=>l0 (GEk.of BN) (MEk.nil (a:=a)) H (ann:=noA) (n:=3) de (cR.ids _) (by
    rw[aq9];refine ac h (ce (λe=> ?_) (λe=> ?_))
    ·unfold apY;rw[e];rfl
    ·unfold apY;rw[e];rfl)) call83).cons
   (λa W H=>bC λx y h=>l0 (GEk.of BN) (MEk.nil (a:=a)) H (ann:=noA) (n:=3) de (cR.ids _) (by
     rw[aq8];refine ac h (ce (λe=> ?_) (λe=> ?_))
     ·unfold apX;rw[e];rfl
     ·unfold apX;rw[e];rfl)) call82
def avN:List (FuncId×Ctr):=avL
theorem avM:GEk avN:=avK
def ard (x:I4) (K:zdR):Prop:=af (cl x.1&&cl x.2.1) (af (cl x.2.2.1&&cl x.2.2.2) (af (uzR (smallF (x.1,x.2.1))&&uzR (smallF (x.2.2.1,x.2.2.2))) (af (uzR (smallF (x.1,x.2.1))&&uzR (smallF (x.2.2.1,x.2.2.2))) (K (cIv.enc (apD x))))))
theorem are (a:Addr) (x:I4) (K:zdR):acb a avL [] noA 5 20 [c44.enc x] K=ard x K:=by kernel_rfl
theorem arf {x:I4} {K:zdR} (h:uz4 x=true) (k:K (cIv.enc (apD x))):ard x K:=by
 unfold uz4 at h;simp only[za2] at h;obtain⟨⟨⟨h1,h2⟩,h3⟩,h4⟩:=h;have s: ∀z,uzR (smallF z)=true:=λz=>alg _ _;unfold ard;exact ac (by rw[h1,h2];rfl) (ac (by rw[h3,h4];rfl) (ac (by rw[s,s];rfl) (ac (by rw[s,s];rfl) k)))
def gI5:List (FuncId×Ctr):=(20,k1 c44 cIv uz4 apD)::avN
theorem aqY:GEk gI5:=avM.cons (λa W H=>dD λx h=>l0 avK (MEk.nil (a:=a)) H (ann:=noA) (n:=5) m8 (cIv.ids _) (by
 rw[are]
 exact arf (K:=λr=>r=_) h rfl)) call20
def al2 (a b c k:Int) (n:Nat):SV:= .agg [.val (.int .i64 a), .val (.int .i64 b), .val (.int .i64 c), .val (.int .i64 k), .slc 0 0 n]
end Go.Proofs.YtojcellmcbnmeaaGreatDoor
namespace Yk
open Go.Proofs.YtojcellmcbnmeaaGreatDoor
open Go Go.RowKit Go.ChangeShapes Go.WideShapes
section
variable {H:Type} {enc:TypeId×Value->H} {P:Program} {w:World} {base b0:Nat} {spare:zdQ} {held:Bool} {r:Reach} {v:Value} {d:DataW H} {ps:List MemPlace}
theorem ki {z:Int} (h:(Lit.int .i64 z).wf=true): -9223372036854775808<=z/\z<=9223372036854775807:=bounds_i64 h
end
theorem wd {H:Type} {enc:TypeId×Value->H} {P:Program} (Z:laidOutB P=true) {W W':World} (Y:Below W.heap.size W W'): ∀(ts:List TypeId) (vs:zdL) (J:List (DataW H)) (p:List MemPlace),
 (∀t∈ts,P.readableRec t=true/\t<P.types.size)->(∀x∈p,x.block<W.heap.size)->DataW.TrodAll enc P W 0 (λ_=>true) true ts vs J p->DataW.TrodAll enc P W' 0 (λb=>decide (b<W.heap.size)) true ts vs J p
 | [], [], [],_,_,_,h=>h
 |t::ts,v::vs,d::J,_,N,hp,h=>by
  obtain⟨p,q,h1,h2,rfl⟩:=h;exact⟨p,q,Below.trod Z (N t (by simp)).1 (N t (by simp)).2 h1 Y (λx V=>hp x (by simp[V])),wd Z Y ts vs J q (λt ht=>N t (by simp[ht])) (λx V=>hp x (by simp[V])) h2,rfl⟩
 | [], [],_::_,_,_,_,h=>h.elim
 | [],_::_,_,_,_,_,h=>h.elim
 |_::_, [],_,_,_,_,h=>h.elim
 |_::_,_::_, [],_,_,_,h=>h.elim
inductive Leaf where
 |int (k:IntKind)
 |bool
 |str
def Leaf.ok:Leaf->Value->Prop
 | .int k,v=> ∃z,v= .int k z/\k.min<=z/\z<=k.max
 | .bool,v=> ∃b,v= .bool b
 | .str,v=> ∃s:zdH,v= .string s/\s.size<=maxLen
def okL:List Leaf->List Value->Prop
 | [], []=>True
 |l::J,v::vs=>l.ok v/\okL J vs
 |_,_=>False
theorem arC: ∀{ls:List Leaf} {vs:zdL},okL ls vs->vs.length=ls.length
 | [], [],_=>rfl
 |_::_,_::_,h=>by simp[arC h.2]
 | [],_::_,h=>h.elim
 |_::_, [],h=>h.elim
theorem Q9: ∀{a b:List Leaf} {u v:zdL},okL a u->okL b v->okL (a++b) (u++v)
 | [],_, [],_,_,h=>h
 |_::_,_,_::_,_,h,k=>⟨h.1,Q9 h.2 k⟩
 | [],_,_::_,_,h,_=>h.elim
 |_::_,_, [],_,h,_=>h.elim
def Ri (P:Program) (g:TypeId->Option (List Leaf)):List Field->Nat->Option (List Leaf)
 | [],_=>some []
 |f::fs,off=>match g f.type with
  |some l=>if P.cellsOf f.type=l.length/\f.offset=off then(match Ri P g fs (off+l.length) with
   |some r=>some (l++r)
   |none=>none) else none
  |none=>none
def QV (P:Program):Nat->TypeId->Option (List Leaf)
 |0,_=>none
 |d+1,t=>match P.underlying t with
  |some .bool=>some [.bool]
  |some (.int k)=>some [.int k]
  |some .string=>some [.str]
  |some (.array n e)=>match QV P d e with
   |some l=>if P.cellsOf e=l.length/\P.cellsOf t=n*l.length then some (List.replicate n l).flatten else none
   |none=>none
  |some (.struct fs)=>match Ri P (QV P d) fs.toList 0 with
   |some l=>if P.cellsOf t=l.length then some l else none
   |none=>none
  |_=>none
section
variable {H:Type} {enc:TypeId×Value->H} {P:Program} {w:World} {base:Nat} {spare:zdQ} {held:Bool}
theorem Sx {l:List Leaf}: ∀(n:Nat) (cs:zdL),cs.length=n*l.length->(∀i,i<n->okL l ((cs.drop (i*l.length)).take l.length))->okL (List.replicate n l).flatten cs
 |0,cs,J,_=>by
  have:cs= []:=zau (by omega);subst this;trivial
 |n+1,cs,J,h=>by
  rw[zcd,List.flatten_cons,<-zdm l.length cs];refine Q9 (by simpa using h 0 (by omega)) (Sx n _ (by rw[zbQ,J,zaG];omega) λi hi=> ?_);have:=h (i+1) (by omega);rw[List.drop_drop];rwa[zaG,Nat.one_mul,zb3] at this
theorem Rj {g:TypeId->Option (List Leaf)} (hg: ∀{fuel:Nat} {t:TypeId} {cs:zdL} {x:DataW H×List MemPlace} {l:List Leaf},g t=some l->DataW.trod enc P w base spare held fuel t cs=some x->okL l cs):
 ∀{fs:List Field} {off:Nat} {cs:zdL} {l:List Leaf},Ri P g fs off=some l->off+l.length<=cs.length->
 (∀f∈fs,∃fuel x,DataW.trod enc P w base spare held fuel f.type ((cs.drop f.offset).take (P.cellsOf f.type))=some x)->okL l ((cs.drop off).take l.length)
 | [],off,cs,l,h,_,_=>by simp[Ri] at h;subst h;simp[okL]
 |f::fs,off,cs,l,h,Y,N=>by
  rw[Ri] at h;split at h
  ·rename_i a V;split at h
   ·rename_i J;split at h
    ·rename_i r Z;cases h;simp only[za3] at Y ⊢;obtain⟨fuel,x,h1⟩:=N f (by simp);rw[J.1,J.2] at h1;have h2:=Rj hg Z (cs:=cs) (by omega) (λg hg=>N g (zan _ hg));rw[List.take_add,List.drop_drop];exact Q9 (hg V h1) h2
    ·cases h
   ·cases h
  ·cases h
theorem FB: ∀(d:Nat) {fuel:Nat} {t:TypeId} {cs:zdL} {x:DataW H×List MemPlace} {l:List Leaf},QV P d t=some l->DataW.trod enc P w base spare held fuel t cs=some x->okL l cs
 |0,_,_,_,_,_,h,_=>by simp[QV] at h
 |d+1,fuel,t,cs,x,l,h,V=>by
  rw[QV] at h;split at h
  ·rename_i N;obtain⟨b,rfl,_⟩:=DataW.trod_bool N V;cases h;exact⟨⟨b,rfl⟩,trivial⟩
  ·rename_i k N;obtain⟨z,rfl,_,hw⟩:=DataW.trod_int N V;cases h;simp only[Lit.wf,za2,zdt] at hw;exact⟨⟨z,rfl,hw⟩,trivial⟩
  ·rename_i N;obtain⟨s,rfl,_,hs⟩:=DataW.trod_string N V;cases h;exact⟨⟨s,rfl,hs⟩,trivial⟩
  ·rename_i n e N;split at h
   ·rename_i le a0;split at h
    ·rename_i Y;cases h;obtain⟨xs,m,_,_,Z,hn,J⟩:=DataW.trod_array N V;rw[Y.2] at Z;rw[Y.1] at J;refine Sx n cs Z λi hi=> ?_;have:=J i hi;rw[zaa (by omega)] at this;exact FB d a0 this
    ·cases h
   ·cases h
  ·rename_i fs N;split at h
   ·rename_i lf e0;split at h
    ·rename_i Y;cases h;obtain⟨xs,m,_,_,Z,hn,J⟩:=DataW.trod_struct N V;rw[Y] at Z
     have:=Rj (g:=QV P d) (λh1 h2=>FB d h1 h2) (fs:=fs.toList) (off:=0) (cs:=cs) e0 (by omega) (λf hf=>by
      obtain⟨i,hi,e⟩:=zbR hf;have h1:=J i f (by rw[<-Array.getElem?_toList];rw[zaa hi,e]);rw[zaa (by simp at hi;omega)] at h1
      exact⟨_,_,h1⟩)
     rwa[zaZ,zaI (by omega)] at this
    ·cases h
   ·cases h
  ·cases h
end
end Yk
namespace Yk
open Go.Proofs.YtojcellmcbnmeaaGreatDoor
open Go Go.RowKit Go.ChangeShapes Go.WideShapes Go.Sy
section
variable {H:Type} {enc:TypeId×Value->H} {P:Program} {w:World} {base:Nat}
theorem u64 {z:Int} (h:IntKind.i64.min<=z/\z<=IntKind.i64.max):cl z=true:=by
 exact Wl.2 h
end
end Yk
namespace Go.Proofs.YtojcellmcbnmeaaGreatDoor
open Go Go.RowKit Go.Sy Yk Go.ChangeShapes Go.WideShapes
structure Ca9 where
 a:Int
 b:Int
 c:Int
 k:Int
 x:List I4
def Ca9.ok (c:Ca9):Bool:=cl c.a&&cl c.b&&cl c.c&&cl c.k&&c.x.all uz4
def aoR:List SV->Int
 | [.val (.int .i64 z)]=>z
 |_=>0
def e1:El Int:={sz:=1,sv:=λz=> [.val (.int .i64 z)],of:=aoR,d:=0,rt:=λ_=>rfl,ids:=λ_=>rfl,len:=λ_=>rfl,one:=by decide}
def aoT (Q:Nat->Nat->Blk->Prop):Aft:=λr bl _ _=>match r with
 | .ok (.slc i 0 n)=>(match bl i with
   |some B=>Q i n B
   |none=>False)
 |_=>False
end Go.Proofs.YtojcellmcbnmeaaGreatDoor
namespace Go.Proofs.YtojcellmcbnmeaaGreatDoor
open Go Go.RowKit Go.Sy Yk Go.ChangeShapes Go.WideShapes
theorem at1: ∀vs,okL [.int .i64, .int .i64, .int .i64, .int .i64] vs-> ∃y:I4,uz4 y=true/\vs=SV.concs oj (e4.sv y):=λvs h=>by
 have Y:=arC h
 match vs,Y,h with
 | [_,_,_,_],_,⟨⟨a,rfl,b0⟩,⟨b,rfl,J⟩,⟨c,rfl,N⟩,⟨d,rfl,V⟩,_⟩=>exact⟨(a,b,c,d),by unfold uz4;rw[u64 b0,u64 J,u64 N,u64 V];rfl,rfl⟩
section
variable {H:Type} {enc:TypeId×Value->H} {P:Program} {w:World} {base:Nat}
variable {α:Type} {e:TypeId} {held:Bool}
theorem ar7 {E:El α} {ok:α->Bool} {ls:List Leaf} (dec: ∀vs,okL ls vs-> ∃y:α,ok y=true/\vs=SV.concs oj (E.sv y)) {fuel:Nat} {a:Addr} {x:DataW H×List MemPlace} {spare:zdQ} {i:Nat} (Z:QV P 9 e=some ls) (hs:a.spot=none)
 (h:(w.cells? base (a.add (i*E.sz)) E.sz).bind (DataW.trod enc P w base spare held fuel e)=some x): ∃y:α,ok y=true/\ ∀o z,(E.sv y)[o]? =some z->w.cell? ⟨a.block,a.off+i*E.sz+o,none⟩=some (z.conc oj):=by
 rw[Option.bind_eq_some_iff] at h;obtain⟨cs,Y,hx⟩:=h;obtain⟨_,hl,J⟩:=World.cells?_some Y;obtain⟨y,hy,rfl⟩:=dec cs (FB 9 Z hx);refine⟨y,hy,λo z N=> ?_⟩;have ho:o<E.sz:=by
  have:=(zaV.1 N).1;rw[E.len] at this;exact this
 have V:(a.add (i*E.sz)).add o=⟨a.block,a.off+i*E.sz+o,none⟩:=by
  obtain⟨b,f,s⟩:=a;obtain rfl:s=none:=hs;unfold Addr.add;split<;>split<;>simp_all<;>omega
 rw[<-V,J o ho,SV.concs_eq,zaL,N];rfl
variable {r:Reach} {b0:Nat} {v:Value} {ps:List MemPlace} {t:TypeId}
theorem apG {E:El α} {ok:α->Bool} {dd:DataW H} (hu:P.underlying t=some (.slice e)) (hs:P.cellsOf e=E.sz)
 (one: ∀{fuel:Nat} {x:DataW H×List MemPlace} {a:Addr} {spare:zdQ} {held:Bool} {i:Nat},a.spot=none->(w.cells? base (a.add (i*E.sz)) E.sz).bind (DataW.trod enc P w base spare held fuel e)=some x-> ∃y:α,ok y=true/\ ∀o z,(E.sv y)[o]? =some z->w.cell? ⟨a.block,a.off+i*E.sz+o,none⟩=some (z.conc oj))
 (V:Value.okWide P w r b0 t v) (hd:DataW.Trod enc P w base (λ_=>true) held t v dd ps): ∃(xs:List α) (L:Go.Sy.Loc),v=(SV.slc 0 0 xs.length).conc (λ_=>L)/\(∀x∈xs,ok x=true)/\BlkOK (λ_=>L) 0 (E.old xs) w/\xs.length<=maxLen:=by
 obtain⟨a0,J,N,rfl⟩:=okWide_slice hu V;obtain⟨fuel,hf⟩:=hd;rcases DataW.trod_slice hu hf with ⟨hs,_⟩|⟨a,len,cap,q0,z0,n,_,o0,_,_,B0,x0,y0,Z,g0,_⟩
 ·simp only[Value.cells,zc9,and_true,Value.slice.injEq] at hs;obtain⟨rfl,rfl,rfl⟩:=hs;refine⟨[],⟨0,0,E.sz,0,true⟩,rfl,λx hx=>(by cases hx), ?_,zaA _⟩;exact⟨rfl,λh=>(by cases h),za0 _,λe he=>absurd he (zbn e),λj hj=>(by simp at hj),λh=>(by cases h),λe he=>absurd he (zbn e),λ_=>rfl,λh=>(by cases h)⟩
 ·simp only[Value.cells,zc9,and_true,Value.slice.injEq] at o0;obtain⟨rfl,rfl,rfl⟩:=o0;have hb:a.spot=none/\a.block<w.heap.size:=by
   simp only[Value.okWide,hu] at V;unfold Cell.okWide at V;simp only[hu] at V;unfold Cell.ok at V;simp only[hu] at V;obtain⟨_,_,_,g0,row,cells,e0,_⟩:=V;refine⟨g0, ?_⟩;unfold World.shape? at e0;rcases zah a.block w.heap.size with h|h
   ·exact h
   ·rw[zcC h] at e0;cases e0
  obtain⟨C0,Y⟩:=g0 rfl;rw[hs] at Z Y;have i0: ∀i,∃y:α,i<N->ok y=true/\ ∀o z,(E.sv y)[o]? =some z->w.cell? ⟨a.block,a.off+i*E.sz+o,none⟩=some (z.conc oj):=λi=>by
   by_cases hi:i<N
   ·by_cases v0:i<J
    ·have:=Z i v0;rw[zaa (by omega)] at this;obtain⟨y,h⟩:=one hb.1 this;exact⟨y,λ_=>h⟩
    ·have:=Y (i - J) (by omega);rw[show J+(i - J)=i by omega,zaa (by omega)] at this;obtain⟨y,h⟩:=one hb.1 this;exact⟨y,λ_=>h⟩
   ·exact⟨E.d,λh=>absurd h hi⟩
  obtain⟨g,hg⟩:=Classical.axiomOfChoice i0;have m0:(Go.Sy.tab g J).length=J:=fJ _ _;refine⟨Go.Sy.tab g J,⟨a.block,a.off,E.sz,N,false⟩, ?_,λy hy=> ?_, ?_,by omega⟩
  ·rw[jq rfl (.inr rfl),m0];obtain⟨b,f,s⟩:=a;obtain rfl:s=none:=hb.1;simp[addr]
  ·obtain⟨i,hi⟩:=zby hy;have w0:i<J:=by have:=(zaV.1 hi).1;omega
   rw[qX _ w0] at hi;simp only[za1] at hi;subst hi;exact(hg i (by omega)).1
  ·refine⟨rfl,λ_=>hb.2,by show (Go.Sy.tab g J).length<=N;omega,λe he=>E.len _,λj hj=> ?_,λh=>(by cases h),λe he o s ho=> ?_,λh=>(by cases h),λ_=>rfl⟩
   ·have hj:j<N*E.sz:=hj;have hp:0<E.sz:=by
     rcases zbK E.sz with h|h
     ·rw[h,Nat.mul_zero] at hj;omega
     ·exact h
    have hq:j / E.sz<N:=Nat.div_lt_of_lt_mul (by rw[zay];exact hj);have hm:j%E.sz<(E.sv (g (j / E.sz))).length:=by rw[E.len];exact zar _ hp
    have:=(hg (j / E.sz) hq).2 (j%E.sz) _ (zaa hm);rw[zbr,Nat.div_add_mod'] at this;show (w.cell? ⟨a.block,a.off+j,none⟩).isSome=true;rw[this];rfl
   ·have r0:e<J:=by rw[<-m0];exact he
    have p0:E.get (Go.Sy.tab g J) e=E.sv (g e):=by
     unfold El.get El.nth;rw[bR (qX g r0)]
    have n0:(E.sv (g e))[o]? =some s:=by rw[<-p0];exact ho
    show w.cell? ⟨a.block,a.off+e*E.sz+o,none⟩=_
    rw[(hg e (by omega)).2 o s n0,SV.conc_congr s (β:=oj) (β':=λ_=>(⟨a.block,a.off,E.sz,N,false⟩:Go.Sy.Loc)) (λi h=>by
     have:i∈SV.idss (E.sv (g e)):=SV.mem_idss.2 ⟨s,zal n0,h⟩
     rw[E.ids] at this;cases this)]
theorem apJ {dd:DataW H} (Z:P.underlying t=some (.slice e)) (N:P.cellsOf e=4/\QV P 9 e=some [.int .i64, .int .i64, .int .i64, .int .i64])
 (J:Value.okWide P w r b0 t v) (V:DataW.Trod enc P w base (λ_=>true) held t v dd ps): ∃(xs:List I4) (L:Go.Sy.Loc),v=(SV.slc 0 0 xs.length).conc (λ_=>L)/\(∀x∈xs,uz4 x=true)/\BlkOK (λ_=>L) 0 (e4.old xs) w/\xs.length<=maxLen:=
 apG (E:=e4) Z N.1 (λY h=>ar7 at1 N.2 Y h) J V
def amK (P:Program) (t e:TypeId):Bool:=match P.cellTypes P.depth t with
 |some l=>l.length==5&&l[4]? ==some e
 |none=>false
theorem amk {b0':Nat} {dd:DataW H} {fs:Array Go.Field} {f0 f1 f2:Go.Field} (hu:P.underlying t=some (.struct fs)) (g0:fs.toList= [f0,f1,f2]) (hc:P.cellsOf t=5)
 (h0:f0.offset=0/\P.cellsOf f0.type=3/\QV P 9 f0.type=some [.int .i64, .int .i64, .int .i64]) (h1:f1.offset=3/\P.cellsOf f1.type=1/\QV P 9 f1.type=some [.int .i64]) (h2:f2.offset=4/\P.cellsOf f2.type=1/\P.underlying f2.type=some (.slice e))
 (he:P.cellsOf e=4/\QV P 9 e=some [.int .i64, .int .i64, .int .i64, .int .i64]) (ht:amK P t f2.type=true)
 (V:Value.okWide P w r b0' t v) (hd:DataW.Trod enc P w base (λ_=>true) held t v dd ps): ∃(c:Ca9) (L:Go.Sy.Loc),v=(al2 c.a c.b c.c c.k c.x.length).conc (λ_=>L)/\c.ok=true/\BlkOK (λ_=>L) 0 (e4.old c.x) w/\c.x.length<=maxLen:=by
 simp only[Value.okWide,hu] at V;obtain⟨cs,rfl,n0,ts,o0,_,N⟩:=V;have Z:ts.length=5/\ts[4]? =some f2.type:=by
  unfold amK at ht;rw[o0] at ht;simpa using ht
 obtain⟨p0,hf⟩:=hd;obtain⟨xs,m,_,_,hl,hn,e0⟩:=DataW.trod_struct hu hf;have hL:cs.toList.length=5:=by rw[Array.length_toList,n0,hc]
 have J: ∀(i:Nat) (f:Go.Field),fs.toList[i]? =some f-> ∃x,DataW.trod enc P w base (λ_=>true) held m f.type ((cs.toList.drop f.offset).take (P.cellsOf f.type))=some x:=λi f hi=>by
  have h1:=e0 i f (by rw[<-Array.getElem?_toList];exact hi);have i0:i<fs.toList.length:=(zaV.1 hi).1;rw[zaa (by simp at i0;omega)] at h1;exact⟨_,h1⟩
 rw[g0] at J;obtain⟨cs⟩:=cs;dsimp only at hL J N ⊢
 match cs,hL with
 | [c0,c1,c2,c3,c4],_=>
 obtain⟨x0,k0⟩:=J 0 f0 rfl;obtain⟨x1,k1⟩:=J 1 f1 rfl;obtain⟨⟨d2,p2⟩,k2⟩:=J 2 f2 rfl;rw[h0.1,h0.2.1] at k0;rw[h1.1,h1.2.1] at k1;rw[h2.1,h2.2.1] at k2;obtain⟨⟨a0,rfl,b0⟩,⟨a1,rfl,b1⟩,⟨a2,rfl,b2⟩,_⟩:=FB 9 h0.2.2 k0;obtain⟨⟨a3,rfl,b3⟩,_⟩:=FB 9 h1.2.2 k1;obtain⟨u,Y,m0⟩:=N 4 c4 rfl;rw[Z.1,Z.2] at Y;simp only[za1] at Y;subst Y;have v4:Value.okWide P w r b0' f2.type c4:=by simp only[Value.okWide,h2.2.2];exact m0
 obtain⟨a,l,n,rfl⟩:=okWide_slice h2.2.2 v4;obtain⟨xs,L,q,w1,B1,m1⟩:=apJ h2.2.2 he v4 ⟨m,k2⟩;refine⟨⟨a0,a1,a2,a3,xs⟩,L, ?_, ?_,B1,m1⟩
 ·rw[q];rfl
 ·unfold Ca9.ok;rw[u64 b0,u64 b1,u64 b2,u64 b3,zaf.2 w1];rfl
end
variable {β:Nat->Go.Sy.Loc} {w:World}
theorem aoA {L:Go.Sy.Loc} {i:Nat} {B:Blk} (h:BlkOK (λ_=>L) 0 B w) (Z:β i=L) (N: ∀e,e<B.n->SV.idss (B.get e)= []):BlkOK β i B w:=
 wD (i1:=0) h (by rw[Z]) rfl (za0 _) id (λh=> .inl h) λe V=>⟨rfl,λo s J=>⟨s,J,SV.conc_congr s λj Y=>by
  have:j∈SV.idss (B.get e):=SV.mem_idss.2 ⟨s,zal J,Y⟩
  rw[N e V] at this;cases this⟩⟩
variable {Bs:zdU}
theorem aoL (h: ∀(i:Nat) (B:Blk),Bs[i]? =some B->BlkOK β i B w/\B.kd= .old/\ ∀e,e<B.n->SV.idss (B.get e)= []):BC w (λi=>Bs[i]?) β w:=by
 have no: ∀{i:Nat} {C:Blk},Bs[i]? =some C->C.kd= .old:=λ{i C} J=>(h i C J).2.1;refine⟨Pres.refl _,λid C J _=>(h id C J).1,λid C J V=> ?_,λid C J _ hn=> ?_,λid id' C Z J Y V _ _ _ _=> ?_,λid C e o s J _ he hs=> ?_,⟨λid C J N=> ?_,λid id' C Z J Y N=> ?_,λid C e s J N=> ?_,λid C J N=> ?_⟩⟩
 ·rw[no J] at V;cases V
 ·refine⟨?_,rfl⟩;intro N;have:=(h id C J).1.lt hn;rcases N with N|N
  ·exact absurd this (Nat.not_lt.2 N)
  ·cases N
 ·rw[no J] at V;cases V
 ·intro i hi;have:i∈SV.idss (C.get e):=SV.mem_idss.2 ⟨s,zal hs,hi⟩;rw[(h id C J).2.2 e he] at this;cases this
 all_goals rw[no J] at N;cases N
theorem ao7 {p:Addr} {g:List (FuncId×Ctr)} (hg:GEk g) {gm:zdX} (hm:MEk p gm) {W:World} (V:GlobE p W) {ann:zdV} {n:Nat} {F:FuncId} {args:zdK} (J:BC W (λi=>Bs[i]?) β W) (hl: ∀s∈args,∀i∈s.ids,i<Bs.length) (h:XC p g gm ann n F args Bs (Go.Sy.okK λr _ _ _=>r=cB.enc true)):
 Calls Tryz.prog F (SV.concs β args).toArray W λe w'=>e= .returned (.bool true)/\Below W.heap.size W w':=by
 unfold XC at h
 obtain⟨_,Y⟩:=sU (ac9 hg hm (GlobEB.of V)) ann n F args (λi=>Bs[i]?) Bs.length [] _ β W h J (λi hi=>zad hi) (λs hs i hi=>by
  show Bs[i]? ≠none
  rw[zaa (hl s hs i hi)];simp)
 refine Calls.mono Y ?_;rintro e w' ⟨β',s,bl',a0,e0,Z,N,J,_⟩;cases s with
 |pan v=>exact N.elim
 |ok s=>
 obtain rfl:e=_:=Z;obtain rfl:s=_:=N;exact⟨rfl,J.below.below⟩
end Go.Proofs.YtojcellmcbnmeaaGreatDoor
namespace Go.Proofs.YtojcellmcbnmeaaGreatDoor
open Go.Proofs.Tryz
open Go Go.RowKit Go.Sy Yk
def aqg (I:EI->Prop) (N:Int):zdV:=λf k=>bif Nat.beq f 7&&Nat.beq k 3 then some (λA=>{X:=EI,inv:=I,tm:=λx=> [(6, .val (.int .i64 x.1)),(5, .slc A.nx 0 x.2.length)],gr:= [{src:= .slot 5,sz:=4,n:=λx=>x.2.length,get:=λx=>eI.get x.2}],cleanG:=λg hg x e=>(by simp at hg;subst hg;exact eI.ids _),mu:=λx=>(N - x.1).toNat,keep:= [0,1,4]}) else none
abbrev aqi (a:Addr) (I:EI->Prop) (N:Int) (xs:List I4) (n:Int) (Q:Nat->Nat->Blk->Prop):Prop:=XC a gI5 [] (aqg I N) 6 7 [.slc 0 0 xs.length,cI.enc n] [e4.old xs] (aoT Q)
def aqk (l:List Iv) (v:Iv):zdN:=ald (eI.get l) (λe=>((yl v).drop (e*4)).take 4) l.length 0
variable {v:Iv}
theorem aql {l:List Iv} {z:List Iv} (J:z=l++ [v]):af (Nat.beq 4 4&&decide (z.length<=l.length+1)) (∀e,e<z.length->aqk l v e=eI.get z e):=by
 subst J;have H:(l++ [v]).length=l.length+1:=by simp
 refine ac (by rw[H,zdp (za0 _)];rfl) λe N=> ?_;unfold aqk ald El.get El.nth;rw[aB];show _=yl (mb noI (l++ [v]) e);rw[aS];by_cases h:e<l.length
 ·rw[zdp h,if_neg (by omega)];rfl
 ·obtain rfl:e=l.length:=by omega
  rw[zds h,if_pos rfl,zaJ];rfl
def itK (xs:List I4) (n:Int):Prop:=tvE (.slc 0 0 xs.length)/\tvE (cI.enc n)/\tvE (.val (.slice none 0 0))/\True
def itM (q:Nat) (xs:List I4) (n i:Int) (m:Nat) (g:zdN) (z:EI):Prop:=(TV.v (cI.enc i)=TV.v (cI.enc z.1)/\TV.v (.slc q 0 m)=TV.v (.slc q 0 z.2.length)/\itK xs n)/\(True/\(True/\(af (Nat.beq 4 4&&decide (z.2.length<=m)) (∀e,e<z.2.length->g e=eI.get z.2 e)/\True)))
def itN (I:EI->Prop) (N:Int) (xs:List I4) (n:Int) (z:EI) (q:Nat) (y:I4):Prop:=
 af (uz4 y) (ako z.2.length (af (inR .i64 (z.1+1)) (∃H:EI,I H/\((N - H.1).toNat<(N - z.1).toNat/\itM q xs n (z.1+1) (z.2.length+1) (aqk z.2 (apD y)) H))))
def itT (I:EI->Prop) (N:Int) (xs:List I4) (n:Int) (Q:Nat->Nat->Blk->Prop):Prop:=
 ∃H:EI,I H/\(((TV.v (cI.enc 0)=TV.v (cI.enc H.1)/\TV.v (.val (.slice none 0 0))=TV.v (.val (.slice none H.2.length 0))/\itK xs n)/\(True/\(True/\(H.2.length=0/\True))))/\
  ∀z:EI,I z->ag (decide (z.1<n)) (ag (decide (z.1<(xs.length:Int))) (eO xs.length z.1 (itN I N xs n z 24 (e4.nth xs (0+z.1.toNat)))) (itN I N xs n z 19 (0,0,0,0)))
   (Q 4 z.2.length {n:=z.2.length,sz:=4,get:=eI.get z.2,kd:= .own,nn:=false}))
theorem arh (a:Addr) (I:EI->Prop) (N:Int) (xs:List I4) (n:Int) (Q:Nat->Nat->Blk->Prop):aqi a I N xs n Q=itT I N xs n Q:=by kernel_rfl
def axU:zdX:= [(35,atV)]
abbrev PwE:=Int×Iv×Int
def axV (A:AS):Iv:=match A.tm 10 with
 | .v (.slc i _ _)=>match A.bl i,Bh A (kA A 12) 24 with
   |some B, .val (.int _ l)=>akl (B.get (0+l.toNat))
   |_,_=>noI
 |_=>noI
def ax4 (A:AS):Int:=match Bh A (kA A 12) 23 with
 | .val (.int _ n)=>n
 |_=>0
def axs (H:Int->Prop) (V:Int) (I:EI->Prop) (N:Int) (J:Iv->Int->PwE->Prop):zdV:=λf k=>bif Nat.beq f 9 then(
 bif Nat.beq k 4 then some (λA=>{X:=Int,inv:=H,tm:=λi=> [(8, .val (.int .i64 i))],mu:=λi=>(V - i).toNat,keep:= [1,2,3,6]})
 else bif Nat.beq k 11 then some (λA=>{X:=EI,inv:=I,tm:=λx=> [(11, .val (.int .i64 x.1)),(10, .slc A.nx 0 x.2.length)],gr:= [{src:= .slot 10,sz:=4,n:=λx=>x.2.length,get:=λx=>eI.get x.2}],cleanG:=λg hg x e=>(by simp at hg;subst hg;exact eI.ids _),mu:=λx=>(N - x.1).toNat,keep:= [1,2,3,6]})
 else bif Nat.beq k 30 then some (λA=>{X:=PwE,inv:=J (axV A) (ax4 A),tm:=λx=> [(15, .val (.int .i64 x.1)),(14, .val (.int .i64 x.2.2))],st:= [(kA A 13,λx=>yl x.2.1)],mu:=λx=>(4 - x.1).toNat,keep:= [1,2,3,6,10,11,12,13]})
 else none) else none
def reS (ni:Nat) (H:Int):Prop:=tvE (.slc 2 0 ni)/\tvE (cI.enc H)/\cg 3/\cg 4/\True
def reM (q ni:Nat) (H p:Int) (n:Nat) (us:zdN) (z:EI):Prop:=(TV.v (cI.enc p)=TV.v (cI.enc z.1)/\TV.v (.slc q 0 n)=TV.v (.slc q 0 z.2.length)/\reS ni H)/\(True/\(True/\(af (Nat.beq 4 4&&decide (z.2.length<=n)) (∀e,e<z.2.length->us e=eI.get z.2 e)/\True)))
def reN (I:EI->Prop) (N J:Int) (q ni:Nat) (i:Int) (vs:List Iv) (H:Prop) (v:Iv):Prop:=af (uzI v) (ap9 (aeA v J) H λw=>ako vs.length (af (inR .i64 (i+1)) (∃z:EI,I z/\((N - z.1).toNat<(N - i).toNat/\reM q ni J (i+1) (vs.length+1) (aqk vs w) z))))
def axI (ni:Nat) (H i:Int) (n:Nat) (k:Int) (v:Iv) (e:Int) (z:PwE):Prop:=
 (TV.v (cI.enc k)=TV.v (cI.enc z.1)/\TV.v (cI.enc e)=TV.v (cI.enc z.2.2)/\tvE (.slc 2 0 ni)/\tvE (cI.enc H)/\cg 3/\cg 4/\tvE (.slc 23 0 n)/\tvE (cI.enc i)/\cg 34/\cg 39/\True)/\(True/\((yl v=yl z.2.1/\True)/\True))
def axW (J:Iv->Int->PwE->Prop) (ni:Nat) (V i:Int) (vs:List Iv) (x:Nd) (H:Prop) (Z K2:Iv->Prop):Prop:=
 ∃Y:PwE,J (mb noI vs (0+x.l.toNat)) x.n Y/\(axI ni V i vs.length 0 (ptI rI) 0 Y/\ ∀z:PwE,J (mb noI vs (0+x.l.toNat)) x.n z->af (inR .i64 (-x.n)) (ag (bif decide (z.1<jH x.n) then z.2.2==0 else false)
  (eO vs.length x.l (af (uzI z.2.1&&uzI (mb noI vs (0+x.l.toNat))) (af (inR .i64 (z.1+1)) (∃N:PwE,J (mb noI vs (0+x.l.toNat)) x.n N/\((4 - N.1).toNat<(4 - z.1).toNat/\axI ni V i vs.length (z.1+1) (adC z.2.1 (mb noI vs (0+x.l.toNat))).1 (adC z.2.1 (mb noI vs (0+x.l.toNat))).2 N)))))
  (ag (bif decide (x.n<0) then z.2.2==0 else false) (af (uzI (ptI rI)&&uzI z.2.1) (ap9 (ac7 (ptI rI) z.2.1) H Z)) (ag (z.2.2 !=0) H (K2 z.2.1)))))
def reP (I:EI->Prop) (N:Int) (J:Iv->Int->PwE->Prop) (Y:Int) (V:List Iv) (i:Int) (vs:List Iv) (x:Nd) (H:Prop):Prop:=
 af (uzR x.v) (
 ag (x.op==2) (eO V.length x.n (reN I N Y 67 V.length i vs H (mb noI V (0+x.n.toNat)))) (
 ag (x.op==3) (apW vs x agy H (reN I N Y 79 V.length i vs H)) (
 ag (x.op==4) (apW vs x agz H (reN I N Y 81 V.length i vs H)) (
 ag (x.op==5) (apW vs x adC H (reN I N Y 83 V.length i vs H)) (
 ag (x.op==6) (apW vs x ac7 H (reN I N Y 85 V.length i vs H)) (
 ag (x.op==7) (axW J V.length Y i vs x H (reN I N Y 100 V.length i vs H) (reN I N Y 96 V.length i vs H)) (
 ag (x.op==8) (eO vs.length x.l (af (uzI (mb noI vs (0+x.l.toNat))) (ap9 (sqF (mb noI vs (0+x.l.toNat)) Y) H (reN I N Y 85 V.length i vs H)))) (reN I N Y 73 V.length i vs H (ptI x.v)))))))))
def axJ (ni:Nat) (H i z:Int):Prop:=(TV.v (cI.enc i)=TV.v (cI.enc z)/\reS ni H)/\(True/\(True/\True))
def reT (Z:Int->Prop) (N0:Int) (I:EI->Prop) (N:Int) (J:Iv->Int->PwE->Prop) (p:Pr) (H:List Iv) (V:Int) (Q:zdR):Prop:=
 n8 (jn p) (ag (bif !VM (dm p) then true else((H.length:Int) !=(p.inp.length:Int))) (Q agO) (
 ∃y0:Int,Z y0/\(axJ H.length V 0 y0/\ ∀y:Int,Z y->ag (decide (y<(H.length:Int)))
  (eO H.length y (af (uzI (mb noI H (0+y.toNat))) (ag (!vI (mb noI H (0+y.toNat))) (Q agO) (af (inR .i64 (y+1)) (∃y':Int,Z y'/\((N0 - y').toNat<(N0 - y).toNat/\axJ H.length V (y+1) y'))))))
  (∃Y:EI,I Y/\(((TV.v (cI.enc 0)=TV.v (cI.enc Y.1)/\TV.v (.val (.slice none 0 0))=TV.v (.val (.slice none Y.2.length 0))/\reS H.length V)/\(True/\(True/\(Y.2.length=0/\True))))/\
    ∀z:EI,I z->ag (decide (z.1<(p.nod.length:Int)))
     (eO p.nod.length z.1 (reP I N J V H z.1 z.2 (mb noN p.nod (0+z.1.toNat)) (Q agO)))
     (af (inR .i64 ((z.2.length:Int) - 1)) (eO z.2.length ((z.2.length:Int) - 1) (Q (.tup [.agg (yl (mb noI z.2 (0+((z.2.length:Int) - 1).toNat))), .val (.int .i64 0)])))))))))
abbrev axt (a:Addr) (V:Int->Prop) (Y:Int) (I:EI->Prop) (N:Int) (J:Iv->Int->PwE->Prop) (p:Pr) (H:List Iv) (Z:Int) (Q:zdR):Prop:=XC a gR5 axU (axs V Y I N J) 6 9 [kB p, .slc 2 0 H.length,cI.enc Z] [eU.old p.inp,eN.old p.nod,eI.old H] (Go.Sy.okK λr _ _ _=>Q r)
theorem axX (a:Addr) (V:Int->Prop) (Y:Int) (I:EI->Prop) (N:Int) (J:Iv->Int->PwE->Prop) (p:Pr) (H:List Iv) (Z:Int) (Q:zdR):axt a V Y I N J p H Z Q=reT V Y I N J p H Z Q:=by kernel_rfl
variable {q ni:Nat} {pl:Int}
theorem axK {p:Int} {us:List Iv} {w:Iv}:reM q ni pl p (us.length+1) (aqk us w) (p,us++ [w]):=⟨⟨rfl,by simp,rfl,rfl,rfl,rfl,trivial⟩,trivial,trivial,aql rfl,trivial⟩
theorem awS (a b:Iv):uzI (adC a b).1=true:=by
 cases h:(adC a b).2==0 with
 |true=>exact afo (Prod.ext rfl (by simpa using h))
 |false=>
  unfold adC ae6 at h ⊢;cases h1:vI a&&vI b with
  |false=>rw[zdq];decide
  |true=>
   rw[h1] at h;cases h2:(ale a.1 b.1).2==0&&(ale a.1 b.2).2==0&&(ale a.2 b.1).2==0&&(ale a.2 b.2).2==0 with
   |false=>rw[zdr,zdq];decide
   |true=>rw[h2] at h;cases h
def awT (b:Iv) (n:Int) (z:PwE):Prop:=0<=z.1/\z.1<=jH n/\uzI z.2.1=true/\(bif z.2.2==0 then th b z.1.toNat=some z.2.1 else th b (jH n).toNat=none)
variable {i:Int} {n:Nat}
theorem awg {k e:Int} :axI ni pl i n k v e (k,v,e):=⟨⟨rfl,rfl,rfl,rfl,rfl,rfl,rfl,rfl,rfl,rfl,trivial⟩,trivial,⟨rfl,trivial⟩,trivial⟩
theorem awb {b:Iv} {k:Nat} (h:th b k=none): ∀m,th b (k+m)=none
 |0=>h
 |m+1=>by rw[<-zbr,th,awb h m]
variable {r:Iv×Int}
theorem axk (h:(r.2==0)=false):okI r=none:=by
 unfold okI;rw[bne,h];rfl
theorem awU (h:(r.2==0)=true):okI r=some r.1:=by
 unfold okI;rw[bne,h];rfl
variable {ins:List Iv}
theorem axL {I:EI->Prop} {N:Int} {vs:List Iv} {x:Nd} {bad:Prop} (hx:NodeOK ni vs.length x) (g0:ins.length=ni) (hi: ∀u∈ins,uzI u=true) (hv: ∀u∈vs,uzI u=true) (e0:uzR x.v=true) (hb:ack (sqP pl) ins vs x=none->bad) (hs: ∀q v,uzI v=true->ack (sqP pl) ins vs x=some v->reN I N pl q ins.length i vs bad v):reP I N awT pl ins i vs x bad:=by
 obtain⟨o1,o2⟩:=hx.op;have two: ∀{f:Iv->Iv->Iv×Int} {q:Nat},3<=x.op->x.op<=6->(∀{a b v:Iv},f a b=(v,0)->uzI v=true)->ack (sqP pl) ins vs x=okI (f (mb noI vs x.l.toNat) (mb noI vs x.r.toNat))->apW vs x f bad (reN I N pl q ins.length i vs bad):=λ{f q} a b uz e=>by
  have hl:=hx.left a;have hr:=hx.right a b;unfold apW;rw[za7,za7];exact aY hl.1 hl.2 (aY hr.1 hr.2 (ac (by rw[acL hv,acL hv];rfl) (apn (λk=>hb (e.trans k)) λv k k'=>hs q v (uz k') (e.trans k))))
 have n1: ∀{k:Int},k≠1->x.op=k->(x.op==1)=false:=λ{k} h e=>zdw (by omega);unfold reP;refine ac e0 (ce (λJ=> ?_) (λJ=>ce (λV=> ?_) (λV=>ce (λe4=> ?_) (λe4=>ce (λY=> ?_) (λY=>ce (λZ=> ?_) (λZ=>ce (λe7=> ?_) (λe7=>ce (λe8=> ?_) (λe8=> ?_))))))))
 ·have h:=hx.inp (int_eq.1 J);rw[za7];exact aY h.1 (by omega) (hs _ _ (acL hi _) (by unfold ack;rw[n1 (by decide) (int_eq.1 J),J];rfl))
 ·exact two (by rw[int_eq.1 V];decide) (by rw[int_eq.1 V];decide) ah6 (by unfold ack;rw[n1 (by decide) (int_eq.1 V),J,V];rfl)
 ·exact two (by rw[int_eq.1 e4];decide) (by rw[int_eq.1 e4];decide) ah7 (by unfold ack;rw[n1 (by decide) (int_eq.1 e4),J,V,e4];rfl)
 ·exact two (by rw[int_eq.1 Y];decide) (by rw[int_eq.1 Y];decide) afo (by unfold ack;rw[n1 (by decide) (int_eq.1 Y),J,V,e4,Y];rfl)
 ·exact two (by rw[int_eq.1 Z];decide) (by rw[int_eq.1 Z];decide) afp (by unfold ack;rw[n1 (by decide) (int_eq.1 Z),J,V,e4,Y,Z];rfl)
 ·have hp:=hx.pow (int_eq.1 e7);have hl:=hx.left (by rw[int_eq.1 e7];decide)
  have e:ack (sqP pl) ins vs x=(match th (mb noI vs x.l.toNat) (jH x.n).toNat with
   |some v=>bif decide (x.n<0) then okI (ac7 (ptI rI) v) else some v
   |none=>none):=by unfold ack;rw[n1 (by decide) (int_eq.1 e7),J,V,e4,Y,Z,e7];rfl
  have hm:0<=jH x.n/\jH x.n<=4:=by unfold jH;split<;>omega
  unfold axW;rw[za7];refine⟨(0,ptI rI,0),⟨zat _,hm.1,by show uzI (ptI rI)=true;decide,rfl⟩,awg, ?_⟩;rintro⟨k,v,c⟩ ⟨k0,k1,k2,k3⟩;dsimp only at k0 k1 k2 k3 ⊢;have a0:=acL hv x.l.toNat;generalize mb noI vs x.l.toNat=b at e k3 a0 ⊢;refine ac (VP.2 (by omega)) (ce (λhk=> ?_) (λhk=> ?_))
  ·cases hd:decide (k<jH x.n) with
   |false=>rw[hd] at hk;cases hk
   |true=>
   rw[hd,zdr] at hk;rw[hk,zdr] at k3;have hd:=zdu hd;refine aY hl.1 hl.2 (ac (by rw[k2,a0];rfl) (ac (VP.2 (by omega)) ⟨(k+1,(adC v b).1,(adC v b).2),⟨by show 0<=k+1;omega,by show k+1<=_;omega,awS _ _, ?_⟩,by show (_:Nat)<_;omega,awg⟩));show bif (adC v b).2==0 then th b (k+1).toNat=some (adC v b).1 else _
   have H:th b (k.toNat+1)=okI (adC v b):=by rw[th,k3]
   cases hc:(adC v b).2==0 with
   |true=>rw[zdr,show (k+1).toNat=k.toNat+1 by omega,H,awU hc]
   |false=>
    rw[zdq,show (jH x.n).toNat=k.toNat+1+((jH x.n).toNat - (k.toNat+1)) by omega];exact awb (H.trans (axk hc)) _
  ·cases hc:c==0 with
   |true=>
    rw[hc,zdr] at k3;have hd: ¬k<jH x.n:=λh=>by rw[zdp h,zdr,hc] at hk;cases hk
    rw[show k.toNat=(jH x.n).toNat by omega] at k3;rw[k3] at e;refine ce (λH=> ?_) (λH=> ?_)
    ·cases hg:decide (x.n<0) with
     |false=>rw[hg] at H;cases H
     |true=>
      rw[hg] at e;exact ac (by rw[k2];decide) (apn (λh=>hb (e.trans h)) λw h h'=>hs _ _ (afp h') (e.trans h))
    ·cases hg:decide (x.n<0) with
     |true=>rw[hg,zdr] at H;cases H
     |false=>
      rw[hg] at e;exact ce (λh=>by rw[bne,hc] at h;cases h) λ_=>hs _ _ k2 e
   |false=>
    rw[hc,zdq] at k3;rw[k3] at e;refine ce (λH=> ?_) (λH=>ce (λ_=>hb e) (λh=>by rw[bne,hc] at h;cases h));cases hg:decide (x.n<0)<;>rw[hg] at H<;>cases H
 ·have hl:=hx.left (by rw[int_eq.1 e8];decide);have e:ack (sqP pl) ins vs x=okI (sqF (mb noI vs x.l.toNat) pl):=by unfold ack;rw[n1 (by decide) (int_eq.1 e8),J,V,e4,Y,Z,e7,e8];rfl
  rw[za7];exact aY hl.1 hl.2 (ac (acL hv _) (apn (λk=>hb (e.trans k)) λv k k'=>hs _ v (avv k') (e.trans k)))
 ·have:x.op=1:=by
   simp only[zdx,ne_eq] at J V e4 Y Z e7 e8;omega
  exact hs _ _ (ajo e0) (by unfold ack;rw[this];rfl)
theorem awh:axJ ni pl i i:=⟨⟨rfl,rfl,rfl,rfl,rfl,trivial⟩,trivial,trivial,trivial⟩
def axY (H:List Iv) (z:Int):Prop:=0<=z/\z<=H.length/\(H.take z.toNat).all vI=true
variable {p:Pr} {Q:zdR}
theorem awV (g0:aci p=true) (h6:p.inp.length<=1000000) (h7:p.nod.length<=1000000) (hi: ∀u∈ins,uzI u=true) (h8:ins.length<=1000000)
 (hQ:Q (.tup [.agg (yl (dR p ins pl).1), .val (.int .i64 (dR p ins pl).2)])):reT (axY ins) ins.length (avn pl ins p.nod) p.nod.length awT p ins pl Q:=by
 have H:=g0;unfold aci at H;simp only[za2,zaf] at H;obtain⟨⟨si,sn⟩,so⟩:=H;have Y:dR p ins pl=(noI,90)->Q agO:=λh=>by rw[h] at hQ;exact hQ
 unfold reT n8;refine ac (eY g0 h6 h7) λ_ _=> ?_;rw[fN];refine ce (λh=>Y ?_) (λh=> ?_)
 ·unfold dR ah5;cases hv:VM p with
  |false=>rfl
  |true=>
   rw[hv] at h;have:(ins.length !=p.inp.length)=true:=by simp at h ⊢;omega
   rw[this];rfl
 cases hv:VM p with
 |false=>rw[hv] at h;cases h
 |true=>
 rw[hv] at h;have hl:ins.length=p.inp.length:=by simp at h;omega
 refine⟨0,⟨zat _,by omega,rfl⟩,awh, ?_⟩;rintro y ⟨y0,y1,y2⟩;refine ce (λhy=> ?_) (λhy=> ?_)
 ·have hy:=zdu hy;rw[za7];have hm:=bw (d:=noI) (l:=ins) (e:=y.toNat) (by omega);refine aY y0 hy (ac (acL hi _) (ce (λhk=>Y ?_) (λhk=>ac (VP.2 (by omega)) ⟨y+1,⟨by omega,by omega, ?_⟩,by omega,awh⟩)))
  ·unfold dR ah5;have:ins.all vI=false:=Bool.eq_false_iff.2 λh=>by
    rw[zaf.1 h _ hm] at hk;cases hk
   rw[this,zbg,Bool.or_true];rfl
  ·rw[show (y+1).toNat=y.toNat+1 by omega,zc1,Co (d:=noI) (by omega),List.all_append,y2];simpa using hk
 ·have hy:=zdv hy;rw[show y.toNat=ins.length by omega,List.take_length] at y2;obtain⟨a0,e0⟩:=bQ hv;have hc:dR p ins pl=match alE (sqP pl) pl ins p.nod [] with
   |some vs=>(agP vs,0)
   |none=>(noI,90):=by unfold dR ah5;rw[hv,y2,hl];first|(simp;rfl)|simp
  have hb:=Wb.1 a0;refine⟨(0, []),⟨zat _,by show (0:Int)<=_;omega,rfl,λu h=>(by cases h),rfl⟩,⟨⟨rfl,rfl,rfl,rfl,rfl,rfl,trivial⟩,trivial,trivial,rfl,trivial⟩, ?_⟩;rintro⟨i,vs⟩ ⟨k0,k1,k2,k3,J⟩;simp only at k0 k1 k2 k3 J;dsimp only;refine ce (λhz=> ?_) (λhz=> ?_)
  ·have hz:i<(p.nod.length:Int):=zdu hz;rw[za7];have hd:=atR (d:=noN) k0 hz;have hx:=e0 i.toNat (by omega);have Z:=sn _ (bw (d:=noN) (l:=p.nod) (e:=i.toNat) (by omega));have n0:uzR (mb noN p.nod i.toNat).v=true:=by
    unfold szN at Z;rw[za2] at Z;exact Z.1
   rw[hd,alE] at J
   have N:ajn pl (ack (sqP pl) ins vs (mb noN p.nod i.toNat))=none->Q agO:=λe=>Y (by
    rw[e] at J
    rw[hc,show alE (sqP pl) pl ins p.nod []=none from J])
   refine aY k0 hz (axL (by rw[k2];exact hx) hl hi k3 n0 (λe=>N (by rw[e];rfl)) (λq v m0 V=>ac m0 (apn (λe=>N (by rw[V];exact e)) λw hr i0=> ?_)));rw[V,show ajn pl (some v)=some w from hr] at J;replace J:alE (sqP pl) pl ins p.nod []=alE (sqP pl) pl ins (p.nod.drop (i+1).toNat) (vs++ [w]):=J;refine ah9 (by omega) (ac (VP.2 (by omega)) ⟨(i+1,vs++ [w]),⟨by show 0<=i+1;omega,by show i+1<=_;omega,by simp only[za3,za6];omega, ?_,J⟩,by show (_:Nat)<_;omega,axK⟩);exact atS k3 (ah8 i0)
  ·have hz: ¬i<(p.nod.length:Int):=zdv hz;rw[show i.toNat=p.nod.length by omega,zbj,alE] at J;rw[J] at hc;replace hc:dR p ins pl=(agP vs,0):=hc;rw[hc] at hQ;refine ac (VP.2 (by omega)) (aY (by omega) (by omega) ?_);rw[show (0+((vs.length:Int) - 1).toNat)=vs.length - 1 by omega];exact hQ
variable {a:Addr}
theorem axl:MEk a axU:=MEk.nil.cons λB hB=>arN B hB.gU
theorem awW: ∀B:Base,GlobEB a B->VU prog B 9 auL:=agE axT axl λbl nx args C J hp=>by
 unfold auL at J;split at J
 ·rename_i s t N;split at J
  ·rename_i a b o n c V Z;simp only[za1] at J;subst J;simp only[za2] at hp;obtain⟨⟨⟨hp,rfl⟩,Y⟩,H⟩:=hp;obtain⟨s1,s2,s3,s4,s5,s6⟩:=eX (f:=rnF [a.o1,a.o2,o] [] nx) V hp rfl rfl;obtain⟨t1,t2⟩:=cq (f:=rnF [a.o1,a.o2,o] [] nx) Z H;refine⟨[a.o1,a.o2,o], [eU.old a.p.inp,eN.old a.p.nod,eI.old (eI.list n c)], [kB a.p, .slc 2 0 (eI.list n c).length,cI.enc N],axs (axY (eI.list n c)) (eI.list n c).length (avn N (eI.list n c) a.p.nod) a.p.nod.length awT,6,aw s1 (aw s2 (aw t1 trivial)),bH (by simp[cN,El.old]),cd (by simp[El.old,BK.map]),ar s3 (ar (t2 2 rfl) rfl), ?_⟩;refine kbE () trivial rfl (r:= .tup [.agg (yl (dR a.p (eI.list n c) N).1), .val (.int .i64 (dR a.p (eI.list n c) N).2)]) rfl rfl rfl rfl (by simp[cN,El.old]) rfl ?_;have e:=axX;unfold axt at e;rw[e];exact awV s4 s5 s6 (El.good_list H) (by rw[El.list_length];exact zak Y) rfl
  ·cases J
 ·cases J
theorem apm {α:Type} {d:α}: ∀{l:List α} {e:Nat},l.length<=e->mb d l e=d
 | [],e,_=>rfl
 |x::r,0,h=>by simp at h
 |x::r,e+1,h=>apm (l:=r) (by simpa using h)
def itI (xs:List I4) (n:Int) (z:EI):Prop:=0<=z.1/\z.1<=n/\z.2=bt xs z.1.toNat
variable {xs:List I4}
theorem aqm {n:Int} {z:EI} {y:I4} (h:itI xs n z) (V:z.1<n) (N:n<=1000000) (H:uz4 y=true) (e:y=mb (0,0,0,0) xs z.1.toNat):itN (itI xs n) n xs n z q y:=by
 obtain⟨h0,h1,h2⟩:=h;have J:z.2.length=z.1.toNat:=by rw[h2];exact fJ _ _
 have e1:(z.1+1).toNat=z.1.toNat+1:=by omega
 refine ac H (ah9 (by omega) (ac (VP.2 (by omega)) ⟨(z.1+1,z.2++ [apD y]),⟨by show 0<=z.1+1;omega,by show z.1+1<=n;omega, ?_⟩,by show (_:Nat)<_;dsimp only;omega,⟨⟨rfl,by simp,rfl,rfl,rfl,trivial⟩,trivial,trivial,aql rfl,trivial⟩⟩));show z.2++ [apD y]=bt xs (z.1+1).toNat;rw[e1,h2,e];rfl
theorem ap0 {n:Int} {Q:Nat->Nat->Blk->Prop} (h0:0<=n) (Y:n<=1000000) (Z: ∀x∈xs,uz4 x=true) (k:Q 4 n.toNat (eI.own (bt xs n.toNat))):itT (itI xs n) n xs n Q:=by
 refine⟨(0, []),⟨zat _,h0,rfl⟩,⟨⟨rfl,rfl,rfl,rfl,rfl,trivial⟩,trivial,trivial,rfl,trivial⟩, ?_⟩;rintro⟨i,l⟩ N;have h:=N;obtain⟨k0,k1,k2⟩:=h;dsimp only at k0 k1 k2 ⊢;refine ce (λH=>ce (λJ=> ?_) (λJ=> ?_)) (λH=> ?_)
 ·have H:=zdu H;have J:=zdu J;refine aY k0 J (aqm N H Y ?_ ?_)
  ·exact Z _ (bw (by omega))
  ·show mb (0,0,0,0) xs (0+i.toNat)=_;rw[za7]
 ·have H:=zdu H;have J:=zdv J;exact aqm N H Y (by decide) (apm (by omega)).symm
 ·have H:=zdv H;obtain rfl:i=n:=by omega
  have e:l=bt xs i.toNat:=k2;subst e;have V:(bt xs i.toNat).length=i.toNat:=fJ _ _;have:({n:=(bt xs i.toNat).length,sz:=4,get:=eI.get (bt xs i.toNat),kd:= .own,nn:=false}:Blk)=eI.own (bt xs i.toNat):=rfl;rw[this,V];exact k
def yr:List FuncId:=NK++aeE
theorem vT: ∀f∈yr,V0 prog f:=λf h=>by
 unfold yr at h;rcases za8.1 h with h|h
 ·exact Lj f h
 ·exact ae8 f h
def g9n:List (FuncId×Ctr):=(68,k1 cI cS cl ofI)::(280,k2 cS cS (cP3 cS cS cB) (λs _=>decide (s.size<=1000000)) abn)::gFR
theorem aiL:GEk g9n:=(avm.cons (λa W H=>abS H.1) call280).cons (λa W H=>ahz H.1) call68
def adI:MCtr:=λ_ _ args=>match args with
 | [.val (.string s)]=>bif abR s then some {X:=Unit,pre:=decide (s.size<=1000000),spec:=λ_=>True,out:=λ_=> .tup [.val (.int .i64 (ab0 s)), .val .nilIface],ex:=λ_=>⟨(),trivial⟩} else none
 |_=>none
variable {B:Base}
theorem adu (hB:GlobB B):VU prog B 149 adI:=by
 intro bl β w nx args C' a b c d e p;unfold adI at e;split at e
 ·rename_i s;cases J:abR s with
  |false=>rw[J] at e;cases e
  |true=>
   rw[J] at e;simp only[zdr,za1] at e;subst e;refine Calls.mono (agA hB bl β w nx [.val (.string s)] _ a b c d rfl p) ?_;rintro e w' ⟨x,H,β',N,V,Y,Z⟩;have H:abJ s x:=H;unfold abJ at H;rw[J] at H;obtain rfl:x=_:=H;exact⟨(),trivial,β',N,V,Y,Z⟩
 ·cases e
def agU:zdX:= [(18,pN),(11,xi),(13,zm),(8,au0),(148,abt),(73,abV),(149,adI)]
theorem aif:MEk a agU:=by
 unfold agU;exact((((((MEk.nil.cons λB hB=>adu hB.gU).cons λB hB=>adm hB.gU).cons λB hB=>abG).cons auN).cons λB hB=>tP B hB.gU).cons λB hB=>vM B hB.gU).cons λB hB=>lZ B hB.gU
@[irreducible] def Xk (a:Addr) (ann:zdV) (n:Nat) (f:FuncId) (args:zdK) (Cs:zdU) (K:Aft):Prop:=
 Ay prog (iR yr) (gw g9n) (gx agU) (dF a) ann n f args (λi=>Cs[i]?) Cs.length [] K
theorem ak2 (hB:GlobEB a B):HypD prog B (iR yr) (gw g9n) (gx agU) (dF a):=
 have h:=ac9 (gm:=agU) aiL aif hB
 ⟨h.gam,h.mem,h.dem,λf H=>by
   unfold iR at H;simp only[zaP] at H;obtain⟨g,hg,J⟩:=H
   rw[zab J];exact vT g hg,h.mixed⟩
def opW:Nat->zdH
 |0=>⟨#[99,111,110,115,116]⟩
 |1=>⟨#[105,110,112,117,116]⟩
 |2=>⟨#[97,100,100]⟩
 |3=>⟨#[115,117,98]⟩
 |4=>⟨#[109,117,108]⟩
 |5=>⟨#[100,105,118]⟩
 |6=>⟨#[112,111,119]⟩
 |_=>⟨#[115,113,114,116]⟩
def opN (w:zdH):Nat->Int
 |0=>0
 |k+1=>bif seq (opW k) w then(k:Int)+1 else opN w k
def aiM (A:AS) (t:Nat):zdH:=match A.tm t with
 | .v (.val (.string s))=>s
 |_=>⟨#[]⟩
abbrev WdX:=Int×(zdQ)
def acD (f:zdQ):Nat->Nat
 |0=>0
 |k+1=>acD f k+(f k).toNat
def ak3 (I:ByteArray->WdX->Prop):zdV:=λf k=>bif Nat.beq f 218&&Nat.beq k 10 then some (λA=>{X:=WdX,inv:=I (aiM A 5),tm:=λ_=> [],bk:= [(kA A 79,λx e=>match e with|0=> []|e+1=> [.val (.bool (x.2 e))])],st:= [(kA A 10,λx=> .val (.int .i64 x.1)::(qv A 10 0).drop 1)],mu:=λx=>acD x.2 8,keep:= [0,1,4,5,6,7,10,79],clean:=by intro p hp x e;simp at hp;subst hp;cases e<;>rfl,fix:= [(kA A 10,0,0, .val (.int .i64 (opN (aiM A 5) 8)))]}) else none
def orA (a b:zdV):zdV:=λf k=>match a f k with
 |some x=>some x
 |none=>b f k
def alF (I:ByteArray->WdX->Prop):zdV:=orA (afZ 15) (orA (afZ 70) (orA (afZ 4) (ak3 I)))
def u0:Un:=aT 0
def u2:Un:=aT 2
def uo:Un:=(fd u0 u2).1
def nI9 (n:Int):Nd:=⟨2,VI,noU,n,0,0⟩
def nD9:Nd:=⟨6,VI,noU,0,0,1⟩
def spP:Pr:=⟨1, [u0,u2], [nI9 0,nI9 1,nD9],uo⟩
def bdK (K:Prop):Prop:=ahr prog bdS/\K
def uK (K:Prop):Prop:=Unit->True->K
def spT:zdH:=⟨#[112,114,111,99,101,100,117,114,101,32,49,10,103,105,118,101,110,32,100,105,102,102,101,114,101,110,99,101,32,107,105,110,100,32,48,32,102,97,99,116,111,114,32,49,32,111,102,102,115,101,116,32,48,32,109,94,49,10,103,105,118,101,110,32,100,105,102,102,101,114,101,110,99,101,32,107,105,110,100,32,48,32,102,97,99,116,111,114,32,49,32,111,102,102,115,101,116,32,48,32,115,94,49,10,105,110,112,117,116,32,48,10,105,110,112,117,116,32,49,10,100,105,118,32,48,32,49,10,111,117,116,112,117,116,32,100,105,102,102,101,114,101,110,99,101,32,107,105,110,100,32,48,32,102,97,99,116,111,114,32,49,32,111,102,102,115,101,116,32,48,32,109,94,49,32,115,94,45,49,10]⟩
def afq (Q:zdR):Prop:=af (jn spP) (uK (bdK (bdK (uK (bdK (uK (bdK (bdK (bdK (bdK (uK (bdK (bdK (Q (.tup [.val (.string spT), .val (.int .i64 0)])))))))))))))))
theorem af0 (a:Addr) (I:ByteArray->WdX->Prop) (Q:zdR):Xk a (alF I) 9 15 [kB spP] [eU.old spP.inp,eN.old spP.nod] (Go.Sy.okK λr _ _ _=>Q r)=afq Q:=by kernel_rfl
def zA9:zdH:=⟨#[112,114,111,99,101,100,117,114,101,32,49,10]⟩
def ajE:zdH:=⟨#[111,117,116,112,117,116,32,100,105,102,102,101,114,101,110,99,101,32,107,105,110,100,32,48,32,102,97,99,116,111,114,32,49,32,111,102,102,115,101,116,32,48,32,109,94,49,32,115,94,45,49]⟩
def avF:zdH:=⟨#[100,105,102,102,101,114,101,110,99,101,32,107,105,110,100,32,48,32,102,97,99,116,111,114,32,49,32,111,102,102,115,101,116,32,48,32,109,94,49,32,115,94,45,49]⟩
abbrev ajp:=ByteArray×ByteArray×List ByteArray
abbrev ajq:=ByteArray×ByteArray×(ByteArray×ByteArray×Bool)
def tabS:List ajp:= [(spT,⟨#[10]⟩, [⟨#[112,114,111,99,101,100,117,114,101,32,49]⟩,⟨#[103,105,118,101,110,32,100,105,102,102,101,114,101,110,99,101,32,107,105,110,100,32,48,32,102,97,99,116,111,114,32,49,32,111,102,102,115,101,116,32,48,32,109,94,49]⟩,⟨#[103,105,118,101,110,32,100,105,102,102,101,114,101,110,99,101,32,107,105,110,100,32,48,32,102,97,99,116,111,114,32,49,32,111,102,102,115,101,116,32,48,32,115,94,49]⟩,⟨#[105,110,112,117,116,32,48]⟩,⟨#[105,110,112,117,116,32,49]⟩,⟨#[100,105,118,32,48,32,49]⟩,ajE,⟨#[]⟩]),
 (⟨#[112,114,111,99,101,100,117,114,101,32,49,10]⟩,⟨#[10]⟩, [⟨#[112,114,111,99,101,100,117,114,101,32,49]⟩,⟨#[]⟩]),
 (⟨#[100,105,102,102,101,114,101,110,99,101,32,107,105,110,100,32,48,32,102,97,99,116,111,114,32,49,32,111,102,102,115,101,116,32,48,32,109,94,49]⟩,⟨#[32]⟩, [⟨#[100,105,102,102,101,114,101,110,99,101]⟩,⟨#[107,105,110,100]⟩,⟨#[48]⟩,⟨#[102,97,99,116,111,114]⟩,⟨#[49]⟩,⟨#[111,102,102,115,101,116]⟩,⟨#[48]⟩,⟨#[109,94,49]⟩]),
 (⟨#[100,105,102,102,101,114,101,110,99,101,32,107,105,110,100,32,48,32,102,97,99,116,111,114,32,49,32,111,102,102,115,101,116,32,48,32,115,94,49]⟩,⟨#[32]⟩, [⟨#[100,105,102,102,101,114,101,110,99,101]⟩,⟨#[107,105,110,100]⟩,⟨#[48]⟩,⟨#[102,97,99,116,111,114]⟩,⟨#[49]⟩,⟨#[111,102,102,115,101,116]⟩,⟨#[48]⟩,⟨#[115,94,49]⟩]),
 (avF,⟨#[32]⟩, [⟨#[100,105,102,102,101,114,101,110,99,101]⟩,⟨#[107,105,110,100]⟩,⟨#[48]⟩,⟨#[102,97,99,116,111,114]⟩,⟨#[49]⟩,⟨#[111,102,102,115,101,116]⟩,⟨#[48]⟩,⟨#[109,94,49]⟩,⟨#[115,94,45,49]⟩]),
 (⟨#[48]⟩,⟨#[32]⟩, [⟨#[48]⟩]),
 (⟨#[49]⟩,⟨#[32]⟩, [⟨#[49]⟩]),
 (⟨#[48,32,49]⟩,⟨#[32]⟩, [⟨#[48]⟩,⟨#[49]⟩])]
def tabC:List ajq:= [(⟨#[105,110,112,117,116,32,48]⟩,⟨#[32]⟩,(⟨#[105,110,112,117,116]⟩,⟨#[48]⟩,true)),
 (⟨#[105,110,112,117,116,32,49]⟩,⟨#[32]⟩,(⟨#[105,110,112,117,116]⟩,⟨#[49]⟩,true)),
 (⟨#[100,105,118,32,48,32,49]⟩,⟨#[32]⟩,(⟨#[100,105,118]⟩,⟨#[48,32,49]⟩,true)),
 (ajE,⟨#[32]⟩,(⟨#[111,117,116,112,117,116]⟩,avF,true)),
 (⟨#[49]⟩,⟨#[47]⟩,(⟨#[49]⟩,⟨#[]⟩,false)),
 (⟨#[48]⟩,⟨#[47]⟩,(⟨#[48]⟩,⟨#[]⟩,false)),
 (⟨#[109,94,49]⟩,⟨#[94]⟩,(⟨#[109]⟩,⟨#[49]⟩,true)),
 (⟨#[115,94,49]⟩,⟨#[94]⟩,(⟨#[115]⟩,⟨#[49]⟩,true)),
 (⟨#[115,94,45,49]⟩,⟨#[94]⟩,(⟨#[115]⟩,⟨#[45,49]⟩,true)),
 (⟨#[45,49]⟩,⟨#[47]⟩,(⟨#[45,49]⟩,⟨#[]⟩,false))]
def findS (s H:zdH):List ajp->List ByteArray
 | []=>abI s H
 |r::l=>bif seq r.1 s&&seq r.2.1 H then r.2.2 else findS s H l
def afr (s H:zdH):List ajq->ByteArray×ByteArray×Bool
 | []=>abn s H
 |r::l=>bif seq r.1 s&&seq r.2.1 H then r.2.2 else afr s H l
theorem aed {s sep:zdH}: ∀{l:List ajp},(∀r∈l,abI r.1 r.2.1=r.2.2)->findS s sep l=abI s sep
 | [],_=>rfl
 |r::l,h=>by
  rw[findS];cases H:seq r.1 s&&seq r.2.1 sep with
  |false=>exact aed λx J=>h x (zan _ J)
  |true=>
   rw[za2] at H;rw[zdr,<-h r (zbF ..),We.1 H.1,We.1 H.2]
theorem aee {s sep:zdH}: ∀{l:List ajq},(∀r∈l,abn r.1 r.2.1=r.2.2)->afr s sep l=abn s sep
 | [],_=>rfl
 |r::l,h=>by
  rw[afr];cases H:seq r.1 s&&seq r.2.1 sep with
  |false=>exact aee λx J=>h x (zan _ J)
  |true=>
   rw[za2] at H;rw[zdr,<-h r (zbF ..),We.1 H.1,We.1 H.2]
theorem agV:tabS.map (λr=>abI r.1 r.2.1)=tabS.map (λr=>r.2.2):=by kernel_rfl
theorem aig: ∀r∈tabS,abI r.1 r.2.1=r.2.2:=λr H=>by
 obtain⟨i,hi,rfl⟩:=List.mem_iff_getElem.1 H;have:=congrArg (λl=>l[i]?) agV;simpa [zaL,zaa hi] using this
theorem agW:tabC.map (λr=>abn r.1 r.2.1)=tabC.map (λr=>r.2.2):=by kernel_rfl
theorem aih: ∀r∈tabC,abn r.1 r.2.1=r.2.2:=λr H=>by
 obtain⟨i,hi,rfl⟩:=List.mem_iff_getElem.1 H;have:=congrArg (λl=>l[i]?) agW;simpa [zaL,zaa hi] using this
def adJ:MCtr:=λ_ nx args=>match args with
 | [.val (.string s), .val (.string H)]=>some {X:=Unit,pre:=decide (s.size<=1000000)&&decide (1<=H.size),spec:=λ_=>True,out:=λ_=> .slc nx 0 (findS s H tabS).length,nw:=λ_=> [abN (findS s H tabS)],ex:=λ_=>⟨(),trivial⟩}
 |_=>none
theorem aeH:adJ=abV:=by
 funext bl nx args
 unfold adJ abV;simp only[aed aig];rfl
def aks (s H:zdH):ByteArray×ByteArray×Bool:=afr s H tabC
theorem aii:aks=abn:=by
 funext s H
 exact aee aih
variable {ann:zdV} {f:FuncId} {args:zdK} {Cs:zdU} {K K':Aft}
theorem af1 (h:Xk a ann n f args Cs K) (H: ∀r b n w,K r b n w->K' r b n w):Xk a ann n f args Cs K':=by
 unfold Xk at h ⊢;exact NiceT.mono (Ea _ _ _ _ _ _ f args _ _ _ (λi hi=>zad hi)) h λr b n w _=>H r b n w
variable {C:RC} {src:zdT} {nx:Nat}
theorem ajr {r:SV} (x:C.X) (J:C.spec x) (h1:C.pan x=none) (h2:r.ids= []) (h3:C.out x=r) (h4:C.nw x= []) (h5:C.ch x= []) (h6: ∀C∈Cs,cN C.kd=false) (H:src.length=Cs.length)
 (h:Xk a ann n f args Cs (Go.Sy.okK λs _ _ _=>s=r)):Xk a ann n f args Cs (KB C src Cs nx):=af1 h λq b m w hq=>by
 cases q with
 |pan v=>exact hq.elim
 |ok s=>
  obtain rfl:s=r:=hq;exact IG x J h1 h2 h3 h4 h5 h6 H
theorem aeI {I:ByteArray->WdX->Prop} (J:aci spP=true) (H:Q (.tup [.val (.string spT), .val (.int .i64 0)])):Xk a (alF I) 9 15 [kB spP] [eU.old spP.inp,eN.old spP.nod] (Go.Sy.okK λr _ _ _=>Q r):=by
 rw[af0];unfold afq uK bdK;refine ac (eY J (by decide) (by decide)) λ_ _=>⟨vK,vK,λ_ _=>⟨vK,λ_ _=>⟨vK,vK,vK,vK,λ_ _=>⟨vK,vK,H⟩⟩⟩⟩
open Classical in
def ac3 (p:Pr) (T:zdH):MCtr:=λbl _ args=>match args with
 | [s]=>match mC bl s with
   |some a=>some {X:=Unit,pre:=a.need&&decide (a.p=p),spec:=λ_=>True,out:=λ_=> .tup [.val (.string T), .val (.int .i64 0)],ex:=λ_=>⟨(),trivial⟩}
   |none=>none
 |_=>none
open Classical in
theorem aef {T:zdH} (h:aci p=true-> ∀Q:zdR,Q (.tup [.val (.string T), .val (.int .i64 0)])->Xk a ann 9 15 [kB p] (iK p) (Go.Sy.okK λr _ _ _=>Q r)):
 ∀B:Base,GlobEB a B->VU prog B 15 (ac3 p T):=λB hB=>c8 (λB' N=>ak2 (hB.sub N)) λbl nx args C H hp=>by
 unfold ac3 at H;split at H
 ·rename_i s;split at H
  ·rename_i b J;simp only[za1] at H;subst H;simp only[za2,zdt] at hp;obtain⟨s1,V,Y,Z,s5,s6⟩:=eX (f:=rnF [b.o1,b.o2] [] nx) J hp.1 rfl rfl;obtain⟨_,rfl⟩:=hp;have:=ajr (C:={X:=Unit,pre:=b.need&&decide (b.p=b.p),spec:=λ_=>True,out:=λ_=> .tup [.val (.string T), .val (.int .i64 0)],ex:=λ_=>⟨(),trivial⟩}) (src:= [b.o1,b.o2]) (nx:=nx) () trivial rfl (r:= .tup [.val (.string T), .val (.int .i64 0)]) rfl rfl rfl rfl (cx b.p) rfl (h Z _ rfl);unfold Xk at this;exact⟨[b.o1,b.o2],iK b.p, [kB b.p],ann,9,aw s1 (aw V trivial),bH (cx _),cd (jG _),by simp only[SV.rns,Y],this⟩
  ·cases H
 ·cases H
def afs:MCtr:=ac3 spP spT
theorem aeJ: ∀B:Base,GlobEB a B->VU prog B 15 afs:=aef (ann:=alF λ_ _=>True) λJ Q H=>aeI J H
def g9s:List (FuncId×Ctr):=(68,k1 cI cS cl ofI)::(280,k2 cS cS (cP3 cS cS cB) (λs _=>decide (s.size<=1000000)) aks)::gFR
theorem adv:GEk g9s:=by
 have h:g9s=g9n:=by unfold g9s g9n;rw[aii]
 rw[h];exact aiL
def aeK:zdX:= [(18,pN),(11,xi),(13,zm),(8,au0),(15,afs),(17,Y8),(148,abt),(73,adJ),(149,adI)]
theorem aft:MEk a aeK:=by
 unfold aeK;rw[aeH];exact((((((((MEk.nil.cons λB hB=>adu hB.gU).cons λB hB=>adm hB.gU).cons λB hB=>abG).cons λB hB=>ZA B hB.gU).cons aeJ).cons auN).cons λB hB=>tP B hB.gU).cons λB hB=>vM B hB.gU).cons λB hB=>lZ B hB.gU
@[irreducible] def acm (a:Addr) (ann:zdV) (n:Nat) (f:FuncId) (args:zdK) (Cs:zdU) (K:Aft):Prop:=
 Ay prog (iR yr) (gw g9s) (gx aeK) (dF a) ann n f args (λi=>Cs[i]?) Cs.length [] K
theorem ak4 (hB:GlobEB a B):HypD prog B (iR yr) (gw g9s) (gx aeK) (dF a):=
 have h:=ac9 (gm:=aeK) adv aft hB
 ⟨h.gam,h.mem,h.dem,λf H=>by
   unfold iR at H;simp only[zaP] at H;obtain⟨g,hg,J⟩:=H
   rw[zab J];exact vT g hg,h.mixed⟩
def tu1:zdH:=⟨#[100,105,102,102,101,114,101,110,99,101,32,107,105,110,100,32,48,32,102,97,99,116,111,114,32,49,32,111,102,102,115,101,116,32,48,32,109,94,49]⟩
def tu2:zdH:=⟨#[100,105,102,102,101,114,101,110,99,101,32,107,105,110,100,32,48,32,102,97,99,116,111,114,32,49,32,111,102,102,115,101,116,32,48,32,115,94,49]⟩
def tu3:zdH:=⟨#[100,105,102,102,101,114,101,110,99,101,32,107,105,110,100,32,48,32,102,97,99,116,111,114,32,49,32,111,102,102,115,101,116,32,48,32,109,94,49,32,115,94,45,49]⟩
abbrev zl:zdV:=λ_ _=>none
theorem ajs (a:Addr) (Q:zdR):acm a zl 5 219 [.val (.string tu1)] [] (Go.Sy.okK λr _ _ _=>Q r)=(uK (uK (uK (uK (Q ((cP cU cI).enc (u0,0))))))):=by kernel_rfl
theorem ajt (a:Addr) (Q:zdR):acm a zl 5 219 [.val (.string tu2)] [] (Go.Sy.okK λr _ _ _=>Q r)=(uK (uK (uK (uK (Q ((cP cU cI).enc (u2,0))))))):=by kernel_rfl
theorem aju (a:Addr) (Q:zdR):acm a zl 5 219 [.val (.string tu3)] [] (Go.Sy.okK λr _ _ _=>Q r)=(uK (uK (uK (uK (uK (Q ((cP cU cI).enc (uo,0)))))))):=by kernel_rfl
theorem af2 (h:acm a ann n f args Cs K) (H: ∀r b n w,K r b n w->K' r b n w):acm a ann n f args Cs K':=by
 unfold acm at h ⊢;exact NiceT.mono (Ea _ _ _ _ _ _ f args _ _ _ (λi hi=>zad hi)) h λr b n w _=>H r b n w
theorem ajv {r:SV} (x:C.X) (J:C.spec x) (h1:C.pan x=none) (h2:r.ids= []) (h3:C.out x=r) (h4:C.nw x= []) (h5:C.ch x= []) (h6: ∀C∈Cs,cN C.kd=false) (H:src.length=Cs.length)
 (h:acm a ann n f args Cs (Go.Sy.okK λs _ _ _=>s=r)):acm a ann n f args Cs (KB C src Cs nx):=af2 h λq b m w hq=>by
 cases q with
 |pan v=>exact hq.elim
 |ok s=>
  obtain rfl:s=r:=hq;exact IG x J h1 h2 h3 h4 h5 h6 H
theorem aij {a:Addr} {C:RC} {src:zdT} {Cs:zdU} {nx:Nat} {ann:zdV} {n:Nat} {f:FuncId} {args:zdK} {r:SV} (x:C.X) (J:C.spec x) (h1:C.pan x=none) (h2:r.ids= []) (h3:C.out x=r) (h4:C.nw x= []) (h5:C.ch x= []) (h6: ∀C∈Cs,cN C.kd=false) (H:src.length=Cs.length)
 (h:acm a ann n f args Cs (Go.Sy.okK λs _ _ _=>s=r)):Ay prog (iR yr) (gw g9s) (gx aeK) (dF a) ann n f args (λi=>Cs[i]?) Cs.length [] (KB C src Cs nx):=by
 have:=ajv (C:=C) (src:=src) (nx:=nx) x J h1 h2 h3 h4 h5 h6 H h;unfold acm at this;exact this
def agX:List (ByteArray×Un):= [(tu1,u0),(tu2,u2),(tu3,uo)]
def afu (s:zdH):List (ByteArray×Un)->Option Un
 | []=>none
 |r::l=>bif seq r.1 s then some r.2 else afu s l
theorem adw {s:zdH} {u:Un}: ∀{l:List (ByteArray×Un)},afu s l=some u->(s,u)∈l
 | [],h=>by cases h
 |r::l,h=>by
  rw[afu] at h;cases H:seq r.1 s with
  |false=>rw[H] at h;exact zan _ (adw h)
  |true=>
   rw[H,zdr] at h;obtain rfl:=We.1 H;obtain rfl:r.2=u:=by simpa using h
   exact zbF ..
theorem agY: ∀r∈agX,Q ((cP cU cI).enc (r.2,0))->acm a zl 5 219 [.val (.string r.1)] [] (Go.Sy.okK λr _ _ _=>Q r):=λr H J=>by
 unfold agX at H;rcases zai.1 H with rfl|H
 ·rw[ajs];exact λ_ _ _ _ _ _ _ _=>J
 rcases zai.1 H with rfl|H
 ·rw[ajt];exact λ_ _ _ _ _ _ _ _=>J
 rcases zai.1 H with rfl|H
 ·rw[aju];exact λ_ _ _ _ _ _ _ _ _ _=>J
 cases H
def rcU (u:Un):RC:={X:=Unit,pre:=true,spec:=λ_=>True,out:=λ_=>(cP cU cI).enc (u,0),ex:=λ_=>⟨(),trivial⟩}
variable {u:Un}
theorem akt:(rcU u).spec ():=trivial
theorem aku:(rcU u).pan ()=none:=rfl
theorem akv:(rcU u).nw ()= []:=rfl
theorem akw:(rcU u).ch ()= []:=rfl
theorem akx:(rcU u).out ()=(cP cU cI).enc (u,0):=rfl
def agZ (tab:List (ByteArray×Un)):MCtr:=λ_ _ args=>match args with
 | [.val (.string s)]=>match afu s tab with
   |some u=>some (rcU u)
   |none=>none
 |_=>none
theorem ag0 {tab:List (ByteArray×Un)} (h: ∀r∈tab,∀Q:zdR,Q ((cP cU cI).enc (r.2,0))->acm a zl 5 f [.val (.string r.1)] [] (Go.Sy.okK λr _ _ _=>Q r)):
 ∀B:Base,GlobEB a B->VU prog B f (agZ tab):=λB hB=>c8 (λB' Y=>ak4 (hB.sub Y)) λbl nx args C H hp=>by
 unfold agZ at H;split at H
 ·rename_i s;split at H
  ·rename_i u Z;simp only[za1] at H;subst H;have key:=h (s,u) (adw Z) (λr=>r=(cP cU cI).enc (u,0)) rfl;have e1:((cP cU cI).enc (u,(0:Int))).ids= []:=(cP cU cI).ids _;have N: ∀C∈([]:zdU),cN C.kd=false:=λC J=>by cases J
   have V:= @aij a (rcU u) [] [] nx zl 5 f [.val (.string s)] ((cP cU cI).enc (u,0)) () akt aku e1 akx akv akw N rfl key;exact⟨[], [], [.val (.string s)],zl,5,trivial,bH (λC J=>by cases J),cd (λC J=>by cases J),rfl,V⟩
  ·cases H
 ·cases H
def adK:MCtr:=agZ agX
theorem aeL: ∀B:Base,GlobEB a B->VU prog B 219 adK:=by
 unfold adK;have h: ∀r∈agX,∀Q:zdR,Q ((cP cU cI).enc (r.2,0))->acm a zl 5 219 [.val (.string r.1)] [] (Go.Sy.okK λr _ _ _=>Q r):=λr J Q H=>agY r J H;generalize agX=tab at h;exact ag0 h
def af3:zdX:=(219,adK)::aeK
theorem afv:MEk a af3:=aft.cons aeL
@[irreducible] def acE (a:Addr) (ann:zdV) (n:Nat) (f:FuncId) (args:zdK) (Cs:zdU) (K:Aft):Prop:=
 Ay prog (iR yr) (gw g9s) (gx af3) (dF a) ann n f args (λi=>Cs[i]?) Cs.length [] K
theorem ak5 (hB:GlobEB a B):HypD prog B (iR yr) (gw g9s) (gx af3) (dF a):=
 have h:=ac9 (gm:=af3) adv afv hB
 ⟨h.gam,h.mem,h.dem,λf H=>by
   unfold iR at H;simp only[zaP] at H;obtain⟨g,hg,J⟩:=H
   rw[zab J];exact vT g hg,h.mixed⟩
def bkx (f:zdQ):zdN
 |0=> []
 |e+1=> [.val (.bool (f e))]
def tv9 (s:SV):Prop:=TV.v s=TV.v s
def opK (k:Nat):SV:= .val (.int .i64 ((k:Int)+1))
def opV (two num H J:Nat):Nat->SV
 |0=> .agg [.val (.string (opW 0)), .val (.slice none 0 0), .fn (.func 196) [] []]
 |1=> .agg [.val (.string (opW 1)), .slc num 0 1, .fn (.func 198) [] []]
 |2=> .agg [.val (.string (opW 2)), .slc two 0 2, .fn (.func 199) [] []]
 |3=> .agg [.val (.string (opW 3)), .slc two 0 2, .fn (.func 200) [] []]
 |4=> .agg [.val (.string (opW 4)), .slc two 0 2, .fn (.func 201) [] []]
 |5=> .agg [.val (.string (opW 5)), .slc two 0 2, .fn (.func 202) [] []]
 |6=> .agg [.val (.string (opW 6)), .slc H 0 2, .fn (.func 203) [] []]
 |_=> .agg [.val (.string (opW 7)), .slc J 0 1, .fn (.func 204) [] []]
def opG (V:Nat->SV):Nat->zdN
 |0=>λ_=> []
 |k+1=>J9 (opG V k) k [opK k,V k]
def ag1 (n:Int):zdK:=svN ⟨n,VI,noU,0,0,0⟩
def mT9 (p:Nat) (H w J:zdH) (x i:Nat):Prop:=
 tv9 (.ptr p 0 0)/\tv9 (.val (.string H))/\tv9 (.val .nilFunc)/\tv9 (.val (.string w))/\tv9 (.val (.string J))/\tv9 (.val (.bool true))/\tv9 (.ptr x 0 0)/\tv9 (.ptr i 0 0)/\True
def M9 (mt:Prop) (L R:zdN) (n:Int) (x:WdX):Prop:=
 mt/\(((∀e:Nat,L (e+1)=abr (bkx x.2) R (e+1))/\True)/\((ag1 n=ag1 x.1/\True)/\True))
def ace (I:WdX->Prop) (V:Nat->SV) (mt:Prop) (w:zdH) (x:WdX) (k:Nat):Prop:=
 ag (x.2 k) (∃H:WdX,I H/\(acD H.2 8<acD x.2 8/\M9 mt (nN (abr (bkx x.2) (rM (opG V 8))) k (opK k) (V k)) (rM (opG V 8)) (bif seq (opW k) w then(k:Int)+1 else x.1) H)) True
def adL (I:WdX->Prop) (V:Nat->SV) (mt:Prop) (w:zdH) (n:Int) (K:Prop):Prop:=
 ∃H:WdX,I H/\(M9 mt (rM (opG V 8)) (rM (opG V 8)) 0 H/\ ∀x:WdX,I x->
  (ag (x.2 0||(x.2 1||(x.2 2||(x.2 3||(x.2 4||(x.2 5||(x.2 6||(x.2 7||false)))))))) True (some (SV.val (.int .i64 x.1))=some (SV.val (.int .i64 n))/\K)/\
  (ace I V mt w x 0/\ace I V mt w x 1/\ace I V mt w x 2/\ace I V mt w x 3/\ace I V mt w x 4/\ace I V mt w x 5/\ace I V mt w x 6/\ace I V mt w x 7/\True)))
def XD (w:zdH) (f:zdQ):Nat->Int
 |0=>0
 |k+1=>bif seq (opW k) w&& !f k then(k:Int)+1 else XD w f k
def aeM (w:zdH) (x:WdX):Prop:=x.1=XD w x.2 8
def acF (f:zdQ) (k:Nat):zdQ:=λe=> !Nat.beq e k&&f e
variable {k:Nat}
theorem acM {f:zdQ} {e:Nat} (h:e≠k):acF f k e=f e:=by
 unfold acF;rw[show Nat.beq e k=false from by rw[bS];exact zds h];rfl
theorem adM {f:zdQ} :acF f k k=false:=by
 unfold acF;rw[show Nat.beq k k=true from by rw[bS];exact zdp rfl];rfl
theorem adx {w:zdH} {f:zdQ} {k:Nat} (h:seq (opW k) w=false): ∀m,XD w (acF f k) m=XD w f m
 |0=>rfl
 |m+1=>by
  rw[XD,XD,adx h m];by_cases e:m=k
  ·subst e;rw[h];rfl
  ·rw[acM e]
theorem ak6: ∀j,j<8-> ∀k,k<8->j≠k->seq (opW j) (opW k)=false:=by decide
theorem aeg {f:zdQ} {k:Nat} (H:k<8): ∀m,m<=8->XD (opW k) (acF f k) m=if k<m then(k:Int)+1 else 0
 |0,_=>rfl
 |m+1,J=>by
  rw[XD,aeg H m (by omega)];by_cases e:m=k
  ·subst e;rw[adM,show seq (opW m) (opW m)=true from We.2 rfl,if_pos (show m<m+1 by omega)];rfl
  ·rw[ak6 m (by omega) k H e,Bool.false_and,zdq];by_cases h:k<m
   ·rw[if_pos h,if_pos (by omega)]
   ·rw[if_neg h,if_neg (by omega)]
theorem aeh {w:zdH} {f:zdQ}: ∀m,(∀k,k<m->f k=false)->XD w f m=opN w m
 |0,_=>rfl
 |m+1,h=>by
  rw[XD,opN,aeh m λk H=>h k (by omega),h m (by omega)];cases seq (opW m) w<;>rfl
theorem aei {f:zdQ} {k:Nat} (h:f k=true): ∀m,(k<m->acD (acF f k) m<acD f m)/\(m<=k->acD (acF f k) m=acD f m)
 |0=>⟨λh=>by omega,λ_=>rfl⟩
 |m+1=>by
  obtain⟨h1,h2⟩:=aei h m;refine⟨λH=> ?_,λH=> ?_⟩
  ·rw[acD,acD];by_cases e:m=k
   ·subst e;rw[h2 (za0 _),adM,h];simp
   ·have:=h1 (by omega);rw[acM e];omega
  ·rw[acD,acD,h2 (by omega),acM (by omega)]
theorem aky {G:zdN} (e:Nat):rM G (e+1)=abr (bkx λ_=>true) (rM G) (e+1):=by
 show _=onB (su (bkx (λ_=>true) (e+1))) (rM G (e+1));have h: ∀l:zdK,(match l with| [k,v]=> [SV.val (Value.bool true),k,v]|_=> [])=onB true (match l with| [k,v]=> [SV.val (Value.bool true),k,v]|_=> []):=by
  intro l;split<;>rfl
 exact h (G e)
theorem akz {f:zdQ} {R:zdN} {K V:SV} (e:Nat):nN (abr (bkx f) R) k K V (e+1)=abr (bkx (acF f k)) R (e+1):=by
 show (bif Nat.beq e k then Nx (onB (f e) (R (e+1))) else onB (f e) (R (e+1)))=onB (acF f k e) (R (e+1));by_cases h:e=k
 ·subst h;rw[adM,show Nat.beq e e=true from by rw[bS];exact zdp rfl,zdr];cases R (e+1)<;>rfl
 ·rw[acM h,show Nat.beq e k=false from by rw[bS];exact zds h,zdq]
variable {V:Nat->SV} {mt:Prop} {w:zdH}
theorem mB {x:WdX} (J:mt) (Y:aeM w x) (H:k<8):ace (aeM w) V mt w x k:=by
 refine ce (λh=> ?_) λ_=>trivial;refine⟨(bif seq (opW k) w then(k:Int)+1 else x.1,acF x.2 k), ?_,(aei h 8).1 H,J,⟨λe=>akz e,trivial⟩,⟨rfl,trivial⟩,trivial⟩;show (bif seq (opW k) w then(k:Int)+1 else x.1)=XD w (acF x.2 k) 8;cases N:seq (opW k) w with
 |false=>rw[adx N];exact Y
 |true=>
  obtain rfl:=We.1 N;rw[aeg H 8 (za0 _),if_pos H];rfl
theorem acn {n:Int} {K:Prop} (H:mt) (Z:opN w 8=n) (N:K):adL (aeM w) V mt w n K:=by
 refine⟨(0,λ_=>true), ?_,⟨H,⟨λe=>aky e,trivial⟩,⟨rfl,trivial⟩,trivial⟩,λx J=>⟨?_, ?_⟩⟩
 ·show (0:Int)=XD w (λ_=>true) 8;have: ∀m,XD w (λ_=>true) m=0:=by
   intro m
   induction m with
   |zero=>rfl
   |succ m ih=>rw[XD,zbh,Bool.and_false,zdq,ih]
  exact(this 8).symm
 ·refine ce (λ_=>trivial) λh=>⟨?_,N⟩;simp only[zbs] at h;obtain⟨h0,h1,h2,h3,h4,h5,h6,h7,_⟩:=h;have:x.1=n:=by
   rw[<-Z,show x.1=XD w x.2 8 from J];refine aeh 8 λk Y=> ?_
   match k,Y with
   |0,_=>exact h0
   |1,_=>exact h1
   |2,_=>exact h2
   |3,_=>exact h3
   |4,_=>exact h4
   |5,_=>exact h5
   |6,_=>exact h6
   |7,_=>exact h7
  rw[this]
 ·exact⟨mB H J (by omega),mB H J (by omega),mB H J (by omega),mB H J (by omega),mB H J (by omega),mB H J (by omega),mB H J (by omega),mB H J (by omega),trivial⟩
theorem aeN {p:Nat} {line rest:zdH} {x i:Nat}:mT9 p line w rest x i:=⟨rfl,rfl,rfl,rfl,rfl,rfl,rfl,rfl,trivial⟩
def aeO:zdH:=⟨#[105,110,112,117,116,32,48]⟩
def aeP:zdH:=⟨#[105,110,112,117,116,32,49]⟩
def aeQ:zdH:=⟨#[100,105,118,32,48,32,49]⟩
def ti9:zdH:=⟨#[105,110,112,117,116]⟩
def td9:zdH:=⟨#[100,105,118]⟩
def t09:zdH:=⟨#[48]⟩
def t19:zdH:=⟨#[49]⟩
def ak7:zdH:=⟨#[48,32,49]⟩
abbrev acA:zdV:=afZ 70
theorem ajw (a:Addr) (Q:zdR):acE a acA 5 70 [.agg (svN (nI9 0))] [] (Go.Sy.okK λr _ _ _=>Q r)=Q (.val (.string aeO)):=by kernel_rfl
theorem ajx (a:Addr) (Q:zdR):acE a acA 5 70 [.agg (svN (nI9 1))] [] (Go.Sy.okK λr _ _ _=>Q r)=Q (.val (.string aeP)):=by kernel_rfl
theorem ajy (a:Addr) (Q:zdR):acE a acA 5 70 [.agg (svN nD9)] [] (Go.Sy.okK λr _ _ _=>Q r)=Q (.val (.string aeQ)):=by kernel_rfl
theorem af4 (h:acE a ann n f args Cs K) (H: ∀r b n w,K r b n w->K' r b n w):acE a ann n f args Cs K':=by
 unfold acE at h ⊢;exact NiceT.mono (Ea _ _ _ _ _ _ f args _ _ _ (λi hi=>zad hi)) h λr b n w _=>H r b n w
theorem aik {a:Addr} {C:RC} {src:zdT} {Cs:zdU} {nx:Nat} {ann:zdV} {n:Nat} {f:FuncId} {args:zdK} {r:SV} (x:C.X) (J:C.spec x) (h1:C.pan x=none) (h2:r.ids= []) (h3:C.out x=r) (h4:C.nw x= []) (h5:C.ch x= []) (h6: ∀C∈Cs,cN C.kd=false) (H:src.length=Cs.length)
 (h:acE a ann n f args Cs (Go.Sy.okK λs _ _ _=>s=r)):Ay prog (iR yr) (gw g9s) (gx af3) (dF a) ann n f args (λi=>Cs[i]?) Cs.length [] (KB C src Cs nx):=by
 have:acE a ann n f args Cs (KB C src Cs nx):=af4 h λq b m w hq=>by
  cases q with
  |pan v=>exact hq.elim
  |ok s=>
   obtain rfl:s=r:=hq;exact IG x J h1 h2 h3 h4 h5 h6 H
 unfold acE at this;exact this
abbrev ag2:=Nd×ByteArray
def ag3:List ag2:= [(nI9 0,aeO),(nI9 1,aeP),(nD9,aeQ)]
def afw (x:Nd):List ag2->Option ByteArray
 | []=>none
 |r::l=>bif eqN r.1 x then some r.2 else afw x l
theorem ady {x:Nd} {s:zdH}: ∀{l:List ag2},afw x l=some s->(x,s)∈l
 | [],h=>by cases h
 |r::l,h=>by
  rw[afw] at h;cases H:eqN r.1 x with
  |false=>rw[H] at h;exact zan _ (ady h)
  |true=>
   rw[H,zdr] at h;obtain rfl:=Wn.1 H;obtain rfl:r.2=s:=by simpa using h
   exact zbF ..
theorem ag4: ∀r∈ag3,Q (.val (.string r.2))->acE a acA 5 70 [.agg (svN r.1)] [] (Go.Sy.okK λr _ _ _=>Q r):=λr H J=>by
 unfold ag3 at H;rcases zai.1 H with rfl|H
 ·rw[ajw];exact J
 rcases zai.1 H with rfl|H
 ·rw[ajx];exact J
 rcases zai.1 H with rfl|H
 ·rw[ajy];exact J
 cases H
def rcT (s:zdH):RC:={X:=Unit,pre:=true,spec:=λ_=>True,out:=λ_=> .val (.string s),ex:=λ_=>⟨(),trivial⟩}
variable {s:zdH}
theorem akA:(rcT s).spec ():=trivial
theorem akB:(rcT s).pan ()=none:=rfl
theorem akC:(rcT s).nw ()= []:=rfl
theorem akD:(rcT s).ch ()= []:=rfl
theorem akE:(rcT s).out ()= .val (.string s):=rfl
def ag5 (tab:List ag2):MCtr:=λ_ _ args=>match args with
 | [.agg cs]=>bif ndB cs then(match afw (Vh cs) tab with
   |some s=>some (rcT s)
   |none=>none) else none
 |_=>none
theorem ag6 {tab:List ag2} (h: ∀r∈tab,∀Q:zdR,Q (.val (.string r.2))->acE a acA 5 f [.agg (svN r.1)] [] (Go.Sy.okK λr _ _ _=>Q r)):
 ∀B:Base,GlobEB a B->VU prog B f (ag5 tab):=λB hB=>c8 (λB' V=>ak5 (hB.sub V)) λbl nx args C H hp=>by
 unfold ag5 at H;split at H
 ·rename_i cs;cases N:ndB cs with
  |false=>rw[N] at H;cases H
  |true=>
   rw[N,zdr] at H;split at H
   ·rename_i s V;simp only[za1] at H;subst H;have key:=h (Vh cs,s) (ady V) (λr=>r= .val (.string s)) rfl;have Y:Vh cs=(Vh cs,s).1:=rfl;rw[<-Y,<-ua N] at key;have e1:(SV.val (.string s)).ids= []:=rfl;have Z: ∀C∈([]:zdU),cN C.kd=false:=λC J=>by cases J
    have e3:= @aik a (rcT s) [] [] nx acA 5 f [.agg cs] (.val (.string s)) () akA akB e1 akE akC akD Z rfl key;have e4:SV.rns (rnF [] [] nx) [.agg cs]=some [.agg cs]:=by
     have e:=rns_free (f:=rnF [] [] nx) (arA (Vh cs));rw[<-ua N] at e;exact ar (Xs e) rfl
    exact⟨[], [], [.agg cs],acA,5,trivial,bH (λC J=>by cases J),cd (λC J=>by cases J),e4,e3⟩
   ·cases H
 ·cases H
def aeR:MCtr:=ag5 ag3
theorem af5: ∀B:Base,GlobEB a B->VU prog B 70 aeR:=by
 unfold aeR;have h: ∀r∈ag3,∀Q:zdR,Q (.val (.string r.2))->acE a acA 5 70 [.agg (svN r.1)] [] (Go.Sy.okK λr _ _ _=>Q r):=λr J Q H=>ag4 r J H;generalize ag3=tab at h;exact ag6 h
def ag7:zdX:=(70,aeR)::af3
theorem afx:MEk a ag7:=afv.cons af5
@[irreducible] def aeS (a:Addr) (ann:zdV) (n:Nat) (f:FuncId) (args:zdK) (Cs:zdU) (K:Aft):Prop:=
 Ay prog (iR yr) (gw g9s) (gx ag7) (dF a) ann n f args (λi=>Cs[i]?) Cs.length [] K
theorem ak8 (hB:GlobEB a B):HypD prog B (iR yr) (gw g9s) (gx ag7) (dF a):=
 have h:=ac9 (gm:=ag7) adv afx hB
 ⟨h.gam,h.mem,h.dem,λf H=>by
   unfold iR at H;simp only[zaP] at H;obtain⟨g,hg,J⟩:=H
   rw[zab J];exact vT g hg,h.mixed⟩
def fnL:SV:= .fn (.func 194) [] []
def fnR:SV:= .fn (.func 195) [] []
def fnN:SV:= .fn (.func 197) [] []
def ac4 (g:zdN):Nat->List (zdK)
 |0=> []
 |n+1=>ac4 g n++ [g n]
def ajz:BK->Bool
 | .own=>true
 |_=>false
def obO (n:Nat):Option Blk->Option (List (zdK))
 |some B=>bif ajz B.kd&&(Nat.beq B.sz 1&&(Nat.ble n B.n&&B.nn)) then some (ac4 B.get n) else none
 |none=>none
def KO (Q:(zdN)->List (Option (List (zdK)))->Prop):Aft:=λr bl _ _=>match r with
 | .ok (.mp m)=>bif Nat.beq m 3 then(match bl 3 with
   |some B=>(match B.kd with
    | .mpL=>bif Nat.beq B.n 0&&(Nat.beq B.sz 0&&B.nn) then Q B.get [obO 2 (bl 1),obO 1 (bl 5),obO 2 (bl 15),obO 1 (bl 17)] else False
    |_=>False)
   |none=>False) else False
 |_=>False
theorem ajA (a:Addr) (Q:(zdN)->List (Option (List (zdK)))->Prop):aeS a zl 9 130 [] [] (KO Q)=Q (opG (opV 1 5 15 17) 8) [some [[fnL], [fnR]],some [[fnN]],some [[fnL], [fnN]],some [[fnL]]]:=by kernel_rfl
def fnG (x y:SV):zdN
 |0=> [x]
 |_=> [y]
def fnB (n:Nat) (x y:SV):Blk:={n:=n,sz:=1,get:=fnG x y,kd:= .own}
def ail (V:Nat->SV):Blk:={n:=0,sz:=0,get:=opG V 8,kd:= .mpL}
def rcO (nx:Nat):RC:={X:=Unit,pre:=true,spec:=λ_=>True,out:=λ_=> .mp (nx+4),nw:=λ_=> [fnB 2 fnL fnR,fnB 1 fnN fnN,fnB 2 fnL fnN,fnB 1 fnL fnL,ail (opV nx (nx+1) (nx+2) (nx+3))],ex:=λ_=>⟨(),trivial⟩}
theorem ag8 {k:BK} (h:ajz k=true):k= .own:=by cases k<;>first|rfl|cases h
theorem acN {o:Option Blk} {l:List (zdK)} (h:obO n o=some l): ∃B,o=some B/\B.kd= .own/\B.sz=1/\(n<=B.n/\B.nn=true)/\ac4 B.get n=l:=by
 cases o with
 |none=>cases h
 |some B=>
  cases H:(ajz B.kd&&(Nat.beq B.sz 1&&(Nat.ble n B.n&&B.nn))) with
  |false=>rw[obO,H] at h;cases h
  |true=>
   rw[obO,H,zdr] at h;simp only[za1] at h;simp only[za2] at H;exact⟨B,rfl,ag8 H.1,zab H.2.1,⟨zak H.2.2.1,H.2.2.2⟩,h⟩
abbrev aim:zdT:= [some 1,some 5,some 15,some 17,some 3]
theorem ajB: ∀k,k<8->(opV 1 5 15 17 k).rn (rnG [] aim nx)=some (opV nx (nx+1) (nx+2) (nx+3) k):=λk H=>by
 match k,H with
 |0,_=>rfl
 |1,_=>rfl
 |2,_=>rfl
 |3,_=>rfl
 |4,_=>rfl
 |5,_=>rfl
 |6,_=>rfl
 |7,_=>rfl
theorem adN {g:zdY} {V V':Nat->SV} (e:Nat): ∀k,(∀j,j<k->(V j).rn g=some (V' j))->SV.rns g (opG V k e)=some (opG V' k e)
 |0,_=>rfl
 |k+1,h=>by
  show SV.rns g (bif Nat.beq e k then [opK k,V k] else opG V k e)=some (bif Nat.beq e k then [opK k,V' k] else opG V' k e);cases Nat.beq e k with
  |true=>exact ar rfl (ar (h k (by omega)) rfl)
  |false=>exact adN e k λj H=>h j (by omega)
variable {g:zdY} {x y:SV}
theorem aiN {B:Blk} (J:x.rn g=some x) (h1:B.kd= .own) (h2:B.sz=1) (h3:1<=B.n/\B.nn=true) (h4:ac4 B.get 1= [[x]]):kx g B (fnB 1 x y):=by
 have h4: [B.get 0]= [[x]]:=h4;simp only[zc9,and_true] at h4;refine .inr ⟨h1.symm,h2.symm,λ_=>h3.2,h3.1,λe H=> ?_⟩;obtain rfl:e=0:=by simp[fnB] at H;omega
 rw[h4];exact ar J rfl
theorem aiO {B:Blk} (J:x.rn g=some x) (N:y.rn g=some y) (h1:B.kd= .own) (h2:B.sz=1) (h3:2<=B.n/\B.nn=true) (h4:ac4 B.get 2= [[x], [y]]):kx g B (fnB 2 x y):=by
 have h4: [B.get 0,B.get 1]= [[x], [y]]:=h4;simp only[zc9,and_true] at h4;refine .inr ⟨h1.symm,h2.symm,λ_=>h3.2,h3.1,λe H=> ?_⟩;rcases(show e=0\/e=1 by simp[fnB] at H;omega) with rfl|rfl
 ·rw[h4.1];exact ar J rfl
 ·rw[h4.2];exact ar N rfl
theorem ak9 {r:Res} {bl:zdM} {wl:zdI} (h:KO (λg l=>g=opG (opV 1 5 15 17) 8/\l= [some [[fnL], [fnR]],some [[fnN]],some [[fnL], [fnN]],some [[fnL]]]) r bl n wl):KB (rcO nx) [] [] nx r bl n wl:=by
 unfold KO at h;split at h
 ·rename_i m;cases J:Nat.beq m 3 with
  |false=>rw[J] at h;exact h.elim
  |true=>
   obtain rfl:=zab J;rw[J,zdr] at h;split at h
   ·rename_i B hB;split at h
    ·rename_i hk;cases H:(Nat.beq B.n 0&&(Nat.beq B.sz 0&&B.nn)) with
     |false=>rw[H] at h;exact h.elim
     |true=>
      rw[H,zdr] at h;obtain⟨hg,N⟩:=h;simp only[za2] at H;simp only[zc9,and_true] at N;obtain⟨l1,l2,l3,l4⟩:=N;obtain⟨B1,e1,k1,z1,m1,V⟩:=acN l1;obtain⟨B2,e2,k2,z2,m2,c2⟩:=acN l2;obtain⟨B3,e3,k3,z3,m3,Y⟩:=acN l3;obtain⟨B4,e4,k4,z4,m4,Z⟩:=acN l4;have eb:dt [] aim nx (nx+4)=some (some 3):=jA 4;refine⟨(),trivial,aim,⟨_,rfl, ?_⟩,by decide,⟨⟨zaA _, ?_⟩,⟨zaA _, ?_⟩,⟨zaA _, ?_⟩,⟨zaA _, ?_⟩,⟨zaA _, ?_⟩,trivial⟩,trivial⟩
      ·show SV.rn (dt [] aim nx) (.mp (nx+4))=_;simp only[SV.rn,eb]
      ·rw[e1];exact⟨by simp[fnB],λ_=> .inr ⟨by simp[fnB],by simp[fnB]⟩,aiO rfl rfl k1 z1 m1 V⟩
      ·rw[e2];exact⟨by simp[fnB],λ_=> .inr ⟨by simp[fnB],by simp[fnB]⟩,aiN rfl k2 z2 m2 c2⟩
      ·rw[e3];exact⟨by simp[fnB],λ_=> .inr ⟨by simp[fnB],by simp[fnB]⟩,aiO rfl rfl k3 z3 m3 Y⟩
      ·rw[e4];exact⟨by simp[fnB],λ_=> .inr ⟨by simp[fnB],by simp[fnB]⟩,aiN rfl k4 z4 m4 Z⟩
      ·rw[hB];refine⟨by simp[ail],λh=>(by cases h), .inr ⟨hk.symm,(zab H.2.1).symm,λ_=>H.2.2,zaA _,λe=> ?_⟩⟩;rw[hg];exact adN e 8 λj hj=>ajB j hj
    ·exact h.elim
   ·exact h.elim
 ·exact h.elim
theorem af6 (h:aeS a ann n f args Cs K) (H: ∀r b n w,K r b n w->K' r b n w):aeS a ann n f args Cs K':=by
 unfold aeS at h ⊢;exact NiceT.mono (Ea _ _ _ _ _ _ f args _ _ _ (λi hi=>zad hi)) h λr b n w _=>H r b n w
def ain:MCtr:=λ_ nx args=>match args with
 | []=>some (rcO nx)
 |_=>none
theorem ag9 (h: ∀Q:(zdN)->List (Option (List (zdK)))->Prop,Q (opG (opV 1 5 15 17) 8) [some [[fnL], [fnR]],some [[fnN]],some [[fnL], [fnN]],some [[fnL]]]->aeS a zl 9 f [] [] (KO Q)):
 ∀B:Base,GlobEB a B->VU prog B f ain:=λB hB=>c8 (λB' N=>ak8 (hB.sub N)) λbl nx args C H hp=>by
 unfold ain at H;split at H
 ·simp only[za1] at H;subst H;have key:aeS a zl 9 f [] [] (KB (rcO nx) [] [] nx):=af6 (h (λg l=>g=opG (opV 1 5 15 17) 8/\l= [some [[fnL], [fnR]],some [[fnN]],some [[fnL], [fnN]],some [[fnL]]]) ⟨rfl,rfl⟩) λr b n wl hq=>ak9 hq;unfold aeS at key;exact⟨[], [], [],zl,9,trivial,bH (λC J=>by cases J),cd (λC J=>by cases J),rfl,key⟩
 ·cases H
theorem aio: ∀B:Base,GlobEB a B->VU prog B 130 ain:=ag9 λQ H=>by rw[ajA];exact H
def af7:zdX:=(130,ain)::ag7
theorem adO:MEk a af7:=afx.cons aio
@[irreducible] def k8 (a:Addr) (ann:zdV) (n:Nat) (f:FuncId) (args:zdK) (Cs:zdU) (K:Aft):Prop:=
 Ay prog (iR yr) (gw g9s) (gx af7) (dF a) ann n f args (λi=>Cs[i]?) Cs.length [] K
theorem aha (hB:GlobEB a B):HypD prog B (iR yr) (gw g9s) (gx af7) (dF a):=
 have h:=ac9 (gm:=af7) adv adO hB
 ⟨h.gam,h.mem,h.dem,λf H=>by
   unfold iR at H;simp only[zaP] at H;obtain⟨g,hg,J⟩:=H
   rw[zab J];exact vT g hg,h.mixed⟩
end Go.Proofs.YtojcellmcbnmeaaGreatDoor
namespace Go.Sy
open Go.RowKit
def ab2 (src:zdI) (i:Nat):Option (Option Nat):=match src[i]? with
 |some j=>some (some j)
 |none=>none
variable {src:zdI}
theorem afy {nx:Nat}:rnF (src.map some) [] nx=ab2 src:=by
 funext i
 unfold rnF ab2;rw[zaL];cases src[i]? <;>rfl
theorem adz: ∀{l:zdI},ck (l.map some)=l
 | []=>rfl
 |i::r=>by simp[ck,adz (l:=r)]
def isL:BK->Bool
 | .mpL=>true
 |_=>false
def isO:BK->Bool
 | .own=>true
 |_=>false
variable {k:BK}
theorem afz (h:isL k=true):k= .mpL:=by cases k<;>first|rfl|cases h
theorem alK (h:isO k=true):k= .own:=by cases k<;>first|rfl|cases h
def akF (C B:Blk):Bool:=Nat.beq C.sz B.sz&&((!C.nn||(B.nn||Nat.ble 1 C.n))&&(match C.kd with
 | .gone=>true
 | .old=>pa B.kd&&Nat.ble C.n B.n
 | .own=>isO B.kd&&(Nat.ble 1 C.n&&(Nat.ble 1 C.sz&&Nat.ble C.n B.n))
 | .mpL=>isL B.kd&&Nat.beq C.n 0
 |_=>false))
def af8 (f:zdY) (C:Blk):Nat->List (Option (zdK))
 |0=> []
 |n+1=>af8 f C n++ [SV.rns f (C.get n)]
def af9 (B:Blk):Nat->List (Option (zdK))
 |0=> []
 |n+1=>af9 B n++ [some (B.get n)]
def ahb (bl:zdM):List Nat->List Blk->Bool
 | [], []=>true
 |i::r,C::H=>(match bl i with
  |some B=>akF C B
  |none=>false)&&ahb bl r H
 |_,_=>false
def aip (bl:zdM):List Nat->List Blk->List (List (Option (zdK)))
 |i::r,C::H=>(match bl i with
  |some B=>(match pa C.kd with
   |true=>af9 B C.n
   |false=> [])
  |none=> [])::aip bl r H
 |_,_=> []
def aga (f:zdY):List Blk->List (List (Option (zdK)))
 |C::H=>(match pa C.kd with
  |true=>af8 f C C.n
  |false=> [])::aga f H
 | []=> []
def agb (bl:zdM):List Nat->List Blk->List (Nat->Option (zdK))
 |i::r,C::H=>(match isL C.kd with
  |true=>(match bl i with
   |some B=>(λe=>some (B.get e))::agb bl r H
   |none=> [])
  |false=>agb bl r H)
 |_,_=> []
def acG (f:zdY):List Blk->List (Nat->Option (zdK))
 |C::H=>(match isL C.kd with
  |true=>(λe=>SV.rns f (C.get e))::acG f H
  |false=>acG f H)
 | []=> []
theorem aej {f:zdY} {C:Blk}: ∀{n:Nat},(af8 f C n).length=n
 |0=>rfl
 |n+1=>by rw[af8,za3,aej];rfl
theorem aek {B:Blk}: ∀{n:Nat},(af9 B n).length=n
 |0=>rfl
 |n+1=>by rw[af9,za3,aek];rfl
theorem adP {f:zdY} {C B:Blk}: ∀{n:Nat},af9 B n=af8 f C n-> ∀e,e<n->SV.rns f (C.get e)=some (B.get e)
 |0,_,e,H=>absurd H (zbn e)
 |n+1,h,e,H=>by
  rw[af9,af8] at h;obtain⟨h1,h2⟩:=List.append_inj h (by rw[aek,aej]);simp only[zc9,and_true] at h2;rcases zah e n with k|k
  ·exact adP h1 e k
  ·obtain rfl:e=n:=by omega
   exact h2.symm
theorem ael {bl:zdM} {f:zdY}: ∀{src:zdI} {Cs:zdU},ahb bl src Cs=true->aip bl src Cs=aga f Cs->agb bl src Cs=acG f Cs->yw bl f (src.map some) Cs
 | [], [],_,_,_=>trivial
 |i::r,C::Cs,h1,h2,h3=>by
  rw[ahb,za2] at h1;obtain⟨a,b⟩:=h1;rw[aip,aga,zc9] at h2;obtain⟨c,h2⟩:=h2;rw[agb,acG] at h3;cases hB:bl i with
  |none=>rw[hB] at a;cases a
  |some B=>
   simp only[hB] at a c h3;have q:agb bl r Cs=acG f Cs/\(C.kd= .mpL-> ∀e,SV.rns f (C.get e)=some (B.get e)):=by
    cases N:isL C.kd with
    |true=>
     simp only[N,zc9] at h3;exact⟨h3.2,λ_ e=>(congrFun h3.1 e).symm⟩
    |false=>
     simp only[N] at h3;exact⟨h3,λJ=>by rw[J] at N;cases N⟩
   refine aw ?_ (ael b h2 q.1);show match bl i with
    |some B=>wB f C B
    |none=>False
   rw[hB];simp only[akF,za2] at a;obtain⟨Y,V,H⟩:=a;refine⟨zab Y,λZ=> ?_, ?_⟩
   ·rw[Z] at V;simp only[zbh,zbi,zav] at V;exact V.imp id zak
   ·cases J:C.kd with
    |gone=>trivial
    |old=>
     simp only[J,za2,pa] at H c;obtain⟨k1,k2⟩:=H;refine⟨λe=>(by rw[e] at k1;cases k1),(by cases hq:B.kd<;>rw[hq] at k1<;>first|rfl|cases k1),zak k2,adP c⟩
    |own=>
     simp only[J,za2,pa] at H c;obtain⟨k1,k2,k3,k4⟩:=H;exact⟨alK k1,zak k2,zak k3,zak k4,adP c⟩
    |mpL=>
     simp only[J,za2] at H;exact⟨afz H.1,zab H.2,q.2 J⟩
    |_=>simp[J] at H
 | [],_::_,h,_,_=>by cases h
 |_::_, [],h,_,_=>by cases h
abbrev ahc:=SV×List Blk×List (Nat×Blk)
def rcL (b:Bool) (r:ahc):RC:={X:=Unit,pre:=b,spec:=λ_=>True,out:=λ_=>r.1,nw:=λ_=>r.2.1,ch:=λ_=>r.2.2,ex:=λ_=>⟨(),trivial⟩}
def agc (p:Prop):Bool:= @decide p (Classical.propDecidable p)
theorem ac5 {p:Prop}:agc p=true↔p:=by unfold agc;exact @decide_eq_true_iff p (Classical.propDecidable p)
def aeT (bl:zdM) (src:zdI) (H:zdU):Bool:=agc (aip bl src H=aga (ab2 src) H)&&agc (agb bl src H=acG (ab2 src) H)
def aiq (src:zdI) (J:zdU) (H:List SV->Bool) (R:Nat->ahc):MCtr:=λbl nx args=>
 bif H args&&ahb bl src J then some (rcL (aeT bl src J) (R nx)) else none
variable {P:Program}
theorem afA {W0:Base} {F:FuncId} {ok:FuncId->Bool} {Γ:zdO} {Γm:FuncId->Option MCtr} {Δ:FuncId->Option DCtr} {Cs:zdU} {args':List SV->Bool} {R:Nat->ahc} {args0:zdK} {ann:zdV} {n:Nat}
 (H: ∀B:Base,SubB B W0->HypD P B ok Γ Γm Δ) (Y: ∀args,args' args=true->SV.rns (ab2 src) args0=some args) (hu:src.Nodup) (Z:Far (src.map some) Cs)
 (V: ∀b nx,Ay P ok Γ Γm Δ ann n F args0 (λi=>Cs[i]?) Cs.length [] (KB (rcL b (R nx)) (src.map some) Cs nx)):VU P W0 F (aiq src Cs args' R):=
 c8 H λbl nx args C J hp=>by
  unfold aiq at J;cases N:(args' args&&ahb bl src Cs) with
  |false=>rw[N] at J;cases J
  |true=>
   rw[N,zdr] at J;simp only[za1] at J;subst J;rw[za2] at N;have hp:aeT bl src Cs=true:=hp;simp only[aeT,za2,ac5] at hp;exact⟨src.map some,Cs,args0,ann,n,by rw[afy];exact ael N.2 hp.1 hp.2,aeB (by rw[adz];exact hu),Z,by rw[afy];exact Y args N.1,V _ nx⟩
def orM (k l:MCtr):MCtr:=λbl nx args=>match k bl nx args with
 |some C=>some C
 |none=>l bl nx args
theorem aeU {B:Base} {f:FuncId} {k l:MCtr} (N:VU P B f k) (V:VU P B f l):VU P B f (orM k l):=by
 intro bl β w nx args C a b c d e p;unfold orM at e;split at e
 ·rename_i H J;obtain rfl:H=C:=by simpa using e
  exact N bl β w nx args _ a b c d J p
 ·exact V bl β w nx args _ a b c d e p
def adQ:List Nat->List Blk->List (Nat×Blk)
 |i::r,C::H=>(i,{C with kd:= .gone})::adQ r H
 |_,_=> []
theorem aem {bl:zdM} {g:zdY}: ∀{t:zdI} {tb:zdU} {j:Nat},t.length=tb.length->(∀C∈tb,C.kd= .own)->(∀k,k<tb.length->(bl (j+k)).isSome=true)->chR bl g (t.map some) tb j (adQ t tb)
 | [], [],_,_,_,_=>trivial
 |i::r,C::Z,j,H,V,N=>by
  have J:=V C (zbF ..);have h0:=N 0 (by simp);rw[zaY] at h0;obtain⟨B,hB⟩:=Option.isSome_iff_exists.1 h0;simp only[zaK,adQ,chR,J,cN];refine⟨trivial, .inl trivial, ?_,aem (by simpa using H) (λD Y=>V D (zan _ Y)) λk J=> ?_⟩
  ·rw[hB];exact .inl rfl
  ·have:=N (k+1) (by simpa using J);rwa[show j+(k+1)=j+1+k by omega] at this
 | [],_::_,_,H,_,_=>by simp at H
 |_::_, [],_,H,_,_=>by simp at H
end Go.Sy
namespace Go.Proofs.YtojcellmcbnmeaaGreatDoor
open Go.Proofs.Tryz
open Go Go.RowKit Go.Sy Yk
def adb:SV:= .val (.slice none 0 0)
def cP9 (H iN:SV) (o:Un) (J:Nat):zdK:= .val (.int .i64 1)::H::iN::(ci o++ [.ptr J 0 0])
def adc (n:Nat) (cs:zdK):Blk:={n:=1,sz:=n,get:=λ_=>cs,kd:= .own}
def fnO (n:Nat) (x y:SV):Blk:={n:=n,sz:=1,get:=fnG x y,kd:= .old}
def np (iN iU:SV):zdU:= [adc 24 (cP9 (.slc 7 0 2) iN noU 1),adc 3 [.mp 2, .slc 7 0 2,iU],ail (opV 3 4 5 6),fnO 2 fnL fnR,fnO 1 fnN fnN,fnO 2 fnL fnN,fnO 1 fnL fnL,eU.old [u0,u2]]
def ajC (n sz:Nat):Blk:={n:=n,sz:=sz,get:=λ_=> [],kd:= .gone,nn:=false}
def CsE (k:Nat) (us:zdZ):zdU:= [adc 24 (cP9 (.slc 3 0 2) (.slc 5 0 k) noU 1),{adc 3 [.mp 2, .slc 3 0 2, .slc 4 0 k] with kd:= .old},ajC 0 0,ajC 2 20,eU.old us,ajC k 26]
def alm (g:zdN):Nat->List (zdK)
 |0=> []
 |n+1=>alm g n++ [g n]
def air (bl:zdM):zdQ
 |0=>true
 |n+1=>(bl n).isSome&&air bl n
abbrev ade:=(FuncId×Int×List SV×Nat×List (zdK)×List (zdK))×(zdN)
def okN (L:Nat) (bl:zdM) (P C M U N:Blk) (p n J H q m m' i j:Nat):Bool:=
 (isO P.kd&&(Nat.beq P.n 1&&(Nat.beq P.sz 24&&P.nn)))&&((isO C.kd&&(Nat.beq C.n 1&&(Nat.beq C.sz 3&&C.nn)))&&((isL M.kd&&(Nat.beq M.n 0&&(Nat.beq M.sz 0&&M.nn)))&&
 ((isO U.kd&&(Nat.beq U.sz 20&&Nat.ble m U.n))&&((isO N.kd&&(Nat.beq N.sz 26&&Nat.ble m N.n))&&((!Nat.beq i j&&(Nat.ble L i&&Nat.ble L j))&&
 ((Nat.beq p 7&&(Nat.beq n 2&&(Nat.beq J 7&&(Nat.beq H 2&&(Nat.beq q 2&&Nat.beq m m')))))&&air bl L))))))
def ajD (L:Nat) (bl:zdM):SV->Option ade
 | .fn (.func F) [] []=>match bl 0,bl 1,bl 2 with
   |some P,some C,some M=>match P.get 0,C.get 0 with
    | .val (.int .i64 id):: .slc p 0 n:: .slc j 0 m::r, [.mp q, .slc J 0 H, .slc i 0 m']=>match bl i,bl j with
      |some U,some N=>bif okN L bl P C M U N p n J H q m m' i j then some ((F,id,r,m,alm U.get m,alm N.get m),M.get) else none
      |_,_=>none
    |_,_=>none
   |_,_,_=>none
 |_=>none
def KN (L:Nat) (Q:Option ade->Prop):Aft:=λr bl _ _=>match r with
 | .ok s=>Q (ajD L bl s)
 | .pan _=>False
theorem afB {bl:zdM}: ∀{n k:Nat},air bl n=true->k<n->(bl k).isSome=true
 |n+1,k,h,H=>by
  rw[air,za2] at h;rcases zah k n with q|q
  ·exact afB h.2 q
  ·obtain rfl:k=n:=by omega
   exact h.1
variable {bl:zdM} {s:SV} {F:FuncId} {id:Int} {m:Nat} {cu cn:List (zdK)}
theorem ahd {L:Nat} {r:zdK} {G:zdN} (h:ajD L bl s=some ((F,id,r,m,cu,cn),G)):
 ∃(i j:Nat) (P C M U N:Blk),s= .fn (.func F) [] []/\bl 0=some P/\bl 1=some C/\bl 2=some M/\bl i=some U/\bl j=some N/\P.get 0= .val (.int .i64 id):: .slc 7 0 2:: .slc j 0 m::r/\C.get 0= [.mp 2, .slc 7 0 2, .slc i 0 m]/\M.get=G/\
  (P.kd= .own/\P.n=1/\P.sz=24/\P.nn=true)/\(C.kd= .own/\C.n=1/\C.sz=3/\C.nn=true)/\(M.kd= .mpL/\M.n=0/\M.sz=0/\M.nn=true)/\(U.kd= .own/\U.sz=20/\m<=U.n)/\(N.kd= .own/\N.sz=26/\m<=N.n)/\i≠j/\L<=i/\L<=j/\(∀k,k<L->(bl k).isSome=true)/\alm U.get m=cu/\alm N.get m=cn:=by
 unfold ajD at h;split at h
 ·split at h
  ·rename_i P C M hP hC hM;split at h
   ·rename_i q1 q2;split at h
    ·rename_i U N hU hN;cases H:okN L bl P C M U N _ _ _ _ _ _ _ _ _ with
     |false=>rw[H] at h;cases h
     |true=>
      rw[H,zdr] at h;simp only[za1,zag] at h;obtain⟨⟨rfl,rfl,rfl,rfl,rfl,rfl⟩,rfl⟩:=h;simp only[okN,za2,zap] at H;obtain⟨⟨V,Y,Z,a4⟩,⟨b1,b2,b3,b4⟩,⟨c1,c2,c3,c4⟩,⟨d1,d2,d3⟩,⟨e1,e2,e3⟩,⟨f1,f2,f3⟩,⟨g1,g2,g3,g4,g5,g6⟩,k⟩:=H;obtain rfl:=zab g1;obtain rfl:=zab g2;obtain rfl:=zab g3;obtain rfl:=zab g4;obtain rfl:=zab g5;obtain rfl:=zab g6;refine⟨_,_,P,C,M,U,N,rfl,hP,hC,hM,hU,hN,q1,q2,rfl,⟨alK V,zab Y,zab Z,a4⟩,⟨alK b1,zab b2,zab b3,b4⟩,⟨afz c1,zab c2,zab c3,c4⟩,⟨alK d1,zab d2,zak d3⟩,⟨alK e1,zab e2,zak e3⟩, ?_,zak f2,zak f3,λk' J=>afB k J,rfl,rfl⟩;intro e;subst e;rw[Nat.beq_refl] at f1;cases f1
    ·cases h
   ·cases h
  ·cases h
 ·cases h
variable {a:Addr} {ann:zdV} {n:Nat} {f:FuncId} {args:zdK} {Cs:zdU} {K K':Aft}
theorem ab3 (h:k8 a ann n f args Cs K) (H: ∀r b n w,K r b n w->K' r b n w):k8 a ann n f args Cs K':=by
 unfold k8 at h ⊢;exact NiceT.mono (Ea _ _ _ _ _ _ f args _ _ _ (λi hi=>zad hi)) h λr b n w _=>H r b n w
structure I9 where
 p:Nat
 c:Nat
 m:Nat
 f1:Nat
 f2:Nat
 f3:Nat
 f4:Nat
 i:Nat
def I9.src (x:I9) (t:zdI):zdI:=x.p::x.c::x.m::x.f1::x.f2::x.f3::x.f4::x.i::t
def akG (x:I9) (t:zdI) (tb:zdU) (us:zdZ) (ns:ze0) (k:Nat) (nx:Nat):ahc:=
 (.fn (.func 218) [] [], [eU.own us,eN.own ns],(x.p,adc 24 (cP9 (.slc x.i 0 2) (.slc (nx+1) 0 k) noU x.c))::(x.c,adc 3 [.mp x.m, .slc x.i 0 2, .slc nx 0 k])::(x.m,ail (opV x.f1 x.f2 x.f3 x.f4))::adQ t tb)
theorem adA {α:Type} {E:El α} {g:zdN} {l:List α} (h:alm g l.length=l.map E.sv): ∀e,e<l.length->g e=E.get l e:=by
 have: ∀n,alm g n=(List.range n).map g:=by
  intro n
  induction n with
  |zero=>rfl
  |succ n J=>rw[alm,J,zd3,zb8];rfl
 rw[this] at h;intro e H;have h1:=congrArg (λl=>l[e]?) h;simp only[zaL,List.getElem?_range H,zb0] at h1;rw[Co (d:=E.d) H] at h1;simp only[zb0,za1] at h1;exact h1
variable {x:I9}
theorem afC {g:zdY} (h3:g 3=some (some x.f1)) (h4:g 4=some (some x.f2)) (h5:g 5=some (some x.f3)) (h6:g 6=some (some x.f4)): ∀k,k<8->(opV 3 4 5 6 k).rn g=some (opV x.f1 x.f2 x.f3 x.f4 k):=λk H=>by
 match k,H with
 |0,_=>rfl
 |1,_=>simp only[opV,SV.rn,SV.rns,h4]
 |2,_=>simp only[opV,SV.rn,SV.rns,h3]
 |3,_=>simp only[opV,SV.rn,SV.rns,h3]
 |4,_=>simp only[opV,SV.rn,SV.rns,h3]
 |5,_=>simp only[opV,SV.rn,SV.rns,h3]
 |6,_=>simp only[opV,SV.rn,SV.rns,h5]
 |7,_=>simp only[opV,SV.rn,SV.rns,h6]
def obk (k:Nat) (us:zdZ) (ns:ze0):ade:=((218,1,ci noU++ [.ptr 1 0 0],k,us.map ci,ns.map svN),opG (opV 3 4 5 6) 8)
variable {t wl:zdI} {tb:zdU} {us:zdZ} {ns:ze0} {k nx:Nat} {iN iU:SV} {b:Bool} {r:Res}
theorem kbN (hl:t.length=tb.length) (ho: ∀C∈tb,C.kd= .own) (hu:us.length=k) (Z:ns.length=k) (Y:1<=k)
 (h:KN (8+tb.length) (λq=>q=some (obk k us ns)) r bl n wl):KB (rcL b (akG x t tb us ns k nx)) ((x.src t).map some) (np iN iU++tb) nx r bl n wl:=by
 cases r with
 |pan v=>exact h.elim
 |ok s=>
  obtain⟨i,j,P,C,M,U,N,rfl,hP,hC,hM,hU,hN,p1,c1,m1,⟨p2,p3,p4,p5⟩,⟨c2,c3,c4,c5⟩,⟨m2,m3,m4,m5⟩,⟨u1,a0,u3⟩,⟨n1,n2,n3⟩,V,li,lj,ha,cu,cn⟩:=ahd h;have e0:((x.src t).map some).length=8+tb.length:=by simp[I9.src,hl];omega
  have gi: ∀q,8+tb.length<=q->rnG ((x.src t).map some) [some i,some j] nx q=match D9 [some i,some j] q nx with
   |some j=>some (some j)
   |none=>none:=λq hq=>by
   unfold rnG;rw[zad (by omega)];rfl
  have g1:rnG ((x.src t).map some) [some i,some j] nx i=some (some nx):=by
   rw[gi i li];simp[D9]
  have g2:rnG ((x.src t).map some) [some i,some j] nx j=some (some (nx+1)):=by
   rw[gi j lj,D9,D9,show Nat.beq i j=false from by rw[bS];exact zds V,zdq,show Nat.beq j j=true from by rw[bS];exact zdp rfl];rfl
  have H:(np iN iU++tb).length=8+tb.length:=by simp[np];omega
  subst hu;refine⟨(),trivial, [some i,some j],⟨_,rfl,rfl⟩,by simp[ck,V],⟨⟨by rw[H];exact li, ?_⟩,⟨by rw[H];exact lj, ?_⟩,trivial⟩, ?_⟩
  ·rw[hU];refine⟨by simp[El.own],λ_=> .inr ⟨Y,eU.one⟩,gC u1 a0 u3 λe J=>adA (E:=eU) cu e J⟩
  ·rw[hN];refine⟨by simp[El.own],λ_=> .inr ⟨by simpa [El.own,Z] using Y,eN.one⟩,gC n1 n2 (by rw[Z];exact n3) λe J=>adA (E:=eN) (by rw[Z];exact cn) e J⟩
  ·have e7:rnG ((x.src t).map some) [some i,some j] nx 7=some (some x.i):=rfl;have eP:SV.rns (rnG ((x.src t).map some) [some i,some j] nx) (P.get 0)=some (cP9 (.slc x.i 0 2) (.slc (nx+1) 0 us.length) noU x.c):=by
    rw[p1];refine ar rfl (ar (by simp only[SV.rn,e7]) (ar (by simp only[SV.rn,g2]) ?_));rfl
   have eC:SV.rns (rnG ((x.src t).map some) [some i,some j] nx) (C.get 0)=some [.mp x.m, .slc x.i 0 2, .slc nx 0 us.length]:=by
    rw[c1];exact ar rfl (ar (by simp only[SV.rn,e7]) (ar (by simp only[SV.rn,g1]) rfl))
   have hg:=aem (bl:=bl) (g:=rnG ((x.src t).map some) [some i,some j] nx) (j:=8) hl ho λk Y=>ha (8+k) (by omega);refine⟨rfl, .inl rfl, ?_,rfl, .inl rfl, ?_,rfl, .inr (λe=>by cases e), ?_,hg⟩
   ·rw[hP];refine .inr ⟨p2.symm,p4.symm,λ_=>p5,by rw[p3];exact za0 _,λe J=> ?_⟩;obtain rfl:e=0:=by simp[adc] at J;omega
    exact eP
   ·rw[hC];refine .inr ⟨c2.symm,c4.symm,λ_=>c5,by rw[c3];exact za0 _,λe J=> ?_⟩;obtain rfl:e=0:=by simp[adc] at J;omega
    exact eC
   ·rw[hM];refine .inr ⟨m2.symm,m4.symm,λ_=>m5,by rw[m3];exact za0 _,λe=> ?_⟩;rw[m1];exact adN e 8 (afC rfl rfl rfl rfl)
def ais (p:Nat) (T:zdH):List SV->Bool
 | [.ptr i 0 0, .val (.string s)]=>Nat.beq i p&&seq T s
 |_=>false
variable {src:zdI} {T:zdH}
theorem afD {x:Nat} (h:ais x T args=true):SV.rns (ab2 (x::src)) [.ptr 0 0 0, .val (.string T)]=some args:=by
 unfold ais at h;split at h
 ·rw[za2] at h;obtain rfl:=zab h.1;obtain rfl:=We.1 h.2;rfl
 ·cases h
theorem akH (h: ∀C∈tb,C.kd= .own) (src:zdT):Far src (np iN iU++tb):= .inr λj C i H _ J=>by
 match j,H with
 |0,H=>obtain rfl:=zbk H;cases J
 |1,H=>obtain rfl:=zbk H;cases J
 |2,H=>obtain rfl:=zbk H;cases J
 |3,H=>obtain rfl:=zbk H;exact⟨by decide,by decide⟩
 |4,H=>obtain rfl:=zbk H;exact⟨by decide,by decide⟩
 |5,H=>obtain rfl:=zbk H;exact⟨by decide,by decide⟩
 |6,H=>obtain rfl:=zbk H;exact⟨by decide,by decide⟩
 |7,H=>obtain rfl:=zbk H;exact⟨by decide,by decide⟩
 |q+8,H=>
  have H:tb[q]? =some C:=H;rw[h C (zal H)] at J;cases J
def kN9 (x:I9) (t:zdI) (tb:zdU) (iN iU:SV) (T:zdH) (us:zdZ) (ns:ze0) (k:Nat):MCtr:=aiq (x.src t) (np iN iU++tb) (ais x.p T) (akG x t tb us ns k)
theorem aeV (J:(x.src t).Nodup) (V:t.length=tb.length) (H: ∀C∈tb,C.kd= .own) (hu:us.length=k) (Y:ns.length=k) (N:1<=k)
 (h: ∀Q:Option ade->Prop,Q (some (obk k us ns))->k8 a ann 9 F [.ptr 0 0 0, .val (.string T)] (np iN iU++tb) (KN (8+tb.length) Q)):
 ∀B:Base,GlobEB a B->VU prog B F (kN9 x t tb iN iU T us ns k):=λB hB=>
 afA (ann:=ann) (n:=9) (λB' Z=>aha (hB.sub Z)) (λargs h=>afD h) J (akH H _) λb nx=>by
  have:=ab3 (h (λq=>q=some (obk k us ns)) rfl) λr b' n wl hq=>kbN (x:=x) (t:=t) (b:=b) (nx:=nx) (iN:=iN) (iU:=iU) V H hu Y N hq;unfold k8 at this;exact this
abbrev tb1:zdU:= [eU.own [u0],eN.own [nI9 0]]
abbrev tb2:zdU:= [eU.own [u0,u2],eN.own [nI9 0,nI9 1]]
theorem akI (a:Addr) (I:ByteArray->WdX->Prop) (Q:Option ade->Prop):k8 a (alF I) 9 218 [.ptr 0 0 0, .val (.string aeO)] (np adb adb++ []) (KN 8 Q)=
 adL (I ti9) (opV 3 4 5 6) (mT9 0 aeO ti9 t09 20 28) ti9 2 (uK (uK (uK (Q (some (obk 1 [u0] [nI9 0])))))):=by kernel_rfl
theorem akJ (a:Addr) (I:ByteArray->WdX->Prop) (Q:Option ade->Prop):k8 a (alF I) 9 218 [.ptr 0 0 0, .val (.string aeP)] (np (.slc 9 0 1) (.slc 8 0 1)++tb1) (KN 10 Q)=
 adL (I ti9) (opV 3 4 5 6) (mT9 0 aeP ti9 t19 22 30) ti9 2 (uK (uK (uK (Q (some (obk 2 [u0,u2] [nI9 0,nI9 1])))))):=by kernel_rfl
theorem akK (a:Addr) (I:ByteArray->WdX->Prop) (Q:Option ade->Prop):k8 a (alF I) 9 218 [.ptr 0 0 0, .val (.string aeQ)] (np (.slc 9 0 2) (.slc 8 0 2)++tb2) (KN 10 Q)=
 adL (I td9) (opV 3 4 5 6) (mT9 0 aeQ td9 ak7 22 30) td9 6 (uK (uK (uK (uK (Q (some (obk 3 [u0,u2,uo] [nI9 0,nI9 1,nD9]))))))):=by kernel_rfl
def ajF (bl:zdM):SV->Option (FuncId×List SV)
 | .fn (.func F) [] []=>match bl 0 with
   |some P=>bif isO P.kd&&(Nat.beq P.n 1&&(Nat.beq P.sz 24&&P.nn)) then some (F,P.get 0) else none
   |none=>none
 |_=>none
def KE (Q:Option (FuncId×List SV)->Prop):Aft:=λr bl _ _=>match r with
 | .ok s=>Q (ajF bl s)
 | .pan _=>False
theorem akL (a:Addr) (I:ByteArray->WdX->Prop) (Q:Option (FuncId×List SV)->Prop):k8 a (alF I) 9 218 [.ptr 0 0 0, .val (.string ajE)] (CsE 3 [u0,u2,uo]) (KE Q)=
 uK (Q (some (281,cP9 (.slc 3 0 2) (.slc 5 0 3) uo 1))):=by kernel_rfl
def akM (p c i n k:Nat):ahc:=(.fn (.func 281) [] [], [], [(p,adc 24 (cP9 (.slc i 0 2) (.slc n 0 k) uo c))])
theorem ahe {cs:zdK} (h:ajF bl s=some (F,cs)): ∃P,s= .fn (.func F) [] []/\bl 0=some P/\P.get 0=cs/\P.kd= .own/\P.n=1/\P.sz=24/\P.nn=true:=by
 unfold ajF at h;split at h
 ·split at h
  ·rename_i P Z;cases H:(isO P.kd&&(Nat.beq P.n 1&&(Nat.beq P.sz 24&&P.nn))) with
   |false=>rw[H] at h;cases h
   |true=>
    rw[H,zdr] at h;simp only[za1,zag] at h;obtain⟨rfl,rfl⟩:=h;simp only[za2] at H;obtain⟨J,N,V,Y⟩:=H;exact⟨P,rfl,Z,rfl,alK J,zab N,zab V,Y⟩
  ·cases h
 ·cases h
variable {p c i:Nat}
theorem ala {u:Nat} {q:Nat} 
 (h:KE (λq=>q=some (281,cP9 (.slc 3 0 2) (.slc 5 0 k) uo 1)) r bl q wl):KB (rcL b (akM p c i n k)) ([p,c,m,i,u,n].map some) (CsE k us) nx r bl q wl:=by
 cases r with
 |pan v=>exact h.elim
 |ok s=>
  obtain⟨P,rfl,H,N,V,Y,Z,p5⟩:=ahe h;refine⟨(),trivial, [],⟨_,rfl,rfl⟩,zcA,trivial,rfl, .inl rfl, ?_,trivial⟩;rw[H];refine .inr ⟨V.symm,Z.symm,λ_=>p5,by rw[Y];exact za0 _,λe J=> ?_⟩;obtain rfl:e=0:=by simp[adc] at J;omega
  rw[N];rfl
def kE9 (p c m i u n k:Nat) (us:zdZ) (T:zdH):MCtr:=aiq [p,c,m,i,u,n] (CsE k us) (ais p T) (λ_=>akM p c i n k)
theorem ajG {u:Nat} (J: [p,c,m,i,u,n].Nodup)
 (h: ∀Q:Option (FuncId×List SV)->Prop,Q (some (281,cP9 (.slc 3 0 2) (.slc 5 0 k) uo 1))->k8 a ann 9 F [.ptr 0 0 0, .val (.string T)] (CsE k us) (KE Q)):
 ∀B:Base,GlobEB a B->VU prog B F (kE9 p c m i u n k us T):=λB hB=>
 afA (ann:=ann) (n:=9) (λB' N=>aha (hB.sub N)) (λargs h=>afD h) J (.inl λC H=>by
  simp only[CsE,zai,zbx,or_false] at H
  rcases H with rfl|rfl|rfl|rfl|rfl|rfl<;>rfl) λb nx=>by
  have:=ab3 (h (λq=>q=some (281,cP9 (.slc 3 0 2) (.slc 5 0 k) uo 1)) rfl) λr V Y wl hq=>ala (k:=k) (nx:=nx) (m:=m) (u:=u) (n:=n) (p:=p) (c:=c) (i:=i) (us:=us) (b:=b) hq;unfold k8 at this;exact this
def xI9:I9:=⟨4,403,400,396,397,398,399,311⟩
def ahf:MCtr:=
 orM (kN9 xI9 [] [] adb adb aeO [u0] [nI9 0] 1) (orM (kN9 xI9 [410,411] tb1 (.slc 9 0 1) (.slc 8 0 1) aeP [u0,u2] [nI9 0,nI9 1] 2)
  (orM (kN9 xI9 [448,449] tb2 (.slc 9 0 2) (.slc 8 0 2) aeQ [u0,u2,uo] [nI9 0,nI9 1,nD9] 3) (kE9 4 403 400 311 485 486 3 [u0,u2,uo] ajE)))
theorem afE: ∀C∈tb1,C.kd= .own:=λC H=>by
 rcases zai.1 H with rfl|H
 ·rfl
 ·rw[zaj.1 H];rfl
theorem afF: ∀C∈tb2,C.kd= .own:=λC H=>by
 rcases zai.1 H with rfl|H
 ·rfl
 ·rw[zaj.1 H];rfl
theorem agd: ∀B:Base,GlobEB a B->VU prog B 218 ahf:=λB hB=>by
 have h1: ∀Q:Option ade->Prop,Q (some (obk 1 [u0] [nI9 0]))->k8 a (alF aeM) 9 218 [.ptr 0 0 0, .val (.string aeO)] (np adb adb++ []) (KN (8+0) Q):=λQ H=>by
  rw[akI];exact acn aeN rfl λ_ _ _ _ _ _=>H
 have h2: ∀Q:Option ade->Prop,Q (some (obk 2 [u0,u2] [nI9 0,nI9 1]))->k8 a (alF aeM) 9 218 [.ptr 0 0 0, .val (.string aeP)] (np (.slc 9 0 1) (.slc 8 0 1)++tb1) (KN (8+2) Q):=λQ H=>by
  rw[akJ];exact acn aeN rfl λ_ _ _ _ _ _=>H
 have h3: ∀Q:Option ade->Prop,Q (some (obk 3 [u0,u2,uo] [nI9 0,nI9 1,nD9]))->k8 a (alF aeM) 9 218 [.ptr 0 0 0, .val (.string aeQ)] (np (.slc 9 0 2) (.slc 8 0 2)++tb2) (KN (8+2) Q):=λQ H=>by
  rw[akK];exact acn aeN rfl λ_ _ _ _ _ _ _ _=>H
 have h4: ∀Q:Option (FuncId×List SV)->Prop,Q (some (281,cP9 (.slc 3 0 2) (.slc 5 0 3) uo 1))->k8 a (alF aeM) 9 218 [.ptr 0 0 0, .val (.string ajE)] (CsE 3 [u0,u2,uo]) (KE Q):=λQ H=>by
  rw[akL];exact λ_ _=>H
 exact aeU (aeV (x:=xI9) (t:= []) (tb:= []) (us:= [u0]) (ns:= [nI9 0]) (k:=1) (iN:=adb) (iU:=adb) (T:=aeO) (by decide) rfl (λC J=>by cases J) rfl rfl (by decide) h1 B hB)
  (aeU (aeV (x:=xI9) (t:= [410,411]) (tb:=tb1) (us:= [u0,u2]) (ns:= [nI9 0,nI9 1]) (k:=2) (iN:= .slc 9 0 1) (iU:= .slc 8 0 1) (T:=aeP) (by decide) rfl afE rfl rfl (by decide) h2 B hB)
  (aeU (aeV (x:=xI9) (t:= [448,449]) (tb:=tb2) (us:= [u0,u2,uo]) (ns:= [nI9 0,nI9 1,nD9]) (k:=3) (iN:= .slc 9 0 2) (iU:= .slc 8 0 2) (T:=aeQ) (by decide) rfl afF rfl rfl (by decide) h3 B hB) (ajG (by decide) h4 B hB)))
def ait:zdX:=(218,ahf)::af7
theorem aiu:MEk a ait:=adO.cons agd
@[irreducible] def acf (a:Addr) (ann:zdV) (n:Nat) (f:FuncId) (args:zdK) (Cs:zdU) (K:Aft):Prop:=
 Ay prog (iR yr) (gw g9s) (gx ait) (dF a) ann n f args (λi=>Cs[i]?) Cs.length [] K
variable {B:Base}
theorem akN (hB:GlobEB a B):HypD prog B (iR yr) (gw g9s) (gx ait) (dF a):=
 have h:=ac9 (gm:=ait) adv aiu hB
 ⟨h.gam,h.mem,h.dem,λf H=>by
   unfold iR at H;simp only[zaP] at H;obtain⟨g,hg,J⟩:=H
   rw[zab J];exact vT g hg,h.mixed⟩
theorem aeW (h:acf a ann n f args Cs K) (H: ∀r b n w,K r b n w->K' r b n w):acf a ann n f args Cs K':=by
 unfold acf at h ⊢;exact NiceT.mono (Ea _ _ _ _ _ _ f args _ _ _ (λi hi=>zad hi)) h λr b n w _=>H r b n w
abbrev aen:=Int×Nat×Nat×Int×Int×List (zdK)×List (zdK)×List SV
def ahg:BK->Bool
 | .own=>true
 |_=>false
def ajH (bl:zdM):SV->Option aen
 | .tup [.agg (.val (.int .i64 id):: .slc i 0 n:: .slc j 0 m::r), .val (.int .i64 z), .val (.int .i64 e)]=>match bl i,bl j with
   |some B,some C=>bif ahg B.kd&&(ahg C.kd&&(Nat.beq B.sz 20&&(Nat.beq C.sz 26&&(Nat.ble n B.n&&(Nat.ble m C.n&& !Nat.beq i j))))) then some (id,n,m,z,e,alm B.get n,alm C.get m,r) else none
   |_,_=>none
 |_=>none
def K9 (Q:Option aen->Prop):Aft:=λr bl _ _=>match r with
 | .ok s=>Q (ajH bl s)
 | .pan _=>False
def aiv:aen:=(1,2,3,0,0, [ci u0,ci u2], [svN (nI9 0),svN (nI9 1),svN nD9],ci uo)
def akO (src:zdI) (H:zdU) (G:List (Nat->Option (zdK))):Bool:=agc (aga (ab2 src) H=aga (ab2 src) H)&&agc (G=acG (ab2 src) H)
def age:List (Nat->Option (zdK)):= [λe=>some (opG (opV 396 397 398 399) 8 e)]
def nd9 (src:zdI) (H:zdU) (G:List (Nat->Option (zdK))) (K:Prop):Prop:=af (akO src H G) (uK K)
def afG (Q:Option aen->Prop):Prop:=
 uK (uK (uK (uK (uK (nd9 (xI9.src []) (np adb adb++ []) age (nd9 (xI9.src [410,411]) (np (.slc 9 0 1) (.slc 8 0 1)++tb1) age (nd9 (xI9.src [448,449]) (np (.slc 9 0 2) (.slc 8 0 2)++tb2) age (
  nd9 [4,403,400,311,485,486] (CsE 3 [u0,u2,uo]) [] (Q (some aiv))))))))))
theorem agf (a:Addr) (Q:Option aen->Prop):acf a zl 9 16 [.val (.string spT)] [] (K9 Q)=afG Q:=by kernel_rfl
theorem adR (h: ∀C∈tb,C.kd= .own):age=acG (ab2 (xI9.src t)) (np iN iU++tb):=by
 have e:acG (ab2 (xI9.src t)) tb= []:=by
  generalize ab2 (xI9.src t)=f
  induction tb with
  |nil=>rfl
  |cons C r J=>
   rw[acG,h C (zbF ..)];exact J λD H=>h D (zan _ H)
 show age=(λe=>SV.rns (ab2 (xI9.src t)) (opG (opV 3 4 5 6) 8 e))::acG (ab2 (xI9.src t)) tb;rw[e];unfold age
 congr 1
 funext e
 exact(adN e 8 (afC (x:=xI9) rfl rfl rfl rfl)).symm
theorem adS {G:List (Nat->Option (zdK))} {K:Prop} (h:G=acG (ab2 src) Cs) (k:K):nd9 src Cs G K:=by
 unfold nd9 akO uK;refine ac ?_ λ_ _=>k;rw[za2];exact⟨ac5.2 rfl,ac5.2 h⟩
theorem aeX {Q:Option aen->Prop} (J:Q (some aiv)):acf a zl 9 16 [.val (.string spT)] [] (K9 Q):=by
 rw[agf];unfold afG;exact λ_ _ _ _ _ _ _ _ _ _=>adS (adR λC H=>by cases H) (adS (adR afE) (adS (adR afF) (adS rfl J)))
theorem aeo {k:BK} (h:ahg k=true):k= .own:=by cases k<;>first|rfl|cases h
theorem ahh {z e:Int} {r:zdK} (h:ajH bl s=some (id,n,m,z,e,cu,cn,r)):
 ∃(i j:Nat) (B C:Blk),s= .tup [.agg (.val (.int .i64 id):: .slc i 0 n:: .slc j 0 m::r), .val (.int .i64 z), .val (.int .i64 e)]/\bl i=some B/\bl j=some C/\B.kd= .own/\C.kd= .own/\B.sz=20/\C.sz=26/\n<=B.n/\m<=C.n/\i≠j/\alm B.get n=cu/\alm C.get m=cn:=by
 unfold ajH at h;split at h
 ·split at h
  ·rename_i B C hB J;cases H:(ahg B.kd&&(ahg C.kd&&(Nat.beq B.sz 20&&(Nat.beq C.sz 26&&(Nat.ble _ B.n&&(Nat.ble _ C.n&& !Nat.beq _ _)))))) with
   |false=>rw[H] at h;cases h
   |true=>
    rw[H,zdr] at h;simp only[za1,zag] at h;obtain⟨rfl,rfl,rfl,rfl,rfl,rfl,rfl,rfl⟩:=h;simp only[za2,zap] at H;obtain⟨h1,h2,h3,h4,h5,h6,h7⟩:=H;refine⟨_,_,B,C,rfl,hB,J,aeo h1,aeo h2,zab h3,zab h4,zak h5,zak h6, ?_,rfl,rfl⟩;intro q;subst q;rw[Nat.beq_refl] at h7;cases h7
  ·cases h
 ·cases h
def rcP (nx:Nat) (id:Int) (u v:Un) (x y w:Nd) (o:Un):RC:={X:=Unit,pre:=true,spec:=λ_=>True,out:=λ_=> .tup [.agg (.val (.int .i64 id):: .slc nx 0 2:: .slc (nx+1) 0 3::ci o), .val (.int .i64 0), .val (.int .i64 0)],nw:=λ_=> [eU.own [u,v],eN.own [x,y,w]],ex:=λ_=>⟨(),trivial⟩}
variable {u v o:Un} {y w:Nd}
theorem alb {x:Nd} (h:K9 (λq=>q=some (id,2,3,0,0, [ci u,ci v], [svN x,svN y,svN w],ci o)) r bl n wl):KB (rcP nx id u v x y w o) [] [] nx r bl n wl:=by
 cases r with
 |pan v=>exact h.elim
 |ok s=>
  obtain⟨i,j,B,C,rfl,hB,Y,k1,k2,z1,z2,Z,n2,N,H,c2⟩:=ahh h;have e:=rns_free (f:=dt [] [some i,some j] nx) (fj o);have V:dt [] [some i,some j] nx nx=some (some i):=cO;have e1:dt [] [some i,some j] nx (nx+1)=some (some j):=jA 1;have H: [B.get 0,B.get 1]= [ci u,ci v]:=H;have c2: [C.get 0,C.get 1,C.get 2]= [svN x,svN y,svN w]:=c2;simp only[zc9,and_true] at H c2;refine⟨(),trivial, [some i,some j],⟨_,rfl, ?_⟩,by simp[ck,N],⟨⟨zaA _, ?_⟩,⟨zaA _, ?_⟩,trivial⟩,trivial⟩
  ·exact xh (ar (Xs (ar rfl (ar (by simp only[SV.rn,V]) (ar (by simp only[SV.rn,e1]) e)))) rfl)
  ·rw[hB];refine⟨by simp[El.own],λ_=> .inr ⟨by simp[El.own],eU.one⟩,gC k1 z1 Z λe J=> ?_⟩;rcases(show e=0\/e=1 by simp at J;omega) with rfl|rfl
   ·exact H.1
   ·exact H.2
  ·rw[Y];refine⟨by simp[El.own],λ_=> .inr ⟨by simp[El.own],eN.one⟩,gC k2 z2 n2 λe J=> ?_⟩;rcases(show e=0\/e=1\/e=2 by simp at J;omega) with rfl|rfl|rfl
   ·exact c2.1
   ·exact c2.2.1
   ·exact c2.2.2
def kP9 (T:zdH) (id:Int) (u v:Un) (x y w:Nd) (o:Un):MCtr:=λ_ nx args=>match args with
 | [.val (.string s)]=>bif seq T s then some (rcP nx id u v x y w o) else none
 |_=>none
theorem ajI {x:Nd} (h: ∀Q:Option aen->Prop,Q (some (id,2,3,0,0, [ci u,ci v], [svN x,svN y,svN w],ci o))->acf a ann 9 f [.val (.string T)] [] (K9 Q)):
 ∀B:Base,GlobEB a B->VU prog B f (kP9 T id u v x y w o):=λB hB=>c8 (λB' V=>akN (hB.sub V)) λbl nx args C H hp=>by
 unfold kP9 at H;split at H
 ·rename_i s;cases N:seq T s with
  |false=>rw[N] at H;cases H
  |true=>
   rw[N,zdr] at H;simp only[za1] at H;subst H;obtain rfl:=We.1 N;have key:acf a ann 9 f [.val (.string T)] [] (KB (rcP nx id u v x y w o) [] [] nx):=aeW (h (λq=>q=some (id,2,3,0,0, [ci u,ci v], [svN x,svN y,svN w],ci o)) rfl) λr b n wl hq=>alb hq;unfold acf at key;exact⟨[], [], [.val (.string T)],ann,9,trivial,bH (λC J=>by cases J),cd (λC J=>by cases J),rfl,key⟩
 ·cases H
def aco:SV:= .agg (.val (.int .i64 0):: .val (.slice none 0 0):: .val (.slice none 0 0)::ci noU)
theorem agh (a:Addr) (Q:zdR):k8 a zl 9 16 [.val (.string zA9)] [] (Go.Sy.okK λr _ _ _=>Q r)=uK (uK (Q (.tup [aco, .val (.int .i64 1), .val (.int .i64 90)]))):=by kernel_rfl
def ajJ (k l:MCtr):MCtr:=λbl nx args=>match k bl nx args with
 |some C=>some C
 |none=>l bl nx args
theorem aiw {k l:MCtr} (N:VU prog B f k) (V:VU prog B f l):VU prog B f (ajJ k l):=by
 intro bl β w nx args C a b c d e p;unfold ajJ at e;split at e
 ·rename_i H J;obtain rfl:H=C:=by simpa using e
  exact N bl β w nx args _ a b c d J p
 ·exact V bl β w nx args _ a b c d e p
def rcV (r:SV):RC:={X:=Unit,pre:=true,spec:=λ_=>True,out:=λ_=>r,ex:=λ_=>⟨(),trivial⟩}
def kV9 (T:zdH) (r:SV):MCtr:=λ_ _ args=>match args with
 | [.val (.string s)]=>bif seq T s then some (rcV r) else none
 |_=>none
theorem ajK {r:SV} (V:r.ids= []) (h: ∀Q:zdR,Q r->k8 a ann 9 f [.val (.string T)] [] (Go.Sy.okK λr _ _ _=>Q r)):
 ∀B:Base,GlobEB a B->VU prog B f (kV9 T r):=λB hB=>c8 (λB' Y=>aha (hB.sub Y)) λbl nx args C H hp=>by
 unfold kV9 at H;split at H
 ·rename_i s;cases N:seq T s with
  |false=>rw[N] at H;cases H
  |true=>
   rw[N,zdr] at H;simp only[za1] at H;subst H;obtain rfl:=We.1 N;have key:k8 a ann 9 f [.val (.string T)] [] (KB (rcV r) [] [] nx):=ab3 (h (λq=>q=r) rfl) λq b m w hq=>by
    cases q with
    |pan v=>exact hq.elim
    |ok s=>
     obtain rfl:s=r:=hq;exact IG () trivial rfl V rfl rfl rfl (λC J=>by cases J) rfl
   unfold k8 at key;exact⟨[], [], [.val (.string T)],ann,9,trivial,bH (λC J=>by cases J),cd (λC J=>by cases J),rfl,key⟩
 ·cases H
variable {Q:zdR}
theorem aeY (H:Q (.tup [aco, .val (.int .i64 1), .val (.int .i64 90)])):k8 a zl 9 16 [.val (.string zA9)] [] (Go.Sy.okK λr _ _ _=>Q r):=by
 rw[agh];exact λ_ _ _ _=>H
def adT:MCtr:=kP9 spT 1 u0 u2 (nI9 0) (nI9 1) nD9 uo
theorem aeZ: ∀B:Base,GlobEB a B->VU prog B 16 adT:=by
 unfold adT;have h: ∀Q:Option aen->Prop,Q (some aiv)->acf a zl 9 16 [.val (.string spT)] [] (K9 Q):=λQ H=>aeX H;unfold aiv at h;generalize spT=T at h ⊢;exact ajI h
def adU:MCtr:=kV9 zA9 (.tup [aco, .val (.int .i64 1), .val (.int .i64 90)])
theorem ae0: ∀B:Base,GlobEB a B->VU prog B 16 adU:=by
 unfold adU;have h: ∀Q:zdR,Q (.tup [aco, .val (.int .i64 1), .val (.int .i64 90)])->k8 a zl 9 16 [.val (.string zA9)] [] (Go.Sy.okK λr _ _ _=>Q r):=λQ J=>aeY J;have H:(SV.tup [aco, .val (.int .i64 1), .val (.int .i64 90)]).ids= []:=rfl;generalize zA9=T at h ⊢;generalize (SV.tup [aco, .val (.int .i64 1), .val (.int .i64 90)])=r at h H ⊢;exact ajK H h
def aix:zdX:=(16,ajJ adT adU)::af7
theorem aiy:MEk a aix:=adO.cons λB hB=>aiw (aeZ B hB) (ae0 B hB)
@[irreducible] def acB (a:Addr) (ann:zdV) (n:Nat) (f:FuncId) (args:zdK) (Cs:zdU) (K:Aft):Prop:=
 Ay prog (iR yr) (gw g9s) (gx aix) (dF a) ann n f args (λi=>Cs[i]?) Cs.length [] K
theorem akP (hB:GlobEB a B):HypD prog B (iR yr) (gw g9s) (gx aix) (dF a):=
 have h:=ac9 (gm:=aix) adv aiy hB
 ⟨h.gam,h.mem,h.dem,λf H=>by
   unfold iR at H;simp only[zaP] at H;obtain⟨g,hg,J⟩:=H
   rw[zab J];exact vT g hg,h.mixed⟩
def gU9:zdN:=je (ci (aT 0)++ci (aT 2)) 20
def gN9:zdN:=je (svN (nI9 0)++svN (nI9 1)++svN nD9) 26
def gC9:zdN:=λi=>bif Nat.beq i 2 then gZ (gN9 i) 0 [.val (.int .i64 3)] else gN9 i
def rA9:zdN:=je (gA (rMk 10 1).1++gA (rMk 4 1).1) 2
def rB9:zdN:=je (gA (rMk 10 1).1++gA (rMk 0 1).1) 2
def iA9:zdN:=je (gA (rMk 9 1).1++gA (rMk 11 1).1++gA (rMk 4 1).1++gA (rMk 5 1).1) 4
def ali (H:Nat) (g1:zdN) (J:Nat) (g2:zdN) (u:Un):Bool:=(Nat.ble H H&&Nat.beq 20 20&&true)&&(Nat.ble J J&&Nat.beq 26 26&&true)&&bW H&&bW J&&eU.good szB H g1&&eN.good szN J g2&&szB u
def pA9:Pr:=⟨1,eU.list 2 gU9,eN.list 3 gN9,uo⟩
def pB9:Pr:=⟨1,eU.list 2 (eU.get [u0,u2]),eN.list 3 (eN.get [nI9 0,nI9 1,nD9]),uo⟩
def n9 (c:Bool) (K:Prop):Prop:=af c (uK K)
open Classical in
def ahi (Q:zdR):Prop:=
 n9 (ali 2 gU9 3 gN9 uo) (n9 (ali 2 gU9 3 gN9 (aT 0)) (n9 (ali 2 gU9 3 gC9 (aT 0)) (
 n9 (ali 2 gU9 3 gN9 uo&&(Nat.ble 2 2&&Nat.beq 2 2&&true)&&bW 2&&eR.good uzR 2 rA9) (
 n9 (ali 2 gU9 3 gN9 uo&&(Nat.ble 2 2&&Nat.beq 2 2&&true)&&bW 2&&eR.good uzR 2 rB9) (
 n9 (ali 2 gU9 3 gN9 uo&&(Nat.ble 2 2&&Nat.beq 4 4&&true)&&bW 2&&eI.good uzI 2 iA9&&(dR pA9 (eI.list 2 iA9) 2).2==0) (
 n9 (ali 2 gU9 3 gN9 uo&&decide (pA9=spP)) (uK (uK (
 n9 (ali 2 gU9 3 gN9 uo&&ali 2 (eU.get [u0,u2]) 3 (eN.get [nI9 0,nI9 1,nD9]) uo&&decide (pA9=pB9)) (
 n9 (ali 2 gU9 3 gN9 uo) (n9 (ali 2 gU9 3 gC9 (aT 0)) (Q (cB.enc true)))))))))))))
theorem ahj (a:Addr) (Q:zdR):acB a (afZ 4) 9 4 [] [] (Go.Sy.okK λr _ _ _=>Q r)=ahi Q:=by kernel_rfl
theorem als {n1:Nat} {g1:zdN} {n2:Nat} {g2:zdN} (h1:n1<=1000000) (h2:n2<=1000000) (k1:eU.good szB n1 g1=true) (k2:eN.good szN n2 g2=true) (H:szB u=true):ali n1 g1 n2 g2 u=true:=by
 unfold ali bW;rw[zae (za0 n1),zae (za0 n2),zae h1,zae h2,k1,k2,H];rfl
theorem ahk (h:szB u=true) (k:szB v=true):eU.good szB 2 (je (ci u++ci v) 20)=true:=El.good_iff.2 λe H=>by
 rcases(show e=0\/e=1 by omega) with rfl|rfl
 ·exact⟨rfl,h⟩
 ·exact⟨rfl,k⟩
theorem ahl {x z:Nd} (h:szN x=true) (k:szN y=true) (l:szN z=true):eN.good szN 3 (je (svN x++svN y++svN z) 26)=true:=El.good_iff.2 λe H=>by
 rcases(show e=0\/e=1\/e=2 by omega) with rfl|rfl|rfl
 ·exact⟨rfl,h⟩
 ·exact⟨rfl,k⟩
 ·exact⟨rfl,l⟩
theorem ajL:eN.good szN 3 gC9=true:=El.good_iff.2 λe H=>by
 rcases(show e=0\/e=1\/e=2 by omega) with rfl|rfl|rfl
 ·exact⟨rfl,lB⟩
 ·exact⟨rfl,lB⟩
 ·exact⟨rfl,lB⟩
theorem ahm {x y:RS} (h:uzR x=true) (k:uzR y=true):eR.good uzR 2 (je (gA x++gA y) 2)=true:=El.good_iff.2 λe H=>by
 rcases(show e=0\/e=1 by omega) with rfl|rfl
 ·exact⟨rfl,h⟩
 ·exact⟨rfl,k⟩
theorem ajM {x y z w:RS} (h:uzR x=true) (k:uzR y=true) (l:uzR z=true) (m:uzR w=true):eI.good uzI 2 (je (gA x++gA y++gA z++gA w) 4)=true:=El.good_iff.2 λe H=>by
 rcases(show e=0\/e=1 by omega) with rfl|rfl
 ·exact⟨rfl,by show (uzR x&&uzR y)=true;rw[h,k];rfl⟩
 ·exact⟨rfl,by show (uzR z&&uzR w)=true;rw[l,m];rfl⟩
theorem ahn:pA9=spP:=by kernel_rfl
theorem ajN:pB9=spP:=by kernel_rfl
theorem aiz:((dR pA9 (eI.list 2 iA9) 2).2==0)=true:=by kernel_rfl
theorem afH:szB (aT 0)=true:=by kernel_rfl
theorem aiP:szB (aT 2)=true:=by kernel_rfl
theorem aiQ:szB uo=true:=by kernel_rfl
theorem agi (hQ:Q (cB.enc true)):acB a (afZ 4) 9 4 [] [] (Go.Sy.okK λr _ _ _=>Q r):=by
 rw[ahj];have N:=ahk afH aiP;have Y:eN.good szN 3 gN9=true:=ahl lB lB lB;have J:ali 2 gU9 3 gN9 uo=true:=als (by decide) (by decide) N Y aiQ;have c2:ali 2 gU9 3 gN9 (aT 0)=true:=als (by decide) (by decide) N Y afH;have V:ali 2 gU9 3 gC9 (aT 0)=true:=als (by decide) (by decide) N ajL afH;have Z:ali 2 (eU.get [u0,u2]) 3 (eN.get [nI9 0,nI9 1,nD9]) uo=true:=als (by decide) (by decide)
  (El.good_get (E:=eU) (l:= [u0,u2]) λx H=>by
    rcases zai.1 H with rfl|H
    ·exact afH
    ·rw[zaj.1 H];exact aiP)
  (El.good_get (E:=eN) (l:= [nI9 0,nI9 1,nD9]) λx H=>by
    rcases zai.1 H with rfl|H
    ·exact lB
    ·rcases zai.1 H with rfl|H
     ·exact lB
     ·rw[zaj.1 H];exact lB) aiQ
 have r1:eR.good uzR 2 rA9=true:=ahm (alg 10 1) (alg 4 1);have r2:eR.good uzR 2 rB9=true:=ahm (alg 10 1) (alg 0 1);have r3:eI.good uzI 2 iA9=true:=ajM (alg 9 1) (alg 11 1) (alg 4 1) (alg 5 1);have d1: ∀i, @decide (pA9=spP) i=true:=λi=> @zdp _ i ahn;have d2: ∀i, @decide (pA9=pB9) i=true:=λi=> @zdp _ i (ahn.trans ajN.symm);unfold ahi n9 uK;refine ac J λ_ _=>ac c2 λ_ _=>ac V λ_ _=>ac ?_ λ_ _=>ac ?_ λ_ _=>ac ?_ λ_ _=>ac ?_ λ_ _ _ _ _ _=>ac ?_ λ_ _=>ac J λ_ _=>ac V λ_ _=>hQ
 ·rw[J,r1];rfl
 ·rw[J,r2];rfl
 ·rw[J,r3,aiz];rfl
 ·rw[J,d1];rfl
 ·rw[J,Z,d2];rfl
def adV:MCtr:=λ_ _ args=>match args with
 | []=>some (rcV (cB.enc true))
 |_=>none
theorem ae1 (h:acB a ann n f args Cs K) (H: ∀r b n w,K r b n w->K' r b n w):acB a ann n f args Cs K':=by
 unfold acB at h ⊢;exact NiceT.mono (Ea _ _ _ _ _ _ f args _ _ _ (λi hi=>zad hi)) h λr b n w _=>H r b n w
theorem agj (h: ∀Q:zdR,Q (cB.enc true)->acB a ann 9 F [] [] (Go.Sy.okK λr _ _ _=>Q r)): ∀B:Base,GlobEB a B->VU prog B F adV:=λB hB=>c8 (λB' N=>akP (hB.sub N)) λbl nx args C J hp=>by
 unfold adV at J;split at J
 ·simp only[za1] at J;subst J;have key:acB a ann 9 F [] [] (KB (rcV (cB.enc true)) [] [] nx):=ae1 (h (λr=>r=cB.enc true) rfl) λq b m w hq=>by
   cases q with
   |pan v=>exact hq.elim
   |ok s=>
    obtain rfl:s=cB.enc true:=hq;exact IG () trivial rfl rfl rfl rfl rfl (λC H=>by cases H) rfl
  unfold acB at key;exact⟨[], [], [],ann,9,trivial,bH (λC H=>by cases H),cd (λC H=>by cases H),rfl,key⟩
 ·cases J
theorem agk: ∀B:Base,GlobEB a B->VU prog B 4 adV:=agj λQ H=>agi H
def awX:MCtr:=λbl nx args=>match args with
 | [s, .val (.int .i64 n)]=>match vW bl 4 s with
   |some (b,_,m,g)=>some {X:=Unit,pre:=b&&e4.good uz4 m g&&decide (0<=n)&&decide (n<=1000000),spec:=λ_=>True,out:=λ_=> .slc nx 0 n.toNat,nw:=λ_=> [eI.own (bt (e4.list m g) n.toNat)],ex:=λ_=>⟨(),trivial⟩}
   |none=>none
 |_=>none
theorem awY: ∀B:Base,GlobEB a B->VU prog B 7 awX:=agE aqY MEk.nil λbl nx args C J hp=>by
 unfold awX at J;split at J
 ·rename_i s n;split at J
  ·rename_i b o m g V;simp only[za1] at J;subst J;simp only[za2,zdt] at hp;obtain⟨⟨⟨rfl,hg⟩,h1⟩,h2⟩:=hp;obtain⟨t1,t2⟩:=cq (f:=rnF [o] [] nx) V hg;have H: ∀C∈ [e4.old (e4.list m g)],cN C.kd=false:=by simp[cN,El.old]
   refine⟨[o], [e4.old (e4.list m g)], [.slc 0 0 (e4.list m g).length,cI.enc n],aqg (itI (e4.list m g) n) n,6,aw t1 trivial,bH H,cd (by simp[El.old,BK.map]),ar (t2 0 rfl) rfl, ?_⟩;refine afP (K:=aoT λi k B=>i=4/\k=n.toNat/\B=eI.own (bt (e4.list m g) n.toNat)) ?_ λr bl' q w h=> ?_
   ·have e:=arh a (itI (e4.list m g) n) n (e4.list m g) n (λi k B=>i=4/\k=n.toNat/\B=eI.own (bt (e4.list m g) n.toNat));unfold aqi at e;rw[e];exact ap0 h1 h2 (El.good_list hg) ⟨rfl,rfl,rfl⟩
   ·unfold aoT at h;split at h
    ·rename_i i k;split at h
     ·rename_i B hB;obtain⟨rfl,rfl,rfl⟩:=h;have N:dt [o] [some 4] nx nx=some (some 4):=cO;refine⟨(),trivial, [some 4],⟨_,rfl, ?_⟩,by simp[ck],⟨⟨by simp, ?_⟩,trivial⟩,we H rfl _⟩
      ·show SV.rn (dt [o] [some 4] nx) (.slc nx 0 n.toNat)=_;simp only[SV.rn,N]
      ·rw[hB];exact⟨by simp[El.own],λ_=> .inl rfl,gC rfl rfl (by show (bt _ _).length<=_;exact za0 _) λ_ _=>rfl⟩
     ·exact h.elim
    ·exact h.elim
  ·cases J
 ·cases J
def axZ:zdX:= [(8,auL),(9,auL),(7,awX),(19,SQ),(4,adV)]
theorem axm:MEk a axZ:=((((MEk.nil.cons agk).cons λB hB=>Tc B hB.gU).cons awY).cons awW).cons auM
abbrev axu (w:Addr) (a b c k:Int) (xs H:List I4) (N J:Int) (Q:zdR):Prop:=
 XC w gV2 axZ noA 8 3 [al2 a b c k xs.length, .slc 1 0 H.length,cI.enc N,cI.enc J] [e4.old xs,e4.old H] (Go.Sy.okK λr _ _ _=>Q r)
def rdN (p:Pr):Pr:=⟨p.id,eU.list p.inp.length (eU.get p.inp),eN.list p.nod.length (eN.get p.nod),p.out⟩
def ndN (p:Pr):Bool:=ali p.inp.length (eU.get p.inp) p.nod.length (eN.get p.nod) p.out
def axM (a b:Iv):Bool:=eqR a.1 b.1&&(eqR a.2 b.2&&true)
def emB (p:Pr) (n:Nat) (L:List Iv) (q:Int) (Q:zdR) (K:Prop):Prop:=
 n9 (ndN p&&(Nat.ble n L.length&&Nat.beq 4 4&&true)&&bW n&&eI.good uzI n (eI.get L)) (n9 (ndN p&&(Nat.ble n L.length&&Nat.beq 4 4&&true)&&bW n&&eI.good uzI n (eI.get L)) (
  let x:=dR (rdN p) (eI.list n (eI.get L)) q
  ag (bif !axM x.1 x.1 then true else x.2 !=x.2) (Q (cB.enc false)) K))
def emI (p:Pr) (H:List I4) (q k:Int) (Q:zdR) (K:Prop):Prop:=
 n9 ((Nat.ble H.length H.length&&Nat.beq 4 4&&true)&&e4.good uz4 H.length (e4.get H)&&decide (0<=k)&&decide (k<=1000000)) (emB p k.toNat (bt (e4.list H.length (e4.get H)) k.toNat) q Q K)
def em2 (p:Pr) (J:List I4) (q H:Int) (Q:zdR) (K:Prop):Prop:=
 af (pkB H 4) (emI p J q p.inp.length Q (emI p J q (co H 4) Q K))
def emT (a b c k:Int) (xs N:List I4) (H J:Int) (Q:zdR):Prop:=
 uK (n9 (Nat.ble xs.length xs.length&&Nat.beq 4 4&&true&&decide (xs.length<=9223372036854775807)&&e4.good uz4 xs.length (e4.get xs)&&cl a&&cl b&&cl c&&cl k) (
  af (pkB H 9) (em2 (Bd (a,b,c) k (e4.list xs.length (e4.get xs)) false) N H J Q (em2 (Bd (a,b,c) k (e4.list xs.length (e4.get xs)) false) N (co H 9) J Q (Q (cB.enc true))))))
theorem ax0 (w:Addr) (a b c k:Int) (xs N:List I4) (J H:Int) (Q:zdR):axu w a b c k xs N J H Q=emT a b c k xs N J H Q:=by kernel_rfl
theorem awE (a:Iv):axM a a=true:=by unfold axM;rw[Iy,Iy];rfl
variable {ys:List I4}
theorem awZ {p:Pr} {q k:Int} {K:Prop} (V:ndN p=true) (h0:0<=k) (h1:k<=1000000) (N: ∀y∈ys,uz4 y=true) (h:K):emI p ys q k Q K:=by
 unfold emI n9 uK;rw[show e4.list ys.length (e4.get ys)=ys from El.list_get];have J:(bt ys k.toNat).length=k.toNat:=fJ _ _;have g2:eI.good uzI k.toNat (eI.get (bt ys k.toNat))=true:=by
  have:=El.good_get (E:=eI) (l:=bt ys k.toNat) apF;rwa[J] at this
 have H:(ndN p&&(Nat.ble k.toNat (bt ys k.toNat).length&&Nat.beq 4 4&&true)&&bW k.toNat&&eI.good uzI k.toNat (eI.get (bt ys k.toNat)))=true:=by
  rw[V,J,zae (za0 _),g2,show bW k.toNat=true from zae (by omega)];rfl
 refine ac (by rw[zae (za0 _),El.good_get (E:=e4) N,zdp h0,zdp h1];rfl) λ_ _=> ?_;unfold emB n9 uK;refine ac H λ_ _=>ac H λ_ _=> ?_;dsimp only;rw[awE,show ((dR (rdN p) (eI.list k.toNat (eI.get (bt ys k.toNat))) q).2 !=(dR (rdN p) (eI.list k.toNat (eI.get (bt ys k.toNat))) q).2)=false by simp];exact h
theorem aw0 {a b c k pl cn:Int} {xs:List I4} (ha:cl a=true) (hb:cl b=true) (hc:cl c=true) (hk:cl k=true) (hp:cl pl=true) (H:cl cn=true) (hx: ∀y∈xs,uz4 y=true) (hn:xs.length<=9223372036854775807) (N: ∀y∈ys,uz4 y=true) (hQ:Q (cB.enc true)):emT a b c k xs ys pl cn Q:=by
 have V:=Sb (a:=(a,b,c)) (count:=k) (xs:=xs) (ex:=false);have J:=Tn (a:=(a,b,c)) (count:=k) (xs:=xs) (ex:=false);unfold aci at J;simp only[za2,zaf] at J;obtain⟨⟨Z,sn⟩,so⟩:=J;unfold emT n9 uK;rw[show e4.list xs.length (e4.get xs)=xs from El.list_get];generalize Bd (a,b,c) k xs false=p at V Z sn so ⊢;obtain⟨l1,l2,l3,l4⟩:=V;have Y:ndN p=true:=als (by omega) (by omega) (El.good_get Z) (El.good_get sn) so;obtain⟨c0,c1⟩:=gR cn (n:=4) (by decide);have two: ∀{q:Int} {K:Prop},K->em2 p ys q cn Q K:=λ{q K} h=>QU H (by decide) (awZ Y (by omega) (by omega) N (awZ Y c0 (by omega) N h));refine λ_ _=>ac ?_ λ_ _=>QU hp (by decide) (two (two hQ));rw[zae (za0 _),zdp hn,El.good_get (E:=e4) hx,ha,hb,hc,hk];rfl
open Go.ChangeShapes Go.WideShapes
def aw1 (L M:Go.Sy.Loc) (i:Nat):Go.Sy.Loc:=match i with
 |0=>L
 |_=>M
theorem sc (c:Ca9) (J:List I4) (V N:Int) {L M:Go.Sy.Loc} {W:World} (h:c.ok=true) (hB:BlkOK (λ_=>L) 0 (e4.old c.x) W) (hl:c.x.length<=maxLen) (hy: ∀y∈J,uz4 y=true) (hC:BlkOK (λ_=>M) 0 (e4.old J) W) (_:J.length<=maxLen) (hp:B64 V) (Z:B64 N) (_:World) (hg: ∃p,GlobE p W):
 Calls prog 3 #[(al2 c.a c.b c.c c.k c.x.length).conc (λ_=>L),(SV.slc 0 0 J.length).conc (λ_=>M), .int .i64 V, .int .i64 N] W λe w'=>e= .returned (.bool true)/\Below W.heap.size W w':=by
 obtain⟨p,hg⟩:=hg;unfold Ca9.ok at h;simp only[za2,zaf] at h;obtain⟨⟨⟨⟨a0,a1⟩,a2⟩,a3⟩,ax⟩:=h;have Y:BC W (λi=> [e4.old c.x,e4.old J][i]?) (aw1 L M) W:=aoL λi B H=>by
  match i,H with
  |0,H=>obtain rfl:=zbk H;exact⟨aoA hB rfl λe _=>e4.ids _,rfl,λe _=>e4.ids _⟩
  |1,H=>obtain rfl:=zbk H;exact⟨aoA hC rfl λe _=>e4.ids _,rfl,λe _=>e4.ids _⟩
 have c9:(al2 c.a c.b c.c c.k c.x.length).conc (aw1 L M)=(al2 c.a c.b c.c c.k c.x.length).conc (λ_=>L):=SV.conc_congr _ λi hi=>by
  have:i=0:=by simpa [al2,SV.ids,SV.idss] using hi
  subst this;rfl
 have ea:(SV.concs (aw1 L M) [al2 c.a c.b c.c c.k c.x.length, .slc 1 0 J.length,cI.enc V,cI.enc N]).toArray= #[(al2 c.a c.b c.c c.k c.x.length).conc (λ_=>L),(SV.slc 0 0 J.length).conc (λ_=>M), .int .i64 V, .int .i64 N]:=by
  simp only[SV.concs];rw[c9];rfl
 rw[<-ea]
 exact ao7 aiH axm hg (ann:=noA) (n:=8) Y (λs hs i hi=>by
  simp only[zai,zbx,or_false] at hs;rcases hs with rfl|rfl|rfl|rfl
  ·have:i=0:=by simpa [al2,SV.ids,SV.idss] using hi
   subst this;exact Nat.zero_lt_succ _
  ·have:i=1:=by simpa [SV.ids] using hi
   subst this;exact zcy 1
  ·rw[cI.ids] at hi;cases hi
  ·rw[cI.ids] at hi;cases hi) (by
  have e:=ax0 p c.a c.b c.c c.k c.x J V N (λr=>r=cB.enc true);unfold axu at e;rw[e]
  exact aw0 a0 a1 a2 a3 (V4.2 hp) (V4.2 Z) ax (zac hl (by decide)) hy rfl)
end Go.Proofs.YtojcellmcbnmeaaGreatDoor
namespace Go.Proofs.YtojcellmcbnmeaaGreatDoor
open Go.Proofs.Tryz
open Go.ChangeShapes Go.WideShapes Go.ChangeAt Go.RowKit Yk
theorem oQ {H:Type} {enc:TypeId×Value->H} {a:Assume} {C:Checked} {os:Os} {f:FuncId} {fn:Func} {s:ChangeSpec} {conds:List PathCond} {apart fresh handsOn again:Bool} {X:World->Array Value->Prop}
 (hX: ∀(w w':World) (args:Array Value),w.heap=w'.heap->X w args->X w' args)
 (own:ownKnob C.prog.godebug=none) (started:os.Started) (noInit:C.prog.inits.idxOf? f=none) (a0:C.prog.funcs[f]? =some fn)
 (witness: ∃(w:World) (tape:Tape) (i:Input),w.os=os/\(w.forCall tape i).Shaped C.prog/\i.vars= []/\Input.okWide C.prog (w.forCall tape i) .any w.heap.size f i/\
   ((s.pre enc C.prog fn conds apart (w.forCall tape i).memory i.args/\X (w.forCall tape i).memory i.args)/\sizedMet enc C.prog fn (OpenSpec.ofChange s) apart (w.forCall tape i).memory i.args)/\a.holds C.prog (lone (Frame.enter C.prog f i.args .normal) [] (w.forCall tape i)))
 (contract: ∀(W:World) (base:Nat) (args:Array Value) (Y gs:List (DataW H)) (before:List MemPlace),
   (∀(j:Nat) t v,fn.params[j]? =some t->args[j]? =some v->Value.okWide C.prog W .any base t v)->
   DataW.Whole enc C.prog fn.params.toList s.vars apart W args.toList Y gs before->
   X W args->W.ShapedOpen C.prog->
   Calls C.prog f args W λe W'=> ∃v,e= .returned v/\s.post enc C.prog fn apart fresh handsOn again W args v W'):
 ReturnsInHanded a C os f .any (λw args=>(s.pre enc C.prog fn conds apart w args/\X w args)/\sizedMet enc C.prog fn (OpenSpec.ofChange s) apart w args) (s.post enc C.prog fn apart fresh handsOn again):=by
 refine returnsInHanded_of_calls own started noInit witness ?_;intro w tape i _ g0 _ e0 N hholds;obtain⟨_,_,_,Z,J,_,_,_,_,V⟩:=e0;have e:Z=fn:=zbk (J.symm.trans a0);subst e;obtain⟨⟨⟨Y,gs,before,hw,hc⟩,hx⟩,hz⟩:=N;have i0:=DataW.Whole.of_heap (w':=w.forCall tape i) (by rfl) hw;refine(contract (w.forCall tape i) w.heap.size i.args Y gs before V i0 (hX _ _ _ (by rfl) hx) g0).mono λe W' ⟨v,he,hp⟩=> ?_;subst he;exact ChangeSpec.post_blind hp
theorem own:ownKnob prog.godebug=none:=by kernel_rfl
def oR:List (String×DataW Unit):=Rows.procedureEncloseMatchesReferenceRow.laid
variable {W:World}
theorem MM (h:W.ShapedOpen prog): ∃m,W.cell? ⟨4,0,none⟩=some (.int .i64 m):=
 cell_of_shapedOpen_int (t:=3) (zero:= #[.int .i64 0]) h (zdu (by kernel_rfl)) (by kernel_rfl) (by kernel_rfl) (by kernel_rfl) (by kernel_rfl) underlying3
theorem MN:(Rows.laid_internal_strconv_uint64pow10:DataW Unit)=Lib.tabData .u64 Lib.pow10Tab:=by kernel_rfl
theorem No:prog.globalNamed "strconv.ErrRange" =some 3:=by kernel_rfl
theorem Np:prog.globalNamed "strconv.ErrSyntax" =some 2:=by kernel_rfl
theorem QB: "*" ++ "errors.errorString" = "*errors.errorString" :=by decide
theorem JV (u:TypeId) (h:prog.typeName? 3 u=some "*errors.errorString"):u=330:=
 typeName_ptr_named (nm:= "errors.errorString") (by rw[QB];kernel_rfl) (by kernel_rfl) (by decide) u (by rw[QB];exact h)
theorem JW (h:W.ShapedOpen prog) (Y:laidMetH prog oR W):GlobU W:=by
 rw[MakeChecks.laidMetH_plain _ _ _ (by kernel_rfl)] at Y;have H:=laidMet.tail (laidMet.tail Y);have Z:Lib.TabIs prog W "internal/strconv.uint64pow10" .u64 Lib.pow10Tab:=
  Lib.tabIs_of_head NL (by kernel_rfl) underlying317 underlying271 (by kernel_rfl) (by kernel_rfl) (MN▸H)
 have J:=laidMet.tail (laidMet.tail H);obtain⟨a0,s0,N,_,_,_⟩:=laid_sentinel (g:=3) (ti:=109) (tp:=330) (te:=332) (ts:=9) J No (by kernel_rfl) underlying109 JV underlying330 underlying332 rfl rfl underlying9 (by kernel_rfl) (by kernel_rfl);obtain⟨a1,s1,V,_,_,_⟩:=laid_sentinel (g:=2) (ti:=109) (tp:=330) (te:=332) (ts:=9) (laidMet.tail J) Np (by kernel_rfl) underlying109 JV underlying330 underlying332 rfl rfl underlying9 (by kernel_rfl) (by kernel_rfl);have c0:=World.var?_cell No N 0;have c1:=World.var?_cell Np V 0;exact⟨⟨MM h,Z,World.block_lt_of_cell? W _ (Z.cell NL 0 (by decide))⟩,⟨_,by simpa using c1, .inr ⟨_,_,rfl⟩⟩,⟨_,by simpa using c0, .inr ⟨_,_,rfl⟩⟩⟩
end Go.Proofs.YtojcellmcbnmeaaGreatDoor
namespace Go.Proofs.YtojcellmcbnmeaaGreatDoor
open Go.Proofs.Tryz
open Go Go.RowKit Go.Sy Yk
open Go.ChangeShapes Go.WideShapes Go.ChangeAt
theorem aiR:prog.globalNamed "yardstick/enclosure.errFails" =some 0:=by kernel_rfl
theorem aho {W:World} (h:W.ShapedOpen prog) (H:laidMetH prog oR W): ∃a,GlobE a W:=by
 have Y:=JW h H;rw[MakeChecks.laidMetH_plain _ _ _ (by kernel_rfl)] at H;have J:=laidMet.tail (laidMet.tail (laidMet.tail (laidMet.tail (laidMet.tail (laidMet.tail H)))));obtain⟨V,s0,N,_,_,_⟩:=laid_sentinel (g:=0) (ti:=109) (tp:=330) (te:=332) (ts:=9) J aiR (by kernel_rfl) underlying109 JV underlying330 underlying332 rfl rfl underlying9 (by kernel_rfl) (by kernel_rfl);have c0:=World.var?_cell aiR N 0;exact⟨V,Y,by unfold evE;simpa using c0⟩
end Go.Proofs.YtojcellmcbnmeaaGreatDoor
