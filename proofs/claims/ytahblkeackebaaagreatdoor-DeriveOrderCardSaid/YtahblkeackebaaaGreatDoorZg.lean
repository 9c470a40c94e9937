import Derived.Test.YtahblkeackebaaaGreatDoorZf
import Derived.ProofKit
import Derived.OpenShut
import Derived.Carry
import Derived.Test.YtahblkeackebaaaGreatDoorRows
import Derived.HandedShaped
import Derived.LaidMore
import Derived.Lay
import Derived.Lib.LaidTab
import Derived.Shelf.Vars
import Derived.Stop.LaidErr
import Derived.Stop.Joined
set_option linter.unusedVariables false
set_option linter.unusedSimpArgs false
namespace Go.Proofs.YtahblkeackebaaaGreatDoor
open Go Go.RowKit Go.Sy Yk
theorem De {inp:List Un} (hi: ∀ u∈inp,szB u=true): ∀ {l:List Nd} {us vs:List Un},(∀ x∈l,szN x=true)->(∀ u∈us,szB u=true)->unsF inp l us=(vs,true)-> ∀ u∈vs,szB u=true
 | [],us,vs,_,hu,h=>by simp only [unsF,zag,and_true] at h;subst h;exact hu
 |x::r,us,vs,hx,hu,h=>by
  simp only [unsF] at h;split at h
  ·rename_i u hh;refine De hi (fun y hy=>hx y (zan _ hy)) (fun v hv=> ?_) h;rcases za8.1 hv with hv|hv
   ·exact hu v hv
   ·rw [zaj.1 hv];exact CR (hx x (by simp)) hi hu hh
  ·simp at h
theorem Fq {p:Pr} (h:(checkF p).2.2=0):unsF p.inp p.nod []=((checkF p).1,true)/\eqU (ly (checkF p).1) p.out=true/\oB p=true:=by
 unfold checkF at h ⊢;cases hb:oB p with
 |false=>rw [hb] at h;exact absurd (show (90:Int)=0 from h) (by decide)
 |true=>
  rw [hb,cond_true] at h;rw [cond_true];cases hu:unsF p.inp p.nod [] with
  |mk us b=>
   rw [hu] at h;cases b with
   |false=>exact absurd (show (90:Int)=0 from h) (by decide)
   |true=>
    simp only at h ⊢;cases he:eqU (ly us) p.out with
    |false=>rw [he] at h;exact absurd (show (90:Int)=0 from h) (by decide)
    |true=>exact ⟨by rw [cond_true],he,trivial⟩
theorem Fs {p:Pr} (hs:cw p=true) (h:(checkF p).2.2=0): ∀ u∈(checkF p).1,szB u=true:=by
 unfold cw at hs;simp only [za2,zaf] at hs;exact De hs.1.1 hs.1.2 (fun u hu=>by cases hu) (Fq h).1
structure QI (p:Pr) (z:QX):Prop where
 i0:0<=z.i
 i1:z.i<=p.nod.length
 ok:QOK z.l z.us z.num z.i.toNat
 eq:simL (checkF p).1 p.nod 0 [] [] (fun _=>0)=simL (checkF p).1 (p.nod.drop z.i.toNat) z.i.toNat z.l z.us z.num
def QL (p:Pr) (K1:DK1):Prop:= ∀ q:Pr,xH p=(q,0)->q.id=p.id->q.inp=p.inp->q.out=p.out->1<=q.nod.length->K1 28 p.inp.length (eU.own p.inp) 29 q.nod.length (eN.own q.nod) p.id (ci p.out) 0
theorem Ft {D:QIds} {p:Pr} {K0:DK0} {K1:DK1} (hs:cw p=true) (h1:p.inp.length<=1000000) (h2:p.nod.length<=1000000) (hin:1<=p.inp.length) (k0:xH p=(zP,100)->K0 0 (ci noU) 100) (k1:QL p K1):O7 D (QI p) p.nod.length p K0 K1:=by
 unfold O7;rw [fN];refine ac (eY hs h1 h2) fun _ _=>ah (fun h=>k0 ?_) (fun h=> ?_)
 ·unfold xH;rw [h];rfl
 have hF:xH p=(⟨p.id,p.inp,cG (simL (checkF p).1 p.nod 0 [] [] (fun _=>0)).1 ((simL (checkF p).1 p.nod 0 [] [] (fun _=>0)).2 (p.nod.length - 1)),p.out⟩,0):=by unfold xH;rw [h];rfl
 have h:(checkF p).2.2=0:=by simpa using h
 have hv:validP p=true:=by unfold validP;rw [h];rfl
 have hp:=(cV hv);have hN:=(bQ hv).2;have hcs:=Fs hs h;have hcl:(checkF p).1.length=p.nod.length:=by
  rcases ke p with ⟨c,_⟩|⟨_,_,c,_⟩
  ·rw [h] at c;cases c
  ·exact c
 have hs':=hs;unfold cw at hs';simp only [za2,zaf] at hs';refine ⟨⟨0, [], [],fun _=>0⟩,⟨zat _,by show (0:Int)<=_;omega,⟨rfl,za0 _,(fun x hx=>by cases hx),(fun x hx=>by cases hx),(fun j hj=>by simp at hj),(fun k hk=>by cases hk)⟩,rfl⟩,⟨⟨rfl,rfl,rfl,rfl,rfl,rfl,rfl,rfl,rfl,trivial⟩,⟨fun _=>rfl,trivial⟩,⟨rfl,trivial⟩,rfl,rfl,trivial⟩, ?_⟩;rintro z ⟨a0,a1,Q,a3⟩;refine ah (fun hz=> ?_) (fun hz=> ?_)
 ·have hz:=of_decide_eq_true hz;rw [za7];have hj:z.i.toNat<p.nod.length:=by omega
  have ok:=hN z.i.toNat hj;have hd:p.nod.drop z.i.toNat=nthD noN p.nod z.i.toNat::p.nod.drop (z.i.toNat+1):=by
   rw [zaH hj,bR (zaa _)]
  have sx:=hs'.1.2 _ (bw (d:=noN) (l:=p.nod) (e:=z.i.toNat) hj);have side0: ∀ s∈sidesF (nthD noN p.nod z.i.toNat),0<=s/\s<z.i.toNat:=fun s hs=>by
   have:=ok.nodeIn;unfold nodeIn at this;rw [za2] at this;exact bL this.1 s hs
  have hstep:=Q.step (x:=nthD noN p.nod z.i.toNat) (u:=nthD noU (checkF p).1 z.i.toNat) (l9 ok) sx (hcs _ (bw (by omega)));refine ac (gK a0 hz) (ac (ja a0 hz) (JC (fun s hs=>(side0 s hs).1) (fun s hs=>(Q.num _ (l9 ok s hs)).1) (JB a0 hz (by omega) (by omega) Q (by rw [MB];exact ok.op) (vZ fun s hs=>Q.num _ (l9 ok s hs)) (by rw [xu];exact sx) hcs ?_)));have en:(z.i+1).toNat=z.i.toNat+1:=by omega
  refine ⟨by show 0<=z.i+1;omega,by show z.i+1<=_;omega,by rw [en];exact hstep, ?_⟩;rw [a3,hd];dsimp only;rw [en];rfl
 ·have hz:=of_decide_eq_false hz;have ei:z.i.toNat=p.nod.length:=by omega
  rw [ei,zbk,simL] at a3;rw [ei] at Q;have e1:((p.nod.length:Int) - 1).toNat=p.nod.length - 1:=by omega
  rw [a3] at hF;obtain ⟨b1,b2⟩:=Q.num (p.nod.length - 1) (by omega);have hkp:=pQ b1 b2;rw [show eU.list p.inp.length (eU.get p.inp)=p.inp from El.list_get,v8,e1];refine ac ?_ fun _ _=>ac (inR64.2 (by omega)) (ac (by rw [decide_eq_true (by omega)];rfl) (ac ?_ fun _ _=>k1 _ hF rfl rfl rfl hkp.1))
  ·unfold bW;rw [zae (za0 _),zae h1,El.good_get (fun _ _=>rfl),decide_eq_true (show 0<p.inp.length by omega)];rfl
  ·have hle:=Q.le;have hsd:dH z.l.length (eN.get z.l)=true:=sidesB_iff.2 fun j hj=>by
    show sideOK j (wz (svN (nthD noN z.l j)))=true;rw [fR];exact Q.side j hj
   unfold bW;rw [zae (za0 _),zae (show z.l.length<=1000000 by omega),El.good_get (fun _ _=>rfl),decide_eq_true b1,decide_eq_true b2,hsd];rfl
noncomputable def Pc:MCtr:=fun bl nx args=>match args with
 | [s]=>match mC bl s with
   |some a=>some {X:=Unit,pre:=a.need&&decide (1<=a.p.inp.length),spec:=fun _=>True,out:=fun _=>prO nx (xH a.p),nw:=fun _=>prW (xH a.p),ex:=fun _=>⟨(),trivial⟩}
   |none=>none
 |_=>none
theorem MC: ∀ B:Base,GlobB B->MCtrOK Tryz.prog B 19 Pc:=eW Mv fun bl nx args C hk hp=>by
 unfold Pc at hk;split at hk
 ·rename_i s;split at hk
  ·rename_i a ha;simp only [za1] at hk;subst hk;simp only [za2,decide_eq_true_eq] at hp;obtain ⟨hp,hin⟩:=hp;obtain ⟨s1,s2,s3,s4,s5,s6⟩:=eX (f:=rnF [a.o1,a.o2] [] nx) ha hp rfl rfl;refine ⟨[a.o1,a.o2],iK a.p, [kB a.p],Jy (QI a.p) a.p.nod.length,6,aw s1 (aw s2 trivial),bH (cx _),cd (jG _),ar s3 rfl, ?_⟩;refine cQ (K:=prK (fun id rest e=>xH a.p=(zP,100)/\id=0/\rest=ci noU/\e=100) (fun i n B j m C id rest e=> ∃ q:Pr,xH a.p=(q,0)/\q.id=a.p.id/\q.inp=a.p.inp/\q.out=a.p.out/\m=q.nod.length/\1<=m/\i=28/\j=29/\C=eN.own q.nod/\n=a.p.inp.length/\B=eU.own a.p.inp/\id=a.p.id/\rest=ci a.p.out/\e=0)) ?_ fun r bl' m w h=> ?_
   ·rw [O8];exact Ft s4 s5 s6 hin (fun h=>⟨h,rfl,rfl,rfl⟩) fun q h1 h2 h3 h4 h5=>⟨q,h1,h2,h3,h4,rfl,h5,rfl,rfl,rfl,rfl,rfl,rfl,rfl,rfl⟩
   ·rcases vQ h with ⟨id,rest,e,rfl,h1,rfl,rfl,rfl⟩|⟨id,i,n,j,m',B,C,rest,e,rfl,hB,hC,q,h1,h2,h3,h4,rfl,h5,rfl,rfl,rfl,rfl,rfl,rfl,rfl,rfl⟩
    ·refine ⟨(),trivial, [none,none],⟨_,rfl, ?_⟩,by simp [ck],⟨⟨rfl,by rw [h1];rfl,rfl⟩,⟨rfl,by rw [h1];rfl,rfl⟩,trivial⟩,cr (cx _) rfl _⟩;rw [h1];have e:=rns_free (f:=dt [a.o1,a.o2] [none,none] nx) (fj noU);show SV.rn (dt [a.o1,a.o2] [none,none] nx) (prO nx (zP,100))=_;unfold prO;have e0:dt [a.o1,a.o2] [none,none] nx nx=some none:=cO;have e1:dt [a.o1,a.o2] [none,none] nx (nx+1)=some none:=jA 1;exact xh (ar (gv (ar rfl (ar (by simp only [SV.rn,e0];rfl) (ar (by simp only [SV.rn,e1];rfl) e)))) rfl)
    ·have e:=rns_free (f:=dt [a.o1,a.o2] [some 28,some 29] nx) (fj q.out);have e0:dt [a.o1,a.o2] [some 28,some 29] nx nx=some (some 28):=cO;have e1:dt [a.o1,a.o2] [some 28,some 29] nx (nx+1)=some (some 29):=jA 1;refine ⟨(),trivial, [some 28,some 29],⟨_,rfl, ?_⟩,by simp [ck],⟨⟨by simp [iK], ?_⟩,⟨by simp [iK], ?_⟩,trivial⟩,cr (cx _) rfl _⟩
     ·rw [h1];show SV.rn (dt [a.o1,a.o2] [some 28,some 29] nx) (prO nx (q,0))=_;unfold prO;dsimp only;rw [h2,h3,<- h4];exact xh (ar (gv (ar rfl (ar (by simp only [SV.rn,e0]) (ar (by simp only [SV.rn,e1]) e)))) rfl)
     ·rw [hB,h1];dsimp only;rw [h3];exact ⟨by simp [El.own],fun _=>⟨hin,eU.one⟩,gC rfl rfl (za0 _) fun _ _=>rfl⟩
     ·rw [hC,h1];exact ⟨by simp [El.own],fun _=>⟨h5,eN.one⟩,gC rfl rfl (za0 _) fun _ _=>rfl⟩
  ·cases hk
 ·cases hk
noncomputable def Pd:List (FuncId×MCtr):= [(11,Ru),(19,Pc),(10,C8),(15,O2),(9,zm),(26,pN)]
theorem MD:MOk Pd:=(((((MOk.nil.cons lZ).cons tP).cons Mj).cons zC).cons MC).cons Rn
def nIn (n:Int):Nd:=⟨2,noR2,noU,n,0,0⟩
def nPow (n l:Int):Nd:=⟨7,noR2,noU,n,l,0⟩
noncomputable def qx:Un:=(jm (aT 0) (3,1)).1
def oneU:Nat->List SV:=je (ci (aT 0)) 20
def Qu:Nat->List SV:=je (ci (aT 0)++ci (aT 2)) 20
def ue:Nat->List SV:=je (svN (nIn 0)++svN (nPow 3 0)) 26
def inN:Nat->List SV:=je (svN (nIn 0)) 26
noncomputable def Qv:Nat->List SV:=je (gA (rMk 2 1).1) 2
noncomputable def cubeR:Pr:=⟨1,eU.list 1 oneU,eN.list 2 ue,qx⟩
noncomputable def nB (n1:Nat) (g1:Nat->List SV) (n2:Nat) (g2:Nat->List SV) (u:Un) (K:Prop):Prop:=af (kp n1 n1 g1 n2 n2 g2 u) (Unit->True->K)
noncomputable def Df (Q:SV->Prop):Prop:=
 nB 1 oneU 2 ue qx (af (jn (aG cubeR 0).1&&decide (1<=(dm (aG cubeR 0).1).inp.length)) (Unit->True->
  af (kp 1 1 oneU 2 2 ue qx&&(Nat.ble 1 1&&Nat.beq 2 2&&true)&&bW 1&&eR.good uzR 1 Qv&&decide (1<=cubeR.inp.length)) (Unit->True->
  nB 1 oneU 2 ue qx (nB 2 Qu 1 inN (aT 0) (nB 1 oneU 2 ue qx (nB 1 oneU 2 ue qx (
  af ((true&&true)&&bW 0&&bW 0&&eU.good szB 0 (fun _=> [])&&eN.good szN 0 (fun _=> [])&&szB noU) (Unit->True->Q (cB.enc true)))))))))
theorem Fu (Q:SV->Prop):dk Pd (fun _ _=>none) 8 6 [] [] (Go.Sy.okK fun r _ _ _=>Q r)=Df Q:=by kernel_rfl
theorem uf {n1:Nat} {g1:Nat->List SV} {n2:Nat} {g2:Nat->List SV} {u:Un} (h1:n1<=1000000) (h2:n2<=1000000) (k1:eU.good szB n1 g1=true) (k2:eN.good szN n2 g2=true) (hu:szB u=true):kp n1 n1 g1 n2 n2 g2 u=true:=by
 unfold kp bW;rw [zae (za0 n1),zae (za0 n2),zae h1,zae h2,k1,k2,hu];rfl
theorem JD {u:Un} (h:szB u=true):eU.good szB 1 (je (ci u) 20)=true:=El.good_iff.2 fun e he=>by
 obtain rfl:e=0:=by omega
 exact ⟨rfl,h⟩
theorem Pe {u v:Un} (h:szB u=true) (k:szB v=true):eU.good szB 2 (je (ci u++ci v) 20)=true:=El.good_iff.2 fun e he=>by
 rcases (show e=0\/e=1 by omega) with rfl|rfl
 ·exact ⟨rfl,h⟩
 ·exact ⟨rfl,k⟩
theorem Pf {x:Nd} (h:szN x=true):eN.good szN 1 (je (svN x) 26)=true:=El.good_iff.2 fun e he=>by
 obtain rfl:e=0:=by omega
 exact ⟨rfl,h⟩
theorem Pg {x y:Nd} (h:szN x=true) (k:szN y=true):eN.good szN 2 (je (svN x++svN y) 26)=true:=El.good_iff.2 fun e he=>by
 rcases (show e=0\/e=1 by omega) with rfl|rfl
 ·exact ⟨rfl,h⟩
 ·exact ⟨rfl,k⟩
theorem BH {Q:SV->Prop} (hQ:Q (cB.enc true)):dk Pd (fun _ _=>none) 8 6 [] [] (Go.Sy.okK fun r _ _ _=>Q r):=by
 rw [Fu];have b0:szB (aT 0)=true:=by kernel_rfl
 have b2:szB (aT 2)=true:=by kernel_rfl
 have bu:szB qx=true:=by kernel_rfl
 have ni: ∀ n,szN (nIn n)=true:=fun n=>lB;have np:szN (nPow 3 0)=true:=lB;have c1:kp 1 1 oneU 2 2 ue qx=true:=uf (by decide) (by decide) (JD b0) (Pg (ni 0) np) bu;have c2:kp 2 2 Qu 1 1 inN (aT 0)=true:=uf (by decide) (by decide) (Pe b0 b2) (Pf (ni 0)) b0;have hc:cw cubeR=true:=by kernel_rfl
 obtain ⟨d1,d2,d3⟩:=qw (i:=0) hc;unfold Df nB;refine ac c1 fun _ _=>ac ?_ fun _ _=>ac ?_ fun _ _=>ac c1 fun _ _=>ac c2 fun _ _=>ac c1 fun _ _=>ac c1 fun _ _=>ac ?_ fun _ _=>hQ
 ·have h:decide (1<=(dm (aG cubeR 0).1).inp.length)=true:=by kernel_rfl
  rw [eY d1 d2 d3,h];rfl
 ·have r2:eR.good uzR 1 Qv=true:=El.good_iff.2 fun e he=>by
   obtain rfl:e=0:=by omega
   exact ⟨rfl,gu 2 1⟩
  have h:decide (1<=cubeR.inp.length)=true:=by kernel_rfl
  rw [c1,r2,h];rfl
 ·have a:eU.good szB 0 (fun _=> [])=true:=El.good_iff.2 fun e he=>by omega
  have b:eN.good szN 0 (fun _=> [])=true:=El.good_iff.2 fun e he=>by omega
  rw [a,b];rfl
noncomputable def xI:MCtr:=fun _ _ args=>match args with
 | []=>some {X:=Unit,pre:=true,spec:=fun _=>True,out:=fun _=>cB.enc true,ex:=fun _=>⟨(),trivial⟩}
 |_=>none
theorem BI: ∀ B:Base,GlobB B->MCtrOK Tryz.prog B 6 xI:=eW MD fun bl nx args C hk hp=>by
 unfold xI at hk;split at hk
 ·simp only [za1] at hk;subst hk;refine ⟨[], [], [],fun _ _=>none,8,trivial,bH (by simp),cd (by simp),rfl, ?_⟩;exact lz () trivial rfl (r:=cB.enc true) rfl rfl rfl rfl (by simp) rfl (BH rfl)
 ·cases hk
abbrev DR:=RS×RS
def bh (n:Int):RS:=(rMk n 1).1
def JE (a b:DR):DR×Bool:=(((ce a.1 b.1).1,(fZ (ce a.2 b.1).1 (ce a.1 b.2).1).1),(ce a.1 b.1).2==0&&((ce a.2 b.1).2==0&&((ce a.1 b.2).2==0&&(fZ (ce a.2 b.1).1 (ce a.1 b.2).1).2==0)))
def Nl (a:DR):DR×Bool:=
 let v:=cA (bh 1) a.1
 let s:=ce v.1 v.1
 let x:=ce a.2 s.1
 let d:=iF (bh 0) x.1
 ((v.1,d.1),v.2==0&&(s.2==0&&(x.2==0&&d.2==0)))
def v9:List FuncId:=
 49::
 17::
 zh
theorem zG: ∀ f∈v9,Callable Tryz.prog f:=by
 unfold v9;intro f hf;rcases zai.1 hf with rfl|hf
 ·exact Tryz.call49
 rcases zai.1 hf with rfl|hf
 ·exact Tryz.call17
 exact xe f hf
abbrev ug (g:List (FuncId×Ctr)) (ann:FuncId->Nat->Option (AS->Ann)) (n:Nat) (f:FuncId) (args:List SV) (K:SV->Prop):Prop:=wq Tryz.prog (iR v9) (gw g) (gx []) ann n f args (fun _=>none) 0 [] (Go.Sy.okK fun r _ _ _=>K r)
theorem kh {g:List (FuncId×Ctr)} (h:GOk g) {W0:World} (hg:GlobU W0) {ann:FuncId->Nat->Option (AS->Ann)} {n:Nat} {F:FuncId} {args:List SV} {r:SV} (ha:SV.idss args= []) (hr:r.ids= []) (hrun:ug g ann n F args (fun s=>s=r)):Go.Sy.Yields Tryz.prog W0 F args r:=
 eo (fun W hb=>mW (h.all W (hg.below hb)) (fun _ h=>by cases h) zG (by kernel_rfl)) ha hr hrun
theorem Fv (c n:Int) (K:SV->Prop):ug xf noA 3 49 [cI.enc c,cI.enc n] K=vH c n K:=by kernel_rfl
theorem Fx (c n:Int) (K:SV->Prop):ug xf noA 3 63 [cI.enc c,cI.enc n] K=vH c n K:=by kernel_rfl
theorem BJ (c n:Int) (K:SV->Prop):ug xf noA 3 13 [cI.enc c,cI.enc n] K=vH c n K:=by kernel_rfl
abbrev Dg:Ctr:=k2 cI cI cI (fun c n=>uInt c&&decide (0<n)) co
theorem uh {F:FuncId} {W:World} (hW:GlobU W) (hvc: ∀ (c n:Int) (K:SV->Prop),ug xf noA 3 F [cI.enc c,cI.enc n] K=vH c n K):CtrOK Tryz.prog W F Dg:=bC fun c n h=>by
 rw [za2] at h;exact kh gok9 (ann:=noA) (n:=3) hW dz (cI.ids _) (by rw [hvc];exact A6 (K:=fun r=>r=_) h.1 (of_decide_eq_true h.2) rfl)
def ui:List (FuncId×Ctr):=(13,Dg)::(63,Dg)::
 (49,Dg)::
 xf
theorem xJ:GOk ui:=
 ((gok9
   |>.cons (fun W hW=>uh hW Fv) Tryz.call49
   ).cons (fun W hW=>uh hW Fx) Tryz.call63).cons (fun W hW=>uh hW BJ) Tryz.call13
theorem Fy {n:Int} {K:Prop} (h: -9223372036854775808<=n/\n<=9223372036854775807) (k:K):af (inR .i64 n) K:=ac (inR64.2 h) k
theorem Fz (x:Int×Int) (K:SV->Prop):ug ui noA 3 17 [c22.enc x] K=
 af (uInt x.1&&decide (0<(1999:Int))) (af (inR .i64 (co x.1 1999 - 999)) (af (uInt x.2&&decide (0<(60:Int))) (af (inR .i64 (1+co x.2 60)) (af (uInt (co x.1 1999 - 999)&&uInt (1+co x.2 60)) (K (cR.enc (Yk.smallF x))))))):=by kernel_rfl
theorem FA (n:Int) (K:SV->Prop):ug ui noA 3 16 [cI.enc n] K=af (uInt n&&uInt 1) (K (cR.enc (bh n))):=by kernel_rfl
noncomputable def BL (n:Int):Un:=
 bif co n 7==0 then aT 0 else bif co n 7==1 then aT 2 else bif co n 7==2 then {aT 0 with f:=(⟨#[49]⟩,⟨#[49,48,48,48]⟩)} else
 bif co n 7==3 then (fd (aT 0) (aT 0)).1 else bif co n 7==4 then {aT 4 with s:=0,o:=(⟨#[53,52,54,51]⟩,⟨#[50,48]⟩)} else bif co n 7==5 then aT 4 else (mi (aT 0) (aT 0)).1
noncomputable def BM (n:Int) (K:SV->Prop):Prop:=
 af (uInt n&&decide (0<(7:Int))) (ag (co n 7==0) (K (cU.enc (aT 0))) (ag (co n 7==1) (K (cU.enc (aT 2))) (ag (co n 7==2) (K (cU.enc {aT 0 with f:=(⟨#[49]⟩,⟨#[49,48,48,48]⟩)})) (
 ag (co n 7==3) (K (cU.enc (fd (aT 0) (aT 0)).1)) (ag (co n 7==4) (K (cU.enc {aT 4 with s:=0,o:=(⟨#[53,52,54,51]⟩,⟨#[50,48]⟩)})) (ag (co n 7==5) (K (cU.enc (aT 4))) (K (cU.enc (mi (aT 0) (aT 0)).1))))))))
theorem JF (n:Int) (K:SV->Prop):ug ui noA 3 64 [cI.enc n] K=BM n K:=by kernel_rfl
theorem JG {n:Int} {K:SV->Prop} (h:uInt n=true) (k:K (cU.enc (BL n))):BM n K:=by
 unfold BL at k;unfold BM;rw [h];refine ac rfl (ah (fun a=> ?_) (fun a=>ah (fun b=> ?_) (fun b=>ah (fun c=> ?_) (fun c=>ah (fun d=> ?_) (fun d=>ah (fun e=> ?_) (fun e=>ah (fun f=> ?_) (fun f=> ?_)))))))
 ·rw [a] at k;exact k
 ·rw [a,b] at k;exact k
 ·rw [a,b,c] at k;exact k
 ·rw [a,b,c,d] at k;exact k
 ·rw [a,b,c,d,e] at k;exact k
 ·rw [a,b,c,d,e,f] at k;exact k
 ·rw [a,b,c,d,e,f] at k;exact k
noncomputable def xK:List (FuncId×Ctr):=
 (64,k1 cI cU uInt BL)::
 (16,k1 cI cR uInt bh)::
 (17,k1 c22 cR (fun x=>uInt x.1&&uInt x.2) Yk.smallF)::
 ui
theorem BN:GOk xK:=
 (((xJ
   |>.cons (fun W hW=>dD fun x h=>kh xJ (ann:=noA) (n:=3) hW eu (cR.ids _) (by
    rw [Fz];rw [za2] at h;have b1:=gR x.1 (n:=1999) (by decide);have b2:=gR x.2 (n:=60) (by decide)
    exact ac (by rw [h.1];rfl) (Fy (by omega) (ac (by rw [h.2];rfl) (Fy (by omega) (ac (by rw [uInt_iff.2 (by omega),uInt_iff.2 (by omega)];rfl) rfl)))))) Tryz.call17
   )
   |>.cons (fun W hW=>dD fun n h=>kh xJ (ann:=noA) (n:=3) hW eu (cR.ids _) (by rw [FA];exact ac (by rw [h];rfl) rfl)) Tryz.call16
   )
   |>.cons (fun W hW=>dD fun n h=>kh xJ (ann:=noA) (n:=3) hW eu (cU.ids _) (by rw [JF];exact JG (K:=fun r=>r=_) h rfl)) Tryz.call64
   )
def Nm:SV->Option DR
 | .agg [.val (.string a), .val (.string b), .val (.string c), .val (.string d)]=>some ((a,b),(c,d))
 |_=>none
def cDR:Cod DR where
 dec:=Nm
 enc r:= .agg [.val (.string r.1.1), .val (.string r.1.2), .val (.string r.2.1), .val (.string r.2.2)]
 ok s a h:=by
  unfold Nm at h;split at h
  ·simp at h;rw [<- h]
  ·cases h
 ids _:=by simp [SV.ids,SV.idss]
def uzD (a:DR):Bool:=uzR a.1&&uzR a.2
def ME:List Int->(Bool->Prop)->Prop
 | [],K=>K true
 |e::r,K=>ag (e !=0) (K false) (ME r K)
def JH (a b:DR) (K:SV->Prop):Prop:=
 af (uzR a.1&&uzR b.1) (af (uzR a.2&&uzR b.1) (af (uzR a.1&&uzR b.2) (af (uzR (ce a.2 b.1).1&&uzR (ce a.1 b.2).1)
  (ME [(ce a.1 b.1).2,(ce a.2 b.1).2,(ce a.1 b.2).2,(fZ (ce a.2 b.1).1 (ce a.1 b.2).1).2] fun c=>K ((cP cDR cB).enc (((ce a.1 b.1).1,(fZ (ce a.2 b.1).1 (ce a.1 b.2).1).1),c))))))
theorem JI (a b:DR) (K:SV->Prop):ug xK noA 4 45 [cDR.enc a,cDR.enc b] K=JH a b K:=by kernel_rfl
def Nn (a:DR) (K:SV->Prop):Prop:=
 let v:=cA (bh 1) a.1
 let s:=ce v.1 v.1
 let x:=ce a.2 s.1
 let d:=iF (bh 0) x.1
 af (uInt 1) (af (uzR (bh 1)&&uzR a.1) (af (uzR v.1&&uzR v.1) (af (uzR a.2&&uzR s.1) (af (uInt 0) (af (uzR (bh 0)&&uzR x.1) (ME [v.2,s.2,x.2,d.2] fun c=>K ((cP cDR cB).enc ((v.1,d.1),c))))))))
theorem MF (a:DR) (K:SV->Prop):ug xK noA 4 46 [cDR.enc a] K=Nn a K:=by kernel_rfl
theorem xL {K:Bool->Prop}: ∀ {l:List Int},K (l.all (· ==0))->ME l K
 | [],h=>h
 |e::r,h=>by
  refine ah (fun k=> ?_) (fun k=>xL ?_)
  ·rw [zbz,show (e==0)=false by simpa using k] at h;exact h
  ·rw [zbz,show (e==0)=true by simpa using k] at h;exact h
noncomputable def BO:List (FuncId×Ctr):=
 (45,k2 cDR cDR (cP cDR cB) (fun a b=>uzD a&&uzD b) JE)::(46,k1 cDR (cP cDR cB) uzD Nl)::
 xK
theorem JJ:GOk BO:=
 BN
  |>.cons (fun W hW=>dD fun a h=>kh BN (ann:=noA) (n:=4) hW eu ((cP cDR cB).ids _) (by
   unfold uzD at h;rw [za2] at h;rw [MF];unfold Nn;dsimp only;refine ac rfl (ac (by rw [h.1,show uzR (bh 1)=true from gu 1 1];rfl) (ac (by rw [lY];rfl) (ac (by rw [h.2,gI];rfl) (ac rfl (ac (by rw [gI,show uzR (bh 0)=true from gu 0 1];rfl) (xL ?_))))));unfold Nl
   simp only [zbz,zcD,zaQ])) Tryz.call46
  |>.cons (fun W hW=>bC fun a b h=>kh BN (ann:=noA) (n:=4) hW dz ((cP cDR cB).ids _) (by
   unfold uzD at h;simp only [za2] at h;rw [JI];unfold JH;refine ac (by rw [h.1.1,h.2.1];rfl) (ac (by rw [h.1.2,h.2.1];rfl) (ac (by rw [h.1.1,h.2.2];rfl) (ac (by rw [gI,gI];rfl) (xL ?_))));unfold JE
   simp only [zbz,zcD,zaQ])) Tryz.call45
noncomputable def Dh:List (FuncId×Ctr):=
 BO
theorem gok10:GOk Dh:=
 JJ
@[irreducible] def JL (gm:List (FuncId×MCtr)) (ann:FuncId->Nat->Option (AS->Ann)) (n:Nat) (f:FuncId) (args:List SV) (Cs:List Blk) (K:Aft):Prop:=
 Ay Tryz.prog (iR v9) (gw Dh) (gx gm) tL ann n f args (fun i=>Cs[i]?) Cs.length [] K
theorem Q8 {gm:List (FuncId×MCtr)} {ann:FuncId->Nat->Option (AS->Ann)} {n:Nat} {f:FuncId} {args:List SV} {Cs:List Blk} {K K':Aft} (h:JL gm ann n f args Cs K) (hm: ∀ r b n w,K r b n w->K' r b n w):JL gm ann n f args Cs K':=by
 unfold JL at h ⊢;exact NiceT.mono (Ea _ _ _ _ _ _ f args _ _ _ (fun i hi=>zad hi)) h fun r b n w _=>hm r b n w
theorem Qy {gm:List (FuncId×MCtr)} (hm:MOk gm) {B:Base} (hB:GlobB B):HypD Tryz.prog B (iR v9) (gw Dh) (gx gm) tL:=
 have h:Hyp Tryz.prog B (iR v9) (gw Dh) (gx gm):=mW (fun p hp=>⟨CtrOK.base fun w hw=>(gok10.all w (hB w hw) p hp).1,(gok10.all B.w (hB B.w (Pres.self B)) p hp).2⟩) (hm.all B hB) zG (by kernel_rfl)
 ⟨h.gam,h.mem,(P2 hm hB).dem,h.ok,h.mixed⟩
theorem Sh {gm:List (FuncId×MCtr)} (hm:MOk gm) {F:FuncId} {k:MCtr} (h: ∀ (bl:Nat->Option Blk) (nx:Nat) (args:List SV) (C:RC),k bl nx args=some C->C.pre=true->
 ∃ (src:List (Option Nat)) (Cs:List Blk) (args0:List SV) (ann:FuncId->Nat->Option (AS->Ann)) (n:Nat),yw bl (rnF src [] nx) src Cs/\Kr src Cs/\Far src Cs/\SV.rns (rnF src [] nx) args0=some args/\JL gm ann n F args0 Cs (KB C src Cs nx)):
 ∀ B:Base,GlobB B->MCtrOK Tryz.prog B F k:=fun B hB=>wE (fun B' hs=>Qy hm (hB.sub hs)) fun bl nx args C hk hp=>by
 have:=h bl nx args C hk hp;unfold JL at this;exact this
end Go.Proofs.YtahblkeackebaaaGreatDoor
namespace Yk
open Go Go.RowKit Go.Sy
def RQ (y:I4):List SV:= [.val (.int .i64 y.1), .val (.int .i64 y.2.1), .val (.int .i64 y.2.2.1), .val (.int .i64 y.2.2.2)]
def Ud:List SV->I4
 | [.val (.int .i64 a), .val (.int .i64 b), .val (.int .i64 c), .val (.int .i64 d)]=>(a,b,c,d)
 |_=>(0,0,0,0)
def e4:El I4:={sz:=4,sv:=RQ,of:=Ud,d:=(0,0,0,0),rt:=fun _=>rfl,ids:=fun _=>rfl,len:=fun _=>rfl,one:=by decide}
def uz4 (y:I4):Bool:=uInt y.1&&uInt y.2.1&&uInt y.2.2.1&&uInt y.2.2.2
structure Cas where
 a:Int×Int×Int
 k:Int
 x:List I4
 e:Bool
 v:(Int×Int)×(Int×Int)×(Int×Int)
def Cas.ok (c:Cas):Bool:=uInt c.a.1&&uInt c.a.2.1&&uInt c.a.2.2&&uInt c.k&&c.x.all uz4&&uInt c.v.1.1&&uInt c.v.1.2&&uInt c.v.2.1.1&&uInt c.v.2.1.2&&uInt c.v.2.2.1&&uInt c.v.2.2.2
def Rs (c:Cas) (n:Nat):SV:= .agg [.val (.int .i64 c.a.1), .val (.int .i64 c.a.2.1), .val (.int .i64 c.a.2.2), .val (.int .i64 c.k), .slc 0 0 n, .val (.bool c.e), .val (.int .i64 c.v.1.1), .val (.int .i64 c.v.1.2), .val (.int .i64 c.v.2.1.1), .val (.int .i64 c.v.2.1.2), .val (.int .i64 c.v.2.2.1), .val (.int .i64 c.v.2.2.2)]
end Yk
namespace Go.Proofs.YtahblkeackebaaaGreatDoor
open Go Go.RowKit Go.Sy Yk
def T9 (k:Int):Int:=F8 [2, -1,3, -2,1] (0+k.toNat)
def opF (y:I4):Int:=1+co y.1 8
noncomputable def RR (ni n:Int) (y:I4):Nd:=
 bif opF y==1 then ⟨opF y,(rMk (co y.2.1 13 - 6) (1+co y.2.2.1 4)).1,BL y.2.2.2,0,0,0⟩ else
 bif opF y==2 then ⟨opF y,noR2,noU,co y.2.1 ni,0,0⟩ else
 bif opF y==7 then ⟨opF y,noR2,noU,T9 (co y.2.2.1 5),co y.2.1 n,0⟩ else
 bif opF y==8 then ⟨opF y,noR2,noU,0,co y.2.1 n,0⟩ else ⟨opF y,noR2,noU,0,co y.2.1 n,co y.2.2.1 n⟩
noncomputable def TH (ex:Bool) (inp:List Un) (y:I4) (z:List Nd×List Un):List Nd×List Un:=
 match mn inp z.2 (RR inp.length z.1.length y) with
 |some u=>bif !ex||opF y !=8 then (z.1++ [RR inp.length z.1.length y],z.2++ [u]) else z
 |none=>z
noncomputable def RT (ex:Bool) (inp:List Un):List I4->List Nd×List Un->List Nd×List Un
 | [],z=>z
 |y::r,z=>bif decide (z.1.length<14) then RT ex inp r (TH ex inp y z) else z
noncomputable def QQ (a:Int×Int×Int) (k:Nat):List Un:=Go.Sy.tab (fun j=>BL (nthD 0 [a.1,a.2.1,a.2.2] j)) k
def R9 (k:Nat):List Nd:=Go.Sy.tab (fun j=>nIn j) k
noncomputable def Rb (a:Int×Int×Int) (count:Int) (xs:List I4) (ex:Bool):List Nd×List Un:=RT ex (QQ a ((co count 3).toNat+1)) xs (R9 ((co count 3).toNat+1),QQ a ((co count 3).toNat+1))
noncomputable def Bd (a:Int×Int×Int) (count:Int) (xs:List I4) (ex:Bool):Pr:=
 ⟨1+co count 900,QQ a ((co count 3).toNat+1),(Rb a count xs ex).1,ly (Rb a count xs ex).2⟩
theorem Rv {inp:List Un} {x:Nd} {u:Un}: ∀ {l:List Nd} {us vs:List Un},unsF inp l us=(vs,true)->mn inp vs x=some u->unsF inp (l++ [x]) us=(vs++ [u],true)
 | [],us,vs,h,k=>by
   simp only [unsF,zag,and_true] at h;subst h;simp only [zaM,unsF,k]
 |y::r,us,vs,h,k=>by
  simp only [zaO,unsF] at h ⊢;cases e:mn inp us y with
  |none=>rw [e] at h;simp only [zag] at h;cases h.2
  |some v=>rw [e] at h;exact Rv h k
structure MadOK (inp:List Un) (z:List Nd×List Un):Prop where
 len:z.2.length=z.1.length
 pos:1<=z.1.length
 le:z.1.length<=14
 un:unsF inp z.1 []=(z.2,true)
 szn: ∀ x∈z.1,szN x=true
 szu: ∀ u∈z.2,szB u=true
theorem RK (p:Un->Bool) (h: [aT 0,aT 2,{aT 0 with f:=(⟨#[49]⟩,⟨#[49,48,48,48]⟩)},(fd (aT 0) (aT 0)).1,{aT 4 with s:=0,o:=(⟨#[53,52,54,51]⟩,⟨#[50,48]⟩)},aT 4,(mi (aT 0) (aT 0)).1].all p=true) (n:Int):p (BL n)=true:=by
 have B: ∀ (b:Bool) (x y:Un),p x=true->p y=true->p (cond b x y)=true:=fun b x y h k=>by cases b;exact k;exact h
 simp only [zbz,zcD,zaQ,za2] at h;unfold BL;exact B _ _ _ h.1 (B _ _ _ h.2.1 (B _ _ _ h.2.2.1 (B _ _ _ h.2.2.2.1 (B _ _ _ h.2.2.2.2.1 (B _ _ _ h.2.2.2.2.2.1 h.2.2.2.2.2.2)))))
theorem Sa (n:Int):validF (BL n)=true:=RK validF (by kernel_rfl) n
theorem QY (n:Int):szB (BL n)=true:=RK szB (by kernel_rfl) n
theorem Sr (ni n:Int) (y:I4):szN (RR ni n y)=true:=by
 have B: ∀ (b:Bool) (x y:Nd),szN x=true->szN y=true->szN (cond b x y)=true:=fun b x y h k=>by cases b;exact k;exact h
 unfold RR;refine B _ _ _ ?_ (B _ _ _ lB (B _ _ _ lB (B _ _ _ lB lB)));show (uzR (rMk _ _).1&&szB (BL _))=true;rw [gu,QY];rfl
theorem MadOK.step {ex:Bool} {inp:List Un} {y:I4} {z:List Nd×List Un} (hi: ∀ u∈inp,szB u=true) (h:MadOK inp z) (hl:z.1.length<14):MadOK inp (TH ex inp y z):=by
 unfold TH;split
 ·rename_i u hu;cases !ex||opF y !=8 with
  |false=>exact h
  |true=>
   have hx:=Sr inp.length z.1.length y;refine ⟨by simp [h.len],by simp,by simp;omega,Rv h.un hu,fun x hx'=> ?_,fun v hv=> ?_⟩
   ·rcases za8.1 hx' with a|a
    ·exact h.szn x a
    ·rw [zaj.1 a];exact hx
   ·rcases za8.1 hv with a|a
    ·exact h.szu v a
    ·rw [zaj.1 a];exact CR hx hi h.szu hu
 ·exact h
theorem MadOK.all {ex:Bool} {inp:List Un} (hi: ∀ u∈inp,szB u=true): ∀ {xs:List I4} {z:List Nd×List Un},MadOK inp z->MadOK inp (RT ex inp xs z)
 | [],z,h=>h
 |y::r,z,h=>by
  unfold RT;cases hl:decide (z.1.length<14) with
  |false=>exact h
  |true=>exact MadOK.all hi (h.step hi (of_decide_eq_true hl))
theorem QT {a:Int×Int×Int} {p:Un->Bool} (hp: ∀ n,p (BL n)=true): ∀ {k:Nat},∀ u∈QQ a k,p u=true
 |0,u,h=>by cases h
 |k+1,u,h=>by
  rcases za8.1 h with h|h
  ·exact QT hp u h
  ·rw [zaj.1 h];exact hp _
theorem QR {a:Int×Int×Int} {k:Nat}:(QQ a k).length=k:=fJ _ _
theorem QZ {k:Nat}:(R9 k).length=k:=fJ _ _
theorem Si {a:Int×Int×Int} {K:Nat}: ∀ {k:Nat},k<=K->unsF (QQ a K) (R9 k) []=(QQ a k,true)
 |0,_=>rfl
 |k+1,h=>Rv (Si (Nat.le_of_succ_le h)) (by
  have e:nthD noU (QQ a K) k=BL (nthD 0 [a.1,a.2.1,a.2.2] k):=bR (qX _ (by omega));have f:formF (QQ a k).length (nIn k)=true:=rfl;have u:fL (QQ a K) (QQ a k) (nIn k)=(BL (nthD 0 [a.1,a.2.1,a.2.2] k),0):=by
   show (bif decide (0<=((k:Nat):Int))&&decide (((k:Nat):Int)<((QQ a K).length:Int)) then (nthD noU (QQ a K) ((k:Nat):Int).toNat,0) else (noU,90))=_;rw [QR,decide_eq_true (by omega),decide_eq_true (by omega),zda,e];rfl
  show mn (QQ a K) (QQ a k) (nIn k)=some (BL (nthD 0 [a.1,a.2.1,a.2.2] k));unfold mn
  rw [f,u];rfl)
theorem RU: ∀ {k:Nat},∀ x∈R9 k,szN x=true
 |0,x,h=>by cases h
 |k+1,x,h=>by
  rcases za8.1 h with h|h
  ·exact RU x h
  ·rw [zaj.1 h];exact lB
section
variable {a:Int×Int×Int} {count:Int} {xs:List I4} {ex:Bool}
theorem Rc:1<=(co count 3).toNat+1/\(co count 3).toNat+1<=3:=by
 have:=gR count (n:=3) (by decide);omega
theorem Sj:MadOK (QQ a ((co count 3).toNat+1)) (Rb a count xs ex):=by
 have:=Rc (count:=count);exact MadOK.all (QT QY) ⟨by rw [QR,QZ],by rw [QZ];exact this.1,by rw [QZ];omega,Si (za0 _),RU,QT QY⟩
theorem Sk:validP (Bd a count xs ex)=true:=by
 have h:=Sj (a:=a) (count:=count) (xs:=xs) (ex:=ex);have n:=Rc (count:=count);have b:=gR count (n:=900) (by decide);have hb:oB (Bd a count xs ex)=true:=begF_iff.2 ⟨⟨by show 1<=1+co count 900;omega,by show 1+co count 900<=1000000;omega,by show (QQ a _).length<=6;rw [QR];omega⟩,zaf.2 (QT Sa),h.pos,by have:=h.le;show (Rb a count xs ex).1.length<=40;omega⟩;unfold validP checkF;rw [hb,cond_true,show unsF (Bd a count xs ex).inp (Bd a count xs ex).nod []=((Rb a count xs ex).2,true) from h.un];show ((bif eqU (ly (Rb a count xs ex).2) (ly (Rb a count xs ex).2) then _ else _:List Un×Int×Int).2.2==0)=true;rw [show eqU (ly (Rb a count xs ex).2) (ly (Rb a count xs ex).2)=true from eqU_iff.2 rfl];rfl
theorem SO {us:List Un} (h: ∀ u∈us,szB u=true):szB (ly us)=true:=eH h _
theorem Tn:cw (Bd a count xs ex)=true:=by
 have h:=Sj (a:=a) (count:=count) (xs:=xs) (ex:=ex);unfold cw;rw [show (Bd a count xs ex).inp.all szB=true from zaf.2 (QT QY),show (Bd a count xs ex).nod.all szN=true from zaf.2 h.szn,show szB (Bd a count xs ex).out=true from SO h.szu];rfl
theorem Sb:1<=(Bd a count xs ex).inp.length/\(Bd a count xs ex).inp.length<=3/\1<=(Bd a count xs ex).nod.length/\(Bd a count xs ex).nod.length<=14:=by
 have h:=Sj (a:=a) (count:=count) (xs:=xs) (ex:=ex);have n:=Rc (count:=count);refine ⟨?_, ?_,h.pos,h.le⟩
 ·show 1<=(QQ a _).length;rw [QR];omega
 ·show (QQ a _).length<=3;rw [QR];omega
end
def rulO (o:Int):Nd:=⟨o,noR2,noU,0,1,2⟩
def zK (o:Int) (g:Nat->List SV):Nat->List SV:=fun i=>bif Nat.beq i 3 then gZ (g i) 0 (svN (rulO o)) else g i
def zM (a b:RS):Bool:=seq a.1 b.1&&(seq a.2 b.2&&true)
structure RulG (n m o:Int) (g:Nat->List SV):Prop where
 g0:g 0=svN (nIn 0)
 g1:g 1=svN (nPow n 0)
 g2:g 2=svN (nPow m 0)
 g3:g 3=svN (rulO o)
theorem RulG.next {n m o p:Int} {g:Nat->List SV} (h:RulG n m o g):RulG n m p (zK p g):=⟨h.g0,h.g1,h.g2,by show gZ (g 3) 0 (svN (rulO p))=_;rw [h.g3];rfl⟩
theorem RulG.good {n m o:Int} {g:Nat->List SV} (h:RulG n m o g):eN.good szN 4 g=true:=El.good_iff.2 fun e he=>by
 rcases (show e=0\/e=1\/e=2\/e=3 by omega) with rfl|rfl|rfl|rfl
 ·rw [h.g0];exact ⟨rfl,lB⟩
 ·rw [h.g1];exact ⟨rfl,lB⟩
 ·rw [h.g2];exact ⟨rfl,lB⟩
 ·rw [h.g3];exact ⟨rfl,lB⟩
def To (p:Pr) (c:Cas):List Blk:= [eU.old p.inp,eN.old p.nod,e4.old c.x]
def SP (i:Nat) (c:Cas) (n:Nat):SV:= .agg [.val (.int .i64 c.a.1), .val (.int .i64 c.a.2.1), .val (.int .i64 c.a.2.2), .val (.int .i64 c.k), .slc i 0 n, .val (.bool c.e), .val (.int .i64 c.v.1.1), .val (.int .i64 c.v.1.2), .val (.int .i64 c.v.2.1.1), .val (.int .i64 c.v.2.1.2), .val (.int .i64 c.v.2.2.1), .val (.int .i64 c.v.2.2.2)]
abbrev Rw (p:Pr) (c:Cas) (KS:Nat->Nat->Blk->Prop):Prop:=JL [] (fun _ _=>none) 4 8 [kB p,SP 2 c c.x.length] (To p c) (xo KS)
def TI (g:Nat->List SV):List RS->Nat->Prop
 | [],_=>True
 |r::t,e=>g e=gA r/\TI g t (e+1)
def vK (l:List RS) (i n:Nat) (B:Blk):Prop:=n=l.length/\B.n=l.length/\B.sz=2/\B.kd= .own/\Nat.ble 3 i=true/\TI B.get l 0
noncomputable def vT (l:List RS):Prop:=vK l 3 l.length {n:=l.length,sz:=2,get:=eR.get l,kd:= .own,nn:=false}
noncomputable def vs1 (c:Cas):RS:=Yk.smallF (c.v.1.1,Int.tmod c.v.1.2 7)
noncomputable def vs2 (c:Cas):RS:=Yk.smallF (c.v.2.1.1,Int.tmod c.v.2.1.2 7)
noncomputable def vs3 (c:Cas):RS:=Yk.smallF (c.v.2.2.1,Int.tmod c.v.2.2.2 7)
theorem Tp (u:Un) (p:Pr) (c:Cas):Rw {p with inp:= [u]} c (vK [vs1 c])=af (uInt c.v.1.1&&uInt (Int.tmod c.v.1.2 7)) (vT [vs1 c]):=by kernel_rfl
theorem Tq (u v:Un) (p:Pr) (c:Cas):Rw {p with inp:= [u,v]} c (vK [vs1 c,vs2 c])=af (uInt c.v.1.1&&uInt (Int.tmod c.v.1.2 7)) (af (uInt c.v.2.1.1&&uInt (Int.tmod c.v.2.1.2 7)) (vT [vs1 c,vs2 c])):=by kernel_rfl
theorem Ts (u v w:Un) (p:Pr) (c:Cas):Rw {p with inp:= [u,v,w]} c (vK [vs1 c,vs2 c,vs3 c])=af (uInt c.v.1.1&&uInt (Int.tmod c.v.1.2 7)) (af (uInt c.v.2.1.1&&uInt (Int.tmod c.v.2.1.2 7)) (af (uInt c.v.2.2.1&&uInt (Int.tmod c.v.2.2.2 7)) (vT [vs1 c,vs2 c,vs3 c]))):=by kernel_rfl
def TJ (nx:Nat) (q:Pr):SV:= .agg (.val (.int .i64 q.id):: .slc nx 0 q.inp.length:: .slc (nx+1) 0 q.nod.length::ci q.out)
noncomputable def SQ:MCtr:=fun bl nx args=>match args with
 | [.agg [.val (.int .i64 a), .val (.int .i64 b), .val (.int .i64 c)], .val (.int .i64 k),s, .val (.bool ex)]=>match gy bl 4 s with
   |some (bb,_,n,g)=>some {X:=Unit,pre:=bb&&decide (n<=9223372036854775807)&&e4.good uz4 n g&&uInt a&&uInt b&&uInt c&&uInt k,spec:=fun _=>True,out:=fun _=>TJ nx (Bd (a,b,c) k (e4.list n g) ex),nw:=fun _=> [eU.own (Bd (a,b,c) k (e4.list n g) ex).inp,eN.own (Bd (a,b,c) k (e4.list n g) ex).nod],ex:=fun _=>⟨(),trivial⟩}
   |none=>none
 |_=>none
noncomputable def Q7 (v:(Int×Int)×(Int×Int)×(Int×Int)) (k:Nat):List RS:=Go.Sy.tab (fun j=>Yk.smallF (nthD (0,0) [(v.1.1,Int.tmod v.1.2 7),(v.2.1.1,Int.tmod v.2.1.2 7),(v.2.2.1,Int.tmod v.2.2.2 7)] j)) k
noncomputable def SR:MCtr:=fun bl nx args=>match args with
 | [s, .agg [.val (.int .i64 _), .val (.int .i64 _), .val (.int .i64 _), .val (.int .i64 _),t, .val (.bool _), .val (.int .i64 a), .val (.int .i64 b), .val (.int .i64 c), .val (.int .i64 d), .val (.int .i64 e), .val (.int .i64 f)]]=>match mC bl s,gy bl 4 t with
   |some p,some (bb,_,n,g)=>some {X:=Unit,pre:=p.need&&bb&&e4.good uz4 n g&&decide (1<=p.p.inp.length)&&decide (p.p.inp.length<=3)&&uInt a&&uInt b&&uInt c&&uInt d&&uInt e&&uInt f,spec:=fun _=>True,out:=fun _=> .slc nx 0 p.p.inp.length,nw:=fun _=> [eR.own (Q7 ((a,b),(c,d),(e,f)) p.p.inp.length)],ex:=fun _=>⟨(),trivial⟩}
   |_,_=>none
 |_=>none
noncomputable def SS:List (FuncId×MCtr):= [(23,SQ),(8,SR),(11,Ru),(10,C8),(15,O2),(9,zm),(26,pN),(6,xI)]
def ST (c:Cas):List Blk:= [e4.old c.x]
noncomputable def Rp (c:Cas) (ex:Bool):Pr:=Bd c.a c.k (e4.list c.x.length (e4.get c.x)) ex
noncomputable def Sl (c:Cas):Bool:=(Nat.ble c.x.length c.x.length&&Nat.beq 4 4&&true)&&decide (c.x.length<=9223372036854775807)&&e4.good uz4 c.x.length (e4.get c.x)&&uInt c.a.1&&uInt c.a.2.1&&uInt c.a.2.2&&uInt c.k
noncomputable def Sm (c:Cas) (p:Pr):Bool:=jn p&&(Nat.ble c.x.length c.x.length&&Nat.beq 4 4&&true)&&e4.good uz4 c.x.length (e4.get c.x)&&decide (1<=(dm p).inp.length)&&decide ((dm p).inp.length<=3)&&uInt c.v.1.1&&uInt c.v.1.2&&uInt c.v.2.1.1&&uInt c.v.2.1.2&&uInt c.v.2.2.1&&uInt c.v.2.2.2
noncomputable def SU (c:Cas) (p:Pr):List RS:=Q7 c.v (dm p).inp.length
noncomputable def Sn (c:Cas) (p:Pr):List RS:=eR.list (dm p).inp.length (eR.get (SU c p))
noncomputable def SW (c:Cas) (p q:Pr):Bool:=jn q&&(Nat.ble (dm p).inp.length (SU c p).length&&Nat.beq 2 2&&true)&&bW (dm p).inp.length&&eR.good uzR (dm p).inp.length (eR.get (SU c p))
def Tt (y n:Int):Bool:=uInt y&&decide (0<n)
def nd1 (b:Bool) (K:Prop):Prop:=af b (Unit->True->K)
def TK:List Int->Prop->Prop->Prop
 | [],_,K=>K
 |e::r,X,K=>ag (e !=0) X (TK r X K)
noncomputable def TL (c:Cas) (p:Pr) (i k:Int) (Q:SV->Prop):Prop:=
 nd1 (Sl c) (nd1 (Sm c p) (af (Tt i p.inp.length) (af (Tt k p.inp.length) (nd1 (jn p) (nd1 (jn p)
  (nd1 (jn (aG (dm p) (co i p.inp.length)).1) (nd1 (jn (aG (dm p) (co k p.inp.length)).1)
  (nd1 (SW c p (aG (dm (aG (dm p) (co i p.inp.length)).1) (co k p.inp.length)).1) (nd1 (SW c p (aG (dm (aG (dm p) (co k p.inp.length)).1) (co i p.inp.length)).1) (nd1 (SW c p p)
  (TK [(aG (dm p) (co i p.inp.length)).2,(aG (dm p) (co k p.inp.length)).2,(aG (dm (aG (dm p) (co i p.inp.length)).1) (co k p.inp.length)).2,(aG (dm (aG (dm p) (co k p.inp.length)).1) (co i p.inp.length)).2,
      (bn (dm (aG (dm (aG (dm p) (co i p.inp.length)).1) (co k p.inp.length)).1) (Sn c p)).2,(bn (dm (aG (dm (aG (dm p) (co k p.inp.length)).1) (co i p.inp.length)).1) (Sn c p)).2,(bn (dm p) (Sn c p)).2]
    (Q (cB.enc true))
    (Q (cB.enc (zM (bn (dm (aG (dm (aG (dm p) (co i p.inp.length)).1) (co k p.inp.length)).1) (Sn c p)).1 (bn (dm (aG (dm (aG (dm p) (co k p.inp.length)).1) (co i p.inp.length)).1) (Sn c p)).1))))))))))))))
theorem SY (c:Cas) (i k:Int) (Q:SV->Prop):JL SS (fun _ _=>none) 8 4 [Rs c c.x.length,cI.enc i,cI.enc k] (ST c) (Go.Sy.okK fun r _ _ _=>Q r)=(Unit->True->TL c (Rp c true) i k Q):=by kernel_rfl
noncomputable def tyF (inp us:List Un) (x:Nd):Un×Int:=match mn inp us x with
 |some u=>(u,0)
 |none=>(noU,90)
def tyB (p:Pr) (us:List Un):List Blk:= [eU.old p.inp,eN.old p.nod,eU.old us]
def tyA (p:Pr) (us:List Un) (x:Nd) (at_:Int):List SV:= [kB p, .agg (svN x),cI.enc at_, .slc 2 0 us.length]
abbrev Re (op:Int) (p:Pr) (us:List Un) (x:Nd) (at_:Int) (Q:SV->Prop):Prop:=JL [] (fun _ _=>none) 6 65 (tyA p us {x with op:=op} at_) (tyB p us) (Go.Sy.okK fun r _ _ _=>Q r)
def QS:SV:= .tup [.agg (ci noU), .val (.int .i64 90)]
def RA (u:Un):SV:= .tup [.agg (ci u), .val (.int .i64 0)]
def Ss (r:Un×Int) (Q:SV->Prop):Prop:=ag (r.2 !=0) (Q QS) (Q (RA r.1))
def wiB (n lo hi:Int):Bool:=bif decide (n≥lo) then decide (n<=hi) else false
def TM (x:Nd) (Q:SV->Prop):Prop:=af (uzR x.v) (af (aH x.u) (ag (!(bif (bif eqN {x with op:=1} {noN with op:=1,v:=x.v,u:=x.u} then rV x.v else false) then iy x.u else false)) (Q QS) (Q (RA x.u))))
def TN (p:Pr) (x:Nd) (Q:SV->Prop):Prop:=af (dC (eqN {x with op:=2} {noN with op:=2,n:=x.n}) (inR .i64 ((p.inp.length:Int) - 1))) (ag (eqN {x with op:=2} {noN with op:=2,n:=x.n})
 (ag (!wiB x.n 0 ((p.inp.length:Int) - 1)) (Q QS) (eO p.inp.length x.n (Q (RA (nthD noU p.inp (0+x.n.toNat)))))) (Q QS))
def SG (op:Int) (f:Un->Un->Un×Int) (us:List Un) (x:Nd) (a:Int) (Q:SV->Prop):Prop:=
 af (dC (eqN {x with op:=op} {noN with op:=op,l:=x.l,r:=x.r}) (inR .i64 (a - 1))) (ag (eqN {x with op:=op} {noN with op:=op,l:=x.l,r:=x.r})
  (af (dC (wiB x.l 0 (a - 1)) (inR .i64 (a - 1))) (ag (wiB x.l 0 (a - 1)) (ag (!wiB x.r 0 (a - 1)) (Q QS) (pL us x fun u v=>Ss (f u v) Q)) (Q QS)))
  (af (dC false (inR .i64 (a - 1))) (Q QS)))
def TO (us:List Un) (x:Nd) (a:Int) (Q:SV->Prop):Prop:=
 af (dC (eqN {x with op:=7} {noN with op:=7,n:=x.n,l:=x.l}) (inR .i64 (a - 1))) (ag (eqN {x with op:=7} {noN with op:=7,n:=x.n,l:=x.l})
  (ag (wiB x.l 0 (a - 1)) (ag (!(bif wiB x.n (-4) 4 then x.n !=0 else false)) (Q QS) (eO us.length x.l (eO us.length x.r (af (aH (nthD noU us (0+x.l.toNat))) (Ss (jm (nthD noU us (0+x.l.toNat)) (x.n,1)) Q))))) (Q QS)) (Q QS))
def TP (us:List Un) (x:Nd) (a:Int) (Q:SV->Prop):Prop:=
 af (dC (eqN {x with op:=8} {noN with op:=8,l:=x.l}) (inR .i64 (a - 1))) (ag (eqN {x with op:=8} {noN with op:=8,l:=x.l})
  (ag (!wiB x.l 0 (a - 1)) (Q QS) (eO us.length x.l (eO us.length x.r (af (aH (nthD noU us (0+x.l.toNat))) (Ss (jm (nthD noU us (0+x.l.toNat)) (1,2)) Q))))) (Q QS))
theorem TQ (p:Pr) (us:List Un) (x:Nd) (a:Int) (Q:SV->Prop):Re 1 p us x a Q=TM x Q:=by kernel_rfl
theorem TR (p:Pr) (us:List Un) (x:Nd) (a:Int) (Q:SV->Prop):Re 2 p us x a Q=TN p x Q:=by kernel_rfl
theorem TS (p:Pr) (us:List Un) (x:Nd) (a:Int) (Q:SV->Prop):Re 3 p us x a Q=SG 3 iS us x a Q:=by kernel_rfl
theorem TT (p:Pr) (us:List Un) (x:Nd) (a:Int) (Q:SV->Prop):Re 4 p us x a Q=SG 4 fw us x a Q:=by kernel_rfl
theorem TU (p:Pr) (us:List Un) (x:Nd) (a:Int) (Q:SV->Prop):Re 5 p us x a Q=SG 5 mi us x a Q:=by kernel_rfl
theorem TW (p:Pr) (us:List Un) (x:Nd) (a:Int) (Q:SV->Prop):Re 6 p us x a Q=SG 6 fd us x a Q:=by kernel_rfl
theorem TX (p:Pr) (us:List Un) (x:Nd) (a:Int) (Q:SV->Prop):Re 7 p us x a Q=TO us x a Q:=by kernel_rfl
theorem TY (p:Pr) (us:List Un) (x:Nd) (a:Int) (Q:SV->Prop):Re 8 p us x a Q=TP us x a Q:=by kernel_rfl
noncomputable def SZ:MCtr:=fun bl _ args=>match args with
 | [s, .agg cs, .val (.int .i64 at_),t]=>match mC bl s,gy bl 20 t with
   |some a,some (b,_,n,g)=>some {X:=Unit,pre:=a.need&&b&&bW n&&eU.good szB n g&&ndB cs&&szN (wz cs)&&decide (at_=(n:Int))&&decide (1<=(wz cs).op)&&decide ((wz cs).op<=8),spec:=fun _=>True,out:=fun _=> .tup [.agg (ci (tyF a.p.inp (eU.list n g) (wz cs)).1), .val (.int .i64 (tyF a.p.inp (eU.list n g) (wz cs)).2)],ex:=fun _=>⟨(),trivial⟩}
   |_,_=>none
 |_=>none
theorem eqN_iff {x y:Nd}:eqN x y=true↔x=y:=by
 obtain ⟨a1,a2,a3,a4,a5,a6⟩:=x;obtain ⟨b1,b2,b3,b4,b5,b6⟩:=y;simp only [eqN,za2,beq_iff_eq,eqR_iff,eqU_iff,Nd.mk.injEq,and_true]
theorem Rf {a b c d:Nd} (h:a=b↔c=d):eqN a b=eqN c d:=by
 rw [zax,eqN_iff,eqN_iff];exact h
theorem Q4 {n:Nat} {i:Int}:wiB i 0 ((n:Int) - 1)=Go.Proofs.YtahblkeackebaaaGreatDoor.earF n i:=by
 rw [zax,earF_iff];unfold wiB;by_cases h:i≥0
 ·rw [decide_eq_true h,cond_true,decide_eq_true_eq];omega
 ·rw [decide_eq_false h,cond_false];simp;omega
theorem Q5 {a b:Bool} {K:Prop} (h:b=true) (k:K):af (dC a b) K:=ac (mb h) k
section
variable {inp us:List Un} {x:Nd} {Q:SV->Prop}
theorem tyQ (h:Q (.tup [.agg (ci (tyF inp us x).1), .val (.int .i64 (tyF inp us x).2)])):(mn inp us x=none->Q QS)/\(∀ u,mn inp us x=some u->Q (RA u)):=by
 unfold tyF at h;exact ⟨fun e=>by rw [e] at h;exact h,fun u e=>by rw [e] at h;exact h⟩
theorem QW (h:formF us.length x=false):mn inp us x=none:=by unfold mn;rw [h];rfl
theorem Q6 (h:formF us.length x=true):mn inp us x=bif (fL inp us x).2==0 then some (fL inp us x).1 else none:=by unfold mn;rw [h];rfl
theorem Rx {r:Un×Int} (hf:formF us.length x=true) (hu:fL inp us x=r) (hb:mn inp us x=none->Q QS) (ho: ∀ u,mn inp us x=some u->Q (RA u)):Ss r Q:=by
 have t:=Q6 (inp:=inp) hf;rw [hu] at t;refine ah (fun h=>hb ?_) (fun h=>ho _ ?_)
 ·rw [t,show (r.2==0)=false by simpa using h];rfl
 ·rw [t,show (r.2==0)=true by simpa using h];rfl
theorem TZ (o:x.op=1) (hx:szN x=true) (hb:mn inp us x=none->Q QS) (ho: ∀ u,mn inp us x=some u->Q (RA u)):TM x Q:=by
 unfold szN at hx;rw [za2] at hx;have hform:formF us.length x=eqN {x with op:=1} {noN with op:=1,v:=x.v,u:=x.u}:=by
  unfold formF;rw [o];exact Rf (by obtain ⟨a1,a2,a3,a4,a5,a6⟩:=x;simp [noN])
 have huni:fL inp us x=bif rV x.v&&validF x.u then (x.u,0) else (noU,90):=by unfold fL;rw [o];rfl
 unfold TM;rw [<- hform,jE];refine ac hx.1 (ac hx.2 (ah (fun h=>hb ?_) (fun h=>ho _ ?_)))
 ·cases f:formF us.length x with
  |false=>exact QW f
  |true=>
   rw [Q6 f,huni];rw [f] at h;cases a:rV x.v with
   |false=>rfl
   |true=>cases b:validF x.u with
    |false=>rfl
    |true=>rw [a,b] at h;cases h
 ·cases f:formF us.length x with
  |false=>rw [f] at h;cases h
  |true=>
   rw [Q6 f,huni];rw [f] at h;cases a:rV x.v with
   |false=>rw [a] at h;cases h
   |true=>cases b:validF x.u with
    |false=>rw [a,b] at h;cases h
    |true=>rfl
theorem T0 {p:Pr} (hp:p.inp=inp) (hl:inp.length<=1000000) (o:x.op=2) (hb:mn inp us x=none->Q QS) (ho: ∀ u,mn inp us x=some u->Q (RA u)):TN p x Q:=by
 subst hp;have hform:formF us.length x=eqN {x with op:=2} {noN with op:=2,n:=x.n}:=by
  unfold formF;rw [o];show eqN ⟨0,x.v,x.u,0,x.l,x.r⟩ noN=_;exact Rf (by obtain ⟨a1,a2,a3,a4,a5,a6⟩:=x;simp [noN])
 have huni:fL p.inp us x=bif decide (0<=x.n)&&decide (x.n<(p.inp.length:Int)) then (nthD noU p.inp x.n.toNat,0) else (noU,90):=by unfold fL;rw [o];rfl
 unfold TN;rw [<- hform];refine Q5 (inR64.2 (by omega)) (ah (fun f=>ah (fun h=>hb ?_) (fun h=> ?_)) (fun f=>hb (QW f)))
 ·rw [Q6 f,huni];rw [Q4] at h;have:earF p.inp.length x.n=false:=by simpa using h
  rw [show (decide (0<=x.n)&&decide (x.n<(p.inp.length:Int)))=false from this];rfl
 ·rw [Q4] at h;have h':earF p.inp.length x.n=true:=by simpa using h
  have e:=earF_iff.1 h';refine aY e.1 e.2 (ho _ ?_);rw [Q6 f,huni,show (decide (0<=x.n)&&decide (x.n<(p.inp.length:Int)))=true from h',za7];rfl
theorem RV {op a:Int} {f:Un->Un->Un×Int} (o:x.op=op) (hop:3<=op/\op<=6) (ha:a=(us.length:Int)) (hl:us.length<=1000000) (hu: ∀ u∈us,szB u=true) (huni:fL inp us x=f (nthD noU us x.l.toNat) (nthD noU us x.r.toNat)) (hb:mn inp us x=none->Q QS) (ho: ∀ u,mn inp us x=some u->Q (RA u)):SG op f us x a Q:=by
 subst ha;have hform:formF us.length x=(eqN {x with op:=op} {noN with op:=op,l:=x.l,r:=x.r}&&earF us.length x.l&&earF us.length x.r):=by
  unfold formF;rw [beq_false_of_ne (show x.op≠1 by omega),beq_false_of_ne (show x.op≠2 by omega),decide_eq_true (show 3<=x.op by omega),decide_eq_true (show x.op<=6 by omega)];show (eqN ⟨0,x.v,x.u,x.n,0,0⟩ noN&&_&&_)=_;rw [Rf (a:=⟨0,x.v,x.u,x.n,0,0⟩) (b:=noN) (c:={x with op:=op}) (d:={noN with op:=op,l:=x.l,r:=x.r}) (by obtain ⟨a1,a2,a3,a4,a5,a6⟩:=x;simp [noN])]
 unfold SG;rw [Q4,Q4];generalize eqN {x with op:=op} {noN with op:=op,l:=x.l,r:=x.r}=e at hform;have r:inR .i64 ((us.length:Int) - 1)=true:=inR64.2 (by omega);refine Q5 r (ah (fun h1=>Q5 r (ah (fun h2=>ah (fun h3=>hb (QW ?_)) (fun h3=> ?_)) (fun h2=>hb (QW ?_)))) (fun h1=>Q5 r (hb (QW ?_))))
 ·rw [hform,show earF us.length x.r=false by simpa using h3,Bool.and_false]
 ·have h3:earF us.length x.r=true:=by simpa using h3
  have e2:=earF_iff.1 h2;have e3:=earF_iff.1 h3;unfold pL;rw [za7,za7];exact aY e2.1 e2.2 (aY e3.1 e3.2 (ac (by rw [eH hu,eH hu];rfl) (Rx (by rw [hform,h1,h2,h3];rfl) huni hb ho)))
 ·rw [hform,h2,Bool.and_false];rfl
 ·rw [hform,h1];rfl
theorem T3 {a:Int} (o:x.op=7) (ha:a=(us.length:Int)) (hl:us.length<=1000000) (hu: ∀ u∈us,szB u=true) (hb:mn inp us x=none->Q QS) (ho: ∀ u,mn inp us x=some u->Q (RA u)):TO us x a Q:=by
 subst ha;have hform:formF us.length x=(eqN {x with op:=7} {noN with op:=7,n:=x.n,l:=x.l}&&earF us.length x.l):=by
  unfold formF;rw [o];show (eqN ⟨0,x.v,x.u,0,0,x.r⟩ noN&&_)=_;rw [Rf (c:={x with op:=7}) (d:={noN with op:=7,n:=x.n,l:=x.l}) (by obtain ⟨a1,a2,a3,a4,a5,a6⟩:=x;simp [noN])]
 have huni:fL inp us x=(bif x.n==0||decide (x.n< -4)||decide (x.n>4) then (noU,90) else jm (nthD noU us x.l.toNat) (x.n,1)):=by unfold fL;rw [o];rfl
 unfold TO;rw [Q4];have hr:eqN {x with op:=7} {noN with op:=7,n:=x.n,l:=x.l}=true->x.r=0:=fun h=>by
  have:=eqN_iff.1 h;exact congrArg Nd.r this
 generalize eqN {x with op:=7} {noN with op:=7,n:=x.n,l:=x.l}=e at hform hr;refine Q5 (inR64.2 (by omega)) (ah (fun h1=>ah (fun h2=>ah (fun h3=>hb ?_) (fun h3=> ?_)) (fun h2=>hb (QW ?_))) (fun h1=>hb (QW ?_)))
 ·rw [Q6 (by rw [hform,h1,h2];rfl),huni];have:(x.n==0||decide (x.n< -4)||decide (x.n>4))=true:=by
   simp only [zav,decide_eq_true_eq,beq_iff_eq];apply Classical.byContradiction;intro hc;have:wiB x.n (-4) 4=true:=by unfold wiB;rw [decide_eq_true (by omega),cond_true,decide_eq_true (by omega)]
   rw [this,cond_true,show (x.n !=0)=true by simp;omega] at h3;cases h3
  rw [this];rfl
 ·have e2:=earF_iff.1 h2;have hr:=hr h1;have hn:x.n≠0/\ -4<=x.n/\x.n<=4:=by
   unfold wiB at h3;by_cases a:x.n≥ -4
   ·by_cases b:x.n<=4
    ·rw [decide_eq_true a,cond_true,decide_eq_true b,cond_true] at h3;simp at h3;omega
    ·rw [decide_eq_true a,cond_true,decide_eq_false b,cond_false] at h3;cases h3
   ·rw [decide_eq_false a,cond_false,cond_false] at h3;cases h3
  rw [za7];refine aY e2.1 e2.2 (aY (by omega) (by omega) (ac (eH hu _) (Rx (by rw [hform,h1,h2];rfl) ?_ hb ho)));rw [huni,show (x.n==0||decide (x.n< -4)||decide (x.n>4))=false by simp;omega];rfl
 ·rw [hform,h2,Bool.and_false]
 ·rw [hform,h1];rfl
theorem T4 {a:Int} (o:x.op=8) (ha:a=(us.length:Int)) (hl:us.length<=1000000) (hu: ∀ u∈us,szB u=true) (hb:mn inp us x=none->Q QS) (ho: ∀ u,mn inp us x=some u->Q (RA u)):TP us x a Q:=by
 subst ha;have hform:formF us.length x=(eqN {x with op:=8} {noN with op:=8,l:=x.l}&&earF us.length x.l):=by
  unfold formF;rw [o];show (eqN ⟨0,x.v,x.u,x.n,0,x.r⟩ noN&&_)=_;rw [Rf (c:={x with op:=8}) (d:={noN with op:=8,l:=x.l}) (by obtain ⟨a1,a2,a3,a4,a5,a6⟩:=x;simp [noN])]
 have huni:fL inp us x=jm (nthD noU us x.l.toNat) (1,2):=by unfold fL;rw [o];rfl
 unfold TP;rw [Q4];have hr:eqN {x with op:=8} {noN with op:=8,l:=x.l}=true->x.r=0:=fun h=>by
  have:=eqN_iff.1 h;exact congrArg Nd.r this
 generalize eqN {x with op:=8} {noN with op:=8,l:=x.l}=e at hform hr;refine Q5 (inR64.2 (by omega)) (ah (fun h1=>ah (fun h2=>hb (QW ?_)) (fun h2=> ?_)) (fun h1=>hb (QW ?_)))
 ·rw [hform,show earF us.length x.l=false by simpa using h2,Bool.and_false]
 ·have h2:earF us.length x.l=true:=by simpa using h2
  have e2:=earF_iff.1 h2;have hr:=hr h1;rw [za7];exact aY e2.1 e2.2 (aY (by omega) (by omega) (ac (eH hu _) (Rx (by rw [hform,h1,h2];rfl) huni hb ho)))
 ·rw [hform,h1];rfl
end
theorem Ue {C:RC} {src:List (Option Nat)} {Cs:List Blk} {nx:Nat} {gm:List (FuncId×MCtr)} {ann:FuncId->Nat->Option (AS->Ann)} {n:Nat} {f:FuncId} {args:List SV} {r:SV} (x:C.X) (hx:C.spec x) (h1:C.pan x=none) (h2:r.ids= []) (h3:C.out x=r) (h4:C.nw x= []) (h5:C.ch x= []) (h6: ∀ C∈Cs,cN C.kd=false) (hl:src.length=Cs.length)
 (h:JL gm ann n f args Cs (Go.Sy.okK fun s _ _ _=>s=r)):JL gm ann n f args Cs (KB C src Cs nx):=Q8 h fun q b m w hq=>by
 cases q with
 |pan v=>exact hq.elim
 |ok s=>
  obtain rfl:s=r:=hq;exact IG x hx h1 h2 h3 h4 h5 h6 hl
theorem T5 {p:Pr} {us:List Un} {x:Nd} {Q:SV->Prop} (hl:us.length<=1000000) (hi:p.inp.length<=1000000) (hu: ∀ u∈us,szB u=true) (hx:szN x=true) (hop:1<=x.op/\x.op<=8) (hQ:Q (.tup [.agg (ci (tyF p.inp us x).1), .val (.int .i64 (tyF p.inp us x).2)])):
 JL [] (fun _ _=>none) 6 65 (tyA p us x us.length) (tyB p us) (Go.Sy.okK fun r _ _ _=>Q r):=by
 obtain ⟨hb,ho⟩:=tyQ hQ;have E: ∀ {op:Int},x.op=op->Re op p us x us.length Q->JL [] (fun _ _=>none) 6 65 (tyA p us x us.length) (tyB p us) (Go.Sy.okK fun r _ _ _=>Q r):=fun {op} h k=>by
  rw [<- dW h];exact k
 rcases (show x.op=1\/x.op=2\/x.op=3\/x.op=4\/x.op=5\/x.op=6\/x.op=7\/x.op=8 by omega) with o|o|o|o|o|o|o|o
 ·exact E o (by rw [TQ];exact TZ o hx hb ho)
 ·exact E o (by rw [TR];exact T0 rfl hi o hb ho)
 ·exact E o (by rw [TS];exact RV o (by decide) rfl hl hu (by unfold fL;rw [o];rfl) hb ho)
 ·exact E o (by rw [TT];exact RV o (by decide) rfl hl hu (by unfold fL;rw [o];rfl) hb ho)
 ·exact E o (by rw [TU];exact RV o (by decide) rfl hl hu (by unfold fL;rw [o];rfl) hb ho)
 ·exact E o (by rw [TW];exact RV o (by decide) rfl hl hu (by unfold fL;rw [o];rfl) hb ho)
 ·exact E o (by rw [TX];exact T3 o rfl hl hu hb ho)
 ·exact E o (by rw [TY];exact T4 o rfl hl hu hb ho)
theorem S0: ∀ B:Base,GlobB B->MCtrOK Tryz.prog B 65 SZ:=Sh MOk.nil fun bl nx args C hk hp=>by
 unfold SZ at hk;split at hk
 ·rename_i s cs at_ t;split at hk
  ·rename_i a b o n g ha ht;simp only [za1] at hk;subst hk;simp only [za2,decide_eq_true_eq] at hp;obtain ⟨⟨⟨⟨⟨⟨⟨⟨h0,rfl⟩,hn⟩,hg⟩,h1⟩,h2⟩,rfl⟩,h3⟩,h4⟩:=hp;obtain ⟨x,rfl⟩: ∃ x,cs=svN x:=⟨_,ua h1⟩;rw [fR] at h2 h3 h4;obtain ⟨s1,s2,s3,s4,s5,s6⟩:=eX (f:=rnF [a.o1,a.o2,o] [] nx) ha h0 rfl rfl;obtain ⟨t1,t2⟩:=cq (f:=rnF [a.o1,a.o2,o] [] nx) ht hg;have hlen:(eU.list n g).length=n:=El.list_length;have hle:(eU.list n g).length<=1000000:=by rw [hlen];exact zak hn
   have hold: ∀ C∈tyB a.p (eU.list n g),cN C.kd=false/\C.kd.map=false:=by simp [tyB,cN,El.old,BK.map]
   refine ⟨[a.o1,a.o2,o],tyB a.p (eU.list n g),tyA a.p (eU.list n g) x n,fun _ _=>none,6,aw s1 (aw s2 (aw t1 trivial)),bH (fun C hC=>(hold C hC).1),cd (fun C hC=>(hold C hC).2),ar s3 (ar (gv (rns_free (j4 x))) (ar rfl (ar (t2 2 rfl) rfl))), ?_⟩;refine Ue () trivial rfl (r:= .tup [.agg (ci (tyF a.p.inp (eU.list n g) x).1), .val (.int .i64 (tyF a.p.inp (eU.list n g) x).2)]) rfl rfl rfl rfl (fun C hC=>(hold C hC).1) (by rfl) ?_;have:=T5 (p:=a.p) (us:=eU.list n g) (x:=x) (Q:=fun r=>r= .tup [.agg (ci (tyF a.p.inp (eU.list n g) x).1), .val (.int .i64 (tyF a.p.inp (eU.list n g) x).2)]) hle s5 (El.good_list hg) h2 ⟨h3,h4⟩ rfl;rw [hlen] at this;exact this
  ·cases hk
 ·cases hk
noncomputable def TF:List (FuncId×MCtr):= [(65,SZ)]
abbrev M1:=Int×List Un
abbrev M3:=Int×List Nd×List Un
def St (I1:M1->Prop) (I2 I3:M3->Prop) (N:Int):FuncId->Nat->Option (AS->Ann):=fun f k=>bif Nat.beq f 23 then (
 bif Nat.beq k 3 then some (fun A=>{X:=M1,inv:=I1,tm:=fun x=> [(10, .val (.int .i64 x.1))],st:= [(kA A 9,fun x=>(qv A 9 0).take 1++(SV.slc A.nx 0 x.2.length::(qv A 9 0).drop 2))],gr:= [{src:= .cell (kA A 9) 0 1,sz:=20,n:=fun x=>x.2.length,get:=fun x=>eU.get x.2}],cleanG:=fun g hg x e=>(by simp at hg;subst hg;exact eU.ids _),mu:=fun x=>(4 - x.1).toNat,keep:= [1,2,3,4,8,9],sp:= [fun x=>(0,x.2),fun x=>(1,x.2),fun x=>(2,x.2),fun x=>(3,x.2)]})
 else bif Nat.beq k 8 then some (fun A=>{X:=M3,inv:=I2,tm:=fun x=> [(12, .val (.int .i64 x.1)),(11, .slc (A.nx+1) 0 x.2.2.length)],st:= [(kA A 9,fun x=>(qv A 9 0).take 2++(SV.slc A.nx 0 x.2.1.length::(qv A 9 0).drop 3))],gr:= [{src:= .cell (kA A 9) 0 2,sz:=26,n:=fun x=>x.2.1.length,get:=fun x=>eN.get x.2.1},{src:= .slot 11,sz:=20,n:=fun x=>x.2.2.length,get:=fun x=>eU.get x.2.2}],cleanG:=fun g hg x e=>(by simp at hg;rcases hg with rfl|rfl;exact eN.ids _;exact eU.ids _),mu:=fun x=>(4 - x.1).toNat,keep:= [1,2,3,4,8,9]})
 else bif Nat.beq k 13 then some (fun A=>{X:=M3,inv:=I3,tm:=fun x=> [(13, .val (.int .i64 x.1)),(11, .slc (A.nx+1) 0 x.2.2.length)],st:= [(kA A 9,fun x=>(qv A 9 0).take 2++(SV.slc A.nx 0 x.2.1.length::(qv A 9 0).drop 3))],gr:= [{src:= .cell (kA A 9) 0 2,sz:=26,n:=fun x=>x.2.1.length,get:=fun x=>eN.get x.2.1},{src:= .slot 11,sz:=20,n:=fun x=>x.2.2.length,get:=fun x=>eU.get x.2.2}],cleanG:=fun g hg x e=>(by simp at hg;rcases hg with rfl|rfl;exact eN.ids _;exact eU.ids _),mu:=fun x=>(N - x.1).toNat,keep:= [1,2,3,4,8,9]})
 else none) else none
def prS (K1:Nat->Nat->Blk->Nat->Nat->Blk->Int->List SV->Prop):Aft:=fun r bl _ _=>match r with
 | .ok (.agg (.val (.int .i64 id):: .slc i 0 n:: .slc j 0 m::rest))=>(match bl i,bl j with
   |some B,some C=>K1 i n B j m C id rest
   |_,_=>False)
 |_=>False
abbrev TG (I1:M1->Prop) (I2 I3:M3->Prop) (N:Int) (a:Int×Int×Int) (count:Int) (xs:List I4) (ex:Bool) (K1:Nat->Nat->Blk->Nat->Nat->Blk->Int->List SV->Prop):Prop:=
 JL TF (St I1 I2 I3 N) 6 23 [.agg [.val (.int .i64 a.1), .val (.int .i64 a.2.1), .val (.int .i64 a.2.2)],cI.enc count, .slc 0 0 xs.length,cB.enc ex] [e4.old xs] (prS K1)
section
variable (I1:M1->Prop) (I2 I3:M3->Prop) (N:Int) (a:Int×Int×Int) (count:Int) (xs:List I4) (ex:Bool)
def mdC (n0:Nat) (s:SV):List SV:= .val (.int .i64 (1+co count 900)):: .slc 10 0 n0::s::ci noU
def md1 (s:SV):List SV:= .val (.int .i64 (1+co count 900))::s:: .val (.slice none 0 0)::ci noU
def S4:Prop:=tvE (cI.enc count)/\tvE (.slc 0 0 xs.length)/\tvE (cB.enc ex)/\cg 1/\cg 2/\cg 7/\True
def Ua (q:Nat) (p:Int) (m:Nat) (g:Nat->List SV) (z:M1):Prop:=(TV.v (cI.enc p)=TV.v (cI.enc z.1)/\S4 count xs ex)/\(True/\((md1 count (.slc q 0 m)=md1 count (.slc q 0 z.2.length)/\True)/\(af (Nat.beq 20 20&&decide (z.2.length<=m)) (∀ e,e<z.2.length->g e=eU.get z.2 e)/\True)))
def So (n0 q1 q2:Nat) (p:Int) (m:Nat) (g:Nat->List SV) (k:Nat) (h:Nat->List SV) (z:M3):Prop:=(TV.v (cI.enc p)=TV.v (cI.enc z.1)/\TV.v (.slc q2 0 k)=TV.v (.slc q2 0 z.2.2.length)/\S4 count xs ex)/\(True/\((mdC count n0 (.slc q1 0 m)=mdC count n0 (.slc q1 0 z.2.1.length)/\True)/\
 (af (Nat.beq 26 26&&decide (z.2.1.length<=m)) (∀ e,e<z.2.1.length->g e=eN.get z.2.1 e)/\(af (Nat.beq 20 20&&decide (z.2.2.length<=k)) (∀ e,e<z.2.2.length->h e=eU.get z.2.2 e)/\True))))
noncomputable def S5 (inp:List Un) (nod:List Nd) (us:List Un) (x:Nd):Bool:=kp inp.length inp.length (eU.get inp) nod.length nod.length (eN.get nod) noU&&(Nat.ble us.length us.length&&Nat.beq 20 20&&true)&&bW us.length&&eU.good szB us.length (eU.get us)&&ndB (svN x)&&szN (wz (svN x))&&decide ((nod.length:Int)=(us.length:Int))&&decide (1<=(wz (svN x)).op)&&decide ((wz (svN x)).op<=8)
noncomputable def Tu (inp us:List Un) (x:Nd):Un×Int:=tyF (eU.list inp.length (eU.get inp)) (eU.list us.length (eU.get us)) (wz (svN x))
noncomputable def Rg (inp:List Un) (q1 q2:Nat) (z:M3) (x:Nd):Prop:=
 af (S5 inp z.2.1 z.2.2 x) (Unit->True->ag (bif (Tu inp z.2.2 x).2==0 then (bif !ex then true else x.op !=8) else false)
  (LY z.2.1.length (tO z.2.2.length (af (inR .i64 (z.1+1)) (∃ z':M3,I3 z'/\((N - z'.1).toNat<(N - z.1).toNat/\So count xs ex inp.length q1 q2 (z.1+1) (z.2.1.length+1) (zo z.2.1 x) (z.2.2.length+1) (Jz z.2.2 (Tu inp z.2.2 x).1) z')))))
  (af (inR .i64 (z.1+1)) (∃ z':M3,I3 z'/\((N - z'.1).toNat<(N - z.1).toNat/\So count xs ex inp.length 25 26 (z.1+1) z.2.1.length (eN.get z.2.1) z.2.2.length (eU.get z.2.2) z'))))
def pkB (y n:Int):Bool:=uInt y&&decide (0<n)
noncomputable def Sp (inp:List Un) (z:M3) (y:I4):Prop:=
 af (pkB y.1 8) (af (inR .i64 (1+co y.1 8)) (
 ag (1+co y.1 8==1) (af (pkB y.2.1 13) (af (inR .i64 (co y.2.1 13 - 6)) (af (pkB y.2.2.1 4) (af (inR .i64 (1+co y.2.2.1 4)) (af (uInt (co y.2.1 13 - 6)&&uInt (1+co y.2.2.1 4)) (af (uInt y.2.2.2)
  (Rg I3 N count xs ex inp 102 108 z ⟨opF y,(rMk (co y.2.1 13 - 6) (1+co y.2.2.1 4)).1,BL y.2.2.2,0,0,0⟩)))))))
 (ag (1+co y.1 8==2) (af (pkB y.2.1 inp.length) (Rg I3 N count xs ex inp 93 99 z ⟨opF y,noR2,noU,co y.2.1 inp.length,0,0⟩))
 (ag (1+co y.1 8==7) (af (pkB y.2.1 z.2.1.length) (af (pkB y.2.2.1 5) (af (decide (0<=co y.2.2.1 5)&&decide (co y.2.2.1 5<((5:Nat):Int))) (af (decide (0+(co y.2.2.1 5).toNat<5)) (Rg I3 N count xs ex inp 101 107 z ⟨opF y,noR2,noU,T9 (co y.2.2.1 5),co y.2.1 z.2.1.length,0⟩)))))
 (ag (1+co y.1 8==8) (af (pkB y.2.1 z.2.1.length) (Rg I3 N count xs ex inp 95 101 z ⟨opF y,noR2,noU,0,co y.2.1 z.2.1.length,0⟩))
   (af (pkB y.2.1 z.2.1.length) (af (pkB y.2.2.1 z.2.1.length) (Rg I3 N count xs ex inp 101 107 z ⟨opF y,noR2,noU,0,co y.2.1 z.2.1.length,co y.2.2.1 z.2.1.length⟩))))))))
noncomputable def Ub (K1:Nat->Nat->Blk->Nat->Nat->Blk->Int->List SV->Prop) (inp:List Un) (z0:M3):Prop:=
 ∃ z1:M3,I3 z1/\(So count xs ex inp.length 17 18 0 z0.2.1.length (eN.get z0.2.1) z0.2.2.length (eU.get z0.2.2) z1/\
  ∀ z:M3,I3 z->ag (bif decide (z.1<(xs.length:Int)) then decide ((z.2.1.length:Int)<14) else false)
   (eO xs.length z.1 (Sp I3 N count xs ex inp z (e4.nth xs (0+z.1.toNat))))
   (af (inR .i64 ((z.2.2.length:Int) - 1)) (eO z.2.2.length ((z.2.2.length:Int) - 1)
     (K1 10 inp.length {n:=inp.length,sz:=20,get:=eU.get inp,kd:= .own,nn:=false} 25 z.2.1.length {n:=z.2.1.length,sz:=26,get:=eN.get z.2.1,kd:= .own,nn:=false} (1+co count 900) (ci (nthD noU z.2.2 (0+((z.2.2.length:Int) - 1).toNat)))))))
noncomputable def T6 (K1:Nat->Nat->Blk->Nat->Nat->Blk->Int->List SV->Prop) (inp:List Un):Prop:=
 ∃ z0:M3,I2 z0/\(((TV.v (cI.enc 0)=TV.v (cI.enc z0.1)/\TV.v (.val (.slice none 0 0))=TV.v (.val (.slice none z0.2.2.length 0))/\S4 count xs ex)/\(True/\((mdC count inp.length (.val (.slice none 0 0))=mdC count inp.length (.val (.slice none z0.2.1.length 0))/\True)/\(z0.2.1.length=0/\(z0.2.2.length=0/\True)))))/\
  ∀ z:M3,I2 z->ag (decide (z.1<(inp.length:Int)))
   (LY z.2.1.length (eO inp.length z.1 (tO z.2.2.length (af (inR .i64 (z.1+1)) (∃ z':M3,I2 z'/\((4 - z'.1).toNat<(4 - z.1).toNat/\So count xs ex inp.length 29 39 (z.1+1) (z.2.1.length+1) (zo z.2.1 (nIn z.1)) (z.2.2.length+1) (Jz z.2.2 (nthD noU inp (0+z.1.toNat))) z'))))))
   (Ub I3 N count xs ex K1 inp z))
noncomputable def Tv (K1:Nat->Nat->Blk->Nat->Nat->Blk->Int->List SV->Prop) (j a0:Int) (x:M1):Prop:=
 af (pkB count 3) (ag (decide (j<=co count 3)) (af (uInt a0) (tO x.2.length (∃ x':M1,I1 x'/\((4 - x'.1).toNat<(4 - j).toNat/\Ua count xs ex 16 (j+1) (x.2.length+1) (Jz x.2 (BL a0)) x')))) (T6 I2 I3 N count xs ex K1 x.2))
noncomputable def mdT (K1:Nat->Nat->Blk->Nat->Nat->Blk->Int->List SV->Prop):Prop:=
 af (pkB count 900) (af (inR .i64 (1+co count 900)) (∃ x0:M1,I1 x0/\(((TV.v (cI.enc 0)=TV.v (cI.enc x0.1)/\S4 count xs ex)/\(True/\((md1 count (.val (.slice none 0 0))=md1 count (.val (.slice none x0.2.length 0))/\True)/\(x0.2.length=0/\True))))/\
  ((∀ x:M1,I1 x->(0,x.2)=x\/(1,x.2)=x\/(2,x.2)=x\/(3,x.2)=x\/False)/\((∀ x:M1,I1 (0,x.2)->Tv I1 I2 I3 N count xs ex K1 0 a.1 x)/\((∀ x:M1,I1 (1,x.2)->Tv I1 I2 I3 N count xs ex K1 1 a.2.1 x)/\((∀ x:M1,I1 (2,x.2)->Tv I1 I2 I3 N count xs ex K1 2 a.2.2 x)/\
    ((∀ x:M1,I1 (3,x.2)->af (pkB count 3) (ag (decide (3<=co count 3)) False (T6 I2 I3 N count xs ex K1 x.2)))/\True))))))))
end
theorem Tw (I1:M1->Prop) (I2 I3:M3->Prop) (N:Int) (a:Int×Int×Int) (count:Int) (xs:List I4) (ex:Bool) (K1:Nat->Nat->Blk->Nat->Nat->Blk->Int->List SV->Prop):TG I1 I2 I3 N a count xs ex K1=mdT I1 I2 I3 N a count xs ex K1:=by kernel_rfl
theorem S6:MOk TF:=MOk.nil.cons S0
theorem QU {y n:Int} {K:Prop} (hy:uInt y=true) (hn:0<n) (k:K):af (pkB y n) K:=ac (by unfold pkB;rw [hy,decide_eq_true hn];rfl) k
theorem Su (ni n:Int) (y:I4):(RR ni n y).op=opF y:=by
 have B: ∀ (b:Bool) (x z:Nd),x.op=opF y->z.op=opF y->(cond b x z).op=opF y:=fun b x z h k=>by cases b;exact k;exact h
 unfold RR;exact B _ _ _ rfl (B _ _ _ rfl (B _ _ _ rfl (B _ _ _ rfl rfl)))
theorem Tx (y:I4):1<=opF y/\opF y<=8:=by
 have:=gR y.1 (n:=8) (by decide);unfold opF;omega
theorem Sc {us:List Un} {u:Un} {z:List Un} (hz:z=us++ [u]):af (Nat.beq 20 20&&decide (z.length<=us.length+1)) (∀ e,e<z.length->Jz us u e=eU.get z e):=by
 subst hz;have hl:(us++ [u]).length=us.length+1:=by simp
 exact ac (by rw [hl,decide_eq_true (za0 _)];rfl) fun e he=>Fp (by omega)
theorem S7 {us:List Nd} {u:Nd} {z:List Nd} (hz:z=us++ [u]):af (Nat.beq 26 26&&decide (z.length<=us.length+1)) (∀ e,e<z.length->zo us u e=eN.get z e):=by
 subst hz;have hl:(us++ [u]).length=us.length+1:=by simp
 exact ac (by rw [hl,decide_eq_true (za0 _)];rfl) fun e he=>pO (by omega)
section
variable {I1:M1->Prop} {I2 I3:M3->Prop} {N:Int} {a:Int×Int×Int} {count:Int} {xs:List I4} {ex:Bool}
theorem Rh:S4 count xs ex:=⟨rfl,rfl,rfl,rfl,rfl,rfl,trivial⟩
theorem Ty {q:Nat} {p:Int} {us:List Un} {u:Un}:Ua count xs ex q p (us.length+1) (Jz us u) (p,us++ [u]):=
 ⟨⟨rfl,Rh⟩,trivial,⟨by simp,trivial⟩,Sc rfl,trivial⟩
theorem Sv {n0 q1 q2:Nat} {p:Int} {nod:List Nd} {us:List Un} {x:Nd} {u:Un}:So count xs ex n0 q1 q2 p (nod.length+1) (zo nod x) (us.length+1) (Jz us u) (p,nod++ [x],us++ [u]):=
 ⟨⟨rfl,by simp,Rh⟩,trivial,⟨by simp,trivial⟩,S7 rfl,Sc rfl,trivial⟩
theorem RL {n0 q1 q2:Nat} {p:Int} {nod:List Nd} {us:List Un}:So count xs ex n0 q1 q2 p nod.length (eN.get nod) us.length (eU.get us) (p,nod,us):=
 ⟨⟨rfl,rfl,Rh⟩,trivial,⟨rfl,trivial⟩,ac (by simp) (fun _ _=>rfl),ac (by simp) (fun _ _=>rfl),trivial⟩
theorem Tz {inp us:List Un} {x:Nd}:Tu inp us x=tyF inp us x:=by
 unfold Tu;rw [show eU.list inp.length (eU.get inp)=inp from El.list_get,show eU.list us.length (eU.get us)=us from El.list_get,fR]
theorem S8 {inp:List Un} {nod:List Nd} {us:List Un} {x:Nd} (h:MadOK inp (nod,us)) (hi: ∀ u∈inp,szB u=true) (hl:inp.length<=1000000) (hx:szN x=true) (ho:1<=x.op/\x.op<=8):S5 inp nod us x=true:=by
 have h1:us.length=nod.length:=h.len;have h2:nod.length<=14:=h.le;unfold S5 bW;rw [uf hl (show nod.length<=1000000 by omega) (El.good_get hi) (show eN.good szN nod.length (eN.get nod)=true from El.good_get h.szn) (by decide),zae (za0 _),zae (show us.length<=1000000 by omega),El.good_get h.szu,fR,hx,h1,decide_eq_true rfl,decide_eq_true ho.1,decide_eq_true ho.2];rfl
theorem S9 {inp:List Un} {q1 q2:Nat} {i:Int} {nod:List Nd} {us:List Un} {x:Nd} (h:MadOK inp (nod,us)) (hi: ∀ u∈inp,szB u=true) (hl:inp.length<=1000000) (hx:szN x=true) (ho:1<=x.op/\x.op<=8) (h0:0<=i) (h1:i<N) (hN:N<=9223372036854775807)
 (hS:I3 (i+1,match mn inp us x with
   |some u=>bif !ex||x.op !=8 then (nod++ [x],us++ [u]) else (nod,us)
   |none=>(nod,us))):Rg I3 N count xs ex inp q1 q2 (i,nod,us) x:=by
 have a1:us.length=nod.length:=h.len;have a2:nod.length<=14:=h.le;unfold Rg;rw [Tz];dsimp only;have no:(∃ z,z=(nod,us)/\I3 (i+1,z))->af (inR .i64 (i+1)) (∃ z':M3,I3 z'/\((N - z'.1).toNat<(N - i).toNat/\So count xs ex inp.length 25 26 (i+1) nod.length (eN.get nod) us.length (eU.get us) z')):=by
  rintro ⟨z,rfl,hz⟩;exact ac (inR64.2 (by omega)) ⟨(i+1,nod,us),hz,by show (_:Nat)<_;dsimp only;omega,RL⟩
 refine ac (S8 h hi hl hx ho) fun _ _=>ah (fun hb=> ?_) (fun hb=>no ?_)
 ·cases ht:mn inp us x with
  |none=>
   unfold tyF at hb;rw [ht] at hb;cases hb
  |some u=>
   rw [ht] at hS;have e:tyF inp us x=(u,0):=by unfold tyF;rw [ht]
   rw [e] at hb ⊢;have hc:(!ex||x.op !=8)=true:=by rw [<- QN];exact hb
   rw [hc] at hS;exact xp (by omega) (fV (by omega) (ac (inR64.2 (by omega)) ⟨(i+1,nod++ [x],us++ [u]),hS,by show (_:Nat)<_;dsimp only;omega,Sv⟩))
 ·cases ht:mn inp us x with
  |none=>rw [ht] at hS;exact ⟨_,rfl,hS⟩
  |some u=>
   rw [ht] at hS;have e:tyF inp us x=(u,0):=by unfold tyF;rw [ht]
   rw [e] at hb;have hc:(!ex||x.op !=8)=false:=by rw [<- QN];exact hb
   rw [hc] at hS;exact ⟨_,rfl,hS⟩
theorem SH {inp:List Un} {z:M3} {y:I4} (hy:uz4 y=true) (hi:1<=inp.length) (hz:1<=z.2.1.length) (h: ∀ q1 q2,Rg I3 N count xs ex inp q1 q2 z (RR inp.length z.2.1.length y)):Sp I3 N count xs ex inp z y:=by
 unfold uz4 at hy;simp only [za2] at hy;obtain ⟨⟨⟨y1,y2⟩,y3⟩,y4⟩:=hy;have b1:=gR y.1 (n:=8) (by decide);have b2:=gR y.2.1 (n:=13) (by decide);have b3:=gR y.2.2.1 (n:=4) (by decide);have b4:=gR y.2.2.1 (n:=5) (by decide);have E: ∀ {x:Nd} (q1 q2:Nat),RR inp.length z.2.1.length y=x->Rg I3 N count xs ex inp q1 q2 z x:=fun {x} q1 q2 e=>by rw [<- e];exact h q1 q2
 unfold RR opF at E;unfold Sp;refine QU y1 (by decide) (Fy (by omega) (ah (fun o1=> ?_) (fun o1=>ah (fun o2=> ?_) (fun o2=>ah (fun o7=> ?_) (fun o7=>ah (fun o8=> ?_) (fun o8=> ?_))))))
 ·refine QU y2 (by decide) (Fy (by omega) (QU y3 (by decide) (Fy (by omega) (ac (by rw [uInt_iff.2 (by omega),uInt_iff.2 (by omega)];rfl) (ac y4 (E _ _ ?_))))));rw [o1];rfl
 ·refine QU y2 (by omega) (E _ _ ?_);rw [o1,o2];rfl
 ·refine QU y2 (by omega) (QU y3 (by decide) (ac (by rw [decide_eq_true b4.1,decide_eq_true (show co y.2.2.1 5<((5:Nat):Int) from b4.2)];rfl) (ac (decide_eq_true (by omega)) (E _ _ ?_))));rw [o1,o2,o7];rfl
 ·refine QU y2 (by omega) (E _ _ ?_);rw [o1,o2,o7,o8];rfl
 ·refine QU y2 (by omega) (QU y3 (by omega) (E _ _ ?_));rw [o1,o2,o7,o8];rfl
end
def Ta (a:Int×Int×Int) (count:Int) (z:M1):Prop:=0<=z.1/\z.1<=co count 3+1/\z.2=QQ a z.1.toNat
def Tb (a:Int×Int×Int) (count:Int) (z:M3):Prop:=0<=z.1/\z.1<=co count 3+1/\z.2.1=R9 z.1.toNat/\z.2.2=QQ a z.1.toNat
def SI (a:Int×Int×Int) (count:Int) (xs:List I4) (ex:Bool) (z:M3):Prop:=0<=z.1/\z.1<=xs.length/\MadOK (QQ a ((co count 3).toNat+1)) z.2/\Rb a count xs ex=RT ex (QQ a ((co count 3).toNat+1)) (xs.drop z.1.toNat) z.2
def mdK (p:Pr) (i n:Nat) (B:Blk) (j m:Nat) (C:Blk) (id:Int) (rest:List SV):Prop:=i=10/\n=p.inp.length/\B=eU.own p.inp/\j=25/\m=p.nod.length/\C=eN.own p.nod/\id=p.id/\rest=ci p.out
theorem SJ {ex:Bool} {inp:List Un} {r:List I4} {z:List Nd×List Un} (h: ¬ z.1.length<14):RT ex inp r z=z:=by
 cases r with
 |nil=>rfl
 |cons y r=>unfold RT;rw [decide_eq_false h];rfl
theorem TA {a:Int×Int×Int} {count:Int} {xs:List I4} {ex:Bool} {z0:M3} (hx: ∀ y∈xs,uz4 y=true) (hn:xs.length<=9223372036854775807) (h1:z0.2.1=R9 ((co count 3).toNat+1)) (h2:z0.2.2=QQ a ((co count 3).toNat+1)):
 Ub (SI a count xs ex) xs.length count xs ex (mdK (Bd a count xs ex)) (QQ a ((co count 3).toNat+1)) z0:=by
 have hK:=Rc (count:=count);have hi:(QQ a ((co count 3).toNat+1)).length=(co count 3).toNat+1:=QR;refine ⟨(0,z0.2),⟨zat _,by show (0:Int)<=_;omega, ?_, ?_⟩,RL, ?_⟩
 ·show MadOK _ (z0.2.1,z0.2.2);rw [h1,h2];exact ⟨by rw [QR,QZ],by rw [QZ];exact hK.1,by rw [QZ];omega,Si (za0 _),RU,QT QY⟩
 ·show _=RT _ _ xs (z0.2.1,z0.2.2);rw [h1,h2];rfl
 rintro ⟨i,nod,us⟩ ⟨k0,k1,k2,k3⟩;dsimp only at k0 k1 k2 k3 ⊢;have ln:us.length=nod.length:=k2.len;have l1:1<=nod.length:=k2.pos;have l2:nod.length<=14:=k2.le;refine ah (fun hb=> ?_) (fun hb=> ?_)
 ·rw [QM,za2] at hb;have b1:=of_decide_eq_true hb.1;have b2:nod.length<14:=by have:=of_decide_eq_true hb.2;omega
  have hd:xs.drop i.toNat=nthD (0,0,0,0) xs i.toNat::xs.drop (i+1).toNat:=by
   rw [show (i+1).toNat=i.toNat+1 by omega,zaH (show i.toNat<xs.length by omega),bR (zaa _)]
  rw [hd,RT,decide_eq_true (show (nod,us).1.length<14 from b2),cond_true] at k3;rw [za7];have hy:uz4 (nthD (0,0,0,0) xs i.toNat)=true:=hx _ (bw (by omega));refine aY k0 b1 (SH (y:=nthD (0,0,0,0) xs i.toNat) hy (by omega) l1 fun q1 q2=> ?_);refine S9 k2 (QT QY) (by omega) (Sr _ _ _) (by rw [Su];exact Tx _) k0 b1 (by omega) ?_;rw [Su];have st:=k2.step (ex:=ex) (y:=nthD (0,0,0,0) xs i.toNat) (QT QY) b2;exact ⟨by show 0<=i+1;omega,by show i+1<=_;omega,st,k3⟩
 ·have hz:Rb a count xs ex=(nod,us):=by
   rw [k3];rw [QM] at hb;by_cases c:i<xs.length
   ·rw [decide_eq_true c,zb7] at hb;have:=of_decide_eq_false hb;exact SJ (by show ¬ nod.length<14;omega)
   ·rw [show i.toNat=xs.length by omega,zbk];rfl
  refine ac (inR64.2 (by omega)) (aY (by omega) (by omega) ⟨rfl,rfl,rfl,rfl, ?_, ?_,rfl, ?_⟩)
  ·show nod.length=(Rb a count xs ex).1.length;rw [hz]
  ·show _=eN.own (Rb a count xs ex).1;rw [hz];rfl
  ·show _=ci (ly (Rb a count xs ex).2);rw [hz,show 0+((us.length:Int) - 1).toNat=us.length - 1 by omega];rfl
theorem Sw {a:Int×Int×Int} {count:Int} {xs:List I4} {ex:Bool} {inp:List Un} (hx: ∀ y∈xs,uz4 y=true) (hn:xs.length<=9223372036854775807) (h:inp=QQ a ((co count 3).toNat+1)):
 T6 (Tb a count) (SI a count xs ex) xs.length count xs ex (mdK (Bd a count xs ex)) inp:=by
 subst h;have hK:=Rc (count:=count);have hp:=gR count (n:=3) (by decide);have hi:(QQ a ((co count 3).toNat+1)).length=(co count 3).toNat+1:=QR;refine ⟨(0, [], []),⟨zat _,by show (0:Int)<=_;omega,rfl,rfl⟩,⟨⟨rfl,rfl,Rh⟩,trivial,⟨rfl,trivial⟩,rfl,rfl,trivial⟩, ?_⟩;rintro ⟨i,nod,us⟩ ⟨k0,k1,k2,k3⟩;dsimp only at k0 k1 k2 k3 ⊢;refine ah (fun hb=> ?_) (fun hb=> ?_)
 ·have hb:=of_decide_eq_true hb;have l1:nod.length=i.toNat:=by rw [k2,QZ]
  have l2:us.length=i.toNat:=by rw [k3,QR]
  rw [za7];have e1:(i+1).toNat=i.toNat+1:=by omega
  refine xp (by omega) (aY k0 hb (fV (by omega) (ac (inR64.2 (by omega)) ⟨(i+1,nod++ [nIn i],us++ [nthD noU (QQ a ((co count 3).toNat+1)) i.toNat]),⟨by show 0<=i+1;omega,by show i+1<=_;omega, ?_, ?_⟩,by show (_:Nat)<_;dsimp only;omega,Sv⟩)))
  ·show nod++ [nIn i]=R9 (i+1).toNat;rw [e1,k2];show _=R9 i.toNat++ [nIn (i.toNat:Nat)];rw [show ((i.toNat:Nat):Int)=i by omega]
  ·show us++ [_]=QQ a (i+1).toNat;rw [e1,k3];show _=QQ a i.toNat++ [BL (nthD 0 [a.1,a.2.1,a.2.2] i.toNat)];rw [show nthD noU (QQ a ((co count 3).toNat+1)) i.toNat=BL (nthD 0 [a.1,a.2.1,a.2.2] i.toNat) from bR (qX _ (by omega))]
 ·have hb:=of_decide_eq_false hb;have e:i.toNat=(co count 3).toNat+1:=by omega
  exact TA hx hn (by rw [<- e];exact k2) (by rw [<- e];exact k3)
theorem RW {a:Int×Int×Int} {count:Int} {xs:List I4} {ex:Bool} {j a0:Int} {x:M1} (hc:uInt count=true) (ha:uInt a0=true) (hx: ∀ y∈xs,uz4 y=true) (hn:xs.length<=9223372036854775807) (hj:0<=j/\j<=2) (he:nthD 0 [a.1,a.2.1,a.2.2] j.toNat=a0) (h:Ta a count (j,x.2)):
 Tv (Ta a count) (Tb a count) (SI a count xs ex) xs.length count xs ex (mdK (Bd a count xs ex)) j a0 x:=by
 obtain ⟨k0,k1,k2⟩:=h;dsimp only at k0 k1 k2;have l2:x.2.length=j.toNat:=by rw [k2,QR]
 refine QU hc (by decide) (ah (fun hb=> ?_) (fun hb=> ?_))
 ·have hb:=of_decide_eq_true hb;have e1:(j+1).toNat=j.toNat+1:=by omega
  refine ac ha (fV (by omega) ⟨(j+1,x.2++ [BL a0]),⟨by show 0<=j+1;omega,by show j+1<=_;omega, ?_⟩,by show (_:Nat)<_;dsimp only;omega,Ty⟩);show x.2++ [BL a0]=QQ a (j+1).toNat;rw [e1,k2];show _=QQ a j.toNat++ [BL (nthD 0 [a.1,a.2.1,a.2.2] j.toNat)];rw [he]
 ·have hb:=of_decide_eq_false hb;have hp:=gR count (n:=3) (by decide);exact Sw hx hn (by rw [k2];congr 1;omega)
theorem T7 {a:Int×Int×Int} {count:Int} {xs:List I4} {ex:Bool} (h0:uInt a.1=true) (h1:uInt a.2.1=true) (h2:uInt a.2.2=true) (hc:uInt count=true) (hx: ∀ y∈xs,uz4 y=true) (hn:xs.length<=9223372036854775807):
 mdT (Ta a count) (Tb a count) (SI a count xs ex) xs.length a count xs ex (mdK (Bd a count xs ex)):=by
 have hp:=gR count (n:=3) (by decide);have hq:=gR count (n:=900) (by decide);refine QU hc (by decide) (Fy (by omega) ⟨(0, []),⟨zat _,by show (0:Int)<=_;omega,rfl⟩,⟨⟨rfl,Rh⟩,trivial,⟨rfl,trivial⟩,rfl,trivial⟩, ?_,fun x hI=>RW hc h0 hx hn (by decide) rfl hI,fun x hI=>RW hc h1 hx hn (by decide) rfl hI,fun x hI=>RW hc h2 hx hn (by decide) rfl hI,fun x hI=> ?_,trivial⟩)
 ·rintro ⟨i,us⟩ ⟨k0,k1,_⟩;dsimp only at k0 k1;rcases (show i=0\/i=1\/i=2\/i=3 by omega) with rfl|rfl|rfl|rfl
  ·exact .inl rfl
  ·exact .inr (.inl rfl)
  ·exact .inr (.inr (.inl rfl))
  ·exact .inr (.inr (.inr (.inl rfl)))
 ·obtain ⟨_,k1,k2⟩:=hI;dsimp only at k1 k2;refine QU hc (by decide) (ah (fun hb=> ?_) (fun hb=>Sw hx hn (by rw [k2];congr 1;show (3:Int).toNat=_;omega)));have:=of_decide_eq_true hb;omega
theorem SK {K1:Nat->Nat->Blk->Nat->Nat->Blk->Int->List SV->Prop} {r:Res} {b:Nat->Option Blk} {m:Nat} {w:List Nat} (h:prS K1 r b m w): ∃ id i n j m B C rest,r= .ok (.agg (.val (.int .i64 id):: .slc i 0 n:: .slc j 0 m::rest))/\b i=some B/\b j=some C/\K1 i n B j m C id rest:=by
 unfold prS at h;split at h
 ·rename_i id i n j m rest;split at h
  ·rename_i B C hB hC;exact ⟨id,i,n,j,m,B,C,rest,rfl,hB,hC,h⟩
  ·exact h.elim
 ·exact h.elim
theorem Tc: ∀ B:Base,GlobB B->MCtrOK Tryz.prog B 23 SQ:=Sh S6 fun bl nx args C hk hp=>by
 unfold SQ at hk;split at hk
 ·rename_i a b c k s ex;split at hk
  ·rename_i bb o n g hs;simp only [za1] at hk;subst hk;simp only [za2,decide_eq_true_eq] at hp;obtain ⟨⟨⟨⟨⟨⟨rfl,hn⟩,hg⟩,h0⟩,h1⟩,h2⟩,hc⟩:=hp;obtain ⟨t1,t2⟩:=cq (f:=rnF [o] [] nx) hs hg;have hlen:(e4.list n g).length=n:=El.list_length;have hold: ∀ C∈ [e4.old (e4.list n g)],cN C.kd=false/\C.kd.map=false:=by simp [cN,El.old,BK.map]
   have ml:=Sb (a:=(a,b,c)) (count:=k) (xs:=e4.list n g) (ex:=ex);refine ⟨[o], [e4.old (e4.list n g)], [.agg [.val (.int .i64 a), .val (.int .i64 b), .val (.int .i64 c)], .val (.int .i64 k), .slc 0 0 (e4.list n g).length, .val (.bool ex)],St (Ta (a,b,c) k) (Tb (a,b,c) k) (SI (a,b,c) k (e4.list n g) ex) (e4.list n g).length,6,aw t1 trivial,bH (fun C hC=>(hold C hC).1),cd (fun C hC=>(hold C hC).2),ar rfl (ar rfl (ar (t2 0 rfl) rfl)), ?_⟩;refine Q8 (K:=prS (mdK (Bd (a,b,c) k (e4.list n g) ex))) ?_ fun r bl' m w h=> ?_
   ·have:=Tw (Ta (a,b,c) k) (Tb (a,b,c) k) (SI (a,b,c) k (e4.list n g) ex) (e4.list n g).length (a,b,c) k (e4.list n g) ex (mdK (Bd (a,b,c) k (e4.list n g) ex));show TG _ _ _ _ (a,b,c) k (e4.list n g) ex _;rw [this];exact T7 h0 h1 h2 hc (El.good_list hg) (by omega)
   ·generalize Bd (a,b,c) k (e4.list n g) ex=p at h ml;obtain ⟨id,i,n',j,m',B,C,rest,rfl,hB,hC,rfl,rfl,rfl,rfl,rfl,rfl,rfl,rfl⟩:=SK h;have e:=rns_free (f:=dt [o] [some 10,some 25] nx) (fj p.out);have e0:dt [o] [some 10,some 25] nx nx=some (some 10):=cO;have e1:dt [o] [some 10,some 25] nx (nx+1)=some (some 25):=jA 1;refine ⟨(),trivial, [some 10,some 25],⟨_,rfl, ?_⟩,by simp [ck],⟨⟨by simp, ?_⟩,⟨by simp, ?_⟩,trivial⟩,cr (fun C hC=>(hold C hC).1) rfl _⟩
    ·show SV.rn (dt [o] [some 10,some 25] nx) (TJ nx p)=_;unfold TJ;exact gv (ar rfl (ar (by simp only [SV.rn,e0]) (ar (by simp only [SV.rn,e1]) e)))
    ·rw [hB];exact ⟨by simp [El.own],fun _=>⟨ml.1,eU.one⟩,gC rfl rfl (za0 _) fun _ _=>rfl⟩
    ·rw [hC];exact ⟨by simp [El.own],fun _=>⟨ml.2.2.1,eN.one⟩,gC rfl rfl (za0 _) fun _ _=>rfl⟩
  ·cases hk
 ·cases hk
end Go.Proofs.YtahblkeackebaaaGreatDoor
namespace Yk
open Go Go.RowKit Go.ChangeShapes Go.WideShapes
section
variable {H:Type} {enc:TypeId×Value->H} {P:Program} {w:World} {base b0:Nat} {spare:Nat->Bool} {held:Bool} {r:Reach} {v:Value} {d:DataW H} {ps:List MemPlace}
theorem ki {z:Int} (h:(Lit.int .i64 z).wf=true): -9223372036854775808<=z/\z<=9223372036854775807:=bounds_i64 h
end
theorem wd {H:Type} {enc:TypeId×Value->H} {P:Program} (hl:laidOutB P=true) {W W':World} (hb:Below W.heap.size W W'): ∀ (ts:List TypeId) (vs:List Value) (ds:List (DataW H)) (p:List MemPlace),
 (∀ t∈ts,P.readableRec t=true/\t<P.types.size)->(∀ x∈p,x.block<W.heap.size)->DataW.TrodAll enc P W 0 (fun _=>true) true ts vs ds p->DataW.TrodAll enc P W' 0 (fun b=>decide (b<W.heap.size)) true ts vs ds p
 | [], [], [],_,_,_,h=>h
 |t::ts,v::vs,d::ds,_,hr,hp,h=>by
  obtain ⟨p,q,h1,h2,rfl⟩:=h;exact ⟨p,q,Below.trod hl (hr t (by simp)).1 (hr t (by simp)).2 h1 hb (fun x hx=>hp x (by simp [hx])),wd hl hb ts vs ds q (fun t ht=>hr t (by simp [ht])) (fun x hx=>hp x (by simp [hx])) h2,rfl⟩
 | [], [],_::_,_,_,_,h=>h.elim
 | [],_::_,_,_,_,_,h=>h.elim
 |_::_, [],_,_,_,_,h=>h.elim
 |_::_,_::_, [],_,_,_,h=>h.elim
inductive Leaf where
 |int (k:IntKind)
 |bool
 |str
def Leaf.ok:Leaf->Value->Prop
 | .int k,v=> ∃ z,v= .int k z/\k.min<=z/\z<=k.max
 | .bool,v=> ∃ b,v= .bool b
 | .str,v=> ∃ s:ByteArray,v= .string s/\s.size<=maxLen
def okL:List Leaf->List Value->Prop
 | [], []=>True
 |l::ls,v::vs=>l.ok v/\okL ls vs
 |_,_=>False
theorem Q9: ∀ {a b:List Leaf} {u v:List Value},okL a u->okL b v->okL (a++b) (u++v)
 | [],_, [],_,_,h=>h
 |_::_,_,_::_,_,h,k=>⟨h.1,Q9 h.2 k⟩
 | [],_,_::_,_,h,_=>h.elim
 |_::_,_, [],_,h,_=>h.elim
def Ri (P:Program) (g:TypeId->Option (List Leaf)):List Field->Nat->Option (List Leaf)
 | [],_=>some []
 |f::fs,off=>match g f.type with
  |some l=>if P.cellsOf f.type=l.length/\f.offset=off then (match Ri P g fs (off+l.length) with
   |some r=>some (l++r)
   |none=>none) else none
  |none=>none
def QV (P:Program):Nat->TypeId->Option (List Leaf)
 |0,_=>none
 |d+1,t=>match P.underlying t with
  |some .bool=>some [.bool]
  |some (.int k)=>some [.int k]
  |some .string=>some [.str]
  |some (.array n e)=>match QV P d e with
   |some l=>if P.cellsOf e=l.length/\P.cellsOf t=n*l.length then some (List.replicate n l).flatten else none
   |none=>none
  |some (.struct fs)=>match Ri P (QV P d) fs.toList 0 with
   |some l=>if P.cellsOf t=l.length then some l else none
   |none=>none
  |_=>none
section
variable {H:Type} {enc:TypeId×Value->H} {P:Program} {w:World} {base:Nat} {spare:Nat->Bool} {held:Bool}
theorem Sx {l:List Leaf}: ∀ (n:Nat) (cs:List Value),cs.length=n*l.length->(∀ i,i<n->okL l ((cs.drop (i*l.length)).take l.length))->okL (List.replicate n l).flatten cs
 |0,cs,hl,_=>by
  have:cs= []:=zau (by omega);subst this;trivial
 |n+1,cs,hl,h=>by
  rw [zcj,List.flatten_cons,<- zdu l.length cs];refine Q9 (by simpa using h 0 (by omega)) (Sx n _ (by rw [zbS,hl,zaG];omega) fun i hi=> ?_);have:=h (i+1) (by omega);rw [List.drop_drop];rwa [zaG,Nat.one_mul,zb4] at this
theorem Rj {g:TypeId->Option (List Leaf)} (hg: ∀ {fuel:Nat} {t:TypeId} {cs:List Value} {x:DataW H×List MemPlace} {l:List Leaf},g t=some l->DataW.trod enc P w base spare held fuel t cs=some x->okL l cs):
 ∀ {fs:List Field} {off:Nat} {cs:List Value} {l:List Leaf},Ri P g fs off=some l->off+l.length<=cs.length->
 (∀ f∈fs,∃ fuel x,DataW.trod enc P w base spare held fuel f.type ((cs.drop f.offset).take (P.cellsOf f.type))=some x)->okL l ((cs.drop off).take l.length)
 | [],off,cs,l,h,_,_=>by simp [Ri] at h;subst h;simp [okL]
 |f::fs,off,cs,l,h,hl,hf=>by
  rw [Ri] at h;split at h
  ·rename_i a ha;split at h
   ·rename_i hc;split at h
    ·rename_i r hr;cases h;simp only [za3] at hl ⊢;obtain ⟨fuel,x,h1⟩:=hf f (by simp);rw [hc.1,hc.2] at h1;have h2:=Rj hg hr (cs:=cs) (by omega) (fun g hg=>hf g (zan _ hg));rw [List.take_add,List.drop_drop];exact Q9 (hg ha h1) h2
    ·cases h
   ·cases h
  ·cases h
theorem FB: ∀ (d:Nat) {fuel:Nat} {t:TypeId} {cs:List Value} {x:DataW H×List MemPlace} {l:List Leaf},QV P d t=some l->DataW.trod enc P w base spare held fuel t cs=some x->okL l cs
 |0,_,_,_,_,_,h,_=>by simp [QV] at h
 |d+1,fuel,t,cs,x,l,h,hx=>by
  rw [QV] at h;split at h
  ·rename_i ht;obtain ⟨b,rfl,_⟩:=DataW.trod_bool ht hx;cases h;exact ⟨⟨b,rfl⟩,trivial⟩
  ·rename_i k ht;obtain ⟨z,rfl,_,hw⟩:=DataW.trod_int ht hx;cases h;simp only [Lit.wf,za2,decide_eq_true_eq] at hw;exact ⟨⟨z,rfl,hw⟩,trivial⟩
  ·rename_i ht;obtain ⟨s,rfl,_,hs⟩:=DataW.trod_string ht hx;cases h;exact ⟨⟨s,rfl,hs⟩,trivial⟩
  ·rename_i n e ht;split at h
   ·rename_i le hle;split at h
    ·rename_i hc;cases h;obtain ⟨xs,m,_,_,hl,hn,hel⟩:=DataW.trod_array ht hx;rw [hc.2] at hl;rw [hc.1] at hel;refine Sx n cs hl fun i hi=> ?_;have:=hel i hi;rw [zaa (by omega)] at this;exact FB d hle this
    ·cases h
   ·cases h
  ·rename_i fs ht;split at h
   ·rename_i lf hlf;split at h
    ·rename_i hc;cases h;obtain ⟨xs,m,_,_,hl,hn,hel⟩:=DataW.trod_struct ht hx;rw [hc] at hl
     have:=Rj (g:=QV P d) (fun h1 h2=>FB d h1 h2) (fs:=fs.toList) (off:=0) (cs:=cs) hlf (by omega) (fun f hf=>by
      obtain ⟨i,hi,e⟩:=zbT hf;have h1:=hel i f (by rw [<- Array.getElem?_toList];rw [zaa hi,e]);rw [zaa (by simp at hi;omega)] at h1
      exact ⟨_,_,h1⟩)
     rwa [zb0,zaI (by omega)] at this
    ·cases h
   ·cases h
  ·cases h
end
theorem Rk {l:Leaf} {ls:List Leaf} {vs:List Value} (h:okL (l::ls) vs): ∃ v r,vs=v::r/\l.ok v/\okL ls r:=by
 match vs,h with
 |v::r,h=>exact ⟨v,r,rfl,h.1,h.2⟩
theorem TB {vs:List Value} (h:okL [] vs):vs= []:=by
 match vs,h with
 | [],_=>rfl
end Yk
namespace Yk
open Go Go.RowKit Go.ChangeShapes Go.WideShapes Go.Sy
section
variable {H:Type} {enc:TypeId×Value->H} {P:Program} {w:World} {base:Nat}
theorem u64 {z:Int} (h:IntKind.i64.min<=z/\z<=IntKind.i64.max):uInt z=true:=by
 exact inR_iff.2 h
theorem Sd {fuel:Nat} {e:TypeId} {a:Addr} {x:DataW H×List MemPlace} {spare:Nat->Bool} {held:Bool} (he:QV P 9 e=some [.int .i64, .int .i64, .int .i64, .int .i64]) (hs:a.spot=none) {i:Nat}
 (h:(w.cells? base (a.add (i*4)) 4).bind (DataW.trod enc P w base spare held fuel e)=some x): ∃ y:I4,uz4 y=true/\ ∀ o z,(RQ y)[o]? =some z->w.cell? ⟨a.block,a.off+i*4+o,none⟩=some (z.conc oj):=by
 rw [Option.bind_eq_some_iff] at h;obtain ⟨cs,hc,hx⟩:=h;obtain ⟨_,hl,hget⟩:=World.cells?_some hc;have hk:=FB 9 he hx;have ad: ∀ o,(a.add (i*4)).add o=⟨a.block,a.off+i*4+o,none⟩:=fun o=>by
  obtain ⟨b,f,s⟩:=a;obtain rfl:s=none:=hs;unfold Addr.add;split<;>split<;>simp_all<;>omega
 obtain ⟨_,_,rfl,⟨y0,rfl,b0⟩,h1⟩:=Rk hk;obtain ⟨_,_,rfl,⟨y1,rfl,b1⟩,h2⟩:=Rk h1;obtain ⟨_,_,rfl,⟨y2,rfl,b2⟩,h3⟩:=Rk h2;obtain ⟨_,_,rfl,⟨y3,rfl,b3⟩,h4⟩:=Rk h3;obtain rfl:=TB h4;refine ⟨(y0,y1,y2,y3),by unfold uz4;rw [u64 b0,u64 b1,u64 b2,u64 b3];rfl,fun o z hz=> ?_⟩;have ho:o<4:=by
  rcases zah o 4 with h|h
  ·exact h
  ·rw [zad (by show 4<=o;exact h)] at hz;cases hz
 rw [<- ad,hget o ho];rcases (show o=0\/o=1\/o=2\/o=3 by omega) with rfl|rfl|rfl|rfl<;>(simp [RQ] at hz;subst hz;rfl)
def Uc (P:Program) (t e:TypeId):Bool:=match P.cellTypes P.depth t with
 |some l=>l.length==12&&l[4]? ==some e
 |none=>false
theorem Td {r:Reach} {b0:Nat} {v:Value} {dd:DataW H} {ps:List MemPlace} {held:Bool} {t e:TypeId} {fs:Array Go.Field} {f0 f1 f2 f3 f4:Go.Field} (hu:P.underlying t=some (.struct fs)) (hfs:fs.toList= [f0,f1,f2,f3,f4]) (hc:P.cellsOf t=12)
 (h0:f0.offset=0/\P.cellsOf f0.type=3/\QV P 9 f0.type=some [.int .i64, .int .i64, .int .i64]) (h1:f1.offset=3/\P.cellsOf f1.type=1/\QV P 9 f1.type=some [.int .i64]) (h2:f2.offset=4/\P.cellsOf f2.type=1/\P.underlying f2.type=some (.slice e))
 (h3:f3.offset=5/\P.cellsOf f3.type=1/\QV P 9 f3.type=some [.bool]) (h4:f4.offset=6/\P.cellsOf f4.type=6/\QV P 9 f4.type=some [.int .i64, .int .i64, .int .i64, .int .i64, .int .i64, .int .i64])
 (he:P.cellsOf e=4/\QV P 9 e=some [.int .i64, .int .i64, .int .i64, .int .i64]) (ht:Uc P t f2.type=true)
 (hval:Value.okWide P w r b0 t v) (hd:DataW.Trod enc P w base (fun _=>true) held t v dd ps): ∃ (c:Cas) (L:Go.Sy.Loc),v=(Rs c c.x.length).conc (fun _=>L)/\c.ok=true/\BlkOK (fun _=>L) 0 (e4.old c.x) w/\c.x.length<=maxLen:=by
 simp only [Value.okWide,hu] at hval;obtain ⟨cs,rfl,hsz,ts,hts,_,hrow⟩:=hval;have ht4:ts.length=12/\ts[4]? =some f2.type:=by
  unfold Uc at ht;rw [hts] at ht;simpa using ht
 obtain ⟨fuel,hf⟩:=hd;obtain ⟨xs,m,_,_,hl,hn,hel⟩:=DataW.trod_struct hu hf;have hL:cs.toList.length=12:=by rw [Array.length_toList,hsz,hc]
 have fld: ∀ (i:Nat) (f:Go.Field),fs.toList[i]? =some f-> ∃ x,DataW.trod enc P w base (fun _=>true) held m f.type ((cs.toList.drop f.offset).take (P.cellsOf f.type))=some x:=fun i f hi=>by
  have h1:=hel i f (by rw [<- Array.getElem?_toList];exact hi);have hlt:i<fs.toList.length:=(zaV.1 hi).1;rw [zaa (by simp at hlt;omega)] at h1;exact ⟨_,h1⟩
 rw [hfs] at fld;obtain ⟨cs⟩:=cs;dsimp only at hL fld hrow ⊢
 match cs,hL with
 | [c0,c1,c2,c3,c4,c5,c6,c7,c8,c9,ca,cb],_=>
 obtain ⟨x0,k0⟩:=fld 0 f0 rfl;obtain ⟨x1,k1⟩:=fld 1 f1 rfl;obtain ⟨x2,k2⟩:=fld 2 f2 rfl;obtain ⟨x3,k3⟩:=fld 3 f3 rfl;obtain ⟨x4,k4⟩:=fld 4 f4 rfl;rw [h0.1,h0.2.1] at k0;rw [h1.1,h1.2.1] at k1;rw [h2.1,h2.2.1] at k2;rw [h3.1,h3.2.1] at k3;rw [h4.1,h4.2.1] at k4;obtain ⟨⟨a0,rfl,b0⟩,⟨a1,rfl,b1⟩,⟨a2,rfl,b2⟩,_⟩:=FB 9 h0.2.2 k0;obtain ⟨⟨a3,rfl,b3⟩,_⟩:=FB 9 h1.2.2 k1;obtain ⟨⟨a5,rfl⟩,_⟩:=FB 9 h3.2.2 k3;obtain ⟨⟨a6,rfl,b6⟩,⟨a7,rfl,b7⟩,⟨a8,rfl,b8⟩,⟨a9,rfl,b9⟩,⟨aa,rfl,ba⟩,⟨ab,rfl,bb⟩,_⟩:=FB 9 h4.2.2 k4;have hcell:=hrow 4 c4 rfl;obtain ⟨u,hu',hok⟩:=hcell;rw [ht4.1,ht4.2] at hu';simp only [za1] at hu';subst hu';rcases DataW.trod_slice h2.2.2 k2 with ⟨hs,_⟩|⟨a,len,cap,elems,rest,n,_,hs,_,_,hle,hcap,hlen,hget,hsp,_⟩
 ·simp only [List.drop_succ_cons,zb0,List.take_succ_cons,zbw,zcd,and_true] at hs;subst hs;refine ⟨⟨(a0,a1,a2),a3, [],a5,((a6,a7),(a8,a9),(aa,ab))⟩,⟨0,0,4,0,true⟩,rfl, ?_, ?_,zaA _⟩
  ·unfold Cas.ok;rw [u64 b0,u64 b1,u64 b2,u64 b3,u64 b6,u64 b7,u64 b8,u64 b9,u64 ba,u64 bb];rfl
  ·exact ⟨rfl,fun h=>(by cases h),za0 _,fun e he=>absurd he (zbo e),fun j hj=>(by simp at hj),fun h=>(by cases h),fun e he=>absurd he (zbo e),fun _=>rfl,fun h=>(by cases h)⟩
 ·simp only [List.drop_succ_cons,zb0,List.take_succ_cons,zbw,zcd,and_true] at hs;subst hs;have hb:a.spot=none/\a.block<w.heap.size:=by
   unfold Cell.okWide at hok;simp only [h2.2.2] at hok;unfold Cell.ok at hok;simp only [h2.2.2] at hok;obtain ⟨_,_,_,hsp,row,cells,hsh,_⟩:=hok;refine ⟨hsp, ?_⟩;unfold World.shape? at hsh;rcases zah a.block w.heap.size with h|h
   ·exact h
   ·rw [zcK h] at hsh;cases hsh
  obtain ⟨hrl,hrest⟩:=hsp rfl;rw [he.1] at hget hrest;have each: ∀ i,∃ y:I4,i<cap->uz4 y=true/\ ∀ o z,(RQ y)[o]? =some z->w.cell? ⟨a.block,a.off+i*4+o,none⟩=some (z.conc oj):=fun i=>by
   by_cases hi:i<cap
   ·by_cases hi':i<len
    ·have:=hget i hi';rw [zaa (by omega)] at this;obtain ⟨y,h⟩:=Sd he.2 hb.1 this;exact ⟨y,fun _=>h⟩
    ·have:=hrest (i - len) (by omega);rw [show len+(i - len)=i by omega,zaa (by omega)] at this;obtain ⟨y,h⟩:=Sd he.2 hb.1 this;exact ⟨y,fun _=>h⟩
   ·exact ⟨(0,0,0,0),fun h=>absurd h hi⟩
  obtain ⟨g,hg⟩:=Classical.axiomOfChoice each;have hlx:(Go.Sy.tab g len).length=len:=fJ _ _;refine ⟨⟨(a0,a1,a2),a3,Go.Sy.tab g len,a5,((a6,a7),(a8,a9),(aa,ab))⟩,⟨a.block,a.off,4,cap,false⟩, ?_, ?_, ?_, ?_⟩
  ·have:SV.conc (fun _=>(⟨a.block,a.off,4,cap,false⟩:Go.Sy.Loc)) (.slc 0 0 (Go.Sy.tab g len).length)= .slice (some a) len cap:=by
    rw [jq rfl (.inr rfl),hlx];obtain ⟨b,f,s⟩:=a;obtain rfl:s=none:=hb.1;simp [addr]
   unfold Rs;simp only [SV.conc,SV.concs] at this ⊢;rw [this]
  ·unfold Cas.ok
   rw [u64 b0,u64 b1,u64 b2,u64 b3,u64 b6,u64 b7,u64 b8,u64 b9,u64 ba,u64 bb,show (Go.Sy.tab g len).all uz4=true from zaf.2 fun y hy=>by
    obtain ⟨i,hi⟩:=zbA hy;have hlt:i<len:=by have:=(zaV.1 hi).1;omega
    rw [qX _ hlt] at hi;simp only [za1] at hi;subst hi
    exact (hg i (by omega)).1];rfl
  ·refine ⟨rfl,fun _=>hb.2,by show (Go.Sy.tab g len).length<=cap;omega,fun e he=>rfl,fun j hj=> ?_,fun h=>(by cases h),fun e he o s ho=> ?_,fun h=>(by cases h),fun _=>rfl⟩
   ·have hj:j<cap*4:=hj;have:=(hg (j / 4) (by omega)).2 (j%4);show (w.cell? ⟨a.block,a.off+j,none⟩).isSome=true;rw [show a.off+j=a.off+j / 4*4+j%4 by omega];have hlt:j%4<(RQ (g (j / 4))).length:=by show j%4<4;omega
    rw [this _ (zaa hlt)];rfl
   ·have he':e<len:=by rw [<- hlx];exact he
    have e1:e4.get (Go.Sy.tab g len) e=RQ (g e):=by
     unfold El.get El.nth;rw [bR (qX g he')];rfl
    have ho':(RQ (g e))[o]? =some s:=by rw [<- e1];exact ho
    have:=(hg e (by omega)).2 o s ho';show w.cell? ⟨a.block,a.off+e*4+o,none⟩=_;rw [this];have:s.ids= []:=by
     have hm:s∈RQ (g e):=zal ho';simp only [RQ,zai,zby,or_false] at hm;rcases hm with rfl|rfl|rfl|rfl<;>rfl
    rw [SV.conc_congr s (β:=oj) (β':=fun _=>(⟨a.block,a.off,4,cap,false⟩:Go.Sy.Loc)) (fun i h=>by rw [this] at h;cases h)]
  ·show (Go.Sy.tab g len).length<=maxLen;omega
end
theorem TC {w:World} {L:Go.Sy.Loc} {B:Go.Sy.Blk} (h:BlkOK (fun _=>L) 0 B w) (hk:B.kd= .old) (hc: ∀ e,e<B.n->SV.idss (B.get e)= []):BC w (fun i=> [B][i]?) (fun _=>L) w:=by
 have one: ∀ {id:Nat} {C:Go.Sy.Blk}, [B][id]? =some C->id=0/\C=B:=fun {id C} h=>by
  cases id with
  |zero=>simp at h;exact ⟨rfl,h.symm⟩
  |succ n=>simp at h
 refine ⟨Pres.refl _,fun id C hC _=> ?_,fun id C hC ho=> ?_,fun id C hC _ hn=> ?_,fun id id' C C' hC hC' _ _ _ _ _=> ?_,fun id C e o s hC _ he hs=> ?_,⟨fun id C hC hm=> ?_,fun id id' C C' hC hC' hm=> ?_,fun id C e s hC hm=> ?_,fun id C hC hm=> ?_⟩⟩
 ·obtain ⟨rfl,rfl⟩:=one hC;exact h
 ·obtain ⟨rfl,rfl⟩:=one hC;rw [hk] at ho;cases ho
 ·obtain ⟨rfl,rfl⟩:=one hC;intro hm;have:=h.lt hn;rcases hm with hm|hm
  ·exact absurd this (Nat.not_lt.2 hm)
  ·cases hm
 ·rw [(one hC).1,(one hC').1]
 ·obtain ⟨rfl,rfl⟩:=one hC;intro i hi;have:i∈SV.idss (C.get e):=SV.mem_idss.2 ⟨s,zal hs,hi⟩;rw [hc e he] at this;cases this
 all_goals obtain ⟨rfl,rfl⟩:=one hC;rw [hk] at hm;cases hm
end Yk
namespace Go.Proofs.YtahblkeackebaaaGreatDoor
open Go Go.RowKit Go.Sy Yk
theorem T8 {gm:List (FuncId×MCtr)} (hm:MOk gm) {W:World} (hg:GlobU W) {ann:FuncId->Nat->Option (AS->Ann)} {n:Nat} {F:FuncId} {c:Cas} {rest:List SV} {L:Go.Sy.Loc} (hB:BlkOK (fun _=>L) 0 (e4.old c.x) W) (hr:SV.idss rest= []) (h:JL gm ann n F (Rs c c.x.length::rest) (ST c) (Go.Sy.okK fun r _ _ _=>r=cB.enc true)):
 Calls Tryz.prog F (SV.concs (fun _=>L) (Rs c c.x.length::rest)).toArray W fun e w'=>e= .returned (.bool true)/\Below W.heap.size W w':=by
 have hbc:BC W (fun i=>(ST c)[i]?) (fun _=>L) W:=TC hB rfl (fun e he=>e4.ids _);unfold JL at h
 obtain ⟨_,hc⟩:=sU (Qy hm (GlobB.of hg)) ann n F (Rs c c.x.length::rest) (fun i=>(ST c)[i]?) (ST c).length [] _ (fun _=>L) W h hbc (fun i hi=>zad hi) (fun s hs i hi=>by
  rcases zai.1 hs with rfl|hs
  ·have:i=0:=by simpa [Rs,SV.ids,SV.idss] using hi
   subst this;intro e;cases e
  ·have:i∈SV.idss rest:=SV.mem_idss.2 ⟨s,hs,hi⟩
   rw [hr] at this;cases this)
 refine Calls.mono hc ?_;rintro e w' ⟨β',s,bl',nx',wl',he,hk,hbc,_⟩;cases s with
 |pan v=>exact hk.elim
 |ok s=>
 obtain rfl:e=_:=he;obtain rfl:s=_:=hk;exact ⟨rfl,hbc.below.below⟩
theorem Se {g:Nat->List SV}: ∀ {l:List RS} {e:Nat},TI g l e-> ∀ j,j<l.length->g (e+j)=gA (nthD noR2 l j)
 | [],_,_,j,hj=>absurd hj (zbo j)
 |r::t,e,⟨h1,h2⟩,0,_=>h1
 |r::t,e,⟨h1,h2⟩,j+1,hj=>by
  have:=Se h2 j (by simpa using hj);rw [show e+(j+1)=e+1+j by omega];exact this
theorem Rq (x:Int):uInt (Int.tmod x 7)=true:=by
 have h:=Int.natAbs_tmod x 7;have hl:x.natAbs%7<7:=zar _ (by decide);have h7:(7:Int).natAbs=7:=rfl;rw [h7] at h;exact uInt_iff.2 (by omega)
theorem Te {v:(Int×Int)×(Int×Int)×(Int×Int)}: ∀ {k:Nat},∀ r∈Q7 v k,uzR r=true
 |0,r,h=>by cases h
 |k+1,r,h=>by
  rcases za8.1 h with h|h
  ·exact Te r h
  ·rw [zaj.1 h];exact gu _ _
theorem RX {v:(Int×Int)×(Int×Int)×(Int×Int)} {k:Nat}:(Q7 v k).length=k:=fJ _ _
theorem Tf {p:Pr} {c:Cas} (h1:1<=p.inp.length) (h3:p.inp.length<=3) (u1:uInt c.v.1.1=true) (u2:uInt c.v.2.1.1=true) (u3:uInt c.v.2.2.1=true):Rw p c (vK (Q7 c.v p.inp.length)):=by
 have P: ∀ l,p.inp=l->p={p with inp:=l}:=fun l h=>by rw [<- h]
 match hi:p.inp with
 | []=>rw [hi] at h1;exact absurd h1 (by decide)
 | [u]=>
   rw [P _ hi];show Rw {p with inp:= [u]} c (vK [vs1 c]);rw [Tp];exact ac (by rw [u1,Rq];rfl) ⟨rfl,rfl,rfl,rfl,rfl,rfl,trivial⟩
 | [u,v]=>
   rw [P _ hi];show Rw {p with inp:= [u,v]} c (vK [vs1 c,vs2 c]);rw [Tq];exact ac (by rw [u1,Rq];rfl) (ac (by rw [u2,Rq];rfl) ⟨rfl,rfl,rfl,rfl,rfl,rfl,rfl,trivial⟩)
 | [u,v,w]=>
   rw [P _ hi];show Rw {p with inp:= [u,v,w]} c (vK [vs1 c,vs2 c,vs3 c]);rw [Ts];exact ac (by rw [u1,Rq];rfl) (ac (by rw [u2,Rq];rfl) (ac (by rw [u3,Rq];rfl) ⟨rfl,rfl,rfl,rfl,rfl,rfl,rfl,rfl,trivial⟩))
 |_::_::_::_::_=>rw [hi] at h3;simp at h3
theorem Tg: ∀ B:Base,GlobB B->MCtrOK Tryz.prog B 8 SR:=Sh MOk.nil fun bl nx args C hk hp=>by
 unfold SR at hk;split at hk
 ·rename_i s i0 i1 i2 i3 t ex v0 v1 v2 v3 v4 v5;split at hk
  ·rename_i p bb o n g hs ht;simp only [za1] at hk;subst hk;simp only [za2,decide_eq_true_eq] at hp;obtain ⟨⟨⟨⟨⟨⟨⟨⟨⟨⟨h0,rfl⟩,hg⟩,h1⟩,h3⟩,u1⟩,_⟩,u2⟩,_⟩,u3⟩,_⟩:=hp;obtain ⟨s1,s2,s3,s4,s5,s6⟩:=eX (f:=rnF [p.o1,p.o2,o] [] nx) hs h0 rfl rfl;obtain ⟨t1,t2⟩:=cq (f:=rnF [p.o1,p.o2,o] [] nx) ht hg;have hlen:(e4.list n g).length=n:=El.list_length
   let c:Cas:=⟨(i0,i1,i2),i3,e4.list n g,ex,((v0,v1),(v2,v3),(v4,v5))⟩
   have hold: ∀ C∈To p.p c,cN C.kd=false/\C.kd.map=false:=by simp [To,cN,El.old,BK.map]
   refine ⟨[p.o1,p.o2,o],To p.p c, [kB p.p,SP 2 c c.x.length],fun _ _=>none,4,aw s1 (aw s2 (aw t1 trivial)),bH (fun C hC=>(hold C hC).1),cd (fun C hC=>(hold C hC).2),ar s3 (ar (gv (ar rfl (ar rfl (ar rfl (ar rfl (ar (t2 2 rfl) rfl)))))) rfl), ?_⟩;refine Q8 (K:=xo (vK (Q7 c.v p.p.inp.length))) (Tf (c:=c) h1 h3 u1 u2 u3) fun r bl' m w h=> ?_;obtain ⟨i,n',B,rfl,hB,e1,e2,e3,e4',e5,e6⟩:=tT h;have hl:(Q7 c.v p.p.inp.length).length=p.p.inp.length:=RX;rw [hl] at e1;subst e1;have e5:=zak e5;refine ⟨(),trivial, [some i],⟨_,rfl, ?_⟩,by simp [ck],⟨⟨by show 3<=i;exact e5, ?_⟩,trivial⟩,cr (fun C hC=>(hold C hC).1) (by rfl) _⟩
   ·have e0:dt [p.o1,p.o2,o] [some i] nx nx=some (some i):=cO;simp only [SV.rn,e0]
   ·rw [hB];refine ⟨by simp [El.own],fun _=>⟨by show 1<=(Q7 c.v p.p.inp.length).length;omega,eR.one⟩,gC e4' e3 (Nat.le_of_eq e2.symm) fun e he=> ?_⟩;have:=Se e6 e he;rw [za7] at this;exact this
  ·cases hk
 ·cases hk
theorem Th:MOk SS:=(((((((MOk.nil.cons BI).cons lZ).cons tP).cons Mj).cons zC).cons Rn).cons Tg).cons Tc
structure CasOK (c:Cas):Prop where
 len:c.x.length<=9223372036854775807
 a0:uInt c.a.1=true
 a1:uInt c.a.2.1=true
 a2:uInt c.a.2.2=true
 k:uInt c.k=true
 x: ∀ y∈c.x,uz4 y=true
 v0:uInt c.v.1.1=true
 v1:uInt c.v.1.2=true
 v2:uInt c.v.2.1.1=true
 v3:uInt c.v.2.1.2=true
 v4:uInt c.v.2.2.1=true
 v5:uInt c.v.2.2.2=true
theorem CasOK.of {c:Cas} (h:c.ok=true) (hl:c.x.length<=maxLen):CasOK c:=by
 unfold Cas.ok at h;simp only [za2,zaf] at h;obtain ⟨⟨⟨⟨⟨⟨⟨⟨⟨⟨h0,h1⟩,h2⟩,h3⟩,h4⟩,h5⟩,h6⟩,h7⟩,h8⟩,h9⟩,ha⟩:=h
 exact ⟨by have e:maxLen=9223372036854775807:=by decide
           omega,h0,h1,h2,h3,h4,h5,h6,h7,h8,h9,ha⟩
section
variable {c:Cas} {ex:Bool}
theorem Q0 {b:Bool} {K:Prop} (h:b=true) (k:K):nd1 b K:=ac h fun _ _=>k
theorem RY:Rp c ex=Bd c.a c.k c.x ex:=by
 unfold Rp;rw [show e4.list c.x.length (e4.get c.x)=c.x from El.list_get]
theorem SA:cw (Rp c ex)=true:=by rw [RY];exact Tn
theorem Ry:1<=(Rp c ex).inp.length/\(Rp c ex).inp.length<=3/\1<=(Rp c ex).nod.length/\(Rp c ex).nod.length<=14:=by rw [RY];exact Sb
theorem Sq:validP (Rp c ex)=true:=by rw [RY];exact Sk
theorem RM:jn (Rp c ex)=true:=by
 have:=Ry (c:=c) (ex:=ex);exact eY SA (by omega) (by omega)
theorem SL (h:CasOK c):Sl c=true:=by
 unfold Sl;rw [zae (za0 _),decide_eq_true h.len,El.good_get h.x,h.a0,h.a1,h.a2,h.k];rfl
theorem SM (h:CasOK c):Sm c (Rp c ex)=true:=by
 have l:=Ry (c:=c) (ex:=ex);unfold Sm;rw [RM,fN,zae (za0 _),El.good_get h.x,decide_eq_true l.1,decide_eq_true l.2.1,h.v0,h.v1,h.v2,h.v3,h.v4,h.v5];rfl
theorem TD {p:Pr}:Sn c p=Q7 c.v p.inp.length:=by
 unfold Sn SU;rw [fN];have hl:(Q7 c.v p.inp.length).length=p.inp.length:=RX;have:eR.list (Q7 c.v p.inp.length).length (eR.get (Q7 c.v p.inp.length))=Q7 c.v p.inp.length:=El.list_get;rw [hl] at this;exact this
theorem RZ {p q:Pr} (hp:p.inp.length<=1000000) (hq:jn q=true):SW c p q=true:=by
 have hl:(Q7 c.v p.inp.length).length=p.inp.length:=RX;have hg:eR.good uzR (Q7 c.v p.inp.length).length (eR.get (Q7 c.v p.inp.length))=true:=El.good_get Te;unfold SW SU bW;rw [fN];rw [hl] at hg ⊢;rw [hq,zae (za0 _),zae hp,hg];rfl
theorem Ti {y n:Int} {K:Prop} (hy:uInt y=true) (hn:0<n) (k:K):af (Tt y n) K:=ac (by unfold Tt;rw [hy,decide_eq_true hn];rfl) k
theorem Rl {p:Pr} {i:Int} (h:cw p=true):jn (aG p i).1=true:=by
 obtain ⟨d1,d2,d3⟩:=qw (i:=i) h;exact eY d1 d2 d3
theorem SC {X K:Prop} (hX:X): ∀ {l:List Int},((∀ e∈l,e=0)->K)->TK l X K
 | [],h=>h fun _ h=>by cases h
 |e::r,h=>ah (fun _=>hX) (fun hb=>SC hX fun hr=>h fun x hx=>by
  rcases zai.1 hx with rfl|hx
  ·simpa using hb
  ·exact hr x hx)
theorem seqR_iff {a b:RS}:zM a b=true↔a=b:=by
 obtain ⟨a1,a2⟩:=a;obtain ⟨b1,b2⟩:=b;simp [zM,seq_iff]
end
theorem Sf {c:Cas} {i k:Int} {Q:SV->Prop} (h:CasOK c) (hi:uInt i=true) (hk:uInt k=true) (hQ:Q (cB.enc true)):TL c (Rp c true) i k Q:=by
 have l:=Ry (c:=c) (ex:=true);have hs:=SA (c:=c) (ex:=true);have hv:=Sq (c:=c) (ex:=true);have hn:=RM (c:=c) (ex:=true);have hpre:=SM (ex:=true) h;generalize Rp c true=p at*
 have s1:=(qw (i:=co i p.inp.length) hs).1;have s2:=(qw (i:=co k p.inp.length) hs).1;unfold TL;rw [TD];simp only [fN];refine Q0 (SL h) (Q0 hpre (Ti hi (by omega) (Ti hk (by omega) (Q0 hn (Q0 hn (Q0 (Rl hs) (Q0 (Rl hs) (Q0 (RZ (by omega) (Rl s1)) (Q0 (RZ (by omega) (Rl s2)) (Q0 (RZ (by omega) hn) (SC hQ fun hz=> ?_)))))))))));simp only [zai,zby,or_false,forall_eq_or_imp,forall_eq] at hz;obtain ⟨e1,e2,e3,e4',e5,e6,e7⟩:=hz;have:=R8 hs (zca rfl e7) (zca rfl e1) (zca rfl e2) (zca rfl e3) (zca rfl e4') (zca rfl e5) (zca rfl e6);rw [seqR_iff.2 this];exact hQ
theorem Rt (c:Cas) (i k:Int) {L:Go.Sy.Loc} {W:World} (h:c.ok=true) (hB:BlkOK (fun _=>L) 0 (e4.old c.x) W) (hl:c.x.length<=maxLen) (hi:B64 i) (hk:B64 k) (_:World) (hg:GlobU W):
 Calls Tryz.prog 4 #[(Rs c c.x.length).conc (fun _=>L), .int .i64 i, .int .i64 k] W fun e w'=>e= .returned (.bool true)/\Below W.heap.size W w':=
 T8 (gm:=SS) Th hg (ann:=fun _ _=>none) (n:=8) (rest:= [cI.enc i,cI.enc k]) hB rfl (by
  rw [SY]
  exact fun _ _=>Sf (CasOK.of h hl) (uInt_iff.2 hi) (uInt_iff.2 hk) rfl)
end Go.Proofs.YtahblkeackebaaaGreatDoor
namespace Go.Proofs.YtahblkeackebaaaGreatDoor
open Go.ChangeShapes Go.WideShapes Go.ChangeAt Go.RowKit Yk
theorem oQ {H:Type} {enc:TypeId×Value->H} {a:Assume} {C:Checked} {os:Os} {f:FuncId} {fn:Func} {s:ChangeSpec} {conds:List PathCond} {apart fresh handsOn again:Bool} {X:World->Array Value->Prop}
 (hX: ∀ (w w':World) (args:Array Value),w.heap=w'.heap->X w args->X w' args)
 (own:ownKnob C.prog.godebug=none) (started:os.Started) (noInit:C.prog.inits.idxOf? f=none) (hfn:C.prog.funcs[f]? =some fn)
 (witness: ∃ (w:World) (tape:Tape) (i:Input),w.os=os/\(w.forCall tape i).Shaped C.prog/\i.vars= []/\Input.okWide C.prog (w.forCall tape i) .any w.heap.size f i/\
   ((s.pre enc C.prog fn conds apart (w.forCall tape i).memory i.args/\X (w.forCall tape i).memory i.args)/\sizedMet enc C.prog fn (OpenSpec.ofChange s) apart (w.forCall tape i).memory i.args)/\a.holds C.prog (lone (Frame.enter C.prog f i.args .normal) [] (w.forCall tape i)))
 (contract: ∀ (W:World) (base:Nat) (args:Array Value) (ds gs:List (DataW H)) (before:List MemPlace),
   (∀ (j:Nat) t v,fn.params[j]? =some t->args[j]? =some v->Value.okWide C.prog W .any base t v)->
   DataW.Whole enc C.prog fn.params.toList s.vars apart W args.toList ds gs before->
   X W args->W.ShapedOpen C.prog->
   Calls C.prog f args W fun e W'=> ∃ v,e= .returned v/\s.post enc C.prog fn apart fresh handsOn again W args v W'):
 ReturnsInHanded a C os f .any (fun w args=>(s.pre enc C.prog fn conds apart w args/\X w args)/\sizedMet enc C.prog fn (OpenSpec.ofChange s) apart w args) (s.post enc C.prog fn apart fresh handsOn again):=by
 refine returnsInHanded_of_calls own started noInit witness ?_;intro w tape i _ hsh _ hok hpre hholds;obtain ⟨_,_,_,fn',hfn',_,_,_,_,hval⟩:=hok;have e:fn'=fn:=zbl (hfn'.symm.trans hfn);subst e;obtain ⟨⟨⟨ds,gs,before,hw,hc⟩,hx⟩,hz⟩:=hpre;have hw':=DataW.Whole.of_heap (w':=w.forCall tape i) (by rfl) hw;refine (contract (w.forCall tape i) w.heap.size i.args ds gs before hval hw' (hX _ _ _ (by rfl) hx) hsh).mono fun e W' ⟨v,he,hp⟩=> ?_;subst he;exact ChangeSpec.post_blind hp
theorem own:ownKnob Tryz.prog.godebug=none:=by kernel_rfl
noncomputable def oR:List (String×DataW Unit):=Rows.deriveDualRow.laid
theorem MM {W:World} (h:W.ShapedOpen Tryz.prog): ∃ m,W.cell? ⟨5,0,none⟩=some (.int .i64 m):=
 cell_of_shapedOpen_int (t:=3) (zero:= #[.int .i64 0]) h (of_decide_eq_true (by kernel_rfl)) (by kernel_rfl) (by kernel_rfl) (by kernel_rfl) (by kernel_rfl) Tryz.underlying3
theorem MN:(Rows.laid_internal_strconv_uint64pow10:DataW Unit)=Lib.tabData .u64 Lib.pow10Tab:=by kernel_rfl
theorem No:Tryz.prog.globalNamed "strconv.ErrRange" =some 3:=by kernel_rfl
theorem Np:Tryz.prog.globalNamed "strconv.ErrSyntax" =some 2:=by kernel_rfl
theorem QB: "*" ++ "errors.errorString" = "*errors.errorString" :=by decide
theorem JV (u:TypeId) (h:Tryz.prog.typeName? 3 u=some "*errors.errorString"):u=302:=
 typeName_ptr_named (nm:= "errors.errorString") (by rw [QB];kernel_rfl) (by kernel_rfl) (by decide) u (by rw [QB];exact h)
theorem JW {W:World} (h:W.ShapedOpen Tryz.prog) (hL:laidMetH Tryz.prog oR W):GlobU W:=by
 rw [MakeChecks.laidMetH_plain _ _ _ (by kernel_rfl)] at hL;have hL1:=laidMet.tail (laidMet.tail hL);have ht:Lib.TabIs Tryz.prog W "internal/strconv.uint64pow10" .u64 Lib.pow10Tab:=
  Lib.tabIs_of_head NL (by kernel_rfl) Tryz.underlying298 Tryz.underlying268 (by kernel_rfl) (by kernel_rfl) (MN▸hL1)
 have hL2:=laidMet.tail (laidMet.tail hL1);obtain ⟨a0,s0,hv0,_,_,_⟩:=laid_sentinel (g:=3) (ti:=229) (tp:=302) (te:=304) (ts:=9) hL2 No (by kernel_rfl) Tryz.underlying229 JV Tryz.underlying302 Tryz.underlying304 rfl rfl Tryz.underlying9 (by kernel_rfl) (by kernel_rfl);obtain ⟨a1,s1,hv1,_,_,_⟩:=laid_sentinel (g:=2) (ti:=229) (tp:=302) (te:=304) (ts:=9) (laidMet.tail hL2) Np (by kernel_rfl) Tryz.underlying229 JV Tryz.underlying302 Tryz.underlying304 rfl rfl Tryz.underlying9 (by kernel_rfl) (by kernel_rfl);have c0:=World.var?_cell No hv0 0;have c1:=World.var?_cell Np hv1 0;exact ⟨⟨MM h,ht,World.block_lt_of_cell? W _ (ht.cell NL 0 (by decide))⟩,⟨_,by simpa using c1, .inr ⟨_,_,rfl⟩⟩,⟨_,by simpa using c0, .inr ⟨_,_,rfl⟩⟩⟩
end Go.Proofs.YtahblkeackebaaaGreatDoor
