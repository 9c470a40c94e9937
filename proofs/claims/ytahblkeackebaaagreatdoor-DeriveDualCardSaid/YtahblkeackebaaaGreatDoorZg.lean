import Derived.Test.YtahblkeackebaaaGreatDoorZf
import Derived.ProofKit
import Derived.OpenShut
import Derived.Carry
import Derived.Test.YtahblkeackebaaaGreatDoorRows
import Derived.HandedShaped
import Derived.LaidMore
import Derived.Lay
import Derived.Lib.LaidTab
import Derived.Shelf.Vars
import Derived.Stop.LaidErr
import Derived.Stop.Joined
set_option linter.unusedVariables false
set_option linter.unusedSimpArgs false
namespace Go.Proofs.YtahblkeackebaaaGreatDoor
open Go Go.RowKit Go.Sy Yk
abbrev DR:=RS×RS
def bd:DR:=(VI,VI)
def bh (n:Int):RS:=(rMk n 1).1
def JE (a b:DR):DR×Bool:=(((ce a.1 b.1).1,(fZ (ce a.2 b.1).1 (ce a.1 b.2).1).1),(ce a.1 b.1).2==0&&((ce a.2 b.1).2==0&&((ce a.1 b.2).2==0&&(fZ (ce a.2 b.1).1 (ce a.1 b.2).1).2==0)))
def Nl (a:DR):DR×Bool:=
 let v:=cA (bh 1) a.1
 let s:=ce v.1 v.1
 let x:=ce a.2 s.1
 let d:=iF (bh 0) x.1
 ((v.1,d.1),v.2==0&&(s.2==0&&(x.2==0&&d.2==0)))
def xd (a:DR):Nat->DR×Bool->DR×Bool
 |0,y=>y
 |k+1,y=>bif y.2 then xd a k (JE y.1 a) else y
def bv (ins:List RS) (input:Int) (vs:List DR) (x:Nd):DR×Bool:=
 bif x.op==2 then ((za VI ins x.n.toNat,bif x.n==input then bh 1 else bh 0),true) else
 bif x.op==3 then (((fZ (za bd vs x.l.toNat).1 (za bd vs x.r.toNat).1).1,(fZ (za bd vs x.l.toNat).2 (za bd vs x.r.toNat).2).1),(fZ (za bd vs x.l.toNat).1 (za bd vs x.r.toNat).1).2==0&&(fZ (za bd vs x.l.toNat).2 (za bd vs x.r.toNat).2).2==0) else
 bif x.op==4 then (((iF (za bd vs x.l.toNat).1 (za bd vs x.r.toNat).1).1,(iF (za bd vs x.l.toNat).2 (za bd vs x.r.toNat).2).1),(iF (za bd vs x.l.toNat).1 (za bd vs x.r.toNat).1).2==0&&(iF (za bd vs x.l.toNat).2 (za bd vs x.r.toNat).2).2==0) else
 bif x.op==5 then JE (za bd vs x.l.toNat) (za bd vs x.r.toNat) else
 bif x.op==6 then ((JE (za bd vs x.l.toNat) (Nl (za bd vs x.r.toNat)).1).1,(Nl (za bd vs x.r.toNat)).2&&(JE (za bd vs x.l.toNat) (Nl (za bd vs x.r.toNat)).1).2) else
 bif x.op==7 then
  (let y:=xd (za bd vs x.l.toNat) (jH x.n).toNat ((bh 1,bh 0),true)
  bif decide (x.n<0)&&y.2 then Nl y.1 else y) else
 ((x.v,bh 0),x.op==1)
def Uq (ins:List RS) (input:Int):List Nd->List DR->Option (List DR)
 | [],vs=>some vs
 |x::r,vs=>bif (bv ins input vs x).2 then Uq ins input r (vs++ [(bv ins input vs x).1]) else none
def yv (p:Pr) (ins:List RS) (input:Int):DR×Bool:=match Uq ins input p.nod [] with
 |some vs=>(za bd vs (vs.length - 1),true)
 |none=>(bd,false)
def duQ (a:DR):Du:=⟨qV a.1,qV a.2⟩
def Ux (a:DR):Prop:=rV a.1=true/\rV a.2=true
theorem nE {n:Int} (h:n.natAbs<10^9):rV (bh n)=true/\qV (bh n)=n:=by
 unfold bh;have:=kL (n:=n) (d:=1) (sm h) (by decide) (by decide);rw [this];refine ⟨?_,by rw [BW,C7]⟩;exact MR (sm h) (by decide) (by decide)
theorem Ui {a b:DR} (h:(JE a b).2=true):Ux (JE a b).1/\duQ (JE a b).1=(duQ a).mul (duQ b):=by
 unfold JE at h ⊢;simp only [za2,zdH] at h;obtain ⟨h1,h2,h3,h4⟩:=h;have g1:=(mG h1).2.2;have g2:=(mG h2).2.2;have g3:=(mG h3).2.2;have g4:=(rB h4).2.2;exact ⟨⟨g1.valid,g4.valid⟩,Du.eq g1.val (by show qV (fZ _ _).1=qV a.2*qV b.1+qV a.1*qV b.2;rw [g4.val,g2.val,g3.val])⟩
theorem Uy {a:DR} (h:(Nl a).2=true):Ux (Nl a).1/\duQ (Nl a).1=(duQ a).inv:=by
 unfold Nl at h ⊢;dsimp only at h ⊢;simp only [za2,zdH] at h;obtain ⟨h1,h2,h3,h4⟩:=h;have g1:=(jP h1).2.2.2;have g2:=(mG h2).2.2;have g3:=(mG h3).2.2;have g4:=(rC h4).2.2;have w1:qV (bh 1)=1:=(nE (n:=1) (by decide)).2;have w0:qV (bh 0)=0:=(nE (n:=0) (by decide)).2;refine ⟨⟨g1.valid,g4.valid⟩,Du.eq ?_ ?_⟩
 ·show qV (cA _ _).1=(qV a.1)⁻¹;rw [g1.val,w1,Rat.div_def,Rat.one_mul]
 ·show qV (iF _ _).1= -(qV a.2*((qV a.1)⁻¹ *(qV a.1)⁻¹));rw [g4.val,g3.val,g2.val,g1.val,w0,w1,Rat.div_def,Rat.one_mul]
  grind
theorem Uz {a:DR}: ∀ (k j:Nat) {y:DR×Bool},Ux y.1->duQ y.1=(duQ a).pow j->(xd a k y).2=true->y.2=true->Ux (xd a k y).1/\duQ (xd a k y).1=(duQ a).pow (j+k)
 |0,j,y,h1,h2,_,_=>⟨h1,h2⟩
 |k+1,j,y,h1,h2,h,hy=>by
  unfold xd at h ⊢;rw [hy,zdA] at h ⊢;have hp:(JE y.1 a).2=true:=by
   cases e:(JE y.1 a).2 with
   |true=>rfl
   |false=>
    have: ∀ k,(xd a k (JE y.1 a)).2=false:=fun k=>by
     cases k with
     |zero=>exact e
     |succ k=>unfold xd;rw [e];exact e
    rw [this] at h;cases h
  obtain ⟨p1,p2⟩:=Ui hp;rw [show j+(k+1)=j+1+k by omega];exact Uz k (j+1) p1 (by rw [p2,h2];rfl) h hp
theorem U9 {ins:List RS} {input:Int} {vs:List DR} {ni j:Nat} {x:Nd} (h:(bv ins input vs x).2=true) (ok:NodeOK ni j x) (hc:x.op=1->rV x.v=true) (hi: ∀ r∈ins,rV r=true) (hni:ni=ins.length):
 Ux (bv ins input vs x).1/\duQ (bv ins input vs x).1=evD (xz ins input) (fun k=>duQ (za bd vs k)) x:=by
 have hop:=ok.op;have w1:=nE (n:=1) (by decide);have w0:=nE (n:=0) (by decide);rcases (show x.op=1\/x.op=2\/x.op=3\/x.op=4\/x.op=5\/x.op=6\/x.op=7\/x.op=8 by omega) with o|o|o|o|o|o|o|o
 ·unfold bv evD at*
  rw [o] at h ⊢;exact ⟨⟨hc o,w0.1⟩,Du.eq rfl w0.2⟩
 ·have:=ok.inp o;unfold bv evD at*
  rw [o] at h ⊢;refine ⟨⟨hi _ (bw (by omega)), ?_⟩,Du.eq rfl ?_⟩
  ·show rV (bif x.n==input then bh 1 else bh 0)=true;cases x.n==input;exact w0.1;exact w1.1
  ·show qV (bif x.n==input then bh 1 else bh 0)=if ((x.n.toNat:Nat):Int)=input then 1 else 0
   rw [show ((x.n.toNat:Nat):Int)=x.n by omega];by_cases e:x.n=input
   ·rw [if_pos e,beq_iff_eq.2 e];exact w1.2
   ·rw [if_neg e,zdF e];exact w0.2
 ·unfold bv evD at*
  rw [o] at h ⊢;replace h:((fZ (za bd vs x.l.toNat).1 (za bd vs x.r.toNat).1).2==0&&(fZ (za bd vs x.l.toNat).2 (za bd vs x.r.toNat).2).2==0)=true:=h;simp only [za2,zdH] at h;have g1:=(rB h.1).2.2;have g2:=(rB h.2).2.2;exact ⟨⟨g1.valid,g2.valid⟩,Du.eq g1.val g2.val⟩
 ·unfold bv evD at*
  rw [o] at h ⊢;replace h:((iF (za bd vs x.l.toNat).1 (za bd vs x.r.toNat).1).2==0&&(iF (za bd vs x.l.toNat).2 (za bd vs x.r.toNat).2).2==0)=true:=h;simp only [za2,zdH] at h;have g1:=(rC h.1).2.2;have g2:=(rC h.2).2.2;exact ⟨⟨g1.valid,g2.valid⟩,Du.eq g1.val g2.val⟩
 ·unfold bv evD at*
  rw [o] at h ⊢;exact Ui h
 ·unfold bv evD at*
  rw [o] at h ⊢;replace h:((Nl (za bd vs x.r.toNat)).2&&(JE (za bd vs x.l.toNat) (Nl (za bd vs x.r.toNat)).1).2)=true:=h;rw [za2] at h;obtain ⟨_,i2⟩:=Uy h.1;obtain ⟨p1,p2⟩:=Ui h.2;refine ⟨p1, ?_⟩;show duQ (JE _ _).1=_;rw [p2,i2];rfl
 ·have e: ∀ ins W,evD ins W x=dA (W x.l.toNat) x.n:=fun ins W=>by unfold evD;rw [o];rfl
  rw [e];have ed:bv ins input vs x=bif decide (x.n<0)&&(xd (za bd vs x.l.toNat) (jH x.n).toNat ((bh 1,bh 0),true)).2 then Nl (xd (za bd vs x.l.toNat) (jH x.n).toNat ((bh 1,bh 0),true)).1 else xd (za bd vs x.l.toNat) (jH x.n).toNat ((bh 1,bh 0),true):=by unfold bv;rw [o];rfl
  rw [ed] at h ⊢;have P:=Uz (a:=za bd vs x.l.toNat) (jH x.n).toNat 0 (y:=((bh 1,bh 0),true)) ⟨w1.1,w0.1⟩ (Du.eq w1.2 w0.2);rw [za7] at P;generalize xd (za bd vs x.l.toNat) (jH x.n).toNat ((bh 1,bh 0),true)=y at h P ⊢;unfold dA;cases hn:decide (x.n<0) with
  |true=>
   rw [hn,zb7] at h;rw [zb7,zdA];cases hy:y.2 with
   |true=>
    rw [hy,zdA] at h;rw [zdA];obtain ⟨_,p2⟩:=P hy rfl;obtain ⟨i1,i2⟩:=Uy h;exact ⟨i1,by rw [i2,p2]⟩
   |false=>rw [hy,zdz,hy] at h;cases h
  |false=>
   rw [hn,Bool.false_and,zdz] at h;rw [Bool.false_and,zdz,zdz];exact P h rfl
 ·unfold bv at h;rw [o] at h;cases h
theorem UG {ins:List RS} {input:Int} {ni:Nat} {nod:List Nd} (hN: ∀ j,j<nod.length->NodeOK ni j (za noN nod j)) (hc: ∀ j,j<nod.length->(za noN nod j).op=1->rV (za noN nod j).v=true) (hi: ∀ r∈ins,rV r=true) (hni:ni=ins.length):
 ∀ (r:List Nd) (acc vs:List DR),Uq ins input r acc=some vs->r=nod.drop acc.length->acc.length+r.length=nod.length->
 (∀ j,j<acc.length->Ux (za bd acc j)/\duQ (za bd acc j)=evD (xz ins input) (fun k=>duQ (za bd acc k)) (za noN nod j))->
 vs.length=nod.length/\ ∀ j,j<nod.length->Ux (za bd vs j)/\duQ (za bd vs j)=evD (xz ins input) (fun k=>duQ (za bd vs k)) (za noN nod j)
 | [],acc,vs,h,_,hlen,hP=>by
   simp only [Uq,za1] at h;subst h;simp only [za9,zaZ] at hlen;exact ⟨hlen,fun j hj=>hP j (by omega)⟩
 |x::r,acc,vs,h,hr,hlen,hP=>by
  simp only [za4] at hlen;have hx:za noN nod acc.length=x:=bR (by rw [<- zcf,<- hr];rfl);have hr':r=nod.drop (acc.length+1):=by rw [<- zcg,<- hr];rfl
  simp only [Uq] at h;cases hv:(bv ins input acc x).2 with
  |true=>
   rw [hv,zdA] at h;have ok:=hN acc.length (by omega);have hcx:=hc acc.length (by omega);rw [hx] at ok hcx;refine UG hN hc hi hni r _ vs h (by simp only [za3,za6];exact hr') (by simp only [za3,za6];omega) fun j hj=> ?_;simp only [za3,za6] at hj;have e: ∀ k,k<acc.length->za bd (acc++ [(bv ins input acc x).1]) k=za bd acc k:=fun k hk=>by rw [aS,if_neg (by omega)]
   by_cases k:j=acc.length
   ·rw [k,aS,if_pos rfl,hx];obtain ⟨a,b⟩:=U9 hv ok hcx hi hni;refine ⟨a, ?_⟩;rw [b];exact jK fun s hs=>by rw [e _ (l9 ok s hs)]
   ·obtain ⟨a,b⟩:=hP j (by omega);rw [e j (by omega)];refine ⟨a, ?_⟩;rw [b];exact jK fun s hs=>by rw [e _ (by have:=l9 (hN j (by omega)) s hs;omega)]
  |false=>rw [hv] at h;cases h
theorem UD {p:Pr} {ins:List RS} {input:Int} {x:DR} (hv:VM p=true) (hi: ∀ r∈ins,rV r=true) (hl:ins.length=p.inp.length) (h:yv p ins input=(x,true)):Ux x/\duQ x=za (.num 0) (duL (xz ins input) p.nod []) (p.nod.length - 1):=by
 unfold yv at h;split at h
 ·rename_i vs hvs;simp only [zag,and_true] at h;have hN:=(bQ hv).2;obtain ⟨k1,k2⟩:=UG hN (zA hv) hi hl.symm p.nod [] vs hvs rfl (by simp) (fun j hj=>by simp at hj);have hp:=(cV hv).2.1;rw [k1] at h;rw [<- h];refine ⟨(k2 _ (by omega)).1, ?_⟩;exact Ul hN (fun k hk=>(k2 k hk).2) (Mg hN (xz ins input)) _ (by omega)
 ·cases h
theorem UP {p d:Pr} {ins:List RS} {i:Int} {v w:RS} {x:DR} (hs:cw p=true) (hv:bn p ins=(v,0)) (hd:aG p i=(d,0)) (hw:bn d ins=(w,0)) (hx:yv p ins i=(x,true)):x.1=v/\x.2=w:=by
 have E:=xy hv;obtain ⟨o,e⟩:=UD E.valid E.vin E.len hx;have h1:=UO (i:=i) hv;have h2:=zB hs hd E.no8 hw;rw [<- e] at h1 h2;exact ⟨wh o.1 E.rv h1.symm,wh o.2 (xy hw).rv h2.symm⟩
def v9:List FuncId:=
 49::
 17::
 zh
theorem zG: ∀ f∈v9,V0 Tryz.prog f:=by
 unfold v9;intro f hf;rcases zai.1 hf with rfl|hf
 ·exact Tryz.call49
 rcases zai.1 hf with rfl|hf
 ·exact Tryz.call17
 exact xe f hf
abbrev ug (g:List (FuncId×Ctr)) (ann:FuncId->Nat->Option (AS->Ann)) (n:Nat) (f:FuncId) (args:List SV) (K:SV->Prop):Prop:=wq Tryz.prog (iR v9) (gw g) (gx []) ann n f args (fun _=>none) 0 [] (Go.Sy.okK fun r _ _ _=>K r)
theorem kh {g:List (FuncId×Ctr)} (h:GOk g) {W0:World} (hg:GlobU W0) {ann:FuncId->Nat->Option (AS->Ann)} {n:Nat} {F:FuncId} {args:List SV} {r:SV} (ha:SV.idss args= []) (hr:r.ids= []) (hrun:ug g ann n F args (fun s=>s=r)):Go.Sy.Yields Tryz.prog W0 F args r:=
 eo (fun W hb=>mW (h.all W (hg.below hb)) (fun _ h=>by cases h) zG (by kernel_rfl)) ha hr hrun
theorem Fv (c n:Int) (K:SV->Prop):ug xf noA 3 49 [cI.enc c,cI.enc n] K=vH c n K:=by kernel_rfl
theorem Fx (c n:Int) (K:SV->Prop):ug xf noA 3 63 [cI.enc c,cI.enc n] K=vH c n K:=by kernel_rfl
theorem BJ (c n:Int) (K:SV->Prop):ug xf noA 3 13 [cI.enc c,cI.enc n] K=vH c n K:=by kernel_rfl
abbrev Dg:Ctr:=k2 cI cI cI (fun c n=>uInt c&&decide (0<n)) co
theorem uh {F:FuncId} {W:World} (hW:GlobU W) (hvc: ∀ (c n:Int) (K:SV->Prop),ug xf noA 3 F [cI.enc c,cI.enc n] K=vH c n K):CtrOK Tryz.prog W F Dg:=bC fun c n h=>by
 rw [za2] at h;exact kh WH (ann:=noA) (n:=3) hW dz (cI.ids _) (by rw [hvc];exact A6 (K:=fun r=>r=_) h.1 (zdD h.2) rfl)
def ui:List (FuncId×Ctr):=(13,Dg)::(63,Dg)::
 (49,Dg)::
 xf
theorem xJ:GOk ui:=
 ((WH
   |>.cons (fun W hW=>uh hW Fv) Tryz.call49
   ).cons (fun W hW=>uh hW Fx) Tryz.call63).cons (fun W hW=>uh hW BJ) Tryz.call13
theorem Fy {n:Int} {K:Prop} (h: -9223372036854775808<=n/\n<=9223372036854775807) (k:K):af (inR .i64 n) K:=ac (VP.2 h) k
theorem Fz (x:Int×Int) (K:SV->Prop):ug ui noA 3 17 [c22.enc x] K=
 af (uInt x.1&&decide (0<(1999:Int))) (af (inR .i64 (co x.1 1999 - 999)) (af (uInt x.2&&decide (0<(60:Int))) (af (inR .i64 (1+co x.2 60)) (af (uInt (co x.1 1999 - 999)&&uInt (1+co x.2 60)) (K (cR.enc (Yk.smallF x))))))):=by kernel_rfl
theorem FA (n:Int) (K:SV->Prop):ug ui noA 3 16 [cI.enc n] K=af (uInt n&&uInt 1) (K (cR.enc (bh n))):=by kernel_rfl
noncomputable def BL (n:Int):Un:=
 bif co n 7==0 then aT 0 else bif co n 7==1 then aT 2 else bif co n 7==2 then {aT 0 with f:=(⟨#[49]⟩,⟨#[49,48,48,48]⟩)} else
 bif co n 7==3 then (fd (aT 0) (aT 0)).1 else bif co n 7==4 then {aT 4 with s:=0,o:=(⟨#[53,52,54,51]⟩,⟨#[50,48]⟩)} else bif co n 7==5 then aT 4 else (mi (aT 0) (aT 0)).1
noncomputable def BM (n:Int) (K:SV->Prop):Prop:=
 af (uInt n&&decide (0<(7:Int))) (ag (co n 7==0) (K (cU.enc (aT 0))) (ag (co n 7==1) (K (cU.enc (aT 2))) (ag (co n 7==2) (K (cU.enc {aT 0 with f:=(⟨#[49]⟩,⟨#[49,48,48,48]⟩)})) (
 ag (co n 7==3) (K (cU.enc (fd (aT 0) (aT 0)).1)) (ag (co n 7==4) (K (cU.enc {aT 4 with s:=0,o:=(⟨#[53,52,54,51]⟩,⟨#[50,48]⟩)})) (ag (co n 7==5) (K (cU.enc (aT 4))) (K (cU.enc (mi (aT 0) (aT 0)).1))))))))
theorem JF (n:Int) (K:SV->Prop):ug ui noA 3 64 [cI.enc n] K=BM n K:=by kernel_rfl
theorem JG {n:Int} {K:SV->Prop} (h:uInt n=true) (k:K (cU.enc (BL n))):BM n K:=by
 unfold BL at k;unfold BM;rw [h];refine ac rfl (ah (fun a=> ?_) (fun a=>ah (fun b=> ?_) (fun b=>ah (fun c=> ?_) (fun c=>ah (fun d=> ?_) (fun d=>ah (fun e=> ?_) (fun e=>ah (fun f=> ?_) (fun f=> ?_)))))))
 ·rw [a] at k;exact k
 ·rw [a,b] at k;exact k
 ·rw [a,b,c] at k;exact k
 ·rw [a,b,c,d] at k;exact k
 ·rw [a,b,c,d,e] at k;exact k
 ·rw [a,b,c,d,e,f] at k;exact k
 ·rw [a,b,c,d,e,f] at k;exact k
noncomputable def xK:List (FuncId×Ctr):=
 (64,k1 cI cU uInt BL)::
 (16,k1 cI cR uInt bh)::
 (17,k1 c22 cR (fun x=>uInt x.1&&uInt x.2) Yk.smallF)::
 ui
theorem BN:GOk xK:=
 (((xJ
   |>.cons (fun W hW=>dD fun x h=>kh xJ (ann:=noA) (n:=3) hW eu (cR.ids _) (by
    rw [Fz];rw [za2] at h;have b1:=gR x.1 (n:=1999) (by decide);have b2:=gR x.2 (n:=60) (by decide)
    exact ac (by rw [h.1];rfl) (Fy (by omega) (ac (by rw [h.2];rfl) (Fy (by omega) (ac (by rw [V4.2 (by omega),V4.2 (by omega)];rfl) rfl)))))) Tryz.call17
   )
   |>.cons (fun W hW=>dD fun n h=>kh xJ (ann:=noA) (n:=3) hW eu (cR.ids _) (by rw [FA];exact ac (by rw [h];rfl) rfl)) Tryz.call16
   )
   |>.cons (fun W hW=>dD fun n h=>kh xJ (ann:=noA) (n:=3) hW eu (cU.ids _) (by rw [JF];exact JG (K:=fun r=>r=_) h rfl)) Tryz.call64
   )
def Nm:SV->Option DR
 | .agg [.val (.string a), .val (.string b), .val (.string c), .val (.string d)]=>some ((a,b),(c,d))
 |_=>none
def cDR:Cod DR where
 dec:=Nm
 enc r:= .agg [.val (.string r.1.1), .val (.string r.1.2), .val (.string r.2.1), .val (.string r.2.2)]
 ok s a h:=by
  unfold Nm at h;split at h
  ·simp at h;rw [<- h]
  ·cases h
 ids _:=by simp [SV.ids,SV.idss]
def uzD (a:DR):Bool:=uzR a.1&&uzR a.2
def ME:List Int->(Bool->Prop)->Prop
 | [],K=>K true
 |e::r,K=>ag (e !=0) (K false) (ME r K)
def JH (a b:DR) (K:SV->Prop):Prop:=
 af (uzR a.1&&uzR b.1) (af (uzR a.2&&uzR b.1) (af (uzR a.1&&uzR b.2) (af (uzR (ce a.2 b.1).1&&uzR (ce a.1 b.2).1)
  (ME [(ce a.1 b.1).2,(ce a.2 b.1).2,(ce a.1 b.2).2,(fZ (ce a.2 b.1).1 (ce a.1 b.2).1).2] fun c=>K ((cP cDR cB).enc (((ce a.1 b.1).1,(fZ (ce a.2 b.1).1 (ce a.1 b.2).1).1),c))))))
theorem JI (a b:DR) (K:SV->Prop):ug xK noA 4 45 [cDR.enc a,cDR.enc b] K=JH a b K:=by kernel_rfl
def Nn (a:DR) (K:SV->Prop):Prop:=
 let v:=cA (bh 1) a.1
 let s:=ce v.1 v.1
 let x:=ce a.2 s.1
 let d:=iF (bh 0) x.1
 af (uInt 1) (af (uzR (bh 1)&&uzR a.1) (af (uzR v.1&&uzR v.1) (af (uzR a.2&&uzR s.1) (af (uInt 0) (af (uzR (bh 0)&&uzR x.1) (ME [v.2,s.2,x.2,d.2] fun c=>K ((cP cDR cB).enc ((v.1,d.1),c))))))))
theorem MF (a:DR) (K:SV->Prop):ug xK noA 4 46 [cDR.enc a] K=Nn a K:=by kernel_rfl
theorem xL {K:Bool->Prop}: ∀ {l:List Int},K (l.all (· ==0))->ME l K
 | [],h=>h
 |e::r,h=>by
  refine ah (fun k=> ?_) (fun k=>xL ?_)
  ·rw [zbz,show (e==0)=false by simpa using k] at h;exact h
  ·rw [zbz,show (e==0)=true by simpa using k] at h;exact h
noncomputable def BO:List (FuncId×Ctr):=
 (45,k2 cDR cDR (cP cDR cB) (fun a b=>uzD a&&uzD b) JE)::(46,k1 cDR (cP cDR cB) uzD Nl)::
 xK
theorem JJ:GOk BO:=
 BN
  |>.cons (fun W hW=>dD fun a h=>kh BN (ann:=noA) (n:=4) hW eu ((cP cDR cB).ids _) (by
   unfold uzD at h;rw [za2] at h;rw [MF];unfold Nn;dsimp only;refine ac rfl (ac (by rw [h.1,show uzR (bh 1)=true from gu 1 1];rfl) (ac (by rw [lY];rfl) (ac (by rw [h.2,gI];rfl) (ac rfl (ac (by rw [gI,show uzR (bh 0)=true from gu 0 1];rfl) (xL ?_))))));unfold Nl
   simp only [zbz,zcD,zaQ])) Tryz.call46
  |>.cons (fun W hW=>bC fun a b h=>kh BN (ann:=noA) (n:=4) hW dz ((cP cDR cB).ids _) (by
   unfold uzD at h;simp only [za2] at h;rw [JI];unfold JH;refine ac (by rw [h.1.1,h.2.1];rfl) (ac (by rw [h.1.2,h.2.1];rfl) (ac (by rw [h.1.1,h.2.2];rfl) (ac (by rw [gI,gI];rfl) (xL ?_))));unfold JE
   simp only [zbz,zcD,zaQ])) Tryz.call45
noncomputable def Dh:List (FuncId×Ctr):=
 BO
theorem WJ:GOk Dh:=
 JJ
@[irreducible] def JL (gm:List (FuncId×MCtr)) (ann:FuncId->Nat->Option (AS->Ann)) (n:Nat) (f:FuncId) (args:List SV) (Cs:List Blk) (K:Aft):Prop:=
 Ay Tryz.prog (iR v9) (gw Dh) (gx gm) tL ann n f args (fun i=>Cs[i]?) Cs.length [] K
theorem Q8 {gm:List (FuncId×MCtr)} {ann:FuncId->Nat->Option (AS->Ann)} {n:Nat} {f:FuncId} {args:List SV} {Cs:List Blk} {K K':Aft} (h:JL gm ann n f args Cs K) (hm: ∀ r b n w,K r b n w->K' r b n w):JL gm ann n f args Cs K':=by
 unfold JL at h ⊢;exact NiceT.mono (Ea _ _ _ _ _ _ f args _ _ _ (fun i hi=>zad hi)) h fun r b n w _=>hm r b n w
theorem Qy {gm:List (FuncId×MCtr)} (hm:MOk gm) {B:Base} (hB:GlobB B):HypD Tryz.prog B (iR v9) (gw Dh) (gx gm) tL:=
 have h:Hyp Tryz.prog B (iR v9) (gw Dh) (gx gm):=mW (fun p hp=>⟨CtrOK.base fun w hw=>(WJ.all w (hB w hw) p hp).1,(WJ.all B.w (hB B.w (Pres.self B)) p hp).2⟩) (hm.all B hB) zG (by kernel_rfl)
 ⟨h.gam,h.mem,(P2 hm hB).dem,h.ok,h.mixed⟩
theorem Sh {gm:List (FuncId×MCtr)} (hm:MOk gm) {F:FuncId} {k:MCtr} (h: ∀ (bl:Nat->Option Blk) (nx:Nat) (args:List SV) (C:RC),k bl nx args=some C->C.pre=true->
 ∃ (src:List (Option Nat)) (Cs:List Blk) (args0:List SV) (ann:FuncId->Nat->Option (AS->Ann)) (n:Nat),yw bl (rnF src [] nx) src Cs/\Kr src Cs/\Far src Cs/\SV.rns (rnF src [] nx) args0=some args/\JL gm ann n F args0 Cs (KB C src Cs nx)):
 ∀ B:Base,GlobB B->VU Tryz.prog B F k:=fun B hB=>wE (fun B' hs=>Qy hm (hB.sub hs)) fun bl nx args C hk hp=>by
 have:=h bl nx args C hk hp;unfold JL at this;exact this
end Go.Proofs.YtahblkeackebaaaGreatDoor
namespace Yk
open Go Go.RowKit Go.Sy
def RQ (y:I4):List SV:= [.val (.int .i64 y.1), .val (.int .i64 y.2.1), .val (.int .i64 y.2.2.1), .val (.int .i64 y.2.2.2)]
def Ud:List SV->I4
 | [.val (.int .i64 a), .val (.int .i64 b), .val (.int .i64 c), .val (.int .i64 d)]=>(a,b,c,d)
 |_=>(0,0,0,0)
def e4:El I4:={sz:=4,sv:=RQ,of:=Ud,d:=(0,0,0,0),rt:=fun _=>rfl,ids:=fun _=>rfl,len:=fun _=>rfl,one:=by decide}
def uz4 (y:I4):Bool:=uInt y.1&&uInt y.2.1&&uInt y.2.2.1&&uInt y.2.2.2
structure Cas where
 a:Int×Int×Int
 k:Int
 x:List I4
 e:Bool
 v:(Int×Int)×(Int×Int)×(Int×Int)
def Cas.ok (c:Cas):Bool:=uInt c.a.1&&uInt c.a.2.1&&uInt c.a.2.2&&uInt c.k&&c.x.all uz4&&uInt c.v.1.1&&uInt c.v.1.2&&uInt c.v.2.1.1&&uInt c.v.2.1.2&&uInt c.v.2.2.1&&uInt c.v.2.2.2
def Rs (c:Cas) (n:Nat):SV:= .agg [.val (.int .i64 c.a.1), .val (.int .i64 c.a.2.1), .val (.int .i64 c.a.2.2), .val (.int .i64 c.k), .slc 0 0 n, .val (.bool c.e), .val (.int .i64 c.v.1.1), .val (.int .i64 c.v.1.2), .val (.int .i64 c.v.2.1.1), .val (.int .i64 c.v.2.1.2), .val (.int .i64 c.v.2.2.1), .val (.int .i64 c.v.2.2.2)]
end Yk
namespace Go.Proofs.YtahblkeackebaaaGreatDoor
open Go Go.RowKit Go.Sy Yk
def T9 (k:Int):Int:=F8 [2, -1,3, -2,1] (0+k.toNat)
def opF (y:I4):Int:=1+co y.1 8
noncomputable def RR (ni n:Int) (y:I4):Nd:=
 bif opF y==1 then ⟨opF y,(rMk (co y.2.1 13 - 6) (1+co y.2.2.1 4)).1,BL y.2.2.2,0,0,0⟩ else
 bif opF y==2 then ⟨opF y,VI,noU,co y.2.1 ni,0,0⟩ else
 bif opF y==7 then ⟨opF y,VI,noU,T9 (co y.2.2.1 5),co y.2.1 n,0⟩ else
 bif opF y==8 then ⟨opF y,VI,noU,0,co y.2.1 n,0⟩ else ⟨opF y,VI,noU,0,co y.2.1 n,co y.2.2.1 n⟩
noncomputable def TH (ex:Bool) (inp:List Un) (y:I4) (z:List Nd×List Un):List Nd×List Un:=
 match mn inp z.2 (RR inp.length z.1.length y) with
 |some u=>bif !ex||opF y !=8 then (z.1++ [RR inp.length z.1.length y],z.2++ [u]) else z
 |none=>z
noncomputable def RT (ex:Bool) (inp:List Un):List I4->List Nd×List Un->List Nd×List Un
 | [],z=>z
 |y::r,z=>bif decide (z.1.length<14) then RT ex inp r (TH ex inp y z) else z
noncomputable def QQ (a:Int×Int×Int) (k:Nat):List Un:=Go.Sy.tab (fun j=>BL (za 0 [a.1,a.2.1,a.2.2] j)) k
def R9 (k:Nat):List Nd:=Go.Sy.tab (fun j=>nIn j) k
noncomputable def Rb (a:Int×Int×Int) (count:Int) (xs:List I4) (ex:Bool):List Nd×List Un:=RT ex (QQ a ((co count 3).toNat+1)) xs (R9 ((co count 3).toNat+1),QQ a ((co count 3).toNat+1))
noncomputable def Bd (a:Int×Int×Int) (count:Int) (xs:List I4) (ex:Bool):Pr:=
 ⟨1+co count 900,QQ a ((co count 3).toNat+1),(Rb a count xs ex).1,ly (Rb a count xs ex).2⟩
theorem Rv {inp:List Un} {x:Nd} {u:Un}: ∀ {l:List Nd} {us vs:List Un},iB inp l us=(vs,true)->mn inp vs x=some u->iB inp (l++ [x]) us=(vs++ [u],true)
 | [],us,vs,h,k=>by
   simp only [iB,zag,and_true] at h;subst h;simp only [zaM,iB,k]
 |y::r,us,vs,h,k=>by
  simp only [zaO,iB] at h ⊢;cases e:mn inp us y with
  |none=>rw [e] at h;simp only [zag] at h;cases h.2
  |some v=>rw [e] at h;exact Rv h k
structure MadOK (inp:List Un) (z:List Nd×List Un):Prop where
 len:z.2.length=z.1.length
 pos:1<=z.1.length
 le:z.1.length<=14
 un:iB inp z.1 []=(z.2,true)
 szn: ∀ x∈z.1,szN x=true
 szu: ∀ u∈z.2,szB u=true
theorem RK (p:Un->Bool) (h: [aT 0,aT 2,{aT 0 with f:=(⟨#[49]⟩,⟨#[49,48,48,48]⟩)},(fd (aT 0) (aT 0)).1,{aT 4 with s:=0,o:=(⟨#[53,52,54,51]⟩,⟨#[50,48]⟩)},aT 4,(mi (aT 0) (aT 0)).1].all p=true) (n:Int):p (BL n)=true:=by
 have B: ∀ (b:Bool) (x y:Un),p x=true->p y=true->p (cond b x y)=true:=fun b x y h k=>by cases b;exact k;exact h
 simp only [zbz,zcD,zaQ,za2] at h;unfold BL;exact B _ _ _ h.1 (B _ _ _ h.2.1 (B _ _ _ h.2.2.1 (B _ _ _ h.2.2.2.1 (B _ _ _ h.2.2.2.2.1 (B _ _ _ h.2.2.2.2.2.1 h.2.2.2.2.2.2)))))
theorem Sa (n:Int):VK (BL n)=true:=RK VK (by kernel_rfl) n
theorem QY (n:Int):szB (BL n)=true:=RK szB (by kernel_rfl) n
theorem Sr (ni n:Int) (y:I4):szN (RR ni n y)=true:=by
 have B: ∀ (b:Bool) (x y:Nd),szN x=true->szN y=true->szN (cond b x y)=true:=fun b x y h k=>by cases b;exact k;exact h
 unfold RR;refine B _ _ _ ?_ (B _ _ _ lB (B _ _ _ lB (B _ _ _ lB lB)));show (uzR (rMk _ _).1&&szB (BL _))=true;rw [gu,QY];rfl
theorem MadOK.step {ex:Bool} {inp:List Un} {y:I4} {z:List Nd×List Un} (hi: ∀ u∈inp,szB u=true) (h:MadOK inp z) (hl:z.1.length<14):MadOK inp (TH ex inp y z):=by
 unfold TH;split
 ·rename_i u hu;cases !ex||opF y !=8 with
  |false=>exact h
  |true=>
   have hx:=Sr inp.length z.1.length y;refine ⟨by simp [h.len],by simp,by simp;omega,Rv h.un hu,fun x hx'=> ?_,fun v hv=> ?_⟩
   ·rcases za8.1 hx' with a|a
    ·exact h.szn x a
    ·rw [zaj.1 a];exact hx
   ·rcases za8.1 hv with a|a
    ·exact h.szu v a
    ·rw [zaj.1 a];exact CR hx hi h.szu hu
 ·exact h
theorem MadOK.all {ex:Bool} {inp:List Un} (hi: ∀ u∈inp,szB u=true): ∀ {xs:List I4} {z:List Nd×List Un},MadOK inp z->MadOK inp (RT ex inp xs z)
 | [],z,h=>h
 |y::r,z,h=>by
  unfold RT;cases hl:decide (z.1.length<14) with
  |false=>exact h
  |true=>exact MadOK.all hi (h.step hi (zdD hl))
theorem QT {a:Int×Int×Int} {p:Un->Bool} (hp: ∀ n,p (BL n)=true): ∀ {k:Nat},∀ u∈QQ a k,p u=true
 |0,u,h=>by cases h
 |k+1,u,h=>by
  rcases za8.1 h with h|h
  ·exact QT hp u h
  ·rw [zaj.1 h];exact hp _
theorem QR {a:Int×Int×Int} {k:Nat}:(QQ a k).length=k:=fJ _ _
theorem QZ {k:Nat}:(R9 k).length=k:=fJ _ _
theorem Si {a:Int×Int×Int} {K:Nat}: ∀ {k:Nat},k<=K->iB (QQ a K) (R9 k) []=(QQ a k,true)
 |0,_=>rfl
 |k+1,h=>Rv (Si (Nat.le_of_succ_le h)) (by
  have e:za noU (QQ a K) k=BL (za 0 [a.1,a.2.1,a.2.2] k):=bR (qX _ (by omega));have f:VT (QQ a k).length (nIn k)=true:=rfl;have u:fL (QQ a K) (QQ a k) (nIn k)=(BL (za 0 [a.1,a.2.1,a.2.2] k),0):=by
   show (bif decide (0<=((k:Nat):Int))&&decide (((k:Nat):Int)<((QQ a K).length:Int)) then (za noU (QQ a K) ((k:Nat):Int).toNat,0) else (noU,90))=_;rw [QR,zdy (by omega),zdy (by omega),zda,e];rfl
  show mn (QQ a K) (QQ a k) (nIn k)=some (BL (za 0 [a.1,a.2.1,a.2.2] k));unfold mn
  rw [f,u];rfl)
theorem RU: ∀ {k:Nat},∀ x∈R9 k,szN x=true
 |0,x,h=>by cases h
 |k+1,x,h=>by
  rcases za8.1 h with h|h
  ·exact RU x h
  ·rw [zaj.1 h];exact lB
section
variable {a:Int×Int×Int} {count:Int} {xs:List I4} {ex:Bool}
theorem Rc:1<=(co count 3).toNat+1/\(co count 3).toNat+1<=3:=by
 have:=gR count (n:=3) (by decide);omega
theorem Sj:MadOK (QQ a ((co count 3).toNat+1)) (Rb a count xs ex):=by
 have:=Rc (count:=count);exact MadOK.all (QT QY) ⟨by rw [QR,QZ],by rw [QZ];exact this.1,by rw [QZ];omega,Si (za0 _),RU,QT QY⟩
theorem Sk:VM (Bd a count xs ex)=true:=by
 have h:=Sj (a:=a) (count:=count) (xs:=xs) (ex:=ex);have n:=Rc (count:=count);have b:=gR count (n:=900) (by decide);have hb:oB (Bd a count xs ex)=true:=Wb.2 ⟨⟨by show 1<=1+co count 900;omega,by show 1+co count 900<=1000000;omega,by show (QQ a _).length<=6;rw [QR];omega⟩,zaf.2 (QT Sa),h.pos,by have:=h.le;show (Rb a count xs ex).1.length<=40;omega⟩;unfold VM VJ;rw [hb,zdA,show iB (Bd a count xs ex).inp (Bd a count xs ex).nod []=((Rb a count xs ex).2,true) from h.un];show ((bif eqU (ly (Rb a count xs ex).2) (ly (Rb a count xs ex).2) then _ else _:List Un×Int×Int).2.2==0)=true;rw [show eqU (ly (Rb a count xs ex).2) (ly (Rb a count xs ex).2)=true from Wh.2 rfl];rfl
theorem SO {us:List Un} (h: ∀ u∈us,szB u=true):szB (ly us)=true:=eH h _
theorem Tn:cw (Bd a count xs ex)=true:=by
 have h:=Sj (a:=a) (count:=count) (xs:=xs) (ex:=ex);unfold cw;rw [show (Bd a count xs ex).inp.all szB=true from zaf.2 (QT QY),show (Bd a count xs ex).nod.all szN=true from zaf.2 h.szn,show szB (Bd a count xs ex).out=true from SO h.szu];rfl
theorem Sb:1<=(Bd a count xs ex).inp.length/\(Bd a count xs ex).inp.length<=3/\1<=(Bd a count xs ex).nod.length/\(Bd a count xs ex).nod.length<=14:=by
 have h:=Sj (a:=a) (count:=count) (xs:=xs) (ex:=ex);have n:=Rc (count:=count);refine ⟨?_, ?_,h.pos,h.le⟩
 ·show 1<=(QQ a _).length;rw [QR];omega
 ·show (QQ a _).length<=3;rw [QR];omega
end
def WP (o:Int):Nd:=⟨o,VI,noU,0,1,2⟩
def zK (o:Int) (g:Nat->List SV):Nat->List SV:=fun i=>bif Nat.beq i 3 then gZ (g i) 0 (svN (WP o)) else g i
def zM (a b:RS):Bool:=seq a.1 b.1&&(seq a.2 b.2&&true)
structure RulG (n m o:Int) (g:Nat->List SV):Prop where
 g0:g 0=svN (nIn 0)
 g1:g 1=svN (WI n 0)
 g2:g 2=svN (WI m 0)
 g3:g 3=svN (WP o)
theorem RulG.next {n m o p:Int} {g:Nat->List SV} (h:RulG n m o g):RulG n m p (zK p g):=⟨h.g0,h.g1,h.g2,by show gZ (g 3) 0 (svN (WP p))=_;rw [h.g3];rfl⟩
theorem RulG.good {n m o:Int} {g:Nat->List SV} (h:RulG n m o g):eN.good szN 4 g=true:=El.good_iff.2 fun e he=>by
 rcases (show e=0\/e=1\/e=2\/e=3 by omega) with rfl|rfl|rfl|rfl
 ·rw [h.g0];exact ⟨rfl,lB⟩
 ·rw [h.g1];exact ⟨rfl,lB⟩
 ·rw [h.g2];exact ⟨rfl,lB⟩
 ·rw [h.g3];exact ⟨rfl,lB⟩
def To (p:Pr) (c:Cas):List Blk:= [eU.old p.inp,eN.old p.nod,e4.old c.x]
def SP (i:Nat) (c:Cas) (n:Nat):SV:= .agg [.val (.int .i64 c.a.1), .val (.int .i64 c.a.2.1), .val (.int .i64 c.a.2.2), .val (.int .i64 c.k), .slc i 0 n, .val (.bool c.e), .val (.int .i64 c.v.1.1), .val (.int .i64 c.v.1.2), .val (.int .i64 c.v.2.1.1), .val (.int .i64 c.v.2.1.2), .val (.int .i64 c.v.2.2.1), .val (.int .i64 c.v.2.2.2)]
abbrev Rw (p:Pr) (c:Cas) (KS:Nat->Nat->Blk->Prop):Prop:=JL [] (fun _ _=>none) 4 8 [kB p,SP 2 c c.x.length] (To p c) (xo KS)
def TI (g:Nat->List SV):List RS->Nat->Prop
 | [],_=>True
 |r::t,e=>g e=gA r/\TI g t (e+1)
def vK (l:List RS) (i n:Nat) (B:Blk):Prop:=n=l.length/\B.n=l.length/\B.sz=2/\B.kd= .own/\Nat.ble 3 i=true/\TI B.get l 0
noncomputable def vT (l:List RS):Prop:=vK l 3 l.length {n:=l.length,sz:=2,get:=eR.get l,kd:= .own,nn:=false}
noncomputable def vs1 (c:Cas):RS:=Yk.smallF (c.v.1.1,Int.tmod c.v.1.2 7)
noncomputable def vs2 (c:Cas):RS:=Yk.smallF (c.v.2.1.1,Int.tmod c.v.2.1.2 7)
noncomputable def vs3 (c:Cas):RS:=Yk.smallF (c.v.2.2.1,Int.tmod c.v.2.2.2 7)
theorem Tp (u:Un) (p:Pr) (c:Cas):Rw {p with inp:= [u]} c (vK [vs1 c])=af (uInt c.v.1.1&&uInt (Int.tmod c.v.1.2 7)) (vT [vs1 c]):=by kernel_rfl
theorem Tq (u v:Un) (p:Pr) (c:Cas):Rw {p with inp:= [u,v]} c (vK [vs1 c,vs2 c])=af (uInt c.v.1.1&&uInt (Int.tmod c.v.1.2 7)) (af (uInt c.v.2.1.1&&uInt (Int.tmod c.v.2.1.2 7)) (vT [vs1 c,vs2 c])):=by kernel_rfl
theorem Ts (u v w:Un) (p:Pr) (c:Cas):Rw {p with inp:= [u,v,w]} c (vK [vs1 c,vs2 c,vs3 c])=af (uInt c.v.1.1&&uInt (Int.tmod c.v.1.2 7)) (af (uInt c.v.2.1.1&&uInt (Int.tmod c.v.2.1.2 7)) (af (uInt c.v.2.2.1&&uInt (Int.tmod c.v.2.2.2 7)) (vT [vs1 c,vs2 c,vs3 c]))):=by kernel_rfl
def TJ (nx:Nat) (q:Pr):SV:= .agg (.val (.int .i64 q.id):: .slc nx 0 q.inp.length:: .slc (nx+1) 0 q.nod.length::ci q.out)
noncomputable def SQ:MCtr:=fun bl nx args=>match args with
 | [.agg [.val (.int .i64 a), .val (.int .i64 b), .val (.int .i64 c)], .val (.int .i64 k),s, .val (.bool ex)]=>match gy bl 4 s with
   |some (bb,_,n,g)=>some {X:=Unit,pre:=bb&&decide (n<=9223372036854775807)&&e4.good uz4 n g&&uInt a&&uInt b&&uInt c&&uInt k,spec:=fun _=>True,out:=fun _=>TJ nx (Bd (a,b,c) k (e4.list n g) ex),nw:=fun _=> [eU.own (Bd (a,b,c) k (e4.list n g) ex).inp,eN.own (Bd (a,b,c) k (e4.list n g) ex).nod],ex:=fun _=>⟨(),trivial⟩}
   |none=>none
 |_=>none
noncomputable def Q7 (v:(Int×Int)×(Int×Int)×(Int×Int)) (k:Nat):List RS:=Go.Sy.tab (fun j=>Yk.smallF (za (0,0) [(v.1.1,Int.tmod v.1.2 7),(v.2.1.1,Int.tmod v.2.1.2 7),(v.2.2.1,Int.tmod v.2.2.2 7)] j)) k
noncomputable def SR:MCtr:=fun bl nx args=>match args with
 | [s, .agg [.val (.int .i64 _), .val (.int .i64 _), .val (.int .i64 _), .val (.int .i64 _),t, .val (.bool _), .val (.int .i64 a), .val (.int .i64 b), .val (.int .i64 c), .val (.int .i64 d), .val (.int .i64 e), .val (.int .i64 f)]]=>match mC bl s,gy bl 4 t with
   |some p,some (bb,_,n,g)=>some {X:=Unit,pre:=p.need&&bb&&e4.good uz4 n g&&decide (1<=p.p.inp.length)&&decide (p.p.inp.length<=3)&&uInt a&&uInt b&&uInt c&&uInt d&&uInt e&&uInt f,spec:=fun _=>True,out:=fun _=> .slc nx 0 p.p.inp.length,nw:=fun _=> [eR.own (Q7 ((a,b),(c,d),(e,f)) p.p.inp.length)],ex:=fun _=>⟨(),trivial⟩}
   |_,_=>none
 |_=>none
noncomputable def SS:List (FuncId×MCtr):= [(23,SQ),(8,SR),(11,Ru),(10,C8),(15,O2),(9,zm),(26,pN),(6,xI)]
def ST (c:Cas):List Blk:= [e4.old c.x]
noncomputable def Rp (c:Cas) (ex:Bool):Pr:=Bd c.a c.k (e4.list c.x.length (e4.get c.x)) ex
noncomputable def Sl (c:Cas):Bool:=(Nat.ble c.x.length c.x.length&&Nat.beq 4 4&&true)&&decide (c.x.length<=9223372036854775807)&&e4.good uz4 c.x.length (e4.get c.x)&&uInt c.a.1&&uInt c.a.2.1&&uInt c.a.2.2&&uInt c.k
noncomputable def Sm (c:Cas) (p:Pr):Bool:=jn p&&(Nat.ble c.x.length c.x.length&&Nat.beq 4 4&&true)&&e4.good uz4 c.x.length (e4.get c.x)&&decide (1<=(dm p).inp.length)&&decide ((dm p).inp.length<=3)&&uInt c.v.1.1&&uInt c.v.1.2&&uInt c.v.2.1.1&&uInt c.v.2.1.2&&uInt c.v.2.2.1&&uInt c.v.2.2.2
noncomputable def SU (c:Cas) (p:Pr):List RS:=Q7 c.v (dm p).inp.length
noncomputable def Sn (c:Cas) (p:Pr):List RS:=eR.list (dm p).inp.length (eR.get (SU c p))
noncomputable def SW (c:Cas) (p q:Pr):Bool:=jn q&&(Nat.ble (dm p).inp.length (SU c p).length&&Nat.beq 2 2&&true)&&bW (dm p).inp.length&&eR.good uzR (dm p).inp.length (eR.get (SU c p))
def nd1 (b:Bool) (K:Prop):Prop:=af b (Unit->True->K)
def Um (r:DR):List SV:= [.val (.string r.1.1), .val (.string r.1.2), .val (.string r.2.1), .val (.string r.2.2)]
def Vc:List SV->DR
 | [.val (.string a), .val (.string b), .val (.string c), .val (.string d)]=>((a,b),(c,d))
 |_=>bd
def eDR:El DR:={sz:=4,sv:=Um,of:=Vc,d:=bd,rt:=fun _=>rfl,ids:=fun _=>rfl,len:=fun _=>rfl,one:=by decide}
abbrev DlX:=Int×List DR
abbrev DiX:=Int×DR×Bool
def UH (I:DlX->Prop) (J:Nd->List SV->DiX->Prop) (N:Int):FuncId->Nat->Option (AS->Ann):=fun f k=>bif Nat.beq f 12 then (
 bif Nat.beq k 3 then some (fun A=>{X:=DlX,inv:=I,tm:=fun x=> [(9, .val (.int .i64 x.1)),(8, .slc A.nx 0 x.2.length)],gr:= [{src:= .slot 8,sz:=4,n:=fun x=>x.2.length,get:=fun x=>eDR.get x.2}],cleanG:=fun g hg x e=>(by simp at hg;subst hg;exact eDR.ids _),mu:=fun x=>(N - x.1).toNat,keep:= [1,2,3,6]})
 else bif Nat.beq k 34 then some (fun A=>{X:=DiX,inv:=J (Vh (qv A 10 0)) (qv A 8 ((Vh (qv A 10 0)).l.toNat)),tm:=fun x=> [(25, .val (.int .i64 x.1)),(12, .val (.bool x.2.2))],st:= [(kA A 11,fun x=>Um x.2.1)],mu:=fun x=>(jH (Vh (qv A 10 0)).n - x.1).toNat,keep:= [1,2,3,6,8,9,10,11]})
 else none) else none
abbrev U5 (I:DlX->Prop) (J:Nd->List SV->DiX->Prop) (N:Int) (p:Pr) (ins:List RS) (input:Int) (Q:SV->Prop):Prop:=JL [] (UH I J N) 6 12 [kB p, .slc 2 0 ins.length,cI.enc input] [eU.old p.inp,eN.old p.nod,eR.old ins] (Go.Sy.okK fun r _ _ _=>Q r)
def sd:SV:= .tup [.agg (Um bd), .val (.bool false)]
def Vg (r:DR):SV:= .tup [.agg (Um r), .val (.bool true)]
def Ve (n:Nat) (K:Prop):Prop:=af (decide (0<1)&&decide (0+1<=1)&&decide (n<=n)&&decide ((n+1)*64<=140737488355328)&&true) K
def UQ (l:List DR) (v:DR):Nat->List SV:=ct (eDR.get l) (fun e=>((Um v).drop (e*4)).take 4) l.length 0
section
variable (I:DlX->Prop) (J:Nd->List SV->DiX->Prop) (N:Int) (ins:List RS) (input:Int)
def dlM (q:Nat) (p:Int) (n:Nat) (g:Nat->List SV) (z:DlX):Prop:=(TV.v (cI.enc p)=TV.v (cI.enc z.1)/\TV.v (.slc q 0 n)=TV.v (.slc q 0 z.2.length)/\tvE (.slc 2 0 ins.length)/\tvE (cI.enc input)/\cg 3/\cg 4/\True)/\(True/\(True/\(af (Nat.beq 4 4&&decide (z.2.length<=n)) (∀ e,e<z.2.length->g e=eDR.get z.2 e)/\True)))
def dlE (q:Nat) (z:DlX) (v:DR):Prop:=Ve z.2.length (af (inR .i64 (z.1+1)) (∃ z':DlX,I z'/\((N - z'.1).toNat<(N - z.1).toNat/\dlM ins input q (z.1+1) (z.2.length+1) (UQ z.2 v) z')))
def Vf (z:DlX) (k:Int) (y:DR) (f:Bool) (w:DiX):Prop:=(TV.v (cI.enc k)=TV.v (cI.enc w.1)/\TV.v (cB.enc f)=TV.v (cB.enc w.2.2)/\tvE (.slc 2 0 ins.length)/\tvE (cI.enc input)/\cg 3/\cg 4/\tvE (.slc 8 0 z.2.length)/\tvE (cI.enc z.1)/\cg 19/\cg 25/\True)/\(True/\((Um y=Um w.2.1/\True)/\True))
noncomputable def U6 (z:DlX) (x:Nd) (Q:SV->Prop):Prop:=
 ∃ w0:DiX,J (Vh (svN x)) (eDR.get z.2 x.l.toNat) w0/\(Vf ins input z 0 (bh 1,bh 0) true w0/\ ∀ w:DiX,J (Vh (svN x)) (eDR.get z.2 x.l.toNat) w->
  af (inR .i64 (-x.n)) (ag (bif decide (w.1<jH x.n) then w.2.2 else false)
   (eO z.2.length x.l (af (uzD w.2.1&&uzD (za bd z.2 (0+x.l.toNat))) (af (inR .i64 (w.1+1)) (∃ w':DiX,J (Vh (svN x)) (eDR.get z.2 x.l.toNat) w'/\((jH x.n - w'.1).toNat<(jH x.n - w.1).toNat/\Vf ins input z (w.1+1) (JE w.2.1 (za bd z.2 (0+x.l.toNat))).1 (JE w.2.1 (za bd z.2 (0+x.l.toNat))).2 w')))))
   (ag (bif decide (x.n<0) then w.2.2 else false) (af (uzD w.2.1) (ag (!(Nl w.2.1).2) (Q sd) (dlE I N ins input 76 z (Nl w.2.1).1))) (ag (!w.2.2) (Q sd) (dlE I N ins input 69 z w.2.1)))))
def UL (n:Nat) (x:Nd) (K:Prop):Prop:=eO n x.l (eO n x.r K)
noncomputable def UE (z:DlX) (x:Nd) (Q:SV->Prop):Prop:=
 let n:=z.2.length
 let a:=za bd z.2 (0+x.l.toNat)
 let b:=za bd z.2 (0+x.r.toNat)
 ag (x.op==2) (eO ins.length x.n (ag (x.n==input) (dlE I N ins input 51 z (za VI ins (0+x.n.toNat),bh 1)) (dlE I N ins input 48 z (za VI ins (0+x.n.toNat),bh 0))))
 (ag (x.op==3) (UL n x (af (uzR a.1&&uzR b.1) (UL n x (af (uzR a.2&&uzR b.2) (ag ((fZ a.1 b.1).2 !=0) (Q sd) (ag ((fZ a.2 b.2).2 !=0) (Q sd) (dlE I N ins input 123 z ((fZ a.1 b.1).1,(fZ a.2 b.2).1))))))))
 (ag (x.op==4) (UL n x (af (uzR a.1&&uzR b.1) (UL n x (af (uzR a.2&&uzR b.2) (ag ((iF a.1 b.1).2 !=0) (Q sd) (ag ((iF a.2 b.2).2 !=0) (Q sd) (dlE I N ins input 125 z ((iF a.1 b.1).1,(iF a.2 b.2).1))))))))
 (ag (x.op==5) (UL n x (af (uzD a&&uzD b) (ag (!(JE a b).2) (Q sd) (dlE I N ins input 59 z (JE a b).1))))
 (ag (x.op==6) (eO n x.r (af (uzD b) (eO n x.l (af (uzD a&&uzD (Nl b).1) (ag (!(bif (Nl b).2 then (JE a (Nl b).1).2 else false)) (Q sd) (dlE I N ins input 77 z (JE a (Nl b).1).1))))))
 (ag (x.op==7) (U6 I J N ins input z x Q)
 (ag (!(x.op==1)) (Q sd) (dlE I N ins input 51 z (x.v,bh 0))))))))
noncomputable def dlT (nod:List Nd) (Q:SV->Prop):Prop:=
 ∃ z0:DlX,I z0/\(((TV.v (cI.enc 0)=TV.v (cI.enc z0.1)/\TV.v (.val (.slice none 0 0))=TV.v (.val (.slice none z0.2.length 0))/\tvE (.slc 2 0 ins.length)/\tvE (cI.enc input)/\cg 3/\cg 4/\True)/\(True/\(True/\(z0.2.length=0/\True))))/\
  ∀ z:DlX,I z->ag (decide (z.1<(nod.length:Int))) (eO nod.length z.1 (UE I J N ins input z (za noN nod (0+z.1.toNat)) Q))
   (af (inR .i64 ((z.2.length:Int) - 1)) (eO z.2.length ((z.2.length:Int) - 1) (Q (Vg (za bd z.2 (0+((z.2.length:Int) - 1).toNat)))))))
end
theorem UY (I:DlX->Prop) (J:Nd->List SV->DiX->Prop) (N:Int) (p:Pr) (ins:List RS) (input:Int) (Q:SV->Prop):U5 I J N p ins input Q=dlT I J N ins input p.nod Q:=by kernel_rfl
noncomputable def tyF (inp us:List Un) (x:Nd):Un×Int:=match mn inp us x with
 |some u=>(u,0)
 |none=>(noU,90)
def tyB (p:Pr) (us:List Un):List Blk:= [eU.old p.inp,eN.old p.nod,eU.old us]
def tyA (p:Pr) (us:List Un) (x:Nd) (at_:Int):List SV:= [kB p, .agg (svN x),cI.enc at_, .slc 2 0 us.length]
abbrev Re (op:Int) (p:Pr) (us:List Un) (x:Nd) (at_:Int) (Q:SV->Prop):Prop:=JL [] (fun _ _=>none) 6 65 (tyA p us {x with op:=op} at_) (tyB p us) (Go.Sy.okK fun r _ _ _=>Q r)
def QS:SV:= .tup [.agg (ci noU), .val (.int .i64 90)]
def RA (u:Un):SV:= .tup [.agg (ci u), .val (.int .i64 0)]
def Ss (r:Un×Int) (Q:SV->Prop):Prop:=ag (r.2 !=0) (Q QS) (Q (RA r.1))
def wiB (n lo hi:Int):Bool:=bif decide (n≥lo) then decide (n<=hi) else false
def TM (x:Nd) (Q:SV->Prop):Prop:=af (uzR x.v) (af (aH x.u) (ag (!(bif (bif eqN {x with op:=1} {noN with op:=1,v:=x.v,u:=x.u} then rV x.v else false) then iy x.u else false)) (Q QS) (Q (RA x.u))))
def TN (p:Pr) (x:Nd) (Q:SV->Prop):Prop:=af (dC (eqN {x with op:=2} {noN with op:=2,n:=x.n}) (inR .i64 ((p.inp.length:Int) - 1))) (ag (eqN {x with op:=2} {noN with op:=2,n:=x.n})
 (ag (!wiB x.n 0 ((p.inp.length:Int) - 1)) (Q QS) (eO p.inp.length x.n (Q (RA (za noU p.inp (0+x.n.toNat)))))) (Q QS))
def SG (op:Int) (f:Un->Un->Un×Int) (us:List Un) (x:Nd) (a:Int) (Q:SV->Prop):Prop:=
 af (dC (eqN {x with op:=op} {noN with op:=op,l:=x.l,r:=x.r}) (inR .i64 (a - 1))) (ag (eqN {x with op:=op} {noN with op:=op,l:=x.l,r:=x.r})
  (af (dC (wiB x.l 0 (a - 1)) (inR .i64 (a - 1))) (ag (wiB x.l 0 (a - 1)) (ag (!wiB x.r 0 (a - 1)) (Q QS) (pL us x fun u v=>Ss (f u v) Q)) (Q QS)))
  (af (dC false (inR .i64 (a - 1))) (Q QS)))
def TO (us:List Un) (x:Nd) (a:Int) (Q:SV->Prop):Prop:=
 af (dC (eqN {x with op:=7} {noN with op:=7,n:=x.n,l:=x.l}) (inR .i64 (a - 1))) (ag (eqN {x with op:=7} {noN with op:=7,n:=x.n,l:=x.l})
  (ag (wiB x.l 0 (a - 1)) (ag (!(bif wiB x.n (-4) 4 then x.n !=0 else false)) (Q QS) (eO us.length x.l (eO us.length x.r (af (aH (za noU us (0+x.l.toNat))) (Ss (jm (za noU us (0+x.l.toNat)) (x.n,1)) Q))))) (Q QS)) (Q QS))
def TP (us:List Un) (x:Nd) (a:Int) (Q:SV->Prop):Prop:=
 af (dC (eqN {x with op:=8} {noN with op:=8,l:=x.l}) (inR .i64 (a - 1))) (ag (eqN {x with op:=8} {noN with op:=8,l:=x.l})
  (ag (!wiB x.l 0 (a - 1)) (Q QS) (eO us.length x.l (eO us.length x.r (af (aH (za noU us (0+x.l.toNat))) (Ss (jm (za noU us (0+x.l.toNat)) (1,2)) Q))))) (Q QS))
theorem TQ (p:Pr) (us:List Un) (x:Nd) (a:Int) (Q:SV->Prop):Re 1 p us x a Q=TM x Q:=by kernel_rfl
theorem TR (p:Pr) (us:List Un) (x:Nd) (a:Int) (Q:SV->Prop):Re 2 p us x a Q=TN p x Q:=by kernel_rfl
theorem TS (p:Pr) (us:List Un) (x:Nd) (a:Int) (Q:SV->Prop):Re 3 p us x a Q=SG 3 iS us x a Q:=by kernel_rfl
theorem TT (p:Pr) (us:List Un) (x:Nd) (a:Int) (Q:SV->Prop):Re 4 p us x a Q=SG 4 fw us x a Q:=by kernel_rfl
theorem TU (p:Pr) (us:List Un) (x:Nd) (a:Int) (Q:SV->Prop):Re 5 p us x a Q=SG 5 mi us x a Q:=by kernel_rfl
theorem TW (p:Pr) (us:List Un) (x:Nd) (a:Int) (Q:SV->Prop):Re 6 p us x a Q=SG 6 fd us x a Q:=by kernel_rfl
theorem TX (p:Pr) (us:List Un) (x:Nd) (a:Int) (Q:SV->Prop):Re 7 p us x a Q=TO us x a Q:=by kernel_rfl
theorem TY (p:Pr) (us:List Un) (x:Nd) (a:Int) (Q:SV->Prop):Re 8 p us x a Q=TP us x a Q:=by kernel_rfl
noncomputable def SZ:MCtr:=fun bl _ args=>match args with
 | [s, .agg cs, .val (.int .i64 at_),t]=>match mC bl s,gy bl 20 t with
   |some a,some (b,_,n,g)=>some {X:=Unit,pre:=a.need&&b&&bW n&&eU.good szB n g&&ndB cs&&szN (Vh cs)&&decide (at_=(n:Int))&&decide (1<=(Vh cs).op)&&decide ((Vh cs).op<=8),spec:=fun _=>True,out:=fun _=> .tup [.agg (ci (tyF a.p.inp (eU.list n g) (Vh cs)).1), .val (.int .i64 (tyF a.p.inp (eU.list n g) (Vh cs)).2)],ex:=fun _=>⟨(),trivial⟩}
   |_,_=>none
 |_=>none
theorem Wn {x y:Nd}:eqN x y=true↔x=y:=by
 obtain ⟨a1,a2,a3,a4,a5,a6⟩:=x;obtain ⟨b1,b2,b3,b4,b5,b6⟩:=y;simp only [eqN,za2,zdH,Wg,Wh,Nd.mk.injEq,and_true]
theorem Rf {a b c d:Nd} (h:a=b↔c=d):eqN a b=eqN c d:=by
 rw [zax,Wn,Wn];exact h
theorem Q4 {n:Nat} {i:Int}:wiB i 0 ((n:Int) - 1)=Go.Proofs.YtahblkeackebaaaGreatDoor.earF n i:=by
 rw [zax,V2];unfold wiB;by_cases h:i≥0
 ·rw [zdy h,zdA,zdC];omega
 ·rw [zdB h,zdz];simp;omega
theorem Q5 {a b:Bool} {K:Prop} (h:b=true) (k:K):af (dC a b) K:=ac (yd h) k
section
variable {inp us:List Un} {x:Nd} {Q:SV->Prop}
theorem tyQ (h:Q (.tup [.agg (ci (tyF inp us x).1), .val (.int .i64 (tyF inp us x).2)])):(mn inp us x=none->Q QS)/\(∀ u,mn inp us x=some u->Q (RA u)):=by
 unfold tyF at h;exact ⟨fun e=>by rw [e] at h;exact h,fun u e=>by rw [e] at h;exact h⟩
theorem QW (h:VT us.length x=false):mn inp us x=none:=by unfold mn;rw [h];rfl
theorem Q6 (h:VT us.length x=true):mn inp us x=bif (fL inp us x).2==0 then some (fL inp us x).1 else none:=by unfold mn;rw [h];rfl
theorem Rx {r:Un×Int} (hf:VT us.length x=true) (hu:fL inp us x=r) (hb:mn inp us x=none->Q QS) (ho: ∀ u,mn inp us x=some u->Q (RA u)):Ss r Q:=by
 have t:=Q6 (inp:=inp) hf;rw [hu] at t;refine ah (fun h=>hb ?_) (fun h=>ho _ ?_)
 ·rw [t,show (r.2==0)=false by simpa using h];rfl
 ·rw [t,show (r.2==0)=true by simpa using h];rfl
theorem TZ (o:x.op=1) (hx:szN x=true) (hb:mn inp us x=none->Q QS) (ho: ∀ u,mn inp us x=some u->Q (RA u)):TM x Q:=by
 unfold szN at hx;rw [za2] at hx;have hform:VT us.length x=eqN {x with op:=1} {noN with op:=1,v:=x.v,u:=x.u}:=by
  unfold VT;rw [o];exact Rf (by obtain ⟨a1,a2,a3,a4,a5,a6⟩:=x;simp [noN])
 have huni:fL inp us x=bif rV x.v&&VK x.u then (x.u,0) else (noU,90):=by unfold fL;rw [o];rfl
 unfold TM;rw [<- hform,jE];refine ac hx.1 (ac hx.2 (ah (fun h=>hb ?_) (fun h=>ho _ ?_)))
 ·cases f:VT us.length x with
  |false=>exact QW f
  |true=>
   rw [Q6 f,huni];rw [f] at h;cases a:rV x.v with
   |false=>rfl
   |true=>cases b:VK x.u with
    |false=>rfl
    |true=>rw [a,b] at h;cases h
 ·cases f:VT us.length x with
  |false=>rw [f] at h;cases h
  |true=>
   rw [Q6 f,huni];rw [f] at h;cases a:rV x.v with
   |false=>rw [a] at h;cases h
   |true=>cases b:VK x.u with
    |false=>rw [a,b] at h;cases h
    |true=>rfl
theorem T0 {p:Pr} (hp:p.inp=inp) (hl:inp.length<=1000000) (o:x.op=2) (hb:mn inp us x=none->Q QS) (ho: ∀ u,mn inp us x=some u->Q (RA u)):TN p x Q:=by
 subst hp;have hform:VT us.length x=eqN {x with op:=2} {noN with op:=2,n:=x.n}:=by
  unfold VT;rw [o];show eqN ⟨0,x.v,x.u,0,x.l,x.r⟩ noN=_;exact Rf (by obtain ⟨a1,a2,a3,a4,a5,a6⟩:=x;simp [noN])
 have huni:fL p.inp us x=bif decide (0<=x.n)&&decide (x.n<(p.inp.length:Int)) then (za noU p.inp x.n.toNat,0) else (noU,90):=by unfold fL;rw [o];rfl
 unfold TN;rw [<- hform];refine Q5 (VP.2 (by omega)) (ah (fun f=>ah (fun h=>hb ?_) (fun h=> ?_)) (fun f=>hb (QW f)))
 ·rw [Q6 f,huni];rw [Q4] at h;have:earF p.inp.length x.n=false:=by simpa using h
  rw [show (decide (0<=x.n)&&decide (x.n<(p.inp.length:Int)))=false from this];rfl
 ·rw [Q4] at h;have h':earF p.inp.length x.n=true:=by simpa using h
  have e:=V2.1 h';refine aY e.1 e.2 (ho _ ?_);rw [Q6 f,huni,show (decide (0<=x.n)&&decide (x.n<(p.inp.length:Int)))=true from h',za7];rfl
theorem RV {op a:Int} {f:Un->Un->Un×Int} (o:x.op=op) (hop:3<=op/\op<=6) (ha:a=(us.length:Int)) (hl:us.length<=1000000) (hu: ∀ u∈us,szB u=true) (huni:fL inp us x=f (za noU us x.l.toNat) (za noU us x.r.toNat)) (hb:mn inp us x=none->Q QS) (ho: ∀ u,mn inp us x=some u->Q (RA u)):SG op f us x a Q:=by
 subst ha;have hform:VT us.length x=(eqN {x with op:=op} {noN with op:=op,l:=x.l,r:=x.r}&&earF us.length x.l&&earF us.length x.r):=by
  unfold VT;rw [zdF (show x.op≠1 by omega),zdF (show x.op≠2 by omega),zdy (show 3<=x.op by omega),zdy (show x.op<=6 by omega)];show (eqN ⟨0,x.v,x.u,x.n,0,0⟩ noN&&_&&_)=_;rw [Rf (a:=⟨0,x.v,x.u,x.n,0,0⟩) (b:=noN) (c:={x with op:=op}) (d:={noN with op:=op,l:=x.l,r:=x.r}) (by obtain ⟨a1,a2,a3,a4,a5,a6⟩:=x;simp [noN])]
 unfold SG;rw [Q4,Q4];generalize eqN {x with op:=op} {noN with op:=op,l:=x.l,r:=x.r}=e at hform;have r:inR .i64 ((us.length:Int) - 1)=true:=VP.2 (by omega);refine Q5 r (ah (fun h1=>Q5 r (ah (fun h2=>ah (fun h3=>hb (QW ?_)) (fun h3=> ?_)) (fun h2=>hb (QW ?_)))) (fun h1=>Q5 r (hb (QW ?_))))
 ·rw [hform,show earF us.length x.r=false by simpa using h3,Bool.and_false]
 ·have h3:earF us.length x.r=true:=by simpa using h3
  have e2:=V2.1 h2;have e3:=V2.1 h3;unfold pL;rw [za7,za7];exact aY e2.1 e2.2 (aY e3.1 e3.2 (ac (by rw [eH hu,eH hu];rfl) (Rx (by rw [hform,h1,h2,h3];rfl) huni hb ho)))
 ·rw [hform,h2,Bool.and_false];rfl
 ·rw [hform,h1];rfl
theorem T3 {a:Int} (o:x.op=7) (ha:a=(us.length:Int)) (hl:us.length<=1000000) (hu: ∀ u∈us,szB u=true) (hb:mn inp us x=none->Q QS) (ho: ∀ u,mn inp us x=some u->Q (RA u)):TO us x a Q:=by
 subst ha;have hform:VT us.length x=(eqN {x with op:=7} {noN with op:=7,n:=x.n,l:=x.l}&&earF us.length x.l):=by
  unfold VT;rw [o];show (eqN ⟨0,x.v,x.u,0,0,x.r⟩ noN&&_)=_;rw [Rf (c:={x with op:=7}) (d:={noN with op:=7,n:=x.n,l:=x.l}) (by obtain ⟨a1,a2,a3,a4,a5,a6⟩:=x;simp [noN])]
 have huni:fL inp us x=(bif x.n==0||decide (x.n< -4)||decide (x.n>4) then (noU,90) else jm (za noU us x.l.toNat) (x.n,1)):=by unfold fL;rw [o];rfl
 unfold TO;rw [Q4];have hr:eqN {x with op:=7} {noN with op:=7,n:=x.n,l:=x.l}=true->x.r=0:=fun h=>by
  have:=Wn.1 h;exact congrArg Nd.r this
 generalize eqN {x with op:=7} {noN with op:=7,n:=x.n,l:=x.l}=e at hform hr;refine Q5 (VP.2 (by omega)) (ah (fun h1=>ah (fun h2=>ah (fun h3=>hb ?_) (fun h3=> ?_)) (fun h2=>hb (QW ?_))) (fun h1=>hb (QW ?_)))
 ·rw [Q6 (by rw [hform,h1,h2];rfl),huni];have:(x.n==0||decide (x.n< -4)||decide (x.n>4))=true:=by
   simp only [zav,zdC,zdH];apply Classical.byContradiction;intro hc;have:wiB x.n (-4) 4=true:=by unfold wiB;rw [zdy (by omega),zdA,zdy (by omega)]
   rw [this,zdA,show (x.n !=0)=true by simp;omega] at h3;cases h3
  rw [this];rfl
 ·have e2:=V2.1 h2;have hr:=hr h1;have hn:x.n≠0/\ -4<=x.n/\x.n<=4:=by
   unfold wiB at h3;by_cases a:x.n≥ -4
   ·by_cases b:x.n<=4
    ·rw [zdy a,zdA,zdy b,zdA] at h3;simp at h3;omega
    ·rw [zdy a,zdA,zdB b,zdz] at h3;cases h3
   ·rw [zdB a,zdz,zdz] at h3;cases h3
  rw [za7];refine aY e2.1 e2.2 (aY (by omega) (by omega) (ac (eH hu _) (Rx (by rw [hform,h1,h2];rfl) ?_ hb ho)));rw [huni,show (x.n==0||decide (x.n< -4)||decide (x.n>4))=false by simp;omega];rfl
 ·rw [hform,h2,Bool.and_false]
 ·rw [hform,h1];rfl
theorem T4 {a:Int} (o:x.op=8) (ha:a=(us.length:Int)) (hl:us.length<=1000000) (hu: ∀ u∈us,szB u=true) (hb:mn inp us x=none->Q QS) (ho: ∀ u,mn inp us x=some u->Q (RA u)):TP us x a Q:=by
 subst ha;have hform:VT us.length x=(eqN {x with op:=8} {noN with op:=8,l:=x.l}&&earF us.length x.l):=by
  unfold VT;rw [o];show (eqN ⟨0,x.v,x.u,x.n,0,x.r⟩ noN&&_)=_;rw [Rf (c:={x with op:=8}) (d:={noN with op:=8,l:=x.l}) (by obtain ⟨a1,a2,a3,a4,a5,a6⟩:=x;simp [noN])]
 have huni:fL inp us x=jm (za noU us x.l.toNat) (1,2):=by unfold fL;rw [o];rfl
 unfold TP;rw [Q4];have hr:eqN {x with op:=8} {noN with op:=8,l:=x.l}=true->x.r=0:=fun h=>by
  have:=Wn.1 h;exact congrArg Nd.r this
 generalize eqN {x with op:=8} {noN with op:=8,l:=x.l}=e at hform hr;refine Q5 (VP.2 (by omega)) (ah (fun h1=>ah (fun h2=>hb (QW ?_)) (fun h2=> ?_)) (fun h1=>hb (QW ?_)))
 ·rw [hform,show earF us.length x.l=false by simpa using h2,Bool.and_false]
 ·have h2:earF us.length x.l=true:=by simpa using h2
  have e2:=V2.1 h2;have hr:=hr h1;rw [za7];exact aY e2.1 e2.2 (aY (by omega) (by omega) (ac (eH hu _) (Rx (by rw [hform,h1,h2];rfl) huni hb ho)))
 ·rw [hform,h1];rfl
end
theorem Ue {C:RC} {src:List (Option Nat)} {Cs:List Blk} {nx:Nat} {gm:List (FuncId×MCtr)} {ann:FuncId->Nat->Option (AS->Ann)} {n:Nat} {f:FuncId} {args:List SV} {r:SV} (x:C.X) (hx:C.spec x) (h1:C.pan x=none) (h2:r.ids= []) (h3:C.out x=r) (h4:C.nw x= []) (h5:C.ch x= []) (h6: ∀ C∈Cs,cN C.kd=false) (hl:src.length=Cs.length)
 (h:JL gm ann n f args Cs (Go.Sy.okK fun s _ _ _=>s=r)):JL gm ann n f args Cs (KB C src Cs nx):=Q8 h fun q b m w hq=>by
 cases q with
 |pan v=>exact hq.elim
 |ok s=>
  obtain rfl:s=r:=hq;exact IG x hx h1 h2 h3 h4 h5 h6 hl
theorem T5 {p:Pr} {us:List Un} {x:Nd} {Q:SV->Prop} (hl:us.length<=1000000) (hi:p.inp.length<=1000000) (hu: ∀ u∈us,szB u=true) (hx:szN x=true) (hop:1<=x.op/\x.op<=8) (hQ:Q (.tup [.agg (ci (tyF p.inp us x).1), .val (.int .i64 (tyF p.inp us x).2)])):
 JL [] (fun _ _=>none) 6 65 (tyA p us x us.length) (tyB p us) (Go.Sy.okK fun r _ _ _=>Q r):=by
 obtain ⟨hb,ho⟩:=tyQ hQ;have E: ∀ {op:Int},x.op=op->Re op p us x us.length Q->JL [] (fun _ _=>none) 6 65 (tyA p us x us.length) (tyB p us) (Go.Sy.okK fun r _ _ _=>Q r):=fun {op} h k=>by
  rw [<- dW h];exact k
 rcases (show x.op=1\/x.op=2\/x.op=3\/x.op=4\/x.op=5\/x.op=6\/x.op=7\/x.op=8 by omega) with o|o|o|o|o|o|o|o
 ·exact E o (by rw [TQ];exact TZ o hx hb ho)
 ·exact E o (by rw [TR];exact T0 rfl hi o hb ho)
 ·exact E o (by rw [TS];exact RV o (by decide) rfl hl hu (by unfold fL;rw [o];rfl) hb ho)
 ·exact E o (by rw [TT];exact RV o (by decide) rfl hl hu (by unfold fL;rw [o];rfl) hb ho)
 ·exact E o (by rw [TU];exact RV o (by decide) rfl hl hu (by unfold fL;rw [o];rfl) hb ho)
 ·exact E o (by rw [TW];exact RV o (by decide) rfl hl hu (by unfold fL;rw [o];rfl) hb ho)
 ·exact E o (by rw [TX];exact T3 o rfl hl hu hb ho)
 ·exact E o (by rw [TY];exact T4 o rfl hl hu hb ho)
theorem S0: ∀ B:Base,GlobB B->VU Tryz.prog B 65 SZ:=Sh MOk.nil fun bl nx args C hk hp=>by
 unfold SZ at hk;split at hk
 ·rename_i s cs at_ t;split at hk
  ·rename_i a b o n g ha ht;simp only [za1] at hk;subst hk;simp only [za2,zdC] at hp;obtain ⟨⟨⟨⟨⟨⟨⟨⟨h0,rfl⟩,hn⟩,hg⟩,h1⟩,h2⟩,rfl⟩,h3⟩,h4⟩:=hp;obtain ⟨x,rfl⟩: ∃ x,cs=svN x:=⟨_,ua h1⟩;rw [fR] at h2 h3 h4;obtain ⟨s1,s2,s3,s4,s5,s6⟩:=eX (f:=rnF [a.o1,a.o2,o] [] nx) ha h0 rfl rfl;obtain ⟨t1,t2⟩:=cq (f:=rnF [a.o1,a.o2,o] [] nx) ht hg;have hlen:(eU.list n g).length=n:=El.list_length;have hle:(eU.list n g).length<=1000000:=by rw [hlen];exact zak hn
   have hold: ∀ C∈tyB a.p (eU.list n g),cN C.kd=false/\C.kd.map=false:=by simp [tyB,cN,El.old,BK.map]
   refine ⟨[a.o1,a.o2,o],tyB a.p (eU.list n g),tyA a.p (eU.list n g) x n,fun _ _=>none,6,aw s1 (aw s2 (aw t1 trivial)),bH (fun C hC=>(hold C hC).1),cd (fun C hC=>(hold C hC).2),ar s3 (ar (gv (rns_free (j4 x))) (ar rfl (ar (t2 2 rfl) rfl))), ?_⟩;refine Ue () trivial rfl (r:= .tup [.agg (ci (tyF a.p.inp (eU.list n g) x).1), .val (.int .i64 (tyF a.p.inp (eU.list n g) x).2)]) rfl rfl rfl rfl (fun C hC=>(hold C hC).1) (by rfl) ?_;have:=T5 (p:=a.p) (us:=eU.list n g) (x:=x) (Q:=fun r=>r= .tup [.agg (ci (tyF a.p.inp (eU.list n g) x).1), .val (.int .i64 (tyF a.p.inp (eU.list n g) x).2)]) hle s5 (El.good_list hg) h2 ⟨h3,h4⟩ rfl;rw [hlen] at this;exact this
  ·cases hk
 ·cases hk
noncomputable def TF:List (FuncId×MCtr):= [(65,SZ)]
abbrev M1:=Int×List Un
abbrev M3:=Int×List Nd×List Un
def St (I1:M1->Prop) (I2 I3:M3->Prop) (N:Int):FuncId->Nat->Option (AS->Ann):=fun f k=>bif Nat.beq f 23 then (
 bif Nat.beq k 3 then some (fun A=>{X:=M1,inv:=I1,tm:=fun x=> [(10, .val (.int .i64 x.1))],st:= [(kA A 9,fun x=>(qv A 9 0).take 1++(SV.slc A.nx 0 x.2.length::(qv A 9 0).drop 2))],gr:= [{src:= .cell (kA A 9) 0 1,sz:=20,n:=fun x=>x.2.length,get:=fun x=>eU.get x.2}],cleanG:=fun g hg x e=>(by simp at hg;subst hg;exact eU.ids _),mu:=fun x=>(4 - x.1).toNat,keep:= [1,2,3,4,8,9],sp:= [fun x=>(0,x.2),fun x=>(1,x.2),fun x=>(2,x.2),fun x=>(3,x.2)]})
 else bif Nat.beq k 8 then some (fun A=>{X:=M3,inv:=I2,tm:=fun x=> [(12, .val (.int .i64 x.1)),(11, .slc (A.nx+1) 0 x.2.2.length)],st:= [(kA A 9,fun x=>(qv A 9 0).take 2++(SV.slc A.nx 0 x.2.1.length::(qv A 9 0).drop 3))],gr:= [{src:= .cell (kA A 9) 0 2,sz:=26,n:=fun x=>x.2.1.length,get:=fun x=>eN.get x.2.1},{src:= .slot 11,sz:=20,n:=fun x=>x.2.2.length,get:=fun x=>eU.get x.2.2}],cleanG:=fun g hg x e=>(by simp at hg;rcases hg with rfl|rfl;exact eN.ids _;exact eU.ids _),mu:=fun x=>(4 - x.1).toNat,keep:= [1,2,3,4,8,9]})
 else bif Nat.beq k 13 then some (fun A=>{X:=M3,inv:=I3,tm:=fun x=> [(13, .val (.int .i64 x.1)),(11, .slc (A.nx+1) 0 x.2.2.length)],st:= [(kA A 9,fun x=>(qv A 9 0).take 2++(SV.slc A.nx 0 x.2.1.length::(qv A 9 0).drop 3))],gr:= [{src:= .cell (kA A 9) 0 2,sz:=26,n:=fun x=>x.2.1.length,get:=fun x=>eN.get x.2.1},{src:= .slot 11,sz:=20,n:=fun x=>x.2.2.length,get:=fun x=>eU.get x.2.2}],cleanG:=fun g hg x e=>(by simp at hg;rcases hg with rfl|rfl;exact eN.ids _;exact eU.ids _),mu:=fun x=>(N - x.1).toNat,keep:= [1,2,3,4,8,9]})
 else none) else none
def prS (K1:Nat->Nat->Blk->Nat->Nat->Blk->Int->List SV->Prop):Aft:=fun r bl _ _=>match r with
 | .ok (.agg (.val (.int .i64 id):: .slc i 0 n:: .slc j 0 m::rest))=>(match bl i,bl j with
   |some B,some C=>K1 i n B j m C id rest
   |_,_=>False)
 |_=>False
abbrev TG (I1:M1->Prop) (I2 I3:M3->Prop) (N:Int) (a:Int×Int×Int) (count:Int) (xs:List I4) (ex:Bool) (K1:Nat->Nat->Blk->Nat->Nat->Blk->Int->List SV->Prop):Prop:=
 JL TF (St I1 I2 I3 N) 6 23 [.agg [.val (.int .i64 a.1), .val (.int .i64 a.2.1), .val (.int .i64 a.2.2)],cI.enc count, .slc 0 0 xs.length,cB.enc ex] [e4.old xs] (prS K1)
section
variable (I1:M1->Prop) (I2 I3:M3->Prop) (N:Int) (a:Int×Int×Int) (count:Int) (xs:List I4) (ex:Bool)
def mdC (n0:Nat) (s:SV):List SV:= .val (.int .i64 (1+co count 900)):: .slc 10 0 n0::s::ci noU
def md1 (s:SV):List SV:= .val (.int .i64 (1+co count 900))::s:: .val (.slice none 0 0)::ci noU
def S4:Prop:=tvE (cI.enc count)/\tvE (.slc 0 0 xs.length)/\tvE (cB.enc ex)/\cg 1/\cg 2/\cg 7/\True
def Ua (q:Nat) (p:Int) (m:Nat) (g:Nat->List SV) (z:M1):Prop:=(TV.v (cI.enc p)=TV.v (cI.enc z.1)/\S4 count xs ex)/\(True/\((md1 count (.slc q 0 m)=md1 count (.slc q 0 z.2.length)/\True)/\(af (Nat.beq 20 20&&decide (z.2.length<=m)) (∀ e,e<z.2.length->g e=eU.get z.2 e)/\True)))
def So (n0 q1 q2:Nat) (p:Int) (m:Nat) (g:Nat->List SV) (k:Nat) (h:Nat->List SV) (z:M3):Prop:=(TV.v (cI.enc p)=TV.v (cI.enc z.1)/\TV.v (.slc q2 0 k)=TV.v (.slc q2 0 z.2.2.length)/\S4 count xs ex)/\(True/\((mdC count n0 (.slc q1 0 m)=mdC count n0 (.slc q1 0 z.2.1.length)/\True)/\
 (af (Nat.beq 26 26&&decide (z.2.1.length<=m)) (∀ e,e<z.2.1.length->g e=eN.get z.2.1 e)/\(af (Nat.beq 20 20&&decide (z.2.2.length<=k)) (∀ e,e<z.2.2.length->h e=eU.get z.2.2 e)/\True))))
noncomputable def S5 (inp:List Un) (nod:List Nd) (us:List Un) (x:Nd):Bool:=kp inp.length inp.length (eU.get inp) nod.length nod.length (eN.get nod) noU&&(Nat.ble us.length us.length&&Nat.beq 20 20&&true)&&bW us.length&&eU.good szB us.length (eU.get us)&&ndB (svN x)&&szN (Vh (svN x))&&decide ((nod.length:Int)=(us.length:Int))&&decide (1<=(Vh (svN x)).op)&&decide ((Vh (svN x)).op<=8)
noncomputable def Tu (inp us:List Un) (x:Nd):Un×Int:=tyF (eU.list inp.length (eU.get inp)) (eU.list us.length (eU.get us)) (Vh (svN x))
noncomputable def Rg (inp:List Un) (q1 q2:Nat) (z:M3) (x:Nd):Prop:=
 af (S5 inp z.2.1 z.2.2 x) (Unit->True->ag (bif (Tu inp z.2.2 x).2==0 then (bif !ex then true else x.op !=8) else false)
  (LY z.2.1.length (tO z.2.2.length (af (inR .i64 (z.1+1)) (∃ z':M3,I3 z'/\((N - z'.1).toNat<(N - z.1).toNat/\So count xs ex inp.length q1 q2 (z.1+1) (z.2.1.length+1) (zo z.2.1 x) (z.2.2.length+1) (Jz z.2.2 (Tu inp z.2.2 x).1) z')))))
  (af (inR .i64 (z.1+1)) (∃ z':M3,I3 z'/\((N - z'.1).toNat<(N - z.1).toNat/\So count xs ex inp.length 25 26 (z.1+1) z.2.1.length (eN.get z.2.1) z.2.2.length (eU.get z.2.2) z'))))
def pkB (y n:Int):Bool:=uInt y&&decide (0<n)
noncomputable def Sp (inp:List Un) (z:M3) (y:I4):Prop:=
 af (pkB y.1 8) (af (inR .i64 (1+co y.1 8)) (
 ag (1+co y.1 8==1) (af (pkB y.2.1 13) (af (inR .i64 (co y.2.1 13 - 6)) (af (pkB y.2.2.1 4) (af (inR .i64 (1+co y.2.2.1 4)) (af (uInt (co y.2.1 13 - 6)&&uInt (1+co y.2.2.1 4)) (af (uInt y.2.2.2)
  (Rg I3 N count xs ex inp 102 108 z ⟨opF y,(rMk (co y.2.1 13 - 6) (1+co y.2.2.1 4)).1,BL y.2.2.2,0,0,0⟩)))))))
 (ag (1+co y.1 8==2) (af (pkB y.2.1 inp.length) (Rg I3 N count xs ex inp 93 99 z ⟨opF y,VI,noU,co y.2.1 inp.length,0,0⟩))
 (ag (1+co y.1 8==7) (af (pkB y.2.1 z.2.1.length) (af (pkB y.2.2.1 5) (af (decide (0<=co y.2.2.1 5)&&decide (co y.2.2.1 5<((5:Nat):Int))) (af (decide (0+(co y.2.2.1 5).toNat<5)) (Rg I3 N count xs ex inp 101 107 z ⟨opF y,VI,noU,T9 (co y.2.2.1 5),co y.2.1 z.2.1.length,0⟩)))))
 (ag (1+co y.1 8==8) (af (pkB y.2.1 z.2.1.length) (Rg I3 N count xs ex inp 95 101 z ⟨opF y,VI,noU,0,co y.2.1 z.2.1.length,0⟩))
   (af (pkB y.2.1 z.2.1.length) (af (pkB y.2.2.1 z.2.1.length) (Rg I3 N count xs ex inp 101 107 z ⟨opF y,VI,noU,0,co y.2.1 z.2.1.length,co y.2.2.1 z.2.1.length⟩))))))))
noncomputable def Ub (K1:Nat->Nat->Blk->Nat->Nat->Blk->Int->List SV->Prop) (inp:List Un) (z0:M3):Prop:=
 ∃ z1:M3,I3 z1/\(So count xs ex inp.length 17 18 0 z0.2.1.length (eN.get z0.2.1) z0.2.2.length (eU.get z0.2.2) z1/\
  ∀ z:M3,I3 z->ag (bif decide (z.1<(xs.length:Int)) then decide ((z.2.1.length:Int)<14) else false)
   (eO xs.length z.1 (Sp I3 N count xs ex inp z (e4.nth xs (0+z.1.toNat))))
   (af (inR .i64 ((z.2.2.length:Int) - 1)) (eO z.2.2.length ((z.2.2.length:Int) - 1)
     (K1 10 inp.length {n:=inp.length,sz:=20,get:=eU.get inp,kd:= .own,nn:=false} 25 z.2.1.length {n:=z.2.1.length,sz:=26,get:=eN.get z.2.1,kd:= .own,nn:=false} (1+co count 900) (ci (za noU z.2.2 (0+((z.2.2.length:Int) - 1).toNat)))))))
noncomputable def T6 (K1:Nat->Nat->Blk->Nat->Nat->Blk->Int->List SV->Prop) (inp:List Un):Prop:=
 ∃ z0:M3,I2 z0/\(((TV.v (cI.enc 0)=TV.v (cI.enc z0.1)/\TV.v (.val (.slice none 0 0))=TV.v (.val (.slice none z0.2.2.length 0))/\S4 count xs ex)/\(True/\((mdC count inp.length (.val (.slice none 0 0))=mdC count inp.length (.val (.slice none z0.2.1.length 0))/\True)/\(z0.2.1.length=0/\(z0.2.2.length=0/\True)))))/\
  ∀ z:M3,I2 z->ag (decide (z.1<(inp.length:Int)))
   (LY z.2.1.length (eO inp.length z.1 (tO z.2.2.length (af (inR .i64 (z.1+1)) (∃ z':M3,I2 z'/\((4 - z'.1).toNat<(4 - z.1).toNat/\So count xs ex inp.length 29 39 (z.1+1) (z.2.1.length+1) (zo z.2.1 (nIn z.1)) (z.2.2.length+1) (Jz z.2.2 (za noU inp (0+z.1.toNat))) z'))))))
   (Ub I3 N count xs ex K1 inp z))
noncomputable def Tv (K1:Nat->Nat->Blk->Nat->Nat->Blk->Int->List SV->Prop) (j a0:Int) (x:M1):Prop:=
 af (pkB count 3) (ag (decide (j<=co count 3)) (af (uInt a0) (tO x.2.length (∃ x':M1,I1 x'/\((4 - x'.1).toNat<(4 - j).toNat/\Ua count xs ex 16 (j+1) (x.2.length+1) (Jz x.2 (BL a0)) x')))) (T6 I2 I3 N count xs ex K1 x.2))
noncomputable def mdT (K1:Nat->Nat->Blk->Nat->Nat->Blk->Int->List SV->Prop):Prop:=
 af (pkB count 900) (af (inR .i64 (1+co count 900)) (∃ x0:M1,I1 x0/\(((TV.v (cI.enc 0)=TV.v (cI.enc x0.1)/\S4 count xs ex)/\(True/\((md1 count (.val (.slice none 0 0))=md1 count (.val (.slice none x0.2.length 0))/\True)/\(x0.2.length=0/\True))))/\
  ((∀ x:M1,I1 x->(0,x.2)=x\/(1,x.2)=x\/(2,x.2)=x\/(3,x.2)=x\/False)/\((∀ x:M1,I1 (0,x.2)->Tv I1 I2 I3 N count xs ex K1 0 a.1 x)/\((∀ x:M1,I1 (1,x.2)->Tv I1 I2 I3 N count xs ex K1 1 a.2.1 x)/\((∀ x:M1,I1 (2,x.2)->Tv I1 I2 I3 N count xs ex K1 2 a.2.2 x)/\
    ((∀ x:M1,I1 (3,x.2)->af (pkB count 3) (ag (decide (3<=co count 3)) False (T6 I2 I3 N count xs ex K1 x.2)))/\True))))))))
end
theorem Tw (I1:M1->Prop) (I2 I3:M3->Prop) (N:Int) (a:Int×Int×Int) (count:Int) (xs:List I4) (ex:Bool) (K1:Nat->Nat->Blk->Nat->Nat->Blk->Int->List SV->Prop):TG I1 I2 I3 N a count xs ex K1=mdT I1 I2 I3 N a count xs ex K1:=by kernel_rfl
theorem S6:MOk TF:=MOk.nil.cons S0
theorem QU {y n:Int} {K:Prop} (hy:uInt y=true) (hn:0<n) (k:K):af (pkB y n) K:=ac (by unfold pkB;rw [hy,zdy hn];rfl) k
theorem Su (ni n:Int) (y:I4):(RR ni n y).op=opF y:=by
 have B: ∀ (b:Bool) (x z:Nd),x.op=opF y->z.op=opF y->(cond b x z).op=opF y:=fun b x z h k=>by cases b;exact k;exact h
 unfold RR;exact B _ _ _ rfl (B _ _ _ rfl (B _ _ _ rfl (B _ _ _ rfl rfl)))
theorem Tx (y:I4):1<=opF y/\opF y<=8:=by
 have:=gR y.1 (n:=8) (by decide);unfold opF;omega
theorem Sc {us:List Un} {u:Un} {z:List Un} (hz:z=us++ [u]):af (Nat.beq 20 20&&decide (z.length<=us.length+1)) (∀ e,e<z.length->Jz us u e=eU.get z e):=by
 subst hz;have hl:(us++ [u]).length=us.length+1:=by simp
 exact ac (by rw [hl,zdy (za0 _)];rfl) fun e he=>Fp (by omega)
theorem S7 {us:List Nd} {u:Nd} {z:List Nd} (hz:z=us++ [u]):af (Nat.beq 26 26&&decide (z.length<=us.length+1)) (∀ e,e<z.length->zo us u e=eN.get z e):=by
 subst hz;have hl:(us++ [u]).length=us.length+1:=by simp
 exact ac (by rw [hl,zdy (za0 _)];rfl) fun e he=>pO (by omega)
section
variable {I1:M1->Prop} {I2 I3:M3->Prop} {N:Int} {a:Int×Int×Int} {count:Int} {xs:List I4} {ex:Bool}
theorem Rh:S4 count xs ex:=⟨rfl,rfl,rfl,rfl,rfl,rfl,trivial⟩
theorem Ty {q:Nat} {p:Int} {us:List Un} {u:Un}:Ua count xs ex q p (us.length+1) (Jz us u) (p,us++ [u]):=
 ⟨⟨rfl,Rh⟩,trivial,⟨by simp,trivial⟩,Sc rfl,trivial⟩
theorem Sv {n0 q1 q2:Nat} {p:Int} {nod:List Nd} {us:List Un} {x:Nd} {u:Un}:So count xs ex n0 q1 q2 p (nod.length+1) (zo nod x) (us.length+1) (Jz us u) (p,nod++ [x],us++ [u]):=
 ⟨⟨rfl,by simp,Rh⟩,trivial,⟨by simp,trivial⟩,S7 rfl,Sc rfl,trivial⟩
theorem RL {n0 q1 q2:Nat} {p:Int} {nod:List Nd} {us:List Un}:So count xs ex n0 q1 q2 p nod.length (eN.get nod) us.length (eU.get us) (p,nod,us):=
 ⟨⟨rfl,rfl,Rh⟩,trivial,⟨rfl,trivial⟩,ac (by simp) (fun _ _=>rfl),ac (by simp) (fun _ _=>rfl),trivial⟩
theorem Tz {inp us:List Un} {x:Nd}:Tu inp us x=tyF inp us x:=by
 unfold Tu;rw [show eU.list inp.length (eU.get inp)=inp from El.list_get,show eU.list us.length (eU.get us)=us from El.list_get,fR]
theorem S8 {inp:List Un} {nod:List Nd} {us:List Un} {x:Nd} (h:MadOK inp (nod,us)) (hi: ∀ u∈inp,szB u=true) (hl:inp.length<=1000000) (hx:szN x=true) (ho:1<=x.op/\x.op<=8):S5 inp nod us x=true:=by
 have h1:us.length=nod.length:=h.len;have h2:nod.length<=14:=h.le;unfold S5 bW;rw [uf hl (show nod.length<=1000000 by omega) (El.good_get hi) (show eN.good szN nod.length (eN.get nod)=true from El.good_get h.szn) (by decide),zae (za0 _),zae (show us.length<=1000000 by omega),El.good_get h.szu,fR,hx,h1,zdy rfl,zdy ho.1,zdy ho.2];rfl
theorem S9 {inp:List Un} {q1 q2:Nat} {i:Int} {nod:List Nd} {us:List Un} {x:Nd} (h:MadOK inp (nod,us)) (hi: ∀ u∈inp,szB u=true) (hl:inp.length<=1000000) (hx:szN x=true) (ho:1<=x.op/\x.op<=8) (h0:0<=i) (h1:i<N) (hN:N<=9223372036854775807)
 (hS:I3 (i+1,match mn inp us x with
   |some u=>bif !ex||x.op !=8 then (nod++ [x],us++ [u]) else (nod,us)
   |none=>(nod,us))):Rg I3 N count xs ex inp q1 q2 (i,nod,us) x:=by
 have a1:us.length=nod.length:=h.len;have a2:nod.length<=14:=h.le;unfold Rg;rw [Tz];dsimp only;have no:(∃ z,z=(nod,us)/\I3 (i+1,z))->af (inR .i64 (i+1)) (∃ z':M3,I3 z'/\((N - z'.1).toNat<(N - i).toNat/\So count xs ex inp.length 25 26 (i+1) nod.length (eN.get nod) us.length (eU.get us) z')):=by
  rintro ⟨z,rfl,hz⟩;exact ac (VP.2 (by omega)) ⟨(i+1,nod,us),hz,by show (_:Nat)<_;dsimp only;omega,RL⟩
 refine ac (S8 h hi hl hx ho) fun _ _=>ah (fun hb=> ?_) (fun hb=>no ?_)
 ·cases ht:mn inp us x with
  |none=>
   unfold tyF at hb;rw [ht] at hb;cases hb
  |some u=>
   rw [ht] at hS;have e:tyF inp us x=(u,0):=by unfold tyF;rw [ht]
   rw [e] at hb ⊢;have hc:(!ex||x.op !=8)=true:=by rw [<- QN];exact hb
   rw [hc] at hS;exact xp (by omega) (fV (by omega) (ac (VP.2 (by omega)) ⟨(i+1,nod++ [x],us++ [u]),hS,by show (_:Nat)<_;dsimp only;omega,Sv⟩))
 ·cases ht:mn inp us x with
  |none=>rw [ht] at hS;exact ⟨_,rfl,hS⟩
  |some u=>
   rw [ht] at hS;have e:tyF inp us x=(u,0):=by unfold tyF;rw [ht]
   rw [e] at hb;have hc:(!ex||x.op !=8)=false:=by rw [<- QN];exact hb
   rw [hc] at hS;exact ⟨_,rfl,hS⟩
theorem SH {inp:List Un} {z:M3} {y:I4} (hy:uz4 y=true) (hi:1<=inp.length) (hz:1<=z.2.1.length) (h: ∀ q1 q2,Rg I3 N count xs ex inp q1 q2 z (RR inp.length z.2.1.length y)):Sp I3 N count xs ex inp z y:=by
 unfold uz4 at hy;simp only [za2] at hy;obtain ⟨⟨⟨y1,y2⟩,y3⟩,y4⟩:=hy;have b1:=gR y.1 (n:=8) (by decide);have b2:=gR y.2.1 (n:=13) (by decide);have b3:=gR y.2.2.1 (n:=4) (by decide);have b4:=gR y.2.2.1 (n:=5) (by decide);have E: ∀ {x:Nd} (q1 q2:Nat),RR inp.length z.2.1.length y=x->Rg I3 N count xs ex inp q1 q2 z x:=fun {x} q1 q2 e=>by rw [<- e];exact h q1 q2
 unfold RR opF at E;unfold Sp;refine QU y1 (by decide) (Fy (by omega) (ah (fun o1=> ?_) (fun o1=>ah (fun o2=> ?_) (fun o2=>ah (fun o7=> ?_) (fun o7=>ah (fun o8=> ?_) (fun o8=> ?_))))))
 ·refine QU y2 (by decide) (Fy (by omega) (QU y3 (by decide) (Fy (by omega) (ac (by rw [V4.2 (by omega),V4.2 (by omega)];rfl) (ac y4 (E _ _ ?_))))));rw [o1];rfl
 ·refine QU y2 (by omega) (E _ _ ?_);rw [o1,o2];rfl
 ·refine QU y2 (by omega) (QU y3 (by decide) (ac (by rw [zdy b4.1,zdy (show co y.2.2.1 5<((5:Nat):Int) from b4.2)];rfl) (ac (zdy (by omega)) (E _ _ ?_))));rw [o1,o2,o7];rfl
 ·refine QU y2 (by omega) (E _ _ ?_);rw [o1,o2,o7,o8];rfl
 ·refine QU y2 (by omega) (QU y3 (by omega) (E _ _ ?_));rw [o1,o2,o7,o8];rfl
end
def Ta (a:Int×Int×Int) (count:Int) (z:M1):Prop:=0<=z.1/\z.1<=co count 3+1/\z.2=QQ a z.1.toNat
def Tb (a:Int×Int×Int) (count:Int) (z:M3):Prop:=0<=z.1/\z.1<=co count 3+1/\z.2.1=R9 z.1.toNat/\z.2.2=QQ a z.1.toNat
def SI (a:Int×Int×Int) (count:Int) (xs:List I4) (ex:Bool) (z:M3):Prop:=0<=z.1/\z.1<=xs.length/\MadOK (QQ a ((co count 3).toNat+1)) z.2/\Rb a count xs ex=RT ex (QQ a ((co count 3).toNat+1)) (xs.drop z.1.toNat) z.2
def mdK (p:Pr) (i n:Nat) (B:Blk) (j m:Nat) (C:Blk) (id:Int) (rest:List SV):Prop:=i=10/\n=p.inp.length/\B=eU.own p.inp/\j=25/\m=p.nod.length/\C=eN.own p.nod/\id=p.id/\rest=ci p.out
theorem SJ {ex:Bool} {inp:List Un} {r:List I4} {z:List Nd×List Un} (h: ¬ z.1.length<14):RT ex inp r z=z:=by
 cases r with
 |nil=>rfl
 |cons y r=>unfold RT;rw [zdB h];rfl
theorem TA {a:Int×Int×Int} {count:Int} {xs:List I4} {ex:Bool} {z0:M3} (hx: ∀ y∈xs,uz4 y=true) (hn:xs.length<=9223372036854775807) (h1:z0.2.1=R9 ((co count 3).toNat+1)) (h2:z0.2.2=QQ a ((co count 3).toNat+1)):
 Ub (SI a count xs ex) xs.length count xs ex (mdK (Bd a count xs ex)) (QQ a ((co count 3).toNat+1)) z0:=by
 have hK:=Rc (count:=count);have hi:(QQ a ((co count 3).toNat+1)).length=(co count 3).toNat+1:=QR;refine ⟨(0,z0.2),⟨zat _,by show (0:Int)<=_;omega, ?_, ?_⟩,RL, ?_⟩
 ·show MadOK _ (z0.2.1,z0.2.2);rw [h1,h2];exact ⟨by rw [QR,QZ],by rw [QZ];exact hK.1,by rw [QZ];omega,Si (za0 _),RU,QT QY⟩
 ·show _=RT _ _ xs (z0.2.1,z0.2.2);rw [h1,h2];rfl
 rintro ⟨i,nod,us⟩ ⟨k0,k1,k2,k3⟩;dsimp only at k0 k1 k2 k3 ⊢;have ln:us.length=nod.length:=k2.len;have l1:1<=nod.length:=k2.pos;have l2:nod.length<=14:=k2.le;refine ah (fun hb=> ?_) (fun hb=> ?_)
 ·rw [QM,za2] at hb;have b1:=zdD hb.1;have b2:nod.length<14:=by have:=zdD hb.2;omega
  have hd:xs.drop i.toNat=za (0,0,0,0) xs i.toNat::xs.drop (i+1).toNat:=by
   rw [show (i+1).toNat=i.toNat+1 by omega,zaH (show i.toNat<xs.length by omega),bR (zaa _)]
  rw [hd,RT,zdy (show (nod,us).1.length<14 from b2),zdA] at k3;rw [za7];have hy:uz4 (za (0,0,0,0) xs i.toNat)=true:=hx _ (bw (by omega));refine aY k0 b1 (SH (y:=za (0,0,0,0) xs i.toNat) hy (by omega) l1 fun q1 q2=> ?_);refine S9 k2 (QT QY) (by omega) (Sr _ _ _) (by rw [Su];exact Tx _) k0 b1 (by omega) ?_;rw [Su];have st:=k2.step (ex:=ex) (y:=za (0,0,0,0) xs i.toNat) (QT QY) b2;exact ⟨by show 0<=i+1;omega,by show i+1<=_;omega,st,k3⟩
 ·have hz:Rb a count xs ex=(nod,us):=by
   rw [k3];rw [QM] at hb;by_cases c:i<xs.length
   ·rw [zdy c,zb7] at hb;have:=zdE hb;exact SJ (by show ¬ nod.length<14;omega)
   ·rw [show i.toNat=xs.length by omega,zbk];rfl
  refine ac (VP.2 (by omega)) (aY (by omega) (by omega) ⟨rfl,rfl,rfl,rfl, ?_, ?_,rfl, ?_⟩)
  ·show nod.length=(Rb a count xs ex).1.length;rw [hz]
  ·show _=eN.own (Rb a count xs ex).1;rw [hz];rfl
  ·show _=ci (ly (Rb a count xs ex).2);rw [hz,show 0+((us.length:Int) - 1).toNat=us.length - 1 by omega];rfl
theorem Sw {a:Int×Int×Int} {count:Int} {xs:List I4} {ex:Bool} {inp:List Un} (hx: ∀ y∈xs,uz4 y=true) (hn:xs.length<=9223372036854775807) (h:inp=QQ a ((co count 3).toNat+1)):
 T6 (Tb a count) (SI a count xs ex) xs.length count xs ex (mdK (Bd a count xs ex)) inp:=by
 subst h;have hK:=Rc (count:=count);have hp:=gR count (n:=3) (by decide);have hi:(QQ a ((co count 3).toNat+1)).length=(co count 3).toNat+1:=QR;refine ⟨(0, [], []),⟨zat _,by show (0:Int)<=_;omega,rfl,rfl⟩,⟨⟨rfl,rfl,Rh⟩,trivial,⟨rfl,trivial⟩,rfl,rfl,trivial⟩, ?_⟩;rintro ⟨i,nod,us⟩ ⟨k0,k1,k2,k3⟩;dsimp only at k0 k1 k2 k3 ⊢;refine ah (fun hb=> ?_) (fun hb=> ?_)
 ·have hb:=zdD hb;have l1:nod.length=i.toNat:=by rw [k2,QZ]
  have l2:us.length=i.toNat:=by rw [k3,QR]
  rw [za7];have e1:(i+1).toNat=i.toNat+1:=by omega
  refine xp (by omega) (aY k0 hb (fV (by omega) (ac (VP.2 (by omega)) ⟨(i+1,nod++ [nIn i],us++ [za noU (QQ a ((co count 3).toNat+1)) i.toNat]),⟨by show 0<=i+1;omega,by show i+1<=_;omega, ?_, ?_⟩,by show (_:Nat)<_;dsimp only;omega,Sv⟩)))
  ·show nod++ [nIn i]=R9 (i+1).toNat;rw [e1,k2];show _=R9 i.toNat++ [nIn (i.toNat:Nat)];rw [show ((i.toNat:Nat):Int)=i by omega]
  ·show us++ [_]=QQ a (i+1).toNat;rw [e1,k3];show _=QQ a i.toNat++ [BL (za 0 [a.1,a.2.1,a.2.2] i.toNat)];rw [show za noU (QQ a ((co count 3).toNat+1)) i.toNat=BL (za 0 [a.1,a.2.1,a.2.2] i.toNat) from bR (qX _ (by omega))]
 ·have hb:=zdE hb;have e:i.toNat=(co count 3).toNat+1:=by omega
  exact TA hx hn (by rw [<- e];exact k2) (by rw [<- e];exact k3)
theorem RW {a:Int×Int×Int} {count:Int} {xs:List I4} {ex:Bool} {j a0:Int} {x:M1} (hc:uInt count=true) (ha:uInt a0=true) (hx: ∀ y∈xs,uz4 y=true) (hn:xs.length<=9223372036854775807) (hj:0<=j/\j<=2) (he:za 0 [a.1,a.2.1,a.2.2] j.toNat=a0) (h:Ta a count (j,x.2)):
 Tv (Ta a count) (Tb a count) (SI a count xs ex) xs.length count xs ex (mdK (Bd a count xs ex)) j a0 x:=by
 obtain ⟨k0,k1,k2⟩:=h;dsimp only at k0 k1 k2;have l2:x.2.length=j.toNat:=by rw [k2,QR]
 refine QU hc (by decide) (ah (fun hb=> ?_) (fun hb=> ?_))
 ·have hb:=zdD hb;have e1:(j+1).toNat=j.toNat+1:=by omega
  refine ac ha (fV (by omega) ⟨(j+1,x.2++ [BL a0]),⟨by show 0<=j+1;omega,by show j+1<=_;omega, ?_⟩,by show (_:Nat)<_;dsimp only;omega,Ty⟩);show x.2++ [BL a0]=QQ a (j+1).toNat;rw [e1,k2];show _=QQ a j.toNat++ [BL (za 0 [a.1,a.2.1,a.2.2] j.toNat)];rw [he]
 ·have hb:=zdE hb;have hp:=gR count (n:=3) (by decide);exact Sw hx hn (by rw [k2];congr 1;omega)
theorem T7 {a:Int×Int×Int} {count:Int} {xs:List I4} {ex:Bool} (h0:uInt a.1=true) (h1:uInt a.2.1=true) (h2:uInt a.2.2=true) (hc:uInt count=true) (hx: ∀ y∈xs,uz4 y=true) (hn:xs.length<=9223372036854775807):
 mdT (Ta a count) (Tb a count) (SI a count xs ex) xs.length a count xs ex (mdK (Bd a count xs ex)):=by
 have hp:=gR count (n:=3) (by decide);have hq:=gR count (n:=900) (by decide);refine QU hc (by decide) (Fy (by omega) ⟨(0, []),⟨zat _,by show (0:Int)<=_;omega,rfl⟩,⟨⟨rfl,Rh⟩,trivial,⟨rfl,trivial⟩,rfl,trivial⟩, ?_,fun x hI=>RW hc h0 hx hn (by decide) rfl hI,fun x hI=>RW hc h1 hx hn (by decide) rfl hI,fun x hI=>RW hc h2 hx hn (by decide) rfl hI,fun x hI=> ?_,trivial⟩)
 ·rintro ⟨i,us⟩ ⟨k0,k1,_⟩;dsimp only at k0 k1;rcases (show i=0\/i=1\/i=2\/i=3 by omega) with rfl|rfl|rfl|rfl
  ·exact .inl rfl
  ·exact .inr (.inl rfl)
  ·exact .inr (.inr (.inl rfl))
  ·exact .inr (.inr (.inr (.inl rfl)))
 ·obtain ⟨_,k1,k2⟩:=hI;dsimp only at k1 k2;refine QU hc (by decide) (ah (fun hb=> ?_) (fun hb=>Sw hx hn (by rw [k2];congr 1;show (3:Int).toNat=_;omega)));have:=zdD hb;omega
theorem SK {K1:Nat->Nat->Blk->Nat->Nat->Blk->Int->List SV->Prop} {r:Res} {b:Nat->Option Blk} {m:Nat} {w:List Nat} (h:prS K1 r b m w): ∃ id i n j m B C rest,r= .ok (.agg (.val (.int .i64 id):: .slc i 0 n:: .slc j 0 m::rest))/\b i=some B/\b j=some C/\K1 i n B j m C id rest:=by
 unfold prS at h;split at h
 ·rename_i id i n j m rest;split at h
  ·rename_i B C hB hC;exact ⟨id,i,n,j,m,B,C,rest,rfl,hB,hC,h⟩
  ·exact h.elim
 ·exact h.elim
theorem Tc: ∀ B:Base,GlobB B->VU Tryz.prog B 23 SQ:=Sh S6 fun bl nx args C hk hp=>by
 unfold SQ at hk;split at hk
 ·rename_i a b c k s ex;split at hk
  ·rename_i bb o n g hs;simp only [za1] at hk;subst hk;simp only [za2,zdC] at hp;obtain ⟨⟨⟨⟨⟨⟨rfl,hn⟩,hg⟩,h0⟩,h1⟩,h2⟩,hc⟩:=hp;obtain ⟨t1,t2⟩:=cq (f:=rnF [o] [] nx) hs hg;have hlen:(e4.list n g).length=n:=El.list_length;have hold: ∀ C∈ [e4.old (e4.list n g)],cN C.kd=false/\C.kd.map=false:=by simp [cN,El.old,BK.map]
   have ml:=Sb (a:=(a,b,c)) (count:=k) (xs:=e4.list n g) (ex:=ex);refine ⟨[o], [e4.old (e4.list n g)], [.agg [.val (.int .i64 a), .val (.int .i64 b), .val (.int .i64 c)], .val (.int .i64 k), .slc 0 0 (e4.list n g).length, .val (.bool ex)],St (Ta (a,b,c) k) (Tb (a,b,c) k) (SI (a,b,c) k (e4.list n g) ex) (e4.list n g).length,6,aw t1 trivial,bH (fun C hC=>(hold C hC).1),cd (fun C hC=>(hold C hC).2),ar rfl (ar rfl (ar (t2 0 rfl) rfl)), ?_⟩;refine Q8 (K:=prS (mdK (Bd (a,b,c) k (e4.list n g) ex))) ?_ fun r bl' m w h=> ?_
   ·have:=Tw (Ta (a,b,c) k) (Tb (a,b,c) k) (SI (a,b,c) k (e4.list n g) ex) (e4.list n g).length (a,b,c) k (e4.list n g) ex (mdK (Bd (a,b,c) k (e4.list n g) ex));show TG _ _ _ _ (a,b,c) k (e4.list n g) ex _;rw [this];exact T7 h0 h1 h2 hc (El.good_list hg) (by omega)
   ·generalize Bd (a,b,c) k (e4.list n g) ex=p at h ml;obtain ⟨id,i,n',j,m',B,C,rest,rfl,hB,hC,rfl,rfl,rfl,rfl,rfl,rfl,rfl,rfl⟩:=SK h;have e:=rns_free (f:=dt [o] [some 10,some 25] nx) (fj p.out);have e0:dt [o] [some 10,some 25] nx nx=some (some 10):=cO;have e1:dt [o] [some 10,some 25] nx (nx+1)=some (some 25):=jA 1;refine ⟨(),trivial, [some 10,some 25],⟨_,rfl, ?_⟩,by simp [ck],⟨⟨by simp, ?_⟩,⟨by simp, ?_⟩,trivial⟩,cr (fun C hC=>(hold C hC).1) rfl _⟩
    ·show SV.rn (dt [o] [some 10,some 25] nx) (TJ nx p)=_;unfold TJ;exact gv (ar rfl (ar (by simp only [SV.rn,e0]) (ar (by simp only [SV.rn,e1]) e)))
    ·rw [hB];exact ⟨by simp [El.own],fun _=>⟨ml.1,eU.one⟩,gC rfl rfl (za0 _) fun _ _=>rfl⟩
    ·rw [hC];exact ⟨by simp [El.own],fun _=>⟨ml.2.2.1,eN.one⟩,gC rfl rfl (za0 _) fun _ _=>rfl⟩
  ·cases hk
 ·cases hk
end Go.Proofs.YtahblkeackebaaaGreatDoor
namespace Yk
open Go Go.RowKit Go.ChangeShapes Go.WideShapes
section
variable {H:Type} {enc:TypeId×Value->H} {P:Program} {w:World} {base b0:Nat} {spare:Nat->Bool} {held:Bool} {r:Reach} {v:Value} {d:DataW H} {ps:List MemPlace}
end
theorem wd {H:Type} {enc:TypeId×Value->H} {P:Program} (hl:laidOutB P=true) {W W':World} (hb:Below W.heap.size W W'): ∀ (ts:List TypeId) (vs:List Value) (ds:List (DataW H)) (p:List MemPlace),
 (∀ t∈ts,P.readableRec t=true/\t<P.types.size)->(∀ x∈p,x.block<W.heap.size)->DataW.TrodAll enc P W 0 (fun _=>true) true ts vs ds p->DataW.TrodAll enc P W' 0 (fun b=>decide (b<W.heap.size)) true ts vs ds p
 | [], [], [],_,_,_,h=>h
 |t::ts,v::vs,d::ds,_,hr,hp,h=>by
  obtain ⟨p,q,h1,h2,rfl⟩:=h;exact ⟨p,q,Below.trod hl (hr t (by simp)).1 (hr t (by simp)).2 h1 hb (fun x hx=>hp x (by simp [hx])),wd hl hb ts vs ds q (fun t ht=>hr t (by simp [ht])) (fun x hx=>hp x (by simp [hx])) h2,rfl⟩
 | [], [],_::_,_,_,_,h=>h.elim
 | [],_::_,_,_,_,_,h=>h.elim
 |_::_, [],_,_,_,_,h=>h.elim
 |_::_,_::_, [],_,_,_,h=>h.elim
inductive Leaf where
 |int (k:IntKind)
 |bool
 |str
def Leaf.ok:Leaf->Value->Prop
 | .int k,v=> ∃ z,v= .int k z/\k.min<=z/\z<=k.max
 | .bool,v=> ∃ b,v= .bool b
 | .str,v=> ∃ s:ByteArray,v= .string s/\s.size<=maxLen
def okL:List Leaf->List Value->Prop
 | [], []=>True
 |l::ls,v::vs=>l.ok v/\okL ls vs
 |_,_=>False
theorem Q9: ∀ {a b:List Leaf} {u v:List Value},okL a u->okL b v->okL (a++b) (u++v)
 | [],_, [],_,_,h=>h
 |_::_,_,_::_,_,h,k=>⟨h.1,Q9 h.2 k⟩
 | [],_,_::_,_,h,_=>h.elim
 |_::_,_, [],_,h,_=>h.elim
def Ri (P:Program) (g:TypeId->Option (List Leaf)):List Field->Nat->Option (List Leaf)
 | [],_=>some []
 |f::fs,off=>match g f.type with
  |some l=>if P.cellsOf f.type=l.length/\f.offset=off then (match Ri P g fs (off+l.length) with
   |some r=>some (l++r)
   |none=>none) else none
  |none=>none
def QV (P:Program):Nat->TypeId->Option (List Leaf)
 |0,_=>none
 |d+1,t=>match P.underlying t with
  |some .bool=>some [.bool]
  |some (.int k)=>some [.int k]
  |some .string=>some [.str]
  |some (.array n e)=>match QV P d e with
   |some l=>if P.cellsOf e=l.length/\P.cellsOf t=n*l.length then some (List.replicate n l).flatten else none
   |none=>none
  |some (.struct fs)=>match Ri P (QV P d) fs.toList 0 with
   |some l=>if P.cellsOf t=l.length then some l else none
   |none=>none
  |_=>none
section
variable {H:Type} {enc:TypeId×Value->H} {P:Program} {w:World} {base:Nat} {spare:Nat->Bool} {held:Bool}
theorem Sx {l:List Leaf}: ∀ (n:Nat) (cs:List Value),cs.length=n*l.length->(∀ i,i<n->okL l ((cs.drop (i*l.length)).take l.length))->okL (List.replicate n l).flatten cs
 |0,cs,hl,_=>by
  have:cs= []:=zau (by omega);subst this;trivial
 |n+1,cs,hl,h=>by
  rw [zcj,List.flatten_cons,<- zdu l.length cs];refine Q9 (by simpa using h 0 (by omega)) (Sx n _ (by rw [zbS,hl,zaG];omega) fun i hi=> ?_);have:=h (i+1) (by omega);rw [List.drop_drop];rwa [zaG,Nat.one_mul,zb4] at this
theorem Rj {g:TypeId->Option (List Leaf)} (hg: ∀ {fuel:Nat} {t:TypeId} {cs:List Value} {x:DataW H×List MemPlace} {l:List Leaf},g t=some l->DataW.trod enc P w base spare held fuel t cs=some x->okL l cs):
 ∀ {fs:List Field} {off:Nat} {cs:List Value} {l:List Leaf},Ri P g fs off=some l->off+l.length<=cs.length->
 (∀ f∈fs,∃ fuel x,DataW.trod enc P w base spare held fuel f.type ((cs.drop f.offset).take (P.cellsOf f.type))=some x)->okL l ((cs.drop off).take l.length)
 | [],off,cs,l,h,_,_=>by simp [Ri] at h;subst h;simp [okL]
 |f::fs,off,cs,l,h,hl,hf=>by
  rw [Ri] at h;split at h
  ·rename_i a ha;split at h
   ·rename_i hc;split at h
    ·rename_i r hr;cases h;simp only [za3] at hl ⊢;obtain ⟨fuel,x,h1⟩:=hf f (by simp);rw [hc.1,hc.2] at h1;have h2:=Rj hg hr (cs:=cs) (by omega) (fun g hg=>hf g (zan _ hg));rw [List.take_add,List.drop_drop];exact Q9 (hg ha h1) h2
    ·cases h
   ·cases h
  ·cases h
theorem FB: ∀ (d:Nat) {fuel:Nat} {t:TypeId} {cs:List Value} {x:DataW H×List MemPlace} {l:List Leaf},QV P d t=some l->DataW.trod enc P w base spare held fuel t cs=some x->okL l cs
 |0,_,_,_,_,_,h,_=>by simp [QV] at h
 |d+1,fuel,t,cs,x,l,h,hx=>by
  rw [QV] at h;split at h
  ·rename_i ht;obtain ⟨b,rfl,_⟩:=DataW.trod_bool ht hx;cases h;exact ⟨⟨b,rfl⟩,trivial⟩
  ·rename_i k ht;obtain ⟨z,rfl,_,hw⟩:=DataW.trod_int ht hx;cases h;simp only [Lit.wf,za2,zdC] at hw;exact ⟨⟨z,rfl,hw⟩,trivial⟩
  ·rename_i ht;obtain ⟨s,rfl,_,hs⟩:=DataW.trod_string ht hx;cases h;exact ⟨⟨s,rfl,hs⟩,trivial⟩
  ·rename_i n e ht;split at h
   ·rename_i le hle;split at h
    ·rename_i hc;cases h;obtain ⟨xs,m,_,_,hl,hn,hel⟩:=DataW.trod_array ht hx;rw [hc.2] at hl;rw [hc.1] at hel;refine Sx n cs hl fun i hi=> ?_;have:=hel i hi;rw [zaa (by omega)] at this;exact FB d hle this
    ·cases h
   ·cases h
  ·rename_i fs ht;split at h
   ·rename_i lf hlf;split at h
    ·rename_i hc;cases h;obtain ⟨xs,m,_,_,hl,hn,hel⟩:=DataW.trod_struct ht hx;rw [hc] at hl
     have:=Rj (g:=QV P d) (fun h1 h2=>FB d h1 h2) (fs:=fs.toList) (off:=0) (cs:=cs) hlf (by omega) (fun f hf=>by
      obtain ⟨i,hi,e⟩:=zbT hf;have h1:=hel i f (by rw [<- Array.getElem?_toList];rw [zaa hi,e]);rw [zaa (by simp at hi;omega)] at h1
      exact ⟨_,_,h1⟩)
     rwa [zb0,zaI (by omega)] at this
    ·cases h
   ·cases h
  ·cases h
end
theorem Rk {l:Leaf} {ls:List Leaf} {vs:List Value} (h:okL (l::ls) vs): ∃ v r,vs=v::r/\l.ok v/\okL ls r:=by
 match vs,h with
 |v::r,h=>exact ⟨v,r,rfl,h.1,h.2⟩
theorem TB {vs:List Value} (h:okL [] vs):vs= []:=by
 match vs,h with
 | [],_=>rfl
end Yk
namespace Yk
open Go Go.RowKit Go.ChangeShapes Go.WideShapes Go.Sy
section
variable {H:Type} {enc:TypeId×Value->H} {P:Program} {w:World} {base:Nat}
theorem u64 {z:Int} (h:IntKind.i64.min<=z/\z<=IntKind.i64.max):uInt z=true:=by
 exact Wl.2 h
theorem Sd {fuel:Nat} {e:TypeId} {a:Addr} {x:DataW H×List MemPlace} {spare:Nat->Bool} {held:Bool} (he:QV P 9 e=some [.int .i64, .int .i64, .int .i64, .int .i64]) (hs:a.spot=none) {i:Nat}
 (h:(w.cells? base (a.add (i*4)) 4).bind (DataW.trod enc P w base spare held fuel e)=some x): ∃ y:I4,uz4 y=true/\ ∀ o z,(RQ y)[o]? =some z->w.cell? ⟨a.block,a.off+i*4+o,none⟩=some (z.conc oj):=by
 rw [Option.bind_eq_some_iff] at h;obtain ⟨cs,hc,hx⟩:=h;obtain ⟨_,hl,hget⟩:=World.cells?_some hc;have hk:=FB 9 he hx;have ad: ∀ o,(a.add (i*4)).add o=⟨a.block,a.off+i*4+o,none⟩:=fun o=>by
  obtain ⟨b,f,s⟩:=a;obtain rfl:s=none:=hs;unfold Addr.add;split<;>split<;>simp_all<;>omega
 obtain ⟨_,_,rfl,⟨y0,rfl,b0⟩,h1⟩:=Rk hk;obtain ⟨_,_,rfl,⟨y1,rfl,b1⟩,h2⟩:=Rk h1;obtain ⟨_,_,rfl,⟨y2,rfl,b2⟩,h3⟩:=Rk h2;obtain ⟨_,_,rfl,⟨y3,rfl,b3⟩,h4⟩:=Rk h3;obtain rfl:=TB h4;refine ⟨(y0,y1,y2,y3),by unfold uz4;rw [u64 b0,u64 b1,u64 b2,u64 b3];rfl,fun o z hz=> ?_⟩;have ho:o<4:=by
  rcases zah o 4 with h|h
  ·exact h
  ·rw [zad (by show 4<=o;exact h)] at hz;cases hz
 rw [<- ad,hget o ho];rcases (show o=0\/o=1\/o=2\/o=3 by omega) with rfl|rfl|rfl|rfl<;>(simp [RQ] at hz;subst hz;rfl)
def Uc (P:Program) (t e:TypeId):Bool:=match P.cellTypes P.depth t with
 |some l=>l.length==12&&l[4]? ==some e
 |none=>false
theorem Td {r:Reach} {b0:Nat} {v:Value} {dd:DataW H} {ps:List MemPlace} {held:Bool} {t e:TypeId} {fs:Array Go.Field} {f0 f1 f2 f3 f4:Go.Field} (hu:P.underlying t=some (.struct fs)) (hfs:fs.toList= [f0,f1,f2,f3,f4]) (hc:P.cellsOf t=12)
 (h0:f0.offset=0/\P.cellsOf f0.type=3/\QV P 9 f0.type=some [.int .i64, .int .i64, .int .i64]) (h1:f1.offset=3/\P.cellsOf f1.type=1/\QV P 9 f1.type=some [.int .i64]) (h2:f2.offset=4/\P.cellsOf f2.type=1/\P.underlying f2.type=some (.slice e))
 (h3:f3.offset=5/\P.cellsOf f3.type=1/\QV P 9 f3.type=some [.bool]) (h4:f4.offset=6/\P.cellsOf f4.type=6/\QV P 9 f4.type=some [.int .i64, .int .i64, .int .i64, .int .i64, .int .i64, .int .i64])
 (he:P.cellsOf e=4/\QV P 9 e=some [.int .i64, .int .i64, .int .i64, .int .i64]) (ht:Uc P t f2.type=true)
 (hval:Value.okWide P w r b0 t v) (hd:DataW.Trod enc P w base (fun _=>true) held t v dd ps): ∃ (c:Cas) (L:Go.Sy.Loc),v=(Rs c c.x.length).conc (fun _=>L)/\c.ok=true/\BlkOK (fun _=>L) 0 (e4.old c.x) w/\c.x.length<=maxLen:=by
 simp only [Value.okWide,hu] at hval;obtain ⟨cs,rfl,hsz,ts,hts,_,hrow⟩:=hval;have ht4:ts.length=12/\ts[4]? =some f2.type:=by
  unfold Uc at ht;rw [hts] at ht;simpa using ht
 obtain ⟨fuel,hf⟩:=hd;obtain ⟨xs,m,_,_,hl,hn,hel⟩:=DataW.trod_struct hu hf;have hL:cs.toList.length=12:=by rw [Array.length_toList,hsz,hc]
 have fld: ∀ (i:Nat) (f:Go.Field),fs.toList[i]? =some f-> ∃ x,DataW.trod enc P w base (fun _=>true) held m f.type ((cs.toList.drop f.offset).take (P.cellsOf f.type))=some x:=fun i f hi=>by
  have h1:=hel i f (by rw [<- Array.getElem?_toList];exact hi);have hlt:i<fs.toList.length:=(zaV.1 hi).1;rw [zaa (by simp at hlt;omega)] at h1;exact ⟨_,h1⟩
 rw [hfs] at fld;obtain ⟨cs⟩:=cs;dsimp only at hL fld hrow ⊢
 match cs,hL with
 | [c0,c1,c2,c3,c4,c5,c6,c7,c8,c9,ca,cb],_=>
 obtain ⟨x0,k0⟩:=fld 0 f0 rfl;obtain ⟨x1,k1⟩:=fld 1 f1 rfl;obtain ⟨x2,k2⟩:=fld 2 f2 rfl;obtain ⟨x3,k3⟩:=fld 3 f3 rfl;obtain ⟨x4,k4⟩:=fld 4 f4 rfl;rw [h0.1,h0.2.1] at k0;rw [h1.1,h1.2.1] at k1;rw [h2.1,h2.2.1] at k2;rw [h3.1,h3.2.1] at k3;rw [h4.1,h4.2.1] at k4;obtain ⟨⟨a0,rfl,b0⟩,⟨a1,rfl,b1⟩,⟨a2,rfl,b2⟩,_⟩:=FB 9 h0.2.2 k0;obtain ⟨⟨a3,rfl,b3⟩,_⟩:=FB 9 h1.2.2 k1;obtain ⟨⟨a5,rfl⟩,_⟩:=FB 9 h3.2.2 k3;obtain ⟨⟨a6,rfl,b6⟩,⟨a7,rfl,b7⟩,⟨a8,rfl,b8⟩,⟨a9,rfl,b9⟩,⟨aa,rfl,ba⟩,⟨ab,rfl,bb⟩,_⟩:=FB 9 h4.2.2 k4;have hcell:=hrow 4 c4 rfl;obtain ⟨u,hu',hok⟩:=hcell;rw [ht4.1,ht4.2] at hu';simp only [za1] at hu';subst hu';rcases DataW.trod_slice h2.2.2 k2 with ⟨hs,_⟩|⟨a,len,cap,elems,rest,n,_,hs,_,_,hle,hcap,hlen,hget,hsp,_⟩
 ·simp only [List.drop_succ_cons,zb0,List.take_succ_cons,zbw,zcd,and_true] at hs;subst hs;refine ⟨⟨(a0,a1,a2),a3, [],a5,((a6,a7),(a8,a9),(aa,ab))⟩,⟨0,0,4,0,true⟩,rfl, ?_, ?_,zaA _⟩
  ·unfold Cas.ok;rw [u64 b0,u64 b1,u64 b2,u64 b3,u64 b6,u64 b7,u64 b8,u64 b9,u64 ba,u64 bb];rfl
  ·exact ⟨rfl,fun h=>(by cases h),za0 _,fun e he=>absurd he (zbo e),fun j hj=>(by simp at hj),fun h=>(by cases h),fun e he=>absurd he (zbo e),fun _=>rfl,fun h=>(by cases h)⟩
 ·simp only [List.drop_succ_cons,zb0,List.take_succ_cons,zbw,zcd,and_true] at hs;subst hs;have hb:a.spot=none/\a.block<w.heap.size:=by
   unfold Cell.okWide at hok;simp only [h2.2.2] at hok;unfold Cell.ok at hok;simp only [h2.2.2] at hok;obtain ⟨_,_,_,hsp,row,cells,hsh,_⟩:=hok;refine ⟨hsp, ?_⟩;unfold World.shape? at hsh;rcases zah a.block w.heap.size with h|h
   ·exact h
   ·rw [zcK h] at hsh;cases hsh
  obtain ⟨hrl,hrest⟩:=hsp rfl;rw [he.1] at hget hrest;have each: ∀ i,∃ y:I4,i<cap->uz4 y=true/\ ∀ o z,(RQ y)[o]? =some z->w.cell? ⟨a.block,a.off+i*4+o,none⟩=some (z.conc oj):=fun i=>by
   by_cases hi:i<cap
   ·by_cases hi':i<len
    ·have:=hget i hi';rw [zaa (by omega)] at this;obtain ⟨y,h⟩:=Sd he.2 hb.1 this;exact ⟨y,fun _=>h⟩
    ·have:=hrest (i - len) (by omega);rw [show len+(i - len)=i by omega,zaa (by omega)] at this;obtain ⟨y,h⟩:=Sd he.2 hb.1 this;exact ⟨y,fun _=>h⟩
   ·exact ⟨(0,0,0,0),fun h=>absurd h hi⟩
  obtain ⟨g,hg⟩:=Classical.axiomOfChoice each;have hlx:(Go.Sy.tab g len).length=len:=fJ _ _;refine ⟨⟨(a0,a1,a2),a3,Go.Sy.tab g len,a5,((a6,a7),(a8,a9),(aa,ab))⟩,⟨a.block,a.off,4,cap,false⟩, ?_, ?_, ?_, ?_⟩
  ·have:SV.conc (fun _=>(⟨a.block,a.off,4,cap,false⟩:Go.Sy.Loc)) (.slc 0 0 (Go.Sy.tab g len).length)= .slice (some a) len cap:=by
    rw [jq rfl (.inr rfl),hlx];obtain ⟨b,f,s⟩:=a;obtain rfl:s=none:=hb.1;simp [addr]
   unfold Rs;simp only [SV.conc,SV.concs] at this ⊢;rw [this]
  ·unfold Cas.ok
   rw [u64 b0,u64 b1,u64 b2,u64 b3,u64 b6,u64 b7,u64 b8,u64 b9,u64 ba,u64 bb,show (Go.Sy.tab g len).all uz4=true from zaf.2 fun y hy=>by
    obtain ⟨i,hi⟩:=zbA hy;have hlt:i<len:=by have:=(zaV.1 hi).1;omega
    rw [qX _ hlt] at hi;simp only [za1] at hi;subst hi
    exact (hg i (by omega)).1];rfl
  ·refine ⟨rfl,fun _=>hb.2,by show (Go.Sy.tab g len).length<=cap;omega,fun e he=>rfl,fun j hj=> ?_,fun h=>(by cases h),fun e he o s ho=> ?_,fun h=>(by cases h),fun _=>rfl⟩
   ·have hj:j<cap*4:=hj;have:=(hg (j / 4) (by omega)).2 (j%4);show (w.cell? ⟨a.block,a.off+j,none⟩).isSome=true;rw [show a.off+j=a.off+j / 4*4+j%4 by omega];have hlt:j%4<(RQ (g (j / 4))).length:=by show j%4<4;omega
    rw [this _ (zaa hlt)];rfl
   ·have he':e<len:=by rw [<- hlx];exact he
    have e1:e4.get (Go.Sy.tab g len) e=RQ (g e):=by
     unfold El.get El.nth;rw [bR (qX g he')];rfl
    have ho':(RQ (g e))[o]? =some s:=by rw [<- e1];exact ho
    have:=(hg e (by omega)).2 o s ho';show w.cell? ⟨a.block,a.off+e*4+o,none⟩=_;rw [this];have:s.ids= []:=by
     have hm:s∈RQ (g e):=zal ho';simp only [RQ,zai,zby,or_false] at hm;rcases hm with rfl|rfl|rfl|rfl<;>rfl
    rw [SV.conc_congr s (β:=oj) (β':=fun _=>(⟨a.block,a.off,4,cap,false⟩:Go.Sy.Loc)) (fun i h=>by rw [this] at h;cases h)]
  ·show (Go.Sy.tab g len).length<=maxLen;omega
end
theorem TC {w:World} {L:Go.Sy.Loc} {B:Go.Sy.Blk} (h:BlkOK (fun _=>L) 0 B w) (hk:B.kd= .old) (hc: ∀ e,e<B.n->SV.idss (B.get e)= []):BC w (fun i=> [B][i]?) (fun _=>L) w:=by
 have one: ∀ {id:Nat} {C:Go.Sy.Blk}, [B][id]? =some C->id=0/\C=B:=fun {id C} h=>by
  cases id with
  |zero=>simp at h;exact ⟨rfl,h.symm⟩
  |succ n=>simp at h
 refine ⟨Pres.refl _,fun id C hC _=> ?_,fun id C hC ho=> ?_,fun id C hC _ hn=> ?_,fun id id' C C' hC hC' _ _ _ _ _=> ?_,fun id C e o s hC _ he hs=> ?_,⟨fun id C hC hm=> ?_,fun id id' C C' hC hC' hm=> ?_,fun id C e s hC hm=> ?_,fun id C hC hm=> ?_⟩⟩
 ·obtain ⟨rfl,rfl⟩:=one hC;exact h
 ·obtain ⟨rfl,rfl⟩:=one hC;rw [hk] at ho;cases ho
 ·obtain ⟨rfl,rfl⟩:=one hC;intro hm;have:=h.lt hn;rcases hm with hm|hm
  ·exact absurd this (Nat.not_lt.2 hm)
  ·cases hm
 ·rw [(one hC).1,(one hC').1]
 ·obtain ⟨rfl,rfl⟩:=one hC;intro i hi;have:i∈SV.idss (C.get e):=SV.mem_idss.2 ⟨s,zal hs,hi⟩;rw [hc e he] at this;cases this
 all_goals obtain ⟨rfl,rfl⟩:=one hC;rw [hk] at hm;cases hm
end Yk
namespace Go.Proofs.YtahblkeackebaaaGreatDoor
open Go Go.RowKit Go.Sy Yk
theorem T8 {gm:List (FuncId×MCtr)} (hm:MOk gm) {W:World} (hg:GlobU W) {ann:FuncId->Nat->Option (AS->Ann)} {n:Nat} {F:FuncId} {c:Cas} {rest:List SV} {L:Go.Sy.Loc} (hB:BlkOK (fun _=>L) 0 (e4.old c.x) W) (hr:SV.idss rest= []) (h:JL gm ann n F (Rs c c.x.length::rest) (ST c) (Go.Sy.okK fun r _ _ _=>r=cB.enc true)):
 Calls Tryz.prog F (SV.concs (fun _=>L) (Rs c c.x.length::rest)).toArray W fun e w'=>e= .returned (.bool true)/\Below W.heap.size W w':=by
 have hbc:BC W (fun i=>(ST c)[i]?) (fun _=>L) W:=TC hB rfl (fun e he=>e4.ids _);unfold JL at h
 obtain ⟨_,hc⟩:=sU (Qy hm (GlobB.of hg)) ann n F (Rs c c.x.length::rest) (fun i=>(ST c)[i]?) (ST c).length [] _ (fun _=>L) W h hbc (fun i hi=>zad hi) (fun s hs i hi=>by
  rcases zai.1 hs with rfl|hs
  ·have:i=0:=by simpa [Rs,SV.ids,SV.idss] using hi
   subst this;intro e;cases e
  ·have:i∈SV.idss rest:=SV.mem_idss.2 ⟨s,hs,hi⟩
   rw [hr] at this;cases this)
 refine Calls.mono hc ?_;rintro e w' ⟨β',s,bl',nx',wl',he,hk,hbc,_⟩;cases s with
 |pan v=>exact hk.elim
 |ok s=>
 obtain rfl:e=_:=he;obtain rfl:s=_:=hk;exact ⟨rfl,hbc.below.below⟩
theorem Se {g:Nat->List SV}: ∀ {l:List RS} {e:Nat},TI g l e-> ∀ j,j<l.length->g (e+j)=gA (za VI l j)
 | [],_,_,j,hj=>absurd hj (zbo j)
 |r::t,e,⟨h1,h2⟩,0,_=>h1
 |r::t,e,⟨h1,h2⟩,j+1,hj=>by
  have:=Se h2 j (by simpa using hj);rw [show e+(j+1)=e+1+j by omega];exact this
theorem Rq (x:Int):uInt (Int.tmod x 7)=true:=by
 have h:=Int.natAbs_tmod x 7;have hl:x.natAbs%7<7:=zar _ (by decide);have h7:(7:Int).natAbs=7:=rfl;rw [h7] at h;exact V4.2 (by omega)
theorem Te {v:(Int×Int)×(Int×Int)×(Int×Int)}: ∀ {k:Nat},∀ r∈Q7 v k,uzR r=true
 |0,r,h=>by cases h
 |k+1,r,h=>by
  rcases za8.1 h with h|h
  ·exact Te r h
  ·rw [zaj.1 h];exact gu _ _
theorem RX {v:(Int×Int)×(Int×Int)×(Int×Int)} {k:Nat}:(Q7 v k).length=k:=fJ _ _
theorem Tf {p:Pr} {c:Cas} (h1:1<=p.inp.length) (h3:p.inp.length<=3) (u1:uInt c.v.1.1=true) (u2:uInt c.v.2.1.1=true) (u3:uInt c.v.2.2.1=true):Rw p c (vK (Q7 c.v p.inp.length)):=by
 have P: ∀ l,p.inp=l->p={p with inp:=l}:=fun l h=>by rw [<- h]
 match hi:p.inp with
 | []=>rw [hi] at h1;exact absurd h1 (by decide)
 | [u]=>
   rw [P _ hi];show Rw {p with inp:= [u]} c (vK [vs1 c]);rw [Tp];exact ac (by rw [u1,Rq];rfl) ⟨rfl,rfl,rfl,rfl,rfl,rfl,trivial⟩
 | [u,v]=>
   rw [P _ hi];show Rw {p with inp:= [u,v]} c (vK [vs1 c,vs2 c]);rw [Tq];exact ac (by rw [u1,Rq];rfl) (ac (by rw [u2,Rq];rfl) ⟨rfl,rfl,rfl,rfl,rfl,rfl,rfl,trivial⟩)
 | [u,v,w]=>
   rw [P _ hi];show Rw {p with inp:= [u,v,w]} c (vK [vs1 c,vs2 c,vs3 c]);rw [Ts];exact ac (by rw [u1,Rq];rfl) (ac (by rw [u2,Rq];rfl) (ac (by rw [u3,Rq];rfl) ⟨rfl,rfl,rfl,rfl,rfl,rfl,rfl,rfl,trivial⟩))
 |_::_::_::_::_=>rw [hi] at h3;simp at h3
theorem Tg: ∀ B:Base,GlobB B->VU Tryz.prog B 8 SR:=Sh MOk.nil fun bl nx args C hk hp=>by
 unfold SR at hk;split at hk
 ·rename_i s i0 i1 i2 i3 t ex v0 v1 v2 v3 v4 v5;split at hk
  ·rename_i p bb o n g hs ht;simp only [za1] at hk;subst hk;simp only [za2,zdC] at hp;obtain ⟨⟨⟨⟨⟨⟨⟨⟨⟨⟨h0,rfl⟩,hg⟩,h1⟩,h3⟩,u1⟩,_⟩,u2⟩,_⟩,u3⟩,_⟩:=hp;obtain ⟨s1,s2,s3,s4,s5,s6⟩:=eX (f:=rnF [p.o1,p.o2,o] [] nx) hs h0 rfl rfl;obtain ⟨t1,t2⟩:=cq (f:=rnF [p.o1,p.o2,o] [] nx) ht hg;have hlen:(e4.list n g).length=n:=El.list_length
   let c:Cas:=⟨(i0,i1,i2),i3,e4.list n g,ex,((v0,v1),(v2,v3),(v4,v5))⟩
   have hold: ∀ C∈To p.p c,cN C.kd=false/\C.kd.map=false:=by simp [To,cN,El.old,BK.map]
   refine ⟨[p.o1,p.o2,o],To p.p c, [kB p.p,SP 2 c c.x.length],fun _ _=>none,4,aw s1 (aw s2 (aw t1 trivial)),bH (fun C hC=>(hold C hC).1),cd (fun C hC=>(hold C hC).2),ar s3 (ar (gv (ar rfl (ar rfl (ar rfl (ar rfl (ar (t2 2 rfl) rfl)))))) rfl), ?_⟩;refine Q8 (K:=xo (vK (Q7 c.v p.p.inp.length))) (Tf (c:=c) h1 h3 u1 u2 u3) fun r bl' m w h=> ?_;obtain ⟨i,n',B,rfl,hB,e1,e2,e3,e4',e5,e6⟩:=tT h;have hl:(Q7 c.v p.p.inp.length).length=p.p.inp.length:=RX;rw [hl] at e1;subst e1;have e5:=zak e5;refine ⟨(),trivial, [some i],⟨_,rfl, ?_⟩,by simp [ck],⟨⟨by show 3<=i;exact e5, ?_⟩,trivial⟩,cr (fun C hC=>(hold C hC).1) (by rfl) _⟩
   ·have e0:dt [p.o1,p.o2,o] [some i] nx nx=some (some i):=cO;simp only [SV.rn,e0]
   ·rw [hB];refine ⟨by simp [El.own],fun _=>⟨by show 1<=(Q7 c.v p.p.inp.length).length;omega,eR.one⟩,gC e4' e3 (Nat.le_of_eq e2.symm) fun e he=> ?_⟩;have:=Se e6 e he;rw [za7] at this;exact this
  ·cases hk
 ·cases hk
theorem Th:MOk SS:=(((((((MOk.nil.cons BI).cons lZ).cons tP).cons Mj).cons zC).cons Rn).cons Tg).cons Tc
theorem Uj {α:Type} {d:α}: ∀ {l:List α} {e:Nat},l.length<=e->za d l e=d
 | [],_,_=>rfl
 |x::r,0,h=>by simp at h
 |x::r,e+1,h=>Uj (l:=r) (by simpa using h)
structure CasOK (c:Cas):Prop where
 len:c.x.length<=9223372036854775807
 a0:uInt c.a.1=true
 a1:uInt c.a.2.1=true
 a2:uInt c.a.2.2=true
 k:uInt c.k=true
 x: ∀ y∈c.x,uz4 y=true
 v0:uInt c.v.1.1=true
 v1:uInt c.v.1.2=true
 v2:uInt c.v.2.1.1=true
 v3:uInt c.v.2.1.2=true
 v4:uInt c.v.2.2.1=true
 v5:uInt c.v.2.2.2=true
theorem CasOK.of {c:Cas} (h:c.ok=true) (hl:c.x.length<=maxLen):CasOK c:=by
 unfold Cas.ok at h;simp only [za2,zaf] at h;obtain ⟨⟨⟨⟨⟨⟨⟨⟨⟨⟨h0,h1⟩,h2⟩,h3⟩,h4⟩,h5⟩,h6⟩,h7⟩,h8⟩,h9⟩,ha⟩:=h
 exact ⟨by have e:maxLen=9223372036854775807:=by decide
           omega,h0,h1,h2,h3,h4,h5,h6,h7,h8,h9,ha⟩
section
variable {c:Cas} {ex:Bool}
theorem Q0 {b:Bool} {K:Prop} (h:b=true) (k:K):nd1 b K:=ac h fun _ _=>k
theorem RY:Rp c ex=Bd c.a c.k c.x ex:=by
 unfold Rp;rw [show e4.list c.x.length (e4.get c.x)=c.x from El.list_get]
theorem SA:cw (Rp c ex)=true:=by rw [RY];exact Tn
theorem Ry:1<=(Rp c ex).inp.length/\(Rp c ex).inp.length<=3/\1<=(Rp c ex).nod.length/\(Rp c ex).nod.length<=14:=by rw [RY];exact Sb
theorem Sq:VM (Rp c ex)=true:=by rw [RY];exact Sk
theorem RM:jn (Rp c ex)=true:=by
 have:=Ry (c:=c) (ex:=ex);exact eY SA (by omega) (by omega)
theorem SL (h:CasOK c):Sl c=true:=by
 unfold Sl;rw [zae (za0 _),zdy h.len,El.good_get h.x,h.a0,h.a1,h.a2,h.k];rfl
theorem SM (h:CasOK c):Sm c (Rp c ex)=true:=by
 have l:=Ry (c:=c) (ex:=ex);unfold Sm;rw [RM,fN,zae (za0 _),El.good_get h.x,zdy l.1,zdy l.2.1,h.v0,h.v1,h.v2,h.v3,h.v4,h.v5];rfl
theorem TD {p:Pr}:Sn c p=Q7 c.v p.inp.length:=by
 unfold Sn SU;rw [fN];have hl:(Q7 c.v p.inp.length).length=p.inp.length:=RX;have:eR.list (Q7 c.v p.inp.length).length (eR.get (Q7 c.v p.inp.length))=Q7 c.v p.inp.length:=El.list_get;rw [hl] at this;exact this
theorem RZ {p q:Pr} (hp:p.inp.length<=1000000) (hq:jn q=true):SW c p q=true:=by
 have hl:(Q7 c.v p.inp.length).length=p.inp.length:=RX;have hg:eR.good uzR (Q7 c.v p.inp.length).length (eR.get (Q7 c.v p.inp.length))=true:=El.good_get Te;unfold SW SU bW;rw [fN];rw [hl] at hg ⊢;rw [hq,zae (za0 _),zae hp,hg];rfl
theorem Rl {p:Pr} {i:Int} (h:cw p=true):jn (aG p i).1=true:=by
 obtain ⟨d1,d2,d3⟩:=qw (i:=i) h;exact eY d1 d2 d3
theorem Wq {a b:RS}:zM a b=true↔a=b:=by
 obtain ⟨a1,a2⟩:=a;obtain ⟨b1,b2⟩:=b;simp [zM,We]
end
theorem UZ {n:Nat} {K:Prop} (h:n<=1000000) (k:K):Ve n K:=ac (by
 rw [zdy (zbU),zdy (show 0+1<=1 by omega),zdy (za0 n),zdy (show (n+1)*64<=140737488355328 by omega)];rfl) k
theorem UM {l:List DR} {v:DR} {e:Nat} (he:e<l.length+1):UQ l v e=eDR.get (l++ [v]) e:=by
 unfold UQ ct El.get El.nth;rw [aB];show _=Um (za bd (l++ [v]) e);rw [aS];by_cases h:e<l.length
 ·rw [zdy h,zdA,if_neg (by omega)];rfl
 ·obtain rfl:e=l.length:=by omega
  rw [zdB h,zdz,if_pos rfl,zaJ];rfl
theorem UA {l:List DR} (h: ∀ d∈l,uzD d=true) (e:Nat):uzD (za bd l e)=true:=by
 by_cases he:e<l.length
 ·exact h _ (bw he)
 ·rw [Uj (by omega)];decide
theorem V9 {a:DR}:uzD a=true↔uzR a.1=true/\uzR a.2=true:=by unfold uzD;rw [za2]
def dlJ (x:Nd) (cs:List SV) (w:DiX):Prop:=0<=w.1/\w.1<=jH x.n/\uzD w.2.1=true/\xd (Vc cs) (jH x.n).toNat ((bh 1,bh 0),true)=xd (Vc cs) (jH x.n - w.1).toNat w.2
theorem U0 (n:Int):0<=jH n/\n<=jH n/\ -n<=jH n:=by unfold jH;split<;>omega
theorem xv (n:Int):uzR (bh n)=true:=gu n 1
theorem Uf (a b:DR):uzD (JE a b).1=true:=by rw [V9];exact ⟨gI _ _,Lq _ _⟩
theorem UB (a:DR):uzD (Nl a).1=true:=by rw [V9];exact ⟨lY _ _,Lr _ _⟩
section
variable {I:DlX->Prop} {N:Int} {ins:List RS} {input:Int} {Q:SV->Prop} {z:DlX} {x:Nd}
theorem wz {q:Nat} {v:DR} (h0:0<=z.1) (h1:z.1<N) (hN:N<=1000000) (hl:z.2.length<=1000000) (h:I (z.1+1,z.2++ [v])):dlE I N ins input q z v:=by
 have l:(z.2++ [v]).length=z.2.length+1:=by simp
 refine UZ hl (ac (VP.2 (by omega)) ⟨_,h,by show (_:Nat)<_;dsimp only;omega,⟨rfl, ?_,rfl,rfl,rfl,rfl,trivial⟩,trivial,trivial,ac ?_ fun e he=>UM (by have:e<(z.2++ [v]).length:=he;omega),trivial⟩)
 ·rw [l]
 ·rw [l,zdy (za0 _)];rfl
theorem UR (h0:0<=z.1) (h1:z.1<N) (hN:N<=1000000) (hl:z.2.length<=1000000) (hd: ∀ d∈z.2,uzD d=true) (hL:0<=x.l/\x.l<z.2.length) (hn: -4<=x.n/\x.n<=4) (r:DR×Bool)
 (hr:r=(let y:=xd (za bd z.2 x.l.toNat) (jH x.n).toNat ((bh 1,bh 0),true)
   bif decide (x.n<0)&&y.2 then Nl y.1 else y)) (hno:r.2=false->Q sd) (hyes:r.2=true->I (z.1+1,z.2++ [r.1])):U6 I dlJ N ins input z x Q:=by
 have mx:=U0 x.n;have mb:jH x.n<=4:=by unfold jH;split<;>omega
 refine ⟨(0,(bh 1,bh 0),true),⟨zat _,mx.1, ?_,by rw [Int.sub_zero]⟩,⟨⟨rfl,rfl,rfl,rfl,rfl,rfl,rfl,rfl,rfl,rfl,trivial⟩,trivial,⟨rfl,trivial⟩,trivial⟩, ?_⟩
 ·rw [V9];exact ⟨xv 1,xv 0⟩
 rintro ⟨k,y,f⟩ ⟨k0,k1,k2,k3⟩;replace k1:k<=jH x.n:=k1;replace k2:uzD y=true:=k2;replace k3:xd (za bd z.2 x.l.toNat) (jH x.n).toNat ((bh 1,bh 0),true)=xd (za bd z.2 x.l.toNat) (jH x.n - k).toNat (y,f):=k3;dsimp only at k0 ⊢;rw [za7];refine ac (VP.2 (by omega)) (ah (fun hb=> ?_) (fun hb=> ?_))
 ·rw [QM,za2] at hb;have b1:=zdD hb.1;have b2:f=true:=hb.2;rw [show (jH x.n - k).toNat=(jH x.n - (k+1)).toNat+1 by omega,xd,b2,zdA] at k3;refine aY hL.1 hL.2 (ac (by rw [k2,UA hd];rfl) (ac (VP.2 (by omega)) ⟨(k+1,(JE y (za bd z.2 x.l.toNat)).1,(JE y (za bd z.2 x.l.toNat)).2),⟨by show 0<=k+1;omega,by show k+1<=jH x.n;omega,Uf _ _,k3⟩,by show (_:Nat)<_;dsimp only;omega,⟨⟨rfl,rfl,rfl,rfl,rfl,rfl,rfl,rfl,rfl,rfl,trivial⟩,trivial,⟨rfl,trivial⟩,trivial⟩⟩))
 ·have e:xd (za bd z.2 x.l.toNat) (jH x.n).toNat ((bh 1,bh 0),true)=(y,f):=by
   rw [k3];rw [QM] at hb;by_cases c:k<jH x.n
   ·rw [zdy c,zb7] at hb;rw [show (jH x.n - k).toNat=(jH x.n - (k+1)).toNat+1 by omega,xd,show f=false from hb];rfl
   ·rw [show (jH x.n - k).toNat=0 by omega];rfl
  rw [e] at hr;dsimp only at hr;refine ah (fun hc=>ac k2 (ah (fun hf=>hno ?_) (fun hf=>wz h0 h1 hN hl ?_))) (fun hc=>ah (fun hf=>hno ?_) (fun hf=>wz h0 h1 hN hl ?_))
  ·rw [QM] at hc;rw [hr,hc];simpa using hf
  ·rw [QM] at hc;rw [hr,hc] at hyes;exact hyes (by simpa using hf)
  ·rw [QM] at hc;rw [hr,hc];simpa using hf
  ·rw [QM] at hc;rw [hr,hc] at hyes;exact hyes (by simpa using hf)
theorem bnt {b:Bool} (h:(!b)=true):b=false:=by cases b;rfl;cases h
theorem bnf {b:Bool} (h:(!b)=false):b=true:=by cases b;cases h;rfl
theorem Ug {n:Nat} {K:Prop} (hl:0<=x.l/\x.l<n) (hr:0<=x.r/\x.r<n) (k:K):UL n x K:=aY hl.1 hl.2 (aY hr.1 hr.2 k)
theorem UI {a b:Int} (hno:(a==0&&b==0)=false->Q sd) {K:Prop} (hyes:(a==0&&b==0)=true->K):ag (a !=0) (Q sd) (ag (b !=0) (Q sd) K):=
 ah (fun h=>hno (by rw [show (a==0)=false by simpa using h];rfl)) (fun h=>ah (fun k=>hno (by rw [show (b==0)=false by simpa using k,Bool.and_false])) (fun k=>hyes (by rw [show (a==0)=true by simpa using h,show (b==0)=true by simpa using k];rfl)))
theorem UN {j:Nat} (ok:NodeOK ins.length j x) (hj:z.2.length=j) (h0:0<=z.1) (h1:z.1<N) (hN:N<=1000000) (hl:z.2.length<=1000000) (hd: ∀ d∈z.2,uzD d=true)
 (hno:(bv ins input z.2 x).2=false->Q sd) (hyes:(bv ins input z.2 x).2=true->I (z.1+1,z.2++ [(bv ins input z.2 x).1])) (hi: ∀ r∈ins,uzR r=true):UE I dlJ N ins input z x Q:=by
 subst hj;have ha:=fun e=>UA hd e;have ha1:=fun e=>(V9.1 (ha e)).1;have ha2:=fun e=>(V9.1 (ha e)).2;have L:=fun h=>ok.left h;have R:=fun h k=>ok.right h k;unfold UE;dsimp only;rw [za7,za7,za7];refine ah (fun o=> ?_) (fun o2=>ah (fun o=> ?_) (fun o3=>ah (fun o=> ?_) (fun o4=>ah (fun o=> ?_) (fun o5=>ah (fun o=> ?_) (fun o6=>ah (fun o=> ?_) (fun o7=>ah (fun o=>hno ?_) (fun o=>wz h0 h1 hN hl ?_)))))))
 ·have e:=ok.inp (int_eq.1 o);have F:bv ins input z.2 x=((za VI ins x.n.toNat,bif x.n==input then bh 1 else bh 0),true):=by unfold bv;rw [o];rfl
  rw [F] at hyes;have hyes:=hyes rfl;refine aY e.1 e.2 (ah (fun h=>wz h0 h1 hN hl ?_) (fun h=>wz h0 h1 hN hl ?_))
  ·rw [h] at hyes;exact hyes
  ·rw [h] at hyes;exact hyes
 ·have o':=int_eq.1 o;have F:bv ins input z.2 x=(((fZ (za bd z.2 x.l.toNat).1 (za bd z.2 x.r.toNat).1).1,(fZ (za bd z.2 x.l.toNat).2 (za bd z.2 x.r.toNat).2).1),(fZ (za bd z.2 x.l.toNat).1 (za bd z.2 x.r.toNat).1).2==0&&(fZ (za bd z.2 x.l.toNat).2 (za bd z.2 x.r.toNat).2).2==0):=by unfold bv;rw [o2,o];rfl
  rw [F] at hyes hno;exact Ug (L (by omega)) (R (by omega) (by omega)) (ac (by rw [ha1,ha1];rfl) (Ug (L (by omega)) (R (by omega) (by omega)) (ac (by rw [ha2,ha2];rfl) (UI hno fun h=>wz h0 h1 hN hl (hyes h)))))
 ·have o':=int_eq.1 o;have F:bv ins input z.2 x=(((iF (za bd z.2 x.l.toNat).1 (za bd z.2 x.r.toNat).1).1,(iF (za bd z.2 x.l.toNat).2 (za bd z.2 x.r.toNat).2).1),(iF (za bd z.2 x.l.toNat).1 (za bd z.2 x.r.toNat).1).2==0&&(iF (za bd z.2 x.l.toNat).2 (za bd z.2 x.r.toNat).2).2==0):=by unfold bv;rw [o2,o3,o];rfl
  rw [F] at hyes hno;exact Ug (L (by omega)) (R (by omega) (by omega)) (ac (by rw [ha1,ha1];rfl) (Ug (L (by omega)) (R (by omega) (by omega)) (ac (by rw [ha2,ha2];rfl) (UI hno fun h=>wz h0 h1 hN hl (hyes h)))))
 ·have o':=int_eq.1 o;have F:bv ins input z.2 x=JE (za bd z.2 x.l.toNat) (za bd z.2 x.r.toNat):=by unfold bv;rw [o2,o3,o4,o];rfl
  rw [F] at hyes hno;exact Ug (L (by omega)) (R (by omega) (by omega)) (ac (by rw [ha,ha];rfl) (ah (fun h=>hno (bnt h)) (fun h=>wz h0 h1 hN hl (hyes (bnf h)))))
 ·have o':=int_eq.1 o;have l:=L (by omega);have r:=R (by omega) (by omega);have F:bv ins input z.2 x=((JE (za bd z.2 x.l.toNat) (Nl (za bd z.2 x.r.toNat)).1).1,(Nl (za bd z.2 x.r.toNat)).2&&(JE (za bd z.2 x.l.toNat) (Nl (za bd z.2 x.r.toNat)).1).2):=by unfold bv;rw [o2,o3,o4,o5,o];rfl
  rw [F] at hyes hno;rw [QM];exact aY r.1 r.2 (ac (ha _) (aY l.1 l.2 (ac (by rw [ha,UB];rfl) (ah (fun h=>hno (bnt h)) (fun h=>wz h0 h1 hN hl (hyes (bnf h)))))))
 ·have o':=int_eq.1 o;have:=ok.pow o';exact UR h0 h1 hN hl hd (L (by omega)) (by omega) _ (by unfold bv;rw [o2,o3,o4,o5,o6,o];rfl) hno hyes
 ·have F:bv ins input z.2 x=((x.v,bh 0),x.op==1):=by unfold bv;rw [o2,o3,o4,o5,o6,o7];rfl
  rw [F];simpa using o
 ·have F:bv ins input z.2 x=((x.v,bh 0),x.op==1):=by unfold bv;rw [o2,o3,o4,o5,o6,o7];rfl
  rw [F] at hyes;exact hyes (by simpa using o)
end
theorem U3 {ins:List RS} {input:Int} {vs:List DR} {x:Nd} (hi: ∀ r∈ins,uzR r=true) (hx:szN x=true):uzD (bv ins input vs x).1=true:=by
 have B: ∀ (b:Bool) (p q:DR×Bool),uzD p.1=true->uzD q.1=true->uzD (cond b p q).1=true:=fun b p q h k=>by cases b;exact k;exact h
 have P: ∀ (a:DR) (k:Nat) (y:DR×Bool),uzD y.1=true->uzD (xd a k y).1=true:=by
  intro a k
  induction k with
  |zero=>exact fun y h=>h
  |succ k ih=>exact fun y h=>by unfold xd;exact B _ _ _ (ih _ (Uf _ _)) h
 unfold szN at hx;rw [za2] at hx;unfold bv;refine B _ _ _ ?_ (B _ _ _ ?_ (B _ _ _ ?_ (B _ _ _ (Uf _ _) (B _ _ _ (Uf _ _) (B _ _ _ ?_ ?_)))))
 ·rw [V9];refine ⟨?_, ?_⟩
  ·by_cases h:x.n.toNat<ins.length
   ·exact hi _ (bw h)
   ·show uzR (za VI ins x.n.toNat)=true;rw [Uj (by omega)];decide
  ·show uzR (cond (x.n==input) (bh 1) (bh 0))=true;cases x.n==input
   ·exact xv 0
   ·exact xv 1
 ·rw [V9];exact ⟨Lq _ _,Lq _ _⟩
 ·rw [V9];exact ⟨Lr _ _,Lr _ _⟩
 ·dsimp only;exact B _ _ _ (UB _) (P _ _ _ (by rw [V9];exact ⟨xv 1,xv 0⟩))
 ·rw [V9];exact ⟨hx.1,xv 0⟩
def dlI (ins:List RS) (input:Int) (nod:List Nd) (z:DlX):Prop:=0<=z.1/\z.1<=nod.length/\z.2.length=z.1.toNat/\(∀ d∈z.2,uzD d=true)/\Uq ins input nod []=Uq ins input (nod.drop z.1.toNat) z.2
theorem UF {p:Pr} {ins:List RS} {input:Int} {Q:SV->Prop} (hv:VM p=true) (hs:cw p=true) (hl:ins.length=p.inp.length) (hi: ∀ r∈ins,uzR r=true) (hQ:Q (.tup [.agg (Um (yv p ins input).1), .val (.bool (yv p ins input).2)])):
 dlT (dlI ins input p.nod) dlJ p.nod.length ins input p.nod Q:=by
 obtain ⟨b1,b2,b3⟩:=cV hv;have hN:=(bQ hv).2;unfold cw at hs;simp only [za2,zaf] at hs;unfold yv at hQ;refine ⟨(0, []),⟨zat _,by show (0:Int)<=_;omega,rfl,(fun d h=>by cases h),rfl⟩,⟨⟨rfl,rfl,rfl,rfl,rfl,rfl,trivial⟩,trivial,trivial,rfl,trivial⟩, ?_⟩;rintro ⟨i,vs⟩ ⟨k0,k1,k2,k3,k4⟩;dsimp only at k0 k1 k2 k3 k4 ⊢;refine ah (fun hb=> ?_) (fun hb=> ?_)
 ·have hb:=zdD hb;have hd:p.nod.drop i.toNat=za noN p.nod i.toNat::p.nod.drop (i+1).toNat:=by
   rw [show (i+1).toNat=i.toNat+1 by omega,zaH (show i.toNat<p.nod.length by omega),bR (zaa _)]
  rw [hd,Uq] at k4;rw [za7];have ok:=hN i.toNat (by omega);rw [<- hl] at ok;refine aY k0 hb (UN (z:=(i,vs)) ok k2 k0 hb (by omega) (by dsimp only;omega) k3 (fun h=> ?_) (fun h=> ?_) hi)
  ·dsimp only at h;rw [h,zdz] at k4;rw [k4] at hQ;exact hQ
  ·dsimp only at h ⊢;rw [h,zdA] at k4;refine ⟨by show 0<=i+1;omega,by show i+1<=_;omega,by simp only [za3,za6];omega,fun d hd'=> ?_,k4⟩;rcases za8.1 hd' with hd'|hd'
   ·exact k3 d hd'
   ·rw [zaj.1 hd'];exact U3 hi (hs.1.2 _ (bw (by omega)))
 ·have hb:=zdE hb;rw [show i.toNat=p.nod.length by omega,zbk,Uq] at k4;rw [k4] at hQ;refine ac (VP.2 (by omega)) (aY (by omega) (by omega) ?_);rw [show 0+((vs.length:Int) - 1).toNat=vs.length - 1 by omega];exact hQ
noncomputable def US:MCtr:=fun bl _ args=>match args with
 | [s,t, .val (.int .i64 input)]=>match mC bl s,gy bl 2 t with
   |some a,some (b,_,n,g)=>some {X:=Unit,pre:=a.need&&b&&bW n&&eR.good uzR n g&&VM a.p&&decide (n=a.p.inp.length),spec:=fun _=>True,out:=fun _=> .tup [.agg (Um (yv a.p (eR.list n g) input).1), .val (.bool (yv a.p (eR.list n g) input).2)],ex:=fun _=>⟨(),trivial⟩}
   |_,_=>none
 |_=>none
theorem UT: ∀ B:Base,GlobB B->VU Tryz.prog B 12 US:=Sh MOk.nil fun bl nx args C hk hp=>by
 unfold US at hk;split at hk
 ·rename_i s t input;split at hk
  ·rename_i a b o n g ha ht;simp only [za1] at hk;subst hk;simp only [za2,zdC] at hp;obtain ⟨⟨⟨⟨⟨h0,rfl⟩,hn⟩,hg⟩,hv⟩,hl⟩:=hp;obtain ⟨s1,s2,s3,s4,s5,s6⟩:=eX (f:=rnF [a.o1,a.o2,o] [] nx) ha h0 rfl rfl;obtain ⟨t1,t2⟩:=cq (f:=rnF [a.o1,a.o2,o] [] nx) ht hg;have hlen:(eR.list n g).length=n:=El.list_length;have hold: ∀ C∈ [eU.old a.p.inp,eN.old a.p.nod,eR.old (eR.list n g)],cN C.kd=false/\C.kd.map=false:=by simp [cN,El.old,BK.map]
   refine ⟨[a.o1,a.o2,o], [eU.old a.p.inp,eN.old a.p.nod,eR.old (eR.list n g)], [kB a.p, .slc 2 0 (eR.list n g).length, .val (.int .i64 input)],UH (dlI (eR.list n g) input a.p.nod) dlJ a.p.nod.length,6,aw s1 (aw s2 (aw t1 trivial)),bH (fun C hC=>(hold C hC).1),cd (fun C hC=>(hold C hC).2),ar s3 (ar (t2 2 rfl) rfl), ?_⟩;refine Ue () trivial rfl (r:= .tup [.agg (Um (yv a.p (eR.list n g) input).1), .val (.bool (yv a.p (eR.list n g) input).2)]) rfl rfl rfl rfl (fun C hC=>(hold C hC).1) (by rfl) ?_;have:=UY (dlI (eR.list n g) input a.p.nod) dlJ a.p.nod.length a.p (eR.list n g) input (fun r=>r= .tup [.agg (Um (yv a.p (eR.list n g) input).1), .val (.bool (yv a.p (eR.list n g) input).2)]);show U5 _ _ _ a.p (eR.list n g) input _;rw [this];exact UF hv s4 (by rw [hlen];exact hl) (El.good_list hg) rfl
  ·cases hk
 ·cases hk
noncomputable def Vd:List (FuncId×MCtr):=(12,US)::SS
theorem U4:MOk Vd:=Th.cons UT
def U7 (I:Int->Prop) (N:Int):FuncId->Nat->Option (AS->Ann):=fun f k=>bif Nat.beq f 3&&Nat.beq k 10 then some (fun A=>{X:=Int,inv:=I,tm:=fun x=> [(10, .val (.int .i64 x))],mu:=fun x=>(N - x).toNat,keep:= [3,4,5,6,7,8,9]}) else none
abbrev U8 (I:Int->Prop) (N:Int) (c:Cas) (Q:SV->Prop):Prop:=JL Vd (U7 I N) 8 3 [Rs c c.x.length] (ST c) (Go.Sy.okK fun r _ _ _=>Q r)
section
variable (I:Int->Prop) (N:Int) (c:Cas) (p:Pr) (Q:SV->Prop)
noncomputable def ddM (q i:Int):Prop:=(TV.v (cI.enc q)=TV.v (cI.enc i)/\tvE (cB.enc true)/\cg 20/\tvE (.slc 24 0 (dm p).inp.length)/\cg 31/\tvE (cI.enc (bn (dm p) (Sn c p)).2)/\tvE (.slc 36 0 (jL (dm p) (Sn c p)).1.length)/\tvE (cI.enc (jL (dm p) (Sn c p)).2)/\True)/\(True/\(True/\True))
noncomputable def ddC (i:Int):Prop:=af (inR .i64 (i+1)) (∃ i':Int,I i'/\((N - i').toNat<(N - i).toNat/\ddM c p (i+1) i'))
noncomputable def ddW (i:Int):RS×Int:=bn (dm (aG (dm p) i).1) (Sn c p)
noncomputable def ddU (i:Int):DR×Bool:=yv (dm p) (Sn c p) i
noncomputable def ddX (i:Int):Bool:=bif !zM (ddU c p i).1.1 (bn (dm p) (Sn c p)).1 then true else !zM (ddU c p i).1.2 (ddW c p i).1
noncomputable def ddB (i:Int):Prop:=
 nd1 (jn p) (nd1 (SW c p (aG (dm p) i).1) (nd1 (SW c p p&&VM (dm p)&&decide ((dm p).inp.length=(dm p).inp.length))
  (ag (bif (bif (bif (bn (dm p) (Sn c p)).2 !=0 then true else (aG (dm p) i).2 !=0) then true else (ddW c p i).2 !=0) then true else !(ddU c p i).2) (ddC I N c p i)
    (af (dC (!ddX c p i&&(jL (dm p) (Sn c p)).2==0) (pS (jL (dm p) (Sn c p)).1.length i)) (af (dC (!ddX c p i&&(jL (dm p) (Sn c p)).2==0) (decide (0+i.toNat<(jL (dm p) (Sn c p)).1.length)))
      (ag (bif ddX c p i then true else bif (jL (dm p) (Sn c p)).2==0 then !zM (za VI (jL (dm p) (Sn c p)).1 (0+i.toNat)) (ddW c p i).1 else false) (Q (cB.enc false)) (ddC I N c p i)))))))
noncomputable def ddT:Prop:=
 nd1 (Sl c) (nd1 (Sm c p) (nd1 (SW c p p) (nd1 (SW c p p&&decide (1<=(dm p).inp.length))
  (ag (bif (jL (dm p) (Sn c p)).2==0 then (bif (bn (dm p) (Sn c p)).2 !=0 then true else ((jL (dm p) (Sn c p)).1.length:Int) !=(p.inp.length:Int)) else false) (Q (cB.enc false))
    (∃ i0:Int,I i0/\(ddM c p 0 i0/\ ∀ i:Int,I i->ag (decide (i<(p.inp.length:Int))) (ddB I N c p Q i) (Q (cB.enc true))))))))
end
theorem UU (I:Int->Prop) (N:Int) (c:Cas) (Q:SV->Prop):U8 I N c Q=(Unit->True->ddT I N c (Rp c true) Q):=by kernel_rfl
theorem UC {p:Pr} {ins:List RS}: ∀ {k:Nat} {i:Int} {out l:List RS},oJ p ins k i out=some l->(∀ j,j<out.length->za VI l j=za VI out j)/\ ∀ j:Nat,j<k->za VI l (out.length+j)=(bn (aG p (i+j)).1 ins).1
 |0,i,out,l,h=>by
  simp only [oJ,za1] at h;subst h;exact ⟨fun _ _=>rfl,fun j hj=>absurd hj (zbo j)⟩
 |k+1,i,out,l,h=>by
  unfold oJ at h;cases hb:(aG p i).2 !=0||(bn (aG p i).1 ins).2 !=0 with
  |true=>rw [hb] at h;cases h
  |false=>
   rw [hb,zdz] at h;obtain ⟨h1,h2⟩:=UC h;have hl:(out++ [(bn (aG p i).1 ins).1]).length=out.length+1:=by simp
   rw [hl] at h1 h2;refine ⟨fun j hj=> ?_,fun j hj=> ?_⟩
   ·rw [h1 j (by omega),aS,if_neg (by omega)]
   ·cases j with
    |zero=>
     rw [zaZ,h1 _ (by omega),aS,if_pos rfl];show _=(bn (aG p (i+0)).1 ins).1;rw [Int.add_zero]
    |succ j=>
     have:=h2 j (by omega);rw [show out.length+(j+1)=out.length+1+j by omega,this,show i+((j+1:Nat):Int)=i+1+(j:Int) by omega]
theorem UJ {p:Pr} {ins:List RS} (h:(jL p ins).2=0):(bn p ins).2=0/\(jL p ins).1.length=p.inp.length/\ ∀ j:Nat,j<p.inp.length->za VI (jL p ins).1 j=(bn (aG p j).1 ins).1:=by
 unfold jL at h ⊢;cases he:(bn p ins).2 !=0 with
 |true=>rw [he] at h;exact absurd (show (100:Int)=0 from h) (by decide)
 |false=>
  rw [he] at h;simp only [zdz] at h ⊢;cases hg:oJ p ins p.inp.length 0 [] with
  |none=>rw [hg] at h;exact absurd (show (100:Int)=0 from h) (by decide)
  |some l=>
   refine ⟨by simpa using he,by have:=Up hg;simpa using this,fun j hj=> ?_⟩;have:=(UC hg).2 j hj;rw [za9,za7,Int.zero_add] at this;exact this
section
variable {c:Cas} {p:Pr} {Q:SV->Prop}
def ddI (p:Pr) (i:Int):Prop:=0<=i/\i<=p.inp.length
theorem UV {i:Int}:ddM c p i i:=⟨⟨rfl,rfl,rfl,rfl,rfl,rfl,rfl,rfl,trivial⟩,trivial,trivial,trivial⟩
theorem UW {i:Int} (h:p.inp.length<=3) (h0:0<=i) (h1:i<p.inp.length):ddC (ddI p) p.inp.length c p i:=
 ac (VP.2 (by omega)) ⟨i+1,⟨by omega,by omega⟩,by omega,UV⟩
theorem UK {a b:Bool} {K:Prop} (h:a=true->b=true) (k:K):af (dC a b) K:=ac (by
 cases a with
 |false=>unfold dC;cases b<;>rfl
 |true=>exact yd (h rfl)) k
end
theorem UX {c:Cas} {Q:SV->Prop} (h:CasOK c) (hQ:Q (cB.enc true)):ddT (ddI (Rp c true)) (Rp c true).inp.length c (Rp c true) Q:=by
 have l:=Ry (c:=c) (ex:=true);have hs:=SA (c:=c) (ex:=true);have hv:=Sq (c:=c) (ex:=true);have hn:=RM (c:=c) (ex:=true);have hpre:=SM (ex:=true) h;generalize Rp c true=p at*
 have hE: ∀ {q:Pr},jn q=true->SW c p q=true:=fun {q} hq=>RZ (by omega) hq;unfold ddT;simp only [fN];have hR:Sn c p=Q7 c.v p.inp.length:=TD;refine Q0 (SL h) (Q0 hpre (Q0 (hE hn) (Q0 (by rw [hE hn,zdy l.1];rfl) (ah (fun hb=> ?_) (fun _=>⟨0,⟨zat _,by omega⟩,UV, ?_⟩)))))
 ·exfalso;rw [QM,za2,zdH] at hb;obtain ⟨g1,g2,_⟩:=UJ hb.1;have hb:=hb.2;rw [g1,g2] at hb;simp at hb
 rintro i ⟨i0,i1⟩;refine ah (fun hi=> ?_) (fun _=>hQ);have hi:=zdD hi;unfold ddB;simp only [fN];refine Q0 hn (Q0 (hE (Rl hs)) (Q0 (by rw [hE hn,hv];rfl) (ah (fun _=>UW l.2.1 i0 hi) (fun hb=> ?_))));simp only [QN,zbt] at hb;obtain ⟨⟨⟨e1,e2⟩,e3⟩,e4'⟩:=hb;have e1:(bn p (Sn c p)).2=0:=by simpa using e1
 have e2:(aG p i).2=0:=by simpa using e2
 have e3:(ddW c p i).2=0:=by simpa using e3
 have e4':(ddU c p i).2=true:=bnf e4';unfold ddW at e3;rw [fN,fN] at e3;unfold ddU at e4';rw [fN] at e4';obtain ⟨d1,d2⟩:=UP hs (zca rfl e1) (zca rfl e2) (zca rfl e3) (x:=(yv p (Sn c p) i).1) (zca rfl e4');have hX:ddX c p i=false:=by
  unfold ddX ddU ddW;simp only [fN];rw [Wq.2 d1,Wq.2 d2];rfl
 have G:(jL p (Sn c p)).2=0->i<(jL p (Sn c p)).1.length/\za VI (jL p (Sn c p)).1 i.toNat=(bn (aG p i).1 (Sn c p)).1:=fun hg=>by
  obtain ⟨_,g2,g3⟩:=UJ hg;refine ⟨by omega, ?_⟩;rw [g3 i.toNat (by omega),show ((i.toNat:Nat):Int)=i by omega]
 rw [hX];refine UK (fun hg=> ?_) (UK (fun hg=> ?_) (ah (fun hc=> ?_) (fun _=>UW l.2.1 i0 hi)))
 ·have:=G (by simpa using hg);unfold pS;rw [zdy i0,zdy this.1,zdy (by omega)];rfl
 ·have:=G (by simpa using hg);exact zdy (by omega)
 ·exfalso;rw [zdz,QM,za2,zdH] at hc;have:=G hc.1;have hc:=bnt hc.2;rw [za7,this.2] at hc;unfold ddW at hc;simp only [fN] at hc;rw [Wq.2 rfl] at hc;cases hc
theorem Uo (c:Cas) {L:Go.Sy.Loc} {W:World} (h:c.ok=true) (hB:BlkOK (fun _=>L) 0 (e4.old c.x) W) (hl:c.x.length<=maxLen) (_:World) (hg:GlobU W):
 Calls Tryz.prog 3 #[(Rs c c.x.length).conc (fun _=>L)] W fun e w'=>e= .returned (.bool true)/\Below W.heap.size W w':=
 T8 (gm:=Vd) U4 hg (ann:=U7 (ddI (Rp c true)) (Rp c true).inp.length) (n:=8) (rest:= []) hB rfl (by
  show U8 _ _ c _;rw [UU]
  exact fun _ _=>UX (CasOK.of h hl) rfl)
end Go.Proofs.YtahblkeackebaaaGreatDoor
namespace Go.Proofs.YtahblkeackebaaaGreatDoor
open Go.ChangeShapes Go.WideShapes Go.ChangeAt Go.RowKit Yk
theorem oQ {H:Type} {enc:TypeId×Value->H} {a:Assume} {C:Checked} {os:Os} {f:FuncId} {fn:Func} {s:ChangeSpec} {conds:List PathCond} {apart fresh handsOn again:Bool} {X:World->Array Value->Prop}
 (hX: ∀ (w w':World) (args:Array Value),w.heap=w'.heap->X w args->X w' args)
 (own:ownKnob C.prog.godebug=none) (started:os.Started) (noInit:C.prog.inits.idxOf? f=none) (hfn:C.prog.funcs[f]? =some fn)
 (witness: ∃ (w:World) (tape:Tape) (i:Input),w.os=os/\(w.forCall tape i).Shaped C.prog/\i.vars= []/\Input.okWide C.prog (w.forCall tape i) .any w.heap.size f i/\
   ((s.pre enc C.prog fn conds apart (w.forCall tape i).memory i.args/\X (w.forCall tape i).memory i.args)/\sizedMet enc C.prog fn (OpenSpec.ofChange s) apart (w.forCall tape i).memory i.args)/\a.holds C.prog (lone (Frame.enter C.prog f i.args .normal) [] (w.forCall tape i)))
 (contract: ∀ (W:World) (base:Nat) (args:Array Value) (ds gs:List (DataW H)) (before:List MemPlace),
   (∀ (j:Nat) t v,fn.params[j]? =some t->args[j]? =some v->Value.okWide C.prog W .any base t v)->
   DataW.Whole enc C.prog fn.params.toList s.vars apart W args.toList ds gs before->
   X W args->W.ShapedOpen C.prog->
   Calls C.prog f args W fun e W'=> ∃ v,e= .returned v/\s.post enc C.prog fn apart fresh handsOn again W args v W'):
 ReturnsInHanded a C os f .any (fun w args=>(s.pre enc C.prog fn conds apart w args/\X w args)/\sizedMet enc C.prog fn (OpenSpec.ofChange s) apart w args) (s.post enc C.prog fn apart fresh handsOn again):=by
 refine returnsInHanded_of_calls own started noInit witness ?_;intro w tape i _ hsh _ hok hpre hholds;obtain ⟨_,_,_,fn',hfn',_,_,_,_,hval⟩:=hok;have e:fn'=fn:=zbl (hfn'.symm.trans hfn);subst e;obtain ⟨⟨⟨ds,gs,before,hw,hc⟩,hx⟩,hz⟩:=hpre;have hw':=DataW.Whole.of_heap (w':=w.forCall tape i) (by rfl) hw;refine (contract (w.forCall tape i) w.heap.size i.args ds gs before hval hw' (hX _ _ _ (by rfl) hx) hsh).mono fun e W' ⟨v,he,hp⟩=> ?_;subst he;exact ChangeSpec.post_blind hp
theorem own:ownKnob Tryz.prog.godebug=none:=by kernel_rfl
noncomputable def oR:List (String×DataW Unit):=Rows.deriveDualRow.laid
theorem MM {W:World} (h:W.ShapedOpen Tryz.prog): ∃ m,W.cell? ⟨5,0,none⟩=some (.int .i64 m):=
 cell_of_shapedOpen_int (t:=3) (zero:= #[.int .i64 0]) h (zdD (by kernel_rfl)) (by kernel_rfl) (by kernel_rfl) (by kernel_rfl) (by kernel_rfl) Tryz.underlying3
theorem MN:(Rows.laid_internal_strconv_uint64pow10:DataW Unit)=Lib.tabData .u64 Lib.pow10Tab:=by kernel_rfl
theorem No:Tryz.prog.globalNamed "strconv.ErrRange" =some 3:=by kernel_rfl
theorem Np:Tryz.prog.globalNamed "strconv.ErrSyntax" =some 2:=by kernel_rfl
theorem QB: "*" ++ "errors.errorString" = "*errors.errorString" :=by decide
theorem JV (u:TypeId) (h:Tryz.prog.typeName? 3 u=some "*errors.errorString"):u=302:=
 typeName_ptr_named (nm:= "errors.errorString") (by rw [QB];kernel_rfl) (by kernel_rfl) (by decide) u (by rw [QB];exact h)
theorem JW {W:World} (h:W.ShapedOpen Tryz.prog) (hL:laidMetH Tryz.prog oR W):GlobU W:=by
 rw [MakeChecks.laidMetH_plain _ _ _ (by kernel_rfl)] at hL;have hL1:=laidMet.tail (laidMet.tail hL);have ht:Lib.TabIs Tryz.prog W "internal/strconv.uint64pow10" .u64 Lib.pow10Tab:=
  Lib.tabIs_of_head NL (by kernel_rfl) Tryz.underlying298 Tryz.underlying268 (by kernel_rfl) (by kernel_rfl) (MN▸hL1)
 have hL2:=laidMet.tail (laidMet.tail hL1);obtain ⟨a0,s0,hv0,_,_,_⟩:=laid_sentinel (g:=3) (ti:=229) (tp:=302) (te:=304) (ts:=9) hL2 No (by kernel_rfl) Tryz.underlying229 JV Tryz.underlying302 Tryz.underlying304 rfl rfl Tryz.underlying9 (by kernel_rfl) (by kernel_rfl);obtain ⟨a1,s1,hv1,_,_,_⟩:=laid_sentinel (g:=2) (ti:=229) (tp:=302) (te:=304) (ts:=9) (laidMet.tail hL2) Np (by kernel_rfl) Tryz.underlying229 JV Tryz.underlying302 Tryz.underlying304 rfl rfl Tryz.underlying9 (by kernel_rfl) (by kernel_rfl);have c0:=World.var?_cell No hv0 0;have c1:=World.var?_cell Np hv1 0;exact ⟨⟨MM h,ht,World.block_lt_of_cell? W _ (ht.cell NL 0 (by decide))⟩,⟨_,by simpa using c1, .inr ⟨_,_,rfl⟩⟩,⟨_,by simpa using c0, .inr ⟨_,_,rfl⟩⟩⟩
end Go.Proofs.YtahblkeackebaaaGreatDoor
