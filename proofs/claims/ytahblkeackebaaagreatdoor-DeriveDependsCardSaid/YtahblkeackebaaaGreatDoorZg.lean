import Derived.Test.YtahblkeackebaaaGreatDoorZf
import Derived.ProofKit
import Derived.OpenShut
import Derived.Carry
import Derived.Test.YtahblkeackebaaaGreatDoorRows
import Derived.HandedShaped
import Derived.LaidMore
import Derived.Lay
import Derived.Lib.LaidTab
import Derived.Shelf.Vars
import Derived.Stop.LaidErr
import Derived.Stop.Joined
set_option linter.unusedVariables false
set_option linter.unusedSimpArgs false
namespace Go.Proofs.YtahblkeackebaaaGreatDoor
open Go Go.RowKit Go.Sy Yk
theorem eqN_iff {x y:Nd}:eqN x y=true↔x=y:=by
 obtain ⟨a1,a2,a3,a4,a5,a6⟩:=x;obtain ⟨b1,b2,b3,b4,b5,b6⟩:=y;simp only [eqN,za2,beq_iff_eq,eqR_iff,eqU_iff,Nd.mk.injEq,and_true]
theorem Rf {a b c d:Nd} (h:a=b↔c=d):eqN a b=eqN c d:=by
 rw [zax,eqN_iff,eqN_iff];exact h
theorem Q4 {n:Nat} {i:Int}:wiB i 0 ((n:Int) - 1)=Go.Proofs.YtahblkeackebaaaGreatDoor.earF n i:=by
 rw [zax,earF_iff];unfold wiB;by_cases h:i≥0
 ·rw [decide_eq_true h,cond_true,decide_eq_true_eq];omega
 ·rw [decide_eq_false h,cond_false];simp;omega
theorem Q5 {a b:Bool} {K:Prop} (h:b=true) (k:K):af (dC a b) K:=ac (yd h) k
section
variable {inp us:List Un} {x:Nd} {Q:SV->Prop}
theorem tyQ (h:Q (.tup [.agg (ci (tyF inp us x).1), .val (.int .i64 (tyF inp us x).2)])):(mn inp us x=none->Q QS)/\(∀ u,mn inp us x=some u->Q (RA u)):=by
 unfold tyF at h;exact ⟨fun e=>by rw [e] at h;exact h,fun u e=>by rw [e] at h;exact h⟩
theorem QW (h:formF us.length x=false):mn inp us x=none:=by unfold mn;rw [h];rfl
theorem Q6 (h:formF us.length x=true):mn inp us x=bif (fL inp us x).2==0 then some (fL inp us x).1 else none:=by unfold mn;rw [h];rfl
theorem Rx {r:Un×Int} (hf:formF us.length x=true) (hu:fL inp us x=r) (hb:mn inp us x=none->Q QS) (ho: ∀ u,mn inp us x=some u->Q (RA u)):Ss r Q:=by
 have t:=Q6 (inp:=inp) hf;rw [hu] at t;refine ah (fun h=>hb ?_) (fun h=>ho _ ?_)
 ·rw [t,show (r.2==0)=false by simpa using h];rfl
 ·rw [t,show (r.2==0)=true by simpa using h];rfl
theorem TZ (o:x.op=1) (hx:szN x=true) (hb:mn inp us x=none->Q QS) (ho: ∀ u,mn inp us x=some u->Q (RA u)):TM x Q:=by
 unfold szN at hx;rw [za2] at hx;have hform:formF us.length x=eqN {x with op:=1} {noN with op:=1,v:=x.v,u:=x.u}:=by
  unfold formF;rw [o];exact Rf (by obtain ⟨a1,a2,a3,a4,a5,a6⟩:=x;simp [noN])
 have huni:fL inp us x=bif rV x.v&&validF x.u then (x.u,0) else (noU,90):=by unfold fL;rw [o];rfl
 unfold TM;rw [<- hform,jE];refine ac hx.1 (ac hx.2 (ah (fun h=>hb ?_) (fun h=>ho _ ?_)))
 ·cases f:formF us.length x with
  |false=>exact QW f
  |true=>
   rw [Q6 f,huni];rw [f] at h;cases a:rV x.v with
   |false=>rfl
   |true=>cases b:validF x.u with
    |false=>rfl
    |true=>rw [a,b] at h;cases h
 ·cases f:formF us.length x with
  |false=>rw [f] at h;cases h
  |true=>
   rw [Q6 f,huni];rw [f] at h;cases a:rV x.v with
   |false=>rw [a] at h;cases h
   |true=>cases b:validF x.u with
    |false=>rw [a,b] at h;cases h
    |true=>rfl
theorem T0 {p:Pr} (hp:p.inp=inp) (hl:inp.length<=1000000) (o:x.op=2) (hb:mn inp us x=none->Q QS) (ho: ∀ u,mn inp us x=some u->Q (RA u)):TN p x Q:=by
 subst hp;have hform:formF us.length x=eqN {x with op:=2} {noN with op:=2,n:=x.n}:=by
  unfold formF;rw [o];show eqN ⟨0,x.v,x.u,0,x.l,x.r⟩ noN=_;exact Rf (by obtain ⟨a1,a2,a3,a4,a5,a6⟩:=x;simp [noN])
 have huni:fL p.inp us x=bif decide (0<=x.n)&&decide (x.n<(p.inp.length:Int)) then (nthD noU p.inp x.n.toNat,0) else (noU,90):=by unfold fL;rw [o];rfl
 unfold TN;rw [<- hform];refine Q5 (inR64.2 (by omega)) (ah (fun f=>ah (fun h=>hb ?_) (fun h=> ?_)) (fun f=>hb (QW f)))
 ·rw [Q6 f,huni];rw [Q4] at h;have:earF p.inp.length x.n=false:=by simpa using h
  rw [show (decide (0<=x.n)&&decide (x.n<(p.inp.length:Int)))=false from this];rfl
 ·rw [Q4] at h;have h':earF p.inp.length x.n=true:=by simpa using h
  have e:=earF_iff.1 h';refine aY e.1 e.2 (ho _ ?_);rw [Q6 f,huni,show (decide (0<=x.n)&&decide (x.n<(p.inp.length:Int)))=true from h',za7];rfl
theorem RV {op a:Int} {f:Un->Un->Un×Int} (o:x.op=op) (hop:3<=op/\op<=6) (ha:a=(us.length:Int)) (hl:us.length<=1000000) (hu: ∀ u∈us,szB u=true) (huni:fL inp us x=f (nthD noU us x.l.toNat) (nthD noU us x.r.toNat)) (hb:mn inp us x=none->Q QS) (ho: ∀ u,mn inp us x=some u->Q (RA u)):SG op f us x a Q:=by
 subst ha;have hform:formF us.length x=(eqN {x with op:=op} {noN with op:=op,l:=x.l,r:=x.r}&&earF us.length x.l&&earF us.length x.r):=by
  unfold formF;rw [beq_false_of_ne (show x.op≠1 by omega),beq_false_of_ne (show x.op≠2 by omega),decide_eq_true (show 3<=x.op by omega),decide_eq_true (show x.op<=6 by omega)];show (eqN ⟨0,x.v,x.u,x.n,0,0⟩ noN&&_&&_)=_;rw [Rf (a:=⟨0,x.v,x.u,x.n,0,0⟩) (b:=noN) (c:={x with op:=op}) (d:={noN with op:=op,l:=x.l,r:=x.r}) (by obtain ⟨a1,a2,a3,a4,a5,a6⟩:=x;simp [noN])]
 unfold SG;rw [Q4,Q4];generalize eqN {x with op:=op} {noN with op:=op,l:=x.l,r:=x.r}=e at hform;have r:inR .i64 ((us.length:Int) - 1)=true:=inR64.2 (by omega);refine Q5 r (ah (fun h1=>Q5 r (ah (fun h2=>ah (fun h3=>hb (QW ?_)) (fun h3=> ?_)) (fun h2=>hb (QW ?_)))) (fun h1=>Q5 r (hb (QW ?_))))
 ·rw [hform,show earF us.length x.r=false by simpa using h3,Bool.and_false]
 ·have h3:earF us.length x.r=true:=by simpa using h3
  have e2:=earF_iff.1 h2;have e3:=earF_iff.1 h3;unfold pL;rw [za7,za7];exact aY e2.1 e2.2 (aY e3.1 e3.2 (ac (by rw [eH hu,eH hu];rfl) (Rx (by rw [hform,h1,h2,h3];rfl) huni hb ho)))
 ·rw [hform,h2,Bool.and_false];rfl
 ·rw [hform,h1];rfl
theorem T3 {a:Int} (o:x.op=7) (ha:a=(us.length:Int)) (hl:us.length<=1000000) (hu: ∀ u∈us,szB u=true) (hb:mn inp us x=none->Q QS) (ho: ∀ u,mn inp us x=some u->Q (RA u)):TO us x a Q:=by
 subst ha;have hform:formF us.length x=(eqN {x with op:=7} {noN with op:=7,n:=x.n,l:=x.l}&&earF us.length x.l):=by
  unfold formF;rw [o];show (eqN ⟨0,x.v,x.u,0,0,x.r⟩ noN&&_)=_;rw [Rf (c:={x with op:=7}) (d:={noN with op:=7,n:=x.n,l:=x.l}) (by obtain ⟨a1,a2,a3,a4,a5,a6⟩:=x;simp [noN])]
 have huni:fL inp us x=(bif x.n==0||decide (x.n< -4)||decide (x.n>4) then (noU,90) else jm (nthD noU us x.l.toNat) (x.n,1)):=by unfold fL;rw [o];rfl
 unfold TO;rw [Q4];have hr:eqN {x with op:=7} {noN with op:=7,n:=x.n,l:=x.l}=true->x.r=0:=fun h=>by
  have:=eqN_iff.1 h;exact congrArg Nd.r this
 generalize eqN {x with op:=7} {noN with op:=7,n:=x.n,l:=x.l}=e at hform hr;refine Q5 (inR64.2 (by omega)) (ah (fun h1=>ah (fun h2=>ah (fun h3=>hb ?_) (fun h3=> ?_)) (fun h2=>hb (QW ?_))) (fun h1=>hb (QW ?_)))
 ·rw [Q6 (by rw [hform,h1,h2];rfl),huni];have:(x.n==0||decide (x.n< -4)||decide (x.n>4))=true:=by
   simp only [zav,decide_eq_true_eq,beq_iff_eq];apply Classical.byContradiction;intro hc;have:wiB x.n (-4) 4=true:=by unfold wiB;rw [decide_eq_true (by omega),cond_true,decide_eq_true (by omega)]
   rw [this,cond_true,show (x.n !=0)=true by simp;omega] at h3;cases h3
  rw [this];rfl
 ·have e2:=earF_iff.1 h2;have hr:=hr h1;have hn:x.n≠0/\ -4<=x.n/\x.n<=4:=by
   unfold wiB at h3;by_cases a:x.n≥ -4
   ·by_cases b:x.n<=4
    ·rw [decide_eq_true a,cond_true,decide_eq_true b,cond_true] at h3;simp at h3;omega
    ·rw [decide_eq_true a,cond_true,decide_eq_false b,cond_false] at h3;cases h3
   ·rw [decide_eq_false a,cond_false,cond_false] at h3;cases h3
  rw [za7];refine aY e2.1 e2.2 (aY (by omega) (by omega) (ac (eH hu _) (Rx (by rw [hform,h1,h2];rfl) ?_ hb ho)));rw [huni,show (x.n==0||decide (x.n< -4)||decide (x.n>4))=false by simp;omega];rfl
 ·rw [hform,h2,Bool.and_false]
 ·rw [hform,h1];rfl
theorem T4 {a:Int} (o:x.op=8) (ha:a=(us.length:Int)) (hl:us.length<=1000000) (hu: ∀ u∈us,szB u=true) (hb:mn inp us x=none->Q QS) (ho: ∀ u,mn inp us x=some u->Q (RA u)):TP us x a Q:=by
 subst ha;have hform:formF us.length x=(eqN {x with op:=8} {noN with op:=8,l:=x.l}&&earF us.length x.l):=by
  unfold formF;rw [o];show (eqN ⟨0,x.v,x.u,x.n,0,x.r⟩ noN&&_)=_;rw [Rf (c:={x with op:=8}) (d:={noN with op:=8,l:=x.l}) (by obtain ⟨a1,a2,a3,a4,a5,a6⟩:=x;simp [noN])]
 have huni:fL inp us x=jm (nthD noU us x.l.toNat) (1,2):=by unfold fL;rw [o];rfl
 unfold TP;rw [Q4];have hr:eqN {x with op:=8} {noN with op:=8,l:=x.l}=true->x.r=0:=fun h=>by
  have:=eqN_iff.1 h;exact congrArg Nd.r this
 generalize eqN {x with op:=8} {noN with op:=8,l:=x.l}=e at hform hr;refine Q5 (inR64.2 (by omega)) (ah (fun h1=>ah (fun h2=>hb (QW ?_)) (fun h2=> ?_)) (fun h1=>hb (QW ?_)))
 ·rw [hform,show earF us.length x.l=false by simpa using h2,Bool.and_false]
 ·have h2:earF us.length x.l=true:=by simpa using h2
  have e2:=earF_iff.1 h2;have hr:=hr h1;rw [za7];exact aY e2.1 e2.2 (aY (by omega) (by omega) (ac (eH hu _) (Rx (by rw [hform,h1,h2];rfl) huni hb ho)))
 ·rw [hform,h1];rfl
end
theorem Ue {C:RC} {src:List (Option Nat)} {Cs:List Blk} {nx:Nat} {gm:List (FuncId×MCtr)} {ann:FuncId->Nat->Option (AS->Ann)} {n:Nat} {f:FuncId} {args:List SV} {r:SV} (x:C.X) (hx:C.spec x) (h1:C.pan x=none) (h2:r.ids= []) (h3:C.out x=r) (h4:C.nw x= []) (h5:C.ch x= []) (h6: ∀ C∈Cs,cN C.kd=false) (hl:src.length=Cs.length)
 (h:JL gm ann n f args Cs (Go.Sy.okK fun s _ _ _=>s=r)):JL gm ann n f args Cs (KB C src Cs nx):=Q8 h fun q b m w hq=>by
 cases q with
 |pan v=>exact hq.elim
 |ok s=>
  obtain rfl:s=r:=hq;exact IG x hx h1 h2 h3 h4 h5 h6 hl
theorem T5 {p:Pr} {us:List Un} {x:Nd} {Q:SV->Prop} (hl:us.length<=1000000) (hi:p.inp.length<=1000000) (hu: ∀ u∈us,szB u=true) (hx:szN x=true) (hop:1<=x.op/\x.op<=8) (hQ:Q (.tup [.agg (ci (tyF p.inp us x).1), .val (.int .i64 (tyF p.inp us x).2)])):
 JL [] (fun _ _=>none) 6 65 (tyA p us x us.length) (tyB p us) (Go.Sy.okK fun r _ _ _=>Q r):=by
 obtain ⟨hb,ho⟩:=tyQ hQ;have E: ∀ {op:Int},x.op=op->Re op p us x us.length Q->JL [] (fun _ _=>none) 6 65 (tyA p us x us.length) (tyB p us) (Go.Sy.okK fun r _ _ _=>Q r):=fun {op} h k=>by
  rw [<- dW h];exact k
 rcases (show x.op=1\/x.op=2\/x.op=3\/x.op=4\/x.op=5\/x.op=6\/x.op=7\/x.op=8 by omega) with o|o|o|o|o|o|o|o
 ·exact E o (by rw [TQ];exact TZ o hx hb ho)
 ·exact E o (by rw [TR];exact T0 rfl hi o hb ho)
 ·exact E o (by rw [TS];exact RV o (by decide) rfl hl hu (by unfold fL;rw [o];rfl) hb ho)
 ·exact E o (by rw [TT];exact RV o (by decide) rfl hl hu (by unfold fL;rw [o];rfl) hb ho)
 ·exact E o (by rw [TU];exact RV o (by decide) rfl hl hu (by unfold fL;rw [o];rfl) hb ho)
 ·exact E o (by rw [TW];exact RV o (by decide) rfl hl hu (by unfold fL;rw [o];rfl) hb ho)
 ·exact E o (by rw [TX];exact T3 o rfl hl hu hb ho)
 ·exact E o (by rw [TY];exact T4 o rfl hl hu hb ho)
theorem S0: ∀ B:Base,GlobB B->MCtrOK Tryz.prog B 65 SZ:=Sh MOk.nil fun bl nx args C hk hp=>by
 unfold SZ at hk;split at hk
 ·rename_i s cs at_ t;split at hk
  ·rename_i a b o n g ha ht;simp only [za1] at hk;subst hk;simp only [za2,decide_eq_true_eq] at hp;obtain ⟨⟨⟨⟨⟨⟨⟨⟨h0,rfl⟩,hn⟩,hg⟩,h1⟩,h2⟩,rfl⟩,h3⟩,h4⟩:=hp;obtain ⟨x,rfl⟩: ∃ x,cs=svN x:=⟨_,ua h1⟩;rw [fR] at h2 h3 h4;obtain ⟨s1,s2,s3,s4,s5,s6⟩:=eX (f:=rnF [a.o1,a.o2,o] [] nx) ha h0 rfl rfl;obtain ⟨t1,t2⟩:=cq (f:=rnF [a.o1,a.o2,o] [] nx) ht hg;have hlen:(eU.list n g).length=n:=El.list_length;have hle:(eU.list n g).length<=1000000:=by rw [hlen];exact zak hn
   have hold: ∀ C∈tyB a.p (eU.list n g),cN C.kd=false/\C.kd.map=false:=by simp [tyB,cN,El.old,BK.map]
   refine ⟨[a.o1,a.o2,o],tyB a.p (eU.list n g),tyA a.p (eU.list n g) x n,fun _ _=>none,6,aw s1 (aw s2 (aw t1 trivial)),bH (fun C hC=>(hold C hC).1),cd (fun C hC=>(hold C hC).2),ar s3 (ar (gv (rns_free (j4 x))) (ar rfl (ar (t2 2 rfl) rfl))), ?_⟩;refine Ue () trivial rfl (r:= .tup [.agg (ci (tyF a.p.inp (eU.list n g) x).1), .val (.int .i64 (tyF a.p.inp (eU.list n g) x).2)]) rfl rfl rfl rfl (fun C hC=>(hold C hC).1) (by rfl) ?_;have:=T5 (p:=a.p) (us:=eU.list n g) (x:=x) (Q:=fun r=>r= .tup [.agg (ci (tyF a.p.inp (eU.list n g) x).1), .val (.int .i64 (tyF a.p.inp (eU.list n g) x).2)]) hle s5 (El.good_list hg) h2 ⟨h3,h4⟩ rfl;rw [hlen] at this;exact this
  ·cases hk
 ·cases hk
noncomputable def TF:List (FuncId×MCtr):= [(65,SZ)]
abbrev M1:=Int×List Un
abbrev M3:=Int×List Nd×List Un
def St (I1:M1->Prop) (I2 I3:M3->Prop) (N:Int):FuncId->Nat->Option (AS->Ann):=fun f k=>bif Nat.beq f 23 then (
 bif Nat.beq k 3 then some (fun A=>{X:=M1,inv:=I1,tm:=fun x=> [(10, .val (.int .i64 x.1))],st:= [(kA A 9,fun x=>(qv A 9 0).take 1++(SV.slc A.nx 0 x.2.length::(qv A 9 0).drop 2))],gr:= [{src:= .cell (kA A 9) 0 1,sz:=20,n:=fun x=>x.2.length,get:=fun x=>eU.get x.2}],cleanG:=fun g hg x e=>(by simp at hg;subst hg;exact eU.ids _),mu:=fun x=>(4 - x.1).toNat,keep:= [1,2,3,4,8,9],sp:= [fun x=>(0,x.2),fun x=>(1,x.2),fun x=>(2,x.2),fun x=>(3,x.2)]})
 else bif Nat.beq k 8 then some (fun A=>{X:=M3,inv:=I2,tm:=fun x=> [(12, .val (.int .i64 x.1)),(11, .slc (A.nx+1) 0 x.2.2.length)],st:= [(kA A 9,fun x=>(qv A 9 0).take 2++(SV.slc A.nx 0 x.2.1.length::(qv A 9 0).drop 3))],gr:= [{src:= .cell (kA A 9) 0 2,sz:=26,n:=fun x=>x.2.1.length,get:=fun x=>eN.get x.2.1},{src:= .slot 11,sz:=20,n:=fun x=>x.2.2.length,get:=fun x=>eU.get x.2.2}],cleanG:=fun g hg x e=>(by simp at hg;rcases hg with rfl|rfl;exact eN.ids _;exact eU.ids _),mu:=fun x=>(4 - x.1).toNat,keep:= [1,2,3,4,8,9]})
 else bif Nat.beq k 13 then some (fun A=>{X:=M3,inv:=I3,tm:=fun x=> [(13, .val (.int .i64 x.1)),(11, .slc (A.nx+1) 0 x.2.2.length)],st:= [(kA A 9,fun x=>(qv A 9 0).take 2++(SV.slc A.nx 0 x.2.1.length::(qv A 9 0).drop 3))],gr:= [{src:= .cell (kA A 9) 0 2,sz:=26,n:=fun x=>x.2.1.length,get:=fun x=>eN.get x.2.1},{src:= .slot 11,sz:=20,n:=fun x=>x.2.2.length,get:=fun x=>eU.get x.2.2}],cleanG:=fun g hg x e=>(by simp at hg;rcases hg with rfl|rfl;exact eN.ids _;exact eU.ids _),mu:=fun x=>(N - x.1).toNat,keep:= [1,2,3,4,8,9]})
 else none) else none
def prS (K1:Nat->Nat->Blk->Nat->Nat->Blk->Int->List SV->Prop):Aft:=fun r bl _ _=>match r with
 | .ok (.agg (.val (.int .i64 id):: .slc i 0 n:: .slc j 0 m::rest))=>(match bl i,bl j with
   |some B,some C=>K1 i n B j m C id rest
   |_,_=>False)
 |_=>False
abbrev TG (I1:M1->Prop) (I2 I3:M3->Prop) (N:Int) (a:Int×Int×Int) (count:Int) (xs:List I4) (ex:Bool) (K1:Nat->Nat->Blk->Nat->Nat->Blk->Int->List SV->Prop):Prop:=
 JL TF (St I1 I2 I3 N) 6 23 [.agg [.val (.int .i64 a.1), .val (.int .i64 a.2.1), .val (.int .i64 a.2.2)],cI.enc count, .slc 0 0 xs.length,cB.enc ex] [e4.old xs] (prS K1)
section
variable (I1:M1->Prop) (I2 I3:M3->Prop) (N:Int) (a:Int×Int×Int) (count:Int) (xs:List I4) (ex:Bool)
def mdC (n0:Nat) (s:SV):List SV:= .val (.int .i64 (1+co count 900)):: .slc 10 0 n0::s::ci noU
def md1 (s:SV):List SV:= .val (.int .i64 (1+co count 900))::s:: .val (.slice none 0 0)::ci noU
def S4:Prop:=tvE (cI.enc count)/\tvE (.slc 0 0 xs.length)/\tvE (cB.enc ex)/\cg 1/\cg 2/\cg 7/\True
def Ua (q:Nat) (p:Int) (m:Nat) (g:Nat->List SV) (z:M1):Prop:=(TV.v (cI.enc p)=TV.v (cI.enc z.1)/\S4 count xs ex)/\(True/\((md1 count (.slc q 0 m)=md1 count (.slc q 0 z.2.length)/\True)/\(af (Nat.beq 20 20&&decide (z.2.length<=m)) (∀ e,e<z.2.length->g e=eU.get z.2 e)/\True)))
def So (n0 q1 q2:Nat) (p:Int) (m:Nat) (g:Nat->List SV) (k:Nat) (h:Nat->List SV) (z:M3):Prop:=(TV.v (cI.enc p)=TV.v (cI.enc z.1)/\TV.v (.slc q2 0 k)=TV.v (.slc q2 0 z.2.2.length)/\S4 count xs ex)/\(True/\((mdC count n0 (.slc q1 0 m)=mdC count n0 (.slc q1 0 z.2.1.length)/\True)/\
 (af (Nat.beq 26 26&&decide (z.2.1.length<=m)) (∀ e,e<z.2.1.length->g e=eN.get z.2.1 e)/\(af (Nat.beq 20 20&&decide (z.2.2.length<=k)) (∀ e,e<z.2.2.length->h e=eU.get z.2.2 e)/\True))))
noncomputable def S5 (inp:List Un) (nod:List Nd) (us:List Un) (x:Nd):Bool:=kp inp.length inp.length (eU.get inp) nod.length nod.length (eN.get nod) noU&&(Nat.ble us.length us.length&&Nat.beq 20 20&&true)&&bW us.length&&eU.good szB us.length (eU.get us)&&ndB (svN x)&&szN (Vh (svN x))&&decide ((nod.length:Int)=(us.length:Int))&&decide (1<=(Vh (svN x)).op)&&decide ((Vh (svN x)).op<=8)
noncomputable def Tu (inp us:List Un) (x:Nd):Un×Int:=tyF (eU.list inp.length (eU.get inp)) (eU.list us.length (eU.get us)) (Vh (svN x))
noncomputable def Rg (inp:List Un) (q1 q2:Nat) (z:M3) (x:Nd):Prop:=
 af (S5 inp z.2.1 z.2.2 x) (Unit->True->ag (bif (Tu inp z.2.2 x).2==0 then (bif !ex then true else x.op !=8) else false)
  (LY z.2.1.length (tO z.2.2.length (af (inR .i64 (z.1+1)) (∃ z':M3,I3 z'/\((N - z'.1).toNat<(N - z.1).toNat/\So count xs ex inp.length q1 q2 (z.1+1) (z.2.1.length+1) (zo z.2.1 x) (z.2.2.length+1) (Jz z.2.2 (Tu inp z.2.2 x).1) z')))))
  (af (inR .i64 (z.1+1)) (∃ z':M3,I3 z'/\((N - z'.1).toNat<(N - z.1).toNat/\So count xs ex inp.length 25 26 (z.1+1) z.2.1.length (eN.get z.2.1) z.2.2.length (eU.get z.2.2) z'))))
def pkB (y n:Int):Bool:=uInt y&&decide (0<n)
noncomputable def Sp (inp:List Un) (z:M3) (y:I4):Prop:=
 af (pkB y.1 8) (af (inR .i64 (1+co y.1 8)) (
 ag (1+co y.1 8==1) (af (pkB y.2.1 13) (af (inR .i64 (co y.2.1 13 - 6)) (af (pkB y.2.2.1 4) (af (inR .i64 (1+co y.2.2.1 4)) (af (uInt (co y.2.1 13 - 6)&&uInt (1+co y.2.2.1 4)) (af (uInt y.2.2.2)
  (Rg I3 N count xs ex inp 102 108 z ⟨opF y,(rMk (co y.2.1 13 - 6) (1+co y.2.2.1 4)).1,BL y.2.2.2,0,0,0⟩)))))))
 (ag (1+co y.1 8==2) (af (pkB y.2.1 inp.length) (Rg I3 N count xs ex inp 93 99 z ⟨opF y,noR2,noU,co y.2.1 inp.length,0,0⟩))
 (ag (1+co y.1 8==7) (af (pkB y.2.1 z.2.1.length) (af (pkB y.2.2.1 5) (af (decide (0<=co y.2.2.1 5)&&decide (co y.2.2.1 5<((5:Nat):Int))) (af (decide (0+(co y.2.2.1 5).toNat<5)) (Rg I3 N count xs ex inp 101 107 z ⟨opF y,noR2,noU,T9 (co y.2.2.1 5),co y.2.1 z.2.1.length,0⟩)))))
 (ag (1+co y.1 8==8) (af (pkB y.2.1 z.2.1.length) (Rg I3 N count xs ex inp 95 101 z ⟨opF y,noR2,noU,0,co y.2.1 z.2.1.length,0⟩))
   (af (pkB y.2.1 z.2.1.length) (af (pkB y.2.2.1 z.2.1.length) (Rg I3 N count xs ex inp 101 107 z ⟨opF y,noR2,noU,0,co y.2.1 z.2.1.length,co y.2.2.1 z.2.1.length⟩))))))))
noncomputable def Ub (K1:Nat->Nat->Blk->Nat->Nat->Blk->Int->List SV->Prop) (inp:List Un) (z0:M3):Prop:=
 ∃ z1:M3,I3 z1/\(So count xs ex inp.length 17 18 0 z0.2.1.length (eN.get z0.2.1) z0.2.2.length (eU.get z0.2.2) z1/\
  ∀ z:M3,I3 z->ag (bif decide (z.1<(xs.length:Int)) then decide ((z.2.1.length:Int)<14) else false)
   (eO xs.length z.1 (Sp I3 N count xs ex inp z (e4.nth xs (0+z.1.toNat))))
   (af (inR .i64 ((z.2.2.length:Int) - 1)) (eO z.2.2.length ((z.2.2.length:Int) - 1)
     (K1 10 inp.length {n:=inp.length,sz:=20,get:=eU.get inp,kd:= .own,nn:=false} 25 z.2.1.length {n:=z.2.1.length,sz:=26,get:=eN.get z.2.1,kd:= .own,nn:=false} (1+co count 900) (ci (nthD noU z.2.2 (0+((z.2.2.length:Int) - 1).toNat)))))))
noncomputable def T6 (K1:Nat->Nat->Blk->Nat->Nat->Blk->Int->List SV->Prop) (inp:List Un):Prop:=
 ∃ z0:M3,I2 z0/\(((TV.v (cI.enc 0)=TV.v (cI.enc z0.1)/\TV.v (.val (.slice none 0 0))=TV.v (.val (.slice none z0.2.2.length 0))/\S4 count xs ex)/\(True/\((mdC count inp.length (.val (.slice none 0 0))=mdC count inp.length (.val (.slice none z0.2.1.length 0))/\True)/\(z0.2.1.length=0/\(z0.2.2.length=0/\True)))))/\
  ∀ z:M3,I2 z->ag (decide (z.1<(inp.length:Int)))
   (LY z.2.1.length (eO inp.length z.1 (tO z.2.2.length (af (inR .i64 (z.1+1)) (∃ z':M3,I2 z'/\((4 - z'.1).toNat<(4 - z.1).toNat/\So count xs ex inp.length 29 39 (z.1+1) (z.2.1.length+1) (zo z.2.1 (nIn z.1)) (z.2.2.length+1) (Jz z.2.2 (nthD noU inp (0+z.1.toNat))) z'))))))
   (Ub I3 N count xs ex K1 inp z))
noncomputable def Tv (K1:Nat->Nat->Blk->Nat->Nat->Blk->Int->List SV->Prop) (j a0:Int) (x:M1):Prop:=
 af (pkB count 3) (ag (decide (j<=co count 3)) (af (uInt a0) (tO x.2.length (∃ x':M1,I1 x'/\((4 - x'.1).toNat<(4 - j).toNat/\Ua count xs ex 16 (j+1) (x.2.length+1) (Jz x.2 (BL a0)) x')))) (T6 I2 I3 N count xs ex K1 x.2))
noncomputable def mdT (K1:Nat->Nat->Blk->Nat->Nat->Blk->Int->List SV->Prop):Prop:=
 af (pkB count 900) (af (inR .i64 (1+co count 900)) (∃ x0:M1,I1 x0/\(((TV.v (cI.enc 0)=TV.v (cI.enc x0.1)/\S4 count xs ex)/\(True/\((md1 count (.val (.slice none 0 0))=md1 count (.val (.slice none x0.2.length 0))/\True)/\(x0.2.length=0/\True))))/\
  ((∀ x:M1,I1 x->(0,x.2)=x\/(1,x.2)=x\/(2,x.2)=x\/(3,x.2)=x\/False)/\((∀ x:M1,I1 (0,x.2)->Tv I1 I2 I3 N count xs ex K1 0 a.1 x)/\((∀ x:M1,I1 (1,x.2)->Tv I1 I2 I3 N count xs ex K1 1 a.2.1 x)/\((∀ x:M1,I1 (2,x.2)->Tv I1 I2 I3 N count xs ex K1 2 a.2.2 x)/\
    ((∀ x:M1,I1 (3,x.2)->af (pkB count 3) (ag (decide (3<=co count 3)) False (T6 I2 I3 N count xs ex K1 x.2)))/\True))))))))
end
theorem Tw (I1:M1->Prop) (I2 I3:M3->Prop) (N:Int) (a:Int×Int×Int) (count:Int) (xs:List I4) (ex:Bool) (K1:Nat->Nat->Blk->Nat->Nat->Blk->Int->List SV->Prop):TG I1 I2 I3 N a count xs ex K1=mdT I1 I2 I3 N a count xs ex K1:=by kernel_rfl
theorem S6:MOk TF:=MOk.nil.cons S0
theorem QU {y n:Int} {K:Prop} (hy:uInt y=true) (hn:0<n) (k:K):af (pkB y n) K:=ac (by unfold pkB;rw [hy,decide_eq_true hn];rfl) k
theorem Su (ni n:Int) (y:I4):(RR ni n y).op=opF y:=by
 have B: ∀ (b:Bool) (x z:Nd),x.op=opF y->z.op=opF y->(cond b x z).op=opF y:=fun b x z h k=>by cases b;exact k;exact h
 unfold RR;exact B _ _ _ rfl (B _ _ _ rfl (B _ _ _ rfl (B _ _ _ rfl rfl)))
theorem Tx (y:I4):1<=opF y/\opF y<=8:=by
 have:=gR y.1 (n:=8) (by decide);unfold opF;omega
theorem Sc {us:List Un} {u:Un} {z:List Un} (hz:z=us++ [u]):af (Nat.beq 20 20&&decide (z.length<=us.length+1)) (∀ e,e<z.length->Jz us u e=eU.get z e):=by
 subst hz;have hl:(us++ [u]).length=us.length+1:=by simp
 exact ac (by rw [hl,decide_eq_true (za0 _)];rfl) fun e he=>Fp (by omega)
theorem S7 {us:List Nd} {u:Nd} {z:List Nd} (hz:z=us++ [u]):af (Nat.beq 26 26&&decide (z.length<=us.length+1)) (∀ e,e<z.length->zo us u e=eN.get z e):=by
 subst hz;have hl:(us++ [u]).length=us.length+1:=by simp
 exact ac (by rw [hl,decide_eq_true (za0 _)];rfl) fun e he=>pO (by omega)
section
variable {I1:M1->Prop} {I2 I3:M3->Prop} {N:Int} {a:Int×Int×Int} {count:Int} {xs:List I4} {ex:Bool}
theorem Rh:S4 count xs ex:=⟨rfl,rfl,rfl,rfl,rfl,rfl,trivial⟩
theorem Ty {q:Nat} {p:Int} {us:List Un} {u:Un}:Ua count xs ex q p (us.length+1) (Jz us u) (p,us++ [u]):=
 ⟨⟨rfl,Rh⟩,trivial,⟨by simp,trivial⟩,Sc rfl,trivial⟩
theorem Sv {n0 q1 q2:Nat} {p:Int} {nod:List Nd} {us:List Un} {x:Nd} {u:Un}:So count xs ex n0 q1 q2 p (nod.length+1) (zo nod x) (us.length+1) (Jz us u) (p,nod++ [x],us++ [u]):=
 ⟨⟨rfl,by simp,Rh⟩,trivial,⟨by simp,trivial⟩,S7 rfl,Sc rfl,trivial⟩
theorem RL {n0 q1 q2:Nat} {p:Int} {nod:List Nd} {us:List Un}:So count xs ex n0 q1 q2 p nod.length (eN.get nod) us.length (eU.get us) (p,nod,us):=
 ⟨⟨rfl,rfl,Rh⟩,trivial,⟨rfl,trivial⟩,ac (by simp) (fun _ _=>rfl),ac (by simp) (fun _ _=>rfl),trivial⟩
theorem Tz {inp us:List Un} {x:Nd}:Tu inp us x=tyF inp us x:=by
 unfold Tu;rw [show eU.list inp.length (eU.get inp)=inp from El.list_get,show eU.list us.length (eU.get us)=us from El.list_get,fR]
theorem S8 {inp:List Un} {nod:List Nd} {us:List Un} {x:Nd} (h:MadOK inp (nod,us)) (hi: ∀ u∈inp,szB u=true) (hl:inp.length<=1000000) (hx:szN x=true) (ho:1<=x.op/\x.op<=8):S5 inp nod us x=true:=by
 have h1:us.length=nod.length:=h.len;have h2:nod.length<=14:=h.le;unfold S5 bW;rw [uf hl (show nod.length<=1000000 by omega) (El.good_get hi) (show eN.good szN nod.length (eN.get nod)=true from El.good_get h.szn) (by decide),zae (za0 _),zae (show us.length<=1000000 by omega),El.good_get h.szu,fR,hx,h1,decide_eq_true rfl,decide_eq_true ho.1,decide_eq_true ho.2];rfl
theorem S9 {inp:List Un} {q1 q2:Nat} {i:Int} {nod:List Nd} {us:List Un} {x:Nd} (h:MadOK inp (nod,us)) (hi: ∀ u∈inp,szB u=true) (hl:inp.length<=1000000) (hx:szN x=true) (ho:1<=x.op/\x.op<=8) (h0:0<=i) (h1:i<N) (hN:N<=9223372036854775807)
 (hS:I3 (i+1,match mn inp us x with
   |some u=>bif !ex||x.op !=8 then (nod++ [x],us++ [u]) else (nod,us)
   |none=>(nod,us))):Rg I3 N count xs ex inp q1 q2 (i,nod,us) x:=by
 have a1:us.length=nod.length:=h.len;have a2:nod.length<=14:=h.le;unfold Rg;rw [Tz];dsimp only;have no:(∃ z,z=(nod,us)/\I3 (i+1,z))->af (inR .i64 (i+1)) (∃ z':M3,I3 z'/\((N - z'.1).toNat<(N - i).toNat/\So count xs ex inp.length 25 26 (i+1) nod.length (eN.get nod) us.length (eU.get us) z')):=by
  rintro ⟨z,rfl,hz⟩;exact ac (inR64.2 (by omega)) ⟨(i+1,nod,us),hz,by show (_:Nat)<_;dsimp only;omega,RL⟩
 refine ac (S8 h hi hl hx ho) fun _ _=>ah (fun hb=> ?_) (fun hb=>no ?_)
 ·cases ht:mn inp us x with
  |none=>
   unfold tyF at hb;rw [ht] at hb;cases hb
  |some u=>
   rw [ht] at hS;have e:tyF inp us x=(u,0):=by unfold tyF;rw [ht]
   rw [e] at hb ⊢;have hc:(!ex||x.op !=8)=true:=by rw [<- QN];exact hb
   rw [hc] at hS;exact xp (by omega) (fV (by omega) (ac (inR64.2 (by omega)) ⟨(i+1,nod++ [x],us++ [u]),hS,by show (_:Nat)<_;dsimp only;omega,Sv⟩))
 ·cases ht:mn inp us x with
  |none=>rw [ht] at hS;exact ⟨_,rfl,hS⟩
  |some u=>
   rw [ht] at hS;have e:tyF inp us x=(u,0):=by unfold tyF;rw [ht]
   rw [e] at hb;have hc:(!ex||x.op !=8)=false:=by rw [<- QN];exact hb
   rw [hc] at hS;exact ⟨_,rfl,hS⟩
theorem SH {inp:List Un} {z:M3} {y:I4} (hy:uz4 y=true) (hi:1<=inp.length) (hz:1<=z.2.1.length) (h: ∀ q1 q2,Rg I3 N count xs ex inp q1 q2 z (RR inp.length z.2.1.length y)):Sp I3 N count xs ex inp z y:=by
 unfold uz4 at hy;simp only [za2] at hy;obtain ⟨⟨⟨y1,y2⟩,y3⟩,y4⟩:=hy;have b1:=gR y.1 (n:=8) (by decide);have b2:=gR y.2.1 (n:=13) (by decide);have b3:=gR y.2.2.1 (n:=4) (by decide);have b4:=gR y.2.2.1 (n:=5) (by decide);have E: ∀ {x:Nd} (q1 q2:Nat),RR inp.length z.2.1.length y=x->Rg I3 N count xs ex inp q1 q2 z x:=fun {x} q1 q2 e=>by rw [<- e];exact h q1 q2
 unfold RR opF at E;unfold Sp;refine QU y1 (by decide) (Fy (by omega) (ah (fun o1=> ?_) (fun o1=>ah (fun o2=> ?_) (fun o2=>ah (fun o7=> ?_) (fun o7=>ah (fun o8=> ?_) (fun o8=> ?_))))))
 ·refine QU y2 (by decide) (Fy (by omega) (QU y3 (by decide) (Fy (by omega) (ac (by rw [uInt_iff.2 (by omega),uInt_iff.2 (by omega)];rfl) (ac y4 (E _ _ ?_))))));rw [o1];rfl
 ·refine QU y2 (by omega) (E _ _ ?_);rw [o1,o2];rfl
 ·refine QU y2 (by omega) (QU y3 (by decide) (ac (by rw [decide_eq_true b4.1,decide_eq_true (show co y.2.2.1 5<((5:Nat):Int) from b4.2)];rfl) (ac (decide_eq_true (by omega)) (E _ _ ?_))));rw [o1,o2,o7];rfl
 ·refine QU y2 (by omega) (E _ _ ?_);rw [o1,o2,o7,o8];rfl
 ·refine QU y2 (by omega) (QU y3 (by omega) (E _ _ ?_));rw [o1,o2,o7,o8];rfl
end
def Ta (a:Int×Int×Int) (count:Int) (z:M1):Prop:=0<=z.1/\z.1<=co count 3+1/\z.2=QQ a z.1.toNat
def Tb (a:Int×Int×Int) (count:Int) (z:M3):Prop:=0<=z.1/\z.1<=co count 3+1/\z.2.1=R9 z.1.toNat/\z.2.2=QQ a z.1.toNat
def SI (a:Int×Int×Int) (count:Int) (xs:List I4) (ex:Bool) (z:M3):Prop:=0<=z.1/\z.1<=xs.length/\MadOK (QQ a ((co count 3).toNat+1)) z.2/\Rb a count xs ex=RT ex (QQ a ((co count 3).toNat+1)) (xs.drop z.1.toNat) z.2
def mdK (p:Pr) (i n:Nat) (B:Blk) (j m:Nat) (C:Blk) (id:Int) (rest:List SV):Prop:=i=10/\n=p.inp.length/\B=eU.own p.inp/\j=25/\m=p.nod.length/\C=eN.own p.nod/\id=p.id/\rest=ci p.out
theorem SJ {ex:Bool} {inp:List Un} {r:List I4} {z:List Nd×List Un} (h: ¬ z.1.length<14):RT ex inp r z=z:=by
 cases r with
 |nil=>rfl
 |cons y r=>unfold RT;rw [decide_eq_false h];rfl
theorem TA {a:Int×Int×Int} {count:Int} {xs:List I4} {ex:Bool} {z0:M3} (hx: ∀ y∈xs,uz4 y=true) (hn:xs.length<=9223372036854775807) (h1:z0.2.1=R9 ((co count 3).toNat+1)) (h2:z0.2.2=QQ a ((co count 3).toNat+1)):
 Ub (SI a count xs ex) xs.length count xs ex (mdK (Bd a count xs ex)) (QQ a ((co count 3).toNat+1)) z0:=by
 have hK:=Rc (count:=count);have hi:(QQ a ((co count 3).toNat+1)).length=(co count 3).toNat+1:=QR;refine ⟨(0,z0.2),⟨zat _,by show (0:Int)<=_;omega, ?_, ?_⟩,RL, ?_⟩
 ·show MadOK _ (z0.2.1,z0.2.2);rw [h1,h2];exact ⟨by rw [QR,QZ],by rw [QZ];exact hK.1,by rw [QZ];omega,Si (za0 _),RU,QT QY⟩
 ·show _=RT _ _ xs (z0.2.1,z0.2.2);rw [h1,h2];rfl
 rintro ⟨i,nod,us⟩ ⟨k0,k1,k2,k3⟩;dsimp only at k0 k1 k2 k3 ⊢;have ln:us.length=nod.length:=k2.len;have l1:1<=nod.length:=k2.pos;have l2:nod.length<=14:=k2.le;refine ah (fun hb=> ?_) (fun hb=> ?_)
 ·rw [QM,za2] at hb;have b1:=of_decide_eq_true hb.1;have b2:nod.length<14:=by have:=of_decide_eq_true hb.2;omega
  have hd:xs.drop i.toNat=nthD (0,0,0,0) xs i.toNat::xs.drop (i+1).toNat:=by
   rw [show (i+1).toNat=i.toNat+1 by omega,zaH (show i.toNat<xs.length by omega),bR (zaa _)]
  rw [hd,RT,decide_eq_true (show (nod,us).1.length<14 from b2),cond_true] at k3;rw [za7];have hy:uz4 (nthD (0,0,0,0) xs i.toNat)=true:=hx _ (bw (by omega));refine aY k0 b1 (SH (y:=nthD (0,0,0,0) xs i.toNat) hy (by omega) l1 fun q1 q2=> ?_);refine S9 k2 (QT QY) (by omega) (Sr _ _ _) (by rw [Su];exact Tx _) k0 b1 (by omega) ?_;rw [Su];have st:=k2.step (ex:=ex) (y:=nthD (0,0,0,0) xs i.toNat) (QT QY) b2;exact ⟨by show 0<=i+1;omega,by show i+1<=_;omega,st,k3⟩
 ·have hz:Rb a count xs ex=(nod,us):=by
   rw [k3];rw [QM] at hb;by_cases c:i<xs.length
   ·rw [decide_eq_true c,zb6] at hb;have:=of_decide_eq_false hb;exact SJ (by show ¬ nod.length<14;omega)
   ·rw [show i.toNat=xs.length by omega,zbj];rfl
  refine ac (inR64.2 (by omega)) (aY (by omega) (by omega) ⟨rfl,rfl,rfl,rfl, ?_, ?_,rfl, ?_⟩)
  ·show nod.length=(Rb a count xs ex).1.length;rw [hz]
  ·show _=eN.own (Rb a count xs ex).1;rw [hz];rfl
  ·show _=ci (ly (Rb a count xs ex).2);rw [hz,show 0+((us.length:Int) - 1).toNat=us.length - 1 by omega];rfl
theorem Sw {a:Int×Int×Int} {count:Int} {xs:List I4} {ex:Bool} {inp:List Un} (hx: ∀ y∈xs,uz4 y=true) (hn:xs.length<=9223372036854775807) (h:inp=QQ a ((co count 3).toNat+1)):
 T6 (Tb a count) (SI a count xs ex) xs.length count xs ex (mdK (Bd a count xs ex)) inp:=by
 subst h;have hK:=Rc (count:=count);have hp:=gR count (n:=3) (by decide);have hi:(QQ a ((co count 3).toNat+1)).length=(co count 3).toNat+1:=QR;refine ⟨(0, [], []),⟨zat _,by show (0:Int)<=_;omega,rfl,rfl⟩,⟨⟨rfl,rfl,Rh⟩,trivial,⟨rfl,trivial⟩,rfl,rfl,trivial⟩, ?_⟩;rintro ⟨i,nod,us⟩ ⟨k0,k1,k2,k3⟩;dsimp only at k0 k1 k2 k3 ⊢;refine ah (fun hb=> ?_) (fun hb=> ?_)
 ·have hb:=of_decide_eq_true hb;have l1:nod.length=i.toNat:=by rw [k2,QZ]
  have l2:us.length=i.toNat:=by rw [k3,QR]
  rw [za7];have e1:(i+1).toNat=i.toNat+1:=by omega
  refine xp (by omega) (aY k0 hb (fV (by omega) (ac (inR64.2 (by omega)) ⟨(i+1,nod++ [nIn i],us++ [nthD noU (QQ a ((co count 3).toNat+1)) i.toNat]),⟨by show 0<=i+1;omega,by show i+1<=_;omega, ?_, ?_⟩,by show (_:Nat)<_;dsimp only;omega,Sv⟩)))
  ·show nod++ [nIn i]=R9 (i+1).toNat;rw [e1,k2];show _=R9 i.toNat++ [nIn (i.toNat:Nat)];rw [show ((i.toNat:Nat):Int)=i by omega]
  ·show us++ [_]=QQ a (i+1).toNat;rw [e1,k3];show _=QQ a i.toNat++ [BL (nthD 0 [a.1,a.2.1,a.2.2] i.toNat)];rw [show nthD noU (QQ a ((co count 3).toNat+1)) i.toNat=BL (nthD 0 [a.1,a.2.1,a.2.2] i.toNat) from bR (qX _ (by omega))]
 ·have hb:=of_decide_eq_false hb;have e:i.toNat=(co count 3).toNat+1:=by omega
  exact TA hx hn (by rw [<- e];exact k2) (by rw [<- e];exact k3)
theorem RW {a:Int×Int×Int} {count:Int} {xs:List I4} {ex:Bool} {j a0:Int} {x:M1} (hc:uInt count=true) (ha:uInt a0=true) (hx: ∀ y∈xs,uz4 y=true) (hn:xs.length<=9223372036854775807) (hj:0<=j/\j<=2) (he:nthD 0 [a.1,a.2.1,a.2.2] j.toNat=a0) (h:Ta a count (j,x.2)):
 Tv (Ta a count) (Tb a count) (SI a count xs ex) xs.length count xs ex (mdK (Bd a count xs ex)) j a0 x:=by
 obtain ⟨k0,k1,k2⟩:=h;dsimp only at k0 k1 k2;have l2:x.2.length=j.toNat:=by rw [k2,QR]
 refine QU hc (by decide) (ah (fun hb=> ?_) (fun hb=> ?_))
 ·have hb:=of_decide_eq_true hb;have e1:(j+1).toNat=j.toNat+1:=by omega
  refine ac ha (fV (by omega) ⟨(j+1,x.2++ [BL a0]),⟨by show 0<=j+1;omega,by show j+1<=_;omega, ?_⟩,by show (_:Nat)<_;dsimp only;omega,Ty⟩);show x.2++ [BL a0]=QQ a (j+1).toNat;rw [e1,k2];show _=QQ a j.toNat++ [BL (nthD 0 [a.1,a.2.1,a.2.2] j.toNat)];rw [he]
 ·have hb:=of_decide_eq_false hb;have hp:=gR count (n:=3) (by decide);exact Sw hx hn (by rw [k2];congr 1;omega)
theorem T7 {a:Int×Int×Int} {count:Int} {xs:List I4} {ex:Bool} (h0:uInt a.1=true) (h1:uInt a.2.1=true) (h2:uInt a.2.2=true) (hc:uInt count=true) (hx: ∀ y∈xs,uz4 y=true) (hn:xs.length<=9223372036854775807):
 mdT (Ta a count) (Tb a count) (SI a count xs ex) xs.length a count xs ex (mdK (Bd a count xs ex)):=by
 have hp:=gR count (n:=3) (by decide);have hq:=gR count (n:=900) (by decide);refine QU hc (by decide) (Fy (by omega) ⟨(0, []),⟨zat _,by show (0:Int)<=_;omega,rfl⟩,⟨⟨rfl,Rh⟩,trivial,⟨rfl,trivial⟩,rfl,trivial⟩, ?_,fun x hI=>RW hc h0 hx hn (by decide) rfl hI,fun x hI=>RW hc h1 hx hn (by decide) rfl hI,fun x hI=>RW hc h2 hx hn (by decide) rfl hI,fun x hI=> ?_,trivial⟩)
 ·rintro ⟨i,us⟩ ⟨k0,k1,_⟩;dsimp only at k0 k1;rcases (show i=0\/i=1\/i=2\/i=3 by omega) with rfl|rfl|rfl|rfl
  ·exact .inl rfl
  ·exact .inr (.inl rfl)
  ·exact .inr (.inr (.inl rfl))
  ·exact .inr (.inr (.inr (.inl rfl)))
 ·obtain ⟨_,k1,k2⟩:=hI;dsimp only at k1 k2;refine QU hc (by decide) (ah (fun hb=> ?_) (fun hb=>Sw hx hn (by rw [k2];congr 1;show (3:Int).toNat=_;omega)));have:=of_decide_eq_true hb;omega
theorem SK {K1:Nat->Nat->Blk->Nat->Nat->Blk->Int->List SV->Prop} {r:Res} {b:Nat->Option Blk} {m:Nat} {w:List Nat} (h:prS K1 r b m w): ∃ id i n j m B C rest,r= .ok (.agg (.val (.int .i64 id):: .slc i 0 n:: .slc j 0 m::rest))/\b i=some B/\b j=some C/\K1 i n B j m C id rest:=by
 unfold prS at h;split at h
 ·rename_i id i n j m rest;split at h
  ·rename_i B C hB hC;exact ⟨id,i,n,j,m,B,C,rest,rfl,hB,hC,h⟩
  ·exact h.elim
 ·exact h.elim
theorem Tc: ∀ B:Base,GlobB B->MCtrOK Tryz.prog B 23 SQ:=Sh S6 fun bl nx args C hk hp=>by
 unfold SQ at hk;split at hk
 ·rename_i a b c k s ex;split at hk
  ·rename_i bb o n g hs;simp only [za1] at hk;subst hk;simp only [za2,decide_eq_true_eq] at hp;obtain ⟨⟨⟨⟨⟨⟨rfl,hn⟩,hg⟩,h0⟩,h1⟩,h2⟩,hc⟩:=hp;obtain ⟨t1,t2⟩:=cq (f:=rnF [o] [] nx) hs hg;have hlen:(e4.list n g).length=n:=El.list_length;have hold: ∀ C∈ [e4.old (e4.list n g)],cN C.kd=false/\C.kd.map=false:=by simp [cN,El.old,BK.map]
   have ml:=Sb (a:=(a,b,c)) (count:=k) (xs:=e4.list n g) (ex:=ex);refine ⟨[o], [e4.old (e4.list n g)], [.agg [.val (.int .i64 a), .val (.int .i64 b), .val (.int .i64 c)], .val (.int .i64 k), .slc 0 0 (e4.list n g).length, .val (.bool ex)],St (Ta (a,b,c) k) (Tb (a,b,c) k) (SI (a,b,c) k (e4.list n g) ex) (e4.list n g).length,6,aw t1 trivial,bH (fun C hC=>(hold C hC).1),cd (fun C hC=>(hold C hC).2),ar rfl (ar rfl (ar (t2 0 rfl) rfl)), ?_⟩;refine Q8 (K:=prS (mdK (Bd (a,b,c) k (e4.list n g) ex))) ?_ fun r bl' m w h=> ?_
   ·have:=Tw (Ta (a,b,c) k) (Tb (a,b,c) k) (SI (a,b,c) k (e4.list n g) ex) (e4.list n g).length (a,b,c) k (e4.list n g) ex (mdK (Bd (a,b,c) k (e4.list n g) ex));show TG _ _ _ _ (a,b,c) k (e4.list n g) ex _;rw [this];exact T7 h0 h1 h2 hc (El.good_list hg) (by omega)
   ·generalize Bd (a,b,c) k (e4.list n g) ex=p at h ml;obtain ⟨id,i,n',j,m',B,C,rest,rfl,hB,hC,rfl,rfl,rfl,rfl,rfl,rfl,rfl,rfl⟩:=SK h;have e:=rns_free (f:=dt [o] [some 10,some 25] nx) (fj p.out);have e0:dt [o] [some 10,some 25] nx nx=some (some 10):=cO;have e1:dt [o] [some 10,some 25] nx (nx+1)=some (some 25):=jA 1;refine ⟨(),trivial, [some 10,some 25],⟨_,rfl, ?_⟩,by simp [ck],⟨⟨by simp, ?_⟩,⟨by simp, ?_⟩,trivial⟩,cr (fun C hC=>(hold C hC).1) rfl _⟩
    ·show SV.rn (dt [o] [some 10,some 25] nx) (TJ nx p)=_;unfold TJ;exact gv (ar rfl (ar (by simp only [SV.rn,e0]) (ar (by simp only [SV.rn,e1]) e)))
    ·rw [hB];exact ⟨by simp [El.own],fun _=>⟨ml.1,eU.one⟩,gC rfl rfl (za0 _) fun _ _=>rfl⟩
    ·rw [hC];exact ⟨by simp [El.own],fun _=>⟨ml.2.2.1,eN.one⟩,gC rfl rfl (za0 _) fun _ _=>rfl⟩
  ·cases hk
 ·cases hk
end Go.Proofs.YtahblkeackebaaaGreatDoor
namespace Yk
open Go Go.RowKit Go.ChangeShapes Go.WideShapes
section
variable {H:Type} {enc:TypeId×Value->H} {P:Program} {w:World} {base b0:Nat} {spare:Nat->Bool} {held:Bool} {r:Reach} {v:Value} {d:DataW H} {ps:List MemPlace}
theorem Dk {e:TypeId} {k:IntKind} {m:Nat} (he:P.underlying e=some (.int k)): ∀ (cs:List Value) (xs:List (DataW H×List MemPlace)),cs.length=xs.length->
 (∀ i,i<xs.length->DataW.trod enc P w base spare held m e ((cs.drop i).take 1)=xs[i]?)-> ∃ zs:List Int,cs=zs.map (Value.int k)/\ ∀ z∈zs,(Lit.int k z).wf=true
 | [], [],_,_=>⟨[],rfl,by simp⟩
 |c::cs,x::xs,hl,h=>by
  have h0:=h 0 (by simp);simp only [zaZ,List.take_succ_cons,zbv,zbB] at h0;obtain ⟨z,e1,_,wz⟩:=DataW.trod_int he h0;obtain ⟨zs,i1,i3⟩:=Dk he cs xs (by simpa using hl) (fun i hi=>by have:=h (i+1) (by simpa using hi);simpa using this);refine ⟨z::zs, ?_, ?_⟩
  ·simp only [zcc,and_true] at e1;rw [e1,i1];rfl
  ·intro y hy;rcases zai.1 hy with rfl|hy
   ·exact wz
   ·exact i3 y hy
theorem FG {t e:TypeId} {n:Nat} {k:IntKind} (ht:P.underlying t=some (.array n e)) (he:P.underlying e=some (.int k)) (ce:P.cellsOf e=1) (ct:P.cellsOf t=n)
 (hval:Value.okWide P w r b0 t v) (hd:DataW.Trod enc P w base spare held t v d ps): ∃ zs:List Int,v= .agg (zs.map (Value.int k)).toArray/\zs.length=n/\ ∀ z∈zs,(Lit.int k z).wf=true:=by
 simp only [Value.okWide,ht] at hval;obtain ⟨cs,rfl,hcs,_⟩:=hval;obtain ⟨fuel,hf⟩:=hd;obtain ⟨xs,m,_,_,hl,hn,hel⟩:=DataW.trod_array ht hf;rw [ce] at hel;simp only [Value.cells,zc0] at hel hl;obtain ⟨zs,h1,h2⟩:=Dk he cs.toList xs (by rw [hl,hn,ct]) (fun i hi=>hel i (by omega));refine ⟨zs,by rw [<- h1], ?_,h2⟩;have:=congrArg List.length h1;rw [zaB] at this;omega
theorem ki {z:Int} (h:(Lit.int .i64 z).wf=true): -9223372036854775808<=z/\z<=9223372036854775807:=bounds_i64 h
theorem BR {t e:TypeId} (ht:P.underlying t=some (.array 2 e)) (he:P.underlying e=some (.int .i64)) (ce:P.cellsOf e=1) (ct:P.cellsOf t=2)
 (hval:Value.okWide P w r b0 t v) (hd:DataW.Trod enc P w base spare held t v d ps): ∃ x0 x1:Int,v= .agg #[.int .i64 x0, .int .i64 x1]/\
   (-9223372036854775808<=x0/\x0<=9223372036854775807)/\(-9223372036854775808<=x1/\x1<=9223372036854775807):=by
 obtain ⟨zs,rfl,hl,hw⟩:=FG ht he ce ct hval hd
 match zs,hl,hw with
 | [x0,x1],_,hw=>exact ⟨x0,x1,rfl,ki (hw x0 (by simp)),ki (hw x1 (by simp))⟩
end
theorem wd {H:Type} {enc:TypeId×Value->H} {P:Program} (hl:laidOutB P=true) {W W':World} (hb:Below W.heap.size W W'): ∀ (ts:List TypeId) (vs:List Value) (ds:List (DataW H)) (p:List MemPlace),
 (∀ t∈ts,P.readableRec t=true/\t<P.types.size)->(∀ x∈p,x.block<W.heap.size)->DataW.TrodAll enc P W 0 (fun _=>true) true ts vs ds p->DataW.TrodAll enc P W' 0 (fun b=>decide (b<W.heap.size)) true ts vs ds p
 | [], [], [],_,_,_,h=>h
 |t::ts,v::vs,d::ds,_,hr,hp,h=>by
  obtain ⟨p,q,h1,h2,rfl⟩:=h;exact ⟨p,q,Below.trod hl (hr t (by simp)).1 (hr t (by simp)).2 h1 hb (fun x hx=>hp x (by simp [hx])),wd hl hb ts vs ds q (fun t ht=>hr t (by simp [ht])) (fun x hx=>hp x (by simp [hx])) h2,rfl⟩
 | [], [],_::_,_,_,_,h=>h.elim
 | [],_::_,_,_,_,_,h=>h.elim
 |_::_, [],_,_,_,_,h=>h.elim
 |_::_,_::_, [],_,_,_,h=>h.elim
inductive Leaf where
 |int (k:IntKind)
 |bool
 |str
def Leaf.ok:Leaf->Value->Prop
 | .int k,v=> ∃ z,v= .int k z/\k.min<=z/\z<=k.max
 | .bool,v=> ∃ b,v= .bool b
 | .str,v=> ∃ s:ByteArray,v= .string s/\s.size<=maxLen
def okL:List Leaf->List Value->Prop
 | [], []=>True
 |l::ls,v::vs=>l.ok v/\okL ls vs
 |_,_=>False
theorem Q9: ∀ {a b:List Leaf} {u v:List Value},okL a u->okL b v->okL (a++b) (u++v)
 | [],_, [],_,_,h=>h
 |_::_,_,_::_,_,h,k=>⟨h.1,Q9 h.2 k⟩
 | [],_,_::_,_,h,_=>h.elim
 |_::_,_, [],_,h,_=>h.elim
def Ri (P:Program) (g:TypeId->Option (List Leaf)):List Field->Nat->Option (List Leaf)
 | [],_=>some []
 |f::fs,off=>match g f.type with
  |some l=>if P.cellsOf f.type=l.length/\f.offset=off then (match Ri P g fs (off+l.length) with
   |some r=>some (l++r)
   |none=>none) else none
  |none=>none
def QV (P:Program):Nat->TypeId->Option (List Leaf)
 |0,_=>none
 |d+1,t=>match P.underlying t with
  |some .bool=>some [.bool]
  |some (.int k)=>some [.int k]
  |some .string=>some [.str]
  |some (.array n e)=>match QV P d e with
   |some l=>if P.cellsOf e=l.length/\P.cellsOf t=n*l.length then some (List.replicate n l).flatten else none
   |none=>none
  |some (.struct fs)=>match Ri P (QV P d) fs.toList 0 with
   |some l=>if P.cellsOf t=l.length then some l else none
   |none=>none
  |_=>none
section
variable {H:Type} {enc:TypeId×Value->H} {P:Program} {w:World} {base:Nat} {spare:Nat->Bool} {held:Bool}
theorem Sx {l:List Leaf}: ∀ (n:Nat) (cs:List Value),cs.length=n*l.length->(∀ i,i<n->okL l ((cs.drop (i*l.length)).take l.length))->okL (List.replicate n l).flatten cs
 |0,cs,hl,_=>by
  have:cs= []:=zau (by omega);subst this;trivial
 |n+1,cs,hl,h=>by
  rw [zci,List.flatten_cons,<- zdt l.length cs];refine Q9 (by simpa using h 0 (by omega)) (Sx n _ (by rw [zbR,hl,zaG];omega) fun i hi=> ?_);have:=h (i+1) (by omega);rw [List.drop_drop];rwa [zaG,Nat.one_mul,zb3] at this
theorem Rj {g:TypeId->Option (List Leaf)} (hg: ∀ {fuel:Nat} {t:TypeId} {cs:List Value} {x:DataW H×List MemPlace} {l:List Leaf},g t=some l->DataW.trod enc P w base spare held fuel t cs=some x->okL l cs):
 ∀ {fs:List Field} {off:Nat} {cs:List Value} {l:List Leaf},Ri P g fs off=some l->off+l.length<=cs.length->
 (∀ f∈fs,∃ fuel x,DataW.trod enc P w base spare held fuel f.type ((cs.drop f.offset).take (P.cellsOf f.type))=some x)->okL l ((cs.drop off).take l.length)
 | [],off,cs,l,h,_,_=>by simp [Ri] at h;subst h;simp [okL]
 |f::fs,off,cs,l,h,hl,hf=>by
  rw [Ri] at h;split at h
  ·rename_i a ha;split at h
   ·rename_i hc;split at h
    ·rename_i r hr;cases h;simp only [za3] at hl ⊢;obtain ⟨fuel,x,h1⟩:=hf f (by simp);rw [hc.1,hc.2] at h1;have h2:=Rj hg hr (cs:=cs) (by omega) (fun g hg=>hf g (zan _ hg));rw [List.take_add,List.drop_drop];exact Q9 (hg ha h1) h2
    ·cases h
   ·cases h
  ·cases h
theorem FB: ∀ (d:Nat) {fuel:Nat} {t:TypeId} {cs:List Value} {x:DataW H×List MemPlace} {l:List Leaf},QV P d t=some l->DataW.trod enc P w base spare held fuel t cs=some x->okL l cs
 |0,_,_,_,_,_,h,_=>by simp [QV] at h
 |d+1,fuel,t,cs,x,l,h,hx=>by
  rw [QV] at h;split at h
  ·rename_i ht;obtain ⟨b,rfl,_⟩:=DataW.trod_bool ht hx;cases h;exact ⟨⟨b,rfl⟩,trivial⟩
  ·rename_i k ht;obtain ⟨z,rfl,_,hw⟩:=DataW.trod_int ht hx;cases h;simp only [Lit.wf,za2,decide_eq_true_eq] at hw;exact ⟨⟨z,rfl,hw⟩,trivial⟩
  ·rename_i ht;obtain ⟨s,rfl,_,hs⟩:=DataW.trod_string ht hx;cases h;exact ⟨⟨s,rfl,hs⟩,trivial⟩
  ·rename_i n e ht;split at h
   ·rename_i le hle;split at h
    ·rename_i hc;cases h;obtain ⟨xs,m,_,_,hl,hn,hel⟩:=DataW.trod_array ht hx;rw [hc.2] at hl;rw [hc.1] at hel;refine Sx n cs hl fun i hi=> ?_;have:=hel i hi;rw [zaa (by omega)] at this;exact FB d hle this
    ·cases h
   ·cases h
  ·rename_i fs ht;split at h
   ·rename_i lf hlf;split at h
    ·rename_i hc;cases h;obtain ⟨xs,m,_,_,hl,hn,hel⟩:=DataW.trod_struct ht hx;rw [hc] at hl
     have:=Rj (g:=QV P d) (fun h1 h2=>FB d h1 h2) (fs:=fs.toList) (off:=0) (cs:=cs) hlf (by omega) (fun f hf=>by
      obtain ⟨i,hi,e⟩:=zbS hf;have h1:=hel i f (by rw [<- Array.getElem?_toList];rw [zaa hi,e]);rw [zaa (by simp at hi;omega)] at h1
      exact ⟨_,_,h1⟩)
     rwa [zaZ,zaI (by omega)] at this
    ·cases h
   ·cases h
  ·cases h
end
theorem Rk {l:Leaf} {ls:List Leaf} {vs:List Value} (h:okL (l::ls) vs): ∃ v r,vs=v::r/\l.ok v/\okL ls r:=by
 match vs,h with
 |v::r,h=>exact ⟨v,r,rfl,h.1,h.2⟩
theorem TB {vs:List Value} (h:okL [] vs):vs= []:=by
 match vs,h with
 | [],_=>rfl
end Yk
namespace Yk
open Go Go.RowKit Go.ChangeShapes Go.WideShapes Go.Sy
section
variable {H:Type} {enc:TypeId×Value->H} {P:Program} {w:World} {base:Nat}
theorem u64 {z:Int} (h:IntKind.i64.min<=z/\z<=IntKind.i64.max):uInt z=true:=by
 exact inR_iff.2 h
theorem Sd {fuel:Nat} {e:TypeId} {a:Addr} {x:DataW H×List MemPlace} {spare:Nat->Bool} {held:Bool} (he:QV P 9 e=some [.int .i64, .int .i64, .int .i64, .int .i64]) (hs:a.spot=none) {i:Nat}
 (h:(w.cells? base (a.add (i*4)) 4).bind (DataW.trod enc P w base spare held fuel e)=some x): ∃ y:I4,uz4 y=true/\ ∀ o z,(RQ y)[o]? =some z->w.cell? ⟨a.block,a.off+i*4+o,none⟩=some (z.conc oj):=by
 rw [Option.bind_eq_some_iff] at h;obtain ⟨cs,hc,hx⟩:=h;obtain ⟨_,hl,hget⟩:=World.cells?_some hc;have hk:=FB 9 he hx;have ad: ∀ o,(a.add (i*4)).add o=⟨a.block,a.off+i*4+o,none⟩:=fun o=>by
  obtain ⟨b,f,s⟩:=a;obtain rfl:s=none:=hs;unfold Addr.add;split<;>split<;>simp_all<;>omega
 obtain ⟨_,_,rfl,⟨y0,rfl,b0⟩,h1⟩:=Rk hk;obtain ⟨_,_,rfl,⟨y1,rfl,b1⟩,h2⟩:=Rk h1;obtain ⟨_,_,rfl,⟨y2,rfl,b2⟩,h3⟩:=Rk h2;obtain ⟨_,_,rfl,⟨y3,rfl,b3⟩,h4⟩:=Rk h3;obtain rfl:=TB h4;refine ⟨(y0,y1,y2,y3),by unfold uz4;rw [u64 b0,u64 b1,u64 b2,u64 b3];rfl,fun o z hz=> ?_⟩;have ho:o<4:=by
  rcases zah o 4 with h|h
  ·exact h
  ·rw [zad (by show 4<=o;exact h)] at hz;cases hz
 rw [<- ad,hget o ho];rcases (show o=0\/o=1\/o=2\/o=3 by omega) with rfl|rfl|rfl|rfl<;>(simp [RQ] at hz;subst hz;rfl)
def Uc (P:Program) (t e:TypeId):Bool:=match P.cellTypes P.depth t with
 |some l=>l.length==12&&l[4]? ==some e
 |none=>false
theorem Td {r:Reach} {b0:Nat} {v:Value} {dd:DataW H} {ps:List MemPlace} {held:Bool} {t e:TypeId} {fs:Array Go.Field} {f0 f1 f2 f3 f4:Go.Field} (hu:P.underlying t=some (.struct fs)) (hfs:fs.toList= [f0,f1,f2,f3,f4]) (hc:P.cellsOf t=12)
 (h0:f0.offset=0/\P.cellsOf f0.type=3/\QV P 9 f0.type=some [.int .i64, .int .i64, .int .i64]) (h1:f1.offset=3/\P.cellsOf f1.type=1/\QV P 9 f1.type=some [.int .i64]) (h2:f2.offset=4/\P.cellsOf f2.type=1/\P.underlying f2.type=some (.slice e))
 (h3:f3.offset=5/\P.cellsOf f3.type=1/\QV P 9 f3.type=some [.bool]) (h4:f4.offset=6/\P.cellsOf f4.type=6/\QV P 9 f4.type=some [.int .i64, .int .i64, .int .i64, .int .i64, .int .i64, .int .i64])
 (he:P.cellsOf e=4/\QV P 9 e=some [.int .i64, .int .i64, .int .i64, .int .i64]) (ht:Uc P t f2.type=true)
 (hval:Value.okWide P w r b0 t v) (hd:DataW.Trod enc P w base (fun _=>true) held t v dd ps): ∃ (c:Cas) (L:Go.Sy.Loc),v=(Rs c c.x.length).conc (fun _=>L)/\c.ok=true/\BlkOK (fun _=>L) 0 (e4.old c.x) w/\c.x.length<=maxLen:=by
 simp only [Value.okWide,hu] at hval;obtain ⟨cs,rfl,hsz,ts,hts,_,hrow⟩:=hval;have ht4:ts.length=12/\ts[4]? =some f2.type:=by
  unfold Uc at ht;rw [hts] at ht;simpa using ht
 obtain ⟨fuel,hf⟩:=hd;obtain ⟨xs,m,_,_,hl,hn,hel⟩:=DataW.trod_struct hu hf;have hL:cs.toList.length=12:=by rw [Array.length_toList,hsz,hc]
 have fld: ∀ (i:Nat) (f:Go.Field),fs.toList[i]? =some f-> ∃ x,DataW.trod enc P w base (fun _=>true) held m f.type ((cs.toList.drop f.offset).take (P.cellsOf f.type))=some x:=fun i f hi=>by
  have h1:=hel i f (by rw [<- Array.getElem?_toList];exact hi);have hlt:i<fs.toList.length:=(zaV.1 hi).1;rw [zaa (by simp at hlt;omega)] at h1;exact ⟨_,h1⟩
 rw [hfs] at fld;obtain ⟨cs⟩:=cs;dsimp only at hL fld hrow ⊢
 match cs,hL with
 | [c0,c1,c2,c3,c4,c5,c6,c7,c8,c9,ca,cb],_=>
 obtain ⟨x0,k0⟩:=fld 0 f0 rfl;obtain ⟨x1,k1⟩:=fld 1 f1 rfl;obtain ⟨x2,k2⟩:=fld 2 f2 rfl;obtain ⟨x3,k3⟩:=fld 3 f3 rfl;obtain ⟨x4,k4⟩:=fld 4 f4 rfl;rw [h0.1,h0.2.1] at k0;rw [h1.1,h1.2.1] at k1;rw [h2.1,h2.2.1] at k2;rw [h3.1,h3.2.1] at k3;rw [h4.1,h4.2.1] at k4;obtain ⟨⟨a0,rfl,b0⟩,⟨a1,rfl,b1⟩,⟨a2,rfl,b2⟩,_⟩:=FB 9 h0.2.2 k0;obtain ⟨⟨a3,rfl,b3⟩,_⟩:=FB 9 h1.2.2 k1;obtain ⟨⟨a5,rfl⟩,_⟩:=FB 9 h3.2.2 k3;obtain ⟨⟨a6,rfl,b6⟩,⟨a7,rfl,b7⟩,⟨a8,rfl,b8⟩,⟨a9,rfl,b9⟩,⟨aa,rfl,ba⟩,⟨ab,rfl,bb⟩,_⟩:=FB 9 h4.2.2 k4;have hcell:=hrow 4 c4 rfl;obtain ⟨u,hu',hok⟩:=hcell;rw [ht4.1,ht4.2] at hu';simp only [za1] at hu';subst hu';rcases DataW.trod_slice h2.2.2 k2 with ⟨hs,_⟩|⟨a,len,cap,elems,rest,n,_,hs,_,_,hle,hcap,hlen,hget,hsp,_⟩
 ·simp only [List.drop_succ_cons,zaZ,List.take_succ_cons,zbv,zcc,and_true] at hs;subst hs;refine ⟨⟨(a0,a1,a2),a3, [],a5,((a6,a7),(a8,a9),(aa,ab))⟩,⟨0,0,4,0,true⟩,rfl, ?_, ?_,zaA _⟩
  ·unfold Cas.ok;rw [u64 b0,u64 b1,u64 b2,u64 b3,u64 b6,u64 b7,u64 b8,u64 b9,u64 ba,u64 bb];rfl
  ·exact ⟨rfl,fun h=>(by cases h),za0 _,fun e he=>absurd he (zbn e),fun j hj=>(by simp at hj),fun h=>(by cases h),fun e he=>absurd he (zbn e),fun _=>rfl,fun h=>(by cases h)⟩
 ·simp only [List.drop_succ_cons,zaZ,List.take_succ_cons,zbv,zcc,and_true] at hs;subst hs;have hb:a.spot=none/\a.block<w.heap.size:=by
   unfold Cell.okWide at hok;simp only [h2.2.2] at hok;unfold Cell.ok at hok;simp only [h2.2.2] at hok;obtain ⟨_,_,_,hsp,row,cells,hsh,_⟩:=hok;refine ⟨hsp, ?_⟩;unfold World.shape? at hsh;rcases zah a.block w.heap.size with h|h
   ·exact h
   ·rw [zcJ h] at hsh;cases hsh
  obtain ⟨hrl,hrest⟩:=hsp rfl;rw [he.1] at hget hrest;have each: ∀ i,∃ y:I4,i<cap->uz4 y=true/\ ∀ o z,(RQ y)[o]? =some z->w.cell? ⟨a.block,a.off+i*4+o,none⟩=some (z.conc oj):=fun i=>by
   by_cases hi:i<cap
   ·by_cases hi':i<len
    ·have:=hget i hi';rw [zaa (by omega)] at this;obtain ⟨y,h⟩:=Sd he.2 hb.1 this;exact ⟨y,fun _=>h⟩
    ·have:=hrest (i - len) (by omega);rw [show len+(i - len)=i by omega,zaa (by omega)] at this;obtain ⟨y,h⟩:=Sd he.2 hb.1 this;exact ⟨y,fun _=>h⟩
   ·exact ⟨(0,0,0,0),fun h=>absurd h hi⟩
  obtain ⟨g,hg⟩:=Classical.axiomOfChoice each;have hlx:(Go.Sy.tab g len).length=len:=fJ _ _;refine ⟨⟨(a0,a1,a2),a3,Go.Sy.tab g len,a5,((a6,a7),(a8,a9),(aa,ab))⟩,⟨a.block,a.off,4,cap,false⟩, ?_, ?_, ?_, ?_⟩
  ·have:SV.conc (fun _=>(⟨a.block,a.off,4,cap,false⟩:Go.Sy.Loc)) (.slc 0 0 (Go.Sy.tab g len).length)= .slice (some a) len cap:=by
    rw [jq rfl (.inr rfl),hlx];obtain ⟨b,f,s⟩:=a;obtain rfl:s=none:=hb.1;simp [addr]
   unfold Rs;simp only [SV.conc,SV.concs] at this ⊢;rw [this]
  ·unfold Cas.ok
   rw [u64 b0,u64 b1,u64 b2,u64 b3,u64 b6,u64 b7,u64 b8,u64 b9,u64 ba,u64 bb,show (Go.Sy.tab g len).all uz4=true from zaf.2 fun y hy=>by
    obtain ⟨i,hi⟩:=zbz hy;have hlt:i<len:=by have:=(zaV.1 hi).1;omega
    rw [qX _ hlt] at hi;simp only [za1] at hi;subst hi
    exact (hg i (by omega)).1];rfl
  ·refine ⟨rfl,fun _=>hb.2,by show (Go.Sy.tab g len).length<=cap;omega,fun e he=>rfl,fun j hj=> ?_,fun h=>(by cases h),fun e he o s ho=> ?_,fun h=>(by cases h),fun _=>rfl⟩
   ·have hj:j<cap*4:=hj;have:=(hg (j / 4) (by omega)).2 (j%4);show (w.cell? ⟨a.block,a.off+j,none⟩).isSome=true;rw [show a.off+j=a.off+j / 4*4+j%4 by omega];have hlt:j%4<(RQ (g (j / 4))).length:=by show j%4<4;omega
    rw [this _ (zaa hlt)];rfl
   ·have he':e<len:=by rw [<- hlx];exact he
    have e1:e4.get (Go.Sy.tab g len) e=RQ (g e):=by
     unfold El.get El.nth;rw [bR (qX g he')];rfl
    have ho':(RQ (g e))[o]? =some s:=by rw [<- e1];exact ho
    have:=(hg e (by omega)).2 o s ho';show w.cell? ⟨a.block,a.off+e*4+o,none⟩=_;rw [this];have:s.ids= []:=by
     have hm:s∈RQ (g e):=zal ho';simp only [RQ,zai,zbx,or_false] at hm;rcases hm with rfl|rfl|rfl|rfl<;>rfl
    rw [SV.conc_congr s (β:=oj) (β':=fun _=>(⟨a.block,a.off,4,cap,false⟩:Go.Sy.Loc)) (fun i h=>by rw [this] at h;cases h)]
  ·show (Go.Sy.tab g len).length<=maxLen;omega
end
theorem TC {w:World} {L:Go.Sy.Loc} {B:Go.Sy.Blk} (h:BlkOK (fun _=>L) 0 B w) (hk:B.kd= .old) (hc: ∀ e,e<B.n->SV.idss (B.get e)= []):BC w (fun i=> [B][i]?) (fun _=>L) w:=by
 have one: ∀ {id:Nat} {C:Go.Sy.Blk}, [B][id]? =some C->id=0/\C=B:=fun {id C} h=>by
  cases id with
  |zero=>simp at h;exact ⟨rfl,h.symm⟩
  |succ n=>simp at h
 refine ⟨Pres.refl _,fun id C hC _=> ?_,fun id C hC ho=> ?_,fun id C hC _ hn=> ?_,fun id id' C C' hC hC' _ _ _ _ _=> ?_,fun id C e o s hC _ he hs=> ?_,⟨fun id C hC hm=> ?_,fun id id' C C' hC hC' hm=> ?_,fun id C e s hC hm=> ?_,fun id C hC hm=> ?_⟩⟩
 ·obtain ⟨rfl,rfl⟩:=one hC;exact h
 ·obtain ⟨rfl,rfl⟩:=one hC;rw [hk] at ho;cases ho
 ·obtain ⟨rfl,rfl⟩:=one hC;intro hm;have:=h.lt hn;rcases hm with hm|hm
  ·exact absurd this (Nat.not_lt.2 hm)
  ·cases hm
 ·rw [(one hC).1,(one hC').1]
 ·obtain ⟨rfl,rfl⟩:=one hC;intro i hi;have:i∈SV.idss (C.get e):=SV.mem_idss.2 ⟨s,zal hs,hi⟩;rw [hc e he] at this;cases this
 all_goals obtain ⟨rfl,rfl⟩:=one hC;rw [hk] at hm;cases hm
end Yk
namespace Go.Proofs.YtahblkeackebaaaGreatDoor
open Go Go.RowKit Go.Sy Yk
theorem T8 {gm:List (FuncId×MCtr)} (hm:MOk gm) {W:World} (hg:GlobU W) {ann:FuncId->Nat->Option (AS->Ann)} {n:Nat} {F:FuncId} {c:Cas} {rest:List SV} {L:Go.Sy.Loc} (hB:BlkOK (fun _=>L) 0 (e4.old c.x) W) (hr:SV.idss rest= []) (h:JL gm ann n F (Rs c c.x.length::rest) (ST c) (Go.Sy.okK fun r _ _ _=>r=cB.enc true)):
 Calls Tryz.prog F (SV.concs (fun _=>L) (Rs c c.x.length::rest)).toArray W fun e w'=>e= .returned (.bool true)/\Below W.heap.size W w':=by
 have hbc:BC W (fun i=>(ST c)[i]?) (fun _=>L) W:=TC hB rfl (fun e he=>e4.ids _);unfold JL at h
 obtain ⟨_,hc⟩:=sU (Qy hm (GlobB.of hg)) ann n F (Rs c c.x.length::rest) (fun i=>(ST c)[i]?) (ST c).length [] _ (fun _=>L) W h hbc (fun i hi=>zad hi) (fun s hs i hi=>by
  rcases zai.1 hs with rfl|hs
  ·have:i=0:=by simpa [Rs,SV.ids,SV.idss] using hi
   subst this;intro e;cases e
  ·have:i∈SV.idss rest:=SV.mem_idss.2 ⟨s,hs,hi⟩
   rw [hr] at this;cases this)
 refine Calls.mono hc ?_;rintro e w' ⟨β',s,bl',nx',wl',he,hk,hbc,_⟩;cases s with
 |pan v=>exact hk.elim
 |ok s=>
 obtain rfl:e=_:=he;obtain rfl:s=_:=hk;exact ⟨rfl,hbc.below.below⟩
theorem Se {g:Nat->List SV}: ∀ {l:List RS} {e:Nat},TI g l e-> ∀ j,j<l.length->g (e+j)=gA (nthD noR2 l j)
 | [],_,_,j,hj=>absurd hj (zbn j)
 |r::t,e,⟨h1,h2⟩,0,_=>h1
 |r::t,e,⟨h1,h2⟩,j+1,hj=>by
  have:=Se h2 j (by simpa using hj);rw [show e+(j+1)=e+1+j by omega];exact this
theorem Rq (x:Int):uInt (Int.tmod x 7)=true:=by
 have h:=Int.natAbs_tmod x 7;have hl:x.natAbs%7<7:=zar _ (by decide);have h7:(7:Int).natAbs=7:=rfl;rw [h7] at h;exact uInt_iff.2 (by omega)
theorem Te {v:(Int×Int)×(Int×Int)×(Int×Int)}: ∀ {k:Nat},∀ r∈Q7 v k,uzR r=true
 |0,r,h=>by cases h
 |k+1,r,h=>by
  rcases za8.1 h with h|h
  ·exact Te r h
  ·rw [zaj.1 h];exact gu _ _
theorem RX {v:(Int×Int)×(Int×Int)×(Int×Int)} {k:Nat}:(Q7 v k).length=k:=fJ _ _
theorem Tf {p:Pr} {c:Cas} (h1:1<=p.inp.length) (h3:p.inp.length<=3) (u1:uInt c.v.1.1=true) (u2:uInt c.v.2.1.1=true) (u3:uInt c.v.2.2.1=true):Rw p c (vK (Q7 c.v p.inp.length)):=by
 have P: ∀ l,p.inp=l->p={p with inp:=l}:=fun l h=>by rw [<- h]
 match hi:p.inp with
 | []=>rw [hi] at h1;exact absurd h1 (by decide)
 | [u]=>
   rw [P _ hi];show Rw {p with inp:= [u]} c (vK [vs1 c]);rw [Tp];exact ac (by rw [u1,Rq];rfl) ⟨rfl,rfl,rfl,rfl,rfl,rfl,trivial⟩
 | [u,v]=>
   rw [P _ hi];show Rw {p with inp:= [u,v]} c (vK [vs1 c,vs2 c]);rw [Tq];exact ac (by rw [u1,Rq];rfl) (ac (by rw [u2,Rq];rfl) ⟨rfl,rfl,rfl,rfl,rfl,rfl,rfl,trivial⟩)
 | [u,v,w]=>
   rw [P _ hi];show Rw {p with inp:= [u,v,w]} c (vK [vs1 c,vs2 c,vs3 c]);rw [Ts];exact ac (by rw [u1,Rq];rfl) (ac (by rw [u2,Rq];rfl) (ac (by rw [u3,Rq];rfl) ⟨rfl,rfl,rfl,rfl,rfl,rfl,rfl,rfl,trivial⟩))
 |_::_::_::_::_=>rw [hi] at h3;simp at h3
theorem Tg: ∀ B:Base,GlobB B->MCtrOK Tryz.prog B 8 SR:=Sh MOk.nil fun bl nx args C hk hp=>by
 unfold SR at hk;split at hk
 ·rename_i s i0 i1 i2 i3 t ex v0 v1 v2 v3 v4 v5;split at hk
  ·rename_i p bb o n g hs ht;simp only [za1] at hk;subst hk;simp only [za2,decide_eq_true_eq] at hp;obtain ⟨⟨⟨⟨⟨⟨⟨⟨⟨⟨h0,rfl⟩,hg⟩,h1⟩,h3⟩,u1⟩,_⟩,u2⟩,_⟩,u3⟩,_⟩:=hp;obtain ⟨s1,s2,s3,s4,s5,s6⟩:=eX (f:=rnF [p.o1,p.o2,o] [] nx) hs h0 rfl rfl;obtain ⟨t1,t2⟩:=cq (f:=rnF [p.o1,p.o2,o] [] nx) ht hg;have hlen:(e4.list n g).length=n:=El.list_length
   let c:Cas:=⟨(i0,i1,i2),i3,e4.list n g,ex,((v0,v1),(v2,v3),(v4,v5))⟩
   have hold: ∀ C∈To p.p c,cN C.kd=false/\C.kd.map=false:=by simp [To,cN,El.old,BK.map]
   refine ⟨[p.o1,p.o2,o],To p.p c, [kB p.p,SP 2 c c.x.length],fun _ _=>none,4,aw s1 (aw s2 (aw t1 trivial)),bH (fun C hC=>(hold C hC).1),cd (fun C hC=>(hold C hC).2),ar s3 (ar (gv (ar rfl (ar rfl (ar rfl (ar rfl (ar (t2 2 rfl) rfl)))))) rfl), ?_⟩;refine Q8 (K:=xo (vK (Q7 c.v p.p.inp.length))) (Tf (c:=c) h1 h3 u1 u2 u3) fun r bl' m w h=> ?_;obtain ⟨i,n',B,rfl,hB,e1,e2,e3,e4',e5,e6⟩:=tT h;have hl:(Q7 c.v p.p.inp.length).length=p.p.inp.length:=RX;rw [hl] at e1;subst e1;have e5:=zak e5;refine ⟨(),trivial, [some i],⟨_,rfl, ?_⟩,by simp [ck],⟨⟨by show 3<=i;exact e5, ?_⟩,trivial⟩,cr (fun C hC=>(hold C hC).1) (by rfl) _⟩
   ·have e0:dt [p.o1,p.o2,o] [some i] nx nx=some (some i):=cO;simp only [SV.rn,e0]
   ·rw [hB];refine ⟨by simp [El.own],fun _=>⟨by show 1<=(Q7 c.v p.p.inp.length).length;omega,eR.one⟩,gC e4' e3 (Nat.le_of_eq e2.symm) fun e he=> ?_⟩;have:=Se e6 e he;rw [za7] at this;exact this
  ·cases hk
 ·cases hk
theorem Th:MOk SS:=(((((((MOk.nil.cons BI).cons lZ).cons tP).cons Mj).cons zC).cons Rn).cons Tg).cons Tc
theorem Uj {α:Type} {d:α}: ∀ {l:List α} {e:Nat},l.length<=e->nthD d l e=d
 | [],_,_=>rfl
 |x::r,0,h=>by simp at h
 |x::r,e+1,h=>Uj (l:=r) (by simpa using h)
structure CasOK (c:Cas):Prop where
 len:c.x.length<=9223372036854775807
 a0:uInt c.a.1=true
 a1:uInt c.a.2.1=true
 a2:uInt c.a.2.2=true
 k:uInt c.k=true
 x: ∀ y∈c.x,uz4 y=true
 v0:uInt c.v.1.1=true
 v1:uInt c.v.1.2=true
 v2:uInt c.v.2.1.1=true
 v3:uInt c.v.2.1.2=true
 v4:uInt c.v.2.2.1=true
 v5:uInt c.v.2.2.2=true
theorem CasOK.of {c:Cas} (h:c.ok=true) (hl:c.x.length<=maxLen):CasOK c:=by
 unfold Cas.ok at h;simp only [za2,zaf] at h;obtain ⟨⟨⟨⟨⟨⟨⟨⟨⟨⟨h0,h1⟩,h2⟩,h3⟩,h4⟩,h5⟩,h6⟩,h7⟩,h8⟩,h9⟩,ha⟩:=h
 exact ⟨by have e:maxLen=9223372036854775807:=by decide
           omega,h0,h1,h2,h3,h4,h5,h6,h7,h8,h9,ha⟩
section
variable {c:Cas} {ex:Bool}
theorem Q0 {b:Bool} {K:Prop} (h:b=true) (k:K):nd1 b K:=ac h fun _ _=>k
theorem RY:Rp c ex=Bd c.a c.k c.x ex:=by
 unfold Rp;rw [show e4.list c.x.length (e4.get c.x)=c.x from El.list_get]
theorem SA:cw (Rp c ex)=true:=by rw [RY];exact Tn
theorem Ry:1<=(Rp c ex).inp.length/\(Rp c ex).inp.length<=3/\1<=(Rp c ex).nod.length/\(Rp c ex).nod.length<=14:=by rw [RY];exact Sb
theorem Sq:validP (Rp c ex)=true:=by rw [RY];exact Sk
theorem RM:jn (Rp c ex)=true:=by
 have:=Ry (c:=c) (ex:=ex);exact eY SA (by omega) (by omega)
theorem SL (h:CasOK c):Sl c=true:=by
 unfold Sl;rw [zae (za0 _),decide_eq_true h.len,El.good_get h.x,h.a0,h.a1,h.a2,h.k];rfl
theorem SM (h:CasOK c):Sm c (Rp c ex)=true:=by
 have l:=Ry (c:=c) (ex:=ex);unfold Sm;rw [RM,fN,zae (za0 _),El.good_get h.x,decide_eq_true l.1,decide_eq_true l.2.1,h.v0,h.v1,h.v2,h.v3,h.v4,h.v5];rfl
theorem TD {p:Pr}:Sn c p=Q7 c.v p.inp.length:=by
 unfold Sn SU;rw [fN];have hl:(Q7 c.v p.inp.length).length=p.inp.length:=RX;have:eR.list (Q7 c.v p.inp.length).length (eR.get (Q7 c.v p.inp.length))=Q7 c.v p.inp.length:=El.list_get;rw [hl] at this;exact this
theorem RZ {p q:Pr} (hp:p.inp.length<=1000000) (hq:jn q=true):SW c p q=true:=by
 have hl:(Q7 c.v p.inp.length).length=p.inp.length:=RX;have hg:eR.good uzR (Q7 c.v p.inp.length).length (eR.get (Q7 c.v p.inp.length))=true:=El.good_get Te;unfold SW SU bW;rw [fN];rw [hl] at hg ⊢;rw [hq,zae (za0 _),zae hp,hg];rfl
theorem Ti {y n:Int} {K:Prop} (hy:uInt y=true) (hn:0<n) (k:K):af (Tt y n) K:=ac (by unfold Tt;rw [hy,decide_eq_true hn];rfl) k
theorem seqR_iff {a b:RS}:zM a b=true↔a=b:=by
 obtain ⟨a1,a2⟩:=a;obtain ⟨b1,b2⟩:=b;simp [zM,seq_iff]
end
abbrev DpX:=Int×Bool
def VD (I:DpX->Prop) (N:Int):FuncId->Nat->Option (AS->Ann):=fun f k=>bif Nat.beq f 5&&Nat.beq k 8 then some (fun A=>{X:=DpX,inv:=I,tm:=fun x=> [(11, .val (.int .i64 x.1)),(10, .val (.bool x.2))],mu:=fun x=>(N - x.1).toNat,keep:= [1,5,7,8,9]}) else none
abbrev VE (I:DpX->Prop) (N:Int) (c:Cas) (i:Int) (o:Int×Int) (Q:SV->Prop):Prop:=JL SS (VD I N) 8 5 [Rs c c.x.length,cI.enc i,c22.enc o] (ST c) (Go.Sy.okK fun r _ _ _=>Q r)
section
variable (I:DpX->Prop) (N:Int) (c:Cas) (p:Pr) (i:Int) (o:Int×Int) (Q:SV->Prop)
noncomputable def dqI:Int:=co i p.inp.length
noncomputable def dqM (k:Int) (u:Bool) (z:DpX):Prop:=(TV.v (cI.enc k)=TV.v (cI.enc z.1)/\TV.v (cB.enc u)=TV.v (cB.enc z.2)/\tvE (cI.enc (dqI p i))/\cg 2/\tvE (cB.enc true)/\cg 21/\tvE (.slc 25 0 (dm p).inp.length)/\True)/\(True/\(True/\True))
noncomputable def dqL (z:DpX):Prop:=
 af (dC (!z.2) (pS p.nod.length z.1)) (af (dC (!z.2) (decide (0+z.1.toNat<p.nod.length))) (af (dC (!z.2&&(nthD noN p.nod (0+z.1.toNat)).op==2) (pS p.nod.length z.1)) (af (dC (!z.2&&(nthD noN p.nod (0+z.1.toNat)).op==2) (decide (0+z.1.toNat<p.nod.length)))
  (af (inR .i64 (z.1+1)) (∃ z':DpX,I z'/\((N - z'.1).toNat<(N - z.1).toNat/\dqM p i (z.1+1) (bif z.2 then true else bif (nthD noN p.nod (0+z.1.toNat)).op==2 then (nthD noN p.nod (0+z.1.toNat)).n==dqI p i else false) z'))))))
noncomputable def dqG (e:Nat):List SV:=bif Nat.beq e (0+(dqI p i).toNat) then gA (Yk.smallF o) else eR.get (SU c p) (0+e)
noncomputable def dqD:Pr×Int:=aG (dm p) (dqI p i)
noncomputable def dqN:Nd:=nthD noN (dqD p i).1.nod (0+0)
noncomputable def dqF:Prop:=
 nd1 (SW c p p) (af (decide (0<(dm p).inp.length)&&decide (0+(dm p).inp.length<=(SU c p).length)&&decide (0<=0)&&decide ((0+(dm p).inp.length)*32<=140737488355328)&&rL (dm p).inp.length (fun k=>(eR.get (SU c p) (0+k)).all SV.one))
  (af (uInt o.1&&uInt o.2) (af (decide (0<=dqI p i)&&decide (dqI p i<((0+(dm p).inp.length:Nat):Int))) (af (decide (0+(dqI p i).toNat<0+(dm p).inp.length))
    (nd1 (jn p&&(Nat.ble (0+(dm p).inp.length) (0+(dm p).inp.length)&&Nat.beq 2 2&&true)&&bW (0+(dm p).inp.length)&&eR.good uzR (0+(dm p).inp.length) (dqG c p i o))
      (Q (cB.enc (bif (bif (bn (dm p) (Sn c p)).2 !=0 then true else (bn (dm p) (eR.list (0+(dm p).inp.length) (dqG c p i o))).2 !=0) then true else zM (bn (dm p) (Sn c p)).1 (bn (dm p) (eR.list (0+(dm p).inp.length) (dqG c p i o))).1))))))))
noncomputable def dqT:Prop:=
 nd1 (Sl c) (nd1 (Sm c p) (af (Tt i p.inp.length) (∃ z0:DpX,I z0/\(dqM p i 0 false z0/\ ∀ z:DpX,I z->ag (decide (z.1<(p.nod.length:Int))) (dqL I N p i z)
  (nd1 (jn p) (ag (uI (dm p) (dqI p i)) (Q (cB.enc z.2)) (nd1 (jn p)
    (af (dC ((dqD p i).2==0&& !(((dqD p i).1.nod.length:Int) !=1)) (pS (dqD p i).1.nod.length 0)) (af (dC ((dqD p i).2==0&& !(((dqD p i).1.nod.length:Int) !=1)) (decide (0+0<(dqD p i).1.nod.length)))
    (af (dC ((dqD p i).2==0&& !(bif ((dqD p i).1.nod.length:Int) !=1 then true else (dqN p i).op !=1)) (pS (dqD p i).1.nod.length 0)) (af (dC ((dqD p i).2==0&& !(bif ((dqD p i).1.nod.length:Int) !=1 then true else (dqN p i).op !=1)) (decide (0+0<(dqD p i).1.nod.length)))
      (ag (bif (dqD p i).2==0 then (bif (bif ((dqD p i).1.nod.length:Int) !=1 then true else (dqN p i).op !=1) then true else !zM (dqN p i).v (bh 0)) else false) (Q (cB.enc false)) (dqF c p i o Q)))))))))))))
end
theorem Vx (I:DpX->Prop) (N:Int) (c:Cas) (i:Int) (o:Int×Int) (Q:SV->Prop):VE I N c i o Q=(Unit->True->dqT I N c (Rp c true) i o Q):=by kernel_rfl
def dqJ (p:Pr) (i:Int) (z:DpX):Prop:=0<=z.1/\z.1<=p.nod.length/\z.2=(p.nod.take z.1.toNat).any (Jf (dqI p i))
section
variable {c:Cas} {p:Pr} {i:Int} {o:Int×Int} {Q:SV->Prop}
theorem Vi {a b:Bool} {K:Prop} (h:a=true->b=true) (k:K):af (dC a b) K:=ac (by
 cases a with
 |false=>unfold dC;cases b<;>rfl
 |true=>exact yd (h rfl)) k
theorem Vv {n:Nat} {k:Int} (h0:0<=k) (h1:k<n):pS n k=true:=by
 unfold pS;rw [decide_eq_true h0,decide_eq_true h1,decide_eq_true (by omega)];rfl
theorem VF {z:DpX} (hn:p.nod.length<=1000) (h:dqJ p i z) (hz:z.1<p.nod.length):dqL (dqJ p i) p.nod.length p i z:=by
 obtain ⟨h0,h1,h2⟩:=h;have a:pS p.nod.length z.1=true:=Vv h0 hz;have b:decide (0+z.1.toNat<p.nod.length)=true:=decide_eq_true (by omega);refine Vi (fun _=>a) (Vi (fun _=>b) (Vi (fun _=>a) (Vi (fun _=>b) (ac (inR64.2 (by omega)) ⟨(z.1+1,bif z.2 then true else bif (nthD noN p.nod (0+z.1.toNat)).op==2 then (nthD noN p.nod (0+z.1.toNat)).n==dqI p i else false),⟨by show 0<=z.1+1;omega,by show z.1+1<=_;omega, ?_⟩,by show (_:Nat)<_;dsimp only;omega,⟨rfl,rfl,rfl,rfl,rfl,rfl,rfl,trivial⟩,trivial,trivial,trivial⟩))));show (bif z.2 then true else bif (nthD noN p.nod (0+z.1.toNat)).op==2 then (nthD noN p.nod (0+z.1.toNat)).n==dqI p i else false)=(p.nod.take (z.1+1).toNat).any (Jf (dqI p i));have hk:z.1.toNat<p.nod.length:=by omega
 rw [show (z.1+1).toNat=z.1.toNat+1 by omega,<- List.take_append_getElem hk,List.any_append,<- h2,za7,QN,QM];rw [show nthD noN p.nod z.1.toNat=p.nod[z.1.toNat] from bR (zaa hk)];simp [Jf]
theorem VB (hl:1<=p.inp.length):(∀ r∈eR.list p.inp.length (dqG c p i o),uzR r=true)/\eR.good uzR p.inp.length (dqG c p i o)=true/\ ∀ k:Nat,(k:Int)≠dqI p i->nthD noR2 (eR.list p.inp.length (dqG c p i o)) k=nthD noR2 (Q7 c.v p.inp.length) k:=by
 have hi:=gR i (n:=(p.inp.length:Int)) (by omega);have hV:SU c p=Q7 c.v p.inp.length:=by unfold SU;rw [fN]
 have at_: ∀ e,dqG c p i o e=gA (bif Nat.beq e (0+(dqI p i).toNat) then Yk.smallF o else nthD noR2 (Q7 c.v p.inp.length) e):=fun e=>by
  unfold dqG;rw [hV,za7 e];cases Nat.beq e (0+(dqI p i).toNat) with
  |true=>rfl
  |false=>rfl
 have uz: ∀ e,uzR (NH (dqG c p i o e))=true:=fun e=>by
  rw [at_,Kq];cases Nat.beq e (0+(dqI p i).toNat) with
  |true=>exact gu _ _
  |false=>
   show uzR (nthD noR2 (Q7 c.v p.inp.length) e)=true;by_cases he:e<(Q7 c.v p.inp.length).length
   ·exact Te _ (bw he)
   ·rw [show nthD noR2 (Q7 c.v p.inp.length) e=noR2 from Uj (by omega)];decide
 have gd:eR.good uzR p.inp.length (dqG c p i o)=true:=El.good_iff.2 fun e he=>⟨by show dqG c p i o e=gA (NH (dqG c p i o e));rw [at_,Kq],uz e⟩;refine ⟨El.good_list gd,gd,fun k hk=> ?_⟩;by_cases h:k<p.inp.length
 ·rw [show nthD noR2 (eR.list p.inp.length (dqG c p i o)) k=NH (dqG c p i o k) from El.nth_list (E:=eR) h,at_,Kq];have:Nat.beq k (0+(dqI p i).toNat)=false:=by
   rw [bS];have:0<=dqI p i:=hi.1;exact decide_eq_false (by omega)
  rw [this];rfl
 ·rw [Uj (show (eR.list p.inp.length (dqG c p i o)).length<=k by rw [El.list_length];omega),Uj (show (Q7 c.v p.inp.length).length<=k by rw [RX];omega)]
theorem VG (hs:cw p=true) (hn:jn p=true) (hl:1<=p.inp.length/\p.inp.length<=3) (ho:uInt o.1=true/\uInt o.2=true) (hd:uI p (dqI p i)=false) (hQ:Q (cB.enc true)):dqF c p i o Q:=by
 have hi:=gR i (n:=(p.inp.length:Int)) (by omega);have b0:0<=dqI p i:=hi.1;have b1:dqI p i<p.inp.length:=hi.2;obtain ⟨g1,g2,g3⟩:=VB (c:=c) (i:=i) (o:=o) hl.1;have hV:SU c p=Q7 c.v p.inp.length:=by unfold SU;rw [fN]
 have hR:Sn c p=Q7 c.v p.inp.length:=TD;unfold dqF bW;rw [hV,hR];simp only [fN,za7];refine Q0 (RZ (by omega) hn) (ac ?_ (ac (by rw [ho.1,ho.2];rfl) (ac (by rw [decide_eq_true b0,decide_eq_true b1];rfl) (ac (decide_eq_true (by omega)) (Q0 ?_ ?_)))))
 ·have al:rL p.inp.length (fun k=>(eR.get (Q7 c.v p.inp.length) k).all SV.one)=true:=L1 fun k _=>rfl;rw [al,decide_eq_true (show 0<p.inp.length by omega),RX,decide_eq_true (za0 _),decide_eq_true (show p.inp.length*32<=140737488355328 by omega)];rfl
 ·rw [hn,zae (za0 _),zae (show p.inp.length<=1000000 by omega),g2];rfl
 ·have key:(bif (bif (bn p (Q7 c.v p.inp.length)).2 !=0 then true else (bn p (eR.list p.inp.length (dqG c p i o))).2 !=0) then true else zM (bn p (Q7 c.v p.inp.length)).1 (bn p (eR.list p.inp.length (dqG c p i o))).1)=true:=by
   cases e1:(bn p (Q7 c.v p.inp.length)).2 !=0 with
   |true=>rfl
   |false=>
    cases e2:(bn p (eR.list p.inp.length (dqG c p i o))).2 !=0 with
    |true=>rfl
    |false=>
     have e1:(bn p (Q7 c.v p.inp.length)).2=0:=by simpa using e1
     have e2:(bn p (eR.list p.inp.length (dqG c p i o))).2=0:=by simpa using e2
     exact seqR_iff.2 (Vz hd (zc9 rfl e1) (zc9 rfl e2) g3)
  rw [key];exact hQ
end
theorem VC {c:Cas} {i:Int} {o:Int×Int} {Q:SV->Prop} (h:CasOK c) (hi:uInt i=true) (ho:uInt o.1=true/\uInt o.2=true) (hQ:Q (cB.enc true)):dqT (dqJ (Rp c true) i) (Rp c true).nod.length c (Rp c true) i o Q:=by
 have l:=Ry (c:=c) (ex:=true);have hs:=SA (c:=c) (ex:=true);have hv:=Sq (c:=c) (ex:=true);have hn:=RM (c:=c) (ex:=true);have hpre:=SM (ex:=true) h;generalize Rp c true=p at*
 refine Q0 (SL h) (Q0 hpre (Ti hi (by omega) ⟨(0,false),⟨zat _,by show (0:Int)<=_;omega,rfl⟩,⟨⟨rfl,rfl,rfl,rfl,rfl,rfl,rfl,trivial⟩,trivial,trivial,trivial⟩, ?_⟩));rintro ⟨k,u⟩ ⟨k0,k1,k2⟩;refine ah (fun hz=>VF (by omega) ⟨k0,k1,k2⟩ (of_decide_eq_true hz)) (fun hz=> ?_);have hz:=of_decide_eq_false hz;dsimp only at k0 k1 k2 hz;rw [show k.toNat=p.nod.length by omega,List.take_length] at k2;rw [fN];refine Q0 hn (ah (fun hd=> ?_) (fun hd=>Q0 hn ?_))
 ·rw [VA hd] at k2;show Q (cB.enc u);rw [k2];exact hQ
 have hD:(dqD p i).2=0->(dqD p i).1.nod.length=1/\(dqN p i).op=1/\(dqN p i).v=bh 0:=fun h2=>by
  unfold dqD at h2;rw [fN] at h2;obtain ⟨u,hu⟩:=Vy hv hd (d:=(aG p (dqI p i)).1) (zc9 rfl h2);unfold dqN dqD;rw [fN,hu];exact ⟨rfl,rfl,rfl⟩
 refine Vi (fun hg=> ?_) (Vi (fun hg=> ?_) (Vi (fun hg=> ?_) (Vi (fun hg=> ?_) (ah (fun hc=> ?_) (fun _=>VG hs hn ⟨l.1,l.2.1⟩ ho hd hQ)))))
 ·rw [za2,beq_iff_eq] at hg;exact Vv (zat _) (by rw [(hD hg.1).1];decide)
 ·rw [za2,beq_iff_eq] at hg;exact decide_eq_true (by rw [(hD hg.1).1];decide)
 ·rw [za2,beq_iff_eq] at hg;exact Vv (zat _) (by rw [(hD hg.1).1];decide)
 ·rw [za2,beq_iff_eq] at hg;exact decide_eq_true (by rw [(hD hg.1).1];decide)
 ·exfalso;rw [QM,za2,beq_iff_eq] at hc;obtain ⟨d1,d2,d3⟩:=hD hc.1;have hc:=hc.2;rw [d1,d2,d3,seqR_iff.2 rfl] at hc;cases hc
theorem Vm (c:Cas) (i o0 o1:Int) {L:Go.Sy.Loc} {W:World} (h:c.ok=true) (hB:BlkOK (fun _=>L) 0 (e4.old c.x) W) (hl:c.x.length<=maxLen) (hi:B64 i) (h0:B64 o0) (h1:B64 o1) (_:World) (hg:GlobU W):
 Calls Tryz.prog 5 #[(Rs c c.x.length).conc (fun _=>L), .int .i64 i, .agg #[.int .i64 o0, .int .i64 o1]] W fun e w'=>e= .returned (.bool true)/\Below W.heap.size W w':=
 T8 (gm:=SS) Th hg (ann:=VD (dqJ (Rp c true) i) (Rp c true).nod.length) (n:=8) (rest:= [cI.enc i,c22.enc (o0,o1)]) hB rfl (by
  show VE _ _ c i (o0,o1) _;rw [Vx]
  exact fun _ _=>VC (CasOK.of h hl) (uInt_iff.2 hi) ⟨uInt_iff.2 h0,uInt_iff.2 h1⟩ rfl)
end Go.Proofs.YtahblkeackebaaaGreatDoor
namespace Go.Proofs.YtahblkeackebaaaGreatDoor
open Go.ChangeShapes Go.WideShapes Go.ChangeAt Go.RowKit Yk
theorem oQ {H:Type} {enc:TypeId×Value->H} {a:Assume} {C:Checked} {os:Os} {f:FuncId} {fn:Func} {s:ChangeSpec} {conds:List PathCond} {apart fresh handsOn again:Bool} {X:World->Array Value->Prop}
 (hX: ∀ (w w':World) (args:Array Value),w.heap=w'.heap->X w args->X w' args)
 (own:ownKnob C.prog.godebug=none) (started:os.Started) (noInit:C.prog.inits.idxOf? f=none) (hfn:C.prog.funcs[f]? =some fn)
 (witness: ∃ (w:World) (tape:Tape) (i:Input),w.os=os/\(w.forCall tape i).Shaped C.prog/\i.vars= []/\Input.okWide C.prog (w.forCall tape i) .any w.heap.size f i/\
   ((s.pre enc C.prog fn conds apart (w.forCall tape i).memory i.args/\X (w.forCall tape i).memory i.args)/\sizedMet enc C.prog fn (OpenSpec.ofChange s) apart (w.forCall tape i).memory i.args)/\a.holds C.prog (lone (Frame.enter C.prog f i.args .normal) [] (w.forCall tape i)))
 (contract: ∀ (W:World) (base:Nat) (args:Array Value) (ds gs:List (DataW H)) (before:List MemPlace),
   (∀ (j:Nat) t v,fn.params[j]? =some t->args[j]? =some v->Value.okWide C.prog W .any base t v)->
   DataW.Whole enc C.prog fn.params.toList s.vars apart W args.toList ds gs before->
   X W args->W.ShapedOpen C.prog->
   Calls C.prog f args W fun e W'=> ∃ v,e= .returned v/\s.post enc C.prog fn apart fresh handsOn again W args v W'):
 ReturnsInHanded a C os f .any (fun w args=>(s.pre enc C.prog fn conds apart w args/\X w args)/\sizedMet enc C.prog fn (OpenSpec.ofChange s) apart w args) (s.post enc C.prog fn apart fresh handsOn again):=by
 refine returnsInHanded_of_calls own started noInit witness ?_;intro w tape i _ hsh _ hok hpre hholds;obtain ⟨_,_,_,fn',hfn',_,_,_,_,hval⟩:=hok;have e:fn'=fn:=zbk (hfn'.symm.trans hfn);subst e;obtain ⟨⟨⟨ds,gs,before,hw,hc⟩,hx⟩,hz⟩:=hpre;have hw':=DataW.Whole.of_heap (w':=w.forCall tape i) (by rfl) hw;refine (contract (w.forCall tape i) w.heap.size i.args ds gs before hval hw' (hX _ _ _ (by rfl) hx) hsh).mono fun e W' ⟨v,he,hp⟩=> ?_;subst he;exact ChangeSpec.post_blind hp
theorem own:ownKnob Tryz.prog.godebug=none:=by kernel_rfl
noncomputable def oR:List (String×DataW Unit):=Rows.deriveDualRow.laid
theorem MM {W:World} (h:W.ShapedOpen Tryz.prog): ∃ m,W.cell? ⟨5,0,none⟩=some (.int .i64 m):=
 cell_of_shapedOpen_int (t:=3) (zero:= #[.int .i64 0]) h (of_decide_eq_true (by kernel_rfl)) (by kernel_rfl) (by kernel_rfl) (by kernel_rfl) (by kernel_rfl) Tryz.underlying3
theorem MN:(Rows.laid_internal_strconv_uint64pow10:DataW Unit)=Lib.tabData .u64 Lib.pow10Tab:=by kernel_rfl
theorem No:Tryz.prog.globalNamed "strconv.ErrRange" =some 3:=by kernel_rfl
theorem Np:Tryz.prog.globalNamed "strconv.ErrSyntax" =some 2:=by kernel_rfl
theorem QB: "*" ++ "errors.errorString" = "*errors.errorString" :=by decide
theorem JV (u:TypeId) (h:Tryz.prog.typeName? 3 u=some "*errors.errorString"):u=302:=
 typeName_ptr_named (nm:= "errors.errorString") (by rw [QB];kernel_rfl) (by kernel_rfl) (by decide) u (by rw [QB];exact h)
theorem JW {W:World} (h:W.ShapedOpen Tryz.prog) (hL:laidMetH Tryz.prog oR W):GlobU W:=by
 rw [MakeChecks.laidMetH_plain _ _ _ (by kernel_rfl)] at hL;have hL1:=laidMet.tail (laidMet.tail hL);have ht:Lib.TabIs Tryz.prog W "internal/strconv.uint64pow10" .u64 Lib.pow10Tab:=
  Lib.tabIs_of_head NL (by kernel_rfl) Tryz.underlying298 Tryz.underlying268 (by kernel_rfl) (by kernel_rfl) (MN▸hL1)
 have hL2:=laidMet.tail (laidMet.tail hL1);obtain ⟨a0,s0,hv0,_,_,_⟩:=laid_sentinel (g:=3) (ti:=229) (tp:=302) (te:=304) (ts:=9) hL2 No (by kernel_rfl) Tryz.underlying229 JV Tryz.underlying302 Tryz.underlying304 rfl rfl Tryz.underlying9 (by kernel_rfl) (by kernel_rfl);obtain ⟨a1,s1,hv1,_,_,_⟩:=laid_sentinel (g:=2) (ti:=229) (tp:=302) (te:=304) (ts:=9) (laidMet.tail hL2) Np (by kernel_rfl) Tryz.underlying229 JV Tryz.underlying302 Tryz.underlying304 rfl rfl Tryz.underlying9 (by kernel_rfl) (by kernel_rfl);have c0:=World.var?_cell No hv0 0;have c1:=World.var?_cell Np hv1 0;exact ⟨⟨MM h,ht,World.block_lt_of_cell? W _ (ht.cell NL 0 (by decide))⟩,⟨_,by simpa using c1, .inr ⟨_,_,rfl⟩⟩,⟨_,by simpa using c0, .inr ⟨_,_,rfl⟩⟩⟩
end Go.Proofs.YtahblkeackebaaaGreatDoor
