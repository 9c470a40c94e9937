import Derived.Test.YtdbnankjpnpojaaGreatDoorZf
set_option linter.unusedVariables false
set_option linter.unusedSimpArgs false
noncomputable section
namespace Go.Proofs.YtdbnankjpnpojaaGreatDoor
open Go.Proofs.Tryz
open Go Go.RowKit Go.Sy Yk
def TF:zdT:= [(47,SZ)]
abbrev M1:=Int×List Un
abbrev M3:=Int×List Nd×List Un
def St (I1:M1->Prop) (I2 I3:M3->Prop) (N:Int):zdR:=λf k=>bif Nat.beq f 36 then(
 bif Nat.beq k 3 then some (λA=>{X:=M1,inv:=I1,tm:=λx=> [(10, .val (.int .i64 x.1))],st:= [(kA A 9,λx=>(qv A 9 0).take 1++(SV.slc A.nx 0 x.2.length::(qv A 9 0).drop 2))],gr:= [{src:= .cell (kA A 9) 0 1,sz:=20,n:=λx=>x.2.length,get:=λx=>eU.get x.2}],cleanG:=λg hg x e=>(by simp at hg;subst hg;exact eU.ids _),mu:=λx=>(4 - x.1).toNat,keep:= [1,2,3,4,8,9],sp:= [λx=>(0,x.2),λx=>(1,x.2),λx=>(2,x.2),λx=>(3,x.2)]})
 else bif Nat.beq k 8 then some (λA=>{X:=M3,inv:=I2,tm:=λx=> [(12, .val (.int .i64 x.1)),(11, .slc (A.nx+1) 0 x.2.2.length)],st:= [(kA A 9,λx=>(qv A 9 0).take 2++(SV.slc A.nx 0 x.2.1.length::(qv A 9 0).drop 3))],gr:= [{src:= .cell (kA A 9) 0 2,sz:=26,n:=λx=>x.2.1.length,get:=λx=>eN.get x.2.1},{src:= .slot 11,sz:=20,n:=λx=>x.2.2.length,get:=λx=>eU.get x.2.2}],cleanG:=λg hg x e=>(by simp at hg;rcases hg with rfl|rfl;exact eN.ids _;exact eU.ids _),mu:=λx=>(4 - x.1).toNat,keep:= [1,2,3,4,8,9]})
 else bif Nat.beq k 13 then some (λA=>{X:=M3,inv:=I3,tm:=λx=> [(13, .val (.int .i64 x.1)),(11, .slc (A.nx+1) 0 x.2.2.length)],st:= [(kA A 9,λx=>(qv A 9 0).take 2++(SV.slc A.nx 0 x.2.1.length::(qv A 9 0).drop 3))],gr:= [{src:= .cell (kA A 9) 0 2,sz:=26,n:=λx=>x.2.1.length,get:=λx=>eN.get x.2.1},{src:= .slot 11,sz:=20,n:=λx=>x.2.2.length,get:=λx=>eU.get x.2.2}],cleanG:=λg hg x e=>(by simp at hg;rcases hg with rfl|rfl;exact eN.ids _;exact eU.ids _),mu:=λx=>(N - x.1).toNat,keep:= [1,2,3,4,8,9]})
 else none) else none
def prS (K1:Nat->Nat->Blk->Nat->Nat->Blk->Int->List SV->Prop):Aft:=λr bl _ _=>match r with
 | .ok (.agg (.val (.int .i64 id):: .slc i 0 n:: .slc j 0 m::rest))=>(match bl i,bl j with
   |some B,some C=>K1 i n B j m C id rest
   |_,_=>False)
 |_=>False
abbrev TG (I1:M1->Prop) (I2 I3:M3->Prop) (N:Int) (a:Int×Int×Int) (count:Int) (xs:List I4) (ex:Bool) (K1:Nat->Nat->Blk->Nat->Nat->Blk->Int->List SV->Prop):Prop:=
 JL TF (St I1 I2 I3 N) 6 36 [.agg [.val (.int .i64 a.1), .val (.int .i64 a.2.1), .val (.int .i64 a.2.2)],cI.enc count, .slc 0 0 xs.length,cB.enc ex] [e4.old xs] (prS K1)
section
variable (I1:M1->Prop) (I2 I3:M3->Prop) (N:Int) (a:Int×Int×Int) (count:Int) (xs:List I4) (ex:Bool)
def mdC (n0:Nat) (s:SV):zdJ:= .val (.int .i64 (1+co count 900)):: .slc 10 0 n0::s::ci noU
def md1 (s:SV):zdJ:= .val (.int .i64 (1+co count 900))::s:: .val (.slice none 0 0)::ci noU
def S4:Prop:=tvE (cI.enc count)/\tvE (.slc 0 0 xs.length)/\tvE (cB.enc ex)/\cg 1/\cg 2/\cg 7/\True
def Ua (q:Nat) (p:Int) (m:Nat) (g:zdL) (z:M1):Prop:=(TV.v (cI.enc p)=TV.v (cI.enc z.1)/\S4 count xs ex)/\(True/\((md1 count (.slc q 0 m)=md1 count (.slc q 0 z.2.length)/\True)/\(af (Nat.beq 20 20&&decide (z.2.length<=m)) (∀e,e<z.2.length->g e=eU.get z.2 e)/\True)))
def So (n0 q1 q2:Nat) (p:Int) (m:Nat) (g:zdL) (k:Nat) (h:zdL) (z:M3):Prop:=(TV.v (cI.enc p)=TV.v (cI.enc z.1)/\TV.v (.slc q2 0 k)=TV.v (.slc q2 0 z.2.2.length)/\S4 count xs ex)/\(True/\((mdC count n0 (.slc q1 0 m)=mdC count n0 (.slc q1 0 z.2.1.length)/\True)/\
 (af (Nat.beq 26 26&&decide (z.2.1.length<=m)) (∀e,e<z.2.1.length->g e=eN.get z.2.1 e)/\(af (Nat.beq 20 20&&decide (z.2.2.length<=k)) (∀e,e<z.2.2.length->h e=eU.get z.2.2 e)/\True))))
def S5 (inp:zdV) (nod:zdW) (us:zdV) (x:Nd):Bool:=kp inp.length inp.length (eU.get inp) nod.length nod.length (eN.get nod) noU&&(Nat.ble us.length us.length&&Nat.beq 20 20&&true)&&bW us.length&&eU.good szB us.length (eU.get us)&&ndB (svN x)&&szN (Vh (svN x))&&decide ((nod.length:Int)=(us.length:Int))&&decide (1<=(Vh (svN x)).op)&&decide ((Vh (svN x)).op<=8)
def Tu (inp us:zdV) (x:Nd):Un×Int:=tyF (eU.list inp.length (eU.get inp)) (eU.list us.length (eU.get us)) (Vh (svN x))
def Rg (inp:zdV) (q1 q2:Nat) (z:M3) (x:Nd):Prop:=
 af (S5 inp z.2.1 z.2.2 x) (Unit->True->ag (bif (Tu inp z.2.2 x).2==0 then(bif !ex then true else x.op !=8) else false)
  (LY z.2.1.length (tO z.2.2.length (af (inR .i64 (z.1+1)) (∃z':M3,I3 z'/\((N - z'.1).toNat<(N - z.1).toNat/\So count xs ex inp.length q1 q2 (z.1+1) (z.2.1.length+1) (gv z.2.1 x) (z.2.2.length+1) (Jz z.2.2 (Tu inp z.2.2 x).1) z')))))
  (af (inR .i64 (z.1+1)) (∃z':M3,I3 z'/\((N - z'.1).toNat<(N - z.1).toNat/\So count xs ex inp.length 25 26 (z.1+1) z.2.1.length (eN.get z.2.1) z.2.2.length (eU.get z.2.2) z'))))
def pkB (y n:Int):Bool:=cl y&&decide (0<n)
def Sp (inp:zdV) (z:M3) (y:I4):Prop:=
 af (pkB y.1 8) (af (inR .i64 (1+co y.1 8)) (
 ag (1+co y.1 8==1) (af (pkB y.2.1 13) (af (inR .i64 (co y.2.1 13 - 6)) (af (pkB y.2.2.1 4) (af (inR .i64 (1+co y.2.2.1 4)) (af (cl (co y.2.1 13 - 6)&&cl (1+co y.2.2.1 4)) (af (cl y.2.2.2)
  (Rg I3 N count xs ex inp 102 108 z ⟨opF y,(rMk (co y.2.1 13 - 6) (1+co y.2.2.1 4)).1,BL y.2.2.2,0,0,0⟩)))))))
 (ag (1+co y.1 8==2) (af (pkB y.2.1 inp.length) (Rg I3 N count xs ex inp 93 99 z ⟨opF y,VI,noU,co y.2.1 inp.length,0,0⟩))
 (ag (1+co y.1 8==7) (af (pkB y.2.1 z.2.1.length) (af (pkB y.2.2.1 5) (af (decide (0<=co y.2.2.1 5)&&decide (co y.2.2.1 5<((5:Nat):Int))) (af (decide (0+(co y.2.2.1 5).toNat<5)) (Rg I3 N count xs ex inp 101 107 z ⟨opF y,VI,noU,T9 (co y.2.2.1 5),co y.2.1 z.2.1.length,0⟩)))))
 (ag (1+co y.1 8==8) (af (pkB y.2.1 z.2.1.length) (Rg I3 N count xs ex inp 95 101 z ⟨opF y,VI,noU,0,co y.2.1 z.2.1.length,0⟩))
   (af (pkB y.2.1 z.2.1.length) (af (pkB y.2.2.1 z.2.1.length) (Rg I3 N count xs ex inp 101 107 z ⟨opF y,VI,noU,0,co y.2.1 z.2.1.length,co y.2.2.1 z.2.1.length⟩))))))))
def Ub (K1:Nat->Nat->Blk->Nat->Nat->Blk->Int->List SV->Prop) (inp:zdV) (z0:M3):Prop:=
 ∃z1:M3,I3 z1/\(So count xs ex inp.length 17 18 0 z0.2.1.length (eN.get z0.2.1) z0.2.2.length (eU.get z0.2.2) z1/\
  ∀z:M3,I3 z->ag (bif decide (z.1<(xs.length:Int)) then decide ((z.2.1.length:Int)<14) else false)
   (eO xs.length z.1 (Sp I3 N count xs ex inp z (e4.nth xs (0+z.1.toNat))))
   (af (inR .i64 ((z.2.2.length:Int) - 1)) (eO z.2.2.length ((z.2.2.length:Int) - 1)
     (K1 10 inp.length {n:=inp.length,sz:=20,get:=eU.get inp,kd:= .own,nn:=false} 25 z.2.1.length {n:=z.2.1.length,sz:=26,get:=eN.get z.2.1,kd:= .own,nn:=false} (1+co count 900) (ci (mb noU z.2.2 (0+((z.2.2.length:Int) - 1).toNat)))))))
def T6 (K1:Nat->Nat->Blk->Nat->Nat->Blk->Int->List SV->Prop) (inp:zdV):Prop:=
 ∃z0:M3,I2 z0/\(((TV.v (cI.enc 0)=TV.v (cI.enc z0.1)/\TV.v (.val (.slice none 0 0))=TV.v (.val (.slice none z0.2.2.length 0))/\S4 count xs ex)/\(True/\((mdC count inp.length (.val (.slice none 0 0))=mdC count inp.length (.val (.slice none z0.2.1.length 0))/\True)/\(z0.2.1.length=0/\(z0.2.2.length=0/\True)))))/\
  ∀z:M3,I2 z->ag (decide (z.1<(inp.length:Int)))
   (LY z.2.1.length (eO inp.length z.1 (tO z.2.2.length (af (inR .i64 (z.1+1)) (∃z':M3,I2 z'/\((4 - z'.1).toNat<(4 - z.1).toNat/\So count xs ex inp.length 29 39 (z.1+1) (z.2.1.length+1) (gv z.2.1 (nIn z.1)) (z.2.2.length+1) (Jz z.2.2 (mb noU inp (0+z.1.toNat))) z'))))))
   (Ub I3 N count xs ex K1 inp z))
def Tv (K1:Nat->Nat->Blk->Nat->Nat->Blk->Int->List SV->Prop) (j a0:Int) (x:M1):Prop:=
 af (pkB count 3) (ag (decide (j<=co count 3)) (af (cl a0) (tO x.2.length (∃x':M1,I1 x'/\((4 - x'.1).toNat<(4 - j).toNat/\Ua count xs ex 16 (j+1) (x.2.length+1) (Jz x.2 (BL a0)) x')))) (T6 I2 I3 N count xs ex K1 x.2))
def mdT (K1:Nat->Nat->Blk->Nat->Nat->Blk->Int->List SV->Prop):Prop:=
 af (pkB count 900) (af (inR .i64 (1+co count 900)) (∃x0:M1,I1 x0/\(((TV.v (cI.enc 0)=TV.v (cI.enc x0.1)/\S4 count xs ex)/\(True/\((md1 count (.val (.slice none 0 0))=md1 count (.val (.slice none x0.2.length 0))/\True)/\(x0.2.length=0/\True))))/\
  ((∀x:M1,I1 x->(0,x.2)=x\/(1,x.2)=x\/(2,x.2)=x\/(3,x.2)=x\/False)/\((∀x:M1,I1 (0,x.2)->Tv I1 I2 I3 N count xs ex K1 0 a.1 x)/\((∀x:M1,I1 (1,x.2)->Tv I1 I2 I3 N count xs ex K1 1 a.2.1 x)/\((∀x:M1,I1 (2,x.2)->Tv I1 I2 I3 N count xs ex K1 2 a.2.2 x)/\
    ((∀x:M1,I1 (3,x.2)->af (pkB count 3) (ag (decide (3<=co count 3)) False (T6 I2 I3 N count xs ex K1 x.2)))/\True))))))))
end
theorem Tw (I1:M1->Prop) (I2 I3:M3->Prop) (N:Int) (a:Int×Int×Int) (count:Int) (xs:List I4) (ex:Bool) (K1:Nat->Nat->Blk->Nat->Nat->Blk->Int->List SV->Prop):TG I1 I2 I3 N a count xs ex K1=mdT I1 I2 I3 N a count xs ex K1:=by kernel_rfl
def TJ (nx:Nat) (q:Pr):SV:= .agg (.val (.int .i64 q.id):: .slc nx 0 q.inp.length:: .slc (nx+1) 0 q.nod.length::ci q.out)
def SQ:MCtr:=λbl nx args=>match args with
 | [.agg [.val (.int .i64 a), .val (.int .i64 b), .val (.int .i64 c)], .val (.int .i64 k),s, .val (.bool ex)]=>match vW bl 4 s with
   |some (bb,_,n,g)=>some {X:=Unit,pre:=bb&&decide (n<=9223372036854775807)&&e4.good uz4 n g&&cl a&&cl b&&cl c&&cl k,spec:=λ_=>True,out:=λ_=>TJ nx (Bd (a,b,c) k (e4.list n g) ex),nw:=λ_=> [eU.own (Bd (a,b,c) k (e4.list n g) ex).inp,eN.own (Bd (a,b,c) k (e4.list n g) ex).nod],ex:=λ_=>⟨(),trivial⟩}
   |none=>none
 |_=>none
theorem S6:MOk TF:=MOk.nil.cons ZR
theorem QU {y n:Int} {K:Prop} (hy:cl y=true) (hn:0<n) (k:K):af (pkB y n) K:=ac (by unfold pkB;rw[hy,zdq hn];rfl) k
theorem Su (ni n:Int) (y:I4):(RR ni n y).op=opF y:=by
 have B: ∀(b:Bool) (x z:Nd),x.op=opF y->z.op=opF y->(cond b x z).op=opF y:=λb x z h k=>by cases b;exact k;exact h
 unfold RR;exact B _ _ _ rfl (B _ _ _ rfl (B _ _ _ rfl (B _ _ _ rfl rfl)))
theorem Tx (y:I4):1<=opF y/\opF y<=8:=by
 have:=gR y.1 (n:=8) (by decide);unfold opF;omega
theorem Sc {us:zdV} {u:Un} {z:zdV} (hz:z=us++ [u]):af (Nat.beq 20 20&&decide (z.length<=us.length+1)) (∀e,e<z.length->Jz us u e=eU.get z e):=by
 subst hz;have hl:(us++ [u]).length=us.length+1:=by simp
 exact ac (by rw[hl,zdq (za0 _)];rfl) λe he=>Fp (by omega)
theorem S7 {us:zdW} {u:Nd} {z:zdW} (hz:z=us++ [u]):af (Nat.beq 26 26&&decide (z.length<=us.length+1)) (∀e,e<z.length->gv us u e=eN.get z e):=by
 subst hz;have hl:(us++ [u]).length=us.length+1:=by simp
 exact ac (by rw[hl,zdq (za0 _)];rfl) λe he=>pO (by omega)
section
variable {I1:M1->Prop} {I2 I3:M3->Prop} {N:Int} {a:Int×Int×Int} {count:Int} {xs:List I4} {ex:Bool}
theorem Rh:S4 count xs ex:=⟨rfl,rfl,rfl,rfl,rfl,rfl,trivial⟩
variable {p:Int} {us:zdV} {u:Un}
theorem Ty {q:Nat} :Ua count xs ex q p (us.length+1) (Jz us u) (p,us++ [u]):=
 ⟨⟨rfl,Rh⟩,trivial,⟨by simp,trivial⟩,Sc rfl,trivial⟩
variable {n0 q1 q2:Nat} {nod:zdW} {x:Nd}
theorem Sv:So count xs ex n0 q1 q2 p (nod.length+1) (gv nod x) (us.length+1) (Jz us u) (p,nod++ [x],us++ [u]):=
 ⟨⟨rfl,by simp,Rh⟩,trivial,⟨by simp,trivial⟩,S7 rfl,Sc rfl,trivial⟩
theorem RL:So count xs ex n0 q1 q2 p nod.length (eN.get nod) us.length (eU.get us) (p,nod,us):=
 ⟨⟨rfl,rfl,Rh⟩,trivial,⟨rfl,trivial⟩,ac (by simp) (λ_ _=>rfl),ac (by simp) (λ_ _=>rfl),trivial⟩
variable {inp:zdV}
theorem Tz:Tu inp us x=tyF inp us x:=by
 unfold Tu;rw[show eU.list inp.length (eU.get inp)=inp from El.list_get,show eU.list us.length (eU.get us)=us from El.list_get,fR]
theorem S8 (h:MadOK inp (nod,us)) (hi: ∀u∈inp,szB u=true) (hl:inp.length<=1000000) (hx:szN x=true) (ho:1<=x.op/\x.op<=8):S5 inp nod us x=true:=by
 have h1:us.length=nod.length:=h.len;have h2:nod.length<=14:=h.le;unfold S5 bW;rw[uf hl (show nod.length<=1000000 by omega) (El.good_get hi) (show eN.good szN nod.length (eN.get nod)=true from El.good_get h.szn) (by decide),zae (za0 _),zae (show us.length<=1000000 by omega),El.good_get h.szu,fR,hx,h1,zdq rfl,zdq ho.1,zdq ho.2];rfl
theorem S9 {i:Int} (h:MadOK inp (nod,us)) (hi: ∀u∈inp,szB u=true) (hl:inp.length<=1000000) (hx:szN x=true) (ho:1<=x.op/\x.op<=8) (h0:0<=i) (h1:i<N) (hN:N<=9223372036854775807)
 (hS:I3 (i+1,match mn inp us x with
   |some u=>bif !ex||x.op !=8 then(nod++ [x],us++ [u]) else(nod,us)
   |none=>(nod,us))):Rg I3 N count xs ex inp q1 q2 (i,nod,us) x:=by
 have a1:us.length=nod.length:=h.len;have a2:nod.length<=14:=h.le;unfold Rg;rw[Tz];dsimp only;have no:(∃z,z=(nod,us)/\I3 (i+1,z))->af (inR .i64 (i+1)) (∃z':M3,I3 z'/\((N - z'.1).toNat<(N - i).toNat/\So count xs ex inp.length 25 26 (i+1) nod.length (eN.get nod) us.length (eU.get us) z')):=by
  rintro⟨z,rfl,hz⟩;exact ac (VP.2 (by omega)) ⟨(i+1,nod,us),hz,by show (_:Nat)<_;dsimp only;omega,RL⟩
 refine ac (S8 h hi hl hx ho) λ_ _=>ah (λhb=> ?_) (λhb=>no ?_)
 ·cases ht:mn inp us x with
  |none=>
   unfold tyF at hb;rw[ht] at hb;cases hb
  |some u=>
   rw[ht] at hS;have e:tyF inp us x=(u,0):=by unfold tyF;rw[ht]
   rw[e] at hb ⊢;have hc:(!ex||x.op !=8)=true:=by rw[<-QN];exact hb
   rw[hc] at hS;exact xp (by omega) (fV (by omega) (ac (VP.2 (by omega)) ⟨(i+1,nod++ [x],us++ [u]),hS,by show (_:Nat)<_;dsimp only;omega,Sv⟩))
 ·cases ht:mn inp us x with
  |none=>rw[ht] at hS;exact⟨_,rfl,hS⟩
  |some u=>
   rw[ht] at hS;have e:tyF inp us x=(u,0):=by unfold tyF;rw[ht]
   rw[e] at hb;have hc:(!ex||x.op !=8)=false:=by rw[<-QN];exact hb
   rw[hc] at hS;exact⟨_,rfl,hS⟩
theorem SH {z:M3} {y:I4} (hy:uz4 y=true) (hi:1<=inp.length) (hz:1<=z.2.1.length) (h: ∀q1 q2,Rg I3 N count xs ex inp q1 q2 z (RR inp.length z.2.1.length y)):Sp I3 N count xs ex inp z y:=by
 unfold uz4 at hy;simp only[za2] at hy;obtain⟨⟨⟨y1,y2⟩,y3⟩,y4⟩:=hy;have b1:=gR y.1 (n:=8) (by decide);have b2:=gR y.2.1 (n:=13) (by decide);have b3:=gR y.2.2.1 (n:=4) (by decide);have b4:=gR y.2.2.1 (n:=5) (by decide);have E: ∀{x:Nd} (q1 q2:Nat),RR inp.length z.2.1.length y=x->Rg I3 N count xs ex inp q1 q2 z x:=λ{x} q1 q2 e=>by rw[<-e];exact h q1 q2
 unfold RR opF at E;unfold Sp;refine QU y1 (by decide) (Fy (by omega) (ah (λo1=> ?_) (λo1=>ah (λo2=> ?_) (λo2=>ah (λo7=> ?_) (λo7=>ah (λo8=> ?_) (λo8=> ?_))))))
 ·refine QU y2 (by decide) (Fy (by omega) (QU y3 (by decide) (Fy (by omega) (ac (by rw[V4.2 (by omega),V4.2 (by omega)];rfl) (ac y4 (E _ _ ?_))))));rw[o1];rfl
 ·refine QU y2 (by omega) (E _ _ ?_);rw[o1,o2];rfl
 ·refine QU y2 (by omega) (QU y3 (by decide) (ac (by rw[zdq b4.1,zdq (show co y.2.2.1 5<((5:Nat):Int) from b4.2)];rfl) (ac (zdq (by omega)) (E _ _ ?_))));rw[o1,o2,o7];rfl
 ·refine QU y2 (by omega) (E _ _ ?_);rw[o1,o2,o7,o8];rfl
 ·refine QU y2 (by omega) (QU y3 (by omega) (E _ _ ?_));rw[o1,o2,o7,o8];rfl
end
def Ta (a:Int×Int×Int) (count:Int) (z:M1):Prop:=0<=z.1/\z.1<=co count 3+1/\z.2=QQ a z.1.toNat
def Tb (a:Int×Int×Int) (count:Int) (z:M3):Prop:=0<=z.1/\z.1<=co count 3+1/\z.2.1=R9 z.1.toNat/\z.2.2=QQ a z.1.toNat
def SI (a:Int×Int×Int) (count:Int) (xs:List I4) (ex:Bool) (z:M3):Prop:=0<=z.1/\z.1<=xs.length/\MadOK (QQ a ((co count 3).toNat+1)) z.2/\Rb a count xs ex=RT ex (QQ a ((co count 3).toNat+1)) (xs.drop z.1.toNat) z.2
def mdK (p:Pr) (i n:Nat) (B:Blk) (j m:Nat) (C:Blk) (id:Int) (rest:zdJ):Prop:=i=10/\n=p.inp.length/\B=eU.own p.inp/\j=25/\m=p.nod.length/\C=eN.own p.nod/\id=p.id/\rest=ci p.out
variable {ex:Bool} {inp:zdV}
theorem SJ {r:List I4} {z:List Nd×List Un} (h: ¬z.1.length<14):RT ex inp r z=z:=by
 cases r with
 |nil=>rfl
 |cons y r=>unfold RT;rw[zdt h];rfl
variable {a:Int×Int×Int} {count:Int} {xs:List I4}
theorem TA {z0:M3} (hx: ∀y∈xs,uz4 y=true) (hn:xs.length<=9223372036854775807) (h1:z0.2.1=R9 ((co count 3).toNat+1)) (h2:z0.2.2=QQ a ((co count 3).toNat+1)):
 Ub (SI a count xs ex) xs.length count xs ex (mdK (Bd a count xs ex)) (QQ a ((co count 3).toNat+1)) z0:=by
 have hK:=Rc (count:=count);have hi:(QQ a ((co count 3).toNat+1)).length=(co count 3).toNat+1:=QR;refine⟨(0,z0.2),⟨zat _,by show (0:Int)<=_;omega, ?_, ?_⟩,RL, ?_⟩
 ·show MadOK _ (z0.2.1,z0.2.2);rw[h1,h2];exact⟨by rw[QR,QZ],by rw[QZ];exact hK.1,by rw[QZ];omega,Si (za0 _),RU,QT QY⟩
 ·show _=RT _ _ xs (z0.2.1,z0.2.2);rw[h1,h2];rfl
 rintro⟨i,nod,us⟩ ⟨k0,k1,k2,k3⟩;dsimp only at k0 k1 k2 k3 ⊢;have ln:us.length=nod.length:=k2.len;have l1:1<=nod.length:=k2.pos;have l2:nod.length<=14:=k2.le;refine ah (λhb=> ?_) (λhb=> ?_)
 ·rw[QM,za2] at hb;have b1:=zdv hb.1;have b2:nod.length<14:=by have:=zdv hb.2;omega
  have hd:xs.drop i.toNat=mb (0,0,0,0) xs i.toNat::xs.drop (i+1).toNat:=by
   rw[show (i+1).toNat=i.toNat+1 by omega,zaH (show i.toNat<xs.length by omega),bR (zaa _)]
  rw[hd,RT,zdq (show (nod,us).1.length<14 from b2),zds] at k3;rw[za7];have hy:uz4 (mb (0,0,0,0) xs i.toNat)=true:=hx _ (bw (by omega));refine aY k0 b1 (SH (y:=mb (0,0,0,0) xs i.toNat) hy (by omega) l1 λq1 q2=> ?_);refine S9 k2 (QT QY) (by omega) (Sr _ _ _) (by rw[Su];exact Tx _) k0 b1 (by omega) ?_;rw[Su];have st:=k2.step (ex:=ex) (y:=mb (0,0,0,0) xs i.toNat) (QT QY) b2;exact⟨by show 0<=i+1;omega,by show i+1<=_;omega,st,k3⟩
 ·have hz:Rb a count xs ex=(nod,us):=by
   rw[k3];rw[QM] at hb;by_cases c:i<xs.length
   ·rw[zdq c,zb6] at hb;have:=zdw hb;exact SJ (by show ¬nod.length<14;omega)
   ·rw[show i.toNat=xs.length by omega,zbj];rfl
  refine ac (VP.2 (by omega)) (aY (by omega) (by omega) ⟨rfl,rfl,rfl,rfl, ?_, ?_,rfl, ?_⟩)
  ·show nod.length=(Rb a count xs ex).1.length;rw[hz]
  ·show _=eN.own (Rb a count xs ex).1;rw[hz];rfl
  ·show _=ci (ly (Rb a count xs ex).2);rw[hz,show 0+((us.length:Int) - 1).toNat=us.length - 1 by omega];rfl
theorem Sw (hx: ∀y∈xs,uz4 y=true) (hn:xs.length<=9223372036854775807) (h:inp=QQ a ((co count 3).toNat+1)):
 T6 (Tb a count) (SI a count xs ex) xs.length count xs ex (mdK (Bd a count xs ex)) inp:=by
 subst h;have hK:=Rc (count:=count);have hp:=gR count (n:=3) (by decide);have hi:(QQ a ((co count 3).toNat+1)).length=(co count 3).toNat+1:=QR;refine⟨(0, [], []),⟨zat _,by show (0:Int)<=_;omega,rfl,rfl⟩,⟨⟨rfl,rfl,Rh⟩,trivial,⟨rfl,trivial⟩,rfl,rfl,trivial⟩, ?_⟩;rintro⟨i,nod,us⟩ ⟨k0,k1,k2,k3⟩;dsimp only at k0 k1 k2 k3 ⊢;refine ah (λhb=> ?_) (λhb=> ?_)
 ·have hb:=zdv hb;have l1:nod.length=i.toNat:=by rw[k2,QZ]
  have l2:us.length=i.toNat:=by rw[k3,QR]
  rw[za7];have e1:(i+1).toNat=i.toNat+1:=by omega
  refine xp (by omega) (aY k0 hb (fV (by omega) (ac (VP.2 (by omega)) ⟨(i+1,nod++ [nIn i],us++ [mb noU (QQ a ((co count 3).toNat+1)) i.toNat]),⟨by show 0<=i+1;omega,by show i+1<=_;omega, ?_, ?_⟩,by show (_:Nat)<_;dsimp only;omega,Sv⟩)))
  ·show nod++ [nIn i]=R9 (i+1).toNat;rw[e1,k2];show _=R9 i.toNat++ [nIn (i.toNat:Nat)];rw[show ((i.toNat:Nat):Int)=i by omega]
  ·show us++ [_]=QQ a (i+1).toNat;rw[e1,k3];show _=QQ a i.toNat++ [BL (mb 0 [a.1,a.2.1,a.2.2] i.toNat)];rw[show mb noU (QQ a ((co count 3).toNat+1)) i.toNat=BL (mb 0 [a.1,a.2.1,a.2.2] i.toNat) from bR (qX _ (by omega))]
 ·have hb:=zdw hb;have e:i.toNat=(co count 3).toNat+1:=by omega
  exact TA hx hn (by rw[<-e];exact k2) (by rw[<-e];exact k3)
theorem RW {j a0:Int} {x:M1} (hc:cl count=true) (ha:cl a0=true) (hx: ∀y∈xs,uz4 y=true) (hn:xs.length<=9223372036854775807) (hj:0<=j/\j<=2) (he:mb 0 [a.1,a.2.1,a.2.2] j.toNat=a0) (h:Ta a count (j,x.2)):
 Tv (Ta a count) (Tb a count) (SI a count xs ex) xs.length count xs ex (mdK (Bd a count xs ex)) j a0 x:=by
 obtain⟨k0,k1,k2⟩:=h;dsimp only at k0 k1 k2;have l2:x.2.length=j.toNat:=by rw[k2,QR]
 refine QU hc (by decide) (ah (λhb=> ?_) (λhb=> ?_))
 ·have hb:=zdv hb;have e1:(j+1).toNat=j.toNat+1:=by omega
  refine ac ha (fV (by omega) ⟨(j+1,x.2++ [BL a0]),⟨by show 0<=j+1;omega,by show j+1<=_;omega, ?_⟩,by show (_:Nat)<_;dsimp only;omega,Ty⟩);show x.2++ [BL a0]=QQ a (j+1).toNat;rw[e1,k2];show _=QQ a j.toNat++ [BL (mb 0 [a.1,a.2.1,a.2.2] j.toNat)];rw[he]
 ·have hb:=zdw hb;have hp:=gR count (n:=3) (by decide);exact Sw hx hn (by rw[k2];congr 1;omega)
theorem T7 (h0:cl a.1=true) (h1:cl a.2.1=true) (h2:cl a.2.2=true) (hc:cl count=true) (hx: ∀y∈xs,uz4 y=true) (hn:xs.length<=9223372036854775807):
 mdT (Ta a count) (Tb a count) (SI a count xs ex) xs.length a count xs ex (mdK (Bd a count xs ex)):=by
 have hp:=gR count (n:=3) (by decide);have hq:=gR count (n:=900) (by decide);refine QU hc (by decide) (Fy (by omega) ⟨(0, []),⟨zat _,by show (0:Int)<=_;omega,rfl⟩,⟨⟨rfl,Rh⟩,trivial,⟨rfl,trivial⟩,rfl,trivial⟩, ?_,λx hI=>RW hc h0 hx hn (by decide) rfl hI,λx hI=>RW hc h1 hx hn (by decide) rfl hI,λx hI=>RW hc h2 hx hn (by decide) rfl hI,λx hI=> ?_,trivial⟩)
 ·rintro⟨i,us⟩ ⟨k0,k1,_⟩;dsimp only at k0 k1;rcases(show i=0\/i=1\/i=2\/i=3 by omega) with rfl|rfl|rfl|rfl
  ·exact .inl rfl
  ·exact .inr (.inl rfl)
  ·exact .inr (.inr (.inl rfl))
  ·exact .inr (.inr (.inr (.inl rfl)))
 ·obtain⟨_,k1,k2⟩:=hI;dsimp only at k1 k2;refine QU hc (by decide) (ah (λhb=> ?_) (λhb=>Sw hx hn (by rw[k2];congr 1;show (3:Int).toNat=_;omega)));have:=zdv hb;omega
variable {K1:Nat->Nat->Blk->Nat->Nat->Blk->Int->List SV->Prop} {m:Nat}
theorem SK {r:Res} {b:zdK} {w:List Nat} (h:prS K1 r b m w): ∃id i n j m B C rest,r= .ok (.agg (.val (.int .i64 id):: .slc i 0 n:: .slc j 0 m::rest))/\b i=some B/\b j=some C/\K1 i n B j m C id rest:=by
 unfold prS at h;split at h
 ·rename_i id i n j m rest;split at h
  ·rename_i B C hB hC;exact⟨id,i,n,j,m,B,C,rest,rfl,hB,hC,h⟩
  ·exact h.elim
 ·exact h.elim
theorem Tc: ∀B:Base,GlobB B->VU prog B 36 SQ:=Sh S6 λbl nx args C hk hp=>by
 unfold SQ at hk;split at hk
 ·rename_i a b c k s ex;split at hk
  ·rename_i bb o n g hs;simp only[za1] at hk;subst hk;simp only[za2,zdu] at hp;obtain⟨⟨⟨⟨⟨⟨rfl,hn⟩,hg⟩,h0⟩,h1⟩,h2⟩,hc⟩:=hp;obtain⟨t1,t2⟩:=cq (f:=rnF [o] [] nx) hs hg;have hlen:(e4.list n g).length=n:=El.list_length;have hold: ∀C∈ [e4.old (e4.list n g)],cN C.kd=false/\C.kd.map=false:=by simp[cN,El.old,BK.map]
   have ml:=Sb (a:=(a,b,c)) (count:=k) (xs:=e4.list n g) (ex:=ex);refine⟨[o], [e4.old (e4.list n g)], [.agg [.val (.int .i64 a), .val (.int .i64 b), .val (.int .i64 c)], .val (.int .i64 k), .slc 0 0 (e4.list n g).length, .val (.bool ex)],St (Ta (a,b,c) k) (Tb (a,b,c) k) (SI (a,b,c) k (e4.list n g) ex) (e4.list n g).length,6,aw t1 trivial,bH (λC hC=>(hold C hC).1),cd (λC hC=>(hold C hC).2),ar rfl (ar rfl (ar (t2 0 rfl) rfl)), ?_⟩;refine Q8 (K:=prS (mdK (Bd (a,b,c) k (e4.list n g) ex))) ?_ λr bl' m w h=> ?_
   ·have:=Tw (Ta (a,b,c) k) (Tb (a,b,c) k) (SI (a,b,c) k (e4.list n g) ex) (e4.list n g).length (a,b,c) k (e4.list n g) ex (mdK (Bd (a,b,c) k (e4.list n g) ex));show TG _ _ _ _ (a,b,c) k (e4.list n g) ex _;rw[this];exact T7 h0 h1 h2 hc (El.good_list hg) (by omega)
   ·generalize Bd (a,b,c) k (e4.list n g) ex=p at h ml;obtain⟨id,i,n',j,m',B,C,rest,rfl,hB,hC,rfl,rfl,rfl,rfl,rfl,rfl,rfl,rfl⟩:=SK h;have e:=rns_free (f:=dt [o] [some 10,some 25] nx) (fj p.out);have e0:dt [o] [some 10,some 25] nx nx=some (some 10):=cO;have e1:dt [o] [some 10,some 25] nx (nx+1)=some (some 25):=jA 1;refine⟨(),trivial, [some 10,some 25],⟨_,rfl, ?_⟩,by simp[ck],⟨⟨by simp, ?_⟩,⟨by simp, ?_⟩,trivial⟩,cr (λC hC=>(hold C hC).1) rfl _⟩
    ·show SV.rn (dt [o] [some 10,some 25] nx) (TJ nx p)=_;unfold TJ;exact Xs (ar rfl (ar (by simp only[SV.rn,e0]) (ar (by simp only[SV.rn,e1]) e)))
    ·rw[hB];exact⟨by simp[El.own],λ_=>⟨ml.1,eU.one⟩,gC rfl rfl (za0 _) λ_ _=>rfl⟩
    ·rw[hC];exact⟨by simp[El.own],λ_=>⟨ml.2.2.1,eN.one⟩,gC rfl rfl (za0 _) λ_ _=>rfl⟩
  ·cases hk
 ·cases hk
def alN (n:Nat):Int:=if (20:Int)<(n:Int) then 20 else(n:Int)
def alG (s:ByteArray):ByteArray:=s.extract 0 (alN s.size).toNat
def ama (s:ByteArray):Bool:=decide (0<=alN s.size)&&decide (alN s.size<=(s.size:Int))
variable {n:Nat}
theorem alZ:0<=alN n/\alN n<=n/\alN n<=20:=by
 unfold alN;split<;>omega
theorem al0 (s:ByteArray):ama s=true:=by
 have:=alZ (n:=s.size);unfold ama;rw[zdq this.1,zdq this.2.1];rfl
def alv (x:RS):RS:=(alG x.1,alG x.2)
def alf (u:Un):Un:={u with f:=alv u.f,o:=alv u.o}
def alw (x:Nd):Nd:={x with v:=alv x.v,u:=alf x.u}
def alM (p:Pr):Pr:=⟨p.id,(p.inp.take 8).map alf,(p.nod.take 42).map alw,alf p.out⟩
theorem amn (a:Addr) (x:RS) (K:zdP):acb a xK [] noA 5 9 [cR.enc x] K=af (ama x.1) (af (ama x.2) (K (cR.enc (alv x)))):=by kernel_rfl
def gSh:List (FuncId×Ctr):=(9,k1 cR cR (λ_=>true) alv)::xK
theorem amF:GEk gSh:=(GEk.of BN).cons (λa W hW=>dD λx h=>l0 (GEk.of BN) (MEk.nil (a:=a)) hW (ann:=noA) (n:=5) eu (cR.ids _) (by rw[amn];exact ac (al0 _) (ac (al0 _) rfl))) call9
theorem amc (a:Addr) (u:Un) (K:zdP):acb a gSh [] noA 5 10 [cU.enc u] K=K (cU.enc (alf u)):=by kernel_rfl
def gFw:List (FuncId×Ctr):=(10,k1 cU cU (λ_=>true) alf)::gSh
theorem amV:GEk gFw:=amF.cons (λa W hW=>dD λu h=>l0 amF (MEk.nil (a:=a)) hW (ann:=noA) (n:=5) eu (cU.ids _) (by rw[amc])) call10
abbrev F1:=Int×List Un
abbrev F2:=Int×List Nd
def amo (I1:F1->Prop) (I2:F2->Prop) (N1 N2:Int):zdR:=λf k=>bif Nat.beq f 11 then(
 bif Nat.beq k 3 then some (λA=>{X:=F1,inv:=I1,tm:=λx=> [(4, .val (.int .i64 x.1))],st:= [(kA A 3,λx=>(qv A 3 0).take 1++(SV.slc A.nx 0 x.2.length::(qv A 3 0).drop 2))],gr:= [{src:= .cell (kA A 3) 0 1,sz:=20,n:=λx=>x.2.length,get:=λx=>eU.get x.2}],cleanG:=λg hg x e=>(by simp at hg;subst hg;exact eU.ids _),mu:=λx=>(N1 - x.1).toNat,keep:= [1,2,3]})
 else bif Nat.beq k 7 then some (λA=>{X:=F2,inv:=I2,tm:=λx=> [(5, .val (.int .i64 x.1))],st:= [(kA A 3,λx=>(qv A 3 0).take 2++(SV.slc A.nx 0 x.2.length::(qv A 3 0).drop 3))],gr:= [{src:= .cell (kA A 3) 0 2,sz:=26,n:=λx=>x.2.length,get:=λx=>eN.get x.2}],cleanG:=λg hg x e=>(by simp at hg;subst hg;exact eN.ids _),mu:=λx=>(N2 - x.1).toNat,keep:= [1,2,3]})
 else none) else none
abbrev amG (a:Addr) (I1:F1->Prop) (I2:F2->Prop) (N1 N2:Int) (p:Pr) (K1:Nat->Nat->Blk->Nat->Nat->Blk->Int->List SV->Prop):Prop:=
 XC a gFw [] (amo I1 I2 N1 N2) 6 11 [kB p] [eU.old p.inp,eN.old p.nod] (prS K1)
def amp:Prop:=cg 2/\cg 3/\cg 10/\True
def amx (p:Pr) (s:SV):zdJ:= .val (.int .i64 p.id)::s:: .val (.slice none 0 0)::ci (alf p.out)
def amy (p:Pr) (n0:Nat) (s:SV):zdJ:= .val (.int .i64 p.id):: .slc 13 0 n0::s::ci (alf p.out)
def am0 (p:Pr) (q:Nat) (i:Int) (m:Nat) (g:zdL) (z:F1):Prop:=(TV.v (cI.enc i)=TV.v (cI.enc z.1)/\amp)/\(True/\((amx p (.slc q 0 m)=amx p (.slc q 0 z.2.length)/\True)/\(af (Nat.beq 20 20&&decide (z.2.length<=m)) (∀e,e<z.2.length->g e=eU.get z.2 e)/\True)))
def am1 (p:Pr) (n0 q:Nat) (i:Int) (m:Nat) (g:zdL) (z:F2):Prop:=(TV.v (cI.enc i)=TV.v (cI.enc z.1)/\amp)/\(True/\((amy p n0 (.slc q 0 m)=amy p n0 (.slc q 0 z.2.length)/\True)/\(af (Nat.beq 26 26&&decide (z.2.length<=m)) (∀e,e<z.2.length->g e=eN.get z.2 e)/\True)))
def amW (I2:F2->Prop) (N2:Int) (p:Pr) (K1:Nat->Nat->Blk->Nat->Nat->Blk->Int->List SV->Prop) (us:zdV):Prop:=
 ∃z0:F2,I2 z0/\(((TV.v (cI.enc 0)=TV.v (cI.enc z0.1)/\amp)/\(True/\((amy p us.length (.val (.slice none 0 0))=amy p us.length (.val (.slice none z0.2.length 0))/\True)/\(z0.2.length=0/\True))))/\
  ∀z:F2,I2 z->ag (bif decide (z.1<(p.nod.length:Int)) then decide (z.1<42) else false)
   (eO p.nod.length z.1 (LY z.2.length (af (inR .i64 (z.1+1)) (∃z':F2,I2 z'/\((N2 - z'.1).toNat<(N2 - z.1).toNat/\am1 p us.length 55 (z.1+1) (z.2.length+1) (gv z.2 (alw (eN.nth p.nod (0+z.1.toNat)))) z')))))
   (K1 13 us.length {n:=us.length,sz:=20,get:=eU.get us,kd:= .own,nn:=false} 24 z.2.length {n:=z.2.length,sz:=26,get:=eN.get z.2,kd:= .own,nn:=false} p.id (ci (alf p.out))))
def fwT (I1:F1->Prop) (I2:F2->Prop) (N1 N2:Int) (p:Pr) (K1:Nat->Nat->Blk->Nat->Nat->Blk->Int->List SV->Prop):Prop:=
 ∃x0:F1,I1 x0/\(((TV.v (cI.enc 0)=TV.v (cI.enc x0.1)/\amp)/\(True/\((amx p (.val (.slice none 0 0))=amx p (.val (.slice none x0.2.length 0))/\True)/\(x0.2.length=0/\True))))/\
  ∀x:F1,I1 x->ag (bif decide (x.1<(p.inp.length:Int)) then decide (x.1<8) else false)
   (eO p.inp.length x.1 (tO x.2.length (af (inR .i64 (x.1+1)) (∃x':F1,I1 x'/\((N1 - x'.1).toNat<(N1 - x.1).toNat/\am0 p 24 (x.1+1) (x.2.length+1) (Jz x.2 (alf (eU.nth p.inp (0+x.1.toNat)))) x')))))
   (amW I2 N2 p K1 x.2))
theorem amL (a:Addr) (I1:F1->Prop) (I2:F2->Prop) (N1 N2:Int) (p:Pr) (K1:Nat->Nat->Blk->Nat->Nat->Blk->Int->List SV->Prop):amG a I1 I2 N1 N2 p K1=fwT I1 I2 N1 N2 p K1:=by kernel_rfl
theorem alO:amp:=⟨rfl,rfl,rfl,trivial⟩
def amM (p:Pr) (x:F1):Prop:=0<=x.1/\x.1<=p.inp.length/\x.1<=8/\x.2=(p.inp.take x.1.toNat).map alf
def amz (p:Pr) (x:F2):Prop:=0<=x.1/\x.1<=p.nod.length/\x.1<=42/\x.2=(p.nod.take x.1.toNat).map alw
variable {α:Type}
theorem al1 {β:Type} {d:α} {f:α->β} {l:List α} {i:Int} (h0:0<=i) (h1:i<l.length):(l.take (i+1).toNat).map f=(l.take i.toNat).map f++ [f (mb d l (0+i.toNat))]:=by
 rw[show (i+1).toNat=i.toNat+1 by omega,za7,zc1,Co (d:=d) (by omega)];simp
variable {p:Pr} {us:zdV}
theorem amd (hn:p.nod.length<=1000000)
 (k: ∀ns,ns=(p.nod.take 42).map alw->K1 13 us.length {n:=us.length,sz:=20,get:=eU.get us,kd:= .own,nn:=false} 24 ns.length {n:=ns.length,sz:=26,get:=eN.get ns,kd:= .own,nn:=false} p.id (ci (alf p.out))):amW (amz p) p.nod.length p K1 us:=by
 refine⟨(0, []),⟨zat _,by show (0:Int)<=_;omega,by decide,rfl⟩,⟨⟨rfl,alO⟩,trivial,⟨rfl,trivial⟩,rfl,trivial⟩, ?_⟩;rintro⟨i,ns⟩ ⟨k0,k1,k2,k3⟩;dsimp only at k0 k1 k2 k3 ⊢;refine ah (λhb=> ?_) (λhb=> ?_)
 ·have hb:i<(p.nod.length:Int)/\i<42:=by
   cases h:decide (i<(p.nod.length:Int)) with
   |true=>rw[h] at hb;exact⟨zdv h,zdv hb⟩
   |false=>rw[h] at hb;cases hb
  have l1:ns.length=i.toNat:=by rw[k3];simp;omega
  refine aY k0 hb.1 (xp (by omega) (ac (VP.2 (by omega)) ⟨(i+1,ns++ [alw (eN.nth p.nod (0+i.toNat))]),⟨by show 0<=i+1;omega,by show i+1<=_;omega,by show i+1<=42;omega, ?_⟩,by show (_:Nat)<_;dsimp only;omega,⟨⟨rfl,alO⟩,trivial,⟨by simp,trivial⟩,S7 rfl,trivial⟩⟩));show ns++ [_]=(p.nod.take (i+1).toNat).map alw;rw[al1 (d:=noN) k0 hb.1,k3];rfl
 ·refine k ns ?_;rw[k3]
  congr 1
  have hb: ¬(i<(p.nod.length:Int)/\i<42):=λh=>by
   rw[zdq h.1,zdq h.2] at hb;cases hb
  by_cases h:i<42
  ·rw[show i.toNat=p.nod.length by omega,List.take_length,zaI (by omega)]
  ·rw[show i.toNat=42 by omega]
theorem ame (hi:p.inp.length<=1000000) (hn:p.nod.length<=1000000)
 (k: ∀us ns,us=(p.inp.take 8).map alf->ns=(p.nod.take 42).map alw->K1 13 us.length {n:=us.length,sz:=20,get:=eU.get us,kd:= .own,nn:=false} 24 ns.length {n:=ns.length,sz:=26,get:=eN.get ns,kd:= .own,nn:=false} p.id (ci (alf p.out))):fwT (amM p) (amz p) p.inp.length p.nod.length p K1:=by
 refine⟨(0, []),⟨zat _,by show (0:Int)<=_;omega,by decide,rfl⟩,⟨⟨rfl,alO⟩,trivial,⟨rfl,trivial⟩,rfl,trivial⟩, ?_⟩;rintro⟨i,us⟩ ⟨k0,k1,k2,k3⟩;dsimp only at k0 k1 k2 k3 ⊢;refine ah (λhb=> ?_) (λhb=> ?_)
 ·have hb:i<(p.inp.length:Int)/\i<8:=by
   cases h:decide (i<(p.inp.length:Int)) with
   |true=>rw[h] at hb;exact⟨zdv h,zdv hb⟩
   |false=>rw[h] at hb;cases hb
  have l1:us.length=i.toNat:=by rw[k3];simp;omega
  refine aY k0 hb.1 (fV (by omega) (ac (VP.2 (by omega)) ⟨(i+1,us++ [alf (eU.nth p.inp (0+i.toNat))]),⟨by show 0<=i+1;omega,by show i+1<=_;omega,by show i+1<=8;omega, ?_⟩,by show (_:Nat)<_;dsimp only;omega,⟨⟨rfl,alO⟩,trivial,⟨by simp,trivial⟩,Sc rfl,trivial⟩⟩));show us++ [_]=(p.inp.take (i+1).toNat).map alf;rw[al1 (d:=noU) k0 hb.1,k3];rfl
 ·refine amd hn λns h=>k us ns ?_ h;rw[k3]
  congr 1
  have hb: ¬(i<(p.inp.length:Int)/\i<8):=λh=>by
   rw[zdq h.1,zdq h.2] at hb;cases hb
  by_cases h:i<8
  ·rw[show i.toNat=p.inp.length by omega,List.take_length,zaI (by omega)]
  ·rw[show i.toNat=8 by omega]
def fwK (p:Pr) (i n:Nat) (B:Blk) (j m:Nat) (C:Blk) (id:Int) (rest:zdJ):Prop:=i=13/\n=p.inp.length/\B=eU.own p.inp/\j=24/\m=p.nod.length/\C=eN.own p.nod/\id=p.id/\rest=ci p.out
def amN:MCtr:=λbl nx args=>match args with
 | [s]=>match mC bl s with
   |some a=>some {X:=Unit,pre:=a.need&&decide (1<=a.p.inp.length)&&decide (1<=a.p.nod.length),spec:=λ_=>True,out:=λ_=>TJ nx (alM a.p),nw:=λ_=> [eU.own (alM a.p).inp,eN.own (alM a.p).nod],ex:=λ_=>⟨(),trivial⟩}
   |none=>none
 |_=>none
theorem amA {a:Addr}: ∀B:Base,GlobEB a B->VU prog B 11 amN:=agE amV MEk.nil λbl nx args C hk hp=>by
 unfold amN at hk;split at hk
 ·rename_i s;split at hk
  ·rename_i q hq;simp only[za1] at hk;subst hk;simp only[za2,zdu] at hp;obtain⟨⟨hp,h1⟩,h2⟩:=hp;obtain⟨s1,s2,s3,s4,s5,s6⟩:=eX (f:=rnF [q.o1,q.o2] [] nx) hq hp rfl rfl;refine⟨[q.o1,q.o2], [eU.old q.p.inp,eN.old q.p.nod], [kB q.p],amo (amM q.p) (amz q.p) q.p.inp.length q.p.nod.length,6,aw s1 (aw s2 trivial),bH (by simp[cN,El.old]),cd (by simp[El.old,BK.map]),ar s3 rfl, ?_⟩;have hold: ∀C∈ [eU.old q.p.inp,eN.old q.p.nod],cN C.kd=false:=by simp[cN,El.old]
   refine afP (K:=prS (fwK (alM q.p))) ?_ λr bl' m w h=> ?_
   ·have e:=amL a (amM q.p) (amz q.p) q.p.inp.length q.p.nod.length q.p (fwK (alM q.p));unfold amG at e;rw[e];refine ame s5 s6 λus ns h3 h4=> ?_;subst h3 h4;exact⟨rfl,rfl,rfl,rfl,rfl,rfl,rfl,rfl⟩
   ·have l1:1<=(alM q.p).inp.length:=by unfold alM;simp;omega
    have l2:1<=(alM q.p).nod.length:=by unfold alM;simp;omega
    generalize alM q.p=p at h l1 l2;obtain⟨id,i,n',j,m',B,C,rest,rfl,hB,hC,rfl,rfl,rfl,rfl,rfl,rfl,rfl,rfl⟩:=SK h;have e:=rns_free (f:=dt [q.o1,q.o2] [some 13,some 24] nx) (fj p.out);have e0:dt [q.o1,q.o2] [some 13,some 24] nx nx=some (some 13):=cO;have e1:dt [q.o1,q.o2] [some 13,some 24] nx (nx+1)=some (some 24):=jA 1;refine⟨(),trivial, [some 13,some 24],⟨_,rfl, ?_⟩,by simp[ck],⟨⟨by simp, ?_⟩,⟨by simp, ?_⟩,trivial⟩,cr hold rfl _⟩
    ·show SV.rn (dt [q.o1,q.o2] [some 13,some 24] nx) (TJ nx p)=_;unfold TJ;exact Xs (ar rfl (ar (by simp only[SV.rn,e0]) (ar (by simp only[SV.rn,e1]) e)))
    ·rw[hB];exact⟨by simp[El.own],λ_=>⟨l1,eU.one⟩,gC rfl rfl (za0 _) λ_ _=>rfl⟩
    ·rw[hC];exact⟨by simp[El.own],λ_=>⟨l2,eN.one⟩,gC rfl rfl (za0 _) λ_ _=>rfl⟩
  ·cases hk
 ·cases hk
def amX:zdT:= [(14,xi),(11,amN),(36,SQ),(7,adV)]
theorem amB {a:Addr}:MEk a amX:=(((MEk.nil.cons agk).cons λB hB=>Tc B hB.gU).cons amA).cons λB hB=>vM B hB.gU
def amO:List SV->Nat
 |_::_:: .slc j _ _::_=>j
 |_=>0
def amq (I:F2->Prop) (N:Int):zdR:=λf k=>bif Nat.beq f 5&&Nat.beq k 23 then some (λA=>{X:=F2,inv:=I,tm:=λx=> [(25, .val (.int .i64 x.1))],bk:= [(amO (qv A 24 0),λx=>eN.get x.2)],mu:=λx=>(N - x.1).toNat,keep:= [8,9,22,24],clean:=λp hp x e=>by simp at hp;subst hp;exact eN.ids _}) else none
def al2 (a b c k:Int) (n:Nat):SV:= .agg [.val (.int .i64 a), .val (.int .i64 b), .val (.int .i64 c), .val (.int .i64 k), .slc 0 0 n]
def sv4 (h:I4):SV:= .agg [.val (.int .i64 h.1), .val (.int .i64 h.2.1), .val (.int .i64 h.2.2.1), .val (.int .i64 h.2.2.2)]
abbrev amH (p:Addr) (I:F2->Prop) (N:Int) (a b c k:Int) (xs:List I4) (count which:Int) (h:I4) (Q:zdP):Prop:=
 XC p xK amX (amq I N) 8 5 [al2 a b c k xs.length,cI.enc count,cI.enc which,sv4 h] [e4.old xs] (Go.Sy.okK λr _ _ _=>Q r)
def amr (n1 m1:Nat) (g1:zdL) (n2 m2:Nat) (g2:zdL) (u:Un):Bool:=(Nat.ble n1 m1&&Nat.beq 20 20&&true)&&(Nat.ble n2 m2&&Nat.beq 26 26&&true)&&bW n1&&bW n2&&eU.good szB n1 g1&&eN.good szN n2 g2&&szB u
def rdG (p:Pr) (m:Nat) (g:zdL) (u:Un):Pr:=⟨p.id,eU.list p.inp.length (eU.get p.inp),eN.list m g,u⟩
def ndG (p:Pr) (g:zdL):Bool:=ali p.inp.length (eU.get p.inp) p.nod.length g p.out
def chG (p:Pr) (g:zdL):List Un×Int×Int:=VJ (rdG p p.nod.length g p.out)
def alV (h:I4):Nd:=⟨co h.1 10,VI,noU,co h.2.1 11 - 5,co h.2.2.1 16 - 1,co h.2.2.2 16 - 1⟩
def putG (g:zdL) (i:Nat) (x:Nd):zdL:=λe=>bif Nat.beq e i then gZ (g e) 0 (svN x) else g e
def amI (s:Pr) (at':Int) (l:zdW) (Q:zdP):Prop:=n9 (ndG s (eN.get l)) (Q (cB.enc (bif (chG s (eN.get l)).2.2==90 then(chG s (eN.get l)).2.1==at' else false)))
def bgM (s:Pr) (at' i:Int) (g:zdL) (z:F2):Prop:=(TV.v (cI.enc i)=TV.v (cI.enc z.1)/\tvE (cB.enc false)/\tvE (cB.enc true)/\tvE (cI.enc at')/\cg 138/\True)/\((NC s.nod.length (λe=>g e=eN.get z.2 e)/\True)/\(True/\True))
def ams (I:F2->Prop) (N:Int) (s:Pr) (at':Int) (Q:zdP):Prop:=
 ∃x0:F2,I x0/\(bgM s at' (at'+1) (eN.get s.nod) x0/\ ∀x:F2,I x->ag (decide (x.1<(s.nod.length:Int)))
  (eO s.nod.length x.1 (af (inR .i64 (x.1+1)) (∃x':F2,I x'/\((N - x'.1).toNat<(N - x.1).toNat/\bgM s at' (x.1+1) (putG (eN.get x.2) (0+x.1.toNat) noN) x')))) (amI s at' x.2 Q))
def bg4 (I:F2->Prop) (N:Int) (r:Pr) (k:Int) (g:zdL) (Q:zdP):Prop:=
 n9 (ndG r g) (ag ((chG r g).2.2==0) (Q (cB.enc true)) (ag (bif decide ((chG r g).2.1<k) then true else decide ((chG r g).2.1>(r.nod.length:Int))) (Q (cB.enc false)) (
  n9 (ndG r g&&decide (1<=(rdG r r.nod.length g r.out).inp.length)&&decide (1<=(rdG r r.nod.length g r.out).nod.length)) (af (inR .i64 ((chG r g).2.1+1)) (ams I N (alM (rdG r r.nod.length g r.out)) (chG r g).2.1 Q)))))
def bg3 (I:F2->Prop) (N:Int) (r:Pr) (k:Int) (h:I4) (Q:zdP):Prop:=
 af (pkB h.1 10) (af (pkB h.2.1 11) (af (inR .i64 (co h.2.1 11 - 5)) (af (pkB h.2.2.1 16) (af (inR .i64 (co h.2.2.1 16 - 1)) (af (pkB h.2.2.2 16) (af (inR .i64 (co h.2.2.2 16 - 1))
  (eO r.nod.length k (bg4 I N r k (putG (eN.get r.nod) (0+k.toNat) (alV h)) Q))))))))
def bg2 (I:F2->Prop) (N:Int) (p:Pr) (n k:Int) (h:I4) (l:zdV) (Q:zdP):Prop:=
 af (decide (0<=n)&&decide (n<=(p.nod.length:Int))&&decide (0+p.nod.length<=p.nod.length)&&true) (af (inR .i64 (n - 1)) (eO l.length (n - 1) (
  n9 (amr p.inp.length p.inp.length (eU.get p.inp) n.toNat p.nod.length (eN.get p.nod) (mb noU l (0+(n - 1).toNat))) (
  ag (bif (VJ (rdG p n.toNat (eN.get p.nod) (mb noU l (0+(n - 1).toNat)))).2.2 !=0 then true else(((VJ (rdG p n.toNat (eN.get p.nod) (mb noU l (0+(n - 1).toNat)))).1.length:Int) !=n)) (Q (cB.enc false)) (
  af (pkB k p.nod.length) (n9 (ndG p (eN.get p.nod)&&decide (1<=(rdG p p.nod.length (eN.get p.nod) p.out).inp.length)&&decide (1<=(rdG p p.nod.length (eN.get p.nod) p.out).nod.length))
   (bg3 I N (alM (rdG p p.nod.length (eN.get p.nod) p.out)) (co k p.nod.length) h Q)))))))
def bg1 (I:F2->Prop) (N:Int) (p:Pr) (count which:Int) (h:I4) (Q:zdP):Prop:=
 n9 (ndG p (eN.get p.nod)) (ag (bif (bif (chG p (eN.get p.nod)).2.2 !=0 then true else(chG p (eN.get p.nod)).2.1 !=0) then true else(((chG p (eN.get p.nod)).1.length:Int) !=(p.nod.length:Int))) (Q (cB.enc false)) (
  af (pkB count p.nod.length) (af (inR .i64 (1+co count p.nod.length)) (bg2 I N p (1+co count p.nod.length) which h (chG p (eN.get p.nod)).1 Q))))
def bgT (I:F2->Prop) (N:Int) (a b c k:Int) (xs:List I4) (count which:Int) (h:I4) (Q:zdP):Prop:=
 uK (n9 (Nat.ble xs.length xs.length&&Nat.beq 4 4&&true&&decide (xs.length<=9223372036854775807)&&e4.good uz4 xs.length (e4.get xs)&&cl a&&cl b&&cl c&&cl k) (bg1 I N (Bd (a,b,c) k (e4.list xs.length (e4.get xs)) false) count which h Q))
theorem amP (p:Addr) (I:F2->Prop) (N:Int) (a b c k:Int) (xs:List I4) (count which:Int) (h:I4) (Q:zdP):amH p I N a b c k xs count which h Q=bgT I N a b c k xs count which h Q:=by kernel_rfl
theorem alQ {inp:zdV}: ∀{l r:zdW} {us vs:zdV},iB inp l us=(vs,true)->iB inp (l++r) us=iB inp r vs
 | [],r,us,vs,h=>by
   simp only[iB,zag,and_true] at h;subst h;rfl
 |x::l,r,us,vs,h=>by
  simp only[iB,zaO] at h ⊢;cases e:mn inp us x with
  |none=>rw[e] at h;simp at h
  |some u=>rw[e] at h;exact alQ h
theorem aaM {inp:zdV}: ∀{l:zdW} {us vs:zdV} (n:Nat),iB inp l us=(vs,true)->iB inp (l.take n) us=(vs.take (us.length+n),true)
 | [],us,vs,n,h=>by
   simp only[iB,zag,and_true] at h;subst h;rw[List.take_nil,iB,zaI (by omega)]
 |x::l,us,vs,0,h=>by
  rw[zbv,iB,zaY];obtain⟨w,rfl⟩: ∃w,vs=us++w:=unsF_pre h;rw[List.take_left]
 |x::l,us,vs,n+1,h=>by
  simp only[iB,List.take_succ_cons] at h ⊢;cases e:mn inp us x with
  |none=>rw[e] at h;simp at h
  |some u=>
   rw[e] at h;have:=aaM n h;rw[za3,za6] at this;rw[show us.length+(n+1)=us.length+1+n by omega];exact this
where
 unsF_pre {inp:zdV}: ∀{l:zdW} {us vs:zdV} {b:Bool},iB inp l us=(vs,b)-> ∃w,vs=us++w
 | [],us,vs,b,h=>by
   simp only[iB,zag] at h;exact⟨[],by rw[zbf,h.1]⟩
 |x::l,us,vs,b,h=>by
  simp only[iB] at h;cases e:mn inp us x with
  |none=>rw[e] at h;simp only[zag] at h;exact⟨[],by rw[zbf,h.1]⟩
  |some u=>
   rw[e] at h;obtain⟨w,hw⟩:=unsF_pre h;exact⟨[u]++w,by rw[hw,za5]⟩
theorem alH {inp:zdV}: ∀{l:zdW} {us vs:zdV},iB inp l us=(vs,true)->vs.length=us.length+l.length
 | [],us,vs,h=>by
   simp only[iB,zag,and_true] at h;subst h;rfl
 |x::l,us,vs,h=>by
  simp only[iB] at h;cases e:mn inp us x with
  |none=>rw[e] at h;simp at h
  |some u=>
   rw[e] at h;have:=alH h;rw[za3,za6] at this;rw[this,za4];omega
theorem alR {inp:zdV}: ∀{l:zdW} {us vs:zdV},iB inp l us=(vs,false)->us.length<=vs.length/\vs.length<us.length+l.length/\ ∀l':zdW,l'.take (vs.length - us.length+1)=l.take (vs.length - us.length+1)->iB inp l' us=(vs,false)
 | [],us,vs,h=>by simp[iB] at h
 |x::l,us,vs,h=>by
  simp only[iB] at h;cases e:mn inp us x with
  |none=>
   rw[e] at h;simp only[zag,and_true] at h;subst h;refine⟨za0 _,by simp,λl' hl=> ?_⟩;rw[zaJ] at hl;cases l' with
   |nil=>simp at hl
   |cons y r=>
    simp only[List.take_succ_cons,zca] at hl;rw[hl.1,iB,e]
  |some u=>
   rw[e] at h;obtain⟨h1,h2,h3⟩:=alR h;rw[za3,za6] at h1 h2 h3;refine⟨by omega,by rw[za4];omega,λl' hl=> ?_⟩;cases l' with
   |nil=>simp at hl
   |cons y r=>
    rw[show vs.length - us.length+1=(vs.length - (us.length+1)+1)+1 by omega,List.take_succ_cons,List.take_succ_cons,zca] at hl;rw[hl.1,iB,e];exact h3 r hl.2
theorem amf (hv:VM p=true) (h1:1<=n) (hn:n<=p.nod.length):VJ ⟨p.id,p.inp,p.nod.take n,mb noU (VJ p).1 (n - 1)⟩=((VJ p).1.take n,0,0)/\((VJ p).1.take n).length=n:=by
 unfold VM at hv;have hv:(VJ p).2.2=0:=by simpa using hv
 have hb:oB p=true:=by
  cases hb:oB p with
  |true=>rfl
  |false=>unfold VJ at hv;rw[hb] at hv;cases hv
 cases hu:iB p.inp p.nod [] with
 |mk us b=>
  cases b with
  |false=>unfold VJ at hv;rw[hb,hu] at hv;cases hv
  |true=>
   have hc:(VJ p).1=us:=by
    unfold VJ at hv ⊢;rw[hb,hu] at hv ⊢;simp only[zds] at hv ⊢;cases he:eqU (ly us) p.out with
    |true=>rfl
    |false=>rw[he] at hv;cases hv
   have hl:=alH hu;rw[za9,za7] at hl;have ht:=aaM n hu;rw[za9,za7] at ht;have hlt:(us.take n).length=n:=by rw[zaE];omega
   have hla:ly (us.take n)=mb noU us (n - 1):=by
    unfold ly;rw[hlt];refine bR ?_;rw[zcc (by omega),Co (d:=noU) (by omega)]
   rw[hc];refine⟨?_,hlt⟩;have hb':=Wb.1 hb;have hb2:oB ⟨p.id,p.inp,p.nod.take n,mb noU us (n - 1)⟩=true:=Wb.2 ⟨hb'.1,hb'.2.1,by show 1<=(p.nod.take n).length;rw[zaE];omega,by show (p.nod.take n).length<=40;rw[zaE];omega⟩;unfold VJ;rw[hb2];simp only[zds,ht];rw[hla,show eqU (mb noU us (n - 1)) (mb noU us (n - 1))=true from Wh.2 rfl];rfl
theorem amt (hb:oB p=true) (hw:(VJ p).2.2≠0): ∃n:Nat,VJ p=([],(n:Int),90)/\n<=p.nod.length/\(∀l':zdW,l'.length=p.nod.length->l'.take (n+1)=p.nod.take (n+1)->VJ ⟨p.id,p.inp,l',p.out⟩=([],(n:Int),90))/\
 ∀(k:Nat) (vs:zdV),k<=p.nod.length->iB p.inp (p.nod.take k) []=(vs,true)->k<=n:=by
 have hbl: ∀l':zdW,l'.length=p.nod.length->oB ⟨p.id,p.inp,l',p.out⟩=true:=λl' h=>by
  have:=Wb.1 hb;exact Wb.2 ⟨this.1,this.2.1,by show 1<=l'.length;omega,by show l'.length<=40;omega⟩
 cases hu:iB p.inp p.nod [] with
 |mk us b=>
  cases b with
  |true=>
   have hc: ∀l',l'=p.nod->VJ ⟨p.id,p.inp,l',p.out⟩=([],(p.nod.length:Int),90):=λl' h=>by
    subst h;unfold VJ at hw ⊢;rw[hb,hu] at hw;rw[hbl _ rfl];simp only[zds,hu] at hw ⊢;cases he:eqU (ly us) p.out with
    |false=>rfl
    |true=>rw[he] at hw;exact absurd rfl hw
   exact⟨p.nod.length,hc _ rfl,za0 _,λl' hl ht=>hc l' (by rw[zaI (by omega),zaI (by omega)] at ht;exact ht),λk vs hk _=>hk⟩
  |false=>
   obtain⟨h1,h2,h3⟩:=alR hu;rw[za9] at h1 h2 h3;rw[za7] at h2;rw[zaX] at h3;have hc: ∀l',l'.length=p.nod.length->l'.take (us.length+1)=p.nod.take (us.length+1)->VJ ⟨p.id,p.inp,l',p.out⟩=([],(us.length:Int),90):=λl' hl ht=>by
    unfold VJ;rw[hbl l' hl];simp only[zds,h3 l' ht]
   refine⟨us.length,hc _ rfl rfl,by omega,hc,λk vs hk ht=> ?_⟩;have hs:=alQ (r:=p.nod.drop k) ht;rw[zdn,hu] at hs;have:=(alR hs.symm).1;have hv:=alH ht;rw[za9,za7,zaE] at hv;omega
theorem aln (s:ByteArray):(alG s).size<=20:=by
 have:=alZ (n:=s.size);unfold alG;rw[ByteArray.size_extract];omega
theorem al3 {s:ByteArray} (h:s.size<=20):alG s=s:=by
 unfold alG;rw[show (alN s.size).toNat=s.size by unfold alN;split<;>omega];exact ByteArray.extract_zero_size
theorem alL {x:RS} (h1:x.1.size<=20) (h2:x.2.size<=20):alv x=x:=by unfold alv;rw[al3 h1,al3 h2]
variable {u:Un}
theorem alW (h1:u.f.1.size<=20) (h2:u.f.2.size<=20) (h3:u.o.1.size<=20) (h4:u.o.2.size<=20):alf u=u:=by unfold alf;rw[alL h1 h2,alL h3 h4]
theorem amu (u:Un):alf (alf u)=alf u:=alW (aln _) (aln _) (aln _) (aln _)
def shU (u:Un):Bool:=decide (u.f.1.size<=20)&&decide (u.f.2.size<=20)&&decide (u.o.1.size<=20)&&decide (u.o.2.size<=20)
theorem amQ (h:shU u=true):alf u=u:=by
 unfold shU at h;simp only[za2,zdu] at h;exact alW h.1.1.1 h.1.1.2 h.1.2 h.2
theorem alU (n:Int):alf (BL n)=BL n:=amQ (RK shU (by kernel_rfl) n)
def shR (x:RS):Bool:=decide (x.1.size<=20)&&decide (x.2.size<=20)
theorem amC:((List.range 13).all λi=>(List.range 4).all λj=>shR (rMk ((i:Int) - 6) (1+(j:Int))).1)=true:=by kernel_rfl
theorem amv {a b:Int} (ha:0<=a/\a<13) (hb:0<=b/\b<4):alv (rMk (a - 6) (1+b)).1=(rMk (a - 6) (1+b)).1:=by
 have h:=zaf.1 amC a.toNat (by simp;omega);have h:=zaf.1 h b.toNat (by simp;omega);rw[show ((a.toNat:Nat):Int)=a by omega,show ((b.toNat:Nat):Int)=b by omega] at h;unfold shR at h;simp only[za2,zdu] at h;exact alL h.1 h.2
theorem alk {o n l r:Int}:alw ⟨o,VI,noU,n,l,r⟩=⟨o,VI,noU,n,l,r⟩:=by
 unfold alw;rw[show alv VI=VI from alL (by decide) (by decide),show alf noU=noU from alW (by decide) (by decide) (by decide) (by decide)]
theorem amw (ni n:Int) (y:I4):alw (RR ni n y)=RR ni n y:=by
 have B: ∀(b:Bool) (x y:Nd),alw x=x->alw y=y->alw (cond b x y)=cond b x y:=λb x y h k=>by cases b;exact k;exact h
 unfold RR;refine B _ _ _ ?_ (B _ _ _ alk (B _ _ _ alk (B _ _ _ alk alk)));unfold alw;have b1:=gR y.2.1 (n:=13) (by decide);have b2:=gR y.2.2.1 (n:=4) (by decide);rw[amv b1 b2,alU]
theorem al4 {q:Nd->Prop} {ex:Bool} {inp:zdV} (hq: ∀n y,q (RR inp.length n y)): ∀{xs:List I4} {z:List Nd×List Un},(∀x∈z.1,q x)-> ∀x∈(RT ex inp xs z).1,q x
 | [],z,h=>h
 |y::r,z,h=>by
  unfold RT;cases hl:decide (z.1.length<14) with
  |false=>exact h
  |true=>
   refine al4 hq (xs:=r) ?_;unfold TH;split
   ·cases !ex||opF y !=8 with
    |false=>exact h
    |true=>
     intro x hx;rcases za8.1 hx with a|a
     ·exact h x a
     ·rw[zaj.1 a];exact hq _ _
   ·exact h
theorem al5: ∀{k:Nat},∀x∈R9 k,alw x=x
 |0,x,h=>by cases h
 |k+1,x,h=>by
  rcases za8.1 h with h|h
  ·exact al5 x h
  ·rw[zaj.1 h];exact alk
theorem al6 {a:Int×Int×Int}: ∀{k:Nat},∀u∈QQ a k,alf u=u
 |0,u,h=>by cases h
 |k+1,u,h=>by
  rcases za8.1 h with h|h
  ·exact al6 u h
  ·rw[zaj.1 h];exact alU _
theorem map_id {f:α->α} {l:List α} (h: ∀x∈l,f x=x):l.map f=l:=by
 induction l with
 |nil=>rfl
 |cons x r ih=>rw[zaK,h x (zbF ..),ih λy hy=>h y (zan _ hy)]
theorem amb (h1:p.inp.length<=8) (h2:p.nod.length<=42) (hu: ∀u∈p.inp,alf u=u) (hn: ∀x∈p.nod,alw x=x):alM p=⟨p.id,p.inp,p.nod,alf p.out⟩:=by
 unfold alM;rw[zaI h1,zaI h2,map_id hu,map_id hn]
theorem amg: ∀u∈(Bd a count xs ex).inp,alf u=u:=al6
theorem amh: ∀x∈(Bd a count xs ex).nod,alw x=x:=al4 (λn y=>amw _ n y) al5
theorem amD (u:Un):szB (alf u)=true:=by
 have h: ∀s:ByteArray,uz (alG s)=true:=λs=>zdq (zac (aln s) (by decide));show ((uz (alG u.f.1)&&uz (alG u.f.2))&&(uz (alG u.o.1)&&uz (alG u.o.2)))=true;rw[h,h,h,h];rfl
theorem al7 {α:Type} {d x:α}: ∀{l:List α} {i e:Nat},e<l.length->mb d (l.set i x) e=bif Nat.beq e i then x else mb d l e
 | [],_,_,h=>by simp at h
 |y::r,0,0,_=>rfl
 |y::r,0,e+1,_=>rfl
 |y::r,i+1,0,_=>rfl
 |y::r,i+1,e+1,h=>by
  rw[zaR];exact al7 (l:=r) (by simpa using h)
variable {l:zdW}
theorem al8 {i e:Nat} {x:Nd} (he:e<l.length):putG (eN.get l) i x e=eN.get (l.set i x) e:=by
 show (bif Nat.beq e i then gZ (svN (mb noN l e)) 0 (svN x) else svN (mb noN l e))=svN (mb noN (l.set i x) e);rw[al7 he];cases Nat.beq e i<;>rfl
variable {g:zdL}
theorem amY (hm:l.length=m) (h: ∀e,e<m->g e=eN.get l e):eN.list m g=l:=by
 subst hm;have:eN.list l.length g=eN.list l.length (eN.get l):=vx λe he=>by rw[h e he]
 rw[this,El.list_get]
theorem amJ (hm:l.length=m) (h: ∀e,e<m->g e=eN.get l e) (hs: ∀x∈l,szN x=true):eN.good szN m g=true:=by
 subst hm;exact El.good_iff.2 λe he=>by
  rw[h e he];exact El.good_iff.1 (El.good_get (E:=eN) hs) e he
theorem alS (hm:l.length=m) (h: ∀e,e<m->g e=eN.get l e):rdG p m g u=⟨p.id,p.inp,l,u⟩:=by
 unfold rdG;rw[amY hm h,show eU.list p.inp.length (eU.get p.inp)=p.inp from El.list_get]
theorem alX (hm:l.length=p.nod.length) (h: ∀e,e<p.nod.length->g e=eN.get l e) (l1:p.inp.length<=1000000) (l2:p.nod.length<=1000000) (si: ∀u∈p.inp,szB u=true) (sn: ∀x∈l,szN x=true) (so:szB p.out=true):ndG p g=true:=
 als l1 l2 (El.good_get si) (amJ hm h sn) so
theorem alY: ∀{n:Nat} {f:Nat->Prop},(∀e,e<n->f e)->NC n f
 |0,_,_=>trivial
 |n+1,f,h=>⟨h n (zcz n),alY λe he=>h e (by omega)⟩
theorem alq (hv:VM p=true):oB p=true/\(VJ p).2.2=0/\(VJ p).2.1=0/\iB p.inp p.nod []=((VJ p).1,true):=by
 unfold VM at hv;have hv:(VJ p).2.2=0:=by simpa using hv
 unfold VJ at hv ⊢;cases hb:oB p with
 |false=>rw[hb] at hv;cases hv
 |true=>
  rw[hb] at hv;simp only[zds] at hv ⊢;cases hu:iB p.inp p.nod [] with
  |mk us b=>
   cases b with
   |false=>rw[hu] at hv;cases hv
   |true=>
    rw[hu] at hv;simp only at hv ⊢;cases he:eqU (ly us) p.out with
    |true=>exact⟨trivial,rfl,rfl,rfl⟩
    |false=>rw[he] at hv;cases hv
theorem Xl {α:Type} {d:α}: ∀{l:List α} {n e:Nat},e<n->mb d (l.take n) e=mb d l e
 | [],_,_,_=>by rw[List.take_nil]
 |y::r,n+1,0,_=>rfl
 |y::r,n+1,e+1,h=>Xl (l:=r) (by omega)
def bgQ (p:Pr) (k:Int) (h:I4):Pr:=⟨p.id,p.inp,p.nod.set k.toNat (alV h),alf p.out⟩
def bgI (t:Pr) (x:F2):Prop:=(VJ t).2.1+1<=x.1/\x.2.length=t.nod.length/\x.2.take ((VJ t).2.1+1).toNat=t.nod.take ((VJ t).2.1+1).toNat/\ ∀y∈x.2,szN y=true
theorem take_set {α:Type} {x:α}: ∀{l:List α} {n i:Nat},n<=i->(l.set i x).take n=l.take n
 | [],n,i,_=>rfl
 |y::r,0,i,_=>rfl
 |y::r,n+1,i+1,h=>by rw[zaR,List.take_succ_cons,List.take_succ_cons,take_set (l:=r) (by omega)]
theorem alP {α:Type} {x y:α}: ∀{l:List α} {i:Nat},y∈l.set i x->y∈l\/y=x
 | [],i,h=>by simp at h
 |z::r,0,h=>by
  rw[zba] at h;rcases zai.1 h with rfl|h
  ·exact .inr rfl
  ·exact .inl (zan _ h)
 |z::r,i+1,h=>by
  rw[zaR] at h;rcases zai.1 h with rfl|h
  ·exact .inl (zbF ..)
  ·exact(alP h).imp (zan _) id
variable {Q:zdP}
theorem ami {t:Pr} (hc:VJ t=([],(n:Int),90)) (hw: ∀l':zdW,l'.length=t.nod.length->l'.take (n+1)=t.nod.take (n+1)->VJ ⟨t.id,t.inp,l',t.out⟩=([],(n:Int),90))
 (l1:t.inp.length<=1000000) (l2:t.nod.length<=1000000) (si: ∀u∈t.inp,szB u=true) (sn: ∀x∈t.nod,szN x=true) (so:szB t.out=true) (hQ:Q (cB.enc true)):ams (bgI t) t.nod.length t n Q:=by
 have e1:(VJ t).2.1=n:=by rw[hc]
 have e2:((n:Int)+1).toNat=n+1:=by omega
 refine⟨((n:Int)+1,t.nod),⟨by rw[e1];exact zat _,rfl,rfl,sn⟩,⟨⟨rfl,rfl,rfl,rfl,rfl,trivial⟩,⟨alY λe _=>rfl,trivial⟩,trivial,trivial⟩, ?_⟩;rintro⟨i,l⟩ ⟨k0,k1,k2,k3⟩;rw[e1] at k0 k2;rw[e2] at k2;dsimp only at k0 k1 k2 k3 ⊢;refine ah (λhb=> ?_) (λhb=> ?_)
 ·have hb:=zdv hb;refine aY (by omega) hb (ac (VP.2 (by omega)) ⟨(i+1,l.set i.toNat noN),⟨by rw[e1];show (n:Int)+1<=i+1;omega,by rw[zcj];exact k1, ?_,λy hy=> ?_⟩,by show (_:Nat)<_;dsimp only;omega,⟨⟨rfl,rfl,rfl,rfl,rfl,trivial⟩,⟨alY λe he=> ?_,trivial⟩,trivial,trivial⟩⟩)
  ·rw[e1,e2];show (l.set i.toNat noN).take (n+1)=_;rw[take_set (by omega)];exact k2
  ·rcases alP hy with h|h
   ·exact k3 y h
   ·rw[h];exact lB
  ·rw[za7];exact al8 (by omega)
 ·unfold amI n9 uK chG;refine ac (alX k1 (λ_ _=>rfl) l1 l2 si k3 so) λ_ _=> ?_;rw[alS k1 (λ_ _=>rfl),hw l k1 k2];show Q (cB.enc (bif (90:Int)==90 then(n:Int)==n else false));rw[show ((n:Int)==n)=true by simp];exact hQ
variable {k:Int}
theorem amR {p r t:Pr} (hr:t.inp=r.inp/\t.out=r.out/\t.nod.length=r.nod.length) (hk:0<=k) (hg:rdG r r.nod.length g r.out=t) (hn:ndG r g=true) (hf:alM t=t) (hb:oB t=true) (hu:iB t.inp (t.nod.take k.toNat) []=(us,true)) (hkl:k.toNat<=t.nod.length)
 (l1:t.inp.length<=1000000) (l2:t.nod.length<=1000000) (si: ∀u∈t.inp,szB u=true) (sn: ∀x∈t.nod,szN x=true) (so:szB t.out=true) (h1:1<=t.inp.length) (h2:1<=t.nod.length) (hQ:Q (cB.enc true)):bg4 (bgI t) t.nod.length r k g Q:=by
 unfold bg4 n9 uK chG;rw[hg,hf];refine ac hn λ_ _=>ah (λh=>hQ) (λh=> ?_);have hw:(VJ t).2.2≠0:=by simpa using h
 obtain⟨n,c1,c2,c3,c4⟩:=amt hb hw;have c4:=c4 k.toNat us hkl hu;rw[c1];dsimp only;refine ah (λh=> ?_) (λh=> ?_)
 ·rw[zdt (show ¬((n:Int)<k) by omega),zdt (show ¬((n:Int)>(r.nod.length:Int)) by omega)] at h;cases h
 ·refine ac ?_ λ_ _=> ?_
  rotate_left
  ·have e:inR .i64 ((n:Int)+1)=true:=VP.2 (by omega);rw[e];exact ami c1 c3 l1 l2 si sn so hQ
  rw[hn,zdq h1,zdq h2];rfl
structure BgOK (p:Pr):Prop where
 v:VM p=true
 l1:1<=p.inp.length
 l2:p.inp.length<=3
 l3:1<=p.nod.length
 l4:p.nod.length<=14
 si: ∀u∈p.inp,szB u=true
 sn: ∀x∈p.nod,szN x=true
 so:szB p.out=true
 su: ∀u∈(VJ p).1,szB u=true
 fu: ∀u∈p.inp,alf u=u
 fn: ∀x∈p.nod,alw x=x
theorem amE:BgOK (Bd a k xs ex):=by
 have ml:=Sb (a:=a) (count:=k) (xs:=xs) (ex:=ex);have ms:=Tn (a:=a) (count:=k) (xs:=xs) (ex:=ex);have mo:=Sj (a:=a) (count:=k) (xs:=xs) (ex:=ex);have mv:=Sk (a:=a) (count:=k) (xs:=xs) (ex:=ex);have e:(VJ (Bd a k xs ex)).1=(Rb a k xs ex).2:=by
  have h:=(alq mv).2.2.2;have h2:iB (Bd a k xs ex).inp (Bd a k xs ex).nod []=((Rb a k xs ex).2,true):=mo.un;rw[h2] at h;simp only[zag,and_true] at h;exact h.symm
 unfold aci at ms;simp only[za2,zaf] at ms;exact⟨mv,ml.1,ml.2.1,ml.2.2.1,ml.2.2.2,ms.1.1,ms.1.2,ms.2,by rw[e];exact mo.szu,amg,amh⟩
section
variable {p:Pr} {h:I4} {Q:zdP}
variable {n:Int}
theorem alI (h: -9223372036854775808<=n/\n<=9223372036854775807):inR .i64 n=true:=VP.2 h
variable {k:Int}
theorem amS (H:BgOK p) (k0:0<=k) (k1:k<p.nod.length) (h1:cl h.1=true) (h2:cl h.2.1=true) (h3:cl h.2.2.1=true) (h4:cl h.2.2.2=true) (hQ:Q (cB.enc true)):
 bg3 (bgI (bgQ p k h)) p.nod.length ⟨p.id,p.inp,p.nod,alf p.out⟩ k h Q:=by
 have b1:=gR h.2.1 (n:=11) (by decide);have b2:=gR h.2.2.1 (n:=16) (by decide);have b3:=gR h.2.2.2 (n:=16) (by decide);obtain⟨vb,v2,v1,vu⟩:=alq H.v;have l1:=H.l1;have l2:=H.l2;have l3:=H.l3;have l4:=H.l4;unfold bg3;rw[alI (n:=co h.2.1 11 - 5) (by omega),alI (n:=co h.2.2.1 16 - 1) (by omega),alI (n:=co h.2.2.2 16 - 1) (by omega)];refine QU h1 (by decide) (QU h2 (by decide) (QU h3 (by decide) (QU h4 (by decide) (aY k0 k1 ?_))));have hlen:(bgQ p k h).nod.length=p.nod.length:=zcj;have hsn: ∀x∈(bgQ p k h).nod,szN x=true:=λx hx=>by
  rcases alP hx with hx|hx
  ·exact H.sn x hx
  ·rw[hx];exact lB
 have hg: ∀e,e<p.nod.length->putG (eN.get p.nod) (0+k.toNat) (alV h) e=eN.get (bgQ p k h).nod e:=λe he=>by rw[za7];exact al8 he
 have hbt:oB (bgQ p k h)=true:=by
  have:=Wb.1 vb;exact Wb.2 ⟨this.1,this.2.1,by rw[hlen];exact this.2.2.1,by rw[hlen];exact this.2.2.2⟩
 have htk:(bgQ p k h).nod.take k.toNat=p.nod.take k.toNat:=take_set (za0 _);have hu:iB (bgQ p k h).inp ((bgQ p k h).nod.take k.toNat) []=((VJ p).1.take (0+k.toNat),true):=by
  rw[htk];exact aaM k.toNat vu
 have hft:alM (bgQ p k h)=bgQ p k h:=by
  rw[amb (p:=bgQ p k h) (by show p.inp.length<=8;omega) (by rw[hlen];omega) H.fu (λx hx=>by
   rcases alP hx with hx|hx
   ·exact H.fn x hx
   ·rw[hx];exact alk)]
  show (⟨p.id,p.inp,p.nod.set k.toNat (alV h),alf (alf p.out)⟩:Pr)=_;rw[amu];rfl
 have so:szB (bgQ p k h).out=true:=amD _;rw[<-hlen];exact amR (p:=p) (t:=bgQ p k h) ⟨rfl,rfl,hlen⟩ k0 (alS hlen hg) (alX (l:=(bgQ p k h).nod) hlen hg (by show p.inp.length<=1000000;omega) (by show p.nod.length<=1000000;omega) H.si hsn so) hft hbt hu (by rw[hlen];omega)
  (by show p.inp.length<=1000000;omega) (by rw[hlen];omega) H.si hsn so l1 (by rw[hlen];exact l3) hQ
theorem amT (H:BgOK p) (n0:1<=n) (n1:n<=p.nod.length) (hk:cl k=true) (h1:cl h.1=true) (h2:cl h.2.1=true) (h3:cl h.2.2.1=true) (h4:cl h.2.2.2=true) (hQ:Q (cB.enc true)):
 bg2 (bgI (bgQ p (co k p.nod.length) h)) p.nod.length p n k h (VJ p).1 Q:=by
 obtain⟨vb,v2,v1,vu⟩:=alq H.v;have vl:=alH vu;rw[za9,za7] at vl;have l1:=H.l1;have l2:=H.l2;have l3:=H.l3;have l4:=H.l4;have hlt:(p.nod.take n.toNat).length=n.toNat:=by rw[zaE];omega
 have hge: ∀e,e<n.toNat->eN.get p.nod e=eN.get (p.nod.take n.toNat) e:=λe he=>by
  show svN (mb noN p.nod e)=svN (mb noN (p.nod.take n.toNat) e);rw[Xl he]
 have e0:rdG p p.nod.length (eN.get p.nod) p.out=p:=alS rfl (λ_ _=>rfl);have nd:ndG p (eN.get p.nod)=true:=alX rfl (λ_ _=>rfl) (by omega) (by omega) H.si H.sn H.so;unfold bg2 n9 uK;rw[alI (n:=n - 1) (by omega),show 0+(n - 1).toNat=n.toNat - 1 by omega];refine ac (by rw[zdq (show 0<=n by omega),zdq n1,zdq (show 0+p.nod.length<=p.nod.length by omega)];rfl) (aY (by omega) (by rw[vl];omega) (ac ?_ λ_ _=> ?_))
 ·unfold amr bW;rw[zae (za0 _),zae (show n.toNat<=p.nod.length by omega),zae (show p.inp.length<=1000000 by omega),zae (show n.toNat<=1000000 by omega),El.good_get H.si,amJ hlt hge (λx hx=>H.sn x (zbd hx)),show szB (mb noU (VJ p).1 (n.toNat - 1))=true from eH H.su _];rfl
 ·obtain⟨b1,b2⟩:=amf H.v (n:=n.toNat) (by omega) (by omega);rw[alS hlt hge,b1];refine ah (λhb=> ?_) (λ_=> ?_)
  ·rw[b2,show ((n.toNat:Nat):Int)=n by omega] at hb;simp at hb
  ·have bk:=gR k (n:=p.nod.length) (by omega);refine QU hk (by omega) (ac ?_ λ_ _=> ?_)
   ·rw[nd,e0,zdq l1,zdq l3];rfl
   ·rw[e0,amb (p:=p) (by omega) (by omega) H.fu H.fn];exact amS H bk.1 bk.2 h1 h2 h3 h4 hQ
theorem amU {count which:Int} (H:BgOK p) (hc:cl count=true) (hw:cl which=true) (h1:cl h.1=true) (h2:cl h.2.1=true) (h3:cl h.2.2.1=true) (h4:cl h.2.2.2=true) (hQ:Q (cB.enc true)):
 bg1 (bgI (bgQ p (co which p.nod.length) h)) p.nod.length p count which h Q:=by
 obtain⟨vb,v2,v1,vu⟩:=alq H.v;have vl:=alH vu;rw[za9,za7] at vl;have l2:=H.l2;have l3:=H.l3;have l4:=H.l4;have e0:rdG p p.nod.length (eN.get p.nod) p.out=p:=alS rfl (λ_ _=>rfl);have ec:chG p (eN.get p.nod)=VJ p:=by unfold chG;rw[e0]
 have nd:ndG p (eN.get p.nod)=true:=alX rfl (λ_ _=>rfl) (by omega) (by omega) H.si H.sn H.so;have bp:=gR count (n:=p.nod.length) (by omega);unfold bg1 n9 uK;rw[ec,alI (n:=1+co count p.nod.length) (by omega)];refine ac nd λ_ _=>ah (λhb=> ?_) (λ_=>QU hc (by omega) ?_)
 ·rw[v2,v1,vl] at hb;simp at hb
 ·exact amT H (by omega) (by omega) hw h1 h2 h3 h4 hQ
end
theorem amj {a b c k:Int} {xs:List I4} {count which:Int} {h:I4} {Q:zdP} (ha:cl a=true) (hb:cl b=true) (hc:cl c=true) (hk:cl k=true) (hx: ∀y∈xs,uz4 y=true) (hn:xs.length<=9223372036854775807) (h1:cl count=true) (h2:cl which=true)
 (h3:cl h.1=true) (h4:cl h.2.1=true) (h5:cl h.2.2.1=true) (h6:cl h.2.2.2=true) (hQ:Q (cB.enc true)):
 bgT (bgI (bgQ (Bd (a,b,c) k xs false) (co which (Bd (a,b,c) k xs false).nod.length) h)) (Bd (a,b,c) k xs false).nod.length a b c k xs count which h Q:=by
 have hl:e4.list xs.length (e4.get xs)=xs:=El.list_get;unfold bgT n9 uK;rw[hl];refine λ_ _=>ac ?_ λ_ _=>amU amE h1 h2 h3 h4 h5 h6 hQ;rw[zae (za0 _),zdq hn,El.good_get (E:=e4) hx,ha,hb,hc,hk];rfl
end Go.Proofs.YtdbnankjpnpojaaGreatDoor
namespace Yk
open Go Go.RowKit Go.ChangeShapes Go.WideShapes
inductive Leaf where
 |int (k:IntKind)
 |bool
 |str
def Leaf.ok:Leaf->Value->Prop
 | .int k,v=> ∃z,v= .int k z/\k.min<=z/\z<=k.max
 | .bool,v=> ∃b,v= .bool b
 | .str,v=> ∃s:ByteArray,v= .string s/\s.size<=maxLen
def okL:List Leaf->List Value->Prop
 | [], []=>True
 |l::ls,v::vs=>l.ok v/\okL ls vs
 |_,_=>False
theorem Q9: ∀{a b:List Leaf} {u v:List Value},okL a u->okL b v->okL (a++b) (u++v)
 | [],_, [],_,_,h=>h
 |_::_,_,_::_,_,h,k=>⟨h.1,Q9 h.2 k⟩
 | [],_,_::_,_,h,_=>h.elim
 |_::_,_, [],_,h,_=>h.elim
def Ri (P:Program) (g:TypeId->Option (List Leaf)):List Field->Nat->Option (List Leaf)
 | [],_=>some []
 |f::fs,off=>match g f.type with
  |some l=>if P.cellsOf f.type=l.length/\f.offset=off then(match Ri P g fs (off+l.length) with
   |some r=>some (l++r)
   |none=>none) else none
  |none=>none
def QV (P:Program):Nat->TypeId->Option (List Leaf)
 |0,_=>none
 |d+1,t=>match P.underlying t with
  |some .bool=>some [.bool]
  |some (.int k)=>some [.int k]
  |some .string=>some [.str]
  |some (.array n e)=>match QV P d e with
   |some l=>if P.cellsOf e=l.length/\P.cellsOf t=n*l.length then some (List.replicate n l).flatten else none
   |none=>none
  |some (.struct fs)=>match Ri P (QV P d) fs.toList 0 with
   |some l=>if P.cellsOf t=l.length then some l else none
   |none=>none
  |_=>none
section
variable {H:Type} {enc:TypeId×Value->H} {P:Program} {w:World} {base:Nat} {spare:zdO} {held:Bool}
theorem Sx {l:List Leaf}: ∀(n:Nat) (cs:List Value),cs.length=n*l.length->(∀i,i<n->okL l ((cs.drop (i*l.length)).take l.length))->okL (List.replicate n l).flatten cs
 |0,cs,hl,_=>by
  have:cs= []:=zau (by omega);subst this;trivial
 |n+1,cs,hl,h=>by
  rw[zce,List.flatten_cons,<-zdn l.length cs];refine Q9 (by simpa using h 0 (by omega)) (Sx n _ (by rw[zbQ,hl,zaG];omega) λi hi=> ?_);have:=h (i+1) (by omega);rw[List.drop_drop];rwa[zaG,Nat.one_mul,zb3] at this
theorem Rj {g:TypeId->Option (List Leaf)} (hg: ∀{fuel:Nat} {t:TypeId} {cs:List Value} {x:DataW H×List MemPlace} {l:List Leaf},g t=some l->DataW.trod enc P w base spare held fuel t cs=some x->okL l cs):
 ∀{fs:List Field} {off:Nat} {cs:List Value} {l:List Leaf},Ri P g fs off=some l->off+l.length<=cs.length->
 (∀f∈fs,∃fuel x,DataW.trod enc P w base spare held fuel f.type ((cs.drop f.offset).take (P.cellsOf f.type))=some x)->okL l ((cs.drop off).take l.length)
 | [],off,cs,l,h,_,_=>by simp[Ri] at h;subst h;simp[okL]
 |f::fs,off,cs,l,h,hl,hf=>by
  rw[Ri] at h;split at h
  ·rename_i a ha;split at h
   ·rename_i hc;split at h
    ·rename_i r hr;cases h;simp only[za3] at hl ⊢;obtain⟨fuel,x,h1⟩:=hf f (by simp);rw[hc.1,hc.2] at h1;have h2:=Rj hg hr (cs:=cs) (by omega) (λg hg=>hf g (zan _ hg));rw[List.take_add,List.drop_drop];exact Q9 (hg ha h1) h2
    ·cases h
   ·cases h
  ·cases h
theorem FB: ∀(d:Nat) {fuel:Nat} {t:TypeId} {cs:List Value} {x:DataW H×List MemPlace} {l:List Leaf},QV P d t=some l->DataW.trod enc P w base spare held fuel t cs=some x->okL l cs
 |0,_,_,_,_,_,h,_=>by simp[QV] at h
 |d+1,fuel,t,cs,x,l,h,hx=>by
  rw[QV] at h;split at h
  ·rename_i ht;obtain⟨b,rfl,_⟩:=DataW.trod_bool ht hx;cases h;exact⟨⟨b,rfl⟩,trivial⟩
  ·rename_i k ht;obtain⟨z,rfl,_,hw⟩:=DataW.trod_int ht hx;cases h;simp only[Lit.wf,za2,zdu] at hw;exact⟨⟨z,rfl,hw⟩,trivial⟩
  ·rename_i ht;obtain⟨s,rfl,_,hs⟩:=DataW.trod_string ht hx;cases h;exact⟨⟨s,rfl,hs⟩,trivial⟩
  ·rename_i n e ht;split at h
   ·rename_i le hle;split at h
    ·rename_i hc;cases h;obtain⟨xs,m,_,_,hl,hn,hel⟩:=DataW.trod_array ht hx;rw[hc.2] at hl;rw[hc.1] at hel;refine Sx n cs hl λi hi=> ?_;have:=hel i hi;rw[zaa (by omega)] at this;exact FB d hle this
    ·cases h
   ·cases h
  ·rename_i fs ht;split at h
   ·rename_i lf hlf;split at h
    ·rename_i hc;cases h;obtain⟨xs,m,_,_,hl,hn,hel⟩:=DataW.trod_struct ht hx;rw[hc] at hl
     have:=Rj (g:=QV P d) (λh1 h2=>FB d h1 h2) (fs:=fs.toList) (off:=0) (cs:=cs) hlf (by omega) (λf hf=>by
      obtain⟨i,hi,e⟩:=zbR hf;have h1:=hel i f (by rw[<-Array.getElem?_toList];rw[zaa hi,e]);rw[zaa (by simp at hi;omega)] at h1
      exact⟨_,_,h1⟩)
     rwa[zaZ,zaI (by omega)] at this
    ·cases h
   ·cases h
  ·cases h
end
variable {vs:List Value}
theorem Rk {l:Leaf} {ls:List Leaf} (h:okL (l::ls) vs): ∃v r,vs=v::r/\l.ok v/\okL ls r:=by
 match vs,h with
 |v::r,h=>exact⟨v,r,rfl,h.1,h.2⟩
theorem TB (h:okL [] vs):vs= []:=by
 match vs,h with
 | [],_=>rfl
end Yk
namespace Yk
open Go Go.RowKit Go.ChangeShapes Go.WideShapes Go.Sy
section
variable {H:Type} {enc:TypeId×Value->H} {P:Program} {w:World} {base:Nat}
theorem u64 {z:Int} (h:IntKind.i64.min<=z/\z<=IntKind.i64.max):cl z=true:=by
 exact Wl.2 h
theorem open_row {fuel:Nat} {e:TypeId} {a:Addr} {x:DataW H×List MemPlace} {spare:zdO} {held:Bool} (he:QV P 9 e=some [.int .i64, .int .i64, .int .i64, .int .i64]) (hs:a.spot=none) {i:Nat}
 (h:(w.cells? base (a.add (i*4)) 4).bind (DataW.trod enc P w base spare held fuel e)=some x): ∃y:I4,uz4 y=true/\ ∀o z,(RQ y)[o]? =some z->w.cell? ⟨a.block,a.off+i*4+o,none⟩=some (z.conc oj):=by
 rw[Option.bind_eq_some_iff] at h;obtain⟨cs,hc,hx⟩:=h;obtain⟨_,hl,hget⟩:=World.cells?_some hc;have hk:=FB 9 he hx;have ad: ∀o,(a.add (i*4)).add o=⟨a.block,a.off+i*4+o,none⟩:=λo=>by
  obtain⟨b,f,s⟩:=a;obtain rfl:s=none:=hs;unfold Addr.add;split<;>split<;>simp_all<;>omega
 obtain⟨_,_,rfl,⟨y0,rfl,b0⟩,h1⟩:=Rk hk;obtain⟨_,_,rfl,⟨y1,rfl,b1⟩,h2⟩:=Rk h1;obtain⟨_,_,rfl,⟨y2,rfl,b2⟩,h3⟩:=Rk h2;obtain⟨_,_,rfl,⟨y3,rfl,b3⟩,h4⟩:=Rk h3;obtain rfl:=TB h4;refine⟨(y0,y1,y2,y3),by unfold uz4;rw[u64 b0,u64 b1,u64 b2,u64 b3];rfl,λo z hz=> ?_⟩;have ho:o<4:=by
  rcases zah o 4 with h|h
  ·exact h
  ·rw[zad (by show 4<=o;exact h)] at hz;cases hz
 rw[<-ad,hget o ho];rcases(show o=0\/o=1\/o=2\/o=3 by omega) with rfl|rfl|rfl|rfl<;>(simp[RQ] at hz;subst hz;rfl)
end
theorem TC {w:World} {L:Go.Sy.Loc} {B:Go.Sy.Blk} (h:BlkOK (λ_=>L) 0 B w) (hk:B.kd= .old) (hc: ∀e,e<B.n->SV.idss (B.get e)= []):BC w (λi=> [B][i]?) (λ_=>L) w:=by
 have one: ∀{id:Nat} {C:Go.Sy.Blk}, [B][id]? =some C->id=0/\C=B:=λ{id C} h=>by
  cases id with
  |zero=>simp at h;exact⟨rfl,h.symm⟩
  |succ n=>simp at h
 refine⟨Pres.refl _,λid C hC _=> ?_,λid C hC ho=> ?_,λid C hC _ hn=> ?_,λid id' C C' hC hC' _ _ _ _ _=> ?_,λid C e o s hC _ he hs=> ?_,⟨λid C hC hm=> ?_,λid id' C C' hC hC' hm=> ?_,λid C e s hC hm=> ?_,λid C hC hm=> ?_⟩⟩
 ·obtain⟨rfl,rfl⟩:=one hC;exact h
 ·obtain⟨rfl,rfl⟩:=one hC;rw[hk] at ho;cases ho
 ·obtain⟨rfl,rfl⟩:=one hC;refine⟨?_,rfl⟩;intro hm;have:=h.lt hn;rcases hm with hm|hm
  ·exact absurd this (Nat.not_lt.2 hm)
  ·cases hm
 ·rw[(one hC).1,(one hC').1]
 ·obtain⟨rfl,rfl⟩:=one hC;intro i hi;have:i∈SV.idss (C.get e):=SV.mem_idss.2 ⟨s,zal hs,hi⟩;rw[hc e he] at this;cases this
 all_goals obtain⟨rfl,rfl⟩:=one hC;rw[hk] at hm;cases hm
end Yk
namespace Go.Proofs.YtdbnankjpnpojaaGreatDoor
open Go Go.RowKit Go.Sy Yk Go.ChangeShapes Go.WideShapes
structure Ca9 where
 a:Int
 b:Int
 c:Int
 k:Int
 x:List I4
def Ca9.ok (c:Ca9):Bool:=cl c.a&&cl c.b&&cl c.c&&cl c.k&&c.x.all uz4
section
variable {H:Type} {enc:TypeId×Value->H} {P:Program} {w:World} {base:Nat}
def amK (P:Program) (t e:TypeId):Bool:=match P.cellTypes P.depth t with
 |some l=>l.length==5&&l[4]? ==some e
 |none=>false
theorem amk {r:Reach} {b0:Nat} {v:Value} {dd:DataW H} {ps:List MemPlace} {held:Bool} {t e:TypeId} {fs:Array Go.Field} {f0 f1 f2:Go.Field} (hu:P.underlying t=some (.struct fs)) (hfs:fs.toList= [f0,f1,f2]) (hc:P.cellsOf t=5)
 (h0:f0.offset=0/\P.cellsOf f0.type=3/\QV P 9 f0.type=some [.int .i64, .int .i64, .int .i64]) (h1:f1.offset=3/\P.cellsOf f1.type=1/\QV P 9 f1.type=some [.int .i64]) (h2:f2.offset=4/\P.cellsOf f2.type=1/\P.underlying f2.type=some (.slice e))
 (he:P.cellsOf e=4/\QV P 9 e=some [.int .i64, .int .i64, .int .i64, .int .i64]) (ht:amK P t f2.type=true)
 (hval:Value.okWide P w r b0 t v) (hd:DataW.Trod enc P w base (λ_=>true) held t v dd ps): ∃(c:Ca9) (L:Go.Sy.Loc),v=(al2 c.a c.b c.c c.k c.x.length).conc (λ_=>L)/\c.ok=true/\BlkOK (λ_=>L) 0 (e4.old c.x) w/\c.x.length<=maxLen:=by
 simp only[Value.okWide,hu] at hval;obtain⟨cs,rfl,hsz,ts,hts,_,hrow⟩:=hval;have ht4:ts.length=5/\ts[4]? =some f2.type:=by
  unfold amK at ht;rw[hts] at ht;simpa using ht
 obtain⟨fuel,hf⟩:=hd;obtain⟨xs,m,_,_,hl,hn,hel⟩:=DataW.trod_struct hu hf;have hL:cs.toList.length=5:=by rw[Array.length_toList,hsz,hc]
 have fld: ∀(i:Nat) (f:Go.Field),fs.toList[i]? =some f-> ∃x,DataW.trod enc P w base (λ_=>true) held m f.type ((cs.toList.drop f.offset).take (P.cellsOf f.type))=some x:=λi f hi=>by
  have h1:=hel i f (by rw[<-Array.getElem?_toList];exact hi);have hlt:i<fs.toList.length:=(zaV.1 hi).1;rw[zaa (by simp at hlt;omega)] at h1;exact⟨_,h1⟩
 rw[hfs] at fld;obtain⟨cs⟩:=cs;dsimp only at hL fld hrow ⊢
 match cs,hL with
 | [c0,c1,c2,c3,c4],_=>
 obtain⟨x0,k0⟩:=fld 0 f0 rfl;obtain⟨x1,k1⟩:=fld 1 f1 rfl;obtain⟨x2,k2⟩:=fld 2 f2 rfl;rw[h0.1,h0.2.1] at k0;rw[h1.1,h1.2.1] at k1;rw[h2.1,h2.2.1] at k2;obtain⟨⟨a0,rfl,b0⟩,⟨a1,rfl,b1⟩,⟨a2,rfl,b2⟩,_⟩:=FB 9 h0.2.2 k0;obtain⟨⟨a3,rfl,b3⟩,_⟩:=FB 9 h1.2.2 k1;have hcell:=hrow 4 c4 rfl;obtain⟨u,hu',hok⟩:=hcell;rw[ht4.1,ht4.2] at hu';simp only[za1] at hu';subst hu';rcases DataW.trod_slice h2.2.2 k2 with ⟨hs,_⟩|⟨a,len,cap,elems,rest,n,_,hs,_,_,hle,hcap,hlen,hget,hsp,_⟩
 ·simp only[List.drop_succ_cons,zaZ,List.take_succ_cons,zbv,zca,and_true] at hs;subst hs;refine⟨⟨a0,a1,a2,a3, []⟩,⟨0,0,4,0,true⟩,rfl, ?_, ?_,zaA _⟩
  ·unfold Ca9.ok;rw[u64 b0,u64 b1,u64 b2,u64 b3];rfl
  ·exact⟨rfl,λh=>(by cases h),za0 _,λe he=>absurd he (zbn e),λj hj=>(by simp at hj),λh=>(by cases h),λe he=>absurd he (zbn e),λ_=>rfl,λh=>(by cases h)⟩
 ·simp only[List.drop_succ_cons,zaZ,List.take_succ_cons,zbv,zca,and_true] at hs;subst hs;have hb:a.spot=none/\a.block<w.heap.size:=by
   unfold Cell.okWide at hok;simp only[h2.2.2] at hok;unfold Cell.ok at hok;simp only[h2.2.2] at hok;obtain⟨_,_,_,hsp,row,cells,hsh,_⟩:=hok;refine⟨hsp, ?_⟩;unfold World.shape? at hsh;rcases zah a.block w.heap.size with h|h
   ·exact h
   ·rw[zcD h] at hsh;cases hsh
  obtain⟨hrl,hrest⟩:=hsp rfl;rw[he.1] at hget hrest;have each: ∀i,∃y:I4,i<cap->uz4 y=true/\ ∀o z,(RQ y)[o]? =some z->w.cell? ⟨a.block,a.off+i*4+o,none⟩=some (z.conc oj):=λi=>by
   by_cases hi:i<cap
   ·by_cases hi':i<len
    ·have:=hget i hi';rw[zaa (by omega)] at this;obtain⟨y,h⟩:=Yk.open_row he.2 hb.1 this;exact⟨y,λ_=>h⟩
    ·have:=hrest (i - len) (by omega);rw[show len+(i - len)=i by omega,zaa (by omega)] at this;obtain⟨y,h⟩:=Yk.open_row he.2 hb.1 this;exact⟨y,λ_=>h⟩
   ·exact⟨(0,0,0,0),λh=>absurd h hi⟩
  obtain⟨g,hg⟩:=Classical.axiomOfChoice each;have hlx:(Go.Sy.tab g len).length=len:=fJ _ _;refine⟨⟨a0,a1,a2,a3,Go.Sy.tab g len⟩,⟨a.block,a.off,4,cap,false⟩, ?_, ?_, ?_, ?_⟩
  ·have:SV.conc (λ_=>(⟨a.block,a.off,4,cap,false⟩:Go.Sy.Loc)) (.slc 0 0 (Go.Sy.tab g len).length)= .slice (some a) len cap:=by
    rw[jq rfl (.inr rfl),hlx];obtain⟨b,f,s⟩:=a;obtain rfl:s=none:=hb.1;simp[addr]
   unfold al2;simp only[SV.conc,SV.concs] at this ⊢;rw[this]
  ·unfold Ca9.ok
   rw[u64 b0,u64 b1,u64 b2,u64 b3,show (Go.Sy.tab g len).all uz4=true from zaf.2 λy hy=>by
    obtain⟨i,hi⟩:=zby hy;have hlt:i<len:=by have:=(zaV.1 hi).1;omega
    rw[qX _ hlt] at hi;simp only[za1] at hi;subst hi
    exact(hg i (by omega)).1];rfl
  ·refine⟨rfl,λ_=>hb.2,by show (Go.Sy.tab g len).length<=cap;omega,λe he=>rfl,λj hj=> ?_,λh=>(by cases h),λe he o s ho=> ?_,λh=>(by cases h),λ_=>rfl⟩
   ·have hj:j<cap*4:=hj;have:=(hg (j / 4) (by omega)).2 (j%4);show (w.cell? ⟨a.block,a.off+j,none⟩).isSome=true;rw[show a.off+j=a.off+j / 4*4+j%4 by omega];have hlt:j%4<(RQ (g (j / 4))).length:=by show j%4<4;omega
    rw[this _ (zaa hlt)];rfl
   ·have he':e<len:=by rw[<-hlx];exact he
    have e1:e4.get (Go.Sy.tab g len) e=RQ (g e):=by
     unfold El.get El.nth;rw[bR (qX g he')];rfl
    have ho':(RQ (g e))[o]? =some s:=by rw[<-e1];exact ho
    have:=(hg e (by omega)).2 o s ho';show w.cell? ⟨a.block,a.off+e*4+o,none⟩=_;rw[this];have:s.ids= []:=by
     have hm:s∈RQ (g e):=zal ho';simp only[RQ,zai,zbx,or_false] at hm;rcases hm with rfl|rfl|rfl|rfl<;>rfl
    rw[SV.conc_congr s (β:=oj) (β':=λ_=>(⟨a.block,a.off,4,cap,false⟩:Go.Sy.Loc)) (λi h=>by rw[this] at h;cases h)]
  ·show (Go.Sy.tab g len).length<=maxLen;omega
end
variable {W:World} {L:Go.Sy.Loc}
theorem amZ {p:Addr} {g:List (FuncId×Ctr)} (hg:GEk g) {gm:zdT} (hm:MEk p gm) (hW:GlobE p W) {ann:zdR} {n:Nat} {F:FuncId} {c:Ca9} {rest:zdJ} (hB:BlkOK (λ_=>L) 0 (e4.old c.x) W) (hr:SV.idss rest= []) (h:XC p g gm ann n F (al2 c.a c.b c.c c.k c.x.length::rest) [e4.old c.x] (Go.Sy.okK λr _ _ _=>r=cB.enc true)):
 Calls Tryz.prog F (SV.concs (λ_=>L) (al2 c.a c.b c.c c.k c.x.length::rest)).toArray W λe w'=>e= .returned (.bool true)/\Below W.heap.size W w':=by
 have hbc:BC W (λi=> [e4.old c.x][i]?) (λ_=>L) W:=TC hB rfl (λe he=>e4.ids _);unfold XC at h
 obtain⟨_,hc⟩:=sU (ac9 hg hm (GlobEB.of hW)) ann n F (al2 c.a c.b c.c c.k c.x.length::rest) (λi=> [e4.old c.x][i]?) 1 [] _ (λ_=>L) W h hbc (λi hi=>zad hi) (λs hs i hi=>by
  rcases zai.1 hs with rfl|hs
  ·have:i=0:=by simpa [al2,SV.ids,SV.idss] using hi
   subst this;intro e;cases e
  ·have:i∈SV.idss rest:=SV.mem_idss.2 ⟨s,hs,hi⟩
   rw[hr] at this;cases this)
 refine Calls.mono hc ?_;rintro e w' ⟨β',s,bl',nx',wl',he,hk,hbc,_⟩;cases s with
 |pan v=>exact hk.elim
 |ok s=>
 obtain rfl:e=_:=he;obtain rfl:s=_:=hk;exact⟨rfl,hbc.below.below⟩
theorem alt (c:Ca9) (count which h0 h1 h2 h3:Int) (h:c.ok=true) (hB:BlkOK (λ_=>L) 0 (e4.old c.x) W) (hl:c.x.length<=maxLen) (hc:B64 count) (hw:B64 which) (b0:B64 h0) (b1:B64 h1) (b2:B64 h2) (b3:B64 h3) (_:World) (hg: ∃p,GlobE p W):
 Calls Tryz.prog 5 #[(al2 c.a c.b c.c c.k c.x.length).conc (λ_=>L), .int .i64 count, .int .i64 which, .agg #[.int .i64 h0, .int .i64 h1, .int .i64 h2, .int .i64 h3]] W λe w'=>e= .returned (.bool true)/\Below W.heap.size W w':=by
 obtain⟨p,hg⟩:=hg;unfold Ca9.ok at h;simp only[za2,zaf] at h;obtain⟨⟨⟨⟨a0,a1⟩,a2⟩,a3⟩,ax⟩:=h
 exact amZ (GEk.of BN) amB hg (ann:=amq (bgI (bgQ (Bd (c.a,c.b,c.c) c.k c.x false) (co which (Bd (c.a,c.b,c.c) c.k c.x false).nod.length) (h0,h1,h2,h3))) (Bd (c.a,c.b,c.c) c.k c.x false).nod.length) (n:=8) (c:=c) (rest:= [cI.enc count,cI.enc which,sv4 (h0,h1,h2,h3)]) hB rfl (by
  have e:=amP p (bgI (bgQ (Bd (c.a,c.b,c.c) c.k c.x false) (co which (Bd (c.a,c.b,c.c) c.k c.x false).nod.length) (h0,h1,h2,h3))) (Bd (c.a,c.b,c.c) c.k c.x false).nod.length c.a c.b c.c c.k c.x count which (h0,h1,h2,h3) (λr=>r=cB.enc true);unfold amH at e;rw[e]
  exact amj a0 a1 a2 a3 ax (zac hl (by decide)) (V4.2 hc) (V4.2 hw) (V4.2 b0) (V4.2 b1) (V4.2 b2) (V4.2 b3) rfl)
end Go.Proofs.YtdbnankjpnpojaaGreatDoor
