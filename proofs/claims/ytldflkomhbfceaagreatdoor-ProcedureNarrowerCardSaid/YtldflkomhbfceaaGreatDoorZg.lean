import Derived.Test.YtldflkomhbfceaaGreatDoorZf
import Derived.Test.YtldflkomhbfceaaGreatDoorRows
import Derived.HandedShaped
import Derived.ProofKit
import Derived.OpenShut
import Derived.LaidMore
import Derived.Lay
import Derived.Lib.LaidTab
import Derived.Shelf.Vars
import Derived.Stop.LaidErr
import Derived.Stop.Joined
set_option linter.unusedVariables false
set_option linter.unusedSimpArgs false
noncomputable section
namespace Go.Proofs.YtldflkomhbfceaaGreatDoor
open Go.Proofs.Tryz
open Go Go.RowKit Go.Sy Yk
def u0:Un:=aT 0
def u2:Un:=aT 2
def uo:Un:=(fd u0 u2).1
def nI9 (n:Int):Nd:=⟨2,VI,noU,n,0,0⟩
def nD9:Nd:=⟨6,VI,noU,0,0,1⟩
def spP:Pr:=⟨1, [u0,u2], [nI9 0,nI9 1,nD9],uo⟩
def bdK (K:Prop):Prop:=ahr prog bdS/\K
def uK (K:Prop):Prop:=Unit->True->K
def spT:zdK:=⟨#[112,114,111,99,101,100,117,114,101,32,49,10,103,105,118,101,110,32,100,105,102,102,101,114,101,110,99,101,32,107,105,110,100,32,48,32,102,97,99,116,111,114,32,49,32,111,102,102,115,101,116,32,48,32,109,94,49,10,103,105,118,101,110,32,100,105,102,102,101,114,101,110,99,101,32,107,105,110,100,32,48,32,102,97,99,116,111,114,32,49,32,111,102,102,115,101,116,32,48,32,115,94,49,10,105,110,112,117,116,32,48,10,105,110,112,117,116,32,49,10,100,105,118,32,48,32,49,10,111,117,116,112,117,116,32,100,105,102,102,101,114,101,110,99,101,32,107,105,110,100,32,48,32,102,97,99,116,111,114,32,49,32,111,102,102,115,101,116,32,48,32,109,94,49,32,115,94,45,49,10]⟩
def afq (Q:zdU):Prop:=af (jn spP) (uK (bdK (bdK (uK (bdK (uK (bdK (bdK (bdK (bdK (uK (bdK (bdK (Q (.tup [.val (.string spT), .val (.int .i64 0)])))))))))))))))
theorem af0 (a:Addr) (I:ByteArray->WdX->Prop) (Q:zdU):Xk a (alF I) 9 16 [kB spP] [eU.old spP.inp,eN.old spP.nod] (Go.Sy.okK λr _ _ _=>Q r)=afq Q:=by kernel_rfl
def YM (I:Int->Prop) (N:Int):zdY:=λf k=>bif (Nat.beq f 68||Nat.beq f 69)&&Nat.beq k 4 then some (λA=>{X:=Int,inv:=I,tm:=λi=> [(13, .val (.int .i64 i))],mu:=λi=>(N - i).toNat,keep:= [0,1,12]}) else none
def aau (s t:SV) (n:Nat) (p z:Int):Prop:=(TV.v (cI.enc p)=TV.v (cI.enc z)/\tvE s/\tvE t/\tvE (cI.enc (n:Int))/\True)/\(True/\(True/\True))
def ixB (n:Nat) (z:Int) (K:Prop):Prop:=af (decide (0<=z)&&decide (z<(n:Int))&&decide (0+z.toNat<n)) (af (decide (0+z.toNat<n)) K)
def aav (I:Int->Prop) (N:Int) (n:Nat) (ne:Int->Bool) (Kt Kf:Prop):Prop:=
 ag ((n:Int) !=(n:Int)) Kf (∃z0:Int,I z0/\(aau (.slc 0 0 n) (.slc 1 0 n) n 0 z0/\ ∀z:Int,I z->ag (decide (z<(n:Int)))
  (ixB n z (ixB n z (ag (ne z) Kf (af (inR .i64 (z+1)) (∃z':Int,I z'/\((N - z').toNat<(N - z).toNat/\aau (.slc 0 0 n) (.slc 1 0 n) n (z+1) z'))))))
  Kt))
theorem aae (I:Int->Prop) (N:Int) (l:ze2) (Q:zdU):dk [] (YM I N) 5 68 [.slc 0 0 l.length, .slc 1 0 l.length] [eU.old l,eU.old l] (Go.Sy.okK λr _ _ _=>Q r)=
 aav I N l.length (λz=> !eqU (mb noU l (0+z.toNat)) (mb noU l (0+z.toNat))) (Q (cB.enc true)) (Q (cB.enc false)):=by kernel_rfl
theorem aaf (I:Int->Prop) (N:Int) (l:ze3) (Q:zdU):dk [] (YM I N) 5 69 [.slc 0 0 l.length, .slc 1 0 l.length] [eN.old l,eN.old l] (Go.Sy.okK λr _ _ _=>Q r)=
 aav I N l.length (λz=> !eqN (mb noN l (0+z.toNat)) (mb noN l (0+z.toNat))) (Q (cB.enc true)) (Q (cB.enc false)):=by kernel_rfl
variable {n:Nat}
theorem YD {s t:SV} {p:Int}:aau s t n p p:=⟨⟨rfl,rfl,rfl,rfl,trivial⟩,trivial,trivial,trivial⟩
theorem ZS {z:Int} {K:Prop} (h0:0<=z) (h1:z<n) (k:K):ixB n z K:=ac (by rw[zds h0,zds h1,zds (show 0+z.toNat<n by omega)];rfl) (ac (zds (by omega)) k)
theorem YE (Z:n<=1000000) {ne:Int->Bool} (h: ∀z,ne z=false) {Kt Kf:Prop} (Y:Kt):aav (λi=>0<=i/\i<=n) n n ne Kt Kf:=by
 refine ah (λJ=>by simp at J) λ_=>⟨0,⟨zat _,by omega⟩,YD, ?_⟩;rintro z ⟨h0,h1⟩;refine ah (λV=> ?_) (λ_=>Y);have V:=zdx V;exact ZS h0 V (ZS h0 V (ah (λJ=>by rw[h z] at J;cases J) λ_=>ac (VP.2 (by omega)) ⟨z+1,⟨by omega,by omega⟩,by omega,YD⟩))
open Classical in
def Zy {α:Type} (E:El α) (p:α->Bool):MCtr:=λbl _ args=>match args with
 | [s,t]=>match vW bl E.sz s,vW bl E.sz t with
   |some (b1,_,n1,g1),some (b2,_,n2,g2)=>some {X:=Unit,pre:=b1&&b2&&bW n1&&E.good p n1 g1&&E.good p n2 g2&&decide (E.list n1 g1=E.list n2 g2),spec:=λ_=>True,out:=λ_=>cB.enc true,ex:=λ_=>⟨(),trivial⟩}
   |_,_=>none
 |_=>none
variable {α:Type}
theorem ZT {E:El α} {p:α->Bool} {F:FuncId} (hr: ∀(l:List α) (Q:zdU),l.length<=1000000->Q (cB.enc true)->dk [] (YM (λi=>0<=i/\i<=l.length) l.length) 5 F [.slc 0 0 l.length, .slc 1 0 l.length] [E.old l,E.old l] (Go.Sy.okK λr _ _ _=>Q r)):
 ∀B:Base,GlobB B->VU prog B F (Zy E p):=eW MOk.nil λbl nx args C J hp=>by
 unfold Zy at J;split at J
 ·rename_i s t;split at J
  ·rename_i b1 o1 V g1 b2 o2 n2 g2 h1 h2;simp only[za1] at J;subst J;simp only[za2,zdw] at hp;obtain⟨⟨⟨⟨⟨rfl,rfl⟩,hl⟩,w1⟩,w2⟩,he⟩:=hp;obtain⟨s1,r1⟩:=cq (f:=rnF [o1,o2] [] nx) h1 w1;obtain⟨s2,r2⟩:=cq (f:=rnF [o1,o2] [] nx) h2 w2;have q1:=r1 0 rfl;have Z:=r2 1 rfl;rw[<-he] at s2 Z;have Y:(E.list V g1).length<=1000000:=by rw[El.list_length];exact zak hl
   refine⟨[o1,o2], [E.old (E.list V g1),E.old (E.list V g1)], [.slc 0 0 (E.list V g1).length, .slc 1 0 (E.list V g1).length],YM (λi=>0<=i/\i<=(E.list V g1).length) (E.list V g1).length,5,aw s1 (aw s2 trivial),bH (by simp[cN,El.old]),cd (by simp[El.old,BK.map]),ar q1 (ar Z rfl), ?_⟩;exact lz () trivial rfl (r:=cB.enc true) rfl rfl rfl rfl (by simp[cN,El.old]) rfl (hr _ _ Y rfl)
  ·cases J
 ·cases J
theorem ZU: ∀B:Base,GlobB B->VU prog B 68 (Zy eU szB):=ZT λl Q V J=>by
 rw[aae];exact YE V (λz=>by rw[Wh.2 rfl];rfl) J
theorem ZV: ∀B:Base,GlobB B->VU prog B 69 (Zy eN szN):=ZT λl Q V J=>by
 rw[aaf];exact YE V (λz=>by rw[Wn.2 rfl];rfl) J
def aaB:ze0:= [(68,Zy eU szB),(69,Zy eN szN)]
theorem aag:MOk aaB:=(MOk.nil.cons ZV).cons ZU
def aap (p:Pr):SV:= .agg ([.val (.int .i64 p.id), .slc 2 0 p.inp.length, .slc 3 0 p.nod.length]++ci p.out)
def Zo (p:Pr):zdX:= [eU.old p.inp,eN.old p.nod,eU.old p.inp,eN.old p.nod]
open Classical in
def Zp {α:Type} (E:El α) (p:α->Bool) (l:List α):Bool:=(Nat.ble l.length l.length&&Nat.beq E.sz E.sz&&true)&&(Nat.ble l.length l.length&&Nat.beq E.sz E.sz&&true)&&bW l.length&&E.good p l.length (E.get l)&&E.good p l.length (E.get l)&&decide (E.list l.length (E.get l)=E.list l.length (E.get l))
theorem Zz (p:Pr) (Q:zdU):dk aaB (λ_ _=>none) 5 18 [kB p,aap p] (Zo p) (Go.Sy.okK λr _ _ _=>Q r)=
 ag (bif p.id==p.id then eqU p.out p.out else false) (af (Zp eU szB p.inp) (Unit->True->af (Zp eN szN p.nod) (Unit->True->Q (cB.enc true)))) (Q (cB.enc false)):=by kernel_rfl
open Classical in
theorem Y1 {E:El α} {p:α->Bool} {l:List α} (h1:l.length<=1000000) (h: ∀x∈l,p x=true):Zp E p l=true:=by
 unfold Zp bW;rw[zae (za0 _),zae h1,El.good_get h,zds rfl,Nat.beq_refl];rfl
open Classical in
def Y8:MCtr:=λbl _ args=>match args with
 | [s,t]=>match mC bl s,mC bl t with
   |some a,some b=>some {X:=Unit,pre:=a.need&&b.need&&decide (a.p=b.p),spec:=λ_=>True,out:=λ_=>cB.enc true,ex:=λ_=>⟨(),trivial⟩}
   |_,_=>none
 |_=>none
variable {bl:zdP} {g:ze1}
theorem ZW {E:El α} {l:List α} {f:ze1} {o:Option Nat} (h:j5 bl f (E.old l) o):j5 bl g (E.old l) o:=by
 cases o with
 |none=>exact h
 |some i=>
  simp only[j5] at h ⊢;cases hB:bl i with
  |none=>rw[hB] at h;exact h
  |some B=>
   rw[hB] at h;obtain⟨h1,h2,h3,h4,h5,h6⟩:=h
   exact⟨h1,h2,h3,h4,h5,λe J=>by
    have:=h6 e J;have V:SV.idss ((E.old l).get e)= []:=E.ids _;rw[rns_free V] at this ⊢
    exact this⟩
theorem ZA: ∀B:Base,GlobB B->VU prog B 18 Y8:=eW aag λbl nx args C V hp=>by
 unfold Y8 at V;split at V
 ·rename_i s t;split at V
  ·rename_i a b ha hb;simp only[za1] at V;subst V;simp only[za2,zdw] at hp;obtain⟨⟨h1,h2⟩,he⟩:=hp;obtain⟨s1,s2,s3,Z,s5,s6⟩:=eX (f:=rnF [a.o1,a.o2,b.o1,b.o2] [] nx) ha h1 rfl rfl;obtain⟨t1,t2,t3,_⟩:=eX (f:=λj=>rnF [a.o1,a.o2,b.o1,b.o2] [] nx (j+2)) hb h2 rfl rfl;rw[<-he] at t1 t2 t3;have J: ∀C∈Zo a.p,cN C.kd=false/\C.kd.map=false:=by simp[Zo,cN,El.old,BK.map]
   refine⟨[a.o1,a.o2,b.o1,b.o2],Zo a.p, [kB a.p,aap a.p],λ_ _=>none,5,aw s1 (aw s2 (aw (ZW t1) (aw (ZW t2) trivial))),bH (λC Y=>(J C Y).1),cd (λC Y=>(J C Y).2),ar s3 (ar t3 rfl), ?_⟩;refine lz () trivial rfl (r:=cB.enc true) rfl rfl rfl rfl (λC Y=>(J C Y).1) rfl ?_;rw[Zz];unfold aci at Z;simp only[za2,zaf] at Z;have hb:(bif a.p.id==a.p.id then eqU a.p.out a.p.out else false)=true:=by rw[beq_self_eq_true,Wh.2 rfl];rfl
   exact ah (λ_=>ac (Y1 s5 Z.1.1) λ_ _=>ac (Y1 s6 Z.1.2) λ_ _=>rfl) (λh=>by rw[hb] at h;cases h)
  ·cases V
 ·cases V
def zA9:zdK:=⟨#[112,114,111,99,101,100,117,114,101,32,49,10]⟩
def ajE:zdK:=⟨#[111,117,116,112,117,116,32,100,105,102,102,101,114,101,110,99,101,32,107,105,110,100,32,48,32,102,97,99,116,111,114,32,49,32,111,102,102,115,101,116,32,48,32,109,94,49,32,115,94,45,49]⟩
def avF:zdK:=⟨#[100,105,102,102,101,114,101,110,99,101,32,107,105,110,100,32,48,32,102,97,99,116,111,114,32,49,32,111,102,102,115,101,116,32,48,32,109,94,49,32,115,94,45,49]⟩
abbrev ajp:=ByteArray×ByteArray×List ByteArray
abbrev ajq:=ByteArray×ByteArray×(ByteArray×ByteArray×Bool)
def tabS:List ajp:= [(spT,⟨#[10]⟩, [⟨#[112,114,111,99,101,100,117,114,101,32,49]⟩,⟨#[103,105,118,101,110,32,100,105,102,102,101,114,101,110,99,101,32,107,105,110,100,32,48,32,102,97,99,116,111,114,32,49,32,111,102,102,115,101,116,32,48,32,109,94,49]⟩,⟨#[103,105,118,101,110,32,100,105,102,102,101,114,101,110,99,101,32,107,105,110,100,32,48,32,102,97,99,116,111,114,32,49,32,111,102,102,115,101,116,32,48,32,115,94,49]⟩,⟨#[105,110,112,117,116,32,48]⟩,⟨#[105,110,112,117,116,32,49]⟩,⟨#[100,105,118,32,48,32,49]⟩,ajE,⟨#[]⟩]),
 (⟨#[112,114,111,99,101,100,117,114,101,32,49,10]⟩,⟨#[10]⟩, [⟨#[112,114,111,99,101,100,117,114,101,32,49]⟩,⟨#[]⟩]),
 (⟨#[100,105,102,102,101,114,101,110,99,101,32,107,105,110,100,32,48,32,102,97,99,116,111,114,32,49,32,111,102,102,115,101,116,32,48,32,109,94,49]⟩,⟨#[32]⟩, [⟨#[100,105,102,102,101,114,101,110,99,101]⟩,⟨#[107,105,110,100]⟩,⟨#[48]⟩,⟨#[102,97,99,116,111,114]⟩,⟨#[49]⟩,⟨#[111,102,102,115,101,116]⟩,⟨#[48]⟩,⟨#[109,94,49]⟩]),
 (⟨#[100,105,102,102,101,114,101,110,99,101,32,107,105,110,100,32,48,32,102,97,99,116,111,114,32,49,32,111,102,102,115,101,116,32,48,32,115,94,49]⟩,⟨#[32]⟩, [⟨#[100,105,102,102,101,114,101,110,99,101]⟩,⟨#[107,105,110,100]⟩,⟨#[48]⟩,⟨#[102,97,99,116,111,114]⟩,⟨#[49]⟩,⟨#[111,102,102,115,101,116]⟩,⟨#[48]⟩,⟨#[115,94,49]⟩]),
 (avF,⟨#[32]⟩, [⟨#[100,105,102,102,101,114,101,110,99,101]⟩,⟨#[107,105,110,100]⟩,⟨#[48]⟩,⟨#[102,97,99,116,111,114]⟩,⟨#[49]⟩,⟨#[111,102,102,115,101,116]⟩,⟨#[48]⟩,⟨#[109,94,49]⟩,⟨#[115,94,45,49]⟩]),
 (⟨#[48]⟩,⟨#[32]⟩, [⟨#[48]⟩]),
 (⟨#[49]⟩,⟨#[32]⟩, [⟨#[49]⟩]),
 (⟨#[48,32,49]⟩,⟨#[32]⟩, [⟨#[48]⟩,⟨#[49]⟩])]
def tabC:List ajq:= [(⟨#[105,110,112,117,116,32,48]⟩,⟨#[32]⟩,(⟨#[105,110,112,117,116]⟩,⟨#[48]⟩,true)),
 (⟨#[105,110,112,117,116,32,49]⟩,⟨#[32]⟩,(⟨#[105,110,112,117,116]⟩,⟨#[49]⟩,true)),
 (⟨#[100,105,118,32,48,32,49]⟩,⟨#[32]⟩,(⟨#[100,105,118]⟩,⟨#[48,32,49]⟩,true)),
 (ajE,⟨#[32]⟩,(⟨#[111,117,116,112,117,116]⟩,avF,true)),
 (⟨#[49]⟩,⟨#[47]⟩,(⟨#[49]⟩,⟨#[]⟩,false)),
 (⟨#[48]⟩,⟨#[47]⟩,(⟨#[48]⟩,⟨#[]⟩,false)),
 (⟨#[109,94,49]⟩,⟨#[94]⟩,(⟨#[109]⟩,⟨#[49]⟩,true)),
 (⟨#[115,94,49]⟩,⟨#[94]⟩,(⟨#[115]⟩,⟨#[49]⟩,true)),
 (⟨#[115,94,45,49]⟩,⟨#[94]⟩,(⟨#[115]⟩,⟨#[45,49]⟩,true)),
 (⟨#[45,49]⟩,⟨#[47]⟩,(⟨#[45,49]⟩,⟨#[]⟩,false))]
def findS (s sep:zdK):List ajp->List ByteArray
 | []=>abI s sep
 |r::l=>bif seq r.1 s&&seq r.2.1 sep then r.2.2 else findS s sep l
def afr (s sep:zdK):List ajq->ByteArray×ByteArray×Bool
 | []=>abn s sep
 |r::l=>bif seq r.1 s&&seq r.2.1 sep then r.2.2 else afr s sep l
theorem aed {s sep:zdK}: ∀{l:List ajp},(∀r∈l,abI r.1 r.2.1=r.2.2)->findS s sep l=abI s sep
 | [],_=>rfl
 |r::l,h=>by
  rw[findS];cases J:seq r.1 s&&seq r.2.1 sep with
  |false=>exact aed λx V=>h x (zan _ V)
  |true=>
   rw[za2] at J;rw[zdu,<-h r (zbF ..),We.1 J.1,We.1 J.2]
theorem aee {s sep:zdK}: ∀{l:List ajq},(∀r∈l,abn r.1 r.2.1=r.2.2)->afr s sep l=abn s sep
 | [],_=>rfl
 |r::l,h=>by
  rw[afr];cases J:seq r.1 s&&seq r.2.1 sep with
  |false=>exact aee λx V=>h x (zan _ V)
  |true=>
   rw[za2] at J;rw[zdu,<-h r (zbF ..),We.1 J.1,We.1 J.2]
theorem agV:tabS.map (λr=>abI r.1 r.2.1)=tabS.map (λr=>r.2.2):=by kernel_rfl
theorem aig: ∀r∈tabS,abI r.1 r.2.1=r.2.2:=λr J=>by
 obtain⟨i,hi,rfl⟩:=List.mem_iff_getElem.1 J;have:=congrArg (λl=>l[i]?) agV;simpa [zaL,zaa hi] using this
theorem agW:tabC.map (λr=>abn r.1 r.2.1)=tabC.map (λr=>r.2.2):=by kernel_rfl
theorem aih: ∀r∈tabC,abn r.1 r.2.1=r.2.2:=λr J=>by
 obtain⟨i,hi,rfl⟩:=List.mem_iff_getElem.1 J;have:=congrArg (λl=>l[i]?) agW;simpa [zaL,zaa hi] using this
def adJ:MCtr:=λ_ nx args=>match args with
 | [.val (.string s), .val (.string sep)]=>some {X:=Unit,pre:=decide (s.size<=1000000)&&decide (1<=sep.size),spec:=λ_=>True,out:=λ_=> .slc nx 0 (findS s sep tabS).length,nw:=λ_=> [abN (findS s sep tabS)],ex:=λ_=>⟨(),trivial⟩}
 |_=>none
theorem aeH:adJ=abV:=by
 funext bl nx args
 unfold adJ abV;simp only[aed aig];rfl
def aks (s sep:zdK):ByteArray×ByteArray×Bool:=afr s sep tabC
theorem aii:aks=abn:=by
 funext s J
 exact aee aih
variable {a:Addr} {ann:zdY} {f:FuncId} {args:zdN} {Cs:zdX} {K K':Aft}
theorem af1 (h:Xk a ann n f args Cs K) (J: ∀r b n w,K r b n w->K' r b n w):Xk a ann n f args Cs K':=by
 unfold Xk at h ⊢;exact NiceT.mono (Ea _ _ _ _ _ _ f args _ _ _ (λi hi=>zad hi)) h λr b n w _=>J r b n w
variable {C:RC} {src:zdW} {nx:Nat} {r:SV}
theorem ajr (x:C.X) (V:C.spec x) (h1:C.pan x=none) (h2:r.ids= []) (h3:C.out x=r) (h4:C.nw x= []) (h5:C.ch x= []) (h6: ∀C∈Cs,cN C.kd=false) (J:src.length=Cs.length)
 (h:Xk a ann n f args Cs (Go.Sy.okK λs _ _ _=>s=r)):Xk a ann n f args Cs (KB C src Cs nx):=af1 h λq b m w hq=>by
 cases q with
 |pan v=>exact hq.elim
 |ok s=>
  obtain rfl:s=r:=hq;exact IG x V h1 h2 h3 h4 h5 h6 J
variable {Q:zdU}
theorem aeI {I:ByteArray->WdX->Prop} (V:aci spP=true) (J:Q (.tup [.val (.string spT), .val (.int .i64 0)])):Xk a (alF I) 9 16 [kB spP] [eU.old spP.inp,eN.old spP.nod] (Go.Sy.okK λr _ _ _=>Q r):=by
 rw[af0];unfold afq uK bdK;refine ac (eY V (by decide) (by decide)) λ_ _=>⟨vK,vK,λ_ _=>⟨vK,λ_ _=>⟨vK,vK,vK,vK,λ_ _=>⟨vK,vK,J⟩⟩⟩⟩
open Classical in
def ac3 (p:Pr) (T:zdK):MCtr:=λbl _ args=>match args with
 | [s]=>match mC bl s with
   |some a=>some {X:=Unit,pre:=a.need&&decide (a.p=p),spec:=λ_=>True,out:=λ_=> .tup [.val (.string T), .val (.int .i64 0)],ex:=λ_=>⟨(),trivial⟩}
   |none=>none
 |_=>none
open Classical in
theorem aef {p:Pr} {T:zdK} (h:aci p=true-> ∀Q:zdU,Q (.tup [.val (.string T), .val (.int .i64 0)])->Xk a ann 9 16 [kB p] (iK p) (Go.Sy.okK λr _ _ _=>Q r)):
 ∀B:Base,GlobEB a B->VU prog B 16 (ac3 p T):=λB hB=>c8 (λB' Y=>ak2 (hB.sub Y)) λbl nx args C J hp=>by
 unfold ac3 at J;split at J
 ·rename_i s;split at J
  ·rename_i b V;simp only[za1] at J;subst J;simp only[za2,zdw] at hp;obtain⟨s1,Z,s3,s4,s5,s6⟩:=eX (f:=rnF [b.o1,b.o2] [] nx) V hp.1 rfl rfl;obtain⟨_,rfl⟩:=hp;have:=ajr (C:={X:=Unit,pre:=b.need&&decide (b.p=b.p),spec:=λ_=>True,out:=λ_=> .tup [.val (.string T), .val (.int .i64 0)],ex:=λ_=>⟨(),trivial⟩}) (src:= [b.o1,b.o2]) (nx:=nx) () trivial rfl (r:= .tup [.val (.string T), .val (.int .i64 0)]) rfl rfl rfl rfl (cx b.p) rfl (h s4 _ rfl);unfold Xk at this;exact⟨[b.o1,b.o2],iK b.p, [kB b.p],ann,9,aw s1 (aw Z trivial),bH (cx _),cd (jG _),by simp only[SV.rns,s3],this⟩
  ·cases J
 ·cases J
def afs:MCtr:=ac3 spP spT
theorem aeJ: ∀B:Base,GlobEB a B->VU prog B 16 afs:=aef (ann:=alF λ_ _=>True) λV Q J=>aeI V J
def g9s:List (FuncId×Ctr):=(61,k1 cI cS cl ofI)::(253,k2 cS cS (cP3 cS cS cB) (λs _=>decide (s.size<=1000000)) aks)::gFR
theorem adv:GEk g9s:=by
 have h:g9s=g9n:=by unfold g9s g9n;rw[aii]
 rw[h];exact aiL
def aeK:ze0:= [(19,pN),(12,xi),(14,zm),(9,au0),(16,afs),(18,Y8),(129,abt),(66,adJ),(130,adI)]
theorem aft:MEk a aeK:=by
 unfold aeK;rw[aeH];exact((((((((MEk.nil.cons λB hB=>adu hB.gU).cons λB hB=>adm hB.gU).cons λB hB=>abG).cons λB hB=>ZA B hB.gU).cons aeJ).cons auN).cons λB hB=>tP B hB.gU).cons λB hB=>vM B hB.gU).cons λB hB=>lZ B hB.gU
@[irreducible] def acm (a:Addr) (ann:zdY) (n:Nat) (f:FuncId) (args:zdN) (Cs:zdX) (K:Aft):Prop:=
 Ay prog (iR yr) (gw g9s) (gx aeK) (dF a) ann n f args (λi=>Cs[i]?) Cs.length [] K
variable {B:Base}
theorem ak4 (hB:GlobEB a B):HypD prog B (iR yr) (gw g9s) (gx aeK) (dF a):=
 have h:=ac9 (gm:=aeK) adv aft hB
 ⟨h.gam,h.mem,h.dem,λf J=>by
   unfold iR at J;simp only[zaP] at J;obtain⟨g,hg,V⟩:=J
   rw[zab V];exact vT g hg,h.mixed⟩
def tu1:zdK:=⟨#[100,105,102,102,101,114,101,110,99,101,32,107,105,110,100,32,48,32,102,97,99,116,111,114,32,49,32,111,102,102,115,101,116,32,48,32,109,94,49]⟩
def tu2:zdK:=⟨#[100,105,102,102,101,114,101,110,99,101,32,107,105,110,100,32,48,32,102,97,99,116,111,114,32,49,32,111,102,102,115,101,116,32,48,32,115,94,49]⟩
def tu3:zdK:=⟨#[100,105,102,102,101,114,101,110,99,101,32,107,105,110,100,32,48,32,102,97,99,116,111,114,32,49,32,111,102,102,115,101,116,32,48,32,109,94,49,32,115,94,45,49]⟩
abbrev zl:zdY:=λ_ _=>none
theorem ajs (a:Addr) (Q:zdU):acm a zl 5 193 [.val (.string tu1)] [] (Go.Sy.okK λr _ _ _=>Q r)=(uK (uK (uK (uK (Q ((cP cU cI).enc (u0,0))))))):=by kernel_rfl
theorem ajt (a:Addr) (Q:zdU):acm a zl 5 193 [.val (.string tu2)] [] (Go.Sy.okK λr _ _ _=>Q r)=(uK (uK (uK (uK (Q ((cP cU cI).enc (u2,0))))))):=by kernel_rfl
theorem aju (a:Addr) (Q:zdU):acm a zl 5 193 [.val (.string tu3)] [] (Go.Sy.okK λr _ _ _=>Q r)=(uK (uK (uK (uK (uK (Q ((cP cU cI).enc (uo,0)))))))):=by kernel_rfl
theorem af2 (h:acm a ann n f args Cs K) (J: ∀r b n w,K r b n w->K' r b n w):acm a ann n f args Cs K':=by
 unfold acm at h ⊢;exact NiceT.mono (Ea _ _ _ _ _ _ f args _ _ _ (λi hi=>zad hi)) h λr b n w _=>J r b n w
theorem ajv (x:C.X) (V:C.spec x) (h1:C.pan x=none) (h2:r.ids= []) (h3:C.out x=r) (h4:C.nw x= []) (h5:C.ch x= []) (h6: ∀C∈Cs,cN C.kd=false) (J:src.length=Cs.length)
 (h:acm a ann n f args Cs (Go.Sy.okK λs _ _ _=>s=r)):acm a ann n f args Cs (KB C src Cs nx):=af2 h λq b m w hq=>by
 cases q with
 |pan v=>exact hq.elim
 |ok s=>
  obtain rfl:s=r:=hq;exact IG x V h1 h2 h3 h4 h5 h6 J
theorem aij {a:Addr} {C:RC} {src:zdW} {Cs:zdX} {nx:Nat} {ann:zdY} {n:Nat} {f:FuncId} {args:zdN} {r:SV} (x:C.X) (V:C.spec x) (h1:C.pan x=none) (h2:r.ids= []) (h3:C.out x=r) (h4:C.nw x= []) (h5:C.ch x= []) (h6: ∀C∈Cs,cN C.kd=false) (J:src.length=Cs.length)
 (h:acm a ann n f args Cs (Go.Sy.okK λs _ _ _=>s=r)):Ay prog (iR yr) (gw g9s) (gx aeK) (dF a) ann n f args (λi=>Cs[i]?) Cs.length [] (KB C src Cs nx):=by
 have:=ajv (C:=C) (src:=src) (nx:=nx) x V h1 h2 h3 h4 h5 h6 J h;unfold acm at this;exact this
def agX:List (ByteArray×Un):= [(tu1,u0),(tu2,u2),(tu3,uo)]
def afu (s:zdK):List (ByteArray×Un)->Option Un
 | []=>none
 |r::l=>bif seq r.1 s then some r.2 else afu s l
theorem adw {s:zdK} {u:Un}: ∀{l:List (ByteArray×Un)},afu s l=some u->(s,u)∈l
 | [],h=>by cases h
 |r::l,h=>by
  rw[afu] at h;cases J:seq r.1 s with
  |false=>rw[J] at h;exact zan _ (adw h)
  |true=>
   rw[J,zdu] at h;obtain rfl:=We.1 J;obtain rfl:r.2=u:=by simpa using h
   exact zbF ..
theorem agY: ∀r∈agX,Q ((cP cU cI).enc (r.2,0))->acm a zl 5 193 [.val (.string r.1)] [] (Go.Sy.okK λr _ _ _=>Q r):=λr J V=>by
 unfold agX at J;rcases zai.1 J with rfl|J
 ·rw[ajs];exact λ_ _ _ _ _ _ _ _=>V
 rcases zai.1 J with rfl|J
 ·rw[ajt];exact λ_ _ _ _ _ _ _ _=>V
 rcases zai.1 J with rfl|J
 ·rw[aju];exact λ_ _ _ _ _ _ _ _ _ _=>V
 cases J
def rcU (u:Un):RC:={X:=Unit,pre:=true,spec:=λ_=>True,out:=λ_=>(cP cU cI).enc (u,0),ex:=λ_=>⟨(),trivial⟩}
variable {u:Un}
theorem akt:(rcU u).spec ():=trivial
theorem aku:(rcU u).pan ()=none:=rfl
theorem akv:(rcU u).nw ()= []:=rfl
theorem akw:(rcU u).ch ()= []:=rfl
theorem akx:(rcU u).out ()=(cP cU cI).enc (u,0):=rfl
def agZ (tab:List (ByteArray×Un)):MCtr:=λ_ _ args=>match args with
 | [.val (.string s)]=>match afu s tab with
   |some u=>some (rcU u)
   |none=>none
 |_=>none
theorem ag0 {tab:List (ByteArray×Un)} (h: ∀r∈tab,∀Q:zdU,Q ((cP cU cI).enc (r.2,0))->acm a zl 5 f [.val (.string r.1)] [] (Go.Sy.okK λr _ _ _=>Q r)):
 ∀B:Base,GlobEB a B->VU prog B f (agZ tab):=λB hB=>c8 (λB' hs=>ak4 (hB.sub hs)) λbl nx args C J hp=>by
 unfold agZ at J;split at J
 ·rename_i s;split at J
  ·rename_i u hu;simp only[za1] at J;subst J;have key:=h (s,u) (adw hu) (λr=>r=(cP cU cI).enc (u,0)) rfl;have e1:((cP cU cI).enc (u,(0:Int))).ids= []:=(cP cU cI).ids _;have Y: ∀C∈([]:zdX),cN C.kd=false:=λC V=>by cases V
   have Z:= @aij a (rcU u) [] [] nx zl 5 f [.val (.string s)] ((cP cU cI).enc (u,0)) () akt aku e1 akx akv akw Y rfl key;exact⟨[], [], [.val (.string s)],zl,5,trivial,bH (λC V=>by cases V),cd (λC V=>by cases V),rfl,Z⟩
  ·cases J
 ·cases J
def adK:MCtr:=agZ agX
theorem aeL: ∀B:Base,GlobEB a B->VU prog B 193 adK:=by
 unfold adK;have h: ∀r∈agX,∀Q:zdU,Q ((cP cU cI).enc (r.2,0))->acm a zl 5 193 [.val (.string r.1)] [] (Go.Sy.okK λr _ _ _=>Q r):=λr V Q J=>agY r V J;generalize agX=tab at h;exact ag0 h
def af3:ze0:=(193,adK)::aeK
theorem afv:MEk a af3:=aft.cons aeL
@[irreducible] def acE (a:Addr) (ann:zdY) (n:Nat) (f:FuncId) (args:zdN) (Cs:zdX) (K:Aft):Prop:=
 Ay prog (iR yr) (gw g9s) (gx af3) (dF a) ann n f args (λi=>Cs[i]?) Cs.length [] K
theorem ak5 (hB:GlobEB a B):HypD prog B (iR yr) (gw g9s) (gx af3) (dF a):=
 have h:=ac9 (gm:=af3) adv afv hB
 ⟨h.gam,h.mem,h.dem,λf J=>by
   unfold iR at J;simp only[zaP] at J;obtain⟨g,hg,V⟩:=J
   rw[zab V];exact vT g hg,h.mixed⟩
def bkx (f:zdT):zdQ
 |0=> []
 |e+1=> [.val (.bool (f e))]
def tv9 (s:SV):Prop:=TV.v s=TV.v s
def opK (k:Nat):SV:= .val (.int .i64 ((k:Int)+1))
def opV (two num pw sq:Nat):Nat->SV
 |0=> .agg [.val (.string (opW 0)), .val (.slice none 0 0), .fn (.func 170) [] []]
 |1=> .agg [.val (.string (opW 1)), .slc num 0 1, .fn (.func 172) [] []]
 |2=> .agg [.val (.string (opW 2)), .slc two 0 2, .fn (.func 173) [] []]
 |3=> .agg [.val (.string (opW 3)), .slc two 0 2, .fn (.func 174) [] []]
 |4=> .agg [.val (.string (opW 4)), .slc two 0 2, .fn (.func 175) [] []]
 |5=> .agg [.val (.string (opW 5)), .slc two 0 2, .fn (.func 176) [] []]
 |6=> .agg [.val (.string (opW 6)), .slc pw 0 2, .fn (.func 177) [] []]
 |_=> .agg [.val (.string (opW 7)), .slc sq 0 1, .fn (.func 178) [] []]
def opG (V:Nat->SV):Nat->zdQ
 |0=>λ_=> []
 |k+1=>J9 (opG V k) k [opK k,V k]
def ag1 (n:Int):zdN:=svN ⟨n,VI,noU,0,0,0⟩
def mT9 (p:Nat) (line w rest:zdK) (x i:Nat):Prop:=
 tv9 (.ptr p 0 0)/\tv9 (.val (.string line))/\tv9 (.val .nilFunc)/\tv9 (.val (.string w))/\tv9 (.val (.string rest))/\tv9 (.val (.bool true))/\tv9 (.ptr x 0 0)/\tv9 (.ptr i 0 0)/\True
def M9 (mt:Prop) (L R:zdQ) (n:Int) (x:WdX):Prop:=
 mt/\(((∀e:Nat,L (e+1)=abr (bkx x.2) R (e+1))/\True)/\((ag1 n=ag1 x.1/\True)/\True))
def ace (I:WdX->Prop) (V:Nat->SV) (mt:Prop) (w:zdK) (x:WdX) (k:Nat):Prop:=
 ag (x.2 k) (∃x':WdX,I x'/\(acD x'.2 8<acD x.2 8/\M9 mt (nN (abr (bkx x.2) (rM (opG V 8))) k (opK k) (V k)) (rM (opG V 8)) (bif seq (opW k) w then(k:Int)+1 else x.1) x')) True
def adL (I:WdX->Prop) (V:Nat->SV) (mt:Prop) (w:zdK) (n:Int) (K:Prop):Prop:=
 ∃x0:WdX,I x0/\(M9 mt (rM (opG V 8)) (rM (opG V 8)) 0 x0/\ ∀x:WdX,I x->
  (ag (x.2 0||(x.2 1||(x.2 2||(x.2 3||(x.2 4||(x.2 5||(x.2 6||(x.2 7||false)))))))) True (some (SV.val (.int .i64 x.1))=some (SV.val (.int .i64 n))/\K)/\
  (ace I V mt w x 0/\ace I V mt w x 1/\ace I V mt w x 2/\ace I V mt w x 3/\ace I V mt w x 4/\ace I V mt w x 5/\ace I V mt w x 6/\ace I V mt w x 7/\True)))
def XD (w:zdK) (f:zdT):Nat->Int
 |0=>0
 |k+1=>bif seq (opW k) w&& !f k then(k:Int)+1 else XD w f k
def aeM (w:zdK) (x:WdX):Prop:=x.1=XD w x.2 8
def acF (f:zdT) (k:Nat):zdT:=λe=> !Nat.beq e k&&f e
variable {k:Nat}
theorem acM {f:zdT} {e:Nat} (h:e≠k):acF f k e=f e:=by
 unfold acF;rw[show Nat.beq e k=false from by rw[bS];exact zdv h];rfl
theorem adM {f:zdT} :acF f k k=false:=by
 unfold acF;rw[show Nat.beq k k=true from by rw[bS];exact zds rfl];rfl
theorem adx {w:zdK} {f:zdT} {k:Nat} (h:seq (opW k) w=false): ∀m,XD w (acF f k) m=XD w f m
 |0=>rfl
 |m+1=>by
  rw[XD,XD,adx h m];by_cases e:m=k
  ·subst e;rw[h];rfl
  ·rw[acM e]
theorem ak6: ∀j,j<8-> ∀k,k<8->j≠k->seq (opW j) (opW k)=false:=by decide
theorem aeg {f:zdT} {k:Nat} (J:k<8): ∀m,m<=8->XD (opW k) (acF f k) m=if k<m then(k:Int)+1 else 0
 |0,_=>rfl
 |m+1,V=>by
  rw[XD,aeg J m (by omega)];by_cases e:m=k
  ·subst e;rw[adM,show seq (opW m) (opW m)=true from We.2 rfl,if_pos (show m<m+1 by omega)];rfl
  ·rw[ak6 m (by omega) k J e,Bool.false_and,zdt];by_cases h:k<m
   ·rw[if_pos h,if_pos (by omega)]
   ·rw[if_neg h,if_neg (by omega)]
theorem aeh {w:zdK} {f:zdT}: ∀m,(∀k,k<m->f k=false)->XD w f m=opN w m
 |0,_=>rfl
 |m+1,h=>by
  rw[XD,opN,aeh m λk J=>h k (by omega),h m (by omega)];cases seq (opW m) w<;>rfl
theorem aei {f:zdT} {k:Nat} (h:f k=true): ∀m,(k<m->acD (acF f k) m<acD f m)/\(m<=k->acD (acF f k) m=acD f m)
 |0=>⟨λh=>by omega,λ_=>rfl⟩
 |m+1=>by
  obtain⟨h1,h2⟩:=aei h m;refine⟨λJ=> ?_,λJ=> ?_⟩
  ·rw[acD,acD];by_cases e:m=k
   ·subst e;rw[h2 (za0 _),adM,h];simp
   ·have:=h1 (by omega);rw[acM e];omega
  ·rw[acD,acD,h2 (by omega),acM (by omega)]
theorem aky {G:zdQ} (e:Nat):rM G (e+1)=abr (bkx λ_=>true) (rM G) (e+1):=by
 show _=onB (su (bkx (λ_=>true) (e+1))) (rM G (e+1));have h: ∀l:zdN,(match l with| [k,v]=> [SV.val (Value.bool true),k,v]|_=> [])=onB true (match l with| [k,v]=> [SV.val (Value.bool true),k,v]|_=> []):=by
  intro l;split<;>rfl
 exact h (G e)
theorem akz {f:zdT} {R:zdQ} {K V:SV} (e:Nat):nN (abr (bkx f) R) k K V (e+1)=abr (bkx (acF f k)) R (e+1):=by
 show (bif Nat.beq e k then Nx (onB (f e) (R (e+1))) else onB (f e) (R (e+1)))=onB (acF f k e) (R (e+1));by_cases h:e=k
 ·subst h;rw[adM,show Nat.beq e e=true from by rw[bS];exact zds rfl,zdu];cases R (e+1)<;>rfl
 ·rw[acM h,show Nat.beq e k=false from by rw[bS];exact zdv h,zdt]
variable {V:Nat->SV} {mt:Prop} {w:zdK}
theorem mB {x:WdX} (Y:mt) (hx:aeM w x) (J:k<8):ace (aeM w) V mt w x k:=by
 refine ah (λh=> ?_) λ_=>trivial;refine⟨(bif seq (opW k) w then(k:Int)+1 else x.1,acF x.2 k), ?_,(aei h 8).1 J,Y,⟨λe=>akz e,trivial⟩,⟨rfl,trivial⟩,trivial⟩;show (bif seq (opW k) w then(k:Int)+1 else x.1)=XD w (acF x.2 k) 8;cases Z:seq (opW k) w with
 |false=>rw[adx Z];exact hx
 |true=>
  obtain rfl:=We.1 Z;rw[aeg J 8 (za0 _),if_pos J];rfl
theorem acn {n:Int} {K:Prop} (J:mt) (hn:opN w 8=n) (Z:K):adL (aeM w) V mt w n K:=by
 refine⟨(0,λ_=>true), ?_,⟨J,⟨λe=>aky e,trivial⟩,⟨rfl,trivial⟩,trivial⟩,λx Y=>⟨?_, ?_⟩⟩
 ·show (0:Int)=XD w (λ_=>true) 8;have: ∀m,XD w (λ_=>true) m=0:=by
   intro m
   induction m with
   |zero=>rfl
   |succ m ih=>rw[XD,zbh,Bool.and_false,zdt,ih]
  exact(this 8).symm
 ·refine ah (λ_=>trivial) λh=>⟨?_,Z⟩;simp only[zbs] at h;obtain⟨h0,h1,h2,h3,h4,h5,h6,h7,_⟩:=h;have:x.1=n:=by
   rw[<-hn,show x.1=XD w x.2 8 from Y];refine aeh 8 λk hk=> ?_
   match k,hk with
   |0,_=>exact h0
   |1,_=>exact h1
   |2,_=>exact h2
   |3,_=>exact h3
   |4,_=>exact h4
   |5,_=>exact h5
   |6,_=>exact h6
   |7,_=>exact h7
  rw[this]
 ·exact⟨mB J Y (by omega),mB J Y (by omega),mB J Y (by omega),mB J Y (by omega),mB J Y (by omega),mB J Y (by omega),mB J Y (by omega),mB J Y (by omega),trivial⟩
theorem aeN {p:Nat} {line rest:zdK} {x i:Nat}:mT9 p line w rest x i:=⟨rfl,rfl,rfl,rfl,rfl,rfl,rfl,rfl,trivial⟩
def aeO:zdK:=⟨#[105,110,112,117,116,32,48]⟩
def aeP:zdK:=⟨#[105,110,112,117,116,32,49]⟩
def aeQ:zdK:=⟨#[100,105,118,32,48,32,49]⟩
def ti9:zdK:=⟨#[105,110,112,117,116]⟩
def td9:zdK:=⟨#[100,105,118]⟩
def t09:zdK:=⟨#[48]⟩
def t19:zdK:=⟨#[49]⟩
def ak7:zdK:=⟨#[48,32,49]⟩
abbrev acA:zdY:=afZ 63
theorem ajw (a:Addr) (Q:zdU):acE a acA 5 63 [.agg (svN (nI9 0))] [] (Go.Sy.okK λr _ _ _=>Q r)=Q (.val (.string aeO)):=by kernel_rfl
theorem ajx (a:Addr) (Q:zdU):acE a acA 5 63 [.agg (svN (nI9 1))] [] (Go.Sy.okK λr _ _ _=>Q r)=Q (.val (.string aeP)):=by kernel_rfl
theorem ajy (a:Addr) (Q:zdU):acE a acA 5 63 [.agg (svN nD9)] [] (Go.Sy.okK λr _ _ _=>Q r)=Q (.val (.string aeQ)):=by kernel_rfl
theorem af4 (h:acE a ann n f args Cs K) (J: ∀r b n w,K r b n w->K' r b n w):acE a ann n f args Cs K':=by
 unfold acE at h ⊢;exact NiceT.mono (Ea _ _ _ _ _ _ f args _ _ _ (λi hi=>zad hi)) h λr b n w _=>J r b n w
theorem aik {a:Addr} {C:RC} {src:zdW} {Cs:zdX} {nx:Nat} {ann:zdY} {n:Nat} {f:FuncId} {args:zdN} {r:SV} (x:C.X) (V:C.spec x) (h1:C.pan x=none) (h2:r.ids= []) (h3:C.out x=r) (h4:C.nw x= []) (h5:C.ch x= []) (h6: ∀C∈Cs,cN C.kd=false) (J:src.length=Cs.length)
 (h:acE a ann n f args Cs (Go.Sy.okK λs _ _ _=>s=r)):Ay prog (iR yr) (gw g9s) (gx af3) (dF a) ann n f args (λi=>Cs[i]?) Cs.length [] (KB C src Cs nx):=by
 have:acE a ann n f args Cs (KB C src Cs nx):=af4 h λq b m w hq=>by
  cases q with
  |pan v=>exact hq.elim
  |ok s=>
   obtain rfl:s=r:=hq;exact IG x V h1 h2 h3 h4 h5 h6 J
 unfold acE at this;exact this
abbrev ag2:=Nd×ByteArray
def ag3:List ag2:= [(nI9 0,aeO),(nI9 1,aeP),(nD9,aeQ)]
def afw (x:Nd):List ag2->Option ByteArray
 | []=>none
 |r::l=>bif eqN r.1 x then some r.2 else afw x l
theorem ady {x:Nd} {s:zdK}: ∀{l:List ag2},afw x l=some s->(x,s)∈l
 | [],h=>by cases h
 |r::l,h=>by
  rw[afw] at h;cases J:eqN r.1 x with
  |false=>rw[J] at h;exact zan _ (ady h)
  |true=>
   rw[J,zdu] at h;obtain rfl:=Wn.1 J;obtain rfl:r.2=s:=by simpa using h
   exact zbF ..
theorem ag4: ∀r∈ag3,Q (.val (.string r.2))->acE a acA 5 63 [.agg (svN r.1)] [] (Go.Sy.okK λr _ _ _=>Q r):=λr J V=>by
 unfold ag3 at J;rcases zai.1 J with rfl|J
 ·rw[ajw];exact V
 rcases zai.1 J with rfl|J
 ·rw[ajx];exact V
 rcases zai.1 J with rfl|J
 ·rw[ajy];exact V
 cases J
def rcT (s:zdK):RC:={X:=Unit,pre:=true,spec:=λ_=>True,out:=λ_=> .val (.string s),ex:=λ_=>⟨(),trivial⟩}
variable {s:zdK}
theorem akA:(rcT s).spec ():=trivial
theorem akB:(rcT s).pan ()=none:=rfl
theorem akC:(rcT s).nw ()= []:=rfl
theorem akD:(rcT s).ch ()= []:=rfl
theorem akE:(rcT s).out ()= .val (.string s):=rfl
def ag5 (tab:List ag2):MCtr:=λ_ _ args=>match args with
 | [.agg cs]=>bif ndB cs then(match afw (Vh cs) tab with
   |some s=>some (rcT s)
   |none=>none) else none
 |_=>none
theorem ag6 {tab:List ag2} (h: ∀r∈tab,∀Q:zdU,Q (.val (.string r.2))->acE a acA 5 f [.agg (svN r.1)] [] (Go.Sy.okK λr _ _ _=>Q r)):
 ∀B:Base,GlobEB a B->VU prog B f (ag5 tab):=λB hB=>c8 (λB' Z=>ak5 (hB.sub Z)) λbl nx args C J hp=>by
 unfold ag5 at J;split at J
 ·rename_i cs;cases Y:ndB cs with
  |false=>rw[Y] at J;cases J
  |true=>
   rw[Y,zdu] at J;split at J
   ·rename_i s Z;simp only[za1] at J;subst J;have key:=h (Vh cs,s) (ady Z) (λr=>r= .val (.string s)) rfl;have e0:Vh cs=(Vh cs,s).1:=rfl;rw[<-e0,<-ua Y] at key;have e1:(SV.val (.string s)).ids= []:=rfl;have e2: ∀C∈([]:zdX),cN C.kd=false:=λC V=>by cases V
    have e3:= @aik a (rcT s) [] [] nx acA 5 f [.agg cs] (.val (.string s)) () akA akB e1 akE akC akD e2 rfl key;have e4:SV.rns (rnF [] [] nx) [.agg cs]=some [.agg cs]:=by
     have e:=rns_free (f:=rnF [] [] nx) (arA (Vh cs));rw[<-ua Y] at e;exact ar (Xs e) rfl
    exact⟨[], [], [.agg cs],acA,5,trivial,bH (λC V=>by cases V),cd (λC V=>by cases V),e4,e3⟩
   ·cases J
 ·cases J
def aeR:MCtr:=ag5 ag3
theorem af5: ∀B:Base,GlobEB a B->VU prog B 63 aeR:=by
 unfold aeR;have h: ∀r∈ag3,∀Q:zdU,Q (.val (.string r.2))->acE a acA 5 63 [.agg (svN r.1)] [] (Go.Sy.okK λr _ _ _=>Q r):=λr V Q J=>ag4 r V J;generalize ag3=tab at h;exact ag6 h
def ag7:ze0:=(63,aeR)::af3
theorem afx:MEk a ag7:=afv.cons af5
@[irreducible] def aeS (a:Addr) (ann:zdY) (n:Nat) (f:FuncId) (args:zdN) (Cs:zdX) (K:Aft):Prop:=
 Ay prog (iR yr) (gw g9s) (gx ag7) (dF a) ann n f args (λi=>Cs[i]?) Cs.length [] K
theorem ak8 (hB:GlobEB a B):HypD prog B (iR yr) (gw g9s) (gx ag7) (dF a):=
 have h:=ac9 (gm:=ag7) adv afx hB
 ⟨h.gam,h.mem,h.dem,λf J=>by
   unfold iR at J;simp only[zaP] at J;obtain⟨g,hg,V⟩:=J
   rw[zab V];exact vT g hg,h.mixed⟩
def fnL:SV:= .fn (.func 168) [] []
def fnR:SV:= .fn (.func 169) [] []
def fnN:SV:= .fn (.func 171) [] []
def ac4 (g:zdQ):Nat->List (zdN)
 |0=> []
 |n+1=>ac4 g n++ [g n]
def ajz:BK->Bool
 | .own=>true
 |_=>false
def obO (n:Nat):Option Blk->Option (List (zdN))
 |some B=>bif ajz B.kd&&(Nat.beq B.sz 1&&(Nat.ble n B.n&&B.nn)) then some (ac4 B.get n) else none
 |none=>none
def KO (Q:(zdQ)->List (Option (List (zdN)))->Prop):Aft:=λr bl _ _=>match r with
 | .ok (.mp m)=>bif Nat.beq m 3 then(match bl 3 with
   |some B=>(match B.kd with
    | .mpL=>bif Nat.beq B.n 0&&(Nat.beq B.sz 0&&B.nn) then Q B.get [obO 2 (bl 1),obO 1 (bl 5),obO 2 (bl 15),obO 1 (bl 17)] else False
    |_=>False)
   |none=>False) else False
 |_=>False
theorem ajA (a:Addr) (Q:(zdQ)->List (Option (List (zdN)))->Prop):aeS a zl 9 111 [] [] (KO Q)=Q (opG (opV 1 5 15 17) 8) [some [[fnL], [fnR]],some [[fnN]],some [[fnL], [fnN]],some [[fnL]]]:=by kernel_rfl
def fnG (x y:SV):zdQ
 |0=> [x]
 |_=> [y]
def fnB (n:Nat) (x y:SV):Blk:={n:=n,sz:=1,get:=fnG x y,kd:= .own}
def ail (V:Nat->SV):Blk:={n:=0,sz:=0,get:=opG V 8,kd:= .mpL}
def rcO (nx:Nat):RC:={X:=Unit,pre:=true,spec:=λ_=>True,out:=λ_=> .mp (nx+4),nw:=λ_=> [fnB 2 fnL fnR,fnB 1 fnN fnN,fnB 2 fnL fnN,fnB 1 fnL fnL,ail (opV nx (nx+1) (nx+2) (nx+3))],ex:=λ_=>⟨(),trivial⟩}
theorem ag8 {k:BK} (h:ajz k=true):k= .own:=by cases k<;>first|rfl|cases h
theorem acN {o:Option Blk} {l:List (zdN)} (h:obO n o=some l): ∃B,o=some B/\B.kd= .own/\B.sz=1/\(n<=B.n/\B.nn=true)/\ac4 B.get n=l:=by
 cases o with
 |none=>cases h
 |some B=>
  cases J:(ajz B.kd&&(Nat.beq B.sz 1&&(Nat.ble n B.n&&B.nn))) with
  |false=>rw[obO,J] at h;cases h
  |true=>
   rw[obO,J,zdu] at h;simp only[za1] at h;simp only[za2] at J;exact⟨B,rfl,ag8 J.1,zab J.2.1,⟨zak J.2.2.1,J.2.2.2⟩,h⟩
abbrev aim:zdW:= [some 1,some 5,some 15,some 17,some 3]
theorem ajB: ∀k,k<8->(opV 1 5 15 17 k).rn (rnG [] aim nx)=some (opV nx (nx+1) (nx+2) (nx+3) k):=λk J=>by
 match k,J with
 |0,_=>rfl
 |1,_=>rfl
 |2,_=>rfl
 |3,_=>rfl
 |4,_=>rfl
 |5,_=>rfl
 |6,_=>rfl
 |7,_=>rfl
theorem adN {g:ze1} {V V':Nat->SV} (e:Nat): ∀k,(∀j,j<k->(V j).rn g=some (V' j))->SV.rns g (opG V k e)=some (opG V' k e)
 |0,_=>rfl
 |k+1,h=>by
  show SV.rns g (bif Nat.beq e k then [opK k,V k] else opG V k e)=some (bif Nat.beq e k then [opK k,V' k] else opG V' k e);cases Nat.beq e k with
  |true=>exact ar rfl (ar (h k (by omega)) rfl)
  |false=>exact adN e k λj J=>h j (by omega)
variable {x y:SV}
theorem aiN {B:Blk} (V:x.rn g=some x) (h1:B.kd= .own) (h2:B.sz=1) (h3:1<=B.n/\B.nn=true) (h4:ac4 B.get 1= [[x]]):kx g B (fnB 1 x y):=by
 have h4: [B.get 0]= [[x]]:=h4;simp only[zca,and_true] at h4;refine .inr ⟨h1.symm,h2.symm,λ_=>h3.2,h3.1,λe J=> ?_⟩;obtain rfl:e=0:=by simp[fnB] at J;omega
 rw[h4];exact ar V rfl
theorem aiO {B:Blk} (V:x.rn g=some x) (Y:y.rn g=some y) (h1:B.kd= .own) (h2:B.sz=1) (h3:2<=B.n/\B.nn=true) (h4:ac4 B.get 2= [[x], [y]]):kx g B (fnB 2 x y):=by
 have h4: [B.get 0,B.get 1]= [[x], [y]]:=h4;simp only[zca,and_true] at h4;refine .inr ⟨h1.symm,h2.symm,λ_=>h3.2,h3.1,λe J=> ?_⟩;rcases(show e=0\/e=1 by simp[fnB] at J;omega) with rfl|rfl
 ·rw[h4.1];exact ar V rfl
 ·rw[h4.2];exact ar Y rfl
theorem ak9 {r:Res} {wl:zdL} (h:KO (λg l=>g=opG (opV 1 5 15 17) 8/\l= [some [[fnL], [fnR]],some [[fnN]],some [[fnL], [fnN]],some [[fnL]]]) r bl n wl):KB (rcO nx) [] [] nx r bl n wl:=by
 unfold KO at h;split at h
 ·rename_i m;cases V:Nat.beq m 3 with
  |false=>rw[V] at h;exact h.elim
  |true=>
   obtain rfl:=zab V;rw[V,zdu] at h;split at h
   ·rename_i B hB;split at h
    ·rename_i hk;cases J:(Nat.beq B.n 0&&(Nat.beq B.sz 0&&B.nn)) with
     |false=>rw[J] at h;exact h.elim
     |true=>
      rw[J,zdu] at h;obtain⟨hg,Y⟩:=h;simp only[za2] at J;simp only[zca,and_true] at Y;obtain⟨l1,l2,l3,l4⟩:=Y;obtain⟨B1,e1,k1,z1,m1,Z⟩:=acN l1;obtain⟨B2,e2,k2,z2,m2,c2⟩:=acN l2;obtain⟨B3,e3,k3,z3,m3,c3⟩:=acN l3;obtain⟨B4,e4,k4,z4,m4,c4⟩:=acN l4;have eb:dt [] aim nx (nx+4)=some (some 3):=jA 4;refine⟨(),trivial,aim,⟨_,rfl, ?_⟩,by decide,⟨⟨zaA _, ?_⟩,⟨zaA _, ?_⟩,⟨zaA _, ?_⟩,⟨zaA _, ?_⟩,⟨zaA _, ?_⟩,trivial⟩,trivial⟩
      ·show SV.rn (dt [] aim nx) (.mp (nx+4))=_;simp only[SV.rn,eb]
      ·rw[e1];exact⟨by simp[fnB],λ_=> .inr ⟨by simp[fnB],by simp[fnB]⟩,aiO rfl rfl k1 z1 m1 Z⟩
      ·rw[e2];exact⟨by simp[fnB],λ_=> .inr ⟨by simp[fnB],by simp[fnB]⟩,aiN rfl k2 z2 m2 c2⟩
      ·rw[e3];exact⟨by simp[fnB],λ_=> .inr ⟨by simp[fnB],by simp[fnB]⟩,aiO rfl rfl k3 z3 m3 c3⟩
      ·rw[e4];exact⟨by simp[fnB],λ_=> .inr ⟨by simp[fnB],by simp[fnB]⟩,aiN rfl k4 z4 m4 c4⟩
      ·rw[hB];refine⟨by simp[ail],λh=>(by cases h), .inr ⟨hk.symm,(zab J.2.1).symm,λ_=>J.2.2,zaA _,λe=> ?_⟩⟩;rw[hg];exact adN e 8 λj hj=>ajB j hj
    ·exact h.elim
   ·exact h.elim
 ·exact h.elim
theorem af6 (h:aeS a ann n f args Cs K) (J: ∀r b n w,K r b n w->K' r b n w):aeS a ann n f args Cs K':=by
 unfold aeS at h ⊢;exact NiceT.mono (Ea _ _ _ _ _ _ f args _ _ _ (λi hi=>zad hi)) h λr b n w _=>J r b n w
def ain:MCtr:=λ_ nx args=>match args with
 | []=>some (rcO nx)
 |_=>none
theorem ag9 (h: ∀Q:(zdQ)->List (Option (List (zdN)))->Prop,Q (opG (opV 1 5 15 17) 8) [some [[fnL], [fnR]],some [[fnN]],some [[fnL], [fnN]],some [[fnL]]]->aeS a zl 9 f [] [] (KO Q)):
 ∀B:Base,GlobEB a B->VU prog B f ain:=λB hB=>c8 (λB' Y=>ak8 (hB.sub Y)) λbl nx args C J hp=>by
 unfold ain at J;split at J
 ·simp only[za1] at J;subst J;have key:aeS a zl 9 f [] [] (KB (rcO nx) [] [] nx):=af6 (h (λg l=>g=opG (opV 1 5 15 17) 8/\l= [some [[fnL], [fnR]],some [[fnN]],some [[fnL], [fnN]],some [[fnL]]]) ⟨rfl,rfl⟩) λr b n wl hq=>ak9 hq;unfold aeS at key;exact⟨[], [], [],zl,9,trivial,bH (λC V=>by cases V),cd (λC V=>by cases V),rfl,key⟩
 ·cases J
theorem aio: ∀B:Base,GlobEB a B->VU prog B 111 ain:=ag9 λQ J=>by rw[ajA];exact J
def af7:ze0:=(111,ain)::ag7
theorem adO:MEk a af7:=afx.cons aio
@[irreducible] def k8 (a:Addr) (ann:zdY) (n:Nat) (f:FuncId) (args:zdN) (Cs:zdX) (K:Aft):Prop:=
 Ay prog (iR yr) (gw g9s) (gx af7) (dF a) ann n f args (λi=>Cs[i]?) Cs.length [] K
theorem aha (hB:GlobEB a B):HypD prog B (iR yr) (gw g9s) (gx af7) (dF a):=
 have h:=ac9 (gm:=af7) adv adO hB
 ⟨h.gam,h.mem,h.dem,λf J=>by
   unfold iR at J;simp only[zaP] at J;obtain⟨g,hg,V⟩:=J
   rw[zab V];exact vT g hg,h.mixed⟩
end Go.Proofs.YtldflkomhbfceaaGreatDoor
namespace Go.Sy
open Go.RowKit
def ab2 (src:zdL) (i:Nat):Option (Option Nat):=match src[i]? with
 |some j=>some (some j)
 |none=>none
variable {src:zdL}
theorem afy {nx:Nat}:rnF (src.map some) [] nx=ab2 src:=by
 funext i
 unfold rnF ab2;rw[zaL];cases src[i]? <;>rfl
theorem adz: ∀{l:zdL},ck (l.map some)=l
 | []=>rfl
 |i::r=>by simp[ck,adz (l:=r)]
def isL:BK->Bool
 | .mpL=>true
 |_=>false
def isO:BK->Bool
 | .own=>true
 |_=>false
variable {k:BK}
theorem afz (h:isL k=true):k= .mpL:=by cases k<;>first|rfl|cases h
theorem alK (h:isO k=true):k= .own:=by cases k<;>first|rfl|cases h
def akF (C B:Blk):Bool:=Nat.beq C.sz B.sz&&((!C.nn||(B.nn||Nat.ble 1 C.n))&&(match C.kd with
 | .gone=>true
 | .old=>pa B.kd&&Nat.ble C.n B.n
 | .own=>isO B.kd&&(Nat.ble 1 C.n&&(Nat.ble 1 C.sz&&Nat.ble C.n B.n))
 | .mpL=>isL B.kd&&Nat.beq C.n 0
 |_=>false))
def af8 (f:ze1) (C:Blk):Nat->List (Option (zdN))
 |0=> []
 |n+1=>af8 f C n++ [SV.rns f (C.get n)]
def af9 (B:Blk):Nat->List (Option (zdN))
 |0=> []
 |n+1=>af9 B n++ [some (B.get n)]
def ahb (bl:zdP):List Nat->List Blk->Bool
 | [], []=>true
 |i::r,C::Cs=>(match bl i with
  |some B=>akF C B
  |none=>false)&&ahb bl r Cs
 |_,_=>false
def aip (bl:zdP):List Nat->List Blk->List (List (Option (zdN)))
 |i::r,C::Cs=>(match bl i with
  |some B=>(match pa C.kd with
   |true=>af9 B C.n
   |false=> [])
  |none=> [])::aip bl r Cs
 |_,_=> []
def aga (f:ze1):List Blk->List (List (Option (zdN)))
 |C::Cs=>(match pa C.kd with
  |true=>af8 f C C.n
  |false=> [])::aga f Cs
 | []=> []
def agb (bl:zdP):List Nat->List Blk->List (Nat->Option (zdN))
 |i::r,C::Cs=>(match isL C.kd with
  |true=>(match bl i with
   |some B=>(λe=>some (B.get e))::agb bl r Cs
   |none=> [])
  |false=>agb bl r Cs)
 |_,_=> []
def acG (f:ze1):List Blk->List (Nat->Option (zdN))
 |C::Cs=>(match isL C.kd with
  |true=>(λe=>SV.rns f (C.get e))::acG f Cs
  |false=>acG f Cs)
 | []=> []
theorem aej {f:ze1} {C:Blk}: ∀{n:Nat},(af8 f C n).length=n
 |0=>rfl
 |n+1=>by rw[af8,za3,aej];rfl
theorem aek {B:Blk}: ∀{n:Nat},(af9 B n).length=n
 |0=>rfl
 |n+1=>by rw[af9,za3,aek];rfl
theorem adP {f:ze1} {C B:Blk}: ∀{n:Nat},af9 B n=af8 f C n-> ∀e,e<n->SV.rns f (C.get e)=some (B.get e)
 |0,_,e,J=>absurd J (zbn e)
 |n+1,h,e,J=>by
  rw[af9,af8] at h;obtain⟨h1,h2⟩:=List.append_inj h (by rw[aek,aej]);simp only[zca,and_true] at h2;rcases zah e n with k|k
  ·exact adP h1 e k
  ·obtain rfl:e=n:=by omega
   exact h2.symm
theorem ael {bl:zdP} {f:ze1}: ∀{src:zdL} {Cs:zdX},ahb bl src Cs=true->aip bl src Cs=aga f Cs->agb bl src Cs=acG f Cs->yw bl f (src.map some) Cs
 | [], [],_,_,_=>trivial
 |i::r,C::Cs,h1,h2,h3=>by
  rw[ahb,za2] at h1;obtain⟨a,b⟩:=h1;rw[aip,aga,zca] at h2;obtain⟨c,h2⟩:=h2;rw[agb,acG] at h3;cases hB:bl i with
  |none=>rw[hB] at a;cases a
  |some B=>
   simp only[hB] at a c h3;have q:agb bl r Cs=acG f Cs/\(C.kd= .mpL-> ∀e,SV.rns f (C.get e)=some (B.get e)):=by
    cases Y:isL C.kd with
    |true=>
     simp only[Y,zca] at h3;exact⟨h3.2,λ_ e=>(congrFun h3.1 e).symm⟩
    |false=>
     simp only[Y] at h3;exact⟨h3,λV=>by rw[V] at Y;cases Y⟩
   refine aw ?_ (ael b h2 q.1);show match bl i with
    |some B=>wB f C B
    |none=>False
   rw[hB];simp only[akF,za2] at a;obtain⟨a1,Z,J⟩:=a;refine⟨zab a1,λhn=> ?_, ?_⟩
   ·rw[hn] at Z;simp only[zbh,zbi,zav] at Z;exact Z.imp id zak
   ·cases V:C.kd with
    |gone=>trivial
    |old=>
     simp only[V,za2,pa] at J c;obtain⟨k1,k2⟩:=J;refine⟨λe=>(by rw[e] at k1;cases k1),(by cases hq:B.kd<;>rw[hq] at k1<;>first|rfl|cases k1),zak k2,adP c⟩
    |own=>
     simp only[V,za2,pa] at J c;obtain⟨k1,k2,k3,k4⟩:=J;exact⟨alK k1,zak k2,zak k3,zak k4,adP c⟩
    |mpL=>
     simp only[V,za2] at J;exact⟨afz J.1,zab J.2,q.2 V⟩
    |_=>simp[V] at J
 | [],_::_,h,_,_=>by cases h
 |_::_, [],h,_,_=>by cases h
abbrev ahc:=SV×List Blk×List (Nat×Blk)
def rcL (b:Bool) (r:ahc):RC:={X:=Unit,pre:=b,spec:=λ_=>True,out:=λ_=>r.1,nw:=λ_=>r.2.1,ch:=λ_=>r.2.2,ex:=λ_=>⟨(),trivial⟩}
def agc (p:Prop):Bool:= @decide p (Classical.propDecidable p)
theorem ac5 {p:Prop}:agc p=true↔p:=by unfold agc;exact @decide_eq_true_iff p (Classical.propDecidable p)
def aeT (bl:zdP) (src:zdL) (Cs:zdX):Bool:=agc (aip bl src Cs=aga (ab2 src) Cs)&&agc (agb bl src Cs=acG (ab2 src) Cs)
def aiq (src:zdL) (Cs:zdX) (args':List SV->Bool) (R:Nat->ahc):MCtr:=λbl nx args=>
 bif args' args&&ahb bl src Cs then some (rcL (aeT bl src Cs) (R nx)) else none
variable {P:Program}
theorem afA {W0:Base} {F:FuncId} {ok:FuncId->Bool} {Γ:zdR} {Γm:FuncId->Option MCtr} {Δ:FuncId->Option DCtr} {Cs:zdX} {args':List SV->Bool} {R:Nat->ahc} {args0:zdN} {ann:zdY} {n:Nat}
 (H: ∀B:Base,SubB B W0->HypD P B ok Γ Γm Δ) (Z: ∀args,args' args=true->SV.rns (ab2 src) args0=some args) (hu:src.Nodup) (hf:Far (src.map some) Cs)
 (Y: ∀b nx,Ay P ok Γ Γm Δ ann n F args0 (λi=>Cs[i]?) Cs.length [] (KB (rcL b (R nx)) (src.map some) Cs nx)):VU P W0 F (aiq src Cs args' R):=
 c8 H λbl nx args C J hp=>by
  unfold aiq at J;cases V:(args' args&&ahb bl src Cs) with
  |false=>rw[V] at J;cases J
  |true=>
   rw[V,zdu] at J;simp only[za1] at J;subst J;rw[za2] at V;have hp:aeT bl src Cs=true:=hp;simp only[aeT,za2,ac5] at hp;exact⟨src.map some,Cs,args0,ann,n,by rw[afy];exact ael V.2 hp.1 hp.2,aeB (by rw[adz];exact hu),hf,by rw[afy];exact Z args V.1,Y _ nx⟩
def orM (k l:MCtr):MCtr:=λbl nx args=>match k bl nx args with
 |some C=>some C
 |none=>l bl nx args
theorem aeU {B:Base} {f:FuncId} {k l:MCtr} (Y:VU P B f k) (Z:VU P B f l):VU P B f (orM k l):=by
 intro bl β w nx args C a b c d e p;unfold orM at e;split at e
 ·rename_i J V;obtain rfl:J=C:=by simpa using e
  exact Y bl β w nx args _ a b c d V p
 ·exact Z bl β w nx args _ a b c d e p
def adQ:List Nat->List Blk->List (Nat×Blk)
 |i::r,C::Cs=>(i,{C with kd:= .gone})::adQ r Cs
 |_,_=> []
theorem aem {bl:zdP} {g:ze1}: ∀{t:zdL} {tb:zdX} {j:Nat},t.length=tb.length->(∀C∈tb,C.kd= .own)->(∀k,k<tb.length->(bl (j+k)).isSome=true)->chR bl g (t.map some) tb j (adQ t tb)
 | [], [],_,_,_,_=>trivial
 |i::r,C::Cs,j,J,Z,Y=>by
  have V:=Z C (zbF ..);have h0:=Y 0 (by simp);rw[zaY] at h0;obtain⟨B,hB⟩:=Option.isSome_iff_exists.1 h0;simp only[zaK,adQ,chR,V,cN];refine⟨trivial, .inl trivial, ?_,aem (by simpa using J) (λD hD=>Z D (zan _ hD)) λk V=> ?_⟩
  ·rw[hB];exact .inl rfl
  ·have:=Y (k+1) (by simpa using V);rwa[show j+(k+1)=j+1+k by omega] at this
 | [],_::_,_,J,_,_=>by simp at J
 |_::_, [],_,J,_,_=>by simp at J
end Go.Sy
namespace Go.Proofs.YtldflkomhbfceaaGreatDoor
open Go.Proofs.Tryz
open Go Go.RowKit Go.Sy Yk
def adb:SV:= .val (.slice none 0 0)
def cP9 (iI iN:SV) (o:Un) (ic:Nat):zdN:= .val (.int .i64 1)::iI::iN::(ci o++ [.ptr ic 0 0])
def adc (n:Nat) (cs:zdN):Blk:={n:=1,sz:=n,get:=λ_=>cs,kd:= .own}
def fnO (n:Nat) (x y:SV):Blk:={n:=n,sz:=1,get:=fnG x y,kd:= .old}
def np (iN iU:SV):zdX:= [adc 24 (cP9 (.slc 7 0 2) iN noU 1),adc 3 [.mp 2, .slc 7 0 2,iU],ail (opV 3 4 5 6),fnO 2 fnL fnR,fnO 1 fnN fnN,fnO 2 fnL fnN,fnO 1 fnL fnL,eU.old [u0,u2]]
def ajC (n sz:Nat):Blk:={n:=n,sz:=sz,get:=λ_=> [],kd:= .gone,nn:=false}
def CsE (k:Nat) (us:ze2):zdX:= [adc 24 (cP9 (.slc 3 0 2) (.slc 5 0 k) noU 1),{adc 3 [.mp 2, .slc 3 0 2, .slc 4 0 k] with kd:= .old},ajC 0 0,ajC 2 20,eU.old us,ajC k 26]
def alm (g:zdQ):Nat->List (zdN)
 |0=> []
 |n+1=>alm g n++ [g n]
def air (bl:zdP):zdT
 |0=>true
 |n+1=>(bl n).isSome&&air bl n
abbrev ade:=(FuncId×Int×List SV×Nat×List (zdN)×List (zdN))×(zdQ)
def okN (L:Nat) (bl:zdP) (P C M U N:Blk) (p n p' n' q m m' i j:Nat):Bool:=
 (isO P.kd&&(Nat.beq P.n 1&&(Nat.beq P.sz 24&&P.nn)))&&((isO C.kd&&(Nat.beq C.n 1&&(Nat.beq C.sz 3&&C.nn)))&&((isL M.kd&&(Nat.beq M.n 0&&(Nat.beq M.sz 0&&M.nn)))&&
 ((isO U.kd&&(Nat.beq U.sz 20&&Nat.ble m U.n))&&((isO N.kd&&(Nat.beq N.sz 26&&Nat.ble m N.n))&&((!Nat.beq i j&&(Nat.ble L i&&Nat.ble L j))&&
 ((Nat.beq p 7&&(Nat.beq n 2&&(Nat.beq p' 7&&(Nat.beq n' 2&&(Nat.beq q 2&&Nat.beq m m')))))&&air bl L))))))
def ajD (L:Nat) (bl:zdP):SV->Option ade
 | .fn (.func F) [] []=>match bl 0,bl 1,bl 2 with
   |some P,some C,some M=>match P.get 0,C.get 0 with
    | .val (.int .i64 id):: .slc p 0 n:: .slc j 0 m::r, [.mp q, .slc p' 0 n', .slc i 0 m']=>match bl i,bl j with
      |some U,some N=>bif okN L bl P C M U N p n p' n' q m m' i j then some ((F,id,r,m,alm U.get m,alm N.get m),M.get) else none
      |_,_=>none
    |_,_=>none
   |_,_,_=>none
 |_=>none
def KN (L:Nat) (Q:Option ade->Prop):Aft:=λr bl _ _=>match r with
 | .ok s=>Q (ajD L bl s)
 | .pan _=>False
theorem afB {bl:zdP}: ∀{n k:Nat},air bl n=true->k<n->(bl k).isSome=true
 |n+1,k,h,J=>by
  rw[air,za2] at h;rcases zah k n with q|q
  ·exact afB h.2 q
  ·obtain rfl:k=n:=by omega
   exact h.1
variable {bl:zdP} {s:SV} {F:FuncId} {id:Int} {m:Nat} {cu cn:List (zdN)}
theorem ahd {L:Nat} {r:zdN} {G:zdQ} (h:ajD L bl s=some ((F,id,r,m,cu,cn),G)):
 ∃(i j:Nat) (P C M U N:Blk),s= .fn (.func F) [] []/\bl 0=some P/\bl 1=some C/\bl 2=some M/\bl i=some U/\bl j=some N/\P.get 0= .val (.int .i64 id):: .slc 7 0 2:: .slc j 0 m::r/\C.get 0= [.mp 2, .slc 7 0 2, .slc i 0 m]/\M.get=G/\
  (P.kd= .own/\P.n=1/\P.sz=24/\P.nn=true)/\(C.kd= .own/\C.n=1/\C.sz=3/\C.nn=true)/\(M.kd= .mpL/\M.n=0/\M.sz=0/\M.nn=true)/\(U.kd= .own/\U.sz=20/\m<=U.n)/\(N.kd= .own/\N.sz=26/\m<=N.n)/\i≠j/\L<=i/\L<=j/\(∀k,k<L->(bl k).isSome=true)/\alm U.get m=cu/\alm N.get m=cn:=by
 unfold ajD at h;split at h
 ·split at h
  ·rename_i P C M hP hC hM;split at h
   ·rename_i q1 q2;split at h
    ·rename_i U N hU hN;cases J:okN L bl P C M U N _ _ _ _ _ _ _ _ _ with
     |false=>rw[J] at h;cases h
     |true=>
      rw[J,zdu] at h;simp only[za1,zag] at h;obtain⟨⟨rfl,rfl,rfl,rfl,rfl,rfl⟩,rfl⟩:=h;simp only[okN,za2,zap] at J;obtain⟨⟨Y,Z,a3,a4⟩,⟨b1,b2,b3,b4⟩,⟨c1,c2,c3,c4⟩,⟨d1,d2,d3⟩,⟨e1,e2,e3⟩,⟨f1,f2,f3⟩,⟨g1,g2,g3,g4,g5,g6⟩,k⟩:=J;obtain rfl:=zab g1;obtain rfl:=zab g2;obtain rfl:=zab g3;obtain rfl:=zab g4;obtain rfl:=zab g5;obtain rfl:=zab g6;refine⟨_,_,P,C,M,U,N,rfl,hP,hC,hM,hU,hN,q1,q2,rfl,⟨alK Y,zab Z,zab a3,a4⟩,⟨alK b1,zab b2,zab b3,b4⟩,⟨afz c1,zab c2,zab c3,c4⟩,⟨alK d1,zab d2,zak d3⟩,⟨alK e1,zab e2,zak e3⟩, ?_,zak f2,zak f3,λk' V=>afB k V,rfl,rfl⟩;intro e;subst e;rw[Nat.beq_refl] at f1;cases f1
    ·cases h
   ·cases h
  ·cases h
 ·cases h
variable {a:Addr} {ann:zdY} {n:Nat} {f:FuncId} {args:zdN} {Cs:zdX} {K K':Aft}
theorem ab3 (h:k8 a ann n f args Cs K) (J: ∀r b n w,K r b n w->K' r b n w):k8 a ann n f args Cs K':=by
 unfold k8 at h ⊢;exact NiceT.mono (Ea _ _ _ _ _ _ f args _ _ _ (λi hi=>zad hi)) h λr b n w _=>J r b n w
structure I9 where
 p:Nat
 c:Nat
 m:Nat
 f1:Nat
 f2:Nat
 f3:Nat
 f4:Nat
 i:Nat
def I9.src (x:I9) (t:zdL):zdL:=x.p::x.c::x.m::x.f1::x.f2::x.f3::x.f4::x.i::t
def akG (x:I9) (t:zdL) (tb:zdX) (us:ze2) (ns:ze3) (k:Nat) (nx:Nat):ahc:=
 (.fn (.func 192) [] [], [eU.own us,eN.own ns],(x.p,adc 24 (cP9 (.slc x.i 0 2) (.slc (nx+1) 0 k) noU x.c))::(x.c,adc 3 [.mp x.m, .slc x.i 0 2, .slc nx 0 k])::(x.m,ail (opV x.f1 x.f2 x.f3 x.f4))::adQ t tb)
theorem adA {α:Type} {E:El α} {g:zdQ} {l:List α} (h:alm g l.length=l.map E.sv): ∀e,e<l.length->g e=E.get l e:=by
 have: ∀n,alm g n=(List.range n).map g:=by
  intro n
  induction n with
  |zero=>rfl
  |succ n V=>rw[alm,V,zd5,zb8];rfl
 rw[this] at h;intro e J;have h1:=congrArg (λl=>l[e]?) h;simp only[zaL,List.getElem?_range J,zb0] at h1;rw[Co (d:=E.d) J] at h1;simp only[zb0,za1] at h1;exact h1
variable {x:I9}
theorem afC {g:ze1} (h3:g 3=some (some x.f1)) (h4:g 4=some (some x.f2)) (h5:g 5=some (some x.f3)) (h6:g 6=some (some x.f4)): ∀k,k<8->(opV 3 4 5 6 k).rn g=some (opV x.f1 x.f2 x.f3 x.f4 k):=λk J=>by
 match k,J with
 |0,_=>rfl
 |1,_=>simp only[opV,SV.rn,SV.rns,h4]
 |2,_=>simp only[opV,SV.rn,SV.rns,h3]
 |3,_=>simp only[opV,SV.rn,SV.rns,h3]
 |4,_=>simp only[opV,SV.rn,SV.rns,h3]
 |5,_=>simp only[opV,SV.rn,SV.rns,h3]
 |6,_=>simp only[opV,SV.rn,SV.rns,h5]
 |7,_=>simp only[opV,SV.rn,SV.rns,h6]
def obk (k:Nat) (us:ze2) (ns:ze3):ade:=((192,1,ci noU++ [.ptr 1 0 0],k,us.map ci,ns.map svN),opG (opV 3 4 5 6) 8)
variable {t wl:zdL} {tb:zdX} {us:ze2} {ns:ze3} {k nx:Nat} {iN iU:SV} {b:Bool} {r:Res}
theorem kbN (hl:t.length=tb.length) (ho: ∀C∈tb,C.kd= .own) (hu:us.length=k) (hn:ns.length=k) (Z:1<=k)
 (h:KN (8+tb.length) (λq=>q=some (obk k us ns)) r bl n wl):KB (rcL b (akG x t tb us ns k nx)) ((x.src t).map some) (np iN iU++tb) nx r bl n wl:=by
 cases r with
 |pan v=>exact h.elim
 |ok s=>
  obtain⟨i,j,P,C,M,U,N,rfl,hP,hC,hM,hU,hN,p1,c1,m1,⟨p2,p3,p4,p5⟩,⟨c2,c3,c4,c5⟩,⟨m2,m3,m4,m5⟩,⟨u1,u2',u3⟩,⟨n1,n2,n3⟩,Y,li,lj,ha,cu,cn⟩:=ahd h;have hsl:((x.src t).map some).length=8+tb.length:=by simp[I9.src,hl];omega
  have gi: ∀q,8+tb.length<=q->rnG ((x.src t).map some) [some i,some j] nx q=match D9 [some i,some j] q nx with
   |some j=>some (some j)
   |none=>none:=λq hq=>by
   unfold rnG;rw[zad (by omega)];rfl
  have g1:rnG ((x.src t).map some) [some i,some j] nx i=some (some nx):=by
   rw[gi i li];simp[D9]
  have g2:rnG ((x.src t).map some) [some i,some j] nx j=some (some (nx+1)):=by
   rw[gi j lj,D9,D9,show Nat.beq i j=false from by rw[bS];exact zdv Y,zdt,show Nat.beq j j=true from by rw[bS];exact zds rfl];rfl
  have J:(np iN iU++tb).length=8+tb.length:=by simp[np];omega
  subst hu;refine⟨(),trivial, [some i,some j],⟨_,rfl,rfl⟩,by simp[ck,Y],⟨⟨by rw[J];exact li, ?_⟩,⟨by rw[J];exact lj, ?_⟩,trivial⟩, ?_⟩
  ·rw[hU];refine⟨by simp[El.own],λ_=> .inr ⟨Z,eU.one⟩,gC u1 u2' u3 λe V=>adA (E:=eU) cu e V⟩
  ·rw[hN];refine⟨by simp[El.own],λ_=> .inr ⟨by simpa [El.own,hn] using Z,eN.one⟩,gC n1 n2 (by rw[hn];exact n3) λe V=>adA (E:=eN) (by rw[hn];exact cn) e V⟩
  ·have e7:rnG ((x.src t).map some) [some i,some j] nx 7=some (some x.i):=rfl;have eP:SV.rns (rnG ((x.src t).map some) [some i,some j] nx) (P.get 0)=some (cP9 (.slc x.i 0 2) (.slc (nx+1) 0 us.length) noU x.c):=by
    rw[p1];refine ar rfl (ar (by simp only[SV.rn,e7]) (ar (by simp only[SV.rn,g2]) ?_));rfl
   have eC:SV.rns (rnG ((x.src t).map some) [some i,some j] nx) (C.get 0)=some [.mp x.m, .slc x.i 0 2, .slc nx 0 us.length]:=by
    rw[c1];exact ar rfl (ar (by simp only[SV.rn,e7]) (ar (by simp only[SV.rn,g1]) rfl))
   have hg:=aem (bl:=bl) (g:=rnG ((x.src t).map some) [some i,some j] nx) (j:=8) hl ho λk Z=>ha (8+k) (by omega);refine⟨rfl, .inl rfl, ?_,rfl, .inl rfl, ?_,rfl, .inr (λe=>by cases e), ?_,hg⟩
   ·rw[hP];refine .inr ⟨p2.symm,p4.symm,λ_=>p5,by rw[p3];exact za0 _,λe V=> ?_⟩;obtain rfl:e=0:=by simp[adc] at V;omega
    exact eP
   ·rw[hC];refine .inr ⟨c2.symm,c4.symm,λ_=>c5,by rw[c3];exact za0 _,λe V=> ?_⟩;obtain rfl:e=0:=by simp[adc] at V;omega
    exact eC
   ·rw[hM];refine .inr ⟨m2.symm,m4.symm,λ_=>m5,by rw[m3];exact za0 _,λe=> ?_⟩;rw[m1];exact adN e 8 (afC rfl rfl rfl rfl)
def ais (p:Nat) (T:zdK):List SV->Bool
 | [.ptr i 0 0, .val (.string s)]=>Nat.beq i p&&seq T s
 |_=>false
variable {src:zdL} {T:zdK}
theorem afD {x:Nat} (h:ais x T args=true):SV.rns (ab2 (x::src)) [.ptr 0 0 0, .val (.string T)]=some args:=by
 unfold ais at h;split at h
 ·rw[za2] at h;obtain rfl:=zab h.1;obtain rfl:=We.1 h.2;rfl
 ·cases h
theorem akH (h: ∀C∈tb,C.kd= .own) (src:zdW):Far src (np iN iU++tb):= .inr λj C i J _ V=>by
 match j,J with
 |0,J=>obtain rfl:=zbk J;cases V
 |1,J=>obtain rfl:=zbk J;cases V
 |2,J=>obtain rfl:=zbk J;cases V
 |3,J=>obtain rfl:=zbk J;exact⟨by decide,by decide⟩
 |4,J=>obtain rfl:=zbk J;exact⟨by decide,by decide⟩
 |5,J=>obtain rfl:=zbk J;exact⟨by decide,by decide⟩
 |6,J=>obtain rfl:=zbk J;exact⟨by decide,by decide⟩
 |7,J=>obtain rfl:=zbk J;exact⟨by decide,by decide⟩
 |q+8,J=>
  have J:tb[q]? =some C:=J;rw[h C (zal J)] at V;cases V
def kN9 (x:I9) (t:zdL) (tb:zdX) (iN iU:SV) (T:zdK) (us:ze2) (ns:ze3) (k:Nat):MCtr:=aiq (x.src t) (np iN iU++tb) (ais x.p T) (akG x t tb us ns k)
theorem aeV (V:(x.src t).Nodup) (Z:t.length=tb.length) (J: ∀C∈tb,C.kd= .own) (hu:us.length=k) (hn:ns.length=k) (Y:1<=k)
 (h: ∀Q:Option ade->Prop,Q (some (obk k us ns))->k8 a ann 9 F [.ptr 0 0 0, .val (.string T)] (np iN iU++tb) (KN (8+tb.length) Q)):
 ∀B:Base,GlobEB a B->VU prog B F (kN9 x t tb iN iU T us ns k):=λB hB=>
 afA (ann:=ann) (n:=9) (λB' hs=>aha (hB.sub hs)) (λargs h=>afD h) V (akH J _) λb nx=>by
  have:=ab3 (h (λq=>q=some (obk k us ns)) rfl) λr b' n wl hq=>kbN (x:=x) (t:=t) (b:=b) (nx:=nx) (iN:=iN) (iU:=iU) Z J hu hn Y hq;unfold k8 at this;exact this
abbrev tb1:zdX:= [eU.own [u0],eN.own [nI9 0]]
abbrev tb2:zdX:= [eU.own [u0,u2],eN.own [nI9 0,nI9 1]]
theorem akI (a:Addr) (I:ByteArray->WdX->Prop) (Q:Option ade->Prop):k8 a (alF I) 9 192 [.ptr 0 0 0, .val (.string aeO)] (np adb adb++ []) (KN 8 Q)=
 adL (I ti9) (opV 3 4 5 6) (mT9 0 aeO ti9 t09 20 28) ti9 2 (uK (uK (uK (Q (some (obk 1 [u0] [nI9 0])))))):=by kernel_rfl
theorem akJ (a:Addr) (I:ByteArray->WdX->Prop) (Q:Option ade->Prop):k8 a (alF I) 9 192 [.ptr 0 0 0, .val (.string aeP)] (np (.slc 9 0 1) (.slc 8 0 1)++tb1) (KN 10 Q)=
 adL (I ti9) (opV 3 4 5 6) (mT9 0 aeP ti9 t19 22 30) ti9 2 (uK (uK (uK (Q (some (obk 2 [u0,u2] [nI9 0,nI9 1])))))):=by kernel_rfl
theorem akK (a:Addr) (I:ByteArray->WdX->Prop) (Q:Option ade->Prop):k8 a (alF I) 9 192 [.ptr 0 0 0, .val (.string aeQ)] (np (.slc 9 0 2) (.slc 8 0 2)++tb2) (KN 10 Q)=
 adL (I td9) (opV 3 4 5 6) (mT9 0 aeQ td9 ak7 22 30) td9 6 (uK (uK (uK (uK (Q (some (obk 3 [u0,u2,uo] [nI9 0,nI9 1,nD9]))))))):=by kernel_rfl
def ajF (bl:zdP):SV->Option (FuncId×List SV)
 | .fn (.func F) [] []=>match bl 0 with
   |some P=>bif isO P.kd&&(Nat.beq P.n 1&&(Nat.beq P.sz 24&&P.nn)) then some (F,P.get 0) else none
   |none=>none
 |_=>none
def KE (Q:Option (FuncId×List SV)->Prop):Aft:=λr bl _ _=>match r with
 | .ok s=>Q (ajF bl s)
 | .pan _=>False
theorem akL (a:Addr) (I:ByteArray->WdX->Prop) (Q:Option (FuncId×List SV)->Prop):k8 a (alF I) 9 192 [.ptr 0 0 0, .val (.string ajE)] (CsE 3 [u0,u2,uo]) (KE Q)=
 uK (Q (some (254,cP9 (.slc 3 0 2) (.slc 5 0 3) uo 1))):=by kernel_rfl
def akM (p c i n k:Nat):ahc:=(.fn (.func 254) [] [], [], [(p,adc 24 (cP9 (.slc i 0 2) (.slc n 0 k) uo c))])
theorem ahe {cs:zdN} (h:ajF bl s=some (F,cs)): ∃P,s= .fn (.func F) [] []/\bl 0=some P/\P.get 0=cs/\P.kd= .own/\P.n=1/\P.sz=24/\P.nn=true:=by
 unfold ajF at h;split at h
 ·split at h
  ·rename_i P hP;cases J:(isO P.kd&&(Nat.beq P.n 1&&(Nat.beq P.sz 24&&P.nn))) with
   |false=>rw[J] at h;cases h
   |true=>
    rw[J,zdu] at h;simp only[za1,zag] at h;obtain⟨rfl,rfl⟩:=h;simp only[za2] at J;obtain⟨V,Y,Z,a4⟩:=J;exact⟨P,rfl,hP,rfl,alK V,zab Y,zab Z,a4⟩
  ·cases h
 ·cases h
variable {c i:Nat}
theorem ala {p u:Nat} {q:Nat} 
 (h:KE (λq=>q=some (254,cP9 (.slc 3 0 2) (.slc 5 0 k) uo 1)) r bl q wl):KB (rcL b (akM p c i n k)) ([p,c,m,i,u,n].map some) (CsE k us) nx r bl q wl:=by
 cases r with
 |pan v=>exact h.elim
 |ok s=>
  obtain⟨P,rfl,J,Y,Z,p3,p4,p5⟩:=ahe h;refine⟨(),trivial, [],⟨_,rfl,rfl⟩,zcB,trivial,rfl, .inl rfl, ?_,trivial⟩;rw[J];refine .inr ⟨Z.symm,p4.symm,λ_=>p5,by rw[p3];exact za0 _,λe V=> ?_⟩;obtain rfl:e=0:=by simp[adc] at V;omega
  rw[Y];rfl
def kE9 (p c m i u n k:Nat) (us:ze2) (T:zdK):MCtr:=aiq [p,c,m,i,u,n] (CsE k us) (ais p T) (λ_=>akM p c i n k)
theorem ajG {p u:Nat} (V: [p,c,m,i,u,n].Nodup)
 (h: ∀Q:Option (FuncId×List SV)->Prop,Q (some (254,cP9 (.slc 3 0 2) (.slc 5 0 k) uo 1))->k8 a ann 9 F [.ptr 0 0 0, .val (.string T)] (CsE k us) (KE Q)):
 ∀B:Base,GlobEB a B->VU prog B F (kE9 p c m i u n k us T):=λB hB=>
 afA (ann:=ann) (n:=9) (λB' Y=>aha (hB.sub Y)) (λargs h=>afD h) V (.inl λC J=>by
  simp only[CsE,zai,zbx,or_false] at J
  rcases J with rfl|rfl|rfl|rfl|rfl|rfl<;>rfl) λb nx=>by
  have:=ab3 (h (λq=>q=some (254,cP9 (.slc 3 0 2) (.slc 5 0 k) uo 1)) rfl) λr Z n' wl hq=>ala (k:=k) (nx:=nx) (m:=m) (u:=u) (n:=n) (p:=p) (c:=c) (i:=i) (us:=us) (b:=b) hq;unfold k8 at this;exact this
def xI9:I9:=⟨4,403,400,396,397,398,399,311⟩
def ahf:MCtr:=
 orM (kN9 xI9 [] [] adb adb aeO [u0] [nI9 0] 1) (orM (kN9 xI9 [410,411] tb1 (.slc 9 0 1) (.slc 8 0 1) aeP [u0,u2] [nI9 0,nI9 1] 2)
  (orM (kN9 xI9 [448,449] tb2 (.slc 9 0 2) (.slc 8 0 2) aeQ [u0,u2,uo] [nI9 0,nI9 1,nD9] 3) (kE9 4 403 400 311 485 486 3 [u0,u2,uo] ajE)))
theorem afE: ∀C∈tb1,C.kd= .own:=λC J=>by
 rcases zai.1 J with rfl|J
 ·rfl
 ·rw[zaj.1 J];rfl
theorem afF: ∀C∈tb2,C.kd= .own:=λC J=>by
 rcases zai.1 J with rfl|J
 ·rfl
 ·rw[zaj.1 J];rfl
theorem agd: ∀B:Base,GlobEB a B->VU prog B 192 ahf:=λB hB=>by
 have h1: ∀Q:Option ade->Prop,Q (some (obk 1 [u0] [nI9 0]))->k8 a (alF aeM) 9 192 [.ptr 0 0 0, .val (.string aeO)] (np adb adb++ []) (KN (8+0) Q):=λQ J=>by
  rw[akI];exact acn aeN rfl λ_ _ _ _ _ _=>J
 have h2: ∀Q:Option ade->Prop,Q (some (obk 2 [u0,u2] [nI9 0,nI9 1]))->k8 a (alF aeM) 9 192 [.ptr 0 0 0, .val (.string aeP)] (np (.slc 9 0 1) (.slc 8 0 1)++tb1) (KN (8+2) Q):=λQ J=>by
  rw[akJ];exact acn aeN rfl λ_ _ _ _ _ _=>J
 have h3: ∀Q:Option ade->Prop,Q (some (obk 3 [u0,u2,uo] [nI9 0,nI9 1,nD9]))->k8 a (alF aeM) 9 192 [.ptr 0 0 0, .val (.string aeQ)] (np (.slc 9 0 2) (.slc 8 0 2)++tb2) (KN (8+2) Q):=λQ J=>by
  rw[akK];exact acn aeN rfl λ_ _ _ _ _ _ _ _=>J
 have h4: ∀Q:Option (FuncId×List SV)->Prop,Q (some (254,cP9 (.slc 3 0 2) (.slc 5 0 3) uo 1))->k8 a (alF aeM) 9 192 [.ptr 0 0 0, .val (.string ajE)] (CsE 3 [u0,u2,uo]) (KE Q):=λQ J=>by
  rw[akL];exact λ_ _=>J
 exact aeU (aeV (x:=xI9) (t:= []) (tb:= []) (us:= [u0]) (ns:= [nI9 0]) (k:=1) (iN:=adb) (iU:=adb) (T:=aeO) (by decide) rfl (λC V=>by cases V) rfl rfl (by decide) h1 B hB)
  (aeU (aeV (x:=xI9) (t:= [410,411]) (tb:=tb1) (us:= [u0,u2]) (ns:= [nI9 0,nI9 1]) (k:=2) (iN:= .slc 9 0 1) (iU:= .slc 8 0 1) (T:=aeP) (by decide) rfl afE rfl rfl (by decide) h2 B hB)
  (aeU (aeV (x:=xI9) (t:= [448,449]) (tb:=tb2) (us:= [u0,u2,uo]) (ns:= [nI9 0,nI9 1,nD9]) (k:=3) (iN:= .slc 9 0 2) (iU:= .slc 8 0 2) (T:=aeQ) (by decide) rfl afF rfl rfl (by decide) h3 B hB) (ajG (by decide) h4 B hB)))
def ait:ze0:=(192,ahf)::af7
theorem aiu:MEk a ait:=adO.cons agd
@[irreducible] def acf (a:Addr) (ann:zdY) (n:Nat) (f:FuncId) (args:zdN) (Cs:zdX) (K:Aft):Prop:=
 Ay prog (iR yr) (gw g9s) (gx ait) (dF a) ann n f args (λi=>Cs[i]?) Cs.length [] K
variable {B:Base}
theorem akN (hB:GlobEB a B):HypD prog B (iR yr) (gw g9s) (gx ait) (dF a):=
 have h:=ac9 (gm:=ait) adv aiu hB
 ⟨h.gam,h.mem,h.dem,λf J=>by
   unfold iR at J;simp only[zaP] at J;obtain⟨g,hg,V⟩:=J
   rw[zab V];exact vT g hg,h.mixed⟩
theorem aeW (h:acf a ann n f args Cs K) (J: ∀r b n w,K r b n w->K' r b n w):acf a ann n f args Cs K':=by
 unfold acf at h ⊢;exact NiceT.mono (Ea _ _ _ _ _ _ f args _ _ _ (λi hi=>zad hi)) h λr b n w _=>J r b n w
abbrev aen:=Int×Nat×Nat×Int×Int×List (zdN)×List (zdN)×List SV
def ahg:BK->Bool
 | .own=>true
 |_=>false
def ajH (bl:zdP):SV->Option aen
 | .tup [.agg (.val (.int .i64 id):: .slc i 0 n:: .slc j 0 m::r), .val (.int .i64 z), .val (.int .i64 e)]=>match bl i,bl j with
   |some B,some C=>bif ahg B.kd&&(ahg C.kd&&(Nat.beq B.sz 20&&(Nat.beq C.sz 26&&(Nat.ble n B.n&&(Nat.ble m C.n&& !Nat.beq i j))))) then some (id,n,m,z,e,alm B.get n,alm C.get m,r) else none
   |_,_=>none
 |_=>none
def K9 (Q:Option aen->Prop):Aft:=λr bl _ _=>match r with
 | .ok s=>Q (ajH bl s)
 | .pan _=>False
def aiv:aen:=(1,2,3,0,0, [ci u0,ci u2], [svN (nI9 0),svN (nI9 1),svN nD9],ci uo)
def akO (src:zdL) (Cs:zdX) (G:List (Nat->Option (zdN))):Bool:=agc (aga (ab2 src) Cs=aga (ab2 src) Cs)&&agc (G=acG (ab2 src) Cs)
def age:List (Nat->Option (zdN)):= [λe=>some (opG (opV 396 397 398 399) 8 e)]
def nd9 (src:zdL) (Cs:zdX) (G:List (Nat->Option (zdN))) (K:Prop):Prop:=af (akO src Cs G) (uK K)
def afG (Q:Option aen->Prop):Prop:=
 uK (uK (uK (uK (uK (nd9 (xI9.src []) (np adb adb++ []) age (nd9 (xI9.src [410,411]) (np (.slc 9 0 1) (.slc 8 0 1)++tb1) age (nd9 (xI9.src [448,449]) (np (.slc 9 0 2) (.slc 8 0 2)++tb2) age (
  nd9 [4,403,400,311,485,486] (CsE 3 [u0,u2,uo]) [] (Q (some aiv))))))))))
theorem agf (a:Addr) (Q:Option aen->Prop):acf a zl 9 17 [.val (.string spT)] [] (K9 Q)=afG Q:=by kernel_rfl
theorem adR (h: ∀C∈tb,C.kd= .own):age=acG (ab2 (xI9.src t)) (np iN iU++tb):=by
 have e:acG (ab2 (xI9.src t)) tb= []:=by
  generalize ab2 (xI9.src t)=f
  induction tb with
  |nil=>rfl
  |cons C r V=>
   rw[acG,h C (zbF ..)];exact V λD J=>h D (zan _ J)
 show age=(λe=>SV.rns (ab2 (xI9.src t)) (opG (opV 3 4 5 6) 8 e))::acG (ab2 (xI9.src t)) tb;rw[e];unfold age
 congr 1
 funext e
 exact(adN e 8 (afC (x:=xI9) rfl rfl rfl rfl)).symm
theorem adS {G:List (Nat->Option (zdN))} {K:Prop} (h:G=acG (ab2 src) Cs) (k:K):nd9 src Cs G K:=by
 unfold nd9 akO uK;refine ac ?_ λ_ _=>k;rw[za2];exact⟨ac5.2 rfl,ac5.2 h⟩
theorem aeX {Q:Option aen->Prop} (V:Q (some aiv)):acf a zl 9 17 [.val (.string spT)] [] (K9 Q):=by
 rw[agf];unfold afG;exact λ_ _ _ _ _ _ _ _ _ _=>adS (adR λC J=>by cases J) (adS (adR afE) (adS (adR afF) (adS rfl V)))
theorem aeo {k:BK} (h:ahg k=true):k= .own:=by cases k<;>first|rfl|cases h
theorem ahh {z e:Int} {r:zdN} (h:ajH bl s=some (id,n,m,z,e,cu,cn,r)):
 ∃(i j:Nat) (B C:Blk),s= .tup [.agg (.val (.int .i64 id):: .slc i 0 n:: .slc j 0 m::r), .val (.int .i64 z), .val (.int .i64 e)]/\bl i=some B/\bl j=some C/\B.kd= .own/\C.kd= .own/\B.sz=20/\C.sz=26/\n<=B.n/\m<=C.n/\i≠j/\alm B.get n=cu/\alm C.get m=cn:=by
 unfold ajH at h;split at h
 ·split at h
  ·rename_i B C hB V;cases J:(ahg B.kd&&(ahg C.kd&&(Nat.beq B.sz 20&&(Nat.beq C.sz 26&&(Nat.ble _ B.n&&(Nat.ble _ C.n&& !Nat.beq _ _)))))) with
   |false=>rw[J] at h;cases h
   |true=>
    rw[J,zdu] at h;simp only[za1,zag] at h;obtain⟨rfl,rfl,rfl,rfl,rfl,rfl,rfl,rfl⟩:=h;simp only[za2,zap] at J;obtain⟨h1,h2,h3,h4,h5,h6,h7⟩:=J;refine⟨_,_,B,C,rfl,hB,V,aeo h1,aeo h2,zab h3,zab h4,zak h5,zak h6, ?_,rfl,rfl⟩;intro q;subst q;rw[Nat.beq_refl] at h7;cases h7
  ·cases h
 ·cases h
def rcP (nx:Nat) (id:Int) (u v:Un) (x y w:Nd) (o:Un):RC:={X:=Unit,pre:=true,spec:=λ_=>True,out:=λ_=> .tup [.agg (.val (.int .i64 id):: .slc nx 0 2:: .slc (nx+1) 0 3::ci o), .val (.int .i64 0), .val (.int .i64 0)],nw:=λ_=> [eU.own [u,v],eN.own [x,y,w]],ex:=λ_=>⟨(),trivial⟩}
variable {u v o:Un} {y w:Nd}
theorem alb {x:Nd} (h:K9 (λq=>q=some (id,2,3,0,0, [ci u,ci v], [svN x,svN y,svN w],ci o)) r bl n wl):KB (rcP nx id u v x y w o) [] [] nx r bl n wl:=by
 cases r with
 |pan v=>exact h.elim
 |ok s=>
  obtain⟨i,j,B,C,rfl,hB,hC,k1,k2,z1,z2,n1,n2,Y,J,c2⟩:=ahh h;have e:=rns_free (f:=dt [] [some i,some j] nx) (fj o);have Z:dt [] [some i,some j] nx nx=some (some i):=cO;have e1:dt [] [some i,some j] nx (nx+1)=some (some j):=jA 1;have J: [B.get 0,B.get 1]= [ci u,ci v]:=J;have c2: [C.get 0,C.get 1,C.get 2]= [svN x,svN y,svN w]:=c2;simp only[zca,and_true] at J c2;refine⟨(),trivial, [some i,some j],⟨_,rfl, ?_⟩,by simp[ck,Y],⟨⟨zaA _, ?_⟩,⟨zaA _, ?_⟩,trivial⟩,trivial⟩
  ·exact xh (ar (Xs (ar rfl (ar (by simp only[SV.rn,Z]) (ar (by simp only[SV.rn,e1]) e)))) rfl)
  ·rw[hB];refine⟨by simp[El.own],λ_=> .inr ⟨by simp[El.own],eU.one⟩,gC k1 z1 n1 λe V=> ?_⟩;rcases(show e=0\/e=1 by simp at V;omega) with rfl|rfl
   ·exact J.1
   ·exact J.2
  ·rw[hC];refine⟨by simp[El.own],λ_=> .inr ⟨by simp[El.own],eN.one⟩,gC k2 z2 n2 λe V=> ?_⟩;rcases(show e=0\/e=1\/e=2 by simp at V;omega) with rfl|rfl|rfl
   ·exact c2.1
   ·exact c2.2.1
   ·exact c2.2.2
def kP9 (T:zdK) (id:Int) (u v:Un) (x y w:Nd) (o:Un):MCtr:=λ_ nx args=>match args with
 | [.val (.string s)]=>bif seq T s then some (rcP nx id u v x y w o) else none
 |_=>none
theorem ajI {x:Nd} (h: ∀Q:Option aen->Prop,Q (some (id,2,3,0,0, [ci u,ci v], [svN x,svN y,svN w],ci o))->acf a ann 9 f [.val (.string T)] [] (K9 Q)):
 ∀B:Base,GlobEB a B->VU prog B f (kP9 T id u v x y w o):=λB hB=>c8 (λB' Z=>akN (hB.sub Z)) λbl nx args C J hp=>by
 unfold kP9 at J;split at J
 ·rename_i s;cases Y:seq T s with
  |false=>rw[Y] at J;cases J
  |true=>
   rw[Y,zdu] at J;simp only[za1] at J;subst J;obtain rfl:=We.1 Y;have key:acf a ann 9 f [.val (.string T)] [] (KB (rcP nx id u v x y w o) [] [] nx):=aeW (h (λq=>q=some (id,2,3,0,0, [ci u,ci v], [svN x,svN y,svN w],ci o)) rfl) λr b n wl hq=>alb hq;unfold acf at key;exact⟨[], [], [.val (.string T)],ann,9,trivial,bH (λC V=>by cases V),cd (λC V=>by cases V),rfl,key⟩
 ·cases J
def aco:SV:= .agg (.val (.int .i64 0):: .val (.slice none 0 0):: .val (.slice none 0 0)::ci noU)
theorem agh (a:Addr) (Q:zdU):k8 a zl 9 17 [.val (.string zA9)] [] (Go.Sy.okK λr _ _ _=>Q r)=uK (uK (Q (.tup [aco, .val (.int .i64 1), .val (.int .i64 90)]))):=by kernel_rfl
def ajJ (k l:MCtr):MCtr:=λbl nx args=>match k bl nx args with
 |some C=>some C
 |none=>l bl nx args
theorem aiw {k l:MCtr} (Y:VU prog B f k) (Z:VU prog B f l):VU prog B f (ajJ k l):=by
 intro bl β w nx args C a b c d e p;unfold ajJ at e;split at e
 ·rename_i J V;obtain rfl:J=C:=by simpa using e
  exact Y bl β w nx args _ a b c d V p
 ·exact Z bl β w nx args _ a b c d e p
def rcV (r:SV):RC:={X:=Unit,pre:=true,spec:=λ_=>True,out:=λ_=>r,ex:=λ_=>⟨(),trivial⟩}
def kV9 (T:zdK) (r:SV):MCtr:=λ_ _ args=>match args with
 | [.val (.string s)]=>bif seq T s then some (rcV r) else none
 |_=>none
theorem ajK {r:SV} (Z:r.ids= []) (h: ∀Q:zdU,Q r->k8 a ann 9 f [.val (.string T)] [] (Go.Sy.okK λr _ _ _=>Q r)):
 ∀B:Base,GlobEB a B->VU prog B f (kV9 T r):=λB hB=>c8 (λB' hs=>aha (hB.sub hs)) λbl nx args C J hp=>by
 unfold kV9 at J;split at J
 ·rename_i s;cases Y:seq T s with
  |false=>rw[Y] at J;cases J
  |true=>
   rw[Y,zdu] at J;simp only[za1] at J;subst J;obtain rfl:=We.1 Y;have key:k8 a ann 9 f [.val (.string T)] [] (KB (rcV r) [] [] nx):=ab3 (h (λq=>q=r) rfl) λq b m w hq=>by
    cases q with
    |pan v=>exact hq.elim
    |ok s=>
     obtain rfl:s=r:=hq;exact IG () trivial rfl Z rfl rfl rfl (λC V=>by cases V) rfl
   unfold k8 at key;exact⟨[], [], [.val (.string T)],ann,9,trivial,bH (λC V=>by cases V),cd (λC V=>by cases V),rfl,key⟩
 ·cases J
variable {Q:zdU}
theorem aeY (J:Q (.tup [aco, .val (.int .i64 1), .val (.int .i64 90)])):k8 a zl 9 17 [.val (.string zA9)] [] (Go.Sy.okK λr _ _ _=>Q r):=by
 rw[agh];exact λ_ _ _ _=>J
def adT:MCtr:=kP9 spT 1 u0 u2 (nI9 0) (nI9 1) nD9 uo
theorem aeZ: ∀B:Base,GlobEB a B->VU prog B 17 adT:=by
 unfold adT;have h: ∀Q:Option aen->Prop,Q (some aiv)->acf a zl 9 17 [.val (.string spT)] [] (K9 Q):=λQ J=>aeX J;unfold aiv at h;generalize spT=T at h ⊢;exact ajI h
def adU:MCtr:=kV9 zA9 (.tup [aco, .val (.int .i64 1), .val (.int .i64 90)])
theorem ae0: ∀B:Base,GlobEB a B->VU prog B 17 adU:=by
 unfold adU;have h: ∀Q:zdU,Q (.tup [aco, .val (.int .i64 1), .val (.int .i64 90)])->k8 a zl 9 17 [.val (.string zA9)] [] (Go.Sy.okK λr _ _ _=>Q r):=λQ V=>aeY V;have J:(SV.tup [aco, .val (.int .i64 1), .val (.int .i64 90)]).ids= []:=rfl;generalize zA9=T at h ⊢;generalize (SV.tup [aco, .val (.int .i64 1), .val (.int .i64 90)])=r at h J ⊢;exact ajK J h
def aix:ze0:=(17,ajJ adT adU)::af7
theorem aiy:MEk a aix:=adO.cons λB hB=>aiw (aeZ B hB) (ae0 B hB)
@[irreducible] def acB (a:Addr) (ann:zdY) (n:Nat) (f:FuncId) (args:zdN) (Cs:zdX) (K:Aft):Prop:=
 Ay prog (iR yr) (gw g9s) (gx aix) (dF a) ann n f args (λi=>Cs[i]?) Cs.length [] K
theorem akP (hB:GlobEB a B):HypD prog B (iR yr) (gw g9s) (gx aix) (dF a):=
 have h:=ac9 (gm:=aix) adv aiy hB
 ⟨h.gam,h.mem,h.dem,λf J=>by
   unfold iR at J;simp only[zaP] at J;obtain⟨g,hg,V⟩:=J
   rw[zab V];exact vT g hg,h.mixed⟩
def gU9:zdQ:=je (ci (aT 0)++ci (aT 2)) 20
def gN9:zdQ:=je (svN (nI9 0)++svN (nI9 1)++svN nD9) 26
def gC9:zdQ:=λi=>bif Nat.beq i 2 then gZ (gN9 i) 0 [.val (.int .i64 3)] else gN9 i
def rA9:zdQ:=je (gA (rMk 10 1).1++gA (rMk 4 1).1) 2
def rB9:zdQ:=je (gA (rMk 10 1).1++gA (rMk 0 1).1) 2
def iA9:zdQ:=je (gA (rMk 9 1).1++gA (rMk 11 1).1++gA (rMk 4 1).1++gA (rMk 5 1).1) 4
def ali (n1:Nat) (g1:zdQ) (n2:Nat) (g2:zdQ) (u:Un):Bool:=(Nat.ble n1 n1&&Nat.beq 20 20&&true)&&(Nat.ble n2 n2&&Nat.beq 26 26&&true)&&bW n1&&bW n2&&eU.good szB n1 g1&&eN.good szN n2 g2&&szB u
def pA9:Pr:=⟨1,eU.list 2 gU9,eN.list 3 gN9,uo⟩
def pB9:Pr:=⟨1,eU.list 2 (eU.get [u0,u2]),eN.list 3 (eN.get [nI9 0,nI9 1,nD9]),uo⟩
def n9 (c:Bool) (K:Prop):Prop:=af c (uK K)
open Classical in
def ahi (Q:zdU):Prop:=
 n9 (ali 2 gU9 3 gN9 uo) (n9 (ali 2 gU9 3 gN9 (aT 0)) (n9 (ali 2 gU9 3 gC9 (aT 0)) (
 n9 (ali 2 gU9 3 gN9 uo&&(Nat.ble 2 2&&Nat.beq 2 2&&true)&&bW 2&&eR.good uzR 2 rA9) (
 n9 (ali 2 gU9 3 gN9 uo&&(Nat.ble 2 2&&Nat.beq 2 2&&true)&&bW 2&&eR.good uzR 2 rB9) (
 n9 (ali 2 gU9 3 gN9 uo&&(Nat.ble 2 2&&Nat.beq 4 4&&true)&&bW 2&&eI.good uzI 2 iA9&&(dR pA9 (eI.list 2 iA9) 2).2==0) (
 n9 (ali 2 gU9 3 gN9 uo&&decide (pA9=spP)) (uK (uK (
 n9 (ali 2 gU9 3 gN9 uo&&ali 2 (eU.get [u0,u2]) 3 (eN.get [nI9 0,nI9 1,nD9]) uo&&decide (pA9=pB9)) (
 n9 (ali 2 gU9 3 gN9 uo) (n9 (ali 2 gU9 3 gC9 (aT 0)) (Q (cB.enc true)))))))))))))
theorem ahj (a:Addr) (Q:zdU):acB a (afZ 4) 9 4 [] [] (Go.Sy.okK λr _ _ _=>Q r)=ahi Q:=by kernel_rfl
theorem als {n1:Nat} {g1:zdQ} {n2:Nat} {g2:zdQ} (h1:n1<=1000000) (h2:n2<=1000000) (k1:eU.good szB n1 g1=true) (k2:eN.good szN n2 g2=true) (J:szB u=true):ali n1 g1 n2 g2 u=true:=by
 unfold ali bW;rw[zae (za0 n1),zae (za0 n2),zae h1,zae h2,k1,k2,J];rfl
theorem ahk (h:szB u=true) (k:szB v=true):eU.good szB 2 (je (ci u++ci v) 20)=true:=El.good_iff.2 λe J=>by
 rcases(show e=0\/e=1 by omega) with rfl|rfl
 ·exact⟨rfl,h⟩
 ·exact⟨rfl,k⟩
theorem ahl {x z:Nd} (h:szN x=true) (k:szN y=true) (l:szN z=true):eN.good szN 3 (je (svN x++svN y++svN z) 26)=true:=El.good_iff.2 λe J=>by
 rcases(show e=0\/e=1\/e=2 by omega) with rfl|rfl|rfl
 ·exact⟨rfl,h⟩
 ·exact⟨rfl,k⟩
 ·exact⟨rfl,l⟩
theorem ajL:eN.good szN 3 gC9=true:=El.good_iff.2 λe J=>by
 rcases(show e=0\/e=1\/e=2 by omega) with rfl|rfl|rfl
 ·exact⟨rfl,lB⟩
 ·exact⟨rfl,lB⟩
 ·exact⟨rfl,lB⟩
theorem ahm {x y:RS} (h:uzR x=true) (k:uzR y=true):eR.good uzR 2 (je (gA x++gA y) 2)=true:=El.good_iff.2 λe J=>by
 rcases(show e=0\/e=1 by omega) with rfl|rfl
 ·exact⟨rfl,h⟩
 ·exact⟨rfl,k⟩
theorem ajM {x y z w:RS} (h:uzR x=true) (k:uzR y=true) (l:uzR z=true) (m:uzR w=true):eI.good uzI 2 (je (gA x++gA y++gA z++gA w) 4)=true:=El.good_iff.2 λe J=>by
 rcases(show e=0\/e=1 by omega) with rfl|rfl
 ·exact⟨rfl,by show (uzR x&&uzR y)=true;rw[h,k];rfl⟩
 ·exact⟨rfl,by show (uzR z&&uzR w)=true;rw[l,m];rfl⟩
theorem ahn:pA9=spP:=by kernel_rfl
theorem ajN:pB9=spP:=by kernel_rfl
theorem aiz:((dR pA9 (eI.list 2 iA9) 2).2==0)=true:=by kernel_rfl
theorem afH:szB (aT 0)=true:=by kernel_rfl
theorem aiP:szB (aT 2)=true:=by kernel_rfl
theorem aiQ:szB uo=true:=by kernel_rfl
theorem agi (hQ:Q (cB.enc true)):acB a (afZ 4) 9 4 [] [] (Go.Sy.okK λr _ _ _=>Q r):=by
 rw[ahj];have Y:=ahk afH aiP;have gn:eN.good szN 3 gN9=true:=ahl lB lB lB;have V:ali 2 gU9 3 gN9 uo=true:=als (by decide) (by decide) Y gn aiQ;have c2:ali 2 gU9 3 gN9 (aT 0)=true:=als (by decide) (by decide) Y gn afH;have Z:ali 2 gU9 3 gC9 (aT 0)=true:=als (by decide) (by decide) Y ajL afH;have c4:ali 2 (eU.get [u0,u2]) 3 (eN.get [nI9 0,nI9 1,nD9]) uo=true:=als (by decide) (by decide)
  (El.good_get (E:=eU) (l:= [u0,u2]) λx J=>by
    rcases zai.1 J with rfl|J
    ·exact afH
    ·rw[zaj.1 J];exact aiP)
  (El.good_get (E:=eN) (l:= [nI9 0,nI9 1,nD9]) λx J=>by
    rcases zai.1 J with rfl|J
    ·exact lB
    ·rcases zai.1 J with rfl|J
     ·exact lB
     ·rw[zaj.1 J];exact lB) aiQ
 have r1:eR.good uzR 2 rA9=true:=ahm (alg 10 1) (alg 4 1);have r2:eR.good uzR 2 rB9=true:=ahm (alg 10 1) (alg 0 1);have r3:eI.good uzI 2 iA9=true:=ajM (alg 9 1) (alg 11 1) (alg 4 1) (alg 5 1);have d1: ∀i, @decide (pA9=spP) i=true:=λi=> @zds _ i ahn;have d2: ∀i, @decide (pA9=pB9) i=true:=λi=> @zds _ i (ahn.trans ajN.symm);unfold ahi n9 uK;refine ac V λ_ _=>ac c2 λ_ _=>ac Z λ_ _=>ac ?_ λ_ _=>ac ?_ λ_ _=>ac ?_ λ_ _=>ac ?_ λ_ _ _ _ _ _=>ac ?_ λ_ _=>ac V λ_ _=>ac Z λ_ _=>hQ
 ·rw[V,r1];rfl
 ·rw[V,r2];rfl
 ·rw[V,r3,aiz];rfl
 ·rw[V,d1];rfl
 ·rw[V,c4,d2];rfl
def adV:MCtr:=λ_ _ args=>match args with
 | []=>some (rcV (cB.enc true))
 |_=>none
theorem ae1 (h:acB a ann n f args Cs K) (J: ∀r b n w,K r b n w->K' r b n w):acB a ann n f args Cs K':=by
 unfold acB at h ⊢;exact NiceT.mono (Ea _ _ _ _ _ _ f args _ _ _ (λi hi=>zad hi)) h λr b n w _=>J r b n w
theorem agj (h: ∀Q:zdU,Q (cB.enc true)->acB a ann 9 F [] [] (Go.Sy.okK λr _ _ _=>Q r)): ∀B:Base,GlobEB a B->VU prog B F adV:=λB hB=>c8 (λB' Y=>akP (hB.sub Y)) λbl nx args C V hp=>by
 unfold adV at V;split at V
 ·simp only[za1] at V;subst V;have key:acB a ann 9 F [] [] (KB (rcV (cB.enc true)) [] [] nx):=ae1 (h (λr=>r=cB.enc true) rfl) λq b m w hq=>by
   cases q with
   |pan v=>exact hq.elim
   |ok s=>
    obtain rfl:s=cB.enc true:=hq;exact IG () trivial rfl rfl rfl rfl rfl (λC J=>by cases J) rfl
  unfold acB at key;exact⟨[], [], [],ann,9,trivial,bH (λC J=>by cases J),cd (λC J=>by cases J),rfl,key⟩
 ·cases V
theorem agk: ∀B:Base,GlobEB a B->VU prog B 4 adV:=agj λQ J=>agi J
def avp (I:EI->Prop) (N:Int):zdY:=λf k=>bif Nat.beq f 3&&Nat.beq k 7 then some (λA=>{X:=EI,inv:=I,tm:=λx=> [(16, .val (.int .i64 x.1)),(15, .slc A.nx 0 x.2.length)],gr:= [{src:= .slot 15,sz:=4,n:=λx=>x.2.length,get:=λx=>eI.get x.2}],cleanG:=λg hg x e=>(by simp at hg;subst hg;exact eI.ids _),mu:=λx=>(N - x.1).toNat,keep:= [3,4,11,12,13,14]}) else none
def avG:ze0:= [(9,auL),(7,aqq),(6,aqo),(20,SQ),(4,adV)]
theorem avk:MEk a avG:=((((MEk.nil.cons agk).cons λB hB=>Tc B hB.gU).cons aqp).cons aqr).cons auM
abbrev avq (p:Addr) (I:EI->Prop) (N:Int) (a b c k:Int) (xs ys:List I4) (ks:List Int) (pl mo:Int) (Q:zdU):Prop:=
 XC p gWi avG (avp I N) 8 3 [al2 a b c k xs.length, .slc 1 0 ys.length, .slc 2 0 ks.length,cI.enc pl,cI.enc mo] [e4.old xs,e4.old ys,e1.old ks] (Go.Sy.okK λr _ _ _=>Q r)
def rdN (p:Pr):Pr:=⟨p.id,eU.list p.inp.length (eU.get p.inp),eN.list p.nod.length (eN.get p.nod),p.out⟩
def ndN (p:Pr):Bool:=ali p.inp.length (eU.get p.inp) p.nod.length (eN.get p.nod) p.out
def avx (n m:Nat) (i:Int) (K:Prop):Prop:=af (decide (0<=i)&&decide (i<(n:Int))&&decide (0+i.toNat<m)) (af (decide (0+i.toNat<m)) K)
def naK (pl mo:Int) (n:Nat):Prop:=tvE (cI.enc pl)/\tvE (cI.enc mo)/\tvE (cB.enc true)/\cg 18/\tvE (.slc 24 0 n)/\tvE (.slc 28 0 n)/\True
def naM (pl mo:Int) (n:Nat) (i:Int) (m:Nat) (g:zdQ) (z:EI):Prop:=(TV.v (cI.enc i)=TV.v (cI.enc z.1)/\TV.v (.slc 38 0 m)=TV.v (.slc 38 0 z.2.length)/\naK pl mo n)/\(True/\(True/\(af (Nat.beq 4 4&&decide (z.2.length<=m)) (∀e,e<z.2.length->g e=eI.get z.2 e)/\True)))
def naB (x y:Iv×Int):Bool:=bif x.2 !=0 then true else y.2 !=0
def naE (p:Pr) (n:Nat) (L M:List Iv) (pl mo:Int) (Q:zdU):Prop:=
 af (pkB pl 7) (n9 (ndN p&&(Nat.ble n L.length&&Nat.beq 4 4&&true)&&bW n&&eI.good uzI n (eI.get L)) (af (pkB mo 4) (af (inR .i64 (co pl 7+co mo 4)) (n9 (ndN p&&(Nat.ble M.length M.length&&Nat.beq 4 4&&true)&&bW M.length&&eI.good uzI M.length (eI.get M)) (
  let x:=dR (rdN p) (eI.list n (eI.get L)) (co pl 7)
  let y:=dR (rdN p) (eI.list M.length (eI.get M)) (co pl 7+co mo 4)
  af (dC (!naB x y) (uzI y.1&&uzI x.1)) (Q (cB.enc (bif naB x y then true else auy y.1 x.1))))))))
def naL (I:EI->Prop) (N:Int) (p:Pr) (n:Nat) (L:List Iv) (V:List RS) (pl mo:Int) (Q:zdU):Prop:=
 ∃z0:EI,I z0/\(((TV.v (cI.enc 0)=TV.v (cI.enc z0.1)/\TV.v (.val (.slice none 0 0))=TV.v (.val (.slice none z0.2.length 0))/\naK pl mo n)/\(True/\(True/\(z0.2.length=0/\True))))/\
  ∀z:EI,I z->ag (decide (z.1<(n:Int)))
   (avx n V.length z.1 (avx n L.length z.1 (ako z.2.length (af (inR .i64 (z.1+1)) (∃z':EI,I z'/\((N - z'.1).toNat<(N - z.1).toNat/\naM pl mo n (z.1+1) (z.2.length+1) (aqk z.2 (mb VI V (0+z.1.toNat),(mb noI L (0+z.1.toNat)).2)) z'))))))
   (naE p n L z.2 pl mo Q))
def na1 (I:EI->Prop) (N:Int) (p:Pr) (n:Nat) (L:List Iv) (ks:List Int) (pl mo:Int) (Q:zdU):Prop:=
 n9 ((Nat.ble n L.length&&Nat.beq 4 4&&true)&&(Nat.ble ks.length ks.length&&Nat.beq 1 1&&true)&&eI.good uzI n (eI.get L)&&e1.good cl ks.length (e1.get ks)&&Nat.ble 1 n&&bW n) (
  naL I N p n L (hH (eI.list n (eI.get L)) (e1.list ks.length (e1.get ks)) n) pl mo Q)
def na0 (I:EI->Prop) (N:Int) (p:Pr) (ys:List I4) (ks:List Int) (pl mo:Int) (Q:zdU):Prop:=
 n9 ((Nat.ble ys.length ys.length&&Nat.beq 4 4&&true)&&e4.good uz4 ys.length (e4.get ys)&&decide (1<=(p.inp.length:Int))&&decide ((p.inp.length:Int)<=1000000)) (
  na1 I N p (p.inp.length:Int).toNat (bt (e4.list ys.length (e4.get ys)) (p.inp.length:Int).toNat) ks pl mo Q)
def naT (I:EI->Prop) (N:Int) (a b c k:Int) (xs ys:List I4) (ks:List Int) (pl mo:Int) (Q:zdU):Prop:=
 uK (n9 (Nat.ble xs.length xs.length&&Nat.beq 4 4&&true&&decide (xs.length<=9223372036854775807)&&e4.good uz4 xs.length (e4.get xs)&&cl a&&cl b&&cl c&&cl k) (
  na0 I N (Bd (a,b,c) k (e4.list xs.length (e4.get xs)) false) ys ks pl mo Q))
theorem avH (p:Addr) (I:EI->Prop) (N:Int) (a b c k:Int) (xs Y:List I4) (ks:List Int) (V J:Int) (Q:zdU):avq p I N a b c k xs Y ks V J Q=naT I N a b c k xs Y ks V J Q:=by kernel_rfl
def naI (V:List RS) (L:List Iv) (n:Nat) (z:EI):Prop:=0<=z.1/\z.1<=n/\z.2=auj V L z.1.toNat
variable {p:Pr} {pl mo:Int}
theorem avl {L:List Iv} {V:List RS} (hn:n<=1000000) (Y:L.length=n) (Z:V.length=n) (k:naE p n L (auj V L n) pl mo Q):naL (naI V L n) n p n L V pl mo Q:=by
 refine⟨(0, []),⟨zat _,by show (0:Int)<=_;omega,rfl⟩,⟨⟨rfl,rfl,rfl,rfl,rfl,rfl,rfl,rfl,trivial⟩,trivial,trivial,rfl,trivial⟩, ?_⟩;rintro⟨i,l⟩ ⟨k0,k1,k2⟩;dsimp only at k0 k1 k2 ⊢;have hl:l.length=i.toNat:=by rw[k2];exact fJ _ _
 refine ah (λJ=> ?_) (λJ=> ?_)
 ·have J:=zdx J;have one: ∀{m:Nat} {K:Prop},m=n->K->avx n m i K:=λ{m K} hm h=>ac (by rw[zds k0,zds J,zds (show 0+i.toNat<m by omega)];rfl) (ac (zds (by omega)) h);refine one Z (one Y (ah9 (by omega) (ac (VP.2 (by omega)) ⟨(i+1,l++ [(mb VI V (0+i.toNat),(mb noI L (0+i.toNat)).2)]),⟨by show 0<=i+1;omega,by show i+1<=_;omega, ?_⟩,by show (_:Nat)<_;omega,⟨⟨rfl,by simp,rfl,rfl,rfl,rfl,rfl,rfl,trivial⟩,trivial,trivial,aql rfl,trivial⟩⟩)));show l++ [_]=auj V L (i+1).toNat;rw[show (i+1).toNat=i.toNat+1 by omega,k2,za7];rfl
 ·have J:=zdy J;rw[show i.toNat=n by omega] at k2;rw[k2];exact k
variable {ys:List I4} {ks:List Int}
theorem avy (hn:n<=1000000) (hp:cl pl=true) (hm:cl mo=true) (Z:ndN p=true) (rd:rdN p=p) (Y:Q (cB.enc true)):naE p n (bt ys n) (auj (hH (bt ys n) ks n) (bt ys n) n) pl mo Q:=by
 have J:(bt ys n).length=n:=fJ _ _;have hM:(auj (hH (bt ys n) ks n) (bt ys n) n).length=n:=fJ _ _;have e2:eI.list n (eI.get (bt ys n))=bt ys n:=by
  have:=El.list_get (E:=eI) (l:=bt ys n);rwa[J] at this
 have g2:eI.good uzI n (eI.get (bt ys n))=true:=by
  have:=El.good_get (E:=eI) (l:=bt ys n) apF;rwa[J] at this
 have g3:=El.good_get (E:=eI) (l:=auj (hH (bt ys n) ks n) (bt ys n) n) (au2 apw apF);have lb:bW n=true:=zae hn;obtain⟨p0,p1⟩:=gR pl (n:=7) (by decide);obtain⟨m0,m1⟩:=gR mo (n:=4) (by decide);unfold naE n9 uK;rw[e2,show eI.list _ (eI.get (auj (hH (bt ys n) ks n) (bt ys n) n))=_ from El.list_get,rd];refine QU hp (by decide) (ac ?_ λ_ _=>QU hm (by decide) (ac (VP.2 (by omega)) (ac ?_ λ_ _=> ?_)))
 ·rw[Z,J,zae (za0 n),lb,g2];rfl
 ·rw[Z,zae (za0 _),g3,hM,lb];rfl
 ·refine acX (by rw[au1,au1];rfl) ?_;cases h:naB (dR p (bt ys n) (co pl 7)) (dR p (auj (hH (bt ys n) ks n) (bt ys n) n) (co pl 7+co mo 4)) with
  |true=>exact Y
  |false=>
   unfold naB at h;cases V:(dR p (bt ys n) (co pl 7)).2 !=0 with
   |true=>rw[V] at h;cases h
   |false=>
    rw[V] at h;rw[zdt,avc J (by omega) (by simpa using V) (by simpa using h)];exact Y
abbrev naQ (ys:List I4) (ks:List Int) (n:Nat):EI->Prop:=naI (hH (bt ys n) ks n) (bt ys n) n
theorem avd {a b c k:Int} {xs:List I4} (e:p=Bd (a,b,c) k xs false) (ha:cl a=true) (hb:cl b=true) (hc:cl c=true) (hk:cl k=true) (hp:cl pl=true) (hm:cl mo=true) (hx: ∀y∈xs,uz4 y=true) (hn:xs.length<=9223372036854775807) (hy: ∀y∈ys,uz4 y=true) (hv: ∀y∈ks,cl y=true) (hQ:Q (cB.enc true)):
 naT (naQ ys ks p.inp.length) p.inp.length a b c k xs ys ks pl mo Q:=by
 have Y:=Sb (a:=(a,b,c)) (count:=k) (xs:=xs) (ex:=false);have V:=Tn (a:=(a,b,c)) (count:=k) (xs:=xs) (ex:=false);unfold aci at V;simp only[za2,zaf] at V;obtain⟨⟨Z,sn⟩,so⟩:=V;unfold naT na0 n9 uK;rw[show e4.list xs.length (e4.get xs)=xs from El.list_get,show e4.list ys.length (e4.get ys)=ys from El.list_get,<-e];rw[<-e] at Y Z sn so;clear e;obtain⟨l1,l2,l3,l4⟩:=Y;rw[show (p.inp.length:Int).toNat=p.inp.length by omega];generalize hN:p.inp.length=n at*
 have J:(bt ys n).length=n:=fJ _ _;have hV:(hH (bt ys n) ks n).length=n:=fJ _ _;have g2:eI.good uzI n (eI.get (bt ys n))=true:=by
  have:=El.good_get (E:=eI) (l:=bt ys n) apF;rwa[J] at this
 have e2:eI.list n (eI.get (bt ys n))=bt ys n:=by
  have:=El.list_get (E:=eI) (l:=bt ys n);rwa[J] at this
 have nd:ndN p=true:=als (by omega) (by omega) (El.good_get Z) (El.good_get sn) so;have rd:rdN p=p:=by
  unfold rdN;rw[show eU.list p.inp.length (eU.get p.inp)=p.inp from El.list_get,show eN.list p.nod.length (eN.get p.nod)=p.nod from El.list_get]
 unfold na1 n9 uK;rw[e2,show e1.list ks.length (e1.get ks)=ks from El.list_get];refine λ_ _=>ac ?_ λ_ _=>ac ?_ λ_ _=>ac ?_ λ_ _=>avl (by omega) J hV (avy (by omega) hp hm nd rd hQ)
 ·rw[zae (za0 _),zds hn,El.good_get (E:=e4) hx,ha,hb,hc,hk];rfl
 ·rw[zae (za0 _),El.good_get (E:=e4) hy,zds (show (1:Int)<=(n:Int) by omega),zds (show (n:Int)<=1000000 by omega)];rfl
 ·rw[J,zae (za0 n),zae (za0 ks.length),g2,El.good_get (E:=e1) hv,zae l1,show bW n=true from zae (by omega)];rfl
open Go.ChangeShapes Go.WideShapes
def apK (L M R:Go.Sy.Loc) (i:Nat):Go.Sy.Loc:=match i with
 |0=>L
 |1=>M
 |_=>R
theorem at6 (c:Ca9) (V:List I4) (ks:List Int) (Z Y:Int) {L M R:Go.Sy.Loc} {W:World} (h:c.ok=true) (hB:BlkOK (λ_=>L) 0 (e4.old c.x) W) (hl:c.x.length<=maxLen) (hy: ∀y∈V,uz4 y=true) (hC:BlkOK (λ_=>M) 0 (e4.old V) W) (_:V.length<=maxLen) (hv: ∀x∈ks,cl x=true) (hD:BlkOK (λ_=>R) 0 (e1.old ks) W) (_:ks.length<=maxLen) (hp:B64 Z) (hm:B64 Y) (_:World) (hg: ∃p,GlobE p W):
 Calls prog 3 #[(al2 c.a c.b c.c c.k c.x.length).conc (λ_=>L),(SV.slc 0 0 V.length).conc (λ_=>M),(SV.slc 0 0 ks.length).conc (λ_=>R), .int .i64 Z, .int .i64 Y] W λe w'=>e= .returned (.bool true)/\Below W.heap.size W w':=by
 obtain⟨p,hg⟩:=hg;unfold Ca9.ok at h;simp only[za2,zaf] at h;obtain⟨⟨⟨⟨a0,a1⟩,a2⟩,a3⟩,ax⟩:=h;have hbc:BC W (λi=> [e4.old c.x,e4.old V,e1.old ks][i]?) (apK L M R) W:=aoL λi B J=>by
  match i,J with
  |0,J=>obtain rfl:=zbk J;exact⟨aoA hB rfl λe _=>e4.ids _,rfl,λe _=>e4.ids _⟩
  |1,J=>obtain rfl:=zbk J;exact⟨aoA hC rfl λe _=>e4.ids _,rfl,λe _=>e4.ids _⟩
  |2,J=>obtain rfl:=zbk J;exact⟨aoA hD rfl λe _=>e1.ids _,rfl,λe _=>e1.ids _⟩
 have c9:(al2 c.a c.b c.c c.k c.x.length).conc (apK L M R)=(al2 c.a c.b c.c c.k c.x.length).conc (λ_=>L):=SV.conc_congr _ λi hi=>by
  have:i=0:=by simpa [al2,SV.ids,SV.idss] using hi
  subst this;rfl
 have ea:(SV.concs (apK L M R) [al2 c.a c.b c.c c.k c.x.length, .slc 1 0 V.length, .slc 2 0 ks.length,cI.enc Z,cI.enc Y]).toArray= #[(al2 c.a c.b c.c c.k c.x.length).conc (λ_=>L),(SV.slc 0 0 V.length).conc (λ_=>M),(SV.slc 0 0 ks.length).conc (λ_=>R), .int .i64 Z, .int .i64 Y]:=by
  simp only[SV.concs];rw[c9];rfl
 rw[<-ea]
 exact ao7 avE avk hg (ann:=avp (naQ V ks (Bd (c.a,c.b,c.c) c.k c.x false).inp.length) (Bd (c.a,c.b,c.c) c.k c.x false).inp.length) (n:=8) hbc (λs hs i hi=>by
  simp only[zai,zbx,or_false] at hs;rcases hs with rfl|rfl|rfl|rfl|rfl
  ·have:i=0:=by simpa [al2,SV.ids,SV.idss] using hi
   subst this;exact Nat.zero_lt_succ _
  ·have:i=1:=by simpa [SV.ids] using hi
   subst this;exact(show 1<3 by decide)
  ·have:i=2:=by simpa [SV.ids] using hi
   subst this;exact zcz 2
  ·rw[cI.ids] at hi;cases hi
  ·rw[cI.ids] at hi;cases hi) (by
  have e:=avH p (naQ V ks (Bd (c.a,c.b,c.c) c.k c.x false).inp.length) (Bd (c.a,c.b,c.c) c.k c.x false).inp.length c.a c.b c.c c.k c.x V ks Z Y (λr=>r=cB.enc true);unfold avq at e;rw[e]
  exact avd rfl a0 a1 a2 a3 (V4.2 hp) (V4.2 hm) ax (zac hl (by decide)) hy hv rfl)
end Go.Proofs.YtldflkomhbfceaaGreatDoor
namespace Go.Proofs.YtldflkomhbfceaaGreatDoor
open Go.Proofs.Tryz
open Go.ChangeShapes Go.WideShapes Go.ChangeAt Go.RowKit Yk
theorem oQ {H:Type} {enc:TypeId×Value->H} {a:Assume} {C:Checked} {os:Os} {f:FuncId} {fn:Func} {s:ChangeSpec} {conds:List PathCond} {apart fresh handsOn again:Bool} {X:World->Array Value->Prop}
 (hX: ∀(w w':World) (args:Array Value),w.heap=w'.heap->X w args->X w' args)
 (own:ownKnob C.prog.godebug=none) (started:os.Started) (noInit:C.prog.inits.idxOf? f=none) (hfn:C.prog.funcs[f]? =some fn)
 (witness: ∃(w:World) (tape:Tape) (i:Input),w.os=os/\(w.forCall tape i).Shaped C.prog/\i.vars= []/\Input.okWide C.prog (w.forCall tape i) .any w.heap.size f i/\
   ((s.pre enc C.prog fn conds apart (w.forCall tape i).memory i.args/\X (w.forCall tape i).memory i.args)/\sizedMet enc C.prog fn (OpenSpec.ofChange s) apart (w.forCall tape i).memory i.args)/\a.holds C.prog (lone (Frame.enter C.prog f i.args .normal) [] (w.forCall tape i)))
 (contract: ∀(W:World) (base:Nat) (args:Array Value) (Z gs:List (DataW H)) (before:List MemPlace),
   (∀(j:Nat) t v,fn.params[j]? =some t->args[j]? =some v->Value.okWide C.prog W .any base t v)->
   DataW.Whole enc C.prog fn.params.toList s.vars apart W args.toList Z gs before->
   X W args->W.ShapedOpen C.prog->
   Calls C.prog f args W λe W'=> ∃v,e= .returned v/\s.post enc C.prog fn apart fresh handsOn again W args v W'):
 ReturnsInHanded a C os f .any (λw args=>(s.pre enc C.prog fn conds apart w args/\X w args)/\sizedMet enc C.prog fn (OpenSpec.ofChange s) apart w args) (s.post enc C.prog fn apart fresh handsOn again):=by
 refine returnsInHanded_of_calls own started noInit witness ?_;intro w tape i _ hsh _ hok V hholds;obtain⟨_,_,_,fn',J,_,_,_,_,Y⟩:=hok;have e:fn'=fn:=zbk (J.symm.trans hfn);subst e;obtain⟨⟨⟨Z,gs,before,hw,hc⟩,hx⟩,hz⟩:=V;have hw':=DataW.Whole.of_heap (w':=w.forCall tape i) (by rfl) hw;refine(contract (w.forCall tape i) w.heap.size i.args Z gs before Y hw' (hX _ _ _ (by rfl) hx) hsh).mono λe W' ⟨v,he,hp⟩=> ?_;subst he;exact ChangeSpec.post_blind hp
theorem own:ownKnob prog.godebug=none:=by kernel_rfl
def oR:List (String×DataW Unit):=Rows.procedureNarrowerRow.laid
variable {W:World}
theorem MM (h:W.ShapedOpen prog): ∃m,W.cell? ⟨4,0,none⟩=some (.int .i64 m):=
 cell_of_shapedOpen_int (t:=3) (zero:= #[.int .i64 0]) h (zdx (by kernel_rfl)) (by kernel_rfl) (by kernel_rfl) (by kernel_rfl) (by kernel_rfl) underlying3
theorem MN:(Rows.laid_internal_strconv_uint64pow10:DataW Unit)=Lib.tabData .u64 Lib.pow10Tab:=by kernel_rfl
theorem No:prog.globalNamed "strconv.ErrRange" =some 3:=by kernel_rfl
theorem Np:prog.globalNamed "strconv.ErrSyntax" =some 2:=by kernel_rfl
theorem QB: "*" ++ "errors.errorString" = "*errors.errorString" :=by decide
theorem JV (u:TypeId) (h:prog.typeName? 3 u=some "*errors.errorString"):u=327:=
 typeName_ptr_named (nm:= "errors.errorString") (by rw[QB];kernel_rfl) (by kernel_rfl) (by decide) u (by rw[QB];exact h)
theorem JW (h:W.ShapedOpen prog) (hL:laidMetH prog oR W):GlobU W:=by
 rw[MakeChecks.laidMetH_plain _ _ _ (by kernel_rfl)] at hL;have J:=laidMet.tail (laidMet.tail hL);have ht:Lib.TabIs prog W "internal/strconv.uint64pow10" .u64 Lib.pow10Tab:=
  Lib.tabIs_of_head NL (by kernel_rfl) underlying314 underlying264 (by kernel_rfl) (by kernel_rfl) (MN▸J)
 have V:=laidMet.tail (laidMet.tail J);obtain⟨a0,s0,Y,_,_,_⟩:=laid_sentinel (g:=3) (ti:=112) (tp:=327) (te:=329) (ts:=9) V No (by kernel_rfl) underlying112 JV underlying327 underlying329 rfl rfl underlying9 (by kernel_rfl) (by kernel_rfl);obtain⟨a1,s1,Z,_,_,_⟩:=laid_sentinel (g:=2) (ti:=112) (tp:=327) (te:=329) (ts:=9) (laidMet.tail V) Np (by kernel_rfl) underlying112 JV underlying327 underlying329 rfl rfl underlying9 (by kernel_rfl) (by kernel_rfl);have c0:=World.var?_cell No Y 0;have c1:=World.var?_cell Np Z 0;exact⟨⟨MM h,ht,World.block_lt_of_cell? W _ (ht.cell NL 0 (by decide))⟩,⟨_,by simpa using c1, .inr ⟨_,_,rfl⟩⟩,⟨_,by simpa using c0, .inr ⟨_,_,rfl⟩⟩⟩
end Go.Proofs.YtldflkomhbfceaaGreatDoor
namespace Go.Proofs.YtldflkomhbfceaaGreatDoor
open Go.Proofs.Tryz
open Go Go.RowKit Go.Sy Yk
open Go.ChangeShapes Go.WideShapes Go.ChangeAt
theorem aiR:prog.globalNamed "yardstick/enclosure.errFails" =some 0:=by kernel_rfl
theorem aho {W:World} (h:W.ShapedOpen prog) (J:laidMetH prog oR W): ∃a,GlobE a W:=by
 have hU:=JW h J;rw[MakeChecks.laidMetH_plain _ _ _ (by kernel_rfl)] at J;have V:=laidMet.tail (laidMet.tail (laidMet.tail (laidMet.tail (laidMet.tail (laidMet.tail J)))));obtain⟨Z,s0,Y,_,_,_⟩:=laid_sentinel (g:=0) (ti:=112) (tp:=327) (te:=329) (ts:=9) V aiR (by kernel_rfl) underlying112 JV underlying327 underlying329 rfl rfl underlying9 (by kernel_rfl) (by kernel_rfl);have c0:=World.var?_cell aiR Y 0;exact⟨Z,hU,by unfold evE;simpa using c0⟩
end Go.Proofs.YtldflkomhbfceaaGreatDoor
