import Derived.Test.YtojcellmcbnmeaaGreatDoorZe
import Derived.Recover
import Derived.Tactics
import Derived.Tactics2
import Derived.Laws.Pointers
import Derived.LaidEql
import Derived.Stop.Asserts
import Derived.RowKitTokens
import Derived.WalkKit
set_option linter.unusedVariables false
set_option linter.unusedSimpArgs false
set_option maxHeartbeats 2000000
set_option maxRecDepth 100000
noncomputable section
namespace Yk
open Go.Proofs.YtojcellmcbnmeaaGreatDoor
open Go Go.Sy
def Fw (k:Nat) (x:RS×Int) (q:Rat):Prop:= ∃c,x=(c,0)/\FewR k c/\qV c=q
theorem y6 {n d:Int} {k:Nat} (J:d≠0) (h1:n.natAbs<10^k) (h2:d.natAbs<10^k) (H:k<=200):Fw k (rMk n d) (Rat.divInt n d):=
 ⟨_,kL (jp h1 H) (jp h2 H) J,(Few.divInt J h1 h2).rT H,BW _⟩
section
variable {a b:RS} {i j:Nat}
theorem den_pos (H:FewR i a):0<nS a.2:=(ay H.1).2.2.1
theorem FewR.fdiv (H:FewR i a) (J:FewR j b) (h0:qV b≠0) (h:i+j<=200):Fw (i+j) (cA a b) (qV a / qV b):=by
 have g:=jP (FewR.div H J h0 h);have Y:nS a.2*nS b.1≠0:=Int.mul_ne_zero (by have:=den_pos H;omega) (λe=>h0 ((kM J.1).2 e));have m:cA a b=rMk (nS a.1*nS b.2) (nS a.2*nS b.1):=by unfold cA;rw[if_pos (by simp[H.1,J.1])]
 obtain⟨c,N,V,_⟩:=y6 (n:=nS a.1*nS b.2) (k:=i+j) Y (by rw[zaF];exact bD H.2.1 J.2.2) (by rw[zaF];exact bD H.2.2 J.2.1) h;exact⟨c,by rw[m,N],V,by have:=g.2.2.2.val;rw[m,N] at this;exact this⟩
theorem FewR.mono (H:FewR i a) (h:i<=j):FewR j a:=
 ⟨H.1,zam H.2.1 (zb7 (by decide) h),zam H.2.2 (zb7 (by decide) h)⟩
theorem pF (H:FewR i a):uzR a=true:=by
 have:=ay H.1;unfold uzR uz;rw[zdp (by have:=dp this.1;unfold maxLen;omega),zdp (by have:=dp this.2.1;unfold maxLen;omega)];rfl
end
theorem Iw {p q:Int×Int}:eq2 p q=true↔p=q:=by unfold eq2;simp[Prod.ext_iff]
variable {d:D7}
theorem xb {e:D7}:eq7 d e=true↔d=e:=by
 unfold eq7;simp only[za2,Iw];constructor
 ·rintro⟨h0,h1,h2,h3,h4,h5,h6,_⟩;cases d;cases e;simp only at h0 h1 h2 h3 h4 h5 h6;subst h0;subst h1;subst h2;subst h3;subst h4;subst h5;subst h6;rfl
 ·rintro rfl;exact⟨rfl,rfl,rfl,rfl,rfl,rfl,rfl,trivial⟩
theorem Wg {a b:RS}:eqR a b=true↔a=b:=by
 unfold eqR;simp only[zaQ,za2,We];exact⟨λ⟨h1,h2⟩=>Prod.ext h1 h2,λh=>by rw[h];exact⟨rfl,rfl⟩⟩
theorem Wh {u v:Un}:eqU u v=true↔u=v:=by
 unfold eqU;simp only[zaQ,za2,xb,Wg,zdy];constructor
 ·rintro⟨h0,h1,h2,h3,h4⟩;cases u;cases v;simp only at h0 h1 h2 h3 h4;subst h0;subst h1;subst h2;subst h3;subst h4;rfl
 ·rintro rfl;exact⟨rfl,rfl,rfl,rfl,rfl⟩
theorem Iy (d:RS):eqR d d=true:=Wg.2 rfl
theorem Iz (d:Un):eqU d d=true:=Wh.2 rfl
structure UOK (k:Nat) (u:Un):Prop where
 valid:VK u=true
 f:FewR k u.f
 o:FewR k u.o
theorem M7:qV rZ=0:=by decide
theorem M8:rV rZ=true:=by decide
theorem aiZ:FewR 1 rZ:=⟨by decide,by decide,by decide⟩
variable {n:Int}
theorem y7 {lo hi:Int}:aj n lo hi=true↔lo<=n/\n<=hi:=by unfold aj;simp
variable {q:Rat}
theorem y8:0<zY q 0↔0<q:=by
 have:= @J1 q 0;constructor
 ·intro h;apply Rat.not_le.1;intro hh;have:=this.2 hh;omega
 ·intro h;apply Int.not_le.1;intro hh;exact Rat.not_le.2 h (this.1 hh)
variable {u:Un}
theorem WE:VK u=true↔ct u.d=true/\rV u.f=true/\rV u.o=true/\0<qV u.f/\(0<=u.k/\u.k<=100)/\(u.s=0\/u=bT u.d u.f u.k):=by
 unfold VK;simp only[za2,zav,zdt,y7,zdy,Wh];constructor
 ·rintro⟨h1,h2,h3,h4,h5,h6⟩;exact⟨h1,h2,h3,by rwa[rD h2 M8,M7,y8] at h4,h5,h6⟩
 ·rintro⟨h1,h2,h3,h4,h5,h6⟩;exact⟨h1,h2,h3,by rwa[rD h2 M8,M7,y8],h5,h6⟩
theorem Lz (h:0<q):q≠0:=λe=>by rw[e] at h;exact Rat.lt_irrefl h
variable {k:Nat}
theorem UOK.pos (h:UOK k u):0<qV u.f:=(WE.1 h.valid).2.2.2.1
theorem UOK.ne (h:UOK k u):qV u.f≠0:=Lz h.pos
theorem Xo {f:RS} {k:Int} (h1:ct d=true) (h2:rV f=true) (h3:0<qV f) (h4:0<=k/\k<=100):VK (bT d f k)=true:=
 WE.2 ⟨h1,h2,M8,h3,h4, .inr rfl⟩
theorem Yx (h:VK u=true):VK (bT u.d u.f u.k)=true:=by
 have h:=WE.1 h;exact Xo h.1 h.2.1 h.2.2.2.1 h.2.2.2.2.1
theorem UOK.plain (h:UOK k u) (H:1<=k):UOK k (bT u.d u.f u.k):=⟨Yx h.valid,h.f,aiZ.mono H⟩
abbrev I4:=Int×Int×Int×Int
def atF (q:Int) (H J N:Int×Int) (j:Int):Int×Int:=bif j==q then H else bif j==q+1 then J else bif j==q+2 then N else(0,1)
def smallF (v:Int×Int):RS:=(rMk (co v.1 1999 - 999) (1+co v.2 60)).1
theorem gR (c:Int) (H:0<n):0<=co c n/\co c n<n:=by
 unfold co;cases h:decide (c<0) with
 |true=>
  have:=zdu h;exact⟨zco _ (by simp only[zdr];omega),zcn _ H⟩
 |false=>
  have:=zdv h;exact⟨zco _ (by simp only[zdq];omega),zcn _ H⟩
end Yk
namespace Go.Proofs.YtojcellmcbnmeaaGreatDoor
open Go Go.RowKit Go.Sy Yk
theorem GOk.append {g h:List (FuncId×Ctr)} (hg:GOk g) (hh:GOk h):GOk (g++h):=⟨λW H p hp=>by
 rcases za8.1 hp with hp|hp
 ·exact hg.all W H p hp
 ·exact hh.all W H p hp⟩
def b0:List (FuncId×Ctr):=g7++h8
variable {Q:Prop}
theorem LA {z:Int} (h: -9223372036854775808<=z/\z<=9223372036854775807) (H:Q):af (inR .i64 z) Q:=by
 rw[VP.2 h];exact H
theorem xc {b:Bool} (h:b=true) (H:Q):af b Q:=by rw[h];exact H
theorem atQ {d:D7} (h:ct d=true) (f:RS) (k:Int):dV d f k=bT d f k:=by
 unfold dV bT;rw[y5 h,Bool.and_comm]
def u4 (x:I4):Bool:=cl x.1&&(cl x.2.1&&(cl x.2.2.1&&cl x.2.2.2))
def abI (s H:zdH):List ByteArray:=Lib.splitB H 0 (Lib.countB s H) s
def ab0 (s:zdH):Int:=match Lib.atoiAll s.data.toList with
 | .ok v=>v
 | .range=>Lib.atoiSat s.data.toList
 |_=>0
def abR (s:zdH):Bool:=match Lib.atoiAll s.data.toList with
 | .ok _=>true
 |_=>false
open Go.Proofs.Tryz
def abJ (s:zdH) (e:Value):Prop:=match abR s with
 |true=>e= .nilIface
 |false=> ∃t p,e= .iface t p
theorem abK (s:zdH): ∃e,abJ s e:=by
 unfold abJ;cases abR s with
 |true=>exact⟨.nilIface,rfl⟩
 |false=>exact⟨.iface 0 .nilIface,0, .nilIface,rfl⟩
def abZ:MCtr:=λ_ _ args=>match args with
 | [.val (.string s)]=>some {X:=Value,pre:=decide (s.size<=1000000),spec:=abJ s,out:=λe=> .tup [.val (.int .i64 (ab0 s)), .val e],ex:=λ_=>abK s}
 |_=>none
def abN (l:List ByteArray):Blk:={n:=l.length,sz:=1,get:=λe=> [.val (.string (F7 l e))],kd:= .own}
def abV:MCtr:=λ_ nx args=>match args with
 | [.val (.string s), .val (.string H)]=>some {X:=Unit,pre:=decide (s.size<=1000000)&&decide (1<=H.size),spec:=λ_=>True,out:=λ_=> .slc nx 0 (abI s H).length,nw:=λ_=> [abN (abI s H)],ex:=λ_=>⟨(),trivial⟩}
 |_=>none
section
variable {W0:World}
theorem ad4 {bl:zdM} {nx:Nat} (h:NX bl nx) (B:Blk):fv bl nx [B]=upd bl nx B:=by
 funext i
 unfold fv upd;rw[aB,bS];by_cases h1:i<nx
 ·rw[zdp h1,zds (by omega: ¬i=nx)];rfl
 ·by_cases h2:i=nx
  ·subst h2;rw[zds h1,zdp rfl,zaJ];rfl
  ·rw[zds h1,zds h2];simp only[zdq];rw[h i (by omega)];exact zad (by simp;omega)
theorem agA {W0:Base} (hg:GlobB W0):VU prog W0 149 abZ:=by
 intro bl β w nx args C Y i0 m0 g0 Z hp;clear g0;unfold abZ at Z;split at Z
 ·rename_i s;simp only[za1] at Z;subst Z;have hs:s.size<=1000000:=zdu hp;have hg:=hg w Y.below;obtain⟨_,⟨ev,hv,e0⟩,⟨er,hr,a0⟩⟩:=hg;have V: ∀(e:Value) (w':World),abJ s e->Below w.heap.size w w'-> ∃x,abJ s x/\ ∃β',Ending.returned (.tuple #[.int .i64 (ab0 s),e])= .returned ((SV.tup [.val (.int .i64 (ab0 s)), .val x]).conc β')/\BC W0 (fv bl nx []) β' w'/\(∀i,bl i≠none->β' i=β i)/\Live (fv bl nx []) (.tup [.val (.int .i64 (ab0 s)), .val x]):=λe w' h J=>
   ⟨e,h,β,by simp[SV.conc,SV.concs],abx Y m0 (by simp[SV.ids,SV.idss]) J⟩
  have kS: ∀(_:Lib.atoiAll s.data.toList≠ .range) (_: ∀v,Lib.atoiAll s.data.toList≠ .ok v),Calls prog 149 #[.string s] w λe w'=> ∃N,e= .returned (.tuple #[.int .i64 0, .iface 279 (.pointer (some ⟨N,0,none⟩))])/\Below w.heap.size w w':=by
   intro n1 n2;cases H:Lib.atoiAll s.data.toList
   ·exact absurd H (n2 _)
   ·refine Calls.mono (Any.strconv_Atoi_syntax laysC172 s (by omega) H ev w hv e0) ?_;rintro e w' ⟨N,he,_,_,J⟩;exact⟨N,he,J⟩
   ·exact absurd H n1
  have kR:Lib.atoiAll s.data.toList= .range->Calls prog 149 #[.string s] w λe w'=> ∃N,e= .returned (.tuple #[.int .i64 (Lib.atoiSat s.data.toList), .iface 279 (.pointer (some ⟨N,0,none⟩))])/\Below w.heap.size w w':=by
   intro H;refine Calls.mono (Any.strconv_Atoi_range laysC172 s (by omega) H er w hr a0) ?_;rintro e w' ⟨N,he,_,_,J⟩;exact⟨N,he,J⟩
  cases H:Lib.atoiAll s.data.toList
  ·rename_i v;refine(strconv_Atoi_ok s (by omega) v H w).mono ?_;rintro e w' ⟨rfl,hw⟩;have h1:ab0 s=v:=by unfold ab0;rw[H]
   have h2:abJ s .nilIface:=by unfold abJ abR;rw[H]
   have:=V .nilIface w' h2 (by
    rcases hw with rfl|⟨t,rfl⟩
    ·exact zdD _ _
    ·exact Lib.bytesWorld_below w 5 t)
   rw[h1] at this;rw[h1];exact this
  ·refine(kS (by rw[H];exact λh=>by cases h) (by rw[H];exact λv h=>by cases h)).mono ?_;rintro e w' ⟨N,rfl,J⟩;have h1:ab0 s=0:=by unfold ab0;rw[H]
   have h2: ∀t p,abJ s (.iface t p):=λt p=>by unfold abJ abR;rw[H];exact⟨t,p,rfl⟩
   have:=V (.iface 279 (.pointer (some ⟨N,0,none⟩))) w' (h2 _ _) J;rw[h1] at this;rw[h1];exact this
  ·refine(kR H).mono ?_;rintro e w' ⟨N,rfl,J⟩;have h1:ab0 s=Lib.atoiSat s.data.toList:=by unfold ab0;rw[H]
   have h2: ∀t p,abJ s (.iface t p):=λt p=>by unfold abJ abR;rw[H];exact⟨t,p,rfl⟩
   have:=V (.iface 279 (.pointer (some ⟨N,0,none⟩))) w' (h2 _ _) J;rw[h1] at this;rw[h1];exact this
 ·cases Z
theorem aeC {s sep:zdH} (h:1<=sep.size):(abI s sep).length=Lib.countB s sep+1:=Lib.splitB_all sep h 0 _ s rfl
theorem adm {W0:Base} (hg:GlobB W0):VU prog W0 73 abV:=by
 intro bl β w nx args C V e0 N a0 Y hp;clear a0;unfold abV at Y;split at Y
 ·rename_i s H;simp only[za1] at Y;subst Y;simp only[za2,zdt] at hp;obtain⟨⟨⟨m,hm⟩,_⟩,_⟩:=hg w V.below;refine(strings_Split s H m w (by omega) hm hp.2).mono ?_;rintro e w' ⟨rfl,rfl⟩;have hid:bl nx=none:=N nx (za0 _);have hl:=aeC (s:=s) hp.2
  have k:=V.alloc (id:=nx) hid (B:=abN (abI s H)) rfl (λ_ _=>rfl) (λe o x _ J=>by
   unfold abN at J;have:=zal J;simp only[zaj] at this;rw[this];exact aW (by simp[SV.ids])) ((abI s H).map λx=>SV.val (.string x)) (by simp[abN]) (λe o x Z J=>by
    unfold abN at J Z ⊢;simp only at J Z ⊢;cases o with
    |zero=>
     simp only[zbA,za1] at J;rw[zbZ,zaY,zaL,ae7 Z,<-J];rfl
    |succ o=>simp at J) 9
  have ec:SV.concs β ((abI s H).map λx=>SV.val (.string x))=(abI s H).map Value.string:=by
   rw[SV.concs_eq,zct];rfl
  rw[ec] at k;refine⟨(),trivial,gp β nx ⟨w.heap.size,0,1,(abI s H).length,false⟩, ?_, ?_,λi hi=>aC (λe=>hi (e▸hid)), ?_⟩
  ·show _=Ending.returned (SV.conc _ (.slc nx 0 (abI s H).length));rw[jq (by rw[aA]) (.inr rfl)];unfold addr;rw[aA];simp only[hl];rfl
  ·show BC W0 (fv bl nx [abN (abI s H)]) _ _;rw[ad4 N];exact k
  ·show Live (fv bl nx [abN (abI s H)]) (.slc nx 0 (abI s H).length);rw[ad4 N];intro i hi;simp only[SV.ids,zaj] at hi;subst hi;rw[az];simp
 ·cases Y
theorem ahz (hg:GlobU W0):CtrOK prog W0 68 (k1 cI cS cl ofI):=
 dD λn h β w H=>by
  have h:=V4.1 h;refine(strconv_Itoa n h.1 h.2 w (hg.below H).1.2.1).mono ?_;rintro e w' ⟨rfl,k,os,rfl⟩;refine⟨rfl, ?_⟩;exact⟨rfl,rfl,rfl,by simp[Go.Sort.grow],λb H=>by simp[Go.Sort.grow,zdo,H]⟩
end
def gmT:zdX:= [(148,abt),(73,abV),(149,abZ)]
def ab1:List FuncId:=148::73::149::NK
abbrev runX (g:List (FuncId×Ctr)) (ann:zdV) (n:Nat) (f:FuncId) (args:zdK) (K:zdR):Prop:=wq Tryz.prog (iR ab1) (gw g) (gx gmT) ann n f args (λ_=>none) 0 [] (okK λr _ _ _=>K r)
variable {a b:Un}
theorem Wj:jk a b=true↔VK a=true/\VK b=true/\a.d=b.d/\a.f=b.f/\a.k=b.k:=by
 unfold jk;simp only[za2,xb,Wg,zdy];constructor
 ·rintro⟨⟨⟨⟨h1,h2⟩,h3⟩,h4⟩,h5⟩;exact⟨h1,h2,h3,h4,h5⟩
 ·rintro⟨h1,h2,h3,h4,h5⟩;exact⟨⟨⟨⟨h1,h2⟩,h3⟩,h4⟩,h5⟩
theorem ieq (a b:Int):(a==b)=decide (a=b):=by rw[zax];simp
theorem P1 (a b:Int):(a !=b)= !decide (a=b):=by unfold bne;rw[ieq]
instance instDecD7 (a b:D7):Decidable (a=b):=decidable_of_iff (eq7 a b=true) xb
theorem IA {b:Bool} (h: ¬b=true):b=false:=by cases b<;>simp_all
theorem Ba (H:VK a=true) (J:VK b=true):
 fw a b=if a.d=b.d/\a.f=b.f/\a.k=b.k/\(b.s≠0\/a.s=0/\a.o=b.o) then(if b.s≠0 then(a,0) else(bT a.d a.f a.k,0)) else(noU,70):=by
 unfold fw;by_cases h:a.d=b.d/\a.f=b.f/\a.k=b.k
 ·rw[Wj.2 ⟨H,J,h⟩];by_cases h2:b.s=0
  ·by_cases h3:a.s=0/\a.o=b.o
   ·have e:a=b:=by
     cases a;cases b;simp only at h h2 h3;obtain⟨rfl,rfl,rfl⟩:=h;obtain⟨rfl,rfl⟩:=h3;subst h2;rfl
    subst e;simp[h2,Iz]
   ·have e:eqU a b=false:=IA λe=>by
     have:=Wh.1 e;subst this;exact h3 ⟨h2,rfl⟩
    simp[h2,e,h3]
  ·simp[h,h2,P1]
 ·rw[IA (λe=>h (Wj.1 e).2.2),if_neg (λe=>h ⟨e.1,e.2.1,e.2.2.1⟩)];rfl
section
variable {a b c d:Un} {p q:RS}
end
section
variable {a b c d:Un} {p q:RS} {i j:Nat}
end
theorem D7.eq {a b:D7} (h0:a.d0=b.d0) (h1:a.d1=b.d1) (h2:a.d2=b.d2) (h3:a.d3=b.d3) (h4:a.d4=b.d4) (h5:a.d5=b.d5) (h6:a.d6=b.d6):a=b:=by
 cases a;cases b;simp only at h0 h1 h2 h3 h4 h5 h6;subst h0;subst h1;subst h2;subst h3;subst h4;subst h5;subst h6;rfl
section
variable {a b c:Un} {i:Nat}
end
def rrP (a b:RS) (Q:Prop):Prop:=af (uzR a&&uzR b) Q
theorem _root_.Yk.UOK.sz {k:Nat} {u:Un} (h:UOK k u):aH u=true:=by
 unfold aH;rw[pF h.f,pF h.o];rfl
theorem pG {a b:RS} {Q:Prop} (J:uzR a=true) (N:uzR b=true) (H:Q):rrP a b Q:=by
 unfold rrP;rw[J,N];exact H
abbrev B64 (z:Int):Prop:= -9223372036854775808<=z/\z<=9223372036854775807
theorem iA:aH noU=true:=by decide
theorem y9 (d:D7×Bool) {f:RS×Int} (h:uzR f.1=true) (k:Int):aH (qi d f k).1=true:=by
 unfold qi;cases (!d.2||f.2 !=0) with
 |true=>exact iA
 |false=>unfold aH bT;simp only[zdq];rw[h];exact(by decide:(true&&uzR rZ)=true)
theorem CK (a b:Un):aH (mi a b).1=true:=by
 unfold mi;cases (!aU a|| !aU b) with
 |true=>exact iA
 |false=>exact y9 _ (gI _ _) _
theorem oA (a b:Un):aH (fd a b).1=true:=by
 unfold fd;cases (!aU a|| !aU b) with
 |true=>exact iA
 |false=>exact y9 _ (lY _ _) _
abbrev WX:=Int×RS
variable {a:Un}
theorem re (h:aH a=true) (p:Int×Int):aH (jm a p).1=true:=by
 unfold jm;cases (!aU a|| !aR p||(p.2 !=1&& !eqR a.f rI)) with
 |true=>exact iA
 |false=>
  simp only[zdq];cases (!(eS (wV p a.d)).2||(tI p.1 (bif p.2==1 then bV a.f p.1.natAbs else(false,rI))).1) with
  |true=>exact iA
  |false=>
   have:uzR (tI p.1 (bif p.2==1 then bV a.f p.1.natAbs else(false,rI))).2=true:=by
    have h2:uzR (bif p.2==1 then bV a.f p.1.natAbs else(false,rI)).2=true:=by
     cases p.2==1 with
     |true=>exact XV _ _
     |false=>exact Ij
    unfold tI;cases decide (p.1<0)&& !(bif p.2==1 then bV a.f p.1.natAbs else(false,rI)).1 with
    |true=>exact lY _ _
    |false=>exact h2
   unfold aH bT;simp only[zdq];rw[this];exact(by decide:(true&&uzR rZ)=true)
variable {r:RS} {k:Nat}
theorem EQ (h:(bV r (k+1)).1=false):(bV r k).1=false/\(ale (bV r k).2 r).2=0/\(bV r (k+1)).2=(ale (bV r k).2 r).1:=by
 unfold bV acV at h;cases e:(bV r k).1 with
 |true=>rw[e] at h;simp only[zbh,zdq] at h;rw[e] at h;cases h
 |false=>
  rw[e] at h;simp only[zbg,zdr,zbi,bne_eq_false_iff_eq] at h;refine⟨rfl,h, ?_⟩
  conv=>lhs;unfold bV acV
  rw[e];rfl
theorem zc {r:RS}: ∀{N k:Nat},(bV r N).1=false->k<=N->(bV r k).1=false
 |0,k,h,H=>by
  have:k=0:=by omega
  subst this;exact h
 |N+1,k,h,H=>by
  by_cases e:k=N+1
  ·subst e;exact h
  ·exact zc (EQ h).1 (by omega)
def ssP (a b:Un) (Q:Prop):Prop:=af (aH a) (af (aH b) Q)
def noK (K:zdR):Prop:=K ((cP cU cI).enc (noU,70))
def okK (K:zdR) (u:Un):Prop:=K ((cP cU cI).enc (u,0))
def LB (a b:Un):Bool:=iy a&&iy b&&a.s !=0&&b.s !=0
def aiF (a b:Un) (K:zdR):Prop:=
 ssP a b (ag (!LB a b) (noK K) (Q3 (AZ 1) a.d b.d (ku (kw 1) a.d b.d) (λ_ _=>rrP a.f b.f (noK K)) (rrP a.f b.f (ag ((ale a.f b.f).2 !=0) (noK K)
  (ag (b.s==2) (okK K (dV (ku (kw 1) a.d b.d) (ale a.f b.f).1 a.k)) (ag (a.s==2) (okK K (dV (ku (kw 1) a.d b.d) (ale a.f b.f).1 b.k)) (okK K (dV (ku (kw 1) a.d b.d) (ale a.f b.f).1 0))))))))
def Na (a b:Un) (K:zdR):Prop:=
 ssP a b (ag (!LB a b) (noK K) (Q3 (AZ (-1)) a.d b.d (ku (kw (-1)) a.d b.d) (λ_ _=>rrP a.f b.f (noK K)) (rrP a.f b.f (ag ((cA a.f b.f).2 !=0) (noK K)
  (ag (b.s==2) (okK K (dV (ku (kw (-1)) a.d b.d) (cA a.f b.f).1 a.k)) (okK K (dV (ku (kw (-1)) a.d b.d) (cA a.f b.f).1 0)))))))
theorem LC (a b:Un) (K:zdR):gJ h8 noA 3 156 [cU.enc a,cU.enc b] K=aiF a b K:=by kernel_rfl
theorem LD (a b:Un) (K:zdR):gJ h8 noA 3 155 [cU.enc a,cU.enc b] K=Na a b K:=by kernel_rfl
def pH (a b:Un):Bool:=iy a&&iy b&&eq7 a.d b.d&&eqR a.f b.f&&a.k==b.k
theorem LE (a b:Un) (K:zdR):gJ h8 noA 3 159 [cU.enc a,cU.enc b] K=ssP a b (ag (!pH a b||(a.s==0&&b.s==0)) (noK K) (ag (b.s==0) (okK K b) (okK K a))):=by kernel_rfl
theorem IB (a b:Un) (K:zdR):gJ h8 noA 3 160 [cU.enc a,cU.enc b] K=
 ssP a b (ag (!pH a b) (noK K) (ag (b.s !=0) (okK K a) (ag (!(a.s==0)|| !eqR a.o b.o) (noK K) (okK K (dV a.d a.f a.k))))):=by kernel_rfl
def CL (I:WX->Prop) (N:Int):zdV:=λf k=>bif Nat.beq f 161&&Nat.beq k 15 then some (λA=>{X:=WX,inv:=I,tm:=λx=> [(14, .val (.int .i64 x.1))],st:= [(kA A 13,λx=> [.val (.string x.2.1), .val (.string x.2.2)])],mu:=λx=>(N - x.1).toNat,keep:= [2,3,4,9,13]}) else none
def pvM (p:Int) (v:RS) (z:WX):Prop:=
 (TV.v (cI.enc p)=TV.v (cI.enc z.1)/\cg 0/\cg 1/\cg 2/\cg 36/\cg 279/\True)/\(True/\((([SV.val (.string v.1), .val (.string v.2)]:zdK)= [.val (.string z.2.1), .val (.string z.2.2)]/\True)/\True))
def CN (a:Un) (p:Int×Int) (D:D7) (f:RS) (K:zdR):Prop:=ag (eq2 p (1,1)) (okK K (dV D f a.k)) (okK K (dV D f 0))
def Oy (I:WX->Prop) (N:Int) (a:Un) (p:Int×Int) (D:D7) (K:zdR):Prop:=
 ∃J:WX,I J/\(pvM 0 rI J/\ ∀z:WX,I z->af (aj p.1 (-1000000) 1000000) (ag (decide (z.1<cC p.1)&&p.2==1)
  (rrP z.2 a.f (ag ((ale z.2 a.f).2 !=0) (noK K) (af (inR .i64 (z.1+1)) (∃H:WX,I H/\((N - H.1).toNat<(N - z.1).toNat/\pvM (z.1+1) (ale z.2 a.f).1 H)))))
  (ag (decide (p.1<0)) (rrP rI z.2 (ag ((cA rI z.2).2 !=0) (noK K) (CN a p D (cA rI z.2).1 K))) (CN a p D z.2 K))))
def Nb (I:WX->Prop) (N:Int) (a:Un) (p:Int×Int) (K:zdR):Prop:=
 af (aH a) (ag (!iy a|| !(x4 p).1||a.s==0||(p.2 !=1&& !eqR a.f rI)) (noK K) (Q3 (Ii p) a.d a.d (wV p a.d) (λ_ _=>noK K) (Oy I N a p (wV p a.d) K)))
theorem LF (I:WX->Prop) (N:Int) (a:Un) (p:Int×Int) (K:zdR):gJ h8 (CL I N) 3 161 [cU.enc a,c22.enc p] K=Nb I N a p K:=by kernel_rfl
variable {b:Un}
theorem RN {Q:Prop} (h:(aH a&&aH b)=true) (H:Q):ssP a b Q:=by
 rw[za2] at h;exact xc h.1 (xc h.2 H)
theorem CO (a b:Un):(!LB a b)=(!aU a|| !aU b):=by
 unfold LB aU;rw[jE,jE];cases VK a<;>cases VK b<;>cases a.s !=0<;>cases b.s !=0<;>rfl
theorem IC (n:Int):((2:Int)==n)=(n==2):=by
 rw[zax,zdy,zdy];exact⟨Eq.symm,Eq.symm⟩
theorem zd (d:D7) (f:RS×Int) (k:Int):qi (d,false) f k=(noU,70):=rfl
theorem adn (d:D7) (f:RS×Int) (k:Int):qi (d,true) f k=bif f.2 !=0 then(noU,70) else(bT d f.1 k,0):=rfl
variable {K:zdR}
theorem Bb (h:(aH a&&aH b)=true) (H:K ((cP cU cI).enc (mi a b))):aiF a b K:=by
 have J:=h;rw[za2] at J;refine RN h ?_;unfold mi at H;rw[CO,VH];refine⟨λq=>(by rw[q] at H;exact H),λq=> ?_⟩;rw[q,zdq,IC,IC] at H;have f:=If q;have V:=bP f.1;have Y:=bP f.2;refine iu (tE (.inl rfl) V Y) (λ_ d Z _=> ?_) (λN=> ?_)
 ·rw[Z,zd] at H;exact pG (eL J.1).1 (eL J.2).1 H
 ·rw[ir N,adn] at H;refine pG (eL J.1).1 (eL J.2).1 ?_;unfold okK noK;simp only[atQ N];rw[VH];refine⟨λq=>(by rw[q] at H;exact H),λq=> ?_⟩;rw[q,zdq] at H;rw[VH];refine⟨λq=>(by rw[q] at H;exact H),λq=> ?_⟩;rw[q,zdq] at H;rw[VH];refine⟨λq=>(by rw[q] at H;exact H),λq=>(by rw[q] at H;exact H)⟩
theorem Bc (h:(aH a&&aH b)=true) (H:K ((cP cU cI).enc (fd a b))):Na a b K:=by
 have J:=h;rw[za2] at J;refine RN h ?_;unfold fd at H;rw[CO,VH];refine⟨λq=>(by rw[q] at H;exact H),λq=> ?_⟩;rw[q,zdq] at H;have f:=If q;have V:=bP f.1;have Y:=bP f.2;refine iu (tE (.inr rfl) V Y) (λ_ d Z _=> ?_) (λN=> ?_)
 ·rw[Z,zd] at H;exact pG (eL J.1).1 (eL J.2).1 H
 ·rw[ir N,adn] at H;refine pG (eL J.1).1 (eL J.2).1 ?_;unfold okK noK;simp only[atQ N];rw[VH];refine⟨λq=>(by rw[q] at H;exact H),λq=> ?_⟩;rw[q,zdq] at H;rw[VH];refine⟨λq=>(by rw[q] at H;exact H),λq=>(by rw[q] at H;exact H)⟩
theorem vJ (a b:Un):pH a b=jk a b:=by
 unfold pH jk;rw[jE,jE]
theorem Be (h:(aH a&&aH b)=true) (H:K ((cP cU cI).enc (iS a b))):ssP a b (ag (!pH a b||(a.s==0&&b.s==0)) (noK K) (ag (b.s==0) (okK K b) (okK K a))):=by
 refine RN h ?_;unfold iS at H;rw[vJ,VH];refine⟨λq=>(by rw[q] at H;exact H),λq=> ?_⟩;rw[q,zdq] at H;rw[VH];refine⟨λq=>(by rw[q] at H;exact H),λq=>(by rw[q] at H;exact H)⟩
theorem ze (h:(aH a&&aH b)=true) (H:K ((cP cU cI).enc (fw a b))):ssP a b (ag (!pH a b) (noK K) (ag (b.s !=0) (okK K a) (ag (!(a.s==0)|| !eqR a.o b.o) (noK K) (okK K (dV a.d a.f a.k))))):=by
 refine RN h ?_;rw[vJ,VH];refine⟨λq=> ?_,λq=> ?_⟩
 ·unfold fw at H;rw[q] at H;exact H
 have J:=Wj.1 (qt q);rw[Ba J.1 J.2.1] at H;rw[VH];refine⟨λY=> ?_,λY=> ?_⟩
 ·have N:b.s≠0:=by simpa using Y
  rw[if_pos ⟨J.2.2.1,J.2.2.2.1,J.2.2.2.2, .inl N⟩,if_pos N] at H;exact H
 have N:b.s=0:=by simpa using Y
 rw[VH];refine⟨λV=> ?_,λV=> ?_⟩
 ·rw[if_neg (λe=>by
   rcases e.2.2.2 with e|e
   ·exact e N
   ·rw[e.1,e.2,Iy] at V;exact absurd V (by decide))] at H
  exact H
 ·simp only[zbs,Bool.not_eq_false',zdy,Wg] at V;rw[if_pos ⟨J.2.2.1,J.2.2.2.1,J.2.2.2.2, .inr V⟩,if_neg (by simpa using N)] at H;unfold okK;rw[atQ (tH J.1)];exact H
def pvI (a:Un) (p:Int×Int) (z:WX):Prop:=(0<=z.1/\z.1<=cC p.1)/\(p.2=1\/z.1=0)/\bV a.f z.1.toNat=(false,z.2)
theorem zg (p:Int) (v:RS):pvM p v (p,v):=⟨⟨rfl,rfl,rfl,rfl,rfl,rfl,trivial⟩,trivial,⟨rfl,trivial⟩,trivial⟩
theorem Bf {N:Nat} (h:(bV r k).1=true) (H:k<=N):(bV r N).1=true:=by
 cases e:(bV r N).1 with
 |true=>rfl
 |false=>rw[zc e H] at h;cases h
theorem ID {n:Int} {x:Bool×RS} (h:x.1=true):(tI n x).1=true:=by
 unfold tI;rw[h];simp[h]
theorem Bg {p:Int×Int} (h:aH a=true) (H:K ((cP cU cI).enc (jm a p))):Nb (pvI a p) (cC p.1) a p K:=by
 unfold jm at H;refine xc h ?_;have ec:(!iy a|| !(x4 p).1||a.s==0||(p.2 !=1&& !eqR a.f rI))=(!aU a|| !aR p||(p.2 !=1&& !eqR a.f rI)):=by
  rw[jE,lx];unfold aU bne;cases VK a<;>cases aR p<;>cases a.s==0<;>simp
 rw[ec,VH];refine⟨λq=>(by rw[q] at H;exact H),λq=> ?_⟩;rw[q,zdq] at H;have q1:aU a=true/\aR p=true:=by
  revert q;cases aU a<;>cases aR p<;>simp
 have hp:=j8 q1.2;have hm:0<=cC p.1/\cC p.1<=12/\(cC p.1).toNat=p.1.natAbs:=by
  unfold cC;split<;>omega
 refine iu (yX q1.2 (bP q1.1)) (λ_ d hd _=> ?_) (λhf=> ?_)
 ·rw[hd] at H;exact H
 rw[ir hf] at H;simp only[zbh,zbi] at H;refine⟨(0,rI),⟨⟨zat _,hm.1⟩, .inr rfl,rfl⟩,zg _ _, ?_⟩;rintro⟨k,v⟩ ⟨⟨h0,h1⟩,h2,h3⟩;simp only at h0 h1 h2 h3 ⊢;have hv:uzR v=true:=by
  have:=XV a.f k.toNat;rw[h3] at this;exact this
 refine xc (VL.2 (by omega)) ?_;rw[VH];refine⟨λc=> ?_,λc=> ?_⟩
 ·rw[za2,zdt,zdy] at c;have e:(k+1).toNat=k.toNat+1:=by omega
  have es:bV a.f (k.toNat+1)=((ale v a.f).2 !=0,(ale v a.f).1):=by
   conv=>lhs;unfold bV acV
   rw[h3];rfl
  refine pG hv (eL h).1 ?_;rw[VH];refine⟨λc2=> ?_,λc2=>LA (by omega) ⟨(k+1,(ale v a.f).1),⟨⟨by simp only;omega,by simp only;omega⟩, .inl c.2, ?_⟩,by simp only;omega,zg _ _⟩⟩
  ·have hb:(bV a.f (k.toNat+1)).1=true:=by rw[es];exact c2
   have Z:=Bf hb (show k.toNat+1<=p.1.natAbs by omega);rw[c.2] at H;simp only[BEq.rfl,zdr] at H;rw[ID Z] at H;exact H
  ·simp only;rw[e,es,c2]
 ·have ev:(bif p.2==1 then bV a.f p.1.natAbs else(false,rI))=(false,v):=by
   by_cases J:p.2=1
   ·rw[J] at c ⊢;simp only[BEq.rfl,zaQ,zdz] at c;have ek:k.toNat=p.1.natAbs:=by omega
    simp only[BEq.rfl,zdr];rw[<-ek,h3]
   ·have N:k=0:=h2.resolve_left J;subst N;rw[beq_eq_false_iff_ne.2 J];exact h3
  rw[ev] at H;have V: ∀f:RS,K ((cP cU cI).enc (bT (wV p a.d) f (bif eq2 p (1,1) then a.k else 0),0))->CN a p (wV p a.d) f K:=by
   intro f N;unfold CN okK;rw[atQ hf,atQ hf,VH];refine⟨λe=>(by rw[e] at N;exact N),λe=>(by rw[e] at N;exact N)⟩
  unfold tI at H;rw[VH];refine⟨λc2=> ?_,λc2=> ?_⟩
  ·rw[c2] at H;simp only[zbg,zc6,zdr] at H;refine pG (by decide) hv ?_;rw[VH];refine⟨λY=>(by rw[Y] at H;exact H),λY=>V _ (by rw[Y] at H;exact H)⟩
  ·rw[c2] at H;exact V _ H
def h9:List (FuncId×Ctr):=
 (156,k2 cU cU (cP cU cI) (λa b=>aH a&&aH b) mi)::(155,k2 cU cU (cP cU cI) (λa b=>aH a&&aH b) fd)::
 (159,k2 cU cU (cP cU cI) (λa b=>aH a&&aH b) iS)::(160,k2 cU cU (cP cU cI) (λa b=>aH a&&aH b) fw)::
 (161,k2 cU c22 (cP cU cI) (λa _=>aH a) jm):: []
theorem Xf:GOk h9:=by
 have e:GOk []:=⟨λ_ _ _ h=>by cases h⟩
 exact((((e.cons (λW H=>bC λa p h=>WD.yieldsV (ann:=CL (pvI a p) (cC p.1)) (n:=3) H de ((cP cU cI).ids _) (by rw[LF];exact Bg (K:=λr=>r=_) h rfl)) call161).cons
  (λW H=>bC λa b h=>WD.yieldsV (ann:=noA) (n:=3) H de ((cP cU cI).ids _) (by rw[IB];exact ze (K:=λr=>r=_) h rfl)) call160).cons
  (λW H=>bC λa b h=>WD.yieldsV (ann:=noA) (n:=3) H de ((cP cU cI).ids _) (by rw[LE];exact Be (K:=λr=>r=_) h rfl)) call159).cons
  (λW H=>bC λa b h=>WD.yieldsV (ann:=noA) (n:=3) H de ((cP cU cI).ids _) (by rw[LD];exact Bc (K:=λr=>r=_) h rfl)) call155).cons
  (λW H=>bC λa b h=>WD.yieldsV (ann:=noA) (n:=3) H de ((cP cU cI).ids _) (by rw[LC];exact Bb (K:=λr=>r=_) h rfl)) call156
def eU:El Un:={sz:=20,sv:=ci,of:=Px,d:=noU,rt:=Kp,ids:=fj,len:=λ_=>rfl,one:=by decide}
def eN:El Nd:={sz:=26,sv:=svN,of:=Vh,d:=noN,rt:=fR,ids:=arA,len:=λ_=>rfl,one:=by decide}
def eR:El RS:={sz:=2,sv:=gA,of:=NH,d:=VI,rt:=Kq,ids:=GG,len:=λ_=>rfl,one:=by decide}
def zh:List FuncId:= [
 50,
 196,
 200,
 131,
 205,
 198,
 203,
 201,
 202,
 204,
 199,
 65,
 11,
 46,
 13,
 55,
 62,
 63,
 64,
 17,
 18,
 49,
 141,
 194,
 175,
 197,
 130,
 195,
 24,
 246,
 297,
 57,
 48,
 76,
 75,
 135,
 129,
 107,
 19,
 80,
 78,
 35,
 176,
 42,
 77,
 158,
 230,
 58]
theorem xe: ∀f∈zh,V0 prog f:=by
 unfold zh;simp only[zc3]
 exact⟨
  call50,
  call196,
  call200,
  call131,
  call205,
  call198,
  call203,
  call201,
  call202,
  call204,
  call199,
  call65,
  call11,
  call46,
  call13,
  call55,
  call62,
  call63,
  call64,
  call17,
  call18,
  call49,
  call141,
  call194,
  call175,
  call197,
  call130,
  call195,
  call24,
  call246,
  call297,
  call57,
  call48,
  call76,
  call75,
  call135,
  call129,
  call107,
  call19,
  call80,
  call78,
  call35,
  call176,
  call42,
  call77,
  call158,
  call230,
  call58,λ_ h=>by cases h⟩
def IE:List (FuncId×Ctr):=(66,k2 cI cI (cP cR cI) (λa b=>cl a&&cl b) rMk)::(h9++(h8++g7))
theorem Nc:GOk IE:=GOk.cons ⟨λW H p hp=>by
 rcases za8.1 hp with hp|hp
 ·exact Xf.all W H p hp
 ·rcases za8.1 hp with hp|hp
  ·exact WD.all W H p hp
  ·exact Xe.all W H p hp⟩ (λW H=>PR H) call66
def xf:List (FuncId×Ctr):=
 IE
theorem WH:GOk xf:=
 Nc
def tL:FuncId->Option DCtr:=λf=>bif Nat.beq f 24 then some GM else none
@[irreducible] def dk (gm:zdX) (ann:zdV) (n:Nat) (f:FuncId) (args:zdK) (Cs:zdU) (K:Aft):Prop:=
 Ay prog (iR zh) (gw xf) (gx gm) tL ann n f args (λi=>Cs[i]?) Cs.length [] K
variable {gm:zdX} {ann:zdV} {n:Nat} {f:FuncId} {args:zdK} {Cs:zdU} {K':Aft}
theorem cQ {K:Aft} (h:dk gm ann n f args Cs K) (H: ∀r b n w,K r b n w->K' r b n w):dk gm ann n f args Cs K':=by
 unfold dk at h ⊢;exact NiceT.mono (Ea _ _ _ _ _ _ f args _ _ _ (λi hi=>zad hi)) h λr b n w _=>H r b n w
structure MOk (gm:List (FuncId×MCtr)):Prop where
 all: ∀B:Base,GlobB B-> ∀p∈gm,VU prog B p.1 p.2
theorem MOk.nil:MOk []:=⟨λ_ _ _ h=>by cases h⟩
variable {F:FuncId}
theorem MOk.cons {c:MCtr} (h:MOk gm) (k: ∀B:Base,GlobB B->VU prog B F c):MOk ((F,c)::gm):=⟨λB hB p hp=>by
 rcases zai.1 hp with rfl|hp
 ·exact k B hB
 ·exact h.all B hB p hp⟩
variable {B:Base}
theorem P2 (N:MOk gm) (hB:GlobB B):HypD prog B (iR zh) (gw xf) (gx gm) tL:=
 have h:Hyp prog B (iR zh) (gw xf) (gx gm):=mW (λp hp=>⟨CtrOK.base λw V=>(WH.all w (hB w V) p hp).1,(WH.all B.w (hB B.w (Pres.self B)) p hp).2⟩) (λB' s=>N.all B' (hB.sub s)) xe (by kernel_rfl)
 ⟨h.gam,h.mem,λB' s f k H=>by
   unfold tL at H;cases J:Nat.beq f 24 with
   |false=>rw[J] at H;cases H
   |true=>
    rw[J] at H;simp only[zdr,za1] at H;subst H
    rw[zab J];exact GN B',h.ok,h.mixed⟩
variable {k:MCtr}
theorem eW (V:MOk gm) (h: ∀(bl:zdM) (nx:Nat) (args:zdK) (C:RC),k bl nx args=some C->C.pre=true->
 ∃(src:zdT) (J:zdU) (H:zdK) (ann:zdV) (n:Nat),yw bl (rnF src [] nx) src J/\Kr src J/\Far src J/\SV.rns (rnF src [] nx) H=some args/\dk gm ann n F H J (KB C src J nx)):
 ∀B:Base,GlobB B->VU prog B F k:=λB hB=>c8 (λB' Y=>P2 V (hB.sub Y)) λbl nx args C N hp=>by
 have:=h bl nx args C N hp;unfold dk at this;exact this
def tvE (s:SV):Prop:=TV.v s=TV.v s
def xg (I:Int->Prop) (N:Int):zdV:=λf k=>bif Nat.beq f 129&&Nat.beq k 2 then some (λA=>{X:=Int,inv:=I,tm:=λi=> [(8, .val (.int .i64 i))],mu:=λi=>(N - i).toNat,keep:= [0,1,7]}) else none
def Oz (s f:SV) (n:Nat) (p z:Int):Prop:=(TV.v (cI.enc p)=TV.v (cI.enc z)/\tvE s/\tvE f/\tvE (cI.enc (n:Int))/\True)/\(True/\(True/\True))
def LH (I:Int->Prop) (N:Int) (s f:SV) (n:Nat) (body:Int->(Bool->Prop)->Prop) (K:Int->Prop):Prop:=
 ∃J:Int,I J/\(Oz s f n 0 J/\ ∀z:Int,I z->ag (decide (z<(n:Int)))
  (af (decide (0<=z)&&decide (z<(n:Int))&&decide (0+z.toNat<n)) (af (decide (0+z.toNat<n)) (body z λb=>ag b (K z) (af (inR .i64 (z+1)) (∃H:Int,I H/\((N - H).toNat<(N - z).toNat/\Oz s f n (z+1) H))))))
  (K (-1)))
abbrev _root_.zdZ:=List Un
theorem LI (I:Int->Prop) (N:Int) (l:zdZ) (Q:zdR):dk [] (xg I N) 5 48 [.slc 0 0 l.length, .fn (.func 46) [] []] [eU.old l] (Go.Sy.okK λr _ _ _=>Q r)=
 LH I N (.slc 0 0 l.length) (.fn (.func 46) [] []) l.length (λz Q=>af (aH (eU.nth l (0+z.toNat))) (Q (!VK (eU.nth l (0+z.toNat))))) (λz=>Q (cB.enc (decide (z≥0)))):=by kernel_rfl
def IF:MCtr:=λbl _ args=>match args with
 | [s, .fn (.func g) [] []]=>bif Nat.beq g 46 then(match vW bl 20 s with
   |some (b,_,n,c)=>some {X:=Unit,pre:=b&&(Nat.ble n 1000000&&eU.good szB n c),spec:=λ_=>True,out:=λ_=>cB.enc (!(eU.list n c).all VK),ex:=λ_=>⟨(),trivial⟩}
   |none=>none) else none
 |_=>none
theorem RJ (s f:SV) (n:Nat) (p:Int):Oz s f n p p:=⟨⟨rfl,rfl,rfl,rfl,trivial⟩,trivial,trivial,trivial⟩
def be {α:Type} (p:α->Bool):List α->Int->Int
 | [],_=> -1
 |x::r,i=>bif p x then i else be p r (i+1)
theorem pI {α:Type} (p:α->Bool): ∀(l:List α) (i:Int),0<=i->decide (be p l i≥0)=l.any p
 | [],i,_=>by simp[be]
 |x::r,i,h=>by
  rw[be,zcQ];cases H:p x with
  |true=>simp;exact h
  |false=>simp only[zdq,zbi];exact pI p r (i+1) (by omega)
variable {α:Type} {s:SV}
theorem pJ (d:α) {l:List α} {p:α->Bool} {f:SV} {body:Int->(Bool->Prop)->Prop} {K:Int->Prop} (Y:l.length<2^62) (N: ∀(z:Int) (Q:Bool->Prop),0<=z->z<l.length->Q (p (mb d l z.toNat))->body z Q) (J:K (be p l 0)):
 LH (λi=>0<=i/\i<=l.length/\be p l 0=be p (l.drop i.toNat) i) l.length s f l.length body K:=by
 refine⟨0,⟨zat _,by omega,rfl⟩,RJ _ _ _ _, ?_⟩;rintro z ⟨h0,h1,h2⟩;rw[VH];refine⟨λH=> ?_,λH=> ?_⟩
 ·have H:=zdu H;rw[zdp h0,zdp H,zdp (show 0+z.toNat<l.length by omega)];simp only[zc6,bE];have V:l.drop z.toNat=mb d l z.toNat::l.drop (z+1).toNat:=by
   rw[show (z+1).toNat=z.toNat+1 by omega,zaH (show z.toNat<l.length by omega),bR (zaa _)]
  rw[V,be] at h2;refine N z _ h0 H ?_;rw[VH];refine⟨λhp=> ?_,λhp=> ?_⟩
  ·rw[hp,zdr] at h2;rw[<-h2];exact J
  ·rw[hp,zdq] at h2;rw[VP.2 (by omega),bE];exact⟨z+1,⟨by omega,by omega,h2⟩,by omega,RJ _ _ _ _⟩
 ·have H:=zdv H;rw[show z.toNat=l.length by omega,zbj,be] at h2;rw[h2] at J;exact J
theorem CP (p:α->Bool) (l:List α):(l.any λx=> !p x)= !l.all p:=by
 induction l with
 |nil=>rfl
 |cons x r H=>rw[zcQ,List.all_cons,H,Bool.not_and]
variable {src:zdT}
theorem cd (h: ∀C∈Cs,C.kd.map=false):Far src Cs:= .inl h
theorem we {bl:zdM} {g:zdY}: ∀{Cs:zdU} {src:zdT},(∀C∈Cs,cN C.kd=false)->src.length=Cs.length-> ∀j,chR bl g src Cs j []
 | [], [],_,_,_=>trivial
 |D::N,o::os,h,H,j=>by
  simp only[chR,h D (by simp)];exact we (λC J=>h C (by simp[J])) (by simpa using H) _
 | [],_::_,_,H,_=>by simp at H
 |_::_, [],_,H,_=>by simp at H
variable {C:RC} {nx:Nat} {r:SV} {bl:zdM} {w:zdI}
theorem IG (x:C.X) (J:C.spec x) (h1:C.pan x=none) (h2:r.ids= []) (h3:C.out x=r) (h4:C.nw x= []) (h5:C.ch x= []) (h6: ∀C∈Cs,cN C.kd=false) (H:src.length=Cs.length):KB C src Cs nx (.ok r) bl n w:=by
 refine⟨x,J, [], ?_,zcA, ?_, ?_⟩
 ·rw[h1];exact⟨r,rfl,by rw[h3];exact Cp h2⟩
 ·rw[h4];trivial
 ·rw[h5];exact we h6 H _
theorem IH (hm:MOk gm): ∀B:Base,GlobB B->VU prog B 48 IF:=eW MOk.nil λbl nx args C J hp=>by
 unfold IF at J;split at J
 ·rename_i s g;cases hg:Nat.beq g 46 with
  |false=>rw[hg] at J;cases J
  |true=>
   obtain rfl:=zab hg;rw[hg,zdr] at J;split at J
   ·rename_i b o n c Z;simp only[za1] at J;subst J;simp only[za2] at hp;obtain⟨rfl,Y,H⟩:=hp;have N:(eU.list n c).length<2^62:=by rw[El.list_length];have:=zak Y;omega
    obtain⟨h1,h2⟩:=cq (f:=rnF [o] [] nx) Z H;refine⟨[o], [eU.old (eU.list n c)], [.slc 0 0 (eU.list n c).length, .fn (.func 46) [] []],xg (λi=>0<=i/\i<=(eU.list n c).length/\be (λu=> !VK u) (eU.list n c) 0=be (λu=> !VK u) ((eU.list n c).drop i.toNat) i) (eU.list n c).length,5,aw h1 trivial,bH (by simp[cN,El.old]),cd (by simp[El.old,BK.map]), ?_, ?_⟩
    ·simp only[SV.rns,h2 0 rfl];rfl
    ·have key: ∀Q:zdR,Q (cB.enc (!(eU.list n c).all VK))->dk [] (xg (λi=>0<=i/\i<=(eU.list n c).length/\be (λu=> !VK u) (eU.list n c) 0=be (λu=> !VK u) ((eU.list n c).drop i.toNat) i) (eU.list n c).length) 5 48 [.slc 0 0 (eU.list n c).length, .fn (.func 46) [] []] [eU.old (eU.list n c)] (Go.Sy.okK λr _ _ _=>Q r):=by
      intro Q V;rw[LI];refine pJ noU N (λz Q h0 h1 h=> ?_) ?_
      ·rw[za7];have:=El.good_list H _ (bw (d:=noU) (l:=eU.list n c) (e:=z.toNat) (by omega));rw[show aH (eU.nth (eU.list n c) z.toNat)=true from this,bE];exact h
      ·rw[pI _ _ _ (zat _),CP];exact V
     refine cQ (key (λr=>r=cB.enc (!(eU.list n c).all VK)) rfl) λr b m w h=> ?_;cases r with
     |pan v=>exact h.elim
     |ok r=>
      obtain rfl:r=_:=h;exact IG () trivial rfl rfl rfl rfl rfl (by simp[cN,El.old]) rfl
   ·cases J
 ·cases J
def QJ:MCtr:=λ_ _ _=>none
def gmC:zdX:= [(48,IF),(50+1073741824,QJ)]
abbrev CX:=Int×List Un
def Bh (A:AS) (i o:Nat):SV:=match A.bl i with
 |some B=>match (B.get 0)[o]? with
  |some s=>s
  |none=> .val undef
 |none=> .val undef
def tM (I:CX->Prop) (N:Int):zdV:=λf k=>bif Nat.beq f 11&&Nat.beq k 6 then some (λA=>{X:=CX,inv:=I,tm:=λx=> [(47, .val (.int .i64 x.1))],st:= [(kA A 6,λx=> [Bh A (kA A 6) 0,Bh A (kA A 6) 1, .slc A.nx 0 x.2.length])],gr:= [{src:= .cell (kA A 6) 0 2,sz:=20,n:=λx=>x.2.length,get:=λx=>eU.get x.2}],cleanG:=λg hg x e=>by simp at hg;subst hg;exact eU.ids _,mu:=λx=>(N - x.1).toNat,keep:= [1,6,45,46]}) else none
abbrev _root_.ze0:=List Nd
def svP (id:Int) (inp:zdZ) (nod:ze0) (out:Un):SV:= .agg ([.val (.int .i64 id), .slc 0 0 inp.length, .slc 1 0 nod.length]++ci out)
def zi (i:Int):SV:= .tup [.val (.slice none 0 0), .val (.int .i64 i), .val (.int .i64 90)]
def pK (n:Nat) (i:Int):Bool:=bif decide (i≥0) then decide (i<if (n:Int)>1 then(n:Int) else 1) else false
def tN (n:Nat) (J:Bool) (N x:Nd) (H K:Prop):Prop:=ag (eqN N noN) (ag (pK n x.l) (ag (!(bif pK n x.r then(bif !J then true else decide ((n:Int)>0)) else false)) H K) H) H
def tO (n:Nat) (K:Prop):Prop:=af (decide (0<1)&&decide (0+1<=1)&&decide (n<=n)&&decide ((n+1)*192<=140737488355328)&&true) K
def eO (n:Nat) (i:Int) (K:Prop):Prop:=af (decide (0<=i)&&decide (i<(n:Int))&&decide (0+i.toNat<n)) (af (decide (0+i.toNat<n)) K)
def P4 (m c q:Nat) (ni nn:Nat) (p:Int) (n:Nat) (us:zdN) (z:CX):Prop:=
 (TV.v (cI.enc p)=TV.v (cI.enc z.1)/\cg 2/\cg c/\tvE (.slc 1 0 nn)/\tvE (cI.enc (nn:Int))/\True)/\(True/\(([SV.mp m, .slc 0 0 ni, .slc q 0 n]= [SV.mp m, .slc 0 0 ni, .slc q 0 z.2.length]/\True)/\
   (af (Nat.beq 20 20&&decide (z.2.length<=n)) (∀e,e<z.2.length->us e=eU.get z.2 e)/\True)))
def LJ (I:CX->Prop) (N:Int) (q:Nat) (ni nn:Nat) (i:Int) (us:zdZ) (u:Un):Prop:=af (inR .i64 (i+1)) (∃z:CX,I z/\((N - z.1).toNat<(N - i).toNat/\P4 44 64 q ni nn (i+1) (us.length+1) (ald (eU.get us) (λe=>((ci u).drop (e*20)).take 20) us.length 0) z))
def zj (I:CX->Prop) (N:Int) (q:Nat) (ni nn:Nat) (i:Int) (us:zdZ) (r:Un×Int) (H:Prop):Prop:=tO us.length (ag (!(r.2==0)) H (LJ I N q ni nn i us r.1))
def pL (us:zdZ) (x:Nd) (K:Un->Un->Prop):Prop:=eO us.length x.l (eO us.length x.r (af (aH (mb noU us (0+x.l.toNat))&&aH (mb noU us (0+x.r.toNat))) (K (mb noU us (0+x.l.toNat)) (mb noU us (0+x.r.toNat)))))
def P5 (x:Nd):Bool:= !(x.op==1)&&(!(x.op==2)&&(!(x.op==3)&&(!(x.op==4)&&(!(x.op==5)&&(!(x.op==6)&&(!(x.op==7)&&(!(x.op==8)&&true)))))))
def OA (I:CX->Prop) (N:Int) (inp:zdZ) (nn:Nat) (i:Int) (us:zdZ) (x:Nd) (H:Prop):Prop:=
 ag (x.op==1) (tN us.length false ⟨0,VI,noU,x.n,x.l,x.r⟩ x H (af (uzR x.v) (af (dC (!!rV x.v) (aH x.u)) (ag (bif !rV x.v then true else !VK x.u) (tO us.length H) (tO us.length (LJ I N 220 inp.length nn i us x.u)))))) (
 ag (x.op==2) (tN us.length false ⟨0,x.v,x.u,0,x.l,x.r⟩ x H (ag (bif decide (x.n<0) then true else decide (x.n≥(inp.length:Int))) (tO us.length H) (eO inp.length x.n (tO us.length (LJ I N 237 inp.length nn i us (mb noU inp (0+x.n.toNat))))))) (
 ag (x.op==3) (tN us.length true ⟨0,x.v,x.u,x.n,0,0⟩ x H (pL us x λa b=>zj I N 249 inp.length nn i us (iS a b) H)) (
 ag (x.op==4) (tN us.length true ⟨0,x.v,x.u,x.n,0,0⟩ x H (pL us x λa b=>zj I N 249 inp.length nn i us (fw a b) H)) (
 ag (x.op==5) (tN us.length true ⟨0,x.v,x.u,x.n,0,0⟩ x H (pL us x λa b=>zj I N 249 inp.length nn i us (mi a b) H)) (
 ag (x.op==6) (tN us.length true ⟨0,x.v,x.u,x.n,0,0⟩ x H (pL us x λa b=>zj I N 249 inp.length nn i us (fd a b) H)) (
 ag (x.op==7) (tN us.length true ⟨0,x.v,x.u,0,0,x.r⟩ x H (ag (bif bif x.n==0 then true else decide (x.n< -4) then true else decide (x.n>4)) (tO us.length H) (eO us.length x.l (af (aH (mb noU us (0+x.l.toNat))) (zj I N 257 inp.length nn i us (jm (mb noU us (0+x.l.toNat)) (x.n,1)) H))))) (
 ag (x.op==8) (tN us.length true ⟨0,x.v,x.u,x.n,0,x.r⟩ x H (eO us.length x.l (af (aH (mb noU us (0+x.l.toNat))) (zj I N 228 inp.length nn i us (jm (mb noU us (0+x.l.toNat)) (1,2)) H)))) (af (P5 x) H))))))))
def OB (I:CX->Prop) (N:Int) (id:Int) (inp:zdZ) (nod:ze0) (out:Un) (K:zdR) (J:List Un->Prop):Prop:=
 ag (bif bif decide (id<1) then true else decide (id>1000000) then true else decide ((inp.length:Int)>6)) (K (zi (-1)))
 (af (Nat.ble inp.length inp.length&&Nat.beq 20 20&&true&&(Nat.ble inp.length 1000000&&eU.good szB inp.length (eU.get inp))) (Unit->True->
 ag (bif bif !(eU.list inp.length (eU.get inp)).all VK then true else decide ((nod.length:Int)<1) then true else decide ((nod.length:Int)>40)) (K (zi (-1)))
 (∃H:CX,I H/\(((TV.v (cI.enc 0)=TV.v (cI.enc H.1)/\cg 2/\cg 64/\tvE (.slc 1 0 nod.length)/\tvE (cI.enc (nod.length:Int))/\True)/\(True/\(([SV.mp 44, .slc 0 0 inp.length, .val (.slice none 0 0)]= [SV.mp 44, .slc 0 0 inp.length, .val (.slice none H.2.length 0)]/\True)/\(H.2.length=0/\True))))/\
   ∀z:CX,I z->ag (decide (z.1<(nod.length:Int)))
    (eO nod.length z.1 (OA I N inp nod.length z.1 z.2 (mb noN nod (0+z.1.toNat)) (K (zi z.1))))
    (af (inR .i64 ((z.2.length:Int) - 1)) (eO z.2.length ((z.2.length:Int) - 1) (ag (!eqU (mb noU z.2 (0+((z.2.length:Int) - 1).toNat)) out) (K (zi nod.length)) (J z.2))))))))
def slK (J:Nat->Nat->Blk->List SV->Prop) (Q:zdR):Aft:=λr bl _ _=>match r with
 | .ok (.tup (.slc i 0 n::H))=>match bl i with
   |some B=>J i n B H
   |none=>False
 | .ok s=>Q s
 | .pan _=>False
theorem OC (I:CX->Prop) (N:Int) (id:Int) (inp:zdZ) (nod:ze0) (out:Un) (H:Nat->Nat->Blk->List SV->Prop) (Q:zdR):
 dk gmC (tM I N) 6 11 [svP id inp nod out] [eU.old inp,eN.old nod] (slK H Q)=OB I N id inp nod out Q (λus=>H 71 us.length {n:=us.length,sz:=20,get:=eU.get us,kd:= .own,nn:=false} [.val (.int .i64 0), .val (.int .i64 0)]):=by kernel_rfl
def fL (inp us:zdZ) (x:Nd):Un×Int:=
 bif x.op==1 then(bif rV x.v&&VK x.u then(x.u,0) else(noU,90)) else
 bif x.op==2 then(bif decide (0<=x.n)&&decide (x.n<(inp.length:Int)) then(mb noU inp x.n.toNat,0) else(noU,90)) else
 bif x.op==3 then iS (mb noU us x.l.toNat) (mb noU us x.r.toNat) else
 bif x.op==4 then fw (mb noU us x.l.toNat) (mb noU us x.r.toNat) else
 bif x.op==5 then mi (mb noU us x.l.toNat) (mb noU us x.r.toNat) else
 bif x.op==6 then fd (mb noU us x.l.toNat) (mb noU us x.r.toNat) else
 bif x.op==7 then(bif x.n==0||decide (x.n< -4)||decide (x.n>4) then(noU,90) else jm (mb noU us x.l.toNat) (x.n,1)) else
 bif x.op==8 then jm (mb noU us x.l.toNat) (1,2) else(noU,90)
def earF (n:Nat) (i:Int):Bool:=decide (0<=i)&&decide (i<(n:Int))
def VT (n:Nat) (x:Nd):Bool:=
 bif x.op==1 then eqN ⟨0,VI,noU,x.n,x.l,x.r⟩ noN else
 bif x.op==2 then eqN ⟨0,x.v,x.u,0,x.l,x.r⟩ noN else
 bif decide (3<=x.op)&&decide (x.op<=6) then eqN ⟨0,x.v,x.u,x.n,0,0⟩ noN&&earF n x.l&&earF n x.r else
 bif x.op==7 then eqN ⟨0,x.v,x.u,0,0,x.r⟩ noN&&earF n x.l else
 bif x.op==8 then eqN ⟨0,x.v,x.u,x.n,0,x.r⟩ noN&&earF n x.l else false
def mn (inp us:zdZ) (x:Nd):Option Un:=bif VT us.length x&&(fL inp us x).2==0 then some (fL inp us x).1 else none
def iB (inp:zdZ):List Nd->List Un->List Un×Bool
 | [],us=>(us,true)
 |x::r,us=>match mn inp us x with
  |some u=>iB inp r (us++ [u])
  |none=>(us,false)
def ly (us:zdZ):Un:=mb noU us (us.length - 1)
def oB (p:Pr):Bool:=decide (1<=p.id)&&decide (p.id<=1000000)&&decide (p.inp.length<=6)&&p.inp.all VK&&decide (1<=p.nod.length)&&decide (p.nod.length<=40)
def VJ (p:Pr):List Un×Int×Int:=bif oB p then(match iB p.inp p.nod [] with
 |(us,true)=>bif eqU (ly us) p.out then(us,0,0) else([],p.nod.length,90)
 |(us,false)=>([],us.length,90)) else([], -1,90)
def VM (p:Pr):Bool:=(VJ p).2.2==0
def aci (p:Pr):Bool:=p.inp.all szB&&p.nod.all szN&&szB p.out
theorem int_eq {a b:Int}:(a==b)=true↔a=b:=zdy
variable {i:Int}
theorem V6:pK n i=true↔0<=i/\(i<n\/(n=0/\i=0)):=by
 unfold pK;by_cases h:i≥0
 ·rw[zdp h,zdr,zdt];split<;>omega
 ·rw[zds h,zdq];simp;omega
theorem V2:earF n i=true↔0<=i/\i<n:=by simp[earF]
variable {x:Nd}
theorem fM (h:eqN x noN=true):x.n=0/\x.l=0/\x.r=0:=by
 simp only[eqN,za2,zdy] at h;exact⟨h.2.2.2.1,h.2.2.2.2.1,h.2.2.2.2.2.1⟩
variable {K:Prop}
theorem fV (h:n<=1000000) (k:K):tO n K:=ac (by
 rw[zdp (zbS),zdp (show 0+1<=1 by omega),zdp (za0 n),zdp (show (n+1)*192<=140737488355328 by omega)];rfl) k
theorem aY (h0:0<=i) (h1:i<n) (k:K):eO n i K:=ac (by
 rw[zdp h0,zdp h1,zdp (show 0+i.toNat<n by omega)];rfl) (ac (zdp (by omega)) k)
variable {bad:Prop}
theorem oC {needs:Bool} {rest:Nd} (hb:(eqN rest noN=true/\pK n x.l=true/\pK n x.r=true/\(needs=true->0<n))->K) (H: ¬(eqN rest noN=true/\pK n x.l=true/\pK n x.r=true/\(needs=true->0<n))->bad):tN n needs rest x bad K:=by
 unfold tN;refine ce (λh1=>ce (λh2=>ce (λh3=> ?_) (λh3=> ?_)) (λh2=> ?_)) (λh1=> ?_)
 ·refine H λ⟨_,_,Y,Z⟩=> ?_;rw[Y] at h3;cases needs with
  |false=>simp at h3
  |true=>have:=Z rfl;simp at h3;omega
 ·refine hb ⟨h1,h2, ?_,λJ=> ?_⟩
  ·cases h4:pK n x.r with
   |true=>rfl
   |false=>rw[h4] at h3;simp at h3
  ·subst J;cases h4:pK n x.r with
   |true=>rw[h4] at h3;simp at h3;omega
   |false=>rw[h4] at h3;simp at h3
 ·exact H λ⟨_,V,_⟩=>by rw[V] at h2;cases h2
 ·exact H λ⟨N,_⟩=>by rw[N] at h1;cases h1
theorem eH {l:zdZ} (h: ∀u∈l,szB u=true) (e:Nat):aH (mb noU l e)=true:=by
 by_cases H:e<l.length
 ·exact h _ (bw H)
 ·have: ∀(l:zdZ) (e:Nat),l.length<=e->mb noU l e=noU:=by
   intro l
   induction l with
   |nil=>intro e _;rfl
   |cons x r J=>intro e H;cases e with
    |zero=>simp at H
    |succ e=>exact J e (by simpa using H)
  rw[this l e (by omega)];decide
theorem atR {d:α} {l:List α} (h0:0<=i) (h:i<l.length):l.drop i.toNat=mb d l i.toNat::l.drop (i+1).toNat:=by
 rw[show (i+1).toNat=i.toNat+1 by omega,zaH (show i.toNat<l.length by omega),bR (zaa _)]
theorem atS {p:α->Bool} {l:List α} {v:α} (h: ∀x∈l,p x=true) (hv:p v=true): ∀x∈l++ [v],p x=true:=λx H=>(za8.1 H).elim (h x) λe=>by rw[zaj.1 e];exact hv
theorem aS {α:Type} {d:α}: ∀{l:List α} {u:α} {e:Nat},mb d (l++ [u]) e=if e=l.length then u else mb d l e
 | [],u,e=>by cases e<;>simp[mb]
 |x::r,u,e=>by
  cases e with
  |zero=>simp[mb]
  |succ e=>
   have:=aS (d:=d) (l:=r) (u:=u) (e:=e);simp only[zaO,mb,za4];rw[this];split<;>split<;>first|rfl|omega
variable {m q ni nn:Nat} {us:zdZ} {u:Un}
theorem CQ {c:Nat} {p:Int} :P4 m c q ni nn p (us.length+1) (ald (eU.get us) (λe=>((ci u).drop (e*20)).take 20) us.length 0) (p,us++ [u]):=by
 have H:(us++ [u]).length=us.length+1:=by simp
 refine⟨⟨rfl,rfl,rfl,rfl,rfl,trivial⟩,trivial,⟨by rw[H],trivial⟩, ?_,trivial⟩;refine ac (by rw[zdp (by rw[H];exact za0 _)];rfl) λe J=> ?_;rw[H] at J;unfold ald El.get El.nth;rw[aB];show _=ci (mb noU (us++ [u]) e);rw[aS];by_cases h:e<us.length
 ·rw[zdp h,zdr,if_neg (by omega)];rfl
 ·obtain rfl:e=us.length:=by omega
  rw[zds h,zdq,if_pos rfl,zaJ];rfl
def chkI (inp:zdZ) (nod:ze0) (z:CX):Prop:=0<=z.1/\z.1<=nod.length/\z.2.length=z.1.toNat/\(∀u∈z.2,szB u=true)/\iB inp nod []=iB inp (nod.drop z.1.toNat) z.2
theorem XO:szB noU=true:=by decide
variable {N:Int} {inp:zdZ}
theorem LK {I:CX->Prop} (hx:szN x=true) (hi: ∀u∈inp,szB u=true) (hu: ∀u∈us,szB u=true) (hl:us.length<=1000000)
 (hn:mn inp us x=none->bad) (hs: ∀u q,mn inp us x=some u->LJ I N q inp.length nn i us u):OA I N inp nn i us x bad:=by
 unfold szN at hx;rw[za2] at hx;have T: ∀{f:Bool} {r:Un×Int},VT us.length x=f->fL inp us x=r->mn inp us x=bif f&&r.2==0 then some r.1 else none:=λ{f r} h1 h2=>by unfold mn;rw[h1,h2]
 have U: ∀{r:Un×Int} {q:Nat},VT us.length x=true->fL inp us x=r->zj I N q inp.length nn i us r bad:=λ{r q} h1 h2=>by
  have:=T h1 h2;refine fV hl (ce (λh=>hn ?_) (λh=>hs _ _ ?_))
  ·rw[this];cases hr:r.2==0<;>rw[hr] at h<;>first|rfl|cases h
  ·rw[this];cases hr:r.2==0<;>rw[hr] at h<;>first|rfl|cases h
 have W: ∀{K:Un->Un->Prop},pK us.length x.l=true->pK us.length x.r=true->0<us.length->K (mb noU us x.l.toNat) (mb noU us x.r.toNat)->pL us x K:=λ{K} h1 h2 h3 k=>by
  have a:=V6.1 h1;have b:=V6.1 h2;unfold pL;rw[za7,za7];exact aY a.1 (by omega) (aY b.1 (by omega) (ac (by rw[eH hu,eH hu];rfl) k))
 have E2:0<us.length-> ∀j:Int,(pK us.length j=earF us.length j):=λh j=>by
  rw[zax,V6,V2];omega
 have Y: ∀(f:Un->Un->Un×Int),x.op≠1->x.op≠2->(3<=x.op/\x.op<=6)->fL inp us x=f (mb noU us x.l.toNat) (mb noU us x.r.toNat)->tN us.length true ⟨0,x.v,x.u,x.n,0,0⟩ x bad (pL us x λa b=>zj I N 249 inp.length nn i us (f a b) bad):=by
  intro f n1 n2 n3 hf;have H:VT us.length x=(eqN ⟨0,x.v,x.u,x.n,0,0⟩ noN&&earF us.length x.l&&earF us.length x.r):=by
   unfold VT;rw[show (x.op==1)=false from zdw n1,show (x.op==2)=false from zdw n2,zdp n3.1,zdp n3.2];rfl
  refine oC (λ⟨a1,Z,a3,a4⟩=> ?_) (λh=>hn ?_)
  ·have h0:=a4 rfl;refine W Z a3 h0 (U ?_ hf);rw[H,a1,<-E2 h0,<-E2 h0,Z,a3];rfl
  ·unfold mn;cases J:VT us.length x with
   |false=>rfl
   |true=>
    exfalso;rw[H] at J;simp only[za2] at J;have hp:0<us.length:=by have:=V2.1 J.1.2;omega
    exact h ⟨J.1.1,by rw[E2 hp];exact J.1.2,by rw[E2 hp];exact J.2,λ_=>hp⟩
 unfold OA;refine ce (λo1=> ?_) (λo1=>ce (λo2=> ?_) (λo2=>ce (λo3=> ?_) (λo3=>ce (λo4=> ?_) (λo4=>ce (λo5=> ?_) (λo5=>ce (λo6=> ?_) (λo6=>ce (λo7=> ?_) (λo7=>ce (λo8=> ?_) (λo8=> ?_))))))))
 ·
  have H:VT us.length x=eqN ⟨0,VI,noU,x.n,x.l,x.r⟩ noN:=by unfold VT;rw[o1];rfl
  have V:fL inp us x=bif rV x.v&&VK x.u then(x.u,0) else(noU,90):=by unfold fL;rw[o1];rfl
  refine oC (λ⟨a1,Z,a3,a4⟩=> ?_) (λh=>hn ?_)
  ·have t:=T H V;rw[a1] at t;refine ac hx.1 (ac (by rw[show aH x.u=true from hx.2];cases rV x.v<;>rfl) (ce (λh=>fV hl (hn ?_)) (λh=>fV hl (hs _ _ ?_))))
   ·rw[t];cases h1:rV x.v<;>cases h2:VK x.u<;>rw[h1,h2] at h<;>first|rfl|cases h
   ·rw[t];cases h1:rV x.v<;>cases h2:VK x.u<;>rw[h1,h2] at h<;>first|rfl|cases h
  ·unfold mn;cases J:VT us.length x with
   |false=>rfl
   |true=>
    exfalso;rw[H] at J;have f:=fM J;simp only at f;exact h ⟨J,V6.2 (by omega),V6.2 (by omega),λh=>by cases h⟩
 ·
  have H:VT us.length x=eqN ⟨0,x.v,x.u,0,x.l,x.r⟩ noN:=by unfold VT;rw[o1,o2];rfl
  have V:fL inp us x=bif decide (0<=x.n)&&decide (x.n<(inp.length:Int)) then(mb noU inp x.n.toNat,0) else(noU,90):=by unfold fL;rw[o1,o2];rfl
  refine oC (λ⟨a1,Z,a3,a4⟩=> ?_) (λh=>hn ?_)
  ·have t:=T H V;rw[a1] at t;refine ce (λh=>fV hl (hn ?_)) (λh=> ?_)
   ·rw[t];by_cases h1:x.n<0
    ·rw[zds (show ¬0<=x.n by omega)];rfl
    ·rw[zds h1,zdq,zdt] at h;rw[zds (show ¬x.n<(inp.length:Int) by omega),Bool.and_false];rfl
   ·by_cases h1:x.n<0
    ·rw[zdp h1] at h;cases h
    ·rw[zds h1,zdq,zdz] at h;rw[za7];refine aY (by omega) (by omega) (fV hl (hs _ _ ?_));rw[t,zdp (show 0<=x.n by omega),zdp (show x.n<(inp.length:Int) by omega)];rfl
  ·unfold mn;cases J:VT us.length x with
   |false=>rfl
   |true=>
    exfalso;rw[H] at J;have f:=fM J;simp only at f;exact h ⟨J,V6.2 (by omega),V6.2 (by omega),λh=>by cases h⟩
 ·exact Y iS (by have:=int_eq.1 o3;omega) (by have:=int_eq.1 o3;omega) (by have:=int_eq.1 o3;omega) (by unfold fL;rw[o1,o2,o3];rfl)
 ·exact Y fw (by have:=int_eq.1 o4;omega) (by have:=int_eq.1 o4;omega) (by have:=int_eq.1 o4;omega) (by unfold fL;rw[o1,o2,o3,o4];rfl)
 ·exact Y mi (by have:=int_eq.1 o5;omega) (by have:=int_eq.1 o5;omega) (by have:=int_eq.1 o5;omega) (by unfold fL;rw[o1,o2,o3,o4,o5];rfl)
 ·exact Y fd (by have:=int_eq.1 o6;omega) (by have:=int_eq.1 o6;omega) (by have:=int_eq.1 o6;omega) (by unfold fL;rw[o1,o2,o3,o4,o5,o6];rfl)
 ·have H:VT us.length x=(eqN ⟨0,x.v,x.u,0,0,x.r⟩ noN&&earF us.length x.l):=by
   unfold VT;rw[o1,o2,o7,show (decide (3<=x.op)&&decide (x.op<=6))=false by rw[int_eq.1 o7];rfl];rfl
  have V:fL inp us x=bif x.n==0||decide (x.n< -4)||decide (x.n>4) then(noU,90) else jm (mb noU us x.l.toNat) (x.n,1):=by unfold fL;rw[o1,o2,o3,o4,o5,o6,o7];rfl
  refine oC (λ⟨a1,Z,a3,a4⟩=> ?_) (λh=>hn ?_)
  ·have h0:=a4 rfl;have hf:VT us.length x=true:=by rw[H,a1,<-E2 h0,Z];rfl
   have t:=T hf V;have e:(bif bif x.n==0 then true else decide (x.n< -4) then true else decide (x.n>4))=(x.n==0||decide (x.n< -4)||decide (x.n>4)):=by cases x.n==0<;>cases decide (x.n< -4)<;>rfl
   rw[e];refine ce (λh=>fV hl (hn ?_)) (λh=> ?_)
   ·rw[t,h];rfl
   ·rw[h,zdq] at V;have a:=V6.1 Z;rw[za7];exact aY a.1 (by omega) (ac (eH hu _) (U hf V))
  ·unfold mn;cases J:VT us.length x with
   |false=>rfl
   |true=>
    exfalso;rw[H] at J;simp only[za2] at J;have f:=fM J.1;simp only at f;have hp:0<us.length:=by have:=V2.1 J.2;omega
    exact h ⟨J.1,by rw[E2 hp];exact J.2,V6.2 (by omega),λ_=>hp⟩
 ·have H:VT us.length x=(eqN ⟨0,x.v,x.u,x.n,0,x.r⟩ noN&&earF us.length x.l):=by
   unfold VT;rw[o1,o2,o7,o8,show (decide (3<=x.op)&&decide (x.op<=6))=false by rw[int_eq.1 o8];rfl];rfl
  have V:fL inp us x=jm (mb noU us x.l.toNat) (1,2):=by unfold fL;rw[o1,o2,o3,o4,o5,o6,o7,o8];rfl
  refine oC (λ⟨a1,Z,a3,a4⟩=> ?_) (λh=>hn ?_)
  ·have h0:=a4 rfl;have hf:VT us.length x=true:=by rw[H,a1,<-E2 h0,Z];rfl
   have a:=V6.1 Z;rw[za7];exact aY a.1 (by omega) (ac (eH hu _) (U hf V))
  ·unfold mn;cases J:VT us.length x with
   |false=>rfl
   |true=>
    exfalso;rw[H] at J;simp only[za2] at J;have f:=fM J.1;simp only at f;have hp:0<us.length:=by have:=V2.1 J.2;omega
    exact h ⟨J.1,by rw[E2 hp];exact J.2,V6.2 (by omega),λ_=>hp⟩
 ·refine ac (by unfold P5;rw[o1,o2,o3,o4,o5,o6,o7,o8];rfl) (hn ?_);unfold mn;have:VT us.length x=false:=by
   unfold VT;rw[o1,o2,o7,o8];simp only[zdq];have e:(decide (3<=x.op)&&decide (x.op<=6))=false:=by
    simp only[zdx,ne_eq] at o1 o2 o3 o4 o5 o6 o7 o8;simp;omega
   rw[e];rfl
  rw[this];rfl
variable {b:Un}
theorem zk {a:Un} (H:aH a=true) (J:aH b=true):aH (iS a b).1=true:=by
 unfold iS;cases !jk a b||(a.s==0&&b.s==0) with
 |true=>exact XO
 |false=>cases b.s==0;exact H;exact J
theorem oD {a:Un} (H:aH a=true):aH (fw a b).1=true:=by
 unfold fw;cases !jk a b with
 |true=>exact XO
 |false=>cases b.s !=0 with
  |true=>exact H
  |false=>cases eqU a b with
   |true=>
    have:=(eL H).1;show (uzR a.f&&uzR rZ)=true;rw[this];decide
   |false=>exact XO
theorem LL (H:szN x=true) (hi: ∀u∈inp,szB u=true) (J: ∀u∈us,szB u=true):szB (fL inp us x).1=true:=by
 unfold szN at H;rw[za2] at H;have n:=λe=>eH J e;unfold fL;cases x.op==1 with
 |true=>cases rV x.v&&VK x.u;exact XO;exact H.2
 |false=>cases x.op==2 with
  |true=>cases decide (0<=x.n)&&decide (x.n<(inp.length:Int));exact XO;exact eH hi _
  |false=>cases x.op==3 with
   |true=>exact zk (n _) (n _)
   |false=>cases x.op==4 with
    |true=>exact oD (n _)
    |false=>cases x.op==5 with
     |true=>exact CK _ _
     |false=>cases x.op==6 with
      |true=>exact oA _ _
      |false=>cases x.op==7 with
       |true=>cases x.n==0||decide (x.n< -4)||decide (x.n>4);exact re (n _) _;exact XO
       |false=>cases x.op==8;exact XO;exact re (n _) _
theorem CR (J:szN x=true) (hi: ∀u∈inp,szB u=true) (H: ∀u∈us,szB u=true) (h:mn inp us x=some u):szB u=true:=by
 unfold mn at h;cases hh:VT us.length x&&(fL inp us x).2==0 with
 |false=>rw[hh] at h;cases h
 |true=>
  rw[hh] at h;simp only[zdr,za1] at h;subst h;exact LL J hi H
variable {p:Pr}
theorem Wb:oB p=true↔(1<=p.id/\p.id<=1000000/\p.inp.length<=6)/\p.inp.all VK=true/\1<=p.nod.length/\p.nod.length<=40:=by
 unfold oB;simp only[za2,zdt];exact⟨λ⟨⟨⟨⟨⟨a,b⟩,c⟩,d⟩,e⟩,f⟩=>⟨⟨a,b,c⟩,d,e,f⟩,λ⟨⟨a,b,c⟩,d,e,f⟩=>⟨⟨⟨⟨⟨a,b⟩,c⟩,d⟩,e⟩,f⟩⟩
theorem ES {K:zdR} {KU:List Un->Prop} (Z:aci p=true) (h6:p.inp.length<=1000000)
 (V:(VJ p).2.2≠0->K (zi (VJ p).2.1)) (hg:(VJ p).2.2=0->KU (VJ p).1):OB (chkI p.inp p.nod) p.nod.length p.id p.inp p.nod p.out K KU:=by
 unfold aci at Z;simp only[za2,zaf] at Z;obtain⟨⟨si,sn⟩,so⟩:=Z;have gl:eU.list p.inp.length (eU.get p.inp)=p.inp:=El.list_get;have J:oB p=false->K (zi (-1)):=λh=>by
  have:VJ p=([], -1,90):=by unfold VJ;rw[h];rfl
  rw[this] at V;exact V (by decide)
 have nb: ∀{P:Prop},¬P->(oB p=true->P)->oB p=false:=λ{P} h k=>by
  cases hh:oB p with
  |false=>rfl
  |true=>exact absurd (k hh) h
 unfold OB;refine ce (λh=>J (nb (P:=1<=p.id/\p.id<=1000000/\p.inp.length<=6) (λ⟨a,b,c⟩=> ?_) λhh=>(Wb.1 hh).1)) (λh1=>ac (by rw[El.good_get si];simp[h6]) λ_ _=>ce (λh=>J (nb (P:=p.inp.all VK=true/\1<=p.nod.length/\p.nod.length<=40) (λ⟨a,b,c⟩=> ?_) λhh=>(Wb.1 hh).2)) (λh2=> ?_))
 ·rw[zds (show ¬p.id<1 by omega),zds (show ¬p.id>1000000 by omega),zds (show ¬((p.inp.length:Int)>6) by omega)] at h;cases h
 ·rw[gl,a,zds (show ¬(p.nod.length:Int)<1 by omega),zds (show ¬((p.nod.length:Int)>40) by omega)] at h;cases h
 ·have N:oB p=true:=by
   refine Wb.2 ⟨?_, ?_⟩
   ·by_cases q1:p.id<1
    ·rw[zdp q1] at h1;cases h1
    ·by_cases q2:p.id>1000000
     ·rw[zds q1,zdp q2] at h1;cases h1
     ·rw[zds q1,zds q2] at h1;have:=zdv h1;omega
   ·rw[gl] at h2;cases q1:p.inp.all VK with
    |false=>rw[q1] at h2;cases h2
    |true=>
     rw[q1] at h2;by_cases q2:(p.nod.length:Int)<1
     ·rw[zdp q2] at h2;cases h2
     ·rw[zds q2] at h2;have:=zdv h2;exact⟨rfl,by omega,by omega⟩
  obtain⟨⟨b1,b2,b3⟩,b4,b5,b6⟩:=Wb.1 N;have Y:VJ p=match iB p.inp p.nod [] with
   |(us,true)=>bif eqU (ly us) p.out then(us,0,0) else([],p.nod.length,90)
   |(us,false)=>([],us.length,90):=by unfold VJ;rw[N];rfl
  refine⟨(0, []),⟨zat _,by show (0:Int)<=_;omega,rfl,λu h=>(by cases h),rfl⟩,⟨⟨rfl,rfl,rfl,rfl,rfl,trivial⟩,trivial,⟨rfl,trivial⟩,rfl,trivial⟩, ?_⟩;rintro⟨i,us⟩ ⟨k0,k1,k2,k3,H⟩;simp only at k0 k1 k2 k3 H;dsimp only;refine ce (λhz=> ?_) (λhz=> ?_)
  ·have hz:i<(p.nod.length:Int):=zdu hz;rw[za7];have hd:=atR (d:=noN) k0 hz;have hx:=sn _ (bw (d:=noN) (l:=p.nod) (e:=i.toNat) (by omega));rw[hd,iB] at H;refine aY k0 hz (LK hx si k3 (by omega) (λhn=> ?_) (λu q hu=> ?_))
   ·rw[hn] at H;replace H:iB p.inp p.nod []=(us,false):=H;rw[H] at Y;replace Y:VJ p=([],(us.length:Int),90):=Y;rw[Y] at V;have:=V (show (90:Int)≠0 by decide);rwa[show ((us.length:Nat):Int)=i by omega] at this
   ·rw[hu] at H;replace H:iB p.inp p.nod []=iB p.inp (p.nod.drop (i+1).toNat) (us++ [u]):=H;refine ac (VP.2 (by omega)) ⟨(i+1,us++ [u]),⟨by show 0<=i+1;omega,by show i+1<=_;omega,by simp only[za3,za6];omega, ?_,H⟩,by show (_:Nat)<_;omega,CQ⟩;exact atS k3 (CR hx si k3 hu)
  ·have hz: ¬i<(p.nod.length:Int):=zdv hz;rw[show i.toNat=p.nod.length by omega,zbj,iB] at H;rw[H] at Y;refine ac (VP.2 (by omega)) (aY (by omega) (by omega) ?_);have e:(0+((us.length:Int) - 1).toNat)=us.length - 1:=by omega
   show ag (!eqU (mb noU us (0+((us.length:Int) - 1).toNat)) p.out) _ _;rw[e];refine ce (λh=> ?_) (λh=> ?_)
   ·have h:eqU (ly us) p.out=false:=by simpa [ly] using h
    rw[Y] at V;simp only[h,zdq] at V;exact V (show (90:Int)≠0 by decide)
   ·have h:eqU (ly us) p.out=true:=by simpa [ly] using h
    rw[Y] at hg;simp only[h,zdr] at hg;exact hg trivial
structure ProA where
 need:Bool
 o1:Option Nat
 o2:Option Nat
 p:Pr
def bW (n:Nat):Bool:=Nat.ble n 1000000
def mC (bl:zdM) (s:SV):Option ProA:=match s with
 | .agg (.val (.int .i64 id)::Y::Z::r)=>match vW bl 20 Y,vW bl 26 Z,Au (.agg r) with
   |some (N,o1,H,g1),some (V,o2,J,g2),some u=>some ⟨N&&V&&bW H&&bW J&&eU.good szB H g1&&eN.good szN J g2&&szB u,o1,o2,⟨id,eU.list H g1,eN.list J g2,u⟩⟩
   |_,_,_=>none
 |_=>none
def iK (p:Pr):zdU:= [eU.old p.inp,eN.old p.nod]
def kB (p:Pr):SV:=svP p.id p.inp p.nod p.out
variable {cs:zdK}
theorem pM (h:Au (.agg cs)=some u):cs=ci u:=by
 have:=cU.ok _ _ h;simpa [cU] using this
variable {xs ys:zdK}
theorem ar {f:zdY} {x y:SV} (h:x.rn f=some y) (k:SV.rns f xs=some ys):SV.rns f (x::xs)=some (y::ys):=by simp only[SV.rns,h,k]
theorem Xs {f:zdY} (k:SV.rns f xs=some ys):(SV.agg xs).rn f=some (.agg ys):=by simp only[SV.rn,k]
theorem xh {f:zdY} (k:SV.rns f xs=some ys):(SV.tup xs).rn f=some (.tup ys):=by simp only[SV.rn,k]
theorem eX {a:ProA} {f:zdY} (h:mC bl s=some a) (Y:a.need=true) (h0:f 0=some a.o1) (h1:f 1=some a.o2):
 j5 bl f (eU.old a.p.inp) a.o1/\j5 bl f (eN.old a.p.nod) a.o2/\(kB a.p).rn f=some s/\aci a.p=true/\a.p.inp.length<=1000000/\a.p.nod.length<=1000000:=by
 unfold mC at h;split at h
 ·rename_i id si sn r;split at h
  ·rename_i N o1 n1 g1 V o2 n2 g2 u H J hu;simp only[za1] at h;subst h;simp only[za2] at Y;obtain⟨⟨⟨⟨⟨⟨rfl,rfl⟩,l1⟩,l2⟩,k1⟩,k2⟩,k3⟩:=Y;obtain⟨Z,a2⟩:=cq (f:=f) H k1;obtain⟨N,V⟩:=cq (f:=f) J k2;refine⟨Z,N, ?_, ?_, ?_, ?_⟩
   ·have e:=rns_free (f:=f) (fj u);have d:=pM hu;subst d;exact Xs (ar (show SV.rn f (.val (.int .i64 id))=_ from rfl) (ar (a2 0 h0) (ar (V 1 h1) e)))
   ·unfold aci;simp only[za2,zaf];exact⟨⟨El.good_list k1,El.good_list k2⟩,k3⟩
   ·rw[El.list_length];exact zak l1
   ·rw[El.list_length];exact zak l2
  ·cases h
 ·cases h
def xi:MCtr:=λbl nx args=>match args with
 | [s]=>match mC bl s with
   |some a=>some {X:=Unit,pre:=a.need,spec:=λ_=>True,out:=λ_=> .tup [.slc nx 0 (VJ a.p).1.length, .val (.int .i64 (VJ a.p).2.1), .val (.int .i64 (VJ a.p).2.2)],nw:=λ_=> [eU.own (VJ a.p).1],ex:=λ_=>⟨(),trivial⟩}
   |none=>none
 |_=>none
theorem ke (p:Pr):((VJ p).2.2=90/\(VJ p).1= [])\/((VJ p).2.2=0/\(VJ p).2.1=0/\(VJ p).1.length=p.nod.length/\1<=p.nod.length):=by
 have N: ∀(l:ze0) (us vs:zdZ),iB p.inp l us=(vs,true)->vs.length=us.length+l.length:=by
  intro l
  induction l with
  |nil=>intro us vs h;simp only[iB,zag,and_true] at h;subst h;simp
  |cons x r Y=>
   intro us vs h;simp only[iB] at h;split at h
   ·have:=Y _ _ h;simp only[za3,za6] at this;simp only[za4];omega
   ·simp at h
 unfold VJ;cases J:oB p with
 |false=>exact .inl ⟨rfl,rfl⟩
 |true=>
  rw[zdr];cases V:iB p.inp p.nod [] with
  |mk us b=>
   cases b with
   |false=>exact .inl ⟨rfl,rfl⟩
   |true=>
    cases H:eqU (ly us) p.out with
    |false=>exact .inl ⟨by simp only[H,zdq],by simp only[H,zdq]⟩
    |true=>
     have:=N _ _ _ V;simp only[H,zdr];exact .inr ⟨trivial,trivial,by simpa using this,(Wb.1 J).2.2.1⟩
theorem cx (p:Pr): ∀C∈iK p,cN C.kd=false:=by simp[iK,cN,El.old]
theorem jG (p:Pr): ∀C∈iK p,C.kd.map=false:=by simp[iK,BK.map,El.old]
theorem OD:MOk gmC:=(MOk.nil.cons λ_ _ _ _ _ _ _ _ _ _ _ _ h=>by cases h).cons (IH MOk.nil)
variable {Q:zdR}
theorem vL {KS:Nat->Nat->Blk->List SV->Prop} {r:Res} {b:zdM} (h:slK KS Q r b m w):(∃i n H B,r= .ok (.tup (.slc i 0 n::H))/\b i=some B/\KS i n B H)\/ ∃s,r= .ok s/\Q s:=by
 unfold slK at h;split at h
 ·rename_i i n H;split at h
  ·rename_i B hB;exact .inl ⟨i,n,H,B,rfl,hB,h⟩
  ·exact h.elim
 ·exact .inr ⟨_,rfl,h⟩
 ·exact h.elim
theorem atW {R:Aft->Prop} (mono: ∀{K K':Aft},R K->(∀r b n w,K r b n w->K' r b n w)->R K') {a:ProA} (hq:2<=q)
 (key: ∀(V:Nat->Nat->Blk->List SV->Prop) (Q:zdR),((VJ a.p).2.2≠0->Q (zi (VJ a.p).2.1))->((VJ a.p).2.2=0->V q (VJ a.p).1.length {n:=(VJ a.p).1.length,sz:=20,get:=eU.get (VJ a.p).1,kd:= .own,nn:=false} [.val (.int .i64 0), .val (.int .i64 0)])->R (slK V Q)):
 R (KB {X:=Unit,pre:=a.need,spec:=λ_=>True,out:=λ_=> .tup [.slc nx 0 (VJ a.p).1.length, .val (.int .i64 (VJ a.p).2.1), .val (.int .i64 (VJ a.p).2.2)],nw:=λ_=> [eU.own (VJ a.p).1],ex:=λ_=>⟨(),trivial⟩} [a.o1,a.o2] (iK a.p) nx):=by
 refine mono (key (λi n B H=>(VJ a.p).2.2=0/\i=q/\n=(VJ a.p).1.length/\B={n:=(VJ a.p).1.length,sz:=20,get:=eU.get (VJ a.p).1,kd:= .own,nn:=false}/\H= [.val (.int .i64 0), .val (.int .i64 0)]) (λr=>(VJ a.p).2.2≠0/\r=zi (VJ a.p).2.1) (λh=>⟨h,rfl⟩) (λh=>⟨h,rfl,rfl,rfl,rfl⟩)) λr b m w h=> ?_;rcases vL h with ⟨i,n,H,B,rfl,hB,N,rfl,rfl,rfl,rfl⟩|⟨s,rfl,N,rfl⟩
 ·obtain⟨J,_⟩|⟨_,c2,Y,Z⟩:=ke a.p
  ·rw[J] at N;cases N
  ·refine⟨(),trivial, [some i],⟨_,rfl, ?_⟩,by simp[ck],⟨⟨hq, ?_⟩,trivial⟩,we (cx _) rfl _⟩
   ·simp only[SV.rn,SV.rns,cO,c2,N];rfl
   ·rw[hB];exact⟨by simp[El.own],λ_=> .inl rfl,gC rfl rfl (za0 _) λ_ _=>rfl⟩
 ·obtain⟨J,c2⟩|⟨J,_⟩:=ke a.p
  ·refine⟨(),trivial, [none],⟨_,rfl, ?_⟩,by simp[ck],⟨⟨rfl,by simp[El.own,c2],rfl⟩,trivial⟩,we (cx _) rfl _⟩;simp only[SV.rn,SV.rns,cO,J,c2];rfl
  ·exact absurd J N
theorem vM: ∀B:Base,GlobB B->VU prog B 11 xi:=eW OD λbl nx args C H hp=>by
 unfold xi at H;split at H
 ·rename_i s;split at H
  ·rename_i a J;simp only[za1] at H;subst H;obtain⟨s1,N,V,Y,Z,s6⟩:=eX (f:=rnF [a.o1,a.o2] [] nx) J hp rfl rfl;refine⟨[a.o1,a.o2],iK a.p, [kB a.p],tM (chkI a.p.inp a.p.nod) a.p.nod.length,6,aw s1 (aw N trivial),bH (cx _),cd (jG _),by simp only[SV.rns,V],atW (q:=71) cQ (by decide) λKS Q h1 h2=> ?_⟩;unfold kB iK;rw[OC];exact ES Y Z h1 h2
  ·cases H
 ·cases H
def pN:MCtr:=λbl nx args=>match args with
 | [s]=>match mC bl s with
   |some a=>some {X:=Unit,pre:=a.need,spec:=λ_=>True,out:=λ_=>cB.enc (VM a.p),ex:=λ_=>⟨(),trivial⟩}
   |none=>none
 |_=>none
def gmV:zdX:= [(11,xi)]
theorem OE:MOk gmV:=MOk.nil.cons vM
def jn (p:Pr):Bool:=(Nat.ble p.inp.length p.inp.length&&Nat.beq 20 20&&true)&&(Nat.ble p.nod.length p.nod.length&&Nat.beq 26 26&&true)&&bW p.inp.length&&bW p.nod.length&&eU.good szB p.inp.length (eU.get p.inp)&&eN.good szN p.nod.length (eN.get p.nod)&&szB p.out
def dm (p:Pr):Pr:=⟨p.id,eU.list p.inp.length (eU.get p.inp),eN.list p.nod.length (eN.get p.nod),p.out⟩
theorem fN (p:Pr):dm p=p:=by
 unfold dm;rw[show eU.list p.inp.length (eU.get p.inp)=p.inp from El.list_get,show eN.list p.nod.length (eN.get p.nod)=p.nod from El.list_get]
theorem eY (h:aci p=true) (h1:p.inp.length<=1000000) (h2:p.nod.length<=1000000):jn p=true:=by
 unfold aci at h;simp only[za2,zaf] at h;unfold jn bW;rw[zae h1,zae h2,zae (za0 _),zae (za0 _),El.good_get h.1.1,El.good_get h.1.2,h.2];rfl
theorem ET (p:Pr) (Q:zdR):dk gmV (λ_ _=>none) 3 18 [kB p] (iK p) (Go.Sy.okK λr _ _ _=>Q r)=af (jn p) (Unit->True->Q (cB.enc ((VJ (dm p)).2.2==0))):=by kernel_rfl
theorem lz (x:C.X) (J:C.spec x) (h1:C.pan x=none) (h2:r.ids= []) (h3:C.out x=r) (h4:C.nw x= []) (h5:C.ch x= []) (h6: ∀C∈Cs,cN C.kd=false) (H:src.length=Cs.length)
 (h:dk gm ann n f args Cs (Go.Sy.okK λs _ _ _=>s=r)):dk gm ann n f args Cs (KB C src Cs nx):=cQ h λq b m w hq=>by
 cases q with
 |pan v=>exact hq.elim
 |ok s=>
  obtain rfl:s=r:=hq;exact IG x J h1 h2 h3 h4 h5 h6 H
theorem lZ: ∀B:Base,GlobB B->VU prog B 18 pN:=eW OE λbl nx args C H hp=>by
 unfold pN at H;split at H
 ·rename_i s;split at H
  ·rename_i a J;simp only[za1] at H;subst H;obtain⟨s1,N,V,Y,Z,s6⟩:=eX (f:=rnF [a.o1,a.o2] [] nx) J hp rfl rfl;refine⟨[a.o1,a.o2],iK a.p, [kB a.p],(λ_ _=>none),3,aw s1 (aw N trivial),bH (cx _),cd (jG _),by simp only[SV.rns,V], ?_⟩;refine lz () trivial rfl (r:=cB.enc (VM a.p)) rfl rfl rfl rfl (cx _) rfl ?_;rw[ET];exact ac (eY Y Z s6) λ_ _=>by rw[fN];rfl
  ·cases H
 ·cases H
def CS (I:Int->Prop) (N:Int):zdV:=λf k=>bif Nat.beq f 135&&Nat.beq k 2 then some (λA=>{X:=Int,inv:=I,tm:=λi=> [(8, .val (.int .i64 i))],mu:=λi=>(N - i).toNat,keep:= [0,1,7]}) else none
theorem LM (I:Int->Prop) (N:Int) (l:List RS) (Q:zdR):dk [] (CS I N) 5 57 [.slc 0 0 l.length, .fn (.func 55) [] []] [eR.old l] (Go.Sy.okK λr _ _ _=>Q r)=
 LH I N (.slc 0 0 l.length) (.fn (.func 55) [] []) l.length (λz Q=>af (uzR (eR.nth l (0+z.toNat))) (Q (!rV (eR.nth l (0+z.toNat))))) (λz=>Q (cB.enc (decide (z≥0)))):=by kernel_rfl
def II:MCtr:=λbl _ args=>match args with
 | [s, .fn (.func g) [] []]=>bif Nat.beq g 55 then(match vW bl 2 s with
   |some (b,_,n,c)=>some {X:=Unit,pre:=b&&(Nat.ble n 1000000&&eR.good uzR n c),spec:=λ_=>True,out:=λ_=>cB.enc (!(eR.list n c).all rV),ex:=λ_=>⟨(),trivial⟩}
   |none=>none) else none
 |_=>none
theorem IJ (Z:MOk gm): ∀B:Base,GlobB B->VU prog B 57 II:=eW MOk.nil λbl nx args C J hp=>by
 unfold II at J;split at J
 ·rename_i s g;cases hg:Nat.beq g 55 with
  |false=>rw[hg] at J;cases J
  |true=>
   obtain rfl:=zab hg;rw[hg,zdr] at J;split at J
   ·rename_i b o n c Y;simp only[za1] at J;subst J;simp only[za2] at hp;obtain⟨rfl,V,H⟩:=hp;have N:(eR.list n c).length<2^62:=by rw[El.list_length];have:=zak V;omega
    obtain⟨h1,h2⟩:=cq (f:=rnF [o] [] nx) Y H;refine⟨[o], [eR.old (eR.list n c)], [.slc 0 0 (eR.list n c).length, .fn (.func 55) [] []],CS (λi=>0<=i/\i<=(eR.list n c).length/\be (λu=> !rV u) (eR.list n c) 0=be (λu=> !rV u) ((eR.list n c).drop i.toNat) i) (eR.list n c).length,5,aw h1 trivial,bH (by simp[cN,El.old]),cd (by simp[El.old,BK.map]), ?_, ?_⟩
    ·simp only[SV.rns,h2 0 rfl];rfl
    ·refine lz () trivial rfl (r:=cB.enc (!(eR.list n c).all rV)) rfl rfl rfl rfl (by simp[cN,El.old]) rfl ?_;rw[LM];refine pJ VI N (λz Q h0 h1 h=> ?_) ?_
     ·rw[za7];have:=El.good_list H _ (bw (d:=VI) (l:=eR.list n c) (e:=z.toNat) (by omega));exact ac this h
     ·rw[pI _ _ _ (zat _),CP]
   ·cases J
 ·cases J
def gmE:zdX:= [(18,pN),(57,II)]
theorem OF:MOk gmE:=(MOk.nil.cons (IJ MOk.nil)).cons lZ
abbrev EX:=Int×List RS
abbrev PWX:=Int×RS
def OG (A:AS):RS:=match A.tm 7 with
 | .v (.slc i _ _)=>match A.bl i,Bh A (kA A 10) 24 with
   |some B, .val (.int _ l)=>NH (B.get (0+l.toNat))
   |_,_=>VI
 |_=>VI
def P7 (A:AS) (t:Nat):Int:=match A.tm t with
 | .v (.val (.int _ z))=>z
 |_=>0
def CT (I:EX->Prop) (N:Int) (J:RS->Int->PWX->Prop):zdV:=λf k=>bif Nat.beq f 65 then(bif Nat.beq k 4 then some (λA=>{X:=EX,inv:=I,tm:=λx=> [(19, .val (.int .i64 x.1)),(7, .slc A.nx 0 x.2.length)],gr:= [{src:= .slot 7,sz:=2,n:=λx=>x.2.length,get:=λx=>eR.get x.2}],cleanG:=λg hg x e=>by simp at hg;subst hg;exact eR.ids _,mu:=λx=>(N - x.1).toNat,keep:= [2,3,4,6,8,17,18]})
 else bif Nat.beq k 23 then some (λA=>{X:=PWX,inv:=J (OG A) (P7 A 119),tm:=λx=> [(120, .val (.int .i64 x.1))],st:= [(kA A 11,λx=>gA x.2)],mu:=λx=>(4 - x.1).toNat,keep:= [2,3,4,6,7,8,10,11,17,18,19,119]}) else none) else none
def LN:SV:= .tup [.agg (gA VI), .val (.int .i64 90)]
def LO (r:RS×Int) (H:Prop) (K:RS->Prop):Prop:=ag (r.2 !=0) H (K r.1)
def LP (n:Nat) (K:Prop):Prop:=af (decide (0<1)&&decide (0+1<=1)&&decide (n<=n)&&decide ((n+1)*32<=140737488355328)&&true) K
def evS (ni nn:Nat) (Q:Prop):Prop:=tvE (.slc 2 0 ni)/\cg 27/\cg 28/\cg 29/\cg 38/\tvE (.slc 1 0 nn)/\tvE (cI.enc (nn:Int))/\Q
def evM (q ni nn:Nat) (p:Int) (n:Nat) (us:zdN) (z:EX):Prop:=
 (TV.v (cI.enc p)=TV.v (cI.enc z.1)/\TV.v (.slc q 0 n)=TV.v (.slc q 0 z.2.length)/\evS ni nn True)/\(True/\(True/\(af (Nat.beq 2 2&&decide (z.2.length<=n)) (∀e,e<z.2.length->us e=eR.get z.2 e)/\True)))
def evN (I:EX->Prop) (N:Int) (q ni nn:Nat) (i:Int) (vs:List RS) (v:RS):Prop:=LP vs.length (af (inR .i64 (i+1)) (∃z:EX,I z/\((N - z.1).toNat<(N - i).toNat/\evM q ni nn (i+1) (vs.length+1) (ald (eR.get vs) (λe=>((gA v).drop (e*2)).take 2) vs.length 0) z)))
def jH (n:Int):Int:=if -n>n then -n else n
def pwE (ni nn:Nat) (i:Int) (n:Nat) (m:Int) (p:Int) (v:RS) (z:PWX):Prop:=
 (TV.v (cI.enc p)=TV.v (cI.enc z.1)/\tvE (.slc 2 0 ni)/\cg 27/\cg 28/\cg 29/\tvE (.slc 44 0 n)/\cg 38/\cg 48/\cg 50/\tvE (.slc 1 0 nn)/\tvE (cI.enc (nn:Int))/\tvE (cI.enc i)/\tvE (cI.enc m)/\True)/\(True/\((gA v=gA z.2/\True)/\True))
def opP (vs:List RS) (x:Nd) (f:RS->RS->RS×Int) (H:Prop) (K:RS->Prop):Prop:=
 eO vs.length x.l (eO vs.length x.r (af (uzR (mb VI vs (0+x.l.toNat))&&uzR (mb VI vs (0+x.r.toNat))) (LO (f (mb VI vs (0+x.l.toNat)) (mb VI vs (0+x.r.toNat))) H K)))
def P8 (J:RS->Int->PWX->Prop) (ni nn:Nat) (i:Int) (vs:List RS) (x:Nd) (H:Prop) (Y Z:RS->Prop):Prop:=
 af (inR .i64 (-x.n)) (∃V:PWX,J (mb VI vs (0+x.l.toNat)) (jH x.n) V/\(pwE ni nn i vs.length (jH x.n) 0 rI V/\ ∀z:PWX,J (mb VI vs (0+x.l.toNat)) (jH x.n) z->ag (decide (z.1<jH x.n))
  (eO vs.length x.l (af (uzR z.2&&uzR (mb VI vs (0+x.l.toNat))) (LO (ale z.2 (mb VI vs (0+x.l.toNat))) H λv=>af (inR .i64 (z.1+1)) (∃N:PWX,J (mb VI vs (0+x.l.toNat)) (jH x.n) N/\((4 - N.1).toNat<(4 - z.1).toNat/\pwE ni nn i vs.length (jH x.n) (z.1+1) v N)))))
  (ag (decide (x.n<0)) (af (uzR rI&&uzR z.2) (LO (cA rI z.2) H Y)) (Z z.2))))
def evP (I:EX->Prop) (N:Int) (J:RS->Int->PWX->Prop) (H:List RS) (nn:Nat) (i:Int) (vs:List RS) (x:Nd) (V:Prop):Prop:=
 ag (x.op==1) (evN I N 84 H.length nn i vs x.v) (
 ag (x.op==2) (eO H.length x.n (evN I N 83 H.length nn i vs (mb VI H (0+x.n.toNat)))) (
 ag (x.op==3) (opP vs x fZ V (evN I N 87 H.length nn i vs)) (
 ag (x.op==4) (opP vs x iF V (evN I N 89 H.length nn i vs)) (
 ag (x.op==5) (opP vs x ale V (evN I N 91 H.length nn i vs)) (
 ag (x.op==6) (opP vs x cA V (evN I N 93 H.length nn i vs)) (
 ag (x.op==7) (P8 J H.length nn i vs x V (evN I N 115 H.length nn i vs) (evN I N 100 H.length nn i vs)) (
 ag (x.op==8) (eO vs.length x.l V) (evN I N 89 H.length nn i vs VI))))))))
def evT (I:EX->Prop) (N:Int) (J:RS->Int->PWX->Prop) (p:Pr) (H:List RS) (Q:zdR):Prop:=
 af (jn p) (Unit->True->ag (bif !VM (dm p) then true else((H.length:Int) !=(p.inp.length:Int))) (Q LN)
 (af (Nat.ble H.length H.length&&Nat.beq 2 2&&true&&(Nat.ble H.length 1000000&&eR.good uzR H.length (eR.get H))) (Unit->True->ag (!(eR.list H.length (eR.get H)).all rV) (Q LN)
 (∃V:EX,I V/\(((TV.v (cI.enc 0)=TV.v (cI.enc V.1)/\TV.v (.val (.slice none 0 0))=TV.v (.val (.slice none V.2.length 0))/\evS H.length p.nod.length True)/\(True/\(True/\(V.2.length=0/\True))))/\
   ∀z:EX,I z->ag (decide (z.1<(p.nod.length:Int)))
    (eO p.nod.length z.1 (evP I N J H p.nod.length z.1 z.2 (mb noN p.nod (0+z.1.toNat)) (Q LN)))
    (af (inR .i64 ((z.2.length:Int) - 1)) (eO z.2.length ((z.2.length:Int) - 1) (Q (.tup [.agg (gA (mb VI z.2 (0+((z.2.length:Int) - 1).toNat))), .val (.int .i64 0)])))))))))
theorem P9 (I:EX->Prop) (N:Int) (J:RS->Int->PWX->Prop) (p:Pr) (H:List RS) (Q:zdR):dk gmE (CT I N J) 6 13 [kB p, .slc 2 0 H.length] [eU.old p.inp,eN.old p.nod,eR.old H] (Go.Sy.okK λr _ _ _=>Q r)=evT I N J p H Q:=by kernel_rfl
def okR (r:RS×Int):Option RS:=bif r.2 !=0 then none else some r.1
def kC (b:RS):Nat->Option RS
 |0=>some rI
 |k+1=>match kC b k with
  |some v=>okR (ale v b)
  |none=>none
def valF (H vs:List RS) (x:Nd):Option RS:=
 bif x.op==1 then some x.v else
 bif x.op==2 then some (mb VI H x.n.toNat) else
 bif x.op==3 then okR (fZ (mb VI vs x.l.toNat) (mb VI vs x.r.toNat)) else
 bif x.op==4 then okR (iF (mb VI vs x.l.toNat) (mb VI vs x.r.toNat)) else
 bif x.op==5 then okR (ale (mb VI vs x.l.toNat) (mb VI vs x.r.toNat)) else
 bif x.op==6 then okR (cA (mb VI vs x.l.toNat) (mb VI vs x.r.toNat)) else
 bif x.op==7 then(match kC (mb VI vs x.l.toNat) (jH x.n).toNat with
  |some v=>bif decide (x.n<0) then okR (cA rI v) else some v
  |none=>none) else
 bif x.op==8 then none else some VI
def iC (H:List RS):List Nd->List RS->Option (List RS)
 | [],vs=>some vs
 |x::r,vs=>match valF H vs x with
  |some v=>iC H r (vs++ [v])
  |none=>none
def CU (vs:List RS):RS:=mb VI vs (vs.length - 1)
def bn (p:Pr) (H:List RS):RS×Int:=bif !VM p||H.length !=p.inp.length|| !H.all rV then(VI,90) else(match iC H p.nod [] with
 |some vs=>(CU vs,0)
 |none=>(VI,90))
theorem xj {inp:zdZ}: ∀{l:ze0} {us vs:zdZ},iB inp l us=(vs,true)-> ∀j,j<l.length-> ∃H u,H.length=us.length+j/\mn inp H (mb noN l j)=some u
 | [],us,vs,_,j,J=>by simp at J
 |x::r,us,vs,h,j,J=>by
  simp only[iB] at h;split at h
  ·rename_i u N;cases j with
   |zero=>exact⟨us,u,rfl,N⟩
   |succ j=>
    obtain⟨H,v,h1,h2⟩:=xj h j (by simpa using J);exact⟨H,v,by rw[h1];simp;omega,h2⟩
  ·simp at h
theorem vN (h:mn inp us x=some u):VT us.length x=true/\(fL inp us x).2=0/\(fL inp us x).1=u:=by
 unfold mn at h;cases h1:VT us.length x&&(fL inp us x).2==0 with
 |false=>rw[h1] at h;cases h
 |true=>
  rw[h1] at h;simp only[zdr,za1] at h;simp only[za2,zdy] at h1;exact⟨h1.1,h1.2,h⟩
structure NodeOK (ni n:Nat) (x:Nd):Prop where
 form:VT n x=true
 op:1<=x.op/\x.op<=8
 inp:x.op=2->0<=x.n/\x.n<ni
 left:3<=x.op->0<=x.l/\x.l<n
 right:3<=x.op->x.op<=6->0<=x.r/\x.r<n
 pow:x.op=7->x.n≠0/\ -4<=x.n/\x.n<=4
theorem EU (h1:VT us.length x=true) (h2:(fL inp us x).2=0):NodeOK inp.length us.length x:=by
 have hop:1<=x.op/\x.op<=8:=by
  unfold VT at h1;by_cases o1:x.op=1
  ·omega
  by_cases o2:x.op=2
  ·omega
  by_cases o3:3<=x.op/\x.op<=6
  ·omega
  by_cases J:x.op=7
  ·omega
  by_cases N:x.op=8
  ·omega
  exfalso;rw[zdw o1,zdw o2,zdw J,zdw N] at h1;have:(decide (3<=x.op)&&decide (x.op<=6))=false:=by simp;omega
  rw[this] at h1;cases h1
 refine⟨h1,hop,λo=> ?_,λo=> ?_,λo o'=> ?_,λo=> ?_⟩
 ·unfold fL at h2;rw[o] at h2;cases H:decide (0<=x.n)&&decide (x.n<(inp.length:Int)) with
  |true=>simpa using H
  |false=>rw[H] at h2;exact absurd (show (90:Int)=0 from h2) (by decide)
 ·unfold VT at h1;rw[zdw (show x.op≠1 by omega),zdw (show x.op≠2 by omega)] at h1;by_cases o3:x.op<=6
  ·rw[zdp o,zdp o3] at h1;simp only[zdq,zc6,zdr,za2] at h1;exact V2.1 h1.1.2
  ·by_cases J:x.op=7
   ·rw[J] at h1;exact V2.1 (Bool.and_eq_true_iff.1 h1).2
   ·have N:x.op=8:=by omega
    rw[N] at h1;exact V2.1 (Bool.and_eq_true_iff.1 h1).2
 ·unfold VT at h1;rw[zdw (show x.op≠1 by omega),zdw (show x.op≠2 by omega),zdp o,zdp o'] at h1;simp only[zdq,zc6,zdr,za2] at h1;exact V2.1 h1.2
 ·unfold fL at h2;rw[o] at h2;cases H:x.n==0||decide (x.n< -4)||decide (x.n>4) with
  |true=>rw[H] at h2;exact absurd (show (90:Int)=0 from h2) (by decide)
  |false=>simp at H;omega
theorem bQ (h:VM p=true):oB p=true/\ ∀j,j<p.nod.length->NodeOK p.inp.length j (mb noN p.nod j):=by
 unfold VM at h;have h:=beq_iff_eq.1 h;unfold VJ at h;cases H:oB p with
 |false=>rw[H] at h;exact absurd (show (90:Int)=0 from h) (by decide)
 |true=>
  rw[H,zdr] at h;refine⟨rfl,λj N=> ?_⟩;cases J:iB p.inp p.nod [] with
  |mk us b=>
   rw[J] at h;cases b with
   |false=>exact absurd (show (90:Int)=0 from h) (by decide)
   |true=>
    obtain⟨V,u,h1,h2⟩:=xj J j N;obtain⟨f1,f2,_⟩:=vN h2;have:=EU f1 f2;rwa[h1,za9,za7] at this
theorem rg {l:List RS} (h: ∀u∈l,uzR u=true) (e:Nat):uzR (mb VI l e)=true:=by
 by_cases H:e<l.length
 ·exact h _ (bw H)
 ·have: ∀(l:List RS) (e:Nat),l.length<=e->mb VI l e=VI:=by
   intro l
   induction l with
   |nil=>intro e _;rfl
   |cons x r J=>intro e H;cases e with
    |zero=>simp at H
    |succ e=>exact J e (by simpa using H)
  rw[this l e (by omega)];decide
theorem fq {r:RS×Int} {v:RS} (h:okR r=some v):r.2=0/\r.1=v:=by
 unfold okR at h;cases H:r.2 !=0 with
 |true=>rw[H] at h;cases h
 |false=>rw[H] at h;simp at h H;exact⟨H,h⟩
theorem CV {b:RS}: ∀{k:Nat} {v:RS},kC b k=some v->uzR v=true
 |0,v,h=>by simp[kC] at h;subst h;decide
 |k+1,v,h=>by
  simp only[kC] at h;split at h
  ·rw[<-(fq h).2];exact gI _ _
  ·cases h
theorem xk {r:RS×Int} {K:RS->Prop} (h0:okR r=none->bad) (h1: ∀v,okR r=some v->K v):LO r bad K:=ce (λh=>h0 (by unfold okR;rw[h];rfl)) (λh=>h1 _ (by unfold okR;rw[h];rfl))
theorem LQ (h:n<=1000000) (k:K):LP n K:=ac (by
 rw[zdp (zbS),zdp (show 0+1<=1 by omega),zdp (za0 n),zdp (show (n+1)*32<=140737488355328 by omega)];rfl) k
theorem OH {p:Int} {us:List RS} {u:RS}:evM q ni nn p (us.length+1) (ald (eR.get us) (λe=>((gA u).drop (e*2)).take 2) us.length 0) (p,us++ [u]):=by
 have H:(us++ [u]).length=us.length+1:=by simp
 refine⟨⟨rfl,by rw[H],rfl,rfl,rfl,rfl,rfl,rfl,rfl,trivial⟩,trivial,trivial, ?_,trivial⟩;refine ac (by rw[zdp (by rw[H];exact za0 _)];rfl) λe J=> ?_;rw[H] at J;unfold ald El.get El.nth;rw[aB];show _=gA (mb VI (us++ [u]) e);rw[aS];by_cases h:e<us.length
 ·rw[zdp h,zdr,if_neg (by omega)];rfl
 ·obtain rfl:e=us.length:=by omega
  rw[zds h,zdq,if_pos rfl,zaJ];rfl
def OI (b:RS) (m:Int) (z:PWX):Prop:=0<=z.1/\z.1<=m/\m<=4/\kC b z.1.toNat=some z.2
theorem YZ {m p:Int} {v:RS}:pwE ni nn i n m p v (p,v):=⟨⟨rfl,rfl,rfl,rfl,rfl,rfl,rfl,rfl,rfl,rfl,rfl,rfl,rfl,trivial⟩,trivial,⟨rfl,trivial⟩,trivial⟩
variable {ins vs:List RS}
theorem OJ {I:EX->Prop} (hx:NodeOK ni vs.length x) (e0:ins.length=ni) (hv: ∀u∈vs,uzR u=true) (hb:valF ins vs x=none->bad) (hs: ∀v q,valF ins vs x=some v->evN I N q ins.length nn i vs v):evP I N OI ins nn i vs x bad:=by
 obtain⟨o1,o2⟩:=hx.op;have two: ∀{f:RS->RS->RS×Int} {q:Nat},3<=x.op->x.op<=6->valF ins vs x=okR (f (mb VI vs x.l.toNat) (mb VI vs x.r.toNat))->opP vs x f bad (evN I N q ins.length nn i vs):=λ{f q} a b e=>by
  have Z:=hx.left a;have hr:=hx.right a b;unfold opP;rw[za7,za7];exact aY Z.1 Z.2 (aY hr.1 hr.2 (ac (by rw[rg hv,rg hv];rfl) (xk (λh=>hb (e.trans h)) (λv h=>hs v q (e.trans h)))))
 unfold evP;refine ce (λe1=> ?_) (λe1=>ce (λJ=> ?_) (λJ=>ce (λV=> ?_) (λV=>ce (λe4=> ?_) (λe4=>ce (λY=> ?_) (λY=>ce (λe6=> ?_) (λe6=>ce (λe7=> ?_) (λe7=>ce (λe8=> ?_) (λe8=> ?_))))))))
 ·exact hs _ _ (by unfold valF;rw[e1];rfl)
 ·have h:=hx.inp (int_eq.1 J);rw[za7];exact aY h.1 (by omega) (hs _ _ (by unfold valF;rw[e1,J];rfl))
 ·exact two (by rw[int_eq.1 V];decide) (by rw[int_eq.1 V];decide) (by unfold valF;rw[e1,J,V];rfl)
 ·exact two (by rw[int_eq.1 e4];decide) (by rw[int_eq.1 e4];decide) (by unfold valF;rw[e1,J,V,e4];rfl)
 ·exact two (by rw[int_eq.1 Y];decide) (by rw[int_eq.1 Y];decide) (by unfold valF;rw[e1,J,V,e4,Y];rfl)
 ·exact two (by rw[int_eq.1 e6];decide) (by rw[int_eq.1 e6];decide) (by unfold valF;rw[e1,J,V,e4,Y,e6];rfl)
 ·have hp:=hx.pow (int_eq.1 e7);have Z:=hx.left (by rw[int_eq.1 e7];decide)
  have e:valF ins vs x=(match kC (mb VI vs x.l.toNat) (jH x.n).toNat with
   |some v=>bif decide (x.n<0) then okR (cA rI v) else some v
   |none=>none):=by unfold valF;rw[e1,J,V,e4,Y,e6,e7];rfl
  have hm:0<=jH x.n/\jH x.n<=4:=by unfold jH;split<;>omega
  unfold P8;rw[za7];refine ac (VP.2 (by omega)) ⟨(0,rI),⟨zat _,hm.1,hm.2,rfl⟩,YZ, ?_⟩;rintro⟨k,v⟩ ⟨k0,k1,_,k2⟩;dsimp only at k0 k1 k2 ⊢;have a0:=CV k2;refine ce (λhk=> ?_) (λhk=> ?_)
  ·have hk:=zdu hk;refine aY Z.1 Z.2 (ac (by rw[a0,rg hv];rfl) (xk (λh=>hb ?_) (λw h=> ?_)))
   ·have: ∀m,kC (mb VI vs x.l.toNat) (k.toNat+1+m)=none:=by
     intro m
     induction m with
     |zero=>simp only[zaY,kC,k2,h]
     |succ m ih=>rw[<-zbr,kC,ih]
    have:=this ((jH x.n).toNat - (k.toNat+1));rw[show k.toNat+1+((jH x.n).toNat - (k.toNat+1))=(jH x.n).toNat by omega] at this;rw[e,this]
   ·refine ac (VP.2 (by omega)) ⟨(k+1,w),⟨by show 0<=k+1;omega,by show k+1<=_;omega,hm.2, ?_⟩,by show (_:Nat)<_;omega,YZ⟩;show kC _ (k+1).toNat=some w;rw[show (k+1).toNat=k.toNat+1 by omega,kC,k2];exact h
  ·have hk:=zdv hk;rw[show k.toNat=(jH x.n).toNat by omega] at k2;rw[k2] at e;refine ce (λH=> ?_) (λH=> ?_)
   ·rw[H] at e;exact ac (by rw[a0];decide) (xk (λh=>hb (e.trans h)) (λw h=>hs w _ (e.trans h)))
   ·rw[H] at e;exact hs _ _ e
 ·have Z:=hx.left (by rw[int_eq.1 e8];decide);exact aY Z.1 Z.2 (hb (by unfold valF;rw[e1,J,V,e4,Y,e6,e7,e8];rfl))
 ·exact hs _ _ (by unfold valF;rw[e1,J,V,e4,Y,e6,e7,e8];rfl)
theorem LR {v:RS} (H:szN x=true) (hi: ∀u∈ins,uzR u=true) (hv: ∀u∈vs,uzR u=true) (h:valF ins vs x=some v):uzR v=true:=by
 unfold szN at H;rw[za2] at H;unfold valF at h;have ok: ∀{r:RS×Int},uzR r.1=true->okR r=some v->uzR v=true:=λh1 h2=>by rw[<-(fq h2).2];exact h1
 cases h1:x.op==1 with
 |true=>rw[h1] at h;simp at h;subst h;exact H.1
 |false=>
  rw[h1,zdq] at h;cases h2:x.op==2 with
  |true=>rw[h2] at h;simp at h;subst h;exact rg hi _
  |false=>
   rw[h2,zdq] at h;cases h3:x.op==3 with
   |true=>rw[h3,zdr] at h;exact ok (Lq _ _) h
   |false=>
    rw[h3,zdq] at h;cases h4:x.op==4 with
    |true=>rw[h4,zdr] at h;exact ok (Lr _ _) h
    |false=>
     rw[h4,zdq] at h;cases h5:x.op==5 with
     |true=>rw[h5,zdr] at h;exact ok (gI _ _) h
     |false=>
      rw[h5,zdq] at h;cases h6:x.op==6 with
      |true=>rw[h6,zdr] at h;exact ok (lY _ _) h
      |false=>
       rw[h6,zdq] at h;cases h7:x.op==7 with
       |true=>
        rw[h7,zdr] at h;split at h
        ·rename_i w N;cases J:decide (x.n<0) with
         |true=>rw[J,zdr] at h;exact ok (lY _ _) h
         |false=>rw[J,zdq] at h;simp at h;subst h;exact CV N
        ·cases h
       |false=>
        rw[h7,zdq] at h;cases h8:x.op==8 with
        |true=>rw[h8] at h;cases h
        |false=>rw[h8] at h;simp at h;subst h;decide
def evI (H:List RS) (nod:ze0) (z:EX):Prop:=0<=z.1/\z.1<=nod.length/\z.2.length=z.1.toNat/\(∀u∈z.2,uzR u=true)/\iC H nod []=iC H (nod.drop z.1.toNat) z.2
theorem IK (e0:aci p=true) (h6:p.inp.length<=1000000) (h7:p.nod.length<=1000000) (hi: ∀u∈ins,uzR u=true) (h8:ins.length<=1000000)
 (hQ:Q (.tup [.agg (gA (bn p ins).1), .val (.int .i64 (bn p ins).2)])):evT (evI ins p.nod) p.nod.length OI p ins Q:=by
 have J:=e0;unfold aci at J;simp only[za2,zaf] at J;obtain⟨⟨si,sn⟩,so⟩:=J;have gl:eR.list ins.length (eR.get ins)=ins:=El.list_get;have N:bn p ins=(VI,90)->Q LN:=λh=>by rw[h] at hQ;exact hQ
 unfold evT;refine ac (eY e0 h6 h7) λ_ _=> ?_;rw[fN];refine ce (λh=>N ?_) (λh=>ac (by rw[El.good_get hi];simp[h8]) λ_ _=>ce (λk=>N ?_) (λk=> ?_))
 ·unfold bn;cases hv:VM p with
  |false=>rfl
  |true=>
   rw[hv] at h;have:(ins.length !=p.inp.length)=true:=by simp at h ⊢;omega
   rw[this];rfl
 ·rw[gl] at k;unfold bn;rw[k,Bool.or_true];rfl
 ·rw[gl] at k;cases hv:VM p with
  |false=>rw[hv] at h;cases h
  |true=>
  rw[hv] at h;have hl:ins.length=p.inp.length:=by simp at h;omega
  obtain⟨Y,a0⟩:=bQ hv;have Z:bn p ins=match iC ins p.nod [] with
   |some vs=>(CU vs,0)
   |none=>(VI,90):=by unfold bn;rw[hv,k,hl];simp
  have hb:=Wb.1 Y;refine⟨(0, []),⟨zat _,by show (0:Int)<=_;omega,rfl,λu h=>(by cases h),rfl⟩,⟨⟨rfl,rfl,rfl,rfl,rfl,rfl,rfl,rfl,rfl,trivial⟩,trivial,trivial,rfl,trivial⟩, ?_⟩;rintro⟨i,vs⟩ ⟨k0,k1,k2,k3,H⟩;simp only at k0 k1 k2 k3 H;dsimp only;refine ce (λV=> ?_) (λV=> ?_)
  ·have V:i<(p.nod.length:Int):=zdu V;rw[za7];have hd:=atR (d:=noN) k0 V;have hx:=a0 i.toNat (by omega);have g0:=sn _ (bw (d:=noN) (l:=p.nod) (e:=i.toNat) (by omega));rw[<-k2] at hx;rw[hd,iC] at H;rw[k2] at hx;refine aY k0 V (OJ (by rw[<-k2] at hx;rwa[k2] at hx ⊢) hl k3 (λhn=>N ?_) (λv q hu=> ?_))
   ·rw[hn] at H;replace H:iC ins p.nod []=none:=H;rw[Z,H]
   ·rw[hu] at H;replace H:iC ins p.nod []=iC ins (p.nod.drop (i+1).toNat) (vs++ [v]):=H;refine LQ (by omega) (ac (VP.2 (by omega)) ⟨(i+1,vs++ [v]),⟨by show 0<=i+1;omega,by show i+1<=_;omega,by simp only[za3,za6];omega, ?_,H⟩,by show (_:Nat)<_;omega,OH⟩);exact atS k3 (LR g0 hi k3 hu)
  ·have V: ¬i<(p.nod.length:Int):=zdv V;rw[show i.toNat=p.nod.length by omega,zbj,iC] at H;rw[H] at Z;replace Z:bn p ins=(CU vs,0):=Z;rw[Z] at hQ;refine ac (VP.2 (by omega)) (aY (by omega) (by omega) ?_);rw[show (0+((vs.length:Int) - 1).toNat)=vs.length - 1 by omega];exact hQ
def zm:MCtr:=λbl nx args=>match args with
 | [s,t]=>match mC bl s,vW bl 2 t with
   |some a,some (b,o,n,c)=>some {X:=Unit,pre:=a.need&&b&&bW n&&eR.good uzR n c,spec:=λ_=>True,out:=λ_=> .tup [.agg (gA (bn a.p (eR.list n c)).1), .val (.int .i64 (bn a.p (eR.list n c)).2)],ex:=λ_=>⟨(),trivial⟩}
   |_,_=>none
 |_=>none
theorem tP: ∀B:Base,GlobB B->VU prog B 13 zm:=eW OF λbl nx args C J hp=>by
 unfold zm at J;split at J
 ·rename_i s t;split at J
  ·rename_i a b o n c N Y;simp only[za1] at J;subst J;simp only[za2] at hp;obtain⟨⟨⟨hp,rfl⟩,V⟩,H⟩:=hp;obtain⟨s1,Z,s3,s4,s5,s6⟩:=eX (f:=rnF [a.o1,a.o2,o] [] nx) N hp rfl rfl;obtain⟨t1,t2⟩:=cq (f:=rnF [a.o1,a.o2,o] [] nx) Y H;refine⟨[a.o1,a.o2,o], [eU.old a.p.inp,eN.old a.p.nod,eR.old (eR.list n c)], [kB a.p, .slc 2 0 (eR.list n c).length],CT (evI (eR.list n c) a.p.nod) a.p.nod.length OI,6,aw s1 (aw Z (aw t1 trivial)),bH (by simp[cN,El.old]),cd (by simp[El.old,BK.map]),ar s3 (ar (t2 2 rfl) rfl), ?_⟩;refine lz () trivial rfl (r:= .tup [.agg (gA (bn a.p (eR.list n c)).1), .val (.int .i64 (bn a.p (eR.list n c)).2)]) rfl rfl rfl rfl (by simp[cN,El.old]) rfl ?_;rw[P9];exact IK s4 s5 s6 (El.good_list H) (by rw[El.list_length];exact zak V) rfl
  ·cases J
 ·cases J
def LY (n:Nat) (K:Prop):Prop:=af (decide (0<1)&&decide (0+1<=1)&&decide (n<=n)&&decide ((n+1)*256<=140737488355328)&&true) K
theorem xp (h:n<=1000000) (k:K):LY n K:=ac (by
 rw[zdp (zbS),zdp (show 0+1<=1 by omega),zdp (za0 n),zdp (show (n+1)*256<=140737488355328 by omega)];rfl) k
def gv (l:ze0) (v:Nd):zdN:=ald (eN.get l) (λe=>((svN v).drop (e*26)).take 26) l.length 0
variable {e:Nat}
theorem pO {us:ze0} {u:Nd} (H:e<us.length+1):gv us u e=eN.get (us++ [u]) e:=by
 unfold gv ald El.get El.nth;rw[aB];show _=svN (mb noN (us++ [u]) e);rw[aS];by_cases h:e<us.length
 ·rw[zdp h,zdr,if_neg (by omega)];rfl
 ·obtain rfl:e=us.length:=by omega
  rw[zds h,zdq,if_pos rfl,zaJ];rfl
def qv (A:AS) (t:Nat):zdN:=match A.tm t with
 | .v (.ptr i _ _)=>(match A.bl i with
   |some B=>B.get
   |none=>λ_=> [])
 | .v (.slc i _ _)=>(match A.bl i with
   |some B=>B.get
   |none=>λ_=> [])
 |_=>λ_=> []
def ndB (cs:zdK):Bool:=match cs with
 | [.val (.int .i64 _), .val (.string _), .val (.string _), .val (.int .i64 _), .val (.int .i64 _), .val (.int .i64 _), .val (.int .i64 _), .val (.int .i64 _), .val (.int .i64 _), .val (.int .i64 _), .val (.int .i64 _), .val (.int .i64 _), .val (.int .i64 _), .val (.int .i64 _), .val (.int .i64 _), .val (.int .i64 _), .val (.int .i64 _), .val (.string _), .val (.string _), .val (.string _), .val (.string _), .val (.int .i64 _), .val (.int .i64 _), .val (.int .i64 _), .val (.int .i64 _), .val (.int .i64 _)]=>true
 |_=>false
theorem ua (h:ndB cs=true):cs=svN (Vh cs):=by
 unfold ndB at h;split at h
 ·rfl
 ·cases h
theorem yd {g n:Bool} (h:n=true):dC g n=true:=by rw[h];rfl
theorem dW {o:Int} (h:x.op=o):{x with op:=o}=x:=by cases x;simp only at h;rw[h]
def kp (H N:Nat) (g1:zdN) (J V:Nat) (g2:zdN) (u:Un):Bool:=(Nat.ble H N&&Nat.beq 20 20&&true)&&(Nat.ble J V&&Nat.beq 26 26&&true)&&bW H&&bW J&&eU.good szB H g1&&eN.good szN J g2&&szB u
def nIn (n:Int):Nd:=⟨2,VI,noU,n,0,0⟩
theorem uf {n1:Nat} {g1:zdN} {n2:Nat} {g2:zdN} (h1:n1<=1000000) (h2:n2<=1000000) (k1:eU.good szB n1 g1=true) (k2:eN.good szN n2 g2=true) (H:szB u=true):kp n1 n1 g1 n2 n2 g2 u=true:=by
 unfold kp bW;rw[zae (za0 n1),zae (za0 n2),zae h1,zae h2,k1,k2,H];rfl
theorem lB:(uzR VI&&szB noU)=true:=by decide
theorem QM (p q:Bool):(bif p then q else false)=(p&&q):=by cases p<;>rfl
theorem QN (p q:Bool):(bif p then true else q)=(p||q):=by cases p<;>rfl
def Jz (us:zdZ) (u:Un):zdN:=ald (eU.get us) (λe=>((ci u).drop (e*20)).take 20) us.length 0
theorem Fp (H:e<us.length+1):Jz us u e=eU.get (us++ [u]) e:=by
 unfold Jz ald El.get El.nth;rw[aB];show _=ci (mb noU (us++ [u]) e);rw[aS];by_cases h:e<us.length
 ·rw[zdp h,zdr,if_neg (by omega)];rfl
 ·obtain rfl:e=us.length:=by omega
  rw[zds h,zdq,if_pos rfl,zaJ];rfl
theorem Fy {n:Int} (h: -9223372036854775808<=n/\n<=9223372036854775807) (k:K):af (inR .i64 n) K:=ac (VP.2 h) k
def v9:List FuncId:=
 6::
 162::
 81::
 zh
theorem zG: ∀f∈v9,V0 prog f:=by
 unfold v9;intro f H;rcases zai.1 H with rfl|H
 ·exact call6
 rcases zai.1 H with rfl|H
 ·exact call162
 rcases zai.1 H with rfl|H
 ·exact call81
 exact xe f H
abbrev ug (g:List (FuncId×Ctr)) (ann:zdV) (n:Nat) (f:FuncId) (args:zdK) (K:zdR):Prop:=wq prog (iR v9) (gw g) (gx []) ann n f args (λ_=>none) 0 [] (Go.Sy.okK λr _ _ _=>K r)
variable {g:List (FuncId×Ctr)} {W0:World}
theorem kh (h:GOk g) (hg:GlobU W0) (J:SV.idss args= []) (V:r.ids= []) (H:ug g ann n F args (λs=>s=r)):Go.Sy.Yields prog W0 F args r:=
 cr (λW N=>mW (h.all W (hg.below N)) (λ_ _ _ h=>by cases h) zG (by kernel_rfl)) J V H
theorem Fv (c n:Int) (K:zdR):ug xf noA 3 162 [cI.enc c,cI.enc n] K=vH c n K:=by kernel_rfl
theorem Fx (c n:Int) (K:zdR):ug xf noA 3 77 [cI.enc c,cI.enc n] K=vH c n K:=by kernel_rfl
theorem aeD (c n:Int) (K:zdR):ug xf noA 3 6 [cI.enc c,cI.enc n] K=vH c n K:=by kernel_rfl
abbrev Dg:Ctr:=k2 cI cI cI (λc n=>cl c&&decide (0<n)) co
variable {W:World}
theorem uh (J:GlobU W) (H: ∀(c n:Int) (K:zdR),ug xf noA 3 F [cI.enc c,cI.enc n] K=vH c n K):CtrOK prog W F Dg:=bC λc n h=>by
 rw[za2] at h;exact kh WH (ann:=noA) (n:=3) J de (cI.ids _) (by rw[H];exact A6 (K:=λr=>r=_) h.1 (zdu h.2) rfl)
def ui:List (FuncId×Ctr):=
 (6,Dg)::
 (77,Dg)::
 (162,Dg)::
 xf
theorem xJ:GOk ui:=
 ((WH
   |>.cons (λW H=>uh H Fv) call162
   ).cons (λW H=>uh H Fx) call77)
   |>.cons (λW H=>uh H aeD) call6
theorem Fz (x:Int×Int) (K:zdR):ug ui noA 3 81 [c22.enc x] K=
 af (cl x.1&&decide (0<(1999:Int))) (af (inR .i64 (co x.1 1999 - 999)) (af (cl x.2&&decide (0<(60:Int))) (af (inR .i64 (1+co x.2 60)) (af (cl (co x.1 1999 - 999)&&cl (1+co x.2 60)) (K (cR.enc (Yk.smallF x))))))):=by kernel_rfl
def BL (n:Int):Un:=
 bif co n 7==0 then aT 0 else bif co n 7==1 then aT 2 else bif co n 7==2 then {aT 0 with f:=(⟨#[49]⟩,⟨#[49,48,48,48]⟩)} else
 bif co n 7==3 then(fd (aT 0) (aT 0)).1 else bif co n 7==4 then {aT 4 with s:=0,o:=(⟨#[53,52,54,51]⟩,⟨#[50,48]⟩)} else bif co n 7==5 then aT 4 else(mi (aT 0) (aT 0)).1
def BM (n:Int) (K:zdR):Prop:=
 af (cl n&&decide (0<(7:Int))) (ag (co n 7==0) (K (cU.enc (aT 0))) (ag (co n 7==1) (K (cU.enc (aT 2))) (ag (co n 7==2) (K (cU.enc {aT 0 with f:=(⟨#[49]⟩,⟨#[49,48,48,48]⟩)})) (
 ag (co n 7==3) (K (cU.enc (fd (aT 0) (aT 0)).1)) (ag (co n 7==4) (K (cU.enc {aT 4 with s:=0,o:=(⟨#[53,52,54,51]⟩,⟨#[50,48]⟩)})) (ag (co n 7==5) (K (cU.enc (aT 4))) (K (cU.enc (mi (aT 0) (aT 0)).1))))))))
theorem JF (n:Int) (K:zdR):ug ui noA 3 78 [cI.enc n] K=BM n K:=by kernel_rfl
theorem JG {n:Int} {K:zdR} (h:cl n=true) (k:K (cU.enc (BL n))):BM n K:=by
 unfold BL at k;unfold BM;rw[h];refine ac rfl (ce (λa=> ?_) (λa=>ce (λb=> ?_) (λb=>ce (λc=> ?_) (λc=>ce (λd=> ?_) (λd=>ce (λe=> ?_) (λe=>ce (λf=> ?_) (λf=> ?_)))))))
 ·rw[a] at k;exact k
 ·rw[a,b] at k;exact k
 ·rw[a,b,c] at k;exact k
 ·rw[a,b,c,d] at k;exact k
 ·rw[a,b,c,d,e] at k;exact k
 ·rw[a,b,c,d,e,f] at k;exact k
 ·rw[a,b,c,d,e,f] at k;exact k
def xK:List (FuncId×Ctr):=
 (78,k1 cI cU cl BL)::
 (81,k1 c22 cR (λx=>cl x.1&&cl x.2) Yk.smallF)::
 ui
theorem BN:GOk xK:=
 (((xJ
   |>.cons (λW H=>dD λx h=>kh xJ (ann:=noA) (n:=3) H m8 (cR.ids _) (by
    rw[Fz];rw[za2] at h;have J:=gR x.1 (n:=1999) (by decide);have N:=gR x.2 (n:=60) (by decide)
    exact ac (by rw[h.1];rfl) (Fy (by omega) (ac (by rw[h.2];rfl) (Fy (by omega) (ac (by rw[V4.2 (by omega),V4.2 (by omega)];rfl) rfl)))))) call81
   )
   )
   |>.cons (λW H=>dD λn h=>kh xJ (ann:=noA) (n:=3) H m8 (cU.ids _) (by rw[JF];exact JG (K:=λr=>r=_) h rfl)) call78
   )
def BO:List (FuncId×Ctr):=
 xK
theorem JJ:GOk BO:=
 BN
def Dh:List (FuncId×Ctr):=
 BO
theorem WJ:GOk Dh:=
 JJ
@[irreducible] def JL (gm:zdX) (ann:zdV) (n:Nat) (f:FuncId) (args:zdK) (Cs:zdU) (K:Aft):Prop:=
 Ay prog (iR v9) (gw Dh) (gx gm) tL ann n f args (λi=>Cs[i]?) Cs.length [] K
theorem Q8 {K:Aft} (h:JL gm ann n f args Cs K) (H: ∀r b n w,K r b n w->K' r b n w):JL gm ann n f args Cs K':=by
 unfold JL at h ⊢;exact NiceT.mono (Ea _ _ _ _ _ _ f args _ _ _ (λi hi=>zad hi)) h λr b n w _=>H r b n w
theorem Qy (H:MOk gm) (hB:GlobB B):HypD prog B (iR v9) (gw Dh) (gx gm) tL:=
 have h:Hyp prog B (iR v9) (gw Dh) (gx gm):=mW (λp hp=>⟨CtrOK.base λw J=>(WJ.all w (hB w J) p hp).1,(WJ.all B.w (hB B.w (Pres.self B)) p hp).2⟩) (λB' s=>H.all B' (hB.sub s)) zG (by kernel_rfl)
 ⟨h.gam,h.mem,(P2 H hB).dem,h.ok,h.mixed⟩
theorem Sh (V:MOk gm) (h: ∀(bl:zdM) (nx:Nat) (args:zdK) (C:RC),k bl nx args=some C->C.pre=true->
 ∃(src:zdT) (J:zdU) (H:zdK) (ann:zdV) (n:Nat),yw bl (rnF src [] nx) src J/\Kr src J/\Far src J/\SV.rns (rnF src [] nx) H=some args/\JL gm ann n F H J (KB C src J nx)):
 ∀B:Base,GlobB B->VU prog B F k:=λB hB=>c8 (λB' Y=>Qy V (hB.sub Y)) λbl nx args C N hp=>by
 have:=h bl nx args C N hp;unfold JL at this;exact this
def evE (a:Addr):Value:= .iface 330 (.pointer (some a))
def GlobE (a:Addr) (w:World):Prop:=GlobU w/\w.cell? ⟨0,0,none⟩=some (evE a)
variable {a:Addr}
theorem GlobE.below {w w':World} (h:GlobE a w) (H:Below w.heap.size w w'):GlobE a w':=by
 refine⟨h.1.below H, ?_⟩;rw[H.cell (p:=⟨0,0,none⟩) (World.block_lt_of_cell? w _ h.2)];exact h.2
def GlobEB (a:Addr) (B:Base):Prop:= ∀w,Pres B w->GlobE a w
theorem GlobEB.gU (h:GlobEB a B):GlobB B:=λw H=>(h w H).1
theorem GlobEB.of (h:GlobE a W):GlobEB a W:=λw H=>h.below H.below
theorem GlobEB.sub {W:Base} (h:GlobEB a W) (s:SubB B W):GlobEB a B:=λw H=>h w (s.pres H)
theorem ahA (w:World):Calls prog 93 #[.bool true] w λe w'=>e= .returned (.tuple #[])/\w'=w:=by
 go_enter func93,ntmps93;go_wp2
 go_end0
 exact⟨rfl,rfl⟩
theorem ai0 (a:Addr) (w:World) (h:w.cell? ⟨0,0,none⟩=some (evE a)):Calls prog 93 #[.bool false] w λe w'=>e= .panicked [{v:=evE a,recovered:=false}]/\w'=w:=by
 go_enter func93,ntmps93;go_wp2;exact⟨rfl,rfl,rfl⟩
theorem afL (v:Value) (w:World):(Extern.ReflectliteType.typeOf #[.iface 330 v]).run prog w= .ok (.iface 292 (.agg #[.pointer (some ⟨9,330,none⟩)])) w:=by kernel_rfl
theorem ac8 (w:World):((Extern.ReflectliteType.method λt=>do Extern.Rtype.noPackHeld "Comparable" t;(λa=>Value.bool a.comparable)<$>typeInfo t) #[.agg #[.pointer (some ⟨9,330,none⟩)]]).run prog w= .ok (.bool true) w:=by kernel_rfl
theorem afM (v:Value) (w:World):(Go.method 471 292 v "Comparable").run prog w= .ok (359,v) w:=by kernel_rfl
theorem ahB:(prog.info? 330).map (·.comparable)=some true:=by kernel_rfl
theorem ahC:(prog.info? 332).map (·.size)=some 1:=by kernel_rfl
theorem ahD (a:Addr) (w:World):Calls prog 165 #[evE a,evE a] w λe w'=>e= .returned (.bool true)/\w'=w:=by
 unfold evE;obtain⟨i,hi,hcmp⟩:=zbE.1 ahB;obtain⟨j,hj,hjs⟩:=zbE.1 ahC;have h8:= @run_callFunc_extern prog 238 _ Extern.ReflectliteType.typeOf func238 (by kernel_rfl) (by kernel_rfl) (by kernel_rfl) (by kernel_rfl);have h32:= @run_callFunc_extern prog 359 _ (Extern.ReflectliteType.method λt=>do Extern.Rtype.noPackHeld "Comparable" t;pure (.bool (<-typeInfo t).comparable)) func359 (by kernel_rfl) (by kernel_rfl) (by kernel_rfl) (by kernel_rfl);have tT:=afL;have cT:=ac8;have mR:=afM;have heq:=run_eql_iface_ptr_same (P:=prog) w a underlying109 underlying330 hi hcmp hj;go_enter func165,ntmps165;go_wp2;refine wp_loop_rounds 1 ?_;rw[rounds_succ];go_wp2;go_ret;exact⟨rfl,rfl⟩
theorem ahE (H:Value) (w:World):(Instr.typeAssert (.iface 330 H) 20 109 true).run prog w= .ok (.tuple #[.iface 330 H, .bool true]) w:=by kernel_rfl
theorem ai1 (w:World):(Instr.typeAssert .nilIface 20 109 true).run prog w= .ok (.tuple #[.nilIface, .bool false]) w:=by kernel_rfl
theorem afN (p q:Addr) (w:World):
 CallsD prog 164 #[.pointer (some p), .pointer (some q)] .returning w λe u' w'=>e= .returned (.tuple #[])/\u'= .returning/\w'=w:=by
 refine callsD_of_wpS func164 rfl λc₀ cs hu=> ?_;apply wpS_seq;apply wpS_region;simp[wpOpsS,go_sem,recoverD,hu,ntmps164,Exit.thenS,ai1];apply wpS_seq;apply wpS_region;simp[wpOpsS,go_sem,Exit.thenS];refine wpS_cond (t:=false) (by simp[Act.eval]) ?_;simp only[zbo,if_false];refine wpS_of_wp (wp_skip ?_);cases c₀
 simp_all [bodyPostS,results,results164]
def wE (w:World):World:=w.alloc (.cells #[.string ⟨#[]⟩, .string ⟨#[]⟩, .string ⟨#[]⟩, .string ⟨#[]⟩] 44)
def es:Value:= .string ⟨#[]⟩
theorem acW (b o c k:Nat) (a:Addr) (older:List PanicEntry) (w:World) {x0 x1 x2 x3 y:Value} (hE:w.cell? ⟨0,0,none⟩=some (evE a)) (hb:b<w.heap.size) (hc:c<w.heap.size) (hbc:b≠c)
 (h0:w.cell? ⟨b,o,none⟩=some x0) (h1:w.cell? ⟨b,o+1,none⟩=some x1) (h2:w.cell? ⟨b,o+2,none⟩=some x2) (h3:w.cell? ⟨b,o+3,none⟩=some x3) (hy:w.cell? ⟨c,k,none⟩=some y)
 (f0:w.frozen? ⟨b,o,none⟩=false) (f1:w.frozen? ⟨b,o+1,none⟩=false) (f2:w.frozen? ⟨b,o+2,none⟩=false) (f3:w.frozen? ⟨b,o+3,none⟩=false) (fy:w.frozen? ⟨c,k,none⟩=false):
 CallsD prog 164 #[.pointer (some ⟨b,o,none⟩), .pointer (some ⟨c,k,none⟩)] (.panicking ({v:=evE a,recovered:=false}::older)) w λe u' w'=>
  e= .returned (.tuple #[])/\u'= .panicking ({v:=evE a,recovered:=true}::older)/\w'=((wE w).setCells b o [es,es,es,es]).setCell ⟨c,k,none⟩ (.int .i64 50):=by
 unfold evE at*
 refine callsD_of_wpS func164 rfl λc₀ cs hu=> ?_;apply wpS_seq;apply wpS_region;simp[wpOpsS,go_sem,recoverD,hu,ntmps164,Exit.thenS,ahE];apply wpS_seq;apply wpS_region;simp[wpOpsS,go_sem,Exit.thenS,hE];refine(ahD a w).mono ?_;rintro e w1 ⟨rfl,rfl⟩;dsimp only;refine wpS_cond (t:=true) (by simp[Act.eval]) ?_;simp only[if_true];apply wpS_seq;apply wpS_region;simp[wpOpsS,go_sem,Exit.thenS];apply wpS_region;show wpOpsS _ _ _ _ _ _ (wE w1);have n0:(wE w1).cell? ⟨w1.heap.size,0,none⟩=some es:=by unfold wE;rw[World.cell?_alloc_new];rfl
 have n1:(wE w1).cell? ⟨w1.heap.size,1,none⟩=some es:=by unfold wE;rw[World.cell?_alloc_new];rfl
 have n2:(wE w1).cell? ⟨w1.heap.size,2,none⟩=some es:=by unfold wE;rw[World.cell?_alloc_new];rfl
 have n3:(wE w1).cell? ⟨w1.heap.size,3,none⟩=some es:=by unfold wE;rw[World.cell?_alloc_new];rfl
 have old: ∀{d j:Nat} {x:Value},d<w1.heap.size->w1.cell? ⟨d,j,none⟩=some x->(wE w1).cell? ⟨d,j,none⟩=some x:=λhd h=>by unfold wE;rw[World.cell?_alloc_lt (h:=hd)];exact h
 have fro: ∀{d j:Nat},d<w1.heap.size->w1.frozen? ⟨d,j,none⟩=false->(wE w1).frozen? ⟨d,j,none⟩=false:=λhd h=>by unfold wE;rw[World.frozen?_alloc_old (h:=Nat.ne_of_lt hd)];exact h
 have m0:=old hb h0;have m1:=old hb h1;have m2:=old hb h2;have m3:=old hb h3;have my:=old hc hy;have g0:=fro hb f0;have g1:=fro hb f1;have g2:=fro hb f2;have g3:=fro hb f3;have gy:=fro hc fy;generalize wE w1=w2 at*
 generalize w1.heap.size=sz at*
 have q1:(w2.setCell ⟨b,o,none⟩ es).cell? ⟨b,o+1,none⟩=some x1:=by rw[World.cell?_setCell_other (h:=by simp)];exact m1
 have q2:((w2.setCell ⟨b,o,none⟩ es).setCell ⟨b,o+1,none⟩ es).cell? ⟨b,o+2,none⟩=some x2:=by rw[World.cell?_setCell_other (h:=by simp),World.cell?_setCell_other (h:=by simp)];exact m2
 have q3:(((w2.setCell ⟨b,o,none⟩ es).setCell ⟨b,o+1,none⟩ es).setCell ⟨b,o+2,none⟩ es).cell? ⟨b,o+3,none⟩=some x3:=by rw[World.cell?_setCell_other (h:=by simp),World.cell?_setCell_other (h:=by simp),World.cell?_setCell_other (h:=by simp)];exact m3
 have q4:((((w2.setCell ⟨b,o,none⟩ es).setCell ⟨b,o+1,none⟩ es).setCell ⟨b,o+2,none⟩ es).setCell ⟨b,o+3,none⟩ es).cell? ⟨c,k,none⟩=some y:=by
  rw[World.cell?_setCell_other (h:=by simp[hbc]),World.cell?_setCell_other (h:=by simp[hbc]),World.cell?_setCell_other (h:=by simp[hbc]),World.cell?_setCell_other (h:=by simp[hbc])];exact my
 simp only[es] at*
 simp[wpOpsS,go_sem,Exit.thenS,n0,n1,n2,n3,m0,q1,q2,q3,q4,g0,g1,g2,g3,gy,bodyPostS,results,results164,World.setCells]
def ahF (n:Nat):Option Blk->Bool
 |some B=>Nat.beq B.n 1&&(Nat.beq B.sz n&&(match B.kd with
  | .own=>true
  |_=>false))
 |none=>false
def ai2 (bl:zdM) (i:Nat) (cs:zdK):Nat×Blk:=(i,match bl i with
 |some B=>B.put 0 0 cs
 |none=>{n:=0,sz:=0,get:=λ_=> [],kd:= .gone})
def agB (a:Addr):DCtr:=λm bl args=>match args with
 | [.ptr i 0 0, .ptr j 0 0]=>match m with
   |none=>some (true,none, [])
   |some (.iface t (.pointer (some b)))=>some (Nat.beq t 330&&(decide (b=a)&&(!Nat.beq i j&&(ahF 4 (bl i)&&ahF 1 (bl j)))),none, [ai2 bl j [.val (.int .i64 50)],ai2 bl i (yl noI)])
   |_=>none
 |_=>none
theorem ado {o:Option Blk} (h:ahF n o=true): ∃B,o=some B/\B.n=1/\B.sz=n/\B.kd= .own:=by
 cases o with
 |none=>cases h
 |some B=>
  simp only[ahF,za2] at h;obtain⟨h1,h2,h3⟩:=h;exact⟨B,rfl,zab h1,zab h2,by revert h3;cases B.kd<;>simp⟩
theorem agC (a:Addr) (B:Base) (hB:GlobEB a B):Wz prog B 164 (agB a):=by
 intro m bl β w args m' ch H n0 J m0;refine⟨call164, ?_⟩;unfold agB at J;split at J
 ·rename_i i j;split at J
  ·simp only[za1,zag,true_and] at J;obtain⟨rfl,rfl⟩:=J;refine(afN (addr β i 0 0) (addr β j 0 0) w).mono ?_;rintro e u' w' ⟨rfl,rfl,rfl⟩;exact⟨⟨_,rfl⟩,rfl,H⟩
  ·rename_i t b;simp only[za1,zag,za2,zdt,zap] at J;obtain⟨⟨h1,rfl,h3,h4,h5⟩,rfl,rfl⟩:=J;have h1:=zab h1;subst h1;obtain⟨C,hC,c1,c2,Z⟩:=ado h4;obtain⟨D,hD,d1,d2,d3⟩:=ado h5;have N:i≠j:=λe=>by rw[e,bS] at h3;simp at h3
   have q:=H.blk i C hC (by rw[Z];simp);have r:=H.blk j D hD (by rw[d3];simp);have qn:=q.not_nil (e:=0) (by omega);have rn:=r.not_nil (e:=0) (by omega);have g0:=q.lt qn;have i0:=r.lt rn;have a0:(β i).blk≠(β j).blk:=λe=>N (H.inj i j C D hC hD Z d3 qn rn e);have qc: ∀k,k<4-> ∃x,w.cell? ⟨(β i).blk,(β i).off+k,none⟩=some x/\w.frozen? ⟨(β i).blk,(β i).off+k,none⟩=false:=λk J=>by
    have V:k<(β i).cap*C.sz:=by
     rw[c2];have:=q.le;have:1<=(β i).cap:=by omega
     omega
    obtain⟨x,hx⟩:=Option.isSome_iff_exists.1 (q.ex k V);exact⟨x,hx,q.fr Z k V⟩
   have Y:0<(β j).cap*D.sz:=by
    rw[d2];have:=r.le;omega
   obtain⟨x0,e0,f0⟩:=qc 0 (by decide);obtain⟨x1,e1,f1⟩:=qc 1 (by decide);obtain⟨x2,e2,f2⟩:=qc 2 (by decide);obtain⟨x3,e3,f3⟩:=qc 3 (by decide);obtain⟨y,ey⟩:=Option.isSome_iff_exists.1 (r.ex 0 Y);have fy:=r.fr d3 0 Y;have ei:addr β i 0 0=⟨(β i).blk,(β i).off,none⟩:=by simp[addr]
   have ej:addr β j 0 0=⟨(β j).blk,(β j).off,none⟩:=by simp[addr]
   have key:=acW (β i).blk (β i).off (β j).blk (β j).off b [] w (hB w H.below).2 g0 i0 a0 e0 e1 e2 e3 ey f0 f1 f2 f3 fy;rw[<-ei,<-ej] at key;refine key.mono ?_;rintro e u' w' ⟨rfl,rfl,rfl⟩;refine⟨⟨_,rfl⟩,rfl, ?_⟩;have s1:BC B bl β (wE w):=H.step (by unfold wE;exact(zdD _ w).alloc (za0 _) _);have s2:=s1.write hC Z (e:=0) (o:=0) (cs:=yl noI) (by omega) (by show 0+4<=_;omega) (by simp[yl,Live,SV.ids]);have s3:=s2.write (id:=j) (B:=D) (by rw[ak (Ne.symm N)];exact hD) d3 (e:=0) (o:=0) (cs:= [.val (.int .i64 50)]) (by omega) (by simp;omega) (by simp[Live,SV.ids]);have w1:(wE w).setCells (β i).blk ((β i).off+0*(β i).sz+0) (SV.concs β (yl noI))=(wE w).setCells (β i).blk (β i).off [es,es,es,es]:=by
    rw[zcD,zaY];rfl
   rw[w1] at s3;have w2: ∀v:World,v.setCells (β j).blk ((β j).off+0*(β j).sz+0) (SV.concs β [.val (.int .i64 50)])=v.setCell (addr β j 0 0) (.int .i64 50):=λv=>by
    simp[addr,SV.concs,SV.conc,World.setCells]
   rw[w2] at s3;simp only[chB,ai2,hC,hD];exact s3
  ·cases J
 ·cases J
def ai3 (a:Addr):MCtr:=λ_ _ args=>match args with
 | [.val (.bool true)]=>some {X:=Unit,pre:=true,spec:=λ_=>True,out:=λ_=> .tup [],ex:=λ_=>⟨(),trivial⟩}
 | [.val (.bool false)]=>some {X:=Unit,pre:=true,spec:=λ_=>True,out:=λ_=> .tup [],pan:=λ_=>some (evE a),ex:=λ_=>⟨(),trivial⟩}
 |_=>none
theorem ahG (hB:GlobEB a B):VU prog B 93 (ai3 a):=by
 intro bl β w nx args C H hit N V J hp;unfold ai3 at J;split at J
 ·simp only[za1] at J;subst J;refine(ahA w).mono ?_;rintro e w' ⟨rfl,rfl⟩;exact⟨(),trivial,β,by show _=_;simp[SV.conc,SV.concs],abx H N (by simp[SV.ids,SV.idss]) (zdD _ _)⟩
 ·simp only[za1] at J;subst J;refine(ai0 a w (hB w H.below).2).mono ?_;rintro e w' ⟨rfl,rfl⟩;obtain⟨g1,g2,_⟩:=abx (s:= .tup []) H N (by simp[SV.ids,SV.idss]) (zdD _ w');exact⟨(),trivial,β,rfl,g1,g2,trivial⟩
 ·cases J
def aeE:List FuncId:=
 98::
 91::
 88::
 34::
 25::
 87::
 94::
 28::
 92::
 27::
 90::
 29::
 33::
 103::
 31::
 96::
 26::
 89::
 22::
 93::
 86::
 164::
 166::
 167::
 101::
 99::
 97::
 95::
 279::
 153::
 216::
 8::
 21::
 30::
 32::
 16::
 15::
 281::
 151::
 106::
 72::
 218::
 70::
 23::
 85::
 241::
 240::
 149::
 68::
 280::
 217::
 74::
 148::
 168::
 73::
 150::
 3::
 7::
 14::
 6::
 5::
 4::
 10::
 120::
 121::
 189::
 257::
 38::
 115::
 41::
 20::
 40::
 37::
 44::
 43::
 39::
 36::
 110::
 114::
 82::
 83::
 112::
 117::
 119::
 116::
 9::
 v9
theorem ae8: ∀f∈aeE,V0 prog f:=by
 unfold aeE;simp only[zc3]
 exact⟨
  call98,
  call91,
  call88,
  call34,
  call25,
  call87,
  call94,
  call28,
  call92,
  call27,
  call90,
  call29,
  call33,
  call103,
  call31,
  call96,
  call26,
  call89,
  call22,
  call93,
  call86,
  call164,
  call166,
  call167,
  call101,
  call99,
  call97,
  call95,
  call279,
  call153,
  call216,
  call8,
  call21,
  call30,
  call32,
  call16,
  call15,
  call281,
  call151,
  call106,
  call72,
  call218,
  call70,
  call23,
  call85,
  call241,
  call240,
  call149,
  call68,
  call280,
  call217,
  call74,
  call148,
  call168,
  call73,
  call150,
  call3,
  call7,
  call14,
  call6,
  call5,
  call4,
  call10,
  call120,
  call121,
  call189,
  call257,
  call38,
  call115,
  call41,
  call20,
  call40,
  call37,
  call44,
  call43,
  call39,
  call36,
  call110,
  call114,
  call82,
  call83,
  call112,
  call117,
  call119,
  call116,
  call9,
  zG⟩
structure GEk (g:List (FuncId×Ctr)):Prop where
 all: ∀(a:Addr) (W:World),GlobE a W-> ∀p∈g,CtrOK prog W p.1 p.2/\V0 prog p.1
theorem GEk.of (h:GOk g):GEk g:=⟨λ_ W H=>h.all W H.1⟩
theorem GEk.cons {c:Ctr} (h:GEk g) (k: ∀(a:Addr) (W:World),GlobE a W->CtrOK prog W F c) (J:V0 prog F):GEk ((F,c)::g):=⟨λa W H p hp=>by
 rcases zai.1 hp with rfl|hp
 ·exact⟨k a W H,J⟩
 ·exact h.all a W H p hp⟩
structure MEk (a:Addr) (gm:List (FuncId×MCtr)):Prop where
 all: ∀B:Base,GlobEB a B-> ∀p∈gm,VU prog B p.1 p.2
theorem MEk.nil:MEk a []:=⟨λ_ _ _ h=>by cases h⟩
theorem MEk.of (h:MOk gm):MEk a gm:=⟨λB hB=>h.all B hB.gU⟩
theorem MEk.cons (h:MEk a gm) (H: ∀B:Base,GlobEB a B->VU prog B F k):MEk a ((F,k)::gm):=⟨λB hB p hp=>by
 rcases zai.1 hp with rfl|hp
 ·exact H B hB
 ·exact h.all B hB p hp⟩
def dF (a:Addr):FuncId->Option DCtr:=λf=>bif Nat.beq f 164 then some (agB a) else tL f
theorem ac9 (hg:GEk g) (N:MEk a gm) (hB:GlobEB a B):HypD prog B (iR aeE) (gw g) (gx gm) (dF a):=
 have h:Hyp prog B (iR aeE) (gw g) (gx gm):=mW (λp hp=>⟨CtrOK.base λw V=>(hg.all a w (hB w V) p hp).1,(hg.all a B.w (hB B.w (Pres.self B)) p hp).2⟩) (λB' s=>N.all B' (hB.sub s)) ae8 (by kernel_rfl)
 ⟨h.gam,h.mem,λB' s f k H=>by
   unfold dF at H;cases J:Nat.beq f 164 with
   |true=>
    rw[J] at H;simp only[zdr,za1] at H;subst H;rw[zab J];exact agC a B' (hB.sub s)
   |false=>
    rw[J,zdq] at H
    exact(P2 MOk.nil hB.gU).dem B' s f k H,h.ok,h.mixed⟩
abbrev acb (a:Addr) (g:List (FuncId×Ctr)) (gm:zdX) (ann:zdV) (n:Nat) (f:FuncId) (args:zdK) (K:zdR):Prop:=wn prog (iR aeE) (gw g) (gx gm) (dF a) ann n f args (λ_=>none) 0 [] (Go.Sy.okK λr _ _ _=>K r)
theorem l0 (h:GEk g) (hm:MEk a gm) (hg:GlobE a W0) (H:SV.idss args= []) (hr:r.ids= []) (J:acb a g gm ann n F args (λs=>s=r)):Go.Sy.Yields prog W0 F args r:=by
 intro β w Y
 obtain⟨_,Z⟩:=mV (ac9 h hm (GlobEB.of (hg.below Y))) ann n F args (λ_=>none) 0 [] _ β w J (sP w β) (λ_ _=>rfl) (λs hs i hi=>by
  have:i∈SV.idss args:=SV.mem_idss.2 ⟨s,hs,hi⟩
  rw[H] at this;cases this)
 refine Calls.mono Z ?_;rintro e w' ⟨β',s,bl',a0,e0,he,V,N,_⟩;cases s with
 |pan v=>exact V.elim
 |ok s=>
 obtain rfl:e=_:=he;obtain rfl:s=_:=V;exact⟨by rw[SV.conc_congr s (β:=β) (β':=β') (λi hi=>by rw[hr] at hi;cases hi)],N.below.below⟩
theorem acX {g n:Bool} (h:n=true) (k:K):af (dC g n) K:=ac (by rw[h];cases g<;>rfl) k
def akf (x:Iv) (K:zdR):Prop:=
 af (uzR x.1) (af (dC (rV x.1) (uzR x.2)) (af (dC (bif rV x.1 then rV x.2 else false) (uzR x.1&&uzR x.2)) (K (cB.enc (bif (bif rV x.1 then rV x.2 else false) then decide (b9 x.1 x.2<=0) else false)))))
theorem ai4 (a:Addr) (x:Iv) (K:zdR):acb a Dh [] noA 6 22 [cIv.enc x] K=akf x K:=by kernel_rfl
theorem alu {x:Iv} (h:uzI x=true):uzR x.1=true/\uzR x.2=true:=by unfold uzI at h;simpa using h
theorem afO {x:Iv} {K:zdR} (h:uzI x=true) (k:K (cB.enc (vI x))):akf x K:=by
 obtain⟨h1,h2⟩:=alu h;refine ac h1 (acX h2 (acX (by rw[h1,h2];rfl) ?_));have e:(bif (bif rV x.1 then rV x.2 else false) then decide (b9 x.1 x.2<=0) else false)=vI x:=by unfold vI;cases rV x.1<;>cases rV x.2<;>rfl
 rw[e];exact k
theorem agD:GEk Dh:=GEk.of WJ
def gV1:List (FuncId×Ctr):=(22,k1 cIv cB uzI vI)::Dh
theorem ae9:GEk gV1:=agD.cons (λa W H=>dD λx h=>l0 agD (MEk.nil (a:=a)) H (ann:=noA) (n:=6) m8 (cB.ids _) (by rw[ai4];exact afO (K:=λr=>r=_) h rfl)) call22
def aiG (x:Iv) (r:RS) (K:zdR):Prop:=
 af (uzI x) (af (dC (vI x) (uzR r)) (af (dC (bif vI x then rV r else false) (uzR x.1&&uzR r)) (af (dC (bif (bif vI x then rV r else false) then decide (b9 x.1 r<=0) else false) (uzR r&&uzR x.2))
  (K (cB.enc (bif (bif (bif vI x then rV r else false) then decide (b9 x.1 r<=0) else false) then decide (b9 r x.2<=0) else false))))))
theorem ahH (a:Addr) (x:Iv) (r:RS) (K:zdR):acb a gV1 [] noA 6 94 [cIv.enc x,cR.enc r] K=aiG x r K:=by kernel_rfl
theorem aeF {x:Iv} {r:RS} {K:zdR} (h:uzI x=true) (H:uzR r=true) (k:K (cB.enc (auf x r))):aiG x r K:=by
 obtain⟨h1,h2⟩:=alu h;refine ac h (acX H (acX (by rw[h1,H];rfl) (acX (by rw[H,h2];rfl) ?_)));have e:(bif (bif (bif vI x then rV r else false) then decide (b9 x.1 r<=0) else false) then decide (b9 r x.2<=0) else false)=auf x r:=by
  unfold auf;cases vI x<;>cases rV r<;>cases decide (b9 x.1 r<=0)<;>rfl
 rw[e];exact k
def ak0 (r:RS) (K:zdR):Prop:=af (uzR r) (ag (!rV r) (K (cIv.enc noI)) (K (cIv.enc (r,r))))
theorem ai5 (a:Addr) (r:RS) (K:zdR):acb a Dh [] noA 6 29 [cR.enc r] K=ak0 r K:=by kernel_rfl
def gV2:List (FuncId×Ctr):=(94,k2 cIv cR cB (λx r=>uzI x&&uzR r) auf)::(29,k1 cR cIv uzR ptI)::gV1
theorem aiH:GEk gV2:=
 (ae9.cons (λa W H=>dD λr h=>l0 agD (MEk.nil (a:=a)) H (ann:=noA) (n:=6) m8 (cIv.ids _) (by
     rw[ai5];refine ac h (ce (λe=> ?_) (λe=> ?_))
     ·unfold ptI;rw[show rV r=false by simpa using e];rfl
     ·unfold ptI
      rw[show rV r=true by simpa using e];rfl)) call29).cons
   (λa W H=>bC λx r h=>by
     rw[za2] at h
     exact l0 ae9 (MEk.nil (a:=a)) H (ann:=noA) (n:=6) de (cB.ids _) (by rw[ahH];exact aeF (K:=λr=>r=_) h.1 h.2 rfl)) call94
@[irreducible] def XC (a:Addr) (g:List (FuncId×Ctr)) (gm:zdX) (ann:zdV) (n:Nat) (f:FuncId) (args:zdK) (Cs:zdU) (K:Aft):Prop:=
 Ay prog (iR aeE) (gw g) (gx gm) (dF a) ann n f args (λi=>Cs[i]?) Cs.length [] K
theorem afP {K:Aft} (h:XC a g gm ann n f args Cs K) (H: ∀r b n w,K r b n w->K' r b n w):XC a g gm ann n f args Cs K':=by
 unfold XC at h ⊢;exact NiceT.mono (Ea _ _ _ _ _ _ f args _ _ _ (λi hi=>zad hi)) h λr b n w _=>H r b n w
theorem agE (hg:GEk g) (V:MEk a gm) (h: ∀(bl:zdM) (nx:Nat) (args:zdK) (C:RC),k bl nx args=some C->C.pre=true->
 ∃(src:zdT) (J:zdU) (H:zdK) (ann:zdV) (n:Nat),yw bl (rnF src [] nx) src J/\Kr src J/\Far src J/\SV.rns (rnF src [] nx) H=some args/\XC a g gm ann n F H J (KB C src J nx)):
 ∀B:Base,GlobEB a B->VU prog B F k:=λB hB=>c8 (λB' Y=>ac9 hg V (hB.sub Y)) λbl nx args C N hp=>by
 have:=h bl nx args C N hp;unfold XC at this;exact this
theorem kbE (x:C.X) (J:C.spec x) (h1:C.pan x=none) (h2:r.ids= []) (h3:C.out x=r) (h4:C.nw x= []) (h5:C.ch x= []) (h6: ∀C∈Cs,cN C.kd=false) (H:src.length=Cs.length)
 (h:XC a g gm ann n f args Cs (Go.Sy.okK λs _ _ _=>s=r)):XC a g gm ann n f args Cs (KB C src Cs nx):=afP h λq b m w hq=>by
 cases q with
 |pan v=>exact hq.elim
 |ok s=>
  obtain rfl:s=r:=hq;exact IG x J h1 h2 h3 h4 h5 h6 H
def gMn:List (FuncId×Ctr):= [(84,k2 cR cR cI (λa b=>uzR a&&uzR b) b9)]
theorem akg:GEk gMn:=(GEk.of GOk.nil).cons (λa W H=>(Li H.1 (84,k2 cR cR cI (λa b=>uzR a&&uzR b) b9) (by simp[qH])).1) call84
def adp (t:RS->RS->Bool):List RS->RS->(zdR)->Prop
 | [],m,K=>K (cR.enc m)
 |x::r,m,K=>af (uzR x&&uzR m) (ag (t x m) (adp t r x K) (adp t r m K))
theorem ahI (a:Addr) (p q r s:RS) (K:zdR):XC a gMn [] noA 5 240 [.slc 0 0 4, .fn (.func 84) [] []] [eR.old [p,q,r,s]] (Go.Sy.okK λr _ _ _=>K r)=adp (λx m=>decide (b9 x m<0)) [q,r,s] p K:=by kernel_rfl
theorem ahJ (a:Addr) (p q r s:RS) (K:zdR):XC a gMn [] noA 5 241 [.slc 0 0 4, .fn (.func 84) [] []] [eR.old [p,q,r,s]] (Go.Sy.okK λr _ _ _=>K r)=adp (λx m=>decide (b9 x m>0)) [q,r,s] p K:=by kernel_rfl
def R7 (t:RS->RS->Bool):List RS->RS->RS
 | [],m=>m
 |x::r,m=>R7 t r (bif t x m then x else m)
theorem ad5: ∀(l:List RS) (m:RS),R7 (λx m=>decide (b9 x m<0)) l m=aey l m
 | [],m=>rfl
 |x::r,m=>ad5 r _
theorem ad6: ∀(l:List RS) (m:RS),R7 (λx m=>decide (b9 x m>0)) l m=aez l m
 | [],m=>rfl
 |x::r,m=>ad6 r _
theorem acY {t:RS->RS->Bool} {K:zdR}: ∀{l:List RS} {m:RS},(∀x∈l,uzR x=true)->uzR m=true->K (cR.enc (R7 t l m))->adp t l m K
 | [],m,_,_,k=>k
 |x::r,m,H,J,k=>by
  have V:=H x (by simp);have N: ∀y∈r,uzR y=true:=λy Y=>H y (by simp[Y]);refine ac (by rw[V,J];rfl) (ce (λh=>acY N V ?_) (λh=>acY N J ?_))
  ·rw[R7,h] at k;exact k
  ·rw[R7,h] at k;exact k
def adD (t:RS->RS->Bool):MCtr:=λbl _ args=>match args with
 | [s, .fn (.func g) [] []]=>match vW bl 2 s with
   |some (b,_,n,c)=>some {X:=Unit,pre:=Nat.beq g 84&&b&&Nat.beq n 4&&eR.good uzR n c,spec:=λ_=>True,out:=λ_=>cR.enc (R7 t [NH (c 1),NH (c 2),NH (c 3)] (NH (c 0))),ex:=λ_=>⟨(),trivial⟩}
   |none=>none
 |_=>none
theorem adq {t:RS->RS->Bool} (V: ∀(p q r s:RS) (K:zdR),XC a gMn [] noA 5 F [.slc 0 0 4, .fn (.func 84) [] []] [eR.old [p,q,r,s]] (Go.Sy.okK λr _ _ _=>K r)=adp t [q,r,s] p K):
 ∀B:Base,GlobEB a B->VU prog B F (adD t):=agE akg MEk.nil λbl nx args C J hp=>by
 unfold adD at J;split at J
 ·rename_i s g;split at J
  ·rename_i b o n c hs;simp only[za1] at J;subst J;simp only[za2] at hp;obtain⟨⟨⟨hg,rfl⟩,Z⟩,H⟩:=hp;obtain rfl:=zab hg;obtain rfl:=zab Z;obtain⟨t1,t2⟩:=cq (f:=rnF [o] [] nx) hs H;have Y:eR.list 4 c= [NH (c 0),NH (c 1),NH (c 2),NH (c 3)]:=rfl;have N:=El.good_list H;rw[Y] at N t1 t2;refine⟨[o], [eR.old [NH (c 0),NH (c 1),NH (c 2),NH (c 3)]], [.slc 0 0 4, .fn (.func 84) [] []],noA,5,aw t1 trivial,bH (by simp[cN,El.old]),cd (by simp[El.old,BK.map]),ar (t2 0 rfl) rfl, ?_⟩;refine kbE () trivial rfl (r:=cR.enc (R7 t [NH (c 1),NH (c 2),NH (c 3)] (NH (c 0)))) (cR.ids _) rfl rfl rfl (by simp[cN,El.old]) rfl ?_;rw[V];exact acY (λx hx=>N x (zan _ hx)) (N _ (by simp)) rfl
  ·cases J
 ·cases J
def U9 (K:Prop):Prop:=Unit->True->K
def afT (a b c d:RS):zdN:=je (gA a++gA b++gA c++gA d) 2
def ahS (a b c d:RS):Bool:=Nat.beq 84 84&&(Nat.ble 4 4&&Nat.beq 2 2&&true)&&Nat.beq 4 4&&eR.good uzR 4 (afT a b c d)
def ajg (t:RS->RS->Bool) (a b c d:RS):RS:=R7 t [NH (afT a b c d 1),NH (afT a b c d 2),NH (afT a b c d 3)] (NH (afT a b c d 0))
structure InI (x:Iv) (q:Rat):Prop where
 l:rV x.1=true
 h:rV x.2=true
 lo:qV x.1<=q
 hi:q<=qV x.2
theorem afh {a b:RS} (H:rV a=true) (J:rV b=true):decide (b9 a b<=0)=decide (qV a<=qV b):=by
 rw[rD H J];exact decide_eq_decide.2 J1
variable {x:Iv}
theorem ajh:vI x=true↔rV x.1=true/\rV x.2=true/\qV x.1<=qV x.2:=by
 unfold vI;simp only[za2];constructor
 ·rintro⟨⟨h1,h2⟩,h3⟩;rw[afh h1 h2] at h3;exact⟨h1,h2,zdu h3⟩
 ·rintro⟨h1,h2,h3⟩;exact⟨⟨h1,h2⟩,by rw[afh h1 h2];exact zdp h3⟩
theorem InI.v {q:Rat} (h:InI x q):vI x=true:=ajh.2 ⟨h.l,h.h,Rat.le_trans h.lo h.hi⟩
variable {c:Iv}
theorem alr {l h:RS×Int} (e:ad3 l h=(c,0)):l.2=0/\h.2=0/\c=(l.1,h.1):=by
 unfold ad3 at e;cases H:l.2==0 with
 |false=>rw[H] at e;exact absurd (show (50:Int)=0 from congrArg Prod.snd e) (by decide)
 |true=>
  cases hh:h.2==0 with
  |false=>rw[H,hh] at e;exact absurd (show (50:Int)=0 from congrArg Prod.snd e) (by decide)
  |true=>
   rw[H,hh] at e;simp only[zdy] at H hh;exact⟨H,hh,(congrArg Prod.fst e).symm⟩
theorem dL {b:Bool} {x:Iv×Int} (e:(bif b then x else R6)=(c,0)):b=true/\x=(c,0):=by
 cases b with
 |false=>exact absurd (show (50:Int)=0 from congrArg Prod.snd e) (by decide)
 |true=>exact⟨rfl,e⟩
theorem ac1 {a b c d:RS×Int} (e:ae6 a b c d=(x,0)):a.2=0/\b.2=0/\c.2=0/\d.2=0/\x=(aey [b.1,c.1,d.1] a.1,aez [b.1,c.1,d.1] a.1):=by
 obtain⟨h,e⟩:=dL e;simp only[za2,zdy] at h;exact⟨h.1.1.1,h.1.1.2,h.1.2,h.2,(congrArg Prod.fst e).symm⟩
theorem ap6:rV zR=true/\qV zR=0:=by
 constructor
 ·decide
 ·unfold qV;rfl
abbrev cIE:=cP cIv cI
theorem s8 {K:Prop} (k:K):U9 K:=λ_ _=>k
theorem ahX {a b c d:RS} (H:uzR a=true) (J:uzR b=true) (N:uzR c=true) (V:uzR d=true):ahS a b c d=true:=by
 have g:eR.good uzR 4 (afT a b c d)=true:=El.good_iff.2 λe Y=>by
  rcases(show e=0\/e=1\/e=2\/e=3 by omega) with rfl|rfl|rfl|rfl
  ·exact⟨rfl,H⟩
  ·exact⟨rfl,J⟩
  ·exact⟨rfl,N⟩
  ·exact⟨rfl,V⟩
 unfold ahS;rw[g,Nat.beq_refl];rfl
theorem afk (t:RS->RS->Bool) (a b c d:RS):ajg t a b c d=R7 t [b,c,d] a:=rfl
theorem vo {a b:Bool} (h:(a&&b)=true):a=true/\b=true:=by rwa[za2] at h
abbrev TX5:=Int×ByteArray
def awt (F:FuncId) (I:TX5->Prop) (N:Int):zdV:=λf k=>bif Nat.beq f F&&Nat.beq k 3 then some (λ_=>{X:=TX5,inv:=I,tm:=λx=> [(4, .val (.int .i64 x.1)),(3, .val (.string x.2))],mu:=λx=>(N - x.1).toNat,keep:= [0]}) else none
def tnM (p i:Int) (t:zdH) (z:TX5):Prop:=(TV.v (cI.enc i)=TV.v (cI.enc z.1)/\TV.v (cS.enc t)=TV.v (cS.enc z.2)/\tvE (cI.enc p)/\True)/\(True/\(True/\True))
def tnT (I:TX5->Prop) (N p:Int) (K:zdR):Prop:= ∃J:TX5,I J/\(tnM p 0 ⟨#[49]⟩ J/\ ∀z:TX5,I z->ag (decide (z.1<p)) (af (decide (z.2.size+(⟨#[48]⟩:zdH).size<=9223372036854775807)) (af (inR .i64 (z.1+1)) (∃H:TX5,I H/\((N - H.1).toNat<(N - z.1).toNat/\tnM p (z.1+1) (z.2++⟨#[48]⟩) H)))) (K (cS.enc z.2)))
theorem axv (a:Addr) (I:TX5->Prop) (N p:Int) (K:zdR):acb a [] [] (awt 257 I N) 3 257 [cI.enc p] K=tnT I N p K:=by kernel_rfl
theorem axw (a:Addr) (I:TX5->Prop) (N p:Int) (K:zdR):acb a [] [] (awt 119 I N) 3 119 [cI.enc p] K=tnT I N p K:=by kernel_rfl
theorem awy (n:Nat):afR n++⟨#[48]⟩=afR (n+1):=by
 apply gT;simp[ByteArray.toList_data_append,afR,List.replicate_succ']
def tnI (p:Int) (z:TX5):Prop:=0<=z.1/\z.1<=p/\z.2=afR z.1.toNat
variable {p:Int} {K:zdR}
theorem axn (h0:0<=p) (h1:p<=60) (k:K (cS.enc (afR p.toNat))):tnT (tnI p) p p K:=by
 refine⟨(0,⟨#[49]⟩),⟨zat _,h0,rfl⟩,⟨⟨rfl,rfl,rfl,trivial⟩,trivial,trivial,trivial⟩, ?_⟩;rintro⟨i,t⟩ ⟨k0,k1,k2⟩;dsimp only at k0 k1 k2 ⊢;subst k2;refine ce (λH=> ?_) (λH=> ?_)
 ·have H:=zdu H;refine ac (zdp ?_) (ac (VP.2 (by omega)) ⟨(i+1,afR i.toNat++⟨#[48]⟩),⟨by show 0<=i+1;omega,by show i+1<=p;omega, ?_⟩,by show (_:Nat)<_;omega,⟨⟨rfl,rfl,rfl,trivial⟩,trivial,trivial,trivial⟩⟩)
  ·show (afR i.toNat).data.size+1<=_;unfold afR;simp;omega
  ·show _=afR (i+1).toNat;rw[awy,show (i+1).toNat=i.toNat+1 by omega]
 ·have H:=zdv H;rw[show i=p by omega];exact k
abbrev aw2:Ctr:=k1 cI cS (λp=>decide (0<=p)&&decide (p<=60)) (λp=>afR p.toNat)
theorem awo:GEk []:=GEk.of GOk.nil
variable {a:Addr} {W:World}
theorem aw3 (H:GlobE a W):CtrOK prog W 257 aw2:=dD λp h=>by
 rw[za2,zdt,zdt] at h;refine l0 awo (MEk.nil (a:=a)) H (ann:=awt 257 (tnI p) p) (n:=3) m8 (cS.ids _) ?_;rw[axv];exact axn (K:=λr=>r=_) h.1 h.2 rfl
theorem aw4 (H:GlobE a W):CtrOK prog W 119 aw2:=dD λp h=>by
 rw[za2,zdt,zdt] at h;refine l0 awo (MEk.nil (a:=a)) H (ann:=awt 119 (tnI p) p) (n:=3) m8 (cS.ids _) ?_;rw[axw];exact axn (K:=λr=>r=_) h.1 h.2 rfl
def aw5:List (FuncId×Ctr):=(257,aw2)::(119,aw2)::(gJ2++xK)
theorem awp:GEk aw5:=((GEk.of (WA.append BN)).cons (λa W H=>aw4 H) call119).cons (λa W H=>aw3 H) call257
def axx (r:RS) (p:Int) (K:zdR) (R:ByteArray->ByteArray->Prop):Prop:=
 af (uzR r) (ag (bif bif !rV r then true else decide (p<0) then true else decide (p>30)) (K uD) (af (decide (0<=p)&&decide (p<=60)) (af (uz2 r.1 (afR p.toNat)) (ag ((bM r.1 (afR p.toNat)).2 !=0) (K uD)
  (af (uz2 (bM r.1 (afR p.toNat)).1 r.2) (ag (!((dY (bM r.1 (afR p.toNat)).1 r.2).2.2==0)) (K uD) (R (dY (bM r.1 (afR p.toNat)).1 r.2).1 (dY (bM r.1 (afR p.toNat)).1 r.2).2.1)))))))
def aw6 (p:Int) (q:zdH) (K:zdR):Prop:=af (uz2 q (afR p.toNat)) (K (cRE.enc (gX q (afR p.toNat))))
theorem axy (a:Addr) (r:RS) (p:Int) (K:zdR):acb a aw5 [] noA 6 120 [cR.enc r,cI.enc p] K=axx r p K λq _=>aw6 p q K:=by kernel_rfl
theorem axz (a:Addr) (r:RS) (p:Int) (K:zdR):acb a aw5 [] noA 6 121 [cR.enc r,cI.enc p] K=axx r p K λq s=>ag (!seq s ⟨#[48]⟩) (af (uz2 q ⟨#[49]⟩) (ag ((jb q ⟨#[49]⟩).2 !=0) (K uD) (aw6 p (jb q ⟨#[49]⟩).1 K))) (aw6 p q K):=by kernel_rfl
variable {r:RS}
theorem awF {R:ByteArray->ByteArray->Prop} {o:RS×Int} (hr:uzR r=true) (N:((rV r&&decide (0<=p/\p<=30)&&aq (nS r.1*ten p.toNat))=false->K uD))
 (hg:rV r=true->0<=p->p<=30->aq (nS r.1*ten p.toNat)=true->R (ofI (nS r.1*ten p.toNat / nS r.2)) (ofI (nS r.1*ten p.toNat%nS r.2))):axx r p K R:=by
 refine ac hr (ce (λh=>N ?_) (λh=> ?_))
 ·cases hv:rV r with
  |false=>rfl
  |true=>
   rw[hv] at h
   rw[zb6,show decide (0<=p/\p<=30)=false from zds λ⟨a,b⟩=>by
    rw[zds (show ¬p<0 by omega),zds (show ¬p>30 by omega)] at h;cases h]
   rfl
 ·cases hv:rV r with
  |false=>rw[hv] at h;cases h
  |true=>
  have hp:0<=p/\p<=30:=by
   rw[hv] at h;by_cases a:p<0
   ·rw[zdp a] at h;cases h
   ·by_cases b:p>30
    ·rw[zds a,zdp b] at h;cases h
    ·omega
  have V:vS (afR p.toNat)=true:=afa (by omega);have hn:=afb p.toNat;obtain⟨Y,Z,v3,_⟩:=ay hv;have J:=dg Y V;rw[hn] at J;refine ac (by rw[zdp hp.1,zdp (show p<=60 by omega)];rfl) (ac (aX (bO Y) (bO V)) ?_);rw[J];refine ce (λe=>N ?_) (λe=> ?_)
  ·rw[eG] at e;rw[show aq (nS r.1*ten p.toNat)=false by simpa using e,Bool.and_false]
  ·have H:aq (nS r.1*ten p.toNat)=true:=by rw[eG] at e;simpa using e
   have eC:Yk.chkI (nS r.1*ten p.toNat)=(ofI (nS r.1*ten p.toNat),0):=by unfold Yk.chkI;rw[if_pos (V1.1 H)]
   rw[eC];have vn:=dG H;have eD:dY (ofI (nS r.1*ten p.toNat)) r.2=(ofI (nS r.1*ten p.toNat / nS r.2),ofI (nS r.1*ten p.toNat%nS r.2),0):=by
    unfold dY;rw[if_pos (by rw[vn,Z,zdp (show nS r.2≠0 by omega)];rfl),aI]
   refine ac (aX (bO vn) (bO Z)) ?_;rw[eD];exact ce (λh=>by cases h) λ_=>hg hv hp.1 hp.2 H
theorem awq {n:Int} (hp:p<=30) (H:aq n=true) (k:K (cRE.enc (rMk n (ten p.toNat)))):aw6 p (ofI n) K:=by
 refine ac (aX (bO (dG H)) (bO (afa (by omega)))) ?_;rw[<-afc (show p.toNat<200 by omega),gM];exact k
theorem awG (up:Bool) (h:(rV r&&decide (0<=p/\p<=30)&&aq (nS r.1*ten p.toNat))=false):lR r p up=(noR,40):=by unfold lR;rw[if_neg (by rw[h];decide)]
theorem awu (up:Bool) (hv:rV r=true) (h0:0<=p) (h1:p<=30) (H:aq (nS r.1*ten p.toNat)=true):lR r p up=rMk (if up&&decide (nS r.1*ten p.toNat%nS r.2≠0) then nS r.1*ten p.toNat / nS r.2+1 else nS r.1*ten p.toNat / nS r.2) (ten p.toNat):=by
 unfold lR;rw[if_pos (by simp[hv,h0,h1,H])]
theorem avU {N:Int} (hv:rV r=true) (H:aq N=true):aq (N / nS r.2)=true/\aq (N%nS r.2)=true:=by
 obtain⟨_,J,V,_⟩:=ay hv;obtain⟨a,b⟩:=ai6 (dG H) J V;rw[aI] at a b;exact⟨by have:=awk a;rwa[aI] at this,by have:=awk b;rwa[aI] at this⟩
theorem awH (J:GlobE a W):CtrOK prog W 120 (k2 cR cI cRE (λr _=>uzR r) acv):=bC λr p h=>by
 refine l0 awp (MEk.nil (a:=a)) J (ann:=noA) (n:=6) de (cRE.ids _) ?_;rw[axy,<-ad7];refine awF (o:=acv r p) h (λe=>by rw[awG _ e];rfl) λhv h0 h1 H=>awq h1 (avU hv H).1 ?_;rw[awu _ hv h0 h1 H];rfl
theorem axA (Z:GlobE a W):CtrOK prog W 121 (k2 cR cI cRE (λr _=>uzR r) rUp):=bC λr p h=>by
 refine l0 awp (MEk.nil (a:=a)) Z (ann:=noA) (n:=6) de (cRE.ids _) ?_;rw[axz,<-afS];refine awF (o:=rUp r p) h (λe=>by rw[awG _ e];rfl) λhv h0 h1 J=> ?_;obtain⟨N,q2⟩:=avU hv J;obtain⟨_,_,v3,_⟩:=ay hv;have z:seq (ofI (nS r.1*ten p.toNat%nS r.2)) ⟨#[48]⟩=decide (nS r.1*ten p.toNat%nS r.2=0):=by rw[m6 (dG q2),aI]
 rw[awu _ hv h0 h1 J,z];refine ce (λh=> ?_) (λh=> ?_)
 ·have H:nS r.1*ten p.toNat%nS r.2≠0:=by simpa using h
  have V:=avJ J v3 H;rw[if_pos (by simp[H])];refine ac (aX (bO (dG N)) (by decide)) ?_;rw[tw (dG N) (show vS ⟨#[49]⟩=true by decide),aI,show nS ⟨#[49]⟩=1 by decide];have Y:Yk.chkI (nS r.1*ten p.toNat / nS r.2+1)=(ofI (nS r.1*ten p.toNat / nS r.2+1),0):=by unfold Yk.chkI;rw[if_pos (V1.1 V)]
  rw[Y];exact ce (λh=>by cases h) λ_=>awq h1 V rfl
 ·have H:nS r.1*ten p.toNat%nS r.2=0:=by simpa using h
  rw[if_neg (by simp[H])];exact awq h1 N rfl
def gR0:List (FuncId×Ctr):=(120,k2 cR cI cRE (λr _=>uzR r) acv)::(121,k2 cR cI cRE (λr _=>uzR r) rUp)::aw5
theorem axo:GEk gR0:=(awp.cons (λa W H=>axA H) call121).cons (λa W H=>awH H) call120
def axN (x:Iv) (K:zdR):Prop:=
 af (uzR x.1) (af (uzR x.2) (af (dC (bif rV x.1 then rV x.2 else false) (uzR x.1&&uzR x.2)) (K (cB.enc (bif (bif rV x.1 then rV x.2 else false) then decide (b9 x.1 x.2<=0) else false)))))
theorem axB (a:Addr) (x:Iv) (K:zdR):acb a gR0 [] noA 6 36 [cIv.enc x] K=axN x K:=by kernel_rfl
def gR1:List (FuncId×Ctr):=(36,k1 cIv cB uzI vI)::gR0
theorem awz {x:Iv} (h:uzI x=true) (k:K (cB.enc (vI x))):axN x K:=by
 obtain⟨h1,h2⟩:=alu h;refine ac h1 (ac h2 (acX (by rw[h1,h2];rfl) ?_));have e:(bif (bif rV x.1 then rV x.2 else false) then decide (b9 x.1 x.2<=0) else false)=vI x:=by unfold vI;cases rV x.1<;>cases rV x.2<;>rfl
 rw[e];exact k
theorem awI:GEk gR1:=axo.cons (λa W H=>dD λx h=>l0 axo (MEk.nil (a:=a)) H (ann:=noA) (n:=6) m8 (cB.ids _) (by rw[axB];exact awz (K:=λr=>r=_) h rfl)) call36
def axO (x:Iv) (r:RS) (K:zdR):Prop:=
 af (uzI x) (af (uzR r) (af (dC (bif vI x then rV r else false) (uzR x.1&&uzR r)) (af (dC (bif (bif vI x then rV r else false) then decide (b9 x.1 r<=0) else false) (uzR r&&uzR x.2))
  (K (cB.enc (bif (bif (bif vI x then rV r else false) then decide (b9 x.1 r<=0) else false) then decide (b9 r x.2<=0) else false))))))
theorem aw7 (a:Addr) (x:Iv) (r:RS) (K:zdR):acb a gR1 [] noA 6 115 [cIv.enc x,cR.enc r] K=axO x r K:=by kernel_rfl
theorem axC (a:Addr) (r:RS) (K:zdR):acb a gR1 [] noA 6 37 [cR.enc r] K=ak0 r K:=by kernel_rfl
def gR2:List (FuncId×Ctr):=(115,k2 cIv cR cB (λx r=>uzI x&&uzR r) auf)::(37,k1 cR cIv uzR ptI)::gR1
theorem av3:GEk gR2:=
 (awI.cons (λa W H=>dD λr h=>l0 awI (MEk.nil (a:=a)) H (ann:=noA) (n:=6) m8 (cIv.ids _) (by
     rw[axC];refine ac h (ce (λe=> ?_) (λe=> ?_))
     ·unfold ptI;rw[show rV r=false by simpa using e];rfl
     ·unfold ptI;rw[show rV r=true by simpa using e];rfl)) call37).cons
   (λa W H=>bC λx r h=>by
     obtain⟨N,J⟩:=vo h;obtain⟨h1,h2⟩:=alu N;refine l0 awI (MEk.nil (a:=a)) H (ann:=noA) (n:=6) de (cB.ids _) ?_;rw[aw7];refine ac N (ac J (acX (by rw[h1,J];rfl) (acX (by rw[J,h2];rfl) ?_)));have e:(bif (bif (bif vI x then rV r else false) then decide (b9 x.1 r<=0) else false) then decide (b9 r x.2<=0) else false)=auf x r:=by
      unfold auf;cases vI x<;>cases rV r<;>cases decide (b9 x.1 r<=0)<;>rfl
     rw[e]) call115
def awv (x y:Iv) (K:zdR) (R:Prop):Prop:=af (uzI x) (af (uzI y) (ag (!(bif vI x then vI y else false)) (K (cIE.enc R6)) R))
def awA (l h:RS×Int) (K:zdR):Prop:=ag (bif l.2 !=0 then true else h.2 !=0) (K (cIE.enc R6)) (K (cIE.enc ((l.1,h.1),0)))
theorem aw8 (a:Addr) (x y:Iv) (K:zdR):acb a gR2 [] noA 8 38 [cIv.enc x,cIv.enc y] K=awv x y K (af (uzR x.1&&uzR y.1) (af (uzR x.2&&uzR y.2) (awA (fZ x.1 y.1) (fZ x.2 y.2) K))):=by kernel_rfl
theorem aw9 (a:Addr) (x y:Iv) (K:zdR):acb a gR2 [] noA 8 39 [cIv.enc x,cIv.enc y] K=awv x y K (af (uzR x.1&&uzR y.2) (af (uzR x.2&&uzR y.1) (awA (iF x.1 y.2) (iF x.2 y.1) K))):=by kernel_rfl
theorem axa (a:Addr) (x:Iv) (p:Int) (K:zdR):acb a gR2 [] noA 8 44 [cIv.enc x,cI.enc p] K=af (uzI x) (ag (!vI x) (K (cIE.enc R6)) (af (uzR x.1) (af (uzR x.2) (awA (acv x.1 p) (rUp x.2 p) K)))):=by kernel_rfl
def axb (r l h:RS) (k:RS->RS->Prop):Prop:=
 af (dC true (uzR r&&uzR l)) (ag (bif false then true else decide (b9 r l<0)) (af (dC true (uzR r&&uzR h)) (ag (bif false then true else decide (b9 r h>0)) (k r r) (k r h))) (af (dC true (uzR r&&uzR h)) (ag (bif false then true else decide (b9 r h>0)) (k l r) (k l h))))
def axp (r:RS) (K:Prop):Prop:=af (dC false (uzR r&&uzR VI)) K
def awJ (o:RS->RS->(RS->Prop)->Prop) (x y:Iv) (K:zdR):Prop:=
 o x.1 y.1 λa=>axp a (axp a (o x.1 y.2 λb=>axb b a a λl h=>o x.2 y.1 λc=>axb c l h λl h=>o x.2 y.2 λd=>axb d l h λl h=>K (cIE.enc ((l,h),0))))
def ax1 (K:zdR) (x y:RS) (k:RS->Prop):Prop:=af (uzR x&&uzR y) (ag ((ale x y).2 !=0) (K (cIE.enc R6)) (k (ale x y).1))
def ax2 (K:zdR) (x y:RS) (k:RS->Prop):Prop:=af (uzR x&&uzR y) (af (uzR x&&uzR y) (ag ((cA x y).2 !=0) (K (cIE.enc R6)) (k (cA x y).1)))
theorem axc (a:Addr) (x y:Iv) (K:zdR):acb a gR2 [] noA 8 40 [cIv.enc x,cIv.enc y] K=awv x y K (awJ (ax1 K) x y K):=by kernel_rfl
theorem axd (a:Addr) (x y:Iv) (K:zdR):acb a gR2 [] noA 8 41 [cIv.enc x,cIv.enc y] K=af (uzI x) (af (uzI y) (af (uzI y&&uzR zR) (ag (bif !(bif vI x then vI y else false) then true else auf y zR) (K (cIE.enc R6)) (awJ (ax2 K) x y K)))):=by kernel_rfl
def auU (n:Nat):Nat->Nat
 |0=>0
 |k+1=>if (k+1)*(k+1)<=n then k+1 else auU n k
def pz (n:Nat):Nat:=auU n n
theorem auE {n r:Nat} (h1:r*r<=n) (h2:n<(r+1)*(r+1)): ∀k,r<=k->auU n k=r
 |0,h=>by
  obtain rfl:r=0:=by omega
  rfl
 |k+1,h=>by
  unfold auU;by_cases e:r=k+1
  ·subst e;rw[if_pos h1]
  ·have H:r+1<=k+1:=by omega
   have:=zb4 H H;rw[if_neg (by omega)];exact auE h1 h2 k (by omega)
variable {n r:Nat}
theorem auF (h1:r*r<=n) (h2:n<(r+1)*(r+1)):pz n=r:=by
 refine auE h1 h2 n ?_;rcases zbK r with h|h
 ·omega
 ·exact zac (Nat.le_mul_of_pos_left r h) h1
theorem avz (a b:Nat):4*(a*b)<=(a+b)*(a+b):=by
 rcases Nat.le_total a b with h|h
 ·obtain⟨d,rfl⟩:=zd7 h;have:(a+(a+d))*(a+(a+d))=4*(a*(a+d))+d*d:=by grind
  omega
 ·obtain⟨d,rfl⟩:=zd7 h;have:(b+d+b)*(b+d+b)=4*((b+d)*b)+d*d:=by grind
  omega
theorem aug (H:0<r):n<((r+n / r) / 2+1)*((r+n / r) / 2+1):=by
 have h1:n<r*(n / r+1):=by
  have:=Nat.lt_mul_div_succ n H;rwa[zao,zbZ] at this ⊢
 generalize n / r=q at*
 have h2:r+(q+1)<=2*((r+q) / 2+1):=by omega
 generalize (r+q) / 2+1=t at*
 have h3:=avz r (q+1);have h4:=zb4 h2 h2;have h5:2*t*(2*t)=4*(t*t):=by grind
 omega
theorem auz (h:r<=(r+n / r) / 2):r*r<=n:=by
 have h1:r<=n / r:=by omega
 exact zac (zb5 r h1) (Nat.mul_div_le n r)
theorem auP (J:0<n) (H:0<r):0<(r+n / r) / 2:=by
 have:=aug (n:=n) H;rcases zbK ((r+n / r) / 2) with h|h
 ·rw[h] at this;omega
 ·exact h
theorem auG:pz n*pz n<=n/\n<(pz n+1)*(pz n+1):=by
 have: ∃r,r*r<=n/\n<(r+1)*(r+1):=by
  have key: ∀k,n<(k+1)*(k+1)-> ∃r,r*r<=n/\n<(r+1)*(r+1):=by
   intro k
   induction k with
   |zero=>intro h;exact⟨0,by omega,h⟩
   |succ k H=>
    intro h;by_cases e:(k+1)*(k+1)<=n
    ·exact⟨k+1,e,h⟩
    ·exact H (by omega)
  exact key n (by have:=Nat.le_mul_of_pos_left (n+1) (show 0<n+1 by omega);omega)
 obtain⟨r,h1,h2⟩:=this;rw[auF h1 h2];exact⟨h1,h2⟩
def kq (a:zdH):ByteArray×Int:=bif vS a&&decide (0<=nS a) then(ofI (pz (nS a).natAbs),0) else(ByteArray.empty,30)
theorem auv {n:Nat} (h:n<BIG):pz n<BIG:=by
 have h1:=(auG (n:=n)).1;rcases zbK (pz n) with h0|h0
 ·rw[h0];decide
 ·exact zaS (zac (Nat.le_mul_of_pos_left _ h0) h1) h
theorem auH (k:Nat):ae 10000 (10000^k)=List.replicate k 0++ [1]:=by
 induction k with
 |zero=>exact gW (by decide) (by decide) (by decide)
 |succ k H=>
  have hp:0<10000^k:=Nat.pow_pos (by decide);have e:10000^(k+1)=0+10000*10000^k:=by rw[zaw];omega
  rw[e,zV (by decide) (by decide) (by omega),H];rfl
theorem auQ {x k:Nat} (h:(ae 10000 x).length<=2*k):x<(10000^k+1)*(10000^k+1):=by
 have h1:=(ai (B:=10000) (by decide) x (2*k)).1 h;rw[show 10000^(2*k)=10000^k*10000^k by rw[<-zbw];congr 1;omega] at h1;have:=zb4 (zaT (10000^k)) (zaT (10000^k));exact zam h1 this
def avA (x J:Nat) (H:Option Addr) (k1 b:Nat) (w:World) (N:Value) (wr:World):Prop:=
 ∃(r:Nat) (p:Option Addr) (c:Nat),N= .slice p (ae 10000 r).length c/\Rd am wr N (ae 10000 r)/\Blk wr b #[.bool false, .slice H J k1] 202/\Rd am wr (.slice H J k1) (ae 10000 x)/\Below w.heap.size w wr/\0<r/\x<(r+1)*(r+1)/\(ae 10000 r).length<=60
theorem au6 (nb:Bool) (x:Nat) (hxB:x<BIG) (a:zdH) (w:World) (hg:Glob w)
 (hB:Hid (∀w,Calls prog 171 #[.string a, .string ⟨#[48]⟩] w λe w'=> ∃v1 v2,e= .returned (.tuple #[.agg #[.bool false,v1], .agg #[.bool nb,v2], .bool true])/\Rd am w' v1 (ae 10000 x)/\Rd am w' v2 (ae 10000 0)/\From w.heap.size v1/\From w.heap.size v2/\Below w.heap.size w w')):
 Calls prog 170 #[.string a] w λe w'=>e= .returned (.tuple #[.string (ofI (pz x)), .int .i64 0])/\Below w.heap.size w w':=by
 have hmx:prog.follows .mixedOrders=true:=by kernel_rfl
 obtain⟨S,hS⟩: ∃S,ofI ((pz x:Nat):Int)=S:=⟨_,rfl⟩;have HRt:Hid (Yk.chkI (sgn false (pz x))=(S,0)):=zdC (by rw[j6 (by rw[cz];exact auv hxB),<-hS];rfl);have HS:=zdC hS;rw[hS];clear hS;have Hg:=zdC hg;have Hla:=zdC (bg hxB);obtain⟨n1,e1⟩: ∃n,(ae 10000 x).length=n:=⟨_,rfl⟩;have E1:=zdC e1;have HxB:=zdC hxB;clear hg e1 hxB;go_enter func170,ntmps170;go_wp2_with fail
 (with_reducible refine(hB.out _).mono ?_);rintro e w1 ⟨v1,v2,rfl,hr1,hr2,hf1,hf2,hb1⟩
 obtain⟨a1,k1,rfl,_⟩:=hr1.open';obtain⟨a2,k2,rfl,_⟩:=hr2.open';rw[E1.out] at hr1;rw[aF] at hr2;simp only[E1.out,aF,za9];have H1:=zdC hr1;have HB:=zdC hb1;have hs1:=hb1.size;clear hr1 hr2 hf1 hf2 hb1;have hbl: ∀o1 o2,Below w1.heap.size w1 ((w1.alloc o1).alloc o2):=λo1 o2=>((zdD _ _).alloc (za0 _) _).alloc (by simp) _;have Hbl:=zdC hbl;clear hbl;have hn1:n1<=50:=by rw[<-E1.out];exact Hla.out
 obtain⟨r1,r2⟩:=atU w1 #[.bool false, .slice a1 n1 k1] #[.bool nb, .slice a2 0 k2] 202;have R1:=zdC r1;have RB:=zdC (Hbl.out (.cells #[.bool false, .slice a1 n1 k1] 202) (.cells #[.bool nb, .slice a2 0 k2] 202));clear r1 r2
 go_wp2_with (first
  |(at_make;refine aca (enc:=am) (e:=3) (B:=w1.heap.size+2) rfl _ _ 200 rfl 0 8 underlying200 gE rfl .i64 .i64 _ _ ((n1+1) / 2) rfl rfl (by omega) (by omega) (by omega) (by decide) (by simp) ?_;intro w2 hown2 hB2;simp only[World.size_alloc] at hown2 hB2)
  |(at_builtin;refine AD rfl _ _ rfl rfl (hown2.alloc _) w2.heap.size 1 _ rfl (aP _ _ _) 1 rfl (by rw[zcw];omega) (by have:=hB2.size;simp only[World.size_alloc] at this ⊢;omega) ?_;intro v' w3 hown3 hB3))
 have s2:=hB2.size;have s3:=hB3.size;simp only[World.size_alloc] at s2 s3;have HB13:=zdC (((RB.out.trans (hB2.mono (by omega))).alloc (by omega) _).trans (hB3.mono (by omega)));have HBl:=zdC (((R1.out.below hB2 (by omega)).alloc _).below hB3 (by omega));have HX:=zdC (H1.out.below HB13.out);obtain⟨g,cap,rfl,_,_⟩:=hown3.some_of;have hr3:=hown3.rd;have hlen:(List.replicate ((n1+1) / 2) 0).length+1=(ae 10000 (10000^((n1+1) / 2))).length:=by rw[auH];simp
 rw[<-auH,hlen] at hr3;rw[hlen];have hl60:(ae 10000 (10000^((n1+1) / 2))).length<=60:=by rw[<-hlen,zcw];omega
 have HBw:=zdC (HB.out.trans (HB13.out.mono hs1));have hst:x<(10000^((n1+1) / 2)+1)*(10000^((n1+1) / 2)+1):=auQ (by rw[E1.out];omega);have Hst:=zdC (And.intro hl60 (And.intro hst (And.intro hr3 (Nat.pow_pos (n:=(n1+1) / 2) (show 0<10000 by decide)))));generalize 10000^((n1+1) / 2)=r0 at*
 clear hown3 hown2 hB2 hB3 R1 RB Hbl H1 HB hr3 HB13 hlen hl60 hst
 go_loopw [7] (λrv wr=>avA x n1 a1 k1 w1.heap.size w rv wr) (λrv wr=>G5 wr rv)
 case atStart=>exact⟨r0,_,_,rfl,Hst.out.2.2.1,HBl.out,HX.out,HBw.out,Hst.out.2.2.2,Hst.out.2.1,Hst.out.1⟩
 case round=>
  obtain⟨r,p,c,rfl,hr,hblk,hx,hB4,hr0,hxr,hlr⟩:=hrel;have Hr:=zdC hr;have Hbk:=zdC hblk;have Hx:=zdC hx;have HB4:=zdC hB4;have Hr0:=zdC (And.intro hr0 (And.intro hxr hlr));have hs4:=hB4.size;obtain⟨u1,u2,_,_,hblt⟩:=bN hblk;clear hr hblk hx hB4 hr0 hxr hlr;by_cases hz:n1=0
  ·subst hz;have hx0:x=0:=(aZ (B:=10000) (by decide)).1 (zau E1.out);have h0:ofI (pz x)=(⟨#[48]⟩:zdH):=by rw[hx0];decide+kernel
   rw[HS.out] at h0;go_wp2
   go_ret2
   exact⟨by rw[h0];rfl,HB4.out⟩
  ·have hz0:0<n1:=by omega
   obtain⟨nr,hnr⟩: ∃n,(ae 10000 r).length=n:=⟨_,rfl⟩;have Hnr:=zdC hnr;rw[hnr] at Hr;simp only[hnr];clear hnr;have hx60:(ae 10000 x).length<=400:=by have:=Hla.out;omega
   have hr60:(ae 10000 r).length<=400:=by have:=Hr0.out.2.2;omega
   have Hx60:=zdC (And.intro hx60 hr60);clear hx60 hr60;go_wp2_with fail;refine(iW x r Hr0.out.1 _ _ _ Hx.out Hr.out Hx60.out.1 Hx60.out.2 (GX Hx.out)).mono ?_;rintro e W2 ⟨v3,v4,rfl,hr3,hr4,hf3,hf4,hb2⟩;obtain⟨a3,k3,rfl,_⟩:=hr3.open';obtain⟨a4,k4,rfl,_⟩:=hr4.open';have HR3:=zdC hr3;have Hr2:=zdC (Hr.out.below hb2);have Hx2:=zdC (Hx.out.below hb2);have Hk2:=zdC (Hbk.out.below hb2 hblt);have HB2:=zdC (HB4.out.trans (hb2.mono hs4));have hs2:=hb2.size;clear hr3 hr4 hf3 hf4 hb2;go_wp2_with fail;refine(iV r (x / r) _ _ _ Hr2.out HR3.out (by have:=Hx60.out.2;omega) (by have:=zaN x r;have:=aD (B:=10000) (by decide) this;have:=Hx60.out.1;omega)).mono ?_;rintro e W3 ⟨v5,rfl,hr5,hf5,hb3⟩;obtain⟨a5,k5,rfl,_⟩:=hr5.open';have HR5:=zdC hr5;have Hr3:=zdC (Hr2.out.below hb3);have Hx3:=zdC (Hx2.out.below hb3);have Hk3:=zdC (Hk2.out.below hb3 (by omega));have HB3:=zdC (HB2.out.trans (hb3.mono (by omega)));have hs3:=hb3.size;have hl2:Rd am (W3.alloc (.cells #[.int .i64 2] 3)) (.slice (some ⟨W3.heap.size,0,none⟩) 1 1) (ae 10000 2):=by
    rw[gW (B:=10000) (d:=2) (by decide) (by decide) (by decide)];exact(OwnL.lit1 W3 2 rfl).rd
   have HL2:=zdC hl2;have hw5:(ae 10000 (r+x / r)).length<=400:=by
    have h1:=zaN x r;have h2:=Hr0.out.2.2;have h3:=(ai (B:=10000) (by decide) r 60).1 h2;have h4:=(ai (B:=10000) (by decide) x 50).1 Hla.out;have h5:r+x / r<10000^61:=by
     have:(10000:Nat)^61=10000^60*10000:=zaw ..;have:(10000:Nat)^60=10000^50*10000^10:=by rw[<-zbw]
     have:0<(10000:Nat)^50:=Nat.pow_pos (by decide);have:(10000:Nat)^50<=10000^60:=zb7 (by decide) (by decide);omega
    have:=(ai (B:=10000) (by decide) (r+x / r) 61).2 h5;omega
   have Hw5:=zdC hw5;clear hr5 hf5 hb3 hl2 hw5;go_wp2_with fail;refine(iW (r+x / r) 2 (by decide) _ _ _ (HR5.out.below ((zdD _ W3).alloc (za0 _) _)) HL2.out Hw5.out (by rw[gW (B:=10000) (d:=2) (by decide) (by decide) (by decide)];decide) (GX (HR5.out.below ((zdD _ W3).alloc (za0 _) _)))).mono ?_;rintro e W4 ⟨v6,v7,rfl,hr6,hr7,hf6,hf7,hb4⟩;obtain⟨a6,k6,rfl,_⟩:=hr6.open';obtain⟨a7,k7,rfl,_⟩:=hr7.open';have ha3:Below W3.heap.size W3 (W3.alloc (.cells #[.int .i64 2] 3)):=(zdD _ W3).alloc (za0 _) _;have hs4':=hb4.size;simp only[World.size_alloc] at hs4';have hb34:Below W3.heap.size W3 W4:=ha3.trans (hb4.mono (by simp));have HR6:=zdC hr6;have Hr4:=zdC (Hr3.out.below hb34);have Hx4:=zdC (Hx3.out.below hb34);have Hk4:=zdC (Hk3.out.below hb34 (by omega));have HB5:=zdC (HB3.out.trans (hb34.mono (by omega)));obtain⟨t,ht⟩: ∃t,(r+x / r) / 2=t:=⟨_,rfl⟩;rw[ht] at HR6;simp only[ht];have Ht:=zdC ht;have hlt':(ae 10000 t).length<=400:=by
    have:=aD (B:=10000) (by decide) (show t<=r+x / r by omega);have:=Hw5.out;omega
   have Hlt:=zdC hlt';clear hr6 hr7 hf6 hf7 hb4 ha3 hb34 ht hlt';go_wp2_with fail;refine(gc t r _ _ _ HR6.out Hr4.out (by have:=Hlt.out;omega)).mono ?_;rintro e W5 ⟨rfl,hb5⟩;have HR7:=zdC (HR6.out.below hb5);have Hr5:=zdC (Hr4.out.below hb5);have Hx5:=zdC (Hx4.out.below hb5);have Hk5:=zdC (Hk4.out.below hb5 (by omega));have HB6:=zdC (HB5.out.trans (hb5.mono (by omega)));have hs5:=hb5.size;clear hb5;by_cases hc:t<r
   ·rw[jN hc];go_wp2
    go_roundw
    case rel=>
     have hx0:0<x:=by
      rcases zbK x with h|h
      ·have:=E1.out;rw[h,aF] at this;exact absurd this.symm hz
      ·exact h
     exact⟨t,_,_,rfl,HR7.out,Hk5.out,Hx5.out,HB6.out,by rw[<-Ht.out];exact auP hx0 Hr0.out.1,by rw[<-Ht.out];exact aug Hr0.out.1,zac (aD (by decide) (zbt hc)) Hr0.out.2.2⟩
    case measure=>
     rw[yH HR7.out,yH Hr.out];exact hc
   ·have hc0:=yE (x:=t) (y:=r) (by omega);generalize dB t r=z at hc0 ⊢;go_wp2_with fail;have hroot:pz x=r:=auF (auz (by have:=Ht.out;omega)) Hr0.out.2.1;refine(ep false r _ _ Hr5.out (Hg.out.below HB6.out) (by have:=Hr0.out.2.2;omega)).mono ?_;have hq:=HRt.out;rw[hroot] at hq;rw[hq];rintro e W6 ⟨rfl,hb6⟩;have HB7:=zdC (HB6.out.trans (hb6.mono (by omega)));clear hb6 hq;go_wp2
    go_ret2
    exact⟨rfl,HB7.out⟩
theorem au7:vS ⟨#[48]⟩=true/\(nS ⟨#[48]⟩).natAbs=0:=by decide+kernel
theorem au8 (nb:Bool) (x:Nat) (a:zdH) (w:World)
 (hB:Hid (∀w,Calls prog 171 #[.string a, .string ⟨#[48]⟩] w λe w'=> ∃v1 v2,e= .returned (.tuple #[.agg #[.bool true,v1], .agg #[.bool nb,v2], .bool true])/\Rd am w' v1 (ae 10000 x)/\Rd am w' v2 (ae 10000 0)/\From w.heap.size v1/\From w.heap.size v2/\Below w.heap.size w w')):
 Calls prog 170 #[.string a] w λe w'=>e= .returned (.tuple #[.string ByteArray.empty, .int .i64 30])/\Below w.heap.size w w':=by
 go_enter func170,ntmps170;go_wp2_with fail
 (with_reducible refine(hB.out _).mono ?_);rintro e w1 ⟨v1,v2,rfl,hr1,hr2,hf1,hf2,hb1⟩
 obtain⟨a1,k1,rfl,_⟩:=hr1.open';obtain⟨a2,k2,rfl,_⟩:=hr2.open';have HB:=zdC hb1;clear hr1 hr2 hf1 hf2 hb1;go_wp2
 go_ret2
 refine⟨rfl, ?_⟩;have:=HB.out.size;exact(HB.out.alloc (by omega) _).alloc (by simp;omega) _
theorem auI (a:zdH) (w:World) (hg:Glob w) (hsa:a.size<=maxLen):
 Calls prog 170 #[.string a] w λe w'=>e= .returned (.tuple #[.string (kq a).1, .int .i64 (kq a).2])/\Below w.heap.size w w':=by
 obtain⟨z1,z2⟩:=au7;cases ha:vS a with
 |true=>
  have hB:=zdC (λw=>jD a ⟨#[48]⟩ ha z1 w);rw[z2] at hB;have hna:=cD a;have hxB:=br ha;cases hn:bf a.data.toList with
  |true=>
   rw[hn] at hB;have h0:kq a=(ByteArray.empty,30):=by
    have:=G0 ha hn;unfold kq;rw[ha,zds (show ¬0<=nS a by omega)];rfl
   rw[h0];exact au8 _ _ a w hB
  |false=>
   rw[hn] at hB;have h0:kq a=(ofI (pz (nS a).natAbs),0):=by
    have:=G1 hn;unfold kq;rw[ha,zdp this];rfl
   rw[h0];exact au6 _ _ hxB a w hg hB
 |false=>
  have h0:kq a=(ByteArray.empty,30):=by unfold kq;rw[ha];rfl
  rw[h0];have hB:=zdC (λw=>lQ a ⟨#[48]⟩ (by rw[ha];rfl) w hsa (by decide));clear ha hsa hg z1 z2 h0;go_enter func170,ntmps170;go_wp2_with fail
  (with_reducible refine(hB.out _).mono ?_);rintro e w1 ⟨rfl,hb1⟩
  have HB:=zdC hb1;clear hb1;go_wp2
  go_ret2
  refine⟨rfl, ?_⟩;have:=HB.out.size;exact(HB.out.alloc (by omega) _).alloc (by simp;omega) _
structure RootO (x n j:Nat) (o:List Nat):Prop where
 len:o.length=n
 dig: ∀d∈o,d<10
 zero: ∀i (h:i<o.length),i<j->o[i]=0
 lo:val 10 o*val 10 o<=x
 hi:x<(val 10 o+10^j)*(val 10 o+10^j)
variable {n:Nat}
theorem avT {b:Nat} (h:n<b):pz n<b:=by
 have h1:=(auG (n:=n)).1;rcases zbK (pz n) with h0|h0
 ·omega
 ·exact zaS (zac (Nat.le_mul_of_pos_left _ h0) h1) h
theorem av0: ∀n,val 10 (List.replicate n 0)=0
 |0=>rfl
 |n+1=>by rw[zcd,val,av0 n]
variable {x:Nat}
theorem RootO.start (h:x<10^n*10^n):RootO x n n (List.replicate n 0):=
 ⟨by simp,λd H=>by rw[List.eq_of_mem_replicate H];decide,λi h _=>by simp,by rw[av0];exact zaA _,by rw[av0,za7];exact h⟩
variable {o:zdI}
theorem RootO.done (h:RootO x n 0 o):val 10 o=pz x:=(auF h.lo h.hi).symm
variable {j d:Nat}
theorem RootO.put (h:RootO x n (j+1) o) (H:j<n):val 10 (o.set j d)=val 10 o+10^j*d:=by
 have:=BV 10 o j d (by rw[h.len];exact H);rw[h.zero j (by rw[h.len];exact H) (zcy j),Nat.mul_zero,zaY] at this;exact this
def RootD (x j d:Nat) (o:zdI):Prop:=d<10/\x<(val 10 o+10^j*(d+1))*(val 10 o+10^j*(d+1))
theorem RootD.start (h:RootO x n (j+1) o):RootD x j 9 o:=⟨by decide,by have:=h.hi;rwa[zaw] at this⟩
theorem RootD.step (h:RootO x n (j+1) o) (N:j<n) (J:RootD x j (d+1) o) (H:x<val 10 (o.set j (d+1))*val 10 (o.set j (d+1))):RootD x j d o:=by
 rw[h.put N] at H;exact⟨by have:=J.1;omega,H⟩
theorem RootD.stop (h:RootO x n (j+1) o) (N:j<n) (J:RootD x j d o) (H:d=0\/val 10 (o.set j d)*val 10 (o.set j d)<=x):RootO x n j (o.set j d):=by
 refine⟨by rw[zci,h.len],λy Y=> ?_,λi hi V=> ?_, ?_, ?_⟩
 ·rcases zcL Y with h1|h1
  ·exact h.dig y h1
  ·rw[h1];exact J.1
 ·rw[List.getElem_set_ne (by omega)];exact h.zero i (by simpa using hi) (by omega)
 ·rcases H with rfl|H
  ·rw[h.put N,Nat.mul_zero,zaY];exact h.lo
  ·exact H
 ·have:=J.2;rw[h.put N];rwa[show val 10 o+10^j*d+10^j=val 10 o+10^j*(d+1) by rw[zao,zbZ];omega]
theorem ax3 {α:Type} {enc:α->Value} {e:TypeId} (w:World):OwnL enc e (w.alloc (.cells #[] e)) w.heap.size (.slice (some ⟨w.heap.size,0,none⟩) 0 0) []:=
 ⟨rfl, .inr ⟨w.heap.size,0, #[],rfl,za0 _,heap_alloc_new w _,za0 _,by simp[maxLen],rfl,rfl⟩⟩
theorem avZ (l:zdI) (hd: ∀d∈l,d<10) (v:Value) (w:World) (hv:Rd am w v l) (hl:l.length<=1000):
 Calls prog 255 #[v] w λe w'=> ∃v',e= .returned v'/\Rd am w' v' (ae 10 (val 10 l))/\Below w.heap.size w w':=by
 have Hv:=zdC hv;have Hd:=zdC hd;clear hv hd;go_enter func255,ntmps255
 go_wp2_with (first
  |(at_builtin;refine wF (enc:=am) (e:=3) rfl _ _ 40 rfl (.int .i64 0) 8 underlying40 gE rfl du rfl (ax3 w) rfl (Hv.out.below ((zdD _ _).alloc (za0 _) _)) (by simp;omega) (by decide) (by simp) ?_;intro v' w1 hown1 hB1)
  |(go_at_call 256;refine(iX ([]++l) Hd.out _ _ hown1.rd).mono ?_;rintro e w2 ⟨v2,rfl,hr2,hf2,hb2⟩))
 go_ret;refine⟨_,rfl,hr2, ?_⟩;exact((zdD _ _).alloc (za0 _) _).trans ((hB1.trans (hb2.mono (by have:=hB1.size;simp at this ⊢;omega))).mono (za0 _))
def axP (x n g:Nat) (w:World) (i:Value) (wr:World):Prop:=
 ∃(j:Nat) (o:zdI),i= .int .i64 ((j:Int) - 1)/\OwnL am 3 wr w.heap.size (.slice (some ⟨g,0,none⟩) n n) o/\Below w.heap.size w wr/\RootO x n j o/\j<=n
def axQ (x n g j:Nat) (o:zdI) (w:World) (wr:World):Prop:=
 ∃d:Nat,OwnL am 3 wr w.heap.size (.slice (some ⟨g,0,none⟩) n n) (o.set j d)/\Below w.heap.size w wr/\RootD x j d o
def aww (wr:World) (g j:Nat):Nat:=match wr.cell? ⟨g,j,none⟩ with
 |some (.int _ d)=>d.toNat
 |_=>0
theorem awl (a:zdH) (x:Nat) (w:World) (hx:(nS a).natAbs=x) (hv:vld a.data.toList=true) (hneg:bf a.data.toList=false) (hsa:a.size<=maxLen) (hl:(ae 10 x).length<=200) (hB:x<BIG):
 Calls prog 188 #[.string a] w λe w'=>e= .returned (vSE (ofI (pz x),0))/\Below w.heap.size w w':=by
 have Hd:=zdC (aJ a · hv);rw[hx,hneg] at Hd;have h0:0<a.size:=by
  apply Nat.pos_of_ne_zero;intro e;have:a.data.toList= []:=zau (by rw[bj];exact e);rw[this] at hv;exact absurd hv (by decide)
 have h45:((a[0].toNat:Int)==45)=false:=by
  rw[zdx];intro h;have h1:a[0]=45:=UInt8.toNat_inj.1 (by rw[show (45:UInt8).toNat=45 from rfl];omega);have:a.data.toList.head? =some 45:=by rw[zbX,kE a 0 h0,h1]
  unfold bf at hneg;rw[this] at hneg;exact absurd hneg (by decide)
 have HBl:=zdC (at7 (n:=sgn false (pz x)) (by rw[cz];exact avT hB));clear hx;go_enter func188,ntmps188;go_wp2_with (go_at_call 177;refine(au _ _ (by assumption)).mono ?_;rintro e w0 ⟨rfl,rfl⟩);go_at_call 247
 (with_reducible refine(Hd.out _).mono ?_);rintro e w1 ⟨v1,rfl,hr1,hf1,hb1⟩
 obtain⟨a1,k1,rfl,_⟩:=hr1.open';obtain⟨n1,e1⟩: ∃n,(ae 10 x).length=n:=⟨_,rfl⟩;have E1:=zdC e1;rw[e1] at hl;have Hr1:=zdC hr1;have Hb1:=zdC hb1;simp only[E1.out];rw[e1] at Hr1;clear e1 hr1 hf1 hb1;go_wp2_with (at_make;refine aca (enc:=am) (e:=3) (B:=w1.heap.size) rfl _ _ 40 rfl 0 8 underlying40 gE rfl .i64 .i64 _ _ ((n1+1) / 2) rfl rfl (by omega) (by omega) (by omega) (by decide) (za0 _) ?_;intro w2 hown2 hB2);have hx2:x<10^((n1+1) / 2)*10^((n1+1) / 2):=by
  rw[<-zbw];exact(ai (B:=10) (by decide) x _).1 (by rw[E1.out];omega)
 have hnl:(n1+1) / 2<=200:=by omega
 have Hb12:=zdC (Hb1.out.trans (hB2.mono Hb1.out.size));generalize hn:(n1+1) / 2=n at*
 go_loopw [7] (λi wr=>axP x n w1.heap.size w1 i wr) (λi _=>(intOf i+1).toNat)
 case atStart=>exact⟨n,_,by congr 1;omega,hown2,hB2,RootO.start hx2,za0 _⟩
 case round=>
  obtain⟨j,o,rfl,hown,hB,hO,hj⟩:=hrel;have HO:=zdC hO;have Hown:=zdC hown;have HB1:=zdC hB;have hol:=hO.len;clear hown2 hB2 hx2 hO hown;cases j with
  |zero=>
   have hv0:=HO.out.done
   go_wp2_with (first
    |(go_at_call 256;refine(iX o HO.out.dig _ _ Hown.out.rd).mono ?_;rintro e w3 ⟨v3,rfl,hr3,hf3,hb3⟩;rw[hv0] at hr3)
    |(go_at_call 250;refine(bU false _ _ _ hr3 (zac (aD (by decide) (show pz x<=x by have:=avT (zcy x);omega)) (by rw[E1.out];omega))).mono ?_;rw[HBl.out];rintro e w6 ⟨rfl,hb6⟩))
   go_ret2
   exact⟨rfl,((Hb1.out.trans (hB.mono Hb1.out.size)).trans (hb3.mono (zac Hb1.out.size hB.size))).trans (hb6.mono (zac (zac Hb1.out.size hB.size) hb3.size))⟩
  |succ j=>
   rw[show (((j+1:Nat)):Int) - 1=(j:Int) by omega];have k3:=Hown.out.cell j (by omega);have k4:=Hown.out.free j;go_wp2_with fail;have h9:=Hown.out.set j (by omega) 9 (u:= .int .i64 9) rfl;have hb9:Below w1.heap.size w1 (wr.setCell ⟨w1.heap.size,j,none⟩ (.int .i64 9)):=hB.setCell (za0 _) _;clear k3 k4
   go_loopw [] (λwr=>axQ x n w1.heap.size j o w1 wr) (λwr=>aww wr w1.heap.size j)
   case atStart=>exact⟨9,h9,hb9,RootD.start HO.out⟩
   case round=>
    obtain⟨d,hq,hBq,hd⟩:=hrel;have Hq:=zdC hq;have HBq:=zdC hBq;have Hd2:=zdC hd;have hso:(o.set j d).length=n:=by rw[zci];exact hol
    have Hso:=zdC hso;have k3:=hq.cell j (by omega);rw[zcj] at k3;have k4:=hq.free j;have km:aww wr w1.heap.size j=d:=by unfold aww;rw[k3];rfl
    have Hkm:=zdC km;have Hdg:=zdC (show ∀z∈o.set j d,z<10 from AO HO.out.dig hd.1);have Hst:=zdC (λh=>hd.stop HO.out (by omega) h);have hs1:=hBq.size;clear h9 hb9 hq hBq hd hB hso km;by_cases d0:d=0
    ·subst d0;go_wp2
     go_roundw
     case rel=>exact⟨j,_,by go_num,Hq.out,HBq.out,Hst.out (.inl rfl),by omega⟩
     case measure=>simp[intOf]
    ·have c1:decide ((d:Int)>0)=true:=by simp;omega
     go_wp2_with fail;refine(avZ (o.set j d) Hdg.out _ _ Hq.out.rd (by rw[Hso.out];omega)).mono ?_;rintro e w3 ⟨v3,rfl,hr3,hb3⟩;go_wp2_with fail;refine(avZ (o.set j d) Hdg.out _ _ (Hq.out.belowTo hb3).rd (by rw[Hso.out];omega)).mono ?_;rintro e w4 ⟨v4,rfl,hr4,hb4⟩;have hW:(ae 10 (val 10 (o.set j d))).length<=200:=zac ((ai (B:=10) (by decide) _ n).2 (by have:=kF Hdg.out;rwa[Hso.out] at this)) hnl;go_wp2_with fail;refine(wP _ _ _ _ _ (hr3.below hb4) hr4 (by omega) (by omega)).mono ?_;rintro e w5 ⟨v5,rfl,hr5,hf5,hb5⟩;have hB5:=((HBq.out.trans (hb3.mono hs1)).trans (hb4.mono (zac hs1 hb3.size))).trans (hb5.mono (zac (zac hs1 hb3.size) hb4.size));have hq5:=((Hq.out.belowTo hb3).belowTo hb4).belowTo hb5;go_wp2_with fail;refine(dN _ _ _ _ _ hr5 (Hr1.out.below hB5)).mono ?_;rintro e w6 ⟨rfl,hb6⟩;have hB6:=hB5.trans (hb6.mono hB5.size);have hq6:=hq5.belowTo hb6;have k5:=hq6.cell j (by rw[Hso.out];omega);rw[zcj] at k5;have k6:=hq6.free j;have Hq6:=zdC hq6;have HB6:=zdC hB6;by_cases hc:x<val 10 (o.set j d)*val 10 (o.set j d)
     ·have c2:decide (dB (val 10 (o.set j d)*val 10 (o.set j d)) x>0)=true:=by rw[jO hc];rfl
      obtain⟨d,rfl⟩: ∃c,d=c+1:=⟨d - 1,by omega⟩;have Hc:=zdC hc;have hd9:=Hd2.out.1;clear hq6 hB6 hq5 hB5 hc;go_wp2
      go_roundw
      case rel=>
       have h7:=Hq6.out.set j (by rw[Hso.out];omega) d (u:= .int .i64 (d:Int)) rfl;rw[List.set_set] at h7;exact⟨d,h7,HB6.out.setCell (za0 _) _,Hd2.out.step HO.out (by omega) Hc.out⟩
      case measure=>
       have h7:=Hq6.out.set j (by rw[Hso.out];omega) d (u:= .int .i64 (d:Int)) rfl;have kc:=h7.cell j (by rw[zci,Hso.out];omega);rw[zcj] at kc;rw[Hkm.out];unfold aww;rw[kc];show (d:Int).toNat<d+1;omega
     ·have c2:decide (dB (val 10 (o.set j d)*val 10 (o.set j d)) x>0)=false:=by
       rcases zah (val 10 (o.set j d)*val 10 (o.set j d)) x with h|h
       ·rw[jN h];rfl
       ·rw[BT (by omega)];rfl
      have Hc:=zdC hc;clear hq6 hB6 hq5 hB5 hc;go_wp2
      go_roundw
      case rel=>exact⟨j,_,by go_num,Hq6.out,HB6.out,Hst.out (.inr (Nat.le_of_not_lt Hc.out)),by omega⟩
      case measure=>simp[intOf]
theorem awm (a:zdH) (w:World) (hsa:a.size<=maxLen):
 Calls prog 188 #[.string a] w λe w'=>e= .returned (vSE (kq a))/\Below w.heap.size w w':=by
 by_cases ha:vS a=true
 ·have hv:vld a.data.toList=true:=ha;cases hn:bf a.data.toList with
  |false=>
   have e:kq a=(ofI (pz (nS a).natAbs),0):=by unfold kq;rw[ha,zdp (G1 hn)];rfl
   rw[e];exact awl a _ w rfl hv hn hsa (aM (br ha)) (br ha)
  |true=>
   have e:kq a=(ByteArray.empty,30):=by unfold kq;rw[ha,zds (show ¬0<=nS a by have:=G0 ha hn;omega)];rfl
   rw[e];have h0:0<a.size:=by
    apply Nat.pos_of_ne_zero;intro e;have:a.data.toList= []:=zau (by rw[bj];exact e);rw[this] at hv;exact absurd hv (by decide)
   have h45:((a[0].toNat:Int)==45)=true:=by
    have h1:a.data.toList.head? =some 45:=zdu hn;rw[zbX,kE a 0 h0] at h1;rw[zbk h1];rfl
   clear ha hn e;go_enter func188,ntmps188;go_wp2_with (go_at_call 177;refine(au _ _ (by assumption)).mono ?_;rintro e w0 ⟨rfl,rfl⟩)
   go_ret2
   exact⟨rfl,zdD _ _⟩
 ·have hv:vld a.data.toList=false:=by simpa [vS] using ha
  have e:kq a=(ByteArray.empty,30):=by unfold kq;rw[show vS a=false by simpa using ha];rfl
  rw[e];clear ha e;go_enter func188,ntmps188;go_wp2_with (go_at_call 177;refine(au _ _ (by assumption)).mono ?_;rintro e w0 ⟨rfl,rfl⟩)
  go_ret2
  exact⟨rfl,zdD _ _⟩
end Go.Proofs.YtojcellmcbnmeaaGreatDoor
namespace Go.Proofs.YtojcellmcbnmeaaGreatDoor
open Go.Proofs.Tryz
open Go Go.RowKit Go.Sy Yk
def BAt (b g:Nat) (t:zdH) (w:World):Prop:=
 ∃p v,(p= .pointer none\/p= .pointer (some ⟨b,0,none⟩))/\w.heap[b]? =some (.cells #[p,v] 107 (0,0))/\w.ownsRowF 0 5 1 v t.size (Lib.strCells t)/\v.ownBlock≠some b/\g=v.ownBlock.getD b/\g<w.heap.size/\ ∀es c,w.heap[g]? ≠some (.map es c)
variable {w:World} {n:Nat} {xs:zdL}
theorem ac2 {v:Value} (h:w.ownsRowF 0 5 1 v n xs) {g:Nat} (hg:v.ownBlock=some g): ∃H J,w.heap[g]? =some (.cells H 5 J):=by
 rcases h.2 with ⟨rfl,_⟩|⟨g',cap,H,J,rfl,_,h1,_⟩
 ·cases hg
 ·simp only[Value.ownBlock,za1] at hg;subst hg;exact⟨H,J,h1⟩
theorem agS {b:Nat} {t:zdH} {p v:Value} (hp:p= .pointer none\/p= .pointer (some ⟨b,0,none⟩)) (h1:w.heap[b]? =some (.cells #[p,v] 107 (0,0))) (h2:w.ownsRowF 0 5 1 v t.size (Lib.strCells t)) (h3:v.ownBlock≠some b):BAt b (v.ownBlock.getD b) t w:=by
 refine⟨p,v,hp,h1,h2,h3,rfl, ?_, ?_⟩
 ·cases hv:v.ownBlock with
  |none=>exact(zaq.1 h1).1
  |some g=>obtain⟨H,J,hg⟩:=ac2 h2 hv;exact(zaq.1 hg).1
 ·intro es c;cases hv:v.ownBlock with
  |none=>show w.heap[b]? ≠_;rw[h1];simp
  |some g=>obtain⟨H,J,hg⟩:=ac2 h2 hv;show w.heap[g]? ≠_;rw[hg];simp
theorem adH (t s:zdH):Lib.strCells (t++s)=Lib.strCells t++Lib.strCells s:=by
 simp[Lib.strCells_eq,Lib.byteCells_append]
theorem afX {B:Nat} {e:TypeId} {v:Value} (h:w.ownsRowF B e 1 v n xs):w.ownsRowF 0 e 1 v n xs:=by
 refine⟨h.1, ?_⟩;rcases h.2 with h|⟨g,cap,H,J,h1,_,h2⟩
 ·exact .inl h
 ·exact .inr ⟨g,cap,H,J,h1,zaA _,h2⟩
variable {P:Program}
theorem agT (w:World) (t u ty e:TypeId) (i:TypeInfo) (ht:P.underlying t=some (.slice e)) (hu:P.underlying u=some .string) (hi:P.info? e=some i) (hz:i.zero=some (.int .u8 0)) (H:i.size=1) (V:i.bytes=1)
 (v:Value) (n:Nat) (xs:zdL) (J:w.ownsRowF 0 e 1 v n xs) (s:zdH) (n0:n+s.size<=1099511627776):
 ∃N w',(Builtin.append_ #[t,u] ty #[v, .string s]).run P w= .ok N w'/\w'.ownsRowF 0 e 1 N (n+s.size) (xs++Lib.strCells s)/\w.grownBy w' v.ownBlock/\(N.ownBlock=v.ownBlock\/ ∃g',N.ownBlock=some g'/\w.heap.size<=g'):=by
 rcases J.2 with ⟨rfl,rfl⟩|⟨g,cap,a0,fz,rfl,o0,hg,g0,q0,p0,e0,i0⟩
 ·obtain⟨N,w',h1,h2,h3,_⟩:=Lib.run_append_own_stringF (P:=P) w w.heap.size t u ty e i ht hu hi hz H V (.slice none 0 0) 0 xs ⟨J.1, .inl ⟨rfl,rfl⟩⟩ s (by unfold maxLen;omega) (by omega) (za0 _);refine⟨N,w',h1,afX h2,h3, ?_⟩;rcases h2.2 with ⟨rfl,_⟩|⟨g',_,_,_,rfl,hb,_⟩
  ·exact .inl rfl
  ·exact .inr ⟨g',rfl,hb⟩
 ·obtain⟨N,w',h1,h2,h3,_⟩:=Lib.run_append_own_stringF (P:=P) w 0 t u ty e i ht hu hi hz H V _ n xs J s (by unfold maxLen;omega) (by omega) (zaA _);refine⟨N,w',h1,h2,h3, ?_⟩;by_cases Z:n+s.size<=cap
  ·have Y:=Lib.run_append_room_stringF (P:=P) w t u ty e i ht hu hi H g n cap a0 fz hg (by simpa using g0) s Z (by rw[e0];omega);rw[h1] at Y;simp only[Result.ok.injEq] at Y;rw[Y.1];exact .inl rfl
  ·have m0:xs.length=n:=by simpa using J.1
   have holds: ∀j u,xs[j]? =some u->w.cell? ((⟨g,0,none⟩:Addr).add j)=some u:=J.cells (g:=g) rfl;have Y:=Lib.run_append_grow_string (P:=P) w t u ty e i (.int .u8 0) ht hu hi hz ⟨g,0,none⟩ n cap xs (by rw[H];simpa using m0) holds s (by omega) (by omega) (by rw[V];exact growslice_fits (by omega) (by omega));rw[h1] at Y;simp only[Result.ok.injEq] at Y;rw[Y.1];exact .inr ⟨_,rfl,za0 _⟩
theorem aid {ops:zdP} {rest:List Oper} {o:Oper} {a:Act} {Q:zdW} (Z:o.guard=none) (sl x:Operand) (t u:TypeId)
 (ho:o.op= .call {callee:= .builtin .append,args:= #[sl,x],argTypes:= #[t,u]}) (e:TypeId) (i:TypeInfo) (ht:P.underlying t=some (.slice e)) (hu:P.underlying u=some .string) (hi:P.info? e=some i) (hz:i.zero=some (.int .u8 0)) (H:i.size=1) (Y:i.bytes=1)
 (v:Value) (n:Nat) (xs:zdL) (hs:a.eval sl=v) (V:w.ownsRowF 0 e 1 v n xs) (s:zdH) (hx:a.eval x= .string s) (N:n+s.size<=1099511627776)
 (h: ∀J w',w'.ownsRowF 0 e 1 J (n+s.size) (xs++Lib.strCells s)->w.grownBy w' v.ownBlock->(J.ownBlock=v.ownBlock\/ ∃g',J.ownBlock=some g'/\w.heap.size<=g')->wpList P ops Q rest (a.put o.dst J) w'):wpList P ops Q (o::rest) a w:=by
 refine wpList_plain Z λK hK=> ?_;obtain⟨J,w',hr,h2,h3,h4⟩:=agT (P:=P) w t u o.type e i ht hu hi hz H Y v n xs V s N;unfold Oper.wp execOp;simp only[ho,resolve,invoke,builtin,zdF,zdG,zdE,List.map_toArray,zaK,zc5,hs,hx,hr];exact hK _ _ (h J w' h2 h3 h4)
theorem afY (b g:Nat) (t s:zdH) (w:World) (h:BAt b g t w) (hlen:t.size+s.size<=1099511627776):
 Calls prog 67 #[.pointer (some ⟨b,0,none⟩), .string s] w λe w'=>e= .returned (.tuple #[.int .i64 s.size, .nilIface])/\ ∃g',BAt b g' (t++s) w'/\(g'=g\/w.heap.size<=g')/\Kept2 b g w w':=by
 obtain⟨i0,hi,hz0,hz1,hz2⟩:=info_parts Ej;obtain⟨p,v,hp,hbk0,hown0,hne,rfl,hgl,_⟩:=h;have hcc:Calls prog 143 #[.pointer (some ⟨b,0,none⟩)] w λe w'=>e= .returned (.tuple #[])/\w'.heap[b]? =some (.cells #[.pointer (some ⟨b,0,none⟩),v] 107 (0,0))/\w'.ownsRowF 0 5 1 v t.size (Lib.strCells t)/\(∀k,k≠b->w'.heap[k]? =w.heap[k]?)/\w'.heap.size=w.heap.size/\w'.os=w.os/\w'.tape=w.tape/\w'.output=w.output:=by
  rcases hp with rfl|rfl
  ·refine(qL b w (by rw[Lib.cell_of_heap hbk0];rfl) (by simp[World.shape?,hbk0]) (Lib.frozen_of_heap hbk0 0)).mono ?_;rintro e w' ⟨rfl,rfl⟩;have hk: ∀k,k≠b->(w.setCell ⟨b,0,none⟩ (.pointer (some ⟨b,0,none⟩))).heap[k]? =w.heap[k]? :=λk hk=>Below.heap_setCell _ _ _ _ hk;refine⟨rfl,by simp[World.setCell,zdn,hbk0], ?_,hk,by simp[World.setCell],rfl,rfl,rfl⟩;exact hown0.kept (row:=some b) ⟨rfl,rfl,rfl,by simp[World.setCell],λk _ hk'=>hk k (λe=>hk' (by simp[e]))⟩ (Or.inr hne)
  ·refine(tc b w (by rw[Lib.cell_of_heap hbk0];rfl)).mono ?_;rintro e w' ⟨rfl,rfl⟩;exact⟨rfl,hbk0,hown0,λ_ _=>rfl,rfl,rfl,rfl,rfl⟩
 go_enter func67,ntmps67;go_wp2_with (go_at_call 143;refine hcc.mono ?_);rintro e w1 ⟨rfl,hbk,hown,hoth,hs1,ho1,ho2,ho3⟩;have c0:w1.cell? ⟨b,0,none⟩=some (.pointer (some ⟨b,0,none⟩)):=by rw[Lib.cell_of_heap hbk];rfl
 have c1:w1.cell? ⟨b,1,none⟩=some v:=by rw[Lib.cell_of_heap hbk];rfl
 go_wp2_with (at_builtin;refine aid rfl _ _ 105 9 rfl 5 i0 underlying105 underlying9 hi hz0 hz1 hz2 _ _ _ rfl hown s rfl hlen ?_);intro v' w2 hown' hgrow hwhere;have hlt:b<w1.heap.size:=(zaq.1 hbk).1;have hb2:w2.heap[b]? =some (.cells #[.pointer (some ⟨b,0,none⟩),v] 107 (0,0)):=by
  rw[hgrow.block b hlt (λe=>hne e.symm)];exact hbk
 have d0:w2.cell? ⟨b,0,none⟩=some (.pointer (some ⟨b,0,none⟩)):=by rw[Lib.cell_of_heap hb2];rfl
 have d1:w2.cell? ⟨b,1,none⟩=some v:=by rw[Lib.cell_of_heap hb2];rfl
 have f1:w2.frozen? ⟨b,1,none⟩=false:=Lib.frozen_of_heap hb2 1;obtain⟨ao,n',cap,rfl⟩: ∃ao n' cap,v'= .slice ao n' cap:=by
  rcases hown'.2 with ⟨hv,_⟩|⟨g,cap,cur,fz,hv,_⟩
  ·exact⟨_,_,_,hv⟩
  ·exact⟨_,_,_,hv⟩
 go_wp2
 go_ret2
 have hne':=Lib.ownBlock_neF hown' hb2 (by decide);have hown2:(w2.setCell ⟨b,1,none⟩ (.slice ao n' cap)).ownsRowF 0 5 1 (.slice ao n' cap) (t.size+s.size) (Lib.strCells t++Lib.strCells s):=
  hown'.kept (row:=some b) ⟨rfl,rfl,rfl,by simp[World.setCell],λk _ hk'=>Below.heap_setCell _ _ _ _ (λe=>hk' (by simp[e]))⟩ (Or.inr hne')
 have hsz:(t++s).size=t.size+s.size:=ByteArray.size_append;refine⟨rfl,(Value.slice ao n' cap).ownBlock.getD b,agS (p:= .pointer (some ⟨b,0,none⟩)) (.inr rfl) ?_ (by rw[hsz,adH t s];exact hown2) hne', ?_, ?_⟩
 ·simp[World.setCell,zdn,hb2]
 ·rcases hwhere with h|⟨g',h,h2⟩
  ·left;rw[h]
  ·right;rw[h];first|exact h2|(rw[<-hs1];exact h2)
 ·refine⟨?_, ?_, ?_, ?_,λk hk h1 h2=> ?_⟩
  ·exact hgrow.os.trans ho1
  ·exact hgrow.tape.trans ho2
  ·exact hgrow.output.trans ho3
  ·rw[<-hs1];simp[World.setCell];exact hgrow.size
  ·rw[Below.heap_setCell _ _ _ _ h1,hgrow.block k (by omega) (λe=>h2 (by rw[<-e];rfl)),hoth k h1]
theorem aie (b g:Nat) (t:zdH) (w:World) (h:BAt b g t w) (h1:1<=t.size):
 Calls prog 71 #[.pointer (some ⟨b,0,none⟩)] w λe w'=>e= .returned (.string t)/\Kept2 b g w w':=by
 obtain⟨p,v,hp,hbk,hown,hne,rfl,hgl,_⟩:=h;obtain⟨l,hl⟩: ∃l:List UInt8,t=⟨l.toArray⟩:=⟨t.data.toList,by simp⟩;subst hl;have hls:(⟨l.toArray⟩:zdH).size=l.length:=by simp[ByteArray.size]
 rw[hls] at hown h1;have hl0:l≠ []:=by intro e;subst e;simp at h1
 obtain⟨g,cap,cur,fz,rfl,_,hg,hfz,hnc,hcm,hcs,htake⟩: ∃g cap cur fz,v= .slice (some ⟨g,0,none⟩) l.length cap/\0<=g/\w.heap[g]? =some (.cells cur 5 fz)/\fz.2<=l.length*1/\l.length<=cap/\cap<=maxLen/\cur.size=cap*1/\cur.toList.take (l.length*1)=Lib.strCells ⟨l.toArray⟩:=by
  rcases hown.2 with ⟨_,hz⟩|⟨g,cap,cur,fz,hv,r⟩
  ·omega
  ·exact⟨g,cap,cur,fz,hv,r⟩
 have hbc:Lib.strCells ⟨l.toArray⟩=Lib.byteCells l:=by rw[Lib.strCells_eq]
 rw[hbc] at hown;have c1:w.drew.cell? ⟨b,1,none⟩=some (.slice (some ⟨g,0,none⟩) l.length cap):=by
  have:w.drew.heap[b]? =some (.cells #[p, .slice (some ⟨g,0,none⟩) l.length cap] 107 (0,0)):=hbk;rw[Lib.cell_of_heap this];rfl
 have hSD:(Builtin.unsafeSliceData_ #[105] 188 #[.slice (some ⟨g,0,none⟩) l.length cap]).run prog w.drew= .ok (.pointer (some ⟨g,0,none⟩)) w.drew:=
  Lib.run_unsafeSliceData_row _ _ _ _ _ _ (by omega)
 have hUS:(Builtin.unsafeString_ #[188,3] 9 #[.pointer (some ⟨g,0,none⟩), .int .i64 l.length]).run prog w.drew= .ok (.string ⟨l.toArray⟩) (w.drew.freeze ⟨g,0,none⟩ l.length):=by
  refine Lib.run_unsafeString_row w.drew 188 3 9 5 underlying188 (by kernel_rfl) g cur.size (by have hg':w.drew.heap[g]? =some (.cells cur 5 fz):=hg;simp[World.shape?,hg']) l hl0 (by omega) (by unfold maxLen at hcm;omega) ?_;intro j x hx;have:=hown.cells (g:=g) rfl j (.int .u8 x.toNat) (by simp[Lib.byteCells,hx]);exact this
 have hk:Kept2 b g w (w.drew.freeze ⟨g,0,none⟩ l.length):=by
  refine⟨?_, ?_, ?_, ?_,λk _ _ h2=> ?_⟩
  ·unfold World.freeze;split<;>rfl
  ·unfold World.freeze;split<;>rfl
  ·unfold World.freeze;split<;>rfl
  ·unfold World.freeze;split
   ·exact za0 _
   ·show w.heap.size<=(w.heap.modify g _).size;rw[Array.size_modify];exact za0 _
  ·unfold World.freeze;split
   ·rfl
   ·show (w.heap.modify g _)[k]? =_;rw[zdn,if_neg (Ne.symm h2)]
 have mixed:prog.follows .mixedOrders=true:=by kernel_rfl
 go_enter func71,ntmps71;go_wp2
 go_region_o
 all_goals (go_wp2;go_ret;exact⟨rfl,hk⟩)
def bdS:BD:=⟨67,71,107⟩
def afZ (f:FuncId):zdV:=λg k=>bif Nat.beq f g&&Nat.beq k 4294967295 then some (λ_=>{X:=Unit,inv:=λ_=>True,tm:=λ_=> [],mu:=λ_=>0,bd:=some bdS}) else none
theorem vK:ahr prog bdS:=⟨BAt,{
 zero:=by kernel_rfl
 fresh:=λw=>by
  have J:(w.alloc (.cells #[.pointer none, .slice none 0 0] 107)).heap[w.heap.size]? =some (.cells #[.pointer none, .slice none 0 0] 107 (0,0)):=by show (w.heap.push _)[w.heap.size]? =_;simp
  exact agS (p:= .pointer none) (v:= .slice none 0 0) (.inl rfl) J ⟨rfl, .inl ⟨rfl,rfl⟩⟩ (by simp[Value.ownBlock])
 keep:=λb g t w w' h h1 h2=>by
  obtain⟨p,v,hp,k1,k2,k3,rfl,N,V⟩:=h;refine⟨p,v,hp,by rw[h1];exact k1, ?_,k3,rfl, ?_,λes c=>by rw[h2];exact V es c⟩
  ·refine⟨k2.1, ?_⟩;rcases k2.2 with h|⟨g,cap,H,fz,rfl,e1,Y,Z⟩
   ·exact .inl h
   ·exact .inr ⟨g,cap,H,fz,rfl,e1,by rw[<-Y];exact h2,Z⟩
  ·rcases zah (v.ownBlock.getD b) w'.heap.size with h|h
   ·exact h
   ·rw[zcC h] at h2;have:w.heap[v.ownBlock.getD b]? =some w.heap[v.ownBlock.getD b]:=by simp[N]
    rw[this] at h2;cases h2
 lt:=λb g t w h=>by
  obtain⟨p,v,hp,k1,k2,k3,rfl,N,V⟩:=h;exact⟨(zaq.1 k1).1,N,λes c=>⟨by rw[k1];simp,V es c⟩⟩
 write:=afY
 str:=aie
 cw:=call67
 cs:=call71}⟩
def gF:List (FuncId×Ctr):=(104,k2 cR cI cRE (λr _=>uzR r) acv)::(105,k2 cR cI cRE (λr _=>uzR r) rUp)::gV2
theorem ap7:GEk gF:=(aiH.cons (λa W H=>akj H.1) call105).cons (λa W H=>ahO H.1) call104
theorem ap8 {B:Base} {F:FuncId}:VU prog B F (λ_ _ _=>none):=λbl β w nx args C _ _ _ _ e=>by cases e
def gmF (a:Addr):zdX:= [(93,ai3 a),(93+1073741824,λ_ _ _=>none),(240,adD λx m=>decide (b9 x m<0)),(241,adD λx m=>decide (b9 x m>0))]
theorem apq {a:Addr}:MEk a (gmF a):=(((MEk.nil.cons (adq (ahJ a))).cons (adq (ahI a))).cons λB hB=>ap8).cons λB hB=>ahG hB
def apA (a:Addr) (K:zdR):Prop:=U9 (af (decide (a=a)&&true&&true) (K (cIE.enc R6)))
def vvT (a:Addr) (x y:Iv) (K:zdR) (R:Prop):Prop:=af (uzI x) (ag (!vI x) (apA a K) (af (uzI y) (ag (!vI y) (apA a K) (U9 R))))
def ofT (a:Addr) (f:RS->RS->RS×Int) (p q:RS) (K:zdR) (R:Prop):Prop:=af (uzR p&&uzR q) (ag ((f p q).2==0) (U9 R) (apA a K))
def aq0 (a:Addr) (f:RS->RS->RS×Int) (p q r s:RS) (K:zdR):Prop:=ofT a f p q K (ofT a f r s K (K (cIE.enc (((f p q).1,(f r s).1),0))))
def apR (a:Addr) (f:RS->RS->RS×Int) (x y:Iv) (K:zdR):Prop:=
 ofT a f x.1 y.1 K (ofT a f x.1 y.2 K (ofT a f x.2 y.1 K (ofT a f x.2 y.2 K (af (ahS (f x.1 y.1).1 (f x.1 y.2).1 (f x.2 y.1).1 (f x.2 y.2).1) (U9 (af (ahS (f x.1 y.1).1 (f x.1 y.2).1 (f x.2 y.1).1 (f x.2 y.2).1) (U9
  (K (cIE.enc ((ajg (λx m=>decide (b9 x m<0)) (f x.1 y.1).1 (f x.1 y.2).1 (f x.2 y.1).1 (f x.2 y.2).1,ajg (λx m=>decide (b9 x m>0)) (f x.1 y.1).1 (f x.1 y.2).1 (f x.2 y.1).1 (f x.2 y.2).1),0))))))))))
theorem aqC (a:Addr) (x y:Iv) (K:zdR):acb a gF (gmF a) (afZ 87) 8 25 [cIv.enc x,cIv.enc y] K=vvT a x y K (aq0 a fZ x.1 y.1 x.2 y.2 K):=by kernel_rfl
theorem aqD (a:Addr) (x y:Iv) (K:zdR):acb a gF (gmF a) (afZ 89) 8 26 [cIv.enc x,cIv.enc y] K=vvT a x y K (aq0 a iF x.1 y.2 x.2 y.1 K):=by kernel_rfl
theorem aqE (a:Addr) (x y:Iv) (K:zdR):acb a gF (gmF a) (afZ 91) 8 27 [cIv.enc x,cIv.enc y] K=vvT a x y K (apR a ale x y K):=by kernel_rfl
theorem aqF (a:Addr) (x y:Iv) (K:zdR):acb a gF (gmF a) (afZ 91) 8 28 [cIv.enc x,cIv.enc y] K=vvT a x y K (af (uzI y&&uzR zR) (ag (!auf y zR) (U9 (apR a cA x y K)) (apA a K))):=by kernel_rfl
def aqW (a:Addr) (x:Iv) (p:Int) (K:zdR):Prop:=af (uzI x) (ag (!vI x) (apA a K) (U9 (af (uzR x.1) (ag ((acv x.1 p).2==0) (U9 (af (uzR x.2) (ag ((rUp x.2 p).2==0) (U9 (K (cIE.enc (((acv x.1 p).1,(rUp x.2 p).1),0)))) (apA a K)))) (apA a K)))))
theorem aqG (a:Addr) (x:Iv) (p:Int) (K:zdR):acb a gF (gmF a) (afZ 103) 8 33 [cIv.enc x,cI.enc p] K=aqW a x p K:=by kernel_rfl
def akl (cs:zdK):Iv:=match cs with
 | [.val (.string a), .val (.string b), .val (.string c), .val (.string d)]=>((a,b),(c,d))
 |_=>noI
def eI:El Iv:={sz:=4,sv:=yl,of:=akl,d:=noI,rt:=λ_=>rfl,ids:=λ_=>rfl,len:=λ_=>rfl,one:=by decide}
def afl (I:Int->Prop) (N:Int):zdV:=λf k=>bif Nat.beq f 85&&Nat.beq k 2 then some (λA=>{X:=Int,inv:=I,tm:=λi=> [(8, .val (.int .i64 i))],mu:=λi=>(N - i).toNat,keep:= [0,1,7]}) else none
theorem ah3 (a:Addr) (I:Int->Prop) (N:Int) (l:List Iv) (Q:zdR):XC a gV1 [] (afl I N) 5 23 [.slc 0 0 l.length, .fn (.func 21) [] []] [eI.old l] (Go.Sy.okK λr _ _ _=>Q r)=
 LH I N (.slc 0 0 l.length) (.fn (.func 21) [] []) l.length (λz Q=>af (uzI (eI.nth l (0+z.toNat))) (Q (!vI (eI.nth l (0+z.toNat))))) (λz=>Q (cB.enc (decide (z≥0)))):=by kernel_rfl
def agK:MCtr:=λbl _ args=>match args with
 | [s, .fn (.func g) [] []]=>bif Nat.beq g 21 then(match vW bl 4 s with
   |some (b,_,n,c)=>some {X:=Unit,pre:=b&&(Nat.ble n 1000000&&eI.good uzI n c),spec:=λ_=>True,out:=λ_=>cB.enc (!(eI.list n c).all vI),ex:=λ_=>⟨(),trivial⟩}
   |none=>none) else none
 |_=>none
variable {a:Addr}
theorem agL: ∀B:Base,GlobEB a B->VU prog B 23 agK:=agE ae9 MEk.nil λbl nx args C J hp=>by
 unfold agK at J;split at J
 ·rename_i s g;cases hg:Nat.beq g 21 with
  |false=>rw[hg] at J;cases J
  |true=>
   obtain rfl:=zab hg;rw[hg,zdr] at J;split at J
   ·rename_i b o n c Y;simp only[za1] at J;subst J;simp only[za2] at hp;obtain⟨rfl,V,H⟩:=hp;have N:(eI.list n c).length<2^62:=by rw[El.list_length];have:=zak V;omega
    obtain⟨h1,h2⟩:=cq (f:=rnF [o] [] nx) Y H;refine⟨[o], [eI.old (eI.list n c)], [.slc 0 0 (eI.list n c).length, .fn (.func 21) [] []],afl (λi=>0<=i/\i<=(eI.list n c).length/\be (λu=> !vI u) (eI.list n c) 0=be (λu=> !vI u) ((eI.list n c).drop i.toNat) i) (eI.list n c).length,5,aw h1 trivial,bH (by simp[cN,El.old]),cd (by simp[El.old,BK.map]), ?_, ?_⟩
    ·simp only[SV.rns,h2 0 rfl];rfl
    ·refine kbE () trivial rfl (r:=cB.enc (!(eI.list n c).all vI)) rfl rfl rfl rfl (by simp[cN,El.old]) rfl ?_;rw[ah3];refine pJ noI N (λz Q h0 h1 h=> ?_) ?_
     ·rw[za7];have:=El.good_list H _ (bw (d:=noI) (l:=eI.list n c) (e:=z.toNat) (by omega));exact ac this h
     ·rw[pI _ _ _ (zat _),CP]
   ·cases J
 ·cases J
def akn:zdX:= [(18,pN),(23,agK)]
theorem ah4:MEk a akn:=(MEk.nil.cons agL).cons λB hB=>lZ B hB.gU
abbrev EI:=Int×List Iv
abbrev PWI:=Int×Iv
def aji (A:AS):Iv:=match A.tm 7 with
 | .v (.slc i _ _)=>match A.bl i,Bh A (kA A 10) 24 with
   |some B, .val (.int _ l)=>akl (B.get (0+l.toNat))
   |_,_=>noI
 |_=>noI
def agM (I:EI->Prop) (N:Int) (J:Iv->Int->PWI->Prop):zdV:=λf k=>bif Nat.beq f 34 then(bif Nat.beq k 4 then some (λA=>{X:=EI,inv:=I,tm:=λx=> [(19, .val (.int .i64 x.1)),(7, .slc A.nx 0 x.2.length)],gr:= [{src:= .slot 7,sz:=4,n:=λx=>x.2.length,get:=λx=>eI.get x.2}],cleanG:=λg hg x e=>by simp at hg;subst hg;exact eI.ids _,mu:=λx=>(N - x.1).toNat,keep:= [2,3,4,6,8,17,18]})
 else bif Nat.beq k 23 then some (λA=>{X:=PWI,inv:=J (aji A) (P7 A 119),tm:=λx=> [(120, .val (.int .i64 x.1))],st:= [(kA A 11,λx=>yl x.2)],mu:=λx=>(4 - x.1).toNat,keep:= [2,3,4,6,7,8,10,11,17,18,19,119]}) else none) else none
def agO:SV:= .tup [.agg (yl noI), .val (.int .i64 90)]
def ako (n:Nat) (K:Prop):Prop:=af (decide (0<1)&&decide (0+1<=1)&&decide (n<=n)&&decide ((n+1)*64<=140737488355328)&&true) K
def akp (ni nn:Nat) (Q:Prop):Prop:=tvE (.slc 2 0 ni)/\cg 30/\cg 31/\cg 32/\cg 38/\tvE (.slc 1 0 nn)/\tvE (cI.enc (nn:Int))/\Q
def akq (q ni nn:Nat) (p:Int) (n:Nat) (us:zdN) (z:EI):Prop:=
 (TV.v (cI.enc p)=TV.v (cI.enc z.1)/\TV.v (.slc q 0 n)=TV.v (.slc q 0 z.2.length)/\akp ni nn True)/\(True/\(True/\(af (Nat.beq 4 4&&decide (z.2.length<=n)) (∀e,e<z.2.length->us e=eI.get z.2 e)/\True)))
def ajj (ni nn:Nat) (i:Int) (n:Nat) (m:Int) (p:Int) (v:Iv) (z:PWI):Prop:=
 (TV.v (cI.enc p)=TV.v (cI.enc z.1)/\tvE (.slc 2 0 ni)/\cg 30/\cg 31/\cg 32/\tvE (.slc 44 0 n)/\cg 38/\cg 48/\cg 50/\tvE (.slc 1 0 nn)/\tvE (cI.enc (nn:Int))/\tvE (cI.enc i)/\tvE (cI.enc m)/\True)/\(True/\((yl v=yl z.2/\True)/\True))
section
variable {a:Addr} {K:zdR} {R:Prop}
theorem F2 (k:K (cIE.enc R6)):apA a K:=λ_ _=>ac (by rw[zdp (rfl:a=a)];rfl) k
variable {x y:Iv}
theorem apv (J:uzI x=true) (N:uzI y=true) (k:(vI x&&vI y)=false->K (cIE.enc R6)) (r:(vI x&&vI y)=true->R):vvT a x y K R:=by
 refine ac J (ce (λh=>F2 (k ?_)) (λh=>ac N (ce (λH=>F2 (k ?_)) (λH=>s8 (r ?_)))))
 ·rw[show vI x=false by simpa using h];rfl
 ·rw[show vI y=false by simpa using H,Bool.and_false]
 ·rw[show vI x=true by simpa using h,show vI y=true by simpa using H];rfl
variable {f:RS->RS->RS×Int} {p q:RS}
theorem apl (hp:uzR p=true) (hq:uzR q=true) (r:(f p q).2=0->R) (k:((f p q).2==0)=false->K (cIE.enc R6)):ofT a f p q K R:=
 ac (by rw[hp,hq];rfl) (ce (λh=>s8 (r (by simpa using h))) (λh=>F2 (k h)))
theorem apS {r s:RS} (hp:uzR p=true) (hq:uzR q=true) (J:uzR r=true) (N:uzR s=true) (k:K (cIE.enc (ad3 (f p q) (f r s)))):aq0 a f p q r s K:=by
 unfold ad3 at k;refine apl hp hq (λe1=>apl J N (λH=> ?_) (λH=> ?_)) (λe1=> ?_)
 ·rw[e1,H] at k;exact k
 ·rw[e1,H] at k;exact k
 ·rw[e1] at k;exact k
theorem apB (N: ∀a b,uzR (f a b).1=true) (hx:uzI x=true) (hy:uzI y=true) (k:K (cIE.enc (ae6 (f x.1 y.1) (f x.1 y.2) (f x.2 y.1) (f x.2 y.2)))):apR a f x y K:=by
 obtain⟨V,Y⟩:=alu hx;obtain⟨Z,y2⟩:=alu hy;unfold ae6 at k;unfold apR;rw[ahX (N _ _) (N _ _) (N _ _) (N _ _),afk,afk,ad5,ad6];refine apl V Z (λe1=>apl V y2 (λH=>apl Y Z (λJ=>apl Y y2 (λe4=>s8 (s8 ?_)) (λe4=> ?_)) (λJ=> ?_)) (λH=> ?_)) (λe1=> ?_)
 ·rw[e1,H,J,e4] at k;exact k
 ·rw[e1,H,J,e4] at k;exact k
 ·rw[e1,H,J] at k;exact k
 ·rw[e1,H] at k;exact k
 ·rw[e1] at k;exact k
end
abbrev kIF (f:Iv->Iv->Iv×Int):Ctr:=k2 cIv cIv cIE (λx y=>uzI x&&uzI y) f
abbrev arj (f:Iv->Int->Iv×Int):Ctr:=k2 cIv cI cIE (λx _=>uzI x) f
variable {a:Addr} {W:World}
theorem aqH (N:GlobE a W):CtrOK prog W 25 (kIF agy):=bC λx y h=>by
 obtain⟨H,J⟩:=vo h;obtain⟨V,Y⟩:=alu H;obtain⟨Z,y2⟩:=alu J;refine l0 ap7 apq N (ann:=afZ 87) (n:=8) de (cIE.ids _) ?_;rw[aqC];exact apv (K:=λr=>r=_) H J (λe=>by unfold agy;rw[e];rfl) (λe=>apS V Z Y y2 (by unfold agy;rw[e];rfl))
theorem aqI (N:GlobE a W):CtrOK prog W 26 (kIF agz):=bC λx y h=>by
 obtain⟨H,J⟩:=vo h;obtain⟨V,Y⟩:=alu H;obtain⟨Z,y2⟩:=alu J;refine l0 ap7 apq N (ann:=afZ 89) (n:=8) de (cIE.ids _) ?_;rw[aqD];exact apv (K:=λr=>r=_) H J (λe=>by unfold agz;rw[e];rfl) (λe=>apS V y2 Y Z (by unfold agz;rw[e];rfl))
theorem aqJ (N:GlobE a W):CtrOK prog W 27 (kIF adC):=bC λx y h=>by
 obtain⟨H,J⟩:=vo h;refine l0 ap7 apq N (ann:=afZ 91) (n:=8) de (cIE.ids _) ?_;rw[aqE];exact apv (K:=λr=>r=_) H J (λe=>by unfold adC;rw[e];rfl) (λe=>apB gI H J (by unfold adC;rw[e];rfl))
theorem aqK (N:GlobE a W):CtrOK prog W 28 (kIF ac7):=bC λx y h=>by
 obtain⟨J,H⟩:=vo h;refine l0 ap7 apq N (ann:=afZ 91) (n:=8) de (cIE.ids _) ?_;rw[aqF];refine apv (K:=λr=>r=_) J H (λe=>by unfold ac7;rw[e];rfl) (λe=>ac (by rw[H,show uzR zR=true by decide];rfl) (ce (λh0=>s8 (apB lY J H ?_)) (λh0=>F2 ?_)))
 ·unfold ac7;rw[e,h0];rfl
 ·unfold ac7;rw[e,show (!auf y zR)=false from h0];rfl
theorem aqL (J:GlobE a W):CtrOK prog W 33 (arj aeA):=bC λx p h=>by
 obtain⟨N,V⟩:=alu h;refine l0 ap7 apq J (ann:=afZ 103) (n:=8) de (cIE.ids _) ?_;rw[aqG];unfold aqW;refine ac h (ce (λhv=>F2 (K:=λr=>r=_) ?_) (λhv=>s8 (ac N (ce (λe1=>s8 (ac V (ce (λH=>s8 ?_) (λH=>F2 (K:=λr=>r=_) ?_)))) (λe1=>F2 (K:=λr=>r=_) ?_)))))
 ·unfold aeA;rw[show vI x=false by simpa using hv];rfl
 ·unfold aeA ad3;rw[show vI x=true by simpa using hv,e1,H];rfl
 ·unfold aeA ad3;rw[show vI x=true by simpa using hv,e1,H];rfl
 ·unfold aeA ad3;rw[show vI x=true by simpa using hv,e1];rfl
def ap9 (r:Iv×Int) (H:Prop) (K:Iv->Prop):Prop:=ag (r.2 !=0) H (K r.1)
def apr (I:EI->Prop) (N:Int) (J:Int) (q ni nn:Nat) (i:Int) (vs:List Iv) (H:Prop) (v:Iv):Prop:=af (uzI v) (ap9 (aeA v J) H λw=>ako vs.length (af (inR .i64 (i+1)) (∃z:EI,I z/\((N - z.1).toNat<(N - i).toNat/\akq q ni nn (i+1) (vs.length+1) (ald (eI.get vs) (λe=>((yl w).drop (e*4)).take 4) vs.length 0) z))))
def apW (vs:List Iv) (x:Nd) (f:Iv->Iv->Iv×Int) (H:Prop) (K:Iv->Prop):Prop:=
 eO vs.length x.l (eO vs.length x.r (af (uzI (mb noI vs (0+x.l.toNat))&&uzI (mb noI vs (0+x.r.toNat))) (ap9 (f (mb noI vs (0+x.l.toNat)) (mb noI vs (0+x.r.toNat))) H K)))
def aqX (J:Iv->Int->PWI->Prop) (ni nn:Nat) (i:Int) (vs:List Iv) (x:Nd) (H:Prop) (Y Z:Iv->Prop):Prop:=
 af (inR .i64 (-x.n)) (∃V:PWI,J (mb noI vs (0+x.l.toNat)) (jH x.n) V/\(ajj ni nn i vs.length (jH x.n) 0 (ptI rI) V/\ ∀z:PWI,J (mb noI vs (0+x.l.toNat)) (jH x.n) z->ag (decide (z.1<jH x.n))
  (eO vs.length x.l (af (uzI z.2&&uzI (mb noI vs (0+x.l.toNat))) (ap9 (adC z.2 (mb noI vs (0+x.l.toNat))) H λw=>af (inR .i64 (z.1+1)) (∃N:PWI,J (mb noI vs (0+x.l.toNat)) (jH x.n) N/\((4 - N.1).toNat<(4 - z.1).toNat/\ajj ni nn i vs.length (jH x.n) (z.1+1) w N)))))
  (ag (decide (x.n<0)) (af (uzI (ptI rI)&&uzI z.2) (ap9 (ac7 (ptI rI) z.2) H Y)) (Z z.2))))
theorem GEk.app {g h:List (FuncId×Ctr)} (hg:GEk g) (hh:GEk h):GEk (g++h):=⟨λa W H p hp=>by
 rcases za8.1 hp with hp|hp
 ·exact hg.all a W H p hp
 ·exact hh.all a W H p hp⟩
theorem ave (H:GlobU W):CtrOK prog W 170 (k1 cS cSI uz kq):=dD λa h β w J=>auI a w (H.1.below J) (zdu h)
def gQ:List (FuncId×Ctr):=(170,k1 cS cSI uz kq)::(168,ai8)::(gI2++gF)
theorem avI:GEk gQ:=((GEk.app (GEk.of PM) ap7).cons (λa W H=>afd) call168).cons (λa W H=>ave H.1) call170
def avB:zdV:=λg k=>bif (Nat.beq g 96||Nat.beq g 98)&&Nat.beq k 4294967295 then some (λ_=>{X:=Unit,inv:=λ_=>True,tm:=λ_=> [],mu:=λ_=>0,bd:=some bdS}) else none
def eu {α:Type} (a:Addr) (K:zdR) (r:α×Int) (R:α->Prop):Prop:=ag (r.2==0) (U9 (R r.1)) (apA a K)
def auV (a:Addr) (K:zdR) (t:zdH) (r:RS) (H:ByteArray->Bool->Prop) (J:ByteArray->Prop):Prop:=
 af (uz2 r.1 t) (eu a K (bM r.1 t) λx=>af (uz2 x t) (eu a K (bM x t) λn=>af (uz2 n r.2) (ag ((dY n r.2).2.2==0) (U9 (af (uz (dY n r.2).1) (eu a K (kq (dY n r.2).1) λm=>
  af (dC (seq (dY n r.2).2.1 ⟨#[48]⟩) (uz2 m m)) (ag (seq (dY n r.2).2.1 ⟨#[48]⟩) (eu a K (bM m m) λs=>H m (seq s (dY n r.2).1)) (J m))))) (apA a K))))
def sqT (a:Addr) (x:Iv) (p:Int) (K:zdR):Prop:=
 af (uzI x) (ag (!vI x) (apA a K) (U9 (ag (bif decide (p≥0) then decide (p<=30) else false) (U9 (af (seq ⟨#[48]⟩ ⟨#[48]⟩&&decide (0<=p)&&decide (p<=30)) (af (decide ((⟨#[49]⟩:zdH).size+(agF p.toNat).size<=9223372036854775807))
  (af (uzR x.1&&uzR zR) (ag (decide (b9 x.1 zR≥0)) (U9 (
    let H:=λl h=>af (uz2 l (acj p)) (eu a K (gX l (acj p)) λu=>af (uz2 h (acj p)) (eu a K (gX h (acj p)) λv=>K (cIE.enc ((u,v),0))))
    let add:=λl h=>af (uz2 h ⟨#[49]⟩) (eu a K (jb h ⟨#[49]⟩) λJ=>H l J)
    let hi:=λl=>auV a K (acj p) x.2 (λh e=>ag (!e) (add l h) (H l h)) (add l)
    auV a K (acj p) x.1 (λl _=>hi l) hi)) (apA a K)))))) (apA a K))))
theorem avC (a:Addr) (x:Iv) (p:Int) (K:zdR):acb a gQ (gmF a) avB 9 31 [cIv.enc x,cI.enc p] K=sqT a x p K:=by kernel_rfl
def aul {α β:Type} (r:α×Int) (k:α->Option β):Option β:=bif r.2==0 then k r.1 else none
def x5 (t:zdH) (r:RS):Option (ByteArray×Bool):=aul (bM r.1 t) λx=>aul (bM x t) λn=>bif (dY n r.2).2.2==0 then aul (kq (dY n r.2).1) λm=>
 bif seq (dY n r.2).2.1 ⟨#[48]⟩ then aul (bM m m) λs=>some (m,seq s (dY n r.2).1) else some (m,false) else none
def auR (t l h:zdH):Option Iv:=aul (gX l t) λu=>aul (gX h t) λv=>some (u,v)
def sqO (t:zdH) (x:Iv):Option Iv:=match x5 t x.1 with
 |none=>none
 |some l=>match x5 t x.2 with
  |none=>none
  |some h=>bif h.2 then auR t l.1 h.1 else aul (jb h.1 ⟨#[49]⟩) (auR t l.1)
def F1 (x:Iv) (p:Int):Bool:=vI x&&(decide (0<=p)&&decide (p<=30))&&decide (b9 x.1 zR≥0)
def sqF (x:Iv) (p:Int):Iv×Int:=match (bif F1 x p then sqO (acj p) x else none) with
 |some v=>(v,0)
 |none=>R6
theorem auW {n:Int} (h:(Yk.chkI n).2=0):(Yk.chkI n).1=ofI n/\vS (ofI n)=true:=by
 unfold Yk.chkI at h ⊢;split at h
 ·rename_i H;rw[if_pos H];exact⟨rfl,gj H⟩
 ·simp at h
variable {b:zdH}
theorem auh {a:zdH} (h:(bM a b).2=0):(vS a=true/\vS b=true)/\vS (bM a b).1=true/\nS (bM a b).1=nS a*nS b:=by
 unfold bM at h ⊢;split at h
 ·rename_i H;rw[if_pos H];obtain⟨h1,h2⟩:=auW h;rw[h1];exact⟨by simpa using H,h2,aI _⟩
 ·simp at h
theorem auX {a:zdH} (h:(jb a b).2=0):vS (jb a b).1=true/\nS (jb a b).1=nS a+nS b:=by
 unfold jb at h ⊢;split at h
 ·rename_i H;rw[if_pos H];obtain⟨h1,h2⟩:=auW h;rw[h1];exact⟨h2,aI _⟩
 ·simp at h
theorem auY {a:zdH} (h:(dY a b).2.2=0):vS a=true/\vS b=true/\(dY a b).1=ofI (nS a / nS b)/\(dY a b).2.1=ofI (nS a%nS b):=by
 unfold dY at h ⊢;split at h
 ·rename_i H;rw[if_pos H];simp only[za2] at H;exact⟨H.1.1,H.1.2,rfl,rfl⟩
 ·simp at h
theorem auJ {a:zdH} (h:(kq a).2=0):vS a=true/\0<=nS a/\vS (kq a).1=true/\nS (kq a).1=pz (nS a).natAbs:=by
 unfold kq at h ⊢;cases H:vS a&&decide (0<=nS a) with
 |false=>rw[H] at h;cases h
 |true=>
  simp only[za2,zdt] at H;exact⟨H.1,H.2,gj (by have:=auv (br H.1);omega),aI _⟩
variable {α β:Type}
theorem at4 {r:α×Int} {k:α->Option β} (h:(r.2==0)=false):aul r k=none:=by unfold aul;rw[h];rfl
theorem qz {r:α×Int} {k:α->Option β} (h:r.2=0):aul r k=k r.1:=by unfold aul;rw[h];rfl
section
variable {a:Addr} {K:zdR}
theorem ro {α:Type} {r:α×Int} {R:α->Prop} (k:(r.2==0)=false->K (cIE.enc R6)) (h:r.2=0->R r.1):eu a K r R:=ce (λe=>s8 (h (by simpa using e))) (λe=>F2 (k e))
variable {t:zdH}
theorem auK {r:RS} {R1:ByteArray->Bool->Prop} {R2:ByteArray->Prop} (Y:uz t=true) (hr:uzR r=true) (hd:0<nS r.2) (k:x5 t r=none->K (cIE.enc R6)) (k1: ∀m e,vS m=true->x5 t r=some (m,e)->R1 m e) (k2: ∀m,vS m=true->x5 t r=some (m,false)->R2 m):auV a K t r R1 R2:=by
 obtain⟨u1,u2⟩:uz r.1=true/\uz r.2=true:=by simpa [uzR] using hr
 unfold x5 at k k1 k2;refine ac (aX u1 Y) (ro (λe=>k (at4 e)) λe1=> ?_);rw[qz e1] at k k1 k2;refine ac (aX (bO (auh e1).2.1) Y) (ro (λe=>k (at4 e)) λV=> ?_);rw[qz V] at k k1 k2;have hn:=(auh V).2.1;generalize (bM (bM r.1 t).1 t).1=n at*
 refine ac (aX (bO hn) u2) (ce (λH=> ?_) (λH=>F2 (k (by rw[H];rfl))));rw[H,zdr] at k k1 k2;obtain⟨d1,d2,d3,d4⟩:=auY (by simpa using H);have Z:=(ai6 d1 d2 hd).1;rw[<-d3] at Z;refine s8 (ac (bO Z) (ro (λe=>k (at4 e)) λe4=> ?_));rw[qz e4] at k k1 k2;have J:=(auJ e4).2.2.1;refine ac (fU (aX (bO J) (bO J))) (ce (λN=> ?_) (λN=> ?_))
 ·rw[N,zdr] at k k1;exact ro (λe=>k (at4 e)) λe6=>k1 _ _ J (qz e6)
 ·rw[N,zdq] at k2;exact k2 _ J rfl
theorem avf {l h:zdH} (H:uz t=true) (N:vS l=true) (hh:vS h=true) (k:auR t l h=none->K (cIE.enc R6)) (k1: ∀v,auR t l h=some v->K (cIE.enc (v,0))):
 af (uz2 l t) (eu a K (gX l t) λu=>af (uz2 h t) (eu a K (gX h t) λv=>K (cIE.enc ((u,v),0)))):=by
 unfold auR at k k1;refine ac (aX (bO N) H) (ro (λe=>k (at4 e)) λe1=> ?_);rw[qz e1] at k k1;exact ac (aX (bO hh) H) (ro (λe=>k (at4 e)) λJ=>k1 _ (qz J))
theorem avt {x:Iv} {p:Int} (hx:uzI x=true) (k:K (cIE.enc (sqF x p))):sqT a x p K:=by
 obtain⟨x1,x2⟩:=alu hx;have V:F1 x p=false->K (cIE.enc R6):=λe=>by unfold sqF at k;rw[e] at k;exact k
 unfold sqT;refine ac hx (ce (λe=>F2 (V ?_)) (λe1=>s8 (ce (λZ=>s8 ?_) (λe=>F2 (V ?_)))))
 ·unfold F1;rw[show vI x=false by simpa using e];rfl
 ·have hp:0<=p/\p<=30:=by
   by_cases h:p≥0
   ·rw[zdp h,zdr] at Z;exact⟨h,zdu Z⟩
   ·rw[zds h] at Z;cases Z
  have hv:vI x=true:=by simpa using e1
  have ht:vS (acj p)=true:=by rw[ahN hp.1];exact afa (by omega)
  obtain⟨v1,v2,_⟩:=ajh.1 hv;have ut:=bO ht;refine ac (by rw[zdp hp.1,zdp hp.2];rfl) (ac (zdp ?_) (ac (by rw[x1];rfl) (ce (λe3=>s8 ?_) (λe=>F2 (V ?_)))))
  ·show 1+(List.replicate p.toNat (48:UInt8)).toArray.size<=_;simp;omega
  ·have ok:F1 x p=true:=by unfold F1;rw[hv,zdp hp.1,zdp hp.2,e3];rfl
   have H: ∀{o:Option Iv},sqO (acj p) x=o->K (cIE.enc (match o with|some v=>(v,0)|none=>R6)):=λ{o} e=>by
    unfold sqF at k;rw[ok,zdr,e] at k;exact k
   unfold sqO at H;generalize acj p=t at*
   have Y: ∀l h,vS l=true->vS h=true->(∀o,auR t l h=o->K (cIE.enc (match o with|some v=>(v,0)|none=>R6)))->_:=λl h N hh kk=>avf (a:=a) ut N hh (λe=>kk _ e) (λv e=>kk _ e)
   have two: ∀l e,vS l=true->x5 t x.1=some (l,e)->auV a K t x.2 (λh e=>ag (!e) (af (uz2 h ⟨#[49]⟩) (eu a K (jb h ⟨#[49]⟩) λJ=>af (uz2 l t) (eu a K (gX l t) λu=>af (uz2 J t) (eu a K (gX J t) λv=>K (cIE.enc ((u,v),0))))))
    (af (uz2 l t) (eu a K (gX l t) λu=>af (uz2 h t) (eu a K (gX h t) λv=>K (cIE.enc ((u,v),0)))))) (λh=>af (uz2 h ⟨#[49]⟩) (eu a K (jb h ⟨#[49]⟩) λJ=>af (uz2 l t) (eu a K (gX l t) λu=>af (uz2 J t) (eu a K (gX J t) λv=>K (cIE.enc ((u,v),0)))))):=λl e N el=>by
    rw[el] at H;have add: ∀h,vS h=true->x5 t x.2=some (h,false)->af (uz2 h ⟨#[49]⟩) (eu a K (jb h ⟨#[49]⟩) λJ=>af (uz2 l t) (eu a K (gX l t) λu=>af (uz2 J t) (eu a K (gX J t) λv=>K (cIE.enc ((u,v),0))))):=λh hh eh=>by
     rw[eh] at H;exact ac (aX (bO hh) (by decide)) (ro (λe=>H (o:=none) (at4 e)) λe1=>Y _ _ N (auX e1).1 λo eo=>H ((qz e1).trans eo))
    refine auK ut x2 (ay v2).2.2.1 (λe=>H (o:=none) (by rw[e])) (λh e' hh eh=>ce (λc=> ?_) (λc=> ?_)) add
    ·obtain rfl:e'=false:=by simpa using c
     exact add h hh eh
    ·obtain rfl:e'=true:=by simpa using c
     rw[eh] at H;exact Y _ _ N hh λo eo=>H eo
   exact auK ut x1 (ay v1).2.2.1 (λe=>H (o:=none) (by rw[e])) (λl e N el=>two l e N el) (λl N el=>two l _ N el)
  ·unfold F1;rw[e,Bool.and_false]
 ·unfold F1
  rw[show (decide (0<=p)&&decide (p<=30))=false by
   by_cases h:p≥0
   ·rw[zdp h,zdr] at e;rw[e,Bool.and_false]
   ·rw[zds h];rfl]
  cases vI x<;>rfl
end
variable {a:Addr}
theorem avu {W:World} (H:GlobE a W):CtrOK prog W 31 (arj sqF):=bC λx p h=>by
 refine l0 avI apq H (ann:=avB) (n:=9) de (cIE.ids _) ?_;rw[avC];exact avt (K:=λr=>r=_) h rfl
def gFR:List (FuncId×Ctr):=(31,arj sqF)::(25,kIF agy)::(26,kIF agz)::(27,kIF adC)::(28,kIF ac7)::(33,arj aeA)::gV2
theorem avm:GEk gFR:=(((((aiH.cons (λa W H=>aqL H) call33).cons (λa W H=>aqK H) call28).cons (λa W H=>aqJ H) call27).cons (λa W H=>aqI H) call26).cons (λa W H=>aqH H) call25).cons (λa W H=>avu H) call31
def atw (I:EI->Prop) (N:Int) (J:Iv->Int->PWI->Prop) (Y:Int) (V:List Iv) (nn:Nat) (i:Int) (vs:List Iv) (x:Nd) (H:Prop):Prop:=
 ag (x.op==1) (af (uzR x.v) (apr I N Y 85 V.length nn i vs H (ptI x.v))) (
 ag (x.op==2) (eO V.length x.n (apr I N Y 87 V.length nn i vs H (mb noI V (0+x.n.toNat)))) (
 ag (x.op==3) (apW vs x agy H (apr I N Y 91 V.length nn i vs H)) (
 ag (x.op==4) (apW vs x agz H (apr I N Y 93 V.length nn i vs H)) (
 ag (x.op==5) (apW vs x adC H (apr I N Y 95 V.length nn i vs H)) (
 ag (x.op==6) (apW vs x ac7 H (apr I N Y 97 V.length nn i vs H)) (
 ag (x.op==7) (aqX J V.length nn i vs x H (apr I N Y 119 V.length nn i vs H) (apr I N Y 104 V.length nn i vs H)) (
 ag (x.op==8) (eO vs.length x.l (af (uzI (mb noI vs (0+x.l.toNat))) (ap9 (sqF (mb noI vs (0+x.l.toNat)) Y) H (apr I N Y 111 V.length nn i vs H)))) H)))))))
def au9 (I:EI->Prop) (N:Int) (J:Iv->Int->PWI->Prop) (p:Pr) (H:List Iv) (Y:Int) (Q:zdR):Prop:=
 af (jn p) (Unit->True->ag (bif !VM (dm p) then true else((H.length:Int) !=(p.inp.length:Int))) (Q agO)
 (af (Nat.ble H.length H.length&&Nat.beq 4 4&&true&&(Nat.ble H.length 1000000&&eI.good uzI H.length (eI.get H))) (Unit->True->ag (!(eI.list H.length (eI.get H)).all vI) (Q agO)
 (∃V:EI,I V/\(((TV.v (cI.enc 0)=TV.v (cI.enc V.1)/\TV.v (.val (.slice none 0 0))=TV.v (.val (.slice none V.2.length 0))/\akp H.length p.nod.length True)/\(True/\(True/\(V.2.length=0/\True))))/\
   ∀z:EI,I z->ag (decide (z.1<(p.nod.length:Int)))
    (eO p.nod.length z.1 (atw I N J Y H p.nod.length z.1 z.2 (mb noN p.nod (0+z.1.toNat)) (Q agO)))
    (af (inR .i64 ((z.2.length:Int) - 1)) (eO z.2.length ((z.2.length:Int) - 1) (Q (.tup [.agg (yl (mb noI z.2 (0+((z.2.length:Int) - 1).toNat))), .val (.int .i64 0)])))))))))
abbrev auZ (a:Addr) (I:EI->Prop) (N:Int) (J:Iv->Int->PWI->Prop) (p:Pr) (H:List Iv) (V:Int) (Q:zdR):Prop:=XC a gFR akn (agM I N J) 6 8 [kB p, .slc 2 0 H.length,cI.enc V] [eU.old p.inp,eN.old p.nod,eI.old H] (Go.Sy.okK λr _ _ _=>Q r)
theorem avg (a:Addr) (I:EI->Prop) (N:Int) (J:Iv->Int->PWI->Prop) (p:Pr) (H:List Iv) (V:Int) (Q:zdR):auZ a I N J p H V Q=au9 I N J p H V Q:=by kernel_rfl
theorem apy (p:Nat):0<ten p:=by unfold ten;exact Int.natCast_pos.2 (Nat.pow_pos (by decide))
def okI (r:Iv×Int):Option Iv:=bif r.2 !=0 then none else some r.1
def th (b:Iv):Nat->Option Iv
 |0=>some (ptI rI)
 |k+1=>match th b k with
  |some v=>okI (adC v b)
  |none=>none
def ack (J:Iv->Iv×Int) (H vs:List Iv) (x:Nd):Option Iv:=
 bif x.op==1 then some (ptI x.v) else
 bif x.op==2 then some (mb noI H x.n.toNat) else
 bif x.op==3 then okI (agy (mb noI vs x.l.toNat) (mb noI vs x.r.toNat)) else
 bif x.op==4 then okI (agz (mb noI vs x.l.toNat) (mb noI vs x.r.toNat)) else
 bif x.op==5 then okI (adC (mb noI vs x.l.toNat) (mb noI vs x.r.toNat)) else
 bif x.op==6 then okI (ac7 (mb noI vs x.l.toNat) (mb noI vs x.r.toNat)) else
 bif x.op==7 then(match th (mb noI vs x.l.toNat) (jH x.n).toNat with
  |some v=>bif decide (x.n<0) then okI (ac7 (ptI rI) v) else some v
  |none=>none) else
 bif x.op==8 then okI (J (mb noI vs x.l.toNat)) else some noI
def ajn (p:Int):Option Iv->Option Iv
 |some v=>okI (aeA v p)
 |none=>none
def alE (J:Iv->Iv×Int) (p:Int) (H:List Iv):List Nd->List Iv->Option (List Iv)
 | [],vs=>some vs
 |x::r,vs=>match ajn p (ack J H vs x) with
  |some v=>alE J p H r (vs++ [v])
  |none=>none
def agP (vs:List Iv):Iv:=mb noI vs (vs.length - 1)
def ah5 (N:Iv->Iv×Int) (p:Pr) (H:List Iv) (J:Int):Iv×Int:=bif !VM p||H.length !=p.inp.length|| !H.all vI then(noI,90) else(match alE N J H p.nod [] with
 |some vs=>(agP vs,0)
 |none=>(noI,90))
variable {r:Iv×Int}
theorem uu {v:Iv} (h:okI r=some v):r=(v,0):=by
 obtain⟨a,b⟩:=r;unfold okI at h;cases H:b !=0 with
 |true=>rw[H] at h;cases h
 |false=>rw[H] at h;simp at h H;rw[h,H]
theorem ajo {r:RS} (h:uzR r=true):uzI (ptI r)=true:=by
 unfold ptI;cases rV r with
 |false=>exact(show uzI noI=true by decide)
 |true=>show (uzR r&&uzR r)=true;rw[h];rfl
theorem adF {a b:RS} (h:uzR a=true) (k:uzR b=true):uzI (a,b)=true:=by unfold uzI;rw[h,k];rfl
theorem afm: ∀{l:List RS} {m:RS},(∀x∈l,uzR x=true)->uzR m=true->uzR (aey l m)=true
 | [],m,_,h=>h
 |x::r,m,H,h=>by
  show uzR (aey r (bif decide (b9 x m<0) then x else m))=true;refine afm (l:=r) (λy J=>H y (zan _ J)) ?_;cases decide (b9 x m<0) with
  |true=>exact H x (by simp)
  |false=>exact h
theorem afn: ∀{l:List RS} {m:RS},(∀x∈l,uzR x=true)->uzR m=true->uzR (aez l m)=true
 | [],m,_,h=>h
 |x::r,m,H,h=>by
  show uzR (aez r (bif decide (b9 x m>0) then x else m))=true;refine afn (l:=r) (λy J=>H y (zan _ J)) ?_;cases decide (b9 x m>0) with
  |true=>exact H x (by simp)
  |false=>exact h
theorem ah6 {a b v:Iv} (h:agy a b=(v,0)):uzI v=true:=by
 obtain⟨_,e⟩:=dL h;obtain⟨_,_,rfl⟩:=alr e;exact adF (Lq _ _) (Lq _ _)
theorem ah7 {a b v:Iv} (h:agz a b=(v,0)):uzI v=true:=by
 obtain⟨_,e⟩:=dL h;obtain⟨_,_,rfl⟩:=alr e;exact adF (Lr _ _) (Lr _ _)
theorem aeb {a b c d:RS×Int} {v:Iv} (H:uzR a.1=true) (N:uzR b.1=true) (V:uzR c.1=true) (Y:uzR d.1=true) (h:ae6 a b c d=(v,0)):uzI v=true:=by
 obtain⟨_,_,_,_,rfl⟩:=ac1 h;have J: ∀x∈ [b.1,c.1,d.1],uzR x=true:=by simp[N,V,Y]
 exact adF (afm J H) (afn J H)
theorem afo {a b v:Iv} (h:adC a b=(v,0)):uzI v=true:=aeb (gI _ _) (gI _ _) (gI _ _) (gI _ _) (dL h).2
theorem afp {a b v:Iv} (h:ac7 a b=(v,0)):uzI v=true:=aeb (lY _ _) (lY _ _) (lY _ _) (lY _ _) (dL h).2
variable {p:Int}
theorem ah8 {a v:Iv} (h:aeA a p=(v,0)):uzI v=true:=by
 obtain⟨_,e⟩:=dL h;obtain⟨_,_,rfl⟩:=alr e;refine adF ?_ ?_
 ·unfold acv;split;exact alg _ _;exact tF
 ·unfold rUp;split;exact alg _ _;exact tF
theorem acL {l:List Iv} (h: ∀u∈l,uzI u=true) (e:Nat):uzI (mb noI l e)=true:=by
 by_cases H:e<l.length
 ·exact h _ (bw H)
 ·have: ∀(l:List Iv) (e:Nat),l.length<=e->mb noI l e=noI:=by
   intro l
   induction l with
   |nil=>intro e _;rfl
   |cons x r J=>intro e H;cases e with
    |zero=>simp at H
    |succ e=>exact J e (by simpa using H)
  rw[this l e (by omega)];decide
theorem agQ {b:Iv}: ∀{k:Nat} {v:Iv},th b k=some v->uzI v=true
 |0,v,h=>by simp only[th,za1] at h;subst h;decide
 |k+1,v,h=>by
  simp only[th] at h;split at h
  ·exact afo (uu h)
  ·cases h
theorem aec {b:Iv} {k:Nat}: ∀{m:Nat} {w:Iv},th b (k+m)=some w-> ∃u,th b k=some u
 |0,w,h=>⟨w,h⟩
 |m+1,w,h=>by
  rw[<-zbr,th] at h;split at h
  ·rename_i v hv;exact aec hv
  ·cases h
variable {n:Nat}
theorem ah9 {K:Prop} (h:n<=1000000) (k:K):ako n K:=ac (by
 rw[zdp (zbS),zdp (show 0+1<=1 by omega),zdp (za0 n),zdp (show (n+1)*64<=140737488355328 by omega)];rfl) k
variable {ni nn:Nat}
theorem aia {q:Nat} {us:List Iv} {u:Iv}:akq q ni nn p (us.length+1) (ald (eI.get us) (λe=>((yl u).drop (e*4)).take 4) us.length 0) (p,us++ [u]):=by
 have H:(us++ [u]).length=us.length+1:=by simp
 refine⟨⟨rfl,by rw[H],rfl,rfl,rfl,rfl,rfl,rfl,rfl,trivial⟩,trivial,trivial, ?_,trivial⟩;refine ac (by rw[zdp (by rw[H];exact za0 _)];rfl) λe J=> ?_;rw[H] at J;unfold ald El.get El.nth;rw[aB];show _=yl (mb noI (us++ [u]) e);rw[aS];by_cases h:e<us.length
 ·rw[zdp h,zdr,if_neg (by omega)];rfl
 ·obtain rfl:e=us.length:=by omega
  rw[zds h,zdq,if_pos rfl,zaJ];rfl
def agR (b:Iv) (m:Int) (z:PWI):Prop:=0<=z.1/\z.1<=m/\m<=4/\th b z.1.toNat=some z.2
variable {i:Int}
theorem adt {m:Int} {v:Iv}:ajj ni nn i n m p v (p,v):=⟨⟨rfl,rfl,rfl,rfl,rfl,rfl,rfl,rfl,rfl,rfl,rfl,rfl,rfl,trivial⟩,trivial,⟨rfl,trivial⟩,trivial⟩
variable {bad:Prop}
theorem apn {K:Iv->Prop} (h:okI r=none->bad) (k: ∀v,okI r=some v->r=(v,0)->K v):ap9 r bad K:=by
 obtain⟨v,c⟩:=r;refine ce (λe=>h (by unfold okI;rw[e];rfl)) (λe=> ?_);obtain rfl:c=0:=by simpa using e
 exact k v rfl rfl
abbrev sqP (H:Int):Iv->Iv×Int:=λx=>sqF x H
def dR (p:Pr) (H:List Iv) (J:Int):Iv×Int:=ah5 (sqP J) p H J
def avn (J:Int) (H:List Iv) (nod:ze0) (z:EI):Prop:=0<=z.1/\z.1<=nod.length/\z.2.length=z.1.toNat/\(∀u∈z.2,uzI u=true)/\alE (sqP J) J H nod []=alE (sqP J) J H (nod.drop z.1.toNat) z.2
theorem j4 {α β:Type} {r:α×Int} {k:α->Option β} {v:β} (h:aul r k=some v):r.2=0/\k r.1=some v:=by
 unfold aul at h;cases H:r.2==0 with
 |false=>rw[H] at h;cases h
 |true=>rw[H] at h;exact⟨by simpa using H,h⟩
theorem auw {n d:zdH} (h:(gX n d).2=0):rV (gX n d).1=true/\qV (gX n d).1=Rat.divInt (nS n) (nS d):=by
 rw[FT] at h ⊢;split at h
 ·rename_i H;rw[if_pos H];obtain⟨g,_⟩:=lE h;exact⟨g.valid,g.val⟩
 ·simp at h
theorem aup {x v:Iv} (h:sqF x p=(v,0)):F1 x p=true/\ ∃l H:zdH,∃e:Bool,∃lb:Bool,x5 (acj p) x.1=some (l,lb)/\x5 (acj p) x.2=some (H,e)/\rV v.1=true/\rV v.2=true/\qV v.1=Rat.divInt (nS l) (nS (acj p))/\qV v.2=Rat.divInt (nS H+bif e then 0 else 1) (nS (acj p)):=by
 unfold sqF at h;cases hr:F1 x p with
 |false=>rw[hr] at h;exact absurd (show (50:Int)=0 from congrArg Prod.snd h) (by decide)
 |true=>
  rw[hr,zdr] at h;refine⟨rfl, ?_⟩;have e:sqO (acj p) x=some v:=by
   cases Z:sqO (acj p) x with
   |none=>rw[Z] at h;exact absurd (show (50:Int)=0 from congrArg Prod.snd h) (by decide)
   |some w=>rw[Z] at h;rw[show w=v from congrArg Prod.fst h]
  unfold sqO at e;have J: ∀{l H:zdH},auR (acj p) l H=some v->rV v.1=true/\rV v.2=true/\qV v.1=Rat.divInt (nS l) (nS (acj p))/\qV v.2=Rat.divInt (nS H) (nS (acj p)):=λ{l H} N=>by
   obtain⟨V,N⟩:=j4 N;obtain⟨a2,N⟩:=j4 N;obtain⟨b1,c1⟩:=auw V;obtain⟨b2,c2⟩:=auw a2;cases N;exact⟨b1,b2,c1,c2⟩
  cases Y:x5 (acj p) x.1 with
  |none=>rw[Y] at e;cases e
  |some l=>
   cases hh:x5 (acj p) x.2 with
   |none=>rw[Y,hh] at e;cases e
   |some g=>
    rw[Y,hh] at e;obtain⟨l,lb⟩:=l;obtain⟨g,b⟩:=g;refine⟨l,g,b,lb,rfl,rfl, ?_⟩;cases b with
    |true=>rw[zdr,Int.add_zero];exact J e
    |false=>
     obtain⟨V,e⟩:=j4 e;obtain⟨f1,f2,f3,f4⟩:=J e;rw[(auX V).2] at f4;exact⟨f1,f2,f3,f4⟩
theorem avv {x v:Iv} (h:sqF x p=(v,0)):uzI v=true:=by
 obtain⟨_,_,_,_,_,_,_,h1,h2,_⟩:=aup h;unfold uzI;rw[Ie h1,Ie h2];rfl
variable {ins:List Iv} {pl:Int}
theorem ata {I:EI->Prop} {N:Int} {vs:List Iv} {x:Nd} (hx:NodeOK ni vs.length x) (i0:ins.length=ni) (hi: ∀u∈ins,uzI u=true) (hv: ∀u∈vs,uzI u=true) (g0:uzR x.v=true) (hb:ack (sqP pl) ins vs x=none->bad) (hs: ∀q v,uzI v=true->ack (sqP pl) ins vs x=some v->apr I N pl q ins.length nn i vs bad v):atw I N agR pl ins nn i vs x bad:=by
 obtain⟨o1,o2⟩:=hx.op;have two: ∀{f:Iv->Iv->Iv×Int} {q:Nat},3<=x.op->x.op<=6->(∀{a b v:Iv},f a b=(v,0)->uzI v=true)->ack (sqP pl) ins vs x=okI (f (mb noI vs x.l.toNat) (mb noI vs x.r.toNat))->apW vs x f bad (apr I N pl q ins.length nn i vs bad):=λ{f q} a b uz e=>by
  have Z:=hx.left a;have hr:=hx.right a b;unfold apW;rw[za7,za7];exact aY Z.1 Z.2 (aY hr.1 hr.2 (ac (by rw[acL hv,acL hv];rfl) (apn (λk=>hb (e.trans k)) λv k k'=>hs q v (uz k') (e.trans k))))
 unfold atw;refine ce (λe1=> ?_) (λe1=>ce (λJ=> ?_) (λJ=>ce (λV=> ?_) (λV=>ce (λe4=> ?_) (λe4=>ce (λY=> ?_) (λY=>ce (λe6=> ?_) (λe6=>ce (λe7=> ?_) (λe7=>ce (λe8=> ?_) (λe8=> ?_))))))))
 ·exact ac g0 (hs _ _ (ajo g0) (by unfold ack;rw[e1];rfl))
 ·have h:=hx.inp (int_eq.1 J);rw[za7];exact aY h.1 (by omega) (hs _ _ (acL hi _) (by unfold ack;rw[e1,J];rfl))
 ·exact two (by rw[int_eq.1 V];decide) (by rw[int_eq.1 V];decide) ah6 (by unfold ack;rw[e1,J,V];rfl)
 ·exact two (by rw[int_eq.1 e4];decide) (by rw[int_eq.1 e4];decide) ah7 (by unfold ack;rw[e1,J,V,e4];rfl)
 ·exact two (by rw[int_eq.1 Y];decide) (by rw[int_eq.1 Y];decide) afo (by unfold ack;rw[e1,J,V,e4,Y];rfl)
 ·exact two (by rw[int_eq.1 e6];decide) (by rw[int_eq.1 e6];decide) afp (by unfold ack;rw[e1,J,V,e4,Y,e6];rfl)
 ·have hp:=hx.pow (int_eq.1 e7);have Z:=hx.left (by rw[int_eq.1 e7];decide)
  have e:ack (sqP pl) ins vs x=(match th (mb noI vs x.l.toNat) (jH x.n).toNat with
   |some v=>bif decide (x.n<0) then okI (ac7 (ptI rI) v) else some v
   |none=>none):=by unfold ack;rw[e1,J,V,e4,Y,e6,e7];rfl
  have hm:0<=jH x.n/\jH x.n<=4:=by unfold jH;split<;>omega
  unfold aqX;rw[za7];refine ac (VP.2 (by omega)) ⟨(0,ptI rI),⟨zat _,hm.1,hm.2,rfl⟩,adt, ?_⟩;rintro⟨k,u⟩ ⟨k0,k1,_,k2⟩;dsimp only at k0 k1 k2 ⊢;have a0:=agQ k2;refine ce (λhk=> ?_) (λhk=> ?_)
  ·have hk:=zdu hk;have hn:th (mb noI vs x.l.toNat) (k+1).toNat=okI (adC u (mb noI vs x.l.toNat)):=by rw[show (k+1).toNat=k.toNat+1 by omega,th,k2]
   refine aY Z.1 Z.2 (ac (by rw[a0,acL hv];rfl) (apn (λh=>hb ?_) λw h _=>ac (VP.2 (by omega)) ⟨(k+1,w),⟨by show 0<=k+1;omega,by show k+1<=_;omega,hm.2,hn.trans h⟩,by show (_:Nat)<_;omega,adt⟩));rw[e];cases hw:th (mb noI vs x.l.toNat) (jH x.n).toNat with
   |none=>rfl
   |some w=>
    obtain⟨u',e0⟩:=aec (k:=(k+1).toNat) (m:=(jH x.n).toNat - (k+1).toNat) (by rw[show (k+1).toNat+((jH x.n).toNat - (k+1).toNat)=(jH x.n).toNat by omega];exact hw);rw[hn,h] at e0;cases e0
  ·have hk:=zdv hk;rw[show k.toNat=(jH x.n).toNat by omega] at k2;rw[k2] at e;replace e:ack (sqP pl) ins vs x=bif decide (x.n<0) then okI (ac7 (ptI rI) u) else some u:=e
   refine ce (λH=> ?_) (λH=> ?_)
   ·rw[H,zdr] at e;exact ac (by rw[a0];decide) (apn (λh=>hb (e.trans h)) λw h h'=>hs _ _ (afp h') (e.trans h))
   ·rw[H,zdq] at e;exact hs _ _ a0 e
 ·have Z:=hx.left (by rw[int_eq.1 e8];decide);have e:ack (sqP pl) ins vs x=okI (sqF (mb noI vs x.l.toNat) pl):=by unfold ack;rw[e1,J,V,e4,Y,e6,e7,e8];rfl
  rw[za7];exact aY Z.1 Z.2 (ac (acL hv _) (apn (λk=>hb (e.trans k)) λv k k'=>hs _ v (avv k') (e.trans k)))
 ·exfalso;rw[zdx] at e1 J V e4 Y e6 e7 e8;omega
theorem auS {p:Pr} {Q:zdR} (g0:aci p=true) (h6:p.inp.length<=1000000) (h7:p.nod.length<=1000000) (hi: ∀u∈ins,uzI u=true) (h8:ins.length<=1000000)
 (hQ:Q (.tup [.agg (yl (dR p ins pl).1), .val (.int .i64 (dR p ins pl).2)])):au9 (avn pl ins p.nod) p.nod.length agR p ins pl Q:=by
 have H:=g0;unfold aci at H;simp only[za2,zaf] at H;obtain⟨⟨si,sn⟩,so⟩:=H;have gl:eI.list ins.length (eI.get ins)=ins:=El.list_get;have Y:dR p ins pl=(noI,90)->Q agO:=λh=>by rw[h] at hQ;exact hQ
 unfold au9;refine ac (eY g0 h6 h7) λ_ _=> ?_;rw[fN];refine ce (λh=>Y ?_) (λh=>ac (by rw[El.good_get hi];simp[h8]) λ_ _=>ce (λk=>Y ?_) (λk=> ?_))
 ·unfold dR ah5;cases hv:VM p with
  |false=>rfl
  |true=>
   rw[hv] at h;have:(ins.length !=p.inp.length)=true:=by simp at h ⊢;omega
   rw[this];rfl
 ·rw[gl] at k;unfold dR ah5;rw[k,Bool.or_true];rfl
 ·rw[gl] at k;cases hv:VM p with
  |false=>rw[hv] at h;cases h
  |true=>
  rw[hv] at h;have hl:ins.length=p.inp.length:=by simp at h;omega
  obtain⟨a0,e0⟩:=bQ hv;have hc:dR p ins pl=match alE (sqP pl) pl ins p.nod [] with
   |some vs=>(agP vs,0)
   |none=>(noI,90):=by unfold dR ah5;rw[hv,k,hl];first|(simp;rfl)|simp
  have hb:=Wb.1 a0;refine⟨(0, []),⟨zat _,by show (0:Int)<=_;omega,rfl,λu h=>(by cases h),rfl⟩,⟨⟨rfl,rfl,rfl,rfl,rfl,rfl,rfl,rfl,rfl,trivial⟩,trivial,trivial,rfl,trivial⟩, ?_⟩;rintro⟨i,vs⟩ ⟨k0,k1,k2,k3,J⟩;simp only at k0 k1 k2 k3 J;dsimp only;refine ce (λhz=> ?_) (λhz=> ?_)
  ·have hz:i<(p.nod.length:Int):=zdu hz;rw[za7];have hd:=atR (d:=noN) k0 hz;have hx:=e0 i.toNat (by omega);have hm:=bw (d:=noN) (l:=p.nod) (e:=i.toNat) (by omega);have Z:=sn _ hm;have n0:uzR (mb noN p.nod i.toNat).v=true:=by
    unfold szN at Z;rw[za2] at Z;exact Z.1
   rw[hd,alE] at J
   have N:ajn pl (ack (sqP pl) ins vs (mb noN p.nod i.toNat))=none->Q agO:=λe=>Y (by
    rw[e] at J
    rw[hc,show alE (sqP pl) pl ins p.nod []=none from J])
   refine aY k0 hz (ata (by rw[k2];exact hx) hl hi k3 n0 (λe=>N (by rw[e];rfl)) (λq v m0 V=>ac m0 (apn (λe=>N (by rw[V];exact e)) λw hr i0=> ?_)));rw[V,show ajn pl (some v)=some w from hr] at J;replace J:alE (sqP pl) pl ins p.nod []=alE (sqP pl) pl ins (p.nod.drop (i+1).toNat) (vs++ [w]):=J;refine ah9 (by omega) (ac (VP.2 (by omega)) ⟨(i+1,vs++ [w]),⟨by show 0<=i+1;omega,by show i+1<=_;omega,by simp only[za3,za6];omega, ?_,J⟩,by show (_:Nat)<_;omega,aia⟩);exact atS k3 (ah8 i0)
  ·have hz: ¬i<(p.nod.length:Int):=zdv hz;rw[show i.toNat=p.nod.length by omega,zbj,alE] at J;rw[J] at hc;replace hc:dR p ins pl=(agP vs,0):=hc;rw[hc] at hQ;refine ac (VP.2 (by omega)) (aY (by omega) (by omega) ?_);rw[show (0+((vs.length:Int) - 1).toNat)=vs.length - 1 by omega];exact hQ
def auL:MCtr:=λbl nx args=>match args with
 | [s,t, .val (.int .i64 H)]=>match mC bl s,vW bl 4 t with
   |some a,some (b,o,n,c)=>some {X:=Unit,pre:=a.need&&b&&bW n&&eI.good uzI n c,spec:=λ_=>True,out:=λ_=> .tup [.agg (yl (dR a.p (eI.list n c) H).1), .val (.int .i64 (dR a.p (eI.list n c) H).2)],ex:=λ_=>⟨(),trivial⟩}
   |_,_=>none
 |_=>none
theorem auM: ∀B:Base,GlobEB a B->VU prog B 8 auL:=agE avm ah4 λbl nx args C J hp=>by
 unfold auL at J;split at J
 ·rename_i s t N;split at J
  ·rename_i a b o n c V Z;simp only[za1] at J;subst J;simp only[za2] at hp;obtain⟨⟨⟨hp,rfl⟩,Y⟩,H⟩:=hp;obtain⟨s1,s2,s3,s4,s5,s6⟩:=eX (f:=rnF [a.o1,a.o2,o] [] nx) V hp rfl rfl;obtain⟨t1,t2⟩:=cq (f:=rnF [a.o1,a.o2,o] [] nx) Z H;refine⟨[a.o1,a.o2,o], [eU.old a.p.inp,eN.old a.p.nod,eI.old (eI.list n c)], [kB a.p, .slc 2 0 (eI.list n c).length,cI.enc N],agM (avn N (eI.list n c) a.p.nod) a.p.nod.length agR,6,aw s1 (aw s2 (aw t1 trivial)),bH (by simp[cN,El.old]),cd (by simp[El.old,BK.map]),ar s3 (ar (t2 2 rfl) rfl), ?_⟩;refine kbE () trivial rfl (r:= .tup [.agg (yl (dR a.p (eI.list n c) N).1), .val (.int .i64 (dR a.p (eI.list n c) N).2)]) rfl rfl rfl rfl (by simp[cN,El.old]) rfl ?_;have e:=avg;unfold auZ at e;rw[e];exact auS s4 s5 s6 (El.good_list H) (by rw[El.list_length];exact zak Y) rfl
  ·cases J
 ·cases J
def au0:MCtr:=λbl nx args=>match args with
 | [s,t, .val (.int .i64 H)]=>match mC bl s,vW bl 4 t with
   |some a,some (b,o,n,c)=>some {X:=Unit,pre:=a.need&&b&&bW n&&eI.good uzI n c&&(dR a.p (eI.list n c) H).2==0,spec:=λ_=>True,out:=λ_=> .tup [.agg (yl (dR a.p (eI.list n c) H).1), .val (.int .i64 0)],ex:=λ_=>⟨(),trivial⟩}
   |_,_=>none
 |_=>none
theorem auN: ∀B:Base,GlobEB a B->VU prog B 8 au0:=λB hB bl β w nx args C h1 h2 h3 h4 H hp=>by
 unfold au0 at H;split at H
 ·rename_i s t J;split at H
  ·rename_i p b o n c V Z;simp only[za1] at H;subst H;obtain⟨hp,Y⟩:=vo hp;have N:auL bl nx [s,t, .val (.int .i64 J)]=some {X:=Unit,pre:=p.need&&b&&bW n&&eI.good uzI n c,spec:=λ_=>True,out:=λ_=> .tup [.agg (yl (dR p.p (eI.list n c) J).1), .val (.int .i64 (dR p.p (eI.list n c) J).2)],ex:=λ_=>⟨(),trivial⟩}:=by simp only[auL,V,Z]
   refine Calls.mono (auM B hB bl β w nx _ _ h1 h2 h3 h4 N hp) ?_;rintro e w' ⟨x,hx,β',q⟩;rw[beq_iff_eq.1 Y] at q;exact⟨(),trivial,β',q⟩
  ·cases H
 ·cases H
section
variable {K:zdR} {R:Prop}
variable {x y:Iv}
theorem av8 (H:uzI x=true) (J:uzI y=true) (k:(vI x&&vI y)=false->K (cIE.enc R6)) (r:(vI x&&vI y)=true->R):awv x y K R:=
 ac H (ac J (ce (λh=>k (by revert h;cases vI x<;>cases vI y<;>simp)) (λh=>r (by revert h;cases vI x<;>cases vI y<;>simp))))
theorem av5 {l h:RS×Int} (k:K (cIE.enc (ad3 l h))):awA l h K:=by
 unfold ad3 at k;refine ce (λe=> ?_) (λe=> ?_)
 ·have:(l.2==0&&h.2==0)=false:=by
   cases h1:l.2==0 with
   |false=>rfl
   |true=>
    rw[bne,h1] at e;simpa using e
  rw[this] at k;exact k
 ·have:(l.2==0&&h.2==0)=true:=by
   cases h1:l.2==0 with
   |false=>rw[bne,h1] at e;cases e
   |true=>rw[bne,h1] at e;simpa using e
  rw[this] at k;exact k
theorem awi {r l h:RS} {k:RS->RS->Prop} (H:uzR r=true) (J:uzR l=true) (hh:uzR h=true) (c:k (bif decide (b9 r l<0) then r else l) (bif decide (b9 r h>0) then r else h)):axb r l h k:=by
 refine ac (by rw[H,J];rfl) (ce (λe=>ac (by rw[H,hh];rfl) (ce (λf=> ?_) (λf=> ?_))) (λe=>ac (by rw[H,hh];rfl) (ce (λf=> ?_) (λf=> ?_))))
 all_goals
  rw[zdq] at e f;rw[e,f] at c;exact c
theorem awe {n:Bool}:dC false n=true:=by cases n<;>rfl
theorem av1 {b:Bool} {x y:RS} (H:uzR x=true) (J:uzR y=true):uzR (bif b then x else y)=true:=by cases b<;>assumption
theorem awn {f:RS->RS->RS×Int} {o:RS->RS->(RS->Prop)->Prop} (H: ∀a b,uzR (f a b).1=true) (N: ∀a b k,uzR a=true->uzR b=true->((f a b).2≠0->K (cIE.enc R6))->((f a b).2=0->k (f a b).1)->o a b k) (hx:uzI x=true) (hy:uzI y=true)
 (k:K (cIE.enc (ae6 (f x.1 y.1) (f x.1 y.2) (f x.2 y.1) (f x.2 y.2)))):awJ o x y K:=by
 obtain⟨V,Y⟩:=alu hx;obtain⟨Z,y2⟩:=alu hy;have J: ∀{b:Prop},((f x.1 y.1).2==0&&(f x.1 y.2).2==0&&(f x.2 y.1).2==0&&(f x.2 y.2).2==0)=false->K (cIE.enc R6):=λ{_} h=>by
  unfold ae6 at k;rw[h] at k;exact k
 refine N _ _ _ V Z (λe=>J (b:=True) (by simp[e])) λe1=>ac awe (ac awe (N _ _ _ V y2 (λe=>J (b:=True) (by simp[e])) λe2=>awi (H _ _) (H _ _) (H _ _) (N _ _ _ Y Z (λe=>J (b:=True) (by simp[e])) λe3=>awi (H _ _) (av1 (H _ _) (H _ _)) (av1 (H _ _) (H _ _)) (N _ _ _ Y y2 (λe=>J (b:=True) (by simp[e])) λe4=>awi (H _ _) (av1 (H _ _) (av1 (H _ _) (H _ _))) (av1 (H _ _) (av1 (H _ _) (H _ _))) ?_))));unfold ae6 at k;rw[show ((f x.1 y.1).2==0&&(f x.1 y.2).2==0&&(f x.2 y.1).2==0&&(f x.2 y.2).2==0)=true by simp[e1,e2,e3,e4]] at k;exact k
end
variable {a:Addr} {W:World}
theorem axe (N:GlobE a W):CtrOK prog W 38 (kIF agy):=bC λx y h=>by
 obtain⟨H,J⟩:=vo h;obtain⟨V,Y⟩:=alu H;obtain⟨Z,y2⟩:=alu J;refine l0 av3 (MEk.nil (a:=a)) N (ann:=noA) (n:=8) de (cIE.ids _) ?_;rw[aw8];exact av8 (K:=λr=>r=_) H J (λe=>by unfold agy;rw[e];rfl) (λe=>ac (by rw[V,Z];rfl) (ac (by rw[Y,y2];rfl) (av5 (K:=λr=>r=_) (by unfold agy;rw[e];rfl))))
theorem axf (N:GlobE a W):CtrOK prog W 39 (kIF agz):=bC λx y h=>by
 obtain⟨H,J⟩:=vo h;obtain⟨V,Y⟩:=alu H;obtain⟨Z,y2⟩:=alu J;refine l0 av3 (MEk.nil (a:=a)) N (ann:=noA) (n:=8) de (cIE.ids _) ?_;rw[aw9];exact av8 (K:=λr=>r=_) H J (λe=>by unfold agz;rw[e];rfl) (λe=>ac (by rw[V,y2];rfl) (ac (by rw[Y,Z];rfl) (av5 (K:=λr=>r=_) (by unfold agz;rw[e];rfl))))
theorem axg (N:GlobE a W):CtrOK prog W 40 (kIF adC):=bC λx y h=>by
 obtain⟨H,J⟩:=vo h;refine l0 av3 (MEk.nil (a:=a)) N (ann:=noA) (n:=8) de (cIE.ids _) ?_;rw[axc];exact av8 (K:=λr=>r=_) H J (λe=>by unfold adC;rw[e];rfl) (λe=>awn (f:=ale) (K:=λr=>r=_) gI (λa b k V Y h1 h2=>ac (by rw[V,Y];rfl) (ce (λe=>h1 (by simpa using e)) (λe=>h2 (by simpa using e)))) H J (by unfold adC;rw[e];rfl))
theorem axh (Z:GlobE a W):CtrOK prog W 41 (kIF ac7):=bC λx y h=>by
 obtain⟨V,H⟩:=vo h;refine l0 av3 (MEk.nil (a:=a)) Z (ann:=noA) (n:=8) de (cIE.ids _) ?_;rw[axd];refine ac V (ac H (ac (by rw[H,show uzR zR=true by decide];rfl) (ce (λe=> ?_) (λe=> ?_))))
 ·show cIE.enc R6=cIE.enc (ac7 x y);unfold ac7;rw[show (vI x&&vI y&& !auf y zR)=false by revert e;cases vI x<;>cases vI y<;>cases auf y zR<;>simp];rfl
 ·have Y:(vI x&&vI y&& !auf y zR)=true:=by revert e;cases vI x<;>cases vI y<;>cases auf y zR<;>simp
  exact awn (f:=cA) (K:=λr=>r=_) lY (λa b k J N h1 h2=>ac (by rw[J,N];rfl) (ac (by rw[J,N];rfl) (ce (λe=>h1 (by simpa using e)) (λe=>h2 (by simpa using e))))) V H (by unfold ac7;rw[Y];rfl)
theorem axi (H:GlobE a W):CtrOK prog W 44 (arj aeA):=bC λx p h=>by
 obtain⟨J,N⟩:=alu h;refine l0 av3 (MEk.nil (a:=a)) H (ann:=noA) (n:=8) de (cIE.ids _) ?_;rw[axa];exact ac h (ce (λe=>by show _=cIE.enc (aeA x p);unfold aeA;rw[show vI x=false by simpa using e];rfl) (λe=>ac J (ac N (av5 (K:=λr=>r=_) (by show _=cIE.enc (aeA x p);unfold aeA;rw[show vI x=true by simpa using e];rfl)))))
theorem awK:CtrOK prog W 188 (k1 cS cSI uz kq):=dD λa h β w H=>awm a w (zdu h)
def gRt:List (FuncId×Ctr):=(188,k1 cS cSI uz kq)::gR2
theorem axq:GEk gRt:=av3.cons (λa W H=>awK) call188
abbrev cSB:=cP cS cB
def awB:ByteArray×Bool:=(⟨#[]⟩,false)
def rtD (q:zdH) (f:Int) (K:zdR):Prop:=
 af (uz q) (ag (bif f !=0 then true else(kq q).2 !=0) (K (cSB.enc awB)) (af (uz2 (kq q).1 (kq q).1) (K (cSB.enc ((kq q).1,bif (bM (kq q).1 (kq q).1).2==0 then(kq q).2==0 else false)))))
def rtU (q:zdH) (f:Int) (K:zdR):Prop:=
 af (uz q) (ag (bif f !=0 then true else(kq q).2 !=0) (K (cSB.enc awB)) (af (uz2 (kq q).1 (kq q).1) (ag (!seq (bM (kq q).1 (kq q).1).1 q)
  (af (uz2 (kq q).1 ⟨#[49]⟩) (K (cSB.enc ((jb (kq q).1 ⟨#[49]⟩).1,bif (bM (kq q).1 (kq q).1).2==0 then(jb (kq q).1 ⟨#[49]⟩).2==0 else false))))
  (K (cSB.enc ((kq q).1,bif (bM (kq q).1 (kq q).1).2==0 then(kq q).2==0 else false))))))
def rtT (r:RS) (p:Int) (K:zdR) (R:ByteArray×ByteArray×Int->Prop):Prop:=
 af (inR .i64 (2*p)) (af (decide (0<=2*p)&&decide (2*p<=60)) (af (uz2 r.1 (afR (2*p).toNat)) (ag ((bM r.1 (afR (2*p).toNat)).2 !=0) (K (cSB.enc awB))
  (af (uz2 (bM r.1 (afR (2*p).toNat)).1 r.2) (ag ((dY (bM r.1 (afR (2*p).toNat)).1 r.2).2.2 !=0) (K (cSB.enc awB)) (R (dY (bM r.1 (afR (2*p).toNat)).1 r.2)))))))
theorem axD (a:Addr) (r:RS) (p:Int) (K:zdR):acb a gRt [] noA 6 117 [cR.enc r,cI.enc p,cB.enc false] K=rtT r p K λd=>rtD d.1 d.2.2 K:=by kernel_rfl
theorem axE (a:Addr) (r:RS) (p:Int) (K:zdR):acb a gRt [] noA 6 117 [cR.enc r,cI.enc p,cB.enc true] K=rtT r p K λd=>ag (!seq d.2.1 ⟨#[48]⟩) (af (uz2 d.1 ⟨#[49]⟩) (rtU (jb d.1 ⟨#[49]⟩).1 (jb d.1 ⟨#[49]⟩).2 K)) (rtU d.1 d.2.2 K):=by kernel_rfl
theorem awr {n:Nat} (h:n<BIG):pz n+1<BIG:=by
 have h1:=(auG (n:=n)).1;have H:4<=BIG:=by decide
 rcases zah (pz n) 2 with k|k
 ·omega
 ·have:=zbm (pz n) k;omega
theorem aws (n:Nat):(if pz (n+1)*pz (n+1)=n+1 then pz (n+1) else pz (n+1)+1)=pz n+1:=by
 obtain⟨J,N⟩:=auG (n:=n);obtain⟨V,Y⟩:=auG (n:=n+1);generalize pz n=M at*
 generalize pz (n+1)=P at*
 have up:M<=P:=by
  rcases zah P M with h|h
  ·have:=zb4 (show P+1<=M by omega) (show P+1<=M by omega);omega
  ·exact h
 split
 ·rename_i e;rcases zah (M+1) P with h|h
  ·have:=zb4 (show M+2<=P by omega) (show M+2<=P by omega);have Z:(M+2)*(M+2)=(M+1)*(M+1)+(2*M+3):=by grind
   omega
  ·rcases zah M P with H|H
   ·omega
   ·obtain rfl:M=P:=by omega
    omega
 ·rename_i e;rcases zah M P with H|H
  ·have:=zb4 (show M+1<=P by omega) (show M+1<=P by omega);omega
  ·omega
def avW (r:RS) (p:Int) (up:Bool):ByteArray×Bool:=match x5 (afR p.toNat) r with
 |none=>awB
 |some (m,e)=>(bif up&& !e then(jb m ⟨#[49]⟩).1 else m,true)
variable {n:Int}
theorem avX (h:aq n=true):Yk.chkI n=(ofI n,0):=by unfold Yk.chkI;rw[if_pos (V1.1 h)]
theorem awL (h:aq n=false):((Yk.chkI n).2==0)=false:=by
 have:=eG n;rw[h,bne] at this;simpa using this
theorem axj (p:Nat):ten (2*p)=ten p*ten p:=by
 unfold ten;rw[Nat.two_mul,zbw];exact zb9 _ _
theorem awC (h:aq n=true) (h0:0<=n):kq (ofI n)=(ofI (pz n.natAbs),0):=by
 unfold kq;rw[dG h,aI,zdp h0];rfl
theorem awM (h0: ¬0<=n):(kq (ofI n)).2=30:=by
 unfold kq;rw[aI,zds h0,Bool.and_false];rfl
theorem avS {n:Nat} (h:n<BIG):aq (n:Int)=true:=V1.2 (by simpa using h)
theorem av6 (x y:Int):seq (ofI x) (ofI y)=decide (x=y):=by
 by_cases h:x=y
 ·rw[h,zdp rfl];exact We.2 rfl
 ·rw[zds h];cases e:seq (ofI x) (ofI y) with
  |false=>rfl
  |true=>
   have:=congrArg nS (We.1 e);rw[aI,aI] at this;exact absurd this h
theorem av2 {Q:Int} (J:aq Q=true) (h0:0<=Q):kq (ofI Q)=(ofI (pz Q.natAbs),0)/\bM (ofI (pz Q.natAbs)) (ofI (pz Q.natAbs))=(ofI ((pz Q.natAbs:Int)*pz Q.natAbs),0)/\jb (ofI (pz Q.natAbs)) ⟨#[49]⟩=(ofI ((pz Q.natAbs:Int)+1),0):=by
 have H:=V1.1 J;have N:=(auG (n:=Q.natAbs)).1;have s1:=avS (avT H);refine⟨awC J h0, ?_, ?_⟩
 ·rw[dg (dG s1) (dG s1),aI];exact avX (by rw[<-zb9];exact avS (zaS N H))
 ·rw[tw (dG s1) (show vS ⟨#[49]⟩=true by decide),aI,show nS ⟨#[49]⟩=1 by decide];exact avX (avS (n:=pz Q.natAbs+1) (awr H))
variable {r:RS} {p:Int}
theorem awx (J:rV r=true) (h1:p<=30) (N:aq (nS r.1*ten p.toNat*ten p.toNat)=false):x5 (afR p.toNat) r=none:=by
 have V:=(ay J).1;have t1:vS (afR p.toNat)=true:=afa (by omega);have H:bM r.1 (afR p.toNat)=Yk.chkI (nS r.1*ten p.toNat):=by rw[dg V t1,afb]
 unfold x5;rw[H];cases s1:aq (nS r.1*ten p.toNat) with
 |false=>exact at4 (awL s1)
 |true=>
  rw[avX s1];refine(qz rfl).trans (at4 ?_);rw[show bM (ofI (nS r.1*ten p.toNat)) (afR p.toNat)=Yk.chkI (nS r.1*ten p.toNat*ten p.toNat) by rw[dg (dG s1) t1,aI,afb]];exact awL N
theorem axr {K:zdR} {R:ByteArray×ByteArray×Int->Prop} (J:rV r=true) (h0:0<=p) (h1:p<=30) (hb:x5 (afR p.toNat) r=none->K (cSB.enc awB))
 (hg:aq (nS r.1*ten p.toNat*ten p.toNat)=true->R (ofI (nS r.1*ten p.toNat*ten p.toNat / nS r.2),ofI (nS r.1*ten p.toNat*ten p.toNat%nS r.2),0)):rtT r p K R:=by
 obtain⟨N,V,v3,_⟩:=ay J;have t1:vS (afR p.toNat)=true:=afa (by omega);have t2:vS (afR (2*p).toNat)=true:=afa (by omega);have Z:bM r.1 (afR (2*p).toNat)=Yk.chkI (nS r.1*ten p.toNat*ten p.toNat):=by
  rw[dg N t2,afb,show (2*p).toNat=2*p.toNat by omega,axj,Int.mul_assoc]
 refine ac (VP.2 (by omega)) (ac (by rw[zdp (show 0<=2*p by omega),zdp (show 2*p<=60 by omega)];rfl) (ac (aX (bO N) (bO t2)) ?_));rw[Z];cases H:aq (nS r.1*ten p.toNat*ten p.toNat) with
 |false=>
  exact ce (λ_=>hb (awx J h1 H)) (λe=>by rw[eG,H] at e;cases e)
 |true=>
  rw[avX H];have Y:=dG H;have eD:dY (ofI (nS r.1*ten p.toNat*ten p.toNat)) r.2=(ofI (nS r.1*ten p.toNat*ten p.toNat / nS r.2),ofI (nS r.1*ten p.toNat*ten p.toNat%nS r.2),0):=by
   unfold dY;rw[if_pos (by rw[Y,V,zdp (show nS r.2≠0 by omega)];rfl),aI]
  refine ce (λe=>by cases e) λ_=>ac (aX (bO Y) (bO V)) ?_;rw[eD];exact ce (λe=>by cases e) λ_=>hg H
theorem av9 (J:rV r=true) (h1:p<=30) (H:aq (nS r.1*ten p.toNat*ten p.toNat)=true):x5 (afR p.toNat) r=bif decide (0<=nS r.1*ten p.toNat*ten p.toNat / nS r.2) then some (ofI (pz (nS r.1*ten p.toNat*ten p.toNat / nS r.2).natAbs),bif decide (nS r.1*ten p.toNat*ten p.toNat%nS r.2=0) then decide ((pz (nS r.1*ten p.toNat*ten p.toNat / nS r.2).natAbs:Int)*pz (nS r.1*ten p.toNat*ten p.toNat / nS r.2).natAbs=nS r.1*ten p.toNat*ten p.toNat / nS r.2) else false) else none:=by
 obtain⟨v1,v2,v3,_⟩:=ay J;have t1:vS (afR p.toNat)=true:=afa (by omega);have tp:=apy p.toNat;have s1:aq (nS r.1*ten p.toNat)=true:=by
  rw[V1] at H ⊢;refine zaS ?_ H;rw[zaF (nS r.1*ten p.toNat)];exact Nat.le_mul_of_pos_right _ (by omega)
 have V:bM r.1 (afR p.toNat)=(ofI (nS r.1*ten p.toNat),0):=by rw[dg v1 t1,afb];exact avX s1
 have Y:bM (ofI (nS r.1*ten p.toNat)) (afR p.toNat)=(ofI (nS r.1*ten p.toNat*ten p.toNat),0):=by rw[dg (dG s1) t1,aI,afb];exact avX H
 have vn:=dG H;obtain⟨q1,q2⟩:=avU J H;generalize nS r.1*ten p.toNat*ten p.toNat=N at*
 have eD:dY (ofI N) r.2=(ofI (N / nS r.2),ofI (N%nS r.2),0):=by
  unfold dY;rw[if_pos (by rw[vn,v2,zdp (show nS r.2≠0 by omega)];rfl),aI]
 unfold x5;rw[V];refine(qz rfl).trans ?_;dsimp only;rw[Y];refine(qz rfl).trans ?_;dsimp only;rw[eD];show (bif (0:Int)==0 then _ else none)=_;rw[show ((0:Int)==0)=true by rfl,zdr];dsimp only;by_cases h0:0<=N / nS r.2
 ·obtain⟨Z,b2,_⟩:=av2 q1 h0;rw[Z,zdp h0,zdr];refine(qz rfl).trans ?_
  try dsimp only
  rw[b2,show (⟨#[48]⟩:zdH)=ofI 0 by decide+kernel,av6]
  try dsimp only
  cases decide (N%nS r.2=0) with
  |true=>
   simp only[zdr];rw[qz rfl];dsimp only;rw[av6]
  |false=>rfl
 ·rw[zds h0];exact at4 (by rw[awM h0];rfl)
section
variable {r:RS} {p:Int} {K:zdR}
theorem awj (J:rV r=true) (H:0<=nS r.1):0<=nS r.1*ten p.toNat*ten p.toNat / nS r.2:=by
 have tp:=apy p.toNat;have:=(ay J).2.2.1;exact Int.ediv_nonneg (Int.mul_nonneg (Int.mul_nonneg H (by omega)) (by omega)) (by omega)
theorem awN (H:rV r=true) (hn:0<=nS r.1) (h0:0<=p) (h1:p<=30) (k:K (cSB.enc (avW r p false))):rtT r p K λd=>rtD d.1 d.2.2 K:=by
 refine axr H h0 h1 (λe=>by unfold avW at k;rw[e] at k;exact k) λV=> ?_;have N:=awj (p:=p) H hn;unfold avW at k;rw[av9 H h1 V,zdp N] at k;obtain⟨J,_⟩:=avU H V;obtain⟨Y,Z,_⟩:=av2 J N;unfold rtD
 try dsimp only
 refine ac (bO (dG J)) ?_;rw[Y,Z];exact ce (λe=>by cases e) λ_=>ac (aX (bO (dG (avS (avT (V1.1 J))))) (bO (dG (avS (avT (V1.1 J)))))) k
theorem awO (Y:rV r=true) (hn:0<=nS r.1) (h0:0<=p) (h1:p<=30) (k:K (cSB.enc (avW r p true))):rtT r p K λd=>ag (!seq d.2.1 ⟨#[48]⟩) (af (uz2 d.1 ⟨#[49]⟩) (rtU (jb d.1 ⟨#[49]⟩).1 (jb d.1 ⟨#[49]⟩).2 K)) (rtU d.1 d.2.2 K):=by
 refine axr Y h0 h1 (λe=>by unfold avW at k;rw[e] at k;exact k) λhs=> ?_;have hQ:=awj (p:=p) Y hn;unfold avW at k;rw[av9 Y h1 hs,zdp hQ] at k;obtain⟨J,q2⟩:=avU Y hs;have v3:=(ay Y).2.2.1;dsimp only;rw[m6 (dG q2),aI];generalize hN:nS r.1*ten p.toNat*ten p.toNat=N at*
 refine ce (λh=> ?_) (λh=> ?_)
 ·have V:N%nS r.2≠0:=by simpa using h
  have sq:=avJ hs v3 V;rw[zds V] at k;obtain⟨_,_,Z⟩:=av2 J hQ;replace k:K (cSB.enc ((jb (ofI (pz (N / nS r.2).natAbs)) ⟨#[49]⟩).1,true)):=k;rw[Z] at k;refine ac (aX (bO (dG J)) (by decide)) ?_;rw[tw (dG J) (show vS ⟨#[49]⟩=true by decide),aI,show nS ⟨#[49]⟩=1 by decide,avX sq];obtain⟨c1,c2,c3⟩:=av2 sq (by omega);have en:=aws (N / nS r.2).natAbs;rw[show (N / nS r.2).natAbs+1=(N / nS r.2+1).natAbs by omega] at en;have H:=bO (dG (avS (avT (V1.1 sq))));unfold rtU
  try dsimp only
  refine ac (bO (dG sq)) ?_;rw[c1,c2,c3,av6];refine ce (λe=>by cases e) λ_=>ac (aX H H) (ce (λe=>ac (aX H (by decide)) ?_) (λe=> ?_))
  ·have: ¬pz (N / nS r.2+1).natAbs*pz (N / nS r.2+1).natAbs=(N / nS r.2+1).natAbs:=λh'=>by
    have h2:((pz (N / nS r.2+1).natAbs:Int)*pz (N / nS r.2+1).natAbs)=N / nS r.2+1:=by
     rw[<-zb9,h'];omega
    rw[zdp h2] at e;cases e
   rw[if_neg this] at en;rw[show ((pz (N / nS r.2+1).natAbs:Int)+1)=(pz (N / nS r.2).natAbs:Int)+1 by omega];exact k
  ·have h2:((pz (N / nS r.2+1).natAbs:Int)*pz (N / nS r.2+1).natAbs)=N / nS r.2+1:=by simpa using e
   have:pz (N / nS r.2+1).natAbs*pz (N / nS r.2+1).natAbs=(N / nS r.2+1).natAbs:=by
    rw[<-zb9] at h2;omega
   rw[if_pos this] at en;rw[show (pz (N / nS r.2+1).natAbs:Int)=(pz (N / nS r.2).natAbs:Int)+1 by omega];exact k
 ·have he:N%nS r.2=0:=by simpa using h
  rw[zdp he] at k;obtain⟨b1,b2,Z⟩:=av2 J hQ;replace k:K (cSB.enc (bif !decide ((pz (N / nS r.2).natAbs:Int)*pz (N / nS r.2).natAbs=N / nS r.2) then(jb (ofI (pz (N / nS r.2).natAbs)) ⟨#[49]⟩).1 else ofI (pz (N / nS r.2).natAbs),true)):=by
   revert k;cases decide ((pz (N / nS r.2).natAbs:Int)*pz (N / nS r.2).natAbs=N / nS r.2)<;>exact id
  rw[Z] at k;have H:=bO (dG (avS (avT (V1.1 J))));unfold rtU
  try dsimp only
  refine ac (bO (dG J)) ?_;rw[b1,b2,Z,av6];refine ce (λe=>by cases e) λ_=>ac (aX H H) (ce (λe=>ac (aX H (by decide)) ?_) (λe=> ?_))
  ·rw[e] at k;exact k
  ·rw[e] at k;exact k
end
def av4 (r:RS) (p:Int):Bool:=rV r&&decide (0<=nS r.1)&&decide (0<=p)&&decide (p<=30)
variable {r:RS} {p:Int}
theorem awP (h:av4 r p=true):rV r=true/\0<=nS r.1/\0<=p/\p<=30:=by
 unfold av4 at h;simp only[za2,zdt] at h;exact⟨h.1.1.1,h.1.1.2,h.1.2,h.2⟩
variable {a:Addr} {W:World}
theorem axF (H:GlobE a W):CtrOK prog W 117 (k3 cR cI cB cSB (λr p _=>av4 r p) avW):=sQ λr p up h=>by
 obtain⟨N,J,h0,h1⟩:=awP h;cases up with
 |false=>
  refine l0 axq (MEk.nil (a:=a)) H (ann:=noA) (n:=6) AW (cSB.ids _) ?_;rw[axD];exact awN (K:=λr=>r=_) N J h0 h1 rfl
 |true=>
  refine l0 axq (MEk.nil (a:=a)) H (ann:=noA) (n:=6) AW (cSB.ids _) ?_;rw[axE];exact awO (K:=λr=>r=_) N J h0 h1 rfl
theorem awQ (a:Addr) (K:zdR):acb a [] [] noA 3 116 [] K=K (cR.enc zR):=by kernel_rfl
def gSq:List (FuncId×Ctr):=(116,k0 cR zR)::(117,k3 cR cI cB cSB (λr p _=>av4 r p) avW)::gR2
theorem axR:GEk gSq:=(av3.cons (λa W H=>axF H) call117).cons (λa W H=>GF (l0 awo (MEk.nil (a:=a)) H (ann:=noA) (n:=3) NU (cR.ids _) (by rw[awQ]))) call116
def axS (x:Iv) (p:Int) (K:zdR):Prop:=
 af (uzI x) (af (dC (!!vI x) (uzR x.1&&uzR zR)) (ag (bif bif bif !vI x then true else decide (b9 x.1 zR<0) then true else decide (p<0) then true else decide (p>30)) (K (cIE.enc R6))
  (af (av4 x.1 p) (af (av4 x.2 p) (ag (bif !(avW x.1 p false).2 then true else !(avW x.2 p true).2) (K (cIE.enc R6))
    (af (decide (0<=p)&&decide (p<=60)) (af (uz2 (avW x.1 p false).1 (afR p.toNat)) (af (decide (0<=p)&&decide (p<=60)) (af (uz2 (avW x.2 p true).1 (afR p.toNat)) (awA (gX (avW x.1 p false).1 (afR p.toNat)) (gX (avW x.2 p true).1 (afR p.toNat)) K))))))))))
theorem axG (a:Addr) (x:Iv) (p:Int) (K:zdR):acb a gSq [] noA 6 43 [cIv.enc x,cI.enc p] K=axS x p K:=by kernel_rfl
theorem awf (h:rV r=true):0<=qV r↔0<=nS r.1:=Rat.divInt_nonneg_iff_of_pos_right (ay h).2.2.1
theorem awa (H:rV r=true) (Y:0<=nS r.1) (h1:p<=30):x5 (afR p.toNat) r=none\/ ∃m e,x5 (afR p.toNat) r=some (m,e)/\vS m=true/\(jb m ⟨#[49]⟩).2=0:=by
 cases J:aq (nS r.1*ten p.toNat*ten p.toNat) with
 |false=>exact .inl (awx H h1 J)
 |true=>
  have N:=awj (p:=p) H Y;have V:=(avU H J).1;refine .inr ⟨_,_,(av9 H h1 J).trans (by rw[zdp N];rfl),dG (avS (avT (V1.1 V))), ?_⟩;rw[(av2 V N).2.2]
theorem awR {t l h:zdH}:(match auR t l h with|some v=>(v,0)|none=>R6)=ad3 (gX l t) (gX h t):=by
 unfold auR ad3 aul;cases (gX l t).2==0<;>cases (gX h t).2==0<;>rfl
theorem awD {x:Iv} {K:zdR} (hx:uzI x=true) (k:K (cIE.enc (sqF x p))):axS x p K:=by
 obtain⟨x1,x2⟩:=alu hx;have a0:F1 x p=false->K (cIE.enc R6):=λe=>by unfold sqF at k;rw[e] at k;exact k
 have ec:(bif bif bif !vI x then true else decide (b9 x.1 zR<0) then true else decide (p<0) then true else decide (p>30))= !F1 x p:=by
  unfold F1;cases vI x with
  |false=>rfl
  |true=>
   by_cases a:b9 x.1 zR<0
   ·rw[zdp a,zds (show ¬b9 x.1 zR≥0 by omega),Bool.and_false];rfl
   ·rw[zds a,zdp (show b9 x.1 zR≥0 by omega),zaQ];by_cases b:p<0
    ·rw[zdp b,zds (show ¬0<=p by omega)];rfl
    ·by_cases c:p>30
     ·rw[zds b,zdp c,zds (show ¬p<=30 by omega),Bool.and_false];rfl
     ·rw[zds b,zds c,zdp (show 0<=p by omega),zdp (show p<=30 by omega)];rfl
 refine ac hx (ac (fU (by rw[x1];decide)) ?_);rw[ec];refine ce (λe=>a0 (by simpa using e)) (λe=> ?_);have ok:F1 x p=true:=by simpa using e
 have N:=ok;unfold F1 at N;simp only[za2,zdt] at N;obtain⟨⟨hv,h0,h1⟩,hc⟩:=N;obtain⟨Z,v2,e0⟩:=ajh.1 hv;have z1:0<=qV x.1:=by
  rw[rD Z ap6.1,ap6.2] at hc;rcases(Rat.le_total:0<=qV x.1\/qV x.1<=0) with h|h
  ·exact h
  ·rcases Classical.em (qV x.1=0) with H|H
   ·rw[H];exact Rat.le_refl
   ·have:=aps.2 (Rat.lt_of_le_of_ne h H);omega
 have n1:=(awf Z).1 z1;have n2:=(awf v2).1 (Rat.le_trans z1 e0);have pr: ∀{r:RS},rV r=true->0<=nS r.1->av4 r p=true:=λa b=>by
  unfold av4;rw[a,zdp b,zdp h0,zdp h1];rfl
 have J: ∀{o:Option Iv},sqO (acj p) x=o->K (cIE.enc (match o with|some v=>(v,0)|none=>R6)):=λ{o} e=>by
  unfold sqF at k;rw[ok,zdr,e] at k;exact k
 rw[ahN h0] at J;unfold sqO at J;have tt:vS (afR p.toNat)=true:=afa (by omega);refine ac (pr Z n1) (ac (pr v2 n2) ?_);unfold avW;rcases awa Z n1 h1 with g1|⟨m,e1,g1,vm,_⟩
 ·rw[g1] at J ⊢;exact ce (λ_=>J (o:=none) rfl) (λh=>by cases h)
 ·rcases awa v2 n2 h1 with g2|⟨h,e2,g2,vh,ah⟩
  ·rw[g1,g2] at J;rw[g1,g2];exact ce (λ_=>J (o:=none) rfl) (λh=>by cases h)
  ·rw[g1,g2] at J;rw[g1,g2];have Y:(decide (0<=p)&&decide (p<=60))=true:=by rw[zdp h0,zdp (show p<=60 by omega)];rfl
   have V: ∀H,vS H=true->(∀o,auR (afR p.toNat) m H=o->K (cIE.enc (match o with|some v=>(v,0)|none=>R6)))->af (decide (0<=p)&&decide (p<=60)) (af (uz2 m (afR p.toNat)) (af (decide (0<=p)&&decide (p<=60)) (af (uz2 H (afR p.toNat)) (awA (gX m (afR p.toNat)) (gX H (afR p.toNat)) K)))):=λH g0 kk=>
    ac Y (ac (aX (bO vm) (bO tt)) (ac Y (ac (aX (bO g0) (bO tt)) (av5 (by rw[<-awR];exact kk _ rfl)))))
   refine ce (λh=>by cases h) (λ_=> ?_);cases e2 with
   |true=>exact V h vh λo eo=>J eo
   |false=>exact V _ (auX ah).1 λo eo=>J ((qz ah).trans eo)
theorem axH (H:GlobE a W):CtrOK prog W 43 (arj sqF):=bC λx p h=>by
 refine l0 axR (MEk.nil (a:=a)) H (ann:=noA) (n:=6) de (cIE.ids _) ?_;rw[axG];exact awD (K:=λr=>r=_) h rfl
def gR5:List (FuncId×Ctr):=(43,arj sqF)::(38,kIF agy)::(39,kIF agz)::(40,kIF adC)::(41,kIF ac7)::(44,arj aeA)::gR2
theorem axT:GEk gR5:=(((((av3.cons (λa W H=>axi H) call44).cons (λa W H=>axh H) call41).cons (λa W H=>axg H) call40).cons (λa W H=>axf H) call39).cons (λa W H=>axe H) call38).cons (λa W H=>axH H) call43
def RQ (y:I4):zdK:= [.val (.int .i64 y.1), .val (.int .i64 y.2.1), .val (.int .i64 y.2.2.1), .val (.int .i64 y.2.2.2)]
def Ud:List SV->I4
 | [.val (.int .i64 a), .val (.int .i64 b), .val (.int .i64 c), .val (.int .i64 d)]=>(a,b,c,d)
 |_=>(0,0,0,0)
def e4:El I4:={sz:=4,sv:=RQ,of:=Ud,d:=(0,0,0,0),rt:=λ_=>rfl,ids:=λ_=>rfl,len:=λ_=>rfl,one:=by decide}
def uz4 (y:I4):Bool:=cl y.1&&cl y.2.1&&cl y.2.2.1&&cl y.2.2.2
structure Cas where
 a:Int×Int×Int
 k:Int
 x:List I4
 e:Bool
 v:(Int×Int)×(Int×Int)×(Int×Int)
def Cas.ok (c:Cas):Bool:=cl c.a.1&&cl c.a.2.1&&cl c.a.2.2&&cl c.k&&c.x.all uz4&&cl c.v.1.1&&cl c.v.1.2&&cl c.v.2.1.1&&cl c.v.2.1.2&&cl c.v.2.2.1&&cl c.v.2.2.2
def T9 (k:Int):Int:=F8 [2, -1,3, -2,1] (0+k.toNat)
def opF (y:I4):Int:=1+co y.1 8
def RR (ni n:Int) (y:I4):Nd:=
 bif opF y==1 then⟨opF y,(rMk (co y.2.1 13 - 6) (1+co y.2.2.1 4)).1,BL y.2.2.2,0,0,0⟩ else
 bif opF y==2 then⟨opF y,VI,noU,co y.2.1 ni,0,0⟩ else
 bif opF y==7 then⟨opF y,VI,noU,T9 (co y.2.2.1 5),co y.2.1 n,0⟩ else
 bif opF y==8 then⟨opF y,VI,noU,0,co y.2.1 n,0⟩ else⟨opF y,VI,noU,0,co y.2.1 n,co y.2.2.1 n⟩
def TH (ex:Bool) (inp:zdZ) (y:I4) (z:List Nd×List Un):List Nd×List Un:=
 match mn inp z.2 (RR inp.length z.1.length y) with
 |some u=>bif !ex||opF y !=8 then(z.1++ [RR inp.length z.1.length y],z.2++ [u]) else z
 |none=>z
def RT (ex:Bool) (inp:zdZ):List I4->List Nd×List Un->List Nd×List Un
 | [],z=>z
 |y::r,z=>bif decide (z.1.length<14) then RT ex inp r (TH ex inp y z) else z
def QQ (a:Int×Int×Int) (k:Nat):zdZ:=Go.Sy.tab (λj=>BL (mb 0 [a.1,a.2.1,a.2.2] j)) k
def R9 (k:Nat):ze0:=Go.Sy.tab (λj=>nIn j) k
def Rb (a:Int×Int×Int) (count:Int) (xs:List I4) (ex:Bool):List Nd×List Un:=RT ex (QQ a ((co count 3).toNat+1)) xs (R9 ((co count 3).toNat+1),QQ a ((co count 3).toNat+1))
def Bd (a:Int×Int×Int) (count:Int) (xs:List I4) (ex:Bool):Pr:=
 ⟨1+co count 900,QQ a ((co count 3).toNat+1),(Rb a count xs ex).1,ly (Rb a count xs ex).2⟩
theorem Rv {inp:zdZ} {x:Nd} {u:Un}: ∀{l:ze0} {us vs:zdZ},iB inp l us=(vs,true)->mn inp vs x=some u->iB inp (l++ [x]) us=(vs++ [u],true)
 | [],us,vs,h,k=>by
   simp only[iB,zag,and_true] at h;subst h;simp only[zaM,iB,k]
 |y::r,us,vs,h,k=>by
  simp only[zaO,iB] at h ⊢;cases e:mn inp us y with
  |none=>rw[e] at h;simp only[zag] at h;cases h.2
  |some v=>rw[e] at h;exact Rv h k
structure MadOK (inp:List Un) (z:List Nd×List Un):Prop where
 len:z.2.length=z.1.length
 pos:1<=z.1.length
 le:z.1.length<=14
 un:iB inp z.1 []=(z.2,true)
 szn: ∀x∈z.1,szN x=true
 szu: ∀u∈z.2,szB u=true
theorem RK (p:Un->Bool) (h: [aT 0,aT 2,{aT 0 with f:=(⟨#[49]⟩,⟨#[49,48,48,48]⟩)},(fd (aT 0) (aT 0)).1,{aT 4 with s:=0,o:=(⟨#[53,52,54,51]⟩,⟨#[50,48]⟩)},aT 4,(mi (aT 0) (aT 0)).1].all p=true) (n:Int):p (BL n)=true:=by
 have B: ∀(b:Bool) (x y:Un),p x=true->p y=true->p (cond b x y)=true:=λb x y h k=>by cases b;exact k;exact h
 simp only[List.all_cons,List.all_nil,zaQ,za2] at h;unfold BL;exact B _ _ _ h.1 (B _ _ _ h.2.1 (B _ _ _ h.2.2.1 (B _ _ _ h.2.2.2.1 (B _ _ _ h.2.2.2.2.1 (B _ _ _ h.2.2.2.2.2.1 h.2.2.2.2.2.2)))))
theorem QY (n:Int):szB (BL n)=true:=RK szB (by kernel_rfl) n
theorem Sr (ni n:Int) (y:I4):szN (RR ni n y)=true:=by
 have B: ∀(b:Bool) (x y:Nd),szN x=true->szN y=true->szN (cond b x y)=true:=λb x y h k=>by cases b;exact k;exact h
 unfold RR;refine B _ _ _ ?_ (B _ _ _ lB (B _ _ _ lB (B _ _ _ lB lB)));show (uzR (rMk _ _).1&&szB (BL _))=true;rw[alg,QY];rfl
theorem MadOK.step {ex:Bool} {inp:zdZ} {y:I4} {z:List Nd×List Un} (hi: ∀u∈inp,szB u=true) (h:MadOK inp z) (V:z.1.length<14):MadOK inp (TH ex inp y z):=by
 unfold TH;split
 ·rename_i u J;cases !ex||opF y !=8 with
  |false=>exact h
  |true=>
   have N:=Sr inp.length z.1.length y;refine⟨by simp[h.len],by simp,by simp;omega,Rv h.un J,λx H=> ?_,λv hv=> ?_⟩
   ·rcases za8.1 H with a|a
    ·exact h.szn x a
    ·rw[zaj.1 a];exact N
   ·rcases za8.1 hv with a|a
    ·exact h.szu v a
    ·rw[zaj.1 a];exact CR N hi h.szu J
 ·exact h
theorem MadOK.all {ex:Bool} {inp:zdZ} (hi: ∀u∈inp,szB u=true): ∀{xs:List I4} {z:List Nd×List Un},MadOK inp z->MadOK inp (RT ex inp xs z)
 | [],z,h=>h
 |y::r,z,h=>by
  unfold RT;cases H:decide (z.1.length<14) with
  |false=>exact h
  |true=>exact MadOK.all hi (h.step hi (zdu H))
theorem QT {a:Int×Int×Int} {p:Un->Bool} (hp: ∀n,p (BL n)=true): ∀{k:Nat},∀u∈QQ a k,p u=true
 |0,u,h=>by cases h
 |k+1,u,h=>by
  rcases za8.1 h with h|h
  ·exact QT hp u h
  ·rw[zaj.1 h];exact hp _
variable {k:Nat}
theorem QR {a:Int×Int×Int} :(QQ a k).length=k:=fJ _ _
theorem QZ:(R9 k).length=k:=fJ _ _
theorem Si {a:Int×Int×Int} {K:Nat}: ∀{k:Nat},k<=K->iB (QQ a K) (R9 k) []=(QQ a k,true)
 |0,_=>rfl
 |k+1,h=>Rv (Si (Nat.le_of_succ_le h)) (by
  have e:mb noU (QQ a K) k=BL (mb 0 [a.1,a.2.1,a.2.2] k):=bR (qX _ (by omega));have f:VT (QQ a k).length (nIn k)=true:=rfl;have u:fL (QQ a K) (QQ a k) (nIn k)=(BL (mb 0 [a.1,a.2.1,a.2.2] k),0):=by
   show (bif decide (0<=((k:Nat):Int))&&decide (((k:Nat):Int)<((QQ a K).length:Int)) then(mb noU (QQ a K) ((k:Nat):Int).toNat,0) else(noU,90))=_;rw[QR,zdp (by omega),zdp (by omega),zd2,e];rfl
  show mn (QQ a K) (QQ a k) (nIn k)=some (BL (mb 0 [a.1,a.2.1,a.2.2] k));unfold mn
  rw[f,u];rfl)
theorem RU: ∀{k:Nat},∀x∈R9 k,szN x=true
 |0,x,h=>by cases h
 |k+1,x,h=>by
  rcases za8.1 h with h|h
  ·exact RU x h
  ·rw[zaj.1 h];exact lB
section
variable {a:Int×Int×Int} {count:Int} {xs:List I4} {ex:Bool}
theorem Rc:1<=(co count 3).toNat+1/\(co count 3).toNat+1<=3:=by
 have:=gR count (n:=3) (by decide);omega
theorem Sj:MadOK (QQ a ((co count 3).toNat+1)) (Rb a count xs ex):=by
 have:=Rc (count:=count);exact MadOK.all (QT QY) ⟨by rw[QR,QZ],by rw[QZ];exact this.1,by rw[QZ];omega,Si (za0 _),RU,QT QY⟩
theorem SO {us:zdZ} (h: ∀u∈us,szB u=true):szB (ly us)=true:=eH h _
theorem Tn:aci (Bd a count xs ex)=true:=by
 have h:=Sj (a:=a) (count:=count) (xs:=xs) (ex:=ex);unfold aci;rw[show (Bd a count xs ex).inp.all szB=true from zaf.2 (QT QY),show (Bd a count xs ex).nod.all szN=true from zaf.2 h.szn,show szB (Bd a count xs ex).out=true from SO h.szu];rfl
theorem Sb:1<=(Bd a count xs ex).inp.length/\(Bd a count xs ex).inp.length<=3/\1<=(Bd a count xs ex).nod.length/\(Bd a count xs ex).nod.length<=14:=by
 have h:=Sj (a:=a) (count:=count) (xs:=xs) (ex:=ex);have n:=Rc (count:=count);refine⟨?_, ?_,h.pos,h.le⟩
 ·show 1<=(QQ a _).length;rw[QR];omega
 ·show (QQ a _).length<=3;rw[QR];omega
end
def tyF (inp us:zdZ) (x:Nd):Un×Int:=match mn inp us x with
 |some u=>(u,0)
 |none=>(noU,90)
def tyB (p:Pr) (us:zdZ):zdU:= [eU.old p.inp,eN.old p.nod,eU.old us]
def tyA (p:Pr) (us:zdZ) (x:Nd) (at_:Int):zdK:= [kB p, .agg (svN x),cI.enc at_, .slc 2 0 us.length]
abbrev Re (op:Int) (p:Pr) (us:zdZ) (x:Nd) (at_:Int) (Q:zdR):Prop:=JL [] (λ_ _=>none) 6 80 (tyA p us {x with op:=op} at_) (tyB p us) (Go.Sy.okK λr _ _ _=>Q r)
def QS:SV:= .tup [.agg (ci noU), .val (.int .i64 90)]
def RA (u:Un):SV:= .tup [.agg (ci u), .val (.int .i64 0)]
def Ss (r:Un×Int) (Q:zdR):Prop:=ag (r.2 !=0) (Q QS) (Q (RA r.1))
def wiB (n lo hi:Int):Bool:=bif decide (n≥lo) then decide (n<=hi) else false
def TM (x:Nd) (Q:zdR):Prop:=af (uzR x.v) (af (aH x.u) (ag (!(bif (bif eqN {x with op:=1} {noN with op:=1,v:=x.v,u:=x.u} then rV x.v else false) then iy x.u else false)) (Q QS) (Q (RA x.u))))
def TN (p:Pr) (x:Nd) (Q:zdR):Prop:=af (dC (eqN {x with op:=2} {noN with op:=2,n:=x.n}) (inR .i64 ((p.inp.length:Int) - 1))) (ag (eqN {x with op:=2} {noN with op:=2,n:=x.n})
 (ag (!wiB x.n 0 ((p.inp.length:Int) - 1)) (Q QS) (eO p.inp.length x.n (Q (RA (mb noU p.inp (0+x.n.toNat)))))) (Q QS))
def SG (op:Int) (f:Un->Un->Un×Int) (us:zdZ) (x:Nd) (a:Int) (Q:zdR):Prop:=
 af (dC (eqN {x with op:=op} {noN with op:=op,l:=x.l,r:=x.r}) (inR .i64 (a - 1))) (ag (eqN {x with op:=op} {noN with op:=op,l:=x.l,r:=x.r})
  (af (dC (wiB x.l 0 (a - 1)) (inR .i64 (a - 1))) (ag (wiB x.l 0 (a - 1)) (ag (!wiB x.r 0 (a - 1)) (Q QS) (pL us x λu v=>Ss (f u v) Q)) (Q QS)))
  (af (dC false (inR .i64 (a - 1))) (Q QS)))
def TO (us:zdZ) (x:Nd) (a:Int) (Q:zdR):Prop:=
 af (dC (eqN {x with op:=7} {noN with op:=7,n:=x.n,l:=x.l}) (inR .i64 (a - 1))) (ag (eqN {x with op:=7} {noN with op:=7,n:=x.n,l:=x.l})
  (ag (wiB x.l 0 (a - 1)) (ag (!(bif wiB x.n (-4) 4 then x.n !=0 else false)) (Q QS) (eO us.length x.l (eO us.length x.r (af (aH (mb noU us (0+x.l.toNat))) (Ss (jm (mb noU us (0+x.l.toNat)) (x.n,1)) Q))))) (Q QS)) (Q QS))
def TP (us:zdZ) (x:Nd) (a:Int) (Q:zdR):Prop:=
 af (dC (eqN {x with op:=8} {noN with op:=8,l:=x.l}) (inR .i64 (a - 1))) (ag (eqN {x with op:=8} {noN with op:=8,l:=x.l})
  (ag (!wiB x.l 0 (a - 1)) (Q QS) (eO us.length x.l (eO us.length x.r (af (aH (mb noU us (0+x.l.toNat))) (Ss (jm (mb noU us (0+x.l.toNat)) (1,2)) Q))))) (Q QS))
theorem TQ (p:Pr) (us:zdZ) (x:Nd) (a:Int) (Q:zdR):Re 1 p us x a Q=TM x Q:=by kernel_rfl
theorem TR (p:Pr) (us:zdZ) (x:Nd) (a:Int) (Q:zdR):Re 2 p us x a Q=TN p x Q:=by kernel_rfl
theorem TS (p:Pr) (us:zdZ) (x:Nd) (a:Int) (Q:zdR):Re 3 p us x a Q=SG 3 iS us x a Q:=by kernel_rfl
theorem TT (p:Pr) (us:zdZ) (x:Nd) (a:Int) (Q:zdR):Re 4 p us x a Q=SG 4 fw us x a Q:=by kernel_rfl
theorem TU (p:Pr) (us:zdZ) (x:Nd) (a:Int) (Q:zdR):Re 5 p us x a Q=SG 5 mi us x a Q:=by kernel_rfl
theorem TW (p:Pr) (us:zdZ) (x:Nd) (a:Int) (Q:zdR):Re 6 p us x a Q=SG 6 fd us x a Q:=by kernel_rfl
theorem TX (p:Pr) (us:zdZ) (x:Nd) (a:Int) (Q:zdR):Re 7 p us x a Q=TO us x a Q:=by kernel_rfl
theorem TY (p:Pr) (us:zdZ) (x:Nd) (a:Int) (Q:zdR):Re 8 p us x a Q=TP us x a Q:=by kernel_rfl
def SZ:MCtr:=λbl _ args=>match args with
 | [s, .agg cs, .val (.int .i64 at_),t]=>match mC bl s,vW bl 20 t with
   |some a,some (b,_,n,g)=>some {X:=Unit,pre:=a.need&&b&&bW n&&eU.good szB n g&&ndB cs&&szN (Vh cs)&&decide (at_=(n:Int))&&decide (1<=(Vh cs).op)&&decide ((Vh cs).op<=8),spec:=λ_=>True,out:=λ_=> .tup [.agg (ci (tyF a.p.inp (eU.list n g) (Vh cs)).1), .val (.int .i64 (tyF a.p.inp (eU.list n g) (Vh cs)).2)],ex:=λ_=>⟨(),trivial⟩}
   |_,_=>none
 |_=>none
theorem Wn {x y:Nd}:eqN x y=true↔x=y:=by
 obtain⟨H,J,N,V,Y,Z⟩:=x;obtain⟨b1,b2,b3,b4,b5,b6⟩:=y;simp only[eqN,za2,zdy,Wg,Wh,Nd.mk.injEq,and_true]
theorem Rf {a b c d:Nd} (h:a=b↔c=d):eqN a b=eqN c d:=by
 rw[zax,Wn,Wn];exact h
theorem Q4 {n:Nat} {i:Int}:wiB i 0 ((n:Int) - 1)=Go.Proofs.YtojcellmcbnmeaaGreatDoor.earF n i:=by
 rw[zax,V2];unfold wiB;by_cases h:i≥0
 ·rw[zdp h,zdr,zdt];omega
 ·rw[zds h,zdq];simp;omega
theorem Q5 {a b:Bool} {K:Prop} (h:b=true) (k:K):af (dC a b) K:=ac (yd h) k
section
variable {inp us:zdZ} {x:Nd} {Q:zdR}
theorem tyQ (h:Q (.tup [.agg (ci (tyF inp us x).1), .val (.int .i64 (tyF inp us x).2)])):(mn inp us x=none->Q QS)/\(∀u,mn inp us x=some u->Q (RA u)):=by
 unfold tyF at h;exact⟨λe=>by rw[e] at h;exact h,λu e=>by rw[e] at h;exact h⟩
theorem QW (h:VT us.length x=false):mn inp us x=none:=by unfold mn;rw[h];rfl
theorem Q6 (h:VT us.length x=true):mn inp us x=bif (fL inp us x).2==0 then some (fL inp us x).1 else none:=by unfold mn;rw[h];rfl
theorem Rx {r:Un×Int} (J:VT us.length x=true) (V:fL inp us x=r) (H:mn inp us x=none->Q QS) (N: ∀u,mn inp us x=some u->Q (RA u)):Ss r Q:=by
 have t:=Q6 (inp:=inp) J;rw[V] at t;refine ce (λh=>H ?_) (λh=>N _ ?_)
 ·rw[t,show (r.2==0)=false by simpa using h];rfl
 ·rw[t,show (r.2==0)=true by simpa using h];rfl
theorem TZ (o:x.op=1) (N:szN x=true) (V:mn inp us x=none->Q QS) (Y: ∀u,mn inp us x=some u->Q (RA u)):TM x Q:=by
 unfold szN at N;rw[za2] at N;have J:VT us.length x=eqN {x with op:=1} {noN with op:=1,v:=x.v,u:=x.u}:=by
  unfold VT;rw[o];exact Rf (by obtain⟨Z,a2,a3,a4,a5,a6⟩:=x;simp[noN])
 have H:fL inp us x=bif rV x.v&&VK x.u then(x.u,0) else(noU,90):=by unfold fL;rw[o];rfl
 unfold TM;rw[<-J,jE];refine ac N.1 (ac N.2 (ce (λh=>V ?_) (λh=>Y _ ?_)))
 ·cases f:VT us.length x with
  |false=>exact QW f
  |true=>
   rw[Q6 f,H];rw[f] at h;cases a:rV x.v with
   |false=>rfl
   |true=>cases b:VK x.u with
    |false=>rfl
    |true=>rw[a,b] at h;cases h
 ·cases f:VT us.length x with
  |false=>rw[f] at h;cases h
  |true=>
   rw[Q6 f,H];rw[f] at h;cases a:rV x.v with
   |false=>rw[a] at h;cases h
   |true=>cases b:VK x.u with
    |false=>rw[a,b] at h;cases h
    |true=>rfl
theorem T0 {p:Pr} (hp:p.inp=inp) (hl:inp.length<=1000000) (o:x.op=2) (V:mn inp us x=none->Q QS) (Y: ∀u,mn inp us x=some u->Q (RA u)):TN p x Q:=by
 subst hp;have J:VT us.length x=eqN {x with op:=2} {noN with op:=2,n:=x.n}:=by
  unfold VT;rw[o];show eqN ⟨0,x.v,x.u,0,x.l,x.r⟩ noN=_;exact Rf (by obtain⟨Z,a2,a3,a4,a5,a6⟩:=x;simp[noN])
 have H:fL p.inp us x=bif decide (0<=x.n)&&decide (x.n<(p.inp.length:Int)) then(mb noU p.inp x.n.toNat,0) else(noU,90):=by unfold fL;rw[o];rfl
 unfold TN;rw[<-J];refine Q5 (VP.2 (by omega)) (ce (λf=>ce (λh=>V ?_) (λh=> ?_)) (λf=>V (QW f)))
 ·rw[Q6 f,H];rw[Q4] at h;have:earF p.inp.length x.n=false:=by simpa using h
  rw[show (decide (0<=x.n)&&decide (x.n<(p.inp.length:Int)))=false from this];rfl
 ·rw[Q4] at h;have N:earF p.inp.length x.n=true:=by simpa using h
  have e:=V2.1 N;refine aY e.1 e.2 (Y _ ?_);rw[Q6 f,H,show (decide (0<=x.n)&&decide (x.n<(p.inp.length:Int)))=true from N,za7];rfl
variable {a:Int}
theorem RV {op:Int} {f:Un->Un->Un×Int} (o:x.op=op) (hop:3<=op/\op<=6) (ha:a=(us.length:Int)) (hl:us.length<=1000000) (Z: ∀u∈us,szB u=true) (J:fL inp us x=f (mb noU us x.l.toNat) (mb noU us x.r.toNat)) (N:mn inp us x=none->Q QS) (ho: ∀u,mn inp us x=some u->Q (RA u)):SG op f us x a Q:=by
 subst ha;have H:VT us.length x=(eqN {x with op:=op} {noN with op:=op,l:=x.l,r:=x.r}&&earF us.length x.l&&earF us.length x.r):=by
  unfold VT;rw[zdw (show x.op≠1 by omega),zdw (show x.op≠2 by omega),zdp (show 3<=x.op by omega),zdp (show x.op<=6 by omega)];show (eqN ⟨0,x.v,x.u,x.n,0,0⟩ noN&&_&&_)=_;rw[Rf (a:=⟨0,x.v,x.u,x.n,0,0⟩) (b:=noN) (c:={x with op:=op}) (d:={noN with op:=op,l:=x.l,r:=x.r}) (by obtain⟨a1,a2,a3,a4,a5,a6⟩:=x;simp[noN])]
 unfold SG;rw[Q4,Q4];generalize eqN {x with op:=op} {noN with op:=op,l:=x.l,r:=x.r}=e at H;have r:inR .i64 ((us.length:Int) - 1)=true:=VP.2 (by omega);refine Q5 r (ce (λh1=>Q5 r (ce (λh2=>ce (λh3=>N (QW ?_)) (λh3=> ?_)) (λh2=>N (QW ?_)))) (λh1=>Q5 r (N (QW ?_))))
 ·rw[H,show earF us.length x.r=false by simpa using h3,Bool.and_false]
 ·have h3:earF us.length x.r=true:=by simpa using h3
  have V:=V2.1 h2;have Y:=V2.1 h3;unfold pL;rw[za7,za7];exact aY V.1 V.2 (aY Y.1 Y.2 (ac (by rw[eH Z,eH Z];rfl) (Rx (by rw[H,h1,h2,h3];rfl) J N ho)))
 ·rw[H,h2,Bool.and_false];rfl
 ·rw[H,h1];rfl
theorem T3 (o:x.op=7) (Z:a=(us.length:Int)) (hl:us.length<=1000000) (hu: ∀u∈us,szB u=true) (N:mn inp us x=none->Q QS) (ho: ∀u,mn inp us x=some u->Q (RA u)):TO us x a Q:=by
 subst Z;have H:VT us.length x=(eqN {x with op:=7} {noN with op:=7,n:=x.n,l:=x.l}&&earF us.length x.l):=by
  unfold VT;rw[o];show (eqN ⟨0,x.v,x.u,0,0,x.r⟩ noN&&_)=_;rw[Rf (c:={x with op:=7}) (d:={noN with op:=7,n:=x.n,l:=x.l}) (by obtain⟨a1,a2,a3,a4,a5,a6⟩:=x;simp[noN])]
 have J:fL inp us x=(bif x.n==0||decide (x.n< -4)||decide (x.n>4) then(noU,90) else jm (mb noU us x.l.toNat) (x.n,1)):=by unfold fL;rw[o];rfl
 unfold TO;rw[Q4];have V:eqN {x with op:=7} {noN with op:=7,n:=x.n,l:=x.l}=true->x.r=0:=λh=>by
  have:=Wn.1 h;exact congrArg Nd.r this
 generalize eqN {x with op:=7} {noN with op:=7,n:=x.n,l:=x.l}=e at H V;refine Q5 (VP.2 (by omega)) (ce (λh1=>ce (λh2=>ce (λh3=>N ?_) (λh3=> ?_)) (λh2=>N (QW ?_))) (λh1=>N (QW ?_)))
 ·rw[Q6 (by rw[H,h1,h2];rfl),J];have:(x.n==0||decide (x.n< -4)||decide (x.n>4))=true:=by
   simp only[zav,zdt,zdy];apply Classical.byContradiction;intro hc;have:wiB x.n (-4) 4=true:=by unfold wiB;rw[zdp (by omega),zdr,zdp (by omega)]
   rw[this,zdr,show (x.n !=0)=true by simp;omega] at h3;cases h3
  rw[this];rfl
 ·have Y:=V2.1 h2;have V:=V h1;have hn:x.n≠0/\ -4<=x.n/\x.n<=4:=by
   unfold wiB at h3;by_cases a:x.n≥ -4
   ·by_cases b:x.n<=4
    ·rw[zdp a,zdr,zdp b,zdr] at h3;simp at h3;omega
    ·rw[zdp a,zdr,zds b,zdq] at h3;cases h3
   ·rw[zds a,zdq,zdq] at h3;cases h3
  rw[za7];refine aY Y.1 Y.2 (aY (by omega) (by omega) (ac (eH hu _) (Rx (by rw[H,h1,h2];rfl) ?_ N ho)));rw[J,show (x.n==0||decide (x.n< -4)||decide (x.n>4))=false by simp;omega];rfl
 ·rw[H,h2,Bool.and_false]
 ·rw[H,h1];rfl
theorem T4 (o:x.op=8) (Z:a=(us.length:Int)) (hl:us.length<=1000000) (hu: ∀u∈us,szB u=true) (N:mn inp us x=none->Q QS) (ho: ∀u,mn inp us x=some u->Q (RA u)):TP us x a Q:=by
 subst Z;have H:VT us.length x=(eqN {x with op:=8} {noN with op:=8,l:=x.l}&&earF us.length x.l):=by
  unfold VT;rw[o];show (eqN ⟨0,x.v,x.u,x.n,0,x.r⟩ noN&&_)=_;rw[Rf (c:={x with op:=8}) (d:={noN with op:=8,l:=x.l}) (by obtain⟨a1,a2,a3,a4,a5,a6⟩:=x;simp[noN])]
 have J:fL inp us x=jm (mb noU us x.l.toNat) (1,2):=by unfold fL;rw[o];rfl
 unfold TP;rw[Q4];have V:eqN {x with op:=8} {noN with op:=8,l:=x.l}=true->x.r=0:=λh=>by
  have:=Wn.1 h;exact congrArg Nd.r this
 generalize eqN {x with op:=8} {noN with op:=8,l:=x.l}=e at H V;refine Q5 (VP.2 (by omega)) (ce (λh1=>ce (λh2=>N (QW ?_)) (λh2=> ?_)) (λh1=>N (QW ?_)))
 ·rw[H,show earF us.length x.l=false by simpa using h2,Bool.and_false]
 ·have h2:earF us.length x.l=true:=by simpa using h2
  have Y:=V2.1 h2;have V:=V h1;rw[za7];exact aY Y.1 Y.2 (aY (by omega) (by omega) (ac (eH hu _) (Rx (by rw[H,h1,h2];rfl) J N ho)))
 ·rw[H,h1];rfl
end
variable {n:Nat}
theorem Ue {C:RC} {src:zdT} {Cs:zdU} {nx:Nat} {gm:zdX} {ann:zdV} {f:FuncId} {args:zdK} {r:SV} (x:C.X) (J:C.spec x) (h1:C.pan x=none) (h2:r.ids= []) (h3:C.out x=r) (h4:C.nw x= []) (h5:C.ch x= []) (h6: ∀C∈Cs,cN C.kd=false) (H:src.length=Cs.length)
 (h:JL gm ann n f args Cs (Go.Sy.okK λs _ _ _=>s=r)):JL gm ann n f args Cs (KB C src Cs nx):=Q8 h λq b m w hq=>by
 cases q with
 |pan v=>exact hq.elim
 |ok s=>
  obtain rfl:s=r:=hq;exact IG x J h1 h2 h3 h4 h5 h6 H
variable {p:Pr} {us:zdZ} {x:Nd}
theorem T5 {Q:zdR} (N:us.length<=1000000) (hi:p.inp.length<=1000000) (V: ∀u∈us,szB u=true) (Z:szN x=true) (hop:1<=x.op/\x.op<=8) (Y:Q (.tup [.agg (ci (tyF p.inp us x).1), .val (.int .i64 (tyF p.inp us x).2)])):
 JL [] (λ_ _=>none) 6 80 (tyA p us x us.length) (tyB p us) (Go.Sy.okK λr _ _ _=>Q r):=by
 obtain⟨H,J⟩:=tyQ Y;have E: ∀{op:Int},x.op=op->Re op p us x us.length Q->JL [] (λ_ _=>none) 6 80 (tyA p us x us.length) (tyB p us) (Go.Sy.okK λr _ _ _=>Q r):=λ{op} h k=>by
  rw[<-dW h];exact k
 rcases(show x.op=1\/x.op=2\/x.op=3\/x.op=4\/x.op=5\/x.op=6\/x.op=7\/x.op=8 by omega) with o|o|o|o|o|o|o|o
 ·exact E o (by rw[TQ];exact TZ o Z H J)
 ·exact E o (by rw[TR];exact T0 rfl hi o H J)
 ·exact E o (by rw[TS];exact RV o (by decide) rfl N V (by unfold fL;rw[o];rfl) H J)
 ·exact E o (by rw[TT];exact RV o (by decide) rfl N V (by unfold fL;rw[o];rfl) H J)
 ·exact E o (by rw[TU];exact RV o (by decide) rfl N V (by unfold fL;rw[o];rfl) H J)
 ·exact E o (by rw[TW];exact RV o (by decide) rfl N V (by unfold fL;rw[o];rfl) H J)
 ·exact E o (by rw[TX];exact T3 o rfl N V H J)
 ·exact E o (by rw[TY];exact T4 o rfl N V H J)
theorem ZR: ∀B:Base,GlobB B->VU prog B 80 SZ:=Sh MOk.nil λbl nx args C N hp=>by
 unfold SZ at N;split at N
 ·rename_i s cs at_ t;split at N
  ·rename_i a b o n g Z ht;simp only[za1] at N;subst N;simp only[za2,zdt] at hp;obtain⟨⟨⟨⟨⟨⟨⟨⟨h0,rfl⟩,hn⟩,hg⟩,h1⟩,h2⟩,rfl⟩,h3⟩,h4⟩:=hp;obtain⟨x,rfl⟩: ∃x,cs=svN x:=⟨_,ua h1⟩;rw[fR] at h2 h3 h4;obtain⟨s1,s2,s3,s4,s5,s6⟩:=eX (f:=rnF [a.o1,a.o2,o] [] nx) Z h0 rfl rfl;obtain⟨t1,t2⟩:=cq (f:=rnF [a.o1,a.o2,o] [] nx) ht hg;have J:(eU.list n g).length=n:=El.list_length;have Y:(eU.list n g).length<=1000000:=by rw[J];exact zak hn
   have H: ∀C∈tyB a.p (eU.list n g),cN C.kd=false/\C.kd.map=false:=by simp[tyB,cN,El.old,BK.map]
   refine⟨[a.o1,a.o2,o],tyB a.p (eU.list n g),tyA a.p (eU.list n g) x n,λ_ _=>none,6,aw s1 (aw s2 (aw t1 trivial)),bH (λC V=>(H C V).1),cd (λC V=>(H C V).2),ar s3 (ar (Xs (rns_free (arA x))) (ar rfl (ar (t2 2 rfl) rfl))), ?_⟩;refine Ue () trivial rfl (r:= .tup [.agg (ci (tyF a.p.inp (eU.list n g) x).1), .val (.int .i64 (tyF a.p.inp (eU.list n g) x).2)]) rfl rfl rfl rfl (λC V=>(H C V).1) (by rfl) ?_;have:=T5 (p:=a.p) (us:=eU.list n g) (x:=x) (Q:=λr=>r= .tup [.agg (ci (tyF a.p.inp (eU.list n g) x).1), .val (.int .i64 (tyF a.p.inp (eU.list n g) x).2)]) Y s5 (El.good_list hg) h2 ⟨h3,h4⟩ rfl;rw[J] at this;exact this
  ·cases N
 ·cases N
theorem arx (h:aci p=true):((∀x∈p.inp,szB x=true)/\ ∀x∈p.nod,szN x=true)/\szB p.out=true:=by
 unfold aci at h;simpa only[za2,zaf] using h
def n8 (c:Bool) (K:Prop):Prop:=af c (Unit->True->K)
def shQ (Q:zdR) (b l:Bool):Prop:=Q (.tup [.val (.bool b), .val (.bool l)])
def as1 (x:Nd) (a:Int) (Q:zdR):Prop:=
 af (dC (eqN x {noN with op:=x.op,l:=x.l,r:=x.r}) (inR .i64 (a - 1))) (ag (eqN x {noN with op:=x.op,l:=x.l,r:=x.r})
  (af (dC (wiB x.l 0 (a - 1)) (inR .i64 (a - 1))) (ag (wiB x.l 0 (a - 1)) (shQ Q (wiB x.r 0 (a - 1)) true) (shQ Q false true)))
  (af (dC false (inR .i64 (a - 1))) (shQ Q false true)))
def shR (x:Nd) (a:Int) (Q:zdR):Prop:=
 ag (x.op==7) (af (dC (eqN x {noN with op:=x.op,n:=x.n,l:=x.l}) (inR .i64 (a - 1))) (ag (eqN x {noN with op:=x.op,n:=x.n,l:=x.l})
  (ag (wiB x.l 0 (a - 1)) (shQ Q (bif wiB x.n (-4) 4 then x.n !=0 else false) true) (shQ Q false true)) (shQ Q false true))) (
 ag (x.op==8) (af (dC (eqN x {noN with op:=x.op,l:=x.l}) (inR .i64 (a - 1))) (ag (eqN x {noN with op:=x.op,l:=x.l}) (shQ Q (wiB x.l 0 (a - 1)) true) (shQ Q false true))) (
 shQ Q false false))
def shB (x:Nd) (a:Int) (Q:zdR) (k:Int):Prop:=ag (x.op==k) (as1 x a Q) (shR x a Q)
def shT (p:Pr) (x:Nd) (a:Int) (Q:zdR):Prop:=
 ag (x.op==1) (af (uzR x.v) (af (aH x.u) (shQ Q (bif (bif eqN x {noN with op:=x.op,v:=x.v,u:=x.u} then rV x.v else false) then iy x.u else false) false))) (
 ag (x.op==2) (af (dC (eqN x {noN with op:=x.op,n:=x.n}) (inR .i64 ((p.inp.length:Int) - 1))) (ag (eqN x {noN with op:=x.op,n:=x.n}) (shQ Q (wiB x.n 0 ((p.inp.length:Int) - 1)) false) (shQ Q false false))) (
 ag (x.op==3) (shB x a Q 3) (ag (x.op==4) (shB x a Q 4) (ag (x.op==5) (shB x a Q 5) (shB x a Q 6)))))
theorem atC (p:Pr) (x:Nd) (a:Int) (Q:zdR):JL [] (λ_ _=>none) 6 158 [kB p, .agg (svN x),cI.enc a] [eU.old p.inp,eN.old p.nod] (Go.Sy.okK λr _ _ _=>Q r)=shT p x a Q:=by kernel_rfl
def ato:MCtr:=λbl _ args=>match args with
 | [s, .agg cs, .val (.int .i64 _)]=>match mC bl s with
   |some a=>some {X:=Unit,pre:=a.need&&ndB cs&&(decide ((Vh cs).op<1)||decide (8<(Vh cs).op)),spec:=λ_=>True,out:=λ_=> .tup [.val (.bool false), .val (.bool false)],ex:=λ_=>⟨(),trivial⟩}
   |none=>none
 |_=>none
theorem as2: ∀B:Base,GlobB B->VU prog B 158 ato:=Sh MOk.nil λbl nx args C H hp=>by
 unfold ato at H;split at H
 ·rename_i s cs at_;split at H
  ·rename_i a J;simp only[za1] at H;subst H;simp only[za2,zav,zdt] at hp;obtain⟨⟨h0,h1⟩,h2⟩:=hp;obtain⟨x,rfl⟩: ∃x,cs=svN x:=⟨_,ua h1⟩;rw[fR] at h2;obtain⟨s1,V,Y,Z,s5,s6⟩:=eX (f:=rnF [a.o1,a.o2] [] nx) J h0 rfl rfl;refine⟨[a.o1,a.o2],iK a.p, [kB a.p, .agg (svN x),cI.enc at_],λ_ _=>none,6,aw s1 (aw V trivial),bH (cx _),cd (jG _),ar Y (ar (Xs (rns_free (arA x))) (ar rfl rfl)), ?_⟩;refine Ue () trivial rfl (r:= .tup [.val (.bool false), .val (.bool false)]) rfl rfl rfl rfl (cx _) rfl ?_;unfold iK;rw[atC];have no: ∀{k:Int} {P Q:Prop},1<=k/\k<=8->Q->ag (x.op==k) P Q:=λ{k P Q} N q=>ce (λh=>by have:=int_eq.1 h;omega) λ_=>q;exact no (by decide) (no (by decide) (no (by decide) (no (by decide) (no (by decide) (no (by decide) (no (by decide) (no (by decide) rfl)))))))
  ·cases H
 ·cases H
def atX (o:Int->Bool):MCtr:=λbl _ args=>match args with
 | [s, .agg cs, .val (.int .i64 at_),t]=>match mC bl s,vW bl 20 t with
   |some a,some (b,_,n,g)=>some {X:=Unit,pre:=a.need&&b&&bW n&&eU.good szB n g&&ndB cs&&szN (Vh cs)&&decide (at_=(n:Int))&&o (Vh cs).op,spec:=λ_=>True,out:=λ_=> .tup [.agg (ci (tyF a.p.inp (eU.list n g) (Vh cs)).1), .val (.int .i64 (tyF a.p.inp (eU.list n g) (Vh cs)).2)],ex:=λ_=>⟨(),trivial⟩}
   |_,_=>none
 |_=>none
def asz:MCtr:=atX λ_=>true
def atD:zdX:= [(158,ato)]
theorem as3:MOk atD:=MOk.nil.cons as2
theorem atp (p:Pr) (us:zdZ) (x:Nd) (a:Int) (Q:zdR):JL atD (λ_ _=>none) 6 80 (tyA p us x a) (tyB p us) (Go.Sy.okK λr _ _ _=>Q r)=
 n8 (jn p&&ndB (svN x)&&(decide ((Vh (svN x)).op<1)||decide (8<(Vh (svN x)).op))) (Q QS):=by kernel_rfl
theorem atq {inp:zdZ} (h:x.op<1\/8<x.op):tyF inp us x=(noU,90):=by
 unfold tyF
 rw[QW (by
  unfold VT;rw[zdw (show x.op≠1 by omega),zdw (show x.op≠2 by omega),zdw (show x.op≠7 by omega),zdw (show x.op≠8 by omega)];rcases h with h|h
  ·rw[zds (show ¬3<=x.op by omega)];rfl
  ·rw[zds (show ¬x.op<=6 by omega),Bool.and_false];rfl)]
theorem asA: ∀B:Base,GlobB B->VU prog B 80 (atX λo=>decide (o<1)||decide (8<o)):=Sh as3 λbl nx args C J hp=>by
 unfold atX at J;split at J
 ·rename_i s cs at_ t;split at J
  ·rename_i a b o n g V Y;simp only[za1] at J;subst J;simp only[za2,zav,zdt] at hp;obtain⟨⟨⟨⟨⟨⟨⟨h0,rfl⟩,hn⟩,hg⟩,h1⟩,h2⟩,rfl⟩,h3⟩:=hp;obtain⟨x,rfl⟩: ∃x,cs=svN x:=⟨_,ua h1⟩;rw[fR] at h2 h3;obtain⟨s1,Z,s3,s4,s5,s6⟩:=eX (f:=rnF [a.o1,a.o2,o] [] nx) V h0 rfl rfl;obtain⟨t1,t2⟩:=cq (f:=rnF [a.o1,a.o2,o] [] nx) Y hg;have H: ∀C∈tyB a.p (eU.list n g),cN C.kd=false/\C.kd.map=false:=by simp[tyB,cN,El.old,BK.map]
   refine⟨[a.o1,a.o2,o],tyB a.p (eU.list n g),tyA a.p (eU.list n g) x n,λ_ _=>none,6,aw s1 (aw Z (aw t1 trivial)),bH (λC N=>(H C N).1),cd (λC N=>(H C N).2),ar s3 (ar (Xs (rns_free (arA x))) (ar rfl (ar (t2 2 rfl) rfl))), ?_⟩;refine Ue () trivial rfl (r:=QS) rfl (by show SV.tup _=_;rw[fR,atq h3];rfl) rfl rfl (λC N=>(H C N).1) (by rfl) ?_;rw[atp];refine ac ?_ λ_ _=>rfl;rw[eY s4 s5 s6,show ndB (svN x)=true from rfl,fR];rcases h3 with h3|h3
   ·rw[zdp h3];rfl
   ·rw[zdp h3,Bool.or_true];rfl
  ·cases J
 ·cases J
theorem asB: ∀B:Base,GlobB B->VU prog B 80 asz:=λB hB bl β w nx args C h1 h2 h3 h4 H hp=>by
 unfold asz atX at H;split at H
 ·rename_i s cs at_ t;split at H
  ·rename_i a b o n g J V;simp only[za1] at H;subst H;replace hp:(a.need&&b&&bW n&&eU.good szB n g&&ndB cs&&szN (Vh cs)&&decide (at_=(n:Int))&&true)=true:=hp;rw[zaQ] at hp;by_cases N:1<=(Vh cs).op/\(Vh cs).op<=8
   ·have k:=ZR B hB bl β w nx [s, .agg cs, .val (.int .i64 at_),t] _ h1 h2 h3 h4 (by unfold SZ;simp only[J,V];rfl) (by
     show (_&&_&&_)=true
     rw[hp,zdp N.1,zdp N.2];rfl)
    exact k
   ·have k:=asA B hB bl β w nx [s, .agg cs, .val (.int .i64 at_),t] _ h1 h2 h3 h4 (by unfold atX;simp only[J,V];rfl) (by
     show (_&&_)=true;rw[hp];rcases(show (Vh cs).op<1\/8<(Vh cs).op by omega) with h|h
     ·rw[zdp h];rfl
     ·rw[zdp h,Bool.or_true];rfl)
    exact k
  ·cases H
 ·cases H
def YM (I:Int->Prop) (N:Int):zdV:=λf k=>bif (Nat.beq f 75||Nat.beq f 76)&&Nat.beq k 4 then some (λA=>{X:=Int,inv:=I,tm:=λi=> [(13, .val (.int .i64 i))],mu:=λi=>(N - i).toNat,keep:= [0,1,12]}) else none
def aau (s t:SV) (n:Nat) (p z:Int):Prop:=(TV.v (cI.enc p)=TV.v (cI.enc z)/\tvE s/\tvE t/\tvE (cI.enc (n:Int))/\True)/\(True/\(True/\True))
def ixB (n:Nat) (z:Int) (K:Prop):Prop:=af (decide (0<=z)&&decide (z<(n:Int))&&decide (0+z.toNat<n)) (af (decide (0+z.toNat<n)) K)
def aav (I:Int->Prop) (N:Int) (n:Nat) (ne:Int->Bool) (Kt J:Prop):Prop:=
 ag ((n:Int) !=(n:Int)) J (∃V:Int,I V/\(aau (.slc 0 0 n) (.slc 1 0 n) n 0 V/\ ∀z:Int,I z->ag (decide (z<(n:Int)))
  (ixB n z (ixB n z (ag (ne z) J (af (inR .i64 (z+1)) (∃H:Int,I H/\((N - H).toNat<(N - z).toNat/\aau (.slc 0 0 n) (.slc 1 0 n) n (z+1) H))))))
  Kt))
theorem aae (I:Int->Prop) (N:Int) (l:zdZ) (Q:zdR):dk [] (YM I N) 5 75 [.slc 0 0 l.length, .slc 1 0 l.length] [eU.old l,eU.old l] (Go.Sy.okK λr _ _ _=>Q r)=
 aav I N l.length (λz=> !eqU (mb noU l (0+z.toNat)) (mb noU l (0+z.toNat))) (Q (cB.enc true)) (Q (cB.enc false)):=by kernel_rfl
theorem aaf (I:Int->Prop) (N:Int) (l:ze0) (Q:zdR):dk [] (YM I N) 5 76 [.slc 0 0 l.length, .slc 1 0 l.length] [eN.old l,eN.old l] (Go.Sy.okK λr _ _ _=>Q r)=
 aav I N l.length (λz=> !eqN (mb noN l (0+z.toNat)) (mb noN l (0+z.toNat))) (Q (cB.enc true)) (Q (cB.enc false)):=by kernel_rfl
theorem YD {s t:SV} {p:Int}:aau s t n p p:=⟨⟨rfl,rfl,rfl,rfl,trivial⟩,trivial,trivial,trivial⟩
theorem ZS {z:Int} {K:Prop} (h0:0<=z) (h1:z<n) (k:K):ixB n z K:=ac (by rw[zdp h0,zdp h1,zdp (show 0+z.toNat<n by omega)];rfl) (ac (zdp (by omega)) k)
theorem YE (V:n<=1000000) {ne:Int->Bool} (h: ∀z,ne z=false) {Kt Kf:Prop} (N:Kt):aav (λi=>0<=i/\i<=n) n n ne Kt Kf:=by
 refine ce (λH=>by simp at H) λ_=>⟨0,⟨zat _,by omega⟩,YD, ?_⟩;rintro z ⟨h0,h1⟩;refine ce (λJ=> ?_) (λ_=>N);have J:=zdu J;exact ZS h0 J (ZS h0 J (ce (λH=>by rw[h z] at H;cases H) λ_=>ac (VP.2 (by omega)) ⟨z+1,⟨by omega,by omega⟩,by omega,YD⟩))
open Classical in
def Zy {α:Type} (E:El α) (p:α->Bool):MCtr:=λbl _ args=>match args with
 | [s,t]=>match vW bl E.sz s,vW bl E.sz t with
   |some (N,_,H,g1),some (V,_,J,g2)=>some {X:=Unit,pre:=N&&V&&bW H&&E.good p H g1&&E.good p J g2&&decide (E.list H g1=E.list J g2),spec:=λ_=>True,out:=λ_=>cB.enc true,ex:=λ_=>⟨(),trivial⟩}
   |_,_=>none
 |_=>none
variable {α:Type}
theorem ZT {E:El α} {p:α->Bool} {F:FuncId} (hr: ∀(l:List α) (Q:zdR),l.length<=1000000->Q (cB.enc true)->dk [] (YM (λi=>0<=i/\i<=l.length) l.length) 5 F [.slc 0 0 l.length, .slc 1 0 l.length] [E.old l,E.old l] (Go.Sy.okK λr _ _ _=>Q r)):
 ∀B:Base,GlobB B->VU prog B F (Zy E p):=eW MOk.nil λbl nx args C H hp=>by
 unfold Zy at H;split at H
 ·rename_i s t;split at H
  ·rename_i b1 o1 J g1 b2 o2 n2 g2 h1 h2;simp only[za1] at H;subst H;simp only[za2,zdt] at hp;obtain⟨⟨⟨⟨⟨rfl,rfl⟩,hl⟩,w1⟩,w2⟩,Z⟩:=hp;obtain⟨s1,r1⟩:=cq (f:=rnF [o1,o2] [] nx) h1 w1;obtain⟨Y,r2⟩:=cq (f:=rnF [o1,o2] [] nx) h2 w2;have q1:=r1 0 rfl;have V:=r2 1 rfl;rw[<-Z] at Y V;have N:(E.list J g1).length<=1000000:=by rw[El.list_length];exact zak hl
   refine⟨[o1,o2], [E.old (E.list J g1),E.old (E.list J g1)], [.slc 0 0 (E.list J g1).length, .slc 1 0 (E.list J g1).length],YM (λi=>0<=i/\i<=(E.list J g1).length) (E.list J g1).length,5,aw s1 (aw Y trivial),bH (by simp[cN,El.old]),cd (by simp[El.old,BK.map]),ar q1 (ar V rfl), ?_⟩;exact lz () trivial rfl (r:=cB.enc true) rfl rfl rfl rfl (by simp[cN,El.old]) rfl (hr _ _ N rfl)
  ·cases H
 ·cases H
theorem ZU: ∀B:Base,GlobB B->VU prog B 75 (Zy eU szB):=ZT λl Q J H=>by
 rw[aae];exact YE J (λz=>by rw[Wh.2 rfl];rfl) H
theorem ZV: ∀B:Base,GlobB B->VU prog B 76 (Zy eN szN):=ZT λl Q J H=>by
 rw[aaf];exact YE J (λz=>by rw[Wn.2 rfl];rfl) H
def aaB:zdX:= [(75,Zy eU szB),(76,Zy eN szN)]
theorem aag:MOk aaB:=(MOk.nil.cons ZV).cons ZU
def aap (p:Pr):SV:= .agg ([.val (.int .i64 p.id), .slc 2 0 p.inp.length, .slc 3 0 p.nod.length]++ci p.out)
def Zo (p:Pr):zdU:= [eU.old p.inp,eN.old p.nod,eU.old p.inp,eN.old p.nod]
open Classical in
def Zp {α:Type} (E:El α) (p:α->Bool) (l:List α):Bool:=(Nat.ble l.length l.length&&Nat.beq E.sz E.sz&&true)&&(Nat.ble l.length l.length&&Nat.beq E.sz E.sz&&true)&&bW l.length&&E.good p l.length (E.get l)&&E.good p l.length (E.get l)&&decide (E.list l.length (E.get l)=E.list l.length (E.get l))
theorem Zz (p:Pr) (Q:zdR):dk aaB (λ_ _=>none) 5 17 [kB p,aap p] (Zo p) (Go.Sy.okK λr _ _ _=>Q r)=
 ag (bif p.id==p.id then eqU p.out p.out else false) (af (Zp eU szB p.inp) (Unit->True->af (Zp eN szN p.nod) (Unit->True->Q (cB.enc true)))) (Q (cB.enc false)):=by kernel_rfl
open Classical in
theorem Y1 {E:El α} {p:α->Bool} {l:List α} (h1:l.length<=1000000) (h: ∀x∈l,p x=true):Zp E p l=true:=by
 unfold Zp bW;rw[zae (za0 _),zae h1,El.good_get h,zdp rfl,Nat.beq_refl];rfl
open Classical in
def Y8:MCtr:=λbl _ args=>match args with
 | [s,t]=>match mC bl s,mC bl t with
   |some a,some b=>some {X:=Unit,pre:=a.need&&b.need&&decide (a.p=b.p),spec:=λ_=>True,out:=λ_=>cB.enc true,ex:=λ_=>⟨(),trivial⟩}
   |_,_=>none
 |_=>none
theorem ZW {E:El α} {l:List α} {bl:zdM} {f g:zdY} {o:Option Nat} (h:j5 bl f (E.old l) o):j5 bl g (E.old l) o:=by
 cases o with
 |none=>exact h
 |some i=>
  simp only[j5] at h ⊢;cases hB:bl i with
  |none=>rw[hB] at h;exact h
  |some B=>
   rw[hB] at h;obtain⟨h1,h2,h3,h4,h5,h6⟩:=h
   exact⟨h1,h2,h3,h4,h5,λe H=>by
    have:=h6 e H;have J:SV.idss ((E.old l).get e)= []:=E.ids _;rw[rns_free J] at this ⊢
    exact this⟩
theorem ZA: ∀B:Base,GlobB B->VU prog B 17 Y8:=eW aag λbl nx args C J hp=>by
 unfold Y8 at J;split at J
 ·rename_i s t;split at J
  ·rename_i a b Z Y;simp only[za1] at J;subst J;simp only[za2,zdt] at hp;obtain⟨⟨h1,h2⟩,he⟩:=hp;obtain⟨s1,s2,s3,V,s5,s6⟩:=eX (f:=rnF [a.o1,a.o2,b.o1,b.o2] [] nx) Z h1 rfl rfl;obtain⟨t1,t2,t3,_⟩:=eX (f:=λj=>rnF [a.o1,a.o2,b.o1,b.o2] [] nx (j+2)) Y h2 rfl rfl;rw[<-he] at t1 t2 t3;have H: ∀C∈Zo a.p,cN C.kd=false/\C.kd.map=false:=by simp[Zo,cN,El.old,BK.map]
   refine⟨[a.o1,a.o2,b.o1,b.o2],Zo a.p, [kB a.p,aap a.p],λ_ _=>none,5,aw s1 (aw s2 (aw (ZW t1) (aw (ZW t2) trivial))),bH (λC N=>(H C N).1),cd (λC N=>(H C N).2),ar s3 (ar t3 rfl), ?_⟩;refine lz () trivial rfl (r:=cB.enc true) rfl rfl rfl rfl (λC N=>(H C N).1) rfl ?_;rw[Zz];unfold aci at V;simp only[za2,zaf] at V;have Y:(bif a.p.id==a.p.id then eqU a.p.out a.p.out else false)=true:=by rw[beq_self_eq_true,Wh.2 rfl];rfl
   exact ce (λ_=>ac (Y1 s5 V.1.1) λ_ _=>ac (Y1 s6 V.1.2) λ_ _=>rfl) (λh=>by rw[Y] at h;cases h)
  ·cases J
 ·cases J
end Go.Proofs.YtojcellmcbnmeaaGreatDoor
namespace Go.Proofs.YtojcellmcbnmeaaGreatDoor
end Go.Proofs.YtojcellmcbnmeaaGreatDoor
