import Derived.Test.YtfokhpciehfdnaaGreatDoorZf
import Derived.ProofKit
import Derived.OpenShut
import Derived.Carry
import Derived.Test.YtfokhpciehfdnaaGreatDoorRows
import Derived.HandedShaped
import Derived.LaidMore
import Derived.Lay
import Derived.Lib.LaidTab
import Derived.Shelf.Vars
import Derived.Stop.LaidErr
import Derived.Stop.Joined
set_option linter.unusedVariables false
set_option linter.unusedSimpArgs false
noncomputable section
namespace Go.Proofs.YtfokhpciehfdnaaGreatDoor
open Go.Proofs.Tryz
open Go Go.RowKit Go.Sy Yk
variable {a:Addr} {ann:zdW} {n:Nat} {f:FuncId} {args:zdL} {Cs:zdV} {K K':Aft}
theorem af4 (h:acE a ann n f args Cs K) (hm: ∀r b n w,K r b n w->K' r b n w):acE a ann n f args Cs K':=by
 unfold acE at h ⊢;exact NiceT.mono (Ea _ _ _ _ _ _ f args _ _ _ (λi hi=>zad hi)) h λr b n w _=>hm r b n w
theorem aik {a:Addr} {C:RC} {src:zdU} {Cs:zdV} {nx:Nat} {ann:zdW} {n:Nat} {f:FuncId} {args:zdL} {r:SV} (x:C.X) (hx:C.spec x) (h1:C.pan x=none) (h2:r.ids= []) (h3:C.out x=r) (h4:C.nw x= []) (h5:C.ch x= []) (h6: ∀C∈Cs,cN C.kd=false) (hl:src.length=Cs.length)
 (h:acE a ann n f args Cs (Go.Sy.okK λs _ _ _=>s=r)):Ay prog (iR yr) (gw g9s) (gx af3) (dF a) ann n f args (λi=>Cs[i]?) Cs.length [] (KB C src Cs nx):=by
 have:acE a ann n f args Cs (KB C src Cs nx):=af4 h λq b m w hq=>by
  cases q with
  |pan v=>exact hq.elim
  |ok s=>
   obtain rfl:s=r:=hq;exact IG x hx h1 h2 h3 h4 h5 h6 hl
 unfold acE at this;exact this
abbrev ag2:=Nd×ByteArray
def ag3:List ag2:= [(nI9 0,aeO),(nI9 1,aeP),(nD9,aeQ)]
def afw (x:Nd):List ag2->Option ByteArray
 | []=>none
 |r::l=>bif eqN r.1 x then some r.2 else afw x l
theorem ady {x:Nd} {s:zdI}: ∀{l:List ag2},afw x l=some s->(x,s)∈l
 | [],h=>by cases h
 |r::l,h=>by
  rw[afw] at h;cases hb:eqN r.1 x with
  |false=>rw[hb] at h;exact zan _ (ady h)
  |true=>
   rw[hb,zds] at h;obtain rfl:=Wn.1 hb;obtain rfl:r.2=s:=by simpa using h
   exact zbF ..
theorem ag4 {Q:zdS}: ∀r∈ag3,Q (.val (.string r.2))->acE a acA 5 80 [.agg (svN r.1)] [] (Go.Sy.okK λr _ _ _=>Q r):=λr hr hQ=>by
 unfold ag3 at hr;rcases zai.1 hr with rfl|hr
 ·rw[ajw];exact hQ
 rcases zai.1 hr with rfl|hr
 ·rw[ajx];exact hQ
 rcases zai.1 hr with rfl|hr
 ·rw[ajy];exact hQ
 cases hr
def rcT (s:zdI):RC:={X:=Unit,pre:=true,spec:=λ_=>True,out:=λ_=> .val (.string s),ex:=λ_=>⟨(),trivial⟩}
variable {s:zdI}
theorem akA:(rcT s).spec ():=trivial
theorem akB:(rcT s).pan ()=none:=rfl
theorem akC:(rcT s).nw ()= []:=rfl
theorem akD:(rcT s).ch ()= []:=rfl
theorem akE:(rcT s).out ()= .val (.string s):=rfl
def ag5 (tab:List ag2):MCtr:=λ_ _ args=>match args with
 | [.agg cs]=>bif ndB cs then(match afw (Vh cs) tab with
   |some s=>some (rcT s)
   |none=>none) else none
 |_=>none
theorem ag6 {tab:List ag2} (h: ∀r∈tab,∀Q:zdS,Q (.val (.string r.2))->acE a acA 5 f [.agg (svN r.1)] [] (Go.Sy.okK λr _ _ _=>Q r)):
 ∀B:Base,GlobEB a B->VU prog B f (ag5 tab):=λB hB=>c8 (λB' hs=>ak5 (hB.sub hs)) λbl nx args C hk hp=>by
 unfold ag5 at hk;split at hk
 ·rename_i cs;cases hb:ndB cs with
  |false=>rw[hb] at hk;cases hk
  |true=>
   rw[hb,zds] at hk;split at hk
   ·rename_i s hs;simp only[za1] at hk;subst hk;have key:=h (Vh cs,s) (ady hs) (λr=>r= .val (.string s)) rfl;have e0:Vh cs=(Vh cs,s).1:=rfl;rw[<-e0,<-ua hb] at key;have e1:(SV.val (.string s)).ids= []:=rfl;have e2: ∀C∈([]:zdV),cN C.kd=false:=λC hC=>by cases hC
    have e3:= @aik a (rcT s) [] [] nx acA 5 f [.agg cs] (.val (.string s)) () akA akB e1 akE akC akD e2 rfl key;have e4:SV.rns (rnF [] [] nx) [.agg cs]=some [.agg cs]:=by
     have e:=rns_free (f:=rnF [] [] nx) (arA (Vh cs));rw[<-ua hb] at e;exact ar (Xs e) rfl
    exact⟨[], [], [.agg cs],acA,5,trivial,bH (λC hC=>by cases hC),cd (λC hC=>by cases hC),e4,e3⟩
   ·cases hk
 ·cases hk
def aeR:MCtr:=ag5 ag3
theorem af5: ∀B:Base,GlobEB a B->VU prog B 80 aeR:=by
 unfold aeR;have h: ∀r∈ag3,∀Q:zdS,Q (.val (.string r.2))->acE a acA 5 80 [.agg (svN r.1)] [] (Go.Sy.okK λr _ _ _=>Q r):=λr hr Q hQ=>ag4 r hr hQ;generalize ag3=tab at h;exact ag6 h
def ag7:zdY:=(80,aeR)::af3
theorem afx:MEk a ag7:=afv.cons af5
@[irreducible] def aeS (a:Addr) (ann:zdW) (n:Nat) (f:FuncId) (args:zdL) (Cs:zdV) (K:Aft):Prop:=
 Ay prog (iR yr) (gw g9s) (gx ag7) (dF a) ann n f args (λi=>Cs[i]?) Cs.length [] K
variable {B:Base}
theorem ak8 (hB:GlobEB a B):HypD prog B (iR yr) (gw g9s) (gx ag7) (dF a):=
 have h:=ac9 (gm:=ag7) adv afx hB
 ⟨h.gam,h.mem,h.dem,λf hf=>by
   unfold iR at hf;simp only[zaP] at hf;obtain⟨g,hg,hb⟩:=hf
   rw[zab hb];exact vT g hg,h.mixed⟩
def fnL:SV:= .fn (.func 166) [] []
def fnR:SV:= .fn (.func 167) [] []
def fnN:SV:= .fn (.func 169) [] []
def ac4 (g:zdO):Nat->List (zdL)
 |0=> []
 |n+1=>ac4 g n++ [g n]
def ajz:BK->Bool
 | .own=>true
 |_=>false
def obO (n:Nat):Option Blk->Option (List (zdL))
 |some B=>bif ajz B.kd&&(Nat.beq B.sz 1&&(Nat.ble n B.n&&B.nn)) then some (ac4 B.get n) else none
 |none=>none
def KO (Q:(zdO)->List (Option (List (zdL)))->Prop):Aft:=λr bl _ _=>match r with
 | .ok (.mp m)=>bif Nat.beq m 3 then(match bl 3 with
   |some B=>(match B.kd with
    | .mpL=>bif Nat.beq B.n 0&&(Nat.beq B.sz 0&&B.nn) then Q B.get [obO 2 (bl 1),obO 1 (bl 5),obO 2 (bl 15),obO 1 (bl 17)] else False
    |_=>False)
   |none=>False) else False
 |_=>False
theorem ajA (a:Addr) (Q:(zdO)->List (Option (List (zdL)))->Prop):aeS a zl 9 95 [] [] (KO Q)=Q (opG (opV 1 5 15 17) 8) [some [[fnL], [fnR]],some [[fnN]],some [[fnL], [fnN]],some [[fnL]]]:=by kernel_rfl
def fnG (x y:SV):zdO
 |0=> [x]
 |_=> [y]
def fnB (n:Nat) (x y:SV):Blk:={n:=n,sz:=1,get:=fnG x y,kd:= .own}
def ail (V:Nat->SV):Blk:={n:=0,sz:=0,get:=opG V 8,kd:= .mpL}
def rcO (nx:Nat):RC:={X:=Unit,pre:=true,spec:=λ_=>True,out:=λ_=> .mp (nx+4),nw:=λ_=> [fnB 2 fnL fnR,fnB 1 fnN fnN,fnB 2 fnL fnN,fnB 1 fnL fnL,ail (opV nx (nx+1) (nx+2) (nx+3))],ex:=λ_=>⟨(),trivial⟩}
theorem ag8 {k:BK} (h:ajz k=true):k= .own:=by cases k<;>first|rfl|cases h
theorem acN {o:Option Blk} {l:List (zdL)} (h:obO n o=some l): ∃B,o=some B/\B.kd= .own/\B.sz=1/\(n<=B.n/\B.nn=true)/\ac4 B.get n=l:=by
 cases o with
 |none=>cases h
 |some B=>
  cases hb:(ajz B.kd&&(Nat.beq B.sz 1&&(Nat.ble n B.n&&B.nn))) with
  |false=>rw[obO,hb] at h;cases h
  |true=>
   rw[obO,hb,zds] at h;simp only[za1] at h;simp only[za2] at hb;exact⟨B,rfl,ag8 hb.1,zab hb.2.1,⟨zak hb.2.2.1,hb.2.2.2⟩,h⟩
abbrev aim:zdU:= [some 1,some 5,some 15,some 17,some 3]
variable {nx:Nat}
theorem ajB: ∀k,k<8->(opV 1 5 15 17 k).rn (rnG [] aim nx)=some (opV nx (nx+1) (nx+2) (nx+3) k):=λk hk=>by
 match k,hk with
 |0,_=>rfl
 |1,_=>rfl
 |2,_=>rfl
 |3,_=>rfl
 |4,_=>rfl
 |5,_=>rfl
 |6,_=>rfl
 |7,_=>rfl
theorem adN {g:zdZ} {V V':Nat->SV} (e:Nat): ∀k,(∀j,j<k->(V j).rn g=some (V' j))->SV.rns g (opG V k e)=some (opG V' k e)
 |0,_=>rfl
 |k+1,h=>by
  show SV.rns g (bif Nat.beq e k then [opK k,V k] else opG V k e)=some (bif Nat.beq e k then [opK k,V' k] else opG V' k e);cases Nat.beq e k with
  |true=>exact ar rfl (ar (h k (by omega)) rfl)
  |false=>exact adN e k λj hj=>h j (by omega)
variable {g:zdZ} {x y:SV}
theorem aiN {B:Blk} (hx:x.rn g=some x) (h1:B.kd= .own) (h2:B.sz=1) (h3:1<=B.n/\B.nn=true) (h4:ac4 B.get 1= [[x]]):kx g B (fnB 1 x y):=by
 have h4: [B.get 0]= [[x]]:=h4;simp only[zca,and_true] at h4;refine .inr ⟨h1.symm,h2.symm,λ_=>h3.2,h3.1,λe he=> ?_⟩;obtain rfl:e=0:=by simp[fnB] at he;omega
 rw[h4];exact ar hx rfl
theorem aiO {B:Blk} (hx:x.rn g=some x) (hy:y.rn g=some y) (h1:B.kd= .own) (h2:B.sz=1) (h3:2<=B.n/\B.nn=true) (h4:ac4 B.get 2= [[x], [y]]):kx g B (fnB 2 x y):=by
 have h4: [B.get 0,B.get 1]= [[x], [y]]:=h4;simp only[zca,and_true] at h4;refine .inr ⟨h1.symm,h2.symm,λ_=>h3.2,h3.1,λe he=> ?_⟩;rcases(show e=0\/e=1 by simp[fnB] at he;omega) with rfl|rfl
 ·rw[h4.1];exact ar hx rfl
 ·rw[h4.2];exact ar hy rfl
theorem ak9 {r:Res} {bl:zdN} {wl:zdJ} (h:KO (λg l=>g=opG (opV 1 5 15 17) 8/\l= [some [[fnL], [fnR]],some [[fnN]],some [[fnL], [fnN]],some [[fnL]]]) r bl n wl):KB (rcO nx) [] [] nx r bl n wl:=by
 unfold KO at h;split at h
 ·rename_i m;cases hm:Nat.beq m 3 with
  |false=>rw[hm] at h;exact h.elim
  |true=>
   obtain rfl:=zab hm;rw[hm,zds] at h;split at h
   ·rename_i B hB;split at h
    ·rename_i hk;cases hb:(Nat.beq B.n 0&&(Nat.beq B.sz 0&&B.nn)) with
     |false=>rw[hb] at h;exact h.elim
     |true=>
      rw[hb,zds] at h;obtain⟨hg,hl⟩:=h;simp only[za2] at hb;simp only[zca,and_true] at hl;obtain⟨l1,l2,l3,l4⟩:=hl;obtain⟨B1,e1,k1,z1,m1,c1⟩:=acN l1;obtain⟨B2,e2,k2,z2,m2,c2⟩:=acN l2;obtain⟨B3,e3,k3,z3,m3,c3⟩:=acN l3;obtain⟨B4,e4,k4,z4,m4,c4⟩:=acN l4;have eb:dt [] aim nx (nx+4)=some (some 3):=jA 4;refine⟨(),trivial,aim,⟨_,rfl, ?_⟩,by decide,⟨⟨zaA _, ?_⟩,⟨zaA _, ?_⟩,⟨zaA _, ?_⟩,⟨zaA _, ?_⟩,⟨zaA _, ?_⟩,trivial⟩,trivial⟩
      ·show SV.rn (dt [] aim nx) (.mp (nx+4))=_;simp only[SV.rn,eb]
      ·rw[e1];exact⟨by simp[fnB],λ_=> .inr ⟨by simp[fnB],by simp[fnB]⟩,aiO rfl rfl k1 z1 m1 c1⟩
      ·rw[e2];exact⟨by simp[fnB],λ_=> .inr ⟨by simp[fnB],by simp[fnB]⟩,aiN rfl k2 z2 m2 c2⟩
      ·rw[e3];exact⟨by simp[fnB],λ_=> .inr ⟨by simp[fnB],by simp[fnB]⟩,aiO rfl rfl k3 z3 m3 c3⟩
      ·rw[e4];exact⟨by simp[fnB],λ_=> .inr ⟨by simp[fnB],by simp[fnB]⟩,aiN rfl k4 z4 m4 c4⟩
      ·rw[hB];refine⟨by simp[ail],λh=>(by cases h), .inr ⟨hk.symm,(zab hb.2.1).symm,λ_=>hb.2.2,zaA _,λe=> ?_⟩⟩;rw[hg];exact adN e 8 λj hj=>ajB j hj
    ·exact h.elim
   ·exact h.elim
 ·exact h.elim
theorem af6 (h:aeS a ann n f args Cs K) (hm: ∀r b n w,K r b n w->K' r b n w):aeS a ann n f args Cs K':=by
 unfold aeS at h ⊢;exact NiceT.mono (Ea _ _ _ _ _ _ f args _ _ _ (λi hi=>zad hi)) h λr b n w _=>hm r b n w
def ain:MCtr:=λ_ nx args=>match args with
 | []=>some (rcO nx)
 |_=>none
theorem ag9 (h: ∀Q:(zdO)->List (Option (List (zdL)))->Prop,Q (opG (opV 1 5 15 17) 8) [some [[fnL], [fnR]],some [[fnN]],some [[fnL], [fnN]],some [[fnL]]]->aeS a zl 9 f [] [] (KO Q)):
 ∀B:Base,GlobEB a B->VU prog B f ain:=λB hB=>c8 (λB' hs=>ak8 (hB.sub hs)) λbl nx args C hk hp=>by
 unfold ain at hk;split at hk
 ·simp only[za1] at hk;subst hk;have key:aeS a zl 9 f [] [] (KB (rcO nx) [] [] nx):=af6 (h (λg l=>g=opG (opV 1 5 15 17) 8/\l= [some [[fnL], [fnR]],some [[fnN]],some [[fnL], [fnN]],some [[fnL]]]) ⟨rfl,rfl⟩) λr b n wl hq=>ak9 hq;unfold aeS at key;exact⟨[], [], [],zl,9,trivial,bH (λC hC=>by cases hC),cd (λC hC=>by cases hC),rfl,key⟩
 ·cases hk
theorem aio: ∀B:Base,GlobEB a B->VU prog B 95 ain:=ag9 λQ hQ=>by rw[ajA];exact hQ
def af7:zdY:=(95,ain)::ag7
theorem adO:MEk a af7:=afx.cons aio
@[irreducible] def k8 (a:Addr) (ann:zdW) (n:Nat) (f:FuncId) (args:zdL) (Cs:zdV) (K:Aft):Prop:=
 Ay prog (iR yr) (gw g9s) (gx af7) (dF a) ann n f args (λi=>Cs[i]?) Cs.length [] K
theorem aha (hB:GlobEB a B):HypD prog B (iR yr) (gw g9s) (gx af7) (dF a):=
 have h:=ac9 (gm:=af7) adv adO hB
 ⟨h.gam,h.mem,h.dem,λf hf=>by
   unfold iR at hf;simp only[zaP] at hf;obtain⟨g,hg,hb⟩:=hf
   rw[zab hb];exact vT g hg,h.mixed⟩
end Go.Proofs.YtfokhpciehfdnaaGreatDoor
namespace Go.Sy
open Go.RowKit
def ab2 (src:zdJ) (i:Nat):Option (Option Nat):=match src[i]? with
 |some j=>some (some j)
 |none=>none
variable {src:zdJ}
theorem afy {nx:Nat}:rnF (src.map some) [] nx=ab2 src:=by
 funext i
 unfold rnF ab2;rw[zaL];cases src[i]? <;>rfl
theorem adz: ∀{l:zdJ},ck (l.map some)=l
 | []=>rfl
 |i::r=>by simp[ck,adz (l:=r)]
def isL:BK->Bool
 | .mpL=>true
 |_=>false
def isO:BK->Bool
 | .own=>true
 |_=>false
variable {k:BK}
theorem afz (h:isL k=true):k= .mpL:=by cases k<;>first|rfl|cases h
theorem alK (h:isO k=true):k= .own:=by cases k<;>first|rfl|cases h
def akF (C B:Blk):Bool:=Nat.beq C.sz B.sz&&((!C.nn||(B.nn||Nat.ble 1 C.n))&&(match C.kd with
 | .gone=>true
 | .old=>pa B.kd&&Nat.ble C.n B.n
 | .own=>isO B.kd&&(Nat.ble 1 C.n&&(Nat.ble 1 C.sz&&Nat.ble C.n B.n))
 | .mpL=>isL B.kd&&Nat.beq C.n 0
 |_=>false))
def af8 (f:zdZ) (C:Blk):Nat->List (Option (zdL))
 |0=> []
 |n+1=>af8 f C n++ [SV.rns f (C.get n)]
def af9 (B:Blk):Nat->List (Option (zdL))
 |0=> []
 |n+1=>af9 B n++ [some (B.get n)]
def ahb (bl:zdN):List Nat->List Blk->Bool
 | [], []=>true
 |i::r,C::Cs=>(match bl i with
  |some B=>akF C B
  |none=>false)&&ahb bl r Cs
 |_,_=>false
def aip (bl:zdN):List Nat->List Blk->List (List (Option (zdL)))
 |i::r,C::Cs=>(match bl i with
  |some B=>(match pa C.kd with
   |true=>af9 B C.n
   |false=> [])
  |none=> [])::aip bl r Cs
 |_,_=> []
def aga (f:zdZ):List Blk->List (List (Option (zdL)))
 |C::Cs=>(match pa C.kd with
  |true=>af8 f C C.n
  |false=> [])::aga f Cs
 | []=> []
def agb (bl:zdN):List Nat->List Blk->List (Nat->Option (zdL))
 |i::r,C::Cs=>(match isL C.kd with
  |true=>(match bl i with
   |some B=>(λe=>some (B.get e))::agb bl r Cs
   |none=> [])
  |false=>agb bl r Cs)
 |_,_=> []
def acG (f:zdZ):List Blk->List (Nat->Option (zdL))
 |C::Cs=>(match isL C.kd with
  |true=>(λe=>SV.rns f (C.get e))::acG f Cs
  |false=>acG f Cs)
 | []=> []
theorem aej {f:zdZ} {C:Blk}: ∀{n:Nat},(af8 f C n).length=n
 |0=>rfl
 |n+1=>by rw[af8,za3,aej];rfl
theorem aek {B:Blk}: ∀{n:Nat},(af9 B n).length=n
 |0=>rfl
 |n+1=>by rw[af9,za3,aek];rfl
theorem adP {f:zdZ} {C B:Blk}: ∀{n:Nat},af9 B n=af8 f C n-> ∀e,e<n->SV.rns f (C.get e)=some (B.get e)
 |0,_,e,he=>absurd he (zbn e)
 |n+1,h,e,he=>by
  rw[af9,af8] at h;obtain⟨h1,h2⟩:=List.append_inj h (by rw[aek,aej]);simp only[zca,and_true] at h2;rcases zah e n with k|k
  ·exact adP h1 e k
  ·obtain rfl:e=n:=by omega
   exact h2.symm
theorem ael {bl:zdN} {f:zdZ}: ∀{src:zdJ} {Cs:zdV},ahb bl src Cs=true->aip bl src Cs=aga f Cs->agb bl src Cs=acG f Cs->yw bl f (src.map some) Cs
 | [], [],_,_,_=>trivial
 |i::r,C::Cs,h1,h2,h3=>by
  rw[ahb,za2] at h1;obtain⟨a,b⟩:=h1;rw[aip,aga,zca] at h2;obtain⟨c,h2⟩:=h2;rw[agb,acG] at h3;cases hB:bl i with
  |none=>rw[hB] at a;cases a
  |some B=>
   simp only[hB] at a c h3;have q:agb bl r Cs=acG f Cs/\(C.kd= .mpL-> ∀e,SV.rns f (C.get e)=some (B.get e)):=by
    cases hL:isL C.kd with
    |true=>
     simp only[hL,zca] at h3;exact⟨h3.2,λ_ e=>(congrFun h3.1 e).symm⟩
    |false=>
     simp only[hL] at h3;exact⟨h3,λhk=>by rw[hk] at hL;cases hL⟩
   refine aw ?_ (ael b h2 q.1);show match bl i with
    |some B=>wB f C B
    |none=>False
   rw[hB];simp only[akF,za2] at a;obtain⟨a1,a2,a3⟩:=a;refine⟨zab a1,λhn=> ?_, ?_⟩
   ·rw[hn] at a2;simp only[zbh,zbi,zav] at a2;exact a2.imp id zak
   ·cases hk:C.kd with
    |gone=>trivial
    |old=>
     simp only[hk,za2,pa] at a3 c;obtain⟨k1,k2⟩:=a3;refine⟨λe=>(by rw[e] at k1;cases k1),(by cases hq:B.kd<;>rw[hq] at k1<;>first|rfl|cases k1),zak k2,adP c⟩
    |own=>
     simp only[hk,za2,pa] at a3 c;obtain⟨k1,k2,k3,k4⟩:=a3;exact⟨alK k1,zak k2,zak k3,zak k4,adP c⟩
    |mpL=>
     simp only[hk,za2] at a3;exact⟨afz a3.1,zab a3.2,q.2 hk⟩
    |_=>simp[hk] at a3
 | [],_::_,h,_,_=>by cases h
 |_::_, [],h,_,_=>by cases h
abbrev ahc:=SV×List Blk×List (Nat×Blk)
def rcL (b:Bool) (r:ahc):RC:={X:=Unit,pre:=b,spec:=λ_=>True,out:=λ_=>r.1,nw:=λ_=>r.2.1,ch:=λ_=>r.2.2,ex:=λ_=>⟨(),trivial⟩}
def agc (p:Prop):Bool:= @decide p (Classical.propDecidable p)
theorem ac5 {p:Prop}:agc p=true↔p:=by unfold agc;exact @decide_eq_true_iff p (Classical.propDecidable p)
def aeT (bl:zdN) (src:zdJ) (Cs:zdV):Bool:=agc (aip bl src Cs=aga (ab2 src) Cs)&&agc (agb bl src Cs=acG (ab2 src) Cs)
def aiq (src:zdJ) (Cs:zdV) (args':List SV->Bool) (R:Nat->ahc):MCtr:=λbl nx args=>
 bif args' args&&ahb bl src Cs then some (rcL (aeT bl src Cs) (R nx)) else none
variable {P:Program}
theorem afA {W0:Base} {F:FuncId} {ok:FuncId->Bool} {Γ:zdP} {Γm:FuncId->Option MCtr} {Δ:FuncId->Option DCtr} {Cs:zdV} {args':List SV->Bool} {R:Nat->ahc} {args0:zdL} {ann:zdW} {n:Nat}
 (H: ∀B:Base,SubB B W0->HypD P B ok Γ Γm Δ) (ha: ∀args,args' args=true->SV.rns (ab2 src) args0=some args) (hu:src.Nodup) (hf:Far (src.map some) Cs)
 (hrun: ∀b nx,Ay P ok Γ Γm Δ ann n F args0 (λi=>Cs[i]?) Cs.length [] (KB (rcL b (R nx)) (src.map some) Cs nx)):VU P W0 F (aiq src Cs args' R):=
 c8 H λbl nx args C hk hp=>by
  unfold aiq at hk;cases hb:(args' args&&ahb bl src Cs) with
  |false=>rw[hb] at hk;cases hk
  |true=>
   rw[hb,zds] at hk;simp only[za1] at hk;subst hk;rw[za2] at hb;have hp:aeT bl src Cs=true:=hp;simp only[aeT,za2,ac5] at hp;exact⟨src.map some,Cs,args0,ann,n,by rw[afy];exact ael hb.2 hp.1 hp.2,aeB (by rw[adz];exact hu),hf,by rw[afy];exact ha args hb.1,hrun _ nx⟩
def orM (k l:MCtr):MCtr:=λbl nx args=>match k bl nx args with
 |some C=>some C
 |none=>l bl nx args
theorem aeU {B:Base} {f:FuncId} {k l:MCtr} (hk:VU P B f k) (hl:VU P B f l):VU P B f (orM k l):=by
 intro bl β w nx args C a b c d e p;unfold orM at e;split at e
 ·rename_i C' hC;obtain rfl:C'=C:=by simpa using e
  exact hk bl β w nx args _ a b c d hC p
 ·exact hl bl β w nx args _ a b c d e p
def adQ:List Nat->List Blk->List (Nat×Blk)
 |i::r,C::Cs=>(i,{C with kd:= .gone})::adQ r Cs
 |_,_=> []
theorem aem {bl:zdN} {g:zdZ}: ∀{t:zdJ} {tb:zdV} {j:Nat},t.length=tb.length->(∀C∈tb,C.kd= .own)->(∀k,k<tb.length->(bl (j+k)).isSome=true)->chR bl g (t.map some) tb j (adQ t tb)
 | [], [],_,_,_,_=>trivial
 |i::r,C::Cs,j,hl,ho,hb=>by
  have hk:=ho C (zbF ..);have h0:=hb 0 (by simp);rw[zaY] at h0;obtain⟨B,hB⟩:=Option.isSome_iff_exists.1 h0;simp only[zaK,adQ,chR,hk,cN];refine⟨trivial, .inl trivial, ?_,aem (by simpa using hl) (λD hD=>ho D (zan _ hD)) λk hk=> ?_⟩
  ·rw[hB];exact .inl rfl
  ·have:=hb (k+1) (by simpa using hk);rwa[show j+(k+1)=j+1+k by omega] at this
 | [],_::_,_,hl,_,_=>by simp at hl
 |_::_, [],_,hl,_,_=>by simp at hl
end Go.Sy
namespace Go.Proofs.YtfokhpciehfdnaaGreatDoor
open Go.Proofs.Tryz
open Go Go.RowKit Go.Sy Yk
def adb:SV:= .val (.slice none 0 0)
def cP9 (iI iN:SV) (o:Un) (ic:Nat):zdL:= .val (.int .i64 1)::iI::iN::(ci o++ [.ptr ic 0 0])
def adc (n:Nat) (cs:zdL):Blk:={n:=1,sz:=n,get:=λ_=>cs,kd:= .own}
def fnO (n:Nat) (x y:SV):Blk:={n:=n,sz:=1,get:=fnG x y,kd:= .old}
def np (iN iU:SV):zdV:= [adc 24 (cP9 (.slc 7 0 2) iN noU 1),adc 3 [.mp 2, .slc 7 0 2,iU],ail (opV 3 4 5 6),fnO 2 fnL fnR,fnO 1 fnN fnN,fnO 2 fnL fnN,fnO 1 fnL fnL,eU.old [u0,u2]]
def ajC (n sz:Nat):Blk:={n:=n,sz:=sz,get:=λ_=> [],kd:= .gone,nn:=false}
def CsE (k:Nat) (us:ze0):zdV:= [adc 24 (cP9 (.slc 3 0 2) (.slc 5 0 k) noU 1),{adc 3 [.mp 2, .slc 3 0 2, .slc 4 0 k] with kd:= .old},ajC 0 0,ajC 2 20,eU.old us,ajC k 26]
def alm (g:zdO):Nat->List (zdL)
 |0=> []
 |n+1=>alm g n++ [g n]
def air (bl:zdN):zdR
 |0=>true
 |n+1=>(bl n).isSome&&air bl n
abbrev ade:=(FuncId×Int×List SV×Nat×List (zdL)×List (zdL))×(zdO)
def okN (L:Nat) (bl:zdN) (P C M U N:Blk) (p n p' n' q m m' i j:Nat):Bool:=
 (isO P.kd&&(Nat.beq P.n 1&&(Nat.beq P.sz 24&&P.nn)))&&((isO C.kd&&(Nat.beq C.n 1&&(Nat.beq C.sz 3&&C.nn)))&&((isL M.kd&&(Nat.beq M.n 0&&(Nat.beq M.sz 0&&M.nn)))&&
 ((isO U.kd&&(Nat.beq U.sz 20&&Nat.ble m U.n))&&((isO N.kd&&(Nat.beq N.sz 26&&Nat.ble m N.n))&&((!Nat.beq i j&&(Nat.ble L i&&Nat.ble L j))&&
 ((Nat.beq p 7&&(Nat.beq n 2&&(Nat.beq p' 7&&(Nat.beq n' 2&&(Nat.beq q 2&&Nat.beq m m')))))&&air bl L))))))
def ajD (L:Nat) (bl:zdN):SV->Option ade
 | .fn (.func F) [] []=>match bl 0,bl 1,bl 2 with
   |some P,some C,some M=>match P.get 0,C.get 0 with
    | .val (.int .i64 id):: .slc p 0 n:: .slc j 0 m::r, [.mp q, .slc p' 0 n', .slc i 0 m']=>match bl i,bl j with
      |some U,some N=>bif okN L bl P C M U N p n p' n' q m m' i j then some ((F,id,r,m,alm U.get m,alm N.get m),M.get) else none
      |_,_=>none
    |_,_=>none
   |_,_,_=>none
 |_=>none
def KN (L:Nat) (Q:Option ade->Prop):Aft:=λr bl _ _=>match r with
 | .ok s=>Q (ajD L bl s)
 | .pan _=>False
theorem afB {bl:zdN}: ∀{n k:Nat},air bl n=true->k<n->(bl k).isSome=true
 |n+1,k,h,hk=>by
  rw[air,za2] at h;rcases zah k n with q|q
  ·exact afB h.2 q
  ·obtain rfl:k=n:=by omega
   exact h.1
variable {bl:zdN} {s:SV} {F:FuncId} {id:Int} {m:Nat} {cu cn:List (zdL)}
theorem ahd {L:Nat} {r:zdL} {G:zdO} (h:ajD L bl s=some ((F,id,r,m,cu,cn),G)):
 ∃(i j:Nat) (P C M U N:Blk),s= .fn (.func F) [] []/\bl 0=some P/\bl 1=some C/\bl 2=some M/\bl i=some U/\bl j=some N/\P.get 0= .val (.int .i64 id):: .slc 7 0 2:: .slc j 0 m::r/\C.get 0= [.mp 2, .slc 7 0 2, .slc i 0 m]/\M.get=G/\
  (P.kd= .own/\P.n=1/\P.sz=24/\P.nn=true)/\(C.kd= .own/\C.n=1/\C.sz=3/\C.nn=true)/\(M.kd= .mpL/\M.n=0/\M.sz=0/\M.nn=true)/\(U.kd= .own/\U.sz=20/\m<=U.n)/\(N.kd= .own/\N.sz=26/\m<=N.n)/\i≠j/\L<=i/\L<=j/\(∀k,k<L->(bl k).isSome=true)/\alm U.get m=cu/\alm N.get m=cn:=by
 unfold ajD at h;split at h
 ·split at h
  ·rename_i P C M hP hC hM;split at h
   ·rename_i q1 q2;split at h
    ·rename_i U N hU hN;cases hb:okN L bl P C M U N _ _ _ _ _ _ _ _ _ with
     |false=>rw[hb] at h;cases h
     |true=>
      rw[hb,zds] at h;simp only[za1,zag] at h;obtain⟨⟨rfl,rfl,rfl,rfl,rfl,rfl⟩,rfl⟩:=h;simp only[okN,za2,zap] at hb;obtain⟨⟨a1,a2,a3,a4⟩,⟨b1,b2,b3,b4⟩,⟨c1,c2,c3,c4⟩,⟨d1,d2,d3⟩,⟨e1,e2,e3⟩,⟨f1,f2,f3⟩,⟨g1,g2,g3,g4,g5,g6⟩,k⟩:=hb;obtain rfl:=zab g1;obtain rfl:=zab g2;obtain rfl:=zab g3;obtain rfl:=zab g4;obtain rfl:=zab g5;obtain rfl:=zab g6;refine⟨_,_,P,C,M,U,N,rfl,hP,hC,hM,hU,hN,q1,q2,rfl,⟨alK a1,zab a2,zab a3,a4⟩,⟨alK b1,zab b2,zab b3,b4⟩,⟨afz c1,zab c2,zab c3,c4⟩,⟨alK d1,zab d2,zak d3⟩,⟨alK e1,zab e2,zak e3⟩, ?_,zak f2,zak f3,λk' hk'=>afB k hk',rfl,rfl⟩;intro e;subst e;rw[Nat.beq_refl] at f1;cases f1
    ·cases h
   ·cases h
  ·cases h
 ·cases h
variable {a:Addr} {ann:zdW} {n:Nat} {f:FuncId} {args:zdL} {Cs:zdV} {K K':Aft}
theorem ab3 (h:k8 a ann n f args Cs K) (hm: ∀r b n w,K r b n w->K' r b n w):k8 a ann n f args Cs K':=by
 unfold k8 at h ⊢;exact NiceT.mono (Ea _ _ _ _ _ _ f args _ _ _ (λi hi=>zad hi)) h λr b n w _=>hm r b n w
structure I9 where
 p:Nat
 c:Nat
 m:Nat
 f1:Nat
 f2:Nat
 f3:Nat
 f4:Nat
 i:Nat
def I9.src (x:I9) (t:zdJ):zdJ:=x.p::x.c::x.m::x.f1::x.f2::x.f3::x.f4::x.i::t
def akG (x:I9) (t:zdJ) (tb:zdV) (us:ze0) (ns:ze1) (k:Nat) (nx:Nat):ahc:=
 (.fn (.func 216) [] [], [eU.own us,eN.own ns],(x.p,adc 24 (cP9 (.slc x.i 0 2) (.slc (nx+1) 0 k) noU x.c))::(x.c,adc 3 [.mp x.m, .slc x.i 0 2, .slc nx 0 k])::(x.m,ail (opV x.f1 x.f2 x.f3 x.f4))::adQ t tb)
theorem adA {α:Type} {E:El α} {g:zdO} {l:List α} (h:alm g l.length=l.map E.sv): ∀e,e<l.length->g e=E.get l e:=by
 have: ∀n,alm g n=(List.range n).map g:=by
  intro n
  induction n with
  |zero=>rfl
  |succ n ih=>rw[alm,ih,zd4,zb8];rfl
 rw[this] at h;intro e he;have h1:=congrArg (λl=>l[e]?) h;simp only[zaL,List.getElem?_range he,zb0] at h1;rw[Co (d:=E.d) he] at h1;simp only[zb0,za1] at h1;exact h1
variable {x:I9}
theorem afC {g:zdZ} (h3:g 3=some (some x.f1)) (h4:g 4=some (some x.f2)) (h5:g 5=some (some x.f3)) (h6:g 6=some (some x.f4)): ∀k,k<8->(opV 3 4 5 6 k).rn g=some (opV x.f1 x.f2 x.f3 x.f4 k):=λk hk=>by
 match k,hk with
 |0,_=>rfl
 |1,_=>simp only[opV,SV.rn,SV.rns,h4]
 |2,_=>simp only[opV,SV.rn,SV.rns,h3]
 |3,_=>simp only[opV,SV.rn,SV.rns,h3]
 |4,_=>simp only[opV,SV.rn,SV.rns,h3]
 |5,_=>simp only[opV,SV.rn,SV.rns,h3]
 |6,_=>simp only[opV,SV.rn,SV.rns,h5]
 |7,_=>simp only[opV,SV.rn,SV.rns,h6]
def obk (k:Nat) (us:ze0) (ns:ze1):ade:=((216,1,ci noU++ [.ptr 1 0 0],k,us.map ci,ns.map svN),opG (opV 3 4 5 6) 8)
variable {t wl:zdJ} {tb:zdV} {us:ze0} {ns:ze1} {k nx:Nat} {iN iU:SV} {b:Bool} {r:Res}
theorem kbN (hl:t.length=tb.length) (ho: ∀C∈tb,C.kd= .own) (hu:us.length=k) (hn:ns.length=k) (hk:1<=k)
 (h:KN (8+tb.length) (λq=>q=some (obk k us ns)) r bl n wl):KB (rcL b (akG x t tb us ns k nx)) ((x.src t).map some) (np iN iU++tb) nx r bl n wl:=by
 cases r with
 |pan v=>exact h.elim
 |ok s=>
  obtain⟨i,j,P,C,M,U,N,rfl,hP,hC,hM,hU,hN,p1,c1,m1,⟨p2,p3,p4,p5⟩,⟨c2,c3,c4,c5⟩,⟨m2,m3,m4,m5⟩,⟨u1,u2',u3⟩,⟨n1,n2,n3⟩,hij,li,lj,ha,cu,cn⟩:=ahd h;have hsl:((x.src t).map some).length=8+tb.length:=by simp[I9.src,hl];omega
  have gi: ∀q,8+tb.length<=q->rnG ((x.src t).map some) [some i,some j] nx q=match D9 [some i,some j] q nx with
   |some j=>some (some j)
   |none=>none:=λq hq=>by
   unfold rnG;rw[zad (by omega)];rfl
  have g1:rnG ((x.src t).map some) [some i,some j] nx i=some (some nx):=by
   rw[gi i li];simp[D9]
  have g2:rnG ((x.src t).map some) [some i,some j] nx j=some (some (nx+1)):=by
   rw[gi j lj,D9,D9,show Nat.beq i j=false from by rw[bS];exact zdt hij,zdr,show Nat.beq j j=true from by rw[bS];exact zdq rfl];rfl
  have hlen:(np iN iU++tb).length=8+tb.length:=by simp[np];omega
  subst hu;refine⟨(),trivial, [some i,some j],⟨_,rfl,rfl⟩,by simp[ck,hij],⟨⟨by rw[hlen];exact li, ?_⟩,⟨by rw[hlen];exact lj, ?_⟩,trivial⟩, ?_⟩
  ·rw[hU];refine⟨by simp[El.own],λ_=> .inr ⟨hk,eU.one⟩,gC u1 u2' u3 λe he=>adA (E:=eU) cu e he⟩
  ·rw[hN];refine⟨by simp[El.own],λ_=> .inr ⟨by simpa [El.own,hn] using hk,eN.one⟩,gC n1 n2 (by rw[hn];exact n3) λe he=>adA (E:=eN) (by rw[hn];exact cn) e he⟩
  ·have e7:rnG ((x.src t).map some) [some i,some j] nx 7=some (some x.i):=rfl;have eP:SV.rns (rnG ((x.src t).map some) [some i,some j] nx) (P.get 0)=some (cP9 (.slc x.i 0 2) (.slc (nx+1) 0 us.length) noU x.c):=by
    rw[p1];refine ar rfl (ar (by simp only[SV.rn,e7]) (ar (by simp only[SV.rn,g2]) ?_));rfl
   have eC:SV.rns (rnG ((x.src t).map some) [some i,some j] nx) (C.get 0)=some [.mp x.m, .slc x.i 0 2, .slc nx 0 us.length]:=by
    rw[c1];exact ar rfl (ar (by simp only[SV.rn,e7]) (ar (by simp only[SV.rn,g1]) rfl))
   have hg:=aem (bl:=bl) (g:=rnG ((x.src t).map some) [some i,some j] nx) (j:=8) hl ho λk hk=>ha (8+k) (by omega);refine⟨rfl, .inl rfl, ?_,rfl, .inl rfl, ?_,rfl, .inr (λe=>by cases e), ?_,hg⟩
   ·rw[hP];refine .inr ⟨p2.symm,p4.symm,λ_=>p5,by rw[p3];exact za0 _,λe he=> ?_⟩;obtain rfl:e=0:=by simp[adc] at he;omega
    exact eP
   ·rw[hC];refine .inr ⟨c2.symm,c4.symm,λ_=>c5,by rw[c3];exact za0 _,λe he=> ?_⟩;obtain rfl:e=0:=by simp[adc] at he;omega
    exact eC
   ·rw[hM];refine .inr ⟨m2.symm,m4.symm,λ_=>m5,by rw[m3];exact za0 _,λe=> ?_⟩;rw[m1];exact adN e 8 (afC rfl rfl rfl rfl)
def ais (p:Nat) (T:zdI):List SV->Bool
 | [.ptr i 0 0, .val (.string s)]=>Nat.beq i p&&seq T s
 |_=>false
variable {src:zdJ} {T:zdI}
theorem afD {x:Nat} (h:ais x T args=true):SV.rns (ab2 (x::src)) [.ptr 0 0 0, .val (.string T)]=some args:=by
 unfold ais at h;split at h
 ·rw[za2] at h;obtain rfl:=zab h.1;obtain rfl:=We.1 h.2;rfl
 ·cases h
theorem akH (h: ∀C∈tb,C.kd= .own) (src:zdU):Far src (np iN iU++tb):= .inr λj C i hj _ hk=>by
 match j,hj with
 |0,hj=>obtain rfl:=zbk hj;cases hk
 |1,hj=>obtain rfl:=zbk hj;cases hk
 |2,hj=>obtain rfl:=zbk hj;cases hk
 |3,hj=>obtain rfl:=zbk hj;exact⟨by decide,by decide⟩
 |4,hj=>obtain rfl:=zbk hj;exact⟨by decide,by decide⟩
 |5,hj=>obtain rfl:=zbk hj;exact⟨by decide,by decide⟩
 |6,hj=>obtain rfl:=zbk hj;exact⟨by decide,by decide⟩
 |7,hj=>obtain rfl:=zbk hj;exact⟨by decide,by decide⟩
 |q+8,hj=>
  have hj:tb[q]? =some C:=hj;rw[h C (zal hj)] at hk;cases hk
def kN9 (x:I9) (t:zdJ) (tb:zdV) (iN iU:SV) (T:zdI) (us:ze0) (ns:ze1) (k:Nat):MCtr:=aiq (x.src t) (np iN iU++tb) (ais x.p T) (akG x t tb us ns k)
theorem aeV (hd:(x.src t).Nodup) (hl:t.length=tb.length) (ho: ∀C∈tb,C.kd= .own) (hu:us.length=k) (hn:ns.length=k) (hk:1<=k)
 (h: ∀Q:Option ade->Prop,Q (some (obk k us ns))->k8 a ann 9 F [.ptr 0 0 0, .val (.string T)] (np iN iU++tb) (KN (8+tb.length) Q)):
 ∀B:Base,GlobEB a B->VU prog B F (kN9 x t tb iN iU T us ns k):=λB hB=>
 afA (ann:=ann) (n:=9) (λB' hs=>aha (hB.sub hs)) (λargs h=>afD h) hd (akH ho _) λb nx=>by
  have:=ab3 (h (λq=>q=some (obk k us ns)) rfl) λr b' n wl hq=>kbN (x:=x) (t:=t) (b:=b) (nx:=nx) (iN:=iN) (iU:=iU) hl ho hu hn hk hq;unfold k8 at this;exact this
def ajE:zdI:=⟨#[111,117,116,112,117,116,32,100,105,102,102,101,114,101,110,99,101,32,107,105,110,100,32,48,32,102,97,99,116,111,114,32,49,32,111,102,102,115,101,116,32,48,32,109,94,49,32,115,94,45,49]⟩
abbrev tb1:zdV:= [eU.own [u0],eN.own [nI9 0]]
abbrev tb2:zdV:= [eU.own [u0,u2],eN.own [nI9 0,nI9 1]]
theorem akI (a:Addr) (I:ByteArray->WdX->Prop) (Q:Option ade->Prop):k8 a (alF I) 9 216 [.ptr 0 0 0, .val (.string aeO)] (np adb adb++ []) (KN 8 Q)=
 adL (I ti9) (opV 3 4 5 6) (mT9 0 aeO ti9 t09 20 28) ti9 2 (uK (uK (uK (Q (some (obk 1 [u0] [nI9 0])))))):=by kernel_rfl
theorem akJ (a:Addr) (I:ByteArray->WdX->Prop) (Q:Option ade->Prop):k8 a (alF I) 9 216 [.ptr 0 0 0, .val (.string aeP)] (np (.slc 9 0 1) (.slc 8 0 1)++tb1) (KN 10 Q)=
 adL (I ti9) (opV 3 4 5 6) (mT9 0 aeP ti9 t19 22 30) ti9 2 (uK (uK (uK (Q (some (obk 2 [u0,u2] [nI9 0,nI9 1])))))):=by kernel_rfl
theorem akK (a:Addr) (I:ByteArray->WdX->Prop) (Q:Option ade->Prop):k8 a (alF I) 9 216 [.ptr 0 0 0, .val (.string aeQ)] (np (.slc 9 0 2) (.slc 8 0 2)++tb2) (KN 10 Q)=
 adL (I td9) (opV 3 4 5 6) (mT9 0 aeQ td9 ak7 22 30) td9 6 (uK (uK (uK (uK (Q (some (obk 3 [u0,u2,uo] [nI9 0,nI9 1,nD9]))))))):=by kernel_rfl
def ajF (bl:zdN):SV->Option (FuncId×List SV)
 | .fn (.func F) [] []=>match bl 0 with
   |some P=>bif isO P.kd&&(Nat.beq P.n 1&&(Nat.beq P.sz 24&&P.nn)) then some (F,P.get 0) else none
   |none=>none
 |_=>none
def KE (Q:Option (FuncId×List SV)->Prop):Aft:=λr bl _ _=>match r with
 | .ok s=>Q (ajF bl s)
 | .pan _=>False
theorem akL (a:Addr) (I:ByteArray->WdX->Prop) (Q:Option (FuncId×List SV)->Prop):k8 a (alF I) 9 216 [.ptr 0 0 0, .val (.string ajE)] (CsE 3 [u0,u2,uo]) (KE Q)=
 uK (Q (some (262,cP9 (.slc 3 0 2) (.slc 5 0 3) uo 1))):=by kernel_rfl
def akM (p c i n k:Nat):ahc:=(.fn (.func 262) [] [], [], [(p,adc 24 (cP9 (.slc i 0 2) (.slc n 0 k) uo c))])
theorem ahe {cs:zdL} (h:ajF bl s=some (F,cs)): ∃P,s= .fn (.func F) [] []/\bl 0=some P/\P.get 0=cs/\P.kd= .own/\P.n=1/\P.sz=24/\P.nn=true:=by
 unfold ajF at h;split at h
 ·split at h
  ·rename_i P hP;cases hb:(isO P.kd&&(Nat.beq P.n 1&&(Nat.beq P.sz 24&&P.nn))) with
   |false=>rw[hb] at h;cases h
   |true=>
    rw[hb,zds] at h;simp only[za1,zag] at h;obtain⟨rfl,rfl⟩:=h;simp only[za2] at hb;obtain⟨a1,a2,a3,a4⟩:=hb;exact⟨P,rfl,hP,rfl,alK a1,zab a2,zab a3,a4⟩
  ·cases h
 ·cases h
variable {p c i:Nat}
theorem ala {u:Nat} {q:Nat} 
 (h:KE (λq=>q=some (262,cP9 (.slc 3 0 2) (.slc 5 0 k) uo 1)) r bl q wl):KB (rcL b (akM p c i n k)) ([p,c,m,i,u,n].map some) (CsE k us) nx r bl q wl:=by
 cases r with
 |pan v=>exact h.elim
 |ok s=>
  obtain⟨P,rfl,hP,p1,p2,p3,p4,p5⟩:=ahe h;refine⟨(),trivial, [],⟨_,rfl,rfl⟩,zcB,trivial,rfl, .inl rfl, ?_,trivial⟩;rw[hP];refine .inr ⟨p2.symm,p4.symm,λ_=>p5,by rw[p3];exact za0 _,λe he=> ?_⟩;obtain rfl:e=0:=by simp[adc] at he;omega
  rw[p1];rfl
def kE9 (p c m i u n k:Nat) (us:ze0) (T:zdI):MCtr:=aiq [p,c,m,i,u,n] (CsE k us) (ais p T) (λ_=>akM p c i n k)
theorem ajG {u:Nat} (hd: [p,c,m,i,u,n].Nodup)
 (h: ∀Q:Option (FuncId×List SV)->Prop,Q (some (262,cP9 (.slc 3 0 2) (.slc 5 0 k) uo 1))->k8 a ann 9 F [.ptr 0 0 0, .val (.string T)] (CsE k us) (KE Q)):
 ∀B:Base,GlobEB a B->VU prog B F (kE9 p c m i u n k us T):=λB hB=>
 afA (ann:=ann) (n:=9) (λB' hs=>aha (hB.sub hs)) (λargs h=>afD h) hd (.inl λC hC=>by
  simp only[CsE,zai,zbx,or_false] at hC
  rcases hC with rfl|rfl|rfl|rfl|rfl|rfl<;>rfl) λb nx=>by
  have:=ab3 (h (λq=>q=some (262,cP9 (.slc 3 0 2) (.slc 5 0 k) uo 1)) rfl) λr b' n' wl hq=>ala (k:=k) (nx:=nx) (m:=m) (u:=u) (n:=n) (p:=p) (c:=c) (i:=i) (us:=us) (b:=b) hq;unfold k8 at this;exact this
def xI9:I9:=⟨4,403,400,396,397,398,399,311⟩
def ahf:MCtr:=
 orM (kN9 xI9 [] [] adb adb aeO [u0] [nI9 0] 1) (orM (kN9 xI9 [410,411] tb1 (.slc 9 0 1) (.slc 8 0 1) aeP [u0,u2] [nI9 0,nI9 1] 2)
  (orM (kN9 xI9 [448,449] tb2 (.slc 9 0 2) (.slc 8 0 2) aeQ [u0,u2,uo] [nI9 0,nI9 1,nD9] 3) (kE9 4 403 400 311 485 486 3 [u0,u2,uo] ajE)))
theorem afE: ∀C∈tb1,C.kd= .own:=λC hC=>by
 rcases zai.1 hC with rfl|hC
 ·rfl
 ·rw[zaj.1 hC];rfl
theorem afF: ∀C∈tb2,C.kd= .own:=λC hC=>by
 rcases zai.1 hC with rfl|hC
 ·rfl
 ·rw[zaj.1 hC];rfl
theorem agd: ∀B:Base,GlobEB a B->VU prog B 216 ahf:=λB hB=>by
 have h1: ∀Q:Option ade->Prop,Q (some (obk 1 [u0] [nI9 0]))->k8 a (alF aeM) 9 216 [.ptr 0 0 0, .val (.string aeO)] (np adb adb++ []) (KN (8+0) Q):=λQ hQ=>by
  rw[akI];exact acn aeN rfl λ_ _ _ _ _ _=>hQ
 have h2: ∀Q:Option ade->Prop,Q (some (obk 2 [u0,u2] [nI9 0,nI9 1]))->k8 a (alF aeM) 9 216 [.ptr 0 0 0, .val (.string aeP)] (np (.slc 9 0 1) (.slc 8 0 1)++tb1) (KN (8+2) Q):=λQ hQ=>by
  rw[akJ];exact acn aeN rfl λ_ _ _ _ _ _=>hQ
 have h3: ∀Q:Option ade->Prop,Q (some (obk 3 [u0,u2,uo] [nI9 0,nI9 1,nD9]))->k8 a (alF aeM) 9 216 [.ptr 0 0 0, .val (.string aeQ)] (np (.slc 9 0 2) (.slc 8 0 2)++tb2) (KN (8+2) Q):=λQ hQ=>by
  rw[akK];exact acn aeN rfl λ_ _ _ _ _ _ _ _=>hQ
 have h4: ∀Q:Option (FuncId×List SV)->Prop,Q (some (262,cP9 (.slc 3 0 2) (.slc 5 0 3) uo 1))->k8 a (alF aeM) 9 216 [.ptr 0 0 0, .val (.string ajE)] (CsE 3 [u0,u2,uo]) (KE Q):=λQ hQ=>by
  rw[akL];exact λ_ _=>hQ
 exact aeU (aeV (x:=xI9) (t:= []) (tb:= []) (us:= [u0]) (ns:= [nI9 0]) (k:=1) (iN:=adb) (iU:=adb) (T:=aeO) (by decide) rfl (λC hC=>by cases hC) rfl rfl (by decide) h1 B hB)
  (aeU (aeV (x:=xI9) (t:= [410,411]) (tb:=tb1) (us:= [u0,u2]) (ns:= [nI9 0,nI9 1]) (k:=2) (iN:= .slc 9 0 1) (iU:= .slc 8 0 1) (T:=aeP) (by decide) rfl afE rfl rfl (by decide) h2 B hB)
  (aeU (aeV (x:=xI9) (t:= [448,449]) (tb:=tb2) (us:= [u0,u2,uo]) (ns:= [nI9 0,nI9 1,nD9]) (k:=3) (iN:= .slc 9 0 2) (iU:= .slc 8 0 2) (T:=aeQ) (by decide) rfl afF rfl rfl (by decide) h3 B hB) (ajG (by decide) h4 B hB)))
def ait:zdY:=(216,ahf)::af7
theorem aiu:MEk a ait:=adO.cons agd
@[irreducible] def acf (a:Addr) (ann:zdW) (n:Nat) (f:FuncId) (args:zdL) (Cs:zdV) (K:Aft):Prop:=
 Ay prog (iR yr) (gw g9s) (gx ait) (dF a) ann n f args (λi=>Cs[i]?) Cs.length [] K
variable {B:Base}
theorem akN (hB:GlobEB a B):HypD prog B (iR yr) (gw g9s) (gx ait) (dF a):=
 have h:=ac9 (gm:=ait) adv aiu hB
 ⟨h.gam,h.mem,h.dem,λf hf=>by
   unfold iR at hf;simp only[zaP] at hf;obtain⟨g,hg,hb⟩:=hf
   rw[zab hb];exact vT g hg,h.mixed⟩
theorem aeW (h:acf a ann n f args Cs K) (hm: ∀r b n w,K r b n w->K' r b n w):acf a ann n f args Cs K':=by
 unfold acf at h ⊢;exact NiceT.mono (Ea _ _ _ _ _ _ f args _ _ _ (λi hi=>zad hi)) h λr b n w _=>hm r b n w
abbrev aen:=Int×Nat×Nat×Int×Int×List (zdL)×List (zdL)×List SV
def ahg:BK->Bool
 | .own=>true
 |_=>false
def ajH (bl:zdN):SV->Option aen
 | .tup [.agg (.val (.int .i64 id):: .slc i 0 n:: .slc j 0 m::r), .val (.int .i64 z), .val (.int .i64 e)]=>match bl i,bl j with
   |some B,some C=>bif ahg B.kd&&(ahg C.kd&&(Nat.beq B.sz 20&&(Nat.beq C.sz 26&&(Nat.ble n B.n&&(Nat.ble m C.n&& !Nat.beq i j))))) then some (id,n,m,z,e,alm B.get n,alm C.get m,r) else none
   |_,_=>none
 |_=>none
def K9 (Q:Option aen->Prop):Aft:=λr bl _ _=>match r with
 | .ok s=>Q (ajH bl s)
 | .pan _=>False
def aiv:aen:=(1,2,3,0,0, [ci u0,ci u2], [svN (nI9 0),svN (nI9 1),svN nD9],ci uo)
def akO (src:zdJ) (Cs:zdV) (G:List (Nat->Option (zdL))):Bool:=agc (aga (ab2 src) Cs=aga (ab2 src) Cs)&&agc (G=acG (ab2 src) Cs)
def age:List (Nat->Option (zdL)):= [λe=>some (opG (opV 396 397 398 399) 8 e)]
def nd9 (src:zdJ) (Cs:zdV) (G:List (Nat->Option (zdL))) (K:Prop):Prop:=af (akO src Cs G) (uK K)
def afG (Q:Option aen->Prop):Prop:=
 uK (uK (uK (uK (uK (nd9 (xI9.src []) (np adb adb++ []) age (nd9 (xI9.src [410,411]) (np (.slc 9 0 1) (.slc 8 0 1)++tb1) age (nd9 (xI9.src [448,449]) (np (.slc 9 0 2) (.slc 8 0 2)++tb2) age (
  nd9 [4,403,400,311,485,486] (CsE 3 [u0,u2,uo]) [] (Q (some aiv))))))))))
theorem agf (a:Addr) (Q:Option aen->Prop):acf a zl 9 25 [.val (.string spT)] [] (K9 Q)=afG Q:=by kernel_rfl
theorem adR (h: ∀C∈tb,C.kd= .own):age=acG (ab2 (xI9.src t)) (np iN iU++tb):=by
 have e:acG (ab2 (xI9.src t)) tb= []:=by
  generalize ab2 (xI9.src t)=f
  induction tb with
  |nil=>rfl
  |cons C r ih=>
   rw[acG,h C (zbF ..)];exact ih λD hD=>h D (zan _ hD)
 show age=(λe=>SV.rns (ab2 (xI9.src t)) (opG (opV 3 4 5 6) 8 e))::acG (ab2 (xI9.src t)) tb;rw[e];unfold age
 congr 1
 funext e
 exact(adN e 8 (afC (x:=xI9) rfl rfl rfl rfl)).symm
theorem adS {G:List (Nat->Option (zdL))} {K:Prop} (h:G=acG (ab2 src) Cs) (k:K):nd9 src Cs G K:=by
 unfold nd9 akO uK;refine ac ?_ λ_ _=>k;rw[za2];exact⟨ac5.2 rfl,ac5.2 h⟩
theorem aeX {Q:Option aen->Prop} (hQ:Q (some aiv)):acf a zl 9 25 [.val (.string spT)] [] (K9 Q):=by
 rw[agf];unfold afG;exact λ_ _ _ _ _ _ _ _ _ _=>adS (adR λC hC=>by cases hC) (adS (adR afE) (adS (adR afF) (adS rfl hQ)))
theorem aeo {k:BK} (h:ahg k=true):k= .own:=by cases k<;>first|rfl|cases h
theorem ahh {z e:Int} {r:zdL} (h:ajH bl s=some (id,n,m,z,e,cu,cn,r)):
 ∃(i j:Nat) (B C:Blk),s= .tup [.agg (.val (.int .i64 id):: .slc i 0 n:: .slc j 0 m::r), .val (.int .i64 z), .val (.int .i64 e)]/\bl i=some B/\bl j=some C/\B.kd= .own/\C.kd= .own/\B.sz=20/\C.sz=26/\n<=B.n/\m<=C.n/\i≠j/\alm B.get n=cu/\alm C.get m=cn:=by
 unfold ajH at h;split at h
 ·split at h
  ·rename_i B C hB hC;cases hb:(ahg B.kd&&(ahg C.kd&&(Nat.beq B.sz 20&&(Nat.beq C.sz 26&&(Nat.ble _ B.n&&(Nat.ble _ C.n&& !Nat.beq _ _)))))) with
   |false=>rw[hb] at h;cases h
   |true=>
    rw[hb,zds] at h;simp only[za1,zag] at h;obtain⟨rfl,rfl,rfl,rfl,rfl,rfl,rfl,rfl⟩:=h;simp only[za2,zap] at hb;obtain⟨h1,h2,h3,h4,h5,h6,h7⟩:=hb;refine⟨_,_,B,C,rfl,hB,hC,aeo h1,aeo h2,zab h3,zab h4,zak h5,zak h6, ?_,rfl,rfl⟩;intro q;subst q;rw[Nat.beq_refl] at h7;cases h7
  ·cases h
 ·cases h
def rcP (nx:Nat) (id:Int) (u v:Un) (x y w:Nd) (o:Un):RC:={X:=Unit,pre:=true,spec:=λ_=>True,out:=λ_=> .tup [.agg (.val (.int .i64 id):: .slc nx 0 2:: .slc (nx+1) 0 3::ci o), .val (.int .i64 0), .val (.int .i64 0)],nw:=λ_=> [eU.own [u,v],eN.own [x,y,w]],ex:=λ_=>⟨(),trivial⟩}
variable {u v o:Un} {y w:Nd}
theorem alb {x:Nd} (h:K9 (λq=>q=some (id,2,3,0,0, [ci u,ci v], [svN x,svN y,svN w],ci o)) r bl n wl):KB (rcP nx id u v x y w o) [] [] nx r bl n wl:=by
 cases r with
 |pan v=>exact h.elim
 |ok s=>
  obtain⟨i,j,B,C,rfl,hB,hC,k1,k2,z1,z2,n1,n2,hij,c1,c2⟩:=ahh h;have e:=rns_free (f:=dt [] [some i,some j] nx) (fj o);have e0:dt [] [some i,some j] nx nx=some (some i):=cO;have e1:dt [] [some i,some j] nx (nx+1)=some (some j):=jA 1;have c1: [B.get 0,B.get 1]= [ci u,ci v]:=c1;have c2: [C.get 0,C.get 1,C.get 2]= [svN x,svN y,svN w]:=c2;simp only[zca,and_true] at c1 c2;refine⟨(),trivial, [some i,some j],⟨_,rfl, ?_⟩,by simp[ck,hij],⟨⟨zaA _, ?_⟩,⟨zaA _, ?_⟩,trivial⟩,trivial⟩
  ·exact xh (ar (Xs (ar rfl (ar (by simp only[SV.rn,e0]) (ar (by simp only[SV.rn,e1]) e)))) rfl)
  ·rw[hB];refine⟨by simp[El.own],λ_=> .inr ⟨by simp[El.own],eU.one⟩,gC k1 z1 n1 λe he=> ?_⟩;rcases(show e=0\/e=1 by simp at he;omega) with rfl|rfl
   ·exact c1.1
   ·exact c1.2
  ·rw[hC];refine⟨by simp[El.own],λ_=> .inr ⟨by simp[El.own],eN.one⟩,gC k2 z2 n2 λe he=> ?_⟩;rcases(show e=0\/e=1\/e=2 by simp at he;omega) with rfl|rfl|rfl
   ·exact c2.1
   ·exact c2.2.1
   ·exact c2.2.2
def kP9 (T:zdI) (id:Int) (u v:Un) (x y w:Nd) (o:Un):MCtr:=λ_ nx args=>match args with
 | [.val (.string s)]=>bif seq T s then some (rcP nx id u v x y w o) else none
 |_=>none
theorem ajI {x:Nd} (h: ∀Q:Option aen->Prop,Q (some (id,2,3,0,0, [ci u,ci v], [svN x,svN y,svN w],ci o))->acf a ann 9 f [.val (.string T)] [] (K9 Q)):
 ∀B:Base,GlobEB a B->VU prog B f (kP9 T id u v x y w o):=λB hB=>c8 (λB' hs=>akN (hB.sub hs)) λbl nx args C hk hp=>by
 unfold kP9 at hk;split at hk
 ·rename_i s;cases hb:seq T s with
  |false=>rw[hb] at hk;cases hk
  |true=>
   rw[hb,zds] at hk;simp only[za1] at hk;subst hk;obtain rfl:=We.1 hb;have key:acf a ann 9 f [.val (.string T)] [] (KB (rcP nx id u v x y w o) [] [] nx):=aeW (h (λq=>q=some (id,2,3,0,0, [ci u,ci v], [svN x,svN y,svN w],ci o)) rfl) λr b n wl hq=>alb hq;unfold acf at key;exact⟨[], [], [.val (.string T)],ann,9,trivial,bH (λC hC=>by cases hC),cd (λC hC=>by cases hC),rfl,key⟩
 ·cases hk
def aco:SV:= .agg (.val (.int .i64 0):: .val (.slice none 0 0):: .val (.slice none 0 0)::ci noU)
theorem agh (a:Addr) (Q:zdS):k8 a zl 9 25 [.val (.string zA9)] [] (Go.Sy.okK λr _ _ _=>Q r)=uK (uK (Q (.tup [aco, .val (.int .i64 1), .val (.int .i64 90)]))):=by kernel_rfl
def ajJ (k l:MCtr):MCtr:=λbl nx args=>match k bl nx args with
 |some C=>some C
 |none=>l bl nx args
theorem aiw {k l:MCtr} (hk:VU prog B f k) (hl:VU prog B f l):VU prog B f (ajJ k l):=by
 intro bl β w nx args C a b c d e p;unfold ajJ at e;split at e
 ·rename_i C' hC;obtain rfl:C'=C:=by simpa using e
  exact hk bl β w nx args _ a b c d hC p
 ·exact hl bl β w nx args _ a b c d e p
def rcV (r:SV):RC:={X:=Unit,pre:=true,spec:=λ_=>True,out:=λ_=>r,ex:=λ_=>⟨(),trivial⟩}
def kV9 (T:zdI) (r:SV):MCtr:=λ_ _ args=>match args with
 | [.val (.string s)]=>bif seq T s then some (rcV r) else none
 |_=>none
theorem ajK {r:SV} (hr:r.ids= []) (h: ∀Q:zdS,Q r->k8 a ann 9 f [.val (.string T)] [] (Go.Sy.okK λr _ _ _=>Q r)):
 ∀B:Base,GlobEB a B->VU prog B f (kV9 T r):=λB hB=>c8 (λB' hs=>aha (hB.sub hs)) λbl nx args C hk hp=>by
 unfold kV9 at hk;split at hk
 ·rename_i s;cases hb:seq T s with
  |false=>rw[hb] at hk;cases hk
  |true=>
   rw[hb,zds] at hk;simp only[za1] at hk;subst hk;obtain rfl:=We.1 hb;have key:k8 a ann 9 f [.val (.string T)] [] (KB (rcV r) [] [] nx):=ab3 (h (λq=>q=r) rfl) λq b m w hq=>by
    cases q with
    |pan v=>exact hq.elim
    |ok s=>
     obtain rfl:s=r:=hq;exact IG () trivial rfl hr rfl rfl rfl (λC hC=>by cases hC) rfl
   unfold k8 at key;exact⟨[], [], [.val (.string T)],ann,9,trivial,bH (λC hC=>by cases hC),cd (λC hC=>by cases hC),rfl,key⟩
 ·cases hk
variable {Q:zdS}
theorem aeY (hQ:Q (.tup [aco, .val (.int .i64 1), .val (.int .i64 90)])):k8 a zl 9 25 [.val (.string zA9)] [] (Go.Sy.okK λr _ _ _=>Q r):=by
 rw[agh];exact λ_ _ _ _=>hQ
def adT:MCtr:=kP9 spT 1 u0 u2 (nI9 0) (nI9 1) nD9 uo
theorem aeZ: ∀B:Base,GlobEB a B->VU prog B 25 adT:=by
 unfold adT;have h: ∀Q:Option aen->Prop,Q (some aiv)->acf a zl 9 25 [.val (.string spT)] [] (K9 Q):=λQ hQ=>aeX hQ;unfold aiv at h;generalize spT=T at h ⊢;exact ajI h
def adU:MCtr:=kV9 zA9 (.tup [aco, .val (.int .i64 1), .val (.int .i64 90)])
theorem ae0: ∀B:Base,GlobEB a B->VU prog B 25 adU:=by
 unfold adU;have h: ∀Q:zdS,Q (.tup [aco, .val (.int .i64 1), .val (.int .i64 90)])->k8 a zl 9 25 [.val (.string zA9)] [] (Go.Sy.okK λr _ _ _=>Q r):=λQ hQ=>aeY hQ;have hr:(SV.tup [aco, .val (.int .i64 1), .val (.int .i64 90)]).ids= []:=rfl;generalize zA9=T at h ⊢;generalize (SV.tup [aco, .val (.int .i64 1), .val (.int .i64 90)])=r at h hr ⊢;exact ajK hr h
def aix:zdY:=(25,ajJ adT adU)::af7
theorem aiy:MEk a aix:=adO.cons λB hB=>aiw (aeZ B hB) (ae0 B hB)
@[irreducible] def acB (a:Addr) (ann:zdW) (n:Nat) (f:FuncId) (args:zdL) (Cs:zdV) (K:Aft):Prop:=
 Ay prog (iR yr) (gw g9s) (gx aix) (dF a) ann n f args (λi=>Cs[i]?) Cs.length [] K
theorem akP (hB:GlobEB a B):HypD prog B (iR yr) (gw g9s) (gx aix) (dF a):=
 have h:=ac9 (gm:=aix) adv aiy hB
 ⟨h.gam,h.mem,h.dem,λf hf=>by
   unfold iR at hf;simp only[zaP] at hf;obtain⟨g,hg,hb⟩:=hf
   rw[zab hb];exact vT g hg,h.mixed⟩
def gU9:zdO:=je (ci (aT 0)++ci (aT 2)) 20
def gN9:zdO:=je (svN (nI9 0)++svN (nI9 1)++svN nD9) 26
def gC9:zdO:=λi=>bif Nat.beq i 2 then gZ (gN9 i) 0 [.val (.int .i64 3)] else gN9 i
def rA9:zdO:=je (gA (rMk 10 1).1++gA (rMk 4 1).1) 2
def rB9:zdO:=je (gA (rMk 10 1).1++gA (rMk 0 1).1) 2
def iA9:zdO:=je (gA (rMk 9 1).1++gA (rMk 11 1).1++gA (rMk 4 1).1++gA (rMk 5 1).1) 4
def ali (n1:Nat) (g1:zdO) (n2:Nat) (g2:zdO) (u:Un):Bool:=(Nat.ble n1 n1&&Nat.beq 20 20&&true)&&(Nat.ble n2 n2&&Nat.beq 26 26&&true)&&bW n1&&bW n2&&eU.good szB n1 g1&&eN.good szN n2 g2&&szB u
def pA9:Pr:=⟨1,eU.list 2 gU9,eN.list 3 gN9,uo⟩
def pB9:Pr:=⟨1,eU.list 2 (eU.get [u0,u2]),eN.list 3 (eN.get [nI9 0,nI9 1,nD9]),uo⟩
def n9 (c:Bool) (K:Prop):Prop:=af c (uK K)
open Classical in
def ahi (Q:zdS):Prop:=
 n9 (ali 2 gU9 3 gN9 uo) (n9 (ali 2 gU9 3 gN9 (aT 0)) (n9 (ali 2 gU9 3 gC9 (aT 0)) (
 n9 (ali 2 gU9 3 gN9 uo&&(Nat.ble 2 2&&Nat.beq 2 2&&true)&&bW 2&&eR.good uzR 2 rA9) (
 n9 (ali 2 gU9 3 gN9 uo&&(Nat.ble 2 2&&Nat.beq 2 2&&true)&&bW 2&&eR.good uzR 2 rB9) (
 n9 (ali 2 gU9 3 gN9 uo&&(Nat.ble 2 2&&Nat.beq 4 4&&true)&&bW 2&&eI.good uzI 2 iA9&&(acl pA9 (eI.list 2 iA9) 2).2==0) (
 n9 (ali 2 gU9 3 gN9 uo&&decide (pA9=spP)) (uK (uK (
 n9 (ali 2 gU9 3 gN9 uo&&ali 2 (eU.get [u0,u2]) 3 (eN.get [nI9 0,nI9 1,nD9]) uo&&decide (pA9=pB9)) (
 n9 (ali 2 gU9 3 gN9 uo) (n9 (ali 2 gU9 3 gC9 (aT 0)) (Q (cB.enc true)))))))))))))
theorem ahj (a:Addr) (Q:zdS):acB a (afZ 4) 9 4 [] [] (Go.Sy.okK λr _ _ _=>Q r)=ahi Q:=by kernel_rfl
theorem als {n1:Nat} {g1:zdO} {n2:Nat} {g2:zdO} (h1:n1<=1000000) (h2:n2<=1000000) (k1:eU.good szB n1 g1=true) (k2:eN.good szN n2 g2=true) (hu:szB u=true):ali n1 g1 n2 g2 u=true:=by
 unfold ali bW;rw[zae (za0 n1),zae (za0 n2),zae h1,zae h2,k1,k2,hu];rfl
theorem ahk (h:szB u=true) (k:szB v=true):eU.good szB 2 (je (ci u++ci v) 20)=true:=El.good_iff.2 λe he=>by
 rcases(show e=0\/e=1 by omega) with rfl|rfl
 ·exact⟨rfl,h⟩
 ·exact⟨rfl,k⟩
theorem ahl {x z:Nd} (h:szN x=true) (k:szN y=true) (l:szN z=true):eN.good szN 3 (je (svN x++svN y++svN z) 26)=true:=El.good_iff.2 λe he=>by
 rcases(show e=0\/e=1\/e=2 by omega) with rfl|rfl|rfl
 ·exact⟨rfl,h⟩
 ·exact⟨rfl,k⟩
 ·exact⟨rfl,l⟩
theorem ajL:eN.good szN 3 gC9=true:=El.good_iff.2 λe he=>by
 rcases(show e=0\/e=1\/e=2 by omega) with rfl|rfl|rfl
 ·exact⟨rfl,lB⟩
 ·exact⟨rfl,lB⟩
 ·exact⟨rfl,lB⟩
theorem ahm {x y:RS} (h:uzR x=true) (k:uzR y=true):eR.good uzR 2 (je (gA x++gA y) 2)=true:=El.good_iff.2 λe he=>by
 rcases(show e=0\/e=1 by omega) with rfl|rfl
 ·exact⟨rfl,h⟩
 ·exact⟨rfl,k⟩
theorem ajM {x y z w:RS} (h:uzR x=true) (k:uzR y=true) (l:uzR z=true) (m:uzR w=true):eI.good uzI 2 (je (gA x++gA y++gA z++gA w) 4)=true:=El.good_iff.2 λe he=>by
 rcases(show e=0\/e=1 by omega) with rfl|rfl
 ·exact⟨rfl,by show (uzR x&&uzR y)=true;rw[h,k];rfl⟩
 ·exact⟨rfl,by show (uzR z&&uzR w)=true;rw[l,m];rfl⟩
theorem ahn:pA9=spP:=by kernel_rfl
theorem ajN:pB9=spP:=by kernel_rfl
theorem aiz:((acl pA9 (eI.list 2 iA9) 2).2==0)=true:=by kernel_rfl
theorem afH:szB (aT 0)=true:=by kernel_rfl
theorem aiP:szB (aT 2)=true:=by kernel_rfl
theorem aiQ:szB uo=true:=by kernel_rfl
theorem agi (hQ:Q (cB.enc true)):acB a (afZ 4) 9 4 [] [] (Go.Sy.okK λr _ _ _=>Q r):=by
 rw[ahj];have gu:=ahk afH aiP;have gn:eN.good szN 3 gN9=true:=ahl lB lB lB;have c1:ali 2 gU9 3 gN9 uo=true:=als (by decide) (by decide) gu gn aiQ;have c2:ali 2 gU9 3 gN9 (aT 0)=true:=als (by decide) (by decide) gu gn afH;have c3:ali 2 gU9 3 gC9 (aT 0)=true:=als (by decide) (by decide) gu ajL afH;have c4:ali 2 (eU.get [u0,u2]) 3 (eN.get [nI9 0,nI9 1,nD9]) uo=true:=als (by decide) (by decide)
  (El.good_get (E:=eU) (l:= [u0,u2]) λx hx=>by
    rcases zai.1 hx with rfl|hx
    ·exact afH
    ·rw[zaj.1 hx];exact aiP)
  (El.good_get (E:=eN) (l:= [nI9 0,nI9 1,nD9]) λx hx=>by
    rcases zai.1 hx with rfl|hx
    ·exact lB
    ·rcases zai.1 hx with rfl|hx
     ·exact lB
     ·rw[zaj.1 hx];exact lB) aiQ
 have r1:eR.good uzR 2 rA9=true:=ahm (alg 10 1) (alg 4 1);have r2:eR.good uzR 2 rB9=true:=ahm (alg 10 1) (alg 0 1);have r3:eI.good uzI 2 iA9=true:=ajM (alg 9 1) (alg 11 1) (alg 4 1) (alg 5 1);have d1: ∀i, @decide (pA9=spP) i=true:=λi=> @zdq _ i ahn;have d2: ∀i, @decide (pA9=pB9) i=true:=λi=> @zdq _ i (ahn.trans ajN.symm);unfold ahi n9 uK;refine ac c1 λ_ _=>ac c2 λ_ _=>ac c3 λ_ _=>ac ?_ λ_ _=>ac ?_ λ_ _=>ac ?_ λ_ _=>ac ?_ λ_ _ _ _ _ _=>ac ?_ λ_ _=>ac c1 λ_ _=>ac c3 λ_ _=>hQ
 ·rw[c1,r1];rfl
 ·rw[c1,r2];rfl
 ·rw[c1,r3,aiz];rfl
 ·rw[c1,d1];rfl
 ·rw[c1,c4,d2];rfl
def adV:MCtr:=λ_ _ args=>match args with
 | []=>some (rcV (cB.enc true))
 |_=>none
theorem ae1 (h:acB a ann n f args Cs K) (hm: ∀r b n w,K r b n w->K' r b n w):acB a ann n f args Cs K':=by
 unfold acB at h ⊢;exact NiceT.mono (Ea _ _ _ _ _ _ f args _ _ _ (λi hi=>zad hi)) h λr b n w _=>hm r b n w
theorem agj (h: ∀Q:zdS,Q (cB.enc true)->acB a ann 9 F [] [] (Go.Sy.okK λr _ _ _=>Q r)): ∀B:Base,GlobEB a B->VU prog B F adV:=λB hB=>c8 (λB' hs=>akP (hB.sub hs)) λbl nx args C hk hp=>by
 unfold adV at hk;split at hk
 ·simp only[za1] at hk;subst hk;have key:acB a ann 9 F [] [] (KB (rcV (cB.enc true)) [] [] nx):=ae1 (h (λr=>r=cB.enc true) rfl) λq b m w hq=>by
   cases q with
   |pan v=>exact hq.elim
   |ok s=>
    obtain rfl:s=cB.enc true:=hq;exact IG () trivial rfl rfl rfl rfl rfl (λC hC=>by cases hC) rfl
  unfold acB at key;exact⟨[], [], [],ann,9,trivial,bH (λC hC=>by cases hC),cd (λC hC=>by cases hC),rfl,key⟩
 ·cases hk
theorem agk: ∀B:Base,GlobEB a B->VU prog B 4 adV:=agj λQ hQ=>agi hQ
def al2 (a b c k:Int) (n:Nat):SV:= .agg [.val (.int .i64 a), .val (.int .i64 b), .val (.int .i64 c), .val (.int .i64 k), .slc 0 0 n]
def sv4 (h:I4):SV:= .agg [.val (.int .i64 h.1), .val (.int .i64 h.2.1), .val (.int .i64 h.2.2.1), .val (.int .i64 h.2.2.2)]
def atM:zdY:= [(11,xi),(12,xi),(13,pN),(14,atV),(15,arI),(16,arI),(18,zm),(19,zm),(8,asP),(17,asg),(26,SQ),(4,adV)]
theorem atc:MEk a atM:=((((((((((((MEk.nil.cons agk).cons λB hB=>Tc B hB.gU).cons asv).cons asQ).cons λB hB=>asu B hB.gU).cons λB hB=>tP B hB.gU).cons λB hB=>ass B hB.gU).cons λB hB=>asq B hB.gU).cons λB hB=>arN B hB.gU).cons λB hB=>lZ B hB.gU).cons λB hB=>arM B hB.gU).cons λB hB=>vM B hB.gU)
def atj (A:AS) (t:Nat):Nat:=match A.tm t with
 | .v (.slc _ _ n)=>n
 |_=>0
def atk (I:Int->Prop):zdW:=λf k=>bif Nat.beq f 3 then(
 bif Nat.beq k 4294967294 then some (λ_=>{X:=Unit,inv:=λ_=>True,tm:=λ_=> [],mu:=λ_=>0})
 else bif Nat.beq k 12 then some (λ_=>{X:=Int,inv:=I,tm:=λi=> [(95, .val (.int .i64 i))],mu:=λi=>(5 - i).toNat,keep:= [5,13,14,93,94],sp:= [λ_=>0,λ_=>1,λ_=>2,λ_=>3,λ_=>4,λ_=>5]})
 else bif Nat.beq k 19 then some (λA=>{X:=Int,inv:=λi=>0<=i/\i<=atj A 20,tm:=λi=> [(26, .val (.int .i64 i))],mu:=λi=>((atj A 20:Int) - i).toNat,keep:= [5,13,14,19,20,23,93,94,95]})
 else none) else none
def asR (p:Pr):SV:= .agg ([.val (.int .i64 p.id), .slc 1 0 p.inp.length, .slc 2 0 p.nod.length]++ci p.out)
abbrev atl (w:Addr) (I:Int->Prop) (raw:Pr) (a b c k:Int) (xs:List I4) (which:Int) (y:Nd) (h:I4) (ks:List Int) (Q:zdS):Prop:=
 XC w gFw atM (atk I) 8 3 [asR raw,al2 a b c k xs.length,cI.enc which, .agg (svN y),sv4 h, .slc 3 0 ks.length] [e4.old xs,eU.old raw.inp,eN.old raw.nod,e1.old ks] (Go.Sy.okK λr _ _ _=>Q r)
def ndL (n1:Nat) (g1:zdO) (n2:Nat) (g2:zdO) (u:Un):Bool:=(Nat.ble n1 n1&&Nat.beq 20 20&&true)&&(Nat.ble n2 n2&&Nat.beq 26 26&&true)&&eU.good szB n1 g1&&eN.good szN n2 g2&&szB u
def ndM (r:Pr) (g:zdO) (u:Un):Bool:=ali r.inp.length (eU.get r.inp) r.nod.length g u
def rdM (r:Pr) (g:zdO) (u:Un):Pr:=⟨r.id,eU.list r.inp.length (eU.get r.inp),eN.list r.nod.length g,u⟩
def rdP (r:Pr):Pr:=rdM r (eN.get r.nod) r.out
def ndP (r:Pr):Bool:=ndM r (eN.get r.nod) r.out
def ndF (r:Pr):Bool:=ndL r.inp.length (eU.get r.inp) r.nod.length (eN.get r.nod) r.out
def aty (h:I4):Nd:=⟨co h.1 10,VI,noU,co h.2.1 11 - 5,co h.2.2.1 16 - 1,co h.2.2.2 16 - 1⟩
def atd (g:zdO) (i:Nat) (x:Nd):zdO:=λe=>bif Nat.beq e i then gZ (g e) 0 (svN x) else g e
section
variable (I:Int->Prop) (p:Pr) (ks:List Int) (Q:zdS)
def pmM (i z:Int):Prop:=(TV.v (cI.enc i)=TV.v (cI.enc z)/\tvE (.slc 3 0 ks.length)/\tvE (cB.enc true)/\cg 22/\tvE (.slc 91 0 5)/\tvE (cI.enc 5)/\True)/\(True/\(True/\True))
def lpM (j:Int) (n:Nat) (i z:Int):Prop:=(TV.v (cI.enc i)=TV.v (cI.enc z)/\tvE (.slc 3 0 ks.length)/\tvE (cB.enc true)/\cg 22/\cg 95/\tvE (.slc 98 0 n)/\tvE (.slc 107 0 n)/\tvE (.slc 91 0 5)/\tvE (cI.enc 5)/\tvE (cI.enc j)/\True)/\(True/\(True/\True))
def vaP (n:Int):Bool:=(Nat.ble ks.length ks.length&&Nat.beq 1 1&&true)&&e1.good cl ks.length (e1.get ks)&&decide (0<=n)&&decide (n<=1000000)
def asS (nd:Bool) (X:Pr) (n m:Nat) (g:zdO) (K:Prop):Prop:=
 n9 (nd&&(Nat.ble n m&&Nat.beq 2 2&&true)&&bW n&&eR.good uzR n g) (n9 (nd&&(Nat.ble n m&&Nat.beq 2 2&&true)&&bW n&&eR.good uzR n g)
  (ag (bif !eqR (bn X (eR.list n g)).1 (bn X (eR.list n g)).1 then true else(bn X (eR.list n g)).2 !=(bn X (eR.list n g)).2) (Q (cB.enc false)) K))
def atP:RS:=(⟨#[50]⟩,⟨#[52]⟩)
def atz (nd:Bool) (X:Pr) (ni:Nat) (K:Prop):Prop:=
 n9 (vaP ks (ni:Int)) (n9 (vaP ks 2) (asS Q nd X (ni:Int).toNat (vu (e1.list ks.length (e1.get ks)) (ni:Int).toNat).length (eR.get (vu (e1.list ks.length (e1.get ks)) (ni:Int).toNat)) (
  asS Q nd X 2 (vu (e1.list ks.length (e1.get ks)) 2).length (eR.get (vu (e1.list ks.length (e1.get ks)) 2)) (asS Q nd X 1 1 (je (gA atP) 2) K))))
def lpT (j:Int) (us:ze0) (K:Prop):Prop:=
 ∃y0:Int,(0<=y0/\y0<=(us.length:Int))/\(lpM ks j us.length 0 y0/\ ∀y:Int,(0<=y/\y<=(us.length:Int))->ag (decide (y<(us.length:Int)))
  (eO us.length y (eO us.length y (ag (!eqU (mb noU us (0+y.toNat)) (mb noU us (0+y.toNat))) (Q (cB.enc false)) (af (inR .i64 (y+1)) (∃y':Int,(0<=y'/\y'<=(us.length:Int))/\(((us.length:Int) - y').toNat<((us.length:Int) - y).toNat/\lpM ks j us.length (y+1) y')))))) K)
def itT (j:Int) (nd:Bool) (X:Pr) (ni:Nat):Prop:=
 n9 nd (n9 nd (ag (bif bif (VJ X).2.1 !=(VJ X).2.1 then true else(VJ X).2.2 !=(VJ X).2.2 then true else(((VJ X).1.length:Int) !=((VJ X).1.length:Int))) (Q (cB.enc false)) (
 n9 nd (n9 nd (ag (VM X !=VM X) (Q (cB.enc false)) (
 n9 (nd&&ndP p) (n9 (nd&&ndP p) (ag (arF X (rdP p) !=arF X (rdP p)) (Q (cB.enc false)) (
 n9 (nd&&nd) (ag (!arF X X) (Q (cB.enc false)) (
 lpT ks Q j (VJ X).1 (atz ks Q nd X ni (∃z:Int,I z/\((5 - z).toNat<(5 - j).toNat/\pmM ks (j+1) z))))))))))))))
def itM (j:Int) (r:Pr) (g:zdO) (u:Un):Prop:=itT I p ks Q j (ndM r g u) (rdM r g u) r.inp.length
def pmL (raw q:Pr) (kq:Nat) (y:Nd) (h:I4):Prop:=
 ∃x0:Int,I x0/\(pmM ks 0 x0/\((∀x:Int,I x->0=x\/(1=x\/(2=x\/(3=x\/(4=x\/(5=x\/False))))))/\
  ((∀_:Int,I 0->itM I p ks Q 0 (alM (rdP raw)) (eN.get (alM (rdP raw)).nod) (alM (rdP raw)).out)/\
  ((∀_:Int,I 1->itM I p ks Q 1 p (eN.get p.nod) p.out)/\
  ((∀_:Int,I 2->itM I p ks Q 2 q (atd (eN.get q.nod) kq (alw y)) q.out)/\
  ((∀_:Int,I 3->itM I p ks Q 3 q (atd (eN.get q.nod) kq (aty h)) q.out)/\
  ((∀_:Int,I 4->itM I p ks Q 4 q (eN.get q.nod) (BL h.1))/\
  ((∀_:Int,I 5->Q (cB.enc true))/\True))))))))
def pm1 (raw q:Pr) (which:Int) (y:Nd) (h:I4):Prop:=
 af (pkB which q.nod.length) (eO q.nod.length (co which q.nod.length) (n9 (ndF p) (
  af (pkB which q.nod.length) (af (pkB h.1 10) (af (pkB h.2.1 11) (af (inR .i64 (co h.2.1 11 - 5)) (af (pkB h.2.2.1 16) (af (inR .i64 (co h.2.2.1 16 - 1)) (af (pkB h.2.2.2 16) (af (inR .i64 (co h.2.2.2 16 - 1))
   (eO q.nod.length (co which q.nod.length) (n9 (ndF p) (af (cl h.1) (n9 (ndF raw) (pmL I p ks Q raw q (0+(co which q.nod.length).toNat) y h)))))))))))))))
end
def pmT (I:Int->Prop) (raw:Pr) (a b c k:Int) (xs:List I4) (which:Int) (y:Nd) (h:I4) (ks:List Int) (Q:zdS):Prop:=
 uK (n9 (Nat.ble xs.length xs.length&&Nat.beq 4 4&&true&&decide (xs.length<=9223372036854775807)&&e4.good uz4 xs.length (e4.get xs)&&cl a&&cl b&&cl c&&cl k)
  (n9 (ndF (Bd (a,b,c) k (e4.list xs.length (e4.get xs)) false)) (pm1 I (Bd (a,b,c) k (e4.list xs.length (e4.get xs)) false) ks Q raw (alM (rdP (Bd (a,b,c) k (e4.list xs.length (e4.get xs)) false))) which y h)))
theorem atN (w:Addr) (I:Int->Prop) (raw:Pr) (a b c k:Int) (xs:List I4) (which:Int) (y:Nd) (h:I4) (ks:List Int) (Q:zdS):atl w I raw a b c k xs which y h ks Q=pmT I raw a b c k xs which y h ks Q:=by kernel_rfl
end Go.Proofs.YtfokhpciehfdnaaGreatDoor
namespace Yk
open Go Go.RowKit Go.ChangeShapes Go.WideShapes
section
variable {H:Type} {enc:TypeId×Value->H} {P:Program} {w:World} {base b0:Nat} {spare:zdR} {held:Bool} {r:Reach} {v:Value} {d:DataW H} {ps:List MemPlace}
theorem Dk {e:TypeId} {k:IntKind} {m:Nat} (he:P.underlying e=some (.int k)): ∀(cs:zdM) (xs:List (DataW H×List MemPlace)),cs.length=xs.length->
 (∀i,i<xs.length->DataW.trod enc P w base spare held m e ((cs.drop i).take 1)=xs[i]?)-> ∃zs:List Int,cs=zs.map (Value.int k)/\ ∀z∈zs,(Lit.int k z).wf=true
 | [], [],_,_=>⟨[],rfl,by simp⟩
 |c::cs,x::xs,hl,h=>by
  have h0:=h 0 (by simp);simp only[zaZ,List.take_succ_cons,zbv,zbA] at h0;obtain⟨z,e1,_,wz⟩:=DataW.trod_int he h0;obtain⟨zs,i1,i3⟩:=Dk he cs xs (by simpa using hl) (λi hi=>by have:=h (i+1) (by simpa using hi);simpa using this);refine⟨z::zs, ?_, ?_⟩
  ·simp only[zca,and_true] at e1;rw[e1,i1];rfl
  ·intro y hy;rcases zai.1 hy with rfl|hy
   ·exact wz
   ·exact i3 y hy
variable {t e:TypeId}
theorem open_ints {n:Nat} {k:IntKind} (ht:P.underlying t=some (.array n e)) (he:P.underlying e=some (.int k)) (ce:P.cellsOf e=1) (ct:P.cellsOf t=n)
 (hval:Value.okWide P w r b0 t v) (hd:DataW.Trod enc P w base spare held t v d ps): ∃zs:List Int,v= .agg (zs.map (Value.int k)).toArray/\zs.length=n/\ ∀z∈zs,(Lit.int k z).wf=true:=by
 simp only[Value.okWide,ht] at hval;obtain⟨cs,rfl,hcs,_⟩:=hval;obtain⟨fuel,hf⟩:=hd;obtain⟨xs,m,_,_,hl,hn,hel⟩:=DataW.trod_array ht hf;rw[ce] at hel;simp only[Value.cells,zbZ] at hel hl;obtain⟨zs,h1,h2⟩:=Dk he cs.toList xs (by rw[hl,hn,ct]) (λi hi=>hel i (by omega));refine⟨zs,by rw[<-h1], ?_,h2⟩;have:=congrArg List.length h1;rw[zaB] at this;omega
theorem ki {z:Int} (h:(Lit.int .i64 z).wf=true): -9223372036854775808<=z/\z<=9223372036854775807:=bounds_i64 h
theorem al9 (ht:P.underlying t=some (.array 4 e)) (he:P.underlying e=some (.int .i64)) (ce:P.cellsOf e=1) (ct:P.cellsOf t=4)
 (hval:Value.okWide P w r b0 t v) (hd:DataW.Trod enc P w base spare held t v d ps): ∃x0 x1 x2 x3:Int,v= .agg #[.int .i64 x0, .int .i64 x1, .int .i64 x2, .int .i64 x3]/\
   (-9223372036854775808<=x0/\x0<=9223372036854775807)/\(-9223372036854775808<=x1/\x1<=9223372036854775807)/\(-9223372036854775808<=x2/\x2<=9223372036854775807)/\(-9223372036854775808<=x3/\x3<=9223372036854775807):=by
 obtain⟨zs,rfl,hl,hw⟩:=open_ints ht he ce ct hval hd
 match zs,hl,hw with
 | [x0,x1,x2,x3],_,hw=>exact⟨x0,x1,x2,x3,rfl,ki (hw x0 (by simp)),ki (hw x1 (by simp)),ki (hw x2 (by simp)),ki (hw x3 (by simp))⟩
end
theorem wd {H:Type} {enc:TypeId×Value->H} {P:Program} (hl:laidOutB P=true) {W W':World} (hb:Below W.heap.size W W'): ∀(ts:List TypeId) (vs:zdM) (ds:List (DataW H)) (p:List MemPlace),
 (∀t∈ts,P.readableRec t=true/\t<P.types.size)->(∀x∈p,x.block<W.heap.size)->DataW.TrodAll enc P W 0 (λ_=>true) true ts vs ds p->DataW.TrodAll enc P W' 0 (λb=>decide (b<W.heap.size)) true ts vs ds p
 | [], [], [],_,_,_,h=>h
 |t::ts,v::vs,d::ds,_,hr,hp,h=>by
  obtain⟨p,q,h1,h2,rfl⟩:=h;exact⟨p,q,Below.trod hl (hr t (by simp)).1 (hr t (by simp)).2 h1 hb (λx hx=>hp x (by simp[hx])),wd hl hb ts vs ds q (λt ht=>hr t (by simp[ht])) (λx hx=>hp x (by simp[hx])) h2,rfl⟩
 | [], [],_::_,_,_,_,h=>h.elim
 | [],_::_,_,_,_,_,h=>h.elim
 |_::_, [],_,_,_,_,h=>h.elim
 |_::_,_::_, [],_,_,_,h=>h.elim
inductive Leaf where
 |int (k:IntKind)
 |bool
 |str
def Leaf.ok:Leaf->Value->Prop
 | .int k,v=> ∃z,v= .int k z/\k.min<=z/\z<=k.max
 | .bool,v=> ∃b,v= .bool b
 | .str,v=> ∃s:zdI,v= .string s/\s.size<=maxLen
def okL:List Leaf->List Value->Prop
 | [], []=>True
 |l::ls,v::vs=>l.ok v/\okL ls vs
 |_,_=>False
theorem arC: ∀{ls:List Leaf} {vs:zdM},okL ls vs->vs.length=ls.length
 | [], [],_=>rfl
 |_::_,_::_,h=>by simp[arC h.2]
 | [],_::_,h=>h.elim
 |_::_, [],h=>h.elim
theorem Q9: ∀{a b:List Leaf} {u v:zdM},okL a u->okL b v->okL (a++b) (u++v)
 | [],_, [],_,_,h=>h
 |_::_,_,_::_,_,h,k=>⟨h.1,Q9 h.2 k⟩
 | [],_,_::_,_,h,_=>h.elim
 |_::_,_, [],_,h,_=>h.elim
def atA (P:Program) (t:TypeId):Bool:=match P.underlying t with
 |some (.struct _)=>true
 |some (.array _ _)=>true
 |_=>false
def Ri (P:Program) (g:TypeId->Option (List Leaf)):List Field->Nat->Option (List Leaf)
 | [],_=>some []
 |f::fs,off=>match g f.type with
  |some l=>if P.cellsOf f.type=l.length/\f.offset=off then(match Ri P g fs (off+l.length) with
   |some r=>some (l++r)
   |none=>none) else none
  |none=>none
def QV (P:Program):Nat->TypeId->Option (List Leaf)
 |0,_=>none
 |d+1,t=>match P.underlying t with
  |some .bool=>some [.bool]
  |some (.int k)=>some [.int k]
  |some .string=>some [.str]
  |some (.array n e)=>match QV P d e with
   |some l=>if P.cellsOf e=l.length/\P.cellsOf t=n*l.length then some (List.replicate n l).flatten else none
   |none=>none
  |some (.struct fs)=>match Ri P (QV P d) fs.toList 0 with
   |some l=>if P.cellsOf t=l.length then some l else none
   |none=>none
  |_=>none
section
variable {H:Type} {enc:TypeId×Value->H} {P:Program} {w:World} {base:Nat} {spare:zdR} {held:Bool}
theorem Sx {l:List Leaf}: ∀(n:Nat) (cs:zdM),cs.length=n*l.length->(∀i,i<n->okL l ((cs.drop (i*l.length)).take l.length))->okL (List.replicate n l).flatten cs
 |0,cs,hl,_=>by
  have:cs= []:=zau (by omega);subst this;trivial
 |n+1,cs,hl,h=>by
  rw[zce,List.flatten_cons,<-zdn l.length cs];refine Q9 (by simpa using h 0 (by omega)) (Sx n _ (by rw[zbQ,hl,zaG];omega) λi hi=> ?_);have:=h (i+1) (by omega);rw[List.drop_drop];rwa[zaG,Nat.one_mul,zb3] at this
theorem Rj {g:TypeId->Option (List Leaf)} (hg: ∀{fuel:Nat} {t:TypeId} {cs:zdM} {x:DataW H×List MemPlace} {l:List Leaf},g t=some l->DataW.trod enc P w base spare held fuel t cs=some x->okL l cs):
 ∀{fs:List Field} {off:Nat} {cs:zdM} {l:List Leaf},Ri P g fs off=some l->off+l.length<=cs.length->
 (∀f∈fs,∃fuel x,DataW.trod enc P w base spare held fuel f.type ((cs.drop f.offset).take (P.cellsOf f.type))=some x)->okL l ((cs.drop off).take l.length)
 | [],off,cs,l,h,_,_=>by simp[Ri] at h;subst h;simp[okL]
 |f::fs,off,cs,l,h,hl,hf=>by
  rw[Ri] at h;split at h
  ·rename_i a ha;split at h
   ·rename_i hc;split at h
    ·rename_i r hr;cases h;simp only[za3] at hl ⊢;obtain⟨fuel,x,h1⟩:=hf f (by simp);rw[hc.1,hc.2] at h1;have h2:=Rj hg hr (cs:=cs) (by omega) (λg hg=>hf g (zan _ hg));rw[List.take_add,List.drop_drop];exact Q9 (hg ha h1) h2
    ·cases h
   ·cases h
  ·cases h
theorem FB: ∀(d:Nat) {fuel:Nat} {t:TypeId} {cs:zdM} {x:DataW H×List MemPlace} {l:List Leaf},QV P d t=some l->DataW.trod enc P w base spare held fuel t cs=some x->okL l cs
 |0,_,_,_,_,_,h,_=>by simp[QV] at h
 |d+1,fuel,t,cs,x,l,h,hx=>by
  rw[QV] at h;split at h
  ·rename_i ht;obtain⟨b,rfl,_⟩:=DataW.trod_bool ht hx;cases h;exact⟨⟨b,rfl⟩,trivial⟩
  ·rename_i k ht;obtain⟨z,rfl,_,hw⟩:=DataW.trod_int ht hx;cases h;simp only[Lit.wf,za2,zdu] at hw;exact⟨⟨z,rfl,hw⟩,trivial⟩
  ·rename_i ht;obtain⟨s,rfl,_,hs⟩:=DataW.trod_string ht hx;cases h;exact⟨⟨s,rfl,hs⟩,trivial⟩
  ·rename_i n e ht;split at h
   ·rename_i le hle;split at h
    ·rename_i hc;cases h;obtain⟨xs,m,_,_,hl,hn,hel⟩:=DataW.trod_array ht hx;rw[hc.2] at hl;rw[hc.1] at hel;refine Sx n cs hl λi hi=> ?_;have:=hel i hi;rw[zaa (by omega)] at this;exact FB d hle this
    ·cases h
   ·cases h
  ·rename_i fs ht;split at h
   ·rename_i lf hlf;split at h
    ·rename_i hc;cases h;obtain⟨xs,m,_,_,hl,hn,hel⟩:=DataW.trod_struct ht hx;rw[hc] at hl
     have:=Rj (g:=QV P d) (λh1 h2=>FB d h1 h2) (fs:=fs.toList) (off:=0) (cs:=cs) hlf (by omega) (λf hf=>by
      obtain⟨i,hi,e⟩:=zbR hf;have h1:=hel i f (by rw[<-Array.getElem?_toList];rw[zaa hi,e]);rw[zaa (by simp at hi;omega)] at h1
      exact⟨_,_,h1⟩)
     rwa[zaZ,zaI (by omega)] at this
    ·cases h
   ·cases h
  ·cases h
theorem asw {r:Reach} {b0:Nat} {v:Value} {dd:DataW H} {ps:List MemPlace} {t:TypeId} {l:List Leaf} (ht:atA P t=true) (h:QV P 9 t=some l) (hval:Value.okWide P w r b0 t v)
 (hd:DataW.Trod enc P w base spare held t v dd ps): ∃cs:zdM,v= .agg cs.toArray/\okL l cs:=by
 have hv: ∃cs:Array Value,v= .agg cs:=by
  unfold atA at ht;simp only[Value.okWide] at hval;split at ht<;>rename_i hu<;>simp only[hu] at hval
  ·obtain⟨cs,rfl,_⟩:=hval;exact⟨cs,rfl⟩
  ·obtain⟨cs,rfl,_⟩:=hval;exact⟨cs,rfl⟩
  ·cases ht
 obtain⟨cs,rfl⟩:=hv;obtain⟨fuel,hf⟩:=hd;exact⟨cs.toList,by simp,FB 9 h hf⟩
end
end Yk
namespace Yk
open Go Go.RowKit Go.ChangeShapes Go.WideShapes Go.Sy
section
variable {H:Type} {enc:TypeId×Value->H} {P:Program} {w:World} {base:Nat}
theorem u64 {z:Int} (h:IntKind.i64.min<=z/\z<=IntKind.i64.max):cl z=true:=by
 exact Wl.2 h
end
end Yk
namespace Go.Proofs.YtfokhpciehfdnaaGreatDoor
open Go Go.RowKit Go.Sy Yk Go.ChangeShapes Go.WideShapes
structure Ca9 where
 a:Int
 b:Int
 c:Int
 k:Int
 x:List I4
def Ca9.ok (c:Ca9):Bool:=cl c.a&&cl c.b&&cl c.c&&cl c.k&&c.x.all uz4
theorem at0: ∀vs,okL [.int .i64] vs-> ∃y:Int,cl y=true/\vs=SV.concs oj (e1.sv y):=λvs h=>by
 have hl:=arC h
 match vs,hl,h with
 | [_],_,⟨⟨y,rfl,b⟩,_⟩=>exact⟨y,u64 b,rfl⟩
theorem at1: ∀vs,okL [.int .i64, .int .i64, .int .i64, .int .i64] vs-> ∃y:I4,uz4 y=true/\vs=SV.concs oj (e4.sv y):=λvs h=>by
 have hl:=arC h
 match vs,hl,h with
 | [_,_,_,_],_,⟨⟨a,rfl,b0⟩,⟨b,rfl,b1⟩,⟨c,rfl,b2⟩,⟨d,rfl,b3⟩,_⟩=>exact⟨(a,b,c,d),by unfold uz4;rw[u64 b0,u64 b1,u64 b2,u64 b3];rfl,rfl⟩
section
variable {H:Type} {enc:TypeId×Value->H} {P:Program} {w:World} {base:Nat}
variable {α:Type} {e:TypeId} {held:Bool}
theorem ar7 {E:El α} {ok:α->Bool} {ls:List Leaf} (dec: ∀vs,okL ls vs-> ∃y:α,ok y=true/\vs=SV.concs oj (E.sv y)) {fuel:Nat} {a:Addr} {x:DataW H×List MemPlace} {spare:zdR} {i:Nat} (he:QV P 9 e=some ls) (hs:a.spot=none)
 (h:(w.cells? base (a.add (i*E.sz)) E.sz).bind (DataW.trod enc P w base spare held fuel e)=some x): ∃y:α,ok y=true/\ ∀o z,(E.sv y)[o]? =some z->w.cell? ⟨a.block,a.off+i*E.sz+o,none⟩=some (z.conc oj):=by
 rw[Option.bind_eq_some_iff] at h;obtain⟨cs,hc,hx⟩:=h;obtain⟨_,hl,hget⟩:=World.cells?_some hc;obtain⟨y,hy,rfl⟩:=dec cs (FB 9 he hx);refine⟨y,hy,λo z hz=> ?_⟩;have ho:o<E.sz:=by
  have:=(zaV.1 hz).1;rw[E.len] at this;exact this
 have ad:(a.add (i*E.sz)).add o=⟨a.block,a.off+i*E.sz+o,none⟩:=by
  obtain⟨b,f,s⟩:=a;obtain rfl:s=none:=hs;unfold Addr.add;split<;>split<;>simp_all<;>omega
 rw[<-ad,hget o ho,SV.concs_eq,zaL,hz];rfl
variable {r:Reach} {b0:Nat} {v:Value} {ps:List MemPlace} {t:TypeId}
theorem apG {E:El α} {ok:α->Bool} {dd:DataW H} (hu:P.underlying t=some (.slice e)) (hs:P.cellsOf e=E.sz)
 (one: ∀{fuel:Nat} {x:DataW H×List MemPlace} {a:Addr} {spare:zdR} {held:Bool} {i:Nat},a.spot=none->(w.cells? base (a.add (i*E.sz)) E.sz).bind (DataW.trod enc P w base spare held fuel e)=some x-> ∃y:α,ok y=true/\ ∀o z,(E.sv y)[o]? =some z->w.cell? ⟨a.block,a.off+i*E.sz+o,none⟩=some (z.conc oj))
 (hval:Value.okWide P w r b0 t v) (hd:DataW.Trod enc P w base (λ_=>true) held t v dd ps): ∃(xs:List α) (L:Go.Sy.Loc),v=(SV.slc 0 0 xs.length).conc (λ_=>L)/\(∀x∈xs,ok x=true)/\BlkOK (λ_=>L) 0 (E.old xs) w/\xs.length<=maxLen:=by
 obtain⟨a0,len0,cap0,rfl⟩:=okWide_slice hu hval;obtain⟨fuel,hf⟩:=hd;rcases DataW.trod_slice hu hf with ⟨hs,_⟩|⟨a,len,cap,elems,rest,n,_,hs',_,_,hle,hcap,hlen,hget,hsp,_⟩
 ·simp only[Value.cells,zca,and_true,Value.slice.injEq] at hs;obtain⟨rfl,rfl,rfl⟩:=hs;refine⟨[],⟨0,0,E.sz,0,true⟩,rfl,λx hx=>(by cases hx), ?_,zaA _⟩;exact⟨rfl,λh=>(by cases h),za0 _,λe he=>absurd he (zbn e),λj hj=>(by simp at hj),λh=>(by cases h),λe he=>absurd he (zbn e),λ_=>rfl,λh=>(by cases h)⟩
 ·simp only[Value.cells,zca,and_true,Value.slice.injEq] at hs';obtain⟨rfl,rfl,rfl⟩:=hs';have hb:a.spot=none/\a.block<w.heap.size:=by
   simp only[Value.okWide,hu] at hval;unfold Cell.okWide at hval;simp only[hu] at hval;unfold Cell.ok at hval;simp only[hu] at hval;obtain⟨_,_,_,hsp,row,cells,hsh,_⟩:=hval;refine⟨hsp, ?_⟩;unfold World.shape? at hsh;rcases zah a.block w.heap.size with h|h
   ·exact h
   ·rw[zcD h] at hsh;cases hsh
  obtain⟨hrl,hrest⟩:=hsp rfl;rw[hs] at hget hrest;have each: ∀i,∃y:α,i<cap0->ok y=true/\ ∀o z,(E.sv y)[o]? =some z->w.cell? ⟨a.block,a.off+i*E.sz+o,none⟩=some (z.conc oj):=λi=>by
   by_cases hi:i<cap0
   ·by_cases hi':i<len0
    ·have:=hget i hi';rw[zaa (by omega)] at this;obtain⟨y,h⟩:=one hb.1 this;exact⟨y,λ_=>h⟩
    ·have:=hrest (i - len0) (by omega);rw[show len0+(i - len0)=i by omega,zaa (by omega)] at this;obtain⟨y,h⟩:=one hb.1 this;exact⟨y,λ_=>h⟩
   ·exact⟨E.d,λh=>absurd h hi⟩
  obtain⟨g,hg⟩:=Classical.axiomOfChoice each;have hlx:(Go.Sy.tab g len0).length=len0:=fJ _ _;refine⟨Go.Sy.tab g len0,⟨a.block,a.off,E.sz,cap0,false⟩, ?_,λy hy=> ?_, ?_,by omega⟩
  ·rw[jq rfl (.inr rfl),hlx];obtain⟨b,f,s⟩:=a;obtain rfl:s=none:=hb.1;simp[addr]
  ·obtain⟨i,hi⟩:=zby hy;have hlt:i<len0:=by have:=(zaV.1 hi).1;omega
   rw[qX _ hlt] at hi;simp only[za1] at hi;subst hi;exact(hg i (by omega)).1
  ·refine⟨rfl,λ_=>hb.2,by show (Go.Sy.tab g len0).length<=cap0;omega,λe he=>E.len _,λj hj=> ?_,λh=>(by cases h),λe he o s ho=> ?_,λh=>(by cases h),λ_=>rfl⟩
   ·have hj:j<cap0*E.sz:=hj;have hp:0<E.sz:=by
     rcases zbK E.sz with h|h
     ·rw[h,Nat.mul_zero] at hj;omega
     ·exact h
    have hq:j / E.sz<cap0:=Nat.div_lt_of_lt_mul (by rw[zay];exact hj);have hm:j%E.sz<(E.sv (g (j / E.sz))).length:=by rw[E.len];exact zar _ hp
    have:=(hg (j / E.sz) hq).2 (j%E.sz) _ (zaa hm);rw[zbr,Nat.div_add_mod'] at this;show (w.cell? ⟨a.block,a.off+j,none⟩).isSome=true;rw[this];rfl
   ·have he':e<len0:=by rw[<-hlx];exact he
    have e1':E.get (Go.Sy.tab g len0) e=E.sv (g e):=by
     unfold El.get El.nth;rw[bR (qX g he')]
    have ho':(E.sv (g e))[o]? =some s:=by rw[<-e1'];exact ho
    show w.cell? ⟨a.block,a.off+e*E.sz+o,none⟩=_
    rw[(hg e (by omega)).2 o s ho',SV.conc_congr s (β:=oj) (β':=λ_=>(⟨a.block,a.off,E.sz,cap0,false⟩:Go.Sy.Loc)) (λi h=>by
     have:i∈SV.idss (E.sv (g e)):=SV.mem_idss.2 ⟨s,zal ho',h⟩
     rw[E.ids] at this;cases this)]
theorem open_ints {dd:DataW H} (hu:P.underlying t=some (.slice e)) (he:P.cellsOf e=1/\QV P 9 e=some [.int .i64])
 (hval:Value.okWide P w r b0 t v) (hd:DataW.Trod enc P w base (λ_=>true) held t v dd ps): ∃(xs:List Int) (L:Go.Sy.Loc),v=(SV.slc 0 0 xs.length).conc (λ_=>L)/\(∀x∈xs,cl x=true)/\BlkOK (λ_=>L) 0 (e1.old xs) w/\xs.length<=maxLen:=
 apG (E:=e1) hu he.1 (λhs h=>ar7 at0 he.2 hs h) hval hd
theorem apJ {dd:DataW H} (hu:P.underlying t=some (.slice e)) (he:P.cellsOf e=4/\QV P 9 e=some [.int .i64, .int .i64, .int .i64, .int .i64])
 (hval:Value.okWide P w r b0 t v) (hd:DataW.Trod enc P w base (λ_=>true) held t v dd ps): ∃(xs:List I4) (L:Go.Sy.Loc),v=(SV.slc 0 0 xs.length).conc (λ_=>L)/\(∀x∈xs,uz4 x=true)/\BlkOK (λ_=>L) 0 (e4.old xs) w/\xs.length<=maxLen:=
 apG (E:=e4) hu he.1 (λhs h=>ar7 at1 he.2 hs h) hval hd
def amK (P:Program) (t e:TypeId):Bool:=match P.cellTypes P.depth t with
 |some l=>l.length==5&&l[4]? ==some e
 |none=>false
theorem amk {b0':Nat} {dd:DataW H} {fs:Array Go.Field} {f0 f1 f2:Go.Field} (hu:P.underlying t=some (.struct fs)) (hfs:fs.toList= [f0,f1,f2]) (hc:P.cellsOf t=5)
 (h0:f0.offset=0/\P.cellsOf f0.type=3/\QV P 9 f0.type=some [.int .i64, .int .i64, .int .i64]) (h1:f1.offset=3/\P.cellsOf f1.type=1/\QV P 9 f1.type=some [.int .i64]) (h2:f2.offset=4/\P.cellsOf f2.type=1/\P.underlying f2.type=some (.slice e))
 (he:P.cellsOf e=4/\QV P 9 e=some [.int .i64, .int .i64, .int .i64, .int .i64]) (ht:amK P t f2.type=true)
 (hval:Value.okWide P w r b0' t v) (hd:DataW.Trod enc P w base (λ_=>true) held t v dd ps): ∃(c:Ca9) (L:Go.Sy.Loc),v=(al2 c.a c.b c.c c.k c.x.length).conc (λ_=>L)/\c.ok=true/\BlkOK (λ_=>L) 0 (e4.old c.x) w/\c.x.length<=maxLen:=by
 simp only[Value.okWide,hu] at hval;obtain⟨cs,rfl,hsz,ts,hts,_,hrow⟩:=hval;have ht4:ts.length=5/\ts[4]? =some f2.type:=by
  unfold amK at ht;rw[hts] at ht;simpa using ht
 obtain⟨fuel,hf⟩:=hd;obtain⟨xs,m,_,_,hl,hn,hel⟩:=DataW.trod_struct hu hf;have hL:cs.toList.length=5:=by rw[Array.length_toList,hsz,hc]
 have fld: ∀(i:Nat) (f:Go.Field),fs.toList[i]? =some f-> ∃x,DataW.trod enc P w base (λ_=>true) held m f.type ((cs.toList.drop f.offset).take (P.cellsOf f.type))=some x:=λi f hi=>by
  have h1:=hel i f (by rw[<-Array.getElem?_toList];exact hi);have hlt:i<fs.toList.length:=(zaV.1 hi).1;rw[zaa (by simp at hlt;omega)] at h1;exact⟨_,h1⟩
 rw[hfs] at fld;obtain⟨cs⟩:=cs;dsimp only at hL fld hrow ⊢
 match cs,hL with
 | [c0,c1,c2,c3,c4],_=>
 obtain⟨x0,k0⟩:=fld 0 f0 rfl;obtain⟨x1,k1⟩:=fld 1 f1 rfl;obtain⟨⟨d2,p2⟩,k2⟩:=fld 2 f2 rfl;rw[h0.1,h0.2.1] at k0;rw[h1.1,h1.2.1] at k1;rw[h2.1,h2.2.1] at k2;obtain⟨⟨a0,rfl,b0⟩,⟨a1,rfl,b1⟩,⟨a2,rfl,b2⟩,_⟩:=FB 9 h0.2.2 k0;obtain⟨⟨a3,rfl,b3⟩,_⟩:=FB 9 h1.2.2 k1;obtain⟨u,hu',hok⟩:=hrow 4 c4 rfl;rw[ht4.1,ht4.2] at hu';simp only[za1] at hu';subst hu';have v4:Value.okWide P w r b0' f2.type c4:=by simp only[Value.okWide,h2.2.2];exact hok
 obtain⟨a,l,n,rfl⟩:=okWide_slice h2.2.2 v4;obtain⟨xs,L,q,w1,B1,m1⟩:=apJ h2.2.2 he v4 ⟨m,k2⟩;refine⟨⟨a0,a1,a2,a3,xs⟩,L, ?_, ?_,B1,m1⟩
 ·rw[q];rfl
 ·unfold Ca9.ok;rw[u64 b0,u64 b1,u64 b2,u64 b3,zaf.2 w1];rfl
end
variable {β:Nat->Go.Sy.Loc} {w:World}
theorem aoA {L:Go.Sy.Loc} {i:Nat} {B:Blk} (h:BlkOK (λ_=>L) 0 B w) (hl:β i=L) (hc: ∀e,e<B.n->SV.idss (B.get e)= []):BlkOK β i B w:=
 wD (i1:=0) h (by rw[hl]) rfl (za0 _) id (λh=> .inl h) λe he=>⟨rfl,λo s hs=>⟨s,hs,SV.conc_congr s λj hj=>by
  have:j∈SV.idss (B.get e):=SV.mem_idss.2 ⟨s,zal hs,hj⟩
  rw[hc e he] at this;cases this⟩⟩
variable {Bs:zdV}
theorem aoL (h: ∀(i:Nat) (B:Blk),Bs[i]? =some B->BlkOK β i B w/\B.kd= .old/\ ∀e,e<B.n->SV.idss (B.get e)= []):BC w (λi=>Bs[i]?) β w:=by
 have no: ∀{i:Nat} {C:Blk},Bs[i]? =some C->C.kd= .old:=λ{i C} hC=>(h i C hC).2.1;refine⟨Pres.refl _,λid C hC _=>(h id C hC).1,λid C hC ho=> ?_,λid C hC _ hn=> ?_,λid id' C C' hC hC' ho _ _ _ _=> ?_,λid C e o s hC _ he hs=> ?_,⟨λid C hC hm=> ?_,λid id' C C' hC hC' hm=> ?_,λid C e s hC hm=> ?_,λid C hC hm=> ?_⟩⟩
 ·rw[no hC] at ho;cases ho
 ·refine⟨?_,rfl⟩;intro hm;have:=(h id C hC).1.lt hn;rcases hm with hm|hm
  ·exact absurd this (Nat.not_lt.2 hm)
  ·cases hm
 ·rw[no hC] at ho;cases ho
 ·intro i hi;have:i∈SV.idss (C.get e):=SV.mem_idss.2 ⟨s,zal hs,hi⟩;rw[(h id C hC).2.2 e he] at this;cases this
 all_goals rw[no hC] at hm;cases hm
def UL (L M:Go.Sy.Loc) (i:Nat):Go.Sy.Loc:=match i with
 |0=>L
 |_=>M
theorem ao7 {p:Addr} {g:List (FuncId×Ctr)} (hg:GEk g) {gm:zdY} (hm:MEk p gm) {W:World} (hW:GlobE p W) {ann:zdW} {n:Nat} {F:FuncId} {args:zdL} (hbc:BC W (λi=>Bs[i]?) β W) (hl: ∀s∈args,∀i∈s.ids,i<Bs.length) (h:XC p g gm ann n F args Bs (Go.Sy.okK λr _ _ _=>r=cB.enc true)):
 Calls Tryz.prog F (SV.concs β args).toArray W λe w'=>e= .returned (.bool true)/\Below W.heap.size W w':=by
 unfold XC at h
 obtain⟨_,hc⟩:=sU (ac9 hg hm (GlobEB.of hW)) ann n F args (λi=>Bs[i]?) Bs.length [] _ β W h hbc (λi hi=>zad hi) (λs hs i hi=>by
  show Bs[i]? ≠none
  rw[zaa (hl s hs i hi)];simp)
 refine Calls.mono hc ?_;rintro e w' ⟨β',s,bl',nx',wl',he,hk,hbc,_⟩;cases s with
 |pan v=>exact hk.elim
 |ok s=>
 obtain rfl:e=_:=he;obtain rfl:s=_:=hk;exact⟨rfl,hbc.below.below⟩
def arZ:List Leaf:= [.int .i64, .int .i64, .int .i64, .int .i64, .int .i64, .int .i64, .int .i64, .int .i64, .int .i64, .int .i64, .int .i64, .int .i64, .int .i64, .int .i64, .str, .str, .str, .str, .int .i64, .int .i64]
def ash:List Leaf:= .int .i64:: .str:: .str::(arZ++ [.int .i64, .int .i64, .int .i64])
theorem aro {a:zdI} (h:a.size<=maxLen):uz a=true:=zdq h
theorem ar8: ∀vs,okL arZ vs-> ∃u:Un,szB u=true/\vs=SV.concs oj (ci u):=λvs h=>by
 have hl:=arC h
 match vs,hl,h with
 | [_,_,_,_,_,_,_,_,_,_,_,_,_,_,_,_,_,_,_,_],_,⟨⟨a0,rfl,_⟩,⟨b0,rfl,_⟩,⟨a1,rfl,_⟩,⟨b1,rfl,_⟩,⟨a2,rfl,_⟩,⟨b2,rfl,_⟩,⟨a3,rfl,_⟩,⟨b3,rfl,_⟩,⟨a4,rfl,_⟩,⟨b4,rfl,_⟩,⟨a5,rfl,_⟩,⟨b5,rfl,_⟩,⟨a6,rfl,_⟩,⟨b6,rfl,_⟩,⟨f1,rfl,h1⟩,⟨f2,rfl,h2⟩,⟨o1,rfl,h3⟩,⟨o2,rfl,h4⟩,⟨k,rfl,_⟩,⟨s,rfl,_⟩,_⟩=>
   refine⟨⟨mk7 a0 b0 a1 b1 a2 b2 a3 b3 a4 b4 a5 b5 a6 b6,(f1,f2),(o1,o2),k,s⟩, ?_,rfl⟩;show ((uz f1&&uz f2)&&(uz o1&&uz o2))=true;rw[aro h1,aro h2,aro h3,aro h4];rfl
theorem ar9: ∀vs,okL ash vs-> ∃x:Nd,szN x=true/\vs=SV.concs oj (svN x):=λvs h=>by
 have hl:=arC h
 match vs,hl,h with
 | [_,_,_,_,_,_,_,_,_,_,_,_,_,_,_,_,_,_,_,_,_,_,_,_,_,_],_,⟨⟨op,rfl,_⟩,⟨v1,rfl,h5⟩,⟨v2,rfl,h6⟩,⟨a0,rfl,_⟩,⟨b0,rfl,_⟩,⟨a1,rfl,_⟩,⟨b1,rfl,_⟩,⟨a2,rfl,_⟩,⟨b2,rfl,_⟩,⟨a3,rfl,_⟩,⟨b3,rfl,_⟩,⟨a4,rfl,_⟩,⟨b4,rfl,_⟩,⟨a5,rfl,_⟩,⟨b5,rfl,_⟩,⟨a6,rfl,_⟩,⟨b6,rfl,_⟩,⟨f1,rfl,h1⟩,⟨f2,rfl,h2⟩,⟨o1,rfl,h3⟩,⟨o2,rfl,h4⟩,⟨k,rfl,_⟩,⟨s,rfl,_⟩,⟨n,rfl,_⟩,⟨l,rfl,_⟩,⟨r,rfl,_⟩,_⟩=>
   refine⟨⟨op,(v1,v2),⟨mk7 a0 b0 a1 b1 a2 b2 a3 b3 a4 b4 a5 b5 a6 b6,(f1,f2),(o1,o2),k,s⟩,n,l,r⟩, ?_,rfl⟩;show ((uz v1&&uz v2)&&((uz f1&&uz f2)&&(uz o1&&uz o2)))=true;rw[aro h1,aro h2,aro h3,aro h4,aro h5,aro h6];rfl
section
variable {H:Type} {enc:TypeId×Value->H} {P:Program} {w:World} {base:Nat}
variable {r:Reach} {b0:Nat} {v:Value} {ps:List MemPlace} {held:Bool} {t:TypeId}
theorem asx {dd:DataW H} (ht:atA P t=true) (h:QV P 9 t=some ash) (hval:Value.okWide P w r b0 t v)
 (hd:DataW.Trod enc P w base (λ_=>true) held t v dd ps): ∃x:Nd,v=(SV.agg (svN x)).conc oj/\szN x=true:=by
 obtain⟨cs,rfl,hc⟩:=asw ht h hval hd;obtain⟨x,hx,rfl⟩:=ar9 cs hc;exact⟨x,rfl,hx⟩
def atm (P:Program) (t e f:TypeId):Bool:=match P.cellTypes P.depth t with
 |some l=>l.length==23&&l[1]? ==some e&&l[2]? ==some f
 |none=>false
theorem asy {dd:DataW H} {eu en:TypeId} {fs:Array Go.Field} {f0 f1 f2 f3:Go.Field} (hu:P.underlying t=some (.struct fs)) (hfs:fs.toList= [f0,f1,f2,f3]) (hc:P.cellsOf t=23)
 (h0:f0.offset=0/\P.cellsOf f0.type=1/\QV P 9 f0.type=some [.int .i64]) (h1:f1.offset=1/\P.cellsOf f1.type=1/\P.underlying f1.type=some (.slice eu)) (h2:f2.offset=2/\P.cellsOf f2.type=1/\P.underlying f2.type=some (.slice en)) (h3:f3.offset=3/\P.cellsOf f3.type=20/\QV P 9 f3.type=some arZ)
 (he:P.cellsOf eu=20/\QV P 9 eu=some arZ) (hn:P.cellsOf en=26/\QV P 9 en=some ash) (ht:atm P t f1.type f2.type=true)
 (hval:Value.okWide P w r b0 t v) (hd:DataW.Trod enc P w base (λ_=>true) held t v dd ps): ∃(p:Pr) (L M:Go.Sy.Loc),v=(kB p).conc (UL L M)/\aci p=true/\BlkOK (λ_=>L) 0 (eU.old p.inp) w/\BlkOK (λ_=>M) 0 (eN.old p.nod) w:=by
 simp only[Value.okWide,hu] at hval;obtain⟨cs,rfl,hsz,ts,hts,_,hrow⟩:=hval;have ht4:(ts.length=23/\ts[1]? =some f1.type)/\ts[2]? =some f2.type:=by
  unfold atm at ht;rw[hts] at ht;simpa using ht
 obtain⟨fuel,hf⟩:=hd;obtain⟨xs,m,_,_,hl,_,hel⟩:=DataW.trod_struct hu hf;have hL:cs.toList.length=23:=by rw[Array.length_toList,hsz,hc]
 have fld: ∀(i:Nat) (f:Go.Field),fs.toList[i]? =some f-> ∃x,DataW.trod enc P w base (λ_=>true) held m f.type ((cs.toList.drop f.offset).take (P.cellsOf f.type))=some x:=λi f hi=>by
  have h1:=hel i f (by rw[<-Array.getElem?_toList];exact hi);have hlt:i<fs.toList.length:=(zaV.1 hi).1;rw[zaa (by simp at hlt;omega)] at h1;exact⟨_,h1⟩
 rw[hfs] at fld;obtain⟨cs⟩:=cs;dsimp only at hL fld hrow ⊢
 match cs,hL with
 |c0::c1::c2::cr,hL=>
 obtain⟨x0,k0⟩:=fld 0 f0 rfl;obtain⟨⟨d1,p1⟩,k1⟩:=fld 1 f1 rfl;obtain⟨⟨d2,p2⟩,k2⟩:=fld 2 f2 rfl;obtain⟨x3,k3⟩:=fld 3 f3 rfl;rw[h0.1,h0.2.1] at k0;rw[h1.1,h1.2.1] at k1;rw[h2.1,h2.2.1] at k2;rw[h3.1,h3.2.1] at k3;obtain⟨⟨id,rfl,_⟩,_⟩:=FB 9 h0.2.2 k0;have hr:cr.length=20:=by simpa using hL
 rw[show (List.drop 3 (Value.int .i64 id::c1::c2::cr)).take 20=cr by simp[zaI (Nat.le_of_eq hr)]] at k3;obtain⟨u,hu',hr'⟩:=ar8 cr (FB 9 h3.2.2 k3);obtain⟨t1,e1,o1⟩:=hrow 1 c1 rfl;rw[ht4.1.1,ht4.1.2] at e1;obtain⟨t2,e2,o2⟩:=hrow 2 c2 rfl;rw[ht4.1.1,ht4.2] at e2;simp only[za1] at e1 e2;subst e1 e2;have v1:Value.okWide P w r b0 f1.type c1:=by simp only[Value.okWide,h1.2.2];exact o1
 have v2:Value.okWide P w r b0 f2.type c2:=by simp only[Value.okWide,h2.2.2];exact o2
 obtain⟨a1,l1,n1,rfl⟩:=okWide_slice h1.2.2 v1;obtain⟨a2,l2,n2,rfl⟩:=okWide_slice h2.2.2 v2;obtain⟨us,L,q1,w1,B1,_⟩:=apG (E:=eU) (ok:=szB) h1.2.2 he.1 (λhs h=>ar7 ar8 he.2 hs h) v1 ⟨m,k1⟩;obtain⟨ns,M,q2,w2,B2,_⟩:=apG (E:=eN) (ok:=szN) h2.2.2 hn.1 (λhs h=>ar7 ar9 hn.2 hs h) v2 ⟨m,k2⟩;refine⟨⟨id,us,ns,u⟩,L,M, ?_, ?_,B1,B2⟩
 ·rw[q1,q2,hr'];rfl
 ·unfold aci;simp only[za2,zaf];exact⟨⟨w1,w2⟩,hu'⟩
end
theorem aln (s:zdI):(alG s).size<=20:=by
 have:=alZ (n:=s.size);unfold alG;rw[ByteArray.size_extract];omega
theorem amD (u:Un):szB (alf u)=true:=by
 have h: ∀s:zdI,uz (alG s)=true:=λs=>zdq (zac (aln s) (by decide));show ((uz (alG u.f.1)&&uz (alG u.f.2))&&(uz (alG u.o.1)&&uz (alG u.o.2)))=true;rw[h,h,h,h];rfl
theorem asm (x:Nd):szN (alw x)=true:=by
 have h: ∀s:zdI,uz (alG s)=true:=λs=>zdq (zac (aln s) (by decide));have:=amD x.u;show ((uz (alG x.v.1)&&uz (alG x.v.2))&&szB (alf x.u))=true;rw[h,h,this];rfl
structure Sz9 (p:Pr):Prop where
 i: ∀u∈p.inp,szB u=true
 n: ∀x∈p.nod,szN x=true
 o:szB p.out=true
 li:p.inp.length<=1000
 ln:p.nod.length<=1000
theorem asn (p:Pr):Sz9 (alM p):=by
 refine⟨λu hu=> ?_,λx hx=> ?_,amD _, ?_, ?_⟩
 ·obtain⟨v,_,rfl⟩:=zaz.1 hu;exact amD v
 ·obtain⟨y,_,rfl⟩:=zaz.1 hx;exact asm y
 ·show ((p.inp.take 8).map alf).length<=1000;rw[zaB,zaE];omega
 ·show ((p.nod.take 42).map alw).length<=1000;rw[zaB,zaE];omega
theorem al7 {α:Type} {d x:α}: ∀{l:List α} {i e:Nat},e<l.length->mb d (l.set i x) e=bif Nat.beq e i then x else mb d l e
 | [],_,_,h=>by simp at h
 |y::r,0,0,_=>rfl
 |y::r,0,e+1,_=>rfl
 |y::r,i+1,0,_=>rfl
 |y::r,i+1,e+1,h=>by
  rw[zaR];exact al7 (l:=r) (by simpa using h)
theorem asT {l:ze1} {i e:Nat} {x:Nd} (he:e<l.length):atd (eN.get l) i x e=eN.get (l.set i x) e:=by
 show (bif Nat.beq e i then gZ (svN (mb noN l e)) 0 (svN x) else svN (mb noN l e))=svN (mb noN (l.set i x) e);rw[al7 he];cases Nat.beq e i<;>rfl
theorem alP {α:Type} {x y:α}: ∀{l:List α} {i:Nat},y∈l.set i x->y=x\/y∈l
 | [],_,h=>by simp at h
 |z::r,0,h=>by
  rw[zba] at h;rcases zai.1 h with h|h
  ·exact .inl h
  ·exact .inr (zan _ h)
 |z::r,i+1,h=>by
  rw[zaR] at h;rcases zai.1 h with h|h
  ·exact .inr (by rw[h];exact zbF ..)
  ·exact(alP h).imp id (zan _)
variable {r:Pr}
theorem asi {g:zdO} {u:Un} (h:Sz9 r) (ho:szB u=true) (l:ze1) (hl:l.length=r.nod.length) (hn: ∀x∈l,szN x=true) (hg: ∀e,e<r.nod.length->g e=eN.get l e):ndM r g u=true:=
 als (by have:=h.li;omega) (by have:=h.ln;omega) (El.good_get h.i) (by
  rw[<-hl];exact El.good_iff.2 λe he=>by
   rw[hg e (by omega)]
   exact El.good_iff.1 (El.good_get (E:=eN) hn) e he) ho
theorem asU (h:Sz9 r):ndP r=true:=asi h h.o r.nod rfl h.n λ_ _=>rfl
theorem asV (hi: ∀u∈r.inp,szB u=true) (hn: ∀x∈r.nod,szN x=true) (ho:szB r.out=true):ndF r=true:=by
 unfold ndF ndL;rw[zae (za0 r.inp.length),zae (za0 r.nod.length),El.good_get hi,El.good_get hn,ho];rfl
theorem asW (r:Pr):rdP r=r:=by
 unfold rdP rdM;rw[show eU.list r.inp.length (eU.get r.inp)=r.inp from El.list_get,show eN.list r.nod.length (eN.get r.nod)=r.nod from El.list_get]
theorem an3 {xs:List Int} {n:Nat}: ∀v∈vu xs n,uzR v=true:=λv hv=>by
 obtain⟨i,hi⟩:=zby hv;have hlt:i<n:=by
  have:=(zaV.1 hi).1;rw[show (vu xs n).length=n from fJ _ _] at this;exact this
 rw[show (vu xs n)[i]? =_ from qX _ hlt] at hi;simp only[za1] at hi;subst hi;exact aoD _
section
variable {I:Int->Prop} {p:Pr} {ks:List Int} {Q:zdS}
variable {nd:Bool} {X:Pr} {n:Nat} {K:Prop}
theorem ar0 {m:Nat} {g:zdO} (hd:nd=true) (h1:n<=m) (h2:n<=1000000) (hg:eR.good uzR n g=true) (k:K):asS Q nd X n m g K:=by
 have hn:(nd&&(Nat.ble n m&&Nat.beq 2 2&&true)&&bW n&&eR.good uzR n g)=true:=by
  unfold bW;rw[hd,zae h1,zae h2,hg];rfl
 unfold asS n9 uK;refine ac hn λ_ _=>ac hn λ_ _=>ah (λh=> ?_) λ_=>k;rw[Wg.2 rfl,bne_self_eq_false] at h;cases h
variable {ni:Nat}
theorem ate (hd:nd=true) (hk: ∀x∈ks,cl x=true) (hi:ni<=1000) (k:K):atz ks Q nd X ni K:=by
 have va: ∀{n:Int},0<=n->n<=1000000->vaP ks n=true:=λ{n} h0 h1=>by
  unfold vaP;rw[zae (za0 ks.length),El.good_get (E:=e1) hk,zdq h0,zdq h1];rfl
 have len: ∀{xs:List Int} {n:Nat},(vu xs n).length=n:=λ{xs n}=>fJ _ _;have gd: ∀{xs:List Int} {n:Nat},eR.good uzR n (eR.get (vu xs n))=true:=λ{xs n}=>by
  have:=El.good_get (E:=eR) (l:=vu xs n) an3;rwa[len] at this
 unfold atz n9 uK
 exact ac (va (by omega) (by omega)) λ_ _=>ac (va (by decide) (by decide)) λ_ _=>ar0 hd (by rw[len];exact za0 _) (by omega) gd (ar0 hd (by rw[len];exact za0 _) (by decide) gd (ar0 hd (by decide) (by decide) (El.good_iff.2 λe he=>by
  obtain rfl:e=0:=by omega
  exact⟨rfl,by decide⟩) k))
variable {j:Int}
theorem asa {i:Int}:lpM ks j n i i:=⟨⟨rfl,rfl,rfl,rfl,rfl,rfl,rfl,rfl,rfl,rfl,trivial⟩,trivial,trivial,trivial⟩
theorem atB {us:ze0} (hl:us.length<=1000000) (k:K):lpT ks Q j us K:=by
 refine⟨0,⟨zat _,by omega⟩,asa,λy ⟨y0,y1⟩=>ah (λhy=> ?_) λ_=>k⟩;have hy:=zdv hy;refine aY y0 hy (aY y0 hy (ah (λh=> ?_) λ_=>ac (VP.2 (by omega)) ⟨y+1,⟨by omega,by omega⟩,by omega,asa⟩));rw[Wh.2 rfl] at h;cases h
theorem atf (X:Pr) (h:X.nod.length<=1000):(VJ X).1.length<=1000000:=by
 rcases ke X with ⟨_,h2⟩|⟨_,_,h3,_⟩
 ·rw[h2];decide
 ·omega
theorem ar1 (hd:nd=true) (hp:ndP p=true) (hX:X.nod.length<=1000) (hk: ∀x∈ks,cl x=true) (hi:ni<=1000) (h0:0<=j) (h4:j<=4):itT (λi=>0<=i/\i<=5) p ks Q j nd X ni:=by
 have N: ∀{a:Bool} {K:Prop},a=true->K->n9 a K:=λh k=>ac h λ_ _=>k;have hdp:(nd&&ndP p)=true:=by rw[hd,hp];rfl
 have hdd:(nd&&nd)=true:=by rw[hd];rfl
 unfold itT;refine N hd (N hd (ah (λh=> ?_) λ_=>N hd (N hd (ah (λh=> ?_) λ_=>N hdp (N hdp (ah (λh=> ?_) λ_=>N hdd (ah (λh=> ?_) λ_=>atB (atf X hX) (ate hd hk hi ⟨j+1,⟨by omega,by omega⟩,by omega,⟨⟨rfl,rfl,rfl,rfl,rfl,rfl,trivial⟩,trivial,trivial,trivial⟩⟩))))))))
 ·rw[bne_self_eq_false,bne_self_eq_false,bne_self_eq_false] at h;cases h
 ·rw[bne_self_eq_false] at h;cases h
 ·rw[bne_self_eq_false] at h;cases h
 ·rw[show arF X X=true from arB.2 rfl] at h;cases h
end
theorem asX {raw:Pr} {a b c k:Int} {xs:List I4} {which:Int} {y:Nd} {h:I4} {ks:List Int} {Q:zdS} (ri: ∀u∈raw.inp,szB u=true) (rn: ∀x∈raw.nod,szN x=true) (ro:szB raw.out=true)
 (ha:cl a=true) (hb:cl b=true) (hc:cl c=true) (hk:cl k=true) (hx: ∀y∈xs,uz4 y=true) (hn:xs.length<=9223372036854775807) (hw:cl which=true) (h0:cl h.1=true) (h1:cl h.2.1=true) (h2:cl h.2.2.1=true) (h3:cl h.2.2.2=true)
 (hv: ∀x∈ks,cl x=true) (hQ:Q (cB.enc true)):pmT (λi=>0<=i/\i<=5) raw a b c k xs which y h ks Q:=by
 have ml:=Sb (a:=(a,b,c)) (count:=k) (xs:=xs) (ex:=false);have ms:=arx (Tn (a:=(a,b,c)) (count:=k) (xs:=xs) (ex:=false));have q1:1<=(alM (Bd (a,b,c) k xs false)).nod.length:=by
  show 1<=(((Bd (a,b,c) k xs false).nod.take 42).map alw).length;rw[zaB,zaE];omega
 have qz:=asn (Bd (a,b,c) k xs false);have fz:=asn raw;unfold pmT n9 uK;rw[show e4.list xs.length (e4.get xs)=xs from El.list_get,asW];generalize alM (Bd (a,b,c) k xs false)=q at q1 qz ⊢;generalize Bd (a,b,c) k xs false=p at ml ms ⊢;obtain⟨l1,l2,l3,l4⟩:=ml;obtain⟨⟨si,sn⟩,so⟩:=ms;have pz:Sz9 p:=⟨si,sn,so,by omega,by omega⟩;have hF:ndF p=true:=asV si sn so;have bw:=gR which (n:=q.nod.length) (by omega);have b1:=gR h.2.1 (n:=11) (by decide);have b2:=gR h.2.2.1 (n:=16) (by decide);have b3:=gR h.2.2.2 (n:=16) (by decide);have L:=qz.ln;have pk:pkB which q.nod.length=true:=by unfold pkB;rw[hw,zdq (show (0:Int)<(q.nod.length:Int) by omega)];rfl
 have pk': ∀{z m:Int},cl z=true->0<m->pkB z m=true:=λ{z m} h1 h2=>by unfold pkB;rw[h1,zdq h2];rfl
 refine λ_ _=>ac ?_ λ_ _=>ac hF λ_ _=> ?_
 ·rw[zae (za0 _),zdq hn,El.good_get (E:=e4) hx,ha,hb,hc,hk];rfl
 unfold pm1 n9 uK;refine ac pk (aY bw.1 bw.2 (ac hF λ_ _=>ac pk (ac (pk' h0 (by decide)) (ac (pk' h1 (by decide)) (ac (VP.2 (by omega)) (ac (pk' h2 (by decide)) (ac (VP.2 (by omega)) (ac (pk' h3 (by decide)) (ac (VP.2 (by omega)) (aY bw.1 bw.2 (ac hF λ_ _=>ac h0 (ac (asV ri rn ro) λ_ _=> ?_))))))))))));have nP:=asU pz;have put: ∀{j:Int} (x:Nd),szN x=true->0<=j->j<=4->itM (λi=>0<=i/\i<=5) p ks Q j q (atd (eN.get q.nod) (0+(co which q.nod.length).toNat) x) q.out:=λ{j} x hx j0 j4=>
  ar1 (asi qz qz.o (q.nod.set (0+(co which q.nod.length).toNat) x) (zcj ..) (λy hy=>(alP hy).elim (λe=>by rw[e];exact hx) (qz.n y)) λe he=>asT he) nP (by show (eN.list _ _).length<=_;rw[El.list_length];exact L) hv qz.li j0 j4
 have len: ∀{r:Pr} {u:Un},r.nod.length<=1000->(rdM r (eN.get r.nod) u).nod.length<=1000:=λ{r u} h=>by show (eN.list _ _).length<=_;rw[El.list_length];exact h
 refine⟨0,⟨zat _,by decide⟩,⟨⟨rfl,rfl,rfl,rfl,rfl,rfl,trivial⟩,trivial,trivial,trivial⟩,λx ⟨x0,x1⟩=>by omega,λ_ _=> ?_,λ_ _=> ?_,λ_ _=>put _ (asm y) (by decide) (by decide),λ_ _=>put _ (by show (uzR VI&&szB noU)=true;decide) (by decide) (by decide),λ_ _=> ?_,λ_ _=>hQ,trivial⟩
 ·rw[asW];exact ar1 (asU fz) nP (len fz.ln) hv fz.li (by decide) (by decide)
 ·exact ar1 nP nP (len pz.ln) hv pz.li (by decide) (by decide)
 ·exact ar1 (asi qz (QY _) q.nod rfl qz.n λ_ _=>rfl) nP (len L) hv qz.li (by decide) (by decide)
def asY (A L M R:Go.Sy.Loc) (i:Nat):Go.Sy.Loc:=match i with
 |0=>A
 |1=>L
 |2=>M
 |_=>R
theorem arp (raw:Pr) (c:Ca9) (which:Int) (y:Nd) (h0 h1 h2 h3:Int) (ks:List Int) {L M A R:Go.Sy.Loc} {W:World} (hr:aci raw=true) (hU:BlkOK (λ_=>L) 0 (eU.old raw.inp) W) (hN:BlkOK (λ_=>M) 0 (eN.old raw.nod) W)
 (h:c.ok=true) (hB:BlkOK (λ_=>A) 0 (e4.old c.x) W) (hl:c.x.length<=maxLen) (hw:B64 which) (_:szN y=true) (b0:B64 h0) (b1:B64 h1) (b2:B64 h2) (b3:B64 h3) (hv: ∀x∈ks,cl x=true) (hD:BlkOK (λ_=>R) 0 (e1.old ks) W) (_:ks.length<=maxLen) (_:World) (hg: ∃p,GlobE p W):
 Calls Tryz.prog 3 #[(kB raw).conc (UL L M),(al2 c.a c.b c.c c.k c.x.length).conc (λ_=>A), .int .i64 which,(SV.agg (svN y)).conc oj, .agg #[.int .i64 h0, .int .i64 h1, .int .i64 h2, .int .i64 h3],(SV.slc 0 0 ks.length).conc (λ_=>R)] W λe w'=>e= .returned (.bool true)/\Below W.heap.size W w':=by
 obtain⟨p,hg⟩:=hg;unfold Ca9.ok at h;simp only[za2,zaf] at h;obtain⟨⟨⟨⟨a0,a1⟩,a2⟩,a3⟩,ax⟩:=h;obtain⟨⟨ri,rn⟩,ro⟩:=arx hr;have hbc:BC W (λi=> [e4.old c.x,eU.old raw.inp,eN.old raw.nod,e1.old ks][i]?) (asY A L M R) W:=aoL λi B hB'=>by
  match i,hB' with
  |0,hB'=>obtain rfl:=zbk hB';exact⟨aoA hB rfl λe _=>e4.ids _,rfl,λe _=>e4.ids _⟩
  |1,hB'=>obtain rfl:=zbk hB';exact⟨aoA hU rfl λe _=>eU.ids _,rfl,λe _=>eU.ids _⟩
  |2,hB'=>obtain rfl:=zbk hB';exact⟨aoA hN rfl λe _=>eN.ids _,rfl,λe _=>eN.ids _⟩
  |3,hB'=>obtain rfl:=zbk hB';exact⟨aoA hD rfl λe _=>e1.ids _,rfl,λe _=>e1.ids _⟩
 have c9:(al2 c.a c.b c.c c.k c.x.length).conc (asY A L M R)=(al2 c.a c.b c.c c.k c.x.length).conc (λ_=>A):=SV.conc_congr _ λi hi=>by
  have:i=0:=by simpa [al2,SV.ids,SV.idss] using hi
  subst this;rfl
 have ea:(SV.concs (asY A L M R) [asR raw,al2 c.a c.b c.c c.k c.x.length,cI.enc which, .agg (svN y),sv4 (h0,h1,h2,h3), .slc 3 0 ks.length]).toArray= #[(kB raw).conc (UL L M),(al2 c.a c.b c.c c.k c.x.length).conc (λ_=>A), .int .i64 which,(SV.agg (svN y)).conc oj, .agg #[.int .i64 h0, .int .i64 h1, .int .i64 h2, .int .i64 h3],(SV.slc 0 0 ks.length).conc (λ_=>R)]:=by
  simp only[SV.concs];rw[c9];rfl
 rw[<-ea]
 exact ao7 amV atc hg (ann:=atk (λi=>0<=i/\i<=5)) (n:=8) hbc (λs hs i hi=>by
  simp only[zai,zbx,or_false] at hs;show i<4;rcases hs with rfl|rfl|rfl|rfl|rfl|rfl
  ·have:i=1\/i=2:=by simpa [asR,SV.ids,SV.idss,fj] using hi
   omega
  ·have:i=0:=by simpa [al2,SV.ids,SV.idss] using hi
   omega
  ·rw[cI.ids] at hi;cases hi
  ·have:i∈SV.idss (svN y):=by simpa [SV.ids] using hi
   rw[arA] at this;cases this
  ·simp[sv4,SV.ids,SV.idss] at hi
  ·have:i=3:=by simpa [SV.ids] using hi
   omega) (by
  have e:=atN p (λi=>0<=i/\i<=5) raw c.a c.b c.c c.k c.x which y (h0,h1,h2,h3) ks (λr=>r=cB.enc true);unfold atl at e;rw[e]
  exact asX ri rn ro a0 a1 a2 a3 ax (zac hl (by decide)) (V4.2 hw) (V4.2 b0) (V4.2 b1) (V4.2 b2) (V4.2 b3) hv rfl)
end Go.Proofs.YtfokhpciehfdnaaGreatDoor
namespace Go.Proofs.YtfokhpciehfdnaaGreatDoor
open Go.Proofs.Tryz
open Go.ChangeShapes Go.WideShapes Go.ChangeAt Go.RowKit Yk
theorem oQ {H:Type} {enc:TypeId×Value->H} {a:Assume} {C:Checked} {os:Os} {f:FuncId} {fn:Func} {s:ChangeSpec} {conds:List PathCond} {apart fresh handsOn again:Bool} {X:World->Array Value->Prop}
 (hX: ∀(w w':World) (args:Array Value),w.heap=w'.heap->X w args->X w' args)
 (own:ownKnob C.prog.godebug=none) (started:os.Started) (noInit:C.prog.inits.idxOf? f=none) (hfn:C.prog.funcs[f]? =some fn)
 (witness: ∃(w:World) (tape:Tape) (i:Input),w.os=os/\(w.forCall tape i).Shaped C.prog/\i.vars= []/\Input.okWide C.prog (w.forCall tape i) .any w.heap.size f i/\
   ((s.pre enc C.prog fn conds apart (w.forCall tape i).memory i.args/\X (w.forCall tape i).memory i.args)/\sizedMet enc C.prog fn (OpenSpec.ofChange s) apart (w.forCall tape i).memory i.args)/\a.holds C.prog (lone (Frame.enter C.prog f i.args .normal) [] (w.forCall tape i)))
 (contract: ∀(W:World) (base:Nat) (args:Array Value) (ds gs:List (DataW H)) (before:List MemPlace),
   (∀(j:Nat) t v,fn.params[j]? =some t->args[j]? =some v->Value.okWide C.prog W .any base t v)->
   DataW.Whole enc C.prog fn.params.toList s.vars apart W args.toList ds gs before->
   X W args->W.ShapedOpen C.prog->
   Calls C.prog f args W λe W'=> ∃v,e= .returned v/\s.post enc C.prog fn apart fresh handsOn again W args v W'):
 ReturnsInHanded a C os f .any (λw args=>(s.pre enc C.prog fn conds apart w args/\X w args)/\sizedMet enc C.prog fn (OpenSpec.ofChange s) apart w args) (s.post enc C.prog fn apart fresh handsOn again):=by
 refine returnsInHanded_of_calls own started noInit witness ?_;intro w tape i _ hsh _ hok hpre hholds;obtain⟨_,_,_,fn',hfn',_,_,_,_,hval⟩:=hok;have e:fn'=fn:=zbk (hfn'.symm.trans hfn);subst e;obtain⟨⟨⟨ds,gs,before,hw,hc⟩,hx⟩,hz⟩:=hpre;have hw':=DataW.Whole.of_heap (w':=w.forCall tape i) (by rfl) hw;refine(contract (w.forCall tape i) w.heap.size i.args ds gs before hval hw' (hX _ _ _ (by rfl) hx) hsh).mono λe W' ⟨v,he,hp⟩=> ?_;subst he;exact ChangeSpec.post_blind hp
theorem own:ownKnob prog.godebug=none:=by kernel_rfl
def oR:List (String×DataW Unit):=Rows.procedureMatchesReferenceRow.laid
variable {W:World}
theorem MM (h:W.ShapedOpen prog): ∃m,W.cell? ⟨4,0,none⟩=some (.int .i64 m):=
 cell_of_shapedOpen_int (t:=3) (zero:= #[.int .i64 0]) h (zdv (by kernel_rfl)) (by kernel_rfl) (by kernel_rfl) (by kernel_rfl) (by kernel_rfl) underlying3
theorem MN:(Rows.laid_internal_strconv_uint64pow10:DataW Unit)=Lib.tabData .u64 Lib.pow10Tab:=by kernel_rfl
theorem No:prog.globalNamed "strconv.ErrRange" =some 3:=by kernel_rfl
theorem Np:prog.globalNamed "strconv.ErrSyntax" =some 2:=by kernel_rfl
theorem QB: "*" ++ "errors.errorString" = "*errors.errorString" :=by decide
theorem JV (u:TypeId) (h:prog.typeName? 3 u=some "*errors.errorString"):u=326:=
 typeName_ptr_named (nm:= "errors.errorString") (by rw[QB];kernel_rfl) (by kernel_rfl) (by decide) u (by rw[QB];exact h)
theorem JW (h:W.ShapedOpen prog) (hL:laidMetH prog oR W):GlobU W:=by
 rw[MakeChecks.laidMetH_plain _ _ _ (by kernel_rfl)] at hL;have hL1:=laidMet.tail (laidMet.tail hL);have ht:Lib.TabIs prog W "internal/strconv.uint64pow10" .u64 Lib.pow10Tab:=
  Lib.tabIs_of_head NL (by kernel_rfl) underlying313 underlying268 (by kernel_rfl) (by kernel_rfl) (MN▸hL1)
 have hL2:=laidMet.tail (laidMet.tail hL1);obtain⟨a0,s0,hv0,_,_,_⟩:=laid_sentinel (g:=3) (ti:=117) (tp:=326) (te:=328) (ts:=9) hL2 No (by kernel_rfl) underlying117 JV underlying326 underlying328 rfl rfl underlying9 (by kernel_rfl) (by kernel_rfl);obtain⟨a1,s1,hv1,_,_,_⟩:=laid_sentinel (g:=2) (ti:=117) (tp:=326) (te:=328) (ts:=9) (laidMet.tail hL2) Np (by kernel_rfl) underlying117 JV underlying326 underlying328 rfl rfl underlying9 (by kernel_rfl) (by kernel_rfl);have c0:=World.var?_cell No hv0 0;have c1:=World.var?_cell Np hv1 0;exact⟨⟨MM h,ht,World.block_lt_of_cell? W _ (ht.cell NL 0 (by decide))⟩,⟨_,by simpa using c1, .inr ⟨_,_,rfl⟩⟩,⟨_,by simpa using c0, .inr ⟨_,_,rfl⟩⟩⟩
end Go.Proofs.YtfokhpciehfdnaaGreatDoor
namespace Go.Proofs.YtfokhpciehfdnaaGreatDoor
open Go.Proofs.Tryz
open Go Go.RowKit Go.Sy Yk
open Go.ChangeShapes Go.WideShapes Go.ChangeAt
theorem aiR:prog.globalNamed "yardstick/enclosure.errFails" =some 0:=by kernel_rfl
theorem aho {W:World} (h:W.ShapedOpen prog) (hL:laidMetH prog oR W): ∃a,GlobE a W:=by
 have hU:=JW h hL;rw[MakeChecks.laidMetH_plain _ _ _ (by kernel_rfl)] at hL;have hL3:=laidMet.tail (laidMet.tail (laidMet.tail (laidMet.tail (laidMet.tail (laidMet.tail hL)))));obtain⟨a0,s0,hv0,_,_,_⟩:=laid_sentinel (g:=0) (ti:=117) (tp:=326) (te:=328) (ts:=9) hL3 aiR (by kernel_rfl) underlying117 JV underlying326 underlying328 rfl rfl underlying9 (by kernel_rfl) (by kernel_rfl);have c0:=World.var?_cell aiR hv0 0;exact⟨a0,hU,by unfold evE;simpa using c0⟩
end Go.Proofs.YtfokhpciehfdnaaGreatDoor
