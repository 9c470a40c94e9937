import Derived.Test.YtldflkomhbfceaaGreatDoorZc
import Derived.Test.YtldflkomhbfceaaGreatDoorProg
import Derived.Recover
import Derived.Tactics
import Derived.Tactics2
import Derived.Laws.Pointers
import Derived.WalkKit
import Derived.WalkSpells
import Derived.WalkLawsBesides
import Derived.Lib.Hide
import Derived.Maps.AppendAt
import Derived.Laws.AppendOwnNone
import Derived.RangeFuncBox
import Derived.OwnWalkIn
import Derived.RangeFuncCalls
import Derived.Deep.RegionHeld
import Derived.Lib.OthersKept
import Derived.RangeFuncLeaves
import Derived.RangeFuncNested
import Derived.Shelf.Abstract
import Derived.TacticsInMore
import Derived.LoopNIn
import Derived.LoopIn
import Derived.Test.YtldflkomhbfceaaGreatDoorSh
import Derived.WalkSmall
import Derived.Lib.AtoiErrMem
import Derived.Lib.IndexBytes
import Derived.Deep.QuietTactic
import Derived.BigQuiet
import Derived.Shelf.RegionOpen
import Derived.Deep.RegionWith
import Derived.Laws.EntriesVeiled
import Derived.Deep.RegionHeld3
set_option linter.unusedVariables false
set_option linter.unusedSimpArgs false
set_option maxHeartbeats 4000000
set_option maxRecDepth 100000
noncomputable section
namespace Go.Sy
open Go.RowKit
structure Cod (α:Type) where
 dec:SV->Option α
 enc:α->SV
 ok: ∀s a,dec s=some a->s=enc a
 ids: ∀a,(enc a).ids= []
def Pq:SV->Option Int
 | .val (.int .i64 z)=>some z
 |_=>none
def cI:Cod Int where
 dec:=Pq
 enc z:= .val (.int .i64 z)
 ok s a h:=by
  unfold Pq at h;split at h
  ·simp at h;rw[h]
  ·cases h
 ids _:=by simp[SV.ids]
def ake:SV->Option Bool
 | .val (.bool z)=>some z
 |_=>none
def cB:Cod Bool where
 dec:=ake
 enc z:= .val (.bool z)
 ok s a h:=by
  unfold ake at h;split at h
  ·simp at h;rw[h]
  ·cases h
 ids _:=by simp[SV.ids]
def Ps:SV->Option ByteArray
 | .val (.string z)=>some z
 |_=>none
def cS:Cod ByteArray where
 dec:=Ps
 enc z:= .val (.string z)
 ok s a h:=by
  unfold Ps at h;split at h
  ·simp at h;rw[h]
  ·cases h
 ids _:=by simp[SV.ids]
def Pt:SV->Option (ByteArray×ByteArray)
 | .agg [.val (.string a), .val (.string b)]=>some (a,b)
 |_=>none
def cR:Cod (ByteArray×ByteArray) where
 dec:=Pt
 enc r:= .agg [.val (.string r.1), .val (.string r.2)]
 ok s a h:=by
  unfold Pt at h;split at h
  ·simp at h;rw[<-h]
  ·cases h
 ids _:=by simp[SV.ids,SV.idss]
def Pu:SV->Option (Int×Int)
 | .agg [.val (.int .i64 a), .val (.int .i64 b)]=>some (a,b)
 |_=>none
def c22:Cod (Int×Int) where
 dec:=Pu
 enc r:= .agg [.val (.int .i64 r.1), .val (.int .i64 r.2)]
 ok s a h:=by
  unfold Pu at h;split at h
  ·simp at h;rw[<-h]
  ·cases h
 ids _:=by simp[SV.ids,SV.idss]
def ari:SV->Option (Int×Int×Int×Int)
 | .agg [.val (.int .i64 a), .val (.int .i64 b), .val (.int .i64 c), .val (.int .i64 d)]=>some (a,b,c,d)
 |_=>none
def c44:Cod (Int×Int×Int×Int) where
 dec:=ari
 enc r:= .agg [.val (.int .i64 r.1), .val (.int .i64 r.2.1), .val (.int .i64 r.2.2.1), .val (.int .i64 r.2.2.2)]
 ok s a h:=by
  unfold ari at h;split at h
  ·simp at h;rw[<-h]
  ·cases h
 ids _:=by simp[SV.ids,SV.idss]
structure D7 where
 d0:Int×Int
 d1:Int×Int
 d2:Int×Int
 d3:Int×Int
 d4:Int×Int
 d5:Int×Int
 d6:Int×Int
def mk7 (a0 b0 a1 b1 a2 b2 a3 b3 a4 b4 a5 b5 a6 b6:Int):D7:=⟨(a0,b0),(a1,b1),(a2,b2),(a3,b3),(a4,b4),(a5,b5),(a6,b6)⟩
def sv7 (d:D7):zdN:= [.val (.int .i64 d.d0.1), .val (.int .i64 d.d0.2), .val (.int .i64 d.d1.1), .val (.int .i64 d.d1.2), .val (.int .i64 d.d2.1), .val (.int .i64 d.d2.2), .val (.int .i64 d.d3.1), .val (.int .i64 d.d3.2), .val (.int .i64 d.d4.1), .val (.int .i64 d.d4.2), .val (.int .i64 d.d5.1), .val (.int .i64 d.d5.2), .val (.int .i64 d.d6.1), .val (.int .i64 d.d6.2)]
def Pv:SV->Option D7
 | .agg [.val (.int .i64 a0), .val (.int .i64 b0), .val (.int .i64 a1), .val (.int .i64 b1), .val (.int .i64 a2), .val (.int .i64 b2), .val (.int .i64 a3), .val (.int .i64 b3), .val (.int .i64 a4), .val (.int .i64 b4), .val (.int .i64 a5), .val (.int .i64 b5), .val (.int .i64 a6), .val (.int .i64 b6)]=>some (mk7 a0 b0 a1 b1 a2 b2 a3 b3 a4 b4 a5 b5 a6 b6)
 |_=>none
def c7:Cod D7 where
 dec:=Pv
 enc d:= .agg (sv7 d)
 ok s a h:=by
  unfold Pv at h;split at h
  ·simp only[za1] at h;rw[<-h];rfl
  ·cases h
 ids _:=by simp[SV.ids,SV.idss,sv7]
structure Un where
 d:D7
 f:ByteArray×ByteArray
 o:ByteArray×ByteArray
 k:Int
 s:Int
def Au:SV->Option Un
 | .agg [.val (.int .i64 a0), .val (.int .i64 b0), .val (.int .i64 a1), .val (.int .i64 b1), .val (.int .i64 a2), .val (.int .i64 b2), .val (.int .i64 a3), .val (.int .i64 b3), .val (.int .i64 a4), .val (.int .i64 b4), .val (.int .i64 a5), .val (.int .i64 b5), .val (.int .i64 a6), .val (.int .i64 b6), .val (.string f1), .val (.string f2), .val (.string o1), .val (.string o2), .val (.int .i64 k), .val (.int .i64 s)]=>
   some ⟨mk7 a0 b0 a1 b1 a2 b2 a3 b3 a4 b4 a5 b5 a6 b6,(f1,f2),(o1,o2),k,s⟩
 |_=>none
def ci (u:Un):zdN:= [.val (.int .i64 u.d.d0.1), .val (.int .i64 u.d.d0.2), .val (.int .i64 u.d.d1.1), .val (.int .i64 u.d.d1.2), .val (.int .i64 u.d.d2.1), .val (.int .i64 u.d.d2.2), .val (.int .i64 u.d.d3.1), .val (.int .i64 u.d.d3.2), .val (.int .i64 u.d.d4.1), .val (.int .i64 u.d.d4.2), .val (.int .i64 u.d.d5.1), .val (.int .i64 u.d.d5.2), .val (.int .i64 u.d.d6.1), .val (.int .i64 u.d.d6.2), .val (.string u.f.1), .val (.string u.f.2), .val (.string u.o.1), .val (.string u.o.2), .val (.int .i64 u.k), .val (.int .i64 u.s)]
def cU:Cod Un where
 dec:=Au
 enc u:= .agg (ci u)
 ok s a h:=by
  unfold Au at h;split at h
  ·simp only[za1] at h;rw[<-h];rfl
  ·cases h
 ids _:=by simp[SV.ids,SV.idss,ci]
def Pw {α β:Type} (A:Cod α) (B:Cod β):SV->Option (α×β)
 | .tup [x,y]=>match A.dec x,B.dec y with
   |some a,some b=>some (a,b)
   |_,_=>none
 |_=>none
def cP {α β:Type} (A:Cod α) (B:Cod β):Cod (α×β) where
 dec:=Pw A B
 enc r:= .tup [A.enc r.1,B.enc r.2]
 ok s a h:=by
  unfold Pw at h;split at h
  ·split at h
   ·rename_i x y a b ha hb;simp only[za1] at h;rw[<-h,A.ok _ _ ha,B.ok _ _ hb]
   ·cases h
  ·cases h
 ids r:=by simp[SV.ids,SV.idss,A.ids,B.ids]
section
variable {α β γ δ ρ:Type}
def k0 (R:Cod ρ) (f:ρ):Ctr:=λargs=>match args with
 | []=>some (true,R.enc f)
 |_=>none
def k1 (A:Cod α) (R:Cod ρ) (pre:α->Bool) (f:α->ρ):Ctr:=λargs=>match args with
 | [x]=>match A.dec x with
   |some a=>some (pre a,R.enc (f a))
   |none=>none
 |_=>none
def k2 (A:Cod α) (B:Cod β) (R:Cod ρ) (pre:α->β->Bool) (f:α->β->ρ):Ctr:=λargs=>match args with
 | [x,y]=>match A.dec x,B.dec y with
   |some a,some b=>some (pre a b,R.enc (f a b))
   |_,_=>none
 |_=>none
def k3 (A:Cod α) (B:Cod β) (C:Cod γ) (R:Cod ρ) (pre:α->β->γ->Bool) (f:α->β->γ->ρ):Ctr:=λargs=>match args with
 | [x,y,z]=>match A.dec x,B.dec y,C.dec z with
   |some a,some b,some c=>some (pre a b c,R.enc (f a b c))
   |_,_,_=>none
 |_=>none
variable {P:Program} {W0:World} {F:FuncId}
def Yields (P:Program) (W0:World) (F:FuncId) (args:zdN) (r:SV):Prop:= ∀(β:zdM) (w:World),Below W0.heap.size W0 w->Calls P F (SV.concs β args).toArray w λe w'=>e= .returned (r.conc β)/\Below w.heap.size w w'
theorem GF {R:Cod ρ} {f:ρ} (h:Yields P W0 F [] (R.enc f)):CtrOK P W0 F (k0 R f):=by
 intro β w args b s V J Y;unfold k0 at J;split at J
 ·simp only[za1,zag] at J;obtain⟨rfl,rfl⟩:=J;exact⟨R.ids _,h β w V.below⟩
 ·cases J
theorem dD {A:Cod α} {R:Cod ρ} {pre:α->Bool} {f:α->ρ} (h: ∀a,pre a=true->Yields P W0 F [A.enc a] (R.enc (f a))):CtrOK P W0 F (k1 A R pre f):=by
 intro β w args b s Y J Z;unfold k1 at J;split at J
 ·split at J
  ·rename_i x a V;simp only[za1,zag] at J;obtain⟨rfl,rfl⟩:=J;rw[A.ok _ _ V];exact⟨R.ids _,h a Z β w Y.below⟩
  ·cases J
 ·cases J
theorem bC {A:Cod α} {B:Cod β} {R:Cod ρ} {pre:α->β->Bool} {f:α->β->ρ} (h: ∀a b,pre a b=true->Yields P W0 F [A.enc a,B.enc b] (R.enc (f a b))):CtrOK P W0 F (k2 A B R pre f):=by
 intro β w args b s Y J hn;unfold k2 at J;split at J
 ·split at J
  ·rename_i x y a c V Z;simp only[za1,zag] at J;obtain⟨rfl,rfl⟩:=J;rw[A.ok _ _ V,B.ok _ _ Z];exact⟨R.ids _,h a c hn β w Y.below⟩
  ·cases J
 ·cases J
theorem sQ {A:Cod α} {B:Cod β} {C:Cod γ} {R:Cod ρ} {pre:α->β->γ->Bool} {f:α->β->γ->ρ} (h: ∀a b c,pre a b c=true->Yields P W0 F [A.enc a,B.enc b,C.enc c] (R.enc (f a b c))):CtrOK P W0 F (k3 A B C R pre f):=by
 intro β w args b s Y J hn;unfold k3 at J;split at J
 ·split at J
  ·rename_i x y z a c d V Z hd;simp only[za1,zag] at J;obtain⟨rfl,rfl⟩:=J;rw[A.ok _ _ V,B.ok _ _ Z,C.ok _ _ hd];exact⟨R.ids _,h a c d hn β w Y.below⟩
  ·cases J
 ·cases J
theorem cr {ok:FuncId->Bool} {Γ:zdR} {Γm:FuncId->Option MCtr} (H: ∀W,Below W0.heap.size W0 W->Hyp P W ok Γ Γm) {ann:zdY} {n:Nat} {args:zdN} {r:SV} (J:SV.idss args= []) (hr:r.ids= [])
 (h:wq P ok Γ Γm ann n F args (λ_=>none) 0 [] (okK λs _ _ _=>s=r)):Yields P W0 F args r:=by
 intro β w Z
 obtain⟨_,hc⟩:=sO (H w Z) ann n F args (λ_=>none) 0 [] _ β w h (sP w β) (λ_ _=>rfl) (λs hs i hi=>by
  have:i∈SV.idss args:=SV.mem_idss.2 ⟨s,hs,hi⟩
  rw[J] at this;cases this)
 refine Calls.mono hc ?_;rintro e w' ⟨β',s,bl',nx',wl',he,Y,V,_⟩;cases s with
 |pan v=>exact Y.elim
 |ok s=>
 obtain rfl:e=_:=he;obtain rfl:s=_:=Y;exact⟨by rw[SV.conc_congr s (β:=β) (β':=β') (λi hi=>by rw[hr] at hi;cases hi)],V.below.below⟩
theorem CtrOK.base {B:Base} {k:Ctr} (h: ∀w:World,Pres B w->CtrOK P w F k):CtrOK P B F k:=λβ w args b s J V Y=>h w J β w args b s (Pres.refl w) V Y
end
end Go.Sy
namespace Yk
open Go Go.Sy
def uz (a:zdK):Bool:=decide (a.size<=maxLen)
def uzR (a:RS):Bool:=uz a.1&&uz a.2
def cl (n:Int):Bool:=inR .i64 n
def qG (n d:Int):Int×Int:=(n.tdiv (Int.gcd n d),d.tdiv (Int.gcd n d))
def aj (n lo hi:Int):Bool:=decide (lo<=n)&&decide (n<=hi)
def aR (p:Int×Int):Bool:=aj p.2 1 12&&(aj p.1 (-12) 12&&decide (qG p.1 p.2=p))
def sR:D7:=mk7 0 1 0 1 0 1 0 1 0 1 0 1 0 1
def rZ:RS:=(⟨#[48]⟩,⟨#[49]⟩)
def rI:RS:=(⟨#[49]⟩,⟨#[49]⟩)
def VI:RS:=(⟨#[]⟩,⟨#[]⟩)
def eq2 (p q:Int×Int):Bool:=p.1==q.1&&(p.2==q.2&&true)
def eq7 (d e:D7):Bool:=eq2 d.d0 e.d0&&(eq2 d.d1 e.d1&&(eq2 d.d2 e.d2&&(eq2 d.d3 e.d3&&(eq2 d.d4 e.d4&&(eq2 d.d5 e.d5&&(eq2 d.d6 e.d6&&true))))))
def eqR (a b:RS):Bool:=seq a.1 b.1&&(seq a.2 b.2&&true)
def eqU (u v:Un):Bool:=eq7 u.d v.d&&(eqR u.f v.f&&(eqR u.o v.o&&(u.k==v.k&&(u.s==v.s&&true))))
def bT (d:D7) (f:RS) (k:Int):Un:=⟨d,f,rZ,k,bif k==0&&eq7 d sR then 2 else 1⟩
def ku (g:Int×Int->Int×Int->Int×Int) (a b:D7):D7:=⟨g a.d0 b.d0,g a.d1 b.d1,g a.d2 b.d2,g a.d3 b.d3,g a.d4 b.d4,g a.d5 b.d5,g a.d6 b.d6⟩
def pr (d:D7):Bool:=aR d.d0&&(aR d.d1&&(aR d.d2&&(aR d.d3&&(aR d.d4&&(aR d.d5&&aR d.d6)))))
def eS (d:D7):D7×Bool:=
 bif !aR d.d0 then(⟨d.d0,(0,0),(0,0),(0,0),(0,0),(0,0),(0,0)⟩,false) else
 bif !aR d.d1 then(⟨d.d0,d.d1,(0,0),(0,0),(0,0),(0,0),(0,0)⟩,false) else
 bif !aR d.d2 then(⟨d.d0,d.d1,d.d2,(0,0),(0,0),(0,0),(0,0)⟩,false) else
 bif !aR d.d3 then(⟨d.d0,d.d1,d.d2,d.d3,(0,0),(0,0),(0,0)⟩,false) else
 bif !aR d.d4 then(⟨d.d0,d.d1,d.d2,d.d3,d.d4,(0,0),(0,0)⟩,false) else
 bif !aR d.d5 then(⟨d.d0,d.d1,d.d2,d.d3,d.d4,d.d5,(0,0)⟩,false) else
 bif !aR d.d6 then(⟨d.d0,d.d1,d.d2,d.d3,d.d4,d.d5,d.d6⟩,false) else(d,true)
def kw (s:Int) (p q:Int×Int):Int×Int:=qG (p.1*q.2+s*q.1*p.2) (p.2*q.2)
def VK (u:Un):Bool:=pr u.d&&(rV u.f&&(rV u.o&&(decide (0<b9 u.f rZ)&&(aj u.k 0 100&&(u.s==0||eqU u (bT u.d u.f u.k))))))
def noU:Un:=⟨mk7 0 0 0 0 0 0 0 0 0 0 0 0 0 0,VI,VI,0,0⟩
def aU (u:Un):Bool:=VK u&&u.s !=0
def qi (d:D7×Bool) (f:RS×Int) (k:Int):Un×Int:=bif !d.2||f.2 !=0 then(noU,70) else(bT d.1 f.1 k,0)
def mi (a b:Un):Un×Int:=bif !aU a|| !aU b then(noU,70) else qi (eS (ku (kw 1) a.d b.d)) (ale a.f b.f) (bif 2==b.s then a.k else bif 2==a.s then b.k else 0)
def fd (a b:Un):Un×Int:=bif !aU a|| !aU b then(noU,70) else qi (eS (ku (kw (-1)) a.d b.d)) (cA a.f b.f) (bif b.s==2 then a.k else 0)
def jk (a b:Un):Bool:=VK a&&VK b&&eq7 a.d b.d&&eqR a.f b.f&&a.k==b.k
def iS (a b:Un):Un×Int:=bif !jk a b||(a.s==0&&b.s==0) then(noU,70) else bif b.s==0 then(b,0) else(a,0)
def fw (a b:Un):Un×Int:=bif !jk a b then(noU,70) else bif b.s !=0 then(a,0) else bif eqU a b then(bT a.d a.f a.k,0) else(noU,70)
end Yk
namespace Go.Sy
open Go.RowKit
mutual
def SV.rn (f:Nat->Option (Option Nat)):SV->Option SV
 | .val v=>some (.val v)
 | .ptr id e o=>match f id with
   |some (some i)=>some (.ptr i e o)
   |_=>none
 | .mp id=>match f id with
   |some (some i)=>some (.mp i)
   |_=>none
 | .slc id e len=>match f id with
   |some (some i)=>some (.slc i e len)
   |some none=>some (.val (.slice none len 0))
   |none=>none
 | .agg cs=>match SV.rns f cs with
   |some l=>some (.agg l)
   |none=>none
 | .tup cs=>match SV.rns f cs with
   |some l=>some (.tup l)
   |none=>none
 | .fn g a c=>match SV.rns f a,SV.rns f c with
   |some a,some c=>some (.fn g a c)
   |_,_=>none
def SV.rns (f:Nat->Option (Option Nat)):List SV->Option (List SV)
 | []=>some []
 |x::xs=>match SV.rn f x,SV.rns f xs with
  |some y,some ys=>some (y::ys)
  |_,_=>none
end
abbrev _root_.ze1:=Nat->Option (Option Nat)
def sS (f:ze1) (β β':zdM):Prop:= ∀i,(∀j,f i=some (some j)->β i=β' j)/\(f i=some none->(β i).nil=true/\(β i).cap=0)
mutual
theorem ol {f:Nat->Option (Option Nat)} {β β':Nat->Loc} (h:sS f β β'): ∀{s r:SV},s.rn f=some r->r.conc β'=s.conc β/\ ∀j∈r.ids,∃i∈s.ids,f i=some (some j)
 | .val v,r,J=>by simp only[SV.rn,za1] at J;subst J;exact⟨rfl,λj V=>by simp[SV.ids] at V⟩
 | .ptr id e o,r,J=>by
   simp only[SV.rn] at J;split at J
   ·rename_i i hi;simp only[za1] at J;subst J;refine⟨by simp only[SV.conc,addr,(h id).1 i hi],λj V=>⟨id,by simp[SV.ids], ?_⟩⟩;simp only[SV.ids,zaj] at V;rw[V];exact hi
   ·cases J
 | .mp id,r,J=>by
   simp only[SV.rn] at J;split at J
   ·rename_i i hi;simp only[za1] at J;subst J;refine⟨by simp only[SV.conc,(h id).1 i hi],λj V=>⟨id,by simp[SV.ids], ?_⟩⟩;simp only[SV.ids,zaj] at V;rw[V];exact hi
   ·cases J
 | .slc id e len,r,J=>by
   simp only[SV.rn] at J;split at J
   ·rename_i i hi;simp only[za1] at J;subst J;refine⟨by simp only[SV.conc,addr,(h id).1 i hi],λj V=>⟨id,by simp[SV.ids], ?_⟩⟩;simp only[SV.ids,zaj] at V;rw[V];exact hi
   ·rename_i hi;simp only[za1] at J;subst J;refine⟨by simp only[SV.conc,((h id).2 hi).1,((h id).2 hi).2,zdu,Nat.zero_sub],λj V=>by simp[SV.ids] at V⟩
   ·cases J
 | .agg cs,r,J=>by
   simp only[SV.rn] at J;split at J
   ·rename_i l hl;simp only[za1] at J;subst J;obtain⟨k1,k2⟩:=rns_conc h hl;exact⟨by simp only[SV.conc,k1],λj V=>by simp only[SV.ids] at V ⊢;exact k2 j V⟩
   ·cases J
 | .tup cs,r,J=>by
   simp only[SV.rn] at J;split at J
   ·rename_i l hl;simp only[za1] at J;subst J;obtain⟨k1,k2⟩:=rns_conc h hl;exact⟨by simp only[SV.conc,k1],λj V=>by simp only[SV.ids] at V ⊢;exact k2 j V⟩
   ·cases J
 | .fn g a c,r,J=>by
   simp only[SV.rn] at J;split at J
   ·rename_i a' c' h1 h2;simp only[za1] at J;subst J;obtain⟨k1,k2⟩:=rns_conc h h1;obtain⟨l1,l2⟩:=rns_conc h h2;refine⟨by simp only[SV.conc,k1,l1],λj V=> ?_⟩;simp only[SV.ids,za8] at V ⊢;rcases V with V|V
    ·obtain⟨i,Y,Z⟩:=k2 j V;exact⟨i, .inl Y,Z⟩
    ·obtain⟨i,Y,Z⟩:=l2 j V;exact⟨i, .inr Y,Z⟩
   ·cases J
theorem rns_conc {f:Nat->Option (Option Nat)} {β β':Nat->Loc} (h:sS f β β'): ∀{s r:List SV},SV.rns f s=some r->SV.concs β' r=SV.concs β s/\ ∀j∈SV.idss r,∃i∈SV.idss s,f i=some (some j)
 | [],r,V=>by simp only[SV.rns,za1] at V;subst V;exact⟨rfl,λj J=>by simp[SV.idss] at J⟩
 |x::xs,r,V=>by
  simp only[SV.rns] at V;split at V
  ·rename_i y ys h1 h2;simp only[za1] at V;subst V;obtain⟨k1,k2⟩:=ol h h1;obtain⟨l1,l2⟩:=rns_conc h h2;refine⟨by simp only[SV.concs,k1,l1],λj J=> ?_⟩;simp only[SV.idss,za8] at J ⊢;rcases J with J|J
   ·obtain⟨i,Y,Z⟩:=k2 j J;exact⟨i, .inl Y,Z⟩
   ·obtain⟨i,Y,Z⟩:=l2 j J;exact⟨i, .inr Y,Z⟩
  ·cases V
end
def D8:List Nat->Nat->Nat->Option Nat
 | [],_,_=>none
 |a::r,i,p=>bif Nat.beq a i then some p else D8 r i (p+1)
def rnF (src:zdW) (nws:zdL) (nx i:Nat):Option (Option Nat):=match src[i]? with
 |some o=>some o
 |none=>match D8 nws i nx with
  |some j=>some (some j)
  |none=>none
section
variable {P:Program} {W0:Base} {F:FuncId}
end
end Go.Sy
namespace Yk
open Go Go.Sy
structure Nd where
 op:Int
 v:RS
 u:Un
 n:Int
 l:Int
 r:Int
structure Pr where
 id:Int
 inp:List Un
 nod:List Nd
 out:Un
def noN:Nd:=⟨0,VI,noU,0,0,0⟩
def noP:Pr:=⟨0, [], [],noU⟩
def svN (x:Nd):zdN:= [.val (.int .i64 x.op), .val (.string x.v.1), .val (.string x.v.2), .val (.int .i64 x.u.d.d0.1), .val (.int .i64 x.u.d.d0.2), .val (.int .i64 x.u.d.d1.1), .val (.int .i64 x.u.d.d1.2), .val (.int .i64 x.u.d.d2.1), .val (.int .i64 x.u.d.d2.2), .val (.int .i64 x.u.d.d3.1), .val (.int .i64 x.u.d.d3.2), .val (.int .i64 x.u.d.d4.1), .val (.int .i64 x.u.d.d4.2), .val (.int .i64 x.u.d.d5.1), .val (.int .i64 x.u.d.d5.2), .val (.int .i64 x.u.d.d6.1), .val (.int .i64 x.u.d.d6.2), .val (.string x.u.f.1), .val (.string x.u.f.2), .val (.string x.u.o.1), .val (.string x.u.o.2), .val (.int .i64 x.u.k), .val (.int .i64 x.u.s), .val (.int .i64 x.n), .val (.int .i64 x.l), .val (.int .i64 x.r)]
def Vh:List SV->Nd
 | [.val (.int .i64 op), .val (.string v1), .val (.string v2), .val (.int .i64 a0), .val (.int .i64 b0), .val (.int .i64 a1), .val (.int .i64 b1), .val (.int .i64 a2), .val (.int .i64 b2), .val (.int .i64 a3), .val (.int .i64 b3), .val (.int .i64 a4), .val (.int .i64 b4), .val (.int .i64 a5), .val (.int .i64 b5), .val (.int .i64 a6), .val (.int .i64 b6), .val (.string f1), .val (.string f2), .val (.string o1), .val (.string o2), .val (.int .i64 k), .val (.int .i64 s), .val (.int .i64 n), .val (.int .i64 l), .val (.int .i64 r)]=>
   ⟨op,(v1,v2),⟨mk7 a0 b0 a1 b1 a2 b2 a3 b3 a4 b4 a5 b5 a6 b6,(f1,f2),(o1,o2),k,s⟩,n,l,r⟩
 |_=>noN
def Px (cs:zdN):Un:=match Au (.agg cs) with
 |some u=>u
 |none=>noU
def NH (cs:zdN):RS:=match cs with
 | [.val (.string a), .val (.string b)]=>(a,b)
 |_=>VI
def gA (r:RS):zdN:= [.val (.string r.1), .val (.string r.2)]
theorem fR (x:Nd):Vh (svN x)=x:=rfl
theorem Kp (u:Un):Px (ci u)=u:=rfl
theorem Kq (r:RS):NH (gA r)=r:=rfl
theorem arA (x:Nd):SV.idss (svN x)= []:=rfl
theorem fj (x:Un):SV.idss (ci x)= []:=rfl
theorem GG (x:RS):SV.idss (gA x)= []:=rfl
def tab {α:Type} (f:Nat->α):Nat->List α
 |0=> []
 |n+1=>tab f n++ [f n]
def szB (u:Un):Bool:=uzR u.f&&uzR u.o
def szN (x:Nd):Bool:=uzR x.v&&szB x.u
def eqN (x y:Nd):Bool:=x.op==y.op&&(eqR x.v y.v&&(eqU x.u y.u&&(x.n==y.n&&(x.l==y.l&&(x.r==y.r&&true)))))
def earF (nu:Int) (i:Int):Bool:=decide (0<=i)&&decide (i<nu)
abbrev Iv:=RS×RS
def noI:Iv:=(VI,VI)
def zR:RS:=(⟨#[48]⟩,⟨#[49]⟩)
def uzI (x:Iv):Bool:=uzR x.1&&uzR x.2
def vI (x:Iv):Bool:=rV x.1&&rV x.2&&decide (b9 x.1 x.2<=0)
def auf (x:Iv) (r:RS):Bool:=vI x&&rV r&&decide (b9 x.1 r<=0)&&decide (b9 r x.2<=0)
def ptI (r:RS):Iv:=bif rV r then(r,r) else noI
def R6:Iv×Int:=(noI,50)
def ad3 (l h:RS×Int):Iv×Int:=bif l.2==0&&h.2==0 then((l.1,h.1),0) else R6
def agy (a b:Iv):Iv×Int:=bif vI a&&vI b then ad3 (fZ a.1 b.1) (fZ a.2 b.2) else R6
def agz (a b:Iv):Iv×Int:=bif vI a&&vI b then ad3 (iF a.1 b.2) (iF a.2 b.1) else R6
def aey:List RS->RS->RS
 | [],m=>m
 |x::r,m=>aey r (bif decide (b9 x m<0) then x else m)
def aez:List RS->RS->RS
 | [],m=>m
 |x::r,m=>aez r (bif decide (b9 x m>0) then x else m)
def ae6 (a b c d:RS×Int):Iv×Int:=bif a.2==0&&b.2==0&&c.2==0&&d.2==0 then((aey [b.1,c.1,d.1] a.1,aez [b.1,c.1,d.1] a.1),0) else R6
def adC (a b:Iv):Iv×Int:=bif vI a&&vI b then ae6 (ale a.1 b.1) (ale a.1 b.2) (ale a.2 b.1) (ale a.2 b.2) else R6
def ac7 (a b:Iv):Iv×Int:=bif vI a&&vI b&& !auf b zR then ae6 (cA a.1 b.1) (cA a.1 b.2) (cA a.2 b.1) (cA a.2 b.2) else R6
def aeA (a:Iv) (p:Int):Iv×Int:=bif vI a then ad3 (acv a.1 p) (rUp a.2 p) else R6
def yl (x:Iv):zdN:= [.val (.string x.1.1), .val (.string x.1.2), .val (.string x.2.1), .val (.string x.2.2)]
def aiE:SV->Option Iv
 | .agg [.val (.string a), .val (.string b), .val (.string c), .val (.string d)]=>some ((a,b),(c,d))
 |_=>none
def cIv:Cod Iv where
 dec:=aiE
 enc r:= .agg (yl r)
 ok s a h:=by
  unfold aiE at h;split at h
  ·simp at h;rw[<-h];rfl
  ·cases h
 ids _:=by simp[yl,SV.ids,SV.idss]
structure InI (x:Iv) (q:Rat):Prop where
 l:rV x.1=true
 h:rV x.2=true
 lo:qV x.1<=q
 hi:q<=qV x.2
variable {a b:RS}
theorem afh (J:rV a=true) (V:rV b=true):decide (b9 a b<=0)=decide (qV a<=qV b):=by
 rw[rD J V];exact decide_eq_decide.2 J1
variable {x:Iv}
theorem ajh:vI x=true↔rV x.1=true/\rV x.2=true/\qV x.1<=qV x.2:=by
 unfold vI;simp only[za2];constructor
 ·rintro⟨⟨h1,h2⟩,h3⟩;rw[afh h1 h2] at h3;exact⟨h1,h2,zdx h3⟩
 ·rintro⟨h1,h2,h3⟩;exact⟨⟨h1,h2⟩,by rw[afh h1 h2];exact zds h3⟩
variable {q:Rat}
theorem InI.v (h:InI x q):vI x=true:=ajh.2 ⟨h.l,h.h,Rat.le_trans h.lo h.hi⟩
theorem apx {r:RS}:auf x r=true↔rV r=true/\InI x (qV r):=by
 unfold auf;simp only[za2];constructor
 ·rintro⟨⟨⟨h1,h2⟩,h3⟩,h4⟩;obtain⟨a,b,_⟩:=ajh.1 h1;rw[afh a h2] at h3;rw[afh h2 b] at h4;exact⟨h2,a,b,zdx h3,zdx h4⟩
 ·rintro⟨h2,k⟩;exact⟨⟨⟨k.v,h2⟩,by rw[afh k.l h2];exact zds k.lo⟩,by rw[afh h2 k.h];exact zds k.hi⟩
variable {c:Iv}
theorem alr {l h:RS×Int} (e:ad3 l h=(c,0)):l.2=0/\h.2=0/\c=(l.1,h.1):=by
 unfold ad3 at e;cases J:l.2==0 with
 |false=>rw[J] at e;exact absurd (show (50:Int)=0 from congrArg Prod.snd e) (by decide)
 |true=>
  cases hh:h.2==0 with
  |false=>rw[J,hh] at e;exact absurd (show (50:Int)=0 from congrArg Prod.snd e) (by decide)
  |true=>
   rw[J,hh] at e;simp only[zdB] at J hh;exact⟨J,hh,(congrArg Prod.fst e).symm⟩
theorem dL {b:Bool} {x:Iv×Int} (e:(bif b then x else R6)=(c,0)):b=true/\x=(c,0):=by
 cases b with
 |false=>exact absurd (show (50:Int)=0 from congrArg Prod.snd e) (by decide)
 |true=>exact⟨rfl,e⟩
theorem anJ (h:(fZ a b).2=0):rV (fZ a b).1=true/\qV (fZ a b).1=qV a+qV b:=by
 obtain⟨_,_,g⟩:=rB h;exact⟨g.valid,g.val⟩
theorem anK (h:(iF a b).2=0):rV (iF a b).1=true/\qV (iF a b).1=qV a - qV b:=by
 obtain⟨_,_,g⟩:=rC h;exact⟨g.valid,g.val⟩
theorem am2 (h:(ale a b).2=0):rV (ale a b).1=true/\qV (ale a b).1=qV a*qV b:=by
 obtain⟨_,_,g⟩:=mG h;exact⟨g.valid,g.val⟩
theorem am9 (h:(cA a b).2=0):qV b≠0/\rV (cA a b).1=true/\qV (cA a b).1=qV a / qV b:=by
 obtain⟨_,_,h0,g⟩:=jP h;exact⟨h0,g.valid,g.val⟩
variable {r:Rat}
theorem aqt {a b:Iv} (e:agy a b=(c,0)) (V:InI a q) (Y:InI b r):InI c (q+r):=by
 obtain⟨_,e⟩:=dL e;obtain⟨e1,J,rfl⟩:=alr e;obtain⟨Z,k1⟩:=anJ e1;obtain⟨v2,k2⟩:=anJ J;obtain⟨_,_,a1,a2⟩:=V;obtain⟨_,_,b1,b2⟩:=Y;exact⟨Z,v2,by rw[k1];grind,by rw[k2];grind⟩
theorem aqu {a b:Iv} (e:agz a b=(c,0)) (V:InI a q) (Y:InI b r):InI c (q - r):=by
 obtain⟨_,e⟩:=dL e;obtain⟨e1,J,rfl⟩:=alr e;obtain⟨Z,k1⟩:=anK e1;obtain⟨v2,k2⟩:=anK J;obtain⟨_,_,a1,a2⟩:=V;obtain⟨_,_,b1,b2⟩:=Y;exact⟨Z,v2,by rw[k1];grind,by rw[k2];grind⟩
theorem aqv (J:rV a=true) (V:rV b=true):decide (b9 a b<0)=decide (qV a<qV b):=by
 rw[rD J V];exact decide_eq_decide.2 aps
theorem aqw (J:rV a=true) (V:rV b=true):decide (b9 a b>0)=decide (qV b<qV a):=by
 rw[rD J V,ap5];refine decide_eq_decide.2 ⟨λh=>aps.1 (by omega),λh=> ?_⟩;have:=aps.2 h;omega
theorem apt: ∀{l:List RS} {m:RS},rV m=true->(∀x∈l,rV x=true)->rV (aey l m)=true/\qV (aey l m)<=qV m/\ ∀x∈l,qV (aey l m)<=qV x
 | [],m,V,_=>⟨V,Rat.le_refl,λx h=>by cases h⟩
 |y::r,m,V,Y=>by
  have hy:=Y y (by simp);have Z: ∀x∈r,rV x=true:=λx J=>Y x (by simp[J]);rw[aey,aqv hy V];by_cases h:qV y<qV m
  ·rw[zds h,zdu];obtain⟨a,b,c⟩:=apt (m:=y) hy Z;refine⟨a,by grind,λx J=> ?_⟩;rcases zai.1 J with rfl|J
   ·exact b
   ·exact c x J
  ·rw[zdv h,zdt];obtain⟨a,b,c⟩:=apt (m:=m) V Z;refine⟨a,b,λx J=> ?_⟩;rcases zai.1 J with rfl|J
   ·grind
   ·exact c x J
theorem apu: ∀{l:List RS} {m:RS},rV m=true->(∀x∈l,rV x=true)->rV (aez l m)=true/\qV m<=qV (aez l m)/\ ∀x∈l,qV x<=qV (aez l m)
 | [],m,V,_=>⟨V,Rat.le_refl,λx h=>by cases h⟩
 |y::r,m,V,Y=>by
  have hy:=Y y (by simp);have Z: ∀x∈r,rV x=true:=λx J=>Y x (by simp[J]);rw[aez,aqw hy V];by_cases h:qV m<qV y
  ·rw[zds h,zdu];obtain⟨a,b,c⟩:=apu (m:=y) hy Z;refine⟨a,by grind,λx J=> ?_⟩;rcases zai.1 J with rfl|J
   ·exact b
   ·exact c x J
  ·rw[zdv h,zdt];obtain⟨a,b,c⟩:=apu (m:=m) V Z;refine⟨a,b,λx J=> ?_⟩;rcases zai.1 J with rfl|J
   ·grind
   ·exact c x J
theorem ac1 {a b c d:RS×Int} (e:ae6 a b c d=(x,0)):a.2=0/\b.2=0/\c.2=0/\d.2=0/\x=(aey [b.1,c.1,d.1] a.1,aez [b.1,c.1,d.1] a.1):=by
 obtain⟨h,e⟩:=dL e;simp only[za2,zdB] at h;exact⟨h.1.1.1,h.1.1.2,h.1.2,h.2,(congrArg Prod.fst e).symm⟩
theorem apM {c d:RS} (Y:rV a=true) (hb:rV b=true) (hc:rV c=true) (hd:rV d=true) (h1:qV a<=q\/qV b<=q\/qV c<=q\/qV d<=q) (h2:q<=qV a\/q<=qV b\/q<=qV c\/q<=qV d):InI (aey [b,c,d] a,aez [b,c,d] a) q:=by
 have Z: ∀x∈ [b,c,d],rV x=true:=by simp[hb,hc,hd]
 obtain⟨m1,m2,J⟩:=apt Y Z;obtain⟨n1,n2,V⟩:=apu Y Z;simp only[zai,zbx,or_false,forall_eq_or_imp,forall_eq] at J V;obtain⟨J,m4,m5⟩:=J;obtain⟨V,n4,n5⟩:=V;exact⟨m1,n1,by show qV (aey _ _)<=q;grind,by show q<=qV (aez _ _);grind⟩
theorem apo {l h x c:Rat} (h1:l<=x) (h2:x<=h):(l*c<=x*c/\x*c<=h*c)\/(h*c<=x*c/\x*c<=l*c):=by
 rcases Rat.le_total (a:=0) (b:=c) with k|k
 ·exact .inl ⟨Rat.mul_le_mul_of_nonneg_right h1 k,Rat.mul_le_mul_of_nonneg_right h2 k⟩
 ·have J:0<= -c:=by grind
  have a:=Rat.mul_le_mul_of_nonneg_right h1 J;have b:=Rat.mul_le_mul_of_nonneg_right h2 J;exact .inr ⟨by grind,by grind⟩
variable {b1 b2 y:Rat}
theorem apN {a1 a2 x:Rat} (h1:a1<=x) (h2:x<=a2) (k1:b1<=y) (k2:y<=b2):(a1*b1<=x*y\/a1*b2<=x*y\/a2*b1<=x*y\/a2*b2<=x*y)/\(x*y<=a1*b1\/x*y<=a1*b2\/x*y<=a2*b1\/x*y<=a2*b2):=by
 have p:=apo (c:=y) h1 h2;have J:=apo (c:=a1) k1 k2;have V:=apo (c:=a2) k1 k2;rw[Rat.mul_comm b1,Rat.mul_comm y,Rat.mul_comm b2] at J V;constructor
 ·rcases p with ⟨p,_⟩|⟨p,_⟩<;>rcases J with ⟨J,_⟩|⟨J,_⟩<;>rcases V with ⟨V,_⟩|⟨V,_⟩<;>grind
 ·rcases p with ⟨_,p⟩|⟨_,p⟩<;>rcases J with ⟨_,J⟩|⟨_,J⟩<;>rcases V with ⟨_,V⟩|⟨_,V⟩<;>grind
theorem apO {a b:Iv} (e:adC a b=(c,0)) (J:InI a q) (V:InI b r):InI c (q*r):=by
 obtain⟨_,e⟩:=dL e;obtain⟨e1,Z,e3,e4,rfl⟩:=ac1 e;obtain⟨v1,k1⟩:=am2 e1;obtain⟨v2,k2⟩:=am2 Z;obtain⟨v3,k3⟩:=am2 e3;obtain⟨v4,Y⟩:=am2 e4;obtain⟨p1,p2⟩:=apN J.lo J.hi V.lo V.hi;exact apM v1 v2 v3 v4 (by rw[k1,k2,k3,Y];exact p1) (by rw[k1,k2,k3,Y];exact p2)
theorem aqx (k1:b1<=y) (k2:y<=b2) (h:0<b1\/b2<0):b2⁻¹ <=y⁻¹ /\y⁻¹ <=b1⁻¹ :=by
 have f: ∀{u v:Rat},u<=v->0<u->v⁻¹ <=u⁻¹ :=λ{u v} J V=>by
  have Y:0<v:=by grind
  have i1:=Rat.inv_pos.2 V;have Z:=Rat.inv_pos.2 Y;have m:=Rat.mul_le_mul_of_nonneg_right J (Rat.le_of_lt (Rat.mul_pos i1 Z));have a:u*(u⁻¹ *v⁻¹)=v⁻¹ :=by rw[<-Rat.mul_assoc,Rat.mul_inv_cancel _ (by grind),Rat.one_mul]
  have b:v*(u⁻¹ *v⁻¹)=u⁻¹ :=by rw[Rat.mul_comm u⁻¹,<-Rat.mul_assoc,Rat.mul_inv_cancel _ (by grind),Rat.one_mul]
  rw[a,b] at m;exact m
 rcases h with h|h
 ·exact⟨f k2 (by grind),f k1 h⟩
 ·have n: ∀u:Rat,(-u)⁻¹ = -u⁻¹ :=λu=>by grind
  have a:=f (u:= -b2) (v:= -y) (by grind) (by grind);have b:=f (u:= -y) (v:= -b1) (by grind) (by grind);rw[n,n] at a b;exact⟨by grind,by grind⟩
theorem ap6:rV zR=true/\qV zR=0:=by
 constructor
 ·decide
 ·unfold qV;rfl
theorem apP {a b:Iv} (e:ac7 a b=(c,0)) (Y:InI a q) (J:InI b r):r≠0/\InI c (q / r):=by
 obtain⟨h,e⟩:=dL e;simp only[za2,zap] at h;have hz: ¬InI b 0:=λk=>by
  have:=apx.2 ⟨ap6.1,by rw[ap6.2];exact k⟩;rw[h.2] at this;cases this
 have h0:0<qV b.1\/qV b.2<0:=by
  by_cases h1:0<qV b.1
  ·exact .inl h1
  ·by_cases h2:qV b.2<0
   ·exact .inr h2
   ·exact absurd ⟨J.l,J.h,by grind,by grind⟩ hz
 obtain⟨e1,Z,e3,e4,rfl⟩:=ac1 e;obtain⟨_,v1,k1⟩:=am9 e1;obtain⟨_,v2,k2⟩:=am9 Z;obtain⟨_,v3,k3⟩:=am9 e3;obtain⟨_,v4,V⟩:=am9 e4;obtain⟨i1,i2⟩:=aqx J.lo J.hi h0;obtain⟨p1,p2⟩:=apN Y.lo Y.hi i1 i2;rw[Rat.div_def] at k1 k2 k3 V;rw[Rat.div_def];refine⟨by have:=J.lo;have:=J.hi;grind,apM v1 v2 v3 v4 ?_ ?_⟩
 ·rw[k1,k2,k3,V];grind
 ·rw[k1,k2,k3,V];grind
theorem apH {r:RS} (h:rV r=true):InI (ptI r) (qV r):=by
 unfold ptI;rw[h];exact⟨h,h,Rat.le_refl,Rat.le_refl⟩
end Yk
namespace Go.Sy
open Go.RowKit
mutual
theorem GH {f:Nat->Option (Option Nat)}: ∀{s r:SV},s.rn f=some r-> ∀i∈s.ids,f i≠none
 | .val v,r,J,i,hi=>by simp[SV.ids] at hi
 | .ptr id e o,r,J,i,hi=>by
   simp only[SV.ids,zaj] at hi;subst hi;intro h;simp only[SV.rn,h] at J;cases J
 | .mp id,r,J,i,hi=>by
   simp only[SV.ids,zaj] at hi;subst hi;intro h;simp only[SV.rn,h] at J;cases J
 | .slc id e len,r,J,i,hi=>by
   simp only[SV.ids,zaj] at hi;subst hi;intro h;simp only[SV.rn,h] at J;cases J
 | .agg cs,r,J,i,hi=>by
   simp only[SV.rn] at J;split at J
   ·rename_i l V;exact rns_dom V i (by simpa [SV.ids] using hi)
   ·cases J
 | .tup cs,r,J,i,hi=>by
   simp only[SV.rn] at J;split at J
   ·rename_i l V;exact rns_dom V i (by simpa [SV.ids] using hi)
   ·cases J
 | .fn g a c,r,J,i,hi=>by
   simp only[SV.rn] at J;split at J
   ·rename_i Y Z h1 h2;simp only[SV.ids,za8] at hi;exact hi.elim (rns_dom h1 i) (rns_dom h2 i)
   ·cases J
theorem rns_dom {f:Nat->Option (Option Nat)}: ∀{s r:List SV},SV.rns f s=some r-> ∀i∈SV.idss s,f i≠none
 | [],r,J,i,hi=>by simp[SV.idss] at hi
 |x::xs,r,J,i,hi=>by
  simp only[SV.rns] at J;split at J
  ·rename_i y V h1 h2;simp only[SV.idss,za8] at hi;exact hi.elim (GH h1 i) (rns_dom h2 i)
  ·cases J
end
theorem mX {f:ze1}: ∀{l r:zdN},SV.rns f l=some r->r.length=l.length/\(∀(o:Nat) (s:SV),l[o]? =some s-> ∃V,r[o]? =some V/\s.rn f=some V)/\ ∀(o:Nat) (V:SV),r[o]? =some V-> ∃s,l[o]? =some s/\s.rn f=some V
 | [],r,h=>by simp only[SV.rns,za1] at h;subst h;simp
 |x::xs,r,h=>by
  simp only[SV.rns] at h;split at h
  ·rename_i y Y h1 h2;simp only[za1] at h;subst h;obtain⟨k1,k2,k3⟩:=mX h2;refine⟨by simp[k1],λo s J=> ?_,λo s J=> ?_⟩
   ·cases o with
    |zero=>simp at J;subst J;exact⟨y,by simp,h1⟩
    |succ o=>simpa using k2 o s (by simpa using J)
   ·cases o with
    |zero=>simp at J;subst J;exact⟨x,by simp,h1⟩
    |succ o=>simpa using k3 o s (by simpa using J)
  ·cases h
def cN:BK->Bool
 | .own| .mpL| .mpI| .mpB| .itL| .itK=>true
 |_=>false
def wB (f:ze1) (C B:Blk):Prop:=C.sz=B.sz/\(C.nn=true->B.nn=true\/1<=C.n)/\match C.kd with
 | .gone=>True
 | .old=>B.kd≠ .gone/\B.kd.map=false/\C.n<=B.n/\ ∀e,e<C.n->SV.rns f (C.get e)=some (B.get e)
 | .own=>B.kd= .own/\1<=C.n/\1<=C.sz/\C.n<=B.n/\ ∀e,e<C.n->SV.rns f (C.get e)=some (B.get e)
 | .mpL=>B.kd= .mpL/\C.n=0/\ ∀e,SV.rns f (C.get e)=some (B.get e)
 | .mpI=>B.kd= .mpI/\C.n=0/\ ∀e,iG (C.get e)=iG (B.get e)
 | .mpB=>B.kd= .mpB/\C.n=0/\ ∀e,su (C.get e)=su (B.get e)
 | .itL=>False
 | .itK=>False
def kx (g:ze1) (B N:Blk):Prop:=N.kd= .gone\/(N.kd=B.kd/\N.sz=B.sz/\(N.nn=true->B.nn=true)/\N.n<=B.n/\match N.kd with
 | .own=> ∀e,e<N.n->SV.rns g (B.get e)=some (N.get e)
 | .mpL=> ∀e,SV.rns g (B.get e)=some (N.get e)
 | .mpI=> ∀e,iG (B.get e)=iG (N.get e)
 | .mpB=> ∀e,su (B.get e)=su (N.get e)
 |_=>False)
def yw (bl:zdP) (f:ze1):List (Option Nat)->List Blk->Prop
 | [], []=>True
 |o::os,C::Cs=>(match o with
  |none=>C.kd= .old/\C.n=0/\C.nn=false
  |some i=>match bl i with
   |some B=>wB f C B
   |none=>False)/\yw bl f os Cs
 |_,_=>False
theorem qU {bl:zdP} {f:ze1}: ∀{os:zdW} {Cs:zdX},yw bl f os Cs->os.length=Cs.length/\ ∀(j:Nat) (C:Blk),Cs[j]? =some C->(os[j]? =some none/\C.kd= .old/\C.n=0/\C.nn=false)\/ ∃i B,os[j]? =some (some i)/\bl i=some B/\wB f C B
 | [], [],_=>⟨rfl,λj C h=>by simp at h⟩
 |o::os,C::Cs,h=>by
  obtain⟨h1,h2⟩:=h;obtain⟨k1,k2⟩:=qU h2;refine⟨by simp[k1],λj M V=> ?_⟩;cases j with
  |zero=>
   simp only[zbA,za1] at V;subst V;cases o with
   |none=>exact .inl ⟨by simp,h1⟩
   |some i=>
    cases J:bl i with
    |none=>simp only[J] at h1
    |some B=>simp only[J] at h1;exact .inr ⟨i,B,by simp,J,h1⟩
  |succ j=>simpa using k2 j M (by simpa using V)
 | [],_::_,h=>h.elim
 |_::_, [],h=>h.elim
def D9:List (Option Nat)->Nat->Nat->Option Nat
 | [],_,_=>none
 |none::r,i,p=>D9 r i (p+1)
 |some a::r,i,p=>bif Nat.beq a i then some p else D9 r i (p+1)
theorem gP: ∀{l:zdW} {i p q:Nat},D9 l i p=some q-> ∃j,q=p+j/\l[j]? =some (some i)
 | [],i,p,q,h=>by cases h
 |none::r,i,p,q,h=>by
  obtain⟨j,h1,h2⟩:=gP (l:=r) h;exact⟨j+1,by omega,by simpa using h2⟩
 |some a::r,i,p,q,h=>by
  rw[D9,bS] at h;by_cases J:a=i
  ·simp only[J,decide_true,zdu,za1] at h;exact⟨0,by omega,by simp[J]⟩
  ·simp only[J,decide_false,zdt] at h;obtain⟨j,h1,h2⟩:=gP h;exact⟨j+1,by omega,by simpa using h2⟩
def rnG (src nws:zdW) (nx i:Nat):Option (Option Nat):=match src[i]? with
 |some o=>some o
 |none=>match D9 nws i nx with
  |some j=>some (some j)
  |none=>none
def dt (src nws:zdW) (nx i:Nat):Option (Option Nat):=bif Nat.ble nx i then nws[i - nx]? else match D9 src i 0 with
 |some j=>some (some j)
 |none=>none
variable {src nws:zdW} {nx:Nat}
theorem jA (q:Nat):dt src nws nx (nx+q)=nws[q]? :=by
 unfold dt;rw[zae (zda nx q),zdu,zbb]
theorem cO:dt src nws nx nx=nws[0]? :=jA 0
def newB (bl:zdP) (g:ze1) (b:Nat) (nm:Bool):List (Option Nat)->List Blk->Prop
 | [], []=>True
 |some i::is,N::Ns=>(b<=i/\match bl i with
  |some B=>N.kd≠ .gone/\(N.kd= .own->nm=true\/1<=N.n/\1<=N.sz)/\kx g B N
  |none=>False)/\newB bl g b nm is Ns
 |none::is,N::Ns=>(N.kd= .own/\N.n=0/\N.nn=false)/\newB bl g b nm is Ns
 |_,_=>False
theorem wC {bl:zdP} {g:ze1} {b:Nat} {nm:Bool}: ∀{is:zdW} {Ns:zdX},newB bl g b nm is Ns->is.length=Ns.length/\ ∀(j:Nat) (N:Blk),Ns[j]? =some N->(is[j]? =some none/\N.kd= .own/\N.n=0/\N.nn=false)\/ ∃i B,is[j]? =some (some i)/\b<=i/\bl i=some B/\N.kd≠ .gone/\(N.kd= .own->nm=true\/1<=N.n/\1<=N.sz)/\kx g B N
 | [], [],_=>⟨rfl,λj C h=>by simp at h⟩
 |some i::is,C::Y,h=>by
  obtain⟨⟨h0,h1⟩,h2⟩:=h;obtain⟨k1,k2⟩:=wC h2;refine⟨by simp[k1],λj M J=> ?_⟩;cases j with
  |zero=>
   simp only[zbA,za1] at J;subst J;cases V:bl i with
   |none=>simp only[V] at h1
   |some B=>simp only[V] at h1;exact .inr ⟨i,B,by simp,h0,V,h1⟩
  |succ j=>simpa using k2 j M (by simpa using J)
 |none::is,C::Y,h=>by
  obtain⟨h1,h2⟩:=h;obtain⟨k1,k2⟩:=wC h2;refine⟨by simp[k1],λj M J=> ?_⟩;cases j with
  |zero=>
   simp only[zbA,za1] at J;subst J;exact .inl ⟨by simp,h1⟩
  |succ j=>simpa using k2 j M (by simpa using J)
 | [],_::_,h=>h.elim
 |some _::_, [],h=>h.elim
 |none::_, [],h=>h.elim
def chR (bl:zdP) (g:ze1):List (Option Nat)->List Blk->Nat->List (Nat×Blk)->Prop
 | [], [],_, []=>True
 |o::os,C::Cs,j,ch=>match cN C.kd with
  |true=>match o,ch with
   |some i,p::ch=>p.1=i/\(C.kd= .own\/p.2.kd≠ .gone)/\(match bl j with
    |some B=>kx g B p.2
    |none=>False)/\chR bl g os Cs (j+1) ch
   |_,_=>False
  |false=>chR bl g os Cs (j+1) ch
 |_,_,_,_=>False
theorem Av {bl:zdP} {g:ze1}: ∀{os:zdW} {Cs:zdX} {j:Nat} {ch:List (Nat×Blk)},chR bl g os Cs j ch->
 (∀p∈ch,∃k C B,Cs[k]? =some C/\cN C.kd=true/\os[k]? =some (some p.1)/\bl (j+k)=some B/\kx g B p.2/\(C.kd= .own\/p.2.kd≠ .gone))/\ ∀(k:Nat) (C:Blk) (i:Nat),Cs[k]? =some C->cN C.kd=true->os[k]? =some (some i)->i∈ch.map (·.1)
 | [], [],_, [],_=>⟨λp hp=>by simp at hp,λk C i h=>by simp at h⟩
 |o::os,C::Cs,j,ch,h=>by
  simp only[chR] at h;cases Y:cN C.kd with
  |false=>
   rw[Y] at h;obtain⟨k1,k2⟩:=Av h;refine⟨λp hp=> ?_,λk D i V J hi=> ?_⟩
   ·obtain⟨k,D,B,Z,a2,a3,a4,a5⟩:=k1 p hp;exact⟨k+1,D,B,by simpa using Z,a2,by simpa using a3,by rw[show j+(k+1)=j+1+k by omega];exact a4,a5⟩
   ·cases k with
    |zero=>simp at V;subst V;rw[Y] at J;cases J
    |succ k=>exact k2 k D i (by simpa using V) J (by simpa using hi)
  |true=>
   rw[Y] at h
   match o,ch,h with
   |some i,p::ch',h=>
    obtain⟨h1,h4,h2,h3⟩:=h;obtain⟨k1,k2⟩:=Av h3;refine⟨λq hq=> ?_,λk D i' V J hi=> ?_⟩
    ·rcases zai.1 hq with rfl|hq
     ·cases hb:bl j with
      |none=>simp only[hb] at h2
      |some B=>simp only[hb] at h2;exact⟨0,C,B,by simp,Y,by simp[h1],hb,h2,h4⟩
     ·obtain⟨k,D,B,Z,a2,a3,a4,a5⟩:=k1 q hq;exact⟨k+1,D,B,by simpa using Z,a2,by simpa using a3,by rw[show j+(k+1)=j+1+k by omega];exact a4,a5⟩
    ·cases k with
     |zero=>simp at hi;subst hi;simp[h1]
     |succ k=>
      have:=k2 k D i' (by simpa using V) J (by simpa using hi);simp only[zaK,zai];exact .inr this
   |some i, [],h=>exact h.elim
   |none,_,h=>exact h.elim
 | [], [],_,_::_,h=>h.elim
 | [],_::_,_,_,h=>by simp[chR] at h
 |_::_, [],_,_,h=>by simp[chR] at h
theorem Wp {bl:zdP}: ∀{ch:List (Nat×Blk)} {i:Nat},(i∈ch.map (·.1)-> ∃D,chB bl ch i=some D/\(i,D)∈ch)/\(i∉ch.map (·.1)->chB bl ch i=bl i)
 | [],i=>⟨λh=>by simp at h,λ_=>rfl⟩
 |(k,D)::r,i=>by
  obtain⟨h1,h2⟩:=Wp (bl:=bl) (ch:=r) (i:=i);by_cases J:i=k
  ·subst J;exact⟨λ_=>⟨D,by rw[chB,az],by simp⟩,λh=>absurd (by simp) h⟩
  ·refine⟨λh=> ?_,λh=> ?_⟩
   ·rw[chB,ak J];obtain⟨E,V,Y⟩:=h1 (by simp only[zaK,zai] at h;exact h.resolve_left J);exact⟨E,V,zan _ Y⟩
   ·rw[chB,ak J];exact h2 λZ=>h (by simp only[zaK,zai];exact .inr Z)
def KB (C:RC) (src:zdW) (Cs:zdX) (nx:Nat):Aft:=λr bl _ _=> ∃x,C.spec x/\ ∃nws:zdW,(match C.pan x with
 |none=> ∃s,r= .ok s/\(C.out x).rn (dt src nws nx)=some s
 |some v=>r= .pan v)/\(ck nws).Nodup/\newB bl (rnG src nws nx) Cs.length (Cs.all λC=> !C.kd.map) nws (C.nw x)/\chR bl (rnG src nws nx) src Cs 0 (C.ch x)
variable {β1 β2:zdM} {i1 i2:Nat} {B1 B2:Blk} {w:World}
theorem wD (h:BlkOK β1 i1 B1 w) (V:β1 i1=β2 i2) (J:B2.sz=B1.sz) (hn:B2.n<=B1.n) (hk:B2.kd= .own->B1.kd= .own) (hnn:B2.nn=true->B1.nn=true\/1<=B2.n)
 (hc: ∀e,e<B2.n->(B2.get e).length=(B1.get e).length/\ ∀(o:Nat) (s:SV),(B2.get e)[o]? =some s-> ∃Y,(B1.get e)[o]? =some Y/\s.conc β2=Y.conc β1):BlkOK β2 i2 B2 w:=
 ⟨by rw[<-V,J];exact h.sz,by rw[<-V];exact h.lt,by rw[<-V];exact zac hn h.le,λe Z=>by rw[(hc e Z).1,J];exact h.len e (by omega),by rw[<-V,J];exact h.ex,λq=>by rw[<-V,J];exact h.fr (hk q),
   λe Z o s hs=>by
    obtain⟨Y,h1,h2⟩:=(hc e Z).2 o s hs;rw[show addr β2 i2 e o=addr β1 i1 e o by simp only[addr,V],h2]
    exact h.val e (by omega) o Y h1,by rw[<-V];exact h.nil,λq=>by rw[<-V];exact(hnn q).elim h.nn λk=>h.not_nil (e:=0) (by omega)⟩
theorem Aw (h:BlkOK β1 i1 B1 w) (Z:β1 i1=β2 i2) (V:B2.sz=B1.sz) (hn:B2.n=0) (Y:B2.kd= .own->B1.kd= .own) (J:B2.nn=true->B1.nn=true\/1<=B2.n):BlkOK β2 i2 B2 w:=
 wD h Z V (by omega) Y J λe he=>by omega
variable {β:zdM}
theorem MapOK.rn {β':zdM} {b:Nat} {w':World} {k:BK} {g1 g2:zdQ} (h:MapOK β b w k g1) (Z:w'.heap[b]? =w.heap[b]?)
 (hL:k= .mpL-> ∀e,(g2 e).length=(g1 e).length/\ ∀(o:Nat) (s:SV),(g2 e)[o]? =some s-> ∃s',(g1 e)[o]? =some s'/\s.conc β'=s'.conc β) (hI:k= .mpI-> ∀e,iG (g2 e)=iG (g1 e)) (hB:k= .mpB-> ∀e,su (g2 e)=su (g1 e)) (J:k.it=false):MapOK β' b w' k g2:=by
 cases k with
 |mpL=>
  obtain⟨es,h1,h2,h3,h4⟩:=h;refine⟨es,by rw[Z];exact h1,h2,λe Y=> ?_,λe Y=> ?_⟩
  ·obtain⟨k,v,k1,k2⟩:=h3 e Y;obtain⟨l1,V⟩:=hL rfl e;rw[k1] at l1 V
   match hg:g2 e,l1 with
   | [k',v'],_=>
     rw[hg] at V;obtain⟨s,a1,a2⟩:=V 0 k' (by simp);obtain⟨t,b1,b2⟩:=V 1 v' (by simp);simp at a1 b1;subst a1 b1;exact⟨k',v',rfl,by rw[a2,b2];exact k2⟩
  ·have:=(hL rfl e).1;rw[h4 e Y] at this;exact zau (by simpa using this)
 |mpI=>obtain⟨L,h1,h2⟩:=h;exact⟨L,by rw[Z];exact h1,λk=>by rw[hI rfl];exact h2 k⟩
 |mpB=>obtain⟨L,h1,h2,h3⟩:=h;exact⟨L,by rw[Z];exact h1,λk=>by rw[hB rfl];exact h2 k,h3⟩
 |itL=>cases J
 |itK=>cases J
 |_=>trivial
def Kr (src:zdW) (Cs:zdX):Prop:= ∀(j k i:Nat) (C:Blk),src[j]? =some (some i)->src[k]? =some (some i)->Cs[k]? =some C->cN C.kd=true->j=k
variable {Cs:zdX}
theorem bH (h: ∀C∈Cs,cN C.kd=false):Kr src Cs:=λj k i C _ _ V J=>by rw[h C (zal V)] at J;cases J
theorem yx (h:(ck src).Nodup): ∀{j k i:Nat},src[j]? =some (some i)->src[k]? =some (some i)->j=k:=by
 intro j k i V Y
 induction src generalizing j k with
 |nil=>simp at V
 |cons o r Z=>
  have J: ∀{m:Nat},r[m]? =some (some i)->i∈ck r:=λ{m} hm=>Wd.2 ⟨m,hm⟩;cases o with
  |none=>
   cases j with
   |zero=>simp at V
   |succ j=>cases k with
    |zero=>simp at Y
    |succ k=>exact congrArg Nat.succ (Z h (by simpa using V) (by simpa using Y))
  |some a=>
   simp only[ck,zd8] at h;cases j with
   |zero=>
    simp at V;subst V;cases k with
    |zero=>rfl
    |succ k=>exact absurd (J (by simpa using Y)) h.1
   |succ j=>cases k with
    |zero=>simp at Y;subst Y;exact absurd (J (by simpa using V)) h.1
    |succ k=>exact congrArg Nat.succ (Z h.2 (by simpa using V) (by simpa using Y))
theorem aeB (h:(ck src).Nodup):Kr src Cs:=λ_ _ _ _ J V _ _=>yx h J V
theorem qW {i:Nat} {B:Blk} (h:BlkOK β i B w) (J: ∀j,w.cell? ⟨(β i).blk,j,none⟩=none) (h1:1<=B.n) (h2:1<=B.sz):False:=by
 have:=h.ex 0 (Nat.mul_pos (zam h1 h.le) h2);rw[J] at this;cases this
section
variable {P:Program} {W0:Base} {F:FuncId}
def fS (w:World) (β:zdM) (src:zdW) (Cs:zdX):Base where
 w:=w
 S:=λb=>(List.range Cs.length).any λj=>match Cs[j]?,src[j]? with
  |some C,some (some i)=>cN C.kd&& !(β i).nil&&Nat.beq (β i).blk b
  |_,_=>false
variable {w:World} {β:zdM} {src:zdW} {Cs:zdX}
theorem Wc {b:Nat}:(fS w β src Cs).S b=true↔ ∃(j:Nat) (C:Blk) (i:Nat),Cs[j]? =some C/\src[j]? =some (some i)/\cN C.kd=true/\(β i).nil=false/\(β i).blk=b:=by
 simp only[fS,zaP,zaC];constructor
 ·rintro⟨j,J,h⟩;split at h
  ·rename_i C i h1 h2;simp only[za2,zap] at h;exact⟨j,C,i,h1,h2,h.1.1,h.1.2,zab h.2⟩
  ·cases h
 ·rintro⟨j,C,i,h1,h2,h3,h4,rfl⟩;refine⟨j, ?_, ?_⟩
  ·rcases zah j Cs.length with h|h
   ·exact h
   ·rw[zad h] at h1;cases h1
  ·simp[h1,h2,h3,h4]
def ie (β:zdM) (src:zdW) (Cs:zdX) (j:Nat):Loc:=match src[j]? with
 |some (some i)=>β i
 |_=>⟨0,0,(match Cs[j]? with
  |some C=>C.sz
  |none=>0),0,true⟩
variable {j i:Nat}
theorem dn (h:src[j]? =some (some i)):ie β src Cs j=β i:=by simp only[ie,h]
theorem qj {C:Blk} (h:src[j]? =some none) (J:Cs[j]? =some C):ie β src Cs j=⟨0,0,C.sz,0,true⟩:=by simp only[ie,h,J]
variable {nx:Nat}
theorem lO:sS (rnF src [] nx) (ie β src Cs) β:=by
 intro j;refine⟨λi hi=> ?_,λhi=> ?_⟩
 ·simp only[rnF,D8] at hi;split at hi
  ·rename_i o J;simp only[za1] at hi;subst hi;exact dn J
  ·cases hi
 ·simp only[rnF,D8] at hi;split at hi
  ·rename_i o J;simp only[za1] at hi;subst hi;simp only[ie,J,and_self]
  ·cases hi
variable {f:ze1} {β1 β2:zdM} {l r:zdN}
theorem sT (V:sS f β1 β2) (h:SV.rns f l=some r):l.length=r.length/\ ∀(o:Nat) (s:SV),l[o]? =some s-> ∃J,r[o]? =some J/\s.conc β1=J.conc β2:=by
 obtain⟨h1,h2,_⟩:=mX h;refine⟨h1.symm,λo s hs=> ?_⟩;obtain⟨J,Y,Z⟩:=h2 o s hs;exact⟨J,Y,(ol V Z).1.symm⟩
theorem Cn (V:sS f β1 β2) (h:SV.rns f l=some r):r.length=l.length/\ ∀(o:Nat) (s:SV),r[o]? =some s-> ∃J,l[o]? =some J/\s.conc β2=J.conc β1:=by
 obtain⟨h1,_,h3⟩:=mX h;refine⟨h1,λo s hs=> ?_⟩;obtain⟨J,Y,Z⟩:=h3 o s hs;exact⟨J,Y,(ol V Z).1⟩
theorem kY {k:BK} (h:k.map=true):cN k=true:=by cases k<;>first|rfl|cases h
def Far (src:zdW) (Cs:zdX):Prop:=(∀C∈Cs,C.kd.map=false)\/ ∀(j:Nat) (C:Blk) (i:Nat),Cs[j]? =some C->src[j]? =some (some i)->C.kd= .old->1<=C.n/\1<=C.sz
variable {bl:zdP}
theorem NI (Y:BC W0 bl β w) (hsrc:yw bl (rnF src [] nx) src Cs) (hnd:Kr src Cs) (hfar:Far src Cs):
 BC (fS w β src Cs) (λi=>Cs[i]?) (ie β src Cs) w:=by
 obtain⟨sl,sat⟩:=qU hsrc;have hlen: ∀{j:Nat} {o:Option Nat},src[j]? =some o-> ∃C,Cs[j]? =some C:=λ{j o} h=>by
  rcases zah j src.length with h'|h'
  ·exact⟨Cs[j]'(by omega),zaa (by omega)⟩
  ·rw[zad h'] at h;cases h
 have hmine: ∀{j i:Nat} {C:Blk},Cs[j]? =some C->src[j]? =some (some i)->cN C.kd=true->(β i).nil=false->(fS w β src Cs).mine (β i).blk:=λ{j i C} h1 h2 h3 h4=> .inr (Wc.2 ⟨j,C,i,h1,h2,h3,h4,rfl⟩);have domain: ∀{l r:zdN} {s:SV},SV.rns (rnF src [] nx) l=some r->s∈l->Live (λi=>Cs[i]?) s:=λ{l r s} h hs i hi=>by
  have:=rns_dom h i (SV.mem_idss.2 ⟨s,hs,hi⟩);simp only[rnF,D8] at this;split at this
  ·rename_i o ho;obtain⟨C,Z⟩:=hlen ho;show Cs[i]? ≠none;rw[Z];simp
  ·exact absurd rfl this
 have apart: ∀{j i:Nat} {C B:Blk},Cs[j]? =some C->src[j]? =some (some i)->bl i=some B->C.kd= .old->B.kd≠ .gone->B.kd.map=false->(β i).nil=false->C.sz=B.sz->C.n<=B.n->(fS w β src Cs).S (β i).blk=false:=by
  intro j i C B Z hi hB V hg hm hn hsz hle;cases hS:(fS w β src Cs).S (β i).blk with
  |false=>rfl
  |true=>
   exfalso;obtain⟨j',C',i',h1,h2,h3,h4,h5⟩:=Wc.1 hS;rcases sat j' C' h1 with ⟨q,_⟩|⟨i2,B',q1,q2,q3⟩
   ·rw[h2] at q;cases q
   rw[h2] at q1;simp only[za1] at q1;subst q1;have hne:i'≠i:=λe=>by
    subst e;have:=hnd _ _ _ _ hi h2 h1 h3;subst this;rw[Z] at h1;simp only[za1] at h1;subst h1;rw[V] at h3;cases h3
   have mapcase:C'.kd.map=true->B'.kd.map=true->False:=λhc' hm'=>by
    have hes:=λj=>(Y.maps.ok i' B' q2 hm').2.2.2.cellN hm' j;rw[h5] at hes;rcases hfar with hf|hf
    ·rw[hf C' (zal h1)] at hc';cases hc'
    ·obtain⟨f1,f2⟩:=hf j C i Z hi V;exact qW (Y.blk i B hB hg) hes (by omega) (by omega)
   obtain⟨_,_,q4⟩:=q3;cases hck:C'.kd with
   |own=>
    simp only[hck] at q4;have k1:=Y.own i' B' q2 q4.1 h4;cases hbk:B.kd with
    |own=>exact hne (Y.inj i' i B' B q2 hB q4.1 hbk h4 hn h5)
    |old=>exact absurd (h5▸k1) (Y.old i B hB hbk hn).1
    |gone=>exact hg hbk
    |_=>rw[hbk] at hm;cases hm
   |mpL=>simp only[hck] at q4;exact mapcase (by rw[hck];rfl) (by rw[q4.1];rfl)
   |mpI=>simp only[hck] at q4;exact mapcase (by rw[hck];rfl) (by rw[q4.1];rfl)
   |mpB=>simp only[hck] at q4;exact mapcase (by rw[hck];rfl) (by rw[q4.1];rfl)
   |itL=>simp only[hck] at q4
   |itK=>simp only[hck] at q4
   |_=>rw[hck] at h3;cases h3
 refine⟨Pres.self _, ?_, ?_, ?_, ?_, ?_, ?_, ?_, ?_, ?_⟩
 ·intro j C Z hg;rcases sat j C Z with ⟨q,kd,n0,nn⟩|⟨i,B,q1,q2,q3,q4,J⟩
  ·have e:=qj (β:=β) q Z;refine⟨by rw[e],λq=>(by rw[e] at q;cases q),by rw[n0];exact zaA _,λe' he'=>by rw[n0] at he';omega,λj' hj'=>by rw[e] at hj';simp at hj',λq=>(by rw[kd] at q;cases q),λe' he'=>by rw[n0] at he';omega,λ_=>by rw[e],λq=>(by rw[nn] at q;cases q)⟩
  ·have hl:β i=ie β src Cs j:=(dn q1).symm;cases V:C.kd with
   |gone=>exact absurd V hg
   |old=>simp only[V] at J;exact wD (Y.blk i B q2 J.1) hl q3 J.2.2.1 (λh=>by rw[V] at h;cases h) q4 λe he=>sT lO (J.2.2.2 e he)
   |own=>simp only[V] at J;exact wD (Y.blk i B q2 (by rw[J.1];simp)) hl q3 J.2.2.2.1 (λ_=>J.1) q4 λe he=>sT lO (J.2.2.2.2 e he)
   |mpL=>simp only[V] at J;exact Aw (Y.blk i B q2 (by rw[J.1];simp)) hl q3 J.2.1 (λh=>by rw[V] at h;cases h) q4
   |mpI=>simp only[V] at J;exact Aw (Y.blk i B q2 (by rw[J.1];simp)) hl q3 J.2.1 (λh=>by rw[V] at h;cases h) q4
   |mpB=>simp only[V] at J;exact Aw (Y.blk i B q2 (by rw[J.1];simp)) hl q3 J.2.1 (λh=>by rw[V] at h;cases h) q4
   |itL=>simp only[V] at J
   |itK=>simp only[V] at J
 ·intro j C Z V hn;rcases sat j C Z with ⟨q,kd,_⟩|⟨i,B,q1,q2,_⟩
  ·rw[kd] at V;cases V
  ·rw[dn q1] at hn ⊢;exact hmine Z q1 (by rw[V];rfl) hn
 ·intro j C Z V hn;rcases sat j C Z with ⟨q,kd,_⟩|⟨i,B,q1,q2,q3,q4,J⟩
  ·rw[qj q Z] at hn;cases hn
  ·rw[dn q1] at hn ⊢;simp only[V] at J;have hlt:=(Y.blk i B q2 J.1).lt hn;refine⟨?_,rfl⟩;rintro(hm|hm)
   ·have:w.heap.size<=(β i).blk:=hm;omega
   ·rw[apart Z q1 q2 V J.1 J.2.1 hn q3 J.2.2.1] at hm;cases hm
 ·intro i j C D Z hD hkC hkD hn hn' he;rcases sat i C Z with ⟨q,kd,_⟩|⟨i1,B,q1,q2,_,_,J⟩
  ·rw[kd] at hkC;cases hkC
  rcases sat j D hD with ⟨r,kd,_⟩|⟨j1,B',r1,r2,_,_,r5⟩
  ·rw[kd] at hkD;cases hkD
  simp only[hkC] at J;simp only[hkD] at r5;rw[dn q1] at hn he;rw[dn r1] at hn' he;have:=Y.inj i1 j1 B B' q2 r2 J.1 r5.1 hn hn' he;subst this;exact hnd _ _ _ _ q1 r1 hD (by first|(rw[hkD];rfl)|exact kY hkD)
 ·intro j C e o s Z hg he hs;rcases sat j C Z with ⟨q,kd,n0,nn⟩|⟨i,B,q1,q2,q3,q4,J⟩
  ·rw[n0] at he;omega
  ·cases V:C.kd with
   |gone=>exact absurd V hg
   |old=>simp only[V] at J;exact domain (J.2.2.2 e he) (zal hs)
   |own=>simp only[V] at J;exact domain (J.2.2.2.2 e he) (zal hs)
   |mpL=>simp only[V] at J;rw[J.2.1] at he;omega
   |mpI=>simp only[V] at J;rw[J.2.1] at he;omega
   |mpB=>simp only[V] at J;rw[J.2.1] at he;omega
   |itL=>simp only[V] at J
   |itK=>simp only[V] at J
 ·intro j C Z hm;rcases sat j C Z with ⟨q,kd,n0,nn⟩|⟨i,B,q1,q2,q3,q4,J⟩
  ·rw[kd] at hm;cases hm
  ·have hBm:B.kd=C.kd/\C.n=0:=by
    cases V:C.kd<;>simp only[V] at J hm ⊢ <;>first|exact⟨J.1,J.2.1⟩|cases hm
   obtain⟨m1,m2,m3,m4⟩:=Y.maps.ok i B q2 (by rw[hBm.1];exact hm);rw[dn q1];refine⟨hBm.2,m2,hmine Z q1 (kY hm) m2, ?_⟩;rw[hBm.1] at m4;refine MapOK.rn (show MapOK β (β i).blk w C.kd B.get from m4) rfl (λh=> ?_) (λh=> ?_) (λh=> ?_) ?_
   ·simp only[h] at J;exact λe=>sT lO (J.2.2 e)
   ·simp only[h] at J;exact J.2.2
   ·simp only[h] at J;exact J.2.2
   ·cases V:C.kd<;>first|rfl|(simp only[V] at J)
 ·intro i j C D Z hD hkC hkD he;rcases sat i C Z with ⟨q,kd,_⟩|⟨i1,B,q1,q2,_,_,J⟩
  ·rw[kd] at hkC;cases hkC
  rcases sat j D hD with ⟨r,kd,_⟩|⟨j1,B',r1,r2,_,_,r5⟩
  ·rw[kd] at hkD;cases hkD
  rw[dn q1,dn r1] at he;have hB1:B.kd.map=true:=by cases V:C.kd<;>simp only[V] at J hkC<;>first|(rw[J.1];rfl)|cases hkC
  have hB2:B'.kd.map=true:=by cases V:D.kd<;>simp only[V] at r5 hkD<;>first|(rw[r5.1];rfl)|cases hkD
  have:=Y.maps.inj i1 j1 B B' q2 r2 hB1 hB2 he;subst this;exact hnd _ _ _ _ q1 r1 hD (by first|(rw[hkD];rfl)|exact kY hkD)
 ·intro j C e s Z V hs;rcases sat j C Z with ⟨q,kd,_⟩|⟨i,B,q1,q2,q3,q4,J⟩
  ·rw[kd] at V;cases V
  ·cases hkd:C.kd<;>simp only[hkd] at J V<;>first|exact domain (J.2.2 e) hs|cases V
 ·intro j C Z V;rcases sat j C Z with ⟨q,kd,_⟩|⟨i,B,q1,q2,q3,q4,J⟩
  ·rw[kd] at V;cases V
  ·cases hkd:C.kd<;>simp only[hkd] at J V<;>cases V
theorem GI (J:BC W0 bl β w) (Z:yw bl (rnF src [] nx) src Cs):SubB (fS w β src Cs) W0:=by
 refine⟨J.below,λb hb=> ?_⟩;obtain⟨j,C,i,h1,h2,h3,h4,rfl⟩:=Wc.1 hb;rcases(qU Z).2 j C h1 with ⟨q,_⟩|⟨i',B,q1,q2,_,_,V⟩
 ·rw[h2] at q;cases q
 rw[h2] at q1;simp only[za1] at q1;subst q1;cases Y:C.kd with
 |own=>simp only[Y] at V;exact J.own i B q2 V.1 h4
 |mpL=>simp only[Y] at V;exact(J.maps.ok i B q2 (by rw[V.1];rfl)).2.2.1
 |mpI=>simp only[Y] at V;exact(J.maps.ok i B q2 (by rw[V.1];rfl)).2.2.1
 |mpB=>simp only[Y] at V;exact(J.maps.ok i B q2 (by rw[V.1];rfl)).2.2.1
 |itL=>simp only[Y] at V
 |itK=>simp only[Y] at V
 |_=>rw[Y] at h3;cases h3
theorem GJ {D:Blk} {w':World} (h:BlkOK β1 i D w) (Y:β2 i=β1 i) (hs:w.heap.size<=w'.heap.size) (hh:(β1 i).nil=false->0<(β1 i).cap*D.sz->w'.heap[(β1 i).blk]? =w.heap[(β1 i).blk]?)
 (hv: ∀e,e<D.n-> ∀(o:Nat) (s:SV),(D.get e)[o]? =some s->s.conc β2=s.conc β1):BlkOK β2 i D w':=by
 have key: ∀j,j<(β1 i).cap*D.sz->(β1 i).nil=false/\w'.heap[(β1 i).blk]? =w.heap[(β1 i).blk]? :=λj J=>⟨(h.lt_cap J).1,hh (h.lt_cap J).1 (by omega)⟩;refine⟨by rw[Y];exact h.sz,λq=>by rw[Y] at q ⊢;exact zam (h.lt q) hs,by rw[Y];exact h.le,h.len,λj J=> ?_,λq j J=> ?_,λe he o s V=> ?_,by rw[Y];exact h.nil,by rw[Y];exact h.nn⟩
 ·rw[Y] at J ⊢;have:=h.ex j J;simp only[World.cell?,(key j J).2] at this ⊢;exact this
 ·rw[Y] at J ⊢;have:=h.fr q j J;simp only[World.frozen?,(key j J).2] at this ⊢;exact this
 ·have ho:o<D.sz:=by
   rw[<-h.len e he];rcases zah o (D.get e).length with Z|Z
   ·exact Z
   ·rw[zad Z] at V;cases V
  have J:e*D.sz+o<(β1 i).cap*D.sz:=jS (by have:=h.le;omega) ho;rw[hv e he o s V];have:=h.val e he o s V;simp only[addr,Y] at this ⊢;simp only[World.cell?,(key _ J).2] at this ⊢;exact this
def Ay (P:Program) (ok:FuncId->Bool) (Γ:zdR) (Γm:FuncId->Option MCtr) (Δ:FuncId->Option DCtr) (ann:zdY) (n:Nat):Inl:=λf args bl nx wl K=>bif ok f then(match P.funcs.toList[f]? with
 |some fn=>match fn.body with
  |some c=>spl (Γm (f+1073741824)).isSome (λargs hq=>vc P Γ (wn P ok Γ Γm Δ ann n) (ann f) c (gq P Δ fn.results.toList K) (sa (ann f) (fB args fn.ntmps bl nx wl hq))) args
  |none=>False
 |none=>False) else False
theorem Ea (ok:FuncId->Bool) (Γ:zdR) (Γm:FuncId->Option MCtr) (Δ:FuncId->Option DCtr) (ann:zdY) (n:Nat):cF (Ay P ok Γ Γm Δ ann n):=λf args bl nx wl Z=>by
 unfold NiceT;simp only[Ay];cases ok f with
 |false=>exact Nice.no λ_ h=>h
 |true=>
  simp only[zdu];split
  ·rename_i fn hfn;split
   ·rename_i c hc;refine aaS (T:=λ(K:Out->Prop) args hq=>vc P Γ (wn P ok Γ Γm Δ ann n) (ann f) c (gq P Δ fn.results.toList λr b n w=>K ⟨r,b,n,w⟩) (sa (ann f) (fB args fn.ntmps bl nx wl hq))) λargs hq=> ?_;refine Nice.bind (O:=Exit×AS) (O':=Out) (F:=λ(K:Out->Prop) o=>gq P Δ fn.results.toList (λr b n w=>K ⟨r,b,n,w⟩) o.1 o.2) (fQ (P:=P) (Γ:=Γ) (lN ok Γ Γm Δ ann n) (ann f) c (sa (ann f) (fB args fn.ntmps bl nx wl hq)) (by rw[(eA _ _).1,(eA _ _).2.1];exact Z)) λo V=> ?_;have V:=V.ofBd;exact Nice.weak (qh (P:=P) V.nxs) λo' J=>⟨J.nxs,zac V.nx J.le,λj B hB Y=>J.keep j B (V.keep j B hB λhw=>Y (J.sub j hw)) Y,λj Y h0=>J.new j (zam Y V.nx) (V.new j Y h0),λj Y=>J.sub j (V.wl j Y)⟩
   ·exact Nice.no λ_ h=>h
  ·exact Nice.no λ_ h=>h
variable {ok:FuncId->Bool} {Γ:zdR} {Γm:FuncId->Option MCtr} {Δ:FuncId->Option DCtr}
theorem sU (H:HypD P W0 ok Γ Γm Δ) (ann:zdY) (n:Nat):kn P W0 (Ay P ok Γ Γm Δ ann n):=by
 intro f args bl nx wl K β w h hbc hnx hl;simp only[Ay] at h;cases hok:ok f with
 |false=>rw[hok] at h;exact h.elim
 |true=>
  rw[hok] at h;simp only[zdu] at h;refine⟨H.ok f hok, ?_⟩;split at h
  ·rename_i fn hfn;split at h
   ·rename_i c hc;have hf:P.funcs[f]? =some fn:=by simpa using hfn
    refine calls_of_wp_defers hf hc ?_;obtain⟨hq,h⟩:=Cm h;obtain⟨b1,b2,b3,_⟩:=eA (ann f) (fB args fn.ntmps bl nx wl hq);have hs:Is {W0 with sd:=(sa (ann f) (fB args fn.ntmps bl nx wl hq)).sd} (sa (ann f) (fB args fn.ntmps bl nx wl hq)) β {tmps:=(SV.concs β args).toArray++Array.replicate (fn.ntmps - (SV.concs β args).toArray.size) undef,defers:= []} w:=
     ⟨ae5 (yu β args fn.ntmps bl nx wl _ hl),by rw[b1];exact hbc.sd,by rw[b1,b2];exact hnx,rfl⟩
    refine Code.wp_mono ?_ (eV (H.gam.sub (SubB.sd _ _)) H.mixed (λB hB=>mV (H.sub (hB.trans (SubB.sd _ _))) ann n) (lN ok Γ Γm Δ ann n) (ann f) c _ _ β _ w h (hs.x (adi rfl)));rintro e a' w' ⟨A',β',hk,J,Y⟩;have J:=IsX.up J;have Y:Trs (fB args fn.ntmps bl nx wl hq) β A' β':=⟨by have:=Y.tr;rw[b1,b2] at this;exact this,by have:=Y.wl;rw[b3] at this;exact this,by have:=Y.nx;rw[b2] at this;exact this,by rw[Y.nt];exact(eA _ _).2.2.2⟩;have Z: ∀m,qF P Δ fn.results.toList K A'.df m A'->Leaves P fn a'.tmps (λe w'=> ∃V r bl' nx' wl',Ends V r e/\K r bl' nx' wl'/\BC W0 bl' V w'/\NX bl' nx'/\sg bl' r/\Tr bl nx wl' β bl' V/\(∀i∈wl,i∈wl')/\nx<=nx') a'.defers (pq m) w':=by
     intro m hm;rw[J.fr.defers.1];exact mU (λ_ _ _ h=>h.unsd.unsd) (H.dem _ ((SubB.sd _ _).trans (SubB.sd _ _))) A'.df m A' β' a' w' hm J J.fr.defers.2 Y.tr Y.wl Y.nx
    rcases V8.1 hk with ⟨he,hr⟩|⟨v,rfl,hv⟩
    ·rcases he with rfl|rfl
     ·exact Z none hr
     ·exact Z none hr
    ·exact Z (some v) hv
   ·exact h.elim
  ·exact h.elim
theorem c8 {k:MCtr} (H: ∀B:Base,SubB B W0->HypD P B ok Γ Γm Δ)
 (h: ∀(bl:zdP) (nx:Nat) (args:zdN) (C:RC),k bl nx args=some C->C.pre=true->
   ∃(src:zdW) (Cs:zdX) (args0:zdN) (ann:zdY) (n:Nat),yw bl (rnF src [] nx) src Cs/\Kr src Cs/\Far src Cs/\SV.rns (rnF src [] nx) args0=some args/\
    Ay P ok Γ Γm Δ ann n F args0 (λi=>Cs[i]?) Cs.length [] (KB C src Cs nx)):VU P W0 F k:=by
 intro bl β w nx args C V hit0 hnx hlive hk hpre;obtain⟨src,Cs,args0,ann,n,hsrc,hsnd,hfar,harg,hrun⟩:=h bl nx args C hk hpre;obtain⟨sl,sat⟩:=qU hsrc;have hsub:=GI V hsrc;have hbc0:=NI V hsrc hsnd hfar;have hlen: ∀{j:Nat} {o:Option Nat},src[j]? =some o-> ∃C,Cs[j]? =some C:=λ{j o} h=>by
  rcases zah j src.length with h'|h'
  ·exact⟨Cs[j]'(by omega),zaa (by omega)⟩
  ·rw[zad h'] at h;cases h
 have hnx0:NX (λi=>Cs[i]?) Cs.length:=λi hi=>zad hi
 obtain⟨_,hc⟩:=sU (H _ hsub) ann n F args0 (λi=>Cs[i]?) Cs.length [] _ (ie β src Cs) w hrun hbc0 hnx0 (λs hs i hi=>by
  have:=rns_dom harg i (SV.mem_idss.2 ⟨s,hs,hi⟩);simp only[rnF,D8] at this;split at this
  ·rename_i o ho;obtain⟨C,hC⟩:=hlen ho;show Cs[i]? ≠none;rw[hC];simp
  ·exact absurd rfl this)
 rw[(rns_conc lO harg).1];refine Calls.mono hc ?_;rintro e w' ⟨β',r,bl',nx',wl',he,hK,Y,hnx',_,htr,_,hle⟩;obtain⟨x,hx,nws,hr,hnd,hnew,hch⟩:=hK;obtain⟨nl,nat⟩:=wC hnew;obtain⟨ch1,ch2⟩:=Av hch;simp only[za7] at ch1;have hltn: ∀{i:Nat},bl i≠none->i<nx:=λ{i} hi=>by
  rcases zah i nx with h|h
  ·exact h
  ·exact absurd (hnx i h) hi
 have hsz:w.heap.size<=w'.heap.size:=Y.below.size
 let β2:zdM:=λi=>bif Nat.blt i nx then β i else match nws[i - nx]? with
  |some (some j)=>β' j
  |_=>⟨0,0,(match (C.nw x)[i - nx]? with
   |some N=>N.sz
   |none=>0),0,true⟩
 have b2l: ∀{i:Nat},i<nx->β2 i=β i:=λ{i} hi=>by simp only[β2,aB,zds hi,zdu]
 have b2n: ∀{q j:Nat},nws[q]? =some (some j)->β2 (nx+q)=β' j:=λ{q j} hq=>by
  simp only[β2,aB,zdv (by omega: ¬nx+q<nx),zdt,zbb,hq]
 have b2z: ∀{q:Nat} {N:Blk},nws[q]? =some none->(C.nw x)[q]? =some N->β2 (nx+q)=⟨0,0,N.sz,0,true⟩:=λ{q N} hq hN=>by
  simp only[β2,aB,zdv (by omega: ¬nx+q<nx),zdt,zbb,hq,hN]
 have hb0: ∀{j:Nat} {o:Option Nat},src[j]? =some o->β' j=ie β src Cs j:=λ{j o} ho=>htr.same j (by
  obtain⟨C,hC⟩:=hlen ho;show Cs[j]? ≠none
  rw[hC];simp)
 have hbs: ∀{j i:Nat},src[j]? =some (some i)->β' j=β i:=λ{j i} h=>(hb0 h).trans (dn h);have hcall: ∀{j i:Nat},src[j]? =some (some i)-> ∃C B,Cs[j]? =some C/\bl i=some B/\wB (rnF src [] nx) C B:=λ{j i} h=>by
  obtain⟨C,hC⟩:=hlen h;rcases sat j C hC with ⟨q,_⟩|⟨i',B,q1,q2,q3⟩
  ·rw[h] at q;cases q
  ·rw[h] at q1;simp only[za1] at q1;subst q1;exact⟨C,B,hC,q2,q3⟩
 have hag2:sS (rnG src nws nx) β' β2:=by
  intro j;refine⟨λi hi=> ?_,λhi=> ?_⟩
  ·simp only[rnG] at hi;split at hi
   ·rename_i o ho;simp only[za1] at hi;subst hi;obtain⟨_,B,_,h2,_⟩:=hcall ho;rw[hbs ho];exact(b2l (hltn (by rw[h2];simp))).symm
   ·split at hi
    ·rename_i q hq;simp only[za1] at hi;subst hi;obtain⟨p,rfl,hp⟩:=gP hq;exact(b2n hp).symm
    ·cases hi
  ·simp only[rnG] at hi;split at hi
   ·rename_i o ho;simp only[za1] at hi;subst hi;rw[hb0 ho];simp only[ie,ho,and_self]
   ·split at hi<;>cases hi
 have hag3:sS (dt src nws nx) β2 β':=by
  intro i;refine⟨λj hj=> ?_,λhj=> ?_⟩
  ·simp only[dt] at hj;cases hle':Nat.ble nx i with
   |true=>
    rw[hle',zdu] at hj;have:=zak hle';obtain⟨q,rfl⟩: ∃q,i=nx+q:=⟨i - nx,by omega⟩;rw[zbb] at hj;exact b2n hj
   |false=>
    rw[hle',zdt] at hj;split at hj
    ·rename_i k hk;simp only[za1] at hj;subst hj;obtain⟨m,e,hm⟩:=gP hk;rw[za7] at e;subst e;obtain⟨_,B,_,h2,_⟩:=hcall hm;rw[hbs hm];exact b2l (hltn (by rw[h2];simp))
    ·cases hj
  ·simp only[dt] at hj;cases hle':Nat.ble nx i with
   |true=>
    rw[hle',zdu] at hj;have:=zak hle';obtain⟨q,rfl⟩: ∃q,i=nx+q:=⟨i - nx,by omega⟩;rw[zbb] at hj;obtain⟨N,hN⟩: ∃N,(C.nw x)[q]? =some N:=by
     rcases zah q nws.length with h|h
     ·exact⟨(C.nw x)[q]'(by omega),zaa _⟩
     ·rw[zad h] at hj;cases hj
    rw[b2z hj hN];exact⟨rfl,rfl⟩
   |false=>
    rw[hle',zdt] at hj;split at hj<;>cases hj
 have hkey: ∀{p:Nat×Blk},p∈C.ch x-> ∃j Cj B B',Cs[j]? =some Cj/\cN Cj.kd=true/\src[j]? =some (some p.1)/\bl p.1=some B/\wB (rnF src [] nx) Cj B/\bl' j=some B'/\kx (rnG src nws nx) B' p.2:=λ{p} hp=>by
  obtain⟨j,Cj,B',a1,a2,a3,a4,a5,_⟩:=ch1 p hp;obtain⟨Cj',B,c1,c2,c3⟩:=hcall a3;rw[a1] at c1;simp only[za1] at c1;subst c1;exact⟨j,Cj,B,B',a1,a2,a3,c2,c3,a4,a5⟩
 have F: ∀{i:Nat} {D:Blk},fv (chB bl (C.ch x)) nx (C.nw x) i=some D->(i<nx/\i∉(C.ch x).map (·.1)/\bl i=some D)\/(i<nx/\ ∃j Cj B B',Cs[j]? =some Cj/\cN Cj.kd=true/\src[j]? =some (some i)/\bl i=some B/\wB (rnF src [] nx) Cj B/\bl' j=some B'/\kx (rnG src nws nx) B' D)\/
  (∃q j B',i=nx+q/\(C.nw x)[q]? =some D/\nws[q]? =some (some j)/\Cs.length<=j/\bl' j=some B'/\D.kd≠ .gone/\(D.kd= .own->(Cs.all λC=> !C.kd.map)=true\/1<=D.n/\1<=D.sz)/\kx (rnG src nws nx) B' D)\/β2 i=⟨0,0,D.sz,0,true⟩/\D.kd= .own/\D.n=0/\D.nn=false:=by
  intro i D hD;rcases zah i nx with h|h
  ·have:fv (chB bl (C.ch x)) nx (C.nw x) i=chB bl (C.ch x) i:=by simp only[fv,aB,zds h,zdu]
   rw[this] at hD;by_cases hm:i∈(C.ch x).map (·.1)
   ·obtain⟨E,h1,h2⟩:=(Wp (bl:=bl)).1 hm;rw[h1] at hD;simp only[za1] at hD;subst hD;exact .inr (.inl ⟨h,hkey h2⟩)
   ·rw[Wp.2 hm] at hD;exact .inl ⟨h,hm,hD⟩
  ·obtain⟨q,rfl⟩: ∃q,i=nx+q:=⟨i - nx,by omega⟩;have:fv (chB bl (C.ch x)) nx (C.nw x) (nx+q)=(C.nw x)[q]? :=by simp only[fv,aB,zdv (by omega: ¬nx+q<nx),zdt,zbb]
   rw[this] at hD;rcases nat q D hD with ⟨h1,h2⟩|⟨j,B,h1,h2,h3,h4,h5,h6⟩
   ·exact .inr (.inr (.inr ⟨b2z h1 hD,h2⟩))
   ·exact .inr (.inr (.inl ⟨q,j,B,rfl,hD,h1,h2,h3,h4,h5,h6⟩))
 have hdom: ∀{i:Nat},bl i≠none->fv (chB bl (C.ch x)) nx (C.nw x) i≠none:=λ{i} hi=>by
  have:fv (chB bl (C.ch x)) nx (C.nw x) i=chB bl (C.ch x) i:=by simp only[fv,aB,zds (hltn hi),zdu]
  rw[this];by_cases hm:i∈(C.ch x).map (·.1)
  ·obtain⟨E,h1,_⟩:=(Wp (bl:=bl)).1 hm;rw[h1];simp
  ·rw[Wp.2 hm];exact hi
 have hcong: ∀s,Live bl s->Live (fv (chB bl (C.ch x)) nx (C.nw x)) s/\s.conc β2=s.conc β:=λs hs=>⟨λi hi=>hdom (hs i hi),SV.conc_congr s λi hi=>b2l (hltn (hs i hi))⟩;have hliveG: ∀{s r:SV},s.rn (rnG src nws nx)=some r->Live (fv (chB bl (C.ch x)) nx (C.nw x)) r:=λ{s r} hs j hj=>by
  obtain⟨i,hi,hij⟩:=(ol hag2 hs).2 j hj;simp only[rnG] at hij;split at hij
  ·rename_i o ho;simp only[za1] at hij;subst hij;obtain⟨_,B,_,h2,_⟩:=hcall ho;exact hdom (by rw[h2];simp)
  ·split at hij
   ·rename_i q hq;simp only[za1] at hij;subst hij;obtain⟨p,rfl,hp⟩:=gP hq;have hlt:p<(C.nw x).length:=by
     rw[<-nl];rcases zah p nws.length with h|h
     ·exact h
     ·rw[zad h] at hp;cases hp
    have:fv (chB bl (C.ch x)) nx (C.nw x) (nx+p)=(C.nw x)[p]? :=by simp only[fv,aB,zdv (by omega: ¬nx+p<nx),zdt,zbb]
    rw[this,zaa hlt];simp
   ·cases hij
 have hkd: ∀{j:Nat} {Cj B':Blk},Cs[j]? =some Cj->bl' j=some B'->B'.kd≠ .gone->B'.kd=Cj.kd:=λ{j Cj B'} h1 h2 h3=>by
  obtain⟨B2,k1,_,_,k4,_⟩:=htr.keep j Cj h1;rw[h2] at k1;simp only[za1] at k1;subst k1;exact k4.resolve_right h3
 have hSB: ∀{Cj B:Blk},wB (rnF src [] nx) Cj B->cN Cj.kd=true->B.kd=Cj.kd:=λ{Cj B} h hm=>by
  obtain⟨_,_,h3⟩:=h;cases hk:Cj.kd<;>simp only[hk] at h3 hm<;>first|exact h3.1|cases hm
 have hDk: ∀{g:ze1} {B' D:Blk},kx g B' D->D.kd≠ .gone->D.kd=B'.kd/\D.sz=B'.sz/\(D.nn=true->B'.nn=true)/\D.n<=B'.n:=λ{g B' D} h hg=>by
  rcases h with h|⟨h1,h2,h3,h4,_⟩
  ·exact absurd h hg
  ·exact⟨h1,h2,h3,h4⟩
 have unch: ∀{i:Nat} {D:Blk},i∉(C.ch x).map (·.1)->bl i=some D->D.kd≠ .gone->(β i).nil=false->(D.kd.map=true\/0<(β i).cap*D.sz)->w'.heap[(β i).blk]? =w.heap[(β i).blk]? :=by
  intro i D hi hD hg hn hc';refine Y.below.block _ ((V.blk i D hD hg).lt hn) ?_;cases hS:(fS w β src Cs).S (β i).blk with
  |false=>rfl
  |true=>
   exfalso;obtain⟨j',C',i',h1,h2,h3,h4,h5⟩:=Wc.1 hS;have hik:i'∈(C.ch x).map (·.1):=ch2 j' C' i' h1 h3 h2;have hne:i'≠i:=λe=>hi (e▸hik);obtain⟨C2,B',c1,q2,q3⟩:=hcall h2;rw[h1] at c1;simp only[za1] at c1;subst c1;have hBk:=hSB q3 h3;obtain⟨e1,_,q4⟩:=q3;cases hck:C'.kd with
   |own=>
    rw[hck] at hBk;simp only[hck] at q4;have k1:=V.own i' B' q2 hBk h4;cases hbk:D.kd with
    |own=>exact hne (V.inj i' i B' D q2 hD hBk hbk h4 hn h5)
    |old=>exact absurd (h5▸k1) (V.old i D hD hbk hn).1
    |gone=>exact hg hbk
    |_=>
     have hes:=λj=>(V.maps.ok i D hD (by rw[hbk];rfl)).2.2.2.cellN (by rw[hbk];rfl) j;rw[<-h5] at hes;exact qW (V.blk i' B' q2 (by rw[hBk];simp)) hes (by omega) (by omega)
   |old=>rw[hck] at h3;cases h3
   |gone=>rw[hck] at h3;cases h3
   |_=>
    rw[hck] at hBk;have hm':B'.kd.map=true:=by rw[hBk];rfl
    rcases hc' with hm|hpos
    ·exact hne (V.maps.inj i' i B' D q2 hD hm' hm h5)
    ·have hes:=λj=>(V.maps.ok i' B' q2 hm').2.2.2.cellN hm' j;rw[h5] at hes;have:=(V.blk i D hD hg).ex 0 hpos;rw[hes] at this;cases this
 have content: ∀{g:ze1} {B' D:Blk},kx g B' D->D.kd= .own-> ∀e,e<D.n->SV.rns g (B'.get e)=some (D.get e):=λ{g B' D} h hk=>by
  rcases h with h|⟨_,_,_,_,h5⟩
  ·rw[h] at hk;cases hk
  ·simp only[hk] at h5;exact h5
 have contL: ∀{g:ze1} {B' D:Blk},kx g B' D->D.kd= .mpL-> ∀e,SV.rns g (B'.get e)=some (D.get e):=λ{g B' D} h hk=>by
  rcases h with h|⟨_,_,_,_,h5⟩
  ·rw[h] at hk;cases hk
  ·simp only[hk] at h5;exact h5
 have contI: ∀{g:ze1} {B' D:Blk},kx g B' D->D.kd= .mpI-> ∀e,iG (B'.get e)=iG (D.get e):=λ{g B' D} h hk=>by
  rcases h with h|⟨_,_,_,_,h5⟩
  ·rw[h] at hk;cases hk
  ·simp only[hk] at h5;exact h5
 have contB: ∀{g:ze1} {B' D:Blk},kx g B' D->D.kd= .mpB-> ∀e,su (B'.get e)=su (D.get e):=λ{g B' D} h hk=>by
  rcases h with h|⟨_,_,_,_,h5⟩
  ·rw[h] at hk;cases hk
  ·simp only[hk] at h5;exact h5
 have noOld: ∀{g:ze1} {B' D:Blk},kx g B' D->D.kd≠ .old:=λ{g B' D} h hk=>by
  rcases h with h|⟨_,_,_,_,h5⟩
  ·rw[h] at hk;cases hk
  ·simp only[hk] at h5
 have noIts: ∀{g:ze1} {B' D:Blk},kx g B' D->D.kd.it=false:=λ{g B' D} h=>by
  rcases h with h|⟨_,_,_,_,h5⟩
  ·rw[h];rfl
  ·cases hk:D.kd<;>first|rfl|(simp only[hk] at h5)
 have lstL: ∀{g:ze1} {B' D:Blk},kx g B' D->D.kd.lst=true->D.kd= .mpL:=λ{g B' D} h hl=>by
  have:=noIts h;cases hk:D.kd<;>rw[hk] at hl this<;>first|rfl|(exact absurd hl (by decide))|(exact absurd this (by decide))
 have blkD: ∀{i j:Nat} {B' D:Blk},bl' j=some B'->β2 i=β' j->D.kd≠ .gone->kx (rnG src nws nx) B' D->BlkOK β2 i D w':=by
  intro i j B' D h1 h2 hg h3;obtain⟨d1,d2,d3,d4⟩:=hDk h3 hg;have p:=Y.blk j B' h1 (by rw[<-d1];exact hg);refine wD p h2.symm d2 d4 (λq=>by rw[<-d1];exact q) (λq=> .inl (d3 q)) λe he=> ?_;cases hk:D.kd with
  |own=>exact Cn hag2 (content h3 hk e he)
  |gone=>exact absurd hk hg
  |old=>exact absurd hk (noOld h3)
  |_=>
   have:=(Y.maps.ok j B' h1 (by rw[<-d1,hk];rfl)).1;omega
 have mineN: ∀{b:Nat},(fS w β src Cs).mine b->W0.mine b:=λ{b} h=>by
  rcases h with h|h
  ·exact .inl (zac V.below.size h)
  ·exact hsub.2 b h
 have mapKept: ∀{j i:Nat} {Cj:Blk},Cs[j]? =some Cj->src[j]? =some (some i)->Cj.kd.map=true-> ∃B',bl' j=some B'/\B'.kd.map=true:=by
  intro j i Cj h1 h2 h3;have hm:=ch2 j Cj i h1 (kY h3) h2;obtain⟨p,hp,rfl⟩:=zaz.1 hm;obtain⟨j',C',B',a1,a2,a3,a4,a5,a6⟩:=ch1 p hp;have:=hsnd _ _ _ _ a3 h2 h1 (kY h3);subst this;rw[h1] at a1;simp only[za1] at a1;subst a1;have hg:p.2.kd≠ .gone:=a6.resolve_left λe=>by rw[e] at h3;cases h3
  have d1:=(hDk a5 hg).1;exact⟨B',a4,by rw[hkd h1 a4 (by rw[<-d1];exact hg)];exact h3⟩
 refine⟨x,hx,β2, ?_, ?_,λi hi=>b2l (hltn hi), ?_⟩
 ·cases hp:C.pan x with
  |none=>
   rw[hp] at hr;obtain⟨s,rfl,hs⟩:=hr;simp only[RC.res,hp];obtain rfl:e=_:=he;show _=_;rw[(ol hag3 hs).1]
  |some v=>
   rw[hp] at hr;subst hr;simp only[RC.res,hp];exact he
 ·refine⟨hsub.pres Y.below, ?_, ?_, ?_, ?_, ?_, ?_, ?_, ?_, ?_⟩
  ·intro i D hD hg;rcases F hD with ⟨h1,h2,h3⟩|⟨h1,j,Cj,B,B',a1,a2,a3,a4,a5,a6,a7⟩|⟨q,j,B',rfl,a1,a2,a3,a4,a5,a6,a7⟩|⟨z1,z2,z3,z4⟩
   ·exact GJ (V.blk i D h3 hg) (b2l h1) hsz (λhn hpos=>unch h2 h3 hg hn (.inr hpos)) λe he o s hs=>(hcong s (V.live i D e o s h3 hg he hs)).2
   ·exact blkD a6 ((b2l h1).trans (hbs a3).symm) hg a7
   ·exact blkD a4 (b2n a2) hg a7
   ·refine⟨by rw[z1],λq=>(by rw[z1] at q;cases q),by rw[z3];exact zaA _,λe' he'=>by rw[z3] at he';omega,λj' hj'=>by rw[z1] at hj';simp at hj',λ_ j' hj'=>by rw[z1] at hj';simp at hj',λe' he'=>by rw[z3] at he';omega,λ_=>by rw[z1],λq=>(by rw[z4] at q;cases q)⟩
  ·intro i D hD J hn;rcases F hD with ⟨h1,h2,h3⟩|⟨h1,j,Cj,B,B',a1,a2,a3,a4,a5,a6,a7⟩|⟨q,j,B',rfl,a1,a2,a3,a4,a5,a6,a7⟩|⟨z1,z2,z3,z4⟩
   ·rw[b2l h1] at hn ⊢;exact V.own i D h3 J hn
   ·have d1:=(hDk a7 (by rw[J];simp)).1;have d2:=hkd a1 a6 (by rw[<-d1,J];simp);rw[b2l h1] at hn ⊢;exact V.own i B a4 (by rw[hSB a5 a2,<-d2,<-d1];exact J) hn
   ·have d1:=(hDk a7 a5).1;rw[b2n a2] at hn ⊢;exact mineN (Y.own j B' a4 (by rw[<-d1];exact J) hn)
   ·rw[z1] at hn;cases hn
  ·intro i D hD J hn;rcases F hD with ⟨h1,h2,h3⟩|⟨h1,j,Cj,B,B',a1,a2,a3,a4,a5,a6,a7⟩|⟨q,j,B',rfl,a1,a2,a3,a4,a5,a6,a7⟩|⟨z1,z2,z3,z4⟩
   ·rw[b2l h1] at hn ⊢;exact V.old i D h3 J hn
   ·exact absurd J (noOld a7)
   ·exact absurd J (noOld a7)
   ·rw[z2] at J;cases J
  ·
   have G: ∀{i:Nat} {D:Blk},fv (chB bl (C.ch x)) nx (C.nw x) i=some D->D.kd= .own->(β2 i).nil=false->(i<nx/\ ∃B,bl i=some B/\B.kd= .own/\(i∈(C.ch x).map (·.1)-> ∃j B',src[j]? =some (some i)/\bl' j=some B'/\B'.kd= .own))\/ ∃q j B',i=nx+q/\nws[q]? =some (some j)/\Cs.length<=j/\bl' j=some B'/\B'.kd= .own/\((Cs.all λC=> !C.kd.map)=true\/1<=B'.n/\1<=B'.sz):=by
    intro i D hD J hnl;rcases F hD with ⟨h1,h2,h3⟩|⟨h1,j,Cj,B,B',a1,a2,a3,a4,a5,a6,a7⟩|⟨q,j,B',rfl,a1,a2,a3,a4,a5,a6,a7⟩|⟨z1,z2,z3,z4⟩
    ·exact .inl ⟨h1,D,h3,J,λhm=>absurd hm h2⟩
    ·have d1:=(hDk a7 (by rw[J];simp)).1;have d2:=hkd a1 a6 (by rw[<-d1,J];simp);exact .inl ⟨h1,B,a4,by rw[hSB a5 a2,<-d2,<-d1];exact J,λ_=>⟨j,B',a3,a6,by rw[<-d1];exact J⟩⟩
    ·obtain⟨d1,d2,_,d4⟩:=hDk a7 a5;exact .inr ⟨q,j,B',rfl,a2,a3,a4,by rw[<-d1];exact J,(a6 J).imp id λ⟨t1,t2⟩=>⟨by omega,by omega⟩⟩
    ·rw[z1] at hnl;cases hnl
   have cross: ∀{i q j:Nat} {B B':Blk},i<nx->bl i=some B->B.kd= .own->(i∈(C.ch x).map (·.1)-> ∃j B',src[j]? =some (some i)/\bl' j=some B'/\B'.kd= .own)->nws[q]? =some (some j)->Cs.length<=j->bl' j=some B'->B'.kd= .own->((Cs.all λC=> !C.kd.map)=true\/1<=B'.n/\1<=B'.sz)->(β2 i).nil=false->(β2 (nx+q)).nil=false->(β2 i).blk≠(β2 (nx+q)).blk:=by
    intro i q j B B' h1 h2 h3 h4 h5 h6 h7 h8 h9 hn1 hn2 Z;rw[b2l h1] at hn1 Z;rw[b2n h5] at hn2 Z;rcases Y.own j B' h7 h8 hn2 with hm|hm
    ·have hm':w.heap.size<=(β' j).blk:=hm;have:=(V.blk i B h2 (by rw[h3];simp)).lt hn1;omega
    ·obtain⟨j',C',i',g1,g2,g3,g4,g5⟩:=Wc.1 hm;obtain⟨C2,B2,c1,q2,q3⟩:=hcall g2;rw[g1] at c1;simp only[za1] at c1;subst c1;have hBk:=hSB q3 g3;have hik:i'∈(C.ch x).map (·.1):=ch2 j' C' i' g1 g3 g2;cases hck:C'.kd with
     |own=>
      have:=V.inj i i' B B2 h2 q2 h3 (by rw[hBk,hck]) hn1 g4 (Z.trans g5.symm);subst this;obtain⟨j2,B3,e1,e2,e3⟩:=h4 hik;have:=hsnd _ _ _ _ e1 g2 g1 g3;subst this;have:=Y.inj j2 j B3 B' e2 h7 e3 h8 (by rw[hbs e1];exact hn1) hn2 (by rw[hbs e1];exact Z);have:j2<Cs.length:=by
       rcases zah j2 Cs.length with h|h
       ·exact h
       ·rw[zad h] at g1;cases g1
      omega
     |old=>rw[hck] at g3;cases g3
     |gone=>rw[hck] at g3;cases g3
     |_=>
      obtain⟨B3,t1,t2⟩:=mapKept g1 g2 (by rw[hck];rfl);have hes:=λj=>(Y.maps.ok j' B3 t1 t2).2.2.2.cellN t2 j;rw[hbs g2,g5] at hes;rcases h9 with h9|⟨h9,h10⟩
      ·have:=zaf.1 h9 C' (zal g1);rw[hck] at this;exact absurd this (by simp[BK.map])
      ·exact qW (Y.blk j B' h7 (by rw[h8];simp)) hes h9 h10
   intro i i' D D' hD hD' hk1 hk2 hn1 hn2 Z;rcases G hD hk1 hn1 with ⟨h1,B,h2,h3,h4⟩|⟨q,j,B',rfl,a1,a2,a3,a4,a5⟩<;>rcases G hD' hk2 hn2 with ⟨g1,B2,g2,g3,g4⟩|⟨q',j',B2',rfl,c1,c2,c3,c4,c5⟩
   ·rw[b2l h1] at hn1 Z;rw[b2l g1] at hn2 Z;exact V.inj i i' B B2 h2 g2 h3 g3 hn1 hn2 Z
   ·exact absurd Z (cross h1 h2 h3 h4 c1 c2 c3 c4 c5 hn1 hn2)
   ·exact absurd Z.symm (cross g1 g2 g3 g4 a1 a2 a3 a4 a5 hn2 hn1)
   ·rw[b2n a1] at hn1 Z;rw[b2n c1] at hn2 Z;have:=Y.inj j j' B' B2' a3 c3 a4 c4 hn1 hn2 Z;subst this;rw[yx hnd a1 c1]
  ·intro i D e' o s hD hg he' hs';rcases F hD with ⟨h1,h2,h3⟩|⟨h1,j,Cj,B,B',a1,a2,a3,a4,a5,a6,a7⟩|⟨q,j,B',rfl,a1,a2,a3,a4,a5,a6,a7⟩|⟨z1,z2,z3,z4⟩
   ·exact(hcong s (V.live i D e' o s h3 hg he' hs')).1
   ·cases J:D.kd with
    |own=>obtain⟨s0,_,h0⟩:=(mX (content a7 J e' he')).2.2 o s hs';exact hliveG h0
    |gone=>exact absurd J hg
    |old=>exact absurd J (noOld a7)
    |_=>
     obtain⟨d1,_,_,d4⟩:=hDk a7 hg;have:=(Y.maps.ok j B' a6 (by rw[<-d1,J];rfl)).1;omega
   ·cases J:D.kd with
    |own=>obtain⟨s0,_,h0⟩:=(mX (content a7 J e' he')).2.2 o s hs';exact hliveG h0
    |gone=>exact absurd J hg
    |old=>exact absurd J (noOld a7)
    |_=>
     obtain⟨d1,_,_,d4⟩:=hDk a7 hg;have:=(Y.maps.ok j B' a4 (by rw[<-d1,J];rfl)).1;omega
   ·omega
  ·intro i D hD hm;have hg:D.kd≠ .gone:=λe=>by rw[e] at hm;cases hm
   have mapD: ∀{j:Nat} {B':Blk},bl' j=some B'->β2 i=β' j->kx (rnG src nws nx) B' D->D.n=0/\(β2 i).nil=false/\(fS w β src Cs).mine (β2 i).blk/\MapOK β2 (β2 i).blk w' D.kd D.get:=by
    intro j B' e1 e2 e3;obtain⟨d1,_,_,d4⟩:=hDk e3 hg;obtain⟨m1,m2,m3,m4⟩:=Y.maps.ok j B' e1 (by rw[<-d1];exact hm);rw[e2];refine⟨by omega,m2,m3, ?_⟩;rw[<-d1] at m4;exact MapOK.rn (show MapOK β' (β' j).blk w' D.kd B'.get from m4) rfl (λhk e=>Cn hag2 (contL e3 hk e)) (λhk e=>(contI e3 hk e).symm) (λhk e=>(contB e3 hk e).symm) (noIts e3)
   rcases F hD with ⟨h1,h2,h3⟩|⟨h1,j,Cj,B,B',a1,a2,a3,a4,a5,a6,a7⟩|⟨q,j,B',rfl,a1,a2,a3,a4,a5,a6,a7⟩|⟨z1,z2,z3,z4⟩
   ·obtain⟨m1,m2,m3,m4⟩:=V.maps.ok i D h3 hm;rw[b2l h1];exact⟨m1,m2,m3,m4.to (unch h2 h3 hg m2 (.inl hm)) (GetEq.refl _ _) (λhi=>by rw[hit0 i D h3] at hi;cases hi) λhk e s hs=>(hcong s (V.maps.live i D e s h3 hk hs)).2⟩
   ·obtain⟨m1,m2,m3,m4⟩:=mapD a6 ((b2l h1).trans (hbs a3).symm) a7;exact⟨m1,m2,mineN m3,m4⟩
   ·obtain⟨m1,m2,m3,m4⟩:=mapD a4 (b2n a2) a7;exact⟨m1,m2,mineN m3,m4⟩
   ·rw[z2] at hm;cases hm
  ·have G: ∀{i:Nat} {D:Blk},fv (chB bl (C.ch x)) nx (C.nw x) i=some D->D.kd.map=true->(i<nx/\ ∃B,bl i=some B/\B.kd.map=true/\(i∈(C.ch x).map (·.1)-> ∃j B',src[j]? =some (some i)/\bl' j=some B'/\B'.kd.map=true))\/ ∃q j B',i=nx+q/\nws[q]? =some (some j)/\Cs.length<=j/\bl' j=some B'/\B'.kd.map=true:=by
    intro i D hD hm;have hg:D.kd≠ .gone:=λe=>by rw[e] at hm;cases hm
    rcases F hD with ⟨h1,h2,h3⟩|⟨h1,j,Cj,B,B',a1,a2,a3,a4,a5,a6,a7⟩|⟨q,j,B',rfl,a1,a2,a3,a4,a5,a6,a7⟩|⟨z1,z2,z3,z4⟩
    ·exact .inl ⟨h1,D,h3,hm,λhm=>absurd hm h2⟩
    ·have d1:=(hDk a7 hg).1;have d2:=hkd a1 a6 (by rw[<-d1];exact hg);exact .inl ⟨h1,B,a4,by rw[hSB a5 a2,<-d2,<-d1];exact hm,λ_=>⟨j,B',a3,a6,by rw[<-d1];exact hm⟩⟩
    ·exact .inr ⟨q,j,B',rfl,a2,a3,a4,by rw[<-(hDk a7 hg).1];exact hm⟩
    ·rw[z2] at hm;cases hm
   have cross: ∀{i q j:Nat} {B B':Blk},i<nx->bl i=some B->B.kd.map=true->(i∈(C.ch x).map (·.1)-> ∃j B',src[j]? =some (some i)/\bl' j=some B'/\B'.kd.map=true)->nws[q]? =some (some j)->Cs.length<=j->bl' j=some B'->B'.kd.map=true->(β2 i).blk≠(β2 (nx+q)).blk:=by
    intro i q j B B' h1 h2 h3 h4 h5 h6 h7 h8 Z;rw[b2l h1,b2n h5] at Z;have hmi:=V.maps.ok i B h2 h3;rcases(Y.maps.ok j B' h7 h8).2.2.1 with hm|hm
    ·have hm':w.heap.size<=(β' j).blk:=hm;have:=(V.blk i B h2 (by intro e;rw[e] at h3;cases h3)).lt hmi.2.1;omega
    ·obtain⟨j',C',i',g1,g2,g3,g4,g5⟩:=Wc.1 hm;obtain⟨C2,B2,c1,q2,q3⟩:=hcall g2;rw[g1] at c1;simp only[za1] at c1;subst c1;have hBk:=hSB q3 g3;have hik:i'∈(C.ch x).map (·.1):=ch2 j' C' i' g1 g3 g2;obtain⟨e1,_,q4⟩:=q3;cases hck:C'.kd with
     |own=>
      simp only[hck] at q4;have hes:=λj=>hmi.2.2.2.cellN h3 j;rw[Z,<-g5] at hes;exact qW (V.blk i' B2 q2 (by rw[q4.1];simp)) hes (by omega) (by omega)
     |old=>rw[hck] at g3;cases g3
     |gone=>rw[hck] at g3;cases g3
     |_=>
      have:=V.maps.inj i i' B B2 h2 q2 h3 (by rw[hBk,hck];rfl) (Z.trans g5.symm);subst this;obtain⟨j2,B3,e1,e2,e3⟩:=h4 hik;have:=hsnd _ _ _ _ e1 g2 g1 g3;subst this;have:=Y.maps.inj j2 j B3 B' e2 h7 e3 h8 (by rw[hbs e1];exact Z);have:j2<Cs.length:=by
       rcases zah j2 Cs.length with h|h
       ·exact h
       ·rw[zad h] at g1;cases g1
      omega
   intro i i' D D' hD hD' hk1 hk2 Z;rcases G hD hk1 with ⟨h1,B,h2,h3,h4⟩|⟨q,j,B',rfl,a1,a2,a3,a4⟩<;>rcases G hD' hk2 with ⟨g1,B2,g2,g3,g4⟩|⟨q',j',B2',rfl,c1,c2,c3,c4⟩
   ·rw[b2l h1,b2l g1] at Z;exact V.maps.inj i i' B B2 h2 g2 h3 g3 Z
   ·exact absurd Z (cross h1 h2 h3 h4 c1 c2 c3 c4)
   ·exact absurd Z.symm (cross g1 g2 g3 g4 a1 a2 a3 a4)
   ·rw[b2n a1,b2n c1] at Z;have:=Y.maps.inj j j' B' B2' a3 c3 a4 c4 Z;subst this;rw[yx hnd a1 c1]
  ·intro i D e s hD J hs;rcases F hD with ⟨h1,h2,h3⟩|⟨h1,j,Cj,B,B',a1,a2,a3,a4,a5,a6,a7⟩|⟨q,j,B',rfl,a1,a2,a3,a4,a5,a6,a7⟩|⟨z1,z2,z3,z4⟩
   ·exact(hcong s (V.maps.live i D e s h3 J hs)).1
   ·obtain⟨o,ho⟩:=zby hs;obtain⟨s0,_,h0⟩:=(mX (contL a7 (lstL a7 J) e)).2.2 o s ho;exact hliveG h0
   ·obtain⟨o,ho⟩:=zby hs;obtain⟨s0,_,h0⟩:=(mX (contL a7 (lstL a7 J) e)).2.2 o s ho;exact hliveG h0
   ·rw[z2] at J;cases J
  ·intro i D hD J;rcases F hD with ⟨h1,h2,h3⟩|⟨h1,j,Cj,B,B',a1,a2,a3,a4,a5,a6,a7⟩|⟨q,j,B',rfl,a1,a2,a3,a4,a5,a6,a7⟩|⟨z1,z2,z3,z4⟩
   ·rw[hit0 i D h3] at J;cases J
   ·rw[noIts a7] at J;cases J
   ·rw[noIts a7] at J;cases J
   ·rw[z2] at J;cases J
 ·cases hp:C.pan x with
  |none=>
   rw[hp] at hr;obtain⟨s,rfl,hs⟩:=hr;show sg _ (C.res x);simp only[RC.res,hp];intro i hi;have hd:=GH hs i hi;simp only[dt] at hd;cases hle':Nat.ble nx i with
   |true=>
    rw[hle',zdu] at hd;have:=zak hle';obtain⟨q,rfl⟩: ∃q,i=nx+q:=⟨i - nx,by omega⟩;rw[zbb] at hd;have hlt:q<(C.nw x).length:=by
     rw[<-nl];rcases zah q nws.length with h|h
     ·exact h
     ·rw[zad h] at hd;exact absurd rfl hd
    have:fv (chB bl (C.ch x)) nx (C.nw x) (nx+q)=(C.nw x)[q]? :=by simp only[fv,aB,zdv (by omega: ¬nx+q<nx),zdt,zbb]
    rw[this,zaa hlt];simp
   |false=>
    rw[hle',zdt] at hd;split at hd
    ·rename_i k hk;obtain⟨m,e,hm⟩:=gP hk;obtain⟨_,B,_,h2,_⟩:=hcall hm;exact hdom (by rw[h2];simp)
    ·exact absurd rfl hd
  |some v=>
   show sg _ (C.res x);simp only[RC.res,hp];trivial
end
structure El (α:Type) where
 sz:Nat
 sv:α->List SV
 of:List SV->α
 d:α
 rt: ∀x,of (sv x)=x
 ids: ∀x,SV.idss (sv x)= []
 len: ∀x,(sv x).length=sz
 one:1<=sz
def mb {α:Type} (d:α):List α->Nat->α
 | [],_=>d
 |x::_,0=>x
 |_::r,i+1=>mb d r i
def tab {α:Type} (f:Nat->α):Nat->List α
 |0=> []
 |n+1=>tab f n++ [f n]
section
variable {α:Type} (E:El α)
def El.nth (l:List α) (e:Nat):α:=mb E.d l e
def El.get (l:List α) (e:Nat):zdN:=E.sv (E.nth l e)
def El.old (l:List α):Blk:={n:=l.length,sz:=E.sz,get:=E.get l,kd:= .old,nn:=false}
def El.own (l:List α):Blk:={n:=l.length,sz:=E.sz,get:=E.get l,kd:= .own,nn:=false}
def El.list (n:Nat) (g:zdQ):List α:=tab (λe=>E.of (g e)) n
open Classical in
def El.good (p:α->Bool) (n:Nat) (g:zdQ):Bool:=decide (∀e,e<n->g e=E.sv (E.of (g e))/\p (E.of (g e))=true)
end
section
variable {α:Type} {E:El α}
theorem fJ (f:Nat->α): ∀n,(tab f n).length=n
 |0=>rfl
 |n+1=>by simp[tab,fJ f n]
theorem qX (f:Nat->α): ∀{n e:Nat},e<n->(tab f n)[e]? =some (f e)
 |n+1,e,h=>by
  rw[tab];by_cases J:e<n
  ·rw[zbB (by rw[fJ];exact J)];exact qX f J
  ·obtain rfl:e=n:=by omega
   rw[zbY (by rw[fJ];exact za0 _),fJ];simp
theorem bR {d:α}: ∀{l:List α} {e:Nat} {x:α},l[e]? =some x->mb d l e=x
 | [],e,x,h=>by simp at h
 |y::r,0,x,h=>by simpa [mb] using h
 |y::r,e+1,x,h=>bR (l:=r) (by simpa using h)
variable {e:Nat}
theorem bw {d:α} {l:List α} (h:e<l.length):mb d l e∈l:=by
 rw[bR (zaa h)];exact zas h
theorem Co {d:α} {l:List α} (h:e<l.length):l[e]? =some (mb d l e):=by
 rw[bR (zaa h),zaa h]
variable {n:Nat} {g:zdQ}
theorem El.list_length:(E.list n g).length=n:=fJ _ _
theorem El.nth_list (h:e<n):E.nth (E.list n g) e=E.of (g e):=bR (qX _ h)
theorem vx {f f':Nat->α}: ∀{n:Nat},(∀e,e<n->f e=f' e)->tab f n=tab f' n
 |0,_=>rfl
 |n+1,h=>by rw[tab,tab,vx λe J=>h e (by omega),h n (by omega)]
theorem GK {d:α} {l:List α}:tab (mb d l) l.length=l:=by
 apply List.ext_getElem?;intro e;by_cases h:e<l.length
 ·rw[qX _ h,Co h]
 ·rw[zad (by rw[fJ];omega),zad (by omega)]
theorem El.list_get {l:List α}:E.list l.length (E.get l)=l:=by
 unfold El.list El.get;show tab (λe=>E.of (E.sv (E.nth l e))) l.length=l;rw[vx (f:=λe=>E.of (E.sv (E.nth l e))) (f':=mb E.d l) (λe _=>E.rt (E.nth l e)),GK]
theorem El.good_iff {p:α->Bool} :E.good p n g=true↔ ∀e,e<n->g e=E.sv (E.of (g e))/\p (E.of (g e))=true:=by simp[El.good]
theorem El.good_get {p:α->Bool} {l:List α} (h: ∀x∈l,p x=true):E.good p l.length (E.get l)=true:=E.good_iff.2 λe J=>by
 unfold El.get;rw[E.rt];exact⟨rfl,h _ (bw J)⟩
theorem El.good_list {p:α->Bool} (h:E.good p n g=true): ∀x∈E.list n g,p x=true:=λx Y=>by
 obtain⟨e,J⟩:=zby Y;have V:e<n:=by
  rcases zah e n with h|h
  ·exact h
  ·rw[zad (by rw[El.list_length];exact h)] at J;cases J
 rw[El.list,qX _ V] at J;simp only[za1] at J;subst J;exact(E.good_iff.1 h e V).2
mutual
theorem Cp {f:Nat->Option (Option Nat)}: ∀{s:SV},s.ids= []->s.rn f=some s
 | .val v,_=>rfl
 | .ptr _ _ _,h=>by simp[SV.ids] at h
 | .mp _,h=>by simp[SV.ids] at h
 | .slc _ _ _,h=>by simp[SV.ids] at h
 | .agg cs,h=>by simp only[SV.rn];rw[rns_free (by simpa [SV.ids] using h)]
 | .tup cs,h=>by simp only[SV.rn];rw[rns_free (by simpa [SV.ids] using h)]
 | .fn g a c,h=>by
   simp only[SV.ids,zd7] at h;simp only[SV.rn];rw[rns_free h.1,rns_free h.2]
theorem rns_free {f:Nat->Option (Option Nat)}: ∀{l:List SV},SV.idss l= []->SV.rns f l=some l
 | [],_=>rfl
 |x::xs,h=>by
  simp only[SV.idss,zd7] at h;simp only[SV.rns];rw[Cp h.1,rns_free h.2]
end
def vW (bl:zdP) (sz:Nat):SV->Option (Bool×Option Nat×Nat×(zdQ))
 | .val (.slice none 0 0)=>some (true,none,0,λ_=> [])
 | .slc i 0 n=>match bl i with
   |some B=>some (Nat.ble n B.n&&Nat.beq B.sz sz&&pa B.kd,some i,n,B.get)
   |none=>none
 |_=>none
def j5 (bl:zdP) (f:ze1) (C:Blk):Option Nat->Prop
 |none=>C.kd= .old/\C.n=0/\C.nn=false
 |some i=>match bl i with
  |some B=>wB f C B
  |none=>False
variable {bl:zdP} {f:ze1} {o:Option Nat}
theorem aw {os:zdW} {C:Blk} {Cs:zdX} (h:j5 bl f C o) (k:yw bl f os Cs):yw bl f (o::os) (C::Cs):=⟨by cases o<;>exact h,k⟩
theorem cq {s:SV} {n:Nat} {g:zdQ} {p:α->Bool} (h:vW bl E.sz s=some (true,o,n,g)) (hg:E.good p n g=true):
 j5 bl f (E.old (E.list n g)) o/\ ∀j,f j=some o->(SV.slc j 0 (E.list n g).length).rn f=some s:=by
 unfold vW at h;split at h
 ·simp only[za1,zag] at h;obtain⟨_,rfl,rfl,rfl⟩:=h;exact⟨⟨rfl,rfl,rfl⟩,λj J=>by simp only[SV.rn,J];rfl⟩
 ·rename_i i m;cases hB:bl i with
  |some B=>
   rw[hB] at h;simp only[za1,zag,za2] at h;obtain⟨⟨⟨h1,h2⟩,h3⟩,rfl,rfl,rfl⟩:=h;refine⟨?_,λj J=>by simp only[SV.rn,J];rw[El.list_length]⟩;simp only[j5,hB];refine⟨(zab h2).symm,λh=>(by cases h), ?_⟩;show B.kd≠ .gone/\B.kd.map=false/\(E.list m B.get).length<=B.n/\ ∀e,e<(E.list m B.get).length->SV.rns f (E.get (E.list m B.get) e)=some (B.get e);rw[El.list_length];refine⟨λe=>(by rw[e] at h3;cases h3),(by cases Y:B.kd<;>rw[Y] at h3<;>first|rfl|cases h3),zak h1,λe V=> ?_⟩;unfold El.get;rw[El.nth_list V,rns_free (E.ids _),<-(E.good_iff.1 hg e V).1]
  |none=>rw[hB] at h;cases h
 ·cases h
theorem gC {g:ze1} {B:Blk} {l:List α} (Y:B.kd= .own) (hs:B.sz=E.sz) (Z:l.length<=B.n) (J: ∀e,e<l.length->B.get e=E.get l e):kx g B (E.own l):=
 .inr ⟨Y.symm,hs.symm,λh=>(by cases h),Z,λe V=>(by rw[J e V];exact rns_free (E.ids _))⟩
end
end Go.Sy
namespace Go.Proofs.YtldflkomhbfceaaGreatDoor
open Go.Proofs.Tryz
open Go Go.RowKit Go.Sy
theorem NJ (J:Value) (w:World):(Instr.typeAssert (.iface 47 J) 20 47 true).run prog w= .ok (.tuple #[J, .bool true]) w:=by kernel_rfl
theorem Py (w:World):(Instr.typeAssert .nilIface 20 47 true).run prog w= .ok (.tuple #[.int .i64 0, .bool false]) w:=by kernel_rfl
theorem sV (p:Addr) (x:Value) (pv:Value) (older:List PanicEntry) (w:World) (hc:w.cell? p=some x) (hz:w.frozen? p=false):
 CallsD prog 26 #[.pointer (some p)] (.panicking ({v:= .iface 47 pv,recovered:=false}::older)) w λe u' w'=>
  e= .returned (.tuple #[])/\u'= .panicking ({v:= .iface 47 pv,recovered:=true}::older)/\w'=w.setCell p (.int .i64 90):=by
 refine callsD_of_wpS func26 rfl λc₀ cs hu=> ?_;apply wpS_seq;apply wpS_region;simp[wpOpsS,go_sem,recoverD,hu,ntmps26,Exit.thenS];apply wpS_seq;apply wpS_region;simp[wpOpsS,go_sem,Exit.thenS,NJ];apply wpS_seq;apply wpS_region;simp[wpOpsS,go_sem,Exit.thenS];refine wpS_cond (t:=true) (by simp[Act.eval]) ?_;simp only[if_true];apply wpS_region;simp[wpOpsS,go_sem,hc,hz,bodyPostS,results,results26]
theorem Eb (p:Addr) (w:World):
 CallsD prog 26 #[.pointer (some p)] .returning w λe u' w'=>e= .returned (.tuple #[])/\u'= .returning/\w'=w:=by
 refine callsD_of_wpS func26 rfl λc₀ cs hu=> ?_;apply wpS_seq;apply wpS_region;simp[wpOpsS,go_sem,recoverD,hu,ntmps26,Exit.thenS];apply wpS_seq;apply wpS_region;simp[wpOpsS,go_sem,Exit.thenS,Py];apply wpS_seq;apply wpS_region;simp[wpOpsS,go_sem,Exit.thenS];refine wpS_cond (t:=false) (by simp[Act.eval]) ?_;simp only[zbo,if_false];apply wpS_seq;apply wpS_region;simp[wpOpsS,go_sem,Exit.thenS];refine wpS_cond (t:=false) (by simp[Act.eval]) ?_;simp only[zbo,if_false];refine wpS_of_wp (wp_skip ?_);cases c₀
 simp_all [bodyPostS,results,results26]
def GM:DCtr:=λm bl args=>match args with
 | [.ptr id 0 0]=>match bl id with
   |some B=>match m with
    |none=>some (true,none, [])
    |some (.iface t _)=>some (Nat.beq t 47&&(Nat.beq B.n 1&&(Nat.beq B.sz 1&&(match B.kd with
     | .own=>true
     |_=>false))),none, [(id,B.put 0 0 [.val (.int .i64 90)])])
    |_=>none
   |none=>none
 |_=>none
theorem GN (B:Base):Wz prog B 26 GM:=by
 intro m bl β w args m' ch V hlv J hch;refine⟨call26, ?_⟩;unfold GM at J;split at J
 ·rename_i id;split at J
  ·rename_i C hC;split at J
   ·simp only[za1,zag,true_and] at J;obtain⟨rfl,rfl⟩:=J;refine(Eb (addr β id 0 0) w).mono ?_;rintro e u' w' ⟨rfl,rfl,rfl⟩;exact⟨⟨_,rfl⟩,rfl,V⟩
   ·rename_i t pv;simp only[za1,zag,za2] at J;obtain⟨⟨h1,h2,h3,h4⟩,rfl,rfl⟩:=J;have h1:=zab h1;have h2:=zab h2;have h3:=zab h3;have h4:C.kd= .own:=by revert h4;cases C.kd<;>simp
    subst h1;have q:=V.blk id C hC (by rw[h4];simp);have hnl:=q.not_nil (e:=0) (by omega);have Y:0<(β id).cap*C.sz:=Nat.mul_pos (by have:=q.le;omega) (by omega);obtain⟨x,hx⟩:=Option.isSome_iff_exists.1 (q.ex 0 Y);have hz:=q.fr h4 0 Y;have Z:addr β id 0 0=⟨(β id).blk,(β id).off+0,none⟩:=by simp[addr]
    refine(sV (addr β id 0 0) x pv [] w (by rw[Z];exact hx) (by rw[Z];exact hz)).mono ?_;rintro e u' w' ⟨rfl,rfl,rfl⟩;refine⟨⟨_,rfl⟩,rfl, ?_⟩;have:=V.write hC h4 (e:=0) (o:=0) (cs:= [.val (.int .i64 90)]) (by omega) (by simp;omega) (by simp[Live,SV.ids]);rw[chB,chB];have ew:w.setCells (β id).blk ((β id).off+0*(β id).sz+0) (SV.concs β [.val (.int .i64 90)])=w.setCell (addr β id 0 0) (.int .i64 90):=by
     simp[addr,SV.concs,SV.conc,World.setCells]
    rw[ew] at this;exact this
   ·cases J
  ·cases J
 ·cases J
end Go.Proofs.YtldflkomhbfceaaGreatDoor
namespace Go.Proofs.YtldflkomhbfceaaGreatDoor
open Go Go.RowKit Go.Sy Yk
def qH:List (FuncId×Ctr):= [
 (51,k2 cR cR (cP cR cI) (λa b=>uzR a&&uzR b) fZ),
 (52,k2 cR cR (cP cR cI) (λa b=>uzR a&&uzR b) iF),
 (53,k2 cR cR (cP cR cI) (λa b=>uzR a&&uzR b) ale),
 (54,k2 cR cR (cP cR cI) (λa b=>uzR a&&uzR b) cA),
 (81,k2 cR cR cI (λa b=>uzR a&&uzR b) b9),
 (49,k1 cR cB uzR rV),
 (127,k1 cR cS uzR gk),
 (255,k1 cS (cP cR cI) (λs=>decide (s.size<=100000)) DR),
 (80,k2 cR cR (cP cR cI) (λa b=>uzR a&&uzR b) fZ),
 (77,k2 cR cR (cP cR cI) (λa b=>uzR a&&uzR b) iF),
 (79,k2 cR cR (cP cR cI) (λa b=>uzR a&&uzR b) ale),
 (202,k2 cR cR (cP cR cI) (λa b=>uzR a&&uzR b) cA),
 (145,k2 cR cR cI (λa b=>uzR a&&uzR b) b9),
 (148,k1 cR cB uzR rV),
 (72,k2 cI cI (cP cR cI) (λa b=>cl a&&cl b) rMk)]
def NK:List FuncId:= [45,47,44,165,167,108,46,40,109,13,106,107,166,105,103,104,164,233,38,234,277,276,231,232
 ,126
 ,128
 ,62
 ,256
 ,193
 ]
abbrev ig (g:List (FuncId×Ctr)) (ann:zdY) (n:Nat) (f:FuncId) (args:zdN) (K:zdU):Prop:=wq Tryz.prog (iR NK) (gw g) (gx []) ann n f args (λ_=>none) 0 [] (okK λr _ _ _=>K r)
end Go.Proofs.YtldflkomhbfceaaGreatDoor
namespace Go.RowKit
theorem Below.drewN {B:Nat} {a w:World} (h:Below B a w) (n:Nat):Below B a (w.drewN n):=⟨h.os,h.tape,h.output,h.size,h.block⟩
end Go.RowKit
namespace Yk
open Go Go.RowKit
theorem yy {a b c d:Value} (h:a=b) (k:c=d):Ending.returned (.tuple #[a,c])= .returned (.tuple #[b,d]):=by rw[h,k]
theorem Cq {p q:Prop} [Decidable p] [Decidable q] (h:p↔q):Value.bool (decide p)= .bool (decide q):=by rw[decide_eq_decide.2 h]
theorem ret_bool {a b:Bool} (h:a=b):Ending.returned (.bool a)= .returned (.bool b):=by rw[h]
theorem cc {a b:Int} (h:a=b):Ending.returned (.int .i64 a)= .returned (.int .i64 b):=by rw[h]
def OwnL {α:Type} (enc:α->Value) (e:TypeId) (w:World) (B:Nat) (v:Value) (l:List α):Prop:=
 w.ownsRow B e 1 v l.length (l.map enc)
def Rd {α:Type} (enc:α->Value) (w:World) (v:Value) (l:List α):Prop:=
 (v= .slice none 0 0/\l= [])\/
 ∃b off cap,v= .slice (some ⟨b,off,none⟩) l.length cap/\b<w.heap.size/\l.length<=cap/\cap<=9223372036854775807/\
  ∀i x,l[i]? =some x->w.cell? ⟨b,off+i,none⟩=some (enc x)
section
variable {α:Type} {enc:α->Value} {e:TypeId} {w:World} {B:Nat} {v:Value} {l:List α}
theorem OwnL.nil (w:World) (B:Nat):OwnL enc e w B (.slice none 0 0) []:=World.ownsRow_nil w B e 1
theorem OwnL.alloc (h:OwnL enc e w B v l) (o:Obj):OwnL enc e (w.alloc o) B v l:=World.ownsRow.alloc h o
theorem OwnL.drew (h:OwnL enc e w B v l):OwnL enc e w.drew B v l:=h
theorem OwnL.rd (h:OwnL enc e w B v l):Rd enc w v l:=by
 obtain⟨h1,h2⟩:=h;rcases h2 with ⟨rfl,h3⟩|⟨g,cap,J,rfl,Y,hg,h4,h5,h6,h7⟩
 ·exact .inl ⟨rfl,zau h3⟩
 ·refine .inr ⟨g,0,cap,rfl,(zaq.1 hg).1,h4,by simpa [maxLen] using h5,λi x V=> ?_⟩;rw[za7,cell_of_row w g i J e (0,0) hg];have:(l.map enc)[i]? =some (enc x):=by rw[zaL,V];rfl
  rw[<-h7,zdb] at this;split at this
  ·simpa using this
  ·cases this
theorem Rd.open' (h:Rd enc w v l): ∃a cap,v= .slice a l.length cap/\l.length<=cap/\cap<=9223372036854775807/\
 ∀(i:Nat) (hi:i<l.length),∃b off,a=some ⟨b,off,none⟩/\b<w.heap.size/\w.cell? ⟨b,off+i,none⟩=some (enc l[i]):=by
 rcases h with ⟨rfl,rfl⟩|⟨b,off,cap,rfl,h1,h2,h3,h4⟩
 ·exact⟨none,0,rfl,za0 _,by decide,λi hi=>absurd hi (by simp)⟩
 ·exact⟨_,cap,rfl,h2,h3,λi hi=>⟨b,off,rfl,h1,h4 i _ (zaa hi)⟩⟩
variable {a:Option Addr} {n cap:Nat}
theorem Rd.addr (h:Rd enc w (.slice a n cap) l):(a=none->cap=0)/\(∀x,a=some x-> ∃b off,x=⟨b,off,none⟩/\b<w.heap.size):=by
 rcases h with ⟨h1,_⟩|⟨b,off,c,h1,h2,_⟩
 ·injection h1 with e1 Y V;subst e1;subst V;exact⟨λ_=>rfl,λx J=>by cases J⟩
 ·injection h1 with e1 Y V;subst e1;exact⟨λJ=>(by cases J),λx J=>by cases J;exact⟨b,off,rfl,h2⟩⟩
theorem Rd.take_of {k:Nat} (hk:k<=l.length) (hc:k<=cap) (Y:cap<=9223372036854775807)
 (J: ∀(i:Nat) (hi:i<l.length),∃b off,a=some ⟨b,off,none⟩/\b<w.heap.size/\w.cell? ⟨b,off+i,none⟩=some (enc l[i])) (hn:a=none->cap=0) (hs: ∀x,a=some x-> ∃b off,x=⟨b,off,none⟩/\b<w.heap.size):
 Rd enc w (.slice a k cap) (l.take k):=by
 cases a with
 |none=>
  obtain rfl:=hn rfl;obtain rfl:k=0:=by omega
  exact .inl ⟨rfl,by simp⟩
 |some x=>
  obtain⟨b,off,rfl,hb⟩:=hs x rfl;refine .inr ⟨b,off,cap,by rw[zaE,zbP hk],hb,by rw[zaE];omega,Y,λi y V=> ?_⟩;have hi:i<l.length:=by
   have:=(zaV.1 V).1;rw[zaE] at this;omega
  obtain⟨b',Z,h1,h2,h3⟩:=J i hi;injection h1 with h1;injection h1 with e1 e2;subst e1;subst e2
  rw[h3];rw[zdb] at V;split at V
  ·rw[zaa hi] at V;cases V;rfl
  ·cases V
variable {w':World}
theorem Rd.below (h:Rd enc w v l) (J:Below w.heap.size w w'):Rd enc w' v l:=by
 rcases h with h|⟨b,off,cap,rfl,h1,h2,h3,h4⟩
 ·exact .inl h
 ·exact .inr ⟨b,off,cap,rfl,zam h1 J.size,h2,h3,λi x V=>(J.cell (p:=⟨b,off+i,none⟩) h1).trans (h4 i x V)⟩
theorem OwnL.belowTo (h:OwnL enc e w B v l) (V:Below w.heap.size w w'):OwnL enc e w' B v l:=by
 obtain⟨h1,h2⟩:=h;refine⟨h1, ?_⟩;rcases h2 with h2|⟨g,cap,J,rfl,hB,hg,h4⟩
 ·exact .inl h2
 ·exact .inr ⟨g,cap,J,rfl,hB,(V.block g (zaq.1 hg).1).trans hg,h4⟩
theorem aP (w:World) (u:Value) (t:TypeId):(w.alloc (.cells #[u] t)).cell? ⟨w.heap.size,0,none⟩=some u:=by
 rw[cell_of_row _ w.heap.size 0 #[u] t (0,0) (heap_alloc_new w _)];rfl
def From (B:Nat) (v:Value):Prop:= ∀k,v.ownBlock=some k->B<=k
theorem From.mono {B B':Nat} {v:Value} (h:From B v) (hB:B'<=B):From B' v:=λk J=>zac hB (h k J)
theorem From.len {B:Nat} {c n' c':Nat} (h:From B (.slice a n c)):From B (.slice a n' c'):=by
 cases a with
 |none=>intro k J;cases J
 |some x=>intro k J;exact h k J
theorem From.nil (B:Nat):From B (.slice none 0 0):=λk J=>by cases J
theorem OwnL.from (h:OwnL enc e w B v l):From B v:=λk J=>(World.ownsRow.lt h k J).1
theorem Rd.setCell {a:Addr} {C:Nat} (h:Rd enc w v l) (J:From C v) (Y:a.block<C) (u:Value):Rd enc (w.setCell a u) v l:=by
 rcases h with h|⟨b,off,cap,rfl,h1,h2,h3,h4⟩
 ·exact .inl h
 ·have Z:=J b rfl;refine .inr ⟨b,off,cap,rfl,by simpa [World.setCell] using h1,h2,h3,λi x V=> ?_⟩;have:=World.cell?_of_block (w:=w) (w':=w.setCell a u) (a:=⟨b,off+i,none⟩) (Below.heap_setCell _ _ _ _ (by simp;omega));exact this.trans (h4 i x V)
theorem kZ {P:Program} {ops:zdS} {rest:List Oper} {o:Oper} {a:Act} {Q:zdZ} (hgd:o.guard=none) (s x:Operand) (t:TypeId)
 (ho:o.op= .call {callee:= .builtin .append,args:= #[s,x],argTypes:= #[t,t]})
 (z:Value) (bytes:Nat) (ht:P.underlying t=some (.slice e)) (Y:(P.info? e).map (λi=>(i.zero,i.size,i.bytes))=some (some z,1,bytes)) (hzs:z.cells.size=1)
 (h1: ∀x,(enc x).oneCell'=true) (hs:a.eval s=v) (J:OwnL enc e w B v l) (ad:Addr) (c:Nat) (u:Value) (hx:a.eval x= .slice (some ad) 1 c) (hc:w.cell? ad=some u) (y:α) (V:u=enc y)
 (Z:l.length+1<=1099511627776) (hby:bytes<=128) (hB:B<=w.heap.size)
 (h: ∀v' w',OwnL enc e w' B v' (l++ [y])->Below B w w'->wpList P ops Q rest (a.put o.dst v') w'):wpList P ops Q (o::rest) a w:=by
 subst V;obtain⟨i,hi,hz,hsz,hbt⟩:=info_parts Y;refine wpList_append_own w hgd s x t ho B e i z 1 bytes ht hi hz hsz hbt hzs (by decide) v l.length (l.map enc) hs J ad 1 c [enc y] hx rfl ?_ ?_ ?_ ?_ hB ?_
 ·intro j u V;cases j with
  |zero=>simp at V;subst V;simpa [Addr.add] using hc
  |succ j=>simp at V
 ·intro u V;simp at V;subst V;exact h1 _
 ·simp only[maxLen];omega
 ·have:=zb4 Z hby;omega
 ·intro v' w' k1 k2 _;refine h v' w' (by simpa [OwnL] using k1) ?_;exact(zdG B w).grown k2 hB (λk hk=>(World.ownsRow.lt J k hk).1)
end
abbrev am (x:Nat):Value:= .int .i64 (x:Int)
theorem int_eq {k:IntKind} {a b:Int} (h:a=b):Value.int k a= .int k b:=by rw[h]
theorem du (x:Nat):(am x).oneCell'=true:=rfl
section
variable {α:Type} {enc:α->Value} {e:TypeId} {w:World} {B g n cap:Nat} {l:List α}
theorem OwnL.row (h:OwnL enc e w B (.slice (some ⟨g,0,none⟩) n cap) l):n=l.length/\B<=g/\g<w.heap.size/\
 ∃J:Array Value,w.heap[g]? =some (.cells J e (0,0))/\l.length<=cap/\cap<=maxLen/\J.size=cap/\J.toList.take l.length=l.map enc:=by
 obtain⟨h1,h2⟩:=h;rcases h2 with ⟨h3,_⟩|⟨g',V,J,hv,hb,hg,h4,h5,h6,h7⟩
 ·cases h3
 ·injection hv with e1 Y Z
  injection e1 with e1;injection e1 with e1
  subst e1;subst Y;subst Z;exact⟨rfl,hb,(zaq.1 hg).1,J,hg,h4,h5,by simpa using h6,by simpa using h7⟩
theorem OwnL.cell (h:OwnL enc e w B (.slice (some ⟨g,0,none⟩) n cap) l) (j:Nat) (V:j<l.length):w.cell? ⟨g,j,none⟩=some (enc l[j]):=by
 obtain⟨_,_,_,J,hg,_,_,_,h7⟩:=h.row;rw[cell_of_row w g j J e (0,0) hg];have:(l.map enc)[j]? =some (enc l[j]):=by rw[zaL,zaa V];rfl
 rw[<-h7,zdb,if_pos V] at this;simpa using this
theorem OwnL.free (h:OwnL enc e w B (.slice (some ⟨g,0,none⟩) n cap) l) (j:Nat):w.frozen? ⟨g,j,none⟩=false:=by
 obtain⟨_,_,_,J,hg,_⟩:=h.row;exact frozen_of_row w g j J e hg
theorem OwnL.set (h:OwnL enc e w B (.slice (some ⟨g,0,none⟩) n cap) l) (j:Nat) (Z:j<l.length) (x:α) {u:Value} (Y:u=enc x):
 OwnL enc e (w.setCell ⟨g,j,none⟩ u) B (.slice (some ⟨g,0,none⟩) n cap) (l.set j x):=by
 subst Y;obtain⟨rfl,V,_,J,hg,h4,h5,h6,h7⟩:=h.row;refine⟨by simp, .inr ⟨g,cap,J.setIfInBounds j (enc x),by rw[zcj],V, ?_,by simpa using h4,h5,by simpa using h6, ?_⟩⟩
 ·simp[World.setCell,zdq,hg]
 ·rw[zcj,zbZ,List.map_set,<-h7];rw[Array.toList_setIfInBounds,List.take_set]
theorem OwnL.setOther {v:Value} (h:OwnL enc e w B v l) {a:Addr} (J:a.block<B) (u:Value):OwnL enc e (w.setCell a u) B v l:=
 ownsRow_setCell_below h J u
theorem iT (z:α) (n:Nat):(List.replicate n z).map enc=List.replicate n (enc z):=by simp
theorem aca {P:Program} {ops:zdS} {rest:List Oper} {o:Oper} {a:Act} {Q:zdZ} (Z:o.guard=none) (lo c:Operand) (t:TypeId) (hop:o.op=Op.makeSlice t lo c)
 (z:α) (bytes:Nat) (ht:P.underlying t=some (.slice e)) (J:(P.info? e).map (λi=>(i.zero,i.size,i.bytes))=some (some (enc z),1,bytes)) (hzs:(enc z).cells= #[enc z])
 (kl kc:IntKind) (L C:Int) (n:Nat) (hl:a.eval lo= .int kl L) (hc:a.eval c= .int kc C) (hL:L=(n:Int)) (hC:C=(n:Int)) (hn:n<=1099511627776) (Y:bytes<=128) (hB:B<=w.heap.size)
 (h: ∀w',OwnL enc e w' B (.slice (some ⟨w.heap.size,0,none⟩) n n) (List.replicate n z)->Below w.heap.size w w'->wpList P ops Q rest (a.put o.dst (.slice (some ⟨w.heap.size,0,none⟩) n n)) w'):
 wpList P ops Q (o::rest) a w:=by
 obtain⟨i,hi,hz,hsz,V⟩:=info_parts J;refine wpList_make_full w Z lo c t hop B e i (enc z) 1 ht hi hz hsz kl kc L C n hl hc hL hC (by rw[V];have:=zb4 Y hn;omega) (by simp only[maxLen];omega) hB ?_;intro w' k1 k2;refine h w' ?_ ((zdG _ w).grown k2 (za0 _) (λk hk=>by cases hk));have e1:(madeCells (enc z).cells (n*1)).toList=(List.replicate n z).map enc:=by
  rw[hzs,iT];apply zbu
  ·simp[madeCells]
  ·intro j h1 h2;simp[madeCells,zci]
 rw[e1] at k1;unfold OwnL;rw[zcx];exact k1
end
section
variable {α:Type} {enc:α->Value} {e:TypeId} {w:World} {B g n cap:Nat} {l:List α}
theorem OwnL.lit1 (w:World) (x:α) {u:Value} (J:u=enc x):OwnL enc e (w.alloc (.cells #[u] e)) w.heap.size (.slice (some ⟨w.heap.size,0,none⟩) 1 1) [x]:=by
 subst J;exact⟨rfl, .inr ⟨w.heap.size,1, #[enc x],rfl,za0 _,heap_alloc_new w _,za0 _,by simp[maxLen],rfl,rfl⟩⟩
theorem wF {P:Program} {ops:zdS} {rest:List Oper} {o:Oper} {a:Act} {Q:zdZ} {v v2:Value} {m:List α} (Z:o.guard=none) (s x:Operand) (t:TypeId)
 (ho:o.op= .call {callee:= .builtin .append,args:= #[s,x],argTypes:= #[t,t]})
 (z:Value) (bytes:Nat) (ht:P.underlying t=some (.slice e)) (hinf:(P.info? e).map (λi=>(i.zero,i.size,i.bytes))=some (some z,1,bytes)) (hzs:z.cells.size=1)
 (h1: ∀x,(enc x).oneCell'=true) (hs:a.eval s=v) (J:OwnL enc e w B v l) (hx:a.eval x=v2) (hr:Rd enc w v2 m)
 (hlen:l.length+m.length<=1099511627776) (hby:bytes<=128) (hB:B<=w.heap.size)
 (h: ∀v' w',OwnL enc e w' B v' (l++m)->Below B w w'->wpList P ops Q rest (a.put o.dst v') w'):wpList P ops Q (o::rest) a w:=by
 obtain⟨i,hi,hz,hsz,hbt⟩:=info_parts hinf;rcases hr with ⟨rfl,rfl⟩|⟨b,off,c,rfl,h3,h4,h5,h6⟩
 ·refine wpList_append_own_none Z s x t ho B e i 1 ht hi v l.length (l.map enc) hs J hx ?_;rw[zbf] at h;exact h v w J (zdG _ _)
 ·refine wpList_append_own w Z s x t ho B e i z 1 bytes ht hi hz hsz hbt hzs (by decide) v l.length (l.map enc) hs J ⟨b,off,none⟩ m.length c (m.map enc) hx (by simp) ?_ ?_ (by simp only[maxLen];omega) ?_ hB ?_
  ·intro j u V;rw[zaL] at V;cases hm:m[j]? with
   |none=>rw[hm] at V;cases V
   |some y=>
    rw[hm] at V;cases V;have Y:(⟨b,off,none⟩:Addr).add j=⟨b,off+j,none⟩:=by unfold Addr.add;split<;>simp_all
    rw[Y];exact h6 j y hm
  ·intro u V;obtain⟨y,_,rfl⟩:=zaz.1 V;exact h1 _
  ·have:=zb4 hlen hby;omega
  ·intro v' w' k1 k2 _;refine h v' w' (by simpa [OwnL] using k1) ?_;exact(zdG B w).grown k2 hB (λk hk=>(World.ownsRow.lt J k hk).1)
end
abbrev uw (c:UInt8):Value:= .int .u8 (c.toNat:Int)
theorem GO (c:UInt8):(uw c).oneCell'=true:=rfl
theorem Az (l:List UInt8): ∀(s:zdK),(l.map (λc=>(c.toNat:Int))).foldl (λr n=>r.push (UInt8.ofNat n.toNat)) s=⟨(s.data.toList++l).toArray⟩:=by
 induction l with
 |nil=>intro s;apply gT;simp
 |cons c t J=>
  intro s;rw[zaK,zbe,J];apply gT;simp[ByteArray.push]
theorem AA {P:Program} (w:World) (src dst e:TypeId) (hs:P.underlying src=some (.slice e)) (he:P.underlying e=some (.int .u8)) (Z:P.underlying dst=some .string)
 {v:Value} {l:List UInt8} (h:Rd uw w v l):(Go.convert src dst v).run P w= .ok (.string ⟨l.toArray⟩) w:=by
 rcases h with ⟨rfl,rfl⟩|⟨b,off,cap,rfl,h1,h2,h3,h4⟩
 ·rw[run_convert_bytes_string w src dst e none 0 0 hs he Z];rfl
 ·rw[run_convert_bytes_string w src dst e _ _ _ hs he Z,run_bytesToString w ⟨b,off,none⟩ l.length cap (l.map (λc=>(c.toNat:Int))) ?_,Az]
  ·rfl
  ·have:=run_loadCells_list (P:=P) (w:=w) ⟨b,off,none⟩ (l.map uw) (by
    intro j u V;rw[zaL] at V;cases Y:l[j]? with
    |none=>rw[Y] at V;cases V
    |some y=>
     rw[Y] at V;cases V;have J:(⟨b,off,none⟩:Addr).add j=⟨b,off+j,none⟩:=by unfold Addr.add;split<;>simp_all
     rw[J];exact h4 j y Y)
   rw[zaB] at this;rw[this,zcu];rfl
def Blk (w:World) (b:Nat) (cs:Array Value) (t:TypeId):Prop:=w.heap[b]? =some (.cells cs t (0,0))
section
variable {w w':World} {b:Nat} {cs:Array Value} {t:TypeId}
theorem Blk.new (w:World) (cs:Array Value) (t:TypeId):Blk (w.alloc (.cells cs t)) w.heap.size cs t:=heap_alloc_new w _
theorem Blk.newAt (w:World) (cs:Array Value) (t:TypeId) {b:Nat} (h:b=w.heap.size):Blk (w.alloc (.cells cs t)) b cs t:=by subst h;exact heap_alloc_new w _
theorem Blk.lt (h:Blk w b cs t):b<w.heap.size:=(zaq.1 h).1
theorem Blk.cell (h:Blk w b cs t) {i:Nat} {v:Value} (J:cs[i]? =some v):w.cell? ⟨b,i,none⟩=some v:=by
 rw[cell_of_row w b i cs t (0,0) h];exact J
theorem Blk.free (h:Blk w b cs t) (i:Nat):w.frozen? ⟨b,i,none⟩=false:=frozen_of_row w b i cs t h
theorem Blk.alloc (h:Blk w b cs t) (o:Obj):Blk (w.alloc o) b cs t:=(Below.heap_alloc w o b h.lt).trans h
theorem Blk.below {B:Nat} (h:Blk w b cs t) (J:Below B w w') (hB:b<B):Blk w' b cs t:=(J.block b hB).trans h
theorem Blk.drewN (h:Blk w b cs t) (n:Nat):Blk (w.drewN n) b cs t:=h
theorem Blk.set (h:Blk w b cs t) (i:Nat) (u:Value):Blk (w.setCell ⟨b,i,none⟩ u) b (cs.setIfInBounds i u) t:=by
 unfold Blk at*
 simp[World.setCell,zdq,h]
theorem Blk.kept {row:Option Nat} (h:Blk w b cs t) (hg:w.grownBy w' row) (J: ∀r,row=some r-> ∃o:Obj,w.heap[r]? =some o/\o.isCells=false):Blk w' b cs t:=by
 refine(hg.block b h.lt ?_).trans h;intro e;obtain⟨o,h1,h2⟩:=J b e.symm;rw[h] at h1;cases h1;cases h2
theorem Blk.setOther (h:Blk w b cs t) {a:Addr} (J:a.block≠b) (u:Value):Blk (w.setCell a u) b cs t:=
 (Below.heap_setCell w a u b (λe=>J e.symm)).trans h
end
section
variable {α:Type} {enc:α->Value} {e:TypeId} {w:World} {B:Nat} {v:Value} {l:List α} {x:α}
theorem OwnL.some_of (h:OwnL enc e w B v (l++ [x])): ∃g cap,v= .slice (some ⟨g,0,none⟩) (l.length+1) cap/\B<=g/\g<w.heap.size:=by
 obtain⟨h1,h2⟩:=h;rcases h2 with ⟨_,h3⟩|⟨g,cap,J,rfl,V,hg,_⟩
 ·simp at h3
 ·exact⟨g,cap,by rw[za3];rfl,V,(zaq.1 hg).1⟩
theorem OwnL.cons_of (h:OwnL enc e w B v (x::l)): ∃g cap,v= .slice (some ⟨g,0,none⟩) (l.length+1) cap/\B<=g/\g<w.heap.size:=by
 obtain⟨h1,h2⟩:=h;rcases h2 with ⟨_,h3⟩|⟨g,cap,J,rfl,V,hg,_⟩
 ·simp at h3
 ·exact⟨g,cap,rfl,V,(zaq.1 hg).1⟩
end
section
variable {α:Type} {enc:α->Value} {e:TypeId} {w:World} {B:Nat} {v:Value} {l:List α} {F:Fence} {nF:Nat}
variable {w':World}
theorem AB (h:OwnL enc e w B v l) (hg:w.grownBy w' v.ownBlock):KeepsOthers w w':=by
 refine⟨hg.size,λk o J Z=>(hg.block k (zaq.1 J).1 ?_).trans J⟩;intro e1;obtain⟨_,h2⟩:=h;rcases h2 with ⟨rfl,_⟩|⟨g,cap,Y,rfl,_,V,_⟩
 ·cases e1
 ·cases e1;rw[V] at J;cases J;cases Z
variable {P:Program} {ops:zdS} {rest:List Oper} {o:Oper} {a:Act} {Q:zdZ}
theorem lc {v2:Value} {m:List α} (Z:o.guard=none) (s x:Operand) (t:TypeId)
 (ho:o.op= .call {callee:= .builtin .append,args:= #[s,x],argTypes:= #[t,t]})
 (z:Value) (bytes:Nat) (ht:P.underlying t=some (.slice e)) (hinf:(P.info? e).map (λi=>(i.zero,i.size,i.bytes))=some (some z,1,bytes)) (hzs:z.cells.size=1)
 (h1: ∀x,(enc x).oneCell'=true) (hs:a.eval s=v) (J:OwnL enc e w B v l) (hx:a.eval x=v2) (hr:Rd enc w v2 m)
 (hlen:l.length+m.length<=1099511627776) (hby:bytes<=128) (hB:B<=w.heap.size)
 (h: ∀v' w',OwnL enc e w' B v' (l++m)->Below B w w'->KeepsOthers w w'->wpListIn F nF P ops Q rest (a.put o.dst v') w'):wpListIn F nF P ops Q (o::rest) a w:=by
 obtain⟨i,hi,hz,hsz,hbt⟩:=info_parts hinf;rcases hr with ⟨rfl,rfl⟩|⟨b,off,c,rfl,h3,h4,h5,h6⟩
 ·refine wpListIn_plain Z λK hK=> ?_;have hrun:=run_append_owned_none (P:=P) (w:=w) B t o.type e i 1 ht hi v l.length (l.map enc) J;unfold Oper.wpIn;rw[zbf] at h;refine⟨?_, ?_⟩
  ·simp[Oper.about,ho,resolve,Target.leads,zdJ]
  ·rw[Oper.semAt_plain F _ _ (by rw[ho];intro c hc';cases hc')];simp[execOp,ho,resolve,invoke,builtin,hs,hx,hrun,Result.andThen];exact hK _ _ (h v w J (zdG _ _) (KeepsOthers.refl _))
 ·refine wpListIn_append_own w Z s x t ho B e i z 1 bytes ht hi hz hsz hbt hzs (by decide) v l.length (l.map enc) hs J ⟨b,off,none⟩ m.length c (m.map enc) hx (by simp) ?_ ?_ (by simp only[maxLen];omega) ?_ hB ?_
  ·intro j u V;rw[zaL] at V;cases hm:m[j]? with
   |none=>rw[hm] at V;cases V
   |some y=>
    rw[hm] at V;cases V;have Y:(⟨b,off,none⟩:Addr).add j=⟨b,off+j,none⟩:=by unfold Addr.add;split<;>simp_all
    rw[Y];exact h6 j y hm
  ·intro u V;obtain⟨y,_,rfl⟩:=zaz.1 V;exact h1 _
  ·have:=zb4 hlen hby;omega
  ·intro v' w' k1 k2 _;exact h v' w' (by simpa [OwnL] using k1) ((zdG B w).grown k2 hB (λk hk=>(World.ownsRow.lt J k hk).1)) (AB J k2)
theorem sW (hgd:o.guard=none) (lo c:Operand) (t:TypeId) (hop:o.op=Op.makeSlice t lo c)
 (z:α) (bytes:Nat) (ht:P.underlying t=some (.slice e)) (J:(P.info? e).map (λi=>(i.zero,i.size,i.bytes))=some (some (enc z),1,bytes)) (hzs:(enc z).cells= #[enc z])
 (kl kc:IntKind) (L C:Int) (n:Nat) (hl:a.eval lo= .int kl L) (hc:a.eval c= .int kc C) (hL:L=(n:Int)) (hC:C=(n:Int)) (hn:n<=1099511627776) (hby:bytes<=128) (hB:B<=w.heap.size)
 (h: ∀w',OwnL enc e w' B (.slice (some ⟨w.heap.size,0,none⟩) n n) (List.replicate n z)->Below w.heap.size w w'->wpListIn F nF P ops Q rest (a.put o.dst (.slice (some ⟨w.heap.size,0,none⟩) n n)) w'):
 wpListIn F nF P ops Q (o::rest) a w:=by
 obtain⟨i,hi,hz,hsz,Z⟩:=info_parts J;refine wpListIn_plain hgd λK Y=> ?_;obtain⟨w',V,k1,k2⟩:=run_make_full (P:=P) w B t e i (enc z) 1 ht hi hz hsz kl kc n (by rw[Z];have:=zb4 hby hn;omega) (by simp only[maxLen];omega) hB;subst hL;subst hC;have e1:(madeCells (enc z).cells (n*1)).toList=(List.replicate n z).map enc:=by
  rw[hzs,iT];apply zbu
  ·simp[madeCells]
  ·intro j h1 h2;simp[madeCells,zci]
 rw[e1] at k1;unfold Oper.wpIn;refine⟨?_, ?_⟩
 ·simp[Oper.about,hop,resolve,Target.leads,zdJ]
 ·rw[Oper.semAt_plain F _ _ (by rw[hop];intro c hc';cases hc')];simp[execOp,hop,hl,hc,V,Result.andThen];refine Y _ _ (h w' ?_ ((zdG _ w).grown k2 (za0 _) (λk hk=>by cases hk)));unfold OwnL;rw[zcx];exact k1
theorem OwnL.kept {row:Option Nat} (h:OwnL enc e w B v l) (hg:w.grownBy w' row) (Z: ∀r,row=some r-> ∃o:Obj,w.heap[r]? =some o/\o.isCells=false):OwnL enc e w' B v l:=by
 obtain⟨h1,h2⟩:=h;refine⟨h1, ?_⟩;rcases h2 with h2|⟨g,cap,J,rfl,Y,V,h4⟩
 ·exact .inl h2
 ·exact .inr ⟨g,cap,J,rfl,Y,Blk.kept V hg Z,h4⟩
end
end Yk
namespace Yk
open Go
def qY (ops:zdS):Bool:=ops.all λo=>match o.op with| .defer _=>false|_=>true
variable {ops:zdS} {i:Nat} {o:Oper}
theorem AC (h:qY ops=true) (V:ops[i]? =some o): ∀c,o.op≠ .defer c:=by
 intro c J;obtain⟨hi,rfl⟩:=zaq.1 V;have:=Array.all_eq_true.1 h i hi;rw[J] at this;cases this
variable {P:Program} {w:World}
theorem ux {f:FuncId} {args:Array Value} {R:Ending->World->Prop} (l n:Nat) (h:Calls P f args w R):CallsIn (Fence.wide.inRound l) n P f args w R:=CallsIn.inRound l (callsIn_wide.2 h)
variable {a:Act} {K K':Act->World->Prop} {Q:zdZ}
theorem Ec (l n:Nat) (hd: ∀c,o.op≠ .defer c) (Z: ∀a w,¬Q .outgrown a w) (J: ∀a w,K a w->K' a w) (h:o.wp P a w K Q):
 o.wpIn (Fence.wide.inRound l) n P a w K' Q:=by
 unfold Oper.wpIn;refine⟨λ_ _=>trivial, ?_⟩;rw[Fence.inRound_round,Oper.semAt_some l _ _ hd];unfold Oper.wp at h;generalize (execOp a.eval o).run P w=r at h ⊢;cases r with
 |ok x w'=>
  cases x with
  |value v=>exact J _ _ h
  |skip=>exact J _ _ h
  |defer d=>exact J _ _ h
  |enter f args=>
   refine⟨λh=>(by cases h),(ux l (n - 1) h).mono ?_⟩;intro e V Y;cases e with
   |returned v=>exact J _ _ Y
   |panicked c=>exact Y
   |outgrown=>obtain⟨a,w,h⟩:=Y;exact absurd h (Z a w)
  |row r args=>exact⟨λh=>(by cases h),λc cs _=>let ⟨v,V,r,s⟩:=h c cs;⟨v,V,J _ _ r,stepsIn_wide.2 s⟩⟩
  |_=>exact h.elim
 |halt x w'=>cases x<;>exact h
theorem Ee (l n:Nat) (hd:qY ops=true) (Y: ∀a w,¬Q .outgrown a w) (J: ∀a w,K a w->K' a w) (h:wpOp P ops Q i K a w):
 wpOpIn (Fence.wide.inRound l) n P ops Q i K' a w:=by
 unfold wpOp at h;unfold wpOpIn;split at h
 ·rename_i hn;simp only[hn];exact J _ _ h
 ·rename_i o Z;simp only[Z];split at h
  ·rename_i V;simp only[V,if_true];rcases h with h|⟨_,a,w,h⟩
   ·exact Ec l n (AC hd Z) Y J h
   ·exact absurd h (Y a w)
  ·rename_i V;simp only[V];exact⟨λ_ _=>trivial,J _ _ h⟩
theorem sX {P:Program} {md:Region.Mode} {ops:zdS} {Q:zdZ} (l n:Nat) (Y:qY ops=true) (V: ∀a w,¬Q .outgrown a w): ∀(J:Nat) (listed:Array Bool) (a:Act) (w:World),wpAny P md ops Q J listed a w->wpAnyIn (Fence.wide.inRound l) n P md ops Q J listed a w
 |0,_,_,_,h=>h
 |J+1,_,_,_,h=>⟨h.1,λi hi=>Ee l n Y V (λZ w'=>sX l n Y V J _ Z w') (h.2 i hi)⟩
theorem oo {id:Nat} {l n:Nat} (S:World->Prop) (Y:P.follows .mixedOrders=true) (V:qY ops=true) (J: ∀a w,¬Q .outgrown a w)
 (h:wpAnyH P .any ops Q S ops.size (Array.replicate ops.size false) a w.drew):(Code.region id ops true).wpIn (Fence.wide.inRound l) n P Q a w:=
 wpIn_region_any Y (sX l n V J _ _ _ _ (wpAny_of_held _ _ _ _ h))
end Yk
namespace Yk
open Go Go.RowKit
section
variable {T e:TypeId} {B b:Nat} {bs:zdO} {w w':World}
variable {row:Option Nat}
theorem ko {p:Value} (h:Lib.BuilderAtF T e B b p bs w) (hg:w.grownBy w' row) (V: ∀r,row=some r-> ∃o:Obj,w.heap[r]? =some o/\o.isCells=false):Lib.BuilderAtF T e B b p bs w':=by
 obtain⟨h1,v,h2,h3,h4⟩:=h;refine⟨h1,v,Blk.kept h2 hg V,h3.kept hg ?_,h4⟩;rcases Option.eq_none_or_eq_some v.ownBlock with e1|⟨g,e1⟩
 ·exact .inl e1
 ·refine .inr λY=> ?_;obtain⟨c,fz,Z⟩:=Lib.ownsRowF_kind h3 g e1;obtain⟨o,J,hn⟩:=V g (by rw[<-Y,e1]);rw[Z] at J;cases J;cases hn
theorem qI (h:Lib.IsBuilderF T e B b bs w) (hg:w.grownBy w' row) (J: ∀r,row=some r-> ∃o:Obj,w.heap[r]? =some o/\o.isCells=false):Lib.IsBuilderF T e B b bs w':=
 h.elim (λh=> .inl (ko h hg J)) (λh=> .inr (ko h hg J))
theorem jB (h:Lib.IsBuilderF T e B b bs w) (V:Below w.heap.size w w'):Lib.IsBuilderF T e B b bs w':=by
 have key: ∀p,Lib.BuilderAtF T e B b p bs w->Lib.BuilderAtF T e B b p bs w':=by
  rintro p ⟨h1,v,h2,h3,h4⟩;refine⟨h1,v,(V.block b (zaq.1 h2).1).trans h2,⟨h3.1, ?_⟩,h4⟩;rcases h3.2 with h5|⟨g,cap,J,Y,rfl,hB,hg,h6⟩
  ·exact .inl h5
  ·exact .inr ⟨g,cap,J,Y,rfl,hB,(V.block g (zaq.1 hg).1).trans hg,h6⟩
 exact h.elim (λh=> .inl (key _ h)) (λh=> .inr (key _ h))
theorem iJ (h:Lib.OthersKept e (some b) w w') (Z: ∃cs t J,w.heap[b]? =some (.cells cs t J)) (hs:w.heap.size<=w'.heap.size):KeepsOthers w w':=by
 refine⟨hs,λk o V Y=>h k o V ?_ ?_⟩
 ·intro e1;cases e1;obtain⟨cs,t,J,h2⟩:=Z;rw[h2] at V;cases V;cases Y
 ·intro c J e1;subst e1;cases Y
theorem pu (h:Lib.IsBuilderF T e B b bs w): ∃cs t J,w.heap[b]? =some (.cells cs t J):=by
 rcases h with ⟨_,v,h2,_⟩|⟨_,v,h2,_⟩<;>exact⟨_,_,_,h2⟩
end
theorem bN {w:World} {b:Nat} {x y:Value} {t:TypeId} (h:Blk w b #[x,y] t):w.cell? ⟨b,0,none⟩=some x/\w.cell? ⟨b,1,none⟩=some y/\w.frozen? ⟨b,0,none⟩=false/\w.frozen? ⟨b,1,none⟩=false/\b<w.heap.size:=
 ⟨h.cell rfl,h.cell rfl,h.free 0,h.free 1,h.lt⟩
end Yk
namespace Go.Proofs.YtldflkomhbfceaaGreatDoor
open Go.Proofs.Tryz
open Go.RowKit Yk
attribute [local go_sem] Oper.semAt_some
def fK (l:zdL) (k:Nat):List (Nat×Nat):=(List.range k).map (λj=>(l.length - 1 - j,l.getD (l.length - 1 - j) 0))
theorem jC (l:zdL) (k:Nat):fK l (k+1)=fK l k++ [(l.length - 1 - k,l.getD (l.length - 1 - k) 0)]:=by simp[fK,zd5]
theorem yz (l:zdL) (k:Nat):(fK l k).length=k:=by simp[fK]
abbrev cf (l:zdL):={p:Nat×Nat // l[p.1]? =some p.2}
abbrev Ks {l:zdL} (x:cf l):Array Value:= #[.int .i64 (x.1.1:Int), .int .i64 (x.1.2:Int)]
variable {l:zdL} {k:Nat}
theorem GP {j:Nat} (V:k<=l.length) (J:j<l.length) (h:l.length - k<=j):(j,l[j])∈fK l k:=by
 unfold fK;rw[zaz];refine⟨l.length - 1 - j,zaC.2 (by omega), ?_⟩;have e:l.length - 1 - (l.length - 1 - j)=j:=by omega
 rw[e];simp[zaa J]
variable {m:zdL}
theorem Cr {pre:List (cf l)} (Y:l.length=m.length) (Z:k<=l.length) (h:pre.map (·.1)=fK l k) (V: ∀p∈pre,m[p.1.1]? =some p.1.2):l.drop (l.length - k)=m.drop (l.length - k):=by
 apply zbu
 ·simp[Y]
 ·intro i h1 h2;rw[zbQ] at h1 h2;rw[List.getElem_drop,List.getElem_drop];have J:=GP (l:=l) (j:=l.length - k+i) Z (by omega) (by omega);rw[<-h,zaz] at J;obtain⟨p,hp,e⟩:=J;have:=V p hp;rw[e] at this;exact((zaV.1 this).2).symm
theorem Ku {ini:List (cf l)} {last:cf l} (h:(ini++ [last]).map (·.1)=fK l k): ∃j,k=j+1/\ini.map (·.1)=fK l j/\last.1.1=l.length - 1 - j:=by
 cases k with
 |zero=>simp[fK] at h
 |succ j=>
  rw[jC,zb8] at h;obtain⟨e1,J⟩:=List.append_inj' h rfl;simp only[zaK,zc5,zca,and_true] at J;exact⟨j,rfl,e1,by rw[J]⟩
def KpB (n₀ Bs:Nat) (A B:World):Prop:=Below n₀ A B/\B.heap[Bs]? =A.heap[Bs]?
theorem KpB.refl (J V:Nat) (A:World):KpB J V A A:=⟨zdG _ _,rfl⟩
variable {n₀ Bs:Nat} {A B:World}
theorem KpB.trans {C:World} (h:KpB n₀ Bs A B) (k:KpB n₀ Bs B C):KpB n₀ Bs A C:=⟨h.1.trans k.1,k.2.trans h.2⟩
variable {n:Nat}
theorem KpB.of_below (h:Below n A B) (h0:n₀<=n) (hB:Bs<n):KpB n₀ Bs A B:=⟨h.mono h0,h.block Bs hB⟩
theorem KpB.setCell (A:World) {a:Addr} (h0:n₀<=a.block) (hB:a.block≠Bs) (u:Value):KpB n₀ Bs A (A.setCell a u):=⟨(zdG _ _).setCell h0 _,Below.heap_setCell _ _ _ _ (λe=>hB e.symm)⟩
theorem KpB.drewN (A:World) (q:Nat):KpB n₀ Bs A (A.drewN q):=⟨(zdG _ _).drewN q,rfl⟩
variable {w:World}
theorem Pz (V:n₀<=w.heap.size) (hB:Bs<w.heap.size) (W:World) (l:Nat) (o o':Obj) (J:w.heap.size<=l) (h:W.heap[l]? =some o) (k1:o.isCells=false) (k2:o.isWalk=false):KpB n₀ Bs W (W.putObj l o'):=
 ⟨belowK_b V W l o o' J h k1 k2,World.putObj_heap_other (by omega)⟩
theorem bI (h:Below n A B) (V:A.heap.size<=n):KeepsOthers A B:=
 ⟨h.size,λk o J _=>(h.block k (by have:=(zaq.1 J).1;omega)).trans J⟩
theorem wG (F:Fence) (n:Nat) (hF:F.fn 275) (hro:F.round=none) (hn:1<=n) (l Bs n₀ b off cap:Nat) (zs:zdL) (hreach:zs.length<=1099511627776) (hb:b<n₀) (J Jx:List (cf zs)->World->Prop)
 (hY: ∀pre x W,J pre W->pre.length<zs.length->YieldAt F (n - 1) prog l (Ks x) W λe W'=>
   (e= .returned (.bool true)/\J (pre++ [x]) W'/\KpB n₀ Bs W W')\/(e= .returned (.bool false)/\Jx (pre++ [x]) W'))
 (W:World) (hBs:W.cell? ⟨Bs,0,none⟩=some (.slice (some ⟨b,off,none⟩) zs.length cap)) (hc: ∀(j:Nat) x,zs[j]? =some x->W.cell? ⟨b,off+j,none⟩=some (am x)) (h0:J [] W):
 CallsIn F n prog 275 #[.func (.yield l) #[] #[], .pointer (some ⟨Bs,0,none⟩)] W λe W'=>(∃v,e= .returned v)/\
  ((∃ys,ys.map (·.1)=fK zs zs.length/\J ys W')\/(∃pre,(∃k,k<=zs.length/\pre.map (·.1)=fK zs k)/\Jx pre W')):=by
 refine callsIn_of_wp func275 rfl hF ?_ hro;simp only[ntmps275,zbq,za4,za9,Nat.reduceAdd,Nat.reduceSub,zbT,zbU,zbV,zbW,zaM,zaO]
 gi_wp2
 gi_loopw [3] (λi wr=> ∃j k:Nat,∃pre:List (cf zs),j+k=zs.length/\i= .int .i64 ((j:Int) - 1)/\pre.map (·.1)=fK zs k/\J pre wr/\KpB n₀ Bs W wr)
  (λi _=>(intOf i+1).toNat)
 case atStart=>exact⟨zs.length,0, [],by omega,rfl,rfl,h0,KpB.refl _ _ _⟩
 case round=>
  obtain⟨j,k,pre,hjk,rfl,hpre,hJs,hnx⟩:=hrel;have Hpre:=zdF hpre;clear hpre;have hbs:=(World.cell?_of_block (w:=W) (w':=wr) (a:=⟨Bs,0,none⟩) hnx.2).trans hBs;cases j with
  |zero=>
   gi_wp2
   go_end0
   refine⟨⟨_,rfl⟩, .inl ⟨pre, ?_,hJs⟩⟩;rw[Hpre.out];congr 1;omega
  |succ m=>
   have hm:m<zs.length:=by omega
   have hcx:wr.cell? ⟨b,off+m,none⟩=some (.int .i64 ((zs[m]:Nat):Int)):=(hnx.1.cell (p:=⟨b,off+m,none⟩) hb).trans (hc m _ (zaa hm));obtain⟨z,hz⟩: ∃z,zs[m]=z:=⟨_,rfl⟩;rw[hz] at hcx;have hmem:zs[m]? =some z:=by rw[zaa hm,hz]
   obtain⟨x,hx⟩: ∃x:cf zs,x.1=(m,z):=⟨⟨(m,z),hmem⟩,rfl⟩;obtain⟨fn,tmps,assign,body,hy,hR⟩:=hY pre x wr hJs (by have:=congrArg List.length Hpre.out;rw[zaB,yz] at this;omega);dsimp only[Ks] at hy;rw[hx] at hy;have Hx:=zdF hx;have Hz:=zdF hz;clear hz hmem hx;have hnext: ∀p:List (cf zs),p.map (·.1)=fK zs k->(p++ [x]).map (·.1)=fK zs (k+1):=by
    intro p hp;rw[zb8,hp,jC,zaK,zc5,Hx.out];have e1:zs.length - 1 - k=m:=by omega
    rw[e1];simp[zaa hm,Hz.out]
   have Hnext:=zdF hnext;clear hnext
   gi_wp2
   refine hR.mono ?_;rintro e W3 (⟨rfl,hJ3,hk3⟩|⟨rfl,hJx3⟩)
   ·gi_wp2
    go_roundw
    case rel=>exact⟨m,k+1,pre++ [x],by omega,by simp,Hnext.out _ Hpre.out,hJ3,hnx.trans hk3⟩
    case measure=>simp[intOf]
   ·gi_wp2
    refine bodyPost_ret (results_none rfl _ _ _) rfl ?_;exact⟨⟨_,rfl⟩, .inr ⟨pre++ [x],⟨k+1,by omega,Hnext.out _ Hpre.out⟩,hJx3⟩⟩
theorem px (F:Fence) (n:Nat) (hF:F.fn 275) (hro:F.round=none) (l Bs:Nat) (J:World->Prop) (W:World) (hBs:W.cell? ⟨Bs,0,none⟩=some (.slice none 0 0)) (h0:J W):
 CallsIn F n prog 275 #[.func (.yield l) #[] #[], .pointer (some ⟨Bs,0,none⟩)] W λe W'=>(∃v,e= .returned v)/\J W':=by
 refine callsIn_of_wp func275 rfl hF ?_ hro;simp only[ntmps275,zbq,za4,za9,Nat.reduceAdd,Nat.reduceSub,zbT,zbU,zbV,zbW,zaM,zaO]
 gi_wp2
 gi_loopw [3] (λi wr=>i= .int .i64 (-1)/\J wr) (λ_ _=>0)
 case atStart=>exact⟨rfl,h0⟩
 case round=>
  obtain⟨rfl,hJs⟩:=hrel
  gi_wp2
  go_end0
  exact⟨⟨_,rfl⟩,hJs⟩
theorem gD (a:Option Addr) (len cap:Nat) (w:World):
 Calls prog 230 #[.slice a len cap] w λe w'=>e= .returned (.func (.func 275) #[] #[.pointer (some ⟨w.heap.size,0,none⟩)])/\w'=w.alloc (.cells #[.slice a len cap] 201):=by
 go_enter func230,ntmps230;go_wp2;go_ret;exact⟨rfl,rfl⟩
theorem sY (F:Fence) (n:Nat) (hF:F.fn 275) (hro:F.round=none) (hn:1<=n) (Z V:Nat) (sv:Value) (Y:zdL) (hreach:Y.length<=1099511627776) (w:World) (hBs:Z<w.heap.size) (hn₀:V<=w.heap.size)
 (hc:w.cell? ⟨Z,0,none⟩=some sv) (hI:Rd am w sv Y) (hfr: ∀k,sv.ownBlock=some k->k<V):
 SeqStopsK F n prog 275 #[.pointer (some ⟨Z,0,none⟩)] (λx:cf Y=>Ks x) (KpB V Z) (λys=>ys.map (·.1)=fK Y Y.length)
  (λpre=> ∃k,k<=Y.length/\pre.map (·.1)=fK Y k) Y.length w:=λl J Jx W hW _ _ hY h0=>by
 have hc':=(hW.cell (p:=⟨Z,0,none⟩) hBs).trans hc;rcases hI.below hW with ⟨rfl,rfl⟩|⟨b,off,cap,rfl,hb,_,_,hcs⟩
 ·exact(px F n hF hro l Z (J []) W hc' h0).mono λe W' ⟨he,hj⟩=>⟨he, .inl ⟨[],rfl,hj⟩⟩
 ·exact wG F n hF hro hn l Z V b off cap Y hreach (hfr b rfl) J Jx hY W hc' hcs h0
variable {Q:zdZ} {a:Act}
theorem qM {g:Operand} {ps:Array Tmp} {assign body:Code} (hn:3<=n) (Bs V:Nat)
 (hg:a.eval g= .func (.func 275) #[] #[.pointer (some ⟨Bs,0,none⟩)]) (sv:Value) (J:zdL) (hreach:J.length<=1099511627776) (hBs:Bs<w.heap.size) (Y:V<=w.heap.size)
 (hc:w.cell? ⟨Bs,0,none⟩=some sv) (hI:Rd am w sv J) (hfr: ∀k,sv.ownBlock=some k->k<V) (hps:ps.size=2)
 (I:List (cf J)->World->Prop) (Ix:Code->List (cf J)->World->Prop) (hIo:OwnFrom w.heap.size I) (hIx: ∀c,OwnFrom w.heap.size (Ix c)) (h0:I [] w) (upd:cf J->Array Value->Array Value)
 (hassign: ∀(l:Nat) (x:cf J) (W:World) (K:Act->World->Prop),K {tmps:=upd x a.tmps,defers:= []} W->
   assign.wpIn (Fence.wide.inRound l) (n - 1 - 1) prog (Exit.then K (λ_ _ _=>False)) {tmps:=(ps.zip (Ks x)).foldl (λt (p,v)=>t.setIfInBounds p v) a.tmps,defers:= []} W)
 (Z: ∀(l:Nat) (pre:List (cf J)) (x:cf J) (W:World),I pre W->pre.length<J.length->body.wpIn (Fence.wide.inRound l) (n - 1 - 1) prog (ownPostG w.heap.size (KpB V Bs) I Ix (pre++ [x]) W) {tmps:=upd x a.tmps,defers:= []} W)
 (hdone: ∀(D:Nat) (xs:List (cf J)) (W:World),w.heap.size<=D->xs.map (·.1)=fK J J.length->I xs W->W.heap[D]? =some (.deferred (some []))->Q .normal {a with defers:={target:= .collected D,args:= #[]}::a.defers} W)
 (hstop: ∀(D:Nat) (c:Code) (pre:List (cf J)) (W:World),w.heap.size<=D->(∃k,k<=J.length/\pre.map (·.1)=fK J k)->Ix c pre W->W.heap[D]? =some (.deferred (some []))->c.wpIn Fence.wide n prog Q {a with defers:={target:= .collected D,args:= #[]}::a.defers} W):
 (Code.rangeFunc g ps assign body).wpIn Fence.wide n prog Q a w:=
 wpIn_rangeFunc_ownG rfl (by omega) (gf:=275) (lb:= #[.pointer (some ⟨Bs,0,none⟩)]) hg trivial (enters_of func275 (by kernel_rfl) rfl)
  (sY Fence.wide (n - 1) trivial rfl (by omega) Bs V sv J hreach w hBs Y hc hI hfr) KpB.trans (Pz Y hBs) (zdG _ _) (λx=>by rw[hps];rfl) I Ix hIo hIx h0 (λx=>{tmps:=upd x a.tmps,defers:= []}) hassign Z hdone hstop
theorem ret_bool {a b:Bool} (h:a=b):Ending.returned (.bool a)= .returned (.bool b):=by rw[h]
variable {s t:zdK}
theorem wH (V:body s.data.toList=t.data.toList) (J:k<t.size) (h:(t[k].toNat:Int)<48\/57<(t[k].toNat:Int)):false=vld s.data.toList:=
 (um (i:=k) (c:=t[k]) (by rw[V];exact kE t k J) (by omega)).symm
theorem wI (V:body s.data.toList=t.data.toList) (h0:0<t.size) (h1:t.size<=200) (hd: ∀(i:Nat) (h:i<t.size),48<=t[i].toNat/\t[i].toNat<=57)
 (Z:s.data.toList= [48]↔t.toList= [48]):
 (t.toList== [48]||((t[0].toNat:Int) !=48))=vld s.data.toList:=by
 rw[xM (by rw[V];intro e;have:=bj t;rw[e] at this;simp at this;omega) (by rw[V,bj];exact h1) (by
  intro i c J;rw[V] at J;have hi:i<t.size:=by have:=(zaV.1 J).1;rwa[bj] at this
  rw[kE t i hi] at J;cases J
  exact hd i hi)]
 rw[V,zbX,kE t 0 h0];by_cases e1:t.toList= [48]
 ·simp[e1,Z.2 e1]
 ·have e2: ¬s.data.toList= [48]:=λh=>e1 (Z.1 h);simp only[e1,e2,decide_false,zbi,beq_eq_false_iff_ne.2 e1];by_cases Y:t[0]=48
  ·simp[Y]
  ·have e4:t[0].toNat≠48:=λh=>Y (UInt8.toNat_inj.1 h);have e5:((t[0].toNat:Int) !=48)=true:=by rw[zdE];omega
   simp[Y,e5]
theorem wJ {l:List UInt8} (hh:l.head? =some 45) (h:body l= [48]):false=vld l:=by
 have:l≠ [48]:=by intro e;rw[e] at hh;simp at hh
 simp[vld,h,this]
theorem au (s:zdK) (w:World) (hs:s.size<=maxLen):
 Calls prog 203 #[.string s] w λe w'=>e= .returned (.bool (vld s.data.toList))/\w=w':=by
 unfold maxLen at hs;by_cases h0:0<s.size
 ·by_cases h45:s[0]=45
  ·have hhd:s.data.toList.head? =some 45:=by rw[zbX,kE s 0 h0,h45]
   have c1:((s[0].toNat:Int)==45)=true:=by rw[h45];decide
   obtain⟨t,hx⟩: ∃t,s.extract 1 s.size=t:=⟨_,rfl⟩;have ht:body s.data.toList=t.data.toList:=by rw[<-hx,xN hhd,BS]
   have hts:t.size<=9223372036854775807:=by rw[<-hx];simp;omega
   have hz:t.toList= [48]->false=vld s.data.toList:=λh=>wJ hhd (by rw[ht,<-cL,h]);have hz2: ¬t.toList= [48]->(s.data.toList= [48]↔t.toList= [48]):=λh=>⟨λe=>by rw[e] at hhd;simp at hhd,λe=>absurd e h⟩;have Ht:=zdF ht;clear ht;clear h45 hhd;by_cases c:t.toList= [48]
   ·have Hz:=zdF (hz c);clear hz hz2;have c2:(t.toList== [48])=true:=by simp[c]
    clear c;go_enter func203,ntmps203;go_wp2;go_ret;exact⟨ret_bool Hz.out,rfl⟩
   ·have Hz:=zdF (hz2 c);clear hz hz2;have c2:(t.toList== [48])=false:=by simp[c]
    clear c;go_enter func203,ntmps203;go_wp2;clear c1 c2 hx
    go_loop [3] (λi=> ∃k:Nat,k<=t.size/\i= .int .i64 k/\ ∀(j:Nat) (h:j<t.size),j<k->48<=t[j].toNat/\t[j].toNat<=57) (λi=>(t.size - intOf i).toNat)
    case atStart=>exact⟨0,by omega,rfl,by omega⟩
    case round=>
     obtain⟨k,hk,rfl,hd⟩:=hrel;have Hd:=zdF hd;clear hd;go_wp2
     ·go_ret;exact⟨ret_bool (wH Ht.out ‹k<t.size› (by omega)),rfl⟩
     ·go_round
      case rel=>
       refine⟨k+1,by omega,by go_num,λj h hj=> ?_⟩;by_cases e:j<k
       ·exact Hd.out j h e
       ·obtain rfl:j=k:=by omega
        omega
      case measure=>simp[intOf];omega
     ·go_ret;exact⟨ret_bool (wH Ht.out ‹k<t.size› (by omega)),rfl⟩
     ·go_ret;have e:t.toList= [48]:=by assumption
      refine⟨ret_bool ?_,rfl⟩;rw[<-wI Ht.out (by omega) (by omega) (λj h=>Hd.out j h (by omega)) Hz.out];simp[e]
     ·go_ret;exact⟨ret_bool (wI Ht.out (by omega) (by omega) (λj h=>Hd.out j h (by omega)) Hz.out),rfl⟩
     ·go_ret;exact⟨ret_bool (rm (by rw[Ht.out,bj];omega)).symm,rfl⟩
     ·go_ret;exact⟨ret_bool (uN (by rw[Ht.out];exact zau (by rw[bj];omega))).symm,rfl⟩
  ·have hhd:s.data.toList.head? ≠some 45:=by rw[zbX,kE s 0 h0];simpa using h45
   have c1:((s[0].toNat:Int)==45)=false:=by
    have:s[0].toNat≠45:=λh=>h45 (UInt8.toNat_inj.1 h);rw[zdA];omega
   have ht:body s.data.toList=s.data.toList:=nH hhd;have Ht:=zdF ht;clear ht;have Hz:=zdF (show s.data.toList= [48]↔s.toList= [48] by rw[cL]);clear hhd h45
   ·go_enter func203,ntmps203;go_wp2;clear c1
    go_loop [3] (λi=> ∃k:Nat,k<=s.size/\i= .int .i64 k/\ ∀(j:Nat) (h:j<s.size),j<k->48<=s[j].toNat/\s[j].toNat<=57) (λi=>(s.size - intOf i).toNat)
    case atStart=>exact⟨0,by omega,rfl,by omega⟩
    case round=>
     obtain⟨k,hk,rfl,hd⟩:=hrel;have Hd:=zdF hd;clear hd;go_wp2
     ·go_ret;exact⟨ret_bool (wH Ht.out ‹k<s.size› (by omega)),rfl⟩
     ·go_round
      case rel=>
       refine⟨k+1,by omega,by go_num,λj h hj=> ?_⟩;by_cases e:j<k
       ·exact Hd.out j h e
       ·obtain rfl:j=k:=by omega
        omega
      case measure=>simp[intOf];omega
     ·go_ret;exact⟨ret_bool (wH Ht.out ‹k<s.size› (by omega)),rfl⟩
     ·go_ret;have e:s.toList= [48]:=by assumption
      refine⟨ret_bool ?_,rfl⟩;rw[<-wI Ht.out (by omega) (by omega) (λj h=>Hd.out j h (by omega)) Hz.out];simp[e]
     ·go_ret;exact⟨ret_bool (wI Ht.out (by omega) (by omega) (λj h=>Hd.out j h (by omega)) Hz.out),rfl⟩
     ·go_ret;exact⟨ret_bool (rm (by rw[Ht.out,bj];omega)).symm,rfl⟩
 ·obtain rfl:s=ByteArray.empty:=gT (by rw[zau (l:=s.data.toList) (by rw[bj];omega)];rfl);go_enter func203,ntmps203;go_wp2
  go_loop [3] (λi=>i= .int .i64 0) (λ_=>0)
  case atStart=>rfl
  case round=>
   subst hrel;go_wp2;go_ret;exact⟨ret_bool (by decide),rfl⟩
def Glob (w:World):Prop:=
 (∃m,w.cell? ⟨4,0,none⟩=some (.int .i64 m))/\Lib.TabIs prog w "internal/strconv.uint64pow10" .u64 Lib.pow10Tab/\1<w.heap.size
theorem NL:prog.globalNamed "internal/strconv.uint64pow10" =some 1:=by kernel_rfl
variable {w':World}
theorem Glob.below (h:Glob w) (J:Below w.heap.size w w'):Glob w':=by
 obtain⟨⟨m,h1⟩,h2,h3⟩:=h;refine⟨⟨m, ?_⟩,var?_below J NL h3 h2,zam h3 J.size⟩;rw[J.cell (p:=⟨4,0,none⟩) (World.block_lt_of_cell? w _ h1)];exact h1
theorem qJ (l:List UInt8):Lib.trimPrefix l [45]=body l:=by
 unfold Lib.trimPrefix Lib.hasPrefix body;cases l with
 |nil=>simp
 |cons c t=>
  by_cases h:c=45
  ·subst h;simp
  ·have h2: ¬(45=c):=λe=>h e.symm;simp[List.isPrefixOf,h,h2]
theorem mA (s:zdK) (w:World):
 Calls prog 131 #[.string s, .string ⟨#[45]⟩] w λe w'=> ∃t,e= .returned (.string t)/\t.data.toList=body s.data.toList/\w=w':=by
 refine(strings_TrimPrefix s ⟨#[45]⟩ w).mono ?_;rintro e w' ⟨rfl,rfl⟩;exact⟨_,rfl,by rw[<-qJ],rfl⟩
theorem qK (c:UInt8): [48,49,50,51,52,53,54,55,56,57].contains c=dig c:=by
 rw[zax,eE];simp only[List.contains_iff_mem,zai,zbx,or_false];constructor
 ·rintro(h|h|h|h|h|h|h|h|h|h)<;>subst h<;>decide
 ·intro h;have: ∀k:Fin 10,c.toNat=48+k.val->c=UInt8.ofNat (48+k.val):=by
   intro k J;apply UInt8.toNat_inj.1;rw[J];simp;omega
  have h2:=this ⟨c.toNat - 48,by omega⟩ (by simp;omega);simp only at h2;have h3:c.toNat - 48=0\/c.toNat - 48=1\/c.toNat - 48=2\/c.toNat - 48=3\/c.toNat - 48=4\/c.toNat - 48=5\/c.toNat - 48=6\/c.toNat - 48=7\/c.toNat - 48=8\/c.toNat - 48=9:=by omega
  rcases h3 with h|h|h|h|h|h|h|h|h|h<;>rw[h] at h2<;>rw[h2]<;>decide
theorem fk (p:UInt8->Bool) (l:List UInt8):l.dropWhile p= []↔l.all p=true:=by
 induction l with
 |nil=>simp
 |cons a t J=>
  rw[List.dropWhile_cons];split
  ·rename_i h;rw[J];simp[h]
  ·rename_i h;simp[h]
theorem Ef (l:List UInt8):Lib.trimS l [48,49,50,51,52,53,54,55,56,57]= []↔l.all dig=true:=by
 have V:(λc:UInt8=> [48,49,50,51,52,53,54,55,56,57].contains c)=dig:=funext qK;unfold Lib.trimS Lib.trimLeftS Lib.trimRightS;rw[V,fk,zdc];constructor
 ·intro h;cases J:l.reverse.dropWhile dig with
  |nil=>
   have:=(fk dig l.reverse).1 J;rwa[zdc] at this
  |cons a t=>
   exfalso;have h1:dig a=false:=by
    have:=List.head?_dropWhile_not dig l.reverse;rw[J] at this;simpa using this
   rw[J] at h;simp[h1] at h
 ·intro h;have:l.reverse.dropWhile dig= []:=(fk dig l.reverse).2 (by rwa[zdc]);rw[this];rfl
theorem uy (s:zdK) (w:World) (V:s.size<=maxLen):
 Calls prog 235 #[.string s, .string ⟨#[48,49,50,51,52,53,54,55,56,57]⟩] w λe w'=> ∃t,e= .returned (.string t)/\t.toList.isEmpty=s.data.toList.all dig/\Below w.heap.size w w':=by
 refine(Any.strings_Trim_laid lays160 (by kernel_rfl) s ⟨#[48,49,50,51,52,53,54,55,56,57]⟩ w (by simpa [maxLen] using V) (by decide) (ascii_of_all (by decide))).mono ?_;rintro e w' ⟨rfl,J⟩;refine⟨_,rfl, ?_,J⟩;rw[cL];have h:=Ef s.data.toList;rw[zax,List.isEmpty_iff];exact h
theorem Kv (l:List UInt8):(body l).length<=l.length:=by
 unfold body;split
 ·rw[zcZ];omega
 ·exact za0 _
theorem ii (t:zdK):t.toList.isEmpty=decide (t.data.toList= []):=by
 rw[cL];cases t.data.toList<;>simp
theorem Kw (h:s.toList= [48]):true=vS s:=by
 rw[cL] at h;unfold vS;rw[h];decide
theorem NM (ht:t.data.toList=body s.data.toList) (h0:0<t.size) (h1: ¬200<(body s.data.toList).length) (hd:(body s.data.toList).all dig=true) (Y: ¬s.toList= [48]):
 ((t[0].toNat:Int) !=48)=vS s:=by
 have e:(body s.data.toList).head? =some t[0]:=by rw[<-ht,zbX,kE t 0 h0]
 rw[cL] at Y;unfold vS;rw[xM (by intro J;rw[J] at e;simp at e) (by omega) (λi c hc=>(eE c).1 (zaf.1 hd c (zal hc))),e];have J:decide (s.data.toList= [48])=false:=by simp[Y]
 rw[J,zbi];by_cases V:t[0]=48
 ·simp[V]
 ·have e4:t[0].toNat≠48:=λh=>V (UInt8.toNat_inj.1 h);have Z:((t[0].toNat:Int) !=48)=true:=by rw[zdE];omega
  simp[V,Z]
theorem NN (h: ¬(body s.data.toList).all dig=true):false=vS s:=by
 cases J:vS s with
 |false=>rfl
 |true=>
  have:=(dh J).2.2.1;exact absurd (zaf.2 this) h
theorem qk (s:zdK) (w:World) (hs:s.size<=maxLen):
 Calls prog 180 #[.string s] w λe w'=>e= .returned (.bool (vS s))/\Below w.heap.size w w':=by
 have Hp:=zdF (mA s);have hbl:=Kv s.data.toList;rw[bj] at hbl;by_cases h1:body s.data.toList= []
 ·have hv:vS s=false:=uN h1;rw[hv];rw[h1] at Hp;clear h1 hv hbl;go_enter func180,ntmps180;go_wp2_with (go_at_call 131;refine(Hp.out _).mono ?_;rintro e w1 ⟨t,rfl,ht,rfl⟩;have c1:t.toList.isEmpty=true:=by {rw[ii,ht];rfl};have Ht:=zdF ht;clear ht);go_ret;exact⟨rfl,zdG _ _⟩
 ·by_cases h2:200<(body s.data.toList).length
  ·have hv:vS s=false:=rm h2;rw[hv];clear hv;have H1:=zdF h1;clear h1;go_enter func180,ntmps180;go_wp2_with (go_at_call 131;refine(Hp.out _).mono ?_;rintro e w1 ⟨t,rfl,ht,rfl⟩;have c1:t.toList.isEmpty=false:=by {rw[ii,ht];simp[H1.out]};rw[<-ht,bj] at h2 hbl;have c2:(200:Int)<(t.size:Int):=by {omega};have Ht:=zdF ht;clear ht h2);go_ret;exact⟨rfl,zdG _ _⟩
  ·have Hm:=zdF (λ(t:zdK) (h:t.data.toList=body s.data.toList)=>uy t);by_cases h3:(body s.data.toList).all dig=true
   ·have H1:=zdF h1;clear h1;have H2:=zdF h2;have H3:=zdF h3;clear h3;by_cases h4:s.toList= [48]
    ·have Hz:=zdF (Kw h4);have c4:(s.toList== [48])=true:=by simp[h4]
     clear h4;go_enter func180,ntmps180
     go_wp2_with (first
      |(go_at_call 131;refine(Hp.out _).mono ?_;rintro e w1 ⟨t,rfl,ht,rfl⟩;have c1:t.toList.isEmpty=false:=by {rw[ii,ht];simp[H1.out]};have Ht:=zdF ht;rw[<-ht,bj] at h2 hbl;have c2: ¬(200:Int)<(t.size:Int):=by {omega};clear ht h2)
      |(go_at_call 235;refine(Hm.out _ Ht.out _ (by unfold maxLen at*;omega)).mono ?_;rintro e w2 ⟨t2,rfl,ht2,hb2⟩;rw[Ht.out,H3.out] at ht2))
     go_ret;exact⟨ret_bool Hz.out,hb2⟩
    ·have H4:=zdF h4;have c4:(s.toList== [48])=false:=by simp[h4]
     clear h4;go_enter func180,ntmps180
     go_wp2_with (first
      |(go_at_call 131;refine(Hp.out _).mono ?_;rintro e w1 ⟨t,rfl,ht,rfl⟩;have c1:t.toList.isEmpty=false:=by {rw[ii,ht];simp[H1.out]};have Ht:=zdF ht;have h5:0<t.size:=by {apply Nat.pos_of_ne_zero;intro e0;apply H1.out;rw[<-ht];exact zau (by rw[bj];exact e0)};rw[<-ht,bj] at h2 hbl;have c2: ¬(200:Int)<(t.size:Int):=by {omega};clear ht h2)
      |(go_at_call 235;refine(Hm.out _ Ht.out _ (by unfold maxLen at*;omega)).mono ?_;rintro e w2 ⟨t2,rfl,ht2,hb2⟩;rw[Ht.out,H3.out] at ht2))
     go_ret;exact⟨ret_bool (NM Ht.out h5 H2.out H3.out H4.out),hb2⟩
   ·have H1:=zdF h1;clear h1;have Hz:=zdF (NN h3);have H3:Hid ((body s.data.toList).all dig=false):=by {show (body s.data.toList).all dig=false;exact Bool.eq_false_iff.2 h3}
    clear h3;go_enter func180,ntmps180
    go_wp2_with (first
     |(go_at_call 131;refine(Hp.out _).mono ?_;rintro e w1 ⟨t,rfl,ht,rfl⟩;have c1:t.toList.isEmpty=false:=by {rw[ii,ht];simp[H1.out]};have Ht:=zdF ht;rw[<-ht,bj] at h2 hbl;have c2: ¬(200:Int)<(t.size:Int):=by {omega};clear ht h2)
     |(go_at_call 235;refine(Hm.out _ Ht.out _ (by unfold maxLen at*;omega)).mono ?_;rintro e w2 ⟨t2,rfl,ht2,hb2⟩;rw[Ht.out,H3.out] at ht2))
    go_ret;exact⟨ret_bool Hz.out,hb2⟩
theorem wK (s:zdK) (w:World) (hs:s.size<=maxLen):
 Calls prog 113 #[.string s] w λe w'=>e= .returned (.bool (vS s))/\Below w.heap.size w w':=by
 go_enter func113,ntmps113;go_wp2_with (go_at_call 180;refine(qk s _ hs).mono ?_;rintro e w1 ⟨rfl,hb⟩);go_ret;exact⟨rfl,hb⟩
theorem gE:(prog.info? 3).map (λi=>(i.zero,i.size,i.bytes))=some (some (.int .i64 0),1,8):=by kernel_rfl
variable {ops:zdS} {rest:List Oper} {o:Oper} {v:Value}
theorem py {B:Nat} (Y:o.guard=none) (s x:Operand)
 (ho:o.op= .call {callee:= .builtin .append,args:= #[s,x],argTypes:= #[26,26]}) (hs:a.eval s=v) (V:OwnL am 3 w B v l) (b:Nat) (c:Nat) (u:Value)
 (hx:a.eval x= .slice (some ⟨b,0,none⟩) 1 c) (hc:w.cell? ⟨b,0,none⟩=some u) (y:Nat) (hu:u=am y) (J:l.length+1<=1099511627776) (hB:B<=w.heap.size)
 (h: ∀Z w',OwnL am 3 w' B Z (l++ [y])->Below B w w'->wpList prog ops Q rest (a.put o.dst Z) w'):wpList prog ops Q (o::rest) a w:=
 kZ Y s x 26 ho (.int .i64 0) 8 underlying26 gE rfl du hs V ⟨b,0,none⟩ c u hx hc y hu J (by decide) hB h
theorem ld (t:zdK) (k:Nat) (h:k<t.size):
 (t.data.toList.reverse.take (k+1)).map dv=(t.data.toList.reverse.take k).map dv++ [dv t[t.size - 1 - k]]:=by
 rw[zc1,zdk (by rw[bj];exact h),bj,kE t (t.size - 1 - k) (by omega)];simp
theorem uA (s:zdK) (w:World) (hs:vld s.data.toList=true):
 Calls prog 215 #[.string s] w λe w'=> ∃v,e= .returned (.tuple #[.bool (bf s.data.toList),v])/\Rd am w' v (ae 10 (toI s.data.toList).natAbs)/\From w.heap.size v/\Below w.heap.size w w':=by
 rw[anF];obtain⟨a1,a2,a3,a4⟩:=dh hs;have h0:0<s.size:=by
  apply Nat.pos_of_ne_zero;intro e;have:s.data.toList= []:=zau (by rw[bj];exact e);rw[this] at a1;exact a1 rfl
 by_cases h45:s[0]=45
 ·have hhd:s.data.toList.head? =some 45:=by rw[zbX,kE s 0 h0,h45]
  have c1:((s[0].toNat:Int)==45)=true:=by rw[h45];decide
  have hneg:bf s.data.toList=true:=by simp[bf,hhd]
  have hne:s.data.toList≠ [48]:=by intro e;rw[e] at hhd;simp at hhd
  have hdt:=oV hs hne;obtain⟨t,hx⟩: ∃t,s.extract 1 s.size=t:=⟨_,rfl⟩;have ht:body s.data.toList=t.data.toList:=by rw[<-hx,xN hhd,BS]
  have c2:(!t.toList== [48])=true:=by
   have:t.toList≠ [48]:=by rw[cL,<-ht];exact nJ hs hne
   simp[this]
  rw[ht] at a2 a3 hdt ⊢;rw[bj] at a2;have Hdt:=zdF hdt;clear hdt;have Ha3:=zdF a3;clear a3;rw[hneg];clear ht hneg hne a1 a4 hhd h45 hs;go_enter func215,ntmps215;go_wp2;clear c1 hx
  go_loopw [5,6] (λout i wr=> ∃j:Nat,j<=t.size/\i= .int .i64 ((j:Int) - 1)/\OwnL am 3 wr w.heap.size out ((t.data.toList.reverse.take (t.size - j)).map dv)/\Below w.heap.size w wr) (λ_ i _=>(intOf i+1).toNat)
  case atStart=>exact⟨t.size,za0 _,rfl,by rw[zaJ];exact OwnL.nil _ _,zdG _ _⟩
  case round=>
   obtain⟨j,hj,rfl,hown,hB⟩:=hrel;cases j with
   |zero=>
    go_wp2
    go_ret2
    refine⟨_,rfl, ?_,hown.from,hB⟩;have:=hown.rd;rwa[zaX,zaI (by rw[zc2,bj];exact za0 _),Hdt.out] at this
   |succ m=>
    have hd:48<=t[m].toNat/\t[m].toNat<=57:=(eE _).1 (Ha3.out _ (zal (kE t m (by omega))));have hsz:=hB.size;have hl:((t.data.toList.reverse.take (t.size - (m+1))).map dv).length<=t.size:=by rw[zaB,zaE];omega
    go_wp2_with (at_builtin;refine py rfl _ _ rfl rfl (hown.alloc _) wr.heap.size 1 _ rfl (aP _ _ _) (dv t[m]) (by simp only[am,dv];congr 1;omega) (by omega) (by simp;omega) ?_;intro v' w1 hown1 hB1)
    go_roundw
    case rel=>
     refine⟨m,by omega,by go_num, ?_,((hB.alloc hB.size _).trans hB1)⟩;have e:=ld t (t.size - (m+1)) (by omega);rw[show t.size - (m+1)+1=t.size - m by omega] at e;rw[e];simpa only[show t.size - 1 - (t.size - (m+1))=m by omega] using hown1
    case measure=>simp[intOf]
 ·have hhd:s.data.toList.head? ≠some 45:=by rw[zbX,kE s 0 h0];simpa using h45
  have c1:((s[0].toNat:Int)==45)=false:=by
   have:s[0].toNat≠45:=λh=>h45 (UInt8.toNat_inj.1 h);rw[zdA];omega
  have hneg:bf s.data.toList=false:=by simp[bf,hhd]
  have hb:body s.data.toList=s.data.toList:=nH hhd;rw[hneg];by_cases hne:s.data.toList= [48]
  ·obtain rfl:s=⟨#[48]⟩:=gT (by rw[hne]);rw[show bm (body (⟨#[48]⟩:zdK).data.toList)=0 from rfl,aF];clear hb a1 a2 a3 a4 hs hne hneg hhd h45 c1 h0;go_enter func215,ntmps215;go_wp2;refine wp_loop_rounds 1 ?_;rw[rounds_succ];go_wp2
   go_ret2
   exact⟨_,rfl, .inl ⟨rfl,rfl⟩,From.nil _,zdG _ _⟩
  ·have hdt:=oV hs hne;have c2:(!s.toList== [48])=true:=by rw[cL];simp[hne]
   rw[hb] at a2 a3 hdt ⊢;rw[bj] at a2;have Hdt:=zdF hdt;clear hdt;have Ha3:=zdF a3;clear a3;clear hb hneg hne a1 a4 hhd h45 hs;go_enter func215,ntmps215;go_wp2;clear c1
   go_loopw [5,6] (λout i wr=> ∃j:Nat,j<=s.size/\i= .int .i64 ((j:Int) - 1)/\OwnL am 3 wr w.heap.size out ((s.data.toList.reverse.take (s.size - j)).map dv)/\Below w.heap.size w wr) (λ_ i _=>(intOf i+1).toNat)
   case atStart=>exact⟨s.size,za0 _,rfl,by rw[zaJ];exact OwnL.nil _ _,zdG _ _⟩
   case round=>
    obtain⟨j,hj,rfl,hown,hB⟩:=hrel;cases j with
    |zero=>
     go_wp2
     go_ret2
     refine⟨_,rfl, ?_,hown.from,hB⟩;have:=hown.rd;rwa[zaX,zaI (by rw[zc2,bj];exact za0 _),Hdt.out] at this
    |succ m=>
     have hd:48<=s[m].toNat/\s[m].toNat<=57:=(eE _).1 (Ha3.out _ (zal (kE s m (by omega))));have hsz:=hB.size;have hl:((s.data.toList.reverse.take (s.size - (m+1))).map dv).length<=s.size:=by rw[zaB,zaE];omega
     go_wp2_with (at_builtin;refine py rfl _ _ rfl rfl (hown.alloc _) wr.heap.size 1 _ rfl (aP _ _ _) (dv s[m]) (by simp only[am,dv];congr 1;omega) (by omega) (by simp;omega) ?_;intro v' w1 hown1 hB1)
     go_roundw
     case rel=>
      refine⟨m,by omega,by go_num, ?_,((hB.alloc hB.size _).trans hB1)⟩;have e:=ld s (s.size - (m+1)) (by omega);rw[show s.size - (m+1)+1=s.size - m by omega] at e;rw[e];simpa only[show s.size - 1 - (s.size - (m+1))=m by omega] using hown1
     case measure=>simp[intOf]
theorem eT (l:zdL) (hd: ∀d∈l,d<10000) (v:Value) (w:World) (hv:Rd am w v l):
 Calls prog 237 #[v] w λe w'=> ∃v',e= .returned v'/\Rd am w' v' (ae 10000 (val 10000 l))/\(∀B,From B v->From B v')/\Below w.heap.size w w':=by
 rw[<-xQ (by decide) l hd];obtain⟨a,cap,rfl,hca,hca2,hcell⟩:=hv.open';have Hadr:=zdF hv.addr;have Hc:=zdF hcell;clear hcell hv hd;obtain⟨n,hn⟩: ∃n,l.length=n:=⟨_,rfl⟩;have Hn:=zdF hn;rw[hn] at hca ⊢;clear hn;go_enter func237,ntmps237;go_wp2
 go_loopw [0] (λs wr=> ∃k:Nat,k<=n/\s= .slice a k cap/\fW (l.take k)=fW l/\Below w.heap.size w wr) (λs _=>match s with| .slice _ k _=>k|_=>0)
 case atStart=>exact⟨n,za0 _,rfl,by rw[zaI (by rw[Hn.out];exact za0 _)],zdG _ _⟩
 case round=>
  obtain⟨k,hk,rfl,ht,hB⟩:=hrel;have Ht:=zdF ht;clear ht;cases k with
  |zero=>
   go_wp2;go_ret;refine⟨_,rfl, ?_,λB h=>h.len,hB⟩;rw[<-Ht.out,zbv,uO];have:=(Rd.take_of (k:=0) (zaA _) (zaA _) hca2 Hc.out Hadr.out.1 Hadr.out.2).below hB;rwa[zbv] at this
  |succ m=>
   have hm:m<l.length:=by rw[Hn.out];omega
   have Hr:=zdF (Rd.take_of (k:=m+1) (by omega) (by omega) hca2 Hc.out Hadr.out.1 Hadr.out.2);obtain⟨b,off,rfl,hb,hc1⟩:=Hc.out m hm;have k1:=(hB.cell (p:=⟨b,off+m,none⟩) hb).trans hc1;clear hc1;by_cases h0:l[m]=0
   ·have c1:((l[m]:Int)==0)=true:=by rw[h0];rfl
    have Ht2:=zdF ((rp hm h0).symm.trans Ht.out);clear h0;go_wp2
    go_roundw
    case rel=>exact⟨m,by omega,rfl,Ht2.out,hB⟩
    case measure=>simp
   ·have c1:((l[m]:Int)==0)=false:=by rw[zdA];omega
    have Ht2:=zdF ((rq hm h0).symm.trans Ht.out);clear h0;go_wp2;go_ret;refine⟨_,rfl, ?_,λB h=>h.len,hB⟩;rw[<-Ht2.out];exact Hr.out.below hB
theorem GQ (s:zdK) (w:World) (V:s.size<=18) (h0:s.data.toList≠ []) (J: ∀c∈s.data.toList,dig c=true):
 Calls prog 130 #[.string s] w λe w'=>e= .returned (.tuple #[.int .i64 (bm s.data.toList:Int), .nilIface])/\Below w.heap.size w w':=by
 refine(strconv_Atoi s _ V (xS h0 J) w).mono ?_;rintro e w' ⟨rfl,t,rfl⟩;exact⟨rfl,Lib.bytesWorld_below w 5 t⟩
theorem AD {B:Nat} (Y:o.guard=none) (s x:Operand)
 (ho:o.op= .call {callee:= .builtin .append,args:= #[s,x],argTypes:= #[201,201]}) (hs:a.eval s=v) (V:OwnL am 3 w B v l) (b:Nat) (c:Nat) (u:Value)
 (hx:a.eval x= .slice (some ⟨b,0,none⟩) 1 c) (hc:w.cell? ⟨b,0,none⟩=some u) (y:Nat) (hu:u=am y) (J:l.length+1<=1099511627776) (hB:B<=w.heap.size)
 (h: ∀Z w',OwnL am 3 w' B Z (l++ [y])->Below B w w'->wpList prog ops Q rest (a.put o.dst Z) w'):wpList prog ops Q (o::rest) a w:=
 kZ Y s x 201 ho (.int .i64 0) 8 underlying201 gE rfl du hs V ⟨b,0,none⟩ c u hx hc y hu J (by decide) hB h
def GR (tl:List UInt8) (neg:Bool) (w:World) (dv:Value) (wr:World):Prop:=
 ∃(k:Nat) (d:zdK) (L:zdL) (v:Value),dv= .string d/\d.data.toList=tl.take k/\k<=tl.length/\Blk wr w.heap.size #[.bool false, .slice none 0 0] 203/\Blk wr (w.heap.size+1) #[.bool neg,v] 203/\OwnL am 3 wr (w.heap.size+2) v L/\Below w.heap.size w wr/\
  L.length+k<=tl.length+4/\(∀z∈L,z<10000)/\val 10000 L+10000^L.length*bm (tl.take k)=bm tl
theorem vy (s:zdK) (w:World) (hs:vS s=true):
 Calls prog 229 #[.string s] w λe w'=> ∃v,e= .returned (.agg #[.bool (bf s.data.toList),v])/\Rd am w' v (ae 10000 (nS s).natAbs)/\From w.heap.size v/\Below w.heap.size w w':=by
 rw[show (nS s).natAbs=bm (body s.data.toList) from anF _];obtain⟨a1,a2,a3,a4⟩:=dh hs;have hsz:=dp hs;have hneg: ∀t:zdK,t.data.toList=body s.data.toList->decide (t.size<s.size)=bf s.data.toList:=by
  intro t ht;rw[<-bj t,<-bj s,ht];unfold bf body;by_cases hh:s.data.toList.head? =some 45
  ·rw[if_pos hh,zcZ,zdD];have:s.data.toList.length≠0:=by intro e;rw[zau e] at hh;simp at hh
   simp only[hh,iff_true];omega
  ·rw[if_neg hh,zdD];simp[hh]
 have Hneg:=zdF hneg;have Ha3:=zdF a3;obtain⟨neg,en⟩: ∃b,bf s.data.toList=b:=⟨_,rfl⟩;obtain⟨tl,etl⟩: ∃b,body s.data.toList=b:=⟨_,rfl⟩;rw[en] at Hneg ⊢;rw[etl] at a2 Ha3 Hneg ⊢;have Hp:=zdF (mA s);rw[etl] at Hp;clear hneg a1 a3 a4 hs en etl;go_enter func229,ntmps229;go_wp2_with (go_at_call 131;refine(Hp.out _).mono ?_;rintro e w1 ⟨t,rfl,ht,rfl⟩;have hn2:=Hneg.out t ht;rw[<-ht,bj] at a2;have Ht:=zdF ht;clear ht)
 go_loopw [3] (λdv wr=>GR tl neg w dv wr) (λdv _=>match dv with| .string d=>d.size|_=>0)
 case atStart=>
  have h1:=Blk.new w #[.bool false, .slice none 0 0] 203;have h2:=Blk.new (w.alloc (.cells #[.bool false, .slice none 0 0] 203)) #[.bool neg, .slice none 0 0] 203;rw[World.size_alloc] at h2;exact⟨tl.length,t, [], .slice none 0 0,rfl,by rw[Ht.out,List.take_length],za0 _,h1.alloc _,h2,OwnL.nil _ _,((zdG _ w).alloc (za0 _) _).alloc (by simp) _,by simp,by simp,by simp[val,List.take_length]⟩
 case round=>
  obtain⟨k,d,L,v,rfl,hd,hk,hR,hX,hown,hB,hlen,hdig,hval⟩:=hrel;have hdk:d.size=k:=by rw[<-bj,hd,zaE];omega
  have htl:tl.length<=200:=by rw[<-Ht.out,bj];exact a2
  have Hd:=zdF hd;clear hd;have Hdig:=zdF hdig;clear hdig;have Hval:=zdF hval;clear hval;have x0:wr.cell? ⟨w.heap.size+1,0,none⟩=some (.bool neg):=hX.cell rfl;have x1:wr.cell? ⟨w.heap.size+1,1,none⟩=some v:=hX.cell rfl;have f0:=hX.free 0;have f1:=hX.free 1;have r0:wr.cell? ⟨w.heap.size,0,none⟩=some (.bool false):=hR.cell rfl;have r1:wr.cell? ⟨w.heap.size,1,none⟩=some (.slice none 0 0):=hR.cell rfl;have fr0:=hR.free 0;have fr1:=hR.free 1;have hbs:=hB.size;have hxl:=hX.lt;by_cases hk0:k=0
  ·subst hk0;have Hfin:Hid (ae 10000 (val 10000 L)=ae 10000 (bm tl)):=by
    show ae 10000 (val 10000 L)=ae 10000 (bm tl);rw[<-Hval.out,zbv];simp[bm,val]
   go_wp2_with (go_at_call 237;refine(eT L Hdig.out _ _ hown.rd).mono ?_;rw[Hfin.out];rintro e w1 ⟨v1,rfl,hr1,hf1,hb1⟩;obtain⟨ad,cp,rfl,_⟩:=hr1.open';have X1:=hX.below hb1 hxl;have R1:=hR.below hb1 (by omega);have y0:w1.cell? ⟨w.heap.size+1,0,none⟩=some (.bool neg):=X1.cell rfl;have y1:w1.cell? ⟨w.heap.size+1,1,none⟩=some v:=X1.cell rfl;have g1:=X1.free 1;have q0:w1.cell? ⟨w.heap.size,0,none⟩=some (.bool false):=R1.cell rfl;have q1:w1.cell? ⟨w.heap.size,1,none⟩=some (.slice none 0 0):=R1.cell rfl;have h0:=R1.free 0;have h1:=R1.free 1);refine bodyPost_ret (v:= .agg #[.bool neg, .slice ad (ae 10000 (bm tl)).length cp]) (by simp[results,results229,go_sem,q0,q1,h0,h1]) rfl ?_;have hfr:=hf1 _ hown.from
   refine⟨_,rfl, ?_,hfr.mono (by omega), ?_⟩
   ·exact((hr1.setCell hfr (by simp) _).setCell hfr (by simp) _).setCell hfr (by simp) _
   ·exact(((hB.trans (hb1.mono hbs)).setCell (by simp) _).setCell (by simp) _).setCell (by simp) _
  ·have hd0:0<d.size:=by omega
   obtain⟨f,hf⟩: ∃f,k - 4=f:=⟨_,rfl⟩;have hm:max (0:Int) ((k:Int) - 4)=(f:Int):=by omega
   have hfk:f<=k:=by omega
   have hchunk:(d.extract f d.size).data.toList=(tl.take k).drop (k - 4):=by rw[Lib.extract_to_end,Hd.out,hf]
   have hc1:(d.extract f d.size).size<=18:=by rw[<-bj,hchunk,zbQ,zaE];omega
   have hc2:(d.extract f d.size).data.toList≠ []:=by
    intro e;have:=congrArg List.length e;rw[hchunk,zbQ,zaE] at this;simp at this;omega
   have hc3: ∀c∈(d.extract f d.size).data.toList,dig c=true:=by
    rw[hchunk];intro c hc;exact Ha3.out c (zbd (zbD hc))
   have hlt:=FP hk Ha3.out;have hst:=zW hk Hval.out;have hrest:(d.extract 0 f).data.toList=tl.take f:=by
    rw[zdm];simp;rw[Hd.out,List.take_take];congr 1;omega
   rw[hf] at hst;obtain⟨g,hg⟩: ∃g,bm ((tl.take k).drop (k - 4))=g:=⟨_,rfl⟩;rw[hf] at hlt hg hchunk;rw[hg] at hlt hst;have hA: ∀w,Calls prog 130 #[.string (d.extract f d.size)] w λe w'=>e= .returned (.tuple #[.int .i64 (g:Int), .nilIface])/\Below w.heap.size w w':=by
    intro w;have:=GQ _ w hc1 hc2 hc3;rwa[hchunk,hg] at this
   obtain⟨c,hcc⟩: ∃c,d.extract f d.size=c:=⟨_,rfl⟩;obtain⟨d2,hd2⟩: ∃c,d.extract 0 f=c:=⟨_,rfl⟩;rw[hcc] at hA;rw[hd2] at hrest;rw[hdk] at hcc;have HA:=zdF hA;have Hrest:=zdF hrest;have Hst:=zdF hst;have Hf:=zdF hf;clear hc1 hc2 hc3 hchunk hA hrest hst hg hf;have hlL:L.length<=300:=by omega
   go_wp2_with (first
    |(go_at_call 130;refine(HA.out _).mono ?_;rintro e w1 ⟨rfl,hb1⟩;have s1:=hb1.size;have y1:w1.cell? ⟨w.heap.size+1,1,none⟩=some v:=(hb1.cell (p:=⟨w.heap.size+1,1,none⟩) hxl).trans x1)
    |(at_builtin;refine AD rfl _ _ rfl rfl ((hown.belowTo hb1).alloc _) w1.heap.size 1 _ rfl (aP _ _ _) g rfl (by omega) (by simp;omega) ?_;intro v' w2 hown2 hB2;obtain⟨gb,cap,rfl,hgb1,hgb2⟩:=hown2.some_of;have z1:w2.cell? ⟨w.heap.size+1,1,none⟩=some v:=(((hX.below hb1 hxl).alloc _).below hB2 (by omega)).cell rfl;have zf:=(((hX.below hb1 hxl).alloc (.cells #[.int .i64 (g:Int)] 3)).below hB2 (by omega)).free 1))
   go_roundw
   case rel=>
    refine⟨f,d2,_,_,rfl,Hrest.out,by omega, ?_, ?_,hown2.setOther (by simp) _, ?_,by simp;omega, ?_,Hst.out⟩
    ·exact(((hR.below hb1 (by omega)).alloc _).below hB2 (by omega)).setOther (by simp) _
    ·exact(((hX.below hb1 hxl).alloc _).below hB2 (by omega)).set 1 _
    ·exact((hB.trans (hb1.mono hbs)).alloc (zac hbs s1) _|>.trans (hB2.mono (by omega))).setCell (by simp) _
    ·intro z hz;rcases za8.1 hz with h|h
     ·exact Hdig.out z h
     ·simp at h;omega
   case measure=>
    have e1:d2.size=f:=by rw[<-bj,Hrest.out,zaE];omega
    simp only[e1,hdk];have:=Hf.out;omega
attribute [local go_sem] Oper.semAt_some
theorem Q1 (x y:Int) (w:World):Calls prog 236 #[.int .i64 x, .int .i64 y] w λe w'=>e= .returned (.int .i64 (VQ x y))/\w=w':=by
 refine(cmp_Compare_int x y w).mono ?_;rintro e w' ⟨rfl,rfl⟩;exact⟨rfl,rfl⟩
theorem wL (x y:Nat) (aa ab:Option Addr) (ca cb:Nat) (w:World) (ha:Rd am w (.slice aa (ae 10000 x).length ca) (ae 10000 x)) (hb:Rd am w (.slice ab (ae 10000 y).length cb) (ae 10000 y)) (hlen:(ae 10000 x).length=(ae 10000 y).length) (hx:(ae 10000 x).length<=1000):
 Calls prog 181 #[.slice aa (ae 10000 x).length ca, .slice ab (ae 10000 y).length cb] w λe w'=>e= .returned (.int .i64 (dB x y))/\Below w.heap.size w w':=by
 have hsa:=hb.addr;obtain⟨n,hn⟩: ∃n,(ae 10000 x).length=n:=⟨_,rfl⟩;have Hn:=zdF hn;have Hm:=zdF (hlen.symm.trans hn);have Ha:=zdF ha;have Hb:=zdF hb;rw[<-hlen];rw[hn] at hx ⊢;have hc:((n:Int) !=n)=false:=by simp
 clear hlen hn ha hb hsa;refine(callsIn_wide (n:=5)).1 ?_;refine callsIn_of_wp_marks func181 rfl trivial ?_ rfl;simp only[ntmps181,zbq,za4,za9,Nat.reduceAdd,Nat.reduceSub,zbT,zbU,zbV,zbW,zaM,zaO]
 gi_wp2_with (refine⟨trivial, ?_⟩;gi_at_call 230;refine(callsIn_wide.2 (gD _ _ _ _)).mono ?_;rintro e w' ⟨rfl,rfl⟩)
 have hM0:Blk (((w.alloc (.cells #[.slice ab n cb] 201)).alloc (.cells #[.int .i64 0] 3)).alloc (.cells #[.slice aa n ca] 201)) w.heap.size #[.slice ab n cb] 201:=((Blk.new w _ _).alloc _).alloc _;have hR0:Blk (((w.alloc (.cells #[.slice ab n cb] 201)).alloc (.cells #[.int .i64 0] 3)).alloc (.cells #[.slice aa n ca] 201)) (w.heap.size+1) #[.int .i64 0] 3:=(Blk.newAt _ _ _ (by simp)).alloc _;have hS0:Blk (((w.alloc (.cells #[.slice ab n cb] 201)).alloc (.cells #[.int .i64 0] 3)).alloc (.cells #[.slice aa n ca] 201)) (w.heap.size+1+1) #[.slice aa n ca] 201:=Blk.newAt _ _ _ (by simp);have hB0:Below w.heap.size w (((w.alloc (.cells #[.slice ab n cb] 201)).alloc (.cells #[.int .i64 0] 3)).alloc (.cells #[.slice aa n ca] 201)):=(((zdG _ w).alloc (za0 _) _).alloc (by simp) _).alloc (by simp;omega) _;have hsz:w.heap.size+1+1+1=(((w.alloc (.cells #[.slice ab n cb] 201)).alloc (.cells #[.int .i64 0] 3)).alloc (.cells #[.slice aa n ca] 201)).heap.size:=by simp
 generalize (((w.alloc (.cells #[.slice ab n cb] 201)).alloc (.cells #[.int .i64 0] 3)).alloc (.cells #[.slice aa n ca] 201))=W0 at*
 refine qM (by omega) (w.heap.size+1+1) w.heap.size rfl (.slice aa n ca) (ae 10000 x) (by rw[Hn.out];omega) hS0.lt (by omega) (hS0.cell rfl) ?rd ?fr rfl
  (λpre W=>((∀p∈pre,(ae 10000 y)[p.1.1]? =some p.1.2)/\Blk W w.heap.size #[.slice ab n cb] 201/\Blk W (w.heap.size+1) #[.int .i64 0] 3)/\Below w.heap.size w W)
  (λc pre W=>(c= .ret/\ ∃(ini:List (cf (ae 10000 x))) (last:cf (ae 10000 x)) (d:Nat),pre=ini++ [last]/\(∀p∈ini,(ae 10000 y)[p.1.1]? =some p.1.2)/\(ae 10000 y)[last.1.1]? =some d/\last.1.2≠d/\Blk W (w.heap.size+1) #[.int .i64 (VQ (last.1.2:Int) (d:Int))] 3)/\Below w.heap.size w W)
  ?own ?ownx ?start (λp t=>(((t.setIfInBounds 19 (.int .i64 (p.1.1:Int))).setIfInBounds 20 (.int .i64 (p.1.2:Int))).setIfInBounds 5 (.int .i64 (p.1.1:Int))).setIfInBounds 6 (.int .i64 (p.1.2:Int))) ?assign ?body ?done ?stop
 case rd=>have:=Ha.out.below hB0;rwa[Hn.out] at this
 case fr=>
  intro k hk;have:=Ha.out;rw[Hn.out] at this;rcases this with ⟨h,_⟩|⟨b,off,cap,h,hb,_⟩
  ·cases h;cases hk
  ·cases h;cases hk;exact hb
 case own=>exact OwnFrom.and (Own.from (λs A B row hs hg hr=>⟨hs.1,hs.2.1.kept hg hr,hs.2.2.kept hg hr⟩) _) (ownFrom_below (za0 _) (by omega))
 case ownx=>exact λc=>OwnFrom.and (Own.from (λs A B row hs hg hr=>by obtain⟨e,ini,last,d,h1,h2,h3,h4,h5⟩:=hs;exact⟨e,ini,last,d,h1,h2,h3,h4,h5.kept hg hr⟩) _) (ownFrom_below (za0 _) (by omega))
 case start=>exact⟨⟨by simp,hM0,hR0⟩,hB0⟩
 case assign=>
  intro l x W K hK;simp only[zbl,zaR,zba] at hK
  gi_wp2
  exact hK
 case body=>
  rintro l pre p W ⟨⟨hpre,hM,hR⟩,hB⟩ _;simp only[zbl,zaR,zba];have hin:=(zaV.1 p.2).1;rw[Hn.out] at hin;obtain⟨bb,ob,rfl,hbb,hc2⟩: ∃b off,ab=some ⟨b,off,none⟩/\b<w.heap.size/\w.cell? ⟨b,off+p.1.1,none⟩=some (am ((ae 10000 y)[p.1.1]'(by rw[Hm.out];exact hin))):=by
   obtain⟨a',c',e,_,_,hcell⟩:=Hb.out.open';injection e with e1 e2 e3
   subst e1;exact hcell p.1.1 (by rw[Hm.out];exact hin)
  obtain⟨d,hd⟩: ∃d,(ae 10000 y)[p.1.1]'(by rw[Hm.out];exact hin)=d:=⟨_,rfl⟩;have Hd:=zdF (show (ae 10000 y)[p.1.1]? =some d by rw[zaa (by rw[Hm.out];exact hin),hd]);have k2:=(hB.cell (p:=⟨bb,ob+p.1.1,none⟩) hbb).trans hc2;rw[hd] at k2;have m0:W.cell? ⟨w.heap.size,0,none⟩=some (.slice (some ⟨bb,ob,none⟩) n cb):=hM.cell rfl;have r0:W.cell? ⟨w.heap.size+1,0,none⟩=some (.int .i64 0):=hR.cell rfl;have rf:=hR.free 0;have Hpre:=zdF hpre;clear hpre hc2 hd;by_cases hne:p.1.2=d
  ·have c1:((p.1.2:Int) !=(d:Int))=false:=by simp[hne]
   gi_wp2
   exact⟨KeepsFrom.refl _ _,KpB.refl _ _ _,⟨λq hq=>(za8.1 hq).elim (Hpre.out q) (λe=>by simp at e;subst e;rw[Hd.out,hne]),hM,hR⟩,hB⟩
  ·have c1:((p.1.2:Int) !=(d:Int))=true:=by rw[zdE];omega
   gi_wp2_with (refine⟨trivial, ?_⟩;gi_at_call 236;refine(CallsIn.inRound l (callsIn_wide.2 (Q1 _ _ _))).mono ?_;rintro e w' ⟨rfl,rfl⟩)
   exact⟨(KeepsOthers.setCell _ _ _).from _,⟨rfl,pre,p,d,rfl,Hpre.out,Hd.out,hne,hR.set 0 _⟩,hB.setCell (by simp) _⟩
 case done=>
  rintro D ys W hD hys ⟨⟨hall,hM,hR⟩,hB⟩ hK;have r0:W.cell? ⟨w.heap.size+1,0,none⟩=some (.int .i64 0):=hR.cell rfl;have rf:=hR.free 0;have hxy:x=y:=by
   have h5:=Cr (l:=ae 10000 x) (m:=ae 10000 y) (by rw[Hn.out,Hm.out]) (za0 _) hys hall;rw[zaJ,zaZ,zaZ] at h5;exact nI (by decide) h5
  have Hxy:=zdF hxy;clear hxy hys hall
  gi_wp2
  have hK':=(KeepsOthers.setCell W ⟨w.heap.size+1,0,none⟩ (.int .i64 0)).same D _ hK rfl;refine⟨by simp, .inl ⟨_,_,rfl,run_takeDeferred hK', ?_⟩⟩;have hR2:=(hR.set 0 (.int .i64 0)).kept (grownBy_putObj' _ D (.deferred none)) (λr e=>by cases e;exact⟨_,hK',rfl⟩);have hc5:((W.setCell ⟨w.heap.size+1,0,none⟩ (.int .i64 0)).putObj D (.deferred none)).cell? ⟨w.heap.size+1,0,none⟩=some (.int .i64 0):=hR2.cell rfl;refine⟨.int .i64 0, ?_,cc (BT Hxy.out).symm,(hB.setCell (by simp) _).trans (belowK_b (w:=w) (za0 _) _ D _ _ (by omega) hK' rfl rfl)⟩;simp[results,f181,go_sem,hc5]
 case stop=>
  rintro D c pre W hD ⟨k,hk,hpre⟩ ⟨⟨rfl,ini,last,d,rfl,hini,hd,hne,hR⟩,hB⟩ hK;have hcmp:dB x y=VQ (last.1.2:Int) (d:Int):=by
   obtain⟨j,rfl,e1,e2⟩:=Ku hpre;have h5:=Cr (by rw[Hn.out,Hm.out]) (by omega) e1 hini;have hlx:=last.2;rw[e2] at hlx hd;have hj1:(ae 10000 x).length - 1 - j<(ae 10000 x).length:=by omega
   have hj2:(ae 10000 x).length - 1 - j<(ae 10000 y).length:=by rw[Hm.out,Hn.out] at*;omega
   have ex:=(zaV.1 hlx).2;have ey:=(zaV.1 hd).2;have e3:(ae 10000 x).length - j=(ae 10000 x).length - 1 - j+1:=by omega
   rw[e3] at h5;rw[iM];by_cases hlt:last.1.2<d
   ·rw[jN hlt,jN (lD (by decide) hj1 hj2 h5 (by rw[ex,ey];exact hlt))]
   ·rw[jO (show d<last.1.2 by omega),jO (lD (by decide) hj2 hj1 h5.symm (by rw[ex,ey];omega))]
  have Hcmp:=zdF hcmp;clear hcmp
  gi_wp2
  refine⟨by simp, .inl ⟨_,_,rfl,run_takeDeferred hK, ?_⟩⟩;have hR2:=hR.kept (grownBy_putObj' _ D (.deferred none)) (λr e=>by cases e;exact⟨_,hK,rfl⟩);have hc5:(W.putObj D (.deferred none)).cell? ⟨w.heap.size+1,0,none⟩=some (.int .i64 (VQ (last.1.2:Int) (d:Int))):=hR2.cell rfl;refine⟨.int .i64 (VQ (last.1.2:Int) (d:Int)), ?_,cc Hcmp.out.symm,hB.trans (belowK_b (w:=w) (za0 _) _ D _ _ (by omega) hK rfl rfl)⟩;simp[results,f181,go_sem,hc5]
theorem gc (x y:Nat) (va vb:Value) (w:World) (ha:Rd am w va (ae 10000 x)) (hb:Rd am w vb (ae 10000 y)) (hx:(ae 10000 x).length<=1000):
 Calls prog 181 #[va,vb] w λe w'=>e= .returned (.int .i64 (dB x y))/\Below w.heap.size w w':=by
 obtain⟨aa,ca,rfl,_⟩:=ha.open';obtain⟨ab,cb,rfl,_⟩:=hb.open';by_cases hlen:(ae 10000 x).length=(ae 10000 y).length
 ·exact wL x y aa ab ca cb w ha hb hlen hx
 ·have hcmp:VQ ((ae 10000 x).length:Int) ((ae 10000 y).length:Int)=dB x y:=by
   rw[iM];by_cases hlt:(ae 10000 x).length<(ae 10000 y).length
   ·rw[jN hlt,jN (fX (B:=10000) (by decide) hlt)]
   ·have hgt:(ae 10000 y).length<(ae 10000 x).length:=by omega
    rw[jO hgt,jO (fX (B:=10000) (by decide) hgt)]
  obtain⟨n,hn⟩: ∃n,(ae 10000 x).length=n:=⟨_,rfl⟩;obtain⟨m,hm⟩: ∃n,(ae 10000 y).length=n:=⟨_,rfl⟩;rw[hn,hm] at hcmp hlen ⊢;have hc:((n:Int) !=m)=true:=by rw[zdE];omega
  have Hcmp:=zdF hcmp;clear hn hm hcmp ha hb hlen hx;go_enter func181,ntmps181;go_wp2_with (go_at_call 236;refine(Q1 _ _ _).mono ?_;rw[Hcmp.out];rintro e w' ⟨rfl,rfl⟩);refine bodyPost_ret (v:= .int .i64 (dB x y)) (by simp[results,results181,go_sem]) rfl ⟨rfl, ?_⟩;exact((zdG _ w).alloc (za0 _) _).alloc (by simp) _
theorem NO (l:zdL) (v:Value) (i:Nat) (w:World) (hv:Rd am w v l) (hi:i<=1099511627776):
 Calls prog 271 #[v, .int .i64 i] w λe w'=>e= .returned (.int .i64 (l.getD i 0:Nat))/\w=w':=by
 obtain⟨a,c,rfl,h1,h2,hc⟩:=hv.open';by_cases hl:i<l.length
 ·obtain⟨b,off,rfl,hb,k1⟩:=hc i hl;have e1:l.getD i 0=l[i]:=by simp[List.getD,zaa hl]
  rw[e1];obtain⟨d,hd⟩: ∃d,l[i]=d:=⟨_,rfl⟩;rw[hd] at k1 ⊢;clear e1 hd hc hv;go_enter func271,ntmps271;go_wp2;go_ret;exact⟨rfl,rfl⟩
 ·have e1:l.getD i 0=0:=by simp[List.getD,zad (show l.length<=i by omega)]
  rw[e1];clear e1 hc hv;go_enter func271,ntmps271;go_wp2;go_ret;exact⟨rfl,rfl⟩
def Ct (n:Nat) (d:Nat->Int) (w:World) (carry out i:Value) (wr:World):Prop:=
 ∃(k:Nat) (c:Int) (l:zdL),i= .int .i64 k/\carry= .int .i64 c/\OwnL am 3 wr w.heap.size out l/\Below w.heap.size w wr/\l.length=k/\(∀z∈l,z<10000)/\ -1<=c/\c<=9999/\
  (val 10000 l:Int)+((10000^k:Nat):Int)*c=aO 10000 d k/\(k<=n\/(c=0/\k<=n+1))
theorem dM {r:Nat} {d:Nat->Int} {w1:World} {c c':Int} {out i' cv:Value}
 (hl:l.length=k) (hd: ∀z∈l,z<10000) (hv:(val 10000 l:Int)+((10000^k:Nat):Int)*c=aO 10000 d k) (h1:d k+c=(r:Int)+10000*c') (hr:r<10000) (Z: -1<=c') (hc2:c'<=9999)
 (hin:k<n\/c≠0) (hz: ∀i,n<=i->d i=0) (hb1: -1<=c) (hb2:c<=9999) (hS:0<=aO 10000 d n) (J:k<=n\/(c=0/\k<=n+1))
 (V:OwnL am 3 w1 w.heap.size out (l++ [r])) (hB:Below w.heap.size w w1) (hi:i'= .int .i64 ((k+1:Nat):Int)) (hcv:cv= .int .i64 c'):Ct n d w cv out i' w1:=by
 refine⟨k+1,c',_,hi,hcv,V,hB,by simp[hl], ?_,Z,hc2,Dv hv hl h1, ?_⟩
 ·intro z hm;rcases za8.1 hm with h|h
  ·exact hd z h
  ·simp at h;omega
 ·by_cases hk:k<n
  ·exact .inl hk
  ·have Y:c≠0:=hin.resolve_left hk;rcases J with h|h
   ·have J:k=n:=by omega
    subst J;have hd0:=hz k (za0 _);rw[hd0] at h1;have hcm:c≠ -1:=by
     intro e;subst e;exact rx hv hl hd hS
    exact .inr ⟨by omega,za0 _⟩
   ·exact absurd h.1 Y
theorem sZ (gf:Nat) (p1 p2:Value) (eg: ∀args w,(callFunc gf args).run prog w= .ok (.enter gf args) w) (n:Nat) (d:Nat->Int) (w:World) (hn:n<=1000) (hd: ∀i, -9999<=d i/\d i<=99980001) (hz: ∀i,n<=i->d i=0) (hS:0<=aO 10000 d n)
 (hg: ∀(i:Nat) W,i<=n+1->Below w.heap.size w W->Calls prog gf #[.int .i64 i,p1,p2] W λe W'=>e= .returned (.int .i64 (d i))/\Below W.heap.size W W'):
 Calls prog 269 #[.int .i64 n, .int .i64 0, .func (.func gf) #[] #[p1,p2]] w λe w'=> ∃v,e= .returned v/\ ∃l,Rd am w' v l/\From w.heap.size v/\(∀z∈l,z<10000)/\(val 10000 l:Int)=aO 10000 d n/\Below w.heap.size w w':=by
 have Hg:=zdF hg;have Hd:=zdF hd;have Hz:=zdF hz;have HS:=zdF hS;clear hg hd hz hS;obtain⟨i0,hi,hz0,hz1,hz2⟩:=info_parts gE;go_enter func269,ntmps269;go_wp2_with (at_make;refine wpList_make_own _ rfl _ _ 201 rfl w.heap.size 3 i0 (.int .i64 0) 1 underlying201 hi hz0 hz1 .i64 .i64 _ (n+1) rfl rfl (by omega) (by rw[hz2];omega) (by simp only[maxLen];omega) (za0 _) ?_;intro w1 hown1 hgrow1);have hB1:Below w.heap.size w w1:=(zdG _ w).grown hgrow1 (za0 _) (λk hk=>by cases hk)
 go_loopw [1,7,8] (λcarry out i wr=>Ct n d w carry out i wr) (λ_ _ i _=>(n+2 - intOf i).toNat)
 case atStart=>exact⟨0,0, [],rfl,rfl,hown1,hB1,rfl,by simp,by omega,by omega,by simp[val,aO], .inl (zaA _)⟩
 case round=>
  obtain⟨k,c,l,rfl,rfl,hown,hB,hl,hdg,hc1,hc2,hv,hkn⟩:=hrel;have Hl:=zdF hl;clear hl;have Hdg:=zdF hdg;clear hdg;have Hv:=zdF hv;clear hv;clear hown1 hgrow1 hB1;have hbs:=hB.size;by_cases hin:k<n\/c≠0
  ·have hdk:=Hd.out k;have hlen:l.length<=n+2:=by rw[Hl.out];omega
   by_cases hkn0:k<n
   ·have hin:k<n\/c≠0:= .inl hkn0;by_cases hneg:d k+c<0
    ·
     obtain⟨r,er⟩: ∃r:Nat,(d k+c+10000).toNat=r:=⟨_,rfl⟩;obtain⟨q,eq⟩: ∃q:Int,(-1)=q:=⟨_,rfl⟩;have hE:=zdF (show d k+c=(r:Int)+10000*q by omega);have hr1:r<10000:=by omega
     have hq1:q<= -1/\ -1<=q:=by omega
     have Hq:=zdF (show -1<=q/\q<=9999 by omega);obtain⟨e,he⟩: ∃e,d k=e:=⟨_,rfl⟩;have hgk:=λh1 h2=>Hg.out k wr h1 h2;rw[he] at hgk hdk;have he1:e+c<=(r:Int)+10000*q:=by have:=hE.out;omega
     have he2:(r:Int)+10000*q<=e+c:=by have:=hE.out;omega
     have Hgk:=zdF hgk;have Hin:=zdF hin;clear hgk he hin er eq hneg;go_wp2_with (first|((with_reducible refine(Hgk.out (by omega) hB).mono ?_);rintro _ w2 ⟨rfl,hb2⟩;have hs2:=hb2.size)|(at_builtin;refine AD rfl _ _ rfl rfl ((hown.belowTo hb2).alloc _) w2.heap.size 1 _ rfl (aP _ _ _) r (int_eq (by omega)) (by omega) (by simp;omega) ?_;intro v' w3 hown3 hB3))
     go_roundw
     case rel=>exact dM Hl.out Hdg.out Hv.out hE.out hr1 Hq.out.1 Hq.out.2 Hin.out Hz.out hc1 hc2 HS.out hkn hown3 (((hB.trans (hb2.mono hB.size)).alloc (by omega) _).trans hB3) (int_eq (by omega)) (int_eq (by omega))
     case measure=>simp[intOf];omega
    ·by_cases hbig:10000<=d k+c
     ·
      obtain⟨r,er⟩: ∃r:Nat,((d k+c)%10000).toNat=r:=⟨_,rfl⟩;obtain⟨q,eq⟩: ∃q:Int,((d k+c) / 10000)=q:=⟨_,rfl⟩;have hE:=zdF (show d k+c=(r:Int)+10000*q by omega);have hr1:r<10000:=by omega
      have hq1:1<=q:=by omega
      have Hq:=zdF (show -1<=q/\q<=9999 by omega);obtain⟨e,he⟩: ∃e,d k=e:=⟨_,rfl⟩;have hgk:=λh1 h2=>Hg.out k wr h1 h2;rw[he] at hgk hdk;have he1:e+c<=(r:Int)+10000*q:=by have:=hE.out;omega
      have he2:(r:Int)+10000*q<=e+c:=by have:=hE.out;omega
      have Hgk:=zdF hgk;have Hin:=zdF hin;clear hgk he hin er eq hneg hbig;go_wp2_with (first|((with_reducible refine(Hgk.out (by omega) hB).mono ?_);rintro _ w2 ⟨rfl,hb2⟩;have hs2:=hb2.size)|(at_builtin;refine AD rfl _ _ rfl rfl ((hown.belowTo hb2).alloc _) w2.heap.size 1 _ rfl (aP _ _ _) r (int_eq (by omega)) (by omega) (by simp;omega) ?_;intro v' w3 hown3 hB3))
      go_roundw
      case rel=>exact dM Hl.out Hdg.out Hv.out hE.out hr1 Hq.out.1 Hq.out.2 Hin.out Hz.out hc1 hc2 HS.out hkn hown3 (((hB.trans (hb2.mono hB.size)).alloc (by omega) _).trans hB3) (int_eq (by omega)) (int_eq (by omega))
      case measure=>simp[intOf];omega
     ·
      obtain⟨r,er⟩: ∃r:Nat,(d k+c).toNat=r:=⟨_,rfl⟩;obtain⟨q,eq⟩: ∃q:Int,(0:Int)=q:=⟨_,rfl⟩;have hE:=zdF (show d k+c=(r:Int)+10000*q by omega);have hr1:r<10000:=by omega
      have hq1:q<=0/\0<=q:=by omega
      have Hq:=zdF (show -1<=q/\q<=9999 by omega);obtain⟨e,he⟩: ∃e,d k=e:=⟨_,rfl⟩;have hgk:=λh1 h2=>Hg.out k wr h1 h2;rw[he] at hgk hdk;have he1:e+c<=(r:Int)+10000*q:=by have:=hE.out;omega
      have he2:(r:Int)+10000*q<=e+c:=by have:=hE.out;omega
      have Hgk:=zdF hgk;have Hin:=zdF hin;clear hgk he hin er eq hneg hbig;go_wp2_with (first|((with_reducible refine(Hgk.out (by omega) hB).mono ?_);rintro _ w2 ⟨rfl,hb2⟩;have hs2:=hb2.size)|(at_builtin;refine AD rfl _ _ rfl rfl ((hown.belowTo hb2).alloc _) w2.heap.size 1 _ rfl (aP _ _ _) r (int_eq (by omega)) (by omega) (by simp;omega) ?_;intro v' w3 hown3 hB3))
      go_roundw
      case rel=>exact dM Hl.out Hdg.out Hv.out hE.out hr1 Hq.out.1 Hq.out.2 Hin.out Hz.out hc1 hc2 HS.out hkn hown3 (((hB.trans (hb2.mono hB.size)).alloc (by omega) _).trans hB3) (int_eq (by omega)) (int_eq (by omega))
      case measure=>simp[intOf];omega
   ·have hin:k<n\/c≠0:=hin;have hc0:((c:Int) !=0)=true:=by rw[zdE];omega
    by_cases hneg:d k+c<0
    ·
     obtain⟨r,er⟩: ∃r:Nat,(d k+c+10000).toNat=r:=⟨_,rfl⟩;obtain⟨q,eq⟩: ∃q:Int,(-1)=q:=⟨_,rfl⟩;have hE:=zdF (show d k+c=(r:Int)+10000*q by omega);have hr1:r<10000:=by omega
     have hq1:q<= -1/\ -1<=q:=by omega
     have Hq:=zdF (show -1<=q/\q<=9999 by omega);obtain⟨e,he⟩: ∃e,d k=e:=⟨_,rfl⟩;have hgk:=λh1 h2=>Hg.out k wr h1 h2;rw[he] at hgk hdk;have he1:e+c<=(r:Int)+10000*q:=by have:=hE.out;omega
     have he2:(r:Int)+10000*q<=e+c:=by have:=hE.out;omega
     have Hgk:=zdF hgk;have Hin:=zdF hin;clear hgk he hin er eq hneg;go_wp2_with (first|((with_reducible refine(Hgk.out (by omega) hB).mono ?_);rintro _ w2 ⟨rfl,hb2⟩;have hs2:=hb2.size)|(at_builtin;refine AD rfl _ _ rfl rfl ((hown.belowTo hb2).alloc _) w2.heap.size 1 _ rfl (aP _ _ _) r (int_eq (by omega)) (by omega) (by simp;omega) ?_;intro v' w3 hown3 hB3))
     go_roundw
     case rel=>exact dM Hl.out Hdg.out Hv.out hE.out hr1 Hq.out.1 Hq.out.2 Hin.out Hz.out hc1 hc2 HS.out hkn hown3 (((hB.trans (hb2.mono hB.size)).alloc (by omega) _).trans hB3) (int_eq (by omega)) (int_eq (by omega))
     case measure=>simp[intOf];omega
    ·by_cases hbig:10000<=d k+c
     ·
      obtain⟨r,er⟩: ∃r:Nat,((d k+c)%10000).toNat=r:=⟨_,rfl⟩;obtain⟨q,eq⟩: ∃q:Int,((d k+c) / 10000)=q:=⟨_,rfl⟩;have hE:=zdF (show d k+c=(r:Int)+10000*q by omega);have hr1:r<10000:=by omega
      have hq1:1<=q:=by omega
      have Hq:=zdF (show -1<=q/\q<=9999 by omega);obtain⟨e,he⟩: ∃e,d k=e:=⟨_,rfl⟩;have hgk:=λh1 h2=>Hg.out k wr h1 h2;rw[he] at hgk hdk;have he1:e+c<=(r:Int)+10000*q:=by have:=hE.out;omega
      have he2:(r:Int)+10000*q<=e+c:=by have:=hE.out;omega
      have Hgk:=zdF hgk;have Hin:=zdF hin;clear hgk he hin er eq hneg hbig;go_wp2_with (first|((with_reducible refine(Hgk.out (by omega) hB).mono ?_);rintro _ w2 ⟨rfl,hb2⟩;have hs2:=hb2.size)|(at_builtin;refine AD rfl _ _ rfl rfl ((hown.belowTo hb2).alloc _) w2.heap.size 1 _ rfl (aP _ _ _) r (int_eq (by omega)) (by omega) (by simp;omega) ?_;intro v' w3 hown3 hB3))
      go_roundw
      case rel=>exact dM Hl.out Hdg.out Hv.out hE.out hr1 Hq.out.1 Hq.out.2 Hin.out Hz.out hc1 hc2 HS.out hkn hown3 (((hB.trans (hb2.mono hB.size)).alloc (by omega) _).trans hB3) (int_eq (by omega)) (int_eq (by omega))
      case measure=>simp[intOf];omega
     ·
      obtain⟨r,er⟩: ∃r:Nat,(d k+c).toNat=r:=⟨_,rfl⟩;obtain⟨q,eq⟩: ∃q:Int,(0:Int)=q:=⟨_,rfl⟩;have hE:=zdF (show d k+c=(r:Int)+10000*q by omega);have hr1:r<10000:=by omega
      have hq1:q<=0/\0<=q:=by omega
      have Hq:=zdF (show -1<=q/\q<=9999 by omega);obtain⟨e,he⟩: ∃e,d k=e:=⟨_,rfl⟩;have hgk:=λh1 h2=>Hg.out k wr h1 h2;rw[he] at hgk hdk;have he1:e+c<=(r:Int)+10000*q:=by have:=hE.out;omega
      have he2:(r:Int)+10000*q<=e+c:=by have:=hE.out;omega
      have Hgk:=zdF hgk;have Hin:=zdF hin;clear hgk he hin er eq hneg hbig;go_wp2_with (first|((with_reducible refine(Hgk.out (by omega) hB).mono ?_);rintro _ w2 ⟨rfl,hb2⟩;have hs2:=hb2.size)|(at_builtin;refine AD rfl _ _ rfl rfl ((hown.belowTo hb2).alloc _) w2.heap.size 1 _ rfl (aP _ _ _) r (int_eq (by omega)) (by omega) (by simp;omega) ?_;intro v' w3 hown3 hB3))
      go_roundw
      case rel=>exact dM Hl.out Hdg.out Hv.out hE.out hr1 Hq.out.1 Hq.out.2 Hin.out Hz.out hc1 hc2 HS.out hkn hown3 (((hB.trans (hb2.mono hB.size)).alloc (by omega) _).trans hB3) (int_eq (by omega)) (int_eq (by omega))
      case measure=>simp[intOf];omega
  ·have h1: ¬k<n:=λh=>hin (.inl h);obtain rfl:c=0:=by omega
   go_wp2;go_ret;refine⟨_,rfl,l,hown.rd,hown.from,Hdg.out, ?_,hB⟩;rw[FQ Hv.out];exact oX Hz.out k (by omega)
theorem oq (l:zdL) (v:Value) (i:Nat) (w:World) (J:Rd am w v l) (hi:i<=1099511627776):
 Calls prog 271 #[v, .int .i64 i] w λe w'=>e= .returned (.int .i64 (l.getD i 0:Nat))/\w'=w:=
 (NO l v i w J hi).mono λ_ _ h=>⟨h.1,h.2.symm⟩
theorem Eg (l m:zdL) (va vb:Value) (i:Nat) (a b:Addr) (w:World) (ha:w.cell? a=some va) (hb:w.cell? b=some vb) (hva:Rd am w va l) (hvb:Rd am w vb m) (hi:i<=1099511627776) (hl: ∀z∈l,z<10000) (hm: ∀z∈m,z<10000):
 Calls prog 270 #[.int .i64 i, .pointer (some a), .pointer (some b)] w λe w'=>e= .returned (.int .i64 ((l.getD i 0:Nat)+(m.getD i 0:Nat):Int))/\Below w.heap.size w w':=by
 have Ha:=zdF (λq=>oq l va i (w.drewN q) (hva.below ((zdG _ w).drewN q)) hi);have Hb:=zdF (λq=>oq m vb i (w.drewN q) (hvb.below ((zdG _ w).drewN q)) hi);obtain⟨aa,ca,rfl,_⟩:=hva.open';obtain⟨ab,cb,rfl,_⟩:=hvb.open';have h1:l.getD i 0<10000:=by
  by_cases h:i<l.length
  ·rw[List.getD,zaa h];exact hl _ (zas h)
  ·rw[List.getD,zad (by omega)];decide
 have h2:m.getD i 0<10000:=by
  by_cases h:i<m.length
  ·rw[List.getD,zaa h];exact hm _ (zas h)
  ·rw[List.getD,zad (by omega)];decide
 obtain⟨x,hx⟩: ∃x,l.getD i 0=x:=⟨_,rfl⟩;obtain⟨y,hy⟩: ∃x,m.getD i 0=x:=⟨_,rfl⟩;rw[hx] at h1 Ha ⊢;rw[hy] at h2 Hb ⊢;clear hx hy hl hm hva hvb;have hw1:IntKind.i64.wrap ((x:Int)+(y:Int))=(x:Int)+y:=IntWalk.i64_in _ (by omega);go_enter func270,ntmps270;go_wp2_with fail
 go_quiet ((first|(go_at_call 271;with_reducible exact Calls.quiet_of_same (Ha.out _))|(go_at_call 271;with_reducible exact Calls.quiet_of_same (Hb.out _))))
 go_wp2;go_ret;exact⟨rfl,(zdG _ _).drewN _⟩
theorem AE (l m:zdL) (va vb:Value) (i:Nat) (a b:Addr) (w:World) (ha:w.cell? a=some va) (hb:w.cell? b=some vb) (hva:Rd am w va l) (hvb:Rd am w vb m) (hi:i<=1099511627776) (hl: ∀z∈l,z<10000) (hm: ∀z∈m,z<10000):
 Calls prog 272 #[.int .i64 i, .pointer (some a), .pointer (some b)] w λe w'=>e= .returned (.int .i64 ((l.getD i 0:Nat) - (m.getD i 0:Nat):Int))/\Below w.heap.size w w':=by
 have Ha:=zdF (λq=>oq l va i (w.drewN q) (hva.below ((zdG _ w).drewN q)) hi);have Hb:=zdF (λq=>oq m vb i (w.drewN q) (hvb.below ((zdG _ w).drewN q)) hi);obtain⟨aa,ca,rfl,_⟩:=hva.open';obtain⟨ab,cb,rfl,_⟩:=hvb.open';have h1:l.getD i 0<10000:=by
  by_cases h:i<l.length
  ·rw[List.getD,zaa h];exact hl _ (zas h)
  ·rw[List.getD,zad (by omega)];decide
 have h2:m.getD i 0<10000:=by
  by_cases h:i<m.length
  ·rw[List.getD,zaa h];exact hm _ (zas h)
  ·rw[List.getD,zad (by omega)];decide
 obtain⟨x,hx⟩: ∃x,l.getD i 0=x:=⟨_,rfl⟩;obtain⟨y,hy⟩: ∃x,m.getD i 0=x:=⟨_,rfl⟩;rw[hx] at h1 Ha ⊢;rw[hy] at h2 Hb ⊢;clear hx hy hl hm hva hvb;have hw1:IntKind.i64.wrap ((x:Int) - (y:Int))=(x:Int) - y:=IntWalk.i64_in _ (by omega);go_enter func272,ntmps272;go_wp2_with fail
 go_quiet ((first|(go_at_call 271;with_reducible exact Calls.quiet_of_same (Ha.out _))|(go_at_call 271;with_reducible exact Calls.quiet_of_same (Hb.out _))))
 go_wp2;go_ret;exact⟨rfl,(zdG _ _).drewN _⟩
theorem Kx (l:zdL) (va:Value) (n i:Nat) (a b:Addr) (w:World) (ha:w.cell? a=some va) (hb:w.cell? b=some (.int .i64 (n:Int))) (hva:Rd am w va l) (hi:i<=1099511627776) (hl: ∀z∈l,z<10000) (hn:n<10000):
 Calls prog 286 #[.int .i64 i, .pointer (some a), .pointer (some b)] w λe w'=>e= .returned (.int .i64 ((l.getD i 0:Nat)*n:Int))/\Below w.heap.size w w':=by
 have Ha:=zdF (λq=>oq l va i (w.drewN q) (hva.below ((zdG _ w).drewN q)) hi);obtain⟨aa,ca,rfl,_⟩:=hva.open';have h1:l.getD i 0<10000:=by
  by_cases h:i<l.length
  ·rw[List.getD,zaa h];exact hl _ (zas h)
  ·rw[List.getD,zad (by omega)];decide
 obtain⟨x,hx⟩: ∃x,l.getD i 0=x:=⟨_,rfl⟩;rw[hx] at h1 Ha ⊢;clear hx hl hva;have h5:x*n<=9999*9999:=zb4 (by omega) (by omega);have hw1:IntKind.i64.wrap ((x:Int)*(n:Int))=(x:Int)*n:=IntWalk.i64_in _ (by rw[<-zb9];omega);go_enter func286,ntmps286;go_wp2_with fail
 go_quiet ((go_at_call 271;with_reducible exact Calls.quiet_of_same (Ha.out _)))
 go_wp2;go_ret;exact⟨rfl,(zdG _ _).drewN _⟩
theorem ij (i:Nat):(ae 10000 n).getD i 0<10000:=ff (by decide) n i
theorem lg {i:Nat} (h:l.length<=i):l.getD i 0=0:=by rw[List.getD,zad h];rfl
theorem dr {x:Nat} (h:(ae 10000 x).length<=k):aO 10000 (λi=>((ae 10000 x).getD i 0:Int)) k=(x:Int):=by
 rw[xT,zaI h,bi (by decide)]
theorem iV (x y:Nat) (va vb:Value) (w:World) (ha:Rd am w va (ae 10000 x)) (hb:Rd am w vb (ae 10000 y)) (hx:(ae 10000 x).length<=900) (hy:(ae 10000 y).length<=900):
 Calls prog 219 #[va,vb] w λe w'=> ∃v,e= .returned v/\Rd am w' v (ae 10000 (x+y))/\From w.heap.size v/\Below w.heap.size w w':=by
 obtain⟨aa,ca,rfl,_⟩:=ha.open';obtain⟨ab,cb,rfl,_⟩:=hb.open';have Ha:=zdF ha;have Hb:=zdF hb;obtain⟨n,hn⟩: ∃n,(ae 10000 x).length=n:=⟨_,rfl⟩;obtain⟨m,hm⟩: ∃n,(ae 10000 y).length=n:=⟨_,rfl⟩;have Hn:=zdF hn;have Hm:=zdF hm;rw[hn] at hx Ha ⊢;rw[hm] at hy Hb ⊢;clear hn hm ha hb;have hmax:max (n:Int) (m:Int)=((max n m:Nat):Int):=by omega
 obtain⟨N,hN⟩: ∃N,max n m=N:=⟨_,rfl⟩;rw[hN] at hmax;have hN1:n<=N:=by omega
 have hN2:m<=N:=by omega
 have hN3:N<=900:=by omega
 clear hN;have hb1:Blk ((w.alloc (.cells #[.slice aa n ca] 201)).alloc (.cells #[.slice ab m cb] 201)) w.heap.size #[.slice aa n ca] 201:=(Blk.new w _ _).alloc _;have hb2:Blk ((w.alloc (.cells #[.slice aa n ca] 201)).alloc (.cells #[.slice ab m cb] 201)) (w.heap.size+1) #[.slice ab m cb] 201:=Blk.newAt _ _ _ (by simp);have hB0:Below w.heap.size w ((w.alloc (.cells #[.slice aa n ca] 201)).alloc (.cells #[.slice ab m cb] 201)):=((zdG _ w).alloc (za0 _) _).alloc (by simp) _
 have Hfold:=zdF (sZ 270 (.pointer (some ⟨w.heap.size,0,none⟩)) (.pointer (some ⟨w.heap.size+1,0,none⟩)) (enters_of func270 (by kernel_rfl) rfl) N (λi=>((ae 10000 x).getD i 0:Int)+((ae 10000 y).getD i 0:Int))
  ((w.alloc (.cells #[.slice aa n ca] 201)).alloc (.cells #[.slice ab m cb] 201)) (by omega)
  (λi=>by have h1:=ij (n:=x) i;have h2:=ij (n:=y) i;(try dsimp only);omega) (λi hi=>by (try dsimp only);rw[lg (by rw[Hn.out];omega),lg (by rw[Hm.out];omega)];rfl)
  (by rw[ry,dr (by rw[Hn.out];exact hN1),dr (by rw[Hm.out];exact hN2)];omega)
  (λi W hi hW=>Eg _ _ _ _ i _ _ W ((hb1.below hW hb1.lt).cell rfl) ((hb2.below hW hb2.lt).cell rfl) ((Ha.out.below hB0).below hW) ((Hb.out.below hB0).below hW) (by omega) (aK (by decide) x) (aK (by decide) y)))
 have Hsum:=zdF (show aO 10000 (λi=>((ae 10000 x).getD i 0:Int)+((ae 10000 y).getD i 0:Int)) N=((x+y:Nat):Int) by rw[ry,dr (by rw[Hn.out];exact hN1),dr (by rw[Hm.out];exact hN2)];omega);have HB0:=zdF hB0;clear hb1 hb2 hB0;go_enter func219,ntmps219;go_wp2_with (first|(go_at_call 269;refine(Hfold.out).mono ?_;rintro e w1 ⟨v,rfl,l,hr,hf,hd,hv,hbl⟩;have Hd:=zdF hd;have Hv:=zdF hv;clear hd hv)|(go_at_call 237;refine(eT l Hd.out _ _ hr).mono ?_;rintro e w2 ⟨v2,rfl,hr2,hf2,hb2⟩));go_ret;have e1:val 10000 l=x+y:=by have h1:=Hv.out;rw[Hsum.out] at h1;omega
 rw[e1] at hr2;exact⟨_,rfl,hr2,hf2 _ (hf.mono HB0.out.size),(HB0.out.trans (hbl.mono HB0.out.size)).trans (hb2.mono (zac HB0.out.size hbl.size))⟩
theorem ll (x y:Nat) (hxy:y<=x) (va vb:Value) (w:World) (ha:Rd am w va (ae 10000 x)) (hb:Rd am w vb (ae 10000 y)) (hx:(ae 10000 x).length<=900) (hy:(ae 10000 y).length<=900):
 Calls prog 221 #[va,vb] w λe w'=> ∃v,e= .returned v/\Rd am w' v (ae 10000 (x - y))/\From w.heap.size v/\Below w.heap.size w w':=by
 obtain⟨aa,ca,rfl,_⟩:=ha.open';obtain⟨ab,cb,rfl,_⟩:=hb.open';have Ha:=zdF ha;have Hb:=zdF hb;obtain⟨n,hn⟩: ∃n,(ae 10000 x).length=n:=⟨_,rfl⟩;obtain⟨m,hm⟩: ∃n,(ae 10000 y).length=n:=⟨_,rfl⟩;have Hn:=zdF hn;have Hm:=zdF hm;rw[hn] at hx Ha ⊢;rw[hm] at hy Hb ⊢;clear hn hm ha hb;have hN1:n<=n:=za0 _;have hN2:m<=n:=by rw[<-Hn.out,<-Hm.out];exact aD (by decide) hxy
 have hb1:Blk ((w.alloc (.cells #[.slice aa n ca] 201)).alloc (.cells #[.slice ab m cb] 201)) w.heap.size #[.slice aa n ca] 201:=(Blk.new w _ _).alloc _;have hb2:Blk ((w.alloc (.cells #[.slice aa n ca] 201)).alloc (.cells #[.slice ab m cb] 201)) (w.heap.size+1) #[.slice ab m cb] 201:=Blk.newAt _ _ _ (by simp);have hB0:Below w.heap.size w ((w.alloc (.cells #[.slice aa n ca] 201)).alloc (.cells #[.slice ab m cb] 201)):=((zdG _ w).alloc (za0 _) _).alloc (by simp) _
 have Hfold:=zdF (sZ 272 (.pointer (some ⟨w.heap.size,0,none⟩)) (.pointer (some ⟨w.heap.size+1,0,none⟩)) (enters_of func272 (by kernel_rfl) rfl) n (λi=>((ae 10000 x).getD i 0:Int) - ((ae 10000 y).getD i 0:Int))
  ((w.alloc (.cells #[.slice aa n ca] 201)).alloc (.cells #[.slice ab m cb] 201)) (by omega)
  (λi=>by have h1:=ij (n:=x) i;have h2:=ij (n:=y) i;(try dsimp only);omega) (λi hi=>by (try dsimp only);rw[lg (by rw[Hn.out];omega),lg (by rw[Hm.out];omega)];rfl)
  (by rw[rz,dr (by rw[Hn.out];exact hN1),dr (by rw[Hm.out];exact hN2)];omega)
  (λi W hi hW=>AE _ _ _ _ i _ _ W ((hb1.below hW hb1.lt).cell rfl) ((hb2.below hW hb2.lt).cell rfl) ((Ha.out.below hB0).below hW) ((Hb.out.below hB0).below hW) (by omega) (aK (by decide) x) (aK (by decide) y)))
 have Hsum:=zdF (show aO 10000 (λi=>((ae 10000 x).getD i 0:Int) - ((ae 10000 y).getD i 0:Int)) n=((x - y:Nat):Int) by rw[rz,dr (by rw[Hn.out];exact hN1),dr (by rw[Hm.out];exact hN2)];omega);have HB0:=zdF hB0;clear hb1 hb2 hB0;go_enter func221,ntmps221;go_wp2_with (first|(go_at_call 269;refine(Hfold.out).mono ?_;rintro e w1 ⟨v,rfl,l,hr,hf,hd,hv,hbl⟩;have Hd:=zdF hd;have Hv:=zdF hv;clear hd hv)|(go_at_call 237;refine(eT l Hd.out _ _ hr).mono ?_;rintro e w2 ⟨v2,rfl,hr2,hf2,hb2⟩));go_ret;have e1:val 10000 l=x - y:=by have h1:=Hv.out;rw[Hsum.out] at h1;omega
 rw[e1] at hr2;exact⟨_,rfl,hr2,hf2 _ (hf.mono HB0.out.size),(HB0.out.trans (hbl.mono HB0.out.size)).trans (hb2.mono (zac HB0.out.size hbl.size))⟩
theorem lP (x n:Nat) (hn:n<10000) (va:Value) (w:World) (ha:Rd am w va (ae 10000 x)) (hx:(ae 10000 x).length<=900):
 Calls prog 238 #[va, .int .i64 (n:Int)] w λe w'=> ∃v,e= .returned v/\Rd am w' v (ae 10000 (x*n))/\From w.heap.size v/\Below w.heap.size w w':=by
 obtain⟨aa,ca,rfl,_⟩:=ha.open';have Ha:=zdF ha;obtain⟨N,hN⟩: ∃n,(ae 10000 x).length=n:=⟨_,rfl⟩;have HN:=zdF hN;rw[hN] at hx Ha ⊢;clear hN ha;have hb1:Blk ((w.alloc (.cells #[.slice aa N ca] 201)).alloc (.cells #[.int .i64 (n:Int)] 3)) w.heap.size #[.slice aa N ca] 201:=(Blk.new w _ _).alloc _;have hb2:Blk ((w.alloc (.cells #[.slice aa N ca] 201)).alloc (.cells #[.int .i64 (n:Int)] 3)) (w.heap.size+1) #[.int .i64 (n:Int)] 3:=Blk.newAt _ _ _ (by simp);have hB0:Below w.heap.size w ((w.alloc (.cells #[.slice aa N ca] 201)).alloc (.cells #[.int .i64 (n:Int)] 3)):=((zdG _ w).alloc (za0 _) _).alloc (by simp) _
 have Hfold:=zdF (sZ 286 (.pointer (some ⟨w.heap.size,0,none⟩)) (.pointer (some ⟨w.heap.size+1,0,none⟩)) (enters_of func286 (by kernel_rfl) rfl) N (λi=>((ae 10000 x).getD i 0:Int)*(n:Int))
  ((w.alloc (.cells #[.slice aa N ca] 201)).alloc (.cells #[.int .i64 (n:Int)] 3)) (by omega)
  (λi=>by
    have h1:=ij (n:=x) i
    try dsimp only
    generalize (ae 10000 x).getD i 0=z at*
    have h2:z*n<=9999*9999:=zb4 (by omega) (by omega)
    rw[<-zb9];omega) (λi hi=>by (try dsimp only);rw[lg (by rw[HN.out];omega)];simp)
  (by rw[rA,dr (by rw[HN.out];exact za0 _),<-zb9];omega)
  (λi W hi hW=>Kx _ _ n i _ _ W ((hb1.below hW hb1.lt).cell rfl) ((hb2.below hW hb2.lt).cell rfl) ((Ha.out.below hB0).below hW) (by omega) (aK (by decide) x) hn))
 have Hsum:=zdF (show aO 10000 (λi=>((ae 10000 x).getD i 0:Int)*(n:Int)) N=((x*n:Nat):Int) by rw[rA,dr (by rw[HN.out];exact za0 _),zb9]);have HB0:=zdF hB0;clear hb1 hb2 hB0;go_enter func238,ntmps238;go_wp2_with (first|(go_at_call 269;refine(Hfold.out).mono ?_;rintro e w1 ⟨v,rfl,l,hr,hf,hd,hv,hbl⟩;have Hd:=zdF hd;have Hv:=zdF hv;clear hd hv)|(go_at_call 237;refine(eT l Hd.out _ _ hr).mono ?_;rintro e w2 ⟨v2,rfl,hr2,hf2,hb2⟩));go_ret;have e1:val 10000 l=x*n:=by have h1:=Hv.out;rw[Hsum.out] at h1;exact Int.ofNat_inj.1 h1
 rw[e1] at hr2;exact⟨_,rfl,hr2,hf2 _ (hf.mono HB0.out.size),(HB0.out.trans (hbl.mono HB0.out.size)).trans (hb2.mono (zac HB0.out.size hbl.size))⟩
attribute [local go_sem] Oper.semAt_some
theorem or {α:Type} {enc:α->Value} {l:List α} {row:Option Nat} (h:Rd enc w v l) (hg:w.grownBy w' row) (J: ∀r,row=some r-> ∃o:Obj,w.heap[r]? =some o/\o.isCells=false):Rd enc w' v l:=by
 rcases h with h|⟨b,off,cap,rfl,h1,h2,h3,h4⟩
 ·exact .inl h
 ·exact .inr ⟨b,off,cap,rfl,zam h1 hg.size,h2,h3,λi x V=>cell_kept (h4 i x V) hg J⟩
def mY {m:zdL} (x:Nat) (pre:List (cf m)):Nat:=(pre.map (·.1)).foldl (k9 10000 x) 0
theorem qm (x:Nat) (pre:List (cf m)) (p:cf m):mY x (pre++ [p])=mY x pre*10000+x*p.1.2:=by
 unfold mY;rw[zb8,zbz];rfl
theorem Eh (x:Nat) (l:zdL) (k:Nat) (V:k<=l.length):(fK l k).foldl (k9 10000 x) 0=x*val 10000 (l.drop (l.length - k)):=by
 induction k with
 |zero=>rw[zaX,zbj];rfl
 |succ k J=>
  rw[jC,zbz,J (by omega)];have e:l.drop (l.length - (k+1))=l.getD (l.length - 1 - k) 0::l.drop (l.length - k):=by
   have h1:l.length - (k+1)<l.length:=by omega
   rw[zaH h1,show l.length - (k+1)+1=l.length - k by omega]
   congr 1
   simp[List.getD,zaa (show l.length - 1 - k<l.length by omega),show l.length - (k+1)=l.length - 1 - k by omega]
  rw[e,val,zbe,zcv,k9,zao,zaD,zay 10000];exact zb3 _ _
theorem wM (x y:Nat) (va vb:Value) (w:World) (ha:Rd am w va (ae 10000 x)) (hb:Rd am w vb (ae 10000 y)) (hx:(ae 10000 x).length<=400) (hy:(ae 10000 y).length<=400) (hfb: ∀k,vb.ownBlock=some k->k<w.heap.size):
 Calls prog 228 #[va,vb] w λe w'=> ∃v,e= .returned v/\Rd am w' v (ae 10000 (x*y))/\From w.heap.size v/\Below w.heap.size w w':=by
 obtain⟨aa,ca,rfl,_⟩:=ha.open';obtain⟨ab,cb,rfl,_⟩:=hb.open';have Ha:=zdF ha;have Hb:=zdF hb;obtain⟨n,hn⟩: ∃n,(ae 10000 x).length=n:=⟨_,rfl⟩;obtain⟨m,hm⟩: ∃n,(ae 10000 y).length=n:=⟨_,rfl⟩;have Hn:=zdF hn;have Hm:=zdF hm;rw[hn] at hx Ha ⊢;rw[hm] at hy Hb hfb ⊢;have Hfb:=zdF hfb;clear hn hm ha hb hfb;refine(callsIn_wide (n:=5)).1 ?_;refine callsIn_of_wp_marks func228 rfl trivial ?_ rfl;simp only[ntmps228,zbq,za4,za9,Nat.reduceAdd,Nat.reduceSub,zbT,zbU,zbV,zbW,zaM,zaO]
 gi_wp2_with (refine⟨trivial, ?_⟩;gi_at_call 230;refine(callsIn_wide.2 (gD _ _ _ _)).mono ?_;rintro e w' ⟨rfl,rfl⟩)
 have hA0:Blk (((w.alloc (.cells #[.slice aa n ca] 201)).alloc (.cells #[.slice none 0 0] 201)).alloc (.cells #[.slice ab m cb] 201)) w.heap.size #[.slice aa n ca] 201:=((Blk.new w _ _).alloc _).alloc _;have hO0:Blk (((w.alloc (.cells #[.slice aa n ca] 201)).alloc (.cells #[.slice none 0 0] 201)).alloc (.cells #[.slice ab m cb] 201)) (w.heap.size+1) #[.slice none 0 0] 201:=(Blk.newAt _ _ _ (by simp)).alloc _;have hS0:Blk (((w.alloc (.cells #[.slice aa n ca] 201)).alloc (.cells #[.slice none 0 0] 201)).alloc (.cells #[.slice ab m cb] 201)) (w.heap.size+1+1) #[.slice ab m cb] 201:=Blk.newAt _ _ _ (by simp);have hB0:Below w.heap.size w (((w.alloc (.cells #[.slice aa n ca] 201)).alloc (.cells #[.slice none 0 0] 201)).alloc (.cells #[.slice ab m cb] 201)):=(((zdG _ w).alloc (za0 _) _).alloc (by simp) _).alloc (by simp;omega) _;have hsz:w.heap.size+1+1+1=(((w.alloc (.cells #[.slice aa n ca] 201)).alloc (.cells #[.slice none 0 0] 201)).alloc (.cells #[.slice ab m cb] 201)).heap.size:=by simp
 generalize (((w.alloc (.cells #[.slice aa n ca] 201)).alloc (.cells #[.slice none 0 0] 201)).alloc (.cells #[.slice ab m cb] 201))=W0 at*
 refine qM (by omega) (w.heap.size+1+1) w.heap.size rfl (.slice ab m cb) (ae 10000 y) (by rw[Hm.out];omega) hS0.lt (by omega) (hS0.cell rfl) (Hb.out.below hB0) Hfb.out rfl
  (λpre W=>(∃v,Blk W w.heap.size #[.slice aa n ca] 201/\Blk W (w.heap.size+1) #[v] 201/\Rd am W v (ae 10000 (mY x pre))/\From (w.heap.size+3) v/\w.heap.size+3<=W.heap.size)/\Below w.heap.size w W)
  (λ_ _ _=>False)
  ?own ?ownx ?start (λp t=>((t.setIfInBounds 10 (.int .i64 (p.1.1:Int))).setIfInBounds 11 (.int .i64 (p.1.2:Int))).setIfInBounds 7 (.int .i64 (p.1.2:Int))) ?assign ?body ?done ?stop
 case own=>exact OwnFrom.and (Own.from (λs A B row hs hg hr=>by obtain⟨v,h1,h2,h3,h4,h5⟩:=hs;exact⟨v,h1.kept hg hr,h2.kept hg hr,or h3 hg hr,h4,zac h5 hg.size⟩) _) (ownFrom_below (za0 _) (by omega))
 case ownx=>exact λ_ _ _ _ _ hs _ _=>hs
 case start=>exact⟨⟨_,hA0,hO0, .inl ⟨rfl,aF 10000⟩,From.nil _,by omega⟩,hB0⟩
 case assign=>
  intro l x W K hK;simp only[zbl,zaR,zba] at hK
  gi_wp2
  exact hK
 case body=>
  rintro l pre p W ⟨⟨v,hA,hO,hr,hfr,hw3⟩,hB⟩ hlen;simp only[zbl,zaR,zba];rw[Hm.out] at hlen;obtain⟨F,hF⟩: ∃F,mY x pre=F:=⟨_,rfl⟩;rw[hF] at hr;have HF:=zdF hF;have hpd:p.1.2<10000:=aK (by decide) y _ (zal p.2);have hlF:(ae 10000 F).length<=820:=by
   have h1:=Dw (B:=10000) (x:=x) (by decide) (pre.map (·.1)) (by
    intro q hq;obtain⟨r,hr,rfl⟩:=zaz.1 hq
    exact aK (by decide) y _ (zal r.2))
   have h2:(pre.map (·.1)).foldl (k9 10000 x) 0=F:=HF.out;rw[h2,zaB] at h1;have h3:=(ai (B:=10000) (by decide) x n).1 (by rw[Hn.out];exact za0 _);have h4:F<10000^(n+pre.length)\/F=0:=by
    by_cases hx0:x=0
    ·subst hx0;right;simp at h1;exact h1
    ·left;rw[zbw];have h5:x*10000^pre.length<=10000^n*10000^pre.length:=zbm _ (by omega);omega
   rcases h4 with h4|h4
   ·have h5:=(ai (B:=10000) (by decide) F (n+pre.length)).2 h4;omega
   ·rw[h4,aF];simp
  clear hF;have hlp:(ae 10000 (x*p.1.2)).length<=401:=by
   have h3:=(ai (B:=10000) (by decide) x n).1 (by rw[Hn.out];exact za0 _);have h4:x*p.1.2<10000^(n+1):=by
    rw[zaw];exact zbN h3 hpd
   have h5:=(ai (B:=10000) (by decide) (x*p.1.2) (n+1)).2 h4;omega
  have a0:W.cell? ⟨w.heap.size,0,none⟩=some (.slice aa n ca):=hA.cell rfl;have hbs:=hB.size;have hol:=hO.lt;obtain⟨av,cv,rfl,_⟩:=hr.open';have o0:=hO.cell (i:=0) rfl;have of0:=hO.free 0;by_cases hz:F=0
  ·have hl0:(ae 10000 F).length<=0:=by rw[hz,aF];simp
   have Hz:=zdF hz;clear hz;have hmx:prog.follows .mixedOrders=true:=by kernel_rfl
   gi_wp2
   have hO2:Blk W.drew (w.heap.size+1) #[.slice av (ae 10000 F).length cv] 201:=hO;have hA2:Blk W.drew w.heap.size #[.slice aa n ca] 201:=hA;have hr1:Rd am W.drew (.slice av (ae 10000 F).length cv) (ae 10000 (F*10000)):=by
    have h:Rd am W.drew (.slice av (ae 10000 F).length cv) (ae 10000 F):=hr;rw[show F*10000=F by have:=Hz.out;omega];exact h
   have hB2:Below w.heap.size w W.drew:=hB.drew;have hk2:KeepsOthers W W.drew:=KeepsOthers.drew _;have hK2:KpB w.heap.size (w.heap.size+1+1) W W.drew:=KpB.drewN W 1;have HL2:Hid (w.heap.size+3<=W.drew.heap.size):=hw3;have hlF2:(ae 10000 (F*10000)).length<=821:=by rw[Hz.out,zcE,aF];simp
   have HA2:=zdF hA2;have HO2:=zdF hO2;have Hr1:=zdF hr1;have HB2:=zdF hB2;have Hk2:=zdF hk2;have HK2:=zdF hK2;have a2:=hA2.cell (i:=0) rfl;have o2:=hO2.cell (i:=0) rfl;have of2:=hO2.free 0;clear hA2 hO2 hr1 hB2 hk2 hK2
   gi_region_with_o (first
    |(refine⟨trivial, ?_⟩;gi_at_call 238;refine(CallsIn.inRound l (callsIn_wide.2 (lP x p.1.2 hpd _ _ (Ha.out.below HB2.out) (by rw[Hn.out];omega)))).mono ?_;rintro e w2 ⟨v2,rfl,hr2,hf2,hb2⟩;have o3:=(HO2.out.below hb2 HO2.out.lt).cell (i:=0) rfl;have of3:=(HO2.out.below hb2 HO2.out.lt).free 0)
    |(refine⟨trivial, ?_⟩;gi_at_call 219;(refine(CallsIn.inRound l (callsIn_wide.2 (iV (F*10000) (x*p.1.2) _ _ _ (Hr1.out.below hb2) hr2 (by omega) (by omega)))).mono ?_);rintro e w3 ⟨v3,rfl,hr3,hf3,hb3⟩;have o4:=((HO2.out.below hb2 HO2.out.lt).below hb3 (by have:=HO2.out.lt;have:=hb2.size;omega)).cell (i:=0) rfl;have of4:=((HO2.out.below hb2 HO2.out.lt).below hb3 (by have:=HO2.out.lt;have:=hb2.size;omega)).free 0;obtain⟨a3,c3,rfl,_⟩:=hr3.open'))
   all_goals gi_wp2
   all_goals
    have hw13:=(HB2.out).size;refine⟨((Hk2.out.trans (bI hb2 (za0 _))).trans (bI hb3 (za0 _))).trans (KeepsOthers.setCell _ _ _)|>.from _, ?_,⟨.slice a3 (ae 10000 (F*10000+x*p.1.2)).length c3, ?_, ?_, ?_, ?_, ?_⟩, ?_⟩
    ·exact((HK2.out.trans (KpB.of_below hb2 hw13 (by have:=HL2.out;omega))).trans (KpB.of_below hb3 (zac hw13 hb2.size) (by have:=HL2.out;have:=hb2.size;omega))).trans (KpB.setCell _ (by simp) (by simp) _)
    ·exact(((HA2.out.below hb2 HA2.out.lt).below hb3 (zam HA2.out.lt hb2.size)).setOther (by simp) _)
    ·exact((HO2.out.below hb2 HO2.out.lt).below hb3 (zam HO2.out.lt hb2.size)).set 0 _
    ·rw[qm,HF.out];exact hr3.setCell (hf3.mono (by have:=HL2.out;have:=hb2.size;omega)) (show w.heap.size+1<w.heap.size+3 by omega) _
    ·exact hf3.mono (by have:=HL2.out;have:=hb2.size;omega)
    ·simp[World.setCell];have:=HL2.out;have:=hb2.size;have:=hb3.size;omega
    ·exact((HB2.out.trans (hb2.mono hw13)).trans (hb3.mono (zac hw13 hb2.size))).setCell (by simp) _
  ·have hl0:0<(ae 10000 F).length:=zbp.2 (λe=>hz ((aZ (by decide)).1 e));have hmx:prog.follows .mixedOrders=true:=by kernel_rfl
   gi_wp2_with (gi_at_builtin;refine lc (enc:=am) (e:=3) rfl _ _ 201 rfl (.int .i64 0) 8 underlying201 gE rfl du rfl (OwnL.lit1 W 0 rfl) rfl (hr.below ((zdG _ _).alloc (za0 _) _)) (by simp;omega) (by decide) (by simp) ?_;intro v' w1 hown1 hB1 hk1;obtain⟨gb,cp,rfl,hgb1,hgb2⟩:=hown1.cons_of;have hO1:=(hO.alloc (.cells #[.int .i64 0] 3)).below hB1 (by omega);have o1:=hO1.cell (i:=0) rfl;have of1:=hO1.free 0;have hA1:=(hA.alloc (.cells #[.int .i64 0] 3)).below hB1 (by have:=hA.lt;omega);have a1:w1.cell? ⟨w.heap.size,0,none⟩=some (.slice aa n ca):=hA1.cell rfl)
   have hsl:(.slice (some ⟨gb,0,none⟩) ((ae 10000 F).length+1) cp:Value)= .slice (some ⟨gb,0,none⟩) ([0]++ae 10000 F).length cp:=by simp
   have hdg: [0]++ae 10000 F=ae 10000 (F*10000):=by
    have h:=zV (B:=10000) (d:=0) (n:=F) (by decide) (by decide) (by omega);rw[za7,zay] at h;rw[h];rfl
   have hO2:Blk (w1.setCell ⟨w.heap.size+1,0,none⟩ (.slice (some ⟨gb,0,none⟩) ((ae 10000 F).length+1) cp)).drew (w.heap.size+1) #[.slice (some ⟨gb,0,none⟩) ((ae 10000 F).length+1) cp] 201:=hO1.set 0 _;have hA2:Blk (w1.setCell ⟨w.heap.size+1,0,none⟩ (.slice (some ⟨gb,0,none⟩) ((ae 10000 F).length+1) cp)).drew w.heap.size #[.slice aa n ca] 201:=hA1.setOther (by simp) _;have hr1:Rd am (w1.setCell ⟨w.heap.size+1,0,none⟩ (.slice (some ⟨gb,0,none⟩) ((ae 10000 F).length+1) cp)).drew (.slice (some ⟨gb,0,none⟩) ((ae 10000 F).length+1) cp) (ae 10000 (F*10000)):=by
    have h:=hown1.rd.setCell (a:=⟨w.heap.size+1,0,none⟩) (C:=w.heap.size+3) (λk hk=>by cases hk;show w.heap.size+3<=gb;omega) (by simp) (.slice (some ⟨gb,0,none⟩) ((ae 10000 F).length+1) cp);rw[hdg] at h;exact h
   have hB2:Below w.heap.size w (w1.setCell ⟨w.heap.size+1,0,none⟩ (.slice (some ⟨gb,0,none⟩) ((ae 10000 F).length+1) cp)).drew:=(((hB.alloc hB.size _).trans (hB1.mono hbs)).setCell (by simp) _).drew;have hk2:KeepsOthers W (w1.setCell ⟨w.heap.size+1,0,none⟩ (.slice (some ⟨gb,0,none⟩) ((ae 10000 F).length+1) cp)).drew:=(((KeepsOthers.alloc _ _).trans hk1).trans (KeepsOthers.setCell _ _ _)).trans (KeepsOthers.drew _);have hK2:KpB w.heap.size (w.heap.size+1+1) W (w1.setCell ⟨w.heap.size+1,0,none⟩ (.slice (some ⟨gb,0,none⟩) ((ae 10000 F).length+1) cp)).drew:=((KpB.of_below ((zdG _ W).alloc (za0 _) _) hbs (by omega)).trans (KpB.of_below hB1 hbs (by omega))).trans ((KpB.setCell w1 (by simp) (by simp) _).trans (KpB.drewN _ 1));have HL2:Hid (w.heap.size+3<=(w1.setCell ⟨w.heap.size+1,0,none⟩ (.slice (some ⟨gb,0,none⟩) ((ae 10000 F).length+1) cp)).drew.heap.size):=by
    show w.heap.size+3<=(w1.setCell ⟨w.heap.size+1,0,none⟩ (.slice (some ⟨gb,0,none⟩) ((ae 10000 F).length+1) cp)).drew.heap.size;simp[World.setCell];omega
   have hlF2:(ae 10000 (F*10000)).length<=821:=by rw[<-hdg];simp;omega
   clear hsl hdg hO1 hA1 o1 of1 a1;obtain⟨W1,hW1⟩: ∃W1,(w1.setCell ⟨w.heap.size+1,0,none⟩ (.slice (some ⟨gb,0,none⟩) ((ae 10000 F).length+1) cp)).drew=W1:=⟨_,rfl⟩;have HA2:=zdF hA2;have HO2:=zdF hO2;have Hr1:=zdF hr1;have HB2:=zdF hB2;have Hk2:=zdF hk2;have HK2:=zdF hK2;have a2:=hA2.cell (i:=0) rfl;have o2:=hO2.cell (i:=0) rfl;have of2:=hO2.free 0;clear hA2 hO2 hr1 hB2 hk2 hK2 hW1 W1
   gi_region_with_o (first
    |(refine⟨trivial, ?_⟩;gi_at_call 238;refine(CallsIn.inRound l (callsIn_wide.2 (lP x p.1.2 hpd _ _ (Ha.out.below HB2.out) (by rw[Hn.out];omega)))).mono ?_;rintro e w2 ⟨v2,rfl,hr2,hf2,hb2⟩;have o3:=(HO2.out.below hb2 HO2.out.lt).cell (i:=0) rfl;have of3:=(HO2.out.below hb2 HO2.out.lt).free 0)
    |(refine⟨trivial, ?_⟩;gi_at_call 219;(refine(CallsIn.inRound l (callsIn_wide.2 (iV (F*10000) (x*p.1.2) _ _ _ (Hr1.out.below hb2) hr2 (by omega) (by omega)))).mono ?_);rintro e w3 ⟨v3,rfl,hr3,hf3,hb3⟩;have o4:=((HO2.out.below hb2 HO2.out.lt).below hb3 (by have:=HO2.out.lt;have:=hb2.size;omega)).cell (i:=0) rfl;have of4:=((HO2.out.below hb2 HO2.out.lt).below hb3 (by have:=HO2.out.lt;have:=hb2.size;omega)).free 0;obtain⟨a3,c3,rfl,_⟩:=hr3.open'))
   all_goals gi_wp2
   all_goals
    have hw13:=(HB2.out).size;refine⟨((Hk2.out.trans (bI hb2 (za0 _))).trans (bI hb3 (za0 _))).trans (KeepsOthers.setCell _ _ _)|>.from _, ?_,⟨.slice a3 (ae 10000 (F*10000+x*p.1.2)).length c3, ?_, ?_, ?_, ?_, ?_⟩, ?_⟩
    ·exact((HK2.out.trans (KpB.of_below hb2 hw13 (by have:=HL2.out;omega))).trans (KpB.of_below hb3 (zac hw13 hb2.size) (by have:=HL2.out;have:=hb2.size;omega))).trans (KpB.setCell _ (by simp) (by simp) _)
    ·exact(((HA2.out.below hb2 HA2.out.lt).below hb3 (zam HA2.out.lt hb2.size)).setOther (by simp) _)
    ·exact((HO2.out.below hb2 HO2.out.lt).below hb3 (zam HO2.out.lt hb2.size)).set 0 _
    ·rw[qm,HF.out];exact hr3.setCell (hf3.mono (by have:=HL2.out;have:=hb2.size;omega)) (show w.heap.size+1<w.heap.size+3 by omega) _
    ·exact hf3.mono (by have:=HL2.out;have:=hb2.size;omega)
    ·simp[World.setCell];have:=HL2.out;have:=hb2.size;have:=hb3.size;omega
    ·exact((HB2.out.trans (hb2.mono hw13)).trans (hb3.mono (zac hw13 hb2.size))).setCell (by simp) _
 case done=>
  rintro D ys W hD hys ⟨⟨v,hA,hO,hr,hfr,hw3⟩,hB⟩ hK;have hxy:mY x ys=x*y:=by
   unfold mY;rw[hys,Eh x _ _ (za0 _),zaJ,zaZ,bi (by decide)]
  rw[hxy] at hr;clear hxy hys;have o0:W.cell? ⟨w.heap.size+1,0,none⟩=some v:=hO.cell rfl;obtain⟨a9,c9,rfl,_⟩:=hr.open'
  gi_wp2
  refine⟨by simp, .inl ⟨_,_,rfl,run_takeDeferred hK, ?_⟩⟩;refine⟨_,results_tmp rfl _ _ _,_,rfl, ?_,hfr.mono (by omega),hB.trans (belowK_b (w:=w) (za0 _) W D _ _ (by omega) hK rfl rfl)⟩;exact or hr (grownBy_putObj' _ D (.deferred none)) (λr e=>by cases e;exact⟨_,hK,rfl⟩)
 case stop=>
  rintro D c pre W _ _ h _;exact h.elim
theorem AF (gf:Nat) (p1 p2:Value) (eg: ∀args w,(callFunc gf args).run prog w= .ok (.enter gf args) w) (n:Nat) (f:zdT) (w:World) (hn:n<=1000000)
 (hg: ∀(i:Nat) W,i<n->Below w.heap.size w W->Calls prog gf #[.int .i64 i,p1,p2] W λe W'=>e= .returned (.bool (f i))/\Below W.heap.size W W') (hmono: ∀i j,i<=j->f i=true->f j=true):
 Calls prog 240 #[.int .i64 n, .func (.func gf) #[] #[p1,p2]] w λe w'=> ∃k:Nat,e= .returned (.int .i64 k)/\(k<=n/\(∀j,j<k->f j=false)/\(k<n->f k=true))/\Below w.heap.size w w':=by
 have Hg:=zdF hg;have Hm:=zdF hmono;clear hg hmono;go_enter func240,ntmps240;go_wp2
 go_loopw [5,6] (λiv jv wr=> ∃i j:Nat,iv= .int .i64 i/\jv= .int .i64 j/\i<=j/\j<=n/\(∀k,k<i->f k=false)/\(j<n->f j=true)/\Below w.heap.size w wr) (λiv jv _=>(intOf jv - intOf iv).toNat)
 case atStart=>exact⟨0,n,rfl,rfl,zaA _,za0 _,λk hk=>absurd hk (zbn k),λh=>absurd h (zcA n),zdG _ _⟩
 case round=>
  obtain⟨i,j,rfl,rfl,hij,hjn,h1,h2,hB⟩:=hrel;have H1:=zdF h1;clear h1;have H2:=zdF h2;clear h2;by_cases hlt:i<j
  ·obtain⟨h,hh⟩: ∃h,(i+j) / 2=h:=⟨_,rfl⟩;have hh2:((i:Int)+(j:Int)) / 2=(h:Int):=by omega
   have hb1:i<=h:=by omega
   have hb2:h<j:=by omega
   have HgH:=zdF (Hg.out h wr (by omega) hB);clear hh;cases hf:f h
   ·rw[hf] at HgH;have Hf:=zdF hf;clear hf;go_wp2_with ((with_reducible refine(HgH.out).mono ?_);rintro _ w2 ⟨rfl,hb⟩)
    go_roundw
    case rel=>
     refine⟨h+1,j,by go_num,rfl,by omega,hjn,λk hk=> ?_,H2.out,hB.trans (hb.mono hB.size)⟩;cases hfk:f k with
     |false=>rfl
     |true=>have:=Hm.out k h (by omega) hfk;rw[Hf.out] at this;cases this
    case measure=>simp[intOf];omega
   ·rw[hf] at HgH;have Hf:=zdF hf;clear hf;go_wp2_with ((with_reducible refine(HgH.out).mono ?_);rintro _ w2 ⟨rfl,hb⟩)
    go_roundw
    case rel=>exact⟨i,h,rfl,rfl,hb1,by omega,H1.out,λ_=>Hf.out,hB.trans (hb.mono hB.size)⟩
    case measure=>simp[intOf];omega
  ·obtain rfl:i=j:=by omega
   go_wp2;go_ret;exact⟨i,rfl,⟨hjn,H1.out,H2.out⟩,hB⟩
theorem Ei (y R i:Nat) (mv rv:Value) (bb rb:Nat) (w:World) (hm:Rd am w mv (ae 10000 y)) (hr:Rd am w rv (ae 10000 R)) (hb:w.cell? ⟨bb,0,none⟩=some (.func (.func 238) #[mv] #[])) (hbl:bb<w.heap.size)
 (hrb:w.cell? ⟨rb,0,none⟩=some rv) (hrl:rb<w.heap.size) (hi:i<9999) (hy:(ae 10000 y).length<=800) (hR:(ae 10000 R).length<=900):
 Calls prog 239 #[.int .i64 i, .pointer (some ⟨bb,0,none⟩), .pointer (some ⟨rb,0,none⟩)] w λe w'=>e= .returned (.bool (decide (R<y*(i+1))))/\Below w.heap.size w w':=by
 have Hm:=zdF hm;have Hr:=zdF hr;obtain⟨ma,mc,rfl,_⟩:=hm.open';obtain⟨ra,rc,rfl,_⟩:=hr.open';clear hm hr;have hlp:(ae 10000 (y*(i+1))).length<=801:=by
  obtain⟨n,hn⟩: ∃n,(ae 10000 y).length=n:=⟨_,rfl⟩;have h3:=(ai (B:=10000) (by decide) y n).1 (by rw[hn];exact za0 _);have h4:y*(i+1)<10000^(n+1):=by rw[zaw];exact zbN h3 (by omega)
  have h5:=(ai (B:=10000) (by decide) (y*(i+1)) (n+1)).2 h4;omega
 have hcmp:decide (0<dB (y*(i+1)) R)=decide (R<y*(i+1)):=by
  by_cases h:R<y*(i+1)
  ·rw[jO h];simp[h]
  ·have h2:dB (y*(i+1)) R<=0:=by unfold dB;split<;>omega
   have h3: ¬0<dB (y*(i+1)) R:=by omega
   simp only[h,h3]
 obtain⟨cv,hcv⟩: ∃c,dB (y*(i+1)) R=c:=⟨_,rfl⟩;obtain⟨P,hP⟩: ∃c,y*(i+1)=c:=⟨_,rfl⟩;have hby: ∀W,Below w.heap.size w W->Calls prog 238 #[.slice ma (ae 10000 y).length mc, .int .i64 ((i:Int)+1)] W λe w'=> ∃v,e= .returned v/\Rd am w' v (ae 10000 P)/\From W.heap.size v/\Below W.heap.size W w':=by
  intro W hW;have:=lP y (i+1) (by omega) _ W (Hm.out.below hW) (by omega);rw[hP] at this;rwa[show ((i+1:Nat):Int)=(i:Int)+1 by omega] at this
 have hco: ∀W v,Below w.heap.size w W->Rd am W v (ae 10000 P)->Calls prog 181 #[v, .slice ra (ae 10000 R).length rc] W λe w'=>e= .returned (.int .i64 cv)/\Below W.heap.size W w':=by
  intro W v hW hv;rw[<-hcv,hP];exact gc P R _ _ W hv (Hr.out.below hW) (by rw[<-hP];omega)
 rw[hcv] at hcmp;have Hby:=zdF hby;have Hco:=zdF hco;rw[<-hcmp];clear hby hco hcv hcmp hlp hP;have hmx:prog.follows .mixedOrders=true:=by kernel_rfl
 go_enter func239,ntmps239;go_wp2_with fail;have hw1:IntKind.i64.wrap ((i:Int)+1)=(i:Int)+1:=IntWalk.i64_in _ (by omega)
 go_region_with (first
  |(go_at_call 238;(with_reducible refine(Hby.out _ ((zdG _ w).drew)).mono ?_);rintro e w2 ⟨v2,rfl,hr2,hf2,hb2⟩;have hb12:Below w.heap.size w w2:=((zdG _ w).drew).trans hb2;have r2:w2.cell? ⟨rb,0,none⟩=some (.slice ra (ae 10000 R).length rc):=(hb2.cell (p:=⟨rb,0,none⟩) hrl).trans hrb)
  |(go_at_call 181;(with_reducible refine(Hco.out _ _ hb12 hr2).mono ?_);rintro e w3 ⟨rfl,hb3⟩))
 all_goals go_wp2
 all_goals go_ret
 all_goals exact⟨rfl,hb12.trans (hb3.mono hb12.size)⟩
end Go.Proofs.YtldflkomhbfceaaGreatDoor
namespace Go.Proofs.YtldflkomhbfceaaGreatDoor
open Yk
def lh (y:Nat) (s:Nat×List Nat) (p:Nat×Nat):Nat×List Nat:=((p.2+10000*s.1)%y,s.2.set p.1 ((p.2+10000*s.1) / y))
def dT {l:zdL} (y n:Nat) (pre:List (cf l)):Nat×List Nat:=(pre.map (·.1)).foldl (lh y) (0,List.replicate n 0)
variable {l:zdL}
theorem acy (y n:Nat) (pre:List (cf l)) (p:cf l):dT y n (pre++ [p])=lh y (dT y n pre) p.1:=by
 unfold dT;rw[zb8,zbz];rfl
variable {y:Nat}
theorem ta {n:Nat} (Y:0<y) (Z: ∀z∈l,z<10000) (pre:List (cf l)):(dT y n pre).1<y/\(dT y n pre).2.length=n/\(∀z∈(dT y n pre).2,z<10000):=by
 induction h:pre.length generalizing pre with
 |zero=>rw[zau h];exact⟨Y,by simp[dT],by simp[dT]⟩
 |succ k ih=>
  obtain⟨V,J,rfl⟩: ∃V J,pre=V++ [J]:=⟨pre.dropLast,pre.getLast (by intro e;rw[e] at h;simp at h),(zcY _).symm⟩;obtain⟨h1,h2,h3⟩:=ih V (by simp at h;omega);have hp:J.1.2<10000:=Z _ (zal J.2);rw[acy];generalize dT y n V=s at*
  refine⟨zar _ Y,by simp[lh,h2], ?_⟩;intro z hz;rcases zcM hz with h4|h4
  ·exact h3 z h4
  ·subst h4;rw[zbO Y];have:=zb5 10000 (show s.1+1<=y from h1);rw[zao] at this;omega
theorem Ky {x:Nat} (Y:0<y) (k:Nat) (hk:k<=(ae 10000 x).length):
 DivInv 10000 x y ((ae 10000 x).length - k) ((fK (ae 10000 x) k).foldl (lh y) (0,List.replicate (ae 10000 x).length 0)).1 ((fK (ae 10000 x) k).foldl (lh y) (0,List.replicate (ae 10000 x).length 0)).2:=by
 induction k with
 |zero=>exact DivInv.start Y
 |succ k J=>
  have J:=J (by omega);rw[jC,zbz,zbe,zcv];generalize (fK (ae 10000 x) k).foldl (lh y) (0,List.replicate (ae 10000 x).length 0)=s at*
  have V:(ae 10000 x).length - 1 - k<(ae 10000 x).length:=by omega
  have e1:(ae 10000 x).length - k=(ae 10000 x).length - 1 - k+1:=by omega
  have Z:(ae 10000 x).length - (k+1)=(ae 10000 x).length - 1 - k:=by omega
  rw[e1] at J;rw[Z];have hg:(ae 10000 x).getD ((ae 10000 x).length - 1 - k) 0=(ae 10000 x)[(ae 10000 x).length - 1 - k]:=by simp[List.getD,zaa V]
  have hR:s.1<y:=by obtain⟨_,_,_,_,_,h⟩:=J;exact h
  have hd:(ae 10000 x)[(ae 10000 x).length - 1 - k]<10000:=aK (by decide) x _ (zas V);simp only[lh,hg];refine DivInv.step J V rfl ?_ (zar _ Y) ?_
  ·exact Nat.mod_add_div' _ _
  ·rw[zbO Y];have:=zb5 10000 (show s.1+1<=y from hR);rw[zao] at this;omega
end Go.Proofs.YtldflkomhbfceaaGreatDoor
namespace Go.Proofs.YtldflkomhbfceaaGreatDoor
open Go.Proofs.Tryz
open Go.RowKit Yk
attribute [local go_sem] Oper.semAt_some
def OvAt (w:World) (Z n:Nat) (mv:Value) (W X:World) (rv:Value) (ql:zdL) (R:Nat):Prop:=
 (Blk X w.heap.size #[mv] 201/\Blk X (w.heap.size+1) #[.slice (some ⟨w.heap.size+3,0,none⟩) n n] 201/\Blk X (w.heap.size+2) #[rv] 201/\
   OwnL am 3 X (w.heap.size+3) (.slice (some ⟨w.heap.size+3,0,none⟩) n n) ql/\Rd am X rv (ae 10000 R)/\From (Z+1) rv)/\
 (w.heap.size+4<=Z/\Z+1<=X.heap.size/\Below w.heap.size w X)/\KeepsOthers W X/\KpB w.heap.size Z W X
section
variable {w W X:World} {Z n:Nat} {mv rv:Value} {ql:zdL} {R:Nat}
theorem OvAt.start (h:OvAt w Z n mv W X rv ql R):OvAt w Z n mv X X rv ql R:=⟨h.1,h.2.1,KeepsOthers.refl _,KpB.refl _ _ _⟩
theorem OvAt.grow {X':World} (h:OvAt w Z n mv W X rv ql R) (J:Below X.heap.size X X'):OvAt w Z n mv W X' rv ql R:=by
 obtain⟨⟨h1,h2,h3,h4,h5,h6⟩,⟨h7,h8,h9⟩,V,Y⟩:=h;exact⟨⟨h1.below J (by omega),h2.below J (by omega),h3.below J (by omega),h4.belowTo J,h5.below J,h6⟩,⟨h7,zac h8 J.size,h9.trans (J.mono (by omega))⟩,V.trans (bI J (za0 _)),Y.trans (KpB.of_below J (by omega) (by omega))⟩
theorem OvAt.alloc (h:OvAt w Z n mv W X rv ql R) (o:Obj):OvAt w Z n mv W (X.alloc o) rv ql R:=h.grow ((zdG _ X).alloc (za0 _) _)
theorem OvAt.drew (h:OvAt w Z n mv W X rv ql R):OvAt w Z n mv W X.drew rv ql R:=h.grow (zdG _ X).drew
theorem OvAt.setR {rv':Value} {R':Nat} (h:OvAt w Z n mv W X rv ql R) (hr:Rd am X rv' (ae 10000 R')) (Y:From (Z+1) rv'):OvAt w Z n mv W (X.setCell ⟨w.heap.size+2,0,none⟩ rv') rv' ql R':=by
 obtain⟨⟨h1,h2,h3,h4,h5,h6⟩,⟨h7,h8,h9⟩,J,V⟩:=h;exact⟨⟨h1.setOther (by simp) _,h2.setOther (by simp) _,h3.set 0 _,h4.setOther (by simp) _,hr.setCell Y (by simp;omega) _,Y⟩,⟨h7,by simpa [World.setCell] using h8,h9.setCell (by simp) _⟩,J.trans (KeepsOthers.setCell _ _ _),V.trans (KpB.setCell _ (by simp) (by simp;omega) _)⟩
theorem OvAt.setQ (h:OvAt w Z n mv W X rv ql R) (j d:Nat) (Y:j<ql.length) {u:Value} (hu:u=am d):OvAt w Z n mv W (X.setCell ⟨w.heap.size+3,j,none⟩ u) rv (ql.set j d) R:=by
 obtain⟨⟨h1,h2,h3,h4,h5,h6⟩,⟨h7,h8,h9⟩,J,V⟩:=h;exact⟨⟨h1.setOther (by simp) _,h2.setOther (by simp) _,h3.setOther (by simp) _,h4.set j Y d hu,h5.setCell h6 (by simp;omega) _,h6⟩,⟨h7,by simpa [World.setCell] using h8,h9.setCell (by simp) _⟩,J.trans (KeepsOthers.setCell _ _ _),V.trans (KpB.setCell _ (by simp) (by simp;omega) _)⟩
theorem OvAt.keptBy {A B:World} {row:Option Nat} (h:OvAt w Z n mv A A rv ql R) (hg:A.grownBy B row) (J: ∀r,row=some r-> ∃o:Obj,A.heap[r]? =some o/\o.isCells=false) (hB:Below w.heap.size A B):OvAt w Z n mv B B rv ql R:=by
 obtain⟨⟨h1,h2,h3,h4,h5,h6⟩,⟨h7,h8,h9⟩,_,_⟩:=h;exact⟨⟨h1.kept hg J,h2.kept hg J,h3.kept hg J,h4.kept hg J,or h5 hg J,h6⟩,⟨h7,zac h8 hg.size,h9.trans hB⟩,KeepsOthers.refl _,KpB.refl _ _ _⟩
end
def Kz {l:zdL} (y n Z:Nat) (mv:Value) (w:World) (pre:List (cf l)) (W:World):Prop:=
 ∃rv,OvAt w Z n mv W W rv (dT y n pre).2 (dT y n pre).1
variable {F:Fence} {n:Nat} {P:Program} {c:Code} {Q:zdZ} {a:Act} {w:World}
theorem GS (R:World->Prop)
 (h1:c.wpIn F n P (λe _ w'=>e= .normal/\R w') a w) (h2: ∀J w',R w'->Q .normal J w'):c.wpIn F n P Q a w:=
 Code.wpIn_mono (λe J w' h=>by obtain⟨rfl,V⟩:=h;exact h2 J w' V) h1
theorem GT {K:Act->World->Prop} {A:Act} (R:World->Prop)
 (h1:c.wpIn F n P (λe J w'=>e= .normal/\J=A/\R w') a w) (h2: ∀w',R w'->K A w'):c.wpIn F n P (Exit.then K Q) a w:=
 Code.wpIn_mono (λe J w' h=>by obtain⟨rfl,rfl,V⟩:=h;exact h2 w' V) h1
variable {y:Nat}
theorem yA {N k:Nat} (J:0<y) (V:N<y*10000) (h:k<=9999/\(∀j,j<k->decide (N<y*(j+1))=false)/\(k<9999->decide (N<y*(k+1))=true)):k=N / y:=by
 obtain⟨h1,h2,h3⟩:=h;have h4:N<y*(k+1):=by
  by_cases Y:k<9999
  ·exact zdx (h3 Y)
  ·obtain rfl:k=9999:=by omega
   exact V
 have h5:y*k<=N:=by
  cases k with
  |zero=>simp
  |succ j=>exact Nat.le_of_not_lt (zdy (h2 j (zcz j)))
 exact Nat.le_antisymm ((Nat.le_div_iff_mul_le J).2 (by rw[zay];exact h5)) (Nat.le_of_lt_succ ((zbO J).2 (by rw[zay];exact h4)))
theorem acU (d R e:Nat) (V:d<10000) (J:(ae 10000 R).length<=e):(ae 10000 (d+10000*R)).length<=e+1:=by
 have h3:=(ai (B:=10000) (by decide) R e).1 J;exact(ai (B:=10000) (by decide) _ (e+1)).2 (by rw[zaw];omega)
theorem iW (x y:Nat) (hy0:0<y) (va vb:Value) (w:World) (ha:Rd am w va (ae 10000 x)) (hb:Rd am w vb (ae 10000 y)) (hx:(ae 10000 x).length<=400) (hy:(ae 10000 y).length<=400) (hfa: ∀k,va.ownBlock=some k->k<w.heap.size):
 Calls prog 182 #[va,vb] w λe w'=> ∃v1 v2,e= .returned (.tuple #[v1,v2])/\Rd am w' v1 (ae 10000 (x / y))/\Rd am w' v2 (ae 10000 (x%y))/\From w.heap.size v1/\From w.heap.size v2/\Below w.heap.size w w':=by
 obtain⟨aa,ca,rfl,_⟩:=ha.open';obtain⟨ab,cb,rfl,_⟩:=hb.open';have Ha:=zdF ha;have Hb:=zdF hb;obtain⟨n,hn⟩: ∃n,(ae 10000 x).length=n:=⟨_,rfl⟩;obtain⟨m,hm⟩: ∃n,(ae 10000 y).length=n:=⟨_,rfl⟩;have Hn:=zdF hn;have Hm:=zdF hm;rw[hn] at hx Ha hfa ⊢;rw[hm] at hy Hb ⊢;have Hfa:=zdF hfa;clear hn hm ha hb hfa;refine(callsIn_wide (n:=5)).1 ?_;refine callsIn_of_wp_marks func182 rfl trivial ?_ rfl;simp only[ntmps182,zbq,za4,za9,Nat.reduceAdd,Nat.reduceSub,zbT,zbU,zbV,zbW,zaM,zaO];have e3:(((w.alloc (.cells #[.slice ab m cb] 201)).alloc (.cells #[.slice none 0 0] 201)).alloc (.cells #[.slice none 0 0] 201)).heap.size=w.heap.size+3:=by simp
 gi_wp2_with (first
  |(gi_at_make;refine sW (enc:=am) (e:=3) (B:=w.heap.size+3) rfl _ _ 201 rfl 0 8 underlying201 gE rfl .i64 .i64 _ _ n rfl rfl rfl rfl (by omega) (by decide) (by simp) ?_;intro w1 hown1 hB1;rw[e3] at hown1 hB1;simp only[World.size_alloc]
    have hM1:=((Blk.new w #[.slice ab m cb] 201).alloc (.cells #[.slice none 0 0] 201)).alloc (.cells #[.slice none 0 0] 201)|>.below hB1 (by omega)
    have hQ1:=(Blk.newAt (w.alloc (.cells #[.slice ab m cb] 201)) #[.slice none 0 0] 201 (b:=w.heap.size+1) (by simp)).alloc (.cells #[.slice none 0 0] 201)|>.below hB1 (by omega)
    have hR1:=(Blk.newAt ((w.alloc (.cells #[.slice ab m cb] 201)).alloc (.cells #[.slice none 0 0] 201)) #[.slice none 0 0] 201 (b:=w.heap.size+2) (by simp))|>.below hB1 (by omega)
    have hBw1:Below w.heap.size w w1:=((((zdG _ w).alloc (za0 _) _).alloc (by simp) _).alloc (by simp;omega) _).trans (hB1.mono (by omega));have q1:=hQ1.cell (i:=0) rfl
    have qf1:=hQ1.free 0)
  |(refine⟨trivial, ?_⟩;gi_at_call 230;refine(callsIn_wide.2 (gD _ _ _ _)).mono ?_;rintro e w' ⟨rfl,rfl⟩))
 obtain⟨W0,hW0⟩: ∃W0,(w1.setCell ⟨w.heap.size+1,0,none⟩ (.slice (some ⟨w.heap.size+3,0,none⟩) n n))=W0:=⟨_,rfl⟩;have hM0:Blk W0 w.heap.size #[.slice ab m cb] 201:=by subst hW0;exact hM1.setOther (by simp) _
 have hQ0:Blk W0 (w.heap.size+1) #[.slice (some ⟨w.heap.size+3,0,none⟩) n n] 201:=by subst hW0;exact hQ1.set 0 _
 have hR0:Blk W0 (w.heap.size+2) #[.slice none 0 0] 201:=by subst hW0;exact hR1.setOther (by simp) _
 have hB0:Below w.heap.size w W0:=by subst hW0;exact hBw1.setCell (by simp) _
 have hown0:OwnL am 3 W0 (w.heap.size+3) (.slice (some ⟨w.heap.size+3,0,none⟩) n n) (List.replicate n 0):=by subst hW0;exact hown1.setOther (by simp) _
 have hsz0:W0.heap.size=w1.heap.size:=by subst hW0;simp[World.setCell]
 have hlt0:w.heap.size+4<=W0.heap.size:=by obtain⟨_,_,hlt,_⟩:=hown0.row;omega
 rw[hW0];simp only[hsz0.symm];clear hW0 hsz0 q1 qf1 hM1 hQ1 hR1 hBw1 hown1 hB1 e3;clear w1;have hwsz: ∀t:Value,(W0.alloc (.cells #[t] 201)).heap.size=W0.heap.size+1:=λt=>by simp
 simp only[zbr,Nat.reduceAdd];refine qM (by omega) W0.heap.size w.heap.size rfl (.slice aa n ca) (ae 10000 x) (by rw[Hn.out];omega) (by simp) (by simp;have:=hB0.size;omega) ((Blk.new W0 #[.slice aa n ca] 201).cell (i:=0) rfl) ((Ha.out.below hB0).below ((zdG _ W0).alloc (za0 _) _)) Hfa.out rfl
  (λpre W=>Kz y n W0.heap.size (.slice ab m cb) w pre W)
  (λ_ _ _=>False)
  ?own ?ownx ?start (λp t=>((t.setIfInBounds 15 (.int .i64 (p.1.1:Int))).setIfInBounds 16 (.int .i64 (p.1.2:Int))).setIfInBounds 6 (.int .i64 (p.1.1:Int))|>.setIfInBounds 7 (.int .i64 (p.1.2:Int))) ?assign ?body ?done ?stop
 case own=>
  intro s A B row hs hg hr;obtain⟨rv,h⟩:=hs;refine⟨rv,h.keptBy hg (λr e=>(hr r e).2) ((zdG _ A).grown hg h.2.1.2.2.size (λk e=> ?_))⟩;have h1:=(hr k e).1;have h2:=hB0.size;rw[World.size_alloc] at h1;omega
 case ownx=>exact λ_ _ _ _ _ hs _ _=>hs
 case start=>exact⟨_,⟨⟨hM0.alloc _,hQ0.alloc _,hR0.alloc _,hown0.alloc _, .inl ⟨rfl,aF 10000⟩,From.nil _⟩,⟨hlt0,by simp,hB0.alloc hB0.size _⟩,KeepsOthers.refl _,KpB.refl _ _ _⟩⟩
 case assign=>
  intro l x W K hK;simp only[zbl,zaR,zba] at hK
  gi_wp2
  exact hK
 case body=>
  rintro l pre p W ⟨rv,hOv⟩ hlen;simp only[zbl,zaR,zba];obtain⟨hRy,hql,hqd⟩:=ta (y:=y) (n:=n) hy0 (λz hz=>aK (by decide) x z hz) pre;obtain⟨⟨R,ql⟩,hF⟩: ∃F,dT y n pre=F:=⟨_,rfl⟩;rw[hF] at hOv hRy hql hqd;have HF:=zdF hF;clear hF;simp only at hOv hRy hql hqd;rw[Hn.out] at hlen;have hpd:p.1.2<10000:=aK (by decide) x _ (zal p.2);have hpi:p.1.1<n:=by have:=(zaV.1 p.2).1;rw[Hn.out] at this;exact this
  have hlR:(ae 10000 R).length<=400:=by
   have h3:=(ai (B:=10000) (by decide) y m).1 (by rw[Hm.out];exact za0 _);have:=(ai (B:=10000) (by decide) R m).2 (by omega);omega
  obtain⟨av,cv,rfl,_⟩:=hOv.1.2.2.2.2.1.open';have HOv:=zdF hOv;have r0:=hOv.1.2.2.1.cell (i:=0) rfl;have rf0:=hOv.1.2.2.1.free 0;have rl0:=hOv.1.2.2.1.lt;have hds: ∀z∈ [p.1.2]++ae 10000 R,z<10000:=by
   intro z hz;rcases za8.1 hz with h|h
   ·simp at h;omega
   ·exact aK (by decide) R z h
  have hvs:val 10000 ([p.1.2]++ae 10000 R)=p.1.2+10000*R:=by
   rw[List.singleton_append,val,bi (by decide)]
  have Hds:=zdF hds;have Hvs:=zdF hvs;clear hOv hds hvs
  gi_wp2_with (first
   |(gi_at_builtin;refine lc (enc:=am) (e:=3) rfl _ _ 201 rfl (.int .i64 0) 8 underlying201 gE rfl du rfl (OwnL.lit1 W p.1.2 rfl) rfl (HOv.out.alloc _).1.2.2.2.2.1 (by simp;omega) (by decide) (by simp) ?_;intro v' w1 hown1 hB1 hk1
     have hO1:=zdF (HOv.out.grow (((zdG _ W).alloc (za0 _) _).trans hB1)))
   |(refine⟨trivial, ?_⟩;gi_at_call 237;refine(CallsIn.inRound l (callsIn_wide.2 (eT _ Hds.out _ _ hown1.rd))).mono ?_;rintro e w2 ⟨v2,rfl,hr2,hf2,hb2⟩
     have hO2:=zdF (hO1.out.grow hb2);have r2:=hO2.out.1.2.2.1.cell (i:=0) rfl;have rf2:=hO2.out.1.2.2.1.free 0;have m2:=hO2.out.1.1.cell (i:=0) rfl;rw[Hvs.out] at hr2
     obtain⟨a2,c2,rfl,_⟩:=hr2.open'))
  have hO3:=(hO2.out.setR hr2 (hf2 _ (hown1.from.mono HOv.out.2.1.2.1))).alloc (.cells #[.func (.func 238) #[.slice ab m cb] #[]] 261);have hby:=Blk.newAt (w2.setCell ⟨w.heap.size+2,0,none⟩ (.slice a2 (ae 10000 (p.1.2+10000*R)).length c2)) #[.func (.func 238) #[.slice ab m cb] #[]] 261 (b:=w2.heap.size) (by simp[World.setCell]);have hbb:w.heap.size+4<=w2.heap.size:=by have:=hO2.out.2.1;omega
  have hlN:=acU p.1.2 R 400 hpd hlR;have hNy:p.1.2+10000*R<y*10000:=by omega
  generalize ((w2.setCell ⟨w.heap.size+2,0,none⟩ (.slice a2 (ae 10000 (p.1.2+10000*R)).length c2)).alloc (.cells #[.func (.func 238) #[.slice ab m cb] #[]] 261))=X2 at*
  obtain⟨N,hN⟩: ∃N,p.1.2+10000*R=N:=⟨_,rfl⟩;rw[hN] at hO3 hlN hNy;simp only[hN];have HN:=zdF hN;have HO:=zdF hO3;have hrl:=zdF hO3.2.1.2.1;have Hby:=zdF hby;obtain⟨bb,hbbe⟩: ∃b,w2.heap.size=b:=⟨_,rfl⟩;rw[hbbe] at hby Hby hbb;simp only[hbbe];have hbl:=hby.lt;have qd:=hO3.drew.1.2.1.cell (i:=0) rfl;have hlenq:p.1.1<ql.length:=by omega
  clear hO3 hN hby hbbe r0 rf0 rl0 r2 rf2 m2 hO1 hO2 hr2 hf2 hown1 hB1 hk1 hb2
  have hse:=zdF (AF 239 (.pointer (some ⟨bb,0,none⟩)) (.pointer (some ⟨w.heap.size+2,0,none⟩)) (enters_of func239 (by kernel_rfl) rfl) 9999 (λi=>decide (N<y*(i+1))) X2.drew (by decide)
         (λi W hi hW=>Ei y N i (.slice ab m cb) _ bb (w.heap.size+2) W (Hb.out.below (HO.out.drew.grow hW).2.1.2.2) (HO.out.drew.grow hW).1.2.2.2.2.1 ((Blk.below (w:=X2.drew) Hby.out hW hbl).cell rfl) (zam hbl hW.size) ((HO.out.drew.grow hW).1.2.2.1.cell rfl) (HO.out.drew.grow hW).1.2.2.1.lt hi (by rw[Hm.out];omega) (by omega))
         (λi j hij h=>by simp only[zdw] at h ⊢;exact zam h (zb5 _ (by omega))))
  have hmx:prog.follows .mixedOrders=true:=by kernel_rfl
  obtain⟨k0,hk0⟩: ∃k,N / y=k:=⟨_,rfl⟩;have Hk0:=zdF hk0;clear hk0;apply GT (λW'=> ∃w3,Below X2.drew.heap.size X2.drew w3/\W'=w3.setCell ⟨w.heap.size+3,p.1.1,none⟩ (.int .i64 (k0:Int)))
  ·gi_region_with_o (first
   |(refine⟨trivial, ?_⟩;gi_at_call 240
     refine(CallsIn.inRound l (callsIn_wide.2 hse.out)).mono ?_;rintro e w3 ⟨k,rfl,hk,hb3⟩;obtain rfl:k0=k:=Hk0.out.symm.trans (yA hy0 hNy hk).symm;have q3:=(HO.out.drew.grow hb3).1.2.1.cell (i:=0) rfl;have e3:=(HO.out.drew.grow hb3).1.2.2.2.1.cell p.1.1 hlenq
     have f3:=(HO.out.drew.grow hb3).1.2.2.2.1.free p.1.1))
   all_goals exact⟨rfl,rfl,_,hb3,rfl⟩
  ·rintro w' ⟨w3,hb3,rfl⟩;have HO4:=zdF (((HO.out.drew.grow hb3).setQ p.1.1 k0 hlenq (u:= .int .i64 (k0:Int)) rfl).drew);have HB4:=zdF ((Blk.below (w:=X2.drew) Hby.out hb3 hbl).setOther (a:=⟨w.heap.size+3,p.1.1,none⟩) (by simp;omega) (.int .i64 (k0:Int)));have hk9:k0<10000:=by rw[<-Hk0.out];exact(zbO hy0).2 (by rw[zay];exact hNy)
   have hle:y*k0<=N:=by rw[<-Hk0.out];exact Nat.mul_div_le N y
   have hlp:(ae 10000 (y*k0)).length<=401:=by
    have h3:=(ai (B:=10000) (by decide) N 401).1 hlN;exact(ai (B:=10000) (by decide) _ 401).2 (by omega)
   obtain⟨X4,hX4⟩: ∃X,w3.setCell ⟨w.heap.size+3,p.1.1,none⟩ (.int .i64 (k0:Int))=X:=⟨_,rfl⟩;rw[hX4] at HO4 HB4;rw[hX4];clear hX4 hb3 qd hse;have r4:=HO4.out.1.2.2.1.cell (i:=0) rfl;have q4:=HO4.out.1.2.1.cell (i:=0) rfl;have b4:X4.drew.cell? ⟨bb,0,none⟩=_:=HB4.out.cell (i:=0) rfl;have e4:=HO4.out.1.2.2.2.1.cell p.1.1 (by simpa using hlenq);rw[zck] at e4;have hBy:=zdF (lP y k0 hk9 _ X4.drew (Hb.out.below HO4.out.2.1.2.2) (by rw[Hm.out];omega));have hMi:Hid (∀w5 v5,Below X4.drew.heap.size X4.drew w5->Rd am w5 v5 (ae 10000 (y*k0))->Calls prog 221 #[.slice a2 (ae 10000 N).length c2,v5] w5 λe w6=> ∃a6 n6 c6,e= .returned (.slice a6 n6 c6)/\(Rd am w6 (.slice a6 n6 c6) (ae 10000 (N - y*k0))/\From w5.heap.size (.slice a6 n6 c6)/\Below w5.heap.size w5 w6)/\w6.cell? ⟨w.heap.size+2,0,none⟩=some (.slice a2 (ae 10000 N).length c2)/\w6.frozen? ⟨w.heap.size+2,0,none⟩=false):=by
    refine zdF ?_;intro w5 v5 hb5 hr5;refine(ll N (y*k0) hle _ _ _ (HO4.out.grow hb5).1.2.2.2.2.1 hr5 (by omega) (by omega)).mono ?_;rintro e w6 ⟨v6,rfl,hr6,hf6,hb6⟩;have HO6:=((HO4.out.grow hb5).grow hb6);obtain⟨a6,c6,rfl,_⟩:=hr6.open';exact⟨a6,_,c6,rfl,⟨hr6,hf6,hb6⟩,HO6.1.2.2.1.cell (i:=0) rfl,HO6.1.2.2.1.free 0⟩
   have hR5:Hid (∀w5,Below X4.drew.heap.size X4.drew w5->w5.cell? ⟨w.heap.size+2,0,none⟩=some (.slice a2 (ae 10000 N).length c2)):=zdF λw5 hb5=>(HO4.out.grow hb5).1.2.2.1.cell (i:=0) rfl;have hEnd:Hid (∀w5 w6 v6,Below X4.drew.heap.size X4.drew w5->(Rd am w6 v6 (ae 10000 (N - y*k0))/\From w5.heap.size v6/\Below w5.heap.size w5 w6)->OvAt w W0.heap.size n (.slice ab m cb) W (w6.setCell ⟨w.heap.size+2,0,none⟩ v6) v6 (ql.set p.1.1 k0) (N - y*k0)):=by
    refine zdF ?_;rintro w5 w6 v6 hb5 ⟨hr6,hf6,hb6⟩;exact((HO4.out.grow hb5).grow hb6).setR hr6 (hf6.mono (zac HO4.out.2.1.2.1 hb5.size))
   have hS5:Hid (∀w5,Below X4.drew.heap.size X4.drew w5->w5.cell? ⟨w.heap.size+1,0,none⟩=some (.slice (some ⟨w.heap.size+3,0,none⟩) n n)/\w5.cell? ⟨bb,0,none⟩=some (.func (.func 238) #[.slice ab m cb] #[])/\w5.cell? ⟨w.heap.size+3,p.1.1,none⟩=some (.int .i64 (k0:Int))):=by
    refine zdF ?_;intro w5 hb5;have e5:=(HO4.out.grow hb5).1.2.2.2.1.cell p.1.1 (by simpa using hlenq);rw[zck] at e5;exact⟨(HO4.out.grow hb5).1.2.1.cell rfl,(Blk.below (w:=X4.drew) HB4.out hb5 (Blk.lt HB4.out)).cell rfl,e5⟩
   have hS6:Hid (∀w5 w6 v6,Below X4.drew.heap.size X4.drew w5->(Rd am w6 v6 (ae 10000 (N - y*k0))/\From w5.heap.size v6/\Below w5.heap.size w5 w6)->(w6.setCell ⟨w.heap.size+2,0,none⟩ v6).cell? ⟨w.heap.size+1,0,none⟩=some (.slice (some ⟨w.heap.size+3,0,none⟩) n n)/\(w6.setCell ⟨w.heap.size+2,0,none⟩ v6).cell? ⟨bb,0,none⟩=some (.func (.func 238) #[.slice ab m cb] #[])/\(w6.setCell ⟨w.heap.size+2,0,none⟩ v6).cell? ⟨w.heap.size+3,p.1.1,none⟩=some (.int .i64 (k0:Int))):=by
    refine zdF ?_;intro w5 w6 v6 hb5 h6;have hO:=hEnd.out w5 w6 v6 hb5 h6;have e6:=hO.1.2.2.2.1.cell p.1.1 (by simpa using hlenq);rw[zck] at e6;exact⟨hO.1.2.1.cell rfl,((Blk.below (w:=X4.drew) HB4.out (hb5.trans (h6.2.2.mono hb5.size)) (Blk.lt HB4.out)).setOther (a:=⟨w.heap.size+2,0,none⟩) (by simp;omega) v6).cell rfl,e6⟩
   have hRes:(N%y,ql.set p.1.1 (N / y))=(N - y*k0,ql.set p.1.1 k0):=by rw[Nat.mod_eq_sub,Hk0.out]
   have hFin:Hid (dT y n (pre++ [p])=(N - y*k0,ql.set p.1.1 k0)):=by
    refine zdF ?_;rw[acy,HF.out];simp only[lh,HN.out];exact hRes
   clear hRes hlN hlp hle hk9 hNy hbb hbl hlR hpd hRy hqd hlt0 hwsz HO4 HB4 Hby HO hrl hlen Hds Hvs HF HN Hk0 hQ0 hR0 hM0 hown0 hB0
   gi_wp2
   refine GS (λW'=> ∃v6,OvAt w W0.heap.size n (.slice ab m cb) W W' v6 (ql.set p.1.1 k0) (N - y*k0)) ?_ ?_
   ·refine oo (λw5=>w5.cell? ⟨w.heap.size+1,0,none⟩=some (.slice (some ⟨w.heap.size+3,0,none⟩) n n)/\w5.cell? ⟨bb,0,none⟩=some (.func (.func 238) #[.slice ab m cb] #[])/\w5.cell? ⟨w.heap.size+3,p.1.1,none⟩=some (.int .i64 (k0:Int))) hmx (by kernel_rfl) (λ_ _ h=>by cases h.1) ?_;have hS:=hS5.out X4.drew (zdG _ _);clear q4 b4 e4;refine wpAnyH_take (i:=1) (v:= .func (.func 238) #[.slice ab m cb] #[]) rfl (by kernel_rfl) (by kernel_rfl) (by kernel_rfl) (λ_ _ _ h=>h) (Or.inl ⟨by rfl,by rintro W5 ⟨s1,s2,s3⟩;go_simp⟩) hS ?_;refine wpAnyH_take (i:=2) (v:= .slice (some ⟨w.heap.size+3,0,none⟩) n n) rfl (by kernel_rfl) (by kernel_rfl) (by kernel_rfl) (λ_ _ _ h=>h) (Or.inl ⟨by rfl,by rintro W5 ⟨s1,s2,s3⟩;go_simp⟩) hS ?_;refine wpAnyH_take (i:=3) (v:= .int .i64 (p.1.1:Int)) rfl (by kernel_rfl) (by kernel_rfl) (by kernel_rfl) (λ_ _ _ h=>h) (Or.inl ⟨by rfl,by rintro W5 ⟨s1,s2,s3⟩;go_simp⟩) hS ?_;refine wpAnyH_take (i:=4) (v:= .pointer (some ⟨w.heap.size+3,p.1.1,none⟩)) rfl (by kernel_rfl) (by kernel_rfl) (by kernel_rfl) (λ_ _ _ h=>h) (Or.inl ⟨by rfl,by rintro W5 ⟨s1,s2,s3⟩;go_simp⟩) hS ?_;refine wpAnyH_take (i:=5) (v:= .int .i64 (k0:Int)) rfl (by kernel_rfl) (by kernel_rfl) (by kernel_rfl) (λ_ _ _ h=>h) (Or.inl ⟨by rfl,by rintro W5 ⟨s1,s2,s3⟩;go_simp⟩) hS ?_;refine wpAnyH_ready (rs:= [0,6]) (by kernel_rfl) (by simp) (AllReadyH.cons rfl (λK hK=> ?_) (AllReadyH.cons rfl (λK hK=> ?_) AllReadyH.nil))
    ·go_simp
     refine hK _ _ hS (λ_=> ?_);clear hK K;refine wpAnyH_ready (rs:= [6]) (by kernel_rfl) (by simp) (AllReadyH.cons rfl (λK hK=> ?_) AllReadyH.nil)
     go_simp
     (with_reducible refine(hBy.out).mono ?_);rintro e w5 ⟨v5,rfl,hr5,hf5,hb5⟩
     have hS:=hS5.out w5 hb5;have r5:=hR5.out w5 hb5;refine hK _ _ hS (λ_=> ?_);clear hK K;refine wpAnyH_ready (rs:= [7]) (by kernel_rfl) (by simp) (AllReadyH.cons rfl (λK hK=> ?_) AllReadyH.nil)
     go_simp
     (with_reducible refine(hMi.out _ _ hb5 hr5).mono ?_);rintro e w6 ⟨a6,n6,c6,rfl,h6,r6,f6⟩
     have hS:=hS5.out w6 (hb5.trans (h6.2.2.mono hb5.size));refine hK _ _ hS (λ_=> ?_);clear hK K;refine wpAnyH_ready (rs:= [8]) (by kernel_rfl) (by simp) (AllReadyH.cons rfl (λK hK=> ?_) AllReadyH.nil)
     go_simp
     refine hK _ _ (hS6.out _ _ _ hb5 h6) (λ_=> ?_);clear hK K;refine wpAnyH_done (by kernel_rfl) ?_ _;exact⟨rfl,_,hEnd.out _ _ _ hb5 h6⟩
    ·go_simp
     (with_reducible refine(hBy.out).mono ?_);rintro e w5 ⟨v5,rfl,hr5,hf5,hb5⟩
     have hS:=hS5.out w5 hb5;have r5:=hR5.out w5 hb5;refine hK _ _ hS (λ_=> ?_);clear hK K;refine wpAnyH_ready (rs:= [0]) (by kernel_rfl) (by simp) (AllReadyH.cons rfl (λK hK=> ?_) AllReadyH.nil)
     go_simp
     refine hK _ _ hS (λ_=> ?_);clear hK K;refine wpAnyH_ready (rs:= [7]) (by kernel_rfl) (by simp) (AllReadyH.cons rfl (λK hK=> ?_) AllReadyH.nil)
     go_simp
     (with_reducible refine(hMi.out _ _ hb5 hr5).mono ?_);rintro e w6 ⟨a6,n6,c6,rfl,h6,r6,f6⟩
     have hS:=hS5.out w6 (hb5.trans (h6.2.2.mono hb5.size));refine hK _ _ hS (λ_=> ?_);clear hK K;refine wpAnyH_ready (rs:= [8]) (by kernel_rfl) (by simp) (AllReadyH.cons rfl (λK hK=> ?_) AllReadyH.nil)
     go_simp
     refine hK _ _ (hS6.out _ _ _ hb5 h6) (λ_=> ?_);clear hK K;refine wpAnyH_done (by kernel_rfl) ?_ _;exact⟨rfl,_,hEnd.out _ _ _ hb5 h6⟩
   ·rintro a' w' ⟨v6,hO7⟩
    gi_wp2
    refine⟨hO7.2.2.1.from _,hO7.2.2.2,v6, ?_⟩;rw[hFin.out];exact hO7.start
 case done=>
  rintro D ys W hD hys ⟨rv,hOv⟩ hK;have hbw:=Ky (x:=x) hy0 (ae 10000 x).length (za0 _);rw[<-hys,zaJ] at hbw;rw[Hn.out] at hbw;obtain⟨hq,hr⟩:=DivInv.done (R:=(dT y n ys).1) (q:=(dT y n ys).2) (by decide) hbw;obtain⟨_,hql,hqd⟩:=ta (y:=y) (n:=n) hy0 (λz hz=>aK (by decide) x z hz) ys;generalize dT y n ys=F at*
  obtain⟨R,ql⟩:=F;simp only at hOv hq hr hql hqd;subst hr;have Hq:=zdF hq;have Hqd:=zdF hqd;have HK:=zdF hK;have HOv:=zdF hOv;obtain⟨ra,rc,rfl,_⟩:=hOv.1.2.2.2.2.1.open';have q9:=hOv.drew.1.2.1.cell (i:=0) rfl;have r9:=hOv.drew.1.2.2.1.cell (i:=0) rfl;clear hq hqd hK hOv hbw hys;have hmx:prog.follows .mixedOrders=true:=by kernel_rfl
  gi_wp2
  gi_region_with_o (refine⟨trivial, ?_⟩;gi_at_call 237;refine(callsIn_wide.2 (eT ql Hqd.out _ _ HOv.out.drew.1.2.2.2.1.rd)).mono ?_
                    rintro e w2 ⟨v2,rfl,hr2,hf2,hb2⟩;have HO2:=zdF (HOv.out.drew.grow hb2);rw[Hq.out] at hr2;have q2:=HO2.out.1.2.1.cell (i:=0) rfl;have qf2:=HO2.out.1.2.1.free 0;have r2:=HO2.out.1.2.2.1.cell (i:=0) rfl;have rf2:=HO2.out.1.2.2.1.free 0
                    obtain⟨qa,qc,rfl,_⟩:=hr2.open')
  all_goals gi_wp2
  all_goals
   have hQ8:=(HO2.out.1.2.1.set 0 (.slice qa (ae 10000 (x / y)).length qc)).setOther (a:=⟨w.heap.size+2,0,none⟩) (by simp) (.slice ra (ae 10000 (x%y)).length rc);have hR8:=(HO2.out.1.2.2.1.setOther (a:=⟨w.heap.size+1,0,none⟩) (by simp) (.slice qa (ae 10000 (x / y)).length qc)).set 0 (.slice ra (ae 10000 (x%y)).length rc);have hfq:From (w.heap.size+3) (.slice qa (ae 10000 (x / y)).length qc):=hf2 _ (λk hk=>by cases hk;exact za0 _);have hfr:=HO2.out.1.2.2.2.2.2;have hZ:=HO2.out.2.1;have hq8:=(hr2.setCell (a:=⟨w.heap.size+1,0,none⟩) hfq (by simp) (.slice qa (ae 10000 (x / y)).length qc)).setCell (a:=⟨w.heap.size+2,0,none⟩) hfq (by simp) (.slice ra (ae 10000 (x%y)).length rc);have hr8:=(HO2.out.1.2.2.2.2.1.setCell (a:=⟨w.heap.size+1,0,none⟩) hfr (by simp;omega) (.slice qa (ae 10000 (x / y)).length qc)).setCell (a:=⟨w.heap.size+2,0,none⟩) hfr (by simp;omega) (.slice ra (ae 10000 (x%y)).length rc);have hB8:Below w.heap.size w ((w2.setCell ⟨w.heap.size+1,0,none⟩ (.slice qa (ae 10000 (x / y)).length qc)).setCell ⟨w.heap.size+2,0,none⟩ (.slice ra (ae 10000 (x%y)).length rc)):=(hZ.2.2.setCell (by simp) _).setCell (by simp) _;have hDW:w.heap.size+4<=D:=by rw[World.size_alloc] at hD;omega
   have hK8:((w2.setCell ⟨w.heap.size+1,0,none⟩ (.slice qa (ae 10000 (x / y)).length qc)).setCell ⟨w.heap.size+2,0,none⟩ (.slice ra (ae 10000 (x%y)).length rc)).heap[D]? =some (.deferred (some [])):=by
    rw[Below.heap_setCell _ _ _ _ (by simp;omega),Below.heap_setCell _ _ _ _ (by simp;omega)];exact(hb2.block D (zaq.1 HK.out).1).trans HK.out
   generalize ((w2.setCell ⟨w.heap.size+1,0,none⟩ (.slice qa (ae 10000 (x / y)).length qc)).setCell ⟨w.heap.size+2,0,none⟩ (.slice ra (ae 10000 (x%y)).length rc))=W9 at*
   refine⟨by simp, .inl ⟨_,_,rfl,run_takeDeferred hK8, ?_⟩⟩;have hg:=grownBy_putObj' W9 D (.deferred none);have hgr: ∀r,some D=some r-> ∃o:Obj,W9.heap[r]? =some o/\o.isCells=false:=λr e=>by cases e;exact⟨_,hK8,rfl⟩
   have c1:(W9.putObj D (.deferred none)).cell? ⟨w.heap.size+1,0,none⟩=some (.slice qa (ae 10000 (x / y)).length qc):=(hQ8.kept hg hgr).cell rfl;have c2:(W9.putObj D (.deferred none)).cell? ⟨w.heap.size+2,0,none⟩=some (.slice ra (ae 10000 (x%y)).length rc):=(hR8.kept hg hgr).cell rfl;refine⟨.tuple #[.slice qa (ae 10000 (x / y)).length qc, .slice ra (ae 10000 (x%y)).length rc], ?_,_,_,rfl,or hq8 hg hgr,or hr8 hg hgr,hfq.mono (by omega),hfr.mono (by omega),hB8.trans (belowK_b (w:=w) (za0 _) W9 D _ _ (by omega) hK8 rfl rfl)⟩;simp[results,f182,go_sem,c1,c2]
 case stop=>exact λ_ _ _ _ _ _ hx _=>hx.elim
theorem yB (c:UInt8): ∀n,Lib.repeatL [c] n=List.replicate n c:=by
 intro n
 induction n with
 |zero=>rfl
 |succ n J=>rw[zce,<-J];rfl
theorem qo:(prog.info? 110).map (·.size)=some 2:=by kernel_rfl
theorem yC:liesAt prog prog.depth 110 (2 / prog.cellsOf 110) 0 110 1=true:=by kernel_rfl
theorem Ej:(prog.info? 5).map (λi=>(i.zero,i.size,i.bytes))=some (some (.int .u8 0),1,1):=by kernel_rfl
theorem tc (b:Nat) (w:World) (h0:w.cell? ⟨b,0,none⟩=some (.pointer (some ⟨b,0,none⟩))):
 Calls prog 124 #[.pointer (some ⟨b,0,none⟩)] w λe w'=>e= .returned (.tuple #[])/\w'=w:=by
 obtain⟨j,hj,_⟩:=zbE.1 qo;go_enter func124,ntmps124;go_wp2;rw[Lib.run_neq_ptr_same w _ underlying107 hj];go_wp2
 go_end0
 exact⟨rfl,rfl⟩
theorem qL (b:Nat) (w:World) (h0:w.cell? ⟨b,0,none⟩=some (.pointer none)) (hsh:w.shape? b=some (110,2)) (hfz:w.frozen? ⟨b,0,none⟩=false):
 Calls prog 124 #[.pointer (some ⟨b,0,none⟩)] w λe w'=>e= .returned (.tuple #[])/\w'=w.setCell ⟨b,0,none⟩ (.pointer (some ⟨b,0,none⟩)):=by
 obtain⟨j,hj,hjs⟩:=zbE.1 qo;go_enter func124,ntmps124;go_wp2;rw[Lib.run_to_unsafe w ⟨b,0,none⟩ underlying107 underlying222 hj (by rw[hjs];decide) hsh (Nat.zero_lt_succ 1)];simp only[Result.andThen];rw[Oper.upon_value];go_wp2;rw[run_callFunc_extern func185 (by kernel_rfl) (by kernel_rfl) (by kernel_rfl) (e:=Extern.AbiNoEscape.same) (by kernel_rfl)];rw[Lib.run_noEscape];simp only[Result.andThen];rw[Oper.upon_value];go_wp2;rw[Lib.run_from_unsafe w ⟨b,0,none⟩ underlying222 underlying107 hj hsh yC];simp only[Result.andThen];rw[Oper.upon_value];go_wp2
 go_end0
 exact⟨rfl,rfl⟩
theorem uB (B b:Nat) (J:zdO) (w:World) (h:Lib.IsBuilderF 110 5 B b J w):
 Calls prog 124 #[.pointer (some ⟨b,0,none⟩)] w λe w'=>e= .returned (.tuple #[])/\Lib.BuilderAtF 110 5 B b (.pointer (some ⟨b,0,none⟩)) J w'/\Below B w w'/\Lib.OthersKept 5 (some b) w w':=by
 rcases h with h|h
 ·refine(qL b w h.cell0 h.shape h.frozen0).mono ?_;rintro e w' ⟨rfl,rfl⟩;exact⟨rfl,h.used _,(zdG B w).setCell (p:=⟨b,0,none⟩) h.1 _,(Lib.OthersKept.refl _ _ w).setCell ⟨b,0,none⟩ rfl _⟩
 ·refine(tc b w h.cell0).mono ?_;rintro e w' ⟨rfl,rfl⟩;exact⟨rfl,h,zdG B _,Lib.OthersKept.refl _ _ _⟩
theorem qN (B b:Nat) (bs:zdO) (s:zdK) (w:World) (h:Lib.IsBuilderF 110 5 B b bs w) (hlen:bs.length+s.size<=1099511627776) (hBw:B<=w.heap.size):
 Calls prog 60 #[.pointer (some ⟨b,0,none⟩), .string s] w λe w'=>e= .returned (.tuple #[.int .i64 s.size, .nilIface])/\Lib.IsBuilderF 110 5 B b (bs++Lib.strCells s) w'/\Below B w w'/\Lib.OthersKept 5 (some b) w w':=by
 obtain⟨i0,hi,hz0,hz1,hz2⟩:=info_parts Ej;go_enter func60,ntmps60;go_wp2_with (go_at_call 124;refine(uB B b bs _ h).mono ?_);rintro e w1 ⟨rfl,h1,hb1,hk1⟩;obtain⟨hB,v,hbk,hown,hne⟩:=h1;have c0:w1.cell? ⟨b,0,none⟩=some (.pointer (some ⟨b,0,none⟩)):=by rw[Lib.cell_of_heap hbk];rfl
 have c1:w1.cell? ⟨b,1,none⟩=some v:=by rw[Lib.cell_of_heap hbk];rfl
 go_wp2_with (at_builtin;refine Lib.wpList_append_own_stringF _ rfl _ _ 108 9 rfl B 5 i0 underlying108 underlying9 hi hz0 hz1 hz2 _ _ _ rfl hown s rfl ?c3 ?c4 ?c5 ?_)
 case c3=>unfold maxLen;omega
 case c4=>omega
 case c5=>have:=hb1.size;omega
 intro v' w2 hown' hgrow _;have hlt:b<w1.heap.size:=(zaq.1 hbk).1;have hb2:w2.heap[b]? =some (.cells #[.pointer (some ⟨b,0,none⟩),v] 110 (0,0)):=by
  rw[hgrow.block b hlt (λe=>hne e.symm)];exact hbk
 have d0:w2.cell? ⟨b,0,none⟩=some (.pointer (some ⟨b,0,none⟩)):=by rw[Lib.cell_of_heap hb2];rfl
 have d1:w2.cell? ⟨b,1,none⟩=some v:=by rw[Lib.cell_of_heap hb2];rfl
 have f1:w2.frozen? ⟨b,1,none⟩=false:=Lib.frozen_of_heap hb2 1;obtain⟨ao,n',cap,rfl⟩: ∃ao n' cap,v'= .slice ao n' cap:=by
  rcases hown'.2 with ⟨hv,_⟩|⟨g,cap,cur,fz,hv,_⟩
  ·exact⟨_,_,_,hv⟩
  ·exact⟨_,_,_,hv⟩
 go_wp2
 go_ret2
 refine⟨rfl, .inr ?_, ?_,(hk1.grown hgrow (Lib.ownsRowF_kind hown)).setCell ⟨b,1,none⟩ rfl _⟩
 ·exact Lib.BuilderAtF.put (T:=110) (e:=5) hB hb2 (bs':=bs++Lib.strCells s) (by simpa [Lib.strCells_length] using hown') (by decide)
 ·exact(hb1.grown hgrow (by have:=hb1.size;omega) (λk hk=>(hown.lt k hk).1)).setCell (p:=⟨b,1,none⟩) hB _
attribute [local go_sem] Oper.semAt_some
def arH (n:Nat) (acc:List UInt8) (p:Nat×Nat):List UInt8:=acc++(if p.1<n - 1 then wi p.2 else Lib.decDigits p.2)
def gt {l:zdL} (n:Nat) (pre:List (cf l)):List UInt8:=(pre.map (·.1)).foldl (arH n) []
variable {l:zdL}
theorem qp (n:Nat) (pre:List (cf l)) (p:cf l):gt n (pre++ [p])=arH n (gt n pre) p.1:=by
 unfold gt;rw[zb8,zbz];rfl
theorem yD {d:Nat} (J:d<10000):(wi d).length=4:=by
 have:=dQ J;unfold wi;rw[za3,zcx];omega
theorem AG (Y: ∀z∈l,z<10000) (pre:List (cf l)):(gt n pre).length<=4*pre.length:=by
 induction h:pre.length generalizing pre with
 |zero=>rw[zau h];simp[gt]
 |succ k Z=>
  obtain⟨V,J,rfl⟩: ∃V J,pre=V++ [J]:=⟨pre.dropLast,pre.getLast (by intro e;rw[e] at h;simp at h),(zcY _).symm⟩;have h1:=Z V (by simp at h;omega);have hp:J.1.2<10000:=Y _ (zal J.2);have h2:=yD hp;have h3:=dQ hp;rw[qp,arH,za3];split<;>omega
variable {x:Nat}
theorem AH (V:x≠0) {ys:List (cf (ae 10000 x))} (h:ys.map (·.1)=fK (ae 10000 x) (ae 10000 x).length):gt (ae 10000 x).length ys=Lib.decDigits x:=by
 have key: ∀k,k<=(ae 10000 x).length->(fK (ae 10000 x) k).foldl (arH (ae 10000 x).length) []=Rz (ae 10000 x) k:=by
  intro k Z
  induction k with
  |zero=>simp[fK,Rz]
  |succ k Y=>
   rw[jC,zbz,Y (by omega),zbe,zcv,arH];have J:(ae 10000 x).length - 1 - k<(ae 10000 x).length:=by omega
   have e:(ae 10000 x).getD ((ae 10000 x).length - 1 - k) 0=(ae 10000 x)[(ae 10000 x).length - 1 - k]:=by
    rw[zdj,zaa J];rfl
   simp only[e];by_cases h0:k=0
   ·subst h0;rw[if_neg (by omega)];simp only[zaX];exact(z9 (by omega)).symm
   ·rw[if_pos (by omega)];exact(DB (oT (by decide) x) (aK (by decide) x) (by omega) (by omega)).symm
 unfold gt;rw[h,key _ (za0 _),F0 V]
theorem aoi (n:Nat) (w:World) (hg:Glob w) (V:n<10000):Calls prog 61 #[.int .i64 (n:Int)] w λe w'=>e= .returned (.string ⟨(Lib.decDigits n).toArray⟩)/\Below w.heap.size w w':=by
 refine(strconv_Itoa (n:Int) (by omega) (by omega) w hg.2.1).mono ?_;rintro e w' ⟨rfl,k,os,rfl⟩;refine⟨by rw[dX (by omega)];rfl, ?_⟩;exact⟨rfl,rfl,rfl,by simp[Go.Sort.grow],λb J=>by simp[Go.Sort.grow,zdr,J]⟩
theorem AI (c:Int) (w:World) (h0:0<=c) (h4:c<=1000):Calls prog 156 #[.string ⟨#[48]⟩, .int .i64 c] w λe w'=>e= .returned (.string ⟨(List.replicate c.toNat 48).toArray⟩)/\Below w.heap.size w w':=by
 obtain⟨n,rfl⟩:=zcQ h0;refine(strings_Repeat ⟨#[48]⟩ n w (by omega) (by show 1*n<=_;omega)).mono ?_;rintro e w' ⟨rfl,J⟩;exact⟨by rw[show (⟨#[48]⟩:zdK).data.toList= [48] from rfl,yB];rfl,J⟩
theorem uC (t:zdK):Lib.strCells t=Lib.byteCells t.data.toList:=by rw[Lib.strCells_eq]
variable {t:zdK}
theorem GV (h:x<BIG) (J:(⟨(Lib.decDigits x).toArray⟩:zdK)=t):chkI (sgn false x)=(t,0):=by
 unfold chkI;rw[if_pos (by rw[cz];exact h),<-J];unfold ofI sgn;rw[if_neg (by decide),dX (by omega)];rfl
theorem GW (h:x<BIG) (h0:x≠0) (J:(⟨(Lib.decDigits x).toArray⟩:zdK)=t):chkI (sgn true x)=((⟨#[45]⟩++t:zdK),0):=by
 unfold chkI;rw[if_pos (by rw[cz];exact h),<-J];unfold ofI sgn;rw[if_pos rfl,kH (by omega),Int.natAbs_neg,zc0]
 congr 1
theorem GY (neg:Bool) (h: ¬x<BIG):chkI (sgn neg x)=(⟨#[]⟩,30):=by
 unfold chkI;rw[if_neg (by rw[cz];exact h)];rfl
def MX {l:zdL} (n:Nat) (st:Value) (sv:Value) (w:World) (pre:List (cf l)) (W:World):Prop:=
 (Lib.IsBuilderF 110 5 (w.heap.size+1) (w.heap.size+1) (Lib.byteCells (gt n pre)) W/\Blk W w.heap.size #[st,sv] 203/\Blk W (w.heap.size+1+1) #[sv] 201)/\Below w.heap.size w W
theorem GZ (neg:Bool) (x:Nat) (hx0:x≠0) (aa:Option Addr) (ca:Nat) (w:World) (hv:Rd am w (.slice aa (ae 10000 x).length ca) (ae 10000 x)) (hg:Glob w) (hx:(ae 10000 x).length<=1000):
 Calls prog 161 #[.agg #[.bool neg, .slice aa (ae 10000 x).length ca]] w λe w'=>e= .returned (.tuple #[.string (chkI (sgn neg x)).1, .int .i64 (chkI (sgn neg x)).2])/\Below w.heap.size w w':=by
 have Ha:=zdF hv;obtain⟨n,hn⟩: ∃n,(ae 10000 x).length=n:=⟨_,rfl⟩;have Hn:=zdF hn;rw[hn] at hx Ha ⊢;have hn0:n≠0:=by
  intro e;apply hx0;exact(aZ (B:=10000) (by decide)).1 (zau (hn.trans e))
 have c0:((n:Int)==0)=false:=by rw[zdA];omega
 clear hn hv hx0;have Hg:=zdF hg;clear hg;refine(callsIn_wide (n:=5)).1 ?_;refine callsIn_of_wp_marks func161 rfl trivial ?_ rfl;simp only[ntmps161,zbq,za4,za9,Nat.reduceAdd,Nat.reduceSub,zbT,zbU,zbV,zbW,zaM,zaO]
 gi_wp2_with (first
  |(refine⟨trivial, ?_⟩;gi_at_call 230;refine(callsIn_wide.2 (gD _ _ _ _)).mono ?_;rintro e w' ⟨rfl,rfl⟩))
 have hS0:Blk (((w.alloc (.cells #[.bool neg, .slice aa n ca] 203)).alloc (.cells #[.pointer none, .slice none 0 0] 110)).alloc (.cells #[.slice aa n ca] 201)) w.heap.size #[.bool neg, .slice aa n ca] 203:=((Blk.new w _ _).alloc _).alloc _;have hU0:Lib.IsBuilderF 110 5 (w.heap.size+1) (w.heap.size+1) (Lib.byteCells []) (((w.alloc (.cells #[.bool neg, .slice aa n ca] 203)).alloc (.cells #[.pointer none, .slice none 0 0] 110)).alloc (.cells #[.slice aa n ca] 201)):=by
  have h1:=Lib.IsBuilderF.of (Lib.fresh_isBuilder 110 5 (w.alloc (.cells #[.bool neg, .slice aa n ca] 203)));rw[World.size_alloc] at h1;exact h1.alloc _
 have hX0:Blk (((w.alloc (.cells #[.bool neg, .slice aa n ca] 203)).alloc (.cells #[.pointer none, .slice none 0 0] 110)).alloc (.cells #[.slice aa n ca] 201)) (w.heap.size+1+1) #[.slice aa n ca] 201:=Blk.newAt _ _ _ (by simp);have hB0:Below w.heap.size w (((w.alloc (.cells #[.bool neg, .slice aa n ca] 203)).alloc (.cells #[.pointer none, .slice none 0 0] 110)).alloc (.cells #[.slice aa n ca] 201)):=(((zdG _ w).alloc (za0 _) _).alloc (by simp) _).alloc (by simp;omega) _;have hsz:w.heap.size+1+1+1=(((w.alloc (.cells #[.bool neg, .slice aa n ca] 203)).alloc (.cells #[.pointer none, .slice none 0 0] 110)).alloc (.cells #[.slice aa n ca] 201)).heap.size:=by simp
 generalize (((w.alloc (.cells #[.bool neg, .slice aa n ca] 203)).alloc (.cells #[.pointer none, .slice none 0 0] 110)).alloc (.cells #[.slice aa n ca] 201))=W0 at*
 refine qM (by omega) (w.heap.size+1+1) w.heap.size rfl (.slice aa n ca) (ae 10000 x) (by rw[Hn.out];omega) hX0.lt (by omega) (hX0.cell rfl) ?rd ?fr rfl
  (λpre W=>MX n (.bool neg) (.slice aa n ca) w pre W)
  (λ_ _ _=>False)
  ?own ?ownx ?start (λp t=>(((t.setIfInBounds 16 (.int .i64 (p.1.1:Int))).setIfInBounds 17 (.int .i64 (p.1.2:Int))).setIfInBounds 5 (.int .i64 (p.1.1:Int))).setIfInBounds 6 (.int .i64 (p.1.2:Int))) ?assign ?body ?done ?stop
 case rd=>exact Ha.out.below hB0
 case fr=>
  intro k hk;rcases Ha.out with ⟨h,_⟩|⟨b,off,cap,h,hb,_⟩
  ·cases h;cases hk
  ·cases h;cases hk;exact hb
 case own=>exact OwnFrom.and (Own.from (λs A B row hs hg hr=>⟨qI hs.1 hg hr,hs.2.1.kept hg hr,hs.2.2.kept hg hr⟩) _) (ownFrom_below (za0 _) (by omega))
 case ownx=>exact λ_ _ _ _ _ hs _ _=>hs
 case start=>exact⟨⟨by simpa [gt] using hU0,hS0,hX0⟩,hB0⟩
 case assign=>
  intro l x W K hK;simp only[zbl,zaR,zba] at hK
  gi_wp2
  exact hK
 case body=>
  rintro l pre p W ⟨⟨hU,hS,hX⟩,hB⟩ hlen;simp only[zbl,zaR,zba];have hpd:p.1.2<10000:=aK (by decide) x _ (zal p.2);have hpi:p.1.1<n:=by have:=(zaV.1 p.2).1;rw[Hn.out] at this;exact this
  have HtL:=AG (n:=n) (aK (by decide) x) pre;rw[Hn.out] at hlen;have HS:=zdF hS;have HU:=zdF hU;have s1:W.cell? ⟨w.heap.size,1,none⟩=some (.slice aa n ca):=hS.cell rfl;have hgW:=zdF (Hg.out.below hB);have hdl:=dQ hpd;have HX:=zdF hX;clear hS hU hX;have hEnd:Hid (∀W1 W2 (t:zdK),Below W.heap.size W W1->t.data.toList=(if p.1.1<n - 1 then wi p.1.2 else Lib.decDigits p.1.2)->(Lib.IsBuilderF 110 5 (w.heap.size+1) (w.heap.size+1) (Lib.byteCells (gt n pre)++Lib.strCells t) W2/\Below (w.heap.size+1) W1 W2/\Lib.OthersKept 5 (some (w.heap.size+1)) W1 W2)->KeepsOthers W W2/\KpB w.heap.size (w.heap.size+1+1) W W2/\MX n (.bool neg) (.slice aa n ca) w (pre++ [p]) W2):=by
   refine zdF ?_;rintro W1 W2 t hb1 ht ⟨h1,h2,h3⟩;have hS1:=HS.out.below hb1 HS.out.lt;have hX1:=HX.out.below hb1 HX.out.lt;have hU1:=jB HU.out hb1;have hS2:Blk W2 w.heap.size #[.bool neg, .slice aa n ca] 203:=h3 _ _ hS1 (by simp) (by intro c fz e;injection e with e1 e2;exact absurd e2 (by decide));have hX2:Blk W2 (w.heap.size+1+1) #[.slice aa n ca] 201:=h3 _ _ hX1 (by simp) (by intro c fz e;injection e with e1 e2;exact absurd e2 (by decide));refine⟨(bI hb1 (za0 _)).trans (iJ h3 (pu hU1) h2.size),⟨(hb1.mono (by have:=HX.out.lt;omega)).trans (h2.mono (by omega)), ?_⟩,⟨?_,hS2,hX2⟩,hB.trans ((hb1.mono (by have:=HX.out.lt;omega)).trans (h2.mono (by omega)))⟩
   ·rw[show W2.heap[w.heap.size+1+1]? =_ from hX2,show W.heap[w.heap.size+1+1]? =_ from HX.out]
   ·rw[qp,arH,<-ht,Lib.byteCells_append,<-uC];exact h1
  have hWr:Hid (∀W1 (t:zdK),Below W.heap.size W W1->t.size<=4->Calls prog 60 #[.pointer (some ⟨w.heap.size+1,0,none⟩), .string t] W1 λe w'=>e= .returned (.tuple #[.int .i64 t.size, .nilIface])/\Lib.IsBuilderF 110 5 (w.heap.size+1) (w.heap.size+1) (Lib.byteCells (gt n pre)++Lib.strCells t) w'/\Below (w.heap.size+1) W1 w'/\Lib.OthersKept 5 (some (w.heap.size+1)) W1 w'):=by
   refine zdF ?_;intro W1 t hb1 ht;exact qN _ _ _ t W1 (jB HU.out hb1) (by rw[Lib.byteCells_length];omega) (by have h1:=hb1.size;have h2:=HX.out.lt;omega)
  have hdl2:(⟨(Lib.decDigits p.1.2).toArray⟩:zdK).size=(Lib.decDigits p.1.2).length:=by rw[<-bj]
  obtain⟨ds,hds⟩: ∃ds:zdK,(⟨(Lib.decDigits p.1.2).toArray⟩:zdK)=ds:=⟨_,rfl⟩;have HI:=zdF (aoi p.1.2 W hgW.out hpd);rw[hds] at hdl2 HI;rw[<-hdl2] at hdl;have Hds:=zdF hds;clear hdl2 hds;by_cases hlt:p.1.1<n - 1
  ·have c1:decide ((p.1.1:Int)<(n:Int) - 1)=true:=by simp;omega
   gi_wp2_with (first
    |(refine⟨trivial, ?_⟩;gi_at_call 61;refine(CallsIn.inRound l (callsIn_wide.2 HI.out)).mono ?_;rintro e w1 ⟨rfl,hb1⟩;have s2:w1.cell? ⟨w.heap.size,1,none⟩=some (.slice aa n ca):=(hb1.cell (p:=⟨w.heap.size,1,none⟩) HS.out.lt).trans s1)
    |(refine⟨trivial, ?_⟩;gi_at_call 156;refine(CallsIn.inRound l (callsIn_wide.2 (AI _ _ (by omega) (by omega)))).mono ?_;rintro e w2 ⟨rfl,hb2⟩))
   obtain⟨t,ht⟩: ∃t:zdK,(⟨Array.replicate (4 - ds.size) 48⟩++ds:zdK)=t:=⟨_,rfl⟩;have htl:t.data.toList=wi p.1.2:=by
    have hz2:ds.data.toList=Lib.decDigits p.1.2:=by rw[<-Hds.out]
    have hz:ds.size=(Lib.decDigits p.1.2).length:=by rw[<-bj,hz2]
    rw[<-ht];simp[wi,hz,hz2]
   have hts:t.size<=4:=by rw[<-bj,htl,yD hpd];omega
   rw[ht];refine⟨trivial, ?_⟩;refine(CallsIn.inRound l (callsIn_wide.2 (hWr.out w2 t (hb1.trans (hb2.mono hb1.size)) hts))).mono ?_;rintro e w3 ⟨rfl,h3⟩;have h4:=hEnd.out w2 w3 t (hb1.trans (hb2.mono hb1.size)) (by rw[if_pos hlt,htl]) h3;have H4:=zdF h4;clear h3 h4 ht htl
   gi_wp2
   exact⟨H4.out.1.from _,H4.out.2.1,H4.out.2.2⟩
  ·have c1:decide ((p.1.1:Int)<(n:Int) - 1)=false:=by simp;omega
   gi_wp2_with (first
    |(refine⟨trivial, ?_⟩;gi_at_call 61;refine(CallsIn.inRound l (callsIn_wide.2 HI.out)).mono ?_;rintro e w1 ⟨rfl,hb1⟩;have s2:w1.cell? ⟨w.heap.size,1,none⟩=some (.slice aa n ca):=(hb1.cell (p:=⟨w.heap.size,1,none⟩) HS.out.lt).trans s1))
   refine⟨trivial, ?_⟩;refine(CallsIn.inRound l (callsIn_wide.2 (hWr.out w1 ds hb1 (by omega)))).mono ?_;rintro e w3 ⟨rfl,h3⟩;have H4:=zdF (hEnd.out w1 w3 ds hb1 (by rw[if_neg hlt,<-Hds.out]) h3);clear h3
   gi_wp2
   exact⟨H4.out.1.from _,H4.out.2.1,H4.out.2.2⟩
 case done=>
  rintro D ys W hD hys ⟨⟨hU,hS,hX⟩,hB⟩ hK;have htx:gt n ys=Lib.decDigits x:=by rw[<-Hn.out];exact AH (by intro e;subst e;apply hn0;rw[<-Hn.out,aF];rfl) hys
  rw[htx] at hU;have HK:=zdF hK;have HS:=zdF hS;have HU:=zdF hU;have hlt:=hX.lt;have hbx:Hid ((Lib.decDigits x).length<=200↔x<BIG):=zdF (dP x 200 (by decide));have hts:(⟨(Lib.decDigits x).toArray⟩:zdK).size=(Lib.decDigits x).length:=by rw[<-bj]
  obtain⟨t,ht⟩: ∃t:zdK,(⟨(Lib.decDigits x).toArray⟩:zdK)=t:=⟨_,rfl⟩;rw[ht] at hts;have Ht:=zdF ht;have Hts:=zdF hts;have hSt:=zdF (Builder_String_any_k (w.heap.size+1) (w.heap.size+1) (Lib.decDigits x) W HU.out (by omega));rw[ht] at hSt;clear hys htx hK hS hU hX ht hts;by_cases hbig:x<BIG
  ·have c2: ¬(200:Int)<(t.size:Int):=by have:=hbx.out.2 hbig;rw[<-Hts.out] at this;omega
   have hx0:x≠0:=by intro e;apply hn0;rw[<-Hn.out,e,aF];rfl
   have Hp:=zdF (GV hbig Ht.out);have Hm:=zdF (GW hbig hx0 Ht.out);clear hbig hx0;cases neg
   ·gi_wp2_with (refine⟨trivial, ?_⟩;gi_at_call 64;refine(callsIn_wide.2 hSt.out).mono ?_
                 rintro e w2 ⟨rfl,h1,h2,h3⟩;have hS2:Blk w2 w.heap.size #[.bool false, .slice aa n ca] 203:=h3 _ _ HS.out (by simp) (by intro c fz e;injection e with e1 e2;exact absurd e2 (by decide));have s0:w2.cell? ⟨w.heap.size,0,none⟩=some (.bool false):=hS2.cell (i:=0) rfl;have HK2:=zdF (h3 _ _ HK.out (by simp;omega) (by intro c fz e;cases e));have HB2:=zdF (hB.trans (h2.mono (by omega)))
                 clear hS2 h1 h2 h3)
    refine⟨by simp, .inl ⟨_,_,rfl,run_takeDeferred HK2.out, ?_⟩⟩;refine⟨.tuple #[.string t, .int .i64 0], ?_, ?_,HB2.out.trans (belowK_b (w:=w) (za0 _) _ D _ _ (by omega) HK2.out rfl rfl)⟩
    ·simp[results,f161,go_sem]
    ·rw[Hp.out]
   ·gi_wp2_with (refine⟨trivial, ?_⟩;gi_at_call 64;refine(callsIn_wide.2 hSt.out).mono ?_
                 rintro e w2 ⟨rfl,h1,h2,h3⟩;have hS2:Blk w2 w.heap.size #[.bool true, .slice aa n ca] 203:=h3 _ _ HS.out (by simp) (by intro c fz e;injection e with e1 e2;exact absurd e2 (by decide));have s0:w2.cell? ⟨w.heap.size,0,none⟩=some (.bool true):=hS2.cell (i:=0) rfl;have HK2:=zdF (h3 _ _ HK.out (by simp;omega) (by intro c fz e;cases e));have HB2:=zdF (hB.trans (h2.mono (by omega)))
                 clear hS2 h1 h2 h3)
    refine⟨by simp, .inl ⟨_,_,rfl,run_takeDeferred HK2.out, ?_⟩⟩;refine⟨.tuple #[.string (⟨#[45]⟩++t), .int .i64 0], ?_, ?_,HB2.out.trans (belowK_b (w:=w) (za0 _) _ D _ _ (by omega) HK2.out rfl rfl)⟩
    ·simp[results,f161,go_sem]
    ·rw[Hm.out]
  ·have c2:(200:Int)<(t.size:Int):=by have h: ¬(Lib.decDigits x).length<=200:=(λh=>hbig (hbx.out.1 h));rw[<-Hts.out] at h;omega
   have Hp:=zdF (GY neg hbig);clear hbig
   gi_wp2_with (refine⟨trivial, ?_⟩;gi_at_call 64;refine(callsIn_wide.2 hSt.out).mono ?_
                rintro e w2 ⟨rfl,h1,h2,h3⟩;have HK2:=zdF (h3 _ _ HK.out (by simp;omega) (by intro c fz e;cases e));have HB2:=zdF (hB.trans (h2.mono (by omega)))
                clear h1 h2 h3)
   refine⟨by simp, .inl ⟨_,_,rfl,run_takeDeferred HK2.out, ?_⟩⟩;refine⟨.tuple #[.string ⟨#[]⟩, .int .i64 30], ?_, ?_,HB2.out.trans (belowK_b (w:=w) (za0 _) _ D _ _ (by omega) HK2.out rfl rfl)⟩
   ·simp[results,f161,go_sem]
   ·rw[Hp.out]
 case stop=>exact λ_ _ _ _ _ _ hx _=>hx.elim
theorem ep (neg:Bool) (x:Nat) (v:Value) (w:World) (hv:Rd am w v (ae 10000 x)) (hg:Glob w) (hx:(ae 10000 x).length<=1000):
 Calls prog 161 #[.agg #[.bool neg,v]] w λe w'=>e= .returned (.tuple #[.string (chkI (sgn neg x)).1, .int .i64 (chkI (sgn neg x)).2])/\Below w.heap.size w w':=by
 obtain⟨aa,ca,rfl,_⟩:=hv.open';by_cases h0:x=0
 ·subst h0;have e:chkI (sgn neg 0)=(⟨#[48]⟩,0):=by
   have h1:sgn neg 0=0:=by unfold sgn;split<;>rfl
   have h2:(0:Nat)<BIG:=kJ;unfold chkI;rw[h1,if_pos (by simpa using h2)]
   congr 1
   apply gT;rw[fY,dX (by decide),aL];simp
  rw[e,aF];clear e hv hx hg;go_enter func161,ntmps161;go_wp2
  go_ret2
  exact⟨rfl,(zdG _ w).alloc (za0 _) _⟩
 ·exact GZ neg x h0 aa ca w hv hg hx
theorem bg (h:x<BIG):(ae 10000 x).length<=50:=by
 refine(ai (by decide) x 50).2 (zam h ?_);unfold BIG;rw[show (10000:Nat)=10^4 from rfl,<-Nat.pow_mul];exact za0 _
variable {s:zdK}
theorem cY (h:vS s=true):(ae 10000 (nS s).natAbs).length<=50:=bg (br h)
theorem ik {b:Bool} (h:vS s=b) (w:World) (J:s.size<=maxLen):Calls prog 180 #[.string s] w λe w'=>e= .returned (.bool b)/\Below w.heap.size w w':=by
 have:=qk s w J;rwa[h] at this
theorem lQ (a b:zdK) (h:(vS a&&vS b)=false) (w:World) (ha:a.size<=maxLen) (hb:b.size<=maxLen):
 Calls prog 159 #[.string a, .string b] w λe w'=>e= .returned (.tuple #[.agg #[.bool false, .slice none 0 0], .agg #[.bool false, .slice none 0 0], .bool false])/\Below w.heap.size w w':=by
 unfold maxLen at ha hb;have R0: ∀w1,Below (w.heap.size+1+1) ((w.alloc (.cells #[.bool false, .slice none 0 0] 203)).alloc (.cells #[.bool false, .slice none 0 0] 203)) w1->
  Blk w1 w.heap.size #[.bool false, .slice none 0 0] 203/\Blk w1 (w.heap.size+1) #[.bool false, .slice none 0 0] 203/\Below w.heap.size w w1:=λw1 h1=>
  ⟨((Blk.new w _ _).alloc _).below h1 (by omega),(Blk.newAt _ _ _ (by simp)).below h1 (by omega),(((zdG _ w).alloc (za0 _) _).alloc (by simp) _).trans (h1.mono (by omega))⟩
 have HR:=zdF R0;clear R0;cases hva:vS a with
 |false=>
  have Ha:=zdF (λw=>ik hva w ha);clear hva h;go_enter func159,ntmps159;go_wp2_with (go_at_call 180;refine(Ha.out _).mono ?_;rintro e w1 ⟨rfl,hb1⟩;obtain⟨r1,r2,r3⟩:=HR.out w1 (by simpa using hb1);obtain⟨c1,c2,c3,c4,_⟩:=bN r1;obtain⟨d1,d2,d3,d4,_⟩:=bN r2);refine bodyPost_ret (v:= .tuple #[.agg #[.bool false, .slice none 0 0], .agg #[.bool false, .slice none 0 0], .bool false]) (by simp[results,results159,go_sem,c1,c2,c3,c4,d1,d2,d3,d4]) rfl ⟨rfl, ?_⟩;exact(((r3.setCell (by simp) _).setCell (by simp) _).setCell (by simp) _).setCell (by simp) _
 |true=>
  have hvb:vS b=false:=by rw[hva] at h;simpa using h
  have Ha:=zdF (λw=>ik hva w ha);have Hb:=zdF (λw=>ik hvb w hb);clear hva hvb h;go_enter func159,ntmps159;go_wp2_with fail
  (with_reducible refine(Ha.out _).mono ?_);rintro e w1 ⟨rfl,hb1⟩
  go_wp2_with fail
  (with_reducible refine(Hb.out _).mono ?_);rintro e w2 ⟨rfl,hb2⟩
  obtain⟨r1,r2,r3⟩:=HR.out w2 (by simp at hb1;exact hb1.trans (hb2.mono (by have:=hb1.size;simp at this;omega)));obtain⟨c1,c2,c3,c4,_⟩:=bN r1;obtain⟨d1,d2,d3,d4,_⟩:=bN r2;go_wp2;refine bodyPost_ret (v:= .tuple #[.agg #[.bool false, .slice none 0 0], .agg #[.bool false, .slice none 0 0], .bool false]) (by simp[results,results159,go_sem,c1,c2,c3,c4,d1,d2,d3,d4]) rfl ⟨rfl, ?_⟩;exact(((r3.setCell (by simp) _).setCell (by simp) _).setCell (by simp) _).setCell (by simp) _
theorem jD (a b:zdK) (hva:vS a=true) (hvb:vS b=true) (w:World):
 Calls prog 159 #[.string a, .string b] w λe w'=> ∃v1 v2,e= .returned (.tuple #[.agg #[.bool (bf a.data.toList),v1], .agg #[.bool (bf b.data.toList),v2], .bool true])/\Rd am w' v1 (ae 10000 (nS a).natAbs)/\Rd am w' v2 (ae 10000 (nS b).natAbs)/\From w.heap.size v1/\From w.heap.size v2/\Below w.heap.size w w':=by
 have ha:a.size<=maxLen:=by have:=dp hva;unfold maxLen;omega
 have hb:b.size<=maxLen:=by have:=dp hvb;unfold maxLen;omega
 have R0: ∀w1,Below (w.heap.size+1+1) ((w.alloc (.cells #[.bool false, .slice none 0 0] 203)).alloc (.cells #[.bool false, .slice none 0 0] 203)) w1->
  Blk w1 w.heap.size #[.bool false, .slice none 0 0] 203/\Blk w1 (w.heap.size+1) #[.bool false, .slice none 0 0] 203/\Below w.heap.size w w1:=λw1 h1=>
  ⟨((Blk.new w _ _).alloc _).below h1 (by omega),(Blk.newAt _ _ _ (by simp)).below h1 (by omega),(((zdG _ w).alloc (za0 _) _).alloc (by simp) _).trans (h1.mono (by omega))⟩
 have HR:=zdF R0;clear R0;have Ha:=zdF (λw=>ik hva w ha);have Hb:=zdF (λw=>ik hvb w hb);have Pa:=zdF (λw=>vy a w hva);have Pb:=zdF (λw=>vy b w hvb);obtain⟨na,hna⟩: ∃x,bf a.data.toList=x:=⟨_,rfl⟩;obtain⟨nb,hnb⟩: ∃x,bf b.data.toList=x:=⟨_,rfl⟩;rw[hna] at Pa ⊢;rw[hnb] at Pb ⊢;clear hva hvb ha hb hna hnb;go_enter func159,ntmps159;go_wp2_with fail
 (with_reducible refine(Ha.out _).mono ?_);rintro e w1 ⟨rfl,hb1⟩
 go_wp2_with fail
 (with_reducible refine(Hb.out _).mono ?_);rintro e w2 ⟨rfl,hb2⟩
 go_wp2_with fail
 (with_reducible refine(Pa.out _).mono ?_);rintro e w3 ⟨v1,rfl,hr1,hf1,hb3⟩
 go_wp2_with fail
 (with_reducible refine(Pb.out _).mono ?_);rintro e w4 ⟨v2,rfl,hr2,hf2,hb4⟩
 have hbb:Below (w.heap.size+1+1) ((w.alloc (.cells #[.bool false, .slice none 0 0] 203)).alloc (.cells #[.bool false, .slice none 0 0] 203)) w4:=by
  simp only[World.size_alloc] at hb1;have s1:=hb1.size;simp only[World.size_alloc] at s1;have s2:=hb2.size;have s3:=hb3.size;exact((hb1.trans (hb2.mono (by omega))).trans (hb3.mono (by omega))).trans (hb4.mono (by omega))
 have s1:=hb1.size;have s2:=hb2.size;have s3:=hb3.size;simp only[World.size_alloc] at s1;obtain⟨r1,r2,r3⟩:=HR.out w4 hbb;obtain⟨c1,c2,c3,c4,_⟩:=bN r1;obtain⟨d1,d2,d3,d4,_⟩:=bN r2;have hq1:=hr1.below hb4;obtain⟨a1,k1,rfl,_⟩:=hr1.open';obtain⟨a2,k2,rfl,_⟩:=hr2.open';have Hq1:=zdF hq1;have Hq2:=zdF hr2;clear hq1 hr1 hr2 hbb hb1 hb2 hb3 hb4;go_wp2;have f1:From (w.heap.size+2) _:=hf1.mono (by omega);have f2:From (w.heap.size+2) _:=hf2.mono (by omega);refine bodyPost_ret (v:= .tuple #[.agg #[.bool na, .slice a1 _ k1], .agg #[.bool nb, .slice a2 _ k2], .bool true]) (by simp[results,results159,go_sem,c1,c2,c3,c4,d1,d2,d3,d4]) rfl ⟨_,_,rfl, ?_, ?_,f1.mono (by omega),f2.mono (by omega), ?_⟩
 ·exact(((Hq1.out.setCell f1 (by simp) _).setCell f1 (by simp) _).setCell f1 (by simp) _).setCell f1 (by simp) _
 ·exact(((Hq2.out.setCell f2 (by simp) _).setCell f2 (by simp) _).setCell f2 (by simp) _).setCell f2 (by simp) _
 ·exact(((r3.setCell (by simp) _).setCell (by simp) _).setCell (by simp) _).setCell (by simp) _
theorem atU (w:World) (x y:Array Value) (t:TypeId):Blk ((w.alloc (.cells x t)).alloc (.cells y t)) w.heap.size x t/\Blk ((w.alloc (.cells x t)).alloc (.cells y t)) (w.heap.size+1) y t:=⟨(Blk.new w _ _).alloc _,Blk.newAt _ _ _ (by simp)⟩
theorem atZ (w:World) (x y z:Array Value) (t:TypeId):Blk (((w.alloc (.cells x t)).alloc (.cells y t)).alloc (.cells z t)) w.heap.size x t/\Blk (((w.alloc (.cells x t)).alloc (.cells y t)).alloc (.cells z t)) (w.heap.size+1) y t/\Blk (((w.alloc (.cells x t)).alloc (.cells y t)).alloc (.cells z t)) (w.heap.size+1+1) z t:=⟨(atU w x y t).1.alloc _,(atU w x y t).2.alloc _,Blk.newAt _ _ _ (by simp)⟩
theorem KA (w:World):Calls prog 220 #[] w λe w'=> ∃v,e= .returned v/\Rd am w' v (ae 10000 1)/\From w.heap.size v/\Below w.heap.size w w':=by
 have e1:ae 10000 1= [1]:=gW (by decide) (by decide) (by decide);go_enter func220,ntmps220;go_wp2;go_ret;refine⟨_,rfl, ?_,λk hk=>by cases hk;exact za0 _,(zdG _ w).alloc (za0 _) _⟩;rw[e1];exact(OwnL.lit1 w 1 rfl).rd
theorem yE (h:y<=x):0<=dB x y:=by
 unfold dB;rw[if_neg (by omega)];split<;>omega
def wN (s:Int) (w:World) (e:Ending) (w':World):Prop:=
 ∃neg z v,e= .returned (.agg #[.bool neg,v])/\sgn neg z=s/\Rd am w' v (ae 10000 z)/\From w.heap.size v/\Below w.heap.size w w'
theorem yF (neg:Bool) (x y:Nat) (v1 v2:Value) (w:World) (h1:Rd am w v1 (ae 10000 x)) (h2:Rd am w v2 (ae 10000 y)) (hx:(ae 10000 x).length<=400) (hy:(ae 10000 y).length<=400):
 Calls prog 160 #[.agg #[.bool neg,v1], .agg #[.bool neg,v2]] w (wN (sgn neg x+sgn neg y) w):=by
 have hfin:sgn neg (x+y)=sgn neg x+sgn neg y:=by unfold sgn;split<;>omega
 rw[<-hfin];obtain⟨a1,k1,rfl,_⟩:=h1.open';obtain⟨a2,k2,rfl,_⟩:=h2.open';obtain⟨n1,e1⟩: ∃n,(ae 10000 x).length=n:=⟨_,rfl⟩;obtain⟨n2,e2⟩: ∃n,(ae 10000 y).length=n:=⟨_,rfl⟩;have H1:=zdF h1;have H2:=zdF h2;have Hx:=zdF hx;have Hy:=zdF hy;rw[e1] at H1 ⊢;rw[e2] at H2 ⊢;have c1:(neg==neg)=true:=by simp
 clear h1 h2 hx hy e1 e2 hfin;have hmx:prog.follows .mixedOrders=true:=by kernel_rfl
 obtain⟨r1,r2,r3⟩:=atZ w #[.bool neg, .slice a1 n1 k1] #[.bool neg, .slice a2 n2 k2] #[.bool false, .slice none 0 0] 203;have rb:Below w.heap.size w (((w.alloc (.cells #[.bool neg, .slice a1 n1 k1] 203)).alloc (.cells #[.bool neg, .slice a2 n2 k2] 203)).alloc (.cells #[.bool false, .slice none 0 0] 203)):=(((zdG _ w).alloc (za0 _) _).alloc (by simp) _).alloc (by simp;omega) _;have R1:=zdF r1;have R2:=zdF r2;have R3:=zdF r3;have RB:=zdF rb;clear r1 r2 r3 rb;go_enter func160,ntmps160;go_wp2;generalize (((w.alloc (.cells #[.bool neg, .slice a1 n1 k1] 203)).alloc (.cells #[.bool neg, .slice a2 n2 k2] 203)).alloc (.cells #[.bool false, .slice none 0 0] 203))=W0 at*
 have ne1: ¬(w.heap.size+1+1=w.heap.size):=by omega
 have ne2: ¬(w.heap.size=w.heap.size+1+1):=by omega
 obtain⟨p1,p2,_,_,_⟩:=bN R1.out;obtain⟨q1,q2,_,_,_⟩:=bN R2.out
 go_region_held3 (λw'=>(w'.cell? ⟨w.heap.size,0,none⟩=some (.bool neg)/\w'.cell? ⟨w.heap.size,1,none⟩=some (.slice a1 n1 k1))/\w'.cell? ⟨w.heap.size+1,1,none⟩=some (.slice a2 n2 k2)) (go_keep)
  ((go_at_call 219;refine(iV x y _ _ _ (H1.out.below RB.out.drew) (H2.out.below RB.out.drew) (by have:=Hx.out;have:=Hy.out;omega) (by have:=Hx.out;have:=Hy.out;omega)).mono ?_
    rintro e w6 ⟨v6,rfl,hr6,hf6,hb6⟩;obtain⟨u1,u2,u3,u4,_⟩:=bN (Blk.below (w:=W0.drew) R1.out hb6 R1.out.lt);obtain⟨z1,z2,z3,z4,_⟩:=bN (Blk.below (w:=W0.drew) R2.out hb6 R2.out.lt);obtain⟨y1,y2,y3,y4,_⟩:=bN (Blk.below (w:=W0.drew) R3.out hb6 R3.out.lt);obtain⟨a6,k6,rfl,_⟩:=hr6.open';have HR6:=zdF hr6;have HF6:=zdF (hf6.mono (show w.heap.size+1+1+1<=_ from R3.out.lt));have HB6:=zdF (RB.out.drew.trans (hb6.mono RB.out.size))
    clear hr6 hf6 hb6))
 all_goals go_wp2
 all_goals
  refine bodyPost_ret (v:= .agg #[.bool neg, .slice a6 _ k6]) (by simp[results,results160,go_sem,y1,y2,y3,y4]) rfl ⟨neg,(x+y),_,rfl,rfl, ?_,HF6.out.mono (by omega), ?_⟩
  ·exact(HR6.out.setCell HF6.out (by simp) _).setCell HF6.out (by simp) _
  ·exact(HB6.out.setCell (by simp<;>omega) _).setCell (by simp<;>omega) _
theorem Ek (neg1 neg2:Bool) (hne:neg1≠neg2) (x y:Nat) (hxy:y<=x) (v1 v2:Value) (w:World) (h1:Rd am w v1 (ae 10000 x)) (h2:Rd am w v2 (ae 10000 y)) (hx:(ae 10000 x).length<=400) (hy:(ae 10000 y).length<=400):
 Calls prog 160 #[.agg #[.bool neg1,v1], .agg #[.bool neg2,v2]] w (wN (sgn neg1 x+sgn neg2 y) w):=by
 have hfin:sgn neg1 (x - y)=sgn neg1 x+sgn neg2 y:=by revert hne;cases neg1<;>cases neg2<;>simp[sgn]<;>omega
 rw[<-hfin];obtain⟨a1,k1,rfl,_⟩:=h1.open';obtain⟨a2,k2,rfl,_⟩:=h2.open';obtain⟨n1,e1⟩: ∃n,(ae 10000 x).length=n:=⟨_,rfl⟩;obtain⟨n2,e2⟩: ∃n,(ae 10000 y).length=n:=⟨_,rfl⟩;have H1:=zdF h1;have H2:=zdF h2;have Hx:=zdF hx;have Hy:=zdF hy;rw[e1] at H1 ⊢;rw[e2] at H2 ⊢;have c1:(neg1==neg2)=false:=by simpa using hne
 obtain⟨cv,hcv⟩: ∃c,dB x y=c:=⟨_,rfl⟩;have c2:0<=cv:=by rw[<-hcv];exact yE hxy
 have Hcm:=zdF hcv;have Hxy:=zdF hxy;clear hne hcv hxy;clear h1 h2 hx hy e1 e2 hfin;have hmx:prog.follows .mixedOrders=true:=by kernel_rfl
 obtain⟨r1,r2,r3⟩:=atZ w #[.bool neg1, .slice a1 n1 k1] #[.bool neg2, .slice a2 n2 k2] #[.bool false, .slice none 0 0] 203;have rb:Below w.heap.size w (((w.alloc (.cells #[.bool neg1, .slice a1 n1 k1] 203)).alloc (.cells #[.bool neg2, .slice a2 n2 k2] 203)).alloc (.cells #[.bool false, .slice none 0 0] 203)):=(((zdG _ w).alloc (za0 _) _).alloc (by simp) _).alloc (by simp;omega) _;have R1:=zdF r1;have R2:=zdF r2;have R3:=zdF r3;have RB:=zdF rb;clear r1 r2 r3 rb;go_enter func160,ntmps160;go_wp2_with fail;refine(gc x y _ _ _ (H1.out.below RB.out) (H2.out.below RB.out) (by have:=Hx.out;omega)).mono ?_;rw[Hcm.out];rintro e W0 ⟨rfl,hb0⟩;have S1:=R1.out.below hb0 R1.out.lt;have S2:=R2.out.below hb0 R2.out.lt;have S3:=R3.out.below hb0 R3.out.lt;have SB:=RB.out.trans (hb0.mono RB.out.size);clear R1 R2 R3 RB hb0;have R1:=zdF S1;have R2:=zdF S2;have R3:=zdF S3;have RB:=zdF SB;clear S1 S2 S3 SB;go_wp2;have ne1: ¬(w.heap.size+1+1=w.heap.size):=by omega
 have ne2: ¬(w.heap.size=w.heap.size+1+1):=by omega
 obtain⟨p1,p2,_,_,_⟩:=bN R1.out;obtain⟨q1,q2,_,_,_⟩:=bN R2.out
 go_region_held3 (λw'=>(w'.cell? ⟨w.heap.size,0,none⟩=some (.bool neg1)/\w'.cell? ⟨w.heap.size,1,none⟩=some (.slice a1 n1 k1))/\w'.cell? ⟨w.heap.size+1,1,none⟩=some (.slice a2 n2 k2)) (go_keep)
  ((go_at_call 221;refine(ll x y Hxy.out _ _ _ (H1.out.below RB.out.drew) (H2.out.below RB.out.drew) (by have:=Hx.out;have:=Hy.out;omega) (by have:=Hx.out;have:=Hy.out;omega)).mono ?_
    rintro e w6 ⟨v6,rfl,hr6,hf6,hb6⟩;obtain⟨u1,u2,u3,u4,_⟩:=bN (Blk.below (w:=W0.drew) R1.out hb6 R1.out.lt);obtain⟨z1,z2,z3,z4,_⟩:=bN (Blk.below (w:=W0.drew) R2.out hb6 R2.out.lt);obtain⟨y1,y2,y3,y4,_⟩:=bN (Blk.below (w:=W0.drew) R3.out hb6 R3.out.lt);obtain⟨a6,k6,rfl,_⟩:=hr6.open';have HR6:=zdF hr6;have HF6:=zdF (hf6.mono (show w.heap.size+1+1+1<=_ from R3.out.lt));have HB6:=zdF (RB.out.drew.trans (hb6.mono RB.out.size))
    clear hr6 hf6 hb6))
 all_goals go_wp2
 all_goals
  refine bodyPost_ret (v:= .agg #[.bool neg1, .slice a6 _ k6]) (by simp[results,results160,go_sem,y1,y2,y3,y4]) rfl ⟨neg1,(x - y),_,rfl,rfl, ?_,HF6.out.mono (by omega), ?_⟩
  ·exact(HR6.out.setCell HF6.out (by simp) _).setCell HF6.out (by simp) _
  ·exact(HB6.out.setCell (by simp<;>omega) _).setCell (by simp<;>omega) _
theorem Em (neg1 neg2:Bool) (hne:neg1≠neg2) (x y:Nat) (hxy:x<y) (v1 v2:Value) (w:World) (h1:Rd am w v1 (ae 10000 x)) (h2:Rd am w v2 (ae 10000 y)) (hx:(ae 10000 x).length<=400) (hy:(ae 10000 y).length<=400):
 Calls prog 160 #[.agg #[.bool neg1,v1], .agg #[.bool neg2,v2]] w (wN (sgn neg1 x+sgn neg2 y) w):=by
 have hfin:sgn neg2 (y - x)=sgn neg1 x+sgn neg2 y:=by revert hne;cases neg1<;>cases neg2<;>simp[sgn]<;>omega
 rw[<-hfin];obtain⟨a1,k1,rfl,_⟩:=h1.open';obtain⟨a2,k2,rfl,_⟩:=h2.open';obtain⟨n1,e1⟩: ∃n,(ae 10000 x).length=n:=⟨_,rfl⟩;obtain⟨n2,e2⟩: ∃n,(ae 10000 y).length=n:=⟨_,rfl⟩;have H1:=zdF h1;have H2:=zdF h2;have Hx:=zdF hx;have Hy:=zdF hy;rw[e1] at H1 ⊢;rw[e2] at H2 ⊢;have c1:(neg1==neg2)=false:=by simpa using hne
 obtain⟨cv,hcv⟩: ∃c,dB x y=c:=⟨_,rfl⟩;have c2:cv<0:=by rw[<-hcv];unfold dB;rw[if_pos hxy];omega
 have Hcm:=zdF hcv;have Hxy:=zdF hxy;clear hne hcv hxy;clear h1 h2 hx hy e1 e2 hfin;have hmx:prog.follows .mixedOrders=true:=by kernel_rfl
 obtain⟨r1,r2,r3⟩:=atZ w #[.bool neg1, .slice a1 n1 k1] #[.bool neg2, .slice a2 n2 k2] #[.bool false, .slice none 0 0] 203;have rb:Below w.heap.size w (((w.alloc (.cells #[.bool neg1, .slice a1 n1 k1] 203)).alloc (.cells #[.bool neg2, .slice a2 n2 k2] 203)).alloc (.cells #[.bool false, .slice none 0 0] 203)):=(((zdG _ w).alloc (za0 _) _).alloc (by simp) _).alloc (by simp;omega) _;have R1:=zdF r1;have R2:=zdF r2;have R3:=zdF r3;have RB:=zdF rb;clear r1 r2 r3 rb;go_enter func160,ntmps160;go_wp2_with fail;refine(gc x y _ _ _ (H1.out.below RB.out) (H2.out.below RB.out) (by have:=Hx.out;omega)).mono ?_;rw[Hcm.out];rintro e W0 ⟨rfl,hb0⟩;have S1:=R1.out.below hb0 R1.out.lt;have S2:=R2.out.below hb0 R2.out.lt;have S3:=R3.out.below hb0 R3.out.lt;have SB:=RB.out.trans (hb0.mono RB.out.size);clear R1 R2 R3 RB hb0;have R1:=zdF S1;have R2:=zdF S2;have R3:=zdF S3;have RB:=zdF SB;clear S1 S2 S3 SB;go_wp2;have ne1: ¬(w.heap.size+1+1=w.heap.size):=by omega
 have ne2: ¬(w.heap.size=w.heap.size+1+1):=by omega
 obtain⟨p1,p2,_,_,_⟩:=bN R1.out;obtain⟨q1,q2,_,_,_⟩:=bN R2.out
 go_region_held3 (λw'=>(w'.cell? ⟨w.heap.size+1,0,none⟩=some (.bool neg2)/\w'.cell? ⟨w.heap.size,1,none⟩=some (.slice a1 n1 k1))/\w'.cell? ⟨w.heap.size+1,1,none⟩=some (.slice a2 n2 k2)) (go_keep)
  ((go_at_call 221;refine(ll y x (zbt Hxy.out) _ _ _ (H2.out.below RB.out.drew) (H1.out.below RB.out.drew) (by have:=Hx.out;have:=Hy.out;omega) (by have:=Hx.out;have:=Hy.out;omega)).mono ?_
    rintro e w6 ⟨v6,rfl,hr6,hf6,hb6⟩;obtain⟨u1,u2,u3,u4,_⟩:=bN (Blk.below (w:=W0.drew) R1.out hb6 R1.out.lt);obtain⟨z1,z2,z3,z4,_⟩:=bN (Blk.below (w:=W0.drew) R2.out hb6 R2.out.lt);obtain⟨y1,y2,y3,y4,_⟩:=bN (Blk.below (w:=W0.drew) R3.out hb6 R3.out.lt);obtain⟨a6,k6,rfl,_⟩:=hr6.open';have HR6:=zdF hr6;have HF6:=zdF (hf6.mono (show w.heap.size+1+1+1<=_ from R3.out.lt));have HB6:=zdF (RB.out.drew.trans (hb6.mono RB.out.size))
    clear hr6 hf6 hb6))
 all_goals go_wp2
 all_goals
  refine bodyPost_ret (v:= .agg #[.bool neg2, .slice a6 _ k6]) (by simp[results,results160,go_sem,y1,y2,y3,y4]) rfl ⟨neg2,(y - x),_,rfl,rfl, ?_,HF6.out.mono (by omega), ?_⟩
  ·exact(HR6.out.setCell HF6.out (by simp) _).setCell HF6.out (by simp) _
  ·exact(HB6.out.setCell (by simp<;>omega) _).setCell (by simp<;>omega) _
theorem td (J V:Bool) (x y:Nat) (Y Z:Value) (w:World) (h1:Rd am w Y (ae 10000 x)) (h2:Rd am w Z (ae 10000 y)) (hx:(ae 10000 x).length<=400) (hy:(ae 10000 y).length<=400):
 Calls prog 160 #[.agg #[.bool J,Y], .agg #[.bool V,Z]] w (wN (sgn J x+sgn V y) w):=by
 by_cases h:J=V
 ·subst h;exact yF J x y Y Z w h1 h2 hx hy
 ·by_cases hxy:y<=x
  ·exact Ek J V h x y hxy Y Z w h1 h2 hx hy
  ·exact Em J V h x y (by omega) Y Z w h1 h2 hx hy
end Go.Proofs.YtldflkomhbfceaaGreatDoor
