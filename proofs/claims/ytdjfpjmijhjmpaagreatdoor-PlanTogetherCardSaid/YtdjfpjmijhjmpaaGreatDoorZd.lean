import Derived.Test.YtdjfpjmijhjmpaaGreatDoorZc
import Derived.Test.YtdjfpjmijhjmpaaGreatDoorProg
import Derived.Recover
import Derived.Tactics
import Derived.Tactics2
import Derived.Laws.Pointers
import Derived.WalkKit
import Derived.WalkSpells
import Derived.WalkLawsBesides
import Derived.Lib.Hide
import Derived.Maps.AppendAt
import Derived.Laws.AppendOwnNone
import Derived.RangeFuncBox
import Derived.OwnWalkIn
import Derived.RangeFuncCalls
import Derived.Deep.RegionHeld
import Derived.Lib.OthersKept
import Derived.RangeFuncLeaves
import Derived.RangeFuncNested
import Derived.Shelf.Abstract
import Derived.TacticsInMore
import Derived.LoopNIn
import Derived.LoopIn
import Derived.Test.YtdjfpjmijhjmpaaGreatDoorSh
import Derived.WalkSmall
import Derived.Lib.AtoiErrMem
import Derived.Lib.IndexBytes
import Derived.Deep.QuietTactic
import Derived.BigQuiet
import Derived.Shelf.RegionOpen
import Derived.Deep.RegionWith
import Derived.Laws.EntriesVeiled
import Derived.Deep.RegionHeld3
set_option linter.unusedVariables false
set_option linter.unusedSimpArgs false
set_option maxHeartbeats 4000000
set_option maxRecDepth 100000
noncomputable section
namespace Go.Sy
open Go.RowKit
structure Cod (α:Type) where
 dec:SV->Option α
 enc:α->SV
 ok: ∀s a,dec s=some a->s=enc a
 ids: ∀a,(enc a).ids= []
def Pq:SV->Option Int
 | .val (.int .i64 z)=>some z
 |_=>none
def cI:Cod Int where
 dec:=Pq
 enc z:= .val (.int .i64 z)
 ok s a h:=by
  unfold Pq at h;split at h
  ·simp at h;rw[h]
  ·cases h
 ids _:=by simp[SV.ids]
def ake:SV->Option Bool
 | .val (.bool z)=>some z
 |_=>none
def cB:Cod Bool where
 dec:=ake
 enc z:= .val (.bool z)
 ok s a h:=by
  unfold ake at h;split at h
  ·simp at h;rw[h]
  ·cases h
 ids _:=by simp[SV.ids]
def Ps:SV->Option ByteArray
 | .val (.string z)=>some z
 |_=>none
def cS:Cod ByteArray where
 dec:=Ps
 enc z:= .val (.string z)
 ok s a h:=by
  unfold Ps at h;split at h
  ·simp at h;rw[h]
  ·cases h
 ids _:=by simp[SV.ids]
def Pt:SV->Option (ByteArray×ByteArray)
 | .agg [.val (.string a), .val (.string b)]=>some (a,b)
 |_=>none
def cR:Cod (ByteArray×ByteArray) where
 dec:=Pt
 enc r:= .agg [.val (.string r.1), .val (.string r.2)]
 ok s a h:=by
  unfold Pt at h;split at h
  ·simp at h;rw[<-h]
  ·cases h
 ids _:=by simp[SV.ids,SV.idss]
def Pu:SV->Option (Int×Int)
 | .agg [.val (.int .i64 a), .val (.int .i64 b)]=>some (a,b)
 |_=>none
def c22:Cod (Int×Int) where
 dec:=Pu
 enc r:= .agg [.val (.int .i64 r.1), .val (.int .i64 r.2)]
 ok s a h:=by
  unfold Pu at h;split at h
  ·simp at h;rw[<-h]
  ·cases h
 ids _:=by simp[SV.ids,SV.idss]
structure D7 where
 d0:Int×Int
 d1:Int×Int
 d2:Int×Int
 d3:Int×Int
 d4:Int×Int
 d5:Int×Int
 d6:Int×Int
def mk7 (H b0 J b1 N b2 Y b3 a4 b4 a5 b5 a6 b6:Int):D7:=⟨(H,b0),(J,b1),(N,b2),(Y,b3),(a4,b4),(a5,b5),(a6,b6)⟩
def sv7 (d:D7):zdJ:= [.val (.int .i64 d.d0.1), .val (.int .i64 d.d0.2), .val (.int .i64 d.d1.1), .val (.int .i64 d.d1.2), .val (.int .i64 d.d2.1), .val (.int .i64 d.d2.2), .val (.int .i64 d.d3.1), .val (.int .i64 d.d3.2), .val (.int .i64 d.d4.1), .val (.int .i64 d.d4.2), .val (.int .i64 d.d5.1), .val (.int .i64 d.d5.2), .val (.int .i64 d.d6.1), .val (.int .i64 d.d6.2)]
def Pv:SV->Option D7
 | .agg [.val (.int .i64 H), .val (.int .i64 b0), .val (.int .i64 J), .val (.int .i64 b1), .val (.int .i64 N), .val (.int .i64 b2), .val (.int .i64 Y), .val (.int .i64 b3), .val (.int .i64 a4), .val (.int .i64 b4), .val (.int .i64 a5), .val (.int .i64 b5), .val (.int .i64 a6), .val (.int .i64 b6)]=>some (mk7 H b0 J b1 N b2 Y b3 a4 b4 a5 b5 a6 b6)
 |_=>none
def c7:Cod D7 where
 dec:=Pv
 enc d:= .agg (sv7 d)
 ok s a h:=by
  unfold Pv at h;split at h
  ·simp only[za1] at h;rw[<-h];rfl
  ·cases h
 ids _:=by simp[SV.ids,SV.idss,sv7]
structure Un where
 d:D7
 f:ByteArray×ByteArray
 o:ByteArray×ByteArray
 k:Int
 s:Int
def Au:SV->Option Un
 | .agg [.val (.int .i64 H), .val (.int .i64 b0), .val (.int .i64 J), .val (.int .i64 b1), .val (.int .i64 N), .val (.int .i64 b2), .val (.int .i64 Y), .val (.int .i64 b3), .val (.int .i64 a4), .val (.int .i64 b4), .val (.int .i64 a5), .val (.int .i64 b5), .val (.int .i64 a6), .val (.int .i64 b6), .val (.string f1), .val (.string f2), .val (.string o1), .val (.string o2), .val (.int .i64 k), .val (.int .i64 s)]=>
   some ⟨mk7 H b0 J b1 N b2 Y b3 a4 b4 a5 b5 a6 b6,(f1,f2),(o1,o2),k,s⟩
 |_=>none
def ci (u:Un):zdJ:= [.val (.int .i64 u.d.d0.1), .val (.int .i64 u.d.d0.2), .val (.int .i64 u.d.d1.1), .val (.int .i64 u.d.d1.2), .val (.int .i64 u.d.d2.1), .val (.int .i64 u.d.d2.2), .val (.int .i64 u.d.d3.1), .val (.int .i64 u.d.d3.2), .val (.int .i64 u.d.d4.1), .val (.int .i64 u.d.d4.2), .val (.int .i64 u.d.d5.1), .val (.int .i64 u.d.d5.2), .val (.int .i64 u.d.d6.1), .val (.int .i64 u.d.d6.2), .val (.string u.f.1), .val (.string u.f.2), .val (.string u.o.1), .val (.string u.o.2), .val (.int .i64 u.k), .val (.int .i64 u.s)]
def cU:Cod Un where
 dec:=Au
 enc u:= .agg (ci u)
 ok s a h:=by
  unfold Au at h;split at h
  ·simp only[za1] at h;rw[<-h];rfl
  ·cases h
 ids _:=by simp[SV.ids,SV.idss,ci]
def Pw {α β:Type} (A:Cod α) (B:Cod β):SV->Option (α×β)
 | .tup [x,y]=>match A.dec x,B.dec y with
   |some a,some b=>some (a,b)
   |_,_=>none
 |_=>none
def cP {α β:Type} (A:Cod α) (B:Cod β):Cod (α×β) where
 dec:=Pw A B
 enc r:= .tup [A.enc r.1,B.enc r.2]
 ok s a h:=by
  unfold Pw at h;split at h
  ·split at h
   ·rename_i x y a b H J;simp only[za1] at h;rw[<-h,A.ok _ _ H,B.ok _ _ J]
   ·cases h
  ·cases h
 ids r:=by simp[SV.ids,SV.idss,A.ids,B.ids]
section
variable {α β γ δ ρ:Type}
def k0 (R:Cod ρ) (f:ρ):Ctr:=λargs=>match args with
 | []=>some (true,R.enc f)
 |_=>none
def k1 (A:Cod α) (R:Cod ρ) (pre:α->Bool) (f:α->ρ):Ctr:=λargs=>match args with
 | [x]=>match A.dec x with
   |some a=>some (pre a,R.enc (f a))
   |none=>none
 |_=>none
def k2 (A:Cod α) (B:Cod β) (R:Cod ρ) (pre:α->β->Bool) (f:α->β->ρ):Ctr:=λargs=>match args with
 | [x,y]=>match A.dec x,B.dec y with
   |some a,some b=>some (pre a b,R.enc (f a b))
   |_,_=>none
 |_=>none
def k3 (A:Cod α) (B:Cod β) (C:Cod γ) (R:Cod ρ) (pre:α->β->γ->Bool) (f:α->β->γ->ρ):Ctr:=λargs=>match args with
 | [x,y,z]=>match A.dec x,B.dec y,C.dec z with
   |some a,some b,some c=>some (pre a b c,R.enc (f a b c))
   |_,_,_=>none
 |_=>none
variable {P:Program} {W0:World} {F:FuncId}
def Yields (P:Program) (W0:World) (F:FuncId) (args:zdJ) (r:SV):Prop:= ∀(β:zdI) (w:World),Below W0.heap.size W0 w->Calls P F (SV.concs β args).toArray w λe w'=>e= .returned (r.conc β)/\Below w.heap.size w w'
theorem GF {R:Cod ρ} {f:ρ} (h:Yields P W0 F [] (R.enc f)):CtrOK P W0 F (k0 R f):=by
 intro β w args b s J H N;unfold k0 at H;split at H
 ·simp only[za1,zag] at H;obtain⟨rfl,rfl⟩:=H;exact⟨R.ids _,h β w J.below⟩
 ·cases H
theorem dD {A:Cod α} {R:Cod ρ} {pre:α->Bool} {f:α->ρ} (h: ∀a,pre a=true->Yields P W0 F [A.enc a] (R.enc (f a))):CtrOK P W0 F (k1 A R pre f):=by
 intro β w args b s N H Y;unfold k1 at H;split at H
 ·split at H
  ·rename_i x a J;simp only[za1,zag] at H;obtain⟨rfl,rfl⟩:=H;rw[A.ok _ _ J];exact⟨R.ids _,h a Y β w N.below⟩
  ·cases H
 ·cases H
theorem bC {A:Cod α} {B:Cod β} {R:Cod ρ} {pre:α->β->Bool} {f:α->β->ρ} (h: ∀a b,pre a b=true->Yields P W0 F [A.enc a,B.enc b] (R.enc (f a b))):CtrOK P W0 F (k2 A B R pre f):=by
 intro β w args b s N H hn;unfold k2 at H;split at H
 ·split at H
  ·rename_i x y a c J Y;simp only[za1,zag] at H;obtain⟨rfl,rfl⟩:=H;rw[A.ok _ _ J,B.ok _ _ Y];exact⟨R.ids _,h a c hn β w N.below⟩
  ·cases H
 ·cases H
theorem sQ {A:Cod α} {B:Cod β} {C:Cod γ} {R:Cod ρ} {pre:α->β->γ->Bool} {f:α->β->γ->ρ} (h: ∀a b c,pre a b c=true->Yields P W0 F [A.enc a,B.enc b,C.enc c] (R.enc (f a b c))):CtrOK P W0 F (k3 A B C R pre f):=by
 intro β w args b s N H hn;unfold k3 at H;split at H
 ·split at H
  ·rename_i x y z a c d J Y hd;simp only[za1,zag] at H;obtain⟨rfl,rfl⟩:=H;rw[A.ok _ _ J,B.ok _ _ Y,C.ok _ _ hd];exact⟨R.ids _,h a c d hn β w N.below⟩
  ·cases H
 ·cases H
theorem cr {ok:FuncId->Bool} {Γ:zdP} {Γm:FuncId->Option MCtr} (H: ∀W,Below W0.heap.size W0 W->Hyp P W ok Γ Γm) {ann:zdV} {n:Nat} {args:zdJ} {r:SV} (J:SV.idss args= []) (hr:r.ids= [])
 (h:wq P ok Γ Γm ann n F args (λ_=>none) 0 [] (okK λs _ _ _=>s=r)):Yields P W0 F args r:=by
 intro β w hb
 obtain⟨_,hc⟩:=(sO (H w hb) ann n).call F args (λ_=>none) 0 [] _ β w h (sP w β) (λ_ _=>rfl) (λs hs i hi=>by
  have:i∈SV.idss args:=SV.mem_idss.2 ⟨s,hs,hi⟩
  rw[J] at this;cases this)
 refine Calls.mono hc ?_;rintro e w' ⟨β',s,bl',a0,e0,he,Y,N,_⟩;cases s with
 |pan v=>exact Y.elim
 |ok s=>
 obtain rfl:e=_:=he;obtain rfl:s=_:=Y;exact⟨by rw[SV.conc_congr s (β:=β) (β':=β') (λi hi=>by rw[hr] at hi;cases hi)],N.below.below⟩
theorem CtrOK.base {B:Base} {k:Ctr} (h: ∀w:World,Pres B w->CtrOK P w F k):CtrOK P B F k:=λβ w args b s H J N=>h w H β w args b s (Pres.refl w) J N
end
end Go.Sy
namespace Yk
open Go Go.Sy
def uz (a:zdG):Bool:=decide (a.size<=maxLen)
def uzR (a:RS):Bool:=uz a.1&&uz a.2
def cl (n:Int):Bool:=inR .i64 n
def qG (n d:Int):Int×Int:=(n.tdiv (Int.gcd n d),d.tdiv (Int.gcd n d))
def aj (n lo hi:Int):Bool:=decide (lo<=n)&&decide (n<=hi)
def aR (p:Int×Int):Bool:=aj p.2 1 12&&(aj p.1 (-12) 12&&decide (qG p.1 p.2=p))
def sR:D7:=mk7 0 1 0 1 0 1 0 1 0 1 0 1 0 1
def rZ:RS:=(⟨#[48]⟩,⟨#[49]⟩)
def rI:RS:=(⟨#[49]⟩,⟨#[49]⟩)
def aFn:RS:=(⟨#[]⟩,⟨#[]⟩)
def eq2 (p q:Int×Int):Bool:=p.1==q.1&&(p.2==q.2&&true)
def eq7 (d e:D7):Bool:=eq2 d.d0 e.d0&&(eq2 d.d1 e.d1&&(eq2 d.d2 e.d2&&(eq2 d.d3 e.d3&&(eq2 d.d4 e.d4&&(eq2 d.d5 e.d5&&(eq2 d.d6 e.d6&&true))))))
def eqR (a b:RS):Bool:=seq a.1 b.1&&(seq a.2 b.2&&true)
def eqU (u v:Un):Bool:=eq7 u.d v.d&&(eqR u.f v.f&&(eqR u.o v.o&&(u.k==v.k&&(u.s==v.s&&true))))
def bT (d:D7) (f:RS) (k:Int):Un:=⟨d,f,rZ,k,bif k==0&&eq7 d sR then 2 else 1⟩
def ku (g:Int×Int->Int×Int->Int×Int) (a b:D7):D7:=⟨g a.d0 b.d0,g a.d1 b.d1,g a.d2 b.d2,g a.d3 b.d3,g a.d4 b.d4,g a.d5 b.d5,g a.d6 b.d6⟩
def eX (d:D7):Bool:=aR d.d0&&(aR d.d1&&(aR d.d2&&(aR d.d3&&(aR d.d4&&(aR d.d5&&aR d.d6)))))
def km (d:D7):D7×Bool:=
 bif !aR d.d0 then(⟨d.d0,(0,0),(0,0),(0,0),(0,0),(0,0),(0,0)⟩,false) else
 bif !aR d.d1 then(⟨d.d0,d.d1,(0,0),(0,0),(0,0),(0,0),(0,0)⟩,false) else
 bif !aR d.d2 then(⟨d.d0,d.d1,d.d2,(0,0),(0,0),(0,0),(0,0)⟩,false) else
 bif !aR d.d3 then(⟨d.d0,d.d1,d.d2,d.d3,(0,0),(0,0),(0,0)⟩,false) else
 bif !aR d.d4 then(⟨d.d0,d.d1,d.d2,d.d3,d.d4,(0,0),(0,0)⟩,false) else
 bif !aR d.d5 then(⟨d.d0,d.d1,d.d2,d.d3,d.d4,d.d5,(0,0)⟩,false) else
 bif !aR d.d6 then(⟨d.d0,d.d1,d.d2,d.d3,d.d4,d.d5,d.d6⟩,false) else(d,true)
def kw (s:Int) (p q:Int×Int):Int×Int:=qG (p.1*q.2+s*q.1*p.2) (p.2*q.2)
def VK (u:Un):Bool:=eX u.d&&(rV u.f&&(rV u.o&&(decide (0<b9 u.f rZ)&&(aj u.k 0 100&&(u.s==0||eqU u (bT u.d u.f u.k))))))
def noU:Un:=⟨mk7 0 0 0 0 0 0 0 0 0 0 0 0 0 0,aFn,aFn,0,0⟩
def aU (u:Un):Bool:=VK u&&u.s !=0
def qi (d:D7×Bool) (f:RS×Int) (k:Int):Un×Int:=bif !d.2||f.2 !=0 then(noU,70) else(bT d.1 f.1 k,0)
def mi (a b:Un):Un×Int:=bif !aU a|| !aU b then(noU,70) else qi (km (ku (kw 1) a.d b.d)) (ale a.f b.f) (bif 2==b.s then a.k else bif 2==a.s then b.k else 0)
def aAO (a b:Un):Un×Int:=bif !aU a|| !aU b then(noU,70) else qi (km (ku (kw (-1)) a.d b.d)) (cA a.f b.f) (bif b.s==2 then a.k else 0)
def jk (a b:Un):Bool:=VK a&&VK b&&eq7 a.d b.d&&eqR a.f b.f&&a.k==b.k
def iS (a b:Un):Un×Int:=bif !jk a b||(a.s==0&&b.s==0) then(noU,70) else bif b.s==0 then(b,0) else(a,0)
def fw (a b:Un):Un×Int:=bif !jk a b then(noU,70) else bif b.s !=0 then(a,0) else bif eqU a b then(bT a.d a.f a.k,0) else(noU,70)
end Yk
namespace Go.Sy
open Go.RowKit
mutual
def SV.rn (f:Nat->Option (Option Nat)):SV->Option SV
 | .val v=>some (.val v)
 | .ptr id e o=>match f id with
   |some (some i)=>some (.ptr i e o)
   |_=>none
 | .mp id=>match f id with
   |some (some i)=>some (.mp i)
   |_=>none
 | .yl id=>match f id with
   |some (some i)=>some (.yl i)
   |_=>none
 | .slc id e len=>match f id with
   |some (some i)=>some (.slc i e len)
   |some none=>some (.val (.slice none len 0))
   |none=>none
 | .agg cs=>match SV.rns f cs with
   |some l=>some (.agg l)
   |none=>none
 | .tup cs=>match SV.rns f cs with
   |some l=>some (.tup l)
   |none=>none
 | .fn g a c=>match SV.rns f a,SV.rns f c with
   |some a,some c=>some (.fn g a c)
   |_,_=>none
def SV.rns (f:Nat->Option (Option Nat)):List SV->Option (List SV)
 | []=>some []
 |x::xs=>match SV.rn f x,SV.rns f xs with
  |some y,some H=>some (y::H)
  |_,_=>none
end
abbrev _root_.zdX:=Nat->Option (Option Nat)
def sS (f:zdX) (β β':zdI):Prop:= ∀i,(∀j,f i=some (some j)->β i=β' j)/\(f i=some none->(β i).nil=true/\(β i).cap=0)
mutual
theorem ol {f:Nat->Option (Option Nat)} {β β':Nat->Loc} (h:sS f β β'): ∀{s r:SV},s.rn f=some r->r.conc β'=s.conc β/\ ∀j∈r.ids,∃i∈s.ids,f i=some (some j)
 | .val v,r,H=>by simp only[SV.rn,za1] at H;subst H;exact⟨rfl,λj J=>by simp[SV.ids] at J⟩
 | .ptr id e o,r,H=>by
   simp only[SV.rn] at H;split at H
   ·rename_i i hi;simp only[za1] at H;subst H;refine⟨by simp only[SV.conc,addr,(h id).1 i hi],λj J=>⟨id,by simp[SV.ids], ?_⟩⟩;simp only[SV.ids,zaj] at J;rw[J];exact hi
   ·cases H
 | .mp id,r,H=>by
   simp only[SV.rn] at H;split at H
   ·rename_i i hi;simp only[za1] at H;subst H;refine⟨by simp only[SV.conc,(h id).1 i hi],λj J=>⟨id,by simp[SV.ids], ?_⟩⟩;simp only[SV.ids,zaj] at J;rw[J];exact hi
   ·cases H
 | .yl id,r,H=>by
   simp only[SV.rn] at H;split at H
   ·rename_i i hi;simp only[za1] at H;subst H;refine⟨by simp only[SV.conc,(h id).1 i hi],λj J=>⟨id,by simp[SV.ids], ?_⟩⟩;simp only[SV.ids,zaj] at J;rw[J];exact hi
   ·cases H
 | .slc id e len,r,H=>by
   simp only[SV.rn] at H;split at H
   ·rename_i i hi;simp only[za1] at H;subst H;refine⟨by simp only[SV.conc,addr,(h id).1 i hi],λj J=>⟨id,by simp[SV.ids], ?_⟩⟩;simp only[SV.ids,zaj] at J;rw[J];exact hi
   ·rename_i hi;simp only[za1] at H;subst H;refine⟨by simp only[SV.conc,((h id).2 hi).1,((h id).2 hi).2,zdr,Nat.zero_sub],λj J=>by simp[SV.ids] at J⟩
   ·cases H
 | .agg cs,r,H=>by
   simp only[SV.rn] at H;split at H
   ·rename_i l hl;simp only[za1] at H;subst H;obtain⟨k1,k2⟩:=rns_conc h hl;exact⟨by simp only[SV.conc,k1],λj J=>by simp only[SV.ids] at J ⊢;exact k2 j J⟩
   ·cases H
 | .tup cs,r,H=>by
   simp only[SV.rn] at H;split at H
   ·rename_i l hl;simp only[za1] at H;subst H;obtain⟨k1,k2⟩:=rns_conc h hl;exact⟨by simp only[SV.conc,k1],λj J=>by simp only[SV.ids] at J ⊢;exact k2 j J⟩
   ·cases H
 | .fn g a c,r,H=>by
   simp only[SV.rn] at H;split at H
   ·rename_i a' c' h1 h2;simp only[za1] at H;subst H;obtain⟨k1,k2⟩:=rns_conc h h1;obtain⟨l1,l2⟩:=rns_conc h h2;refine⟨by simp only[SV.conc,k1,l1],λj J=> ?_⟩;simp only[SV.ids,za8] at J ⊢;rcases J with J|J
    ·obtain⟨i,N,Y⟩:=k2 j J;exact⟨i, .inl N,Y⟩
    ·obtain⟨i,N,Y⟩:=l2 j J;exact⟨i, .inr N,Y⟩
   ·cases H
theorem rns_conc {f:Nat->Option (Option Nat)} {β β':Nat->Loc} (h:sS f β β'): ∀{s r:List SV},SV.rns f s=some r->SV.concs β' r=SV.concs β s/\ ∀j∈SV.idss r,∃i∈SV.idss s,f i=some (some j)
 | [],r,J=>by simp only[SV.rns,za1] at J;subst J;exact⟨rfl,λj H=>by simp[SV.idss] at H⟩
 |x::xs,r,J=>by
  simp only[SV.rns] at J;split at J
  ·rename_i y ys h1 h2;simp only[za1] at J;subst J;obtain⟨k1,k2⟩:=ol h h1;obtain⟨l1,l2⟩:=rns_conc h h2;refine⟨by simp only[SV.concs,k1,l1],λj H=> ?_⟩;simp only[SV.idss,za8] at H ⊢;rcases H with H|H
   ·obtain⟨i,N,Y⟩:=k2 j H;exact⟨i, .inl N,Y⟩
   ·obtain⟨i,N,Y⟩:=l2 j H;exact⟨i, .inr N,Y⟩
  ·cases J
end
def D8:List Nat->Nat->Nat->Option Nat
 | [],_,_=>none
 |a::r,i,p=>bif Nat.beq a i then some p else D8 r i (p+1)
def rnF (src:zdT) (H:zdH) (nx i:Nat):Option (Option Nat):=match src[i]? with
 |some o=>some o
 |none=>match D8 H i nx with
  |some j=>some (some j)
  |none=>none
section
variable {P:Program} {W0:Base} {F:FuncId}
end
end Go.Sy
namespace Yk
open Go Go.Sy
structure Nd where
 op:Int
 v:RS
 u:Un
 n:Int
 l:Int
 r:Int
structure Pr where
 id:Int
 inp:List Un
 nod:List Nd
 out:Un
def noN:Nd:=⟨0,aFn,noU,0,0,0⟩
def noP:Pr:=⟨0, [], [],noU⟩
def svN (x:Nd):zdJ:= [.val (.int .i64 x.op), .val (.string x.v.1), .val (.string x.v.2), .val (.int .i64 x.u.d.d0.1), .val (.int .i64 x.u.d.d0.2), .val (.int .i64 x.u.d.d1.1), .val (.int .i64 x.u.d.d1.2), .val (.int .i64 x.u.d.d2.1), .val (.int .i64 x.u.d.d2.2), .val (.int .i64 x.u.d.d3.1), .val (.int .i64 x.u.d.d3.2), .val (.int .i64 x.u.d.d4.1), .val (.int .i64 x.u.d.d4.2), .val (.int .i64 x.u.d.d5.1), .val (.int .i64 x.u.d.d5.2), .val (.int .i64 x.u.d.d6.1), .val (.int .i64 x.u.d.d6.2), .val (.string x.u.f.1), .val (.string x.u.f.2), .val (.string x.u.o.1), .val (.string x.u.o.2), .val (.int .i64 x.u.k), .val (.int .i64 x.u.s), .val (.int .i64 x.n), .val (.int .i64 x.l), .val (.int .i64 x.r)]
def Vh:List SV->Nd
 | [.val (.int .i64 op), .val (.string v1), .val (.string v2), .val (.int .i64 H), .val (.int .i64 b0), .val (.int .i64 J), .val (.int .i64 b1), .val (.int .i64 N), .val (.int .i64 b2), .val (.int .i64 Y), .val (.int .i64 b3), .val (.int .i64 a4), .val (.int .i64 b4), .val (.int .i64 a5), .val (.int .i64 b5), .val (.int .i64 a6), .val (.int .i64 b6), .val (.string f1), .val (.string f2), .val (.string o1), .val (.string o2), .val (.int .i64 k), .val (.int .i64 s), .val (.int .i64 n), .val (.int .i64 l), .val (.int .i64 r)]=>
   ⟨op,(v1,v2),⟨mk7 H b0 J b1 N b2 Y b3 a4 b4 a5 b5 a6 b6,(f1,f2),(o1,o2),k,s⟩,n,l,r⟩
 |_=>noN
def Px (cs:zdJ):Un:=match Au (.agg cs) with
 |some u=>u
 |none=>noU
def NH (cs:zdJ):RS:=match cs with
 | [.val (.string a), .val (.string b)]=>(a,b)
 |_=>aFn
def gA (r:RS):zdJ:= [.val (.string r.1), .val (.string r.2)]
theorem fR (x:Nd):Vh (svN x)=x:=rfl
theorem Kp (u:Un):Px (ci u)=u:=rfl
theorem Kq (r:RS):NH (gA r)=r:=rfl
theorem arA (x:Nd):SV.idss (svN x)= []:=rfl
theorem fj (x:Un):SV.idss (ci x)= []:=rfl
theorem GG (x:RS):SV.idss (gA x)= []:=rfl
def tab {α:Type} (f:Nat->α):Nat->List α
 |0=> []
 |n+1=>tab f n++ [f n]
def szB (u:Un):Bool:=uzR u.f&&uzR u.o
def eqN (x y:Nd):Bool:=x.op==y.op&&(eqR x.v y.v&&(eqU x.u y.u&&(x.n==y.n&&(x.l==y.l&&(x.r==y.r&&true)))))
def earF (nu:Int) (i:Int):Bool:=decide (0<=i)&&decide (i<nu)
abbrev Iv:=RS×RS
def noI:Iv:=(aFn,aFn)
def zR:RS:=(⟨#[48]⟩,⟨#[49]⟩)
def uzI (x:Iv):Bool:=uzR x.1&&uzR x.2
def aAP (x:Iv):zdJ:= [.val (.string x.1.1), .val (.string x.1.2), .val (.string x.2.1), .val (.string x.2.2)]
def aiE:SV->Option Iv
 | .agg [.val (.string a), .val (.string b), .val (.string c), .val (.string d)]=>some ((a,b),(c,d))
 |_=>none
def cIv:Cod Iv where
 dec:=aiE
 enc r:= .agg (aAP r)
 ok s a h:=by
  unfold aiE at h;split at h
  ·simp at h;rw[<-h];rfl
  ·cases h
 ids _:=by simp[aAP,SV.ids,SV.idss]
end Yk
namespace Go.Sy
open Go.RowKit
mutual
theorem GH {f:Nat->Option (Option Nat)}: ∀{s r:SV},s.rn f=some r-> ∀i∈s.ids,f i≠none
 | .val v,r,H,i,hi=>by simp[SV.ids] at hi
 | .ptr id e o,r,H,i,hi=>by
   simp only[SV.ids,zaj] at hi;subst hi;intro h;simp only[SV.rn,h] at H;cases H
 | .mp id,r,H,i,hi=>by
   simp only[SV.ids,zaj] at hi;subst hi;intro h;simp only[SV.rn,h] at H;cases H
 | .yl id,r,H,i,hi=>by
   simp only[SV.ids,zaj] at hi;subst hi;intro h;simp only[SV.rn,h] at H;cases H
 | .slc id e len,r,H,i,hi=>by
   simp only[SV.ids,zaj] at hi;subst hi;intro h;simp only[SV.rn,h] at H;cases H
 | .agg cs,r,H,i,hi=>by
   simp only[SV.rn] at H;split at H
   ·rename_i l J;exact rns_dom J i (by simpa [SV.ids] using hi)
   ·cases H
 | .tup cs,r,H,i,hi=>by
   simp only[SV.rn] at H;split at H
   ·rename_i l J;exact rns_dom J i (by simpa [SV.ids] using hi)
   ·cases H
 | .fn g a c,r,H,i,hi=>by
   simp only[SV.rn] at H;split at H
   ·rename_i N Y h1 h2;simp only[SV.ids,za8] at hi;exact hi.elim (rns_dom h1 i) (rns_dom h2 i)
   ·cases H
theorem rns_dom {f:Nat->Option (Option Nat)}: ∀{s r:List SV},SV.rns f s=some r-> ∀i∈SV.idss s,f i≠none
 | [],r,H,i,hi=>by simp[SV.idss] at hi
 |x::xs,r,H,i,hi=>by
  simp only[SV.rns] at H;split at H
  ·rename_i y J h1 h2;simp only[SV.idss,za8] at hi;exact hi.elim (GH h1 i) (rns_dom h2 i)
  ·cases H
end
theorem mX {f:zdX}: ∀{l r:zdJ},SV.rns f l=some r->r.length=l.length/\(∀(o:Nat) (s:SV),l[o]? =some s-> ∃J,r[o]? =some J/\s.rn f=some J)/\ ∀(o:Nat) (J:SV),r[o]? =some J-> ∃s,l[o]? =some s/\s.rn f=some J
 | [],r,h=>by simp only[SV.rns,za1] at h;subst h;simp
 |x::xs,r,h=>by
  simp only[SV.rns] at h;split at h
  ·rename_i y N h1 h2;simp only[za1] at h;subst h;obtain⟨k1,k2,k3⟩:=mX h2;refine⟨by simp[k1],λo s H=> ?_,λo s H=> ?_⟩
   ·cases o with
    |zero=>simp at H;subst H;exact⟨y,by simp,h1⟩
    |succ o=>simpa using k2 o s (by simpa using H)
   ·cases o with
    |zero=>simp at H;subst H;exact⟨x,by simp,h1⟩
    |succ o=>simpa using k3 o s (by simpa using H)
  ·cases h
def cN:BK->Bool
 | .old| .gone| .glb=>false
 |_=>true
def wB (f:zdX) (C B:Blk):Prop:=C.sz=B.sz/\(C.nn=true->B.nn=true\/1<=C.n)/\match C.kd with
 | .gone=>True
 | .old=>B.kd≠ .gone/\B.kd.map=false/\C.n<=B.n/\ ∀e,e<C.n->SV.rns f (C.get e)=some (B.get e)
 | .own=>B.kd= .own/\1<=C.n/\1<=C.sz/\C.n<=B.n/\ ∀e,e<C.n->SV.rns f (C.get e)=some (B.get e)
 | .mpL=>B.kd= .mpL/\C.n=0/\ ∀e,SV.rns f (C.get e)=some (B.get e)
 | .mpI=>B.kd= .mpI/\C.n=0/\ ∀e,iG (C.get e)=iG (B.get e)
 | .mpB=>B.kd= .mpB/\C.n=0/\ ∀e,su (C.get e)=su (B.get e)
 |_=>False
def kx (g:zdX) (B N:Blk):Prop:=N.kd= .gone\/(N.kd=B.kd/\N.sz=B.sz/\(N.nn=true->B.nn=true)/\N.n<=B.n/\match N.kd with
 | .own=> ∀e,e<N.n->SV.rns g (B.get e)=some (N.get e)
 | .mpL=> ∀e,SV.rns g (B.get e)=some (N.get e)
 | .mpI=> ∀e,iG (B.get e)=iG (N.get e)
 | .mpB=> ∀e,su (B.get e)=su (N.get e)
 |_=>False)
def yw (bl:zdL) (f:zdX):List (Option Nat)->List Blk->Prop
 | [], []=>True
 |o::os,C::Cs=>(match o with
  |none=>C.kd= .old/\C.n=0/\C.nn=false
  |some i=>match bl i with
   |some B=>wB f C B
   |none=>False)/\yw bl f os Cs
 |_,_=>False
theorem qU {bl:zdL} {f:zdX}: ∀{os:zdT} {Cs:zdU},yw bl f os Cs->os.length=Cs.length/\ ∀(j:Nat) (C:Blk),Cs[j]? =some C->(os[j]? =some none/\C.kd= .old/\C.n=0/\C.nn=false)\/ ∃i B,os[j]? =some (some i)/\bl i=some B/\wB f C B
 | [], [],_=>⟨rfl,λj C h=>by simp at h⟩
 |o::os,C::Cs,h=>by
  obtain⟨h1,h2⟩:=h;obtain⟨k1,k2⟩:=qU h2;refine⟨by simp[k1],λj M J=> ?_⟩;cases j with
  |zero=>
   simp only[zbA,za1] at J;subst J;cases o with
   |none=>exact .inl ⟨by simp,h1⟩
   |some i=>
    cases H:bl i with
    |none=>simp only[H] at h1
    |some B=>simp only[H] at h1;exact .inr ⟨i,B,by simp,H,h1⟩
  |succ j=>simpa using k2 j M (by simpa using J)
 | [],_::_,h=>h.elim
 |_::_, [],h=>h.elim
def D9:List (Option Nat)->Nat->Nat->Option Nat
 | [],_,_=>none
 |none::r,i,p=>D9 r i (p+1)
 |some a::r,i,p=>bif Nat.beq a i then some p else D9 r i (p+1)
theorem gP: ∀{l:zdT} {i p q:Nat},D9 l i p=some q-> ∃j,q=p+j/\l[j]? =some (some i)
 | [],i,p,q,h=>by cases h
 |none::r,i,p,q,h=>by
  obtain⟨j,h1,h2⟩:=gP (l:=r) h;exact⟨j+1,by omega,by simpa using h2⟩
 |some a::r,i,p,q,h=>by
  rw[D9,bS] at h;by_cases H:a=i
  ·simp only[H,decide_true,zdr,za1] at h;exact⟨0,by omega,by simp[H]⟩
  ·simp only[H,decide_false,zdq] at h;obtain⟨j,h1,h2⟩:=gP h;exact⟨j+1,by omega,by simpa using h2⟩
def rnG (src H:zdT) (nx i:Nat):Option (Option Nat):=match src[i]? with
 |some o=>some o
 |none=>match D9 H i nx with
  |some j=>some (some j)
  |none=>none
def dt (src H:zdT) (nx i:Nat):Option (Option Nat):=bif Nat.ble nx i then H[i - nx]? else match D9 src i 0 with
 |some j=>some (some j)
 |none=>none
variable {src nws:zdT} {nx:Nat}
theorem jA (q:Nat):dt src nws nx (nx+q)=nws[q]? :=by
 unfold dt;rw[zae (zd8 nx q),zdr,zbb]
theorem cO:dt src nws nx nx=nws[0]? :=jA 0
def newB (bl:zdL) (g:zdX) (b:Nat) (nm:Bool):List (Option Nat)->List Blk->Prop
 | [], []=>True
 |some i::is,N::H=>(b<=i/\match bl i with
  |some B=>N.kd≠ .gone/\(N.kd= .own->nm=true\/1<=N.n/\1<=N.sz)/\kx g B N
  |none=>False)/\newB bl g b nm is H
 |none::is,N::H=>(N.kd= .own/\N.n=0/\N.nn=false)/\newB bl g b nm is H
 |_,_=>False
theorem wC {bl:zdL} {g:zdX} {b:Nat} {nm:Bool}: ∀{is:zdT} {Ns:zdU},newB bl g b nm is Ns->is.length=Ns.length/\ ∀(j:Nat) (N:Blk),Ns[j]? =some N->(is[j]? =some none/\N.kd= .own/\N.n=0/\N.nn=false)\/ ∃i B,is[j]? =some (some i)/\b<=i/\bl i=some B/\N.kd≠ .gone/\(N.kd= .own->nm=true\/1<=N.n/\1<=N.sz)/\kx g B N
 | [], [],_=>⟨rfl,λj C h=>by simp at h⟩
 |some i::is,C::Cs,h=>by
  obtain⟨⟨h0,h1⟩,h2⟩:=h;obtain⟨k1,k2⟩:=wC h2;refine⟨by simp[k1],λj M H=> ?_⟩;cases j with
  |zero=>
   simp only[zbA,za1] at H;subst H;cases J:bl i with
   |none=>simp only[J] at h1
   |some B=>simp only[J] at h1;exact .inr ⟨i,B,by simp,h0,J,h1⟩
  |succ j=>simpa using k2 j M (by simpa using H)
 |none::is,C::Cs,h=>by
  obtain⟨h1,h2⟩:=h;obtain⟨k1,k2⟩:=wC h2;refine⟨by simp[k1],λj M H=> ?_⟩;cases j with
  |zero=>
   simp only[zbA,za1] at H;subst H;exact .inl ⟨by simp,h1⟩
  |succ j=>simpa using k2 j M (by simpa using H)
 | [],_::_,h=>h.elim
 |some _::_, [],h=>h.elim
 |none::_, [],h=>h.elim
def chR (bl:zdL) (g:zdX):List (Option Nat)->List Blk->Nat->List (Nat×Blk)->Prop
 | [], [],_, []=>True
 |o::os,C::Cs,j,ch=>match cN C.kd with
  |true=>match o,ch with
   |some i,p::ch=>p.1=i/\(C.kd= .own\/p.2.kd≠ .gone)/\(match bl j with
    |some B=>kx g B p.2
    |none=>False)/\chR bl g os Cs (j+1) ch
   |_,_=>False
  |false=>chR bl g os Cs (j+1) ch
 |_,_,_,_=>False
theorem Av {bl:zdL} {g:zdX}: ∀{os:zdT} {Cs:zdU} {j:Nat} {ch:List (Nat×Blk)},chR bl g os Cs j ch->
 (∀p∈ch,∃k C B,Cs[k]? =some C/\cN C.kd=true/\os[k]? =some (some p.1)/\bl (j+k)=some B/\kx g B p.2/\(C.kd= .own\/p.2.kd≠ .gone))/\ ∀(k:Nat) (C:Blk) (i:Nat),Cs[k]? =some C->cN C.kd=true->os[k]? =some (some i)->i∈ch.map (·.1)
 | [], [],_, [],_=>⟨λp hp=>by simp at hp,λk C i h=>by simp at h⟩
 |o::os,C::Cs,j,ch,h=>by
  simp only[chR] at h;cases N:cN C.kd with
  |false=>
   rw[N] at h;obtain⟨k1,k2⟩:=Av h;refine⟨λp hp=> ?_,λk D i J H hi=> ?_⟩
   ·obtain⟨k,D,B,Y,a2,a3,a4,a5⟩:=k1 p hp;exact⟨k+1,D,B,by simpa using Y,a2,by simpa using a3,by rw[show j+(k+1)=j+1+k by omega];exact a4,a5⟩
   ·cases k with
    |zero=>simp at J;subst J;rw[N] at H;cases H
    |succ k=>exact k2 k D i (by simpa using J) H (by simpa using hi)
  |true=>
   rw[N] at h
   match o,ch,h with
   |some i,p::a0,h=>
    obtain⟨h1,h4,h2,h3⟩:=h;obtain⟨k1,k2⟩:=Av h3;refine⟨λq hq=> ?_,λk D i' J H hi=> ?_⟩
    ·rcases zai.1 hq with rfl|hq
     ·cases hb:bl j with
      |none=>simp only[hb] at h2
      |some B=>simp only[hb] at h2;exact⟨0,C,B,by simp,N,by simp[h1],hb,h2,h4⟩
     ·obtain⟨k,D,B,Y,a2,a3,a4,a5⟩:=k1 q hq;exact⟨k+1,D,B,by simpa using Y,a2,by simpa using a3,by rw[show j+(k+1)=j+1+k by omega];exact a4,a5⟩
    ·cases k with
     |zero=>simp at hi;subst hi;simp[h1]
     |succ k=>
      have:=k2 k D i' (by simpa using J) H (by simpa using hi);simp only[zaK,zai];exact .inr this
   |some i, [],h=>exact h.elim
   |none,_,h=>exact h.elim
 | [], [],_,_::_,h=>h.elim
 | [],_::_,_,_,h=>by simp[chR] at h
 |_::_, [],_,_,h=>by simp[chR] at h
theorem Wp {bl:zdL}: ∀{ch:List (Nat×Blk)} {i:Nat},(i∈ch.map (·.1)-> ∃D,chB bl ch i=some D/\(i,D)∈ch)/\(i∉ch.map (·.1)->chB bl ch i=bl i)
 | [],i=>⟨λh=>by simp at h,λ_=>rfl⟩
 |(k,D)::r,i=>by
  obtain⟨h1,h2⟩:=Wp (bl:=bl) (ch:=r) (i:=i);by_cases H:i=k
  ·subst H;exact⟨λ_=>⟨D,by rw[chB,az],by simp⟩,λh=>absurd (by simp) h⟩
  ·refine⟨λh=> ?_,λh=> ?_⟩
   ·rw[chB,ak H];obtain⟨E,J,N⟩:=h1 (by simp only[zaK,zai] at h;exact h.resolve_left H);exact⟨E,J,zan _ N⟩
   ·rw[chB,ak H];exact h2 λY=>h (by simp only[zaK,zai];exact .inr Y)
def KB (C:RC) (src:zdT) (Cs:zdU) (nx:Nat):Aft:=λr bl _ _=> ∃x,C.spec x/\ ∃H:zdT,(match C.pan x with
 |none=> ∃s,r= .ok s/\(C.out x).rn (dt src H nx)=some s
 |some v=>r= .pan v)/\(ck H).Nodup/\newB bl (rnG src H nx) Cs.length (Cs.all λC=> !C.kd.map) H (C.nw x)/\chR bl (rnG src H nx) src Cs 0 (C.ch x)
variable {β1 β2:zdI} {i1 i2:Nat} {B1 B2:Blk} {w:World}
theorem wD (h:BlkOK β1 i1 B1 w) (J:β1 i1=β2 i2) (H:B2.sz=B1.sz) (hn:B2.n<=B1.n) (hk:B2.kd= .own->B1.kd= .own) (a0:B2.nn=true->B1.nn=true\/1<=B2.n)
 (hc: ∀e,e<B2.n->(B2.get e).length=(B1.get e).length/\ ∀(o:Nat) (s:SV),(B2.get e)[o]? =some s-> ∃N,(B1.get e)[o]? =some N/\s.conc β2=N.conc β1):BlkOK β2 i2 B2 w:=
 ⟨by rw[<-J,H];exact h.sz,by rw[<-J];exact h.lt,by rw[<-J];exact zac hn h.le,λe Y=>by rw[(hc e Y).1,H];exact h.len e (by omega),by rw[<-J,H];exact h.ex,λq=>by rw[<-J,H];exact h.fr (hk q),
   λe Y o s hs=>by
    obtain⟨N,h1,h2⟩:=(hc e Y).2 o s hs;rw[show addr β2 i2 e o=addr β1 i1 e o by simp only[addr,J],h2]
    exact h.val e (by omega) o N h1,by rw[<-J];exact h.nil,λq=>by rw[<-J];exact(a0 q).elim h.nn λk=>h.not_nil (e:=0) (by omega)⟩
theorem Aw (h:BlkOK β1 i1 B1 w) (Y:β1 i1=β2 i2) (J:B2.sz=B1.sz) (hn:B2.n=0) (N:B2.kd= .own->B1.kd= .own) (H:B2.nn=true->B1.nn=true\/1<=B2.n):BlkOK β2 i2 B2 w:=
 wD h Y J (by omega) N H λe he=>by omega
variable {β:zdI}
theorem MapOK.rn {β':zdI} {b:Nat} {w':World} {k:BK} {g1 g2:zdM} (h:MapOK β b w k g1) (Y:w'.heap[b]? =w.heap[b]?)
 (hL:k= .mpL-> ∀e,(g2 e).length=(g1 e).length/\ ∀(o:Nat) (s:SV),(g2 e)[o]? =some s-> ∃s',(g1 e)[o]? =some s'/\s.conc β'=s'.conc β) (hI:k= .mpI-> ∀e,iG (g2 e)=iG (g1 e)) (hB:k= .mpB-> ∀e,su (g2 e)=su (g1 e)) (N:(k.it||k.loop)=false):MapOK β' b w' k g2:=by
 cases k with
 |mpL=>
  obtain⟨es,h1,h2,h3,h4⟩:=h;refine⟨es,by rw[Y];exact h1,h2,λe J=> ?_,λe J=> ?_⟩
  ·obtain⟨k,v,k1,k2⟩:=h3 e J;obtain⟨l1,H⟩:=hL rfl e;rw[k1] at l1 H
   match hg:g2 e,l1 with
   | [k',v'],_=>
     rw[hg] at H;obtain⟨s,a1,a2⟩:=H 0 k' (by simp);obtain⟨t,b1,b2⟩:=H 1 v' (by simp);simp at a1 b1;subst a1 b1;exact⟨k',v',rfl,by rw[a2,b2];exact k2⟩
  ·have:=(hL rfl e).1;rw[h4 e J] at this;exact zau (by simpa using this)
 |mpI=>obtain⟨L,h1,h2⟩:=h;exact⟨L,by rw[Y];exact h1,λk=>by rw[hI rfl];exact h2 k⟩
 |mpB=>obtain⟨L,h1,h2,h3⟩:=h;exact⟨L,by rw[Y];exact h1,λk=>by rw[hB rfl];exact h2 k,h3⟩
 |own|old|gone|glb=>trivial
 |_=>cases N
def Kr (src:zdT) (Cs:zdU):Prop:= ∀(j k i:Nat) (C:Blk),src[j]? =some (some i)->src[k]? =some (some i)->Cs[k]? =some C->cN C.kd=true->j=k
variable {Cs:zdU}
theorem bH (h: ∀C∈Cs,cN C.kd=false):Kr src Cs:=λj k i C _ _ J H=>by rw[h C (zal J)] at H;cases H
theorem yx (h:(ck src).Nodup): ∀{j k i:Nat},src[j]? =some (some i)->src[k]? =some (some i)->j=k:=by
 intro j k i J N
 induction src generalizing j k with
 |nil=>simp at J
 |cons o r Y=>
  have H: ∀{m:Nat},r[m]? =some (some i)->i∈ck r:=λ{m} hm=>Wd.2 ⟨m,hm⟩;cases o with
  |none=>
   cases j with
   |zero=>simp at J
   |succ j=>cases k with
    |zero=>simp at N
    |succ k=>exact congrArg Nat.succ (Y h (by simpa using J) (by simpa using N))
  |some a=>
   simp only[ck,zd6] at h;cases j with
   |zero=>
    simp at J;subst J;cases k with
    |zero=>rfl
    |succ k=>exact absurd (H (by simpa using N)) h.1
   |succ j=>cases k with
    |zero=>simp at N;subst N;exact absurd (H (by simpa using J)) h.1
    |succ k=>exact congrArg Nat.succ (Y h.2 (by simpa using J) (by simpa using N))
theorem aeB (h:(ck src).Nodup):Kr src Cs:=λ_ _ _ _ H J _ _=>yx h H J
theorem qW {i:Nat} {B:Blk} (h:BlkOK β i B w) (H: ∀j,w.cell? ⟨(β i).blk,j,none⟩=none) (h1:1<=B.n) (h2:1<=B.sz):False:=by
 have:=h.ex 0 (Nat.mul_pos (zam h1 h.le) h2);rw[H] at this;cases this
section
variable {P:Program} {W0:Base} {F:FuncId}
def fS (w:World) (β:zdI) (src:zdT) (Cs:zdU):Base where
 w:=w
 S:=λb=>(List.range Cs.length).any λj=>match Cs[j]?,src[j]? with
  |some C,some (some i)=>cN C.kd&& !(β i).nil&&Nat.beq (β i).blk b
  |_,_=>false
variable {w:World} {β:zdI} {src:zdT} {Cs:zdU}
theorem Wc {b:Nat}:(fS w β src Cs).S b=true↔ ∃(j:Nat) (C:Blk) (i:Nat),Cs[j]? =some C/\src[j]? =some (some i)/\cN C.kd=true/\(β i).nil=false/\(β i).blk=b:=by
 simp only[fS,zaP,zaC];constructor
 ·rintro⟨j,H,h⟩;split at h
  ·rename_i C i h1 h2;simp only[za2,zap] at h;exact⟨j,C,i,h1,h2,h.1.1,h.1.2,zab h.2⟩
  ·cases h
 ·rintro⟨j,C,i,h1,h2,h3,h4,rfl⟩;refine⟨j, ?_, ?_⟩
  ·rcases zah j Cs.length with h|h
   ·exact h
   ·rw[zad h] at h1;cases h1
  ·simp[h1,h2,h3,h4]
def ie (β:zdI) (src:zdT) (Cs:zdU) (j:Nat):Loc:=match src[j]? with
 |some (some i)=>β i
 |_=>⟨0,0,(match Cs[j]? with
  |some C=>C.sz
  |none=>0),0,true⟩
variable {j i:Nat}
theorem dn (h:src[j]? =some (some i)):ie β src Cs j=β i:=by simp only[ie,h]
theorem qj {C:Blk} (h:src[j]? =some none) (H:Cs[j]? =some C):ie β src Cs j=⟨0,0,C.sz,0,true⟩:=by simp only[ie,h,H]
variable {nx:Nat}
theorem lO:sS (rnF src [] nx) (ie β src Cs) β:=by
 intro j;refine⟨λi hi=> ?_,λhi=> ?_⟩
 ·simp only[rnF,D8] at hi;split at hi
  ·rename_i o H;simp only[za1] at hi;subst hi;exact dn H
  ·cases hi
 ·simp only[rnF,D8] at hi;split at hi
  ·rename_i o H;simp only[za1] at hi;subst hi;simp only[ie,H,and_self]
  ·cases hi
variable {f:zdX} {β1 β2:zdI} {l r:zdJ}
theorem sT (J:sS f β1 β2) (h:SV.rns f l=some r):l.length=r.length/\ ∀(o:Nat) (s:SV),l[o]? =some s-> ∃H,r[o]? =some H/\s.conc β1=H.conc β2:=by
 obtain⟨h1,h2,_⟩:=mX h;refine⟨h1.symm,λo s hs=> ?_⟩;obtain⟨H,N,Y⟩:=h2 o s hs;exact⟨H,N,(ol J Y).1.symm⟩
theorem Cn (J:sS f β1 β2) (h:SV.rns f l=some r):r.length=l.length/\ ∀(o:Nat) (s:SV),r[o]? =some s-> ∃H,l[o]? =some H/\s.conc β2=H.conc β1:=by
 obtain⟨h1,_,h3⟩:=mX h;refine⟨h1,λo s hs=> ?_⟩;obtain⟨H,N,Y⟩:=h3 o s hs;exact⟨H,N,(ol J Y).1⟩
theorem kY {k:BK} (h:k.map=true):cN k=true:=by cases k<;>first|rfl|cases h
def Far (src:zdT) (Cs:zdU):Prop:=(∀C∈Cs,C.kd.map=false)\/ ∀(j:Nat) (C:Blk) (i:Nat),Cs[j]? =some C->src[j]? =some (some i)->C.kd= .old->1<=C.n/\1<=C.sz
variable {bl:zdL}
theorem NI (N:BC W0 bl β w) (I0:yw bl (rnF src [] nx) src Cs) (w0:Kr src Cs) (z0:Far src Cs):
 BC (fS w β src Cs) (λi=>Cs[i]?) (ie β src Cs) w:=by
 obtain⟨sl,e0⟩:=qU I0;have C0: ∀{j:Nat} {o:Option Nat},src[j]? =some o-> ∃C,Cs[j]? =some C:=λ{j o} h=>by
  rcases zah j src.length with h'|h'
  ·exact⟨Cs[j]'(by omega),zaa (by omega)⟩
  ·rw[zad h'] at h;cases h
 have l0: ∀{j i:Nat} {C:Blk},Cs[j]? =some C->src[j]? =some (some i)->cN C.kd=true->(β i).nil=false->(fS w β src Cs).mine (β i).blk:=λ{j i C} h1 h2 h3 h4=> .inr (Wc.2 ⟨j,C,i,h1,h2,h3,h4,rfl⟩);have domain: ∀{l r:zdJ} {s:SV},SV.rns (rnF src [] nx) l=some r->s∈l->Live (λi=>Cs[i]?) s:=λ{l r s} h hs i hi=>by
  have:=rns_dom h i (SV.mem_idss.2 ⟨s,hs,hi⟩);simp only[rnF,D8] at this;split at this
  ·rename_i o ho;obtain⟨C,Y⟩:=C0 ho;show Cs[i]? ≠none;rw[Y];simp
  ·exact absurd rfl this
 have apart: ∀{j i:Nat} {C B:Blk},Cs[j]? =some C->src[j]? =some (some i)->bl i=some B->C.kd= .old->B.kd≠ .gone->B.kd.map=false->(β i).nil=false->C.sz=B.sz->C.n<=B.n->(fS w β src Cs).S (β i).blk=false:=by
  intro j i C B Y hi hB J hg hm hn P0 N0;cases hS:(fS w β src Cs).S (β i).blk with
  |false=>rfl
  |true=>
   exfalso;obtain⟨j',C',i',h1,h2,h3,h4,h5⟩:=Wc.1 hS;rcases e0 j' C' h1 with ⟨q,_⟩|⟨i2,B',q1,q2,q3⟩
   ·rw[h2] at q;cases q
   rw[h2] at q1;simp only[za1] at q1;subst q1;have M0:i'≠i:=λe=>by
    subst e;have:=w0 _ _ _ _ hi h2 h1 h3;subst this;rw[Y] at h1;simp only[za1] at h1;subst h1;rw[J] at h3;cases h3
   have mapcase:C'.kd.map=true->B'.kd.map=true->False:=λx0 E0=>by
    have y0:=λj=>(N.maps.ok i' B' q2 E0).2.2.2.cellN E0 j;rw[h5] at y0;rcases z0 with hf|hf
    ·rw[hf C' (zal h1)] at x0;cases x0
    ·obtain⟨f1,f2⟩:=hf j C i Y hi J;exact qW (N.blk i B hB hg) y0 (by omega) (by omega)
   obtain⟨_,_,q4⟩:=q3;cases g0:C'.kd with
   |own=>
    simp only[g0] at q4;have k1:=N.own i' B' q2 q4.1 h4;cases j0:B.kd with
    |own=>exact M0 (N.inj i' i B' B q2 hB q4.1 j0 h4 hn h5)
    |old=>exact absurd (h5▸k1) (N.old i B hB (by rw[j0];rfl) hn).1.1
    |glb=>exact absurd (h5▸k1) (N.old i B hB (by rw[j0];rfl) hn).1.1
    |gone=>exact hg j0
    |_=>rw[j0] at hm;cases hm
   |mpL=>simp only[g0] at q4;exact mapcase (by rw[g0];rfl) (by rw[q4.1];rfl)
   |mpI=>simp only[g0] at q4;exact mapcase (by rw[g0];rfl) (by rw[q4.1];rfl)
   |mpB=>simp only[g0] at q4;exact mapcase (by rw[g0];rfl) (by rw[q4.1];rfl)
   |gone|old|glb=>rw[g0] at h3;cases h3
   |_=>simp only[g0] at q4
 refine⟨Pres.self _, ?_, ?_, ?_, ?_, ?_, ?_, ?_, ?_, ?_⟩
 ·intro j C Y hg;rcases e0 j C Y with ⟨q,kd,n0,nn⟩|⟨i,B,q1,q2,q3,q4,H⟩
  ·have e:=qj (β:=β) q Y;refine⟨by rw[e],λq=>(by rw[e] at q;cases q),by rw[n0];exact zaA _,λe' q0=>by rw[n0] at q0;omega,λj' B0=>by rw[e] at B0;simp at B0,λq=>(by rw[kd] at q;cases q),λe' q0=>by rw[n0] at q0;omega,λ_=>by rw[e],λq=>(by rw[nn] at q;cases q)⟩
  ·have hl:β i=ie β src Cs j:=(dn q1).symm;cases J:C.kd with
   |gone=>exact absurd J hg
   |old=>simp only[J] at H;exact wD (N.blk i B q2 H.1) hl q3 H.2.2.1 (λh=>by rw[J] at h;cases h) q4 λe he=>sT lO (H.2.2.2 e he)
   |own=>simp only[J] at H;exact wD (N.blk i B q2 (by rw[H.1];simp)) hl q3 H.2.2.2.1 (λ_=>H.1) q4 λe he=>sT lO (H.2.2.2.2 e he)
   |mpL=>simp only[J] at H;exact Aw (N.blk i B q2 (by rw[H.1];simp)) hl q3 H.2.1 (λh=>by rw[J] at h;cases h) q4
   |mpI=>simp only[J] at H;exact Aw (N.blk i B q2 (by rw[H.1];simp)) hl q3 H.2.1 (λh=>by rw[J] at h;cases h) q4
   |mpB=>simp only[J] at H;exact Aw (N.blk i B q2 (by rw[H.1];simp)) hl q3 H.2.1 (λh=>by rw[J] at h;cases h) q4
   |_=>simp only[J] at H
 ·intro j C Y J hn;rcases e0 j C Y with ⟨q,kd,_⟩|⟨i,B,q1,q2,_⟩
  ·rw[kd] at J;cases J
  ·rw[dn q1] at hn ⊢;exact l0 Y q1 (by rw[J];rfl) hn
 ·intro j C Y J hn;rcases e0 j C Y with ⟨q,kd,_⟩|⟨i,B,q1,q2,q3,q4,H⟩
  ·rw[qj q Y] at hn;cases hn
  ·rw[dn q1] at hn ⊢;have u0:C.kd= .old:=by cases h:C.kd<;>first|rfl|(simp only[h] at H;done)|(exact absurd J (by rw[h];decide))
   simp only[u0] at H;have O0:=(N.blk i B q2 H.1).lt hn;refine⟨⟨?_,rfl⟩,λe=>by rw[u0] at e;cases e⟩;rintro(hm|hm)
   ·have:w.heap.size<=(β i).blk:=hm;omega
   ·rw[apart Y q1 q2 u0 H.1 H.2.1 hn q3 H.2.2.1] at hm;cases hm
 ·intro i j C D Y hD i0 a0 hn H0 he;rcases e0 i C Y with ⟨q,kd,_⟩|⟨i1,B,q1,q2,_,_,H⟩
  ·rw[kd] at i0;cases i0
  rcases e0 j D hD with ⟨r,kd,_⟩|⟨j1,B',r1,r2,_,_,r5⟩
  ·rw[kd] at a0;cases a0
  simp only[i0] at H;simp only[a0] at r5;rw[dn q1] at hn he;rw[dn r1] at H0 he;have:=N.inj i1 j1 B B' q2 r2 H.1 r5.1 hn H0 he;subst this;exact w0 _ _ _ _ q1 r1 hD (by first|(rw[a0];rfl)|exact kY a0)
 ·intro j C e o s Y hg he hs;rcases e0 j C Y with ⟨q,kd,n0,nn⟩|⟨i,B,q1,q2,q3,q4,H⟩
  ·rw[n0] at he;omega
  ·cases J:C.kd with
   |gone=>exact absurd J hg
   |old=>simp only[J] at H;exact domain (H.2.2.2 e he) (zal hs)
   |own=>simp only[J] at H;exact domain (H.2.2.2.2 e he) (zal hs)
   |mpL=>simp only[J] at H;rw[H.2.1] at he;omega
   |mpI=>simp only[J] at H;rw[H.2.1] at he;omega
   |mpB=>simp only[J] at H;rw[H.2.1] at he;omega
   |_=>simp only[J] at H
 ·intro j C Y hm;rcases e0 j C Y with ⟨q,kd,n0,nn⟩|⟨i,B,q1,q2,q3,q4,H⟩
  ·rw[kd] at hm;cases hm
  ·have o0:B.kd=C.kd/\C.n=0:=by
    cases J:C.kd<;>simp only[J] at H hm ⊢ <;>first|exact⟨H.1,H.2.1⟩|cases hm
   obtain⟨m1,m2,m3,m4⟩:=N.maps.ok i B q2 (by rw[o0.1];exact hm);rw[dn q1];refine⟨o0.2,m2,l0 Y q1 (kY hm) m2, ?_⟩;rw[o0.1] at m4;refine MapOK.rn (show MapOK β (β i).blk w C.kd B.get from m4) rfl (λh=> ?_) (λh=> ?_) (λh=> ?_) ?_
   ·simp only[h] at H;exact λe=>sT lO (H.2.2 e)
   ·simp only[h] at H;exact H.2.2
   ·simp only[h] at H;exact H.2.2
   ·cases J:C.kd<;>first|rfl|(simp only[J] at H)
 ·intro i j C D Y hD i0 a0 he;rcases e0 i C Y with ⟨q,kd,_⟩|⟨i1,B,q1,q2,_,_,H⟩
  ·rw[kd] at i0;cases i0
  rcases e0 j D hD with ⟨r,kd,_⟩|⟨j1,B',r1,r2,_,_,r5⟩
  ·rw[kd] at a0;cases a0
  rw[dn q1,dn r1] at he;have K0:B.kd.map=true:=by cases J:C.kd<;>simp only[J] at H i0<;>first|(rw[H.1];rfl)|cases i0
  have L0:B'.kd.map=true:=by cases J:D.kd<;>simp only[J] at r5 a0<;>first|(rw[r5.1];rfl)|cases a0
  have:=N.maps.inj i1 j1 B B' q2 r2 K0 L0 he;subst this;exact w0 _ _ _ _ q1 r1 hD (by first|(rw[a0];rfl)|exact kY a0)
 ·intro j C e s Y J hs;rcases e0 j C Y with ⟨q,kd,_⟩|⟨i,B,q1,q2,q3,q4,H⟩
  ·rw[kd] at J;cases J
  ·cases v0:C.kd<;>simp only[v0] at H J<;>first|exact domain (H.2.2 e) hs|cases J
 ·intro j C Y J;rcases e0 j C Y with ⟨q,kd,_⟩|⟨i,B,q1,q2,q3,q4,H⟩
  ·rw[kd] at J;cases J
  ·cases v0:C.kd<;>simp only[v0] at H J<;>cases J
theorem GI (H:BC W0 bl β w) (Y:yw bl (rnF src [] nx) src Cs):SubB (fS w β src Cs) W0:=by
 refine⟨H.below,λb hb=> ?_⟩;obtain⟨j,C,i,h1,h2,h3,h4,rfl⟩:=Wc.1 hb;rcases(qU Y).2 j C h1 with ⟨q,_⟩|⟨i',B,q1,q2,_,_,J⟩
 ·rw[h2] at q;cases q
 rw[h2] at q1;simp only[za1] at q1;subst q1;cases N:C.kd with
 |own=>simp only[N] at J;exact H.own i B q2 J.1 h4
 |mpL=>simp only[N] at J;exact(H.maps.ok i B q2 (by rw[J.1];rfl)).2.2.1
 |mpI=>simp only[N] at J;exact(H.maps.ok i B q2 (by rw[J.1];rfl)).2.2.1
 |mpB=>simp only[N] at J;exact(H.maps.ok i B q2 (by rw[J.1];rfl)).2.2.1
 |gone|old|glb=>rw[N] at h3;cases h3
 |_=>simp only[N] at J
theorem GJ {D:Blk} {w':World} (h:BlkOK β1 i D w) (N:β2 i=β1 i) (hs:w.heap.size<=w'.heap.size) (hh:(β1 i).nil=false->0<(β1 i).cap*D.sz->w'.heap[(β1 i).blk]? =w.heap[(β1 i).blk]?)
 (hv: ∀e,e<D.n-> ∀(o:Nat) (s:SV),(D.get e)[o]? =some s->s.conc β2=s.conc β1):BlkOK β2 i D w':=by
 have key: ∀j,j<(β1 i).cap*D.sz->(β1 i).nil=false/\w'.heap[(β1 i).blk]? =w.heap[(β1 i).blk]? :=λj H=>⟨(h.lt_cap H).1,hh (h.lt_cap H).1 (by omega)⟩;refine⟨by rw[N];exact h.sz,λq=>by rw[N] at q ⊢;exact zam (h.lt q) hs,by rw[N];exact h.le,h.len,λj H=> ?_,λq j H=> ?_,λe he o s J=> ?_,by rw[N];exact h.nil,by rw[N];exact h.nn⟩
 ·rw[N] at H ⊢;have:=h.ex j H;simp only[World.cell?,(key j H).2] at this ⊢;exact this
 ·rw[N] at H ⊢;have:=h.fr q j H;simp only[World.frozen?,(key j H).2] at this ⊢;exact this
 ·have ho:o<D.sz:=by
   rw[<-h.len e he];rcases zah o (D.get e).length with Y|Y
   ·exact Y
   ·rw[zad Y] at J;cases J
  have H:e*D.sz+o<(β1 i).cap*D.sz:=jS (by have:=h.le;omega) ho;rw[hv e he o s J];have:=h.val e he o s J;simp only[addr,N] at this ⊢;simp only[World.cell?,(key _ H).2] at this ⊢;exact this
theorem c8 {k:MCtr} {ok:FuncId->Bool} {Γ:zdP} {Γm:FuncId->Option MCtr} {Δ:FuncId->Option DCtr} (H: ∀B:Base,SubB B W0->HypD P B ok Γ Γm Δ)
 (h: ∀(bl:zdL) (nx:Nat) (args:zdJ) (C:RC),k bl nx args=some C->C.pre=true->
   ∃(src:zdT) (Cs:zdU) (args0:zdJ) (ann:zdV) (n:Nat),yw bl (rnF src [] nx) src Cs/\Kr src Cs/\Far src Cs/\SV.rns (rnF src [] nx) args0=some args/\
    Ay P ok Γ Γm Δ ann n F args0 (λi=>Cs[i]?) Cs.length [] (KB C src Cs nx)):VU P W0 F k:=by
 intro bl β w nx args C Y w1 w2 v2 hk n2;obtain⟨src,Cs,args0,ann,n,j1,O0,T1,v1,o2⟩:=h bl nx args C hk n2;obtain⟨sl,y2⟩:=qU j1;have l1:=GI Y j1;have S1:=NI Y j1 O0 T1;have Y0: ∀{j:Nat} {o:Option Nat},src[j]? =some o-> ∃C,Cs[j]? =some C:=λ{j o} h=>by
  rcases zah j src.length with h'|h'
  ·exact⟨Cs[j]'(by omega),zaa (by omega)⟩
  ·rw[zad h'] at h;cases h
 have l2:NX (λi=>Cs[i]?) Cs.length:=λi hi=>zad hi
 obtain⟨_,hc⟩:=sU (H _ l1) ann n F args0 (λi=>Cs[i]?) Cs.length [] _ (ie β src Cs) w o2 S1 l2 (λs hs i hi=>by
  have:=rns_dom v1 i (SV.mem_idss.2 ⟨s,hs,hi⟩);simp only[rnF,D8] at this;split at this
  ·rename_i o ho;obtain⟨C,hC⟩:=Y0 ho;show Cs[i]? ≠none;rw[hC];simp
  ·exact absurd rfl this)
 rw[(rns_conc lO v1).1];refine Calls.mono hc ?_;rintro e w' ⟨β',r,bl',F2,H2,he,hK,a0,A2,_,p2,_,E2⟩;obtain⟨x,hx,i0,hr,X1,b2,u2⟩:=hK;obtain⟨nl,nat⟩:=wC b2;obtain⟨C1,n1⟩:=Av u2;simp only[za7] at C1;have I0: ∀{i:Nat},bl i≠none->i<nx:=λ{i} hi=>by
  rcases zah i nx with h|h
  ·exact h
  ·exact absurd (w2 i h) hi
 have x2:w.heap.size<=w'.heap.size:=a0.below.size
 let g0:zdI:=λi=>bif Nat.blt i nx then β i else match i0[i - nx]? with
  |some (some j)=>β' j
  |_=>⟨0,0,(match (C.nw x)[i - nx]? with
   |some N=>N.sz
   |none=>0),0,true⟩
 have j0: ∀{i:Nat},i<nx->g0 i=β i:=λ{i} hi=>by simp only[g0,aB,zdp hi,zdr]
 have u0: ∀{q j:Nat},i0[q]? =some (some j)->g0 (nx+q)=β' j:=λ{q j} hq=>by
  simp only[g0,aB,zds (by omega: ¬nx+q<nx),zdq,zbb,hq]
 have N1: ∀{q:Nat} {N:Blk},i0[q]? =some none->(C.nw x)[q]? =some N->g0 (nx+q)=⟨0,0,N.sz,0,true⟩:=λ{q N} hq hN=>by
  simp only[g0,aB,zds (by omega: ¬nx+q<nx),zdq,zbb,hq,hN]
 have R1: ∀{j:Nat} {o:Option Nat},src[j]? =some o->β' j=ie β src Cs j:=λ{j o} ho=>p2.same j (by
  obtain⟨C,hC⟩:=Y0 ho;show Cs[j]? ≠none
  rw[hC];simp)
 have E0: ∀{j i:Nat},src[j]? =some (some i)->β' j=β i:=λ{j i} h=>(R1 h).trans (dn h);have l0: ∀{j i:Nat},src[j]? =some (some i)-> ∃C B,Cs[j]? =some C/\bl i=some B/\wB (rnF src [] nx) C B:=λ{j i} h=>by
  obtain⟨C,hC⟩:=Y0 h;rcases y2 j C hC with ⟨q,_⟩|⟨i',B,q1,q2,q3⟩
  ·rw[h] at q;cases q
  ·rw[h] at q1;simp only[za1] at q1;subst q1;exact⟨C,B,hC,q2,q3⟩
 have R0:sS (rnG src i0 nx) β' g0:=by
  intro j;refine⟨λi hi=> ?_,λhi=> ?_⟩
  ·simp only[rnG] at hi;split at hi
   ·rename_i o ho;simp only[za1] at hi;subst hi;obtain⟨_,B,_,h2,_⟩:=l0 ho;rw[E0 ho];exact(j0 (I0 (by rw[h2];simp))).symm
   ·split at hi
    ·rename_i q hq;simp only[za1] at hi;subst hi;obtain⟨p,rfl,hp⟩:=gP hq;exact(u0 hp).symm
    ·cases hi
  ·simp only[rnG] at hi;split at hi
   ·rename_i o ho;simp only[za1] at hi;subst hi;rw[R1 ho];simp only[ie,ho,and_self]
   ·split at hi<;>cases hi
 have O1:sS (dt src i0 nx) g0 β':=by
  intro i;refine⟨λj hj=> ?_,λhj=> ?_⟩
  ·simp only[dt] at hj;cases n0:Nat.ble nx i with
   |true=>
    rw[n0,zdr] at hj;have:=zak n0;obtain⟨q,rfl⟩: ∃q,i=nx+q:=⟨i - nx,by omega⟩;rw[zbb] at hj;exact u0 hj
   |false=>
    rw[n0,zdq] at hj;split at hj
    ·rename_i k hk;simp only[za1] at hj;subst hj;obtain⟨m,e,hm⟩:=gP hk;rw[za7] at e;subst e;obtain⟨_,B,_,h2,_⟩:=l0 hm;rw[E0 hm];exact j0 (I0 (by rw[h2];simp))
    ·cases hj
  ·simp only[dt] at hj;cases n0:Nat.ble nx i with
   |true=>
    rw[n0,zdr] at hj;have:=zak n0;obtain⟨q,rfl⟩: ∃q,i=nx+q:=⟨i - nx,by omega⟩;rw[zbb] at hj;obtain⟨N,hN⟩: ∃N,(C.nw x)[q]? =some N:=by
     rcases zah q i0.length with h|h
     ·exact⟨(C.nw x)[q]'(by omega),zaa _⟩
     ·rw[zad h] at hj;cases hj
    rw[N1 hj hN];exact⟨rfl,rfl⟩
   |false=>
    rw[n0,zdq] at hj;split at hj<;>cases hj
 have U1: ∀{p:Nat×Blk},p∈C.ch x-> ∃j Cj B B',Cs[j]? =some Cj/\cN Cj.kd=true/\src[j]? =some (some p.1)/\bl p.1=some B/\wB (rnF src [] nx) Cj B/\bl' j=some B'/\kx (rnG src i0 nx) B' p.2:=λ{p} hp=>by
  obtain⟨j,Cj,B',a1,a2,a3,a4,a5,_⟩:=C1 p hp;obtain⟨D2,B,c1,c2,c3⟩:=l0 a3;rw[a1] at c1;simp only[za1] at c1;subst c1;exact⟨j,Cj,B,B',a1,a2,a3,c2,c3,a4,a5⟩
 have F: ∀{i:Nat} {D:Blk},fv (chB bl (C.ch x)) nx (C.nw x) i=some D->(i<nx/\i∉(C.ch x).map (·.1)/\bl i=some D)\/(i<nx/\ ∃j Cj B B',Cs[j]? =some Cj/\cN Cj.kd=true/\src[j]? =some (some i)/\bl i=some B/\wB (rnF src [] nx) Cj B/\bl' j=some B'/\kx (rnG src i0 nx) B' D)\/
  (∃q j B',i=nx+q/\(C.nw x)[q]? =some D/\i0[q]? =some (some j)/\Cs.length<=j/\bl' j=some B'/\D.kd≠ .gone/\(D.kd= .own->(Cs.all λC=> !C.kd.map)=true\/1<=D.n/\1<=D.sz)/\kx (rnG src i0 nx) B' D)\/g0 i=⟨0,0,D.sz,0,true⟩/\D.kd= .own/\D.n=0/\D.nn=false:=by
  intro i D hD;rcases zah i nx with h|h
  ·have:fv (chB bl (C.ch x)) nx (C.nw x) i=chB bl (C.ch x) i:=by simp only[fv,aB,zdp h,zdr]
   rw[this] at hD;by_cases hm:i∈(C.ch x).map (·.1)
   ·obtain⟨E,h1,h2⟩:=(Wp (bl:=bl)).1 hm;rw[h1] at hD;simp only[za1] at hD;subst hD;exact .inr (.inl ⟨h,U1 h2⟩)
   ·rw[Wp.2 hm] at hD;exact .inl ⟨h,hm,hD⟩
  ·obtain⟨q,rfl⟩: ∃q,i=nx+q:=⟨i - nx,by omega⟩;have:fv (chB bl (C.ch x)) nx (C.nw x) (nx+q)=(C.nw x)[q]? :=by simp only[fv,aB,zds (by omega: ¬nx+q<nx),zdq,zbb]
   rw[this] at hD;rcases nat q D hD with ⟨h1,h2⟩|⟨j,B,h1,h2,h3,h4,h5,h6⟩
   ·exact .inr (.inr (.inr ⟨N1 h1 hD,h2⟩))
   ·exact .inr (.inr (.inl ⟨q,j,B,rfl,hD,h1,h2,h3,h4,h5,h6⟩))
 have T0: ∀{i:Nat},bl i≠none->fv (chB bl (C.ch x)) nx (C.nw x) i≠none:=λ{i} hi=>by
  have:fv (chB bl (C.ch x)) nx (C.nw x) i=chB bl (C.ch x) i:=by simp only[fv,aB,zdp (I0 hi),zdr]
  rw[this];by_cases hm:i∈(C.ch x).map (·.1)
  ·obtain⟨E,h1,_⟩:=(Wp (bl:=bl)).1 hm;rw[h1];simp
  ·rw[Wp.2 hm];exact hi
 have C0: ∀s,Live bl s->Live (fv (chB bl (C.ch x)) nx (C.nw x)) s/\s.conc g0=s.conc β:=λs hs=>⟨λi hi=>T0 (hs i hi),SV.conc_congr s λi hi=>j0 (I0 (hs i hi))⟩;have hliveG: ∀{s r:SV},s.rn (rnG src i0 nx)=some r->Live (fv (chB bl (C.ch x)) nx (C.nw x)) r:=λ{s r} hs j hj=>by
  obtain⟨i,hi,H0⟩:=(ol R0 hs).2 j hj;simp only[rnG] at H0;split at H0
  ·rename_i o ho;simp only[za1] at H0;subst H0;obtain⟨_,B,_,h2,_⟩:=l0 ho;exact T0 (by rw[h2];simp)
  ·split at H0
   ·rename_i q hq;simp only[za1] at H0;subst H0;obtain⟨p,rfl,hp⟩:=gP hq;have L1:p<(C.nw x).length:=by
     rw[<-nl];rcases zah p i0.length with h|h
     ·exact h
     ·rw[zad h] at hp;cases hp
    have:fv (chB bl (C.ch x)) nx (C.nw x) (nx+p)=(C.nw x)[p]? :=by simp only[fv,aB,zds (by omega: ¬nx+p<nx),zdq,zbb]
    rw[this,zaa L1];simp
   ·cases H0
 have r1: ∀{j:Nat} {Cj B':Blk},Cs[j]? =some Cj->bl' j=some B'->B'.kd≠ .gone->B'.kd=Cj.kd:=λ{j Cj B'} h1 h2 h3=>by
  obtain⟨B2,k1,_,_,k4,_⟩:=p2.keep j Cj h1;rw[h2] at k1;simp only[za1] at k1;subst k1;exact k4.resolve_right h3
 have P0: ∀{Cj B:Blk},wB (rnF src [] nx) Cj B->cN Cj.kd=true->B.kd=Cj.kd:=λ{Cj B} h hm=>by
  obtain⟨_,_,h3⟩:=h;cases hk:Cj.kd<;>simp only[hk] at h3 hm<;>first|exact h3.1|cases hm
 have w0: ∀{g:zdX} {B' D:Blk},kx g B' D->D.kd≠ .gone->D.kd=B'.kd/\D.sz=B'.sz/\(D.nn=true->B'.nn=true)/\D.n<=B'.n:=λ{g B' D} h hg=>by
  rcases h with h|⟨h1,h2,h3,h4,_⟩
  ·exact absurd h hg
  ·exact⟨h1,h2,h3,h4⟩
 have A1: ∀{i:Nat} {D:Blk},i∉(C.ch x).map (·.1)->bl i=some D->D.kd≠ .gone->(β i).nil=false->(D.kd.map=true\/0<(β i).cap*D.sz)->w'.heap[(β i).blk]? =w.heap[(β i).blk]? :=by
  intro i D hi hD hg hn s2;refine a0.below.block _ ((Y.blk i D hD hg).lt hn) ?_;cases hS:(fS w β src Cs).S (β i).blk with
  |false=>rfl
  |true=>
   exfalso;obtain⟨j',C',i',h1,h2,h3,h4,h5⟩:=Wc.1 hS;have U0:i'∈(C.ch x).map (·.1):=n1 j' C' i' h1 h3 h2;have Y1:i'≠i:=λe=>hi (e▸U0);obtain⟨C2,B',c1,q2,q3⟩:=l0 h2;rw[h1] at c1;simp only[za1] at c1;subst c1;have B0:=P0 q3 h3;obtain⟨e1,_,q4⟩:=q3;cases o0:C'.kd with
   |own=>
    rw[o0] at B0;simp only[o0] at q4;have k1:=Y.own i' B' q2 B0 h4;cases Q0:D.kd with
    |own=>exact Y1 (Y.inj i' i B' D q2 hD B0 Q0 h4 hn h5)
    |old=>exact absurd (h5▸k1) (Y.old i D hD (by rw[Q0];rfl) hn).1.1
    |glb=>exact absurd (h5▸k1) (Y.old i D hD (by rw[Q0];rfl) hn).1.1
    |gone=>exact hg Q0
    |_=>
     have x0:=λj=>(Y.maps.ok i D hD (by rw[Q0];rfl)).2.2.2.cellN (by rw[Q0];rfl) j;rw[<-h5] at x0;exact qW (Y.blk i' B' q2 (by rw[B0];simp)) x0 (by omega) (by omega)
   |old|glb=>rw[o0] at h3;cases h3
   |gone=>rw[o0] at h3;cases h3
   |_=>
    rw[o0] at B0;have Z0:B'.kd.map=true:=by rw[B0];rfl
    rcases s2 with hm|b1
    ·exact Y1 (Y.maps.inj i' i B' D q2 hD Z0 hm h5)
    ·have x0:=λj=>(Y.maps.ok i' B' q2 Z0).2.2.2.cellN Z0 j;rw[h5] at x0;have:=(Y.blk i D hD hg).ex 0 b1;rw[x0] at this;cases this
 have content: ∀{g:zdX} {B' D:Blk},kx g B' D->D.kd= .own-> ∀e,e<D.n->SV.rns g (B'.get e)=some (D.get e):=λ{g B' D} h hk=>by
  rcases h with h|⟨_,_,_,_,h5⟩
  ·rw[h] at hk;cases hk
  ·simp only[hk] at h5;exact h5
 have K0: ∀{g:zdX} {B' D:Blk},kx g B' D->D.kd= .mpL-> ∀e,SV.rns g (B'.get e)=some (D.get e):=λ{g B' D} h hk=>by
  rcases h with h|⟨_,_,_,_,h5⟩
  ·rw[h] at hk;cases hk
  ·simp only[hk] at h5;exact h5
 have E1: ∀{g:zdX} {B' D:Blk},kx g B' D->D.kd= .mpI-> ∀e,iG (B'.get e)=iG (D.get e):=λ{g B' D} h hk=>by
  rcases h with h|⟨_,_,_,_,h5⟩
  ·rw[h] at hk;cases hk
  ·simp only[hk] at h5;exact h5
 have D1: ∀{g:zdX} {B' D:Blk},kx g B' D->D.kd= .mpB-> ∀e,su (B'.get e)=su (D.get e):=λ{g B' D} h hk=>by
  rcases h with h|⟨_,_,_,_,h5⟩
  ·rw[h] at hk;cases hk
  ·simp only[hk] at h5;exact h5
 have z0: ∀{g:zdX} {B' D:Blk},kx g B' D-> ¬D.kd.fix=true:=λ{g B' D} h hk=>by
  rcases h with h|⟨_,_,_,_,h5⟩
  ·rw[h] at hk;cases hk
  ·cases hd:D.kd<;>rw[hd] at hk h5<;>first|exact h5|cases hk
 have N0: ∀{g:zdX} {B' D:Blk},kx g B' D->(D.kd.it||D.kd.loop)=false:=λ{g B' D} h=>by
  rcases h with h|⟨_,_,_,_,h5⟩
  ·rw[h];rfl
  ·cases hk:D.kd<;>first|rfl|(simp only[hk] at h5)
 have x1: ∀{g:zdX} {B' D:Blk},kx g B' D->D.kd.lst=true->D.kd= .mpL:=λ{g B' D} h hl=>by
  rcases h with h|⟨_,_,_,_,h5⟩
  ·rw[h] at hl;cases hl
  ·cases hk:D.kd<;>rw[hk] at hl<;>first|rfl|(exact absurd hl (by decide))|(simp only[hk] at h5)
 have u1: ∀{i j:Nat} {B' D:Blk},bl' j=some B'->g0 i=β' j->D.kd≠ .gone->kx (rnG src i0 nx) B' D->BlkOK g0 i D w':=by
  intro i j B' D h1 h2 hg h3;obtain⟨d1,d2,d3,d4⟩:=w0 h3 hg;have p:=a0.blk j B' h1 (by rw[<-d1];exact hg);refine wD p h2.symm d2 d4 (λq=>by rw[<-d1];exact q) (λq=> .inl (d3 q)) λe he=> ?_;cases hk:D.kd with
  |own=>exact Cn R0 (content h3 hk e he)
  |gone=>exact absurd hk hg
  |old|glb=>exact absurd (by rw[hk];rfl) (z0 h3)
  |_=>
   have:=(a0.maps.ok j B' h1 (by rw[<-d1,hk];rfl)).1;omega
 have M0: ∀{b:Nat},(fS w β src Cs).mine b->W0.mine b:=λ{b} h=>by
  rcases h with h|h
  ·exact .inl (zac Y.below.size h)
  ·exact l1.2 b h
 have mapKept: ∀{j i:Nat} {Cj:Blk},Cs[j]? =some Cj->src[j]? =some (some i)->Cj.kd.map=true-> ∃B',bl' j=some B'/\B'.kd.map=true:=by
  intro j i Cj h1 h2 h3;have hm:=n1 j Cj i h1 (kY h3) h2;obtain⟨p,hp,rfl⟩:=zaz.1 hm;obtain⟨j',C',B',a1,a2,a3,a4,a5,a6⟩:=C1 p hp;have:=O0 _ _ _ _ a3 h2 h1 (kY h3);subst this;rw[h1] at a1;simp only[za1] at a1;subst a1;have hg:p.2.kd≠ .gone:=a6.resolve_left λe=>by rw[e] at h3;cases h3
  have d1:=(w0 a5 hg).1;exact⟨B',a4,by rw[r1 h1 a4 (by rw[<-d1];exact hg)];exact h3⟩
 refine⟨x,hx,g0, ?_, ?_,λi hi=>j0 (I0 hi), ?_⟩
 ·cases hp:C.pan x with
  |none=>
   rw[hp] at hr;obtain⟨s,rfl,hs⟩:=hr;simp only[RC.res,hp];obtain rfl:e=_:=he;show _=_;rw[(ol O1 hs).1]
  |some v=>
   rw[hp] at hr;subst hr;simp only[RC.res,hp];exact he
 ·refine⟨l1.pres a0.below, ?_, ?_, ?_, ?_, ?_, ?_, ?_, ?_, ?_⟩
  ·intro i D hD hg;rcases F hD with ⟨h1,h2,h3⟩|⟨h1,j,Cj,B,B',a1,a2,a3,a4,a5,a6,a7⟩|⟨q,j,B',rfl,a1,a2,a3,a4,a5,a6,a7⟩|⟨z1,z2,z3,z4⟩
   ·exact GJ (Y.blk i D h3 hg) (j0 h1) x2 (λhn b1=>A1 h2 h3 hg hn (.inr b1)) λe he o s hs=>(C0 s (Y.live i D e o s h3 hg he hs)).2
   ·exact u1 a6 ((j0 h1).trans (E0 a3).symm) hg a7
   ·exact u1 a4 (u0 a2) hg a7
   ·refine⟨by rw[z1],λq=>(by rw[z1] at q;cases q),by rw[z3];exact zaA _,λe' L0=>by rw[z3] at L0;omega,λj' V0=>by rw[z1] at V0;simp at V0,λ_ j' V0=>by rw[z1] at V0;simp at V0,λe' L0=>by rw[z3] at L0;omega,λ_=>by rw[z1],λq=>(by rw[z4] at q;cases q)⟩
  ·intro i D hD J hn;rcases F hD with ⟨h1,h2,h3⟩|⟨h1,j,Cj,B,B',a1,a2,a3,a4,a5,a6,a7⟩|⟨q,j,B',rfl,a1,a2,a3,a4,a5,a6,a7⟩|⟨z1,z2,z3,z4⟩
   ·rw[j0 h1] at hn ⊢;exact Y.own i D h3 J hn
   ·have d1:=(w0 a7 (by rw[J];simp)).1;have d2:=r1 a1 a6 (by rw[<-d1,J];simp);rw[j0 h1] at hn ⊢;exact Y.own i B a4 (by rw[P0 a5 a2,<-d2,<-d1];exact J) hn
   ·have d1:=(w0 a7 a5).1;rw[u0 a2] at hn ⊢;exact M0 (a0.own j B' a4 (by rw[<-d1];exact J) hn)
   ·rw[z1] at hn;cases hn
  ·intro i D hD J hn;rcases F hD with ⟨h1,h2,h3⟩|⟨h1,j,Cj,B,B',a1,a2,a3,a4,a5,a6,a7⟩|⟨q,j,B',rfl,a1,a2,a3,a4,a5,a6,a7⟩|⟨z1,z2,z3,z4⟩
   ·rw[j0 h1] at hn ⊢;exact Y.old i D h3 J hn
   ·exact absurd J (z0 a7)
   ·exact absurd J (z0 a7)
   ·rw[z2] at J;cases J
  ·
   have G: ∀{i:Nat} {D:Blk},fv (chB bl (C.ch x)) nx (C.nw x) i=some D->D.kd= .own->(g0 i).nil=false->(i<nx/\ ∃B,bl i=some B/\B.kd= .own/\(i∈(C.ch x).map (·.1)-> ∃j B',src[j]? =some (some i)/\bl' j=some B'/\B'.kd= .own))\/ ∃q j B',i=nx+q/\i0[q]? =some (some j)/\Cs.length<=j/\bl' j=some B'/\B'.kd= .own/\((Cs.all λC=> !C.kd.map)=true\/1<=B'.n/\1<=B'.sz):=by
    intro i D hD J i2;rcases F hD with ⟨h1,h2,h3⟩|⟨h1,j,Cj,B,B',a1,a2,a3,a4,a5,a6,a7⟩|⟨q,j,B',rfl,a1,a2,a3,a4,a5,a6,a7⟩|⟨z1,z2,z3,z4⟩
    ·exact .inl ⟨h1,D,h3,J,λhm=>absurd hm h2⟩
    ·have d1:=(w0 a7 (by rw[J];simp)).1;have d2:=r1 a1 a6 (by rw[<-d1,J];simp);exact .inl ⟨h1,B,a4,by rw[P0 a5 a2,<-d2,<-d1];exact J,λ_=>⟨j,B',a3,a6,by rw[<-d1];exact J⟩⟩
    ·obtain⟨d1,d2,_,d4⟩:=w0 a7 a5;exact .inr ⟨q,j,B',rfl,a2,a3,a4,by rw[<-d1];exact J,(a6 J).imp id λ⟨t1,t2⟩=>⟨by omega,by omega⟩⟩
    ·rw[z1] at i2;cases i2
   have v0: ∀{i q j:Nat} {B B':Blk},i<nx->bl i=some B->B.kd= .own->(i∈(C.ch x).map (·.1)-> ∃j B',src[j]? =some (some i)/\bl' j=some B'/\B'.kd= .own)->i0[q]? =some (some j)->Cs.length<=j->bl' j=some B'->B'.kd= .own->((Cs.all λC=> !C.kd.map)=true\/1<=B'.n/\1<=B'.sz)->(g0 i).nil=false->(g0 (nx+q)).nil=false->(g0 i).blk≠(g0 (nx+q)).blk:=by
    intro i q j B B' h1 h2 h3 h4 h5 h6 h7 h8 h9 q0 y0 e0;rw[j0 h1] at q0 e0;rw[u0 h5] at y0 e0;rcases a0.own j B' h7 h8 y0 with hm|hm
    ·have Z0:w.heap.size<=(β' j).blk:=hm;have:=(Y.blk i B h2 (by rw[h3];simp)).lt q0;omega
    ·obtain⟨j',C',i',g1,g2,g3,g4,g5⟩:=Wc.1 hm;obtain⟨C2,B2,c1,q2,q3⟩:=l0 g2;rw[g1] at c1;simp only[za1] at c1;subst c1;have B0:=P0 q3 g3;have U0:i'∈(C.ch x).map (·.1):=n1 j' C' i' g1 g3 g2;cases o0:C'.kd with
     |own=>
      have:=Y.inj i i' B B2 h2 q2 h3 (by rw[B0,o0]) q0 g4 (e0.trans g5.symm);subst this;obtain⟨j2,B3,e1,e2,e3⟩:=h4 U0;have:=O0 _ _ _ _ e1 g2 g1 g3;subst this;have:=a0.inj j2 j B3 B' e2 h7 e3 h8 (by rw[E0 e1];exact q0) y0 (by rw[E0 e1];exact e0);have:j2<Cs.length:=by
       rcases zah j2 Cs.length with h|h
       ·exact h
       ·rw[zad h] at g1;cases g1
      omega
     |old|glb=>rw[o0] at g3;cases g3
     |gone=>rw[o0] at g3;cases g3
     |_=>
      obtain⟨B3,t1,t2⟩:=mapKept g1 g2 (by rw[o0];rfl);have x0:=λj=>(a0.maps.ok j' B3 t1 t2).2.2.2.cellN t2 j;rw[E0 g2,g5] at x0;rcases h9 with h9|⟨h9,r2⟩
      ·have:=zaf.1 h9 C' (zal g1);rw[o0] at this;exact absurd this (by simp[BK.map])
      ·exact qW (a0.blk j B' h7 (by rw[h8];simp)) x0 h9 r2
   intro i i' D D' hD F1 H1 K1 q0 y0 e0;rcases G hD H1 q0 with ⟨h1,B,h2,h3,h4⟩|⟨q,j,B',rfl,a1,a2,a3,a4,a5⟩<;>rcases G F1 K1 y0 with ⟨g1,B2,g2,g3,g4⟩|⟨q',j',B1,rfl,c1,c2,c3,c4,c5⟩
   ·rw[j0 h1] at q0 e0;rw[j0 g1] at y0 e0;exact Y.inj i i' B B2 h2 g2 h3 g3 q0 y0 e0
   ·exact absurd e0 (v0 h1 h2 h3 h4 c1 c2 c3 c4 c5 q0 y0)
   ·exact absurd e0.symm (v0 g1 g2 g3 g4 a1 a2 a3 a4 a5 y0 q0)
   ·rw[u0 a1] at q0 e0;rw[u0 c1] at y0 e0;have:=a0.inj j j' B' B1 a3 c3 a4 c4 q0 y0 e0;subst this;rw[yx X1 a1 c1]
  ·intro i D e' o s hD hg L0 M1;rcases F hD with ⟨h1,h2,h3⟩|⟨h1,j,Cj,B,B',a1,a2,a3,a4,a5,a6,a7⟩|⟨q,j,B',rfl,a1,a2,a3,a4,a5,a6,a7⟩|⟨z1,z2,z3,z4⟩
   ·exact(C0 s (Y.live i D e' o s h3 hg L0 M1)).1
   ·cases J:D.kd with
    |own=>obtain⟨s0,_,h0⟩:=(mX (content a7 J e' L0)).2.2 o s M1;exact hliveG h0
    |gone=>exact absurd J hg
    |old|glb=>exact absurd (by rw[J];rfl) (z0 a7)
    |_=>
     obtain⟨d1,_,_,d4⟩:=w0 a7 hg;have:=(a0.maps.ok j B' a6 (by rw[<-d1,J];rfl)).1;omega
   ·cases J:D.kd with
    |own=>obtain⟨s0,_,h0⟩:=(mX (content a7 J e' L0)).2.2 o s M1;exact hliveG h0
    |gone=>exact absurd J hg
    |old|glb=>exact absurd (by rw[J];rfl) (z0 a7)
    |_=>
     obtain⟨d1,_,_,d4⟩:=w0 a7 hg;have:=(a0.maps.ok j B' a4 (by rw[<-d1,J];rfl)).1;omega
   ·omega
  ·intro i D hD hm;have hg:D.kd≠ .gone:=λe=>by rw[e] at hm;cases hm
   have y1: ∀{j:Nat} {B':Blk},bl' j=some B'->g0 i=β' j->kx (rnG src i0 nx) B' D->D.n=0/\(g0 i).nil=false/\(fS w β src Cs).mine (g0 i).blk/\MapOK g0 (g0 i).blk w' D.kd D.get:=by
    intro j B' e1 e2 e3;obtain⟨d1,_,_,d4⟩:=w0 e3 hg;obtain⟨m1,m2,m3,m4⟩:=a0.maps.ok j B' e1 (by rw[<-d1];exact hm);rw[e2];refine⟨by omega,m2,m3, ?_⟩;rw[<-d1] at m4;exact MapOK.rn (show MapOK β' (β' j).blk w' D.kd B'.get from m4) rfl (λhk e=>Cn R0 (K0 e3 hk e)) (λhk e=>(E1 e3 hk e).symm) (λhk e=>(D1 e3 hk e).symm) (N0 e3)
   rcases F hD with ⟨h1,h2,h3⟩|⟨h1,j,Cj,B,B',a1,a2,a3,a4,a5,a6,a7⟩|⟨q,j,B',rfl,a1,a2,a3,a4,a5,a6,a7⟩|⟨z1,z2,z3,z4⟩
   ·obtain⟨m1,m2,m3,m4⟩:=Y.maps.ok i D h3 hm;rw[j0 h1];exact⟨m1,m2,m3,m4.to (A1 h2 h3 hg m2 (.inl hm)) (GetEq.refl _ _) (λhi=>by rw[w1 i D h3] at hi;cases hi) λhk e s hs=>(C0 s (Y.maps.live i D e s h3 hk hs)).2⟩
   ·obtain⟨m1,m2,m3,m4⟩:=y1 a6 ((j0 h1).trans (E0 a3).symm) a7;exact⟨m1,m2,M0 m3,m4⟩
   ·obtain⟨m1,m2,m3,m4⟩:=y1 a4 (u0 a2) a7;exact⟨m1,m2,M0 m3,m4⟩
   ·rw[z2] at hm;cases hm
  ·have G: ∀{i:Nat} {D:Blk},fv (chB bl (C.ch x)) nx (C.nw x) i=some D->D.kd.map=true->(i<nx/\ ∃B,bl i=some B/\B.kd.map=true/\(i∈(C.ch x).map (·.1)-> ∃j B',src[j]? =some (some i)/\bl' j=some B'/\B'.kd.map=true))\/ ∃q j B',i=nx+q/\i0[q]? =some (some j)/\Cs.length<=j/\bl' j=some B'/\B'.kd.map=true:=by
    intro i D hD hm;have hg:D.kd≠ .gone:=λe=>by rw[e] at hm;cases hm
    rcases F hD with ⟨h1,h2,h3⟩|⟨h1,j,Cj,B,B',a1,a2,a3,a4,a5,a6,a7⟩|⟨q,j,B',rfl,a1,a2,a3,a4,a5,a6,a7⟩|⟨z1,z2,z3,z4⟩
    ·exact .inl ⟨h1,D,h3,hm,λhm=>absurd hm h2⟩
    ·have d1:=(w0 a7 hg).1;have d2:=r1 a1 a6 (by rw[<-d1];exact hg);exact .inl ⟨h1,B,a4,by rw[P0 a5 a2,<-d2,<-d1];exact hm,λ_=>⟨j,B',a3,a6,by rw[<-d1];exact hm⟩⟩
    ·exact .inr ⟨q,j,B',rfl,a2,a3,a4,by rw[<-(w0 a7 hg).1];exact hm⟩
    ·rw[z2] at hm;cases hm
   have v0: ∀{i q j:Nat} {B B':Blk},i<nx->bl i=some B->B.kd.map=true->(i∈(C.ch x).map (·.1)-> ∃j B',src[j]? =some (some i)/\bl' j=some B'/\B'.kd.map=true)->i0[q]? =some (some j)->Cs.length<=j->bl' j=some B'->B'.kd.map=true->(g0 i).blk≠(g0 (nx+q)).blk:=by
    intro i q j B B' h1 h2 h3 h4 h5 h6 h7 h8 e0;rw[j0 h1,u0 h5] at e0;have W1:=Y.maps.ok i B h2 h3;rcases(a0.maps.ok j B' h7 h8).2.2.1 with hm|hm
    ·have Z0:w.heap.size<=(β' j).blk:=hm;have:=(Y.blk i B h2 (by intro e;rw[e] at h3;cases h3)).lt W1.2.1;omega
    ·obtain⟨j',C',i',g1,g2,g3,g4,g5⟩:=Wc.1 hm;obtain⟨C2,B2,c1,q2,q3⟩:=l0 g2;rw[g1] at c1;simp only[za1] at c1;subst c1;have B0:=P0 q3 g3;have U0:i'∈(C.ch x).map (·.1):=n1 j' C' i' g1 g3 g2;obtain⟨e1,_,q4⟩:=q3;cases o0:C'.kd with
     |own=>
      simp only[o0] at q4;have x0:=λj=>W1.2.2.2.cellN h3 j;rw[e0,<-g5] at x0;exact qW (Y.blk i' B2 q2 (by rw[q4.1];simp)) x0 (by omega) (by omega)
     |old|glb=>rw[o0] at g3;cases g3
     |gone=>rw[o0] at g3;cases g3
     |_=>
      have:=Y.maps.inj i i' B B2 h2 q2 h3 (by rw[B0,o0];rfl) (e0.trans g5.symm);subst this;obtain⟨j2,B3,e1,e2,e3⟩:=h4 U0;have:=O0 _ _ _ _ e1 g2 g1 g3;subst this;have:=a0.maps.inj j2 j B3 B' e2 h7 e3 h8 (by rw[E0 e1];exact e0);have:j2<Cs.length:=by
       rcases zah j2 Cs.length with h|h
       ·exact h
       ·rw[zad h] at g1;cases g1
      omega
   intro i i' D D' hD F1 H1 K1 e0;rcases G hD H1 with ⟨h1,B,h2,h3,h4⟩|⟨q,j,B',rfl,a1,a2,a3,a4⟩<;>rcases G F1 K1 with ⟨g1,B2,g2,g3,g4⟩|⟨q',j',B1,rfl,c1,c2,c3,c4⟩
   ·rw[j0 h1,j0 g1] at e0;exact Y.maps.inj i i' B B2 h2 g2 h3 g3 e0
   ·exact absurd e0 (v0 h1 h2 h3 h4 c1 c2 c3 c4)
   ·exact absurd e0.symm (v0 g1 g2 g3 g4 a1 a2 a3 a4)
   ·rw[u0 a1,u0 c1] at e0;have:=a0.maps.inj j j' B' B1 a3 c3 a4 c4 e0;subst this;rw[yx X1 a1 c1]
  ·intro i D e s hD J hs;rcases F hD with ⟨h1,h2,h3⟩|⟨h1,j,Cj,B,B',a1,a2,a3,a4,a5,a6,a7⟩|⟨q,j,B',rfl,a1,a2,a3,a4,a5,a6,a7⟩|⟨z1,z2,z3,z4⟩
   ·exact(C0 s (Y.maps.live i D e s h3 J hs)).1
   ·obtain⟨o,ho⟩:=zby hs;obtain⟨s0,_,h0⟩:=(mX (K0 a7 (x1 a7 J) e)).2.2 o s ho;exact hliveG h0
   ·obtain⟨o,ho⟩:=zby hs;obtain⟨s0,_,h0⟩:=(mX (K0 a7 (x1 a7 J) e)).2.2 o s ho;exact hliveG h0
   ·rw[z2] at J;cases J
  ·intro i D hD J;rcases F hD with ⟨h1,h2,h3⟩|⟨h1,j,Cj,B,B',a1,a2,a3,a4,a5,a6,a7⟩|⟨q,j,B',rfl,a1,a2,a3,a4,a5,a6,a7⟩|⟨z1,z2,z3,z4⟩
   ·rw[w1 i D h3] at J;cases J
   ·have:=N0 a7;rw[J] at this;cases this
   ·have:=N0 a7;rw[J] at this;cases this
   ·rw[z2] at J;cases J
 ·cases hp:C.pan x with
  |none=>
   rw[hp] at hr;obtain⟨s,rfl,hs⟩:=hr;show sg _ (C.res x);simp only[RC.res,hp];intro i hi;have hd:=GH hs i hi;simp only[dt] at hd;cases n0:Nat.ble nx i with
   |true=>
    rw[n0,zdr] at hd;have:=zak n0;obtain⟨q,rfl⟩: ∃q,i=nx+q:=⟨i - nx,by omega⟩;rw[zbb] at hd;have L1:q<(C.nw x).length:=by
     rw[<-nl];rcases zah q i0.length with h|h
     ·exact h
     ·rw[zad h] at hd;exact absurd rfl hd
    have:fv (chB bl (C.ch x)) nx (C.nw x) (nx+q)=(C.nw x)[q]? :=by simp only[fv,aB,zds (by omega: ¬nx+q<nx),zdq,zbb]
    rw[this,zaa L1];simp
   |false=>
    rw[n0,zdq] at hd;split at hd
    ·rename_i k hk;obtain⟨m,e,hm⟩:=gP hk;obtain⟨_,B,_,h2,_⟩:=l0 hm;exact T0 (by rw[h2];simp)
    ·exact absurd rfl hd
  |some v=>
   show sg _ (C.res x);simp only[RC.res,hp];trivial
end
structure El (α:Type) where
 sz:Nat
 sv:α->List SV
 of:List SV->α
 d:α
 rt: ∀x,of (sv x)=x
 ids: ∀x,SV.idss (sv x)= []
 len: ∀x,(sv x).length=sz
 one:1<=sz
def mb {α:Type} (d:α):List α->Nat->α
 | [],_=>d
 |x::_,0=>x
 |_::r,i+1=>mb d r i
def tab {α:Type} (f:Nat->α):Nat->List α
 |0=> []
 |n+1=>tab f n++ [f n]
section
variable {α:Type} (E:El α)
def El.nth (l:List α) (e:Nat):α:=mb E.d l e
def El.get (l:List α) (e:Nat):zdJ:=E.sv (E.nth l e)
def El.old (l:List α):Blk:={n:=l.length,sz:=E.sz,get:=E.get l,kd:= .old,nn:=false}
def El.own (l:List α):Blk:={n:=l.length,sz:=E.sz,get:=E.get l,kd:= .own,nn:=false}
def El.list (n:Nat) (g:zdM):List α:=tab (λe=>E.of (g e)) n
open Classical in
def El.good (p:α->Bool) (n:Nat) (g:zdM):Bool:=decide (∀e,e<n->g e=E.sv (E.of (g e))/\p (E.of (g e))=true)
end
section
variable {α:Type} {E:El α}
theorem fJ (f:Nat->α): ∀n,(tab f n).length=n
 |0=>rfl
 |n+1=>by simp[tab,fJ f n]
theorem qX (f:Nat->α): ∀{n e:Nat},e<n->(tab f n)[e]? =some (f e)
 |n+1,e,h=>by
  rw[tab];by_cases H:e<n
  ·rw[zbB (by rw[fJ];exact H)];exact qX f H
  ·obtain rfl:e=n:=by omega
   rw[zbX (by rw[fJ];exact za0 _),fJ];simp
theorem bR {d:α}: ∀{l:List α} {e:Nat} {x:α},l[e]? =some x->mb d l e=x
 | [],e,x,h=>by simp at h
 |y::r,0,x,h=>by simpa [mb] using h
 |y::r,e+1,x,h=>bR (l:=r) (by simpa using h)
variable {e:Nat}
theorem bw {d:α} {l:List α} (h:e<l.length):mb d l e∈l:=by
 rw[bR (zaa h)];exact zas h
theorem Co {d:α} {l:List α} (h:e<l.length):l[e]? =some (mb d l e):=by
 rw[bR (zaa h),zaa h]
variable {n:Nat} {g:zdM}
theorem El.list_length:(E.list n g).length=n:=fJ _ _
theorem El.nth_list (h:e<n):E.nth (E.list n g) e=E.of (g e):=bR (qX _ h)
theorem vx {f f':Nat->α}: ∀{n:Nat},(∀e,e<n->f e=f' e)->tab f n=tab f' n
 |0,_=>rfl
 |n+1,h=>by rw[tab,tab,vx λe H=>h e (by omega),h n (by omega)]
theorem GK {d:α} {l:List α}:tab (mb d l) l.length=l:=by
 apply List.ext_getElem?;intro e;by_cases h:e<l.length
 ·rw[qX _ h,Co h]
 ·rw[zad (by rw[fJ];omega),zad (by omega)]
theorem El.list_get {l:List α}:E.list l.length (E.get l)=l:=by
 unfold El.list El.get;show tab (λe=>E.of (E.sv (E.nth l e))) l.length=l;rw[vx (f:=λe=>E.of (E.sv (E.nth l e))) (f':=mb E.d l) (λe _=>E.rt (E.nth l e)),GK]
theorem El.good_iff {p:α->Bool} :E.good p n g=true↔ ∀e,e<n->g e=E.sv (E.of (g e))/\p (E.of (g e))=true:=by simp[El.good]
theorem El.good_get {p:α->Bool} {l:List α} (h: ∀x∈l,p x=true):E.good p l.length (E.get l)=true:=E.good_iff.2 λe H=>by
 unfold El.get;rw[E.rt];exact⟨rfl,h _ (bw H)⟩
theorem El.good_list {p:α->Bool} (h:E.good p n g=true): ∀x∈E.list n g,p x=true:=λx N=>by
 obtain⟨e,H⟩:=zby N;have J:e<n:=by
  rcases zah e n with h|h
  ·exact h
  ·rw[zad (by rw[El.list_length];exact h)] at H;cases H
 rw[El.list,qX _ J] at H;simp only[za1] at H;subst H;exact(E.good_iff.1 h e J).2
mutual
theorem Cp {f:Nat->Option (Option Nat)}: ∀{s:SV},s.ids= []->s.rn f=some s
 | .val v,_=>rfl
 | .ptr _ _ _,h=>by simp[SV.ids] at h
 | .mp _,h=>by simp[SV.ids] at h
 | .slc _ _ _,h=>by simp[SV.ids] at h
 | .agg cs,h=>by simp only[SV.rn];rw[rns_free (by simpa [SV.ids] using h)]
 | .tup cs,h=>by simp only[SV.rn];rw[rns_free (by simpa [SV.ids] using h)]
 | .fn g a c,h=>by
   simp only[SV.ids,zd5] at h;simp only[SV.rn];rw[rns_free h.1,rns_free h.2]
theorem rns_free {f:Nat->Option (Option Nat)}: ∀{l:List SV},SV.idss l= []->SV.rns f l=some l
 | [],_=>rfl
 |x::xs,h=>by
  simp only[SV.idss,zd5] at h;simp only[SV.rns];rw[Cp h.1,rns_free h.2]
end
def vW (bl:zdL) (sz:Nat):SV->Option (Bool×Option Nat×Nat×(zdM))
 | .val (.slice none 0 0)=>some (true,none,0,λ_=> [])
 | .slc i 0 n=>match bl i with
   |some B=>some (Nat.ble n B.n&&Nat.beq B.sz sz&&aI3 B.kd,some i,n,B.get)
   |none=>none
 |_=>none
def j5 (bl:zdL) (f:zdX) (C:Blk):Option Nat->Prop
 |none=>C.kd= .old/\C.n=0/\C.nn=false
 |some i=>match bl i with
  |some B=>wB f C B
  |none=>False
variable {bl:zdL} {f:zdX} {o:Option Nat}
theorem aw {os:zdT} {C:Blk} {Cs:zdU} (h:j5 bl f C o) (k:yw bl f os Cs):yw bl f (o::os) (C::Cs):=⟨by cases o<;>exact h,k⟩
theorem cq {s:SV} {n:Nat} {g:zdM} {p:α->Bool} (h:vW bl E.sz s=some (true,o,n,g)) (hg:E.good p n g=true):
 j5 bl f (E.old (E.list n g)) o/\ ∀j,f j=some o->(SV.slc j 0 (E.list n g).length).rn f=some s:=by
 unfold vW at h;split at h
 ·simp only[za1,zag] at h;obtain⟨_,rfl,rfl,rfl⟩:=h;exact⟨⟨rfl,rfl,rfl⟩,λj H=>by simp only[SV.rn,H];rfl⟩
 ·rename_i i m;cases hB:bl i with
  |some B=>
   rw[hB] at h;simp only[za1,zag,za2] at h;obtain⟨⟨⟨h1,h2⟩,h3⟩,rfl,rfl,rfl⟩:=h;refine⟨?_,λj H=>by simp only[SV.rn,H];rw[El.list_length]⟩;simp only[j5,hB];refine⟨(zab h2).symm,λh=>(by cases h), ?_⟩;show B.kd≠ .gone/\B.kd.map=false/\(E.list m B.get).length<=B.n/\ ∀e,e<(E.list m B.get).length->SV.rns f (E.get (E.list m B.get) e)=some (B.get e);rw[El.list_length];refine⟨λe=>(by rw[e] at h3;cases h3),(by cases N:B.kd<;>rw[N] at h3<;>first|rfl|cases h3),zak h1,λe J=> ?_⟩;unfold El.get;rw[El.nth_list J,rns_free (E.ids _),<-(E.good_iff.1 hg e J).1]
  |none=>rw[hB] at h;cases h
 ·cases h
theorem gC {g:zdX} {B:Blk} {l:List α} (N:B.kd= .own) (hs:B.sz=E.sz) (Y:l.length<=B.n) (H: ∀e,e<l.length->B.get e=E.get l e):kx g B (E.own l):=
 .inr ⟨N.symm,hs.symm,λh=>(by cases h),Y,λe J=>(by rw[H e J];exact rns_free (E.ids _))⟩
end
end Go.Sy
namespace Go.Proofs.YtdjfpjmijhjmpaaGreatDoor
open Go.Proofs.Tryz
open Go Go.RowKit Go.Sy
theorem NJ (H:Value) (w:World):(Instr.typeAssert (.iface 25 H) 20 25 true).run prog w= .ok (.tuple #[H, .bool true]) w:=by kernel_rfl
theorem Py (w:World):(Instr.typeAssert .nilIface 20 25 true).run prog w= .ok (.tuple #[.int .i64 0, .bool false]) w:=by kernel_rfl
theorem sV (p:Addr) (x:Value) (pv:Value) (older:List PanicEntry) (w:World) (hc:w.cell? p=some x) (hz:w.frozen? p=false):
 CallsD prog 79 #[.pointer (some p)] (.panicking ({v:= .iface 25 pv,recovered:=false}::older)) w λe u' w'=>
  e= .returned (.tuple #[])/\u'= .panicking ({v:= .iface 25 pv,recovered:=true}::older)/\w'=w.setCell p (.int .i64 90):=by
 refine callsD_of_wpS func79 rfl λc₀ cs hu=> ?_;apply wpS_seq;apply wpS_region;simp[wpOpsS,go_sem,recoverD,hu,ntmps79,Exit.thenS];apply wpS_seq;apply wpS_region;simp[wpOpsS,go_sem,Exit.thenS,NJ];apply wpS_seq;apply wpS_region;simp[wpOpsS,go_sem,Exit.thenS];refine wpS_cond (t:=true) (by simp[Act.eval]) ?_;simp only[if_true];apply wpS_region;simp[wpOpsS,go_sem,hc,hz,bodyPostS,results,results79]
theorem Eb (p:Addr) (w:World):
 CallsD prog 79 #[.pointer (some p)] .returning w λe u' w'=>e= .returned (.tuple #[])/\u'= .returning/\w'=w:=by
 refine callsD_of_wpS func79 rfl λc₀ cs hu=> ?_;apply wpS_seq;apply wpS_region;simp[wpOpsS,go_sem,recoverD,hu,ntmps79,Exit.thenS];apply wpS_seq;apply wpS_region;simp[wpOpsS,go_sem,Exit.thenS,Py];apply wpS_seq;apply wpS_region;simp[wpOpsS,go_sem,Exit.thenS];refine wpS_cond (t:=false) (by simp[Act.eval]) ?_;simp only[zbn,if_false];apply wpS_seq;apply wpS_region;simp[wpOpsS,go_sem,Exit.thenS];refine wpS_cond (t:=false) (by simp[Act.eval]) ?_;simp only[zbn,if_false];refine wpS_of_wp (wp_skip ?_);cases c₀
 simp_all [bodyPostS,results,results79]
def GM:DCtr:=λm bl args=>match args with
 | [.ptr id 0 0]=>match bl id with
   |some B=>match m with
    |none=>some (true,none, [])
    |some (.iface t _)=>some (Nat.beq t 25&&(Nat.beq B.n 1&&(Nat.beq B.sz 1&&(match B.kd with
     | .own=>true
     |_=>false))),none, [(id,B.put 0 0 [.val (.int .i64 90)])])
    |_=>none
   |none=>none
 |_=>none
theorem GN (B:Base):Wz prog B 79 GM:=by
 intro m bl β w args m' ch J e0 H a0;refine⟨call79, ?_⟩;unfold GM at H;split at H
 ·rename_i id;split at H
  ·rename_i C hC;split at H
   ·simp only[za1,zag,true_and] at H;obtain⟨rfl,rfl⟩:=H;refine(Eb (addr β id 0 0) w).mono ?_;rintro e u' w' ⟨rfl,rfl,rfl⟩;exact⟨⟨_,rfl⟩,rfl,J⟩
   ·rename_i t pv;simp only[za1,zag,za2] at H;obtain⟨⟨h1,h2,h3,h4⟩,rfl,rfl⟩:=H;have h1:=zab h1;have h2:=zab h2;have h3:=zab h3;have h4:C.kd= .own:=by revert h4;cases C.kd<;>simp
    subst h1;have q:=J.blk id C hC (by rw[h4];simp);have g0:=q.not_nil (e:=0) (by omega);have N:0<(β id).cap*C.sz:=Nat.mul_pos (by have:=q.le;omega) (by omega);obtain⟨x,hx⟩:=Option.isSome_iff_exists.1 (q.ex 0 N);have hz:=q.fr h4 0 N;have Y:addr β id 0 0=⟨(β id).blk,(β id).off+0,none⟩:=by simp[addr]
    refine(sV (addr β id 0 0) x pv [] w (by rw[Y];exact hx) (by rw[Y];exact hz)).mono ?_;rintro e u' w' ⟨rfl,rfl,rfl⟩;refine⟨⟨_,rfl⟩,rfl, ?_⟩;have:=J.write hC h4 (e:=0) (o:=0) (cs:= [.val (.int .i64 90)]) (by omega) (by simp;omega) (by simp[Live,SV.ids]);rw[chB,chB];have ew:w.setCells (β id).blk ((β id).off+0*(β id).sz+0) (SV.concs β [.val (.int .i64 90)])=w.setCell (addr β id 0 0) (.int .i64 90):=by
     simp[addr,SV.concs,SV.conc,World.setCells]
    rw[ew] at this;exact this
   ·cases H
  ·cases H
 ·cases H
end Go.Proofs.YtdjfpjmijhjmpaaGreatDoor
namespace Go.Proofs.YtdjfpjmijhjmpaaGreatDoor
open Go Go.RowKit Go.Sy Yk
def qH:List (FuncId×Ctr):= [
 (19,k2 cR cR (cP cR cI) (λa b=>uzR a&&uzR b) fZ),
 (65,k2 cR cR (cP cR cI) (λa b=>uzR a&&uzR b) iF),
 (67,k2 cR cR (cP cR cI) (λa b=>uzR a&&uzR b) ale),
 (69,k2 cR cR (cP cR cI) (λa b=>uzR a&&uzR b) cA),
 (252,k2 cR cR cI (λa b=>uzR a&&uzR b) b9),
 (57,k1 cR cB uzR rV),
 (121,k1 cR cS uzR gk),
 (118,k1 cS (cP cR cI) (λs=>decide (s.size<=100000)) DR),
 (141,k2 cR cR (cP cR cI) (λa b=>uzR a&&uzR b) fZ),
 (138,k2 cR cR (cP cR cI) (λa b=>uzR a&&uzR b) iF),
 (140,k2 cR cR (cP cR cI) (λa b=>uzR a&&uzR b) ale),
 (204,k2 cR cR (cP cR cI) (λa b=>uzR a&&uzR b) cA),
 (222,k2 cR cR cI (λa b=>uzR a&&uzR b) b9),
 (211,k1 cR cB uzR rV),
 (112,k1 cR cS uzR gk),
 (113,k1 cS (cP cR cI) (λs=>decide (s.size<=100000)) DR),
 (30,k2 cI cI (cP cR cI) (λa b=>cl a&&cl b) rMk)]
def NK:List FuncId:= [315,314,357,384,356,312,316,243,313,403,404,411,402,400,401,410,387,388,389,405,399,385,386
 ]
abbrev ig (g:List (FuncId×Ctr)) (ann:zdV) (n:Nat) (f:FuncId) (args:zdJ) (K:zdR):Prop:=wq Tryz.prog (iR NK) (gw g) (gx []) ann n f args (λ_=>none) 0 [] (okK λr _ _ _=>K r)
end Go.Proofs.YtdjfpjmijhjmpaaGreatDoor
namespace Go.RowKit
theorem Below.drewN {B:Nat} {a w:World} (h:Below B a w) (n:Nat):Below B a (w.drewN n):=⟨h.os,h.tape,h.output,h.size,h.block⟩
end Go.RowKit
namespace Yk
open Go Go.RowKit
theorem yy {a b c d:Value} (h:a=b) (k:c=d):Ending.returned (.tuple #[a,c])= .returned (.tuple #[b,d]):=by rw[h,k]
theorem Cq {p q:Prop} [Decidable p] [Decidable q] (h:p↔q):Value.bool (decide p)= .bool (decide q):=by rw[decide_eq_decide.2 h]
theorem ret_bool {a b:Bool} (h:a=b):Ending.returned (.bool a)= .returned (.bool b):=by rw[h]
theorem ze {a b:Int} (h:a=b):Ending.returned (.int .i64 a)= .returned (.int .i64 b):=by rw[h]
def OwnL {α:Type} (enc:α->Value) (e:TypeId) (w:World) (B:Nat) (v:Value) (l:List α):Prop:=
 w.ownsRow B e 1 v l.length (l.map enc)
def Rd {α:Type} (enc:α->Value) (w:World) (v:Value) (l:List α):Prop:=
 (v= .slice none 0 0/\l= [])\/
 ∃b off cap,v= .slice (some ⟨b,off,none⟩) l.length cap/\b<w.heap.size/\l.length<=cap/\cap<=9223372036854775807/\
  ∀i x,l[i]? =some x->w.cell? ⟨b,off+i,none⟩=some (enc x)
section
variable {α:Type} {enc:α->Value} {e:TypeId} {w:World} {B:Nat} {v:Value} {l:List α}
theorem OwnL.nil (w:World) (B:Nat):OwnL enc e w B (.slice none 0 0) []:=World.ownsRow_nil w B e 1
theorem OwnL.alloc (h:OwnL enc e w B v l) (o:Obj):OwnL enc e (w.alloc o) B v l:=World.ownsRow.alloc h o
theorem OwnL.drew (h:OwnL enc e w B v l):OwnL enc e w.drew B v l:=h
theorem OwnL.rd (h:OwnL enc e w B v l):Rd enc w v l:=by
 obtain⟨h1,h2⟩:=h;rcases h2 with ⟨rfl,h3⟩|⟨g,cap,H,rfl,N,hg,h4,h5,h6,h7⟩
 ·exact .inl ⟨rfl,zau h3⟩
 ·refine .inr ⟨g,0,cap,rfl,(zaq.1 hg).1,h4,by simpa [maxLen] using h5,λi x J=> ?_⟩;rw[za7,cell_of_row w g i H e (0,0) hg];have:(l.map enc)[i]? =some (enc x):=by rw[zaL,J];rfl
  rw[<-h7,zd9] at this;split at this
  ·simpa using this
  ·cases this
theorem Rd.open' (h:Rd enc w v l): ∃a cap,v= .slice a l.length cap/\l.length<=cap/\cap<=9223372036854775807/\
 ∀(i:Nat) (hi:i<l.length),∃b off,a=some ⟨b,off,none⟩/\b<w.heap.size/\w.cell? ⟨b,off+i,none⟩=some (enc l[i]):=by
 rcases h with ⟨rfl,rfl⟩|⟨b,off,cap,rfl,h1,h2,h3,h4⟩
 ·exact⟨none,0,rfl,za0 _,by decide,λi hi=>absurd hi (by simp)⟩
 ·exact⟨_,cap,rfl,h2,h3,λi hi=>⟨b,off,rfl,h1,h4 i _ (zaa hi)⟩⟩
variable {a:Option Addr} {n cap:Nat}
theorem Rd.addr (h:Rd enc w (.slice a n cap) l):(a=none->cap=0)/\(∀x,a=some x-> ∃b off,x=⟨b,off,none⟩/\b<w.heap.size):=by
 rcases h with ⟨h1,_⟩|⟨b,off,c,h1,h2,_⟩
 ·injection h1 with J e2 N;subst J;subst N;exact⟨λ_=>rfl,λx H=>by cases H⟩
 ·injection h1 with J e2 N;subst J;exact⟨λH=>(by cases H),λx H=>by cases H;exact⟨b,off,rfl,h2⟩⟩
theorem Rd.take_of {k:Nat} (hk:k<=l.length) (hc:k<=cap) (N:cap<=9223372036854775807)
 (H: ∀(i:Nat) (hi:i<l.length),∃b off,a=some ⟨b,off,none⟩/\b<w.heap.size/\w.cell? ⟨b,off+i,none⟩=some (enc l[i])) (hn:a=none->cap=0) (hs: ∀x,a=some x-> ∃b off,x=⟨b,off,none⟩/\b<w.heap.size):
 Rd enc w (.slice a k cap) (l.take k):=by
 cases a with
 |none=>
  obtain rfl:=hn rfl;obtain rfl:k=0:=by omega
  exact .inl ⟨rfl,by simp⟩
 |some x=>
  obtain⟨b,off,rfl,hb⟩:=hs x rfl;refine .inr ⟨b,off,cap,by rw[zaE,zbP hk],hb,by rw[zaE];omega,N,λi y J=> ?_⟩;have hi:i<l.length:=by
   have:=(zaV.1 J).1;rw[zaE] at this;omega
  obtain⟨b',Y,h1,h2,h3⟩:=H i hi;injection h1 with h1;injection h1 with e1 e2;subst e1;subst e2
  rw[h3];rw[zd9] at J;split at J
  ·rw[zaa hi] at J;cases J;rfl
  ·cases J
variable {w':World}
theorem Rd.below (h:Rd enc w v l) (H:Below w.heap.size w w'):Rd enc w' v l:=by
 rcases h with h|⟨b,off,cap,rfl,h1,h2,h3,h4⟩
 ·exact .inl h
 ·exact .inr ⟨b,off,cap,rfl,zam h1 H.size,h2,h3,λi x J=>(H.cell (p:=⟨b,off+i,none⟩) h1).trans (h4 i x J)⟩
theorem OwnL.belowTo (h:OwnL enc e w B v l) (J:Below w.heap.size w w'):OwnL enc e w' B v l:=by
 obtain⟨h1,h2⟩:=h;refine⟨h1, ?_⟩;rcases h2 with h2|⟨g,cap,H,rfl,hB,hg,h4⟩
 ·exact .inl h2
 ·exact .inr ⟨g,cap,H,rfl,hB,(J.block g (zaq.1 hg).1).trans hg,h4⟩
theorem aP (w:World) (u:Value) (t:TypeId):(w.alloc (.cells #[u] t)).cell? ⟨w.heap.size,0,none⟩=some u:=by
 rw[cell_of_row _ w.heap.size 0 #[u] t (0,0) (heap_alloc_new w _)];rfl
def From (B:Nat) (v:Value):Prop:= ∀k,v.ownBlock=some k->B<=k
theorem From.mono {B B':Nat} {v:Value} (h:From B v) (hB:B'<=B):From B' v:=λk H=>zac hB (h k H)
theorem From.len {B:Nat} {c n' c':Nat} (h:From B (.slice a n c)):From B (.slice a n' c'):=by
 cases a with
 |none=>intro k H;cases H
 |some x=>intro k H;exact h k H
theorem From.nil (B:Nat):From B (.slice none 0 0):=λk H=>by cases H
theorem OwnL.from (h:OwnL enc e w B v l):From B v:=λk H=>(World.ownsRow.lt h k H).1
theorem Rd.setCell {a:Addr} {C:Nat} (h:Rd enc w v l) (H:From C v) (N:a.block<C) (u:Value):Rd enc (w.setCell a u) v l:=by
 rcases h with h|⟨b,off,cap,rfl,h1,h2,h3,h4⟩
 ·exact .inl h
 ·have Y:=H b rfl;refine .inr ⟨b,off,cap,rfl,by simpa [World.setCell] using h1,h2,h3,λi x J=> ?_⟩;have:=World.cell?_of_block (w:=w) (w':=w.setCell a u) (a:=⟨b,off+i,none⟩) (Below.heap_setCell _ _ _ _ (by simp;omega));exact this.trans (h4 i x J)
theorem kZ {P:Program} {ops:zdO} {rest:List Oper} {o:Oper} {a:Act} {Q:zdN} (g0:o.guard=none) (s x:Operand) (t:TypeId)
 (ho:o.op= .call {callee:= .builtin .append,args:= #[s,x],argTypes:= #[t,t]})
 (z:Value) (bytes:Nat) (ht:P.underlying t=some (.slice e)) (N:(P.info? e).map (λi=>(i.zero,i.size,i.bytes))=some (some z,1,bytes)) (j0:z.cells.size=1)
 (h1: ∀x,(enc x).oneCell'=true) (hs:a.eval s=v) (H:OwnL enc e w B v l) (ad:Addr) (c:Nat) (u:Value) (hx:a.eval x= .slice (some ad) 1 c) (hc:w.cell? ad=some u) (y:α) (J:u=enc y)
 (Y:l.length+1<=1099511627776) (e0:bytes<=128) (hB:B<=w.heap.size)
 (h: ∀v' w',OwnL enc e w' B v' (l++ [y])->Below B w w'->wpList P ops Q rest (a.put o.dst v') w'):wpList P ops Q (o::rest) a w:=by
 subst J;obtain⟨i,hi,hz,i0,a0⟩:=info_parts N;refine wpList_append_own w g0 s x t ho B e i z 1 bytes ht hi hz i0 a0 j0 (by decide) v l.length (l.map enc) hs H ad 1 c [enc y] hx rfl ?_ ?_ ?_ ?_ hB ?_
 ·intro j u J;cases j with
  |zero=>simp at J;subst J;simpa [Addr.add] using hc
  |succ j=>simp at J
 ·intro u J;simp at J;subst J;exact h1 _
 ·simp only[maxLen];omega
 ·have:=zb4 Y e0;omega
 ·intro v' w' k1 k2 _;refine h v' w' (by simpa [OwnL] using k1) ?_;exact(zdC B w).grown k2 hB (λk hk=>(World.ownsRow.lt H k hk).1)
end
abbrev am (x:Nat):Value:= .int .i64 (x:Int)
theorem int_eq {k:IntKind} {a b:Int} (h:a=b):Value.int k a= .int k b:=by rw[h]
theorem du (x:Nat):(am x).oneCell'=true:=rfl
section
variable {α:Type} {enc:α->Value} {e:TypeId} {w:World} {B g n cap:Nat} {l:List α}
theorem OwnL.row (h:OwnL enc e w B (.slice (some ⟨g,0,none⟩) n cap) l):n=l.length/\B<=g/\g<w.heap.size/\
 ∃H:Array Value,w.heap[g]? =some (.cells H e (0,0))/\l.length<=cap/\cap<=maxLen/\H.size=cap/\H.toList.take l.length=l.map enc:=by
 obtain⟨h1,h2⟩:=h;rcases h2 with ⟨h3,_⟩|⟨g',N,H,hv,hb,hg,h4,h5,h6,h7⟩
 ·cases h3
 ·injection hv with J e2 Y
  injection J with J;injection J with J
  subst J;subst e2;subst Y;exact⟨rfl,hb,(zaq.1 hg).1,H,hg,h4,h5,by simpa using h6,by simpa using h7⟩
theorem OwnL.cell (h:OwnL enc e w B (.slice (some ⟨g,0,none⟩) n cap) l) (j:Nat) (J:j<l.length):w.cell? ⟨g,j,none⟩=some (enc l[j]):=by
 obtain⟨_,_,_,H,hg,_,_,_,h7⟩:=h.row;rw[cell_of_row w g j H e (0,0) hg];have:(l.map enc)[j]? =some (enc l[j]):=by rw[zaL,zaa J];rfl
 rw[<-h7,zd9,if_pos J] at this;simpa using this
theorem OwnL.free (h:OwnL enc e w B (.slice (some ⟨g,0,none⟩) n cap) l) (j:Nat):w.frozen? ⟨g,j,none⟩=false:=by
 obtain⟨_,_,_,H,hg,_⟩:=h.row;exact frozen_of_row w g j H e hg
theorem OwnL.set (h:OwnL enc e w B (.slice (some ⟨g,0,none⟩) n cap) l) (j:Nat) (Y:j<l.length) (x:α) {u:Value} (N:u=enc x):
 OwnL enc e (w.setCell ⟨g,j,none⟩ u) B (.slice (some ⟨g,0,none⟩) n cap) (l.set j x):=by
 subst N;obtain⟨rfl,J,_,H,hg,h4,h5,h6,h7⟩:=h.row;refine⟨by simp, .inr ⟨g,cap,H.setIfInBounds j (enc x),by rw[zci],J, ?_,by simpa using h4,h5,by simpa using h6, ?_⟩⟩
 ·simp[World.setCell,zdn,hg]
 ·rw[zci,zbY,List.map_set,<-h7];rw[Array.toList_setIfInBounds,List.take_set]
theorem OwnL.setOther {v:Value} (h:OwnL enc e w B v l) {a:Addr} (H:a.block<B) (u:Value):OwnL enc e (w.setCell a u) B v l:=
 ownsRow_setCell_below h H u
theorem iT (z:α) (n:Nat):(List.replicate n z).map enc=List.replicate n (enc z):=by simp
theorem aca {P:Program} {ops:zdO} {rest:List Oper} {o:Oper} {a:Act} {Q:zdN} (Y:o.guard=none) (lo c:Operand) (t:TypeId) (hop:o.op=Op.makeSlice t lo c)
 (z:α) (bytes:Nat) (ht:P.underlying t=some (.slice e)) (H:(P.info? e).map (λi=>(i.zero,i.size,i.bytes))=some (some (enc z),1,bytes)) (e0:(enc z).cells= #[enc z])
 (kl kc:IntKind) (L C:Int) (n:Nat) (hl:a.eval lo= .int kl L) (hc:a.eval c= .int kc C) (hL:L=(n:Int)) (hC:C=(n:Int)) (hn:n<=1099511627776) (N:bytes<=128) (hB:B<=w.heap.size)
 (h: ∀w',OwnL enc e w' B (.slice (some ⟨w.heap.size,0,none⟩) n n) (List.replicate n z)->Below w.heap.size w w'->wpList P ops Q rest (a.put o.dst (.slice (some ⟨w.heap.size,0,none⟩) n n)) w'):
 wpList P ops Q (o::rest) a w:=by
 obtain⟨i,hi,hz,a0,J⟩:=info_parts H;refine wpList_make_full w Y lo c t hop B e i (enc z) 1 ht hi hz a0 kl kc L C n hl hc hL hC (by rw[J];have:=zb4 N hn;omega) (by simp only[maxLen];omega) hB ?_;intro w' k1 k2;refine h w' ?_ ((zdC _ w).grown k2 (za0 _) (λk hk=>by cases hk));have e1:(madeCells (enc z).cells (n*1)).toList=(List.replicate n z).map enc:=by
  rw[e0,iT];apply zbt
  ·simp[madeCells]
  ·intro j h1 h2;simp[madeCells,zch]
 rw[e1] at k1;unfold OwnL;rw[zcw];exact k1
end
section
variable {α:Type} {enc:α->Value} {e:TypeId} {w:World} {B g n cap:Nat} {l:List α}
theorem OwnL.lit1 (w:World) (x:α) {u:Value} (H:u=enc x):OwnL enc e (w.alloc (.cells #[u] e)) w.heap.size (.slice (some ⟨w.heap.size,0,none⟩) 1 1) [x]:=by
 subst H;exact⟨rfl, .inr ⟨w.heap.size,1, #[enc x],rfl,za0 _,heap_alloc_new w _,za0 _,by simp[maxLen],rfl,rfl⟩⟩
theorem wF {P:Program} {ops:zdO} {rest:List Oper} {o:Oper} {a:Act} {Q:zdN} {v v2:Value} {m:List α} (Y:o.guard=none) (s x:Operand) (t:TypeId)
 (ho:o.op= .call {callee:= .builtin .append,args:= #[s,x],argTypes:= #[t,t]})
 (z:Value) (bytes:Nat) (ht:P.underlying t=some (.slice e)) (a0:(P.info? e).map (λi=>(i.zero,i.size,i.bytes))=some (some z,1,bytes)) (l0:z.cells.size=1)
 (h1: ∀x,(enc x).oneCell'=true) (hs:a.eval s=v) (H:OwnL enc e w B v l) (hx:a.eval x=v2) (hr:Rd enc w v2 m)
 (e0:l.length+m.length<=1099511627776) (i0:bytes<=128) (hB:B<=w.heap.size)
 (h: ∀v' w',OwnL enc e w' B v' (l++m)->Below B w w'->wpList P ops Q rest (a.put o.dst v') w'):wpList P ops Q (o::rest) a w:=by
 obtain⟨i,hi,hz,j0,g0⟩:=info_parts a0;rcases hr with ⟨rfl,rfl⟩|⟨b,off,c,rfl,h3,h4,h5,h6⟩
 ·refine wpList_append_own_none Y s x t ho B e i 1 ht hi v l.length (l.map enc) hs H hx ?_;rw[zbf] at h;exact h v w H (zdC _ _)
 ·refine wpList_append_own w Y s x t ho B e i z 1 bytes ht hi hz j0 g0 l0 (by decide) v l.length (l.map enc) hs H ⟨b,off,none⟩ m.length c (m.map enc) hx (by simp) ?_ ?_ (by simp only[maxLen];omega) ?_ hB ?_
  ·intro j u J;rw[zaL] at J;cases hm:m[j]? with
   |none=>rw[hm] at J;cases J
   |some y=>
    rw[hm] at J;cases J;have N:(⟨b,off,none⟩:Addr).add j=⟨b,off+j,none⟩:=by unfold Addr.add;split<;>simp_all
    rw[N];exact h6 j y hm
  ·intro u J;obtain⟨y,_,rfl⟩:=zaz.1 J;exact h1 _
  ·have:=zb4 e0 i0;omega
  ·intro v' w' k1 k2 _;refine h v' w' (by simpa [OwnL] using k1) ?_;exact(zdC B w).grown k2 hB (λk hk=>(World.ownsRow.lt H k hk).1)
end
abbrev uw (c:UInt8):Value:= .int .u8 (c.toNat:Int)
theorem GO (c:UInt8):(uw c).oneCell'=true:=rfl
theorem Az (l:List UInt8): ∀(s:zdG),(l.map (λc=>(c.toNat:Int))).foldl (λr n=>r.push (UInt8.ofNat n.toNat)) s=⟨(s.data.toList++l).toArray⟩:=by
 induction l with
 |nil=>intro s;apply gT;simp
 |cons c t H=>
  intro s;rw[zaK,zbe,H];apply gT;simp[ByteArray.push]
theorem AA {P:Program} (w:World) (src dst e:TypeId) (hs:P.underlying src=some (.slice e)) (he:P.underlying e=some (.int .u8)) (Y:P.underlying dst=some .string)
 {v:Value} {l:List UInt8} (h:Rd uw w v l):(Go.convert src dst v).run P w= .ok (.string ⟨l.toArray⟩) w:=by
 rcases h with ⟨rfl,rfl⟩|⟨b,off,cap,rfl,h1,h2,h3,h4⟩
 ·rw[run_convert_bytes_string w src dst e none 0 0 hs he Y];rfl
 ·rw[run_convert_bytes_string w src dst e _ _ _ hs he Y,run_bytesToString w ⟨b,off,none⟩ l.length cap (l.map (λc=>(c.toNat:Int))) ?_,Az]
  ·rfl
  ·have:=run_loadCells_list (P:=P) (w:=w) ⟨b,off,none⟩ (l.map uw) (by
    intro j u J;rw[zaL] at J;cases N:l[j]? with
    |none=>rw[N] at J;cases J
    |some y=>
     rw[N] at J;cases J;have H:(⟨b,off,none⟩:Addr).add j=⟨b,off+j,none⟩:=by unfold Addr.add;split<;>simp_all
     rw[H];exact h4 j y N)
   rw[zaB] at this;rw[this,zct];rfl
def Blk (w:World) (b:Nat) (cs:Array Value) (t:TypeId):Prop:=w.heap[b]? =some (.cells cs t (0,0))
section
variable {w w':World} {b:Nat} {cs:Array Value} {t:TypeId}
theorem Blk.new (w:World) (cs:Array Value) (t:TypeId):Blk (w.alloc (.cells cs t)) w.heap.size cs t:=heap_alloc_new w _
theorem Blk.newAt (w:World) (cs:Array Value) (t:TypeId) {b:Nat} (h:b=w.heap.size):Blk (w.alloc (.cells cs t)) b cs t:=by subst h;exact heap_alloc_new w _
theorem Blk.lt (h:Blk w b cs t):b<w.heap.size:=(zaq.1 h).1
theorem Blk.cell (h:Blk w b cs t) {i:Nat} {v:Value} (H:cs[i]? =some v):w.cell? ⟨b,i,none⟩=some v:=by
 rw[cell_of_row w b i cs t (0,0) h];exact H
theorem Blk.free (h:Blk w b cs t) (i:Nat):w.frozen? ⟨b,i,none⟩=false:=frozen_of_row w b i cs t h
theorem Blk.alloc (h:Blk w b cs t) (o:Obj):Blk (w.alloc o) b cs t:=(Below.heap_alloc w o b h.lt).trans h
theorem Blk.below {B:Nat} (h:Blk w b cs t) (H:Below B w w') (hB:b<B):Blk w' b cs t:=(H.block b hB).trans h
theorem Blk.drewN (h:Blk w b cs t) (n:Nat):Blk (w.drewN n) b cs t:=h
theorem Blk.set (h:Blk w b cs t) (i:Nat) (u:Value):Blk (w.setCell ⟨b,i,none⟩ u) b (cs.setIfInBounds i u) t:=by
 unfold Blk at*
 simp[World.setCell,zdn,h]
theorem Blk.kept {row:Option Nat} (h:Blk w b cs t) (hg:w.grownBy w' row) (H: ∀r,row=some r-> ∃o:Obj,w.heap[r]? =some o/\o.isCells=false):Blk w' b cs t:=by
 refine(hg.block b h.lt ?_).trans h;intro e;obtain⟨o,h1,h2⟩:=H b e.symm;rw[h] at h1;cases h1;cases h2
theorem Blk.setOther (h:Blk w b cs t) {a:Addr} (H:a.block≠b) (u:Value):Blk (w.setCell a u) b cs t:=
 (Below.heap_setCell w a u b (λe=>H e.symm)).trans h
end
section
variable {α:Type} {enc:α->Value} {e:TypeId} {w:World} {B:Nat} {v:Value} {l:List α} {x:α}
theorem OwnL.some_of (h:OwnL enc e w B v (l++ [x])): ∃g cap,v= .slice (some ⟨g,0,none⟩) (l.length+1) cap/\B<=g/\g<w.heap.size:=by
 obtain⟨h1,h2⟩:=h;rcases h2 with ⟨_,h3⟩|⟨g,cap,H,rfl,J,hg,_⟩
 ·simp at h3
 ·exact⟨g,cap,by rw[za3];rfl,J,(zaq.1 hg).1⟩
theorem OwnL.cons_of (h:OwnL enc e w B v (x::l)): ∃g cap,v= .slice (some ⟨g,0,none⟩) (l.length+1) cap/\B<=g/\g<w.heap.size:=by
 obtain⟨h1,h2⟩:=h;rcases h2 with ⟨_,h3⟩|⟨g,cap,H,rfl,J,hg,_⟩
 ·simp at h3
 ·exact⟨g,cap,rfl,J,(zaq.1 hg).1⟩
end
section
variable {α:Type} {enc:α->Value} {e:TypeId} {w:World} {B:Nat} {v:Value} {l:List α} {F:Fence} {nF:Nat}
variable {w':World}
theorem AB (h:OwnL enc e w B v l) (hg:w.grownBy w' v.ownBlock):KeepsOthers w w':=by
 refine⟨hg.size,λk o H ho=>(hg.block k (zaq.1 H).1 ?_).trans H⟩;intro N;obtain⟨_,h2⟩:=h;rcases h2 with ⟨rfl,_⟩|⟨g,cap,Y,rfl,_,J,_⟩
 ·cases N
 ·cases N;rw[J] at H;cases H;cases ho
variable {P:Program} {ops:zdO} {rest:List Oper} {o:Oper} {a:Act} {Q:zdN}
theorem lc {v2:Value} {m:List α} (Y:o.guard=none) (s x:Operand) (t:TypeId)
 (ho:o.op= .call {callee:= .builtin .append,args:= #[s,x],argTypes:= #[t,t]})
 (z:Value) (bytes:Nat) (ht:P.underlying t=some (.slice e)) (a0:(P.info? e).map (λi=>(i.zero,i.size,i.bytes))=some (some z,1,bytes)) (o0:z.cells.size=1)
 (h1: ∀x,(enc x).oneCell'=true) (hs:a.eval s=v) (H:OwnL enc e w B v l) (hx:a.eval x=v2) (hr:Rd enc w v2 m)
 (e0:l.length+m.length<=1099511627776) (j0:bytes<=128) (hB:B<=w.heap.size)
 (h: ∀v' w',OwnL enc e w' B v' (l++m)->Below B w w'->KeepsOthers w w'->wpListIn F nF P ops Q rest (a.put o.dst v') w'):wpListIn F nF P ops Q (o::rest) a w:=by
 obtain⟨i,hi,hz,n0,i0⟩:=info_parts a0;rcases hr with ⟨rfl,rfl⟩|⟨b,off,c,rfl,h3,h4,h5,h6⟩
 ·refine wpListIn_plain Y λK hK=> ?_;have g0:=run_append_owned_none (P:=P) (w:=w) B t o.type e i 1 ht hi v l.length (l.map enc) H;unfold Oper.wpIn;rw[zbf] at h;refine⟨?_, ?_⟩
  ·simp[Oper.about,ho,resolve,Target.leads,zdF]
  ·rw[Oper.semAt_plain F _ _ (by rw[ho];intro c l0;cases l0)];simp[execOp,ho,resolve,invoke,builtin,hs,hx,g0,Result.andThen];exact hK _ _ (h v w H (zdC _ _) (KeepsOthers.refl _))
 ·refine wpListIn_append_own w Y s x t ho B e i z 1 bytes ht hi hz n0 i0 o0 (by decide) v l.length (l.map enc) hs H ⟨b,off,none⟩ m.length c (m.map enc) hx (by simp) ?_ ?_ (by simp only[maxLen];omega) ?_ hB ?_
  ·intro j u J;rw[zaL] at J;cases hm:m[j]? with
   |none=>rw[hm] at J;cases J
   |some y=>
    rw[hm] at J;cases J;have N:(⟨b,off,none⟩:Addr).add j=⟨b,off+j,none⟩:=by unfold Addr.add;split<;>simp_all
    rw[N];exact h6 j y hm
  ·intro u J;obtain⟨y,_,rfl⟩:=zaz.1 J;exact h1 _
  ·have:=zb4 e0 j0;omega
  ·intro v' w' k1 k2 _;exact h v' w' (by simpa [OwnL] using k1) ((zdC B w).grown k2 hB (λk hk=>(World.ownsRow.lt H k hk).1)) (AB H k2)
theorem sW (g0:o.guard=none) (lo c:Operand) (t:TypeId) (hop:o.op=Op.makeSlice t lo c)
 (z:α) (bytes:Nat) (ht:P.underlying t=some (.slice e)) (H:(P.info? e).map (λi=>(i.zero,i.size,i.bytes))=some (some (enc z),1,bytes)) (j0:(enc z).cells= #[enc z])
 (kl kc:IntKind) (L C:Int) (n:Nat) (hl:a.eval lo= .int kl L) (hc:a.eval c= .int kc C) (hL:L=(n:Int)) (hC:C=(n:Int)) (hn:n<=1099511627776) (a0:bytes<=128) (hB:B<=w.heap.size)
 (h: ∀w',OwnL enc e w' B (.slice (some ⟨w.heap.size,0,none⟩) n n) (List.replicate n z)->Below w.heap.size w w'->wpListIn F nF P ops Q rest (a.put o.dst (.slice (some ⟨w.heap.size,0,none⟩) n n)) w'):
 wpListIn F nF P ops Q (o::rest) a w:=by
 obtain⟨i,hi,hz,i0,Y⟩:=info_parts H;refine wpListIn_plain g0 λK N=> ?_;obtain⟨w',J,k1,k2⟩:=run_make_full (P:=P) w B t e i (enc z) 1 ht hi hz i0 kl kc n (by rw[Y];have:=zb4 a0 hn;omega) (by simp only[maxLen];omega) hB;subst hL;subst hC;have e1:(madeCells (enc z).cells (n*1)).toList=(List.replicate n z).map enc:=by
  rw[j0,iT];apply zbt
  ·simp[madeCells]
  ·intro j h1 h2;simp[madeCells,zch]
 rw[e1] at k1;unfold Oper.wpIn;refine⟨?_, ?_⟩
 ·simp[Oper.about,hop,resolve,Target.leads,zdF]
 ·rw[Oper.semAt_plain F _ _ (by rw[hop];intro c e0;cases e0)];simp[execOp,hop,hl,hc,J,Result.andThen];refine N _ _ (h w' ?_ ((zdC _ w).grown k2 (za0 _) (λk hk=>by cases hk)));unfold OwnL;rw[zcw];exact k1
theorem OwnL.kept {row:Option Nat} (h:OwnL enc e w B v l) (hg:w.grownBy w' row) (Y: ∀r,row=some r-> ∃o:Obj,w.heap[r]? =some o/\o.isCells=false):OwnL enc e w' B v l:=by
 obtain⟨h1,h2⟩:=h;refine⟨h1, ?_⟩;rcases h2 with h2|⟨g,cap,H,rfl,N,J,h4⟩
 ·exact .inl h2
 ·exact .inr ⟨g,cap,H,rfl,N,Blk.kept J hg Y,h4⟩
end
end Yk
namespace Yk
open Go
def qY (ops:zdO):Bool:=ops.all λo=>match o.op with| .defer _=>false|_=>true
variable {ops:zdO} {i:Nat} {o:Oper}
theorem AC (h:qY ops=true) (J:ops[i]? =some o): ∀c,o.op≠ .defer c:=by
 intro c H;obtain⟨hi,rfl⟩:=zaq.1 J;have:=Array.all_eq_true.1 h i hi;rw[H] at this;cases this
variable {P:Program} {w:World}
theorem ux {f:FuncId} {args:Array Value} {R:Ending->World->Prop} (l n:Nat) (h:Calls P f args w R):CallsIn (Fence.wide.inRound l) n P f args w R:=CallsIn.inRound l (callsIn_wide.2 h)
variable {a:Act} {K K':Act->World->Prop} {Q:zdN}
theorem Ec (l n:Nat) (hd: ∀c,o.op≠ .defer c) (Y: ∀a w,¬Q .outgrown a w) (H: ∀a w,K a w->K' a w) (h:o.wp P a w K Q):
 o.wpIn (Fence.wide.inRound l) n P a w K' Q:=by
 unfold Oper.wpIn;refine⟨λ_ _=>trivial, ?_⟩;rw[Fence.inRound_round,Oper.semAt_some l _ _ hd];unfold Oper.wp at h;generalize (execOp a.eval o).run P w=r at h ⊢;cases r with
 |ok x w'=>
  cases x with
  |value v=>exact H _ _ h
  |skip=>exact H _ _ h
  |defer d=>exact H _ _ h
  |enter f args=>
   refine⟨λh=>(by cases h),(ux l (n - 1) h).mono ?_⟩;intro e J N;cases e with
   |returned v=>exact H _ _ N
   |panicked c=>exact N
   |outgrown=>obtain⟨a,w,h⟩:=N;exact absurd h (Y a w)
  |row r args=>exact⟨λh=>(by cases h),λc cs _=>let ⟨v,J,r,s⟩:=h c cs;⟨v,J,H _ _ r,stepsIn_wide.2 s⟩⟩
  |_=>exact h.elim
 |halt x w'=>cases x<;>exact h
theorem Ee (l n:Nat) (hd:qY ops=true) (N: ∀a w,¬Q .outgrown a w) (H: ∀a w,K a w->K' a w) (h:wpOp P ops Q i K a w):
 wpOpIn (Fence.wide.inRound l) n P ops Q i K' a w:=by
 unfold wpOp at h;unfold wpOpIn;split at h
 ·rename_i hn;simp only[hn];exact H _ _ h
 ·rename_i o Y;simp only[Y];split at h
  ·rename_i J;simp only[J,if_true];rcases h with h|⟨_,a,w,h⟩
   ·exact Ec l n (AC hd Y) N H h
   ·exact absurd h (N a w)
  ·rename_i J;simp only[J];exact⟨λ_ _=>trivial,H _ _ h⟩
theorem sX {P:Program} {md:Region.Mode} {ops:zdO} {Q:zdN} (l n:Nat) (N:qY ops=true) (J: ∀a w,¬Q .outgrown a w): ∀(H:Nat) (listed:Array Bool) (a:Act) (w:World),wpAny P md ops Q H listed a w->wpAnyIn (Fence.wide.inRound l) n P md ops Q H listed a w
 |0,_,_,_,h=>h
 |H+1,_,_,_,h=>⟨h.1,λi hi=>Ee l n N J (λY w'=>sX l n N J H _ Y w') (h.2 i hi)⟩
theorem oo {id:Nat} {l n:Nat} (S:World->Prop) (N:P.follows .mixedOrders=true) (J:qY ops=true) (H: ∀a w,¬Q .outgrown a w)
 (h:wpAnyH P .any ops Q S ops.size (Array.replicate ops.size false) a w.drew):(Code.region id ops true).wpIn (Fence.wide.inRound l) n P Q a w:=
 wpIn_region_any N (sX l n J H _ _ _ _ (wpAny_of_held _ _ _ _ h))
end Yk
namespace Yk
open Go Go.RowKit
section
variable {T e:TypeId} {B b:Nat} {bs:zdK} {w w':World}
variable {row:Option Nat}
theorem ko {p:Value} (h:Lib.BuilderAtF T e B b p bs w) (hg:w.grownBy w' row) (N: ∀r,row=some r-> ∃o:Obj,w.heap[r]? =some o/\o.isCells=false):Lib.BuilderAtF T e B b p bs w':=by
 obtain⟨h1,v,h2,h3,h4⟩:=h;refine⟨h1,v,Blk.kept h2 hg N,h3.kept hg ?_,h4⟩;rcases Option.eq_none_or_eq_some v.ownBlock with H|⟨g,H⟩
 ·exact .inl H
 ·refine .inr λe2=> ?_;obtain⟨c,fz,Y⟩:=Lib.ownsRowF_kind h3 g H;obtain⟨o,J,hn⟩:=N g (by rw[<-e2,H]);rw[Y] at J;cases J;cases hn
theorem qI (h:Lib.IsBuilderF T e B b bs w) (hg:w.grownBy w' row) (H: ∀r,row=some r-> ∃o:Obj,w.heap[r]? =some o/\o.isCells=false):Lib.IsBuilderF T e B b bs w':=
 h.elim (λh=> .inl (ko h hg H)) (λh=> .inr (ko h hg H))
theorem jB (h:Lib.IsBuilderF T e B b bs w) (J:Below w.heap.size w w'):Lib.IsBuilderF T e B b bs w':=by
 have key: ∀p,Lib.BuilderAtF T e B b p bs w->Lib.BuilderAtF T e B b p bs w':=by
  rintro p ⟨h1,v,h2,h3,h4⟩;refine⟨h1,v,(J.block b (zaq.1 h2).1).trans h2,⟨h3.1, ?_⟩,h4⟩;rcases h3.2 with h5|⟨g,cap,H,N,rfl,hB,hg,h6⟩
  ·exact .inl h5
  ·exact .inr ⟨g,cap,H,N,rfl,hB,(J.block g (zaq.1 hg).1).trans hg,h6⟩
 exact h.elim (λh=> .inl (key _ h)) (λh=> .inr (key _ h))
theorem iJ (h:Lib.OthersKept e (some b) w w') (hb: ∃cs t J,w.heap[b]? =some (.cells cs t J)) (hs:w.heap.size<=w'.heap.size):KeepsOthers w w':=by
 refine⟨hs,λk o N Y=>h k o N ?_ ?_⟩
 ·intro H;cases H;obtain⟨cs,t,J,h2⟩:=hb;rw[h2] at N;cases N;cases Y
 ·intro c J H;subst H;cases Y
theorem pu (h:Lib.IsBuilderF T e B b bs w): ∃cs t H,w.heap[b]? =some (.cells cs t H):=by
 rcases h with ⟨_,v,h2,_⟩|⟨_,v,h2,_⟩<;>exact⟨_,_,_,h2⟩
end
theorem bN {w:World} {b:Nat} {x y:Value} {t:TypeId} (h:Blk w b #[x,y] t):w.cell? ⟨b,0,none⟩=some x/\w.cell? ⟨b,1,none⟩=some y/\w.frozen? ⟨b,0,none⟩=false/\w.frozen? ⟨b,1,none⟩=false/\b<w.heap.size:=
 ⟨h.cell rfl,h.cell rfl,h.free 0,h.free 1,h.lt⟩
end Yk
namespace Go.Proofs.YtdjfpjmijhjmpaaGreatDoor
open Go.Proofs.Tryz
open Go.RowKit Yk
attribute [local go_sem] Oper.semAt_some
def fK (l:zdH) (k:Nat):List (Nat×Nat):=(List.range k).map (λj=>(l.length - 1 - j,l.getD (l.length - 1 - j) 0))
theorem jC (l:zdH) (k:Nat):fK l (k+1)=fK l k++ [(l.length - 1 - k,l.getD (l.length - 1 - k) 0)]:=by simp[fK,zd3]
theorem yz (l:zdH) (k:Nat):(fK l k).length=k:=by simp[fK]
abbrev cf (l:zdH):={p:Nat×Nat // l[p.1]? =some p.2}
abbrev Ks {l:zdH} (x:cf l):Array Value:= #[.int .i64 (x.1.1:Int), .int .i64 (x.1.2:Int)]
variable {l:zdH} {k:Nat}
theorem GP {j:Nat} (J:k<=l.length) (H:j<l.length) (h:l.length - k<=j):(j,l[j])∈fK l k:=by
 unfold fK;rw[zaz];refine⟨l.length - 1 - j,zaC.2 (by omega), ?_⟩;have e:l.length - 1 - (l.length - 1 - j)=j:=by omega
 rw[e];simp[zaa H]
variable {m:zdH}
theorem Cr {pre:List (cf l)} (N:l.length=m.length) (Y:k<=l.length) (h:pre.map (·.1)=fK l k) (J: ∀p∈pre,m[p.1.1]? =some p.1.2):l.drop (l.length - k)=m.drop (l.length - k):=by
 apply zbt
 ·simp[N]
 ·intro i h1 h2;rw[zbQ] at h1 h2;rw[List.getElem_drop,List.getElem_drop];have H:=GP (l:=l) (j:=l.length - k+i) Y (by omega) (by omega);rw[<-h,zaz] at H;obtain⟨p,hp,e⟩:=H;have:=J p hp;rw[e] at this;exact((zaV.1 this).2).symm
theorem Ku {ini:List (cf l)} {last:cf l} (h:(ini++ [last]).map (·.1)=fK l k): ∃j,k=j+1/\ini.map (·.1)=fK l j/\last.1.1=l.length - 1 - j:=by
 cases k with
 |zero=>simp[fK] at h
 |succ j=>
  rw[jC,zb8] at h;obtain⟨H,e2⟩:=List.append_inj' h rfl;simp only[zaK,zc4,zc9,and_true] at e2;exact⟨j,rfl,H,by rw[e2]⟩
def KpB (H Bs:Nat) (A B:World):Prop:=Below H A B/\B.heap[Bs]? =A.heap[Bs]?
theorem KpB.refl (H Bs:Nat) (A:World):KpB H Bs A A:=⟨zdC _ _,rfl⟩
variable {n₀ Bs:Nat} {A B:World}
theorem KpB.trans {C:World} (h:KpB n₀ Bs A B) (k:KpB n₀ Bs B C):KpB n₀ Bs A C:=⟨h.1.trans k.1,k.2.trans h.2⟩
variable {n:Nat}
theorem KpB.of_below (h:Below n A B) (h0:n₀<=n) (hB:Bs<n):KpB n₀ Bs A B:=⟨h.mono h0,h.block Bs hB⟩
theorem KpB.setCell (A:World) {a:Addr} (h0:n₀<=a.block) (hB:a.block≠Bs) (u:Value):KpB n₀ Bs A (A.setCell a u):=⟨(zdC _ _).setCell h0 _,Below.heap_setCell _ _ _ _ (λe=>hB e.symm)⟩
theorem KpB.drewN (A:World) (q:Nat):KpB n₀ Bs A (A.drewN q):=⟨(zdC _ _).drewN q,rfl⟩
variable {w:World}
theorem Pz (J:n₀<=w.heap.size) (hB:Bs<w.heap.size) (W:World) (l:Nat) (o o':Obj) (H:w.heap.size<=l) (h:W.heap[l]? =some o) (k1:o.isCells=false) (k2:o.isWalk=false):KpB n₀ Bs W (W.putObj l o'):=
 ⟨belowK_b J W l o o' H h k1 k2,World.putObj_heap_other (by omega)⟩
theorem eC (h:Below n A B) (J:A.heap.size<=n):KeepsOthers A B:=
 ⟨h.size,λk o H _=>(h.block k (by have:=(zaq.1 H).1;omega)).trans H⟩
theorem wG (F:Fence) (n:Nat) (hF:F.fn 306) (hro:F.round=none) (hn:1<=n) (l Bs n₀ b off cap:Nat) (zs:zdH) (hreach:zs.length<=1099511627776) (hb:b<n₀) (J Jx:List (cf zs)->World->Prop)
 (hY: ∀pre x W,J pre W->pre.length<zs.length->YieldAt F (n - 1) prog l (Ks x) W λe W'=>
   (e= .returned (.bool true)/\J (pre++ [x]) W'/\KpB n₀ Bs W W')\/(e= .returned (.bool false)/\Jx (pre++ [x]) W'))
 (W:World) (hBs:W.cell? ⟨Bs,0,none⟩=some (.slice (some ⟨b,off,none⟩) zs.length cap)) (hc: ∀(j:Nat) x,zs[j]? =some x->W.cell? ⟨b,off+j,none⟩=some (am x)) (h0:J [] W):
 CallsIn F n prog 306 #[.func (.yield l) #[] #[], .pointer (some ⟨Bs,0,none⟩)] W λe W'=>(∃v,e= .returned v)/\
  ((∃ys,ys.map (·.1)=fK zs zs.length/\J ys W')\/(∃pre,(∃k,k<=zs.length/\pre.map (·.1)=fK zs k)/\Jx pre W')):=by
 refine callsIn_of_wp func306 rfl hF ?_ hro;simp only[ntmps306,zbp,za4,za9,Nat.reduceAdd,Nat.reduceSub,zbS,zbT,zbU,zbV,zaM,zaO]
 gi_wp2
 gi_loopw [3] (λi wr=> ∃j k:Nat,∃pre:List (cf zs),j+k=zs.length/\i= .int .i64 ((j:Int) - 1)/\pre.map (·.1)=fK zs k/\J pre wr/\KpB n₀ Bs W wr)
  (λi _=>(intOf i+1).toNat)
 case atStart=>exact⟨zs.length,0, [],by omega,rfl,rfl,h0,KpB.refl _ _ _⟩
 case round=>
  obtain⟨j,k,pre,hjk,rfl,hpre,hJs,hnx⟩:=hrel;have Hpre:=zdB hpre;clear hpre;have hbs:=(World.cell?_of_block (w:=W) (w':=wr) (a:=⟨Bs,0,none⟩) hnx.2).trans hBs;cases j with
  |zero=>
   gi_wp2
   go_end0
   refine⟨⟨_,rfl⟩, .inl ⟨pre, ?_,hJs⟩⟩;rw[Hpre.out];congr 1;omega
  |succ m=>
   have hm:m<zs.length:=by omega
   have hcx:wr.cell? ⟨b,off+m,none⟩=some (.int .i64 ((zs[m]:Nat):Int)):=(hnx.1.cell (p:=⟨b,off+m,none⟩) hb).trans (hc m _ (zaa hm));obtain⟨z,hz⟩: ∃z,zs[m]=z:=⟨_,rfl⟩;rw[hz] at hcx;have hmem:zs[m]? =some z:=by rw[zaa hm,hz]
   obtain⟨x,hx⟩: ∃x:cf zs,x.1=(m,z):=⟨⟨(m,z),hmem⟩,rfl⟩;obtain⟨fn,tmps,assign,body,hy,hR⟩:=hY pre x wr hJs (by have:=congrArg List.length Hpre.out;rw[zaB,yz] at this;omega);dsimp only[Ks] at hy;rw[hx] at hy;have Hx:=zdB hx;have Hz:=zdB hz;clear hz hmem hx;have hnext: ∀p:List (cf zs),p.map (·.1)=fK zs k->(p++ [x]).map (·.1)=fK zs (k+1):=by
    intro p hp;rw[zb8,hp,jC,zaK,zc4,Hx.out];have e1:zs.length - 1 - k=m:=by omega
    rw[e1];simp[zaa hm,Hz.out]
   have Hnext:=zdB hnext;clear hnext
   gi_wp2
   refine hR.mono ?_;rintro e W3 (⟨rfl,hJ3,hk3⟩|⟨rfl,hJx3⟩)
   ·gi_wp2
    go_roundw
    case rel=>exact⟨m,k+1,pre++ [x],by omega,by simp,Hnext.out _ Hpre.out,hJ3,hnx.trans hk3⟩
    case measure=>simp[intOf]
   ·gi_wp2
    refine bodyPost_ret (results_none rfl _ _ _) rfl ?_;exact⟨⟨_,rfl⟩, .inr ⟨pre++ [x],⟨k+1,by omega,Hnext.out _ Hpre.out⟩,hJx3⟩⟩
theorem px (F:Fence) (n:Nat) (hF:F.fn 306) (hro:F.round=none) (l Bs:Nat) (J:World->Prop) (W:World) (hBs:W.cell? ⟨Bs,0,none⟩=some (.slice none 0 0)) (h0:J W):
 CallsIn F n prog 306 #[.func (.yield l) #[] #[], .pointer (some ⟨Bs,0,none⟩)] W λe W'=>(∃v,e= .returned v)/\J W':=by
 refine callsIn_of_wp func306 rfl hF ?_ hro;simp only[ntmps306,zbp,za4,za9,Nat.reduceAdd,Nat.reduceSub,zbS,zbT,zbU,zbV,zaM,zaO]
 gi_wp2
 gi_loopw [3] (λi wr=>i= .int .i64 (-1)/\J wr) (λ_ _=>0)
 case atStart=>exact⟨rfl,h0⟩
 case round=>
  obtain⟨rfl,hJs⟩:=hrel
  gi_wp2
  go_end0
  exact⟨⟨_,rfl⟩,hJs⟩
theorem gD (a:Option Addr) (len cap:Nat) (w:World):
 Calls prog 235 #[.slice a len cap] w λe w'=>e= .returned (.func (.func 306) #[] #[.pointer (some ⟨w.heap.size,0,none⟩)])/\w'=w.alloc (.cells #[.slice a len cap] 203):=by
 go_enter func235,ntmps235;go_wp2;go_ret;exact⟨rfl,rfl⟩
theorem sY (F:Fence) (n:Nat) (hF:F.fn 306) (a0:F.round=none) (hn:1<=n) (Bs H:Nat) (sv:Value) (N:zdH) (hreach:N.length<=1099511627776) (w:World) (e0:Bs<w.heap.size) (j0:H<=w.heap.size)
 (hc:w.cell? ⟨Bs,0,none⟩=some sv) (hI:Rd am w sv N) (i0: ∀k,sv.ownBlock=some k->k<H):
 SeqStopsK F n prog 306 #[.pointer (some ⟨Bs,0,none⟩)] (λx:cf N=>Ks x) (KpB H Bs) (λys=>ys.map (·.1)=fK N N.length)
  (λpre=> ∃k,k<=N.length/\pre.map (·.1)=fK N k) N.length w:=λl J Jx W hW _ _ hY h0=>by
 have Y:=(hW.cell (p:=⟨Bs,0,none⟩) e0).trans hc;rcases hI.below hW with ⟨rfl,rfl⟩|⟨b,off,cap,rfl,hb,_,_,g0⟩
 ·exact(px F n hF a0 l Bs (J []) W Y h0).mono λe W' ⟨he,hj⟩=>⟨he, .inl ⟨[],rfl,hj⟩⟩
 ·exact wG F n hF a0 hn l Bs H b off cap N hreach (i0 b rfl) J Jx hY W Y g0 h0
variable {Q:zdN} {a:Act}
theorem qM {g:Operand} {ps:Array Tmp} {assign body:Code} (hn:3<=n) (Bs J:Nat)
 (hg:a.eval g= .func (.func 306) #[] #[.pointer (some ⟨Bs,0,none⟩)]) (sv:Value) (H:zdH) (hreach:H.length<=1099511627776) (g0:Bs<w.heap.size) (N:J<=w.heap.size)
 (hc:w.cell? ⟨Bs,0,none⟩=some sv) (hI:Rd am w sv H) (l0: ∀k,sv.ownBlock=some k->k<J) (n0:ps.size=2)
 (I:List (cf H)->World->Prop) (Ix:Code->List (cf H)->World->Prop) (i0:OwnFrom w.heap.size I) (j0: ∀c,OwnFrom w.heap.size (Ix c)) (h0:I [] w) (upd:cf H->Array Value->Array Value)
 (hassign: ∀(l:Nat) (x:cf H) (W:World) (K:Act->World->Prop),K {tmps:=upd x a.tmps,defers:= []} W->
   assign.wpIn (Fence.wide.inRound l) (n - 1 - 1) prog (Exit.then K (λ_ _ _=>False)) {tmps:=(ps.zip (Ks x)).foldl (λt (p,v)=>t.setIfInBounds p v) a.tmps,defers:= []} W)
 (Y: ∀(l:Nat) (pre:List (cf H)) (x:cf H) (W:World),I pre W->pre.length<H.length->body.wpIn (Fence.wide.inRound l) (n - 1 - 1) prog (ownPostG w.heap.size (KpB J Bs) I Ix (pre++ [x]) W) {tmps:=upd x a.tmps,defers:= []} W)
 (a0: ∀(D:Nat) (xs:List (cf H)) (W:World),w.heap.size<=D->xs.map (·.1)=fK H H.length->I xs W->W.heap[D]? =some (.deferred (some []))->Q .normal {a with defers:={target:= .collected D,args:= #[]}::a.defers} W)
 (e0: ∀(D:Nat) (c:Code) (pre:List (cf H)) (W:World),w.heap.size<=D->(∃k,k<=H.length/\pre.map (·.1)=fK H k)->Ix c pre W->W.heap[D]? =some (.deferred (some []))->c.wpIn Fence.wide n prog Q {a with defers:={target:= .collected D,args:= #[]}::a.defers} W):
 (Code.rangeFunc g ps assign body).wpIn Fence.wide n prog Q a w:=
 wpIn_rangeFunc_ownG rfl (by omega) (gf:=306) (lb:= #[.pointer (some ⟨Bs,0,none⟩)]) hg trivial (enters_of func306 (by kernel_rfl) rfl)
  (sY Fence.wide (n - 1) trivial rfl (by omega) Bs J sv H hreach w g0 N hc hI l0) KpB.trans (Pz N g0) (zdC _ _) (λx=>by rw[n0];rfl) I Ix i0 j0 h0 (λx=>{tmps:=upd x a.tmps,defers:= []}) hassign Y a0 e0
theorem ret_bool {a b:Bool} (h:a=b):Ending.returned (.bool a)= .returned (.bool b):=by rw[h]
variable {s t:zdG}
theorem wH (J:body s.data.toList=t.data.toList) (H:k<t.size) (h:(t[k].toNat:Int)<48\/57<(t[k].toNat:Int)):false=vld s.data.toList:=
 (aJJ (i:=k) (c:=t[k]) (by rw[J];exact kE t k H) (by omega)).symm
theorem wI (N:body s.data.toList=t.data.toList) (h0:0<t.size) (h1:t.size<=200) (hd: ∀(i:Nat) (h:i<t.size),48<=t[i].toNat/\t[i].toNat<=57)
 (hz:s.data.toList= [48]↔t.toList= [48]):
 (t.toList== [48]||((t[0].toNat:Int) !=48))=vld s.data.toList:=by
 rw[xM (by rw[N];intro e;have:=bj t;rw[e] at this;simp at this;omega) (by rw[N,bj];exact h1) (by
  intro i c J;rw[N] at J;have hi:i<t.size:=by have:=(zaV.1 J).1;rwa[bj] at this
  rw[kE t i hi] at J;cases J
  exact hd i hi)]
 rw[N,zbW,kE t 0 h0];by_cases H:t.toList= [48]
 ·simp[H,hz.2 H]
 ·have e2: ¬s.data.toList= [48]:=λh=>H (hz.1 h);simp only[H,e2,decide_false,zbi,beq_eq_false_iff_ne.2 H];by_cases Y:t[0]=48
  ·simp[Y]
  ·have e4:t[0].toNat≠48:=λh=>Y (UInt8.toNat_inj.1 h);have e5:((t[0].toNat:Int) !=48)=true:=by rw[zdA];omega
   simp[Y,e5]
theorem wJ {l:List UInt8} (hh:l.head? =some 45) (h:body l= [48]):false=vld l:=by
 have:l≠ [48]:=by intro e;rw[e] at hh;simp at hh
 simp[vld,h,this]
theorem au (s:zdG) (w:World) (hs:s.size<=maxLen):
 Calls prog 205 #[.string s] w λe w'=>e= .returned (.bool (vld s.data.toList))/\w=w':=by
 unfold maxLen at hs;by_cases h0:0<s.size
 ·by_cases h45:s[0]=45
  ·have hhd:s.data.toList.head? =some 45:=by rw[zbW,kE s 0 h0,h45]
   have c1:((s[0].toNat:Int)==45)=true:=by rw[h45];decide
   obtain⟨t,hx⟩: ∃t,s.extract 1 s.size=t:=⟨_,rfl⟩;have ht:body s.data.toList=t.data.toList:=by rw[<-hx,xN hhd,BS]
   have hts:t.size<=9223372036854775807:=by rw[<-hx];simp;omega
   have hz:t.toList= [48]->false=vld s.data.toList:=λh=>wJ hhd (by rw[ht,<-cL,h]);have hz2: ¬t.toList= [48]->(s.data.toList= [48]↔t.toList= [48]):=λh=>⟨λe=>by rw[e] at hhd;simp at hhd,λe=>absurd e h⟩;have Ht:=zdB ht;clear ht;clear h45 hhd;by_cases c:t.toList= [48]
   ·have Hz:=zdB (hz c);clear hz hz2;have c2:(t.toList== [48])=true:=by simp[c]
    clear c;go_enter func205,ntmps205;go_wp2;go_ret;exact⟨ret_bool Hz.out,rfl⟩
   ·have Hz:=zdB (hz2 c);clear hz hz2;have c2:(t.toList== [48])=false:=by simp[c]
    clear c;go_enter func205,ntmps205;go_wp2;clear c1 c2 hx
    go_loop [3] (λi=> ∃k:Nat,k<=t.size/\i= .int .i64 k/\ ∀(j:Nat) (h:j<t.size),j<k->48<=t[j].toNat/\t[j].toNat<=57) (λi=>(t.size - intOf i).toNat)
    case atStart=>exact⟨0,by omega,rfl,by omega⟩
    case round=>
     obtain⟨k,hk,rfl,hd⟩:=hrel;have Hd:=zdB hd;clear hd;go_wp2
     ·go_ret;exact⟨ret_bool (wH Ht.out ‹k<t.size› (by omega)),rfl⟩
     ·go_round
      case rel=>
       refine⟨k+1,by omega,by go_num,λj h hj=> ?_⟩;by_cases e:j<k
       ·exact Hd.out j h e
       ·obtain rfl:j=k:=by omega
        omega
      case measure=>simp[intOf];omega
     ·go_ret;exact⟨ret_bool (wH Ht.out ‹k<t.size› (by omega)),rfl⟩
     ·go_ret;have e:t.toList= [48]:=by assumption
      refine⟨ret_bool ?_,rfl⟩;rw[<-wI Ht.out (by omega) (by omega) (λj h=>Hd.out j h (by omega)) Hz.out];simp[e]
     ·go_ret;exact⟨ret_bool (wI Ht.out (by omega) (by omega) (λj h=>Hd.out j h (by omega)) Hz.out),rfl⟩
     ·go_ret;exact⟨ret_bool (rm (by rw[Ht.out,bj];omega)).symm,rfl⟩
     ·go_ret;exact⟨ret_bool (uN (by rw[Ht.out];exact zau (by rw[bj];omega))).symm,rfl⟩
  ·have hhd:s.data.toList.head? ≠some 45:=by rw[zbW,kE s 0 h0];simpa using h45
   have c1:((s[0].toNat:Int)==45)=false:=by
    have:s[0].toNat≠45:=λh=>h45 (UInt8.toNat_inj.1 h);rw[zdw];omega
   have ht:body s.data.toList=s.data.toList:=nH hhd;have Ht:=zdB ht;clear ht;have Hz:=zdB (show s.data.toList= [48]↔s.toList= [48] by rw[cL]);clear hhd h45
   ·go_enter func205,ntmps205;go_wp2;clear c1
    go_loop [3] (λi=> ∃k:Nat,k<=s.size/\i= .int .i64 k/\ ∀(j:Nat) (h:j<s.size),j<k->48<=s[j].toNat/\s[j].toNat<=57) (λi=>(s.size - intOf i).toNat)
    case atStart=>exact⟨0,by omega,rfl,by omega⟩
    case round=>
     obtain⟨k,hk,rfl,hd⟩:=hrel;have Hd:=zdB hd;clear hd;go_wp2
     ·go_ret;exact⟨ret_bool (wH Ht.out ‹k<s.size› (by omega)),rfl⟩
     ·go_round
      case rel=>
       refine⟨k+1,by omega,by go_num,λj h hj=> ?_⟩;by_cases e:j<k
       ·exact Hd.out j h e
       ·obtain rfl:j=k:=by omega
        omega
      case measure=>simp[intOf];omega
     ·go_ret;exact⟨ret_bool (wH Ht.out ‹k<s.size› (by omega)),rfl⟩
     ·go_ret;have e:s.toList= [48]:=by assumption
      refine⟨ret_bool ?_,rfl⟩;rw[<-wI Ht.out (by omega) (by omega) (λj h=>Hd.out j h (by omega)) Hz.out];simp[e]
     ·go_ret;exact⟨ret_bool (wI Ht.out (by omega) (by omega) (λj h=>Hd.out j h (by omega)) Hz.out),rfl⟩
     ·go_ret;exact⟨ret_bool (rm (by rw[Ht.out,bj];omega)).symm,rfl⟩
 ·obtain rfl:s=ByteArray.empty:=gT (by rw[zau (l:=s.data.toList) (by rw[bj];omega)];rfl);go_enter func205,ntmps205;go_wp2
  go_loop [3] (λi=>i= .int .i64 0) (λ_=>0)
  case atStart=>rfl
  case round=>
   subst hrel;go_wp2;go_ret;exact⟨ret_bool (by decide),rfl⟩
def Glob (w:World):Prop:=
 (∃m,w.cell? ⟨6,0,none⟩=some (.int .i64 m))/\Lib.TabIs prog w "internal/strconv.uint64pow10" .u64 Lib.pow10Tab/\11<w.heap.size
theorem NL:prog.globalNamed "internal/strconv.uint64pow10" =some 11:=by kernel_rfl
variable {w':World}
theorem Glob.below (h:Glob w) (H:Below w.heap.size w w'):Glob w':=by
 obtain⟨⟨m,h1⟩,h2,h3⟩:=h;refine⟨⟨m, ?_⟩,var?_below H NL h3 h2,zam h3 H.size⟩;rw[H.cell (p:=⟨6,0,none⟩) (World.block_lt_of_cell? w _ h1)];exact h1
theorem qJ (l:List UInt8):Lib.trimPrefix l [45]=body l:=by
 unfold Lib.trimPrefix Lib.hasPrefix body;cases l with
 |nil=>simp
 |cons c t=>
  by_cases h:c=45
  ·subst h;simp
  ·have h2: ¬(45=c):=λe=>h e.symm;simp[List.isPrefixOf,h,h2]
theorem mA (s:zdG) (w:World):
 Calls prog 290 #[.string s, .string ⟨#[45]⟩] w λe w'=> ∃t,e= .returned (.string t)/\t.data.toList=body s.data.toList/\w=w':=by
 refine(strings_TrimPrefix s ⟨#[45]⟩ w).mono ?_;rintro e w' ⟨rfl,rfl⟩;exact⟨_,rfl,by rw[<-qJ],rfl⟩
theorem qK (c:UInt8): [48,49,50,51,52,53,54,55,56,57].contains c=dig c:=by
 rw[zax,eE];simp only[List.contains_iff_mem,zai,zbw,or_false];constructor
 ·rintro(h|h|h|h|h|h|h|h|h|h)<;>subst h<;>decide
 ·intro h;have: ∀k:Fin 10,c.toNat=48+k.val->c=UInt8.ofNat (48+k.val):=by
   intro k H;apply UInt8.toNat_inj.1;rw[H];simp;omega
  have h2:=this ⟨c.toNat - 48,by omega⟩ (by simp;omega);simp only at h2;have h3:c.toNat - 48=0\/c.toNat - 48=1\/c.toNat - 48=2\/c.toNat - 48=3\/c.toNat - 48=4\/c.toNat - 48=5\/c.toNat - 48=6\/c.toNat - 48=7\/c.toNat - 48=8\/c.toNat - 48=9:=by omega
  rcases h3 with h|h|h|h|h|h|h|h|h|h<;>rw[h] at h2<;>rw[h2]<;>decide
theorem fk (p:UInt8->Bool) (l:List UInt8):l.dropWhile p= []↔l.all p=true:=by
 induction l with
 |nil=>simp
 |cons a t H=>
  rw[List.dropWhile_cons];split
  ·rename_i h;rw[H];simp[h]
  ·rename_i h;simp[h]
theorem Ef (l:List UInt8):Lib.trimS l [48,49,50,51,52,53,54,55,56,57]= []↔l.all dig=true:=by
 have J:(λc:UInt8=> [48,49,50,51,52,53,54,55,56,57].contains c)=dig:=funext qK;unfold Lib.trimS Lib.trimLeftS Lib.trimRightS;rw[J,fk,zda];constructor
 ·intro h;cases H:l.reverse.dropWhile dig with
  |nil=>
   have:=(fk dig l.reverse).1 H;rwa[zda] at this
  |cons a t=>
   exfalso;have h1:dig a=false:=by
    have:=List.head?_dropWhile_not dig l.reverse;rw[H] at this;simpa using this
   rw[H] at h;simp[h1] at h
 ·intro h;have:l.reverse.dropWhile dig= []:=(fk dig l.reverse).2 (by rwa[zda]);rw[this];rfl
theorem uy (s:zdG) (w:World) (J:s.size<=maxLen):
 Calls prog 291 #[.string s, .string ⟨#[48,49,50,51,52,53,54,55,56,57]⟩] w λe w'=> ∃t,e= .returned (.string t)/\t.toList.isEmpty=s.data.toList.all dig/\Below w.heap.size w w':=by
 refine(Any.strings_Trim_laid lays160 (by kernel_rfl) s ⟨#[48,49,50,51,52,53,54,55,56,57]⟩ w (by simpa [maxLen] using J) (by decide) (ascii_of_all (by decide))).mono ?_;rintro e w' ⟨rfl,H⟩;refine⟨_,rfl, ?_,H⟩;rw[cL];have h:=Ef s.data.toList;rw[zax,List.isEmpty_iff];exact h
theorem Kv (l:List UInt8):(body l).length<=l.length:=by
 unfold body;split
 ·rw[zcY];omega
 ·exact za0 _
theorem ii (t:zdG):t.toList.isEmpty=decide (t.data.toList= []):=by
 rw[cL];cases t.data.toList<;>simp
theorem Kw (h:s.toList= [48]):true=vS s:=by
 rw[cL] at h;unfold vS;rw[h];decide
theorem NM (ht:t.data.toList=body s.data.toList) (h0:0<t.size) (h1: ¬200<(body s.data.toList).length) (hd:(body s.data.toList).all dig=true) (J: ¬s.toList= [48]):
 ((t[0].toNat:Int) !=48)=vS s:=by
 have e:(body s.data.toList).head? =some t[0]:=by rw[<-ht,zbW,kE t 0 h0]
 rw[cL] at J;unfold vS;rw[xM (by intro e2;rw[e2] at e;simp at e) (by omega) (λi c Y=>(eE c).1 (zaf.1 hd c (zal Y))),e];have e2:decide (s.data.toList= [48])=false:=by simp[J]
 rw[e2,zbi];by_cases H:t[0]=48
 ·simp[H]
 ·have e4:t[0].toNat≠48:=λh=>H (UInt8.toNat_inj.1 h);have N:((t[0].toNat:Int) !=48)=true:=by rw[zdA];omega
  simp[H,N]
theorem NN (h: ¬(body s.data.toList).all dig=true):false=vS s:=by
 cases H:vS s with
 |false=>rfl
 |true=>
  have:=(dh H).2.2.1;exact absurd (zaf.2 this) h
theorem qk (s:zdG) (w:World) (hs:s.size<=maxLen):
 Calls prog 221 #[.string s] w λe w'=>e= .returned (.bool (vS s))/\Below w.heap.size w w':=by
 have Hp:=zdB (mA s);have hbl:=Kv s.data.toList;rw[bj] at hbl;by_cases h1:body s.data.toList= []
 ·have hv:vS s=false:=uN h1;rw[hv];rw[h1] at Hp;clear h1 hv hbl;go_enter func221,ntmps221;go_wp2_with (go_at_call 290;refine(Hp.out _).mono ?_;rintro e w1 ⟨t,rfl,ht,rfl⟩;have c1:t.toList.isEmpty=true:=by {rw[ii,ht];rfl};have Ht:=zdB ht;clear ht);go_ret;exact⟨rfl,zdC _ _⟩
 ·by_cases h2:200<(body s.data.toList).length
  ·have hv:vS s=false:=rm h2;rw[hv];clear hv;have H1:=zdB h1;clear h1;go_enter func221,ntmps221;go_wp2_with (go_at_call 290;refine(Hp.out _).mono ?_;rintro e w1 ⟨t,rfl,ht,rfl⟩;have c1:t.toList.isEmpty=false:=by {rw[ii,ht];simp[H1.out]};rw[<-ht,bj] at h2 hbl;have c2:(200:Int)<(t.size:Int):=by {omega};have Ht:=zdB ht;clear ht h2);go_ret;exact⟨rfl,zdC _ _⟩
  ·have Hm:=zdB (λ(t:zdG) (h:t.data.toList=body s.data.toList)=>uy t);by_cases h3:(body s.data.toList).all dig=true
   ·have H1:=zdB h1;clear h1;have H2:=zdB h2;have H3:=zdB h3;clear h3;by_cases h4:s.toList= [48]
    ·have Hz:=zdB (Kw h4);have c4:(s.toList== [48])=true:=by simp[h4]
     clear h4;go_enter func221,ntmps221
     go_wp2_with (first
      |(go_at_call 290;refine(Hp.out _).mono ?_;rintro e w1 ⟨t,rfl,ht,rfl⟩;have c1:t.toList.isEmpty=false:=by {rw[ii,ht];simp[H1.out]};have Ht:=zdB ht;rw[<-ht,bj] at h2 hbl;have c2: ¬(200:Int)<(t.size:Int):=by {omega};clear ht h2)
      |(go_at_call 291;refine(Hm.out _ Ht.out _ (by unfold maxLen at*;omega)).mono ?_;rintro e w2 ⟨t2,rfl,ht2,hb2⟩;rw[Ht.out,H3.out] at ht2))
     go_ret;exact⟨ret_bool Hz.out,hb2⟩
    ·have H4:=zdB h4;have c4:(s.toList== [48])=false:=by simp[h4]
     clear h4;go_enter func221,ntmps221
     go_wp2_with (first
      |(go_at_call 290;refine(Hp.out _).mono ?_;rintro e w1 ⟨t,rfl,ht,rfl⟩;have c1:t.toList.isEmpty=false:=by {rw[ii,ht];simp[H1.out]};have Ht:=zdB ht;have h5:0<t.size:=by {apply Nat.pos_of_ne_zero;intro e0;apply H1.out;rw[<-ht];exact zau (by rw[bj];exact e0)};rw[<-ht,bj] at h2 hbl;have c2: ¬(200:Int)<(t.size:Int):=by {omega};clear ht h2)
      |(go_at_call 291;refine(Hm.out _ Ht.out _ (by unfold maxLen at*;omega)).mono ?_;rintro e w2 ⟨t2,rfl,ht2,hb2⟩;rw[Ht.out,H3.out] at ht2))
     go_ret;exact⟨ret_bool (NM Ht.out h5 H2.out H3.out H4.out),hb2⟩
   ·have H1:=zdB h1;clear h1;have Hz:=zdB (NN h3);have H3:Hid ((body s.data.toList).all dig=false):=by {show (body s.data.toList).all dig=false;exact Bool.eq_false_iff.2 h3}
    clear h3;go_enter func221,ntmps221
    go_wp2_with (first
     |(go_at_call 290;refine(Hp.out _).mono ?_;rintro e w1 ⟨t,rfl,ht,rfl⟩;have c1:t.toList.isEmpty=false:=by {rw[ii,ht];simp[H1.out]};have Ht:=zdB ht;rw[<-ht,bj] at h2 hbl;have c2: ¬(200:Int)<(t.size:Int):=by {omega};clear ht h2)
     |(go_at_call 291;refine(Hm.out _ Ht.out _ (by unfold maxLen at*;omega)).mono ?_;rintro e w2 ⟨t2,rfl,ht2,hb2⟩;rw[Ht.out,H3.out] at ht2))
    go_ret;exact⟨ret_bool Hz.out,hb2⟩
theorem wK (s:zdG) (w:World) (hs:s.size<=maxLen):
 Calls prog 144 #[.string s] w λe w'=>e= .returned (.bool (vS s))/\Below w.heap.size w w':=by
 go_enter func144,ntmps144;go_wp2_with (go_at_call 221;refine(qk s _ hs).mono ?_;rintro e w1 ⟨rfl,hb⟩);go_ret;exact⟨rfl,hb⟩
theorem aFs:(prog.info? 3).map (λi=>(i.zero,i.size,i.bytes))=some (some (.int .i64 0),1,8):=by kernel_rfl
variable {ops:zdO} {rest:List Oper} {o:Oper} {v:Value}
theorem py {B:Nat} (N:o.guard=none) (s x:Operand)
 (ho:o.op= .call {callee:= .builtin .append,args:= #[s,x],argTypes:= #[202,202]}) (hs:a.eval s=v) (J:OwnL am 3 w B v l) (b:Nat) (c:Nat) (u:Value)
 (hx:a.eval x= .slice (some ⟨b,0,none⟩) 1 c) (hc:w.cell? ⟨b,0,none⟩=some u) (y:Nat) (hu:u=am y) (H:l.length+1<=1099511627776) (hB:B<=w.heap.size)
 (h: ∀Y w',OwnL am 3 w' B Y (l++ [y])->Below B w w'->wpList prog ops Q rest (a.put o.dst Y) w'):wpList prog ops Q (o::rest) a w:=
 kZ N s x 202 ho (.int .i64 0) 8 underlying202 aFs rfl du hs J ⟨b,0,none⟩ c u hx hc y hu H (by decide) hB h
theorem ld (t:zdG) (k:Nat) (h:k<t.size):
 (t.data.toList.reverse.take (k+1)).map dv=(t.data.toList.reverse.take k).map dv++ [dv t[t.size - 1 - k]]:=by
 rw[zc0,zdi (by rw[bj];exact h),bj,kE t (t.size - 1 - k) (by omega)];simp
theorem uA (s:zdG) (w:World) (hs:vld s.data.toList=true):
 Calls prog 276 #[.string s] w λe w'=> ∃v,e= .returned (.tuple #[.bool (bf s.data.toList),v])/\Rd am w' v (ae 10 (toI s.data.toList).natAbs)/\From w.heap.size v/\Below w.heap.size w w':=by
 rw[anF];obtain⟨a1,a2,a3,a4⟩:=dh hs;have h0:0<s.size:=by
  apply Nat.pos_of_ne_zero;intro e;have:s.data.toList= []:=zau (by rw[bj];exact e);rw[this] at a1;exact a1 rfl
 by_cases h45:s[0]=45
 ·have hhd:s.data.toList.head? =some 45:=by rw[zbW,kE s 0 h0,h45]
  have c1:((s[0].toNat:Int)==45)=true:=by rw[h45];decide
  have hneg:bf s.data.toList=true:=by simp[bf,hhd]
  have hne:s.data.toList≠ [48]:=by intro e;rw[e] at hhd;simp at hhd
  have hdt:=oV hs hne;obtain⟨t,hx⟩: ∃t,s.extract 1 s.size=t:=⟨_,rfl⟩;have ht:body s.data.toList=t.data.toList:=by rw[<-hx,xN hhd,BS]
  have c2:(!t.toList== [48])=true:=by
   have:t.toList≠ [48]:=by rw[cL,<-ht];exact nJ hs hne
   simp[this]
  rw[ht] at a2 a3 hdt ⊢;rw[bj] at a2;have Hdt:=zdB hdt;clear hdt;have Ha3:=zdB a3;clear a3;rw[hneg];clear ht hneg hne a1 a4 hhd h45 hs;go_enter func276,ntmps276;go_wp2;clear c1 hx
  go_loopw [5,6] (λout i wr=> ∃j:Nat,j<=t.size/\i= .int .i64 ((j:Int) - 1)/\OwnL am 3 wr w.heap.size out ((t.data.toList.reverse.take (t.size - j)).map dv)/\Below w.heap.size w wr) (λ_ i _=>(intOf i+1).toNat)
  case atStart=>exact⟨t.size,za0 _,rfl,by rw[zaJ];exact OwnL.nil _ _,zdC _ _⟩
  case round=>
   obtain⟨j,hj,rfl,hown,hB⟩:=hrel;cases j with
   |zero=>
    go_wp2
    go_ret2
    refine⟨_,rfl, ?_,hown.from,hB⟩;have:=hown.rd;rwa[zaX,zaI (by rw[zc1,bj];exact za0 _),Hdt.out] at this
   |succ m=>
    have hd:48<=t[m].toNat/\t[m].toNat<=57:=(eE _).1 (Ha3.out _ (zal (kE t m (by omega))));have hsz:=hB.size;have hl:((t.data.toList.reverse.take (t.size - (m+1))).map dv).length<=t.size:=by rw[zaB,zaE];omega
    go_wp2_with (at_builtin;refine py rfl _ _ rfl rfl (hown.alloc _) wr.heap.size 1 _ rfl (aP _ _ _) (dv t[m]) (by simp only[am,dv];congr 1;omega) (by omega) (by simp;omega) ?_;intro v' w1 hown1 hB1)
    go_roundw
    case rel=>
     refine⟨m,by omega,by go_num, ?_,((hB.alloc hB.size _).trans hB1)⟩;have e:=ld t (t.size - (m+1)) (by omega);rw[show t.size - (m+1)+1=t.size - m by omega] at e;rw[e];simpa only[show t.size - 1 - (t.size - (m+1))=m by omega] using hown1
    case measure=>simp[intOf]
 ·have hhd:s.data.toList.head? ≠some 45:=by rw[zbW,kE s 0 h0];simpa using h45
  have c1:((s[0].toNat:Int)==45)=false:=by
   have:s[0].toNat≠45:=λh=>h45 (UInt8.toNat_inj.1 h);rw[zdw];omega
  have hneg:bf s.data.toList=false:=by simp[bf,hhd]
  have hb:body s.data.toList=s.data.toList:=nH hhd;rw[hneg];by_cases hne:s.data.toList= [48]
  ·obtain rfl:s=⟨#[48]⟩:=gT (by rw[hne]);rw[show bm (body (⟨#[48]⟩:zdG).data.toList)=0 from rfl,aF];clear hb a1 a2 a3 a4 hs hne hneg hhd h45 c1 h0;go_enter func276,ntmps276;go_wp2;refine wp_loop_rounds 1 ?_;rw[rounds_succ];go_wp2
   go_ret2
   exact⟨_,rfl, .inl ⟨rfl,rfl⟩,From.nil _,zdC _ _⟩
  ·have hdt:=oV hs hne;have c2:(!s.toList== [48])=true:=by rw[cL];simp[hne]
   rw[hb] at a2 a3 hdt ⊢;rw[bj] at a2;have Hdt:=zdB hdt;clear hdt;have Ha3:=zdB a3;clear a3;clear hb hneg hne a1 a4 hhd h45 hs;go_enter func276,ntmps276;go_wp2;clear c1
   go_loopw [5,6] (λout i wr=> ∃j:Nat,j<=s.size/\i= .int .i64 ((j:Int) - 1)/\OwnL am 3 wr w.heap.size out ((s.data.toList.reverse.take (s.size - j)).map dv)/\Below w.heap.size w wr) (λ_ i _=>(intOf i+1).toNat)
   case atStart=>exact⟨s.size,za0 _,rfl,by rw[zaJ];exact OwnL.nil _ _,zdC _ _⟩
   case round=>
    obtain⟨j,hj,rfl,hown,hB⟩:=hrel;cases j with
    |zero=>
     go_wp2
     go_ret2
     refine⟨_,rfl, ?_,hown.from,hB⟩;have:=hown.rd;rwa[zaX,zaI (by rw[zc1,bj];exact za0 _),Hdt.out] at this
    |succ m=>
     have hd:48<=s[m].toNat/\s[m].toNat<=57:=(eE _).1 (Ha3.out _ (zal (kE s m (by omega))));have hsz:=hB.size;have hl:((s.data.toList.reverse.take (s.size - (m+1))).map dv).length<=s.size:=by rw[zaB,zaE];omega
     go_wp2_with (at_builtin;refine py rfl _ _ rfl rfl (hown.alloc _) wr.heap.size 1 _ rfl (aP _ _ _) (dv s[m]) (by simp only[am,dv];congr 1;omega) (by omega) (by simp;omega) ?_;intro v' w1 hown1 hB1)
     go_roundw
     case rel=>
      refine⟨m,by omega,by go_num, ?_,((hB.alloc hB.size _).trans hB1)⟩;have e:=ld s (s.size - (m+1)) (by omega);rw[show s.size - (m+1)+1=s.size - m by omega] at e;rw[e];simpa only[show s.size - 1 - (s.size - (m+1))=m by omega] using hown1
     case measure=>simp[intOf]
theorem iN (l:zdH) (hd: ∀d∈l,d<10000) (v:Value) (w:World) (hv:Rd am w v l):
 Calls prog 295 #[v] w λe w'=> ∃v',e= .returned v'/\Rd am w' v' (ae 10000 (val 10000 l))/\(∀B,From B v->From B v')/\Below w.heap.size w w':=by
 rw[<-xQ (by decide) l hd];obtain⟨a,cap,rfl,hca,hca2,hcell⟩:=hv.open';have Hadr:=zdB hv.addr;have Hc:=zdB hcell;clear hcell hv hd;obtain⟨n,hn⟩: ∃n,l.length=n:=⟨_,rfl⟩;have Hn:=zdB hn;rw[hn] at hca ⊢;clear hn;go_enter func295,ntmps295;go_wp2
 go_loopw [0] (λs wr=> ∃k:Nat,k<=n/\s= .slice a k cap/\fW (l.take k)=fW l/\Below w.heap.size w wr) (λs _=>match s with| .slice _ k _=>k|_=>0)
 case atStart=>exact⟨n,za0 _,rfl,by rw[zaI (by rw[Hn.out];exact za0 _)],zdC _ _⟩
 case round=>
  obtain⟨k,hk,rfl,ht,hB⟩:=hrel;have Ht:=zdB ht;clear ht;cases k with
  |zero=>
   go_wp2;go_ret;refine⟨_,rfl, ?_,λB h=>h.len,hB⟩;rw[<-Ht.out,zbu,uO];have:=(Rd.take_of (k:=0) (zaA _) (zaA _) hca2 Hc.out Hadr.out.1 Hadr.out.2).below hB;rwa[zbu] at this
  |succ m=>
   have hm:m<l.length:=by rw[Hn.out];omega
   have Hr:=zdB (Rd.take_of (k:=m+1) (by omega) (by omega) hca2 Hc.out Hadr.out.1 Hadr.out.2);obtain⟨b,off,rfl,hb,hc1⟩:=Hc.out m hm;have k1:=(hB.cell (p:=⟨b,off+m,none⟩) hb).trans hc1;clear hc1;by_cases h0:l[m]=0
   ·have c1:((l[m]:Int)==0)=true:=by rw[h0];rfl
    have Ht2:=zdB ((rp hm h0).symm.trans Ht.out);clear h0;go_wp2
    go_roundw
    case rel=>exact⟨m,by omega,rfl,Ht2.out,hB⟩
    case measure=>simp
   ·have c1:((l[m]:Int)==0)=false:=by rw[zdw];omega
    have Ht2:=zdB ((rq hm h0).symm.trans Ht.out);clear h0;go_wp2;go_ret;refine⟨_,rfl, ?_,λB h=>h.len,hB⟩;rw[<-Ht2.out];exact Hr.out.below hB
theorem GQ (s:zdG) (w:World) (J:s.size<=18) (h0:s.data.toList≠ []) (H: ∀c∈s.data.toList,dig c=true):
 Calls prog 220 #[.string s] w λe w'=>e= .returned (.tuple #[.int .i64 (bm s.data.toList:Int), .nilIface])/\Below w.heap.size w w':=by
 refine(strconv_Atoi s _ J (xS h0 H) w).mono ?_;rintro e w' ⟨rfl,t,rfl⟩;exact⟨rfl,Lib.bytesWorld_below w 5 t⟩
theorem AD {B:Nat} (N:o.guard=none) (s x:Operand)
 (ho:o.op= .call {callee:= .builtin .append,args:= #[s,x],argTypes:= #[203,203]}) (hs:a.eval s=v) (J:OwnL am 3 w B v l) (b:Nat) (c:Nat) (u:Value)
 (hx:a.eval x= .slice (some ⟨b,0,none⟩) 1 c) (hc:w.cell? ⟨b,0,none⟩=some u) (y:Nat) (hu:u=am y) (H:l.length+1<=1099511627776) (hB:B<=w.heap.size)
 (h: ∀Y w',OwnL am 3 w' B Y (l++ [y])->Below B w w'->wpList prog ops Q rest (a.put o.dst Y) w'):wpList prog ops Q (o::rest) a w:=
 kZ N s x 203 ho (.int .i64 0) 8 underlying203 aFs rfl du hs J ⟨b,0,none⟩ c u hx hc y hu H (by decide) hB h
def GR (H:List UInt8) (neg:Bool) (w:World) (dv:Value) (wr:World):Prop:=
 ∃(k:Nat) (d:zdG) (L:zdH) (v:Value),dv= .string d/\d.data.toList=H.take k/\k<=H.length/\Blk wr w.heap.size #[.bool false, .slice none 0 0] 205/\Blk wr (w.heap.size+1) #[.bool neg,v] 205/\OwnL am 3 wr (w.heap.size+2) v L/\Below w.heap.size w wr/\
  L.length+k<=H.length+4/\(∀z∈L,z<10000)/\val 10000 L+10000^L.length*bm (H.take k)=bm H
theorem vy (s:zdG) (w:World) (hs:vS s=true):
 Calls prog 232 #[.string s] w λe w'=> ∃v,e= .returned (.agg #[.bool (bf s.data.toList),v])/\Rd am w' v (ae 10000 (nS s).natAbs)/\From w.heap.size v/\Below w.heap.size w w':=by
 rw[show (nS s).natAbs=bm (body s.data.toList) from anF _];obtain⟨a1,a2,a3,a4⟩:=dh hs;have hsz:=dp hs;have hneg: ∀t:zdG,t.data.toList=body s.data.toList->decide (t.size<s.size)=bf s.data.toList:=by
  intro t ht;rw[<-bj t,<-bj s,ht];unfold bf body;by_cases hh:s.data.toList.head? =some 45
  ·rw[if_pos hh,zcY,zdz];have:s.data.toList.length≠0:=by intro e;rw[zau e] at hh;simp at hh
   simp only[hh,iff_true];omega
  ·rw[if_neg hh,zdz];simp[hh]
 have Hneg:=zdB hneg;have Ha3:=zdB a3;obtain⟨neg,en⟩: ∃b,bf s.data.toList=b:=⟨_,rfl⟩;obtain⟨tl,etl⟩: ∃b,body s.data.toList=b:=⟨_,rfl⟩;rw[en] at Hneg ⊢;rw[etl] at a2 Ha3 Hneg ⊢;have Hp:=zdB (mA s);rw[etl] at Hp;clear hneg a1 a3 a4 hs en etl;go_enter func232,ntmps232;go_wp2_with (go_at_call 290;refine(Hp.out _).mono ?_;rintro e w1 ⟨t,rfl,ht,rfl⟩;have hn2:=Hneg.out t ht;rw[<-ht,bj] at a2;have Ht:=zdB ht;clear ht)
 go_loopw [3] (λdv wr=>GR tl neg w dv wr) (λdv _=>match dv with| .string d=>d.size|_=>0)
 case atStart=>
  have h1:=Blk.new w #[.bool false, .slice none 0 0] 205;have h2:=Blk.new (w.alloc (.cells #[.bool false, .slice none 0 0] 205)) #[.bool neg, .slice none 0 0] 205;rw[World.size_alloc] at h2;exact⟨tl.length,t, [], .slice none 0 0,rfl,by rw[Ht.out,List.take_length],za0 _,h1.alloc _,h2,OwnL.nil _ _,((zdC _ w).alloc (za0 _) _).alloc (by simp) _,by simp,by simp,by simp[val,List.take_length]⟩
 case round=>
  obtain⟨k,d,L,v,rfl,hd,hk,hR,hX,hown,hB,hlen,hdig,hval⟩:=hrel;have hdk:d.size=k:=by rw[<-bj,hd,zaE];omega
  have htl:tl.length<=200:=by rw[<-Ht.out,bj];exact a2
  have Hd:=zdB hd;clear hd;have Hdig:=zdB hdig;clear hdig;have Hval:=zdB hval;clear hval;have x0:wr.cell? ⟨w.heap.size+1,0,none⟩=some (.bool neg):=hX.cell rfl;have x1:wr.cell? ⟨w.heap.size+1,1,none⟩=some v:=hX.cell rfl;have f0:=hX.free 0;have f1:=hX.free 1;have r0:wr.cell? ⟨w.heap.size,0,none⟩=some (.bool false):=hR.cell rfl;have r1:wr.cell? ⟨w.heap.size,1,none⟩=some (.slice none 0 0):=hR.cell rfl;have fr0:=hR.free 0;have fr1:=hR.free 1;have hbs:=hB.size;have hxl:=hX.lt;by_cases hk0:k=0
  ·subst hk0;have Hfin:Hid (ae 10000 (val 10000 L)=ae 10000 (bm tl)):=by
    show ae 10000 (val 10000 L)=ae 10000 (bm tl);rw[<-Hval.out,zbu];simp[bm,val]
   go_wp2_with (go_at_call 295;refine(iN L Hdig.out _ _ hown.rd).mono ?_;rw[Hfin.out];rintro e w1 ⟨v1,rfl,hr1,hf1,hb1⟩;obtain⟨ad,cp,rfl,_⟩:=hr1.open';have X1:=hX.below hb1 hxl;have R1:=hR.below hb1 (by omega);have y0:w1.cell? ⟨w.heap.size+1,0,none⟩=some (.bool neg):=X1.cell rfl;have y1:w1.cell? ⟨w.heap.size+1,1,none⟩=some v:=X1.cell rfl;have g1:=X1.free 1;have q0:w1.cell? ⟨w.heap.size,0,none⟩=some (.bool false):=R1.cell rfl;have q1:w1.cell? ⟨w.heap.size,1,none⟩=some (.slice none 0 0):=R1.cell rfl;have h0:=R1.free 0;have h1:=R1.free 1);refine bodyPost_ret (v:= .agg #[.bool neg, .slice ad (ae 10000 (bm tl)).length cp]) (by simp[results,results232,go_sem,q0,q1,h0,h1]) rfl ?_;have hfr:=hf1 _ hown.from
   refine⟨_,rfl, ?_,hfr.mono (by omega), ?_⟩
   ·exact((hr1.setCell hfr (by simp) _).setCell hfr (by simp) _).setCell hfr (by simp) _
   ·exact(((hB.trans (hb1.mono hbs)).setCell (by simp) _).setCell (by simp) _).setCell (by simp) _
  ·have hd0:0<d.size:=by omega
   obtain⟨f,hf⟩: ∃f,k - 4=f:=⟨_,rfl⟩;have hm:max (0:Int) ((k:Int) - 4)=(f:Int):=by omega
   have hfk:f<=k:=by omega
   have hchunk:(d.extract f d.size).data.toList=(tl.take k).drop (k - 4):=by rw[Lib.extract_to_end,Hd.out,hf]
   have hc1:(d.extract f d.size).size<=18:=by rw[<-bj,hchunk,zbQ,zaE];omega
   have hc2:(d.extract f d.size).data.toList≠ []:=by
    intro e;have:=congrArg List.length e;rw[hchunk,zbQ,zaE] at this;simp at this;omega
   have hc3: ∀c∈(d.extract f d.size).data.toList,dig c=true:=by
    rw[hchunk];intro c hc;exact Ha3.out c (zbd (zbD hc))
   have hlt:=FP hk Ha3.out;have hst:=zW hk Hval.out;have hrest:(d.extract 0 f).data.toList=tl.take f:=by
    rw[zdk];simp;rw[Hd.out,List.take_take];congr 1;omega
   rw[hf] at hst;obtain⟨g,hg⟩: ∃g,bm ((tl.take k).drop (k - 4))=g:=⟨_,rfl⟩;rw[hf] at hlt hg hchunk;rw[hg] at hlt hst;have hA: ∀w,Calls prog 220 #[.string (d.extract f d.size)] w λe w'=>e= .returned (.tuple #[.int .i64 (g:Int), .nilIface])/\Below w.heap.size w w':=by
    intro w;have:=GQ _ w hc1 hc2 hc3;rwa[hchunk,hg] at this
   obtain⟨c,hcc⟩: ∃c,d.extract f d.size=c:=⟨_,rfl⟩;obtain⟨d2,hd2⟩: ∃c,d.extract 0 f=c:=⟨_,rfl⟩;rw[hcc] at hA;rw[hd2] at hrest;rw[hdk] at hcc;have HA:=zdB hA;have Hrest:=zdB hrest;have Hst:=zdB hst;have Hf:=zdB hf;clear hc1 hc2 hc3 hchunk hA hrest hst hg hf;have hlL:L.length<=300:=by omega
   go_wp2_with (first
    |(go_at_call 220;refine(HA.out _).mono ?_;rintro e w1 ⟨rfl,hb1⟩;have s1:=hb1.size;have y1:w1.cell? ⟨w.heap.size+1,1,none⟩=some v:=(hb1.cell (p:=⟨w.heap.size+1,1,none⟩) hxl).trans x1)
    |(at_builtin;refine AD rfl _ _ rfl rfl ((hown.belowTo hb1).alloc _) w1.heap.size 1 _ rfl (aP _ _ _) g rfl (by omega) (by simp;omega) ?_;intro v' w2 hown2 hB2;obtain⟨gb,cap,rfl,hgb1,hgb2⟩:=hown2.some_of;have z1:w2.cell? ⟨w.heap.size+1,1,none⟩=some v:=(((hX.below hb1 hxl).alloc _).below hB2 (by omega)).cell rfl;have zf:=(((hX.below hb1 hxl).alloc (.cells #[.int .i64 (g:Int)] 3)).below hB2 (by omega)).free 1))
   go_roundw
   case rel=>
    refine⟨f,d2,_,_,rfl,Hrest.out,by omega, ?_, ?_,hown2.setOther (by simp) _, ?_,by simp;omega, ?_,Hst.out⟩
    ·exact(((hR.below hb1 (by omega)).alloc _).below hB2 (by omega)).setOther (by simp) _
    ·exact(((hX.below hb1 hxl).alloc _).below hB2 (by omega)).set 1 _
    ·exact((hB.trans (hb1.mono hbs)).alloc (zac hbs s1) _|>.trans (hB2.mono (by omega))).setCell (by simp) _
    ·intro z hz;rcases za8.1 hz with h|h
     ·exact Hdig.out z h
     ·simp at h;omega
   case measure=>
    have e1:d2.size=f:=by rw[<-bj,Hrest.out,zaE];omega
    simp only[e1,hdk];have:=Hf.out;omega
attribute [local go_sem] Oper.semAt_some
theorem Q1 (x y:Int) (w:World):Calls prog 294 #[.int .i64 x, .int .i64 y] w λe w'=>e= .returned (.int .i64 (VQ x y))/\w=w':=by
 refine(cmp_Compare_int x y w).mono ?_;rintro e w' ⟨rfl,rfl⟩;exact⟨rfl,rfl⟩
theorem wL (x y:Nat) (aa ab:Option Addr) (ca cb:Nat) (w:World) (ha:Rd am w (.slice aa (ae 10000 x).length ca) (ae 10000 x)) (hb:Rd am w (.slice ab (ae 10000 y).length cb) (ae 10000 y)) (hlen:(ae 10000 x).length=(ae 10000 y).length) (hx:(ae 10000 x).length<=1000):
 Calls prog 228 #[.slice aa (ae 10000 x).length ca, .slice ab (ae 10000 y).length cb] w λe w'=>e= .returned (.int .i64 (dB x y))/\Below w.heap.size w w':=by
 have hsa:=hb.addr;obtain⟨n,hn⟩: ∃n,(ae 10000 x).length=n:=⟨_,rfl⟩;have Hn:=zdB hn;have Hm:=zdB (hlen.symm.trans hn);have Ha:=zdB ha;have Hb:=zdB hb;rw[<-hlen];rw[hn] at hx ⊢;have hc:((n:Int) !=n)=false:=by simp
 clear hlen hn ha hb hsa;refine(callsIn_wide (n:=5)).1 ?_;refine callsIn_of_wp_marks func228 rfl trivial ?_ rfl;simp only[ntmps228,zbp,za4,za9,Nat.reduceAdd,Nat.reduceSub,zbS,zbT,zbU,zbV,zaM,zaO]
 gi_wp2_with (refine⟨trivial, ?_⟩;gi_at_call 235;refine(callsIn_wide.2 (gD _ _ _ _)).mono ?_;rintro e w' ⟨rfl,rfl⟩)
 have hM0:Blk (((w.alloc (.cells #[.slice ab n cb] 203)).alloc (.cells #[.int .i64 0] 3)).alloc (.cells #[.slice aa n ca] 203)) w.heap.size #[.slice ab n cb] 203:=((Blk.new w _ _).alloc _).alloc _;have hR0:Blk (((w.alloc (.cells #[.slice ab n cb] 203)).alloc (.cells #[.int .i64 0] 3)).alloc (.cells #[.slice aa n ca] 203)) (w.heap.size+1) #[.int .i64 0] 3:=(Blk.newAt _ _ _ (by simp)).alloc _;have hS0:Blk (((w.alloc (.cells #[.slice ab n cb] 203)).alloc (.cells #[.int .i64 0] 3)).alloc (.cells #[.slice aa n ca] 203)) (w.heap.size+1+1) #[.slice aa n ca] 203:=Blk.newAt _ _ _ (by simp);have hB0:Below w.heap.size w (((w.alloc (.cells #[.slice ab n cb] 203)).alloc (.cells #[.int .i64 0] 3)).alloc (.cells #[.slice aa n ca] 203)):=(((zdC _ w).alloc (za0 _) _).alloc (by simp) _).alloc (by simp;omega) _;have hsz:w.heap.size+1+1+1=(((w.alloc (.cells #[.slice ab n cb] 203)).alloc (.cells #[.int .i64 0] 3)).alloc (.cells #[.slice aa n ca] 203)).heap.size:=by simp
 generalize (((w.alloc (.cells #[.slice ab n cb] 203)).alloc (.cells #[.int .i64 0] 3)).alloc (.cells #[.slice aa n ca] 203))=W0 at*
 refine qM (by omega) (w.heap.size+1+1) w.heap.size rfl (.slice aa n ca) (ae 10000 x) (by rw[Hn.out];omega) hS0.lt (by omega) (hS0.cell rfl) ?rd ?fr rfl
  (λpre W=>((∀p∈pre,(ae 10000 y)[p.1.1]? =some p.1.2)/\Blk W w.heap.size #[.slice ab n cb] 203/\Blk W (w.heap.size+1) #[.int .i64 0] 3)/\Below w.heap.size w W)
  (λc pre W=>(c= .ret/\ ∃(ini:List (cf (ae 10000 x))) (last:cf (ae 10000 x)) (d:Nat),pre=ini++ [last]/\(∀p∈ini,(ae 10000 y)[p.1.1]? =some p.1.2)/\(ae 10000 y)[last.1.1]? =some d/\last.1.2≠d/\Blk W (w.heap.size+1) #[.int .i64 (VQ (last.1.2:Int) (d:Int))] 3)/\Below w.heap.size w W)
  ?own ?ownx ?start (λp t=>(((t.setIfInBounds 19 (.int .i64 (p.1.1:Int))).setIfInBounds 20 (.int .i64 (p.1.2:Int))).setIfInBounds 5 (.int .i64 (p.1.1:Int))).setIfInBounds 6 (.int .i64 (p.1.2:Int))) ?assign ?body ?done ?stop
 case rd=>have:=Ha.out.below hB0;rwa[Hn.out] at this
 case fr=>
  intro k hk;have:=Ha.out;rw[Hn.out] at this;rcases this with ⟨h,_⟩|⟨b,off,cap,h,hb,_⟩
  ·cases h;cases hk
  ·cases h;cases hk;exact hb
 case own=>exact OwnFrom.and (Own.from (λs A B row hs hg hr=>⟨hs.1,hs.2.1.kept hg hr,hs.2.2.kept hg hr⟩) _) (ownFrom_below (za0 _) (by omega))
 case ownx=>exact λc=>OwnFrom.and (Own.from (λs A B row hs hg hr=>by obtain⟨e,ini,last,d,h1,h2,h3,h4,h5⟩:=hs;exact⟨e,ini,last,d,h1,h2,h3,h4,h5.kept hg hr⟩) _) (ownFrom_below (za0 _) (by omega))
 case start=>exact⟨⟨by simp,hM0,hR0⟩,hB0⟩
 case assign=>
  intro l x W K hK;simp only[zbk,zaR,zba] at hK
  gi_wp2
  exact hK
 case body=>
  rintro l pre p W ⟨⟨hpre,hM,hR⟩,hB⟩ _;simp only[zbk,zaR,zba];have hin:=(zaV.1 p.2).1;rw[Hn.out] at hin;obtain⟨bb,ob,rfl,hbb,hc2⟩: ∃b off,ab=some ⟨b,off,none⟩/\b<w.heap.size/\w.cell? ⟨b,off+p.1.1,none⟩=some (am ((ae 10000 y)[p.1.1]'(by rw[Hm.out];exact hin))):=by
   obtain⟨a',c',e,_,_,hcell⟩:=Hb.out.open';injection e with e1 e2 e3
   subst e1;exact hcell p.1.1 (by rw[Hm.out];exact hin)
  obtain⟨d,hd⟩: ∃d,(ae 10000 y)[p.1.1]'(by rw[Hm.out];exact hin)=d:=⟨_,rfl⟩;have Hd:=zdB (show (ae 10000 y)[p.1.1]? =some d by rw[zaa (by rw[Hm.out];exact hin),hd]);have k2:=(hB.cell (p:=⟨bb,ob+p.1.1,none⟩) hbb).trans hc2;rw[hd] at k2;have m0:W.cell? ⟨w.heap.size,0,none⟩=some (.slice (some ⟨bb,ob,none⟩) n cb):=hM.cell rfl;have r0:W.cell? ⟨w.heap.size+1,0,none⟩=some (.int .i64 0):=hR.cell rfl;have rf:=hR.free 0;have Hpre:=zdB hpre;clear hpre hc2 hd;by_cases hne:p.1.2=d
  ·have c1:((p.1.2:Int) !=(d:Int))=false:=by simp[hne]
   gi_wp2
   exact⟨KeepsFrom.refl _ _,KpB.refl _ _ _,⟨λq hq=>(za8.1 hq).elim (Hpre.out q) (λe=>by simp at e;subst e;rw[Hd.out,hne]),hM,hR⟩,hB⟩
  ·have c1:((p.1.2:Int) !=(d:Int))=true:=by rw[zdA];omega
   gi_wp2_with (refine⟨trivial, ?_⟩;gi_at_call 294;refine(CallsIn.inRound l (callsIn_wide.2 (Q1 _ _ _))).mono ?_;rintro e w' ⟨rfl,rfl⟩)
   exact⟨(KeepsOthers.setCell _ _ _).from _,⟨rfl,pre,p,d,rfl,Hpre.out,Hd.out,hne,hR.set 0 _⟩,hB.setCell (by simp) _⟩
 case done=>
  rintro D ys W hD hys ⟨⟨hall,hM,hR⟩,hB⟩ hK;have r0:W.cell? ⟨w.heap.size+1,0,none⟩=some (.int .i64 0):=hR.cell rfl;have rf:=hR.free 0;have hxy:x=y:=by
   have h5:=Cr (l:=ae 10000 x) (m:=ae 10000 y) (by rw[Hn.out,Hm.out]) (za0 _) hys hall;rw[zaJ,zaZ,zaZ] at h5;exact nI (by decide) h5
  have Hxy:=zdB hxy;clear hxy hys hall
  gi_wp2
  have hK':=(KeepsOthers.setCell W ⟨w.heap.size+1,0,none⟩ (.int .i64 0)).same D _ hK rfl;refine⟨by simp, .inl ⟨_,_,rfl,run_takeDeferred hK', ?_⟩⟩;have hR2:=(hR.set 0 (.int .i64 0)).kept (grownBy_putObj' _ D (.deferred none)) (λr e=>by cases e;exact⟨_,hK',rfl⟩);have hc5:((W.setCell ⟨w.heap.size+1,0,none⟩ (.int .i64 0)).putObj D (.deferred none)).cell? ⟨w.heap.size+1,0,none⟩=some (.int .i64 0):=hR2.cell rfl;refine⟨.int .i64 0, ?_,ze (BT Hxy.out).symm,(hB.setCell (by simp) _).trans (belowK_b (w:=w) (za0 _) _ D _ _ (by omega) hK' rfl rfl)⟩;simp[results,f228,go_sem,hc5]
 case stop=>
  rintro D c pre W hD ⟨k,hk,hpre⟩ ⟨⟨rfl,ini,last,d,rfl,hini,hd,hne,hR⟩,hB⟩ hK;have hcmp:dB x y=VQ (last.1.2:Int) (d:Int):=by
   obtain⟨j,rfl,e1,e2⟩:=Ku hpre;have h5:=Cr (by rw[Hn.out,Hm.out]) (by omega) e1 hini;have hlx:=last.2;rw[e2] at hlx hd;have hj1:(ae 10000 x).length - 1 - j<(ae 10000 x).length:=by omega
   have hj2:(ae 10000 x).length - 1 - j<(ae 10000 y).length:=by rw[Hm.out,Hn.out] at*;omega
   have ex:=(zaV.1 hlx).2;have ey:=(zaV.1 hd).2;have e3:(ae 10000 x).length - j=(ae 10000 x).length - 1 - j+1:=by omega
   rw[e3] at h5;rw[iM];by_cases hlt:last.1.2<d
   ·rw[jN hlt,jN (lD (by decide) hj1 hj2 h5 (by rw[ex,ey];exact hlt))]
   ·rw[jO (show d<last.1.2 by omega),jO (lD (by decide) hj2 hj1 h5.symm (by rw[ex,ey];omega))]
  have Hcmp:=zdB hcmp;clear hcmp
  gi_wp2
  refine⟨by simp, .inl ⟨_,_,rfl,run_takeDeferred hK, ?_⟩⟩;have hR2:=hR.kept (grownBy_putObj' _ D (.deferred none)) (λr e=>by cases e;exact⟨_,hK,rfl⟩);have hc5:(W.putObj D (.deferred none)).cell? ⟨w.heap.size+1,0,none⟩=some (.int .i64 (VQ (last.1.2:Int) (d:Int))):=hR2.cell rfl;refine⟨.int .i64 (VQ (last.1.2:Int) (d:Int)), ?_,ze Hcmp.out.symm,hB.trans (belowK_b (w:=w) (za0 _) _ D _ _ (by omega) hK rfl rfl)⟩;simp[results,f228,go_sem,hc5]
theorem gc (x y:Nat) (va vb:Value) (w:World) (ha:Rd am w va (ae 10000 x)) (hb:Rd am w vb (ae 10000 y)) (hx:(ae 10000 x).length<=1000):
 Calls prog 228 #[va,vb] w λe w'=>e= .returned (.int .i64 (dB x y))/\Below w.heap.size w w':=by
 obtain⟨aa,ca,rfl,_⟩:=ha.open';obtain⟨ab,cb,rfl,_⟩:=hb.open';by_cases hlen:(ae 10000 x).length=(ae 10000 y).length
 ·exact wL x y aa ab ca cb w ha hb hlen hx
 ·have hcmp:VQ ((ae 10000 x).length:Int) ((ae 10000 y).length:Int)=dB x y:=by
   rw[iM];by_cases hlt:(ae 10000 x).length<(ae 10000 y).length
   ·rw[jN hlt,jN (fX (B:=10000) (by decide) hlt)]
   ·have hgt:(ae 10000 y).length<(ae 10000 x).length:=by omega
    rw[jO hgt,jO (fX (B:=10000) (by decide) hgt)]
  obtain⟨n,hn⟩: ∃n,(ae 10000 x).length=n:=⟨_,rfl⟩;obtain⟨m,hm⟩: ∃n,(ae 10000 y).length=n:=⟨_,rfl⟩;rw[hn,hm] at hcmp hlen ⊢;have hc:((n:Int) !=m)=true:=by rw[zdA];omega
  have Hcmp:=zdB hcmp;clear hn hm hcmp ha hb hlen hx;go_enter func228,ntmps228;go_wp2_with (go_at_call 294;refine(Q1 _ _ _).mono ?_;rw[Hcmp.out];rintro e w' ⟨rfl,rfl⟩);refine bodyPost_ret (v:= .int .i64 (dB x y)) (by simp[results,results228,go_sem]) rfl ⟨rfl, ?_⟩;exact((zdC _ w).alloc (za0 _) _).alloc (by simp) _
theorem NO (l:zdH) (v:Value) (i:Nat) (w:World) (hv:Rd am w v l) (hi:i<=1099511627776):
 Calls prog 304 #[v, .int .i64 i] w λe w'=>e= .returned (.int .i64 (l.getD i 0:Nat))/\w=w':=by
 obtain⟨a,c,rfl,h1,h2,hc⟩:=hv.open';by_cases hl:i<l.length
 ·obtain⟨b,off,rfl,hb,k1⟩:=hc i hl;have e1:l.getD i 0=l[i]:=by simp[List.getD,zaa hl]
  rw[e1];obtain⟨d,hd⟩: ∃d,l[i]=d:=⟨_,rfl⟩;rw[hd] at k1 ⊢;clear e1 hd hc hv;go_enter func304,ntmps304;go_wp2;go_ret;exact⟨rfl,rfl⟩
 ·have e1:l.getD i 0=0:=by simp[List.getD,zad (show l.length<=i by omega)]
  rw[e1];clear e1 hc hv;go_enter func304,ntmps304;go_wp2;go_ret;exact⟨rfl,rfl⟩
def Ct (n:Nat) (d:Nat->Int) (w:World) (carry out i:Value) (wr:World):Prop:=
 ∃(k:Nat) (c:Int) (l:zdH),i= .int .i64 k/\carry= .int .i64 c/\OwnL am 3 wr w.heap.size out l/\Below w.heap.size w wr/\l.length=k/\(∀z∈l,z<10000)/\ -1<=c/\c<=9999/\
  (val 10000 l:Int)+((10000^k:Nat):Int)*c=aO 10000 d k/\(k<=n\/(c=0/\k<=n+1))
theorem dM {r:Nat} {d:Nat->Int} {w1:World} {c c':Int} {out i' cv:Value}
 (hl:l.length=k) (hd: ∀z∈l,z<10000) (hv:(val 10000 l:Int)+((10000^k:Nat):Int)*c=aO 10000 d k) (h1:d k+c=(r:Int)+10000*c') (hr:r<10000) (Y: -1<=c') (a0:c'<=9999)
 (i0:k<n\/c≠0) (hz: ∀i,n<=i->d i=0) (j0: -1<=c) (l0:c<=9999) (hS:0<=aO 10000 d n) (H:k<=n\/(c=0/\k<=n+1))
 (J:OwnL am 3 w1 w.heap.size out (l++ [r])) (hB:Below w.heap.size w w1) (hi:i'= .int .i64 ((k+1:Nat):Int)) (e0:cv= .int .i64 c'):Ct n d w cv out i' w1:=by
 refine⟨k+1,c',_,hi,e0,J,hB,by simp[hl], ?_,Y,a0,Dv hv hl h1, ?_⟩
 ·intro z hm;rcases za8.1 hm with h|h
  ·exact hd z h
  ·simp at h;omega
 ·by_cases hk:k<n
  ·exact .inl hk
  ·have N:c≠0:=i0.resolve_left hk;rcases H with h|h
   ·have H:k=n:=by omega
    subst H;have g0:=hz k (za0 _);rw[g0] at h1;have n0:c≠ -1:=by
     intro e;subst e;exact rx hv hl hd hS
    exact .inr ⟨by omega,za0 _⟩
   ·exact absurd h.1 N
theorem sZ (gf:Nat) (p1 p2:Value) (eg: ∀args w,(callFunc gf args).run prog w= .ok (.enter gf args) w) (n:Nat) (d:Nat->Int) (w:World) (hn:n<=1000) (hd: ∀i, -9999<=d i/\d i<=99980001) (hz: ∀i,n<=i->d i=0) (hS:0<=aO 10000 d n)
 (hg: ∀(i:Nat) W,i<=n+1->Below w.heap.size w W->Calls prog gf #[.int .i64 i,p1,p2] W λe W'=>e= .returned (.int .i64 (d i))/\Below W.heap.size W W'):
 Calls prog 302 #[.int .i64 n, .int .i64 0, .func (.func gf) #[] #[p1,p2]] w λe w'=> ∃v,e= .returned v/\ ∃l,Rd am w' v l/\From w.heap.size v/\(∀z∈l,z<10000)/\(val 10000 l:Int)=aO 10000 d n/\Below w.heap.size w w':=by
 have Hg:=zdB hg;have Hd:=zdB hd;have Hz:=zdB hz;have HS:=zdB hS;clear hg hd hz hS;obtain⟨i0,hi,hz0,hz1,hz2⟩:=info_parts aFs;go_enter func302,ntmps302;go_wp2_with (at_make;refine wpList_make_own _ rfl _ _ 203 rfl w.heap.size 3 i0 (.int .i64 0) 1 underlying203 hi hz0 hz1 .i64 .i64 _ (n+1) rfl rfl (by omega) (by rw[hz2];omega) (by simp only[maxLen];omega) (za0 _) ?_;intro w1 hown1 hgrow1);have hB1:Below w.heap.size w w1:=(zdC _ w).grown hgrow1 (za0 _) (λk hk=>by cases hk)
 go_loopw [1,7,8] (λcarry out i wr=>Ct n d w carry out i wr) (λ_ _ i _=>(n+2 - intOf i).toNat)
 case atStart=>exact⟨0,0, [],rfl,rfl,hown1,hB1,rfl,by simp,by omega,by omega,by simp[val,aO], .inl (zaA _)⟩
 case round=>
  obtain⟨k,c,l,rfl,rfl,hown,hB,hl,hdg,hc1,hc2,hv,hkn⟩:=hrel;have Hl:=zdB hl;clear hl;have Hdg:=zdB hdg;clear hdg;have Hv:=zdB hv;clear hv;clear hown1 hgrow1 hB1;have hbs:=hB.size;by_cases hin:k<n\/c≠0
  ·have hdk:=Hd.out k;have hlen:l.length<=n+2:=by rw[Hl.out];omega
   by_cases hkn0:k<n
   ·have hin:k<n\/c≠0:= .inl hkn0;by_cases hneg:d k+c<0
    ·
     obtain⟨r,er⟩: ∃r:Nat,(d k+c+10000).toNat=r:=⟨_,rfl⟩;obtain⟨q,eq⟩: ∃q:Int,(-1)=q:=⟨_,rfl⟩;have hE:=zdB (show d k+c=(r:Int)+10000*q by omega);have hr1:r<10000:=by omega
     have hq1:q<= -1/\ -1<=q:=by omega
     have Hq:=zdB (show -1<=q/\q<=9999 by omega);obtain⟨e,he⟩: ∃e,d k=e:=⟨_,rfl⟩;have hgk:=λh1 h2=>Hg.out k wr h1 h2;rw[he] at hgk hdk;have he1:e+c<=(r:Int)+10000*q:=by have:=hE.out;omega
     have he2:(r:Int)+10000*q<=e+c:=by have:=hE.out;omega
     have Hgk:=zdB hgk;have Hin:=zdB hin;clear hgk he hin er eq hneg;go_wp2_with (first|((with_reducible refine(Hgk.out (by omega) hB).mono ?_);rintro _ w2 ⟨rfl,hb2⟩;have hs2:=hb2.size)|(at_builtin;refine AD rfl _ _ rfl rfl ((hown.belowTo hb2).alloc _) w2.heap.size 1 _ rfl (aP _ _ _) r (int_eq (by omega)) (by omega) (by simp;omega) ?_;intro v' w3 hown3 hB3))
     go_roundw
     case rel=>exact dM Hl.out Hdg.out Hv.out hE.out hr1 Hq.out.1 Hq.out.2 Hin.out Hz.out hc1 hc2 HS.out hkn hown3 (((hB.trans (hb2.mono hB.size)).alloc (by omega) _).trans hB3) (int_eq (by omega)) (int_eq (by omega))
     case measure=>simp[intOf];omega
    ·by_cases hbig:10000<=d k+c
     ·
      obtain⟨r,er⟩: ∃r:Nat,((d k+c)%10000).toNat=r:=⟨_,rfl⟩;obtain⟨q,eq⟩: ∃q:Int,((d k+c) / 10000)=q:=⟨_,rfl⟩;have hE:=zdB (show d k+c=(r:Int)+10000*q by omega);have hr1:r<10000:=by omega
      have hq1:1<=q:=by omega
      have Hq:=zdB (show -1<=q/\q<=9999 by omega);obtain⟨e,he⟩: ∃e,d k=e:=⟨_,rfl⟩;have hgk:=λh1 h2=>Hg.out k wr h1 h2;rw[he] at hgk hdk;have he1:e+c<=(r:Int)+10000*q:=by have:=hE.out;omega
      have he2:(r:Int)+10000*q<=e+c:=by have:=hE.out;omega
      have Hgk:=zdB hgk;have Hin:=zdB hin;clear hgk he hin er eq hneg hbig;go_wp2_with (first|((with_reducible refine(Hgk.out (by omega) hB).mono ?_);rintro _ w2 ⟨rfl,hb2⟩;have hs2:=hb2.size)|(at_builtin;refine AD rfl _ _ rfl rfl ((hown.belowTo hb2).alloc _) w2.heap.size 1 _ rfl (aP _ _ _) r (int_eq (by omega)) (by omega) (by simp;omega) ?_;intro v' w3 hown3 hB3))
      go_roundw
      case rel=>exact dM Hl.out Hdg.out Hv.out hE.out hr1 Hq.out.1 Hq.out.2 Hin.out Hz.out hc1 hc2 HS.out hkn hown3 (((hB.trans (hb2.mono hB.size)).alloc (by omega) _).trans hB3) (int_eq (by omega)) (int_eq (by omega))
      case measure=>simp[intOf];omega
     ·
      obtain⟨r,er⟩: ∃r:Nat,(d k+c).toNat=r:=⟨_,rfl⟩;obtain⟨q,eq⟩: ∃q:Int,(0:Int)=q:=⟨_,rfl⟩;have hE:=zdB (show d k+c=(r:Int)+10000*q by omega);have hr1:r<10000:=by omega
      have hq1:q<=0/\0<=q:=by omega
      have Hq:=zdB (show -1<=q/\q<=9999 by omega);obtain⟨e,he⟩: ∃e,d k=e:=⟨_,rfl⟩;have hgk:=λh1 h2=>Hg.out k wr h1 h2;rw[he] at hgk hdk;have he1:e+c<=(r:Int)+10000*q:=by have:=hE.out;omega
      have he2:(r:Int)+10000*q<=e+c:=by have:=hE.out;omega
      have Hgk:=zdB hgk;have Hin:=zdB hin;clear hgk he hin er eq hneg hbig;go_wp2_with (first|((with_reducible refine(Hgk.out (by omega) hB).mono ?_);rintro _ w2 ⟨rfl,hb2⟩;have hs2:=hb2.size)|(at_builtin;refine AD rfl _ _ rfl rfl ((hown.belowTo hb2).alloc _) w2.heap.size 1 _ rfl (aP _ _ _) r (int_eq (by omega)) (by omega) (by simp;omega) ?_;intro v' w3 hown3 hB3))
      go_roundw
      case rel=>exact dM Hl.out Hdg.out Hv.out hE.out hr1 Hq.out.1 Hq.out.2 Hin.out Hz.out hc1 hc2 HS.out hkn hown3 (((hB.trans (hb2.mono hB.size)).alloc (by omega) _).trans hB3) (int_eq (by omega)) (int_eq (by omega))
      case measure=>simp[intOf];omega
   ·have hin:k<n\/c≠0:=hin;have hc0:((c:Int) !=0)=true:=by rw[zdA];omega
    by_cases hneg:d k+c<0
    ·
     obtain⟨r,er⟩: ∃r:Nat,(d k+c+10000).toNat=r:=⟨_,rfl⟩;obtain⟨q,eq⟩: ∃q:Int,(-1)=q:=⟨_,rfl⟩;have hE:=zdB (show d k+c=(r:Int)+10000*q by omega);have hr1:r<10000:=by omega
     have hq1:q<= -1/\ -1<=q:=by omega
     have Hq:=zdB (show -1<=q/\q<=9999 by omega);obtain⟨e,he⟩: ∃e,d k=e:=⟨_,rfl⟩;have hgk:=λh1 h2=>Hg.out k wr h1 h2;rw[he] at hgk hdk;have he1:e+c<=(r:Int)+10000*q:=by have:=hE.out;omega
     have he2:(r:Int)+10000*q<=e+c:=by have:=hE.out;omega
     have Hgk:=zdB hgk;have Hin:=zdB hin;clear hgk he hin er eq hneg;go_wp2_with (first|((with_reducible refine(Hgk.out (by omega) hB).mono ?_);rintro _ w2 ⟨rfl,hb2⟩;have hs2:=hb2.size)|(at_builtin;refine AD rfl _ _ rfl rfl ((hown.belowTo hb2).alloc _) w2.heap.size 1 _ rfl (aP _ _ _) r (int_eq (by omega)) (by omega) (by simp;omega) ?_;intro v' w3 hown3 hB3))
     go_roundw
     case rel=>exact dM Hl.out Hdg.out Hv.out hE.out hr1 Hq.out.1 Hq.out.2 Hin.out Hz.out hc1 hc2 HS.out hkn hown3 (((hB.trans (hb2.mono hB.size)).alloc (by omega) _).trans hB3) (int_eq (by omega)) (int_eq (by omega))
     case measure=>simp[intOf];omega
    ·by_cases hbig:10000<=d k+c
     ·
      obtain⟨r,er⟩: ∃r:Nat,((d k+c)%10000).toNat=r:=⟨_,rfl⟩;obtain⟨q,eq⟩: ∃q:Int,((d k+c) / 10000)=q:=⟨_,rfl⟩;have hE:=zdB (show d k+c=(r:Int)+10000*q by omega);have hr1:r<10000:=by omega
      have hq1:1<=q:=by omega
      have Hq:=zdB (show -1<=q/\q<=9999 by omega);obtain⟨e,he⟩: ∃e,d k=e:=⟨_,rfl⟩;have hgk:=λh1 h2=>Hg.out k wr h1 h2;rw[he] at hgk hdk;have he1:e+c<=(r:Int)+10000*q:=by have:=hE.out;omega
      have he2:(r:Int)+10000*q<=e+c:=by have:=hE.out;omega
      have Hgk:=zdB hgk;have Hin:=zdB hin;clear hgk he hin er eq hneg hbig;go_wp2_with (first|((with_reducible refine(Hgk.out (by omega) hB).mono ?_);rintro _ w2 ⟨rfl,hb2⟩;have hs2:=hb2.size)|(at_builtin;refine AD rfl _ _ rfl rfl ((hown.belowTo hb2).alloc _) w2.heap.size 1 _ rfl (aP _ _ _) r (int_eq (by omega)) (by omega) (by simp;omega) ?_;intro v' w3 hown3 hB3))
      go_roundw
      case rel=>exact dM Hl.out Hdg.out Hv.out hE.out hr1 Hq.out.1 Hq.out.2 Hin.out Hz.out hc1 hc2 HS.out hkn hown3 (((hB.trans (hb2.mono hB.size)).alloc (by omega) _).trans hB3) (int_eq (by omega)) (int_eq (by omega))
      case measure=>simp[intOf];omega
     ·
      obtain⟨r,er⟩: ∃r:Nat,(d k+c).toNat=r:=⟨_,rfl⟩;obtain⟨q,eq⟩: ∃q:Int,(0:Int)=q:=⟨_,rfl⟩;have hE:=zdB (show d k+c=(r:Int)+10000*q by omega);have hr1:r<10000:=by omega
      have hq1:q<=0/\0<=q:=by omega
      have Hq:=zdB (show -1<=q/\q<=9999 by omega);obtain⟨e,he⟩: ∃e,d k=e:=⟨_,rfl⟩;have hgk:=λh1 h2=>Hg.out k wr h1 h2;rw[he] at hgk hdk;have he1:e+c<=(r:Int)+10000*q:=by have:=hE.out;omega
      have he2:(r:Int)+10000*q<=e+c:=by have:=hE.out;omega
      have Hgk:=zdB hgk;have Hin:=zdB hin;clear hgk he hin er eq hneg hbig;go_wp2_with (first|((with_reducible refine(Hgk.out (by omega) hB).mono ?_);rintro _ w2 ⟨rfl,hb2⟩;have hs2:=hb2.size)|(at_builtin;refine AD rfl _ _ rfl rfl ((hown.belowTo hb2).alloc _) w2.heap.size 1 _ rfl (aP _ _ _) r (int_eq (by omega)) (by omega) (by simp;omega) ?_;intro v' w3 hown3 hB3))
      go_roundw
      case rel=>exact dM Hl.out Hdg.out Hv.out hE.out hr1 Hq.out.1 Hq.out.2 Hin.out Hz.out hc1 hc2 HS.out hkn hown3 (((hB.trans (hb2.mono hB.size)).alloc (by omega) _).trans hB3) (int_eq (by omega)) (int_eq (by omega))
      case measure=>simp[intOf];omega
  ·have h1: ¬k<n:=λh=>hin (.inl h);obtain rfl:c=0:=by omega
   go_wp2;go_ret;refine⟨_,rfl,l,hown.rd,hown.from,Hdg.out, ?_,hB⟩;rw[FQ Hv.out];exact oX Hz.out k (by omega)
theorem oq (l:zdH) (v:Value) (i:Nat) (w:World) (H:Rd am w v l) (hi:i<=1099511627776):
 Calls prog 304 #[v, .int .i64 i] w λe w'=>e= .returned (.int .i64 (l.getD i 0:Nat))/\w'=w:=
 (NO l v i w H hi).mono λ_ _ h=>⟨h.1,h.2.symm⟩
theorem Eg (l m:zdH) (va vb:Value) (i:Nat) (a b:Addr) (w:World) (ha:w.cell? a=some va) (hb:w.cell? b=some vb) (hva:Rd am w va l) (hvb:Rd am w vb m) (hi:i<=1099511627776) (hl: ∀z∈l,z<10000) (hm: ∀z∈m,z<10000):
 Calls prog 303 #[.int .i64 i, .pointer (some a), .pointer (some b)] w λe w'=>e= .returned (.int .i64 ((l.getD i 0:Nat)+(m.getD i 0:Nat):Int))/\Below w.heap.size w w':=by
 have Ha:=zdB (λq=>oq l va i (w.drewN q) (hva.below ((zdC _ w).drewN q)) hi);have Hb:=zdB (λq=>oq m vb i (w.drewN q) (hvb.below ((zdC _ w).drewN q)) hi);obtain⟨aa,ca,rfl,_⟩:=hva.open';obtain⟨ab,cb,rfl,_⟩:=hvb.open';have h1:l.getD i 0<10000:=by
  by_cases h:i<l.length
  ·rw[List.getD,zaa h];exact hl _ (zas h)
  ·rw[List.getD,zad (by omega)];decide
 have h2:m.getD i 0<10000:=by
  by_cases h:i<m.length
  ·rw[List.getD,zaa h];exact hm _ (zas h)
  ·rw[List.getD,zad (by omega)];decide
 obtain⟨x,hx⟩: ∃x,l.getD i 0=x:=⟨_,rfl⟩;obtain⟨y,hy⟩: ∃x,m.getD i 0=x:=⟨_,rfl⟩;rw[hx] at h1 Ha ⊢;rw[hy] at h2 Hb ⊢;clear hx hy hl hm hva hvb;have hw1:IntKind.i64.wrap ((x:Int)+(y:Int))=(x:Int)+y:=IntWalk.i64_in _ (by omega);go_enter func303,ntmps303;go_wp2_with fail
 go_quiet ((first|(go_at_call 304;with_reducible exact Calls.quiet_of_same (Ha.out _))|(go_at_call 304;with_reducible exact Calls.quiet_of_same (Hb.out _))))
 go_wp2;go_ret;exact⟨rfl,(zdC _ _).drewN _⟩
theorem AE (l m:zdH) (va vb:Value) (i:Nat) (a b:Addr) (w:World) (ha:w.cell? a=some va) (hb:w.cell? b=some vb) (hva:Rd am w va l) (hvb:Rd am w vb m) (hi:i<=1099511627776) (hl: ∀z∈l,z<10000) (hm: ∀z∈m,z<10000):
 Calls prog 305 #[.int .i64 i, .pointer (some a), .pointer (some b)] w λe w'=>e= .returned (.int .i64 ((l.getD i 0:Nat) - (m.getD i 0:Nat):Int))/\Below w.heap.size w w':=by
 have Ha:=zdB (λq=>oq l va i (w.drewN q) (hva.below ((zdC _ w).drewN q)) hi);have Hb:=zdB (λq=>oq m vb i (w.drewN q) (hvb.below ((zdC _ w).drewN q)) hi);obtain⟨aa,ca,rfl,_⟩:=hva.open';obtain⟨ab,cb,rfl,_⟩:=hvb.open';have h1:l.getD i 0<10000:=by
  by_cases h:i<l.length
  ·rw[List.getD,zaa h];exact hl _ (zas h)
  ·rw[List.getD,zad (by omega)];decide
 have h2:m.getD i 0<10000:=by
  by_cases h:i<m.length
  ·rw[List.getD,zaa h];exact hm _ (zas h)
  ·rw[List.getD,zad (by omega)];decide
 obtain⟨x,hx⟩: ∃x,l.getD i 0=x:=⟨_,rfl⟩;obtain⟨y,hy⟩: ∃x,m.getD i 0=x:=⟨_,rfl⟩;rw[hx] at h1 Ha ⊢;rw[hy] at h2 Hb ⊢;clear hx hy hl hm hva hvb;have hw1:IntKind.i64.wrap ((x:Int) - (y:Int))=(x:Int) - y:=IntWalk.i64_in _ (by omega);go_enter func305,ntmps305;go_wp2_with fail
 go_quiet ((first|(go_at_call 304;with_reducible exact Calls.quiet_of_same (Ha.out _))|(go_at_call 304;with_reducible exact Calls.quiet_of_same (Hb.out _))))
 go_wp2;go_ret;exact⟨rfl,(zdC _ _).drewN _⟩
theorem Kx (l:zdH) (va:Value) (n i:Nat) (a b:Addr) (w:World) (ha:w.cell? a=some va) (hb:w.cell? b=some (.int .i64 (n:Int))) (hva:Rd am w va l) (hi:i<=1099511627776) (hl: ∀z∈l,z<10000) (hn:n<10000):
 Calls prog 353 #[.int .i64 i, .pointer (some a), .pointer (some b)] w λe w'=>e= .returned (.int .i64 ((l.getD i 0:Nat)*n:Int))/\Below w.heap.size w w':=by
 have Ha:=zdB (λq=>oq l va i (w.drewN q) (hva.below ((zdC _ w).drewN q)) hi);obtain⟨aa,ca,rfl,_⟩:=hva.open';have h1:l.getD i 0<10000:=by
  by_cases h:i<l.length
  ·rw[List.getD,zaa h];exact hl _ (zas h)
  ·rw[List.getD,zad (by omega)];decide
 obtain⟨x,hx⟩: ∃x,l.getD i 0=x:=⟨_,rfl⟩;rw[hx] at h1 Ha ⊢;clear hx hl hva;have h5:x*n<=9999*9999:=zb4 (by omega) (by omega);have hw1:IntKind.i64.wrap ((x:Int)*(n:Int))=(x:Int)*n:=IntWalk.i64_in _ (by rw[<-zb9];omega);go_enter func353,ntmps353;go_wp2_with fail
 go_quiet ((go_at_call 304;with_reducible exact Calls.quiet_of_same (Ha.out _)))
 go_wp2;go_ret;exact⟨rfl,(zdC _ _).drewN _⟩
theorem ij (i:Nat):(ae 10000 n).getD i 0<10000:=ff (by decide) n i
theorem EX {i:Nat} (h:l.length<=i):l.getD i 0=0:=by rw[List.getD,zad h];rfl
theorem dr {x:Nat} (h:(ae 10000 x).length<=k):aO 10000 (λi=>((ae 10000 x).getD i 0:Int)) k=(x:Int):=by
 rw[xT,zaI h,bi (by decide)]
theorem iV (x y:Nat) (va vb:Value) (w:World) (ha:Rd am w va (ae 10000 x)) (hb:Rd am w vb (ae 10000 y)) (hx:(ae 10000 x).length<=900) (hy:(ae 10000 y).length<=900):
 Calls prog 233 #[va,vb] w λe w'=> ∃v,e= .returned v/\Rd am w' v (ae 10000 (x+y))/\From w.heap.size v/\Below w.heap.size w w':=by
 obtain⟨aa,ca,rfl,_⟩:=ha.open';obtain⟨ab,cb,rfl,_⟩:=hb.open';have Ha:=zdB ha;have Hb:=zdB hb;obtain⟨n,hn⟩: ∃n,(ae 10000 x).length=n:=⟨_,rfl⟩;obtain⟨m,hm⟩: ∃n,(ae 10000 y).length=n:=⟨_,rfl⟩;have Hn:=zdB hn;have Hm:=zdB hm;rw[hn] at hx Ha ⊢;rw[hm] at hy Hb ⊢;clear hn hm ha hb;have hmax:max (n:Int) (m:Int)=((max n m:Nat):Int):=by omega
 obtain⟨N,hN⟩: ∃N,max n m=N:=⟨_,rfl⟩;rw[hN] at hmax;have hN1:n<=N:=by omega
 have hN2:m<=N:=by omega
 have hN3:N<=900:=by omega
 clear hN;have hb1:Blk ((w.alloc (.cells #[.slice aa n ca] 203)).alloc (.cells #[.slice ab m cb] 203)) w.heap.size #[.slice aa n ca] 203:=(Blk.new w _ _).alloc _;have hb2:Blk ((w.alloc (.cells #[.slice aa n ca] 203)).alloc (.cells #[.slice ab m cb] 203)) (w.heap.size+1) #[.slice ab m cb] 203:=Blk.newAt _ _ _ (by simp);have hB0:Below w.heap.size w ((w.alloc (.cells #[.slice aa n ca] 203)).alloc (.cells #[.slice ab m cb] 203)):=((zdC _ w).alloc (za0 _) _).alloc (by simp) _
 have Hfold:=zdB (sZ 303 (.pointer (some ⟨w.heap.size,0,none⟩)) (.pointer (some ⟨w.heap.size+1,0,none⟩)) (enters_of func303 (by kernel_rfl) rfl) N (λi=>((ae 10000 x).getD i 0:Int)+((ae 10000 y).getD i 0:Int))
  ((w.alloc (.cells #[.slice aa n ca] 203)).alloc (.cells #[.slice ab m cb] 203)) (by omega)
  (λi=>by have h1:=ij (n:=x) i;have h2:=ij (n:=y) i;(try dsimp only);omega) (λi hi=>by (try dsimp only);rw[EX (by rw[Hn.out];omega),EX (by rw[Hm.out];omega)];rfl)
  (by rw[ry,dr (by rw[Hn.out];exact hN1),dr (by rw[Hm.out];exact hN2)];omega)
  (λi W hi hW=>Eg _ _ _ _ i _ _ W ((hb1.below hW hb1.lt).cell rfl) ((hb2.below hW hb2.lt).cell rfl) ((Ha.out.below hB0).below hW) ((Hb.out.below hB0).below hW) (by omega) (aK (by decide) x) (aK (by decide) y)))
 have Hsum:=zdB (show aO 10000 (λi=>((ae 10000 x).getD i 0:Int)+((ae 10000 y).getD i 0:Int)) N=((x+y:Nat):Int) by rw[ry,dr (by rw[Hn.out];exact hN1),dr (by rw[Hm.out];exact hN2)];omega);have HB0:=zdB hB0;clear hb1 hb2 hB0;go_enter func233,ntmps233;go_wp2_with (first|(go_at_call 302;refine(Hfold.out).mono ?_;rintro e w1 ⟨v,rfl,l,hr,hf,hd,hv,hbl⟩;have Hd:=zdB hd;have Hv:=zdB hv;clear hd hv)|(go_at_call 295;refine(iN l Hd.out _ _ hr).mono ?_;rintro e w2 ⟨v2,rfl,hr2,hf2,hb2⟩));go_ret;have e1:val 10000 l=x+y:=by have h1:=Hv.out;rw[Hsum.out] at h1;omega
 rw[e1] at hr2;exact⟨_,rfl,hr2,hf2 _ (hf.mono HB0.out.size),(HB0.out.trans (hbl.mono HB0.out.size)).trans (hb2.mono (zac HB0.out.size hbl.size))⟩
theorem ll (x y:Nat) (hxy:y<=x) (va vb:Value) (w:World) (ha:Rd am w va (ae 10000 x)) (hb:Rd am w vb (ae 10000 y)) (hx:(ae 10000 x).length<=900) (hy:(ae 10000 y).length<=900):
 Calls prog 234 #[va,vb] w λe w'=> ∃v,e= .returned v/\Rd am w' v (ae 10000 (x - y))/\From w.heap.size v/\Below w.heap.size w w':=by
 obtain⟨aa,ca,rfl,_⟩:=ha.open';obtain⟨ab,cb,rfl,_⟩:=hb.open';have Ha:=zdB ha;have Hb:=zdB hb;obtain⟨n,hn⟩: ∃n,(ae 10000 x).length=n:=⟨_,rfl⟩;obtain⟨m,hm⟩: ∃n,(ae 10000 y).length=n:=⟨_,rfl⟩;have Hn:=zdB hn;have Hm:=zdB hm;rw[hn] at hx Ha ⊢;rw[hm] at hy Hb ⊢;clear hn hm ha hb;have hN1:n<=n:=za0 _;have hN2:m<=n:=by rw[<-Hn.out,<-Hm.out];exact aD (by decide) hxy
 have hb1:Blk ((w.alloc (.cells #[.slice aa n ca] 203)).alloc (.cells #[.slice ab m cb] 203)) w.heap.size #[.slice aa n ca] 203:=(Blk.new w _ _).alloc _;have hb2:Blk ((w.alloc (.cells #[.slice aa n ca] 203)).alloc (.cells #[.slice ab m cb] 203)) (w.heap.size+1) #[.slice ab m cb] 203:=Blk.newAt _ _ _ (by simp);have hB0:Below w.heap.size w ((w.alloc (.cells #[.slice aa n ca] 203)).alloc (.cells #[.slice ab m cb] 203)):=((zdC _ w).alloc (za0 _) _).alloc (by simp) _
 have Hfold:=zdB (sZ 305 (.pointer (some ⟨w.heap.size,0,none⟩)) (.pointer (some ⟨w.heap.size+1,0,none⟩)) (enters_of func305 (by kernel_rfl) rfl) n (λi=>((ae 10000 x).getD i 0:Int) - ((ae 10000 y).getD i 0:Int))
  ((w.alloc (.cells #[.slice aa n ca] 203)).alloc (.cells #[.slice ab m cb] 203)) (by omega)
  (λi=>by have h1:=ij (n:=x) i;have h2:=ij (n:=y) i;(try dsimp only);omega) (λi hi=>by (try dsimp only);rw[EX (by rw[Hn.out];omega),EX (by rw[Hm.out];omega)];rfl)
  (by rw[aJn,dr (by rw[Hn.out];exact hN1),dr (by rw[Hm.out];exact hN2)];omega)
  (λi W hi hW=>AE _ _ _ _ i _ _ W ((hb1.below hW hb1.lt).cell rfl) ((hb2.below hW hb2.lt).cell rfl) ((Ha.out.below hB0).below hW) ((Hb.out.below hB0).below hW) (by omega) (aK (by decide) x) (aK (by decide) y)))
 have Hsum:=zdB (show aO 10000 (λi=>((ae 10000 x).getD i 0:Int) - ((ae 10000 y).getD i 0:Int)) n=((x - y:Nat):Int) by rw[aJn,dr (by rw[Hn.out];exact hN1),dr (by rw[Hm.out];exact hN2)];omega);have HB0:=zdB hB0;clear hb1 hb2 hB0;go_enter func234,ntmps234;go_wp2_with (first|(go_at_call 302;refine(Hfold.out).mono ?_;rintro e w1 ⟨v,rfl,l,hr,hf,hd,hv,hbl⟩;have Hd:=zdB hd;have Hv:=zdB hv;clear hd hv)|(go_at_call 295;refine(iN l Hd.out _ _ hr).mono ?_;rintro e w2 ⟨v2,rfl,hr2,hf2,hb2⟩));go_ret;have e1:val 10000 l=x - y:=by have h1:=Hv.out;rw[Hsum.out] at h1;omega
 rw[e1] at hr2;exact⟨_,rfl,hr2,hf2 _ (hf.mono HB0.out.size),(HB0.out.trans (hbl.mono HB0.out.size)).trans (hb2.mono (zac HB0.out.size hbl.size))⟩
theorem lP (x n:Nat) (hn:n<10000) (va:Value) (w:World) (ha:Rd am w va (ae 10000 x)) (hx:(ae 10000 x).length<=900):
 Calls prog 296 #[va, .int .i64 (n:Int)] w λe w'=> ∃v,e= .returned v/\Rd am w' v (ae 10000 (x*n))/\From w.heap.size v/\Below w.heap.size w w':=by
 obtain⟨aa,ca,rfl,_⟩:=ha.open';have Ha:=zdB ha;obtain⟨N,hN⟩: ∃n,(ae 10000 x).length=n:=⟨_,rfl⟩;have HN:=zdB hN;rw[hN] at hx Ha ⊢;clear hN ha;have hb1:Blk ((w.alloc (.cells #[.slice aa N ca] 203)).alloc (.cells #[.int .i64 (n:Int)] 3)) w.heap.size #[.slice aa N ca] 203:=(Blk.new w _ _).alloc _;have hb2:Blk ((w.alloc (.cells #[.slice aa N ca] 203)).alloc (.cells #[.int .i64 (n:Int)] 3)) (w.heap.size+1) #[.int .i64 (n:Int)] 3:=Blk.newAt _ _ _ (by simp);have hB0:Below w.heap.size w ((w.alloc (.cells #[.slice aa N ca] 203)).alloc (.cells #[.int .i64 (n:Int)] 3)):=((zdC _ w).alloc (za0 _) _).alloc (by simp) _
 have Hfold:=zdB (sZ 353 (.pointer (some ⟨w.heap.size,0,none⟩)) (.pointer (some ⟨w.heap.size+1,0,none⟩)) (enters_of func353 (by kernel_rfl) rfl) N (λi=>((ae 10000 x).getD i 0:Int)*(n:Int))
  ((w.alloc (.cells #[.slice aa N ca] 203)).alloc (.cells #[.int .i64 (n:Int)] 3)) (by omega)
  (λi=>by
    have h1:=ij (n:=x) i
    try dsimp only
    generalize (ae 10000 x).getD i 0=z at*
    have h2:z*n<=9999*9999:=zb4 (by omega) (by omega)
    rw[<-zb9];omega) (λi hi=>by (try dsimp only);rw[EX (by rw[HN.out];omega)];simp)
  (by rw[rA,dr (by rw[HN.out];exact za0 _),<-zb9];omega)
  (λi W hi hW=>Kx _ _ n i _ _ W ((hb1.below hW hb1.lt).cell rfl) ((hb2.below hW hb2.lt).cell rfl) ((Ha.out.below hB0).below hW) (by omega) (aK (by decide) x) hn))
 have Hsum:=zdB (show aO 10000 (λi=>((ae 10000 x).getD i 0:Int)*(n:Int)) N=((x*n:Nat):Int) by rw[rA,dr (by rw[HN.out];exact za0 _),zb9]);have HB0:=zdB hB0;clear hb1 hb2 hB0;go_enter func296,ntmps296;go_wp2_with (first|(go_at_call 302;refine(Hfold.out).mono ?_;rintro e w1 ⟨v,rfl,l,hr,hf,hd,hv,hbl⟩;have Hd:=zdB hd;have Hv:=zdB hv;clear hd hv)|(go_at_call 295;refine(iN l Hd.out _ _ hr).mono ?_;rintro e w2 ⟨v2,rfl,hr2,hf2,hb2⟩));go_ret;have e1:val 10000 l=x*n:=by have h1:=Hv.out;rw[Hsum.out] at h1;exact Int.ofNat_inj.1 h1
 rw[e1] at hr2;exact⟨_,rfl,hr2,hf2 _ (hf.mono HB0.out.size),(HB0.out.trans (hbl.mono HB0.out.size)).trans (hb2.mono (zac HB0.out.size hbl.size))⟩
attribute [local go_sem] Oper.semAt_some
theorem ayh {α:Type} {enc:α->Value} {l:List α} {row:Option Nat} (h:Rd enc w v l) (hg:w.grownBy w' row) (H: ∀r,row=some r-> ∃o:Obj,w.heap[r]? =some o/\o.isCells=false):Rd enc w' v l:=by
 rcases h with h|⟨b,off,cap,rfl,h1,h2,h3,h4⟩
 ·exact .inl h
 ·exact .inr ⟨b,off,cap,rfl,zam h1 hg.size,h2,h3,λi x J=>cell_kept (h4 i x J) hg H⟩
def mY {m:zdH} (x:Nat) (pre:List (cf m)):Nat:=(pre.map (·.1)).foldl (k9 10000 x) 0
theorem qm (x:Nat) (pre:List (cf m)) (p:cf m):mY x (pre++ [p])=mY x pre*10000+x*p.1.2:=by
 unfold mY;rw[zb8,zbz];rfl
theorem Eh (x:Nat) (l:zdH) (k:Nat) (J:k<=l.length):(fK l k).foldl (k9 10000 x) 0=x*val 10000 (l.drop (l.length - k)):=by
 induction k with
 |zero=>rw[zaX,List.drop_length];rfl
 |succ k H=>
  rw[jC,zbz,H (by omega)];have e:l.drop (l.length - (k+1))=l.getD (l.length - 1 - k) 0::l.drop (l.length - k):=by
   have h1:l.length - (k+1)<l.length:=by omega
   rw[zaH h1,show l.length - (k+1)+1=l.length - k by omega]
   congr 1
   simp[List.getD,zaa (show l.length - 1 - k<l.length by omega),show l.length - (k+1)=l.length - 1 - k by omega]
  rw[e,val,zbe,zcu,k9,zao,zaD,zay 10000];exact zb3 _ _
theorem wM (x y:Nat) (va vb:Value) (w:World) (ha:Rd am w va (ae 10000 x)) (hb:Rd am w vb (ae 10000 y)) (hx:(ae 10000 x).length<=400) (hy:(ae 10000 y).length<=400) (hfb: ∀k,vb.ownBlock=some k->k<w.heap.size):
 Calls prog 299 #[va,vb] w λe w'=> ∃v,e= .returned v/\Rd am w' v (ae 10000 (x*y))/\From w.heap.size v/\Below w.heap.size w w':=by
 obtain⟨aa,ca,rfl,_⟩:=ha.open';obtain⟨ab,cb,rfl,_⟩:=hb.open';have Ha:=zdB ha;have Hb:=zdB hb;obtain⟨n,hn⟩: ∃n,(ae 10000 x).length=n:=⟨_,rfl⟩;obtain⟨m,hm⟩: ∃n,(ae 10000 y).length=n:=⟨_,rfl⟩;have Hn:=zdB hn;have Hm:=zdB hm;rw[hn] at hx Ha ⊢;rw[hm] at hy Hb hfb ⊢;have Hfb:=zdB hfb;clear hn hm ha hb hfb;refine(callsIn_wide (n:=5)).1 ?_;refine callsIn_of_wp_marks func299 rfl trivial ?_ rfl;simp only[ntmps299,zbp,za4,za9,Nat.reduceAdd,Nat.reduceSub,zbS,zbT,zbU,zbV,zaM,zaO]
 gi_wp2_with (refine⟨trivial, ?_⟩;gi_at_call 235;refine(callsIn_wide.2 (gD _ _ _ _)).mono ?_;rintro e w' ⟨rfl,rfl⟩)
 have hA0:Blk (((w.alloc (.cells #[.slice aa n ca] 203)).alloc (.cells #[.slice none 0 0] 203)).alloc (.cells #[.slice ab m cb] 203)) w.heap.size #[.slice aa n ca] 203:=((Blk.new w _ _).alloc _).alloc _;have hO0:Blk (((w.alloc (.cells #[.slice aa n ca] 203)).alloc (.cells #[.slice none 0 0] 203)).alloc (.cells #[.slice ab m cb] 203)) (w.heap.size+1) #[.slice none 0 0] 203:=(Blk.newAt _ _ _ (by simp)).alloc _;have hS0:Blk (((w.alloc (.cells #[.slice aa n ca] 203)).alloc (.cells #[.slice none 0 0] 203)).alloc (.cells #[.slice ab m cb] 203)) (w.heap.size+1+1) #[.slice ab m cb] 203:=Blk.newAt _ _ _ (by simp);have hB0:Below w.heap.size w (((w.alloc (.cells #[.slice aa n ca] 203)).alloc (.cells #[.slice none 0 0] 203)).alloc (.cells #[.slice ab m cb] 203)):=(((zdC _ w).alloc (za0 _) _).alloc (by simp) _).alloc (by simp;omega) _;have hsz:w.heap.size+1+1+1=(((w.alloc (.cells #[.slice aa n ca] 203)).alloc (.cells #[.slice none 0 0] 203)).alloc (.cells #[.slice ab m cb] 203)).heap.size:=by simp
 generalize (((w.alloc (.cells #[.slice aa n ca] 203)).alloc (.cells #[.slice none 0 0] 203)).alloc (.cells #[.slice ab m cb] 203))=W0 at*
 refine qM (by omega) (w.heap.size+1+1) w.heap.size rfl (.slice ab m cb) (ae 10000 y) (by rw[Hm.out];omega) hS0.lt (by omega) (hS0.cell rfl) (Hb.out.below hB0) Hfb.out rfl
  (λpre W=>(∃v,Blk W w.heap.size #[.slice aa n ca] 203/\Blk W (w.heap.size+1) #[v] 203/\Rd am W v (ae 10000 (mY x pre))/\From (w.heap.size+3) v/\w.heap.size+3<=W.heap.size)/\Below w.heap.size w W)
  (λ_ _ _=>False)
  ?own ?ownx ?start (λp t=>((t.setIfInBounds 10 (.int .i64 (p.1.1:Int))).setIfInBounds 11 (.int .i64 (p.1.2:Int))).setIfInBounds 7 (.int .i64 (p.1.2:Int))) ?assign ?body ?done ?stop
 case own=>exact OwnFrom.and (Own.from (λs A B row hs hg hr=>by obtain⟨v,h1,h2,h3,h4,h5⟩:=hs;exact⟨v,h1.kept hg hr,h2.kept hg hr,ayh h3 hg hr,h4,zac h5 hg.size⟩) _) (ownFrom_below (za0 _) (by omega))
 case ownx=>exact λ_ _ _ _ _ hs _ _=>hs
 case start=>exact⟨⟨_,hA0,hO0, .inl ⟨rfl,aF 10000⟩,From.nil _,by omega⟩,hB0⟩
 case assign=>
  intro l x W K hK;simp only[zbk,zaR,zba] at hK
  gi_wp2
  exact hK
 case body=>
  rintro l pre p W ⟨⟨v,hA,hO,hr,hfr,hw3⟩,hB⟩ hlen;simp only[zbk,zaR,zba];rw[Hm.out] at hlen;obtain⟨F,hF⟩: ∃F,mY x pre=F:=⟨_,rfl⟩;rw[hF] at hr;have HF:=zdB hF;have hpd:p.1.2<10000:=aK (by decide) y _ (zal p.2);have hlF:(ae 10000 F).length<=820:=by
   have h1:=Dw (B:=10000) (x:=x) (by decide) (pre.map (·.1)) (by
    intro q hq;obtain⟨r,hr,rfl⟩:=zaz.1 hq
    exact aK (by decide) y _ (zal r.2))
   have h2:(pre.map (·.1)).foldl (k9 10000 x) 0=F:=HF.out;rw[h2,zaB] at h1;have h3:=(ai (B:=10000) (by decide) x n).1 (by rw[Hn.out];exact za0 _);have h4:F<10000^(n+pre.length)\/F=0:=by
    by_cases hx0:x=0
    ·subst hx0;right;simp at h1;exact h1
    ·left;rw[zbv];have h5:x*10000^pre.length<=10000^n*10000^pre.length:=zbl _ (by omega);omega
   rcases h4 with h4|h4
   ·have h5:=(ai (B:=10000) (by decide) F (n+pre.length)).2 h4;omega
   ·rw[h4,aF];simp
  clear hF;have hlp:(ae 10000 (x*p.1.2)).length<=401:=by
   have h3:=(ai (B:=10000) (by decide) x n).1 (by rw[Hn.out];exact za0 _);have h4:x*p.1.2<10000^(n+1):=by
    rw[zaw];exact zbN h3 hpd
   have h5:=(ai (B:=10000) (by decide) (x*p.1.2) (n+1)).2 h4;omega
  have a0:W.cell? ⟨w.heap.size,0,none⟩=some (.slice aa n ca):=hA.cell rfl;have hbs:=hB.size;have hol:=hO.lt;obtain⟨av,cv,rfl,_⟩:=hr.open';have o0:=hO.cell (i:=0) rfl;have of0:=hO.free 0;by_cases hz:F=0
  ·have hl0:(ae 10000 F).length<=0:=by rw[hz,aF];simp
   have Hz:=zdB hz;clear hz;have hmx:prog.follows .mixedOrders=true:=by kernel_rfl
   gi_wp2
   have hO2:Blk W.drew (w.heap.size+1) #[.slice av (ae 10000 F).length cv] 203:=hO;have hA2:Blk W.drew w.heap.size #[.slice aa n ca] 203:=hA;have hr1:Rd am W.drew (.slice av (ae 10000 F).length cv) (ae 10000 (F*10000)):=by
    have h:Rd am W.drew (.slice av (ae 10000 F).length cv) (ae 10000 F):=hr;rw[show F*10000=F by have:=Hz.out;omega];exact h
   have hB2:Below w.heap.size w W.drew:=hB.drew;have hk2:KeepsOthers W W.drew:=KeepsOthers.drew _;have hK2:KpB w.heap.size (w.heap.size+1+1) W W.drew:=KpB.drewN W 1;have HL2:Hid (w.heap.size+3<=W.drew.heap.size):=hw3;have hlF2:(ae 10000 (F*10000)).length<=821:=by rw[Hz.out,zcD,aF];simp
   have HA2:=zdB hA2;have HO2:=zdB hO2;have Hr1:=zdB hr1;have HB2:=zdB hB2;have Hk2:=zdB hk2;have HK2:=zdB hK2;have a2:=hA2.cell (i:=0) rfl;have o2:=hO2.cell (i:=0) rfl;have of2:=hO2.free 0;clear hA2 hO2 hr1 hB2 hk2 hK2
   gi_region_with_o (first
    |(refine⟨trivial, ?_⟩;gi_at_call 296;refine(CallsIn.inRound l (callsIn_wide.2 (lP x p.1.2 hpd _ _ (Ha.out.below HB2.out) (by rw[Hn.out];omega)))).mono ?_;rintro e w2 ⟨v2,rfl,hr2,hf2,hb2⟩;have o3:=(HO2.out.below hb2 HO2.out.lt).cell (i:=0) rfl;have of3:=(HO2.out.below hb2 HO2.out.lt).free 0)
    |(refine⟨trivial, ?_⟩;gi_at_call 233;(refine(CallsIn.inRound l (callsIn_wide.2 (iV (F*10000) (x*p.1.2) _ _ _ (Hr1.out.below hb2) hr2 (by omega) (by omega)))).mono ?_);rintro e w3 ⟨v3,rfl,hr3,hf3,hb3⟩;have o4:=((HO2.out.below hb2 HO2.out.lt).below hb3 (by have:=HO2.out.lt;have:=hb2.size;omega)).cell (i:=0) rfl;have of4:=((HO2.out.below hb2 HO2.out.lt).below hb3 (by have:=HO2.out.lt;have:=hb2.size;omega)).free 0;obtain⟨a3,c3,rfl,_⟩:=hr3.open'))
   all_goals gi_wp2
   all_goals
    have hw13:=(HB2.out).size;refine⟨((Hk2.out.trans (eC hb2 (za0 _))).trans (eC hb3 (za0 _))).trans (KeepsOthers.setCell _ _ _)|>.from _, ?_,⟨.slice a3 (ae 10000 (F*10000+x*p.1.2)).length c3, ?_, ?_, ?_, ?_, ?_⟩, ?_⟩
    ·exact((HK2.out.trans (KpB.of_below hb2 hw13 (by have:=HL2.out;omega))).trans (KpB.of_below hb3 (zac hw13 hb2.size) (by have:=HL2.out;have:=hb2.size;omega))).trans (KpB.setCell _ (by simp) (by simp) _)
    ·exact(((HA2.out.below hb2 HA2.out.lt).below hb3 (zam HA2.out.lt hb2.size)).setOther (by simp) _)
    ·exact((HO2.out.below hb2 HO2.out.lt).below hb3 (zam HO2.out.lt hb2.size)).set 0 _
    ·rw[qm,HF.out];exact hr3.setCell (hf3.mono (by have:=HL2.out;have:=hb2.size;omega)) (show w.heap.size+1<w.heap.size+3 by omega) _
    ·exact hf3.mono (by have:=HL2.out;have:=hb2.size;omega)
    ·simp[World.setCell];have:=HL2.out;have:=hb2.size;have:=hb3.size;omega
    ·exact((HB2.out.trans (hb2.mono hw13)).trans (hb3.mono (zac hw13 hb2.size))).setCell (by simp) _
  ·have hl0:0<(ae 10000 F).length:=zbo.2 (λe=>hz ((aZ (by decide)).1 e));have hmx:prog.follows .mixedOrders=true:=by kernel_rfl
   gi_wp2_with (gi_at_builtin;refine lc (enc:=am) (e:=3) rfl _ _ 203 rfl (.int .i64 0) 8 underlying203 aFs rfl du rfl (OwnL.lit1 W 0 rfl) rfl (hr.below ((zdC _ _).alloc (za0 _) _)) (by simp;omega) (by decide) (by simp) ?_;intro v' w1 hown1 hB1 hk1;obtain⟨gb,cp,rfl,hgb1,hgb2⟩:=hown1.cons_of;have hO1:=(hO.alloc (.cells #[.int .i64 0] 3)).below hB1 (by omega);have o1:=hO1.cell (i:=0) rfl;have of1:=hO1.free 0;have hA1:=(hA.alloc (.cells #[.int .i64 0] 3)).below hB1 (by have:=hA.lt;omega);have a1:w1.cell? ⟨w.heap.size,0,none⟩=some (.slice aa n ca):=hA1.cell rfl)
   have hsl:(.slice (some ⟨gb,0,none⟩) ((ae 10000 F).length+1) cp:Value)= .slice (some ⟨gb,0,none⟩) ([0]++ae 10000 F).length cp:=by simp
   have hdg: [0]++ae 10000 F=ae 10000 (F*10000):=by
    have h:=zV (B:=10000) (d:=0) (n:=F) (by decide) (by decide) (by omega);rw[za7,zay] at h;rw[h];rfl
   have hO2:Blk (w1.setCell ⟨w.heap.size+1,0,none⟩ (.slice (some ⟨gb,0,none⟩) ((ae 10000 F).length+1) cp)).drew (w.heap.size+1) #[.slice (some ⟨gb,0,none⟩) ((ae 10000 F).length+1) cp] 203:=hO1.set 0 _;have hA2:Blk (w1.setCell ⟨w.heap.size+1,0,none⟩ (.slice (some ⟨gb,0,none⟩) ((ae 10000 F).length+1) cp)).drew w.heap.size #[.slice aa n ca] 203:=hA1.setOther (by simp) _;have hr1:Rd am (w1.setCell ⟨w.heap.size+1,0,none⟩ (.slice (some ⟨gb,0,none⟩) ((ae 10000 F).length+1) cp)).drew (.slice (some ⟨gb,0,none⟩) ((ae 10000 F).length+1) cp) (ae 10000 (F*10000)):=by
    have h:=hown1.rd.setCell (a:=⟨w.heap.size+1,0,none⟩) (C:=w.heap.size+3) (λk hk=>by cases hk;show w.heap.size+3<=gb;omega) (by simp) (.slice (some ⟨gb,0,none⟩) ((ae 10000 F).length+1) cp);rw[hdg] at h;exact h
   have hB2:Below w.heap.size w (w1.setCell ⟨w.heap.size+1,0,none⟩ (.slice (some ⟨gb,0,none⟩) ((ae 10000 F).length+1) cp)).drew:=(((hB.alloc hB.size _).trans (hB1.mono hbs)).setCell (by simp) _).drew;have hk2:KeepsOthers W (w1.setCell ⟨w.heap.size+1,0,none⟩ (.slice (some ⟨gb,0,none⟩) ((ae 10000 F).length+1) cp)).drew:=(((KeepsOthers.alloc _ _).trans hk1).trans (KeepsOthers.setCell _ _ _)).trans (KeepsOthers.drew _);have hK2:KpB w.heap.size (w.heap.size+1+1) W (w1.setCell ⟨w.heap.size+1,0,none⟩ (.slice (some ⟨gb,0,none⟩) ((ae 10000 F).length+1) cp)).drew:=((KpB.of_below ((zdC _ W).alloc (za0 _) _) hbs (by omega)).trans (KpB.of_below hB1 hbs (by omega))).trans ((KpB.setCell w1 (by simp) (by simp) _).trans (KpB.drewN _ 1));have HL2:Hid (w.heap.size+3<=(w1.setCell ⟨w.heap.size+1,0,none⟩ (.slice (some ⟨gb,0,none⟩) ((ae 10000 F).length+1) cp)).drew.heap.size):=by
    show w.heap.size+3<=(w1.setCell ⟨w.heap.size+1,0,none⟩ (.slice (some ⟨gb,0,none⟩) ((ae 10000 F).length+1) cp)).drew.heap.size;simp[World.setCell];omega
   have hlF2:(ae 10000 (F*10000)).length<=821:=by rw[<-hdg];simp;omega
   clear hsl hdg hO1 hA1 o1 of1 a1;obtain⟨W1,hW1⟩: ∃W1,(w1.setCell ⟨w.heap.size+1,0,none⟩ (.slice (some ⟨gb,0,none⟩) ((ae 10000 F).length+1) cp)).drew=W1:=⟨_,rfl⟩;have HA2:=zdB hA2;have HO2:=zdB hO2;have Hr1:=zdB hr1;have HB2:=zdB hB2;have Hk2:=zdB hk2;have HK2:=zdB hK2;have a2:=hA2.cell (i:=0) rfl;have o2:=hO2.cell (i:=0) rfl;have of2:=hO2.free 0;clear hA2 hO2 hr1 hB2 hk2 hK2 hW1 W1
   gi_region_with_o (first
    |(refine⟨trivial, ?_⟩;gi_at_call 296;refine(CallsIn.inRound l (callsIn_wide.2 (lP x p.1.2 hpd _ _ (Ha.out.below HB2.out) (by rw[Hn.out];omega)))).mono ?_;rintro e w2 ⟨v2,rfl,hr2,hf2,hb2⟩;have o3:=(HO2.out.below hb2 HO2.out.lt).cell (i:=0) rfl;have of3:=(HO2.out.below hb2 HO2.out.lt).free 0)
    |(refine⟨trivial, ?_⟩;gi_at_call 233;(refine(CallsIn.inRound l (callsIn_wide.2 (iV (F*10000) (x*p.1.2) _ _ _ (Hr1.out.below hb2) hr2 (by omega) (by omega)))).mono ?_);rintro e w3 ⟨v3,rfl,hr3,hf3,hb3⟩;have o4:=((HO2.out.below hb2 HO2.out.lt).below hb3 (by have:=HO2.out.lt;have:=hb2.size;omega)).cell (i:=0) rfl;have of4:=((HO2.out.below hb2 HO2.out.lt).below hb3 (by have:=HO2.out.lt;have:=hb2.size;omega)).free 0;obtain⟨a3,c3,rfl,_⟩:=hr3.open'))
   all_goals gi_wp2
   all_goals
    have hw13:=(HB2.out).size;refine⟨((Hk2.out.trans (eC hb2 (za0 _))).trans (eC hb3 (za0 _))).trans (KeepsOthers.setCell _ _ _)|>.from _, ?_,⟨.slice a3 (ae 10000 (F*10000+x*p.1.2)).length c3, ?_, ?_, ?_, ?_, ?_⟩, ?_⟩
    ·exact((HK2.out.trans (KpB.of_below hb2 hw13 (by have:=HL2.out;omega))).trans (KpB.of_below hb3 (zac hw13 hb2.size) (by have:=HL2.out;have:=hb2.size;omega))).trans (KpB.setCell _ (by simp) (by simp) _)
    ·exact(((HA2.out.below hb2 HA2.out.lt).below hb3 (zam HA2.out.lt hb2.size)).setOther (by simp) _)
    ·exact((HO2.out.below hb2 HO2.out.lt).below hb3 (zam HO2.out.lt hb2.size)).set 0 _
    ·rw[qm,HF.out];exact hr3.setCell (hf3.mono (by have:=HL2.out;have:=hb2.size;omega)) (show w.heap.size+1<w.heap.size+3 by omega) _
    ·exact hf3.mono (by have:=HL2.out;have:=hb2.size;omega)
    ·simp[World.setCell];have:=HL2.out;have:=hb2.size;have:=hb3.size;omega
    ·exact((HB2.out.trans (hb2.mono hw13)).trans (hb3.mono (zac hw13 hb2.size))).setCell (by simp) _
 case done=>
  rintro D ys W hD hys ⟨⟨v,hA,hO,hr,hfr,hw3⟩,hB⟩ hK;have hxy:mY x ys=x*y:=by
   unfold mY;rw[hys,Eh x _ _ (za0 _),zaJ,zaZ,bi (by decide)]
  rw[hxy] at hr;clear hxy hys;have o0:W.cell? ⟨w.heap.size+1,0,none⟩=some v:=hO.cell rfl;obtain⟨a9,c9,rfl,_⟩:=hr.open'
  gi_wp2
  refine⟨by simp, .inl ⟨_,_,rfl,run_takeDeferred hK, ?_⟩⟩;refine⟨_,results_tmp rfl _ _ _,_,rfl, ?_,hfr.mono (by omega),hB.trans (belowK_b (w:=w) (za0 _) W D _ _ (by omega) hK rfl rfl)⟩;exact ayh hr (grownBy_putObj' _ D (.deferred none)) (λr e=>by cases e;exact⟨_,hK,rfl⟩)
 case stop=>
  rintro D c pre W _ _ h _;exact h.elim
theorem AF (gf:Nat) (p1 p2:Value) (eg: ∀args w,(callFunc gf args).run prog w= .ok (.enter gf args) w) (n:Nat) (f:zdQ) (w:World) (hn:n<=1000000)
 (hg: ∀(i:Nat) W,i<n->Below w.heap.size w W->Calls prog gf #[.int .i64 i,p1,p2] W λe W'=>e= .returned (.bool (f i))/\Below W.heap.size W W') (hmono: ∀i j,i<=j->f i=true->f j=true):
 Calls prog 298 #[.int .i64 n, .func (.func gf) #[] #[p1,p2]] w λe w'=> ∃k:Nat,e= .returned (.int .i64 k)/\(k<=n/\(∀j,j<k->f j=false)/\(k<n->f k=true))/\Below w.heap.size w w':=by
 have Hg:=zdB hg;have Hm:=zdB hmono;clear hg hmono;go_enter func298,ntmps298;go_wp2
 go_loopw [5,6] (λiv jv wr=> ∃i j:Nat,iv= .int .i64 i/\jv= .int .i64 j/\i<=j/\j<=n/\(∀k,k<i->f k=false)/\(j<n->f j=true)/\Below w.heap.size w wr) (λiv jv _=>(intOf jv - intOf iv).toNat)
 case atStart=>exact⟨0,n,rfl,rfl,zaA _,za0 _,λk hk=>absurd hk (zbm k),λh=>absurd h (zcz n),zdC _ _⟩
 case round=>
  obtain⟨i,j,rfl,rfl,hij,hjn,h1,h2,hB⟩:=hrel;have H1:=zdB h1;clear h1;have H2:=zdB h2;clear h2;by_cases hlt:i<j
  ·obtain⟨h,hh⟩: ∃h,(i+j) / 2=h:=⟨_,rfl⟩;have hh2:((i:Int)+(j:Int)) / 2=(h:Int):=by omega
   have hb1:i<=h:=by omega
   have hb2:h<j:=by omega
   have HgH:=zdB (Hg.out h wr (by omega) hB);clear hh;cases hf:f h
   ·rw[hf] at HgH;have Hf:=zdB hf;clear hf;go_wp2_with ((with_reducible refine(HgH.out).mono ?_);rintro _ w2 ⟨rfl,hb⟩)
    go_roundw
    case rel=>
     refine⟨h+1,j,by go_num,rfl,by omega,hjn,λk hk=> ?_,H2.out,hB.trans (hb.mono hB.size)⟩;cases hfk:f k with
     |false=>rfl
     |true=>have:=Hm.out k h (by omega) hfk;rw[Hf.out] at this;cases this
    case measure=>simp[intOf];omega
   ·rw[hf] at HgH;have Hf:=zdB hf;clear hf;go_wp2_with ((with_reducible refine(HgH.out).mono ?_);rintro _ w2 ⟨rfl,hb⟩)
    go_roundw
    case rel=>exact⟨i,h,rfl,rfl,hb1,by omega,H1.out,λ_=>Hf.out,hB.trans (hb.mono hB.size)⟩
    case measure=>simp[intOf];omega
  ·obtain rfl:i=j:=by omega
   go_wp2;go_ret;exact⟨i,rfl,⟨hjn,H1.out,H2.out⟩,hB⟩
theorem Ei (y R i:Nat) (mv rv:Value) (bb rb:Nat) (w:World) (hm:Rd am w mv (ae 10000 y)) (hr:Rd am w rv (ae 10000 R)) (hb:w.cell? ⟨bb,0,none⟩=some (.func (.func 296) #[mv] #[])) (hbl:bb<w.heap.size)
 (hrb:w.cell? ⟨rb,0,none⟩=some rv) (hrl:rb<w.heap.size) (hi:i<9999) (hy:(ae 10000 y).length<=800) (hR:(ae 10000 R).length<=900):
 Calls prog 297 #[.int .i64 i, .pointer (some ⟨bb,0,none⟩), .pointer (some ⟨rb,0,none⟩)] w λe w'=>e= .returned (.bool (decide (R<y*(i+1))))/\Below w.heap.size w w':=by
 have Hm:=zdB hm;have Hr:=zdB hr;obtain⟨ma,mc,rfl,_⟩:=hm.open';obtain⟨ra,rc,rfl,_⟩:=hr.open';clear hm hr;have hlp:(ae 10000 (y*(i+1))).length<=801:=by
  obtain⟨n,hn⟩: ∃n,(ae 10000 y).length=n:=⟨_,rfl⟩;have h3:=(ai (B:=10000) (by decide) y n).1 (by rw[hn];exact za0 _);have h4:y*(i+1)<10000^(n+1):=by rw[zaw];exact zbN h3 (by omega)
  have h5:=(ai (B:=10000) (by decide) (y*(i+1)) (n+1)).2 h4;omega
 have hcmp:decide (0<dB (y*(i+1)) R)=decide (R<y*(i+1)):=by
  by_cases h:R<y*(i+1)
  ·rw[jO h];simp[h]
  ·have h2:dB (y*(i+1)) R<=0:=by unfold dB;split<;>omega
   have h3: ¬0<dB (y*(i+1)) R:=by omega
   simp only[h,h3]
 obtain⟨cv,hcv⟩: ∃c,dB (y*(i+1)) R=c:=⟨_,rfl⟩;obtain⟨P,hP⟩: ∃c,y*(i+1)=c:=⟨_,rfl⟩;have hby: ∀W,Below w.heap.size w W->Calls prog 296 #[.slice ma (ae 10000 y).length mc, .int .i64 ((i:Int)+1)] W λe w'=> ∃v,e= .returned v/\Rd am w' v (ae 10000 P)/\From W.heap.size v/\Below W.heap.size W w':=by
  intro W hW;have:=lP y (i+1) (by omega) _ W (Hm.out.below hW) (by omega);rw[hP] at this;rwa[show ((i+1:Nat):Int)=(i:Int)+1 by omega] at this
 have hco: ∀W v,Below w.heap.size w W->Rd am W v (ae 10000 P)->Calls prog 228 #[v, .slice ra (ae 10000 R).length rc] W λe w'=>e= .returned (.int .i64 cv)/\Below W.heap.size W w':=by
  intro W v hW hv;rw[<-hcv,hP];exact gc P R _ _ W hv (Hr.out.below hW) (by rw[<-hP];omega)
 rw[hcv] at hcmp;have Hby:=zdB hby;have Hco:=zdB hco;rw[<-hcmp];clear hby hco hcv hcmp hlp hP;have hmx:prog.follows .mixedOrders=true:=by kernel_rfl
 go_enter func297,ntmps297;go_wp2_with fail;have hw1:IntKind.i64.wrap ((i:Int)+1)=(i:Int)+1:=IntWalk.i64_in _ (by omega)
 go_region_with (first
  |(go_at_call 296;(with_reducible refine(Hby.out _ ((zdC _ w).drew)).mono ?_);rintro e w2 ⟨v2,rfl,hr2,hf2,hb2⟩;have hb12:Below w.heap.size w w2:=((zdC _ w).drew).trans hb2;have r2:w2.cell? ⟨rb,0,none⟩=some (.slice ra (ae 10000 R).length rc):=(hb2.cell (p:=⟨rb,0,none⟩) hrl).trans hrb)
  |(go_at_call 228;(with_reducible refine(Hco.out _ _ hb12 hr2).mono ?_);rintro e w3 ⟨rfl,hb3⟩))
 all_goals go_wp2
 all_goals go_ret
 all_goals exact⟨rfl,hb12.trans (hb3.mono hb12.size)⟩
end Go.Proofs.YtdjfpjmijhjmpaaGreatDoor
namespace Go.Proofs.YtdjfpjmijhjmpaaGreatDoor
open Yk
def lh (y:Nat) (s:Nat×List Nat) (p:Nat×Nat):Nat×List Nat:=((p.2+10000*s.1)%y,s.2.set p.1 ((p.2+10000*s.1) / y))
def dT {l:zdH} (y n:Nat) (pre:List (cf l)):Nat×List Nat:=(pre.map (·.1)).foldl (lh y) (0,List.replicate n 0)
variable {l:zdH}
theorem acy (y n:Nat) (pre:List (cf l)) (p:cf l):dT y n (pre++ [p])=lh y (dT y n pre) p.1:=by
 unfold dT;rw[zb8,zbz];rfl
variable {y:Nat}
theorem ay3 {n:Nat} (N:0<y) (Y: ∀z∈l,z<10000) (pre:List (cf l)):(dT y n pre).1<y/\(dT y n pre).2.length=n/\(∀z∈(dT y n pre).2,z<10000):=by
 induction h:pre.length generalizing pre with
 |zero=>rw[zau h];exact⟨N,by simp[dT],by simp[dT]⟩
 |succ k ih=>
  obtain⟨J,H,rfl⟩: ∃J H,pre=J++ [H]:=⟨pre.dropLast,pre.getLast (by intro e;rw[e] at h;simp at h),(zcX _).symm⟩;obtain⟨h1,h2,h3⟩:=ih J (by simp at h;omega);have hp:H.1.2<10000:=Y _ (zal H.2);rw[acy];generalize dT y n J=s at*
  refine⟨zar _ N,by simp[lh,h2], ?_⟩;intro z hz;rcases zcL hz with h4|h4
  ·exact h3 z h4
  ·subst h4;rw[zbO N];have:=zb5 10000 (show s.1+1<=y from h1);rw[zao] at this;omega
theorem Ky {x:Nat} (N:0<y) (k:Nat) (hk:k<=(ae 10000 x).length):
 DivInv 10000 x y ((ae 10000 x).length - k) ((fK (ae 10000 x) k).foldl (lh y) (0,List.replicate (ae 10000 x).length 0)).1 ((fK (ae 10000 x) k).foldl (lh y) (0,List.replicate (ae 10000 x).length 0)).2:=by
 induction k with
 |zero=>exact DivInv.start N
 |succ k H=>
  have H:=H (by omega);rw[jC,zbz,zbe,zcu];generalize (fK (ae 10000 x) k).foldl (lh y) (0,List.replicate (ae 10000 x).length 0)=s at*
  have J:(ae 10000 x).length - 1 - k<(ae 10000 x).length:=by omega
  have Y:(ae 10000 x).length - k=(ae 10000 x).length - 1 - k+1:=by omega
  have e2:(ae 10000 x).length - (k+1)=(ae 10000 x).length - 1 - k:=by omega
  rw[Y] at H;rw[e2];have hg:(ae 10000 x).getD ((ae 10000 x).length - 1 - k) 0=(ae 10000 x)[(ae 10000 x).length - 1 - k]:=by simp[List.getD,zaa J]
  have hR:s.1<y:=by obtain⟨_,_,_,_,_,h⟩:=H;exact h
  have hd:(ae 10000 x)[(ae 10000 x).length - 1 - k]<10000:=aK (by decide) x _ (zas J);simp only[lh,hg];refine DivInv.step H J rfl ?_ (zar _ N) ?_
  ·exact Nat.mod_add_div' _ _
  ·rw[zbO N];have:=zb5 10000 (show s.1+1<=y from hR);rw[zao] at this;omega
end Go.Proofs.YtdjfpjmijhjmpaaGreatDoor
namespace Go.Proofs.YtdjfpjmijhjmpaaGreatDoor
open Go.Proofs.Tryz
open Go.RowKit Yk
attribute [local go_sem] Oper.semAt_some
def OvAt (w:World) (Z n:Nat) (mv:Value) (W X:World) (rv:Value) (ql:zdH) (R:Nat):Prop:=
 (Blk X w.heap.size #[mv] 203/\Blk X (w.heap.size+1) #[.slice (some ⟨w.heap.size+3,0,none⟩) n n] 203/\Blk X (w.heap.size+2) #[rv] 203/\
   OwnL am 3 X (w.heap.size+3) (.slice (some ⟨w.heap.size+3,0,none⟩) n n) ql/\Rd am X rv (ae 10000 R)/\From (Z+1) rv)/\
 (w.heap.size+4<=Z/\Z+1<=X.heap.size/\Below w.heap.size w X)/\KeepsOthers W X/\KpB w.heap.size Z W X
section
variable {w W X:World} {Z n:Nat} {mv rv:Value} {ql:zdH} {R:Nat}
theorem OvAt.start (h:OvAt w Z n mv W X rv ql R):OvAt w Z n mv X X rv ql R:=⟨h.1,h.2.1,KeepsOthers.refl _,KpB.refl _ _ _⟩
theorem OvAt.grow {X':World} (h:OvAt w Z n mv W X rv ql R) (H:Below X.heap.size X X'):OvAt w Z n mv W X' rv ql R:=by
 obtain⟨⟨h1,h2,h3,h4,h5,h6⟩,⟨h7,h8,h9⟩,J,N⟩:=h;exact⟨⟨h1.below H (by omega),h2.below H (by omega),h3.below H (by omega),h4.belowTo H,h5.below H,h6⟩,⟨h7,zac h8 H.size,h9.trans (H.mono (by omega))⟩,J.trans (eC H (za0 _)),N.trans (KpB.of_below H (by omega) (by omega))⟩
theorem OvAt.alloc (h:OvAt w Z n mv W X rv ql R) (o:Obj):OvAt w Z n mv W (X.alloc o) rv ql R:=h.grow ((zdC _ X).alloc (za0 _) _)
theorem OvAt.drew (h:OvAt w Z n mv W X rv ql R):OvAt w Z n mv W X.drew rv ql R:=h.grow (zdC _ X).drew
theorem OvAt.setR {rv':Value} {R':Nat} (h:OvAt w Z n mv W X rv ql R) (Y:Rd am X rv' (ae 10000 R')) (N:From (Z+1) rv'):OvAt w Z n mv W (X.setCell ⟨w.heap.size+2,0,none⟩ rv') rv' ql R':=by
 obtain⟨⟨h1,h2,h3,h4,h5,h6⟩,⟨h7,h8,h9⟩,H,J⟩:=h;exact⟨⟨h1.setOther (by simp) _,h2.setOther (by simp) _,h3.set 0 _,h4.setOther (by simp) _,Y.setCell N (by simp;omega) _,N⟩,⟨h7,by simpa [World.setCell] using h8,h9.setCell (by simp) _⟩,H.trans (KeepsOthers.setCell _ _ _),J.trans (KpB.setCell _ (by simp) (by simp;omega) _)⟩
theorem OvAt.setQ (h:OvAt w Z n mv W X rv ql R) (j d:Nat) (N:j<ql.length) {u:Value} (Y:u=am d):OvAt w Z n mv W (X.setCell ⟨w.heap.size+3,j,none⟩ u) rv (ql.set j d) R:=by
 obtain⟨⟨h1,h2,h3,h4,h5,h6⟩,⟨h7,h8,h9⟩,H,J⟩:=h;exact⟨⟨h1.setOther (by simp) _,h2.setOther (by simp) _,h3.setOther (by simp) _,h4.set j N d Y,h5.setCell h6 (by simp;omega) _,h6⟩,⟨h7,by simpa [World.setCell] using h8,h9.setCell (by simp) _⟩,H.trans (KeepsOthers.setCell _ _ _),J.trans (KpB.setCell _ (by simp) (by simp;omega) _)⟩
theorem OvAt.keptBy {A B:World} {row:Option Nat} (h:OvAt w Z n mv A A rv ql R) (hg:A.grownBy B row) (H: ∀r,row=some r-> ∃o:Obj,A.heap[r]? =some o/\o.isCells=false) (hB:Below w.heap.size A B):OvAt w Z n mv B B rv ql R:=by
 obtain⟨⟨h1,h2,h3,h4,h5,h6⟩,⟨h7,h8,h9⟩,_,_⟩:=h;exact⟨⟨h1.kept hg H,h2.kept hg H,h3.kept hg H,h4.kept hg H,ayh h5 hg H,h6⟩,⟨h7,zac h8 hg.size,h9.trans hB⟩,KeepsOthers.refl _,KpB.refl _ _ _⟩
end
def Kz {l:zdH} (y n Z:Nat) (mv:Value) (w:World) (pre:List (cf l)) (W:World):Prop:=
 ∃rv,OvAt w Z n mv W W rv (dT y n pre).2 (dT y n pre).1
variable {F:Fence} {n:Nat} {P:Program} {c:Code} {Q:zdN} {a:Act} {w:World}
theorem GS (R:World->Prop)
 (h1:c.wpIn F n P (λe _ w'=>e= .normal/\R w') a w) (h2: ∀H w',R w'->Q .normal H w'):c.wpIn F n P Q a w:=
 Code.wpIn_mono (λe H w' h=>by obtain⟨rfl,J⟩:=h;exact h2 H w' J) h1
theorem GT {K:Act->World->Prop} {A:Act} (R:World->Prop)
 (h1:c.wpIn F n P (λe H w'=>e= .normal/\H=A/\R w') a w) (h2: ∀w',R w'->K A w'):c.wpIn F n P (Exit.then K Q) a w:=
 Code.wpIn_mono (λe H w' h=>by obtain⟨rfl,rfl,J⟩:=h;exact h2 w' J) h1
variable {y:Nat}
theorem yA {N k:Nat} (H:0<y) (J:N<y*10000) (h:k<=9999/\(∀j,j<k->decide (N<y*(j+1))=false)/\(k<9999->decide (N<y*(k+1))=true)):k=N / y:=by
 obtain⟨h1,h2,h3⟩:=h;have h4:N<y*(k+1):=by
  by_cases Y:k<9999
  ·exact zdu (h3 Y)
  ·obtain rfl:k=9999:=by omega
   exact J
 have h5:y*k<=N:=by
  cases k with
  |zero=>simp
  |succ j=>exact Nat.le_of_not_lt (zdv (h2 j (zcy j)))
 exact Nat.le_antisymm ((Nat.le_div_iff_mul_le H).2 (by rw[zay];exact h5)) (Nat.le_of_lt_succ ((zbO H).2 (by rw[zay];exact h4)))
theorem acU (d R e:Nat) (J:d<10000) (H:(ae 10000 R).length<=e):(ae 10000 (d+10000*R)).length<=e+1:=by
 have h3:=(ai (B:=10000) (by decide) R e).1 H;exact(ai (B:=10000) (by decide) _ (e+1)).2 (by rw[zaw];omega)
theorem iW (x y:Nat) (hy0:0<y) (va vb:Value) (w:World) (ha:Rd am w va (ae 10000 x)) (hb:Rd am w vb (ae 10000 y)) (hx:(ae 10000 x).length<=400) (hy:(ae 10000 y).length<=400) (hfa: ∀k,va.ownBlock=some k->k<w.heap.size):
 Calls prog 229 #[va,vb] w λe w'=> ∃v1 v2,e= .returned (.tuple #[v1,v2])/\Rd am w' v1 (ae 10000 (x / y))/\Rd am w' v2 (ae 10000 (x%y))/\From w.heap.size v1/\From w.heap.size v2/\Below w.heap.size w w':=by
 obtain⟨aa,ca,rfl,_⟩:=ha.open';obtain⟨ab,cb,rfl,_⟩:=hb.open';have Ha:=zdB ha;have Hb:=zdB hb;obtain⟨n,hn⟩: ∃n,(ae 10000 x).length=n:=⟨_,rfl⟩;obtain⟨m,hm⟩: ∃n,(ae 10000 y).length=n:=⟨_,rfl⟩;have Hn:=zdB hn;have Hm:=zdB hm;rw[hn] at hx Ha hfa ⊢;rw[hm] at hy Hb ⊢;have Hfa:=zdB hfa;clear hn hm ha hb hfa;refine(callsIn_wide (n:=5)).1 ?_;refine callsIn_of_wp_marks func229 rfl trivial ?_ rfl;simp only[ntmps229,zbp,za4,za9,Nat.reduceAdd,Nat.reduceSub,zbS,zbT,zbU,zbV,zaM,zaO];have e3:(((w.alloc (.cells #[.slice ab m cb] 203)).alloc (.cells #[.slice none 0 0] 203)).alloc (.cells #[.slice none 0 0] 203)).heap.size=w.heap.size+3:=by simp
 gi_wp2_with (first
  |(gi_at_make;refine sW (enc:=am) (e:=3) (B:=w.heap.size+3) rfl _ _ 203 rfl 0 8 underlying203 aFs rfl .i64 .i64 _ _ n rfl rfl rfl rfl (by omega) (by decide) (by simp) ?_;intro w1 hown1 hB1;rw[e3] at hown1 hB1;simp only[World.size_alloc]
    have hM1:=((Blk.new w #[.slice ab m cb] 203).alloc (.cells #[.slice none 0 0] 203)).alloc (.cells #[.slice none 0 0] 203)|>.below hB1 (by omega)
    have hQ1:=(Blk.newAt (w.alloc (.cells #[.slice ab m cb] 203)) #[.slice none 0 0] 203 (b:=w.heap.size+1) (by simp)).alloc (.cells #[.slice none 0 0] 203)|>.below hB1 (by omega)
    have hR1:=(Blk.newAt ((w.alloc (.cells #[.slice ab m cb] 203)).alloc (.cells #[.slice none 0 0] 203)) #[.slice none 0 0] 203 (b:=w.heap.size+2) (by simp))|>.below hB1 (by omega)
    have hBw1:Below w.heap.size w w1:=((((zdC _ w).alloc (za0 _) _).alloc (by simp) _).alloc (by simp;omega) _).trans (hB1.mono (by omega));have q1:=hQ1.cell (i:=0) rfl
    have qf1:=hQ1.free 0)
  |(refine⟨trivial, ?_⟩;gi_at_call 235;refine(callsIn_wide.2 (gD _ _ _ _)).mono ?_;rintro e w' ⟨rfl,rfl⟩))
 obtain⟨W0,hW0⟩: ∃W0,(w1.setCell ⟨w.heap.size+1,0,none⟩ (.slice (some ⟨w.heap.size+3,0,none⟩) n n))=W0:=⟨_,rfl⟩;have hM0:Blk W0 w.heap.size #[.slice ab m cb] 203:=by subst hW0;exact hM1.setOther (by simp) _
 have hQ0:Blk W0 (w.heap.size+1) #[.slice (some ⟨w.heap.size+3,0,none⟩) n n] 203:=by subst hW0;exact hQ1.set 0 _
 have hR0:Blk W0 (w.heap.size+2) #[.slice none 0 0] 203:=by subst hW0;exact hR1.setOther (by simp) _
 have hB0:Below w.heap.size w W0:=by subst hW0;exact hBw1.setCell (by simp) _
 have hown0:OwnL am 3 W0 (w.heap.size+3) (.slice (some ⟨w.heap.size+3,0,none⟩) n n) (List.replicate n 0):=by subst hW0;exact hown1.setOther (by simp) _
 have hsz0:W0.heap.size=w1.heap.size:=by subst hW0;simp[World.setCell]
 have hlt0:w.heap.size+4<=W0.heap.size:=by obtain⟨_,_,hlt,_⟩:=hown0.row;omega
 rw[hW0];simp only[hsz0.symm];clear hW0 hsz0 q1 qf1 hM1 hQ1 hR1 hBw1 hown1 hB1 e3;clear w1;have hwsz: ∀t:Value,(W0.alloc (.cells #[t] 203)).heap.size=W0.heap.size+1:=λt=>by simp
 simp only[zbq,Nat.reduceAdd];refine qM (by omega) W0.heap.size w.heap.size rfl (.slice aa n ca) (ae 10000 x) (by rw[Hn.out];omega) (by simp) (by simp;have:=hB0.size;omega) ((Blk.new W0 #[.slice aa n ca] 203).cell (i:=0) rfl) ((Ha.out.below hB0).below ((zdC _ W0).alloc (za0 _) _)) Hfa.out rfl
  (λpre W=>Kz y n W0.heap.size (.slice ab m cb) w pre W)
  (λ_ _ _=>False)
  ?own ?ownx ?start (λp t=>((t.setIfInBounds 15 (.int .i64 (p.1.1:Int))).setIfInBounds 16 (.int .i64 (p.1.2:Int))).setIfInBounds 6 (.int .i64 (p.1.1:Int))|>.setIfInBounds 7 (.int .i64 (p.1.2:Int))) ?assign ?body ?done ?stop
 case own=>
  intro s A B row hs hg hr;obtain⟨rv,h⟩:=hs;refine⟨rv,h.keptBy hg (λr e=>(hr r e).2) ((zdC _ A).grown hg h.2.1.2.2.size (λk e=> ?_))⟩;have h1:=(hr k e).1;have h2:=hB0.size;rw[World.size_alloc] at h1;omega
 case ownx=>exact λ_ _ _ _ _ hs _ _=>hs
 case start=>exact⟨_,⟨⟨hM0.alloc _,hQ0.alloc _,hR0.alloc _,hown0.alloc _, .inl ⟨rfl,aF 10000⟩,From.nil _⟩,⟨hlt0,by simp,hB0.alloc hB0.size _⟩,KeepsOthers.refl _,KpB.refl _ _ _⟩⟩
 case assign=>
  intro l x W K hK;simp only[zbk,zaR,zba] at hK
  gi_wp2
  exact hK
 case body=>
  rintro l pre p W ⟨rv,hOv⟩ hlen;simp only[zbk,zaR,zba];obtain⟨hRy,hql,hqd⟩:=ay3 (y:=y) (n:=n) hy0 (λz hz=>aK (by decide) x z hz) pre;obtain⟨⟨R,ql⟩,hF⟩: ∃F,dT y n pre=F:=⟨_,rfl⟩;rw[hF] at hOv hRy hql hqd;have HF:=zdB hF;clear hF;simp only at hOv hRy hql hqd;rw[Hn.out] at hlen;have hpd:p.1.2<10000:=aK (by decide) x _ (zal p.2);have hpi:p.1.1<n:=by have:=(zaV.1 p.2).1;rw[Hn.out] at this;exact this
  have hlR:(ae 10000 R).length<=400:=by
   have h3:=(ai (B:=10000) (by decide) y m).1 (by rw[Hm.out];exact za0 _);have:=(ai (B:=10000) (by decide) R m).2 (by omega);omega
  obtain⟨av,cv,rfl,_⟩:=hOv.1.2.2.2.2.1.open';have HOv:=zdB hOv;have r0:=hOv.1.2.2.1.cell (i:=0) rfl;have rf0:=hOv.1.2.2.1.free 0;have rl0:=hOv.1.2.2.1.lt;have hds: ∀z∈ [p.1.2]++ae 10000 R,z<10000:=by
   intro z hz;rcases za8.1 hz with h|h
   ·simp at h;omega
   ·exact aK (by decide) R z h
  have hvs:val 10000 ([p.1.2]++ae 10000 R)=p.1.2+10000*R:=by
   rw[List.singleton_append,val,bi (by decide)]
  have Hds:=zdB hds;have Hvs:=zdB hvs;clear hOv hds hvs
  gi_wp2_with (first
   |(gi_at_builtin;refine lc (enc:=am) (e:=3) rfl _ _ 203 rfl (.int .i64 0) 8 underlying203 aFs rfl du rfl (OwnL.lit1 W p.1.2 rfl) rfl (HOv.out.alloc _).1.2.2.2.2.1 (by simp;omega) (by decide) (by simp) ?_;intro v' w1 hown1 hB1 hk1
     have hO1:=zdB (HOv.out.grow (((zdC _ W).alloc (za0 _) _).trans hB1)))
   |(refine⟨trivial, ?_⟩;gi_at_call 295;refine(CallsIn.inRound l (callsIn_wide.2 (iN _ Hds.out _ _ hown1.rd))).mono ?_;rintro e w2 ⟨v2,rfl,hr2,hf2,hb2⟩
     have hO2:=zdB (hO1.out.grow hb2);have r2:=hO2.out.1.2.2.1.cell (i:=0) rfl;have rf2:=hO2.out.1.2.2.1.free 0;have m2:=hO2.out.1.1.cell (i:=0) rfl;rw[Hvs.out] at hr2
     obtain⟨a2,c2,rfl,_⟩:=hr2.open'))
  have hO3:=(hO2.out.setR hr2 (hf2 _ (hown1.from.mono HOv.out.2.1.2.1))).alloc (.cells #[.func (.func 296) #[.slice ab m cb] #[]] 324);have hby:=Blk.newAt (w2.setCell ⟨w.heap.size+2,0,none⟩ (.slice a2 (ae 10000 (p.1.2+10000*R)).length c2)) #[.func (.func 296) #[.slice ab m cb] #[]] 324 (b:=w2.heap.size) (by simp[World.setCell]);have hbb:w.heap.size+4<=w2.heap.size:=by have:=hO2.out.2.1;omega
  have hlN:=acU p.1.2 R 400 hpd hlR;have hNy:p.1.2+10000*R<y*10000:=by omega
  generalize ((w2.setCell ⟨w.heap.size+2,0,none⟩ (.slice a2 (ae 10000 (p.1.2+10000*R)).length c2)).alloc (.cells #[.func (.func 296) #[.slice ab m cb] #[]] 324))=X2 at*
  obtain⟨N,hN⟩: ∃N,p.1.2+10000*R=N:=⟨_,rfl⟩;rw[hN] at hO3 hlN hNy;simp only[hN];have HN:=zdB hN;have HO:=zdB hO3;have hrl:=zdB hO3.2.1.2.1;have Hby:=zdB hby;obtain⟨bb,hbbe⟩: ∃b,w2.heap.size=b:=⟨_,rfl⟩;rw[hbbe] at hby Hby hbb;simp only[hbbe];have hbl:=hby.lt;have qd:=hO3.drew.1.2.1.cell (i:=0) rfl;have hlenq:p.1.1<ql.length:=by omega
  clear hO3 hN hby hbbe r0 rf0 rl0 r2 rf2 m2 hO1 hO2 hr2 hf2 hown1 hB1 hk1 hb2
  have hse:=zdB (AF 297 (.pointer (some ⟨bb,0,none⟩)) (.pointer (some ⟨w.heap.size+2,0,none⟩)) (enters_of func297 (by kernel_rfl) rfl) 9999 (λi=>decide (N<y*(i+1))) X2.drew (by decide)
         (λi W hi hW=>Ei y N i (.slice ab m cb) _ bb (w.heap.size+2) W (Hb.out.below (HO.out.drew.grow hW).2.1.2.2) (HO.out.drew.grow hW).1.2.2.2.2.1 ((Blk.below (w:=X2.drew) Hby.out hW hbl).cell rfl) (zam hbl hW.size) ((HO.out.drew.grow hW).1.2.2.1.cell rfl) (HO.out.drew.grow hW).1.2.2.1.lt hi (by rw[Hm.out];omega) (by omega))
         (λi j hij h=>by simp only[zdt] at h ⊢;exact zam h (zb5 _ (by omega))))
  have hmx:prog.follows .mixedOrders=true:=by kernel_rfl
  obtain⟨k0,hk0⟩: ∃k,N / y=k:=⟨_,rfl⟩;have Hk0:=zdB hk0;clear hk0;apply GT (λW'=> ∃w3,Below X2.drew.heap.size X2.drew w3/\W'=w3.setCell ⟨w.heap.size+3,p.1.1,none⟩ (.int .i64 (k0:Int)))
  ·gi_region_with_o (first
   |(refine⟨trivial, ?_⟩;gi_at_call 298
     refine(CallsIn.inRound l (callsIn_wide.2 hse.out)).mono ?_;rintro e w3 ⟨k,rfl,hk,hb3⟩;obtain rfl:k0=k:=Hk0.out.symm.trans (yA hy0 hNy hk).symm;have q3:=(HO.out.drew.grow hb3).1.2.1.cell (i:=0) rfl;have e3:=(HO.out.drew.grow hb3).1.2.2.2.1.cell p.1.1 hlenq
     have f3:=(HO.out.drew.grow hb3).1.2.2.2.1.free p.1.1))
   all_goals exact⟨rfl,rfl,_,hb3,rfl⟩
  ·rintro w' ⟨w3,hb3,rfl⟩;have HO4:=zdB (((HO.out.drew.grow hb3).setQ p.1.1 k0 hlenq (u:= .int .i64 (k0:Int)) rfl).drew);have HB4:=zdB ((Blk.below (w:=X2.drew) Hby.out hb3 hbl).setOther (a:=⟨w.heap.size+3,p.1.1,none⟩) (by simp;omega) (.int .i64 (k0:Int)));have hk9:k0<10000:=by rw[<-Hk0.out];exact(zbO hy0).2 (by rw[zay];exact hNy)
   have hle:y*k0<=N:=by rw[<-Hk0.out];exact Nat.mul_div_le N y
   have hlp:(ae 10000 (y*k0)).length<=401:=by
    have h3:=(ai (B:=10000) (by decide) N 401).1 hlN;exact(ai (B:=10000) (by decide) _ 401).2 (by omega)
   obtain⟨X4,hX4⟩: ∃X,w3.setCell ⟨w.heap.size+3,p.1.1,none⟩ (.int .i64 (k0:Int))=X:=⟨_,rfl⟩;rw[hX4] at HO4 HB4;rw[hX4];clear hX4 hb3 qd hse;have r4:=HO4.out.1.2.2.1.cell (i:=0) rfl;have q4:=HO4.out.1.2.1.cell (i:=0) rfl;have b4:X4.drew.cell? ⟨bb,0,none⟩=_:=HB4.out.cell (i:=0) rfl;have e4:=HO4.out.1.2.2.2.1.cell p.1.1 (by simpa using hlenq);rw[zcj] at e4;have hBy:=zdB (lP y k0 hk9 _ X4.drew (Hb.out.below HO4.out.2.1.2.2) (by rw[Hm.out];omega));have hMi:Hid (∀w5 v5,Below X4.drew.heap.size X4.drew w5->Rd am w5 v5 (ae 10000 (y*k0))->Calls prog 234 #[.slice a2 (ae 10000 N).length c2,v5] w5 λe w6=> ∃a6 n6 c6,e= .returned (.slice a6 n6 c6)/\(Rd am w6 (.slice a6 n6 c6) (ae 10000 (N - y*k0))/\From w5.heap.size (.slice a6 n6 c6)/\Below w5.heap.size w5 w6)/\w6.cell? ⟨w.heap.size+2,0,none⟩=some (.slice a2 (ae 10000 N).length c2)/\w6.frozen? ⟨w.heap.size+2,0,none⟩=false):=by
    refine zdB ?_;intro w5 v5 hb5 hr5;refine(ll N (y*k0) hle _ _ _ (HO4.out.grow hb5).1.2.2.2.2.1 hr5 (by omega) (by omega)).mono ?_;rintro e w6 ⟨v6,rfl,hr6,hf6,hb6⟩;have HO6:=((HO4.out.grow hb5).grow hb6);obtain⟨a6,c6,rfl,_⟩:=hr6.open';exact⟨a6,_,c6,rfl,⟨hr6,hf6,hb6⟩,HO6.1.2.2.1.cell (i:=0) rfl,HO6.1.2.2.1.free 0⟩
   have hR5:Hid (∀w5,Below X4.drew.heap.size X4.drew w5->w5.cell? ⟨w.heap.size+2,0,none⟩=some (.slice a2 (ae 10000 N).length c2)):=zdB λw5 hb5=>(HO4.out.grow hb5).1.2.2.1.cell (i:=0) rfl;have hEnd:Hid (∀w5 w6 v6,Below X4.drew.heap.size X4.drew w5->(Rd am w6 v6 (ae 10000 (N - y*k0))/\From w5.heap.size v6/\Below w5.heap.size w5 w6)->OvAt w W0.heap.size n (.slice ab m cb) W (w6.setCell ⟨w.heap.size+2,0,none⟩ v6) v6 (ql.set p.1.1 k0) (N - y*k0)):=by
    refine zdB ?_;rintro w5 w6 v6 hb5 ⟨hr6,hf6,hb6⟩;exact((HO4.out.grow hb5).grow hb6).setR hr6 (hf6.mono (zac HO4.out.2.1.2.1 hb5.size))
   have hS5:Hid (∀w5,Below X4.drew.heap.size X4.drew w5->w5.cell? ⟨w.heap.size+1,0,none⟩=some (.slice (some ⟨w.heap.size+3,0,none⟩) n n)/\w5.cell? ⟨bb,0,none⟩=some (.func (.func 296) #[.slice ab m cb] #[])/\w5.cell? ⟨w.heap.size+3,p.1.1,none⟩=some (.int .i64 (k0:Int))):=by
    refine zdB ?_;intro w5 hb5;have e5:=(HO4.out.grow hb5).1.2.2.2.1.cell p.1.1 (by simpa using hlenq);rw[zcj] at e5;exact⟨(HO4.out.grow hb5).1.2.1.cell rfl,(Blk.below (w:=X4.drew) HB4.out hb5 (Blk.lt HB4.out)).cell rfl,e5⟩
   have hS6:Hid (∀w5 w6 v6,Below X4.drew.heap.size X4.drew w5->(Rd am w6 v6 (ae 10000 (N - y*k0))/\From w5.heap.size v6/\Below w5.heap.size w5 w6)->(w6.setCell ⟨w.heap.size+2,0,none⟩ v6).cell? ⟨w.heap.size+1,0,none⟩=some (.slice (some ⟨w.heap.size+3,0,none⟩) n n)/\(w6.setCell ⟨w.heap.size+2,0,none⟩ v6).cell? ⟨bb,0,none⟩=some (.func (.func 296) #[.slice ab m cb] #[])/\(w6.setCell ⟨w.heap.size+2,0,none⟩ v6).cell? ⟨w.heap.size+3,p.1.1,none⟩=some (.int .i64 (k0:Int))):=by
    refine zdB ?_;intro w5 w6 v6 hb5 h6;have hO:=hEnd.out w5 w6 v6 hb5 h6;have e6:=hO.1.2.2.2.1.cell p.1.1 (by simpa using hlenq);rw[zcj] at e6;exact⟨hO.1.2.1.cell rfl,((Blk.below (w:=X4.drew) HB4.out (hb5.trans (h6.2.2.mono hb5.size)) (Blk.lt HB4.out)).setOther (a:=⟨w.heap.size+2,0,none⟩) (by simp;omega) v6).cell rfl,e6⟩
   have hRes:(N%y,ql.set p.1.1 (N / y))=(N - y*k0,ql.set p.1.1 k0):=by rw[Nat.mod_eq_sub,Hk0.out]
   have hFin:Hid (dT y n (pre++ [p])=(N - y*k0,ql.set p.1.1 k0)):=by
    refine zdB ?_;rw[acy,HF.out];simp only[lh,HN.out];exact hRes
   clear hRes hlN hlp hle hk9 hNy hbb hbl hlR hpd hRy hqd hlt0 hwsz HO4 HB4 Hby HO hrl hlen Hds Hvs HF HN Hk0 hQ0 hR0 hM0 hown0 hB0
   gi_wp2
   refine GS (λW'=> ∃v6,OvAt w W0.heap.size n (.slice ab m cb) W W' v6 (ql.set p.1.1 k0) (N - y*k0)) ?_ ?_
   ·refine oo (λw5=>w5.cell? ⟨w.heap.size+1,0,none⟩=some (.slice (some ⟨w.heap.size+3,0,none⟩) n n)/\w5.cell? ⟨bb,0,none⟩=some (.func (.func 296) #[.slice ab m cb] #[])/\w5.cell? ⟨w.heap.size+3,p.1.1,none⟩=some (.int .i64 (k0:Int))) hmx (by kernel_rfl) (λ_ _ h=>by cases h.1) ?_;have hS:=hS5.out X4.drew (zdC _ _);clear q4 b4 e4;refine wpAnyH_take (i:=1) (v:= .func (.func 296) #[.slice ab m cb] #[]) rfl (by kernel_rfl) (by kernel_rfl) (by kernel_rfl) (λ_ _ _ h=>h) (Or.inl ⟨by rfl,by rintro W5 ⟨s1,s2,s3⟩;go_simp⟩) hS ?_;refine wpAnyH_take (i:=2) (v:= .slice (some ⟨w.heap.size+3,0,none⟩) n n) rfl (by kernel_rfl) (by kernel_rfl) (by kernel_rfl) (λ_ _ _ h=>h) (Or.inl ⟨by rfl,by rintro W5 ⟨s1,s2,s3⟩;go_simp⟩) hS ?_;refine wpAnyH_take (i:=3) (v:= .int .i64 (p.1.1:Int)) rfl (by kernel_rfl) (by kernel_rfl) (by kernel_rfl) (λ_ _ _ h=>h) (Or.inl ⟨by rfl,by rintro W5 ⟨s1,s2,s3⟩;go_simp⟩) hS ?_;refine wpAnyH_take (i:=4) (v:= .pointer (some ⟨w.heap.size+3,p.1.1,none⟩)) rfl (by kernel_rfl) (by kernel_rfl) (by kernel_rfl) (λ_ _ _ h=>h) (Or.inl ⟨by rfl,by rintro W5 ⟨s1,s2,s3⟩;go_simp⟩) hS ?_;refine wpAnyH_take (i:=5) (v:= .int .i64 (k0:Int)) rfl (by kernel_rfl) (by kernel_rfl) (by kernel_rfl) (λ_ _ _ h=>h) (Or.inl ⟨by rfl,by rintro W5 ⟨s1,s2,s3⟩;go_simp⟩) hS ?_;refine wpAnyH_ready (rs:= [0,6]) (by kernel_rfl) (by simp) (AllReadyH.cons rfl (λK hK=> ?_) (AllReadyH.cons rfl (λK hK=> ?_) AllReadyH.nil))
    ·go_simp
     refine hK _ _ hS (λ_=> ?_);clear hK K;refine wpAnyH_ready (rs:= [6]) (by kernel_rfl) (by simp) (AllReadyH.cons rfl (λK hK=> ?_) AllReadyH.nil)
     go_simp
     (with_reducible refine(hBy.out).mono ?_);rintro e w5 ⟨v5,rfl,hr5,hf5,hb5⟩
     have hS:=hS5.out w5 hb5;have r5:=hR5.out w5 hb5;refine hK _ _ hS (λ_=> ?_);clear hK K;refine wpAnyH_ready (rs:= [7]) (by kernel_rfl) (by simp) (AllReadyH.cons rfl (λK hK=> ?_) AllReadyH.nil)
     go_simp
     (with_reducible refine(hMi.out _ _ hb5 hr5).mono ?_);rintro e w6 ⟨a6,n6,c6,rfl,h6,r6,f6⟩
     have hS:=hS5.out w6 (hb5.trans (h6.2.2.mono hb5.size));refine hK _ _ hS (λ_=> ?_);clear hK K;refine wpAnyH_ready (rs:= [8]) (by kernel_rfl) (by simp) (AllReadyH.cons rfl (λK hK=> ?_) AllReadyH.nil)
     go_simp
     refine hK _ _ (hS6.out _ _ _ hb5 h6) (λ_=> ?_);clear hK K;refine wpAnyH_done (by kernel_rfl) ?_ _;exact⟨rfl,_,hEnd.out _ _ _ hb5 h6⟩
    ·go_simp
     (with_reducible refine(hBy.out).mono ?_);rintro e w5 ⟨v5,rfl,hr5,hf5,hb5⟩
     have hS:=hS5.out w5 hb5;have r5:=hR5.out w5 hb5;refine hK _ _ hS (λ_=> ?_);clear hK K;refine wpAnyH_ready (rs:= [0]) (by kernel_rfl) (by simp) (AllReadyH.cons rfl (λK hK=> ?_) AllReadyH.nil)
     go_simp
     refine hK _ _ hS (λ_=> ?_);clear hK K;refine wpAnyH_ready (rs:= [7]) (by kernel_rfl) (by simp) (AllReadyH.cons rfl (λK hK=> ?_) AllReadyH.nil)
     go_simp
     (with_reducible refine(hMi.out _ _ hb5 hr5).mono ?_);rintro e w6 ⟨a6,n6,c6,rfl,h6,r6,f6⟩
     have hS:=hS5.out w6 (hb5.trans (h6.2.2.mono hb5.size));refine hK _ _ hS (λ_=> ?_);clear hK K;refine wpAnyH_ready (rs:= [8]) (by kernel_rfl) (by simp) (AllReadyH.cons rfl (λK hK=> ?_) AllReadyH.nil)
     go_simp
     refine hK _ _ (hS6.out _ _ _ hb5 h6) (λ_=> ?_);clear hK K;refine wpAnyH_done (by kernel_rfl) ?_ _;exact⟨rfl,_,hEnd.out _ _ _ hb5 h6⟩
   ·rintro a' w' ⟨v6,hO7⟩
    gi_wp2
    refine⟨hO7.2.2.1.from _,hO7.2.2.2,v6, ?_⟩;rw[hFin.out];exact hO7.start
 case done=>
  rintro D ys W hD hys ⟨rv,hOv⟩ hK;have hbw:=Ky (x:=x) hy0 (ae 10000 x).length (za0 _);rw[<-hys,zaJ] at hbw;rw[Hn.out] at hbw;obtain⟨hq,hr⟩:=DivInv.done (R:=(dT y n ys).1) (q:=(dT y n ys).2) (by decide) hbw;obtain⟨_,hql,hqd⟩:=ay3 (y:=y) (n:=n) hy0 (λz hz=>aK (by decide) x z hz) ys;generalize dT y n ys=F at*
  obtain⟨R,ql⟩:=F;simp only at hOv hq hr hql hqd;subst hr;have Hq:=zdB hq;have Hqd:=zdB hqd;have HK:=zdB hK;have HOv:=zdB hOv;obtain⟨ra,rc,rfl,_⟩:=hOv.1.2.2.2.2.1.open';have q9:=hOv.drew.1.2.1.cell (i:=0) rfl;have r9:=hOv.drew.1.2.2.1.cell (i:=0) rfl;clear hq hqd hK hOv hbw hys;have hmx:prog.follows .mixedOrders=true:=by kernel_rfl
  gi_wp2
  gi_region_with_o (refine⟨trivial, ?_⟩;gi_at_call 295;refine(callsIn_wide.2 (iN ql Hqd.out _ _ HOv.out.drew.1.2.2.2.1.rd)).mono ?_
                    rintro e w2 ⟨v2,rfl,hr2,hf2,hb2⟩;have HO2:=zdB (HOv.out.drew.grow hb2);rw[Hq.out] at hr2;have q2:=HO2.out.1.2.1.cell (i:=0) rfl;have qf2:=HO2.out.1.2.1.free 0;have r2:=HO2.out.1.2.2.1.cell (i:=0) rfl;have rf2:=HO2.out.1.2.2.1.free 0
                    obtain⟨qa,qc,rfl,_⟩:=hr2.open')
  all_goals gi_wp2
  all_goals
   have hQ8:=(HO2.out.1.2.1.set 0 (.slice qa (ae 10000 (x / y)).length qc)).setOther (a:=⟨w.heap.size+2,0,none⟩) (by simp) (.slice ra (ae 10000 (x%y)).length rc);have hR8:=(HO2.out.1.2.2.1.setOther (a:=⟨w.heap.size+1,0,none⟩) (by simp) (.slice qa (ae 10000 (x / y)).length qc)).set 0 (.slice ra (ae 10000 (x%y)).length rc);have hfq:From (w.heap.size+3) (.slice qa (ae 10000 (x / y)).length qc):=hf2 _ (λk hk=>by cases hk;exact za0 _);have hfr:=HO2.out.1.2.2.2.2.2;have hZ:=HO2.out.2.1;have hq8:=(hr2.setCell (a:=⟨w.heap.size+1,0,none⟩) hfq (by simp) (.slice qa (ae 10000 (x / y)).length qc)).setCell (a:=⟨w.heap.size+2,0,none⟩) hfq (by simp) (.slice ra (ae 10000 (x%y)).length rc);have hr8:=(HO2.out.1.2.2.2.2.1.setCell (a:=⟨w.heap.size+1,0,none⟩) hfr (by simp;omega) (.slice qa (ae 10000 (x / y)).length qc)).setCell (a:=⟨w.heap.size+2,0,none⟩) hfr (by simp;omega) (.slice ra (ae 10000 (x%y)).length rc);have hB8:Below w.heap.size w ((w2.setCell ⟨w.heap.size+1,0,none⟩ (.slice qa (ae 10000 (x / y)).length qc)).setCell ⟨w.heap.size+2,0,none⟩ (.slice ra (ae 10000 (x%y)).length rc)):=(hZ.2.2.setCell (by simp) _).setCell (by simp) _;have hDW:w.heap.size+4<=D:=by rw[World.size_alloc] at hD;omega
   have hK8:((w2.setCell ⟨w.heap.size+1,0,none⟩ (.slice qa (ae 10000 (x / y)).length qc)).setCell ⟨w.heap.size+2,0,none⟩ (.slice ra (ae 10000 (x%y)).length rc)).heap[D]? =some (.deferred (some [])):=by
    rw[Below.heap_setCell _ _ _ _ (by simp;omega),Below.heap_setCell _ _ _ _ (by simp;omega)];exact(hb2.block D (zaq.1 HK.out).1).trans HK.out
   generalize ((w2.setCell ⟨w.heap.size+1,0,none⟩ (.slice qa (ae 10000 (x / y)).length qc)).setCell ⟨w.heap.size+2,0,none⟩ (.slice ra (ae 10000 (x%y)).length rc))=W9 at*
   refine⟨by simp, .inl ⟨_,_,rfl,run_takeDeferred hK8, ?_⟩⟩;have hg:=grownBy_putObj' W9 D (.deferred none);have hgr: ∀r,some D=some r-> ∃o:Obj,W9.heap[r]? =some o/\o.isCells=false:=λr e=>by cases e;exact⟨_,hK8,rfl⟩
   have c1:(W9.putObj D (.deferred none)).cell? ⟨w.heap.size+1,0,none⟩=some (.slice qa (ae 10000 (x / y)).length qc):=(hQ8.kept hg hgr).cell rfl;have c2:(W9.putObj D (.deferred none)).cell? ⟨w.heap.size+2,0,none⟩=some (.slice ra (ae 10000 (x%y)).length rc):=(hR8.kept hg hgr).cell rfl;refine⟨.tuple #[.slice qa (ae 10000 (x / y)).length qc, .slice ra (ae 10000 (x%y)).length rc], ?_,_,_,rfl,ayh hq8 hg hgr,ayh hr8 hg hgr,hfq.mono (by omega),hfr.mono (by omega),hB8.trans (belowK_b (w:=w) (za0 _) W9 D _ _ (by omega) hK8 rfl rfl)⟩;simp[results,f229,go_sem,c1,c2]
 case stop=>exact λ_ _ _ _ _ _ hx _=>hx.elim
theorem aAc (c:UInt8): ∀n,Lib.repeatL [c] n=List.replicate n c:=by
 intro n
 induction n with
 |zero=>rfl
 |succ n H=>rw[zcd,<-H];rfl
theorem qo:(prog.info? 263).map (·.size)=some 2:=by kernel_rfl
theorem yC:liesAt prog prog.depth 263 (2 / prog.cellsOf 263) 0 263 1=true:=by kernel_rfl
theorem Ej:(prog.info? 5).map (λi=>(i.zero,i.size,i.bytes))=some (some (.int .u8 0),1,1):=by kernel_rfl
theorem tc (b:Nat) (w:World) (h0:w.cell? ⟨b,0,none⟩=some (.pointer (some ⟨b,0,none⟩))):
 Calls prog 307 #[.pointer (some ⟨b,0,none⟩)] w λe w'=>e= .returned (.tuple #[])/\w'=w:=by
 obtain⟨j,hj,_⟩:=zbE.1 qo;go_enter func307,ntmps307;go_wp2;rw[Lib.run_neq_ptr_same w _ underlying261 hj];go_wp2
 go_end0
 exact⟨rfl,rfl⟩
theorem qL (b:Nat) (w:World) (h0:w.cell? ⟨b,0,none⟩=some (.pointer none)) (hsh:w.shape? b=some (263,2)) (hfz:w.frozen? ⟨b,0,none⟩=false):
 Calls prog 307 #[.pointer (some ⟨b,0,none⟩)] w λe w'=>e= .returned (.tuple #[])/\w'=w.setCell ⟨b,0,none⟩ (.pointer (some ⟨b,0,none⟩)):=by
 obtain⟨j,hj,hjs⟩:=zbE.1 qo;go_enter func307,ntmps307;go_wp2;rw[Lib.run_to_unsafe w ⟨b,0,none⟩ underlying261 underlying369 hj (by rw[hjs];decide) hsh (Nat.zero_lt_succ 1)];simp only[Result.andThen];rw[Oper.upon_value];go_wp2;rw[run_callFunc_extern func355 (by kernel_rfl) (by kernel_rfl) (by kernel_rfl) (e:=Extern.AbiNoEscape.same) (by kernel_rfl)];rw[Lib.run_noEscape];simp only[Result.andThen];rw[Oper.upon_value];go_wp2;rw[Lib.run_from_unsafe w ⟨b,0,none⟩ underlying369 underlying261 hj hsh yC];simp only[Result.andThen];rw[Oper.upon_value];go_wp2
 go_end0
 exact⟨rfl,rfl⟩
theorem uB (B b:Nat) (H:zdK) (w:World) (h:Lib.IsBuilderF 263 5 B b H w):
 Calls prog 307 #[.pointer (some ⟨b,0,none⟩)] w λe w'=>e= .returned (.tuple #[])/\Lib.BuilderAtF 263 5 B b (.pointer (some ⟨b,0,none⟩)) H w'/\Below B w w'/\Lib.OthersKept 5 (some b) w w':=by
 rcases h with h|h
 ·refine(qL b w h.cell0 h.shape h.frozen0).mono ?_;rintro e w' ⟨rfl,rfl⟩;exact⟨rfl,h.used _,(zdC B w).setCell (p:=⟨b,0,none⟩) h.1 _,(Lib.OthersKept.refl _ _ w).setCell ⟨b,0,none⟩ rfl _⟩
 ·refine(tc b w h.cell0).mono ?_;rintro e w' ⟨rfl,rfl⟩;exact⟨rfl,h,zdC B _,Lib.OthersKept.refl _ _ _⟩
theorem qN (B b:Nat) (bs:zdK) (s:zdG) (w:World) (h:Lib.IsBuilderF 263 5 B b bs w) (hlen:bs.length+s.size<=1099511627776) (hBw:B<=w.heap.size):
 Calls prog 236 #[.pointer (some ⟨b,0,none⟩), .string s] w λe w'=>e= .returned (.tuple #[.int .i64 s.size, .nilIface])/\Lib.IsBuilderF 263 5 B b (bs++Lib.strCells s) w'/\Below B w w'/\Lib.OthersKept 5 (some b) w w':=by
 obtain⟨i0,hi,hz0,hz1,hz2⟩:=info_parts Ej;go_enter func236,ntmps236;go_wp2_with (go_at_call 307;refine(uB B b bs _ h).mono ?_);rintro e w1 ⟨rfl,h1,hb1,hk1⟩;obtain⟨hB,v,hbk,hown,hne⟩:=h1;have c0:w1.cell? ⟨b,0,none⟩=some (.pointer (some ⟨b,0,none⟩)):=by rw[Lib.cell_of_heap hbk];rfl
 have c1:w1.cell? ⟨b,1,none⟩=some v:=by rw[Lib.cell_of_heap hbk];rfl
 go_wp2_with (at_builtin;refine Lib.wpList_append_own_stringF _ rfl _ _ 48 9 rfl B 5 i0 underlying48 underlying9 hi hz0 hz1 hz2 _ _ _ rfl hown s rfl ?c3 ?c4 ?c5 ?_)
 case c3=>unfold maxLen;omega
 case c4=>omega
 case c5=>have:=hb1.size;omega
 intro v' w2 hown' hgrow _;have hlt:b<w1.heap.size:=(zaq.1 hbk).1;have hb2:w2.heap[b]? =some (.cells #[.pointer (some ⟨b,0,none⟩),v] 263 (0,0)):=by
  rw[hgrow.block b hlt (λe=>hne e.symm)];exact hbk
 have d0:w2.cell? ⟨b,0,none⟩=some (.pointer (some ⟨b,0,none⟩)):=by rw[Lib.cell_of_heap hb2];rfl
 have d1:w2.cell? ⟨b,1,none⟩=some v:=by rw[Lib.cell_of_heap hb2];rfl
 have f1:w2.frozen? ⟨b,1,none⟩=false:=Lib.frozen_of_heap hb2 1;obtain⟨ao,n',cap,rfl⟩: ∃ao n' cap,v'= .slice ao n' cap:=by
  rcases hown'.2 with ⟨hv,_⟩|⟨g,cap,cur,fz,hv,_⟩
  ·exact⟨_,_,_,hv⟩
  ·exact⟨_,_,_,hv⟩
 go_wp2
 go_ret2
 refine⟨rfl, .inr ?_, ?_,(hk1.grown hgrow (Lib.ownsRowF_kind hown)).setCell ⟨b,1,none⟩ rfl _⟩
 ·exact Lib.BuilderAtF.put (T:=263) (e:=5) hB hb2 (bs':=bs++Lib.strCells s) (by simpa [Lib.strCells_length] using hown') (by decide)
 ·exact(hb1.grown hgrow (by have:=hb1.size;omega) (λk hk=>(hown.lt k hk).1)).setCell (p:=⟨b,1,none⟩) hB _
attribute [local go_sem] Oper.semAt_some
def arH (n:Nat) (H:List UInt8) (p:Nat×Nat):List UInt8:=H++(if p.1<n - 1 then wi p.2 else Lib.decDigits p.2)
def gt {l:zdH} (n:Nat) (pre:List (cf l)):List UInt8:=(pre.map (·.1)).foldl (arH n) []
variable {l:zdH}
theorem qp (n:Nat) (pre:List (cf l)) (p:cf l):gt n (pre++ [p])=arH n (gt n pre) p.1:=by
 unfold gt;rw[zb8,zbz];rfl
theorem yD {d:Nat} (H:d<10000):(wi d).length=4:=by
 have:=dQ H;unfold wi;rw[za3,zcw];omega
theorem AG (N: ∀z∈l,z<10000) (pre:List (cf l)):(gt n pre).length<=4*pre.length:=by
 induction h:pre.length generalizing pre with
 |zero=>rw[zau h];simp[gt]
 |succ k Y=>
  obtain⟨J,H,rfl⟩: ∃J H,pre=J++ [H]:=⟨pre.dropLast,pre.getLast (by intro e;rw[e] at h;simp at h),(zcX _).symm⟩;have h1:=Y J (by simp at h;omega);have hp:H.1.2<10000:=N _ (zal H.2);have h2:=yD hp;have h3:=dQ hp;rw[qp,arH,za3];split<;>omega
variable {x:Nat}
theorem AH (J:x≠0) {ys:List (cf (ae 10000 x))} (h:ys.map (·.1)=fK (ae 10000 x) (ae 10000 x).length):gt (ae 10000 x).length ys=Lib.decDigits x:=by
 have key: ∀k,k<=(ae 10000 x).length->(fK (ae 10000 x) k).foldl (arH (ae 10000 x).length) []=Rz (ae 10000 x) k:=by
  intro k Y
  induction k with
  |zero=>simp[fK,Rz]
  |succ k N=>
   rw[jC,zbz,N (by omega),zbe,zcu,arH];have H:(ae 10000 x).length - 1 - k<(ae 10000 x).length:=by omega
   have e:(ae 10000 x).getD ((ae 10000 x).length - 1 - k) 0=(ae 10000 x)[(ae 10000 x).length - 1 - k]:=by
    rw[zdh,zaa H];rfl
   simp only[e];by_cases h0:k=0
   ·subst h0;rw[if_neg (by omega)];simp only[zaX];exact(aAK (by omega)).symm
   ·rw[if_pos (by omega)];exact(DB (oT (by decide) x) (aK (by decide) x) (by omega) (by omega)).symm
 unfold gt;rw[h,key _ (za0 _),F0 J]
theorem aoi (n:Nat) (w:World) (hg:Glob w) (J:n<10000):Calls prog 215 #[.int .i64 (n:Int)] w λe w'=>e= .returned (.string ⟨(Lib.decDigits n).toArray⟩)/\Below w.heap.size w w':=by
 refine(strconv_Itoa (n:Int) (by omega) (by omega) w hg.2.1).mono ?_;rintro e w' ⟨rfl,k,os,rfl⟩;refine⟨by rw[dX (by omega)];rfl, ?_⟩;exact⟨rfl,rfl,rfl,by simp[Go.Sort.grow],λb H=>by simp[Go.Sort.grow,zdo,H]⟩
theorem AI (c:Int) (w:World) (h0:0<=c) (h4:c<=1000):Calls prog 163 #[.string ⟨#[48]⟩, .int .i64 c] w λe w'=>e= .returned (.string ⟨(List.replicate c.toNat 48).toArray⟩)/\Below w.heap.size w w':=by
 obtain⟨n,rfl⟩:=zcP h0;refine(strings_Repeat ⟨#[48]⟩ n w (by omega) (by show 1*n<=_;omega)).mono ?_;rintro e w' ⟨rfl,H⟩;exact⟨by rw[show (⟨#[48]⟩:zdG).data.toList= [48] from rfl,aAc];rfl,H⟩
theorem uC (t:zdG):Lib.strCells t=Lib.byteCells t.data.toList:=by rw[Lib.strCells_eq]
variable {t:zdG}
theorem GV (h:x<BIG) (H:(⟨(Lib.decDigits x).toArray⟩:zdG)=t):chkI (sgn false x)=(t,0):=by
 unfold chkI;rw[if_pos (by rw[cz];exact h),<-H];unfold ofI sgn;rw[if_neg (by decide),dX (by omega)];rfl
theorem GW (h:x<BIG) (h0:x≠0) (H:(⟨(Lib.decDigits x).toArray⟩:zdG)=t):chkI (sgn true x)=((⟨#[45]⟩++t:zdG),0):=by
 unfold chkI;rw[if_pos (by rw[cz];exact h),<-H];unfold ofI sgn;rw[if_pos rfl,kH (by omega),Int.natAbs_neg,zbZ]
 congr 1
theorem GY (neg:Bool) (h: ¬x<BIG):chkI (sgn neg x)=(⟨#[]⟩,30):=by
 unfold chkI;rw[if_neg (by rw[cz];exact h)];rfl
def MX {l:zdH} (n:Nat) (st:Value) (sv:Value) (w:World) (pre:List (cf l)) (W:World):Prop:=
 (Lib.IsBuilderF 263 5 (w.heap.size+1) (w.heap.size+1) (Lib.byteCells (gt n pre)) W/\Blk W w.heap.size #[st,sv] 205/\Blk W (w.heap.size+1+1) #[sv] 203)/\Below w.heap.size w W
theorem GZ (neg:Bool) (x:Nat) (hx0:x≠0) (aa:Option Addr) (ca:Nat) (w:World) (hv:Rd am w (.slice aa (ae 10000 x).length ca) (ae 10000 x)) (hg:Glob w) (hx:(ae 10000 x).length<=1000):
 Calls prog 159 #[.agg #[.bool neg, .slice aa (ae 10000 x).length ca]] w λe w'=>e= .returned (.tuple #[.string (chkI (sgn neg x)).1, .int .i64 (chkI (sgn neg x)).2])/\Below w.heap.size w w':=by
 have Ha:=zdB hv;obtain⟨n,hn⟩: ∃n,(ae 10000 x).length=n:=⟨_,rfl⟩;have Hn:=zdB hn;rw[hn] at hx Ha ⊢;have hn0:n≠0:=by
  intro e;apply hx0;exact(aZ (B:=10000) (by decide)).1 (zau (hn.trans e))
 have c0:((n:Int)==0)=false:=by rw[zdw];omega
 clear hn hv hx0;have Hg:=zdB hg;clear hg;refine(callsIn_wide (n:=5)).1 ?_;refine callsIn_of_wp_marks func159 rfl trivial ?_ rfl;simp only[ntmps159,zbp,za4,za9,Nat.reduceAdd,Nat.reduceSub,zbS,zbT,zbU,zbV,zaM,zaO]
 gi_wp2_with (first
  |(refine⟨trivial, ?_⟩;gi_at_call 235;refine(callsIn_wide.2 (gD _ _ _ _)).mono ?_;rintro e w' ⟨rfl,rfl⟩))
 have hS0:Blk (((w.alloc (.cells #[.bool neg, .slice aa n ca] 205)).alloc (.cells #[.pointer none, .slice none 0 0] 263)).alloc (.cells #[.slice aa n ca] 203)) w.heap.size #[.bool neg, .slice aa n ca] 205:=((Blk.new w _ _).alloc _).alloc _;have hU0:Lib.IsBuilderF 263 5 (w.heap.size+1) (w.heap.size+1) (Lib.byteCells []) (((w.alloc (.cells #[.bool neg, .slice aa n ca] 205)).alloc (.cells #[.pointer none, .slice none 0 0] 263)).alloc (.cells #[.slice aa n ca] 203)):=by
  have h1:=Lib.IsBuilderF.of (Lib.fresh_isBuilder 263 5 (w.alloc (.cells #[.bool neg, .slice aa n ca] 205)));rw[World.size_alloc] at h1;exact h1.alloc _
 have hX0:Blk (((w.alloc (.cells #[.bool neg, .slice aa n ca] 205)).alloc (.cells #[.pointer none, .slice none 0 0] 263)).alloc (.cells #[.slice aa n ca] 203)) (w.heap.size+1+1) #[.slice aa n ca] 203:=Blk.newAt _ _ _ (by simp);have hB0:Below w.heap.size w (((w.alloc (.cells #[.bool neg, .slice aa n ca] 205)).alloc (.cells #[.pointer none, .slice none 0 0] 263)).alloc (.cells #[.slice aa n ca] 203)):=(((zdC _ w).alloc (za0 _) _).alloc (by simp) _).alloc (by simp;omega) _;have hsz:w.heap.size+1+1+1=(((w.alloc (.cells #[.bool neg, .slice aa n ca] 205)).alloc (.cells #[.pointer none, .slice none 0 0] 263)).alloc (.cells #[.slice aa n ca] 203)).heap.size:=by simp
 generalize (((w.alloc (.cells #[.bool neg, .slice aa n ca] 205)).alloc (.cells #[.pointer none, .slice none 0 0] 263)).alloc (.cells #[.slice aa n ca] 203))=W0 at*
 refine qM (by omega) (w.heap.size+1+1) w.heap.size rfl (.slice aa n ca) (ae 10000 x) (by rw[Hn.out];omega) hX0.lt (by omega) (hX0.cell rfl) ?rd ?fr rfl
  (λpre W=>MX n (.bool neg) (.slice aa n ca) w pre W)
  (λ_ _ _=>False)
  ?own ?ownx ?start (λp t=>(((t.setIfInBounds 16 (.int .i64 (p.1.1:Int))).setIfInBounds 17 (.int .i64 (p.1.2:Int))).setIfInBounds 5 (.int .i64 (p.1.1:Int))).setIfInBounds 6 (.int .i64 (p.1.2:Int))) ?assign ?body ?done ?stop
 case rd=>exact Ha.out.below hB0
 case fr=>
  intro k hk;rcases Ha.out with ⟨h,_⟩|⟨b,off,cap,h,hb,_⟩
  ·cases h;cases hk
  ·cases h;cases hk;exact hb
 case own=>exact OwnFrom.and (Own.from (λs A B row hs hg hr=>⟨qI hs.1 hg hr,hs.2.1.kept hg hr,hs.2.2.kept hg hr⟩) _) (ownFrom_below (za0 _) (by omega))
 case ownx=>exact λ_ _ _ _ _ hs _ _=>hs
 case start=>exact⟨⟨by simpa [gt] using hU0,hS0,hX0⟩,hB0⟩
 case assign=>
  intro l x W K hK;simp only[zbk,zaR,zba] at hK
  gi_wp2
  exact hK
 case body=>
  rintro l pre p W ⟨⟨hU,hS,hX⟩,hB⟩ hlen;simp only[zbk,zaR,zba];have hpd:p.1.2<10000:=aK (by decide) x _ (zal p.2);have hpi:p.1.1<n:=by have:=(zaV.1 p.2).1;rw[Hn.out] at this;exact this
  have HtL:=AG (n:=n) (aK (by decide) x) pre;rw[Hn.out] at hlen;have HS:=zdB hS;have HU:=zdB hU;have s1:W.cell? ⟨w.heap.size,1,none⟩=some (.slice aa n ca):=hS.cell rfl;have hgW:=zdB (Hg.out.below hB);have hdl:=dQ hpd;have HX:=zdB hX;clear hS hU hX;have hEnd:Hid (∀W1 W2 (t:zdG),Below W.heap.size W W1->t.data.toList=(if p.1.1<n - 1 then wi p.1.2 else Lib.decDigits p.1.2)->(Lib.IsBuilderF 263 5 (w.heap.size+1) (w.heap.size+1) (Lib.byteCells (gt n pre)++Lib.strCells t) W2/\Below (w.heap.size+1) W1 W2/\Lib.OthersKept 5 (some (w.heap.size+1)) W1 W2)->KeepsOthers W W2/\KpB w.heap.size (w.heap.size+1+1) W W2/\MX n (.bool neg) (.slice aa n ca) w (pre++ [p]) W2):=by
   refine zdB ?_;rintro W1 W2 t hb1 ht ⟨h1,h2,h3⟩;have hS1:=HS.out.below hb1 HS.out.lt;have hX1:=HX.out.below hb1 HX.out.lt;have hU1:=jB HU.out hb1;have hS2:Blk W2 w.heap.size #[.bool neg, .slice aa n ca] 205:=h3 _ _ hS1 (by simp) (by intro c fz e;injection e with e1 e2;exact absurd e2 (by decide));have hX2:Blk W2 (w.heap.size+1+1) #[.slice aa n ca] 203:=h3 _ _ hX1 (by simp) (by intro c fz e;injection e with e1 e2;exact absurd e2 (by decide));refine⟨(eC hb1 (za0 _)).trans (iJ h3 (pu hU1) h2.size),⟨(hb1.mono (by have:=HX.out.lt;omega)).trans (h2.mono (by omega)), ?_⟩,⟨?_,hS2,hX2⟩,hB.trans ((hb1.mono (by have:=HX.out.lt;omega)).trans (h2.mono (by omega)))⟩
   ·rw[show W2.heap[w.heap.size+1+1]? =_ from hX2,show W.heap[w.heap.size+1+1]? =_ from HX.out]
   ·rw[qp,arH,<-ht,Lib.byteCells_append,<-uC];exact h1
  have hWr:Hid (∀W1 (t:zdG),Below W.heap.size W W1->t.size<=4->Calls prog 236 #[.pointer (some ⟨w.heap.size+1,0,none⟩), .string t] W1 λe w'=>e= .returned (.tuple #[.int .i64 t.size, .nilIface])/\Lib.IsBuilderF 263 5 (w.heap.size+1) (w.heap.size+1) (Lib.byteCells (gt n pre)++Lib.strCells t) w'/\Below (w.heap.size+1) W1 w'/\Lib.OthersKept 5 (some (w.heap.size+1)) W1 w'):=by
   refine zdB ?_;intro W1 t hb1 ht;exact qN _ _ _ t W1 (jB HU.out hb1) (by rw[Lib.byteCells_length];omega) (by have h1:=hb1.size;have h2:=HX.out.lt;omega)
  have hdl2:(⟨(Lib.decDigits p.1.2).toArray⟩:zdG).size=(Lib.decDigits p.1.2).length:=by rw[<-bj]
  obtain⟨ds,hds⟩: ∃ds:zdG,(⟨(Lib.decDigits p.1.2).toArray⟩:zdG)=ds:=⟨_,rfl⟩;have HI:=zdB (aoi p.1.2 W hgW.out hpd);rw[hds] at hdl2 HI;rw[<-hdl2] at hdl;have Hds:=zdB hds;clear hdl2 hds;by_cases hlt:p.1.1<n - 1
  ·have c1:decide ((p.1.1:Int)<(n:Int) - 1)=true:=by simp;omega
   gi_wp2_with (first
    |(refine⟨trivial, ?_⟩;gi_at_call 215;refine(CallsIn.inRound l (callsIn_wide.2 HI.out)).mono ?_;rintro e w1 ⟨rfl,hb1⟩;have s2:w1.cell? ⟨w.heap.size,1,none⟩=some (.slice aa n ca):=(hb1.cell (p:=⟨w.heap.size,1,none⟩) HS.out.lt).trans s1)
    |(refine⟨trivial, ?_⟩;gi_at_call 163;refine(CallsIn.inRound l (callsIn_wide.2 (AI _ _ (by omega) (by omega)))).mono ?_;rintro e w2 ⟨rfl,hb2⟩))
   obtain⟨t,ht⟩: ∃t:zdG,(⟨Array.replicate (4 - ds.size) 48⟩++ds:zdG)=t:=⟨_,rfl⟩;have htl:t.data.toList=wi p.1.2:=by
    have hz2:ds.data.toList=Lib.decDigits p.1.2:=by rw[<-Hds.out]
    have hz:ds.size=(Lib.decDigits p.1.2).length:=by rw[<-bj,hz2]
    rw[<-ht];simp[wi,hz,hz2]
   have hts:t.size<=4:=by rw[<-bj,htl,yD hpd];omega
   rw[ht];refine⟨trivial, ?_⟩;refine(CallsIn.inRound l (callsIn_wide.2 (hWr.out w2 t (hb1.trans (hb2.mono hb1.size)) hts))).mono ?_;rintro e w3 ⟨rfl,h3⟩;have h4:=hEnd.out w2 w3 t (hb1.trans (hb2.mono hb1.size)) (by rw[if_pos hlt,htl]) h3;have H4:=zdB h4;clear h3 h4 ht htl
   gi_wp2
   exact⟨H4.out.1.from _,H4.out.2.1,H4.out.2.2⟩
  ·have c1:decide ((p.1.1:Int)<(n:Int) - 1)=false:=by simp;omega
   gi_wp2_with (first
    |(refine⟨trivial, ?_⟩;gi_at_call 215;refine(CallsIn.inRound l (callsIn_wide.2 HI.out)).mono ?_;rintro e w1 ⟨rfl,hb1⟩;have s2:w1.cell? ⟨w.heap.size,1,none⟩=some (.slice aa n ca):=(hb1.cell (p:=⟨w.heap.size,1,none⟩) HS.out.lt).trans s1))
   refine⟨trivial, ?_⟩;refine(CallsIn.inRound l (callsIn_wide.2 (hWr.out w1 ds hb1 (by omega)))).mono ?_;rintro e w3 ⟨rfl,h3⟩;have H4:=zdB (hEnd.out w1 w3 ds hb1 (by rw[if_neg hlt,<-Hds.out]) h3);clear h3
   gi_wp2
   exact⟨H4.out.1.from _,H4.out.2.1,H4.out.2.2⟩
 case done=>
  rintro D ys W hD hys ⟨⟨hU,hS,hX⟩,hB⟩ hK;have htx:gt n ys=Lib.decDigits x:=by rw[<-Hn.out];exact AH (by intro e;subst e;apply hn0;rw[<-Hn.out,aF];rfl) hys
  rw[htx] at hU;have HK:=zdB hK;have HS:=zdB hS;have HU:=zdB hU;have hlt:=hX.lt;have hbx:Hid ((Lib.decDigits x).length<=200↔x<BIG):=zdB (dP x 200 (by decide));have hts:(⟨(Lib.decDigits x).toArray⟩:zdG).size=(Lib.decDigits x).length:=by rw[<-bj]
  obtain⟨t,ht⟩: ∃t:zdG,(⟨(Lib.decDigits x).toArray⟩:zdG)=t:=⟨_,rfl⟩;rw[ht] at hts;have Ht:=zdB ht;have Hts:=zdB hts;have hSt:=zdB (Builder_String_any_k (w.heap.size+1) (w.heap.size+1) (Lib.decDigits x) W HU.out (by omega));rw[ht] at hSt;clear hys htx hK hS hU hX ht hts;by_cases hbig:x<BIG
  ·have c2: ¬(200:Int)<(t.size:Int):=by have:=hbx.out.2 hbig;rw[<-Hts.out] at this;omega
   have hx0:x≠0:=by intro e;apply hn0;rw[<-Hn.out,e,aF];rfl
   have Hp:=zdB (GV hbig Ht.out);have Hm:=zdB (GW hbig hx0 Ht.out);clear hbig hx0;cases neg
   ·gi_wp2_with (refine⟨trivial, ?_⟩;gi_at_call 237;refine(callsIn_wide.2 hSt.out).mono ?_
                 rintro e w2 ⟨rfl,h1,h2,h3⟩;have hS2:Blk w2 w.heap.size #[.bool false, .slice aa n ca] 205:=h3 _ _ HS.out (by simp) (by intro c fz e;injection e with e1 e2;exact absurd e2 (by decide));have s0:w2.cell? ⟨w.heap.size,0,none⟩=some (.bool false):=hS2.cell (i:=0) rfl;have HK2:=zdB (h3 _ _ HK.out (by simp;omega) (by intro c fz e;cases e));have HB2:=zdB (hB.trans (h2.mono (by omega)))
                 clear hS2 h1 h2 h3)
    refine⟨by simp, .inl ⟨_,_,rfl,run_takeDeferred HK2.out, ?_⟩⟩;refine⟨.tuple #[.string t, .int .i64 0], ?_, ?_,HB2.out.trans (belowK_b (w:=w) (za0 _) _ D _ _ (by omega) HK2.out rfl rfl)⟩
    ·simp[results,f159,go_sem]
    ·rw[Hp.out]
   ·gi_wp2_with (refine⟨trivial, ?_⟩;gi_at_call 237;refine(callsIn_wide.2 hSt.out).mono ?_
                 rintro e w2 ⟨rfl,h1,h2,h3⟩;have hS2:Blk w2 w.heap.size #[.bool true, .slice aa n ca] 205:=h3 _ _ HS.out (by simp) (by intro c fz e;injection e with e1 e2;exact absurd e2 (by decide));have s0:w2.cell? ⟨w.heap.size,0,none⟩=some (.bool true):=hS2.cell (i:=0) rfl;have HK2:=zdB (h3 _ _ HK.out (by simp;omega) (by intro c fz e;cases e));have HB2:=zdB (hB.trans (h2.mono (by omega)))
                 clear hS2 h1 h2 h3)
    refine⟨by simp, .inl ⟨_,_,rfl,run_takeDeferred HK2.out, ?_⟩⟩;refine⟨.tuple #[.string (⟨#[45]⟩++t), .int .i64 0], ?_, ?_,HB2.out.trans (belowK_b (w:=w) (za0 _) _ D _ _ (by omega) HK2.out rfl rfl)⟩
    ·simp[results,f159,go_sem]
    ·rw[Hm.out]
  ·have c2:(200:Int)<(t.size:Int):=by have h: ¬(Lib.decDigits x).length<=200:=(λh=>hbig (hbx.out.1 h));rw[<-Hts.out] at h;omega
   have Hp:=zdB (GY neg hbig);clear hbig
   gi_wp2_with (refine⟨trivial, ?_⟩;gi_at_call 237;refine(callsIn_wide.2 hSt.out).mono ?_
                rintro e w2 ⟨rfl,h1,h2,h3⟩;have HK2:=zdB (h3 _ _ HK.out (by simp;omega) (by intro c fz e;cases e));have HB2:=zdB (hB.trans (h2.mono (by omega)))
                clear h1 h2 h3)
   refine⟨by simp, .inl ⟨_,_,rfl,run_takeDeferred HK2.out, ?_⟩⟩;refine⟨.tuple #[.string ⟨#[]⟩, .int .i64 30], ?_, ?_,HB2.out.trans (belowK_b (w:=w) (za0 _) _ D _ _ (by omega) HK2.out rfl rfl)⟩
   ·simp[results,f159,go_sem]
   ·rw[Hp.out]
 case stop=>exact λ_ _ _ _ _ _ hx _=>hx.elim
theorem ep (neg:Bool) (x:Nat) (v:Value) (w:World) (hv:Rd am w v (ae 10000 x)) (hg:Glob w) (hx:(ae 10000 x).length<=1000):
 Calls prog 159 #[.agg #[.bool neg,v]] w λe w'=>e= .returned (.tuple #[.string (chkI (sgn neg x)).1, .int .i64 (chkI (sgn neg x)).2])/\Below w.heap.size w w':=by
 obtain⟨aa,ca,rfl,_⟩:=hv.open';by_cases h0:x=0
 ·subst h0;have e:chkI (sgn neg 0)=(⟨#[48]⟩,0):=by
   have h1:sgn neg 0=0:=by unfold sgn;split<;>rfl
   have h2:(0:Nat)<BIG:=kJ;unfold chkI;rw[h1,if_pos (by simpa using h2)]
   congr 1
   apply gT;rw[fY,dX (by decide),aL];simp
  rw[e,aF];clear e hv hx hg;go_enter func159,ntmps159;go_wp2
  go_ret2
  exact⟨rfl,(zdC _ w).alloc (za0 _) _⟩
 ·exact GZ neg x h0 aa ca w hv hg hx
theorem bg (h:x<BIG):(ae 10000 x).length<=50:=by
 refine(ai (by decide) x 50).2 (zam h ?_);unfold BIG;rw[show (10000:Nat)=10^4 from rfl,<-Nat.pow_mul];exact za0 _
variable {s:zdG}
theorem cY (h:vS s=true):(ae 10000 (nS s).natAbs).length<=50:=bg (br h)
theorem ik {b:Bool} (h:vS s=b) (w:World) (H:s.size<=maxLen):Calls prog 221 #[.string s] w λe w'=>e= .returned (.bool b)/\Below w.heap.size w w':=by
 have:=qk s w H;rwa[h] at this
theorem lQ (a b:zdG) (h:(vS a&&vS b)=false) (w:World) (ha:a.size<=maxLen) (hb:b.size<=maxLen):
 Calls prog 157 #[.string a, .string b] w λe w'=>e= .returned (.tuple #[.agg #[.bool false, .slice none 0 0], .agg #[.bool false, .slice none 0 0], .bool false])/\Below w.heap.size w w':=by
 unfold maxLen at ha hb;have R0: ∀w1,Below (w.heap.size+1+1) ((w.alloc (.cells #[.bool false, .slice none 0 0] 205)).alloc (.cells #[.bool false, .slice none 0 0] 205)) w1->
  Blk w1 w.heap.size #[.bool false, .slice none 0 0] 205/\Blk w1 (w.heap.size+1) #[.bool false, .slice none 0 0] 205/\Below w.heap.size w w1:=λw1 h1=>
  ⟨((Blk.new w _ _).alloc _).below h1 (by omega),(Blk.newAt _ _ _ (by simp)).below h1 (by omega),(((zdC _ w).alloc (za0 _) _).alloc (by simp) _).trans (h1.mono (by omega))⟩
 have HR:=zdB R0;clear R0;cases hva:vS a with
 |false=>
  have Ha:=zdB (λw=>ik hva w ha);clear hva h;go_enter func157,ntmps157;go_wp2_with (go_at_call 221;refine(Ha.out _).mono ?_;rintro e w1 ⟨rfl,hb1⟩;obtain⟨r1,r2,r3⟩:=HR.out w1 (by simpa using hb1);obtain⟨c1,c2,c3,c4,_⟩:=bN r1;obtain⟨d1,d2,d3,d4,_⟩:=bN r2);refine bodyPost_ret (v:= .tuple #[.agg #[.bool false, .slice none 0 0], .agg #[.bool false, .slice none 0 0], .bool false]) (by simp[results,results157,go_sem,c1,c2,c3,c4,d1,d2,d3,d4]) rfl ⟨rfl, ?_⟩;exact(((r3.setCell (by simp) _).setCell (by simp) _).setCell (by simp) _).setCell (by simp) _
 |true=>
  have hvb:vS b=false:=by rw[hva] at h;simpa using h
  have Ha:=zdB (λw=>ik hva w ha);have Hb:=zdB (λw=>ik hvb w hb);clear hva hvb h;go_enter func157,ntmps157;go_wp2_with fail
  (with_reducible refine(Ha.out _).mono ?_);rintro e w1 ⟨rfl,hb1⟩
  go_wp2_with fail
  (with_reducible refine(Hb.out _).mono ?_);rintro e w2 ⟨rfl,hb2⟩
  obtain⟨r1,r2,r3⟩:=HR.out w2 (by simp at hb1;exact hb1.trans (hb2.mono (by have:=hb1.size;simp at this;omega)));obtain⟨c1,c2,c3,c4,_⟩:=bN r1;obtain⟨d1,d2,d3,d4,_⟩:=bN r2;go_wp2;refine bodyPost_ret (v:= .tuple #[.agg #[.bool false, .slice none 0 0], .agg #[.bool false, .slice none 0 0], .bool false]) (by simp[results,results157,go_sem,c1,c2,c3,c4,d1,d2,d3,d4]) rfl ⟨rfl, ?_⟩;exact(((r3.setCell (by simp) _).setCell (by simp) _).setCell (by simp) _).setCell (by simp) _
theorem jD (a b:zdG) (hva:vS a=true) (hvb:vS b=true) (w:World):
 Calls prog 157 #[.string a, .string b] w λe w'=> ∃v1 v2,e= .returned (.tuple #[.agg #[.bool (bf a.data.toList),v1], .agg #[.bool (bf b.data.toList),v2], .bool true])/\Rd am w' v1 (ae 10000 (nS a).natAbs)/\Rd am w' v2 (ae 10000 (nS b).natAbs)/\From w.heap.size v1/\From w.heap.size v2/\Below w.heap.size w w':=by
 have ha:a.size<=maxLen:=by have:=dp hva;unfold maxLen;omega
 have hb:b.size<=maxLen:=by have:=dp hvb;unfold maxLen;omega
 have R0: ∀w1,Below (w.heap.size+1+1) ((w.alloc (.cells #[.bool false, .slice none 0 0] 205)).alloc (.cells #[.bool false, .slice none 0 0] 205)) w1->
  Blk w1 w.heap.size #[.bool false, .slice none 0 0] 205/\Blk w1 (w.heap.size+1) #[.bool false, .slice none 0 0] 205/\Below w.heap.size w w1:=λw1 h1=>
  ⟨((Blk.new w _ _).alloc _).below h1 (by omega),(Blk.newAt _ _ _ (by simp)).below h1 (by omega),(((zdC _ w).alloc (za0 _) _).alloc (by simp) _).trans (h1.mono (by omega))⟩
 have HR:=zdB R0;clear R0;have Ha:=zdB (λw=>ik hva w ha);have Hb:=zdB (λw=>ik hvb w hb);have Pa:=zdB (λw=>vy a w hva);have Pb:=zdB (λw=>vy b w hvb);obtain⟨na,hna⟩: ∃x,bf a.data.toList=x:=⟨_,rfl⟩;obtain⟨nb,hnb⟩: ∃x,bf b.data.toList=x:=⟨_,rfl⟩;rw[hna] at Pa ⊢;rw[hnb] at Pb ⊢;clear hva hvb ha hb hna hnb;go_enter func157,ntmps157;go_wp2_with fail
 (with_reducible refine(Ha.out _).mono ?_);rintro e w1 ⟨rfl,hb1⟩
 go_wp2_with fail
 (with_reducible refine(Hb.out _).mono ?_);rintro e w2 ⟨rfl,hb2⟩
 go_wp2_with fail
 (with_reducible refine(Pa.out _).mono ?_);rintro e w3 ⟨v1,rfl,hr1,hf1,hb3⟩
 go_wp2_with fail
 (with_reducible refine(Pb.out _).mono ?_);rintro e w4 ⟨v2,rfl,hr2,hf2,hb4⟩
 have hbb:Below (w.heap.size+1+1) ((w.alloc (.cells #[.bool false, .slice none 0 0] 205)).alloc (.cells #[.bool false, .slice none 0 0] 205)) w4:=by
  simp only[World.size_alloc] at hb1;have s1:=hb1.size;simp only[World.size_alloc] at s1;have s2:=hb2.size;have s3:=hb3.size;exact((hb1.trans (hb2.mono (by omega))).trans (hb3.mono (by omega))).trans (hb4.mono (by omega))
 have s1:=hb1.size;have s2:=hb2.size;have s3:=hb3.size;simp only[World.size_alloc] at s1;obtain⟨r1,r2,r3⟩:=HR.out w4 hbb;obtain⟨c1,c2,c3,c4,_⟩:=bN r1;obtain⟨d1,d2,d3,d4,_⟩:=bN r2;have hq1:=hr1.below hb4;obtain⟨a1,k1,rfl,_⟩:=hr1.open';obtain⟨a2,k2,rfl,_⟩:=hr2.open';have Hq1:=zdB hq1;have Hq2:=zdB hr2;clear hq1 hr1 hr2 hbb hb1 hb2 hb3 hb4;go_wp2;have f1:From (w.heap.size+2) _:=hf1.mono (by omega);have f2:From (w.heap.size+2) _:=hf2.mono (by omega);refine bodyPost_ret (v:= .tuple #[.agg #[.bool na, .slice a1 _ k1], .agg #[.bool nb, .slice a2 _ k2], .bool true]) (by simp[results,results157,go_sem,c1,c2,c3,c4,d1,d2,d3,d4]) rfl ⟨_,_,rfl, ?_, ?_,f1.mono (by omega),f2.mono (by omega), ?_⟩
 ·exact(((Hq1.out.setCell f1 (by simp) _).setCell f1 (by simp) _).setCell f1 (by simp) _).setCell f1 (by simp) _
 ·exact(((Hq2.out.setCell f2 (by simp) _).setCell f2 (by simp) _).setCell f2 (by simp) _).setCell f2 (by simp) _
 ·exact(((r3.setCell (by simp) _).setCell (by simp) _).setCell (by simp) _).setCell (by simp) _
theorem atU (w:World) (x y:Array Value) (t:TypeId):Blk ((w.alloc (.cells x t)).alloc (.cells y t)) w.heap.size x t/\Blk ((w.alloc (.cells x t)).alloc (.cells y t)) (w.heap.size+1) y t:=⟨(Blk.new w _ _).alloc _,Blk.newAt _ _ _ (by simp)⟩
theorem atZ (w:World) (x y z:Array Value) (t:TypeId):Blk (((w.alloc (.cells x t)).alloc (.cells y t)).alloc (.cells z t)) w.heap.size x t/\Blk (((w.alloc (.cells x t)).alloc (.cells y t)).alloc (.cells z t)) (w.heap.size+1) y t/\Blk (((w.alloc (.cells x t)).alloc (.cells y t)).alloc (.cells z t)) (w.heap.size+1+1) z t:=⟨(atU w x y t).1.alloc _,(atU w x y t).2.alloc _,Blk.newAt _ _ _ (by simp)⟩
theorem KA (w:World):Calls prog 354 #[] w λe w'=> ∃v,e= .returned v/\Rd am w' v (ae 10000 1)/\From w.heap.size v/\Below w.heap.size w w':=by
 have e1:ae 10000 1= [1]:=gW (by decide) (by decide) (by decide);go_enter func354,ntmps354;go_wp2;go_ret;refine⟨_,rfl, ?_,λk hk=>by cases hk;exact za0 _,(zdC _ w).alloc (za0 _) _⟩;rw[e1];exact(OwnL.lit1 w 1 rfl).rd
theorem yE (h:y<=x):0<=dB x y:=by
 unfold dB;rw[if_neg (by omega)];split<;>omega
def wN (s:Int) (w:World) (e:Ending) (w':World):Prop:=
 ∃neg z v,e= .returned (.agg #[.bool neg,v])/\sgn neg z=s/\Rd am w' v (ae 10000 z)/\From w.heap.size v/\Below w.heap.size w w'
theorem yF (neg:Bool) (x y:Nat) (v1 v2:Value) (w:World) (h1:Rd am w v1 (ae 10000 x)) (h2:Rd am w v2 (ae 10000 y)) (hx:(ae 10000 x).length<=400) (hy:(ae 10000 y).length<=400):
 Calls prog 158 #[.agg #[.bool neg,v1], .agg #[.bool neg,v2]] w (wN (sgn neg x+sgn neg y) w):=by
 have hfin:sgn neg (x+y)=sgn neg x+sgn neg y:=by unfold sgn;split<;>omega
 rw[<-hfin];obtain⟨a1,k1,rfl,_⟩:=h1.open';obtain⟨a2,k2,rfl,_⟩:=h2.open';obtain⟨n1,e1⟩: ∃n,(ae 10000 x).length=n:=⟨_,rfl⟩;obtain⟨n2,e2⟩: ∃n,(ae 10000 y).length=n:=⟨_,rfl⟩;have H1:=zdB h1;have H2:=zdB h2;have Hx:=zdB hx;have Hy:=zdB hy;rw[e1] at H1 ⊢;rw[e2] at H2 ⊢;have c1:(neg==neg)=true:=by simp
 clear h1 h2 hx hy e1 e2 hfin;have hmx:prog.follows .mixedOrders=true:=by kernel_rfl
 obtain⟨r1,r2,r3⟩:=atZ w #[.bool neg, .slice a1 n1 k1] #[.bool neg, .slice a2 n2 k2] #[.bool false, .slice none 0 0] 205;have rb:Below w.heap.size w (((w.alloc (.cells #[.bool neg, .slice a1 n1 k1] 205)).alloc (.cells #[.bool neg, .slice a2 n2 k2] 205)).alloc (.cells #[.bool false, .slice none 0 0] 205)):=(((zdC _ w).alloc (za0 _) _).alloc (by simp) _).alloc (by simp;omega) _;have R1:=zdB r1;have R2:=zdB r2;have R3:=zdB r3;have RB:=zdB rb;clear r1 r2 r3 rb;go_enter func158,ntmps158;go_wp2;generalize (((w.alloc (.cells #[.bool neg, .slice a1 n1 k1] 205)).alloc (.cells #[.bool neg, .slice a2 n2 k2] 205)).alloc (.cells #[.bool false, .slice none 0 0] 205))=W0 at*
 have ne1: ¬(w.heap.size+1+1=w.heap.size):=by omega
 have ne2: ¬(w.heap.size=w.heap.size+1+1):=by omega
 obtain⟨p1,p2,_,_,_⟩:=bN R1.out;obtain⟨q1,q2,_,_,_⟩:=bN R2.out
 go_region_held3 (λw'=>(w'.cell? ⟨w.heap.size,0,none⟩=some (.bool neg)/\w'.cell? ⟨w.heap.size,1,none⟩=some (.slice a1 n1 k1))/\w'.cell? ⟨w.heap.size+1,1,none⟩=some (.slice a2 n2 k2)) (go_keep)
  ((go_at_call 233;refine(iV x y _ _ _ (H1.out.below RB.out.drew) (H2.out.below RB.out.drew) (by have:=Hx.out;have:=Hy.out;omega) (by have:=Hx.out;have:=Hy.out;omega)).mono ?_
    rintro e w6 ⟨v6,rfl,hr6,hf6,hb6⟩;obtain⟨u1,u2,u3,u4,_⟩:=bN (Blk.below (w:=W0.drew) R1.out hb6 R1.out.lt);obtain⟨z1,z2,z3,z4,_⟩:=bN (Blk.below (w:=W0.drew) R2.out hb6 R2.out.lt);obtain⟨y1,y2,y3,y4,_⟩:=bN (Blk.below (w:=W0.drew) R3.out hb6 R3.out.lt);obtain⟨a6,k6,rfl,_⟩:=hr6.open';have HR6:=zdB hr6;have HF6:=zdB (hf6.mono (show w.heap.size+1+1+1<=_ from R3.out.lt));have HB6:=zdB (RB.out.drew.trans (hb6.mono RB.out.size))
    clear hr6 hf6 hb6))
 all_goals go_wp2
 all_goals
  refine bodyPost_ret (v:= .agg #[.bool neg, .slice a6 _ k6]) (by simp[results,results158,go_sem,y1,y2,y3,y4]) rfl ⟨neg,(x+y),_,rfl,rfl, ?_,HF6.out.mono (by omega), ?_⟩
  ·exact(HR6.out.setCell HF6.out (by simp) _).setCell HF6.out (by simp) _
  ·exact(HB6.out.setCell (by simp<;>omega) _).setCell (by simp<;>omega) _
theorem Ek (neg1 neg2:Bool) (hne:neg1≠neg2) (x y:Nat) (hxy:y<=x) (v1 v2:Value) (w:World) (h1:Rd am w v1 (ae 10000 x)) (h2:Rd am w v2 (ae 10000 y)) (hx:(ae 10000 x).length<=400) (hy:(ae 10000 y).length<=400):
 Calls prog 158 #[.agg #[.bool neg1,v1], .agg #[.bool neg2,v2]] w (wN (sgn neg1 x+sgn neg2 y) w):=by
 have hfin:sgn neg1 (x - y)=sgn neg1 x+sgn neg2 y:=by revert hne;cases neg1<;>cases neg2<;>simp[sgn]<;>omega
 rw[<-hfin];obtain⟨a1,k1,rfl,_⟩:=h1.open';obtain⟨a2,k2,rfl,_⟩:=h2.open';obtain⟨n1,e1⟩: ∃n,(ae 10000 x).length=n:=⟨_,rfl⟩;obtain⟨n2,e2⟩: ∃n,(ae 10000 y).length=n:=⟨_,rfl⟩;have H1:=zdB h1;have H2:=zdB h2;have Hx:=zdB hx;have Hy:=zdB hy;rw[e1] at H1 ⊢;rw[e2] at H2 ⊢;have c1:(neg1==neg2)=false:=by simpa using hne
 obtain⟨cv,hcv⟩: ∃c,dB x y=c:=⟨_,rfl⟩;have c2:0<=cv:=by rw[<-hcv];exact yE hxy
 have Hcm:=zdB hcv;have Hxy:=zdB hxy;clear hne hcv hxy;clear h1 h2 hx hy e1 e2 hfin;have hmx:prog.follows .mixedOrders=true:=by kernel_rfl
 obtain⟨r1,r2,r3⟩:=atZ w #[.bool neg1, .slice a1 n1 k1] #[.bool neg2, .slice a2 n2 k2] #[.bool false, .slice none 0 0] 205;have rb:Below w.heap.size w (((w.alloc (.cells #[.bool neg1, .slice a1 n1 k1] 205)).alloc (.cells #[.bool neg2, .slice a2 n2 k2] 205)).alloc (.cells #[.bool false, .slice none 0 0] 205)):=(((zdC _ w).alloc (za0 _) _).alloc (by simp) _).alloc (by simp;omega) _;have R1:=zdB r1;have R2:=zdB r2;have R3:=zdB r3;have RB:=zdB rb;clear r1 r2 r3 rb;go_enter func158,ntmps158;go_wp2_with fail;refine(gc x y _ _ _ (H1.out.below RB.out) (H2.out.below RB.out) (by have:=Hx.out;omega)).mono ?_;rw[Hcm.out];rintro e W0 ⟨rfl,hb0⟩;have S1:=R1.out.below hb0 R1.out.lt;have S2:=R2.out.below hb0 R2.out.lt;have S3:=R3.out.below hb0 R3.out.lt;have SB:=RB.out.trans (hb0.mono RB.out.size);clear R1 R2 R3 RB hb0;have R1:=zdB S1;have R2:=zdB S2;have R3:=zdB S3;have RB:=zdB SB;clear S1 S2 S3 SB;go_wp2;have ne1: ¬(w.heap.size+1+1=w.heap.size):=by omega
 have ne2: ¬(w.heap.size=w.heap.size+1+1):=by omega
 obtain⟨p1,p2,_,_,_⟩:=bN R1.out;obtain⟨q1,q2,_,_,_⟩:=bN R2.out
 go_region_held3 (λw'=>(w'.cell? ⟨w.heap.size,0,none⟩=some (.bool neg1)/\w'.cell? ⟨w.heap.size,1,none⟩=some (.slice a1 n1 k1))/\w'.cell? ⟨w.heap.size+1,1,none⟩=some (.slice a2 n2 k2)) (go_keep)
  ((go_at_call 234;refine(ll x y Hxy.out _ _ _ (H1.out.below RB.out.drew) (H2.out.below RB.out.drew) (by have:=Hx.out;have:=Hy.out;omega) (by have:=Hx.out;have:=Hy.out;omega)).mono ?_
    rintro e w6 ⟨v6,rfl,hr6,hf6,hb6⟩;obtain⟨u1,u2,u3,u4,_⟩:=bN (Blk.below (w:=W0.drew) R1.out hb6 R1.out.lt);obtain⟨z1,z2,z3,z4,_⟩:=bN (Blk.below (w:=W0.drew) R2.out hb6 R2.out.lt);obtain⟨y1,y2,y3,y4,_⟩:=bN (Blk.below (w:=W0.drew) R3.out hb6 R3.out.lt);obtain⟨a6,k6,rfl,_⟩:=hr6.open';have HR6:=zdB hr6;have HF6:=zdB (hf6.mono (show w.heap.size+1+1+1<=_ from R3.out.lt));have HB6:=zdB (RB.out.drew.trans (hb6.mono RB.out.size))
    clear hr6 hf6 hb6))
 all_goals go_wp2
 all_goals
  refine bodyPost_ret (v:= .agg #[.bool neg1, .slice a6 _ k6]) (by simp[results,results158,go_sem,y1,y2,y3,y4]) rfl ⟨neg1,(x - y),_,rfl,rfl, ?_,HF6.out.mono (by omega), ?_⟩
  ·exact(HR6.out.setCell HF6.out (by simp) _).setCell HF6.out (by simp) _
  ·exact(HB6.out.setCell (by simp<;>omega) _).setCell (by simp<;>omega) _
theorem Em (neg1 neg2:Bool) (hne:neg1≠neg2) (x y:Nat) (hxy:x<y) (v1 v2:Value) (w:World) (h1:Rd am w v1 (ae 10000 x)) (h2:Rd am w v2 (ae 10000 y)) (hx:(ae 10000 x).length<=400) (hy:(ae 10000 y).length<=400):
 Calls prog 158 #[.agg #[.bool neg1,v1], .agg #[.bool neg2,v2]] w (wN (sgn neg1 x+sgn neg2 y) w):=by
 have hfin:sgn neg2 (y - x)=sgn neg1 x+sgn neg2 y:=by revert hne;cases neg1<;>cases neg2<;>simp[sgn]<;>omega
 rw[<-hfin];obtain⟨a1,k1,rfl,_⟩:=h1.open';obtain⟨a2,k2,rfl,_⟩:=h2.open';obtain⟨n1,e1⟩: ∃n,(ae 10000 x).length=n:=⟨_,rfl⟩;obtain⟨n2,e2⟩: ∃n,(ae 10000 y).length=n:=⟨_,rfl⟩;have H1:=zdB h1;have H2:=zdB h2;have Hx:=zdB hx;have Hy:=zdB hy;rw[e1] at H1 ⊢;rw[e2] at H2 ⊢;have c1:(neg1==neg2)=false:=by simpa using hne
 obtain⟨cv,hcv⟩: ∃c,dB x y=c:=⟨_,rfl⟩;have c2:cv<0:=by rw[<-hcv];unfold dB;rw[if_pos hxy];omega
 have Hcm:=zdB hcv;have Hxy:=zdB hxy;clear hne hcv hxy;clear h1 h2 hx hy e1 e2 hfin;have hmx:prog.follows .mixedOrders=true:=by kernel_rfl
 obtain⟨r1,r2,r3⟩:=atZ w #[.bool neg1, .slice a1 n1 k1] #[.bool neg2, .slice a2 n2 k2] #[.bool false, .slice none 0 0] 205;have rb:Below w.heap.size w (((w.alloc (.cells #[.bool neg1, .slice a1 n1 k1] 205)).alloc (.cells #[.bool neg2, .slice a2 n2 k2] 205)).alloc (.cells #[.bool false, .slice none 0 0] 205)):=(((zdC _ w).alloc (za0 _) _).alloc (by simp) _).alloc (by simp;omega) _;have R1:=zdB r1;have R2:=zdB r2;have R3:=zdB r3;have RB:=zdB rb;clear r1 r2 r3 rb;go_enter func158,ntmps158;go_wp2_with fail;refine(gc x y _ _ _ (H1.out.below RB.out) (H2.out.below RB.out) (by have:=Hx.out;omega)).mono ?_;rw[Hcm.out];rintro e W0 ⟨rfl,hb0⟩;have S1:=R1.out.below hb0 R1.out.lt;have S2:=R2.out.below hb0 R2.out.lt;have S3:=R3.out.below hb0 R3.out.lt;have SB:=RB.out.trans (hb0.mono RB.out.size);clear R1 R2 R3 RB hb0;have R1:=zdB S1;have R2:=zdB S2;have R3:=zdB S3;have RB:=zdB SB;clear S1 S2 S3 SB;go_wp2;have ne1: ¬(w.heap.size+1+1=w.heap.size):=by omega
 have ne2: ¬(w.heap.size=w.heap.size+1+1):=by omega
 obtain⟨p1,p2,_,_,_⟩:=bN R1.out;obtain⟨q1,q2,_,_,_⟩:=bN R2.out
 go_region_held3 (λw'=>(w'.cell? ⟨w.heap.size+1,0,none⟩=some (.bool neg2)/\w'.cell? ⟨w.heap.size,1,none⟩=some (.slice a1 n1 k1))/\w'.cell? ⟨w.heap.size+1,1,none⟩=some (.slice a2 n2 k2)) (go_keep)
  ((go_at_call 234;refine(ll y x (zbs Hxy.out) _ _ _ (H2.out.below RB.out.drew) (H1.out.below RB.out.drew) (by have:=Hx.out;have:=Hy.out;omega) (by have:=Hx.out;have:=Hy.out;omega)).mono ?_
    rintro e w6 ⟨v6,rfl,hr6,hf6,hb6⟩;obtain⟨u1,u2,u3,u4,_⟩:=bN (Blk.below (w:=W0.drew) R1.out hb6 R1.out.lt);obtain⟨z1,z2,z3,z4,_⟩:=bN (Blk.below (w:=W0.drew) R2.out hb6 R2.out.lt);obtain⟨y1,y2,y3,y4,_⟩:=bN (Blk.below (w:=W0.drew) R3.out hb6 R3.out.lt);obtain⟨a6,k6,rfl,_⟩:=hr6.open';have HR6:=zdB hr6;have HF6:=zdB (hf6.mono (show w.heap.size+1+1+1<=_ from R3.out.lt));have HB6:=zdB (RB.out.drew.trans (hb6.mono RB.out.size))
    clear hr6 hf6 hb6))
 all_goals go_wp2
 all_goals
  refine bodyPost_ret (v:= .agg #[.bool neg2, .slice a6 _ k6]) (by simp[results,results158,go_sem,y1,y2,y3,y4]) rfl ⟨neg2,(y - x),_,rfl,rfl, ?_,HF6.out.mono (by omega), ?_⟩
  ·exact(HR6.out.setCell HF6.out (by simp) _).setCell HF6.out (by simp) _
  ·exact(HB6.out.setCell (by simp<;>omega) _).setCell (by simp<;>omega) _
theorem td (H J:Bool) (x y:Nat) (N Y:Value) (w:World) (h1:Rd am w N (ae 10000 x)) (h2:Rd am w Y (ae 10000 y)) (hx:(ae 10000 x).length<=400) (hy:(ae 10000 y).length<=400):
 Calls prog 158 #[.agg #[.bool H,N], .agg #[.bool J,Y]] w (wN (sgn H x+sgn J y) w):=by
 by_cases h:H=J
 ·subst h;exact yF H x y N Y w h1 h2 hx hy
 ·by_cases a0:y<=x
  ·exact Ek H J h x y a0 N Y w h1 h2 hx hy
  ·exact Em H J h x y (by omega) N Y w h1 h2 hx hy
theorem G0 {s:zdG} (h:vS s=true) (H:bf s.data.toList=true):nS s<0:=by
 have h1:=cD s;rw[H] at h1;unfold sgn at h1;simp only[if_true] at h1;by_cases h0:(nS s).natAbs=0
 ·have h2:nS s=0:=by omega
  have h3:=jc h;rw[h2] at h3;rw[<-h3,fY] at H;simp[bf,dX,aL] at H
 ·omega
theorem G1 {s:zdG} (H:bf s.data.toList=false):0<=nS s:=by
 have h1:=cD s;rw[H] at h1;unfold sgn at h1;simp only[zbn,if_false] at h1;omega
theorem nP {a b:zdG} (h:(vS a&&vS b)=true):vS a=true/\vS b=true:=by simpa using h
theorem avV (a b:zdG) (w:World) (hsa:a.size<=maxLen) (hsb:b.size<=maxLen):
 Calls prog 145 #[.string a, .string b] w λe w'=>e= .returned (.int .i64 (dw a b))/\Below w.heap.size w w':=by
 by_cases h:(vS a&&vS b)=true
 ·have hr:dw a b=VQ (nS a) (nS b):=by unfold dw;rw[if_pos h]
  rw[hr];obtain⟨ha,hb⟩:=nP h;have hB:=zdB (λw=>jD a b ha hb w);have hla:=cY ha;have hlb:=cY hb;have hna:=cD a;have hnb:=cD b;have hla':= @G0 a ha;have hlb':= @G0 b hb;have hpa:= @G1 a;have hpb:= @G1 b;generalize bf a.data.toList=na at*
  generalize bf b.data.toList=nb at*
  generalize hx:(nS a).natAbs=x at*
  generalize hy:(nS b).natAbs=y at*
  have Hla:=zdB hla;have Hlb:=zdB hlb;clear h hr ha hb hsa hsb hla hlb;cases na<;>cases nb
  ·have hres:VQ (nS a) (nS b)=dB x y:=by rw[hna,hnb];exact iM x y
   rw[hres];clear hres hna hnb hla' hlb' hpa hpb hx hy;go_enter func145,ntmps145;go_wp2_with fail
   (with_reducible refine(hB.out _).mono ?_);rintro e w1 ⟨v1,v2,rfl,hr1,hr2,hf1,hf2,hb1⟩
   obtain⟨a1,k1,rfl,_⟩:=hr1.open';obtain⟨a2,k2,rfl,_⟩:=hr2.open';have H1:=zdB hr1;have H2:=zdB hr2;have HB:=zdB hb1;clear hr1 hr2 hf1 hf2 hb1;go_wp2_with (go_at_call 228;refine(gc x y _ _ _ (H1.out.below (((zdC _ _).alloc (za0 _) _).alloc (by simp) _)) (H2.out.below (((zdC _ _).alloc (za0 _) _).alloc (by simp) _)) (by have:=Hla.out;omega)).mono ?_;rintro e w2 ⟨rfl,hb2⟩);go_ret;refine⟨rfl, ?_⟩;have:=HB.out.size;exact((HB.out.alloc (by omega) _).alloc (by simp;omega) _).trans (hb2.mono (by simp;omega))
  ·have hres:VQ (nS a) (nS b)=1:=by have:=hpa rfl;have:=hlb' rfl;unfold VQ;rw[if_neg (by omega),if_pos (by omega)]
   rw[hres];clear hres hna hnb hla' hlb' hpa hpb hx hy;go_enter func145,ntmps145;go_wp2_with fail
   (with_reducible refine(hB.out _).mono ?_);rintro e w1 ⟨v1,v2,rfl,hr1,hr2,hf1,hf2,hb1⟩
   obtain⟨a1,k1,rfl,_⟩:=hr1.open';obtain⟨a2,k2,rfl,_⟩:=hr2.open';clear hr1 hr2 hf1 hf2;have HB:=zdB hb1;clear hb1;go_wp2;go_ret;refine⟨rfl, ?_⟩;have:=HB.out.size;exact(HB.out.alloc (by omega) _).alloc (by simp;omega) _
  ·have hres:VQ (nS a) (nS b)= -1:=by have:=hpb rfl;have:=hla' rfl;unfold VQ;rw[if_pos (by omega)]
   rw[hres];clear hres hna hnb hla' hlb' hpa hpb hx hy;go_enter func145,ntmps145;go_wp2_with fail
   (with_reducible refine(hB.out _).mono ?_);rintro e w1 ⟨v1,v2,rfl,hr1,hr2,hf1,hf2,hb1⟩
   obtain⟨a1,k1,rfl,_⟩:=hr1.open';obtain⟨a2,k2,rfl,_⟩:=hr2.open';clear hr1 hr2 hf1 hf2;have HB:=zdB hb1;clear hb1;go_wp2;go_ret;refine⟨rfl, ?_⟩;have:=HB.out.size;exact(HB.out.alloc (by omega) _).alloc (by simp;omega) _
  ·have hres:VQ (nS a) (nS b)=dB y x:=by rw[hna,hnb];exact pW x y
   rw[hres];clear hres hna hnb hla' hlb' hpa hpb hx hy;go_enter func145,ntmps145;go_wp2_with fail
   (with_reducible refine(hB.out _).mono ?_);rintro e w1 ⟨v1,v2,rfl,hr1,hr2,hf1,hf2,hb1⟩
   obtain⟨a1,k1,rfl,_⟩:=hr1.open';obtain⟨a2,k2,rfl,_⟩:=hr2.open';have H1:=zdB hr1;have H2:=zdB hr2;have HB:=zdB hb1;clear hr1 hr2 hf1 hf2 hb1;go_wp2_with (go_at_call 228;refine(gc y x _ _ _ (H2.out.below (((zdC _ _).alloc (za0 _) _).alloc (by simp) _)) (H1.out.below (((zdC _ _).alloc (za0 _) _).alloc (by simp) _)) (by have:=Hlb.out;omega)).mono ?_;rintro e w2 ⟨rfl,hb2⟩);go_ret;refine⟨rfl, ?_⟩;have:=HB.out.size;exact((HB.out.alloc (by omega) _).alloc (by simp;omega) _).trans (hb2.mono (by simp;omega))
 ·have hr:dw a b=0:=by unfold dw;rw[if_neg h]
  rw[hr];have hB:=zdB (λw=>lQ a b (zbc _▸h) w hsa hsb);clear h hr hsa hsb;go_enter func145,ntmps145;go_wp2_with fail
  (with_reducible refine(hB.out _).mono ?_);rintro e w1 ⟨rfl,hb1⟩
  have HB:=zdB hb1;clear hb1;go_wp2;go_ret;refine⟨rfl, ?_⟩;have:=HB.out.size;exact(HB.out.alloc (by omega) _).alloc (by simp;omega) _
theorem fm {z:Nat} (h:z<BIG+BIG):(ae 10000 z).length<=51:=by
 refine(ai (by decide) z 51).2 ?_;have h1:z<BIG*10:=by omega
 have h2:BIG*10<=10000^51:=by
  unfold BIG;rw[<-zaw,show (10000:Nat)=10^4 from rfl,<-Nat.pow_mul];exact zb7 (by decide) (by decide)
 exact zam h1 h2
theorem AJ (a b:zdG) (w:World) (hg:Glob w) (hsa:a.size<=maxLen) (hsb:b.size<=maxLen):
 Calls prog 72 #[.string a, .string b] w λe w'=>e= .returned (.tuple #[.string (jb a b).1, .int .i64 (jb a b).2])/\Below w.heap.size w w':=by
 by_cases h:(vS a&&vS b)=true
 ·have hr:jb a b=chkI (nS a+nS b):=by unfold jb;rw[if_pos h]
  rw[hr];obtain⟨ha,hb⟩:=nP h;have hB:=zdB (λw=>jD a b ha hb w);have hla:=cY ha;have hlb:=cY hb;have hna:=cD a;have hnb:=cD b;have hx1:=br ha;have hy1:=br hb;generalize bf a.data.toList=na at*
  generalize bf b.data.toList=nb at*
  generalize (nS a).natAbs=x at*
  generalize (nS b).natAbs=y at*
  rw[hna,hnb];have hz: ∀neg z,sgn neg z=sgn na x+sgn nb y->(ae 10000 z).length<=51:=by
   intro neg z hz;have h1:=congrArg Int.natAbs hz;have h2:=cz na x;have h3:=cz nb y;rw[cz] at h1;exact fm (by omega)
  have Hz:=zdB hz;have Hla:=zdB hla;have Hlb:=zdB hlb;have Hg:=zdB hg;clear h hr ha hb hsa hsb hla hlb hna hnb hz hg;go_enter func72,ntmps72;go_wp2_with fail
  (with_reducible refine(hB.out _).mono ?_);rintro e w1 ⟨v1,v2,rfl,hr1,hr2,hf1,hf2,hb1⟩
  obtain⟨a1,k1,rfl,_⟩:=hr1.open';obtain⟨a2,k2,rfl,_⟩:=hr2.open';have H1:=zdB hr1;have H2:=zdB hr2;have HB:=zdB hb1;have hs1:=hb1.size;clear hr1 hr2 hf1 hf2 hb1;have hbl: ∀o1 o2,Below w1.heap.size w1 ((w1.alloc o1).alloc o2):=λo1 o2=>((zdC _ _).alloc (za0 _) _).alloc (by simp) _;have Hbl:=zdB hbl;clear hbl;go_wp2_with fail;refine(td na (nb) x y _ _ _ (H1.out.below (Hbl.out _ _)) (H2.out.below (Hbl.out _ _)) (by have:=Hla.out;omega) (by have:=Hlb.out;omega)).mono ?_;rintro e w2 ⟨neg,z,v,rfl,hs,hr,hf,hb2⟩;have hgw:=((Hg.out.below HB.out).below (Hbl.out _ _)).below hb2;have hl:=Hz.out _ _ hs;have HB2:=zdB (HB.out.trans ((Hbl.out _ _).mono hs1|>.trans (hb2.mono (by simp;omega))));have hs2:=HB2.out.size;have HS:=zdB hs;have HR:=zdB hr;have HG:=zdB hgw;have HL:=zdB hl;clear hs hr hf hb2 hgw hl;go_wp2_with fail;refine(ep neg z v _ HR.out HG.out (by have:=HL.out;omega)).mono ?_;rw[HS.out];rintro e w3 ⟨rfl,hb3⟩;go_wp2
  go_ret2
  exact⟨rfl,HB2.out.trans (hb3.mono hs2)⟩
 ·have hr:jb a b=(ByteArray.empty,30):=by unfold jb;rw[if_neg h]
  rw[hr];have hB:=zdB (λw=>lQ a b (zbc _▸h) w hsa hsb);clear h hr hsa hsb hg;go_enter func72,ntmps72;go_wp2_with fail
  (with_reducible refine(hB.out _).mono ?_);rintro e w1 ⟨rfl,hb1⟩
  have HB:=zdB hb1;clear hb1;go_wp2
  go_ret2
  refine⟨rfl, ?_⟩;have:=HB.out.size;exact(HB.out.alloc (by omega) _).alloc (by simp;omega) _
theorem AK (a b:zdG) (w:World) (hg:Glob w) (hsa:a.size<=maxLen) (hsb:b.size<=maxLen):
 Calls prog 152 #[.string a, .string b] w λe w'=>e= .returned (.tuple #[.string (fA a b).1, .int .i64 (fA a b).2])/\Below w.heap.size w w':=by
 by_cases h:(vS a&&vS b)=true
 ·have hr:fA a b=chkI (nS a - nS b):=by unfold fA;rw[if_pos h]
  rw[hr];obtain⟨ha,hb⟩:=nP h;have hB:=zdB (λw=>jD a b ha hb w);have hla:=cY ha;have hlb:=cY hb;have hna:=cD a;have hnb:=cD b;have hx1:=br ha;have hy1:=br hb;generalize bf a.data.toList=na at*
  generalize bf b.data.toList=nb at*
  generalize (nS a).natAbs=x at*
  generalize (nS b).natAbs=y at*
  rw[hna,hnb];have hm:sgn na x - sgn nb y=sgn na x+sgn (!nb) y:=by unfold sgn;cases nb<;>simp;omega
  rw[hm];clear hm;have hz: ∀neg z,sgn neg z=sgn na x+sgn (!nb) y->(ae 10000 z).length<=51:=by
   intro neg z hz;have h1:=congrArg Int.natAbs hz;have h2:=cz na x;have h3:=cz (!nb) y;rw[cz] at h1;exact fm (by omega)
  have Hz:=zdB hz;have Hla:=zdB hla;have Hlb:=zdB hlb;have Hg:=zdB hg;clear h hr ha hb hsa hsb hla hlb hna hnb hz hg;go_enter func152,ntmps152;go_wp2_with fail
  (with_reducible refine(hB.out _).mono ?_);rintro e w1 ⟨v1,v2,rfl,hr1,hr2,hf1,hf2,hb1⟩
  obtain⟨a1,k1,rfl,_⟩:=hr1.open';obtain⟨a2,k2,rfl,_⟩:=hr2.open';have H1:=zdB hr1;have H2:=zdB hr2;have HB:=zdB hb1;have hs1:=hb1.size;clear hr1 hr2 hf1 hf2 hb1;have hbl: ∀o1 o2,Below w1.heap.size w1 ((w1.alloc o1).alloc o2):=λo1 o2=>((zdC _ _).alloc (za0 _) _).alloc (by simp) _;have Hbl:=zdB hbl;clear hbl;go_wp2_with fail;refine(td na ((!nb)) x y _ _ _ (H1.out.below (Hbl.out _ _)) (H2.out.below (Hbl.out _ _)) (by have:=Hla.out;omega) (by have:=Hlb.out;omega)).mono ?_;rintro e w2 ⟨neg,z,v,rfl,hs,hr,hf,hb2⟩;have hgw:=((Hg.out.below HB.out).below (Hbl.out _ _)).below hb2;have hl:=Hz.out _ _ hs;have HB2:=zdB (HB.out.trans ((Hbl.out _ _).mono hs1|>.trans (hb2.mono (by simp;omega))));have hs2:=HB2.out.size;have HS:=zdB hs;have HR:=zdB hr;have HG:=zdB hgw;have HL:=zdB hl;clear hs hr hf hb2 hgw hl;go_wp2_with fail;refine(ep neg z v _ HR.out HG.out (by have:=HL.out;omega)).mono ?_;rw[HS.out];rintro e w3 ⟨rfl,hb3⟩;go_wp2
  go_ret2
  exact⟨rfl,HB2.out.trans (hb3.mono hs2)⟩
 ·have hr:fA a b=(ByteArray.empty,30):=by unfold fA;rw[if_neg h]
  rw[hr];have hB:=zdB (λw=>lQ a b (zbc _▸h) w hsa hsb);clear h hr hsa hsb hg;go_enter func152,ntmps152;go_wp2_with fail
  (with_reducible refine(hB.out _).mono ?_);rintro e w1 ⟨rfl,hb1⟩
  have HB:=zdB hb1;clear hb1;go_wp2
  go_ret2
  refine⟨rfl, ?_⟩;have:=HB.out.size;exact(HB.out.alloc (by omega) _).alloc (by simp;omega) _
theorem KC (H J:Bool) (x y:Nat):sgn (H !=J) (x*y)=sgn H x*sgn J y:=by
 cases H<;>cases J<;>simp[sgn,Int.neg_mul,zbM]
theorem wO (H:(ae 10000 x).length<=50) (J:(ae 10000 y).length<=50):(ae 10000 (x*y)).length<=100:=by
 have h1:=(ai (B:=10000) (by decide) x 50).1 H;have h2:=(ai (B:=10000) (by decide) y 50).1 J;refine(ai (by decide) _ 100).2 ?_;rw[show 100=50+50 from rfl,zbv];exact zbN h1 h2
theorem GX {v:Value} (h:Rd am w v l): ∀k,v.ownBlock=some k->k<w.heap.size:=by
 intro k H;rcases h with ⟨rfl,_⟩|⟨b,off,cap,rfl,J,_⟩
 ·cases H
 ·cases H;exact J
theorem AL (a b:zdG) (w:World) (hg:Glob w) (hsa:a.size<=maxLen) (hsb:b.size<=maxLen):
 Calls prog 230 #[.string a, .string b] w λe w'=>e= .returned (.tuple #[.string (bM a b).1, .int .i64 (bM a b).2])/\Below w.heap.size w w':=by
 by_cases h:(vS a&&vS b)=true
 ·have hr:bM a b=chkI (nS a*nS b):=by unfold bM;rw[if_pos h]
  rw[hr];obtain⟨ha,hb⟩:=nP h;have hB:=zdB (λw=>jD a b ha hb w);have hla:=cY ha;have hlb:=cY hb;have hna:=cD a;have hnb:=cD b;have hx1:=br ha;have hy1:=br hb;generalize bf a.data.toList=na at*
  generalize bf b.data.toList=nb at*
  generalize (nS a).natAbs=x at*
  generalize (nS b).natAbs=y at*
  rw[hna,hnb];have hz:=wO hla hlb;rw[<-KC];have Hz:=zdB hz;have Hla:=zdB hla;have Hlb:=zdB hlb;have Hg:=zdB hg;clear h hr ha hb hsa hsb hla hlb hna hnb hz hg;go_enter func230,ntmps230;go_wp2_with fail
  (with_reducible refine(hB.out _).mono ?_);rintro e w1 ⟨v1,v2,rfl,hr1,hr2,hf1,hf2,hb1⟩
  obtain⟨a1,k1,rfl,_⟩:=hr1.open';obtain⟨a2,k2,rfl,_⟩:=hr2.open';have H1:=zdB hr1;have H2:=zdB hr2;have HB:=zdB hb1;have hs1:=hb1.size;clear hr1 hr2 hf1 hf2 hb1;have hbl: ∀o1 o2,Below w1.heap.size w1 ((w1.alloc o1).alloc o2):=λo1 o2=>((zdC _ _).alloc (za0 _) _).alloc (by simp) _;have Hbl:=zdB hbl;clear hbl;have hmx:prog.follows .mixedOrders=true:=by kernel_rfl
  obtain⟨n1,e1⟩: ∃n,(ae 10000 x).length=n:=⟨_,rfl⟩;obtain⟨n2,e2⟩: ∃n,(ae 10000 y).length=n:=⟨_,rfl⟩;rw[e1] at H1;rw[e2] at H2;simp only[e1,e2];clear e1 e2;go_wp2_with fail;obtain⟨r1,r2⟩:=atU w1 #[.bool na, .slice a1 n1 k1] #[.bool nb, .slice a2 n2 k2] 205;have rb:=Hbl.out (.cells #[.bool na, .slice a1 n1 k1] 205) (.cells #[.bool nb, .slice a2 n2 k2] 205);generalize ((w1.alloc (.cells #[.bool na, .slice a1 n1 k1] 205)).alloc (.cells #[.bool nb, .slice a2 n2 k2] 205))=W0 at*
  obtain⟨p1,p2,_,_,_⟩:=bN r1;obtain⟨q1,q2,_,_,_⟩:=bN r2;have R1:=zdB r1;have R2:=zdB r2;have RB:=zdB rb;clear r1 r2 rb
  go_region_held3 (λw'=>(w'.cell? ⟨w1.heap.size,0,none⟩=some (.bool na)/\w'.cell? ⟨w1.heap.size,1,none⟩=some (.slice a1 n1 k1))/\(w'.cell? ⟨w1.heap.size+1,0,none⟩=some (.bool nb)/\w'.cell? ⟨w1.heap.size+1,1,none⟩=some (.slice a2 n2 k2))) (go_keep)
   ((first
     |(go_at_call 299;refine(wM x y _ _ _ (H1.out.below RB.out.drew) (H2.out.below RB.out.drew) (by have:=Hla.out;omega) (by have:=Hlb.out;omega) (GX (H2.out.below RB.out.drew))).mono ?_
       rintro e w6 ⟨v6,rfl,hr6,hf6,hb6⟩;obtain⟨u1,u2,u3,u4,_⟩:=bN (Blk.below (w:=W0.drew) R1.out hb6 R1.out.lt);obtain⟨z1,z2,z3,z4,_⟩:=bN (Blk.below (w:=W0.drew) R2.out hb6 R2.out.lt);obtain⟨a6,k6,rfl,_⟩:=hr6.open';have HR6:=zdB hr6;have HB6:=zdB hb6
       clear hr6 hf6 hb6)
     |(go_at_call 159;refine(ep _ _ _ _ HR6.out (((Hg.out.below HB.out).below RB.out.drew).below HB6.out) (by have:=Hz.out;omega)).mono ?_
       rintro e w7 ⟨rfl,hb7⟩;obtain⟨u1,u2,u3,u4,_⟩:=bN ((Blk.below (w:=W0.drew) R1.out HB6.out R1.out.lt).below hb7 (zam R1.out.lt HB6.out.size));obtain⟨z1,z2,z3,z4,_⟩:=bN ((Blk.below (w:=W0.drew) R2.out HB6.out R2.out.lt).below hb7 (zam R2.out.lt HB6.out.size));have HB7:=zdB hb7
       clear hb7)))
  all_goals go_wp2
  all_goals go_ret2
  all_goals refine⟨rfl, ?_⟩
  all_goals
   have s1:=RB.out.size;have s6:=HB6.out.size;exact HB.out.trans ((RB.out.mono hs1).drew.trans ((HB6.out.mono (zac hs1 s1)).trans (HB7.out.mono (zac (zac hs1 s1) s6))))
 ·have hr:bM a b=(ByteArray.empty,30):=by unfold bM;rw[if_neg h]
  rw[hr];have hB:=zdB (λw=>lQ a b (zbc _▸h) w hsa hsb);clear h hr hsa hsb hg;go_enter func230,ntmps230;go_wp2_with fail
  (with_reducible refine(hB.out _).mono ?_);rintro e w1 ⟨rfl,hb1⟩
  have HB:=zdB hb1;clear hb1;go_wp2
  go_ret2
  refine⟨rfl, ?_⟩;have:=HB.out.size;exact(HB.out.alloc (by omega) _).alloc (by simp;omega) _
theorem yG (n:Int) (h0: -9223372036854775808<=n) (h1:n<=9223372036854775807) (w:World) (hg:Glob w):
 Calls prog 122 #[.int .i64 n] w λe w'=>e= .returned (.string (ofI n))/\Below w.heap.size w w':=by
 have Hi:=zdB (λw hg=>strconv_Itoa n h0 h1 w hg);have Hg:=zdB hg.2.1;clear h0 h1 hg;go_enter func122,ntmps122;go_wp2_with fail
 (with_reducible refine(Hi.out _ Hg.out).mono ?_);rintro e w' ⟨rfl,k,os,rfl⟩
 go_wp2;go_ret;exact⟨rfl,⟨rfl,rfl,rfl,by simp[Go.Sort.grow],λb hb=>by simp[Go.Sort.grow,zdo,hb]⟩⟩
end Go.Proofs.YtdjfpjmijhjmpaaGreatDoor
