import Derived.Test.YtojcellmcbnmeaaGreatDoorZd
import Derived.Deep.QuietTactic
import Derived.BigQuiet
import Derived.Test.YtojcellmcbnmeaaGreatDoorProg
import Derived.Lib.IndexMore
import Derived.Recover
import Derived.Tactics
import Derived.Tactics2
import Derived.Laws.Pointers
import Derived.Deep.RegionHeld3
import Derived.WalkMore
import Derived.ScopeJumps
import Derived.StillTailTactics
set_option linter.unusedVariables false
set_option linter.unusedSimpArgs false
set_option maxHeartbeats 2000000
set_option maxRecDepth 100000
noncomputable section
namespace Go.Proofs.YtojcellmcbnmeaaGreatDoor
open Go.Proofs.Tryz
open Go.RowKit Yk
theorem dN (x y:Nat) (va vb:Value) (w:World) (ha:Rd am w va (ae 10 x)) (hb:Rd am w vb (ae 10 y)):
 Calls prog 248 #[va,vb] w λe w'=>e= .returned (.int .i64 (dB x y))/\Below w.heap.size w w':=by
 obtain⟨aa,ca,rfl,hca,hca2,hcella⟩:=ha.open';obtain⟨ab,cb,rfl,hcb,hcb2,hcellb⟩:=hb.open';have Hca:=zdC hcella;clear hcella;have Hcb:=zdC hcellb;clear hcellb;clear ha hb;by_cases hlen:(ae 10 x).length=(ae 10 y).length
 ·obtain⟨n,hn⟩: ∃n,(ae 10 x).length=n:=⟨_,rfl⟩;have Hx:=zdC hn;have Hy:=zdC (hlen.symm.trans hn);rw[<-hlen,hn] at hcb ⊢;rw[hn] at hca;clear hlen hn;have hc:((n:Int) !=n)=false:=by simp
  go_enter func248,ntmps248;go_wp2
  go_loopw [5] (λi wr=> ∃j:Nat,j<=n/\i= .int .i64 ((j:Int) - 1)/\(ae 10 x).drop j=(ae 10 y).drop j/\Below w.heap.size w wr) (λi _=>(intOf i+1).toNat)
  case atStart=>exact⟨n,za0 _,rfl,by rw[zcK (by rw[Hx.out];exact za0 _),zcK (by rw[Hy.out];exact za0 _)],zdD _ _⟩
  case round=>
   obtain⟨j,hj,rfl,hd,hB⟩:=hrel;have Hd:=zdC hd;clear hd;cases j with
   |zero=>
    go_wp2;go_ret;exact⟨cc (BT (nI (B:=10) (by decide) (by simpa using Hd.out))).symm,hB⟩
   |succ m=>
    obtain⟨ba,oa,rfl,hba,hc1⟩:=Hca.out m (by rw[Hx.out];omega);obtain⟨bb,ob,rfl,hbb,hc2⟩:=Hcb.out m (by rw[Hy.out];omega);have k1:=(hB.cell (p:=⟨ba,oa+m,none⟩) hba).trans hc1;have k2:=(hB.cell (p:=⟨bb,ob+m,none⟩) hbb).trans hc2;clear hc1 hc2;obtain⟨dx,ex⟩: ∃d,(ae 10 x)[m]'(by rw[Hx.out];omega)=d:=⟨_,rfl⟩;obtain⟨dy,ey⟩: ∃d,(ae 10 y)[m]'(by rw[Hy.out];omega)=d:=⟨_,rfl⟩;rw[ex] at k1;rw[ey] at k2;have Ex:=zdC ex;clear ex;have Ey:=zdC ey;clear ey;by_cases h:dx=dy
    ·have c1:((dx:Int) !=dy)=false:=by simp[h]
     have Hn:=zdC (Dn (by rw[Hx.out];omega) (by rw[Hy.out];omega) Hd.out (Ex.out.trans (h.trans Ey.out.symm)));clear h;go_wp2
     go_quiet (fail)
     go_wp2
     go_roundw
     case rel=>exact⟨m,by omega,by go_num,Hn.out,hB.drewN _⟩
     case measure=>simp[intOf]
    ·have c1:((dx:Int) !=dy)=true:=by rw[zdB];omega
     by_cases hlt:dx<dy
     ·have c2:decide (dx<dy)=true:=by simp[hlt]
      have Hn:=zdC (lD (by decide) (by rw[Hx.out];omega) (by rw[Hy.out];omega) Hd.out (by rw[Ex.out,Ey.out];exact hlt):x<y);clear h;go_wp2
      go_quiet (fail)
      go_wp2
      go_quiet (fail)
      go_wp2;go_ret;exact⟨cc (jN Hn.out).symm,(hB.drewN _).drewN _⟩
     ·have c2:decide (dx<dy)=false:=by simp[hlt]
      have Hn:=zdC (lD (B:=10) (by decide) (by rw[Hy.out];omega) (by rw[Hx.out];omega) Hd.out.symm (by rw[Ex.out,Ey.out];omega):y<x);clear h;go_wp2
      go_quiet (fail)
      go_wp2
      go_quiet (fail)
      go_wp2;go_ret;exact⟨cc (jO Hn.out).symm,(hB.drewN _).drewN _⟩
 ·obtain⟨n,hn⟩: ∃n,(ae 10 x).length=n:=⟨_,rfl⟩;obtain⟨m,hm⟩: ∃m,(ae 10 y).length=m:=⟨_,rfl⟩;have h1:n<m->x<y:=λh=>fX (B:=10) (by decide) (by omega);have h2:m<n->y<x:=λh=>fX (B:=10) (by decide) (by omega);rw[hn,hm] at hlen;rw[hn] at hca ⊢;rw[hm] at hcb ⊢;clear hn hm Hca Hcb;have c1:((n:Int) !=m)=true:=by rw[zdB];omega
  by_cases hlt:n<m
  ·have Hn:=zdC (h1 hlt);clear h1 h2;go_enter func248,ntmps248;go_wp2;go_ret;exact⟨cc (jN Hn.out).symm,zdD _ _⟩
  ·have Hn:=zdC (h2 (by omega));clear h1 h2;go_enter func248,ntmps248;go_wp2;go_ret;exact⟨cc (jO Hn.out).symm,zdD _ _⟩
theorem iX (l:zdI) (hd: ∀d∈l,d<10) (v:Value) (w:World) (hv:Rd am w v l):
 Calls prog 256 #[v] w λe w'=> ∃v',e= .returned v'/\Rd am w' v' (ae 10 (val 10 l))/\(∀B,From B v->From B v')/\Below w.heap.size w w':=by
 rw[<-xQ (by decide) l hd];obtain⟨a,cap,rfl,hca,hca2,hcell⟩:=hv.open';have Hadr:=zdC hv.addr;have Hc:=zdC hcell;clear hcell hv hd;obtain⟨n,hn⟩: ∃n,l.length=n:=⟨_,rfl⟩;have Hn:=zdC hn;rw[hn] at hca ⊢;clear hn;go_enter func256,ntmps256;go_wp2
 go_loopw [0] (λs wr=> ∃k:Nat,k<=n/\s= .slice a k cap/\fW (l.take k)=fW l/\Below w.heap.size w wr) (λs _=>match s with| .slice _ k _=>k|_=>0)
 case atStart=>exact⟨n,za0 _,rfl,by rw[zaI (by rw[Hn.out];exact za0 _)],zdD _ _⟩
 case round=>
  obtain⟨k,hk,rfl,ht,hB⟩:=hrel;have Ht:=zdC ht;clear ht;cases k with
  |zero=>
   go_wp2;go_ret;refine⟨_,rfl, ?_,λB h=>h.len,hB⟩;rw[<-Ht.out,zbv,uO];have:=(Rd.take_of (k:=0) (zaA _) (zaA _) hca2 Hc.out Hadr.out.1 Hadr.out.2).below hB;rwa[zbv] at this
  |succ m=>
   have hm:m<l.length:=by rw[Hn.out];omega
   have Hr:=zdC (Rd.take_of (k:=m+1) (by omega) (by omega) hca2 Hc.out Hadr.out.1 Hadr.out.2);obtain⟨b,off,rfl,hb,hc1⟩:=Hc.out m hm;have k1:=(hB.cell (p:=⟨b,off+m,none⟩) hb).trans hc1;clear hc1;by_cases h0:l[m]=0
   ·have c1:((l[m]:Int)==0)=true:=by rw[h0];rfl
    have Ht2:=zdC ((rp hm h0).symm.trans Ht.out);clear h0;go_wp2
    go_roundw
    case rel=>exact⟨m,by omega,rfl,Ht2.out,hB⟩
    case measure=>simp
   ·have c1:((l[m]:Int)==0)=false:=by rw[zdx];omega
    have Ht2:=zdC ((rq hm h0).symm.trans Ht.out);clear h0;go_wp2;go_ret;refine⟨_,rfl, ?_,λB h=>h.len,hB⟩;rw[<-Ht2.out];exact Hr.out.below hB
def Cu (x y:Nat) (w:World) (out carry i:Value) (wr:World):Prop:=
 ∃(k c:Nat) (l:zdI),i= .int .i64 k/\carry= .int .i64 c/\OwnL am 3 wr w.heap.size out l/\Below w.heap.size w wr/\l.length=k/\c<=1/\(∀d∈l,d<10)/\
  val 10 l+10^k*c=val 10 ((ae 10 x).take k)+val 10 ((ae 10 y).take k)/\
  (k<=(ae 10 x).length\/k<=(ae 10 y).length\/(l.getLast? ≠some 0/\c=0))
variable {x y k c da db:Nat} {w w1:World} {l:zdI} {out i' c':Value}
theorem gG 
 (hl:l.length=k) (hd: ∀d∈l,d<10) (hv:val 10 l+10^k*c=val 10 ((ae 10 x).take k)+val 10 ((ae 10 y).take k))
 (V:(ae 10 x).getD k 0=da) (Y:(ae 10 y).getD k 0=db) (a0:k<(ae 10 x).length\/k<(ae 10 y).length\/0<c) (hc:c<=1)
 (J:OwnL am 3 w1 w.heap.size out (l++ [(c+da+db)%10])) (hB:Below w.heap.size w w1) (hi:i'= .int .i64 ((k+1:Nat):Int)) (N:c'= .int .i64 (((c+da+db) / 10:Nat):Int)):
 Cu x y w out c' i' w1:=by
 subst V;subst Y;have h1:=ff (B:=10) (by decide) x k;have h2:=ff (B:=10) (by decide) y k;refine⟨k+1,_,_,hi,N,J,hB,by simp[hl],by omega, ?_,FM hv hl, ?_⟩
 ·intro d H;rcases za8.1 H with H|H
  ·exact hd d H
  ·simp at H;omega
 ·by_cases e1:k<(ae 10 x).length
  ·exact .inl e1
  ·by_cases e2:k<(ae 10 y).length
   ·exact .inr (.inl e2)
   ·have Z:(ae 10 x).getD k 0=0:=by rw[List.getD,zad (by omega)];rfl
    have e4:(ae 10 y).getD k 0=0:=by rw[List.getD,zad (by omega)];rfl
    refine .inr (.inr ⟨?_, ?_⟩)
    ·rw[List.getLast?_concat,Z,e4];simp;omega
    ·rw[Z,e4];omega
theorem qq (x y:Nat) (va vb:Value) (w:World) (ha:Rd am w va (ae 10 x)) (hb:Rd am w vb (ae 10 y)) (hx:(ae 10 x).length<=1000) (hy:(ae 10 y).length<=1000):
 Calls prog 251 #[va,vb] w λe w'=> ∃v,e= .returned v/\Rd am w' v (ae 10 (x+y))/\From w.heap.size v/\Below w.heap.size w w':=by
 obtain⟨aa,ca,rfl,hca,hca2,hcella⟩:=ha.open';obtain⟨ab,cb,rfl,hcb,hcb2,hcellb⟩:=hb.open';have Hca:=zdC hcella;clear hcella;have Hcb:=zdC hcellb;clear hcellb;clear ha hb;obtain⟨n,hn⟩: ∃n,(ae 10 x).length=n:=⟨_,rfl⟩;obtain⟨m,hm⟩: ∃n,(ae 10 y).length=n:=⟨_,rfl⟩;have Hn:=zdC hn;have Hm:=zdC hm;rw[hn] at hca hx ⊢;rw[hm] at hcb hy ⊢;clear hn hm;go_enter func251,ntmps251;go_wp2
 go_loopw [5,6,7] (λout carry i wr=>Cu x y w out carry i wr) (λ_ c i _=>(2*(n+m+2 - intOf i)+intOf c).toNat)
 case atStart=>exact⟨0,0, [],rfl,rfl,OwnL.nil _ _,zdD _ _,rfl,by omega,by simp,by simp[val],by omega⟩
 case round=>
  obtain⟨k,c,l,rfl,rfl,hown,hB,hl,hc,hd,hv,hk⟩:=hrel;have Hl:=zdC hl;clear hl;have Hd:=zdC hd;clear hd;have Hv:=zdC hv;clear hv;have Hk:=zdC hk;clear hk;by_cases hin:k<n\/k<m\/0<c
  ·have hkb:k<=n+m:=by
    have h5:=Hk.out;rw[Hn.out,Hm.out] at h5;omega
   by_cases hkn:k<n
   ·obtain⟨ba,oa,rfl,hba,hc1⟩:=Hca.out k (by rw[Hn.out];omega);have k1:=(hB.cell (p:=⟨ba,oa+k,none⟩) hba).trans hc1;obtain⟨da,eda⟩: ∃d,(ae 10 x)[k]'(by rw[Hn.out];omega)=d:=⟨_,rfl⟩;have hda:da<10:=by rw[<-eda];exact aK (by decide) x _ (zas _)
    have Hda:=zdC (show (ae 10 x).getD k 0=da by rw[List.getD,zaa (by rw[Hn.out];omega),eda];rfl);rw[eda] at k1;clear hc1 eda;by_cases hkm:k<m
    ·obtain⟨bb,ob,rfl,hbb,hc2⟩:=Hcb.out k (by rw[Hm.out];omega);have k2:=(hB.cell (p:=⟨bb,ob+k,none⟩) hbb).trans hc2;obtain⟨db,edb⟩: ∃d,(ae 10 y)[k]'(by rw[Hm.out];omega)=d:=⟨_,rfl⟩;have hdb:db<10:=by rw[<-edb];exact aK (by decide) y _ (zas _)
     have Hdb:=zdC (show (ae 10 y).getD k 0=db by rw[List.getD,zaa (by rw[Hm.out];omega),edb];rfl);rw[edb] at k2;clear hc2 edb;have Hin:=zdC hin;clear hin;have hlb:l.length<=n+m+2:=by rw[Hl.out];omega
     have hbs:=hB.size;go_wp2_with (at_builtin;(refine py rfl _ _ rfl rfl (hown.alloc _) wr.heap.size 1 _ rfl (aP _ _ _) ((c+da+db)%10) (int_eq (by omega)) (by omega) (by simp;omega) ?_);intro v' w1 hown1 hB1)
     go_roundw
     case rel=>exact gG Hl.out Hd.out Hv.out Hda.out Hdb.out (by rw[Hn.out,Hm.out];exact Hin.out) hc hown1 ((hB.alloc hB.size _).trans hB1) (int_eq (by omega)) (int_eq (by omega))
     case measure=>simp[intOf];omega
    ·have Hdb:=zdC (show (ae 10 y).getD k 0=0 by rw[List.getD,zad (by rw[Hm.out];omega)];rfl);have Hin:=zdC hin;clear hin;have hlb:l.length<=n+m+2:=by rw[Hl.out];omega
     have hbs:=hB.size;go_wp2_with (at_builtin;refine py rfl _ _ rfl rfl (hown.alloc _) wr.heap.size 1 _ rfl (aP _ _ _) ((c+da+0)%10) (int_eq (by omega)) (by omega) (by simp;omega) ?_;intro v' w1 hown1 hB1)
     go_roundw
     case rel=>exact gG Hl.out Hd.out Hv.out Hda.out Hdb.out (by rw[Hn.out,Hm.out];exact Hin.out) hc hown1 ((hB.alloc hB.size _).trans hB1) (int_eq (by omega)) (int_eq (by omega))
     case measure=>simp[intOf];omega
   ·have Hda:=zdC (show (ae 10 x).getD k 0=0 by rw[List.getD,zad (by rw[Hn.out];omega)];rfl);by_cases hkm:k<m
    ·obtain⟨bb,ob,rfl,hbb,hc2⟩:=Hcb.out k (by rw[Hm.out];omega);have k2:=(hB.cell (p:=⟨bb,ob+k,none⟩) hbb).trans hc2;obtain⟨db,edb⟩: ∃d,(ae 10 y)[k]'(by rw[Hm.out];omega)=d:=⟨_,rfl⟩;have hdb:db<10:=by rw[<-edb];exact aK (by decide) y _ (zas _)
     have Hdb:=zdC (show (ae 10 y).getD k 0=db by rw[List.getD,zaa (by rw[Hm.out];omega),edb];rfl);rw[edb] at k2;clear hc2 edb;have Hin:=zdC hin;clear hin;have hlb:l.length<=n+m+2:=by rw[Hl.out];omega
     have hbs:=hB.size;go_wp2_with (at_builtin;refine py rfl _ _ rfl rfl (hown.alloc _) wr.heap.size 1 _ rfl (aP _ _ _) ((c+0+db)%10) (int_eq (by omega)) (by omega) (by simp;omega) ?_;intro v' w1 hown1 hB1)
     go_roundw
     case rel=>exact gG Hl.out Hd.out Hv.out Hda.out Hdb.out (by rw[Hn.out,Hm.out];exact Hin.out) hc hown1 ((hB.alloc hB.size _).trans hB1) (int_eq (by omega)) (int_eq (by omega))
     case measure=>simp[intOf];omega
    ·have Hdb:=zdC (show (ae 10 y).getD k 0=0 by rw[List.getD,zad (by rw[Hm.out];omega)];rfl);have hc0:0<c:=by omega
     have Hin:=zdC hin;clear hin;have hlb:l.length<=n+m+2:=by rw[Hl.out];omega
     have hbs:=hB.size;go_wp2_with (at_builtin;refine py rfl _ _ rfl rfl (hown.alloc _) wr.heap.size 1 _ rfl (aP _ _ _) ((c+0+0)%10) (int_eq (by omega)) (by omega) (by simp;omega) ?_;intro v' w1 hown1 hB1)
     go_roundw
     case rel=>exact gG Hl.out Hd.out Hv.out Hda.out Hdb.out (by rw[Hn.out,Hm.out];exact Hin.out) hc hown1 ((hB.alloc hB.size _).trans hB1) (int_eq (by omega)) (int_eq (by omega))
     case measure=>simp[intOf];omega
  ·have h1:decide (k<n)=false:=by simp;omega
   have h2:decide (k<m)=false:=by simp;omega
   obtain rfl:c=0:=by omega
   go_wp2;go_ret;refine⟨_,rfl, ?_,hown.from,hB⟩;rw[<-JZ (B:=10) (by decide) Hv.out Hl.out Hd.out (by rw[Hn.out];omega) (by rw[Hm.out];omega) (by rcases Hk.out with h|h|h<;>simp_all)];exact hown.rd
def yI (x y:Nat) (w:World) (out borrow i:Value) (wr:World):Prop:=
 ∃(k c:Nat) (l:zdI),i= .int .i64 k/\borrow= .int .i64 c/\OwnL am 3 wr w.heap.size out l/\Below w.heap.size w wr/\l.length=k/\c<=1/\(∀d∈l,d<10)/\
  val 10 l+val 10 ((ae 10 y).take k)+0=val 10 ((ae 10 x).take k)+10^k*c/\k<=(ae 10 x).length
variable {d:Nat}
theorem fT {c2:Nat} 
 (hl:l.length=k) (hd: ∀d∈l,d<10) (hv:val 10 l+val 10 ((ae 10 y).take k)+0=val 10 ((ae 10 x).take k)+10^k*c)
 (Y:(ae 10 x).getD k 0=da) (Z:(ae 10 y).getD k 0=db) (a0:k<(ae 10 x).length) (hc:c<=1) (h1:da+10*c2=d+c+db) (V:c2<=1) (e0:d<10)
 (J:OwnL am 3 w1 w.heap.size out (l++ [d])) (hB:Below w.heap.size w w1) (hi:i'= .int .i64 ((k+1:Nat):Int)) (N:c'= .int .i64 (c2:Int)):
 yI x y w out c' i' w1:=by
 subst Y;subst Z;refine⟨k+1,c2,_,hi,N,J,hB,by simp[hl],V, ?_,Dp (by decide) hv hl hc (ff (by decide) x k) (ff (by decide) y k) h1,a0⟩;intro d H;rcases za8.1 H with H|H
 ·exact hd d H
 ·simp at H;omega
theorem En (hv:val 10 l+val 10 ((ae 10 y).take k)+0=val 10 ((ae 10 x).take k)+10^k*c) (N:l.length=k) (H: ∀d∈l,d<10) (Y:c<=1)
 (J:k=(ae 10 x).length) (V:y<=x):val 10 l=x - y:=by
 have h1:(ae 10 y).length<=k:=by
  rw[J];apply Nat.le_of_not_lt;intro h;have:=fX (B:=10) (by decide) h;omega
 rw[zaI h1,zaI (by omega:(ae 10 x).length<=k),bi (by decide),bi (by decide)] at hv;have h2:=kF (B:=10) H;rw[N] at h2;rcases(show c=0\/c=1 by omega) with rfl|rfl<;>omega
theorem gH (x y:Nat) (hxy:y<=x) (va vb:Value) (w:World) (ha:Rd am w va (ae 10 x)) (hb:Rd am w vb (ae 10 y)) (hx:(ae 10 x).length<=1000):
 Calls prog 252 #[va,vb] w λe w'=> ∃v,e= .returned v/\Rd am w' v (ae 10 (x - y))/\From w.heap.size v/\Below w.heap.size w w':=by
 obtain⟨aa,ca,rfl,hca,hca2,hcella⟩:=ha.open';obtain⟨ab,cb,rfl,hcb,hcb2,hcellb⟩:=hb.open';have Hca:=zdC hcella;clear hcella;have Hcb:=zdC hcellb;clear hcellb;clear ha hb;obtain⟨n,hn⟩: ∃n,(ae 10 x).length=n:=⟨_,rfl⟩;obtain⟨m,hm⟩: ∃n,(ae 10 y).length=n:=⟨_,rfl⟩;have Hn:=zdC hn;have Hm:=zdC hm;rw[hn] at hca hx ⊢;rw[hm] at hcb ⊢;clear hn hm;go_enter func252,ntmps252;go_wp2
 go_loopw [5,6,7] (λout borrow i wr=>yI x y w out borrow i wr) (λ_ c i _=>(n - intOf i).toNat)
 case atStart=>exact⟨0,0, [],rfl,rfl,OwnL.nil _ _,zdD _ _,rfl,by omega,by simp,by simp[val],by omega⟩
 case round=>
  obtain⟨k,c,l,rfl,rfl,hown,hB,hl,hc,hd,hv,hk⟩:=hrel;have Hl:=zdC hl;clear hl;have Hd:=zdC hd;clear hd;have Hv:=zdC hv;clear hv;rw[Hn.out] at hk;by_cases hin:k<n
  ·obtain⟨ba,oa,rfl,hba,hc1⟩:=Hca.out k (by rw[Hn.out];omega);have k1:=(hB.cell (p:=⟨ba,oa+k,none⟩) hba).trans hc1;obtain⟨da,eda⟩: ∃d,(ae 10 x)[k]'(by rw[Hn.out];omega)=d:=⟨_,rfl⟩;have hda:da<10:=by rw[<-eda];exact aK (by decide) x _ (zas _)
   have Hda:=zdC (show (ae 10 x).getD k 0=da by rw[List.getD,zaa (by rw[Hn.out];omega),eda];rfl);rw[eda] at k1;clear hc1 eda;have hlb:l.length<=n+2:=by rw[Hl.out];omega
   have hbs:=hB.size;by_cases hkm:k<m
   ·obtain⟨bb,ob,rfl,hbb,hc2⟩:=Hcb.out k (by rw[Hm.out];omega);have k2:=(hB.cell (p:=⟨bb,ob+k,none⟩) hbb).trans hc2;obtain⟨db,edb⟩: ∃d,(ae 10 y)[k]'(by rw[Hm.out];omega)=d:=⟨_,rfl⟩;have hdb:db<10:=by rw[<-edb];exact aK (by decide) y _ (zas _)
    have Hdb:=zdC (show (ae 10 y).getD k 0=db by rw[List.getD,zaa (by rw[Hm.out];omega),edb];rfl);rw[edb] at k2;clear hc2 edb;by_cases hneg:da<c+db
    ·go_wp2_with (at_builtin;refine py rfl _ _ rfl rfl (hown.alloc _) wr.heap.size 1 _ rfl (aP _ _ _) (da+10 - c - db) (int_eq (by omega)) (by omega) (by simp;omega) ?_;intro v' w1 hown1 hB1)
     go_roundw
     case rel=>exact fT (c2:=1) Hl.out Hd.out Hv.out Hda.out Hdb.out (by rw[Hn.out];exact hin) hc (by omega) (by decide) (by omega) hown1 ((hB.alloc hB.size _).trans hB1) (int_eq (by omega)) (int_eq (by omega))
     case measure=>simp[intOf];omega
    ·go_wp2_with (at_builtin;refine py rfl _ _ rfl rfl (hown.alloc _) wr.heap.size 1 _ rfl (aP _ _ _) (da - c - db) (int_eq (by omega)) (by omega) (by simp;omega) ?_;intro v' w1 hown1 hB1)
     go_roundw
     case rel=>exact fT (c2:=0) Hl.out Hd.out Hv.out Hda.out Hdb.out (by rw[Hn.out];exact hin) hc (by omega) (by decide) (by omega) hown1 ((hB.alloc hB.size _).trans hB1) (int_eq (by omega)) (int_eq (by omega))
     case measure=>simp[intOf];omega
   ·have Hdb:=zdC (show (ae 10 y).getD k 0=0 by rw[List.getD,zad (by rw[Hm.out];omega)];rfl);by_cases hneg:da<c
    ·go_wp2_with (at_builtin;refine py rfl _ _ rfl rfl (hown.alloc _) wr.heap.size 1 _ rfl (aP _ _ _) (da+10 - c) (int_eq (by omega)) (by omega) (by simp;omega) ?_;intro v' w1 hown1 hB1)
     go_roundw
     case rel=>exact fT (c2:=1) Hl.out Hd.out Hv.out Hda.out Hdb.out (by rw[Hn.out];exact hin) hc (by omega) (by decide) (by omega) hown1 ((hB.alloc hB.size _).trans hB1) (int_eq (by omega)) (int_eq (by omega))
     case measure=>simp[intOf];omega
    ·go_wp2_with (at_builtin;refine py rfl _ _ rfl rfl (hown.alloc _) wr.heap.size 1 _ rfl (aP _ _ _) (da - c) (int_eq (by omega)) (by omega) (by simp;omega) ?_;intro v' w1 hown1 hB1)
     go_roundw
     case rel=>exact fT (c2:=0) Hl.out Hd.out Hv.out Hda.out Hdb.out (by rw[Hn.out];exact hin) hc (by omega) (by decide) (by omega) hown1 ((hB.alloc hB.size _).trans hB1) (int_eq (by omega)) (int_eq (by omega))
     case measure=>simp[intOf];omega
  ·obtain rfl:k=n:=by omega
   go_wp2_with (go_at_call 256;refine(iX l Hd.out _ _ hown.rd).mono ?_;rintro e w1 ⟨v1,rfl,hr1,hf1,hb1⟩);go_ret;refine⟨_,rfl, ?_,hf1 _ hown.from,hB.trans (hb1.mono hB.size)⟩;rw[<-En Hv.out Hl.out Hd.out hc Hn.out.symm hxy];exact hr1
def G6 (x y N:Nat) (w:World) (g:Nat) (i:Value) (wr:World):Prop:=
 ∃(k:Nat) (o:zdI),i= .int .i64 k/\OwnL am 3 wr w.heap.size (.slice (some ⟨g,0,none⟩) N N) o/\Below w.heap.size w wr/\o.length=N/\(∀d∈o,d<10)/\
  val 10 o=val 10 ((ae 10 x).take k)*y/\k<=(ae 10 x).length
def Cv (x y N:Nat) (w:World) (g i:Nat) (carry H:Value) (wr:World):Prop:=
 ∃(k c:Nat) (o:zdI),H= .int .i64 k/\carry= .int .i64 c/\OwnL am 3 wr w.heap.size (.slice (some ⟨g,0,none⟩) N N) o/\Below w.heap.size w wr/\o.length=N/\(∀d∈o,d<10)/\c<=9/\
  val 10 o+10^(i+k)*c=val 10 ((ae 10 x).take i)*y+10^i*((ae 10 x).getD i 0*val 10 ((ae 10 y).take k))/\(k<=(ae 10 y).length\/c=0)/\k<=(ae 10 y).length+1
variable {i p ov:Nat} {o:zdI}
theorem AN {V:Nat} {b:zdI} (N:i+k<o.length) (J:o[i+k]=ov) (hv:val 10 o+10^(i+k)*c=V*y+10^i*(da*val 10 (b.take k))) (H:b.getD k 0=db) (hp:da*db=p):
 val 10 (o.set (i+k) ((ov+c+p)%10))+10^(i+(k+1))*((ov+c+p) / 10)=V*y+10^i*(da*val 10 (b.take (k+1))):=by
 have h:=FN (ab:=p) N hv;rw[J] at h;rw[cj,H,zao da,<-zaD da,zay da (10^k),zaD (10^k),hp,zao (10^i),<-zaD (10^i) (10^k),<-zbw];have e:i+(k+1)=i+k+1:=by omega
 rw[e];omega
theorem AO {j:Nat} (h: ∀x∈o,x<10) (J:d<10): ∀x∈o.set j d,x<10:=by
 intro x H;rcases zcL H with h1|h1
 ·exact h x h1
 ·omega
variable {wr:World}
theorem X0 {N:Nat} {g:Nat} {k' u:Value}
 (H:OwnL am 3 wr w.heap.size (.slice (some ⟨g,0,none⟩) N N) o) (hB:Below w.heap.size w wr) (g0:o.length=N) (a0: ∀d∈o,d<10) (hj:i+k<o.length) (i0:o[i+k]=ov) (hg:w.heap.size<=g)
 (hv:val 10 o+10^(i+k)*c=val 10 ((ae 10 x).take i)*y+10^i*((ae 10 x).getD i 0*val 10 ((ae 10 y).take k))) (Y:(ae 10 x).getD i 0=da) (Z:(ae 10 y).getD k 0=db) (hp:da*db=p)
 (m0:ov<10) (n0:c<=9) (o0:p<=81) (J:k<(ae 10 y).length\/ov+c+p<10) (p0:k<=(ae 10 y).length) (e0:k'= .int .i64 ((k+1:Nat):Int)) (V:c'= .int .i64 (((ov+c+p) / 10:Nat):Int)) (hu:u=am ((ov+c+p)%10)) (q:Nat):
 Cv x y N w g i c' k' ((wr.drewN q).setCell ⟨g,i+k,none⟩ u):=by
 have hown':OwnL am 3 (wr.drewN q) w.heap.size (.slice (some ⟨g,0,none⟩) N N) o:=H;refine⟨k+1,_,_,e0,V,hown'.set (i+k) hj ((ov+c+p)%10) hu,(hB.drewN q).setCell hg _,by simpa using g0,AO a0 (by omega),by omega, ?_, ?_,by omega⟩
 ·rw[Y] at hv ⊢;exact AN hj i0 hv Z hp
 ·rcases J with J|J
  ·exact .inl J
  ·exact .inr (by omega)
theorem wP (x y:Nat) (va vb:Value) (w:World) (ha:Rd am w va (ae 10 x)) (hb:Rd am w vb (ae 10 y)) (hx:(ae 10 x).length<=1000) (hy:(ae 10 y).length<=1000):
 Calls prog 254 #[va,vb] w λe w'=> ∃v,e= .returned v/\Rd am w' v (ae 10 (x*y))/\From w.heap.size v/\Below w.heap.size w w':=by
 obtain⟨aa,ca,rfl,hca,hca2,hcella⟩:=ha.open';obtain⟨ab,cb,rfl,hcb,hcb2,hcellb⟩:=hb.open';have Hca:=zdC hcella;clear hcella;have Hcb:=zdC hcellb;clear hcellb;clear ha hb;obtain⟨n,hn⟩: ∃n,(ae 10 x).length=n:=⟨_,rfl⟩;obtain⟨m,hm⟩: ∃n,(ae 10 y).length=n:=⟨_,rfl⟩;have Hn:=zdC hn;have Hm:=zdC hm;rw[hn] at hca hx ⊢;rw[hm] at hcb hy ⊢;clear hn hm;go_enter func254,ntmps254;go_wp2_with (at_make;refine aca (enc:=am) (e:=3) (B:=w.heap.size) rfl _ _ 40 rfl 0 8 underlying40 gE rfl .i64 .i64 _ _ (n+m) rfl rfl (by omega) (by omega) (by omega) (by decide) (za0 _) ?_;intro w1 hown1 hB1)
 go_loopw [6] (λi wr=>G6 x y (n+m) w w.heap.size i wr) (λi _=>(n - intOf i).toNat)
 case atStart=>exact⟨0,_,rfl,hown1,hB1,by simp,by simp,by simp[val,mF],zaA _⟩
 case round=>
  obtain⟨i,o,rfl,hown,hB,hlo,hdo,hvo,hio⟩:=hrel;have Hlo:=zdC hlo;clear hlo;have Hdo:=zdC hdo;clear hdo;have Hvo:=zdC hvo;clear hvo;have Hown:=zdC hown;clear hown;clear hown1 hB1;rw[Hn.out] at hio;by_cases hin:i<n
  ·obtain⟨ba,oa,rfl,hba,hc1⟩:=Hca.out i (by rw[Hn.out];omega);obtain⟨da,eda⟩: ∃d,(ae 10 x)[i]'(by rw[Hn.out];omega)=d:=⟨_,rfl⟩;have hda:da<10:=by rw[<-eda];exact aK (by decide) x _ (zas _)
   have Hda:=zdC (show (ae 10 x).getD i 0=da by rw[List.getD,zaa (by rw[Hn.out];omega),eda];rfl);rw[eda] at hc1;clear eda;obtain⟨wo,hwo⟩: ∃wo:World,wo=wr:=⟨_,rfl⟩;rw[<-hwo] at Hown hB;subst hwo;have Hc1:=zdC hc1;clear hc1;go_wp2
   go_loopw [7,8] (λc k wr=>Cv x y (n+m) w w.heap.size i c k wr) (λ_ k _=>(m+2 - intOf k).toNat)
   case atStart=>exact⟨0,0,o,rfl,rfl,Hown.out,hB,Hlo.out,Hdo.out,by omega,by rw[Hvo.out];simp[val], .inl (zaA _),by omega⟩
   case round=>
    obtain⟨k,c,o2,rfl,rfl,hown,hB2,hlo2,hdo2,hc,hv2,hk,hk2⟩:=hrel;rw[Hm.out] at hk hk2;have Hlo2:=zdC hlo2;clear hlo2;have Hdo2:=zdC hdo2;clear hdo2;have Hv2:=zdC hv2;clear hv2;by_cases hkin:k<m\/0<c
    ·have hj:i+k<o2.length:=by rw[Hlo2.out];omega
     have k1:=(hB2.cell (p:=⟨ba,oa+i,none⟩) hba).trans Hc1.out;have k3:=hown.cell (i+k) hj;have k4:=hown.free (i+k);obtain⟨ov,eov⟩: ∃d,o2[i+k]=d:=⟨_,rfl⟩;have hov:ov<10:=by rw[<-eov];exact Hdo2.out _ (zas _)
     rw[eov] at k3;have Eov:=zdC eov;clear eov;have hbs:=hB2.size;by_cases hkm:k<m
     ·obtain⟨bb,ob,rfl,hbb,hc2⟩:=Hcb.out k (by rw[Hm.out];omega);have k2:=(hB2.cell (p:=⟨bb,ob+k,none⟩) hbb).trans hc2;obtain⟨db,edb⟩: ∃d,(ae 10 y)[k]'(by rw[Hm.out];omega)=d:=⟨_,rfl⟩;have hdb:db<10:=by rw[<-edb];exact aK (by decide) y _ (zas _)
      have Hdb:=zdC (show (ae 10 y).getD k 0=db by rw[List.getD,zaa (by rw[Hm.out];omega),edb];rfl);rw[edb] at k2;obtain⟨p,hp⟩: ∃p,da*db=p:=⟨_,rfl⟩;have hp2:p<=81:=by rw[<-hp];exact zb4 (by omega:da<=9) (by omega:db<=9)
      have Hp:=zdC hp;have hp3:(da:Int)*(db:Int)=(p:Int):=by rw[<-hp];simp
      clear hc2 edb hp;go_wp2;have hw1:IntKind.i64.wrap (p:Int)=p:=IntWalk.i64_in _ (by omega);have hw2:IntKind.i64.wrap ((ov:Int)+c+p)=(ov:Int)+c+p:=IntWalk.i64_in _ (by omega)
      go_quiet (fail)
      clear hw1 hw2;go_wp2
      go_roundw
      case rel=>exact X0 hown hB2 Hlo2.out Hdo2.out hj Eov.out (za0 _) Hv2.out Hda.out Hdb.out Hp.out hov hc hp2 (.inl (by rw[Hm.out];exact hkm)) (by rw[Hm.out];omega) (int_eq (by omega)) (int_eq (by omega)) (int_eq (by omega)) _
      case measure=>simp[intOf];omega
     ·obtain rfl:k=m:=by omega
      have Hdb:=zdC (show (ae 10 y).getD k 0=0 by rw[List.getD,zad (by rw[Hm.out];omega)];rfl);have hsum:ov+c<10:=by
       have h5:=FO (B:=10) (by decide) hj Hv2.out (by
        rw[show (ae 10 y).take k=ae 10 y from zaI (by rw[Hm.out];omega),bi (n:=y) (by decide)];have h6:=Dr (B:=10) (i:=i) (lb:=k) (a:=ae 10 x) (b:=ae 10 y) (aK (by decide) x) (aK (by decide) y) Hm.out (by rw[Hn.out];exact hin);rw[bi (by decide),cj,zaG,zaD] at h6
        exact h6)
       rw[Eov.out] at h5;exact h5
      have hc0:0<c:=by omega
      go_wp2
      go_roundw
      case rel=>exact X0 (q:=0) (p:=0) hown hB2 Hlo2.out Hdo2.out hj Eov.out (za0 _) Hv2.out Hda.out Hdb.out (by simp) hov hc (by omega) (.inr (by omega)) (by rw[Hm.out];omega) (int_eq (by omega)) (int_eq (by omega)) (int_eq (by omega))
      case measure=>simp[intOf];omega
    ·obtain rfl:c=0:=by omega
     have h1:decide (k<m)=false:=by simp;omega
     go_wp2
     go_roundw
     case rel=>
      refine⟨i+1,o2,int_eq (by omega),hown,hB2,Hlo2.out,Hdo2.out, ?_,by rw[Hn.out];omega⟩;have h5:=Hv2.out;rw[show (ae 10 y).take k=ae 10 y from zaI (by rw[Hm.out];omega),bi (n:=y) (by decide)] at h5;rw[cj,zaG,zaD];omega
     case measure=>simp[intOf];omega
  ·obtain rfl:i=n:=by omega
   have hown2:=Hown.out;go_wp2_with (go_at_call 256;refine(iX o Hdo.out _ _ hown2.rd).mono ?_;rintro e w1 ⟨v1,rfl,hr1,hf1,hb1⟩);go_ret;refine⟨_,rfl, ?_,hf1 _ hown2.from,hB.trans (hb1.mono hB.size)⟩;have h5:=Hvo.out;rw[zaI (by rw[Hn.out];omega),bi (by decide)] at h5;rwa[h5] at hr1
def NR (x y N:Nat) (w:World) (g:Nat) (H i:Value) (wr:World):Prop:=
 ∃(j R:Nat) (q:zdI),i= .int .i64 ((j:Int) - 1)/\Rd am wr H (ae 10 R)/\From w.heap.size H/\OwnL am 3 wr w.heap.size (.slice (some ⟨g,0,none⟩) N N) q/\Below w.heap.size w wr/\DivInv 10 x y j R q/\j<=N
def PB (x y N:Nat) (w:World) (g:Nat) (j d R:Nat) (q:zdI) (J:Value) (wr:World):Prop:=
 ∃(t H:Nat),Rd am wr J (ae 10 H)/\From w.heap.size J/\OwnL am 3 wr w.heap.size (.slice (some ⟨g,0,none⟩) N N) (q.set j t)/\Below w.heap.size w wr/\H+t*y=d+10*R/\t<=9
def wQ (wr:World) (H:Value):Nat:=open Classical in if h: ∃R,Rd am wr H (ae 10 R) then h.choose else 0
variable {rv:Value}
theorem Eo {m:zdI} (h1:Rd am wr rv l) (h2:Rd am wr rv m):l=m:=by
 obtain⟨a,c,rfl,_,_,k1⟩:=h1.open';obtain⟨a2,c2,e,_,_,k2⟩:=h2.open';injection e with e1 Y e3
 subst e1;refine zbu Y λi hi N=> ?_;obtain⟨b,off,ha,_,hc⟩:=k1 i hi;obtain⟨b2,V,H,_,J⟩:=k2 i N;rw[ha] at H;injection H with H;injection H with e4 Z
 subst e4;subst Z;rw[hc] at J;simp only[za1,am,Value.int.injEq,true_and] at J;omega
variable {R:Nat}
theorem lU (h:Rd am wr rv (ae 10 R)):wQ wr rv=R:=by
 have h2: ∃R,Rd am wr rv (ae 10 R):=⟨R,h⟩;unfold wQ;rw[dif_pos h2];exact nI (B:=10) (by decide) (Eo h2.choose_spec h)
theorem yJ (h:y<=x):decide (0<=dB x y)=true:=by
 have: ¬x<y:=by omega
 simp only[dB,this,if_false,zdt];split<;>decide
theorem yK (h:x<y):decide (0<=dB x y)=false:=by rw[jN h];rfl
variable {B R2 t:Nat}
theorem Ep (h:R2+t*y=d+B*R) (h1:y<=R2) (J:d<B) (H:R<y):t+1<B:=by
 have e:(t+1)*y=t*y+y:=zce t y;have h2:B*(R+1)<=B*y:=zb5 B H;rw[zao] at h2;exact Nat.lt_of_mul_lt_mul_right (a:=y) (by omega)
theorem G7 (h:R2+t*y=d+B*R) (h1:y<=R2):(R2 - y)+(t+1)*y=d+B*R:=by
 have e:(t+1)*y=t*y+y:=zce t y;omega
theorem tf (x y:Nat) (hy0:0<y) (va vb:Value) (w:World) (ha:Rd am w va (ae 10 x)) (hb:Rd am w vb (ae 10 y)) (hx:(ae 10 x).length<=900) (hy:(ae 10 y).length<=900):
 Calls prog 249 #[va,vb] w λe w'=> ∃v1 v2,e= .returned (.tuple #[v1,v2])/\Rd am w' v1 (ae 10 (x / y))/\Rd am w' v2 (ae 10 (x%y))/\From w.heap.size v1/\From w.heap.size v2/\Below w.heap.size w w':=by
 obtain⟨aa,ca,rfl,hca,hca2,hcella⟩:=ha.open';have Hca:=zdC hcella;clear hcella;have Hb:=zdC hb;clear ha hb;obtain⟨n,hn⟩: ∃n,(ae 10 x).length=n:=⟨_,rfl⟩;have Hn:=zdC hn;rw[hn] at hca hx ⊢;clear hn;go_enter func249,ntmps249;go_wp2_with (at_make;refine aca (enc:=am) (e:=3) (B:=w.heap.size) rfl _ _ 40 rfl 0 8 underlying40 gE rfl .i64 .i64 _ _ n rfl rfl rfl rfl (by omega) (by decide) (za0 _) ?_;intro w1 hown1 hB1)
 go_loopw [7,8] (λrv i wr=>NR x y n w w.heap.size rv i wr) (λ_ i _=>(intOf i+1).toNat)
 case atStart=>exact⟨n,0,_,rfl, .inl ⟨rfl,aF 10⟩,From.nil _,hown1,hB1,by rw[<-Hn.out];exact DivInv.start hy0,za0 _⟩
 case round=>
  obtain⟨j,R,q,rfl,hr,hfr,hown,hB,hinv,hjn⟩:=hrel;have Hinv:=zdC hinv;clear hinv;have Hr:=zdC hr;clear hr;have Hown:=zdC hown;clear hown;clear hown1 hB1;cases j with
  |zero=>
   go_wp2_with (go_at_call 256;refine(iX q (Hinv.out.digits (by decide)) _ _ Hown.out.rd).mono ?_;rintro e w1 ⟨v1,rfl,hr1,hf1,hb1⟩)
   go_ret2
   have e1:=Hinv.out.done (by decide);refine⟨_,_,rfl, ?_, ?_,hf1 _ Hown.out.from,hfr,hB.trans (hb1.mono hB.size)⟩
   ·rw[<-e1.1];exact hr1
   ·rw[<-e1.2];exact Hr.out.below hb1
  |succ j=>
   obtain⟨ba,oa,rfl,hba,hc1⟩:=Hca.out j (by rw[Hn.out];omega);have k1:=(hB.cell (p:=⟨ba,oa+j,none⟩) hba).trans hc1;obtain⟨d,ed⟩: ∃d,(ae 10 x)[j]'(by rw[Hn.out];omega)=d:=⟨_,rfl⟩;have hd:d<10:=by rw[<-ed];exact aK (by decide) x _ (zas _)
   rw[ed] at k1;have Ed:=zdC ed;clear hc1 ed;have hRy:R<y:=by obtain⟨_,_,_,_,_,h⟩:=Hinv.out;exact h
   have hRl:=aD (B:=10) (by decide) (zbt hRy);have hld: ∀z∈ [d]++ae 10 R,z<10:=by
    intro z hz;rcases za8.1 hz with h|h
    ·simp at h;omega
    ·exact aK (by decide) R z h
   have Hld:=zdC hld;clear hld;have hbs:=hB.size;go_wp2_with (first|(at_builtin;refine wF (enc:=am) (e:=3) rfl _ _ 40 rfl (.int .i64 0) 8 underlying40 gE rfl du rfl (OwnL.lit1 wr d rfl) rfl (Hr.out.below ((zdD _ _).alloc (za0 _) _)) (by simp;omega) (by decide) (by simp) ?_;intro v' w1 hown1 hB1)|(go_at_call 256;refine(iX ([d]++ae 10 R) Hld.out _ _ hown1.rd).mono ?_;rintro e w2 ⟨v2,rfl,hr2,hf2,hb2⟩));rw[Dt (by decide) hd] at hr2;have hb12:Below wr.heap.size wr w2:=(((zdD _ _).alloc (za0 _) _).trans hB1).trans (hb2.mono (by have:=hB1.size;simp at this;omega));have hownq:OwnL am 3 w2 w.heap.size (.slice (some ⟨w.heap.size,0,none⟩) n n) (q.set j 0):=by
    have e0:q.set j 0=q:=by
     have hjq:j<q.length:=by rw[Hinv.out.length,Hn.out];omega
     have e1:=Hinv.out.zero hjq;apply zbu (by simp);intro i h1 h2;rw[List.getElem_set];split
     ·rename_i e;subst e;exact e1.symm
     ·rfl
    rw[e0];exact Hown.out.belowTo hb12
   have hB2:Below w.heap.size w w2:=hB.trans (hb12.mono hB.size);have hql:q.length=n:=by rw[Hinv.out.length,Hn.out]
   have Hql:=zdC hql;clear hql;have hown1f:=hown1.from
   clear k1 hown1 hB1 hb2 hb12
   go_loopw [7] (λrv wr=>PB x y n w w.heap.size j d R q rv wr) (λrv wr=>wQ wr rv)
   case atStart=>exact⟨0,_,hr2,(hf2 _ hown1f).mono hB.size,hownq,hB2,by omega,by omega⟩
   case round=>
    obtain⟨t,R2,hr3,hfr3,hown3,hB3,hv3,ht⟩:=hrel;have Hv3:=zdC hv3;clear hv3;clear hr2 hownq hB2 hbs;have hR2l:(ae 10 R2).length<=(ae 10 y).length+1:=by
     have h1:=aD (B:=10) (by decide) (show R2<=d+10*R by have:=Hv3.out;omega);have h2:=nK (B:=10) (by decide) hd hRy;omega
    have hb3:=Hb.out.below (hB3.mono (za0 _));by_cases hge:y<=R2
    ·have hcmp:=yJ hge;have Ht:=zdC (Ep Hv3.out hge hd hRy);go_wp2_with (first|(go_at_call 248;refine(dN R2 y _ _ _ hr3 hb3).mono ?_;rintro e w4 ⟨rfl,hb4⟩)|(go_at_call 252;refine(gH R2 y hge _ _ _ (hr3.below hb4) (hb3.below hb4) (by omega)).mono ?_;rintro e w5 ⟨v5,rfl,hr5,hf5,hb5⟩;have k3:=((hown3.belowTo hb4).belowTo hb5).cell j (by rw[zci,Hql.out];omega);have k4:=((hown3.belowTo hb4).belowTo hb5).free j;rw[zcj] at k3));have ho5:=(hown3.belowTo hb4).belowTo hb5;have hB5:Below w.heap.size w w5:=(hB3.trans (hb4.mono hB3.size)).trans (hb5.mono (zac hB3.size hb4.size));have hr6:Rd am (w5.setCell ⟨w.heap.size,j,none⟩ (.int .i64 ((t:Int)+1))) v5 (ae 10 (R2 - y)):=hr5.setCell hf5 (by have:=hown3.row.2.2.1;have:=hb4.size;simp;omega) _
     go_roundw
     case rel=>
      refine⟨t+1,R2 - y,hr6,hf5.mono (zac hB3.size hb4.size), ?_,hB5.setCell (za0 _) _,G7 Hv3.out hge,by have:=Ht.out;omega⟩;have h7:=ho5.set j (by rw[zci,Hql.out];omega) (t+1) (u:= .int .i64 ((t:Int)+1)) (int_eq (by omega));rwa[List.set_set] at h7
     case measure=>rw[lU hr6,lU hr3];omega
    ·have hcmp:=yK (show R2<y by omega);go_wp2_with (go_at_call 248;refine(dN R2 y _ _ _ hr3 hb3).mono ?_;rintro e w4 ⟨rfl,hb4⟩)
     go_roundw
     case rel=>
      refine⟨j,R2,_,by go_num,hr3.below hb4,hfr3,hown3.belowTo hb4,hB3.trans (hb4.mono hB3.size),Hinv.out.step (by rw[Hn.out];omega) Ed.out Hv3.out (by omega) (by omega),by omega⟩
     case measure=>simp[intOf]
theorem G8:(prog.info? 5).map (λi=>(i.zero,i.size,i.bytes))=some (some (.int .u8 0),1,1):=by kernel_rfl
variable {v:Value}
theorem NS {ops:zdP} {rest:List Oper} {o:Oper} {a:Act} {Q:zdW} {l:List UInt8} (N:o.guard=none) (s x:Operand)
 (Z:o.op= .call {callee:= .builtin .append,args:= #[s,x],argTypes:= #[105,105]}) (hs:a.eval s=v) (J:OwnL uw 5 w B v l) (b:Nat) (c:Nat) (u:Value)
 (hx:a.eval x= .slice (some ⟨b,0,none⟩) 1 c) (Y:w.cell? ⟨b,0,none⟩=some u) (y:UInt8) (hu:u=uw y) (H:l.length+1<=1099511627776) (hB:B<=w.heap.size)
 (h: ∀V w',OwnL uw 5 w' B V (l++ [y])->Below B w w'->wpList prog ops Q rest (a.put o.dst V) w'):wpList prog ops Q (o::rest) a w:=
 kZ N s x 105 Z (.int .u8 0) 1 underlying105 G8 rfl GO hs J ⟨b,0,none⟩ c u hx Y y hu H (by decide) hB h
theorem G9 (w:World) {l:List UInt8} (h:Rd uw w v l):(Go.convert 105 9 v).run prog w= .ok (.string ⟨l.toArray⟩) w:=
 AA w 105 9 5 underlying105 underlying5 underlying9 h
def chr (d:Nat):UInt8:=UInt8.ofNat (48+d)
theorem KF {neg:Bool} (h:x≠0):ofI (sgn neg x)=⟨((if neg then [45] else [])++((ae 10 x).reverse.map chr)).toArray⟩:=by
 apply gT;rw[fY];have e:Lib.decDigits x=(ae 10 x).reverse.map chr:=by rw[aL,if_neg h];rfl
 cases neg with
 |true=>rw[sgn,if_pos rfl,kH (by omega),show (-(x:Int)).natAbs=x by omega,e];rfl
 |false=>rw[sgn,if_neg (by decide),dX (by omega),show ((x:Int)).natAbs=x by omega,e];rfl
theorem yL (l:zdI) (k:Nat) (h:k<l.length):(l.reverse.take (k+1)).map chr=(l.reverse.take k).map chr++ [chr (l[l.length - 1 - k])]:=by
 rw[zc1,zdi h,zaa (by omega)];simp
theorem dE (neg:Bool) (x:Nat) (v:Value) (w:World) (hv:Rd am w v (ae 10 x)) (hx:(ae 10 x).length<=1000):
 Calls prog 228 #[.bool neg,v] w λe w'=>e= .returned (.tuple #[.string (ofI (sgn neg x)), .bool (decide (x<BIG))])/\Below w.heap.size w w':=by
 by_cases h0:x=0
 ·subst h0;obtain⟨a,c,rfl,hc,hc2,hcell⟩:=hv.open';rw[aF] at hcell hc ⊢;simp only[za9] at hcell hc ⊢;have e1:ofI (sgn neg 0)=⟨#[48]⟩:=by cases neg<;>decide+kernel
  have e2:decide (0<BIG)=true:=by decide+kernel
  rw[e1,e2];clear hcell hv hx e1 e2;go_enter func228,ntmps228;go_wp2
  go_ret2
  exact⟨rfl,zdD _ _⟩
 ·obtain⟨a,c,rfl,hc,hc2,hcell⟩:=hv.open';have Hc:=zdC hcell;clear hcell;have hnil:ae 10 x≠ []:=λe=>h0 ((aZ (by decide)).1 e);have e3:=ai (B:=10) (by decide) x 200;obtain⟨n,hn⟩: ∃n,(ae 10 x).length=n:=⟨_,rfl⟩;have hn0:0<n:=by rw[<-hn];exact zbp.2 hnil
  have He:Hid (decide (x<BIG)=decide (n<=200)):=by
   show decide (x<BIG)=decide (n<=200);rw[<-hn];unfold BIG;rw[zdA];exact e3.symm
  have Hs:=zdC (KF (neg:=neg) h0);have Hn:=zdC hn;rw[hn] at hc hx ⊢;clear hn e3 hnil h0 hv;have hc0:((n:Int)==0)=false:=by rw[zdx];omega
  have key: ∀(pre:List UInt8) (v0:Value) (w0:World) (j:Nat),pre.length<=1->OwnL uw 5 w0 w.heap.size v0 (pre++((ae 10 x).reverse.take (n - j)).map chr)->(pre++((ae 10 x).reverse.take (n - j)).map chr).length<=2000:=by
   intro pre v0 w0 j h1 h2;rw[za3,zaB,zaE];omega
  have Hkey:=zdC key;clear key;cases neg
  ·go_enter func228,ntmps228;go_wp2
   go_loopw [6,7] (λout i wr=> ∃j:Nat,j<=n/\i= .int .i64 ((j:Int) - 1)/\OwnL uw 5 wr w.heap.size out (([]:List UInt8)++((ae 10 x).reverse.take (n - j)).map chr)/\Below w.heap.size w wr) (λ_ i _=>(intOf i+1).toNat)
   case atStart=>exact⟨n,za0 _,rfl,by rw[zaJ];exact OwnL.nil _ _,zdD _ _⟩
   case round=>
    obtain⟨j,hj,rfl,hown,hB⟩:=hrel;have hlen:=Hkey.out [] _ _ j (by decide) hown;cases j with
    |zero=>
     have hcv:=G9 wr hown.rd;rw[zaX,zaI (by rw[zc2,Hn.out];exact za0 _)] at hcv;rw[show (⟨(([]:List UInt8)++(ae 10 x).reverse.map chr).toArray⟩:zdH)=ofI (sgn false x) from Hs.out.symm] at hcv;go_wp2
     go_ret2
     exact⟨yy rfl (by rw[He.out];exact Cq (by omega)),hB⟩
    |succ m=>
     obtain⟨b,off,rfl,hb,hc1⟩:=Hc.out m (by rw[Hn.out];omega);have k1:=(hB.cell (p:=⟨b,off+m,none⟩) hb).trans hc1;obtain⟨d,ed⟩: ∃d,(ae 10 x)[m]'(by rw[Hn.out];omega)=d:=⟨_,rfl⟩;have hd:d<10:=by rw[<-ed];exact aK (by decide) x _ (zas _)
     rw[ed] at k1;have Ed:=zdC ed;clear hc1 ed;have hbs:=hB.size;go_wp2_with (at_builtin;refine NS rfl _ _ rfl rfl (hown.alloc _) wr.heap.size 1 _ rfl (aP _ _ _) (chr d) (int_eq (by simp[chr];omega)) (by omega) (by simp;omega) ?_;intro v' w1 hown1 hB1)
     go_roundw
     case rel=>
      refine⟨m,by omega,by go_num, ?_,((hB.alloc hB.size _).trans hB1)⟩;have e:=yL (ae 10 x) (n - (m+1)) (by rw[Hn.out];omega);rw[show n - (m+1)+1=n - m by omega] at e;rw[e,<-za5];simpa only[Hn.out,show n - 1 - (n - (m+1))=m by omega,Ed.out] using hown1
     case measure=>simp[intOf]
  ·go_enter func228,ntmps228;go_wp2_with (at_builtin;refine NS rfl _ _ rfl rfl ((OwnL.nil w w.heap.size).alloc _) w.heap.size 1 _ rfl (aP _ _ _) 45 (int_eq (by decide)) (by simp) (by simp) ?_;intro v0 w0 hown0 hB0)
   go_loopw [6,7] (λout i wr=> ∃j:Nat,j<=n/\i= .int .i64 ((j:Int) - 1)/\OwnL uw 5 wr w.heap.size out ([45]++((ae 10 x).reverse.take (n - j)).map chr)/\Below w.heap.size w wr) (λ_ i _=>(intOf i+1).toNat)
   case atStart=>exact⟨n,za0 _,rfl,by rw[zaJ];exact hown0,((zdD _ _).alloc (za0 _) _).trans hB0⟩
   case round=>
    obtain⟨j,hj,rfl,hown,hB⟩:=hrel;have hlen:=Hkey.out [45] _ _ j (by decide) hown;cases j with
    |zero=>
     have hcv:=G9 wr hown.rd;rw[zaX,zaI (by rw[zc2,Hn.out];exact za0 _)] at hcv;rw[show (⟨(([45]:List UInt8)++(ae 10 x).reverse.map chr).toArray⟩:zdH)=ofI (sgn true x) from Hs.out.symm] at hcv;go_wp2
     go_ret2
     exact⟨yy rfl (by rw[He.out];exact Cq (by omega)),hB⟩
    |succ m=>
     obtain⟨b,off,rfl,hb,hc1⟩:=Hc.out m (by rw[Hn.out];omega);have k1:=(hB.cell (p:=⟨b,off+m,none⟩) hb).trans hc1;obtain⟨d,ed⟩: ∃d,(ae 10 x)[m]'(by rw[Hn.out];omega)=d:=⟨_,rfl⟩;have hd:d<10:=by rw[<-ed];exact aK (by decide) x _ (zas _)
     rw[ed] at k1;have Ed:=zdC ed;clear hc1 ed;have hbs:=hB.size;go_wp2_with (at_builtin;refine NS rfl _ _ rfl rfl (hown.alloc _) wr.heap.size 1 _ rfl (aP _ _ _) (chr d) (int_eq (by simp[chr];omega)) (by omega) (by simp;omega) ?_;intro v' w1 hown1 hB1)
     go_roundw
     case rel=>
      refine⟨m,by omega,by go_num, ?_,((hB.alloc hB.size _).trans hB1)⟩;have e:=yL (ae 10 x) (n - (m+1)) (by rw[Hn.out];omega);rw[show n - (m+1)+1=n - m by omega] at e;rw[e,<-za5];simpa only[Hn.out,show n - 1 - (n - (m+1))=m by omega,Ed.out] using hown1
     case measure=>simp[intOf]
abbrev vSE (r:SE):Value:= .tuple #[.string r.1, .int .i64 r.2]
variable {n:Int}
theorem at7 (h:n.natAbs<BIG):chkI n=(ofI n,0):=by simp[chkI,h]
theorem KG (h: ¬n.natAbs<BIG):chkI n=(ByteArray.empty,30):=by simp[chkI,h]
theorem bU (neg:Bool) (x:Nat) (v:Value) (w:World) (hv:Rd am w v (ae 10 x)) (hx:(ae 10 x).length<=1000):
 Calls prog 250 #[.bool neg,v] w λe w'=>e= .returned (vSE (chkI (sgn neg x)))/\Below w.heap.size w w':=by
 by_cases h:x<BIG
 ·rw[at7 (by rw[cz];exact h)];have h2:decide (x<BIG)=true:=by simp[h]
  have Hc:=zdC (dE neg x v w hv hx);rw[h2] at Hc;clear h h2 hv hx;go_enter func250,ntmps250;go_wp2_with (go_at_call 228;refine Hc.out.mono ?_;rintro e w1 ⟨rfl,hb⟩)
  go_ret2
  exact⟨rfl,hb⟩
 ·rw[KG (by rw[cz];exact h)];have h2:decide (x<BIG)=false:=by simp[h]
  have Hc:=zdC (dE neg x v w hv hx);rw[h2] at Hc;clear h h2 hv hx;go_enter func250,ntmps250;go_wp2_with (go_at_call 228;refine Hc.out.mono ?_;rintro e w1 ⟨rfl,hb⟩)
  go_ret2
  exact⟨rfl,hb⟩
theorem fp (h:x<10^k):(ae 10 x).length<=k:=(ai (by decide) x k).2 h
theorem KH (h1:(ae 10 x).length<=200) (h2:(ae 10 y).length<=200):(ae 10 (x+y)).length<=1000:=by
 have h3:=(ai (B:=10) (by decide) x 200).1 h1;have h4:=(ai (B:=10) (by decide) y 200).1 h2;have h5:=fp (x:=x+y) (k:=201) (by rw[zaw];omega);omega
theorem yM (h1:(ae 10 x).length<=200):(ae 10 (x - y)).length<=1000:=by
 have:=aD (B:=10) (by decide) (Nat.sub_le x y);omega
theorem tg (x:Bool) (a:Nat) (va:Value) (y:Bool) (b:Nat) (vb:Value) (w:World) (ha:Rd am w va (ae 10 a)) (hb:Rd am w vb (ae 10 b)) (hx:(ae 10 a).length<=200) (hy:(ae 10 b).length<=200):
 Calls prog 253 #[.bool x,va, .bool y,vb] w λe w'=>e= .returned (vSE (chkI (sgn x a+sgn y b)))/\Below w.heap.size w w':=by
 have same: ∀z:Bool,x=z->y=z->Calls prog 253 #[.bool z,va, .bool z,vb] w λe w'=>e= .returned (vSE (chkI (sgn x a+sgn y b)))/\Below w.heap.size w w':=by
  rintro z rfl h;have e1:sgn x a+sgn y b=sgn x (a+b):=by rw[h];cases x<;>simp[sgn]<;>omega
  rw[e1];clear h e1;cases x
  all_goals
   go_enter func253,ntmps253;go_wp2_with (first|(go_at_call 251;refine(qq a b _ _ _ ha hb (by omega) (by omega)).mono ?_;rintro e w1 ⟨v1,rfl,hr1,hf1,hb1⟩)|(go_at_call 250;refine(bU _ _ _ _ hr1 (KH hx hy)).mono ?_;rintro e w2 ⟨rfl,hb2⟩))
   go_ret2
   exact⟨rfl,hb1.trans (hb2.mono hb1.size)⟩
 have other: ∀z u:Bool,x=z->y=u->z≠u->Calls prog 253 #[.bool z,va, .bool u,vb] w λe w'=>e= .returned (vSE (chkI (sgn x a+sgn y b)))/\Below w.heap.size w w':=by
  rintro z u rfl rfl hne;by_cases hge:b<=a
  ·have e1:sgn x a+sgn y b=sgn x (a - b):=by cases x<;>cases y<;>simp[sgn] at hne ⊢ <;>omega
   rw[e1];have hcmp:=yJ hge;clear e1;cases x<;>cases y<;>first|exact absurd rfl hne|skip
   all_goals
    clear hne;go_enter func253,ntmps253;go_wp2_with (first|(go_at_call 248;refine(dN a b _ _ _ ha hb).mono ?_;rintro e w0 ⟨rfl,hb0⟩)|(go_at_call 252;refine(gH a b hge _ _ _ (ha.below hb0) (hb.below hb0) (by omega)).mono ?_;rintro e w1 ⟨v1,rfl,hr1,hf1,hb1⟩)|(go_at_call 250;refine(bU _ _ _ _ hr1 (yM hx)).mono ?_;rintro e w2 ⟨rfl,hb2⟩))
    go_ret2
    exact⟨rfl,(hb0.trans (hb1.mono hb0.size)).trans (hb2.mono (zac hb0.size hb1.size))⟩
  ·have e1:sgn x a+sgn y b=sgn y (b - a):=by cases x<;>cases y<;>simp[sgn] at hne ⊢ <;>omega
   rw[e1];have hcmp:=yK (show a<b by omega);clear e1;cases x<;>cases y<;>first|exact absurd rfl hne|skip
   all_goals
    clear hne;go_enter func253,ntmps253;go_wp2_with (first|(go_at_call 248;refine(dN a b _ _ _ ha hb).mono ?_;rintro e w0 ⟨rfl,hb0⟩)|(go_at_call 252;refine(gH b a (by omega) _ _ _ (hb.below hb0) (ha.below hb0) (by omega)).mono ?_;rintro e w1 ⟨v1,rfl,hr1,hf1,hb1⟩)|(go_at_call 250;refine(bU _ _ _ _ hr1 (yM hy)).mono ?_;rintro e w2 ⟨rfl,hb2⟩))
    go_ret2
    exact⟨rfl,(hb0.trans (hb1.mono hb0.size)).trans (hb2.mono (zac hb0.size hb1.size))⟩
 by_cases h:x=y
 ·have:=same x rfl h.symm;rwa[<-h] at this ⊢
 ·exact other x y rfl rfl h
theorem aJ (s:zdH) (w:World) (H:vld s.data.toList=true):
 Calls prog 247 #[.string s] w λe w'=> ∃v,e= .returned (.tuple #[.bool (bf s.data.toList),v])/\Rd am w' v (ae 10 (nS s).natAbs)/\From w.heap.size v/\Below w.heap.size w w':=uA s w H
theorem AP (a b:zdH) (w:World) (hsa:a.size<=maxLen) (hsb:b.size<=maxLen):
 Calls prog 183 #[.string a, .string b] w λe w'=>e= .returned (vSE (jb a b))/\Below w.heap.size w w':=by
 by_cases ha:vS a=true
 ·have hva:vld a.data.toList=true:=ha;by_cases hb:vS b=true
  ·have hvb:vld b.data.toList=true:=hb;have e1:jb a b=chkI (sgn (bf a.data.toList) (nS a).natAbs+sgn (bf b.data.toList) (nS b).natAbs):=by
    rw[<-cD,<-cD];simp[jb,ha,hb]
   rw[e1];have hla:=aM (br ha);have hlb:=aM (br hb);clear e1 ha hb;go_enter func183,ntmps183;go_wp2_with (first|(go_at_call 177;refine(au _ _ (by assumption)).mono ?_;rintro e w0 ⟨rfl,rfl⟩)|(go_at_call 247;(with_reducible refine(aJ a _ hva).mono ?_);rintro e w1 ⟨v1,rfl,hr1,hf1,hb1⟩)|(go_at_call 247;(with_reducible refine(aJ b _ hvb).mono ?_);rintro e w2 ⟨v2,rfl,hr2,hf2,hb2⟩)|(go_at_call 253;refine(tg _ _ _ _ _ _ _ (hr1.below hb2) hr2 hla hlb).mono ?_;rintro e w3 ⟨rfl,hb3⟩))
   go_ret2
   exact⟨rfl,(hb1.trans (hb2.mono hb1.size)).trans (hb3.mono (zac hb1.size hb2.size))⟩
  ·have hvb:vld b.data.toList=false:=by simpa [vS] using hb
   have e1:jb a b=(ByteArray.empty,30):=by simp[jb,hb]
   rw[e1];clear e1 ha hb;go_enter func183,ntmps183;go_wp2_with (go_at_call 177;refine(au _ _ (by assumption)).mono ?_;rintro e w0 ⟨rfl,rfl⟩)
   go_ret2
   exact⟨rfl,zdD _ _⟩
 ·have hva:vld a.data.toList=false:=by simpa [vS] using ha
  have e1:jb a b=(ByteArray.empty,30):=by simp[jb,ha]
  rw[e1];clear e1 ha;go_enter func183,ntmps183;go_wp2_with (go_at_call 177;refine(au _ _ (by assumption)).mono ?_;rintro e w0 ⟨rfl,rfl⟩)
  go_ret2
  exact⟨rfl,zdD _ _⟩
theorem KI (x:Bool) (n:Nat):sgn (!x) n= -sgn x n:=by cases x<;>simp[sgn]
theorem AQ (a b:zdH) (w:World) (hsa:a.size<=maxLen) (hsb:b.size<=maxLen):
 Calls prog 184 #[.string a, .string b] w λe w'=>e= .returned (vSE (fA a b))/\Below w.heap.size w w':=by
 by_cases ha:vS a=true
 ·have hva:vld a.data.toList=true:=ha;by_cases hb:vS b=true
  ·have hvb:vld b.data.toList=true:=hb;have e1:fA a b=chkI (sgn (bf a.data.toList) (nS a).natAbs+sgn (!(bf b.data.toList)) (nS b).natAbs):=by
    rw[KI,<-cD,<-cD,<-Int.sub_eq_add_neg];simp[fA,ha,hb]
   rw[e1];have hla:=aM (br ha);have hlb:=aM (br hb);clear e1 ha hb;go_enter func184,ntmps184;go_wp2_with (first|(go_at_call 177;refine(au _ _ (by assumption)).mono ?_;rintro e w0 ⟨rfl,rfl⟩)|(go_at_call 247;(with_reducible refine(aJ a _ hva).mono ?_);rintro e w1 ⟨v1,rfl,hr1,hf1,hb1⟩)|(go_at_call 247;(with_reducible refine(aJ b _ hvb).mono ?_);rintro e w2 ⟨v2,rfl,hr2,hf2,hb2⟩)|(go_at_call 253;refine(tg _ _ _ _ _ _ _ (hr1.below hb2) hr2 hla hlb).mono ?_;rintro e w3 ⟨rfl,hb3⟩))
   go_ret2
   exact⟨rfl,(hb1.trans (hb2.mono hb1.size)).trans (hb3.mono (zac hb1.size hb2.size))⟩
  ·have hvb:vld b.data.toList=false:=by simpa [vS] using hb
   have e1:fA a b=(ByteArray.empty,30):=by simp[fA,hb]
   rw[e1];clear e1 ha hb;go_enter func184,ntmps184;go_wp2_with (go_at_call 177;refine(au _ _ (by assumption)).mono ?_;rintro e w0 ⟨rfl,rfl⟩)
   go_ret2
   exact⟨rfl,zdD _ _⟩
 ·have hva:vld a.data.toList=false:=by simpa [vS] using ha
  have e1:fA a b=(ByteArray.empty,30):=by simp[fA,ha]
  rw[e1];clear e1 ha;go_enter func184,ntmps184;go_wp2_with (go_at_call 177;refine(au _ _ (by assumption)).mono ?_;rintro e w0 ⟨rfl,rfl⟩)
  go_ret2
  exact⟨rfl,zdD _ _⟩
theorem Hh (x y:Bool) (m n:Nat):sgn (x !=y) (m*n)=sgn x m*sgn y n:=by cases x<;>cases y<;>simp[sgn,Int.neg_mul,zbM]
theorem KJ (h3:x<10^k) (h4:y<10^k):(ae 10 (x*y)).length<=k+k:=fp (by rw[zbw];exact zbN h3 h4)
theorem Hj (h1:(ae 10 x).length<=200) (h2:(ae 10 y).length<=200):(ae 10 (x*y)).length<=1000:=by
 have h3:=(ai (B:=10) (by decide) x 200).1 h1;have h4:=(ai (B:=10) (by decide) y 200).1 h2;have h5:=KJ h3 h4;omega
theorem AR (a b:zdH) (w:World) (hsa:a.size<=maxLen) (hsb:b.size<=maxLen):
 Calls prog 187 #[.string a, .string b] w λe w'=>e= .returned (vSE (bM a b))/\Below w.heap.size w w':=by
 by_cases ha:vS a=true
 ·have hva:vld a.data.toList=true:=ha;by_cases hb:vS b=true
  ·have hvb:vld b.data.toList=true:=hb;have e1:bM a b=chkI (sgn ((bf a.data.toList) !=(bf b.data.toList)) ((nS a).natAbs*(nS b).natAbs)):=by
    rw[Hh,<-cD,<-cD];simp[bM,ha,hb]
   rw[e1];have hla:=aM (br ha);have hlb:=aM (br hb);clear e1 ha hb;go_enter func187,ntmps187;go_wp2_with (first|(go_at_call 177;refine(au _ _ (by assumption)).mono ?_;rintro e w0 ⟨rfl,rfl⟩)|(go_at_call 247;(with_reducible refine(aJ a _ hva).mono ?_);rintro e w1 ⟨v1,rfl,hr1,hf1,hb1⟩)|(go_at_call 247;(with_reducible refine(aJ b _ hvb).mono ?_);rintro e w2 ⟨v2,rfl,hr2,hf2,hb2⟩)|(go_at_call 254;refine(wP _ _ _ _ _ (hr1.below hb2) hr2 (by omega) (by omega)).mono ?_;rintro e w3 ⟨v3,rfl,hr3,hf3,hb3⟩)|(go_at_call 250;refine(bU _ _ _ _ hr3 (Hj hla hlb)).mono ?_;rintro e w4 ⟨rfl,hb4⟩))
   go_ret2
   exact⟨rfl,((hb1.trans (hb2.mono hb1.size)).trans (hb3.mono (zac hb1.size hb2.size))).trans (hb4.mono (zac hb1.size (zac hb2.size hb3.size)))⟩
  ·have hvb:vld b.data.toList=false:=by simpa [vS] using hb
   have e1:bM a b=(ByteArray.empty,30):=by simp[bM,hb]
   rw[e1];clear e1 ha hb;go_enter func187,ntmps187;go_wp2_with (go_at_call 177;refine(au _ _ (by assumption)).mono ?_;rintro e w0 ⟨rfl,rfl⟩)
   go_ret2
   exact⟨rfl,zdD _ _⟩
 ·have hva:vld a.data.toList=false:=by simpa [vS] using ha
  have e1:bM a b=(ByteArray.empty,30):=by simp[bM,ha]
  rw[e1];clear e1 ha;go_enter func187,ntmps187;go_wp2_with (go_at_call 177;refine(au _ _ (by assumption)).mono ?_;rintro e w0 ⟨rfl,rfl⟩)
  go_ret2
  exact⟨rfl,zdD _ _⟩
theorem Cw {s:zdH} (h:vS s=true):bf s.data.toList=true↔nS s<0:=by
 have h1:=oW (nS s);rw[show Lib.itoa (nS s)=s.data.toList from ru h] at h1;simpa [bf] using h1
theorem adj {x y:Int} (H:x<0) (J:0<=y):VQ x y= -1/\VQ y x=1:=by
 unfold VQ;constructor
 ·rw[if_pos (by omega)]
 ·rw[if_neg (by omega),if_pos (by omega)]
theorem Q2 (a b:zdH) (w:World) (hva:vld a.data.toList=true) (hvb:vld b.data.toList=true) (hsa:a.size<=maxLen) (hsb:b.size<=maxLen) (hx:bf a.data.toList=true) (hy:bf b.data.toList=false):
 Calls prog 178 #[.string a, .string b] w λe w'=>e= .returned (.int .i64 (-1))/\Below w.heap.size w w':=by
 have hda:=aJ a;have hdb:=aJ b;rw[hx] at hda;rw[hy] at hdb;have Hda:=zdC hda;have Hdb:=zdC hdb;clear hda hdb hx hy;go_enter func178,ntmps178;go_wp2_with (first|(go_at_call 177;refine(au _ _ (by assumption)).mono ?_;rintro e w0 ⟨rfl,rfl⟩)|(go_at_call 247;(with_reducible refine(Hda.out _ hva).mono ?_);rintro e w1 ⟨v1,rfl,hr1,hf1,hb1⟩)|(go_at_call 247;(with_reducible refine(Hdb.out _ hvb).mono ?_);rintro e w2 ⟨v2,rfl,hr2,hf2,hb2⟩));go_ret;exact⟨rfl,hb1.trans (hb2.mono hb1.size)⟩
theorem lp (a b:zdH) (w:World) (hva:vld a.data.toList=true) (hvb:vld b.data.toList=true) (hsa:a.size<=maxLen) (hsb:b.size<=maxLen) (hx:bf a.data.toList=false) (hy:bf b.data.toList=true):
 Calls prog 178 #[.string a, .string b] w λe w'=>e= .returned (.int .i64 (1))/\Below w.heap.size w w':=by
 have hda:=aJ a;have hdb:=aJ b;rw[hx] at hda;rw[hy] at hdb;have Hda:=zdC hda;have Hdb:=zdC hdb;clear hda hdb hx hy;go_enter func178,ntmps178;go_wp2_with (first|(go_at_call 177;refine(au _ _ (by assumption)).mono ?_;rintro e w0 ⟨rfl,rfl⟩)|(go_at_call 247;(with_reducible refine(Hda.out _ hva).mono ?_);rintro e w1 ⟨v1,rfl,hr1,hf1,hb1⟩)|(go_at_call 247;(with_reducible refine(Hdb.out _ hvb).mono ?_);rintro e w2 ⟨v2,rfl,hr2,hf2,hb2⟩));go_ret;exact⟨rfl,hb1.trans (hb2.mono hb1.size)⟩
theorem mj (a b:zdH) (w:World) (hva:vld a.data.toList=true) (hvb:vld b.data.toList=true) (hsa:a.size<=maxLen) (hsb:b.size<=maxLen) (hx:bf a.data.toList=true) (hy:bf b.data.toList=true):
 Calls prog 178 #[.string a, .string b] w λe w'=>e= .returned (.int .i64 (dB (nS b).natAbs (nS a).natAbs))/\Below w.heap.size w w':=by
 have hda:=aJ a;have hdb:=aJ b;rw[hx] at hda;rw[hy] at hdb;have Hda:=zdC hda;have Hdb:=zdC hdb;clear hda hdb hx hy;go_enter func178,ntmps178;go_wp2_with (first|(go_at_call 177;refine(au _ _ (by assumption)).mono ?_;rintro e w0 ⟨rfl,rfl⟩)|(go_at_call 247;(with_reducible refine(Hda.out _ hva).mono ?_);rintro e w1 ⟨v1,rfl,hr1,hf1,hb1⟩)|(go_at_call 247;(with_reducible refine(Hdb.out _ hvb).mono ?_);rintro e w2 ⟨v2,rfl,hr2,hf2,hb2⟩)|(go_at_call 248;refine(dN _ _ _ _ _ hr2 (hr1.below hb2)).mono ?_;rintro e w3 ⟨rfl,hb3⟩));go_ret;exact⟨rfl,(hb1.trans (hb2.mono hb1.size)).trans (hb3.mono (zac hb1.size hb2.size))⟩
theorem ky (a b:zdH) (w:World) (hva:vld a.data.toList=true) (hvb:vld b.data.toList=true) (hsa:a.size<=maxLen) (hsb:b.size<=maxLen) (hx:bf a.data.toList=false) (hy:bf b.data.toList=false):
 Calls prog 178 #[.string a, .string b] w λe w'=>e= .returned (.int .i64 (dB (nS a).natAbs (nS b).natAbs))/\Below w.heap.size w w':=by
 have hda:=aJ a;have hdb:=aJ b;rw[hx] at hda;rw[hy] at hdb;have Hda:=zdC hda;have Hdb:=zdC hdb;clear hda hdb hx hy;go_enter func178,ntmps178;go_wp2_with (first|(go_at_call 177;refine(au _ _ (by assumption)).mono ?_;rintro e w0 ⟨rfl,rfl⟩)|(go_at_call 247;(with_reducible refine(Hda.out _ hva).mono ?_);rintro e w1 ⟨v1,rfl,hr1,hf1,hb1⟩)|(go_at_call 247;(with_reducible refine(Hdb.out _ hvb).mono ?_);rintro e w2 ⟨v2,rfl,hr2,hf2,hb2⟩)|(go_at_call 248;refine(dN _ _ _ _ _ (hr1.below hb2) hr2).mono ?_;rintro e w3 ⟨rfl,hb3⟩));go_ret;exact⟨rfl,(hb1.trans (hb2.mono hb1.size)).trans (hb3.mono (zac hb1.size hb2.size))⟩
theorem Yv (a b:zdH) (w:World) (hsa:a.size<=maxLen) (hsb:b.size<=maxLen):
 Calls prog 178 #[.string a, .string b] w λe w'=>e= .returned (.int .i64 (dw a b))/\Below w.heap.size w w':=by
 by_cases ha:vS a=true
 ·have hva:vld a.data.toList=true:=ha;by_cases hb:vS b=true
  ·have hvb:vld b.data.toList=true:=hb;have e1:dw a b=VQ (nS a) (nS b):=by simp[dw,ha,hb]
   rw[e1];have hna:=Cw ha;have hnb:=Cw hb;have e2: ∃r,VQ (nS a) (nS b)=r/\(bf a.data.toList=true->bf b.data.toList=false->r= -1)/\(bf a.data.toList=false->bf b.data.toList=true->r=1)/\
    (bf a.data.toList=true->bf b.data.toList=true->r=dB (nS b).natAbs (nS a).natAbs)/\(bf a.data.toList=false->bf b.data.toList=false->r=dB (nS a).natAbs (nS b).natAbs):=by
    refine⟨_,rfl, ?_, ?_, ?_, ?_⟩
    ·intro h1 h2;have: ¬nS b<0:=λh=>by rw[hnb.2 h] at h2;cases h2
     exact(adj (hna.1 h1) (by omega)).1
    ·intro h1 h2;have: ¬nS a<0:=λh=>by rw[hna.2 h] at h1;cases h1
     exact(adj (hnb.1 h2) (by omega)).2
    ·intro h1 h2;rw[<-pW];have:=hna.1 h1;have:=hnb.1 h2
     congr 1<;>omega
    ·intro h1 h2;have: ¬nS b<0:=λh=>by rw[hnb.2 h] at h2;cases h2
     have: ¬nS a<0:=λh=>by rw[hna.2 h] at h1;cases h1
     rw[<-iM]
     congr 1<;>omega
   obtain⟨r,hr,g1,g2,g3,g4⟩:=e2;rw[hr];clear e1 ha hb hr hna hnb;cases hx:bf a.data.toList<;>cases hy:bf b.data.toList
   ·rw[g4 hx hy];exact ky a b w hva hvb hsa hsb hx hy
   ·rw[g2 hx hy];exact lp a b w hva hvb hsa hsb hx hy
   ·rw[g1 hx hy];exact Q2 a b w hva hvb hsa hsb hx hy
   ·rw[g3 hx hy];exact mj a b w hva hvb hsa hsb hx hy
  ·have hvb:vld b.data.toList=false:=by simpa [vS] using hb
   have e1:dw a b=0:=by simp[dw,hb]
   rw[e1];clear e1 ha hb;go_enter func178,ntmps178;go_wp2_with (go_at_call 177;refine(au _ _ (by assumption)).mono ?_;rintro e w0 ⟨rfl,rfl⟩);go_ret;exact⟨rfl,zdD _ _⟩
 ·have hva:vld a.data.toList=false:=by simpa [vS] using ha
  have e1:dw a b=0:=by simp[dw,ha]
  rw[e1];clear e1 ha;go_enter func178,ntmps178;go_wp2_with (go_at_call 177;refine(au _ _ (by assumption)).mono ?_;rintro e w0 ⟨rfl,rfl⟩);go_ret;exact⟨rfl,zdD _ _⟩
theorem iY (x y:Nat) (J:0<y) (N V:Value) (w:World) (Z:Rd am w N (ae 10 x)) (hb:Rd am w V (ae 10 y)) (hx:(ae 10 x).length<=900) (hy:(ae 10 y).length<=900):
 Calls prog 249 #[N,V] w λe w'=> ∃H Y c2,e= .returned (.tuple #[H, .slice Y (ae 10 (x%y)).length c2])/\Rd am w' H (ae 10 (x / y))/\Rd am w' (.slice Y (ae 10 (x%y)).length c2) (ae 10 (x%y))/\Below w.heap.size w w':=by
 refine(tf x y J N V w Z hb hx hy).mono ?_;rintro e w' ⟨H,v2,rfl,h1,h2,_,_,h3⟩;obtain⟨a,c,rfl,_⟩:=h2.open';exact⟨H,a,c,rfl,h1,h2,h3⟩
theorem yN:ae 10 1= [1]:=gW (by decide) (by decide) (by decide)
variable {b:zdH}
theorem lV (h:vS b=true):(b.toList== [48])=decide (nS b=0):=by
 rw[cL];by_cases h0:nS b=0
 ·have:b.data.toList= [48]:=by
   have:=ru h;rw[show toI b.data.toList=0 from h0] at this;rw[<-this];decide+kernel
  simp[this,h0]
 ·have:b.data.toList≠ [48]:=by
   intro e;apply h0;unfold nS;rw[e];decide
  simp[this,h0]
theorem lW (H:x<BIG):x / y<BIG:=zaS (zaN x y) H
theorem lq (J:x<BIG) (H:x%y≠0):x / y+1<BIG:=by
 have h1:=kJ;have h2:=zcM x y;have h3:=zaN x y;have h6:=zX;generalize BIG=K at*
 by_cases h4:x / y=0
 ·omega
 ·by_cases h5:y<=1
  ·have:x%y=0\/y=0:=by
    rcases(show y=0\/y=1 by omega) with rfl|rfl
    ·exact .inr rfl
    ·exact .inl (zch x)
   rcases this with h|rfl
   ·exact absurd h H
   ·simp at h4
  ·have:2*(x / y)<=y*(x / y):=zbm _ (by omega);omega
theorem qO (a b:zdH) (w:World) (ha:vS a=true) (hb:vS b=true) (hb0:nS b≠0) (hx:bf a.data.toList=false):
 Calls prog 180 #[.string a, .string b] w λe w'=>e= .returned (.tuple #[.string (ofI (sgn (bf b.data.toList) ((nS a).natAbs / (nS b).natAbs))), .string (ofI ((((nS a).natAbs%(nS b).natAbs:Nat):Int))), .int .i64 0])/\Below w.heap.size w w':=by
 have hn0:0<(nS b).natAbs:=by omega
 have hva:vld a.data.toList=true:=ha;have hvb:vld b.data.toList=true:=hb;have hsa:a.size<=maxLen:=zac (dp ha) (by decide);have hsb:b.size<=maxLen:=zac (dp hb) (by decide);have hla:=aM (br ha);have hlb:=aM (br hb);have hz:(b.toList== [48])=false:=by rw[lV hb];simp[hb0]
 have hlr:=aD (B:=10) (by decide) (zbt (zar (nS a).natAbs hn0));have hmn:=zar (nS a).natAbs hn0;have hlr2:=aD (B:=10) (by decide) (show ((nS a).natAbs%(nS b).natAbs)<=(nS b).natAbs by omega);have hlq:=aD (B:=10) (by decide) (zaN (nS a).natAbs (nS b).natAbs);have hlq2:=aM (lW (y:=(nS b).natAbs) (br ha));have HQ:=zdC (at7 (n:=sgn (bf b.data.toList) ((nS a).natAbs / (nS b).natAbs)) (by rw[cz];exact(lW (br ha))));have hda:=aJ a;rw[hx] at hda;have Hda:=zdC hda;have Hmn:=zdC hmn;clear hda hx ha hb hb0;go_enter func180,ntmps180
 go_wp2_with (first
  |(go_at_call 177;refine(au _ _ (by assumption)).mono ?_;rintro e w0 ⟨rfl,rfl⟩)
  |(go_at_call 247;(with_reducible refine(Hda.out _ hva).mono ?_);rintro e w1 ⟨v1,rfl,hr1,hf1,hb1⟩)
  |(go_at_call 247;(with_reducible refine(aJ b _ hvb).mono ?_);rintro e w2 ⟨v2,rfl,hr2,hf2,hb2⟩)
  |(go_at_call 249;refine(iY _ _ hn0 _ _ _ (hr1.below hb2) hr2 (by omega) (by omega)).mono ?_;rintro e w3 ⟨v3,a3,c3,rfl,hq3,hr3,hb3⟩)
  |(go_at_call 250;refine(bU _ _ _ _ hq3 (by omega)).mono ?_;rw[HQ.out];rintro e w6 ⟨rfl,hb6⟩)
  |(go_at_call 228;refine(dE false _ _ _ (hr3.below hb6) (by omega)).mono ?_;rintro e w7 ⟨rfl,hb7⟩))
 go_ret3
 have s1:=hb1.size;have s2:=hb2.size;have s3:=hb3.size;have s6:=hb6.size;exact⟨rfl,((((hb1.trans (hb2.mono hb1.size)).trans (hb3.mono (by omega))).trans (hb6.mono (by omega))).trans (hb7.mono (by omega)))⟩
theorem qP (a b:zdH) (w:World) (ha:vS a=true) (hb:vS b=true) (hb0:nS b≠0) (hx:bf a.data.toList=true) (hr0:(nS a).natAbs%(nS b).natAbs=0):
 Calls prog 180 #[.string a, .string b] w λe w'=>e= .returned (.tuple #[.string (ofI (sgn (!bf b.data.toList) ((nS a).natAbs / (nS b).natAbs))), .string (ofI ((((nS a).natAbs%(nS b).natAbs:Nat):Int))), .int .i64 0])/\Below w.heap.size w w':=by
 have hn0:0<(nS b).natAbs:=by omega
 have hva:vld a.data.toList=true:=ha;have hvb:vld b.data.toList=true:=hb;have hsa:a.size<=maxLen:=zac (dp ha) (by decide);have hsb:b.size<=maxLen:=zac (dp hb) (by decide);have hla:=aM (br ha);have hlb:=aM (br hb);have hz:(b.toList== [48])=false:=by rw[lV hb];simp[hb0]
 have hlr:=aD (B:=10) (by decide) (zbt (zar (nS a).natAbs hn0));have hmn:=zar (nS a).natAbs hn0;have hlr2:=aD (B:=10) (by decide) (show ((nS a).natAbs%(nS b).natAbs)<=(nS b).natAbs by omega);have hlq:=aD (B:=10) (by decide) (zaN (nS a).natAbs (nS b).natAbs);have hlq2:=aM (lW (y:=(nS b).natAbs) (br ha));have HQ:=zdC (at7 (n:=sgn (!bf b.data.toList) ((nS a).natAbs / (nS b).natAbs)) (by rw[cz];exact(lW (br ha))));have hl0:(ae 10 ((nS a).natAbs%(nS b).natAbs)).length<=0:=by rw[hr0,aF];simp
 have hda:=aJ a;rw[hx] at hda;have Hda:=zdC hda;have Hmn:=zdC hmn;clear hda hx ha hb hb0 hr0;go_enter func180,ntmps180
 go_wp2_with (first
  |(go_at_call 177;refine(au _ _ (by assumption)).mono ?_;rintro e w0 ⟨rfl,rfl⟩)
  |(go_at_call 247;(with_reducible refine(Hda.out _ hva).mono ?_);rintro e w1 ⟨v1,rfl,hr1,hf1,hb1⟩)
  |(go_at_call 247;(with_reducible refine(aJ b _ hvb).mono ?_);rintro e w2 ⟨v2,rfl,hr2,hf2,hb2⟩)
  |(go_at_call 249;refine(iY _ _ hn0 _ _ _ (hr1.below hb2) hr2 (by omega) (by omega)).mono ?_;rintro e w3 ⟨v3,a3,c3,rfl,hq3,hr3,hb3⟩)
  |(go_at_call 250;refine(bU _ _ _ _ hq3 (by omega)).mono ?_;rw[HQ.out];rintro e w6 ⟨rfl,hb6⟩)
  |(go_at_call 228;refine(dE false _ _ _ (hr3.below hb6) (by omega)).mono ?_;rintro e w7 ⟨rfl,hb7⟩))
 go_ret3
 have s1:=hb1.size;have s2:=hb2.size;have s3:=hb3.size;have s6:=hb6.size;exact⟨rfl,((((hb1.trans (hb2.mono hb1.size)).trans (hb3.mono (by omega))).trans (hb6.mono (by omega))).trans (hb7.mono (by omega)))⟩
theorem tj (a b:zdH) (w:World) (ha:vS a=true) (hb:vS b=true) (hb0:nS b≠0) (hx:bf a.data.toList=true) (hr0:(nS a).natAbs%(nS b).natAbs≠0):
 Calls prog 180 #[.string a, .string b] w λe w'=>e= .returned (.tuple #[.string (ofI (sgn (!bf b.data.toList) ((nS a).natAbs / (nS b).natAbs+1))), .string (ofI ((((nS b).natAbs - (nS a).natAbs%(nS b).natAbs:Nat):Int))), .int .i64 0])/\Below w.heap.size w w':=by
 have hn0:0<(nS b).natAbs:=by omega
 have hva:vld a.data.toList=true:=ha;have hvb:vld b.data.toList=true:=hb;have hsa:a.size<=maxLen:=zac (dp ha) (by decide);have hsb:b.size<=maxLen:=zac (dp hb) (by decide);have hla:=aM (br ha);have hlb:=aM (br hb);have hz:(b.toList== [48])=false:=by rw[lV hb];simp[hb0]
 have hlr:=aD (B:=10) (by decide) (zbt (zar (nS a).natAbs hn0));have hmn:=zar (nS a).natAbs hn0;have hlr2:=aD (B:=10) (by decide) (show ((nS b).natAbs - (nS a).natAbs%(nS b).natAbs)<=(nS b).natAbs by omega);have hlq:=aD (B:=10) (by decide) (zaN (nS a).natAbs (nS b).natAbs);have hlq2:=aM (lq (br ha) hr0);have HQ:=zdC (at7 (n:=sgn (!bf b.data.toList) ((nS a).natAbs / (nS b).natAbs+1)) (by rw[cz];exact(lq (br ha) hr0)));have hl0:0<(ae 10 ((nS a).natAbs%(nS b).natAbs)).length:=zbp.2 (λe=>hr0 ((aZ (by decide)).1 e));have hda:=aJ a;rw[hx] at hda;have Hda:=zdC hda;have Hmn:=zdC hmn;clear hda hx ha hb hb0 hr0;go_enter func180,ntmps180
 go_wp2_with (first
  |(go_at_call 177;refine(au _ _ (by assumption)).mono ?_;rintro e w0 ⟨rfl,rfl⟩)
  |(go_at_call 247;(with_reducible refine(Hda.out _ hva).mono ?_);rintro e w1 ⟨v1,rfl,hr1,hf1,hb1⟩)
  |(go_at_call 247;(with_reducible refine(aJ b _ hvb).mono ?_);rintro e w2 ⟨v2,rfl,hr2,hf2,hb2⟩)
  |(go_at_call 249;refine(iY _ _ hn0 _ _ _ (hr1.below hb2) hr2 (by omega) (by omega)).mono ?_;rintro e w3 ⟨v3,a3,c3,rfl,hq3,hr3,hb3⟩)
  |(go_at_call 251;refine(qq _ 1 _ _ _ (hq3.below ((zdD _ _).alloc (za0 _) _)) (by rw[yN];exact(OwnL.lit1 (e:=3) w3 1 rfl).rd) (by omega) (by rw[yN];decide)).mono ?_;rintro e w4 ⟨v4,rfl,hq4,hf4,hb4⟩;have hb34:Below w3.heap.size w3 w4:=((zdD _ _).alloc (za0 _) _).trans (hb4.mono (by simp)))
  |(go_at_call 252;refine(gH _ _ (by omega) _ _ _ ((hr2.below hb3).below hb34) (hr3.below hb34) (by omega)).mono ?_;rintro e w5 ⟨v5,rfl,hr5,hf5,hb5⟩)
  |(go_at_call 250;refine(bU _ _ _ _ (hq4.below hb5) (by omega)).mono ?_;rw[HQ.out];rintro e w6 ⟨rfl,hb6⟩)
  |(go_at_call 228;refine(dE false _ _ _ (hr5.below hb6) (by omega)).mono ?_;rintro e w7 ⟨rfl,hb7⟩))
 go_ret3
 have s1:=hb1.size;have s2:=hb2.size;have s3:=hb3.size;have s4:=hb34.size;have s5:=hb5.size;have s6:=hb6.size;exact⟨rfl,((((((hb1.trans (hb2.mono hb1.size)).trans (hb3.mono (by omega))).trans (hb34.mono (by omega))).trans (hb5.mono (by omega))).trans (hb6.mono (by omega))).trans (hb7.mono (by omega)))⟩
abbrev QF (r:ByteArray×ByteArray×Int):Value:= .tuple #[.string r.1, .string r.2.1, .int .i64 r.2.2]
variable {a:zdH}
theorem wR (h:vS a=false\/vS b=false\/nS b=0):dY a b=(ByteArray.empty,ByteArray.empty,30):=by
 unfold dY;rcases h with h|h|h<;>simp[h]
theorem Ho (H:vS a=true) (J:vS b=true) (h:nS b≠0):dY a b=(ofI (nS a / nS b),ofI (nS a%nS b),0):=by simp[dY,H,J,h]
theorem AT (a b:zdH) (w:World) (hsa:a.size<=maxLen) (hsb:b.size<=maxLen):
 Calls prog 180 #[.string a, .string b] w λe w'=>e= .returned (QF (dY a b))/\Below w.heap.size w w':=by
 by_cases ha:vS a=true
 ·by_cases hb:vS b=true
  ·by_cases h0:nS b=0
   ·rw[wR (.inr (.inr h0))];have hva:vld a.data.toList=true:=ha;have hvb:vld b.data.toList=true:=hb;have hz:(b.toList== [48])=true:=by rw[lV hb];simp[h0]
    clear ha hb h0;go_enter func180,ntmps180;go_wp2_with (go_at_call 177;refine(au _ _ (by assumption)).mono ?_;rintro e w0 ⟨rfl,rfl⟩)
    go_ret3
    exact⟨rfl,zdD _ _⟩
   ·rw[Ho ha hb h0];have hn0:0<(nS b).natAbs:=by omega
    have eb:=cD b;have ea:=cD a;cases hx:bf a.data.toList
    ·rw[hx] at ea;have h:=dZ (nS a).natAbs (bf b.data.toList) (nS b).natAbs;rw[<-eb,show ((nS a).natAbs:Int)=nS a by rw[ea];simp[sgn]] at h;rw[h.1,h.2];exact qO a b w ha hb h0 hx
    ·rw[hx] at ea;have h:=cH (x:=(nS a).natAbs) hn0 (bf b.data.toList);rw[<-eb,show -((nS a).natAbs:Int)=nS a by rw[ea];simp[sgn]] at h;rw[h.1,h.2];by_cases hr:(nS a).natAbs%(nS b).natAbs=0
     ·have:=qP a b w ha hb h0 hx hr;rw[hr] at this;rw[if_pos hr,if_pos hr];exact this
     ·rw[if_neg hr,if_neg hr];exact tj a b w ha hb h0 hx hr
  ·rw[wR (.inr (.inl (by simpa using hb)))];have hva:vld a.data.toList=true:=ha;have hvb:vld b.data.toList=false:=by simpa [vS] using hb
   clear ha hb;go_enter func180,ntmps180;go_wp2_with (go_at_call 177;refine(au _ _ (by assumption)).mono ?_;rintro e w0 ⟨rfl,rfl⟩)
   go_ret3
   exact⟨rfl,zdD _ _⟩
 ·rw[wR (.inl (by simpa using ha))];have hva:vld a.data.toList=false:=by simpa [vS] using ha
  clear ha;go_enter func180,ntmps180;go_wp2_with (go_at_call 177;refine(au _ _ (by assumption)).mono ?_;rintro e w0 ⟨rfl,rfl⟩)
  go_ret3
  exact⟨rfl,zdD _ _⟩
def NT (g:Nat) (w:World) (J H:Value) (wr:World):Prop:=
 ∃(x y:Nat) (a:Option Addr) (c:Nat),H= .slice a (ae 10 y).length c/\Rd am wr J (ae 10 x)/\Rd am wr H (ae 10 y)/\Below w.heap.size w wr/\Nat.gcd x y=g/\(ae 10 x).length<=200/\(ae 10 y).length<=200
theorem AU (H:x<BIG) (J:y<BIG):Nat.gcd x y<BIG:=by
 by_cases h:x=0
 ·subst h;simpa using J
 ·exact zaS (Nat.gcd_le_left y (by omega)) H
theorem Hu (H:vS a=true) (J:vS b=true):cM a b=(ofI (sgn false (Nat.gcd (nS a).natAbs (nS b).natAbs)),0):=by simp[cM,H,J,sgn,Int.gcd]
theorem Cx (h:vS a=false\/vS b=false):cM a b=(ByteArray.empty,30):=by
 unfold cM;rcases h with h|h<;>simp[h]
theorem AV (a b:zdH) (w:World) (hsa:a.size<=maxLen) (hsb:b.size<=maxLen):
 Calls prog 179 #[.string a, .string b] w λe w'=>e= .returned (vSE (cM a b))/\Below w.heap.size w w':=by
 by_cases ha:vS a=true
 ·by_cases hb:vS b=true
  ·rw[Hu ha hb];have hva:vld a.data.toList=true:=ha;have hvb:vld b.data.toList=true:=hb;have hla:=aM (br ha);have hlb:=aM (br hb);have HG:=zdC (AU (br ha) (br hb));clear ha hb;obtain⟨g,hg⟩: ∃g,Nat.gcd (nS a).natAbs (nS b).natAbs=g:=⟨_,rfl⟩;rw[hg] at HG ⊢;have Hg:=zdC hg;clear hg;go_enter func179,ntmps179
   go_wp2_with (first
    |(go_at_call 177;refine(au _ _ (by assumption)).mono ?_;rintro e w0 ⟨rfl,rfl⟩)
    |(go_at_call 247;(with_reducible refine(aJ a _ hva).mono ?_);rintro e w1 ⟨v1,rfl,hr1,hf1,hb1⟩)
    |(go_at_call 247;(with_reducible refine(aJ b _ hvb).mono ?_);rintro e w2 ⟨v2,rfl,hr2,hf2,hb2⟩))
   go_loopw [7,9] (λkv lv wr=>NT g w kv lv wr) (λ_ lv wr=>wQ wr lv)
   case atStart=>
    obtain⟨a2,c2,e2,_⟩:=hr2.open';exact⟨_,_,a2,c2,e2,hr1.below hb2,hr2,hb1.trans (hb2.mono hb1.size),Hg.out,hla,hlb⟩
   case round=>
    obtain⟨x,y,ad,cp,rfl,hrx,hry,hB,hgg,hlx,hly⟩:=hrel;have Hgg:=zdC hgg;clear hgg;clear hr1 hr2 hf1 hf2 hb1 hb2;by_cases hy0:y=0
    ·subst hy0;have hl0:(ae 10 0).length<=0:=by rw[aF];simp
     have e1:g=x:=by rw[<-Hgg.out];simp
     subst e1;have HQ:=zdC (at7 (n:=sgn false g) (by rw[cz];exact HG.out));go_wp2_with (go_at_call 250;refine(bU false _ _ _ hrx (by omega)).mono ?_;rw[HQ.out];rintro e w6 ⟨rfl,hb6⟩)
     go_ret2
     exact⟨rfl,hB.trans (hb6.mono hB.size)⟩
    ·have hl0:0<(ae 10 y).length:=zbp.2 (λe=>hy0 ((aZ (by decide)).1 e));go_wp2_with (go_at_call 249;refine(iY x y (by omega) _ _ _ hrx hry (by omega) (by omega)).mono ?_;rintro e w3 ⟨v3,a3,c3,rfl,hq3,hr3,hb3⟩)
     go_roundw
     case rel=>exact⟨y,x%y,_,_,rfl,hry.below hb3,hr3,hB.trans (hb3.mono hB.size),by rw[<-Hgg.out,zbL x y,Nat.gcd_rec y x,zbL],hly,zac (aD (by decide) (zbt (zar x (by omega)))) hly⟩
     case measure=>rw[lU hr3,lU hry];exact zar x (by omega)
  ·rw[Cx (.inr (by simpa using hb))];have hva:vld a.data.toList=true:=ha;have hvb:vld b.data.toList=false:=by simpa [vS] using hb
   clear ha hb;go_enter func179,ntmps179;go_wp2_with (go_at_call 177;refine(au _ _ (by assumption)).mono ?_;rintro e w0 ⟨rfl,rfl⟩)
   go_ret2
   exact⟨rfl,zdD _ _⟩
 ·rw[Cx (.inl (by simpa using ha))];have hva:vld a.data.toList=false:=by simpa [vS] using ha
  clear ha;go_enter func179,ntmps179;go_wp2_with (go_at_call 177;refine(au _ _ (by assumption)).mono ?_;rintro e w0 ⟨rfl,rfl⟩)
  go_ret2
  exact⟨rfl,zdD _ _⟩
def Cy (n:Nat) (neg:Bool) (w:World) (out H:Value) (wr:World):Prop:=
 ∃(m:Nat) (l:zdI),H= .int .i64 (sgn neg m)/\OwnL am 3 wr w.heap.size out l/\Below w.heap.size w wr/\l++ae 10 m=ae 10 n/\m<=n
variable {m:Nat}
theorem j7 {n:Nat} (h:l++ae 10 m=ae 10 n) (h0:m≠0):(l++ [m%10])++ae 10 (m / 10)=ae 10 n:=by
 rw[za5,<-h,fe (n:=m) (by decide) h0];rfl
theorem qr {n:Nat} (h:l++ae 10 m=ae 10 n) (H:(ae 10 n).length<=20):l.length<=20:=by
 have:=congrArg List.length h;rw[za3] at this;omega
theorem tk (n:Nat) (w:World) (h2:n<=9223372036854775807):
 Calls prog 157 #[.int .i64 (n:Int)] w λe w'=>e= .returned (.string (ofI n))/\Below w.heap.size w w':=by
 have hln:(ae 10 n).length<=20:=fp (by omega);have hB0:=kJ;go_enter func157,ntmps157;go_wp2
 go_loopw [3,4] (λout mv wr=>Cy n false w out mv wr) (λ_ mv _=>(intOf mv).natAbs)
 case atStart=>exact⟨n, [],rfl,OwnL.nil _ _,zdD _ _,rfl,za0 _⟩
 case round=>
  obtain⟨m,l,rfl,hown,hB,hl,hmn⟩:=hrel;have Hl:=zdC hl;clear hl;have hll:=qr Hl.out hln;have hbs:=hB.size;rw[show sgn false m=(m:Int) from rfl];by_cases h0:m=0
  ·subst h0;have e1:=Hl.out;rw[aF,zbf] at e1;subst e1;go_wp2_with (go_at_call 228;refine(dE false n _ _ hown.rd (by omega)).mono ?_;rintro e w6 ⟨rfl,hb6⟩);go_ret;exact⟨rfl,hB.trans (hb6.mono hB.size)⟩
  ·have c1:((m:Int) !=0)=true:=by rw[zdB];omega
   go_wp2_with (at_builtin;refine py rfl _ _ rfl rfl (hown.alloc _) wr.heap.size 1 _ rfl (aP _ _ _) (m%10) (int_eq (by omega)) (by omega) (by simp;omega) ?_;intro v' w1 hown1 hB1)
   go_roundw
   case rel=>exact⟨m / 10,_,int_eq (by simp only[sgn];simp),hown1,(hB.alloc hB.size _).trans hB1,j7 Hl.out h0,by omega⟩
   case measure=>simp[intOf];omega
theorem tn (n:Nat) (w:World) (h1:0<n) (h2:n<=9223372036854775808):
 Calls prog 157 #[.int .i64 (-(n:Int))] w λe w'=>e= .returned (.string (ofI (-(n:Int))))/\Below w.heap.size w w':=by
 have hln:(ae 10 n).length<=20:=fp (by omega);go_enter func157,ntmps157;go_wp2
 go_loopw [3,4] (λout mv wr=>Cy n true w out mv wr) (λ_ mv _=>(intOf mv).natAbs)
 case atStart=>exact⟨n, [],rfl,OwnL.nil _ _,zdD _ _,rfl,za0 _⟩
 case round=>
  obtain⟨m,l,rfl,hown,hB,hl,hmn⟩:=hrel;have Hl:=zdC hl;clear hl;have hll:=qr Hl.out hln;have hbs:=hB.size;rw[show sgn true m= -(m:Int) from rfl];by_cases h0:m=0
  ·subst h0;have e1:=Hl.out;rw[aF,zbf] at e1;subst e1;go_wp2_with (go_at_call 228;refine(dE true n _ _ hown.rd (by omega)).mono ?_;rintro e w6 ⟨rfl,hb6⟩);go_ret;exact⟨rfl,hB.trans (hb6.mono hB.size)⟩
  ·have c1:(-(m:Int) !=0)=true:=by rw[zdB];omega
   obtain⟨md,hmd⟩: ∃md,m%10=md:=⟨_,rfl⟩;obtain⟨mq,hmq⟩: ∃mq,m / 10=mq:=⟨_,rfl⟩;have t1:(-(m:Int)).tmod 10= -(md:Int):=by rw[Int.neg_tmod,<-hmd];congr 1
   have t2:(-(m:Int)).tdiv 10= -(mq:Int):=by rw[Int.neg_tdiv,<-hmq];congr 1
   have hmd9:md<=9:=by omega
   have hmq9:mq<=m:=by omega
   have hmq0:mq<m:=by omega
   have Hmd:=zdC hmd;have Hmq:=zdC hmq;clear hmd hmq;have hm0:0<m:=by omega
   by_cases hz:md=0
   ·subst hz;go_wp2_with (at_builtin;refine py rfl _ _ rfl rfl (hown.alloc _) wr.heap.size 1 _ rfl (aP _ _ _) (m%10) (int_eq (by rw[Hmd.out];rfl)) (by omega) (by simp;omega) ?_;intro v' w1 hown1 hB1)
    go_roundw
    case rel=>exact⟨m / 10,_,int_eq (by rw[Hmq.out];rfl),hown1,(hB.alloc hB.size _).trans hB1,j7 Hl.out h0,by omega⟩
    case measure=>simp[intOf];omega
   ·have c2: -(md:Int)<0:=by omega
    go_wp2_with (at_builtin;refine py rfl _ _ rfl rfl (hown.alloc _) wr.heap.size 1 _ rfl (aP _ _ _) (m%10) (int_eq (by rw[Hmd.out])) (by omega) (by simp;omega) ?_;intro v' w1 hown1 hB1)
    go_roundw
    case rel=>exact⟨m / 10,_,int_eq (by rw[Hmq.out];rfl),hown1,(hB.alloc hB.size _).trans hB1,j7 Hl.out h0,by omega⟩
    case measure=>simp[intOf];omega
theorem av7 (n:Int) (w:World) (h1: -9223372036854775808<=n) (h2:n<=9223372036854775807):
 Calls prog 157 #[.int .i64 n] w λe w'=>e= .returned (.string (ofI n))/\Below w.heap.size w w':=by
 by_cases h:n<0
 ·have:=tn n.natAbs w (by omega) (by omega);rwa[show -(n.natAbs:Int)=n by omega] at this
 ·have:=tk n.natAbs w (by omega);rwa[show (n.natAbs:Int)=n by omega] at this
end Go.Proofs.YtojcellmcbnmeaaGreatDoor
namespace Go.Proofs.YtojcellmcbnmeaaGreatDoor
open Go.Proofs.Tryz
open Go Go.RowKit Go.Sy Yk
def GlobU (w:World):Prop:=
 Glob w/\(∃ev,w.cell? ⟨2,0,none⟩=some ev/\(ev= .nilIface\/ ∃te H,ev= .iface te H))/\ ∃ev,w.cell? ⟨3,0,none⟩=some ev/\(ev= .nilIface\/ ∃te H,ev= .iface te H)
theorem GlobU.below {w w':World} (h:GlobU w) (H:Below w.heap.size w w'):GlobU w':=by
 obtain⟨h1,⟨ev,h2,h3⟩,⟨J,h4,h5⟩⟩:=h;refine⟨h1.below H,⟨ev, ?_,h3⟩,⟨J, ?_,h5⟩⟩
 ·rw[H.cell (p:=⟨2,0,none⟩) (World.block_lt_of_cell? w _ h2)];exact h2
 ·rw[H.cell (p:=⟨3,0,none⟩) (World.block_lt_of_cell? w _ h4)];exact h4
variable {n:Int}
theorem V4:cl n=true↔ -9223372036854775808<=n/\n<=9223372036854775807:=Wl
structure GOk (g:List (FuncId×Ctr)):Prop where
 all: ∀W,GlobU W-> ∀p∈g,CtrOK prog W p.1 p.2/\V0 prog p.1
theorem GOk.nil:GOk []:=⟨λ_ _ _ h=>by cases h⟩
variable {g:List (FuncId×Ctr)} {F:FuncId}
theorem GOk.cons {c:Ctr} (h:GOk g) (k: ∀W,GlobU W->CtrOK prog W F c) (J:V0 prog F):GOk ((F,c)::g):=⟨λW H p hp=>by
 rcases zai.1 hp with rfl|hp
 ·exact⟨k W H,J⟩
 ·exact h.all W H p hp⟩
abbrev noA:zdV:=λ_ _=>none
theorem NU:SV.idss []= []:=by simp[SV.idss]
variable {α:Type}
theorem m8 {A:Cod α} {a:α}:SV.idss [A.enc a]= []:=by simp[SV.idss,A.ids]
variable {β:Type}
theorem de {A:Cod α} {B:Cod β} {a:α} {b:β}:SV.idss [A.enc a,B.enc b]= []:=by simp[SV.idss,A.ids,B.ids]
theorem AW {γ:Type} {A:Cod α} {B:Cod β} {C:Cod γ} {a:α} {b:β} {c:γ}:SV.idss [A.enc a,B.enc b,C.enc c]= []:=by simp[SV.idss,A.ids,B.ids,C.ids]
def MY:SV->Option (ByteArray×ByteArray×Int)
 | .tup [.val (.string a), .val (.string b), .val (.int .i64 c)]=>some (a,b,c)
 |_=>none
def cT3:Cod (ByteArray×ByteArray×Int) where
 dec:=MY
 enc r:= .tup [.val (.string r.1), .val (.string r.2.1), .val (.int .i64 r.2.2)]
 ok s a h:=by
  unfold MY at h;split at h
  ·simp at h;rw[<-h]
  ·cases h
 ids _:=by simp[SV.ids,SV.idss]
abbrev cSI:Cod (ByteArray×Int):=cP cS cI
def uz2 (a b:zdH):Bool:=uz a&&uz b
theorem Xi {a b:zdH}:uz2 a b=true↔a.size<=maxLen/\b.size<=maxLen:=by simp[uz2,uz]
def mZ:List (FuncId×Ctr):= [(132,k1 cS cB uz vS),(133,k2 cS cS cI uz2 dw),(100,k2 cS cS cSI uz2 jb),(137,k2 cS cS cSI uz2 fA),(169,k2 cS cS cSI uz2 bM),(134,k2 cS cS cSI uz2 cM),(163,k2 cS cS cT3 uz2 dY),(142,k1 cI cS cl ofI)]
theorem WR:GOk mZ:=by
 have Y: ∀{W w:World},GlobU W->Below W.heap.size W w->Glob w:=λh H=>h.1.below H;have S: ∀{a:zdH},uz a=true->a.size<=maxLen:=λh=>zdu h
 refine(((((((GOk.nil.cons (λW J=>dD λn h β w H=> ?_) call142).cons (λW J=>bC λa b h β w H=> ?_) call163).cons (λW J=>bC λa b h β w H=> ?_) call134).cons (λW J=>bC λa b h β w H=> ?_) call169).cons
  (λW J=>bC λa b h β w H=> ?_) call137).cons (λW J=>bC λa b h β w H=> ?_) call100).cons (λW J=>bC λa b h β w H=> ?_) call133).cons (λW J=>dD λa h β w H=> ?_) call132
 ·exact yG n (V4.1 h).1 (V4.1 h).2 w (Y J H)
 ·exact ip a b w (Y J H) (Xi.1 h).1 (Xi.1 h).2
 ·exact AM a b w (Y J H) (Xi.1 h).1 (Xi.1 h).2
 ·exact AL a b w (Y J H) (Xi.1 h).1 (Xi.1 h).2
 ·exact AK a b w (Y J H) (Xi.1 h).1 (Xi.1 h).2
 ·exact AJ a b w (Y J H) (Xi.1 h).1 (Xi.1 h).2
 ·exact avV a b w (Xi.1 h).1 (Xi.1 h).2
 ·exact wK a w (S h)
def KL:List (FuncId×Ctr):=
 (183,k2 cS cS cSI uz2 jb)::
 [(177,k1 cS cB uz vS),(178,k2 cS cS cI uz2 dw),(184,k2 cS cS cSI uz2 fA),(187,k2 cS cS cSI uz2 bM),(179,k2 cS cS cSI uz2 cM),(180,k2 cS cS cT3 uz2 dY),(157,k1 cI cS cl ofI)]
theorem WK:GOk KL:=by
 refine((((((GOk.nil.cons (λW H=>dD λn h β w J=> ?_) call157).cons (λW H=>bC λa b h β w J=> ?_) call180).cons (λW H=>bC λa b h β w J=> ?_) call179).cons (λW H=>bC λa b h β w J=> ?_) call187).cons
  (λW H=>bC λa b h β w J=> ?_) call184).cons (λW H=>bC λa b h β w J=> ?_) call178).cons (λW H=>dD λa h β w J=> ?_) call177
  |>.cons (λW H=>bC λa b h β w J=> ?_) call183
 ·exact av7 n w (V4.1 h).1 (V4.1 h).2
 ·exact AT a b w (Xi.1 h).1 (Xi.1 h).2
 ·exact AV a b w (Xi.1 h).1 (Xi.1 h).2
 ·exact AR a b w (Xi.1 h).1 (Xi.1 h).2
 ·exact AQ a b w (Xi.1 h).1 (Xi.1 h).2
 ·exact Yv a b w (Xi.1 h).1 (Xi.1 h).2
 ·refine(au a w (zdu h)).mono λe w' ⟨h1,h2⟩=> ?_;subst h2;exact⟨h1,zdD _ _⟩
 ·exact AP a b w (Xi.1 h).1 (Xi.1 h).2
def NV:List FuncId:= [209,139,210,268,138,140,136,102,66,58,59,60,61,84,56,108,118,79,185,186,109,181
 ,182
 ,111
 ,113
 ]
theorem KM: ∀f∈NV,V0 prog f:=by
 simp only[NV,zc3,zck]
 exact⟨call209,call139,call210,call268,call138,call140,call136,call102,call66,call58,call59,call60,call61,call84,call56,call108,call118,call79,call185,call186,call109,call181
 ,call182
 ,call111
 ,call113
 ,λ_ h=>by cases h⟩
abbrev dU (g:List (FuncId×Ctr)) (ann:zdV) (n:Nat) (f:FuncId) (args:zdK) (K:zdR):Prop:=wq prog (iR NV) (gw g) (gx []) ann n f args (λ_=>none) 0 [] (Go.Sy.okK λr _ _ _=>K r)
theorem GOk.yieldsN {W0:World} (h:GOk g) (hg:GlobU W0) {ann:zdV} {n:Nat} {args:zdK} {r:SV} (J:SV.idss args= []) (V:r.ids= []) (H:dU g ann n F args λs=>s=r):Go.Sy.Yields prog W0 F args r:=
 cr (λW N=>mW (h.all W (hg.below N)) (λ_ _ _ h=>by cases h) KM (by kernel_rfl)) J V H
def GlobB (B:Base):Prop:= ∀w,Pres B w->GlobU w
theorem GlobB.sub {B W:Base} (h:GlobB W) (s:SubB B W):GlobB B:=λw H=>h w (s.pres H)
variable {W:World}
theorem GlobB.of (h:GlobU W):GlobB W:=λw H=>h.below H.below
theorem ac {b:Bool} {K:Prop} (h:b=true) (k:K):af b K:=by rw[h];exact k
theorem ce {b:Bool} {p q:Prop} (h1:b=true->p) (h2:b=false->q):ag b p q:=by cases b;exact h2 rfl;exact h1 rfl
abbrev s0:zdH:=⟨#[48]⟩
abbrev s1:zdH:=⟨#[49]⟩
abbrev cRE:Cod (RS×Int):=cP cR cI
variable {s:zdH}
theorem Xq (h:vS s=true):s.size<=maxLen:=by have:=dp h;unfold maxLen;omega
theorem bO (h:vS s=true):uz s=true:=zdp (Xq h)
theorem aX {a b:zdH} (h:uz a=true) (k:uz b=true):uz2 a b=true:=by unfold uz2;rw[h,k];rfl
theorem Hw:uz ByteArray.empty=true:=by decide
theorem pB (n:Int):uz (chkI n).1=true:=by
 unfold chkI;split
 ·rename_i h;exact bO (gj h)
 ·exact Hw
theorem Cz (a b:zdH):uz (bM a b).1=true:=by unfold bM;split;exact pB _;exact Hw
theorem ahw {a b:Int} (H:a.natAbs<BIG) (J:b.natAbs<BIG):(Int.gcd a b)<BIG:=by
 rcases zbK a.natAbs with h|h
 ·show Nat.gcd a.natAbs b.natAbs<BIG;rw[h,Nat.gcd_zero_left];exact J
 ·exact zaS (Nat.le_of_dvd h (Nat.gcd_dvd_left _ _)) H
variable {x y:zdH}
theorem AX (J:vS x=true) (N:vS y=true) (h:0<nS y):vS (cM x y).1=true/\(cM x y).2=0/\(dY x (cM x y).1).2.2=0/\(dY y (cM x y).1).2.2=0/\((dY x (cM x y).1).1,(dY y (cM x y).1).1)=rT (Rat.divInt (nS x) (nS y)):=by
 have hg:cM x y=(ofI (Int.gcd (nS x) (nS y)),0):=by unfold cM;rw[if_pos (by simp[J,N])]
 have hv:vS (ofI (Int.gcd (nS x) (nS y):Int))=true:=gj (by rw[zc0];exact ahw (br J) (br N));have h0:(Int.gcd (nS x) (nS y):Int)≠0:=by
  have:=zc4 (nS x) (show nS y≠0 by omega);omega
 have H: ∀z:zdH,vS z=true->dY z (ofI (Int.gcd (nS x) (nS y)))=(ofI (nS z / Int.gcd (nS x) (nS y)),ofI (nS z%Int.gcd (nS x) (nS y)),0):=λz Y=>by
  unfold dY;rw[if_pos (by simp only[Y,hv,aI,za2,zdt];exact⟨⟨trivial,trivial⟩,h0⟩),aI]
 rw[hg];refine⟨hv,rfl,by rw[H x J],by rw[H y N], ?_⟩;obtain⟨e1,V⟩:=kK (n:=nS x) h;rw[H x J,H y N];show (ofI _,ofI _)=(ofI _,ofI _);rw[e1,V]
variable {d:zdH}
theorem ahx (h:vS d=true):dw d s0=VQ (nS d) 0:=by
 unfold dw;rw[if_pos (by rw[h];rfl),show nS s0=0 from by decide]
theorem m6 (h:vS d=true):seq d s0=decide (nS d=0):=by
 rw[zax,We,zdt];refine⟨λe=>by rw[e];decide,λe=> ?_⟩;rw[<-jc h,e];exact jc (s:=s0) (by decide)
theorem NW (h:vS d=true):seq d s1=decide (nS d=1):=by
 rw[zax,We,zdt];refine⟨λe=>by rw[e];decide,λe=> ?_⟩;rw[<-jc h,e];exact jc (s:=s1) (by decide)
def vF (a:RS):Bool:=bif (bif (bif !vS a.1 then true else !vS a.2) then true else decide (dw a.2 s0<=0)) then false else(bif (cM a.1 a.2).2==0 then seq (cM a.1 a.2).1 s1 else false)
theorem PC (a:RS):vF a=rV a:=by
 unfold vF rV;cases h1:vS a.1 with
 |false=>rfl
 |true=>
  cases h2:vS a.2 with
  |false=>rfl
  |true=>
   rw[ahx h2];show (bif decide (VQ (nS a.2) 0<=0) then false else _)=(true&&decide (0<nS a.2)&&_);by_cases h:0<nS a.2
   ·have c:VQ (nS a.2) 0=1:=by unfold VQ;rw[if_neg (by omega),if_pos h]
    have g:cM a.1 a.2=(ofI (Int.gcd (nS a.1) (nS a.2)),0):=by unfold cM;rw[if_pos (by simp[h1,h2])]
    rw[c,zdp h,NW (AX h1 h2 h).1,g];show decide (nS (ofI _)=1)=(true&&decide _);rw[aI,zb6,zax,zdt,zdt];omega
   ·have c:VQ (nS a.2) 0<=0:=by unfold VQ;split<;>(try split)<;>omega
    rw[zdp c,zds h];rfl
def v4T (a:RS) (K:zdR):Prop:=
 af (uz a.1) (af (uz a.2) (af (dC (!(bif !vS a.1 then true else !vS a.2)) (uz2 a.2 s0)) (ag (bif (bif !vS a.1 then true else !vS a.2) then true else decide (dw a.2 s0<=0)) (K (cB.enc false)) (af (uz2 a.1 a.2) (K (cB.enc (bif (cM a.1 a.2).2==0 then seq (cM a.1 a.2).1 s1 else false)))))))
theorem PD (a:RS) (K:zdR):dU KL noA 6 108 [cR.enc a] K=v4T a K:=by kernel_rfl
theorem fU {g n:Bool} (h:n=true):dC g n=true:=by rw[h];rfl
variable {a:RS} {K:zdR}
theorem Yw (H:uzR a=true) (k:K (cB.enc (rV a))):ag (bif (bif !vS a.1 then true else !vS a.2) then true else decide (dw a.2 s0<=0)) (K (cB.enc false)) (af (uz2 a.1 a.2) (K (cB.enc (bif (cM a.1 a.2).2==0 then seq (cM a.1 a.2).1 s1 else false)))):=by
 rw[<-PC] at k;unfold vF at k;refine ce (λh=> ?_) (λh=>ac H ?_)
 ·rw[h] at k;exact k
 ·rw[h] at k;exact k
theorem HC (H:uzR a=true) (k:K (cB.enc (rV a))):v4T a K:=by
 have h1:uz a.1=true/\uz a.2=true:=by simpa [uzR] using H
 exact ac h1.1 (ac h1.2 (ac (fU (aX h1.2 (by decide))) (Yw H k)))
def gJ1:List (FuncId×Ctr):=(108,k1 cR cB uzR rV)::KL
theorem WF:GOk gJ1:=WK.cons (λW H=>dD λa h=>WK.yieldsN (ann:=noA) (n:=6) H m8 (cB.ids _) (by rw[PD];exact HC (K:=λr=>r=_) h rfl)) call108
def uD:SV:=cRE.enc (VI,40)
def KQ (x y:zdH) (K:zdR):Prop:=
 af (uz2 x y) (af (uz2 x (cM x y).1) (af (uz2 y (cM x y).1) (ag (bif (dY x (cM x y).1).2.2 !=0 then true else(dY y (cM x y).1).2.2 !=0) (K uD) (K (cRE.enc (((dY x (cM x y).1).1,(dY y (cM x y).1).1),0))))))
def m4T (n d:zdH) (K:zdR):Prop:=
 af (uz n) (af (uz d) (ag (bif (bif !vS n then true else !vS d) then true else seq d s0) (K uD) (af (uz2 d s0) (ag (decide (dw d s0<0))
  (af (uz2 s0 n) (af (uz2 s0 d) (KQ (fA s0 n).1 (fA s0 d).1 K))) (KQ n d K)))))
theorem PE (n d:zdH) (K:zdR):dU gJ1 noA 8 118 [cS.enc n,cS.enc d] K=m4T n d K:=by kernel_rfl
theorem adk (H:vS x=true) (J:vS y=true) (h:0<nS y) (k:K (cRE.enc (rT (Rat.divInt (nS x) (nS y)),0))):KQ x y K:=by
 obtain⟨N,l2,V,Y,Z⟩:=AX H J h;unfold KQ;refine ac (aX (bO H) (bO J)) (ac (aX (bO H) (bO N)) (ac (aX (bO J) (bO N)) (ce (λb=> ?_) (λb=> ?_))))
 ·rw[V,Y] at b;cases b
 ·rw[Z];exact k
theorem HD {n:zdH} (h:vS n=true):(fA s0 n).1=ofI (-nS n)/\(fA s0 n).2=0/\vS (ofI (-nS n))=true:=by
 have H:(0 - nS n).natAbs<BIG:=by have:=br h;omega
 have e:fA s0 n=(ofI (-nS n),0):=by
  unfold fA chkI;rw[if_pos (by rw[h];rfl),show nS s0=0 from by decide,if_pos H,zcN]
 exact⟨by rw[e],by rw[e],gj (by omega)⟩
theorem HE {n:zdH} (N:uz n=true) (J:uz d=true) (k:K (cRE.enc (gX n d))):m4T n d K:=by
 unfold gX at k;refine ac N (ac J (ce (λh=> ?_) (λh=> ?_)))
 ·rw[if_neg ?_] at k
  ·exact k
  ·intro H;simp only[za2,zdt] at H;rw[H.1.1,H.1.2,m6 H.1.2,zds H.2] at h;cases h
 ·have h1:vS n=true:=by cases e:vS n;rw[e] at h;cases h;rfl
  have h2:vS d=true:=by cases e:vS d;rw[h1,e] at h;cases h;rfl
  have h3:nS d≠0:=by
   rw[h1,h2,m6 h2] at h;exact zdv h
  rw[if_pos (by simp[h1,h2,h3])] at k;refine ac (aX J (by decide)) (ce (λc=> ?_) (λc=> ?_))
  ·rw[ahx h2] at c;have c:nS d<0:=by
    have:=zdu c;unfold VQ at this;split at this
    ·assumption
    ·split at this<;>omega
   obtain⟨V,_,Y⟩:=HD h1;obtain⟨Z,_,b3⟩:=HD h2;refine ac (aX (by decide) N) (ac (aX (by decide) J) ?_);rw[V,Z];refine adk Y b3 (by rw[aI];omega) ?_;rw[aI,aI,Rat.neg_divInt_neg];exact k
  ·rw[ahx h2] at c;have c:0<nS d:=by
    have:=zdv c;unfold VQ at this;split at this<;>omega
   exact adk h1 h2 c k
def gJ2:List (FuncId×Ctr):=(118,k2 cS cS cRE uz2 gX)::gJ1
theorem WA:GOk gJ2:=WF.cons (λW H=>bC λa b h=>WF.yieldsN (ann:=noA) (n:=8) H de (cRE.ids _) (by
 rw[PE];have h:uz a=true/\uz b=true:=by simpa [uz2] using h
 exact HE (K:=λr=>r=_) h.1 h.2 rfl)) call118
theorem PF (a b:Int) (K:zdR):dU gJ2 noA 8 79 [cI.enc a,cI.enc b] K=af (cl a) (af (cl b) (af (uz2 (ofI a) (ofI b)) (K (cRE.enc (gX (ofI a) (ofI b)))))):=by kernel_rfl
def x4T (a b:RS) (p q r s:zdH) (K:zdR):Prop:=
 af (uzR a) (af (uzR b) (ag (bif !rV a then true else !rV b) (K uD) (af (uz2 p q) (af (uz2 r s) (ag (bif (bM p q).2 !=0 then true else(bM r s).2 !=0) (K uD) (af (uz2 (bM p q).1 (bM r s).1) (K (cRE.enc (gX (bM p q).1 (bM r s).1)))))))))
theorem PG (a b:RS) (K:zdR):dU gJ2 noA 8 185 [cR.enc a,cR.enc b] K=x4T a b a.1 b.1 a.2 b.2 K:=by kernel_rfl
theorem PH (a b:RS) (K:zdR):dU gJ2 noA 8 186 [cR.enc a,cR.enc b] K=x4T a b a.1 b.2 a.2 b.1 K:=by kernel_rfl
def c4T (a b:RS) (f:ByteArray->ByteArray->SE) (K:zdR):Prop:=
 af (uzR a) (af (uzR b) (ag (bif !rV a then true else !rV b) (K uD) (af (uz2 a.1 b.2) (af (uz2 b.1 a.2) (af (uz2 a.2 b.2) (ag (!(bif (bif (bM a.1 b.2).2==0 then(bM b.1 a.2).2==0 else false) then(bM a.2 b.2).2==0 else false)) (K uD)
  (af (uz2 (bM a.1 b.2).1 (bM b.1 a.2).1) (ag ((f (bM a.1 b.2).1 (bM b.1 a.2).1).2 !=0) (K uD) (af (uz2 (f (bM a.1 b.2).1 (bM b.1 a.2).1).1 (bM a.2 b.2).1) (K (cRE.enc (gX (f (bM a.1 b.2).1 (bM b.1 a.2).1).1 (bM a.2 b.2).1))))))))))))
theorem PI (a b:RS) (K:zdR):dU gJ2 noA 8 111 [cR.enc a,cR.enc b] K=c4T a b jb K:=by kernel_rfl
theorem PJ (a b:RS) (K:zdR):dU gJ2 noA 8 113 [cR.enc a,cR.enc b] K=c4T a b fA K:=by kernel_rfl
theorem eG (n:Int):((chkI n).2 !=0)= !aq n:=by
 unfold chkI aq;by_cases h:n.natAbs<BIG
 ·rw[if_pos h,zdp h];rfl
 ·rw[if_neg h,zds h];rfl
theorem iZ (h:aq n=true):(chkI n).1=ofI n:=by unfold chkI;rw[if_pos (V1.1 h)]
theorem dg {a b:zdH} (H:vS a=true) (J:vS b=true):bM a b=chkI (nS a*nS b):=by unfold bM;rw[if_pos (by simp[H,J])]
theorem tw {a b:zdH} (H:vS a=true) (J:vS b=true):jb a b=chkI (nS a+nS b):=by unfold jb;rw[if_pos (by simp[H,J])]
theorem tz {a b:zdH} (H:vS a=true) (J:vS b=true):fA a b=chkI (nS a - nS b):=by unfold fA;rw[if_pos (by simp[H,J])]
theorem dG (h:aq n=true):vS (ofI n)=true:=gj (V1.1 h)
theorem iq (h:uzR a=true):uz a.1=true/\uz a.2=true:=by simpa [uzR] using h
theorem acI {d:Int} (h:aq n=false):rMk n d=(noR,40):=by unfold rMk;rw[if_neg (by simp[h])]
theorem q7 {d:Int} (h:aq d=false):rMk n d=(noR,40):=by unfold rMk;rw[if_neg (by simp[h])]
def xF (a b:RS) (p q r s:zdH):RS×Int:=bif rV a&&rV b then rMk (nS p*nS q) (nS r*nS s) else(noR,40)
theorem HH (a b:RS):xF a b a.1 b.1 a.2 b.2=ale a b:=by unfold xF ale;cases rV a&&rV b<;>rfl
theorem HP (a b:RS):xF a b a.1 b.2 a.2 b.1=cA a b:=by unfold xF cA;cases rV a&&rV b<;>rfl
variable {b:RS} {p q r:zdH}
theorem yO (N:uzR a=true) (V:uzR b=true) (H:uz p=true/\uz q=true/\uz r=true/\uz s=true) (hv:rV a=true->rV b=true->vS p=true/\vS q=true/\vS r=true/\vS s=true) (k:K (cRE.enc (xF a b p q r s))):x4T a b p q r s K:=by
 unfold xF at k;refine ac N (ac V (ce (λh=> ?_) (λh=> ?_)))
 ·have:(rV a&&rV b)=false:=by revert h;cases rV a<;>cases rV b<;>simp
  rw[this] at k;exact k
 ·have h:rV a=true/\rV b=true:=by revert h;cases rV a<;>cases rV b<;>simp
  obtain⟨Y,Z,v3,v4⟩:=hv h.1 h.2;rw[h.1,h.2] at k;have k:K (cRE.enc (rMk (nS p*nS q) (nS r*nS s))):=k;refine ac (aX H.1 H.2.1) (ac (aX H.2.2.1 H.2.2.2) ?_);rw[dg Y Z,dg v3 v4,eG,eG];cases s1:aq (nS p*nS q) with
  |false=>
   rw[acI s1] at k;exact ce (λ_=>k) (λc=>by cases c)
  |true=>
   cases J:aq (nS r*nS s) with
   |false=>
    rw[q7 J] at k;exact ce (λ_=>k) (λc=>by cases c)
   |true=>
    refine ce (λc=>by cases c) (λ_=>ac (aX (pB _) (pB _)) ?_);rw[iZ s1,iZ J,gM];exact k
def sF (F:Int->Int->Int) (a b:RS):RS×Int:=bif rV a&&rV b&&aq (nS a.1*nS b.2)&&aq (nS b.1*nS a.2) then rMk (F (nS a.1*nS b.2) (nS b.1*nS a.2)) (nS a.2*nS b.2) else(noR,40)
theorem HT (a b:RS):sF (λx y=>x+y) a b=fZ a b:=by unfold sF fZ;cases rV a&&rV b&&aq (nS a.1*nS b.2)&&aq (nS b.1*nS a.2)<;>rfl
theorem HW (a b:RS):sF (λx y=>x - y) a b=iF a b:=by unfold sF iF;cases rV a&&rV b&&aq (nS a.1*nS b.2)&&aq (nS b.1*nS a.2)<;>rfl
variable {f:ByteArray->ByteArray->SE}
theorem yP {F:Int->Int->Int} (hf: ∀{x y:zdH},vS x=true->vS y=true->f x y=chkI (F (nS x) (nS y))) (Y:uzR a=true) (Z:uzR b=true) (k:K (cRE.enc (sF F a b))):c4T a b f K:=by
 unfold sF at k;have N:=iq Y;have V:=iq Z;refine ac Y (ac Z (ce (λh=> ?_) (λh=> ?_)))
 ·have:(rV a&&rV b)=false:=by revert h;cases rV a<;>cases rV b<;>simp
  rw[this] at k;exact k
 ·have h:rV a=true/\rV b=true:=by revert h;cases rV a<;>cases rV b<;>simp
  obtain⟨v1,v2,v3,_⟩:=ay h.1;obtain⟨w1,w2,w3,_⟩:=ay h.2;rw[h.1,h.2] at k;refine ac (aX N.1 V.2) (ac (aX V.1 N.2) (ac (aX N.2 V.2) ?_));have e: ∀x:SE,(x.2==0)= !(x.2 !=0):=λx=>by simp[bne]
  rw[dg v1 w2,dg w1 v2,dg v2 w2,e,e,e,eG,eG,eG];simp only[Bool.not_not];cases s1:aq (nS a.1*nS b.2) with
  |false=>rw[s1] at k;exact ce (λ_=>k) (λc=>by cases c)
  |true=>
  cases H:aq (nS b.1*nS a.2) with
  |false=>rw[s1,H] at k;exact ce (λ_=>k) (λc=>by cases c)
  |true=>
  rw[s1,H] at k;have k:K (cRE.enc (rMk (F (nS a.1*nS b.2) (nS b.1*nS a.2)) (nS a.2*nS b.2))):=k;cases J:aq (nS a.2*nS b.2) with
  |false=>rw[q7 J] at k;exact ce (λ_=>k) (λc=>by cases c)
  |true=>
  refine ce (λc=>by cases c) (λ_=>ac (aX (pB _) (pB _)) ?_);rw[iZ s1,iZ H,iZ J,hf (dG s1) (dG H),aI,aI,eG];cases s4:aq (F (nS a.1*nS b.2) (nS b.1*nS a.2)) with
  |false=>rw[acI s4] at k;exact ce (λ_=>k) (λc=>by cases c)
  |true=>
  refine ce (λc=>by cases c) (λ_=>ac (aX (pB _) (bO (dG J))) ?_);rw[iZ s4,gM];exact k
def rvT (a:RS) (K:zdR):Prop:=
 af (uz a.1) (af (dC (!!vS a.1) (uz a.2)) (af (dC (!(bif !vS a.1 then true else !vS a.2)) (uz2 a.2 s0)) (ag (bif (bif !vS a.1 then true else !vS a.2) then true else decide (dw a.2 s0<=0)) (K (cB.enc false)) (af (uz2 a.1 a.2) (K (cB.enc (bif (cM a.1 a.2).2==0 then seq (cM a.1 a.2).1 s1 else false)))))))
theorem PK (a:RS) (K:zdR):dU mZ noA 6 56 [cR.enc a] K=rvT a K:=by kernel_rfl
theorem HY (H:uzR a=true) (k:K (cB.enc (rV a))):rvT a K:=by
 have h1:=iq H;exact ac h1.1 (ac (fU h1.2) (ac (fU (aX h1.2 (by decide))) (Yw H k)))
def gI1:List (FuncId×Ctr):=(56,k1 cR cB uzR rV)::mZ
theorem Wt:GOk gI1:=WR.cons (λW H=>dD λa h=>WR.yieldsN (ann:=noA) (n:=6) H m8 (cB.ids _) (by rw[PK];exact HY (K:=λr=>r=_) h rfl)) call56
theorem GOk.sub {h:List (FuncId×Ctr)} (k:GOk g) (J: ∀p∈h,p∈g):GOk h:=⟨λW H p hp=>k.all W H p (J p hp)⟩
variable {ρ:Type} {P:Program}
theorem ow {A:Cod α} {B:Cod β} {R:Cod ρ} {pre pre':α->β->Bool} {f f':α->β->ρ} (hA: ∀a,A.dec (A.enc a)=some a) (hB: ∀b,B.dec (B.enc b)=some b) (h:CtrOK P W F (k2 A B R pre f)) (hp: ∀a b,pre' a b=true->pre a b=true/\f a b=f' a b):CtrOK P W F (k2 A B R pre' f'):=by
 intro β w args b s N H Y;unfold k2 at H;split at H
 ·rename_i x y;split at H
  ·rename_i a c J V;simp only[za1,zag] at H;obtain⟨rfl,rfl⟩:=H;obtain⟨Z,p2⟩:=hp a c Y;refine h β w [x,y] (pre a c) (R.enc (f' a c)) N ?_ Z;unfold k2;simp only[J,V,p2]
  ·cases H
 ·cases H
theorem CA {A:Cod α} {R:Cod ρ} {pre pre':α->Bool} {f f':α->ρ} (h:CtrOK P W F (k1 A R pre f)) (hp: ∀a,pre' a=true->pre a=true/\f a=f' a):CtrOK P W F (k1 A R pre' f'):=by
 intro β w args b s N H V;unfold k1 at H;split at H
 ·rename_i x;split at H
  ·rename_i a J;simp only[za1,zag] at H;obtain⟨rfl,rfl⟩:=H;obtain⟨Y,Z⟩:=hp a V;refine h β w [x] (pre a) (R.enc (f' a)) N ?_ Y;unfold k1;simp only[J,Z]
  ·cases H
 ·cases H
def pS2 (a b:zdH):Bool:=uz2 a b&&vS a&&vS b
theorem V3 {a b:zdH}:pS2 a b=true↔vS a=true/\vS b=true:=by
 unfold pS2;simp only[za2];exact⟨λh=>⟨h.1.2,h.2⟩,λh=>⟨⟨aX (bO h.1) (bO h.2),h.1⟩,h.2⟩⟩
def wS:List (FuncId×Ctr):= [(56,k1 cR cB (λa=>uzR a&&rV a) λ_=>true),(132,k1 cS cB (λs=>uz s&&vS s) λ_=>true),(133,k2 cS cS cI uz2 dw),
 (100,k2 cS cS cSI (λa b=>pS2 a b&&aq (nS a+nS b)) λa b=>(ofI (nS a+nS b),0)),(137,k2 cS cS cSI (λa b=>pS2 a b&&aq (nS a - nS b)) λa b=>(ofI (nS a - nS b),0)),(169,k2 cS cS cSI (λa b=>pS2 a b&&aq (nS a*nS b)) λa b=>(ofI (nS a*nS b),0)),
 (134,k2 cS cS cSI pS2 λa b=>(ofI (Int.gcd (nS a) (nS b)),0)),(163,k2 cS cS cT3 (λa b=>pS2 a b&&decide (nS b≠0)) λa b=>(ofI (nS a / nS b),ofI (nS a%nS b),0)),(142,k1 cI cS cl ofI)]
theorem WG:GOk wS:=by
 have d2: ∀a:zdH,cS.dec (cS.enc a)=some a:=λ_=>rfl;have M: ∀{W:World} {F:FuncId} {c:Ctr},GlobU W->(F,c)∈gI1->CtrOK prog W F c:=λH h=>(Wt.all _ H _ h).1
 refine((((((((GOk.nil.cons (λW H=>M H (c:=k1 cI cS cl ofI) (by simp[gI1,mZ])) call142).cons (λW H=>ow d2 d2 (M H (c:=k2 cS cS cT3 uz2 dY) (by simp[gI1,mZ])) λa b h=> ?_) call163).cons (λW H=>ow d2 d2 (M H (c:=k2 cS cS cSI uz2 cM) (by simp[gI1,mZ])) λa b h=> ?_) call134).cons
  (λW H=>ow d2 d2 (M H (c:=k2 cS cS cSI uz2 bM) (by simp[gI1,mZ])) λa b h=> ?_) call169).cons (λW H=>ow d2 d2 (M H (c:=k2 cS cS cSI uz2 fA) (by simp[gI1,mZ])) λa b h=> ?_) call137).cons (λW H=>ow d2 d2 (M H (c:=k2 cS cS cSI uz2 jb) (by simp[gI1,mZ])) λa b h=> ?_) call100).cons
  (λW H=>M H (c:=k2 cS cS cI uz2 dw) (by simp[gI1,mZ])) call133).cons (λW H=>CA (M H (c:=k1 cS cB uz vS) (by simp[gI1,mZ])) λa h=> ?_) call132).cons (λW H=>CA (M H (c:=k1 cR cB uzR rV) (by simp[gI1,mZ])) λa h=> ?_) call56
 ·simp only[za2,zdt] at h;have:=V3.1 h.1;exact⟨aX (bO this.1) (bO this.2),by unfold dY;rw[if_pos (by simp[this.1,this.2,h.2])]⟩
 ·have:=V3.1 h;exact⟨aX (bO this.1) (bO this.2),by unfold cM;rw[if_pos (by simp[this.1,this.2])]⟩
 ·simp only[za2] at h;have:=V3.1 h.1;exact⟨aX (bO this.1) (bO this.2),by rw[dg this.1 this.2];unfold chkI;rw[if_pos (V1.1 h.2)]⟩
 ·simp only[za2] at h;have:=V3.1 h.1;exact⟨aX (bO this.1) (bO this.2),by rw[tz this.1 this.2];unfold chkI;rw[if_pos (V1.1 h.2)]⟩
 ·simp only[za2] at h;have:=V3.1 h.1;exact⟨aX (bO this.1) (bO this.2),by rw[tw this.1 this.2];unfold chkI;rw[if_pos (V1.1 h.2)]⟩
 ·simp only[za2] at h;exact h
 ·simp only[za2] at h;exact h
def KR (x y:zdH) (K:zdR):Prop:=
 let g:=ofI (Int.gcd (nS x) (nS y))
 af (pS2 x y) (af (pS2 x g&&decide (nS g≠0)) (af (pS2 y g&&decide (nS g≠0)) (K (cRE.enc ((ofI (nS x / nS g),ofI (nS y / nS g)),0)))))
def CB (x y:zdH) (K:zdR):Prop:=
 ag (seq y s0) (K uD) (af (uz2 y s0) (ag (decide (dw y s0<0)) (af (pS2 s0 x&&aq (nS s0 - nS x)) (af (pS2 s0 y&&aq (nS s0 - nS y)) (KR (ofI (nS s0 - nS x)) (ofI (nS s0 - nS y)) K))) (KR x y K)))
theorem NY (n d:zdH) (K:zdR):dU wS noA 8 102 [cS.enc n,cS.enc d] K=af (uz n&&vS n) (af (dC true (uz d&&vS d)) (CB n d K)):=by kernel_rfl
def gNo:List (FuncId×Ctr):= [(132,k1 cS cB uz vS)]
def mkN (n d:zdH) (K:zdR):Prop:=af (uz n) (af (dC (!!vS n) (uz d)) (af (bif (bif !vS n then true else !vS d) then true else seq d s0) (K uD)))
theorem NZ (n d:zdH) (K:zdR):dU gNo noA 8 102 [cS.enc n,cS.enc d] K=mkN n d K:=by kernel_rfl
theorem tA (H:vS x=true) (J:vS y=true) (h:0<nS y) (k:K (cRE.enc (rT (Rat.divInt (nS x) (nS y)),0))):KR x y K:=by
 obtain⟨N,l2,Z,l4,V⟩:=AX H J h;have hg:(cM x y).1=ofI (Int.gcd (nS x) (nS y)):=by unfold cM;rw[if_pos (by simp[H,J])]
 rw[hg] at N Z l4 V;have h0:nS (ofI (Int.gcd (nS x) (nS y)))≠0:=by
  have:=zc4 (nS x) (show nS y≠0 by omega);rw[aI];omega
 have q: ∀z:zdH,vS z=true->(dY z (ofI (Int.gcd (nS x) (nS y)))).1=ofI (nS z / nS (ofI (Int.gcd (nS x) (nS y)))):=λz Y=>by unfold dY;rw[if_pos (by simp[Y,N,h0])]
 rw[<-V,q x H,q y J] at k;unfold KR;exact ac (V3.2 ⟨H,J⟩) (ac (by rw[V3.2 ⟨H,N⟩,zdp h0];rfl) (ac (by rw[V3.2 ⟨J,N⟩,zdp h0];rfl) k))
theorem m7 {n:zdH} (h1:vS n=true) (h2:vS d=true) (k:K (cRE.enc (gX n d))):CB n d K:=by
 unfold gX at k;have H:vS s0=true/\nS s0=0:=by decide
 refine ce (λh=> ?_) (λh=>ac (aX (bO h2) (by decide)) ?_)
 ·rw[m6 h2] at h;have h:=zdu h;rw[if_neg (by simp[h])] at k;exact k
 ·rw[m6 h2] at h;have h3:=zdv h;rw[if_pos (by simp[h1,h2,h3])] at k;rw[ahx h2];refine ce (λc=> ?_) (λc=> ?_)
  ·have c:nS d<0:=by
    have:=zdu c;unfold VQ at this;split at this
    ·assumption
    ·split at this<;>omega
   have a:=br h1;have b:=br h2;have J: ∀{z:Int},z.natAbs<BIG->aq (nS s0 - z)=true:=λ{z} N=>V1.2 (by rw[H.2];omega);refine ac (by rw[V3.2 ⟨H.1,h1⟩,J a];rfl) (ac (by rw[V3.2 ⟨H.1,h2⟩,J b];rfl) ?_);rw[H.2,zcN,zcN];refine tA (gj (by omega)) (gj (by omega)) (by rw[aI];omega) ?_;rw[aI,aI,Rat.neg_divInt_neg];exact k
  ·have c:0<nS d:=by
    have:=zdv c;unfold VQ at this;split at this<;>omega
   exact tA h1 h2 c k
theorem HZ {n:zdH} (h:(vS n&&vS d)=false):gX n d=(noR,40):=by unfold gX;rw[h];rfl
theorem dj (h:GOk g) (J:GlobU W) {a b:SV} {r:RS×Int} (N:SV.idss [a,b]= []) (H:dU g noA 8 F [a,b] λs=>s=cRE.enc r):Go.Sy.Yields prog W F [a,b] (cRE.enc r):=h.yieldsN (ann:=noA) (n:=8) J N (cRE.ids _) H
theorem PL:GOk gNo:=Wt.sub λp hp=>by simp only[gNo,zaj] at hp;subst hp;simp[gI1,mZ]
def gI2:List (FuncId×Ctr):=(102,k2 cS cS cRE uz2 gX)::gI1
theorem PM:GOk gI2:=Wt.cons (λW H=>bC λn d h=>by
 have h:uz n=true/\uz d=true:=by simpa [uz2] using h
 cases hv:vS n&&vS d with
 |true=>
  have v:vS n=true/\vS d=true:=by simpa using hv
  exact dj WG H de (by
   rw[NY]
   exact ac (by rw[h.1,v.1];rfl) (ac (fU (by rw[h.2,v.2];rfl)) (m7 (K:=λr=>r=_) v.1 v.2 rfl)))
 |false=>
  exact dj PL H de (by
   rw[NZ];refine ac h.1 (ac (fU h.2) (ac ?_ (by rw[HZ hv];rfl)))
   revert hv;cases vS n<;>cases vS d<;>simp)) call102
theorem PN (a b:Int) (K:zdR):dU gI2 noA 8 66 [cI.enc a,cI.enc b] K=af (cl a) (af (cl b) (af (uz2 (ofI a) (ofI b)) (K (cRE.enc (gX (ofI a) (ofI b)))))):=by kernel_rfl
def gNv:List (FuncId×Ctr):= [(56,k1 cR cB uzR rV)]
def gNm:List (FuncId×Ctr):= [(56,k1 cR cB (λa=>uzR a&&rV a) λ_=>true),(169,k2 cS cS cSI uz2 bM),(100,k2 cS cS cSI uz2 jb),(137,k2 cS cS cSI uz2 fA)]
theorem MZ:GOk gNv:=Wt.sub λp hp=>by simp only[gNv,zaj] at hp;subst hp;simp[gI1,mZ]
theorem adl:GOk gNm:=⟨λW H p hp=>by
 simp only[gNm,zai,zbx,or_false] at hp;rcases hp with rfl|rfl|rfl|rfl
 ·exact WG.all W H _ (by simp[wS])
 all_goals exact Wt.all W H _ (by simp[gI1,mZ])⟩
def okB (a:RS):Bool:=dC true (uzR a&&rV a)
def N4 (a b:RS) (p q r s:zdH) (K:zdR):Prop:=af (okB a) (af (okB b) (af (pS2 p q&&aq (nS p*nS q)) (af (pS2 r s&&aq (nS r*nS s)) (CB (ofI (nS p*nS q)) (ofI (nS r*nS s)) K))))
def uE (a b:RS):Bool:=bif !rV a then true else !rV b
def lr (e:Bool) (s:zdH) (K:zdR):Prop:=af (bif e then true else seq s s0) (K uD)
def N5 (a b:RS) (K:zdR):Prop:=af (dC true (uzR a)) (af (dC (!!rV a) (uzR b)) (af (uE a b) (af (uE a b) (lr (uE a b) ⟨#[]⟩ K))))
def yQ (r s:zdH) (K:zdR):Prop:=af (uz2 r s) (lr ((bM r s).2 !=0) (bM r s).1 K)
def N6 (a b:RS) (p q r s:zdH) (K:zdR):Prop:=af (okB a) (af (okB b) (af (uz2 p q) (ag ((bM p q).2 !=0) (lr ((bM p q).2 !=0) ⟨#[]⟩ K) (yQ r s K))))
theorem KT (a b:RS) (K:zdR):dU wS noA 8 60 [cR.enc a,cR.enc b] K=N4 a b a.1 b.1 a.2 b.2 K:=by kernel_rfl
theorem KV (a b:RS) (K:zdR):dU wS noA 8 61 [cR.enc a,cR.enc b] K=N4 a b a.1 b.2 a.2 b.1 K:=by kernel_rfl
theorem KW (a b:RS) (K:zdR):dU gNv noA 8 60 [cR.enc a,cR.enc b] K=N5 a b K:=by kernel_rfl
theorem KY (a b:RS) (K:zdR):dU gNv noA 8 61 [cR.enc a,cR.enc b] K=N5 a b K:=by kernel_rfl
theorem KZ (a b:RS) (K:zdR):dU gNm noA 8 60 [cR.enc a,cR.enc b] K=N6 a b a.1 b.1 a.2 b.2 K:=by kernel_rfl
theorem K3 (a b:RS) (K:zdR):dU gNm noA 8 61 [cR.enc a,cR.enc b] K=N6 a b a.1 b.2 a.2 b.1 K:=by kernel_rfl
def N7 (a b:RS) (K:zdR):Prop:=af (dC true (uzR a)) (af (dC (!!rV a) (uzR b)) (af (uE a b) (af (uE a b) (af (uE a b) (af (uE a b) (lr (uE a b) ⟨#[]⟩ K))))))
def doS (r s:zdH) (v:SE) (K:zdR):Prop:=ag (v.2 !=0) (lr (v.2 !=0) ⟨#[]⟩ K) (yQ r s K)
def H5 (f:ByteArray->ByteArray->SE) (a b:RS) (K:zdR):Prop:=
 let e1:=(bM a.1 b.2).2 !=0
 let H:=(bM b.1 a.2).2 !=0
 af (okB a) (af (okB b) (af (uz2 a.1 b.2) (ag e1 (ag e1 (ag e1 (lr e1 ⟨#[]⟩ K) (yQ a.2 b.2 K)) (af (uz2 (bM a.1 b.2).1 ⟨#[]⟩) (doS a.2 b.2 (f (bM a.1 b.2).1 ⟨#[]⟩) K)))
  (af (uz2 b.1 a.2) (ag H (ag H (lr H ⟨#[]⟩ K) (yQ a.2 b.2 K)) (af (uz2 (bM a.1 b.2).1 (bM b.1 a.2).1) (doS a.2 b.2 (f (bM a.1 b.2).1 (bM b.1 a.2).1) K)))))))
def K4 (F:Int->Int->Int) (a b:RS) (K:zdR):Prop:=
 let x:=ofI (nS a.1*nS b.2)
 let y:=ofI (nS b.1*nS a.2)
 af (okB a) (af (okB b) (af (pS2 a.1 b.2&&aq (nS a.1*nS b.2)) (af (pS2 b.1 a.2&&aq (nS b.1*nS a.2)) (af (pS2 x y&&aq (F (nS x) (nS y))) (af (pS2 a.2 b.2&&aq (nS a.2*nS b.2)) (CB (ofI (F (nS x) (nS y))) (ofI (nS a.2*nS b.2)) K))))))
theorem K5 (a b:RS) (K:zdR):dU wS noA 8 58 [cR.enc a,cR.enc b] K=K4 (λx y=>x+y) a b K:=by kernel_rfl
theorem K6 (a b:RS) (K:zdR):dU wS noA 8 59 [cR.enc a,cR.enc b] K=K4 (λx y=>x - y) a b K:=by kernel_rfl
theorem K7 (a b:RS) (K:zdR):dU gNv noA 8 58 [cR.enc a,cR.enc b] K=N7 a b K:=by kernel_rfl
theorem K8 (a b:RS) (K:zdR):dU gNv noA 8 59 [cR.enc a,cR.enc b] K=N7 a b K:=by kernel_rfl
theorem ahy (a b:RS) (K:zdR):dU gNm noA 8 58 [cR.enc a,cR.enc b] K=H5 jb a b K:=by kernel_rfl
theorem La (a b:RS) (K:zdR):dU gNm noA 8 59 [cR.enc a,cR.enc b] K=H5 fA a b K:=by kernel_rfl
theorem Wu {x y:Int}:VQ x y=0↔x=y:=by
 unfold VQ;constructor
 ·intro h;split at h
  ·omega
  ·split at h<;>omega
 ·intro h;subst h;simp
theorem apk (x y:Int):VQ x y= -1\/VQ x y=0\/VQ x y=1:=by
 unfold VQ;split
 ·exact .inl rfl
 ·split
  ·exact .inr (.inr rfl)
  ·exact .inr (.inl rfl)
theorem pC {d m c s res:Int} (H:0<d) (J:0<c) (h:s*VQ (n*c) (m*d)=res):
 (VQ (n / d) (m / c)≠0->s*VQ (n / d) (m / c)=res)/\
 (VQ (n / d) (m / c)=0->(n%d=0->m%c=0->res=0)/\(n%d=0->m%c≠0->res= -s)/\(n%d≠0->m%c=0->res=s)/\
   (n%d≠0->m%c≠0-> -s*VQ (d*(m%c)) (c*(n%d))=res/\0<n%d/\0<m%c/\(n%d).natAbs<d.natAbs)):=by
 have N:=zcl n (show d≠0 by omega);have V:=zcO n H;have Y:=zcl m (show c≠0 by omega);constructor
 ·intro h0;rw[<-h,Dy H J (λe=>h0 (Wu.2 e))]
 ·intro h0;have e:=Wu.1 h0;rw[FV H J e] at h;refine⟨λh1 h2=> ?_,λh1 h2=> ?_,λh1 h2=> ?_,λh1 h2=>⟨?_,by omega,by omega,by omega⟩⟩
  ·rw[h1,h2,zcm,zcm,Dz] at h;omega
  ·rw[h1,zZ c (by omega) H] at h;omega
  ·rw[h2,z5 d (by omega) J] at h;omega
  ·rw[<-h,FX (n%d) c (m%c) d,Int.neg_mul,zbM]
abbrev CmX:=Int×RS×RS
def uF (s:zdH):zdH:=bif seq s s0 then s else s1
theorem N8 (s:zdH) (K:zdR):dU KL noA 3 181 [cS.enc s] K=ag (seq s s0) (K (cS.enc s)) (K (cS.enc s1)):=by kernel_rfl
def gJ3:List (FuncId×Ctr):=(181,k1 cS cS (λ_=>true) uF)::gJ2
theorem WS:GOk gJ3:=WA.cons (λW H=>dD λs _=>WK.yieldsN (ann:=noA) (n:=3) H m8 (cS.ids _) (by
 rw[N8];unfold uF
 exact ce (λh=>by rw[h];rfl) (λh=>by rw[h];rfl))) call181
def atg (I:CmX->Prop):zdV:=λf k=>bif Nat.beq f 109&&Nat.beq k 10 then some (λ_=>{X:=CmX,inv:=I,tm:=λx=> [(7, .val (.int .i64 x.1)),(8, .val (.string x.2.1.1)),(9, .val (.string x.2.1.2)),(10, .val (.string x.2.2.1)),(11, .val (.string x.2.2.2))],mu:=λx=>(nS x.2.1.2).natAbs}) else none
def eC4 (s:Int) (p q r t:zdH) (x:CmX):Prop:=(TV.v (cI.enc s)=TV.v (cI.enc x.1)/\TV.v (cS.enc p)=TV.v (cS.enc x.2.1.1)/\TV.v (cS.enc q)=TV.v (cS.enc x.2.1.2)/\TV.v (cS.enc r)=TV.v (cS.enc x.2.2.1)/\TV.v (cS.enc t)=TV.v (cS.enc x.2.2.2)/\True)/\(True/\(True/\True))
def c4B (I:CmX->Prop) (K:zdR) (e:Int->ByteArray->ByteArray->ByteArray->ByteArray->CmX->Prop) (x:CmX):Prop:=
 let D:=dY x.2.1.1 x.2.1.2
 let E:=dY x.2.2.1 x.2.2.2
 af (uz2 x.2.1.1 x.2.1.2) (af (uz2 x.2.2.1 x.2.2.2) (af (uz2 D.1 E.1) (ag (dw D.1 E.1 !=0) (af (inR .i64 (x.1*dw D.1 E.1)) (K (cI.enc (x.1*dw D.1 E.1))))
  (ag (bif seq D.2.1 s0 then true else seq E.2.1 s0) (af (uz2 (uF D.2.1) (uF E.2.1)) (af (inR .i64 (x.1*dw (uF D.2.1) (uF E.2.1))) (K (cI.enc (x.1*dw (uF D.2.1) (uF E.2.1))))))
    (af (inR .i64 (-x.1)) (∃y:CmX,I y/\((nS y.2.1.2).natAbs<(nS x.2.1.2).natAbs/\e (-x.1) x.2.1.2 D.2.1 x.2.2.2 E.2.1 y)))))))
def c4C (I:CmX->Prop) (a b:RS) (K:zdR):Prop:=
 af (uzR a) (af (uzR b) (ag (bif !rV a then true else !rV b) (K (cI.enc 0)) (∃x:CmX,I x/\(eC4 1 a.1 a.2 b.1 b.2 x/\ ∀x:CmX,I x->c4B I K eC4 x))))
theorem PO (I:CmX->Prop) (a b:RS) (K:zdR):dU gJ3 (atg I) 8 109 [cR.enc a,cR.enc b] K=c4C I a b K:=by kernel_rfl
theorem jl (h:uzR a=true) (k:rV a=true):okB a=true:=fU (by rw[h,k];rfl)
theorem Xt {e:Bool} (h:e=true) (k:K (cRE.enc (noR,40))):lr e s K:=by subst h;exact ac rfl k
theorem yR (H:vS r=true) (J:vS s=true) (h:aq (nS r*nS s)=false) (k:K (cRE.enc (noR,40))):yQ r s K:=
 ac (aX (bO H) (bO J)) (Xt (by rw[dg H J,eG,h];rfl) k)
theorem wT (h:(rV a&&rV b)=true):rV a=true/\rV b=true:=by simpa using h
theorem CC (h:(rV a&&rV b)=false):uE a b=true:=by unfold uE;revert h;cases rV a<;>cases rV b<;>simp
theorem CD (hW:GlobU W) (H:uzR a=true) (J:uzR b=true) (hv:rV a=true->rV b=true->vS p=true/\vS q=true/\vS r=true/\vS s=true)
 (y: ∀K,dU wS noA 8 F [cR.enc a,cR.enc b] K=N4 a b p q r s K) (v: ∀K,dU gNv noA 8 F [cR.enc a,cR.enc b] K=N5 a b K) (o: ∀K,dU gNm noA 8 F [cR.enc a,cR.enc b] K=N6 a b p q r s K):
 Go.Sy.Yields prog W F [cR.enc a,cR.enc b] (cRE.enc (xF a b p q r s)):=by
 cases h:rV a&&rV b with
 |false=>
  have e:xF a b p q r s=(noR,40):=by unfold xF;rw[h];rfl
  have k:=CC h;exact dj MZ hW de (by rw[v,e];exact ac (fU H) (ac (fU J) (ac k (ac k (Xt k rfl)))))
 |true=>
  obtain⟨h1,h2⟩:=wT h;obtain⟨V,Y,Z,v4⟩:=hv h1 h2;have e:xF a b p q r s=rMk (nS p*nS q) (nS r*nS s):=by unfold xF;rw[h];rfl
  cases s1:aq (nS p*nS q) with
  |false=>exact dj adl hW de (by
    rw[o,e,acI s1];refine ac (jl H h1) (ac (jl J h2) (ac (aX (bO V) (bO Y)) (ce (λc=>Xt c rfl) (λc=> ?_))))
    rw[dg V Y,eG,s1] at c;cases c)
  |true=>
  cases N:aq (nS r*nS s) with
  |false=>exact dj adl hW de (by
    rw[o,e,q7 N]
    exact ac (jl H h1) (ac (jl J h2) (ac (aX (bO V) (bO Y)) (ce (λc=>Xt c rfl) (λc=>yR Z v4 N rfl)))))
  |true=>exact dj WG hW de (by
    rw[y,e]
    exact ac (jl H h1) (ac (jl J h2) (ac (by rw[V3.2 ⟨V,Y⟩,s1];rfl) (ac (by rw[V3.2 ⟨Z,v4⟩,N];rfl) (m7 (dG s1) (dG N) (by rw[gM]))))))
theorem CE (hW:GlobU W) {G:Int->Int->Int} (hf: ∀{x y:zdH},vS x=true->vS y=true->f x y=chkI (G (nS x) (nS y))) (ha:uzR a=true) (hb:uzR b=true)
 (y: ∀K,dU wS noA 8 F [cR.enc a,cR.enc b] K=K4 G a b K) (v: ∀K,dU gNv noA 8 F [cR.enc a,cR.enc b] K=N7 a b K) (o: ∀K,dU gNm noA 8 F [cR.enc a,cR.enc b] K=H5 f a b K):
 Go.Sy.Yields prog W F [cR.enc a,cR.enc b] (cRE.enc (sF G a b)):=by
 cases h:rV a&&rV b with
 |false=>
  have e:sF G a b=(noR,40):=by unfold sF;rw[h];rfl
  have k:=CC h;exact dj MZ hW de (by rw[v,e];exact ac (fU ha) (ac (fU hb) (ac k (ac k (ac k (ac k (Xt k rfl)))))))
 |true=>
  obtain⟨h1,h2⟩:=wT h;obtain⟨Z,J,_,_⟩:=ay h1;obtain⟨w1,N,_,_⟩:=ay h2;have m1:((bM a.1 b.2).2 !=0)= !aq (nS a.1*nS b.2):=by rw[dg Z N,eG]
  have m2:((bM b.1 a.2).2 !=0)= !aq (nS b.1*nS a.2):=by rw[dg w1 J,eG]
  have e:sF G a b=bif aq (nS a.1*nS b.2)&&aq (nS b.1*nS a.2) then rMk (G (nS a.1*nS b.2) (nS b.1*nS a.2)) (nS a.2*nS b.2) else(noR,40):=by unfold sF;rw[h,zb6]
  have start: ∀{K:zdR},(aq (nS a.1*nS b.2)=false->K (cRE.enc (noR,40)))->(aq (nS a.1*nS b.2)=true->aq (nS b.1*nS a.2)=false->K (cRE.enc (noR,40)))->
   (aq (nS a.1*nS b.2)=true->aq (nS b.1*nS a.2)=true->doS a.2 b.2 (f (bM a.1 b.2).1 (bM b.1 a.2).1) K)->H5 f a b K:=λ{K} k1 k2 k3=>by
   unfold H5;dsimp only;rw[m1,m2];refine ac (jl ha h1) (ac (jl hb h2) (ac (aX (bO Z) (bO N)) ?_));cases s1:aq (nS a.1*nS b.2) with
   |false=>exact ce (λ_=>ce (λ_=>ce (λ_=>Xt rfl (k1 s1)) (λc=>by cases c)) (λc=>by cases c)) (λc=>by cases c)
   |true=>
    refine ce (λc=>by cases c) (λ_=>ac (aX (bO w1) (bO J)) ?_);cases H:aq (nS b.1*nS a.2) with
    |false=>exact ce (λ_=>ce (λ_=>Xt rfl (k2 s1 H)) (λc=>by cases c)) (λc=>by cases c)
    |true=>exact ce (λc=>by cases c) (λ_=>ac (aX (Cz _ _) (Cz _ _)) (k3 s1 H))
  cases s1:aq (nS a.1*nS b.2) with
  |false=>exact dj adl hW de (by
    rw[o,e,s1]
    exact start (λ_=>rfl) (λc=>by rw[s1] at c;cases c) (λc=>by rw[s1] at c;cases c))
  |true=>
  cases H:aq (nS b.1*nS a.2) with
  |false=>exact dj adl hW de (by
    rw[o,e,s1,H]
    exact start (λ_=>rfl) (λ_ _=>rfl) (λ_ c=>by rw[H] at c;cases c))
  |true=>
  rw[s1,H] at e;have e:sF G a b=rMk (G (nS a.1*nS b.2) (nS b.1*nS a.2)) (nS a.2*nS b.2):=e;have hx:f (bM a.1 b.2).1 (bM b.1 a.2).1=chkI (G (nS a.1*nS b.2) (nS b.1*nS a.2)):=by
   rw[dg Z N,dg w1 J,iZ s1,iZ H,hf (dG s1) (dG H),aI,aI]
  cases V:aq (G (nS a.1*nS b.2) (nS b.1*nS a.2)) with
  |false=>exact dj adl hW de (by
    rw[o,e,acI V];refine start (λ_=>rfl) (λ_ _=>rfl) λ_ _=> ?_;unfold doS;rw[hx,eG,V]
    exact ce (λ_=>Xt rfl rfl) (λc=>by cases c))
  |true=>
  cases Y:aq (nS a.2*nS b.2) with
  |false=>exact dj adl hW de (by
    rw[o,e,q7 Y];refine start (λ_=>rfl) (λ_ _=>rfl) λ_ _=> ?_;unfold doS;rw[hx,eG,V]
    exact ce (λc=>by cases c) (λ_=>yR J N Y rfl))
  |true=>exact dj WG hW de (by
    rw[y,e];unfold K4;dsimp only;rw[aI,aI]
    exact ac (jl ha h1) (ac (jl hb h2) (ac (by rw[V3.2 ⟨Z,N⟩,s1];rfl) (ac (by rw[V3.2 ⟨w1,J⟩,H];rfl) (ac (by rw[V3.2 ⟨dG s1,dG H⟩,V];rfl) (ac (by rw[V3.2 ⟨J,N⟩,Y];rfl) (m7 (dG V) (dG Y) (by rw[gM]))))))))
theorem ge (h:(uzR a&&uzR b)=true):uzR a=true/\uzR b=true:=by simpa using h
theorem PP (H:rV a=true) (J:rV b=true):vS a.1=true/\vS b.1=true/\vS a.2=true/\vS b.2=true:=⟨(ay H).1,(ay J).1,(ay H).2.1,(ay J).2.1⟩
theorem PQ (H:rV a=true) (J:rV b=true):vS a.1=true/\vS b.2=true/\vS a.2=true/\vS b.1=true:=⟨(ay H).1,(ay J).2.1,(ay H).2.1,(ay J).1⟩
abbrev kRR (f:RS->RS->RS×Int):Ctr:=k2 cR cR cRE (λa b=>uzR a&&uzR b) f
abbrev kRC:Ctr:=k2 cR cR cI (λa b=>uzR a&&uzR b) b9
section
variable {W:World} (hW:GlobU W)
include hW
theorem N9:CtrOK prog W 58 (kRR fZ):=bC λa b h=>by rw[<-HT];exact CE hW tw (ge h).1 (ge h).2 (K5 a b) (K7 a b) (ahy a b)
theorem Oa:CtrOK prog W 59 (kRR iF):=bC λa b h=>by rw[<-HW];exact CE hW tz (ge h).1 (ge h).2 (K6 a b) (K8 a b) (La a b)
theorem Ob:CtrOK prog W 60 (kRR ale):=bC λa b h=>by rw[<-HH];exact CD hW (ge h).1 (ge h).2 PP (KT a b) (KW a b) (KZ a b)
theorem Oc:CtrOK prog W 61 (kRR cA):=bC λa b h=>by rw[<-HP];exact CD hW (ge h).1 (ge h).2 PQ (KV a b) (KY a b) (K3 a b)
theorem yS:CtrOK prog W 56 (k1 cR cB uzR rV):=(Wt.all W hW (56,k1 cR cB uzR rV) zbF).1
theorem Lb:CtrOK prog W 111 (kRR fZ):=bC λa b h=>dj WA hW de (by rw[PI,<-HT];exact yP tw (ge h).1 (ge h).2 rfl)
theorem Lc:CtrOK prog W 113 (kRR iF):=bC λa b h=>dj WA hW de (by rw[PJ,<-HW];exact yP tz (ge h).1 (ge h).2 rfl)
theorem Ld:CtrOK prog W 185 (kRR ale):=bC λa b h=>dj WA hW de (by rw[PG,<-HH];exact yO (ge h).1 (ge h).2 ⟨(iq (ge h).1).1,(iq (ge h).2).1,(iq (ge h).1).2,(iq (ge h).2).2⟩ PP rfl)
theorem Le:CtrOK prog W 186 (kRR cA):=bC λa b h=>dj WA hW de (by rw[PH,<-HP];exact yO (ge h).1 (ge h).2 ⟨(iq (ge h).1).1,(iq (ge h).2).2,(iq (ge h).1).2,(iq (ge h).2).1⟩ PQ rfl)
theorem Er:CtrOK prog W 108 (k1 cR cB uzR rV):=(WF.all W hW (108,k1 cR cB uzR rV) zbF).1
omit hW in
theorem lX {n:Int} (h:cl n=true):uz (ofI n)=true:=by
 have h:=V4.1 h;exact bO (gj (zam (show n.natAbs<10^19 by omega) (zb7 (by decide) (by decide))))
theorem Od:CtrOK prog W 79 (k2 cI cI cRE (λa b=>cl a&&cl b) rMk):=bC λa b h=>dj WA hW de (by
 have h:cl a=true/\cl b=true:=by simpa using h
 rw[PF,gM]
 exact ac h.1 (ac h.2 (ac (aX (lX h.1) (lX h.2)) rfl)))
theorem PR:CtrOK prog W 66 (k2 cI cI cRE (λa b=>cl a&&cl b) rMk):=bC λa b h=>dj PM hW de (by
 have h:cl a=true/\cl b=true:=by simpa using h
 rw[PN,gM]
 exact ac h.1 (ac h.2 (ac (aX (lX h.1) (lX h.2)) rfl)))
omit hW in
theorem pD {n d:zdH} (N:vS n=true) (J:vS d=true) (h0:0<nS d):vS (ofI (nS n / nS d))=true/\vS (ofI (nS n%nS d))=true:=by
 have e1:=cD n;have H:=cD d;refine⟨gj ?_,gj ?_⟩
 ·rw[e1,H];exact lS (by omega) (br N) _ _
 ·rw[e1,H];exact lT (by omega) (br J) _ _
structure CI (r:Int) (x:CmX):Prop where
 n:vS x.2.1.1=true
 d:vS x.2.1.2=true
 m:vS x.2.2.1=true
 c:vS x.2.2.2=true
 d0:0<nS x.2.1.2
 c0:0<nS x.2.2.2
 s:x.1=1\/x.1= -1
 eq:x.1*VQ (nS x.2.1.1*nS x.2.2.2) (nS x.2.2.1*nS x.2.1.2)=r
omit hW in
theorem Lf {a b:RS} (H:rV a=true) (J:rV b=true):b9 a b=VQ (nS a.1*nS b.2) (nS b.1*nS a.2):=by
 unfold b9;rw[if_pos (by rw[H,J];rfl)];exact pX (ay H).2.2.1 (ay J).2.2.1
omit hW in
theorem CI.start {a b:RS} (H:rV a=true) (J:rV b=true):CI (b9 a b) (1,a,b):=⟨(ay H).1,(ay H).2.1,(ay J).1,(ay J).2.1,(ay H).2.2.1,(ay J).2.2.1, .inl rfl,by rw[Lf H J,Int.one_mul]⟩
omit hW in
theorem Es {a b:RS} {K:zdR} (ha:uzR a=true) (J:uzR b=true) (k:K (cI.enc (b9 a b))):c4C (CI (b9 a b)) a b K:=by
 refine ac ha (ac J (ce (λh=> ?_) (λh=> ?_)))
 ·have e:b9 a b=0:=by
   unfold b9;rw[if_neg];intro c;obtain⟨c1,c2⟩:=wT c;rw[c1,c2] at h;cases h
  rw[e] at k;exact k
 ·have h:rV a=true/\rV b=true:=by revert h;cases rV a<;>cases rV b<;>simp
  refine⟨(1,a,b),CI.start h.1 h.2,⟨⟨rfl,rfl,rfl,rfl,rfl,trivial⟩,trivial,trivial,trivial⟩, ?_⟩;generalize b9 a b=r at k ⊢;rintro⟨s,⟨n,d⟩,m,c⟩ ⟨i1,N,Z,V,i5,i6,i7,i8⟩;dsimp only at i1 N Z V i5 i6 i7 i8;obtain⟨p1,p2⟩:=pD i1 N i5;obtain⟨q1,q2⟩:=pD Z V i6;have hD:dY n d=(ofI (nS n / nS d),ofI (nS n%nS d),0):=by unfold dY;rw[if_pos (by simp[i1,N];omega)]
  have hE:dY m c=(ofI (nS m / nS c),ofI (nS m%nS c),0):=by unfold dY;rw[if_pos (by simp[Z,V];omega)]
  obtain⟨r1,r2⟩:=pC i5 i6 i8;have hc: ∀{x y:zdH},vS x=true->vS y=true->dw x y=VQ (nS x) (nS y):=λhx Y=>by unfold dw;rw[if_pos (by rw[hx,Y];rfl)]
  have J: ∀z:Int,(z= -1\/z=0\/z=1)->inR .i64 (s*z)=true:=λz hz=>by rcases i7 with rfl|rfl<;>rcases hz with rfl|rfl|rfl<;>rfl
  have u0:uz s0=true:=by decide
  have u1:uz s1=true:=by decide
  unfold c4B;dsimp only;rw[hD,hE];refine ac (aX (bO i1) (bO N)) (ac (aX (bO Z) (bO V)) (ac (aX (bO p1) (bO q1)) ?_));rw[hc p1 q1,aI,aI];refine ce (λh0=>ac (J _ (apk _ _)) (by rw[r1 (by simpa using h0)];exact k)) (λh0=> ?_);obtain⟨t1,t2,t3,t4⟩:=r2 (by simpa using h0);have zv: ∀{y:Int} (Y:vS (ofI y)=true),uF (ofI y)=if y=0 then s0 else s1:=λ{y} Y=>by
   unfold uF;rw[m6 Y,aI];by_cases e:y=0
   ·subst e;exact jc (s:=s0) (by decide)
   ·rw[zds e,if_neg e];rfl
  rw[m6 p2,m6 q2,aI,aI,zv p2,zv q2];by_cases e1:nS n%nS d=0
  ·rw[zdp e1,if_pos e1];refine ce (λ_=> ?_) (λc=>by cases c);by_cases H:nS m%nS c=0
   ·rw[if_pos H,show dw s0 s0=0 from by decide];exact ac (aX u0 u0) (ac (J 0 (.inr (.inl rfl))) (by rw[Int.mul_zero,<-t1 e1 H];exact k))
   ·rw[if_neg H,show dw s0 s1= -1 from by decide];exact ac (aX u0 u1) (ac (J (-1) (.inl rfl)) (by rw[show s* -1= -s by omega,<-t2 e1 H];exact k))
  ·rw[zds e1,if_neg e1];by_cases H:nS m%nS c=0
   ·rw[zdp H,if_pos H,show dw s1 s0=1 from by decide];exact ce (λ_=>ac (aX u1 u0) (ac (J 1 (.inr (.inr rfl))) (by rw[Int.mul_one,<-t3 e1 H];exact k))) (λc=>by cases c)
   ·rw[zds H];obtain⟨w1,w2,w3,w4⟩:=t4 e1 H;refine ce (λc=>by cases c) (λ_=>ac (by rcases i7 with rfl|rfl<;>rfl) ⟨(-s,(d,ofI (nS n%nS d)),(c,ofI (nS m%nS c))),⟨N,p2,V,q2,by rw[aI];exact w2,by rw[aI];exact w3,by dsimp only;omega, ?_⟩,by dsimp only;rw[aI];exact w4,⟨rfl,rfl,rfl,rfl,rfl,trivial⟩,trivial,trivial,trivial⟩);dsimp only;rw[aI,aI];exact w1
theorem Lg:CtrOK prog W 109 kRC:=bC λa b h=>WS.yieldsN (ann:=atg (CI (b9 a b))) (n:=8) hW de (cI.ids _) (by rw[PO];exact Es (K:=λr=>r=_) (ge h).1 (ge h).2 rfl)
end
def HJ (l:List ByteArray) (H:zdH):zdH:=⟨(Lib.join (l.map (·.data.toList)) H.data.toList).toArray⟩
def abn (s H:zdH):ByteArray×ByteArray×Bool:=(⟨(Lib.cut s.data.toList H.data.toList).1.toArray⟩,⟨(Lib.cut s.data.toList H.data.toList).2.1.toArray⟩,(Lib.cut s.data.toList H.data.toList).2.2)
def Z1 (f:Nat->zdH):Nat->List ByteArray
 |0=> []
 |k+1=>Z1 f k++ [f k]
def abh:List SV->zdH
 | [.val (.string s)]=>s
 |_=>⟨#[]⟩
def abE:List SV->Bool
 | [.val (.string _)]=>true
 |_=>false
theorem abF {l:zdK} (h:abE l=true):l= [.val (.string (abh l))]:=by
 unfold abE at h;split at h
 ·rfl
 ·cases h
theorem alh (f:Nat->zdH): ∀n,(Z1 f n).length=n
 |0=>rfl
 |k+1=>by rw[Z1,za3,alh f k];rfl
theorem abi (f:Nat->zdH): ∀(n j:Nat),j<n->(Z1 f n)[j]? =some (f j)
 |0,j,h=>by omega
 |k+1,j,h=>by
  rw[Z1];rcases zah j k with H|H
  ·rw[zbB (by rw[alh];exact H)];exact abi f k j H
  ·have:j=k:=by omega
   subst this;rw[zbY (by rw[alh];exact za0 _),alh,zaJ];rfl
theorem ae7: ∀{l:List ByteArray} {e:Nat},e<l.length->l[e]? =some (F7 l e)
 | [],e,h=>by simp at h
 |a::t,0,_=>rfl
 |a::t,e+1,h=>by
  simp only[zcf,F7];exact ae7 (by simpa using h)
def abO {α β γ:Type} (A:Cod α) (B:Cod β) (C:Cod γ):SV->Option (α×β×γ)
 | .tup [x,y,z]=>match A.dec x,B.dec y,C.dec z with
   |some a,some b,some c=>some (a,b,c)
   |_,_,_=>none
 |_=>none
def cP3 {α β γ:Type} (A:Cod α) (B:Cod β) (C:Cod γ):Cod (α×β×γ) where
 dec:=abO A B C
 enc r:= .tup [A.enc r.1,B.enc r.2.1,C.enc r.2.2]
 ok s a h:=by
  unfold abO at h;split at h
  ·split at h
   ·rename_i x y z a b c H J N;simp only[za1] at h;rw[<-h,A.ok _ _ H,B.ok _ _ J,C.ok _ _ N]
   ·cases h
  ·cases h
 ids r:=by simp[SV.ids,SV.idss,A.ids,B.ids,C.ids]
def abo (n:Nat) (B:Blk) (H:zdH):Bool:=decide (0<n)&&(decide (n<=B.n)&&(rL n (λe=>abE (B.get e))&&(decide (n<=140737488355328)&&decide ((HJ (Z1 (λe=>abh (B.get e)) n) H).data.toList.length<=140737488355328))))
def abt:MCtr:=λbl _ args=>match args with
 | [.slc id 0 n, .val (.string H)]=>match bl id with
   |some B=>match B.kd with
    | .gone=>none
    |_=>bif Nat.beq B.sz 1 then some {X:=Unit,pre:=abo n B H,spec:=λ_=>True,out:=λ_=> .val (.string (HJ (Z1 (λe=>abh (B.get e)) n) H)),ex:=λ_=>⟨(),trivial⟩} else none
   |none=>none
 |_=>none
section
variable {W0:Base}
theorem abG:VU prog W0 148 abt:=by
 intro bl β w nx args C e0 m0 n0 i0 H hp;clear i0;unfold abt at H;split at H
 ·rename_i id n J;split at H
  ·rename_i B hB;have key:B.kd≠ .gone->(bif Nat.beq B.sz 1 then some ({X:=Unit,pre:=abo n B J,spec:=λ_=>True,out:=λ_=> .val (.string (HJ (Z1 (λe=>abh (B.get e)) n) J)),ex:=λ_=>⟨(),trivial⟩}:RC) else none)=some C->
    Calls prog 148 (SV.concs β [.slc id 0 n, .val (.string J)]).toArray w λe w'=> ∃x,C.spec x/\ ∃β',Go.Sy.Ends β' (C.res x) e/\BC W0 (fv (chB bl (C.ch x)) nx (C.nw x)) β' w'/\(∀i,bl i≠none->β' i=β i)/\sg (fv (chB bl (C.ch x)) nx (C.nw x)) (C.res x):=by
    intro hg H;cases V:Nat.beq B.sz 1 with
    |false=>rw[V] at H;cases H
    |true=>
     rw[V] at H;simp only[zdr,za1] at H;subst H;have V:=zab V;have q:=e0.blk id B hB hg;unfold abo at hp;simp only[za2,zdt] at hp;obtain⟨h0,hn,N,hN,Y⟩:=hp;have Z:=q.not_nil (show 0<B.n by omega);have N:=Cb N;have hL:=alh (λe=>abh (B.get e)) n
     have hj:=strings_Join (β id).blk (β id).off (β id).cap (Z1 (λe=>abh (B.get e)) n) J w (by
      intro j x hx;rcases zah j n with a0|a0
      ·rw[abi _ _ _ a0] at hx;simp only[za1] at hx;have:=q.val j (by omega) 0 (.val (.string (abh (B.get j)))) (by rw[abF (N j a0)];rfl);unfold addr at this;rw[q.sz,V,zbZ,zaY] at this;rw[this,<-hx];rfl
      ·rw[zad (by omega)] at hx;cases hx) (q.lt Z) (by omega) (by have:=q.le;omega) (by
       unfold HJ at Y
       simpa using Y)
     rw[hL] at hj;have ea:(SV.concs β [.slc id 0 n, .val (.string J)]).toArray= #[.slice (some ⟨(β id).blk,(β id).off,none⟩) n (β id).cap, .string J]:=by
      simp only[SV.concs];rw[jq Z (.inr rfl)];unfold addr;simp only[zcD,zaY,zaX,SV.conc]
     rw[ea];refine hj.mono ?_;rintro e w' ⟨rfl,hb⟩;exact⟨(),trivial,β,by show _=_;simp[SV.conc,HJ],abx e0 n0 (by simp[SV.ids]) hb⟩
   split at H
   ·cases H
   ·rename_i g0;exact key (λe=>g0 e) H
  ·cases H
 ·cases H
theorem abS {W0:World} (hg:GlobU W0):CtrOK prog W0 280 (k2 cS cS (cP3 cS cS cB) (λs _=>decide (s.size<=1000000)) abn):=
 bC λs H h β w J=>by
  have h:s.size<=1000000:=zdu h;obtain⟨⟨⟨m,N⟩,_⟩,_⟩:=hg.below J;refine(strings_Cut s H m w (by omega) N).mono ?_;rintro e w' ⟨rfl,n,rfl⟩;exact⟨rfl,(zdD _ w).drewN n⟩
end
variable {s:zdH}
theorem Lh (h:vS s=true):(s.toList== [48])=decide (nS s=0):=by
 rw[zax,zdy,zdt,xV h,cL];constructor
 ·intro e;exact gT (by rw[e])
 ·intro e;rw[e]
theorem QG (h:vS s=true):(s.toList== [49])=decide (nS s=1):=by
 rw[zax,zdy,zdt,gY h,cL];constructor
 ·intro e;exact gT (by rw[e])
 ·intro e;rw[e]
abbrev vR (a:RS):Value:= .agg #[.string a.1, .string a.2]
def Sz (a:RS):Prop:=a.1.size<=maxLen/\a.2.size<=maxLen
variable {a:RS}
theorem szU (h:uzR a=true):Sz a:=by
 simp only[uzR,uz,za2,zdt] at h;exact h
theorem uzS (h:Sz a):uzR a=true:=by unfold uzR uz;rw[zdp h.1,zdp h.2];rfl
theorem oy (a:RS) (w:World) (hg:GlobU w) (h1:a.1.size<=maxLen) (h2:a.2.size<=maxLen):Calls prog 56 #[.agg #[.string a.1, .string a.2]] w λe w'=>e= .returned (.bool (rV a))/\Below w.heap.size w w':=
 (yS hg oj w [cR.enc a] _ _ (Pres.refl _) rfl (uzS ⟨h1,h2⟩)).2
def abT:List FuncId:= [146,148
 ,282
 ]
theorem abL: ∀f∈abT,V0 prog f:=by
 unfold abT;simp only[zc3]
 exact⟨call146,call148,
  call282,
  λ_ h=>by cases h⟩
abbrev abU (g:List (FuncId×Ctr)) (n:Nat) (f:FuncId) (args:zdK) (K:zdR):Prop:=wq prog (iR abT) (gw g) (gx [(148,abt)]) noA n f args (λ_=>none) 0 [] (Go.Sy.okK λr _ _ _=>K r)
variable {g:List (FuncId×Ctr)} {W0:World} {n:Nat} {F:FuncId} {args:zdK} {r:SV}
theorem abu (h:GOk g) (hg:GlobU W0) (J:SV.idss args= []) (V:r.ids= []) (H:abU g n F args λs=>s=r):Go.Sy.Yields prog W0 F args r:=
 cr (λW N=>mW (h.all W (hg.below N)) (λ_ _ p hp=>by
  simp only[zaj] at hp
  subst hp;exact abG) abL (by kernel_rfl)) J V H
def gQ0:List (FuncId×Ctr):=
 (280,k2 cS cS (cP3 cS cS cB) (λs _=>decide (s.size<=1000000)) abn)::
 [(56,k1 cR cB uzR rV)]
theorem abP:GOk gQ0:=
 (GOk.nil.cons (λW H=>yS H) call56)
   |>.cons (λW H=>abS H) call280
def slB:zdH:=⟨#[47]⟩
def abW (a:RS) (K:zdR):Prop:=af (uzR a) (ag (!rV a) (K (cS.enc ⟨#[]⟩)) (ag (seq a.2 ⟨#[49]⟩) (K (cS.enc a.1)) (
 af (abo 2 {n:=2,sz:=1,get:=je [.val (.string a.1), .val (.string a.2)] 1,kd:= .own} slB) (Unit->True->K (cS.enc (HJ [a.1,a.2] slB))))))
theorem aby (a:RS) (K:zdR):abU gQ0 4 146 [cR.enc a] K=abW a K:=by kernel_rfl
theorem abQ {x y:zdH}:HJ [x,y] slB=⟨(x.data.toList++ [47]++y.data.toList).toArray⟩:=by
 unfold HJ;rw[show slB.data.toList= [47] from rfl,show ([x,y].map (·.data.toList))= [x.data.toList,y.data.toList] from rfl];simp[Lib.join,List.intercalate]
variable {K:zdR}
theorem abl (V:uzR a=true) (k:K (cS.enc (gk a))):abW a K:=by
 refine ac V (ce (λh=> ?_) (λh=> ?_))
 ·have e:gk a=⟨#[]⟩:=DA (by simpa using h);rw[e] at k;exact k
 ·have hv:rV a=true:=by simpa using h
  obtain⟨Y,J,_,_⟩:=ay hv;have e:gk a=if nS a.2=1 then a.1 else HJ [a.1,a.2] slB:=by unfold gk;rw[if_pos hv,abQ]
  have H:seq a.2 ⟨#[49]⟩=decide (nS a.2=1):=by rw[F3,show (⟨#[49]⟩:zdH).toList= [49] by rw[cL]];exact QG J
  rw[e] at k;refine ce (λh1=> ?_) (λh1=> ?_)
  ·rw[H] at h1;rw[if_pos (zdu h1)] at k;exact k
  ·rw[H] at h1;rw[if_neg (zdv h1)] at k;refine ac ?_ λ_ _=>k;have Z:a.1.data.toList.length<=1000:=by rw[bj];have:=dp Y;omega
   have l2:a.2.data.toList.length<=1000:=by rw[bj];have:=dp J;omega
   have N:abo 2 {n:=2,sz:=1,get:=je [.val (.string a.1), .val (.string a.2)] 1,kd:= .own} slB=decide ((HJ [a.1,a.2] slB).data.toList.length<=140737488355328):=rfl;rw[N,abQ,zdt];simp only[List.toList_toArray,za3,za6];omega
variable {W:World}
theorem abj (H:GlobU W):CtrOK prog W 146 (k1 cR cS uzR gk):=
 dD λa h=>abu abP (n:=4) H m8 (cS.ids _) (by rw[aby];exact abl (K:=λr=>r=_) h rfl)
theorem abp (l:List UInt8):Lib.index l [47]=if l.contains 47 then((l.takeWhile (· !=47)).length:Int) else -1:=by
 induction l with
 |nil=>simp[Lib.index]
 |cons a t H=>
  rw[Lib.index,H];by_cases h:a=47
  ·subst h;simp
  ·have h1:(47==a)=false:=by rw[zdx];exact λe=>h e.symm
   have h2:(a !=47)=true:=by simp[h]
   simp only[List.isPrefixOf,h1,Bool.false_and,zbo,if_false,List.contains_cons,zbi,List.takeWhile_cons,h2,if_true,za4];by_cases h3:t.contains 47=true
   ·simp only[h3,if_true];rw[if_neg (by rw[zdy];omega)];omega
   ·simp only[h3,if_false];rfl
theorem abz (l:List UInt8):Lib.cut l [47]=if l.contains 47 then(l.takeWhile (· !=47),(l.dropWhile (· !=47)).tail,true) else(l, [],false):=by
 unfold Lib.cut;rw[abp];by_cases h:l.contains 47=true
 ·simp only[h,if_true];rw[if_pos (by omega)];have e:l=l.takeWhile (· !=47)++l.dropWhile (· !=47):=List.takeWhile_append_dropWhile.symm;have e1:((l.takeWhile (· !=47)).length:Int).toNat=(l.takeWhile (· !=47)).length:=by omega
  rw[e1];refine Prod.ext ?_ (Prod.ext ?_ rfl)
  ·show l.take _=_
   conv=>lhs;arg 2;rw[e]
   rw[List.take_left]
  ·show l.drop _=_
   conv=>lhs;arg 2;rw[e]
   rw[<-List.drop_drop,List.drop_left];cases l.dropWhile (· !=47)<;>rfl
 ·simp only[h,if_false];rfl
theorem abH (s:zdH):(rOf s).1.size<=s.size/\(rOf s).2.size<=s.size+1:=by
 rw[<-bj (rOf s).1,<-bj (rOf s).2,<-bj s];unfold rOf Yd;by_cases h:s.data.toList.contains 47=true
 ·simp only[h,if_true,List.toList_toArray];have h1:=(List.takeWhile_sublist (· !=47) (l:=s.data.toList)).length_le;have h2:=(List.dropWhile_sublist (· !=47) (l:=s.data.toList)).length_le;refine⟨h1, ?_⟩;rw[zcY];omega
 ·simp only[h,if_false,List.toList_toArray];simp
def gQ1:List (FuncId×Ctr):=(146,k1 cR cS uzR gk)::gQ0
theorem abX:GOk gQ1:=abP.cons (λW H=>abj H) call146
def abM (s:zdH) (r:RS) (K:zdR):Prop:=af (uzR r) (ag (bif !seq (gk r) s then true else seq s ⟨#[]⟩) (K (cRE.enc (VI,40))) (K (cRE.enc (r,0))))
def abY (s:zdH) (K:zdR):Prop:=af (decide (s.size<=1000000)) (ag (abn s slB).2.2 (abM s ((abn s slB).1,(abn s slB).2.1) K) (abM s ((abn s slB).1,⟨#[49]⟩) K))
theorem abA (s:zdH) (K:zdR):abU gQ1 4 282 [cS.enc s] K=abY s K:=by kernel_rfl
theorem abv (H:s.size<=100000) (k:K (cRE.enc (DR s))):abM s (rOf s) K:=by
 obtain⟨J,N⟩:=abH s;refine ac (by unfold uzR uz;rw[zdp (by unfold maxLen;omega),zdp (by unfold maxLen;omega)];rfl) (ce (λh=> ?_) (λh=> ?_))
 ·have e:DR s=(VI,40):=by
   unfold DR;by_cases h1:gk (rOf s)=s
   ·have h0:s=ByteArray.empty:=by
     rw[We.2 h1] at h;exact We.1 h
    rw[h0];exact abk
   ·rw[if_neg (by simp[h1])];rfl
  rw[e] at k;exact k
 ·have h1:gk (rOf s)=s:=by
   cases hq:seq (gk (rOf s)) s with
   |true=>exact We.1 hq
   |false=>rw[hq] at h;cases h
  have h0:s≠ByteArray.empty:=λe=>by
   rw[We.2 h1] at h;have:seq s ⟨#[]⟩=true:=We.2 e;rw[this] at h;cases h
  have e:DR s=(rOf s,0):=by
   unfold DR;rw[if_pos];cases hv:rV (rOf s) with
   |true=>simp[h1]
   |false=>rw[DA hv] at h1;exact absurd h1.symm h0
  rw[e] at k;exact k
theorem abm (J:s.size<=100000) (k:K (cRE.enc (DR s))):abY s K:=by
 have H:abn s slB=if s.data.toList.contains 47 then((rOf s).1,(rOf s).2,true) else(s,⟨#[]⟩,false):=by
  unfold abn;rw[show slB.data.toList= [47] from rfl,abz];unfold rOf Yd;by_cases h:s.data.toList.contains 47=true
  ·simp only[h,if_true]
  ·simp only[h,if_false];rfl
 refine ac (zdp (by omega)) (ce (λh=> ?_) (λh=> ?_))
 ·rw[H] at h ⊢;split at h
  ·rename_i h1;rw[if_pos h1];exact abv J k
  ·cases h
 ·rw[H] at h ⊢;split at h
  ·cases h
  ·rename_i h1;rw[if_neg h1];have:(s,(⟨#[49]⟩:zdH))=rOf s:=by unfold rOf Yd;rw[if_neg h1]
   show abM s (s,⟨#[49]⟩) K;rw[this];exact abv J k
theorem abB (H:GlobU W):CtrOK prog W 282 (k1 cS (cP cR cI) (λs=>decide (s.size<=100000)) DR):=
 dD λs h=>abu abX (n:=4) H m8 (cRE.ids _) (by rw[abA];exact abm (K:=λr=>r=_) (zdu h) rfl)
theorem afQ (n:Nat) (l:zdI):val 10 (List.replicate n 0++l)=10^n*val 10 l:=by
 have H: ∀n,val 10 (List.replicate n 0)=0:=by
  intro n
  induction n with
  |zero=>rfl
  |succ n J=>rw[zcd,val,J]
 rw[alj,H,zcw,za7]
def afR (p:Nat):zdH:=⟨(49::List.replicate p 48).toArray⟩
theorem adr (p:Nat):(afR p).data.toList=49::List.replicate p 48:=rfl
theorem ads (p:Nat):body (49::List.replicate p 48)=49::List.replicate p 48:=by simp[body]
theorem afa {p:Nat} (h:p<200):vS (afR p)=true:=by
 unfold vS;rw[adr];refine Nq ?_ ?_ ?_ ?_<;>rw[ads]
 ·simp
 ·simp;omega
 ·intro c H;rcases zai.1 H with h|h
  ·subst h;decide
  ·rw[List.eq_of_mem_replicate h];decide
 ·right;simp
theorem afb (p:Nat):nS (afR p)=ten p:=by
 unfold nS ten;rw[adr];unfold toI;rw[if_neg (by simp),ads]
 congr 1
 unfold bm;rw[List.reverse_cons,zb8,List.reverse_replicate,List.map_replicate,show dv 48=0 from rfl,afQ];simp[val,show dv 49=1 from rfl]
theorem afc {p:Nat} (h:p<200):ofI (ten p)=afR p:=by rw[<-afb,jc (afa h)]
def lR (r:RS) (p:Int) (up:Bool):RS×Int:=if rV r&&decide (0<=p/\p<=30)&&aq (nS r.1*ten p.toNat) then
 rMk (if up&&decide (nS r.1*ten p.toNat%nS r.2≠0) then nS r.1*ten p.toNat / nS r.2+1 else nS r.1*ten p.toNat / nS r.2) (ten p.toNat) else(noR,40)
theorem ad7 (r:RS) (p:Int):lR r p false=acv r p:=by unfold lR acv;simp
theorem afS (r:RS) (p:Int):lR r p true=rUp r p:=by
 unfold lR rUp;split
 ·congr 1
  by_cases h:nS r.1*ten p.toNat%nS r.2=0<;>simp[h]
 ·rfl
theorem ai6 {n d:zdH} (N:vS n=true) (J:vS d=true) (h0:0<nS d):vS (ofI (nS n / nS d))=true/\vS (ofI (nS n%nS d))=true:=by
 have e1:=cD n;have H:=cD d;refine⟨gj ?_,gj ?_⟩
 ·rw[e1,H];exact lS (by omega) (br N) _ _
 ·rw[e1,H];exact lT (by omega) (br J) _ _
theorem awk (h:vS s=true):aq (nS s)=true:=V1.2 (br h)
theorem avJ {N d:Int} (hs:aq N=true) (Y:0<d) (h0:N%d≠0):aq (N / d+1)=true:=by
 have hN:=V1.1 hs;rw[V1];have e1:=Int.emod_add_mul_ediv N d;have e2:=zcl N (b:=d) (by omega);have J:=zcO N Y;generalize N / d=Q at*
 generalize N%d=M at*
 have Z:d≠1:=λe=>by rw[e] at J;omega
 by_cases H:0<=Q
 ·have:2*Q<=d*Q:=Int.mul_le_mul_of_nonneg_right (by omega) H;omega
 ·obtain⟨R,V⟩: ∃R,Q= -R - 1:=⟨-Q - 1,by omega⟩;have h1:1*R<=d*R:=Int.mul_le_mul_of_nonneg_right (by omega) (by omega);have h2:d*Q= -(d*R) - d:=by rw[V,Int.mul_sub,Int.mul_one,zbM]
  omega
def agF (k:Nat):zdH:=⟨(List.replicate k 48).toArray⟩
def ai7:List FuncId:=174::104::105::NV
theorem ahK: ∀f∈ai7,V0 prog f:=by
 unfold ai7;simp only[zc3];exact⟨call174,call104,call105,KM⟩
abbrev SX (g:List (FuncId×Ctr)) (n:Nat) (f:FuncId) (args:zdK) (K:zdR):Prop:=wq prog (iR ai7) (gw g) (gx []) noA n f args (λ_=>none) 0 [] (Go.Sy.okK λr _ _ _=>K r)
theorem acJ (h:GOk g) (hg:GlobU W0) (J:SV.idss args= []) (V:r.ids= []) (H:SX g n F args λs=>s=r):Go.Sy.Yields prog W0 F args r:=
 cr (λW N=>mW (h.all W (hg.below N)) (λ_ _ _ h=>by cases h) ahK (by kernel_rfl)) J V H
abbrev ai8:Ctr:=k2 cS cI cS (λs p=>seq s ⟨#[48]⟩&&decide (0<=p)&&decide (p<=30)) (λ_ p=>agF p.toNat)
theorem afd:CtrOK prog W 168 ai8:=bC λs p h=>by
 simp only[za2,zdt] at h;obtain rfl:=We.1 h.1.1;intro β w H;refine(AI p w h.1.2 (by omega)).mono ?_;rintro e w' ⟨rfl,h2⟩;exact⟨rfl,h2⟩
def gD1:List (FuncId×Ctr):= [(56,k1 cR cB uzR rV)]
def gD2:List (FuncId×Ctr):= [(56,k1 cR cB (λa=>uzR a&&rV a) λ_=>true),(168,ai8),(169,k2 cS cS cSI (λa b=>pS2 a b&& !aq (nS a*nS b)) λ_ _=>(⟨#[]⟩,30))]
def gD3:List (FuncId×Ctr):=(168,ai8)::wS
def bd9 (p:Int):Bool:=bif decide (p<0) then true else decide (p>30)
def ai9 (r:RS) (p:Int) (K:zdR):Prop:=af (dC (!bd9 p) (uzR r)) (af (bif bd9 p then true else !rV r) (K uD))
theorem agG (r:RS) (p:Int) (K:zdR):SX gD1 6 104 [cR.enc r,cI.enc p] K=ai9 r p K:=by kernel_rfl
theorem aja (r:RS) (p:Int) (K:zdR):SX gD1 6 105 [cR.enc r,cI.enc p] K=ai9 r p K:=by kernel_rfl
def acj (p:Int):zdH:=⟨#[49]⟩++agF p.toNat
def b19 (p:Int):Bool:=bif bd9 p then true else !true
def ahL (r:RS) (p:Int) (K:zdR) (D X:Prop):Prop:=
 af (dC (!bd9 p) (uzR r&&rV r)) (ag (b19 p) (K uD) (af (seq ⟨#[48]⟩ ⟨#[48]⟩&&decide (0<=p)&&decide (p<=30)) (af (decide ((⟨#[49]⟩:zdH).size+(agF p.toNat).size<=9223372036854775807)) (ag (b19 p) (ag (b19 p) (K uD) D) X))))
def ajb (r:RS) (p:Int) (K:zdR):Prop:=ahL r p K False (af (pS2 r.1 (acj p)&& !aq (nS r.1*nS (acj p))) (K uD))
def ajc (up:Bool) (r:RS) (p:Int) (K:zdR) (n:zdH):Prop:=
 let q:=ofI (nS n / nS r.2)
 af (pS2 n r.2&&decide (nS r.2≠0)) (ag (bif up then !seq (ofI (nS n%nS r.2)) s0 else false)
  (af (pS2 q s1&&aq (nS q+nS s1)) (CB (ofI (nS q+nS s1)) (acj p) K)) (CB q (acj p) K))
def ahM (up:Bool) (r:RS) (p:Int) (K:zdR):Prop:=
 ahL r p K (ajc up r p K ⟨#[]⟩) (af (pS2 r.1 (acj p)&&aq (nS r.1*nS (acj p))) (ajc up r p K (ofI (nS r.1*nS (acj p)))))
theorem agH (r:RS) (p:Int) (K:zdR):SX gD2 6 104 [cR.enc r,cI.enc p] K=ajb r p K:=by kernel_rfl
theorem ajd (r:RS) (p:Int) (K:zdR):SX gD2 6 105 [cR.enc r,cI.enc p] K=ajb r p K:=by kernel_rfl
theorem agI (r:RS) (p:Int) (K:zdR):SX gD3 6 104 [cR.enc r,cI.enc p] K=ahM false r p K:=by kernel_rfl
theorem aje (r:RS) (p:Int) (K:zdR):SX gD3 6 105 [cR.enc r,cI.enc p] K=ahM true r p K:=by kernel_rfl
variable {p:Int}
theorem ahN (h0:0<=p):acj p=afR p.toNat:=by
 unfold acj agF afR;apply gT;simp[ByteArray.toList_data_append]
theorem aiI:GOk gD1:=GOk.nil.cons (λW H=>yS H) call56
theorem akh:GOk gD3:=WG.cons (λW H=>afd) call168
theorem aki:GOk gD2:=
 ((GOk.nil.cons (λW H=>ow (λ_=>rfl) (λ_=>rfl) ((WR.all W H (169,k2 cS cS cSI uz2 bM) (by simp[mZ])).1) λa b h=>by
    simp only[za2,zap] at h;have:=V3.1 h.1;refine⟨aX (bO this.1) (bO this.2), ?_⟩;rw[dg this.1 this.2];unfold Yk.chkI
    rw[if_neg (λe=>by rw[V1.2 e] at h;cases h.2)];rfl) call169).cons (λW H=>afd) call168).cons (λW H=>CA (yS H) λa h=>by
    rw[za2] at h;exact h) call56
theorem afe {r:RS} {D X:Prop} (J:uzR r=true) (hv:rV r=true) (h0:0<=p) (h1:p<=30) (k:X):ahL r p K D X:=by
 have H:b19 p=false:=by unfold b19 bd9;rw[zds (show ¬p<0 by omega),zds (show ¬p>30 by omega)];rfl
 unfold ahL;rw[H];refine ac (fU (by rw[J,hv];rfl)) (ac (by rw[zdp h0,zdp h1];decide) (ac (zdp ?_) k));unfold agF;have:(⟨(List.replicate p.toNat 48).toArray⟩:zdH).size=p.toNat:=by rw[<-bj];simp
 rw[this];show 1+p.toNat<=_;omega
theorem ad8 {up:Bool} (V:GlobU W) {r:RS} (Y:uzR r=true) (vA: ∀K,SX gD1 6 F [cR.enc r,cI.enc p] K=ai9 r p K)
 (vB: ∀K,SX gD2 6 F [cR.enc r,cI.enc p] K=ajb r p K) (vC: ∀K,SX gD3 6 F [cR.enc r,cI.enc p] K=ahM up r p K):Go.Sy.Yields prog W F [cR.enc r,cI.enc p] (cRE.enc (lR r p up)):=by
 have H:SV.idss [cR.enc r,cI.enc p]= []:=de;by_cases hp:0<=p/\p<=30
 ·have Z:bd9 p=false:=by unfold bd9;rw[zds (show ¬p<0 by omega),zds (show ¬p>30 by omega)];rfl
  cases hv:rV r with
  |false=>
   have e:lR r p up=(noR,40):=by unfold lR;rw[hv];simp
   exact acJ aiI (n:=6) V H (cRE.ids _) (by rw[vA,e];exact ac (fU Y) (ac (by rw[Z,hv];rfl) rfl))
  |true=>
   have hk:p.toNat<200:=by omega
   have t1:=ahN hp.1;have t2:vS (acj p)=true:=by rw[t1];exact afa hk
   have t3:nS (acj p)=ten p.toNat:=by rw[t1];exact afb _
   obtain⟨v1,v2,v3,_⟩:=ay hv;cases J:aq (nS r.1*ten p.toNat) with
   |false=>
    have e:lR r p up=(noR,40):=by unfold lR;rw[J];simp
    exact acJ aki (n:=6) V H (cRE.ids _) (by
     rw[vB,e]
     exact afe Y hv hp.1 hp.2 (ac (by rw[V3.2 ⟨v1,t2⟩,t3,J];rfl) rfl))
   |true=>
    have n1:vS (ofI (nS r.1*ten p.toNat))=true:=dG J;obtain⟨q1,q2⟩:=ai6 n1 v2 v3;rw[aI] at q1 q2;have e:lR r p up=rMk (if up&&decide (nS r.1*ten p.toNat%nS r.2≠0) then nS r.1*ten p.toNat / nS r.2+1 else nS r.1*ten p.toNat / nS r.2) (ten p.toNat):=by
     unfold lR;rw[if_pos (by simp[hv,hp.1,hp.2,J])]
    exact acJ akh (n:=6) V H (cRE.ids _) (by
     rw[vC,e];unfold ahM ajc;dsimp only;rw[t3];refine afe Y hv hp.1 hp.2 (ac (by rw[V3.2 ⟨v1,t2⟩,J];rfl) (ac (by rw[V3.2 ⟨n1,v2⟩,zdp (show nS r.2≠0 by omega)];rfl) ?_));rw[aI,aI];have z:seq (ofI (nS r.1*ten p.toNat%nS r.2)) s0=decide (nS r.1*ten p.toNat%nS r.2=0):=by rw[m6 q2,aI]
     rw[z];refine ce (λh=> ?_) (λh=> ?_)
     ·have N:up=true/\nS r.1*ten p.toNat%nS r.2≠0:=by
       cases up with
       |false=>cases h
       |true=>exact⟨rfl,by simpa using h⟩
      rw[if_pos (by simp[N.1,N.2])];have sq:=avJ J v3 N.2;refine ac (by rw[V3.2 ⟨q1,by decide⟩,show nS s1=1 by decide,sq];rfl) ?_;rw[show nS s1=1 by decide];refine m7 (dG sq) t2 ?_;rw[show acj p=ofI (ten p.toNat) by rw[t1,afc hk],gM]
     ·have N: ¬((up&&decide (nS r.1*ten p.toNat%nS r.2≠0))=true):=by
       cases up with
       |false=>simp
       |true=>simpa using h
      rw[if_neg N];refine m7 q1 t2 ?_
      rw[show acj p=ofI (ten p.toNat) by rw[t1,afc hk],gM])
 ·have Z:bd9 p=true:=by
   unfold bd9;by_cases h:p<0
   ·rw[zdp h];rfl
   ·rw[zds h,zdp (show p>30 by omega)];rfl
  have e:lR r p up=(noR,40):=by unfold lR;rw[show decide (0<=p/\p<=30)=false from zds hp];simp
  exact acJ aiI (n:=6) V H (cRE.ids _) (by rw[vA,e];exact ac (fU Y) (ac (by rw[Z];rfl) rfl))
theorem ahO (H:GlobU W):CtrOK prog W 104 (k2 cR cI cRE (λr _=>uzR r) acv):=bC λr p h=>by
 rw[<-ad7];exact ad8 H h (agG r p) (agH r p) (agI r p)
theorem akj (H:GlobU W):CtrOK prog W 105 (k2 cR cI cRE (λr _=>uzR r) rUp):=bC λr p h=>by
 rw[<-afS];exact ad8 H h (aja r p) (ajd r p) (aje r p)
end Go.Proofs.YtojcellmcbnmeaaGreatDoor
namespace Go.Sy
open Go.RowKit
mutual
def SV.rn (f:Nat->Option (Option Nat)):SV->Option SV
 | .val v=>some (.val v)
 | .ptr id e o=>match f id with
   |some (some i)=>some (.ptr i e o)
   |_=>none
 | .mp id=>match f id with
   |some (some i)=>some (.mp i)
   |_=>none
 | .slc id e len=>match f id with
   |some (some i)=>some (.slc i e len)
   |some none=>some (.val (.slice none len 0))
   |none=>none
 | .agg cs=>match SV.rns f cs with
   |some l=>some (.agg l)
   |none=>none
 | .tup cs=>match SV.rns f cs with
   |some l=>some (.tup l)
   |none=>none
 | .fn g a c=>match SV.rns f a,SV.rns f c with
   |some a,some c=>some (.fn g a c)
   |_,_=>none
def SV.rns (f:Nat->Option (Option Nat)):List SV->Option (List SV)
 | []=>some []
 |x::xs=>match SV.rn f x,SV.rns f xs with
  |some y,some H=>some (y::H)
  |_,_=>none
end
abbrev _root_.zdY:=Nat->Option (Option Nat)
def sS (f:zdY) (β β':zdJ):Prop:= ∀i,(∀j,f i=some (some j)->β i=β' j)/\(f i=some none->(β i).nil=true/\(β i).cap=0)
mutual
theorem ol {f:Nat->Option (Option Nat)} {β β':Nat->Loc} (h:sS f β β'): ∀{s r:SV},s.rn f=some r->r.conc β'=s.conc β/\ ∀j∈r.ids,∃i∈s.ids,f i=some (some j)
 | .val v,r,H=>by simp only[SV.rn,za1] at H;subst H;exact⟨rfl,λj J=>by simp[SV.ids] at J⟩
 | .ptr id e o,r,H=>by
   simp only[SV.rn] at H;split at H
   ·rename_i i hi;simp only[za1] at H;subst H;refine⟨by simp only[SV.conc,addr,(h id).1 i hi],λj J=>⟨id,by simp[SV.ids], ?_⟩⟩;simp only[SV.ids,zaj] at J;rw[J];exact hi
   ·cases H
 | .mp id,r,H=>by
   simp only[SV.rn] at H;split at H
   ·rename_i i hi;simp only[za1] at H;subst H;refine⟨by simp only[SV.conc,(h id).1 i hi],λj J=>⟨id,by simp[SV.ids], ?_⟩⟩;simp only[SV.ids,zaj] at J;rw[J];exact hi
   ·cases H
 | .slc id e len,r,H=>by
   simp only[SV.rn] at H;split at H
   ·rename_i i hi;simp only[za1] at H;subst H;refine⟨by simp only[SV.conc,addr,(h id).1 i hi],λj J=>⟨id,by simp[SV.ids], ?_⟩⟩;simp only[SV.ids,zaj] at J;rw[J];exact hi
   ·rename_i hi;simp only[za1] at H;subst H;refine⟨by simp only[SV.conc,((h id).2 hi).1,((h id).2 hi).2,zdr,Nat.zero_sub],λj J=>by simp[SV.ids] at J⟩
   ·cases H
 | .agg cs,r,H=>by
   simp only[SV.rn] at H;split at H
   ·rename_i l Y;simp only[za1] at H;subst H;obtain⟨k1,k2⟩:=rns_conc h Y;exact⟨by simp only[SV.conc,k1],λj J=>by simp only[SV.ids] at J ⊢;exact k2 j J⟩
   ·cases H
 | .tup cs,r,H=>by
   simp only[SV.rn] at H;split at H
   ·rename_i l Y;simp only[za1] at H;subst H;obtain⟨k1,k2⟩:=rns_conc h Y;exact⟨by simp only[SV.conc,k1],λj J=>by simp only[SV.ids] at J ⊢;exact k2 j J⟩
   ·cases H
 | .fn g a c,r,H=>by
   simp only[SV.rn] at H;split at H
   ·rename_i a' c' h1 h2;simp only[za1] at H;subst H;obtain⟨k1,k2⟩:=rns_conc h h1;obtain⟨Z,l2⟩:=rns_conc h h2;refine⟨by simp only[SV.conc,k1,Z],λj J=> ?_⟩;simp only[SV.ids,za8] at J ⊢;rcases J with J|J
    ·obtain⟨i,N,V⟩:=k2 j J;exact⟨i, .inl N,V⟩
    ·obtain⟨i,N,V⟩:=l2 j J;exact⟨i, .inr N,V⟩
   ·cases H
theorem rns_conc {f:Nat->Option (Option Nat)} {β β':Nat->Loc} (h:sS f β β'): ∀{s r:List SV},SV.rns f s=some r->SV.concs β' r=SV.concs β s/\ ∀j∈SV.idss r,∃i∈SV.idss s,f i=some (some j)
 | [],r,J=>by simp only[SV.rns,za1] at J;subst J;exact⟨rfl,λj H=>by simp[SV.idss] at H⟩
 |x::xs,r,J=>by
  simp only[SV.rns] at J;split at J
  ·rename_i y ys h1 h2;simp only[za1] at J;subst J;obtain⟨k1,k2⟩:=ol h h1;obtain⟨Y,Z⟩:=rns_conc h h2;refine⟨by simp only[SV.concs,k1,Y],λj H=> ?_⟩;simp only[SV.idss,za8] at H ⊢;rcases H with H|H
   ·obtain⟨i,N,V⟩:=k2 j H;exact⟨i, .inl N,V⟩
   ·obtain⟨i,N,V⟩:=Z j H;exact⟨i, .inr N,V⟩
  ·cases J
end
def D8:List Nat->Nat->Nat->Option Nat
 | [],_,_=>none
 |a::r,i,p=>bif Nat.beq a i then some p else D8 r i (p+1)
def rnF (src:zdT) (H:zdI) (nx i:Nat):Option (Option Nat):=match src[i]? with
 |some o=>some o
 |none=>match D8 H i nx with
  |some j=>some (some j)
  |none=>none
section
variable {P:Program} {W0:Base} {F:FuncId}
end
end Go.Sy
namespace Yk
open Go.Proofs.YtojcellmcbnmeaaGreatDoor
open Go Go.Sy
structure Nd where
 op:Int
 v:RS
 u:Un
 n:Int
 l:Int
 r:Int
structure Pr where
 id:Int
 inp:List Un
 nod:List Nd
 out:Un
def noN:Nd:=⟨0,VI,noU,0,0,0⟩
def noP:Pr:=⟨0, [], [],noU⟩
def svN (x:Nd):zdK:= [.val (.int .i64 x.op), .val (.string x.v.1), .val (.string x.v.2), .val (.int .i64 x.u.d.d0.1), .val (.int .i64 x.u.d.d0.2), .val (.int .i64 x.u.d.d1.1), .val (.int .i64 x.u.d.d1.2), .val (.int .i64 x.u.d.d2.1), .val (.int .i64 x.u.d.d2.2), .val (.int .i64 x.u.d.d3.1), .val (.int .i64 x.u.d.d3.2), .val (.int .i64 x.u.d.d4.1), .val (.int .i64 x.u.d.d4.2), .val (.int .i64 x.u.d.d5.1), .val (.int .i64 x.u.d.d5.2), .val (.int .i64 x.u.d.d6.1), .val (.int .i64 x.u.d.d6.2), .val (.string x.u.f.1), .val (.string x.u.f.2), .val (.string x.u.o.1), .val (.string x.u.o.2), .val (.int .i64 x.u.k), .val (.int .i64 x.u.s), .val (.int .i64 x.n), .val (.int .i64 x.l), .val (.int .i64 x.r)]
def Vh:List SV->Nd
 | [.val (.int .i64 op), .val (.string v1), .val (.string v2), .val (.int .i64 H), .val (.int .i64 b0), .val (.int .i64 J), .val (.int .i64 b1), .val (.int .i64 N), .val (.int .i64 b2), .val (.int .i64 V), .val (.int .i64 b3), .val (.int .i64 Y), .val (.int .i64 b4), .val (.int .i64 Z), .val (.int .i64 b5), .val (.int .i64 a6), .val (.int .i64 b6), .val (.string f1), .val (.string f2), .val (.string o1), .val (.string o2), .val (.int .i64 k), .val (.int .i64 s), .val (.int .i64 n), .val (.int .i64 l), .val (.int .i64 r)]=>
   ⟨op,(v1,v2),⟨mk7 H b0 J b1 N b2 V b3 Y b4 Z b5 a6 b6,(f1,f2),(o1,o2),k,s⟩,n,l,r⟩
 |_=>noN
def Px (cs:zdK):Un:=match Au (.agg cs) with
 |some u=>u
 |none=>noU
def NH (cs:zdK):RS:=match cs with
 | [.val (.string a), .val (.string b)]=>(a,b)
 |_=>VI
def gA (r:RS):zdK:= [.val (.string r.1), .val (.string r.2)]
theorem fR (x:Nd):Vh (svN x)=x:=rfl
theorem Kp (u:Un):Px (ci u)=u:=rfl
theorem Kq (r:RS):NH (gA r)=r:=rfl
theorem arA (x:Nd):SV.idss (svN x)= []:=rfl
theorem fj (x:Un):SV.idss (ci x)= []:=rfl
theorem GG (x:RS):SV.idss (gA x)= []:=rfl
def tab {α:Type} (f:Nat->α):Nat->List α
 |0=> []
 |n+1=>tab f n++ [f n]
def szB (u:Un):Bool:=uzR u.f&&uzR u.o
def szN (x:Nd):Bool:=uzR x.v&&szB x.u
def eqN (x y:Nd):Bool:=x.op==y.op&&(eqR x.v y.v&&(eqU x.u y.u&&(x.n==y.n&&(x.l==y.l&&(x.r==y.r&&true)))))
def earF (H:Int) (i:Int):Bool:=decide (0<=i)&&decide (i<H)
abbrev Iv:=RS×RS
def noI:Iv:=(VI,VI)
def zR:RS:=(⟨#[48]⟩,⟨#[49]⟩)
def uzI (x:Iv):Bool:=uzR x.1&&uzR x.2
def vI (x:Iv):Bool:=rV x.1&&rV x.2&&decide (b9 x.1 x.2<=0)
def auf (x:Iv) (r:RS):Bool:=vI x&&rV r&&decide (b9 x.1 r<=0)&&decide (b9 r x.2<=0)
def ptI (r:RS):Iv:=bif rV r then(r,r) else noI
def R6:Iv×Int:=(noI,50)
def ad3 (l h:RS×Int):Iv×Int:=bif l.2==0&&h.2==0 then((l.1,h.1),0) else R6
def agy (a b:Iv):Iv×Int:=bif vI a&&vI b then ad3 (fZ a.1 b.1) (fZ a.2 b.2) else R6
def agz (a b:Iv):Iv×Int:=bif vI a&&vI b then ad3 (iF a.1 b.2) (iF a.2 b.1) else R6
def aey:List RS->RS->RS
 | [],m=>m
 |x::r,m=>aey r (bif decide (b9 x m<0) then x else m)
def aez:List RS->RS->RS
 | [],m=>m
 |x::r,m=>aez r (bif decide (b9 x m>0) then x else m)
def ae6 (a b c d:RS×Int):Iv×Int:=bif a.2==0&&b.2==0&&c.2==0&&d.2==0 then((aey [b.1,c.1,d.1] a.1,aez [b.1,c.1,d.1] a.1),0) else R6
def adC (a b:Iv):Iv×Int:=bif vI a&&vI b then ae6 (ale a.1 b.1) (ale a.1 b.2) (ale a.2 b.1) (ale a.2 b.2) else R6
def ac7 (a b:Iv):Iv×Int:=bif vI a&&vI b&& !auf b zR then ae6 (cA a.1 b.1) (cA a.1 b.2) (cA a.2 b.1) (cA a.2 b.2) else R6
def aeA (a:Iv) (p:Int):Iv×Int:=bif vI a then ad3 (acv a.1 p) (rUp a.2 p) else R6
def yl (x:Iv):zdK:= [.val (.string x.1.1), .val (.string x.1.2), .val (.string x.2.1), .val (.string x.2.2)]
def aiE:SV->Option Iv
 | .agg [.val (.string a), .val (.string b), .val (.string c), .val (.string d)]=>some ((a,b),(c,d))
 |_=>none
def cIv:Cod Iv where
 dec:=aiE
 enc r:= .agg (yl r)
 ok s a h:=by
  unfold aiE at h;split at h
  ·simp at h;rw[<-h];rfl
  ·cases h
 ids _:=by simp[yl,SV.ids,SV.idss]
end Yk
namespace Go.Sy
open Go.RowKit
mutual
theorem GH {f:Nat->Option (Option Nat)}: ∀{s r:SV},s.rn f=some r-> ∀i∈s.ids,f i≠none
 | .val v,r,H,i,hi=>by simp[SV.ids] at hi
 | .ptr id e o,r,H,i,hi=>by
   simp only[SV.ids,zaj] at hi;subst hi;intro h;simp only[SV.rn,h] at H;cases H
 | .mp id,r,H,i,hi=>by
   simp only[SV.ids,zaj] at hi;subst hi;intro h;simp only[SV.rn,h] at H;cases H
 | .slc id e len,r,H,i,hi=>by
   simp only[SV.ids,zaj] at hi;subst hi;intro h;simp only[SV.rn,h] at H;cases H
 | .agg cs,r,H,i,hi=>by
   simp only[SV.rn] at H;split at H
   ·rename_i l J;exact rns_dom J i (by simpa [SV.ids] using hi)
   ·cases H
 | .tup cs,r,H,i,hi=>by
   simp only[SV.rn] at H;split at H
   ·rename_i l J;exact rns_dom J i (by simpa [SV.ids] using hi)
   ·cases H
 | .fn g a c,r,H,i,hi=>by
   simp only[SV.rn] at H;split at H
   ·rename_i N V h1 h2;simp only[SV.ids,za8] at hi;exact hi.elim (rns_dom h1 i) (rns_dom h2 i)
   ·cases H
theorem rns_dom {f:Nat->Option (Option Nat)}: ∀{s r:List SV},SV.rns f s=some r-> ∀i∈SV.idss s,f i≠none
 | [],r,H,i,hi=>by simp[SV.idss] at hi
 |x::xs,r,H,i,hi=>by
  simp only[SV.rns] at H;split at H
  ·rename_i y J h1 h2;simp only[SV.idss,za8] at hi;exact hi.elim (GH h1 i) (rns_dom h2 i)
  ·cases H
end
theorem mX {f:zdY}: ∀{l r:zdK},SV.rns f l=some r->r.length=l.length/\(∀(o:Nat) (s:SV),l[o]? =some s-> ∃J,r[o]? =some J/\s.rn f=some J)/\ ∀(o:Nat) (J:SV),r[o]? =some J-> ∃s,l[o]? =some s/\s.rn f=some J
 | [],r,h=>by simp only[SV.rns,za1] at h;subst h;simp
 |x::xs,r,h=>by
  simp only[SV.rns] at h;split at h
  ·rename_i y N h1 h2;simp only[za1] at h;subst h;obtain⟨k1,k2,k3⟩:=mX h2;refine⟨by simp[k1],λo s H=> ?_,λo s H=> ?_⟩
   ·cases o with
    |zero=>simp at H;subst H;exact⟨y,by simp,h1⟩
    |succ o=>simpa using k2 o s (by simpa using H)
   ·cases o with
    |zero=>simp at H;subst H;exact⟨x,by simp,h1⟩
    |succ o=>simpa using k3 o s (by simpa using H)
  ·cases h
def cN:BK->Bool
 | .own| .mpL| .mpI| .mpB| .itL| .itK=>true
 |_=>false
def wB (f:zdY) (C B:Blk):Prop:=C.sz=B.sz/\(C.nn=true->B.nn=true\/1<=C.n)/\match C.kd with
 | .gone=>True
 | .old=>B.kd≠ .gone/\B.kd.map=false/\C.n<=B.n/\ ∀e,e<C.n->SV.rns f (C.get e)=some (B.get e)
 | .own=>B.kd= .own/\1<=C.n/\1<=C.sz/\C.n<=B.n/\ ∀e,e<C.n->SV.rns f (C.get e)=some (B.get e)
 | .mpL=>B.kd= .mpL/\C.n=0/\ ∀e,SV.rns f (C.get e)=some (B.get e)
 | .mpI=>B.kd= .mpI/\C.n=0/\ ∀e,iG (C.get e)=iG (B.get e)
 | .mpB=>B.kd= .mpB/\C.n=0/\ ∀e,su (C.get e)=su (B.get e)
 | .itL=>False
 | .itK=>False
def kx (g:zdY) (B N:Blk):Prop:=N.kd= .gone\/(N.kd=B.kd/\N.sz=B.sz/\(N.nn=true->B.nn=true)/\N.n<=B.n/\match N.kd with
 | .own=> ∀e,e<N.n->SV.rns g (B.get e)=some (N.get e)
 | .mpL=> ∀e,SV.rns g (B.get e)=some (N.get e)
 | .mpI=> ∀e,iG (B.get e)=iG (N.get e)
 | .mpB=> ∀e,su (B.get e)=su (N.get e)
 |_=>False)
def yw (bl:zdM) (f:zdY):List (Option Nat)->List Blk->Prop
 | [], []=>True
 |o::os,C::H=>(match o with
  |none=>C.kd= .old/\C.n=0/\C.nn=false
  |some i=>match bl i with
   |some B=>wB f C B
   |none=>False)/\yw bl f os H
 |_,_=>False
theorem qU {bl:zdM} {f:zdY}: ∀{os:zdT} {Cs:zdU},yw bl f os Cs->os.length=Cs.length/\ ∀(j:Nat) (C:Blk),Cs[j]? =some C->(os[j]? =some none/\C.kd= .old/\C.n=0/\C.nn=false)\/ ∃i B,os[j]? =some (some i)/\bl i=some B/\wB f C B
 | [], [],_=>⟨rfl,λj C h=>by simp at h⟩
 |o::os,C::Cs,h=>by
  obtain⟨h1,h2⟩:=h;obtain⟨k1,k2⟩:=qU h2;refine⟨by simp[k1],λj M J=> ?_⟩;cases j with
  |zero=>
   simp only[zbA,za1] at J;subst J;cases o with
   |none=>exact .inl ⟨by simp,h1⟩
   |some i=>
    cases H:bl i with
    |none=>simp only[H] at h1
    |some B=>simp only[H] at h1;exact .inr ⟨i,B,by simp,H,h1⟩
  |succ j=>simpa using k2 j M (by simpa using J)
 | [],_::_,h=>h.elim
 |_::_, [],h=>h.elim
def D9:List (Option Nat)->Nat->Nat->Option Nat
 | [],_,_=>none
 |none::r,i,p=>D9 r i (p+1)
 |some a::r,i,p=>bif Nat.beq a i then some p else D9 r i (p+1)
theorem gP: ∀{l:zdT} {i p q:Nat},D9 l i p=some q-> ∃j,q=p+j/\l[j]? =some (some i)
 | [],i,p,q,h=>by cases h
 |none::r,i,p,q,h=>by
  obtain⟨j,h1,h2⟩:=gP (l:=r) h;exact⟨j+1,by omega,by simpa using h2⟩
 |some a::r,i,p,q,h=>by
  rw[D9,bS] at h;by_cases H:a=i
  ·simp only[H,decide_true,zdr,za1] at h;exact⟨0,by omega,by simp[H]⟩
  ·simp only[H,decide_false,zdq] at h;obtain⟨j,h1,h2⟩:=gP h;exact⟨j+1,by omega,by simpa using h2⟩
def rnG (src H:zdT) (nx i:Nat):Option (Option Nat):=match src[i]? with
 |some o=>some o
 |none=>match D9 H i nx with
  |some j=>some (some j)
  |none=>none
def dt (src H:zdT) (nx i:Nat):Option (Option Nat):=bif Nat.ble nx i then H[i - nx]? else match D9 src i 0 with
 |some j=>some (some j)
 |none=>none
variable {src nws:zdT} {nx:Nat}
theorem jA (q:Nat):dt src nws nx (nx+q)=nws[q]? :=by
 unfold dt;rw[zae (zd8 nx q),zdr,zbb]
theorem cO:dt src nws nx nx=nws[0]? :=jA 0
def newB (bl:zdM) (g:zdY) (b:Nat) (nm:Bool):List (Option Nat)->List Blk->Prop
 | [], []=>True
 |some i::is,N::H=>(b<=i/\match bl i with
  |some B=>N.kd≠ .gone/\(N.kd= .own->nm=true\/1<=N.n/\1<=N.sz)/\kx g B N
  |none=>False)/\newB bl g b nm is H
 |none::is,N::H=>(N.kd= .own/\N.n=0/\N.nn=false)/\newB bl g b nm is H
 |_,_=>False
theorem wC {bl:zdM} {g:zdY} {b:Nat} {nm:Bool}: ∀{is:zdT} {Ns:zdU},newB bl g b nm is Ns->is.length=Ns.length/\ ∀(j:Nat) (N:Blk),Ns[j]? =some N->(is[j]? =some none/\N.kd= .own/\N.n=0/\N.nn=false)\/ ∃i B,is[j]? =some (some i)/\b<=i/\bl i=some B/\N.kd≠ .gone/\(N.kd= .own->nm=true\/1<=N.n/\1<=N.sz)/\kx g B N
 | [], [],_=>⟨rfl,λj C h=>by simp at h⟩
 |some i::is,C::V,h=>by
  obtain⟨⟨h0,h1⟩,h2⟩:=h;obtain⟨k1,k2⟩:=wC h2;refine⟨by simp[k1],λj M H=> ?_⟩;cases j with
  |zero=>
   simp only[zbA,za1] at H;subst H;cases J:bl i with
   |none=>simp only[J] at h1
   |some B=>simp only[J] at h1;exact .inr ⟨i,B,by simp,h0,J,h1⟩
  |succ j=>simpa using k2 j M (by simpa using H)
 |none::is,C::V,h=>by
  obtain⟨h1,h2⟩:=h;obtain⟨k1,k2⟩:=wC h2;refine⟨by simp[k1],λj M H=> ?_⟩;cases j with
  |zero=>
   simp only[zbA,za1] at H;subst H;exact .inl ⟨by simp,h1⟩
  |succ j=>simpa using k2 j M (by simpa using H)
 | [],_::_,h=>h.elim
 |some _::_, [],h=>h.elim
 |none::_, [],h=>h.elim
def chR (bl:zdM) (g:zdY):List (Option Nat)->List Blk->Nat->List (Nat×Blk)->Prop
 | [], [],_, []=>True
 |o::os,C::H,j,ch=>match cN C.kd with
  |true=>match o,ch with
   |some i,p::ch=>p.1=i/\(C.kd= .own\/p.2.kd≠ .gone)/\(match bl j with
    |some B=>kx g B p.2
    |none=>False)/\chR bl g os H (j+1) ch
   |_,_=>False
  |false=>chR bl g os H (j+1) ch
 |_,_,_,_=>False
theorem Av {bl:zdM} {g:zdY}: ∀{os:zdT} {Cs:zdU} {j:Nat} {ch:List (Nat×Blk)},chR bl g os Cs j ch->
 (∀p∈ch,∃k C B,Cs[k]? =some C/\cN C.kd=true/\os[k]? =some (some p.1)/\bl (j+k)=some B/\kx g B p.2/\(C.kd= .own\/p.2.kd≠ .gone))/\ ∀(k:Nat) (C:Blk) (i:Nat),Cs[k]? =some C->cN C.kd=true->os[k]? =some (some i)->i∈ch.map (·.1)
 | [], [],_, [],_=>⟨λp hp=>by simp at hp,λk C i h=>by simp at h⟩
 |o::os,C::Cs,j,ch,h=>by
  simp only[chR] at h;cases N:cN C.kd with
  |false=>
   rw[N] at h;obtain⟨k1,k2⟩:=Av h;refine⟨λp hp=> ?_,λk D i J H hi=> ?_⟩
   ·obtain⟨k,D,B,V,Y,Z,a4,a5⟩:=k1 p hp;exact⟨k+1,D,B,by simpa using V,Y,by simpa using Z,by rw[show j+(k+1)=j+1+k by omega];exact a4,a5⟩
   ·cases k with
    |zero=>simp at J;subst J;rw[N] at H;cases H
    |succ k=>exact k2 k D i (by simpa using J) H (by simpa using hi)
  |true=>
   rw[N] at h
   match o,ch,h with
   |some i,p::a0,h=>
    obtain⟨h1,h4,h2,h3⟩:=h;obtain⟨k1,k2⟩:=Av h3;refine⟨λq hq=> ?_,λk D i' J H hi=> ?_⟩
    ·rcases zai.1 hq with rfl|hq
     ·cases hb:bl j with
      |none=>simp only[hb] at h2
      |some B=>simp only[hb] at h2;exact⟨0,C,B,by simp,N,by simp[h1],hb,h2,h4⟩
     ·obtain⟨k,D,B,V,Y,Z,a4,a5⟩:=k1 q hq;exact⟨k+1,D,B,by simpa using V,Y,by simpa using Z,by rw[show j+(k+1)=j+1+k by omega];exact a4,a5⟩
    ·cases k with
     |zero=>simp at hi;subst hi;simp[h1]
     |succ k=>
      have:=k2 k D i' (by simpa using J) H (by simpa using hi);simp only[zaK,zai];exact .inr this
   |some i, [],h=>exact h.elim
   |none,_,h=>exact h.elim
 | [], [],_,_::_,h=>h.elim
 | [],_::_,_,_,h=>by simp[chR] at h
 |_::_, [],_,_,h=>by simp[chR] at h
theorem Wp {bl:zdM}: ∀{ch:List (Nat×Blk)} {i:Nat},(i∈ch.map (·.1)-> ∃D,chB bl ch i=some D/\(i,D)∈ch)/\(i∉ch.map (·.1)->chB bl ch i=bl i)
 | [],i=>⟨λh=>by simp at h,λ_=>rfl⟩
 |(k,D)::r,i=>by
  obtain⟨h1,h2⟩:=Wp (bl:=bl) (ch:=r) (i:=i);by_cases H:i=k
  ·subst H;exact⟨λ_=>⟨D,by rw[chB,az],by simp⟩,λh=>absurd (by simp) h⟩
  ·refine⟨λh=> ?_,λh=> ?_⟩
   ·rw[chB,ak H];obtain⟨E,J,N⟩:=h1 (by simp only[zaK,zai] at h;exact h.resolve_left H);exact⟨E,J,zan _ N⟩
   ·rw[chB,ak H];exact h2 λV=>h (by simp only[zaK,zai];exact .inr V)
def KB (C:RC) (src:zdT) (Cs:zdU) (nx:Nat):Aft:=λr bl _ _=> ∃x,C.spec x/\ ∃H:zdT,(match C.pan x with
 |none=> ∃s,r= .ok s/\(C.out x).rn (dt src H nx)=some s
 |some v=>r= .pan v)/\(ck H).Nodup/\newB bl (rnG src H nx) Cs.length (Cs.all λC=> !C.kd.map) H (C.nw x)/\chR bl (rnG src H nx) src Cs 0 (C.ch x)
variable {β1 β2:zdJ} {i1 i2:Nat} {B1 B2:Blk} {w:World}
theorem wD (h:BlkOK β1 i1 B1 w) (J:β1 i1=β2 i2) (H:B2.sz=B1.sz) (hn:B2.n<=B1.n) (hk:B2.kd= .own->B1.kd= .own) (Y:B2.nn=true->B1.nn=true\/1<=B2.n)
 (Z: ∀e,e<B2.n->(B2.get e).length=(B1.get e).length/\ ∀(o:Nat) (s:SV),(B2.get e)[o]? =some s-> ∃N,(B1.get e)[o]? =some N/\s.conc β2=N.conc β1):BlkOK β2 i2 B2 w:=
 ⟨by rw[<-J,H];exact h.sz,by rw[<-J];exact h.lt,by rw[<-J];exact zac hn h.le,λe V=>by rw[(Z e V).1,H];exact h.len e (by omega),by rw[<-J,H];exact h.ex,λq=>by rw[<-J,H];exact h.fr (hk q),
   λe V o s hs=>by
    obtain⟨N,h1,h2⟩:=(Z e V).2 o s hs;rw[show addr β2 i2 e o=addr β1 i1 e o by simp only[addr,J],h2]
    exact h.val e (by omega) o N h1,by rw[<-J];exact h.nil,λq=>by rw[<-J];exact(Y q).elim h.nn λk=>h.not_nil (e:=0) (by omega)⟩
theorem Aw (h:BlkOK β1 i1 B1 w) (V:β1 i1=β2 i2) (J:B2.sz=B1.sz) (Z:B2.n=0) (N:B2.kd= .own->B1.kd= .own) (H:B2.nn=true->B1.nn=true\/1<=B2.n):BlkOK β2 i2 B2 w:=
 wD h V J (by omega) N H λe Y=>by omega
variable {β:zdJ}
theorem MapOK.rn {β':zdJ} {b:Nat} {w':World} {k:BK} {g1 g2:zdN} (h:MapOK β b w k g1) (V:w'.heap[b]? =w.heap[b]?)
 (hL:k= .mpL-> ∀e,(g2 e).length=(g1 e).length/\ ∀(o:Nat) (s:SV),(g2 e)[o]? =some s-> ∃s',(g1 e)[o]? =some s'/\s.conc β'=s'.conc β) (hI:k= .mpI-> ∀e,iG (g2 e)=iG (g1 e)) (hB:k= .mpB-> ∀e,su (g2 e)=su (g1 e)) (H:k.it=false):MapOK β' b w' k g2:=by
 cases k with
 |mpL=>
  obtain⟨es,h1,h2,h3,h4⟩:=h;refine⟨es,by rw[V];exact h1,h2,λe N=> ?_,λe N=> ?_⟩
  ·obtain⟨k,v,k1,k2⟩:=h3 e N;obtain⟨l1,J⟩:=hL rfl e;rw[k1] at l1 J
   match hg:g2 e,l1 with
   | [k',v'],_=>
     rw[hg] at J;obtain⟨s,Y,a2⟩:=J 0 k' (by simp);obtain⟨t,Z,b2⟩:=J 1 v' (by simp);simp at Y Z;subst Y Z;exact⟨k',v',rfl,by rw[a2,b2];exact k2⟩
  ·have:=(hL rfl e).1;rw[h4 e N] at this;exact zau (by simpa using this)
 |mpI=>obtain⟨L,h1,h2⟩:=h;exact⟨L,by rw[V];exact h1,λk=>by rw[hI rfl];exact h2 k⟩
 |mpB=>obtain⟨L,h1,h2,h3⟩:=h;exact⟨L,by rw[V];exact h1,λk=>by rw[hB rfl];exact h2 k,h3⟩
 |itL=>cases H
 |itK=>cases H
 |_=>trivial
def Kr (src:zdT) (H:zdU):Prop:= ∀(j k i:Nat) (C:Blk),src[j]? =some (some i)->src[k]? =some (some i)->H[k]? =some C->cN C.kd=true->j=k
variable {Cs:zdU}
theorem bH (h: ∀C∈Cs,cN C.kd=false):Kr src Cs:=λj k i C _ _ J H=>by rw[h C (zal J)] at H;cases H
theorem yx (h:(ck src).Nodup): ∀{j k i:Nat},src[j]? =some (some i)->src[k]? =some (some i)->j=k:=by
 intro j k i J N
 induction src generalizing j k with
 |nil=>simp at J
 |cons o r V=>
  have H: ∀{m:Nat},r[m]? =some (some i)->i∈ck r:=λ{m} Y=>Wd.2 ⟨m,Y⟩;cases o with
  |none=>
   cases j with
   |zero=>simp at J
   |succ j=>cases k with
    |zero=>simp at N
    |succ k=>exact congrArg Nat.succ (V h (by simpa using J) (by simpa using N))
  |some a=>
   simp only[ck,zd6] at h;cases j with
   |zero=>
    simp at J;subst J;cases k with
    |zero=>rfl
    |succ k=>exact absurd (H (by simpa using N)) h.1
   |succ j=>cases k with
    |zero=>simp at N;subst N;exact absurd (H (by simpa using J)) h.1
    |succ k=>exact congrArg Nat.succ (V h.2 (by simpa using J) (by simpa using N))
theorem aeB (h:(ck src).Nodup):Kr src Cs:=λ_ _ _ _ H J _ _=>yx h H J
theorem qW {i:Nat} {B:Blk} (h:BlkOK β i B w) (H: ∀j,w.cell? ⟨(β i).blk,j,none⟩=none) (h1:1<=B.n) (h2:1<=B.sz):False:=by
 have:=h.ex 0 (Nat.mul_pos (zam h1 h.le) h2);rw[H] at this;cases this
section
variable {P:Program} {W0:Base} {F:FuncId}
def fS (w:World) (β:zdJ) (src:zdT) (Cs:zdU):Base where
 w:=w
 S:=λb=>(List.range Cs.length).any λj=>match Cs[j]?,src[j]? with
  |some C,some (some i)=>cN C.kd&& !(β i).nil&&Nat.beq (β i).blk b
  |_,_=>false
variable {w:World} {β:zdJ} {src:zdT} {Cs:zdU}
theorem Wc {b:Nat}:(fS w β src Cs).S b=true↔ ∃(j:Nat) (C:Blk) (i:Nat),Cs[j]? =some C/\src[j]? =some (some i)/\cN C.kd=true/\(β i).nil=false/\(β i).blk=b:=by
 simp only[fS,zaP,zaC];constructor
 ·rintro⟨j,H,h⟩;split at h
  ·rename_i C i h1 h2;simp only[za2,zap] at h;exact⟨j,C,i,h1,h2,h.1.1,h.1.2,zab h.2⟩
  ·cases h
 ·rintro⟨j,C,i,h1,h2,h3,h4,rfl⟩;refine⟨j, ?_, ?_⟩
  ·rcases zah j Cs.length with h|h
   ·exact h
   ·rw[zad h] at h1;cases h1
  ·simp[h1,h2,h3,h4]
def ie (β:zdJ) (src:zdT) (H:zdU) (j:Nat):Loc:=match src[j]? with
 |some (some i)=>β i
 |_=>⟨0,0,(match H[j]? with
  |some C=>C.sz
  |none=>0),0,true⟩
variable {j i:Nat}
theorem dn (h:src[j]? =some (some i)):ie β src Cs j=β i:=by simp only[ie,h]
theorem qj {C:Blk} (h:src[j]? =some none) (H:Cs[j]? =some C):ie β src Cs j=⟨0,0,C.sz,0,true⟩:=by simp only[ie,h,H]
variable {nx:Nat}
theorem lO:sS (rnF src [] nx) (ie β src Cs) β:=by
 intro j;refine⟨λi hi=> ?_,λhi=> ?_⟩
 ·simp only[rnF,D8] at hi;split at hi
  ·rename_i o H;simp only[za1] at hi;subst hi;exact dn H
  ·cases hi
 ·simp only[rnF,D8] at hi;split at hi
  ·rename_i o H;simp only[za1] at hi;subst hi;simp only[ie,H,and_self]
  ·cases hi
variable {f:zdY} {β1 β2:zdJ} {l r:zdK}
theorem sT (J:sS f β1 β2) (h:SV.rns f l=some r):l.length=r.length/\ ∀(o:Nat) (s:SV),l[o]? =some s-> ∃H,r[o]? =some H/\s.conc β1=H.conc β2:=by
 obtain⟨h1,h2,_⟩:=mX h;refine⟨h1.symm,λo s Y=> ?_⟩;obtain⟨H,N,V⟩:=h2 o s Y;exact⟨H,N,(ol J V).1.symm⟩
theorem Cn (J:sS f β1 β2) (h:SV.rns f l=some r):r.length=l.length/\ ∀(o:Nat) (s:SV),r[o]? =some s-> ∃H,l[o]? =some H/\s.conc β2=H.conc β1:=by
 obtain⟨h1,_,h3⟩:=mX h;refine⟨h1,λo s Y=> ?_⟩;obtain⟨H,N,V⟩:=h3 o s Y;exact⟨H,N,(ol J V).1⟩
theorem kY {k:BK} (h:k.map=true):cN k=true:=by cases k<;>first|rfl|cases h
def Far (src:zdT) (H:zdU):Prop:=(∀C∈H,C.kd.map=false)\/ ∀(j:Nat) (C:Blk) (i:Nat),H[j]? =some C->src[j]? =some (some i)->C.kd= .old->1<=C.n/\1<=C.sz
variable {bl:zdM}
theorem NI (N:BC W0 bl β w) (C0:yw bl (rnF src [] nx) src Cs) (q0:Kr src Cs) (w0:Far src Cs):
 BC (fS w β src Cs) (λi=>Cs[i]?) (ie β src Cs) w:=by
 obtain⟨sl,Z⟩:=qU C0;have y0: ∀{j:Nat} {o:Option Nat},src[j]? =some o-> ∃C,Cs[j]? =some C:=λ{j o} h=>by
  rcases zah j src.length with h'|h'
  ·exact⟨Cs[j]'(by omega),zaa (by omega)⟩
  ·rw[zad h'] at h;cases h
 have g0: ∀{j i:Nat} {C:Blk},Cs[j]? =some C->src[j]? =some (some i)->cN C.kd=true->(β i).nil=false->(fS w β src Cs).mine (β i).blk:=λ{j i C} h1 h2 h3 h4=> .inr (Wc.2 ⟨j,C,i,h1,h2,h3,h4,rfl⟩);have domain: ∀{l r:zdK} {s:SV},SV.rns (rnF src [] nx) l=some r->s∈l->Live (λi=>Cs[i]?) s:=λ{l r s} h hs i hi=>by
  have:=rns_dom h i (SV.mem_idss.2 ⟨s,hs,hi⟩);simp only[rnF,D8] at this;split at this
  ·rename_i o ho;obtain⟨C,V⟩:=y0 ho;show Cs[i]? ≠none;rw[V];simp
  ·exact absurd rfl this
 have apart: ∀{j i:Nat} {C B:Blk},Cs[j]? =some C->src[j]? =some (some i)->bl i=some B->C.kd= .old->B.kd≠ .gone->B.kd.map=false->(β i).nil=false->C.sz=B.sz->C.n<=B.n->(fS w β src Cs).S (β i).blk=false:=by
  intro j i C B V hi hB J hg hm hn N0 L0;cases hS:(fS w β src Cs).S (β i).blk with
  |false=>rfl
  |true=>
   exfalso;obtain⟨j',C',i',h1,h2,h3,h4,h5⟩:=Wc.1 hS;rcases Z j' C' h1 with ⟨q,_⟩|⟨i2,B',q1,q2,q3⟩
   ·rw[h2] at q;cases q
   rw[h2] at q1;simp only[za1] at q1;subst q1;have I0:i'≠i:=λe=>by
    subst e;have:=q0 _ _ _ _ hi h2 h1 h3;subst this;rw[V] at h1;simp only[za1] at h1;subst h1;rw[J] at h3;cases h3
   have mapcase:C'.kd.map=true->B'.kd.map=true->False:=λr0 z0=>by
    have v0:=λj=>(N.maps.ok i' B' q2 z0).2.2.2.cellN z0 j;rw[h5] at v0;rcases w0 with hf|hf
    ·rw[hf C' (zal h1)] at r0;cases r0
    ·obtain⟨f1,f2⟩:=hf j C i V hi J;exact qW (N.blk i B hB hg) v0 (by omega) (by omega)
   obtain⟨_,_,q4⟩:=q3;cases a0:C'.kd with
   |own=>
    simp only[a0] at q4;have k1:=N.own i' B' q2 q4.1 h4;cases i0:B.kd with
    |own=>exact I0 (N.inj i' i B' B q2 hB q4.1 i0 h4 hn h5)
    |old=>exact absurd (h5▸k1) (N.old i B hB i0 hn).1
    |gone=>exact hg i0
    |_=>rw[i0] at hm;cases hm
   |mpL=>simp only[a0] at q4;exact mapcase (by rw[a0];rfl) (by rw[q4.1];rfl)
   |mpI=>simp only[a0] at q4;exact mapcase (by rw[a0];rfl) (by rw[q4.1];rfl)
   |mpB=>simp only[a0] at q4;exact mapcase (by rw[a0];rfl) (by rw[q4.1];rfl)
   |itL=>simp only[a0] at q4
   |itK=>simp only[a0] at q4
   |_=>rw[a0] at h3;cases h3
 refine⟨Pres.self _, ?_, ?_, ?_, ?_, ?_, ?_, ?_, ?_, ?_⟩
 ·intro j C V hg;rcases Z j C V with ⟨q,kd,n0,nn⟩|⟨i,B,q1,q2,q3,q4,H⟩
  ·have e:=qj (β:=β) q V;refine⟨by rw[e],λq=>(by rw[e] at q;cases q),by rw[n0];exact zaA _,λe' o0=>by rw[n0] at o0;omega,λj' x0=>by rw[e] at x0;simp at x0,λq=>(by rw[kd] at q;cases q),λe' o0=>by rw[n0] at o0;omega,λ_=>by rw[e],λq=>(by rw[nn] at q;cases q)⟩
  ·have hl:β i=ie β src Cs j:=(dn q1).symm;cases J:C.kd with
   |gone=>exact absurd J hg
   |old=>simp only[J] at H;exact wD (N.blk i B q2 H.1) hl q3 H.2.2.1 (λh=>by rw[J] at h;cases h) q4 λe he=>sT lO (H.2.2.2 e he)
   |own=>simp only[J] at H;exact wD (N.blk i B q2 (by rw[H.1];simp)) hl q3 H.2.2.2.1 (λ_=>H.1) q4 λe he=>sT lO (H.2.2.2.2 e he)
   |mpL=>simp only[J] at H;exact Aw (N.blk i B q2 (by rw[H.1];simp)) hl q3 H.2.1 (λh=>by rw[J] at h;cases h) q4
   |mpI=>simp only[J] at H;exact Aw (N.blk i B q2 (by rw[H.1];simp)) hl q3 H.2.1 (λh=>by rw[J] at h;cases h) q4
   |mpB=>simp only[J] at H;exact Aw (N.blk i B q2 (by rw[H.1];simp)) hl q3 H.2.1 (λh=>by rw[J] at h;cases h) q4
   |itL=>simp only[J] at H
   |itK=>simp only[J] at H
 ·intro j C V J hn;rcases Z j C V with ⟨q,kd,_⟩|⟨i,B,q1,q2,_⟩
  ·rw[kd] at J;cases J
  ·rw[dn q1] at hn ⊢;exact g0 V q1 (by rw[J];rfl) hn
 ·intro j C V J hn;rcases Z j C V with ⟨q,kd,_⟩|⟨i,B,q1,q2,q3,q4,H⟩
  ·rw[qj q V] at hn;cases hn
  ·rw[dn q1] at hn ⊢;simp only[J] at H;have M0:=(N.blk i B q2 H.1).lt hn;refine⟨?_,rfl⟩;rintro(hm|hm)
   ·have:w.heap.size<=(β i).blk:=hm;omega
   ·rw[apart V q1 q2 J H.1 H.2.1 hn q3 H.2.2.1] at hm;cases hm
 ·intro i j C D V hD e0 Y hn B0 he;rcases Z i C V with ⟨q,kd,_⟩|⟨i1,B,q1,q2,_,_,H⟩
  ·rw[kd] at e0;cases e0
  rcases Z j D hD with ⟨r,kd,_⟩|⟨j1,B',r1,r2,_,_,r5⟩
  ·rw[kd] at Y;cases Y
  simp only[e0] at H;simp only[Y] at r5;rw[dn q1] at hn he;rw[dn r1] at B0 he;have:=N.inj i1 j1 B B' q2 r2 H.1 r5.1 hn B0 he;subst this;exact q0 _ _ _ _ q1 r1 hD (by first|(rw[Y];rfl)|exact kY Y)
 ·intro j C e o s V hg he hs;rcases Z j C V with ⟨q,kd,n0,nn⟩|⟨i,B,q1,q2,q3,q4,H⟩
  ·rw[n0] at he;omega
  ·cases J:C.kd with
   |gone=>exact absurd J hg
   |old=>simp only[J] at H;exact domain (H.2.2.2 e he) (zal hs)
   |own=>simp only[J] at H;exact domain (H.2.2.2.2 e he) (zal hs)
   |mpL=>simp only[J] at H;rw[H.2.1] at he;omega
   |mpI=>simp only[J] at H;rw[H.2.1] at he;omega
   |mpB=>simp only[J] at H;rw[H.2.1] at he;omega
   |itL=>simp only[J] at H
   |itK=>simp only[J] at H
 ·intro j C V hm;rcases Z j C V with ⟨q,kd,n0,nn⟩|⟨i,B,q1,q2,q3,q4,H⟩
  ·rw[kd] at hm;cases hm
  ·have m0:B.kd=C.kd/\C.n=0:=by
    cases J:C.kd<;>simp only[J] at H hm ⊢ <;>first|exact⟨H.1,H.2.1⟩|cases hm
   obtain⟨m1,m2,m3,m4⟩:=N.maps.ok i B q2 (by rw[m0.1];exact hm);rw[dn q1];refine⟨m0.2,m2,g0 V q1 (kY hm) m2, ?_⟩;rw[m0.1] at m4;refine MapOK.rn (show MapOK β (β i).blk w C.kd B.get from m4) rfl (λh=> ?_) (λh=> ?_) (λh=> ?_) ?_
   ·simp only[h] at H;exact λe=>sT lO (H.2.2 e)
   ·simp only[h] at H;exact H.2.2
   ·simp only[h] at H;exact H.2.2
   ·cases J:C.kd<;>first|rfl|(simp only[J] at H)
 ·intro i j C D V hD e0 Y he;rcases Z i C V with ⟨q,kd,_⟩|⟨i1,B,q1,q2,_,_,H⟩
  ·rw[kd] at e0;cases e0
  rcases Z j D hD with ⟨r,kd,_⟩|⟨j1,B',r1,r2,_,_,r5⟩
  ·rw[kd] at Y;cases Y
  rw[dn q1,dn r1] at he;have E0:B.kd.map=true:=by cases J:C.kd<;>simp only[J] at H e0<;>first|(rw[H.1];rfl)|cases e0
  have H0:B'.kd.map=true:=by cases J:D.kd<;>simp only[J] at r5 Y<;>first|(rw[r5.1];rfl)|cases Y
  have:=N.maps.inj i1 j1 B B' q2 r2 E0 H0 he;subst this;exact q0 _ _ _ _ q1 r1 hD (by first|(rw[Y];rfl)|exact kY Y)
 ·intro j C e s V J hs;rcases Z j C V with ⟨q,kd,_⟩|⟨i,B,q1,q2,q3,q4,H⟩
  ·rw[kd] at J;cases J
  ·cases p0:C.kd<;>simp only[p0] at H J<;>first|exact domain (H.2.2 e) hs|cases J
 ·intro j C V J;rcases Z j C V with ⟨q,kd,_⟩|⟨i,B,q1,q2,q3,q4,H⟩
  ·rw[kd] at J;cases J
  ·cases p0:C.kd<;>simp only[p0] at H J<;>cases J
theorem GI (H:BC W0 bl β w) (V:yw bl (rnF src [] nx) src Cs):SubB (fS w β src Cs) W0:=by
 refine⟨H.below,λb hb=> ?_⟩;obtain⟨j,C,i,h1,h2,h3,h4,rfl⟩:=Wc.1 hb;rcases(qU V).2 j C h1 with ⟨q,_⟩|⟨i',B,Z,Y,_,_,J⟩
 ·rw[h2] at q;cases q
 rw[h2] at Z;simp only[za1] at Z;subst Z;cases N:C.kd with
 |own=>simp only[N] at J;exact H.own i B Y J.1 h4
 |mpL=>simp only[N] at J;exact(H.maps.ok i B Y (by rw[J.1];rfl)).2.2.1
 |mpI=>simp only[N] at J;exact(H.maps.ok i B Y (by rw[J.1];rfl)).2.2.1
 |mpB=>simp only[N] at J;exact(H.maps.ok i B Y (by rw[J.1];rfl)).2.2.1
 |itL=>simp only[N] at J
 |itK=>simp only[N] at J
 |_=>rw[N] at h3;cases h3
theorem GJ {D:Blk} {w':World} (h:BlkOK β1 i D w) (N:β2 i=β1 i) (hs:w.heap.size<=w'.heap.size) (hh:(β1 i).nil=false->0<(β1 i).cap*D.sz->w'.heap[(β1 i).blk]? =w.heap[(β1 i).blk]?)
 (hv: ∀e,e<D.n-> ∀(o:Nat) (s:SV),(D.get e)[o]? =some s->s.conc β2=s.conc β1):BlkOK β2 i D w':=by
 have key: ∀j,j<(β1 i).cap*D.sz->(β1 i).nil=false/\w'.heap[(β1 i).blk]? =w.heap[(β1 i).blk]? :=λj H=>⟨(h.lt_cap H).1,hh (h.lt_cap H).1 (by omega)⟩;refine⟨by rw[N];exact h.sz,λq=>by rw[N] at q ⊢;exact zam (h.lt q) hs,by rw[N];exact h.le,h.len,λj H=> ?_,λq j H=> ?_,λe Y o s J=> ?_,by rw[N];exact h.nil,by rw[N];exact h.nn⟩
 ·rw[N] at H ⊢;have:=h.ex j H;simp only[World.cell?,(key j H).2] at this ⊢;exact this
 ·rw[N] at H ⊢;have:=h.fr q j H;simp only[World.frozen?,(key j H).2] at this ⊢;exact this
 ·have Z:o<D.sz:=by
   rw[<-h.len e Y];rcases zah o (D.get e).length with V|V
   ·exact V
   ·rw[zad V] at J;cases J
  have H:e*D.sz+o<(β1 i).cap*D.sz:=jS (by have:=h.le;omega) Z;rw[hv e Y o s J];have:=h.val e Y o s J;simp only[addr,N] at this ⊢;simp only[World.cell?,(key _ H).2] at this ⊢;exact this
def Ay (P:Program) (ok:FuncId->Bool) (Γ:zdO) (Γm:FuncId->Option MCtr) (Δ:FuncId->Option DCtr) (ann:zdV) (n:Nat):Inl:=λf args bl nx wl K=>bif ok f then(match P.funcs.toList[f]? with
 |some fn=>match fn.body with
  |some c=>spl (Γm (f+1073741824)).isSome (λargs hq=>vc P Γ (wn P ok Γ Γm Δ ann n) (ann f) c (gq P Δ fn.results.toList K) (sa (ann f) (fB args fn.ntmps bl nx wl hq))) args
  |none=>False
 |none=>False) else False
theorem Ea (ok:FuncId->Bool) (Γ:zdO) (Γm:FuncId->Option MCtr) (Δ:FuncId->Option DCtr) (ann:zdV) (n:Nat):cF (Ay P ok Γ Γm Δ ann n):=λf args bl nx wl V=>by
 unfold NiceT;simp only[Ay];cases ok f with
 |false=>exact Nice.no λ_ h=>h
 |true=>
  simp only[zdr];split
  ·rename_i fn Y;split
   ·rename_i c hc;refine aaS (T:=λ(K:Out->Prop) args hq=>vc P Γ (wn P ok Γ Γm Δ ann n) (ann f) c (gq P Δ fn.results.toList λr b n w=>K ⟨r,b,n,w⟩) (sa (ann f) (fB args fn.ntmps bl nx wl hq))) λargs hq=> ?_;refine Nice.bind (O:=Exit×AS) (O':=Out) (F:=λ(K:Out->Prop) o=>gq P Δ fn.results.toList (λr b n w=>K ⟨r,b,n,w⟩) o.1 o.2) (fQ (P:=P) (Γ:=Γ) (lN ok Γ Γm Δ ann n) (ann f) c (sa (ann f) (fB args fn.ntmps bl nx wl hq)) (by rw[(eA _ _).1,(eA _ _).2.1];exact V)) λo J=> ?_;have J:=J.ofBd;exact Nice.weak (qh (P:=P) J.nxs) λo' H=>⟨H.nxs,zac J.nx H.le,λj B hB N=>H.keep j B (J.keep j B hB λZ=>N (H.sub j Z)) N,λj N h0=>H.new j (zam N J.nx) (J.new j N h0),λj N=>H.sub j (J.wl j N)⟩
   ·exact Nice.no λ_ h=>h
  ·exact Nice.no λ_ h=>h
variable {ok:FuncId->Bool} {Γ:zdO} {Γm:FuncId->Option MCtr} {Δ:FuncId->Option DCtr}
theorem sU (H:HypD P W0 ok Γ Γm Δ) (ann:zdV) (n:Nat):kn P W0 (Ay P ok Γ Γm Δ ann n):=by
 intro f args bl nx wl K β w h g0 m0 hl;simp only[Ay] at h;cases Z:ok f with
 |false=>rw[Z] at h;exact h.elim
 |true=>
  rw[Z] at h;simp only[zdr] at h;refine⟨H.ok f Z, ?_⟩;split at h
  ·rename_i fn i0;split at h
   ·rename_i c hc;have hf:P.funcs[f]? =some fn:=by simpa using i0
    refine calls_of_wp_defers hf hc ?_;obtain⟨hq,h⟩:=Cm h;obtain⟨b1,b2,b3,_⟩:=eA (ann f) (fB args fn.ntmps bl nx wl hq);have hs:Is {W0 with sd:=(sa (ann f) (fB args fn.ntmps bl nx wl hq)).sd} (sa (ann f) (fB args fn.ntmps bl nx wl hq)) β {tmps:=(SV.concs β args).toArray++Array.replicate (fn.ntmps - (SV.concs β args).toArray.size) undef,defers:= []} w:=
     ⟨ae5 (yu β args fn.ntmps bl nx wl _ hl),by rw[b1];exact g0.sd,by rw[b1,b2];exact m0,rfl⟩
    refine Code.wp_mono ?_ (eV (H.gam.sub (SubB.sd _ _)) H.mixed (λB hB=>mV (H.sub (hB.trans (SubB.sd _ _))) ann n) (lN ok Γ Γm Δ ann n) (ann f) c _ _ β _ w h (hs.x (adi rfl)));rintro e a' w' ⟨A',β',hk,J,V⟩;have J:=IsX.up J;have V:Trs (fB args fn.ntmps bl nx wl hq) β A' β':=⟨by have:=V.tr;rw[b1,b2] at this;exact this,by have:=V.wl;rw[b3] at this;exact this,by have:=V.nx;rw[b2] at this;exact this,by rw[V.nt];exact(eA _ _).2.2.2⟩;have Y: ∀m,qF P Δ fn.results.toList K A'.df m A'->Leaves P fn a'.tmps (λe w'=> ∃N r bl' a0 e0,Ends N r e/\K r bl' a0 e0/\BC W0 bl' N w'/\NX bl' a0/\sg bl' r/\Tr bl nx e0 β bl' N/\(∀i∈wl,i∈e0)/\nx<=a0) a'.defers (pq m) w':=by
     intro m hm;rw[J.fr.defers.1];exact mU (λ_ _ _ h=>h.unsd.unsd) (H.dem _ ((SubB.sd _ _).trans (SubB.sd _ _))) A'.df m A' β' a' w' hm J J.fr.defers.2 V.tr V.wl V.nx
    rcases V8.1 hk with ⟨he,hr⟩|⟨v,rfl,hv⟩
    ·rcases he with rfl|rfl
     ·exact Y none hr
     ·exact Y none hr
    ·exact Y (some v) hv
   ·exact h.elim
  ·exact h.elim
theorem c8 {k:MCtr} (H: ∀B:Base,SubB B W0->HypD P B ok Γ Γm Δ)
 (h: ∀(bl:zdM) (nx:Nat) (args:zdK) (C:RC),k bl nx args=some C->C.pre=true->
   ∃(src:zdT) (Cs:zdU) (z0:zdK) (ann:zdV) (n:Nat),yw bl (rnF src [] nx) src Cs/\Kr src Cs/\Far src Cs/\SV.rns (rnF src [] nx) z0=some args/\
    Ay P ok Γ Γm Δ ann n F z0 (λi=>Cs[i]?) Cs.length [] (KB C src Cs nx)):VU P W0 F k:=by
 intro bl β w nx args C V y1 H2 E2 hk v2;obtain⟨src,Cs,z0,ann,n,p1,O0,X1,x1,w2⟩:=h bl nx args C hk v2;obtain⟨sl,K2⟩:=qU p1;have r1:=GI V p1;have W1:=NI V p1 O0 X1;have j1: ∀{j:Nat} {o:Option Nat},src[j]? =some o-> ∃C,Cs[j]? =some C:=λ{j o} h=>by
  rcases zah j src.length with h'|h'
  ·exact⟨Cs[j]'(by omega),zaa (by omega)⟩
  ·rw[zad h'] at h;cases h
 have s2:NX (λi=>Cs[i]?) Cs.length:=λi hi=>zad hi
 obtain⟨_,hc⟩:=sU (H _ r1) ann n F z0 (λi=>Cs[i]?) Cs.length [] _ (ie β src Cs) w w2 W1 s2 (λs hs i hi=>by
  have:=rns_dom x1 i (SV.mem_idss.2 ⟨s,hs,hi⟩);simp only[rnF,D8] at this;split at this
  ·rename_i o ho;obtain⟨C,hC⟩:=j1 ho;show Cs[i]? ≠none;rw[hC];simp
  ·exact absurd rfl this)
 rw[(rns_conc lO x1).1];refine Calls.mono hc ?_;rintro e w' ⟨β',r,bl',O2,R2,he,hK,Y,L2,_,x2,_,N2⟩;obtain⟨x,hx,e0,hr,l2,p2,D2⟩:=hK;obtain⟨nl,nat⟩:=wC p2;obtain⟨E1,u1⟩:=Av D2;simp only[za7] at E1;have I0: ∀{i:Nat},bl i≠none->i<nx:=λ{i} hi=>by
  rcases zah i nx with h|h
  ·exact h
  ·exact absurd (H2 i h) hi
 have I2:w.heap.size<=w'.heap.size:=Y.below.size
 let a0:zdJ:=λi=>bif Nat.blt i nx then β i else match e0[i - nx]? with
  |some (some j)=>β' j
  |_=>⟨0,0,(match (C.nw x)[i - nx]? with
   |some N=>N.sz
   |none=>0),0,true⟩
 have g0: ∀{i:Nat},i<nx->a0 i=β i:=λ{i} hi=>by simp only[a0,aB,zdp hi,zdr]
 have p0: ∀{q j:Nat},e0[q]? =some (some j)->a0 (nx+q)=β' j:=λ{q j} hq=>by
  simp only[a0,aB,zds (by omega: ¬nx+q<nx),zdq,zbb,hq]
 have S1: ∀{q:Nat} {N:Blk},e0[q]? =some none->(C.nw x)[q]? =some N->a0 (nx+q)=⟨0,0,N.sz,0,true⟩:=λ{q N} hq hN=>by
  simp only[a0,aB,zds (by omega: ¬nx+q<nx),zdq,zbb,hq,hN]
 have U1: ∀{j:Nat} {o:Option Nat},src[j]? =some o->β' j=ie β src Cs j:=λ{j o} ho=>x2.same j (by
  obtain⟨C,hC⟩:=j1 ho;show Cs[j]? ≠none
  rw[hC];simp)
 have E0: ∀{j i:Nat},src[j]? =some (some i)->β' j=β i:=λ{j i} h=>(U1 h).trans (dn h);have i0: ∀{j i:Nat},src[j]? =some (some i)-> ∃C B,Cs[j]? =some C/\bl i=some B/\wB (rnF src [] nx) C B:=λ{j i} h=>by
  obtain⟨C,hC⟩:=j1 h;rcases K2 j C hC with ⟨q,_⟩|⟨i',B,q1,q2,q3⟩
  ·rw[h] at q;cases q
  ·rw[h] at q1;simp only[za1] at q1;subst q1;exact⟨C,B,hC,q2,q3⟩
 have R0:sS (rnG src e0 nx) β' a0:=by
  intro j;refine⟨λi hi=> ?_,λhi=> ?_⟩
  ·simp only[rnG] at hi;split at hi
   ·rename_i o ho;simp only[za1] at hi;subst hi;obtain⟨_,B,_,h2,_⟩:=i0 ho;rw[E0 ho];exact(g0 (I0 (by rw[h2];simp))).symm
   ·split at hi
    ·rename_i q hq;simp only[za1] at hi;subst hi;obtain⟨p,rfl,hp⟩:=gP hq;exact(p0 hp).symm
    ·cases hi
  ·simp only[rnG] at hi;split at hi
   ·rename_i o ho;simp only[za1] at hi;subst hi;rw[U1 ho];simp only[ie,ho,and_self]
   ·split at hi<;>cases hi
 have T1:sS (dt src e0 nx) a0 β':=by
  intro i;refine⟨λj hj=> ?_,λhj=> ?_⟩
  ·simp only[dt] at hj;cases m0:Nat.ble nx i with
   |true=>
    rw[m0,zdr] at hj;have:=zak m0;obtain⟨q,rfl⟩: ∃q,i=nx+q:=⟨i - nx,by omega⟩;rw[zbb] at hj;exact p0 hj
   |false=>
    rw[m0,zdq] at hj;split at hj
    ·rename_i k hk;simp only[za1] at hj;subst hj;obtain⟨m,e,hm⟩:=gP hk;rw[za7] at e;subst e;obtain⟨_,B,_,h2,_⟩:=i0 hm;rw[E0 hm];exact g0 (I0 (by rw[h2];simp))
    ·cases hj
  ·simp only[dt] at hj;cases m0:Nat.ble nx i with
   |true=>
    rw[m0,zdr] at hj;have:=zak m0;obtain⟨q,rfl⟩: ∃q,i=nx+q:=⟨i - nx,by omega⟩;rw[zbb] at hj;obtain⟨N,hN⟩: ∃N,(C.nw x)[q]? =some N:=by
     rcases zah q e0.length with h|h
     ·exact⟨(C.nw x)[q]'(by omega),zaa _⟩
     ·rw[zad h] at hj;cases hj
    rw[S1 hj hN];exact⟨rfl,rfl⟩
   |false=>
    rw[m0,zdq] at hj;split at hj<;>cases hj
 have b2: ∀{p:Nat×Blk},p∈C.ch x-> ∃j Cj B B',Cs[j]? =some Cj/\cN Cj.kd=true/\src[j]? =some (some p.1)/\bl p.1=some B/\wB (rnF src [] nx) Cj B/\bl' j=some B'/\kx (rnG src e0 nx) B' p.2:=λ{p} hp=>by
  obtain⟨j,Cj,B',a1,a2,a3,a4,a5,_⟩:=E1 p hp;obtain⟨M2,B,c1,c2,c3⟩:=i0 a3;rw[a1] at c1;simp only[za1] at c1;subst c1;exact⟨j,Cj,B,B',a1,a2,a3,c2,c3,a4,a5⟩
 have F: ∀{i:Nat} {D:Blk},fv (chB bl (C.ch x)) nx (C.nw x) i=some D->(i<nx/\i∉(C.ch x).map (·.1)/\bl i=some D)\/(i<nx/\ ∃j Cj B B',Cs[j]? =some Cj/\cN Cj.kd=true/\src[j]? =some (some i)/\bl i=some B/\wB (rnF src [] nx) Cj B/\bl' j=some B'/\kx (rnG src e0 nx) B' D)\/
  (∃q j B',i=nx+q/\(C.nw x)[q]? =some D/\e0[q]? =some (some j)/\Cs.length<=j/\bl' j=some B'/\D.kd≠ .gone/\(D.kd= .own->(Cs.all λC=> !C.kd.map)=true\/1<=D.n/\1<=D.sz)/\kx (rnG src e0 nx) B' D)\/a0 i=⟨0,0,D.sz,0,true⟩/\D.kd= .own/\D.n=0/\D.nn=false:=by
  intro i D hD;rcases zah i nx with h|h
  ·have:fv (chB bl (C.ch x)) nx (C.nw x) i=chB bl (C.ch x) i:=by simp only[fv,aB,zdp h,zdr]
   rw[this] at hD;by_cases hm:i∈(C.ch x).map (·.1)
   ·obtain⟨E,h1,h2⟩:=(Wp (bl:=bl)).1 hm;rw[h1] at hD;simp only[za1] at hD;subst hD;exact .inr (.inl ⟨h,b2 h2⟩)
   ·rw[Wp.2 hm] at hD;exact .inl ⟨h,hm,hD⟩
  ·obtain⟨q,rfl⟩: ∃q,i=nx+q:=⟨i - nx,by omega⟩;have:fv (chB bl (C.ch x)) nx (C.nw x) (nx+q)=(C.nw x)[q]? :=by simp only[fv,aB,zds (by omega: ¬nx+q<nx),zdq,zbb]
   rw[this] at hD;rcases nat q D hD with ⟨h1,h2⟩|⟨j,B,h1,h2,h3,h4,h5,h6⟩
   ·exact .inr (.inr (.inr ⟨S1 h1 hD,h2⟩))
   ·exact .inr (.inr (.inl ⟨q,j,B,rfl,hD,h1,h2,h3,h4,h5,h6⟩))
 have Y0: ∀{i:Nat},bl i≠none->fv (chB bl (C.ch x)) nx (C.nw x) i≠none:=λ{i} hi=>by
  have:fv (chB bl (C.ch x)) nx (C.nw x) i=chB bl (C.ch x) i:=by simp only[fv,aB,zdp (I0 hi),zdr]
  rw[this];by_cases hm:i∈(C.ch x).map (·.1)
  ·obtain⟨E,h1,_⟩:=(Wp (bl:=bl)).1 hm;rw[h1];simp
  ·rw[Wp.2 hm];exact hi
 have B0: ∀s,Live bl s->Live (fv (chB bl (C.ch x)) nx (C.nw x)) s/\s.conc a0=s.conc β:=λs hs=>⟨λi hi=>Y0 (hs i hi),SV.conc_congr s λi hi=>g0 (I0 (hs i hi))⟩;have hliveG: ∀{s r:SV},s.rn (rnG src e0 nx)=some r->Live (fv (chB bl (C.ch x)) nx (C.nw x)) r:=λ{s r} hs j hj=>by
  obtain⟨i,hi,H0⟩:=(ol R0 hs).2 j hj;simp only[rnG] at H0;split at H0
  ·rename_i o ho;simp only[za1] at H0;subst H0;obtain⟨_,B,_,h2,_⟩:=i0 ho;exact Y0 (by rw[h2];simp)
  ·split at H0
   ·rename_i q hq;simp only[za1] at H0;subst H0;obtain⟨p,rfl,hp⟩:=gP hq;have O1:p<(C.nw x).length:=by
     rw[<-nl];rcases zah p e0.length with h|h
     ·exact h
     ·rw[zad h] at hp;cases hp
    have:fv (chB bl (C.ch x)) nx (C.nw x) (nx+p)=(C.nw x)[p]? :=by simp only[fv,aB,zds (by omega: ¬nx+p<nx),zdq,zbb]
    rw[this,zaa O1];simp
   ·cases H0
 have v1: ∀{j:Nat} {Cj B':Blk},Cs[j]? =some Cj->bl' j=some B'->B'.kd≠ .gone->B'.kd=Cj.kd:=λ{j Cj B'} h1 h2 h3=>by
  obtain⟨B2,k1,_,_,k4,_⟩:=x2.keep j Cj h1;rw[h2] at k1;simp only[za1] at k1;subst k1;exact k4.resolve_right h3
 have Q0: ∀{Cj B:Blk},wB (rnF src [] nx) Cj B->cN Cj.kd=true->B.kd=Cj.kd:=λ{Cj B} h hm=>by
  obtain⟨_,_,h3⟩:=h;cases hk:Cj.kd<;>simp only[hk] at h3 hm<;>first|exact h3.1|cases hm
 have r0: ∀{g:zdY} {B' D:Blk},kx g B' D->D.kd≠ .gone->D.kd=B'.kd/\D.sz=B'.sz/\(D.nn=true->B'.nn=true)/\D.n<=B'.n:=λ{g B' D} h hg=>by
  rcases h with h|⟨h1,h2,h3,h4,_⟩
  ·exact absurd h hg
  ·exact⟨h1,h2,h3,h4⟩
 have C1: ∀{i:Nat} {D:Blk},i∉(C.ch x).map (·.1)->bl i=some D->D.kd≠ .gone->(β i).nil=false->(D.kd.map=true\/0<(β i).cap*D.sz)->w'.heap[(β i).blk]? =w.heap[(β i).blk]? :=by
  intro i D hi hD hg hn A2;refine Y.below.block _ ((V.blk i D hD hg).lt hn) ?_;cases hS:(fS w β src Cs).S (β i).blk with
  |false=>rfl
  |true=>
   exfalso;obtain⟨j',C',i',h1,h2,h3,h4,h5⟩:=Wc.1 hS;have Z0:i'∈(C.ch x).map (·.1):=u1 j' C' i' h1 h3 h2;have n2:i'≠i:=λe=>hi (e▸Z0);obtain⟨C2,B',c1,q2,q3⟩:=i0 h2;rw[h1] at c1;simp only[za1] at c1;subst c1;have y0:=Q0 q3 h3;obtain⟨e1,_,q4⟩:=q3;cases n0:C'.kd with
   |own=>
    rw[n0] at y0;simp only[n0] at q4;have k1:=V.own i' B' q2 y0 h4;cases U0:D.kd with
    |own=>exact n2 (V.inj i' i B' D q2 hD y0 U0 h4 hn h5)
    |old=>exact absurd (h5▸k1) (V.old i D hD U0 hn).1
    |gone=>exact hg U0
    |_=>
     have v0:=λj=>(V.maps.ok i D hD (by rw[U0];rfl)).2.2.2.cellN (by rw[U0];rfl) j;rw[<-h5] at v0;exact qW (V.blk i' B' q2 (by rw[y0];simp)) v0 (by omega) (by omega)
   |old=>rw[n0] at h3;cases h3
   |gone=>rw[n0] at h3;cases h3
   |_=>
    rw[n0] at y0;have l1:B'.kd.map=true:=by rw[y0];rfl
    rcases A2 with hm|n1
    ·exact n2 (V.maps.inj i' i B' D q2 hD l1 hm h5)
    ·have v0:=λj=>(V.maps.ok i' B' q2 l1).2.2.2.cellN l1 j;rw[h5] at v0;have:=(V.blk i D hD hg).ex 0 n1;rw[v0] at this;cases this
 have content: ∀{g:zdY} {B' D:Blk},kx g B' D->D.kd= .own-> ∀e,e<D.n->SV.rns g (B'.get e)=some (D.get e):=λ{g B' D} h hk=>by
  rcases h with h|⟨_,_,_,_,h5⟩
  ·rw[h] at hk;cases hk
  ·simp only[hk] at h5;exact h5
 have L0: ∀{g:zdY} {B' D:Blk},kx g B' D->D.kd= .mpL-> ∀e,SV.rns g (B'.get e)=some (D.get e):=λ{g B' D} h hk=>by
  rcases h with h|⟨_,_,_,_,h5⟩
  ·rw[h] at hk;cases hk
  ·simp only[hk] at h5;exact h5
 have I1: ∀{g:zdY} {B' D:Blk},kx g B' D->D.kd= .mpI-> ∀e,iG (B'.get e)=iG (D.get e):=λ{g B' D} h hk=>by
  rcases h with h|⟨_,_,_,_,h5⟩
  ·rw[h] at hk;cases hk
  ·simp only[hk] at h5;exact h5
 have H1: ∀{g:zdY} {B' D:Blk},kx g B' D->D.kd= .mpB-> ∀e,su (B'.get e)=su (D.get e):=λ{g B' D} h hk=>by
  rcases h with h|⟨_,_,_,_,h5⟩
  ·rw[h] at hk;cases hk
  ·simp only[hk] at h5;exact h5
 have x0: ∀{g:zdY} {B' D:Blk},kx g B' D->D.kd≠ .old:=λ{g B' D} h hk=>by
  rcases h with h|⟨_,_,_,_,h5⟩
  ·rw[h] at hk;cases hk
  ·simp only[hk] at h5
 have C0: ∀{g:zdY} {B' D:Blk},kx g B' D->D.kd.it=false:=λ{g B' D} h=>by
  rcases h with h|⟨_,_,_,_,h5⟩
  ·rw[h];rfl
  ·cases hk:D.kd<;>first|rfl|(simp only[hk] at h5)
 have A1: ∀{g:zdY} {B' D:Blk},kx g B' D->D.kd.lst=true->D.kd= .mpL:=λ{g B' D} h hl=>by
  have:=C0 h;cases hk:D.kd<;>rw[hk] at hl this<;>first|rfl|(exact absurd hl (by decide))|(exact absurd this (by decide))
 have w1: ∀{i j:Nat} {B' D:Blk},bl' j=some B'->a0 i=β' j->D.kd≠ .gone->kx (rnG src e0 nx) B' D->BlkOK a0 i D w':=by
  intro i j B' D h1 h2 hg h3;obtain⟨d1,d2,d3,d4⟩:=r0 h3 hg;have p:=Y.blk j B' h1 (by rw[<-d1];exact hg);refine wD p h2.symm d2 d4 (λq=>by rw[<-d1];exact q) (λq=> .inl (d3 q)) λe he=> ?_;cases hk:D.kd with
  |own=>exact Cn R0 (content h3 hk e he)
  |gone=>exact absurd hk hg
  |old=>exact absurd hk (x0 h3)
  |_=>
   have:=(Y.maps.ok j B' h1 (by rw[<-d1,hk];rfl)).1;omega
 have N0: ∀{b:Nat},(fS w β src Cs).mine b->W0.mine b:=λ{b} h=>by
  rcases h with h|h
  ·exact .inl (zac V.below.size h)
  ·exact r1.2 b h
 have mapKept: ∀{j i:Nat} {Cj:Blk},Cs[j]? =some Cj->src[j]? =some (some i)->Cj.kd.map=true-> ∃B',bl' j=some B'/\B'.kd.map=true:=by
  intro j i Cj h1 h2 h3;have hm:=u1 j Cj i h1 (kY h3) h2;obtain⟨p,hp,rfl⟩:=zaz.1 hm;obtain⟨j',C',B',a1,a2,a3,a4,a5,a6⟩:=E1 p hp;have:=O0 _ _ _ _ a3 h2 h1 (kY h3);subst this;rw[h1] at a1;simp only[za1] at a1;subst a1;have hg:p.2.kd≠ .gone:=a6.resolve_left λe=>by rw[e] at h3;cases h3
  have d1:=(r0 a5 hg).1;exact⟨B',a4,by rw[v1 h1 a4 (by rw[<-d1];exact hg)];exact h3⟩
 refine⟨x,hx,a0, ?_, ?_,λi hi=>g0 (I0 hi), ?_⟩
 ·cases hp:C.pan x with
  |none=>
   rw[hp] at hr;obtain⟨s,rfl,hs⟩:=hr;simp only[RC.res,hp];obtain rfl:e=_:=he;show _=_;rw[(ol T1 hs).1]
  |some v=>
   rw[hp] at hr;subst hr;simp only[RC.res,hp];exact he
 ·refine⟨r1.pres Y.below, ?_, ?_, ?_, ?_, ?_, ?_, ?_, ?_, ?_⟩
  ·intro i D hD hg;rcases F hD with ⟨h1,h2,h3⟩|⟨h1,j,Cj,B,B',a1,a2,a3,a4,a5,a6,a7⟩|⟨q,j,B',rfl,a1,a2,a3,a4,a5,a6,a7⟩|⟨z1,z2,z3,z4⟩
   ·exact GJ (V.blk i D h3 hg) (g0 h1) I2 (λhn n1=>C1 h2 h3 hg hn (.inr n1)) λe he o s hs=>(B0 s (V.live i D e o s h3 hg he hs)).2
   ·exact w1 a6 ((g0 h1).trans (E0 a3).symm) hg a7
   ·exact w1 a4 (p0 a2) hg a7
   ·refine⟨by rw[z1],λq=>(by rw[z1] at q;cases q),by rw[z3];exact zaA _,λe' M0=>by rw[z3] at M0;omega,λj' b1=>by rw[z1] at b1;simp at b1,λ_ j' b1=>by rw[z1] at b1;simp at b1,λe' M0=>by rw[z3] at M0;omega,λ_=>by rw[z1],λq=>(by rw[z4] at q;cases q)⟩
  ·intro i D hD J hn;rcases F hD with ⟨h1,h2,h3⟩|⟨h1,j,Cj,B,B',a1,a2,a3,a4,a5,a6,a7⟩|⟨q,j,B',rfl,a1,a2,a3,a4,a5,a6,a7⟩|⟨z1,z2,z3,z4⟩
   ·rw[g0 h1] at hn ⊢;exact V.own i D h3 J hn
   ·have d1:=(r0 a7 (by rw[J];simp)).1;have d2:=v1 a1 a6 (by rw[<-d1,J];simp);rw[g0 h1] at hn ⊢;exact V.own i B a4 (by rw[Q0 a5 a2,<-d2,<-d1];exact J) hn
   ·have d1:=(r0 a7 a5).1;rw[p0 a2] at hn ⊢;exact N0 (Y.own j B' a4 (by rw[<-d1];exact J) hn)
   ·rw[z1] at hn;cases hn
  ·intro i D hD J hn;rcases F hD with ⟨h1,h2,h3⟩|⟨h1,j,Cj,B,B',a1,a2,a3,a4,a5,a6,a7⟩|⟨q,j,B',rfl,a1,a2,a3,a4,a5,a6,a7⟩|⟨z1,z2,z3,z4⟩
   ·rw[g0 h1] at hn ⊢;exact V.old i D h3 J hn
   ·exact absurd J (x0 a7)
   ·exact absurd J (x0 a7)
   ·rw[z2] at J;cases J
  ·
   have G: ∀{i:Nat} {D:Blk},fv (chB bl (C.ch x)) nx (C.nw x) i=some D->D.kd= .own->(a0 i).nil=false->(i<nx/\ ∃B,bl i=some B/\B.kd= .own/\(i∈(C.ch x).map (·.1)-> ∃j B',src[j]? =some (some i)/\bl' j=some B'/\B'.kd= .own))\/ ∃q j B',i=nx+q/\e0[q]? =some (some j)/\Cs.length<=j/\bl' j=some B'/\B'.kd= .own/\((Cs.all λC=> !C.kd.map)=true\/1<=B'.n/\1<=B'.sz):=by
    intro i D hD J r2;rcases F hD with ⟨h1,h2,h3⟩|⟨h1,j,Cj,B,B',a1,a2,a3,a4,a5,a6,a7⟩|⟨q,j,B',rfl,a1,a2,a3,a4,a5,a6,a7⟩|⟨z1,z2,z3,z4⟩
    ·exact .inl ⟨h1,D,h3,J,λhm=>absurd hm h2⟩
    ·have d1:=(r0 a7 (by rw[J];simp)).1;have d2:=v1 a1 a6 (by rw[<-d1,J];simp);exact .inl ⟨h1,B,a4,by rw[Q0 a5 a2,<-d2,<-d1];exact J,λ_=>⟨j,B',a3,a6,by rw[<-d1];exact J⟩⟩
    ·obtain⟨d1,d2,_,d4⟩:=r0 a7 a5;exact .inr ⟨q,j,B',rfl,a2,a3,a4,by rw[<-d1];exact J,(a6 J).imp id λ⟨t1,t2⟩=>⟨by omega,by omega⟩⟩
    ·rw[z1] at r2;cases r2
   have q0: ∀{i q j:Nat} {B B':Blk},i<nx->bl i=some B->B.kd= .own->(i∈(C.ch x).map (·.1)-> ∃j B',src[j]? =some (some i)/\bl' j=some B'/\B'.kd= .own)->e0[q]? =some (some j)->Cs.length<=j->bl' j=some B'->B'.kd= .own->((Cs.all λC=> !C.kd.map)=true\/1<=B'.n/\1<=B'.sz)->(a0 i).nil=false->(a0 (nx+q)).nil=false->(a0 i).blk≠(a0 (nx+q)).blk:=by
    intro i q j B B' h1 h2 h3 h4 h5 h6 h7 h8 h9 o0 w0 Z;rw[g0 h1] at o0 Z;rw[p0 h5] at w0 Z;rcases Y.own j B' h7 h8 w0 with hm|hm
    ·have l1:w.heap.size<=(β' j).blk:=hm;have:=(V.blk i B h2 (by rw[h3];simp)).lt o0;omega
    ·obtain⟨j',C',i',g1,g2,g3,g4,g5⟩:=Wc.1 hm;obtain⟨C2,B2,c1,q2,q3⟩:=i0 g2;rw[g1] at c1;simp only[za1] at c1;subst c1;have y0:=Q0 q3 g3;have Z0:i'∈(C.ch x).map (·.1):=u1 j' C' i' g1 g3 g2;cases n0:C'.kd with
     |own=>
      have:=V.inj i i' B B2 h2 q2 h3 (by rw[y0,n0]) o0 g4 (Z.trans g5.symm);subst this;obtain⟨j2,B3,e1,e2,e3⟩:=h4 Z0;have:=O0 _ _ _ _ e1 g2 g1 g3;subst this;have:=Y.inj j2 j B3 B' e2 h7 e3 h8 (by rw[E0 e1];exact o0) w0 (by rw[E0 e1];exact Z);have:j2<Cs.length:=by
       rcases zah j2 Cs.length with h|h
       ·exact h
       ·rw[zad h] at g1;cases g1
      omega
     |old=>rw[n0] at g3;cases g3
     |gone=>rw[n0] at g3;cases g3
     |_=>
      obtain⟨B3,t1,t2⟩:=mapKept g1 g2 (by rw[n0];rfl);have v0:=λj=>(Y.maps.ok j' B3 t1 t2).2.2.2.cellN t2 j;rw[E0 g2,g5] at v0;rcases h9 with h9|⟨h9,y2⟩
      ·have:=zaf.1 h9 C' (zal g1);rw[n0] at this;exact absurd this (by simp[BK.map])
      ·exact qW (Y.blk j B' h7 (by rw[h8];simp)) v0 h9 y2
   intro i i' D D' hD K1 L1 N1 o0 w0 Z;rcases G hD L1 o0 with ⟨h1,B,h2,h3,h4⟩|⟨q,j,B',rfl,a1,a2,a3,a4,a5⟩<;>rcases G K1 N1 w0 with ⟨g1,B2,g2,g3,g4⟩|⟨q',j',D1,rfl,c1,c2,c3,c4,c5⟩
   ·rw[g0 h1] at o0 Z;rw[g0 g1] at w0 Z;exact V.inj i i' B B2 h2 g2 h3 g3 o0 w0 Z
   ·exact absurd Z (q0 h1 h2 h3 h4 c1 c2 c3 c4 c5 o0 w0)
   ·exact absurd Z.symm (q0 g1 g2 g3 g4 a1 a2 a3 a4 a5 w0 o0)
   ·rw[p0 a1] at o0 Z;rw[p0 c1] at w0 Z;have:=Y.inj j j' B' D1 a3 c3 a4 c4 o0 w0 Z;subst this;rw[yx l2 a1 c1]
  ·intro i D e' o s hD hg M0 R1;rcases F hD with ⟨h1,h2,h3⟩|⟨h1,j,Cj,B,B',a1,a2,a3,a4,a5,a6,a7⟩|⟨q,j,B',rfl,a1,a2,a3,a4,a5,a6,a7⟩|⟨z1,z2,z3,z4⟩
   ·exact(B0 s (V.live i D e' o s h3 hg M0 R1)).1
   ·cases J:D.kd with
    |own=>obtain⟨s0,_,h0⟩:=(mX (content a7 J e' M0)).2.2 o s R1;exact hliveG h0
    |gone=>exact absurd J hg
    |old=>exact absurd J (x0 a7)
    |_=>
     obtain⟨d1,_,_,d4⟩:=r0 a7 hg;have:=(Y.maps.ok j B' a6 (by rw[<-d1,J];rfl)).1;omega
   ·cases J:D.kd with
    |own=>obtain⟨s0,_,h0⟩:=(mX (content a7 J e' M0)).2.2 o s R1;exact hliveG h0
    |gone=>exact absurd J hg
    |old=>exact absurd J (x0 a7)
    |_=>
     obtain⟨d1,_,_,d4⟩:=r0 a7 hg;have:=(Y.maps.ok j B' a4 (by rw[<-d1,J];rfl)).1;omega
   ·omega
  ·intro i D hD hm;have hg:D.kd≠ .gone:=λe=>by rw[e] at hm;cases hm
   have B1: ∀{j:Nat} {B':Blk},bl' j=some B'->a0 i=β' j->kx (rnG src e0 nx) B' D->D.n=0/\(a0 i).nil=false/\(fS w β src Cs).mine (a0 i).blk/\MapOK a0 (a0 i).blk w' D.kd D.get:=by
    intro j B' e1 e2 e3;obtain⟨d1,_,_,d4⟩:=r0 e3 hg;obtain⟨m1,m2,m3,m4⟩:=Y.maps.ok j B' e1 (by rw[<-d1];exact hm);rw[e2];refine⟨by omega,m2,m3, ?_⟩;rw[<-d1] at m4;exact MapOK.rn (show MapOK β' (β' j).blk w' D.kd B'.get from m4) rfl (λhk e=>Cn R0 (L0 e3 hk e)) (λhk e=>(I1 e3 hk e).symm) (λhk e=>(H1 e3 hk e).symm) (C0 e3)
   rcases F hD with ⟨h1,h2,h3⟩|⟨h1,j,Cj,B,B',a1,a2,a3,a4,a5,a6,a7⟩|⟨q,j,B',rfl,a1,a2,a3,a4,a5,a6,a7⟩|⟨z1,z2,z3,z4⟩
   ·obtain⟨m1,m2,m3,m4⟩:=V.maps.ok i D h3 hm;rw[g0 h1];exact⟨m1,m2,m3,m4.to (C1 h2 h3 hg m2 (.inl hm)) (GetEq.refl _ _) (λhi=>by rw[y1 i D h3] at hi;cases hi) λhk e s hs=>(B0 s (V.maps.live i D e s h3 hk hs)).2⟩
   ·obtain⟨m1,m2,m3,m4⟩:=B1 a6 ((g0 h1).trans (E0 a3).symm) a7;exact⟨m1,m2,N0 m3,m4⟩
   ·obtain⟨m1,m2,m3,m4⟩:=B1 a4 (p0 a2) a7;exact⟨m1,m2,N0 m3,m4⟩
   ·rw[z2] at hm;cases hm
  ·have G: ∀{i:Nat} {D:Blk},fv (chB bl (C.ch x)) nx (C.nw x) i=some D->D.kd.map=true->(i<nx/\ ∃B,bl i=some B/\B.kd.map=true/\(i∈(C.ch x).map (·.1)-> ∃j B',src[j]? =some (some i)/\bl' j=some B'/\B'.kd.map=true))\/ ∃q j B',i=nx+q/\e0[q]? =some (some j)/\Cs.length<=j/\bl' j=some B'/\B'.kd.map=true:=by
    intro i D hD hm;have hg:D.kd≠ .gone:=λe=>by rw[e] at hm;cases hm
    rcases F hD with ⟨h1,h2,h3⟩|⟨h1,j,Cj,B,B',a1,a2,a3,a4,a5,a6,a7⟩|⟨q,j,B',rfl,a1,a2,a3,a4,a5,a6,a7⟩|⟨z1,z2,z3,z4⟩
    ·exact .inl ⟨h1,D,h3,hm,λhm=>absurd hm h2⟩
    ·have d1:=(r0 a7 hg).1;have d2:=v1 a1 a6 (by rw[<-d1];exact hg);exact .inl ⟨h1,B,a4,by rw[Q0 a5 a2,<-d2,<-d1];exact hm,λ_=>⟨j,B',a3,a6,by rw[<-d1];exact hm⟩⟩
    ·exact .inr ⟨q,j,B',rfl,a2,a3,a4,by rw[<-(r0 a7 hg).1];exact hm⟩
    ·rw[z2] at hm;cases hm
   have q0: ∀{i q j:Nat} {B B':Blk},i<nx->bl i=some B->B.kd.map=true->(i∈(C.ch x).map (·.1)-> ∃j B',src[j]? =some (some i)/\bl' j=some B'/\B'.kd.map=true)->e0[q]? =some (some j)->Cs.length<=j->bl' j=some B'->B'.kd.map=true->(a0 i).blk≠(a0 (nx+q)).blk:=by
    intro i q j B B' h1 h2 h3 h4 h5 h6 h7 h8 Z;rw[g0 h1,p0 h5] at Z;have i2:=V.maps.ok i B h2 h3;rcases(Y.maps.ok j B' h7 h8).2.2.1 with hm|hm
    ·have l1:w.heap.size<=(β' j).blk:=hm;have:=(V.blk i B h2 (by intro e;rw[e] at h3;cases h3)).lt i2.2.1;omega
    ·obtain⟨j',C',i',g1,g2,g3,g4,g5⟩:=Wc.1 hm;obtain⟨C2,B2,c1,q2,q3⟩:=i0 g2;rw[g1] at c1;simp only[za1] at c1;subst c1;have y0:=Q0 q3 g3;have Z0:i'∈(C.ch x).map (·.1):=u1 j' C' i' g1 g3 g2;obtain⟨e1,_,q4⟩:=q3;cases n0:C'.kd with
     |own=>
      simp only[n0] at q4;have v0:=λj=>i2.2.2.2.cellN h3 j;rw[Z,<-g5] at v0;exact qW (V.blk i' B2 q2 (by rw[q4.1];simp)) v0 (by omega) (by omega)
     |old=>rw[n0] at g3;cases g3
     |gone=>rw[n0] at g3;cases g3
     |_=>
      have:=V.maps.inj i i' B B2 h2 q2 h3 (by rw[y0,n0];rfl) (Z.trans g5.symm);subst this;obtain⟨j2,B3,e1,e2,e3⟩:=h4 Z0;have:=O0 _ _ _ _ e1 g2 g1 g3;subst this;have:=Y.maps.inj j2 j B3 B' e2 h7 e3 h8 (by rw[E0 e1];exact Z);have:j2<Cs.length:=by
       rcases zah j2 Cs.length with h|h
       ·exact h
       ·rw[zad h] at g1;cases g1
      omega
   intro i i' D D' hD K1 L1 N1 Z;rcases G hD L1 with ⟨h1,B,h2,h3,h4⟩|⟨q,j,B',rfl,a1,a2,a3,a4⟩<;>rcases G K1 N1 with ⟨g1,B2,g2,g3,g4⟩|⟨q',j',D1,rfl,c1,c2,c3,c4⟩
   ·rw[g0 h1,g0 g1] at Z;exact V.maps.inj i i' B B2 h2 g2 h3 g3 Z
   ·exact absurd Z (q0 h1 h2 h3 h4 c1 c2 c3 c4)
   ·exact absurd Z.symm (q0 g1 g2 g3 g4 a1 a2 a3 a4)
   ·rw[p0 a1,p0 c1] at Z;have:=Y.maps.inj j j' B' D1 a3 c3 a4 c4 Z;subst this;rw[yx l2 a1 c1]
  ·intro i D e s hD J hs;rcases F hD with ⟨h1,h2,h3⟩|⟨h1,j,Cj,B,B',a1,a2,a3,a4,a5,a6,a7⟩|⟨q,j,B',rfl,a1,a2,a3,a4,a5,a6,a7⟩|⟨z1,z2,z3,z4⟩
   ·exact(B0 s (V.maps.live i D e s h3 J hs)).1
   ·obtain⟨o,ho⟩:=zby hs;obtain⟨s0,_,h0⟩:=(mX (L0 a7 (A1 a7 J) e)).2.2 o s ho;exact hliveG h0
   ·obtain⟨o,ho⟩:=zby hs;obtain⟨s0,_,h0⟩:=(mX (L0 a7 (A1 a7 J) e)).2.2 o s ho;exact hliveG h0
   ·rw[z2] at J;cases J
  ·intro i D hD J;rcases F hD with ⟨h1,h2,h3⟩|⟨h1,j,Cj,B,B',a1,a2,a3,a4,a5,a6,a7⟩|⟨q,j,B',rfl,a1,a2,a3,a4,a5,a6,a7⟩|⟨z1,z2,z3,z4⟩
   ·rw[y1 i D h3] at J;cases J
   ·rw[C0 a7] at J;cases J
   ·rw[C0 a7] at J;cases J
   ·rw[z2] at J;cases J
 ·cases hp:C.pan x with
  |none=>
   rw[hp] at hr;obtain⟨s,rfl,hs⟩:=hr;show sg _ (C.res x);simp only[RC.res,hp];intro i hi;have hd:=GH hs i hi;simp only[dt] at hd;cases m0:Nat.ble nx i with
   |true=>
    rw[m0,zdr] at hd;have:=zak m0;obtain⟨q,rfl⟩: ∃q,i=nx+q:=⟨i - nx,by omega⟩;rw[zbb] at hd;have O1:q<(C.nw x).length:=by
     rw[<-nl];rcases zah q e0.length with h|h
     ·exact h
     ·rw[zad h] at hd;exact absurd rfl hd
    have:fv (chB bl (C.ch x)) nx (C.nw x) (nx+q)=(C.nw x)[q]? :=by simp only[fv,aB,zds (by omega: ¬nx+q<nx),zdq,zbb]
    rw[this,zaa O1];simp
   |false=>
    rw[m0,zdq] at hd;split at hd
    ·rename_i k hk;obtain⟨m,e,hm⟩:=gP hk;obtain⟨_,B,_,h2,_⟩:=i0 hm;exact Y0 (by rw[h2];simp)
    ·exact absurd rfl hd
  |some v=>
   show sg _ (C.res x);simp only[RC.res,hp];trivial
end
structure El (α:Type) where
 sz:Nat
 sv:α->List SV
 of:List SV->α
 d:α
 rt: ∀x,of (sv x)=x
 ids: ∀x,SV.idss (sv x)= []
 len: ∀x,(sv x).length=sz
 one:1<=sz
def mb {α:Type} (d:α):List α->Nat->α
 | [],_=>d
 |x::_,0=>x
 |_::r,i+1=>mb d r i
def tab {α:Type} (f:Nat->α):Nat->List α
 |0=> []
 |n+1=>tab f n++ [f n]
section
variable {α:Type} (E:El α)
def El.nth (l:List α) (e:Nat):α:=mb E.d l e
def El.get (l:List α) (e:Nat):zdK:=E.sv (E.nth l e)
def El.old (l:List α):Blk:={n:=l.length,sz:=E.sz,get:=E.get l,kd:= .old,nn:=false}
def El.own (l:List α):Blk:={n:=l.length,sz:=E.sz,get:=E.get l,kd:= .own,nn:=false}
def El.list (n:Nat) (g:zdN):List α:=tab (λe=>E.of (g e)) n
open Classical in
def El.good (p:α->Bool) (n:Nat) (g:zdN):Bool:=decide (∀e,e<n->g e=E.sv (E.of (g e))/\p (E.of (g e))=true)
end
section
variable {α:Type} {E:El α}
theorem fJ (f:Nat->α): ∀n,(tab f n).length=n
 |0=>rfl
 |n+1=>by simp[tab,fJ f n]
theorem qX (f:Nat->α): ∀{n e:Nat},e<n->(tab f n)[e]? =some (f e)
 |n+1,e,h=>by
  rw[tab];by_cases H:e<n
  ·rw[zbB (by rw[fJ];exact H)];exact qX f H
  ·obtain rfl:e=n:=by omega
   rw[zbY (by rw[fJ];exact za0 _),fJ];simp
theorem bR {d:α}: ∀{l:List α} {e:Nat} {x:α},l[e]? =some x->mb d l e=x
 | [],e,x,h=>by simp at h
 |y::r,0,x,h=>by simpa [mb] using h
 |y::r,e+1,x,h=>bR (l:=r) (by simpa using h)
variable {e:Nat}
theorem bw {d:α} {l:List α} (h:e<l.length):mb d l e∈l:=by
 rw[bR (zaa h)];exact zas h
theorem Co {d:α} {l:List α} (h:e<l.length):l[e]? =some (mb d l e):=by
 rw[bR (zaa h),zaa h]
variable {n:Nat} {g:zdN}
theorem El.list_length:(E.list n g).length=n:=fJ _ _
theorem El.nth_list (h:e<n):E.nth (E.list n g) e=E.of (g e):=bR (qX _ h)
theorem vx {f f':Nat->α}: ∀{n:Nat},(∀e,e<n->f e=f' e)->tab f n=tab f' n
 |0,_=>rfl
 |n+1,h=>by rw[tab,tab,vx λe H=>h e (by omega),h n (by omega)]
theorem GK {d:α} {l:List α}:tab (mb d l) l.length=l:=by
 apply List.ext_getElem?;intro e;by_cases h:e<l.length
 ·rw[qX _ h,Co h]
 ·rw[zad (by rw[fJ];omega),zad (by omega)]
theorem El.list_get {l:List α}:E.list l.length (E.get l)=l:=by
 unfold El.list El.get;show tab (λe=>E.of (E.sv (E.nth l e))) l.length=l;rw[vx (f:=λe=>E.of (E.sv (E.nth l e))) (f':=mb E.d l) (λe _=>E.rt (E.nth l e)),GK]
theorem El.good_iff {p:α->Bool} :E.good p n g=true↔ ∀e,e<n->g e=E.sv (E.of (g e))/\p (E.of (g e))=true:=by simp[El.good]
theorem El.good_get {p:α->Bool} {l:List α} (h: ∀x∈l,p x=true):E.good p l.length (E.get l)=true:=E.good_iff.2 λe H=>by
 unfold El.get;rw[E.rt];exact⟨rfl,h _ (bw H)⟩
theorem El.good_list {p:α->Bool} (h:E.good p n g=true): ∀x∈E.list n g,p x=true:=λx N=>by
 obtain⟨e,H⟩:=zby N;have J:e<n:=by
  rcases zah e n with h|h
  ·exact h
  ·rw[zad (by rw[El.list_length];exact h)] at H;cases H
 rw[El.list,qX _ J] at H;simp only[za1] at H;subst H;exact(E.good_iff.1 h e J).2
mutual
theorem Cp {f:Nat->Option (Option Nat)}: ∀{s:SV},s.ids= []->s.rn f=some s
 | .val v,_=>rfl
 | .ptr _ _ _,h=>by simp[SV.ids] at h
 | .mp _,h=>by simp[SV.ids] at h
 | .slc _ _ _,h=>by simp[SV.ids] at h
 | .agg cs,h=>by simp only[SV.rn];rw[rns_free (by simpa [SV.ids] using h)]
 | .tup cs,h=>by simp only[SV.rn];rw[rns_free (by simpa [SV.ids] using h)]
 | .fn g a c,h=>by
   simp only[SV.ids,zd5] at h;simp only[SV.rn];rw[rns_free h.1,rns_free h.2]
theorem rns_free {f:Nat->Option (Option Nat)}: ∀{l:List SV},SV.idss l= []->SV.rns f l=some l
 | [],_=>rfl
 |x::xs,h=>by
  simp only[SV.idss,zd5] at h;simp only[SV.rns];rw[Cp h.1,rns_free h.2]
end
def vW (bl:zdM) (sz:Nat):SV->Option (Bool×Option Nat×Nat×(zdN))
 | .val (.slice none 0 0)=>some (true,none,0,λ_=> [])
 | .slc i 0 n=>match bl i with
   |some B=>some (Nat.ble n B.n&&Nat.beq B.sz sz&&pa B.kd,some i,n,B.get)
   |none=>none
 |_=>none
def j5 (bl:zdM) (f:zdY) (C:Blk):Option Nat->Prop
 |none=>C.kd= .old/\C.n=0/\C.nn=false
 |some i=>match bl i with
  |some B=>wB f C B
  |none=>False
variable {bl:zdM} {f:zdY} {o:Option Nat}
theorem aw {os:zdT} {C:Blk} {Cs:zdU} (h:j5 bl f C o) (k:yw bl f os Cs):yw bl f (o::os) (C::Cs):=⟨by cases o<;>exact h,k⟩
theorem cq {s:SV} {n:Nat} {g:zdN} {p:α->Bool} (h:vW bl E.sz s=some (true,o,n,g)) (hg:E.good p n g=true):
 j5 bl f (E.old (E.list n g)) o/\ ∀j,f j=some o->(SV.slc j 0 (E.list n g).length).rn f=some s:=by
 unfold vW at h;split at h
 ·simp only[za1,zag] at h;obtain⟨_,rfl,rfl,rfl⟩:=h;exact⟨⟨rfl,rfl,rfl⟩,λj H=>by simp only[SV.rn,H];rfl⟩
 ·rename_i i m;cases hB:bl i with
  |some B=>
   rw[hB] at h;simp only[za1,zag,za2] at h;obtain⟨⟨⟨h1,h2⟩,h3⟩,rfl,rfl,rfl⟩:=h;refine⟨?_,λj H=>by simp only[SV.rn,H];rw[El.list_length]⟩;simp only[j5,hB];refine⟨(zab h2).symm,λh=>(by cases h), ?_⟩;show B.kd≠ .gone/\B.kd.map=false/\(E.list m B.get).length<=B.n/\ ∀e,e<(E.list m B.get).length->SV.rns f (E.get (E.list m B.get) e)=some (B.get e);rw[El.list_length];refine⟨λe=>(by rw[e] at h3;cases h3),(by cases N:B.kd<;>rw[N] at h3<;>first|rfl|cases h3),zak h1,λe J=> ?_⟩;unfold El.get;rw[El.nth_list J,rns_free (E.ids _),<-(E.good_iff.1 hg e J).1]
  |none=>rw[hB] at h;cases h
 ·cases h
theorem gC {g:zdY} {B:Blk} {l:List α} (N:B.kd= .own) (Y:B.sz=E.sz) (V:l.length<=B.n) (H: ∀e,e<l.length->B.get e=E.get l e):kx g B (E.own l):=
 .inr ⟨N.symm,Y.symm,λh=>(by cases h),V,λe J=>(by rw[H e J];exact rns_free (E.ids _))⟩
end
end Go.Sy
namespace Go.Proofs.YtojcellmcbnmeaaGreatDoor
open Go.Proofs.Tryz
open Go Go.RowKit Go.Sy
theorem NJ (H:Value) (w:World):(Instr.typeAssert (.iface 45 H) 20 45 true).run prog w= .ok (.tuple #[H, .bool true]) w:=by kernel_rfl
theorem Py (w:World):(Instr.typeAssert .nilIface 20 45 true).run prog w= .ok (.tuple #[.int .i64 0, .bool false]) w:=by kernel_rfl
theorem sV (p:Addr) (x:Value) (pv:Value) (older:List PanicEntry) (w:World) (hc:w.cell? p=some x) (hz:w.frozen? p=false):
 CallsD prog 24 #[.pointer (some p)] (.panicking ({v:= .iface 45 pv,recovered:=false}::older)) w λe u' w'=>
  e= .returned (.tuple #[])/\u'= .panicking ({v:= .iface 45 pv,recovered:=true}::older)/\w'=w.setCell p (.int .i64 90):=by
 refine callsD_of_wpS func24 rfl λc₀ cs hu=> ?_;apply wpS_seq;apply wpS_region;simp[wpOpsS,go_sem,recoverD,hu,ntmps24,Exit.thenS];apply wpS_seq;apply wpS_region;simp[wpOpsS,go_sem,Exit.thenS,NJ];apply wpS_seq;apply wpS_region;simp[wpOpsS,go_sem,Exit.thenS];refine wpS_cond (t:=true) (by simp[Act.eval]) ?_;simp only[if_true];apply wpS_region;simp[wpOpsS,go_sem,hc,hz,bodyPostS,results,results24]
theorem Eb (p:Addr) (w:World):
 CallsD prog 24 #[.pointer (some p)] .returning w λe u' w'=>e= .returned (.tuple #[])/\u'= .returning/\w'=w:=by
 refine callsD_of_wpS func24 rfl λc₀ cs hu=> ?_;apply wpS_seq;apply wpS_region;simp[wpOpsS,go_sem,recoverD,hu,ntmps24,Exit.thenS];apply wpS_seq;apply wpS_region;simp[wpOpsS,go_sem,Exit.thenS,Py];apply wpS_seq;apply wpS_region;simp[wpOpsS,go_sem,Exit.thenS];refine wpS_cond (t:=false) (by simp[Act.eval]) ?_;simp only[zbo,if_false];apply wpS_seq;apply wpS_region;simp[wpOpsS,go_sem,Exit.thenS];refine wpS_cond (t:=false) (by simp[Act.eval]) ?_;simp only[zbo,if_false];refine wpS_of_wp (wp_skip ?_);cases c₀
 simp_all [bodyPostS,results,results24]
def GM:DCtr:=λm bl args=>match args with
 | [.ptr id 0 0]=>match bl id with
   |some B=>match m with
    |none=>some (true,none, [])
    |some (.iface t _)=>some (Nat.beq t 45&&(Nat.beq B.n 1&&(Nat.beq B.sz 1&&(match B.kd with
     | .own=>true
     |_=>false))),none, [(id,B.put 0 0 [.val (.int .i64 90)])])
    |_=>none
   |none=>none
 |_=>none
theorem GN (B:Base):Wz prog B 24 GM:=by
 intro m bl β w args m' ch J e0 H a0;refine⟨call24, ?_⟩;unfold GM at H;split at H
 ·rename_i id;split at H
  ·rename_i C Y;split at H
   ·simp only[za1,zag,true_and] at H;obtain⟨rfl,rfl⟩:=H;refine(Eb (addr β id 0 0) w).mono ?_;rintro e u' w' ⟨rfl,rfl,rfl⟩;exact⟨⟨_,rfl⟩,rfl,J⟩
   ·rename_i t pv;simp only[za1,zag,za2] at H;obtain⟨⟨h1,h2,h3,h4⟩,rfl,rfl⟩:=H;have h1:=zab h1;have h2:=zab h2;have h3:=zab h3;have h4:C.kd= .own:=by revert h4;cases C.kd<;>simp
    subst h1;have q:=J.blk id C Y (by rw[h4];simp);have g0:=q.not_nil (e:=0) (by omega);have N:0<(β id).cap*C.sz:=Nat.mul_pos (by have:=q.le;omega) (by omega);obtain⟨x,hx⟩:=Option.isSome_iff_exists.1 (q.ex 0 N);have hz:=q.fr h4 0 N;have V:addr β id 0 0=⟨(β id).blk,(β id).off+0,none⟩:=by simp[addr]
    refine(sV (addr β id 0 0) x pv [] w (by rw[V];exact hx) (by rw[V];exact hz)).mono ?_;rintro e u' w' ⟨rfl,rfl,rfl⟩;refine⟨⟨_,rfl⟩,rfl, ?_⟩;have:=J.write Y h4 (e:=0) (o:=0) (cs:= [.val (.int .i64 90)]) (by omega) (by simp;omega) (by simp[Live,SV.ids]);rw[chB,chB];have Z:w.setCells (β id).blk ((β id).off+0*(β id).sz+0) (SV.concs β [.val (.int .i64 90)])=w.setCell (addr β id 0 0) (.int .i64 90):=by
     simp[addr,SV.concs,SV.conc,World.setCells]
    rw[Z] at this;exact this
   ·cases H
  ·cases H
 ·cases H
end Go.Proofs.YtojcellmcbnmeaaGreatDoor
namespace Go.Proofs.YtojcellmcbnmeaaGreatDoor
open Go Go.RowKit Go.Sy Yk
def qH:List (FuncId×Ctr):= [
 (58,k2 cR cR (cP cR cI) (λa b=>uzR a&&uzR b) fZ),
 (59,k2 cR cR (cP cR cI) (λa b=>uzR a&&uzR b) iF),
 (60,k2 cR cR (cP cR cI) (λa b=>uzR a&&uzR b) ale),
 (61,k2 cR cR (cP cR cI) (λa b=>uzR a&&uzR b) cA),
 (84,k2 cR cR cI (λa b=>uzR a&&uzR b) b9),
 (56,k1 cR cB uzR rV),
 (146,k1 cR cS uzR gk),
 (282,k1 cS (cP cR cI) (λs=>decide (s.size<=100000)) DR),
 (111,k2 cR cR (cP cR cI) (λa b=>uzR a&&uzR b) fZ),
 (113,k2 cR cR (cP cR cI) (λa b=>uzR a&&uzR b) iF),
 (185,k2 cR cR (cP cR cI) (λa b=>uzR a&&uzR b) ale),
 (186,k2 cR cR (cP cR cI) (λa b=>uzR a&&uzR b) cA),
 (109,k2 cR cR cI (λa b=>uzR a&&uzR b) b9),
 (108,k1 cR cB uzR rV),
 (79,k2 cI cI (cP cR cI) (λa b=>cl a&&cl b) rMk)]
def NK:List FuncId:= [52,54,51,191,193,127,53,47,128,12,125,126,192,124,122,123,190,260,45,261,299,298,258,259
 ,145
 ,147
 ,69
 ,283
 ,219
 ]
abbrev ig (g:List (FuncId×Ctr)) (ann:zdV) (n:Nat) (f:FuncId) (args:zdK) (K:zdR):Prop:=wq Tryz.prog (iR NK) (gw g) (gx []) ann n f args (λ_=>none) 0 [] (okK λr _ _ _=>K r)
end Go.Proofs.YtojcellmcbnmeaaGreatDoor
namespace Go.Proofs.YtojcellmcbnmeaaGreatDoor
open Go.Proofs.Tryz
open Go.RowKit Yk
theorem gg {a:RS} {v:Bool} (h:rV a=v) (w:World) (hg:GlobU w) (H:Sz a):Calls prog 56 #[.agg #[.string a.1, .string a.2]] w λe w'=>e= .returned (.bool v)/\Below w.heap.size w w':=by
 have:=oy a w hg H.1 H.2;rwa[h] at this
def QH (a1 a2 b1 b2:zdH) (w:World) (res:Int) (a:Act) (W:World):Prop:=
 ∃(s:Int) (n d m c:zdH) (u6 u7 u8 u9 H J N V Y Z u16 a0 e0 g0 i0 m0 n0 o0 p0 q0 r0 v0 w0 x0 y0 z0 u32 B0 C0 E0 H0 I0 L0 M0 N0 O0 Q0 R0 U0 Y0 Z0 c1 j1 l1 m1 n1 p1 q1 r1 u1 v1 w1 x1 y1 z1 A1 B1 C1 u64 D1 E1 H1 I1 K1 L1 N1 O1 R1:Value),a={tmps:= #[.agg #[.string a1, .string a2], .agg #[.string b1, .string b2], .pointer (some ⟨w.heap.size,0,none⟩), .pointer (some ⟨w.heap.size+1,0,none⟩), .int .i64 0, .int .i64 s,u6,u7,u8,u9,H,J,N,V,Y,Z,u16,a0,e0,g0,i0,m0,n0,o0,p0,q0,r0,v0,w0,x0,y0,z0,u32,B0,C0,E0,H0,I0,L0,M0,N0,O0,Q0,R0,U0,Y0,Z0,c1,j1,l1,m1,n1,p1,q1,r1,u1,v1,w1,x1,y1,z1,A1,B1,C1,u64,D1,E1,H1,I1,K1,L1,N1,O1,R1],defers:= []}/\
  ((s=1\/s= -1)/\(vS n=true/\vS d=true/\vS m=true/\vS c=true)/\0<nS d/\0<nS c/\s*VQ (nS n*nS c) (nS m*nS d)=res)/\
  (Blk W w.heap.size #[.string n, .string d] 33/\Blk W (w.heap.size+1) #[.string m, .string c] 33)/\Below w.heap.size w W
def Oe (h:Nat) (W:World):Nat:=match W.cell? ⟨h,1,none⟩ with|some (.string d)=>(nS d).natAbs|_=>0
theorem CF {h:Nat} {W:World} {n d:zdH} {t:TypeId} (H:Blk W h #[.string n, .string d] t):Oe h W=(nS d).natAbs:=by
 unfold Oe;rw[H.cell (i:=1) rfl];rfl
theorem tB (a b:RS) (hra:rV a=true) (hrb:rV b=true) (w:World) (hg:GlobU w) (ha:Sz a) (hb:Sz b):Calls prog 84 #[vR a,vR b] w λe w'=>e= .returned (.int .i64 (b9 a b))/\Below w.heap.size w w':=by
 obtain⟨a1,a2⟩:=a;obtain⟨b1,b2⟩:=b;have Va:=zdC (λw hg=>gg hra w hg ha);have Vb:=zdC (λw hg=>gg hrb w hg hb);obtain⟨p1,p2,p3,_⟩:=ay hra;obtain⟨p4,p5,p6,_⟩:=ay hrb;have hr:b9 (a1,a2) (b1,b2)=VQ (nS a1*nS b2) (nS b1*nS a2):=by
  rw[rD hra hrb];exact pX p3 p6
 rw[hr];show Calls _ _ #[.agg #[.string a1, .string a2], .agg #[.string b1, .string b2]] _ _;have Hg:=zdC hg;have HL0':Hid (vS a1=true/\vS a2=true/\vS b1=true/\vS b2=true):=zdC ⟨p1,p2,p4,p5⟩;simp only at p3 p6 Va Vb;generalize hres:VQ (nS a1*nS b2) (nS b1*nS a2)=res at*
 have Hres:=zdC hres;clear hg ha hb hra hrb hr p1 p2 p4 p5 hres;go_enter func84,ntmps84;go_wp2;refine wp_scope_jumps 0 (QH a1 a2 b1 b2 w res) (λ_ W=>Oe w.heap.size W) rfl ?_ ?_
 ·go_wp2_with fail;refine(Va.out _ (Hg.out.below (((zdD _ w).alloc (za0 _) _).alloc (by simp) _))).mono ?_;rintro e x1 ⟨rfl,hb1⟩;have N0:=zdC (Blk.below (Blk.alloc (Blk.new w #[.string a1, .string a2] 33) (.cells #[.string b1, .string b2] 33)) hb1 (by simp<;>omega));have N3:=zdC (Blk.below (Blk.newAt (w.alloc (.cells #[.string a1, .string a2] 33)) #[.string b1, .string b2] 33 (b:=w.heap.size+1) (by simp)) hb1 (by simp));have HL0:=zdC ((((zdD _ w).alloc (za0 _) _).alloc (by simp) _).trans (hb1.mono (by simp;omega)));clear hb1;obtain⟨g1,g2,_,_,_⟩:=bN N0.out;obtain⟨g3,g4,_,_,_⟩:=bN N3.out;go_wp2_with fail;refine(Vb.out _ (Hg.out.below HL0.out)).mono ?_;rintro e x2 ⟨rfl,hb2⟩;have N1:=zdC (N0.out.below hb2 N0.out.lt);have N2:=zdC (N3.out.below hb2 N3.out.lt);have HL:=zdC (HL0.out.trans (hb2.mono HL0.out.size));clear hb2 N0 N3;obtain⟨g5,g6,_,_,_⟩:=bN N1.out;obtain⟨g7,g8,_,_,_⟩:=bN N2.out;go_wp2
  go_step3
  have HRES:Hid (1*VQ (nS a1*nS b2) (nS b1*nS a2)=res):=zdC (by rw[Int.one_mul];exact Hres.out);have HV:=HL0';have hq1:=pD HV.out.1 HV.out.2.1 p3;have hq2:=pD HV.out.2.2.1 HV.out.2.2.2 p6;have C1:Hid (∀W,GlobU W->Calls prog 163 #[.string a1, .string a2] W λe w'=>e= .returned (.tuple #[.string (ofI (nS a1 / nS a2)), .string (ofI (nS a1%nS a2)), .int .i64 0])/\Below W.heap.size W w'):=zdC λW hg=>by
   have:=ip a1 a2 W hg.1 (Xq HV.out.1) (Xq HV.out.2.1);rwa[ot HV.out.1 HV.out.2.1 (by omega)] at this
  have C2:Hid (∀W,GlobU W->Calls prog 163 #[.string b1, .string b2] W λe w'=>e= .returned (.tuple #[.string (ofI (nS b1 / nS b2)), .string (ofI (nS b1%nS b2)), .int .i64 0])/\Below W.heap.size W w'):=zdC λW hg=>by
   have:=ip b1 b2 W hg.1 (Xq HV.out.2.2.1) (Xq HV.out.2.2.2);rwa[ot HV.out.2.2.1 HV.out.2.2.2 (by omega)] at this
  have C3:Hid (∀W,Calls prog 133 #[.string (ofI (nS a1 / nS a2)), .string (ofI (nS b1 / nS b2))] W λe w'=>e= .returned (.int .i64 (VQ (nS a1 / nS a2) (nS b1 / nS b2)))/\Below W.heap.size W w'):=zdC λW=>by
   have:=avV _ _ W (Xq hq1.1) (Xq hq2.1);unfold dw at this;rwa[if_pos (by simp[hq1.1,hq2.1]),aI,aI] at this
  have E1:=Lh hq1.2;have E2:=Lh hq2.2;rw[aI] at E1 E2;have VR:=zdC hq1.2;have VS:=zdC hq2.2;have HN:=aI (nS a1%nS a2);have HM:=aI (nS b1%nS b2);have HRd:=pC p3 p6 HRES.out;generalize ofI (nS a1 / nS a2)=tq at*
  generalize ofI (nS a1%nS a2)=tr at*
  generalize ofI (nS b1 / nS b2)=tp at*
  generalize ofI (nS b1%nS b2)=ts at*
  have hcv:=apk (nS a1 / nS a2) (nS b1 / nS b2);generalize VQ (nS a1 / nS a2) (nS b1 / nS b2)=cv at*
  have Hcv:=zdC hcv;have E1':=zdC E1;have E2':=zdC E2;have HN':=zdC HN;have HM':=zdC HM;have HRd':=zdC HRd;have P3:=zdC p3;have P6:=zdC p6;clear hq1 hq2 E1 E2 HN HM HRd hcv p3 p6;obtain⟨d1,d2,_,_,_⟩:=bN N1.out;obtain⟨f1,f2,_,_,_⟩:=bN N2.out;go_wp2_with fail;refine(C1.out _ (Hg.out.below HL.out)).mono ?_;rintro e w1 ⟨rfl,hb1⟩;have M1:=zdC (N1.out.below hb1 N1.out.lt);have M2:=zdC (N2.out.below hb1 N2.out.lt);have HL1:=zdC (HL.out.trans (hb1.mono HL.out.size));clear hb1 N1 N2;obtain⟨d3,d4,_,_,_⟩:=bN M1.out;obtain⟨f3,f4,_,_,_⟩:=bN M2.out;go_wp2_with fail;refine(C2.out _ (Hg.out.below HL1.out)).mono ?_;rintro e w2 ⟨rfl,hb2⟩;have N1:=zdC (M1.out.below hb2 M1.out.lt);have N2:=zdC (M2.out.below hb2 M2.out.lt);have HL2:=zdC (HL1.out.trans (hb2.mono HL1.out.size));clear hb2 M1 M2;go_wp2_with fail;refine(C3.out _).mono ?_;rintro e w3 ⟨rfl,hb3⟩;have M1:=zdC (N1.out.below hb3 N1.out.lt);have M2:=zdC (N2.out.below hb3 N2.out.lt);have HL3:=zdC (HL2.out.trans (hb3.mono HL2.out.size));clear hb3 N1 N2;obtain⟨d5,d6,d7,d8,_⟩:=bN M1.out;obtain⟨f5,f6,f7,f8,_⟩:=bN M2.out;rcases Hcv.out with rfl|rfl|rfl
  ·skip
   have hres:=HRd'.out.1 (by decide);have Hq:=zdC hres;clear hres;go_wp2;simp only[Exit.jump];go_ret;exact⟨cc Hq.out,HL3.out⟩
  ·have HR0:=zdC (HRd'.out.2 rfl);by_cases h1:nS a1%nS a2=0
   ·have t1:(tr.toList== [48])=true:=by rw[E1'.out];simp[h1]
    by_cases h2:nS b1%nS b2=0
    ·have t2:(ts.toList== [48])=true:=by rw[E2'.out];simp[h2]
     have Hq:=zdC (HR0.out.1 h1 h2);clear h1 h2;go_wp2;simp only[Exit.jump];go_ret;exact⟨cc Hq.out.symm,HL3.out⟩
    ·have t2:(ts.toList== [48])=false:=by rw[E2'.out];simp[h2]
     have Hq:=zdC (HR0.out.2.1 h1 h2);clear h1 h2;go_wp2;simp only[Exit.jump];go_ret;exact⟨cc Hq.out.symm,HL3.out⟩
   ·have t1:(tr.toList== [48])=false:=by rw[E1'.out];simp[h1]
    by_cases h2:nS b1%nS b2=0
    ·have t2:(ts.toList== [48])=true:=by rw[E2'.out];simp[h2]
     have Hq:=zdC (HR0.out.2.2.1 h1 h2);clear h1 h2;go_wp2;simp only[Exit.jump];go_ret;exact⟨cc Hq.out.symm,HL3.out⟩
    ·have t2:(ts.toList== [48])=false:=by rw[E2'.out];simp[h2]
     have Hq:=zdC (HR0.out.2.2.2 h1 h2);clear h1 h2;have hmx:prog.follows .mixedOrders=true:=by kernel_rfl
     all_goals go_wp2
     all_goals go_region
     all_goals go_wp2
     all_goals go_step3
     all_goals
      have hA:=Blk.drewN ((((Blk.set M1.out 0 (.string a2)).set 1 (.string tr)).setOther (a:=⟨w.heap.size+1,0,none⟩) (by simp) (.string b2)).setOther (a:=⟨w.heap.size+1,1,none⟩) (by simp) (.string ts)) 1;have hC:=Blk.drewN (((Blk.setOther M2.out (a:=⟨w.heap.size,0,none⟩) (by simp) (.string a2)).setOther (a:=⟨w.heap.size,1,none⟩) (by simp) (.string tr)).set 0 (.string b2)|>.set 1 (.string ts)) 1;have hBl:=((((HL3.out.setCell (p:=⟨w.heap.size,0,none⟩) (za0 _) (.string a2)).setCell (p:=⟨w.heap.size,1,none⟩) (za0 _) (.string tr)).setCell (p:=⟨w.heap.size+1,0,none⟩) (zaT _) (.string b2)).setCell (p:=⟨w.heap.size+1,1,none⟩) (zaT _) (.string ts)).drew;have hq:=Hq.out;have hJ:=And.intro (And.intro VR.out (And.intro VS.out (And.intro HV.out.2.1 HV.out.2.2.2))) hq;rw[<-HN'.out,<-HM'.out] at hq;exact⟨rfl,⟨_,_,_,_,_,_,_,_,_,_,_,_,_,_,_,_,_,_,_,_,_,_,_,_,_,_,_,_,_,_,_,_,_,_,_,_,_,_,_,_,_,_,_,_,_,_,_,_,_,_,_,_,_,_,_,_,_,_,_,_,_,_,_,_,_,_,_,_,_,_,_,_,_,rfl,⟨.inr rfl,⟨HV.out.2.1,VR.out,HV.out.2.2.2,VS.out⟩,hq.2.1,hq.2.2.1,hq.1⟩,⟨hA,hC⟩,hBl⟩⟩
  ·skip
   have hres:=HRd'.out.1 (by decide);have Hq:=zdC hres;clear hres;go_wp2;simp only[Exit.jump];go_ret;exact⟨cc Hq.out,HL3.out⟩
 ·rintro a' w' ⟨s,n,d,m,c,u6,u7,u8,u9,u10,u11,u12,u13,u14,u15,u16,u17,u18,u19,u20,u21,u22,u23,u24,u25,u26,u27,u28,u29,u30,u31,u32,u33,u34,u35,u36,u37,u38,u39,u40,u41,u42,u43,u44,u45,u46,u47,u48,u49,u50,u51,u52,u53,u54,u55,u56,u57,u58,u59,u60,u61,u62,u63,u64,u65,u66,u67,u68,u69,u70,u71,u72,u73,rfl,⟨hS,hV,p3',p6',hR⟩,⟨hB1,hB2⟩,hL⟩;have HS:=zdC hS;have HV:=zdC hV;have HRES:=zdC hR;have CM:=zdC (CF hB1);have N1:=zdC hB1;have N2:=zdC hB2;have HL:=zdC hL;have p3:=p3';have p6:=p6';clear hS hV hR hB1 hB2 hL p3' p6';have hq1:=pD HV.out.1 HV.out.2.1 p3;have hq2:=pD HV.out.2.2.1 HV.out.2.2.2 p6;have C1:Hid (∀W,GlobU W->Calls prog 163 #[.string n, .string d] W λe w'=>e= .returned (.tuple #[.string (ofI (nS n / nS d)), .string (ofI (nS n%nS d)), .int .i64 0])/\Below W.heap.size W w'):=zdC λW hg=>by
   have:=ip n d W hg.1 (Xq HV.out.1) (Xq HV.out.2.1);rwa[ot HV.out.1 HV.out.2.1 (by omega)] at this
  have C2:Hid (∀W,GlobU W->Calls prog 163 #[.string m, .string c] W λe w'=>e= .returned (.tuple #[.string (ofI (nS m / nS c)), .string (ofI (nS m%nS c)), .int .i64 0])/\Below W.heap.size W w'):=zdC λW hg=>by
   have:=ip m c W hg.1 (Xq HV.out.2.2.1) (Xq HV.out.2.2.2);rwa[ot HV.out.2.2.1 HV.out.2.2.2 (by omega)] at this
  have C3:Hid (∀W,Calls prog 133 #[.string (ofI (nS n / nS d)), .string (ofI (nS m / nS c))] W λe w'=>e= .returned (.int .i64 (VQ (nS n / nS d) (nS m / nS c)))/\Below W.heap.size W w'):=zdC λW=>by
   have:=avV _ _ W (Xq hq1.1) (Xq hq2.1);unfold dw at this;rwa[if_pos (by simp[hq1.1,hq2.1]),aI,aI] at this
  have E1:=Lh hq1.2;have E2:=Lh hq2.2;rw[aI] at E1 E2;have VR:=zdC hq1.2;have VS:=zdC hq2.2;have HN:=aI (nS n%nS d);have HM:=aI (nS m%nS c);have HRd:=pC p3 p6 HRES.out;generalize ofI (nS n / nS d)=tq at*
  generalize ofI (nS n%nS d)=tr at*
  generalize ofI (nS m / nS c)=tp at*
  generalize ofI (nS m%nS c)=ts at*
  have hcv:=apk (nS n / nS d) (nS m / nS c);generalize VQ (nS n / nS d) (nS m / nS c)=cv at*
  have Hcv:=zdC hcv;have E1':=zdC E1;have E2':=zdC E2;have HN':=zdC HN;have HM':=zdC HM;have HRd':=zdC HRd;have P3:=zdC p3;have P6:=zdC p6;clear hq1 hq2 E1 E2 HN HM HRd hcv p3 p6;obtain⟨d1,d2,_,_,_⟩:=bN N1.out;obtain⟨f1,f2,_,_,_⟩:=bN N2.out;go_wp2_with fail;refine(C1.out _ (Hg.out.below HL.out)).mono ?_;rintro e w1 ⟨rfl,hb1⟩;have M1:=zdC (N1.out.below hb1 N1.out.lt);have M2:=zdC (N2.out.below hb1 N2.out.lt);have HL1:=zdC (HL.out.trans (hb1.mono HL.out.size));clear hb1 N1 N2;obtain⟨d3,d4,_,_,_⟩:=bN M1.out;obtain⟨f3,f4,_,_,_⟩:=bN M2.out;go_wp2_with fail;refine(C2.out _ (Hg.out.below HL1.out)).mono ?_;rintro e w2 ⟨rfl,hb2⟩;have N1:=zdC (M1.out.below hb2 M1.out.lt);have N2:=zdC (M2.out.below hb2 M2.out.lt);have HL2:=zdC (HL1.out.trans (hb2.mono HL1.out.size));clear hb2 M1 M2;go_wp2_with fail;refine(C3.out _).mono ?_;rintro e w3 ⟨rfl,hb3⟩;have M1:=zdC (N1.out.below hb3 N1.out.lt);have M2:=zdC (N2.out.below hb3 N2.out.lt);have HL3:=zdC (HL2.out.trans (hb3.mono HL2.out.size));clear hb3 N1 N2;obtain⟨d5,d6,d7,d8,_⟩:=bN M1.out;obtain⟨f5,f6,f7,f8,_⟩:=bN M2.out;rcases Hcv.out with rfl|rfl|rfl
  ·skip
   rcases HS.out with rfl|rfl
   ·have hres:=HRd'.out.1 (by decide);have Hq:=zdC hres;clear hres;go_wp2;simp only[Exit.jump];go_ret;exact⟨cc Hq.out,HL3.out⟩
   ·have hres:=HRd'.out.1 (by decide);have Hq:=zdC hres;clear hres;go_wp2;simp only[Exit.jump];go_ret;exact⟨cc Hq.out,HL3.out⟩
  ·have HR0:=zdC (HRd'.out.2 rfl);by_cases h1:nS n%nS d=0
   ·have t1:(tr.toList== [48])=true:=by rw[E1'.out];simp[h1]
    by_cases h2:nS m%nS c=0
    ·have t2:(ts.toList== [48])=true:=by rw[E2'.out];simp[h2]
     have Hq:=zdC (HR0.out.1 h1 h2);clear h1 h2;go_wp2;simp only[Exit.jump];go_ret;exact⟨cc Hq.out.symm,HL3.out⟩
    ·have t2:(ts.toList== [48])=false:=by rw[E2'.out];simp[h2]
     have Hq:=zdC (HR0.out.2.1 h1 h2);clear h1 h2;rcases HS.out with rfl|rfl
     ·go_wp2;simp only[Exit.jump];go_ret;exact⟨cc Hq.out.symm,HL3.out⟩
     ·go_wp2;simp only[Exit.jump];go_ret;exact⟨cc Hq.out.symm,HL3.out⟩
   ·have t1:(tr.toList== [48])=false:=by rw[E1'.out];simp[h1]
    by_cases h2:nS m%nS c=0
    ·have t2:(ts.toList== [48])=true:=by rw[E2'.out];simp[h2]
     have Hq:=zdC (HR0.out.2.2.1 h1 h2);clear h1 h2;go_wp2;simp only[Exit.jump];go_ret;exact⟨cc Hq.out.symm,HL3.out⟩
    ·have t2:(ts.toList== [48])=false:=by rw[E2'.out];simp[h2]
     have Hq:=zdC (HR0.out.2.2.2 h1 h2);clear h1 h2;have hmx:prog.follows .mixedOrders=true:=by kernel_rfl
     rcases HS.out with rfl|rfl
     all_goals go_wp2
     all_goals go_region
     all_goals go_wp2
     all_goals go_step3
     all_goals
      have hA:=Blk.drewN ((((Blk.set M1.out 0 (.string d)).set 1 (.string tr)).setOther (a:=⟨w.heap.size+1,0,none⟩) (by simp) (.string c)).setOther (a:=⟨w.heap.size+1,1,none⟩) (by simp) (.string ts)) 1;have hC:=Blk.drewN (((Blk.setOther M2.out (a:=⟨w.heap.size,0,none⟩) (by simp) (.string d)).setOther (a:=⟨w.heap.size,1,none⟩) (by simp) (.string tr)).set 0 (.string c)|>.set 1 (.string ts)) 1;have hBl:=((((HL3.out.setCell (p:=⟨w.heap.size,0,none⟩) (za0 _) (.string d)).setCell (p:=⟨w.heap.size,1,none⟩) (za0 _) (.string tr)).setCell (p:=⟨w.heap.size+1,0,none⟩) (zaT _) (.string c)).setCell (p:=⟨w.heap.size+1,1,none⟩) (zaT _) (.string ts)).drew;have hq:=Hq.out;have hJ:=And.intro (And.intro VR.out (And.intro VS.out (And.intro HV.out.2.1 HV.out.2.2.2))) hq;rw[<-HN'.out,<-HM'.out] at hq;refine⟨rfl,⟨_,_,_,_,_,_,_,_,_,_,_,_,_,_,_,_,_,_,_,_,_,_,_,_,_,_,_,_,_,_,_,_,_,_,_,_,_,_,_,_,_,_,_,_,_,_,_,_,_,_,_,_,_,_,_,_,_,_,_,_,_,_,_,_,_,_,_,_,_,_,_,_,_,rfl,⟨by first|exact .inl rfl|exact .inr rfl,⟨HV.out.2.1,VR.out,HV.out.2.2.2,VS.out⟩,hq.2.1,hq.2.2.1,hq.1⟩,⟨hA,hC⟩,hBl⟩, ?_⟩;refine zaS (Nat.le_of_eq (CF hA)) ?_;rw[CM.out];exact hq.2.2.2
  ·skip
   rcases HS.out with rfl|rfl
   ·have hres:=HRd'.out.1 (by decide);have Hq:=zdC hres;clear hres;go_wp2;simp only[Exit.jump];go_ret;exact⟨cc Hq.out,HL3.out⟩
   ·have hres:=HRd'.out.1 (by decide);have Hq:=zdC hres;clear hres;go_wp2;simp only[Exit.jump];go_ret;exact⟨cc Hq.out,HL3.out⟩
theorem tC (a b:RS) (w:World) (hg:GlobU w) (ha:Sz a) (hb:Sz b):Calls prog 84 #[vR a,vR b] w λe w'=>e= .returned (.int .i64 (b9 a b))/\Below w.heap.size w w':=by
 cases hra:rV a with
 |true=>
  cases hrb:rV b with
  |true=>exact tB a b hra hrb w hg ha hb
  |false=>
   have hr:b9 a b=0:=by unfold b9;simp[hrb]
   rw[hr];obtain⟨a1,a2⟩:=a;obtain⟨b1,b2⟩:=b;show Calls _ _ #[.agg #[.string a1, .string a2], .agg #[.string b1, .string b2]] _ _;have Va:=zdC (λw hg=>gg hra w hg ha);have Vb:=zdC (λw hg=>gg hrb w hg hb);simp only at Va Vb;have Hg:=zdC hg;clear hg ha hb hra hrb hr;go_enter func84,ntmps84;go_wp2;refine wp_scope_jumps 0 (λ_ _=>False) (λ_ _=>0) rfl ?_ (λ_ _ h=>h.elim);go_wp2_with fail;refine(Va.out _ (Hg.out.below (((zdD _ w).alloc (za0 _) _).alloc (by simp) _))).mono ?_;rintro e x1 ⟨rfl,hb1⟩;have N3:=zdC (Blk.below (Blk.newAt (w.alloc (.cells #[.string a1, .string a2] 33)) #[.string b1, .string b2] 33 (b:=w.heap.size+1) (by simp)) hb1 (by simp));have HL0:=zdC ((((zdD _ w).alloc (za0 _) _).alloc (by simp) _).trans (hb1.mono (by simp;omega)));clear hb1;obtain⟨g3,g4,_,_,_⟩:=bN N3.out;go_wp2_with fail;refine(Vb.out _ (Hg.out.below HL0.out)).mono ?_;rintro e x2 ⟨rfl,hb2⟩;have HL:=zdC (HL0.out.trans (hb2.mono HL0.out.size));clear hb2;go_wp2;simp only[Exit.jump];go_ret;exact⟨rfl,HL.out⟩
 |false=>
  have hr:b9 a b=0:=by unfold b9;simp[hra]
  rw[hr];obtain⟨a1,a2⟩:=a;obtain⟨b1,b2⟩:=b;show Calls _ _ #[.agg #[.string a1, .string a2], .agg #[.string b1, .string b2]] _ _;have Va:=zdC (λw hg=>gg hra w hg ha);simp only at Va;have Hg:=zdC hg;clear hg ha hb hra hr;go_enter func84,ntmps84;go_wp2;refine wp_scope_jumps 0 (λ_ _=>False) (λ_ _=>0) rfl ?_ (λ_ _ h=>h.elim);go_wp2_with fail;refine(Va.out _ (Hg.out.below (((zdD _ w).alloc (za0 _) _).alloc (by simp) _))).mono ?_;rintro e x1 ⟨rfl,hb1⟩;have HL0:=zdC ((((zdD _ w).alloc (za0 _) _).alloc (by simp) _).trans (hb1.mono (by simp;omega)));clear hb1;go_wp2;simp only[Exit.jump];go_ret;exact⟨rfl,HL0.out⟩
end Go.Proofs.YtojcellmcbnmeaaGreatDoor
namespace Go.Proofs.YtojcellmcbnmeaaGreatDoor
open Go.Proofs.Tryz
open Go Go.RowKit Go.Sy Yk
section
variable {W0:World}
theorem Of {F:FuncId} {f:RS->RS->Int} (H: ∀a b w,Below W0.heap.size W0 w->Sz a->Sz b->Calls prog F #[vR a,vR b] w λe w'=>e= .returned (.int .i64 (f a b))/\Below w.heap.size w w'):CtrOK prog W0 F (k2 cR cR cI (λa b=>uzR a&&uzR b) f):=
 bC λa b h β w J=>by
  simp only[za2] at h;exact(H a b w J (szU h.1) (szU h.2)).mono λe w' ⟨h1,h2⟩=>⟨h1,h2⟩
theorem Li (hg:GlobU W0): ∀p∈qH,CtrOK prog W0 p.1 p.2/\V0 prog p.1:=by
 have G: ∀w,Below W0.heap.size W0 w->GlobU w:=λw H=>hg.below H;simp only[qH,zc3,zck]
 exact⟨⟨N9 hg,call58⟩,
  ⟨Oa hg,call59⟩,
  ⟨Ob hg,call60⟩,
  ⟨Oc hg,call61⟩,
  ⟨Of λa b w H N J=>tC a b w (G w H) N J,call84⟩,
  ⟨yS hg,call56⟩,
  ⟨abj hg,call146⟩,
  ⟨abB hg,call282⟩,
  ⟨Lb hg,call111⟩,
  ⟨Lc hg,call113⟩,
  ⟨Ld hg,call185⟩,
  ⟨Le hg,call186⟩,
  ⟨Lg hg,call109⟩,
  ⟨Er hg,call108⟩,
  ⟨Od hg,call79⟩,λ_ h=>by cases h⟩
end
theorem bE {K:Prop}:af true K=K:=rfl
theorem H7 {g n:Bool}:dC g n=true↔(g=true->n=true):=by cases g<;>cases n<;>simp[dC]
variable {n:Int}
theorem VP:inR .i64 n=true↔ -9223372036854775808<=n/\n<=9223372036854775807:=Wl
theorem Wr:GOk qH:=⟨λ_ h=>Li h⟩
theorem Lj: ∀f∈NK,V0 prog f:=by
 simp only[NK,zc3,zck]
 exact⟨call52,call54,call51,call191,call193,call127,call53,call47,call128,call12,call125,call126,call192,call124,call122,call123,call190,call260,call45,call261,call299,call298,call258,call259
 ,call145
 ,call147
 ,call69
 ,call283
 ,call219
 ,λ_ h=>by cases h⟩
theorem GOk.yields {g:List (FuncId×Ctr)} {W0:World} (h:GOk g) (hg:GlobU W0) {ann:zdV} {n:Nat} {F:FuncId} {args:zdK} {r:SV} (J:SV.idss args= []) (V:r.ids= []) (H:ig g ann n F args λs=>s=r):Go.Sy.Yields prog W0 F args r:=
 cr (λW N=>mW (h.all W (hg.below N)) (λ_ _ _ h=>by cases h) Lj (by kernel_rfl)) J V H
theorem vD (a b c:Int) (K:zdR):ig qH noA 3 52 [cI.enc a,cI.enc b,cI.enc c] K=K (cB.enc (aj a b c)):=by kernel_rfl
theorem H8 (s:zdH) (K:zdR):ig qH noA 3 54 [cS.enc s] K=K (cR.enc (s,⟨#[49]⟩)):=by kernel_rfl
theorem Ll (K:zdR):ig qH noA 3 51 [] K=K (c7.enc sR):=by kernel_rfl
def H9 (I:Int×Int->Prop):zdV:=λf k=>bif Nat.beq f 191&&Nat.beq k 2 then some (λ_=>{X:=Int×Int,inv:=I,tm:=λx=> [(5, .val (.int .i64 x.1)),(6, .val (.int .i64 x.2))],mu:=λx=>x.2.toNat,keep:= [0,1,4]}) else none
def PT (n d p q:Int) (z:Int×Int):Prop:=((((TV.v (cI.enc p)=TV.v (cI.enc z.1))/\((TV.v (cI.enc q)=TV.v (cI.enc z.2))/\((TV.v (cI.enc n)=TV.v (cI.enc n))/\((TV.v (cI.enc d)=TV.v (cI.enc d))/\((TV.v (SV.ptr 0 0 0)=TV.v (SV.ptr 0 0 0))/\True)))))/\(True/\(True/\True))))
def Og (I:Int×Int->Prop) (n d:Int) (K:zdR):Prop:=
 af (inR .i64 (-n)) (∃N:Int×Int,I N/\PT n d (if -n>n then -n else n) d N/\ ∀H:Int×Int,I H->
  ag (H.2 !=0) (af (!decide (H.2=0)) (∃J:Int×Int,I J/\(J.2.toNat<H.2.toNat)/\PT n d H.2 (H.1.tmod H.2) J))
   (af (!decide (H.1=0)&&inR .i64 (n.tdiv H.1)) (af (!decide (H.1=0)&&inR .i64 (d.tdiv H.1)) (K (c22.enc (n.tdiv H.1,d.tdiv H.1))))))
theorem Oh (I:Int×Int->Prop) (n d:Int) (K:zdR):ig qH (H9 I) 3 191 [cI.enc n,cI.enc d] K=Og I n d K:=by kernel_rfl
def Lm (n d:Int) (x:Int×Int):Prop:=(0<=x.1/\x.1<=1000000)/\(0<=x.2/\x.2<=1000000)/\Int.gcd x.1 x.2=Int.gcd n d
theorem yT {a b:Int} (H:0<=a) (J:0<b):Int.gcd b (a.tmod b)=Int.gcd a b:=by
 obtain⟨m,rfl⟩:=zcP H;obtain⟨k,rfl⟩:=zcP (Int.le_of_lt J);rw[<-Int.ofNat_tmod,zdj,zdj,zbL m k,Nat.gcd_rec k m,zbL]
theorem Et {d:Int} (hn: -1000000<=n/\n<=1000000) (Z:1<=d/\d<=1000000) (K:zdR) (J:K (c22.enc (qG n d))):Og (Lm n d) n d K:=by
 have hg:0<Int.gcd n d:=zc4 _ (by omega);have V:(Int.gcd n d:Int)<=d:=Int.le_of_dvd (by omega) (Int.gcd_dvd_right n d);unfold Og;rw[VP.2 (by omega),bE];refine⟨((if -n>n then -n else n),d),⟨⟨by simp only;split<;>omega,by simp only;split<;>omega⟩,⟨by simp only;omega,by simp only;omega⟩, ?_⟩,⟨⟨rfl,rfl,rfl,rfl,rfl,trivial⟩,trivial,trivial,trivial⟩, ?_⟩
 ·simp only;split
  ·rw[Int.neg_gcd]
  ·rfl
 ·rintro⟨a,b⟩ ⟨⟨h1,h2⟩,⟨h3,h4⟩,h5⟩;simp only at h1 h2 h3 h4 h5 ⊢;rw[VH];refine⟨λH=> ?_,λH=> ?_⟩
  ·have H:b≠0:=by simpa using H
   rw[zds H,zbg,bE];have:=zcn a (show 0<b by omega);have h0:=zco b h1;exact⟨(b,a.tmod b),⟨⟨h3,h4⟩,⟨h0,by simp only;omega⟩,by simp only;rw[yT h1 (by omega)];exact h5⟩,by simp only;omega,⟨rfl,rfl,rfl,rfl,rfl,trivial⟩,trivial,trivial,trivial⟩
  ·have H:b=0:=by simpa using H
   subst H;rw[Int.gcd_zero_right] at h5;have N:a=(Int.gcd n d:Int):=by omega
   have e1:=zcp n a;have Y:=zcp d a;rw[zds (by omega: ¬a=0),zbg,zb6,zb6,VP.2 (by omega),VP.2 (by omega),bE,bE,N];exact J
theorem VL {lo hi:Int}:aj n lo hi=true↔lo<=n/\n<=hi:=by unfold aj;simp
def g1:List (FuncId×Ctr):=(52,k3 cI cI cI cB (λ_ _ _=>true) aj)::(54,k1 cS cR (λ_=>true) (λs=>(s,⟨#[49]⟩)))::(51,k0 c7 sR)::(191,k2 cI cI c22 (λn d=>aj n (-1000000) 1000000&&aj d 1 1000000) qG)::qH
theorem WL:GOk g1:=
 (((Wr.cons (λW H=>bC λn d h=>by
     simp only[za2,VL] at h
     exact Wr.yields (ann:=H9 (Lm n d)) (n:=3) H de (c22.ids _) (by rw[Oh];exact Et h.1 h.2 (λr=>r=_) rfl)) call191).cons
   (λW H=>GF (Wr.yields (ann:=noA) (n:=3) H NU (c7.ids _) (by rw[Ll]))) call51).cons
   (λW H=>dD λs _=>Wr.yields (ann:=noA) (n:=3) H m8 (cR.ids _) (by rw[H8])) call54).cons
   (λW H=>sQ λa b c _=>Wr.yields (ann:=noA) (n:=3) H AW (cB.ids _) (by rw[vD])) call52
theorem Ln (p:Int×Int) (K:zdR):ig g1 noA 3 193 [c22.enc p] K=
 af (dC (aj p.2 1 12&&aj p.1 (-12) 12) (aj p.1 (-1000000) 1000000&&aj p.2 1 1000000)) (K (cB.enc (aj p.2 1 12&&aj p.1 (-12) 12&&eq2 (qG p.1 p.2) p))):=by kernel_rfl
variable {p:Int×Int}
theorem Lo {q:Int×Int}:eq2 p q=true↔p=q:=by
 unfold eq2;simp[Prod.ext_iff]
theorem Lp (p q:Int×Int):eq2 p q=decide (p=q):=by
 rw[zax,Lo];simp
theorem AY (p:Int×Int) (K:zdR) (H:K (cB.enc (aR p))):af (dC (aj p.2 1 12&&aj p.1 (-12) 12) (aj p.1 (-1000000) 1000000&&aj p.2 1 1000000)) (K (cB.enc (aj p.2 1 12&&aj p.1 (-12) 12&&eq2 (qG p.1 p.2) p))):=by
 have:dC (aj p.2 1 12&&aj p.1 (-12) 12) (aj p.1 (-1000000) 1000000&&aj p.2 1 1000000)=true:=by
  rw[H7];intro h;simp only[za2,VL] at h ⊢;omega
 rw[this,bE,Lp,Bool.and_assoc];exact H
theorem Ia (d:D7) (f:RS) (k:Int) (K:zdR):ig g1 noA 3 53 [c7.enc d,cR.enc f,cI.enc k] K=
 ag (k==0&&eq7 d sR) (K (cU.enc ⟨d,f,rZ,k,2⟩)) (K (cU.enc ⟨d,f,rZ,k,1⟩)):=by kernel_rfl
theorem yU (d:D7) (f:RS) (k:Int) (K:zdR) (H:K (cU.enc (bT d f k))):ag (k==0&&eq7 d sR) (K (cU.enc ⟨d,f,rZ,k,2⟩)) (K (cU.enc ⟨d,f,rZ,k,1⟩)):=by
 rw[VH];unfold bT at H;refine⟨λh=> ?_,λh=> ?_⟩<;>(rw[h] at H;exact H)
def g2:List (FuncId×Ctr):=(193,k1 c22 cB (λ_=>true) aR)::(53,k3 c7 cR cI cU (λ_ _ _=>true) bT)::g1
theorem WT:GOk g2:=
 (WL.cons (λW H=>sQ λa b c _=>WL.yields (ann:=noA) (n:=3) H AW (cU.ids _) (by rw[Ia];exact yU _ _ _ (λr=>r=_) rfl)) call53).cons
   (λW H=>dD λs _=>WL.yields (ann:=noA) (n:=3) H m8 (cB.ids _) (by rw[Ln];exact AY _ (λr=>r=_) rfl)) call193
def Q3 (p:Int×Int->Int×Int->Prop->Prop) (a b r:D7) (F:Nat->D7->Prop) (T:Prop):Prop:=
 p a.d0 b.d0 (ag (!aR r.d0) (F 0 ⟨r.d0,(0,0),(0,0),(0,0),(0,0),(0,0),(0,0)⟩)
 (p a.d1 b.d1 (ag (!aR r.d1) (F 1 ⟨r.d0,r.d1,(0,0),(0,0),(0,0),(0,0),(0,0)⟩)
 (p a.d2 b.d2 (ag (!aR r.d2) (F 2 ⟨r.d0,r.d1,r.d2,(0,0),(0,0),(0,0),(0,0)⟩)
 (p a.d3 b.d3 (ag (!aR r.d3) (F 3 ⟨r.d0,r.d1,r.d2,r.d3,(0,0),(0,0),(0,0)⟩)
 (p a.d4 b.d4 (ag (!aR r.d4) (F 4 ⟨r.d0,r.d1,r.d2,r.d3,r.d4,(0,0),(0,0)⟩)
 (p a.d5 b.d5 (ag (!aR r.d5) (F 5 ⟨r.d0,r.d1,r.d2,r.d3,r.d4,r.d5,(0,0)⟩)
 (p a.d6 b.d6 (ag (!aR r.d6) (F 6 r) T)))))))))))))
def Oi (p:Int×Int->Int×Int->Prop->Prop) (a b:D7):Prop:=(∀Q,Q->p a.d0 b.d0 Q)/\(∀Q,Q->p a.d1 b.d1 Q)/\(∀Q,Q->p a.d2 b.d2 Q)/\(∀Q,Q->p a.d3 b.d3 Q)/\(∀Q,Q->p a.d4 b.d4 Q)/\(∀Q,Q->p a.d5 b.d5 Q)/\(∀Q,Q->p a.d6 b.d6 Q)
variable {r:D7}
theorem ir (h:ct r=true):eS r=(r,true):=by
 unfold ct at h;simp only[za2] at h;obtain⟨h0,h1,h2,h3,h4,h5,h6⟩:=h;simp only[eS,h0,h1,h2,h3,h4,h5,h6,zbh,zdq]
theorem qt {b:Bool} (h:(!b)=false):b=true:=by simpa using h
variable {T:Prop}
theorem iu {p:Int×Int->Int×Int->Prop->Prop} {a b:D7} {F:Nat->D7->Prop} (hp:Oi p a b) (hF:ct r=false-> ∀d,eS r=(d,false)-> ∀k,F k d) (H:ct r=true->T):Q3 p a b r F T:=by
 obtain⟨J,N,V,Y,Z,p5,p6⟩:=hp;unfold Q3;refine J _ ?_;rw[VH];refine⟨λh=>hF (by unfold ct;rw[zap] at h;simp[h]) _ (by simp only[eS,h,zdr]) _,λh0=>N _ ?_⟩;rw[VH];refine⟨λh=>hF (by unfold ct;rw[zap] at h;simp[h]) _ (by simp only[eS,h0,h,zdr,zdq]) _,λh1=>V _ ?_⟩;rw[VH];refine⟨λh=>hF (by unfold ct;rw[zap] at h;simp[h]) _ (by simp only[eS,h0,h1,h,zdr,zdq]) _,λh2=>Y _ ?_⟩;rw[VH];refine⟨λh=>hF (by unfold ct;rw[zap] at h;simp[h]) _ (by simp only[eS,h0,h1,h2,h,zdr,zdq]) _,λh3=>Z _ ?_⟩;rw[VH];refine⟨λh=>hF (by unfold ct;rw[zap] at h;simp[h]) _ (by simp only[eS,h0,h1,h2,h3,h,zdr,zdq]) _,λh4=>p5 _ ?_⟩;rw[VH];refine⟨λh=>hF (by unfold ct;rw[zap] at h;simp[h]) _ (by simp only[eS,h0,h1,h2,h3,h4,h,zdr,zdq]) _,λh5=>p6 _ ?_⟩;rw[VH];refine⟨λh=>hF (by unfold ct;rw[zap] at h;simp[h]) _ (by simp only[eS,h0,h1,h2,h3,h4,h5,h,zdr,zdq]) _,λh6=>H ?_⟩;simp only[ct,qt h0,qt h1,qt h2,qt h3,qt h4,qt h5,qt h6,zaQ]
def aH (u:Un):Bool:=uzR u.f&&uzR u.o
def Ib (u:Un) (K:zdR):Prop:=
 Q3 (λ_ _ Q=>Q) u.d u.d u.d (λ_ _=>K (cB.enc false)) (af (uzR u.f) (af (dC (!!rV u.f) (uzR u.o)) (af (dC (!(!rV u.f|| !rV u.o)) (uzR u.f&&true))
  (ag (!rV u.f|| !rV u.o||decide (b9 u.f rZ<=0)|| !aj u.k 0 100) (K (cB.enc false)) (K (cB.enc (u.s==0||eqU u (bT u.d u.f u.k))))))))
theorem Ic (u:Un) (K:zdR):ig g2 noA 6 47 [cU.enc u] K=Ib u K:=by kernel_rfl
theorem yV (u:Un) (K:zdR) (h:aH u=true) (H:K (cB.enc (VK u))):Ib u K:=by
 unfold aH at h;rw[za2] at h;unfold VK at H;refine iu ⟨λ_ h=>h,λ_ h=>h,λ_ h=>h,λ_ h=>h,λ_ h=>h,λ_ h=>h,λ_ h=>h⟩ (λJ d _ _=> ?_) (λJ=> ?_)
 ·rw[J] at H;exact H
 ·simp only[h.1,h.2,zaQ,show ∀g,dC g true=true from λ_=>rfl,bE];rw[VH];rw[J] at H;have e:decide (0<b9 u.f rZ)= !decide (b9 u.f rZ<=0):=by
   rw[zax];simp
  rw[e] at H;refine⟨λq=> ?_,λq=> ?_⟩
  ·have:(true&&(rV u.f&&(rV u.o&&(!decide (b9 u.f rZ<=0)&&(aj u.k 0 100&&(u.s==0||eqU u (bT u.d u.f u.k)))))))=false:=by
    revert q;cases rV u.f<;>cases rV u.o<;>cases decide (b9 u.f rZ<=0)<;>cases aj u.k 0 100<;>simp
   rw[this] at H;exact H
  ·have:(true&&(rV u.f&&(rV u.o&&(!decide (b9 u.f rZ<=0)&&(aj u.k 0 100&&(u.s==0||eqU u (bT u.d u.f u.k)))))))=(u.s==0||eqU u (bT u.d u.f u.k)):=by
    revert q;cases rV u.f<;>cases rV u.o<;>cases decide (b9 u.f rZ<=0)<;>cases aj u.k 0 100<;>simp
   rw[this] at H;exact H
def g3:List (FuncId×Ctr):=(47,k1 cU cB aH VK)::g2
theorem WM:GOk g3:=
 WT.cons (λW H=>dD λu h=>WT.yields (ann:=noA) (n:=6) H m8 (cB.ids _) (by rw[Ic];exact yV _ (λr=>r=_) h rfl)) call47
theorem Eu (u:Un) (K:zdR):ig g3 noA 6 122 [cU.enc u] K=af (aH u) (K (cB.enc (aU u))):=by kernel_rfl
def AZ (s:Int) (x y:Int×Int) (Q:Prop):Prop:=
 af (inR .i64 (x.1*y.2)) (af (inR .i64 (s*y.1)) (af (inR .i64 (s*y.1*x.2)) (af (inR .i64 (x.1*y.2+s*y.1*x.2)) (af (inR .i64 (x.2*y.2))
  (af (aj (x.1*y.2+s*y.1*x.2) (-1000000) 1000000&&aj (x.2*y.2) 1 1000000) Q)))))
theorem Id (a b:D7) (s:Int) (K:zdR):ig g3 noA 6 123 [c7.enc a,c7.enc b,cI.enc s] K=
 Q3 (AZ s) a b (ku (kw s) a b) (λ_ d=>K ((cP c7 cB).enc (d,false))) (K ((cP c7 cB).enc (ku (kw s) a b,true))):=by kernel_rfl
theorem j8 (h:aR p=true):(1<=p.2/\p.2<=12)/\ -12<=p.1/\p.1<=12:=by
 unfold aR at h;simp only[za2,VL] at h;exact⟨h.1,h.2.1⟩
variable {k:Int}
theorem tD {x y:Int} (h: -k<=x/\x<=k) (H:0<=k/\k<=1000) (J:1<=y/\y<=12): -(12*k)<=x*y/\x*y<=12*k:=by
 have:y=1\/y=2\/y=3\/y=4\/y=5\/y=6\/y=7\/y=8\/y=9\/y=10\/y=11\/y=12:=by omega
 rcases this with rfl|rfl|rfl|rfl|rfl|rfl|rfl|rfl|rfl|rfl|rfl|rfl<;>omega
variable {s:Int}
theorem j9 (V:s=1\/s= -1) {x y:Int×Int} (Y:aR x=true) (Z:aR y=true) (Q:Prop) (N:Q):AZ s x y Q:=by
 have J:=j8 Y;have H:=j8 Z;have h1:=tD (k:=12) J.2 (by omega) H.1;have h2: -12<=s*y.1/\s*y.1<=12:=by rcases V with rfl|rfl<;>omega
 have h3:=tD (k:=12) h2 (by omega) J.1;have h4:=tD (x:=x.2) (k:=12) (by omega) (by omega) H.1;have h5:0<x.2*y.2:=zaU (by omega) (by omega);unfold AZ;rw[VP.2 (by omega),VP.2 (by omega),VP.2 (by omega),VP.2 (by omega),VP.2 (by omega),VL.2 (by omega),VL.2 (by omega)];exact N
theorem i9 {d:D7} (h:ct d=true):aR d.d0=true/\aR d.d1=true/\aR d.d2=true/\aR d.d3=true/\aR d.d4=true/\aR d.d5=true/\aR d.d6=true:=by
 unfold ct at h;simpa only[za2] using h
theorem tE (H:s=1\/s= -1) {a b:D7} (ha:ct a=true) (hb:ct b=true):Oi (AZ s) a b:=by
 obtain⟨J,N,V,Y,Z,a5,a6⟩:=i9 ha;obtain⟨b0,b1,b2,b3,b4,b5,b6⟩:=i9 hb;exact⟨j9 H J b0,j9 H N b1,j9 H V b2,j9 H Y b3,j9 H Z b4,j9 H a5 b5,j9 H a6 b6⟩
theorem yW (Z:s=1\/s= -1) {a b:D7} (J:ct a=true) (N:ct b=true) (K:zdR) (H:K ((cP c7 cB).enc (eS (ku (kw s) a b)))):
 Q3 (AZ s) a b (ku (kw s) a b) (λ_ d=>K ((cP c7 cB).enc (d,false))) (K ((cP c7 cB).enc (ku (kw s) a b,true))):=by
 refine iu (tE Z J N) (λ_ d V _=> ?_) (λY=> ?_)
 ·rw[V] at H;exact H
 ·rw[ir Y] at H;exact H
def g4:List (FuncId×Ctr):=(122,k1 cU cB aH aU)::(123,k3 c7 c7 cI (cP c7 cB) (λa b s=>ct a&&ct b&&(s==1||s== -1)) (λa b s=>eS (ku (kw s) a b)))::g3
theorem WC:GOk g4:=
 (WM.cons (λW H=>sQ λa b s h=>by
     simp only[za2,zav,zdy] at h
     exact WM.yields (ann:=noA) (n:=6) H AW ((cP c7 cB).ids _) (by rw[Id];exact yW h.2 h.1.1 h.1.2 (λr=>r=_) rfl)) call123).cons
   (λW H=>dD λu h=>WM.yields (ann:=noA) (n:=6) H m8 (cB.ids _) (by rw[Eu,h];exact rfl)) call122
theorem TE {s:zdH} (h:vS s=true):uz s=true:=zdp (Xq h)
theorem Ie {a:RS} (h:rV a=true):uzR a=true:=by
 have:=ay h;unfold uzR;rw[TE this.1,TE this.2.1];rfl
theorem tF:uzR noR=true:=by decide
theorem alg (n d:Int):uzR (rMk n d).1=true:=by
 rcases uQ n d with ⟨_,_,_,h⟩|⟨_,h⟩
 ·exact Ie h.valid
 ·rw[h];exact tF
theorem Lq (a b:RS):uzR (fZ a b).1=true:=by unfold fZ;split;exact alg _ _;exact tF
theorem Lr (a b:RS):uzR (iF a b).1=true:=by unfold iF;split;exact alg _ _;exact tF
theorem gI (a b:RS):uzR (ale a b).1=true:=by unfold ale;split;exact alg _ _;exact tF
theorem lY (a b:RS):uzR (cA a b).1=true:=by unfold cA;split;exact alg _ _;exact tF
def tG (s:Int) (op:RS->RS->RS×Int) (a b:Un) (k:Int) (K:zdR):Prop:=
 af (ct a.d&&ct b.d&&true) (af (uzR a.f&&uzR b.f) (ag (!(eS (ku (kw s) a.d b.d)).2||(op a.f b.f).2 !=0) (K ((cP cU cI).enc (noU,70)))
  (K ((cP cU cI).enc (bT (eS (ku (kw s) a.d b.d)).1 (op a.f b.f).1 k,0)))))
def vE (p q:Bool) (a b:Un) (T:Prop):Prop:=af (aH a) (af (dC p (aH b)) T)
def PU (a b:Un) (K:zdR):Prop:=vE (!!aU a) true a b (ag (!aU a|| !aU b) (K ((cP cU cI).enc (noU,70)))
 (ag (2==b.s) (tG 1 ale a b a.k K) (ag (2==a.s) (tG 1 ale a b b.k K) (tG 1 ale a b 0 K))))
def PV (a b:Un) (K:zdR):Prop:=vE (!!aU a) true a b (ag (!aU a|| !aU b) (K ((cP cU cI).enc (noU,70)))
 (ag (b.s==2) (tG (-1) cA a b a.k K) (tG (-1) cA a b 0 K)))
theorem Oj (a b:Un) (K:zdR):ig g4 noA 6 260 [cU.enc a,cU.enc b] K=PU a b K:=by kernel_rfl
theorem Ok (a b:Un) (K:zdR):ig g4 noA 6 45 [cU.enc a,cU.enc b] K=PV a b K:=by kernel_rfl
def PW (a b:Un) (K:zdR):Prop:=vE (VK a) true a b (ag (!jk a b||(a.s==0&&b.s==0)) (K ((cP cU cI).enc (noU,70))) (ag (b.s==0) (K ((cP cU cI).enc (b,0))) (K ((cP cU cI).enc (a,0)))))
def M4 (a b:Un) (K:zdR):Prop:=vE (VK a) true a b (ag (!jk a b) (K ((cP cU cI).enc (noU,70))) (ag (b.s !=0) (K ((cP cU cI).enc (a,0)))
 (ag (eqU a b) (K ((cP cU cI).enc (bT a.d a.f a.k,0))) (K ((cP cU cI).enc (noU,70))))))
theorem Ol (a b:Un) (K:zdR):ig g4 noA 6 258 [cU.enc a,cU.enc b] K=PW a b K:=by kernel_rfl
theorem Ls (a b:Un) (K:zdR):ig g4 noA 6 259 [cU.enc a,cU.enc b] K=M4 a b K:=by kernel_rfl
variable {q:Bool} {a b:Un}
theorem oz {p:Bool} (h:(aH a&&aH b)=true) (H:T):vE p q a b T:=by
 rw[za2] at h;unfold vE;rw[h.1,h.2];exact H
variable {u:Un}
theorem eL (h:aH u=true):uzR u.f=true/\uzR u.o=true:=by
 unfold aH at h;simpa using h
variable {K:zdR}
theorem m9 {op:RS->RS->RS×Int} (h:(aH a&&aH b)=true) (J:ct a.d=true) (N:ct b.d=true) (H:K ((cP cU cI).enc (qi (eS (ku (kw s) a.d b.d)) (op a.f b.f) k))):tG s op a b k K:=by
 rw[za2] at h;unfold tG;rw[J,N,(eL h.1).1,(eL h.2).1];simp only[zc6,bE];rw[VH];unfold qi at H;refine⟨λq=> ?_,λq=> ?_⟩<;>(rw[q] at H;exact H)
theorem tH (h:VK u=true):ct u.d=true:=by
 unfold VK at h;rw[za2] at h;exact h.1
theorem bP (h:aU u=true):ct u.d=true:=by
 unfold aU at h;rw[za2] at h;exact tH h.1
theorem If {p:Bool} (h:(!p|| !q)=false):p=true/\q=true:=by cases p<;>cases q<;>simp_all
theorem Ev (h:(aH a&&aH b)=true) (H:K ((cP cU cI).enc (mi a b))):PU a b K:=by
 refine oz h ?_;unfold mi at H;rw[VH];refine⟨λq=>(by rw[q] at H;exact H),λq=> ?_⟩;rw[q,zdq] at H;have f:=If q;rw[VH];refine⟨λJ=> ?_,λJ=> ?_⟩
 ·rw[J] at H;exact m9 h (bP f.1) (bP f.2) H
 ·rw[J] at H;rw[VH];refine⟨λN=> ?_,λN=> ?_⟩<;>(rw[N] at H;exact m9 h (bP f.1) (bP f.2) H)
theorem Ew (h:(aH a&&aH b)=true) (H:K ((cP cU cI).enc (fd a b))):PV a b K:=by
 refine oz h ?_;unfold fd at H;rw[VH];refine⟨λq=>(by rw[q] at H;exact H),λq=> ?_⟩;rw[q,zdq] at H;have f:=If q;rw[VH];refine⟨λJ=> ?_,λJ=> ?_⟩<;>(rw[J] at H;exact m9 h (bP f.1) (bP f.2) H)
theorem Ez (h:(aH a&&aH b)=true) (H:K ((cP cU cI).enc (iS a b))):PW a b K:=by
 refine oz h ?_;unfold iS at H;rw[VH];refine⟨λq=>(by rw[q] at H;exact H),λq=> ?_⟩;rw[q,zdq] at H;rw[VH];refine⟨λJ=> ?_,λJ=> ?_⟩<;>(rw[J] at H;exact H)
theorem A3 (h:(aH a&&aH b)=true) (H:K ((cP cU cI).enc (fw a b))):M4 a b K:=by
 refine oz h ?_;unfold fw at H;rw[VH];refine⟨λq=>(by rw[q] at H;exact H),λq=> ?_⟩;rw[q,zdq] at H;rw[VH];refine⟨λJ=>(by rw[J] at H;exact H),λJ=> ?_⟩;rw[J,zdq] at H;rw[VH];refine⟨λN=> ?_,λN=> ?_⟩<;>(rw[N] at H;exact H)
def g4c:List (FuncId×Ctr):=g4
theorem WU:GOk g4c:=WC
def g5:List (FuncId×Ctr):=
 (260,k2 cU cU (cP cU cI) (λa b=>aH a&&aH b) mi)::(45,k2 cU cU (cP cU cI) (λa b=>aH a&&aH b) fd)::
 (258,k2 cU cU (cP cU cI) (λa b=>aH a&&aH b) iS)::(259,k2 cU cU (cP cU cI) (λa b=>aH a&&aH b) fw)::g4c
theorem Xa:GOk g5:=
 ((((WU.cons (λW H=>bC λa b h=>WC.yields (ann:=noA) (n:=6) H de ((cP cU cI).ids _) (by rw[Ls];exact A3 (K:=λr=>r=_) h rfl)) call259).cons
   (λW H=>bC λa b h=>WC.yields (ann:=noA) (n:=6) H de ((cP cU cI).ids _) (by rw[Ol];exact Ez (K:=λr=>r=_) h rfl)) call258).cons
   (λW H=>bC λa b h=>WC.yields (ann:=noA) (n:=6) H de ((cP cU cI).ids _) (by rw[Ok];exact Ew (K:=λr=>r=_) h rfl)) call45)).cons
   (λW H=>bC λa b h=>WC.yields (ann:=noA) (n:=6) H de ((cP cU cI).ids _) (by rw[Oj];exact Ev (K:=λr=>r=_) h rfl)) call260
def A4 (p x:Int×Int):Int×Int:=qG (x.1*p.1) (x.2*p.2)
def wV (p:Int×Int) (a:D7):D7:=⟨A4 p a.d0,A4 p a.d1,A4 p a.d2,A4 p a.d3,A4 p a.d4,A4 p a.d5,A4 p a.d6⟩
def acV (f:RS) (x:Bool×RS):Bool×RS:=bif !x.1 then(x.1||(ale x.2 f).2 !=0,(ale x.2 f).1) else x
def bV (f:RS):Nat->Bool×RS
 |0=>(false,rI)
 |n+1=>acV f (bV f n)
def tI (n:Int) (x:Bool×RS):Bool×RS:=bif decide (n<0)&& !x.1 then((cA rI x.2).2 !=0,(cA rI x.2).1) else x
def cC (n:Int):Int:=if -n>n then -n else n
def jm (a:Un) (p:Int×Int):Un×Int:=
 bif !aU a|| !aR p||(p.2 !=1&& !eqR a.f rI) then(noU,70) else
 bif !(eS (wV p a.d)).2||(tI p.1 (bif p.2==1 then bV a.f p.1.natAbs else(false,rI))).1 then(noU,70) else
 (bT (eS (wV p a.d)).1 (tI p.1 (bif p.2==1 then bV a.f p.1.natAbs else(false,rI))).2 (bif eq2 p (1,1) then a.k else 0),0)
def kA (A:AS) (t:Nat):Nat:=match A.tm t with
 | .v (.ptr i _ _)=>i
 |_=>0
abbrev PX:=Int×Bool×RS
def Ig (x:Bool×RS):zdK:= [.val (.bool x.1), .val (.string x.2.1), .val (.string x.2.2)]
def Ih (I:PX->Prop) (N:Int):zdV:=λf k=>bif Nat.beq f 261&&Nat.beq k 7 then some (λA=>{X:=PX,inv:=I,tm:=λx=> [(47, .val (.int .i64 x.1))],st:= [(kA A 8,λx=>Ig x.2)],mu:=λx=>(N - x.1).toNat,keep:= [2,3,4,5,6,7,8,46]}) else none
def wW (a:Un) (p:Int×Int) (d:D7) (ok:Bool) (x:Bool×RS) (K:zdR):Prop:=
 ag (eq2 p (1,1)) (ag (!ok||x.1) (K ((cP cU cI).enc (noU,70))) (K ((cP cU cI).enc (bT d x.2 a.k,0)))) (ag (!ok||x.1) (K ((cP cU cI).enc (noU,70))) (K ((cP cU cI).enc (bT d x.2 0,0))))
def wX (a:Un) (p:Int×Int) (d:D7) (ok:Bool) (x:Bool×RS) (K:zdR):Prop:=
 ag (decide (p.1<0)&& !x.1) (af (uzR rI&&uzR x.2) (wW a p d ok ((cA rI x.2).2 !=0,(cA rI x.2).1) K)) (wW a p d ok x K)
def cg (i:Nat):Prop:=TV.v (SV.ptr i 0 0)=TV.v (SV.ptr i 0 0)
def Lt (H i8:Nat) (ok:Bool) (n:Int) (q:PX) (z:PX):Prop:=
 (TV.v (cI.enc q.1)=TV.v (cI.enc z.1)/\cg 0/\cg 1/\cg 2/\(TV.v (cI.enc 0)=TV.v (cI.enc 0))/\cg H/\(TV.v (cB.enc ok)=TV.v (cB.enc ok))/\cg i8/\(TV.v (cI.enc (cC n))=TV.v (cI.enc (cC n)))/\True)/\
 (True/\((Ig q.2=Ig z.2/\True)/\True))
def Lu (I:PX->Prop) (N:Int) (a:Un) (p:Int×Int) (J i8:Nat) (d:D7) (ok:Bool) (K:zdR):Prop:=
 ag (p.2==1) (af (inR .i64 (-p.1)) (∃Z:PX,I Z/\Lt J i8 ok p.1 (0,false,rI) Z/\ ∀H:PX,I H->
  ag (decide (H.1<cC p.1))
   (ag (!H.2.1) (af (uzR H.2.2&&uzR a.f) (af (inR .i64 (H.1+1)) (∃V:PX,I V/\(N - V.1).toNat<(N - H.1).toNat/\Lt J i8 ok p.1 (H.1+1,H.2.1||(ale H.2.2 a.f).2 !=0,(ale H.2.2 a.f).1) V)))
     (af (inR .i64 (H.1+1)) (∃Y:PX,I Y/\(N - Y.1).toNat<(N - H.1).toNat/\Lt J i8 ok p.1 (H.1+1,H.2) Y)))
   (wX a p d ok H.2 K)))
  (wX a p d ok (false,rI) K)
def Ii (p:Int×Int) (x _y:Int×Int) (Q:Prop):Prop:=af (inR .i64 (x.1*p.1)) (af (inR .i64 (x.2*p.2)) (af (aj (x.1*p.1) (-1000000) 1000000&&aj (x.2*p.2) 1 1000000) Q))
def Om (I:PX->Prop) (N:Int) (a:Un) (p:Int×Int) (K:zdR):Prop:=
 af (aH a) (ag (!aU a|| !aR p||(p.2 !=1&& !eqR a.f rI)) (K ((cP cU cI).enc (noU,70)))
  (Q3 (Ii p) a.d a.d (wV p a.d) (λk d=>Lu I N a p (66+34*k) (74+34*k) d false K) (Lu I N a p 273 281 (wV p a.d) true K)))
theorem On (I:PX->Prop) (N:Int) (a:Un) (p:Int×Int) (K:zdR):ig g4 (Ih I N) 8 261 [cU.enc a,c22.enc p] K=Om I N a p K:=by kernel_rfl
def Lv (a:Un) (p:Int×Int) (d:D7) (ok:Bool) (x:Bool×RS):Un×Int:=bif !ok||x.1 then(noU,70) else(bT d x.2 (bif eq2 p (1,1) then a.k else 0),0)
variable {a:Un} {p:Int×Int} {d:D7} {ok:Bool} {x:Bool×RS} {K:zdR}
theorem EA (h:K ((cP cU cI).enc (Lv a p d ok x))):wW a p d ok x K:=by
 unfold Lv at h;unfold wW;rw[VH];refine⟨λq=> ?_,λq=> ?_⟩<;>(rw[VH];refine⟨λr=> ?_,λr=> ?_⟩<;>(rw[q,r] at h;exact h))
theorem vG (H:uzR x.2=true) (h:K ((cP cU cI).enc (Lv a p d ok (tI p.1 x)))):wX a p d ok x K:=by
 unfold tI at h;unfold wX;rw[H,VH];refine⟨λq=> ?_,λq=> ?_⟩<;>(rw[q] at h;exact EA h)
theorem pE (H i8:Nat) (ok:Bool) (n:Int) (q:PX):Lt H i8 ok n q q:=⟨⟨rfl,rfl,rfl,rfl,rfl,rfl,rfl,rfl,rfl,trivial⟩,trivial,⟨rfl,trivial⟩,trivial⟩
theorem Ij:uzR rI=true:=by decide
theorem XV (f:RS): ∀n,uzR (bV f n).2=true
 |0=>Ij
 |n+1=>by
  unfold bV acV;cases h: !(bV f n).1 with
  |true=>exact gI _ _
  |false=>exact XV f n
def Oo (f:RS) (N:Int) (x:PX):Prop:=0<=x.1/\x.1<=N/\x.2=bV f x.1.toNat
theorem CG {i6 i8:Nat} (hp: -12<=p.1/\p.1<=12) (V:uzR a.f=true)
 (h:K ((cP cU cI).enc (Lv a p d ok (tI p.1 (bif p.2==1 then bV a.f p.1.natAbs else(false,rI)))))):Lu (Oo a.f (cC p.1)) (cC p.1) a p i6 i8 d ok K:=by
 have Y:0<=cC p.1/\cC p.1<=12/\(cC p.1).toNat=p.1.natAbs:=by
  unfold cC;split<;>omega
 unfold Lu;rw[VH];refine⟨λq=> ?_,λq=> ?_⟩
 ·rw[q] at h;rw[VP.2 (by omega),bE];refine⟨(0,false,rI),⟨zat _,Y.1,rfl⟩,pE _ _ _ _ _, ?_⟩;rintro⟨k,x⟩ ⟨h0,h1,h2⟩;simp only at h0 h1 h2 ⊢;have e:(k+1).toNat=k.toNat+1:=by omega
  rw[VH];refine⟨λH=> ?_,λH=> ?_⟩
  ·have H:k<cC p.1:=zdu H;rw[VH];refine⟨λJ=> ?_,λJ=> ?_⟩
   ·rw[show uzR x.2=true by rw[h2];exact XV _ _,V,VP.2 (by omega)];refine⟨(k+1,x.1||(ale x.2 a.f).2 !=0,(ale x.2 a.f).1),⟨by simp only;omega,by simp only;omega, ?_⟩,by simp only;omega,pE _ _ _ _ _⟩;simp only;rw[e];unfold bV acV;rw[<-h2,J,zdr]
   ·rw[VP.2 (by omega)];refine⟨(k+1,x),⟨by simp only;omega,by simp only;omega, ?_⟩,by simp only;omega,pE _ _ _ _ _⟩;simp only;rw[e];unfold bV acV;rw[<-h2,J,zdq]
  ·have H: ¬k<cC p.1:=zdv H;have N:k.toNat=p.1.natAbs:=by omega
   rw[N] at h2;rw[zdr,<-h2] at h;exact vG (by rw[h2];exact XV _ _) h
 ·rw[q] at h;exact vG Ij h
theorem XL {x:Int×Int} (hp:aR p=true) (Y:aR x=true) (y:Int×Int) (Q:Prop) (V:Q):Ii p x y Q:=by
 have J:=j8 hp;have H:=j8 Y;have h1: -(12*12)<=p.1*x.2/\p.1*x.2<=12*12:=tD (k:=12) J.2 (by omega) H.1;have h2:=tD (x:=x.2) (k:=12) (by omega) (by omega) J.1;have h3:0<x.2*p.2:=zaU (by omega) (by omega);have h4: -144<=x.1*p.1/\x.1*p.1<=144:=by
  rcases Int.le_total 1 p.1 with h|h
  ·exact tD (k:=12) H.2 (by omega) (by omega)
  ·rcases Int.le_total p.1 (-1) with N|N
   ·have:=tD (x:=x.1) (y:= -p.1) (k:=12) H.2 (by omega) (by omega);rw[zbM] at this;omega
   ·have:p.1=0\/p.1=1\/p.1= -1:=by omega
    rcases this with e|e|e<;>rw[e]<;>omega
 unfold Ii;rw[VP.2 (by omega),VP.2 (by omega),VL.2 (by omega),VL.2 (by omega)];exact V
theorem yX (hp:aR p=true) {a:D7} (ha:ct a=true):Oi (Ii p) a a:=by
 obtain⟨H,J,N,V,Y,Z,a6⟩:=i9 ha;exact⟨XL hp H _,XL hp J _,XL hp N _,XL hp V _,XL hp Y _,XL hp Z _,XL hp a6 _⟩
theorem EB (h:aH a=true) (H:K ((cP cU cI).enc (jm a p))):Om (Oo a.f (cC p.1)) (cC p.1) a p K:=by
 unfold jm at H;unfold Om;rw[h,bE,VH];refine⟨λq=>(by rw[q] at H;exact H),λq=> ?_⟩;rw[q,zdq] at H;have J:aU a=true/\aR p=true:=by
  revert q;cases aU a<;>cases aR p<;>simp
 have hp:=(j8 J.2).2;refine iu (yX J.2 (bP J.1)) (λ_ d N k=> ?_) (λV=> ?_)
 ·rw[N] at H;exact CG hp (eL h).1 H
 ·rw[ir V] at H;exact CG hp (eL h).1 H
def g6:List (FuncId×Ctr):=(261,k2 cU c22 (cP cU cI) (λa _=>aH a) jm)::g5
theorem Wv:GOk g6:=
 Xa.cons (λW H=>bC λa p h=>WC.yields (ann:=Ih (Oo a.f (cC p.1)) (cC p.1)) (n:=8) H de ((cP cU cI).ids _) (by rw[On];exact EB (K:=λr=>r=_) h rfl)) Tryz.call261
def at5 (d:D7):Bool:=d.d0.1==0&&(d.d1.1==0&&(d.d2.1==0&&(d.d3.1==0&&(d.d4.1==0&&(d.d5.1==0&&d.d6.1==0)))))
def dV (d:D7) (f:RS) (k:Int):Un:=⟨d,f,rZ,k,bif at5 d&&k==0 then 2 else 1⟩
def co (c n:Int):Int:=(bif decide (c<0) then -(c+1) else c).tmod n
def Oq:List FuncId:= [225,288,223,290,234,232,233,289,229,224,154,226,227,156,155,161,231,159,160
 ]
abbrev gJ (g:List (FuncId×Ctr)) (ann:zdV) (n:Nat) (f:FuncId) (args:zdK) (K:zdR):Prop:=wq prog (iR Oq) (gw g) (gx []) ann n f args (λ_=>none) 0 [] (okK λr _ _ _=>K r)
theorem Lw: ∀f∈Oq,V0 prog f:=by
 simp only[Oq,zc3,zck]
 exact⟨call225,call288,call223,call290,call234,call232,call233,call289,call229,call224,call154,call226,call227,call156,call155,call161,call231,call159,call160
 ,λ_ h=>by cases h⟩
theorem GOk.yieldsV {g:List (FuncId×Ctr)} {W0:World} (h:GOk g) (hg:GlobU W0) {ann:zdV} {n:Nat} {F:FuncId} {args:zdK} {r:SV} (J:SV.idss args= []) (V:r.ids= []) (H:gJ g ann n F args λs=>s=r):Go.Sy.Yields prog W0 F args r:=
 cr (λW N=>mW (h.all W (hg.below N)) (λ_ _ _ h=>by cases h) Lw (by kernel_rfl)) J V H
theorem Ot (K:zdR):gJ qH noA 3 225 [] K=K (cR.enc rI):=by kernel_rfl
theorem Lx (K:zdR):gJ qH noA 3 288 [] K=K (cR.enc rZ):=by kernel_rfl
def M5 (d:D7) (P Q:Prop):Prop:=ag (d.d0.1 !=0) Q (ag (d.d1.1 !=0) Q (ag (d.d2.1 !=0) Q (ag (d.d3.1 !=0) Q (ag (d.d4.1 !=0) Q (ag (d.d5.1 !=0) Q (ag (d.d6.1 !=0) Q P))))))
theorem Ly (d:D7) (K:zdR):gJ qH noA 3 289 [c7.enc d] K=M5 d (K (cB.enc true)) (K (cB.enc false)):=by kernel_rfl
variable {n:Int}
theorem iw {f:Bool->Prop} {b:Bool} {P Q:Prop} (H:f (n==0&&b)) (N:f false->Q) (J:f b->P):ag (n !=0) Q P:=by
 unfold bne;cases e:n==0 with
 |true=>rw[e] at H;exact J H
 |false=>rw[e] at H;exact N H
variable {K:zdR}
theorem A5 {d:D7} (H:K (cB.enc (at5 d))):M5 d (K (cB.enc true)) (K (cB.enc false)):=
 iw (f:=λb=>K (cB.enc b)) H id λh=>iw (f:=λb=>K (cB.enc b)) h id λh=>iw (f:=λb=>K (cB.enc b)) h id λh=>iw (f:=λb=>K (cB.enc b)) h id λh=>
  iw (f:=λb=>K (cB.enc b)) h id λh=>iw (f:=λb=>K (cB.enc b)) h id λh=>iw (f:=λb=>K (cB.enc b)) (b:=true) (by rw[zaQ];exact h) id id
def vH (c n:Int) (K:zdR):Prop:=ag (decide (c<0)) (af (inR .i64 (c+1)) (af (inR .i64 (-(c+1))) (af (!decide (n=0)) (K (cI.enc ((-(c+1)).tmod n)))))) (af (!decide (n=0)) (K (cI.enc (c.tmod n))))
theorem A6 {c:Int} (J:cl c=true) (N:0<n) (H:K (cI.enc (co c n))):vH c n K:=by
 have J:=V4.1 J;unfold co at H;unfold vH;rw[VH,zds (by omega: ¬n=0)];refine⟨λq=> ?_,λq=> ?_⟩
 ·rw[q] at H;have:=zdu q;rw[VP.2 (by omega),VP.2 (by omega)];exact H
 ·rw[q] at H;exact H
def h0:List (FuncId×Ctr):=qH
theorem Xb:GOk h0:=Wr
def h1:List (FuncId×Ctr):=(225,k0 cR rI)::(288,k0 cR rZ)::(289,k1 c7 cB (λ_=>true) at5)::h0
theorem WV:GOk h1:=
 ((Xb.cons (λW H=>dD λd _=>Wr.yieldsV (ann:=noA) (n:=3) H m8 (cB.ids _) (by rw[Ly];exact A5 (K:=λr=>r=_) rfl)) call289).cons
   (λW H=>GF (Wr.yieldsV (ann:=noA) (n:=3) H NU (cR.ids _) (by rw[Lx]))) call288).cons
   (λW H=>GF (Wr.yieldsV (ann:=noA) (n:=3) H NU (cR.ids _) (by rw[Ot]))) call225
theorem EC (d:D7) (f:RS) (k:Int) (K:zdR):gJ h1 noA 3 224 [c7.enc d,cR.enc f,cI.enc k] K=
 ag (at5 d&&k==0) (K (cU.enc ⟨d,f,rZ,k,2⟩)) (K (cU.enc ⟨d,f,rZ,k,1⟩)):=by kernel_rfl
theorem wY (d:D7) (f:RS) (k:Int) (K:zdR) (H:K (cU.enc (dV d f k))):ag (at5 d&&k==0) (K (cU.enc ⟨d,f,rZ,k,2⟩)) (K (cU.enc ⟨d,f,rZ,k,1⟩)):=by
 rw[VH];unfold dV at H;refine⟨λh=> ?_,λh=> ?_⟩<;>(rw[h] at H;exact H)
def h1o:List (FuncId×Ctr):=h1
theorem WW:GOk h1o:=WV
def h2:List (FuncId×Ctr):=(224,k3 c7 cR cI cU (λ_ _ _=>true) dV)::h1o
theorem WN:GOk h2:=
 WW.cons (λW H=>sQ λd f k _=>WV.yieldsV (ann:=noA) (n:=3) H AW (cU.ids _) (by rw[EC];exact wY _ _ _ (λr=>r=_) rfl)) Tryz.call224
def am8 (a b:Int):Int:=Int.gcd a b
def Ik (I:Int×Int->Prop):zdV:=λf k=>bif Nat.beq f 290&&Nat.beq k 1 then some (λ_=>{X:=Int×Int,inv:=I,tm:=λx=> [(0, .val (.int .i64 x.1)),(1, .val (.int .i64 x.2))],mu:=λx=>x.2.toNat,keep:= [4]}) else none
def PY (p q:Int) (z:Int×Int):Prop:=(TV.v (cI.enc p)=TV.v (cI.enc z.1)/\(TV.v (cI.enc q)=TV.v (cI.enc z.2))/\(TV.v (cI.enc 0)=TV.v (cI.enc 0))/\True)/\(True/\(True/\True))
def Ou (I:Int×Int->Prop) (a b:Int) (K:zdR):Prop:=
 ∃N:Int×Int,I N/\PY a b N/\ ∀H:Int×Int,I H->
  ag (H.2 !=0) (af (!decide (H.2=0)) (∃J:Int×Int,I J/\(J.2.toNat<H.2.toNat)/\PY H.2 (H.1.tmod H.2) J)) (K (cI.enc H.1))
theorem Ov (I:Int×Int->Prop) (a b:Int) (K:zdR):gJ h2 (Ik I) 3 290 [cI.enc a,cI.enc b] K=Ou I a b K:=by kernel_rfl
theorem Ow (n:Int) (K:zdR):gJ h2 noA 3 234 [cI.enc n] K=af (inR .i64 (-n)) (K (cI.enc (cC n))):=by kernel_rfl
theorem ED {a b:Int} (N:0<=a/\a<=1000000) (H:0<=b/\b<=1000000) (K:zdR) (J:K (cI.enc (am8 a b))):Ou (Lm a b) a b K:=by
 unfold Ou;refine⟨(a,b),⟨N,H,rfl⟩,⟨⟨rfl,rfl,rfl,trivial⟩,trivial,trivial,trivial⟩, ?_⟩;rintro⟨x,y⟩ ⟨⟨h1,h2⟩,⟨h3,h4⟩,h5⟩;simp only at h1 h2 h3 h4 h5 ⊢;rw[VH];refine⟨λH=> ?_,λH=> ?_⟩
 ·have H:y≠0:=by simpa using H
  rw[zds H,zbg,bE];have:=zcn x (show 0<y by omega);have h0:=zco y h1;exact⟨(y,x.tmod y),⟨⟨h3,h4⟩,⟨h0,by simp only;omega⟩,by simp only;rw[yT h1 (by omega)];exact h5⟩,by simp only;omega,⟨rfl,rfl,rfl,trivial⟩,trivial,trivial,trivial⟩
 ·have H:y=0:=by simpa using H
  subst H;rw[Int.gcd_zero_right] at h5;have e:x=am8 a b:=by unfold am8;omega
  rw[e];exact J
def h3:List (FuncId×Ctr):=(290,k2 cI cI cI (λa b=>aj a 0 1000000&&aj b 0 1000000) am8)::(234,k1 cI cI (λn=>aj n (-1000000) 1000000) cC)::h2
theorem WO:GOk h3:=
 (WN.cons (λW H=>dD λn h=>WN.yieldsV (ann:=noA) (n:=3) H m8 (cI.ids _) (by
     have h:=VL.1 h
     rw[Ow,VP.2 (by omega),bE])) Tryz.call234).cons
   (λW H=>bC λa b h=>by
     simp only[za2,VL] at h
     exact WN.yieldsV (ann:=Ik (Lm a b)) (n:=3) H de (cI.ids _) (by rw[Ov];exact ED h.1 h.2 (λr=>r=_) rfl)) Tryz.call290
def x4 (p:Int×Int):Bool×Bool:=bif !aj p.2 1 12|| !aj p.1 (-12) 12 then(false,false) else(am8 (cC p.1) p.2==1,p.1==0)
theorem tJ (a b c:Int) (K:zdR):gJ h3 noA 3 223 [cI.enc a,cI.enc b,cI.enc c] K=K (cB.enc (aj a b c)):=by kernel_rfl
def h4:List (FuncId×Ctr):=(223,k3 cI cI cI cB (λ_ _ _=>true) aj)::h3
theorem WY:GOk h4:=
 WO.cons (λW H=>sQ λa b c _=>WO.yieldsV (ann:=noA) (n:=3) H AW (cB.ids _) (by rw[tJ])) call223
def A7 (p:Int×Int) (K:zdR):Prop:=ag (!aj p.2 1 12|| !aj p.1 (-12) 12) (K ((cP cB cB).enc (false,false)))
 (af (aj p.1 (-1000000) 1000000) (af (aj (cC p.1) 0 1000000&&aj p.2 0 1000000) (K ((cP cB cB).enc (am8 (cC p.1) p.2==1,p.1==0)))))
theorem Il (p:Int×Int) (K:zdR):gJ h4 noA 3 232 [c22.enc p] K=A7 p K:=by kernel_rfl
variable {K:zdR}
theorem yY {p:Int×Int} (H:K ((cP cB cB).enc (x4 p))):A7 p K:=by
 unfold x4 at H;unfold A7;rw[VH];refine⟨λq=>(by rw[q] at H;exact H),λq=> ?_⟩;rw[q,zdq] at H;have b:=If q;rw[VL,VL] at b;have J:0<=cC p.1/\cC p.1<=12:=by
  unfold cC;split<;>omega
 rw[VL.2 (by omega),VL.2 (by omega),VL.2 (by omega)];exact H
def h5:List (FuncId×Ctr):=(232,k1 c22 (cP cB cB) (λ_=>true) x4)::h4
theorem WZ:GOk h5:=
 WY.cons (λW H=>dD λp _=>WY.yieldsV (ann:=noA) (n:=3) H m8 ((cP cB cB).ids _) (by rw[Il];exact yY (K:=λr=>r=_) rfl)) call232
theorem yZ (n d:Int):Int.gcd (cC n) d=Int.gcd n d:=by
 unfold cC;split
 ·rw[Int.neg_gcd]
 ·rfl
theorem lx (p:Int×Int):(x4 p).1=aR p:=by
 unfold x4 aR;cases h1:aj p.2 1 12 with
 |false=>rfl
 |true=>
 cases h2:aj p.1 (-12) 12 with
 |false=>rfl
 |true=>
 have b:=VL.1 h1;simp only[zbh,Bool.or_self,zdq,zb6];rw[zax,zdy,zdt];unfold am8 qG;rw[yZ];have hg:0<Int.gcd p.1 p.2:=zc4 _ (by omega);constructor
 ·intro h;rw[h,Int.tdiv_one,Int.tdiv_one]
 ·intro h;have h2:p.2.tdiv (Int.gcd p.1 p.2:Int)=p.2:=congrArg Prod.snd h;by_cases hh:Int.gcd p.1 p.2=1
  ·omega
  ·have e:(p.2.tdiv (Int.gcd p.1 p.2:Int)).natAbs<p.2.natAbs:=by
    rw[Int.natAbs_tdiv];exact zc7 (by omega) (by omega)
   omega
def wZ (n d:Int) (K:zdR):Prop:=
 af (aj n (-1000000) 1000000) (af (aj (cC n) 0 1000000&&aj d 0 1000000) (af (!decide (am8 (cC n) d=0)&&inR .i64 (n.tdiv (am8 (cC n) d))) (af (!decide (am8 (cC n) d=0)&&inR .i64 (d.tdiv (am8 (cC n) d)))
  (K ((cP c22 cB).enc ((n.tdiv (am8 (cC n) d),d.tdiv (am8 (cC n) d)),(x4 (n.tdiv (am8 (cC n) d),d.tdiv (am8 (cC n) d))).1))))))
theorem EE (n d:Int) (K:zdR):gJ h5 noA 3 233 [cI.enc n,cI.enc d] K=wZ n d K:=by kernel_rfl
theorem w8 {n d:Int} (Y: -1000000<=n/\n<=1000000) (N:1<=d/\d<=1000000) (H:K ((cP c22 cB).enc (qG n d,aR (qG n d)))):wZ n d K:=by
 have hg:0<Int.gcd n d:=zc4 _ (by omega);have V:0<=cC n/\cC n<=1000000:=by
  unfold cC;split<;>omega
 have e:am8 (cC n) d=(Int.gcd n d:Int):=by unfold am8;rw[yZ]
 have e1:=zcp n (Int.gcd n d);have J:=zcp d (Int.gcd n d);unfold wZ;rw[e,VL.2 (by omega),VL.2 (by omega),VL.2 (by omega),zds (by omega: ¬(Int.gcd n d:Int)=0),VP.2 (by omega),VP.2 (by omega),lx];exact H
def h6:List (FuncId×Ctr):=(233,k2 cI cI (cP c22 cB) (λn d=>aj n (-1000000) 1000000&&aj d 1 1000000) (λn d=>(qG n d,aR (qG n d))))::h5
theorem W8:GOk h6:=
 WZ.cons (λW H=>bC λn d h=>by
  simp only[za2,VL] at h
  exact WZ.yieldsV (ann:=noA) (n:=3) H de ((cP c22 cB).ids _) (by rw[EE];exact w8 h.1 h.2 (K:=λr=>r=_) rfl)) call233
def CH (u:Un):Bool:=rV u.f&&(rV u.o&&(decide (0<b9 u.f rZ)&&(aj u.k 0 100&&(aj u.s 0 2&&(u.s==0||(eqR u.o rZ&&((at5 u.d&&u.k==0)==(u.s==2))))))))
def iy (u:Un):Bool:=ct u.d&&CH u
def CJ (u:Un) (K:zdR):Prop:=af (uzR u.f) (af (uzR u.o) (af (dC (!(!rV u.f|| !rV u.o)) (uzR u.f&&true))
 (ag (!rV u.f|| !rV u.o||decide (b9 u.f rZ<=0)|| !aj u.k 0 100|| !aj u.s 0 2) (K (cB.enc false)) (ag (u.s==0) (K (cB.enc true)) (K (cB.enc (eqR u.o rZ&&((at5 u.d&&u.k==0)==(u.s==2)))))))))
def q8 (u:Un) (K:zdR):Prop:=
 ag (!(x4 u.d.d0).1) (K (cB.enc false)) (ag (!(x4 u.d.d1).1) (K (cB.enc false)) (ag (!(x4 u.d.d2).1) (K (cB.enc false)) (ag (!(x4 u.d.d3).1) (K (cB.enc false))
 (ag (!(x4 u.d.d4).1) (K (cB.enc false)) (ag (!(x4 u.d.d5).1) (K (cB.enc false)) (ag (!(x4 u.d.d6).1) (K (cB.enc false)) (CJ u K)))))))
theorem EF (u:Un) (K:zdR):gJ h6 noA 3 229 [cU.enc u] K=q8 u K:=by kernel_rfl
theorem w9 (u:Un) (K:zdR):q8 u K=Q3 (λ_ _ Q=>Q) u.d u.d u.d (λ_ _=>K (cB.enc false)) (CJ u K):=by
 unfold q8 Q3;simp only[lx]
variable {u:Un} {K:zdR}
theorem A8 (h:aH u=true) (H:K (cB.enc (CH u))):CJ u K:=by
 have h:=eL h;have e:decide (0<b9 u.f rZ)= !decide (b9 u.f rZ<=0):=by
  rw[zax];simp
 unfold CH at H;rw[e] at H;unfold CJ;simp only[h.1,h.2,zaQ,show ∀g,dC g true=true from λ_=>rfl,bE];revert H;cases rV u.f<;>cases rV u.o<;>cases decide (b9 u.f rZ<=0)<;>cases aj u.k 0 100<;>cases aj u.s 0 2<;>cases u.s==0<;>exact λH=>H
theorem xa (h:aH u=true) (H:K (cB.enc (iy u))):q8 u K:=by
 rw[w9];unfold iy at H;refine iu ⟨λ_ h=>h,λ_ h=>h,λ_ h=>h,λ_ h=>h,λ_ h=>h,λ_ h=>h,λ_ h=>h⟩ (λJ d _ _=> ?_) (λJ=> ?_)
 ·rw[J] at H;exact H
 ·rw[J,zb6] at H;exact A8 h H
def h7:List (FuncId×Ctr):=(229,k1 cU cB aH iy)::h6
theorem Ww:GOk h7:=
 W8.cons (λW H=>dD λu h=>W8.yieldsV (ann:=noA) (n:=3) H m8 (cB.ids _) (by rw[EF];exact xa (K:=λr=>r=_) h rfl)) Tryz.call229
variable {p:Int×Int}
theorem EG (h:aR p=true) (h0:p.1=0):p.2=1:=by
 have b:=j8 h;unfold aR at h;simp only[za2,zdt] at h;have e:p.2.tdiv (Int.gcd p.1 p.2:Int)=p.2:=congrArg Prod.snd h.2.2;rw[h0,Int.gcd_zero_left] at e;have:(p.2.natAbs:Int)=p.2:=by omega
 rw[this,Int.tdiv_self (by omega)] at e;omega
theorem iz (h:aR p=true):eq2 p (0,1)=(p.1==0):=by
 unfold eq2;cases e:p.1==0 with
 |false=>rfl
 |true=>
  have:=EG h (eq_of_beq e);simp[this]
theorem y5 {d:D7} (h:ct d=true):eq7 d sR=at5 d:=by
 obtain⟨H,J,N,V,Y,Z,a6⟩:=i9 h;have e0:eq7 d sR=(eq2 d.d0 (0,1)&&(eq2 d.d1 (0,1)&&(eq2 d.d2 (0,1)&&(eq2 d.d3 (0,1)&&(eq2 d.d4 (0,1)&&(eq2 d.d5 (0,1)&&(eq2 d.d6 (0,1)&&true))))))):=rfl;rw[e0,iz H,iz J,iz N,iz V,iz Y,iz Z,iz a6,zaQ];rfl
theorem EH (h:ct u.d=true):eqU u (bT u.d u.f u.k)=(eqR u.o rZ&&u.s==(bif u.k==0&&at5 u.d then 2 else 1)):=by
 have H: ∀d:D7,eq7 d d=true:=λd=>by simp[eq7,eq2]
 have J: ∀s:zdH,seq s s=true:=λs=>We.2 rfl;have eR: ∀a:RS,eqR a a=true:=λa=>by simp[eqR,J]
 unfold eqU bT;simp only[H,eR,y5 h,BEq.rfl,zb6,zaQ]
theorem jE (u:Un):iy u=VK u:=by
 unfold iy VK CH;cases h:ct u.d with
 |false=>rfl
 |true=>
  rw[EH h];have N:aj u.s 0 2=(u.s==0||(u.s==1||u.s==2)):=by
   rw[zax,VL];simp only[zav,zdy];omega
  rw[N];by_cases h0:u.s=0
  ·simp[h0]
  ·by_cases h1:u.s=1
   ·simp[h1];cases u.k==0<;>cases at5 u.d<;>simp
   ·by_cases h2:u.s=2
    ·simp[h2];cases u.k==0<;>cases at5 u.d<;>simp
    ·have b0:(u.s==0)=false:=beq_eq_false_iff_ne.2 h0;have H:(u.s==1)=false:=beq_eq_false_iff_ne.2 h1;have J:(u.s==2)=false:=beq_eq_false_iff_ne.2 h2;cases u.k==0<;>cases at5 u.d<;>simp[b0,H,J]
def tK (i j:Int):Int:=bif i==j then 1 else 0
def PZ (i:Int):D7:=mk7 (tK i 0) 1 (tK i 1) 1 (tK i 2) 1 (tK i 3) 1 (tK i 4) 1 (tK i 5) 1 (tK i 6) 1
def aT (i:Int):Un:=bif !aj i 0 6 then noU else bT (PZ i) rI 0
theorem M6 {i:Int} (h:aj i 0 6=true):i=0\/i=1\/i=2\/i=3\/i=4\/i=5\/i=6:=by
 have:=VL.1 h;omega
theorem Im (K:zdR):ig g6 noA 3 12 [cI.enc 0] K=K (cU.enc (aT 0)):=by kernel_rfl
theorem In (K:zdR):ig g6 noA 3 12 [cI.enc 1] K=K (cU.enc (aT 1)):=by kernel_rfl
theorem Io (K:zdR):ig g6 noA 3 12 [cI.enc 2] K=K (cU.enc (aT 2)):=by kernel_rfl
theorem Ip (K:zdR):ig g6 noA 3 12 [cI.enc 3] K=K (cU.enc (aT 3)):=by kernel_rfl
theorem Iq (K:zdR):ig g6 noA 3 12 [cI.enc 4] K=K (cU.enc (aT 4)):=by kernel_rfl
theorem Ir (K:zdR):ig g6 noA 3 12 [cI.enc 5] K=K (cU.enc (aT 5)):=by kernel_rfl
theorem It (K:zdR):ig g6 noA 3 12 [cI.enc 6] K=K (cU.enc (aT 6)):=by kernel_rfl
def gB:List (FuncId×Ctr):=(52,k3 cI cI cI cB (λa b c=> !aj a b c) (λ_ _ _=>false))::g6
theorem Xc:GOk gB:=Wv.cons (λW H=>sQ λa b c h=>Wr.yields (ann:=noA) (n:=3) H AW (cB.ids _) (by rw[vD,(by simpa using h:aj a b c=false)])) call52
theorem Iu (i:Int) (K:zdR):ig gB noA 3 12 [cI.enc i] K=af (!aj i 0 6) (K (cU.enc noU)):=by kernel_rfl
variable {W:World}
theorem P0 (H:GlobU W) (i:Int):Go.Sy.Yields prog W 12 [cI.enc i] (cU.enc (aT i)):=by
 cases h:aj i 0 6 with
 |false=>
  have e:aT i=noU:=by unfold aT;rw[h];rfl
  rw[e];exact Xc.yields (ann:=noA) (n:=3) H m8 (cU.ids _) (by rw[Iu,h];exact rfl)
 |true=>
  rcases M6 h with rfl|rfl|rfl|rfl|rfl|rfl|rfl
  ·exact Wv.yields (ann:=noA) (n:=3) H m8 (cU.ids _) (by rw[Im])
  ·exact Wv.yields (ann:=noA) (n:=3) H m8 (cU.ids _) (by rw[In])
  ·exact Wv.yields (ann:=noA) (n:=3) H m8 (cU.ids _) (by rw[Io])
  ·exact Wv.yields (ann:=noA) (n:=3) H m8 (cU.ids _) (by rw[Ip])
  ·exact Wv.yields (ann:=noA) (n:=3) H m8 (cU.ids _) (by rw[Iq])
  ·exact Wv.yields (ann:=noA) (n:=3) H m8 (cU.ids _) (by rw[Ir])
  ·exact Wv.yields (ann:=noA) (n:=3) H m8 (cU.ids _) (by rw[It])
theorem afK (K:zdR):gJ h7 noA 3 154 [cI.enc 0] K=K (cU.enc (aT 0)):=by kernel_rfl
theorem EJ (K:zdR):gJ h7 noA 3 154 [cI.enc 1] K=K (cU.enc (aT 1)):=by kernel_rfl
theorem EK (K:zdR):gJ h7 noA 3 154 [cI.enc 2] K=K (cU.enc (aT 2)):=by kernel_rfl
theorem EL (K:zdR):gJ h7 noA 3 154 [cI.enc 3] K=K (cU.enc (aT 3)):=by kernel_rfl
theorem EM (K:zdR):gJ h7 noA 3 154 [cI.enc 4] K=K (cU.enc (aT 4)):=by kernel_rfl
theorem EN (K:zdR):gJ h7 noA 3 154 [cI.enc 5] K=K (cU.enc (aT 5)):=by kernel_rfl
theorem EO (K:zdR):gJ h7 noA 3 154 [cI.enc 6] K=K (cU.enc (aT 6)):=by kernel_rfl
def hB:List (FuncId×Ctr):=(223,k3 cI cI cI cB (λa b c=> !aj a b c) (λ_ _ _=>false))::h7
theorem Xd:GOk hB:=Ww.cons (λW H=>sQ λa b c h=>WO.yieldsV (ann:=noA) (n:=3) H AW (cB.ids _) (by rw[tJ,(by simpa using h:aj a b c=false)])) call223
theorem EP (i:Int) (K:zdR):gJ hB noA 3 154 [cI.enc i] K=af (!aj i 0 6) (K (cU.enc noU)):=by kernel_rfl
theorem Ox (H:GlobU W) (i:Int):Go.Sy.Yields prog W 154 [cI.enc i] (cU.enc (aT i)):=by
 cases h:aj i 0 6 with
 |false=>
  have e:aT i=noU:=by unfold aT;rw[h];rfl
  rw[e];exact Xd.yieldsV (ann:=noA) (n:=3) H m8 (cU.ids _) (by rw[EP,h];exact rfl)
 |true=>
  rcases M6 h with rfl|rfl|rfl|rfl|rfl|rfl|rfl
  ·exact Ww.yieldsV (ann:=noA) (n:=3) H m8 (cU.ids _) (by rw[afK])
  ·exact Ww.yieldsV (ann:=noA) (n:=3) H m8 (cU.ids _) (by rw[EJ])
  ·exact Ww.yieldsV (ann:=noA) (n:=3) H m8 (cU.ids _) (by rw[EK])
  ·exact Ww.yieldsV (ann:=noA) (n:=3) H m8 (cU.ids _) (by rw[EL])
  ·exact Ww.yieldsV (ann:=noA) (n:=3) H m8 (cU.ids _) (by rw[EM])
  ·exact Ww.yieldsV (ann:=noA) (n:=3) H m8 (cU.ids _) (by rw[EN])
  ·exact Ww.yieldsV (ann:=noA) (n:=3) H m8 (cU.ids _) (by rw[EO])
def h8:List (FuncId×Ctr):=(154,k1 cI cU (λ_=>true) aT)::h7
theorem WD:GOk h8:=Ww.cons (λW H=>dD λi _=>Ox H i) call154
def g7:List (FuncId×Ctr):=(12,k1 cI cU (λ_=>true) aT)::g6
theorem Xe:GOk g7:=Wv.cons (λW H=>dD λi _=>P0 H i) call12
end Go.Proofs.YtojcellmcbnmeaaGreatDoor
