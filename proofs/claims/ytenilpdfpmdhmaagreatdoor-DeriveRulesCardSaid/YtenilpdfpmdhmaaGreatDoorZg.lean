import Derived.Test.YtenilpdfpmdhmaaGreatDoorZf
import Derived.Test.YtenilpdfpmdhmaaGreatDoorRows
import Derived.HandedShaped
import Derived.ProofKit
import Derived.OpenShut
import Derived.LaidMore
import Derived.Lay
import Derived.Lib.LaidTab
import Derived.Shelf.Vars
import Derived.Stop.LaidErr
import Derived.Stop.Joined
import Derived.Carry
set_option linter.unusedVariables false
set_option linter.unusedSimpArgs false
namespace Go.Proofs.YtenilpdfpmdhmaaGreatDoor
open Go Go.RowKit Go.Sy Yk
noncomputable def eZ (l:List Nd) (x:Nd) (u:Un):Nd:=bif (cK l x u).2 then ⟨1,(cK l x u).1,u,0,0,0⟩ else x
noncomputable def ud (l:List Nd) (us:List Un) (x:Nd) (u:Un):List Nd×List Un×Int:=
 bif iD l us x u != -1 then (l,us,iD l us x u) else bif be (eqN (eZ l x u)) l 0 != -1 then (l,us,be (eqN (eZ l x u)) l 0) else (l++ [eZ l x u],us++ [u],(l.length:Int))
noncomputable def simL (uu:List Un):List Nd->Nat->List Nd->List Un->(Nat->Int)->List Nd×(Nat->Int)
 | [],_,l,_,num=>(l,num)
 |x::r,i,l,us,num=>simL uu r (i+1) (ud l us (dO num x) (nthD noU uu i)).1 (ud l us (dO num x) (nthD noU uu i)).2.1 (nc num i (ud l us (dO num x) (nthD noU uu i)).2.2)
noncomputable def xH (p:Pr):Pr×Int:=bif (checkF p).2.2 !=0 then (zP,100) else
 (⟨p.id,p.inp,cG (simL (checkF p).1 p.nod 0 [] [] (fun _=>0)).1 ((simL (checkF p).1 p.nod 0 [] [] (fun _=>0)).2 (p.nod.length - 1)),p.out⟩,0)
structure QOK (l:List Nd) (us:List Un) (num:Nat->Int) (i:Nat):Prop where
 len:l.length=us.length
 le:l.length<=i
 szl: ∀ x∈l,szN x=true
 szu: ∀ u∈us,szB u=true
 side: ∀ j,j<l.length->sideOK j (nthD noN l j)=true
 num: ∀ k,k<i->0<=num k/\num k<l.length
theorem oN {α:Type} (p:α->Bool): ∀ (l:List α) (i:Int),be p l i= -1\/(i<=be p l i/\be p l i<i+l.length)
 | [],i=> .inl rfl
 |x::r,i=>by
  rw [be];cases p x with
  |true=>exact .inr ⟨Int.le_refl _,by simp only [cond_true,List.length_cons];omega⟩
  |false=>
   rw [cond_false];rcases oN p r (i+1) with h|h
   ·exact .inl h
   ·exact .inr (by simp only [List.length_cons];omega)
theorem zE {l:List Nd} {us:List Un} {x:Nd} {u:Un} (hx:sideOK l.length x=true):iD l us x u= -1\/(0<=iD l us x u/\iD l us x u<l.length):=by
 have hs:=bL hx;have L:3<=x.op/\x.op<=8->0<=x.l/\x.l<l.length:=fun h=>by
  by_cases a:x.op<=6
  ·exact hs x.l (by rw [aQ h.1 a];simp)
  ·exact hs x.l (by rw [bF (by omega)];simp)
 have R:3<=x.op/\x.op<=6->0<=x.r/\x.r<l.length:=fun h=>hs x.r (by rw [aQ h.1 h.2];simp);have B: ∀ (b:Bool) (p q:Int),(b=true->p= -1\/(0<=p/\p<l.length))->(q= -1\/(0<=q/\q<l.length))->(cond b p q= -1\/(0<=cond b p q/\cond b p q<l.length)):=fun b p q h k=>by cases b;exact k;exact h rfl
 unfold iD;refine B _ _ _ (fun h=> .inr (L ?_)) (B _ _ _ (fun h=> .inr (L ?_)) (B _ _ _ (fun h=> .inr (R ?_)) (B _ _ _ (fun h=> .inr (L ?_)) (B _ _ _ (fun h=> .inr (R ?_)) (.inl rfl)))))
 all_goals simp only [Bool.and_eq_true,Bool.or_eq_true,beq_iff_eq] at h
 all_goals omega
theorem MB (num:Nat->Int) (x:Nd):(dO num x).op=x.op:=by
 rcases fP num x with ⟨_,_,e⟩|⟨_,e⟩|⟨_,e⟩<;>rw [e]
theorem vZ {num:Nat->Int} {x:Nd} {n:Nat} (h: ∀ s∈sidesF x,0<=num s.toNat/\num s.toNat<n):sideOK n (dO num x)=true:=by
 unfold sideOK;rw [List.all_eq_true];intro s hs;have:0<=s/\s<(n:Int):=by
  rcases fP num x with ⟨a,b,e⟩|⟨a,e⟩|⟨a,e⟩
  ·rw [e,aQ (x:={x with l:=num x.l.toNat,r:=num x.r.toNat}) a b] at hs;rw [aQ a b] at h;simp only [List.mem_cons,List.not_mem_nil,or_false] at hs;rcases hs with rfl|rfl
   ·exact h x.l (by simp)
   ·exact h x.r (by simp)
  ·rw [e,bF (x:={x with l:=num x.l.toNat}) a] at hs;rw [bF a] at h;simp only [List.mem_cons,List.not_mem_nil,or_false] at hs;rw [hs];exact h x.l (by simp)
  ·rw [e,l7 a] at hs;cases hs
 simp [this]
theorem zF (p:Pr) (ins:List RS):bn p ins=(noR2,90)\/rV (bn p ins).1=true:=by
 rcases (show (bn p ins).2=0\/bn p ins=(noR2,90) by
  unfold bn;cases !validP p||ins.length !=p.inp.length|| !ins.all rV with
  |true=>exact .inr rfl
  |false=>
   rw [cond_false];split
   ·exact .inl rfl
   ·exact .inr rfl) with h|h
 ·exact .inr (xy (p:=p) (ins:=ins) (v:=(bn p ins).1) (by rw [<- h])).rv
 ·exact .inl h
theorem Fo (l:List Nd) (x:Nd) (u:Un):uzR (cK l x u).1=true:=by
 have B: ∀ (b:Bool) (p q:RS×Bool),uzR p.1=true->uzR q.1=true->uzR (cond b p q).1=true:=fun b p q h k=>by cases b;exact k;exact h
 unfold cK;refine B _ _ _ (B _ _ _ ?_ (gu _ _)) (by decide);rcases zF ⟨1, [],zD l x,u⟩ [] with e|e
 ·rw [e];decide
 ·exact Ie e
theorem QOK.step {l:List Nd} {us:List Un} {num:Nat->Int} {i:Nat} {x:Nd} {u:Un} (Q:QOK l us num i) (hx: ∀ s∈sidesF x,s.toNat<i) (hsx:szN x=true) (hu:szB u=true):
 QOK (ud l us (dO num x) u).1 (ud l us (dO num x) u).2.1 (nc num i (ud l us (dO num x) u).2.2) (i+1):=by
 have hside:sideOK l.length (dO num x)=true:=vZ fun s hs=>Q.num _ (hx s hs)
 have same: ∀ k:Int,0<=k->k<l.length->QOK l us (nc num i k) (i+1):=fun k h0 h1=>⟨Q.len,by have:=Q.le;omega,Q.szl,Q.szu,Q.side,fun e he=>by
  unfold nc;rw [bS];by_cases h:e=i
  ·rw [decide_eq_true h];exact ⟨h0,h1⟩
  ·rw [decide_eq_false h];exact Q.num e (by omega)⟩
 unfold ud;cases h1:iD l us (dO num x) u != -1 with
 |true=>
  rcases zE (us:=us) (u:=u) hside with h|h
  ·rw [h] at h1;cases h1
  ·exact same _ h.1 h.2
 |false=>
  rw [cond_false];cases h2:be (eqN (eZ l (dO num x) u)) l 0 != -1 with
  |true=>
   rcases oN (eqN (eZ l (dO num x) u)) l 0 with h|h
   ·rw [h] at h2;cases h2
   ·exact same (be (eqN (eZ l (dO num x) u)) l 0) h.1 (by omega)
  |false=>
   rw [cond_false];refine ⟨by simp only [List.length_append,List.length_singleton];rw [Q.len],by simp only [List.length_append,List.length_singleton];have:=Q.le;omega,fun y hy=> ?_,fun v hv=> ?_,fun j hj=> ?_,fun e he=> ?_⟩
   ·rcases List.mem_append.1 hy with hy|hy
    ·exact Q.szl y hy
    ·rw [List.mem_singleton.1 hy];unfold eZ;cases (cK l (dO num x) u).2 with
     |true=>
      show (uzR (cK l (dO num x) u).1&&szB u)=true;rw [Fo,hu];rfl
     |false=>rw [cond_false,xu];exact hsx
   ·rcases List.mem_append.1 hv with hv|hv
    ·exact Q.szu v hv
    ·rw [List.mem_singleton.1 hv];exact hu
   ·dsimp only;rw [aS];by_cases e:j=l.length
    ·rw [if_pos e,e];unfold eZ;cases (cK l (dO num x) u).2 with
     |true=>rfl
     |false=>exact hside
    ·rw [if_neg e];simp only [List.length_append,List.length_singleton] at hj;exact Q.side j (by omega)
   ·unfold nc;rw [bS];simp only [List.length_append,List.length_singleton];by_cases h:e=i
    ·rw [decide_eq_true h,cond_true];omega
    ·rw [decide_eq_false h,cond_false];have:=Q.num e (by omega);omega
section
variable {I:QX->Prop} {N:Int} {uu:List Un} {nn:Nat} {z:QX}
theorem Fp {us:List Un} {u:Un} {e:Nat} (he:e<us.length+1):Jz us u e=eU.get (us++ [u]) e:=by
 unfold Jz bv El.get El.nth;rw [aB];show _=ci (nthD noU (us++ [u]) e);rw [aS];by_cases h:e<us.length
 ·rw [decide_eq_true h,cond_true,if_neg (by omega)];rfl
 ·obtain rfl:e=us.length:=by omega
  rw [decide_eq_false h,cond_false,if_pos rfl,Nat.sub_self];rfl
theorem Db {q:Nat×Nat} {k:Int} {n1 n2:Nat} {g1 g2:Nat->List SV} {l':List Nd} {us':List Un} (h0:0<=z.i) (h1:z.i<N) (h2:z.i<=1000000) (e1:n1=l'.length) (e2:n2=us'.length)
 (hg1: ∀ e,e<l'.length->g1 e=eN.get l' e) (hg2: ∀ e,e<us'.length->g2 e=eU.get us' e) (hI:I ⟨z.i+1,l',us',nc z.num z.i.toNat k⟩):Mw I N uu nn z q k n1 n2 g1 g2:=by
 subst e1 e2;unfold Mw;refine ac (decide_eq_true h0) (ac (inR64.2 (by omega)) ⟨_,hI,by show (_:Nat)<_;dsimp only;omega,⟨rfl,rfl,rfl,rfl,rfl,rfl,rfl,rfl,rfl,trivial⟩,⟨fun e=>rfl,trivial⟩,⟨rfl,trivial⟩,ac (by simp) hg1,ac (by simp) hg2,trivial⟩)
theorem oO {K:Un->Prop} (h0:0<=z.i) (h1:z.i<uu.length) (h:K (nthD noU uu z.i.toNat)):vX uu z K:=by
 unfold vX;rw [Nat.zero_add];exact ac (gK h0 h1) (ac (ja h0 h1) h)
theorem v8 (l:List Nd):lR l=l:=El.list_get
theorem Qt (us:List Un):uR us=us:=El.list_get
theorem Dc {q:Nat×Nat} {k:Int} {x:Nd} (h0:0<=z.i) (h1:z.i<N) (h2:z.i<=900000) (h3:z.i<uu.length) (hlen:z.l.length=z.us.length) (hle:z.l.length<=900000)
 (ha:k= -1->I ⟨z.i+1,z.l++ [x],z.us++ [nthD noU uu z.i.toNat],nc z.num z.i.toNat z.l.length⟩) (hb:k≠ -1->I ⟨z.i+1,z.l,z.us,nc z.num z.i.toNat k⟩):Mx I N uu nn z q k x:=by
 unfold Mx;refine ah (fun h=> ?_) (fun h=> ?_)
 ·have h:=beq_iff_eq.1 h;rw [show (((z.l.length+1:Nat):Int) - 1)=(z.l.length:Int) by omega];exact xp (by omega) (ac (inR64.2 (by omega)) (oO h0 h3 (fV (by omega) (Db h0 h1 (by omega) (by simp) (by simp) (fun e he=>pO (by simpa using he)) (fun e he=>Fp (by simpa using he)) (ha h)))))
 ·exact Db h0 h1 (by omega) rfl rfl (fun _ _=>rfl) (fun _ _=>rfl) (hb (by simpa using h))
theorem O9 {l:List Nd} {us:List Un} (hlen:l.length=us.length) (hle:l.length<=1000000) (hl: ∀ x∈l,szN x=true) (hu: ∀ u∈us,szB u=true):wkB l us=true:=by
 unfold wkB bW;rw [Nat.ble_eq_true_of_le (Nat.le_refl l.length),Nat.ble_eq_true_of_le (Nat.le_refl us.length),Nat.ble_eq_true_of_le hle,Nat.ble_eq_true_of_le (show us.length<=1000000 by omega),El.good_get hl,El.good_get hu,show Nat.beq l.length us.length=true by rw [hlen];exact Nat.beq_refl _];rfl
theorem JB {D:QIds} {x:Nd} (h0:0<=z.i) (h1:z.i<N) (h2:z.i<=900000) (h3:z.i<uu.length) (Q:QOK z.l z.us z.num z.i.toNat) (hop:1<=x.op/\x.op<=8) (hside:sideOK z.l.length x=true) (hsx:szN x=true) (hu: ∀ u∈uu,szB u=true)
 (hI:I ⟨z.i+1,(ud z.l z.us x (nthD noU uu z.i.toNat)).1,(ud z.l z.us x (nthD noU uu z.i.toNat)).2.1,nc z.num z.i.toNat (ud z.l z.us x (nthD noU uu z.i.toNat)).2.2⟩):vY I N uu nn z D x:=by
 have hle:z.l.length<=900000:=by have:=Q.le;omega
 have hw:=O9 Q.len (by omega) Q.szl Q.szu;have hsu:=hu _ (bw (d:=noU) (l:=uu) (e:=z.i.toNat) (by omega));unfold vY;refine oO h0 h3 (ac ?_ fun _ _=> ?_)
 ·unfold smB;rw [hw,oM,decide_eq_true hop.1,decide_eq_true hop.2,v8,hside];rfl
 rw [v8,Qt];unfold ud at hI;refine ah (fun h=> ?_) (fun h=> ?_)
 ·have h:=beq_iff_eq.1 h;rw [h] at hI;replace hI:I ⟨z.i+1,(bif be (eqN (eZ z.l x (nthD noU uu z.i.toNat))) z.l 0 != -1 then (z.l,z.us,be (eqN (eZ z.l x (nthD noU uu z.i.toNat))) z.l 0) else (z.l++ [eZ z.l x (nthD noU uu z.i.toNat)],z.us++ [nthD noU uu z.i.toNat],(z.l.length:Int))).1,(bif be (eqN (eZ z.l x (nthD noU uu z.i.toNat))) z.l 0 != -1 then (z.l,z.us,be (eqN (eZ z.l x (nthD noU uu z.i.toNat))) z.l 0) else (z.l++ [eZ z.l x (nthD noU uu z.i.toNat)],z.us++ [nthD noU uu z.i.toNat],(z.l.length:Int))).2.1,nc z.num z.i.toNat (bif be (eqN (eZ z.l x (nthD noU uu z.i.toNat))) z.l 0 != -1 then (z.l,z.us,be (eqN (eZ z.l x (nthD noU uu z.i.toNat))) z.l 0) else (z.l++ [eZ z.l x (nthD noU uu z.i.toNat)],z.us++ [nthD noU uu z.i.toNat],(z.l.length:Int))).2.2⟩:=hI;have idx: ∀ (q:Nat×Nat) (y:Nd),eZ z.l x (nthD noU uu z.i.toNat)=y->My I N uu nn z q y:=fun q y hy=>by
   rw [hy] at hI;unfold My;refine ac ?_ fun _ _=> ?_
   ·unfold bW;rw [Nat.ble_eq_true_of_le (Nat.le_refl z.l.length),Nat.ble_eq_true_of_le (show z.l.length<=1000000 by omega),El.good_get Q.szl,oM];rfl
   rw [v8];refine Dc h0 h1 h2 h3 Q.len hle (fun k=> ?_) (fun k=> ?_)
   ·rw [k] at hI;exact hI
   ·rw [show (be (eqN y) z.l 0 != -1)=true by simpa using k] at hI;exact hI
  have val: ∀ q r,Mz I N uu nn z q r x:=fun q r=>by
   unfold Mz;refine oO h0 h3 (ac ?_ fun _ _=> ?_)
   ·unfold vlB;rw [hw,oM,decide_eq_true hop.1,decide_eq_true hop.2,v8,hside,hsx,hsu];rfl
   rw [v8];refine ah (fun k=>oO h0 h3 (idx _ _ ?_)) (fun k=>idx _ _ ?_)
   ·unfold eZ;rw [k];rfl
   ·unfold eZ;rw [k];rfl
  exact ⟨val _ _,val _ _⟩
 ·have h':(iD z.l z.us x (nthD noU uu z.i.toNat) != -1)=true:=by simpa [bne] using h
  rw [h'] at hI;have h:iD z.l z.us x (nthD noU uu z.i.toNat)≠ -1:=by simpa using h
  exact Dc h0 h1 h2 h3 Q.len hle (fun k=>absurd k h) (fun _=>hI)
theorem Dd {i:Int} {K:Int->Prop} (h:0<=i) (k:K (z.num i.toNat)):MA z i K:=ac (by rw [decide_eq_true h];rfl) k
theorem JC {D:QIds} {x:Nd} (hs: ∀ s∈sidesF x,0<=s) (hn: ∀ s∈sidesF x,0<=z.num s.toNat) (hR:vY I N uu nn z D (dO z.num x)):JA I N uu nn z D x:=by
 have hle:=gS x.op;have hl:1<=ax x.op->0<=x.l:=fun h=>by
  rcases (show ax x.op=1\/ax x.op=2 by omega) with h|h
  ·exact hs _ (by rw [bF (sidesN_one.1 h)];simp)
  ·have:=sidesN_two.1 h;exact hs _ (by rw [aQ this.1 this.2];simp)
 have hr:2<=ax x.op->0<=x.r:=fun h=>by
  have:=sidesN_two.1 (show ax x.op=2 by omega);exact hs _ (by rw [aQ this.1 this.2];simp)
 unfold JA;refine ac (nD x) fun _ _=>⟨(0,x.l,x.r),⟨Int.le_refl _,by show (0:Int)<=_;omega,rfl,rfl⟩,⟨⟨rfl,rfl,rfl,rfl,rfl,rfl,rfl,rfl,rfl,rfl,rfl,rfl,rfl,rfl,trivial⟩,trivial,⟨rfl,trivial⟩,trivial⟩, ?_, ?_, ?_, ?_,trivial⟩
 ·rintro ⟨k,a,b⟩ ⟨h0,h1,h2,h3⟩;dsimp only at h0 h1 h2 h3;rcases (show k=0\/k=1\/k=2 by omega) with rfl|rfl|rfl
  ·left;rw [decide_eq_false (by omega),cond_false] at h2 h3;rw [h2,h3]
  ·right;left;rw [show decide (2<=(1:Int))=false from rfl,cond_false] at h3;rw [h3]
  ·right;right;left;rfl
 ·rintro y ⟨h0,h1,h2,h3⟩;refine ah (fun h=> ?_) (fun h=> ?_)
  ·have h:=of_decide_eq_true h;have a:=hl (by omega);exact aY (Int.le_refl _) h (Dd a ⟨(1,z.num x.l.toNat,x.r),⟨by show (0:Int)<=1;decide,by show (1:Int)<=_;omega,rfl,rfl⟩,by show (3 - (1:Int)).toNat<(3 - (0:Int)).toNat;decide,⟨⟨rfl,rfl,rfl,rfl,rfl,rfl,rfl,rfl,rfl,rfl,rfl,rfl,rfl,rfl,trivial⟩,trivial,⟨rfl,trivial⟩,trivial⟩⟩)
  ·have h:=of_decide_eq_false h;have e:ax x.op=0:=by omega
   have: ¬ (3<=x.op/\x.op<=8):=fun hh=>by
    by_cases a:x.op<=6
    ·rw [sidesN_two.2 ⟨hh.1,a⟩] at e;omega
    ·rw [sidesN_one.2 (by omega)] at e;omega
   rw [ri this] at hR;exact hR
 ·rintro y ⟨h0,h1,h2,h3⟩;dsimp only at h0 h1 h2 h3;rw [show decide (1<=(1:Int))=true from rfl,cond_true] at h2;replace h2:y.2.1=z.num x.l.toNat:=h2;refine ah (fun h=> ?_) (fun h=> ?_)
  ·have h:=of_decide_eq_true h;have a:=hr (by omega);exact aY (by decide) h (Dd a ⟨(2,y.2.1,z.num x.r.toNat),⟨by show (0:Int)<=2;decide,by show (2:Int)<=_;omega,h2,rfl⟩,by show (3 - (2:Int)).toNat<(3 - (1:Int)).toNat;decide,⟨⟨rfl,rfl,rfl,rfl,rfl,rfl,rfl,rfl,rfl,rfl,rfl,rfl,rfl,rfl,trivial⟩,trivial,⟨rfl,trivial⟩,trivial⟩⟩)
  ·have h:=of_decide_eq_false h;have e:ax x.op=1:=by omega
   rw [oF (sidesN_one.1 e)] at hR;rw [h2];exact hR
 ·rintro y ⟨h0,h1,h2,h3⟩;dsimp only at h0 h1 h2 h3;rw [show decide (1<=(2:Int))=true from rfl,cond_true] at h2;rw [show decide (2<=(2:Int))=true from rfl,cond_true] at h3;replace h2:y.2.1=z.num x.l.toNat:=h2;replace h3:y.2.2=z.num x.r.toNat:=h3;refine ah (fun h=> ?_) (fun h=> ?_)
  ·have h:=of_decide_eq_true h;omega
  ·have e:ax x.op=2:=by omega
   have e:=sidesN_two.1 e;rw [oE e.1 e.2] at hR;rw [h2,h3];exact hR
end
theorem De {inp:List Un} (hi: ∀ u∈inp,szB u=true): ∀ {l:List Nd} {us vs:List Un},(∀ x∈l,szN x=true)->(∀ u∈us,szB u=true)->iB inp l us=(vs,true)-> ∀ u∈vs,szB u=true
 | [],us,vs,_,hu,h=>by simp only [iB,Prod.mk.injEq,and_true] at h;subst h;exact hu
 |x::r,us,vs,hx,hu,h=>by
  simp only [iB] at h;split at h
  ·rename_i u hh;refine De hi (fun y hy=>hx y (List.mem_cons_of_mem _ hy)) (fun v hv=> ?_) h;rcases List.mem_append.1 hv with hv|hv
   ·exact hu v hv
   ·rw [List.mem_singleton.1 hv];exact CR (hx x (by simp)) hi hu hh
  ·simp at h
theorem Fq {p:Pr} (h:(checkF p).2.2=0):iB p.inp p.nod []=((checkF p).1,true)/\eqU (ly (checkF p).1) p.out=true/\oB p=true:=by
 unfold checkF at h ⊢;cases hb:oB p with
 |false=>rw [hb] at h;exact absurd (show (90:Int)=0 from h) (by decide)
 |true=>
  rw [hb,cond_true] at h;rw [cond_true];cases hu:iB p.inp p.nod [] with
  |mk us b=>
   rw [hu] at h;cases b with
   |false=>exact absurd (show (90:Int)=0 from h) (by decide)
   |true=>
    simp only at h ⊢;cases he:eqU (ly us) p.out with
    |false=>rw [he] at h;exact absurd (show (90:Int)=0 from h) (by decide)
    |true=>exact ⟨by rw [cond_true],he,trivial⟩
theorem Fs {p:Pr} (hs:cw p=true) (h:(checkF p).2.2=0): ∀ u∈(checkF p).1,szB u=true:=by
 unfold cw at hs;simp only [Bool.and_eq_true,List.all_eq_true] at hs;exact De hs.1.1 hs.1.2 (fun u hu=>by cases hu) (Fq h).1
structure QI (p:Pr) (z:QX):Prop where
 i0:0<=z.i
 i1:z.i<=p.nod.length
 ok:QOK z.l z.us z.num z.i.toNat
 eq:simL (checkF p).1 p.nod 0 [] [] (fun _=>0)=simL (checkF p).1 (p.nod.drop z.i.toNat) z.i.toNat z.l z.us z.num
def QL (p:Pr) (K1:DK1):Prop:= ∀ q:Pr,xH p=(q,0)->q.id=p.id->q.inp=p.inp->q.out=p.out->1<=q.nod.length->K1 28 p.inp.length (eU.own p.inp) 29 q.nod.length (eN.own q.nod) p.id (ci p.out) 0
theorem Ft {D:QIds} {p:Pr} {K0:DK0} {K1:DK1} (hs:cw p=true) (h1:p.inp.length<=1000000) (h2:p.nod.length<=1000000) (hin:1<=p.inp.length) (k0:xH p=(zP,100)->K0 0 (ci noU) 100) (k1:QL p K1):O7 D (QI p) p.nod.length p K0 K1:=by
 unfold O7;rw [fN];refine ac (eY hs h1 h2) fun _ _=>ah (fun h=>k0 ?_) (fun h=> ?_)
 ·unfold xH;rw [h];rfl
 have hF:xH p=(⟨p.id,p.inp,cG (simL (checkF p).1 p.nod 0 [] [] (fun _=>0)).1 ((simL (checkF p).1 p.nod 0 [] [] (fun _=>0)).2 (p.nod.length - 1)),p.out⟩,0):=by unfold xH;rw [h];rfl
 have h:(checkF p).2.2=0:=by simpa using h
 have hv:validP p=true:=by unfold validP;rw [h];rfl
 have hp:=(cV hv);have hN:=(bQ hv).2;have hcs:=Fs hs h;have hcl:(checkF p).1.length=p.nod.length:=by
  rcases ke p with ⟨c,_⟩|⟨_,_,c,_⟩
  ·rw [h] at c;cases c
  ·exact c
 have hs':=hs;unfold cw at hs';simp only [Bool.and_eq_true,List.all_eq_true] at hs';refine ⟨⟨0, [], [],fun _=>0⟩,⟨Int.le_refl _,by show (0:Int)<=_;omega,⟨rfl,Nat.le_refl _,(fun x hx=>by cases hx),(fun x hx=>by cases hx),(fun j hj=>by simp at hj),(fun k hk=>by cases hk)⟩,rfl⟩,⟨⟨rfl,rfl,rfl,rfl,rfl,rfl,rfl,rfl,rfl,trivial⟩,⟨fun _=>rfl,trivial⟩,⟨rfl,trivial⟩,rfl,rfl,trivial⟩, ?_⟩;rintro z ⟨a0,a1,Q,a3⟩;refine ah (fun hz=> ?_) (fun hz=> ?_)
 ·have hz:=of_decide_eq_true hz;rw [Nat.zero_add];have hj:z.i.toNat<p.nod.length:=by omega
  have ok:=hN z.i.toNat hj;have hd:p.nod.drop z.i.toNat=nthD noN p.nod z.i.toNat::p.nod.drop (z.i.toNat+1):=by
   rw [List.drop_eq_getElem_cons hj,bR (List.getElem?_eq_getElem _)]
  have sx:=hs'.1.2 _ (bw (d:=noN) (l:=p.nod) (e:=z.i.toNat) hj);have side0: ∀ s∈sidesF (nthD noN p.nod z.i.toNat),0<=s/\s<z.i.toNat:=fun s hs=>by
   have:=ok.nodeIn;unfold nodeIn at this;rw [Bool.and_eq_true] at this;exact bL this.1 s hs
  have hstep:=Q.step (x:=nthD noN p.nod z.i.toNat) (u:=nthD noU (checkF p).1 z.i.toNat) (l9 ok) sx (hcs _ (bw (by omega)));refine ac (gK a0 hz) (ac (ja a0 hz) (JC (fun s hs=>(side0 s hs).1) (fun s hs=>(Q.num _ (l9 ok s hs)).1) (JB a0 hz (by omega) (by omega) Q (by rw [MB];exact ok.op) (vZ fun s hs=>Q.num _ (l9 ok s hs)) (by rw [xu];exact sx) hcs ?_)));have en:(z.i+1).toNat=z.i.toNat+1:=by omega
  refine ⟨by show 0<=z.i+1;omega,by show z.i+1<=_;omega,by rw [en];exact hstep, ?_⟩;rw [a3,hd];dsimp only;rw [en];rfl
 ·have hz:=of_decide_eq_false hz;have ei:z.i.toNat=p.nod.length:=by omega
  rw [ei,List.drop_length,simL] at a3;rw [ei] at Q;have e1:((p.nod.length:Int) - 1).toNat=p.nod.length - 1:=by omega
  rw [a3] at hF;obtain ⟨b1,b2⟩:=Q.num (p.nod.length - 1) (by omega);have hkp:=pQ b1 b2;rw [show eU.list p.inp.length (eU.get p.inp)=p.inp from El.list_get,v8,e1];refine ac ?_ fun _ _=>ac (inR64.2 (by omega)) (ac (by rw [decide_eq_true (by omega)];rfl) (ac ?_ fun _ _=>k1 _ hF rfl rfl rfl hkp.1))
  ·unfold bW;rw [Nat.ble_eq_true_of_le (Nat.le_refl _),Nat.ble_eq_true_of_le h1,El.good_get (fun _ _=>rfl),decide_eq_true (show 0<p.inp.length by omega)];rfl
  ·have hle:=Q.le;have hsd:dH z.l.length (eN.get z.l)=true:=sidesB_iff.2 fun j hj=>by
    show sideOK j (dd (svN (nthD noN z.l j)))=true;rw [fR];exact Q.side j hj
   unfold bW;rw [Nat.ble_eq_true_of_le (Nat.le_refl _),Nat.ble_eq_true_of_le (show z.l.length<=1000000 by omega),El.good_get (fun _ _=>rfl),decide_eq_true b1,decide_eq_true b2,hsd];rfl
noncomputable def Pc:MCtr:=fun bl nx args=>match args with
 | [s]=>match mC bl s with
   |some a=>some {X:=Unit,pre:=a.need&&decide (1<=a.p.inp.length),spec:=fun _=>True,out:=fun _=>prO nx (xH a.p),nw:=fun _=>prW (xH a.p),ex:=fun _=>⟨(),trivial⟩}
   |none=>none
 |_=>none
theorem MC: ∀ B:Base,GlobB B->MCtrOK Tryz.prog B 19 Pc:=eW Mv fun bl nx args C hk hp=>by
 unfold Pc at hk;split at hk
 ·rename_i s;split at hk
  ·rename_i a ha;simp only [Option.some.injEq] at hk;subst hk;simp only [Bool.and_eq_true,decide_eq_true_eq] at hp;obtain ⟨hp,hin⟩:=hp;obtain ⟨s1,s2,s3,s4,s5,s6⟩:=eX (f:=rnF [a.o1,a.o2] [] nx) ha hp rfl rfl;refine ⟨[a.o1,a.o2],iK a.p, [kB a.p],Jy (QI a.p) a.p.nod.length,6,aw s1 (aw s2 trivial),bH (cx _),cd (jG _),ar s3 rfl, ?_⟩;refine cQ (K:=prK (fun id rest e=>xH a.p=(zP,100)/\id=0/\rest=ci noU/\e=100) (fun i n B j m C id rest e=> ∃ q:Pr,xH a.p=(q,0)/\q.id=a.p.id/\q.inp=a.p.inp/\q.out=a.p.out/\m=q.nod.length/\1<=m/\i=28/\j=29/\C=eN.own q.nod/\n=a.p.inp.length/\B=eU.own a.p.inp/\id=a.p.id/\rest=ci a.p.out/\e=0)) ?_ fun r bl' m w h=> ?_
   ·rw [O8];exact Ft s4 s5 s6 hin (fun h=>⟨h,rfl,rfl,rfl⟩) fun q h1 h2 h3 h4 h5=>⟨q,h1,h2,h3,h4,rfl,h5,rfl,rfl,rfl,rfl,rfl,rfl,rfl,rfl⟩
   ·rcases vQ h with ⟨id,rest,e,rfl,h1,rfl,rfl,rfl⟩|⟨id,i,n,j,m',B,C,rest,e,rfl,hB,hC,q,h1,h2,h3,h4,rfl,h5,rfl,rfl,rfl,rfl,rfl,rfl,rfl,rfl⟩
    ·refine ⟨(),trivial, [none,none],⟨_,rfl, ?_⟩,by simp [ck],⟨⟨rfl,by rw [h1];rfl,rfl⟩,⟨rfl,by rw [h1];rfl,rfl⟩,trivial⟩,cr (cx _) rfl _⟩;rw [h1];have e:=rns_free (f:=dt [a.o1,a.o2] [none,none] nx) (fj noU);show SV.rn (dt [a.o1,a.o2] [none,none] nx) (prO nx (zP,100))=_;unfold prO;have e0:dt [a.o1,a.o2] [none,none] nx nx=some none:=cO;have e1:dt [a.o1,a.o2] [none,none] nx (nx+1)=some none:=jA 1;exact xh (ar (gv (ar rfl (ar (by simp only [SV.rn,e0];rfl) (ar (by simp only [SV.rn,e1];rfl) e)))) rfl)
    ·have e:=rns_free (f:=dt [a.o1,a.o2] [some 28,some 29] nx) (fj q.out);have e0:dt [a.o1,a.o2] [some 28,some 29] nx nx=some (some 28):=cO;have e1:dt [a.o1,a.o2] [some 28,some 29] nx (nx+1)=some (some 29):=jA 1;refine ⟨(),trivial, [some 28,some 29],⟨_,rfl, ?_⟩,by simp [ck],⟨⟨by simp [iK], ?_⟩,⟨by simp [iK], ?_⟩,trivial⟩,cr (cx _) rfl _⟩
     ·rw [h1];show SV.rn (dt [a.o1,a.o2] [some 28,some 29] nx) (prO nx (q,0))=_;unfold prO;dsimp only;rw [h2,h3,<- h4];exact xh (ar (gv (ar rfl (ar (by simp only [SV.rn,e0]) (ar (by simp only [SV.rn,e1]) e)))) rfl)
     ·rw [hB,h1];dsimp only;rw [h3];exact ⟨by simp [El.own],fun _=>⟨hin,eU.one⟩,gC rfl rfl (Nat.le_refl _) fun _ _=>rfl⟩
     ·rw [hC,h1];exact ⟨by simp [El.own],fun _=>⟨h5,eN.one⟩,gC rfl rfl (Nat.le_refl _) fun _ _=>rfl⟩
  ·cases hk
 ·cases hk
noncomputable def Pd:List (FuncId×MCtr):= [(14,xv),(19,Pc),(21,C8),(17,O2),(24,zm),(28,pN)]
theorem MD:MOk Pd:=(((((MOk.nil.cons lZ).cons tP).cons Mj).cons zC).cons MC).cons vT
def nIn (n:Int):Nd:=⟨2,noR2,noU,n,0,0⟩
def nPow (n l:Int):Nd:=⟨7,noR2,noU,n,l,0⟩
noncomputable def qx:Un:=(jm (aT 0) (3,1)).1
def oneU:Nat->List SV:=je (ci (aT 0)) 20
def Qu:Nat->List SV:=je (ci (aT 0)++ci (aT 2)) 20
def ue:Nat->List SV:=je (svN (nIn 0)++svN (nPow 3 0)) 26
def inN:Nat->List SV:=je (svN (nIn 0)) 26
noncomputable def Qv:Nat->List SV:=je (gA (rMk 2 1).1) 2
noncomputable def cubeR:Pr:=⟨1,eU.list 1 oneU,eN.list 2 ue,qx⟩
noncomputable def nB (n1:Nat) (g1:Nat->List SV) (n2:Nat) (g2:Nat->List SV) (u:Un) (K:Prop):Prop:=af (kp n1 n1 g1 n2 n2 g2 u) (Unit->True->K)
noncomputable def Df (Q:SV->Prop):Prop:=
 nB 1 oneU 2 ue qx (af (jn (aG cubeR 0).1&&decide (1<=(dm (aG cubeR 0).1).inp.length)) (Unit->True->
  af (kp 1 1 oneU 2 2 ue qx&&(Nat.ble 1 1&&Nat.beq 2 2&&true)&&bW 1&&eR.good uzR 1 Qv&&decide (1<=cubeR.inp.length)) (Unit->True->
  nB 1 oneU 2 ue qx (nB 2 Qu 1 inN (aT 0) (nB 1 oneU 2 ue qx (nB 1 oneU 2 ue qx (
  af ((true&&true)&&bW 0&&bW 0&&eU.good szB 0 (fun _=> [])&&eN.good szN 0 (fun _=> [])&&szB noU) (Unit->True->Q (cB.enc true)))))))))
theorem Fu (Q:SV->Prop):dk Pd (fun _ _=>none) 8 10 [] [] (Go.Sy.okK fun r _ _ _=>Q r)=Df Q:=by kernel_rfl
theorem uf {n1:Nat} {g1:Nat->List SV} {n2:Nat} {g2:Nat->List SV} {u:Un} (h1:n1<=1000000) (h2:n2<=1000000) (k1:eU.good szB n1 g1=true) (k2:eN.good szN n2 g2=true) (hu:szB u=true):kp n1 n1 g1 n2 n2 g2 u=true:=by
 unfold kp bW;rw [Nat.ble_eq_true_of_le (Nat.le_refl n1),Nat.ble_eq_true_of_le (Nat.le_refl n2),Nat.ble_eq_true_of_le h1,Nat.ble_eq_true_of_le h2,k1,k2,hu];rfl
theorem JD {u:Un} (h:szB u=true):eU.good szB 1 (je (ci u) 20)=true:=El.good_iff.2 fun e he=>by
 obtain rfl:e=0:=by omega
 exact ⟨rfl,h⟩
theorem Pe {u v:Un} (h:szB u=true) (k:szB v=true):eU.good szB 2 (je (ci u++ci v) 20)=true:=El.good_iff.2 fun e he=>by
 rcases (show e=0\/e=1 by omega) with rfl|rfl
 ·exact ⟨rfl,h⟩
 ·exact ⟨rfl,k⟩
theorem Pf {x:Nd} (h:szN x=true):eN.good szN 1 (je (svN x) 26)=true:=El.good_iff.2 fun e he=>by
 obtain rfl:e=0:=by omega
 exact ⟨rfl,h⟩
theorem Pg {x y:Nd} (h:szN x=true) (k:szN y=true):eN.good szN 2 (je (svN x++svN y) 26)=true:=El.good_iff.2 fun e he=>by
 rcases (show e=0\/e=1 by omega) with rfl|rfl
 ·exact ⟨rfl,h⟩
 ·exact ⟨rfl,k⟩
theorem BH {Q:SV->Prop} (hQ:Q (cB.enc true)):dk Pd (fun _ _=>none) 8 10 [] [] (Go.Sy.okK fun r _ _ _=>Q r):=by
 rw [Fu];have b0:szB (aT 0)=true:=by kernel_rfl
 have b2:szB (aT 2)=true:=by kernel_rfl
 have bu:szB qx=true:=by kernel_rfl
 have ni: ∀ n,szN (nIn n)=true:=fun n=>lB;have np:szN (nPow 3 0)=true:=lB;have c1:kp 1 1 oneU 2 2 ue qx=true:=uf (by decide) (by decide) (JD b0) (Pg (ni 0) np) bu;have c2:kp 2 2 Qu 1 1 inN (aT 0)=true:=uf (by decide) (by decide) (Pe b0 b2) (Pf (ni 0)) b0;have hc:cw cubeR=true:=by kernel_rfl
 obtain ⟨d1,d2,d3⟩:=qw (i:=0) hc;unfold Df nB;refine ac c1 fun _ _=>ac ?_ fun _ _=>ac ?_ fun _ _=>ac c1 fun _ _=>ac c2 fun _ _=>ac c1 fun _ _=>ac c1 fun _ _=>ac ?_ fun _ _=>hQ
 ·have h:decide (1<=(dm (aG cubeR 0).1).inp.length)=true:=by kernel_rfl
  rw [eY d1 d2 d3,h];rfl
 ·have r2:eR.good uzR 1 Qv=true:=El.good_iff.2 fun e he=>by
   obtain rfl:e=0:=by omega
   exact ⟨rfl,gu 2 1⟩
  have h:decide (1<=cubeR.inp.length)=true:=by kernel_rfl
  rw [c1,r2,h];rfl
 ·have a:eU.good szB 0 (fun _=> [])=true:=El.good_iff.2 fun e he=>by omega
  have b:eN.good szN 0 (fun _=> [])=true:=El.good_iff.2 fun e he=>by omega
  rw [a,b];rfl
noncomputable def xI:MCtr:=fun _ _ args=>match args with
 | []=>some {X:=Unit,pre:=true,spec:=fun _=>True,out:=fun _=>cB.enc true,ex:=fun _=>⟨(),trivial⟩}
 |_=>none
theorem BI: ∀ B:Base,GlobB B->MCtrOK Tryz.prog B 10 xI:=eW MD fun bl nx args C hk hp=>by
 unfold xI at hk;split at hk
 ·simp only [Option.some.injEq] at hk;subst hk;refine ⟨[], [], [],fun _ _=>none,8,trivial,bH (by simp),cd (by simp),rfl, ?_⟩;exact lz () trivial rfl (r:=cB.enc true) rfl rfl rfl rfl (by simp) rfl (BH rfl)
 ·cases hk
abbrev DR:=RS×RS
def bh (n:Int):RS:=(rMk n 1).1
def JE (a b:DR):DR×Bool:=(((bd a.1 b.1).1,(fZ (bd a.2 b.1).1 (bd a.1 b.2).1).1),(bd a.1 b.1).2==0&&((bd a.2 b.1).2==0&&((bd a.1 b.2).2==0&&(fZ (bd a.2 b.1).1 (bd a.1 b.2).1).2==0)))
def Nl (a:DR):DR×Bool:=
 let v:=cA (bh 1) a.1
 let s:=bd v.1 v.1
 let x:=bd a.2 s.1
 let d:=iF (bh 0) x.1
 ((v.1,d.1),v.2==0&&(s.2==0&&(x.2==0&&d.2==0)))
theorem nE {n:Int} (h:n.natAbs<10^9):rV (bh n)=true/\qV (bh n)=n:=by
 unfold bh;have:=kL (n:=n) (d:=1) (sm h) (by decide) (by decide);rw [this];refine ⟨?_,by rw [BW,C7]⟩;exact MR (sm h) (by decide) (by decide)
def v9:List FuncId:=
 90::
 31::
 zh
theorem zG: ∀ f∈v9,Callable Tryz.prog f:=by
 unfold v9;intro f hf;rcases List.mem_cons.1 hf with rfl|hf
 ·exact Tryz.call90
 rcases List.mem_cons.1 hf with rfl|hf
 ·exact Tryz.call31
 exact xe f hf
abbrev ug (g:List (FuncId×Ctr)) (ann:FuncId->Nat->Option (AS->Ann)) (n:Nat) (f:FuncId) (args:List SV) (K:SV->Prop):Prop:=wq Tryz.prog (iR v9) (gw g) (gx []) ann n f args (fun _=>none) 0 [] (Go.Sy.okK fun r _ _ _=>K r)
theorem kh {g:List (FuncId×Ctr)} (h:GOk g) {W0:World} (hg:GlobU W0) {ann:FuncId->Nat->Option (AS->Ann)} {n:Nat} {F:FuncId} {args:List SV} {r:SV} (ha:SV.idss args= []) (hr:r.ids= []) (hrun:ug g ann n F args (fun s=>s=r)):Go.Sy.Yields Tryz.prog W0 F args r:=
 eo (fun W hb=>mW (h.all W (hg.below hb)) (fun _ h=>by cases h) zG (by kernel_rfl)) ha hr hrun
theorem Fv (c n:Int) (K:SV->Prop):ug xf noA 3 90 [cI.enc c,cI.enc n] K=vH c n K:=by kernel_rfl
theorem Fx (c n:Int) (K:SV->Prop):ug xf noA 3 103 [cI.enc c,cI.enc n] K=vH c n K:=by kernel_rfl
theorem BJ (c n:Int) (K:SV->Prop):ug xf noA 3 13 [cI.enc c,cI.enc n] K=vH c n K:=by kernel_rfl
abbrev Dg:Ctr:=k2 cI cI cI (fun c n=>uInt c&&decide (0<n)) co
theorem uh {F:FuncId} {W:World} (hW:GlobU W) (hvc: ∀ (c n:Int) (K:SV->Prop),ug xf noA 3 F [cI.enc c,cI.enc n] K=vH c n K):CtrOK Tryz.prog W F Dg:=bC fun c n h=>by
 rw [Bool.and_eq_true] at h;exact kh gok9 (ann:=noA) (n:=3) hW dz (cI.ids _) (by rw [hvc];exact A6 (K:=fun r=>r=_) h.1 (of_decide_eq_true h.2) rfl)
def ui:List (FuncId×Ctr):=(13,Dg)::(103,Dg)::
 (90,Dg)::
 xf
theorem xJ:GOk ui:=
 ((gok9
   |>.cons (fun W hW=>uh hW Fv) Tryz.call90
   ).cons (fun W hW=>uh hW Fx) Tryz.call103).cons (fun W hW=>uh hW BJ) Tryz.call13
theorem Fy {n:Int} {K:Prop} (h: -9223372036854775808<=n/\n<=9223372036854775807) (k:K):af (inR .i64 n) K:=ac (inR64.2 h) k
theorem Fz (x:Int×Int) (K:SV->Prop):ug ui noA 3 31 [c22.enc x] K=
 af (uInt x.1&&decide (0<(1999:Int))) (af (inR .i64 (co x.1 1999 - 999)) (af (uInt x.2&&decide (0<(60:Int))) (af (inR .i64 (1+co x.2 60)) (af (uInt (co x.1 1999 - 999)&&uInt (1+co x.2 60)) (K (cR.enc (Yk.smallF x))))))):=by kernel_rfl
theorem FA (n:Int) (K:SV->Prop):ug ui noA 3 30 [cI.enc n] K=af (uInt n&&uInt 1) (K (cR.enc (bh n))):=by kernel_rfl
noncomputable def BL (n:Int):Un:=
 bif co n 7==0 then aT 0 else bif co n 7==1 then aT 2 else bif co n 7==2 then {aT 0 with f:=(⟨#[49]⟩,⟨#[49,48,48,48]⟩)} else
 bif co n 7==3 then (fd (aT 0) (aT 0)).1 else bif co n 7==4 then {aT 4 with s:=0,o:=(⟨#[53,52,54,51]⟩,⟨#[50,48]⟩)} else bif co n 7==5 then aT 4 else (mi (aT 0) (aT 0)).1
noncomputable def BM (n:Int) (K:SV->Prop):Prop:=
 af (uInt n&&decide (0<(7:Int))) (ag (co n 7==0) (K (cU.enc (aT 0))) (ag (co n 7==1) (K (cU.enc (aT 2))) (ag (co n 7==2) (K (cU.enc {aT 0 with f:=(⟨#[49]⟩,⟨#[49,48,48,48]⟩)})) (
 ag (co n 7==3) (K (cU.enc (fd (aT 0) (aT 0)).1)) (ag (co n 7==4) (K (cU.enc {aT 4 with s:=0,o:=(⟨#[53,52,54,51]⟩,⟨#[50,48]⟩)})) (ag (co n 7==5) (K (cU.enc (aT 4))) (K (cU.enc (mi (aT 0) (aT 0)).1))))))))
theorem JF (n:Int) (K:SV->Prop):ug ui noA 3 104 [cI.enc n] K=BM n K:=by kernel_rfl
theorem JG {n:Int} {K:SV->Prop} (h:uInt n=true) (k:K (cU.enc (BL n))):BM n K:=by
 unfold BL at k;unfold BM;rw [h];refine ac rfl (ah (fun a=> ?_) (fun a=>ah (fun b=> ?_) (fun b=>ah (fun c=> ?_) (fun c=>ah (fun d=> ?_) (fun d=>ah (fun e=> ?_) (fun e=>ah (fun f=> ?_) (fun f=> ?_)))))))
 ·rw [a] at k;exact k
 ·rw [a,b] at k;exact k
 ·rw [a,b,c] at k;exact k
 ·rw [a,b,c,d] at k;exact k
 ·rw [a,b,c,d,e] at k;exact k
 ·rw [a,b,c,d,e,f] at k;exact k
 ·rw [a,b,c,d,e,f] at k;exact k
noncomputable def xK:List (FuncId×Ctr):=
 (104,k1 cI cU uInt BL)::
 (30,k1 cI cR uInt bh)::
 (31,k1 c22 cR (fun x=>uInt x.1&&uInt x.2) Yk.smallF)::
 ui
theorem BN:GOk xK:=
 (((xJ
   |>.cons (fun W hW=>dD fun x h=>kh xJ (ann:=noA) (n:=3) hW eu (cR.ids _) (by
    rw [Fz];rw [Bool.and_eq_true] at h;have b1:=gR x.1 (n:=1999) (by decide);have b2:=gR x.2 (n:=60) (by decide)
    exact ac (by rw [h.1];rfl) (Fy (by omega) (ac (by rw [h.2];rfl) (Fy (by omega) (ac (by rw [uInt_iff.2 (by omega),uInt_iff.2 (by omega)];rfl) rfl)))))) Tryz.call31
   )
   |>.cons (fun W hW=>dD fun n h=>kh xJ (ann:=noA) (n:=3) hW eu (cR.ids _) (by rw [FA];exact ac (by rw [h];rfl) rfl)) Tryz.call30
   )
   |>.cons (fun W hW=>dD fun n h=>kh xJ (ann:=noA) (n:=3) hW eu (cU.ids _) (by rw [JF];exact JG (K:=fun r=>r=_) h rfl)) Tryz.call104
   )
def Nm:SV->Option DR
 | .agg [.val (.string a), .val (.string b), .val (.string c), .val (.string d)]=>some ((a,b),(c,d))
 |_=>none
def cDR:Cod DR where
 dec:=Nm
 enc r:= .agg [.val (.string r.1.1), .val (.string r.1.2), .val (.string r.2.1), .val (.string r.2.2)]
 ok s a h:=by
  unfold Nm at h;split at h
  ·simp at h;rw [<- h]
  ·cases h
 ids _:=by simp [SV.ids,SV.idss]
def uzD (a:DR):Bool:=uzR a.1&&uzR a.2
def ME:List Int->(Bool->Prop)->Prop
 | [],K=>K true
 |e::r,K=>ag (e !=0) (K false) (ME r K)
def JH (a b:DR) (K:SV->Prop):Prop:=
 af (uzR a.1&&uzR b.1) (af (uzR a.2&&uzR b.1) (af (uzR a.1&&uzR b.2) (af (uzR (bd a.2 b.1).1&&uzR (bd a.1 b.2).1)
  (ME [(bd a.1 b.1).2,(bd a.2 b.1).2,(bd a.1 b.2).2,(fZ (bd a.2 b.1).1 (bd a.1 b.2).1).2] fun c=>K ((cP cDR cB).enc (((bd a.1 b.1).1,(fZ (bd a.2 b.1).1 (bd a.1 b.2).1).1),c))))))
theorem JI (a b:DR) (K:SV->Prop):ug xK noA 4 80 [cDR.enc a,cDR.enc b] K=JH a b K:=by kernel_rfl
def Nn (a:DR) (K:SV->Prop):Prop:=
 let v:=cA (bh 1) a.1
 let s:=bd v.1 v.1
 let x:=bd a.2 s.1
 let d:=iF (bh 0) x.1
 af (uInt 1) (af (uzR (bh 1)&&uzR a.1) (af (uzR v.1&&uzR v.1) (af (uzR a.2&&uzR s.1) (af (uInt 0) (af (uzR (bh 0)&&uzR x.1) (ME [v.2,s.2,x.2,d.2] fun c=>K ((cP cDR cB).enc ((v.1,d.1),c))))))))
theorem MF (a:DR) (K:SV->Prop):ug xK noA 4 81 [cDR.enc a] K=Nn a K:=by kernel_rfl
theorem xL {K:Bool->Prop}: ∀ {l:List Int},K (l.all (· ==0))->ME l K
 | [],h=>h
 |e::r,h=>by
  refine ah (fun k=> ?_) (fun k=>xL ?_)
  ·rw [List.all_cons,show (e==0)=false by simpa using k] at h;exact h
  ·rw [List.all_cons,show (e==0)=true by simpa using k] at h;exact h
noncomputable def BO:List (FuncId×Ctr):=
 (80,k2 cDR cDR (cP cDR cB) (fun a b=>uzD a&&uzD b) JE)::(81,k1 cDR (cP cDR cB) uzD Nl)::
 xK
theorem JJ:GOk BO:=
 BN
  |>.cons (fun W hW=>dD fun a h=>kh BN (ann:=noA) (n:=4) hW eu ((cP cDR cB).ids _) (by
   unfold uzD at h;rw [Bool.and_eq_true] at h;rw [MF];unfold Nn;dsimp only;refine ac rfl (ac (by rw [h.1,show uzR (bh 1)=true from gu 1 1];rfl) (ac (by rw [lY];rfl) (ac (by rw [h.2,gI];rfl) (ac rfl (ac (by rw [gI,show uzR (bh 0)=true from gu 0 1];rfl) (xL ?_))))));unfold Nl
   simp only [List.all_cons,List.all_nil,Bool.and_true])) Tryz.call81
  |>.cons (fun W hW=>bC fun a b h=>kh BN (ann:=noA) (n:=4) hW dz ((cP cDR cB).ids _) (by
   unfold uzD at h;simp only [Bool.and_eq_true] at h;rw [JI];unfold JH;refine ac (by rw [h.1.1,h.2.1];rfl) (ac (by rw [h.1.2,h.2.1];rfl) (ac (by rw [h.1.1,h.2.2];rfl) (ac (by rw [gI,gI];rfl) (xL ?_))));unfold JE
   simp only [List.all_cons,List.all_nil,Bool.and_true])) Tryz.call80
abbrev SLX:=Int×RS
def zH (I1 I2:SLX->Prop) (N:Int):FuncId->Nat->Option (AS->Ann):=fun f k=>bif Nat.beq f 35 then (bif Nat.beq k 3 then some (fun A=>{X:=SLX,inv:=I1,tm:=fun x=> [(7, .val (.int .i64 x.1))],st:= [(kA A 6,fun x=>gA x.2)],mu:=fun x=>(N - x.1).toNat,keep:= [0,3,4,5,6]})
 else bif Nat.beq k 10 then some (fun A=>{X:=SLX,inv:=I2,tm:=fun x=> [(10, .val (.int .i64 x.1))],st:= [(kA A 6,fun x=>gA x.2)],mu:=fun x=>(-x.1).toNat,keep:= [0,3,4,5,6]}) else none) else none
def slM (n:Int) (p:Int) (v:RS) (z:SLX):Prop:=(TV.v (cI.enc p)=TV.v (cI.enc z.1)/\tvE (cI.enc n)/\cg 0/\cg 1/\tvE (cB.enc false)/\cg 5/\True)/\(True/\((gA v=gA z.2/\True)/\True))
def BP (I1 I2:SLX->Prop) (N n:Int) (x:RS) (K:SV->Prop):Prop:=
 af (uInt n) (∃ z0:SLX,I1 z0/\(slM n 0 (bh n) z0/\ ∀ z:SLX,I1 z->af (inR .i64 (n - 1)) (ag (decide (z.1<n - 1))
  (af (uzR z.2&&uzR x) (ag ((bd z.2 x).2 !=0) (K ((cP cR cB).enc (z.2,false))) (af (inR .i64 (z.1+1)) (∃ z':SLX,I1 z'/\((N - z'.1).toNat<(N - z.1).toNat/\slM n (z.1+1) (bd z.2 x).1 z')))))
  (af (inR .i64 (n - 1)) (∃ y0:SLX,I2 y0/\(slM n (n - 1) z.2 y0/\ ∀ y:SLX,I2 y->ag (decide (y.1<0))
    (af (uzR y.2&&uzR x) (ag ((cA y.2 x).2 !=0) (K ((cP cR cB).enc (y.2,false))) (af (inR .i64 (y.1+1)) (∃ y':SLX,I2 y'/\((-y'.1).toNat<(-y.1).toNat/\slM n (y.1+1) (cA y.2 x).1 y')))))
    (K ((cP cR cB).enc (y.2,true)))))))))
theorem JK (I1 I2:SLX->Prop) (N n:Int) (x:RS) (K:SV->Prop):ug BO (zH I1 I2 N) 4 35 [cI.enc n,cR.enc x] K=BP I1 I2 N n x K:=by kernel_rfl
def mE (x:RS):Nat->RS->RS×Bool
 |0,v=>(v,true)
 |k+1,v=>bif (bd v x).2 !=0 then (v,false) else mE x k (bd v x).1
def qy (x:RS):Nat->RS->RS×Bool
 |0,v=>(v,true)
 |k+1,v=>bif (cA v x).2 !=0 then (v,false) else qy x k (cA v x).1
def cW (n:Int) (x:RS):RS×Bool:=bif (mE x (n - 1).toNat (bh n)).2 then qy x (1 - n).toNat (mE x (n - 1).toNat (bh n)).1 else mE x (n - 1).toNat (bh n)
def Qw (n:Int) (x:RS) (z:SLX):Prop:=0<=z.1/\(z.1<=n - 1\/z.1=0)/\uzR z.2=true/\mE x (n - 1).toNat (bh n)=mE x (n - 1 - z.1).toNat z.2
def Qx (n:Int) (x:RS) (z:SLX):Prop:=n - 1<=z.1/\(z.1<=0\/z.1=n - 1)/\uzR z.2=true/\cW n x=qy x (-z.1).toNat z.2
theorem oP {n p:Int} {v:RS}:slM n p v (p,v):=⟨⟨rfl,rfl,rfl,rfl,rfl,rfl,trivial⟩,trivial,⟨rfl,trivial⟩,trivial⟩
theorem zI {n:Int} {x:RS} {K:SV->Prop} (hn: -1000000<=n/\n<=1000000) (hx:uzR x=true) (hK:K ((cP cR cB).enc (cW n x))):BP (Qw n x) (Qx n x) n n x K:=by
 unfold BP;refine ac (uInt_iff.2 (by omega)) ⟨(0,bh n),⟨Int.le_refl _, .inr rfl,gu n 1,by rw [Int.sub_zero]⟩,oP, ?_⟩;rintro ⟨i,v⟩ ⟨h0,h1,h2,h3⟩;dsimp only at h0 h1 h2 h3 ⊢;refine ac (inR64.2 (by omega)) (ah (fun hz=> ?_) (fun hz=> ?_))
 ·have hz:=of_decide_eq_true hz;rw [show (n - 1 - i).toNat=(n - 1 - (i+1)).toNat+1 by omega,mE] at h3;refine ac (by rw [h2,hx];rfl) (ah (fun he=> ?_) (fun he=> ?_))
  ·rw [he,cond_true] at h3;unfold cW at hK;rw [h3] at hK;exact hK
  ·rw [he,cond_false] at h3;exact ac (inR64.2 (by omega)) ⟨(i+1,(bd v x).1),⟨by show 0<=i+1;omega, .inl (by show i+1<=n - 1;omega),gI _ _,h3⟩,by show (_:Nat)<_;dsimp only;omega,oP⟩
 ·have hz:=of_decide_eq_false hz;rw [show (n - 1 - i).toNat=0 by omega,mE] at h3;have hF:cW n x=qy x (1 - n).toNat v:=by unfold cW;rw [h3];rfl
  refine ac (inR64.2 (by omega)) ⟨(n - 1,v),⟨Int.le_refl _, .inr rfl,h2,by rw [hF];congr 1;omega⟩,oP, ?_⟩;rintro ⟨j,u⟩ ⟨k0,k1,k2,k3⟩;dsimp only at k0 k1 k2 k3 ⊢;refine ah (fun hy=> ?_) (fun hy=> ?_)
  ·have hy:=of_decide_eq_true hy;rw [show (-j).toNat=(-(j+1)).toNat+1 by omega,qy] at k3;refine ac (by rw [k2,hx];rfl) (ah (fun he=> ?_) (fun he=> ?_))
   ·rw [he,cond_true] at k3;rw [k3] at hK;exact hK
   ·rw [he,cond_false] at k3;exact ac (inR64.2 (by omega)) ⟨(j+1,(cA u x).1),⟨by show n - 1<=j+1;omega, .inl (by show j+1<=0;omega),lY _ _,k3⟩,by show (_:Nat)<_;dsimp only;omega,oP⟩
  ·have hy:=of_decide_eq_false hy;rw [show (-j).toNat=0 by omega,qy] at k3;rw [k3] at hK;exact hK
noncomputable def Dh:List (FuncId×Ctr):=
 (35,k2 cI cR (cP cR cB) (fun n x=>decide (-1000000<=n)&&decide (n<=1000000)&&uzR x) cW)::
 BO
theorem gok10:GOk Dh:=
 JJ
  |>.cons (fun W hW=>bC fun n x h=>by
   simp only [Bool.and_eq_true,decide_eq_true_eq] at h
   exact kh JJ (ann:=zH (Qw n x) (Qx n x) n) (n:=4) hW dz ((cP cR cB).ids _) (by rw [JK];exact zI (K:=fun r=>r=_) h.1 h.2 rfl)) Tryz.call35
@[irreducible] def JL (gm:List (FuncId×MCtr)) (ann:FuncId->Nat->Option (AS->Ann)) (n:Nat) (f:FuncId) (args:List SV) (Cs:List Blk) (K:Aft):Prop:=
 Ay Tryz.prog (iR v9) (gw Dh) (gx gm) tL ann n f args (fun i=>Cs[i]?) Cs.length [] K
theorem Qy {gm:List (FuncId×MCtr)} (hm:MOk gm) {B:Base} (hB:GlobB B):HypD Tryz.prog B (iR v9) (gw Dh) (gx gm) tL:=
 have h:Hyp Tryz.prog B (iR v9) (gw Dh) (gx gm):=mW (fun p hp=>⟨CtrOK.base fun w hw=>(gok10.all w (hB w hw) p hp).1,(gok10.all B.w (hB B.w (Pres.self B)) p hp).2⟩) (hm.all B hB) zG (by kernel_rfl)
 ⟨h.gam,h.mem,(P2 hm hB).dem,h.ok,h.mixed⟩
noncomputable def Qz:List (FuncId×MCtr):= [(21,C8),(10,xI)]
theorem MG:MOk Qz:=(MOk.nil.cons BI).cons zC
noncomputable def zJ:Un:=(fd (dV (aT 0).d (bh 1) 0) (dV (aT 0).d (bh 1) 0)).1
def rulO (o:Int):Nd:=⟨o,noR2,noU,0,1,2⟩
def Dj (n m:Int):Nat->List SV:=je (svN (nIn 0)++(svN (nPow n 0)++(svN (nPow m 0)++svN ⟨0,noR2,noU,0,0,0⟩))) 26
def zK (o:Int) (g:Nat->List SV):Nat->List SV:=fun i=>bif Nat.beq i 3 then gZ (g i) 0 (svN (rulO o)) else g i
noncomputable def JM:Nat->List SV:=je (ci zJ) 20
noncomputable def MH (g:Nat->List SV):Pr:=⟨1,eU.list 1 JM,eN.list 4 g,zJ⟩
def Ph (x:RS):Nat->List SV:=je (gA x) 2
noncomputable def JN (g:Nat->List SV) (x:RS):List RS×Int:=jL (MH g) (eR.list 1 (Ph x))
def zL (n:Int) (x:RS):Bool:=decide (-1000000<=n)&&decide (n<=1000000)&&uzR x
def zM (a b:RS):Bool:=seq a.1 b.1&&(seq a.2 b.2&&true)
noncomputable def zN (g:Nat->List SV) (x:RS) (K:SV->Prop) (R:List RS->Prop):Prop:=
 af (kp 1 1 JM 4 4 g zJ&&(Nat.ble 1 1&&Nat.beq 2 2&&true)&&bW 1&&eR.good uzR 1 (Ph x)&&decide (1<=(MH g).inp.length)) (Unit->True->
  ag (bif (JN g x).2 !=0 then true else (((JN g x).1.length:Int) !=1)) (K (cB.enc false)) (R (JN g x).1))
noncomputable def zO (c:Bool) (l:List RS) (y:RS) (K:SV->Prop) (R:Prop):Prop:=
 af (dC (!c) (pS l.length 0)) (af (dC (!c) (decide (0+0<l.length))) (ag (bif c then true else !zM (nthD noR2 l (0+0)) y) (K (cB.enc false)) R))
noncomputable def MI (n m:Int) (x:RS) (K:SV->Prop):Prop:=
 af (inR .i64 (n+m)) (af (inR .i64 (n - m))
 (zN (zK 3 (Dj n m)) x K fun l=>af (zL n x) (af (zL m x) (af (uzR (cW n x).1&&uzR (cW m x).1)
   (zO (bif (bif !(cW n x).2 then true else !(cW m x).2) then true else (fZ (cW n x).1 (cW m x).1).2 !=0) l (fZ (cW n x).1 (cW m x).1).1 K
 (zN (zK 5 (zK 3 (Dj n m))) x K fun l=>af (zL n x) (af (zL (n+m) x) (zO (!(cW (n+m) x).2) l (cW (n+m) x).1 K
 (zN (zK 6 (zK 5 (zK 3 (Dj n m)))) x K fun l=>af (zL n x) (af (zL (n - m) x) (zO (!(cW (n - m) x).2) l (cW (n - m) x).1 K
   (K (cB.enc true)))))))))))))
noncomputable def JO (n m:Int) (x:Int×Int) (K:SV->Prop):Prop:=
 Unit->True->af (uInt n&&decide (0<(4:Int))) (af (inR .i64 (1+co n 4)) (af (uInt m&&decide (0<(4:Int))) (af (inR .i64 (1+co m 4)) (af (uInt x.1&&uInt x.2)
  (ag (zM (Yk.smallF x) (bh 0)) (MI (1+co n 4) (1+co m 4) (bh 3) K) (MI (1+co n 4) (1+co m 4) (Yk.smallF x) K))))))
theorem JP (n m:Int) (x:Int×Int) (K:SV->Prop):JL Qz (fun _ _=>none) 8 8 [cI.enc n,cI.enc m,c22.enc x] [] (Go.Sy.okK fun r _ _ _=>K r)=JO n m x K:=by kernel_rfl
abbrev Bd:=Nat×Bool
def FB (b:Bd) (v:RS):Prop:=FewR b.1 v/\(b.2=true->qV v≠0)
def Pi (k:Nat) (r:RS):Bool:=rV r&&decide ((nS r.1).natAbs<10^k)&&decide ((nS r.2).natAbs<10^k)
theorem fewB_iff {k:Nat} {r:RS}:Pi k r=true↔FewR k r:=by
 unfold Pi FewR;simp only [Bool.and_eq_true,decide_eq_true_eq,and_assoc]
def Pj (bs:List Bd) (x:Nd):Option Bd:=
 bif x.op==1 then (bif Pi 1 x.v then some (1,false) else none) else
 bif x.op==2 then (bif x.n==0 then some (4,true) else none) else
 bif x.op==3 then (bif Nat.blt x.l.toNat bs.length&&Nat.blt x.r.toNat bs.length&&Nat.blt ((nthD (0,false) bs x.l.toNat).1+(nthD (0,false) bs x.r.toNat).1) 199 then some ((nthD (0,false) bs x.l.toNat).1+(nthD (0,false) bs x.r.toNat).1+1,false) else none) else
 bif x.op==4 then (bif Nat.blt x.l.toNat bs.length&&Nat.blt x.r.toNat bs.length&&Nat.blt ((nthD (0,false) bs x.l.toNat).1+(nthD (0,false) bs x.r.toNat).1) 199 then some ((nthD (0,false) bs x.l.toNat).1+(nthD (0,false) bs x.r.toNat).1+1,false) else none) else
 bif x.op==5 then (bif Nat.blt x.l.toNat bs.length&&Nat.blt x.r.toNat bs.length&&Nat.blt ((nthD (0,false) bs x.l.toNat).1+(nthD (0,false) bs x.r.toNat).1) 199 then some ((nthD (0,false) bs x.l.toNat).1+(nthD (0,false) bs x.r.toNat).1,(nthD (0,false) bs x.l.toNat).2&&(nthD (0,false) bs x.r.toNat).2) else none) else
 bif x.op==6 then (bif Nat.blt x.l.toNat bs.length&&Nat.blt x.r.toNat bs.length&&Nat.blt ((nthD (0,false) bs x.l.toNat).1+(nthD (0,false) bs x.r.toNat).1) 199&&(nthD (0,false) bs x.r.toNat).2 then some ((nthD (0,false) bs x.l.toNat).1+(nthD (0,false) bs x.r.toNat).1,false) else none) else
 bif x.op==7 then (bif Nat.blt x.l.toNat bs.length&&decide (0<x.n)&&Nat.blt (x.n.toNat*(nthD (0,false) bs x.l.toNat).1+1) 199 then some (x.n.toNat*(nthD (0,false) bs x.l.toNat).1+1,(nthD (0,false) bs x.l.toNat).2) else none) else none
def FC:List Nd->List Bd->Bool
 | [],_=>true
 |x::r,bs=>match Pj bs x with
  |some b=>FC r (bs++ [b])
  |none=>false
theorem uj {k:Nat} {x:RS×Int} {q:Rat} (h:Fw k x q): ∃ v,okR x=some v/\FewR k v/\qV v=q:=by
 obtain ⟨c,rfl,h1,h2⟩:=h;exact ⟨c,rfl,h1,h2⟩
theorem zQ {b:RS} {k:Nat} (h:FewR k b): ∀ n:Nat,n*k+1<=200-> ∃ v,kC b n=some v/\FewR (n*k+1) v/\(qV b≠0->qV v≠0)
 |0,_=>⟨rI,rfl,by rw [Nat.zero_mul];exact fewB_iff.1 (by kernel_rfl),fun _=>by decide⟩
 |n+1,hn=>by
  rw [Nat.succ_mul] at hn ⊢;obtain ⟨v,e,f,z⟩:=zQ h n (by omega);obtain ⟨w,e2,f2,q2⟩:=uj (f.fmul h (by omega));refine ⟨w,by simp only [kC,e];exact e2,f2.mono (by omega),fun hb=> ?_⟩;rw [q2];exact fun hz=>by
   rcases Rat.mul_eq_zero.1 hz with h|h
   ·exact z hb h
   ·exact hb h
theorem iE {α:Type} {c:Bool} {a b:α} (h:(bif c then some a else none)=some b):c=true/\a=b:=by cases c<;>simp_all
theorem kD {a b:Nat} (h:Nat.blt a b=true):a<b:=by
 rw [aB] at h;exact of_decide_eq_true h
theorem JQ {a:RS} {vs:List RS} {bs:List Bd} {x:Nd} {b:Bd} (ha:FewR 4 a) (h0:qV a≠0) (hb:Pj bs x=some b) (hv: ∀ j,j<bs.length->FB (nthD (0,false) bs j) (nthD noR2 vs j)): ∃ v,valF [a] vs x=some v/\FB b v:=by
 unfold Pj at hb;unfold valF;cases o1:x.op==1 with
 |true=>
  rw [o1] at hb;obtain ⟨c,rfl⟩:=iE hb;exact ⟨_,rfl,fewB_iff.1 c,fun h=>by cases h⟩
 |false=>
 cases o2:x.op==2 with
 |true=>
  rw [o1,o2] at hb;obtain ⟨c,rfl⟩:=iE hb;rw [eq_of_beq c];exact ⟨a,rfl,ha,fun _=>h0⟩
 |false=>
 cases o3:x.op==3 with
 |true=>
  rw [o1,o2,o3] at hb;obtain ⟨c,rfl⟩:=iE hb;simp only [Bool.and_eq_true] at c;obtain ⟨v,e,f,_⟩:=uj ((hv _ (kD c.1.1)).1.fadd (hv _ (kD c.1.2)).1 (by have:=kD c.2;omega));exact ⟨v,e,f,fun h=>by cases h⟩
 |false=>
 cases o4:x.op==4 with
 |true=>
  rw [o1,o2,o3,o4] at hb;obtain ⟨c,rfl⟩:=iE hb;simp only [Bool.and_eq_true] at c;obtain ⟨v,e,f,_⟩:=uj ((hv _ (kD c.1.1)).1.fsub (hv _ (kD c.1.2)).1 (by have:=kD c.2;omega));exact ⟨v,e,f,fun h=>by cases h⟩
 |false=>
 cases o5:x.op==5 with
 |true=>
  rw [o1,o2,o3,o4,o5] at hb;obtain ⟨c,rfl⟩:=iE hb;simp only [Bool.and_eq_true] at c;obtain ⟨v,e,f,q⟩:=uj ((hv _ (kD c.1.1)).1.fmul (hv _ (kD c.1.2)).1 (by have:=kD c.2;omega));refine ⟨v,e,f,fun h=> ?_⟩;simp only [Bool.and_eq_true] at h;rw [q];exact fun hz=>by
   rcases Rat.mul_eq_zero.1 hz with k|k
   ·exact (hv _ (kD c.1.1)).2 h.1 k
   ·exact (hv _ (kD c.1.2)).2 h.2 k
 |false=>
 cases o6:x.op==6 with
 |true=>
  rw [o1,o2,o3,o4,o5,o6] at hb;obtain ⟨c,rfl⟩:=iE hb;simp only [Bool.and_eq_true] at c;obtain ⟨v,e,f,q⟩:=uj ((hv _ (kD c.1.1.1)).1.fdiv (hv _ (kD c.1.1.2)).1 ((hv _ (kD c.1.1.2)).2 c.2) (by have:=kD c.1.2;omega));exact ⟨v,e,f,fun h=>by cases h⟩
 |false=>
 cases o7:x.op==7 with
 |true=>
  rw [o1,o2,o3,o4,o5,o6,o7] at hb;obtain ⟨c,rfl⟩:=iE hb;simp only [Bool.and_eq_true,decide_eq_true_eq] at c;obtain ⟨v,e,f,z⟩:=zQ (hv _ (kD c.1.1)).1 x.n.toNat (by have:=kD c.2;omega);refine ⟨v, ?_,f,fun h=>z ((hv _ (kD c.1.1)).2 h)⟩;have hn:decide (x.n<0)=false:=decide_eq_false (by omega);rw [cond_false,cond_false,cond_false,cond_false,cond_false,cond_false,cond_true,I8 (by omega),e,hn];rfl
 |false=>rw [o1,o2,o3,o4,o5,o6,o7] at hb;cases hb
theorem zR {a:RS} (ha:FewR 4 a) (h0:qV a≠0): ∀ (r:List Nd) (bs:List Bd) (vs:List RS),FC r bs=true->vs.length=bs.length->(∀ j,j<bs.length->FB (nthD (0,false) bs j) (nthD noR2 vs j))-> ∃ ws,iC [a] r vs=some ws
 | [],_,vs,_,_,_=>⟨vs,rfl⟩
 |x::r,bs,vs,hb,hl,hv=>by
  unfold FC at hb;split at hb
  ·rename_i b hbb;obtain ⟨v,e,f⟩:=JQ ha h0 hbb hv;obtain ⟨ws,h⟩:=zR ha h0 r (bs++ [b]) (vs++ [v]) hb (by simp [hl]) fun j hj=>by
    rw [aS,aS];simp only [List.length_append,List.length_singleton] at hj;by_cases k:j=bs.length
    ·rw [if_pos k,if_pos (by omega)];exact f
    ·rw [if_neg k,if_neg (by omega)];exact hv j (by omega)
   exact ⟨ws,by simp only [iC,e];exact h⟩
  ·cases hb
theorem zS {a:RS} (ha:FewR 4 a) (h0:qV a≠0) {p:Pr} (hv:validP p=true) (hl:p.inp.length=1) (hb:FC p.nod []=true):(bn p [a]).2=0:=by
 obtain ⟨ws,h⟩:=zR ha h0 p.nod [] [] hb rfl (fun j hj=>by simp at hj);unfold bn;rw [hv,hl,h];simp only [List.all_cons,List.all_nil,ha.1];rfl
noncomputable def gz (n m o:Int):Pr:=⟨1, [zJ], [nIn 0,nPow n 0,nPow m 0,rulO o],zJ⟩
noncomputable def JR (n m o:Int):Bool:=validP (gz n m o)&&FC (gz n m o).nod []&&((aG (gz n m o) 0).2==0)&&validP (aG (gz n m o) 0).1&&Nat.beq (aG (gz n m o) 0).1.inp.length 1&&FC (aG (gz n m o) 0).1.nod []
noncomputable def JS:Bool:= [1,2,3,4].all fun n=> [1,2,3,4].all fun m=> [3,5,6].all fun o=>JR n m o
theorem FD:JS=true:=by kernel_rfl
def FE (q:Rat):Nat->Rat->Rat
 |0,v=>v
 |k+1,v=>FE q k (v*q)
def FF (q:Rat):Nat->Rat->Rat
 |0,v=>v
 |k+1,v=>FF q k (v / q)
theorem wa {x:RS} (hx:FewR 4 x): ∀ (k i:Nat) (v:RS),FewR i v->i+4*k<=200-> ∃ c,mE x k v=(c,true)/\FewR (i+4*k) c/\qV c=FE (qV x) k (qV v)
 |0,i,v,hv,_=>⟨v,rfl,hv,rfl⟩
 |k+1,i,v,hv,h=>by
  obtain ⟨c,e,f,q⟩:=hv.fmul hx (by omega);obtain ⟨d,e2,f2,q2⟩:=wa hx k (i+4) c f (by omega);refine ⟨d, ?_,f2.mono (by omega), ?_⟩
  ·rw [mE,e];exact e2
  ·rw [q2,q];rfl
theorem wb {x:RS} (hx:FewR 4 x) (h0:qV x≠0): ∀ (k i:Nat) (v:RS),FewR i v->i+4*k<=200-> ∃ c,qy x k v=(c,true)/\FewR (i+4*k) c/\qV c=FF (qV x) k (qV v)
 |0,i,v,hv,_=>⟨v,rfl,hv,rfl⟩
 |k+1,i,v,hv,h=>by
  obtain ⟨c,e,f,q⟩:=hv.fdiv hx h0 (by omega);obtain ⟨d,e2,f2,q2⟩:=wb hx h0 k (i+4) c f (by omega);refine ⟨d, ?_,f2.mono (by omega), ?_⟩
  ·rw [qy,e];exact e2
  ·rw [q2,q];rfl
def slQ (n:Int) (q:Rat):Rat:=FF q (1 - n).toNat (FE q (n - 1).toNat n)
theorem me {n:Int} {x:RS} (hn: -3<=n/\n<=8) (hx:FewR 4 x) (h0:qV x≠0): ∃ c,cW n x=(c,true)/\FewR 60 c/\qV c=slQ n (qV x):=by
 obtain ⟨f0,_⟩:=A9 (n:=n) (d:=1) (k:=4) (by omega) (by omega) (by decide);obtain ⟨c,e,f,q⟩:=wa hx (n - 1).toNat 4 (bh n) f0 (by omega);obtain ⟨d,e2,f2,q2⟩:=wb hx h0 (1 - n).toNat _ c f (by omega);refine ⟨d, ?_,f2.mono (by omega), ?_⟩
 ·unfold cW;rw [e];exact e2
 ·rw [q2,q,(nE (by omega)).2];rfl
theorem Pk (n m o:Int) (ins:Nat->Du):nthD (.num 0) (duL ins (gz n m o).nod []) 3=evD ins (nthD (.num 0) [ins 0,dA (ins 0) n,dA (ins 0) m]) (rulO o):=rfl
theorem JT {n m o:Int} {a:RS} (hc:JR n m o=true) (hs:cw (gz n m o)=true) (ho:o≠8) (ha:FewR 4 a) (h0:qV a≠0): ∃ w,jL (gz n m o) [a]=([w],0)/\rV w=true/\qV w=(evD (xz [a] 0) (nthD (.num 0) [⟨qV a,1⟩,dA ⟨qV a,1⟩ n,dA ⟨qV a,1⟩ m]) (rulO o)).d:=by
 unfold JR at hc;simp only [Bool.and_eq_true] at hc;obtain ⟨⟨⟨⟨⟨c1,c2⟩,c3⟩,c4⟩,c5⟩,c6⟩:=hc;have c3:=eq_of_beq c3;have e1:=zS ha h0 c1 rfl c2;have e2:=zS ha h0 c4 (Nat.eq_of_beq_eq_true c5) c6;have h8: ∀ j,j<(gz n m o).nod.length->(nthD noN (gz n m o).nod j).op≠8:=fun j hj=>by
  have hj:j<4:=hj;rcases (show j=0\/j=1\/j=2\/j=3 by omega) with rfl|rfl|rfl|rfl
  ·show (2:Int)≠8;decide
  ·show (7:Int)≠8;decide
  ·show (7:Int)≠8;decide
  ·exact ho
 refine ⟨(bn (aG (gz n m o) 0).1 [a]).1, ?_,(xy (Prod.ext rfl e2)).rv, ?_⟩
 ·unfold jL;rw [e1]
  show (match oJ (gz n m o) [a] 1 0 [] with
   |some l=>(l,(0:Int))
   |none=>([],100))=_
  unfold oJ;rw [c3,e2];rfl
 ·exact (zB hs (Prod.ext rfl c3) h8 (Prod.ext rfl e2)).trans (congrArg Du.d (Pk n m o (xz [a] 0)))
theorem MJ {n m:Int} (hn:1<=n/\n<=4) (hm:1<=m/\m<=4) {q:Rat}:((dA ⟨q,1⟩ n).add (dA ⟨q,1⟩ m)).d=slQ n q+slQ m q:=by
 rcases (show n=1\/n=2\/n=3\/n=4 by omega) with rfl|rfl|rfl|rfl<;>rcases (show m=1\/m=2\/m=3\/m=4 by omega) with rfl|rfl|rfl|rfl<;>
  simp [xw,t6,t7,xx,Du.mul,Du.add,slQ,FE,FF]<;>grind
theorem MK {n m:Int} (hn:1<=n/\n<=4) (hm:1<=m/\m<=4) {q:Rat}:((dA ⟨q,1⟩ n).mul (dA ⟨q,1⟩ m)).d=slQ (n+m) q:=by
 rcases (show n=1\/n=2\/n=3\/n=4 by omega) with rfl|rfl|rfl|rfl<;>rcases (show m=1\/m=2\/m=3\/m=4 by omega) with rfl|rfl|rfl|rfl<;>
  simp [xw,t6,t7,xx,Du.mul,slQ,FE,FF]<;>grind
theorem ML {n m:Int} (hn:1<=n/\n<=4) (hm:1<=m/\m<=4) {q:Rat} (h0:q≠0):((dA ⟨q,1⟩ n).mul (dA ⟨q,1⟩ m).inv).d=slQ (n - m) q:=by
 rcases (show n=1\/n=2\/n=3\/n=4 by omega) with rfl|rfl|rfl|rfl<;>rcases (show m=1\/m=2\/m=3\/m=4 by omega) with rfl|rfl|rfl|rfl<;>
  simp [xw,t6,t7,xx,Du.mul,Du.inv,slQ,FE,FF]<;>grind
theorem QA {gm:List (FuncId×MCtr)} (hm:MOk gm) {W:World} (hg:GlobU W) {ann:FuncId->Nat->Option (AS->Ann)} {n:Nat} {F:FuncId} {args:List SV} (ha:SV.idss args= []) (h:JL gm ann n F args [] (Go.Sy.okK fun r _ _ _=>r=cB.enc true)):
 Calls Tryz.prog F (SV.concs oj args).toArray W fun e w'=>e= .returned (.bool true)/\Below W.heap.size W w':=by
 unfold JL at h
 obtain ⟨_,hc⟩:=sU (Qy hm (GlobB.of hg)) ann n F args (fun i=>([]:List Blk)[i]?) 0 [] _ oj W h (sP W oj) (fun _ _=>rfl) (fun s hs i hi=>by
  have:i∈SV.idss args:=SV.mem_idss.2 ⟨s,hs,hi⟩
  rw [ha] at this;cases this)
 refine Calls.mono hc ?_;rintro e w' ⟨β',s,bl',nx',wl',he,hk,hbc,_⟩;cases s with
 |pan v=>exact hk.elim
 |ok s=>
 obtain rfl:e=_:=he;obtain rfl:s=_:=hk;exact ⟨rfl,hbc.below.below⟩
theorem rl:szB zJ=true:=by kernel_rfl
theorem JU {n m o:Int}:cw (gz n m o)=true:=by
 unfold cw;rw [show szB (gz n m o).out=true from rl];show ((([zJ]:List Un).all szB&& [nIn 0,nPow n 0,nPow m 0,rulO o].all szN)&&true)=true;simp only [List.all_cons,List.all_nil,rl,show ∀ a,szN (nIn a)=true from fun a=>lB,show ∀ a b,szN (nPow a b)=true from fun a b=>lB,show szN (rulO o)=true from lB];rfl
structure RulG (n m o:Int) (g:Nat->List SV):Prop where
 g0:g 0=svN (nIn 0)
 g1:g 1=svN (nPow n 0)
 g2:g 2=svN (nPow m 0)
 g3:g 3=svN (rulO o)
theorem RulG.next {n m o p:Int} {g:Nat->List SV} (h:RulG n m o g):RulG n m p (zK p g):=⟨h.g0,h.g1,h.g2,by show gZ (g 3) 0 (svN (rulO p))=_;rw [h.g3];rfl⟩
theorem rulG_first {n m p:Int}:RulG n m p (zK p (Dj n m)):=⟨rfl,rfl,rfl,rfl⟩
theorem RulG.good {n m o:Int} {g:Nat->List SV} (h:RulG n m o g):eN.good szN 4 g=true:=El.good_iff.2 fun e he=>by
 rcases (show e=0\/e=1\/e=2\/e=3 by omega) with rfl|rfl|rfl|rfl
 ·rw [h.g0];exact ⟨rfl,lB⟩
 ·rw [h.g1];exact ⟨rfl,lB⟩
 ·rw [h.g2];exact ⟨rfl,lB⟩
 ·rw [h.g3];exact ⟨rfl,lB⟩
theorem RulG.pr {n m o:Int} {g:Nat->List SV} (h:RulG n m o g):MH g=gz n m o:=by
 have e:eN.list 4 g= [nIn 0,nPow n 0,nPow m 0,rulO o]:=by
  show [eN.of (g 0),eN.of (g 1),eN.of (g 2),eN.of (g 3)]=_;rw [h.g0,h.g1,h.g2,h.g3];rfl
 unfold MH;rw [e];rfl
theorem uk {n m o:Int} {g:Nat->List SV} {a:RS} {K:SV->Prop} {R:List RS->Prop} (h:RulG n m o g) (hc:JR n m o=true) (ho:o≠8) (ha:FewR 4 a) (h0:qV a≠0)
 (k: ∀ w,rV w=true->qV w=(evD (xz [a] 0) (nthD (.num 0) [⟨qV a,1⟩,dA ⟨qV a,1⟩ n,dA ⟨qV a,1⟩ m]) (rulO o)).d->R [w]):zN g a K R:=by
 obtain ⟨w,e,r,q⟩:=JT hc JU ho ha h0;have hF:JN g a=([w],0):=by
  unfold JN;rw [h.pr];exact e
 unfold zN;rw [hF];refine ac ?_ fun _ _=>ah (fun hb=>by cases hb) (fun _=>k w r q)
 rw [show kp 1 1 JM 4 4 g zJ=true from uf (by decide) (by decide) (JD rl) h.good rl,show eR.good uzR 1 (Ph a)=true from El.good_iff.2 fun e he=>by
  obtain rfl:e=0:=by omega
  exact ⟨rfl,pF ha⟩,h.pr];rfl
theorem ul {c:Bool} {w y:RS} {K:SV->Prop} {R:Prop} (hc:c=false) (h:w=y) (k:R):zO c [w] y K R:=by
 subst hc h;unfold zO;refine ac rfl (ac rfl (ah (fun hb=> ?_) (fun _=>k)));have:zM w w=true:=by unfold zM;rw [seq_iff.2 rfl,seq_iff.2 rfl];rfl
 rw [show zM (nthD noR2 [w] (0+0)) w=zM w w from rfl,this] at hb;cases hb
theorem BQ {n m o:Int} (hn:1<=n/\n<=4) (hm:1<=m/\m<=4) (ho:o=3\/o=5\/o=6):JR n m o=true:=by
 have h:=FD;unfold JS at h;have a:=List.all_eq_true.1 h n (by simp;omega);have b:=List.all_eq_true.1 a m (by simp;omega);exact List.all_eq_true.1 b o (by simp;omega)
theorem mf {n:Int} {a:RS} (hn: -3<=n/\n<=8) (ha:FewR 4 a):zL n a=true:=by
 unfold zL;rw [decide_eq_true (by omega),decide_eq_true (by omega),pF ha];rfl
theorem wc {n m:Int} {a:RS} {K:SV->Prop} (hn:1<=n/\n<=4) (hm:1<=m/\m<=4) (ha:FewR 4 a) (h0:qV a≠0) (k:K (cB.enc true)):MI n m a K:=by
 obtain ⟨s1,e1,f1,q1⟩:=me (n:=n) (by omega) ha h0;obtain ⟨s2,e2,f2,q2⟩:=me (n:=m) (by omega) ha h0;obtain ⟨s3,e3,f3,q3⟩:=me (n:=n+m) (by omega) ha h0;obtain ⟨s4,e4,f4,q4⟩:=me (n:=n - m) (by omega) ha h0;obtain ⟨t,e5,f5,q5⟩:=f1.fadd f2 (by decide);unfold MI;refine Fy (by omega) (Fy (by omega) (uk rulG_first (BQ hn hm (.inl rfl)) (by decide) ha h0 fun w r q=>ac (mf (by omega) ha) (ac (mf (by omega) ha) ?_)));rw [e1,e2,e5];refine ac (by rw [pF f1,pF f2];rfl) (ul rfl (wh r f5.1 ?_) (uk rulG_first.next (BQ hn hm (.inr (.inl rfl))) (by decide) ha h0 fun w r q=>ac (mf (by omega) ha) (ac (mf (by omega) ha) ?_)))
 ·rw [q,q5,q1,q2];exact MJ hn hm
 rw [e3];refine ul rfl (wh r f3.1 ?_) (uk rulG_first.next.next (BQ hn hm (.inr (.inr rfl))) (by decide) ha h0 fun w r q=>ac (mf (by omega) ha) (ac (mf (by omega) ha) ?_))
 ·rw [q,q3];exact MK hn hm
 rw [e4];exact ul rfl (wh r f4.1 (by rw [q,q4];exact ML hn hm h0)) k
theorem zT {n m:Int} {x:Int×Int} {K:SV->Prop} (hn:uInt n=true) (hm:uInt m=true) (hx:uInt x.1=true) (hy:uInt x.2=true) (k:K (cB.enc true)):JO n m x K:=by
 have b1:=gR n (n:=4) (by decide);have b2:=gR m (n:=4) (by decide);have b3:=gR x.1 (n:=1999) (by decide);have b4:=gR x.2 (n:=60) (by decide);obtain ⟨f3,q3⟩:=A9 (n:=3) (d:=1) (k:=4) (by decide) (by decide) (by decide);obtain ⟨fs,_⟩:=A9 (n:=co x.1 1999 - 999) (d:=1+co x.2 60) (k:=4) (by omega) (by omega) (by decide);intro _ _;refine ac (by rw [hn];rfl) (Fy (by omega) (ac (by rw [hm];rfl) (Fy (by omega) (ac (by rw [hx,hy];rfl) (ah (fun hz=> ?_) (fun hz=> ?_))))))
 ·exact wc (by omega) (by omega) f3 (by rw [(nE (n:=3) (by decide)).2];decide) k
 ·refine wc (by omega) (by omega) fs (fun h=> ?_) k;have w:=nE (n:=0) (by decide);have e:Yk.smallF x=bh 0:=wh fs.1 w.1 (by rw [w.2];exact h);rw [e] at hz;revert hz;have:zM (bh 0) (bh 0)=true:=by unfold zM;rw [seq_iff.2 rfl,seq_iff.2 rfl];rfl
  rw [this];exact fun h=>by cases h
theorem qQ (n m x0 x1:Int) (hn:B64 n) (hm:B64 m) (hx0:B64 x0) (hx1:B64 x1) (W:World) (hg:GlobU W):
 Calls Tryz.prog 8 #[.int .i64 n, .int .i64 m, .agg #[.int .i64 x0, .int .i64 x1]] W fun e w'=>e= .returned (.bool true)/\Below W.heap.size W w':=
 QA MG hg (args:= [cI.enc n,cI.enc m,c22.enc (x0,x1)]) (ann:=fun _ _=>none) (n:=8) rfl (by
  rw [JP]
  exact zT (x:=(x0,x1)) (uInt_iff.2 hn) (uInt_iff.2 hm) (uInt_iff.2 hx0) (uInt_iff.2 hx1) rfl)
end Go.Proofs.YtenilpdfpmdhmaaGreatDoor
namespace Go.Proofs.YtenilpdfpmdhmaaGreatDoor
open Go.ChangeShapes Go.WideShapes Go.ChangeAt Go.RowKit Yk
theorem oQ {H:Type} {enc:TypeId×Value->H} {a:Assume} {C:Checked} {os:Os} {f:FuncId} {fn:Func} {s:ChangeSpec} {conds:List PathCond} {apart fresh handsOn again:Bool} {X:World->Array Value->Prop}
 (hX: ∀ (w w':World) (args:Array Value),w.heap=w'.heap->X w args->X w' args)
 (own:ownKnob C.prog.godebug=none) (started:os.Started) (noInit:C.prog.inits.idxOf? f=none) (hfn:C.prog.funcs[f]? =some fn)
 (witness: ∃ (w:World) (tape:Tape) (i:Input),w.os=os/\(w.forCall tape i).Shaped C.prog/\i.vars= []/\Input.okWide C.prog (w.forCall tape i) .any w.heap.size f i/\
   ((s.pre enc C.prog fn conds apart (w.forCall tape i).memory i.args/\X (w.forCall tape i).memory i.args)/\sizedMet enc C.prog fn (OpenSpec.ofChange s) apart (w.forCall tape i).memory i.args)/\a.holds C.prog (lone (Frame.enter C.prog f i.args .normal) [] (w.forCall tape i)))
 (contract: ∀ (W:World) (base:Nat) (args:Array Value) (ds gs:List (DataW H)) (before:List MemPlace),
   (∀ (j:Nat) t v,fn.params[j]? =some t->args[j]? =some v->Value.okWide C.prog W .any base t v)->
   DataW.Whole enc C.prog fn.params.toList s.vars apart W args.toList ds gs before->
   X W args->W.ShapedOpen C.prog->
   Calls C.prog f args W fun e W'=> ∃ v,e= .returned v/\s.post enc C.prog fn apart fresh handsOn again W args v W'):
 ReturnsInHanded a C os f .any (fun w args=>(s.pre enc C.prog fn conds apart w args/\X w args)/\sizedMet enc C.prog fn (OpenSpec.ofChange s) apart w args) (s.post enc C.prog fn apart fresh handsOn again):=by
 refine returnsInHanded_of_calls own started noInit witness ?_;intro w tape i _ hsh _ hok hpre hholds;obtain ⟨_,_,_,fn',hfn',_,_,_,_,hval⟩:=hok;have e:fn'=fn:=Option.some.inj (hfn'.symm.trans hfn);subst e;obtain ⟨⟨⟨ds,gs,before,hw,hc⟩,hx⟩,hz⟩:=hpre;have hw':=DataW.Whole.of_heap (w':=w.forCall tape i) (by rfl) hw;refine (contract (w.forCall tape i) w.heap.size i.args ds gs before hval hw' (hX _ _ _ (by rfl) hx) hsh).mono fun e W' ⟨v,he,hp⟩=> ?_;subst he;exact ChangeSpec.post_blind hp
theorem own:ownKnob Tryz.prog.godebug=none:=by kernel_rfl
noncomputable def oR:List (String×DataW Unit):=Rows.deriveMatchesReferenceRow.laid
theorem MM {W:World} (h:W.ShapedOpen Tryz.prog): ∃ m,W.cell? ⟨3,0,none⟩=some (.int .i64 m):=
 cell_of_shapedOpen_int (t:=3) (zero:= #[.int .i64 0]) h (of_decide_eq_true (by kernel_rfl)) (by kernel_rfl) (by kernel_rfl) (by kernel_rfl) (by kernel_rfl) Tryz.underlying3
theorem MN:(Rows.laid_internal_strconv_uint64pow10:DataW Unit)=Lib.tabData .u64 Lib.pow10Tab:=by kernel_rfl
theorem No:Tryz.prog.globalNamed "strconv.ErrRange" =some 1:=by kernel_rfl
theorem Np:Tryz.prog.globalNamed "strconv.ErrSyntax" =some 0:=by kernel_rfl
theorem QB: "*" ++ "errors.errorString" = "*errors.errorString" :=by decide
theorem JV (u:TypeId) (h:Tryz.prog.typeName? 3 u=some "*errors.errorString"):u=328:=
 typeName_ptr_named (nm:= "errors.errorString") (by rw [QB];kernel_rfl) (by kernel_rfl) (by decide) u (by rw [QB];exact h)
theorem JW {W:World} (h:W.ShapedOpen Tryz.prog) (hL:laidMetH Tryz.prog oR W):GlobU W:=by
 rw [MakeChecks.laidMetH_plain _ _ _ (by kernel_rfl)] at hL;have hL1:=laidMet.tail (laidMet.tail hL);have ht:Lib.TabIs Tryz.prog W "internal/strconv.uint64pow10" .u64 Lib.pow10Tab:=
  Lib.tabIs_of_head NL (by kernel_rfl) Tryz.underlying318 Tryz.underlying290 (by kernel_rfl) (by kernel_rfl) (MN▸hL1)
 have hL2:=laidMet.tail (laidMet.tail hL1);obtain ⟨a0,s0,hv0,_,_,_⟩:=laid_sentinel (g:=1) (ti:=253) (tp:=328) (te:=330) (ts:=9) hL2 No (by kernel_rfl) Tryz.underlying253 JV Tryz.underlying328 Tryz.underlying330 rfl rfl Tryz.underlying9 (by kernel_rfl) (by kernel_rfl);obtain ⟨a1,s1,hv1,_,_,_⟩:=laid_sentinel (g:=0) (ti:=253) (tp:=328) (te:=330) (ts:=9) (laidMet.tail hL2) Np (by kernel_rfl) Tryz.underlying253 JV Tryz.underlying328 Tryz.underlying330 rfl rfl Tryz.underlying9 (by kernel_rfl) (by kernel_rfl);have c0:=World.var?_cell No hv0 0;have c1:=World.var?_cell Np hv1 0;exact ⟨⟨MM h,ht,World.block_lt_of_cell? W _ (ht.cell NL 0 (by decide))⟩,⟨_,by simpa using c1, .inr ⟨_,_,rfl⟩⟩,⟨_,by simpa using c0, .inr ⟨_,_,rfl⟩⟩⟩
end Go.Proofs.YtenilpdfpmdhmaaGreatDoor
namespace Yk
open Go Go.RowKit Go.ChangeShapes Go.WideShapes
section
variable {H:Type} {enc:TypeId×Value->H} {P:Program} {w:World} {base b0:Nat} {spare:Nat->Bool} {held:Bool} {r:Reach} {v:Value} {d:DataW H} {ps:List MemPlace}
theorem Dk {e:TypeId} {k:IntKind} {m:Nat} (he:P.underlying e=some (.int k)): ∀ (cs:List Value) (xs:List (DataW H×List MemPlace)),cs.length=xs.length->
 (∀ i,i<xs.length->DataW.trod enc P w base spare held m e ((cs.drop i).take 1)=xs[i]?)-> ∃ zs:List Int,cs=zs.map (Value.int k)/\ ∀ z∈zs,(Lit.int k z).wf=true
 | [], [],_,_=>⟨[],rfl,by simp⟩
 |c::cs,x::xs,hl,h=>by
  have h0:=h 0 (by simp);simp only [List.drop_zero,List.take_succ_cons,List.take_zero,List.getElem?_cons_zero] at h0;obtain ⟨z,e1,_,wz⟩:=DataW.trod_int he h0;obtain ⟨zs,i1,i3⟩:=Dk he cs xs (by simpa using hl) (fun i hi=>by have:=h (i+1) (by simpa using hi);simpa using this);refine ⟨z::zs, ?_, ?_⟩
  ·simp only [List.cons.injEq,and_true] at e1;rw [e1,i1];rfl
  ·intro y hy;rcases List.mem_cons.1 hy with rfl|hy
   ·exact wz
   ·exact i3 y hy
theorem FG {t e:TypeId} {n:Nat} {k:IntKind} (ht:P.underlying t=some (.array n e)) (he:P.underlying e=some (.int k)) (ce:P.cellsOf e=1) (ct:P.cellsOf t=n)
 (hval:Value.okWide P w r b0 t v) (hd:DataW.Trod enc P w base spare held t v d ps): ∃ zs:List Int,v= .agg (zs.map (Value.int k)).toArray/\zs.length=n/\ ∀ z∈zs,(Lit.int k z).wf=true:=by
 simp only [Value.okWide,ht] at hval;obtain ⟨cs,rfl,hcs,_⟩:=hval;obtain ⟨fuel,hf⟩:=hd;obtain ⟨xs,m,_,_,hl,hn,hel⟩:=DataW.trod_array ht hf;rw [ce] at hel;simp only [Value.cells,Nat.mul_one] at hel hl;obtain ⟨zs,h1,h2⟩:=Dk he cs.toList xs (by rw [hl,hn,ct]) (fun i hi=>hel i (by omega));refine ⟨zs,by rw [<- h1], ?_,h2⟩;have:=congrArg List.length h1;rw [List.length_map] at this;omega
theorem ki {z:Int} (h:(Lit.int .i64 z).wf=true): -9223372036854775808<=z/\z<=9223372036854775807:=bounds_i64 h
theorem BR {t e:TypeId} (ht:P.underlying t=some (.array 2 e)) (he:P.underlying e=some (.int .i64)) (ce:P.cellsOf e=1) (ct:P.cellsOf t=2)
 (hval:Value.okWide P w r b0 t v) (hd:DataW.Trod enc P w base spare held t v d ps): ∃ x0 x1:Int,v= .agg #[.int .i64 x0, .int .i64 x1]/\
   (-9223372036854775808<=x0/\x0<=9223372036854775807)/\(-9223372036854775808<=x1/\x1<=9223372036854775807):=by
 obtain ⟨zs,rfl,hl,hw⟩:=FG ht he ce ct hval hd
 match zs,hl,hw with
 | [x0,x1],_,hw=>exact ⟨x0,x1,rfl,ki (hw x0 (by simp)),ki (hw x1 (by simp))⟩
end
theorem wd {H:Type} {enc:TypeId×Value->H} {P:Program} (hl:laidOutB P=true) {W W':World} (hb:Below W.heap.size W W'): ∀ (ts:List TypeId) (vs:List Value) (ds:List (DataW H)) (p:List MemPlace),
 (∀ t∈ts,P.readableRec t=true/\t<P.types.size)->(∀ x∈p,x.block<W.heap.size)->DataW.TrodAll enc P W 0 (fun _=>true) true ts vs ds p->DataW.TrodAll enc P W' 0 (fun b=>decide (b<W.heap.size)) true ts vs ds p
 | [], [], [],_,_,_,h=>h
 |t::ts,v::vs,d::ds,_,hr,hp,h=>by
  obtain ⟨p,q,h1,h2,rfl⟩:=h;exact ⟨p,q,Below.trod hl (hr t (by simp)).1 (hr t (by simp)).2 h1 hb (fun x hx=>hp x (by simp [hx])),wd hl hb ts vs ds q (fun t ht=>hr t (by simp [ht])) (fun x hx=>hp x (by simp [hx])) h2,rfl⟩
 | [], [],_::_,_,_,_,h=>h.elim
 | [],_::_,_,_,_,_,h=>h.elim
 |_::_, [],_,_,_,_,h=>h.elim
 |_::_,_::_, [],_,_,_,h=>h.elim
end Yk
